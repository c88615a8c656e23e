/-
  Models of functions, and their walks: printed by a program of our own (wip/mxo.py).
  Models of functions, and their walks: printed by a program of our own (wip/mxo.py).
-/
import Derived.Test.YtiiiokblnnlapaaGreatDoorRJLG
import Derived.Test.YtiiiokblnnlapaaGreatDoorRGLG
namespace Go.Proofs.YtiiiokblnnlapaaGreatDoor
open Go.RowKit
set_option maxRecDepth 10000
set_option maxHeartbeats 1600000
theorem kE92:elB Tryz.prog 92 173 5 56=true:=by kernel_rfl
theorem kE28:elB Tryz.prog 28 94 6 80=true:=by kernel_rfl
theorem kZ30:xF Tryz.prog 30=some zcTree:=by kernel_rfl
theorem kS36:slB Tryz.prog 36 1=true:=by kernel_rfl
open Go.RowKit
set_option maxRecDepth 10000
set_option maxHeartbeats 1600000
open Go.RowKit
set_option maxRecDepth 10000
set_option maxHeartbeats 1600000
theorem kN95:fnB Tryz.prog 95=true:=by kernel_rfl
theorem kN175:fnB Tryz.prog 175=true:=by kernel_rfl
theorem kN213:fnB Tryz.prog 213=true:=by kernel_rfl
theorem kN176:fnB Tryz.prog 176=true:=by kernel_rfl
theorem kN203:fnB Tryz.prog 203=true:=by kernel_rfl
theorem kN160:fnB Tryz.prog 160=true:=by kernel_rfl
theorem kN100:fnB Tryz.prog 100=true:=by kernel_rfl
theorem kN98:fnB Tryz.prog 98=true:=by kernel_rfl
theorem kN99:fnB Tryz.prog 99=true:=by kernel_rfl
theorem kN36:fnB Tryz.prog 36=true:=by kernel_rfl
theorem kN102:fnB Tryz.prog 102=true:=by kernel_rfl
theorem kN104:fnB Tryz.prog 104=true:=by kernel_rfl
theorem kN93:fnB Tryz.prog 93=true:=by kernel_rfl
theorem kN103:fnB Tryz.prog 103=true:=by kernel_rfl
theorem kN91:fnB Tryz.prog 91=true:=by kernel_rfl
theorem kN39:fnB Tryz.prog 39=true:=by kernel_rfl
theorem kN94:fnB Tryz.prog 94=true:=by kernel_rfl
theorem kN96:fnB Tryz.prog 96=true:=by kernel_rfl
theorem kN97:fnB Tryz.prog 97=true:=by kernel_rfl
theorem kN37:fnB Tryz.prog 37=true:=by kernel_rfl
def jq(v12:List Str)(s17:(List Str)×Int):Option (((List Str)×Int)⊕(List Str)):=
if(cmpI .lss s17.2 (v12.length:Int))=true then(Option.bind (α:=(List Str)) ((atI v12 s17.2).bind λ v23=>
(xT s17.1 v23).bind λ v24=>
if(!v24)=true then((atI v12 s17.2).bind λ v30=>
(appO 16 s17.1 ([v30]:List Str)).bind λ v35=>
some v35)
else(some s17.1)) λ o22=>
(i64 (s17.2+(1:Int))).bind λ v39=>
some (.inl (o22,v39)))
else(some (.inr s17.1))
def jr(x0:List Str)(s5:(List Str)×Int):Option (((List Str)×Int)⊕(List Str)):=
if(cmpI .lss s5.2 (x0.length:Int))=true then(Option.bind (α:=(List Str)) ((atI x0 s5.2).bind λ v11=>
(qY v11).bind λ v12=>
zL (λ s17=>jq v12 s17) (s5.1,(0:Int))) λ o10=>
(i64 (s5.2+(1:Int))).bind λ v44=>
some (.inl (o10,v44)))
else(some (.inr s5.1))
def ZD(x0:List Str):Option (List Str):=
Option.bind (α:=(List Str)) (zL (λ s5=>jr x0 s5) ([],(0:Int))) λ o3=>
some o3
theorem spec_full_w{x0:List Str}{r:List Str}(h:ZD x0=some r):FnOwn Tryz.prog 203 [dt x0] 9 r:=by
 unfold ZD at h
 refine fnxO (fn:=Tryz.f203) 1 Tryz.func203 rfl (of_decide_eq_true rfl) rfl (λ M w0 a0 st0=>?_)
 refine st0.sq0 (sc rfl (oA rfl (xE (α:=Str) (e:=9)))<|.nil) [0] rfl (λ a1 w1 st1=>?_)
 refine st1.sq (sc rfl (wQ (α:=Str) (e:=9) rfl kS39)<|sc rfl (oA rfl (tp rfl))<|.nil) [0] rfl [(3,0)] rfl ⟨iE,trivial⟩ (λ a2 w2 st2=>?_)
 obtain⟨o3,p3,k3⟩:=bs h
 refine zo (λ a w=>∃ M1 q3_0,Sx (Frm.of w0) 40 M M1 [oneB q3_0] [] [(3,0,dtip q3_0 9 o3)] a w) ?_ ?_
 ·
  refine st2.sq (sc rfl (oA rfl cI)<|.nil) [0,4] rfl [(3,0)] rfl ⟨iE,trivial⟩ (λ a4 w4 st4=>?_)
  refine wp_block ?_
  refine zI p3 (λ s5 a w=>∃ M1 q5_0,Sx (Frm.of w0) 40 M M1 [oneB q5_0] [(0,dt x0),(4,dt s5.2)] [(3,0,dtip q5_0 9 s5.1)] a w) ⟨_,_,st4.sel [0,4] rfl [(3,0)] rfl ⟨iE,trivial⟩⟩ ?_
  rintro s5 z5 a5 w5 ⟨M5,q5_0,st5⟩ hs5 hx5
  have h6:jr x0 s5=some z5:=hs5
  unfold jr at h6
  refine wp_seq ?_
  refine st5.sq (sc rfl (oM rfl (tp rfl))<|sc rfl (oM rfl (tp rfl))<|sc rfl (zK rfl kL39 (tp rfl))<|sc rfl (oCI rfl (tp rfl) (tp rfl))<|.nil) [0,4,11] rfl [(3,0)] rfl ⟨iI,trivial⟩ (λ a7 w7 st7=>?_)
  refine st7.cs (c:=11) rfl h6 (λ c8 h8=>?_) (λ c9 h9=>?_)
  ·
   refine wp_skip (za ?_)
   obtain⟨o10,p10,k10⟩:=bs h8
   refine zo (λ a w=>∃ M1 q10_0,Sx (Frm.of w0) 40 M M1 [oneB q10_0] [(0,dt x0),(4,dt s5.2)] [(3,0,dtip q10_0 9 o10)] a w) ?_ ?_
   ·
    refine wp_block ?_
    obtain⟨v11,p11,h13⟩:=bs p10
    obtain⟨v12,p12,h14⟩:=bs h13
    refine st7.sq (sc rfl (oM rfl (tp rfl))<|sc rfl (oM rfl (tp rfl))<|sc rfl (xIdx rfl kS39 (tp rfl) (tp rfl) p11)<|sc rfl (zf rfl kT9 (tp rfl))<|sc rfl (zi (l:=[.tmp 17]) rfl kN95 (.cons (tp rfl) .nil) (Jk p12))<|sc rfl (oA rfl (tp rfl))<|.nil) [0,4,5] rfl [(3,0)] rfl ⟨iI,trivial⟩ (λ a15 w15 st15=>?_)
    refine st15.sq (sc rfl (oA rfl cI)<|.nil) [0,4,5,6] rfl [(3,0)] rfl ⟨iI,trivial⟩ (λ a16 w16 st16=>?_)
    refine wp_block ?_
    refine zI h14 (λ s17 a w=>∃ M1 q17_0,Sx (Frm.of w0) 40 M M1 [oneB q17_0] [(0,dt x0),(4,dt s5.2),(5,dt v12),(6,dt s17.2)] [(3,0,dtip q17_0 9 s17.1)] a w) ⟨_,_,st16.sel [0,4,5,6] rfl [(3,0)] rfl ⟨iI,trivial⟩⟩ ?_
    rintro s17 z17 a17 w17 ⟨M17,q17_0,st17⟩ hs17 hx17
    have h18:jq v12 s17=some z17:=hs17
    unfold jq at h18
    refine wp_seq ?_
    refine st17.sq (sc rfl (oM rfl (tp rfl))<|sc rfl (oM rfl (tp rfl))<|sc rfl (zK rfl kL39 (tp rfl))<|sc rfl (oCI rfl (tp rfl) (tp rfl))<|.nil) [0,4,5,6,22] rfl [(3,0)] rfl ⟨iI,trivial⟩ (λ a19 w19 st19=>?_)
    refine st19.cs (c:=22) rfl h18 (λ c20 h20=>?_) (λ c21 h21=>?_)
    ·
     refine wp_skip (za ?_)
     obtain⟨o22,p22,k22⟩:=bs h20
     refine zo (λ a w=>∃ M1 q22_0,Sx (Frm.of w0) 40 M M1 [oneB q22_0] [(0,dt x0),(4,dt s5.2),(5,dt v12),(6,dt s17.2)] [(3,0,dtip q22_0 9 o22)] a w) ?_ ?_
     ·
      refine wp_block ?_
      obtain⟨v23,p23,h25⟩:=bs p22
      obtain⟨v24,p24,h26⟩:=bs h25
      refine st19.sq (sc rfl (oM rfl (tp rfl))<|sc rfl (oM rfl (tp rfl))<|sc rfl (oM rfl (tp rfl))<|sc rfl (xIdx rfl kS39 (tp rfl) (tp rfl) p23)<|sc rfl (zf rfl kT9 (tp rfl))<|sc rfl (YK (l:=[.tmp 25,.tmp 29]) st19.ob.sub rfl kN109 (.cons (borrow st19.ob 0 rfl (tp rfl)) (.cons (WX st19.ob.sub (tp rfl)) .nil)) (qS p24) YI)<|sc rfl (yc rfl (tp rfl))<|.nil) [0,4,5,6,31] rfl [(3,0)] rfl ⟨iI,trivial⟩ (λ a27 w27 st27=>?_)
      refine st27.cs (c:=31) rfl h26 (λ c28 h28=>?_) (λ c29 h29=>?_)
      ·
       refine wp_region_list ?_
       obtain⟨v30,p30,h31⟩:=bs h28
       refine st27.seg 6 (
          sc rfl (oM rfl (tp rfl))<|sc rfl (oM rfl (tp rfl))<|sc rfl (oM rfl (tp rfl))<|sc rfl (xIdx rfl kS39 (tp rfl) (tp rfl) p30)<|sc rfl (zf rfl kT9 (tp rfl))<|sc rfl (ya (opds:=[.tmp 36]) rfl kS39 kY39 rfl rfl (by decide) (.cons (tp rfl) .nil))<|.nil) [0,4,5,6,37] rfl [(3,0),(32,0)] rfl ⟨iI,⟨iI,trivial⟩⟩ (λ a32 w32 st32=>?_)
       obtain⟨v35,p35,h36⟩:=bs h31
       refine st32.app 0 rfl rfl kE39 rfl rfl rfl wi p35 [0,4,5,6] rfl [] rfl rfl (λ g34 M34 a34 w34 st34=>?_)
       refine st34.seg 1 (
          sc rfl (oA rfl (tp rfl))<|.nil) [0,4,5,6] rfl [(3,0)] rfl ⟨iI,trivial⟩ (λ a37 w37 st37=>?_)
       refine wpList_nil (zk (za ?_))
       obtain rfl:=Option.some.inj h36
       exact⟨_,_,st37.sel [0,4,5,6] rfl [(3,0)] rfl ⟨iI,trivial⟩⟩
      ·
       refine wp_skip (zk (za ?_))
       obtain rfl:=Option.some.inj h29
       exact⟨_,_,st27.sel [0,4,5,6] rfl [(3,0)] rfl ⟨iI,trivial⟩⟩
     ·
      rintro a22 w22 ⟨M22,q22_0,st22⟩
      have h38:=k22
      obtain⟨v39,p39,h40⟩:=bs h38
      refine st22.rg (sc rfl (oM rfl (tp rfl))<|sc rfl (xAr rfl (tp rfl) cI p39)<|sc rfl (oA rfl (tp rfl))<|.nil) [0,4,5,6] rfl [(3,0)] rfl ⟨iI,trivial⟩ (λ a41 w41 st41=>?_)
      refine za ?_
      exact⟨_,(Option.some.inj h40).symm,⟨_,_,st41.sel [0,4,5,6] rfl [(3,0)] rfl ⟨iI,trivial⟩⟩⟩
    ·
     refine wp_exit (zm (zm (zC ?_)))
     refine zk (za ?_)
     have h42:=lo h21 hx17
     obtain rfl:=Option.some.inj h42
     exact⟨_,_,st19.sel [0,4] rfl [(3,0)] rfl ⟨iI,trivial⟩⟩
   ·
    rintro a10 w10 ⟨M10,q10_0,st10⟩
    have h43:=k10
    obtain⟨v44,p44,h45⟩:=bs h43
    refine st10.rg (sc rfl (oM rfl (tp rfl))<|sc rfl (xAr rfl (tp rfl) cI p44)<|sc rfl (oA rfl (tp rfl))<|.nil) [0,4] rfl [(3,0)] rfl ⟨iI,trivial⟩ (λ a46 w46 st46=>?_)
    refine za ?_
    exact⟨_,(Option.some.inj h45).symm,⟨_,_,st46.sel [0,4] rfl [(3,0)] rfl ⟨iI,trivial⟩⟩⟩
  ·
   refine wp_exit (zm (zm (zC ?_)))
   refine za ?_
   have h47:=lo h9 hx5
   obtain rfl:=Option.some.inj h47
   exact⟨_,_,st7.sel [] rfl [(3,0)] rfl ⟨iI,trivial⟩⟩
 ·
  rintro a3 w3 ⟨M3,q3_0,st3⟩
  have h48:=k3
  refine st3.sq (sc rfl (oM rfl (tp rfl))<|sc rfl (oA rfl (tp rfl))<|.nil) [] rfl [(2,0)] rfl ⟨iI,trivial⟩ (λ a49 w49 st49=>?_)
  refine wp_ret ?_
  exact st49.ret_own 0 rfl rfl iI h48
def wd(o8:Str)(v16:File)(s21:(List Str)×Int):Option (((List Str)×Int)⊕(List Str)):=
if(cmpI .lss s21.2 (v16.body.length:Int))=true then(Option.bind (α:=(List Str)) (Option.bind (α:=Str) ((atI v16.body s21.2).bind λ v29=>
Option.bind (α:=Bool) (if(cmpI .eql v29.kind (0:Int))=true then(some (cmpI .eql v29.kind (0:Int)))
else(some (cmpI .eql v29.kind (2:Int)))) λ o32=>
if o32=true then((atI v16.body s21.2).bind λ v40=>
some v40.module)
else(if(cmpI .eql v29.kind (1:Int))=true then((atI v16.body s21.2).bind λ v46=>
(atI v16.body s21.2).bind λ v47=>
(jp o8 v46.level v47.module).bind λ v48=>
some v48)
else(some (⟨[]⟩:Str)))) λ o28=>
(y8 o28).bind λ v54=>
(gO (v54 == true) (xT s21.1 o28)).bind λ v55=>
if(v54&&(!v55))=true then((appO 16 s21.1 ([o28]:List Str)).bind λ v64=>
some v64)
else(some s21.1)) λ o26=>
(i64 (s21.2+(1:Int))).bind λ v68=>
some (.inl (o26,v68)))
else(some (.inr s21.1))
def ZX(x0:Tree)(_x1:List Int)(x2:Str)(x3:Spec):Option (List Str):=
if(cmpI .lss x3.file (0:Int))=true then(some [])
else(Option.bind (α:=Str) (if(cmpI .eql x3.kind (1:Int))=true then((xP x2).bind λ v12=>
some v12)
else(some x2)) λ o8=>
(atI x0.files x3.file).bind λ v16=>
Option.bind (α:=(List Str)) (zL (λ s21=>wd o8 v16 s21) ([],(0:Int))) λ o19=>
some o19)
theorem spec_needs_w{x0:Tree}{x1:List Int}{x2:Str}{x3:Spec}{r:List Str}(h:ZX x0 x1 x2 x3=some r):FnOwn Tryz.prog 213 [dt x0,dt x1,dt x2,dt x3] 9 r:=by
 unfold ZX at h
 refine fnxO (fn:=Tryz.f213) 1 Tryz.func213 rfl (of_decide_eq_true rfl) rfl (λ M w0 a0 st0=>?_)
 refine st0.sq0 (sc rfl (yw rfl (tp rfl))<|sc rfl (yw rfl (tp rfl))<|sc rfl (oA rfl (xE (α:=Str) (e:=9)))<|.nil) [2,4,7] rfl (λ a1 w1 st1=>?_)
 refine st1.sq (sc rfl (wQ (α:=Str) (e:=9) rfl kS39)<|sc rfl (oA rfl (tp rfl))<|.nil) [2,4,7] rfl [(9,0)] rfl ⟨iE,trivial⟩ (λ a2 w2 st2=>?_)
 refine wp_seq ?_
 refine st2.sq (sc rfl (zn Spec.fld1 rfl kF119_1 (tp rfl))<|sc rfl (zf rfl kT3 (tp rfl))<|sc rfl (oCI rfl (tp rfl) cI)<|.nil) [2,4,7,17] rfl [(9,0)] rfl ⟨iE,trivial⟩ (λ a3 w3 st3=>?_)
 refine st3.cs (c:=17) rfl h (λ c4 h4=>?_) (λ c5 h5=>?_)
 ·
  refine st3.sq (sc rfl (oM rfl (tp rfl))<|sc rfl (oA rfl (tp rfl))<|.nil) [] rfl [(8,0)] rfl ⟨iE,trivial⟩ (λ a6 w6 st6=>?_)
  refine wp_ret (zh ?_)
  exact st6.ret_own 0 rfl rfl iE h4
 ·
  refine wp_skip (za ?_)
  refine st3.sq (sc rfl (oM rfl (tp rfl))<|sc rfl (oA rfl (tp rfl))<|.nil) [2,4,7,10] rfl [(9,0)] rfl ⟨iE,trivial⟩ (λ a7 w7 st7=>?_)
  obtain⟨o8,p8,k8⟩:=bs h5
  refine zo (λ a w=>∃ M1 q8_0,Sx (Frm.of w0) 78 M M1 [oneB q8_0] [(4,dptr x0),(7,dptr x3),(10,dt o8)] [(9,0,dtip q8_0 9 ([]:List Str))] a w) ?_ ?_
  ·
   refine st7.sq (sc rfl (zn Spec.fld0 rfl kF119_0 (tp rfl))<|sc rfl (zf rfl kT3 (tp rfl))<|sc rfl (oCI rfl (tp rfl) cI)<|.nil) [2,4,7,10,22] rfl [(9,0)] rfl ⟨iE,trivial⟩ (λ a9 w9 st9=>?_)
   refine st9.cs (c:=22) rfl p8 (λ c10 h10=>?_) (λ c11 h11=>?_)
   ·
    obtain⟨v12,p12,h13⟩:=bs h10
    refine st9.rg (sc rfl (oM rfl (tp rfl))<|sc rfl (zi (l:=[.tmp 23]) rfl kN157 (.cons (tp rfl) .nil) (YA p12))<|sc rfl (oA rfl (tp rfl))<|.nil) [4,7,10] rfl [(9,0)] rfl ⟨iE,trivial⟩ (λ a14 w14 st14=>?_)
    refine za ?_
    obtain rfl:=Option.some.inj h13
    exact⟨_,_,st14.sel [4,7,10] rfl [(9,0)] rfl ⟨iE,trivial⟩⟩
   ·
    refine wp_skip (za ?_)
    obtain rfl:=Option.some.inj h11
    exact⟨_,_,st9.sel [4,7,10] rfl [(9,0)] rfl ⟨iE,trivial⟩⟩
  ·
   rintro a8 w8 ⟨M8,q8_0,st8⟩
   have h15:=k8
   obtain⟨v16,p16,h17⟩:=bs h15
   refine st8.sq (sc rfl (zn Tree.fld0 rfl wz (tp rfl))<|sc rfl (zf rfl kT28 (tp rfl))<|sc rfl (zn Spec.fld1 rfl kF119_1 (tp rfl))<|sc rfl (zf rfl kT3 (tp rfl))<|sc rfl (xIdx rfl kS28 (tp rfl) (tp rfl) p16)<|sc rfl (zn File.fld5 rfl Yb (tp rfl))<|sc rfl (zf rfl kT92 (tp rfl))<|sc rfl (oA rfl (tp rfl))<|.nil) [10,11] rfl [(9,0)] rfl ⟨iI,trivial⟩ (λ a18 w18 st18=>?_)
   obtain⟨o19,p19,k19⟩:=bs h17
   refine zo (λ a w=>∃ M1 q19_0,Sx (Frm.of w0) 78 M M1 [oneB q19_0] [] [(9,0,dtip q19_0 9 o19)] a w) ?_ ?_
   ·
    refine st18.sq (sc rfl (oA rfl cI)<|.nil) [10,11,12] rfl [(9,0)] rfl ⟨iI,trivial⟩ (λ a20 w20 st20=>?_)
    refine wp_block ?_
    refine zI p19 (λ s21 a w=>∃ M1 q21_0,Sx (Frm.of w0) 78 M M1 [oneB q21_0] [(10,dt o8),(11,dt v16.body),(12,dt s21.2)] [(9,0,dtip q21_0 9 s21.1)] a w) ⟨_,_,st20.sel [10,11,12] rfl [(9,0)] rfl ⟨iI,trivial⟩⟩ ?_
    rintro s21 z21 a21 w21 ⟨M21,q21_0,st21⟩ hs21 hx21
    have h22:wd o8 v16 s21=some z21:=hs21
    unfold wd at h22
    refine wp_seq ?_
    refine st21.sq (sc rfl (oM rfl (tp rfl))<|sc rfl (oM rfl (tp rfl))<|sc rfl (zK rfl kL92 (tp rfl))<|sc rfl (oCI rfl (tp rfl) (tp rfl))<|.nil) [10,11,12,35] rfl [(9,0)] rfl ⟨iI,trivial⟩ (λ a23 w23 st23=>?_)
    refine st23.cs (c:=35) rfl h22 (λ c24 h24=>?_) (λ c25 h25=>?_)
    ·
     refine wp_skip (za ?_)
     obtain⟨o26,p26,k26⟩:=bs h24
     refine zo (λ a w=>∃ M1 q26_0,Sx (Frm.of w0) 78 M M1 [oneB q26_0] [(10,dt o8),(11,dt v16.body),(12,dt s21.2)] [(9,0,dtip q26_0 9 o26)] a w) ?_ ?_
     ·
      refine wp_block ?_
      refine st23.sq (sc rfl (oA rfl (zv (by decide)))<|.nil) [10,11,12,13] rfl [(9,0)] rfl ⟨iI,trivial⟩ (λ a27 w27 st27=>?_)
      obtain⟨o28,p28,k28⟩:=bs p26
      refine zo (λ a w=>∃ M1 q28_0,Sx (Frm.of w0) 78 M M1 [oneB q28_0] [(10,dt o8),(11,dt v16.body),(12,dt s21.2),(13,dt o28)] [(9,0,dtip q28_0 9 s21.1)] a w) ?_ ?_
      ·
       obtain⟨v29,p29,h30⟩:=bs p28
       refine st27.sq (sc rfl (oM rfl (tp rfl))<|sc rfl (oM rfl (tp rfl))<|sc rfl (xIdx rfl kS92 (tp rfl) (tp rfl) p29)<|sc rfl (zn Stmt.fld0 rfl Y5 (tp rfl))<|sc rfl (zf rfl kT3 (tp rfl))<|.nil) [10,11,12,13,42] rfl [(9,0)] rfl ⟨iI,trivial⟩ (λ a31 w31 st31=>?_)
       refine wp_block ?_
       obtain⟨o32,p32,k32⟩:=bs h30
       refine zo (λ a w=>∃ M1 q32_0,Sx (Frm.of w0) 78 M M1 [oneB q32_0] [(10,dt o8),(11,dt v16.body),(12,dt s21.2),(13,dt (⟨[]⟩:Str)),(42,dt v29.kind),(43,dt o32)] [(9,0,dtip q32_0 9 s21.1)] a w) ?_ ?_
       ·
        refine st31.sq (sc rfl (oCI rfl (tp rfl) cI)<|sc rfl (oA rfl (tp rfl))<|.nil) [10,11,12,13,42,43] rfl [(9,0)] rfl ⟨iI,trivial⟩ (λ a33 w33 st33=>?_)
        refine st33.cs (c:=43) rfl p32 (λ c34 h34=>?_) (λ c35 h35=>?_)
        ·
         refine wp_skip (za ?_)
         obtain rfl:=Option.some.inj h34
         exact⟨_,_,st33.sel [10,11,12,13,42,43] rfl [(9,0)] rfl ⟨iI,trivial⟩⟩
        ·
         refine st33.rg (sc rfl (oCI rfl (tp rfl) cI)<|sc rfl (oA rfl (tp rfl))<|.nil) [10,11,12,13,42,43] rfl [(9,0)] rfl ⟨iI,trivial⟩ (λ a36 w36 st36=>?_)
         refine za ?_
         obtain rfl:=Option.some.inj h35
         exact⟨_,_,st36.sel [10,11,12,13,42,43] rfl [(9,0)] rfl ⟨iI,trivial⟩⟩
       ·
        rintro a32 w32 ⟨M32,q32_0,st32⟩
        have h37:=k32
        refine st32.cs (c:=43) rfl h37 (λ c38 h38=>?_) (λ c39 h39=>?_)
        ·
         obtain⟨v40,p40,h41⟩:=bs h38
         refine st32.rg (sc rfl (oM rfl (tp rfl))<|sc rfl (oM rfl (tp rfl))<|sc rfl (xIdx rfl kS92 (tp rfl) (tp rfl) p40)<|sc rfl (zn Stmt.fld1 rfl ZV (tp rfl))<|sc rfl (zf rfl kT9 (tp rfl))<|sc rfl (oA rfl (tp rfl))<|.nil) [10,11,12,13] rfl [(9,0)] rfl ⟨iI,trivial⟩ (λ a42 w42 st42=>?_)
         refine zk (za ?_)
         obtain rfl:=Option.some.inj h41
         exact⟨_,_,st42.sel [10,11,12,13] rfl [(9,0)] rfl ⟨iI,trivial⟩⟩
        ·
         refine st32.sq (sc rfl (oCI rfl (tp rfl) cI)<|sc rfl (oA rfl (tp rfl))<|.nil) [10,11,12,13,51] rfl [(9,0)] rfl ⟨iI,trivial⟩ (λ a43 w43 st43=>?_)
         refine st43.cs (c:=51) rfl h39 (λ c44 h44=>?_) (λ c45 h45=>?_)
         ·
          obtain⟨v46,p46,h49⟩:=bs h44
          obtain⟨v47,p47,h50⟩:=bs h49
          obtain⟨v48,p48,h51⟩:=bs h50
          refine st43.dr (D:=[_,_,_,_,_,_,_,_,_,_,_,_,_]) zR [[],[],[],[1,2],[1,2,3],[1,2,3,4],[],[],[6,7],[6,7,8],[6,7,8,9],[0,1,2,3,4,5,6,7,8,9,10],[0,1,2,3,4,5,6,7,8,9,10,11]] [[(10,none)],[(11,none)],[(12,none)],[(54,some 1),(55,some 2)],[(56,some 3)],[(57,some 4)],[(11,none)],[(12,none)],[(59,some 6),(60,some 7)],[(61,some 8)],[(62,some 9)],[(53,some 0),(58,some 5),(63,some 10)],[(64,some 11)]] (by decide +kernel) (
           rc rfl rfl (oM rfl (tp rfl))<|rc rfl rfl (oM rfl (tp rfl))<|rc rfl rfl (oM rfl (tp rfl))<|rc rfl rfl (xIdx rfl kS92 (tp rfl) (tp rfl) p46)<|rc rfl rfl (zn Stmt.fld2 rfl kF173_2 (tp rfl))<|rc rfl rfl (zf rfl kT3 (tp rfl))<|rc rfl rfl (oM rfl (tp rfl))<|rc rfl rfl (oM rfl (tp rfl))<|rc rfl rfl (xIdx rfl kS92 (tp rfl) (tp rfl) p47)<|rc rfl rfl (zn Stmt.fld1 rfl ZV (tp rfl))<|rc rfl rfl (zf rfl kT9 (tp rfl))<|rc rfl rfl (zi (l:=[.tmp 53,.tmp 58,.tmp 63]) rfl kN248 (.cons (tp rfl) (.cons (tp rfl) (.cons (tp rfl) .nil))) (Qz p48))<|rc rfl rfl (oA rfl (tp rfl))<|.nil) [10,11,12,13] rfl [(9,0)] rfl ⟨iI,trivial⟩ (λ a52 w52 st52=>?_)
          refine zk (za ?_)
          obtain rfl:=Option.some.inj h51
          exact⟨_,_,st52.sel [10,11,12,13] rfl [(9,0)] rfl ⟨iI,trivial⟩⟩
         ·
          refine wp_skip (zk (za ?_))
          obtain rfl:=Option.some.inj h45
          exact⟨_,_,st43.sel [10,11,12,13] rfl [(9,0)] rfl ⟨iI,trivial⟩⟩
      ·
       rintro a28 w28 ⟨M28,q28_0,st28⟩
       have h53:=k28
       obtain⟨v54,p54,h56⟩:=bs h53
       obtain⟨v55,p55,h57⟩:=bs h56
       refine st28.sq (sc rfl (oM rfl (tp rfl))<|sc rfl (zi (l:=[.tmp 65]) rfl kN75 (.cons (tp rfl) .nil) (Zi p54))<|sc rfl (oM rfl (tp rfl))<|sg rfl rfl (λ hg=>oM rfl (tp rfl))<|sg rfl rfl (λ hg=>oM rfl (tp rfl))<|sg rfl rfl (λ hg=>YK (l:=[.tmp 68,.tmp 69]) st28.ob.sub rfl kN109 (.cons (borrow st28.ob 0 rfl (zj hg rfl)) (.cons (WX st28.ob.sub (zj hg rfl)) .nil)) (qS (gh hg p55)) YI)<|sg rfl rfl (λ hg=>yc rfl (zj hg rfl))<|sc rfl (zQ rfl (tp rfl) (zb rfl))<|.nil) [10,11,12,13,72] rfl [(9,0)] rfl ⟨iI,trivial⟩ (λ a58 w58 st58=>?_)
       refine st58.cs (c:=72) rfl h57 (λ c59 h59=>?_) (λ c60 h60=>?_)
       ·
        refine wp_region_list ?_
        refine st58.seg 3 (
          sc rfl (oM rfl (tp rfl))<|sc rfl (oM rfl (tp rfl))<|sc rfl (ya (opds:=[.tmp 74]) rfl kS39 kY39 rfl rfl (by decide) (.cons (tp rfl) .nil))<|.nil) [10,11,12,75] rfl [(9,0),(73,0)] rfl ⟨iI,⟨iI,trivial⟩⟩ (λ a61 w61 st61=>?_)
        obtain⟨v64,p64,h65⟩:=bs h59
        refine st61.app 0 rfl rfl kE39 rfl rfl rfl wi p64 [10,11,12] rfl [] rfl rfl (λ g63 M63 a63 w63 st63=>?_)
        refine st63.seg 1 (
          sc rfl (oA rfl (tp rfl))<|.nil) [10,11,12] rfl [(9,0)] rfl ⟨iI,trivial⟩ (λ a66 w66 st66=>?_)
        refine wpList_nil (zk (za ?_))
        obtain rfl:=Option.some.inj h65
        exact⟨_,_,st66.sel [10,11,12] rfl [(9,0)] rfl ⟨iI,trivial⟩⟩
       ·
        refine wp_skip (zk (za ?_))
        obtain rfl:=Option.some.inj h60
        exact⟨_,_,st58.sel [10,11,12] rfl [(9,0)] rfl ⟨iI,trivial⟩⟩
     ·
      rintro a26 w26 ⟨M26,q26_0,st26⟩
      have h67:=k26
      obtain⟨v68,p68,h69⟩:=bs h67
      refine st26.rg (sc rfl (oM rfl (tp rfl))<|sc rfl (xAr rfl (tp rfl) cI p68)<|sc rfl (oA rfl (tp rfl))<|.nil) [10,11,12] rfl [(9,0)] rfl ⟨iI,trivial⟩ (λ a70 w70 st70=>?_)
      refine za ?_
      exact⟨_,(Option.some.inj h69).symm,⟨_,_,st70.sel [10,11,12] rfl [(9,0)] rfl ⟨iI,trivial⟩⟩⟩
    ·
     refine wp_exit (zm (zm (zC ?_)))
     refine za ?_
     have h71:=lo h25 hx21
     obtain rfl:=Option.some.inj h71
     exact⟨_,_,st23.sel [] rfl [(9,0)] rfl ⟨iI,trivial⟩⟩
   ·
    rintro a19 w19 ⟨M19,q19_0,st19⟩
    have h72:=k19
    refine st19.sq (sc rfl (oM rfl (tp rfl))<|sc rfl (oA rfl (tp rfl))<|.nil) [] rfl [(8,0)] rfl ⟨iI,trivial⟩ (λ a73 w73 st73=>?_)
    refine wp_ret ?_
    exact st73.ret_own 0 rfl rfl iI h72
def j2(x0:Tree)(x1:List Int)(x2:Str):Option (List Str):=
(Yq x0 x1 x2).bind λ v2=>
(ZX x0 x1 x2 v2).bind λ v3=>
some v3
theorem QA{x0:Tree}{x1:List Int}{x2:Str}{r:List Str}(h:j2 x0 x1 x2=some r):Fn Tryz.prog 176 [dt x0,dt x1,dt x2] (dt r):=by
 unfold j2 at h
 refine fnx (fn:=Tryz.f176) 0 Tryz.func176 rfl (of_decide_eq_true rfl) rfl (λ M w0 a0 st0=>?_)
 refine st0.sq0 (sc rfl (yw rfl (tp rfl))<|sc rfl (oA rfl (wO (α:=Str)))<|.nil) [1,2,3] rfl (λ a1 w1 st1=>?_)
 refine wp_seq ?_
 obtain⟨v2,p2,h4⟩:=bs h
 obtain⟨v3,p3,h5⟩:=bs h4
 refine st1.dr (D:=[_,_,_,_,_,_,_,_,_]) zR [[],[],[],[],[],[],[3,4,5],[0,1,2,3,4,5,6],[0,1,2,3,4,5,6,7]] [[(3,none)],[(1,none)],[(2,none)],[(3,none)],[(1,none)],[(2,none)],[(10,some 3),(11,some 4),(12,some 5)],[(7,some 0),(8,some 1),(9,some 2),(13,some 6)],[(14,some 7)]] (by decide +kernel) (
  rc rfl rfl (zf rfl kT30 (tp rfl))<|rc rfl rfl (oM rfl (tp rfl))<|rc rfl rfl (oM rfl (tp rfl))<|rc rfl rfl (zf rfl kT30 (tp rfl))<|rc rfl rfl (oM rfl (tp rfl))<|rc rfl rfl (oM rfl (tp rfl))<|rc rfl rfl (zi (l:=[.tmp 10,.tmp 11,.tmp 12]) rfl kN175 (.cons (tp rfl) (.cons (tp rfl) (.cons (tp rfl) .nil))) (spec_find_w p2))<|rc rfl rfl (zi (l:=[.tmp 7,.tmp 8,.tmp 9,.tmp 13]) rfl kN213 (.cons (tp rfl) (.cons (tp rfl) (.cons (tp rfl) (.cons (tp rfl) .nil)))) ((spec_needs_w p3)).fn)<|rc rfl rfl (oA rfl (tp rfl))<|.nil) [6] rfl [] rfl trivial (λ a6 w6 st6=>?_)
 refine za (wp_ret ?_)
 exact st6.ret rfl rfl h5
def qe(x0:Tree)(x1:List Int)(x2:Str):Option (List Str):=
(j2 x0 x1 x2).bind λ v2=>
(ZD v2).bind λ v3=>
some v3
theorem Jl{x0:Tree}{x1:List Int}{x2:Str}{r:List Str}(h:qe x0 x1 x2=some r):Fn Tryz.prog 160 [dt x0,dt x1,dt x2] (dt r):=by
 unfold qe at h
 refine fnx (fn:=Tryz.f160) 0 Tryz.func160 rfl (of_decide_eq_true rfl) rfl (λ M w0 a0 st0=>?_)
 refine st0.sq0 (sc rfl (yw rfl (tp rfl))<|sc rfl (oA rfl (wO (α:=Str)))<|.nil) [1,2,3] rfl (λ a1 w1 st1=>?_)
 obtain⟨v2,p2,h4⟩:=bs h
 obtain⟨v3,p3,h5⟩:=bs h4
 refine st1.sq0 (sc rfl (zf rfl kT30 (tp rfl))<|sc rfl (oM rfl (tp rfl))<|sc rfl (oM rfl (tp rfl))<|sc rfl (zi (l:=[.tmp 7,.tmp 8,.tmp 9]) rfl kN176 (.cons (tp rfl) (.cons (tp rfl) (.cons (tp rfl) .nil))) (QA p2))<|sc rfl (zi (l:=[.tmp 10]) rfl kN203 (.cons (tp rfl) .nil) ((spec_full_w p3)).fn)<|sc rfl (oA rfl (tp rfl))<|.nil) [6] rfl (λ a6 w6 st6=>?_)
 refine wp_ret ?_
 exact st6.ret rfl rfl h5
def qG(v17:List Str)(s22:(List Str)×Int):Option (((List Str)×Int)⊕(List Str)):=
if(cmpI .lss s22.2 (v17.length:Int))=true then(Option.bind (α:=(List Str)) ((atI v17 s22.2).bind λ v28=>
(xT s22.1 v28).bind λ v29=>
if(!v29)=true then((atI v17 s22.2).bind λ v35=>
(appO 16 s22.1 ([v35]:List Str)).bind λ v40=>
some v40)
else(some s22.1)) λ o27=>
(i64 (s22.2+(1:Int))).bind λ v44=>
some (.inl (o27,v44)))
else(some (.inr s22.1))
def wL(x0:Tree)(x1:List Int)(s10:(List Str)×Int):Option (((List Str)×Int)⊕(List Str)):=
if(cmpI .lss s10.2 (s10.1.length:Int))=true then(Option.bind (α:=(List Str)) ((atI s10.1 s10.2).bind λ v16=>
(qe x0 x1 v16).bind λ v17=>
zL (λ s22=>qG v17 s22) (s10.1,(0:Int))) λ o15=>
(i64 (s10.2+(1:Int))).bind λ v49=>
some (.inl (o15,v49)))
else(some (.inr s10.1))
def jy(x0:Tree)(x1:List Int)(x2:List Str):Option (List Str):=
(appO 16 [] x2).bind λ v5=>
Option.bind (α:=(List Str)) (zL (λ s10=>wL x0 x1 s10) (v5,(0:Int))) λ o8=>
some o8
theorem Jm{x0:Tree}{x1:List Int}{x2:List Str}{r:List Str}(h:jy x0 x1 x2=some r):FnOwn Tryz.prog 94 [dt x0,dt x1,dt x2] 9 r:=by
 unfold jy at h
 refine fnxO (fn:=Tryz.f94) 1 Tryz.func94 rfl (of_decide_eq_true rfl) rfl (λ M w0 a0 st0=>?_)
 refine st0.sq0 (sc rfl (yw rfl (tp rfl))<|sc rfl (oA rfl (xE (α:=Str) (e:=9)))<|.nil) [1,2,3] rfl (λ a1 w1 st1=>?_)
 refine wp_seq (wp_region_list ?_)
 refine st1.seg 2 (
  sc rfl (wQ (α:=Str) (e:=9) rfl kS39)<|sc rfl (oM rfl (tp rfl))<|.nil) [1,3,12] rfl [(11,0)] rfl ⟨iE,trivial⟩ (λ a2 w2 st2=>?_)
 obtain⟨v5,p5,h6⟩:=bs h
 refine st2.app 0 rfl rfl kE39 rfl rfl rfl wi p5 [1,3] rfl [] rfl rfl (λ g4 M4 a4 w4 st4=>?_)
 refine st4.seg 1 (
  sc rfl (oA rfl (tp rfl))<|.nil) [1,3] rfl [(7,0)] rfl ⟨iI,trivial⟩ (λ a7 w7 st7=>?_)
 refine wpList_nil (za ?_)
 obtain⟨o8,p8,k8⟩:=bs h6
 refine zo (λ a w=>∃ M1 q8_0,Sx (Frm.of w0) 48 M M1 [oneB q8_0] [] [(7,0,dtip q8_0 9 o8)] a w) ?_ ?_
 ·
  refine st7.sq (sc rfl (oA rfl cI)<|.nil) [1,3,8] rfl [(7,0)] rfl ⟨iI,trivial⟩ (λ a9 w9 st9=>?_)
  refine wp_block ?_
  refine zI p8 (λ s10 a w=>∃ M1 q10_0,Sx (Frm.of w0) 48 M M1 [oneB q10_0] [(1,dt x1),(3,dptr x0),(8,dt s10.2)] [(7,0,dtip q10_0 9 s10.1)] a w) ⟨_,_,st9.sel [1,3,8] rfl [(7,0)] rfl ⟨iI,trivial⟩⟩ ?_
  rintro s10 z10 a10 w10 ⟨M10,q10_0,st10⟩ hs10 hx10
  have h11:wL x0 x1 s10=some z10:=hs10
  unfold wL at h11
  refine wp_seq ?_
  refine st10.sq (sc rfl (oM rfl (tp rfl))<|sc rfl (oM rfl (tp rfl))<|sc rfl (WW rfl kL39 (tp rfl))<|sc rfl (oCI rfl (tp rfl) (tp rfl))<|.nil) [1,3,8,17] rfl [(7,0)] rfl ⟨iI,trivial⟩ (λ a12 w12 st12=>?_)
  refine st12.cs (c:=17) rfl h11 (λ c13 h13=>?_) (λ c14 h14=>?_)
  ·
   refine wp_skip (za ?_)
   obtain⟨o15,p15,k15⟩:=bs h13
   refine zo (λ a w=>∃ M1 q15_0,Sx (Frm.of w0) 48 M M1 [oneB q15_0] [(1,dt x1),(3,dptr x0),(8,dt s10.2)] [(7,0,dtip q15_0 9 o15)] a w) ?_ ?_
   ·
    refine wp_block (wp_seq ?_)
    obtain⟨v16,p16,h18⟩:=bs p15
    obtain⟨v17,p17,h19⟩:=bs h18
    refine st12.dr (D:=[_,_,_,_,_,_,_,_]) zR [[],[],[],[],[2,3],[2,3,4],[0,1,2,3,4,5],[0,1,2,3,4,5,6]] [[(3,none)],[(1,none)],[(7,none)],[(8,none)],[(22,some 2),(23,some 3)],[(24,some 4)],[(20,some 0),(21,some 1),(25,some 5)],[(26,some 6)]] (by decide +kernel) (
     rc rfl rfl (zf rfl kT30 (tp rfl))<|rc rfl rfl (oM rfl (tp rfl))<|rc rfl rfl (oM rfl (tp rfl))<|rc rfl rfl (oM rfl (tp rfl))<|rc rfl rfl (xIdxT rfl kS39 (tp rfl) (tp rfl) p16)<|rc rfl rfl (zH rfl kT9 (tp rfl))<|rc rfl rfl (zi (l:=[.tmp 20,.tmp 21,.tmp 25]) rfl kN160 (.cons (tp rfl) (.cons (tp rfl) (.cons (tp rfl) .nil))) (Jl p17))<|rc rfl rfl (oA rfl (tp rfl))<|.nil) [1,3,8,9] rfl [(7,0)] rfl ⟨iI,trivial⟩ (λ a20 w20 st20=>?_)
    refine za ?_
    refine st20.sq (sc rfl (oA rfl cI)<|.nil) [1,3,8,9,10] rfl [(7,0)] rfl ⟨iI,trivial⟩ (λ a21 w21 st21=>?_)
    refine wp_block ?_
    refine zI h19 (λ s22 a w=>∃ M1 q22_0,Sx (Frm.of w0) 48 M M1 [oneB q22_0] [(1,dt x1),(3,dptr x0),(8,dt s10.2),(9,dt v17),(10,dt s22.2)] [(7,0,dtip q22_0 9 s22.1)] a w) ⟨_,_,st21.sel [1,3,8,9,10] rfl [(7,0)] rfl ⟨iI,trivial⟩⟩ ?_
    rintro s22 z22 a22 w22 ⟨M22,q22_0,st22⟩ hs22 hx22
    have h23:qG v17 s22=some z22:=hs22
    unfold qG at h23
    refine wp_seq ?_
    refine st22.sq (sc rfl (oM rfl (tp rfl))<|sc rfl (oM rfl (tp rfl))<|sc rfl (zK rfl kL39 (tp rfl))<|sc rfl (oCI rfl (tp rfl) (tp rfl))<|.nil) [1,3,8,9,10,30] rfl [(7,0)] rfl ⟨iI,trivial⟩ (λ a24 w24 st24=>?_)
    refine st24.cs (c:=30) rfl h23 (λ c25 h25=>?_) (λ c26 h26=>?_)
    ·
     refine wp_skip (za ?_)
     obtain⟨o27,p27,k27⟩:=bs h25
     refine zo (λ a w=>∃ M1 q27_0,Sx (Frm.of w0) 48 M M1 [oneB q27_0] [(1,dt x1),(3,dptr x0),(8,dt s10.2),(9,dt v17),(10,dt s22.2)] [(7,0,dtip q27_0 9 o27)] a w) ?_ ?_
     ·
      refine wp_block ?_
      obtain⟨v28,p28,h30⟩:=bs p27
      obtain⟨v29,p29,h31⟩:=bs h30
      refine st24.sq (sc rfl (oM rfl (tp rfl))<|sc rfl (oM rfl (tp rfl))<|sc rfl (oM rfl (tp rfl))<|sc rfl (xIdx rfl kS39 (tp rfl) (tp rfl) p28)<|sc rfl (zf rfl kT9 (tp rfl))<|sc rfl (YK (l:=[.tmp 33,.tmp 37]) st24.ob.sub rfl kN109 (.cons (borrow st24.ob 0 rfl (tp rfl)) (.cons (WX st24.ob.sub (tp rfl)) .nil)) (qS p29) YI)<|sc rfl (yc rfl (tp rfl))<|.nil) [1,3,8,9,10,39] rfl [(7,0)] rfl ⟨iI,trivial⟩ (λ a32 w32 st32=>?_)
      refine st32.cs (c:=39) rfl h31 (λ c33 h33=>?_) (λ c34 h34=>?_)
      ·
       refine wp_region_list ?_
       obtain⟨v35,p35,h36⟩:=bs h33
       refine st32.seg 6 (
          sc rfl (oM rfl (tp rfl))<|sc rfl (oM rfl (tp rfl))<|sc rfl (oM rfl (tp rfl))<|sc rfl (xIdx rfl kS39 (tp rfl) (tp rfl) p35)<|sc rfl (zf rfl kT9 (tp rfl))<|sc rfl (ya (opds:=[.tmp 44]) rfl kS39 kY39 rfl rfl (by decide) (.cons (tp rfl) .nil))<|.nil) [1,3,8,9,10,45] rfl [(7,0),(40,0)] rfl ⟨iI,⟨iI,trivial⟩⟩ (λ a37 w37 st37=>?_)
       obtain⟨v40,p40,h41⟩:=bs h36
       refine st37.app 0 rfl rfl kE39 rfl rfl rfl wi p40 [1,3,8,9,10] rfl [] rfl rfl (λ g39 M39 a39 w39 st39=>?_)
       refine st39.seg 1 (
          sc rfl (oA rfl (tp rfl))<|.nil) [1,3,8,9,10] rfl [(7,0)] rfl ⟨iI,trivial⟩ (λ a42 w42 st42=>?_)
       refine wpList_nil (zk (za ?_))
       obtain rfl:=Option.some.inj h41
       exact⟨_,_,st42.sel [1,3,8,9,10] rfl [(7,0)] rfl ⟨iI,trivial⟩⟩
      ·
       refine wp_skip (zk (za ?_))
       obtain rfl:=Option.some.inj h34
       exact⟨_,_,st32.sel [1,3,8,9,10] rfl [(7,0)] rfl ⟨iI,trivial⟩⟩
     ·
      rintro a27 w27 ⟨M27,q27_0,st27⟩
      have h43:=k27
      obtain⟨v44,p44,h45⟩:=bs h43
      refine st27.rg (sc rfl (oM rfl (tp rfl))<|sc rfl (xAr rfl (tp rfl) cI p44)<|sc rfl (oA rfl (tp rfl))<|.nil) [1,3,8,9,10] rfl [(7,0)] rfl ⟨iI,trivial⟩ (λ a46 w46 st46=>?_)
      refine za ?_
      exact⟨_,(Option.some.inj h45).symm,⟨_,_,st46.sel [1,3,8,9,10] rfl [(7,0)] rfl ⟨iI,trivial⟩⟩⟩
    ·
     refine wp_exit (zm (zm (zC ?_)))
     refine zk (za ?_)
     have h47:=lo h26 hx22
     obtain rfl:=Option.some.inj h47
     exact⟨_,_,st24.sel [1,3,8] rfl [(7,0)] rfl ⟨iI,trivial⟩⟩
   ·
    rintro a15 w15 ⟨M15,q15_0,st15⟩
    have h48:=k15
    obtain⟨v49,p49,h50⟩:=bs h48
    refine st15.rg (sc rfl (oM rfl (tp rfl))<|sc rfl (xAr rfl (tp rfl) cI p49)<|sc rfl (oA rfl (tp rfl))<|.nil) [1,3,8] rfl [(7,0)] rfl ⟨iI,trivial⟩ (λ a51 w51 st51=>?_)
    refine za ?_
    exact⟨_,(Option.some.inj h50).symm,⟨_,_,st51.sel [1,3,8] rfl [(7,0)] rfl ⟨iI,trivial⟩⟩⟩
  ·
   refine wp_exit (zm (zm (zC ?_)))
   refine za ?_
   have h52:=lo h14 hx10
   obtain rfl:=Option.some.inj h52
   exact⟨_,_,st12.sel [] rfl [(7,0)] rfl ⟨iI,trivial⟩⟩
 ·
  rintro a8 w8 ⟨M8,q8_0,st8⟩
  have h53:=k8
  refine st8.sq (sc rfl (oM rfl (tp rfl))<|sc rfl (oA rfl (tp rfl))<|.nil) [] rfl [(6,0)] rfl ⟨iI,trivial⟩ (λ a54 w54 st54=>?_)
  refine wp_ret ?_
  exact st54.ret_own 0 rfl rfl iI h53
def j3(x0:Tree)(x1:List Int)(x2:Str):Option Bool:=
(xI x0).bind λ v2=>
(gO (v2 == true) (xJ x1)).bind λ v3=>
(gO ((v2&&v3) == true) (zP x2)).bind λ v4=>
some ((v2&&v3)&&v4)
theorem QB{x0:Tree}{x1:List Int}{x2:Str}{r:Bool}(h:j3 x0 x1 x2=some r):Fn Tryz.prog 102 [dt x0,dt x1,dt x2] (dt r):=by
 unfold j3 at h
 refine fnx (fn:=Tryz.f102) 0 Tryz.func102 rfl (of_decide_eq_true rfl) rfl (λ M w0 a0 st0=>?_)
 refine st0.sq0 (sc rfl (yw rfl (tp rfl))<|sc rfl (oA rfl cB)<|.nil) [1,2,3] rfl (λ a1 w1 st1=>?_)
 obtain⟨v2,p2,h5⟩:=bs h
 obtain⟨v3,p3,h6⟩:=bs h5
 obtain⟨v4,p4,h7⟩:=bs h6
 refine st1.sq0 (sc rfl (zf rfl kT30 (tp rfl))<|sc rfl (zi (l:=[.tmp 7]) rfl kN26 (.cons (tp rfl) .nil) (Zg p2))<|sc rfl (oM rfl (tp rfl))<|sg rfl rfl (λ hg=>oM rfl (tp rfl))<|sg rfl rfl (λ hg=>zi (l:=[.tmp 10]) rfl kN27 (.cons (zj hg rfl) .nil) (Zh (gh hg p3)))<|sc rfl (zQ rfl (tp rfl) (zb rfl))<|sc rfl (oM rfl (tp rfl))<|sg rfl rfl (λ hg=>oM rfl (tp rfl))<|sg rfl rfl (λ hg=>zi (l:=[.tmp 14]) rfl kN28 (.cons (zj hg rfl) .nil) (yk (gh hg p4)))<|sc rfl (zQ rfl (tp rfl) (zb rfl))<|sc rfl (oA rfl (tp rfl))<|.nil) [6] rfl (λ a8 w8 st8=>?_)
 refine wp_ret ?_
 exact st8.ret rfl rfl h7
def wt(x0:List Str)(s5:(List Str)×Int):Option (((List Str)×Int)⊕(List Str)):=
if(cmpI .lss s5.2 (x0.length:Int))=true then(Option.bind (α:=(List Str)) ((atI x0 s5.2).bind λ v11=>
(yb s5.1 v11).bind λ v14=>
if(!v14)=true then((appO 16 s5.1 ([v11]:List Str)).bind λ v22=>
some v22)
else(some s5.1)) λ o10=>
(i64 (s5.2+(1:Int))).bind λ v26=>
some (.inl (o10,v26)))
else(some (.inr s5.1))
def wk(x0:List Str):Option (List Str):=
Option.bind (α:=(List Str)) (zL (λ s5=>wt x0 s5) ([],(0:Int))) λ o3=>
some o3
theorem Zp{x0:List Str}{r:List Str}(h:wk x0=some r):FnOwn Tryz.prog 100 [dt x0] 9 r:=by
 unfold wk at h
 refine fnxO (fn:=Tryz.f100) 1 Tryz.func100 rfl (of_decide_eq_true rfl) rfl (λ M w0 a0 st0=>?_)
 refine st0.sq0 (sc rfl (oA rfl (xE (α:=Str) (e:=9)))<|.nil) [0] rfl (λ a1 w1 st1=>?_)
 refine st1.sq (sc rfl (wQ (α:=Str) (e:=9) rfl kS39)<|sc rfl (oA rfl (tp rfl))<|.nil) [0] rfl [(3,0)] rfl ⟨iE,trivial⟩ (λ a2 w2 st2=>?_)
 obtain⟨o3,p3,k3⟩:=bs h
 refine zo (λ a w=>∃ M1 q3_0,Sx (Frm.of w0) 23 M M1 [oneB q3_0] [] [(3,0,dtip q3_0 9 o3)] a w) ?_ ?_
 ·
  refine st2.sq (sc rfl (oM rfl (tp rfl))<|sc rfl (zK rfl kL39 (tp rfl))<|sc rfl (oM rfl cI)<|.nil) [7,8,9] rfl [(3,0)] rfl ⟨iE,trivial⟩ (λ a4 w4 st4=>?_)
  refine wp_block ?_
  refine zI p3 (λ s5 a w=>∃ M1 q5_0,Sx (Frm.of w0) 23 M M1 [oneB q5_0] [(7,dt x0),(8,dt (x0.length:Int)),(9,dt s5.2)] [(3,0,dtip q5_0 9 s5.1)] a w) ⟨_,_,st4.sel [7,8,9] rfl [(3,0)] rfl ⟨iE,trivial⟩⟩ ?_
  rintro s5 z5 a5 w5 ⟨M5,q5_0,st5⟩ hs5 hx5
  have h6:wt x0 s5=some z5:=hs5
  unfold wt at h6
  refine st5.sq (sc rfl (oCI rfl (tp rfl) (tp rfl))<|.nil) [7,8,9,10] rfl [(3,0)] rfl ⟨iI,trivial⟩ (λ a7 w7 st7=>?_)
  refine wp_seq ?_
  refine st7.cs (c:=10) rfl h6 (λ c8 h8=>?_) (λ c9 h9=>?_)
  ·
   refine wp_skip (za ?_)
   obtain⟨o10,p10,k10⟩:=bs h8
   refine zo (λ a w=>∃ M1 q10_0,Sx (Frm.of w0) 23 M M1 [oneB q10_0] [(7,dt x0),(8,dt (x0.length:Int)),(9,dt s5.2)] [(3,0,dtip q10_0 9 o10)] a w) ?_ ?_
   ·
    refine wp_block ?_
    obtain⟨v11,p11,h12⟩:=bs p10
    refine st7.sq (sc rfl (xIdx rfl kS39 (tp rfl) (tp rfl) p11)<|sc rfl (zf rfl kT9 (tp rfl))<|sc rfl (oA rfl (tp rfl))<|.nil) [5,7,8,9] rfl [(3,0)] rfl ⟨iI,trivial⟩ (λ a13 w13 st13=>?_)
    obtain⟨v14,p14,h15⟩:=bs h12
    refine st13.sq (sc rfl (oM rfl (tp rfl))<|sc rfl (oM rfl (tp rfl))<|sc rfl (YK (l:=[.tmp 13,.tmp 14]) st13.ob.sub rfl kN92 (.cons (borrow st13.ob 0 rfl (tp rfl)) (.cons (WX st13.ob.sub (tp rfl)) .nil)) (jc p14) YI)<|sc rfl (yc rfl (tp rfl))<|.nil) [5,7,8,9,16] rfl [(3,0)] rfl ⟨iI,trivial⟩ (λ a16 w16 st16=>?_)
    refine st16.cs (c:=16) rfl h15 (λ c17 h17=>?_) (λ c18 h18=>?_)
    ·
     refine wp_region_list ?_
     refine st16.seg 3 (
       sc rfl (oM rfl (tp rfl))<|sc rfl (oM rfl (tp rfl))<|sc rfl (ya (opds:=[.tmp 18]) rfl kS39 kY39 rfl rfl (by decide) (.cons (tp rfl) .nil))<|.nil) [7,8,9,19] rfl [(3,0),(17,0)] rfl ⟨iI,⟨iI,trivial⟩⟩ (λ a19 w19 st19=>?_)
     obtain⟨v22,p22,h23⟩:=bs h17
     refine st19.app 0 rfl rfl kE39 rfl rfl rfl wi p22 [7,8,9] rfl [] rfl rfl (λ g21 M21 a21 w21 st21=>?_)
     refine st21.seg 1 (
       sc rfl (oA rfl (tp rfl))<|.nil) [7,8,9] rfl [(3,0)] rfl ⟨iI,trivial⟩ (λ a24 w24 st24=>?_)
     refine wpList_nil (zk (za ?_))
     obtain rfl:=Option.some.inj h23
     exact⟨_,_,st24.sel [7,8,9] rfl [(3,0)] rfl ⟨iI,trivial⟩⟩
    ·
     refine wp_skip (zk (za ?_))
     obtain rfl:=Option.some.inj h18
     exact⟨_,_,st16.sel [7,8,9] rfl [(3,0)] rfl ⟨iI,trivial⟩⟩
   ·
    rintro a10 w10 ⟨M10,q10_0,st10⟩
    have h25:=k10
    obtain⟨v26,p26,h27⟩:=bs h25
    refine st10.rg (sc rfl (xAr rfl (tp rfl) cI p26)<|sc rfl (oM rfl (tp rfl))<|.nil) [7,8,9] rfl [(3,0)] rfl ⟨iI,trivial⟩ (λ a28 w28 st28=>?_)
    refine za ?_
    exact⟨_,(Option.some.inj h27).symm,⟨_,_,st28.sel [7,8,9] rfl [(3,0)] rfl ⟨iI,trivial⟩⟩⟩
  ·
   refine wp_exit (zm (zm (zC ?_)))
   refine za ?_
   have h29:=lo h9 hx5
   obtain rfl:=Option.some.inj h29
   exact⟨_,_,st7.sel [] rfl [(3,0)] rfl ⟨iI,trivial⟩⟩
 ·
  rintro a3 w3 ⟨M3,q3_0,st3⟩
  have h30:=k3
  refine st3.sq (sc rfl (oM rfl (tp rfl))<|sc rfl (oA rfl (tp rfl))<|.nil) [] rfl [(2,0)] rfl ⟨iI,trivial⟩ (λ a31 w31 st31=>?_)
  refine wp_ret ?_
  exact st31.ret_own 0 rfl rfl iI h30
def wM(x1:(Str->Option (List Str)))(s10:(List Str)×Int):Option (((List Str)×Int)⊕(List Str)):=
if(cmpI .lss s10.2 (s10.1.length:Int))=true then((atI s10.1 s10.2).bind λ v16=>
(x1 v16).bind λ v17=>
(appO 16 s10.1 v17).bind λ v23=>
(wk v23).bind λ v27=>
(i64 (s10.2+(1:Int))).bind λ v31=>
some (.inl (v27,v31)))
else(some (.inr s10.1))
def qf(x0:List Str)(x1:(Str->Option (List Str))):Option (List Str):=
(wk x0).bind λ v5=>
Option.bind (α:=(List Str)) (zL (λ s10=>wM x1 s10) (v5,(0:Int))) λ o8=>
some o8
theorem Jn{x0:List Str}{x1:(Str->Option (List Str))}{r:List Str}(h:qf x0 x1=some r):FnOwn Tryz.prog 93 [dt x0,dfn1 Tryz.prog x1] 9 r:=by
 unfold qf at h
 refine fnxO (fn:=Tryz.f93) 1 Tryz.func93 rfl (of_decide_eq_true rfl) rfl (λ M w0 a0 st0=>?_)
 refine st0.sq0 (sc rfl (oA rfl (xE (α:=Str) (e:=9)))<|.nil) [0,1] rfl (λ a1 w1 st1=>?_)
 refine wp_seq (wp_region_list ?_)
 refine st1.seg 1 (
  sc rfl (oM rfl (tp rfl))<|.nil) [1,7] rfl [] rfl trivial (λ a2 w2 st2=>?_)
 obtain⟨v5,p5,h6⟩:=bs h
 refine st2.own (l:=[.tmp 7]) 0 rfl rfl kN100 (.cons (tp rfl) .nil) (Zp p5) (by simp) [1] rfl [] rfl rfl (λ g4 M4 a4 w4 st4=>?_)
 refine st4.seg 1 (
  sc rfl (oA rfl (tp rfl))<|.nil) [1] rfl [(5,0)] rfl ⟨iI,trivial⟩ (λ a7 w7 st7=>?_)
 refine wpList_nil (za ?_)
 obtain⟨o8,p8,k8⟩:=bs h6
 refine zo (λ a w=>∃ M1 q8_0,Sx (Frm.of w0) 25 M M1 [oneB q8_0] [] [(5,0,dtip q8_0 9 o8)] a w) ?_ ?_
 ·
  refine st7.sq (sc rfl (oA rfl cI)<|.nil) [1,6] rfl [(5,0)] rfl ⟨iI,trivial⟩ (λ a9 w9 st9=>?_)
  refine wp_block ?_
  refine zI p8 (λ s10 a w=>∃ M1 q10_0,Sx (Frm.of w0) 25 M M1 [oneB q10_0] [(6,dt s10.2),(1,dfn1 Tryz.prog x1)] [(5,0,dtip q10_0 9 s10.1)] a w) ⟨_,_,st9.sel [6,1] rfl [(5,0)] rfl ⟨iI,trivial⟩⟩ ?_
  rintro s10 z10 a10 w10 ⟨M10,q10_0,st10⟩ hs10 hx10
  have h11:wM x1 s10=some z10:=hs10
  unfold wM at h11
  refine wp_seq ?_
  refine st10.sq (sc rfl (oM rfl (tp rfl))<|sc rfl (oM rfl (tp rfl))<|sc rfl (WW rfl kL39 (tp rfl))<|sc rfl (oCI rfl (tp rfl) (tp rfl))<|.nil) [1,6,12] rfl [(5,0)] rfl ⟨iI,trivial⟩ (λ a12 w12 st12=>?_)
  refine st12.cs (c:=12) rfl h11 (λ c13 h13=>?_) (λ c14 h14=>?_)
  ·
   refine wp_skip (za (wp_seq (wp_block (wp_region_list ?_))))
   obtain⟨v16,p16,h18⟩:=bs h13
   obtain⟨v17,p17,h19⟩:=bs h18
   refine st12.seg 7 (
     sc rfl (oM rfl (tp rfl))<|sc rfl (oM rfl (tp rfl))<|sc rfl (oM rfl (tp rfl))<|sc rfl (oM rfl (tp rfl))<|sc rfl (xIdxT rfl kS39 (tp rfl) (tp rfl) p16)<|sc rfl (zH rfl kT9 (tp rfl))<|sc rfl (xCaF1 rfl (tp rfl) (tp rfl) p17)<|.nil) [1,6,21] rfl [(5,0),(15,0)] rfl ⟨iI,⟨iI,trivial⟩⟩ (λ a20 w20 st20=>?_)
   obtain⟨v23,p23,h24⟩:=bs h19
   refine st20.app 0 rfl rfl kE39 rfl rfl rfl wi p23 [1,6] rfl [] rfl rfl (λ g22 M22 a22 w22 st22=>?_)
   obtain⟨v27,p27,h28⟩:=bs h24
   have st29:=st22.frz 0 (s:=22) rfl rfl [1,6] rfl [] rfl
   refine st29.own (l:=[.tmp 22]) 0 rfl rfl kN100 (.cons (tp rfl) .nil) (Zp p27) (by simp) [1,6] rfl [] rfl rfl (λ g26 M26 a26 w26 st26=>?_)
   refine st26.seg 1 (
     sc rfl (oA rfl (tp rfl))<|.nil) [1,6] rfl [(5,0)] rfl ⟨iI,trivial⟩ (λ a30 w30 st30=>?_)
   refine wpList_nil (zk (za ?_))
   obtain⟨v31,p31,h32⟩:=bs h28
   refine st30.rg (sc rfl (oM rfl (tp rfl))<|sc rfl (xAr rfl (tp rfl) cI p31)<|sc rfl (oA rfl (tp rfl))<|.nil) [1,6] rfl [(5,0)] rfl ⟨iI,trivial⟩ (λ a33 w33 st33=>?_)
   refine za ?_
   exact⟨_,(Option.some.inj h32).symm,⟨_,_,st33.sel [6,1] rfl [(5,0)] rfl ⟨iI,trivial⟩⟩⟩
  ·
   refine wp_exit (zm (zm (zC ?_)))
   refine za ?_
   have h34:=lo h14 hx10
   obtain rfl:=Option.some.inj h34
   exact⟨_,_,st12.sel [] rfl [(5,0)] rfl ⟨iI,trivial⟩⟩
 ·
  rintro a8 w8 ⟨M8,q8_0,st8⟩
  have h35:=k8
  refine st8.sq (sc rfl (oM rfl (tp rfl))<|sc rfl (oA rfl (tp rfl))<|.nil) [] rfl [(4,0)] rfl ⟨iI,trivial⟩ (λ a36 w36 st36=>?_)
  refine wp_ret ?_
  exact st36.ret_own 0 rfl rfl iI h35
def xY(x2:Str)(v3:Spec)(v24:File)(s27:(List Str)×Int):Option (((List Str)×Int)⊕(List Str)):=
if(cmpI .lss s27.2 (v24.body.length:Int))=true then(Option.bind (α:=(List Str)) ((atI v24.body s27.2).bind λ v33=>
Option.bind (α:=Bool) (if(cmpI .eql v33.kind (0:Int))=true then(some (cmpI .eql v33.kind (0:Int)))
else(some (cmpI .eql v33.kind (2:Int)))) λ o42=>
if o42=true then((appO 16 s27.1 ([v33.module]:List Str)).bind λ v53=>
some v53)
else(if(cmpI .eql v33.kind (1:Int))=true then((y9 (⟨x2,v3.kind,[],false,false,[]⟩:GMod)).bind λ v60=>
(wE v60 v33.level v33.module).bind λ v61=>
if(decide (v61≠(⟨[]⟩:Str)))=true then((appO 16 s27.1 ([v61]:List Str)).bind λ v71=>
some v71)
else(some s27.1))
else(some s27.1))) λ o32=>
(i64 (s27.2+(1:Int))).bind λ v76=>
some (.inl (o32,v76)))
else(some (.inr s27.1))
def j4(x0:Tree)(x1:List Int)(x2:Str):Option (List Str):=
(xD x0 x1 x2).bind λ v3=>
if(cmpI .lss v3.file (0:Int))=true then(some [])
else(Option.bind (α:=(List Str)) ((atI x0.files v3.file).bind λ v24=>
zL (λ s27=>xY x2 v3 v24 s27) ([],(0:Int))) λ o23=>
(wk o23).bind λ v85=>
some v85)
theorem QC{x0:Tree}{x1:List Int}{x2:Str}{r:List Str}(h:j4 x0 x1 x2=some r):FnOwn Tryz.prog 98 [dt x0,dt x1,dt x2] 9 r:=by
 unfold j4 at h
 refine fnxO (fn:=Tryz.f98) 4 Tryz.func98 rfl (of_decide_eq_true rfl) rfl (λ M w0 a0 st0=>?_)
 refine st0.sq0 (sc rfl (yw rfl (tp rfl))<|sc rfl (oA rfl (xE (α:=Str) (e:=9)))<|.nil) [1,2,3] rfl (λ a1 w1 st1=>?_)
 refine st1.sq (sc rfl (wQ (α:=Str) (e:=9) rfl kS39)<|sc rfl (oA rfl (tp rfl))<|.nil) [1,2,3] rfl [(7,0)] rfl ⟨iE,trivial⟩ (λ a2 w2 st2=>?_)
 refine wp_seq (wp_region_list ?_)
 obtain⟨v3,p3,h4⟩:=bs h
 refine st2.seg 4 (
  sc rfl (zf rfl kT30 (tp rfl))<|sc rfl (oM rfl (tp rfl))<|sc rfl (oM rfl (tp rfl))<|sc rfl (zi (l:=[.tmp 14,.tmp 15,.tmp 16]) rfl kN101 (.cons (tp rfl) (.cons (tp rfl) (.cons (tp rfl) .nil))) (Xm p3))<|.nil) [2,3,17] rfl [(7,0)] rfl ⟨iE,trivial⟩ (λ a5 w5 st5=>?_)
 refine st5.alloc 1 rfl rfl kZ119 JG (by simp) [2,3,17] rfl [7] rfl rfl (λ b7 M7 a7 w7 st7=>?_)
 have st8:=st7.gs (Gs':=[oneB none,oneB (some b7),oneB none,oneB none]) rfl
 refine st8.store (sb:=8) 1 FldS.id rfl rfl rfl jN rfl rfl (tp rfl) rfl [2,3] rfl [7] rfl rfl (λ M10 w10 st10=>?_)
 refine wpList_nil (za (wp_seq ?_))
 refine st10.sq (sc rfl (zZ Spec.fld1 rfl kF119_1 (tp rfl))<|sc rfl (zH rfl kT3 (tp rfl))<|sc rfl (oCI rfl (tp rfl) cI)<|.nil) [2,3,20] rfl [(7,0),(8,1)] rfl ⟨iE,⟨iI,trivial⟩⟩ (λ a11 w11 st11=>?_)
 refine st11.cs (c:=20) rfl h4 (λ c12 h12=>?_) (λ c13 h13=>?_)
 ·
  refine st11.sq (sc rfl (oM rfl (tp rfl))<|sc rfl (oA rfl (tp rfl))<|.nil) [] rfl [(6,0)] rfl ⟨iE,trivial⟩ (λ a14 w14 st14=>?_)
  refine wp_ret (zh ?_)
  exact st14.ret_own 0 rfl rfl iE h12
 ·
  refine wp_skip (za (wp_seq (wp_region_list ?_)))
  refine st11.seg 4 (
   sc rfl (oM rfl (tp rfl))<|sc rfl (zZ Spec.fld0 rfl kF119_0 (tp rfl))<|sc rfl (zH rfl kT3 (tp rfl))<|sc rfl (yj (parts:=[(0,.tmp 22),(1,.tmp 24)]) (ns:=[1,1,1,1,1,1]) (zs:=zpGMod) rfl rfl kB111 kC111 (λ w a hl=>by
 intro p hp;simp only[List.mem_cons,List.not_mem_nil,or_false] at hp
 rcases hp with rfl | rfl
 ·
  exact⟨by decide,Rep.len (α:=Str) (OpdR.cells (tp rfl) hl)⟩
 ·
  exact⟨by decide,Rep.len (α:=Int) (OpdR.cells (tp rfl) hl)⟩) (λ w a hl=>GMod.parts (x:=(⟨x2,v3.kind,[],false,false,[]⟩:GMod)) (OpdR.cells (tp rfl) hl) (OpdR.cells (tp rfl) hl) Zc ⟨rfl,trivial⟩ ⟨rfl,trivial⟩ Zc))<|.nil) [3,25] rfl [(7,0),(8,1)] rfl ⟨iE,⟨iI,trivial⟩⟩ (λ a15 w15 st15=>?_)
  refine st15.alloc 2 rfl rfl kZ111 zrGMod (by simp) [3,25] rfl [7,8] rfl rfl (λ b17 M17 a17 w17 st17=>?_)
  have st18:=st17.gs (Gs':=[oneB none,oneB (some b7),oneB (some b17),oneB none]) rfl
  refine st18.store (sb:=9) 2 FldS.id rfl rfl rfl kT111 rfl rfl (tp rfl) rfl [3] rfl [7,8] rfl rfl (λ M20 w20 st20=>?_)
  have st21:=st20.frzX 2 (s:=9) rfl rfl [3] rfl [7,8] rfl
  have st22:=st21.gs (Gs':=[oneB none,oneB (some b7),oneB none,oneB none]) rfl
  refine wpList_nil (za ?_)
  obtain⟨o23,p23,k23⟩:=bs h13
  refine zo (λ a w=>∃ M1 q23_0 q23_1 q23_2 q23_3,Sx (Frm.of w0) 65 M M1 [oneB q23_0,oneB q23_1,oneB q23_2,oneB q23_3] [] [(7,0,dtip q23_0 9 o23)] a w) ?_ ?_
  ·
   obtain⟨v24,p24,h25⟩:=bs p23
   refine st22.sq (sc rfl (zn Tree.fld0 rfl wz (tp rfl))<|sc rfl (zf rfl kT28 (tp rfl))<|sc rfl (zZ Spec.fld1 rfl kF119_1 (tp rfl))<|sc rfl (zH rfl kT3 (tp rfl))<|sc rfl (xIdx rfl kS28 (tp rfl) (tp rfl) p24)<|sc rfl (zn File.fld5 rfl Yb (tp rfl))<|sc rfl (zf rfl kT92 (tp rfl))<|sc rfl (zK rfl kL92 (tp rfl))<|sc rfl (oM rfl cI)<|.nil) [9,32,33,34] rfl [(7,0)] rfl ⟨iE,trivial⟩ (λ a26 w26 st26=>?_)
   refine wp_block ?_
   refine zI h25 (λ s27 a w=>∃ M1 q27_0 q27_1 q27_2 q27_3,Sx (Frm.of w0) 65 M M1 [oneB q27_0,oneB q27_1,oneB q27_2,oneB q27_3] [(9,dptr (⟨x2,v3.kind,[],false,false,[]⟩:GMod)),(32,dt v24.body),(33,dt (v24.body.length:Int)),(34,dt s27.2)] [(7,0,dtip q27_0 9 s27.1)] a w) ⟨_,_,_,_,_,st26.sel [9,32,33,34] rfl [(7,0)] rfl ⟨iE,trivial⟩⟩ ?_
   rintro s27 z27 a27 w27 ⟨M27,q27_0,q27_1,q27_2,q27_3,st27⟩ hs27 hx27
   have h28:xY x2 v3 v24 s27=some z27:=hs27
   unfold xY at h28
   refine st27.sq (sc rfl (oCI rfl (tp rfl) (tp rfl))<|.nil) [9,32,33,34,35] rfl [(7,0)] rfl ⟨iI,trivial⟩ (λ a29 w29 st29=>?_)
   refine wp_seq ?_
   refine st29.cs (c:=35) rfl h28 (λ c30 h30=>?_) (λ c31 h31=>?_)
   ·
    refine wp_skip (za ?_)
    obtain⟨o32,p32,k32⟩:=bs h30
    refine zo (λ a w=>∃ M1 q32_0 q32_1 q32_2 q32_3,Sx (Frm.of w0) 65 M M1 [oneB q32_0,oneB q32_1,oneB q32_2,oneB q32_3] [(9,dptr (⟨x2,v3.kind,[],false,false,[]⟩:GMod)),(32,dt v24.body),(33,dt (v24.body.length:Int)),(34,dt s27.2)] [(7,0,dtip q32_0 9 o32)] a w) ?_ ?_
    ·
     refine wp_block (wp_seq (wp_region_list ?_))
     obtain⟨v33,p33,h34⟩:=bs p32
     refine st29.seg 2 (
       sc rfl (xIdx rfl kS92 (tp rfl) (tp rfl) p33)<|sc rfl (zf rfl wy (tp rfl))<|.nil) [9,32,33,34,37] rfl [(7,0)] rfl ⟨iI,trivial⟩ (λ a35 w35 st35=>?_)
     refine st35.alloc 3 rfl rfl kZ173 zrStmt (by simp) [9,32,33,34,37] rfl [7] rfl rfl (λ b37 M37 a37 w37 st37=>?_)
     have st38:=st37.gs (Gs':=[oneB q27_0,oneB q27_1,oneB q27_2,oneB (some b37)]) rfl
     refine st38.store (sb:=11) 3 FldS.id rfl rfl rfl wy rfl rfl (tp rfl) rfl [9,32,33,34] rfl [7] rfl rfl (λ M40 w40 st40=>?_)
     refine wpList_nil (za ?_)
     refine st40.sq (sc rfl (zZ Stmt.fld0 rfl Y5 (tp rfl))<|sc rfl (zH rfl kT3 (tp rfl))<|.nil) [9,32,33,34,39] rfl [(7,0),(11,3)] rfl ⟨iI,⟨iI,trivial⟩⟩ (λ a41 w41 st41=>?_)
     refine wp_block ?_
     obtain⟨o42,p42,k42⟩:=bs h34
     refine zo (λ a w=>∃ M1 q42_0 q42_1 q42_2 q42_3,Sx (Frm.of w0) 65 M M1 [oneB q42_0,oneB q42_1,oneB q42_2,oneB q42_3] [(9,dptr (⟨x2,v3.kind,[],false,false,[]⟩:GMod)),(32,dt v24.body),(33,dt (v24.body.length:Int)),(34,dt s27.2),(39,dt v33.kind),(40,dt o42)] [(7,0,dtip q42_0 9 s27.1),(11,3,dbox q42_3 0 v33)] a w) ?_ ?_
     ·
      refine st41.sq (sc rfl (oCI rfl (tp rfl) cI)<|sc rfl (oA rfl (tp rfl))<|.nil) [9,32,33,34,39,40] rfl [(7,0),(11,3)] rfl ⟨iI,⟨iI,trivial⟩⟩ (λ a43 w43 st43=>?_)
      refine st43.cs (c:=40) rfl p42 (λ c44 h44=>?_) (λ c45 h45=>?_)
      ·
       refine wp_skip (za ?_)
       obtain rfl:=Option.some.inj h44
       exact⟨_,_,_,_,_,st43.sel [9,32,33,34,39,40] rfl [(7,0),(11,3)] rfl ⟨iI,⟨iI,trivial⟩⟩⟩
      ·
       refine st43.rg (sc rfl (oCI rfl (tp rfl) cI)<|sc rfl (oA rfl (tp rfl))<|.nil) [9,32,33,34,39,40] rfl [(7,0),(11,3)] rfl ⟨iI,⟨iI,trivial⟩⟩ (λ a46 w46 st46=>?_)
       refine za ?_
       obtain rfl:=Option.some.inj h45
       exact⟨_,_,_,_,_,st46.sel [9,32,33,34,39,40] rfl [(7,0),(11,3)] rfl ⟨iI,⟨iI,trivial⟩⟩⟩
     ·
      rintro a42 w42 ⟨M42,q42_0,q42_1,q42_2,q42_3,st42⟩
      have h47:=k42
      refine st42.cs (c:=40) rfl h47 (λ c48 h48=>?_) (λ c49 h49=>?_)
      ·
       refine wp_region_list ?_
       refine st42.seg 4 (
         sc rfl (oM rfl (tp rfl))<|sc rfl (zZ Stmt.fld1 rfl ZV (tp rfl))<|sc rfl (zH rfl kT9 (tp rfl))<|sc rfl (ya (opds:=[.tmp 45]) rfl kS39 kY39 rfl rfl (by decide) (.cons (tp rfl) .nil))<|.nil) [9,32,33,34,46] rfl [(7,0),(43,0)] rfl ⟨iI,⟨iI,trivial⟩⟩ (λ a50 w50 st50=>?_)
       obtain⟨v53,p53,h54⟩:=bs h48
       refine st50.app 0 rfl rfl kE39 rfl rfl rfl wi p53 [9,32,33,34] rfl [] rfl rfl (λ g52 M52 a52 w52 st52=>?_)
       have st55:=st52.gs (Gs':=[oneB g52,oneB q42_1,oneB q42_2,oneB q42_3]) rfl
       refine st55.seg 1 (
         sc rfl (oA rfl (tp rfl))<|.nil) [9,32,33,34] rfl [(7,0)] rfl ⟨iI,trivial⟩ (λ a56 w56 st56=>?_)
       refine wpList_nil (zk (zk (za ?_)))
       obtain rfl:=Option.some.inj h54
       exact⟨_,_,_,_,_,st56.sel [9,32,33,34] rfl [(7,0)] rfl ⟨iI,trivial⟩⟩
      ·
       refine st42.sq (sc rfl (oCI rfl (tp rfl) cI)<|sc rfl (oA rfl (tp rfl))<|.nil) [9,32,33,34,48] rfl [(7,0),(11,3)] rfl ⟨iI,⟨iI,trivial⟩⟩ (λ a57 w57 st57=>?_)
       refine st57.cs (c:=48) rfl h49 (λ c58 h58=>?_) (λ c59 h59=>?_)
       ·
        refine wp_seq ?_
        obtain⟨v60,p60,h62⟩:=bs h58
        obtain⟨v61,p61,h63⟩:=bs h62
        refine st57.dr (D:=[_,_,_,_,_,_,_]) zR [[],[],[1],[],[3],[0,1,2,3,4],[0,1,2,3,4,5]] [[(9,none)],[(11,none)],[(51,some 1)],[(11,none)],[(53,some 3)],[(50,some 0),(52,some 2),(54,some 4)],[(55,some 5)]] (by decide +kernel) (
         rc rfl rfl (zi (l:=[.tmp 9]) rfl kN163 (.cons (tp rfl) .nil) (YQ p60))<|rc rfl rfl (zZ Stmt.fld2 rfl kF173_2 (tp rfl))<|rc rfl rfl (zH rfl kT3 (tp rfl))<|rc rfl rfl (zZ Stmt.fld1 rfl ZV (tp rfl))<|rc rfl rfl (zH rfl kT9 (tp rfl))<|rc rfl rfl (zi (l:=[.tmp 50,.tmp 52,.tmp 54]) rfl kN162 (.cons (tp rfl) (.cons (tp rfl) (.cons (tp rfl) .nil))) (WE p61))<|rc rfl rfl (oA rfl (tp rfl))<|.nil) [9,12,32,33,34] rfl [(7,0)] rfl ⟨iI,trivial⟩ (λ a64 w64 st64=>?_)
        refine za ?_
        refine st64.sq (sc rfl (oM rfl (tp rfl))<|sc rfl (ZI rfl (tp rfl) (zv (by decide)))<|.nil) [9,12,32,33,34,57] rfl [(7,0)] rfl ⟨iI,trivial⟩ (λ a65 w65 st65=>?_)
        refine st65.cs (c:=57) rfl h63 (λ c66 h66=>?_) (λ c67 h67=>?_)
        ·
         refine wp_region_list ?_
         refine st65.seg 3 (
           sc rfl (oM rfl (tp rfl))<|sc rfl (oM rfl (tp rfl))<|sc rfl (ya (opds:=[.tmp 59]) rfl kS39 kY39 rfl rfl (by decide) (.cons (tp rfl) .nil))<|.nil) [9,32,33,34,60] rfl [(7,0),(58,0)] rfl ⟨iI,⟨iI,trivial⟩⟩ (λ a68 w68 st68=>?_)
         obtain⟨v71,p71,h72⟩:=bs h66
         refine st68.app 0 rfl rfl kE39 rfl rfl rfl wi p71 [9,32,33,34] rfl [] rfl rfl (λ g70 M70 a70 w70 st70=>?_)
         have st73:=st70.gs (Gs':=[oneB g70,oneB q42_1,oneB q42_2,oneB q42_3]) rfl
         refine st73.seg 1 (
           sc rfl (oA rfl (tp rfl))<|.nil) [9,32,33,34] rfl [(7,0)] rfl ⟨iI,trivial⟩ (λ a74 w74 st74=>?_)
         refine wpList_nil (zk (zk (za ?_)))
         obtain rfl:=Option.some.inj h72
         exact⟨_,_,_,_,_,st74.sel [9,32,33,34] rfl [(7,0)] rfl ⟨iI,trivial⟩⟩
        ·
         refine wp_skip (zk (zk (za ?_)))
         obtain rfl:=Option.some.inj h67
         exact⟨_,_,_,_,_,st65.sel [9,32,33,34] rfl [(7,0)] rfl ⟨iI,trivial⟩⟩
       ·
        refine wp_skip (zk (zk (za ?_)))
        obtain rfl:=Option.some.inj h59
        exact⟨_,_,_,_,_,st57.sel [9,32,33,34] rfl [(7,0)] rfl ⟨iI,trivial⟩⟩
    ·
     rintro a32 w32 ⟨M32,q32_0,q32_1,q32_2,q32_3,st32⟩
     have h75:=k32
     obtain⟨v76,p76,h77⟩:=bs h75
     refine st32.rg (sc rfl (xAr rfl (tp rfl) cI p76)<|sc rfl (oM rfl (tp rfl))<|.nil) [9,32,33,34] rfl [(7,0)] rfl ⟨iI,trivial⟩ (λ a78 w78 st78=>?_)
     refine za ?_
     exact⟨_,(Option.some.inj h77).symm,⟨_,_,_,_,_,st78.sel [9,32,33,34] rfl [(7,0)] rfl ⟨iI,trivial⟩⟩⟩
   ·
    refine wp_exit (zm (zm (zC ?_)))
    refine za ?_
    have h79:=lo h31 hx27
    obtain rfl:=Option.some.inj h79
    exact⟨_,_,_,_,_,st29.sel [] rfl [(7,0)] rfl ⟨iI,trivial⟩⟩
  ·
   rintro a23 w23 ⟨M23,q23_0,q23_1,q23_2,q23_3,st23⟩
   have h80:=k23
   have st81:=st23.frz 0 (s:=7) rfl rfl [] rfl [] rfl
   refine wp_seq (wp_region_list ?_)
   refine st81.seg 1 (
    sc rfl (oM rfl (tp rfl))<|.nil) [63] rfl [] rfl trivial (λ a82 w82 st82=>?_)
   obtain⟨v85,p85,h86⟩:=bs h80
   refine st82.own (l:=[.tmp 63]) 0 rfl rfl kN100 (.cons (tp rfl) .nil) (Zp p85) (by simp) [] rfl [] rfl rfl (λ g84 M84 a84 w84 st84=>?_)
   have st87:=st84.gs (Gs':=[oneB g84,oneB q23_1,oneB q23_2,oneB q23_3]) rfl
   refine st87.seg 1 (
    sc rfl (oA rfl (tp rfl))<|.nil) [] rfl [(6,0)] rfl ⟨iI,trivial⟩ (λ a88 w88 st88=>?_)
   refine wpList_nil (za (wp_ret ?_))
   exact st88.ret_own 0 rfl rfl iI h86
def xZ(v4:List Str)(s7:(List Str)×Int):Option (((List Str)×Int)⊕(List Str)):=
if(cmpI .lss s7.2 (v4.length:Int))=true then((atI v4 s7.2).bind λ v12=>
(xl v12).bind λ v15=>
(appO 16 s7.1 v15).bind λ v20=>
(i64 (s7.2+(1:Int))).bind λ v23=>
some (.inl (v20,v23)))
else(some (.inr s7.1))
def xV(x0:Tree)(x1:List Int)(x2:Str):Option (List Str):=
Option.bind (α:=(List Str)) ((j4 x0 x1 x2).bind λ v4=>
zL (λ s7=>xZ v4 s7) ([],(0:Int))) λ o3=>
(wk o3).bind λ v29=>
some v29
theorem Yg{x0:Tree}{x1:List Int}{x2:Str}{r:List Str}(h:xV x0 x1 x2=some r):Fn Tryz.prog 36 [dt x0,dt x1,dt x2] (dt r):=by
 unfold xV at h
 refine fnx (fn:=Tryz.f36) 1 Tryz.func36 rfl (of_decide_eq_true rfl) rfl (λ M w0 a0 st0=>?_)
 refine st0.sq0 (sc rfl (yw rfl (tp rfl))<|sc rfl (oA rfl (wO (α:=Str)))<|.nil) [1,2,3] rfl (λ a1 w1 st1=>?_)
 refine st1.sq (sc rfl (wQ (α:=Str) (e:=9) rfl kS39)<|sc rfl (oA rfl (tp rfl))<|.nil) [1,2,3] rfl [(7,0)] rfl ⟨iE,trivial⟩ (λ a2 w2 st2=>?_)
 obtain⟨o3,p3,k3⟩:=bs h
 refine zo (λ a w=>∃ M1 q3_0,Sx (Frm.of w0) 27 M M1 [oneB q3_0] [] [(7,0,dtip q3_0 9 o3)] a w) ?_ ?_
 ·
  obtain⟨v4,p4,h5⟩:=bs p3
  refine st2.sq (sc rfl (zf rfl kT30 (tp rfl))<|sc rfl (oM rfl (tp rfl))<|sc rfl (oM rfl (tp rfl))<|sc rfl (zi (l:=[.tmp 11,.tmp 12,.tmp 13]) rfl kN98 (.cons (tp rfl) (.cons (tp rfl) (.cons (tp rfl) .nil))) ((QC p4)).fn)<|sc rfl (zK rfl kL39 (tp rfl))<|sc rfl (oM rfl cI)<|.nil) [14,15,16] rfl [(7,0)] rfl ⟨iE,trivial⟩ (λ a6 w6 st6=>?_)
  refine wp_block ?_
  refine zI h5 (λ s7 a w=>∃ M1 q7_0,Sx (Frm.of w0) 27 M M1 [oneB q7_0] [(14,dt v4),(15,dt (v4.length:Int)),(16,dt s7.2)] [(7,0,dtip q7_0 9 s7.1)] a w) ⟨_,_,st6.sel [14,15,16] rfl [(7,0)] rfl ⟨iE,trivial⟩⟩ ?_
  rintro s7 z7 a7 w7 ⟨M7,q7_0,st7⟩ hs7 hx7
  have h8:xZ v4 s7=some z7:=hs7
  unfold xZ at h8
  refine st7.sq (sc rfl (oCI rfl (tp rfl) (tp rfl))<|.nil) [14,15,16,17] rfl [(7,0)] rfl ⟨iI,trivial⟩ (λ a9 w9 st9=>?_)
  refine wp_seq ?_
  refine st9.cs (c:=17) rfl h8 (λ c10 h10=>?_) (λ c11 h11=>?_)
  ·
   refine wp_skip (za (wp_seq (wp_block ?_)))
   obtain⟨v12,p12,h13⟩:=bs h10
   refine st9.sq (sc rfl (xIdx rfl kS39 (tp rfl) (tp rfl) p12)<|sc rfl (zf rfl kT9 (tp rfl))<|sc rfl (oA rfl (tp rfl))<|.nil) [9,14,15,16] rfl [(7,0)] rfl ⟨iI,trivial⟩ (λ a14 w14 st14=>?_)
   refine wp_region_list ?_
   obtain⟨v15,p15,h16⟩:=bs h13
   refine st14.seg 3 (
     sc rfl (oM rfl (tp rfl))<|sc rfl (oM rfl (tp rfl))<|sc rfl (zi (l:=[.tmp 21]) rfl kN99 (.cons (tp rfl) .nil) ((Yp p15)).fn)<|.nil) [14,15,16,22] rfl [(7,0),(20,0)] rfl ⟨iI,⟨iI,trivial⟩⟩ (λ a17 w17 st17=>?_)
   obtain⟨v20,p20,h21⟩:=bs h16
   refine st17.app 0 rfl rfl kE39 rfl rfl rfl wi p20 [14,15,16] rfl [] rfl rfl (λ g19 M19 a19 w19 st19=>?_)
   refine st19.seg 1 (
     sc rfl (oA rfl (tp rfl))<|.nil) [14,15,16] rfl [(7,0)] rfl ⟨iI,trivial⟩ (λ a22 w22 st22=>?_)
   refine wpList_nil (zk (za ?_))
   obtain⟨v23,p23,h24⟩:=bs h21
   refine st22.rg (sc rfl (xAr rfl (tp rfl) cI p23)<|sc rfl (oM rfl (tp rfl))<|.nil) [14,15,16] rfl [(7,0)] rfl ⟨iI,trivial⟩ (λ a25 w25 st25=>?_)
   refine za ?_
   exact⟨_,(Option.some.inj h24).symm,⟨_,_,st25.sel [14,15,16] rfl [(7,0)] rfl ⟨iI,trivial⟩⟩⟩
  ·
   refine wp_exit (zm (zm (zC ?_)))
   refine za ?_
   have h26:=lo h11 hx7
   obtain rfl:=Option.some.inj h26
   exact⟨_,_,st9.sel [] rfl [(7,0)] rfl ⟨iI,trivial⟩⟩
 ·
  rintro a3 w3 ⟨M3,q3_0,st3⟩
  have h27:=k3
  have st28:=st3.frz 0 (s:=7) rfl rfl [] rfl [] rfl
  obtain⟨v29,p29,h30⟩:=bs h27
  refine st28.sq0 (sc rfl (oM rfl (tp rfl))<|sc rfl (zi (l:=[.tmp 25]) rfl kN100 (.cons (tp rfl) .nil) ((Zp p29)).fn)<|sc rfl (oA rfl (tp rfl))<|.nil) [6] rfl (λ a31 w31 st31=>?_)
  refine wp_ret ?_
  exact st31.ret rfl rfl h30
def js(x0:Str)(x1:Tree)(x2:List Int):Option (List Str):=
(xV x1 x2 x0).bind λ v2=>
some v2
theorem JP{x0:Str}{x1:Tree}{x2:List Int}{r:List Str}(h:js x0 x1 x2=some r):Fn Tryz.prog 104 [dt x0,dptr x1,dptr x2] (dt r):=by
 unfold js at h
 refine fnx (fn:=Tryz.f104) 0 Tryz.func104 rfl (of_decide_eq_true rfl) rfl (λ M w0 a0 st0=>?_)
 refine st0.sq0 (sc rfl (oA rfl (wO (α:=Str)))<|.nil) [0,1,2] rfl (λ a1 w1 st1=>?_)
 obtain⟨v2,p2,h3⟩:=bs h
 refine st1.sq0 (sc rfl (zf rfl kT30 (tp rfl))<|sc rfl (zf rfl kT25 (tp rfl))<|sc rfl (oM rfl (tp rfl))<|sc rfl (zi (l:=[.tmp 5,.tmp 6,.tmp 7]) rfl kN36 (.cons (tp rfl) (.cons (tp rfl) (.cons (tp rfl) .nil))) (Yg p2))<|sc rfl (oA rfl (tp rfl))<|.nil) [4] rfl (λ a4 w4 st4=>?_)
 refine wp_ret ?_
 exact st4.ret rfl rfl h3
def wF(x0:Tree)(x1:List Int)(x2:Str):Option (List Str):=
(j3 x0 x1 x2).bind λ v2=>
if(!v2)=true then(some [])
else((xl x2).bind λ v8=>
(qf v8 (λ a0=>js a0 x0 x1)).bind λ v13=>
(qx v13).bind λ v17=>
some v17)
theorem XH{x0:Tree}{x1:List Int}{x2:Str}{r:List Str}(h:wF x0 x1 x2=some r):FnOwn Tryz.prog 39 [dt x0,dt x1,dt x2] 9 r:=by
 unfold wF at h
 refine fnxO (fn:=Tryz.f39) 1 Tryz.func39 rfl (of_decide_eq_true rfl) rfl (λ M w0 a0 st0=>?_)
 refine st0.sq0 (sc rfl (yw rfl (tp rfl))<|sc rfl (yw rfl (tp rfl))<|sc rfl (oA rfl (xE (α:=Str) (e:=9)))<|.nil) [2,3,4] rfl (λ a1 w1 st1=>?_)
 refine wp_seq ?_
 obtain⟨v2,p2,h3⟩:=bs h
 refine st1.sq0 (sc rfl (zf rfl kT30 (tp rfl))<|sc rfl (zf rfl kT25 (tp rfl))<|sc rfl (oM rfl (tp rfl))<|sc rfl (zi (l:=[.tmp 7,.tmp 8,.tmp 9]) rfl kN102 (.cons (tp rfl) (.cons (tp rfl) (.cons (tp rfl) .nil))) (QB p2))<|sc rfl (yc rfl (tp rfl))<|.nil) [2,3,4,11] rfl (λ a4 w4 st4=>?_)
 refine st4.cs (c:=11) rfl h3 (λ c5 h5=>?_) (λ c6 h6=>?_)
 ·
  refine st4.sq (sc rfl (wQ (α:=Str) (e:=9) rfl kS39)<|sc rfl (oA rfl (tp rfl))<|.nil) [] rfl [(6,0)] rfl ⟨iE,trivial⟩ (λ a7 w7 st7=>?_)
  refine wp_ret (zh ?_)
  exact st7.ret_own 0 rfl rfl iE h5
 ·
  refine wp_skip (za (wp_seq (wp_region_list ?_)))
  obtain⟨v8,p8,h9⟩:=bs h6
  refine st4.seg 3 (
   sc rfl (oM rfl (tp rfl))<|sc rfl (zi (l:=[.tmp 13]) rfl kN99 (.cons (tp rfl) .nil) ((Yp p8)).fn)<|sc rfl (xMkF1 (l:=[.tmp 3,.tmp 4]) (g:=(λ a0=>js a0 x0 x1)) rfl kN104 (.cons (tp rfl) (.cons (tp rfl) .nil)) rfl (λ _ _ h=>JP h))<|.nil) [14,15] rfl [] rfl trivial (λ a10 w10 st10=>?_)
  obtain⟨v13,p13,h14⟩:=bs h9
  refine st10.own (l:=[.tmp 14,.tmp 15]) 0 rfl rfl kN93 (.cons (tp rfl) (.cons (tp rfl) .nil)) (Jn p13) (by simp) [] rfl [] rfl rfl (λ g12 M12 a12 w12 st12=>?_)
  obtain⟨v17,p17,h18⟩:=bs h14
  refine st12.take (l:=[]) 0 rfl rfl kN103 rfl rfl .nil (impl_sorted_w p17) [] rfl [] rfl rfl (λ g16 M16 a16 w16 st16=>?_)
  refine st16.seg 1 (
   sc rfl (oA rfl (tp rfl))<|.nil) [] rfl [(6,0)] rfl ⟨iI,trivial⟩ (λ a19 w19 st19=>?_)
  refine wpList_nil (za (wp_ret ?_))
  exact st19.ret_own 0 rfl rfl iI h18
def yI(x0:Str)(x1:Tree)(x2:List Int):Option (List Str):=
(xV x1 x2 x0).bind λ v2=>
some v2
theorem JQ{x0:Str}{x1:Tree}{x2:List Int}{r:List Str}(h:yI x0 x1 x2=some r):Fn Tryz.prog 91 [dt x0,dptr x1,dptr x2] (dt r):=by
 unfold yI at h
 refine fnx (fn:=Tryz.f91) 0 Tryz.func91 rfl (of_decide_eq_true rfl) rfl (λ M w0 a0 st0=>?_)
 refine st0.sq0 (sc rfl (oA rfl (wO (α:=Str)))<|.nil) [0,1,2] rfl (λ a1 w1 st1=>?_)
 obtain⟨v2,p2,h3⟩:=bs h
 refine st1.sq0 (sc rfl (zf rfl kT30 (tp rfl))<|sc rfl (zf rfl kT25 (tp rfl))<|sc rfl (oM rfl (tp rfl))<|sc rfl (zi (l:=[.tmp 5,.tmp 6,.tmp 7]) rfl kN36 (.cons (tp rfl) (.cons (tp rfl) (.cons (tp rfl) .nil))) (Yg p2))<|sc rfl (oA rfl (tp rfl))<|.nil) [4] rfl (λ a4 w4 st4=>?_)
 refine wp_ret ?_
 exact st4.ret rfl rfl h3
def x8(x0:Tree)(x1:List Int)(v5:List Str)(s8:(List Str)×Int):Option (((List Str)×Int)⊕(List Str)):=
if(cmpI .lss s8.2 (v5.length:Int))=true then(Option.bind (α:=(List Str)) ((atI v5 s8.2).bind λ v14=>
((λ a0=>yI a0 x0 x1) v14).bind λ v17=>
(qf v17 (λ a0=>yI a0 x0 x1)).bind λ v18=>
(yb v18 v14).bind λ v19=>
if v19=true then((appO 16 s8.1 ([v14]:List Str)).bind λ v29=>
some v29)
else(some s8.1)) λ o13=>
(i64 (s8.2+(1:Int))).bind λ v33=>
some (.inl (o13,v33)))
else(some (.inr s8.1))
def j5(x0:Tree)(x1:List Int)(x2:Str):Option (List Str):=
Option.bind (α:=(List Str)) ((wF x0 x1 x2).bind λ v5=>
zL (λ s8=>x8 x0 x1 v5 s8) ([],(0:Int))) λ o4=>
some o4
theorem QD{x0:Tree}{x1:List Int}{x2:Str}{r:List Str}(h:j5 x0 x1 x2=some r):FnOwn Tryz.prog 34 [dt x0,dt x1,dt x2] 9 r:=by
 unfold j5 at h
 refine fnxO (fn:=Tryz.f34) 1 Tryz.func34 rfl (of_decide_eq_true rfl) rfl (λ M w0 a0 st0=>?_)
 refine st0.sq0 (sc rfl (yw rfl (tp rfl))<|sc rfl (yw rfl (tp rfl))<|sc rfl (oA rfl (xE (α:=Str) (e:=9)))<|.nil) [2,3,4] rfl (λ a1 w1 st1=>?_)
 refine st1.sq (sc rfl (wQ (α:=Str) (e:=9) rfl kS39)<|sc rfl (oA rfl (tp rfl))<|.nil) [2,3,4] rfl [(7,0)] rfl ⟨iE,trivial⟩ (λ a2 w2 st2=>?_)
 refine st2.sq (sc rfl (xMkF1 (l:=[.tmp 3,.tmp 4]) (g:=(λ a0=>yI a0 x0 x1)) rfl kN91 (.cons (tp rfl) (.cons (tp rfl) .nil)) rfl (λ _ _ h=>JQ h))<|sc rfl (oA rfl (tp rfl))<|.nil) [2,3,4,8] rfl [(7,0)] rfl ⟨iE,trivial⟩ (λ a3 w3 st3=>?_)
 obtain⟨o4,p4,k4⟩:=bs h
 refine zo (λ a w=>∃ M1 q4_0,Sx (Frm.of w0) 35 M M1 [oneB q4_0] [] [(7,0,dtip q4_0 9 o4)] a w) ?_ ?_
 ·
  obtain⟨v5,p5,h6⟩:=bs p4
  refine st3.sq (sc rfl (zf rfl kT30 (tp rfl))<|sc rfl (zf rfl kT25 (tp rfl))<|sc rfl (oM rfl (tp rfl))<|sc rfl (zi (l:=[.tmp 13,.tmp 14,.tmp 15]) rfl kN39 (.cons (tp rfl) (.cons (tp rfl) (.cons (tp rfl) .nil))) ((XH p5)).fn)<|sc rfl (zK rfl kL39 (tp rfl))<|sc rfl (oM rfl cI)<|.nil) [8,16,17,18] rfl [(7,0)] rfl ⟨iE,trivial⟩ (λ a7 w7 st7=>?_)
  refine wp_block ?_
  refine zI h6 (λ s8 a w=>∃ M1 q8_0,Sx (Frm.of w0) 35 M M1 [oneB q8_0] [(16,dt v5),(17,dt (v5.length:Int)),(18,dt s8.2),(8,dfn1 Tryz.prog (λ a0=>yI a0 x0 x1))] [(7,0,dtip q8_0 9 s8.1)] a w) ⟨_,_,st7.sel [16,17,18,8] rfl [(7,0)] rfl ⟨iE,trivial⟩⟩ ?_
  rintro s8 z8 a8 w8 ⟨M8,q8_0,st8⟩ hs8 hx8
  have h9:x8 x0 x1 v5 s8=some z8:=hs8
  unfold x8 at h9
  refine st8.sq (sc rfl (oCI rfl (tp rfl) (tp rfl))<|.nil) [8,16,17,18,19] rfl [(7,0)] rfl ⟨iI,trivial⟩ (λ a10 w10 st10=>?_)
  refine wp_seq ?_
  refine st10.cs (c:=19) rfl h9 (λ c11 h11=>?_) (λ c12 h12=>?_)
  ·
   refine wp_skip (za ?_)
   obtain⟨o13,p13,k13⟩:=bs h11
   refine zo (λ a w=>∃ M1 q13_0,Sx (Frm.of w0) 35 M M1 [oneB q13_0] [(16,dt v5),(17,dt (v5.length:Int)),(18,dt s8.2),(8,dfn1 Tryz.prog (λ a0=>yI a0 x0 x1))] [(7,0,dtip q13_0 9 o13)] a w) ?_ ?_
   ·
    refine wp_block ?_
    obtain⟨v14,p14,h15⟩:=bs p13
    refine st10.sq (sc rfl (xIdx rfl kS39 (tp rfl) (tp rfl) p14)<|sc rfl (zf rfl kT9 (tp rfl))<|sc rfl (oA rfl (tp rfl))<|.nil) [8,10,16,17,18] rfl [(7,0)] rfl ⟨iI,trivial⟩ (λ a16 w16 st16=>?_)
    obtain⟨v17,p17,h20⟩:=bs h15
    obtain⟨v18,p18,h21⟩:=bs h20
    obtain⟨v19,p19,h22⟩:=bs h21
    refine st16.sq (sc rfl (oM rfl (tp rfl))<|sc rfl (oM rfl (tp rfl))<|sc rfl (xCaF1 rfl (tp rfl) (tp rfl) p17)<|sc rfl (oM rfl (tp rfl))<|sc rfl (zi (l:=[.tmp 24,.tmp 25]) rfl kN93 (.cons (tp rfl) (.cons (tp rfl) .nil)) ((Jn p18)).fn)<|sc rfl (oM rfl (tp rfl))<|sc rfl (zi (l:=[.tmp 26,.tmp 27]) rfl kN92 (.cons (tp rfl) (.cons (tp rfl) .nil)) (jc p19))<|.nil) [8,10,16,17,18,28] rfl [(7,0)] rfl ⟨iI,trivial⟩ (λ a23 w23 st23=>?_)
    refine st23.cs (c:=28) rfl h22 (λ c24 h24=>?_) (λ c25 h25=>?_)
    ·
     refine wp_region_list ?_
     refine st23.seg 3 (
       sc rfl (oM rfl (tp rfl))<|sc rfl (oM rfl (tp rfl))<|sc rfl (ya (opds:=[.tmp 30]) rfl kS39 kY39 rfl rfl (by decide) (.cons (tp rfl) .nil))<|.nil) [8,16,17,18,31] rfl [(7,0),(29,0)] rfl ⟨iI,⟨iI,trivial⟩⟩ (λ a26 w26 st26=>?_)
     obtain⟨v29,p29,h30⟩:=bs h24
     refine st26.app 0 rfl rfl kE39 rfl rfl rfl wi p29 [8,16,17,18] rfl [] rfl rfl (λ g28 M28 a28 w28 st28=>?_)
     refine st28.seg 1 (
       sc rfl (oA rfl (tp rfl))<|.nil) [8,16,17,18] rfl [(7,0)] rfl ⟨iI,trivial⟩ (λ a31 w31 st31=>?_)
     refine wpList_nil (zk (za ?_))
     obtain rfl:=Option.some.inj h30
     exact⟨_,_,st31.sel [16,17,18,8] rfl [(7,0)] rfl ⟨iI,trivial⟩⟩
    ·
     refine wp_skip (zk (za ?_))
     obtain rfl:=Option.some.inj h25
     exact⟨_,_,st23.sel [16,17,18,8] rfl [(7,0)] rfl ⟨iI,trivial⟩⟩
   ·
    rintro a13 w13 ⟨M13,q13_0,st13⟩
    have h32:=k13
    obtain⟨v33,p33,h34⟩:=bs h32
    refine st13.rg (sc rfl (xAr rfl (tp rfl) cI p33)<|sc rfl (oM rfl (tp rfl))<|.nil) [8,16,17,18] rfl [(7,0)] rfl ⟨iI,trivial⟩ (λ a35 w35 st35=>?_)
    refine za ?_
    exact⟨_,(Option.some.inj h34).symm,⟨_,_,st35.sel [16,17,18,8] rfl [(7,0)] rfl ⟨iI,trivial⟩⟩⟩
  ·
   refine wp_exit (zm (zm (zC ?_)))
   refine za ?_
   have h36:=lo h12 hx8
   obtain rfl:=Option.some.inj h36
   exact⟨_,_,st10.sel [] rfl [(7,0)] rfl ⟨iI,trivial⟩⟩
 ·
  rintro a4 w4 ⟨M4,q4_0,st4⟩
  have h37:=k4
  refine st4.sq (sc rfl (oM rfl (tp rfl))<|sc rfl (oA rfl (tp rfl))<|.nil) [] rfl [(6,0)] rfl ⟨iI,trivial⟩ (λ a38 w38 st38=>?_)
  refine wp_ret ?_
  exact st38.ret_own 0 rfl rfl iI h37
def qz(x0:Tree)(x1:List Int)(x2:Str):Option Bool:=
(qe x0 x1 x2).bind λ v2=>
(jy x0 x1 v2).bind λ v3=>
(xT v3 x2).bind λ v4=>
some v4
theorem spec_onRing_w{x0:Tree}{x1:List Int}{x2:Str}{r:Bool}(h:qz x0 x1 x2=some r):Fn Tryz.prog 96 [dt x0,dt x1,dt x2] (dt r):=by
 unfold qz at h
 refine fnx (fn:=Tryz.f96) 0 Tryz.func96 rfl (of_decide_eq_true rfl) rfl (λ M w0 a0 st0=>?_)
 refine st0.sq0 (sc rfl (yw rfl (tp rfl))<|sc rfl (oA rfl cB)<|.nil) [1,2,3] rfl (λ a1 w1 st1=>?_)
 refine wp_seq ?_
 obtain⟨v2,p2,h5⟩:=bs h
 obtain⟨v3,p3,h6⟩:=bs h5
 obtain⟨v4,p4,h7⟩:=bs h6
 refine st1.dr (D:=[_,_,_,_,_,_,_,_,_,_]) zR [[],[],[],[],[],[2,3,4],[0,1,2,3,4,5],[],[0,1,2,3,4,5,6,7],[0,1,2,3,4,5,6,7,8]] [[(3,none)],[(1,none)],[(3,none)],[(1,none)],[(2,none)],[(9,some 2),(10,some 3),(11,some 4)],[(7,some 0),(8,some 1),(12,some 5)],[(2,none)],[(13,some 6),(14,some 7)],[(15,some 8)]] (by decide +kernel) (
  rc rfl rfl (zf rfl kT30 (tp rfl))<|rc rfl rfl (oM rfl (tp rfl))<|rc rfl rfl (zf rfl kT30 (tp rfl))<|rc rfl rfl (oM rfl (tp rfl))<|rc rfl rfl (oM rfl (tp rfl))<|rc rfl rfl (zi (l:=[.tmp 9,.tmp 10,.tmp 11]) rfl kN160 (.cons (tp rfl) (.cons (tp rfl) (.cons (tp rfl) .nil))) (Jl p2))<|rc rfl rfl (zi (l:=[.tmp 7,.tmp 8,.tmp 12]) rfl kN94 (.cons (tp rfl) (.cons (tp rfl) (.cons (tp rfl) .nil))) ((Jm p3)).fn)<|rc rfl rfl (oM rfl (tp rfl))<|rc rfl rfl (zi (l:=[.tmp 13,.tmp 14]) rfl kN109 (.cons (tp rfl) (.cons (tp rfl) .nil)) (qS p4))<|rc rfl rfl (oA rfl (tp rfl))<|.nil) [6] rfl [] rfl trivial (λ a8 w8 st8=>?_)
 refine za (wp_ret ?_)
 exact st8.ret rfl rfl h7
def x9(x0:Tree)(x1:List Int)(v14:List Str)(s20:(List Str)×Int):Option (((List Str)×Int)⊕(List Str)):=
if(cmpI .lss s20.2 (v14.length:Int))=true then(Option.bind (α:=(List Str)) ((atI v14 s20.2).bind λ v26=>
(qz x0 x1 v26).bind λ v27=>
if v27=true then((atI v14 s20.2).bind λ v33=>
(jO s20.1 v33).bind λ v38=>
some v38)
else(some s20.1)) λ o25=>
(i64 (s20.2+(1:Int))).bind λ v42=>
some (.inl (o25,v42)))
else(some (.inr s20.1))
def jt(x0:Tree)(x1:List Int)(x2:Str):Option (List Str):=
(jl x0).bind λ v2=>
(gO ((!v2) == false) (jm x1)).bind λ v3=>
(gO (((!v2)||(!v3)) == false) (y8 x2)).bind λ v4=>
if(((!v2)||(!v3))||(!v4))=true then(some [])
else((qY x2).bind λ v13=>
(jy x0 x1 v13).bind λ v14=>
Option.bind (α:=(List Str)) (zL (λ s20=>x9 x0 x1 v14 s20) ([],(0:Int))) λ o18=>
some o18)
theorem XI{x0:Tree}{x1:List Int}{x2:Str}{r:List Str}(h:jt x0 x1 x2=some r):FnOwn Tryz.prog 35 [dt x0,dt x1,dt x2] 9 r:=by
 unfold jt at h
 refine fnxO (fn:=Tryz.f35) 1 Tryz.func35 rfl (of_decide_eq_true rfl) rfl (λ M w0 a0 st0=>?_)
 refine st0.sq0 (sc rfl (yw rfl (tp rfl))<|sc rfl (oA rfl (xE (α:=Str) (e:=9)))<|.nil) [1,2,3] rfl (λ a1 w1 st1=>?_)
 refine wp_seq ?_
 obtain⟨v2,p2,h5⟩:=bs h
 obtain⟨v3,p3,h6⟩:=bs h5
 obtain⟨v4,p4,h7⟩:=bs h6
 refine st1.sq0 (sc rfl (zf rfl kT30 (tp rfl))<|sc rfl (zi (l:=[.tmp 10]) rfl kN73 (.cons (tp rfl) .nil) (JN p2))<|sc rfl (yc rfl (tp rfl))<|sc rfl (oM rfl (tp rfl))<|sg rfl rfl (λ hg=>oM rfl (tp rfl))<|sg rfl rfl (λ hg=>zi (l:=[.tmp 14]) rfl kN74 (.cons (zj hg rfl) .nil) (JO (gh hg p3)))<|sg rfl rfl (λ hg=>yc rfl (zj hg rfl))<|sc rfl (xA rfl (tp rfl) (zb rfl))<|sc rfl (oM rfl (tp rfl))<|sg rfl rfl (λ hg=>oM rfl (tp rfl))<|sg rfl rfl (λ hg=>zi (l:=[.tmp 19]) rfl kN75 (.cons (zj hg rfl) .nil) (Zi (gh hg p4)))<|sg rfl rfl (λ hg=>yc rfl (zj hg rfl))<|sc rfl (xA rfl (tp rfl) (zb rfl))<|.nil) [1,2,3,22] rfl (λ a8 w8 st8=>?_)
 refine st8.cs (c:=22) rfl h7 (λ c9 h9=>?_) (λ c10 h10=>?_)
 ·
  refine st8.sq (sc rfl (oA rfl (xE (α:=Str) (e:=9)))<|.nil) [] rfl [(6,0)] rfl ⟨iE,trivial⟩ (λ a11 w11 st11=>?_)
  refine wp_ret (zh ?_)
  exact st11.ret_own 0 rfl rfl iE h9
 ·
  refine wp_skip (za ?_)
  refine st8.sq (sc rfl (wQ (α:=Str) (e:=9) rfl kS39)<|sc rfl (oA rfl (tp rfl))<|.nil) [1,2,3] rfl [(7,0)] rfl ⟨iE,trivial⟩ (λ a12 w12 st12=>?_)
  refine wp_seq ?_
  obtain⟨v13,p13,h15⟩:=bs h10
  obtain⟨v14,p14,h16⟩:=bs h15
  refine st12.dr (D:=[_,_,_,_,_,_]) zR [[],[],[],[2],[0,1,2,3],[0,1,2,3,4]] [[(3,none)],[(1,none)],[(2,none)],[(26,some 2)],[(24,some 0),(25,some 1),(27,some 3)],[(28,some 4)]] (by decide +kernel) (
   rc rfl rfl (zf rfl kT30 (tp rfl))<|rc rfl rfl (oM rfl (tp rfl))<|rc rfl rfl (oM rfl (tp rfl))<|rc rfl rfl (zi (l:=[.tmp 26]) rfl kN95 (.cons (tp rfl) .nil) (Jk p13))<|rc rfl rfl (zi (l:=[.tmp 24,.tmp 25,.tmp 27]) rfl kN94 (.cons (tp rfl) (.cons (tp rfl) (.cons (tp rfl) .nil))) ((Jm p14)).fn)<|rc rfl rfl (oA rfl (tp rfl))<|.nil) [1,3,8] rfl [(7,0)] rfl ⟨iE,trivial⟩ (λ a17 w17 st17=>?_)
  refine za ?_
  obtain⟨o18,p18,k18⟩:=bs h16
  refine zo (λ a w=>∃ M1 q18_0,Sx (Frm.of w0) 49 M M1 [oneB q18_0] [] [(7,0,dtip q18_0 9 o18)] a w) ?_ ?_
  ·
   refine st17.sq (sc rfl (oA rfl cI)<|.nil) [1,3,8,9] rfl [(7,0)] rfl ⟨iE,trivial⟩ (λ a19 w19 st19=>?_)
   refine wp_block ?_
   refine zI p18 (λ s20 a w=>∃ M1 q20_0,Sx (Frm.of w0) 49 M M1 [oneB q20_0] [(1,dt x1),(3,dptr x0),(8,dt v14),(9,dt s20.2)] [(7,0,dtip q20_0 9 s20.1)] a w) ⟨_,_,st19.sel [1,3,8,9] rfl [(7,0)] rfl ⟨iE,trivial⟩⟩ ?_
   rintro s20 z20 a20 w20 ⟨M20,q20_0,st20⟩ hs20 hx20
   have h21:x9 x0 x1 v14 s20=some z20:=hs20
   unfold x9 at h21
   refine wp_seq ?_
   refine st20.sq (sc rfl (oM rfl (tp rfl))<|sc rfl (oM rfl (tp rfl))<|sc rfl (zK rfl kL39 (tp rfl))<|sc rfl (oCI rfl (tp rfl) (tp rfl))<|.nil) [1,3,8,9,32] rfl [(7,0)] rfl ⟨iI,trivial⟩ (λ a22 w22 st22=>?_)
   refine st22.cs (c:=32) rfl h21 (λ c23 h23=>?_) (λ c24 h24=>?_)
   ·
    refine wp_skip (za ?_)
    obtain⟨o25,p25,k25⟩:=bs h23
    refine zo (λ a w=>∃ M1 q25_0,Sx (Frm.of w0) 49 M M1 [oneB q25_0] [(1,dt x1),(3,dptr x0),(8,dt v14),(9,dt s20.2)] [(7,0,dtip q25_0 9 o25)] a w) ?_ ?_
    ·
     refine wp_block (wp_seq ?_)
     obtain⟨v26,p26,h28⟩:=bs p25
     obtain⟨v27,p27,h29⟩:=bs h28
     refine st22.dr (D:=[_,_,_,_,_,_,_]) zR [[],[],[],[],[2,3],[2,3,4],[0,1,2,3,4,5]] [[(3,none)],[(1,none)],[(8,none)],[(9,none)],[(37,some 2),(38,some 3)],[(39,some 4)],[(35,some 0),(36,some 1),(40,some 5)]] (by decide +kernel) (
      rc rfl rfl (zf rfl kT30 (tp rfl))<|rc rfl rfl (oM rfl (tp rfl))<|rc rfl rfl (oM rfl (tp rfl))<|rc rfl rfl (oM rfl (tp rfl))<|rc rfl rfl (xIdx rfl kS39 (tp rfl) (tp rfl) p26)<|rc rfl rfl (zf rfl kT9 (tp rfl))<|rc rfl rfl (zi (l:=[.tmp 35,.tmp 36,.tmp 40]) rfl kN96 (.cons (tp rfl) (.cons (tp rfl) (.cons (tp rfl) .nil))) (spec_onRing_w p27))<|.nil) [1,3,8,9,41] rfl [(7,0)] rfl ⟨iI,trivial⟩ (λ a30 w30 st30=>?_)
     refine za ?_
     refine st30.cs (c:=41) rfl h29 (λ c31 h31=>?_) (λ c32 h32=>?_)
     ·
      refine wp_region_list ?_
      obtain⟨v33,p33,h34⟩:=bs h31
      refine st30.seg 5 (
        sc rfl (oM rfl (tp rfl))<|sc rfl (oM rfl (tp rfl))<|sc rfl (oM rfl (tp rfl))<|sc rfl (xIdx rfl kS39 (tp rfl) (tp rfl) p33)<|sc rfl (zf rfl kT9 (tp rfl))<|.nil) [1,3,8,9,46] rfl [(7,0),(42,0)] rfl ⟨iI,⟨iI,trivial⟩⟩ (λ a35 w35 st35=>?_)
      obtain⟨v38,p38,h39⟩:=bs h34
      refine st35.take (l:=[.tmp 46]) 0 rfl rfl kN97 rfl rfl (.cons (tp rfl) .nil) (Jj p38) [1,3,8,9] rfl [] rfl rfl (λ g37 M37 a37 w37 st37=>?_)
      refine st37.seg 1 (
        sc rfl (oA rfl (tp rfl))<|.nil) [1,3,8,9] rfl [(7,0)] rfl ⟨iI,trivial⟩ (λ a40 w40 st40=>?_)
      refine wpList_nil (zk (za ?_))
      obtain rfl:=Option.some.inj h39
      exact⟨_,_,st40.sel [1,3,8,9] rfl [(7,0)] rfl ⟨iI,trivial⟩⟩
     ·
      refine wp_skip (zk (za ?_))
      obtain rfl:=Option.some.inj h32
      exact⟨_,_,st30.sel [1,3,8,9] rfl [(7,0)] rfl ⟨iI,trivial⟩⟩
    ·
     rintro a25 w25 ⟨M25,q25_0,st25⟩
     have h41:=k25
     obtain⟨v42,p42,h43⟩:=bs h41
     refine st25.rg (sc rfl (oM rfl (tp rfl))<|sc rfl (xAr rfl (tp rfl) cI p42)<|sc rfl (oA rfl (tp rfl))<|.nil) [1,3,8,9] rfl [(7,0)] rfl ⟨iI,trivial⟩ (λ a44 w44 st44=>?_)
     refine za ?_
     exact⟨_,(Option.some.inj h43).symm,⟨_,_,st44.sel [1,3,8,9] rfl [(7,0)] rfl ⟨iI,trivial⟩⟩⟩
   ·
    refine wp_exit (zm (zm (zC ?_)))
    refine za ?_
    have h45:=lo h24 hx20
    obtain rfl:=Option.some.inj h45
    exact⟨_,_,st22.sel [] rfl [(7,0)] rfl ⟨iI,trivial⟩⟩
  ·
   rintro a18 w18 ⟨M18,q18_0,st18⟩
   have h46:=k18
   refine st18.sq (sc rfl (oM rfl (tp rfl))<|sc rfl (oA rfl (tp rfl))<|.nil) [] rfl [(6,0)] rfl ⟨iI,trivial⟩ (λ a47 w47 st47=>?_)
   refine wp_ret ?_
   exact st47.ret_own 0 rfl rfl iI h46
end Go.Proofs.YtiiiokblnnlapaaGreatDoor
