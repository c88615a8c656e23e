import Derived.Test.YtpmkkijamfgaeaaGreatDoorRB
import Derived.Test.YtpmkkijamfgaeaaGreatDoorRO
import Derived.Test.YtpmkkijamfgaeaaGreatDoorRN
import Derived.Test.YtpmkkijamfgaeaaGreatDoorRG
namespace Go.Proofs.YtpmkkijamfgaeaaGreatDoor
open Go.RowKit Tryz
attribute [local irreducible] OpRel OpdR
set_option maxRecDepth 10000
set_option maxHeartbeats 1600000
open Go.RowKit Tryz
set_option maxRecDepth 10000
set_option maxHeartbeats 1600000
theorem kN42:fnB prog 42=true:=by kernel_rfl
theorem kN91:fnB prog 91=true:=by kernel_rfl
theorem kN48:fnB prog 48=true:=by kernel_rfl
theorem kN150:fnB prog 150=true:=by kernel_rfl
theorem kN142:fnB prog 142=true:=by kernel_rfl
theorem kN90:fnB prog 90=true:=by kernel_rfl
theorem kN41:fnB prog 41=true:=by kernel_rfl
theorem kN82:fnB prog 82=true:=by kernel_rfl
theorem kD98_0_1:∀ {M:Nat->Prop} {look:Nat->Option Dt} {o:Oper} {q0 q1:Operand} {y0:Str} {y1:Int},o.op=.build 98 #[(0,q0),(1,q1)]->OpdR M look q0 (dt y0)->OpdR M look q1 (dt y1)->OpRel prog M look o (dt (⟨y0,y1,[],false,false,[]⟩:GMod)):=@λ _ _ _ q0 q1 y0 y1 ho h0 h1=>yA (parts:=[(0,q0),(1,q1)]) (ns:=[1,1,1,1,1,1]) (zs:=zpGMod) rfl ho kB98 kC98 (λ w a hl=>by
 intro p hp;simp only[List.mem_cons,List.not_mem_nil,or_false] at hp
 rcases hp with rfl | rfl
 ·
  exact⟨(by decide:0<6),Rep.len (α:=Str) (OpdR.cells h0 hl)⟩
 ·
  exact⟨(by decide:1<6),Rep.len (α:=Int) (OpdR.cells h1 hl)⟩) (λ w a hl=>GMod.parts (x:=(⟨y0,y1,[],false,false,[]⟩:GMod)) (OpdR.cells h0 hl) (OpdR.cells h1 hl) Y5 ⟨rfl,trivial⟩ ⟨rfl,trivial⟩ Y5)
theorem kN55:fnB prog 55=true:=by kernel_rfl
theorem kN35:fnB prog 35=true:=by kernel_rfl
theorem kN37:fnB prog 37=true:=by kernel_rfl
theorem kN36:fnB prog 36=true:=by kernel_rfl
theorem kN34:fnB prog 34=true:=by kernel_rfl
theorem kN33:fnB prog 33=true:=by kernel_rfl
theorem kN8:fnB prog 8=true:=by kernel_rfl
theorem kG71_1:fldVB prog 71 1 1 false 1=true:=by kernel_rfl
theorem kN43:fnB prog 43=true:=by kernel_rfl
theorem kN103:fnB prog 103=true:=by kernel_rfl
theorem kN108:fnB prog 108=true:=by kernel_rfl
def qD(v12:List Str)(s17:(List Str)×Int):Option (((List Str)×Int)⊕(List Str)):=
if(cmpI .lss s17.2 (v12.length:Int))=true then(Option.bind (α:=(List Str)) ((atI v12 s17.2).bind λ v23=>
(xG s17.1 v23).bind λ v24=>
if(!v24)=true then((atI v12 s17.2).bind λ v30=>
(appO 16 s17.1 ([v30]:List Str)).bind λ v35=>
some v35)
else(some s17.1)) λ o22=>
(i64 (s17.2+(1:Int))).bind λ v39=>
some (.inl (o22,v39)))
else(some (.inr s17.1))
def qE(x0:List Str)(s5:(List Str)×Int):Option (((List Str)×Int)⊕(List Str)):=
if(cmpI .lss s5.2 (x0.length:Int))=true then(Option.bind (α:=(List Str)) ((atI x0 s5.2).bind λ v11=>
(ZJ v11).bind λ v12=>
zK (λ s17=>qD v12 s17) (s5.1,(0:Int))) λ o10=>
(i64 (s5.2+(1:Int))).bind λ v44=>
some (.inl (o10,v44)))
else(some (.inr s5.1))
def XC(x0:List Str):Option (List Str):=
Option.bind (α:=(List Str)) (zK (λ s5=>qE x0 s5) ([],(0:Int))) λ o3=>
some o3
theorem spec_full_w{x0:List Str}{r:List Str}(h:XC x0=some r):FnOwn prog 142 [dt x0] 9 r:=by
 unfold XC at h
 refine fnxO (fn:=f142) 1 func142 rfl (oD rfl) rfl (λ M w0 _ st0=>?_)
 refine st0.sq2 (sc rfl (oA rfl (yw (α:=Str) (e:=9)))<|.nil) [0] (λ _ _ st1=>?_)
 refine st1.sqB (sc rfl (yZ (α:=Str) (e:=9) rfl kS29)<|segC) [0] [(3,0)] (λ _ _ st2=>?_)
 obtain⟨o3,p3,k3⟩:=bs h
 refine zi (λ a w=>∃ M1 q3_0,Sx (Frm.of w0) 40 M M1 [oneB q3_0] [] [(3,0,dtip q3_0 9 o3)] a w) ?_ ?_
 ·
  refine st2.sqA [0,4] [(3,0)] (λ _ _ st4=>wp_block ?_)
  refine zG p3 (λ s5 a w=>∃ M1 q5_0,Sx (Frm.of w0) 40 M M1 [oneB q5_0] [(0,dt x0),(4,dt s5.2)] [(3,0,dtip q5_0 9 s5.1)] a w) fx ?_
  rintro s5 z5 a5 w5 ⟨M5,q5_0,st5⟩ hs5 hx5
  have h6:qE x0 s5=some z5:=hs5
  unfold qE at h6
  refine wp_seq ?_
  refine st5.sqA [0,4,11] [(3,0)] (λ _ _ st7=>?_)
  refine st7.cs rfl h6 (λ _ h8=>wp_skip (za ?_)) (λ _ h9=>wp_exit (zh (zh (zy ?_))))
  ·
   obtain⟨o10,p10,k10⟩:=bs h8
   refine zi (λ a w=>∃ M1 q10_0,Sx (Frm.of w0) 40 M M1 [oneB q10_0] [(0,dt x0),(4,dt s5.2)] [(3,0,dtip q10_0 9 o10)] a w) ?_ ?_
   ·
    refine wp_block ?_
    obtain⟨v11,p11,h13⟩:=bs p10
    obtain⟨v12,p12,h14⟩:=bsW h13 Jm
    refine st7.sqA [0,4,5] [(3,0)] (λ _ _ st15=>?_)
    refine st15.sqA [0,4,5,6] [(3,0)] (λ _ _ st16=>wp_block ?_)
    refine zG h14 (λ s17 a w=>∃ M1 q17_0,Sx (Frm.of w0) 40 M M1 [oneB q17_0] [(0,dt x0),(4,dt s5.2),(5,dt v12),(6,dt s17.2)] [(3,0,dtip q17_0 9 s17.1)] a w) fx ?_
    rintro s17 z17 a17 w17 ⟨M17,q17_0,st17⟩ hs17 hx17
    have h18:qD v12 s17=some z17:=hs17
    unfold qD at h18
    refine wp_seq ?_
    refine st17.sqA [0,4,5,6,22] [(3,0)] (λ _ _ st19=>?_)
    refine st19.cs rfl h18 (λ _ h20=>wp_skip (za ?_)) (λ _ h21=>wp_exit (zh (zh (zy ?_))))
    ·
     obtain⟨o22,p22,k22⟩:=bs h20
     refine zi (λ a w=>∃ M1 q22_0,Sx (Frm.of w0) 40 M M1 [oneB q22_0] [(0,dt x0),(4,dt s5.2),(5,dt v12),(6,dt s17.2)] [(3,0,dtip q22_0 9 o22)] a w) ?_ ?_
     ·
      refine wp_block ?_
      obtain⟨v23,p23,v24,p24,h26⟩:=bsB p22
      refine st19.sqB (sP 5 (r:=by exact sc rfl (we (l:=[.tmp 25,.tmp 29]) st19.ob.sub rfl kN91 (.cons (borrow st19.ob 0 rfl (tp rfl)) (.cons (jU st19.ob.sub (tp rfl)) .nil)) (qv p24) qn)<|segC)) [0,4,5,6,31] [(3,0)] (λ _ _ st27=>?_)
      refine st27.cs rfl h26 (λ _ h28=>wp_region_list ?_) (λ _ h29=>wp_skip (zf (za ?_)))
      ·
       obtain⟨v30,p30,h31⟩:=bs h28
       refine st27.segC 6 [0,4,5,6,37] [(3,0),(32,0)] (λ _ _ st32=>?_)
       obtain⟨v35,p35,h36⟩:=bs h31
       refine st32.apA 0 yS p35 [0,4,5,6] [] (λ g34 _ _ _ st34=>?_)
       refine st34.segA 1 [0,4,5,6] [(3,0)] (λ _ _ st37=>wpList_nil (zf (za ?_)))
       cases h36
       exact fx
      cases h29
      exact fx
     rintro a22 w22 ⟨M22,q22_0,st22⟩
     have h38:=k22
     obtain⟨v39,p39,h40⟩:=bs h38
     refine st22.rgA [0,4,5,6] [(3,0)] (λ _ _ st41=>za ?_)
     exact fl h40
    refine zf (za ?_)
    have h42:=lo h21 hx17
    cases h42
    exact fx
   rintro a10 w10 ⟨M10,q10_0,st10⟩
   have h43:=k10
   obtain⟨v44,p44,h45⟩:=bs h43
   refine st10.rgA [0,4] [(3,0)] (λ _ _ st46=>za ?_)
   exact fl h45
  refine za ?_
  have h47:=lo h9 hx5
  cases h47
  exact fx
 rintro a3 w3 ⟨M3,q3_0,st3⟩
 have h48:=k3
 refine st3.sqA [] [(2,0)] (λ _ _ st49=>wp_ret ?_)
 exact st49.ret_own 0 rfl rfl iI h48
def ji(o8:Str)(v16:File)(s21:(List Str)×Int):Option (((List Str)×Int)⊕(List Str)):=
if(cmpI .lss s21.2 (v16.body.length:Int))=true then(Option.bind (α:=(List Str)) (Option.bind (α:=Str) ((atI v16.body s21.2).bind λ v29=>
Option.bind (α:=Bool) (if(cmpI .eql v29.kind (0:Int))=true then(some (cmpI .eql v29.kind (0:Int)))
else(some (cmpI .eql v29.kind (2:Int)))) λ o32=>
if o32=true then((atI v16.body s21.2).bind λ v40=>
some v40.module)
else(if(cmpI .eql v29.kind (1:Int))=true then((atI v16.body s21.2).bind λ v46=>
(atI v16.body s21.2).bind λ v47=>
(qC o8 v46.level v47.module).bind λ v48=>
some v48)
else(some (⟨[]⟩:Str)))) λ o28=>
(yx o28).bind λ v54=>
(gO (v54 == true) (xG s21.1 o28)).bind λ v55=>
if(v54&&(!v55))=true then((appO 16 s21.1 ([o28]:List Str)).bind λ v64=>
some v64)
else(some s21.1)) λ o26=>
(i64 (s21.2+(1:Int))).bind λ v68=>
some (.inl (o26,v68)))
else(some (.inr s21.1))
def XX(x0:Tree)(_x1:List Int)(x2:Str)(x3:Spec):Option (List Str):=
if(cmpI .lss x3.file (0:Int))=true then(some [])
else(Option.bind (α:=Str) (if(cmpI .eql x3.kind (1:Int))=true then((yz x2).bind λ v12=>
some v12)
else(some x2)) λ o8=>
(atI x0.files x3.file).bind λ v16=>
Option.bind (α:=(List Str)) (zK (λ s21=>ji o8 v16 s21) ([],(0:Int))) λ o19=>
some o19)
theorem spec_needs_w{x0:Tree}{x1:List Int}{x2:Str}{x3:Spec}{r:List Str}(h:XX x0 x1 x2 x3=some r):FnOwn prog 150 [dt x0,dt x1,dt x2,dt x3] 9 r:=by
 unfold XX at h
 refine fnxO (fn:=f150) 1 func150 rfl (oD rfl) rfl (λ M w0 _ st0=>?_)
 refine st0.sq2 (sP 2 (r:=by exact sc rfl (oA rfl (yw (α:=Str) (e:=9)))<|.nil)) [2,4,7] (λ _ _ st1=>?_)
 refine st1.sqB (sc rfl (yZ (α:=Str) (e:=9) rfl kS29)<|segC) [2,4,7] [(9,0)] (λ _ _ st2=>wp_seq ?_)
 refine st2.sqA [2,4,7,17] [(9,0)] (λ _ _ st3=>?_)
 refine st3.cs rfl h (λ _ h4=>?_) (λ _ h5=>wp_skip (za ?_))
 ·
  refine st3.sqA [] [(8,0)] (λ _ _ st6=>wp_ret (ze ?_))
  exact st6.ret_own 0 rfl rfl iE h4
 refine st3.sqA [2,4,7,10] [(9,0)] (λ _ _ st7=>?_)
 obtain⟨o8,p8,k8⟩:=bs h5
 refine zi (λ a w=>∃ M1 q8_0,Sx (Frm.of w0) 78 M M1 [oneB q8_0] [(4,dptr x0),(7,dptr x3),(10,dt o8)] [(9,0,dtip q8_0 9 ([]:List Str))] a w) ?_ ?_
 ·
  refine st7.sqA [2,4,7,10,22] [(9,0)] (λ _ _ st9=>?_)
  refine st9.cs rfl p8 (λ _ h10=>?_) (λ _ h11=>wp_skip (za ?_))
  ·
   obtain⟨v12,p12,h13⟩:=bsW h10 ZZ
   refine st9.rgA [4,7,10] [(9,0)] (λ _ _ st14=>za ?_)
   cases h13
   exact fx
  cases h11
  exact fx
 rintro a8 w8 ⟨M8,q8_0,st8⟩
 have h15:=k8
 obtain⟨v16,p16,h17⟩:=bs h15
 refine st8.sqA [10,11] [(9,0)] (λ _ _ st18=>?_)
 obtain⟨o19,p19,k19⟩:=bs h17
 refine zi (λ a w=>∃ M1 q19_0,Sx (Frm.of w0) 78 M M1 [oneB q19_0] [] [(9,0,dtip q19_0 9 o19)] a w) ?_ ?_
 ·
  refine st18.sqA [10,11,12] [(9,0)] (λ _ _ st20=>wp_block ?_)
  refine zG p19 (λ s21 a w=>∃ M1 q21_0,Sx (Frm.of w0) 78 M M1 [oneB q21_0] [(10,dt o8),(11,dt v16.body),(12,dt s21.2)] [(9,0,dtip q21_0 9 s21.1)] a w) fx ?_
  rintro s21 z21 a21 w21 ⟨M21,q21_0,st21⟩ hs21 hx21
  have h22:ji o8 v16 s21=some z21:=hs21
  unfold ji at h22
  refine wp_seq ?_
  refine st21.sqA [10,11,12,35] [(9,0)] (λ _ _ st23=>?_)
  refine st23.cs rfl h22 (λ _ h24=>wp_skip (za ?_)) (λ _ h25=>wp_exit (zh (zh (zy ?_))))
  ·
   obtain⟨o26,p26,k26⟩:=bs h24
   refine zi (λ a w=>∃ M1 q26_0,Sx (Frm.of w0) 78 M M1 [oneB q26_0] [(10,dt o8),(11,dt v16.body),(12,dt s21.2)] [(9,0,dtip q26_0 9 o26)] a w) ?_ ?_
   ·
    refine wp_block ?_
    refine st23.sqA [10,11,12,13] [(9,0)] (λ _ _ st27=>?_)
    obtain⟨o28,p28,k28⟩:=bs p26
    refine zi (λ a w=>∃ M1 q28_0,Sx (Frm.of w0) 78 M M1 [oneB q28_0] [(10,dt o8),(11,dt v16.body),(12,dt s21.2),(13,dt o28)] [(9,0,dtip q28_0 9 s21.1)] a w) ?_ ?_
    ·
     obtain⟨v29,p29,h30⟩:=bs p28
     refine st27.sqA [10,11,12,13,42] [(9,0)] (λ _ _ st31=>wp_block ?_)
     obtain⟨o32,p32,k32⟩:=bs h30
     refine zi (λ a w=>∃ M1 q32_0,Sx (Frm.of w0) 78 M M1 [oneB q32_0] [(10,dt o8),(11,dt v16.body),(12,dt s21.2),(13,dt (⟨[]⟩:Str)),(42,dt v29.kind),(43,dt o32)] [(9,0,dtip q32_0 9 s21.1)] a w) ?_ ?_
     ·
      refine st31.sqA [10,11,12,13,42,43] [(9,0)] (λ _ _ st33=>?_)
      refine st33.cs rfl p32 (λ _ h34=>wp_skip (za ?_)) (λ _ h35=>?_)
      ·
       cases h34
       exact fx
      refine st33.rgA [10,11,12,13,42,43] [(9,0)] (λ _ _ st36=>za ?_)
      cases h35
      exact fx
     rintro a32 w32 ⟨M32,q32_0,st32⟩
     have h37:=k32
     refine st32.cs rfl h37 (λ _ h38=>?_) (λ _ h39=>?_)
     ·
      obtain⟨v40,p40,h41⟩:=bs h38
      refine st32.rgA [10,11,12,13] [(9,0)] (λ _ _ st42=>zf (za ?_))
      cases h41
      exact fx
     refine st32.sqA [10,11,12,13,51] [(9,0)] (λ _ _ st43=>?_)
     refine st43.cs rfl h39 (λ _ h44=>?_) (λ _ h45=>wp_skip (zf (za ?_)))
     ·
      obtain⟨v46,p46,v47,p47,v48,p48,h51⟩:=bsC h44
      refine st43.drA (D:=[_,_,_,_,_,_,_,_,_,_,_,_,_]) zJ [[(10,nS)],[(11,nS)],[(12,nS)],[(54,1),(55,2)],[(56,3)],[(57,4)],[(11,nS)],[(12,nS)],[(59,6),(60,7)],[(61,8)],[(62,9)],[(53,0),(58,5),(63,10)],[(64,11)]] [10,11,12,13] [(9,0)] (λ _ _ st52=>?_) (hs:=rc rfl rfl (oM rfl (tp rfl))<|rc rfl rfl (oM rfl (tp rfl))<|rc rfl rfl (oM rfl (tp rfl))<|rc rfl rfl (xIdx rfl kS49 (tp rfl) (tp rfl) p46)<|rc rfl rfl (zH Stmt.fld2 rfl kF74_2 (tp rfl))<|rc rfl rfl (zr rfl kT3 (tp rfl))<|rc rfl rfl (oM rfl (tp rfl))<|rc rfl rfl (oM rfl (tp rfl))<|rc rfl rfl (xIdx rfl kS49 (tp rfl) (tp rfl) p47)<|rc rfl rfl (zH Stmt.fld1 rfl kF74_1 (tp rfl))<|rc rfl rfl (zr rfl kT9 (tp rfl))<|rc rfl rfl (zB (l:=[.tmp 53,.tmp 58,.tmp 63]) rfl kN194 (.cons (tp rfl) (.cons (tp rfl) (.cons (tp rfl) .nil))) (zc1 p48))<|rc rfl rfl (oA rfl (tp rfl))<|.nil)
      refine zf (za ?_)
      cases h51
      exact fx
     cases h45
     exact fx
    rintro a28 w28 ⟨M28,q28_0,st28⟩
    have h53:=k28
    obtain⟨v54,p54,v55,p55,h57⟩:=bsB h53
    refine st28.sqB (sP 1 (r:=by exact sc rfl (oK (qz p54))<|sP 3 (r:=by exact sg rfl rfl (λ hg=>we (l:=[.tmp 68,.tmp 69]) st28.ob.sub rfl kN91 (.cons (borrow st28.ob 0 rfl (zn hg rfl)) (.cons (jU st28.ob.sub (zn hg rfl)) .nil)) (qv (gh hg p55)) qn)<|segC))) [10,11,12,13,72] [(9,0)] (λ _ _ st58=>?_)
    refine st58.cs rfl h57 (λ _ h59=>wp_region_list ?_) (λ _ h60=>wp_skip (zf (za ?_)))
    ·
     refine st58.segC 3 [10,11,12,75] [(9,0),(73,0)] (λ _ _ st61=>?_)
     obtain⟨v64,p64,h65⟩:=bs h59
     refine st61.apA 0 yS p64 [10,11,12] [] (λ g63 _ _ _ st63=>?_)
     refine st63.segA 1 [10,11,12] [(9,0)] (λ _ _ st66=>wpList_nil (zf (za ?_)))
     cases h65
     exact fx
    cases h60
    exact fx
   rintro a26 w26 ⟨M26,q26_0,st26⟩
   have h67:=k26
   obtain⟨v68,p68,h69⟩:=bs h67
   refine st26.rgA [10,11,12] [(9,0)] (λ _ _ st70=>za ?_)
   exact fl h69
  refine za ?_
  have h71:=lo h25 hx21
  cases h71
  exact fx
 rintro a19 w19 ⟨M19,q19_0,st19⟩
 have h72:=k19
 refine st19.sqA [] [(8,0)] (λ _ _ st73=>wp_ret ?_)
 exact st73.ret_own 0 rfl rfl iI h72
def qF(x0:Tree)(x1:List Int)(x2:Str):Option (List Str):=
(Yo x0 x1 x2).bind λ v2=>
(XX x0 x1 x2 v2).bind λ v3=>
some v3
theorem J4{x0:Tree}{x1:List Int}{x2:Str}{r:List Str}(h:qF x0 x1 x2=some r):Fn prog 109 [dt x0,dt x1,dt x2] (dt r):=by
 unfold qF at h
 refine fnx (fn:=f109) 0 func109 rfl (oD rfl) rfl (λ M _ _ st0=>?_)
 refine st0.sq2 (sP 1 (r:=by exact sc rfl (oA rfl (x8 (α:=Str)))<|.nil)) [1,2,3] (λ _ _ st1=>wp_seq ?_)
 obtain⟨v2,p2,v3,p3,h5⟩:=bsB h
 refine st1.drA (D:=[_,_,_,_,_,_,_,_,_]) zJ [[(3,nS)],[(1,nS)],[(2,nS)],[(3,nS)],[(1,nS)],[(2,nS)],[(10,3),(11,4),(12,5)],[(7,0),(8,1),(9,2),(13,6)],[(14,7)]] [6] [] (λ _ _ st6=>?_) (hs:=rc rfl rfl (zr rfl kT25 (tp rfl))<|rc rfl rfl (oM rfl (tp rfl))<|rc rfl rfl (oM rfl (tp rfl))<|rc rfl rfl (zr rfl kT25 (tp rfl))<|rc rfl rfl (oM rfl (tp rfl))<|rc rfl rfl (oM rfl (tp rfl))<|rc rfl rfl (zB (l:=[.tmp 10,.tmp 11,.tmp 12]) rfl kN48 (.cons (tp rfl) (.cons (tp rfl) (.cons (tp rfl) .nil))) (zcp p2))<|rc rfl rfl (zB (l:=[.tmp 7,.tmp 8,.tmp 9,.tmp 13]) rfl kN150 (.cons (tp rfl) (.cons (tp rfl) (.cons (tp rfl) (.cons (tp rfl) .nil)))) ((spec_needs_w p3)).fn)<|rc rfl rfl (oA rfl (tp rfl))<|.nil)
 refine za (wp_ret ?_)
 exact st6.ret rfl rfl h5
def ZK(x0:Tree)(x1:List Int)(x2:Str):Option (List Str):=
(qF x0 x1 x2).bind λ v2=>
(XC v2).bind λ v3=>
some v3
theorem zbi{x0:Tree}{x1:List Int}{x2:Str}{r:List Str}(h:ZK x0 x1 x2=some r):Fn prog 90 [dt x0,dt x1,dt x2] (dt r):=by
 unfold ZK at h
 refine fnx (fn:=f90) 0 func90 rfl (oD rfl) rfl (λ M _ _ st0=>?_)
 refine st0.sq2 (sP 1 (r:=by exact sc rfl (oA rfl (x8 (α:=Str)))<|.nil)) [1,2,3] (λ _ _ st1=>?_)
 obtain⟨v2,p2,v3,p3,h5⟩:=bsB h
 refine st1.sq2 (sP 3 (r:=by exact sc rfl (oK (J4 p2))<|sc rfl (zB (l:=[.tmp 10]) rfl kN142 (.cons (tp rfl) .nil) ((spec_full_w p3)).fn)<|segC)) [6] (λ _ _ st6=>wp_ret ?_)
 exact st6.ret rfl rfl h5
def Z9(v17:List Str)(s22:(List Str)×Int):Option (((List Str)×Int)⊕(List Str)):=
if(cmpI .lss s22.2 (v17.length:Int))=true then(Option.bind (α:=(List Str)) ((atI v17 s22.2).bind λ v28=>
(xG s22.1 v28).bind λ v29=>
if(!v29)=true then((atI v17 s22.2).bind λ v35=>
(appO 16 s22.1 ([v35]:List Str)).bind λ v40=>
some v40)
else(some s22.1)) λ o27=>
(i64 (s22.2+(1:Int))).bind λ v44=>
some (.inl (o27,v44)))
else(some (.inr s22.1))
def jP(x0:Tree)(x1:List Int)(s10:(List Str)×Int):Option (((List Str)×Int)⊕(List Str)):=
if(cmpI .lss s10.2 (s10.1.length:Int))=true then(Option.bind (α:=(List Str)) ((atI s10.1 s10.2).bind λ v16=>
(ZK x0 x1 v16).bind λ v17=>
zK (λ s22=>Z9 v17 s22) (s10.1,(0:Int))) λ o15=>
(i64 (s10.2+(1:Int))).bind λ v49=>
some (.inl (o15,v49)))
else(some (.inr s10.1))
def j7(x0:Tree)(x1:List Int)(x2:List Str):Option (List Str):=
(appO 16 [] x2).bind λ v5=>
Option.bind (α:=(List Str)) (zK (λ s10=>jP x0 x1 s10) (v5,(0:Int))) λ o8=>
some o8
theorem Jo{x0:Tree}{x1:List Int}{x2:List Str}{r:List Str}(h:j7 x0 x1 x2=some r):FnOwn prog 41 [dt x0,dt x1,dt x2] 9 r:=by
 unfold j7 at h
 refine fnxO (fn:=f41) 1 func41 rfl (oD rfl) rfl (λ M w0 _ st0=>?_)
 refine st0.sq2 (sP 1 (r:=by exact sc rfl (oA rfl (yw (α:=Str) (e:=9)))<|.nil)) [1,2,3] (λ _ _ st1=>wp_seq (wp_region_list ?_))
 refine st1.segB 2 (sc rfl (yZ (α:=Str) (e:=9) rfl kS29)<|segC) [1,3,12] [(11,0)] (λ _ _ st2=>?_)
 obtain⟨v5,p5,h6⟩:=bs h
 refine st2.apA 0 yS p5 [1,3] [] (λ g4 _ _ _ st4=>?_)
 refine st4.segA 1 [1,3] [(7,0)] (λ _ _ st7=>wpList_nil (za ?_))
 obtain⟨o8,p8,k8⟩:=bs h6
 refine zi (λ a w=>∃ M1 q8_0,Sx (Frm.of w0) 48 M M1 [oneB q8_0] [] [(7,0,dtip q8_0 9 o8)] a w) ?_ ?_
 ·
  refine st7.sqA [1,3,8] [(7,0)] (λ _ _ st9=>wp_block ?_)
  refine zG p8 (λ s10 a w=>∃ M1 q10_0,Sx (Frm.of w0) 48 M M1 [oneB q10_0] [(1,dt x1),(3,dptr x0),(8,dt s10.2)] [(7,0,dtip q10_0 9 s10.1)] a w) fx ?_
  rintro s10 z10 a10 w10 ⟨M10,q10_0,st10⟩ hs10 hx10
  have h11:jP x0 x1 s10=some z10:=hs10
  unfold jP at h11
  refine wp_seq ?_
  refine st10.sqB (sP 2 (r:=by exact sc rfl (Qo rfl kL29 (tp rfl))<|segC)) [1,3,8,17] [(7,0)] (λ _ _ st12=>?_)
  refine st12.cs rfl h11 (λ _ h13=>wp_skip (za ?_)) (λ _ h14=>wp_exit (zh (zh (zy ?_))))
  ·
   obtain⟨o15,p15,k15⟩:=bs h13
   refine zi (λ a w=>∃ M1 q15_0,Sx (Frm.of w0) 48 M M1 [oneB q15_0] [(1,dt x1),(3,dptr x0),(8,dt s10.2)] [(7,0,dtip q15_0 9 o15)] a w) ?_ ?_
   ·
    refine wp_block (wp_seq ?_)
    obtain⟨v16,p16,v17,p17,h19⟩:=bsB p15
    refine st12.drA (D:=[_,_,_,_,_,_,_,_]) zJ [[(3,nS)],[(1,nS)],[(7,nS)],[(8,nS)],[(22,2),(23,3)],[(24,4)],[(20,0),(21,1),(25,5)],[(26,6)]] [1,3,8,9] [(7,0)] (λ _ _ st20=>?_) (hs:=rc rfl rfl (zr rfl kT25 (tp rfl))<|rc rfl rfl (oM rfl (tp rfl))<|rc rfl rfl (oM rfl (tp rfl))<|rc rfl rfl (oM rfl (tp rfl))<|rc rfl rfl (xIdxT rfl kS29 (tp rfl) (tp rfl) p16)<|rc rfl rfl (yf rfl kT9 (tp rfl))<|rc rfl rfl (zB (l:=[.tmp 20,.tmp 21,.tmp 25]) rfl kN90 (.cons (tp rfl) (.cons (tp rfl) (.cons (tp rfl) .nil))) (zbi p17))<|rc rfl rfl (oA rfl (tp rfl))<|.nil)
    refine za ?_
    refine st20.sqA [1,3,8,9,10] [(7,0)] (λ _ _ st21=>wp_block ?_)
    refine zG h19 (λ s22 a w=>∃ M1 q22_0,Sx (Frm.of w0) 48 M M1 [oneB q22_0] [(1,dt x1),(3,dptr x0),(8,dt s10.2),(9,dt v17),(10,dt s22.2)] [(7,0,dtip q22_0 9 s22.1)] a w) fx ?_
    rintro s22 z22 a22 w22 ⟨M22,q22_0,st22⟩ hs22 hx22
    have h23:Z9 v17 s22=some z22:=hs22
    unfold Z9 at h23
    refine wp_seq ?_
    refine st22.sqA [1,3,8,9,10,30] [(7,0)] (λ _ _ st24=>?_)
    refine st24.cs rfl h23 (λ _ h25=>wp_skip (za ?_)) (λ _ h26=>wp_exit (zh (zh (zy ?_))))
    ·
     obtain⟨o27,p27,k27⟩:=bs h25
     refine zi (λ a w=>∃ M1 q27_0,Sx (Frm.of w0) 48 M M1 [oneB q27_0] [(1,dt x1),(3,dptr x0),(8,dt s10.2),(9,dt v17),(10,dt s22.2)] [(7,0,dtip q27_0 9 o27)] a w) ?_ ?_
     ·
      refine wp_block ?_
      obtain⟨v28,p28,v29,p29,h31⟩:=bsB p27
      refine st24.sqB (sP 5 (r:=by exact sc rfl (we (l:=[.tmp 33,.tmp 37]) st24.ob.sub rfl kN91 (.cons (borrow st24.ob 0 rfl (tp rfl)) (.cons (jU st24.ob.sub (tp rfl)) .nil)) (qv p29) qn)<|segC)) [1,3,8,9,10,39] [(7,0)] (λ _ _ st32=>?_)
      refine st32.cs rfl h31 (λ _ h33=>wp_region_list ?_) (λ _ h34=>wp_skip (zf (za ?_)))
      ·
       obtain⟨v35,p35,h36⟩:=bs h33
       refine st32.segC 6 [1,3,8,9,10,45] [(7,0),(40,0)] (λ _ _ st37=>?_)
       obtain⟨v40,p40,h41⟩:=bs h36
       refine st37.apA 0 yS p40 [1,3,8,9,10] [] (λ g39 _ _ _ st39=>?_)
       refine st39.segA 1 [1,3,8,9,10] [(7,0)] (λ _ _ st42=>wpList_nil (zf (za ?_)))
       cases h41
       exact fx
      cases h34
      exact fx
     rintro a27 w27 ⟨M27,q27_0,st27⟩
     have h43:=k27
     obtain⟨v44,p44,h45⟩:=bs h43
     refine st27.rgA [1,3,8,9,10] [(7,0)] (λ _ _ st46=>za ?_)
     exact fl h45
    refine zf (za ?_)
    have h47:=lo h26 hx22
    cases h47
    exact fx
   rintro a15 w15 ⟨M15,q15_0,st15⟩
   have h48:=k15
   obtain⟨v49,p49,h50⟩:=bs h48
   refine st15.rgA [1,3,8] [(7,0)] (λ _ _ st51=>za ?_)
   exact fl h50
  refine za ?_
  have h52:=lo h14 hx10
  cases h52
  exact fx
 rintro a8 w8 ⟨M8,q8_0,st8⟩
 have h53:=k8
 refine st8.sqA [] [(6,0)] (λ _ _ st54=>wp_ret ?_)
 exact st54.ret_own 0 rfl rfl iI h53
def jG(x0:Tree)(x1:List Int)(x2:Str):Option Bool:=
(wF x0).bind λ v2=>
(gO (v2 == true) (wG x1)).bind λ v3=>
(gO ((v2&&v3) == true) (zV x2)).bind λ v4=>
some ((v2&&v3)&&v4)
theorem Wo{x0:Tree}{x1:List Int}{x2:Str}{r:Bool}(h:jG x0 x1 x2=some r):Fn prog 32 [dt x0,dt x1,dt x2] (dt r):=by
 unfold jG at h
 refine fnx (fn:=f32) 0 func32 rfl (oD rfl) rfl (λ M _ _ st0=>?_)
 refine st0.sq1 [1,2,3] (λ _ _ st1=>?_)
 obtain⟨v2,p2,v3,p3,v4,p4,h7⟩:=bsC h
 refine st1.sq2 (sP 1 (r:=by exact sc rfl (oK (Y9 p2))<|sP 2 (r:=by exact sg rfl rfl (λ hg=>oK (Xa (gh hg p3)))<|sP 3 (r:=by exact sg rfl rfl (λ hg=>oK (yo (gh hg p4)))<|segC)))) [6] (λ _ _ st8=>wp_ret ?_)
 exact st8.ret rfl rfl h7
def jx(x0:List Str)(s5:(List Str)×Int):Option (((List Str)×Int)⊕(List Str)):=
if(cmpI .lss s5.2 (x0.length:Int))=true then(Option.bind (α:=(List Str)) ((atI x0 s5.2).bind λ v11=>
(zU s5.1 v11).bind λ v14=>
if(!v14)=true then((appO 16 s5.1 ([v11]:List Str)).bind λ v22=>
some v22)
else(some s5.1)) λ o10=>
(i64 (s5.2+(1:Int))).bind λ v26=>
some (.inl (o10,v26)))
else(some (.inr s5.1))
def js(x0:List Str):Option (List Str):=
Option.bind (α:=(List Str)) (zK (λ s5=>jx x0 s5) ([],(0:Int))) λ o3=>
some o3
theorem Xm{x0:List Str}{r:List Str}(h:js x0=some r):FnOwn prog 82 [dt x0] 9 r:=by
 unfold js at h
 refine fnxO (fn:=f82) 1 func82 rfl (oD rfl) rfl (λ M w0 _ st0=>?_)
 refine st0.sq2 (sc rfl (oA rfl (yw (α:=Str) (e:=9)))<|.nil) [0] (λ _ _ st1=>?_)
 refine st1.sqB (sc rfl (yZ (α:=Str) (e:=9) rfl kS29)<|segC) [0] [(3,0)] (λ _ _ st2=>?_)
 obtain⟨o3,p3,k3⟩:=bs h
 refine zi (λ a w=>∃ M1 q3_0,Sx (Frm.of w0) 23 M M1 [oneB q3_0] [] [(3,0,dtip q3_0 9 o3)] a w) ?_ ?_
 ·
  refine st2.sqA [7,8,9] [(3,0)] (λ _ _ st4=>wp_block ?_)
  refine zG p3 (λ s5 a w=>∃ M1 q5_0,Sx (Frm.of w0) 23 M M1 [oneB q5_0] [(7,dt x0),(8,dt (x0.length:Int)),(9,dt s5.2)] [(3,0,dtip q5_0 9 s5.1)] a w) fx ?_
  rintro s5 z5 a5 w5 ⟨M5,q5_0,st5⟩ hs5 hx5
  have h6:jx x0 s5=some z5:=hs5
  unfold jx at h6
  refine st5.sqA [7,8,9,10] [(3,0)] (λ _ _ st7=>wp_seq ?_)
  refine st7.cs rfl h6 (λ _ h8=>wp_skip (za ?_)) (λ _ h9=>wp_exit (zh (zh (zy ?_))))
  ·
   obtain⟨o10,p10,k10⟩:=bs h8
   refine zi (λ a w=>∃ M1 q10_0,Sx (Frm.of w0) 23 M M1 [oneB q10_0] [(7,dt x0),(8,dt (x0.length:Int)),(9,dt s5.2)] [(3,0,dtip q10_0 9 o10)] a w) ?_ ?_
   ·
    refine wp_block ?_
    obtain⟨v11,p11,h12⟩:=bs p10
    refine st7.sqA [5,7,8,9] [(3,0)] (λ _ _ st13=>?_)
    obtain⟨v14,p14,h15⟩:=bs h12
    refine st13.sqB (sP 2 (r:=by exact sc rfl (we (l:=[.tmp 13,.tmp 14]) st13.ob.sub rfl kN104 (.cons (borrow st13.ob 0 rfl (tp rfl)) (.cons (jU st13.ob.sub (tp rfl)) .nil)) (wy p14) qn)<|segC)) [5,7,8,9,16] [(3,0)] (λ _ _ st16=>?_)
    refine st16.cs rfl h15 (λ _ h17=>wp_region_list ?_) (λ _ h18=>wp_skip (zf (za ?_)))
    ·
     refine st16.segC 3 [7,8,9,19] [(3,0),(17,0)] (λ _ _ st19=>?_)
     obtain⟨v22,p22,h23⟩:=bs h17
     refine st19.apA 0 yS p22 [7,8,9] [] (λ g21 _ _ _ st21=>?_)
     refine st21.segA 1 [7,8,9] [(3,0)] (λ _ _ st24=>wpList_nil (zf (za ?_)))
     cases h23
     exact fx
    cases h18
    exact fx
   rintro a10 w10 ⟨M10,q10_0,st10⟩
   have h25:=k10
   obtain⟨v26,p26,h27⟩:=bs h25
   refine st10.rgA [7,8,9] [(3,0)] (λ _ _ st28=>za ?_)
   exact fl h27
  refine za ?_
  have h29:=lo h9 hx5
  cases h29
  exact fx
 rintro a3 w3 ⟨M3,q3_0,st3⟩
 have h30:=k3
 refine st3.sqA [] [(2,0)] (λ _ _ st31=>wp_ret ?_)
 exact st31.ret_own 0 rfl rfl iI h30
def jQ(x1:(Str->Option (List Str)))(s10:(List Str)×Int):Option (((List Str)×Int)⊕(List Str)):=
if(cmpI .lss s10.2 (s10.1.length:Int))=true then((atI s10.1 s10.2).bind λ v16=>
(x1 v16).bind λ v17=>
(appO 16 s10.1 v17).bind λ v23=>
(js v23).bind λ v27=>
(i64 (s10.2+(1:Int))).bind λ v31=>
some (.inl (v27,v31)))
else(some (.inr s10.1))
def ZL(x0:List Str)(x1:(Str->Option (List Str))):Option (List Str):=
(js x0).bind λ v5=>
Option.bind (α:=(List Str)) (zK (λ s10=>jQ x1 s10) (v5,(0:Int))) λ o8=>
some o8
theorem zbj{x0:List Str}{x1:(Str->Option (List Str))}{r:List Str}(h:ZL x0 x1=some r):FnOwn prog 34 [dt x0,dfn1 prog x1] 9 r:=by
 unfold ZL at h
 refine fnxO (fn:=f34) 1 func34 rfl (oD rfl) rfl (λ M w0 _ st0=>?_)
 refine st0.sq2 (sc rfl (oA rfl (yw (α:=Str) (e:=9)))<|.nil) [0,1] (λ _ _ st1=>wp_seq (wp_region_list ?_))
 refine st1.segA 1 [1,7] [] (λ _ _ st2=>?_)
 obtain⟨v5,p5,h6⟩:=bs h
 refine st2.own (l:=[.tmp 7]) 0 rfl rfl kN82 (.cons (tp rfl) .nil) (Xm p5) (by simp) [1] rfl [] rfl rfl (λ g4 _ _ _ st4=>?_)
 refine st4.segA 1 [1] [(5,0)] (λ _ _ st7=>wpList_nil (za ?_))
 obtain⟨o8,p8,k8⟩:=bs h6
 refine zi (λ a w=>∃ M1 q8_0,Sx (Frm.of w0) 25 M M1 [oneB q8_0] [] [(5,0,dtip q8_0 9 o8)] a w) ?_ ?_
 ·
  refine st7.sqA [1,6] [(5,0)] (λ _ _ st9=>wp_block ?_)
  refine zG p8 (λ s10 a w=>∃ M1 q10_0,Sx (Frm.of w0) 25 M M1 [oneB q10_0] [(6,dt s10.2),(1,dfn1 prog x1)] [(5,0,dtip q10_0 9 s10.1)] a w) fx ?_
  rintro s10 z10 a10 w10 ⟨M10,q10_0,st10⟩ hs10 hx10
  have h11:jQ x1 s10=some z10:=hs10
  unfold jQ at h11
  refine wp_seq ?_
  refine st10.sqB (sP 2 (r:=by exact sc rfl (Qo rfl kL29 (tp rfl))<|segC)) [1,6,12] [(5,0)] (λ _ _ st12=>?_)
  refine st12.cs rfl h11 (λ _ h13=>wp_skip (za (wp_seq (wp_block (wp_region_list ?_))))) (λ _ h14=>wp_exit (zh (zh (zy ?_))))
  ·
   obtain⟨v16,p16,v17,p17,h19⟩:=bsB h13
   refine st12.segB 7 (sP 4 (r:=by exact sc rfl (xIdxT rfl kS29 (tp rfl) (tp rfl) p16)<|sP 1 (r:=by exact sc rfl (xCaF1 rfl (tp rfl) (tp rfl) p17)<|.nil))) [1,6,21] [(5,0),(15,0)] (λ _ _ st20=>?_)
   obtain⟨v23,p23,h24⟩:=bs h19
   refine st20.apA 0 yS p23 [1,6] [] (λ g22 _ _ _ st22=>?_)
   obtain⟨v27,p27,h28⟩:=bs h24
   have st29:=st22.frz 0 (s:=22) rfl rfl [1,6] rfl [] rfl
   refine st29.own (l:=[.tmp 22]) 0 rfl rfl kN82 (.cons (tp rfl) .nil) (Xm p27) (by simp) [1,6] rfl [] rfl rfl (λ g26 _ _ _ st26=>?_)
   refine st26.segA 1 [1,6] [(5,0)] (λ _ _ st30=>wpList_nil (zf (za ?_)))
   obtain⟨v31,p31,h32⟩:=bs h28
   refine st30.rgA [1,6] [(5,0)] (λ _ _ st33=>za ?_)
   exact fl h32
  refine za ?_
  have h34:=lo h14 hx10
  cases h34
  exact fx
 rintro a8 w8 ⟨M8,q8_0,st8⟩
 have h35:=k8
 refine st8.sqA [] [(4,0)] (λ _ _ st36=>wp_ret ?_)
 exact st36.ret_own 0 rfl rfl iI h35
def wZ(x2:Str)(v3:Spec)(v24:File)(s27:(List Str)×Int):Option (((List Str)×Int)⊕(List Str)):=
if(cmpI .lss s27.2 (v24.body.length:Int))=true then(Option.bind (α:=(List Str)) ((atI v24.body s27.2).bind λ v33=>
Option.bind (α:=Bool) (if(cmpI .eql v33.kind (0:Int))=true then(some (cmpI .eql v33.kind (0:Int)))
else(some (cmpI .eql v33.kind (2:Int)))) λ o42=>
if o42=true then((appO 16 s27.1 ([v33.module]:List Str)).bind λ v53=>
some v53)
else(if(cmpI .eql v33.kind (1:Int))=true then((yn (⟨x2,v3.kind,[],false,false,[]⟩:GMod)).bind λ v60=>
(wH v60 v33.level v33.module).bind λ v61=>
if(decide (v61≠(⟨[]⟩:Str)))=true then((appO 16 s27.1 ([v61]:List Str)).bind λ v71=>
some v71)
else(some s27.1))
else(some s27.1))) λ o32=>
(i64 (s27.2+(1:Int))).bind λ v76=>
some (.inl (o32,v76)))
else(some (.inr s27.1))
def qG(x0:Tree)(x1:List Int)(x2:Str):Option (List Str):=
(xP x0 x1 x2).bind λ v3=>
if(cmpI .lss v3.file (0:Int))=true then(some [])
else(Option.bind (α:=(List Str)) ((atI x0.files v3.file).bind λ v24=>
zK (λ s27=>wZ x2 v3 v24 s27) ([],(0:Int))) λ o23=>
(js o23).bind λ v85=>
some v85)
theorem J5{x0:Tree}{x1:List Int}{x2:Str}{r:List Str}(h:qG x0 x1 x2=some r):FnOwn prog 55 [dt x0,dt x1,dt x2] 9 r:=by
 unfold qG at h
 refine fnxO (fn:=f55) 4 func55 rfl (oD rfl) rfl (λ M w0 _ st0=>?_)
 refine st0.sq2 (sP 1 (r:=by exact sc rfl (oA rfl (yw (α:=Str) (e:=9)))<|.nil)) [1,2,3] (λ _ _ st1=>?_)
 refine st1.sqB (sc rfl (yZ (α:=Str) (e:=9) rfl kS29)<|segC) [1,2,3] [(7,0)] (λ _ _ st2=>wp_seq (wp_region_list ?_))
 obtain⟨v3,p3,h4⟩:=bsW h XM
 refine st2.segA 4 [2,3,17] [(7,0)] (λ _ _ st5=>?_)
 refine st5.alA 1 JX [2,3,17] [7] (λ b7 _ _ _ st7=>?_)
 have st8:=st7.gn
 refine st8.stA 8 1 FldS.id (tp rfl) [2,3] [7] (λ _ _ st10=>wpList_nil (za (wp_seq ?_)))
 refine st10.sqC [2,3,20] [(7,0),(8,1)] (λ _ _ st11=>?_)
 refine st11.cs rfl h4 (λ _ h12=>?_) (λ _ h13=>wp_skip (za (wp_seq (wp_region_list ?_))))
 ·
  refine st11.sqA [] [(6,0)] (λ _ _ st14=>wp_ret (ze ?_))
  exact st14.ret_own 0 rfl rfl iE h12
 refine st11.segB 4 (sP 3 (r:=by exact sc rfl (kD98_0_1 rfl (tp rfl) (tp rfl))<|.nil)) [3,25] [(7,0),(8,1)] (λ _ _ st15=>?_)
 refine st15.alA 2 zrGMod [3,25] [7,8] (λ b17 _ _ _ st17=>?_)
 have st18:=st17.gn
 refine st18.stA 9 2 FldS.id (tp rfl) [3] [7,8] (λ _ _ st20=>?_)
 have st21:=st20.frzX 2 (s:=9) rfl rfl [3] rfl [7,8] rfl
 have st22:=st21.gn
 refine wpList_nil (za ?_)
 obtain⟨o23,p23,k23⟩:=bs h13
 refine zi (λ a w=>∃ M1 q23_0 q23_1 q23_2 q23_3,Sx (Frm.of w0) 65 M M1 [oneB q23_0,oneB q23_1,oneB q23_2,oneB q23_3] [] [(7,0,dtip q23_0 9 o23)] a w) ?_ ?_
 ·
  obtain⟨v24,p24,h25⟩:=bs p23
  refine st22.sqC [9,32,33,34] [(7,0)] (λ _ _ st26=>wp_block ?_)
  refine zG h25 (λ s27 a w=>∃ M1 q27_0 q27_1 q27_2 q27_3,Sx (Frm.of w0) 65 M M1 [oneB q27_0,oneB q27_1,oneB q27_2,oneB q27_3] [(9,dptr (⟨x2,v3.kind,[],false,false,[]⟩:GMod)),(32,dt v24.body),(33,dt (v24.body.length:Int)),(34,dt s27.2)] [(7,0,dtip q27_0 9 s27.1)] a w) fx ?_
  rintro s27 z27 a27 w27 ⟨M27,q27_0,q27_1,q27_2,q27_3,st27⟩ hs27 hx27
  have h28:wZ x2 v3 v24 s27=some z27:=hs27
  unfold wZ at h28
  refine st27.sqA [9,32,33,34,35] [(7,0)] (λ _ _ st29=>wp_seq ?_)
  refine st29.cs rfl h28 (λ _ h30=>wp_skip (za ?_)) (λ _ h31=>wp_exit (zh (zh (zy ?_))))
  ·
   obtain⟨o32,p32,k32⟩:=bs h30
   refine zi (λ a w=>∃ M1 q32_0 q32_1 q32_2 q32_3,Sx (Frm.of w0) 65 M M1 [oneB q32_0,oneB q32_1,oneB q32_2,oneB q32_3] [(9,dptr (⟨x2,v3.kind,[],false,false,[]⟩:GMod)),(32,dt v24.body),(33,dt (v24.body.length:Int)),(34,dt s27.2)] [(7,0,dtip q32_0 9 o32)] a w) ?_ ?_
   ·
    refine wp_block (wp_seq (wp_region_list ?_))
    obtain⟨v33,p33,h34⟩:=bs p32
    refine st29.segA 2 [9,32,33,34,37] [(7,0)] (λ _ _ st35=>?_)
    refine st35.alA 3 zan [9,32,33,34,37] [7] (λ b37 _ _ _ st37=>?_)
    have st38:=st37.gn
    refine st38.stA 11 3 FldS.id (tp rfl) [9,32,33,34] [7] (λ _ _ st40=>wpList_nil (za ?_))
    refine st40.sqC [9,32,33,34,39] [(7,0),(11,3)] (λ _ _ st41=>wp_block ?_)
    obtain⟨o42,p42,k42⟩:=bs h34
    refine zi (λ a w=>∃ M1 q42_0 q42_1 q42_2 q42_3,Sx (Frm.of w0) 65 M M1 [oneB q42_0,oneB q42_1,oneB q42_2,oneB q42_3] [(9,dptr (⟨x2,v3.kind,[],false,false,[]⟩:GMod)),(32,dt v24.body),(33,dt (v24.body.length:Int)),(34,dt s27.2),(39,dt v33.kind),(40,dt o42)] [(7,0,dtip q42_0 9 s27.1),(11,3,dbox q42_3 0 v33)] a w) ?_ ?_
    ·
     refine st41.sqA [9,32,33,34,39,40] [(7,0),(11,3)] (λ _ _ st43=>?_)
     refine st43.cs rfl p42 (λ _ h44=>wp_skip (za ?_)) (λ _ h45=>?_)
     ·
      cases h44
      exact fx
     refine st43.rgA [9,32,33,34,39,40] [(7,0),(11,3)] (λ _ _ st46=>za ?_)
     cases h45
     exact fx
    rintro a42 w42 ⟨M42,q42_0,q42_1,q42_2,q42_3,st42⟩
    have h47:=k42
    refine st42.cs rfl h47 (λ _ h48=>wp_region_list ?_) (λ _ h49=>?_)
    ·
     refine st42.segC 4 [9,32,33,34,46] [(7,0),(43,0)] (λ _ _ st50=>?_)
     obtain⟨v53,p53,h54⟩:=bs h48
     refine st50.apA 0 yS p53 [9,32,33,34] [] (λ g52 _ _ _ st52=>?_)
     have st55:=st52.gn
     refine st55.segA 1 [9,32,33,34] [(7,0)] (λ _ _ st56=>wpList_nil (zf (zf (za ?_))))
     cases h54
     exact fx
    refine st42.sqA [9,32,33,34,48] [(7,0),(11,3)] (λ _ _ st57=>?_)
    refine st57.cs rfl h49 (λ _ h58=>wp_seq ?_) (λ _ h59=>wp_skip (zf (zf (za ?_))))
    ·
     obtain⟨v60,p60,v61,p61,h63⟩:=bsB h58
     refine st57.drA (D:=[_,_,_,_,_,_,_]) zJ [[(9,nS)],[(11,nS)],[(51,1)],[(11,nS)],[(53,3)],[(50,0),(52,2),(54,4)],[(55,5)]] [9,12,32,33,34] [(7,0)] (λ _ _ st64=>?_) (hs:=rc rfl rfl (zB (l:=[.tmp 9]) rfl kN107 (.cons (tp rfl) .nil) (Yp p60))<|rc rfl rfl (xv Stmt.fld2 rfl kF74_2 (tp rfl))<|rc rfl rfl (yf rfl kT3 (tp rfl))<|rc rfl rfl (xv Stmt.fld1 rfl kF74_1 (tp rfl))<|rc rfl rfl (yf rfl kT9 (tp rfl))<|rc rfl rfl (zB (l:=[.tmp 50,.tmp 52,.tmp 54]) rfl kN106 (.cons (tp rfl) (.cons (tp rfl) (.cons (tp rfl) .nil))) (Wl p61))<|rc rfl rfl (oA rfl (tp rfl))<|.nil)
     refine za ?_
     refine st64.sqA [9,12,32,33,34,57] [(7,0)] (λ _ _ st65=>?_)
     refine st65.cs rfl h63 (λ _ h66=>wp_region_list ?_) (λ _ h67=>wp_skip (zf (zf (za ?_))))
     ·
      refine st65.segC 3 [9,32,33,34,60] [(7,0),(58,0)] (λ _ _ st68=>?_)
      obtain⟨v71,p71,h72⟩:=bs h66
      refine st68.apA 0 yS p71 [9,32,33,34] [] (λ g70 _ _ _ st70=>?_)
      have st73:=st70.gn
      refine st73.segA 1 [9,32,33,34] [(7,0)] (λ _ _ st74=>wpList_nil (zf (zf (za ?_))))
      cases h72
      exact fx
     cases h67
     exact fx
    cases h59
    exact fx
   rintro a32 w32 ⟨M32,q32_0,q32_1,q32_2,q32_3,st32⟩
   have h75:=k32
   obtain⟨v76,p76,h77⟩:=bs h75
   refine st32.rgA [9,32,33,34] [(7,0)] (λ _ _ st78=>za ?_)
   exact fl h77
  refine za ?_
  have h79:=lo h31 hx27
  cases h79
  exact fx
 rintro a23 w23 ⟨M23,q23_0,q23_1,q23_2,q23_3,st23⟩
 have h80:=k23
 have st81:=st23.frz 0 (s:=7) rfl rfl [] rfl [] rfl
 refine wp_seq (wp_region_list ?_)
 refine st81.segA 1 [63] [] (λ _ _ st82=>?_)
 obtain⟨v85,p85,h86⟩:=bs h80
 refine st82.own (l:=[.tmp 63]) 0 rfl rfl kN82 (.cons (tp rfl) .nil) (Xm p85) (by simp) [] rfl [] rfl rfl (λ g84 _ _ _ st84=>?_)
 have st87:=st84.gn
 refine st87.segA 1 [] [(6,0)] (λ _ _ st88=>wpList_nil (za (wp_ret ?_)))
 exact st88.ret_own 0 rfl rfl iI h86
def ja(v4:List Str)(s7:(List Str)×Int):Option (((List Str)×Int)⊕(List Str)):=
if(cmpI .lss s7.2 (v4.length:Int))=true then((atI v4 s7.2).bind λ v12=>
(wj v12).bind λ v15=>
(appO 16 s7.1 v15).bind λ v20=>
(i64 (s7.2+(1:Int))).bind λ v23=>
some (.inl (v20,v23)))
else(some (.inr s7.1))
def jH(x0:Tree)(x1:List Int)(x2:Str):Option (List Str):=
Option.bind (α:=(List Str)) ((qG x0 x1 x2).bind λ v4=>
zK (λ s7=>ja v4 s7) ([],(0:Int))) λ o3=>
(js o3).bind λ v33=>
some v33
theorem J6{x0:Tree}{x1:List Int}{x2:Str}{r:List Str}(h:jH x0 x1 x2=some r):FnOwn prog 37 [dt x0,dt x1,dt x2] 9 r:=by
 unfold jH at h
 refine fnxO (fn:=f37) 2 func37 rfl (oD rfl) rfl (λ M w0 _ st0=>?_)
 refine st0.sq2 (sP 1 (r:=by exact sc rfl (oA rfl (yw (α:=Str) (e:=9)))<|.nil)) [1,2,3] (λ _ _ st1=>?_)
 refine st1.sqB (sc rfl (yZ (α:=Str) (e:=9) rfl kS29)<|segC) [1,2,3] [(7,1)] (λ _ _ st2=>?_)
 obtain⟨o3,p3,k3⟩:=bs h
 refine zi (λ a w=>∃ M1 q3_0 q3_1,Sx (Frm.of w0) 27 M M1 [oneB q3_0,oneB q3_1] [] [(7,1,dtip q3_1 9 o3)] a w) ?_ ?_
 ·
  obtain⟨v4,p4,h5⟩:=bs p3
  refine st2.sqB (sP 3 (r:=by exact sc rfl (zB (l:=[.tmp 11,.tmp 12,.tmp 13]) rfl kN55 (.cons (tp rfl) (.cons (tp rfl) (.cons (tp rfl) .nil))) ((J5 p4)).fn)<|segC)) [14,15,16] [(7,1)] (λ _ _ st6=>wp_block ?_)
  refine zG h5 (λ s7 a w=>∃ M1 q7_0 q7_1,Sx (Frm.of w0) 27 M M1 [oneB q7_0,oneB q7_1] [(14,dt v4),(15,dt (v4.length:Int)),(16,dt s7.2)] [(7,1,dtip q7_1 9 s7.1)] a w) fx ?_
  rintro s7 z7 a7 w7 ⟨M7,q7_0,q7_1,st7⟩ hs7 hx7
  have h8:ja v4 s7=some z7:=hs7
  unfold ja at h8
  refine st7.sqA [14,15,16,17] [(7,1)] (λ _ _ st9=>wp_seq ?_)
  refine st9.cs rfl h8 (λ _ h10=>wp_skip (za (wp_seq (wp_block ?_)))) (λ _ h11=>wp_exit (zh (zh (zy ?_))))
  ·
   obtain⟨v12,p12,h13⟩:=bs h10
   refine st9.sqB (sc rfl (xIdx rfl kS29 (tp rfl) (tp rfl) p12)<|sc rfl (zr rfl kT9 (tp rfl))<|sc rfl (oA rfl (tp rfl))<|.nil) [9,14,15,16] [(7,1)] (λ _ _ st14=>wp_region_list ?_)
   obtain⟨v15,p15,h16⟩:=bs h13
   refine st14.segB 3 (sP 2 (r:=by exact sc rfl (zB (l:=[.tmp 21]) rfl kN35 (.cons (tp rfl) .nil) ((WH p15)).fn)<|.nil)) [14,15,16,22] [(7,1),(20,1)] (λ _ _ st17=>?_)
   obtain⟨v20,p20,h21⟩:=bs h16
   refine st17.apA 1 yS p20 [14,15,16] [] (λ g19 _ _ _ st19=>?_)
   refine st19.segA 1 [14,15,16] [(7,1)] (λ _ _ st22=>wpList_nil (zf (za ?_)))
   obtain⟨v23,p23,h24⟩:=bs h21
   refine st22.rgA [14,15,16] [(7,1)] (λ _ _ st25=>za ?_)
   exact fl h24
  refine za ?_
  have h26:=lo h11 hx7
  cases h26
  exact fx
 rintro a3 w3 ⟨M3,q3_0,q3_1,st3⟩
 have h27:=k3
 have st28:=st3.frz 1 (s:=7) rfl rfl [] rfl [] rfl
 have st29:=st28.rst 0 (by simp) [7] rfl [] rfl
 refine wp_seq (wp_region_list ?_)
 refine st29.segA 1 [25] [] (λ _ _ st30=>?_)
 obtain⟨v33,p33,h34⟩:=bs h27
 refine st30.own (l:=[.tmp 25]) 0 rfl rfl kN82 (.cons (tp rfl) .nil) (Xm p33) (by simp) [] rfl [] rfl rfl (λ g32 _ _ _ st32=>?_)
 refine st32.segA 1 [] [(6,0)] (λ _ _ st35=>wpList_nil (za (wp_ret ?_)))
 exact st35.ret_own 0 rfl rfl iI h34
def qH(x0:Str)(x1:Tree)(x2:List Int):Option (List Str):=
(jH x1 x2 x0).bind λ v2=>
some v2
theorem zbY{x0:Str}{x1:Tree}{x2:List Int}{r:List Str}(h:qH x0 x1 x2=some r):Fn prog 36 [dt x0,dptr x1,dptr x2] (dt r):=by
 unfold qH at h
 refine fnx (fn:=f36) 0 func36 rfl (oD rfl) rfl (λ M _ _ st0=>?_)
 refine st0.sq2 (sc rfl (oA rfl (x8 (α:=Str)))<|.nil) [0,1,2] (λ _ _ st1=>?_)
 obtain⟨v2,p2,h3⟩:=bs h
 refine st1.sq2 (sP 3 (r:=by exact sc rfl (zB (l:=[.tmp 5,.tmp 6,.tmp 7]) rfl kN37 (.cons (tp rfl) (.cons (tp rfl) (.cons (tp rfl) .nil))) ((J6 p2)).fn)<|segC)) [4] (λ _ _ st4=>wp_ret ?_)
 exact st4.ret rfl rfl h3
def jI(x0:Tree)(x1:List Int)(x2:Str):Option (List Str):=
(jG x0 x1 x2).bind λ v2=>
if(!v2)=true then(some [])
else((wj x2).bind λ v8=>
(ZL v8 (λ a0=>qH a0 x0 x1)).bind λ v13=>
(ZY v13).bind λ v17=>
some v17)
theorem Wp{x0:Tree}{x1:List Int}{x2:Str}{r:List Str}(h:jI x0 x1 x2=some r):FnOwn prog 8 [dt x0,dt x1,dt x2] 9 r:=by
 unfold jI at h
 refine fnxO (fn:=f8) 1 func8 rfl (oD rfl) rfl (λ M _ a0 st0=>?_)
 refine st0.sq2 (sP 2 (r:=by exact sc rfl (oA rfl (yw (α:=Str) (e:=9)))<|.nil)) [2,3,4] (λ _ _ st1=>wp_seq ?_)
 obtain⟨v2,p2,h3⟩:=bsW h Wo
 refine st1.sq1 [2,3,4,11] (λ _ _ st4=>?_)
 refine st4.cs rfl h3 (λ _ h5=>?_) (λ _ h6=>wp_skip (za (wp_seq (wp_region_list ?_))))
 ·
  refine st4.sqB (sc rfl (yZ (α:=Str) (e:=9) rfl kS29)<|segC) [] [(6,0)] (λ _ _ st7=>wp_ret (ze ?_))
  exact st7.ret_own 0 rfl rfl iE h5
 obtain⟨v8,p8,h9⟩:=bs h6
 refine st4.segB 3 (sP 1 (r:=by exact sc rfl (zB (l:=[.tmp 13]) rfl kN35 (.cons (tp rfl) .nil) ((WH p8)).fn)<|sc rfl (xMkF1 (l:=[.tmp 3,.tmp 4]) (g:=(λ a0=>qH a0 x0 x1)) rfl kN36 (.cons (tp rfl) (.cons (tp rfl) .nil)) rfl (λ _ _ h=>zbY h))<|.nil)) [14,15] [] (λ _ _ st10=>?_)
 obtain⟨v13,p13,h14⟩:=bs h9
 refine st10.own (l:=[.tmp 14,.tmp 15]) 0 rfl rfl kN34 (.cons (tp rfl) (.cons (tp rfl) .nil)) (zbj p13) (by simp) [] rfl [] rfl rfl (λ g12 _ _ _ st12=>?_)
 obtain⟨v17,p17,h18⟩:=bs h14
 refine st12.take (l:=[]) 0 rfl rfl kN33 rfl rfl .nil (impl_sorted_w p17) [] rfl [] rfl rfl (λ g16 _ _ _ st16=>?_)
 refine st16.segA 1 [] [(6,0)] (λ _ _ st19=>wpList_nil (za (wp_ret ?_)))
 exact st19.ret_own 0 rfl rfl iI h18
def xT(v21:File)(s24:Int):Option (Int⊕(Unit⊕(Int⊕(Unit⊕Bool)))):=
if(cmpI .lss s24 (v21.body.length:Int))=true then((atI v21.body s24).bind λ v29=>
if((cmpI .neq v29.kind (0:Int)&&cmpI .neq v29.kind (2:Int))&&cmpI .neq v29.kind (3:Int))=true then(some (.inr (.inr (.inr (.inr false)))))
else((i64 (s24+(1:Int))).bind λ v44=>
some (.inl v44)))
else(some (.inr (.inl ())))
def wJ(x0:Tree)(x1:List Int)(v3:List Str)(s6:Int):Option (Int⊕(Unit⊕Bool)):=
if(cmpI .lss s6 (v3.length:Int))=true then(Option.bind (α:=Unit⊕(Int⊕(Unit⊕Bool))) ((atI v3 s6).bind λ v12=>
(xP x0 x1 v12).bind λ v15=>
if(cmpI .lss v15.file (0:Int))=true then(some (.inl ()))
else((atI x0.files v15.file).bind λ v21=>
zK (λ s24=>xT v21 s24) (0:Int))) (Sum.elim (λ _b11=>
(i64 (s6+(1:Int))).bind λ v49=>
some (.inl v49)) some))
else(some (.inr (.inl ())))
def q6(x0:Tree)(x1:List Int)(x2:Str):Option Bool:=
Option.bind (α:=Unit⊕Bool) ((jI x0 x1 x2).bind λ v3=>
zK (λ s6=>wJ x0 x1 v3 s6) (0:Int)) (Sum.elim (λ _b2=>
(jG x0 x1 x2).bind λ v54=>
some v54) some)
theorem zcH{x0:Tree}{x1:List Int}{x2:Str}{r:Bool}(h:q6 x0 x1 x2=some r):Fn prog 11 [dt x0,dt x1,dt x2] (dt r):=by
 unfold q6 at h
 refine fnx (fn:=f11) 1 func11 rfl (oD rfl) rfl (λ M w0 _ st0=>?_)
 refine st0.sq1 [1,2,3] (λ _ _ st1=>?_)
 obtain⟨o2,p2,k2⟩:=bs h
 refine zi (λ a w=>∃ b2,o2=.inl b2/\(∃ M1 q2_0,Sx (Frm.of w0) 58 M M1 [oneB q2_0] [(1,dt x1),(2,dt x2),(3,dptr x0)] [] a w)) ?_ ?_
 ·
  obtain⟨v3,p3,h4⟩:=bs p2
  refine st1.sq2 (sP 3 (r:=by exact sc rfl (zB (l:=[.tmp 12,.tmp 13,.tmp 14]) rfl kN8 (.cons (tp rfl) (.cons (tp rfl) (.cons (tp rfl) .nil))) ((Wp p3)).fn)<|segC)) [1,2,3,15,16,17] (λ _ _ st5=>wp_block ?_)
  refine zG h4 (λ s6 a w=>∃ M1 q6_0,Sx (Frm.of w0) 58 M M1 [oneB q6_0] [(1,dt x1),(2,dt x2),(3,dptr x0),(15,dt v3),(16,dt (v3.length:Int)),(17,dt s6)] [] a w) fx ?_
  rintro s6 z6 a6 w6 ⟨M6,q6_0,st6⟩ hs6 hx6
  have h7:wJ x0 x1 v3 s6=some z6:=hs6
  unfold wJ at h7
  refine st6.sq1 [1,2,3,15,16,17,18] (λ _ _ st8=>wp_seq ?_)
  refine st8.cs rfl h7 (λ _ h9=>wp_skip (za ?_)) (λ _ h10=>wp_exit (zh (zh (zy ?_))))
  ·
   obtain⟨o11,p11,k11⟩:=bs h9
   refine zi (λ a w=>∃ b11,o11=.inl b11/\(∃ M1 q11_0,Sx (Frm.of w0) 58 M M1 [oneB q11_0] [(1,dt x1),(2,dt x2),(3,dptr x0),(15,dt v3),(16,dt (v3.length:Int)),(17,dt s6)] [] a w)) ?_ ?_
   ·
    refine wp_block ?_
    obtain⟨v12,p12,h13⟩:=bs p11
    refine st8.sq1 [1,2,3,8,15,16,17] (λ _ _ st14=>?_)
    obtain⟨v15,p15,h16⟩:=bs h13
    refine st14.sq2 (sP 3 (r:=by exact sc rfl (oK (XM p15))<|sc rfl (Qq Spec.fld1 rfl rfl kG71_1 (tp rfl))<|segC)) [1,2,3,9,15,16,17] (λ _ _ st17=>wp_seq ?_)
    refine st17.sq1 [1,2,3,9,15,16,17,27] (λ _ _ st18=>?_)
    refine st18.cs rfl h16 (λ _ h19=>wp_exit (zh (zy ?_))) (λ _ h20=>wp_skip (za ?_))
    ·
     refine za ?_
     exact fl h19
    obtain⟨v21,p21,h22⟩:=bs h20
    refine st18.sq1 [1,2,3,15,16,17,33,34,35] (λ _ _ st23=>wp_block ?_)
    refine zG h22 (λ s24 a w=>∃ M1 q24_0,Sx (Frm.of w0) 58 M M1 [oneB q24_0] [(1,dt x1),(2,dt x2),(3,dptr x0),(15,dt v3),(16,dt (v3.length:Int)),(17,dt s6),(33,dt v21.body),(34,dt (v21.body.length:Int)),(35,dt s24)] [] a w) fx ?_
    rintro s24 z24 a24 w24 ⟨M24,q24_0,st24⟩ hs24 hx24
    have h25:xT v21 s24=some z24:=hs24
    unfold xT at h25
    refine st24.sq1 [1,2,3,15,16,17,33,34,35,36] (λ _ _ st26=>wp_seq ?_)
    refine st26.cs rfl h25 (λ _ h27=>wp_skip (za (wp_seq (wp_block (wp_seq (wp_region_list ?_)))))) (λ _ h28=>wp_exit (zh (zh (zy ?_))))
    ·
     obtain⟨v29,p29,h30⟩:=bs h27
     refine st26.segA 2 [1,2,3,15,16,17,33,34,35,38] [] (λ _ _ st31=>?_)
     refine st31.alA 0 zan [1,2,3,15,16,17,33,34,35,38] [] (λ b33 _ _ _ st33=>?_)
     refine st33.stA 11 0 FldS.id (tp rfl) [1,2,3,15,16,17,33,34,35] [] (λ _ _ st35=>wpList_nil (za ?_))
     refine st35.sq3 [1,2,3,15,16,17,33,34,35,51] (λ _ _ st36=>?_)
     refine st36.cs rfl h30 (λ _ h37=>?_) (λ _ h38=>wp_skip (zf (za ?_)))
     ·
      refine st36.sq1 [6] (λ _ _ st39=>wp_ret (zt (ze (ze (zt (zt (ze (ze (zt (ze ?_))))))))))
      have h40:=lo h37 hx24
      have h41:=jo h40 k11
      have h42:=lo h41 hx6
      have h43:=jo h42 k2
      exact st39.ret rfl rfl h43
     obtain⟨v44,p44,h45⟩:=bs h38
     refine st36.rg1 [1,2,3,15,16,17,33,34,35] (λ _ _ st46=>za ?_)
     exact fl h45
    refine zf (za ?_)
    have h47:=lo h28 hx24
    exact fl h47
   rintro a11 w11 ⟨b11,rfl,⟨M11,q11_0,st11⟩⟩
   have h48:=jn k11
   obtain⟨v49,p49,h50⟩:=bs h48
   refine st11.rg1 [1,2,3,15,16,17] (λ _ _ st51=>za ?_)
   exact fl h50
  refine za ?_
  have h52:=lo h10 hx6
  exact fl h52
 rintro a2 w2 ⟨b2,rfl,⟨M2,q2_0,st2⟩⟩
 have h53:=jn k2
 obtain⟨v54,p54,h55⟩:=bsW h53 Wo
 refine st2.sq1 [6] (λ _ _ st56=>wp_ret ?_)
 exact st56.ret rfl rfl h55
def wv(x0:Tree)(x1:List Int)(v4:List Str)(s7:(List Str)×Int):Option (((List Str)×Int)⊕(List Str)):=
if(cmpI .lss s7.2 (v4.length:Int))=true then(Option.bind (α:=(List Str)) ((atI v4 s7.2).bind λ v13=>
(Zx x0 x1 v13).bind λ v16=>
if(!v16)=true then((appO 16 s7.1 ([v13]:List Str)).bind λ v24=>
some v24)
else(some s7.1)) λ o12=>
(i64 (s7.2+(1:Int))).bind λ v28=>
some (.inl (o12,v28)))
else(some (.inr s7.1))
def qI(x0:Tree)(x1:List Int)(x2:Str):Option (List Str):=
Option.bind (α:=(List Str)) ((jI x0 x1 x2).bind λ v4=>
zK (λ s7=>wv x0 x1 v4 s7) ([],(0:Int))) λ o3=>
some o3
theorem zbZ{x0:Tree}{x1:List Int}{x2:Str}{r:List Str}(h:qI x0 x1 x2=some r):FnOwn prog 17 [dt x0,dt x1,dt x2] 9 r:=by
 unfold qI at h
 refine fnxO (fn:=f17) 1 func17 rfl (oD rfl) rfl (λ M w0 _ st0=>?_)
 refine st0.sq2 (sP 1 (r:=by exact sc rfl (oA rfl (yw (α:=Str) (e:=9)))<|.nil)) [1,2,3] (λ _ _ st1=>?_)
 refine st1.sqB (sc rfl (yZ (α:=Str) (e:=9) rfl kS29)<|segC) [1,2,3] [(7,0)] (λ _ _ st2=>?_)
 obtain⟨o3,p3,k3⟩:=bs h
 refine zi (λ a w=>∃ M1 q3_0,Sx (Frm.of w0) 31 M M1 [oneB q3_0] [] [(7,0,dtip q3_0 9 o3)] a w) ?_ ?_
 ·
  obtain⟨v4,p4,h5⟩:=bs p3
  refine st2.sqB (sP 3 (r:=by exact sc rfl (zB (l:=[.tmp 11,.tmp 12,.tmp 13]) rfl kN8 (.cons (tp rfl) (.cons (tp rfl) (.cons (tp rfl) .nil))) ((Wp p4)).fn)<|segC)) [1,3,14,15,16] [(7,0)] (λ _ _ st6=>wp_block ?_)
  refine zG h5 (λ s7 a w=>∃ M1 q7_0,Sx (Frm.of w0) 31 M M1 [oneB q7_0] [(1,dt x1),(3,dptr x0),(14,dt v4),(15,dt (v4.length:Int)),(16,dt s7.2)] [(7,0,dtip q7_0 9 s7.1)] a w) fx ?_
  rintro s7 z7 a7 w7 ⟨M7,q7_0,st7⟩ hs7 hx7
  have h8:wv x0 x1 v4 s7=some z7:=hs7
  unfold wv at h8
  refine st7.sqA [1,3,14,15,16,17] [(7,0)] (λ _ _ st9=>wp_seq ?_)
  refine st9.cs rfl h8 (λ _ h10=>wp_skip (za ?_)) (λ _ h11=>wp_exit (zh (zh (zy ?_))))
  ·
   obtain⟨o12,p12,k12⟩:=bs h10
   refine zi (λ a w=>∃ M1 q12_0,Sx (Frm.of w0) 31 M M1 [oneB q12_0] [(1,dt x1),(3,dptr x0),(14,dt v4),(15,dt (v4.length:Int)),(16,dt s7.2)] [(7,0,dtip q12_0 9 o12)] a w) ?_ ?_
   ·
    refine wp_block ?_
    obtain⟨v13,p13,h14⟩:=bs p12
    refine st9.sqA [1,3,9,14,15,16] [(7,0)] (λ _ _ st15=>?_)
    obtain⟨v16,p16,h17⟩:=bsW h14 zc0
    refine st15.sqA [1,3,9,14,15,16,24] [(7,0)] (λ _ _ st18=>?_)
    refine st18.cs rfl h17 (λ _ h19=>wp_region_list ?_) (λ _ h20=>wp_skip (zf (za ?_)))
    ·
     refine st18.segC 3 [1,3,14,15,16,27] [(7,0),(25,0)] (λ _ _ st21=>?_)
     obtain⟨v24,p24,h25⟩:=bs h19
     refine st21.apA 0 yS p24 [1,3,14,15,16] [] (λ g23 _ _ _ st23=>?_)
     refine st23.segA 1 [1,3,14,15,16] [(7,0)] (λ _ _ st26=>wpList_nil (zf (za ?_)))
     cases h25
     exact fx
    cases h20
    exact fx
   rintro a12 w12 ⟨M12,q12_0,st12⟩
   have h27:=k12
   obtain⟨v28,p28,h29⟩:=bs h27
   refine st12.rgA [1,3,14,15,16] [(7,0)] (λ _ _ st30=>za ?_)
   exact fl h29
  refine za ?_
  have h31:=lo h11 hx7
  cases h31
  exact fx
 rintro a3 w3 ⟨M3,q3_0,st3⟩
 have h32:=k3
 refine st3.sqA [] [(6,0)] (λ _ _ st33=>wp_ret ?_)
 exact st33.ret_own 0 rfl rfl iI h32
def ww(x0:Tree)(x1:List Int)(v14:List Str)(s20:(List Str)×Int):Option (((List Str)×Int)⊕(List Str)):=
if(cmpI .lss s20.2 (v14.length:Int))=true then(Option.bind (α:=(List Str)) ((atI v14 s20.2).bind λ v26=>
(Yo x0 x1 v26).bind λ v27=>
if(cmpI .eql v27.kind (0:Int))=true then((atI v14 s20.2).bind λ v33=>
(jX s20.1 v33).bind λ v38=>
some v38)
else(some s20.1)) λ o25=>
(i64 (s20.2+(1:Int))).bind λ v42=>
some (.inl (o25,v42)))
else(some (.inr s20.1))
def qJ(x0:Tree)(x1:List Int)(x2:Str):Option (List Str):=
(xW x0).bind λ v2=>
(gO ((!v2) == false) (xX x1)).bind λ v3=>
(gO (((!v2)||(!v3)) == false) (yx x2)).bind λ v4=>
if(((!v2)||(!v3))||(!v4))=true then(some [])
else((ZJ x2).bind λ v13=>
(j7 x0 x1 v13).bind λ v14=>
Option.bind (α:=(List Str)) (zK (λ s20=>ww x0 x1 v14 s20) ([],(0:Int))) λ o18=>
some o18)
theorem zb0{x0:Tree}{x1:List Int}{x2:Str}{r:List Str}(h:qJ x0 x1 x2=some r):FnOwn prog 57 [dt x0,dt x1,dt x2] 9 r:=by
 unfold qJ at h
 refine fnxO (fn:=f57) 1 func57 rfl (oD rfl) rfl (λ M w0 _ st0=>?_)
 refine st0.sq2 (sP 1 (r:=by exact sc rfl (oA rfl (yw (α:=Str) (e:=9)))<|.nil)) [1,2,3] (λ _ _ st1=>wp_seq ?_)
 obtain⟨v2,p2,v3,p3,v4,p4,h7⟩:=bsC h
 refine st1.sq2 (sP 1 (r:=by exact sc rfl (oK (Xb p2))<|sP 3 (r:=by exact sg rfl rfl (λ hg=>oK (Xc (gh hg p3)))<|sP 4 (r:=by exact sg rfl rfl (λ hg=>oK (qz (gh hg p4)))<|segC)))) [1,2,3,22] (λ _ _ st8=>?_)
 refine st8.cs rfl h7 (λ _ h9=>?_) (λ _ h10=>wp_skip (za ?_))
 ·
  refine st8.sqB (sc rfl (oA rfl (yw (α:=Str) (e:=9)))<|.nil) [] [(6,0)] (λ _ _ st11=>wp_ret (ze ?_))
  exact st11.ret_own 0 rfl rfl iE h9
 refine st8.sqB (sc rfl (yZ (α:=Str) (e:=9) rfl kS29)<|segC) [1,2,3] [(7,0)] (λ _ _ st12=>wp_seq ?_)
 obtain⟨v13,p13,v14,p14,h16⟩:=bsB h10
 refine st12.drA (D:=[_,_,_,_,_,_]) zJ [[(3,nS)],[(1,nS)],[(2,nS)],[(26,2)],[(24,0),(25,1),(27,3)],[(28,4)]] [1,3,8] [(7,0)] (λ _ _ st17=>?_) (hs:=rc rfl rfl (zr rfl kT25 (tp rfl))<|rc rfl rfl (oM rfl (tp rfl))<|rc rfl rfl (oM rfl (tp rfl))<|rc rfl rfl (zB (l:=[.tmp 26]) rfl kN42 (.cons (tp rfl) .nil) (Jm p13))<|rc rfl rfl (zB (l:=[.tmp 24,.tmp 25,.tmp 27]) rfl kN41 (.cons (tp rfl) (.cons (tp rfl) (.cons (tp rfl) .nil))) ((Jo p14)).fn)<|rc rfl rfl (oA rfl (tp rfl))<|.nil)
 refine za ?_
 obtain⟨o18,p18,k18⟩:=bs h16
 refine zi (λ a w=>∃ M1 q18_0,Sx (Frm.of w0) 51 M M1 [oneB q18_0] [] [(7,0,dtip q18_0 9 o18)] a w) ?_ ?_
 ·
  refine st17.sqA [1,3,8,9] [(7,0)] (λ _ _ st19=>wp_block ?_)
  refine zG p18 (λ s20 a w=>∃ M1 q20_0,Sx (Frm.of w0) 51 M M1 [oneB q20_0] [(1,dt x1),(3,dptr x0),(8,dt v14),(9,dt s20.2)] [(7,0,dtip q20_0 9 s20.1)] a w) fx ?_
  rintro s20 z20 a20 w20 ⟨M20,q20_0,st20⟩ hs20 hx20
  have h21:ww x0 x1 v14 s20=some z20:=hs20
  unfold ww at h21
  refine wp_seq ?_
  refine st20.sqA [1,3,8,9,32] [(7,0)] (λ _ _ st22=>?_)
  refine st22.cs rfl h21 (λ _ h23=>wp_skip (za ?_)) (λ _ h24=>wp_exit (zh (zh (zy ?_))))
  ·
   obtain⟨o25,p25,k25⟩:=bs h23
   refine zi (λ a w=>∃ M1 q25_0,Sx (Frm.of w0) 51 M M1 [oneB q25_0] [(1,dt x1),(3,dptr x0),(8,dt v14),(9,dt s20.2)] [(7,0,dtip q25_0 9 o25)] a w) ?_ ?_
   ·
    refine wp_block (wp_seq ?_)
    obtain⟨v26,p26,v27,p27,h29⟩:=bsB p25
    refine st22.drA (D:=[_,_,_,_,_,_,_,_,_]) zJ [[(3,nS)],[(1,nS)],[(8,nS)],[(9,nS)],[(37,2),(38,3)],[(39,4)],[(35,0),(36,1),(40,5)],[(41,6)],[(42,7)]] [1,3,8,9,43] [(7,0)] (λ _ _ st30=>?_) (hs:=rc rfl rfl (zr rfl kT25 (tp rfl))<|rc rfl rfl (oM rfl (tp rfl))<|rc rfl rfl (oM rfl (tp rfl))<|rc rfl rfl (oM rfl (tp rfl))<|rc rfl rfl (xIdx rfl kS29 (tp rfl) (tp rfl) p26)<|rc rfl rfl (zr rfl kT9 (tp rfl))<|rc rfl rfl (zB (l:=[.tmp 35,.tmp 36,.tmp 40]) rfl kN48 (.cons (tp rfl) (.cons (tp rfl) (.cons (tp rfl) .nil))) (zcp p27))<|rc rfl rfl (Qq Spec.fld0 rfl rfl kG71_0 (tp rfl))<|rc rfl rfl (oCI rfl (tp rfl) cI)<|.nil)
    refine za ?_
    refine st30.cs rfl h29 (λ _ h31=>wp_region_list ?_) (λ _ h32=>wp_skip (zf (za ?_)))
    ·
     obtain⟨v33,p33,h34⟩:=bs h31
     refine st30.segA 5 [1,3,8,9,48] [(7,0),(44,0)] (λ _ _ st35=>?_)
     obtain⟨v38,p38,h39⟩:=bs h34
     refine st35.take (l:=[.tmp 48]) 0 rfl rfl kN43 rfl rfl (.cons (tp rfl) .nil) (WI p38) [1,3,8,9] rfl [] rfl rfl (λ g37 _ _ _ st37=>?_)
     refine st37.segA 1 [1,3,8,9] [(7,0)] (λ _ _ st40=>wpList_nil (zf (za ?_)))
     cases h39
     exact fx
    cases h32
    exact fx
   rintro a25 w25 ⟨M25,q25_0,st25⟩
   have h41:=k25
   obtain⟨v42,p42,h43⟩:=bs h41
   refine st25.rgA [1,3,8,9] [(7,0)] (λ _ _ st44=>za ?_)
   exact fl h43
  refine za ?_
  have h45:=lo h24 hx20
  cases h45
  exact fx
 rintro a18 w18 ⟨M18,q18_0,st18⟩
 have h46:=k18
 refine st18.sqA [] [(6,0)] (λ _ _ st47=>wp_ret ?_)
 exact st47.ret_own 0 rfl rfl iI h46
def xj(x0:Str)(x1:Tree)(x2:List Int):Option (List Str):=
(jH x1 x2 x0).bind λ v2=>
some v2
theorem zb1{x0:Str}{x1:Tree}{x2:List Int}{r:List Str}(h:xj x0 x1 x2=some r):Fn prog 103 [dt x0,dptr x1,dptr x2] (dt r):=by
 unfold xj at h
 refine fnx (fn:=f103) 0 func103 rfl (oD rfl) rfl (λ M _ _ st0=>?_)
 refine st0.sq2 (sc rfl (oA rfl (x8 (α:=Str)))<|.nil) [0,1,2] (λ _ _ st1=>?_)
 obtain⟨v2,p2,h3⟩:=bs h
 refine st1.sq2 (sP 3 (r:=by exact sc rfl (zB (l:=[.tmp 5,.tmp 6,.tmp 7]) rfl kN37 (.cons (tp rfl) (.cons (tp rfl) (.cons (tp rfl) .nil))) ((J6 p2)).fn)<|segC)) [4] (λ _ _ st4=>wp_ret ?_)
 exact st4.ret rfl rfl h3
def jc(x0:Tree)(x1:List Int)(v5:List Str)(s8:(List Str)×Int):Option (((List Str)×Int)⊕(List Str)):=
if(cmpI .lss s8.2 (v5.length:Int))=true then(Option.bind (α:=(List Str)) ((atI v5 s8.2).bind λ v14=>
((λ a0=>xj a0 x0 x1) v14).bind λ v17=>
(ZL v17 (λ a0=>xj a0 x0 x1)).bind λ v18=>
(zU v18 v14).bind λ v19=>
if v19=true then((appO 16 s8.1 ([v14]:List Str)).bind λ v29=>
some v29)
else(some s8.1)) λ o13=>
(i64 (s8.2+(1:Int))).bind λ v33=>
some (.inl (o13,v33)))
else(some (.inr s8.1))
def Zy(x0:Tree)(x1:List Int)(x2:Str):Option (List Str):=
Option.bind (α:=(List Str)) ((jI x0 x1 x2).bind λ v5=>
zK (λ s8=>jc x0 x1 v5 s8) ([],(0:Int))) λ o4=>
some o4
theorem zc2{x0:Tree}{x1:List Int}{x2:Str}{r:List Str}(h:Zy x0 x1 x2=some r):FnOwn prog 52 [dt x0,dt x1,dt x2] 9 r:=by
 unfold Zy at h
 refine fnxO (fn:=f52) 1 func52 rfl (oD rfl) rfl (λ M w0 a0 st0=>?_)
 refine st0.sq2 (sP 2 (r:=by exact sc rfl (oA rfl (yw (α:=Str) (e:=9)))<|.nil)) [2,3,4] (λ _ _ st1=>?_)
 refine st1.sqB (sc rfl (yZ (α:=Str) (e:=9) rfl kS29)<|segC) [2,3,4] [(7,0)] (λ _ _ st2=>?_)
 refine st2.sqB (sc rfl (xMkF1 (l:=[.tmp 3,.tmp 4]) (g:=(λ a0=>xj a0 x0 x1)) rfl kN103 (.cons (tp rfl) (.cons (tp rfl) .nil)) rfl (λ _ _ h=>zb1 h))<|segC) [2,3,4,8] [(7,0)] (λ _ _ st3=>?_)
 obtain⟨o4,p4,k4⟩:=bs h
 refine zi (λ a w=>∃ M1 q4_0,Sx (Frm.of w0) 35 M M1 [oneB q4_0] [] [(7,0,dtip q4_0 9 o4)] a w) ?_ ?_
 ·
  obtain⟨v5,p5,h6⟩:=bs p4
  refine st3.sqB (sP 3 (r:=by exact sc rfl (zB (l:=[.tmp 13,.tmp 14,.tmp 15]) rfl kN8 (.cons (tp rfl) (.cons (tp rfl) (.cons (tp rfl) .nil))) ((Wp p5)).fn)<|segC)) [8,16,17,18] [(7,0)] (λ _ _ st7=>wp_block ?_)
  refine zG h6 (λ s8 a w=>∃ M1 q8_0,Sx (Frm.of w0) 35 M M1 [oneB q8_0] [(16,dt v5),(17,dt (v5.length:Int)),(18,dt s8.2),(8,dfn1 prog (λ a0=>xj a0 x0 x1))] [(7,0,dtip q8_0 9 s8.1)] a w) fx ?_
  rintro s8 z8 a8 w8 ⟨M8,q8_0,st8⟩ hs8 hx8
  have h9:jc x0 x1 v5 s8=some z8:=hs8
  unfold jc at h9
  refine st8.sqA [8,16,17,18,19] [(7,0)] (λ _ _ st10=>wp_seq ?_)
  refine st10.cs rfl h9 (λ _ h11=>wp_skip (za ?_)) (λ _ h12=>wp_exit (zh (zh (zy ?_))))
  ·
   obtain⟨o13,p13,k13⟩:=bs h11
   refine zi (λ a w=>∃ M1 q13_0,Sx (Frm.of w0) 35 M M1 [oneB q13_0] [(16,dt v5),(17,dt (v5.length:Int)),(18,dt s8.2),(8,dfn1 prog (λ a0=>xj a0 x0 x1))] [(7,0,dtip q13_0 9 o13)] a w) ?_ ?_
   ·
    refine wp_block ?_
    obtain⟨v14,p14,h15⟩:=bs p13
    refine st10.sqA [8,10,16,17,18] [(7,0)] (λ _ _ st16=>?_)
    obtain⟨v17,p17,v18,p18,v19,p19,h22⟩:=bsC h15
    refine st16.sqB (sP 2 (r:=by exact sc rfl (xCaF1 rfl (tp rfl) (tp rfl) p17)<|sP 1 (r:=by exact sc rfl (zB (l:=[.tmp 24,.tmp 25]) rfl kN34 (.cons (tp rfl) (.cons (tp rfl) .nil)) ((zbj p18)).fn)<|sP 1 (r:=by exact sc rfl (oK (wy p19))<|.nil)))) [8,10,16,17,18,28] [(7,0)] (λ _ _ st23=>?_)
    refine st23.cs rfl h22 (λ _ h24=>wp_region_list ?_) (λ _ h25=>wp_skip (zf (za ?_)))
    ·
     refine st23.segC 3 [8,16,17,18,31] [(7,0),(29,0)] (λ _ _ st26=>?_)
     obtain⟨v29,p29,h30⟩:=bs h24
     refine st26.apA 0 yS p29 [8,16,17,18] [] (λ g28 _ _ _ st28=>?_)
     refine st28.segA 1 [8,16,17,18] [(7,0)] (λ _ _ st31=>wpList_nil (zf (za ?_)))
     cases h30
     exact fx
    cases h25
    exact fx
   rintro a13 w13 ⟨M13,q13_0,st13⟩
   have h32:=k13
   obtain⟨v33,p33,h34⟩:=bs h32
   refine st13.rgA [8,16,17,18] [(7,0)] (λ _ _ st35=>za ?_)
   exact fl h34
  refine za ?_
  have h36:=lo h12 hx8
  cases h36
  exact fx
 rintro a4 w4 ⟨M4,q4_0,st4⟩
 have h37:=k4
 refine st4.sqA [] [(6,0)] (λ _ _ st38=>wp_ret ?_)
 exact st38.ret_own 0 rfl rfl iI h37
def Z1(x0:Tree)(x1:List Int)(x2:Str):Option Bool:=
(ZK x0 x1 x2).bind λ v2=>
(j7 x0 x1 v2).bind λ v3=>
(xG v3 x2).bind λ v4=>
some v4
theorem spec_onRing_w{x0:Tree}{x1:List Int}{x2:Str}{r:Bool}(h:Z1 x0 x1 x2=some r):Fn prog 108 [dt x0,dt x1,dt x2] (dt r):=by
 unfold Z1 at h
 refine fnx (fn:=f108) 0 func108 rfl (oD rfl) rfl (λ M _ _ st0=>?_)
 refine st0.sq1 [1,2,3] (λ _ _ st1=>wp_seq ?_)
 obtain⟨v2,p2,v3,p3,v4,p4,h7⟩:=bsC h
 refine st1.drA (D:=[_,_,_,_,_,_,_,_,_,_]) zJ [[(3,nS)],[(1,nS)],[(3,nS)],[(1,nS)],[(2,nS)],[(9,2),(10,3),(11,4)],[(7,0),(8,1),(12,5)],[(2,nS)],[(13,6),(14,7)],[(15,8)]] [6] [] (λ _ _ st8=>?_) (hs:=rc rfl rfl (zr rfl kT25 (tp rfl))<|rc rfl rfl (oM rfl (tp rfl))<|rc rfl rfl (zr rfl kT25 (tp rfl))<|rc rfl rfl (oM rfl (tp rfl))<|rc rfl rfl (oM rfl (tp rfl))<|rc rfl rfl (zB (l:=[.tmp 9,.tmp 10,.tmp 11]) rfl kN90 (.cons (tp rfl) (.cons (tp rfl) (.cons (tp rfl) .nil))) (zbi p2))<|rc rfl rfl (zB (l:=[.tmp 7,.tmp 8,.tmp 12]) rfl kN41 (.cons (tp rfl) (.cons (tp rfl) (.cons (tp rfl) .nil))) ((Jo p3)).fn)<|rc rfl rfl (oM rfl (tp rfl))<|rc rfl rfl (zB (l:=[.tmp 13,.tmp 14]) rfl kN91 (.cons (tp rfl) (.cons (tp rfl) .nil)) (qv p4))<|rc rfl rfl (oA rfl (tp rfl))<|.nil)
 refine za (wp_ret ?_)
 exact st8.ret rfl rfl h7
def jd(x0:Tree)(x1:List Int)(v14:List Str)(s20:(List Str)×Int):Option (((List Str)×Int)⊕(List Str)):=
if(cmpI .lss s20.2 (v14.length:Int))=true then(Option.bind (α:=(List Str)) ((atI v14 s20.2).bind λ v26=>
(Z1 x0 x1 v26).bind λ v27=>
if v27=true then((atI v14 s20.2).bind λ v33=>
(jX s20.1 v33).bind λ v38=>
some v38)
else(some s20.1)) λ o25=>
(i64 (s20.2+(1:Int))).bind λ v42=>
some (.inl (o25,v42)))
else(some (.inr s20.1))
def Zz(x0:Tree)(x1:List Int)(x2:Str):Option (List Str):=
(xW x0).bind λ v2=>
(gO ((!v2) == false) (xX x1)).bind λ v3=>
(gO (((!v2)||(!v3)) == false) (yx x2)).bind λ v4=>
if(((!v2)||(!v3))||(!v4))=true then(some [])
else((ZJ x2).bind λ v13=>
(j7 x0 x1 v13).bind λ v14=>
Option.bind (α:=(List Str)) (zK (λ s20=>jd x0 x1 v14 s20) ([],(0:Int))) λ o18=>
some o18)
theorem zc3{x0:Tree}{x1:List Int}{x2:Str}{r:List Str}(h:Zz x0 x1 x2=some r):FnOwn prog 56 [dt x0,dt x1,dt x2] 9 r:=by
 unfold Zz at h
 refine fnxO (fn:=f56) 1 func56 rfl (oD rfl) rfl (λ M w0 _ st0=>?_)
 refine st0.sq2 (sP 1 (r:=by exact sc rfl (oA rfl (yw (α:=Str) (e:=9)))<|.nil)) [1,2,3] (λ _ _ st1=>wp_seq ?_)
 obtain⟨v2,p2,v3,p3,v4,p4,h7⟩:=bsC h
 refine st1.sq2 (sP 1 (r:=by exact sc rfl (oK (Xb p2))<|sP 3 (r:=by exact sg rfl rfl (λ hg=>oK (Xc (gh hg p3)))<|sP 4 (r:=by exact sg rfl rfl (λ hg=>oK (qz (gh hg p4)))<|segC)))) [1,2,3,22] (λ _ _ st8=>?_)
 refine st8.cs rfl h7 (λ _ h9=>?_) (λ _ h10=>wp_skip (za ?_))
 ·
  refine st8.sqB (sc rfl (oA rfl (yw (α:=Str) (e:=9)))<|.nil) [] [(6,0)] (λ _ _ st11=>wp_ret (ze ?_))
  exact st11.ret_own 0 rfl rfl iE h9
 refine st8.sqB (sc rfl (yZ (α:=Str) (e:=9) rfl kS29)<|segC) [1,2,3] [(7,0)] (λ _ _ st12=>wp_seq ?_)
 obtain⟨v13,p13,v14,p14,h16⟩:=bsB h10
 refine st12.drA (D:=[_,_,_,_,_,_]) zJ [[(3,nS)],[(1,nS)],[(2,nS)],[(26,2)],[(24,0),(25,1),(27,3)],[(28,4)]] [1,3,8] [(7,0)] (λ _ _ st17=>?_) (hs:=rc rfl rfl (zr rfl kT25 (tp rfl))<|rc rfl rfl (oM rfl (tp rfl))<|rc rfl rfl (oM rfl (tp rfl))<|rc rfl rfl (zB (l:=[.tmp 26]) rfl kN42 (.cons (tp rfl) .nil) (Jm p13))<|rc rfl rfl (zB (l:=[.tmp 24,.tmp 25,.tmp 27]) rfl kN41 (.cons (tp rfl) (.cons (tp rfl) (.cons (tp rfl) .nil))) ((Jo p14)).fn)<|rc rfl rfl (oA rfl (tp rfl))<|.nil)
 refine za ?_
 obtain⟨o18,p18,k18⟩:=bs h16
 refine zi (λ a w=>∃ M1 q18_0,Sx (Frm.of w0) 49 M M1 [oneB q18_0] [] [(7,0,dtip q18_0 9 o18)] a w) ?_ ?_
 ·
  refine st17.sqA [1,3,8,9] [(7,0)] (λ _ _ st19=>wp_block ?_)
  refine zG p18 (λ s20 a w=>∃ M1 q20_0,Sx (Frm.of w0) 49 M M1 [oneB q20_0] [(1,dt x1),(3,dptr x0),(8,dt v14),(9,dt s20.2)] [(7,0,dtip q20_0 9 s20.1)] a w) fx ?_
  rintro s20 z20 a20 w20 ⟨M20,q20_0,st20⟩ hs20 hx20
  have h21:jd x0 x1 v14 s20=some z20:=hs20
  unfold jd at h21
  refine wp_seq ?_
  refine st20.sqA [1,3,8,9,32] [(7,0)] (λ _ _ st22=>?_)
  refine st22.cs rfl h21 (λ _ h23=>wp_skip (za ?_)) (λ _ h24=>wp_exit (zh (zh (zy ?_))))
  ·
   obtain⟨o25,p25,k25⟩:=bs h23
   refine zi (λ a w=>∃ M1 q25_0,Sx (Frm.of w0) 49 M M1 [oneB q25_0] [(1,dt x1),(3,dptr x0),(8,dt v14),(9,dt s20.2)] [(7,0,dtip q25_0 9 o25)] a w) ?_ ?_
   ·
    refine wp_block (wp_seq ?_)
    obtain⟨v26,p26,v27,p27,h29⟩:=bsB p25
    refine st22.drA (D:=[_,_,_,_,_,_,_]) zJ [[(3,nS)],[(1,nS)],[(8,nS)],[(9,nS)],[(37,2),(38,3)],[(39,4)],[(35,0),(36,1),(40,5)]] [1,3,8,9,41] [(7,0)] (λ _ _ st30=>?_) (hs:=rc rfl rfl (zr rfl kT25 (tp rfl))<|rc rfl rfl (oM rfl (tp rfl))<|rc rfl rfl (oM rfl (tp rfl))<|rc rfl rfl (oM rfl (tp rfl))<|rc rfl rfl (xIdx rfl kS29 (tp rfl) (tp rfl) p26)<|rc rfl rfl (zr rfl kT9 (tp rfl))<|rc rfl rfl (zB (l:=[.tmp 35,.tmp 36,.tmp 40]) rfl kN108 (.cons (tp rfl) (.cons (tp rfl) (.cons (tp rfl) .nil))) (spec_onRing_w p27))<|.nil)
    refine za ?_
    refine st30.cs rfl h29 (λ _ h31=>wp_region_list ?_) (λ _ h32=>wp_skip (zf (za ?_)))
    ·
     obtain⟨v33,p33,h34⟩:=bs h31
     refine st30.segA 5 [1,3,8,9,46] [(7,0),(42,0)] (λ _ _ st35=>?_)
     obtain⟨v38,p38,h39⟩:=bs h34
     refine st35.take (l:=[.tmp 46]) 0 rfl rfl kN43 rfl rfl (.cons (tp rfl) .nil) (WI p38) [1,3,8,9] rfl [] rfl rfl (λ g37 _ _ _ st37=>?_)
     refine st37.segA 1 [1,3,8,9] [(7,0)] (λ _ _ st40=>wpList_nil (zf (za ?_)))
     cases h39
     exact fx
    cases h32
    exact fx
   rintro a25 w25 ⟨M25,q25_0,st25⟩
   have h41:=k25
   obtain⟨v42,p42,h43⟩:=bs h41
   refine st25.rgA [1,3,8,9] [(7,0)] (λ _ _ st44=>za ?_)
   exact fl h43
  refine za ?_
  have h45:=lo h24 hx20
  cases h45
  exact fx
 rintro a18 w18 ⟨M18,q18_0,st18⟩
 have h46:=k18
 refine st18.sqA [] [(6,0)] (λ _ _ st47=>wp_ret ?_)
 exact st47.ret_own 0 rfl rfl iI h46
end Go.Proofs.YtpmkkijamfgaeaaGreatDoor
