/-
  Models for what was walked before.
  Models of functions, and their walks: printed by a program of our own (wip/mxo.py).
-/
import Derived.Test.YtiiiokblnnlapaaGreatDoorRDLG
import Derived.Test.YtiiiokblnnlapaaGreatDoorRFLG
import Derived.Test.YtiiiokblnnlapaaGreatDoorROLG
import Derived.Test.YtiiiokblnnlapaaGreatDoorRCLG
namespace Go.Proofs.YtiiiokblnnlapaaGreatDoor
open Go.RowKit
instance (s:Str):Decidable (mid s):=by unfold mid;infer_instance
instance (s:Stmt):Decidable (smStmt s):=by unfold smStmt;infer_instance
instance (f:File):Decidable (smFile f):=by unfold smFile;infer_instance
instance (t:Tree):Decidable (wY t):=by unfold wY;infer_instance
def jl(t:Tree):Option Bool:=if wY t then some (zM t) else none
theorem JN{t:Tree}{r:Bool}(h:jl t=some r):Fn Tryz.prog 73 [dt t] (dt r):=by
 unfold jl at h
 split at h
 ·
  rename_i hc
  injection h with h
  subst h
  exact Jg _ hc
 ·
  cases h
def y8(s:Str):Option Bool:=if mid s then some (zl s) else none
theorem Zi{s:Str}{r:Bool}(h:y8 s=some r):Fn Tryz.prog 75 [dt s] (dt r):=by
 unfold y8 at h
 split at h
 ·
  rename_i hc
  injection h with h
  subst h
  exact wT _ hc
 ·
  cases h
def jO(l:List Str)(s:Str):Option (List Str):=if l.length<=8796093022200 then some (xd l s) else none
theorem Jj{l:List Str}{s:Str}{r:List Str}(h:jO l s=some r):Wx Tryz.prog 97 9 l [dt s] r:=by
 unfold jO at h
 split at h
 ·
  rename_i hc
  injection h with h
  subst h
  exact WB _ _ hc
 ·
  cases h
def jm(p:List Int):Option Bool:=if True then some (xp p) else none
theorem JO{p:List Int}{r:Bool}(h:jm p=some r):Fn Tryz.prog 74 [dt p] (dt r):=by
 unfold jm at h
 split at h
 ·
  rename_i hc
  injection h with h
  subst h
  exact Jf _
 ·
  cases h
def Yq(t:Tree)(p:List Int)(s:Str):Option Spec:=if p.length<=1099511627776/\mid s then some (find t.files p s) else none
theorem spec_find_w{t:Tree}{p:List Int}{s:Str}{r:Spec}(h:Yq t p s=some r):Fn Tryz.prog 175 [dt t,dt p,dt s] (dt r):=by
 unfold Yq at h
 split at h
 ·
  rename_i hc
  injection h with h
  subst h
  exact spec_find_ok _ _ _ hc.1 hc.2
 ·
  cases h
def xP(s:Str):Option Str:=if mid s then some (wX s) else none
theorem YA{s:Str}{r:Str}(h:xP s=some r):Fn Tryz.prog 157 [dt s] (dt r):=by
 unfold xP at h
 split at h
 ·
  rename_i hc
  injection h with h
  subst h
  exact Qu _ hc
 ·
  cases h
def qY(s:Str):Option (List Str):=if mid s then some (xX s) else none
theorem Jk{s:Str}{r:List Str}(h:qY s=some r):Fn Tryz.prog 95 [dt s] (dt r):=by
 unfold qY at h
 split at h
 ·
  rename_i hc
  injection h with h
  subst h
  exact spec_above_ok _ hc
 ·
  cases h
def ZW(p:Str)(s:Str):Option Str:=if p.l.length+s.l.length<=1152921504606846976 then some (child p s) else none
theorem spec_child_w{p:Str}{s:Str}{r:Str}(h:ZW p s=some r):Fn Tryz.prog 188 [dt p,dt s] (dt r):=by
 unfold ZW at h
 split at h
 ·
  rename_i hc
  injection h with h
  subst h
  exact qt _ _ hc
 ·
  cases h
def jP(f:File):Option Str:=if smFile f then some (yX f) else none
theorem qZ{f:File}{r:Str}(h:jP f=some r):Fn Tryz.prog 149 [dt f] (dt r):=by
 unfold jP at h
 split at h
 ·
  rename_i hc
  injection h with h
  subst h
  exact WA _ hc
 ·
  cases h
def YB(t:Tree)(f:File):Option Int:=if True then some (yD t.files f) else none
theorem spec_fileAt_w{t:Tree}{f:File}{r:Int}(h:YB t f=some r):Fn Tryz.prog 139 [dt t,dt f] (dt r):=by
 unfold YB at h
 split at h
 ·
  rename_i hc
  injection h with h
  subst h
  exact qR _ _
 ·
  cases h
open Go.RowKit
set_option maxRecDepth 10000
set_option maxHeartbeats 1600000
theorem kF111_0:fldB Tryz.prog 111 0 0=true:=by kernel_rfl
theorem kN110:fnB Tryz.prog 110=true:=by kernel_rfl
theorem kF111_1:fldB Tryz.prog 111 1 1=true:=by kernel_rfl
def yf(s17:Str×Int):Option ((Str×Int)⊕Str):=
if(cmpI .gtr s17.2 (1:Int)&&decide (s17.1≠(⟨[]⟩:Str)))=true then((xC s17.1).bind λ v22=>
(i64 (s17.2 - (1:Int))).bind λ v25=>
some (.inl (v22,v25)))
else(some (.inr s17.1))
def wE(x0:Str)(x1:Int)(x2:Str):Option Str:=
(yH x0).bind λ v2=>
(gO ((!v2) == false) (yH x2)).bind λ v3=>
(gO (((!v2)||(!v3)) == false) (yt x1 (0:Int) (4:Int))).bind λ v4=>
if(((!v2)||(!v3))||(!v4))=true then(some (⟨[]⟩:Str))
else(if(cmpI .eql x1 (0:Int))=true then(some x2)
else(Option.bind (α:=Str) (zL (λ s17=>yf s17) (x0,x1)) λ o16=>
if(decide (o16=(⟨[]⟩:Str)))=true then(some (⟨[]⟩:Str))
else(Option.bind (α:=Str) (if(decide (x2≠(⟨[]⟩:Str)))=true then((catO (⟨[46]⟩:Str) x2).bind λ v38=>
(catO o16 v38).bind λ v39=>
some v39)
else(some o16)) λ o34=>
(zP o34).bind λ v44=>
if(!v44)=true then(some (⟨[]⟩:Str))
else(some o34))))
theorem WE{x0:Str}{x1:Int}{x2:Str}{r:Str}(h:wE x0 x1 x2=some r):Fn Tryz.prog 162 [dt x0,dt x1,dt x2] (dt r):=by
 unfold wE at h
 refine fnx (fn:=Tryz.f162) 0 Tryz.func162 rfl (of_decide_eq_true rfl) rfl (λ M w0 a0 st0=>?_)
 refine st0.sq0 (sc rfl (oA rfl (zv (by decide)))<|.nil) [0,1,2] rfl (λ a1 w1 st1=>?_)
 refine wp_seq ?_
 obtain⟨v2,p2,h5⟩:=bs h
 obtain⟨v3,p3,h6⟩:=bs h5
 obtain⟨v4,p4,h7⟩:=bs h6
 refine st1.sq0 (sc rfl (oM rfl (tp rfl))<|sc rfl (zi (l:=[.tmp 7]) rfl kN151 (.cons (tp rfl) .nil) (jj p2))<|sc rfl (yc rfl (tp rfl))<|sc rfl (oM rfl (tp rfl))<|sg rfl rfl (λ hg=>oM rfl (tp rfl))<|sg rfl rfl (λ hg=>zi (l:=[.tmp 11]) rfl kN151 (.cons (zj hg rfl) .nil) (jj (gh hg p3)))<|sg rfl rfl (λ hg=>yc rfl (zj hg rfl))<|sc rfl (xA rfl (tp rfl) (zb rfl))<|sc rfl (oM rfl (tp rfl))<|sg rfl rfl (λ hg=>oM rfl (tp rfl))<|sg rfl rfl (λ hg=>zi (l:=[.tmp 16,.const (.int .i64 0),.const (.int .i64 4)]) rfl kN84 (.cons (zj hg rfl) (.cons cI (.cons cI .nil))) (wZ (gh hg p4)))<|sg rfl rfl (λ hg=>yc rfl (zj hg rfl))<|sc rfl (xA rfl (tp rfl) (zb rfl))<|.nil) [0,1,2,19] rfl (λ a8 w8 st8=>?_)
 refine st8.cs (c:=19) rfl h7 (λ c9 h9=>?_) (λ c10 h10=>?_)
 ·
  refine st8.sq0 (sc rfl (oA rfl (zv (by decide)))<|.nil) [6] rfl (λ a11 w11 st11=>?_)
  refine wp_ret (zh ?_)
  exact st11.ret rfl rfl h9
 ·
  refine wp_skip (za (wp_seq ?_))
  refine st8.sq0 (sc rfl (oM rfl (tp rfl))<|sc rfl (oCI rfl (tp rfl) cI)<|.nil) [0,1,2,21] rfl (λ a12 w12 st12=>?_)
  refine st12.cs (c:=21) rfl h10 (λ c13 h13=>?_) (λ c14 h14=>?_)
  ·
   refine st12.sq0 (sc rfl (oM rfl (tp rfl))<|sc rfl (oA rfl (tp rfl))<|.nil) [6] rfl (λ a15 w15 st15=>?_)
   refine wp_ret (zh ?_)
   exact st15.ret rfl rfl h13
  ·
   refine wp_skip (za ?_)
   obtain⟨o16,p16,k16⟩:=bs h14
   refine zo (λ a w=>Sx (Frm.of w0) 45 M M [] [(0,dt o16),(2,dt x2)] [] a w) ?_ ?_
   ·
    refine wp_block ?_
    refine zI p16 (λ s17 a w=>Sx (Frm.of w0) 45 M M [] [(0,dt s17.1),(1,dt s17.2),(2,dt x2)] [] a w) (st12.sel0 [0,1,2] rfl) ?_
    rintro s17 x17 a17 w17 st17 hs17 hx17
    have h18:yf s17=some x17:=hs17
    unfold yf at h18
    refine wp_seq ?_
    refine st17.sq0 (sc rfl (oM rfl (tp rfl))<|sc rfl (oCI rfl (tp rfl) cI)<|sc rfl (oM rfl (tp rfl))<|sg rfl rfl (λ hg=>oM rfl (tp rfl))<|sg rfl rfl (λ hg=>ZI rfl (zj hg rfl) (zv (by decide)))<|sc rfl (zQ rfl (tp rfl) (zb rfl))<|.nil) [0,1,2,28] rfl (λ a19 w19 st19=>?_)
    refine st19.cs (c:=28) rfl h18 (λ c20 h20=>?_) (λ c21 h21=>?_)
    ·
     refine wp_skip (za (wp_seq (wp_block ?_)))
     obtain⟨v22,p22,h23⟩:=bs h20
     refine st19.rg0 (sc rfl (oM rfl (tp rfl))<|sc rfl (zi (l:=[.tmp 31]) rfl kN110 (.cons (tp rfl) .nil) (Xl p22))<|sc rfl (oA rfl (tp rfl))<|.nil) [0,1,2] rfl (λ a24 w24 st24=>?_)
     refine zk (za ?_)
     obtain⟨v25,p25,h26⟩:=bs h23
     refine st24.rg0 (sc rfl (oM rfl (tp rfl))<|sc rfl (xAr rfl (tp rfl) cI p25)<|sc rfl (oA rfl (tp rfl))<|.nil) [0,1,2] rfl (λ a27 w27 st27=>?_)
     refine za ?_
     exact⟨_,(Option.some.inj h26).symm,st27.sel0 [0,1,2] rfl⟩
    ·
     refine wp_exit (zm (zm (zC ?_)))
     refine za ?_
     have h28:=lo h21 hx17
     obtain rfl:=Option.some.inj h28
     exact st19.sel0 [0,2] rfl
   ·
    rintro a16 w16 st16
    have h29:=k16
    refine wp_seq ?_
    refine st16.sq0 (sc rfl (oM rfl (tp rfl))<|sc rfl (yW rfl (tp rfl) (zv (by decide)))<|.nil) [0,2,34] rfl (λ a30 w30 st30=>?_)
    refine st30.cs (c:=34) rfl h29 (λ c31 h31=>?_) (λ c32 h32=>?_)
    ·
     refine st30.sq0 (sc rfl (oA rfl (zv (by decide)))<|.nil) [6] rfl (λ a33 w33 st33=>?_)
     refine wp_ret (zh ?_)
     exact st33.ret rfl rfl h31
    ·
     refine wp_skip (za ?_)
     obtain⟨o34,p34,k34⟩:=bs h32
     refine zo (λ a w=>Sx (Frm.of w0) 45 M M [] [(0,dt o34)] [] a w) ?_ ?_
     ·
      refine st30.sq0 (sc rfl (oM rfl (tp rfl))<|sc rfl (ZI rfl (tp rfl) (zv (by decide)))<|.nil) [0,2,36] rfl (λ a35 w35 st35=>?_)
      refine st35.cs (c:=36) rfl p34 (λ c36 h36=>?_) (λ c37 h37=>?_)
      ·
       obtain⟨v38,p38,h40⟩:=bs h36
       obtain⟨v39,p39,h41⟩:=bs h40
       refine st35.rg0 (sc rfl (oM rfl (tp rfl))<|sc rfl (oM rfl (tp rfl))<|sc rfl (xCat rfl (zv (by decide)) (tp rfl) p38)<|sc rfl (xCat rfl (tp rfl) (tp rfl) p39)<|sc rfl (oA rfl (tp rfl))<|.nil) [0] rfl (λ a42 w42 st42=>?_)
       refine za ?_
       obtain rfl:=Option.some.inj h41
       exact st42.sel0 [0] rfl
      ·
       refine wp_skip (za ?_)
       obtain rfl:=Option.some.inj h37
       exact st35.sel0 [0] rfl
     ·
      rintro a34 w34 st34
      have h43:=k34
      refine wp_seq ?_
      obtain⟨v44,p44,h45⟩:=bs h43
      refine st34.sq0 (sc rfl (oM rfl (tp rfl))<|sc rfl (zi (l:=[.tmp 41]) rfl kN28 (.cons (tp rfl) .nil) (yk p44))<|sc rfl (yc rfl (tp rfl))<|.nil) [0,43] rfl (λ a46 w46 st46=>?_)
      refine st46.cs (c:=43) rfl h45 (λ c47 h47=>?_) (λ c48 h48=>?_)
      ·
       refine st46.sq0 (sc rfl (oA rfl (zv (by decide)))<|.nil) [6] rfl (λ a49 w49 st49=>?_)
       refine wp_ret (zh ?_)
       exact st49.ret rfl rfl h47
      ·
       refine wp_skip (za ?_)
       refine st46.sq0 (sc rfl (oM rfl (tp rfl))<|sc rfl (oA rfl (tp rfl))<|.nil) [6] rfl (λ a50 w50 st50=>?_)
       refine wp_ret ?_
       exact st50.ret rfl rfl h48
def y9(x0:GMod):Option Str:=
if(cmpI .eql x0.kind (1:Int))=true then((xC x0.name).bind λ v5=>
some v5)
else(some x0.name)
theorem YQ{x0:GMod}{r:Str}(h:y9 x0=some r):Fn Tryz.prog 163 [dptr x0] (dt r):=by
 unfold y9 at h
 refine fnx (fn:=Tryz.f163) 0 Tryz.func163 rfl (of_decide_eq_true rfl) rfl (λ M w0 a0 st0=>?_)
 refine st0.sq0 (sc rfl (oA rfl (zv (by decide)))<|.nil) [0] rfl (λ a1 w1 st1=>?_)
 refine wp_seq ?_
 refine st1.sq0 (sc rfl (oM rfl (tp rfl))<|sc rfl (xNcP rfl (tp rfl))<|sc rfl (zn GMod.fld1 rfl kF111_1 (tp rfl))<|sc rfl (zf rfl kT3 (tp rfl))<|sc rfl (oCI rfl (tp rfl) cI)<|.nil) [0,7] rfl (λ a2 w2 st2=>?_)
 refine st2.cs (c:=7) rfl h (λ c3 h3=>?_) (λ c4 h4=>?_)
 ·
  obtain⟨v5,p5,h6⟩:=bs h3
  refine st2.sq0 (sc rfl (oM rfl (tp rfl))<|sc rfl (xNcP rfl (tp rfl))<|sc rfl (zn GMod.fld0 rfl kF111_0 (tp rfl))<|sc rfl (zf rfl kT9 (tp rfl))<|sc rfl (zi (l:=[.tmp 11]) rfl kN110 (.cons (tp rfl) .nil) (Xl p5))<|sc rfl (oA rfl (tp rfl))<|.nil) [2] rfl (λ a7 w7 st7=>?_)
  refine wp_ret (zh ?_)
  exact st7.ret rfl rfl h6
 ·
  refine wp_skip (za ?_)
  refine st2.sq0 (sc rfl (oM rfl (tp rfl))<|sc rfl (xNcP rfl (tp rfl))<|sc rfl (zn GMod.fld0 rfl kF111_0 (tp rfl))<|sc rfl (zf rfl kT9 (tp rfl))<|sc rfl (oA rfl (tp rfl))<|.nil) [2] rfl (λ a8 w8 st8=>?_)
  refine wp_ret ?_
  exact st8.ret rfl rfl h4
open Go.RowKit
set_option maxRecDepth 10000
set_option maxHeartbeats 1600000
theorem kN92:fnB Tryz.prog 92=true:=by kernel_rfl
open Go.RowKit
set_option maxRecDepth 10000
set_option maxHeartbeats 1600000
theorem kF119_1:fldB Tryz.prog 119 1 1=true:=by kernel_rfl
theorem kB111:bldB Tryz.prog 111 [1,1,1,1,1,1]=true:=by kernel_rfl
theorem kC111:ZJ Tryz.prog 111 [1,1,1,1,1,1]=some zpGMod:=by kernel_rfl
theorem kN163:fnB Tryz.prog 163=true:=by kernel_rfl
theorem kN162:fnB Tryz.prog 162=true:=by kernel_rfl
structure Rec where
 spec_importName:Runner->Str->Option (Runner×Int)
 spec_fromName:Runner->Int->Str->Option (Runner×GVal)
 spec_runFrom:Runner->Int->Stmt->Option Runner
 spec_runStar:Runner->Int->Stmt->Option Runner
 spec_runStmt:Runner->Int->Stmt->Option Runner
 spec_runBody:Runner->Int->(List Stmt)->Option Runner
 impl_machine_load1:Machine->Str->Option (Machine×Int×Int)
 impl_machine_body:Machine->Int->Spec->Option (Machine×Int)
 impl_machine_do:Machine->Int->Stmt->Option (Machine×Int)
def Rec.no:Rec:=⟨λ _ _=>none,λ _ _ _=>none,λ _ _ _=>none,λ _ _ _=>none,λ _ _ _=>none,λ _ _ _=>none,λ _ _=>none,λ _ _ _=>none,λ _ _ _=>none⟩
structure Rec.ok(R:Rec):Prop where
 spec_importName:∀ {x0:Runner} {x1:Str} {r:Runner×Int},R.spec_importName x0 x1=some r->FnS Tryz.prog 178 (Ow.box (owRunner (Ow.row 111 (owGModR (Ow.row 133 (Ow.frz (α:=GAttr))))) (Ow.row 85 (Ow.frz (α:=GEvent))) (Ow.row 3 (Ow.frz (α:=Int))))) ⟨x0⟩ [dt x1] ⟨r.1⟩ (.frz (dt r.2))
 spec_fromName:∀ {x0:Runner} {x1:Int} {x2:Str} {r:Runner×GVal},R.spec_fromName x0 x1 x2=some r->FnS Tryz.prog 287 (Ow.box (owRunner (Ow.row 111 (owGModR (Ow.row 133 (Ow.frz (α:=GAttr))))) (Ow.row 85 (Ow.frz (α:=GEvent))) (Ow.row 3 (Ow.frz (α:=Int))))) ⟨x0⟩ [dt x1,dt x2] ⟨r.1⟩ (.frz (dt r.2))
 spec_runFrom:∀ {x0:Runner} {x1:Int} {x2:Stmt} {r:Runner},R.spec_runFrom x0 x1 x2=some r->FnS Tryz.prog 273 (Ow.box (owRunner (Ow.row 111 (owGModR (Ow.row 133 (Ow.frz (α:=GAttr))))) (Ow.row 85 (Ow.frz (α:=GEvent))) (Ow.row 3 (Ow.frz (α:=Int))))) ⟨x0⟩ [dt x1,dt x2] ⟨r⟩ .gone
 spec_runStar:∀ {x0:Runner} {x1:Int} {x2:Stmt} {r:Runner},R.spec_runStar x0 x1 x2=some r->FnS Tryz.prog 274 (Ow.box (owRunner (Ow.row 111 (owGModR (Ow.row 133 (Ow.frz (α:=GAttr))))) (Ow.row 85 (Ow.frz (α:=GEvent))) (Ow.row 3 (Ow.frz (α:=Int))))) ⟨x0⟩ [dt x1,dt x2] ⟨r⟩ .gone
 spec_runStmt:∀ {x0:Runner} {x1:Int} {x2:Stmt} {r:Runner},R.spec_runStmt x0 x1 x2=some r->FnS Tryz.prog 250 (Ow.box (owRunner (Ow.row 111 (owGModR (Ow.row 133 (Ow.frz (α:=GAttr))))) (Ow.row 85 (Ow.frz (α:=GEvent))) (Ow.row 3 (Ow.frz (α:=Int))))) ⟨x0⟩ [dt x1,dt x2] ⟨r⟩ .gone
 spec_runBody:∀ {x0:Runner} {x1:Int} {x2:List Stmt} {r:Runner},R.spec_runBody x0 x1 x2=some r->FnS Tryz.prog 216 (Ow.box (owRunner (Ow.row 111 (owGModR (Ow.row 133 (Ow.frz (α:=GAttr))))) (Ow.row 85 (Ow.frz (α:=GEvent))) (Ow.row 3 (Ow.frz (α:=Int))))) ⟨x0⟩ [dt x1,dt x2] ⟨r⟩ .gone
 impl_machine_load1:∀ {x0:Machine} {x1:Str} {r:Machine×Int×Int},R.impl_machine_load1 x0 x1=some r->∀ {ps:List (Nat×Nat)},FnS Tryz.prog 156 (Ow.box (owMachine (Ow.rowP ps 109 (owGModR (Ow.row 133 (Ow.frz (α:=GAttr))))) (Ow.row 3 (Ow.frz (α:=Int))) (Ow.row 85 (Ow.frz (α:=GEvent))) (Ow.row 9 (Ow.frz (α:=Str))))) ⟨x0⟩ [dt x1] ⟨r.1⟩ (.frz (dtup [dt r.2.1,dt r.2.2]))
 impl_machine_body:∀ {x0:Machine} {x1:Int} {x2:Spec} {r:Machine×Int},R.impl_machine_body x0 x1 x2=some r->∀ {ps:List (Nat×Nat)},FnS Tryz.prog 182 (Ow.box (owMachine (Ow.rowP ps 109 (owGModR (Ow.row 133 (Ow.frz (α:=GAttr))))) (Ow.row 3 (Ow.frz (α:=Int))) (Ow.row 85 (Ow.frz (α:=GEvent))) (Ow.row 9 (Ow.frz (α:=Str))))) ⟨x0⟩ [dt x1,dt x2] ⟨r.1⟩ (.frz (dt r.2))
 impl_machine_do:∀ {x0:Machine} {x1:Int} {x2:Stmt} {r:Machine×Int},R.impl_machine_do x0 x1 x2=some r->∀ {ps:List (Nat×Nat)},FnS Tryz.prog 221 (Ow.box (owMachine (Ow.rowP ps 109 (owGModR (Ow.row 133 (Ow.frz (α:=GAttr))))) (Ow.row 3 (Ow.frz (α:=Int))) (Ow.row 85 (Ow.frz (α:=GEvent))) (Ow.row 9 (Ow.frz (α:=Str))))) ⟨x0⟩ [dt x1,dt x2] ⟨r.1⟩ (.frz (dt r.2))
open Go.RowKit
set_option maxRecDepth 10000
set_option maxHeartbeats 1600000
theorem kT111:tyB Tryz.prog 111 true 6=true:=by kernel_rfl
theorem kZ111:xF Tryz.prog 111=some zcGMod:=by kernel_rfl
open Go.RowKit
set_option maxRecDepth 10000
set_option maxHeartbeats 1600000
end Go.Proofs.YtiiiokblnnlapaaGreatDoor
