/-
  Models for what was walked before.
  Models of functions, and their walks: printed by a program of our own (wip/mxo.py).
-/
import Derived.Test.YtiiiokblnnlapaaGreatDoorRDLD
import Derived.Test.YtiiiokblnnlapaaGreatDoorRFLD
import Derived.Test.YtiiiokblnnlapaaGreatDoorRBLD
import Derived.Test.YtiiiokblnnlapaaGreatDoorROLD
import Derived.Test.YtiiiokblnnlapaaGreatDoorRCLD
namespace Go.Proofs.YtiiiokblnnlapaaGreatDoor
open Go.RowKit
instance (s:Str):Decidable (mid s):=by unfold mid;infer_instance
instance (s:Stmt):Decidable (smStmt s):=by unfold smStmt;infer_instance
instance (f:File):Decidable (smFile f):=by unfold smFile;infer_instance
instance (t:Tree):Decidable (Zf t):=by unfold Zf;infer_instance
@[reducible] def oAtt:Ow (List GAttr):=Ow.row 133 (Ow.frz (α:=GAttr))
@[reducible] def oMac(ps:List (Nat×Nat)):Ow (Bx Machine):=Ow.box (owMachine (Ow.rowP ps 109 (owGModR oAtt)) (Ow.row 3 (Ow.frz (α:=Int))) (Ow.row 85 (Ow.frz (α:=GEvent))) (Ow.row 9 (Ow.frz (α:=Str))))
@[reducible] def oRun:Ow (Bx Runner):=Ow.box (owRunner (Ow.row 111 (owGModR (Ow.row 133 (Ow.frz (α:=GAttr))))) (Ow.row 85 (Ow.frz (α:=GEvent))) (Ow.row 3 (Ow.frz (α:=Int))))
def jM(t:Tree):Option Bool:=if Zf t then some (zT t) else none
theorem Qb{t:Tree}{r:Bool}(h:jM t=some r):Fn Tryz.prog 73 [dt t] (dt r):=by
 unfold jM at h
 split at h
 ·
  rename_i hc
  injection h with h
  subst h
  exact Ju _ hc
 ·
  cases h
def yX(s:Str):Option Bool:=if mid s then some (zk s) else none
theorem ZK{s:Str}{r:Bool}(h:yX s=some r):Fn Tryz.prog 75 [dt s] (dt r):=by
 unfold yX at h
 split at h
 ·
  rename_i hc
  injection h with h
  subst h
  exact jt _ hc
 ·
  cases h
def Zy(s:Str)(c:UInt8):Option (List Str):=if mid s then some (zB s c) else none
theorem Q0{s:Str}{c:UInt8}{r:List Str}(h:Zy s c=some r):Fn Tryz.prog 142 [dt s,dt c] (dt r):=by
 unfold Zy at h
 split at h
 ·
  rename_i hc
  injection h with h
  subst h
  exact Za _ _ hc
 ·
  cases h
def jN(p:List Int):Option Bool:=if True then some (wl p) else none
theorem Qc{p:List Int}{r:Bool}(h:jN p=some r):Fn Tryz.prog 74 [dt p] (dt r):=by
 unfold jN at h
 split at h
 ·
  rename_i hc
  injection h with h
  subst h
  exact Jt _
 ·
  cases h
def xw(s:Str):Option Str:=if mid s then some (zE s) else none
theorem ZP{s:Str}{r:Str}(h:xw s=some r):Fn Tryz.prog 157 [dt s] (dt r):=by
 unfold xw at h
 split at h
 ·
  rename_i hc
  injection h with h
  subst h
  exact QW _ hc
 ·
  cases h
def qt(s:Str):Option Str:=if mid s then some (wa s) else none
theorem QE{s:Str}{r:Str}(h:qt s=some r):Fn Tryz.prog 219 [dt s] (dt r):=by
 unfold qt at h
 split at h
 ·
  rename_i hc
  injection h with h
  subst h
  exact spec_last_ok _ hc
 ·
  cases h
def qJ(p:Str)(s:Str):Option Str:=if p.l.length+s.l.length<=1152921504606846976 then some (child p s) else none
theorem Jz{p:Str}{s:Str}{r:Str}(h:qJ p s=some r):Fn Tryz.prog 188 [dt p,dt s] (dt r):=by
 unfold qJ at h
 split at h
 ·
  rename_i hc
  injection h with h
  subst h
  exact qT _ _ hc
 ·
  cases h
def Zz(f:File):Option Str:=if smFile f then some (Zg f) else none
theorem YU{f:File}{r:Str}(h:Zz f=some r):Fn Tryz.prog 149 [dt f] (dt r):=by
 unfold Zz at h
 split at h
 ·
  rename_i hc
  injection h with h
  subst h
  exact W6 _ hc
 ·
  cases h
def Y6(t:Tree)(f:File):Option Int:=if True then some (yP t.files f) else none
theorem spec_fileAt_w{t:Tree}{f:File}{r:Int}(h:Y6 t f=some r):Fn Tryz.prog 139 [dt t,dt f] (dt r):=by
 unfold Y6 at h
 split at h
 ·
  rename_i hc
  injection h with h
  subst h
  exact Zw _ _
 ·
  cases h
def Y7  : Option Spec:=if True then some (noSpec) else none
theorem spec_noSpec_w {r:Spec}(h:Y7  = some r):Fn Tryz.prog 211 [] (dt r):=by
 unfold Y7 at h
 split at h
 ·
  rename_i hc
  injection h with h
  subst h
  exact X7
 ·
  cases h
def ZQ(t:Tree)(rs:List Int)(p:Str)(s:Str):Option Spec:=if rs.length<=1099511627776/\p.l.length+s.l.length<=1152921504606846975 then some (Zh t.files rs p s) else none
theorem spec_findIn_w{t:Tree}{rs:List Int}{p:Str}{s:Str}{r:Spec}(h:ZQ t rs p s=some r):Fn Tryz.prog 212 [dt t,dt rs,dt p,dt s] (dt r):=by
 unfold ZQ at h
 split at h
 ·
  rename_i hc
  injection h with h
  subst h
  exact QY _ _ _ _ hc.1 hc.2
 ·
  cases h
open Go.RowKit
attribute [local irreducible] OpRel OpdR
set_option maxRecDepth 10000
set_option maxHeartbeats 1600000
theorem kF141_1:fldB Tryz.prog 141 1 1=true:=by kernel_rfl
theorem kL106:isSl Tryz.prog 106=true:=by kernel_rfl
theorem XQ:slB Tryz.prog 106 1=true:=by kernel_rfl
theorem Xn:tyB Tryz.prog 109 false 1=true:=by kernel_rfl
theorem JA:fldB Tryz.prog 111 3 3=true:=by kernel_rfl
theorem ZR:fldB Tryz.prog 111 0 0=true:=by kernel_rfl
theorem qk:fldB Tryz.prog 108 4 4=true:=by kernel_rfl
theorem YD:tyB Tryz.prog 106 false 1=true:=by kernel_rfl
theorem kN173:fnB Tryz.prog 173=true:=by kernel_rfl
theorem kN172:fnB Tryz.prog 172=true:=by kernel_rfl
theorem kN110:fnB Tryz.prog 110=true:=by kernel_rfl
theorem JB:fldB Tryz.prog 111 1 1=true:=by kernel_rfl
theorem kZ131:y9 Tryz.prog 131=some zcGVal:=by kernel_rfl
theorem jd:fldB Tryz.prog 111 5 5=true:=by kernel_rfl
theorem kT57:tyB Tryz.prog 57 false 1=true:=by kernel_rfl
theorem kL57:isSl Tryz.prog 57=true:=by kernel_rfl
theorem kS57:slB Tryz.prog 57 3=true:=by kernel_rfl
theorem kT133:tyB Tryz.prog 133 true 3=true:=by kernel_rfl
theorem kZ133:y9 Tryz.prog 133=some zcGAttr:=by kernel_rfl
theorem Wu:fldB Tryz.prog 133 0 0=true:=by kernel_rfl
theorem XI:fldB Tryz.prog 133 1 1=true:=by kernel_rfl
theorem wX:tyB Tryz.prog 131 true 2=true:=by kernel_rfl
theorem Wd:bldB Tryz.prog 131 [1,1]=true:=by kernel_rfl
theorem We:jU Tryz.prog 131 [1,1]=some Yc:=by kernel_rfl
theorem kB108:bldB Tryz.prog 108 [1,1,1,1,1,1,1,1,1]=true:=by kernel_rfl
theorem kC108:jU Tryz.prog 108 [1,1,1,1,1,1,1,1,1]=some zpMachine:=by kernel_rfl
theorem kN180:fnB Tryz.prog 180=true:=by kernel_rfl
theorem kF108_6:fldB Tryz.prog 108 6 6=true:=by kernel_rfl
theorem kT66:tyB Tryz.prog 66 false 1=true:=by kernel_rfl
theorem kB85:bldB Tryz.prog 85 [1,1]=true:=by kernel_rfl
theorem kC85:jU Tryz.prog 85 [1,1]=some zpGEvent:=by kernel_rfl
theorem kS66:slB Tryz.prog 66 2=true:=by kernel_rfl
theorem kY66:zlB Tryz.prog 66=true:=by kernel_rfl
theorem kE66:elB Tryz.prog 66 85 2 24=true:=by kernel_rfl
def yv(x0:File):Option (List Stmt):=
some x0.body
theorem WC{x0:File}{r:List Stmt}(h:yv x0=some r):Fn Tryz.prog 180 [dt x0] (dt r):=by
 unfold yv at h
 refine fnx (fn:=Tryz.f180) 0 Tryz.func180 rfl (of_decide_eq_true rfl) rfl (λ M _ _ st0=>?_)
 refine st0.sq2 (sc rfl (jf rfl (tp rfl))<|sc rfl (oA rfl (qG (α:=Stmt)))<|.nil) [1] (λ _ _ st1=>?_)
 refine st1.sq1 [2] (λ _ _ st2=>?_)
 refine wp_ret ?_
 exact st2.ret rfl rfl h
def zL(x0:List (Bx GMod))(x1:(GMod->Option Bool))(s4:Int):Option (Int⊕(Unit⊕Int)):=
if(cmpI .lss s4 (x0.length:Int))=true then((atI x0 s4).bind λ v10=>
(x1 v10.x).bind λ v11=>
if v11=true then(some (.inr (.inr s4)))
else((i64 (s4+(1:Int))).bind λ v20=>
some (.inl v20)))
else(some (.inr (.inl ())))
def yh(x0:List (Bx GMod))(x1:(GMod->Option Bool)):Option Int:=
Option.bind (α:=Unit⊕Int) (zX (λ s4=>zL x0 x1 s4) (0:Int)) (Sum.elim (λ _b2=>
some (-1:Int)) some)
theorem jY{x0:List (Bx GMod)}{x1:(GMod->Option Bool)}{r:Int}(h:yh x0 x1=some r):Fn Tryz.prog 172 [dt x0,dfq1 Tryz.prog x1] (dt r):=by
 unfold yh at h
 refine fnx (fn:=Tryz.f172) 0 Tryz.func172 rfl (of_decide_eq_true rfl) rfl (λ M w0 _ st0=>?_)
 refine st0.sq1 [0,1] (λ _ _ st1=>?_)
 obtain⟨o2,p2,k2⟩:=bs h
 refine zo (λ a w=>∃ b2,o2=.inl b2/\Sx (Frm.of w0) 19 M M [] [] [] a w) ?_ ?_
 ·
  refine st1.sq1 [0,1,7,8] (λ _ _ st3=>?_)
  refine wp_block ?_
  refine zO p2 (λ s4 a w=>Sx (Frm.of w0) 19 M M [] [(0,dt x0),(7,dt (x0.length:Int)),(8,dt s4),(1,dfq1 Tryz.prog x1)] [] a w) (st3.sel0 [0,7,8,1] rfl) ?_
  rintro s4 z4 a4 w4 st4 hs4 hx4
  have h5:zL x0 x1 s4=some z4:=hs4
  unfold zL at h5
  refine st4.sq1 [0,1,7,8,9] (λ _ _ st6=>?_)
  refine wp_seq ?_
  refine st6.cs rfl h5 (λ _ h7=>?_) (λ _ h8=>?_)
  ·
   refine wp_skip (za (wp_seq (wp_block ?_)))
   refine st6.sq1 [0,1,5,7,8] (λ _ _ st9=>?_)
   obtain⟨v10,p10,h12⟩:=bs h7
   obtain⟨v11,p11,h13⟩:=bs h12
   refine st9.sq2 (sc rfl (oM rfl (tp rfl))<|sc rfl (oM rfl (tp rfl))<|sc rfl (oM rfl (tp rfl))<|sc rfl (xIdx rfl XQ (tp rfl) (tp rfl) p10)<|sc rfl (OpRel.bx (ze rfl Xn (tp rfl)))<|sc rfl (xCaQ1 rfl (tp rfl) (tp rfl) p11)<|.nil) [0,1,5,7,8,16] (λ _ _ st14=>?_)
   refine st14.cs rfl h13 (λ _ h15=>?_) (λ _ h16=>?_)
   ·
    refine st14.sq1 [4] (λ _ _ st17=>?_)
    refine wp_ret (zr (zd (zd (zr (zd ?_)))))
    have h18:=lo h15 hx4
    have h19:=jo h18 k2
    exact st17.ret rfl rfl h19
   refine wp_skip (zi (za ?_))
   obtain⟨v20,p20,h21⟩:=bs h16
   refine st14.rg1 [0,1,7,8] (λ _ _ st22=>?_)
   refine za ?_
   exact⟨_,(Option.some.inj h21).symm,st22.sel0 [0,7,8,1] rfl⟩
  refine wp_exit (zn (zn (zG ?_)))
  refine za ?_
  have h23:=lo h8 hx4
  exact⟨_,(Option.some.inj h23).symm,st6.sel0 [] rfl⟩
 rintro a2 w2 ⟨b2,rfl,st2⟩
 have h24:=jn k2
 refine st2.sq1 [4] (λ _ _ st25=>?_)
 refine wp_ret ?_
 exact st25.ret rfl rfl h24
def yx(x0:GMod)(x1:Str):Option Bool:=
some (x0.cached&&decide (x0.name=x1))
theorem Xo{x0:GMod}{x1:Str}{r:Bool}(h:yx x0 x1=some r):Fn Tryz.prog 173 [dptr x0,dptr x1] (dt r):=by
 unfold yx at h
 refine fnx (fn:=Tryz.f173) 0 Tryz.func173 rfl (of_decide_eq_true rfl) rfl (λ M _ _ st0=>?_)
 refine st0.sq1 [0,1] (λ _ _ st1=>?_)
 refine wp_seq ?_
 refine st1.dr (D:=[_,_,_,_,_,_,_,_,_,_,_,_,_]) zK [[],[0],[0,1],[0,1,2],[0,1,2,3],[0,1,2,3,4],[0,1,2,3,4,5],[0,1,2,3,4,5,6],[0,1,2,3,4,5,6,7],[0,1,2,3,4],[0,1,2,3,4,5,6,7,8,9],[0,1,2,3,4,5,6,7,8,9,10],[0,1,2,3,4,5,6,7,8,9,10,11]] [[(0,none)],[(4,some 0)],[(5,some 1)],[(6,some 2)],[(7,some 3)],[(0,none),(8,some 4)],[(9,some 5),(8,some 4)],[(10,some 6),(8,some 4)],[(11,some 7),(8,some 4)],[(1,none),(8,some 4)],[(12,some 8),(13,some 9),(8,some 4)],[(8,some 4),(14,some 10)],[(15,some 11)]] (by decide +kernel) (
  rc rfl rfl (oM rfl (tp rfl))<|rc rfl rfl (xNcP rfl (tp rfl))<|rc rfl rfl (zh GMod.fld3 rfl JA (tp rfl))<|rc rfl rfl (ze rfl kT4 (tp rfl))<|rc rfl rfl (oM rfl (tp rfl))<|rg rfl rfl rfl (λ hg=>oM rfl (tp rfl))<|rg rfl rfl rfl (λ hg=>xNcP rfl (zf hg rfl))<|rg rfl rfl rfl (λ hg=>zh GMod.fld0 rfl ZR (zf hg rfl))<|rg rfl rfl rfl (λ hg=>ze rfl kT9 (zf hg rfl))<|rg rfl rfl rfl (λ hg=>ze rfl kT9 (tp rfl))<|rg rfl rfl rfl (λ hg=>ws rfl (zf hg rfl) (zf hg rfl))<|rc rfl rfl (zW rfl (tp rfl) (zb rfl))<|rc rfl rfl (oA rfl (tp rfl))<|.nil) [3] rfl [] rfl trivial (λ _ _ st2=>?_)
 refine za (wp_ret ?_)
 exact st2.ret rfl rfl h
def zU(x0:Machine)(x1:Str):Option Int:=
(yh x0.modules (λ a0=>yx a0 x1)).bind λ v2=>
some v2
theorem xa{x0:Machine}{x1:Str}{r:Int}(h:zU x0 x1=some r):Fn Tryz.prog 113 [dptr x0,dt x1] (dt r):=by
 unfold zU at h
 refine fnx (fn:=Tryz.f113) 0 Tryz.func113 rfl (of_decide_eq_true rfl) rfl (λ M _ a0 st0=>?_)
 refine st0.sq1 [0,3] (λ _ _ st1=>?_)
 obtain⟨v2,p2,h3⟩:=bs h
 refine st1.sq2 (sc rfl (oM rfl (tp rfl))<|sc rfl (xNcP rfl (tp rfl))<|sc rfl (zh Machine.fld4 rfl qk (tp rfl))<|sc rfl (ze rfl YD (tp rfl))<|sc rfl (xMkQ1 (l:=[.tmp 3]) (g:=(λ a0=>yx a0 x1)) rfl kN173 (.cons (tp rfl) .nil) rfl (λ _ _ h=>Xo h))<|sc rfl (zq (l:=[.tmp 8,.tmp 9]) rfl kN172 (.cons (tp rfl) (.cons (tp rfl) .nil)) (jY p2))<|sc rfl (oA rfl (tp rfl))<|.nil) [4] (λ _ _ st4=>?_)
 refine wp_ret ?_
 exact st4.ret rfl rfl h3
def ym(s17:Str×Int):Option ((Str×Int)⊕Str):=
if(cmpI .gtr s17.2 (1:Int)&&decide (s17.1≠(⟨[]⟩:Str)))=true then((yT s17.1).bind λ v22=>
(i64 (s17.2 - (1:Int))).bind λ v25=>
some (.inl (v22,v25)))
else(some (.inr s17.1))
def wY(x0:Str)(x1:Int)(x2:Str):Option Str:=
(yW x0).bind λ v2=>
(gO ((!v2) == false) (yW x2)).bind λ v3=>
(gO (((!v2)||(!v3)) == false) (yD x1 (0:Int) (4:Int))).bind λ v4=>
if(((!v2)||(!v3))||(!v4))=true then(some (⟨[]⟩:Str))
else(if(cmpI .eql x1 (0:Int))=true then(some x2)
else(Option.bind (α:=Str) (zX (λ s17=>ym s17) (x0,x1)) λ o16=>
if(decide (o16=(⟨[]⟩:Str)))=true then(some (⟨[]⟩:Str))
else(Option.bind (α:=Str) (if(decide (x2≠(⟨[]⟩:Str)))=true then((catO (⟨[46]⟩:Str) x2).bind λ v38=>
(catO o16 v38).bind λ v39=>
some v39)
else(some o16)) λ o34=>
(zZ o34).bind λ v44=>
if(!v44)=true then(some (⟨[]⟩:Str))
else(some o34))))
theorem W9{x0:Str}{x1:Int}{x2:Str}{r:Str}(h:wY x0 x1 x2=some r):Fn Tryz.prog 162 [dt x0,dt x1,dt x2] (dt r):=by
 unfold wY at h
 refine fnx (fn:=Tryz.f162) 0 Tryz.func162 rfl (of_decide_eq_true rfl) rfl (λ M w0 _ st0=>?_)
 refine st0.sq1 [0,1,2] (λ _ _ st1=>?_)
 refine wp_seq ?_
 obtain⟨v2,p2,h5⟩:=bs h
 obtain⟨v3,p3,h6⟩:=bs h5
 obtain⟨v4,p4,h7⟩:=bs h6
 refine st1.sq2 (sc rfl (oM rfl (tp rfl))<|sc rfl (zq (l:=[.tmp 7]) rfl kN151 (.cons (tp rfl) .nil) (jI p2))<|sc rfl (yz rfl (tp rfl))<|sc rfl (oM rfl (tp rfl))<|sg rfl rfl (λ hg=>oM rfl (tp rfl))<|sg rfl rfl (λ hg=>zq (l:=[.tmp 11]) rfl kN151 (.cons (zf hg rfl) .nil) (jI (gh hg p3)))<|sg rfl rfl (λ hg=>yz rfl (zf hg rfl))<|sc rfl (xv rfl (tp rfl) (zb rfl))<|sc rfl (oM rfl (tp rfl))<|sg rfl rfl (λ hg=>oM rfl (tp rfl))<|sg rfl rfl (λ hg=>zq (l:=[.tmp 16,.const (.int .i64 0),.const (.int .i64 4)]) rfl kN84 (.cons (zf hg rfl) (.cons cI (.cons cI .nil))) (jz (gh hg p4)))<|sg rfl rfl (λ hg=>yz rfl (zf hg rfl))<|sc rfl (xv rfl (tp rfl) (zb rfl))<|.nil) [0,1,2,19] (λ _ _ st8=>?_)
 refine st8.cs rfl h7 (λ _ h9=>?_) (λ _ h10=>?_)
 ·
  refine st8.sq1 [6] (λ _ _ st11=>?_)
  refine wp_ret (zd ?_)
  exact st11.ret rfl rfl h9
 refine wp_skip (za (wp_seq ?_))
 refine st8.sq1 [0,1,2,21] (λ _ _ st12=>?_)
 refine st12.cs rfl h10 (λ _ h13=>?_) (λ _ h14=>?_)
 ·
  refine st12.sq1 [6] (λ _ _ st15=>?_)
  refine wp_ret (zd ?_)
  exact st15.ret rfl rfl h13
 refine wp_skip (za ?_)
 obtain⟨o16,p16,k16⟩:=bs h14
 refine zo (λ a w=>Sx (Frm.of w0) 45 M M [] [(0,dt o16),(2,dt x2)] [] a w) ?_ ?_
 ·
  refine wp_block ?_
  refine zO p16 (λ s17 a w=>Sx (Frm.of w0) 45 M M [] [(0,dt s17.1),(1,dt s17.2),(2,dt x2)] [] a w) (st12.sel0 [0,1,2] rfl) ?_
  rintro s17 z17 a17 w17 st17 hs17 hx17
  have h18:ym s17=some z17:=hs17
  unfold ym at h18
  refine wp_seq ?_
  refine st17.sq2 (sc rfl (oM rfl (tp rfl))<|sc rfl (oCI rfl (tp rfl) cI)<|sc rfl (oM rfl (tp rfl))<|sg rfl rfl (λ hg=>oM rfl (tp rfl))<|sg rfl rfl (λ hg=>Yb rfl (zf hg rfl) (zI (by decide)))<|sc rfl (zW rfl (tp rfl) (zb rfl))<|.nil) [0,1,2,28] (λ _ _ st19=>?_)
  refine st19.cs rfl h18 (λ _ h20=>?_) (λ _ h21=>?_)
  ·
   refine wp_skip (za (wp_seq (wp_block ?_)))
   obtain⟨v22,p22,h23⟩:=bsW h20 Zc
   refine st19.rg1 [0,1,2] (λ _ _ st24=>?_)
   refine zi (za ?_)
   obtain⟨v25,p25,h26⟩:=bs h23
   refine st24.rg1 [0,1,2] (λ _ _ st27=>?_)
   refine za ?_
   exact⟨_,(Option.some.inj h26).symm,st27.sel0 [0,1,2] rfl⟩
  refine wp_exit (zn (zn (zG ?_)))
  refine za ?_
  have h28:=lo h21 hx17
  obtain rfl:=Option.some.inj h28
  exact st19.sel0 [0,2] rfl
 rintro a16 w16 st16
 have h29:=k16
 refine wp_seq ?_
 refine st16.sq1 [0,2,34] (λ _ _ st30=>?_)
 refine st30.cs rfl h29 (λ _ h31=>?_) (λ _ h32=>?_)
 ·
  refine st30.sq1 [6] (λ _ _ st33=>?_)
  refine wp_ret (zd ?_)
  exact st33.ret rfl rfl h31
 refine wp_skip (za ?_)
 obtain⟨o34,p34,k34⟩:=bs h32
 refine zo (λ a w=>Sx (Frm.of w0) 45 M M [] [(0,dt o34)] [] a w) ?_ ?_
 ·
  refine st30.sq2 (sc rfl (oM rfl (tp rfl))<|sc rfl (Yb rfl (tp rfl) (zI (by decide)))<|.nil) [0,2,36] (λ _ _ st35=>?_)
  refine st35.cs rfl p34 (λ _ h36=>?_) (λ _ h37=>?_)
  ·
   obtain⟨v38,p38,h40⟩:=bs h36
   obtain⟨v39,p39,h41⟩:=bs h40
   refine st35.rg2 (sc rfl (oM rfl (tp rfl))<|sc rfl (oM rfl (tp rfl))<|sc rfl (xCat rfl (zI (by decide)) (tp rfl) p38)<|sc rfl (xCat rfl (tp rfl) (tp rfl) p39)<|sc rfl (oA rfl (tp rfl))<|.nil) [0] (λ _ _ st42=>?_)
   refine za ?_
   obtain rfl:=Option.some.inj h41
   exact st42.sel0 [0] rfl
  refine wp_skip (za ?_)
  obtain rfl:=Option.some.inj h37
  exact st35.sel0 [0] rfl
 rintro a34 w34 st34
 have h43:=k34
 refine wp_seq ?_
 obtain⟨v44,p44,h45⟩:=bsW h43 yF
 refine st34.sq1 [0,43] (λ _ _ st46=>?_)
 refine st46.cs rfl h45 (λ _ h47=>?_) (λ _ h48=>?_)
 ·
  refine st46.sq2 (sc rfl (oA rfl (zI (by decide)))<|.nil) [6] (λ _ _ st49=>?_)
  refine wp_ret (zd ?_)
  exact st49.ret rfl rfl h47
 refine wp_skip (za ?_)
 refine st46.sq1 [6] (λ _ _ st50=>?_)
 refine wp_ret ?_
 exact st50.ret rfl rfl h48
def xo(x0:GMod):Option Str:=
if(cmpI .eql x0.kind (1:Int))=true then((yT x0.name).bind λ v5=>
some v5)
else(some x0.name)
theorem Xp{x0:GMod}{r:Str}(h:xo x0=some r):Fn Tryz.prog 163 [dptr x0] (dt r):=by
 unfold xo at h
 refine fnx (fn:=Tryz.f163) 0 Tryz.func163 rfl (of_decide_eq_true rfl) rfl (λ M _ _ st0=>?_)
 refine st0.sq1 [0] (λ _ _ st1=>?_)
 refine wp_seq ?_
 refine st1.sq2 (sc rfl (oM rfl (tp rfl))<|sc rfl (xNcP rfl (tp rfl))<|sc rfl (zh GMod.fld1 rfl JB (tp rfl))<|sc rfl (ze rfl kT3 (tp rfl))<|sc rfl (oCI rfl (tp rfl) cI)<|.nil) [0,7] (λ _ _ st2=>?_)
 refine st2.cs rfl h (λ _ h3=>?_) (λ _ h4=>?_)
 ·
  obtain⟨v5,p5,h6⟩:=bs h3
  refine st2.sq2 (sc rfl (oM rfl (tp rfl))<|sc rfl (xNcP rfl (tp rfl))<|sc rfl (zh GMod.fld0 rfl ZR (tp rfl))<|sc rfl (ze rfl kT9 (tp rfl))<|sc rfl (zq (l:=[.tmp 11]) rfl kN110 (.cons (tp rfl) .nil) (Zc p5))<|sc rfl (oA rfl (tp rfl))<|.nil) [2] (λ _ _ st7=>?_)
  refine wp_ret (zd ?_)
  exact st7.ret rfl rfl h6
 refine wp_skip (za ?_)
 refine st2.sq2 (sc rfl (oM rfl (tp rfl))<|sc rfl (xNcP rfl (tp rfl))<|sc rfl (zh GMod.fld0 rfl ZR (tp rfl))<|sc rfl (ze rfl kT9 (tp rfl))<|sc rfl (oA rfl (tp rfl))<|.nil) [2] (λ _ _ st8=>?_)
 refine wp_ret ?_
 exact st8.ret rfl rfl h4
def xb(x0:GMod)(x1:Str)(s6:GVal×Int):Option ((GVal×Int)⊕(GVal⊕(GVal×Bool))):=
if(cmpI .lss s6.2 (x0.attrs.length:Int))=true then((atI x0.attrs s6.2).bind λ v11=>
if(decide (v11.name=x1))=true then(some (.inr (.inr (v11.value,true))))
else((i64 (s6.2+(1:Int))).bind λ v27=>
some (.inl (s6.1,v27))))
else(some (.inr (.inl s6.1)))
def xm(x0:GMod)(x1:Str):Option (GVal×Bool):=
Option.bind (α:=GVal⊕(GVal×Bool)) (zX (λ s6=>xb x0 x1 s6) (zGVal,(0:Int))) (Sum.elim (λ _b4=>
some ((⟨0,0⟩:GVal),false)) some)
theorem wZ{x0:GMod}{x1:Str}{r:GVal×Bool}(h:xm x0 x1=some r):Fn Tryz.prog 254 [dptr x0,dt x1] (dtup [dt r.1,dt r.2]):=by
 unfold xm at h
 refine fnx (fn:=Tryz.f254) 2 Tryz.func254 rfl (of_decide_eq_true rfl) rfl (λ M w0 _ st0=>?_)
 refine wp_seq (wp_region_list ?_)
 refine st0.alloc 0 rfl rfl kZ131 XC (by simp) [0,1] rfl [] rfl rfl (λ b2 M2 _ _ st2=>?_)
 refine st2.segA 1 [0,1] [(4,0)] (λ _ _ st3=>?_)
 refine wpList_nil (za ?_)
 obtain⟨o4,p4,k4⟩:=bs h
 refine zo (λ a w=>∃ b4,o4=.inl b4/\(∃ M1 q4_0 q4_1,Sx (Frm.of w0) 25 M M1 [oneB q4_0,oneB q4_1] [] [(4,0,dbox q4_0 0 b4)] a w)) ?_ ?_
 ·
  refine st3.sqB (sc rfl (oM rfl (tp rfl))<|sc rfl (xNcP rfl (tp rfl))<|sc rfl (zh GMod.fld5 rfl jd (tp rfl))<|sc rfl (ze rfl kT57 (tp rfl))<|sc rfl (wz rfl kL57 (tp rfl))<|sc rfl (oM rfl cI)<|.nil) [1,11,12,13] [(4,0)] (λ _ _ st5=>?_)
  refine wp_block ?_
  refine zO p4 (λ s6 a w=>∃ M1 q6_0 q6_1,Sx (Frm.of w0) 25 M M1 [oneB q6_0,oneB q6_1] [(1,dt x1),(11,dt x0.attrs),(12,dt (x0.attrs.length:Int)),(13,dt s6.2)] [(4,0,dbox q6_0 0 s6.1)] a w) ⟨_,_,_,st5.sel [1,11,12,13] rfl [(4,0)] rfl iT⟩ ?_
  rintro s6 z6 a6 w6 ⟨M6,q6_0,q6_1,st6⟩ hs6 hx6
  have h7:xb x0 x1 s6=some z6:=hs6
  unfold xb at h7
  refine st6.sqA [1,11,12,13,14] [(4,0)] (λ _ _ st8=>?_)
  refine wp_seq ?_
  refine st8.cs rfl h7 (λ _ h9=>?_) (λ _ h10=>?_)
  ·
   refine wp_skip (za (wp_seq (wp_block (wp_seq (wp_region_list ?_)))))
   obtain⟨v11,p11,h12⟩:=bs h9
   refine st8.segA 2 [1,11,12,13,16] [(4,0)] (λ _ _ st13=>?_)
   refine st13.alloc 1 rfl rfl kZ133 zrGAttr (by simp) [1,11,12,13,16] rfl [4] rfl rfl (λ b15 M15 _ _ st15=>?_)
   refine st15.store (sb:=7) 1 FldS.id rfl rfl rfl kT133 rfl rfl (tp rfl) rfl [1,11,12,13] rfl [4] rfl rfl (λ M17 _ st17=>?_)
   refine wpList_nil (za ?_)
   refine st17.sqB (sc rfl (yu GAttr.fld0 rfl Wu (tp rfl))<|sc rfl (zN rfl kT9 (tp rfl))<|sc rfl (oM rfl (tp rfl))<|sc rfl (ws rfl (tp rfl) (tp rfl))<|.nil) [1,11,12,13,20] [(4,0),(7,1)] (λ _ _ st18=>?_)
   refine st18.cs rfl h12 (λ _ h19=>?_) (λ _ h20=>?_)
   ·
    refine wp_seq (wp_region_list ?_)
    refine st18.segB 2 (sc rfl (yu GAttr.fld1 rfl XI (tp rfl))<|sc rfl (zN rfl wX (tp rfl))<|.nil) [22] [(4,0)] (λ _ _ st21=>?_)
    refine st21.store (sb:=4) 0 FldS.id rfl rfl rfl wX rfl rfl (tp rfl) rfl [] rfl [] rfl rfl (λ M23 _ st23=>?_)
    refine st23.segA 1 [5] [(4,0)] (λ _ _ st24=>?_)
    refine wpList_nil (za ?_)
    refine wp_ret (zr (zd (zd (zr (zd ?_)))))
    have h25:=lo h19 hx6
    have h26:=jo h25 k4
    obtain rfl:=Option.some.inj h26
    exact st24.ret2c rfl wX rfl (st24.frozen (t:=5) rfl) rfl rfl
   refine wp_skip (zi (za ?_))
   obtain⟨v27,p27,h28⟩:=bs h20
   refine st18.rgA [1,11,12,13] [(4,0)] (λ _ _ st29=>?_)
   refine za ?_
   exact⟨_,(Option.some.inj h28).symm,⟨_,_,_,st29.sel [1,11,12,13] rfl [(4,0)] rfl iT⟩⟩
  refine wp_exit (zn (zn (zG ?_)))
  refine za ?_
  have h30:=lo h10 hx6
  exact⟨_,(Option.some.inj h30).symm,⟨_,_,_,st8.sel [] rfl [(4,0)] rfl iT⟩⟩
 rintro a4 w4 ⟨b4,rfl,⟨M4,q4_0,q4_1,st4⟩⟩
 have h31:=jn k4
 refine wp_seq (wp_region_list ?_)
 refine st4.segB 1 (sc rfl (zV (parts:=[]) (ns:=[1,1]) (zs:=Yc) rfl rfl Wd We (λ w a hl=>by simp) (λ w a hl=>GVal.parts (x:=(⟨0,0⟩:GVal)) ⟨rfl,trivial⟩ ⟨rfl,trivial⟩))<|.nil) [24] [(4,0)] (λ _ _ st32=>?_)
 refine st32.store (sb:=4) 0 FldS.id rfl rfl rfl wX rfl rfl (tp rfl) rfl [] rfl [] rfl rfl (λ M34 _ st34=>?_)
 refine st34.segA 1 [5] [(4,0)] (λ _ _ st35=>?_)
 refine wpList_nil (za (wp_ret ?_))
 obtain rfl:=Option.some.inj h31
 exact st35.ret2c rfl wX rfl (st35.frozen (t:=5) rfl) rfl rfl
def xB(x0:Str)(x1:Str):Option (Str×Str×Bool):=
(xh x0 x1).bind λ v2=>
if(cmpI .geq v2 (0:Int))=true then((cutHO x0 v2).bind λ v8=>
(i64 (v2+(x1.l.length:Int))).bind λ v9=>
(cutLO x0 v9).bind λ v10=>
some (v8,v10,true))
else(some (x0,(⟨[]⟩:Str),false))
theorem YE{x0:Str}{x1:Str}{r:Str×Str×Bool}(h:xB x0 x1=some r):Fn Tryz.prog 279 [dt x0,dt x1] (dtup [dt r.1,dt r.2.1,dt r.2.2]):=by
 unfold xB at h
 refine fnx (fn:=Tryz.f279) 0 Tryz.func279 rfl (of_decide_eq_true rfl) rfl (λ M _ _ st0=>?_)
 refine st0.sq1 [0,1] (λ _ _ st1=>?_)
 refine wp_seq ?_
 obtain⟨v2,p2,h3⟩:=bsW h Yd
 refine st1.sq1 [0,1,7] (λ _ _ st4=>?_)
 refine st4.sq1 [0,1,7,12] (λ _ _ st5=>?_)
 refine st5.cs rfl h3 (λ _ h6=>?_) (λ _ h7=>?_)
 ·
  refine wp_seq ?_
  obtain⟨v8,p8,h11⟩:=bs h6
  obtain⟨v9,p9,h12⟩:=bs h11
  obtain⟨v10,p10,h13⟩:=bs h12
  refine st5.dr (D:=[_,_,_,_,_,_,_,_,_,_,_,_]) zK [[],[],[0,1],[],[],[],[5],[4,5,6],[3,4,5,6,7],[0,1,2],[0,1,2,3,4,5,6,7,8,9],[0,1,2,3,4,5,6,7,8,9,10]] [[(0,none)],[(7,none)],[(13,some 0),(14,some 1)],[(0,none)],[(7,none)],[(1,none)],[(18,some 5)],[(17,some 4),(19,some 6)],[(16,some 3),(20,some 7)],[(15,some 2)],[(21,some 8)],[]] (by decide +kernel) (
   rc rfl rfl (oM rfl (tp rfl))<|rc rfl rfl (oM rfl (tp rfl))<|rc rfl rfl (xCutH rfl kX9 (tp rfl) (tp rfl) p8)<|rc rfl rfl (oM rfl (tp rfl))<|rc rfl rfl (oM rfl (tp rfl))<|rc rfl rfl (oM rfl (tp rfl))<|rc rfl rfl (Zq rfl kX9 (tp rfl))<|rc rfl rfl (xAr rfl (tp rfl) (tp rfl) p9)<|rc rfl rfl (xCutL rfl kX9 (tp rfl) (tp rfl) p10)<|rc rfl rfl (oA rfl (tp rfl))<|rc rfl rfl (oA rfl (tp rfl))<|rc rfl rfl (oA rfl cB)<|.nil) [4,5,6] rfl [] rfl trivial (λ _ _ st14=>?_)
  refine za ?_
  refine wp_ret (zd ?_)
  obtain rfl:=Option.some.inj h13
  exact st14.ret3 rfl (st14.frozen (t:=4) rfl) (st14.frozen (t:=5) rfl) (st14.frozen (t:=6) rfl) ⟨rfl,rfl,rfl⟩ rfl
 refine wp_skip (za ?_)
 refine st5.sq1 [4,5,6] (λ _ _ st15=>?_)
 refine wp_ret ?_
 obtain rfl:=Option.some.inj h7
 exact st15.ret3 rfl (st15.frozen (t:=4) rfl) (st15.frozen (t:=5) rfl) (st15.frozen (t:=6) rfl) ⟨rfl,rfl,rfl⟩ rfl
def qY(x0:Str)(x1:Str):Option (Str×Str×Bool):=
(xB x0 x1).bind λ v2=>
some (v2.1,v2.2.1,v2.2.2)
theorem strings_Cut_w{x0:Str}{x1:Str}{r:Str×Str×Bool}(h:qY x0 x1=some r):Fn Tryz.prog 253 [dt x0,dt x1] (dtup [dt r.1,dt r.2.1,dt r.2.2]):=by
 unfold qY at h
 refine fnx (fn:=Tryz.f253) 0 Tryz.func253 rfl (of_decide_eq_true rfl) rfl (λ M _ _ st0=>?_)
 refine st0.sq1 [0,1] (λ _ _ st1=>?_)
 obtain⟨v2,p2,h3⟩:=bsW h YE
 refine st1.sq1 [4,5,6] (λ _ _ st4=>?_)
 refine wp_ret ?_
 obtain rfl:=Option.some.inj h3
 exact st4.ret3 rfl (st4.frozen (t:=4) rfl) (st4.frozen (t:=5) rfl) (st4.frozen (t:=6) rfl) ⟨rfl,rfl,rfl⟩ rfl
def jv(x0:Tree)(x1:List Int)(x2:Int):Option Machine:=
some (⟨x0,x1,(⟨⟩:Nilf),(⟨yv⟩:FnV File (List Stmt)),[],[],[],[],x2⟩:Machine)
theorem JC{x0:Tree}{x1:List Int}{x2:Int}{r:Machine}(h:jv x0 x1 x2=some r):FnN Tryz.prog 126 [dt x0,dt x1,dt x2] (.ow (oMac []) ⟨r⟩):=by
 unfold jv at h
 refine fnN (fn:=Tryz.f126) 4 Tryz.func126 rfl (of_decide_eq_true rfl) rfl (λ M _ _ st0=>?_)
 refine st0.sq2 (sc rfl (jf rfl (tp rfl))<|sc rfl (oA rfl Xl)<|.nil) [1,2,3] (λ _ _ st1=>?_)
 refine wp_seq (wp_region_list ?_)
 refine st1.segA 3 [7,8,9] [] (λ _ _ st2=>?_)
 refine st2.bldW (ow:=(owMachine (Ow.rowP [] 109 (owGModR oAtt)) (Ow.row 3 (Ow.frz (α:=Int))) (Ow.row 85 (Ow.frz (α:=GEvent))) (Ow.row 9 (Ow.frz (α:=Str))))) (parts:=[(0,.tmp 7),(1,.tmp 8),(8,.tmp 9),(3,.func 180)]) (ns:=[1,1,1,1,1,1,1,1,1]) (zs:=zpMachine) (x:=(⟨x0,x1,(⟨⟩:Nilf),(⟨yv⟩:FnV File (List Stmt)),[],[],[],[],x2⟩:Machine)) 3 [] rfl rfl rfl kB108 kC108 (by
 intro p hp;simp only[List.mem_cons,List.not_mem_nil,or_false] at hp
 rcases hp with rfl | rfl | rfl | rfl
 ·
  exact⟨by decide,Rep.len (α:=Tree) (OpdR.cells (tp rfl) (λ s y hs=>st2.st.has s y hs))⟩
 ·
  exact⟨by decide,Rep.len (α:=List Int) (OpdR.cells (tp rfl) (λ s y hs=>st2.st.has s y hs))⟩
 ·
  exact⟨by decide,Rep.len (α:=Int) (OpdR.cells (tp rfl) (λ s y hs=>st2.st.has s y hs))⟩
 ·
  exact⟨by decide,rfl⟩) (((owMachine (Ow.rowP [] 109 (owGModR oAtt)) (Ow.row 3 (Ow.frz (α:=Int))) (Ow.row 85 (Ow.frz (α:=GEvent))) (Ow.row 9 (Ow.frz (α:=Str))))).more (owMachine.mk (x:=(⟨x0,x1,(⟨⟩:Nilf),(⟨yv⟩:FnV File (List Stmt)),[],[],[],[],x2⟩:Machine)) (OpdR.cells (tp rfl) (λ s y hs=>st2.st.has s y hs)) (OpdR.cells (tp rfl) (λ s y hs=>st2.st.has s y hs)) (zrNilf _ _) (OpdR.cells (opd_fnv (opd_fun1 kN180 (λ _ _ h=>WC h))) (λ s y hs=>st2.st.has s y hs)) (rowP_zz _ _) (Ow.row_z _ _) (Ow.row_z _ _) (Ow.row_z _ _) (OpdR.cells (tp rfl) (λ s y hs=>st2.st.has s y hs)) (λ b h1=>(λ h2=>h2.elim (λ h2=>h2.elim) (λ h2=>h2.elim (λ h2=>h2.elim) (λ h2=>h2.elim)))) (λ b h1=>(λ h2=>h2.elim (λ h2=>h2.elim) (λ h2=>h2.elim))) (λ b h1=>(λ h2=>h2.elim))) (λ b=>(λ hb=>hb.elim (λ hb=>hb.elim) (λ hb=>hb.elim (λ hb=>hb.elim) (λ hb=>hb.elim (λ hb=>hb.elim) (λ hb=>hb.elim)))))) (by simp) [] rfl [] rfl rfl rfl (λ G3 _ _ st3=>?_)
 have st4:=st3.gs (Gs':=[oneB none,oneB none,oneB none,G3]) rfl
 refine st4.boxW 0 3 rfl rfl rfl (by simp) (by simp) (by decide) iI [] rfl [] rfl rfl rfl (λ b5 G5 M5 _ _ st5=>?_)
 have st6:=st5.gs (Gs':=[G5,oneB none,oneB none,oneB none]) rfl
 refine st6.segA 1 [] [(6,0)] (λ _ _ st7=>?_)
 refine wpList_nil (za (wp_ret ?_))
 have st8:=st7.unm (s:=6) 0 rfl rfl iI [] rfl
 exact st8.rnO 0 rfl rfl iI (bx1 h)
def yA(x0:Machine)(x1:Int)(x2:Str):Option Machine:=
(appO 24 x0.log ([(⟨x1,x2⟩:GEvent)]:List GEvent)).bind λ v7=>
some ({ x0 with log:=v7 })
theorem jw{ps:List (Nat×Nat)}{x0:Machine}{x1:Int}{x2:Str}{r:Machine}(h:yA x0 x1 x2=some r):FnS Tryz.prog 220 (oMac ps) ⟨x0⟩ [dt x1,dt x2] ⟨r⟩ .gone:=by
 unfold yA at h
 refine fnSB (fn:=Tryz.f220) 0 2 Tryz.func220 rfl (of_decide_eq_true rfl) rfl (λ M G _ b0 _ st0=>?_)
 refine wp_region_list ?_
 refine st0.hdR (s:=0) 0 true (λ _=>((PV.root.box rfl).fld owMachine.f6)) rfl rfl iI [] rfl (λ g1 A1 _ hA1 st1=>?_)
 refine st1.segB 9 (sc rfl (oM rfl (zg rfl))<|sc rfl (oM rfl (zg rfl))<|sc rfl (xNc rfl (tp rfl))<|sc rfl (xFa rfl kF108_6 (tp rfl))<|sc rfl (xLc (sb:=0) (.head _) rfl rfl rfl kT66 (tp rfl) rfl)<|sc rfl (oM rfl (tp rfl))<|sc rfl (oM rfl (tp rfl))<|sc rfl (zV (parts:=[(0,.tmp 11),(1,.tmp 12)]) (ns:=[1,1]) (zs:=zpGEvent) rfl rfl kB85 kC85 (λ w a hl=>by
 intro p hp;simp only[List.mem_cons,List.not_mem_nil,or_false] at hp
 rcases hp with rfl | rfl
 ·
  exact⟨by decide,Rep.len (α:=Int) (OpdR.cells (tp rfl) hl)⟩
 ·
  exact⟨by decide,Rep.len (α:=Str) (OpdR.cells (tp rfl) hl)⟩) (λ w a hl=>GEvent.parts (x:=(⟨x1,x2⟩:GEvent)) (OpdR.cells (tp rfl) hl) (OpdR.cells (tp rfl) hl)))<|sc rfl (yc (opds:=[.tmp 13]) rfl kS66 kY66 rfl rfl (by decide) (.cons (tp rfl) .nil))<|.nil) [6,10,14] [(0,0)] (λ _ _ st2=>?_)
 refine st2.mvG (s:=10) (sb:=0) 0 1 ((PV.root.box rfl).fld owMachine.f6) (.head _) rfl (yo rfl rfl) rfl (by simp) (by simp) (by decide) rfl iI [6,14] rfl [] rfl rfl rfl rfl (λ G4 H4 st4=>?_)
 refine st4.tipR (s:=10) 1 rfl rfl (by simp) iI [0] rfl rfl (λ g5 st5=>?_)
 obtain⟨v7,p7,h8⟩:=bs h
 refine st5.app 1 rfl rfl kE66 rfl rfl rfl wA p7 [6] rfl [0] rfl rfl (λ g6 M6 _ _ st6=>?_)
 refine st6.segB 2 (sc rfl (xNc rfl (tp rfl))<|sc rfl (xFa rfl kF108_6 (tp rfl))<|.nil) [17] [(0,0),(15,1)] (λ _ _ st9=>?_)
 have st11:=st9.tipW (s:=15) 1 rfl rfl iI [0] rfl
 refine st11.stH (sb:=0) (tv:=15) 0 1 rfl rfl rfl kT66 (by simp) (by simp) (by decide) (tp rfl) rfl rfl iI iI [] rfl [] rfl rfl rfl (λ G10 _ st10=>?_)
 refine wpList_nil ?_
 exact(st10.rs0 (s:=0) 0 rfl rfl iI (bx1 h8)).2
open Go.RowKit
set_option maxRecDepth 10000
set_option maxHeartbeats 1600000
theorem kB133:bldB Tryz.prog 133 [1,2]=true:=by kernel_rfl
theorem kC133:jU Tryz.prog 133 [1,2]=some zpGAttr:=by kernel_rfl
theorem kY57:zlB Tryz.prog 57=true:=by kernel_rfl
theorem kE57:elB Tryz.prog 57 133 3 32=true:=by kernel_rfl
theorem kN220:fnB Tryz.prog 220=true:=by kernel_rfl
theorem kF111_4:fldB Tryz.prog 111 4 4=true:=by kernel_rfl
theorem kF108_7:fldB Tryz.prog 108 7 7=true:=by kernel_rfl
theorem kT39:tyB Tryz.prog 39 false 1=true:=by kernel_rfl
theorem kN92:fnB Tryz.prog 92=true:=by kernel_rfl
theorem kF108_0:fldB Tryz.prog 108 0 0=true:=by kernel_rfl
theorem kF108_1:fldB Tryz.prog 108 1 1=true:=by kernel_rfl
theorem kF108_2:fldB Tryz.prog 108 2 2=true:=by kernel_rfl
theorem kT104:tyB Tryz.prog 104 false 1=true:=by kernel_rfl
theorem kN113:fnB Tryz.prog 113=true:=by kernel_rfl
theorem kF111_2:fldB Tryz.prog 111 2 2=true:=by kernel_rfl
theorem kN202:fnB Tryz.prog 202=true:=by kernel_rfl
def xc(x0:GMod)(x1:Str)(x2:GVal)(s6:GMod×Int):Option ((GMod×Int)⊕(GMod⊕GMod)):=
if(cmpI .lss s6.2 (x0.attrs.length:Int))=true then((atI s6.1.attrs s6.2).bind λ v13=>
if(decide (v13.name=x1))=true then((atI s6.1.attrs s6.2).bind λ v20=>
some (.inr (.inr ({ s6.1 with attrs:=(s6.1.attrs.set s6.2.toNat ({ v20 with value:=x2 })) }))))
else((i64 (s6.2+(1:Int))).bind λ v26=>
some (.inl (s6.1,v26))))
else(some (.inr (.inl s6.1)))
def ye(x0:GMod)(x1:Str)(x2:GVal):Option GMod:=
Option.bind (α:=GMod⊕GMod) (zX (λ s6=>xc x0 x1 x2 s6) (x0,(0:Int))) (Sum.elim (λ b2=>
(appO 32 b2.attrs ([(⟨x1,x2⟩:GAttr)]:List GAttr)).bind λ v39=>
some ({ b2 with attrs:=v39 })) some)
theorem ja{x0:GMod}{x1:Str}{x2:GVal}{r:GMod}(h:ye x0 x1 x2=some r):FnS Tryz.prog 201 (Ow.box (owGModR oAtt)) ⟨x0⟩ [dt x1,dt x2] ⟨r⟩ .gone:=by
 unfold ye at h
 refine fnSB (fn:=Tryz.f201) 0 2 Tryz.func201 rfl (of_decide_eq_true rfl) rfl (λ M G w0 b0 _ st0=>?_)
 refine st0.sqA [1,5] [(0,0)] (λ _ _ st1=>?_)
 obtain⟨o2,p2,k2⟩:=bs h
 refine zo (λ a w=>∃ b2,o2=.inl b2/\(∃ M1 q2_0 q2_1,Sx (Frm.chg w0 G) 46 M M1 [q2_0,q2_1] [(1,dt x1),(5,dptr x2)] [(0,0,dnm (Ow.box (owGModR oAtt)) q2_0 ⟨b2⟩ (.pointer (some ⟨b0,0,none⟩)) [])] a w)) ?_ ?_
 ·
  refine st1.hdR (s:=0) 0 true (λ _=>((PV.root.box rfl).fld owGModR.f5)) rfl rfl iI [] rfl (λ g3 A3 _ hA3 st3=>?_)
  refine st3.sqB (sc rfl (oM rfl (zg rfl))<|sc rfl (xNc rfl (tp rfl))<|sc rfl (xFa rfl jd (tp rfl))<|sc rfl (xLc (sb:=0) (.head _) rfl rfl rfl kT57 (tp rfl) rfl)<|sc rfl (xLe rfl kL57 (tp rfl))<|sc rfl (oM rfl cI)<|.nil) [1,5,11,12] [(0,0)] (λ _ _ st4=>?_)
  have st5:=st4.ncf (s:=0) 0 rfl rfl iI [] rfl
  refine wp_block ?_
  refine zO p2 (λ s6 a w=>∃ M1 q6_0 q6_1,Sx (Frm.chg w0 G) 46 M M1 [q6_0,q6_1] [(1,dt x1),(5,dptr x2),(11,dt (x0.attrs.length:Int)),(12,dt s6.2)] [(0,0,dnm (Ow.box (owGModR oAtt)) q6_0 ⟨s6.1⟩ (.pointer (some ⟨b0,0,none⟩)) [])] a w) ⟨_,_,_,st5.sel [1,5,11,12] rfl [(0,0)] rfl iT⟩ ?_
  rintro s6 z6 a6 w6 ⟨M6,q6_0,q6_1,st6⟩ hs6 hx6
  have h7:xc x0 x1 x2 s6=some z6:=hs6
  unfold xc at h7
  refine st6.sqA [1,5,11,12,13] [(0,0)] (λ _ _ st8=>?_)
  refine wp_seq ?_
  refine st8.cs rfl h7 (λ _ h9=>?_) (λ _ h10=>?_)
  ·
   refine wp_skip (za (wp_seq (wp_block ?_)))
   refine st8.sqA [1,5,6,11,12] [(0,0)] (λ _ _ st11=>?_)
   obtain⟨v13,p13,h14⟩:=bs h9
   refine st11.hdR (s:=0) 0 true (λ _=>((PV.root.box rfl).fld owGModR.f5)) rfl rfl iI [] rfl (λ g12 A12 _ hA12 st12=>?_)
   refine st12.sqB (sc rfl (oM rfl (zg rfl))<|sc rfl (xNc rfl (tp rfl))<|sc rfl (xFa rfl jd (tp rfl))<|sc rfl (xLc (sb:=0) (.head _) rfl rfl rfl kT57 (tp rfl) rfl)<|sc rfl (oM rfl (tp rfl))<|sc rfl (xIa (g:=g12) rfl kS57 (tp rfl) (tp rfl) rfl (λ h=>hA12 h rfl) p13)<|sc rfl (xFa rfl Wu (tp rfl))<|sc rfl (xLf (sb:=0) ((((PV.root.box rfl).fld owGModR.f5).row (.head _) rfl (λ h=>hA12 h rfl) p13).fld GAttr.z0) rfl kT9 (tp rfl) rfl)<|sc rfl (oM rfl (tp rfl))<|sc rfl (ws rfl (tp rfl) (tp rfl))<|.nil) [1,5,6,11,12,24] [(0,0)] (λ _ _ st15=>?_)
   have st16:=st15.ncf (s:=0) 0 rfl rfl iI [] rfl
   refine st16.cs rfl h14 (λ _ h17=>?_) (λ _ h18=>?_)
   ·
    refine wp_seq ?_
    obtain⟨v20,p20,h21⟩:=bs h17
    refine st16.hdR (s:=0) 0 true (λ _=>((PV.root.box rfl).fld owGModR.f5)) rfl rfl iI [] rfl (λ g19 A19 _ hA19 st19=>?_)
    refine st19.drn (D:=[_,_,_,_,_,_,_,_]) zK 8 [[],[0],[0,1],[0,1,2],[],[],[0,1,2,3,4,5],[0,1,2,3,4,5,6],[0,1,2,3,4,5,6,7]] [[(0,none)],[(25,some 0)],[(26,some 1)],[(27,some 2),(0,none)],[(6,none)],[(5,none)],[(28,some 3),(29,some 4)],[(31,some 6)],[(32,some 7),(30,some 5)]] (by decide +kernel) (by decide) (
     rc rfl rfl (oM rfl (zg rfl))<|rc rfl rfl (xNc rfl (tp rfl))<|rc rfl rfl (xFa rfl jd (tp rfl))<|rc rfl rfl (xLc (sb:=0) (.head _) rfl rfl rfl kT57 (tp rfl) rfl)<|rc rfl rfl (oM rfl (tp rfl))<|rc rfl rfl (ze rfl wX (tp rfl))<|rc rfl rfl (xIa (g:=g19) rfl kS57 (tp rfl) (tp rfl) rfl (λ h=>hA19 h rfl) p20)<|rc rfl rfl (xFa rfl XI (tp rfl))<|.nil) [30,32] rfl [(0,0)] rfl iT (λ _ _ st22=>?_)
    refine st22.stF (sb:=0) 0 ((((PV.root.box rfl).fld owGModR.f5).row (.head _) rfl (λ h=>hA19 h rfl) p20).fld GAttr.z1) rfl rfl rfl wX (by simp) (tp rfl) (tp rfl) rfl rfl iI [] rfl [] rfl rfl (λ _ st23=>?_)
    refine wpList_nil (za ?_)
    refine wp_ret (zr (zd (zd (zr (zd ?_)))))
    have h24:=lo h21 hx6
    have h25:=jo h24 k2
    exact(st23.rs0 (s:=0) 0 rfl rfl iI (bx1 h25)).1
   refine wp_skip (zi (za ?_))
   obtain⟨v26,p26,h27⟩:=bs h18
   refine st16.rgA [1,5,11,12] [(0,0)] (λ _ _ st28=>?_)
   refine za ?_
   exact⟨_,(Option.some.inj h27).symm,⟨_,_,_,st28.sel [1,5,11,12] rfl [(0,0)] rfl iT⟩⟩
  refine wp_exit (zn (zn (zG ?_)))
  refine za ?_
  have h29:=lo h10 hx6
  exact⟨_,(Option.some.inj h29).symm,⟨_,_,_,st8.sel [1,5] rfl [(0,0)] rfl iT⟩⟩
 rintro a2 w2 ⟨b2,rfl,⟨M2,q2_0,q2_1,st2⟩⟩
 have h30:=jn k2
 refine st2.held (λ _=>True) zK (λ _ st31=>?_)
 refine st31.tkN (i:=0) (sb:=0) rfl rfl (by decide +kernel) (by decide +kernel) (by decide +kernel) (λ _ _ _ _ h=>h) trivial rfl rfl rfl (λ _ st32=>?_)
 refine st32.hdR (s:=0) 0 true (λ _=>((PV.root.box rfl).fld owGModR.f5)) rfl rfl iI [] rfl (λ g33 A33 _ hA33 st33=>?_)
 refine st33.drnE (D:=[_,_,_,_,_,_,_,_,_]) 9 [0] [[],[0],[0,1],[0,1,2],[0,1,2,3],[0],[0],[0,5,6],[0,5,6,7],[0,1,2,3,4,5,6,7,8],[0,1,2,3,4,5,6,7,8,9],[0,1,2,3,4,5,6,7,8,9,10],[0,1,2,3,4,5,6,7,8,9,10,11]] [[(0,none)],[(0,none)],[(35,some 1)],[(36,some 2)],[(37,some 3),(0,none)],[(1,none)],[(5,none)],[(39,some 5),(40,some 6)],[(41,some 7)],[(38,some 4),(42,some 8)],[(34,some 0)],[(44,some 10)],[(45,some 11),(43,some 9)]] (by decide +kernel) (by decide) (by decide +kernel) (by decide +kernel) (
  rc rfl rfl (oM rfl (zg rfl))<|rc rfl rfl (oM rfl (zg rfl))<|rc rfl rfl (xNc rfl (tp rfl))<|rc rfl rfl (xFa rfl jd (tp rfl))<|rc rfl rfl (xLc (sb:=0) (.head _) rfl rfl rfl kT57 (tp rfl) rfl)<|rc rfl rfl (oM rfl (tp rfl))<|rc rfl rfl (ze rfl wX (tp rfl))<|rc rfl rfl (zV (parts:=[(0,.tmp 39),(1,.tmp 40)]) (ns:=[1,2]) (zs:=zpGAttr) rfl rfl kB133 kC133 (λ w a hl=>by
 intro p hp;simp only[List.mem_cons,List.not_mem_nil,or_false] at hp
 rcases hp with rfl | rfl
 ·
  exact⟨by decide,Rep.len (α:=Str) (OpdR.cells (tp rfl) hl)⟩
 ·
  exact⟨by decide,Rep.len (α:=GVal) (OpdR.cells (tp rfl) hl)⟩) (λ w a hl=>GAttr.parts (x:=(⟨x1,x2⟩:GAttr)) (OpdR.cells (tp rfl) hl) (OpdR.cells (tp rfl) hl)))<|rc rfl rfl (yc (opds:=[.tmp 41]) rfl kS57 kY57 rfl rfl (by decide) (.cons (tp rfl) .nil))<|.nil) (by
 intro i hi x d hx
 simp only[List.mem_cons,List.not_mem_nil,or_false] at hi
 rcases hi with rfl
 all_goals (injection hx with hx;injection hx with h1 h2;subst h1;subst h2;rfl)) [34,38,42] rfl [(0,0)] rfl iT (λ _ _ st34=>?_)
 refine st34.mvG (s:=38) (sb:=0) 0 1 ((PV.root.box rfl).fld owGModR.f5) (.head _) rfl (yo rfl rfl) rfl (by simp) (by simp) (by decide) rfl iI [34,42] rfl [] rfl rfl rfl rfl (λ G36 H36 st36=>?_)
 refine st36.tipR (s:=38) 1 rfl rfl (by simp) iI [0] rfl rfl (λ g37 st37=>?_)
 obtain⟨v39,p39,h40⟩:=bs h30
 refine st37.app 1 rfl rfl kE57 rfl rfl rfl wA p39 [34] rfl [0] rfl rfl (λ g38 M38 _ _ st38=>?_)
 refine st38.segB 2 (sc rfl (xNc rfl (tp rfl))<|sc rfl (xFa rfl jd (tp rfl))<|.nil) [45] [(0,0),(43,1)] (λ _ _ st41=>?_)
 have st43:=st41.tipW (s:=43) 1 rfl rfl iI [0] rfl
 refine st43.stH (sb:=0) (tv:=43) 0 1 rfl rfl rfl kT57 (by simp) (by simp) (by decide) (tp rfl) rfl rfl iI iI [] rfl [] rfl rfl rfl (λ G42 _ st42=>?_)
 refine wpList_nil ?_
 exact(st42.rs0 (s:=0) 0 rfl rfl iI (bx1 h40)).2
def xS(x0:Machine)(x1:Int):Option (Machine×Int):=
(atI x0.modules x1).bind λ _v3=>
(x0.modules[x1.toNat]?).bind λ v8=>
(yA x0 (3:Int) v8.x.name).bind λ v12=>
Option.bind (α:=Machine) ((v12.modules[x1.toNat]?).bind λ v15=>
(gO ((!v15.x.done) == true) (v12.modules[x1.toNat]?)).bind λ v17=>
(gO ((!v15.x.done) == true) (yg v12.part v17.x.name)).bind λ v18=>
if((!v15.x.done)&&(!v18))=true then((v12.modules[x1.toNat]?).bind λ v29=>
(appO 16 v12.part ([v29.x.name]:List Str)).bind λ v36=>
some ({ v12 with part:=v36 }))
else(some v12)) λ o14=>
some (o14,x1)
theorem YF{ps:List (Nat×Nat)}{x0:Machine}{x1:Int}{r:Machine×Int}(h:xS x0 x1=some r):FnS Tryz.prog 200 (oMac ps) ⟨x0⟩ [dt x1] ⟨r.1⟩ (.frz (dt r.2)):=by
 unfold xS at h
 refine fnSB (fn:=Tryz.f200) 0 2 Tryz.func200 rfl (of_decide_eq_true rfl) rfl (λ M G w0 b0 _ st0=>?_)
 refine st0.sqA [1] [(0,0)] (λ _ _ st1=>?_)
 obtain⟨v3,p3,h5⟩:=bs h
 refine st1.hdF (s:=0) 0 true (λ _=>((PV.root.box rfl).fld owMachine.f4)) rfl rfl iI [] rfl (λ g2 A2 _ hA2 st2=>?_)
 refine st2.mintP (s:=0) 0 rfl rfl iI (qr (owMachine.impE4 (qX (zz (yt p3).2)))) [] rfl (λ b4 st4=>?_)
 refine st4.sqB (sc rfl (oM rfl (zg rfl))<|sc rfl (xNc rfl (tp rfl))<|sc rfl (xFa rfl qk (tp rfl))<|sc rfl (xLc (sb:=0) (.head _) rfl rfl rfl YD (tp rfl) rfl)<|sc rfl (oM rfl (tp rfl))<|sc rfl (xIa (g:=g2) rfl XQ (tp rfl) (tp rfl) rfl (λ h=>hA2 h rfl) p3)<|sc rfl (xLdP (sb:=0) ((PV.root.box rfl).fld owMachine.f4) (.head _) rfl (λ h=>hA2 h rfl) (.head _) (yt p3).2 (Nat.mul_one _) rfl Xn (tp rfl) rfl)<|sc rfl (oA rfl (tp rfl))<|.nil) [1,5] [(0,0)] (λ _ _ st6=>?_)
 have st7:=st6.ncf (s:=0) 0 rfl rfl iI [] rfl
 refine wp_seq (wp_region_list ?_)
 obtain⟨v8,p8,h9⟩:=bs h5
 refine st7.segB 5 (sc rfl (oM rfl (zg rfl))<|sc rfl (oM rfl (tp rfl))<|sc rfl (xNc rfl (tp rfl))<|sc rfl (xFa rfl ZR (tp rfl))<|sc rfl (xLf (sb:=0) ((((PV.root.box rfl).fld owMachine.f4).rowP (.head _) p8).fld owGModR.f0) rfl kT9 (tp rfl) rfl)<|.nil) [1,5,13,17] [(0,0)] (λ _ _ st10=>?_)
 obtain⟨v12,p12,h13⟩:=bs h9
 refine st10.cSF (l:=[.const (.int .i64 3),.tmp 17]) 0 (st10.bkN (s:=0) rfl iI) rfl rfl kN220 (Eq.trans (st10.st.has 13 _ rfl) (st10.st.has 0 _ rfl).1.symm) (by simp) (.cons cI (.cons (tp rfl) .nil)) (FnS.any (jw p12)) [1,5] rfl [] rfl rfl (by decide) (λ G11 M11 _ _ st11=>?_)
 refine wpList_nil (za ?_)
 obtain⟨o14,p14,k14⟩:=bs h13
 refine zo (λ a w=>∃ M1 q14_0 q14_1,Sx (Frm.chg w0 G) 50 M M1 [q14_0,q14_1] [(1,dt x1)] [(0,0,dnm (oMac ((x1.toNat,b4)::ps)) q14_0 ⟨o14⟩ (.pointer (some ⟨b0,0,none⟩)) [])] a w) ?_ ?_
 ·
  refine wp_seq ?_
  obtain⟨v15,p15,h19⟩:=bs p14
  obtain⟨v17,p17,h20⟩:=bs h19
  obtain⟨v18,p18,h21⟩:=bs h20
  refine st11.hdR (s:=0) 0 ((!v15.x.done) == true) (λ hg=>((PV.root.box rfl).fld owMachine.f7)) rfl rfl iI [] rfl (λ g16 A16 _ hA16 st16=>?_)
  refine st16.dr (D:=[_,_,_,_,_,_,_,_,_,_,_,_,_,_,_,_,_]) zK [[],[0],[0,1],[0,1,2],[0,1,2,3],[0,1,2,3,4],[0,1,2,3,4,5],[0,1,2,3,4,5,6],[0,1,2,3,4,5,6,7],[0,1,2,3,4,5,6,7,8],[0,1,2,3,4,5],[0,1,2,3,4,5,10],[0,1,2,3,4,5,10,11],[0,1,2,3,4,5,10,11,12],[0,1,2,3,4,5,6,7,8,9,10,11,12,13],[0,1,2,3,4,5,6,7,8,9,10,11,12,13,14],[0,1,2,3,4,5,6,7,8,9,10,11,12,13,14,15]] [[(5,none)],[(19,some 0)],[(20,some 1),(0,none)],[(21,some 2),(0,none)],[(22,some 3)],[(23,some 4)],[(0,none),(24,some 5)],[(25,some 6),(24,some 5)],[(26,some 7),(24,some 5)],[(27,some 8),(24,some 5),(0,none)],[(5,none),(24,some 5)],[(29,some 10),(24,some 5)],[(30,some 11),(24,some 5),(0,none)],[(31,some 12),(24,some 5),(0,none)],[(28,some 9),(32,some 13),(24,some 5),(0,none)],[(33,some 14),(24,some 5)],[(24,some 5),(34,some 15)]] (by decide +kernel) (
   rc rfl rfl (oM rfl (tp rfl))<|rc rfl rfl (xNc rfl (tp rfl))<|rc rfl rfl (xFa rfl kF111_4 (tp rfl))<|rc rfl rfl (xLf (sb:=0) ((((PV.root.box rfl).fld owMachine.f4).rowP (.head _) p15).fld owGModR.f4) rfl kT4 (tp rfl) rfl)<|rc rfl rfl (yz rfl (tp rfl))<|rc rfl rfl (oM rfl (tp rfl))<|rg rfl rfl rfl (λ hg=>oM rfl (zg rfl))<|rg rfl rfl rfl (λ hg=>xNc rfl (zf hg rfl))<|rg rfl rfl rfl (λ hg=>xFa rfl kF108_7 (zf hg rfl))<|rg rfl rfl rfl (λ hg=>xLc (sb:=0) (.head _) hg rfl rfl kT39 (zf hg rfl) rfl)<|rg rfl rfl rfl (λ hg=>oM rfl (tp rfl))<|rg rfl rfl rfl (λ hg=>xNc rfl (zf hg rfl))<|rg rfl rfl rfl (λ hg=>xFa rfl ZR (zf hg rfl))<|rg rfl rfl rfl (λ hg=>xLf (sb:=0) ((((PV.root.box rfl).fld owMachine.f4).rowP (.head _) (gh hg p17)).fld owGModR.f0) rfl kT9 (zf hg rfl) rfl)<|rg rfl rfl rfl (λ hg=>xQ (l:=[.tmp 28,.tmp 32]) st16.ob.sub rfl kN92 (.cons (lendP (sb:=0) st16.ob 0 ((PV.root.box rfl).fld owMachine.f7) (.head _) hg (yo rfl rfl) (zf hg rfl) rfl iI) (.cons (jV st16.ob.sub (zf hg rfl)) .nil)) (ZF (gh hg p18)) Yo)<|rg rfl rfl rfl (λ hg=>yz rfl (zf hg rfl))<|rc rfl rfl (zW rfl (tp rfl) (zb rfl))<|.nil) [1,5,35] rfl [(0,0)] rfl iT (λ _ _ st22=>?_)
  have st23:=st22.ncf (s:=0) 0 rfl rfl iI [] rfl
  refine za ?_
  refine st23.cs rfl h21 (λ _ h24=>?_) (λ _ h25=>?_)
  ·
   refine st23.held (λ _=>True) zK (λ _ st26=>?_)
   refine st26.tkN (i:=0) (sb:=0) rfl rfl (by decide +kernel) (by decide +kernel) (by decide +kernel) (λ _ _ _ _ h=>h) trivial rfl rfl rfl (λ _ st27=>?_)
   obtain⟨v29,p29,h30⟩:=bs h24
   refine st27.hdR (s:=0) 0 true (λ _=>((PV.root.box rfl).fld owMachine.f7)) rfl rfl iI [] rfl (λ g28 A28 _ hA28 st28=>?_)
   refine st28.drnE (D:=[_,_,_,_,_,_,_,_,_,_]) 10 [0] [[],[0],[0,1],[0,1,2],[0,1,2,3],[0],[0,5],[0,5,6],[0,5,6,7],[0,5,6,7,8],[0,1,2,3,4,5,6,7,8,9],[0,1,2,3,4,5,6,7,8,9,10],[0,1,2,3,4,5,6,7,8,9,10,11],[0,1,2,3,4,5,6,7,8,9,10,11,12]] [[(0,none)],[(0,none)],[(37,some 1)],[(38,some 2)],[(39,some 3),(0,none)],[(5,none)],[(41,some 5)],[(42,some 6),(0,none)],[(43,some 7),(0,none)],[(44,some 8)],[(40,some 4),(45,some 9)],[(36,some 0)],[(47,some 11)],[(48,some 12),(46,some 10)]] (by decide +kernel) (by decide) (by decide +kernel) (by decide +kernel) (
    rc rfl rfl (oM rfl (zg rfl))<|rc rfl rfl (oM rfl (zg rfl))<|rc rfl rfl (xNc rfl (tp rfl))<|rc rfl rfl (xFa rfl kF108_7 (tp rfl))<|rc rfl rfl (xLc (sb:=0) (.head _) rfl rfl rfl kT39 (tp rfl) rfl)<|rc rfl rfl (oM rfl (tp rfl))<|rc rfl rfl (xNc rfl (tp rfl))<|rc rfl rfl (xFa rfl ZR (tp rfl))<|rc rfl rfl (xLf (sb:=0) ((((PV.root.box rfl).fld owMachine.f4).rowP (.head _) p29).fld owGModR.f0) rfl kT9 (tp rfl) rfl)<|rc rfl rfl (yc (opds:=[.tmp 44]) rfl kS39 kY39 rfl rfl (by decide) (.cons (tp rfl) .nil))<|.nil) (by
 intro i hi x d hx
 simp only[List.mem_cons,List.not_mem_nil,or_false] at hi
 rcases hi with rfl
 all_goals (injection hx with hx;injection hx with h1 h2;subst h1;subst h2;rfl)) [1,36,40,45] rfl [(0,0)] rfl iT (λ _ _ st31=>?_)
   refine st31.mvG (s:=40) (sb:=0) 0 1 ((PV.root.box rfl).fld owMachine.f7) (.head _) rfl (yo rfl rfl) rfl (by simp) (by simp) (by decide) rfl iI [1,36,45] rfl [] rfl rfl rfl rfl (λ G33 H33 st33=>?_)
   refine st33.tipR (s:=40) 1 rfl rfl (by simp) iI [0] rfl rfl (λ g34 st34=>?_)
   obtain⟨v36,p36,h37⟩:=bs h30
   refine st34.app 1 rfl rfl kE39 rfl rfl rfl wA p36 [1,36] rfl [0] rfl rfl (λ g35 M35 _ _ st35=>?_)
   refine st35.segB 2 (sc rfl (xNc rfl (tp rfl))<|sc rfl (xFa rfl kF108_7 (tp rfl))<|.nil) [1,48] [(0,0),(46,1)] (λ _ _ st38=>?_)
   have st40:=st38.tipW (s:=46) 1 rfl rfl iI [0] rfl
   refine st40.stH (sb:=0) (tv:=46) 0 1 rfl rfl rfl kT39 (by simp) (by simp) (by decide) (tp rfl) rfl rfl iI iI [1] rfl [] rfl rfl rfl (λ G39 _ st39=>?_)
   refine wpList_nil (za ?_)
   obtain rfl:=Option.some.inj h37
   exact⟨_,_,_,st39.sel [1] rfl [(0,0)] rfl iT⟩
  refine wp_skip (za ?_)
  obtain rfl:=Option.some.inj h25
  exact⟨_,_,_,st23.sel [1] rfl [(0,0)] rfl iT⟩
 rintro a14 w14 ⟨M14,q14_0,q14_1,st14⟩
 have h41:=k14
 refine st14.sqA [4] [(0,0)] (λ _ _ st42=>?_)
 refine wp_ret ?_
 have st43:=st42.asO (s:=0) 0 rfl rfl iI (xj (owMachine.imp4 (yR (λ _ h=>(.tail _ h))))) [] rfl
 exact st43.rsF (s:=0) 0 rfl rfl rfl iI (bxr h41) yb
def yG(x0:Machine)(x1:Str):Option (Machine×Spec):=
(yT x1).bind λ v3=>
if(decide (v3=(⟨[]⟩:Str)))=true then((Zn x0.t x0.path (⟨[]⟩:Str) x1).bind λ v9=>
some (x0,v9))
else((zU x0 v3).bind λ v14=>
(gO (cmpI .lss v14 (0:Int) == false) (atI x0.modules v14)).bind λ _v18=>
(gO (cmpI .lss v14 (0:Int) == false) (x0.modules[v14.toNat]?)).bind λ v20=>
if(cmpI .lss v14 (0:Int)||cmpI .eql v20.x.kind (1:Int))=true then((jK).bind λ v27=>
some (x0,v27))
else((atI x0.modules v14).bind λ _v34=>
(x0.modules[v14.toNat]?).bind λ v36=>
(wI x1).bind λ v37=>
(Zn x0.t v36.x.roots v3 v37).bind λ v38=>
some (x0,v38)))
theorem Yf{ps:List (Nat×Nat)}{x0:Machine}{x1:Str}{r:Machine×Spec}(h:yG x0 x1=some r):FnS Tryz.prog 181 (oMac ps) ⟨x0⟩ [dt x1] ⟨r.1⟩ (.frz (dt r.2)):=by
 unfold yG at h
 refine fnSB (fn:=Tryz.f181) 0 2 Tryz.func181 rfl (of_decide_eq_true rfl) rfl (λ M G _ b0 _ st0=>?_)
 refine wp_seq (wp_region_list ?_)
 refine st0.alloc 1 rfl rfl kZ119 W5 (by simp) [1] rfl [0] rfl rfl (λ b2 M2 _ _ st2=>?_)
 refine wpList_nil (za ?_)
 obtain⟨v3,p3,h4⟩:=bsW h Zc
 refine st2.sqA [1,5] [(0,0),(4,1)] (λ _ _ st5=>?_)
 refine wp_seq ?_
 refine st5.sqA [1,5,10] [(0,0),(4,1)] (λ _ _ st6=>?_)
 refine st6.cs rfl h4 (λ _ h7=>?_) (λ _ h8=>?_)
 ·
  refine wp_seq ?_
  obtain⟨v9,p9,h10⟩:=bs h7
  refine st6.drn (D:=[_,_,_,_,_,_,_,_,_,_,_,_,_,_]) zK 14 [[],[0],[0,1],[0,1,2],[],[4],[4,5],[4,5,6],[],[],[9],[9,10],[9,10,11],[0,1,2,3,4,5,6,7,8,9,10,11,12],[0,1,2,3,4,5,6,7,8,9,10,11,12,13]] [[(0,none)],[(11,some 0)],[(12,some 1)],[(13,some 2),(0,none)],[(0,none)],[(15,some 4)],[(16,some 5)],[(17,some 6),(0,none)],[(1,none)],[(0,none)],[(20,some 9)],[(21,some 10)],[(22,some 11),(0,none)],[(14,some 3),(18,some 7),(19,some 8),(23,some 12)],[(4,none),(24,some 13)]] (by decide +kernel) (by decide) (
   rc rfl rfl (oM rfl (zg rfl))<|rc rfl rfl (xNc rfl (tp rfl))<|rc rfl rfl (xFa rfl kF108_0 (tp rfl))<|rc rfl rfl (xLf (sb:=0) ((PV.root.box rfl).fld owMachine.f0) rfl kT30 (tp rfl) rfl)<|rc rfl rfl (oM rfl (zg rfl))<|rc rfl rfl (xNc rfl (tp rfl))<|rc rfl rfl (xFa rfl kF108_1 (tp rfl))<|rc rfl rfl (xLf (sb:=0) ((PV.root.box rfl).fld owMachine.f1) rfl kT25 (tp rfl) rfl)<|rc rfl rfl (oM rfl (tp rfl))<|rc rfl rfl (oM rfl (zg rfl))<|rc rfl rfl (xNc rfl (tp rfl))<|rc rfl rfl (xFa rfl kF108_2 (tp rfl))<|rc rfl rfl (OpRel.nilf (xLf (sb:=0) ((PV.root.box rfl).fld owMachine.f2) rfl kT104 (tp rfl) rfl))<|rc rfl rfl (zq (l:=[.tmp 14,.tmp 18,_,.tmp 19,.tmp 23]) rfl kN207 (.cons (tp rfl) (.cons (tp rfl) (.cons (zI (by decide)) (.cons (tp rfl) (.cons (tp rfl) .nil))))) (Qy p9))<|.nil) [24] rfl [(0,0),(4,1)] rfl ⟨iI,iT⟩ (λ _ _ st11=>?_)
  refine st11.store (sb:=4) 1 FldS.id rfl rfl rfl ju rfl rfl (tp rfl) rfl [] rfl [0] rfl rfl (λ M13 _ st13=>?_)
  refine wpList_nil (za ?_)
  refine wp_ret (zd ?_)
  exact st13.rsC (s:=0) 0 rfl ju rfl rfl iI (bxr h10)
 refine wp_skip (za ?_)
 obtain⟨v14,p14,h15⟩:=bs h8
 refine st6.sqB (sc rfl (oM rfl (zg rfl))<|sc rfl (oM rfl (tp rfl))<|sc rfl (xQ (l:=[.tmp 25,.tmp 26]) st6.ob.sub rfl kN113 (.cons (lendA (sb:=0) st6.ob 0 (tp rfl) rfl iI) (.cons (jV st6.ob.sub (tp rfl)) .nil)) (xa p14) yb)<|sc rfl (oA rfl (tp rfl))<|.nil) [1,5,6] [(0,0),(4,1)] (λ _ _ st16=>?_)
 refine wp_seq ?_
 obtain⟨v18,p18,h21⟩:=bs h15
 obtain⟨v20,p20,h22⟩:=bs h21
 refine st16.hdF (s:=0) 0 (cmpI .lss v14 (0:Int) == false) (λ hg=>((PV.root.box rfl).fld owMachine.f4)) rfl rfl iI [4] rfl (λ g17 A17 _ hA17 st17=>?_)
 refine st17.mintP (s:=0) 0 rfl rfl iI (qr (owMachine.impE4 (impE_pinI (c:=(cmpI .lss v14 (0:Int) == false)) (λ hg=>zz (yt (gh hg p18)).2)))) [4] rfl (λ b19 st19=>?_)
 refine st19.sqB (sc rfl (oM rfl (tp rfl))<|sc rfl (oCI rfl (tp rfl) cI)<|sc rfl (oM rfl (tp rfl))<|sg rfl rfl (λ hg=>oM rfl (zg rfl))<|sg rfl rfl (λ hg=>xNc rfl (zf hg rfl))<|sg rfl rfl (λ hg=>xFa rfl qk (zf hg rfl))<|sg rfl rfl (λ hg=>xLc (sb:=0) (.head _) hg rfl rfl YD (zf hg rfl) rfl)<|sg rfl rfl (λ hg=>oM rfl (tp rfl))<|sg rfl rfl (λ hg=>xIa (g:=g17) rfl XQ (zf hg rfl) (zf hg rfl) rfl (λ h=>hA17 h hg) (gh hg p18))<|sg rfl rfl (λ hg=>xLdP (sb:=0) ((PV.root.box rfl).fld owMachine.f4) (.head _) hg (λ h=>hA17 h hg) (pinI_at hg) (yt (gh hg p18)).2 (Nat.mul_one _) rfl Xn (zf hg rfl) rfl)<|sg rfl rfl (λ hg=>xNc rfl (zf hg rfl))<|sg rfl rfl (λ hg=>xFa rfl JB (zf hg rfl))<|sg rfl rfl (λ hg=>xLf (sb:=0) ((((PV.root.box rfl).fld owMachine.f4).rowP (pinI_at hg) (gh hg p20)).fld owGModR.f1) rfl kT3 (zf hg rfl) rfl)<|sg rfl rfl (λ hg=>oCI rfl (zf hg rfl) cI)<|sc rfl (xv rfl (tp rfl) (zb rfl))<|.nil) [1,5,6,42] [(0,0),(4,1)] (λ _ _ st23=>?_)
 have st24:=st23.ncf (s:=0) 0 rfl rfl iI [4] rfl
 refine st24.cs rfl h22 (λ _ h25=>?_) (λ _ h26=>?_)
 ·
  refine wp_seq (wp_region_list ?_)
  obtain⟨v27,p27,h28⟩:=bsW h25 YA
  refine st24.segA 1 [43] [(0,0),(4,1)] (λ _ _ st29=>?_)
  refine st29.store (sb:=4) 1 FldS.id rfl rfl rfl ju rfl rfl (tp rfl) rfl [] rfl [0] rfl rfl (λ M31 _ st31=>?_)
  refine wpList_nil (za ?_)
  refine wp_ret (zd ?_)
  have st32:=st31.asO (s:=0) 0 rfl rfl iI (xj (owMachine.imp4 (yR (λ _ h=>(pinI_of h))))) [4] rfl
  exact st32.rsC (s:=0) 0 rfl ju rfl rfl iI (bxr h28)
 refine wp_skip (za (wp_seq ?_))
 obtain⟨v34,p34,h39⟩:=bs h26
 obtain⟨v36,p36,h40⟩:=bs h39
 obtain⟨v37,p37,h41⟩:=bs h40
 obtain⟨v38,p38,h42⟩:=bs h41
 refine st24.hdF (s:=0) 0 true (λ _=>((PV.root.box rfl).fld owMachine.f4)) rfl rfl iI [4] rfl (λ g33 A33 _ hA33 st33=>?_)
 refine st33.mintP (s:=0) 0 rfl rfl iI (qr (owMachine.impE4 (qX (zz (yt p34).2)))) [4] rfl (λ b35 st35=>?_)
 refine st35.drn (D:=[_,_,_,_,_,_,_,_,_,_,_,_,_,_,_,_,_,_,_,_,_,_]) zK 22 [[],[0],[0,1],[0,1,2],[],[4],[4,5],[4,5,6],[],[4,5,6,7,8],[4,5,6,7,8,9],[4,5,6,7,8,9,10],[4,5,6,7,8,9,10,11],[4,5,6,7,8,9,10,11,12],[],[],[15],[],[17],[17,18],[17,18,19],[0,1,2,3,4,5,6,7,8,9,10,11,12,13,14,15,16,17,18,19,20],[0,1,2,3,4,5,6,7,8,9,10,11,12,13,14,15,16,17,18,19,20,21]] [[(0,none)],[(44,some 0)],[(45,some 1)],[(46,some 2),(0,none)],[(0,none)],[(48,some 4)],[(49,some 5)],[(50,some 6),(0,none)],[(6,none)],[(51,some 7),(52,some 8)],[(53,some 9),(0,none)],[(54,some 10)],[(55,some 11),(0,none)],[(56,some 12),(0,none)],[(5,none)],[(1,none)],[(59,some 15)],[(0,none)],[(61,some 17)],[(62,some 18)],[(63,some 19),(0,none)],[(47,some 3),(57,some 13),(58,some 14),(60,some 16),(64,some 20)],[(4,none),(65,some 21)]] (by decide +kernel) (by decide) (
  rc rfl rfl (oM rfl (zg rfl))<|rc rfl rfl (xNc rfl (tp rfl))<|rc rfl rfl (xFa rfl kF108_0 (tp rfl))<|rc rfl rfl (xLf (sb:=0) ((PV.root.box rfl).fld owMachine.f0) rfl kT30 (tp rfl) rfl)<|rc rfl rfl (oM rfl (zg rfl))<|rc rfl rfl (xNc rfl (tp rfl))<|rc rfl rfl (xFa rfl qk (tp rfl))<|rc rfl rfl (xLc (sb:=0) (.head _) rfl rfl rfl YD (tp rfl) rfl)<|rc rfl rfl (oM rfl (tp rfl))<|rc rfl rfl (xIa (g:=g33) rfl XQ (tp rfl) (tp rfl) rfl (λ h=>hA33 h rfl) p34)<|rc rfl rfl (xLdP (sb:=0) ((PV.root.box rfl).fld owMachine.f4) (.head _) rfl (λ h=>hA33 h rfl) (.head _) (yt p34).2 (Nat.mul_one _) rfl Xn (tp rfl) rfl)<|rc rfl rfl (xNc rfl (tp rfl))<|rc rfl rfl (xFa rfl kF111_2 (tp rfl))<|rc rfl rfl (xLf (sb:=0) ((((PV.root.box rfl).fld owMachine.f4).rowP (.head _) p36).fld owGModR.f2) rfl kT25 (tp rfl) rfl)<|rc rfl rfl (oM rfl (tp rfl))<|rc rfl rfl (oM rfl (tp rfl))<|rc rfl rfl (zq (l:=[.tmp 59]) rfl kN202 (.cons (tp rfl) .nil) (WL p37))<|rc rfl rfl (oM rfl (zg rfl))<|rc rfl rfl (xNc rfl (tp rfl))<|rc rfl rfl (xFa rfl kF108_2 (tp rfl))<|rc rfl rfl (OpRel.nilf (xLf (sb:=0) ((PV.root.box rfl).fld owMachine.f2) rfl kT104 (tp rfl) rfl))<|rc rfl rfl (zq (l:=[.tmp 47,.tmp 57,.tmp 58,.tmp 60,.tmp 64]) rfl kN207 (.cons (tp rfl) (.cons (tp rfl) (.cons (tp rfl) (.cons (tp rfl) (.cons (tp rfl) .nil))))) (Qy p38))<|.nil) [65] rfl [(0,0),(4,1)] rfl ⟨iI,iT⟩ (λ _ _ st43=>?_)
 refine st43.store (sb:=4) 1 FldS.id rfl rfl rfl ju rfl rfl (tp rfl) rfl [] rfl [0] rfl rfl (λ M45 _ st45=>?_)
 refine wpList_nil ?_
 have st46:=st45.ncf (s:=0) 0 rfl rfl iI [4] rfl
 refine za (wp_ret ?_)
 have st47:=st46.asO (s:=0) 0 rfl rfl iI (xj (owMachine.imp4 (yR (λ _ h=>(.tail _ (pinI_of h)))))) [4] rfl
 exact st47.rsC (s:=0) 0 rfl ju rfl rfl iI (bxr h42)
end Go.Proofs.YtiiiokblnnlapaaGreatDoor
