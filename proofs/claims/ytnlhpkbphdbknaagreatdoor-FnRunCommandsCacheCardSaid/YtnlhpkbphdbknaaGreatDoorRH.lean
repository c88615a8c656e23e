import Derived.Test.YtnlhpkbphdbknaaGreatDoorRD
import Derived.Test.YtnlhpkbphdbknaaGreatDoorRFb
import Derived.Test.YtnlhpkbphdbknaaGreatDoorRB
import Derived.Test.YtnlhpkbphdbknaaGreatDoorRO
import Derived.Test.YtnlhpkbphdbknaaGreatDoorRC
namespace Go.Proofs.YtnlhpkbphdbknaaGreatDoor
open Go.RowKit Tryz
instance (s:Str):Decidable (mid s):=by unfold mid;infer_instance
instance (s:Stmt):Decidable (smStmt s):=by unfold smStmt;infer_instance
instance (f:File):Decidable (smFile f):=by unfold smFile;infer_instance
instance (t:Tree):Decidable (Yt t):=by unfold Yt;infer_instance
@[reducible] def oAtt:Ow (List GAttr):=Ow.row 118 (Ow.frz (α:=GAttr))
@[reducible] def oMac(ps:List (Nat×Nat)):Ow (Bx Machine):=Ow.box (owMachine (Ow.rowP ps 112 (owGModR oAtt)) (Ow.row 3 (Ow.frz (α:=Int))) (Ow.row 44 (Ow.frz (α:=GEvent))) (Ow.row 9 (Ow.frz (α:=Str))))
@[reducible] def oRun:Ow (Bx Runner):=Ow.box (owRunner (Ow.row 49 (owGModR (Ow.row 118 (Ow.frz (α:=GAttr))))) (Ow.row 44 (Ow.frz (α:=GEvent))) (Ow.row 3 (Ow.frz (α:=Int))))
def Zx(t:Tree):Option Bool:=if Yt t then some (zP t) else none
theorem zan{t:Tree}{r:Bool}(h:Zx t=some r):Fn prog 57 [dt t] (dt r):=by
 unfold Zx at h
 split at h
 ·
  rename_i hc
  injection h with h
  subst h
  exact QK _ hc
 ·
  cases h
def xW(s:Str):Option Bool:=if mid s then some (zg s) else none
theorem Yx{s:Str}{r:Bool}(h:xW s=some r):Fn prog 59 [dt s] (dt r):=by
 unfold xW at h
 split at h
 ·
  rename_i hc
  injection h with h
  subst h
  exact jS _ hc
 ·
  cases h
def Yd(s:Str)(c:UInt8):Option (List Str):=if mid s then some (zm s c) else none
theorem zbl{s:Str}{c:UInt8}{r:List Str}(h:Yd s c=some r):Fn prog 97 [dt s,dt c] (dt r):=by
 unfold Yd at h
 split at h
 ·
  rename_i hc
  injection h with h
  subst h
  exact ZR _ _ hc
 ·
  cases h
def Zy(p:List Int):Option Bool:=if True then some (xD p) else none
theorem zao{p:List Int}{r:Bool}(h:Zy p=some r):Fn prog 58 [dt p] (dt r):=by
 unfold Zy at h
 split at h
 ·
  rename_i hc
  injection h with h
  subst h
  exact QJ _
 ·
  cases h
def y9(s:Str):Option Str:=if mid s then some (zp s) else none
theorem qY{s:Str}{r:Str}(h:y9 s=some r):Fn prog 114 [dt s] (dt r):=by
 unfold y9 at h
 split at h
 ·
  rename_i hc
  injection h with h
  subst h
  exact zbg _ hc
 ·
  cases h
def Zi(s:Str):Option Str:=if mid s then some (xV s) else none
theorem zaQ{s:Str}{r:Str}(h:Zi s=some r):Fn prog 119 [dt s] (dt r):=by
 unfold Zi at h
 split at h
 ·
  rename_i hc
  injection h with h
  subst h
  exact spec_last_ok _ hc
 ·
  cases h
def Zz(p:Str)(s:Str):Option Str:=if p.l.length+s.l.length<=1152921504606846976 then some (child p s) else none
theorem QR{p:Str}{s:Str}{r:Str}(h:Zz p s=some r):Fn prog 105 [dt p,dt s] (dt r):=by
 unfold Zz at h
 split at h
 ·
  rename_i hc
  injection h with h
  subst h
  exact ZG _ _ hc
 ·
  cases h
def q7(f:File):Option Str:=if smFile f then some (ZW f) else none
theorem q8{f:File}{r:Str}(h:q7 f=some r):Fn prog 66 [dt f] (dt r):=by
 unfold q7 at h
 split at h
 ·
  rename_i hc
  injection h with h
  subst h
  exact Ql _ hc
 ·
  cases h
def XQ(t:Tree)(f:File):Option Int:=if True then some (xm t.files f) else none
theorem spec_fileAt_w{t:Tree}{f:File}{r:Int}(h:XQ t f=some r):Fn prog 95 [dt t,dt f] (dt r):=by
 unfold XQ at h
 split at h
 ·
  rename_i hc
  injection h with h
  subst h
  exact Ya _ _
 ·
  cases h
def XR  : Option Spec:=if True then some (ZX) else none
theorem spec_noSpec_w {r:Spec}(h:XR  = some r):Fn prog 144 [] (dt r):=by
 unfold XR at h
 split at h
 ·
  rename_i hc
  injection h with h
  subst h
  exact Jd
 ·
  cases h
def YF(t:Tree)(rs:List Int)(p:Str)(s:Str):Option Spec:=if rs.length<=1099511627776/\p.l.length+s.l.length<=1152921504606846975 then some (wF t.files rs p s) else none
theorem spec_findIn_w{t:Tree}{rs:List Int}{p:Str}{s:Str}{r:Spec}(h:YF t rs p s=some r):Fn prog 171 [dt t,dt rs,dt p,dt s] (dt r):=by
 unfold YF at h
 split at h
 ·
  rename_i hc
  injection h with h
  subst h
  exact zbi _ _ _ _ hc.1 hc.2
 ·
  cases h
open Go.RowKit Tryz
attribute [local irreducible] OpRel OpdR
set_option maxRecDepth 10000
set_option maxHeartbeats 1600000
theorem kL27:isSl prog 27=true:=by kernel_rfl
theorem kS27:slB prog 27 2=true:=by kernel_rfl
theorem kT43:tyB prog 43 true 2=true:=by kernel_rfl
theorem kZ43:xg prog 43=some zcGCmd:=by kernel_rfl
theorem kF43_0:fldB prog 43 0 0=true:=by kernel_rfl
theorem kL106:isSl prog 106=true:=by kernel_rfl
theorem X9:slB prog 106 1=true:=by kernel_rfl
theorem Y0:tyB prog 112 false 1=true:=by kernel_rfl
theorem Jk:fldB prog 49 3 3=true:=by kernel_rfl
theorem Xj:fldB prog 49 0 0=true:=by kernel_rfl
theorem Ye:fldB prog 108 4 4=true:=by kernel_rfl
theorem kT106:tyB prog 106 false 1=true:=by kernel_rfl
theorem kN107:fnB prog 107=true:=by kernel_rfl
theorem kN21:fnB prog 21=true:=by kernel_rfl
theorem zap:fldB prog 49 1 1=true:=by kernel_rfl
theorem kZ116:xg prog 116=some zcGVal:=by kernel_rfl
theorem XS:fldB prog 49 5 5=true:=by kernel_rfl
theorem kT47:tyB prog 47 false 1=true:=by kernel_rfl
theorem kL47:isSl prog 47=true:=by kernel_rfl
theorem kS47:slB prog 47 3=true:=by kernel_rfl
theorem kT118:tyB prog 118 true 3=true:=by kernel_rfl
theorem kZ118:xg prog 118=some zcGAttr:=by kernel_rfl
theorem kF118_0:fldB prog 118 0 0=true:=by kernel_rfl
theorem QS:fldB prog 118 1 1=true:=by kernel_rfl
theorem qm:tyB prog 116 true 2=true:=by kernel_rfl
theorem Jl:bldB prog 116 [1,1]=true:=by kernel_rfl
theorem Jm:j7 prog 116 [1,1]=some YU:=by kernel_rfl
theorem kB108:bldB prog 108 [1,1,1,1,1,1,1,1,1]=true:=by kernel_rfl
theorem kC108:j7 prog 108 [1,1,1,1,1,1,1,1,1]=some zpMachine:=by kernel_rfl
theorem kN67:fnB prog 67=true:=by kernel_rfl
theorem kF108_6:fldB prog 108 6 6=true:=by kernel_rfl
theorem kT30:tyB prog 30 false 1=true:=by kernel_rfl
theorem kB44:bldB prog 44 [1,1]=true:=by kernel_rfl
theorem kC44:j7 prog 44 [1,1]=some zpGEvent:=by kernel_rfl
theorem kS30:slB prog 30 2=true:=by kernel_rfl
theorem kE30:elB prog 30 44 2 24=true:=by kernel_rfl
instance iF108_6MaA:FldO prog 108 6 6:=⟨kF108_6⟩
def xh(x0:List GCmd)(s4:Int):Option (Int⊕(Unit⊕Bool)):=
if(cmpI .lss s4 (x0.length:Int))=true then((atI x0 s4).bind λ v9=>
(yq v9.kind (0:Int) (2:Int)).bind λ v16=>
(gO ((!v16) == false) (yc v9.name)).bind λ v17=>
if((!v16)||(!v17))=true then(some (.inr (.inr false)))
else((i64 (s4+(1:Int))).bind λ v26=>
some (.inl v26)))
else(some (.inr (.inl ())))
def yE(x0:List GCmd):Option Bool:=
Option.bind (α:=Unit⊕Bool) (zU (λ s4=>xh x0 s4) (0:Int)) (Sum.elim (λ _b2=>
some (cmpI .leq (x0.length:Int) (10:Int))) some)
theorem jT{x0:List GCmd}{r:Bool}(h:yE x0=some r):Fn prog 16 [dt x0] (dt r):=by
 unfold yE at h
 refine fnx (fn:=f16) 1 func16 rfl (oD rfl) rfl (λ M w0 _ st0=>?_)
 refine st0.sq1 [0] (λ _ _ st1=>?_)
 obtain⟨o2,p2,k2⟩:=bs h
 refine zj (λ a w=>∃ b2,o2=.inl b2/\(∃ M1 q2_0,Sx (Frm.of w0) 25 M M1 [oneB q2_0] [(0,dt x0)] [] a w)) ?_ ?_
 ·
  refine st1.sq1 [0,5,6,7] (λ _ _ st3=>wp_block ?_)
  refine zH p2 (λ s4 a w=>∃ M1 q4_0,Sx (Frm.of w0) 25 M M1 [oneB q4_0] [(0,dt x0),(5,dt x0),(6,dt (x0.length:Int)),(7,dt s4)] [] a w) fx ?_
  rintro s4 z4 a4 w4 ⟨M4,q4_0,st4⟩ hs4 hx4
  have h5:xh x0 s4=some z4:=hs4
  unfold xh at h5
  refine st4.sq1 [0,5,6,7,8] (λ _ _ st6=>wp_seq ?_)
  refine st6.cs rfl h5 (λ _ h7=>wp_skip (za (wp_seq (wp_block (wp_seq (wp_region_list ?_)))))) (λ _ h8=>wp_exit (zi (zi (zF ?_))))
  ·
   obtain⟨v9,p9,h10⟩:=bs h7
   refine st6.segA 2 [0,5,6,7,10] [] (λ _ _ st11=>?_)
   refine st11.alloc 0 rfl rfl kZ43 zrGCmd (by simp) [0,5,6,7,10] rfl [] rfl rfl (λ b13 _ _ _ st13=>?_)
   refine st13.store (sb:=4) 0 FldS.id rfl rfl rfl kT43 rfl rfl (tp rfl) rfl [0,5,6,7] rfl [] rfl rfl (λ _ _ st15=>wpList_nil (za ?_))
   obtain⟨v16,p16,v17,p17,h19⟩:=bsB h10
   refine st15.sq2 (sP 2 (r:=by exact sc rfl (oK (wM p16))<|sP 4 (r:=by exact sg rfl rfl (λ hg=>oK (yO (gh hg p17)))<|segC))) [0,5,6,7,20] (λ _ _ st20=>?_)
   refine st20.cs rfl h19 (λ _ h21=>?_) (λ _ h22=>wp_skip (zf (za ?_)))
   ·
    refine st20.sq1 [2] (λ _ _ st23=>wp_ret (zl (zd (zd (zl (zd ?_))))))
    have h24:=lo h21 hx4
    have h25:=jo h24 k2
    exact st23.ret rfl rfl h25
   obtain⟨v26,p26,h27⟩:=bs h22
   refine st20.rg1 [0,5,6,7] (λ _ _ st28=>za ?_)
   exact fl h27
  refine za ?_
  have h29:=lo h8 hx4
  exact fl h29
 rintro a2 w2 ⟨b2,rfl,⟨M2,q2_0,st2⟩⟩
 have h30:=jn k2
 refine st2.sq1 [2] (λ _ _ st31=>wp_ret ?_)
 exact st31.ret rfl rfl h30
def yK(x0:File):Option (List Stmt):=
some x0.body
theorem JS{x0:File}{r:List Stmt}(h:yK x0=some r):Fn prog 67 [dt x0] (dt r):=by
 unfold yK at h
 refine fnx (fn:=f67) 0 func67 rfl (oD rfl) rfl (λ M _ _ st0=>?_)
 refine st0.sq2 (sP 1 (r:=by exact sc rfl (oA rfl (qa (α:=Stmt)))<|.nil)) [1] (λ _ _ st1=>?_)
 refine st1.sq1 [2] (λ _ _ st2=>wp_ret ?_)
 exact st2.ret rfl rfl h
def zR(x0:List (Bx GMod))(x1:(GMod->Option Bool))(s4:Int):Option (Int⊕(Unit⊕Int)):=
if(cmpI .lss s4 (x0.length:Int))=true then((atI x0 s4).bind λ v10=>
(x1 v10.x).bind λ v11=>
if v11=true then(some (.inr (.inr s4)))
else((i64 (s4+(1:Int))).bind λ v20=>
some (.inl v20)))
else(some (.inr (.inl ())))
def yo(x0:List (Bx GMod))(x1:(GMod->Option Bool)):Option Int:=
Option.bind (α:=Unit⊕Int) (zU (λ s4=>zR x0 x1 s4) (0:Int)) (Sum.elim (λ _b2=>
some (-1:Int)) some)
theorem qD{x0:List (Bx GMod)}{x1:(GMod->Option Bool)}{r:Int}(h:yo x0 x1=some r):Fn prog 106 [dt x0,dfq1 prog x1] (dt r):=by
 unfold yo at h
 refine fnx (fn:=f106) 0 func106 rfl (oD rfl) rfl (λ M w0 _ st0=>?_)
 refine st0.sq1 [0,1] (λ _ _ st1=>?_)
 obtain⟨o2,p2,k2⟩:=bs h
 refine zj (λ a w=>∃ b2,o2=.inl b2/\Sx (Frm.of w0) 19 M M [] [] [] a w) ?_ ?_
 ·
  refine st1.sq1 [0,1,7,8] (λ _ _ st3=>wp_block ?_)
  refine zH p2 (λ s4 a w=>Sx (Frm.of w0) 19 M M [] [(0,dt x0),(7,dt (x0.length:Int)),(8,dt s4),(1,dfq1 prog x1)] [] a w) (st3.sel0 [0,7,8,1] rfl) ?_
  rintro s4 z4 a4 w4 st4 hs4 hx4
  have h5:zR x0 x1 s4=some z4:=hs4
  unfold zR at h5
  refine st4.sq1 [0,1,7,8,9] (λ _ _ st6=>wp_seq ?_)
  refine st6.cs rfl h5 (λ _ h7=>wp_skip (za (wp_seq (wp_block ?_)))) (λ _ h8=>wp_exit (zi (zi (zF ?_))))
  ·
   refine st6.sq1 [0,1,5,7,8] (λ _ _ st9=>?_)
   obtain⟨v10,p10,v11,p11,h13⟩:=bsB h7
   refine st9.sq2 (sP 4 (r:=by exact sc rfl (OpRel.bx (zn rfl Y0 (tp rfl)))<|sc rfl (xCaQ1 rfl (tp rfl) (tp rfl) p11)<|.nil)) [0,1,5,7,8,16] (λ _ _ st14=>?_)
   refine st14.cs rfl h13 (λ _ h15=>?_) (λ _ h16=>wp_skip (zf (za ?_)))
   ·
    refine st14.sq1 [4] (λ _ _ st17=>wp_ret (zl (zd (zd (zl (zd ?_))))))
    have h18:=lo h15 hx4
    have h19:=jo h18 k2
    exact st17.ret rfl rfl h19
   obtain⟨v20,p20,h21⟩:=bs h16
   refine st14.rg1 [0,1,7,8] (λ _ _ st22=>za ?_)
   exact⟨_,(Option.some.inj h21).symm,st22.sel0 [0,7,8,1] rfl⟩
  refine za ?_
  have h23:=lo h8 hx4
  exact⟨_,(Option.some.inj h23).symm,st6.sel0 [] rfl⟩
 rintro a2 w2 ⟨b2,rfl,st2⟩
 have h24:=jn k2
 refine st2.sq1 [4] (λ _ _ st25=>wp_ret ?_)
 exact st25.ret rfl rfl h24
def yP(x0:GMod)(x1:Str):Option Bool:=
some (x0.cached&&decide (x0.name=x1))
theorem Wa{x0:GMod}{x1:Str}{r:Bool}(h:yP x0 x1=some r):Fn prog 107 [dptr x0,dptr x1] (dt r):=by
 unfold yP at h
 refine fnx (fn:=f107) 0 func107 rfl (oD rfl) rfl (λ M _ _ st0=>?_)
 refine st0.sq1 [0,1] (λ _ _ st1=>wp_seq ?_)
 refine st1.dr (D:=[_,_,_,_,_,_,_,_,_,_,_,_,_]) zv [[],[0],[0,1],[0,1,2],[0,1,2,3],[0,1,2,3,4],[0,1,2,3,4,5],[0,1,2,3,4,5,6],[0,1,2,3,4,5,6,7],[0,1,2,3,4],[0,1,2,3,4,5,6,7,8,9],[0,1,2,3,4,5,6,7,8,9,10],[0,1,2,3,4,5,6,7,8,9,10,11]] [[(0,none)],[(4,some 0)],[(5,some 1)],[(6,some 2)],[(7,some 3)],[(0,none),(8,some 4)],[(9,some 5),(8,some 4)],[(10,some 6),(8,some 4)],[(11,some 7),(8,some 4)],[(1,none),(8,some 4)],[(12,some 8),(13,some 9),(8,some 4)],[(8,some 4),(14,some 10)],[(15,some 11)]] (by decide +kernel) (
  rc rfl rfl (oM rfl (tp rfl))<|rc rfl rfl (xNcP rfl (tp rfl))<|rc rfl rfl (zu GMod.fld3 rfl Jk (tp rfl))<|rc rfl rfl (zn rfl kT4 (tp rfl))<|rc rfl rfl (oM rfl (tp rfl))<|rg rfl rfl rfl (λ hg=>oM rfl (tp rfl))<|rg rfl rfl rfl (λ hg=>xNcP rfl (ze hg rfl))<|rg rfl rfl rfl (λ hg=>zu GMod.fld0 rfl Xj (ze hg rfl))<|rg rfl rfl rfl (λ hg=>zn rfl kT9 (ze hg rfl))<|rg rfl rfl rfl (λ hg=>zn rfl kT9 (tp rfl))<|rg rfl rfl rfl (λ hg=>j6 rfl (ze hg rfl) (ze hg rfl))<|rc rfl rfl (yN rfl (tp rfl) (zb rfl))<|rc rfl rfl (oA rfl (tp rfl))<|.nil) [3] rfl [] rfl trivial (λ _ _ st2=>?_)
 refine za (wp_ret ?_)
 exact st2.ret rfl rfl h
def zV(x0:Machine)(x1:Str):Option Int:=
(yo x0.modules (λ a0=>yP a0 x1)).bind λ v2=>
some v2
theorem yI{x0:Machine}{x1:Str}{r:Int}(h:zV x0 x1=some r):Fn prog 68 [dptr x0,dt x1] (dt r):=by
 unfold zV at h
 refine fnx (fn:=f68) 0 func68 rfl (oD rfl) rfl (λ M _ a0 st0=>?_)
 refine st0.sq1 [0,3] (λ _ _ st1=>?_)
 obtain⟨v2,p2,h3⟩:=bs h
 refine st1.sq2 (sP 4 (r:=by exact sc rfl (xMkQ1 (l:=[.tmp 3]) (g:=(λ a0=>yP a0 x1)) rfl kN107 (.cons (tp rfl) .nil) rfl (λ _ _ h=>Wa h))<|sc rfl (oK (qD p2))<|segC)) [4] (λ _ _ st4=>wp_ret ?_)
 exact st4.ret rfl rfl h3
def yx(s17:Str×Int):Option ((Str×Int)⊕Str):=
if(cmpI .gtr s17.2 (1:Int)&&decide (s17.1≠(⟨[]⟩:Str)))=true then((yA s17.1).bind λ v22=>
(i64 (s17.2 - (1:Int))).bind λ v25=>
some (.inl (v22,v25)))
else(some (.inr s17.1))
def jy(x0:Str)(x1:Int)(x2:Str):Option Str:=
(xq x0).bind λ v2=>
(gO ((!v2) == false) (xq x2)).bind λ v3=>
(gO (((!v2)||(!v3)) == false) (yq x1 (0:Int) (4:Int))).bind λ v4=>
if(((!v2)||(!v3))||(!v4))=true then(some (⟨[]⟩:Str))
else(if(cmpI .eql x1 (0:Int))=true then(some x2)
else(Option.bind (α:=Str) (zU (λ s17=>yx s17) (x0,x1)) λ o16=>
if(decide (o16=(⟨[]⟩:Str)))=true then(some (⟨[]⟩:Str))
else(Option.bind (α:=Str) (if(decide (x2≠(⟨[]⟩:Str)))=true then((catO (⟨[46]⟩:Str) x2).bind λ v38=>
(catO o16 v38).bind λ v39=>
some v39)
else(some o16)) λ o34=>
(yc o34).bind λ v44=>
if(!v44)=true then(some (⟨[]⟩:Str))
else(some o34))))
theorem Qo{x0:Str}{x1:Int}{x2:Str}{r:Str}(h:jy x0 x1 x2=some r):Fn prog 133 [dt x0,dt x1,dt x2] (dt r):=by
 unfold jy at h
 refine fnx (fn:=f133) 0 func133 rfl (oD rfl) rfl (λ M w0 _ st0=>?_)
 refine st0.sq1 [0,1,2] (λ _ _ st1=>wp_seq ?_)
 obtain⟨v2,p2,v3,p3,v4,p4,h7⟩:=bsC h
 refine st1.sq2 (sP 1 (r:=by exact sc rfl (oK (qf p2))<|sP 3 (r:=by exact sg rfl rfl (λ hg=>oK (qf (gh hg p3)))<|sP 4 (r:=by exact sg rfl rfl (λ hg=>oK (wM (gh hg p4)))<|segC)))) [0,1,2,19] (λ _ _ st8=>?_)
 refine st8.cs rfl h7 (λ _ h9=>?_) (λ _ h10=>wp_skip (za (wp_seq ?_)))
 ·
  refine st8.sq1 [6] (λ _ _ st11=>wp_ret (zd ?_))
  exact st11.ret rfl rfl h9
 refine st8.sq1 [0,1,2,21] (λ _ _ st12=>?_)
 refine st12.cs rfl h10 (λ _ h13=>?_) (λ _ h14=>wp_skip (za ?_))
 ·
  refine st12.sq1 [6] (λ _ _ st15=>wp_ret (zd ?_))
  exact st15.ret rfl rfl h13
 obtain⟨o16,p16,k16⟩:=bs h14
 refine zj (λ a w=>Sx (Frm.of w0) 45 M M [] [(0,dt o16),(2,dt x2)] [] a w) ?_ ?_
 ·
  refine wp_block ?_
  refine zH p16 (λ s17 a w=>Sx (Frm.of w0) 45 M M [] [(0,dt s17.1),(1,dt s17.2),(2,dt x2)] [] a w) (st12.sel0 [0,1,2] rfl) ?_
  rintro s17 z17 a17 w17 st17 hs17 hx17
  have h18:yx s17=some z17:=hs17
  unfold yx at h18
  refine wp_seq ?_
  refine st17.sq3 [0,1,2,28] (λ _ _ st19=>?_)
  refine st19.cs rfl h18 (λ _ h20=>wp_skip (za (wp_seq (wp_block ?_)))) (λ _ h21=>wp_exit (zi (zi (zF ?_))))
  ·
   obtain⟨v22,p22,h23⟩:=bsW h20 jh
   refine st19.rg1 [0,1,2] (λ _ _ st24=>zf (za ?_))
   obtain⟨v25,p25,h26⟩:=bs h23
   refine st24.rg1 [0,1,2] (λ _ _ st27=>za ?_)
   exact⟨_,(Option.some.inj h26).symm,st27.sel0 [0,1,2] rfl⟩
  refine za ?_
  have h28:=lo h21 hx17
  obtain rfl:=Option.some.inj h28
  exact st19.sel0 [0,2] rfl
 rintro a16 w16 st16
 have h29:=k16
 refine wp_seq ?_
 refine st16.sq1 [0,2,34] (λ _ _ st30=>?_)
 refine st30.cs rfl h29 (λ _ h31=>?_) (λ _ h32=>wp_skip (za ?_))
 ·
  refine st30.sq1 [6] (λ _ _ st33=>wp_ret (zd ?_))
  exact st33.ret rfl rfl h31
 obtain⟨o34,p34,k34⟩:=bs h32
 refine zj (λ a w=>Sx (Frm.of w0) 45 M M [] [(0,dt o34)] [] a w) ?_ ?_
 ·
  refine st30.sq2 (sc rfl (oM rfl (tp rfl))<|sc rfl (XL rfl (tp rfl) (zO (by decide)))<|.nil) [0,2,36] (λ _ _ st35=>?_)
  refine st35.cs rfl p34 (λ _ h36=>?_) (λ _ h37=>wp_skip (za ?_))
  ·
   obtain⟨v38,p38,v39,p39,h41⟩:=bsB h36
   refine st35.rg2 (sc rfl (oM rfl (tp rfl))<|sc rfl (oM rfl (tp rfl))<|sc rfl (xCat rfl (zO (by decide)) (tp rfl) p38)<|sc rfl (xCat rfl (tp rfl) (tp rfl) p39)<|sc rfl (oA rfl (tp rfl))<|.nil) [0] (λ _ _ st42=>za ?_)
   obtain rfl:=Option.some.inj h41
   exact st42.sel0 [0] rfl
  obtain rfl:=Option.some.inj h37
  exact st35.sel0 [0] rfl
 rintro a34 w34 st34
 have h43:=k34
 refine wp_seq ?_
 obtain⟨v44,p44,h45⟩:=bsW h43 yO
 refine st34.sq1 [0,43] (λ _ _ st46=>?_)
 refine st46.cs rfl h45 (λ _ h47=>?_) (λ _ h48=>wp_skip (za ?_))
 ·
  refine st46.sq2 (sc rfl (oA rfl (zO (by decide)))<|.nil) [6] (λ _ _ st49=>wp_ret (zd ?_))
  exact st49.ret rfl rfl h47
 refine st46.sq1 [6] (λ _ _ st50=>wp_ret ?_)
 exact st50.ret rfl rfl h48
def xX(x0:GMod):Option Str:=
if(cmpI .eql x0.kind (1:Int))=true then((yA x0.name).bind λ v5=>
some v5)
else(some x0.name)
theorem Wb{x0:GMod}{r:Str}(h:xX x0=some r):Fn prog 134 [dptr x0] (dt r):=by
 unfold xX at h
 refine fnx (fn:=f134) 0 func134 rfl (oD rfl) rfl (λ M _ _ st0=>?_)
 refine st0.sq1 [0] (λ _ _ st1=>wp_seq ?_)
 refine st1.sq3 [0,7] (λ _ _ st2=>?_)
 refine st2.cs rfl h (λ _ h3=>?_) (λ _ h4=>wp_skip (za ?_))
 ·
  obtain⟨v5,p5,h6⟩:=bsW h3 jh
  refine st2.sq3 [2] (λ _ _ st7=>wp_ret (zd ?_))
  exact st7.ret rfl rfl h6
 refine st2.sq3 [2] (λ _ _ st8=>wp_ret ?_)
 exact st8.ret rfl rfl h4
def xE(x0:GMod)(x1:Str)(s6:GVal×Int):Option ((GVal×Int)⊕(GVal⊕(GVal×Bool))):=
if(cmpI .lss s6.2 (x0.attrs.length:Int))=true then((atI x0.attrs s6.2).bind λ v11=>
if(decide (v11.name=x1))=true then(some (.inr (.inr (v11.value,true))))
else((i64 (s6.2+(1:Int))).bind λ v27=>
some (.inl (s6.1,v27))))
else(some (.inr (.inl s6.1)))
def xQ(x0:GMod)(x1:Str):Option (GVal×Bool):=
Option.bind (α:=GVal⊕(GVal×Bool)) (zU (λ s6=>xE x0 x1 s6) (zGVal,(0:Int))) (Sum.elim (λ _b4=>
some ((⟨0,0⟩:GVal),false)) some)
theorem jz{x0:GMod}{x1:Str}{r:GVal×Bool}(h:xQ x0 x1=some r):Fn prog 142 [dptr x0,dt x1] (dtup [dt r.1,dt r.2]):=by
 unfold xQ at h
 refine fnx (fn:=f142) 2 func142 rfl (oD rfl) rfl (λ M w0 _ st0=>wp_seq (wp_region_list ?_))
 refine st0.alloc 0 rfl rfl kZ116 Wx (by simp) [0,1] rfl [] rfl rfl (λ b2 _ _ _ st2=>?_)
 refine st2.segA 1 [0,1] [(4,0)] (λ _ _ st3=>wpList_nil (za ?_))
 obtain⟨o4,p4,k4⟩:=bs h
 refine zj (λ a w=>∃ b4,o4=.inl b4/\(∃ M1 q4_0 q4_1,Sx (Frm.of w0) 25 M M1 [oneB q4_0,oneB q4_1] [] [(4,0,dbox q4_0 0 b4)] a w)) ?_ ?_
 ·
  refine st3.sqC [1,11,12,13] [(4,0)] (λ _ _ st5=>wp_block ?_)
  refine zH p4 (λ s6 a w=>∃ M1 q6_0 q6_1,Sx (Frm.of w0) 25 M M1 [oneB q6_0,oneB q6_1] [(1,dt x1),(11,dt x0.attrs),(12,dt (x0.attrs.length:Int)),(13,dt s6.2)] [(4,0,dbox q6_0 0 s6.1)] a w) fx ?_
  rintro s6 z6 a6 w6 ⟨M6,q6_0,q6_1,st6⟩ hs6 hx6
  have h7:xE x0 x1 s6=some z6:=hs6
  unfold xE at h7
  refine st6.sqA [1,11,12,13,14] [(4,0)] (λ _ _ st8=>wp_seq ?_)
  refine st8.cs rfl h7 (λ _ h9=>wp_skip (za (wp_seq (wp_block (wp_seq (wp_region_list ?_)))))) (λ _ h10=>wp_exit (zi (zi (zF ?_))))
  ·
   obtain⟨v11,p11,h12⟩:=bs h9
   refine st8.segA 2 [1,11,12,13,16] [(4,0)] (λ _ _ st13=>?_)
   refine st13.alloc 1 rfl rfl kZ118 zrGAttr (by simp) [1,11,12,13,16] rfl [4] rfl rfl (λ b15 _ _ _ st15=>?_)
   refine st15.store (sb:=7) 1 FldS.id rfl rfl rfl kT118 rfl rfl (tp rfl) rfl [1,11,12,13] rfl [4] rfl rfl (λ _ _ st17=>wpList_nil (za ?_))
   refine st17.sqC [1,11,12,13,20] [(4,0),(7,1)] (λ _ _ st18=>?_)
   refine st18.cs rfl h12 (λ _ h19=>wp_seq (wp_region_list ?_)) (λ _ h20=>wp_skip (zf (za ?_)))
   ·
    refine st18.segC 2 [22] [(4,0)] (λ _ _ st21=>?_)
    refine st21.store (sb:=4) 0 FldS.id rfl rfl rfl qm rfl rfl (tp rfl) rfl [] rfl [] rfl rfl (λ _ _ st23=>?_)
    refine st23.segA 1 [5] [(4,0)] (λ _ _ st24=>wpList_nil (za ?_))
    refine wp_ret (zl (zd (zd (zl (zd ?_)))))
    have h25:=lo h19 hx6
    have h26:=jo h25 k4
    obtain rfl:=Option.some.inj h26
    exact st24.ret2c rfl qm rfl (st24.frozen (t:=5) rfl) rfl rfl
   obtain⟨v27,p27,h28⟩:=bs h20
   refine st18.rgA [1,11,12,13] [(4,0)] (λ _ _ st29=>za ?_)
   exact fl h28
  refine za ?_
  have h30:=lo h10 hx6
  exact fl h30
 rintro a4 w4 ⟨b4,rfl,⟨M4,q4_0,q4_1,st4⟩⟩
 have h31:=jn k4
 refine wp_seq (wp_region_list ?_)
 refine st4.segB 1 (sc rfl (zY (parts:=[]) (ns:=[1,1]) (zs:=YU) rfl rfl Jl Jm (λ w a hl=>by simp) (λ w a hl=>GVal.parts (x:=(⟨0,0⟩:GVal)) ⟨rfl,trivial⟩ ⟨rfl,trivial⟩))<|.nil) [24] [(4,0)] (λ _ _ st32=>?_)
 refine st32.store (sb:=4) 0 FldS.id rfl rfl rfl qm rfl rfl (tp rfl) rfl [] rfl [] rfl rfl (λ _ _ st34=>?_)
 refine st34.segA 1 [5] [(4,0)] (λ _ _ st35=>wpList_nil (za (wp_ret ?_)))
 obtain rfl:=Option.some.inj h31
 exact st35.ret2c rfl qm rfl (st35.frozen (t:=5) rfl) rfl rfl
def wk(x0:Str)(x1:Str):Option (Str×Str×Bool):=
(xM x0 x1).bind λ v2=>
if(cmpI .geq v2 (0:Int))=true then((cutHO x0 v2).bind λ v8=>
(i64 (v2+(x1.l.length:Int))).bind λ v9=>
(cutLO x0 v9).bind λ v10=>
some (v8,v10,true))
else(some (x0,(⟨[]⟩:Str),false))
theorem Xk{x0:Str}{x1:Str}{r:Str×Str×Bool}(h:wk x0 x1=some r):Fn prog 170 [dt x0,dt x1] (dtup [dt r.1,dt r.2.1,dt r.2.2]):=by
 unfold wk at h
 refine fnx (fn:=f170) 0 func170 rfl (oD rfl) rfl (λ M _ _ st0=>?_)
 refine st0.sq1 [0,1] (λ _ _ st1=>wp_seq ?_)
 obtain⟨v2,p2,h3⟩:=bsW h YV
 refine st1.sq1 [0,1,7] (λ _ _ st4=>?_)
 refine st4.sq1 [0,1,7,12] (λ _ _ st5=>?_)
 refine st5.cs rfl h3 (λ _ h6=>wp_seq ?_) (λ _ h7=>wp_skip (za ?_))
 ·
  obtain⟨v8,p8,v9,p9,v10,p10,h13⟩:=bsC h6
  refine st5.drA (D:=[_,_,_,_,_,_,_,_,_,_,_,_]) zv [[],[],[0,1],[],[],[],[5],[4,5,6],[3,4,5,6,7],[0,1,2],[0,1,2,3,4,5,6,7,8,9],[0,1,2,3,4,5,6,7,8,9,10]] [[(0,none)],[(7,none)],[(13,some 0),(14,some 1)],[(0,none)],[(7,none)],[(1,none)],[(18,some 5)],[(17,some 4),(19,some 6)],[(16,some 3),(20,some 7)],[(15,some 2)],[(21,some 8)],[]] [4,5,6] [] (λ _ _ st14=>za ?_)
  refine wp_ret (zd ?_)
  obtain rfl:=Option.some.inj h13
  exact st14.ret3 rfl (st14.frozen (t:=4) rfl) (st14.frozen (t:=5) rfl) (st14.frozen (t:=6) rfl) ⟨rfl,rfl,rfl⟩ rfl
 refine st5.sq1 [4,5,6] (λ _ _ st15=>wp_ret ?_)
 obtain rfl:=Option.some.inj h7
 exact st15.ret3 rfl (st15.frozen (t:=4) rfl) (st15.frozen (t:=5) rfl) (st15.frozen (t:=6) rfl) ⟨rfl,rfl,rfl⟩ rfl
def ZK(x0:Str)(x1:Str):Option (Str×Str×Bool):=
(wk x0 x1).bind λ v2=>
some (v2.1,v2.2.1,v2.2.2)
theorem strings_Cut_w{x0:Str}{x1:Str}{r:Str×Str×Bool}(h:ZK x0 x1=some r):Fn prog 141 [dt x0,dt x1] (dtup [dt r.1,dt r.2.1,dt r.2.2]):=by
 unfold ZK at h
 refine fnx (fn:=f141) 0 func141 rfl (oD rfl) rfl (λ M _ _ st0=>?_)
 refine st0.sq1 [0,1] (λ _ _ st1=>?_)
 obtain⟨v2,p2,h3⟩:=bsW h Xk
 refine st1.sq1 [4,5,6] (λ _ _ st4=>wp_ret ?_)
 obtain rfl:=Option.some.inj h3
 exact st4.ret3 rfl (st4.frozen (t:=4) rfl) (st4.frozen (t:=5) rfl) (st4.frozen (t:=6) rfl) ⟨rfl,rfl,rfl⟩ rfl
def jU(x0:Tree)(x1:List Int)(x2:Int):Option Machine:=
some (⟨x0,x1,(⟨⟩:Nilf),(⟨yK⟩:FnV File (List Stmt)),[],[],[],[],x2⟩:Machine)
theorem QT{x0:Tree}{x1:List Int}{x2:Int}{r:Machine}(h:jU x0 x1 x2=some r):FnN prog 35 [dt x0,dt x1,dt x2] (.ow (oMac []) ⟨r⟩):=by
 unfold jU at h
 refine fnN (fn:=f35) 4 func35 rfl (oD rfl) rfl (λ M _ _ st0=>?_)
 refine st0.sq2 (sP 1 (r:=by exact sc rfl (oA rfl opd_nilp)<|.nil)) [1,2,3] (λ _ _ st1=>wp_seq (wp_region_list ?_))
 refine st1.segA 3 [7,8,9] [] (λ _ _ st2=>?_)
 refine st2.bldW (ow:=(owMachine (Ow.rowP [] 112 (owGModR oAtt)) (Ow.row 3 (Ow.frz (α:=Int))) (Ow.row 44 (Ow.frz (α:=GEvent))) (Ow.row 9 (Ow.frz (α:=Str))))) (parts:=[(0,.tmp 7),(1,.tmp 8),(8,.tmp 9),(3,.func 67)]) (ns:=[1,1,1,1,1,1,1,1,1]) (zs:=zpMachine) (x:=(⟨x0,x1,(⟨⟩:Nilf),(⟨yK⟩:FnV File (List Stmt)),[],[],[],[],x2⟩:Machine)) 3 [] rfl rfl rfl kB108 kC108 (by
 intro p hp;simp only[List.mem_cons,List.not_mem_nil,or_false] at hp
 rcases hp with rfl | rfl | rfl | rfl
 ·
  exact⟨by decide,Rep.len (α:=Tree) (OpdR.cells (tp rfl) (λ s y hs=>st2.st.has s y hs))⟩
 ·
  exact⟨by decide,Rep.len (α:=List Int) (OpdR.cells (tp rfl) (λ s y hs=>st2.st.has s y hs))⟩
 ·
  exact⟨by decide,Rep.len (α:=Int) (OpdR.cells (tp rfl) (λ s y hs=>st2.st.has s y hs))⟩
 ·
  exact⟨by decide,rfl⟩) (((owMachine (Ow.rowP [] 112 (owGModR oAtt)) (Ow.row 3 (Ow.frz (α:=Int))) (Ow.row 44 (Ow.frz (α:=GEvent))) (Ow.row 9 (Ow.frz (α:=Str))))).more (owMachine.mk (x:=(⟨x0,x1,(⟨⟩:Nilf),(⟨yK⟩:FnV File (List Stmt)),[],[],[],[],x2⟩:Machine)) (OpdR.cells (tp rfl) (λ s y hs=>st2.st.has s y hs)) (OpdR.cells (tp rfl) (λ s y hs=>st2.st.has s y hs)) (zrNilf _ _) (OpdR.cells (opd_fnv (opd_fun1 kN67 (λ _ _ h=>JS h))) (λ s y hs=>st2.st.has s y hs)) (rowP_zz _ _) (Ow.row_z _ _) (Ow.row_z _ _) (Ow.row_z _ _) (OpdR.cells (tp rfl) (λ s y hs=>st2.st.has s y hs)) (λ b h1=>(λ h2=>h2.elim (λ h2=>h2.elim) (λ h2=>h2.elim (λ h2=>h2.elim) (λ h2=>h2.elim)))) (λ b h1=>(λ h2=>h2.elim (λ h2=>h2.elim) (λ h2=>h2.elim))) (λ b h1=>(λ h2=>h2.elim))) (λ b=>(λ hb=>hb.elim (λ hb=>hb.elim) (λ hb=>hb.elim (λ hb=>hb.elim) (λ hb=>hb.elim (λ hb=>hb.elim) (λ hb=>hb.elim)))))) (by simp) [] rfl [] rfl rfl rfl (λ G3 _ _ st3=>?_)
 have st4:=st3.gs (Gs':=[oneB none,oneB none,oneB none,G3]) rfl
 refine st4.boxW 0 3 rfl rfl rfl (by simp) (by simp) (by decide) iI [] rfl [] rfl rfl rfl (λ b5 _ _ _ _ st5=>?_)
 have st6:=st5.gn
 refine st6.segA 1 [] [(6,0)] (λ _ _ st7=>wpList_nil (za (wp_ret ?_)))
 have st8:=st7.unm (s:=6) 0 rfl rfl iI [] rfl
 exact st8.rnO 0 rfl rfl iI (bx1 h)
def yS(x0:Machine)(x1:Int)(x2:Str):Option Machine:=
(appO 24 x0.log ([(⟨x1,x2⟩:GEvent)]:List GEvent)).bind λ v7=>
some ({ x0 with log:=v7 })
theorem jV{ps:List (Nat×Nat)}{x0:Machine}{x1:Int}{x2:Str}{r:Machine}(h:yS x0 x1 x2=some r):FnS prog 111 (oMac ps) ⟨x0⟩ [dt x1,dt x2] ⟨r⟩ .gone:=by
 unfold yS at h
 refine fnSB (fn:=f111) 0 2 func111 rfl (oD rfl) rfl (λ M G _ b0 _ st0=>wp_region_list ?_)
 refine st0.hdR (s:=0) 0 true (λ _=>((PV.root.box rfl).fld owMachine.f6)) rfl rfl iI [] rfl (λ g1 A1 _ hA1 st1=>?_)
 refine st1.segB 9 (sP 7 (r:=by exact sc rfl (zY (parts:=[(0,.tmp 11),(1,.tmp 12)]) (ns:=[1,1]) (zs:=zpGEvent) rfl rfl kB44 kC44 (λ w a hl=>by
 intro p hp;simp only[List.mem_cons,List.not_mem_nil,or_false] at hp
 rcases hp with rfl | rfl
 ·
  exact⟨by decide,Rep.len (α:=Int) (OpdR.cells (tp rfl) hl)⟩
 ·
  exact⟨by decide,Rep.len (α:=Str) (OpdR.cells (tp rfl) hl)⟩) (λ w a hl=>GEvent.parts (x:=(⟨x1,x2⟩:GEvent)) (OpdR.cells (tp rfl) hl) (OpdR.cells (tp rfl) hl)))<|segC)) [6,10,14] [(0,0)] (λ _ _ st2=>?_)
 refine st2.mvG (s:=10) (sb:=0) 0 1 ((PV.root.box rfl).fld owMachine.f6) (.head _) rfl (yv rfl rfl) rfl (by simp) (by simp) (by decide) rfl iI [6,14] rfl [] rfl rfl rfl rfl (λ _ H4 st4=>?_)
 refine st4.tipR (s:=10) 1 rfl rfl (by simp) iI [0] rfl rfl (λ g5 st5=>?_)
 obtain⟨v7,p7,h8⟩:=bs h
 refine st5.app 1 rfl rfl kE30 rfl rfl rfl wE p7 [6] rfl [0] rfl rfl (λ g6 _ _ _ st6=>?_)
 refine st6.segC 2 [17] [(0,0),(15,1)] (λ _ _ st9=>?_)
 have st11:=st9.tipW (s:=15) 1 rfl rfl iI [0] rfl
 refine st11.stH (sb:=0) (tv:=15) 0 1 rfl rfl rfl kT30 (by simp) (by simp) (by decide) (tp rfl) rfl rfl iI iI [] rfl [] rfl rfl rfl (λ _ _ st10=>wpList_nil ?_)
 exact(st10.rs0 (s:=0) 0 rfl rfl iI (bx1 h8)).2
open Go.RowKit Tryz
set_option maxRecDepth 10000
set_option maxHeartbeats 1600000
theorem kB118:bldB prog 118 [1,2]=true:=by kernel_rfl
theorem kC118:j7 prog 118 [1,2]=some zpGAttr:=by kernel_rfl
theorem kY47:zlB prog 47=true:=by kernel_rfl
theorem kE47:elB prog 47 118 3 32=true:=by kernel_rfl
theorem kF49_4:fldB prog 49 4 4=true:=by kernel_rfl
theorem kF108_7:fldB prog 108 7 7=true:=by kernel_rfl
theorem kT45:tyB prog 45 false 1=true:=by kernel_rfl
theorem kN122:fnB prog 122=true:=by kernel_rfl
theorem kF108_0:fldB prog 108 0 0=true:=by kernel_rfl
theorem kF108_1:fldB prog 108 1 1=true:=by kernel_rfl
theorem kF108_2:fldB prog 108 2 2=true:=by kernel_rfl
theorem kT105:tyB prog 105 false 1=true:=by kernel_rfl
theorem kN68:fnB prog 68=true:=by kernel_rfl
theorem kF49_2:fldB prog 49 2 2=true:=by kernel_rfl
theorem kN110:fnB prog 110=true:=by kernel_rfl
instance iF108_4MaB:FldO prog 108 4 4:=⟨Ye⟩
instance iF108_7MaB:FldO prog 108 7 7:=⟨kF108_7⟩
instance iF118_0MaB:FldO prog 118 0 0:=⟨kF118_0⟩
instance iF49_0MaB:FldO prog 49 0 0:=⟨Xj⟩
instance iF49_5MaB:FldO prog 49 5 5:=⟨XS⟩
def xF(x0:GMod)(x1:Str)(x2:GVal)(s6:GMod×Int):Option ((GMod×Int)⊕(GMod⊕GMod)):=
if(cmpI .lss s6.2 (x0.attrs.length:Int))=true then((atI s6.1.attrs s6.2).bind λ v13=>
if(decide (v13.name=x1))=true then((atI s6.1.attrs s6.2).bind λ v20=>
some (.inr (.inr ({ s6.1 with attrs:=(s6.1.attrs.set s6.2.toNat ({ v20 with value:=x2 })) }))))
else((i64 (s6.2+(1:Int))).bind λ v26=>
some (.inl (s6.1,v26))))
else(some (.inr (.inl s6.1)))
def yj(x0:GMod)(x1:Str)(x2:GVal):Option GMod:=
Option.bind (α:=GMod⊕GMod) (zU (λ s6=>xF x0 x1 x2 s6) (x0,(0:Int))) (Sum.elim (λ b2=>
(appO 32 b2.attrs ([(⟨x1,x2⟩:GAttr)]:List GAttr)).bind λ v39=>
some ({ b2 with attrs:=v39 })) some)
theorem jA{x0:GMod}{x1:Str}{x2:GVal}{r:GMod}(h:yj x0 x1 x2=some r):FnS prog 109 (Ow.box (owGModR oAtt)) ⟨x0⟩ [dt x1,dt x2] ⟨r⟩ .gone:=by
 unfold yj at h
 refine fnSB (fn:=f109) 0 2 func109 rfl (oD rfl) rfl (λ M G w0 b0 _ st0=>?_)
 refine st0.sqA [1,5] [(0,0)] (λ _ _ st1=>?_)
 obtain⟨o2,p2,k2⟩:=bs h
 refine zj (λ a w=>∃ b2,o2=.inl b2/\(∃ M1 q2_0 q2_1,Sx (Frm.chg w0 G) 46 M M1 [q2_0,q2_1] [(1,dt x1),(5,dptr x2)] [(0,0,dnm (Ow.box (owGModR oAtt)) q2_0 ⟨b2⟩ (.pointer (some ⟨b0,0,none⟩)) [])] a w)) ?_ ?_
 ·
  refine st1.hdR (s:=0) 0 true (λ _=>((PV.root.box rfl).fld owGModR.f5)) rfl rfl iI [] rfl (λ g3 A3 _ hA3 st3=>?_)
  refine st3.sqB (sP 4 (r:=by exact sc rfl (xLe rfl kL47 (tp rfl))<|segC)) [1,5,11,12] [(0,0)] (λ _ _ st4=>?_)
  have st5:=st4.ncf (s:=0) 0 rfl rfl iI [] rfl
  refine wp_block ?_
  refine zH p2 (λ s6 a w=>∃ M1 q6_0 q6_1,Sx (Frm.chg w0 G) 46 M M1 [q6_0,q6_1] [(1,dt x1),(5,dptr x2),(11,dt (x0.attrs.length:Int)),(12,dt s6.2)] [(0,0,dnm (Ow.box (owGModR oAtt)) q6_0 ⟨s6.1⟩ (.pointer (some ⟨b0,0,none⟩)) [])] a w) fx ?_
  rintro s6 z6 a6 w6 ⟨M6,q6_0,q6_1,st6⟩ hs6 hx6
  have h7:xF x0 x1 x2 s6=some z6:=hs6
  unfold xF at h7
  refine st6.sqA [1,5,11,12,13] [(0,0)] (λ _ _ st8=>wp_seq ?_)
  refine st8.cs rfl h7 (λ _ h9=>wp_skip (za (wp_seq (wp_block ?_)))) (λ _ h10=>wp_exit (zi (zi (zF ?_))))
  ·
   refine st8.sqA [1,5,6,11,12] [(0,0)] (λ _ _ st11=>?_)
   obtain⟨v13,p13,h14⟩:=bs h9
   refine st11.hdR (s:=0) 0 true (λ _=>((PV.root.box rfl).fld owGModR.f5)) rfl rfl iI [] rfl (λ g12 A12 _ hA12 st12=>?_)
   refine st12.sqB (sP 5 (r:=by exact sc rfl (xIa (g:=g12) rfl kS47 (tp rfl) (tp rfl) rfl (λ h=>hA12 h rfl) p13)<|sP 1 (r:=by exact sc rfl (xLf (sb:=0) ((((PV.root.box rfl).fld owGModR.f5).row (.head _) rfl (λ h=>hA12 h rfl) p13).fld GAttr.z0) rfl kT9 (tp rfl) rfl)<|segC))) [1,5,6,11,12,24] [(0,0)] (λ _ _ st15=>?_)
   have st16:=st15.ncf (s:=0) 0 rfl rfl iI [] rfl
   refine st16.cs rfl h14 (λ _ h17=>wp_seq ?_) (λ _ h18=>wp_skip (zf (za ?_)))
   ·
    obtain⟨v20,p20,h21⟩:=bs h17
    refine st16.hdR (s:=0) 0 true (λ _=>((PV.root.box rfl).fld owGModR.f5)) rfl rfl iI [] rfl (λ g19 A19 _ hA19 st19=>?_)
    refine st19.drn (D:=[_,_,_,_,_,_,_,_]) zv 8 [[],[0],[0,1],[0,1,2],[],[],[0,1,2,3,4,5],[0,1,2,3,4,5,6],[0,1,2,3,4,5,6,7]] [[(0,none)],[(25,some 0)],[(26,some 1)],[(27,some 2),(0,none)],[(6,none)],[(5,none)],[(28,some 3),(29,some 4)],[(31,some 6)],[(32,some 7),(30,some 5)]] (by decide +kernel) (by decide) (
     rc rfl rfl (oM rfl (zL rfl))<|rc rfl rfl (xNc rfl (tp rfl))<|rc rfl rfl (xFa rfl XS (tp rfl))<|rc rfl rfl (xLc (sb:=0) (.head _) rfl rfl rfl kT47 (tp rfl) rfl)<|rc rfl rfl (oM rfl (tp rfl))<|rc rfl rfl (zn rfl qm (tp rfl))<|rc rfl rfl (xIa (g:=g19) rfl kS47 (tp rfl) (tp rfl) rfl (λ h=>hA19 h rfl) p20)<|rc rfl rfl (xFa rfl QS (tp rfl))<|.nil) [30,32] rfl [(0,0)] rfl iT (λ _ _ st22=>?_)
    refine st22.stF (sb:=0) 0 ((((PV.root.box rfl).fld owGModR.f5).row (.head _) rfl (λ h=>hA19 h rfl) p20).fld GAttr.z1) rfl rfl rfl qm (by simp) (tp rfl) (tp rfl) rfl rfl iI [] rfl [] rfl rfl (λ _ st23=>wpList_nil (za ?_))
    refine wp_ret (zl (zd (zd (zl (zd ?_)))))
    have h24:=lo h21 hx6
    have h25:=jo h24 k2
    exact(st23.rs0 (s:=0) 0 rfl rfl iI (bx1 h25)).1
   obtain⟨v26,p26,h27⟩:=bs h18
   refine st16.rgA [1,5,11,12] [(0,0)] (λ _ _ st28=>za ?_)
   exact fl h27
  refine za ?_
  have h29:=lo h10 hx6
  exact fl h29
 rintro a2 w2 ⟨b2,rfl,⟨M2,q2_0,q2_1,st2⟩⟩
 have h30:=jn k2
 refine st2.held (λ _=>True) zv (λ _ st31=>?_)
 refine st31.tkN (i:=0) (sb:=0) rfl rfl (by decide +kernel) (by decide +kernel) (by decide +kernel) (λ _ _ _ _ h=>h) trivial rfl rfl rfl (λ _ st32=>?_)
 refine st32.hdR (s:=0) 0 true (λ _=>((PV.root.box rfl).fld owGModR.f5)) rfl rfl iI [] rfl (λ g33 A33 _ hA33 st33=>?_)
 refine st33.drnE (D:=[_,_,_,_,_,_,_,_,_]) 9 [0] [[],[0],[0,1],[0,1,2],[0,1,2,3],[0],[0],[0,5,6],[0,5,6,7],[0,1,2,3,4,5,6,7,8],[0,1,2,3,4,5,6,7,8,9],[0,1,2,3,4,5,6,7,8,9,10],[0,1,2,3,4,5,6,7,8,9,10,11]] [[(0,none)],[(0,none)],[(35,some 1)],[(36,some 2)],[(37,some 3),(0,none)],[(1,none)],[(5,none)],[(39,some 5),(40,some 6)],[(41,some 7)],[(38,some 4),(42,some 8)],[(34,some 0)],[(44,some 10)],[(45,some 11),(43,some 9)]] (by decide +kernel) (by decide) (by decide +kernel) (by decide +kernel) (
  rc rfl rfl (oM rfl (zL rfl))<|rc rfl rfl (oM rfl (zL rfl))<|rc rfl rfl (xNc rfl (tp rfl))<|rc rfl rfl (xFa rfl XS (tp rfl))<|rc rfl rfl (xLc (sb:=0) (.head _) rfl rfl rfl kT47 (tp rfl) rfl)<|rc rfl rfl (oM rfl (tp rfl))<|rc rfl rfl (zn rfl qm (tp rfl))<|rc rfl rfl (zY (parts:=[(0,.tmp 39),(1,.tmp 40)]) (ns:=[1,2]) (zs:=zpGAttr) rfl rfl kB118 kC118 (λ w a hl=>by
 intro p hp;simp only[List.mem_cons,List.not_mem_nil,or_false] at hp
 rcases hp with rfl | rfl
 ·
  exact⟨by decide,Rep.len (α:=Str) (OpdR.cells (tp rfl) hl)⟩
 ·
  exact⟨by decide,Rep.len (α:=GVal) (OpdR.cells (tp rfl) hl)⟩) (λ w a hl=>GAttr.parts (x:=(⟨x1,x2⟩:GAttr)) (OpdR.cells (tp rfl) hl) (OpdR.cells (tp rfl) hl)))<|rc rfl rfl (yy (opds:=[.tmp 41]) rfl kS47 kY47 rfl rfl (by decide) (.cons (tp rfl) .nil))<|.nil) (by
 intro i hi x d hx
 simp only[List.mem_cons,List.not_mem_nil,or_false] at hi
 rcases hi with rfl
 all_goals (injection hx with hx;injection hx with h1 h2;subst h1;subst h2;rfl)) [34,38,42] rfl [(0,0)] rfl iT (λ _ _ st34=>?_)
 refine st34.mvG (s:=38) (sb:=0) 0 1 ((PV.root.box rfl).fld owGModR.f5) (.head _) rfl (yv rfl rfl) rfl (by simp) (by simp) (by decide) rfl iI [34,42] rfl [] rfl rfl rfl rfl (λ _ H36 st36=>?_)
 refine st36.tipR (s:=38) 1 rfl rfl (by simp) iI [0] rfl rfl (λ g37 st37=>?_)
 obtain⟨v39,p39,h40⟩:=bs h30
 refine st37.app 1 rfl rfl kE47 rfl rfl rfl wE p39 [34] rfl [0] rfl rfl (λ g38 _ _ _ st38=>?_)
 refine st38.segC 2 [45] [(0,0),(43,1)] (λ _ _ st41=>?_)
 have st43:=st41.tipW (s:=43) 1 rfl rfl iI [0] rfl
 refine st43.stH (sb:=0) (tv:=43) 0 1 rfl rfl rfl kT47 (by simp) (by simp) (by decide) (tp rfl) rfl rfl iI iI [] rfl [] rfl rfl rfl (λ _ _ st42=>wpList_nil ?_)
 exact(st42.rs0 (s:=0) 0 rfl rfl iI (bx1 h40)).2
def wG(x0:Machine)(x1:Int):Option (Machine×Int):=
(atI x0.modules x1).bind λ _v3=>
(x0.modules[x1.toNat]?).bind λ v8=>
(yS x0 (3:Int) v8.x.name).bind λ v12=>
Option.bind (α:=Machine) ((v12.modules[x1.toNat]?).bind λ v15=>
(gO ((!v15.x.done) == true) (v12.modules[x1.toNat]?)).bind λ v17=>
(gO ((!v15.x.done) == true) (ym v12.part v17.x.name)).bind λ v18=>
if((!v15.x.done)&&(!v18))=true then((v12.modules[x1.toNat]?).bind λ v29=>
(appO 16 v12.part ([v29.x.name]:List Str)).bind λ v36=>
some ({ v12 with part:=v36 }))
else(some v12)) λ o14=>
some (o14,x1)
theorem Xl{ps:List (Nat×Nat)}{x0:Machine}{x1:Int}{r:Machine×Int}(h:wG x0 x1=some r):FnS prog 108 (oMac ps) ⟨x0⟩ [dt x1] ⟨r.1⟩ (.frz (dt r.2)):=by
 unfold wG at h
 refine fnSB (fn:=f108) 0 2 func108 rfl (oD rfl) rfl (λ M G w0 b0 _ st0=>?_)
 refine st0.sqA [1] [(0,0)] (λ _ _ st1=>?_)
 obtain⟨v3,p3,h5⟩:=bs h
 refine st1.hdF (s:=0) 0 true (λ _=>((PV.root.box rfl).fld owMachine.f4)) rfl rfl iI [] rfl (λ g2 A2 _ hA2 st2=>?_)
 refine st2.mintP (s:=0) 0 rfl rfl iI (qg (owMachine.impE4 (qK (zw (yn p3).2)))) [] rfl (λ b4 st4=>?_)
 refine st4.sqB (sP 5 (r:=by exact sc rfl (xIa (g:=g2) rfl X9 (tp rfl) (tp rfl) rfl (λ h=>hA2 h rfl) p3)<|sc rfl (xLdP (sb:=0) ((PV.root.box rfl).fld owMachine.f4) (.head _) rfl (λ h=>hA2 h rfl) (.head _) (yn p3).2 (Nat.mul_one _) rfl Y0 (tp rfl) rfl)<|segC)) [1,5] [(0,0)] (λ _ _ st6=>?_)
 have st7:=st6.ncf (s:=0) 0 rfl rfl iI [] rfl
 refine wp_seq (wp_region_list ?_)
 obtain⟨v8,p8,h9⟩:=bs h5
 refine st7.segB 5 (sP 4 (r:=by exact sc rfl (xLf (sb:=0) ((((PV.root.box rfl).fld owMachine.f4).rowP (.head _) p8).fld owGModR.f0) rfl kT9 (tp rfl) rfl)<|.nil)) [1,5,13,17] [(0,0)] (λ _ _ st10=>?_)
 obtain⟨v12,p12,h13⟩:=bs h9
 refine st10.cNA 0 0 (FnS.any (jV p12)) [1,5] [] (λ _ _ _ _ st11=>wpList_nil (za ?_))
 obtain⟨o14,p14,k14⟩:=bs h13
 refine zj (λ a w=>∃ M1 q14_0 q14_1,Sx (Frm.chg w0 G) 50 M M1 [q14_0,q14_1] [(1,dt x1)] [(0,0,dnm (oMac ((x1.toNat,b4)::ps)) q14_0 ⟨o14⟩ (.pointer (some ⟨b0,0,none⟩)) [])] a w) ?_ ?_
 ·
  refine wp_seq ?_
  obtain⟨v15,p15,v17,p17,v18,p18,h21⟩:=bsC p14
  refine st11.hdR (s:=0) 0 ((!v15.x.done) == true) (λ hg=>((PV.root.box rfl).fld owMachine.f7)) rfl rfl iI [] rfl (λ g16 A16 _ hA16 st16=>?_)
  refine st16.dr (D:=[_,_,_,_,_,_,_,_,_,_,_,_,_,_,_,_,_]) zv [[],[0],[0,1],[0,1,2],[0,1,2,3],[0,1,2,3,4],[0,1,2,3,4,5],[0,1,2,3,4,5,6],[0,1,2,3,4,5,6,7],[0,1,2,3,4,5,6,7,8],[0,1,2,3,4,5],[0,1,2,3,4,5,10],[0,1,2,3,4,5,10,11],[0,1,2,3,4,5,10,11,12],[0,1,2,3,4,5,6,7,8,9,10,11,12,13],[0,1,2,3,4,5,6,7,8,9,10,11,12,13,14],[0,1,2,3,4,5,6,7,8,9,10,11,12,13,14,15]] [[(5,none)],[(19,some 0)],[(20,some 1),(0,none)],[(21,some 2),(0,none)],[(22,some 3)],[(23,some 4)],[(0,none),(24,some 5)],[(25,some 6),(24,some 5)],[(26,some 7),(24,some 5)],[(27,some 8),(24,some 5),(0,none)],[(5,none),(24,some 5)],[(29,some 10),(24,some 5)],[(30,some 11),(24,some 5),(0,none)],[(31,some 12),(24,some 5),(0,none)],[(28,some 9),(32,some 13),(24,some 5),(0,none)],[(33,some 14),(24,some 5)],[(24,some 5),(34,some 15)]] (by decide +kernel) (
   rc rfl rfl (oM rfl (tp rfl))<|rc rfl rfl (xNc rfl (tp rfl))<|rc rfl rfl (xFa rfl kF49_4 (tp rfl))<|rc rfl rfl (xLf (sb:=0) ((((PV.root.box rfl).fld owMachine.f4).rowP (.head _) p15).fld owGModR.f4) rfl kT4 (tp rfl) rfl)<|rc rfl rfl (xZ rfl (tp rfl))<|rc rfl rfl (oM rfl (tp rfl))<|rg rfl rfl rfl (λ hg=>oM rfl (zL rfl))<|rg rfl rfl rfl (λ hg=>xNc rfl (ze hg rfl))<|rg rfl rfl rfl (λ hg=>xFa rfl kF108_7 (ze hg rfl))<|rg rfl rfl rfl (λ hg=>xLc (sb:=0) (.head _) hg rfl rfl kT45 (ze hg rfl) rfl)<|rg rfl rfl rfl (λ hg=>oM rfl (tp rfl))<|rg rfl rfl rfl (λ hg=>xNc rfl (ze hg rfl))<|rg rfl rfl rfl (λ hg=>xFa rfl Xj (ze hg rfl))<|rg rfl rfl rfl (λ hg=>xLf (sb:=0) ((((PV.root.box rfl).fld owMachine.f4).rowP (.head _) (gh hg p17)).fld owGModR.f0) rfl kT9 (ze hg rfl) rfl)<|rg rfl rfl rfl (λ hg=>xU (l:=[.tmp 28,.tmp 32]) st16.ob.sub rfl kN122 (.cons (lendP (sb:=0) st16.ob 0 ((PV.root.box rfl).fld owMachine.f7) (.head _) hg (yv rfl rfl) (ze hg rfl) rfl iI) (.cons (jQ st16.ob.sub (ze hg rfl)) .nil)) (Yk (gh hg p18)) Y5)<|rg rfl rfl rfl (λ hg=>xZ rfl (ze hg rfl))<|rc rfl rfl (yN rfl (tp rfl) (zb rfl))<|.nil) [1,5,35] rfl [(0,0)] rfl iT (λ _ _ st22=>?_)
  have st23:=st22.ncf (s:=0) 0 rfl rfl iI [] rfl
  refine za ?_
  refine st23.cs rfl h21 (λ _ h24=>?_) (λ _ h25=>?_)
  ·
   refine st23.held (λ _=>True) zv (λ _ st26=>?_)
   refine st26.tkN (i:=0) (sb:=0) rfl rfl (by decide +kernel) (by decide +kernel) (by decide +kernel) (λ _ _ _ _ h=>h) trivial rfl rfl rfl (λ _ st27=>?_)
   obtain⟨v29,p29,h30⟩:=bs h24
   refine st27.hdR (s:=0) 0 true (λ _=>((PV.root.box rfl).fld owMachine.f7)) rfl rfl iI [] rfl (λ g28 A28 _ hA28 st28=>?_)
   refine st28.drnE (D:=[_,_,_,_,_,_,_,_,_,_]) 10 [0] [[],[0],[0,1],[0,1,2],[0,1,2,3],[0],[0,5],[0,5,6],[0,5,6,7],[0,5,6,7,8],[0,1,2,3,4,5,6,7,8,9],[0,1,2,3,4,5,6,7,8,9,10],[0,1,2,3,4,5,6,7,8,9,10,11],[0,1,2,3,4,5,6,7,8,9,10,11,12]] [[(0,none)],[(0,none)],[(37,some 1)],[(38,some 2)],[(39,some 3),(0,none)],[(5,none)],[(41,some 5)],[(42,some 6),(0,none)],[(43,some 7),(0,none)],[(44,some 8)],[(40,some 4),(45,some 9)],[(36,some 0)],[(47,some 11)],[(48,some 12),(46,some 10)]] (by decide +kernel) (by decide) (by decide +kernel) (by decide +kernel) (
    rc rfl rfl (oM rfl (zL rfl))<|rc rfl rfl (oM rfl (zL rfl))<|rc rfl rfl (xNc rfl (tp rfl))<|rc rfl rfl (xFa rfl kF108_7 (tp rfl))<|rc rfl rfl (xLc (sb:=0) (.head _) rfl rfl rfl kT45 (tp rfl) rfl)<|rc rfl rfl (oM rfl (tp rfl))<|rc rfl rfl (xNc rfl (tp rfl))<|rc rfl rfl (xFa rfl Xj (tp rfl))<|rc rfl rfl (xLf (sb:=0) ((((PV.root.box rfl).fld owMachine.f4).rowP (.head _) p29).fld owGModR.f0) rfl kT9 (tp rfl) rfl)<|rc rfl rfl (yy (opds:=[.tmp 44]) rfl kS45 kY45 rfl rfl (by decide) (.cons (tp rfl) .nil))<|.nil) (by
 intro i hi x d hx
 simp only[List.mem_cons,List.not_mem_nil,or_false] at hi
 rcases hi with rfl
 all_goals (injection hx with hx;injection hx with h1 h2;subst h1;subst h2;rfl)) [1,36,40,45] rfl [(0,0)] rfl iT (λ _ _ st31=>?_)
   refine st31.mvG (s:=40) (sb:=0) 0 1 ((PV.root.box rfl).fld owMachine.f7) (.head _) rfl (yv rfl rfl) rfl (by simp) (by simp) (by decide) rfl iI [1,36,45] rfl [] rfl rfl rfl rfl (λ _ H33 st33=>?_)
   refine st33.tipR (s:=40) 1 rfl rfl (by simp) iI [0] rfl rfl (λ g34 st34=>?_)
   obtain⟨v36,p36,h37⟩:=bs h30
   refine st34.app 1 rfl rfl kE45 rfl rfl rfl wE p36 [1,36] rfl [0] rfl rfl (λ g35 _ _ _ st35=>?_)
   refine st35.segC 2 [1,48] [(0,0),(46,1)] (λ _ _ st38=>?_)
   have st40:=st38.tipW (s:=46) 1 rfl rfl iI [0] rfl
   refine st40.stH (sb:=0) (tv:=46) 0 1 rfl rfl rfl kT45 (by simp) (by simp) (by decide) (tp rfl) rfl rfl iI iI [1] rfl [] rfl rfl rfl (λ _ _ st39=>wpList_nil (za ?_))
   cases h37
   exact fx
  refine wp_skip (za ?_)
  cases h25
  exact fx
 rintro a14 w14 ⟨M14,q14_0,q14_1,st14⟩
 have h41:=k14
 refine st14.sqA [4] [(0,0)] (λ _ _ st42=>wp_ret ?_)
 have st43:=st42.asO (s:=0) 0 rfl rfl iI (xt (owMachine.imp4 (yY (λ _ h=>(.tail _ h))))) [] rfl
 exact st43.rsF (s:=0) 0 rfl rfl rfl iI (bxr h41) zX
def yz(x0:Machine)(x1:Str):Option (Machine×Spec):=
(yA x1).bind λ v3=>
if(decide (v3=(⟨[]⟩:Str)))=true then((Zh x0.t x0.path (⟨[]⟩:Str) x1).bind λ v9=>
some (x0,v9))
else((zV x0 v3).bind λ v14=>
(gO (cmpI .lss v14 (0:Int) == false) (atI x0.modules v14)).bind λ _v18=>
(gO (cmpI .lss v14 (0:Int) == false) (x0.modules[v14.toNat]?)).bind λ v20=>
if(cmpI .lss v14 (0:Int)||cmpI .eql v20.x.kind (1:Int))=true then((wT).bind λ v27=>
some (x0,v27))
else((atI x0.modules v14).bind λ _v34=>
(x0.modules[v14.toNat]?).bind λ v36=>
(jq x1).bind λ v37=>
(Zh x0.t v36.x.roots v3 v37).bind λ v38=>
some (x0,v38)))
theorem ZD{ps:List (Nat×Nat)}{x0:Machine}{x1:Str}{r:Machine×Spec}(h:yz x0 x1=some r):FnS prog 70 (oMac ps) ⟨x0⟩ [dt x1] ⟨r.1⟩ (.frz (dt r.2)):=by
 unfold yz at h
 refine fnSB (fn:=f70) 0 2 func70 rfl (oD rfl) rfl (λ M G _ b0 _ st0=>wp_seq (wp_region_list ?_))
 refine st0.alloc 1 rfl rfl kZ52 Yv (by simp) [1] rfl [0] rfl rfl (λ b2 _ _ _ st2=>wpList_nil (za ?_))
 obtain⟨v3,p3,h4⟩:=bsW h jh
 refine st2.sqA [1,5] [(0,0),(4,1)] (λ _ _ st5=>wp_seq ?_)
 refine st5.sqA [1,5,10] [(0,0),(4,1)] (λ _ _ st6=>?_)
 refine st6.cs rfl h4 (λ _ h7=>wp_seq ?_) (λ _ h8=>wp_skip (za ?_))
 ·
  obtain⟨v9,p9,h10⟩:=bs h7
  refine st6.drn (D:=[_,_,_,_,_,_,_,_,_,_,_,_,_,_]) zv 14 [[],[0],[0,1],[0,1,2],[],[4],[4,5],[4,5,6],[],[],[9],[9,10],[9,10,11],[0,1,2,3,4,5,6,7,8,9,10,11,12],[0,1,2,3,4,5,6,7,8,9,10,11,12,13]] [[(0,none)],[(11,some 0)],[(12,some 1)],[(13,some 2),(0,none)],[(0,none)],[(15,some 4)],[(16,some 5)],[(17,some 6),(0,none)],[(1,none)],[(0,none)],[(20,some 9)],[(21,some 10)],[(22,some 11),(0,none)],[(14,some 3),(18,some 7),(19,some 8),(23,some 12)],[(4,none),(24,some 13)]] (by decide +kernel) (by decide) (
   rc rfl rfl (oM rfl (zL rfl))<|rc rfl rfl (xNc rfl (tp rfl))<|rc rfl rfl (xFa rfl kF108_0 (tp rfl))<|rc rfl rfl (xLf (sb:=0) ((PV.root.box rfl).fld owMachine.f0) rfl kT25 (tp rfl) rfl)<|rc rfl rfl (oM rfl (zL rfl))<|rc rfl rfl (xNc rfl (tp rfl))<|rc rfl rfl (xFa rfl kF108_1 (tp rfl))<|rc rfl rfl (xLf (sb:=0) ((PV.root.box rfl).fld owMachine.f1) rfl kT26 (tp rfl) rfl)<|rc rfl rfl (oM rfl (tp rfl))<|rc rfl rfl (oM rfl (zL rfl))<|rc rfl rfl (xNc rfl (tp rfl))<|rc rfl rfl (xFa rfl kF108_2 (tp rfl))<|rc rfl rfl (OpRel.nilf (xLf (sb:=0) ((PV.root.box rfl).fld owMachine.f2) rfl kT105 (tp rfl) rfl))<|rc rfl rfl (zD (l:=[.tmp 14,.tmp 18,_,.tmp 19,.tmp 23]) rfl kN85 (.cons (tp rfl) (.cons (tp rfl) (.cons (zO (by decide)) (.cons (tp rfl) (.cons (tp rfl) .nil))))) (Jj p9))<|.nil) [24] rfl [(0,0),(4,1)] rfl ⟨iI,iT⟩ (λ _ _ st11=>?_)
  refine st11.store (sb:=4) 1 FldS.id rfl rfl rfl kT52 rfl rfl (tp rfl) rfl [] rfl [0] rfl rfl (λ _ _ st13=>wpList_nil (za ?_))
  refine wp_ret (zd ?_)
  exact st13.rsC (s:=0) 0 rfl kT52 rfl rfl iI (bxr h10)
 obtain⟨v14,p14,h15⟩:=bs h8
 refine st6.sqB (sP 2 (r:=by exact sc rfl (xU (l:=[.tmp 25,.tmp 26]) st6.ob.sub rfl kN68 (.cons (lendA (sb:=0) st6.ob 0 (tp rfl) rfl iI) (.cons (jQ st6.ob.sub (tp rfl)) .nil)) (yI p14) zX)<|segC)) [1,5,6] [(0,0),(4,1)] (λ _ _ st16=>wp_seq ?_)
 obtain⟨v18,p18,v20,p20,h22⟩:=bsB h15
 refine st16.hdF (s:=0) 0 (cmpI .lss v14 (0:Int) == false) (λ hg=>((PV.root.box rfl).fld owMachine.f4)) rfl rfl iI [4] rfl (λ g17 A17 _ hA17 st17=>?_)
 refine st17.mintP (s:=0) 0 rfl rfl iI (qg (owMachine.impE4 (impE_pinI (c:=(cmpI .lss v14 (0:Int) == false)) (λ hg=>zw (yn (gh hg p18)).2)))) [4] rfl (λ b19 st19=>?_)
 refine st19.sqB (sc rfl (oM rfl (tp rfl))<|sc rfl (oCI rfl (tp rfl) cI)<|sc rfl (oM rfl (tp rfl))<|sg rfl rfl (λ hg=>oM rfl (zL rfl))<|sg rfl rfl (λ hg=>xNc rfl (ze hg rfl))<|sg rfl rfl (λ hg=>xFa rfl Ye (ze hg rfl))<|sg rfl rfl (λ hg=>xLc (sb:=0) (.head _) hg rfl rfl kT106 (ze hg rfl) rfl)<|sg rfl rfl (λ hg=>oM rfl (tp rfl))<|sg rfl rfl (λ hg=>xIa (g:=g17) rfl X9 (ze hg rfl) (ze hg rfl) rfl (λ h=>hA17 h hg) (gh hg p18))<|sg rfl rfl (λ hg=>xLdP (sb:=0) ((PV.root.box rfl).fld owMachine.f4) (.head _) hg (λ h=>hA17 h hg) (pinI_at hg) (yn (gh hg p18)).2 (Nat.mul_one _) rfl Y0 (ze hg rfl) rfl)<|sg rfl rfl (λ hg=>xNc rfl (ze hg rfl))<|sg rfl rfl (λ hg=>xFa rfl zap (ze hg rfl))<|sg rfl rfl (λ hg=>xLf (sb:=0) ((((PV.root.box rfl).fld owMachine.f4).rowP (pinI_at hg) (gh hg p20)).fld owGModR.f1) rfl kT3 (ze hg rfl) rfl)<|sg rfl rfl (λ hg=>oCI rfl (ze hg rfl) cI)<|sc rfl (x8 rfl (tp rfl) (zb rfl))<|.nil) [1,5,6,42] [(0,0),(4,1)] (λ _ _ st23=>?_)
 have st24:=st23.ncf (s:=0) 0 rfl rfl iI [4] rfl
 refine st24.cs rfl h22 (λ _ h25=>wp_seq (wp_region_list ?_)) (λ _ h26=>wp_skip (za (wp_seq ?_)))
 ·
  obtain⟨v27,p27,h28⟩:=bsW h25 Zg
  refine st24.segA 1 [43] [(0,0),(4,1)] (λ _ _ st29=>?_)
  refine st29.store (sb:=4) 1 FldS.id rfl rfl rfl kT52 rfl rfl (tp rfl) rfl [] rfl [0] rfl rfl (λ _ _ st31=>wpList_nil (za ?_))
  refine wp_ret (zd ?_)
  have st32:=st31.asO (s:=0) 0 rfl rfl iI (xt (owMachine.imp4 (yY (λ _ h=>(pinI_of h))))) [4] rfl
  exact st32.rsC (s:=0) 0 rfl kT52 rfl rfl iI (bxr h28)
 obtain⟨v34,p34,v36,p36,v37,p37,v38,p38,h42⟩:=bsD h26
 refine st24.hdF (s:=0) 0 true (λ _=>((PV.root.box rfl).fld owMachine.f4)) rfl rfl iI [4] rfl (λ g33 A33 _ hA33 st33=>?_)
 refine st33.mintP (s:=0) 0 rfl rfl iI (qg (owMachine.impE4 (qK (zw (yn p34).2)))) [4] rfl (λ b35 st35=>?_)
 refine st35.drn (D:=[_,_,_,_,_,_,_,_,_,_,_,_,_,_,_,_,_,_,_,_,_,_]) zv 22 [[],[0],[0,1],[0,1,2],[],[4],[4,5],[4,5,6],[],[4,5,6,7,8],[4,5,6,7,8,9],[4,5,6,7,8,9,10],[4,5,6,7,8,9,10,11],[4,5,6,7,8,9,10,11,12],[],[],[15],[],[17],[17,18],[17,18,19],[0,1,2,3,4,5,6,7,8,9,10,11,12,13,14,15,16,17,18,19,20],[0,1,2,3,4,5,6,7,8,9,10,11,12,13,14,15,16,17,18,19,20,21]] [[(0,none)],[(44,some 0)],[(45,some 1)],[(46,some 2),(0,none)],[(0,none)],[(48,some 4)],[(49,some 5)],[(50,some 6),(0,none)],[(6,none)],[(51,some 7),(52,some 8)],[(53,some 9),(0,none)],[(54,some 10)],[(55,some 11),(0,none)],[(56,some 12),(0,none)],[(5,none)],[(1,none)],[(59,some 15)],[(0,none)],[(61,some 17)],[(62,some 18)],[(63,some 19),(0,none)],[(47,some 3),(57,some 13),(58,some 14),(60,some 16),(64,some 20)],[(4,none),(65,some 21)]] (by decide +kernel) (by decide) (
  rc rfl rfl (oM rfl (zL rfl))<|rc rfl rfl (xNc rfl (tp rfl))<|rc rfl rfl (xFa rfl kF108_0 (tp rfl))<|rc rfl rfl (xLf (sb:=0) ((PV.root.box rfl).fld owMachine.f0) rfl kT25 (tp rfl) rfl)<|rc rfl rfl (oM rfl (zL rfl))<|rc rfl rfl (xNc rfl (tp rfl))<|rc rfl rfl (xFa rfl Ye (tp rfl))<|rc rfl rfl (xLc (sb:=0) (.head _) rfl rfl rfl kT106 (tp rfl) rfl)<|rc rfl rfl (oM rfl (tp rfl))<|rc rfl rfl (xIa (g:=g33) rfl X9 (tp rfl) (tp rfl) rfl (λ h=>hA33 h rfl) p34)<|rc rfl rfl (xLdP (sb:=0) ((PV.root.box rfl).fld owMachine.f4) (.head _) rfl (λ h=>hA33 h rfl) (.head _) (yn p34).2 (Nat.mul_one _) rfl Y0 (tp rfl) rfl)<|rc rfl rfl (xNc rfl (tp rfl))<|rc rfl rfl (xFa rfl kF49_2 (tp rfl))<|rc rfl rfl (xLf (sb:=0) ((((PV.root.box rfl).fld owMachine.f4).rowP (.head _) p36).fld owGModR.f2) rfl kT26 (tp rfl) rfl)<|rc rfl rfl (oM rfl (tp rfl))<|rc rfl rfl (oM rfl (tp rfl))<|rc rfl rfl (zD (l:=[.tmp 59]) rfl kN110 (.cons (tp rfl) .nil) (J0 p37))<|rc rfl rfl (oM rfl (zL rfl))<|rc rfl rfl (xNc rfl (tp rfl))<|rc rfl rfl (xFa rfl kF108_2 (tp rfl))<|rc rfl rfl (OpRel.nilf (xLf (sb:=0) ((PV.root.box rfl).fld owMachine.f2) rfl kT105 (tp rfl) rfl))<|rc rfl rfl (zD (l:=[.tmp 47,.tmp 57,.tmp 58,.tmp 60,.tmp 64]) rfl kN85 (.cons (tp rfl) (.cons (tp rfl) (.cons (tp rfl) (.cons (tp rfl) (.cons (tp rfl) .nil))))) (Jj p38))<|.nil) [65] rfl [(0,0),(4,1)] rfl ⟨iI,iT⟩ (λ _ _ st43=>?_)
 refine st43.store (sb:=4) 1 FldS.id rfl rfl rfl kT52 rfl rfl (tp rfl) rfl [] rfl [0] rfl rfl (λ _ _ st45=>wpList_nil ?_)
 have st46:=st45.ncf (s:=0) 0 rfl rfl iI [4] rfl
 refine za (wp_ret ?_)
 have st47:=st46.asO (s:=0) 0 rfl rfl iI (xt (owMachine.imp4 (yY (λ _ h=>(.tail _ (pinI_of h)))))) [4] rfl
 exact st47.rsC (s:=0) 0 rfl kT52 rfl rfl iI (bxr h42)
end Go.Proofs.YtnlhpkbphdbknaaGreatDoor
