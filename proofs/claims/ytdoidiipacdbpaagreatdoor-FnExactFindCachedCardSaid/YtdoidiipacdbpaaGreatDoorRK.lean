import Derived.Test.YtdoidiipacdbpaaGreatDoorRD
import Derived.Test.YtdoidiipacdbpaaGreatDoorRFb
import Derived.Test.YtdoidiipacdbpaaGreatDoorRB
import Derived.Test.YtdoidiipacdbpaaGreatDoorRO
import Derived.Test.YtdoidiipacdbpaaGreatDoorRG
import Derived.Test.YtdoidiipacdbpaaGreatDoorRQ
import Derived.Test.YtdoidiipacdbpaaGreatDoorRC
namespace Go.Proofs.YtdoidiipacdbpaaGreatDoor
open Go.RowKit Tryz
instance (s:Str):Decidable (mid s):=by unfold mid;infer_instance
instance (s:Stmt):Decidable (smStmt s):=by unfold smStmt;infer_instance
instance (f:File):Decidable (smFile f):=by unfold smFile;infer_instance
instance (t:Tree):Decidable (jf t):=by unfold jf;infer_instance
def qO(t:Tree):Option Bool:=if jf t then some (yf t) else none
theorem Qq{t:Tree}{r:Bool}(h:qO t=some r):Fn prog 93 [dt t] (dt r):=by
 unfold qO at h
 split at h
 ·
  rename_i hc
  injection h with h
  subst h
  exact JU _ hc
 ·
  cases h
def jj(s:Str):Option Bool:=if mid s then some (zr s) else none
theorem WO{s:Str}{r:Bool}(h:jj s=some r):Fn prog 131 [dt s] (dt r):=by
 unfold jj at h
 split at h
 ·
  rename_i hc
  injection h with h
  subst h
  exact qu _ hc
 ·
  cases h
def qP(s:Str):Option Bool:=if mid s then some (zF s) else none
theorem Qr{s:Str}{r:Bool}(h:qP s=some r):Fn prog 50 [dt s] (dt r):=by
 unfold qP at h
 split at h
 ·
  rename_i hc
  injection h with h
  subst h
  exact wV _ hc
 ·
  cases h
def Yw(s:Str)(p:Str):Option Bool:=if p.l.length<=1152921504606846976 then some (under s p) else none
theorem spec_under_w{s:Str}{p:Str}{r:Bool}(h:Yw s p=some r):Fn prog 126 [dt s,dt p] (dt r):=by
 unfold Yw at h
 split at h
 ·
  rename_i hc
  injection h with h
  subst h
  exact WX _ _ hc
 ·
  cases h
def jv(s:Str)(c:UInt8):Option (List Str):=if mid s then some (zD s c) else none
theorem Wn{s:Str}{c:UInt8}{r:List Str}(h:jv s c=some r):Fn prog 95 [dt s,dt c] (dt r):=by
 unfold jv at h
 split at h
 ·
  rename_i hc
  injection h with h
  subst h
  exact XY _ _ hc
 ·
  cases h
def qj(l:List Str)(s:Str):Option (List Str):=if l.length<=8796093022200 then some (xC l s) else none
theorem J0{l:List Str}{s:Str}{r:List Str}(h:qj l s=some r):Jh prog 128 9 l [dt s] r:=by
 unfold qj at h
 split at h
 ·
  rename_i hc
  injection h with h
  subst h
  exact Jm _ _ hc
 ·
  cases h
def qQ(p:List Int):Option Bool:=if True then some (yq p) else none
theorem Qs{p:List Int}{r:Bool}(h:qQ p=some r):Fn prog 49 [dt p] (dt r):=by
 unfold qQ at h
 split at h
 ·
  rename_i hc
  injection h with h
  subst h
  exact JT _
 ·
  cases h
def Y0(l:List Str):Option Str:=if xT l<=1152921504606846976 then some (join l) else none
theorem ZI{l:List Str}{r:Str}(h:Y0 l=some r):Fn prog 98 [dt l] (dt r):=by
 unfold Y0 at h
 split at h
 ·
  rename_i hc
  injection h with h
  subst h
  exact spec_join_ok _ hc
 ·
  cases h
def ZP(p:Str)(s:Str):Option Str:=if p.l.length+s.l.length<=1152921504606846976 then some (child p s) else none
theorem J1{p:Str}{s:Str}{r:Str}(h:ZP p s=some r):Fn prog 115 [dt p,dt s] (dt r):=by
 unfold ZP at h
 split at h
 ·
  rename_i hc
  injection h with h
  subst h
  exact WW _ _ hc
 ·
  cases h
def q9(t:Tree)(f:File):Option Int:=if True then some (wh t.files f) else none
theorem W1{t:Tree}{f:File}{r:Int}(h:q9 t f=some r):Fn prog 133 [dt t,dt f] (dt r):=by
 unfold q9 at h
 split at h
 ·
  rename_i hc
  injection h with h
  subst h
  exact Wg _ _
 ·
  cases h
def j0  : Option Spec:=if True then some (Jk) else none
theorem Xe {r:Spec}(h:j0  = some r):Fn prog 51 [] (dt r):=by
 unfold j0 at h
 split at h
 ·
  rename_i hc
  injection h with h
  subst h
  exact zad
 ·
  cases h
def Z9(t:Tree)(n:Int)(p:Str):Option Bool:=if p.l.length<=1152921504606846976 then some (Yp t.files n p) else none
theorem spec_hasDir_w{t:Tree}{n:Int}{p:Str}{r:Bool}(h:Z9 t n p=some r):Fn prog 136 [dt t,dt n,dt p] (dt r):=by
 unfold Z9 at h
 split at h
 ·
  rename_i hc
  injection h with h
  subst h
  exact zae _ _ _ hc
 ·
  cases h
open Go.RowKit Tryz
attribute [local irreducible] OpRel OpdR
set_option maxRecDepth 10000
set_option maxHeartbeats 1600000
theorem kT75:tyB prog 75 false 1=true:=by kernel_rfl
theorem kE70:elB prog 70 159 5 56=true:=by kernel_rfl
theorem kZ3:yL prog 3=some xW:=by kernel_rfl
theorem kN164:fnB prog 164=true:=by kernel_rfl
theorem kE41:elB prog 41 72 6 80=true:=by kernel_rfl
theorem kN138:fnB prog 138=true:=by kernel_rfl
theorem kZ43:yL prog 43=some zcTree:=by kernel_rfl
theorem kN101:fnB prog 101=true:=by kernel_rfl
theorem kZ77:yL prog 77=some zcDir:=by kernel_rfl
theorem Jq:fldB prog 77 0 0=true:=by kernel_rfl
theorem Wo:fldB prog 77 1 1=true:=by kernel_rfl
theorem Wp:fldB prog 77 2 2=true:=by kernel_rfl
theorem kN137:fnB prog 137=true:=by kernel_rfl
theorem Xf:fldB prog 77 3 3=true:=by kernel_rfl
theorem kT77:tyB prog 77 true 4=true:=by kernel_rfl
theorem kE33:elB prog 33 77 4 56=true:=by kernel_rfl
theorem kN100:fnB prog 100=true:=by kernel_rfl
theorem kS33:slB prog 33 4=true:=by kernel_rfl
theorem kZ35:yL prog 35=some zcFinder:=by kernel_rfl
theorem kN54:fnB prog 54=true:=by kernel_rfl
theorem qx:fldB prog 35 0 0=true:=by kernel_rfl
theorem kT33:tyB prog 33 false 1=true:=by kernel_rfl
theorem Jr:fldB prog 35 1 1=true:=by kernel_rfl
theorem Js:fldB prog 35 2 2=true:=by kernel_rfl
theorem kT35:tyB prog 35 true 3=true:=by kernel_rfl
theorem kZ45:yL prog 45=some zcDisk:=by kernel_rfl
theorem kN55:fnB prog 55=true:=by kernel_rfl
theorem kF45_0:fldB prog 45 0 0=true:=by kernel_rfl
theorem kF45_1:fldB prog 45 1 1=true:=by kernel_rfl
theorem kF45_2:fldB prog 45 2 2=true:=by kernel_rfl
theorem kT45:tyB prog 45 true 3=true:=by kernel_rfl
theorem kN181:fnB prog 181=true:=by kernel_rfl
theorem kN145:fnB prog 145=true:=by kernel_rfl
theorem kL33:isSl prog 33=true:=by kernel_rfl
theorem kN106:fnB prog 106=true:=by kernel_rfl
theorem kN18:fnB prog 18=true:=by kernel_rfl
theorem kCv3_5:cvB prog 3 5=true:=by kernel_rfl
theorem kCv57_9:cvS prog 57 9=true:=by kernel_rfl
theorem kN108:fnB prog 108=true:=by kernel_rfl
theorem kN109:fnB prog 109=true:=by kernel_rfl
theorem kN63:fnB prog 63=true:=by kernel_rfl
theorem kN146:fnB prog 146=true:=by kernel_rfl
theorem kN110:fnB prog 110=true:=by kernel_rfl
theorem kN64:fnB prog 64=true:=by kernel_rfl
theorem kN21:fnB prog 21=true:=by kernel_rfl
instance iF35_1FcA:FldO prog 35 1 1:=⟨Jr⟩
instance iF35_2FcA:FldO prog 35 2 2:=⟨Js⟩
instance iF45_1FcA:FldO prog 45 1 1:=⟨kF45_1⟩
instance iF72_0FcA:FldO prog 72 0 0:=⟨kF72_0⟩
instance iF72_1FcA:FldO prog 72 1 1:=⟨kF72_1⟩
instance iF72_2FcA:FldO prog 72 2 2:=⟨kF72_2⟩
instance iF72_3FcA:FldO prog 72 3 3:=⟨kF72_3⟩
instance iF72_4FcA:FldO prog 72 4 4:=⟨kF72_4⟩
instance iF77_0FcA:FldO prog 77 0 0:=⟨Jq⟩
instance iF77_1FcA:FldO prog 77 1 1:=⟨Wo⟩
instance iF77_2FcA:FldO prog 77 2 2:=⟨Wp⟩
def Za(x0:Stmt)(x1:Int):Option Int:=
(i64 (x1 - (x0.module.l.length:Int))).bind λ v2=>
if(cmpI .lss v2 (0:Int))=true then(some (-1:Int))
else((i64 (v2 - (x0.name.l.length:Int))).bind λ v9=>
if(cmpI .lss v9 (0:Int))=true then(some (-1:Int))
else(some v9))
theorem laws_szStmt_w{x0:Stmt}{x1:Int}{r:Int}(h:Za x0 x1=some r):Fn prog 178 [dt x0,dt x1] (dt r):=by
 unfold Za at h
 refine fnx (fn:=f178) 0 func178 rfl (oD rfl) rfl (λ M _ _ st0=>?_)
 refine st0.sq1 [1,2] (λ _ _ st1=>?_)
 obtain⟨v2,p2,h3⟩:=bs h
 refine st1.sq1 [1,2] (λ _ _ st4=>wp_seq ?_)
 refine st4.sq1 [1,2,11] (λ _ _ st5=>?_)
 refine st5.cs rfl h3 (λ _ h6=>?_) (λ _ h7=>wp_skip (za ?_))
 ·
  refine st5.sq1 [4] (λ _ _ st8=>wp_ret (zd ?_))
  exact st8.ret rfl rfl h6
 obtain⟨v9,p9,h10⟩:=bs h7
 refine st5.sq1 [1] (λ _ _ st11=>wp_seq ?_)
 refine st11.sq1 [1,18] (λ _ _ st12=>?_)
 refine st12.cs rfl h10 (λ _ h13=>?_) (λ _ h14=>wp_skip (za ?_))
 ·
  refine st12.sq1 [4] (λ _ _ st15=>wp_ret (zd ?_))
  exact st15.ret rfl rfl h13
 refine st12.sq1 [4] (λ _ _ st16=>wp_ret ?_)
 exact st16.ret rfl rfl h14
def wW(x0:List Stmt)(s11:Int×Int):Option ((Int×Int)⊕(Int⊕Int)):=
if(cmpI .lss s11.2 (x0.length:Int))=true then((atI x0 s11.2).bind λ v16=>
(Za v16 s11.1).bind λ v17=>
if(cmpI .lss v17 (0:Int))=true then(some (.inr (.inr (-1:Int))))
else((i64 (s11.2+(1:Int))).bind λ v27=>
some (.inl (v17,v27))))
else(some (.inr (.inl s11.1)))
def qy(x0:List Stmt)(x1:Int):Option Int:=
(i64 (x1 - (x0.length:Int))).bind λ v2=>
if(cmpI .lss v2 (0:Int))=true then(some (-1:Int))
else(Option.bind (α:=Int⊕Int) (zJ (λ s11=>wW x0 s11) (v2,(0:Int))) (Sum.elim (λ b9=>
some b9) some))
theorem zai{x0:List Stmt}{x1:Int}{r:Int}(h:qy x0 x1=some r):Fn prog 160 [dt x0,dt x1] (dt r):=by
 unfold qy at h
 refine fnx (fn:=f160) 0 func160 rfl (oD rfl) rfl (λ M w0 _ st0=>?_)
 refine st0.sq1 [0,1] (λ _ _ st1=>?_)
 obtain⟨v2,p2,h3⟩:=bs h
 refine st1.sq1 [0,1] (λ _ _ st4=>wp_seq ?_)
 refine st4.sq1 [0,1,11] (λ _ _ st5=>?_)
 refine st5.cs rfl h3 (λ _ h6=>?_) (λ _ h7=>wp_skip (za ?_))
 ·
  refine st5.sq1 [4] (λ _ _ st8=>wp_ret (zd ?_))
  exact st8.ret rfl rfl h6
 obtain⟨o9,p9,k9⟩:=bs h7
 refine zl (λ a w=>∃ b9,o9=.inl b9/\Sx (Frm.of w0) 27 M M [] [(1,dt b9)] [] a w) ?_ ?_
 ·
  refine st5.sq1 [0,1,5] (λ _ _ st10=>wp_block ?_)
  refine zA p9 (λ s11 a w=>Sx (Frm.of w0) 27 M M [] [(0,dt x0),(1,dt s11.1),(5,dt s11.2)] [] a w) (st10.sel0 [0,1,5] rfl) ?_
  rintro s11 z11 a11 w11 st11 hs11 hx11
  have h12:wW x0 s11=some z11:=hs11
  unfold wW at h12
  refine wp_seq ?_
  refine st11.sq1 [0,1,5,15] (λ _ _ st13=>?_)
  refine st13.cs rfl h12 (λ _ h14=>wp_skip (za (wp_seq (wp_block ?_)))) (λ _ h15=>wp_exit (ze (ze (zw ?_))))
  ·
   obtain⟨v16,p16,h18⟩:=bs h14
   obtain⟨v17,p17,h19⟩:=bsW h18 laws_szStmt_w
   refine st13.sq1 [0,1,5] (λ _ _ st20=>?_)
   refine st20.sq1 [0,1,5,25] (λ _ _ st21=>?_)
   refine st21.cs rfl h19 (λ _ h22=>?_) (λ _ h23=>wp_skip (zk (za ?_)))
   ·
    refine st21.sq1 [4] (λ _ _ st24=>wp_ret (zn (zd (zd (zn (zd ?_))))))
    have h25:=lo h22 hx11
    have h26:=jo h25 k9
    exact st24.ret rfl rfl h26
   obtain⟨v27,p27,h28⟩:=bs h23
   refine st21.rg1 [0,1,5] (λ _ _ st29=>za ?_)
   exact⟨_,(Option.some.inj h28).symm,st29.sel0 [0,1,5] rfl⟩
  refine za ?_
  have h30:=lo h15 hx11
  exact⟨_,(Option.some.inj h30).symm,st13.sel0 [1] rfl⟩
 rintro a9 w9 ⟨b9,rfl,st9⟩
 have h31:=jn k9
 refine st9.sq1 [4] (λ _ _ st32=>wp_ret ?_)
 exact st32.ret rfl rfl h31
def Zb(x0:File)(x1:Int):Option Int:=
(i64 (x1 - (x0.pkg.l.length:Int))).bind λ v2=>
if(cmpI .lss v2 (0:Int))=true then(some (-1:Int))
else((i64 (v2 - (x0.name.l.length:Int))).bind λ v9=>
if(cmpI .lss v9 (0:Int))=true then(some (-1:Int))
else((qy x0.body v9).bind λ v16=>
if(cmpI .lss v16 (0:Int))=true then(some (-1:Int))
else(some v16)))
theorem laws_szFile_w{x0:File}{x1:Int}{r:Int}(h:Zb x0 x1=some r):Fn prog 130 [dt x0,dt x1] (dt r):=by
 unfold Zb at h
 refine fnx (fn:=f130) 0 func130 rfl (oD rfl) rfl (λ M _ _ st0=>?_)
 refine st0.sq1 [1,2] (λ _ _ st1=>?_)
 obtain⟨v2,p2,h3⟩:=bs h
 refine st1.sq1 [1,2] (λ _ _ st4=>wp_seq ?_)
 refine st4.sq1 [1,2,11] (λ _ _ st5=>?_)
 refine st5.cs rfl h3 (λ _ h6=>?_) (λ _ h7=>wp_skip (za ?_))
 ·
  refine st5.sq1 [4] (λ _ _ st8=>wp_ret (zd ?_))
  exact st8.ret rfl rfl h6
 obtain⟨v9,p9,h10⟩:=bs h7
 refine st5.sq1 [1,2] (λ _ _ st11=>wp_seq ?_)
 refine st11.sq1 [1,2,18] (λ _ _ st12=>?_)
 refine st12.cs rfl h10 (λ _ h13=>?_) (λ _ h14=>wp_skip (za ?_))
 ·
  refine st12.sq1 [4] (λ _ _ st15=>wp_ret (zd ?_))
  exact st15.ret rfl rfl h13
 obtain⟨v16,p16,h17⟩:=bsW h14 zai
 refine st12.sq1 [1] (λ _ _ st18=>wp_seq ?_)
 refine st18.sq1 [1,24] (λ _ _ st19=>?_)
 refine st19.cs rfl h17 (λ _ h20=>?_) (λ _ h21=>wp_skip (za ?_))
 ·
  refine st19.sq1 [4] (λ _ _ st22=>wp_ret (zd ?_))
  exact st22.ret rfl rfl h20
 refine st19.sq1 [4] (λ _ _ st23=>wp_ret ?_)
 exact st23.ret rfl rfl h21
def wX(x0:List File)(s11:Int×Int):Option ((Int×Int)⊕(Int⊕Int)):=
if(cmpI .lss s11.2 (x0.length:Int))=true then((atI x0 s11.2).bind λ v16=>
(Zb v16 s11.1).bind λ v17=>
if(cmpI .lss v17 (0:Int))=true then(some (.inr (.inr (-1:Int))))
else((i64 (s11.2+(1:Int))).bind λ v27=>
some (.inl (v17,v27))))
else(some (.inr (.inl s11.1)))
def qz(x0:List File)(x1:Int):Option Int:=
(i64 (x1 - (x0.length:Int))).bind λ v2=>
if(cmpI .lss v2 (0:Int))=true then(some (-1:Int))
else(Option.bind (α:=Int⊕Int) (zJ (λ s11=>wX x0 s11) (v2,(0:Int))) (Sum.elim (λ b9=>
some b9) some))
theorem zaj{x0:List File}{x1:Int}{r:Int}(h:qz x0 x1=some r):Fn prog 90 [dt x0,dt x1] (dt r):=by
 unfold qz at h
 refine fnx (fn:=f90) 0 func90 rfl (oD rfl) rfl (λ M w0 _ st0=>?_)
 refine st0.sq1 [0,1] (λ _ _ st1=>?_)
 obtain⟨v2,p2,h3⟩:=bs h
 refine st1.sq1 [0,1] (λ _ _ st4=>wp_seq ?_)
 refine st4.sq1 [0,1,11] (λ _ _ st5=>?_)
 refine st5.cs rfl h3 (λ _ h6=>?_) (λ _ h7=>wp_skip (za ?_))
 ·
  refine st5.sq1 [4] (λ _ _ st8=>wp_ret (zd ?_))
  exact st8.ret rfl rfl h6
 obtain⟨o9,p9,k9⟩:=bs h7
 refine zl (λ a w=>∃ b9,o9=.inl b9/\Sx (Frm.of w0) 27 M M [] [(1,dt b9)] [] a w) ?_ ?_
 ·
  refine st5.sq1 [0,1,5] (λ _ _ st10=>wp_block ?_)
  refine zA p9 (λ s11 a w=>Sx (Frm.of w0) 27 M M [] [(0,dt x0),(1,dt s11.1),(5,dt s11.2)] [] a w) (st10.sel0 [0,1,5] rfl) ?_
  rintro s11 z11 a11 w11 st11 hs11 hx11
  have h12:wX x0 s11=some z11:=hs11
  unfold wX at h12
  refine wp_seq ?_
  refine st11.sq1 [0,1,5,15] (λ _ _ st13=>?_)
  refine st13.cs rfl h12 (λ _ h14=>wp_skip (za (wp_seq (wp_block ?_)))) (λ _ h15=>wp_exit (ze (ze (zw ?_))))
  ·
   obtain⟨v16,p16,h18⟩:=bs h14
   obtain⟨v17,p17,h19⟩:=bsW h18 laws_szFile_w
   refine st13.sq1 [0,1,5] (λ _ _ st20=>?_)
   refine st20.sq1 [0,1,5,25] (λ _ _ st21=>?_)
   refine st21.cs rfl h19 (λ _ h22=>?_) (λ _ h23=>wp_skip (zk (za ?_)))
   ·
    refine st21.sq1 [4] (λ _ _ st24=>wp_ret (zn (zd (zd (zn (zd ?_))))))
    have h25:=lo h22 hx11
    have h26:=jo h25 k9
    exact st24.ret rfl rfl h26
   obtain⟨v27,p27,h28⟩:=bs h23
   refine st21.rg1 [0,1,5] (λ _ _ st29=>za ?_)
   exact⟨_,(Option.some.inj h28).symm,st29.sel0 [0,1,5] rfl⟩
  refine za ?_
  have h30:=lo h15 hx11
  exact⟨_,(Option.some.inj h30).symm,st13.sel0 [1] rfl⟩
 rintro a9 w9 ⟨b9,rfl,st9⟩
 have h31:=jn k9
 refine st9.sq1 [4] (λ _ _ st32=>wp_ret ?_)
 exact st32.ret rfl rfl h31
def Zc(x0:Tree)(x1:Int):Option Int:=
(qz x0.files x1).bind λ v2=>
if(cmpI .lss v2 (0:Int))=true then(some (-1:Int))
else(some v2)
theorem laws_szTree_w{x0:Tree}{x1:Int}{r:Int}(h:Zc x0 x1=some r):Fn prog 46 [dt x0,dt x1] (dt r):=by
 unfold Zc at h
 refine fnx (fn:=f46) 0 func46 rfl (oD rfl) rfl (λ M _ _ st0=>?_)
 refine st0.sq1 [1,2] (λ _ _ st1=>?_)
 obtain⟨v2,p2,h3⟩:=bsW h zaj
 refine st1.sq1 [1] (λ _ _ st4=>wp_seq ?_)
 refine st4.sq1 [1,10] (λ _ _ st5=>?_)
 refine st5.cs rfl h3 (λ _ h6=>?_) (λ _ h7=>wp_skip (za ?_))
 ·
  refine st5.sq1 [4] (λ _ _ st8=>wp_ret (zd ?_))
  exact st8.ret rfl rfl h6
 refine st5.sq1 [4] (λ _ _ st9=>wp_ret ?_)
 exact st9.ret rfl rfl h7
def we(x0:List Str)(s11:Int×Int):Option ((Int×Int)⊕(Int⊕Int)):=
if(cmpI .lss s11.2 (x0.length:Int))=true then((atI x0 s11.2).bind λ v16=>
(i64 (s11.1 - (v16.l.length:Int))).bind λ v17=>
if(cmpI .lss v17 (0:Int))=true then(some (.inr (.inr (-1:Int))))
else((i64 (s11.2+(1:Int))).bind λ v27=>
some (.inl (v17,v27))))
else(some (.inr (.inl s11.1)))
def jw(x0:List Str)(x1:Int):Option Int:=
(i64 (x1 - (x0.length:Int))).bind λ v2=>
if(cmpI .lss v2 (0:Int))=true then(some (-1:Int))
else(Option.bind (α:=Int⊕Int) (zJ (λ s11=>we x0 s11) (v2,(0:Int))) (Sum.elim (λ b9=>
some b9) some))
theorem Qt{x0:List Str}{x1:Int}{r:Int}(h:jw x0 x1=some r):Fn prog 129 [dt x0,dt x1] (dt r):=by
 unfold jw at h
 refine fnx (fn:=f129) 0 func129 rfl (oD rfl) rfl (λ M w0 _ st0=>?_)
 refine st0.sq1 [0,1] (λ _ _ st1=>?_)
 obtain⟨v2,p2,h3⟩:=bs h
 refine st1.sq1 [0,1] (λ _ _ st4=>wp_seq ?_)
 refine st4.sq1 [0,1,11] (λ _ _ st5=>?_)
 refine st5.cs rfl h3 (λ _ h6=>?_) (λ _ h7=>wp_skip (za ?_))
 ·
  refine st5.sq1 [4] (λ _ _ st8=>wp_ret (zd ?_))
  exact st8.ret rfl rfl h6
 obtain⟨o9,p9,k9⟩:=bs h7
 refine zl (λ a w=>∃ b9,o9=.inl b9/\Sx (Frm.of w0) 28 M M [] [(1,dt b9)] [] a w) ?_ ?_
 ·
  refine st5.sq1 [0,1,5] (λ _ _ st10=>wp_block ?_)
  refine zA p9 (λ s11 a w=>Sx (Frm.of w0) 28 M M [] [(0,dt x0),(1,dt s11.1),(5,dt s11.2)] [] a w) (st10.sel0 [0,1,5] rfl) ?_
  rintro s11 z11 a11 w11 st11 hs11 hx11
  have h12:we x0 s11=some z11:=hs11
  unfold we at h12
  refine wp_seq ?_
  refine st11.sq1 [0,1,5,15] (λ _ _ st13=>?_)
  refine st13.cs rfl h12 (λ _ h14=>wp_skip (za (wp_seq (wp_block ?_)))) (λ _ h15=>wp_exit (ze (ze (zw ?_))))
  ·
   obtain⟨v16,p16,v17,p17,h19⟩:=bsB h14
   refine st13.sq1 [0,1,5] (λ _ _ st20=>?_)
   refine st20.sq1 [0,1,5,26] (λ _ _ st21=>?_)
   refine st21.cs rfl h19 (λ _ h22=>?_) (λ _ h23=>wp_skip (zk (za ?_)))
   ·
    refine st21.sq1 [4] (λ _ _ st24=>wp_ret (zn (zd (zd (zn (zd ?_))))))
    have h25:=lo h22 hx11
    have h26:=jo h25 k9
    exact st24.ret rfl rfl h26
   obtain⟨v27,p27,h28⟩:=bs h23
   refine st21.rg1 [0,1,5] (λ _ _ st29=>za ?_)
   exact⟨_,(Option.some.inj h28).symm,st29.sel0 [0,1,5] rfl⟩
  refine za ?_
  have h30:=lo h15 hx11
  exact⟨_,(Option.some.inj h30).symm,st13.sel0 [1] rfl⟩
 rintro a9 w9 ⟨b9,rfl,st9⟩
 have h31:=jn k9
 refine st9.sq1 [4] (λ _ _ st32=>wp_ret ?_)
 exact st32.ret rfl rfl h31
def ZQ(x0:Dir)(x1:Int):Option Int:=
(i64 (x1 - (x0.pkg.l.length:Int))).bind λ v2=>
if(cmpI .lss v2 (0:Int))=true then(some (-1:Int))
else((jw x0.names v2).bind λ v9=>
if(cmpI .lss v9 (0:Int))=true then(some (-1:Int))
else(some v9))
theorem laws_szDir_w{x0:Dir}{x1:Int}{r:Int}(h:ZQ x0 x1=some r):Fn prog 89 [dt x0,dt x1] (dt r):=by
 unfold ZQ at h
 refine fnx (fn:=f89) 0 func89 rfl (oD rfl) rfl (λ M _ _ st0=>?_)
 refine st0.sq1 [1,2] (λ _ _ st1=>?_)
 obtain⟨v2,p2,h3⟩:=bs h
 refine st1.sq1 [1,2] (λ _ _ st4=>wp_seq ?_)
 refine st4.sq1 [1,2,11] (λ _ _ st5=>?_)
 refine st5.cs rfl h3 (λ _ h6=>?_) (λ _ h7=>wp_skip (za ?_))
 ·
  refine st5.sq1 [4] (λ _ _ st8=>wp_ret (zd ?_))
  exact st8.ret rfl rfl h6
 obtain⟨v9,p9,h10⟩:=bsW h7 Qt
 refine st5.sq1 [1] (λ _ _ st11=>wp_seq ?_)
 refine st11.sq1 [1,17] (λ _ _ st12=>?_)
 refine st12.cs rfl h10 (λ _ h13=>?_) (λ _ h14=>wp_skip (za ?_))
 ·
  refine st12.sq1 [4] (λ _ _ st15=>wp_ret (zd ?_))
  exact st15.ret rfl rfl h13
 refine st12.sq1 [4] (λ _ _ st16=>wp_ret ?_)
 exact st16.ret rfl rfl h14
def jx(x0:List Dir)(s11:Int×Int):Option ((Int×Int)⊕(Int⊕Int)):=
if(cmpI .lss s11.2 (x0.length:Int))=true then((atI x0 s11.2).bind λ v16=>
(ZQ v16 s11.1).bind λ v17=>
if(cmpI .lss v17 (0:Int))=true then(some (.inr (.inr (-1:Int))))
else((i64 (s11.2+(1:Int))).bind λ v27=>
some (.inl (v17,v27))))
else(some (.inr (.inl s11.1)))
def j5(x0:List Dir)(x1:Int):Option Int:=
(i64 (x1 - (x0.length:Int))).bind λ v2=>
if(cmpI .lss v2 (0:Int))=true then(some (-1:Int))
else(Option.bind (α:=Int⊕Int) (zJ (λ s11=>jx x0 s11) (v2,(0:Int))) (Sum.elim (λ b9=>
some b9) some))
theorem W2{x0:List Dir}{x1:Int}{r:Int}(h:j5 x0 x1=some r):Fn prog 45 [dt x0,dt x1] (dt r):=by
 unfold j5 at h
 refine fnx (fn:=f45) 0 func45 rfl (oD rfl) rfl (λ M w0 _ st0=>?_)
 refine st0.sq1 [0,1] (λ _ _ st1=>?_)
 obtain⟨v2,p2,h3⟩:=bs h
 refine st1.sq1 [0,1] (λ _ _ st4=>wp_seq ?_)
 refine st4.sq1 [0,1,11] (λ _ _ st5=>?_)
 refine st5.cs rfl h3 (λ _ h6=>?_) (λ _ h7=>wp_skip (za ?_))
 ·
  refine st5.sq1 [4] (λ _ _ st8=>wp_ret (zd ?_))
  exact st8.ret rfl rfl h6
 obtain⟨o9,p9,k9⟩:=bs h7
 refine zl (λ a w=>∃ b9,o9=.inl b9/\Sx (Frm.of w0) 27 M M [] [(1,dt b9)] [] a w) ?_ ?_
 ·
  refine st5.sq1 [0,1,5] (λ _ _ st10=>wp_block ?_)
  refine zA p9 (λ s11 a w=>Sx (Frm.of w0) 27 M M [] [(0,dt x0),(1,dt s11.1),(5,dt s11.2)] [] a w) (st10.sel0 [0,1,5] rfl) ?_
  rintro s11 z11 a11 w11 st11 hs11 hx11
  have h12:jx x0 s11=some z11:=hs11
  unfold jx at h12
  refine wp_seq ?_
  refine st11.sq1 [0,1,5,15] (λ _ _ st13=>?_)
  refine st13.cs rfl h12 (λ _ h14=>wp_skip (za (wp_seq (wp_block ?_)))) (λ _ h15=>wp_exit (ze (ze (zw ?_))))
  ·
   obtain⟨v16,p16,h18⟩:=bs h14
   obtain⟨v17,p17,h19⟩:=bsW h18 laws_szDir_w
   refine st13.sq1 [0,1,5] (λ _ _ st20=>?_)
   refine st20.sq1 [0,1,5,25] (λ _ _ st21=>?_)
   refine st21.cs rfl h19 (λ _ h22=>?_) (λ _ h23=>wp_skip (zk (za ?_)))
   ·
    refine st21.sq1 [4] (λ _ _ st24=>wp_ret (zn (zd (zd (zn (zd ?_))))))
    have h25:=lo h22 hx11
    have h26:=jo h25 k9
    exact st24.ret rfl rfl h26
   obtain⟨v27,p27,h28⟩:=bs h23
   refine st21.rg1 [0,1,5] (λ _ _ st29=>za ?_)
   exact⟨_,(Option.some.inj h28).symm,st29.sel0 [0,1,5] rfl⟩
  refine za ?_
  have h30:=lo h15 hx11
  exact⟨_,(Option.some.inj h30).symm,st13.sel0 [1] rfl⟩
 rintro a9 w9 ⟨b9,rfl,st9⟩
 have h31:=jn k9
 refine st9.sq1 [4] (λ _ _ st32=>wp_ret ?_)
 exact st32.ret rfl rfl h31
def jS(x0:Finder)(x1:Int):Option Int:=
(j5 x0.dirs x1).bind λ v2=>
if(cmpI .lss v2 (0:Int))=true then(some (-1:Int))
else(some v2)
theorem QZ{x0:Finder}{x1:Int}{r:Int}(h:jS x0 x1=some r):Fn prog 8 [dt x0,dt x1] (dt r):=by
 unfold jS at h
 refine fnx (fn:=f8) 0 func8 rfl (oD rfl) rfl (λ M _ _ st0=>?_)
 refine st0.sq1 [1,2] (λ _ _ st1=>?_)
 obtain⟨v2,p2,h3⟩:=bsW h W2
 refine st1.sq1 [1] (λ _ _ st4=>wp_seq ?_)
 refine st4.sq1 [1,10] (λ _ _ st5=>?_)
 refine st5.cs rfl h3 (λ _ h6=>?_) (λ _ h7=>wp_skip (za ?_))
 ·
  refine st5.sq1 [4] (λ _ _ st8=>wp_ret (zd ?_))
  exact st8.ret rfl rfl h6
 refine st5.sq1 [4] (λ _ _ st9=>wp_ret ?_)
 exact st9.ret rfl rfl h7
def Zd(x0:Disk)(x1:Int):Option Int:=
(Zc x0.tree x1).bind λ v2=>
if(cmpI .lss v2 (0:Int))=true then(some (-1:Int))
else((j5 x0.dirs v2).bind λ v9=>
if(cmpI .lss v9 (0:Int))=true then(some (-1:Int))
else(some v9))
theorem laws_szDisk_w{x0:Disk}{x1:Int}{r:Int}(h:Zd x0 x1=some r):Fn prog 9 [dt x0,dt x1] (dt r):=by
 unfold Zd at h
 refine fnx (fn:=f9) 0 func9 rfl (oD rfl) rfl (λ M _ _ st0=>?_)
 refine st0.sq1 [1,2] (λ _ _ st1=>?_)
 obtain⟨v2,p2,h3⟩:=bsW h laws_szTree_w
 refine st1.sq1 [1,2] (λ _ _ st4=>wp_seq ?_)
 refine st4.sq1 [1,2,10] (λ _ _ st5=>?_)
 refine st5.cs rfl h3 (λ _ h6=>?_) (λ _ h7=>wp_skip (za ?_))
 ·
  refine st5.sq1 [4] (λ _ _ st8=>wp_ret (zd ?_))
  exact st8.ret rfl rfl h6
 obtain⟨v9,p9,h10⟩:=bsW h7 W2
 refine st5.sq1 [1] (λ _ _ st11=>wp_seq ?_)
 refine st11.sq1 [1,16] (λ _ _ st12=>?_)
 refine st12.cs rfl h10 (λ _ h13=>?_) (λ _ h14=>wp_skip (za ?_))
 ·
  refine st12.sq1 [4] (λ _ _ st15=>wp_ret (zd ?_))
  exact st15.ret rfl rfl h13
 refine st12.sq1 [4] (λ _ _ st16=>wp_ret ?_)
 exact st16.ret rfl rfl h14
def Ze(x0:Stmt):Option Stmt:=
some ({ { { { { zStmt with kind:=x0.kind } with module:=x0.module } with level:=x0.level } with name:=x0.name } with value:=x0.value })
theorem laws_toStmt_w{x0:Stmt}{r:Stmt}(h:Ze x0=some r):Fn prog 180 [dt x0] (dt r):=by
 unfold Ze at h
 refine fnx (fn:=f180) 2 func180 rfl (oD rfl) rfl (λ M _ _ st0=>wp_seq (wp_region_list ?_))
 refine st0.segA 1 [1] [] (λ _ _ st1=>?_)
 refine st1.alA 0 zrStmt [1] [] (λ b3 _ _ _ st3=>wpList_nil (za (wp_seq (wp_region_list ?_))))
 refine st3.alA 1 zrStmt [1] [2] (λ b5 _ _ _ st5=>wpList_nil (za (wp_seq (wp_region_list ?_))))
 refine st5.segC 3 [1,5] [(2,0),(3,1),(6,1)] (λ _ _ st6=>?_)
 refine st6.stA 3 1 Stmt.set0 (tp rfl) [1] [2] (λ _ _ st8=>wpList_nil (za (wp_seq (wp_region_list ?_))))
 refine st8.segC 3 [1,8] [(2,0),(3,1),(9,1)] (λ _ _ st9=>?_)
 refine st9.stA 3 1 Stmt.set1 (tp rfl) [1] [2] (λ _ _ st11=>wpList_nil (za (wp_seq (wp_region_list ?_))))
 refine st11.segC 3 [1,11] [(2,0),(3,1),(12,1)] (λ _ _ st12=>?_)
 refine st12.stA 3 1 Stmt.set2 (tp rfl) [1] [2] (λ _ _ st14=>wpList_nil (za (wp_seq (wp_region_list ?_))))
 refine st14.segC 3 [1,14] [(2,0),(3,1),(15,1)] (λ _ _ st15=>?_)
 refine st15.stA 3 1 Stmt.set3 (tp rfl) [1] [2] (λ _ _ st17=>wpList_nil (za (wp_seq (wp_region_list ?_))))
 refine st17.segC 3 [17] [(2,0),(3,1),(18,1)] (λ _ _ st18=>?_)
 refine st18.stA 3 1 Stmt.set4 (tp rfl) [] [2] (λ _ _ st20=>wpList_nil (za (wp_seq (wp_region_list ?_))))
 refine st20.segC 1 [19] [(2,0)] (λ _ _ st21=>?_)
 refine st21.stA 2 0 FldS.id (tp rfl) [] [] (λ _ _ st23=>wpList_nil (za (wp_ret ?_)))
 exact st23.ret_box rfl kT159 rfl h
def xY(x0:List Stmt)(s10:(List Stmt)×Int):Option (((List Stmt)×Int)⊕(List Stmt)):=
if(cmpI .lss s10.2 (x0.length:Int))=true then((atI x0 s10.2).bind λ v15=>
(Ze v15).bind λ v16=>
(atI s10.1 s10.2).bind λ _v17=>
(setO s10.1 s10.2 v16).bind λ v24=>
(i64 (s10.2+(1:Int))).bind λ v26=>
some (.inl (v24,v26)))
else(some (.inr s10.1))
def qA(x0:List Stmt):Option (List Stmt):=
(YX 5 56 (x0.length:Int) zStmt).bind λ v5=>
Option.bind (α:=(List Stmt)) (zJ (λ s10=>xY x0 s10) (v5,(0:Int))) λ o8=>
some o8
theorem zak{x0:List Stmt}{r:List Stmt}(h:qA x0=some r):FnOwn prog 164 [dt x0] 159 r:=by
 unfold qA at h
 refine fnxO (fn:=f164) 1 func164 rfl (oD rfl) rfl (λ M w0 _ st0=>?_)
 refine st0.sq2 (sc rfl (oA rfl (ZD (α:=Stmt) (e:=159)))<|.nil) [0] (λ _ _ st1=>wp_seq (wp_region_list ?_))
 refine st1.segA 2 [0,6] [] (λ _ _ st2=>?_)
 obtain⟨v5,p5,h6⟩:=bs h
 refine st2.make 0 rfl rfl kE70 kZ159 zrStmt rfl (by simp) p5 [0] rfl [] rfl rfl (λ g4 _ _ _ st4=>?_)
 refine st4.segA 1 [0] [(3,0)] (λ _ _ st7=>wpList_nil (za ?_))
 obtain⟨o8,p8,k8⟩:=bs h6
 refine zl (λ a w=>∃ M1 q8_0,Sx (Frm.of w0) 23 M M1 [oneB q8_0] [] [(3,0,dtip q8_0 159 o8)] a w) ?_ ?_
 ·
  refine st7.sqA [0,4] [(3,0)] (λ _ _ st9=>wp_block ?_)
  refine zA p8 (λ s10 a w=>∃ M1 q10_0,Sx (Frm.of w0) 23 M M1 [oneB q10_0] [(0,dt x0),(4,dt s10.2)] [(3,0,dtip q10_0 159 s10.1)] a w) fx ?_
  rintro s10 z10 a10 w10 ⟨M10,q10_0,st10⟩ hs10 hx10
  have h11:xY x0 s10=some z10:=hs10
  unfold xY at h11
  refine wp_seq ?_
  refine st10.sqA [0,4,11] [(3,0)] (λ _ _ st12=>?_)
  refine st12.cs rfl h11 (λ _ h13=>wp_skip (za (wp_seq (wp_block (wp_region_list ?_))))) (λ _ h14=>wp_exit (ze (ze (zw ?_))))
  ·
   obtain⟨v15,p15,v16,p16,v17,p17,h20⟩:=bsC h13
   refine st12.segB 8 (sP 6 (r:=by exact sc rfl (oK (laws_toStmt_w p16))<|sc rfl (xIdxT rfl kS70 (tp rfl) (tp rfl) p17)<|.nil)) [0,4,20] [(3,0),(21,0)] (λ _ _ st21=>?_)
   obtain⟨v24,p24,h25⟩:=bs h20
   refine st21.storeT (sb:=3) 0 rfl rfl rfl kT159 rfl rfl (tp rfl) rfl p24 [0,4] rfl [] rfl rfl (λ _ _ st23=>wpList_nil (zk (za ?_)))
   obtain⟨v26,p26,h27⟩:=bs h25
   refine st23.rgA [0,4] [(3,0)] (λ _ _ st28=>za ?_)
   exact fl h27
  refine za ?_
  have h29:=lo h14 hx10
  cases h29
  exact fx
 rintro a8 w8 ⟨M8,q8_0,st8⟩
 have h30:=k8
 refine st8.sqA [] [(2,0)] (λ _ _ st31=>wp_ret ?_)
 exact st31.ret_own 0 rfl rfl iI h30
def ws(x0:List Int)(s10:(List Int)×Int):Option (((List Int)×Int)⊕(List Int)):=
if(cmpI .lss s10.2 (x0.length:Int))=true then((atI x0 s10.2).bind λ v15=>
(atI s10.1 s10.2).bind λ _v16=>
(setO s10.1 s10.2 v15).bind λ v22=>
(i64 (s10.2+(1:Int))).bind λ v24=>
some (.inl (v22,v24)))
else(some (.inr s10.1))
def xR(x0:List Int):Option (List Int):=
(YX 1 8 (x0.length:Int) zInt).bind λ v5=>
Option.bind (α:=(List Int)) (zJ (λ s10=>ws x0 s10) (v5,(0:Int))) λ o8=>
some o8
theorem y7{x0:List Int}{r:List Int}(h:xR x0=some r):FnOwn prog 13 [dt x0] 3 r:=by
 unfold xR at h
 refine fnxO (fn:=f13) 1 func13 rfl (oD rfl) rfl (λ M w0 _ st0=>?_)
 refine st0.sq2 (sc rfl (oA rfl (ZD (α:=Int) (e:=3)))<|.nil) [0] (λ _ _ st1=>wp_seq (wp_region_list ?_))
 refine st1.segA 2 [0,6] [] (λ _ _ st2=>?_)
 obtain⟨v5,p5,h6⟩:=bs h
 refine st2.make 0 rfl rfl kE30 kZ3 wj rfl (by simp) p5 [0] rfl [] rfl rfl (λ g4 _ _ _ st4=>?_)
 refine st4.segA 1 [0] [(3,0)] (λ _ _ st7=>wpList_nil (za ?_))
 obtain⟨o8,p8,k8⟩:=bs h6
 refine zl (λ a w=>∃ M1 q8_0,Sx (Frm.of w0) 22 M M1 [oneB q8_0] [] [(3,0,dtip q8_0 3 o8)] a w) ?_ ?_
 ·
  refine st7.sqA [0,4] [(3,0)] (λ _ _ st9=>wp_block ?_)
  refine zA p8 (λ s10 a w=>∃ M1 q10_0,Sx (Frm.of w0) 22 M M1 [oneB q10_0] [(0,dt x0),(4,dt s10.2)] [(3,0,dtip q10_0 3 s10.1)] a w) fx ?_
  rintro s10 z10 a10 w10 ⟨M10,q10_0,st10⟩ hs10 hx10
  have h11:ws x0 s10=some z10:=hs10
  unfold ws at h11
  refine wp_seq ?_
  refine st10.sqA [0,4,11] [(3,0)] (λ _ _ st12=>?_)
  refine st12.cs rfl h11 (λ _ h13=>wp_skip (za (wp_seq (wp_block (wp_region_list ?_))))) (λ _ h14=>wp_exit (ze (ze (zw ?_))))
  ·
   obtain⟨v15,p15,v16,p16,h18⟩:=bsB h13
   refine st12.segB 7 (sP 6 (r:=by exact sc rfl (xIdxT rfl kS30 (tp rfl) (tp rfl) p16)<|.nil)) [0,4,19] [(3,0),(20,0)] (λ _ _ st19=>?_)
   obtain⟨v22,p22,h23⟩:=bs h18
   refine st19.storeT (sb:=3) 0 rfl rfl rfl kT3 rfl rfl (tp rfl) rfl p22 [0,4] rfl [] rfl rfl (λ _ _ st21=>wpList_nil (zk (za ?_)))
   obtain⟨v24,p24,h25⟩:=bs h23
   refine st21.rgA [0,4] [(3,0)] (λ _ _ st26=>za ?_)
   exact fl h25
  refine za ?_
  have h27:=lo h14 hx10
  cases h27
  exact fx
 rintro a8 w8 ⟨M8,q8_0,st8⟩
 have h28:=k8
 refine st8.sqA [] [(2,0)] (λ _ _ st29=>wp_ret ?_)
 exact st29.ret_own 0 rfl rfl iI h28
def Zf(x0:File):Option File:=
(qA x0.body).bind λ v16=>
some (⟨x0.root,x0.pkg,x0.name,x0.init,x0.stamp,v16⟩:File)
theorem laws_toFile_w{x0:File}{r:File}(h:Zf x0=some r):FnN prog 138 [dt x0] (.ow (owFile (Ow.row 159 (Ow.frz (α:=Stmt)))) r):=by
 unfold Zf at h
 refine fnN (fn:=f138) 3 func138 rfl (oD rfl) rfl (λ M _ _ st0=>wp_seq (wp_region_list ?_))
 refine st0.segA 1 [1] [] (λ _ _ st1=>?_)
 refine st1.alcW (ow:=(owFile (Ow.row 159 (Ow.frz (α:=Stmt))))) 1 rfl rfl kZ72 (owFile.z Ow.row_z) (by simp) [1] rfl [] rfl rfl (λ b2 _ _ _ st2=>wpList_nil (za (wp_seq (wp_region_list ?_))))
 refine st2.alcW (ow:=(owFile (Ow.row 159 (Ow.frz (α:=Stmt))))) 2 rfl rfl kZ72 (owFile.z Ow.row_z) (by simp) [1] rfl [2] rfl rfl (λ b3 _ _ _ st3=>wpList_nil (za (wp_seq (wp_region_list ?_))))
 refine st3.segB 3 (sP 2 (r:=by exact sc rfl (xFa rfl kF72_0 (zz rfl))<|.nil)) [1,5,6] [(2,1),(3,2)] (λ _ _ st4=>?_)
 refine st4.sfA 3 2 ((PV.root.box rfl).fld owFile.f0) (tp rfl) (tp rfl) [1] [2] (λ _ st5=>wpList_nil (za (wp_seq (wp_region_list ?_))))
 refine st5.segB 3 (sP 2 (r:=by exact sc rfl (xFa rfl kF72_1 (zz rfl))<|.nil)) [1,8,9] [(2,1),(3,2)] (λ _ _ st6=>?_)
 refine st6.sfA 3 2 ((PV.root.box rfl).fld owFile.f1) (tp rfl) (tp rfl) [1] [2] (λ _ st7=>wpList_nil (za (wp_seq (wp_region_list ?_))))
 refine st7.segB 3 (sP 2 (r:=by exact sc rfl (xFa rfl kF72_2 (zz rfl))<|.nil)) [1,11,12] [(2,1),(3,2)] (λ _ _ st8=>?_)
 refine st8.sfA 3 2 ((PV.root.box rfl).fld owFile.f2) (tp rfl) (tp rfl) [1] [2] (λ _ st9=>wpList_nil (za (wp_seq (wp_region_list ?_))))
 refine st9.segB 3 (sP 2 (r:=by exact sc rfl (xFa rfl kF72_3 (zz rfl))<|.nil)) [1,14,15] [(2,1),(3,2)] (λ _ _ st10=>?_)
 refine st10.sfA 3 2 ((PV.root.box rfl).fld owFile.f3) (tp rfl) (tp rfl) [1] [2] (λ _ st11=>wpList_nil (za (wp_seq (wp_region_list ?_))))
 refine st11.segB 3 (sP 2 (r:=by exact sc rfl (xFa rfl kF72_4 (zz rfl))<|.nil)) [1,17,18] [(2,1),(3,2)] (λ _ _ st12=>?_)
 refine st12.sfA 3 2 ((PV.root.box rfl).fld owFile.f4) (tp rfl) (tp rfl) [1] [2] (λ _ st13=>wpList_nil (za (wp_seq (wp_region_list ?_))))
 refine st13.segA 2 [20] [(2,1),(3,2)] (λ _ _ st14=>?_)
 obtain⟨v16,p16,h17⟩:=bs h
 refine st14.cN (l:=[.tmp 20]) 0 rfl rfl kN164 (.cons (tp rfl) .nil) (zak p16).n (by simp) [] rfl [2,3] rfl rfl (λ _ _ _ _ st15=>?_)
 refine st15.segB 1 (sc rfl (xFa rfl kF72_5 (zz rfl))<|.nil) [22] [(2,1),(3,2),(21,0)] (λ _ _ st18=>?_)
 refine st18.stO (sb:=3) (tv:=21) 2 0 ((PV.root.box rfl).fld owFile.f5) rfl rfl rfl kT70 (by simp) (by simp) (by decide) (tp rfl) rfl rfl rfl iI iI [] rfl [2] rfl rfl rfl (λ _ _ st19=>wpList_nil (za (wp_seq (wp_region_list ?_))))
 refine st19.ldW (sb:=3) 2 rfl rfl kT72 rfl (by simp) iI [] rfl [2] rfl rfl (λ _ _ st20=>?_)
 refine st20.stO (sb:=2) (tv:=23) 1 2 (PV.root.box rfl) rfl rfl rfl kT72 (by simp) (by simp) (by decide) (zz rfl) rfl rfl rfl iI iI [] rfl [] rfl rfl rfl (λ _ _ st21=>wpList_nil (za (wp_ret ?_)))
 exact st21.rnC 1 rfl kT72 rfl iI h17
def xZ(x0:List File)(s11:(List File)×Int):Option (((List File)×Int)⊕(List File)):=
if(cmpI .lss s11.2 (x0.length:Int))=true then((atI x0 s11.2).bind λ v17=>
(Zf v17).bind λ v21=>
(atI s11.1 s11.2).bind λ _v23=>
(i64 (s11.2+(1:Int))).bind λ v27=>
some (.inl ((s11.1.set s11.2.toNat v21),v27)))
else(some (.inr s11.1))
def qB(x0:List File):Option (List File):=
(YX 6 80 (x0.length:Int) zFile).bind λ v4=>
Option.bind (α:=(List File)) (zJ (λ s11=>xZ x0 s11) (v4,(0:Int))) λ o8=>
some o8
theorem zal{x0:List File}{r:List File}(h:qB x0=some r):FnN prog 101 [dt x0] (.ow (Ow.row 72 (owFile (Ow.row 159 (Ow.frz (α:=Stmt))))) r):=by
 unfold qB at h
 refine fnN (fn:=f101) 2 func101 rfl (oD rfl) rfl (λ M w0 _ st0=>?_)
 refine st0.sq2 (sc rfl (oA rfl (qg (α:=File)))<|.nil) [0] (λ _ _ st1=>wp_seq (wp_region_list ?_))
 refine st1.segA 2 [0,6] [] (λ _ _ st2=>?_)
 obtain⟨v4,p4,h5⟩:=bs h
 refine st2.makeW (ow:=(owFile (Ow.row 159 (Ow.frz (α:=Stmt))))) 0 rfl rfl kE41 kZ72 (owFile.z Ow.row_z) rfl (by simp) p4 [0] rfl [] rfl rfl (λ _ _ _ _ st3=>?_)
 refine st3.nmR (s:=7) 0 rfl rfl iI [] rfl (λ g6 A6 _ hA6 st6=>?_)
 refine st6.segA 1 [0] [(3,0)] (λ _ _ st7=>wpList_nil (za ?_))
 obtain⟨o8,p8,k8⟩:=bs h5
 refine zl (λ a w=>∃ M1 q8_0 q8_1,Sx (Frm.of w0) 23 M M1 [q8_0,q8_1] [] [(3,0,dow (Ow.row 72 (owFile (Ow.row 159 (Ow.frz (α:=Stmt))))) q8_0 o8)] a w) ?_ ?_
 ·
  refine st7.sqA [0,4] [(3,0)] (λ _ _ st9=>wp_block ?_)
  have st10:=st9.unm (s:=3) 0 rfl rfl iI [] rfl
  refine zA p8 (λ s11 a w=>∃ M1 q11_0 q11_1,Sx (Frm.of w0) 23 M M1 [q11_0,q11_1] [(0,dt x0),(4,dt s11.2)] [(3,0,dow (Ow.row 72 (owFile (Ow.row 159 (Ow.frz (α:=Stmt))))) q11_0 s11.1)] a w) fx ?_
  rintro s11 z11 a11 w11 ⟨M11,q11_0,q11_1,st11⟩ hs11 hx11
  have h12:xZ x0 s11=some z11:=hs11
  unfold xZ at h12
  refine wp_seq ?_
  refine st11.sqA [0,4,11] [(3,0)] (λ _ _ st13=>?_)
  refine st13.cs rfl h12 (λ _ h14=>wp_skip (za (wp_seq (wp_block (wp_region_list ?_))))) (λ _ h15=>wp_exit (ze (ze (zw ?_))))
  ·
   obtain⟨v17,p17,h18⟩:=bs h14
   refine st13.nmR (s:=3) 0 rfl rfl iI [] rfl (λ g16 A16 _ hA16 st16=>?_)
   refine st16.segA 6 [0,4,15,19] [(3,0),(14,0)] (λ _ _ st19=>?_)
   obtain⟨v21,p21,h22⟩:=bs h18
   refine st19.cN (l:=[.tmp 19]) 1 rfl rfl kN138 (.cons (tp rfl) .nil) (laws_toFile_w p21) (by simp) [0,4,15] rfl [3,14] rfl rfl (λ _ _ _ _ st20=>?_)
   obtain⟨v23,p23,h24⟩:=bs h22
   refine st20.segB 1 (sc rfl (xIaN rfl kS41 rfl (tp rfl) hA16 p23)<|.nil) [0,4,21] [(3,0),(14,0),(20,1)] (λ _ _ st25=>?_)
   refine st25.stO (sb:=3) (tv:=20) 0 1 (PV.root.row rfl hA16 p23) rfl rfl rfl kT72 (by simp) (by simp) (by decide) (tp rfl) rfl rfl rfl iI iI [0,4] rfl [] rfl rfl rfl (λ _ _ st26=>wpList_nil (zk (za ?_)))
   obtain⟨v27,p27,h28⟩:=bs h24
   refine st26.rgA [0,4] [(3,0)] (λ _ _ st29=>?_)
   have st30:=st29.unm (s:=3) 0 rfl rfl iI [] rfl
   refine za ?_
   exact fl h28
  refine za ?_
  have h31:=lo h15 hx11
  cases h31
  exact fx
 rintro a8 w8 ⟨M8,q8_0,q8_1,st8⟩
 have h32:=k8
 refine st8.nmR (s:=3) 0 rfl rfl iI [] rfl (λ g33 A33 _ hA33 st33=>?_)
 refine st33.sqA [] [(2,0)] (λ _ _ st34=>wp_ret ?_)
 have st35:=st34.unm (s:=2) 0 rfl rfl iI [] rfl
 exact st35.rnO 0 rfl rfl iI h32
def Zg(x0:Tree):Option Tree:=
(qB x0.files).bind λ v6=>
some (⟨v6⟩:Tree)
theorem laws_toTree_w{x0:Tree}{r:Tree}(h:Zg x0=some r):FnN prog 55 [dt x0] (.ow (owTree (Ow.row 72 (owFile (Ow.row 159 (Ow.frz (α:=Stmt)))))) r):=by
 unfold Zg at h
 refine fnN (fn:=f55) 3 func55 rfl (oD rfl) rfl (λ M _ _ st0=>wp_seq (wp_region_list ?_))
 refine st0.segA 1 [1] [] (λ _ _ st1=>?_)
 refine st1.alcW (ow:=(owTree (Ow.row 72 (owFile (Ow.row 159 (Ow.frz (α:=Stmt))))))) 1 rfl rfl kZ43 (owTree.z Ow.row_z) (by simp) [1] rfl [] rfl rfl (λ b2 _ _ _ st2=>wpList_nil (za (wp_seq (wp_region_list ?_))))
 refine st2.alcW (ow:=(owTree (Ow.row 72 (owFile (Ow.row 159 (Ow.frz (α:=Stmt))))))) 2 rfl rfl kZ43 (owTree.z Ow.row_z) (by simp) [1] rfl [2] rfl rfl (λ b3 _ _ _ st3=>wpList_nil (za (wp_seq (wp_region_list ?_))))
 refine st3.segA 2 [5] [(2,1),(3,2)] (λ _ _ st4=>?_)
 obtain⟨v6,p6,h7⟩:=bs h
 refine st4.cN (l:=[.tmp 5]) 0 rfl rfl kN101 (.cons (tp rfl) .nil) (zal p6) (by simp) [] rfl [2,3] rfl rfl (λ _ _ _ _ st5=>?_)
 refine st5.segB 1 (sc rfl (xFa rfl kF43_0 (zz rfl))<|.nil) [7] [(2,1),(3,2),(6,0)] (λ _ _ st8=>?_)
 refine st8.stO (sb:=3) (tv:=6) 2 0 ((PV.root.box rfl).fld owTree.f0) rfl rfl rfl kT41 (by simp) (by simp) (by decide) (tp rfl) rfl rfl rfl iI iI [] rfl [2] rfl rfl rfl (λ _ _ st9=>wpList_nil (za (wp_seq (wp_region_list ?_))))
 refine st9.ldW (sb:=3) 2 rfl rfl kT43 rfl (by simp) iI [] rfl [2] rfl rfl (λ _ _ st10=>?_)
 refine st10.stO (sb:=2) (tv:=8) 1 2 (PV.root.box rfl) rfl rfl rfl kT43 (by simp) (by simp) (by decide) (zz rfl) rfl rfl rfl iI iI [] rfl [] rfl rfl rfl (λ _ _ st11=>wpList_nil (za (wp_ret ?_)))
 exact st11.rnC 1 rfl kT43 rfl iI h7
def xp(x0:List Str)(s10:(List Str)×Int):Option (((List Str)×Int)⊕(List Str)):=
if(cmpI .lss s10.2 (x0.length:Int))=true then((atI x0 s10.2).bind λ v15=>
(atI s10.1 s10.2).bind λ _v16=>
(setO s10.1 s10.2 v15).bind λ v22=>
(i64 (s10.2+(1:Int))).bind λ v24=>
some (.inl (v22,v24)))
else(some (.inr s10.1))
def jy(x0:List Str):Option (List Str):=
(YX 1 16 (x0.length:Int) zStr).bind λ v5=>
Option.bind (α:=(List Str)) (zJ (λ s10=>xp x0 s10) (v5,(0:Int))) λ o8=>
some o8
theorem Qu{x0:List Str}{r:List Str}(h:jy x0=some r):FnOwn prog 137 [dt x0] 9 r:=by
 unfold jy at h
 refine fnxO (fn:=f137) 1 func137 rfl (oD rfl) rfl (λ M w0 _ st0=>?_)
 refine st0.sq2 (sc rfl (oA rfl (ZD (α:=Str) (e:=9)))<|.nil) [0] (λ _ _ st1=>wp_seq (wp_region_list ?_))
 refine st1.segA 2 [0,6] [] (λ _ _ st2=>?_)
 obtain⟨v5,p5,h6⟩:=bs h
 refine st2.make 0 rfl rfl kE75 kZ9 YY rfl (by simp) p5 [0] rfl [] rfl rfl (λ g4 _ _ _ st4=>?_)
 refine st4.segA 1 [0] [(3,0)] (λ _ _ st7=>wpList_nil (za ?_))
 obtain⟨o8,p8,k8⟩:=bs h6
 refine zl (λ a w=>∃ M1 q8_0,Sx (Frm.of w0) 22 M M1 [oneB q8_0] [] [(3,0,dtip q8_0 9 o8)] a w) ?_ ?_
 ·
  refine st7.sqA [0,4] [(3,0)] (λ _ _ st9=>wp_block ?_)
  refine zA p8 (λ s10 a w=>∃ M1 q10_0,Sx (Frm.of w0) 22 M M1 [oneB q10_0] [(0,dt x0),(4,dt s10.2)] [(3,0,dtip q10_0 9 s10.1)] a w) fx ?_
  rintro s10 z10 a10 w10 ⟨M10,q10_0,st10⟩ hs10 hx10
  have h11:xp x0 s10=some z10:=hs10
  unfold xp at h11
  refine wp_seq ?_
  refine st10.sqA [0,4,11] [(3,0)] (λ _ _ st12=>?_)
  refine st12.cs rfl h11 (λ _ h13=>wp_skip (za (wp_seq (wp_block (wp_region_list ?_))))) (λ _ h14=>wp_exit (ze (ze (zw ?_))))
  ·
   obtain⟨v15,p15,v16,p16,h18⟩:=bsB h13
   refine st12.segB 7 (sP 6 (r:=by exact sc rfl (xIdxT rfl kS75 (tp rfl) (tp rfl) p16)<|.nil)) [0,4,19] [(3,0),(20,0)] (λ _ _ st19=>?_)
   obtain⟨v22,p22,h23⟩:=bs h18
   refine st19.storeT (sb:=3) 0 rfl rfl rfl kT9 rfl rfl (tp rfl) rfl p22 [0,4] rfl [] rfl rfl (λ _ _ st21=>wpList_nil (zk (za ?_)))
   obtain⟨v24,p24,h25⟩:=bs h23
   refine st21.rgA [0,4] [(3,0)] (λ _ _ st26=>za ?_)
   exact fl h25
  refine za ?_
  have h27:=lo h14 hx10
  cases h27
  exact fx
 rintro a8 w8 ⟨M8,q8_0,st8⟩
 have h28:=k8
 refine st8.sqA [] [(2,0)] (λ _ _ st29=>wp_ret ?_)
 exact st29.ret_own 0 rfl rfl iI h28
def ZR(x0:Dir):Option Dir:=
(jy x0.names).bind λ v12=>
some (⟨x0.root,x0.pkg,x0.stamp,v12⟩:Dir)
theorem laws_toDir_w{x0:Dir}{r:Dir}(h:ZR x0=some r):FnN prog 100 [dt x0] (.ow (owDir (Ow.row 9 (Ow.frz (α:=Str)))) r):=by
 unfold ZR at h
 refine fnN (fn:=f100) 3 func100 rfl (oD rfl) rfl (λ M _ _ st0=>wp_seq (wp_region_list ?_))
 refine st0.segA 1 [1] [] (λ _ _ st1=>?_)
 refine st1.alcW (ow:=(owDir (Ow.row 9 (Ow.frz (α:=Str))))) 1 rfl rfl kZ77 (owDir.z Ow.row_z) (by simp) [1] rfl [] rfl rfl (λ b2 _ _ _ st2=>wpList_nil (za (wp_seq (wp_region_list ?_))))
 refine st2.alcW (ow:=(owDir (Ow.row 9 (Ow.frz (α:=Str))))) 2 rfl rfl kZ77 (owDir.z Ow.row_z) (by simp) [1] rfl [2] rfl rfl (λ b3 _ _ _ st3=>wpList_nil (za (wp_seq (wp_region_list ?_))))
 refine st3.segB 3 (sP 2 (r:=by exact sc rfl (xFa rfl Jq (zz rfl))<|.nil)) [1,5,6] [(2,1),(3,2)] (λ _ _ st4=>?_)
 refine st4.sfA 3 2 ((PV.root.box rfl).fld owDir.f0) (tp rfl) (tp rfl) [1] [2] (λ _ st5=>wpList_nil (za (wp_seq (wp_region_list ?_))))
 refine st5.segB 3 (sP 2 (r:=by exact sc rfl (xFa rfl Wo (zz rfl))<|.nil)) [1,8,9] [(2,1),(3,2)] (λ _ _ st6=>?_)
 refine st6.sfA 3 2 ((PV.root.box rfl).fld owDir.f1) (tp rfl) (tp rfl) [1] [2] (λ _ st7=>wpList_nil (za (wp_seq (wp_region_list ?_))))
 refine st7.segB 3 (sP 2 (r:=by exact sc rfl (xFa rfl Wp (zz rfl))<|.nil)) [1,11,12] [(2,1),(3,2)] (λ _ _ st8=>?_)
 refine st8.sfA 3 2 ((PV.root.box rfl).fld owDir.f2) (tp rfl) (tp rfl) [1] [2] (λ _ st9=>wpList_nil (za (wp_seq (wp_region_list ?_))))
 refine st9.segA 2 [14] [(2,1),(3,2)] (λ _ _ st10=>?_)
 obtain⟨v12,p12,h13⟩:=bs h
 refine st10.cN (l:=[.tmp 14]) 0 rfl rfl kN137 (.cons (tp rfl) .nil) (Qu p12).n (by simp) [] rfl [2,3] rfl rfl (λ _ _ _ _ st11=>?_)
 refine st11.segB 1 (sc rfl (xFa rfl Xf (zz rfl))<|.nil) [16] [(2,1),(3,2),(15,0)] (λ _ _ st14=>?_)
 refine st14.stO (sb:=3) (tv:=15) 2 0 ((PV.root.box rfl).fld owDir.f3) rfl rfl rfl kT75 (by simp) (by simp) (by decide) (tp rfl) rfl rfl rfl iI iI [] rfl [2] rfl rfl rfl (λ _ _ st15=>wpList_nil (za (wp_seq (wp_region_list ?_))))
 refine st15.ldW (sb:=3) 2 rfl rfl kT77 rfl (by simp) iI [] rfl [2] rfl rfl (λ _ _ st16=>?_)
 refine st16.stO (sb:=2) (tv:=17) 1 2 (PV.root.box rfl) rfl rfl rfl kT77 (by simp) (by simp) (by decide) (zz rfl) rfl rfl rfl iI iI [] rfl [] rfl rfl rfl (λ _ _ st17=>wpList_nil (za (wp_ret ?_)))
 exact st17.rnC 1 rfl kT77 rfl iI h13
def wt(x0:List Dir)(s11:(List Dir)×Int):Option (((List Dir)×Int)⊕(List Dir)):=
if(cmpI .lss s11.2 (x0.length:Int))=true then((atI x0 s11.2).bind λ v17=>
(ZR v17).bind λ v21=>
(atI s11.1 s11.2).bind λ _v23=>
(i64 (s11.2+(1:Int))).bind λ v27=>
some (.inl ((s11.1.set s11.2.toNat v21),v27)))
else(some (.inr s11.1))
def j6(x0:List Dir):Option (List Dir):=
(YX 4 56 (x0.length:Int) zDir).bind λ v4=>
Option.bind (α:=(List Dir)) (zJ (λ s11=>wt x0 s11) (v4,(0:Int))) λ o8=>
some o8
theorem W3{x0:List Dir}{r:List Dir}(h:j6 x0=some r):FnN prog 54 [dt x0] (.ow (Ow.row 77 (owDir (Ow.row 9 (Ow.frz (α:=Str))))) r):=by
 unfold j6 at h
 refine fnN (fn:=f54) 2 func54 rfl (oD rfl) rfl (λ M w0 _ st0=>?_)
 refine st0.sq2 (sc rfl (oA rfl (qg (α:=Dir)))<|.nil) [0] (λ _ _ st1=>wp_seq (wp_region_list ?_))
 refine st1.segA 2 [0,6] [] (λ _ _ st2=>?_)
 obtain⟨v4,p4,h5⟩:=bs h
 refine st2.makeW (ow:=(owDir (Ow.row 9 (Ow.frz (α:=Str))))) 0 rfl rfl kE33 kZ77 (owDir.z Ow.row_z) rfl (by simp) p4 [0] rfl [] rfl rfl (λ _ _ _ _ st3=>?_)
 refine st3.nmR (s:=7) 0 rfl rfl iI [] rfl (λ g6 A6 _ hA6 st6=>?_)
 refine st6.segA 1 [0] [(3,0)] (λ _ _ st7=>wpList_nil (za ?_))
 obtain⟨o8,p8,k8⟩:=bs h5
 refine zl (λ a w=>∃ M1 q8_0 q8_1,Sx (Frm.of w0) 23 M M1 [q8_0,q8_1] [] [(3,0,dow (Ow.row 77 (owDir (Ow.row 9 (Ow.frz (α:=Str))))) q8_0 o8)] a w) ?_ ?_
 ·
  refine st7.sqA [0,4] [(3,0)] (λ _ _ st9=>wp_block ?_)
  have st10:=st9.unm (s:=3) 0 rfl rfl iI [] rfl
  refine zA p8 (λ s11 a w=>∃ M1 q11_0 q11_1,Sx (Frm.of w0) 23 M M1 [q11_0,q11_1] [(0,dt x0),(4,dt s11.2)] [(3,0,dow (Ow.row 77 (owDir (Ow.row 9 (Ow.frz (α:=Str))))) q11_0 s11.1)] a w) fx ?_
  rintro s11 z11 a11 w11 ⟨M11,q11_0,q11_1,st11⟩ hs11 hx11
  have h12:wt x0 s11=some z11:=hs11
  unfold wt at h12
  refine wp_seq ?_
  refine st11.sqA [0,4,11] [(3,0)] (λ _ _ st13=>?_)
  refine st13.cs rfl h12 (λ _ h14=>wp_skip (za (wp_seq (wp_block (wp_region_list ?_))))) (λ _ h15=>wp_exit (ze (ze (zw ?_))))
  ·
   obtain⟨v17,p17,h18⟩:=bs h14
   refine st13.nmR (s:=3) 0 rfl rfl iI [] rfl (λ g16 A16 _ hA16 st16=>?_)
   refine st16.segA 6 [0,4,15,19] [(3,0),(14,0)] (λ _ _ st19=>?_)
   obtain⟨v21,p21,h22⟩:=bs h18
   refine st19.cN (l:=[.tmp 19]) 1 rfl rfl kN100 (.cons (tp rfl) .nil) (laws_toDir_w p21) (by simp) [0,4,15] rfl [3,14] rfl rfl (λ _ _ _ _ st20=>?_)
   obtain⟨v23,p23,h24⟩:=bs h22
   refine st20.segB 1 (sc rfl (xIaN rfl kS33 rfl (tp rfl) hA16 p23)<|.nil) [0,4,21] [(3,0),(14,0),(20,1)] (λ _ _ st25=>?_)
   refine st25.stO (sb:=3) (tv:=20) 0 1 (PV.root.row rfl hA16 p23) rfl rfl rfl kT77 (by simp) (by simp) (by decide) (tp rfl) rfl rfl rfl iI iI [0,4] rfl [] rfl rfl rfl (λ _ _ st26=>wpList_nil (zk (za ?_)))
   obtain⟨v27,p27,h28⟩:=bs h24
   refine st26.rgA [0,4] [(3,0)] (λ _ _ st29=>?_)
   have st30:=st29.unm (s:=3) 0 rfl rfl iI [] rfl
   refine za ?_
   exact fl h28
  refine za ?_
  have h31:=lo h15 hx11
  cases h31
  exact fx
 rintro a8 w8 ⟨M8,q8_0,q8_1,st8⟩
 have h32:=k8
 refine st8.nmR (s:=3) 0 rfl rfl iI [] rfl (λ g33 A33 _ hA33 st33=>?_)
 refine st33.sqA [] [(2,0)] (λ _ _ st34=>wp_ret ?_)
 have st35:=st34.unm (s:=2) 0 rfl rfl iI [] rfl
 exact st35.rnO 0 rfl rfl iI h32
def xy(x0:Finder):Option Finder:=
(j6 x0.dirs).bind λ v6=>
some (⟨v6,x0.fills,x0.hits⟩:Finder)
theorem yy{x0:Finder}{r:Finder}(h:xy x0=some r):FnN prog 11 [dt x0] (.ow (owFinder (Ow.row 77 (owDir (Ow.row 9 (Ow.frz (α:=Str)))))) r):=by
 unfold xy at h
 refine fnN (fn:=f11) 3 func11 rfl (oD rfl) rfl (λ M _ _ st0=>wp_seq (wp_region_list ?_))
 refine st0.segA 1 [1] [] (λ _ _ st1=>?_)
 refine st1.alcW (ow:=(owFinder (Ow.row 77 (owDir (Ow.row 9 (Ow.frz (α:=Str))))))) 1 rfl rfl kZ35 (owFinder.z Ow.row_z) (by simp) [1] rfl [] rfl rfl (λ b2 _ _ _ st2=>wpList_nil (za (wp_seq (wp_region_list ?_))))
 refine st2.alcW (ow:=(owFinder (Ow.row 77 (owDir (Ow.row 9 (Ow.frz (α:=Str))))))) 2 rfl rfl kZ35 (owFinder.z Ow.row_z) (by simp) [1] rfl [2] rfl rfl (λ b3 _ _ _ st3=>wpList_nil (za (wp_seq (wp_region_list ?_))))
 refine st3.segA 2 [1,5] [(2,1),(3,2)] (λ _ _ st4=>?_)
 obtain⟨v6,p6,h7⟩:=bs h
 refine st4.cN (l:=[.tmp 5]) 0 rfl rfl kN54 (.cons (tp rfl) .nil) (W3 p6) (by simp) [1] rfl [2,3] rfl rfl (λ _ _ _ _ st5=>?_)
 refine st5.segB 1 (sc rfl (xFa rfl qx (zz rfl))<|.nil) [1,7] [(2,1),(3,2),(6,0)] (λ _ _ st8=>?_)
 refine st8.stO (sb:=3) (tv:=6) 2 0 ((PV.root.box rfl).fld owFinder.f0) rfl rfl rfl kT33 (by simp) (by simp) (by decide) (tp rfl) rfl rfl rfl iI iI [1] rfl [2] rfl rfl rfl (λ _ _ st9=>wpList_nil (za (wp_seq (wp_region_list ?_))))
 refine st9.segB 3 (sP 2 (r:=by exact sc rfl (xFa rfl Jr (zz rfl))<|.nil)) [1,9,10] [(2,1),(3,2)] (λ _ _ st10=>?_)
 refine st10.sfA 3 2 ((PV.root.box rfl).fld owFinder.f1) (tp rfl) (tp rfl) [1] [2] (λ _ st11=>wpList_nil (za (wp_seq (wp_region_list ?_))))
 refine st11.segB 3 (sP 2 (r:=by exact sc rfl (xFa rfl Js (zz rfl))<|.nil)) [12,13] [(2,1),(3,2)] (λ _ _ st12=>?_)
 refine st12.sfA 3 2 ((PV.root.box rfl).fld owFinder.f2) (tp rfl) (tp rfl) [] [2] (λ _ st13=>wpList_nil (za (wp_seq (wp_region_list ?_))))
 refine st13.ldW (sb:=3) 2 rfl rfl kT35 rfl (by simp) iI [] rfl [2] rfl rfl (λ _ _ st14=>?_)
 refine st14.stO (sb:=2) (tv:=14) 1 2 (PV.root.box rfl) rfl rfl rfl kT35 (by simp) (by simp) (by decide) (zz rfl) rfl rfl rfl iI iI [] rfl [] rfl rfl rfl (λ _ _ st15=>wpList_nil (za (wp_ret ?_)))
 exact st15.rnC 1 rfl kT35 rfl iI h7
def wk(x0:Disk):Option Disk:=
(Zg x0.tree).bind λ v8=>
(j6 x0.dirs).bind λ v18=>
some (⟨v8,x0.clock,v18⟩:Disk)
theorem y8{x0:Disk}{r:Disk}(h:wk x0=some r):FnN prog 12 [dt x0] (.ow (owDisk (owTree (Ow.row 72 (owFile (Ow.row 159 (Ow.frz (α:=Stmt)))))) (Ow.row 77 (owDir (Ow.row 9 (Ow.frz (α:=Str)))))) r):=by
 unfold wk at h
 refine fnN (fn:=f12) 4 func12 rfl (oD rfl) rfl (λ M _ _ st0=>wp_seq (wp_region_list ?_))
 refine st0.segA 1 [1] [] (λ _ _ st1=>?_)
 refine st1.alcW (ow:=(owDisk (owTree (Ow.row 72 (owFile (Ow.row 159 (Ow.frz (α:=Stmt)))))) (Ow.row 77 (owDir (Ow.row 9 (Ow.frz (α:=Str))))))) 2 rfl rfl kZ45 (owDisk.z (owTree.z Ow.row_z) Ow.row_z) (by simp) [1] rfl [] rfl rfl (λ b2 _ _ _ st2=>?_)
 have st3:=st2.gn
 refine wpList_nil (za (wp_seq (wp_region_list ?_)))
 refine st3.alcW (ow:=(owDisk (owTree (Ow.row 72 (owFile (Ow.row 159 (Ow.frz (α:=Stmt)))))) (Ow.row 77 (owDir (Ow.row 9 (Ow.frz (α:=Str))))))) 3 rfl rfl kZ45 (owDisk.z (owTree.z Ow.row_z) Ow.row_z) (by simp) [1] rfl [2] rfl rfl (λ b4 _ _ _ st4=>?_)
 have st5:=st4.gn
 refine wpList_nil (za (wp_seq (wp_region_list ?_)))
 refine st5.segA 2 [1,5] [(2,2),(3,3)] (λ _ _ st6=>?_)
 obtain⟨v8,p8,h9⟩:=bs h
 refine st6.cN (l:=[.tmp 5]) 0 rfl rfl kN55 (.cons (tp rfl) .nil) (laws_toTree_w p8) (by simp) [1] rfl [2,3] rfl rfl (λ _ _ _ _ st7=>?_)
 have st10:=st7.gn
 refine st10.segB 1 (sc rfl (xFa rfl kF45_0 (zz rfl))<|.nil) [1,7] [(2,2),(3,3),(6,0)] (λ _ _ st11=>?_)
 refine st11.stO (sb:=3) (tv:=6) 3 0 ((PV.root.box rfl).fld owDisk.f0) rfl rfl rfl kT43 (by simp) (by simp) (by decide) (tp rfl) rfl rfl rfl iI iI [1] rfl [2] rfl rfl rfl (λ _ _ st12=>?_)
 have st13:=st12.gn
 refine wpList_nil (za (wp_seq (wp_region_list ?_)))
 refine st13.segB 3 (sP 2 (r:=by exact sc rfl (xFa rfl kF45_1 (zz rfl))<|.nil)) [1,9,10] [(2,2),(3,3)] (λ _ _ st14=>?_)
 refine st14.sfA 3 3 ((PV.root.box rfl).fld owDisk.f1) (tp rfl) (tp rfl) [1] [2] (λ _ st15=>wpList_nil (za (wp_seq (wp_region_list ?_))))
 refine st15.segA 2 [12] [(2,2),(3,3)] (λ _ _ st16=>?_)
 obtain⟨v18,p18,h19⟩:=bs h9
 refine st16.cN (l:=[.tmp 12]) 1 rfl rfl kN54 (.cons (tp rfl) .nil) (W3 p18) (by simp) [] rfl [2,3] rfl rfl (λ _ _ _ _ st17=>?_)
 have st20:=st17.gn
 refine st20.segB 1 (sc rfl (xFa rfl kF45_2 (zz rfl))<|.nil) [14] [(2,2),(3,3),(13,1)] (λ _ _ st21=>?_)
 refine st21.stO (sb:=3) (tv:=13) 3 1 ((PV.root.box rfl).fld owDisk.f2) rfl rfl rfl kT33 (by simp) (by simp) (by decide) (tp rfl) rfl rfl rfl iI iI [] rfl [2] rfl rfl rfl (λ _ _ st22=>?_)
 have st23:=st22.gn
 refine wpList_nil (za (wp_seq (wp_region_list ?_)))
 refine st23.ldW (sb:=3) 3 rfl rfl kT45 rfl (by simp) iI [] rfl [2] rfl rfl (λ _ _ st24=>?_)
 refine st24.stO (sb:=2) (tv:=15) 2 3 (PV.root.box rfl) rfl rfl rfl kT45 (by simp) (by simp) (by decide) (zz rfl) rfl rfl rfl iI iI [] rfl [] rfl rfl rfl (λ _ _ st25=>?_)
 have st26:=st25.gn
 refine wpList_nil (za (wp_ret ?_))
 exact st26.rnC 2 rfl kT45 rfl iI h19
def Zh(x0:Stmt)(x1:Stmt):Option Bool:=
if(cmpI .neq x0.kind x1.kind)=true then(some false)
else(if(decide (x0.module≠x1.module))=true then(some false)
else(if(cmpI .neq x0.level x1.level)=true then(some false)
else(if(decide (x0.name≠x1.name))=true then(some false)
else(if(cmpI .neq x0.value x1.value)=true then(some false)
else(some true)))))
theorem laws_eqStmt_w{x0:Stmt}{x1:Stmt}{r:Bool}(h:Zh x0 x1=some r):Fn prog 181 [dt x0,dt x1] (dt r):=by
 unfold Zh at h
 refine fnx (fn:=f181) 0 func181 rfl (oD rfl) rfl (λ M _ _ st0=>?_)
 refine st0.sq1 [2,3] (λ _ _ st1=>wp_seq ?_)
 refine st1.sq1 [2,3,9] (λ _ _ st2=>?_)
 refine st2.cs rfl h (λ _ h3=>?_) (λ _ h4=>wp_skip (za (wp_seq ?_)))
 ·
  refine st2.sq1 [4] (λ _ _ st5=>wp_ret (zd ?_))
  exact st5.ret rfl rfl h3
 refine st2.sq1 [2,3,14] (λ _ _ st6=>?_)
 refine st6.cs rfl h4 (λ _ h7=>?_) (λ _ h8=>wp_skip (za (wp_seq ?_)))
 ·
  refine st6.sq1 [4] (λ _ _ st9=>wp_ret (zd ?_))
  exact st9.ret rfl rfl h7
 refine st6.sq1 [2,3,19] (λ _ _ st10=>?_)
 refine st10.cs rfl h8 (λ _ h11=>?_) (λ _ h12=>wp_skip (za (wp_seq ?_)))
 ·
  refine st10.sq1 [4] (λ _ _ st13=>wp_ret (zd ?_))
  exact st13.ret rfl rfl h11
 refine st10.sq1 [2,3,24] (λ _ _ st14=>?_)
 refine st14.cs rfl h12 (λ _ h15=>?_) (λ _ h16=>wp_skip (za (wp_seq ?_)))
 ·
  refine st14.sq1 [4] (λ _ _ st17=>wp_ret (zd ?_))
  exact st17.ret rfl rfl h15
 refine st14.sq1 [29] (λ _ _ st18=>?_)
 refine st18.cs rfl h16 (λ _ h19=>?_) (λ _ h20=>wp_skip (za ?_))
 ·
  refine st18.sq1 [4] (λ _ _ st21=>wp_ret (zd ?_))
  exact st21.ret rfl rfl h19
 refine st18.sq1 [4] (λ _ _ st22=>wp_ret ?_)
 exact st22.ret rfl rfl h20
def wY(x0:List Stmt)(x1:List Stmt)(s8:Int):Option (Int⊕(Unit⊕Bool)):=
if(cmpI .lss s8 (x0.length:Int))=true then((atI x0 s8).bind λ v13=>
(atI x1 s8).bind λ v14=>
(Zh v13 v14).bind λ v15=>
if(!v15)=true then(some (.inr (.inr false)))
else((i64 (s8+(1:Int))).bind λ v25=>
some (.inl v25)))
else(some (.inr (.inl ())))
def qC(x0:List Stmt)(x1:List Stmt):Option Bool:=
if(cmpI .neq (x0.length:Int) (x1.length:Int))=true then(some false)
else(Option.bind (α:=Unit⊕Bool) (zJ (λ s8=>wY x0 x1 s8) (0:Int)) (Sum.elim (λ _b6=>
some true) some))
theorem zam{x0:List Stmt}{x1:List Stmt}{r:Bool}(h:qC x0 x1=some r):Fn prog 166 [dt x0,dt x1] (dt r):=by
 unfold qC at h
 refine fnx (fn:=f166) 0 func166 rfl (oD rfl) rfl (λ M w0 _ st0=>?_)
 refine st0.sq1 [0,1] (λ _ _ st1=>wp_seq ?_)
 refine st1.sq1 [0,1,10] (λ _ _ st2=>?_)
 refine st2.cs rfl h (λ _ h3=>?_) (λ _ h4=>wp_skip (za ?_))
 ·
  refine st2.sq1 [4] (λ _ _ st5=>wp_ret (zd ?_))
  exact st5.ret rfl rfl h3
 obtain⟨o6,p6,k6⟩:=bs h4
 refine zl (λ a w=>∃ b6,o6=.inl b6/\Sx (Frm.of w0) 27 M M [] [] [] a w) ?_ ?_
 ·
  refine st2.sq1 [0,1,5] (λ _ _ st7=>wp_block ?_)
  refine zA p6 (λ s8 a w=>Sx (Frm.of w0) 27 M M [] [(0,dt x0),(1,dt x1),(5,dt s8)] [] a w) (st7.sel0 [0,1,5] rfl) ?_
  rintro s8 z8 a8 w8 st8 hs8 hx8
  have h9:wY x0 x1 s8=some z8:=hs8
  unfold wY at h9
  refine wp_seq ?_
  refine st8.sq1 [0,1,5,14] (λ _ _ st10=>?_)
  refine st10.cs rfl h9 (λ _ h11=>wp_skip (za (wp_seq (wp_block (wp_seq ?_))))) (λ _ h12=>wp_exit (ze (ze (zw ?_))))
  ·
   obtain⟨v13,p13,v14,p14,v15,p15,h18⟩:=bsC h11
   refine st10.drA (D:=[_,_,_,_,_,_,_,_,_,_]) zI [[(0,nS)],[(5,nS)],[(17,0),(18,1)],[(19,2)],[(1,nS)],[(5,nS)],[(21,4),(22,5)],[(23,6)],[(20,3),(24,7)],[(25,8)]] [0,1,5,26] [] (λ _ _ st19=>?_) (hs:=rc rfl rfl (oM rfl (tp rfl))<|rc rfl rfl (oM rfl (tp rfl))<|rc rfl rfl (xIdx rfl kS70 (tp rfl) (tp rfl) p13)<|rc rfl rfl (zp rfl kT159 (tp rfl))<|rc rfl rfl (oM rfl (tp rfl))<|rc rfl rfl (oM rfl (tp rfl))<|rc rfl rfl (xIdx rfl kS70 (tp rfl) (tp rfl) p14)<|rc rfl rfl (zp rfl kT159 (tp rfl))<|rc rfl rfl (zq (l:=[.tmp 20,.tmp 24]) rfl kN181 (.cons (tp rfl) (.cons (tp rfl) .nil)) (laws_eqStmt_w p15))<|rc rfl rfl (yU rfl (tp rfl))<|.nil)
   refine za ?_
   refine st19.cs rfl h18 (λ _ h20=>?_) (λ _ h21=>wp_skip (zk (za ?_)))
   ·
    refine st19.sq1 [4] (λ _ _ st22=>wp_ret (zn (zd (zd (zn (zd ?_))))))
    have h23:=lo h20 hx8
    have h24:=jo h23 k6
    exact st22.ret rfl rfl h24
   obtain⟨v25,p25,h26⟩:=bs h21
   refine st19.rg1 [0,1,5] (λ _ _ st27=>za ?_)
   exact⟨_,(Option.some.inj h26).symm,st27.sel0 [0,1,5] rfl⟩
  refine za ?_
  have h28:=lo h12 hx8
  exact⟨_,(Option.some.inj h28).symm,st10.sel0 [] rfl⟩
 rintro a6 w6 ⟨b6,rfl,st6⟩
 have h29:=jn k6
 refine st6.sq1 [4] (λ _ _ st30=>wp_ret ?_)
 exact st30.ret rfl rfl h29
def Zi(x0:File)(x1:File):Option Bool:=
if(cmpI .neq x0.root x1.root)=true then(some false)
else(if(decide (x0.pkg≠x1.pkg))=true then(some false)
else(if(decide (x0.name≠x1.name))=true then(some false)
else(if(x0.init != x1.init)=true then(some false)
else(if(cmpI .neq x0.stamp x1.stamp)=true then(some false)
else((qC x0.body x1.body).bind λ v22=>
if(!v22)=true then(some false)
else(some true))))))
theorem laws_eqFile_w{x0:File}{x1:File}{r:Bool}(h:Zi x0 x1=some r):Fn prog 145 [dt x0,dt x1] (dt r):=by
 unfold Zi at h
 refine fnx (fn:=f145) 0 func145 rfl (oD rfl) rfl (λ M _ _ st0=>?_)
 refine st0.sq1 [2,3] (λ _ _ st1=>wp_seq ?_)
 refine st1.sq1 [2,3,9] (λ _ _ st2=>?_)
 refine st2.cs rfl h (λ _ h3=>?_) (λ _ h4=>wp_skip (za (wp_seq ?_)))
 ·
  refine st2.sq1 [4] (λ _ _ st5=>wp_ret (zd ?_))
  exact st5.ret rfl rfl h3
 refine st2.sq1 [2,3,14] (λ _ _ st6=>?_)
 refine st6.cs rfl h4 (λ _ h7=>?_) (λ _ h8=>wp_skip (za (wp_seq ?_)))
 ·
  refine st6.sq1 [4] (λ _ _ st9=>wp_ret (zd ?_))
  exact st9.ret rfl rfl h7
 refine st6.sq1 [2,3,19] (λ _ _ st10=>?_)
 refine st10.cs rfl h8 (λ _ h11=>?_) (λ _ h12=>wp_skip (za (wp_seq ?_)))
 ·
  refine st10.sq1 [4] (λ _ _ st13=>wp_ret (zd ?_))
  exact st13.ret rfl rfl h11
 refine st10.sq2 (sP 4 (r:=by exact sc rfl (op_neT rfl kV4 (tp rfl) (tp rfl))<|.nil)) [2,3,24] (λ _ _ st14=>?_)
 refine st14.cs rfl h12 (λ _ h15=>?_) (λ _ h16=>wp_skip (za (wp_seq ?_)))
 ·
  refine st14.sq1 [4] (λ _ _ st17=>wp_ret (zd ?_))
  exact st17.ret rfl rfl h15
 refine st14.sq1 [2,3,29] (λ _ _ st18=>?_)
 refine st18.cs rfl h16 (λ _ h19=>?_) (λ _ h20=>wp_skip (za (wp_seq ?_)))
 ·
  refine st18.sq1 [4] (λ _ _ st21=>wp_ret (zd ?_))
  exact st21.ret rfl rfl h19
 obtain⟨v22,p22,h23⟩:=bsW h20 zam
 refine st18.sq1 [35] (λ _ _ st24=>?_)
 refine st24.cs rfl h23 (λ _ h25=>?_) (λ _ h26=>wp_skip (za ?_))
 ·
  refine st24.sq1 [4] (λ _ _ st27=>wp_ret (zd ?_))
  exact st27.ret rfl rfl h25
 refine st24.sq1 [4] (λ _ _ st28=>wp_ret ?_)
 exact st28.ret rfl rfl h26
def wZ(x0:List File)(x1:List File)(s8:Int):Option (Int⊕(Unit⊕Bool)):=
if(cmpI .lss s8 (x0.length:Int))=true then((atI x0 s8).bind λ v13=>
(atI x1 s8).bind λ v14=>
(Zi v13 v14).bind λ v15=>
if(!v15)=true then(some (.inr (.inr false)))
else((i64 (s8+(1:Int))).bind λ v25=>
some (.inl v25)))
else(some (.inr (.inl ())))
def qD(x0:List File)(x1:List File):Option Bool:=
if(cmpI .neq (x0.length:Int) (x1.length:Int))=true then(some false)
else(Option.bind (α:=Unit⊕Bool) (zJ (λ s8=>wZ x0 x1 s8) (0:Int)) (Sum.elim (λ _b6=>
some true) some))
theorem zan{x0:List File}{x1:List File}{r:Bool}(h:qD x0 x1=some r):Fn prog 107 [dt x0,dt x1] (dt r):=by
 unfold qD at h
 refine fnx (fn:=f107) 0 func107 rfl (oD rfl) rfl (λ M w0 _ st0=>?_)
 refine st0.sq1 [0,1] (λ _ _ st1=>wp_seq ?_)
 refine st1.sq1 [0,1,10] (λ _ _ st2=>?_)
 refine st2.cs rfl h (λ _ h3=>?_) (λ _ h4=>wp_skip (za ?_))
 ·
  refine st2.sq1 [4] (λ _ _ st5=>wp_ret (zd ?_))
  exact st5.ret rfl rfl h3
 obtain⟨o6,p6,k6⟩:=bs h4
 refine zl (λ a w=>∃ b6,o6=.inl b6/\Sx (Frm.of w0) 27 M M [] [] [] a w) ?_ ?_
 ·
  refine st2.sq1 [0,1,5] (λ _ _ st7=>wp_block ?_)
  refine zA p6 (λ s8 a w=>Sx (Frm.of w0) 27 M M [] [(0,dt x0),(1,dt x1),(5,dt s8)] [] a w) (st7.sel0 [0,1,5] rfl) ?_
  rintro s8 z8 a8 w8 st8 hs8 hx8
  have h9:wZ x0 x1 s8=some z8:=hs8
  unfold wZ at h9
  refine wp_seq ?_
  refine st8.sq1 [0,1,5,14] (λ _ _ st10=>?_)
  refine st10.cs rfl h9 (λ _ h11=>wp_skip (za (wp_seq (wp_block (wp_seq ?_))))) (λ _ h12=>wp_exit (ze (ze (zw ?_))))
  ·
   obtain⟨v13,p13,v14,p14,v15,p15,h18⟩:=bsC h11
   refine st10.drA (D:=[_,_,_,_,_,_,_,_,_,_]) zI [[(0,nS)],[(5,nS)],[(17,0),(18,1)],[(19,2)],[(1,nS)],[(5,nS)],[(21,4),(22,5)],[(23,6)],[(20,3),(24,7)],[(25,8)]] [0,1,5,26] [] (λ _ _ st19=>?_) (hs:=rc rfl rfl (oM rfl (tp rfl))<|rc rfl rfl (oM rfl (tp rfl))<|rc rfl rfl (xIdx rfl kS41 (tp rfl) (tp rfl) p13)<|rc rfl rfl (zp rfl kT72 (tp rfl))<|rc rfl rfl (oM rfl (tp rfl))<|rc rfl rfl (oM rfl (tp rfl))<|rc rfl rfl (xIdx rfl kS41 (tp rfl) (tp rfl) p14)<|rc rfl rfl (zp rfl kT72 (tp rfl))<|rc rfl rfl (zq (l:=[.tmp 20,.tmp 24]) rfl kN145 (.cons (tp rfl) (.cons (tp rfl) .nil)) (laws_eqFile_w p15))<|rc rfl rfl (yU rfl (tp rfl))<|.nil)
   refine za ?_
   refine st19.cs rfl h18 (λ _ h20=>?_) (λ _ h21=>wp_skip (zk (za ?_)))
   ·
    refine st19.sq1 [4] (λ _ _ st22=>wp_ret (zn (zd (zd (zn (zd ?_))))))
    have h23:=lo h20 hx8
    have h24:=jo h23 k6
    exact st22.ret rfl rfl h24
   obtain⟨v25,p25,h26⟩:=bs h21
   refine st19.rg1 [0,1,5] (λ _ _ st27=>za ?_)
   exact⟨_,(Option.some.inj h26).symm,st27.sel0 [0,1,5] rfl⟩
  refine za ?_
  have h28:=lo h12 hx8
  exact⟨_,(Option.some.inj h28).symm,st10.sel0 [] rfl⟩
 rintro a6 w6 ⟨b6,rfl,st6⟩
 have h29:=jn k6
 refine st6.sq1 [4] (λ _ _ st30=>wp_ret ?_)
 exact st30.ret rfl rfl h29
def Zj(x0:Tree)(x1:Tree):Option Bool:=
(qD x0.files x1.files).bind λ v2=>
if(!v2)=true then(some false)
else(some true)
theorem laws_eqTree_w{x0:Tree}{x1:Tree}{r:Bool}(h:Zj x0 x1=some r):Fn prog 62 [dt x0,dt x1] (dt r):=by
 unfold Zj at h
 refine fnx (fn:=f62) 0 func62 rfl (oD rfl) rfl (λ M _ _ st0=>?_)
 refine st0.sq1 [2,3] (λ _ _ st1=>wp_seq ?_)
 obtain⟨v2,p2,h3⟩:=bsW h zan
 refine st1.sq1 [10] (λ _ _ st4=>?_)
 refine st4.cs rfl h3 (λ _ h5=>?_) (λ _ h6=>wp_skip (za ?_))
 ·
  refine st4.sq1 [4] (λ _ _ st7=>wp_ret (zd ?_))
  exact st7.ret rfl rfl h5
 refine st4.sq1 [4] (λ _ _ st8=>wp_ret ?_)
 exact st8.ret rfl rfl h6
def jz(x0:List Int)(x1:List Int)(s8:Int):Option (Int⊕(Unit⊕Bool)):=
if(cmpI .lss s8 (x0.length:Int))=true then((atI x0 s8).bind λ v13=>
(atI x1 s8).bind λ v14=>
if(cmpI .neq v13 v14)=true then(some (.inr (.inr false)))
else((i64 (s8+(1:Int))).bind λ v23=>
some (.inl v23)))
else(some (.inr (.inl ())))
def jg(x0:List Int)(x1:List Int):Option Bool:=
if(cmpI .neq (x0.length:Int) (x1.length:Int))=true then(some false)
else(Option.bind (α:=Unit⊕Bool) (zJ (λ s8=>jz x0 x1 s8) (0:Int)) (Sum.elim (λ _b6=>
some true) some))
theorem W4{x0:List Int}{x1:List Int}{r:Bool}(h:jg x0 x1=some r):Fn prog 18 [dt x0,dt x1] (dt r):=by
 unfold jg at h
 refine fnx (fn:=f18) 0 func18 rfl (oD rfl) rfl (λ M w0 _ st0=>?_)
 refine st0.sq1 [0,1] (λ _ _ st1=>wp_seq ?_)
 refine st1.sq1 [0,1,10] (λ _ _ st2=>?_)
 refine st2.cs rfl h (λ _ h3=>?_) (λ _ h4=>wp_skip (za ?_))
 ·
  refine st2.sq1 [4] (λ _ _ st5=>wp_ret (zd ?_))
  exact st5.ret rfl rfl h3
 obtain⟨o6,p6,k6⟩:=bs h4
 refine zl (λ a w=>∃ b6,o6=.inl b6/\Sx (Frm.of w0) 26 M M [] [] [] a w) ?_ ?_
 ·
  refine st2.sq1 [0,1,5] (λ _ _ st7=>wp_block ?_)
  refine zA p6 (λ s8 a w=>Sx (Frm.of w0) 26 M M [] [(0,dt x0),(1,dt x1),(5,dt s8)] [] a w) (st7.sel0 [0,1,5] rfl) ?_
  rintro s8 z8 a8 w8 st8 hs8 hx8
  have h9:jz x0 x1 s8=some z8:=hs8
  unfold jz at h9
  refine wp_seq ?_
  refine st8.sq1 [0,1,5,14] (λ _ _ st10=>?_)
  refine st10.cs rfl h9 (λ _ h11=>wp_skip (za (wp_seq (wp_block (wp_seq ?_))))) (λ _ h12=>wp_exit (ze (ze (zw ?_))))
  ·
   obtain⟨v13,p13,v14,p14,h16⟩:=bsB h11
   refine st10.drA (D:=[_,_,_,_,_,_,_,_,_]) zI [[(0,nS)],[(5,nS)],[(17,0),(18,1)],[(19,2)],[(1,nS)],[(5,nS)],[(21,4),(22,5)],[(23,6)],[(20,3),(24,7)]] [0,1,5,25] [] (λ _ _ st17=>za ?_)
   refine st17.cs rfl h16 (λ _ h18=>?_) (λ _ h19=>wp_skip (zk (za ?_)))
   ·
    refine st17.sq1 [4] (λ _ _ st20=>wp_ret (zn (zd (zd (zn (zd ?_))))))
    have h21:=lo h18 hx8
    have h22:=jo h21 k6
    exact st20.ret rfl rfl h22
   obtain⟨v23,p23,h24⟩:=bs h19
   refine st17.rg1 [0,1,5] (λ _ _ st25=>za ?_)
   exact⟨_,(Option.some.inj h24).symm,st25.sel0 [0,1,5] rfl⟩
  refine za ?_
  have h26:=lo h12 hx8
  exact⟨_,(Option.some.inj h26).symm,st10.sel0 [] rfl⟩
 rintro a6 w6 ⟨b6,rfl,st6⟩
 have h27:=jn k6
 refine st6.sq1 [4] (λ _ _ st28=>wp_ret ?_)
 exact st28.ret rfl rfl h27
def wg(x0:List Str)(x1:List Str)(s8:Int):Option (Int⊕(Unit⊕Bool)):=
if(cmpI .lss s8 (x0.length:Int))=true then((atI x0 s8).bind λ v13=>
(atI x1 s8).bind λ v14=>
if(decide (v13≠v14))=true then(some (.inr (.inr false)))
else((i64 (s8+(1:Int))).bind λ v23=>
some (.inl v23)))
else(some (.inr (.inl ())))
def jA(x0:List Str)(x1:List Str):Option Bool:=
if(cmpI .neq (x0.length:Int) (x1.length:Int))=true then(some false)
else(Option.bind (α:=Unit⊕Bool) (zJ (λ s8=>wg x0 x1 s8) (0:Int)) (Sum.elim (λ _b6=>
some true) some))
theorem Qv{x0:List Str}{x1:List Str}{r:Bool}(h:jA x0 x1=some r):Fn prog 144 [dt x0,dt x1] (dt r):=by
 unfold jA at h
 refine fnx (fn:=f144) 0 func144 rfl (oD rfl) rfl (λ M w0 _ st0=>?_)
 refine st0.sq1 [0,1] (λ _ _ st1=>wp_seq ?_)
 refine st1.sq1 [0,1,10] (λ _ _ st2=>?_)
 refine st2.cs rfl h (λ _ h3=>?_) (λ _ h4=>wp_skip (za ?_))
 ·
  refine st2.sq1 [4] (λ _ _ st5=>wp_ret (zd ?_))
  exact st5.ret rfl rfl h3
 obtain⟨o6,p6,k6⟩:=bs h4
 refine zl (λ a w=>∃ b6,o6=.inl b6/\Sx (Frm.of w0) 26 M M [] [] [] a w) ?_ ?_
 ·
  refine st2.sq1 [0,1,5] (λ _ _ st7=>wp_block ?_)
  refine zA p6 (λ s8 a w=>Sx (Frm.of w0) 26 M M [] [(0,dt x0),(1,dt x1),(5,dt s8)] [] a w) (st7.sel0 [0,1,5] rfl) ?_
  rintro s8 z8 a8 w8 st8 hs8 hx8
  have h9:wg x0 x1 s8=some z8:=hs8
  unfold wg at h9
  refine wp_seq ?_
  refine st8.sq1 [0,1,5,14] (λ _ _ st10=>?_)
  refine st10.cs rfl h9 (λ _ h11=>wp_skip (za (wp_seq (wp_block (wp_seq ?_))))) (λ _ h12=>wp_exit (ze (ze (zw ?_))))
  ·
   obtain⟨v13,p13,v14,p14,h16⟩:=bsB h11
   refine st10.drA (D:=[_,_,_,_,_,_,_,_,_]) zI [[(0,nS)],[(5,nS)],[(17,0),(18,1)],[(19,2)],[(1,nS)],[(5,nS)],[(21,4),(22,5)],[(23,6)],[(20,3),(24,7)]] [0,1,5,25] [] (λ _ _ st17=>za ?_)
   refine st17.cs rfl h16 (λ _ h18=>?_) (λ _ h19=>wp_skip (zk (za ?_)))
   ·
    refine st17.sq1 [4] (λ _ _ st20=>wp_ret (zn (zd (zd (zn (zd ?_))))))
    have h21:=lo h18 hx8
    have h22:=jo h21 k6
    exact st20.ret rfl rfl h22
   obtain⟨v23,p23,h24⟩:=bs h19
   refine st17.rg1 [0,1,5] (λ _ _ st25=>za ?_)
   exact⟨_,(Option.some.inj h24).symm,st25.sel0 [0,1,5] rfl⟩
  refine za ?_
  have h26:=lo h12 hx8
  exact⟨_,(Option.some.inj h26).symm,st10.sel0 [] rfl⟩
 rintro a6 w6 ⟨b6,rfl,st6⟩
 have h27:=jn k6
 refine st6.sq1 [4] (λ _ _ st28=>wp_ret ?_)
 exact st28.ret rfl rfl h27
def ZS(x0:Dir)(x1:Dir):Option Bool:=
if(cmpI .neq x0.root x1.root)=true then(some false)
else(if(decide (x0.pkg≠x1.pkg))=true then(some false)
else(if(cmpI .neq x0.stamp x1.stamp)=true then(some false)
else((jA x0.names x1.names).bind λ v14=>
if(!v14)=true then(some false)
else(some true))))
theorem laws_eqDir_w{x0:Dir}{x1:Dir}{r:Bool}(h:ZS x0 x1=some r):Fn prog 106 [dt x0,dt x1] (dt r):=by
 unfold ZS at h
 refine fnx (fn:=f106) 0 func106 rfl (oD rfl) rfl (λ M _ _ st0=>?_)
 refine st0.sq1 [2,3] (λ _ _ st1=>wp_seq ?_)
 refine st1.sq1 [2,3,9] (λ _ _ st2=>?_)
 refine st2.cs rfl h (λ _ h3=>?_) (λ _ h4=>wp_skip (za (wp_seq ?_)))
 ·
  refine st2.sq1 [4] (λ _ _ st5=>wp_ret (zd ?_))
  exact st5.ret rfl rfl h3
 refine st2.sq1 [2,3,14] (λ _ _ st6=>?_)
 refine st6.cs rfl h4 (λ _ h7=>?_) (λ _ h8=>wp_skip (za (wp_seq ?_)))
 ·
  refine st6.sq1 [4] (λ _ _ st9=>wp_ret (zd ?_))
  exact st9.ret rfl rfl h7
 refine st6.sq1 [2,3,19] (λ _ _ st10=>?_)
 refine st10.cs rfl h8 (λ _ h11=>?_) (λ _ h12=>wp_skip (za (wp_seq ?_)))
 ·
  refine st10.sq1 [4] (λ _ _ st13=>wp_ret (zd ?_))
  exact st13.ret rfl rfl h11
 obtain⟨v14,p14,h15⟩:=bsW h12 Qv
 refine st10.sq1 [25] (λ _ _ st16=>?_)
 refine st16.cs rfl h15 (λ _ h17=>?_) (λ _ h18=>wp_skip (za ?_))
 ·
  refine st16.sq1 [4] (λ _ _ st19=>wp_ret (zd ?_))
  exact st19.ret rfl rfl h17
 refine st16.sq1 [4] (λ _ _ st20=>wp_ret ?_)
 exact st20.ret rfl rfl h18
def jB(x0:List Dir)(x1:List Dir)(s8:Int):Option (Int⊕(Unit⊕Bool)):=
if(cmpI .lss s8 (x0.length:Int))=true then((atI x0 s8).bind λ v13=>
(atI x1 s8).bind λ v14=>
(ZS v13 v14).bind λ v15=>
if(!v15)=true then(some (.inr (.inr false)))
else((i64 (s8+(1:Int))).bind λ v25=>
some (.inl v25)))
else(some (.inr (.inl ())))
def j7(x0:List Dir)(x1:List Dir):Option Bool:=
if(cmpI .neq (x0.length:Int) (x1.length:Int))=true then(some false)
else(Option.bind (α:=Unit⊕Bool) (zJ (λ s8=>jB x0 x1 s8) (0:Int)) (Sum.elim (λ _b6=>
some true) some))
theorem W5{x0:List Dir}{x1:List Dir}{r:Bool}(h:j7 x0 x1=some r):Fn prog 61 [dt x0,dt x1] (dt r):=by
 unfold j7 at h
 refine fnx (fn:=f61) 0 func61 rfl (oD rfl) rfl (λ M w0 _ st0=>?_)
 refine st0.sq1 [0,1] (λ _ _ st1=>wp_seq ?_)
 refine st1.sq1 [0,1,10] (λ _ _ st2=>?_)
 refine st2.cs rfl h (λ _ h3=>?_) (λ _ h4=>wp_skip (za ?_))
 ·
  refine st2.sq1 [4] (λ _ _ st5=>wp_ret (zd ?_))
  exact st5.ret rfl rfl h3
 obtain⟨o6,p6,k6⟩:=bs h4
 refine zl (λ a w=>∃ b6,o6=.inl b6/\Sx (Frm.of w0) 27 M M [] [] [] a w) ?_ ?_
 ·
  refine st2.sq1 [0,1,5] (λ _ _ st7=>wp_block ?_)
  refine zA p6 (λ s8 a w=>Sx (Frm.of w0) 27 M M [] [(0,dt x0),(1,dt x1),(5,dt s8)] [] a w) (st7.sel0 [0,1,5] rfl) ?_
  rintro s8 z8 a8 w8 st8 hs8 hx8
  have h9:jB x0 x1 s8=some z8:=hs8
  unfold jB at h9
  refine wp_seq ?_
  refine st8.sq1 [0,1,5,14] (λ _ _ st10=>?_)
  refine st10.cs rfl h9 (λ _ h11=>wp_skip (za (wp_seq (wp_block (wp_seq ?_))))) (λ _ h12=>wp_exit (ze (ze (zw ?_))))
  ·
   obtain⟨v13,p13,v14,p14,v15,p15,h18⟩:=bsC h11
   refine st10.drA (D:=[_,_,_,_,_,_,_,_,_,_]) zI [[(0,nS)],[(5,nS)],[(17,0),(18,1)],[(19,2)],[(1,nS)],[(5,nS)],[(21,4),(22,5)],[(23,6)],[(20,3),(24,7)],[(25,8)]] [0,1,5,26] [] (λ _ _ st19=>?_) (hs:=rc rfl rfl (oM rfl (tp rfl))<|rc rfl rfl (oM rfl (tp rfl))<|rc rfl rfl (xIdx rfl kS33 (tp rfl) (tp rfl) p13)<|rc rfl rfl (zp rfl kT77 (tp rfl))<|rc rfl rfl (oM rfl (tp rfl))<|rc rfl rfl (oM rfl (tp rfl))<|rc rfl rfl (xIdx rfl kS33 (tp rfl) (tp rfl) p14)<|rc rfl rfl (zp rfl kT77 (tp rfl))<|rc rfl rfl (zq (l:=[.tmp 20,.tmp 24]) rfl kN106 (.cons (tp rfl) (.cons (tp rfl) .nil)) (laws_eqDir_w p15))<|rc rfl rfl (yU rfl (tp rfl))<|.nil)
   refine za ?_
   refine st19.cs rfl h18 (λ _ h20=>?_) (λ _ h21=>wp_skip (zk (za ?_)))
   ·
    refine st19.sq1 [4] (λ _ _ st22=>wp_ret (zn (zd (zd (zn (zd ?_))))))
    have h23:=lo h20 hx8
    have h24:=jo h23 k6
    exact st22.ret rfl rfl h24
   obtain⟨v25,p25,h26⟩:=bs h21
   refine st19.rg1 [0,1,5] (λ _ _ st27=>za ?_)
   exact⟨_,(Option.some.inj h26).symm,st27.sel0 [0,1,5] rfl⟩
  refine za ?_
  have h28:=lo h12 hx8
  exact⟨_,(Option.some.inj h28).symm,st10.sel0 [] rfl⟩
 rintro a6 w6 ⟨b6,rfl,st6⟩
 have h29:=jn k6
 refine st6.sq1 [4] (λ _ _ st30=>wp_ret ?_)
 exact st30.ret rfl rfl h29
def yh(x0:Finder)(x1:Finder):Option Bool:=
(j7 x0.dirs x1.dirs).bind λ v2=>
if(!v2)=true then(some false)
else(if(cmpI .neq x0.fills x1.fills)=true then(some false)
else(if(cmpI .neq x0.hits x1.hits)=true then(some false)
else(some true)))
theorem Zv{x0:Finder}{x1:Finder}{r:Bool}(h:yh x0 x1=some r):Fn prog 15 [dt x0,dt x1] (dt r):=by
 unfold yh at h
 refine fnx (fn:=f15) 0 func15 rfl (oD rfl) rfl (λ M _ _ st0=>?_)
 refine st0.sq1 [2,3] (λ _ _ st1=>wp_seq ?_)
 obtain⟨v2,p2,h3⟩:=bsW h W5
 refine st1.sq1 [2,3,10] (λ _ _ st4=>?_)
 refine st4.cs rfl h3 (λ _ h5=>?_) (λ _ h6=>wp_skip (za (wp_seq ?_)))
 ·
  refine st4.sq1 [4] (λ _ _ st7=>wp_ret (zd ?_))
  exact st7.ret rfl rfl h5
 refine st4.sq1 [2,3,15] (λ _ _ st8=>?_)
 refine st8.cs rfl h6 (λ _ h9=>?_) (λ _ h10=>wp_skip (za (wp_seq ?_)))
 ·
  refine st8.sq1 [4] (λ _ _ st11=>wp_ret (zd ?_))
  exact st11.ret rfl rfl h9
 refine st8.sq1 [20] (λ _ _ st12=>?_)
 refine st12.cs rfl h10 (λ _ h13=>?_) (λ _ h14=>wp_skip (za ?_))
 ·
  refine st12.sq1 [4] (λ _ _ st15=>wp_ret (zd ?_))
  exact st15.ret rfl rfl h13
 refine st12.sq1 [4] (λ _ _ st16=>wp_ret ?_)
 exact st16.ret rfl rfl h14
def y9(x0:Spec)(x1:Spec):Option Bool:=
if(cmpI .neq x0.kind x1.kind)=true then(some false)
else(if(cmpI .neq x0.file x1.file)=true then(some false)
else((jg x0.roots x1.roots).bind λ v10=>
if(!v10)=true then(some false)
else(some true)))
theorem Xg{x0:Spec}{x1:Spec}{r:Bool}(h:y9 x0 x1=some r):Fn prog 16 [dt x0,dt x1] (dt r):=by
 unfold y9 at h
 refine fnx (fn:=f16) 0 func16 rfl (oD rfl) rfl (λ M _ _ st0=>?_)
 refine st0.sq1 [2,3] (λ _ _ st1=>wp_seq ?_)
 refine st1.sq1 [2,3,9] (λ _ _ st2=>?_)
 refine st2.cs rfl h (λ _ h3=>?_) (λ _ h4=>wp_skip (za (wp_seq ?_)))
 ·
  refine st2.sq1 [4] (λ _ _ st5=>wp_ret (zd ?_))
  exact st5.ret rfl rfl h3
 refine st2.sq1 [2,3,14] (λ _ _ st6=>?_)
 refine st6.cs rfl h4 (λ _ h7=>?_) (λ _ h8=>wp_skip (za (wp_seq ?_)))
 ·
  refine st6.sq1 [4] (λ _ _ st9=>wp_ret (zd ?_))
  exact st9.ret rfl rfl h7
 obtain⟨v10,p10,h11⟩:=bsW h8 W4
 refine st6.sq1 [20] (λ _ _ st12=>?_)
 refine st12.cs rfl h11 (λ _ h13=>?_) (λ _ h14=>wp_skip (za ?_))
 ·
  refine st12.sq1 [4] (λ _ _ st15=>wp_ret (zd ?_))
  exact st15.ret rfl rfl h13
 refine st12.sq1 [4] (λ _ _ st16=>wp_ret ?_)
 exact st16.ret rfl rfl h14
def j8(x0:Disk)(x1:Disk):Option Bool:=
(Zj x0.tree x1.tree).bind λ v2=>
if(!v2)=true then(some false)
else(if(cmpI .neq x0.clock x1.clock)=true then(some false)
else((j7 x0.dirs x1.dirs).bind λ v12=>
if(!v12)=true then(some false)
else(some true)))
theorem laws_eqDisk_w{x0:Disk}{x1:Disk}{r:Bool}(h:j8 x0 x1=some r):Fn prog 17 [dt x0,dt x1] (dt r):=by
 unfold j8 at h
 refine fnx (fn:=f17) 0 func17 rfl (oD rfl) rfl (λ M _ _ st0=>?_)
 refine st0.sq1 [2,3] (λ _ _ st1=>wp_seq ?_)
 obtain⟨v2,p2,h3⟩:=bsW h laws_eqTree_w
 refine st1.sq1 [2,3,10] (λ _ _ st4=>?_)
 refine st4.cs rfl h3 (λ _ h5=>?_) (λ _ h6=>wp_skip (za (wp_seq ?_)))
 ·
  refine st4.sq1 [4] (λ _ _ st7=>wp_ret (zd ?_))
  exact st7.ret rfl rfl h5
 refine st4.sq1 [2,3,15] (λ _ _ st8=>?_)
 refine st8.cs rfl h6 (λ _ h9=>?_) (λ _ h10=>wp_skip (za (wp_seq ?_)))
 ·
  refine st8.sq1 [4] (λ _ _ st11=>wp_ret (zd ?_))
  exact st11.ret rfl rfl h9
 obtain⟨v12,p12,h13⟩:=bsW h10 W5
 refine st8.sq1 [21] (λ _ _ st14=>?_)
 refine st14.cs rfl h13 (λ _ h15=>?_) (λ _ h16=>wp_skip (za ?_))
 ·
  refine st14.sq1 [4] (λ _ _ st17=>wp_ret (zd ?_))
  exact st17.ret rfl rfl h15
 refine st14.sq1 [4] (λ _ _ st18=>wp_ret ?_)
 exact st18.ret rfl rfl h16
def yw(s8:Int×Str):Option ((Int×Str)⊕Str):=
if(cmpI .gtr s8.1 (0:Int))=true then((modO s8.1 (10:Int)).bind λ v13=>
(i64 ((48:Int)+v13)).bind λ v14=>
(catO (⟨([toB v14]:List UInt8)⟩:Str) s8.2).bind λ v15=>
(divO s8.1 (10:Int)).bind λ v20=>
some (.inl (v20,v15)))
else(some (.inr s8.2))
def zZ(x0:Int):Option Str:=
if(cmpI .leq x0 (0:Int))=true then(some (⟨[109,48]⟩:Str))
else(Option.bind (α:=Str) (zJ (λ s8=>yw s8) (x0,(⟨[]⟩:Str))) λ o7=>
(catO (⟨[109]⟩:Str) o7).bind λ v25=>
some v25)
theorem xz{x0:Int}{r:Str}(h:zZ x0=some r):Fn prog 108 [dt x0] (dt r):=by
 unfold zZ at h
 refine fnx (fn:=f108) 0 func108 rfl (oD rfl) rfl (λ M w0 _ st0=>?_)
 refine st0.sq1 [0] (λ _ _ st1=>wp_seq ?_)
 refine st1.sq1 [0,5] (λ _ _ st2=>?_)
 refine st2.cs rfl h (λ _ h3=>?_) (λ _ h4=>wp_skip (za ?_))
 ·
  refine st2.sq1 [2] (λ _ _ st5=>wp_ret (zd ?_))
  exact st5.ret rfl rfl h3
 refine st2.sq1 [0,3] (λ _ _ st6=>?_)
 obtain⟨o7,p7,k7⟩:=bs h4
 refine zl (λ a w=>Sx (Frm.of w0) 20 M M [] [(3,dt o7)] [] a w) ?_ ?_
 ·
  refine wp_block ?_
  refine zA p7 (λ s8 a w=>Sx (Frm.of w0) 20 M M [] [(0,dt s8.1),(3,dt s8.2)] [] a w) (st6.sel0 [0,3] rfl) ?_
  rintro s8 z8 a8 w8 st8 hs8 hx8
  have h9:yw s8=some z8:=hs8
  unfold yw at h9
  refine wp_seq ?_
  refine st8.sq1 [0,3,7] (λ _ _ st10=>?_)
  refine st10.cs rfl h9 (λ _ h11=>wp_skip (za (wp_block ?_))) (λ _ h12=>wp_exit (ze (ze (zw ?_))))
  ·
   obtain⟨v13,p13,v14,p14,v15,p15,h18⟩:=bsC h11
   refine st10.sq2 (sP 1 (r:=by exact sc rfl (xMod rfl (tp rfl) cI p13)<|sP 1 (r:=by exact sc rfl (xCvB rfl kCv3_5 (tp rfl))<|sP 1 (r:=by exact sc rfl (xCvS rfl kCv57_9 (tp rfl))<|segC)))) [0,3] (λ _ _ st19=>?_)
   obtain⟨v20,p20,h21⟩:=bs h18
   refine st19.rg2 (sP 1 (r:=by exact sc rfl (xDiv rfl (tp rfl) cI p20)<|segC)) [0,3] (λ _ _ st22=>zk (za ?_))
   exact⟨_,(Option.some.inj h21).symm,st22.sel0 [0,3] rfl⟩
  refine za ?_
  have h23:=lo h12 hx8
  obtain rfl:=Option.some.inj h23
  exact st10.sel0 [3] rfl
 rintro a7 w7 st7
 have h24:=k7
 obtain⟨v25,p25,h26⟩:=bs h24
 refine st7.sq2 (sP 1 (r:=by exact sc rfl (xCat rfl (ye (by decide)) (tp rfl) p25)<|segC)) [2] (λ _ _ st27=>wp_ret ?_)
 exact st27.ret rfl rfl h26
def yM(s4:(List Str)×Int×Int):Option (((List Str)×Int×Int)⊕((List Str)×Int)):=
if(cmpI .lss s4.2.2 (s4.1.length:Int))=true then((zZ s4.2.1).bind λ v9=>
(atI s4.1 s4.2.2).bind λ _v10=>
(i64 (s4.2.1+(1:Int))).bind λ v15=>
(i64 (s4.2.2+(1:Int))).bind λ v18=>
some (.inl ((s4.1.set s4.2.2.toNat v9),v15,v18)))
else(some (.inr (s4.1,s4.2.1)))
def wz(x0:List Str)(x1:Int):Option ((List Str)×Int):=
Option.bind (α:=(List Str)×Int) (zJ (λ s4=>yM s4) (x0,x1,(0:Int))) λ o2=>
some (o2.1,o2.2)
theorem Jt{x0:List Str}{x1:Int}{r:(List Str)×Int}(h:wz x0 x1=some r):FnS prog 109 (Ow.row 9 (Ow.frz (α:=Str))) x0 [dt x1] r.1 (.frz (dt r.2)):=by
 unfold wz at h
 refine fnSR (fn:=f109) 0 1 func109 rfl (oD rfl) rfl (λ M G w0 g0 A0 c0 _ hA0 st0=>?_)
 refine st0.sqA [1] [(0,0)] (λ _ _ st1=>?_)
 obtain⟨o2,p2,k2⟩:=bs h
 refine zl (λ a w=>∃ M1 q2_0,Sx (Frm.chg w0 G) 20 M M1 [q2_0] [(1,dt o2.2)] [(0,0,dnm (Ow.row 9 (Ow.frz (α:=Str))) q2_0 o2.1 (.slice A0 x0.length c0) [])] a w) ?_ ?_
 ·
  refine st1.sqA [1,5] [(0,0)] (λ _ _ st3=>wp_block ?_)
  refine zA p2 (λ s4 a w=>∃ M1 q4_0,Sx (Frm.chg w0 G) 20 M M1 [q4_0] [(1,dt s4.2.1),(5,dt s4.2.2)] [(0,0,dnm (Ow.row 9 (Ow.frz (α:=Str))) q4_0 s4.1 (.slice A0 x0.length c0) [])] a w) fx ?_
  rintro s4 z4 a4 w4 ⟨M4,q4_0,st4⟩ hs4 hx4
  have h5:yM s4=some z4:=hs4
  unfold yM at h5
  refine wp_seq ?_
  refine st4.sqB (sc rfl (oM rfl (tp rfl))<|sc rfl (oM rfl (tp rfl))<|sc rfl (xLeN rfl kL75 rfl)<|sc rfl (oCI rfl (tp rfl) (tp rfl))<|.nil) [1,5,9] [(0,0)] (λ _ _ st6=>?_)
  refine st6.cs rfl h5 (λ _ h7=>wp_skip (za (wp_seq (wp_block (wp_seq (wp_region_list ?_)))))) (λ _ h8=>wp_exit (ze (ze (zw ?_))))
  ·
   obtain⟨v9,p9,v10,p10,h12⟩:=bsB h7
   refine st6.segB 5 (sc rfl (oM rfl (tp rfl))<|sc rfl (oM rfl (tp rfl))<|sc rfl (oM rfl (tp rfl))<|sc rfl (zq (l:=[.tmp 14]) rfl kN108 (.cons (tp rfl) .nil) (xz p9))<|sc rfl (xIaN rfl kS75 rfl (tp rfl) hA0 p10)<|.nil) [1,5,15,16] [(0,0)] (λ _ _ st13=>?_)
   refine st13.stF (sb:=0) 0 (PV.root.row rfl hA0 p10) rfl rfl rfl kT9 (by simp) (tp rfl) (tp rfl) rfl rfl iI [1,5] rfl [] rfl rfl (λ _ st14=>wpList_nil (za ?_))
   obtain⟨v15,p15,h16⟩:=bs h12
   refine st14.rgA [1,5] [(0,0)] (λ _ _ st17=>zk (za ?_))
   obtain⟨v18,p18,h19⟩:=bs h16
   refine st17.rgA [1,5] [(0,0)] (λ _ _ st20=>za ?_)
   exact fl h19
  refine za ?_
  have h21:=lo h8 hx4
  cases h21
  exact fx
 rintro a2 w2 ⟨M2,q2_0,st2⟩
 have h22:=k2
 refine st2.sqA [4] [(0,0)] (λ _ _ st23=>wp_ret ?_)
 exact st23.rsF (s:=0) 0 rfl rfl rfl iI h22 ww
def xI(s4:(List Dir)×Int×Int):Option (((List Dir)×Int×Int)⊕((List Dir)×Int)):=
if(cmpI .lss s4.2.2 (s4.1.length:Int))=true then((atI s4.1 s4.2.2).bind λ v9=>
(i64 (s4.2.1+(1:Int))).bind λ v13=>
(zZ v13).bind λ v16=>
(i64 (v13+(1:Int))).bind λ v20=>
(i64 (v20+(1:Int))).bind λ v25=>
(wz v9.names v25).bind λ v31=>
(i64 (s4.2.2+(1:Int))).bind λ v34=>
some (.inl ((s4.1.set s4.2.2.toNat (⟨s4.2.1,v16,v20,v31.1⟩:Dir)),v31.2,v34)))
else(some (.inr (s4.1,s4.2.1)))
def wI(x0:List Dir)(x1:Int):Option ((List Dir)×Int):=
Option.bind (α:=(List Dir)×Int) (zJ (λ s4=>xI s4) (x0,x1,(0:Int))) λ o2=>
some (o2.1,o2.2)
theorem X1{x0:List Dir}{x1:Int}{r:(List Dir)×Int}(h:wI x0 x1=some r):FnS prog 63 (Ow.row 77 (owDir (Ow.row 9 (Ow.frz (α:=Str))))) x0 [dt x1] r.1 (.frz (dt r.2)):=by
 unfold wI at h
 refine fnSR (fn:=f63) 0 1 func63 rfl (oD rfl) rfl (λ M G w0 g0 A0 c0 _ hA0 st0=>?_)
 refine st0.sqA [1] [(0,0)] (λ _ _ st1=>?_)
 obtain⟨o2,p2,k2⟩:=bs h
 refine zl (λ a w=>∃ M1 q2_0,Sx (Frm.chg w0 G) 42 M M1 [q2_0] [(1,dt o2.2)] [(0,0,dnm (Ow.row 77 (owDir (Ow.row 9 (Ow.frz (α:=Str))))) q2_0 o2.1 (.slice A0 x0.length c0) [])] a w) ?_ ?_
 ·
  refine st1.sqA [1,5] [(0,0)] (λ _ _ st3=>wp_block ?_)
  refine zA p2 (λ s4 a w=>∃ M1 q4_0,Sx (Frm.chg w0 G) 42 M M1 [q4_0] [(1,dt s4.2.1),(5,dt s4.2.2)] [(0,0,dnm (Ow.row 77 (owDir (Ow.row 9 (Ow.frz (α:=Str))))) q4_0 s4.1 (.slice A0 x0.length c0) [])] a w) fx ?_
  rintro s4 z4 a4 w4 ⟨M4,q4_0,st4⟩ hs4 hx4
  have h5:xI s4=some z4:=hs4
  unfold xI at h5
  refine wp_seq ?_
  refine st4.sqB (sc rfl (oM rfl (tp rfl))<|sc rfl (oM rfl (tp rfl))<|sc rfl (xLeN rfl kL33 rfl)<|sc rfl (oCI rfl (tp rfl) (tp rfl))<|.nil) [1,5,9] [(0,0)] (λ _ _ st6=>?_)
  refine st6.cs rfl h5 (λ _ h7=>wp_skip (za (wp_seq (wp_block (wp_seq (wp_region_list ?_)))))) (λ _ h8=>wp_exit (ze (ze (zw ?_))))
  ·
   obtain⟨v9,p9,h10⟩:=bs h7
   refine st6.segB 5 (sc rfl (oM rfl (tp rfl))<|sc rfl (oM rfl (tp rfl))<|sc rfl (oM rfl (tp rfl))<|sc rfl (xIaN rfl kS33 rfl (tp rfl) hA0 p9)<|sc rfl (xFa rfl Jq (tp rfl))<|.nil) [1,5,14,16] [(0,0)] (λ _ _ st11=>?_)
   refine st11.stF (sb:=0) 0 ((PV.root.row rfl hA0 p9).fld owDir.f0) rfl rfl rfl kT3 (by simp) (tp rfl) (tp rfl) rfl rfl iI [1,5] rfl [] rfl rfl (λ _ st12=>wpList_nil (za ?_))
   obtain⟨v13,p13,h14⟩:=bs h10
   refine st12.sqA [1,5] [(0,0)] (λ _ _ st15=>wp_seq (wp_region_list ?_))
   obtain⟨v16,p16,h17⟩:=bs h14
   refine st15.segB 6 (sc rfl (oM rfl (tp rfl))<|sc rfl (oM rfl (tp rfl))<|sc rfl (oM rfl (tp rfl))<|sc rfl (zq (l:=[.tmp 21]) rfl kN108 (.cons (tp rfl) .nil) (xz p16))<|sc rfl (xIaN rfl kS33 rfl (tp rfl) hA0 (yH p9))<|sc rfl (xFa rfl Wo (tp rfl))<|.nil) [1,5,22,24] [(0,0)] (λ _ _ st18=>?_)
   refine st18.stF (sb:=0) 0 (((PV.root.row rfl hA0 (yH p9)).conv (upd':=λ z=>(s4.1.set s4.2.2.toNat z)) (λ _=>by simp only[List.set_set])).fld owDir.f1) rfl rfl rfl kT9 (by simp) (tp rfl) (tp rfl) rfl rfl iI [1,5] rfl [] rfl rfl (λ _ st19=>wpList_nil (za ?_))
   obtain⟨v20,p20,h21⟩:=bs h17
   refine st19.sqA [1,5] [(0,0)] (λ _ _ st22=>wp_seq (wp_region_list ?_))
   refine st22.segB 5 (sc rfl (oM rfl (tp rfl))<|sc rfl (oM rfl (tp rfl))<|sc rfl (oM rfl (tp rfl))<|sc rfl (xIaN rfl kS33 rfl (tp rfl) hA0 (yH p9))<|sc rfl (xFa rfl Wp (tp rfl))<|.nil) [1,5,29,31] [(0,0)] (λ _ _ st23=>?_)
   refine st23.stF (sb:=0) 0 (((PV.root.row rfl hA0 (yH p9)).conv (upd':=λ z=>(s4.1.set s4.2.2.toNat z)) (λ _=>by simp only[List.set_set])).fld owDir.f2) rfl rfl rfl kT3 (by simp) (tp rfl) (tp rfl) rfl rfl iI [1,5] rfl [] rfl rfl (λ _ st24=>wpList_nil (za ?_))
   obtain⟨v25,p25,h26⟩:=bs h21
   refine st24.sqA [1,5] [(0,0)] (λ _ _ st27=>wp_region_list ?_)
   refine st27.hdA 0 0 (((PV.root.row rfl hA0 (yH p9)).conv (upd':=λ z=>(s4.1.set s4.2.2.toNat z)) (λ _=>by simp only[List.set_set])).fld owDir.f3) [] (λ g28 A28 _ hA28 st28=>?_)
   refine st28.segB 6 (sc rfl (oM rfl (tp rfl))<|sc rfl (oM rfl (tp rfl))<|sc rfl (xIaN rfl kS33 rfl (tp rfl) hA0 (yH p9))<|sc rfl (xFa rfl Xf (tp rfl))<|sc rfl (xLc (sb:=0) (.head _) rfl rfl rfl kT75 (tp rfl) rfl)<|sc rfl (oM rfl (tp rfl))<|.nil) [1,5,38,39] [(0,0)] (λ _ _ st29=>?_)
   obtain⟨v31,p31,h32⟩:=bs h26
   refine st29.cSF (l:=[.tmp 39]) 0 (st29.bkH (sb:=0) (((PV.root.row rfl hA0 (yH p9)).conv (upd':=λ z=>(s4.1.set s4.2.2.toNat z)) (λ _=>by simp only[List.set_set])).fld owDir.f3) (.head _) rfl (Xv rfl rfl) rfl iI) rfl rfl kN109 (st29.st.has 38 _ rfl) (by simp) (.cons (tp rfl) .nil) (Jt p31) [1,5] rfl [] rfl rfl (by decide) (λ _ _ _ _ st30=>?_)
   refine st30.segA 1 [1,5] [(0,0)] (λ _ _ st33=>wpList_nil (zk (za ?_)))
   obtain⟨v34,p34,h35⟩:=bs h32
   refine st33.rgA [1,5] [(0,0)] (λ _ _ st36=>za ?_)
   exact fl h35
  refine za ?_
  have h37:=lo h8 hx4
  cases h37
  exact fx
 rintro a2 w2 ⟨M2,q2_0,st2⟩
 have h38:=k2
 refine st2.sqA [4] [(0,0)] (λ _ _ st39=>wp_ret ?_)
 exact st39.rsF (s:=0) 0 rfl rfl rfl iI h38 ww
def xh(x0:Finder)(x1:Int):Option (Finder×Int):=
(wI x0.dirs x1).bind λ v4=>
some ({ x0 with dirs:=v4.1 },v4.2)
theorem Y1{x0:Finder}{x1:Int}{r:Finder×Int}(h:xh x0 x1=some r):FnS prog 19 (owFinder (Ow.row 77 (owDir (Ow.row 9 (Ow.frz (α:=Str)))))) x0 [dt x1] r.1 (.frz (dt r.2)):=by
 unfold xh at h
 refine fnSV (fn:=f19) 0 1 func19 rfl (oD rfl) rfl (λ M G _ u0 _ st0=>?_)
 refine st0.sqB (sc rfl (xBoxN rfl rfl)<|segC) [1,2] [(0,0)] (λ _ _ st1=>wp_seq (wp_region_list ?_))
 refine st1.segB 3 (sc rfl (xFldC rfl qx (tp rfl))<|sc rfl (xLdC (sb:=0) (PV.root.fld owFinder.f0) rfl rfl kT33 (tp rfl) rfl)<|segC) [1,6,7] [(0,0)] (λ _ _ st2=>?_)
 obtain⟨v4,p4,h5⟩:=bs h
 refine st2.cSF (l:=[.tmp 7]) 0 (st2.bkV (sb:=0) (PV.root.fld owFinder.f0) rfl rfl iI) rfl rfl kN63 (st2.st.has 6 _ rfl) (by simp) (.cons (tp rfl) .nil) (X1 p4) [1] rfl [] rfl rfl (by decide) (λ _ _ _ _ st3=>?_)
 refine st3.segA 1 [1] [(0,0)] (λ _ _ st6=>wpList_nil (za ?_))
 refine st6.sqA [4] [(0,0)] (λ _ _ st7=>wp_ret ?_)
 exact st7.rsF (s:=0) 0 rfl rfl rfl iI h5 ww
def xq(s4:(List Stmt)×Int×Int):Option (((List Stmt)×Int×Int)⊕((List Stmt)×Int)):=
if(cmpI .lss s4.2.2 (s4.1.length:Int))=true then((atI s4.1 s4.2.2).bind λ _v9=>
(i64 (s4.2.1+(1:Int))).bind λ v13=>
(zZ v13).bind λ v16=>
(i64 (v13+(1:Int))).bind λ v20=>
(i64 (v20+(1:Int))).bind λ v25=>
(zZ v25).bind λ v28=>
(i64 (v25+(1:Int))).bind λ v32=>
(i64 (v32+(1:Int))).bind λ v37=>
(i64 (s4.2.2+(1:Int))).bind λ v40=>
some (.inl ((s4.1.set s4.2.2.toNat (⟨s4.2.1,v16,v20,v28,v32⟩:Stmt)),v37,v40)))
else(some (.inr (s4.1,s4.2.1)))
def jC(x0:List Stmt)(x1:Int):Option ((List Stmt)×Int):=
Option.bind (α:=(List Stmt)×Int) (zJ (λ s4=>xq s4) (x0,x1,(0:Int))) λ o2=>
some (o2.1,o2.2)
theorem Qw{x0:List Stmt}{x1:Int}{r:(List Stmt)×Int}(h:jC x0 x1=some r):FnS prog 146 (Ow.row 159 (Ow.frz (α:=Stmt))) x0 [dt x1] r.1 (.frz (dt r.2)):=by
 unfold jC at h
 refine fnSR (fn:=f146) 0 1 func146 rfl (oD rfl) rfl (λ M G w0 g0 A0 c0 _ hA0 st0=>?_)
 refine st0.sqA [1] [(0,0)] (λ _ _ st1=>?_)
 obtain⟨o2,p2,k2⟩:=bs h
 refine zl (λ a w=>∃ M1 q2_0,Sx (Frm.chg w0 G) 50 M M1 [q2_0] [(1,dt o2.2)] [(0,0,dnm (Ow.row 159 (Ow.frz (α:=Stmt))) q2_0 o2.1 (.slice A0 x0.length c0) [])] a w) ?_ ?_
 ·
  refine st1.sqA [1,5] [(0,0)] (λ _ _ st3=>wp_block ?_)
  refine zA p2 (λ s4 a w=>∃ M1 q4_0,Sx (Frm.chg w0 G) 50 M M1 [q4_0] [(1,dt s4.2.1),(5,dt s4.2.2)] [(0,0,dnm (Ow.row 159 (Ow.frz (α:=Stmt))) q4_0 s4.1 (.slice A0 x0.length c0) [])] a w) fx ?_
  rintro s4 z4 a4 w4 ⟨M4,q4_0,st4⟩ hs4 hx4
  have h5:xq s4=some z4:=hs4
  unfold xq at h5
  refine wp_seq ?_
  refine st4.sqB (sc rfl (oM rfl (tp rfl))<|sc rfl (oM rfl (tp rfl))<|sc rfl (xLeN rfl kL70 rfl)<|sc rfl (oCI rfl (tp rfl) (tp rfl))<|.nil) [1,5,9] [(0,0)] (λ _ _ st6=>?_)
  refine st6.cs rfl h5 (λ _ h7=>wp_skip (za (wp_seq (wp_block (wp_seq (wp_region_list ?_)))))) (λ _ h8=>wp_exit (ze (ze (zw ?_))))
  ·
   obtain⟨v9,p9,h10⟩:=bs h7
   refine st6.segB 5 (sc rfl (oM rfl (tp rfl))<|sc rfl (oM rfl (tp rfl))<|sc rfl (oM rfl (tp rfl))<|sc rfl (xIaN rfl kS70 rfl (tp rfl) hA0 p9)<|sc rfl (xFa rfl kF159_0 (tp rfl))<|.nil) [1,5,14,16] [(0,0)] (λ _ _ st11=>?_)
   refine st11.stF (sb:=0) 0 ((PV.root.row rfl hA0 p9).fld Stmt.z0) rfl rfl rfl kT3 (by simp) (tp rfl) (tp rfl) rfl rfl iI [1,5] rfl [] rfl rfl (λ _ st12=>wpList_nil (za ?_))
   obtain⟨v13,p13,h14⟩:=bs h10
   refine st12.sqA [1,5] [(0,0)] (λ _ _ st15=>wp_seq (wp_region_list ?_))
   obtain⟨v16,p16,h17⟩:=bs h14
   refine st15.segB 6 (sc rfl (oM rfl (tp rfl))<|sc rfl (oM rfl (tp rfl))<|sc rfl (oM rfl (tp rfl))<|sc rfl (zq (l:=[.tmp 21]) rfl kN108 (.cons (tp rfl) .nil) (xz p16))<|sc rfl (xIaN rfl kS70 rfl (tp rfl) hA0 (yH p9))<|sc rfl (xFa rfl kF159_1 (tp rfl))<|.nil) [1,5,22,24] [(0,0)] (λ _ _ st18=>?_)
   refine st18.stF (sb:=0) 0 (((PV.root.row rfl hA0 (yH p9)).conv (upd':=λ z=>(s4.1.set s4.2.2.toNat z)) (λ _=>by simp only[List.set_set])).fld Stmt.z1) rfl rfl rfl kT9 (by simp) (tp rfl) (tp rfl) rfl rfl iI [1,5] rfl [] rfl rfl (λ _ st19=>wpList_nil (za ?_))
   obtain⟨v20,p20,h21⟩:=bs h17
   refine st19.sqA [1,5] [(0,0)] (λ _ _ st22=>wp_seq (wp_region_list ?_))
   refine st22.segB 5 (sc rfl (oM rfl (tp rfl))<|sc rfl (oM rfl (tp rfl))<|sc rfl (oM rfl (tp rfl))<|sc rfl (xIaN rfl kS70 rfl (tp rfl) hA0 (yH p9))<|sc rfl (xFa rfl kF159_2 (tp rfl))<|.nil) [1,5,29,31] [(0,0)] (λ _ _ st23=>?_)
   refine st23.stF (sb:=0) 0 (((PV.root.row rfl hA0 (yH p9)).conv (upd':=λ z=>(s4.1.set s4.2.2.toNat z)) (λ _=>by simp only[List.set_set])).fld Stmt.z2) rfl rfl rfl kT3 (by simp) (tp rfl) (tp rfl) rfl rfl iI [1,5] rfl [] rfl rfl (λ _ st24=>wpList_nil (za ?_))
   obtain⟨v25,p25,h26⟩:=bs h21
   refine st24.sqA [1,5] [(0,0)] (λ _ _ st27=>wp_seq (wp_region_list ?_))
   obtain⟨v28,p28,h29⟩:=bs h26
   refine st27.segB 6 (sc rfl (oM rfl (tp rfl))<|sc rfl (oM rfl (tp rfl))<|sc rfl (oM rfl (tp rfl))<|sc rfl (zq (l:=[.tmp 36]) rfl kN108 (.cons (tp rfl) .nil) (xz p28))<|sc rfl (xIaN rfl kS70 rfl (tp rfl) hA0 (yH p9))<|sc rfl (xFa rfl kF159_3 (tp rfl))<|.nil) [1,5,37,39] [(0,0)] (λ _ _ st30=>?_)
   refine st30.stF (sb:=0) 0 (((PV.root.row rfl hA0 (yH p9)).conv (upd':=λ z=>(s4.1.set s4.2.2.toNat z)) (λ _=>by simp only[List.set_set])).fld Stmt.z3) rfl rfl rfl kT9 (by simp) (tp rfl) (tp rfl) rfl rfl iI [1,5] rfl [] rfl rfl (λ _ st31=>wpList_nil (za ?_))
   obtain⟨v32,p32,h33⟩:=bs h29
   refine st31.sqA [1,5] [(0,0)] (λ _ _ st34=>wp_seq (wp_region_list ?_))
   refine st34.segB 5 (sc rfl (oM rfl (tp rfl))<|sc rfl (oM rfl (tp rfl))<|sc rfl (oM rfl (tp rfl))<|sc rfl (xIaN rfl kS70 rfl (tp rfl) hA0 (yH p9))<|sc rfl (xFa rfl kF159_4 (tp rfl))<|.nil) [1,5,44,46] [(0,0)] (λ _ _ st35=>?_)
   refine st35.stF (sb:=0) 0 (((PV.root.row rfl hA0 (yH p9)).conv (upd':=λ z=>(s4.1.set s4.2.2.toNat z)) (λ _=>by simp only[List.set_set])).fld Stmt.z4) rfl rfl rfl kT3 (by simp) (tp rfl) (tp rfl) rfl rfl iI [1,5] rfl [] rfl rfl (λ _ st36=>wpList_nil (za ?_))
   obtain⟨v37,p37,h38⟩:=bs h33
   refine st36.rgA [1,5] [(0,0)] (λ _ _ st39=>zk (za ?_))
   obtain⟨v40,p40,h41⟩:=bs h38
   refine st39.rgA [1,5] [(0,0)] (λ _ _ st42=>za ?_)
   exact fl h41
  refine za ?_
  have h43:=lo h8 hx4
  cases h43
  exact fx
 rintro a2 w2 ⟨M2,q2_0,st2⟩
 have h44:=k2
 refine st2.sqA [4] [(0,0)] (λ _ _ st45=>wp_ret ?_)
 exact st45.rsF (s:=0) 0 rfl rfl rfl iI h44 ww
def xt(s4:(List File)×Int×Int):Option (((List File)×Int×Int)⊕((List File)×Int)):=
if(cmpI .lss s4.2.2 (s4.1.length:Int))=true then((atI s4.1 s4.2.2).bind λ v9=>
(i64 (s4.2.1+(1:Int))).bind λ v13=>
(zZ v13).bind λ v16=>
(i64 (v13+(1:Int))).bind λ v20=>
(zZ v20).bind λ v23=>
(i64 (v20+(1:Int))).bind λ v27=>
(modO v27 (3:Int)).bind λ v30=>
(i64 (v27+(1:Int))).bind λ v34=>
(i64 (v34+(1:Int))).bind λ v39=>
(jC v9.body v39).bind λ v45=>
(i64 (s4.2.2+(1:Int))).bind λ v48=>
some (.inl ((s4.1.set s4.2.2.toNat (⟨s4.2.1,v16,v23,cmpI .eql v30 (0:Int),v34,v45.1⟩:File)),v45.2,v48)))
else(some (.inr (s4.1,s4.2.1)))
def jD(x0:List File)(x1:Int):Option ((List File)×Int):=
Option.bind (α:=(List File)×Int) (zJ (λ s4=>xt s4) (x0,x1,(0:Int))) λ o2=>
some (o2.1,o2.2)
theorem Qx{x0:List File}{x1:Int}{r:(List File)×Int}(h:jD x0 x1=some r):FnS prog 110 (Ow.row 72 (owFile (Ow.row 159 (Ow.frz (α:=Stmt))))) x0 [dt x1] r.1 (.frz (dt r.2)):=by
 unfold jD at h
 refine fnSR (fn:=f110) 0 1 func110 rfl (oD rfl) rfl (λ M G w0 g0 A0 c0 _ hA0 st0=>?_)
 refine st0.sqA [1] [(0,0)] (λ _ _ st1=>?_)
 obtain⟨o2,p2,k2⟩:=bs h
 refine zl (λ a w=>∃ M1 q2_0,Sx (Frm.chg w0 G) 59 M M1 [q2_0] [(1,dt o2.2)] [(0,0,dnm (Ow.row 72 (owFile (Ow.row 159 (Ow.frz (α:=Stmt))))) q2_0 o2.1 (.slice A0 x0.length c0) [])] a w) ?_ ?_
 ·
  refine st1.sqA [1,5] [(0,0)] (λ _ _ st3=>wp_block ?_)
  refine zA p2 (λ s4 a w=>∃ M1 q4_0,Sx (Frm.chg w0 G) 59 M M1 [q4_0] [(1,dt s4.2.1),(5,dt s4.2.2)] [(0,0,dnm (Ow.row 72 (owFile (Ow.row 159 (Ow.frz (α:=Stmt))))) q4_0 s4.1 (.slice A0 x0.length c0) [])] a w) fx ?_
  rintro s4 z4 a4 w4 ⟨M4,q4_0,st4⟩ hs4 hx4
  have h5:xt s4=some z4:=hs4
  unfold xt at h5
  refine wp_seq ?_
  refine st4.sqB (sc rfl (oM rfl (tp rfl))<|sc rfl (oM rfl (tp rfl))<|sc rfl (xLeN rfl kL41 rfl)<|sc rfl (oCI rfl (tp rfl) (tp rfl))<|.nil) [1,5,9] [(0,0)] (λ _ _ st6=>?_)
  refine st6.cs rfl h5 (λ _ h7=>wp_skip (za (wp_seq (wp_block (wp_seq (wp_region_list ?_)))))) (λ _ h8=>wp_exit (ze (ze (zw ?_))))
  ·
   obtain⟨v9,p9,h10⟩:=bs h7
   refine st6.segB 5 (sc rfl (oM rfl (tp rfl))<|sc rfl (oM rfl (tp rfl))<|sc rfl (oM rfl (tp rfl))<|sc rfl (xIaN rfl kS41 rfl (tp rfl) hA0 p9)<|sc rfl (xFa rfl kF72_0 (tp rfl))<|.nil) [1,5,14,16] [(0,0)] (λ _ _ st11=>?_)
   refine st11.stF (sb:=0) 0 ((PV.root.row rfl hA0 p9).fld owFile.f0) rfl rfl rfl kT3 (by simp) (tp rfl) (tp rfl) rfl rfl iI [1,5] rfl [] rfl rfl (λ _ st12=>wpList_nil (za ?_))
   obtain⟨v13,p13,h14⟩:=bs h10
   refine st12.sqA [1,5] [(0,0)] (λ _ _ st15=>wp_seq (wp_region_list ?_))
   obtain⟨v16,p16,h17⟩:=bs h14
   refine st15.segB 6 (sc rfl (oM rfl (tp rfl))<|sc rfl (oM rfl (tp rfl))<|sc rfl (oM rfl (tp rfl))<|sc rfl (zq (l:=[.tmp 21]) rfl kN108 (.cons (tp rfl) .nil) (xz p16))<|sc rfl (xIaN rfl kS41 rfl (tp rfl) hA0 (yH p9))<|sc rfl (xFa rfl kF72_1 (tp rfl))<|.nil) [1,5,22,24] [(0,0)] (λ _ _ st18=>?_)
   refine st18.stF (sb:=0) 0 (((PV.root.row rfl hA0 (yH p9)).conv (upd':=λ z=>(s4.1.set s4.2.2.toNat z)) (λ _=>by simp only[List.set_set])).fld owFile.f1) rfl rfl rfl kT9 (by simp) (tp rfl) (tp rfl) rfl rfl iI [1,5] rfl [] rfl rfl (λ _ st19=>wpList_nil (za ?_))
   obtain⟨v20,p20,h21⟩:=bs h17
   refine st19.sqA [1,5] [(0,0)] (λ _ _ st22=>wp_seq (wp_region_list ?_))
   obtain⟨v23,p23,h24⟩:=bs h21
   refine st22.segB 6 (sc rfl (oM rfl (tp rfl))<|sc rfl (oM rfl (tp rfl))<|sc rfl (oM rfl (tp rfl))<|sc rfl (zq (l:=[.tmp 29]) rfl kN108 (.cons (tp rfl) .nil) (xz p23))<|sc rfl (xIaN rfl kS41 rfl (tp rfl) hA0 (yH p9))<|sc rfl (xFa rfl kF72_2 (tp rfl))<|.nil) [1,5,30,32] [(0,0)] (λ _ _ st25=>?_)
   refine st25.stF (sb:=0) 0 (((PV.root.row rfl hA0 (yH p9)).conv (upd':=λ z=>(s4.1.set s4.2.2.toNat z)) (λ _=>by simp only[List.set_set])).fld owFile.f2) rfl rfl rfl kT9 (by simp) (tp rfl) (tp rfl) rfl rfl iI [1,5] rfl [] rfl rfl (λ _ st26=>wpList_nil (za ?_))
   obtain⟨v27,p27,h28⟩:=bs h24
   refine st26.sqA [1,5] [(0,0)] (λ _ _ st29=>wp_seq (wp_region_list ?_))
   obtain⟨v30,p30,h31⟩:=bs h28
   refine st29.segB 7 (sc rfl (oM rfl (tp rfl))<|sc rfl (oM rfl (tp rfl))<|sc rfl (oM rfl (tp rfl))<|sc rfl (xMod rfl (tp rfl) cI p30)<|sc rfl (oCI rfl (tp rfl) cI)<|sc rfl (xIaN rfl kS41 rfl (tp rfl) hA0 (yH p9))<|sc rfl (xFa rfl kF72_3 (tp rfl))<|.nil) [1,5,39,41] [(0,0)] (λ _ _ st32=>?_)
   refine st32.stF (sb:=0) 0 (((PV.root.row rfl hA0 (yH p9)).conv (upd':=λ z=>(s4.1.set s4.2.2.toNat z)) (λ _=>by simp only[List.set_set])).fld owFile.f3) rfl rfl rfl kT4 (by simp) (tp rfl) (tp rfl) rfl rfl iI [1,5] rfl [] rfl rfl (λ _ st33=>wpList_nil (za ?_))
   obtain⟨v34,p34,h35⟩:=bs h31
   refine st33.sqA [1,5] [(0,0)] (λ _ _ st36=>wp_seq (wp_region_list ?_))
   refine st36.segB 5 (sc rfl (oM rfl (tp rfl))<|sc rfl (oM rfl (tp rfl))<|sc rfl (oM rfl (tp rfl))<|sc rfl (xIaN rfl kS41 rfl (tp rfl) hA0 (yH p9))<|sc rfl (xFa rfl kF72_4 (tp rfl))<|.nil) [1,5,46,48] [(0,0)] (λ _ _ st37=>?_)
   refine st37.stF (sb:=0) 0 (((PV.root.row rfl hA0 (yH p9)).conv (upd':=λ z=>(s4.1.set s4.2.2.toNat z)) (λ _=>by simp only[List.set_set])).fld owFile.f4) rfl rfl rfl kT3 (by simp) (tp rfl) (tp rfl) rfl rfl iI [1,5] rfl [] rfl rfl (λ _ st38=>wpList_nil (za ?_))
   obtain⟨v39,p39,h40⟩:=bs h35
   refine st38.sqA [1,5] [(0,0)] (λ _ _ st41=>wp_region_list ?_)
   refine st41.hdA 0 0 (((PV.root.row rfl hA0 (yH p9)).conv (upd':=λ z=>(s4.1.set s4.2.2.toNat z)) (λ _=>by simp only[List.set_set])).fld owFile.f5) [] (λ g42 A42 _ hA42 st42=>?_)
   refine st42.segB 6 (sc rfl (oM rfl (tp rfl))<|sc rfl (oM rfl (tp rfl))<|sc rfl (xIaN rfl kS41 rfl (tp rfl) hA0 (yH p9))<|sc rfl (xFa rfl kF72_5 (tp rfl))<|sc rfl (xLc (sb:=0) (.head _) rfl rfl rfl kT70 (tp rfl) rfl)<|sc rfl (oM rfl (tp rfl))<|.nil) [1,5,55,56] [(0,0)] (λ _ _ st43=>?_)
   obtain⟨v45,p45,h46⟩:=bs h40
   refine st43.cSF (l:=[.tmp 56]) 0 (st43.bkH (sb:=0) (((PV.root.row rfl hA0 (yH p9)).conv (upd':=λ z=>(s4.1.set s4.2.2.toNat z)) (λ _=>by simp only[List.set_set])).fld owFile.f5) (.head _) rfl (Xv rfl rfl) rfl iI) rfl rfl kN146 (st43.st.has 55 _ rfl) (by simp) (.cons (tp rfl) .nil) (Qw p45) [1,5] rfl [] rfl rfl (by decide) (λ _ _ _ _ st44=>?_)
   refine st44.segA 1 [1,5] [(0,0)] (λ _ _ st47=>wpList_nil (zk (za ?_)))
   obtain⟨v48,p48,h49⟩:=bs h46
   refine st47.rgA [1,5] [(0,0)] (λ _ _ st50=>za ?_)
   exact fl h49
  refine za ?_
  have h51:=lo h8 hx4
  cases h51
  exact fx
 rintro a2 w2 ⟨M2,q2_0,st2⟩
 have h52:=k2
 refine st2.sqA [4] [(0,0)] (λ _ _ st53=>wp_ret ?_)
 exact st53.rsF (s:=0) 0 rfl rfl rfl iI h52 ww
def jT(x0:Tree)(x1:Int):Option (Tree×Int):=
(jD x0.files x1).bind λ v4=>
some ((⟨v4.1⟩:Tree),v4.2)
theorem Q0{x0:Tree}{x1:Int}{r:Tree×Int}(h:jT x0 x1=some r):FnS prog 64 (owTree (Ow.row 72 (owFile (Ow.row 159 (Ow.frz (α:=Stmt)))))) x0 [dt x1] r.1 (.frz (dt r.2)):=by
 unfold jT at h
 refine fnSV (fn:=f64) 0 1 func64 rfl (oD rfl) rfl (λ M G _ u0 _ st0=>?_)
 refine st0.sqB (sc rfl (xBoxN rfl rfl)<|segC) [1,2] [(0,0)] (λ _ _ st1=>wp_seq (wp_region_list ?_))
 refine st1.segB 3 (sc rfl (xFldC rfl kF43_0 (tp rfl))<|sc rfl (xLdC (sb:=0) (PV.root.fld owTree.f0) rfl rfl kT41 (tp rfl) rfl)<|segC) [1,6,7] [(0,0)] (λ _ _ st2=>?_)
 obtain⟨v4,p4,h5⟩:=bs h
 refine st2.cSF (l:=[.tmp 7]) 0 (st2.bkV (sb:=0) (PV.root.fld owTree.f0) rfl rfl iI) rfl rfl kN110 (st2.st.has 6 _ rfl) (by simp) (.cons (tp rfl) .nil) (Qx p4) [1] rfl [] rfl rfl (by decide) (λ _ _ _ _ st3=>?_)
 refine st3.segA 1 [1] [(0,0)] (λ _ _ st6=>wpList_nil (za ?_))
 refine st6.sqA [4] [(0,0)] (λ _ _ st7=>wp_ret ?_)
 exact st7.rsF (s:=0) 0 rfl rfl rfl iI h5 ww
def jU(x0:Disk)(x1:Int):Option (Disk×Int):=
(jT x0.tree x1).bind λ v4=>
(wI x0.dirs v4.2).bind λ v9=>
some ({ x0 with tree:=v4.1,dirs:=v9.1 },v9.2)
theorem Q1{x0:Disk}{x1:Int}{r:Disk×Int}(h:jU x0 x1=some r):FnS prog 20 (owDisk (owTree (Ow.row 72 (owFile (Ow.row 159 (Ow.frz (α:=Stmt)))))) (Ow.row 77 (owDir (Ow.row 9 (Ow.frz (α:=Str)))))) x0 [dt x1] r.1 (.frz (dt r.2)):=by
 unfold jU at h
 refine fnSV (fn:=f20) 0 1 func20 rfl (oD rfl) rfl (λ M G _ u0 _ st0=>?_)
 refine st0.sqB (sc rfl (xBoxN rfl rfl)<|segC) [1,2] [(0,0)] (λ _ _ st1=>wp_seq (wp_region_list ?_))
 refine st1.segB 3 (sc rfl (xFldC rfl kF45_0 (tp rfl))<|sc rfl (xLdCa (sb:=0) (PV.root.fld owDisk.f0) rfl rfl kT43 (tp rfl) rfl)<|segC) [1,2,6,7] [(0,0)] (λ _ _ st2=>?_)
 obtain⟨v4,p4,h5⟩:=bs h
 refine st2.cSF (l:=[.tmp 7]) 0 (st2.bkVa (sb:=0) (PV.root.fld owDisk.f0) rfl rfl iI) rfl rfl kN64 (st2.st.has 6 _ rfl) (by simp) (.cons (tp rfl) .nil) (Q0 p4) [1,2] rfl [] rfl rfl (by decide) (λ _ _ _ _ st3=>?_)
 refine st3.segA 1 [1,2] [(0,0)] (λ _ _ st6=>wpList_nil (za (wp_seq (wp_region_list ?_))))
 refine st6.segB 3 (sc rfl (xFldC rfl kF45_2 (tp rfl))<|sc rfl (xLdC (sb:=0) (PV.root.fld owDisk.f2) rfl rfl kT33 (tp rfl) rfl)<|segC) [1,10,11] [(0,0)] (λ _ _ st7=>?_)
 obtain⟨v9,p9,h10⟩:=bs h5
 refine st7.cSF (l:=[.tmp 11]) 0 (st7.bkV (sb:=0) (PV.root.fld owDisk.f2) rfl rfl iI) rfl rfl kN63 (st7.st.has 10 _ rfl) (by simp) (.cons (tp rfl) .nil) (X1 p9) [1] rfl [] rfl rfl (by decide) (λ _ _ _ _ st8=>?_)
 refine st8.segA 1 [1] [(0,0)] (λ _ _ st11=>wpList_nil (za ?_))
 refine st11.sqA [4] [(0,0)] (λ _ _ st12=>wp_ret ?_)
 exact st12.rsF (s:=0) 0 rfl rfl rfl iI h10 ww
def xJ(s4:(List Int)×Int×Int):Option (((List Int)×Int×Int)⊕((List Int)×Int)):=
if(cmpI .lss s4.2.2 (s4.1.length:Int))=true then((atI s4.1 s4.2.2).bind λ _v9=>
(i64 (s4.2.1+(1:Int))).bind λ v13=>
(i64 (s4.2.2+(1:Int))).bind λ v16=>
some (.inl ((s4.1.set s4.2.2.toNat s4.2.1),v13,v16)))
else(some (.inr (s4.1,s4.2.1)))
def wJ(x0:List Int)(x1:Int):Option ((List Int)×Int):=
Option.bind (α:=(List Int)×Int) (zJ (λ s4=>xJ s4) (x0,x1,(0:Int))) λ o2=>
some (o2.1,o2.2)
theorem X2{x0:List Int}{x1:Int}{r:(List Int)×Int}(h:wJ x0 x1=some r):FnS prog 21 (Ow.row 3 (Ow.frz (α:=Int))) x0 [dt x1] r.1 (.frz (dt r.2)):=by
 unfold wJ at h
 refine fnSR (fn:=f21) 0 1 func21 rfl (oD rfl) rfl (λ M G w0 g0 A0 c0 _ hA0 st0=>?_)
 refine st0.sqA [1] [(0,0)] (λ _ _ st1=>?_)
 obtain⟨o2,p2,k2⟩:=bs h
 refine zl (λ a w=>∃ M1 q2_0,Sx (Frm.chg w0 G) 19 M M1 [q2_0] [(1,dt o2.2)] [(0,0,dnm (Ow.row 3 (Ow.frz (α:=Int))) q2_0 o2.1 (.slice A0 x0.length c0) [])] a w) ?_ ?_
 ·
  refine st1.sqA [1,5] [(0,0)] (λ _ _ st3=>wp_block ?_)
  refine zA p2 (λ s4 a w=>∃ M1 q4_0,Sx (Frm.chg w0 G) 19 M M1 [q4_0] [(1,dt s4.2.1),(5,dt s4.2.2)] [(0,0,dnm (Ow.row 3 (Ow.frz (α:=Int))) q4_0 s4.1 (.slice A0 x0.length c0) [])] a w) fx ?_
  rintro s4 z4 a4 w4 ⟨M4,q4_0,st4⟩ hs4 hx4
  have h5:xJ s4=some z4:=hs4
  unfold xJ at h5
  refine wp_seq ?_
  refine st4.sqB (sc rfl (oM rfl (tp rfl))<|sc rfl (oM rfl (tp rfl))<|sc rfl (xLeN rfl kL30 rfl)<|sc rfl (oCI rfl (tp rfl) (tp rfl))<|.nil) [1,5,9] [(0,0)] (λ _ _ st6=>?_)
  refine st6.cs rfl h5 (λ _ h7=>wp_skip (za (wp_seq (wp_block (wp_seq (wp_region_list ?_)))))) (λ _ h8=>wp_exit (ze (ze (zw ?_))))
  ·
   obtain⟨v9,p9,h10⟩:=bs h7
   refine st6.segB 4 (sc rfl (oM rfl (tp rfl))<|sc rfl (oM rfl (tp rfl))<|sc rfl (oM rfl (tp rfl))<|sc rfl (xIaN rfl kS30 rfl (tp rfl) hA0 p9)<|.nil) [1,5,14,15] [(0,0)] (λ _ _ st11=>?_)
   refine st11.stF (sb:=0) 0 (PV.root.row rfl hA0 p9) rfl rfl rfl kT3 (by simp) (tp rfl) (tp rfl) rfl rfl iI [1,5] rfl [] rfl rfl (λ _ st12=>wpList_nil (za ?_))
   obtain⟨v13,p13,h14⟩:=bs h10
   refine st12.rgA [1,5] [(0,0)] (λ _ _ st15=>zk (za ?_))
   obtain⟨v16,p16,h17⟩:=bs h14
   refine st15.rgA [1,5] [(0,0)] (λ _ _ st18=>za ?_)
   exact fl h17
  refine za ?_
  have h19:=lo h8 hx4
  cases h19
  exact fx
 rintro a2 w2 ⟨M2,q2_0,st2⟩
 have h20:=k2
 refine st2.sqA [4] [(0,0)] (λ _ _ st21=>wp_ret ?_)
 exact st21.rsF (s:=0) 0 rfl rfl rfl iI h20 ww
def wK(x0:Spec)(x1:Int):Option (Spec×Int):=
(wJ x0.roots x1).bind λ v4=>
some ({ x0 with roots:=v4.1 },v4.2)
theorem Q2{x0:Spec}{x1:Int}{r:Spec×Int}(h:wK x0 x1=some r):FnS prog 22 (owSpec (Ow.row 3 (Ow.frz (α:=Int)))) x0 [dt x1] r.1 (.frz (dt r.2)):=by
 unfold wK at h
 refine fnSV (fn:=f22) 0 1 func22 rfl (oD rfl) rfl (λ M G _ u0 _ st0=>?_)
 refine st0.sqB (sc rfl (xBoxN rfl rfl)<|segC) [1,2] [(0,0)] (λ _ _ st1=>wp_seq (wp_region_list ?_))
 refine st1.segB 3 (sc rfl (xFldC rfl kF37_2 (tp rfl))<|sc rfl (xLdC (sb:=0) (PV.root.fld owSpec.f2) rfl rfl kT30 (tp rfl) rfl)<|segC) [1,6,7] [(0,0)] (λ _ _ st2=>?_)
 obtain⟨v4,p4,h5⟩:=bs h
 refine st2.cSF (l:=[.tmp 7]) 0 (st2.bkV (sb:=0) (PV.root.fld owSpec.f2) rfl rfl iI) rfl rfl kN21 (st2.st.has 6 _ rfl) (by simp) (.cons (tp rfl) .nil) (X2 p4) [1] rfl [] rfl rfl (by decide) (λ _ _ _ _ st3=>?_)
 refine st3.segA 1 [1] [(0,0)] (λ _ _ st6=>wpList_nil (za ?_))
 refine st6.sqA [4] [(0,0)] (λ _ _ st7=>wp_ret ?_)
 exact st7.rsF (s:=0) 0 rfl rfl rfl iI h5 ww
def yN(x0:List Str)(s4:Int×Int):Option ((Int×Int)⊕(Int⊕Int)):=
if(cmpI .lss s4.2 (x0.length:Int))=true then((atI x0 s4.2).bind λ v9=>
(zZ s4.1).bind λ v10=>
if(decide (v9≠v10))=true then(some (.inr (.inr (-1:Int))))
else((i64 (s4.1+(1:Int))).bind λ v19=>
(i64 (s4.2+(1:Int))).bind λ v22=>
some (.inl (v19,v22))))
else(some (.inr (.inl s4.1)))
def wA(x0:List Str)(x1:Int):Option Int:=
Option.bind (α:=Int⊕Int) (zJ (λ s4=>yN x0 s4) (x1,(0:Int))) (Sum.elim (λ b2=>
some b2) some)
theorem Ju{x0:List Str}{x1:Int}{r:Int}(h:wA x0 x1=some r):Fn prog 111 [dt x0,dt x1] (dt r):=by
 unfold wA at h
 refine fnx (fn:=f111) 0 func111 rfl (oD rfl) rfl (λ M w0 _ st0=>?_)
 refine st0.sq1 [0,1] (λ _ _ st1=>?_)
 obtain⟨o2,p2,k2⟩:=bs h
 refine zl (λ a w=>∃ b2,o2=.inl b2/\Sx (Frm.of w0) 22 M M [] [(1,dt b2)] [] a w) ?_ ?_
 ·
  refine st1.sq1 [0,1,5] (λ _ _ st3=>wp_block ?_)
  refine zA p2 (λ s4 a w=>Sx (Frm.of w0) 22 M M [] [(0,dt x0),(1,dt s4.1),(5,dt s4.2)] [] a w) (st3.sel0 [0,1,5] rfl) ?_
  rintro s4 z4 a4 w4 st4 hs4 hx4
  have h5:yN x0 s4=some z4:=hs4
  unfold yN at h5
  refine wp_seq ?_
  refine st4.sq1 [0,1,5,9] (λ _ _ st6=>?_)
  refine st6.cs rfl h5 (λ _ h7=>wp_skip (za (wp_seq (wp_block (wp_seq (wp_seq ?_)))))) (λ _ h8=>wp_exit (ze (ze (zw ?_))))
  ·
   obtain⟨v9,p9,v10,p10,h12⟩:=bsB h7
   refine st6.drA (D:=[_,_,_,_,_,_,_]) zI [[(0,nS)],[(5,nS)],[(12,0),(13,1)],[(14,2)],[(1,nS)],[(16,4)],[(15,3),(17,5)]] [0,1,5,18] [] (λ _ _ st13=>?_) (hs:=rc rfl rfl (oM rfl (tp rfl))<|rc rfl rfl (oM rfl (tp rfl))<|rc rfl rfl (xIdx rfl kS75 (tp rfl) (tp rfl) p9)<|rc rfl rfl (zp rfl kT9 (tp rfl))<|rc rfl rfl (oM rfl (tp rfl))<|rc rfl rfl (zq (l:=[.tmp 16]) rfl kN108 (.cons (tp rfl) .nil) (xz p10))<|rc rfl rfl (XE rfl (tp rfl) (tp rfl))<|.nil)
   refine za ?_
   refine st13.cs rfl h12 (λ _ h14=>?_) (λ _ h15=>wp_skip (za ?_))
   ·
    refine st13.sq1 [4] (λ _ _ st16=>wp_ret (zd (zn (zd (zd (zn (zd ?_)))))))
    have h17:=lo h14 hx4
    have h18:=jo h17 k2
    exact st16.ret rfl rfl h18
   obtain⟨v19,p19,h20⟩:=bs h15
   refine st13.rg1 [0,1,5] (λ _ _ st21=>zk (za ?_))
   obtain⟨v22,p22,h23⟩:=bs h20
   refine st21.rg1 [0,1,5] (λ _ _ st24=>za ?_)
   exact⟨_,(Option.some.inj h23).symm,st24.sel0 [0,1,5] rfl⟩
  refine za ?_
  have h25:=lo h8 hx4
  exact⟨_,(Option.some.inj h25).symm,st6.sel0 [1] rfl⟩
 rintro a2 w2 ⟨b2,rfl,st2⟩
 have h26:=jn k2
 refine st2.sq1 [4] (λ _ _ st27=>wp_ret ?_)
 exact st27.ret rfl rfl h26
def xK(x0:List Dir)(s4:Int×Int):Option ((Int×Int)⊕(Int⊕Int)):=
if(cmpI .lss s4.2 (x0.length:Int))=true then((atI x0 s4.2).bind λ v9=>
if(cmpI .neq v9.root s4.1)=true then(some (.inr (.inr (-1:Int))))
else((i64 (s4.1+(1:Int))).bind λ v17=>
(atI x0 s4.2).bind λ v20=>
(zZ v17).bind λ v21=>
if(decide (v20.pkg≠v21))=true then(some (.inr (.inr (-1:Int))))
else((i64 (v17+(1:Int))).bind λ v30=>
(atI x0 s4.2).bind λ v33=>
if(cmpI .neq v33.stamp v30)=true then(some (.inr (.inr (-1:Int))))
else((i64 (v30+(1:Int))).bind λ v41=>
(atI x0 s4.2).bind λ v44=>
(wA v44.names v41).bind λ v45=>
if(cmpI .lss v45 (0:Int))=true then(some (.inr (.inr (-1:Int))))
else((i64 (s4.2+(1:Int))).bind λ v55=>
some (.inl (v45,v55)))))))
else(some (.inr (.inl s4.1)))
def jV(x0:List Dir)(x1:Int):Option Int:=
Option.bind (α:=Int⊕Int) (zJ (λ s4=>xK x0 s4) (x1,(0:Int))) (Sum.elim (λ b2=>
some b2) some)
theorem Q3{x0:List Dir}{x1:Int}{r:Int}(h:jV x0 x1=some r):Fn prog 65 [dt x0,dt x1] (dt r):=by
 unfold jV at h
 refine fnx (fn:=f65) 0 func65 rfl (oD rfl) rfl (λ M w0 _ st0=>?_)
 refine st0.sq1 [0,1] (λ _ _ st1=>?_)
 obtain⟨o2,p2,k2⟩:=bs h
 refine zl (λ a w=>∃ b2,o2=.inl b2/\Sx (Frm.of w0) 50 M M [] [(1,dt b2)] [] a w) ?_ ?_
 ·
  refine st1.sq1 [0,1,5] (λ _ _ st3=>wp_block ?_)
  refine zA p2 (λ s4 a w=>Sx (Frm.of w0) 50 M M [] [(0,dt x0),(1,dt s4.1),(5,dt s4.2)] [] a w) (st3.sel0 [0,1,5] rfl) ?_
  rintro s4 z4 a4 w4 st4 hs4 hx4
  have h5:xK x0 s4=some z4:=hs4
  unfold xK at h5
  refine wp_seq ?_
  refine st4.sq1 [0,1,5,9] (λ _ _ st6=>?_)
  refine st6.cs rfl h5 (λ _ h7=>wp_skip (za (wp_seq (wp_block (wp_seq ?_))))) (λ _ h8=>wp_exit (ze (ze (zw ?_))))
  ·
   obtain⟨v9,p9,h10⟩:=bs h7
   refine st6.sq1 [0,1,5,18] (λ _ _ st11=>?_)
   refine st11.cs rfl h10 (λ _ h12=>?_) (λ _ h13=>wp_skip (za ?_))
   ·
    refine st11.sq1 [4] (λ _ _ st14=>wp_ret (zd (zn (zd (zd (zn (zd ?_)))))))
    have h15:=lo h12 hx4
    have h16:=jo h15 k2
    exact st14.ret rfl rfl h16
   obtain⟨v17,p17,h18⟩:=bs h13
   refine st11.sq1 [0,1,5] (λ _ _ st19=>wp_seq (wp_seq ?_))
   obtain⟨v20,p20,v21,p21,h23⟩:=bsB h18
   refine st19.drA (D:=[_,_,_,_,_,_,_,_]) zI [[(0,nS)],[(5,nS)],[(21,0),(22,1)],[(23,2)],[(24,3)],[(1,nS)],[(26,5)],[(25,4),(27,6)]] [0,1,5,28] [] (λ _ _ st24=>?_) (hs:=rc rfl rfl (oM rfl (tp rfl))<|rc rfl rfl (oM rfl (tp rfl))<|rc rfl rfl (xIdx rfl kS33 (tp rfl) (tp rfl) p20)<|rc rfl rfl (zy Dir.fld1 rfl Wo (tp rfl))<|rc rfl rfl (zp rfl kT9 (tp rfl))<|rc rfl rfl (oM rfl (tp rfl))<|rc rfl rfl (zq (l:=[.tmp 26]) rfl kN108 (.cons (tp rfl) .nil) (xz p21))<|rc rfl rfl (XE rfl (tp rfl) (tp rfl))<|.nil)
   refine za ?_
   refine st24.cs rfl h23 (λ _ h25=>?_) (λ _ h26=>wp_skip (za ?_))
   ·
    refine st24.sq1 [4] (λ _ _ st27=>wp_ret (zd (zn (zd (zd (zn (zd ?_)))))))
    have h28:=lo h25 hx4
    have h29:=jo h28 k2
    exact st27.ret rfl rfl h29
   obtain⟨v30,p30,h31⟩:=bs h26
   refine st24.sq1 [0,1,5] (λ _ _ st32=>wp_seq ?_)
   obtain⟨v33,p33,h34⟩:=bs h31
   refine st32.sq1 [0,1,5,37] (λ _ _ st35=>?_)
   refine st35.cs rfl h34 (λ _ h36=>?_) (λ _ h37=>wp_skip (za ?_))
   ·
    refine st35.sq1 [4] (λ _ _ st38=>wp_ret (zd (zn (zd (zd (zn (zd ?_)))))))
    have h39:=lo h36 hx4
    have h40:=jo h39 k2
    exact st38.ret rfl rfl h40
   obtain⟨v41,p41,h42⟩:=bs h37
   refine st35.sq1 [0,1,5] (λ _ _ st43=>?_)
   obtain⟨v44,p44,h46⟩:=bs h42
   obtain⟨v45,p45,h47⟩:=bsW h46 Ju
   refine st43.sq1 [0,1,5] (λ _ _ st48=>?_)
   refine st48.sq1 [0,1,5,48] (λ _ _ st49=>?_)
   refine st49.cs rfl h47 (λ _ h50=>?_) (λ _ h51=>wp_skip (zk (za ?_)))
   ·
    refine st49.sq1 [4] (λ _ _ st52=>wp_ret (zn (zd (zd (zn (zd ?_))))))
    have h53:=lo h50 hx4
    have h54:=jo h53 k2
    exact st52.ret rfl rfl h54
   obtain⟨v55,p55,h56⟩:=bs h51
   refine st49.rg1 [0,1,5] (λ _ _ st57=>za ?_)
   exact⟨_,(Option.some.inj h56).symm,st57.sel0 [0,1,5] rfl⟩
  refine za ?_
  have h58:=lo h8 hx4
  exact⟨_,(Option.some.inj h58).symm,st6.sel0 [1] rfl⟩
 rintro a2 w2 ⟨b2,rfl,st2⟩
 have h59:=jn k2
 refine st2.sq1 [4] (λ _ _ st60=>wp_ret ?_)
 exact st60.ret rfl rfl h59
def yI(x0:Finder)(x1:Int):Option Int:=
(jV x0.dirs x1).bind λ v2=>
if(cmpI .lss v2 (0:Int))=true then(some (-1:Int))
else(some v2)
theorem Y2{x0:Finder}{x1:Int}{r:Int}(h:yI x0 x1=some r):Fn prog 23 [dt x0,dt x1] (dt r):=by
 unfold yI at h
 refine fnx (fn:=f23) 0 func23 rfl (oD rfl) rfl (λ M _ _ st0=>?_)
 refine st0.sq1 [1,2] (λ _ _ st1=>?_)
 obtain⟨v2,p2,h3⟩:=bsW h Q3
 refine st1.sq1 [1] (λ _ _ st4=>wp_seq ?_)
 refine st4.sq1 [1,10] (λ _ _ st5=>?_)
 refine st5.cs rfl h3 (λ _ h6=>?_) (λ _ h7=>wp_skip (za ?_))
 ·
  refine st5.sq1 [4] (λ _ _ st8=>wp_ret (zd ?_))
  exact st8.ret rfl rfl h6
 refine st5.sq1 [4] (λ _ _ st9=>wp_ret ?_)
 exact st9.ret rfl rfl h7
def xL(x0:List Int)(s4:Int×Int):Option ((Int×Int)⊕(Int⊕Int)):=
if(cmpI .lss s4.2 (x0.length:Int))=true then((atI x0 s4.2).bind λ v9=>
if(cmpI .neq v9 s4.1)=true then(some (.inr (.inr (-1:Int))))
else((i64 (s4.1+(1:Int))).bind λ v17=>
(i64 (s4.2+(1:Int))).bind λ v20=>
some (.inl (v17,v20))))
else(some (.inr (.inl s4.1)))
def jW(x0:List Int)(x1:Int):Option Int:=
Option.bind (α:=Int⊕Int) (zJ (λ s4=>xL x0 s4) (x1,(0:Int))) (Sum.elim (λ b2=>
some b2) some)
theorem Q4{x0:List Int}{x1:Int}{r:Int}(h:jW x0 x1=some r):Fn prog 66 [dt x0,dt x1] (dt r):=by
 unfold jW at h
 refine fnx (fn:=f66) 0 func66 rfl (oD rfl) rfl (λ M w0 _ st0=>?_)
 refine st0.sq1 [0,1] (λ _ _ st1=>?_)
 obtain⟨o2,p2,k2⟩:=bs h
 refine zl (λ a w=>∃ b2,o2=.inl b2/\Sx (Frm.of w0) 21 M M [] [(1,dt b2)] [] a w) ?_ ?_
 ·
  refine st1.sq1 [0,1,5] (λ _ _ st3=>wp_block ?_)
  refine zA p2 (λ s4 a w=>Sx (Frm.of w0) 21 M M [] [(0,dt x0),(1,dt s4.1),(5,dt s4.2)] [] a w) (st3.sel0 [0,1,5] rfl) ?_
  rintro s4 z4 a4 w4 st4 hs4 hx4
  have h5:xL x0 s4=some z4:=hs4
  unfold xL at h5
  refine wp_seq ?_
  refine st4.sq1 [0,1,5,9] (λ _ _ st6=>?_)
  refine st6.cs rfl h5 (λ _ h7=>wp_skip (za (wp_seq (wp_block (wp_seq ?_))))) (λ _ h8=>wp_exit (ze (ze (zw ?_))))
  ·
   obtain⟨v9,p9,h10⟩:=bs h7
   refine st6.sq1 [0,1,5,17] (λ _ _ st11=>?_)
   refine st11.cs rfl h10 (λ _ h12=>?_) (λ _ h13=>wp_skip (za ?_))
   ·
    refine st11.sq1 [4] (λ _ _ st14=>wp_ret (zd (zn (zd (zd (zn (zd ?_)))))))
    have h15:=lo h12 hx4
    have h16:=jo h15 k2
    exact st14.ret rfl rfl h16
   obtain⟨v17,p17,h18⟩:=bs h13
   refine st11.rg1 [0,1,5] (λ _ _ st19=>zk (za ?_))
   obtain⟨v20,p20,h21⟩:=bs h18
   refine st19.rg1 [0,1,5] (λ _ _ st22=>za ?_)
   exact⟨_,(Option.some.inj h21).symm,st22.sel0 [0,1,5] rfl⟩
  refine za ?_
  have h23:=lo h8 hx4
  exact⟨_,(Option.some.inj h23).symm,st6.sel0 [1] rfl⟩
 rintro a2 w2 ⟨b2,rfl,st2⟩
 have h24:=jn k2
 refine st2.sq1 [4] (λ _ _ st25=>wp_ret ?_)
 exact st25.ret rfl rfl h24
def xA(x0:Spec)(x1:Int):Option Int:=
(jW x0.roots x1).bind λ v2=>
if(cmpI .lss v2 (0:Int))=true then(some (-1:Int))
else(some v2)
theorem X3{x0:Spec}{x1:Int}{r:Int}(h:xA x0 x1=some r):Fn prog 24 [dt x0,dt x1] (dt r):=by
 unfold xA at h
 refine fnx (fn:=f24) 0 func24 rfl (oD rfl) rfl (λ M _ _ st0=>?_)
 refine st0.sq1 [1,2] (λ _ _ st1=>?_)
 obtain⟨v2,p2,h3⟩:=bsW h Q4
 refine st1.sq1 [1] (λ _ _ st4=>wp_seq ?_)
 refine st4.sq1 [1,10] (λ _ _ st5=>?_)
 refine st5.cs rfl h3 (λ _ h6=>?_) (λ _ h7=>wp_skip (za ?_))
 ·
  refine st5.sq1 [4] (λ _ _ st8=>wp_ret (zd ?_))
  exact st8.ret rfl rfl h6
 refine st5.sq1 [4] (λ _ _ st9=>wp_ret ?_)
 exact st9.ret rfl rfl h7
open Go.RowKit Tryz
set_option maxRecDepth 10000
set_option maxHeartbeats 1600000
theorem kN143:fnB prog 143=true:=by kernel_rfl
theorem kN105:fnB prog 105=true:=by kernel_rfl
theorem kN122:fnB prog 122=true:=by kernel_rfl
theorem kN123:fnB prog 123=true:=by kernel_rfl
theorem kN81:fnB prog 81=true:=by kernel_rfl
theorem kB77:bldB prog 77 [1,1,1,1]=true:=by kernel_rfl
theorem kC77:Y9 prog 77 [1,1,1,1]=some zpDir:=by kernel_rfl
theorem J2:∀ {M:Nat->Prop} {look:Nat->Option Dt} {o:Oper} {q0 q1 q2 q3:Operand} {y0:Int} {y1:Str} {y2:Int} {y3:List Str},o.op=.build 77 #[(0,q0),(1,q1),(2,q2),(3,q3)]->OpdR M look q0 (dt y0)->OpdR M look q1 (dt y1)->OpdR M look q2 (dt y2)->OpdR M look q3 (dt y3)->OpRel prog M look o (dt (⟨y0,y1,y2,y3⟩:Dir)):=@λ _ _ _ q0 q1 q2 q3 y0 y1 y2 y3 ho h0 h1 h2 h3=>ZL (parts:=[(0,q0),(1,q1),(2,q2),(3,q3)]) (ns:=[1,1,1,1]) (zs:=zpDir) rfl ho kB77 kC77 (λ w a hl=>by
 intro p hp;simp only[List.mem_cons,List.not_mem_nil,or_false] at hp
 rcases hp with rfl | rfl | rfl | rfl
 ·
  exact⟨(by decide:0<4),Rep.len (α:=Int) (OpdR.cells h0 hl)⟩
 ·
  exact⟨(by decide:1<4),Rep.len (α:=Str) (OpdR.cells h1 hl)⟩
 ·
  exact⟨(by decide:2<4),Rep.len (α:=Int) (OpdR.cells h2 hl)⟩
 ·
  exact⟨(by decide:3<4),Rep.len (α:=List Str) (OpdR.cells h3 hl)⟩) (λ w a hl=>Dir.parts (x:=(⟨y0,y1,y2,y3⟩:Dir)) (OpdR.cells h0 hl) (OpdR.cells h1 hl) (OpdR.cells h2 hl) (OpdR.cells h3 hl))
theorem kY33:zlB prog 33=true:=by kernel_rfl
theorem kN60:fnB prog 60=true:=by kernel_rfl
theorem kN59:fnB prog 59=true:=by kernel_rfl
theorem zao:∀ {M:Nat->Prop} {look:Nat->Option Dt} {o:Oper} {q0 q1 q3:Operand} {y0:Int} {y1:Str} {y3:Bool},o.op=.build 72 #[(0,q0),(1,q1),(3,q3)]->OpdR M look q0 (dt y0)->OpdR M look q1 (dt y1)->OpdR M look q3 (dt y3)->OpRel prog M look o (dt (⟨y0,y1,⟨[]⟩,y3,0,[]⟩:File)):=@λ _ _ _ q0 q1 q3 y0 y1 y3 ho h0 h1 h3=>ZL (parts:=[(0,q0),(1,q1),(3,q3)]) (ns:=[1,1,1,1,1,1]) (zs:=zpFile) rfl ho kB72 kC72 (λ w a hl=>by
 intro p hp;simp only[List.mem_cons,List.not_mem_nil,or_false] at hp
 rcases hp with rfl | rfl | rfl
 ·
  exact⟨(by decide:0<6),Rep.len (α:=Int) (OpdR.cells h0 hl)⟩
 ·
  exact⟨(by decide:1<6),Rep.len (α:=Str) (OpdR.cells h1 hl)⟩
 ·
  exact⟨(by decide:3<6),Rep.len (α:=Bool) (OpdR.cells h3 hl)⟩) (λ w a hl=>File.parts (x:=(⟨y0,y1,⟨[]⟩,y3,0,[]⟩:File)) (OpdR.cells h0 hl) (OpdR.cells h1 hl) Xp (OpdR.cells h3 hl) ⟨rfl,trivial⟩ WC)
theorem qE:∀ {M:Nat->Prop} {look:Nat->Option Dt} {o:Oper} {q0 q1 q2:Operand} {y0:Int} {y1:Int} {y2:List Int},o.op=.build 37 #[(0,q0),(1,q1),(2,q2)]->OpdR M look q0 (dt y0)->OpdR M look q1 (dt y1)->OpdR M look q2 (dt y2)->OpRel prog M look o (dt (⟨y0,y1,y2⟩:Spec)):=@λ _ _ _ q0 q1 q2 y0 y1 y2 ho h0 h1 h2=>ZL (parts:=[(0,q0),(1,q1),(2,q2)]) (ns:=[1,1,1]) (zs:=zpSpec) rfl ho kB37 kC37 (λ w a hl=>by
 intro p hp;simp only[List.mem_cons,List.not_mem_nil,or_false] at hp
 rcases hp with rfl | rfl | rfl
 ·
  exact⟨(by decide:0<3),Rep.len (α:=Int) (OpdR.cells h0 hl)⟩
 ·
  exact⟨(by decide:1<3),Rep.len (α:=Int) (OpdR.cells h1 hl)⟩
 ·
  exact⟨(by decide:2<3),Rep.len (α:=List Int) (OpdR.cells h2 hl)⟩) (λ w a hl=>Spec.parts (x:=(⟨y0,y1,y2⟩:Spec)) (OpdR.cells h0 hl) (OpdR.cells h1 hl) (OpdR.cells h2 hl))
theorem zap:∀ {M:Nat->Prop} {look:Nat->Option Dt} {o:Oper} {q0 q1 q2:Operand} {y0:Int} {y1:Str} {y2:Str},o.op=.build 72 #[(0,q0),(1,q1),(2,q2)]->OpdR M look q0 (dt y0)->OpdR M look q1 (dt y1)->OpdR M look q2 (dt y2)->OpRel prog M look o (dt (⟨y0,y1,y2,false,0,[]⟩:File)):=@λ _ _ _ q0 q1 q2 y0 y1 y2 ho h0 h1 h2=>ZL (parts:=[(0,q0),(1,q1),(2,q2)]) (ns:=[1,1,1,1,1,1]) (zs:=zpFile) rfl ho kB72 kC72 (λ w a hl=>by
 intro p hp;simp only[List.mem_cons,List.not_mem_nil,or_false] at hp
 rcases hp with rfl | rfl | rfl
 ·
  exact⟨(by decide:0<6),Rep.len (α:=Int) (OpdR.cells h0 hl)⟩
 ·
  exact⟨(by decide:1<6),Rep.len (α:=Str) (OpdR.cells h1 hl)⟩
 ·
  exact⟨(by decide:2<6),Rep.len (α:=Str) (OpdR.cells h2 hl)⟩) (λ w a hl=>File.parts (x:=(⟨y0,y1,y2,false,0,[]⟩:File)) (OpdR.cells h0 hl) (OpdR.cells h1 hl) (OpdR.cells h2 hl) ⟨rfl,trivial⟩ ⟨rfl,trivial⟩ WC)
theorem kI33:sliB prog 33 77 4=true:=by kernel_rfl
theorem kN102:fnB prog 102=true:=by kernel_rfl
theorem kB35:bldB prog 35 [1,1,1]=true:=by kernel_rfl
theorem kC35:Y9 prog 35 [1,1,1]=some JN:=by kernel_rfl
theorem kN57:fnB prog 57=true:=by kernel_rfl
instance iF35_0FcB:FldO prog 35 0 0:=⟨qx⟩
instance iF35_1FcB:FldO prog 35 1 1:=⟨Jr⟩
instance iF35_2FcB:FldO prog 35 2 2:=⟨Js⟩
instance iF37_2FcB:FldO prog 37 2 2:=⟨kF37_2⟩
instance iF77_3FcB:FldO prog 77 3 3:=⟨Xf⟩
def zO(x0:List Dir)(x1:(Dir->Option Bool))(s4:Int):Option (Int⊕(Unit⊕Int)):=
if(cmpI .lss s4 (x0.length:Int))=true then((atI x0 s4).bind λ v10=>
(x1 v10).bind λ v11=>
if v11=true then(some (.inr (.inr s4)))
else((i64 (s4+(1:Int))).bind λ v20=>
some (.inl v20)))
else(some (.inr (.inl ())))
def yg(x0:List Dir)(x1:(Dir->Option Bool)):Option Int:=
Option.bind (α:=Unit⊕Int) (zJ (λ s4=>zO x0 x1 s4) (0:Int)) (Sum.elim (λ _b2=>
some (-1:Int)) some)
theorem qW{x0:List Dir}{x1:(Dir->Option Bool)}{r:Int}(h:yg x0 x1=some r):Fn prog 142 [dt x0,dfn1 prog x1] (dt r):=by
 unfold yg at h
 refine fnx (fn:=f142) 0 func142 rfl (oD rfl) rfl (λ M w0 _ st0=>?_)
 refine st0.sq1 [0,1] (λ _ _ st1=>?_)
 obtain⟨o2,p2,k2⟩:=bs h
 refine zl (λ a w=>∃ b2,o2=.inl b2/\Sx (Frm.of w0) 19 M M [] [] [] a w) ?_ ?_
 ·
  refine st1.sq1 [0,1,7,8] (λ _ _ st3=>wp_block ?_)
  refine zA p2 (λ s4 a w=>Sx (Frm.of w0) 19 M M [] [(0,dt x0),(7,dt (x0.length:Int)),(8,dt s4),(1,dfn1 prog x1)] [] a w) (st3.sel0 [0,7,8,1] rfl) ?_
  rintro s4 z4 a4 w4 st4 hs4 hx4
  have h5:zO x0 x1 s4=some z4:=hs4
  unfold zO at h5
  refine st4.sq1 [0,1,7,8,9] (λ _ _ st6=>wp_seq ?_)
  refine st6.cs rfl h5 (λ _ h7=>wp_skip (za (wp_seq (wp_block ?_)))) (λ _ h8=>wp_exit (ze (ze (zw ?_))))
  ·
   refine st6.sq1 [0,1,5,7,8] (λ _ _ st9=>?_)
   obtain⟨v10,p10,v11,p11,h13⟩:=bsB h7
   refine st9.sq2 (sP 5 (r:=by exact sc rfl (xCaF1 rfl (tp rfl) (tp rfl) p11)<|.nil)) [0,1,5,7,8,16] (λ _ _ st14=>?_)
   refine st14.cs rfl h13 (λ _ h15=>?_) (λ _ h16=>wp_skip (zk (za ?_)))
   ·
    refine st14.sq1 [4] (λ _ _ st17=>wp_ret (zn (zd (zd (zn (zd ?_))))))
    have h18:=lo h15 hx4
    have h19:=jo h18 k2
    exact st17.ret rfl rfl h19
   obtain⟨v20,p20,h21⟩:=bs h16
   refine st14.rg1 [0,1,7,8] (λ _ _ st22=>za ?_)
   exact⟨_,(Option.some.inj h21).symm,st22.sel0 [0,7,8,1] rfl⟩
  refine za ?_
  have h23:=lo h8 hx4
  exact⟨_,(Option.some.inj h23).symm,st6.sel0 [] rfl⟩
 rintro a2 w2 ⟨b2,rfl,st2⟩
 have h24:=jn k2
 refine st2.sq1 [4] (λ _ _ st25=>wp_ret ?_)
 exact st25.ret rfl rfl h24
def qF(x0:Dir)(x1:Int)(x2:Str):Option Bool:=
some (cmpI .eql x0.root x1&&decide (x0.pkg=x2))
theorem zaq{x0:Dir}{x1:Int}{x2:Str}{r:Bool}(h:qF x0 x1 x2=some r):Fn prog 143 [dt x0,dptr x1,dptr x2] (dt r):=by
 unfold qF at h
 refine fnx (fn:=f143) 0 func143 rfl (oD rfl) rfl (λ M _ _ st0=>?_)
 refine st0.sq1 [1,2,3] (λ _ _ st1=>?_)
 refine st1.sq3 [4] (λ _ _ st2=>wp_ret ?_)
 exact st2.ret rfl rfl h
def jL(x0:List Dir)(x1:Int)(x2:Str):Option Int:=
(yg x0 (λ a0=>qF a0 x1 x2)).bind λ v2=>
some v2
theorem XN{x0:List Dir}{x1:Int}{x2:Str}{r:Int}(h:jL x0 x1 x2=some r):Fn prog 105 [dt x0,dt x1,dt x2] (dt r):=by
 unfold jL at h
 refine fnx (fn:=f105) 0 func105 rfl (oD rfl) rfl (λ M _ a0 st0=>?_)
 refine st0.sq1 [0,4,5] (λ _ _ st1=>?_)
 obtain⟨v2,p2,h3⟩:=bs h
 refine st1.sq2 (sP 1 (r:=by exact sc rfl (xMkF1 (l:=[.tmp 4,.tmp 5]) (g:=(λ a0=>qF a0 x1 x2)) rfl kN143 (.cons (tp rfl) (.cons (tp rfl) .nil)) rfl (λ _ _ h=>zaq h))<|sc rfl (oK (qW p2))<|segC)) [6] (λ _ _ st4=>wp_ret ?_)
 exact st4.ret rfl rfl h3
def wu(x0:List Dir)(x1:Int)(x2:Int)(s4:Int):Option (Int⊕(Unit⊕Bool)):=
if(cmpI .lss s4 (x0.length:Int))=true then((atI x0 s4).bind λ v9=>
(yc v9.root (0:Int) (2:Int)).bind λ v17=>
(gO ((!v17) == false) (yX v9.pkg)).bind λ v18=>
(gO (((!v17)||(!v18)) == false) (yc v9.stamp (0:Int) x1)).bind λ v19=>
(gO (((((!v17)||(!v18))||(!v19))||cmpI .gtr (v9.names.length:Int) x2) == false) (Xq x0 s4)).bind λ v20=>
(gO (((((!v17)||(!v18))||(!v19))||cmpI .gtr (v9.names.length:Int) x2) == false) (jL v20 v9.root v9.pkg)).bind λ v21=>
if(((((!v17)||(!v18))||(!v19))||cmpI .gtr (v9.names.length:Int) x2)||cmpI .geq v21 (0:Int))=true then(some (.inr (.inr false)))
else((i64 (s4+(1:Int))).bind λ v33=>
some (.inl v33)))
else(some (.inr (.inl ())))
def j9(x0:List Dir)(x1:Int)(x2:Int):Option Bool:=
Option.bind (α:=Unit⊕Bool) (zJ (λ s4=>wu x0 x1 x2 s4) (0:Int)) (Sum.elim (λ _b2=>
some (cmpI .leq (x0.length:Int) (20:Int))) some)
theorem W6{x0:List Dir}{x1:Int}{x2:Int}{r:Bool}(h:j9 x0 x1 x2=some r):Fn prog 73 [dt x0,dt x1,dt x2] (dt r):=by
 unfold j9 at h
 refine fnx (fn:=f73) 1 func73 rfl (oD rfl) rfl (λ M w0 _ st0=>?_)
 refine st0.sq1 [0,1,2] (λ _ _ st1=>?_)
 obtain⟨o2,p2,k2⟩:=bs h
 refine zl (λ a w=>∃ b2,o2=.inl b2/\(∃ M1 q2_0,Sx (Frm.of w0) 55 M M1 [oneB q2_0] [(0,dt x0)] [] a w)) ?_ ?_
 ·
  refine st1.sq1 [0,1,2,9,10,11] (λ _ _ st3=>wp_block ?_)
  refine zA p2 (λ s4 a w=>∃ M1 q4_0,Sx (Frm.of w0) 55 M M1 [oneB q4_0] [(0,dt x0),(1,dt x1),(2,dt x2),(9,dt x0),(10,dt (x0.length:Int)),(11,dt s4)] [] a w) fx ?_
  rintro s4 z4 a4 w4 ⟨M4,q4_0,st4⟩ hs4 hx4
  have h5:wu x0 x1 x2 s4=some z4:=hs4
  unfold wu at h5
  refine st4.sq1 [0,1,2,9,10,11,12] (λ _ _ st6=>wp_seq ?_)
  refine st6.cs rfl h5 (λ _ h7=>wp_skip (za (wp_seq (wp_block (wp_seq (wp_region_list ?_)))))) (λ _ h8=>wp_exit (ze (ze (zw ?_))))
  ·
   obtain⟨v9,p9,h10⟩:=bs h7
   refine st6.segA 3 [0,1,2,9,10,11,13,15] [] (λ _ _ st11=>?_)
   refine st11.alA 0 zrDir [0,1,2,9,10,11,13,15] [] (λ b13 _ _ _ st13=>?_)
   refine st13.segA 1 [0,1,2,7,9,10,11,15] [(8,0)] (λ _ _ st14=>?_)
   refine st14.stA 8 0 FldS.id (tp rfl) [0,1,2,7,9,10,11] [] (λ _ _ st16=>wpList_nil (za (wp_seq ?_)))
   obtain⟨v17,p17,v18,p18,v19,p19,v20,p20,h25⟩:=bsD h10
   obtain⟨v21,p21,h26⟩:=bs h25
   refine st16.drA (D:=[_,_,_,_,_,_,_,_,_,_,_,_,_,_,_,_,_,_,_,_,_,_,_,_,_,_,_,_,_,_,_,_,_,_,_]) zI [[(8,nS)],[(16,0)],[(17,1)],[(18,2)],[(19,3)],[(8,nS),(20,4)],[(21,5),(20,4)],[(22,6),(20,4)],[(23,7),(20,4)],[(20,4),(24,8)],[(25,9)],[(8,nS),(26,10)],[(27,11),(26,10)],[(1,nS),(26,10)],[(28,12),(29,13),(26,10)],[(30,14),(26,10)],[(26,10),(31,15)],[(32,16)],[(8,nS),(33,17)],[(34,18),(33,17)],[(35,19),(33,17)],[(2,nS),(33,17)],[(36,20),(37,21),(33,17)],[(33,17),(38,22)],[(39,23)],[(0,nS),(40,24)],[(7,nS),(40,24)],[(41,25),(42,26),(40,24)],[(8,nS),(40,24)],[(44,28),(40,24)],[(8,nS),(40,24)],[(46,30),(40,24)],[(43,27),(45,29),(47,31),(40,24)],[(48,32),(40,24)],[(40,24),(49,33)]] [0,1,2,9,10,11,50] [] (λ _ _ st27=>?_) (hs:=rc rfl rfl (yV Dir.fld0 rfl Jq (tp rfl))<|rc rfl rfl (zM rfl kT3 (tp rfl))<|rc rfl rfl (zq (l:=[.tmp 17,.const (.int .i64 0),.const (.int .i64 2)]) rfl kN74 (.cons (tp rfl) (.cons cI (.cons cI .nil))) (yQ p17))<|rc rfl rfl (yU rfl (tp rfl))<|rc rfl rfl (oM rfl (tp rfl))<|rg rfl rfl rfl (λ hg=>yV Dir.fld1 rfl Wo (tp rfl))<|rg rfl rfl rfl (λ hg=>zM rfl kT9 (zf hg rfl))<|rg rfl rfl rfl (λ hg=>zq (l:=[.tmp 22]) rfl kN88 (.cons (zf hg rfl) .nil) (qN (gh hg p18)))<|rg rfl rfl rfl (λ hg=>yU rfl (zf hg rfl))<|rc rfl rfl (wP rfl (tp rfl) (zb rfl))<|rc rfl rfl (oM rfl (tp rfl))<|rg rfl rfl rfl (λ hg=>yV Dir.fld2 rfl Wp (tp rfl))<|rg rfl rfl rfl (λ hg=>zM rfl kT3 (zf hg rfl))<|rg rfl rfl rfl (λ hg=>oM rfl (tp rfl))<|rg rfl rfl rfl (λ hg=>zq (l:=[.tmp 28,.const (.int .i64 0),.tmp 29]) rfl kN74 (.cons (zf hg rfl) (.cons cI (.cons (zf hg rfl) .nil))) (yQ (gh hg p19)))<|rg rfl rfl rfl (λ hg=>yU rfl (zf hg rfl))<|rc rfl rfl (wP rfl (tp rfl) (zb rfl))<|rc rfl rfl (oM rfl (tp rfl))<|rg rfl rfl rfl (λ hg=>yV Dir.fld3 rfl Xf (tp rfl))<|rg rfl rfl rfl (λ hg=>zM rfl kT75 (zf hg rfl))<|rg rfl rfl rfl (λ hg=>Wz rfl kL75 (zf hg rfl))<|rg rfl rfl rfl (λ hg=>oM rfl (tp rfl))<|rg rfl rfl rfl (λ hg=>oCI rfl (zf hg rfl) (zf hg rfl))<|rc rfl rfl (wP rfl (tp rfl) (zb rfl))<|rc rfl rfl (oM rfl (tp rfl))<|rg rfl rfl rfl (λ hg=>oM rfl (tp rfl))<|rg rfl rfl rfl (λ hg=>oM rfl (tp rfl))<|rg rfl rfl rfl (λ hg=>xSliH rfl kS33 (zf hg rfl) (zf hg rfl) (gh hg p20))<|rg rfl rfl rfl (λ hg=>yV Dir.fld0 rfl Jq (tp rfl))<|rg rfl rfl rfl (λ hg=>zM rfl kT3 (zf hg rfl))<|rg rfl rfl rfl (λ hg=>yV Dir.fld1 rfl Wo (tp rfl))<|rg rfl rfl rfl (λ hg=>zM rfl kT9 (zf hg rfl))<|rg rfl rfl rfl (λ hg=>zq (l:=[.tmp 43,.tmp 45,.tmp 47]) rfl kN105 (.cons (zf hg rfl) (.cons (zf hg rfl) (.cons (zf hg rfl) .nil))) (XN (gh hg p21)))<|rg rfl rfl rfl (λ hg=>oCI rfl (zf hg rfl) cI)<|rc rfl rfl (wP rfl (tp rfl) (zb rfl))<|.nil)
   refine za ?_
   refine st27.cs rfl h26 (λ _ h28=>?_) (λ _ h29=>wp_skip (zk (za ?_)))
   ·
    refine st27.sq1 [6] (λ _ _ st30=>wp_ret (zn (zd (zd (zn (zd ?_))))))
    have h31:=lo h28 hx4
    have h32:=jo h31 k2
    exact st30.ret rfl rfl h32
   obtain⟨v33,p33,h34⟩:=bs h29
   refine st27.rg1 [0,1,2,9,10,11] (λ _ _ st35=>za ?_)
   exact fl h34
  refine za ?_
  have h36:=lo h8 hx4
  exact fl h36
 rintro a2 w2 ⟨b2,rfl,⟨M2,q2_0,st2⟩⟩
 have h37:=jn k2
 refine st2.sq1 [6] (λ _ _ st38=>wp_ret ?_)
 exact st38.ret rfl rfl h37
def wB(x0:Finder):Option Bool:=
(j9 x0.dirs (200:Int) (12:Int)).bind λ v2=>
(gO (v2 == true) (yc x0.fills (0:Int) (1000:Int))).bind λ v3=>
(gO ((v2&&v3) == true) (yc x0.hits (0:Int) (1000:Int))).bind λ v4=>
some ((v2&&v3)&&v4)
theorem Jv{x0:Finder}{r:Bool}(h:wB x0=some r):Fn prog 28 [dt x0] (dt r):=by
 unfold wB at h
 refine fnx (fn:=f28) 0 func28 rfl (oD rfl) rfl (λ M _ _ st0=>?_)
 refine st0.sq1 [1] (λ _ _ st1=>?_)
 obtain⟨v2,p2,v3,p3,v4,p4,h7⟩:=bsC h
 refine st1.sq2 (sP 2 (r:=by exact sc rfl (oK (W6 p2))<|sP 3 (r:=by exact sg rfl rfl (λ hg=>oK (yQ (gh hg p3)))<|sP 4 (r:=by exact sg rfl rfl (λ hg=>oK (yQ (gh hg p4)))<|segC)))) [2] (λ _ _ st8=>wp_ret ?_)
 exact st8.ret rfl rfl h7
def jE(x0:Disk):Option Bool:=
(js x0.tree).bind λ v2=>
(gO (v2 == true) (yc x0.clock (0:Int) (200:Int))).bind λ v3=>
(gO ((v2&&v3) == true) (j9 x0.dirs x0.clock (0:Int))).bind λ v4=>
some ((v2&&v3)&&v4)
theorem Qy{x0:Disk}{r:Bool}(h:jE x0=some r):Fn prog 29 [dt x0] (dt r):=by
 unfold jE at h
 refine fnx (fn:=f29) 0 func29 rfl (oD rfl) rfl (λ M _ _ st0=>?_)
 refine st0.sq1 [1] (λ _ _ st1=>?_)
 obtain⟨v2,p2,v3,p3,v4,p4,h7⟩:=bsC h
 refine st1.sq2 (sP 2 (r:=by exact sc rfl (oK (Qo p2))<|sP 3 (r:=by exact sg rfl rfl (λ hg=>oK (yQ (gh hg p3)))<|sP 6 (r:=by exact sg rfl rfl (λ hg=>oK (W6 (gh hg p4)))<|segC)))) [2] (λ _ _ st8=>wp_ret ?_)
 exact st8.ret rfl rfl h7
def qG(x0:Disk)(x1:Int)(x2:Str):Option Int:=
(jL x0.dirs x1 x2).bind λ v2=>
if(cmpI .lss v2 (0:Int))=true then(some (0:Int))
else((atI x0.dirs v2).bind λ v9=>
some v9.stamp)
theorem zar{x0:Disk}{x1:Int}{x2:Str}{r:Int}(h:qG x0 x1 x2=some r):Fn prog 79 [dt x0,dt x1,dt x2] (dt r):=by
 unfold qG at h
 refine fnx (fn:=f79) 0 func79 rfl (oD rfl) rfl (λ M _ _ st0=>?_)
 refine st0.sq1 [1,2,3] (λ _ _ st1=>?_)
 obtain⟨v2,p2,h3⟩:=bsW h XN
 refine st1.sq1 [3,7] (λ _ _ st4=>wp_seq ?_)
 refine st4.sq1 [3,7,14] (λ _ _ st5=>?_)
 refine st5.cs rfl h3 (λ _ h6=>?_) (λ _ h7=>wp_skip (za ?_))
 ·
  refine st5.sq1 [6] (λ _ _ st8=>wp_ret (zd ?_))
  exact st8.ret rfl rfl h6
 obtain⟨v9,p9,h10⟩:=bs h7
 refine st5.sq1 [6] (λ _ _ st11=>wp_ret ?_)
 exact st11.ret rfl rfl h10
def xi(x0:Str)(x1:Str):Option (Str×Str×Bool):=
(yS x0 x1).bind λ v2=>
if(cmpI .geq v2 (0:Int))=true then((cutHO x0 v2).bind λ v8=>
(i64 (v2+(x1.l.length:Int))).bind λ v9=>
(cutLO x0 v9).bind λ v10=>
some (v8,v10,true))
else(some (x0,(⟨[]⟩:Str),false))
theorem YR{x0:Str}{x1:Str}{r:Str×Str×Bool}(h:xi x0 x1=some r):Fn prog 156 [dt x0,dt x1] (dtup [dt r.1,dt r.2.1,dt r.2.2]):=by
 unfold xi at h
 refine fnx (fn:=f156) 0 func156 rfl (oD rfl) rfl (λ M _ _ st0=>?_)
 refine st0.sq1 [0,1] (λ _ _ st1=>wp_seq ?_)
 obtain⟨v2,p2,h3⟩:=bsW h Yq
 refine st1.sq1 [0,1,7] (λ _ _ st4=>?_)
 refine st4.sq1 [0,1,7,12] (λ _ _ st5=>?_)
 refine st5.cs rfl h3 (λ _ h6=>wp_seq ?_) (λ _ h7=>wp_skip (za ?_))
 ·
  obtain⟨v8,p8,v9,p9,v10,p10,h13⟩:=bsC h6
  refine st5.drA (D:=[_,_,_,_,_,_,_,_,_,_,_,_]) zI [[(0,nS)],[(7,nS)],[(13,0),(14,1)],[(0,nS)],[(7,nS)],[(1,nS)],[(18,5)],[(17,4),(19,6)],[(16,3),(20,7)],[(15,2)],[(21,8)],[]] [4,5,6] [] (λ _ _ st14=>za ?_)
  refine wp_ret (zd ?_)
  obtain rfl:=Option.some.inj h13
  exact st14.ret3 rfl (st14.frozen (t:=4) rfl) (st14.frozen (t:=5) rfl) (st14.frozen (t:=6) rfl) ⟨rfl,rfl,rfl⟩ rfl
 refine st5.sq1 [4,5,6] (λ _ _ st15=>wp_ret ?_)
 obtain rfl:=Option.some.inj h7
 exact st15.ret3 rfl (st15.frozen (t:=4) rfl) (st15.frozen (t:=5) rfl) (st15.frozen (t:=6) rfl) ⟨rfl,rfl,rfl⟩ rfl
def Zk(x0:Str)(x1:Str):Option (Str×Str×Bool):=
(xi x0 x1).bind λ v2=>
some (v2.1,v2.2.1,v2.2.2)
theorem strings_Cut_w{x0:Str}{x1:Str}{r:Str×Str×Bool}(h:Zk x0 x1=some r):Fn prog 122 [dt x0,dt x1] (dtup [dt r.1,dt r.2.1,dt r.2.2]):=by
 unfold Zk at h
 refine fnx (fn:=f122) 0 func122 rfl (oD rfl) rfl (λ M _ _ st0=>?_)
 refine st0.sq1 [0,1] (λ _ _ st1=>?_)
 obtain⟨v2,p2,h3⟩:=bsW h YR
 refine st1.sq1 [4,5,6] (λ _ _ st4=>wp_ret ?_)
 obtain rfl:=Option.some.inj h3
 exact st4.ret3 rfl (st4.frozen (t:=4) rfl) (st4.frozen (t:=5) rfl) (st4.frozen (t:=6) rfl) ⟨rfl,rfl,rfl⟩ rfl
def x6(x0:Tree)(x1:Int)(x2:Str)(s5:(List Str)×Int):Option (((List Str)×Int)⊕(List Str)):=
if(cmpI .lss s5.2 (x0.files.length:Int))=true then(Option.bind (α:=(List Str)) ((atI x0.files s5.2).bind λ v11=>
if(cmpI .neq v11.root x1)=true then(some s5.1)
else(if(decide (v11.pkg=x2))=true then(Option.bind (α:=(List Str)) (if v11.init=true then((appO 16 s5.1 ([(⟨[42]⟩:Str)]:List Str)).bind λ v31=>
some v31)
else((appO 16 s5.1 ([v11.name]:List Str)).bind λ v37=>
some v37)) λ o24=>
some o24)
else((jq v11.pkg x2).bind λ v41=>
if v41=true then(Option.bind (α:=Str) (if(decide (x2≠(⟨[]⟩:Str)))=true then((i64 ((x2.l.length:Int)+(1:Int))).bind λ v51=>
(cutLO v11.pkg v51).bind λ v52=>
some v52)
else(some v11.pkg)) λ o47=>
(Zk o47 (⟨[46]⟩:Str)).bind λ v57=>
(catO v57.1 (⟨[47]⟩:Str)).bind λ v60=>
(appO 16 s5.1 ([v60]:List Str)).bind λ v65=>
some v65)
else(some s5.1)))) λ o10=>
(i64 (s5.2+(1:Int))).bind λ v69=>
some (.inl (o10,v69)))
else(some (.inr s5.1))
def qH(x0:Tree)(x1:Int)(x2:Str):Option (List Str):=
Option.bind (α:=(List Str)) (zJ (λ s5=>x6 x0 x1 x2 s5) ([],(0:Int))) λ o3=>
(q8 o3).bind λ v77=>
some v77
theorem zas{x0:Tree}{x1:Int}{x2:Str}{r:List Str}(h:qH x0 x1 x2=some r):FnOwn prog 81 [dt x0,dt x1,dt x2] 9 r:=by
 unfold qH at h
 refine fnxO (fn:=f81) 2 func81 rfl (oD rfl) rfl (λ M w0 _ st0=>?_)
 refine st0.sq2 (sP 1 (r:=by exact sc rfl (oA rfl (ZD (α:=Str) (e:=9)))<|.nil)) [1,2,3] (λ _ _ st1=>?_)
 refine st1.sqB (sc rfl (qh (α:=Str) (e:=9) rfl kS75)<|segC) [1,2,3] [(7,0)] (λ _ _ st2=>?_)
 obtain⟨o3,p3,k3⟩:=bs h
 refine zl (λ a w=>∃ M1 q3_0 q3_1,Sx (Frm.of w0) 68 M M1 [oneB q3_0,oneB q3_1] [] [(7,0,dtip q3_0 9 o3)] a w) ?_ ?_
 ·
  refine st2.sqA [1,2,16,17,18] [(7,0)] (λ _ _ st4=>wp_block ?_)
  refine zA p3 (λ s5 a w=>∃ M1 q5_0 q5_1,Sx (Frm.of w0) 68 M M1 [oneB q5_0,oneB q5_1] [(1,dt x1),(2,dt x2),(16,dt x0.files),(17,dt (x0.files.length:Int)),(18,dt s5.2)] [(7,0,dtip q5_0 9 s5.1)] a w) fx ?_
  rintro s5 z5 a5 w5 ⟨M5,q5_0,q5_1,st5⟩ hs5 hx5
  have h6:x6 x0 x1 x2 s5=some z5:=hs5
  unfold x6 at h6
  refine st5.sqA [1,2,16,17,18,19] [(7,0)] (λ _ _ st7=>wp_seq ?_)
  refine st7.cs rfl h6 (λ _ h8=>wp_skip (za ?_)) (λ _ h9=>wp_exit (ze (ze (zw ?_))))
  ·
   obtain⟨o10,p10,k10⟩:=bs h8
   refine zl (λ a w=>∃ M1 q10_0 q10_1,Sx (Frm.of w0) 68 M M1 [oneB q10_0,oneB q10_1] [(1,dt x1),(2,dt x2),(16,dt x0.files),(17,dt (x0.files.length:Int)),(18,dt s5.2)] [(7,0,dtip q10_0 9 o10)] a w) ?_ ?_
   ·
    refine wp_block (wp_seq (wp_region_list ?_))
    obtain⟨v11,p11,h12⟩:=bs p10
    refine st7.segA 2 [1,2,16,17,18,21] [(7,0)] (λ _ _ st13=>?_)
    refine st13.alA 1 Qh [1,2,16,17,18,21] [7] (λ b15 _ _ _ st15=>?_)
    refine st15.stA 9 1 FldS.id (tp rfl) [1,2,16,17,18] [7] (λ _ _ st17=>wpList_nil (za (wp_seq ?_)))
    refine st17.sqC [1,2,16,17,18,25] [(7,0),(9,1)] (λ _ _ st18=>?_)
    refine st18.cs rfl h12 (λ _ h19=>wp_exit (ze (zw ?_))) (λ _ h20=>wp_skip (za (wp_seq ?_)))
    ·
     refine za ?_
     cases h19
     exact fx
    refine st18.sqC [1,2,16,17,18,29] [(7,0),(9,1)] (λ _ _ st21=>?_)
    refine st21.cs rfl h20 (λ _ h22=>?_) (λ _ h23=>wp_skip (za ?_))
    ·
     obtain⟨o24,p24,k24⟩:=bs h22
     refine zl (λ a w=>∃ M1 q24_0 q24_1,Sx (Frm.of w0) 68 M M1 [oneB q24_0,oneB q24_1] [(1,dt x1),(2,dt x2),(16,dt x0.files),(17,dt (x0.files.length:Int)),(18,dt s5.2)] [(7,0,dtip q24_0 9 o24)] a w) ?_ ?_
     ·
      refine st21.sqC [1,2,16,17,18,31] [(7,0),(9,1)] (λ _ _ st25=>?_)
      refine st25.cs rfl p24 (λ _ h26=>wp_region_list ?_) (λ _ h27=>wp_region_list ?_)
      ·
       refine st25.segB 2 (sP 1 (r:=by exact sc rfl (Yo (opds:=[_]) rfl kS75 kY75 rfl rfl (by decide) (.cons (ye (by decide)) .nil))<|.nil)) [1,2,16,17,18,33] [(7,0),(32,0)] (λ _ _ st28=>?_)
       obtain⟨v31,p31,h32⟩:=bs h26
       refine st28.apA 0 ZC p31 [1,2,16,17,18] [] (λ g30 _ _ _ st30=>?_)
       refine st30.segA 1 [1,2,16,17,18] [(7,0)] (λ _ _ st33=>wpList_nil (za ?_))
       cases h32
       exact fx
      refine st25.segC 4 [1,2,16,17,18,38] [(7,0),(35,0)] (λ _ _ st34=>?_)
      obtain⟨v37,p37,h38⟩:=bs h27
      refine st34.apA 0 ZC p37 [1,2,16,17,18] [] (λ g36 _ _ _ st36=>?_)
      refine st36.segA 1 [1,2,16,17,18] [(7,0)] (λ _ _ st39=>wpList_nil (za ?_))
      cases h38
      exact fx
     rintro a24 w24 ⟨M24,q24_0,q24_1,st24⟩
     have h40:=k24
     refine wp_exit (ze (zw ?_))
     refine za ?_
     cases h40
     exact fx
    obtain⟨v41,p41,h42⟩:=bsW h23 Wi
    refine st21.sqC [1,2,16,17,18,43] [(7,0),(9,1)] (λ _ _ st43=>?_)
    refine st43.cs rfl h42 (λ _ h44=>?_) (λ _ h45=>wp_skip (zk (za ?_)))
    ·
     refine st43.sqC [1,2,10,16,17,18] [(7,0),(9,1)] (λ _ _ st46=>?_)
     obtain⟨o47,p47,k47⟩:=bs h44
     refine zl (λ a w=>∃ M1 q47_0 q47_1,Sx (Frm.of w0) 68 M M1 [oneB q47_0,oneB q47_1] [(1,dt x1),(2,dt x2),(10,dt o47),(16,dt x0.files),(17,dt (x0.files.length:Int)),(18,dt s5.2)] [(7,0,dtip q47_0 9 s5.1)] a w) ?_ ?_
     ·
      refine st46.sqB (sc rfl (oM rfl (tp rfl))<|sc rfl (XE rfl (tp rfl) (ye (by decide)))<|.nil) [1,2,10,16,17,18,47] [(7,0),(9,1)] (λ _ _ st48=>?_)
      refine st48.cs rfl p47 (λ _ h49=>?_) (λ _ h50=>wp_skip (za ?_))
      ·
       obtain⟨v51,p51,v52,p52,h54⟩:=bsB h49
       refine st48.rgB (sc rfl (yV File.fld1 rfl kF72_1 (tp rfl))<|sc rfl (zM rfl kT9 (tp rfl))<|sc rfl (oM rfl (tp rfl))<|sc rfl (Z5 rfl kX9 (tp rfl))<|sc rfl (xAr rfl (tp rfl) cI p51)<|sc rfl (xCutL rfl kX9 (tp rfl) (tp rfl) p52)<|sc rfl (oA rfl (tp rfl))<|.nil) [1,2,10,16,17,18] [(7,0)] (λ _ _ st55=>za ?_)
       cases h54
       exact fx
      cases h50
      exact fx
     rintro a47 w47 ⟨M47,q47_0,q47_1,st47⟩
     have h56:=k47
     obtain⟨v57,p57,h58⟩:=bs h56
     refine st47.sqB (sc rfl (oM rfl (tp rfl))<|sc rfl (zq (l:=[.tmp 55,_]) rfl kN122 (.cons (tp rfl) (.cons (ye (by decide)) .nil)) (strings_Cut_w p57))<|sc rfl (oM rfl (tp rfl))<|sc rfl (xExt (i:=0) rfl (tp rfl) rfl)<|sc rfl (xExt (i:=1) rfl (tp rfl) rfl)<|sc rfl (xExt (i:=2) rfl (tp rfl) rfl)<|sc rfl (oA rfl (tp rfl))<|sc rfl (oA rfl (tp rfl))<|sc rfl (oA rfl (tp rfl))<|.nil) [1,2,11,16,17,18] [(7,0)] (λ _ _ st59=>wp_region_list ?_)
     obtain⟨v60,p60,h61⟩:=bs h58
     refine st59.segB 4 (sP 2 (r:=by exact sc rfl (xCat rfl (tp rfl) (ye (by decide)) p60)<|segC)) [1,2,16,17,18,63] [(7,0),(60,0)] (λ _ _ st62=>?_)
     obtain⟨v65,p65,h66⟩:=bs h61
     refine st62.apA 0 ZC p65 [1,2,16,17,18] [] (λ g64 _ _ _ st64=>?_)
     refine st64.segA 1 [1,2,16,17,18] [(7,0)] (λ _ _ st67=>wpList_nil (zk (za ?_)))
     cases h66
     exact fx
    cases h45
    exact fx
   rintro a10 w10 ⟨M10,q10_0,q10_1,st10⟩
   have h68:=k10
   obtain⟨v69,p69,h70⟩:=bs h68
   refine st10.rgA [1,2,16,17,18] [(7,0)] (λ _ _ st71=>za ?_)
   exact fl h70
  refine za ?_
  have h72:=lo h9 hx5
  cases h72
  exact fx
 rintro a3 w3 ⟨M3,q3_0,q3_1,st3⟩
 have h73:=k3
 refine wp_seq (wp_region_list ?_)
 refine st3.segA 1 [] [(66,0)] (λ _ _ st74=>?_)
 obtain⟨v77,p77,h78⟩:=bs h73
 refine st74.take (l:=[]) 0 rfl rfl kN123 rfl rfl .nil (impl_sorted_w p77) [] rfl [] rfl rfl (λ g76 _ _ _ st76=>?_)
 refine st76.segA 1 [] [(6,0)] (λ _ _ st79=>wpList_nil (za (wp_ret ?_)))
 exact st79.ret_own 0 rfl rfl iI h78
def ja(x0:Finder)(x1:Disk)(x2:Int)(x3:Str):Option (Finder×(List Str)):=
(qG x1 x2 x3).bind λ v2=>
(jL x0.dirs x2 x3).bind λ v6=>
(gO (cmpI .geq v6 (0:Int) == true) (atI x0.dirs v6)).bind λ v11=>
if(cmpI .geq v6 (0:Int)&&cmpI .eql v11.stamp v2)=true then((i64 (x0.hits+(1:Int))).bind λ v17=>
(atI x0.dirs v6).bind λ v22=>
some ({ x0 with hits:=(if(1000:Int)<v17 then(1000:Int) else v17) },v22.names))
else((i64 (x0.fills+(1:Int))).bind λ v26=>
(qH x1.tree x2 x3).bind λ v30=>
Option.bind (α:=Finder) (if(cmpI .geq v6 (0:Int))=true then((atI x0.dirs v6).bind λ _v43=>
some ({ x0 with dirs:=(x0.dirs.set v6.toNat (⟨x2,x3,v2,v30⟩:Dir)),fills:=(if(1000:Int)<v26 then(1000:Int) else v26) }))
else(if(cmpI .lss (x0.dirs.length:Int) (20:Int))=true then((appO 56 x0.dirs ([(⟨x2,x3,v2,v30⟩:Dir)]:List Dir)).bind λ v60=>
some ({ x0 with dirs:=v60,fills:=(if(1000:Int)<v26 then(1000:Int) else v26) }))
else(some ({ x0 with fills:=(if(1000:Int)<v26 then(1000:Int) else v26) })))) λ o38=>
some (o38,v30))
theorem J3{x0:Finder}{x1:Disk}{x2:Int}{x3:Str}{r:Finder×(List Str)}(h:ja x0 x1 x2 x3=some r):FnS prog 60 (Ow.box (owFinder (Ow.row 77 (Ow.frz (α:=Dir))))) ⟨x0⟩ [dt x1,dt x2,dt x3] ⟨r.1⟩ (.frz (dt r.2)):=by
 unfold ja at h
 refine fnSB (fn:=f60) 0 3 func60 rfl (oD rfl) rfl (λ M G w0 b0 _ st0=>?_)
 refine st0.sqB (sP 1 (r:=by exact sc rfl (oA rfl (qg (α:=Str)))<|.nil)) [2,3,5] [(0,0)] (λ _ _ st1=>?_)
 obtain⟨v2,p2,h3⟩:=bsW h zar
 refine st1.sqA [2,3,5,9] [(0,0)] (λ _ _ st4=>?_)
 obtain⟨v6,p6,h7⟩:=bs h3
 refine st4.hdA 0 0 ((PV.root.box rfl).fld owFinder.f0) [] (λ g5 A5 _ hA5 st5=>?_)
 refine st5.sqB (sP 6 (r:=by exact sc rfl (wR (l:=[.tmp 20,.tmp 21,.tmp 22]) st5.ob.sub rfl kN105 (.cons (Yk (sb:=0) st5.ob 0 ((PV.root.box rfl).fld owFinder.f0) (.head _) rfl (Xv rfl rfl) (tp rfl) rfl iI) (.cons (wQ st5.ob.sub (tp rfl)) (.cons (wQ st5.ob.sub (tp rfl)) .nil))) (XN p6) ww)<|segC)) [2,3,5,9,10] [(0,0)] (λ _ _ st8=>?_)
 have st9:=st8.ncf (s:=0) 0 rfl rfl iI [] rfl
 refine wp_seq ?_
 obtain⟨v11,p11,h12⟩:=bs h7
 refine st9.hdR (s:=0) 0 (cmpI .geq v6 (0:Int) == true) (λ hg=>((PV.root.box rfl).fld owFinder.f0)) rfl rfl iI [] rfl (λ g10 A10 _ hA10 st10=>?_)
 refine st10.sqB (sc rfl (oM rfl (tp rfl))<|sc rfl (oCI rfl (tp rfl) cI)<|sc rfl (oM rfl (tp rfl))<|sg rfl rfl (λ hg=>oM rfl (zz rfl))<|sg rfl rfl (λ hg=>xNc rfl (zf hg rfl))<|sg rfl rfl (λ hg=>xFa rfl qx (zf hg rfl))<|sg rfl rfl (λ hg=>xLc (sb:=0) (.head _) hg rfl rfl kT33 (zf hg rfl) rfl)<|sg rfl rfl (λ hg=>oM rfl (tp rfl))<|sg rfl rfl (λ hg=>xIa (g:=g10) rfl kS33 (zf hg rfl) (zf hg rfl) rfl (λ h=>hA10 h hg) (gh hg p11))<|sg rfl rfl (λ hg=>xFa rfl Wp (zf hg rfl))<|sg rfl rfl (λ hg=>xLf (sb:=0) ((((PV.root.box rfl).fld owFinder.f0).row (.head _) hg (λ h=>hA10 h hg) (gh hg p11)).fld Dir.z2) rfl kT3 (zf hg rfl) rfl)<|sg rfl rfl (λ hg=>oM rfl (tp rfl))<|sg rfl rfl (λ hg=>oCI rfl (zf hg rfl) (zf hg rfl))<|sc rfl (yZ rfl (tp rfl) (zb rfl))<|.nil) [2,3,5,9,10,37] [(0,0)] (λ _ _ st13=>?_)
 have st14:=st13.ncf (s:=0) 0 rfl rfl iI [] rfl
 refine st14.cs rfl h12 (λ _ h15=>wp_seq (wp_region_list ?_)) (λ _ h16=>wp_skip (za (wp_seq (wp_region_list ?_))))
 ·
  obtain⟨v17,p17,h18⟩:=bs h15
  refine st14.segB 9 (sP 4 (r:=by exact sc rfl (xLf (sb:=0) ((PV.root.box rfl).fld owFinder.f2) rfl kT3 (tp rfl) rfl)<|sP 1 (r:=by exact sc rfl (xMin rfl (tp rfl) cI)<|segC))) [10,44,46] [(0,0)] (λ _ _ st19=>?_)
  refine st19.sfA 0 0 ((PV.root.box rfl).fld owFinder.f2) (tp rfl) (tp rfl) [10] [] (λ _ st20=>wpList_nil (za ?_))
  obtain⟨v22,p22,h23⟩:=bs h18
  refine st20.hdA 0 0 ((PV.root.box rfl).fld owFinder.f0) [] (λ g21 A21 _ hA21 st21=>?_)
  refine st21.sqB (sP 5 (r:=by exact sc rfl (xIa (g:=g21) rfl kS33 (tp rfl) (tp rfl) rfl (λ h=>hA21 h rfl) p22)<|sP 1 (r:=by exact sc rfl (xLf (sb:=0) (((((PV.root (x:=(⟨{ x0 with hits:=(if(1000:Int)<v17 then(1000:Int) else v17) }⟩:Bx Finder))).box rfl).fld owFinder.f0).row (.head _) rfl (λ h=>hA21 h rfl) p22).fld Dir.z3) rfl kT75 (tp rfl) rfl)<|segC))) [8] [(0,0)] (λ _ _ st24=>?_)
  have st25:=st24.ncf (s:=0) 0 rfl rfl iI [] rfl
  refine wp_ret (zd ?_)
  exact st25.rsD (s:=0) 0 rfl rfl rfl iI (bxr h23)
 obtain⟨v26,p26,h27⟩:=bs h16
 refine st14.segB 9 (sP 4 (r:=by exact sc rfl (xLf (sb:=0) ((PV.root.box rfl).fld owFinder.f1) rfl kT3 (tp rfl) rfl)<|sP 1 (r:=by exact sc rfl (xMin rfl (tp rfl) cI)<|segC))) [2,3,5,9,10,61,63] [(0,0)] (λ _ _ st28=>?_)
 refine st28.sfA 0 0 ((PV.root.box rfl).fld owFinder.f1) (tp rfl) (tp rfl) [2,3,5,9,10] [] (λ _ st29=>wpList_nil (za ?_))
 obtain⟨v30,p30,h31⟩:=bs h27
 refine st29.sqB (sP 4 (r:=by exact sc rfl (zq (l:=[.tmp 65,.tmp 66,.tmp 67]) rfl kN81 (.cons (tp rfl) (.cons (tp rfl) (.cons (tp rfl) .nil))) ((zas p30)).fn)<|segC)) [2,3,9,10,11] [(0,0)] (λ _ _ st32=>wp_seq (wp_region_list ?_))
 refine st32.segB 5 (sP 4 (r:=by exact sc rfl (J2 rfl (tp rfl) (tp rfl) (tp rfl) (tp rfl))<|.nil)) [10,11,73] [(0,0)] (λ _ _ st33=>?_)
 refine st33.alA 2 zrDir [10,11,73] [0] (λ b35 _ _ _ st35=>?_)
 refine st35.stA 12 2 FldS.id (tp rfl) [10,11] [0] (λ _ _ st37=>wpList_nil (za ?_))
 obtain⟨o38,p38,k38⟩:=bs h31
 refine zl (λ a w=>∃ M1 q38_0 q38_1 q38_2,Sx (Frm.chg w0 G) 102 M M1 [q38_0,q38_1,oneB q38_2] [(11,dt v30)] [(0,0,dnm (Ow.box (owFinder (Ow.row 77 (Ow.frz (α:=Dir))))) q38_0 ⟨o38⟩ (.pointer (some ⟨b0,0,none⟩)) [])] a w) ?_ ?_
 ·
  refine wp_block ?_
  refine st37.sqA [10,11,74] [(0,0),(12,2)] (λ _ _ st39=>?_)
  refine st39.cs rfl p38 (λ _ h40=>?_) (λ _ h41=>?_)
  ·
   obtain⟨v43,p43,h44⟩:=bs h40
   refine st39.hdA 0 0 ((PV.root.box rfl).fld owFinder.f0) [12] (λ g42 A42 _ hA42 st42=>?_)
   refine st42.drnA (D:=[_,_,_,_,_,_,_]) zI 7 [[(0,nS)],[(77,0)],[(78,1)],[(79,2),(0,nS)],[(10,nS)],[(12,nS)],[(80,3),(81,4)],[(83,6),(82,5)]] [11,82,83] [(0,0)] (λ _ _ st45=>?_) (hs:=rc rfl rfl (oM rfl (zz rfl))<|rc rfl rfl (xNc rfl (tp rfl))<|rc rfl rfl (xFa rfl qx (tp rfl))<|rc rfl rfl (xLc (sb:=0) (.head _) rfl rfl rfl kT33 (tp rfl) rfl)<|rc rfl rfl (oM rfl (tp rfl))<|rc rfl rfl (zM rfl kT77 (tp rfl))<|rc rfl rfl (xIa (g:=g42) rfl kS33 (tp rfl) (tp rfl) rfl (λ h=>hA42 h rfl) p43)<|.nil)
   refine st45.stF (sb:=0) 0 ((((PV.root (x:=(⟨{ x0 with fills:=(if(1000:Int)<v26 then(1000:Int) else v26) }⟩:Bx Finder))).box rfl).fld owFinder.f0).row (.head _) rfl (λ h=>hA42 h rfl) p43) rfl rfl rfl kT77 (by simp) (tp rfl) (tp rfl) rfl rfl iI [11] rfl [] rfl rfl (λ _ st46=>wpList_nil (zk (za ?_)))
   cases h44
   exact fx
  refine st39.hdA 0 0 ((PV.root.box rfl).fld owFinder.f0) [12] (λ g47 A47 _ hA47 st47=>?_)
  refine st47.sqB (sP 4 (r:=by exact sc rfl (xLe rfl kL33 (tp rfl))<|segC)) [11,84] [(0,0),(12,2)] (λ _ _ st48=>?_)
  have st49:=st48.ncf (s:=0) 0 rfl rfl iI [12] rfl
  refine st49.cs rfl h41 (λ _ h50=>?_) (λ _ h51=>?_)
  ·
   refine st49.held (λ _=>True) zI (λ _ st52=>?_)
   refine st52.tN 0 0 trivial (λ _ st53=>?_)
   refine st53.hdA 0 0 ((PV.root.box rfl).fld owFinder.f0) [12] (λ g54 A54 _ hA54 st54=>?_)
   refine st54.drnE (D:=[_,_,_,_,_,_,_]) 7 [0] [[(0,nS)],[(0,nS)],[(92,1)],[(93,2)],[(94,3),(0,nS)],[(12,nS)],[(96,5)],[(95,4),(97,6)],[(91,0)],[(99,8)],[(100,9),(98,7)]] (by decide +kernel) (by decide) (by decide +kernel) (by decide +kernel) (
    rc rfl rfl (oM rfl (zz rfl))<|rc rfl rfl (oM rfl (zz rfl))<|rc rfl rfl (xNc rfl (tp rfl))<|rc rfl rfl (xFa rfl qx (tp rfl))<|rc rfl rfl (xLc (sb:=0) (.head _) rfl rfl rfl kT33 (tp rfl) rfl)<|rc rfl rfl (zM rfl kT77 (tp rfl))<|rc rfl rfl (Yo (opds:=[.tmp 96]) rfl kS33 kY33 rfl rfl (by decide) (.cons (tp rfl) .nil))<|.nil) (by
 intro i hi x d hx
 simp only[List.mem_cons,List.not_mem_nil,or_false] at hi
 rcases hi with rfl
 all_goals (injection hx with hx;injection hx with h1 h2;subst h1;subst h2;rfl)) [11,91,95,97] rfl [(0,0)] rfl iT (λ _ _ st55=>?_)
   refine st55.mvG (s:=95) (sb:=0) 0 1 ((PV.root.box rfl).fld owFinder.f0) (.head _) rfl (Xv rfl rfl) rfl (by simp) (by simp) (by decide) rfl iI [11,91,97] rfl [] rfl rfl rfl rfl (λ _ H57 st57=>?_)
   refine st57.tipR (s:=95) 1 rfl rfl (by simp) iI [0] rfl rfl (λ g58 st58=>?_)
   obtain⟨v60,p60,h61⟩:=bs h50
   refine st58.apA 1 ZC p60 [11,91] [0] (λ g59 _ _ _ st59=>?_)
   refine st59.segC 2 [11,100] [(0,0),(98,1)] (λ _ _ st62=>?_)
   have st64:=st62.tipW (s:=98) 1 rfl rfl iI [0] rfl
   refine st64.shA 0 98 0 1 (tp rfl) [11] [] (λ _ _ st63=>wpList_nil (zk (za ?_)))
   cases h61
   exact fx
  refine wp_skip (zk (za ?_))
  cases h51
  exact fx
 rintro a38 w38 ⟨M38,q38_0,q38_1,q38_2,st38⟩
 have h65:=k38
 refine st38.sqA [8] [(0,0)] (λ _ _ st66=>wp_ret ?_)
 exact st66.rsD (s:=0) 0 rfl rfl rfl iI (bxr h65)
def jk(x0:Int)(x1:Str)(x2:Finder)(x3:Disk):Option (Finder×(List Str)):=
(ja x2 x3 x0 x1).bind λ v4=>
some (v4.1,v4.2)
theorem WP{x0:Int}{x1:Str}{x2:Finder}{x3:Disk}{r:Finder×(List Str)}(h:jk x0 x1 x2 x3=some r):FnM 2 prog 59 (Ow.box (owFinder (Ow.row 77 (Ow.frz (α:=Dir))))) ⟨x2⟩ [dt x0,dt x1,dptr x3] ⟨r.1⟩ (.frz (dt r.2)):=by
 unfold jk at h
 refine fnMB (fn:=f59) 2 0 2 (by simp) func59 rfl (oD rfl) rfl rfl (λ M G _ b0 _ st0=>?_)
 refine st0.sqB (sc rfl (oA rfl (qg (α:=Str)))<|.nil) [0,1,3] [(2,0)] (λ _ _ st1=>wp_seq (wp_region_list ?_))
 refine st1.segA 3 [7,8,9] [(2,0)] (λ _ _ st2=>?_)
 obtain⟨v4,p4,h5⟩:=bs h
 refine st2.cSF (l:=[.tmp 7,.tmp 8,.tmp 9]) 0 (st2.bkN (s:=2) rfl iI) rfl rfl kN60 rfl (by simp) (.cons (tp rfl) (.cons (tp rfl) (.cons (tp rfl) .nil))) (J3 p4) [] rfl [] rfl rfl (by decide) (λ _ _ _ _ st3=>?_)
 refine st3.segA 1 [6] [(2,0)] (λ _ _ st6=>wpList_nil (za (wp_ret ?_)))
 exact st6.rsD (s:=2) 0 rfl rfl rfl iI (bxr h5)
def xM(xd:Disk)(x0:Tree)(x1:List Int)(x2:Str)(x3:Str)(v5:Str)(s19:Finder×Spec×(List Int)×Int):Option ((Finder×Spec×(List Int)×Int)⊕((Finder×Spec×(List Int))⊕(Finder×Spec))):=
if(cmpI .lss s19.2.2.2 (x1.length:Int))=true then(Option.bind (α:=(Finder×Spec×(List Int))⊕((Finder×Spec×(List Int)×Int)⊕((Finder×Spec×(List Int))⊕(Finder×Spec)))) ((atI x1 s19.2.2.2).bind λ v25=>
Option.bind (α:=Finder×Bool×Bool) (if true=true then((jk v25 x2 s19.1 xd).bind λ v35=>
(catO x3 (⟨[47]⟩:Str)).bind λ v39=>
(zX v35.2 v39).bind λ v40=>
(zX v35.2 x3).bind λ v41=>
some (v35.1,v40,v41))
else(some (s19.1,true,true))) λ o29=>
(jZ x0 (⟨v25,v5,⟨[]⟩,true,0,[]⟩:File)).bind λ v47=>
if(o29.2.1&&cmpI .geq v47 (0:Int))=true then(some (.inr (.inr (.inr (o29.1,(⟨(2:Int),v47,([v25]:List Int)⟩:Spec))))))
else((jZ x0 (⟨v25,x2,x3,false,0,[]⟩:File)).bind λ v59=>
if(o29.2.2&&cmpI .geq v59 (0:Int))=true then(some (.inr (.inr (.inr (o29.1,(⟨(1:Int),v59,([]:List Int)⟩:Spec))))))
else((gO (o29.2.1 == true) (q7 x0 v25 v5)).bind λ v71=>
if(o29.2.1&&v71)=true then((appO 8 s19.2.2.1 ([v25]:List Int)).bind λ v79=>
some (.inl (o29.1,s19.2.1,v79)))
else(some (.inl (o29.1,s19.2.1,s19.2.2.1)))))) (Sum.elim (λ b24=>
(i64 (s19.2.2.2+(1:Int))).bind λ v84=>
some (.inl (b24.1,b24.2.1,b24.2.2,v84))) some))
else(some (.inr (.inl (s19.1,s19.2.1,s19.2.2.1))))
def Zl(xd:Disk)(x0:Tree)(x1:List Int)(x2:Str)(x3:Str)(x4:Finder):Option (Finder×Spec):=
(wy x2 x3).bind λ v5=>
if(decide (v5=(⟨[]⟩:Str)))=true then((jt).bind λ v11=>
some (x4,v11))
else(Option.bind (α:=(Finder×Spec×(List Int))⊕(Finder×Spec)) (zJ (λ s19=>xM xd x0 x1 x2 x3 v5 s19) (x4,zE,[],(0:Int))) (Sum.elim (λ b17=>
if(cmpI .gtr (b17.2.2.length:Int) (0:Int))=true then(some (b17.1,(⟨(3:Int),(-1:Int),b17.2.2⟩:Spec)))
else((jt).bind λ v96=>
some (b17.1,v96))) some))
theorem impl_find_k_w{xd:Disk}{x0:Tree}{x1:List Int}{x2:Str}{x3:Str}{x4:Finder}{r:Finder×Spec}(h:Zl xd x0 x1 x2 x3 x4=some r):FnM 4 prog 104 (Ow.clo 59 (owFinder (Ow.row 77 (Ow.frz (α:=Dir))))) ⟨xd,x4⟩ [dt x0,dt x1,dt x2,dt x3] ⟨xd,r.1⟩ (.frz (dt r.2)):=by
 unfold Zl at h
 refine fnMV (fn:=f104) 4 1 4 (by simp) func104 rfl (oD rfl) rfl rfl (λ M G w0 u0 _ st0=>wp_seq (wp_region_list ?_))
 refine st0.segA 1 [1,2,3,5] [(4,1)] (λ _ _ st1=>?_)
 refine st1.alA 3 zS [1,2,3,5] [4] (λ b3 _ _ _ st3=>?_)
 have st4:=st3.gn
 refine wpList_nil (za ?_)
 obtain⟨v5,p5,h6⟩:=bsW h YL
 refine st4.sqA [1,2,3,5,11] [(4,1),(10,3)] (λ _ _ st7=>wp_seq ?_)
 refine st7.sqA [1,2,3,5,11,24] [(4,1),(10,3)] (λ _ _ st8=>?_)
 refine st8.cs rfl h6 (λ _ h9=>wp_seq (wp_region_list ?_)) (λ _ h10=>wp_skip (za ?_))
 ·
  obtain⟨v11,p11,h12⟩:=bsW h9 YQ
  refine st8.segA 1 [25] [(4,1),(10,3)] (λ _ _ st13=>?_)
  refine st13.stA 10 3 FldS.id (tp rfl) [] [4] (λ _ _ st15=>wpList_nil (za ?_))
  refine wp_ret (zd ?_)
  exact st15.rsC (s:=4) 1 rfl kT37 rfl rfl iI (bxk (d:=xd) h12)
 refine st8.sqB (sc rfl (qh (α:=Int) (e:=3) rfl kS30)<|segC) [1,2,3,5,11] [(4,1),(10,3),(12,2)] (λ _ _ st16=>?_)
 obtain⟨o17,p17,k17⟩:=bs h10
 refine zl (λ a w=>∃ b17,o17=.inl b17/\(∃ M1 q17_0 q17_1 q17_2 q17_3,Sx (Frm.chg w0 G) 92 M M1 [oneB q17_0,q17_1,oneB q17_2,oneB q17_3] [] [(10,3,dbox q17_3 0 b17.2.1),(12,2,dtip q17_2 3 b17.2.2),(4,1,dnm (Ow.clo 59 (owFinder (Ow.row 77 (Ow.frz (α:=Dir))))) q17_1 ⟨xd,b17.1⟩ u0 [])] a w)) ?_ ?_
 ·
  refine st16.sqA [2,3,5,11,27,28,29] [(4,1),(10,3),(12,2)] (λ _ _ st18=>wp_block ?_)
  refine zA p17 (λ s19 a w=>∃ M1 q19_0 q19_1 q19_2 q19_3,Sx (Frm.chg w0 G) 92 M M1 [oneB q19_0,q19_1,oneB q19_2,oneB q19_3] [(2,dt x2),(3,dt x3),(5,dptr x0),(11,dt v5),(27,dt x1),(28,dt (x1.length:Int)),(29,dt s19.2.2.2)] [(10,3,dbox q19_3 0 s19.2.1),(12,2,dtip q19_2 3 s19.2.2.1),(4,1,dnm (Ow.clo 59 (owFinder (Ow.row 77 (Ow.frz (α:=Dir))))) q19_1 ⟨xd,s19.1⟩ u0 [])] a w) fx ?_
  rintro s19 z19 a19 w19 ⟨M19,q19_0,q19_1,q19_2,q19_3,st19⟩ hs19 hx19
  have h20:xM xd x0 x1 x2 x3 v5 s19=some z19:=hs19
  unfold xM at h20
  refine st19.sqA [2,3,5,11,27,28,29,30] [(4,1),(10,3),(12,2)] (λ _ _ st21=>wp_seq ?_)
  refine st21.cs rfl h20 (λ _ h22=>wp_skip (za ?_)) (λ _ h23=>wp_exit (ze (ze (zw ?_))))
  ·
   obtain⟨o24,p24,k24⟩:=bs h22
   refine zl (λ a w=>∃ b24,o24=.inl b24/\(∃ M1 q24_0 q24_1 q24_2 q24_3,Sx (Frm.chg w0 G) 92 M M1 [oneB q24_0,q24_1,oneB q24_2,oneB q24_3] [(2,dt x2),(3,dt x3),(5,dptr x0),(11,dt v5),(27,dt x1),(28,dt (x1.length:Int)),(29,dt s19.2.2.2)] [(10,3,dbox q24_3 0 b24.2.1),(12,2,dtip q24_2 3 b24.2.2),(4,1,dnm (Ow.clo 59 (owFinder (Ow.row 77 (Ow.frz (α:=Dir))))) q24_1 ⟨xd,b24.1⟩ u0 [])] a w)) ?_ ?_
   ·
    refine wp_block ?_
    obtain⟨v25,p25,h26⟩:=bs p24
    refine st21.sqA [2,3,5,11,14,27,28,29] [(4,1),(10,3),(12,2)] (λ _ _ st27=>?_)
    refine st27.sqA [2,3,5,11,14,15,16,27,28,29] [(4,1),(10,3),(12,2)] (λ _ _ st28=>?_)
    obtain⟨o29,p29,k29⟩:=bs h26
    refine zl (λ a w=>∃ M1 q29_0 q29_1 q29_2 q29_3,Sx (Frm.chg w0 G) 92 M M1 [oneB q29_0,q29_1,oneB q29_2,oneB q29_3] [(2,dt x2),(3,dt x3),(5,dptr x0),(11,dt v5),(14,dt v25),(15,dt o29.2.1),(16,dt o29.2.2),(27,dt x1),(28,dt (x1.length:Int)),(29,dt s19.2.2.2)] [(10,3,dbox q29_3 0 s19.2.1),(12,2,dtip q29_2 3 s19.2.2.1),(4,1,dnm (Ow.clo 59 (owFinder (Ow.row 77 (Ow.frz (α:=Dir))))) q29_1 ⟨xd,o29.1⟩ u0 [])] a w) ?_ ?_
    ·
     refine st28.sqB (sP 1 (r:=by exact sc rfl (xNeK (sb:=4) rfl kU116 (tp rfl) rfl)<|.nil)) [2,3,5,11,14,15,16,27,28,29,34] [(4,1),(10,3),(12,2)] (λ _ _ st30=>?_)
     refine st30.cs rfl p29 (λ _ h31=>wp_seq (wp_region_list ?_)) (λ _ h32=>wp_skip (za ?_))
     ·
      refine st30.segC 3 [2,3,5,11,14,27,28,29,35,36,37] [(4,1),(10,3),(12,2)] (λ _ _ st33=>?_)
      obtain⟨v35,p35,h36⟩:=bs h31
      refine st33.cK (s:=35) (sb:=4) (l:=[.tmp 36,.tmp 37]) 1 rfl iI rfl rfl rfl kN59 rfl (by simp) (.cons (tp rfl) (.cons (tp rfl) .nil)) (WP p35) [2,3,5,11,14,27,28,29] rfl [10,12] rfl rfl (by decide) (λ _ _ _ _ st34=>?_)
      have st37:=st34.gn
      refine st37.segA 1 [2,3,5,11,14,17,27,28,29] [(4,1),(10,3),(12,2)] (λ _ _ st38=>wpList_nil (za ?_))
      obtain⟨v39,p39,v40,p40,v41,p41,h44⟩:=bsC h36
      refine st38.rgB (sP 2 (r:=by exact sc rfl (xCat rfl (tp rfl) (ye (by decide)) p39)<|sc rfl (oK (jh p40))<|sP 2 (r:=by exact sc rfl (oK (jh p41))<|segC))) [2,3,5,11,14,15,16,27,28,29] [(4,1),(10,3),(12,2)] (λ _ _ st45=>za ?_)
      cases h44
      exact fx
     cases h32
     exact fx
    rintro a29 w29 ⟨M29,q29_0,q29_1,q29_2,q29_3,st29⟩
    have h46:=k29
    refine wp_seq ?_
    obtain⟨v47,p47,h48⟩:=bs h46
    refine st29.sqB (sP 3 (r:=by exact sc rfl (zao rfl (tp rfl) (tp rfl) cB)<|sc rfl (oK (W0 p47))<|segC)) [2,3,5,11,14,15,16,18,27,28,29] [(4,1),(10,3),(12,2)] (λ _ _ st49=>?_)
    refine st49.sqC [2,3,5,11,14,15,16,18,27,28,29,55] [(4,1),(10,3),(12,2)] (λ _ _ st50=>?_)
    refine st50.cs rfl h48 (λ _ h51=>wp_seq (wp_region_list ?_)) (λ _ h52=>wp_skip (za (wp_seq ?_)))
    ·
     refine st50.segB 4 (sP 3 (r:=by exact sc rfl (qE rfl cI (tp rfl) (tp rfl))<|.nil)) [59] [(4,1),(10,3)] (λ _ _ st53=>?_)
     refine st53.stA 10 3 FldS.id (tp rfl) [] [4] (λ _ _ st55=>wpList_nil (za ?_))
     refine wp_ret (zd (zn (zd (zd (zn (zd ?_))))))
     have h56:=jo h51 k24
     have h57:=lo h56 hx19
     have h58:=jo h57 k17
     exact st55.rsC (s:=4) 1 rfl kT37 rfl rfl iI (bxk (d:=xd) h58)
    obtain⟨v59,p59,h60⟩:=bs h52
    refine st50.sqB (sP 4 (r:=by exact sc rfl (zap rfl (tp rfl) (tp rfl) (tp rfl))<|sc rfl (oK (W0 p59))<|segC)) [2,3,5,11,14,15,16,19,27,28,29] [(4,1),(10,3),(12,2)] (λ _ _ st61=>?_)
    refine st61.sqC [2,3,5,11,14,15,19,27,28,29,70] [(4,1),(10,3),(12,2)] (λ _ _ st62=>?_)
    refine st62.cs rfl h60 (λ _ h63=>wp_seq (wp_region_list ?_)) (λ _ h64=>wp_skip (za ?_))
    ·
     refine st62.segB 3 (sP 1 (r:=by exact sc rfl (Yo (opds:=[]) (α:=Int) rfl kS30 kY30 rfl rfl (by decide) .nil)<|sc rfl (qE rfl cI (tp rfl) (tp rfl))<|.nil)) [73] [(4,1),(10,3)] (λ _ _ st65=>?_)
     refine st65.stA 10 3 FldS.id (tp rfl) [] [4] (λ _ _ st67=>wpList_nil (za ?_))
     refine wp_ret (zd (zn (zd (zd (zn (zd ?_))))))
     have h68:=jo h63 k24
     have h69:=lo h68 hx19
     have h70:=jo h69 k17
     exact st67.rsC (s:=4) 1 rfl kT37 rfl rfl iI (bxk (d:=xd) h70)
    obtain⟨v71,p71,h72⟩:=bs h64
    refine st62.sqB (sP 5 (r:=by exact sg rfl rfl (λ hg=>oK (impl_hasDir_w (gh hg p71)))<|segC)) [2,3,5,11,14,27,28,29,80] [(4,1),(10,3),(12,2)] (λ _ _ st73=>?_)
    refine st73.cs rfl h72 (λ _ h74=>wp_region_list ?_) (λ _ h75=>wp_skip (zk (za ?_)))
    ·
     refine st73.segC 3 [2,3,5,11,27,28,29,83] [(4,1),(10,3),(12,2),(81,2)] (λ _ _ st76=>?_)
     obtain⟨v79,p79,h80⟩:=bs h74
     refine st76.apA 2 ZC p79 [2,3,5,11,27,28,29] [4,10] (λ g78 _ _ _ st78=>?_)
     have st81:=st78.gn
     refine st81.segA 1 [2,3,5,11,27,28,29] [(4,1),(10,3),(12,2)] (λ _ _ st82=>wpList_nil (zk (za ?_)))
     exact fl h80
    exact fl h75
   rintro a24 w24 ⟨b24,rfl,⟨M24,q24_0,q24_1,q24_2,q24_3,st24⟩⟩
   have h83:=jn k24
   obtain⟨v84,p84,h85⟩:=bs h83
   refine st24.rgA [2,3,5,11,27,28,29] [(4,1),(10,3),(12,2)] (λ _ _ st86=>za ?_)
   exact fl h85
  refine za ?_
  have h87:=lo h23 hx19
  exact fl h87
 rintro a17 w17 ⟨b17,rfl,⟨M17,q17_0,q17_1,q17_2,q17_3,st17⟩⟩
 have h88:=jn k17
 refine wp_seq ?_
 refine st17.sqB (sP 1 (r:=by exact sc rfl (op_lenT rfl kL30 (tp rfl))<|segC)) [88] [(4,1),(10,3),(12,2)] (λ _ _ st89=>?_)
 refine st89.cs rfl h88 (λ _ h90=>?_) (λ _ h91=>wp_skip (za (wp_seq (wp_region_list ?_))))
 ·
  have st92:=st89.frz 2 (s:=12) rfl rfl [88] rfl [4,10] rfl
  refine wp_seq (wp_region_list ?_)
  refine st92.segB 2 (sP 1 (r:=by exact sc rfl (qE rfl cI cI (tp rfl))<|.nil)) [90] [(4,1),(10,3)] (λ _ _ st93=>?_)
  refine st93.stA 10 3 FldS.id (tp rfl) [] [4] (λ _ _ st95=>wpList_nil (za ?_))
  refine wp_ret (zd ?_)
  exact st95.rsC (s:=4) 1 rfl kT37 rfl rfl iI (bxk (d:=xd) h90)
 obtain⟨v96,p96,h97⟩:=bsW h91 YQ
 refine st89.segA 1 [91] [(4,1),(10,3)] (λ _ _ st98=>?_)
 refine st98.stA 10 3 FldS.id (tp rfl) [] [4] (λ _ _ st100=>wpList_nil (za (wp_ret ?_)))
 exact st100.rsC (s:=4) 1 rfl kT37 rfl rfl iI (bxk (d:=xd) h97)
def yx(xd:Disk)(x0:Tree)(v13:List Str)(s16:Finder×Spec×Spec×Str×Int):Option ((Finder×Spec×Spec×Str×Int)⊕((Finder×Spec×Spec)⊕(Finder×Spec))):=
if(cmpI .lss s16.2.2.2.2 (v13.length:Int))=true then((atI v13 s16.2.2.2.2).bind λ v21=>
if(cmpI .eql s16.2.2.1.kind (0:Int)||cmpI .eql s16.2.2.1.kind (1:Int))=true then((jt).bind λ v27=>
some (.inr (.inr (s16.1,v27))))
else((Zl xd x0 s16.2.2.1.roots s16.2.2.2.1 v21 s16.1).bind λ v36=>
(wy s16.2.2.2.1 v21).bind λ v41=>
(i64 (s16.2.2.2.2+(1:Int))).bind λ v44=>
some (.inl (v36.1,s16.2.1,v36.2,v41,v44))))
else(some (.inr (.inl (s16.1,s16.2.1,s16.2.2.1))))
def jb(xd:Disk)(x0:Tree)(x1:List Int)(x2:Str)(x3:Finder):Option (Finder×Spec):=
Option.bind (α:=(Finder×Spec×Spec)⊕(Finder×Spec)) ((qw x2).bind λ v13=>
zJ (λ s16=>yx xd x0 v13 s16) (x3,zE,(⟨(3:Int),(-1:Int),x1⟩:Spec),(⟨[]⟩:Str),(0:Int))) (Sum.elim (λ b12=>
some (b12.1,b12.2.2)) some)
theorem J4{xd:Disk}{x0:Tree}{x1:List Int}{x2:Str}{x3:Finder}{r:Finder×Spec}(h:jb xd x0 x1 x2 x3=some r):FnM 3 prog 58 (Ow.clo 59 (owFinder (Ow.row 77 (Ow.frz (α:=Dir))))) ⟨xd,x3⟩ [dt x0,dt x1,dt x2] ⟨xd,r.1⟩ (.frz (dt r.2)):=by
 unfold jb at h
 refine fnMV (fn:=f58) 3 1 4 (by simp) func58 rfl (oD rfl) rfl rfl (λ M G w0 u0 _ st0=>wp_seq (wp_region_list ?_))
 refine st0.segB 1 (sc rfl (Yn rfl (tp rfl))<|.nil) [1,2,4] [(3,1)] (λ _ _ st1=>?_)
 refine st1.alloc 2 rfl rfl kZ37 zS (by simp) [1,2,4] rfl [3] rfl rfl (λ b3 _ _ _ st3=>?_)
 have st4:=st3.gn
 refine wpList_nil (za (wp_seq (wp_region_list ?_)))
 refine st4.segB 2 (sP 1 (r:=by exact sc rfl (qE rfl cI cI (tp rfl))<|.nil)) [2,4,14] [(3,1),(8,2)] (λ _ _ st5=>?_)
 refine st5.alA 3 zS [2,4,14] [3,8] (λ b7 _ _ _ st7=>?_)
 have st8:=st7.gn
 refine st8.stA 9 3 FldS.id (tp rfl) [2,4] [3,8] (λ _ _ st10=>wpList_nil (za ?_))
 refine st10.sqB (sc rfl (oA rfl (ye (by decide)))<|.nil) [2,4,10] [(3,1),(8,2),(9,3)] (λ _ _ st11=>?_)
 obtain⟨o12,p12,k12⟩:=bs h
 refine zl (λ a w=>∃ b12,o12=.inl b12/\(∃ M1 q12_0 q12_1 q12_2 q12_3,Sx (Frm.chg w0 G) 43 M M1 [oneB q12_0,q12_1,oneB q12_2,oneB q12_3] [] [(8,2,dbox q12_2 0 b12.2.1),(9,3,dbox q12_3 0 b12.2.2),(3,1,dnm (Ow.clo 59 (owFinder (Ow.row 77 (Ow.frz (α:=Dir))))) q12_1 ⟨xd,b12.1⟩ u0 [])] a w)) ?_ ?_
 ·
  obtain⟨v13,p13,h14⟩:=bsW p12 zaf
  refine st11.sqA [4,10,16,17,18] [(3,1),(8,2),(9,3)] (λ _ _ st15=>wp_block ?_)
  refine zA h14 (λ s16 a w=>∃ M1 q16_0 q16_1 q16_2 q16_3,Sx (Frm.chg w0 G) 43 M M1 [oneB q16_0,q16_1,oneB q16_2,oneB q16_3] [(4,dptr x0),(10,dt s16.2.2.2.1),(16,dt v13),(17,dt (v13.length:Int)),(18,dt s16.2.2.2.2)] [(8,2,dbox q16_2 0 s16.2.1),(9,3,dbox q16_3 0 s16.2.2.1),(3,1,dnm (Ow.clo 59 (owFinder (Ow.row 77 (Ow.frz (α:=Dir))))) q16_1 ⟨xd,s16.1⟩ u0 [])] a w) fx ?_
  rintro s16 z16 a16 w16 ⟨M16,q16_0,q16_1,q16_2,q16_3,st16⟩ hs16 hx16
  have h17:yx xd x0 v13 s16=some z16:=hs16
  unfold yx at h17
  refine st16.sqA [4,10,16,17,18,19] [(3,1),(8,2),(9,3)] (λ _ _ st18=>wp_seq ?_)
  refine st18.cs rfl h17 (λ _ h19=>wp_skip (za (wp_seq (wp_block ?_)))) (λ _ h20=>wp_exit (ze (ze (zw ?_))))
  ·
   obtain⟨v21,p21,h22⟩:=bs h19
   refine st18.sqB (sc rfl (xIdx rfl kS75 (tp rfl) (tp rfl) p21)<|sc rfl (zp rfl kT9 (tp rfl))<|sc rfl (oA rfl (tp rfl))<|.nil) [4,10,12,16,17,18] [(3,1),(8,2),(9,3)] (λ _ _ st23=>wp_seq ?_)
   refine st23.sqB (sc rfl (yV Spec.fld0 rfl kF37_0 (tp rfl))<|sc rfl (zM rfl kT3 (tp rfl))<|sc rfl (oCI rfl (tp rfl) cI)<|sc rfl (oM rfl (tp rfl))<|sg rfl rfl (λ hg=>yV Spec.fld0 rfl kF37_0 (tp rfl))<|sg rfl rfl (λ hg=>zM rfl kT3 (zf hg rfl))<|sg rfl rfl (λ hg=>oCI rfl (zf hg rfl) cI)<|sc rfl (wP rfl (tp rfl) (zb rfl))<|.nil) [4,10,12,16,17,18,29] [(3,1),(8,2),(9,3)] (λ _ _ st24=>?_)
   refine st24.cs rfl h22 (λ _ h25=>wp_seq (wp_region_list ?_)) (λ _ h26=>wp_skip (za (wp_seq (wp_region_list ?_))))
   ·
    obtain⟨v27,p27,h28⟩:=bsW h25 YQ
    refine st24.segA 1 [30] [(3,1),(8,2)] (λ _ _ st29=>?_)
    refine st29.stA 8 2 FldS.id (tp rfl) [] [3] (λ _ _ st31=>wpList_nil (za ?_))
    refine wp_ret (zd (zn (zd (zd (zn (zd ?_))))))
    have h32:=lo h28 hx16
    have h33:=jo h32 k12
    exact st31.rsC (s:=3) 1 rfl kT37 rfl rfl iI (bxk (d:=xd) h33)
   refine st24.segC 6 [4,10,12,16,17,18,31,33,34,35,36] [(3,1),(8,2),(9,3)] (λ _ _ st34=>?_)
   obtain⟨v36,p36,h37⟩:=bs h26
   refine st34.cMF (l:=[.tmp 31,.tmp 33,.tmp 34,.tmp 35]) 4 1 (st34.bkN (s:=3) rfl iI) rfl rfl rfl kN104 ((st34.st.has 36 _ rfl).trans (st34.st.has 3 _ rfl).1.symm) (by simp) (.cons (tp rfl) (.cons (tp rfl) (.cons (tp rfl) (.cons (tp rfl) .nil)))) (impl_find_k_w p36) [4,10,12,16,17,18] rfl [8,9] rfl rfl (by decide) (λ _ _ _ _ st35=>?_)
   have st38:=st35.gn
   refine st38.stA 9 3 FldS.id (tp rfl) [4,10,12,16,17,18] [3,8] (λ _ _ st40=>wpList_nil (za ?_))
   obtain⟨v41,p41,h42⟩:=bsW h37 YL
   refine st40.rgA [4,10,16,17,18] [(3,1),(8,2),(9,3)] (λ _ _ st43=>zk (za ?_))
   obtain⟨v44,p44,h45⟩:=bs h42
   refine st43.rgA [4,10,16,17,18] [(3,1),(8,2),(9,3)] (λ _ _ st46=>za ?_)
   exact fl h45
  refine za ?_
  have h47:=lo h20 hx16
  exact fl h47
 rintro a12 w12 ⟨b12,rfl,⟨M12,q12_0,q12_1,q12_2,q12_3,st12⟩⟩
 have h48:=jn k12
 refine wp_seq (wp_region_list ?_)
 refine st12.segC 1 [42] [(3,1),(8,2)] (λ _ _ st49=>?_)
 refine st49.stA 8 2 FldS.id (tp rfl) [] [3] (λ _ _ st51=>wpList_nil (za (wp_ret ?_)))
 exact st51.rsC (s:=3) 1 rfl kT37 rfl rfl iI (bxk (d:=xd) h48)
def xu(x0:List Dir)(s6:(List Dir)×Int):Option (((List Dir)×Int)⊕(List Dir)):=
if(cmpI .lss s6.2 (x0.length:Int))=true then((atI x0 s6.2).bind λ v11=>
(appO 16 [] v11.names).bind λ v21=>
(appO 56 s6.1 [{ v11 with names:=v21 }]).bind λ v35=>
(i64 (s6.2+(1:Int))).bind λ v40=>
some (.inl (v35,v40)))
else(some (.inr s6.1))
def jF(x0:List Dir):Option (List Dir):=
Option.bind (α:=(List Dir)) (zJ (λ s6=>xu x0 s6) ([],(0:Int))) λ o3=>
some o3
theorem Qz{x0:List Dir}{r:List Dir}(h:jF x0=some r):FnN prog 102 [dt x0] (.ow (Ow.row 77 (owDir (Ow.row 9 (Ow.frz (α:=Str))))) r):=by
 unfold jF at h
 refine fnN (fn:=f102) 5 func102 rfl (oD rfl) rfl (λ M w0 _ st0=>?_)
 refine st0.sq2 (sc rfl (oA rfl (qg (α:=Dir)))<|.nil) [0] (λ _ _ st1=>?_)
 refine st1.sqB (sc rfl (qh (α:=Dir) (e:=77) rfl kS33)<|segC) [0] [(3,0)] (λ _ _ st2=>?_)
 obtain⟨o3,p3,k3⟩:=bs h
 refine zl (λ a w=>∃ M1 q3_0 q3_1 q3_2 q3_3 q3_4,Sx (Frm.of w0) 24 M M1 [q3_0,q3_1,q3_2,q3_3,q3_4] [] [(3,0,dow (Ow.row 77 (owDir (Ow.row 9 (Ow.frz (α:=Str))))) q3_0 o3)] a w) ?_ ?_
 ·
  have st4:=st2.tip0 (s:=3) (e':=77) (oy:=(owDir (Ow.row 9 (Ow.frz (α:=Str))))) 0 rfl rfl [] rfl
  refine st4.sqA [7,8,9] [(3,0)] (λ _ _ st5=>wp_block ?_)
  refine zA p3 (λ s6 a w=>∃ M1 q6_0 q6_1 q6_2 q6_3 q6_4,Sx (Frm.of w0) 24 M M1 [q6_0,q6_1,q6_2,q6_3,q6_4] [(7,dt x0),(8,dt (x0.length:Int)),(9,dt s6.2)] [(3,0,dow (Ow.row 77 (owDir (Ow.row 9 (Ow.frz (α:=Str))))) q6_0 s6.1)] a w) fx ?_
  rintro s6 z6 a6 w6 ⟨M6,q6_0,q6_1,q6_2,q6_3,q6_4,st6⟩ hs6 hx6
  have h7:xu x0 s6=some z6:=hs6
  unfold xu at h7
  refine st6.sqA [7,8,9,10] [(3,0)] (λ _ _ st8=>wp_seq ?_)
  refine st8.cs rfl h7 (λ _ h9=>wp_skip (za (wp_seq (wp_block (wp_seq (wp_region_list ?_)))))) (λ _ h10=>?_)
  ·
   obtain⟨v11,p11,h12⟩:=bs h9
   refine st8.segA 2 [7,8,9,12] [(3,0)] (λ _ _ st13=>?_)
   refine st13.alcW (ow:=(owDir (Ow.row 9 (Ow.frz (α:=Str))))) 4 rfl rfl kZ77 (owDir.z Ow.row_z) (by simp) [7,8,9,12] rfl [3] rfl rfl (λ b14 _ _ _ st14=>?_)
   have st15:=st14.gn
   refine st15.stFz (ow2:=(owDir (Ow.frz (α:=List Str)))) (sb:=5) 4 owDir.ofR rfl rfl rfl kT77 (by simp) rfl (tp rfl) iI [7,8,9] rfl [3] rfl rfl (λ _ st16=>wpList_nil (za ?_))
   have st17:=st16.rst 1 (by simp) [7,8,9] rfl [3,5] rfl
   refine wp_seq (wp_region_list ?_)
   refine st17.segB 3 (sc rfl (qh (α:=Str) (e:=9) rfl kS75)<|sc rfl (xFa rfl Xf (zz rfl))<|sc rfl (xLf (sb:=5) ((PV.root.box rfl).fld owDir.f3) rfl kT75 (tp rfl) rfl)<|.nil) [7,8,9,15] [(3,0),(5,4),(13,1)] (λ _ _ st18=>?_)
   obtain⟨v21,p21,h22⟩:=bs h12
   refine st18.apA 1 ZC p21 [7,8,9] [3,5] (λ g20 _ _ _ st20=>?_)
   have st23:=st20.gn
   refine st23.segB 1 (sc rfl (xFa rfl Xf (zz rfl))<|.nil) [7,8,9,17] [(3,0),(5,4),(16,1)] (λ _ _ st24=>?_)
   have st25:=st24.tipW (s:=16) 1 rfl rfl iI [3,5] rfl
   refine st25.stTk (off:=3) (ow2:=(owDir (Ow.row 9 (Ow.frz (α:=Str))))) (x2:={ v11 with names:=v21 }) (sb:=5) (tv:=16) 4 1 (by decide) owDir.tk rfl rfl rfl kT75 (by simp) (by simp) (by decide) (tp rfl) rfl rfl iI iI [7,8,9] rfl [3] rfl rfl rfl (λ _ _ st26=>?_)
   have st27:=st26.gn
   refine wpList_nil (za (wp_region_list ?_))
   refine st27.nmR (s:=3) 0 rfl rfl iI [5] rfl (λ g28 A28 _ hA28 st28=>?_)
   refine st28.segA 1 [7,8,9] [(3,0),(5,4),(18,0)] (λ _ _ st29=>?_)
   refine st29.ldW (sb:=5) 4 rfl rfl kT77 rfl (by simp) iI [7,8,9] rfl [3,18] rfl rfl (λ _ _ st30=>?_)
   refine st30.litW (oe:=(owDir (Ow.row 9 (Ow.frz (α:=Str))))) (opds:=[.tmp 19]) (xs:=[{ v11 with names:=v21 }]) 3 [4] rfl rfl kI33 kY33 rfl rfl (by decide) rfl (by decide) (rowW_lit (YD (st30.st.has 19 _ rfl)) (λ b hb=>⟨4,by simp,hb⟩)) (λ q hq=>by
 simp only[List.mem_cons,List.not_mem_nil,or_false] at hq
 subst hq
 exact Ow.len _ (YD (st30.st.has 19 _ rfl))) (by simp) [7,8,9] rfl [3,18] rfl rfl rfl (by decide) (λ G31 _ _ _ st31=>?_)
   have st32:=st31.gs (Gs':=[q6_0,oneB none,q6_2,G31,oneB none]) rfl
   have st34:=st32.unm (s:=18) 0 rfl rfl iI [20] rfl
   obtain⟨v35,p35,h36⟩:=bs h22
   refine st34.appW 0 3 rfl rfl kE33 rfl rfl (by simp) (by simp) (by decide) iI iI p35 [7,8,9] rfl [] rfl rfl rfl (λ _ _ _ _ st33=>?_)
   have st37:=st33.gn
   refine st37.nmR (s:=21) 0 rfl rfl iI [] rfl (λ g38 A38 _ hA38 st38=>?_)
   refine st38.segA 1 [7,8,9] [(3,0)] (λ _ _ st39=>wpList_nil (zk (za ?_)))
   obtain⟨v40,p40,h41⟩:=bs h36
   refine st39.rgA [7,8,9] [(3,0)] (λ _ _ st42=>?_)
   have st43:=st42.unm (s:=3) 0 rfl rfl iI [] rfl
   refine za ?_
   exact fl h41
  refine wp_exit (ze (ze (zw ?_)))
  refine za ?_
  have h44:=lo h10 hx6
  cases h44
  exact fx
 rintro a3 w3 ⟨M3,q3_0,q3_1,q3_2,q3_3,q3_4,st3⟩
 have h45:=k3
 refine st3.nmR (s:=3) 0 rfl rfl iI [] rfl (λ g46 A46 _ hA46 st46=>?_)
 refine st46.sqA [] [(2,0)] (λ _ _ st47=>wp_ret ?_)
 have st48:=st47.unm (s:=2) 0 rfl rfl iI [] rfl
 exact st48.rnO 0 rfl rfl iI h45
def xN(x0:Finder):Option Finder:=
(jF x0.dirs).bind λ v12=>
some (⟨v12,x0.fills,x0.hits⟩:Finder)
theorem jM{x0:Finder}{r:Finder}(h:xN x0=some r):FnN prog 57 [dt x0] (.ow (owFinder (Ow.row 77 (owDir (Ow.row 9 (Ow.frz (α:=Str)))))) r):=by
 unfold xN at h
 refine fnN (fn:=f57) 3 func57 rfl (oD rfl) rfl (λ M _ _ st0=>wp_seq (wp_region_list ?_))
 refine st0.segA 1 [1] [] (λ _ _ st1=>?_)
 refine st1.alcW (ow:=(owFinder (Ow.row 77 (owDir (Ow.row 9 (Ow.frz (α:=Str))))))) 2 rfl rfl kZ35 (owFinder.z Ow.row_z) (by simp) [1] rfl [] rfl rfl (λ b2 _ _ _ st2=>wpList_nil (za (wp_seq ?_)))
 refine st2.opn (s:=1) rfl (λ b3 o3 c3 st3=>?_)
 refine st3.held (λ w=>CellsAt w b3 o3 c3) zI (λ _ st4=>?_)
 refine st4.tA 0 1 (λ _ st5=>?_) (ht:=qx)
 refine st5.tF 1 1 3 Finder.fld0 (λ _ st6=>?_)
 refine st6.tA 3 1 (λ _ st7=>?_) (ht:=Jr)
 refine st7.tF 4 1 6 Finder.fld1 (λ _ st8=>?_)
 refine st8.tA 5 1 (λ _ st9=>?_) (ht:=Js)
 refine st9.tF 6 1 8 Finder.fld2 (λ _ st10=>?_)
 obtain⟨v12,p12,h17⟩:=bs h
 refine aK1 2 ?_
 refine st10.cN (l:=[.tmp 4]) 0 rfl rfl kN102 (.cons (tp rfl) .nil) (Qz p12) (by simp) [1,7,9] rfl [2] rfl rfl (λ _ _ _ _ st18=>?_)
 refine aHN (st18.pkZ 1) ?_
 refine aK1 7 ?_
 refine st18.bldW (ow:=(owFinder (Ow.row 77 (owDir (Ow.row 9 (Ow.frz (α:=Str))))))) (parts:=[(0,.tmp 5),(1,.tmp 7),(2,.tmp 9)]) (ns:=[1,1,1]) (zs:=JN) (x:=(⟨v12,x0.fills,x0.hits⟩:Finder)) 1 [0] rfl rfl rfl kB35 kC35 (by
 intro p hp;simp only[List.mem_cons,List.not_mem_nil,or_false] at hp
 rcases hp with rfl | rfl | rfl
 ·
  exact⟨by decide,Ow.len _ (YD (st18.st.has 5 _ rfl))⟩
 ·
  exact⟨by decide,Rep.len (α:=Int) (OpdR.cells (tp rfl) (λ s y hs=>st18.st.has s y hs))⟩
 ·
  exact⟨by decide,Rep.len (α:=Int) (OpdR.cells (tp rfl) (λ s y hs=>st18.st.has s y hs))⟩) (((owFinder (Ow.row 77 (owDir (Ow.row 9 (Ow.frz (α:=Str))))))).more (owFinder.mk (x:=(⟨v12,x0.fills,x0.hits⟩:Finder)) (YD (st18.st.has 5 _ rfl)) (OpdR.cells (tp rfl) (λ s y hs=>st18.st.has s y hs)) (OpdR.cells (tp rfl) (λ s y hs=>st18.st.has s y hs))) (λ b=>(λ hb=>⟨0,by simp,hb⟩))) (by simp) [1] rfl [2] rfl rfl rfl (λ G19 _ _ st19=>?_)
 have st20:=st19.gs (Gs':=[oneB none,G19,(oneB (some b2))]) rfl
 refine aHN (st20.pkS (s:=1) rfl) ?_
 refine aK1 8 ?_
 refine st20.stO (sb:=2) (tv:=10) 2 1 (PV.root.box rfl) rfl rfl rfl kT35 (by simp) (by simp) (by decide) (zz rfl) rfl rfl rfl iI iI [1] rfl [] rfl rfl rfl (λ _ _ st21=>?_)
 refine aHN (st21.pkZ 1) ?_
 refine aK0 (za (wp_ret ?_))
 exact st21.rnC 2 rfl kT35 rfl iI h17
def Z1:Option Spec:=
some (⟨(0:Int),(-1:Int),[]⟩:Spec)
theorem QA{r:Spec}(h:Z1=some r):FnN prog 56 [] (.ow (owSpec (Ow.row 3 (Ow.frz (α:=Int)))) r):=by
 unfold Z1 at h
 refine fnN (fn:=f56) 3 func56 rfl (oD rfl) rfl (λ M _ _ st0=>wp_seq (wp_region_list ?_))
 refine st0.alcW (ow:=(owSpec (Ow.row 3 (Ow.frz (α:=Int))))) 2 rfl rfl kZ37 (owSpec.z Ow.row_z) (by simp) [] rfl [] rfl rfl (λ b1 _ _ _ st1=>wpList_nil (za (wp_seq (wp_region_list ?_))))
 refine st1.segB 1 (sc rfl (qh (α:=Int) (e:=3) rfl kS30)<|.nil) [] [(0,2),(1,0)] (λ _ _ st2=>?_)
 have st4:=st2.tipW (s:=1) 0 rfl rfl iE [0] rfl
 refine st4.bldW (ow:=(owSpec (Ow.row 3 (Ow.frz (α:=Int))))) (parts:=[(0,.const (.int .i64 0)),(1,.const (.int .i64 (-1))),(2,.tmp 1)]) (ns:=[1,1,1]) (zs:=zpSpec) (x:=(⟨(0:Int),(-1:Int),[]⟩:Spec)) 1 [0] rfl rfl rfl kB37 kC37 (by
 intro p hp;simp only[List.mem_cons,List.not_mem_nil,or_false] at hp
 rcases hp with rfl | rfl | rfl
 ·
  exact⟨by decide,rfl⟩
 ·
  exact⟨by decide,rfl⟩
 ·
  exact⟨by decide,Ow.len _ (YD (st4.st.has 1 _ rfl))⟩) (((owSpec (Ow.row 3 (Ow.frz (α:=Int))))).more (owSpec.mk (x:=(⟨(0:Int),(-1:Int),[]⟩:Spec)) (OpdR.cells cI (λ s y hs=>st4.st.has s y hs)) (OpdR.cells cI (λ s y hs=>st4.st.has s y hs)) (YD (st4.st.has 1 _ rfl))) (λ b=>(λ hb=>⟨0,by simp,hb⟩))) (by simp) [] rfl [0] rfl rfl rfl (λ G3 _ _ st3=>?_)
 have st5:=st3.gs (Gs':=[oneB none,G3,(oneB (some b1))]) rfl
 refine st5.stO (sb:=0) (tv:=2) 2 1 (PV.root.box rfl) rfl rfl rfl kT37 (by simp) (by simp) (by decide) (zz rfl) rfl rfl rfl iI iI [] rfl [] rfl rfl rfl (λ _ _ st6=>wpList_nil (za (wp_ret ?_)))
 exact st6.rnC 2 rfl kT37 rfl iI h
def yJ(x0:Finder)(x1:Disk)(x2:List Int)(x3:Str):Option (Finder×Spec):=
(wB x0).bind λ v6=>
(gO ((!v6) == false) (jE x1)).bind λ v7=>
(gO (((!v6)||(!v7)) == false) (ju x2)).bind λ v8=>
(gO ((((!v6)||(!v7))||(!v8)) == false) (yi x3)).bind λ v9=>
if((((!v6)||(!v7))||(!v8))||(!v9))=true then((Z1).bind λ v21=>
some ((⟨[],0,0⟩:Finder),v21))
else((xN x0).bind λ v30=>
(jb x1 x1.tree x2 x3 v30).bind λ v39=>
(appO 8 [] v39.2.roots).bind λ v48=>
(xN v39.1).bind λ v58=>
some (v58,{ v39.2 with roots:=v48 }))
theorem jc{x0:Finder}{x1:Disk}{x2:List Int}{x3:Str}{r:Finder×Spec}(h:yJ x0 x1 x2 x3=some r):FnN prog 14 [dt x0,dt x1,dt x2,dt x3] (.too (owFinder (Ow.row 77 (owDir (Ow.row 9 (Ow.frz (α:=Str)))))) r.1 (owSpec (Ow.row 3 (Ow.frz (α:=Int)))) r.2):=by
 unfold yJ at h
 refine fnN (fn:=f14) 11 func14 rfl (oD rfl) rfl (λ M _ _ st0=>wp_seq (wp_region_list ?_))
 refine st0.segA 2 [2,3,4,5] [] (λ _ _ st1=>?_)
 refine st1.alcW (ow:=(owFinder (Ow.row 77 (owDir (Ow.row 9 (Ow.frz (α:=Str))))))) 7 rfl rfl kZ35 (owFinder.z Ow.row_z) (by simp) [2,3,4,5] rfl [] rfl rfl (λ b2 _ _ _ st2=>?_)
 have st3:=st2.gn
 refine st3.alcW (ow:=(owSpec (Ow.row 3 (Ow.frz (α:=Int))))) 8 rfl rfl kZ37 (owSpec.z Ow.row_z) (by simp) [2,3,4,5] rfl [8] rfl rfl (λ b4 _ _ _ st4=>?_)
 have st5:=st4.gn
 refine wpList_nil (za (wp_seq ?_))
 obtain⟨v6,p6,v7,p7,v8,p8,v9,p9,h13⟩:=bsD h
 refine st5.sqB (sP 1 (r:=by exact sc rfl (oK (Jv p6))<|sP 3 (r:=by exact sg rfl rfl (λ hg=>oK (Qy (gh hg p7)))<|sP 4 (r:=by exact sg rfl rfl (λ hg=>oK (Qp (gh hg p8)))<|sP 4 (r:=by exact sg rfl rfl (λ hg=>oK (xH (gh hg p9)))<|segC))))) [2,3,4,5,29] [(8,7),(9,8)] (λ _ _ st14=>?_)
 refine st14.cs rfl h13 (λ _ h15=>wp_seq (wp_region_list ?_)) (λ _ h16=>wp_skip (za (wp_seq (wp_region_list ?_))))
 ·
  refine st14.bldW (ow:=(owFinder (Ow.row 77 (owDir (Ow.row 9 (Ow.frz (α:=Str))))))) (parts:=[]) (ns:=[1,1,1]) (zs:=JN) (x:=(⟨[],0,0⟩:Finder)) 0 [] rfl rfl rfl kB35 kC35 (by simp) (((owFinder (Ow.row 77 (owDir (Ow.row 9 (Ow.frz (α:=Str))))))).more (owFinder.mk (x:=(⟨[],0,0⟩:Finder)) (Ow.row_z _ _) ⟨rfl,trivial⟩ ⟨rfl,trivial⟩) (λ b=>(λ hb=>hb.elim))) (by simp) [] rfl [8,9] rfl rfl rfl (λ G17 _ _ st17=>?_)
  have st18:=st17.gs (Gs':=[G17,oneB none,oneB none,oneB none,oneB none,oneB none,oneB none,(oneB (some b2)),(oneB (some b4)),oneB none,oneB none]) rfl
  have st19:=st18.gs (Gs':=[G17,oneB none,oneB none,oneB none,oneB none,oneB none,oneB none,(oneB (some b2)),(oneB (some b4)),oneB none,oneB none]) rfl
  obtain⟨v21,p21,h22⟩:=bs h15
  refine st19.cN (l:=[]) 1 rfl rfl kN56 .nil (QA p21) (by simp) [] rfl [8,9,30] rfl rfl (λ _ _ _ _ st20=>?_)
  have st23:=st20.gn
  refine st23.stO (sb:=8) (tv:=30) 7 0 (PV.root.box rfl) rfl rfl rfl kT35 (by simp) (by simp) (by decide) (zz rfl) rfl rfl rfl iI iI [] rfl [9,31] rfl rfl rfl (λ _ _ st24=>?_)
  have st25:=st24.gn
  refine st25.stO (sb:=9) (tv:=31) 8 1 (PV.root.box rfl) rfl rfl rfl kT37 (by simp) (by simp) (by decide) (zz rfl) rfl rfl rfl iI iI [] rfl [8] rfl rfl rfl (λ _ _ st26=>?_)
  have st27:=st26.gn
  refine wpList_nil (za ?_)
  refine wp_ret (zd ?_)
  exact st27.rnCC 7 8 rfl kT35 kT37 rfl rfl iI iI (by decide) h22
 refine st14.segA 1 [2,3,5,32] [(8,7),(9,8)] (λ _ _ st28=>?_)
 obtain⟨v30,p30,h31⟩:=bs h16
 refine st28.cN (l:=[.tmp 32]) 2 rfl rfl kN57 (.cons (tp rfl) .nil) (FnN.thin (thin_via (thin_pr_l thin_row)) (jM p30)) (by simp) [2,3,5] rfl [8,9] rfl rfl (λ _ _ _ _ st29=>?_)
 have st32:=st29.gn
 refine st32.alcW (ow:=(owFinder (Ow.row 77 (Ow.frz (α:=Dir))))) 9 rfl rfl kZ35 (owFinder.z Ow.row_z) (by simp) [2,3,5] rfl [8,9,33] rfl rfl (λ b33 _ _ _ st33=>?_)
 have st34:=st33.gn
 refine st34.stO (sb:=10) (tv:=33) 9 2 (PV.root.box rfl) rfl rfl rfl kT35 (by simp) (by simp) (by decide) (zz rfl) rfl rfl rfl iI iI [2,3,5] rfl [8,9] rfl rfl rfl (λ _ _ st35=>?_)
 have st36:=st35.gn
 refine wpList_nil (za (wp_seq (wp_region_list ?_)))
 refine st36.segB 5 (sP 4 (r:=by exact sc rfl (xMkK rfl rfl rfl)<|.nil)) [35,36,37,38] [(8,7),(9,8),(10,9)] (λ _ _ st37=>?_)
 obtain⟨v39,p39,h40⟩:=bs h31
 refine st37.cMF (l:=[.tmp 35,.tmp 36,.tmp 37]) 3 9 (st37.bkK (sk:=38) (so:=10) rfl rfl iI) rfl rfl rfl kN58 rfl (by simp) (.cons (tp rfl) (.cons (tp rfl) (.cons (tp rfl) .nil))) (J4 p39) [] rfl [8,9] rfl rfl (by decide) (λ _ _ _ _ st38=>?_)
 have st41:=st38.gn
 refine st41.alcW (ow:=(owSpec (Ow.row 3 (Ow.frz (α:=Int))))) 10 rfl rfl kZ37 (owSpec.z Ow.row_z) (by simp) [39] rfl [8,9,10] rfl rfl (λ b42 _ _ _ st42=>?_)
 have st43:=st42.gn
 refine st43.stFz (ow2:=(owSpec (Ow.frz (α:=List Int)))) (sb:=11) 10 owSpec.ofR rfl rfl rfl kT37 (by simp) rfl (tp rfl) iI [] rfl [8,9,10] rfl rfl (λ _ st44=>wpList_nil (za (wp_seq (wp_region_list ?_))))
 refine st44.segB 3 (sc rfl (qh (α:=Int) (e:=3) rfl kS30)<|sc rfl (xFa rfl kF37_2 (zz rfl))<|sc rfl (xLf (sb:=11) ((PV.root.box rfl).fld owSpec.f2) rfl kT30 (tp rfl) rfl)<|.nil) [42] [(8,7),(9,8),(10,9),(11,10),(40,4)] (λ _ _ st45=>?_)
 obtain⟨v48,p48,h49⟩:=bs h40
 refine st45.apA 4 ZC p48 [] [8,9,10,11] (λ g47 _ _ _ st47=>?_)
 have st50:=st47.gn
 refine st50.segB 1 (sc rfl (xFa rfl kF37_2 (zz rfl))<|.nil) [44] [(8,7),(9,8),(10,9),(11,10),(43,4)] (λ _ _ st51=>?_)
 have st52:=st51.tipW (s:=43) 4 rfl rfl iI [8,9,10,11] rfl
 refine st52.stTk (off:=2) (ow2:=(owSpec (Ow.row 3 (Ow.frz (α:=Int))))) (x2:={ v39.2 with roots:=v48 }) (sb:=11) (tv:=43) 10 4 (by decide) owSpec.tk rfl rfl rfl kT30 (by simp) (by simp) (by decide) (tp rfl) rfl rfl iI iI [] rfl [8,9,10] rfl rfl rfl (λ _ _ st53=>?_)
 have st54:=st53.gn
 refine wpList_nil (za (wp_seq ?_))
 obtain⟨v58,p58,h66⟩:=bs h49
 refine st54.any zI (λ _ st67=>?_)
 refine an2 (i:=0) (j:=2) (by decide +kernel) rfl rfl ?_ ?_
 ·
  refine st67.hdW (s:=10) 9 true (λ _=>(PV.root.box rfl)) rfl rfl iI [8,9,11] rfl (λ cs68 hS68 st68=>?_)
  refine st68.segB 1 (sc rfl (xLw (sb:=10) (.head _) rfl (hS68 rfl) rfl kT35 (zz rfl) rfl)<|.nil) [45] [(8,7),(9,8),(10,9),(11,10)] (λ _ _ st69=>anN ?_)
  refine an2 (i:=1) (j:=2) (by decide +kernel) rfl rfl ?_ ?_
  ·
   refine st69.cNb (l:=[.tmp 45]) 5 rfl rfl kN57 st69.ob.sub (.cons (Yk (sb:=10) st69.ob 9 (PV.root.box rfl) (.head _) rfl (xg rfl (hS68 rfl)) (tp rfl) rfl iI) .nil) (jM p58) (owFinder.full (ZO (owDir.full (ZO Wm)))) (by simp) [] rfl [8,9,11] rfl rfl (λ _ _ _ _ st70=>?_)
   have st71:=st70.gn
   refine anN ?_
   refine an2 (i:=2) (j:=3) (by decide +kernel) rfl rfl ?_ ?_
   ·
    refine st71.ldW (sb:=11) 10 rfl rfl kT37 rfl (by simp) iI [] rfl [8,9,46] rfl rfl (λ _ _ st72=>anN ?_)
    refine an1 (i:=3) (by decide +kernel) rfl ?_
    refine st72.stO (sb:=8) (tv:=46) 7 5 (PV.root.box rfl) rfl rfl rfl kT35 (by simp) (by simp) (by decide) (zz rfl) rfl rfl rfl iI iI [] rfl [9,47] rfl rfl rfl (λ _ _ st73=>?_)
    have st74:=st73.gn
    refine anN ?_
    refine an1 (i:=4) (by decide +kernel) rfl ?_
    refine st74.stO (sb:=9) (tv:=47) 8 10 (PV.root.box rfl) rfl rfl rfl kT37 (by simp) (by simp) (by decide) (zz rfl) rfl rfl rfl iI iI [] rfl [8] rfl rfl rfl (λ _ _ st75=>?_)
    have st76:=st75.gn
    refine anN ?_
    refine an0 (by decide +kernel) ?_
    refine za (wp_ret ?_)
    exact st76.rnCC 7 8 rfl kT35 kT37 rfl rfl iI iI (by decide) h66
   ·
    refine st71.stO (sb:=8) (tv:=46) 7 5 (PV.root.box rfl) rfl rfl rfl kT35 (by simp) (by simp) (by decide) (zz rfl) rfl rfl rfl iI iI [] rfl [9,11] rfl rfl rfl (λ _ _ st77=>?_)
    have st78:=st77.gn
    refine anN ?_
    refine an1 (i:=2) (by decide +kernel) rfl ?_
    refine st78.ldW (sb:=11) 10 rfl rfl kT37 rfl (by simp) iI [] rfl [8,9] rfl rfl (λ _ _ st79=>anN ?_)
    refine an1 (i:=4) (by decide +kernel) rfl ?_
    refine st79.stO (sb:=9) (tv:=47) 8 10 (PV.root.box rfl) rfl rfl rfl kT37 (by simp) (by simp) (by decide) (zz rfl) rfl rfl rfl iI iI [] rfl [8] rfl rfl rfl (λ _ _ st80=>?_)
    have st81:=st80.gn
    refine anN ?_
    refine an0 (by decide +kernel) ?_
    refine za (wp_ret ?_)
    exact st81.rnCC 7 8 rfl kT35 kT37 rfl rfl iI iI (by decide) h66
  ·
   refine st69.ldW (sb:=11) 10 rfl rfl kT37 rfl (by simp) iI [45] rfl [8,9,10] rfl rfl (λ _ _ st82=>anN ?_)
   refine an1 (i:=1) (by decide +kernel) rfl ?_
   refine st82.cNb (l:=[.tmp 45]) 5 rfl rfl kN57 st82.ob.sub (.cons (Yk (sb:=10) st82.ob 9 (PV.root.box rfl) (.head _) rfl (xg rfl (hS68 rfl)) (tp rfl) rfl iI) .nil) (jM p58) (owFinder.full (ZO (owDir.full (ZO Wm)))) (by simp) [] rfl [8,9,47] rfl rfl (λ _ _ _ _ st83=>?_)
   have st84:=st83.gn
   refine anN ?_
   refine an1 (i:=3) (by decide +kernel) rfl ?_
   refine st84.stO (sb:=8) (tv:=46) 7 5 (PV.root.box rfl) rfl rfl rfl kT35 (by simp) (by simp) (by decide) (zz rfl) rfl rfl rfl iI iI [] rfl [9,47] rfl rfl rfl (λ _ _ st85=>?_)
   have st86:=st85.gn
   refine anN ?_
   refine an1 (i:=4) (by decide +kernel) rfl ?_
   refine st86.stO (sb:=9) (tv:=47) 8 10 (PV.root.box rfl) rfl rfl rfl kT37 (by simp) (by simp) (by decide) (zz rfl) rfl rfl rfl iI iI [] rfl [8] rfl rfl rfl (λ _ _ st87=>?_)
   have st88:=st87.gn
   refine anN ?_
   refine an0 (by decide +kernel) ?_
   refine za (wp_ret ?_)
   exact st88.rnCC 7 8 rfl kT35 kT37 rfl rfl iI iI (by decide) h66
 ·
  refine st67.ldW (sb:=11) 10 rfl rfl kT37 rfl (by simp) iI [] rfl [8,9,10] rfl rfl (λ _ _ st89=>anN ?_)
  refine an1 (i:=0) (by decide +kernel) rfl ?_
  refine st89.hdW (s:=10) 9 true (λ _=>(PV.root.box rfl)) rfl rfl iI [8,9,47] rfl (λ cs90 hS90 st90=>?_)
  refine st90.segB 1 (sc rfl (xLw (sb:=10) (.head _) rfl (hS90 rfl) rfl kT35 (zz rfl) rfl)<|.nil) [45] [(8,7),(9,8),(10,9),(47,10)] (λ _ _ st91=>anN ?_)
  refine an1 (i:=1) (by decide +kernel) rfl ?_
  refine st91.cNb (l:=[.tmp 45]) 5 rfl rfl kN57 st91.ob.sub (.cons (Yk (sb:=10) st91.ob 9 (PV.root.box rfl) (.head _) rfl (xg rfl (hS90 rfl)) (tp rfl) rfl iI) .nil) (jM p58) (owFinder.full (ZO (owDir.full (ZO Wm)))) (by simp) [] rfl [8,9,47] rfl rfl (λ _ _ _ _ st92=>?_)
  have st93:=st92.gn
  refine anN ?_
  refine an1 (i:=3) (by decide +kernel) rfl ?_
  refine st93.stO (sb:=8) (tv:=46) 7 5 (PV.root.box rfl) rfl rfl rfl kT35 (by simp) (by simp) (by decide) (zz rfl) rfl rfl rfl iI iI [] rfl [9,47] rfl rfl rfl (λ _ _ st94=>?_)
  have st95:=st94.gn
  refine anN ?_
  refine an1 (i:=4) (by decide +kernel) rfl ?_
  refine st95.stO (sb:=9) (tv:=47) 8 10 (PV.root.box rfl) rfl rfl rfl kT37 (by simp) (by simp) (by decide) (zz rfl) rfl rfl rfl iI iI [] rfl [8] rfl rfl rfl (λ _ _ st96=>?_)
  have st97:=st96.gn
  refine anN ?_
  refine an0 (by decide +kernel) ?_
  refine za (wp_ret ?_)
  exact st97.rnCC 7 8 rfl kT35 kT37 rfl rfl iI iI (by decide) h66
end Go.Proofs.YtdoidiipacdbpaaGreatDoor
