import Derived.Test.YtiiiokblnnlapaaGreatDoorRB
import Derived.Test.YtiiiokblnnlapaaGreatDoorRN
import Derived.Test.YtiiiokblnnlapaaGreatDoorRG
import Derived.Test.YtiiiokblnnlapaaGreatDoorRO
namespace Go.Proofs.YtiiiokblnnlapaaGreatDoor
open Go.RowKit
attribute [local irreducible] OpRel OpdR
set_option maxRecDepth 10000
set_option maxHeartbeats 1600000
theorem kF230_1:fldB Tryz.prog 230 1 1=true:=by kernel_rfl
theorem kF230_3:fldB Tryz.prog 230 3 3=true:=by kernel_rfl
theorem kS154:slB Tryz.prog 154 5=true:=by kernel_rfl
theorem kT230:tyB Tryz.prog 230 true 5=true:=by kernel_rfl
theorem kF156_1:fldB Tryz.prog 156 1 1=true:=by kernel_rfl
theorem kF156_2:fldB Tryz.prog 156 2 2=true:=by kernel_rfl
theorem kF230_0:fldB Tryz.prog 230 0 0=true:=by kernel_rfl
theorem kF230_2:fldB Tryz.prog 230 2 2=true:=by kernel_rfl
theorem kF230_4:fldB Tryz.prog 230 4 4=true:=by kernel_rfl
theorem kE92:elB Tryz.prog 92 173 5 56=true:=by kernel_rfl
theorem kN224:fnB Tryz.prog 224=true:=by kernel_rfl
theorem kZ3:y7 Tryz.prog 3=some xI:=by kernel_rfl
theorem kF156_0:fldB Tryz.prog 156 0 0=true:=by kernel_rfl
theorem kF156_3:fldB Tryz.prog 156 3 3=true:=by kernel_rfl
theorem kF156_4:fldB Tryz.prog 156 4 4=true:=by kernel_rfl
theorem kN190:fnB Tryz.prog 190=true:=by kernel_rfl
theorem kE28:elB Tryz.prog 28 94 6 80=true:=by kernel_rfl
theorem kN144:fnB Tryz.prog 144=true:=by kernel_rfl
theorem kZ30:y7 Tryz.prog 30=some Qp:=by kernel_rfl
theorem kN77:fnB Tryz.prog 77=true:=by kernel_rfl
theorem kN225:fnB Tryz.prog 225=true:=by kernel_rfl
theorem kN145:fnB Tryz.prog 145=true:=by kernel_rfl
theorem kCv3_5:cvB Tryz.prog 3 5=true:=by kernel_rfl
theorem kS36:slB Tryz.prog 36 1=true:=by kernel_rfl
theorem kY36:zlB Tryz.prog 36=true:=by kernel_rfl
theorem kCv36_9:cvS Tryz.prog 36 9=true:=by kernel_rfl
theorem kN106:fnB Tryz.prog 106=true:=by kernel_rfl
theorem kN170:fnB Tryz.prog 170=true:=by kernel_rfl
theorem kN105:fnB Tryz.prog 105=true:=by kernel_rfl
theorem kN114:fnB Tryz.prog 114=true:=by kernel_rfl
def ZN(x0:Stmt)(x1:Int):Option Int:=
(i64 (x1 - (x0.module.l.length:Int))).bind λ v2=>
if(cmpI .lss v2 (0:Int))=true then(some (-1:Int))
else((i64 (v2 - (x0.name.l.length:Int))).bind λ v9=>
if(cmpI .lss v9 (0:Int))=true then(some (-1:Int))
else(some v9))
theorem laws_szStmt_w{x0:Stmt}{x1:Int}{r:Int}(h:ZN x0 x1=some r):Fn Tryz.prog 222 [dt x0,dt x1] (dt r):=by
 unfold ZN at h
 refine fnx (fn:=Tryz.f222) 0 Tryz.func222 rfl (oD rfl) rfl (λ M _ _ st0=>?_)
 refine st0.sq1 [1,2] (λ _ _ st1=>?_)
 obtain⟨v2,p2,h3⟩:=bs h
 refine st1.sq1 [1,2] (λ _ _ st4=>?_)
 refine wp_seq ?_
 refine st4.sq1 [1,2,11] (λ _ _ st5=>?_)
 refine st5.cs rfl h3 (λ _ h6=>?_) (λ _ h7=>?_)
 ·
  refine st5.sq1 [4] (λ _ _ st8=>?_)
  refine wp_ret (zd ?_)
  exact st8.ret rfl rfl h6
 refine wp_skip (za ?_)
 obtain⟨v9,p9,h10⟩:=bs h7
 refine st5.sq1 [1] (λ _ _ st11=>?_)
 refine wp_seq ?_
 refine st11.sq1 [1,18] (λ _ _ st12=>?_)
 refine st12.cs rfl h10 (λ _ h13=>?_) (λ _ h14=>?_)
 ·
  refine st12.sq1 [4] (λ _ _ st15=>?_)
  refine wp_ret (zd ?_)
  exact st15.ret rfl rfl h13
 refine wp_skip (za ?_)
 refine st12.sq1 [4] (λ _ _ st16=>?_)
 refine wp_ret ?_
 exact st16.ret rfl rfl h14
def j7(x0:List Stmt)(s11:Int×Int):Option ((Int×Int)⊕(Int⊕Int)):=
if(cmpI .lss s11.2 (x0.length:Int))=true then((atI x0 s11.2).bind λ v16=>
(ZN v16 s11.1).bind λ v17=>
if(cmpI .lss v17 (0:Int))=true then(some (.inr (.inr (-1:Int))))
else((i64 (s11.2+(1:Int))).bind λ v27=>
some (.inl (v17,v27))))
else(some (.inr (.inl s11.1)))
def Zl(x0:List Stmt)(x1:Int):Option Int:=
(i64 (x1 - (x0.length:Int))).bind λ v2=>
if(cmpI .lss v2 (0:Int))=true then(some (-1:Int))
else(Option.bind (α:=Int⊕Int) (zL (λ s11=>j7 x0 s11) (v2,(0:Int))) (Sum.elim (λ b9=>
some b9) some))
theorem zbw{x0:List Stmt}{x1:Int}{r:Int}(h:Zl x0 x1=some r):Fn Tryz.prog 185 [dt x0,dt x1] (dt r):=by
 unfold Zl at h
 refine fnx (fn:=Tryz.f185) 0 Tryz.func185 rfl (oD rfl) rfl (λ M w0 _ st0=>?_)
 refine st0.sq1 [0,1] (λ _ _ st1=>?_)
 obtain⟨v2,p2,h3⟩:=bs h
 refine st1.sq1 [0,1] (λ _ _ st4=>?_)
 refine wp_seq ?_
 refine st4.sq1 [0,1,11] (λ _ _ st5=>?_)
 refine st5.cs rfl h3 (λ _ h6=>?_) (λ _ h7=>?_)
 ·
  refine st5.sq1 [4] (λ _ _ st8=>?_)
  refine wp_ret (zd ?_)
  exact st8.ret rfl rfl h6
 refine wp_skip (za ?_)
 obtain⟨o9,p9,k9⟩:=bs h7
 refine zn (λ a w=>∃ b9,o9=.inl b9/\Sx (Frm.of w0) 27 M M [] [(1,dt b9)] [] a w) ?_ ?_
 ·
  refine st5.sq1 [0,1,5] (λ _ _ st10=>?_)
  refine wp_block ?_
  refine zB p9 (λ s11 a w=>Sx (Frm.of w0) 27 M M [] [(0,dt x0),(1,dt s11.1),(5,dt s11.2)] [] a w) (st10.sel0 [0,1,5] rfl) ?_
  rintro s11 z11 a11 w11 st11 hs11 hx11
  have h12:j7 x0 s11=some z11:=hs11
  unfold j7 at h12
  refine wp_seq ?_
  refine st11.sq1 [0,1,5,15] (λ _ _ st13=>?_)
  refine st13.cs rfl h12 (λ _ h14=>?_) (λ _ h15=>?_)
  ·
   refine wp_skip (za (wp_seq (wp_block ?_)))
   obtain⟨v16,p16,h18⟩:=bs h14
   obtain⟨v17,p17,h19⟩:=bsW h18 laws_szStmt_w
   refine st13.sq1 [0,1,5] (λ _ _ st20=>?_)
   refine st20.sq1 [0,1,5,25] (λ _ _ st21=>?_)
   refine st21.cs rfl h19 (λ _ h22=>?_) (λ _ h23=>?_)
   ·
    refine st21.sq1 [4] (λ _ _ st24=>?_)
    refine wp_ret (zq (zd (zd (zq (zd ?_)))))
    have h25:=lo h22 hx11
    have h26:=jo h25 k9
    exact st24.ret rfl rfl h26
   refine wp_skip (zh (za ?_))
   obtain⟨v27,p27,h28⟩:=bs h23
   refine st21.rg1 [0,1,5] (λ _ _ st29=>?_)
   refine za ?_
   exact⟨_,(Option.some.inj h28).symm,st29.sel0 [0,1,5] rfl⟩
  refine wp_exit (zi (zi (zy ?_)))
  refine za ?_
  have h30:=lo h15 hx11
  exact⟨_,(Option.some.inj h30).symm,st13.sel0 [1] rfl⟩
 rintro a9 w9 ⟨b9,rfl,st9⟩
 have h31:=jn k9
 refine st9.sq1 [4] (λ _ _ st32=>?_)
 refine wp_ret ?_
 exact st32.ret rfl rfl h31
def ZO(x0:File)(x1:Int):Option Int:=
(i64 (x1 - (x0.pkg.l.length:Int))).bind λ v2=>
if(cmpI .lss v2 (0:Int))=true then(some (-1:Int))
else((i64 (v2 - (x0.name.l.length:Int))).bind λ v9=>
if(cmpI .lss v9 (0:Int))=true then(some (-1:Int))
else((Zl x0.body v9).bind λ v16=>
if(cmpI .lss v16 (0:Int))=true then(some (-1:Int))
else(some v16)))
theorem laws_szFile_w{x0:File}{x1:Int}{r:Int}(h:ZO x0 x1=some r):Fn Tryz.prog 137 [dt x0,dt x1] (dt r):=by
 unfold ZO at h
 refine fnx (fn:=Tryz.f137) 0 Tryz.func137 rfl (oD rfl) rfl (λ M _ _ st0=>?_)
 refine st0.sq1 [1,2] (λ _ _ st1=>?_)
 obtain⟨v2,p2,h3⟩:=bs h
 refine st1.sq1 [1,2] (λ _ _ st4=>?_)
 refine wp_seq ?_
 refine st4.sq1 [1,2,11] (λ _ _ st5=>?_)
 refine st5.cs rfl h3 (λ _ h6=>?_) (λ _ h7=>?_)
 ·
  refine st5.sq1 [4] (λ _ _ st8=>?_)
  refine wp_ret (zd ?_)
  exact st8.ret rfl rfl h6
 refine wp_skip (za ?_)
 obtain⟨v9,p9,h10⟩:=bs h7
 refine st5.sq1 [1,2] (λ _ _ st11=>?_)
 refine wp_seq ?_
 refine st11.sq1 [1,2,18] (λ _ _ st12=>?_)
 refine st12.cs rfl h10 (λ _ h13=>?_) (λ _ h14=>?_)
 ·
  refine st12.sq1 [4] (λ _ _ st15=>?_)
  refine wp_ret (zd ?_)
  exact st15.ret rfl rfl h13
 refine wp_skip (za ?_)
 obtain⟨v16,p16,h17⟩:=bsW h14 zbw
 refine st12.sq1 [1] (λ _ _ st18=>?_)
 refine wp_seq ?_
 refine st18.sq1 [1,24] (λ _ _ st19=>?_)
 refine st19.cs rfl h17 (λ _ h20=>?_) (λ _ h21=>?_)
 ·
  refine st19.sq1 [4] (λ _ _ st22=>?_)
  refine wp_ret (zd ?_)
  exact st22.ret rfl rfl h20
 refine wp_skip (za ?_)
 refine st19.sq1 [4] (λ _ _ st23=>?_)
 refine wp_ret ?_
 exact st23.ret rfl rfl h21
def j8(x0:List File)(s11:Int×Int):Option ((Int×Int)⊕(Int⊕Int)):=
if(cmpI .lss s11.2 (x0.length:Int))=true then((atI x0 s11.2).bind λ v16=>
(ZO v16 s11.1).bind λ v17=>
if(cmpI .lss v17 (0:Int))=true then(some (.inr (.inr (-1:Int))))
else((i64 (s11.2+(1:Int))).bind λ v27=>
some (.inl (v17,v27))))
else(some (.inr (.inl s11.1)))
def Zm(x0:List File)(x1:Int):Option Int:=
(i64 (x1 - (x0.length:Int))).bind λ v2=>
if(cmpI .lss v2 (0:Int))=true then(some (-1:Int))
else(Option.bind (α:=Int⊕Int) (zL (λ s11=>j8 x0 s11) (v2,(0:Int))) (Sum.elim (λ b9=>
some b9) some))
theorem zbx{x0:List File}{x1:Int}{r:Int}(h:Zm x0 x1=some r):Fn Tryz.prog 72 [dt x0,dt x1] (dt r):=by
 unfold Zm at h
 refine fnx (fn:=Tryz.f72) 0 Tryz.func72 rfl (oD rfl) rfl (λ M w0 _ st0=>?_)
 refine st0.sq1 [0,1] (λ _ _ st1=>?_)
 obtain⟨v2,p2,h3⟩:=bs h
 refine st1.sq1 [0,1] (λ _ _ st4=>?_)
 refine wp_seq ?_
 refine st4.sq1 [0,1,11] (λ _ _ st5=>?_)
 refine st5.cs rfl h3 (λ _ h6=>?_) (λ _ h7=>?_)
 ·
  refine st5.sq1 [4] (λ _ _ st8=>?_)
  refine wp_ret (zd ?_)
  exact st8.ret rfl rfl h6
 refine wp_skip (za ?_)
 obtain⟨o9,p9,k9⟩:=bs h7
 refine zn (λ a w=>∃ b9,o9=.inl b9/\Sx (Frm.of w0) 27 M M [] [(1,dt b9)] [] a w) ?_ ?_
 ·
  refine st5.sq1 [0,1,5] (λ _ _ st10=>?_)
  refine wp_block ?_
  refine zB p9 (λ s11 a w=>Sx (Frm.of w0) 27 M M [] [(0,dt x0),(1,dt s11.1),(5,dt s11.2)] [] a w) (st10.sel0 [0,1,5] rfl) ?_
  rintro s11 z11 a11 w11 st11 hs11 hx11
  have h12:j8 x0 s11=some z11:=hs11
  unfold j8 at h12
  refine wp_seq ?_
  refine st11.sq1 [0,1,5,15] (λ _ _ st13=>?_)
  refine st13.cs rfl h12 (λ _ h14=>?_) (λ _ h15=>?_)
  ·
   refine wp_skip (za (wp_seq (wp_block ?_)))
   obtain⟨v16,p16,h18⟩:=bs h14
   obtain⟨v17,p17,h19⟩:=bsW h18 laws_szFile_w
   refine st13.sq1 [0,1,5] (λ _ _ st20=>?_)
   refine st20.sq1 [0,1,5,25] (λ _ _ st21=>?_)
   refine st21.cs rfl h19 (λ _ h22=>?_) (λ _ h23=>?_)
   ·
    refine st21.sq1 [4] (λ _ _ st24=>?_)
    refine wp_ret (zq (zd (zd (zq (zd ?_)))))
    have h25:=lo h22 hx11
    have h26:=jo h25 k9
    exact st24.ret rfl rfl h26
   refine wp_skip (zh (za ?_))
   obtain⟨v27,p27,h28⟩:=bs h23
   refine st21.rg1 [0,1,5] (λ _ _ st29=>?_)
   refine za ?_
   exact⟨_,(Option.some.inj h28).symm,st29.sel0 [0,1,5] rfl⟩
  refine wp_exit (zi (zi (zy ?_)))
  refine za ?_
  have h30:=lo h15 hx11
  exact⟨_,(Option.some.inj h30).symm,st13.sel0 [1] rfl⟩
 rintro a9 w9 ⟨b9,rfl,st9⟩
 have h31:=jn k9
 refine st9.sq1 [4] (λ _ _ st32=>?_)
 refine wp_ret ?_
 exact st32.ret rfl rfl h31
def jq(x0:Tree)(x1:Int):Option Int:=
(Zm x0.files x1).bind λ v2=>
if(cmpI .lss v2 (0:Int))=true then(some (-1:Int))
else(some v2)
theorem YQ{x0:Tree}{x1:Int}{r:Int}(h:jq x0 x1=some r):Fn Tryz.prog 15 [dt x0,dt x1] (dt r):=by
 unfold jq at h
 refine fnx (fn:=Tryz.f15) 0 Tryz.func15 rfl (oD rfl) rfl (λ M _ _ st0=>?_)
 refine st0.sq1 [1,2] (λ _ _ st1=>?_)
 obtain⟨v2,p2,h3⟩:=bsW h zbx
 refine st1.sq1 [1] (λ _ _ st4=>?_)
 refine wp_seq ?_
 refine st4.sq1 [1,10] (λ _ _ st5=>?_)
 refine st5.cs rfl h3 (λ _ h6=>?_) (λ _ h7=>?_)
 ·
  refine st5.sq1 [4] (λ _ _ st8=>?_)
  refine wp_ret (zd ?_)
  exact st8.ret rfl rfl h6
 refine wp_skip (za ?_)
 refine st5.sq1 [4] (λ _ _ st9=>?_)
 refine wp_ret ?_
 exact st9.ret rfl rfl h7
def ZP(x0:Stmt):Option Stmt:=
some ({ { { { { zStmt with kind:=x0.kind } with module:=x0.module } with level:=x0.level } with name:=x0.name } with value:=x0.value })
theorem laws_toStmt_w{x0:Stmt}{r:Stmt}(h:ZP x0=some r):Fn Tryz.prog 224 [dt x0] (dt r):=by
 unfold ZP at h
 refine fnx (fn:=Tryz.f224) 2 Tryz.func224 rfl (oD rfl) rfl (λ M _ _ st0=>?_)
 refine wp_seq (wp_region_list ?_)
 refine st0.segA 1 [1] [] (λ _ _ st1=>?_)
 refine st1.alloc 0 rfl rfl kZ173 zaw (by simp) [1] rfl [] rfl rfl (λ b3 M3 _ _ st3=>?_)
 refine wpList_nil (za (wp_seq (wp_region_list ?_)))
 refine st3.alloc 1 rfl rfl kZ173 zaw (by simp) [1] rfl [2] rfl rfl (λ b5 M5 _ _ st5=>?_)
 refine wpList_nil (za (wp_seq (wp_region_list ?_)))
 refine st5.segB 3 (sc rfl (zg Stmt.fld0 rfl kF230_0 (tp rfl))<|sc rfl (ze rfl kT3 (tp rfl))<|sc rfl (zY Stmt.fld0 rfl kF173_0 (tp rfl))<|.nil) [1,5] [(2,0),(3,1),(6,1)] (λ _ _ st6=>?_)
 refine st6.store (sb:=3) 1 Stmt.set0 rfl rfl rfl kT3 rfl rfl (tp rfl) rfl [1] rfl [2] rfl rfl (λ M8 _ st8=>?_)
 refine wpList_nil (za (wp_seq (wp_region_list ?_)))
 refine st8.segB 3 (sc rfl (zg Stmt.fld1 rfl kF230_1 (tp rfl))<|sc rfl (ze rfl kT9 (tp rfl))<|sc rfl (zY Stmt.fld1 rfl qY (tp rfl))<|.nil) [1,8] [(2,0),(3,1),(9,1)] (λ _ _ st9=>?_)
 refine st9.store (sb:=3) 1 Stmt.set1 rfl rfl rfl kT9 rfl rfl (tp rfl) rfl [1] rfl [2] rfl rfl (λ M11 _ st11=>?_)
 refine wpList_nil (za (wp_seq (wp_region_list ?_)))
 refine st11.segB 3 (sc rfl (zg Stmt.fld2 rfl kF230_2 (tp rfl))<|sc rfl (ze rfl kT3 (tp rfl))<|sc rfl (zY Stmt.fld2 rfl JF (tp rfl))<|.nil) [1,11] [(2,0),(3,1),(12,1)] (λ _ _ st12=>?_)
 refine st12.store (sb:=3) 1 Stmt.set2 rfl rfl rfl kT3 rfl rfl (tp rfl) rfl [1] rfl [2] rfl rfl (λ M14 _ st14=>?_)
 refine wpList_nil (za (wp_seq (wp_region_list ?_)))
 refine st14.segB 3 (sc rfl (zg Stmt.fld3 rfl kF230_3 (tp rfl))<|sc rfl (ze rfl kT9 (tp rfl))<|sc rfl (zY Stmt.fld3 rfl jZ (tp rfl))<|.nil) [1,14] [(2,0),(3,1),(15,1)] (λ _ _ st15=>?_)
 refine st15.store (sb:=3) 1 Stmt.set3 rfl rfl rfl kT9 rfl rfl (tp rfl) rfl [1] rfl [2] rfl rfl (λ M17 _ st17=>?_)
 refine wpList_nil (za (wp_seq (wp_region_list ?_)))
 refine st17.segB 3 (sc rfl (zg Stmt.fld4 rfl kF230_4 (tp rfl))<|sc rfl (ze rfl kT3 (tp rfl))<|sc rfl (zY Stmt.fld4 rfl XS (tp rfl))<|.nil) [17] [(2,0),(3,1),(18,1)] (λ _ _ st18=>?_)
 refine st18.store (sb:=3) 1 Stmt.set4 rfl rfl rfl kT3 rfl rfl (tp rfl) rfl [] rfl [2] rfl rfl (λ M20 _ st20=>?_)
 refine wpList_nil (za (wp_seq (wp_region_list ?_)))
 refine st20.segB 1 (sc rfl (zX rfl ZC (tp rfl))<|.nil) [19] [(2,0)] (λ _ _ st21=>?_)
 refine st21.store (sb:=2) 0 FldS.id rfl rfl rfl ZC rfl rfl (tp rfl) rfl [] rfl [] rfl rfl (λ M23 _ st23=>?_)
 refine wpList_nil (za (wp_ret ?_))
 exact st23.ret_box rfl ZC rfl h
def wU(x0:List Stmt)(s10:(List Stmt)×Int):Option (((List Stmt)×Int)⊕(List Stmt)):=
if(cmpI .lss s10.2 (x0.length:Int))=true then((atI x0 s10.2).bind λ v15=>
(ZP v15).bind λ v16=>
(atI s10.1 s10.2).bind λ _v17=>
(setO s10.1 s10.2 v16).bind λ v24=>
(i64 (s10.2+(1:Int))).bind λ v26=>
some (.inl (v24,v26)))
else(some (.inr s10.1))
def Zn(x0:List Stmt):Option (List Stmt):=
(WY 5 56 (x0.length:Int) zStmt).bind λ v5=>
Option.bind (α:=(List Stmt)) (zL (λ s10=>wU x0 s10) (v5,(0:Int))) λ o8=>
some o8
theorem zby{x0:List Stmt}{r:List Stmt}(h:Zn x0=some r):FnOwn Tryz.prog 190 [dt x0] 173 r:=by
 unfold Zn at h
 refine fnxO (fn:=Tryz.f190) 1 Tryz.func190 rfl (oD rfl) rfl (λ M w0 _ st0=>?_)
 refine st0.sq2 (sc rfl (oA rfl (xZ (α:=Stmt) (e:=173)))<|.nil) [0] (λ _ _ st1=>?_)
 refine wp_seq (wp_region_list ?_)
 refine st1.segA 2 [0,6] [] (λ _ _ st2=>?_)
 obtain⟨v5,p5,h6⟩:=bs h
 refine st2.make 0 rfl rfl kE92 kZ173 zaw rfl (by simp) p5 [0] rfl [] rfl rfl (λ g4 M4 _ _ st4=>?_)
 refine st4.segA 1 [0] [(3,0)] (λ _ _ st7=>?_)
 refine wpList_nil (za ?_)
 obtain⟨o8,p8,k8⟩:=bs h6
 refine zn (λ a w=>∃ M1 q8_0,Sx (Frm.of w0) 23 M M1 [oneB q8_0] [] [(3,0,dtip q8_0 173 o8)] a w) ?_ ?_
 ·
  refine st7.sqA [0,4] [(3,0)] (λ _ _ st9=>?_)
  refine wp_block ?_
  refine zB p8 (λ s10 a w=>∃ M1 q10_0,Sx (Frm.of w0) 23 M M1 [oneB q10_0] [(0,dt x0),(4,dt s10.2)] [(3,0,dtip q10_0 173 s10.1)] a w) ⟨_,_,st9.sel [0,4] rfl [(3,0)] rfl iT⟩ ?_
  rintro s10 z10 a10 w10 ⟨M10,q10_0,st10⟩ hs10 hx10
  have h11:wU x0 s10=some z10:=hs10
  unfold wU at h11
  refine wp_seq ?_
  refine st10.sqA [0,4,11] [(3,0)] (λ _ _ st12=>?_)
  refine st12.cs rfl h11 (λ _ h13=>?_) (λ _ h14=>?_)
  ·
   refine wp_skip (za (wp_seq (wp_block (wp_region_list ?_))))
   obtain⟨v15,p15,h18⟩:=bs h13
   obtain⟨v16,p16,h19⟩:=bs h18
   obtain⟨v17,p17,h20⟩:=bs h19
   refine st12.segB 8 (sc rfl (oM rfl (tp rfl))<|sc rfl (oM rfl (tp rfl))<|sc rfl (oM rfl (tp rfl))<|sc rfl (oM rfl (tp rfl))<|sc rfl (xIdx rfl kS154 (tp rfl) (tp rfl) p15)<|sc rfl (ze rfl kT230 (tp rfl))<|sc rfl (zj (l:=[.tmp 19]) rfl kN224 (.cons (tp rfl) .nil) (laws_toStmt_w p16))<|sc rfl (xIdxT rfl kS92 (tp rfl) (tp rfl) p17)<|.nil) [0,4,20] [(3,0),(21,0)] (λ _ _ st21=>?_)
   obtain⟨v24,p24,h25⟩:=bs h20
   refine st21.storeT (sb:=3) 0 rfl rfl rfl ZC rfl rfl (tp rfl) rfl p24 [0,4] rfl [] rfl rfl (λ M23 _ st23=>?_)
   refine wpList_nil (zh (za ?_))
   obtain⟨v26,p26,h27⟩:=bs h25
   refine st23.rgA [0,4] [(3,0)] (λ _ _ st28=>?_)
   refine za ?_
   exact⟨_,(Option.some.inj h27).symm,⟨_,_,st28.sel [0,4] rfl [(3,0)] rfl iT⟩⟩
  refine wp_exit (zi (zi (zy ?_)))
  refine za ?_
  have h29:=lo h14 hx10
  obtain rfl:=Option.some.inj h29
  exact⟨_,_,st12.sel [] rfl [(3,0)] rfl iT⟩
 rintro a8 w8 ⟨M8,q8_0,st8⟩
 have h30:=k8
 refine st8.sqA [] [(2,0)] (λ _ _ st31=>?_)
 refine wp_ret ?_
 exact st31.ret_own 0 rfl rfl iI h30
def jA(x0:List Int)(s10:(List Int)×Int):Option (((List Int)×Int)⊕(List Int)):=
if(cmpI .lss s10.2 (x0.length:Int))=true then((atI x0 s10.2).bind λ v15=>
(atI s10.1 s10.2).bind λ _v16=>
(setO s10.1 s10.2 v15).bind λ v22=>
(i64 (s10.2+(1:Int))).bind λ v24=>
some (.inl (v22,v24)))
else(some (.inr s10.1))
def zR(x0:List Int):Option (List Int):=
(WY 1 8 (x0.length:Int) zInt).bind λ v5=>
Option.bind (α:=(List Int)) (zL (λ s10=>jA x0 s10) (v5,(0:Int))) λ o8=>
some o8
theorem yx{x0:List Int}{r:List Int}(h:zR x0=some r):FnOwn Tryz.prog 18 [dt x0] 3 r:=by
 unfold zR at h
 refine fnxO (fn:=Tryz.f18) 1 Tryz.func18 rfl (oD rfl) rfl (λ M w0 _ st0=>?_)
 refine st0.sq2 (sc rfl (oA rfl (xZ (α:=Int) (e:=3)))<|.nil) [0] (λ _ _ st1=>?_)
 refine wp_seq (wp_region_list ?_)
 refine st1.segA 2 [0,6] [] (λ _ _ st2=>?_)
 obtain⟨v5,p5,h6⟩:=bs h
 refine st2.make 0 rfl rfl kE25 kZ3 wR rfl (by simp) p5 [0] rfl [] rfl rfl (λ g4 M4 _ _ st4=>?_)
 refine st4.segA 1 [0] [(3,0)] (λ _ _ st7=>?_)
 refine wpList_nil (za ?_)
 obtain⟨o8,p8,k8⟩:=bs h6
 refine zn (λ a w=>∃ M1 q8_0,Sx (Frm.of w0) 22 M M1 [oneB q8_0] [] [(3,0,dtip q8_0 3 o8)] a w) ?_ ?_
 ·
  refine st7.sqA [0,4] [(3,0)] (λ _ _ st9=>?_)
  refine wp_block ?_
  refine zB p8 (λ s10 a w=>∃ M1 q10_0,Sx (Frm.of w0) 22 M M1 [oneB q10_0] [(0,dt x0),(4,dt s10.2)] [(3,0,dtip q10_0 3 s10.1)] a w) ⟨_,_,st9.sel [0,4] rfl [(3,0)] rfl iT⟩ ?_
  rintro s10 z10 a10 w10 ⟨M10,q10_0,st10⟩ hs10 hx10
  have h11:jA x0 s10=some z10:=hs10
  unfold jA at h11
  refine wp_seq ?_
  refine st10.sqA [0,4,11] [(3,0)] (λ _ _ st12=>?_)
  refine st12.cs rfl h11 (λ _ h13=>?_) (λ _ h14=>?_)
  ·
   refine wp_skip (za (wp_seq (wp_block (wp_region_list ?_))))
   obtain⟨v15,p15,h17⟩:=bs h13
   obtain⟨v16,p16,h18⟩:=bs h17
   refine st12.segB 7 (sc rfl (oM rfl (tp rfl))<|sc rfl (oM rfl (tp rfl))<|sc rfl (oM rfl (tp rfl))<|sc rfl (oM rfl (tp rfl))<|sc rfl (xIdx rfl kS25 (tp rfl) (tp rfl) p15)<|sc rfl (ze rfl kT3 (tp rfl))<|sc rfl (xIdxT rfl kS25 (tp rfl) (tp rfl) p16)<|.nil) [0,4,19] [(3,0),(20,0)] (λ _ _ st19=>?_)
   obtain⟨v22,p22,h23⟩:=bs h18
   refine st19.storeT (sb:=3) 0 rfl rfl rfl kT3 rfl rfl (tp rfl) rfl p22 [0,4] rfl [] rfl rfl (λ M21 _ st21=>?_)
   refine wpList_nil (zh (za ?_))
   obtain⟨v24,p24,h25⟩:=bs h23
   refine st21.rgA [0,4] [(3,0)] (λ _ _ st26=>?_)
   refine za ?_
   exact⟨_,(Option.some.inj h25).symm,⟨_,_,st26.sel [0,4] rfl [(3,0)] rfl iT⟩⟩
  refine wp_exit (zi (zi (zy ?_)))
  refine za ?_
  have h27:=lo h14 hx10
  obtain rfl:=Option.some.inj h27
  exact⟨_,_,st12.sel [] rfl [(3,0)] rfl iT⟩
 rintro a8 w8 ⟨M8,q8_0,st8⟩
 have h28:=k8
 refine st8.sqA [] [(2,0)] (λ _ _ st29=>?_)
 refine wp_ret ?_
 exact st29.ret_own 0 rfl rfl iI h28
def ZQ(x0:File):Option File:=
(Zn x0.body).bind λ v16=>
some (⟨x0.root,x0.pkg,x0.name,x0.init,x0.stamp,v16⟩:File)
theorem laws_toFile_w{x0:File}{r:File}(h:ZQ x0=some r):FnN Tryz.prog 144 [dt x0] (.ow (owFile (Ow.row 173 (Ow.frz (α:=Stmt)))) r):=by
 unfold ZQ at h
 refine fnN (fn:=Tryz.f144) 3 Tryz.func144 rfl (oD rfl) rfl (λ M _ _ st0=>?_)
 refine wp_seq (wp_region_list ?_)
 refine st0.segA 1 [1] [] (λ _ _ st1=>?_)
 refine st1.alcW (ow:=(owFile (Ow.row 173 (Ow.frz (α:=Stmt))))) 1 rfl rfl kZ94 (owFile.z Ow.row_z) (by simp) [1] rfl [] rfl rfl (λ b2 M2 _ _ st2=>?_)
 refine wpList_nil (za (wp_seq (wp_region_list ?_)))
 refine st2.alcW (ow:=(owFile (Ow.row 173 (Ow.frz (α:=Stmt))))) 2 rfl rfl kZ94 (owFile.z Ow.row_z) (by simp) [1] rfl [2] rfl rfl (λ b3 M3 _ _ st3=>?_)
 refine wpList_nil (za (wp_seq (wp_region_list ?_)))
 refine st3.segB 3 (sc rfl (zg File.fld0 rfl kF156_0 (tp rfl))<|sc rfl (ze rfl kT3 (tp rfl))<|sc rfl (xFa rfl zaz (zm rfl))<|.nil) [1,5,6] [(2,1),(3,2)] (λ _ _ st4=>?_)
 refine st4.stF (sb:=3) 2 ((PV.root.box rfl).fld owFile.f0) rfl rfl rfl kT3 (by simp) (tp rfl) (tp rfl) rfl rfl iI [1] rfl [2] rfl rfl (λ _ st5=>?_)
 refine wpList_nil (za (wp_seq (wp_region_list ?_)))
 refine st5.segB 3 (sc rfl (zg File.fld1 rfl kF156_1 (tp rfl))<|sc rfl (ze rfl kT9 (tp rfl))<|sc rfl (xFa rfl Jl (zm rfl))<|.nil) [1,8,9] [(2,1),(3,2)] (λ _ _ st6=>?_)
 refine st6.stF (sb:=3) 2 ((PV.root.box rfl).fld owFile.f1) rfl rfl rfl kT9 (by simp) (tp rfl) (tp rfl) rfl rfl iI [1] rfl [2] rfl rfl (λ _ st7=>?_)
 refine wpList_nil (za (wp_seq (wp_region_list ?_)))
 refine st7.segB 3 (sc rfl (zg File.fld2 rfl kF156_2 (tp rfl))<|sc rfl (ze rfl kT9 (tp rfl))<|sc rfl (xFa rfl Qr (zm rfl))<|.nil) [1,11,12] [(2,1),(3,2)] (λ _ _ st8=>?_)
 refine st8.stF (sb:=3) 2 ((PV.root.box rfl).fld owFile.f2) rfl rfl rfl kT9 (by simp) (tp rfl) (tp rfl) rfl rfl iI [1] rfl [2] rfl rfl (λ _ st9=>?_)
 refine wpList_nil (za (wp_seq (wp_region_list ?_)))
 refine st9.segB 3 (sc rfl (zg File.fld3 rfl kF156_3 (tp rfl))<|sc rfl (ze rfl kT4 (tp rfl))<|sc rfl (xFa rfl zaA (zm rfl))<|.nil) [1,14,15] [(2,1),(3,2)] (λ _ _ st10=>?_)
 refine st10.stF (sb:=3) 2 ((PV.root.box rfl).fld owFile.f3) rfl rfl rfl kT4 (by simp) (tp rfl) (tp rfl) rfl rfl iI [1] rfl [2] rfl rfl (λ _ st11=>?_)
 refine wpList_nil (za (wp_seq (wp_region_list ?_)))
 refine st11.segB 3 (sc rfl (zg File.fld4 rfl kF156_4 (tp rfl))<|sc rfl (ze rfl kT3 (tp rfl))<|sc rfl (xFa rfl kF94_4 (zm rfl))<|.nil) [1,17,18] [(2,1),(3,2)] (λ _ _ st12=>?_)
 refine st12.stF (sb:=3) 2 ((PV.root.box rfl).fld owFile.f4) rfl rfl rfl kT3 (by simp) (tp rfl) (tp rfl) rfl rfl iI [1] rfl [2] rfl rfl (λ _ st13=>?_)
 refine wpList_nil (za (wp_seq (wp_region_list ?_)))
 refine st13.segA 2 [20] [(2,1),(3,2)] (λ _ _ st14=>?_)
 obtain⟨v16,p16,h17⟩:=bs h
 refine st14.cN (l:=[.tmp 20]) 0 rfl rfl kN190 (.cons (tp rfl) .nil) (zby p16).n (by simp) [] rfl [2,3] rfl rfl (λ G15 M15 _ _ st15=>?_)
 refine st15.segB 1 (sc rfl (xFa rfl kF94_5 (zm rfl))<|.nil) [22] [(2,1),(3,2),(21,0)] (λ _ _ st18=>?_)
 refine st18.stO (sb:=3) (tv:=21) 2 0 ((PV.root.box rfl).fld owFile.f5) rfl rfl rfl kT92 (by simp) (by simp) (by decide) (tp rfl) rfl rfl rfl iI iI [] rfl [2] rfl rfl rfl (λ G19 _ st19=>?_)
 refine wpList_nil (za (wp_seq (wp_region_list ?_)))
 refine st19.ldW (sb:=3) 2 rfl rfl kT94 rfl (by simp) iI [] rfl [2] rfl rfl (λ _ _ st20=>?_)
 refine st20.stO (sb:=2) (tv:=23) 1 2 (PV.root.box rfl) rfl rfl rfl kT94 (by simp) (by simp) (by decide) (zm rfl) rfl rfl rfl iI iI [] rfl [] rfl rfl rfl (λ G21 _ st21=>?_)
 refine wpList_nil (za (wp_ret ?_))
 exact st21.rnC 1 rfl kT94 rfl iI h17
def wV(x0:List File)(s11:(List File)×Int):Option (((List File)×Int)⊕(List File)):=
if(cmpI .lss s11.2 (x0.length:Int))=true then((atI x0 s11.2).bind λ v17=>
(ZQ v17).bind λ v21=>
(atI s11.1 s11.2).bind λ _v23=>
(i64 (s11.2+(1:Int))).bind λ v27=>
some (.inl ((s11.1.set s11.2.toNat v21),v27)))
else(some (.inr s11.1))
def Zo(x0:List File):Option (List File):=
(WY 6 80 (x0.length:Int) zFile).bind λ v4=>
Option.bind (α:=(List File)) (zL (λ s11=>wV x0 s11) (v4,(0:Int))) λ o8=>
some o8
theorem zbz{x0:List File}{r:List File}(h:Zo x0=some r):FnN Tryz.prog 77 [dt x0] (.ow (Ow.row 94 (owFile (Ow.row 173 (Ow.frz (α:=Stmt))))) r):=by
 unfold Zo at h
 refine fnN (fn:=Tryz.f77) 2 Tryz.func77 rfl (oD rfl) rfl (λ M w0 _ st0=>?_)
 refine st0.sq2 (sc rfl (oA rfl (Yj (α:=File)))<|.nil) [0] (λ _ _ st1=>?_)
 refine wp_seq (wp_region_list ?_)
 refine st1.segA 2 [0,6] [] (λ _ _ st2=>?_)
 obtain⟨v4,p4,h5⟩:=bs h
 refine st2.makeW (ow:=(owFile (Ow.row 173 (Ow.frz (α:=Stmt))))) 0 rfl rfl kE28 kZ94 (owFile.z Ow.row_z) rfl (by simp) p4 [0] rfl [] rfl rfl (λ G3 M3 _ _ st3=>?_)
 refine st3.nmR (s:=7) 0 rfl rfl iI [] rfl (λ g6 A6 _ hA6 st6=>?_)
 refine st6.segA 1 [0] [(3,0)] (λ _ _ st7=>?_)
 refine wpList_nil (za ?_)
 obtain⟨o8,p8,k8⟩:=bs h5
 refine zn (λ a w=>∃ M1 q8_0 q8_1,Sx (Frm.of w0) 23 M M1 [q8_0,q8_1] [] [(3,0,dow (Ow.row 94 (owFile (Ow.row 173 (Ow.frz (α:=Stmt))))) q8_0 o8)] a w) ?_ ?_
 ·
  refine st7.sqA [0,4] [(3,0)] (λ _ _ st9=>?_)
  refine wp_block ?_
  have st10:=st9.unm (s:=3) 0 rfl rfl iI [] rfl
  refine zB p8 (λ s11 a w=>∃ M1 q11_0 q11_1,Sx (Frm.of w0) 23 M M1 [q11_0,q11_1] [(0,dt x0),(4,dt s11.2)] [(3,0,dow (Ow.row 94 (owFile (Ow.row 173 (Ow.frz (α:=Stmt))))) q11_0 s11.1)] a w) ⟨_,_,_,st10.sel [0,4] rfl [(3,0)] rfl iT⟩ ?_
  rintro s11 z11 a11 w11 ⟨M11,q11_0,q11_1,st11⟩ hs11 hx11
  have h12:wV x0 s11=some z11:=hs11
  unfold wV at h12
  refine wp_seq ?_
  refine st11.sqA [0,4,11] [(3,0)] (λ _ _ st13=>?_)
  refine st13.cs rfl h12 (λ _ h14=>?_) (λ _ h15=>?_)
  ·
   refine wp_skip (za (wp_seq (wp_block (wp_region_list ?_))))
   obtain⟨v17,p17,h18⟩:=bs h14
   refine st13.nmR (s:=3) 0 rfl rfl iI [] rfl (λ g16 A16 _ hA16 st16=>?_)
   refine st16.segA 6 [0,4,15,19] [(3,0),(14,0)] (λ _ _ st19=>?_)
   obtain⟨v21,p21,h22⟩:=bs h18
   refine st19.cN (l:=[.tmp 19]) 1 rfl rfl kN144 (.cons (tp rfl) .nil) (laws_toFile_w p21) (by simp) [0,4,15] rfl [3,14] rfl rfl (λ G20 M20 _ _ st20=>?_)
   obtain⟨v23,p23,h24⟩:=bs h22
   refine st20.segB 1 (sc rfl (xIaN rfl kS28 rfl (tp rfl) hA16 p23)<|.nil) [0,4,21] [(3,0),(14,0),(20,1)] (λ _ _ st25=>?_)
   refine st25.stO (sb:=3) (tv:=20) 0 1 (PV.root.row rfl hA16 p23) rfl rfl rfl kT94 (by simp) (by simp) (by decide) (tp rfl) rfl rfl rfl iI iI [0,4] rfl [] rfl rfl rfl (λ G26 _ st26=>?_)
   refine wpList_nil (zh (za ?_))
   obtain⟨v27,p27,h28⟩:=bs h24
   refine st26.rgA [0,4] [(3,0)] (λ _ _ st29=>?_)
   have st30:=st29.unm (s:=3) 0 rfl rfl iI [] rfl
   refine za ?_
   exact⟨_,(Option.some.inj h28).symm,⟨_,_,_,st30.sel [0,4] rfl [(3,0)] rfl iT⟩⟩
  refine wp_exit (zi (zi (zy ?_)))
  refine za ?_
  have h31:=lo h15 hx11
  obtain rfl:=Option.some.inj h31
  exact⟨_,_,_,st13.sel [] rfl [(3,0)] rfl iT⟩
 rintro a8 w8 ⟨M8,q8_0,q8_1,st8⟩
 have h32:=k8
 refine st8.nmR (s:=3) 0 rfl rfl iI [] rfl (λ g33 A33 _ hA33 st33=>?_)
 refine st33.sqA [] [(2,0)] (λ _ _ st34=>?_)
 refine wp_ret ?_
 have st35:=st34.unm (s:=2) 0 rfl rfl iI [] rfl
 exact st35.rnO 0 rfl rfl iI h32
def yb(x0:Tree):Option Tree:=
(Zo x0.files).bind λ v6=>
some (⟨v6⟩:Tree)
theorem yy{x0:Tree}{r:Tree}(h:yb x0=some r):FnN Tryz.prog 17 [dt x0] (.ow (owTree (Ow.row 94 (owFile (Ow.row 173 (Ow.frz (α:=Stmt)))))) r):=by
 unfold yb at h
 refine fnN (fn:=Tryz.f17) 3 Tryz.func17 rfl (oD rfl) rfl (λ M _ _ st0=>?_)
 refine wp_seq (wp_region_list ?_)
 refine st0.segA 1 [1] [] (λ _ _ st1=>?_)
 refine st1.alcW (ow:=(owTree (Ow.row 94 (owFile (Ow.row 173 (Ow.frz (α:=Stmt))))))) 1 rfl rfl kZ30 (owTree.z Ow.row_z) (by simp) [1] rfl [] rfl rfl (λ b2 M2 _ _ st2=>?_)
 refine wpList_nil (za (wp_seq (wp_region_list ?_)))
 refine st2.alcW (ow:=(owTree (Ow.row 94 (owFile (Ow.row 173 (Ow.frz (α:=Stmt))))))) 2 rfl rfl kZ30 (owTree.z Ow.row_z) (by simp) [1] rfl [2] rfl rfl (λ b3 M3 _ _ st3=>?_)
 refine wpList_nil (za (wp_seq (wp_region_list ?_)))
 refine st3.segA 2 [5] [(2,1),(3,2)] (λ _ _ st4=>?_)
 obtain⟨v6,p6,h7⟩:=bs h
 refine st4.cN (l:=[.tmp 5]) 0 rfl rfl kN77 (.cons (tp rfl) .nil) (zbz p6) (by simp) [] rfl [2,3] rfl rfl (λ G5 M5 _ _ st5=>?_)
 refine st5.segB 1 (sc rfl (xFa rfl kF30_0 (zm rfl))<|.nil) [7] [(2,1),(3,2),(6,0)] (λ _ _ st8=>?_)
 refine st8.stO (sb:=3) (tv:=6) 2 0 ((PV.root.box rfl).fld owTree.f0) rfl rfl rfl kT28 (by simp) (by simp) (by decide) (tp rfl) rfl rfl rfl iI iI [] rfl [2] rfl rfl rfl (λ G9 _ st9=>?_)
 refine wpList_nil (za (wp_seq (wp_region_list ?_)))
 refine st9.ldW (sb:=3) 2 rfl rfl kT30 rfl (by simp) iI [] rfl [2] rfl rfl (λ _ _ st10=>?_)
 refine st10.stO (sb:=2) (tv:=8) 1 2 (PV.root.box rfl) rfl rfl rfl kT30 (by simp) (by simp) (by decide) (zm rfl) rfl rfl rfl iI iI [] rfl [] rfl rfl rfl (λ G11 _ st11=>?_)
 refine wpList_nil (za (wp_ret ?_))
 exact st11.rnC 1 rfl kT30 rfl iI h7
def ZR(x0:Stmt)(x1:Stmt):Option Bool:=
if(cmpI .neq x0.kind x1.kind)=true then(some false)
else(if(decide (x0.module≠x1.module))=true then(some false)
else(if(cmpI .neq x0.level x1.level)=true then(some false)
else(if(decide (x0.name≠x1.name))=true then(some false)
else(if(cmpI .neq x0.value x1.value)=true then(some false)
else(some true)))))
theorem laws_eqStmt_w{x0:Stmt}{x1:Stmt}{r:Bool}(h:ZR x0 x1=some r):Fn Tryz.prog 225 [dt x0,dt x1] (dt r):=by
 unfold ZR at h
 refine fnx (fn:=Tryz.f225) 0 Tryz.func225 rfl (oD rfl) rfl (λ M _ _ st0=>?_)
 refine st0.sq1 [2,3] (λ _ _ st1=>?_)
 refine wp_seq ?_
 refine st1.sq1 [2,3,9] (λ _ _ st2=>?_)
 refine st2.cs rfl h (λ _ h3=>?_) (λ _ h4=>?_)
 ·
  refine st2.sq1 [4] (λ _ _ st5=>?_)
  refine wp_ret (zd ?_)
  exact st5.ret rfl rfl h3
 refine wp_skip (za (wp_seq ?_))
 refine st2.sq1 [2,3,14] (λ _ _ st6=>?_)
 refine st6.cs rfl h4 (λ _ h7=>?_) (λ _ h8=>?_)
 ·
  refine st6.sq1 [4] (λ _ _ st9=>?_)
  refine wp_ret (zd ?_)
  exact st9.ret rfl rfl h7
 refine wp_skip (za (wp_seq ?_))
 refine st6.sq1 [2,3,19] (λ _ _ st10=>?_)
 refine st10.cs rfl h8 (λ _ h11=>?_) (λ _ h12=>?_)
 ·
  refine st10.sq1 [4] (λ _ _ st13=>?_)
  refine wp_ret (zd ?_)
  exact st13.ret rfl rfl h11
 refine wp_skip (za (wp_seq ?_))
 refine st10.sq1 [2,3,24] (λ _ _ st14=>?_)
 refine st14.cs rfl h12 (λ _ h15=>?_) (λ _ h16=>?_)
 ·
  refine st14.sq1 [4] (λ _ _ st17=>?_)
  refine wp_ret (zd ?_)
  exact st17.ret rfl rfl h15
 refine wp_skip (za (wp_seq ?_))
 refine st14.sq1 [29] (λ _ _ st18=>?_)
 refine st18.cs rfl h16 (λ _ h19=>?_) (λ _ h20=>?_)
 ·
  refine st18.sq1 [4] (λ _ _ st21=>?_)
  refine wp_ret (zd ?_)
  exact st21.ret rfl rfl h19
 refine wp_skip (za ?_)
 refine st18.sq1 [4] (λ _ _ st22=>?_)
 refine wp_ret ?_
 exact st22.ret rfl rfl h20
def j9(x0:List Stmt)(x1:List Stmt)(s8:Int):Option (Int⊕(Unit⊕Bool)):=
if(cmpI .lss s8 (x0.length:Int))=true then((atI x0 s8).bind λ v13=>
(atI x1 s8).bind λ v14=>
(ZR v13 v14).bind λ v15=>
if(!v15)=true then(some (.inr (.inr false)))
else((i64 (s8+(1:Int))).bind λ v25=>
some (.inl v25)))
else(some (.inr (.inl ())))
def Zp(x0:List Stmt)(x1:List Stmt):Option Bool:=
if(cmpI .neq (x0.length:Int) (x1.length:Int))=true then(some false)
else(Option.bind (α:=Unit⊕Bool) (zL (λ s8=>j9 x0 x1 s8) (0:Int)) (Sum.elim (λ _b6=>
some true) some))
theorem zbA{x0:List Stmt}{x1:List Stmt}{r:Bool}(h:Zp x0 x1=some r):Fn Tryz.prog 191 [dt x0,dt x1] (dt r):=by
 unfold Zp at h
 refine fnx (fn:=Tryz.f191) 0 Tryz.func191 rfl (oD rfl) rfl (λ M w0 _ st0=>?_)
 refine st0.sq1 [0,1] (λ _ _ st1=>?_)
 refine wp_seq ?_
 refine st1.sq1 [0,1,10] (λ _ _ st2=>?_)
 refine st2.cs rfl h (λ _ h3=>?_) (λ _ h4=>?_)
 ·
  refine st2.sq1 [4] (λ _ _ st5=>?_)
  refine wp_ret (zd ?_)
  exact st5.ret rfl rfl h3
 refine wp_skip (za ?_)
 obtain⟨o6,p6,k6⟩:=bs h4
 refine zn (λ a w=>∃ b6,o6=.inl b6/\Sx (Frm.of w0) 27 M M [] [] [] a w) ?_ ?_
 ·
  refine st2.sq1 [0,1,5] (λ _ _ st7=>?_)
  refine wp_block ?_
  refine zB p6 (λ s8 a w=>Sx (Frm.of w0) 27 M M [] [(0,dt x0),(1,dt x1),(5,dt s8)] [] a w) (st7.sel0 [0,1,5] rfl) ?_
  rintro s8 z8 a8 w8 st8 hs8 hx8
  have h9:j9 x0 x1 s8=some z8:=hs8
  unfold j9 at h9
  refine wp_seq ?_
  refine st8.sq1 [0,1,5,14] (λ _ _ st10=>?_)
  refine st10.cs rfl h9 (λ _ h11=>?_) (λ _ h12=>?_)
  ·
   refine wp_skip (za (wp_seq (wp_block (wp_seq ?_))))
   obtain⟨v13,p13,h16⟩:=bs h11
   obtain⟨v14,p14,h17⟩:=bs h16
   obtain⟨v15,p15,h18⟩:=bs h17
   refine st10.dr (D:=[_,_,_,_,_,_,_,_,_,_]) zE [[],[],[0,1],[0,1,2],[],[],[4,5],[4,5,6],[0,1,2,3,4,5,6,7],[0,1,2,3,4,5,6,7,8]] [[(0,none)],[(5,none)],[(17,some 0),(18,some 1)],[(19,some 2)],[(1,none)],[(5,none)],[(21,some 4),(22,some 5)],[(23,some 6)],[(20,some 3),(24,some 7)],[(25,some 8)]] (by decide +kernel) (
    rc rfl rfl (oM rfl (tp rfl))<|rc rfl rfl (oM rfl (tp rfl))<|rc rfl rfl (xIdx rfl kS92 (tp rfl) (tp rfl) p13)<|rc rfl rfl (ze rfl ZC (tp rfl))<|rc rfl rfl (oM rfl (tp rfl))<|rc rfl rfl (oM rfl (tp rfl))<|rc rfl rfl (xIdx rfl kS92 (tp rfl) (tp rfl) p14)<|rc rfl rfl (ze rfl ZC (tp rfl))<|rc rfl rfl (zj (l:=[.tmp 20,.tmp 24]) rfl kN225 (.cons (tp rfl) (.cons (tp rfl) .nil)) (laws_eqStmt_w p15))<|rc rfl rfl (zT rfl (tp rfl))<|.nil) [0,1,5,26] rfl [] rfl trivial (λ _ _ st19=>?_)
   refine za ?_
   refine st19.cs rfl h18 (λ _ h20=>?_) (λ _ h21=>?_)
   ·
    refine st19.sq1 [4] (λ _ _ st22=>?_)
    refine wp_ret (zq (zd (zd (zq (zd ?_)))))
    have h23:=lo h20 hx8
    have h24:=jo h23 k6
    exact st22.ret rfl rfl h24
   refine wp_skip (zh (za ?_))
   obtain⟨v25,p25,h26⟩:=bs h21
   refine st19.rg1 [0,1,5] (λ _ _ st27=>?_)
   refine za ?_
   exact⟨_,(Option.some.inj h26).symm,st27.sel0 [0,1,5] rfl⟩
  refine wp_exit (zi (zi (zy ?_)))
  refine za ?_
  have h28:=lo h12 hx8
  exact⟨_,(Option.some.inj h28).symm,st10.sel0 [] rfl⟩
 rintro a6 w6 ⟨b6,rfl,st6⟩
 have h29:=jn k6
 refine st6.sq1 [4] (λ _ _ st30=>?_)
 refine wp_ret ?_
 exact st30.ret rfl rfl h29
def ZS(x0:File)(x1:File):Option Bool:=
if(cmpI .neq x0.root x1.root)=true then(some false)
else(if(decide (x0.pkg≠x1.pkg))=true then(some false)
else(if(decide (x0.name≠x1.name))=true then(some false)
else(if(x0.init != x1.init)=true then(some false)
else(if(cmpI .neq x0.stamp x1.stamp)=true then(some false)
else((Zp x0.body x1.body).bind λ v22=>
if(!v22)=true then(some false)
else(some true))))))
theorem laws_eqFile_w{x0:File}{x1:File}{r:Bool}(h:ZS x0 x1=some r):Fn Tryz.prog 145 [dt x0,dt x1] (dt r):=by
 unfold ZS at h
 refine fnx (fn:=Tryz.f145) 0 Tryz.func145 rfl (oD rfl) rfl (λ M _ _ st0=>?_)
 refine st0.sq1 [2,3] (λ _ _ st1=>?_)
 refine wp_seq ?_
 refine st1.sq1 [2,3,9] (λ _ _ st2=>?_)
 refine st2.cs rfl h (λ _ h3=>?_) (λ _ h4=>?_)
 ·
  refine st2.sq1 [4] (λ _ _ st5=>?_)
  refine wp_ret (zd ?_)
  exact st5.ret rfl rfl h3
 refine wp_skip (za (wp_seq ?_))
 refine st2.sq1 [2,3,14] (λ _ _ st6=>?_)
 refine st6.cs rfl h4 (λ _ h7=>?_) (λ _ h8=>?_)
 ·
  refine st6.sq1 [4] (λ _ _ st9=>?_)
  refine wp_ret (zd ?_)
  exact st9.ret rfl rfl h7
 refine wp_skip (za (wp_seq ?_))
 refine st6.sq1 [2,3,19] (λ _ _ st10=>?_)
 refine st10.cs rfl h8 (λ _ h11=>?_) (λ _ h12=>?_)
 ·
  refine st10.sq1 [4] (λ _ _ st13=>?_)
  refine wp_ret (zd ?_)
  exact st13.ret rfl rfl h11
 refine wp_skip (za (wp_seq ?_))
 refine st10.sq2 (sc rfl (zg File.fld3 rfl zaA (tp rfl))<|sc rfl (ze rfl kT4 (tp rfl))<|sc rfl (zg File.fld3 rfl zaA (tp rfl))<|sc rfl (ze rfl kT4 (tp rfl))<|sc rfl (op_neT rfl kV4 (tp rfl) (tp rfl))<|.nil) [2,3,24] (λ _ _ st14=>?_)
 refine st14.cs rfl h12 (λ _ h15=>?_) (λ _ h16=>?_)
 ·
  refine st14.sq1 [4] (λ _ _ st17=>?_)
  refine wp_ret (zd ?_)
  exact st17.ret rfl rfl h15
 refine wp_skip (za (wp_seq ?_))
 refine st14.sq1 [2,3,29] (λ _ _ st18=>?_)
 refine st18.cs rfl h16 (λ _ h19=>?_) (λ _ h20=>?_)
 ·
  refine st18.sq1 [4] (λ _ _ st21=>?_)
  refine wp_ret (zd ?_)
  exact st21.ret rfl rfl h19
 refine wp_skip (za (wp_seq ?_))
 obtain⟨v22,p22,h23⟩:=bsW h20 zbA
 refine st18.sq1 [35] (λ _ _ st24=>?_)
 refine st24.cs rfl h23 (λ _ h25=>?_) (λ _ h26=>?_)
 ·
  refine st24.sq1 [4] (λ _ _ st27=>?_)
  refine wp_ret (zd ?_)
  exact st27.ret rfl rfl h25
 refine wp_skip (za ?_)
 refine st24.sq1 [4] (λ _ _ st28=>?_)
 refine wp_ret ?_
 exact st28.ret rfl rfl h26
def qa(x0:List File)(x1:List File)(s8:Int):Option (Int⊕(Unit⊕Bool)):=
if(cmpI .lss s8 (x0.length:Int))=true then((atI x0 s8).bind λ v13=>
(atI x1 s8).bind λ v14=>
(ZS v13 v14).bind λ v15=>
if(!v15)=true then(some (.inr (.inr false)))
else((i64 (s8+(1:Int))).bind λ v25=>
some (.inl v25)))
else(some (.inr (.inl ())))
def Zq(x0:List File)(x1:List File):Option Bool:=
if(cmpI .neq (x0.length:Int) (x1.length:Int))=true then(some false)
else(Option.bind (α:=Unit⊕Bool) (zL (λ s8=>qa x0 x1 s8) (0:Int)) (Sum.elim (λ _b6=>
some true) some))
theorem zbB{x0:List File}{x1:List File}{r:Bool}(h:Zq x0 x1=some r):Fn Tryz.prog 79 [dt x0,dt x1] (dt r):=by
 unfold Zq at h
 refine fnx (fn:=Tryz.f79) 0 Tryz.func79 rfl (oD rfl) rfl (λ M w0 _ st0=>?_)
 refine st0.sq1 [0,1] (λ _ _ st1=>?_)
 refine wp_seq ?_
 refine st1.sq1 [0,1,10] (λ _ _ st2=>?_)
 refine st2.cs rfl h (λ _ h3=>?_) (λ _ h4=>?_)
 ·
  refine st2.sq1 [4] (λ _ _ st5=>?_)
  refine wp_ret (zd ?_)
  exact st5.ret rfl rfl h3
 refine wp_skip (za ?_)
 obtain⟨o6,p6,k6⟩:=bs h4
 refine zn (λ a w=>∃ b6,o6=.inl b6/\Sx (Frm.of w0) 27 M M [] [] [] a w) ?_ ?_
 ·
  refine st2.sq1 [0,1,5] (λ _ _ st7=>?_)
  refine wp_block ?_
  refine zB p6 (λ s8 a w=>Sx (Frm.of w0) 27 M M [] [(0,dt x0),(1,dt x1),(5,dt s8)] [] a w) (st7.sel0 [0,1,5] rfl) ?_
  rintro s8 z8 a8 w8 st8 hs8 hx8
  have h9:qa x0 x1 s8=some z8:=hs8
  unfold qa at h9
  refine wp_seq ?_
  refine st8.sq1 [0,1,5,14] (λ _ _ st10=>?_)
  refine st10.cs rfl h9 (λ _ h11=>?_) (λ _ h12=>?_)
  ·
   refine wp_skip (za (wp_seq (wp_block (wp_seq ?_))))
   obtain⟨v13,p13,h16⟩:=bs h11
   obtain⟨v14,p14,h17⟩:=bs h16
   obtain⟨v15,p15,h18⟩:=bs h17
   refine st10.dr (D:=[_,_,_,_,_,_,_,_,_,_]) zE [[],[],[0,1],[0,1,2],[],[],[4,5],[4,5,6],[0,1,2,3,4,5,6,7],[0,1,2,3,4,5,6,7,8]] [[(0,none)],[(5,none)],[(17,some 0),(18,some 1)],[(19,some 2)],[(1,none)],[(5,none)],[(21,some 4),(22,some 5)],[(23,some 6)],[(20,some 3),(24,some 7)],[(25,some 8)]] (by decide +kernel) (
    rc rfl rfl (oM rfl (tp rfl))<|rc rfl rfl (oM rfl (tp rfl))<|rc rfl rfl (xIdx rfl kS28 (tp rfl) (tp rfl) p13)<|rc rfl rfl (ze rfl kT94 (tp rfl))<|rc rfl rfl (oM rfl (tp rfl))<|rc rfl rfl (oM rfl (tp rfl))<|rc rfl rfl (xIdx rfl kS28 (tp rfl) (tp rfl) p14)<|rc rfl rfl (ze rfl kT94 (tp rfl))<|rc rfl rfl (zj (l:=[.tmp 20,.tmp 24]) rfl kN145 (.cons (tp rfl) (.cons (tp rfl) .nil)) (laws_eqFile_w p15))<|rc rfl rfl (zT rfl (tp rfl))<|.nil) [0,1,5,26] rfl [] rfl trivial (λ _ _ st19=>?_)
   refine za ?_
   refine st19.cs rfl h18 (λ _ h20=>?_) (λ _ h21=>?_)
   ·
    refine st19.sq1 [4] (λ _ _ st22=>?_)
    refine wp_ret (zq (zd (zd (zq (zd ?_)))))
    have h23:=lo h20 hx8
    have h24:=jo h23 k6
    exact st22.ret rfl rfl h24
   refine wp_skip (zh (za ?_))
   obtain⟨v25,p25,h26⟩:=bs h21
   refine st19.rg1 [0,1,5] (λ _ _ st27=>?_)
   refine za ?_
   exact⟨_,(Option.some.inj h26).symm,st27.sel0 [0,1,5] rfl⟩
  refine wp_exit (zi (zi (zy ?_)))
  refine za ?_
  have h28:=lo h12 hx8
  exact⟨_,(Option.some.inj h28).symm,st10.sel0 [] rfl⟩
 rintro a6 w6 ⟨b6,rfl,st6⟩
 have h29:=jn k6
 refine st6.sq1 [4] (λ _ _ st30=>?_)
 refine wp_ret ?_
 exact st30.ret rfl rfl h29
def xf(x0:Tree)(x1:Tree):Option Bool:=
(Zq x0.files x1.files).bind λ v2=>
if(!v2)=true then(some false)
else(some true)
theorem YR{x0:Tree}{x1:Tree}{r:Bool}(h:xf x0 x1=some r):Fn Tryz.prog 20 [dt x0,dt x1] (dt r):=by
 unfold xf at h
 refine fnx (fn:=Tryz.f20) 0 Tryz.func20 rfl (oD rfl) rfl (λ M _ _ st0=>?_)
 refine st0.sq1 [2,3] (λ _ _ st1=>?_)
 refine wp_seq ?_
 obtain⟨v2,p2,h3⟩:=bsW h zbB
 refine st1.sq1 [10] (λ _ _ st4=>?_)
 refine st4.cs rfl h3 (λ _ h5=>?_) (λ _ h6=>?_)
 ·
  refine st4.sq1 [4] (λ _ _ st7=>?_)
  refine wp_ret (zd ?_)
  exact st7.ret rfl rfl h5
 refine wp_skip (za ?_)
 refine st4.sq1 [4] (λ _ _ st8=>?_)
 refine wp_ret ?_
 exact st8.ret rfl rfl h6
def qA(x0:List Int)(x1:List Int)(s8:Int):Option (Int⊕(Unit⊕Bool)):=
if(cmpI .lss s8 (x0.length:Int))=true then((atI x0 s8).bind λ v13=>
(atI x1 s8).bind λ v14=>
if(cmpI .neq v13 v14)=true then(some (.inr (.inr false)))
else((i64 (s8+(1:Int))).bind λ v23=>
some (.inl v23)))
else(some (.inr (.inl ())))
def xg(x0:List Int)(x1:List Int):Option Bool:=
if(cmpI .neq (x0.length:Int) (x1.length:Int))=true then(some false)
else(Option.bind (α:=Unit⊕Bool) (zL (λ s8=>qA x0 x1 s8) (0:Int)) (Sum.elim (λ _b6=>
some true) some))
theorem YS{x0:List Int}{x1:List Int}{r:Bool}(h:xg x0 x1=some r):Fn Tryz.prog 21 [dt x0,dt x1] (dt r):=by
 unfold xg at h
 refine fnx (fn:=Tryz.f21) 0 Tryz.func21 rfl (oD rfl) rfl (λ M w0 _ st0=>?_)
 refine st0.sq1 [0,1] (λ _ _ st1=>?_)
 refine wp_seq ?_
 refine st1.sq1 [0,1,10] (λ _ _ st2=>?_)
 refine st2.cs rfl h (λ _ h3=>?_) (λ _ h4=>?_)
 ·
  refine st2.sq1 [4] (λ _ _ st5=>?_)
  refine wp_ret (zd ?_)
  exact st5.ret rfl rfl h3
 refine wp_skip (za ?_)
 obtain⟨o6,p6,k6⟩:=bs h4
 refine zn (λ a w=>∃ b6,o6=.inl b6/\Sx (Frm.of w0) 26 M M [] [] [] a w) ?_ ?_
 ·
  refine st2.sq1 [0,1,5] (λ _ _ st7=>?_)
  refine wp_block ?_
  refine zB p6 (λ s8 a w=>Sx (Frm.of w0) 26 M M [] [(0,dt x0),(1,dt x1),(5,dt s8)] [] a w) (st7.sel0 [0,1,5] rfl) ?_
  rintro s8 z8 a8 w8 st8 hs8 hx8
  have h9:qA x0 x1 s8=some z8:=hs8
  unfold qA at h9
  refine wp_seq ?_
  refine st8.sq1 [0,1,5,14] (λ _ _ st10=>?_)
  refine st10.cs rfl h9 (λ _ h11=>?_) (λ _ h12=>?_)
  ·
   refine wp_skip (za (wp_seq (wp_block (wp_seq ?_))))
   obtain⟨v13,p13,h15⟩:=bs h11
   obtain⟨v14,p14,h16⟩:=bs h15
   refine st10.dr (D:=[_,_,_,_,_,_,_,_,_]) zE [[],[],[0,1],[0,1,2],[],[],[4,5],[4,5,6],[0,1,2,3,4,5,6,7]] [[(0,none)],[(5,none)],[(17,some 0),(18,some 1)],[(19,some 2)],[(1,none)],[(5,none)],[(21,some 4),(22,some 5)],[(23,some 6)],[(20,some 3),(24,some 7)]] (by decide +kernel) (
    rc rfl rfl (oM rfl (tp rfl))<|rc rfl rfl (oM rfl (tp rfl))<|rc rfl rfl (xIdx rfl kS25 (tp rfl) (tp rfl) p13)<|rc rfl rfl (ze rfl kT3 (tp rfl))<|rc rfl rfl (oM rfl (tp rfl))<|rc rfl rfl (oM rfl (tp rfl))<|rc rfl rfl (xIdx rfl kS25 (tp rfl) (tp rfl) p14)<|rc rfl rfl (ze rfl kT3 (tp rfl))<|rc rfl rfl (oCI rfl (tp rfl) (tp rfl))<|.nil) [0,1,5,25] rfl [] rfl trivial (λ _ _ st17=>?_)
   refine za ?_
   refine st17.cs rfl h16 (λ _ h18=>?_) (λ _ h19=>?_)
   ·
    refine st17.sq1 [4] (λ _ _ st20=>?_)
    refine wp_ret (zq (zd (zd (zq (zd ?_)))))
    have h21:=lo h18 hx8
    have h22:=jo h21 k6
    exact st20.ret rfl rfl h22
   refine wp_skip (zh (za ?_))
   obtain⟨v23,p23,h24⟩:=bs h19
   refine st17.rg1 [0,1,5] (λ _ _ st25=>?_)
   refine za ?_
   exact⟨_,(Option.some.inj h24).symm,st25.sel0 [0,1,5] rfl⟩
  refine wp_exit (zi (zi (zy ?_)))
  refine za ?_
  have h26:=lo h12 hx8
  exact⟨_,(Option.some.inj h26).symm,st10.sel0 [] rfl⟩
 rintro a6 w6 ⟨b6,rfl,st6⟩
 have h27:=jn k6
 refine st6.sq1 [4] (λ _ _ st28=>?_)
 refine wp_ret ?_
 exact st28.ret rfl rfl h27
def jh(x0:List Str)(x1:List Str)(s8:Int):Option (Int⊕(Unit⊕Bool)):=
if(cmpI .lss s8 (x0.length:Int))=true then((atI x0 s8).bind λ v13=>
(atI x1 s8).bind λ v14=>
if(decide (v13≠v14))=true then(some (.inr (.inr false)))
else((i64 (s8+(1:Int))).bind λ v23=>
some (.inl v23)))
else(some (.inr (.inl ())))
def zV(x0:List Str)(x1:List Str):Option Bool:=
if(cmpI .neq (x0.length:Int) (x1.length:Int))=true then(some false)
else(Option.bind (α:=Unit⊕Bool) (zL (λ s8=>jh x0 x1 s8) (0:Int)) (Sum.elim (λ _b6=>
some true) some))
theorem xn{x0:List Str}{x1:List Str}{r:Bool}(h:zV x0 x1=some r):Fn Tryz.prog 40 [dt x0,dt x1] (dt r):=by
 unfold zV at h
 refine fnx (fn:=Tryz.f40) 0 Tryz.func40 rfl (oD rfl) rfl (λ M w0 _ st0=>?_)
 refine st0.sq1 [0,1] (λ _ _ st1=>?_)
 refine wp_seq ?_
 refine st1.sq1 [0,1,10] (λ _ _ st2=>?_)
 refine st2.cs rfl h (λ _ h3=>?_) (λ _ h4=>?_)
 ·
  refine st2.sq1 [4] (λ _ _ st5=>?_)
  refine wp_ret (zd ?_)
  exact st5.ret rfl rfl h3
 refine wp_skip (za ?_)
 obtain⟨o6,p6,k6⟩:=bs h4
 refine zn (λ a w=>∃ b6,o6=.inl b6/\Sx (Frm.of w0) 26 M M [] [] [] a w) ?_ ?_
 ·
  refine st2.sq1 [0,1,5] (λ _ _ st7=>?_)
  refine wp_block ?_
  refine zB p6 (λ s8 a w=>Sx (Frm.of w0) 26 M M [] [(0,dt x0),(1,dt x1),(5,dt s8)] [] a w) (st7.sel0 [0,1,5] rfl) ?_
  rintro s8 z8 a8 w8 st8 hs8 hx8
  have h9:jh x0 x1 s8=some z8:=hs8
  unfold jh at h9
  refine wp_seq ?_
  refine st8.sq1 [0,1,5,14] (λ _ _ st10=>?_)
  refine st10.cs rfl h9 (λ _ h11=>?_) (λ _ h12=>?_)
  ·
   refine wp_skip (za (wp_seq (wp_block (wp_seq ?_))))
   obtain⟨v13,p13,h15⟩:=bs h11
   obtain⟨v14,p14,h16⟩:=bs h15
   refine st10.dr (D:=[_,_,_,_,_,_,_,_,_]) zE [[],[],[0,1],[0,1,2],[],[],[4,5],[4,5,6],[0,1,2,3,4,5,6,7]] [[(0,none)],[(5,none)],[(17,some 0),(18,some 1)],[(19,some 2)],[(1,none)],[(5,none)],[(21,some 4),(22,some 5)],[(23,some 6)],[(20,some 3),(24,some 7)]] (by decide +kernel) (
    rc rfl rfl (oM rfl (tp rfl))<|rc rfl rfl (oM rfl (tp rfl))<|rc rfl rfl (xIdx rfl kS39 (tp rfl) (tp rfl) p13)<|rc rfl rfl (ze rfl kT9 (tp rfl))<|rc rfl rfl (oM rfl (tp rfl))<|rc rfl rfl (oM rfl (tp rfl))<|rc rfl rfl (xIdx rfl kS39 (tp rfl) (tp rfl) p14)<|rc rfl rfl (ze rfl kT9 (tp rfl))<|rc rfl rfl (Yk rfl (tp rfl) (tp rfl))<|.nil) [0,1,5,25] rfl [] rfl trivial (λ _ _ st17=>?_)
   refine za ?_
   refine st17.cs rfl h16 (λ _ h18=>?_) (λ _ h19=>?_)
   ·
    refine st17.sq1 [4] (λ _ _ st20=>?_)
    refine wp_ret (zq (zd (zd (zq (zd ?_)))))
    have h21:=lo h18 hx8
    have h22:=jo h21 k6
    exact st20.ret rfl rfl h22
   refine wp_skip (zh (za ?_))
   obtain⟨v23,p23,h24⟩:=bs h19
   refine st17.rg1 [0,1,5] (λ _ _ st25=>?_)
   refine za ?_
   exact⟨_,(Option.some.inj h24).symm,st25.sel0 [0,1,5] rfl⟩
  refine wp_exit (zi (zi (zy ?_)))
  refine za ?_
  have h26:=lo h12 hx8
  exact⟨_,(Option.some.inj h26).symm,st10.sel0 [] rfl⟩
 rintro a6 w6 ⟨b6,rfl,st6⟩
 have h27:=jn k6
 refine st6.sq1 [4] (λ _ _ st28=>?_)
 refine wp_ret ?_
 exact st28.ret rfl rfl h27
def xd(s8:Int×Str):Option ((Int×Str)⊕Str):=
if(cmpI .gtr s8.1 (0:Int))=true then((modO s8.1 (10:Int)).bind λ v13=>
(i64 ((48:Int)+v13)).bind λ v14=>
(catO (⟨([toB v14]:List UInt8)⟩:Str) s8.2).bind λ v15=>
(divO s8.1 (10:Int)).bind λ v20=>
some (.inl (v20,v15)))
else(some (.inr s8.2))
def yu(x0:Int):Option Str:=
if(cmpI .leq x0 (0:Int))=true then(some (⟨[109,48]⟩:Str))
else(Option.bind (α:=Str) (zL (λ s8=>xd s8) (x0,(⟨[]⟩:Str))) λ o7=>
(catO (⟨[109]⟩:Str) o7).bind λ v25=>
some v25)
theorem wv{x0:Int}{r:Str}(h:yu x0=some r):Fn Tryz.prog 106 [dt x0] (dt r):=by
 unfold yu at h
 refine fnx (fn:=Tryz.f106) 0 Tryz.func106 rfl (oD rfl) rfl (λ M w0 _ st0=>?_)
 refine st0.sq1 [0] (λ _ _ st1=>?_)
 refine wp_seq ?_
 refine st1.sq1 [0,5] (λ _ _ st2=>?_)
 refine st2.cs rfl h (λ _ h3=>?_) (λ _ h4=>?_)
 ·
  refine st2.sq1 [2] (λ _ _ st5=>?_)
  refine wp_ret (zd ?_)
  exact st5.ret rfl rfl h3
 refine wp_skip (za ?_)
 refine st2.sq1 [0,3] (λ _ _ st6=>?_)
 obtain⟨o7,p7,k7⟩:=bs h4
 refine zn (λ a w=>Sx (Frm.of w0) 20 M M [] [(3,dt o7)] [] a w) ?_ ?_
 ·
  refine wp_block ?_
  refine zB p7 (λ s8 a w=>Sx (Frm.of w0) 20 M M [] [(0,dt s8.1),(3,dt s8.2)] [] a w) (st6.sel0 [0,3] rfl) ?_
  rintro s8 z8 a8 w8 st8 hs8 hx8
  have h9:xd s8=some z8:=hs8
  unfold xd at h9
  refine wp_seq ?_
  refine st8.sq1 [0,3,7] (λ _ _ st10=>?_)
  refine st10.cs rfl h9 (λ _ h11=>?_) (λ _ h12=>?_)
  ·
   refine wp_skip (za (wp_block ?_))
   obtain⟨v13,p13,h16⟩:=bs h11
   obtain⟨v14,p14,h17⟩:=bs h16
   obtain⟨v15,p15,h18⟩:=bs h17
   refine st10.sq2 (sc rfl (oM rfl (tp rfl))<|sc rfl (xMod rfl (tp rfl) cI p13)<|sc rfl (xAr rfl cI (tp rfl) p14)<|sc rfl (xCvB rfl kCv3_5 (tp rfl))<|sc rfl (xJ (opds:=[.tmp 11]) rfl kS36 kY36 rfl rfl (by decide) (.cons (tp rfl) .nil))<|sc rfl (xCvS rfl kCv36_9 (tp rfl))<|sc rfl (oM rfl (tp rfl))<|sc rfl (xCat rfl (tp rfl) (tp rfl) p15)<|sc rfl (oA rfl (tp rfl))<|.nil) [0,3] (λ _ _ st19=>?_)
   obtain⟨v20,p20,h21⟩:=bs h18
   refine st19.rg2 (sc rfl (oM rfl (tp rfl))<|sc rfl (xDiv rfl (tp rfl) cI p20)<|sc rfl (oA rfl (tp rfl))<|.nil) [0,3] (λ _ _ st22=>?_)
   refine zh (za ?_)
   exact⟨_,(Option.some.inj h21).symm,st22.sel0 [0,3] rfl⟩
  refine wp_exit (zi (zi (zy ?_)))
  refine za ?_
  have h23:=lo h12 hx8
  obtain rfl:=Option.some.inj h23
  exact st10.sel0 [3] rfl
 rintro a7 w7 st7
 have h24:=k7
 obtain⟨v25,p25,h26⟩:=bs h24
 refine st7.sq2 (sc rfl (oM rfl (tp rfl))<|sc rfl (xCat rfl (yn (by decide)) (tp rfl) p25)<|sc rfl (oA rfl (tp rfl))<|.nil) [2] (λ _ _ st27=>?_)
 refine wp_ret ?_
 exact st27.ret rfl rfl h26
def wq(s4:(List Stmt)×Int×Int):Option (((List Stmt)×Int×Int)⊕((List Stmt)×Int)):=
if(cmpI .lss s4.2.2 (s4.1.length:Int))=true then((atI s4.1 s4.2.2).bind λ _v9=>
(i64 (s4.2.1+(1:Int))).bind λ v13=>
(yu v13).bind λ v16=>
(i64 (v13+(1:Int))).bind λ v20=>
(i64 (v20+(1:Int))).bind λ v25=>
(yu v25).bind λ v28=>
(i64 (v25+(1:Int))).bind λ v32=>
(i64 (v32+(1:Int))).bind λ v37=>
(i64 (s4.2.2+(1:Int))).bind λ v40=>
some (.inl ((s4.1.set s4.2.2.toNat (⟨s4.2.1,v16,v20,v28,v32⟩:Stmt)),v37,v40)))
else(some (.inr (s4.1,s4.2.1)))
def qB(x0:List Stmt)(x1:Int):Option ((List Stmt)×Int):=
Option.bind (α:=(List Stmt)×Int) (zL (λ s4=>wq s4) (x0,x1,(0:Int))) λ o2=>
some (o2.1,o2.2)
theorem zaI{x0:List Stmt}{x1:Int}{r:(List Stmt)×Int}(h:qB x0 x1=some r):FnS Tryz.prog 170 (Ow.row 173 (Ow.frz (α:=Stmt))) x0 [dt x1] r.1 (.frz (dt r.2)):=by
 unfold qB at h
 refine fnSR (fn:=Tryz.f170) 0 1 Tryz.func170 rfl (oD rfl) rfl (λ M G w0 g0 A0 c0 _ hA0 st0=>?_)
 refine st0.sqA [1] [(0,0)] (λ _ _ st1=>?_)
 obtain⟨o2,p2,k2⟩:=bs h
 refine zn (λ a w=>∃ M1 q2_0,Sx (Frm.chg w0 G) 50 M M1 [q2_0] [(1,dt o2.2)] [(0,0,dnm (Ow.row 173 (Ow.frz (α:=Stmt))) q2_0 o2.1 (.slice A0 x0.length c0) [])] a w) ?_ ?_
 ·
  refine st1.sqA [1,5] [(0,0)] (λ _ _ st3=>?_)
  refine wp_block ?_
  refine zB p2 (λ s4 a w=>∃ M1 q4_0,Sx (Frm.chg w0 G) 50 M M1 [q4_0] [(1,dt s4.2.1),(5,dt s4.2.2)] [(0,0,dnm (Ow.row 173 (Ow.frz (α:=Stmt))) q4_0 s4.1 (.slice A0 x0.length c0) [])] a w) ⟨_,_,st3.sel [1,5] rfl [(0,0)] rfl iT⟩ ?_
  rintro s4 z4 a4 w4 ⟨M4,q4_0,st4⟩ hs4 hx4
  have h5:wq s4=some z4:=hs4
  unfold wq at h5
  refine wp_seq ?_
  refine st4.sqB (sc rfl (oM rfl (tp rfl))<|sc rfl (oM rfl (tp rfl))<|sc rfl (xLeN rfl kL92 rfl)<|sc rfl (oCI rfl (tp rfl) (tp rfl))<|.nil) [1,5,9] [(0,0)] (λ _ _ st6=>?_)
  refine st6.cs rfl h5 (λ _ h7=>?_) (λ _ h8=>?_)
  ·
   refine wp_skip (za (wp_seq (wp_block (wp_seq (wp_region_list ?_)))))
   obtain⟨v9,p9,h10⟩:=bs h7
   refine st6.segB 5 (sc rfl (oM rfl (tp rfl))<|sc rfl (oM rfl (tp rfl))<|sc rfl (oM rfl (tp rfl))<|sc rfl (xIaN rfl kS92 rfl (tp rfl) hA0 p9)<|sc rfl (xFa rfl kF173_0 (tp rfl))<|.nil) [1,5,14,16] [(0,0)] (λ _ _ st11=>?_)
   refine st11.stF (sb:=0) 0 ((PV.root.row rfl hA0 p9).fld Stmt.z0) rfl rfl rfl kT3 (by simp) (tp rfl) (tp rfl) rfl rfl iI [1,5] rfl [] rfl rfl (λ _ st12=>?_)
   refine wpList_nil (za ?_)
   obtain⟨v13,p13,h14⟩:=bs h10
   refine st12.sqA [1,5] [(0,0)] (λ _ _ st15=>?_)
   refine wp_seq (wp_region_list ?_)
   obtain⟨v16,p16,h17⟩:=bs h14
   refine st15.segB 6 (sc rfl (oM rfl (tp rfl))<|sc rfl (oM rfl (tp rfl))<|sc rfl (oM rfl (tp rfl))<|sc rfl (zj (l:=[.tmp 21]) rfl kN106 (.cons (tp rfl) .nil) (wv p16))<|sc rfl (xIaN rfl kS92 rfl (tp rfl) hA0 (wc p9))<|sc rfl (xFa rfl qY (tp rfl))<|.nil) [1,5,22,24] [(0,0)] (λ _ _ st18=>?_)
   refine st18.stF (sb:=0) 0 (((PV.root.row rfl hA0 (wc p9)).conv (upd':=λ z=>(s4.1.set s4.2.2.toNat z)) (λ _=>by simp only[List.set_set])).fld Stmt.z1) rfl rfl rfl kT9 (by simp) (tp rfl) (tp rfl) rfl rfl iI [1,5] rfl [] rfl rfl (λ _ st19=>?_)
   refine wpList_nil (za ?_)
   obtain⟨v20,p20,h21⟩:=bs h17
   refine st19.sqA [1,5] [(0,0)] (λ _ _ st22=>?_)
   refine wp_seq (wp_region_list ?_)
   refine st22.segB 5 (sc rfl (oM rfl (tp rfl))<|sc rfl (oM rfl (tp rfl))<|sc rfl (oM rfl (tp rfl))<|sc rfl (xIaN rfl kS92 rfl (tp rfl) hA0 (wc p9))<|sc rfl (xFa rfl JF (tp rfl))<|.nil) [1,5,29,31] [(0,0)] (λ _ _ st23=>?_)
   refine st23.stF (sb:=0) 0 (((PV.root.row rfl hA0 (wc p9)).conv (upd':=λ z=>(s4.1.set s4.2.2.toNat z)) (λ _=>by simp only[List.set_set])).fld Stmt.z2) rfl rfl rfl kT3 (by simp) (tp rfl) (tp rfl) rfl rfl iI [1,5] rfl [] rfl rfl (λ _ st24=>?_)
   refine wpList_nil (za ?_)
   obtain⟨v25,p25,h26⟩:=bs h21
   refine st24.sqA [1,5] [(0,0)] (λ _ _ st27=>?_)
   refine wp_seq (wp_region_list ?_)
   obtain⟨v28,p28,h29⟩:=bs h26
   refine st27.segB 6 (sc rfl (oM rfl (tp rfl))<|sc rfl (oM rfl (tp rfl))<|sc rfl (oM rfl (tp rfl))<|sc rfl (zj (l:=[.tmp 36]) rfl kN106 (.cons (tp rfl) .nil) (wv p28))<|sc rfl (xIaN rfl kS92 rfl (tp rfl) hA0 (wc p9))<|sc rfl (xFa rfl jZ (tp rfl))<|.nil) [1,5,37,39] [(0,0)] (λ _ _ st30=>?_)
   refine st30.stF (sb:=0) 0 (((PV.root.row rfl hA0 (wc p9)).conv (upd':=λ z=>(s4.1.set s4.2.2.toNat z)) (λ _=>by simp only[List.set_set])).fld Stmt.z3) rfl rfl rfl kT9 (by simp) (tp rfl) (tp rfl) rfl rfl iI [1,5] rfl [] rfl rfl (λ _ st31=>?_)
   refine wpList_nil (za ?_)
   obtain⟨v32,p32,h33⟩:=bs h29
   refine st31.sqA [1,5] [(0,0)] (λ _ _ st34=>?_)
   refine wp_seq (wp_region_list ?_)
   refine st34.segB 5 (sc rfl (oM rfl (tp rfl))<|sc rfl (oM rfl (tp rfl))<|sc rfl (oM rfl (tp rfl))<|sc rfl (xIaN rfl kS92 rfl (tp rfl) hA0 (wc p9))<|sc rfl (xFa rfl XS (tp rfl))<|.nil) [1,5,44,46] [(0,0)] (λ _ _ st35=>?_)
   refine st35.stF (sb:=0) 0 (((PV.root.row rfl hA0 (wc p9)).conv (upd':=λ z=>(s4.1.set s4.2.2.toNat z)) (λ _=>by simp only[List.set_set])).fld Stmt.z4) rfl rfl rfl kT3 (by simp) (tp rfl) (tp rfl) rfl rfl iI [1,5] rfl [] rfl rfl (λ _ st36=>?_)
   refine wpList_nil (za ?_)
   obtain⟨v37,p37,h38⟩:=bs h33
   refine st36.rgA [1,5] [(0,0)] (λ _ _ st39=>?_)
   refine zh (za ?_)
   obtain⟨v40,p40,h41⟩:=bs h38
   refine st39.rgA [1,5] [(0,0)] (λ _ _ st42=>?_)
   refine za ?_
   exact⟨_,(Option.some.inj h41).symm,⟨_,_,st42.sel [1,5] rfl [(0,0)] rfl iT⟩⟩
  refine wp_exit (zi (zi (zy ?_)))
  refine za ?_
  have h43:=lo h8 hx4
  obtain rfl:=Option.some.inj h43
  exact⟨_,_,st6.sel [1] rfl [(0,0)] rfl iT⟩
 rintro a2 w2 ⟨M2,q2_0,st2⟩
 have h44:=k2
 refine st2.sqA [4] [(0,0)] (λ _ _ st45=>?_)
 refine wp_ret ?_
 exact st45.rsF (s:=0) 0 rfl rfl rfl iI h44 zQ
def wr(s4:(List File)×Int×Int):Option (((List File)×Int×Int)⊕((List File)×Int)):=
if(cmpI .lss s4.2.2 (s4.1.length:Int))=true then((atI s4.1 s4.2.2).bind λ v9=>
(i64 (s4.2.1+(1:Int))).bind λ v13=>
(yu v13).bind λ v16=>
(i64 (v13+(1:Int))).bind λ v20=>
(yu v20).bind λ v23=>
(i64 (v20+(1:Int))).bind λ v27=>
(modO v27 (3:Int)).bind λ v30=>
(i64 (v27+(1:Int))).bind λ v34=>
(i64 (v34+(1:Int))).bind λ v39=>
(qB v9.body v39).bind λ v45=>
(i64 (s4.2.2+(1:Int))).bind λ v48=>
some (.inl ((s4.1.set s4.2.2.toNat (⟨s4.2.1,v16,v23,cmpI .eql v30 (0:Int),v34,v45.1⟩:File)),v45.2,v48)))
else(some (.inr (s4.1,s4.2.1)))
def qC(x0:List File)(x1:Int):Option ((List File)×Int):=
Option.bind (α:=(List File)×Int) (zL (λ s4=>wr s4) (x0,x1,(0:Int))) λ o2=>
some (o2.1,o2.2)
theorem zaJ{x0:List File}{x1:Int}{r:(List File)×Int}(h:qC x0 x1=some r):FnS Tryz.prog 105 (Ow.row 94 (owFile (Ow.row 173 (Ow.frz (α:=Stmt))))) x0 [dt x1] r.1 (.frz (dt r.2)):=by
 unfold qC at h
 refine fnSR (fn:=Tryz.f105) 0 1 Tryz.func105 rfl (oD rfl) rfl (λ M G w0 g0 A0 c0 _ hA0 st0=>?_)
 refine st0.sqA [1] [(0,0)] (λ _ _ st1=>?_)
 obtain⟨o2,p2,k2⟩:=bs h
 refine zn (λ a w=>∃ M1 q2_0,Sx (Frm.chg w0 G) 59 M M1 [q2_0] [(1,dt o2.2)] [(0,0,dnm (Ow.row 94 (owFile (Ow.row 173 (Ow.frz (α:=Stmt))))) q2_0 o2.1 (.slice A0 x0.length c0) [])] a w) ?_ ?_
 ·
  refine st1.sqA [1,5] [(0,0)] (λ _ _ st3=>?_)
  refine wp_block ?_
  refine zB p2 (λ s4 a w=>∃ M1 q4_0,Sx (Frm.chg w0 G) 59 M M1 [q4_0] [(1,dt s4.2.1),(5,dt s4.2.2)] [(0,0,dnm (Ow.row 94 (owFile (Ow.row 173 (Ow.frz (α:=Stmt))))) q4_0 s4.1 (.slice A0 x0.length c0) [])] a w) ⟨_,_,st3.sel [1,5] rfl [(0,0)] rfl iT⟩ ?_
  rintro s4 z4 a4 w4 ⟨M4,q4_0,st4⟩ hs4 hx4
  have h5:wr s4=some z4:=hs4
  unfold wr at h5
  refine wp_seq ?_
  refine st4.sqB (sc rfl (oM rfl (tp rfl))<|sc rfl (oM rfl (tp rfl))<|sc rfl (xLeN rfl kL28 rfl)<|sc rfl (oCI rfl (tp rfl) (tp rfl))<|.nil) [1,5,9] [(0,0)] (λ _ _ st6=>?_)
  refine st6.cs rfl h5 (λ _ h7=>?_) (λ _ h8=>?_)
  ·
   refine wp_skip (za (wp_seq (wp_block (wp_seq (wp_region_list ?_)))))
   obtain⟨v9,p9,h10⟩:=bs h7
   refine st6.segB 5 (sc rfl (oM rfl (tp rfl))<|sc rfl (oM rfl (tp rfl))<|sc rfl (oM rfl (tp rfl))<|sc rfl (xIaN rfl kS28 rfl (tp rfl) hA0 p9)<|sc rfl (xFa rfl zaz (tp rfl))<|.nil) [1,5,14,16] [(0,0)] (λ _ _ st11=>?_)
   refine st11.stF (sb:=0) 0 ((PV.root.row rfl hA0 p9).fld owFile.f0) rfl rfl rfl kT3 (by simp) (tp rfl) (tp rfl) rfl rfl iI [1,5] rfl [] rfl rfl (λ _ st12=>?_)
   refine wpList_nil (za ?_)
   obtain⟨v13,p13,h14⟩:=bs h10
   refine st12.sqA [1,5] [(0,0)] (λ _ _ st15=>?_)
   refine wp_seq (wp_region_list ?_)
   obtain⟨v16,p16,h17⟩:=bs h14
   refine st15.segB 6 (sc rfl (oM rfl (tp rfl))<|sc rfl (oM rfl (tp rfl))<|sc rfl (oM rfl (tp rfl))<|sc rfl (zj (l:=[.tmp 21]) rfl kN106 (.cons (tp rfl) .nil) (wv p16))<|sc rfl (xIaN rfl kS28 rfl (tp rfl) hA0 (wc p9))<|sc rfl (xFa rfl Jl (tp rfl))<|.nil) [1,5,22,24] [(0,0)] (λ _ _ st18=>?_)
   refine st18.stF (sb:=0) 0 (((PV.root.row rfl hA0 (wc p9)).conv (upd':=λ z=>(s4.1.set s4.2.2.toNat z)) (λ _=>by simp only[List.set_set])).fld owFile.f1) rfl rfl rfl kT9 (by simp) (tp rfl) (tp rfl) rfl rfl iI [1,5] rfl [] rfl rfl (λ _ st19=>?_)
   refine wpList_nil (za ?_)
   obtain⟨v20,p20,h21⟩:=bs h17
   refine st19.sqA [1,5] [(0,0)] (λ _ _ st22=>?_)
   refine wp_seq (wp_region_list ?_)
   obtain⟨v23,p23,h24⟩:=bs h21
   refine st22.segB 6 (sc rfl (oM rfl (tp rfl))<|sc rfl (oM rfl (tp rfl))<|sc rfl (oM rfl (tp rfl))<|sc rfl (zj (l:=[.tmp 29]) rfl kN106 (.cons (tp rfl) .nil) (wv p23))<|sc rfl (xIaN rfl kS28 rfl (tp rfl) hA0 (wc p9))<|sc rfl (xFa rfl Qr (tp rfl))<|.nil) [1,5,30,32] [(0,0)] (λ _ _ st25=>?_)
   refine st25.stF (sb:=0) 0 (((PV.root.row rfl hA0 (wc p9)).conv (upd':=λ z=>(s4.1.set s4.2.2.toNat z)) (λ _=>by simp only[List.set_set])).fld owFile.f2) rfl rfl rfl kT9 (by simp) (tp rfl) (tp rfl) rfl rfl iI [1,5] rfl [] rfl rfl (λ _ st26=>?_)
   refine wpList_nil (za ?_)
   obtain⟨v27,p27,h28⟩:=bs h24
   refine st26.sqA [1,5] [(0,0)] (λ _ _ st29=>?_)
   refine wp_seq (wp_region_list ?_)
   obtain⟨v30,p30,h31⟩:=bs h28
   refine st29.segB 7 (sc rfl (oM rfl (tp rfl))<|sc rfl (oM rfl (tp rfl))<|sc rfl (oM rfl (tp rfl))<|sc rfl (xMod rfl (tp rfl) cI p30)<|sc rfl (oCI rfl (tp rfl) cI)<|sc rfl (xIaN rfl kS28 rfl (tp rfl) hA0 (wc p9))<|sc rfl (xFa rfl zaA (tp rfl))<|.nil) [1,5,39,41] [(0,0)] (λ _ _ st32=>?_)
   refine st32.stF (sb:=0) 0 (((PV.root.row rfl hA0 (wc p9)).conv (upd':=λ z=>(s4.1.set s4.2.2.toNat z)) (λ _=>by simp only[List.set_set])).fld owFile.f3) rfl rfl rfl kT4 (by simp) (tp rfl) (tp rfl) rfl rfl iI [1,5] rfl [] rfl rfl (λ _ st33=>?_)
   refine wpList_nil (za ?_)
   obtain⟨v34,p34,h35⟩:=bs h31
   refine st33.sqA [1,5] [(0,0)] (λ _ _ st36=>?_)
   refine wp_seq (wp_region_list ?_)
   refine st36.segB 5 (sc rfl (oM rfl (tp rfl))<|sc rfl (oM rfl (tp rfl))<|sc rfl (oM rfl (tp rfl))<|sc rfl (xIaN rfl kS28 rfl (tp rfl) hA0 (wc p9))<|sc rfl (xFa rfl kF94_4 (tp rfl))<|.nil) [1,5,46,48] [(0,0)] (λ _ _ st37=>?_)
   refine st37.stF (sb:=0) 0 (((PV.root.row rfl hA0 (wc p9)).conv (upd':=λ z=>(s4.1.set s4.2.2.toNat z)) (λ _=>by simp only[List.set_set])).fld owFile.f4) rfl rfl rfl kT3 (by simp) (tp rfl) (tp rfl) rfl rfl iI [1,5] rfl [] rfl rfl (λ _ st38=>?_)
   refine wpList_nil (za ?_)
   obtain⟨v39,p39,h40⟩:=bs h35
   refine st38.sqA [1,5] [(0,0)] (λ _ _ st41=>?_)
   refine wp_region_list ?_
   refine st41.hdR (s:=0) 0 true (λ _=>(((PV.root.row rfl hA0 (wc p9)).conv (upd':=λ z=>(s4.1.set s4.2.2.toNat z)) (λ _=>by simp only[List.set_set])).fld owFile.f5)) rfl rfl iI [] rfl (λ g42 A42 _ hA42 st42=>?_)
   refine st42.segB 6 (sc rfl (oM rfl (tp rfl))<|sc rfl (oM rfl (tp rfl))<|sc rfl (xIaN rfl kS28 rfl (tp rfl) hA0 (wc p9))<|sc rfl (xFa rfl kF94_5 (tp rfl))<|sc rfl (xLc (sb:=0) (.head _) rfl rfl rfl kT92 (tp rfl) rfl)<|sc rfl (oM rfl (tp rfl))<|.nil) [1,5,55,56] [(0,0)] (λ _ _ st43=>?_)
   obtain⟨v45,p45,h46⟩:=bs h40
   refine st43.cSF (l:=[.tmp 56]) 0 (st43.bkH (sb:=0) (((PV.root.row rfl hA0 (wc p9)).conv (upd':=λ z=>(s4.1.set s4.2.2.toNat z)) (λ _=>by simp only[List.set_set])).fld owFile.f5) (.head _) rfl (xa rfl rfl) rfl iI) rfl rfl kN170 (st43.st.has 55 _ rfl) (by simp) (.cons (tp rfl) .nil) (zaI p45) [1,5] rfl [] rfl rfl (by decide) (λ G44 M44 _ _ st44=>?_)
   refine st44.segA 1 [1,5] [(0,0)] (λ _ _ st47=>?_)
   refine wpList_nil (zh (za ?_))
   obtain⟨v48,p48,h49⟩:=bs h46
   refine st47.rgA [1,5] [(0,0)] (λ _ _ st50=>?_)
   refine za ?_
   exact⟨_,(Option.some.inj h49).symm,⟨_,_,st50.sel [1,5] rfl [(0,0)] rfl iT⟩⟩
  refine wp_exit (zi (zi (zy ?_)))
  refine za ?_
  have h51:=lo h8 hx4
  obtain rfl:=Option.some.inj h51
  exact⟨_,_,st6.sel [1] rfl [(0,0)] rfl iT⟩
 rintro a2 w2 ⟨M2,q2_0,st2⟩
 have h52:=k2
 refine st2.sqA [4] [(0,0)] (λ _ _ st53=>?_)
 refine wp_ret ?_
 exact st53.rsF (s:=0) 0 rfl rfl rfl iI h52 zQ
def ww(x0:Tree)(x1:Int):Option (Tree×Int):=
(qC x0.files x1).bind λ v4=>
some ((⟨v4.1⟩:Tree),v4.2)
theorem Z0{x0:Tree}{x1:Int}{r:Tree×Int}(h:ww x0 x1=some r):FnS Tryz.prog 41 (owTree (Ow.row 94 (owFile (Ow.row 173 (Ow.frz (α:=Stmt)))))) x0 [dt x1] r.1 (.frz (dt r.2)):=by
 unfold ww at h
 refine fnSV (fn:=Tryz.f41) 0 1 Tryz.func41 rfl (oD rfl) rfl (λ M G _ u0 _ st0=>?_)
 refine st0.sqB (sc rfl (xBoxN rfl rfl)<|sc rfl (oA rfl cI)<|.nil) [1,2] [(0,0)] (λ _ _ st1=>?_)
 refine wp_seq (wp_region_list ?_)
 refine st1.segB 3 (sc rfl (xFldC rfl kF30_0 (tp rfl))<|sc rfl (xLdC (sb:=0) (PV.root.fld owTree.f0) rfl rfl kT28 (tp rfl) rfl)<|sc rfl (oM rfl (tp rfl))<|.nil) [1,6,7] [(0,0)] (λ _ _ st2=>?_)
 obtain⟨v4,p4,h5⟩:=bs h
 refine st2.cSF (l:=[.tmp 7]) 0 (st2.bkV (sb:=0) (PV.root.fld owTree.f0) rfl rfl iI) rfl rfl kN105 (st2.st.has 6 _ rfl) (by simp) (.cons (tp rfl) .nil) (zaJ p4) [1] rfl [] rfl rfl (by decide) (λ G3 M3 _ _ st3=>?_)
 refine st3.segA 1 [1] [(0,0)] (λ _ _ st6=>?_)
 refine wpList_nil (za ?_)
 refine st6.sqA [4] [(0,0)] (λ _ _ st7=>?_)
 refine wp_ret ?_
 exact st7.rsF (s:=0) 0 rfl rfl rfl iI h5 zQ
def wF(s4:(List Int)×Int×Int):Option (((List Int)×Int×Int)⊕((List Int)×Int)):=
if(cmpI .lss s4.2.2 (s4.1.length:Int))=true then((atI s4.1 s4.2.2).bind λ _v9=>
(i64 (s4.2.1+(1:Int))).bind λ v13=>
(i64 (s4.2.2+(1:Int))).bind λ v16=>
some (.inl ((s4.1.set s4.2.2.toNat s4.2.1),v13,v16)))
else(some (.inr (s4.1,s4.2.1)))
def wx(x0:List Int)(x1:Int):Option ((List Int)×Int):=
Option.bind (α:=(List Int)×Int) (zL (λ s4=>wF s4) (x0,x1,(0:Int))) λ o2=>
some (o2.1,o2.2)
theorem Z1{x0:List Int}{x1:Int}{r:(List Int)×Int}(h:wx x0 x1=some r):FnS Tryz.prog 42 (Ow.row 3 (Ow.frz (α:=Int))) x0 [dt x1] r.1 (.frz (dt r.2)):=by
 unfold wx at h
 refine fnSR (fn:=Tryz.f42) 0 1 Tryz.func42 rfl (oD rfl) rfl (λ M G w0 g0 A0 c0 _ hA0 st0=>?_)
 refine st0.sqA [1] [(0,0)] (λ _ _ st1=>?_)
 obtain⟨o2,p2,k2⟩:=bs h
 refine zn (λ a w=>∃ M1 q2_0,Sx (Frm.chg w0 G) 19 M M1 [q2_0] [(1,dt o2.2)] [(0,0,dnm (Ow.row 3 (Ow.frz (α:=Int))) q2_0 o2.1 (.slice A0 x0.length c0) [])] a w) ?_ ?_
 ·
  refine st1.sqA [1,5] [(0,0)] (λ _ _ st3=>?_)
  refine wp_block ?_
  refine zB p2 (λ s4 a w=>∃ M1 q4_0,Sx (Frm.chg w0 G) 19 M M1 [q4_0] [(1,dt s4.2.1),(5,dt s4.2.2)] [(0,0,dnm (Ow.row 3 (Ow.frz (α:=Int))) q4_0 s4.1 (.slice A0 x0.length c0) [])] a w) ⟨_,_,st3.sel [1,5] rfl [(0,0)] rfl iT⟩ ?_
  rintro s4 z4 a4 w4 ⟨M4,q4_0,st4⟩ hs4 hx4
  have h5:wF s4=some z4:=hs4
  unfold wF at h5
  refine wp_seq ?_
  refine st4.sqB (sc rfl (oM rfl (tp rfl))<|sc rfl (oM rfl (tp rfl))<|sc rfl (xLeN rfl kL25 rfl)<|sc rfl (oCI rfl (tp rfl) (tp rfl))<|.nil) [1,5,9] [(0,0)] (λ _ _ st6=>?_)
  refine st6.cs rfl h5 (λ _ h7=>?_) (λ _ h8=>?_)
  ·
   refine wp_skip (za (wp_seq (wp_block (wp_seq (wp_region_list ?_)))))
   obtain⟨v9,p9,h10⟩:=bs h7
   refine st6.segB 4 (sc rfl (oM rfl (tp rfl))<|sc rfl (oM rfl (tp rfl))<|sc rfl (oM rfl (tp rfl))<|sc rfl (xIaN rfl kS25 rfl (tp rfl) hA0 p9)<|.nil) [1,5,14,15] [(0,0)] (λ _ _ st11=>?_)
   refine st11.stF (sb:=0) 0 (PV.root.row rfl hA0 p9) rfl rfl rfl kT3 (by simp) (tp rfl) (tp rfl) rfl rfl iI [1,5] rfl [] rfl rfl (λ _ st12=>?_)
   refine wpList_nil (za ?_)
   obtain⟨v13,p13,h14⟩:=bs h10
   refine st12.rgA [1,5] [(0,0)] (λ _ _ st15=>?_)
   refine zh (za ?_)
   obtain⟨v16,p16,h17⟩:=bs h14
   refine st15.rgA [1,5] [(0,0)] (λ _ _ st18=>?_)
   refine za ?_
   exact⟨_,(Option.some.inj h17).symm,⟨_,_,st18.sel [1,5] rfl [(0,0)] rfl iT⟩⟩
  refine wp_exit (zi (zi (zy ?_)))
  refine za ?_
  have h19:=lo h8 hx4
  obtain rfl:=Option.some.inj h19
  exact⟨_,_,st6.sel [1] rfl [(0,0)] rfl iT⟩
 rintro a2 w2 ⟨M2,q2_0,st2⟩
 have h20:=k2
 refine st2.sqA [4] [(0,0)] (λ _ _ st21=>?_)
 refine wp_ret ?_
 exact st21.rsF (s:=0) 0 rfl rfl rfl iI h20 zQ
def xB(s4:(List Str)×Int×Int):Option (((List Str)×Int×Int)⊕((List Str)×Int)):=
if(cmpI .lss s4.2.2 (s4.1.length:Int))=true then((yu s4.2.1).bind λ v9=>
(atI s4.1 s4.2.2).bind λ _v10=>
(i64 (s4.2.1+(1:Int))).bind λ v15=>
(i64 (s4.2.2+(1:Int))).bind λ v18=>
some (.inl ((s4.1.set s4.2.2.toNat v9),v15,v18)))
else(some (.inr (s4.1,s4.2.1)))
def yR(x0:List Str)(x1:Int):Option ((List Str)×Int):=
Option.bind (α:=(List Str)×Int) (zL (λ s4=>xB s4) (x0,x1,(0:Int))) λ o2=>
some (o2.1,o2.2)
theorem Z6{x0:List Str}{x1:Int}{r:(List Str)×Int}(h:yR x0 x1=some r):FnS Tryz.prog 43 (Ow.row 9 (Ow.frz (α:=Str))) x0 [dt x1] r.1 (.frz (dt r.2)):=by
 unfold yR at h
 refine fnSR (fn:=Tryz.f43) 0 1 Tryz.func43 rfl (oD rfl) rfl (λ M G w0 g0 A0 c0 _ hA0 st0=>?_)
 refine st0.sqA [1] [(0,0)] (λ _ _ st1=>?_)
 obtain⟨o2,p2,k2⟩:=bs h
 refine zn (λ a w=>∃ M1 q2_0,Sx (Frm.chg w0 G) 20 M M1 [q2_0] [(1,dt o2.2)] [(0,0,dnm (Ow.row 9 (Ow.frz (α:=Str))) q2_0 o2.1 (.slice A0 x0.length c0) [])] a w) ?_ ?_
 ·
  refine st1.sqA [1,5] [(0,0)] (λ _ _ st3=>?_)
  refine wp_block ?_
  refine zB p2 (λ s4 a w=>∃ M1 q4_0,Sx (Frm.chg w0 G) 20 M M1 [q4_0] [(1,dt s4.2.1),(5,dt s4.2.2)] [(0,0,dnm (Ow.row 9 (Ow.frz (α:=Str))) q4_0 s4.1 (.slice A0 x0.length c0) [])] a w) ⟨_,_,st3.sel [1,5] rfl [(0,0)] rfl iT⟩ ?_
  rintro s4 z4 a4 w4 ⟨M4,q4_0,st4⟩ hs4 hx4
  have h5:xB s4=some z4:=hs4
  unfold xB at h5
  refine wp_seq ?_
  refine st4.sqB (sc rfl (oM rfl (tp rfl))<|sc rfl (oM rfl (tp rfl))<|sc rfl (xLeN rfl kL39 rfl)<|sc rfl (oCI rfl (tp rfl) (tp rfl))<|.nil) [1,5,9] [(0,0)] (λ _ _ st6=>?_)
  refine st6.cs rfl h5 (λ _ h7=>?_) (λ _ h8=>?_)
  ·
   refine wp_skip (za (wp_seq (wp_block (wp_seq (wp_region_list ?_)))))
   obtain⟨v9,p9,h11⟩:=bs h7
   obtain⟨v10,p10,h12⟩:=bs h11
   refine st6.segB 5 (sc rfl (oM rfl (tp rfl))<|sc rfl (oM rfl (tp rfl))<|sc rfl (oM rfl (tp rfl))<|sc rfl (zj (l:=[.tmp 14]) rfl kN106 (.cons (tp rfl) .nil) (wv p9))<|sc rfl (xIaN rfl kS39 rfl (tp rfl) hA0 p10)<|.nil) [1,5,15,16] [(0,0)] (λ _ _ st13=>?_)
   refine st13.stF (sb:=0) 0 (PV.root.row rfl hA0 p10) rfl rfl rfl kT9 (by simp) (tp rfl) (tp rfl) rfl rfl iI [1,5] rfl [] rfl rfl (λ _ st14=>?_)
   refine wpList_nil (za ?_)
   obtain⟨v15,p15,h16⟩:=bs h12
   refine st14.rgA [1,5] [(0,0)] (λ _ _ st17=>?_)
   refine zh (za ?_)
   obtain⟨v18,p18,h19⟩:=bs h16
   refine st17.rgA [1,5] [(0,0)] (λ _ _ st20=>?_)
   refine za ?_
   exact⟨_,(Option.some.inj h19).symm,⟨_,_,st20.sel [1,5] rfl [(0,0)] rfl iT⟩⟩
  refine wp_exit (zi (zi (zy ?_)))
  refine za ?_
  have h21:=lo h8 hx4
  obtain rfl:=Option.some.inj h21
  exact⟨_,_,st6.sel [1] rfl [(0,0)] rfl iT⟩
 rintro a2 w2 ⟨M2,q2_0,st2⟩
 have h22:=k2
 refine st2.sqA [4] [(0,0)] (λ _ _ st23=>?_)
 refine wp_ret ?_
 exact st23.rsF (s:=0) 0 rfl rfl rfl iI h22 zQ
def xC(x0:List Str)(s4:Int×Int):Option ((Int×Int)⊕(Int⊕Int)):=
if(cmpI .lss s4.2 (x0.length:Int))=true then((atI x0 s4.2).bind λ v9=>
(yu s4.1).bind λ v10=>
if(decide (v9≠v10))=true then(some (.inr (.inr (-1:Int))))
else((i64 (s4.1+(1:Int))).bind λ v19=>
(i64 (s4.2+(1:Int))).bind λ v22=>
some (.inl (v19,v22))))
else(some (.inr (.inl s4.1)))
def zZ(x0:List Str)(x1:Int):Option Int:=
Option.bind (α:=Int⊕Int) (zL (λ s4=>xC x0 s4) (x1,(0:Int))) (Sum.elim (λ b2=>
some b2) some)
theorem wG{x0:List Str}{x1:Int}{r:Int}(h:zZ x0 x1=some r):Fn Tryz.prog 44 [dt x0,dt x1] (dt r):=by
 unfold zZ at h
 refine fnx (fn:=Tryz.f44) 0 Tryz.func44 rfl (oD rfl) rfl (λ M w0 _ st0=>?_)
 refine st0.sq1 [0,1] (λ _ _ st1=>?_)
 obtain⟨o2,p2,k2⟩:=bs h
 refine zn (λ a w=>∃ b2,o2=.inl b2/\Sx (Frm.of w0) 22 M M [] [(1,dt b2)] [] a w) ?_ ?_
 ·
  refine st1.sq1 [0,1,5] (λ _ _ st3=>?_)
  refine wp_block ?_
  refine zB p2 (λ s4 a w=>Sx (Frm.of w0) 22 M M [] [(0,dt x0),(1,dt s4.1),(5,dt s4.2)] [] a w) (st3.sel0 [0,1,5] rfl) ?_
  rintro s4 z4 a4 w4 st4 hs4 hx4
  have h5:xC x0 s4=some z4:=hs4
  unfold xC at h5
  refine wp_seq ?_
  refine st4.sq1 [0,1,5,9] (λ _ _ st6=>?_)
  refine st6.cs rfl h5 (λ _ h7=>?_) (λ _ h8=>?_)
  ·
   refine wp_skip (za (wp_seq (wp_block (wp_seq (wp_seq ?_)))))
   obtain⟨v9,p9,h11⟩:=bs h7
   obtain⟨v10,p10,h12⟩:=bs h11
   refine st6.dr (D:=[_,_,_,_,_,_,_]) zE [[],[],[0,1],[0,1,2],[],[4],[0,1,2,3,4,5]] [[(0,none)],[(5,none)],[(12,some 0),(13,some 1)],[(14,some 2)],[(1,none)],[(16,some 4)],[(15,some 3),(17,some 5)]] (by decide +kernel) (
    rc rfl rfl (oM rfl (tp rfl))<|rc rfl rfl (oM rfl (tp rfl))<|rc rfl rfl (xIdx rfl kS39 (tp rfl) (tp rfl) p9)<|rc rfl rfl (ze rfl kT9 (tp rfl))<|rc rfl rfl (oM rfl (tp rfl))<|rc rfl rfl (zj (l:=[.tmp 16]) rfl kN106 (.cons (tp rfl) .nil) (wv p10))<|rc rfl rfl (Yk rfl (tp rfl) (tp rfl))<|.nil) [0,1,5,18] rfl [] rfl trivial (λ _ _ st13=>?_)
   refine za ?_
   refine st13.cs rfl h12 (λ _ h14=>?_) (λ _ h15=>?_)
   ·
    refine st13.sq1 [4] (λ _ _ st16=>?_)
    refine wp_ret (zd (zq (zd (zd (zq (zd ?_))))))
    have h17:=lo h14 hx4
    have h18:=jo h17 k2
    exact st16.ret rfl rfl h18
   refine wp_skip (za ?_)
   obtain⟨v19,p19,h20⟩:=bs h15
   refine st13.rg1 [0,1,5] (λ _ _ st21=>?_)
   refine zh (za ?_)
   obtain⟨v22,p22,h23⟩:=bs h20
   refine st21.rg1 [0,1,5] (λ _ _ st24=>?_)
   refine za ?_
   exact⟨_,(Option.some.inj h23).symm,st24.sel0 [0,1,5] rfl⟩
  refine wp_exit (zi (zi (zy ?_)))
  refine za ?_
  have h25:=lo h8 hx4
  exact⟨_,(Option.some.inj h25).symm,st6.sel0 [1] rfl⟩
 rintro a2 w2 ⟨b2,rfl,st2⟩
 have h26:=jn k2
 refine st2.sq1 [4] (λ _ _ st27=>?_)
 refine wp_ret ?_
 exact st27.ret rfl rfl h26
def Zr(x0:GVal)(x1:GVal):Option Bool:=
if(cmpI .neq x0.kind x1.kind)=true then(some false)
else(if(cmpI .neq x0.num x1.num)=true then(some false)
else(some true))
theorem zbC{x0:GVal}{x1:GVal}{r:Bool}(h:Zr x0 x1=some r):Fn Tryz.prog 174 [dt x0,dt x1] (dt r):=by
 unfold Zr at h
 refine fnx (fn:=Tryz.f174) 0 Tryz.func174 rfl (oD rfl) rfl (λ M _ _ st0=>?_)
 refine st0.sq1 [2,3] (λ _ _ st1=>?_)
 refine wp_seq ?_
 refine st1.sq1 [2,3,9] (λ _ _ st2=>?_)
 refine st2.cs rfl h (λ _ h3=>?_) (λ _ h4=>?_)
 ·
  refine st2.sq1 [4] (λ _ _ st5=>?_)
  refine wp_ret (zd ?_)
  exact st5.ret rfl rfl h3
 refine wp_skip (za (wp_seq ?_))
 refine st2.sq1 [14] (λ _ _ st6=>?_)
 refine st6.cs rfl h4 (λ _ h7=>?_) (λ _ h8=>?_)
 ·
  refine st6.sq1 [4] (λ _ _ st9=>?_)
  refine wp_ret (zd ?_)
  exact st9.ret rfl rfl h7
 refine wp_skip (za ?_)
 refine st6.sq1 [4] (λ _ _ st10=>?_)
 refine wp_ret ?_
 exact st10.ret rfl rfl h8
def ZT(x0:GAttr)(x1:GAttr):Option Bool:=
if(decide (x0.name≠x1.name))=true then(some false)
else((Zr x0.value x1.value).bind λ v6=>
if(!v6)=true then(some false)
else(some true))
theorem laws_eqAttr_w{x0:GAttr}{x1:GAttr}{r:Bool}(h:ZT x0 x1=some r):Fn Tryz.prog 114 [dt x0,dt x1] (dt r):=by
 unfold ZT at h
 refine fnx (fn:=Tryz.f114) 0 Tryz.func114 rfl (oD rfl) rfl (λ M _ _ st0=>?_)
 refine st0.sq1 [2,3] (λ _ _ st1=>?_)
 refine wp_seq ?_
 refine st1.sq1 [2,3,9] (λ _ _ st2=>?_)
 refine st2.cs rfl h (λ _ h3=>?_) (λ _ h4=>?_)
 ·
  refine st2.sq1 [4] (λ _ _ st5=>?_)
  refine wp_ret (zd ?_)
  exact st5.ret rfl rfl h3
 refine wp_skip (za (wp_seq ?_))
 obtain⟨v6,p6,h7⟩:=bsW h4 zbC
 refine st2.sq1 [15] (λ _ _ st8=>?_)
 refine st8.cs rfl h7 (λ _ h9=>?_) (λ _ h10=>?_)
 ·
  refine st8.sq1 [4] (λ _ _ st11=>?_)
  refine wp_ret (zd ?_)
  exact st11.ret rfl rfl h9
 refine wp_skip (za ?_)
 refine st8.sq1 [4] (λ _ _ st12=>?_)
 refine wp_ret ?_
 exact st12.ret rfl rfl h10
def qb(x0:List GAttr)(x1:List GAttr)(s8:Int):Option (Int⊕(Unit⊕Bool)):=
if(cmpI .lss s8 (x0.length:Int))=true then((atI x0 s8).bind λ v13=>
(atI x1 s8).bind λ v14=>
(ZT v13 v14).bind λ v15=>
if(!v15)=true then(some (.inr (.inr false)))
else((i64 (s8+(1:Int))).bind λ v25=>
some (.inl v25)))
else(some (.inr (.inl ())))
def wg(x0:List GAttr)(x1:List GAttr):Option Bool:=
if(cmpI .neq (x0.length:Int) (x1.length:Int))=true then(some false)
else(Option.bind (α:=Unit⊕Bool) (zL (λ s8=>qb x0 x1 s8) (0:Int)) (Sum.elim (λ _b6=>
some true) some))
theorem XD{x0:List GAttr}{x1:List GAttr}{r:Bool}(h:wg x0 x1=some r):Fn Tryz.prog 55 [dt x0,dt x1] (dt r):=by
 unfold wg at h
 refine fnx (fn:=Tryz.f55) 0 Tryz.func55 rfl (oD rfl) rfl (λ M w0 _ st0=>?_)
 refine st0.sq1 [0,1] (λ _ _ st1=>?_)
 refine wp_seq ?_
 refine st1.sq1 [0,1,10] (λ _ _ st2=>?_)
 refine st2.cs rfl h (λ _ h3=>?_) (λ _ h4=>?_)
 ·
  refine st2.sq1 [4] (λ _ _ st5=>?_)
  refine wp_ret (zd ?_)
  exact st5.ret rfl rfl h3
 refine wp_skip (za ?_)
 obtain⟨o6,p6,k6⟩:=bs h4
 refine zn (λ a w=>∃ b6,o6=.inl b6/\Sx (Frm.of w0) 27 M M [] [] [] a w) ?_ ?_
 ·
  refine st2.sq1 [0,1,5] (λ _ _ st7=>?_)
  refine wp_block ?_
  refine zB p6 (λ s8 a w=>Sx (Frm.of w0) 27 M M [] [(0,dt x0),(1,dt x1),(5,dt s8)] [] a w) (st7.sel0 [0,1,5] rfl) ?_
  rintro s8 z8 a8 w8 st8 hs8 hx8
  have h9:qb x0 x1 s8=some z8:=hs8
  unfold qb at h9
  refine wp_seq ?_
  refine st8.sq1 [0,1,5,14] (λ _ _ st10=>?_)
  refine st10.cs rfl h9 (λ _ h11=>?_) (λ _ h12=>?_)
  ·
   refine wp_skip (za (wp_seq (wp_block (wp_seq ?_))))
   obtain⟨v13,p13,h16⟩:=bs h11
   obtain⟨v14,p14,h17⟩:=bs h16
   obtain⟨v15,p15,h18⟩:=bs h17
   refine st10.dr (D:=[_,_,_,_,_,_,_,_,_,_]) zE [[],[],[0,1],[0,1,2],[],[],[4,5],[4,5,6],[0,1,2,3,4,5,6,7],[0,1,2,3,4,5,6,7,8]] [[(0,none)],[(5,none)],[(17,some 0),(18,some 1)],[(19,some 2)],[(1,none)],[(5,none)],[(21,some 4),(22,some 5)],[(23,some 6)],[(20,some 3),(24,some 7)],[(25,some 8)]] (by decide +kernel) (
    rc rfl rfl (oM rfl (tp rfl))<|rc rfl rfl (oM rfl (tp rfl))<|rc rfl rfl (xIdx rfl kS57 (tp rfl) (tp rfl) p13)<|rc rfl rfl (ze rfl kT133 (tp rfl))<|rc rfl rfl (oM rfl (tp rfl))<|rc rfl rfl (oM rfl (tp rfl))<|rc rfl rfl (xIdx rfl kS57 (tp rfl) (tp rfl) p14)<|rc rfl rfl (ze rfl kT133 (tp rfl))<|rc rfl rfl (zj (l:=[.tmp 20,.tmp 24]) rfl kN114 (.cons (tp rfl) (.cons (tp rfl) .nil)) (laws_eqAttr_w p15))<|rc rfl rfl (zT rfl (tp rfl))<|.nil) [0,1,5,26] rfl [] rfl trivial (λ _ _ st19=>?_)
   refine za ?_
   refine st19.cs rfl h18 (λ _ h20=>?_) (λ _ h21=>?_)
   ·
    refine st19.sq1 [4] (λ _ _ st22=>?_)
    refine wp_ret (zq (zd (zd (zq (zd ?_)))))
    have h23:=lo h20 hx8
    have h24:=jo h23 k6
    exact st22.ret rfl rfl h24
   refine wp_skip (zh (za ?_))
   obtain⟨v25,p25,h26⟩:=bs h21
   refine st19.rg1 [0,1,5] (λ _ _ st27=>?_)
   refine za ?_
   exact⟨_,(Option.some.inj h26).symm,st27.sel0 [0,1,5] rfl⟩
  refine wp_exit (zi (zi (zy ?_)))
  refine za ?_
  have h28:=lo h12 hx8
  exact⟨_,(Option.some.inj h28).symm,st10.sel0 [] rfl⟩
 rintro a6 w6 ⟨b6,rfl,st6⟩
 have h29:=jn k6
 refine st6.sq1 [4] (λ _ _ st30=>?_)
 refine wp_ret ?_
 exact st30.ret rfl rfl h29
def ws(s4:(List GAttr)×Int×Int):Option (((List GAttr)×Int×Int)⊕((List GAttr)×Int)):=
if(cmpI .lss s4.2.2 (s4.1.length:Int))=true then((yu s4.2.1).bind λ v9=>
(atI s4.1 s4.2.2).bind λ v10=>
(i64 (s4.2.1+(1:Int))).bind λ v15=>
(i64 (v15+(1:Int))).bind λ v20=>
(i64 (v20+(1:Int))).bind λ v25=>
(i64 (s4.2.2+(1:Int))).bind λ v28=>
some (.inl ((s4.1.set s4.2.2.toNat (⟨v9,{ ({ v10.value with kind:=v15 }) with num:=v20 }⟩:GAttr)),v25,v28)))
else(some (.inr (s4.1,s4.2.1)))
def jB(x0:List GAttr)(x1:Int):Option ((List GAttr)×Int):=
Option.bind (α:=(List GAttr)×Int) (zL (λ s4=>ws s4) (x0,x1,(0:Int))) λ o2=>
some (o2.1,o2.2)
theorem zaK{x0:List GAttr}{x1:Int}{r:(List GAttr)×Int}(h:jB x0 x1=some r):FnS Tryz.prog 56 oAtt x0 [dt x1] r.1 (.frz (dt r.2)):=by
 unfold jB at h
 refine fnSR (fn:=Tryz.f56) 0 1 Tryz.func56 rfl (oD rfl) rfl (λ M G w0 g0 A0 c0 _ hA0 st0=>?_)
 refine st0.sqA [1] [(0,0)] (λ _ _ st1=>?_)
 obtain⟨o2,p2,k2⟩:=bs h
 refine zn (λ a w=>∃ M1 q2_0,Sx (Frm.chg w0 G) 37 M M1 [q2_0] [(1,dt o2.2)] [(0,0,dnm oAtt q2_0 o2.1 (.slice A0 x0.length c0) [])] a w) ?_ ?_
 ·
  refine st1.sqA [1,5] [(0,0)] (λ _ _ st3=>?_)
  refine wp_block ?_
  refine zB p2 (λ s4 a w=>∃ M1 q4_0,Sx (Frm.chg w0 G) 37 M M1 [q4_0] [(1,dt s4.2.1),(5,dt s4.2.2)] [(0,0,dnm oAtt q4_0 s4.1 (.slice A0 x0.length c0) [])] a w) ⟨_,_,st3.sel [1,5] rfl [(0,0)] rfl iT⟩ ?_
  rintro s4 z4 a4 w4 ⟨M4,q4_0,st4⟩ hs4 hx4
  have h5:ws s4=some z4:=hs4
  unfold ws at h5
  refine wp_seq ?_
  refine st4.sqB (sc rfl (oM rfl (tp rfl))<|sc rfl (oM rfl (tp rfl))<|sc rfl (xLeN rfl kL57 rfl)<|sc rfl (oCI rfl (tp rfl) (tp rfl))<|.nil) [1,5,9] [(0,0)] (λ _ _ st6=>?_)
  refine st6.cs rfl h5 (λ _ h7=>?_) (λ _ h8=>?_)
  ·
   refine wp_skip (za (wp_seq (wp_block (wp_seq (wp_region_list ?_)))))
   obtain⟨v9,p9,h11⟩:=bs h7
   obtain⟨v10,p10,h12⟩:=bs h11
   refine st6.segB 6 (sc rfl (oM rfl (tp rfl))<|sc rfl (oM rfl (tp rfl))<|sc rfl (oM rfl (tp rfl))<|sc rfl (zj (l:=[.tmp 14]) rfl kN106 (.cons (tp rfl) .nil) (wv p9))<|sc rfl (xIaN rfl kS57 rfl (tp rfl) hA0 p10)<|sc rfl (xFa rfl XV (tp rfl))<|.nil) [1,5,15,17] [(0,0)] (λ _ _ st13=>?_)
   refine st13.stF (sb:=0) 0 ((PV.root.row rfl hA0 p10).fld GAttr.z0) rfl rfl rfl kT9 (by simp) (tp rfl) (tp rfl) rfl rfl iI [1,5] rfl [] rfl rfl (λ _ st14=>?_)
   refine wpList_nil (za ?_)
   obtain⟨v15,p15,h16⟩:=bs h12
   refine st14.sqA [1,5] [(0,0)] (λ _ _ st17=>?_)
   refine wp_seq (wp_region_list ?_)
   refine st17.segB 6 (sc rfl (oM rfl (tp rfl))<|sc rfl (oM rfl (tp rfl))<|sc rfl (oM rfl (tp rfl))<|sc rfl (xIaN rfl kS57 rfl (tp rfl) hA0 (wc p10))<|sc rfl (xFa rfl Xi (tp rfl))<|sc rfl (xFa rfl kF131_0 (tp rfl))<|.nil) [1,5,22,25] [(0,0)] (λ _ _ st18=>?_)
   refine st18.stF (sb:=0) 0 ((((PV.root.row rfl hA0 (wc p10)).conv (upd':=λ z=>(s4.1.set s4.2.2.toNat z)) (λ _=>by simp only[List.set_set])).fld GAttr.z1).fld GVal.z0) rfl rfl rfl kT3 (by simp) (tp rfl) (tp rfl) rfl rfl iI [1,5] rfl [] rfl rfl (λ _ st19=>?_)
   refine wpList_nil (za ?_)
   obtain⟨v20,p20,h21⟩:=bs h16
   refine st19.sqA [1,5] [(0,0)] (λ _ _ st22=>?_)
   refine wp_seq (wp_region_list ?_)
   refine st22.segB 6 (sc rfl (oM rfl (tp rfl))<|sc rfl (oM rfl (tp rfl))<|sc rfl (oM rfl (tp rfl))<|sc rfl (xIaN rfl kS57 rfl (tp rfl) hA0 (wc p10))<|sc rfl (xFa rfl Xi (tp rfl))<|sc rfl (xFa rfl kF131_1 (tp rfl))<|.nil) [1,5,30,33] [(0,0)] (λ _ _ st23=>?_)
   refine st23.stF (sb:=0) 0 ((((PV.root.row rfl hA0 (wc p10)).conv (upd':=λ z=>(s4.1.set s4.2.2.toNat z)) (λ _=>by simp only[List.set_set])).fld GAttr.z1).fld GVal.z1) rfl rfl rfl kT3 (by simp) (tp rfl) (tp rfl) rfl rfl iI [1,5] rfl [] rfl rfl (λ _ st24=>?_)
   refine wpList_nil (za ?_)
   obtain⟨v25,p25,h26⟩:=bs h21
   refine st24.rgA [1,5] [(0,0)] (λ _ _ st27=>?_)
   refine zh (za ?_)
   obtain⟨v28,p28,h29⟩:=bs h26
   refine st27.rgA [1,5] [(0,0)] (λ _ _ st30=>?_)
   refine za ?_
   exact⟨_,(Option.some.inj h29).symm,⟨_,_,st30.sel [1,5] rfl [(0,0)] rfl iT⟩⟩
  refine wp_exit (zi (zi (zy ?_)))
  refine za ?_
  have h31:=lo h8 hx4
  obtain rfl:=Option.some.inj h31
  exact⟨_,_,st6.sel [1] rfl [(0,0)] rfl iT⟩
 rintro a2 w2 ⟨M2,q2_0,st2⟩
 have h32:=k2
 refine st2.sqA [4] [(0,0)] (λ _ _ st33=>?_)
 refine wp_ret ?_
 exact st33.rsF (s:=0) 0 rfl rfl rfl iI h32 zQ
def wt(x0:List GAttr)(s4:Int×Int):Option ((Int×Int)⊕(Int⊕Int)):=
if(cmpI .lss s4.2 (x0.length:Int))=true then((atI x0 s4.2).bind λ v9=>
(yu s4.1).bind λ v10=>
if(decide (v9.name≠v10))=true then(some (.inr (.inr (-1:Int))))
else((i64 (s4.1+(1:Int))).bind λ v19=>
(atI x0 s4.2).bind λ v22=>
if(cmpI .neq v22.value.kind v19)=true then(some (.inr (.inr (-1:Int))))
else((i64 (v19+(1:Int))).bind λ v30=>
(atI x0 s4.2).bind λ v33=>
if(cmpI .neq v33.value.num v30)=true then(some (.inr (.inr (-1:Int))))
else((i64 (v30+(1:Int))).bind λ v41=>
(i64 (s4.2+(1:Int))).bind λ v44=>
some (.inl (v41,v44))))))
else(some (.inr (.inl s4.1)))
def xT(x0:List GAttr)(x1:Int):Option Int:=
Option.bind (α:=Int⊕Int) (zL (λ s4=>wt x0 s4) (x1,(0:Int))) (Sum.elim (λ b2=>
some b2) some)
theorem Wq{x0:List GAttr}{x1:Int}{r:Int}(h:xT x0 x1=some r):Fn Tryz.prog 57 [dt x0,dt x1] (dt r):=by
 unfold xT at h
 refine fnx (fn:=Tryz.f57) 0 Tryz.func57 rfl (oD rfl) rfl (λ M w0 _ st0=>?_)
 refine st0.sq1 [0,1] (λ _ _ st1=>?_)
 obtain⟨o2,p2,k2⟩:=bs h
 refine zn (λ a w=>∃ b2,o2=.inl b2/\Sx (Frm.of w0) 43 M M [] [(1,dt b2)] [] a w) ?_ ?_
 ·
  refine st1.sq1 [0,1,5] (λ _ _ st3=>?_)
  refine wp_block ?_
  refine zB p2 (λ s4 a w=>Sx (Frm.of w0) 43 M M [] [(0,dt x0),(1,dt s4.1),(5,dt s4.2)] [] a w) (st3.sel0 [0,1,5] rfl) ?_
  rintro s4 z4 a4 w4 st4 hs4 hx4
  have h5:wt x0 s4=some z4:=hs4
  unfold wt at h5
  refine wp_seq ?_
  refine st4.sq1 [0,1,5,9] (λ _ _ st6=>?_)
  refine st6.cs rfl h5 (λ _ h7=>?_) (λ _ h8=>?_)
  ·
   refine wp_skip (za (wp_seq (wp_block (wp_seq (wp_seq ?_)))))
   obtain⟨v9,p9,h11⟩:=bs h7
   obtain⟨v10,p10,h12⟩:=bs h11
   refine st6.dr (D:=[_,_,_,_,_,_,_,_]) zE [[],[],[0,1],[0,1,2],[0,1,2,3],[],[5],[0,1,2,3,4,5,6]] [[(0,none)],[(5,none)],[(12,some 0),(13,some 1)],[(14,some 2)],[(15,some 3)],[(1,none)],[(17,some 5)],[(16,some 4),(18,some 6)]] (by decide +kernel) (
    rc rfl rfl (oM rfl (tp rfl))<|rc rfl rfl (oM rfl (tp rfl))<|rc rfl rfl (xIdx rfl kS57 (tp rfl) (tp rfl) p9)<|rc rfl rfl (zg GAttr.fld0 rfl XV (tp rfl))<|rc rfl rfl (ze rfl kT9 (tp rfl))<|rc rfl rfl (oM rfl (tp rfl))<|rc rfl rfl (zj (l:=[.tmp 17]) rfl kN106 (.cons (tp rfl) .nil) (wv p10))<|rc rfl rfl (Yk rfl (tp rfl) (tp rfl))<|.nil) [0,1,5,19] rfl [] rfl trivial (λ _ _ st13=>?_)
   refine za ?_
   refine st13.cs rfl h12 (λ _ h14=>?_) (λ _ h15=>?_)
   ·
    refine st13.sq1 [4] (λ _ _ st16=>?_)
    refine wp_ret (zd (zq (zd (zd (zq (zd ?_))))))
    have h17:=lo h14 hx4
    have h18:=jo h17 k2
    exact st16.ret rfl rfl h18
   refine wp_skip (za ?_)
   obtain⟨v19,p19,h20⟩:=bs h15
   refine st13.sq1 [0,1,5] (λ _ _ st21=>?_)
   refine wp_seq ?_
   obtain⟨v22,p22,h23⟩:=bs h20
   refine st21.sq1 [0,1,5,29] (λ _ _ st24=>?_)
   refine st24.cs rfl h23 (λ _ h25=>?_) (λ _ h26=>?_)
   ·
    refine st24.sq1 [4] (λ _ _ st27=>?_)
    refine wp_ret (zd (zq (zd (zd (zq (zd ?_))))))
    have h28:=lo h25 hx4
    have h29:=jo h28 k2
    exact st27.ret rfl rfl h29
   refine wp_skip (za ?_)
   obtain⟨v30,p30,h31⟩:=bs h26
   refine st24.sq1 [0,1,5] (λ _ _ st32=>?_)
   refine wp_seq ?_
   obtain⟨v33,p33,h34⟩:=bs h31
   refine st32.sq1 [0,1,5,39] (λ _ _ st35=>?_)
   refine st35.cs rfl h34 (λ _ h36=>?_) (λ _ h37=>?_)
   ·
    refine st35.sq1 [4] (λ _ _ st38=>?_)
    refine wp_ret (zd (zq (zd (zd (zq (zd ?_))))))
    have h39:=lo h36 hx4
    have h40:=jo h39 k2
    exact st38.ret rfl rfl h40
   refine wp_skip (za ?_)
   obtain⟨v41,p41,h42⟩:=bs h37
   refine st35.rg1 [0,1,5] (λ _ _ st43=>?_)
   refine zh (za ?_)
   obtain⟨v44,p44,h45⟩:=bs h42
   refine st43.rg1 [0,1,5] (λ _ _ st46=>?_)
   refine za ?_
   exact⟨_,(Option.some.inj h45).symm,st46.sel0 [0,1,5] rfl⟩
  refine wp_exit (zi (zi (zy ?_)))
  refine za ?_
  have h47:=lo h8 hx4
  exact⟨_,(Option.some.inj h47).symm,st6.sel0 [1] rfl⟩
 rintro a2 w2 ⟨b2,rfl,st2⟩
 have h48:=jn k2
 refine st2.sq1 [4] (λ _ _ st49=>?_)
 refine wp_ret ?_
 exact st49.ret rfl rfl h48
open Go.RowKit
set_option maxRecDepth 10000
set_option maxHeartbeats 1600000
end Go.Proofs.YtiiiokblnnlapaaGreatDoor
