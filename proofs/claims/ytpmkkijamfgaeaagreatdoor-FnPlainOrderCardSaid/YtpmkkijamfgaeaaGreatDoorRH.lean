import Derived.Test.YtpmkkijamfgaeaaGreatDoorRD
import Derived.Test.YtpmkkijamfgaeaaGreatDoorRFb
import Derived.Test.YtpmkkijamfgaeaaGreatDoorRB
import Derived.Test.YtpmkkijamfgaeaaGreatDoorRO
import Derived.Test.YtpmkkijamfgaeaaGreatDoorRC
namespace Go.Proofs.YtpmkkijamfgaeaaGreatDoor
open Go.RowKit Tryz
instance (s:Str):Decidable (mid s):=by unfold mid;infer_instance
instance (s:Stmt):Decidable (smStmt s):=by unfold smStmt;infer_instance
instance (f:File):Decidable (smFile f):=by unfold smFile;infer_instance
instance (t:Tree):Decidable (xg t):=by unfold xg;infer_instance
@[reducible] def oAtt:Ow (List GAttr):=Ow.row 189 (Ow.frz (α:=GAttr))
@[reducible] def oMac(ps:List (Nat×Nat)):Ow (Bx Machine):=Ow.box (owMachine (Ow.rowP ps 95 (owGModR oAtt)) (Ow.row 3 (Ow.frz (α:=Int))) (Ow.row 136 (Ow.frz (α:=GEvent))) (Ow.row 9 (Ow.frz (α:=Str))))
def xW(t:Tree):Option Bool:=if xg t then some (zw t) else none
theorem Xb{t:Tree}{r:Bool}(h:xW t=some r):Fn prog 38 [dt t] (dt r):=by
 unfold xW at h
 split at h
 ·
  rename_i hc
  injection h with h
  subst h
  exact za8 _ hc
 ·
  cases h
def yx(s:Str):Option Bool:=if mid s then some (zd s) else none
theorem qz{s:Str}{r:Bool}(h:yx s=some r):Fn prog 40 [dt s] (dt r):=by
 unfold yx at h
 split at h
 ·
  rename_i hc
  injection h with h
  subst h
  exact jW _ hc
 ·
  cases h
def jX(l:List Str)(s:Str):Option (List Str):=if l.length<=8796093022200 then some (x9 l s) else none
theorem WI{l:List Str}{s:Str}{r:List Str}(h:jX l s=some r):zaj prog 43 9 l [dt s] r:=by
 unfold jX at h
 split at h
 ·
  rename_i hc
  injection h with h
  subst h
  exact zar _ _ hc
 ·
  cases h
def xX(p:List Int):Option Bool:=if True then some (xA p) else none
theorem Xc{p:List Int}{r:Bool}(h:xX p=some r):Fn prog 39 [dt p] (dt r):=by
 unfold xX at h
 split at h
 ·
  rename_i hc
  injection h with h
  subst h
  exact za7 _
 ·
  cases h
def Yo(t:Tree)(p:List Int)(s:Str):Option Spec:=if p.length<=1099511627776/\mid s then some (find t.files p s) else none
theorem zcp{t:Tree}{p:List Int}{s:Str}{r:Spec}(h:Yo t p s=some r):Fn prog 48 [dt t,dt p,dt s] (dt r):=by
 unfold Yo at h
 split at h
 ·
  rename_i hc
  injection h with h
  subst h
  exact spec_find_ok _ _ _ hc.1 hc.2
 ·
  cases h
def yz(s:Str):Option Str:=if mid s then some (zk s) else none
theorem ZZ{s:Str}{r:Str}(h:yz s=some r):Fn prog 96 [dt s] (dt r):=by
 unfold yz at h
 split at h
 ·
  rename_i hc
  injection h with h
  subst h
  exact zcW _ hc
 ·
  cases h
def ZJ(s:Str):Option (List Str):=if mid s then some (yJ s) else none
theorem Jm{s:Str}{r:List Str}(h:ZJ s=some r):Fn prog 42 [dt s] (dt r):=by
 unfold ZJ at h
 split at h
 ·
  rename_i hc
  injection h with h
  subst h
  exact spec_above_ok _ hc
 ·
  cases h
def XW(p:Str)(s:Str):Option Str:=if p.l.length+s.l.length<=1152921504606846976 then some (child p s) else none
theorem spec_child_w{p:Str}{s:Str}{r:Str}(h:XW p s=some r):Fn prog 129 [dt p,dt s] (dt r):=by
 unfold XW at h
 split at h
 ·
  rename_i hc
  injection h with h
  subst h
  exact ZT _ _ hc
 ·
  cases h
def Zk(f:File):Option Str:=if smFile f then some (xt f) else none
theorem YH{f:File}{r:Str}(h:Zk f=some r):Fn prog 76 [dt f] (dt r):=by
 unfold Zk at h
 split at h
 ·
  rename_i hc
  injection h with h
  subst h
  exact zaq _ hc
 ·
  cases h
def WQ(t:Tree)(f:File):Option Int:=if True then some (xa t.files f) else none
theorem spec_fileAt_w{t:Tree}{f:File}{r:Int}(h:WQ t f=some r):Fn prog 86 [dt t,dt f] (dt r):=by
 unfold WQ at h
 split at h
 ·
  rename_i hc
  injection h with h
  subst h
  exact YB _ _
 ·
  cases h
open Go.RowKit Tryz
attribute [local irreducible] OpRel OpdR
set_option maxRecDepth 10000
set_option maxHeartbeats 1600000
theorem kL92:isSl prog 92=true:=by kernel_rfl
theorem kS92:slB prog 92 1=true:=by kernel_rfl
theorem kT95:tyB prog 95 false 1=true:=by kernel_rfl
theorem kF98_3:fldB prog 98 3 3=true:=by kernel_rfl
theorem zbU:fldB prog 98 0 0=true:=by kernel_rfl
theorem Jn:fldB prog 94 4 4=true:=by kernel_rfl
theorem kT92:tyB prog 92 false 1=true:=by kernel_rfl
theorem kN161:fnB prog 161=true:=by kernel_rfl
theorem kN54:fnB prog 54=true:=by kernel_rfl
theorem kF98_1:fldB prog 98 1 1=true:=by kernel_rfl
theorem zbV:fldB prog 98 5 5=true:=by kernel_rfl
theorem kT96:tyB prog 96 false 1=true:=by kernel_rfl
theorem kL96:isSl prog 96=true:=by kernel_rfl
theorem kS96:slB prog 96 3=true:=by kernel_rfl
theorem kF189_0:fldB prog 189 0 0=true:=by kernel_rfl
theorem kF189_1:fldB prog 189 1 1=true:=by kernel_rfl
theorem kT154:tyB prog 154 true 2=true:=by kernel_rfl
theorem kB154:bldB prog 154 [1,1]=true:=by kernel_rfl
theorem kC154:ZR prog 154 [1,1]=some zpGVal:=by kernel_rfl
theorem kB94:bldB prog 94 [1,1,1,1,1,1,1,1,1]=true:=by kernel_rfl
theorem kC94:ZR prog 94 [1,1,1,1,1,1,1,1,1]=some zpMachine:=by kernel_rfl
theorem kN117:fnB prog 117=true:=by kernel_rfl
theorem kF94_6:fldB prog 94 6 6=true:=by kernel_rfl
theorem kB136:bldB prog 136 [1,1]=true:=by kernel_rfl
theorem kC136:ZR prog 136 [1,1]=some zpGEvent:=by kernel_rfl
theorem kD136_0_1:∀ {M:Nat->Prop} {look:Nat->Option Dt} {o:Oper} {q0 q1:Operand} {y0:Int} {y1:Str},o.op=.build 136 #[(0,q0),(1,q1)]->OpdR M look q0 (dt y0)->OpdR M look q1 (dt y1)->OpRel prog M look o (dt (⟨y0,y1⟩:GEvent)):=@λ _ _ _ q0 q1 y0 y1 ho h0 h1=>yA (parts:=[(0,q0),(1,q1)]) (ns:=[1,1]) (zs:=zpGEvent) rfl ho kB136 kC136 (λ w a hl=>by
 intro p hp;simp only[List.mem_cons,List.not_mem_nil,or_false] at hp
 rcases hp with rfl | rfl
 ·
  exact⟨(by decide:0<2),Rep.len (α:=Int) (OpdR.cells h0 hl)⟩
 ·
  exact⟨(by decide:1<2),Rep.len (α:=Str) (OpdR.cells h1 hl)⟩) (λ w a hl=>GEvent.parts (x:=(⟨y0,y1⟩:GEvent)) (OpdR.cells h0 hl) (OpdR.cells h1 hl))
instance iF94_6MaA:FldO prog 94 6 6:=⟨kF94_6⟩
def yu(x0:File):Option (List Stmt):=
some x0.body
theorem QL{x0:File}{r:List Stmt}(h:yu x0=some r):Fn prog 117 [dt x0] (dt r):=by
 unfold yu at h
 refine fnx (fn:=f117) 0 func117 rfl (oD rfl) rfl (λ M _ _ st0=>?_)
 refine st0.sq2 (sP 1 (r:=by exact sc rfl (oA rfl (x8 (α:=Stmt)))<|.nil)) [1] (λ _ _ st1=>?_)
 refine st1.sq1 [2] (λ _ _ st2=>wp_ret ?_)
 exact st2.ret rfl rfl h
def zO(x0:List (Bx GMod))(x1:(GMod->Option Bool))(s4:Int):Option (Int⊕(Unit⊕Int)):=
if(cmpI .lss s4 (x0.length:Int))=true then((atI x0 s4).bind λ v10=>
(x1 v10.x).bind λ v11=>
if v11=true then(some (.inr (.inr s4)))
else((i64 (s4+(1:Int))).bind λ v20=>
some (.inl v20)))
else(some (.inr (.inl ())))
def yh(x0:List (Bx GMod))(x1:(GMod->Option Bool)):Option Int:=
Option.bind (α:=Unit⊕Int) (zK (λ s4=>zO x0 x1 s4) (0:Int)) (Sum.elim (λ _b2=>
some (-1:Int)) some)
theorem qS{x0:List (Bx GMod)}{x1:(GMod->Option Bool)}{r:Int}(h:yh x0 x1=some r):Fn prog 160 [dt x0,dfq1 prog x1] (dt r):=by
 unfold yh at h
 refine fnx (fn:=f160) 0 func160 rfl (oD rfl) rfl (λ M w0 _ st0=>?_)
 refine st0.sq1 [0,1] (λ _ _ st1=>?_)
 obtain⟨o2,p2,k2⟩:=bs h
 refine zi (λ a w=>∃ b2,o2=.inl b2/\Sx (Frm.of w0) 19 M M [] [] [] a w) ?_ ?_
 ·
  refine st1.sq1 [0,1,7,8] (λ _ _ st3=>wp_block ?_)
  refine zG p2 (λ s4 a w=>Sx (Frm.of w0) 19 M M [] [(0,dt x0),(7,dt (x0.length:Int)),(8,dt s4),(1,dfq1 prog x1)] [] a w) (st3.sel0 [0,7,8,1] rfl) ?_
  rintro s4 z4 a4 w4 st4 hs4 hx4
  have h5:zO x0 x1 s4=some z4:=hs4
  unfold zO at h5
  refine st4.sq1 [0,1,7,8,9] (λ _ _ st6=>wp_seq ?_)
  refine st6.cs rfl h5 (λ _ h7=>wp_skip (za (wp_seq (wp_block ?_)))) (λ _ h8=>wp_exit (zh (zh (zy ?_))))
  ·
   refine st6.sq1 [0,1,5,7,8] (λ _ _ st9=>?_)
   obtain⟨v10,p10,v11,p11,h13⟩:=bsB h7
   refine st9.sq2 (sP 4 (r:=by exact sc rfl (OpRel.bx (zr rfl kT95 (tp rfl)))<|sc rfl (xCaQ1 rfl (tp rfl) (tp rfl) p11)<|.nil)) [0,1,5,7,8,16] (λ _ _ st14=>?_)
   refine st14.cs rfl h13 (λ _ h15=>?_) (λ _ h16=>wp_skip (zf (za ?_)))
   ·
    refine st14.sq1 [4] (λ _ _ st17=>wp_ret (zt (ze (ze (zt (ze ?_))))))
    have h18:=lo h15 hx4
    have h19:=jo h18 k2
    exact st17.ret rfl rfl h19
   obtain⟨v20,p20,h21⟩:=bs h16
   refine st14.rg1 [0,1,7,8] (λ _ _ st22=>za ?_)
   exact⟨_,(Option.some.inj h21).symm,st22.sel0 [0,7,8,1] rfl⟩
  refine za ?_
  have h23:=lo h8 hx4
  exact⟨_,(Option.some.inj h23).symm,st6.sel0 [] rfl⟩
 rintro a2 w2 ⟨b2,rfl,st2⟩
 have h24:=jn k2
 refine st2.sq1 [4] (λ _ _ st25=>wp_ret ?_)
 exact st25.ret rfl rfl h24
def yy(x0:GMod)(x1:Str):Option Bool:=
some (x0.cached&&decide (x0.name=x1))
theorem W1{x0:GMod}{x1:Str}{r:Bool}(h:yy x0 x1=some r):Fn prog 161 [dptr x0,dptr x1] (dt r):=by
 unfold yy at h
 refine fnx (fn:=f161) 0 func161 rfl (oD rfl) rfl (λ M _ _ st0=>?_)
 refine st0.sq1 [0,1] (λ _ _ st1=>wp_seq ?_)
 refine st1.drA (D:=[_,_,_,_,_,_,_,_,_,_,_,_,_]) zJ [[(0,nS)],[(4,0)],[(5,1)],[(6,2)],[(7,3)],[(0,nS),(8,4)],[(9,5),(8,4)],[(10,6),(8,4)],[(11,7),(8,4)],[(1,nS),(8,4)],[(12,8),(13,9),(8,4)],[(8,4),(14,10)],[(15,11)]] [3] [] (λ _ _ st2=>?_) (hs:=rc rfl rfl (oM rfl (tp rfl))<|rc rfl rfl (xNcP rfl (tp rfl))<|rc rfl rfl (zH GMod.fld3 rfl kF98_3 (tp rfl))<|rc rfl rfl (zr rfl kT4 (tp rfl))<|rc rfl rfl (oM rfl (tp rfl))<|rg rfl rfl rfl (λ hg=>oM rfl (tp rfl))<|rg rfl rfl rfl (λ hg=>xNcP rfl (zn hg rfl))<|rg rfl rfl rfl (λ hg=>zH GMod.fld0 rfl zbU (zn hg rfl))<|rg rfl rfl rfl (λ hg=>zr rfl kT9 (zn hg rfl))<|rg rfl rfl rfl (λ hg=>zr rfl kT9 (tp rfl))<|rg rfl rfl rfl (λ hg=>qQ rfl (zn hg rfl) (zn hg rfl))<|rc rfl rfl (xe rfl (tp rfl) (zb rfl))<|rc rfl rfl (oA rfl (tp rfl))<|.nil)
 refine za (wp_ret ?_)
 exact st2.ret rfl rfl h
def zW(x0:Machine)(x1:Str):Option Int:=
(yh x0.modules (λ a0=>yy a0 x1)).bind λ v2=>
some v2
theorem xB{x0:Machine}{x1:Str}{r:Int}(h:zW x0 x1=some r):Fn prog 118 [dptr x0,dt x1] (dt r):=by
 unfold zW at h
 refine fnx (fn:=f118) 0 func118 rfl (oD rfl) rfl (λ M _ a0 st0=>?_)
 refine st0.sq1 [0,3] (λ _ _ st1=>?_)
 obtain⟨v2,p2,h3⟩:=bs h
 refine st1.sq2 (sP 4 (r:=by exact sc rfl (xMkQ1 (l:=[.tmp 3]) (g:=(λ a0=>yy a0 x1)) rfl kN161 (.cons (tp rfl) .nil) rfl (λ _ _ h=>W1 h))<|sc rfl (oK (qS p2))<|segC)) [4] (λ _ _ st4=>wp_ret ?_)
 exact st4.ret rfl rfl h3
def ym(s17:Str×Int):Option ((Str×Int)⊕Str):=
if(cmpI .gtr s17.2 (1:Int)&&decide (s17.1≠(⟨[]⟩:Str)))=true then((yK s17.1).bind λ v22=>
(i64 (s17.2 - (1:Int))).bind λ v25=>
some (.inl (v22,v25)))
else(some (.inr s17.1))
def wH(x0:Str)(x1:Int)(x2:Str):Option Str:=
(xi x0).bind λ v2=>
(gO ((!v2) == false) (xi x2)).bind λ v3=>
(gO (((!v2)||(!v3)) == false) (yM x1 (0:Int) (4:Int))).bind λ v4=>
if(((!v2)||(!v3))||(!v4))=true then(some (⟨[]⟩:Str))
else(if(cmpI .eql x1 (0:Int))=true then(some x2)
else(Option.bind (α:=Str) (zK (λ s17=>ym s17) (x0,x1)) λ o16=>
if(decide (o16=(⟨[]⟩:Str)))=true then(some (⟨[]⟩:Str))
else(Option.bind (α:=Str) (if(decide (x2≠(⟨[]⟩:Str)))=true then((catO (⟨[46]⟩:Str) x2).bind λ v38=>
(catO o16 v38).bind λ v39=>
some v39)
else(some o16)) λ o34=>
(zV o34).bind λ v44=>
if(!v44)=true then(some (⟨[]⟩:Str))
else(some o34))))
theorem Wl{x0:Str}{x1:Int}{x2:Str}{r:Str}(h:wH x0 x1 x2=some r):Fn prog 106 [dt x0,dt x1,dt x2] (dt r):=by
 unfold wH at h
 refine fnx (fn:=f106) 0 func106 rfl (oD rfl) rfl (λ M w0 _ st0=>?_)
 refine st0.sq1 [0,1,2] (λ _ _ st1=>wp_seq ?_)
 obtain⟨v2,p2,v3,p3,v4,p4,h7⟩:=bsC h
 refine st1.sq2 (sP 1 (r:=by exact sc rfl (oK (qw p2))<|sP 3 (r:=by exact sg rfl rfl (λ hg=>oK (qw (gh hg p3)))<|sP 4 (r:=by exact sg rfl rfl (λ hg=>oK (qf (gh hg p4)))<|segC)))) [0,1,2,19] (λ _ _ st8=>?_)
 refine st8.cs rfl h7 (λ _ h9=>?_) (λ _ h10=>wp_skip (za (wp_seq ?_)))
 ·
  refine st8.sq1 [6] (λ _ _ st11=>wp_ret (ze ?_))
  exact st11.ret rfl rfl h9
 refine st8.sq1 [0,1,2,21] (λ _ _ st12=>?_)
 refine st12.cs rfl h10 (λ _ h13=>?_) (λ _ h14=>wp_skip (za ?_))
 ·
  refine st12.sq1 [6] (λ _ _ st15=>wp_ret (ze ?_))
  exact st15.ret rfl rfl h13
 obtain⟨o16,p16,k16⟩:=bs h14
 refine zi (λ a w=>Sx (Frm.of w0) 45 M M [] [(0,dt o16),(2,dt x2)] [] a w) ?_ ?_
 ·
  refine wp_block ?_
  refine zG p16 (λ s17 a w=>Sx (Frm.of w0) 45 M M [] [(0,dt s17.1),(1,dt s17.2),(2,dt x2)] [] a w) (st12.sel0 [0,1,2] rfl) ?_
  rintro s17 z17 a17 w17 st17 hs17 hx17
  have h18:ym s17=some z17:=hs17
  unfold ym at h18
  refine wp_seq ?_
  refine st17.sq3 [0,1,2,28] (λ _ _ st19=>?_)
  refine st19.cs rfl h18 (λ _ h20=>wp_skip (za (wp_seq (wp_block ?_)))) (λ _ h21=>wp_exit (zh (zh (zy ?_))))
  ·
   obtain⟨v22,p22,h23⟩:=bsW h20 qY
   refine st19.rg1 [0,1,2] (λ _ _ st24=>zf (za ?_))
   obtain⟨v25,p25,h26⟩:=bs h23
   refine st24.rg1 [0,1,2] (λ _ _ st27=>za ?_)
   exact⟨_,(Option.some.inj h26).symm,st27.sel0 [0,1,2] rfl⟩
  refine za ?_
  have h28:=lo h21 hx17
  obtain rfl:=Option.some.inj h28
  exact st19.sel0 [0,2] rfl
 rintro a16 w16 st16
 have h29:=k16
 refine wp_seq ?_
 refine st16.sq1 [0,2,34] (λ _ _ st30=>?_)
 refine st30.cs rfl h29 (λ _ h31=>?_) (λ _ h32=>wp_skip (za ?_))
 ·
  refine st30.sq1 [6] (λ _ _ st33=>wp_ret (ze ?_))
  exact st33.ret rfl rfl h31
 obtain⟨o34,p34,k34⟩:=bs h32
 refine zi (λ a w=>Sx (Frm.of w0) 45 M M [] [(0,dt o34)] [] a w) ?_ ?_
 ·
  refine st30.sq2 (sc rfl (oM rfl (tp rfl))<|sc rfl (zae rfl (tp rfl) (zN (by decide)))<|.nil) [0,2,36] (λ _ _ st35=>?_)
  refine st35.cs rfl p34 (λ _ h36=>?_) (λ _ h37=>wp_skip (za ?_))
  ·
   obtain⟨v38,p38,v39,p39,h41⟩:=bsB h36
   refine st35.rg2 (sc rfl (oM rfl (tp rfl))<|sc rfl (oM rfl (tp rfl))<|sc rfl (xCat rfl (zN (by decide)) (tp rfl) p38)<|sc rfl (xCat rfl (tp rfl) (tp rfl) p39)<|sc rfl (oA rfl (tp rfl))<|.nil) [0] (λ _ _ st42=>za ?_)
   obtain rfl:=Option.some.inj h41
   exact st42.sel0 [0] rfl
  obtain rfl:=Option.some.inj h37
  exact st35.sel0 [0] rfl
 rintro a34 w34 st34
 have h43:=k34
 refine wp_seq ?_
 obtain⟨v44,p44,h45⟩:=bsW h43 yo
 refine st34.sq1 [0,43] (λ _ _ st46=>?_)
 refine st46.cs rfl h45 (λ _ h47=>?_) (λ _ h48=>wp_skip (za ?_))
 ·
  refine st46.sq2 (sc rfl (oA rfl (zN (by decide)))<|.nil) [6] (λ _ _ st49=>wp_ret (ze ?_))
  exact st49.ret rfl rfl h47
 refine st46.sq1 [6] (λ _ _ st50=>wp_ret ?_)
 exact st50.ret rfl rfl h48
def yn(x0:GMod):Option Str:=
if(cmpI .eql x0.kind (1:Int))=true then((yK x0.name).bind λ v5=>
some v5)
else(some x0.name)
theorem Yp{x0:GMod}{r:Str}(h:yn x0=some r):Fn prog 107 [dptr x0] (dt r):=by
 unfold yn at h
 refine fnx (fn:=f107) 0 func107 rfl (oD rfl) rfl (λ M _ _ st0=>?_)
 refine st0.sq1 [0] (λ _ _ st1=>wp_seq ?_)
 refine st1.sq3 [0,7] (λ _ _ st2=>?_)
 refine st2.cs rfl h (λ _ h3=>?_) (λ _ h4=>wp_skip (za ?_))
 ·
  obtain⟨v5,p5,h6⟩:=bsW h3 qY
  refine st2.sq3 [2] (λ _ _ st7=>wp_ret (ze ?_))
  exact st7.ret rfl rfl h6
 refine st2.sq3 [2] (λ _ _ st8=>wp_ret ?_)
 exact st8.ret rfl rfl h4
def xC(x0:GMod)(x1:Str)(s6:GVal×Int):Option ((GVal×Int)⊕(GVal⊕(GVal×Bool))):=
if(cmpI .lss s6.2 (x0.attrs.length:Int))=true then((atI x0.attrs s6.2).bind λ v11=>
if(decide (v11.name=x1))=true then(some (.inr (.inr (v11.value,true))))
else((i64 (s6.2+(1:Int))).bind λ v27=>
some (.inl (s6.1,v27))))
else(some (.inr (.inl s6.1)))
def xR(x0:GMod)(x1:Str):Option (GVal×Bool):=
Option.bind (α:=GVal⊕(GVal×Bool)) (zK (λ s6=>xC x0 x1 s6) (zGVal,(0:Int))) (Sum.elim (λ _b4=>
some ((⟨0,0⟩:GVal),false)) some)
theorem jD{x0:GMod}{x1:Str}{r:GVal×Bool}(h:xR x0 x1=some r):Fn prog 203 [dptr x0,dt x1] (dtup [dt r.1,dt r.2]):=by
 unfold xR at h
 refine fnx (fn:=f203) 2 func203 rfl (oD rfl) rfl (λ M w0 _ st0=>wp_seq (wp_region_list ?_))
 refine st0.alA 0 zap [0,1] [] (λ b2 _ _ _ st2=>?_)
 refine st2.segA 1 [0,1] [(4,0)] (λ _ _ st3=>wpList_nil (za ?_))
 obtain⟨o4,p4,k4⟩:=bs h
 refine zi (λ a w=>∃ b4,o4=.inl b4/\(∃ M1 q4_0 q4_1,Sx (Frm.of w0) 25 M M1 [oneB q4_0,oneB q4_1] [] [(4,0,dbox q4_0 0 b4)] a w)) ?_ ?_
 ·
  refine st3.sqC [1,11,12,13] [(4,0)] (λ _ _ st5=>wp_block ?_)
  refine zG p4 (λ s6 a w=>∃ M1 q6_0 q6_1,Sx (Frm.of w0) 25 M M1 [oneB q6_0,oneB q6_1] [(1,dt x1),(11,dt x0.attrs),(12,dt (x0.attrs.length:Int)),(13,dt s6.2)] [(4,0,dbox q6_0 0 s6.1)] a w) fx ?_
  rintro s6 z6 a6 w6 ⟨M6,q6_0,q6_1,st6⟩ hs6 hx6
  have h7:xC x0 x1 s6=some z6:=hs6
  unfold xC at h7
  refine st6.sqA [1,11,12,13,14] [(4,0)] (λ _ _ st8=>wp_seq ?_)
  refine st8.cs rfl h7 (λ _ h9=>wp_skip (za (wp_seq (wp_block (wp_seq (wp_region_list ?_)))))) (λ _ h10=>wp_exit (zh (zh (zy ?_))))
  ·
   obtain⟨v11,p11,h12⟩:=bs h9
   refine st8.segA 2 [1,11,12,13,16] [(4,0)] (λ _ _ st13=>?_)
   refine st13.alA 1 zrGAttr [1,11,12,13,16] [4] (λ b15 _ _ _ st15=>?_)
   refine st15.stA 7 1 FldS.id (tp rfl) [1,11,12,13] [4] (λ _ _ st17=>wpList_nil (za ?_))
   refine st17.sqC [1,11,12,13,20] [(4,0),(7,1)] (λ _ _ st18=>?_)
   refine st18.cs rfl h12 (λ _ h19=>wp_seq (wp_region_list ?_)) (λ _ h20=>wp_skip (zf (za ?_)))
   ·
    refine st18.segC 2 [22] [(4,0)] (λ _ _ st21=>?_)
    refine st21.stA 4 0 FldS.id (tp rfl) [] [] (λ _ _ st23=>?_)
    refine st23.segA 1 [5] [(4,0)] (λ _ _ st24=>wpList_nil (za ?_))
    refine wp_ret (zt (ze (ze (zt (ze ?_)))))
    have h25:=lo h19 hx6
    have h26:=jo h25 k4
    obtain rfl:=Option.some.inj h26
    exact st24.ret2c rfl kT154 rfl (st24.frozen (t:=5) rfl) rfl rfl
   obtain⟨v27,p27,h28⟩:=bs h20
   refine st18.rgA [1,11,12,13] [(4,0)] (λ _ _ st29=>za ?_)
   exact fl h28
  refine za ?_
  have h30:=lo h10 hx6
  exact fl h30
 rintro a4 w4 ⟨b4,rfl,⟨M4,q4_0,q4_1,st4⟩⟩
 have h31:=jn k4
 refine wp_seq (wp_region_list ?_)
 refine st4.segB 1 (sc rfl (yA (parts:=[]) (ns:=[1,1]) (zs:=zpGVal) rfl rfl kB154 kC154 (λ w a hl=>by simp) (λ w a hl=>GVal.parts (x:=(⟨0,0⟩:GVal)) ⟨rfl,trivial⟩ ⟨rfl,trivial⟩))<|.nil) [24] [(4,0)] (λ _ _ st32=>?_)
 refine st32.stA 4 0 FldS.id (tp rfl) [] [] (λ _ _ st34=>?_)
 refine st34.segA 1 [5] [(4,0)] (λ _ _ st35=>wpList_nil (za (wp_ret ?_)))
 obtain rfl:=Option.some.inj h31
 exact st35.ret2c rfl kT154 rfl (st35.frozen (t:=5) rfl) rfl rfl
def wk(x0:Str)(x1:Str):Option (Str×Str×Bool):=
(xM x0 x1).bind λ v2=>
if(cmpI .geq v2 (0:Int))=true then((cutHO x0 v2).bind λ v8=>
(i64 (v2+(x1.l.length:Int))).bind λ v9=>
(cutLO x0 v9).bind λ v10=>
some (v8,v10,true))
else(some (x0,(⟨[]⟩:Str),false))
theorem Wm{x0:Str}{x1:Str}{r:Str×Str×Bool}(h:wk x0 x1=some r):Fn prog 229 [dt x0,dt x1] (dtup [dt r.1,dt r.2.1,dt r.2.2]):=by
 unfold wk at h
 refine fnx (fn:=f229) 0 func229 rfl (oD rfl) rfl (λ M _ _ st0=>?_)
 refine st0.sq1 [0,1] (λ _ _ st1=>wp_seq ?_)
 obtain⟨v2,p2,h3⟩:=bsW h XK
 refine st1.sq1 [0,1,7] (λ _ _ st4=>?_)
 refine st4.sq1 [0,1,7,12] (λ _ _ st5=>?_)
 refine st5.cs rfl h3 (λ _ h6=>wp_seq ?_) (λ _ h7=>wp_skip (za ?_))
 ·
  obtain⟨v8,p8,v9,p9,v10,p10,h13⟩:=bsC h6
  refine st5.drA (D:=[_,_,_,_,_,_,_,_,_,_,_,_]) zJ [[(0,nS)],[(7,nS)],[(13,0),(14,1)],[(0,nS)],[(7,nS)],[(1,nS)],[(18,5)],[(17,4),(19,6)],[(16,3),(20,7)],[(15,2)],[(21,8)],[]] [4,5,6] [] (λ _ _ st14=>za ?_)
  refine wp_ret (ze ?_)
  obtain rfl:=Option.some.inj h13
  exact st14.ret3 rfl (st14.frozen (t:=4) rfl) (st14.frozen (t:=5) rfl) (st14.frozen (t:=6) rfl) ⟨rfl,rfl,rfl⟩ rfl
 refine st5.sq1 [4,5,6] (λ _ _ st15=>wp_ret ?_)
 obtain rfl:=Option.some.inj h7
 exact st15.ret3 rfl (st15.frozen (t:=4) rfl) (st15.frozen (t:=5) rfl) (st15.frozen (t:=6) rfl) ⟨rfl,rfl,rfl⟩ rfl
def Z0(x0:Str)(x1:Str):Option (Str×Str×Bool):=
(wk x0 x1).bind λ v2=>
some (v2.1,v2.2.1,v2.2.2)
theorem strings_Cut_w{x0:Str}{x1:Str}{r:Str×Str×Bool}(h:Z0 x0 x1=some r):Fn prog 202 [dt x0,dt x1] (dtup [dt r.1,dt r.2.1,dt r.2.2]):=by
 unfold Z0 at h
 refine fnx (fn:=f202) 0 func202 rfl (oD rfl) rfl (λ M _ _ st0=>?_)
 refine st0.sq1 [0,1] (λ _ _ st1=>?_)
 obtain⟨v2,p2,h3⟩:=bsW h Wm
 refine st1.sq1 [4,5,6] (λ _ _ st4=>wp_ret ?_)
 obtain rfl:=Option.some.inj h3
 exact st4.ret3 rfl (st4.frozen (t:=4) rfl) (st4.frozen (t:=5) rfl) (st4.frozen (t:=6) rfl) ⟨rfl,rfl,rfl⟩ rfl
def jY(x0:Tree)(x1:List Int)(x2:Int):Option Machine:=
some (⟨x0,x1,(⟨⟩:Nilf),(⟨yu⟩:FnV File (List Stmt)),[],[],[],[],x2⟩:Machine)
theorem zbf{x0:Tree}{x1:List Int}{x2:Int}{r:Machine}(h:jY x0 x1 x2=some r):FnN prog 67 [dt x0,dt x1,dt x2] (.ow (oMac []) ⟨r⟩):=by
 unfold jY at h
 refine fnN (fn:=f67) 4 func67 rfl (oD rfl) rfl (λ M _ _ st0=>?_)
 refine st0.sq2 (sP 1 (r:=by exact sc rfl (oA rfl zbb)<|.nil)) [1,2,3] (λ _ _ st1=>wp_seq (wp_region_list ?_))
 refine st1.segA 3 [7,8,9] [] (λ _ _ st2=>?_)
 refine st2.bldW (ow:=(owMachine (Ow.rowP [] 95 (owGModR oAtt)) (Ow.row 3 (Ow.frz (α:=Int))) (Ow.row 136 (Ow.frz (α:=GEvent))) (Ow.row 9 (Ow.frz (α:=Str))))) (parts:=[(0,.tmp 7),(1,.tmp 8),(8,.tmp 9),(3,.func 117)]) (ns:=[1,1,1,1,1,1,1,1,1]) (zs:=zpMachine) (x:=(⟨x0,x1,(⟨⟩:Nilf),(⟨yu⟩:FnV File (List Stmt)),[],[],[],[],x2⟩:Machine)) 3 [] rfl rfl rfl kB94 kC94 (by
 intro p hp;simp only[List.mem_cons,List.not_mem_nil,or_false] at hp
 rcases hp with rfl | rfl | rfl | rfl
 ·
  exact⟨by decide,Rep.len (α:=Tree) (OpdR.cells (tp rfl) (λ s y hs=>st2.st.has s y hs))⟩
 ·
  exact⟨by decide,Rep.len (α:=List Int) (OpdR.cells (tp rfl) (λ s y hs=>st2.st.has s y hs))⟩
 ·
  exact⟨by decide,Rep.len (α:=Int) (OpdR.cells (tp rfl) (λ s y hs=>st2.st.has s y hs))⟩
 ·
  exact⟨by decide,rfl⟩) (((owMachine (Ow.rowP [] 95 (owGModR oAtt)) (Ow.row 3 (Ow.frz (α:=Int))) (Ow.row 136 (Ow.frz (α:=GEvent))) (Ow.row 9 (Ow.frz (α:=Str))))).more (owMachine.mk (x:=(⟨x0,x1,(⟨⟩:Nilf),(⟨yu⟩:FnV File (List Stmt)),[],[],[],[],x2⟩:Machine)) (OpdR.cells (tp rfl) (λ s y hs=>st2.st.has s y hs)) (OpdR.cells (tp rfl) (λ s y hs=>st2.st.has s y hs)) (zrNilf _ _) (OpdR.cells (opd_fnv (opd_fun1 kN117 (λ _ _ h=>QL h))) (λ s y hs=>st2.st.has s y hs)) (rowP_zz _ _) (Ow.row_z _ _) (Ow.row_z _ _) (Ow.row_z _ _) (OpdR.cells (tp rfl) (λ s y hs=>st2.st.has s y hs)) (λ b h1=>(λ h2=>h2.elim (λ h2=>h2.elim) (λ h2=>h2.elim (λ h2=>h2.elim) (λ h2=>h2.elim)))) (λ b h1=>(λ h2=>h2.elim (λ h2=>h2.elim) (λ h2=>h2.elim))) (λ b h1=>(λ h2=>h2.elim))) (λ b=>(λ hb=>hb.elim (λ hb=>hb.elim) (λ hb=>hb.elim (λ hb=>hb.elim) (λ hb=>hb.elim (λ hb=>hb.elim) (λ hb=>hb.elim)))))) (by simp) [] rfl [] rfl rfl rfl (λ G3 _ _ st3=>?_)
 have st4:=st3.gs (Gs':=[oneB none,oneB none,oneB none,G3]) rfl
 refine st4.boxW 0 3 rfl rfl rfl (by simp) (by simp) (by decide) iI [] rfl [] rfl rfl rfl (λ b5 _ _ _ _ st5=>?_)
 have st6:=st5.gn
 refine st6.segA 1 [] [(6,0)] (λ _ _ st7=>wpList_nil (za (wp_ret ?_)))
 have st8:=st7.unm (s:=6) 0 rfl rfl iI [] rfl
 exact st8.rnO 0 rfl rfl iI (bx1 h)
def yD(x0:Machine)(x1:Int)(x2:Str):Option Machine:=
(appO 24 x0.log ([(⟨x1,x2⟩:GEvent)]:List GEvent)).bind λ v7=>
some ({ x0 with log:=v7 })
theorem jZ{ps:List (Nat×Nat)}{x0:Machine}{x1:Int}{x2:Str}{r:Machine}(h:yD x0 x1 x2=some r):FnS prog 162 (oMac ps) ⟨x0⟩ [dt x1,dt x2] ⟨r⟩ .gone:=by
 unfold yD at h
 refine fnSB (fn:=f162) 0 2 func162 rfl (oD rfl) rfl (λ M G _ b0 _ st0=>wp_region_list ?_)
 refine st0.hdA 0 0 ((PV.root.box rfl).fld owMachine.f6) [] (λ g1 A1 _ hA1 st1=>?_)
 refine st1.segB 9 (sP 7 (r:=by exact sc rfl (kD136_0_1 rfl (tp rfl) (tp rfl))<|segC)) [6,10,14] [(0,0)] (λ _ _ st2=>?_)
 refine st2.mvG (s:=10) (sb:=0) 0 1 ((PV.root.box rfl).fld owMachine.f6) (.head _) rfl (wi rfl rfl) rfl (by simp) (by simp) (by decide) rfl iI [6,14] rfl [] rfl rfl rfl rfl (λ _ H4 st4=>?_)
 refine st4.tipR (s:=10) 1 rfl rfl (by simp) iI [0] rfl rfl (λ g5 st5=>?_)
 obtain⟨v7,p7,h8⟩:=bs h
 refine st5.apA 1 yS p7 [6] [0] (λ g6 _ _ _ st6=>?_)
 refine st6.segC 2 [17] [(0,0),(15,1)] (λ _ _ st9=>?_)
 have st11:=st9.tipW (s:=15) 1 rfl rfl iI [0] rfl
 refine st11.shA 0 15 0 1 (tp rfl) [] [] (λ _ _ st10=>wpList_nil ?_)
 exact(st10.rs0 (s:=0) 0 rfl rfl iI (bx1 h8)).2
open Go.RowKit Tryz
set_option maxRecDepth 10000
set_option maxHeartbeats 1600000
theorem kB189:bldB prog 189 [1,2]=true:=by kernel_rfl
theorem kC189:ZR prog 189 [1,2]=some zpGAttr:=by kernel_rfl
theorem kD189_0_1:∀ {M:Nat->Prop} {look:Nat->Option Dt} {o:Oper} {q0 q1:Operand} {y0:Str} {y1:GVal},o.op=.build 189 #[(0,q0),(1,q1)]->OpdR M look q0 (dt y0)->OpdR M look q1 (dt y1)->OpRel prog M look o (dt (⟨y0,y1⟩:GAttr)):=@λ _ _ _ q0 q1 y0 y1 ho h0 h1=>yA (parts:=[(0,q0),(1,q1)]) (ns:=[1,2]) (zs:=zpGAttr) rfl ho kB189 kC189 (λ w a hl=>by
 intro p hp;simp only[List.mem_cons,List.not_mem_nil,or_false] at hp
 rcases hp with rfl | rfl
 ·
  exact⟨(by decide:0<2),Rep.len (α:=Str) (OpdR.cells h0 hl)⟩
 ·
  exact⟨(by decide:1<2),Rep.len (α:=GVal) (OpdR.cells h1 hl)⟩) (λ w a hl=>GAttr.parts (x:=(⟨y0,y1⟩:GAttr)) (OpdR.cells h0 hl) (OpdR.cells h1 hl))
theorem kY96:zlB prog 96=true:=by kernel_rfl
theorem kE96:elB prog 96 189 3 32=true:=by kernel_rfl
theorem kF98_4:fldB prog 98 4 4=true:=by kernel_rfl
theorem kF94_7:fldB prog 94 7 7=true:=by kernel_rfl
theorem kT29:tyB prog 29 false 1=true:=by kernel_rfl
theorem kN104:fnB prog 104=true:=by kernel_rfl
theorem kF94_0:fldB prog 94 0 0=true:=by kernel_rfl
theorem kF94_1:fldB prog 94 1 1=true:=by kernel_rfl
theorem kF94_2:fldB prog 94 2 2=true:=by kernel_rfl
theorem kT90:tyB prog 90 false 1=true:=by kernel_rfl
theorem kN118:fnB prog 118=true:=by kernel_rfl
theorem kF98_2:fldB prog 98 2 2=true:=by kernel_rfl
theorem kN123:fnB prog 123=true:=by kernel_rfl
instance iF189_0MaB:FldO prog 189 0 0:=⟨kF189_0⟩
instance iF94_4MaB:FldO prog 94 4 4:=⟨Jn⟩
instance iF94_7MaB:FldO prog 94 7 7:=⟨kF94_7⟩
instance iF98_0MaB:FldO prog 98 0 0:=⟨zbU⟩
instance iF98_5MaB:FldO prog 98 5 5:=⟨zbV⟩
def xD(x0:GMod)(x1:Str)(x2:GVal)(s6:GMod×Int):Option ((GMod×Int)⊕(GMod⊕GMod)):=
if(cmpI .lss s6.2 (x0.attrs.length:Int))=true then((atI s6.1.attrs s6.2).bind λ v13=>
if(decide (v13.name=x1))=true then((atI s6.1.attrs s6.2).bind λ v20=>
some (.inr (.inr ({ s6.1 with attrs:=(s6.1.attrs.set s6.2.toNat ({ v20 with value:=x2 })) }))))
else((i64 (s6.2+(1:Int))).bind λ v26=>
some (.inl (s6.1,v26))))
else(some (.inr (.inl s6.1)))
def yc(x0:GMod)(x1:Str)(x2:GVal):Option GMod:=
Option.bind (α:=GMod⊕GMod) (zK (λ s6=>xD x0 x1 x2 s6) (x0,(0:Int))) (Sum.elim (λ b2=>
(appO 32 b2.attrs ([(⟨x1,x2⟩:GAttr)]:List GAttr)).bind λ v39=>
some ({ b2 with attrs:=v39 })) some)
theorem jE{x0:GMod}{x1:Str}{x2:GVal}{r:GMod}(h:yc x0 x1 x2=some r):FnS prog 122 (Ow.box (owGModR oAtt)) ⟨x0⟩ [dt x1,dt x2] ⟨r⟩ .gone:=by
 unfold yc at h
 refine fnSB (fn:=f122) 0 2 func122 rfl (oD rfl) rfl (λ M G w0 b0 _ st0=>?_)
 refine st0.sqA [1,5] [(0,0)] (λ _ _ st1=>?_)
 obtain⟨o2,p2,k2⟩:=bs h
 refine zi (λ a w=>∃ b2,o2=.inl b2/\(∃ M1 q2_0 q2_1,Sx (Frm.chg w0 G) 46 M M1 [q2_0,q2_1] [(1,dt x1),(5,dptr x2)] [(0,0,dnm (Ow.box (owGModR oAtt)) q2_0 ⟨b2⟩ (.pointer (some ⟨b0,0,none⟩)) [])] a w)) ?_ ?_
 ·
  refine st1.hdA 0 0 ((PV.root.box rfl).fld owGModR.f5) [] (λ g3 A3 _ hA3 st3=>?_)
  refine st3.sqB (sP 4 (r:=by exact sc rfl (xLe rfl kL96 (tp rfl))<|segC)) [1,5,11,12] [(0,0)] (λ _ _ st4=>?_)
  have st5:=st4.ncf (s:=0) 0 rfl rfl iI [] rfl
  refine wp_block ?_
  refine zG p2 (λ s6 a w=>∃ M1 q6_0 q6_1,Sx (Frm.chg w0 G) 46 M M1 [q6_0,q6_1] [(1,dt x1),(5,dptr x2),(11,dt (x0.attrs.length:Int)),(12,dt s6.2)] [(0,0,dnm (Ow.box (owGModR oAtt)) q6_0 ⟨s6.1⟩ (.pointer (some ⟨b0,0,none⟩)) [])] a w) fx ?_
  rintro s6 z6 a6 w6 ⟨M6,q6_0,q6_1,st6⟩ hs6 hx6
  have h7:xD x0 x1 x2 s6=some z6:=hs6
  unfold xD at h7
  refine st6.sqA [1,5,11,12,13] [(0,0)] (λ _ _ st8=>wp_seq ?_)
  refine st8.cs rfl h7 (λ _ h9=>wp_skip (za (wp_seq (wp_block ?_)))) (λ _ h10=>wp_exit (zh (zh (zy ?_))))
  ·
   refine st8.sqA [1,5,6,11,12] [(0,0)] (λ _ _ st11=>?_)
   obtain⟨v13,p13,h14⟩:=bs h9
   refine st11.hdA 0 0 ((PV.root.box rfl).fld owGModR.f5) [] (λ g12 A12 _ hA12 st12=>?_)
   refine st12.sqB (sP 5 (r:=by exact sc rfl (xIa (g:=g12) rfl kS96 (tp rfl) (tp rfl) rfl (λ h=>hA12 h rfl) p13)<|sP 1 (r:=by exact sc rfl (xLf (sb:=0) ((((PV.root.box rfl).fld owGModR.f5).row (.head _) rfl (λ h=>hA12 h rfl) p13).fld GAttr.z0) rfl kT9 (tp rfl) rfl)<|segC))) [1,5,6,11,12,24] [(0,0)] (λ _ _ st15=>?_)
   have st16:=st15.ncf (s:=0) 0 rfl rfl iI [] rfl
   refine st16.cs rfl h14 (λ _ h17=>wp_seq ?_) (λ _ h18=>wp_skip (zf (za ?_)))
   ·
    obtain⟨v20,p20,h21⟩:=bs h17
    refine st16.hdA 0 0 ((PV.root.box rfl).fld owGModR.f5) [] (λ g19 A19 _ hA19 st19=>?_)
    refine st19.drnA (D:=[_,_,_,_,_,_,_,_]) zJ 8 [[(0,nS)],[(25,0)],[(26,1)],[(27,2),(0,nS)],[(6,nS)],[(5,nS)],[(28,3),(29,4)],[(31,6)],[(32,7),(30,5)]] [30,32] [(0,0)] (λ _ _ st22=>?_) (hs:=rc rfl rfl (oM rfl (zR rfl))<|rc rfl rfl (xNc rfl (tp rfl))<|rc rfl rfl (xFa rfl zbV (tp rfl))<|rc rfl rfl (xLc (sb:=0) (.head _) rfl rfl rfl kT96 (tp rfl) rfl)<|rc rfl rfl (oM rfl (tp rfl))<|rc rfl rfl (zr rfl kT154 (tp rfl))<|rc rfl rfl (xIa (g:=g19) rfl kS96 (tp rfl) (tp rfl) rfl (λ h=>hA19 h rfl) p20)<|rc rfl rfl (xFa rfl kF189_1 (tp rfl))<|.nil)
    refine st22.sfA 0 0 ((((PV.root.box rfl).fld owGModR.f5).row (.head _) rfl (λ h=>hA19 h rfl) p20).fld GAttr.z1) (tp rfl) (tp rfl) [] [] (λ _ st23=>wpList_nil (za ?_))
    refine wp_ret (zt (ze (ze (zt (ze ?_)))))
    have h24:=lo h21 hx6
    have h25:=jo h24 k2
    exact(st23.rs0 (s:=0) 0 rfl rfl iI (bx1 h25)).1
   obtain⟨v26,p26,h27⟩:=bs h18
   refine st16.rgA [1,5,11,12] [(0,0)] (λ _ _ st28=>za ?_)
   exact fl h27
  refine za ?_
  have h29:=lo h10 hx6
  exact fl h29
 rintro a2 w2 ⟨b2,rfl,⟨M2,q2_0,q2_1,st2⟩⟩
 have h30:=jn k2
 refine st2.held (λ _=>True) zJ (λ _ st31=>?_)
 refine st31.tN 0 0 trivial (λ _ st32=>?_)
 refine st32.hdA 0 0 ((PV.root.box rfl).fld owGModR.f5) [] (λ g33 A33 _ hA33 st33=>?_)
 refine st33.drnE (D:=[_,_,_,_,_,_,_,_,_]) 9 [0] [[(0,nS)],[(0,nS)],[(35,1)],[(36,2)],[(37,3),(0,nS)],[(1,nS)],[(5,nS)],[(39,5),(40,6)],[(41,7)],[(38,4),(42,8)],[(34,0)],[(44,10)],[(45,11),(43,9)]] (by decide +kernel) (by decide) (by decide +kernel) (by decide +kernel) (
  rc rfl rfl (oM rfl (zR rfl))<|rc rfl rfl (oM rfl (zR rfl))<|rc rfl rfl (xNc rfl (tp rfl))<|rc rfl rfl (xFa rfl zbV (tp rfl))<|rc rfl rfl (xLc (sb:=0) (.head _) rfl rfl rfl kT96 (tp rfl) rfl)<|rc rfl rfl (oM rfl (tp rfl))<|rc rfl rfl (zr rfl kT154 (tp rfl))<|rc rfl rfl (kD189_0_1 rfl (tp rfl) (tp rfl))<|rc rfl rfl (yq (opds:=[.tmp 41]) rfl kS96 kY96 rfl rfl (by decide) (.cons (tp rfl) .nil))<|.nil) (by
 intro i hi x d hx
 simp only[List.mem_cons,List.not_mem_nil,or_false] at hi
 rcases hi with rfl
 all_goals (injection hx with hx;injection hx with h1 h2;subst h1;subst h2;rfl)) [34,38,42] rfl [(0,0)] rfl iT (λ _ _ st34=>?_)
 refine st34.mvG (s:=38) (sb:=0) 0 1 ((PV.root.box rfl).fld owGModR.f5) (.head _) rfl (wi rfl rfl) rfl (by simp) (by simp) (by decide) rfl iI [34,42] rfl [] rfl rfl rfl rfl (λ _ H36 st36=>?_)
 refine st36.tipR (s:=38) 1 rfl rfl (by simp) iI [0] rfl rfl (λ g37 st37=>?_)
 obtain⟨v39,p39,h40⟩:=bs h30
 refine st37.apA 1 yS p39 [34] [0] (λ g38 _ _ _ st38=>?_)
 refine st38.segC 2 [45] [(0,0),(43,1)] (λ _ _ st41=>?_)
 have st43:=st41.tipW (s:=43) 1 rfl rfl iI [0] rfl
 refine st43.shA 0 43 0 1 (tp rfl) [] [] (λ _ _ st42=>wpList_nil ?_)
 exact(st42.rs0 (s:=0) 0 rfl rfl iI (bx1 h40)).2
def wI(x0:Machine)(x1:Int):Option (Machine×Int):=
(atI x0.modules x1).bind λ _v3=>
(x0.modules[x1.toNat]?).bind λ v8=>
(yD x0 (3:Int) v8.x.name).bind λ v12=>
Option.bind (α:=Machine) ((v12.modules[x1.toNat]?).bind λ v15=>
(gO ((!v15.x.done) == true) (v12.modules[x1.toNat]?)).bind λ v17=>
(gO ((!v15.x.done) == true) (zU v12.part v17.x.name)).bind λ v18=>
if((!v15.x.done)&&(!v18))=true then((v12.modules[x1.toNat]?).bind λ v29=>
(appO 16 v12.part ([v29.x.name]:List Str)).bind λ v36=>
some ({ v12 with part:=v36 }))
else(some v12)) λ o14=>
some (o14,x1)
theorem Wn{ps:List (Nat×Nat)}{x0:Machine}{x1:Int}{r:Machine×Int}(h:wI x0 x1=some r):FnS prog 119 (oMac ps) ⟨x0⟩ [dt x1] ⟨r.1⟩ (.frz (dt r.2)):=by
 unfold wI at h
 refine fnSB (fn:=f119) 0 2 func119 rfl (oD rfl) rfl (λ M G w0 b0 _ st0=>?_)
 refine st0.sqA [1] [(0,0)] (λ _ _ st1=>?_)
 obtain⟨v3,p3,h5⟩:=bs h
 refine st1.hdF (s:=0) 0 true (λ _=>((PV.root.box rfl).fld owMachine.f4)) rfl rfl iI [] rfl (λ g2 A2 _ hA2 st2=>?_)
 refine st2.mintP (s:=0) 0 rfl rfl iI (Zu (owMachine.impE4 (ZU (zA (yt p3).2)))) [] rfl (λ b4 st4=>?_)
 refine st4.sqB (sP 5 (r:=by exact sc rfl (xIa (g:=g2) rfl kS92 (tp rfl) (tp rfl) rfl (λ h=>hA2 h rfl) p3)<|sc rfl (xLdP (sb:=0) ((PV.root.box rfl).fld owMachine.f4) (.head _) rfl (λ h=>hA2 h rfl) (.head _) (yt p3).2 (Nat.mul_one _) rfl kT95 (tp rfl) rfl)<|segC)) [1,5] [(0,0)] (λ _ _ st6=>?_)
 have st7:=st6.ncf (s:=0) 0 rfl rfl iI [] rfl
 refine wp_seq (wp_region_list ?_)
 obtain⟨v8,p8,h9⟩:=bs h5
 refine st7.segB 5 (sP 4 (r:=by exact sc rfl (xLf (sb:=0) ((((PV.root.box rfl).fld owMachine.f4).rowP (.head _) p8).fld owGModR.f0) rfl kT9 (tp rfl) rfl)<|.nil)) [1,5,13,17] [(0,0)] (λ _ _ st10=>?_)
 obtain⟨v12,p12,h13⟩:=bs h9
 refine st10.cNA 0 0 (FnS.any (jZ p12)) [1,5] [] (λ _ _ _ _ st11=>wpList_nil (za ?_))
 obtain⟨o14,p14,k14⟩:=bs h13
 refine zi (λ a w=>∃ M1 q14_0 q14_1,Sx (Frm.chg w0 G) 50 M M1 [q14_0,q14_1] [(1,dt x1)] [(0,0,dnm (oMac ((x1.toNat,b4)::ps)) q14_0 ⟨o14⟩ (.pointer (some ⟨b0,0,none⟩)) [])] a w) ?_ ?_
 ·
  refine wp_seq ?_
  obtain⟨v15,p15,v17,p17,v18,p18,h21⟩:=bsC p14
  refine st11.hdR (s:=0) 0 ((!v15.x.done) == true) (λ hg=>((PV.root.box rfl).fld owMachine.f7)) rfl rfl iI [] rfl (λ g16 A16 _ hA16 st16=>?_)
  refine st16.drA (D:=[_,_,_,_,_,_,_,_,_,_,_,_,_,_,_,_,_]) zJ [[(5,nS)],[(19,0)],[(20,1),(0,nS)],[(21,2),(0,nS)],[(22,3)],[(23,4)],[(0,nS),(24,5)],[(25,6),(24,5)],[(26,7),(24,5)],[(27,8),(24,5),(0,nS)],[(5,nS),(24,5)],[(29,10),(24,5)],[(30,11),(24,5),(0,nS)],[(31,12),(24,5),(0,nS)],[(28,9),(32,13),(24,5),(0,nS)],[(33,14),(24,5)],[(24,5),(34,15)]] [1,5,35] [(0,0)] (λ _ _ st22=>?_) (hs:=rc rfl rfl (oM rfl (tp rfl))<|rc rfl rfl (xNc rfl (tp rfl))<|rc rfl rfl (xFa rfl kF98_4 (tp rfl))<|rc rfl rfl (xLf (sb:=0) ((((PV.root.box rfl).fld owMachine.f4).rowP (.head _) p15).fld owGModR.f4) rfl kT4 (tp rfl) rfl)<|rc rfl rfl (ZQ rfl (tp rfl))<|rc rfl rfl (oM rfl (tp rfl))<|rg rfl rfl rfl (λ hg=>oM rfl (zR rfl))<|rg rfl rfl rfl (λ hg=>xNc rfl (zn hg rfl))<|rg rfl rfl rfl (λ hg=>xFa rfl kF94_7 (zn hg rfl))<|rg rfl rfl rfl (λ hg=>xLc (sb:=0) (.head _) hg rfl rfl kT29 (zn hg rfl) rfl)<|rg rfl rfl rfl (λ hg=>oM rfl (tp rfl))<|rg rfl rfl rfl (λ hg=>xNc rfl (zn hg rfl))<|rg rfl rfl rfl (λ hg=>xFa rfl zbU (zn hg rfl))<|rg rfl rfl rfl (λ hg=>xLf (sb:=0) ((((PV.root.box rfl).fld owMachine.f4).rowP (.head _) (gh hg p17)).fld owGModR.f0) rfl kT9 (zn hg rfl) rfl)<|rg rfl rfl rfl (λ hg=>we (l:=[.tmp 28,.tmp 32]) st16.ob.sub rfl kN104 (.cons (lendP (sb:=0) st16.ob 0 ((PV.root.box rfl).fld owMachine.f7) (.head _) hg (wi rfl rfl) (zn hg rfl) rfl iI) (.cons (jU st16.ob.sub (zn hg rfl)) .nil)) (wy (gh hg p18)) qn)<|rg rfl rfl rfl (λ hg=>ZQ rfl (zn hg rfl))<|rc rfl rfl (xe rfl (tp rfl) (zb rfl))<|.nil)
  have st23:=st22.ncf (s:=0) 0 rfl rfl iI [] rfl
  refine za ?_
  refine st23.cs rfl h21 (λ _ h24=>?_) (λ _ h25=>?_)
  ·
   refine st23.held (λ _=>True) zJ (λ _ st26=>?_)
   refine st26.tN 0 0 trivial (λ _ st27=>?_)
   obtain⟨v29,p29,h30⟩:=bs h24
   refine st27.hdA 0 0 ((PV.root.box rfl).fld owMachine.f7) [] (λ g28 A28 _ hA28 st28=>?_)
   refine st28.drnE (D:=[_,_,_,_,_,_,_,_,_,_]) 10 [0] [[(0,nS)],[(0,nS)],[(37,1)],[(38,2)],[(39,3),(0,nS)],[(5,nS)],[(41,5)],[(42,6),(0,nS)],[(43,7),(0,nS)],[(44,8)],[(40,4),(45,9)],[(36,0)],[(47,11)],[(48,12),(46,10)]] (by decide +kernel) (by decide) (by decide +kernel) (by decide +kernel) (
    rc rfl rfl (oM rfl (zR rfl))<|rc rfl rfl (oM rfl (zR rfl))<|rc rfl rfl (xNc rfl (tp rfl))<|rc rfl rfl (xFa rfl kF94_7 (tp rfl))<|rc rfl rfl (xLc (sb:=0) (.head _) rfl rfl rfl kT29 (tp rfl) rfl)<|rc rfl rfl (oM rfl (tp rfl))<|rc rfl rfl (xNc rfl (tp rfl))<|rc rfl rfl (xFa rfl zbU (tp rfl))<|rc rfl rfl (xLf (sb:=0) ((((PV.root.box rfl).fld owMachine.f4).rowP (.head _) p29).fld owGModR.f0) rfl kT9 (tp rfl) rfl)<|rc rfl rfl (yq (opds:=[.tmp 44]) rfl kS29 kY29 rfl rfl (by decide) (.cons (tp rfl) .nil))<|.nil) (by
 intro i hi x d hx
 simp only[List.mem_cons,List.not_mem_nil,or_false] at hi
 rcases hi with rfl
 all_goals (injection hx with hx;injection hx with h1 h2;subst h1;subst h2;rfl)) [1,36,40,45] rfl [(0,0)] rfl iT (λ _ _ st31=>?_)
   refine st31.mvG (s:=40) (sb:=0) 0 1 ((PV.root.box rfl).fld owMachine.f7) (.head _) rfl (wi rfl rfl) rfl (by simp) (by simp) (by decide) rfl iI [1,36,45] rfl [] rfl rfl rfl rfl (λ _ H33 st33=>?_)
   refine st33.tipR (s:=40) 1 rfl rfl (by simp) iI [0] rfl rfl (λ g34 st34=>?_)
   obtain⟨v36,p36,h37⟩:=bs h30
   refine st34.apA 1 yS p36 [1,36] [0] (λ g35 _ _ _ st35=>?_)
   refine st35.segC 2 [1,48] [(0,0),(46,1)] (λ _ _ st38=>?_)
   have st40:=st38.tipW (s:=46) 1 rfl rfl iI [0] rfl
   refine st40.shA 0 46 0 1 (tp rfl) [1] [] (λ _ _ st39=>wpList_nil (za ?_))
   cases h37
   exact fx
  refine wp_skip (za ?_)
  cases h25
  exact fx
 rintro a14 w14 ⟨M14,q14_0,q14_1,st14⟩
 have h41:=k14
 refine st14.sqA [4] [(0,0)] (λ _ _ st42=>wp_ret ?_)
 have st43:=st42.asA 0 0 (xO (owMachine.imp4 (xb (λ _ h=>(.tail _ h))))) []
 exact st43.rsF (s:=0) 0 rfl rfl rfl iI (bxr h41) y9
def yR(x0:Machine)(x1:Str):Option (Machine×Spec):=
(yK x1).bind λ v3=>
if(decide (v3=(⟨[]⟩:Str)))=true then((Zw x0.t x0.path (⟨[]⟩:Str) x1).bind λ v9=>
some (x0,v9))
else((zW x0 v3).bind λ v14=>
(gO (cmpI .lss v14 (0:Int) == false) (atI x0.modules v14)).bind λ _v18=>
(gO (cmpI .lss v14 (0:Int) == false) (x0.modules[v14.toNat]?)).bind λ v20=>
if(cmpI .lss v14 (0:Int)||cmpI .eql v20.x.kind (1:Int))=true then((wR).bind λ v27=>
some (x0,v27))
else((atI x0.modules v14).bind λ _v34=>
(x0.modules[v14.toNat]?).bind λ v36=>
(jr x1).bind λ v37=>
(Zw x0.t v36.x.roots v3 v37).bind λ v38=>
some (x0,v38)))
theorem XR{ps:List (Nat×Nat)}{x0:Machine}{x1:Str}{r:Machine×Spec}(h:yR x0 x1=some r):FnS prog 120 (oMac ps) ⟨x0⟩ [dt x1] ⟨r.1⟩ (.frz (dt r.2)):=by
 unfold yR at h
 refine fnSB (fn:=f120) 0 2 func120 rfl (oD rfl) rfl (λ M G _ b0 _ st0=>wp_seq (wp_region_list ?_))
 refine st0.alA 1 JX [1] [0] (λ b2 _ _ _ st2=>wpList_nil (za ?_))
 obtain⟨v3,p3,h4⟩:=bsW h qY
 refine st2.sqA [1,5] [(0,0),(4,1)] (λ _ _ st5=>wp_seq ?_)
 refine st5.sqA [1,5,10] [(0,0),(4,1)] (λ _ _ st6=>?_)
 refine st6.cs rfl h4 (λ _ h7=>wp_seq ?_) (λ _ h8=>wp_skip (za ?_))
 ·
  obtain⟨v9,p9,h10⟩:=bs h7
  refine st6.drnA (D:=[_,_,_,_,_,_,_,_,_,_,_,_,_,_]) zJ 14 [[(0,nS)],[(11,0)],[(12,1)],[(13,2),(0,nS)],[(0,nS)],[(15,4)],[(16,5)],[(17,6),(0,nS)],[(1,nS)],[(0,nS)],[(20,9)],[(21,10)],[(22,11),(0,nS)],[(14,3),(18,7),(19,8),(23,12)],[(4,nS),(24,13)]] [24] [(0,0),(4,1)] (λ _ _ st11=>?_) (hs:=rc rfl rfl (oM rfl (zR rfl))<|rc rfl rfl (xNc rfl (tp rfl))<|rc rfl rfl (xFa rfl kF94_0 (tp rfl))<|rc rfl rfl (xLf (sb:=0) ((PV.root.box rfl).fld owMachine.f0) rfl kT25 (tp rfl) rfl)<|rc rfl rfl (oM rfl (zR rfl))<|rc rfl rfl (xNc rfl (tp rfl))<|rc rfl rfl (xFa rfl kF94_1 (tp rfl))<|rc rfl rfl (xLf (sb:=0) ((PV.root.box rfl).fld owMachine.f1) rfl kT26 (tp rfl) rfl)<|rc rfl rfl (oM rfl (tp rfl))<|rc rfl rfl (oM rfl (zR rfl))<|rc rfl rfl (xNc rfl (tp rfl))<|rc rfl rfl (xFa rfl kF94_2 (tp rfl))<|rc rfl rfl (OpRel.nilf (xLf (sb:=0) ((PV.root.box rfl).fld owMachine.f2) rfl kT90 (tp rfl) rfl))<|rc rfl rfl (zB (l:=[.tmp 14,.tmp 18,_,.tmp 19,.tmp 23]) rfl kN144 (.cons (tp rfl) (.cons (tp rfl) (.cons (zN (by decide)) (.cons (tp rfl) (.cons (tp rfl) .nil))))) (J2 p9))<|.nil)
  refine st11.stA 4 1 FldS.id (tp rfl) [] [0] (λ _ _ st13=>wpList_nil (za ?_))
  refine wp_ret (ze ?_)
  exact st13.rsC (s:=0) 0 rfl kT71 rfl rfl iI (bxr h10)
 obtain⟨v14,p14,h15⟩:=bs h8
 refine st6.sqB (sP 2 (r:=by exact sc rfl (we (l:=[.tmp 25,.tmp 26]) st6.ob.sub rfl kN118 (.cons (lendA (sb:=0) st6.ob 0 (tp rfl) rfl iI) (.cons (jU st6.ob.sub (tp rfl)) .nil)) (xB p14) y9)<|segC)) [1,5,6] [(0,0),(4,1)] (λ _ _ st16=>wp_seq ?_)
 obtain⟨v18,p18,v20,p20,h22⟩:=bsB h15
 refine st16.hdF (s:=0) 0 (cmpI .lss v14 (0:Int) == false) (λ hg=>((PV.root.box rfl).fld owMachine.f4)) rfl rfl iI [4] rfl (λ g17 A17 _ hA17 st17=>?_)
 refine st17.mintP (s:=0) 0 rfl rfl iI (Zu (owMachine.impE4 (impE_pinI (c:=(cmpI .lss v14 (0:Int) == false)) (λ hg=>zA (yt (gh hg p18)).2)))) [4] rfl (λ b19 st19=>?_)
 refine st19.sqB (sc rfl (oM rfl (tp rfl))<|sc rfl (oCI rfl (tp rfl) cI)<|sc rfl (oM rfl (tp rfl))<|sg rfl rfl (λ hg=>oM rfl (zR rfl))<|sg rfl rfl (λ hg=>xNc rfl (zn hg rfl))<|sg rfl rfl (λ hg=>xFa rfl Jn (zn hg rfl))<|sg rfl rfl (λ hg=>xLc (sb:=0) (.head _) hg rfl rfl kT92 (zn hg rfl) rfl)<|sg rfl rfl (λ hg=>oM rfl (tp rfl))<|sg rfl rfl (λ hg=>xIa (g:=g17) rfl kS92 (zn hg rfl) (zn hg rfl) rfl (λ h=>hA17 h hg) (gh hg p18))<|sg rfl rfl (λ hg=>xLdP (sb:=0) ((PV.root.box rfl).fld owMachine.f4) (.head _) hg (λ h=>hA17 h hg) (pinI_at hg) (yt (gh hg p18)).2 (Nat.mul_one _) rfl kT95 (zn hg rfl) rfl)<|sg rfl rfl (λ hg=>xNc rfl (zn hg rfl))<|sg rfl rfl (λ hg=>xFa rfl kF98_1 (zn hg rfl))<|sg rfl rfl (λ hg=>xLf (sb:=0) ((((PV.root.box rfl).fld owMachine.f4).rowP (pinI_at hg) (gh hg p20)).fld owGModR.f1) rfl kT3 (zn hg rfl) rfl)<|sg rfl rfl (λ hg=>oCI rfl (zn hg rfl) cI)<|sc rfl (ZO rfl (tp rfl) (zb rfl))<|.nil) [1,5,6,42] [(0,0),(4,1)] (λ _ _ st23=>?_)
 have st24:=st23.ncf (s:=0) 0 rfl rfl iI [4] rfl
 refine st24.cs rfl h22 (λ _ h25=>wp_seq (wp_region_list ?_)) (λ _ h26=>wp_skip (za (wp_seq ?_)))
 ·
  obtain⟨v27,p27,h28⟩:=bsW h25 Zv
  refine st24.segA 1 [43] [(0,0),(4,1)] (λ _ _ st29=>?_)
  refine st29.stA 4 1 FldS.id (tp rfl) [] [0] (λ _ _ st31=>wpList_nil (za ?_))
  refine wp_ret (ze ?_)
  have st32:=st31.asA 0 0 (xO (owMachine.imp4 (xb (λ _ h=>(pinI_of h))))) [4]
  exact st32.rsC (s:=0) 0 rfl kT71 rfl rfl iI (bxr h28)
 obtain⟨v34,p34,v36,p36,v37,p37,v38,p38,h42⟩:=bsD h26
 refine st24.hdF (s:=0) 0 true (λ _=>((PV.root.box rfl).fld owMachine.f4)) rfl rfl iI [4] rfl (λ g33 A33 _ hA33 st33=>?_)
 refine st33.mintP (s:=0) 0 rfl rfl iI (Zu (owMachine.impE4 (ZU (zA (yt p34).2)))) [4] rfl (λ b35 st35=>?_)
 refine st35.drnA (D:=[_,_,_,_,_,_,_,_,_,_,_,_,_,_,_,_,_,_,_,_,_,_]) zJ 22 [[(0,nS)],[(44,0)],[(45,1)],[(46,2),(0,nS)],[(0,nS)],[(48,4)],[(49,5)],[(50,6),(0,nS)],[(6,nS)],[(51,7),(52,8)],[(53,9),(0,nS)],[(54,10)],[(55,11),(0,nS)],[(56,12),(0,nS)],[(5,nS)],[(1,nS)],[(59,15)],[(0,nS)],[(61,17)],[(62,18)],[(63,19),(0,nS)],[(47,3),(57,13),(58,14),(60,16),(64,20)],[(4,nS),(65,21)]] [65] [(0,0),(4,1)] (λ _ _ st43=>?_) (hs:=rc rfl rfl (oM rfl (zR rfl))<|rc rfl rfl (xNc rfl (tp rfl))<|rc rfl rfl (xFa rfl kF94_0 (tp rfl))<|rc rfl rfl (xLf (sb:=0) ((PV.root.box rfl).fld owMachine.f0) rfl kT25 (tp rfl) rfl)<|rc rfl rfl (oM rfl (zR rfl))<|rc rfl rfl (xNc rfl (tp rfl))<|rc rfl rfl (xFa rfl Jn (tp rfl))<|rc rfl rfl (xLc (sb:=0) (.head _) rfl rfl rfl kT92 (tp rfl) rfl)<|rc rfl rfl (oM rfl (tp rfl))<|rc rfl rfl (xIa (g:=g33) rfl kS92 (tp rfl) (tp rfl) rfl (λ h=>hA33 h rfl) p34)<|rc rfl rfl (xLdP (sb:=0) ((PV.root.box rfl).fld owMachine.f4) (.head _) rfl (λ h=>hA33 h rfl) (.head _) (yt p34).2 (Nat.mul_one _) rfl kT95 (tp rfl) rfl)<|rc rfl rfl (xNc rfl (tp rfl))<|rc rfl rfl (xFa rfl kF98_2 (tp rfl))<|rc rfl rfl (xLf (sb:=0) ((((PV.root.box rfl).fld owMachine.f4).rowP (.head _) p36).fld owGModR.f2) rfl kT26 (tp rfl) rfl)<|rc rfl rfl (oM rfl (tp rfl))<|rc rfl rfl (oM rfl (tp rfl))<|rc rfl rfl (zB (l:=[.tmp 59]) rfl kN123 (.cons (tp rfl) .nil) (QW p37))<|rc rfl rfl (oM rfl (zR rfl))<|rc rfl rfl (xNc rfl (tp rfl))<|rc rfl rfl (xFa rfl kF94_2 (tp rfl))<|rc rfl rfl (OpRel.nilf (xLf (sb:=0) ((PV.root.box rfl).fld owMachine.f2) rfl kT90 (tp rfl) rfl))<|rc rfl rfl (zB (l:=[.tmp 47,.tmp 57,.tmp 58,.tmp 60,.tmp 64]) rfl kN144 (.cons (tp rfl) (.cons (tp rfl) (.cons (tp rfl) (.cons (tp rfl) (.cons (tp rfl) .nil))))) (J2 p38))<|.nil)
 refine st43.stA 4 1 FldS.id (tp rfl) [] [0] (λ _ _ st45=>wpList_nil ?_)
 have st46:=st45.ncf (s:=0) 0 rfl rfl iI [4] rfl
 refine za (wp_ret ?_)
 have st47:=st46.asA 0 0 (xO (owMachine.imp4 (xb (λ _ h=>(.tail _ (pinI_of h)))))) [4]
 exact st47.rsC (s:=0) 0 rfl kT71 rfl rfl iI (bxr h42)
end Go.Proofs.YtpmkkijamfgaeaaGreatDoor
