import Derived.Test.YtdoidiipacdbpaaGreatDoorRD
import Derived.Test.YtdoidiipacdbpaaGreatDoorRFb
import Derived.Test.YtdoidiipacdbpaaGreatDoorRB
import Derived.Test.YtdoidiipacdbpaaGreatDoorRO
import Derived.Test.YtdoidiipacdbpaaGreatDoorRG
import Derived.Test.YtdoidiipacdbpaaGreatDoorRQ
import Derived.Test.YtdoidiipacdbpaaGreatDoorRC
namespace Go.Proofs.YtdoidiipacdbpaaGreatDoor
open Go.RowKit Tryz
instance (s:Str):Decidable (mid s):=by unfold mid;infer_instance
instance (s:Stmt):Decidable (smStmt s):=by unfold smStmt;infer_instance
instance (f:File):Decidable (smFile f):=by unfold smFile;infer_instance
instance (t:Tree):Decidable (xc t):=by unfold xc;infer_instance
def y7(t:Tree):Option Bool:=if xc t then some (zR t) else none
theorem ZD{t:Tree}{r:Bool}(h:y7 t=some r):Fn prog 93 [dt t] (dt r):=by
 unfold y7 at h
 split at h
 ·
  rename_i hc
  injection h with h
  subst h
  exact QV _ hc
 ·
  cases h
def qj(s:Str):Option Bool:=if mid s then some (zy s) else none
theorem JN{s:Str}{r:Bool}(h:qj s=some r):Fn prog 131 [dt s] (dt r):=by
 unfold qj at h
 split at h
 ·
  rename_i hc
  injection h with h
  subst h
  exact Zp _ hc
 ·
  cases h
def ZE(s:Str):Option Bool:=if mid s then some (zF s) else none
theorem zaK{s:Str}{r:Bool}(h:ZE s=some r):Fn prog 50 [dt s] (dt r):=by
 unfold ZE at h
 split at h
 ·
  rename_i hc
  injection h with h
  subst h
  exact jY _ hc
 ·
  cases h
def Xi(s:Str)(p:Str):Option Bool:=if p.l.length<=1152921504606846976 then some (under s p) else none
theorem spec_under_w{s:Str}{p:Str}{r:Bool}(h:Xi s p=some r):Fn prog 126 [dt s,dt p] (dt r):=by
 unfold Xi at h
 split at h
 ·
  rename_i hc
  injection h with h
  subst h
  exact JX _ _ hc
 ·
  cases h
def qx(s:Str)(c:UInt8):Option (List Str):=if mid s then some (zu s c) else none
theorem Jm{s:Str}{c:UInt8}{r:List Str}(h:qx s c=some r):Fn prog 95 [dt s,dt c] (dt r):=by
 unfold qx at h
 split at h
 ·
  rename_i hc
  injection h with h
  subst h
  exact Y8 _ _ hc
 ·
  cases h
def Zg(l:List Str)(s:Str):Option (List Str):=if l.length<=8796093022200 then some (wo l s) else none
theorem Q4{l:List Str}{s:Str}{r:List Str}(h:Zg l s=some r):Qg prog 128 9 l [dt s] r:=by
 unfold Zg at h
 split at h
 ·
  rename_i hc
  injection h with h
  subst h
  exact Ql _ _ hc
 ·
  cases h
def ZF(p:List Int):Option Bool:=if True then some (ym p) else none
theorem zaL{p:List Int}{r:Bool}(h:ZF p=some r):Fn prog 49 [dt p] (dt r):=by
 unfold ZF at h
 split at h
 ·
  rename_i hc
  injection h with h
  subst h
  exact QU _
 ·
  cases h
def Yj(s:Str):Option (List Str):=if mid s then some (above s) else none
theorem spec_above_w{s:Str}{r:List Str}(h:Yj s=some r):Fn prog 202 [dt s] (dt r):=by
 unfold Yj at h
 split at h
 ·
  rename_i hc
  injection h with h
  subst h
  exact spec_above_ok _ hc
 ·
  cases h
def XL(l:List Str):Option Str:=if ww l<=1152921504606846976 then some (join l) else none
theorem Z9{l:List Str}{r:Str}(h:XL l=some r):Fn prog 98 [dt l] (dt r):=by
 unfold XL at h
 split at h
 ·
  rename_i hc
  injection h with h
  subst h
  exact QQ _ hc
 ·
  cases h
def Yk(p:Str)(s:Str):Option Str:=if p.l.length+s.l.length<=1152921504606846976 then some (child p s) else none
theorem Q5{p:Str}{s:Str}{r:Str}(h:Yk p s=some r):Fn prog 115 [dt p,dt s] (dt r):=by
 unfold Yk at h
 split at h
 ·
  rename_i hc
  injection h with h
  subst h
  exact XZ _ _ hc
 ·
  cases h
def jZ(f:File):Option Str:=if smFile f then some (xT f) else none
theorem XM{f:File}{r:Str}(h:jZ f=some r):Fn prog 71 [dt f] (dt r):=by
 unfold jZ at h
 split at h
 ·
  rename_i hc
  injection h with h
  subst h
  exact Qk _ hc
 ·
  cases h
def ZT(t:Tree)(f:File):Option Int:=if True then some (yh t.files f) else none
theorem J1{t:Tree}{f:File}{r:Int}(h:ZT t f=some r):Fn prog 133 [dt t,dt f] (dt r):=by
 unfold ZT at h
 split at h
 ·
  rename_i hc
  injection h with h
  subst h
  exact Je _ _
 ·
  cases h
def Za  : Option Spec:=if True then some (Yf) else none
theorem X0 {r:Spec}(h:Za  = some r):Fn prog 51 [] (dt r):=by
 unfold Za at h
 split at h
 ·
  rename_i hc
  injection h with h
  subst h
  exact zbz
 ·
  cases h
def YU(t:Tree)(n:Int)(p:Str):Option Bool:=if p.l.length<=1152921504606846976 then some (qe t.files n p) else none
theorem spec_hasDir_w{t:Tree}{n:Int}{p:Str}{r:Bool}(h:YU t n p=some r):Fn prog 136 [dt t,dt n,dt p] (dt r):=by
 unfold YU at h
 split at h
 ·
  rename_i hc
  injection h with h
  subst h
  exact zbA _ _ _ hc
 ·
  cases h
open Go.RowKit Tryz
attribute [local irreducible] OpRel OpdR
set_option maxRecDepth 10000
set_option maxHeartbeats 1600000
theorem kT75:tyB prog 75 false 1=true:=by kernel_rfl
theorem kE41:elB prog 41 72 6 80=true:=by kernel_rfl
theorem kZ43:wt prog 43=some zaC:=by kernel_rfl
theorem kZ77:wt prog 77=some zcDir:=by kernel_rfl
theorem YF:fldB prog 77 0 0=true:=by kernel_rfl
theorem YG:fldB prog 77 1 1=true:=by kernel_rfl
theorem Xb:fldB prog 77 2 2=true:=by kernel_rfl
theorem YH:fldB prog 77 3 3=true:=by kernel_rfl
theorem kT77:tyB prog 77 true 4=true:=by kernel_rfl
theorem kE33:elB prog 33 77 4 56=true:=by kernel_rfl
theorem kS33:slB prog 33 4=true:=by kernel_rfl
theorem kZ35:wt prog 35=some zcFinder:=by kernel_rfl
theorem jE:fldB prog 35 0 0=true:=by kernel_rfl
theorem kT33:tyB prog 33 false 1=true:=by kernel_rfl
theorem WE:fldB prog 35 1 1=true:=by kernel_rfl
theorem Qo:fldB prog 35 2 2=true:=by kernel_rfl
theorem kT35:tyB prog 35 true 3=true:=by kernel_rfl
theorem kZ45:wt prog 45=some zcDisk:=by kernel_rfl
theorem Yl:fldB prog 45 0 0=true:=by kernel_rfl
theorem zaM:fldB prog 45 1 1=true:=by kernel_rfl
theorem Jn:fldB prog 45 2 2=true:=by kernel_rfl
theorem kT45:tyB prog 45 true 3=true:=by kernel_rfl
theorem kL33:isSl prog 33=true:=by kernel_rfl
theorem kF37_1:fldB prog 37 1 1=true:=by kernel_rfl
theorem kS57:slB prog 57 1=true:=by kernel_rfl
instance iF35_1FcA:FldO prog 35 1 1:=⟨WE⟩
instance iF35_2FcA:FldO prog 35 2 2:=⟨Qo⟩
instance iF45_1FcA:FldO prog 45 1 1:=⟨zaM⟩
instance iF72_0FcA:FldO prog 72 0 0:=⟨kF72_0⟩
instance iF72_1FcA:FldO prog 72 1 1:=⟨Jf⟩
instance iF72_2FcA:FldO prog 72 2 2:=⟨kF72_2⟩
instance iF72_3FcA:FldO prog 72 3 3:=⟨kF72_3⟩
instance iF72_4FcA:FldO prog 72 4 4:=⟨kF72_4⟩
instance iF77_0FcA:FldO prog 77 0 0:=⟨YF⟩
instance iF77_1FcA:FldO prog 77 1 1:=⟨YG⟩
instance iF77_2FcA:FldO prog 77 2 2:=⟨Xb⟩
open Go.RowKit Tryz
set_option maxRecDepth 10000
set_option maxHeartbeats 1600000
theorem kN143:fnB prog 143=true:=by kernel_rfl
theorem kN105:fnB prog 105=true:=by kernel_rfl
theorem kN122:fnB prog 122=true:=by kernel_rfl
theorem kN123:fnB prog 123=true:=by kernel_rfl
theorem kN79:fnB prog 79=true:=by kernel_rfl
theorem kN81:fnB prog 81=true:=by kernel_rfl
theorem kB77:bldB prog 77 [1,1,1,1]=true:=by kernel_rfl
theorem kC77:Yz prog 77 [1,1,1,1]=some zpDir:=by kernel_rfl
theorem Q6:∀ {M:Nat->Prop} {look:Nat->Option Dt} {o:Oper} {q0 q1 q2 q3:Operand} {y0:Int} {y1:Str} {y2:Int} {y3:List Str},o.op=.build 77 #[(0,q0),(1,q1),(2,q2),(3,q3)]->OpdR M look q0 (dt y0)->OpdR M look q1 (dt y1)->OpdR M look q2 (dt y2)->OpdR M look q3 (dt y3)->OpRel prog M look o (dt (⟨y0,y1,y2,y3⟩:Dir)):=@λ _ _ _ q0 q1 q2 q3 y0 y1 y2 y3 ho h0 h1 h2 h3=>yw (parts:=[(0,q0),(1,q1),(2,q2),(3,q3)]) (ns:=[1,1,1,1]) (zs:=zpDir) rfl ho kB77 kC77 (λ w a hl=>by
 intro p hp;simp only[List.mem_cons,List.not_mem_nil,or_false] at hp
 rcases hp with rfl | rfl | rfl | rfl
 ·
  exact⟨(by decide:0<4),Rep.len (α:=Int) (OpdR.cells h0 hl)⟩
 ·
  exact⟨(by decide:1<4),Rep.len (α:=Str) (OpdR.cells h1 hl)⟩
 ·
  exact⟨(by decide:2<4),Rep.len (α:=Int) (OpdR.cells h2 hl)⟩
 ·
  exact⟨(by decide:3<4),Rep.len (α:=List Str) (OpdR.cells h3 hl)⟩) (λ w a hl=>Dir.parts (x:=(⟨y0,y1,y2,y3⟩:Dir)) (OpdR.cells h0 hl) (OpdR.cells h1 hl) (OpdR.cells h2 hl) (OpdR.cells h3 hl))
theorem kY33:zlB prog 33=true:=by kernel_rfl
theorem kN60:fnB prog 60=true:=by kernel_rfl
theorem kN59:fnB prog 59=true:=by kernel_rfl
theorem zbF:∀ {M:Nat->Prop} {look:Nat->Option Dt} {o:Oper} {q0 q1 q3:Operand} {y0:Int} {y1:Str} {y3:Bool},o.op=.build 72 #[(0,q0),(1,q1),(3,q3)]->OpdR M look q0 (dt y0)->OpdR M look q1 (dt y1)->OpdR M look q3 (dt y3)->OpRel prog M look o (dt (⟨y0,y1,⟨[]⟩,y3,0,[]⟩:File)):=@λ _ _ _ q0 q1 q3 y0 y1 y3 ho h0 h1 h3=>yw (parts:=[(0,q0),(1,q1),(3,q3)]) (ns:=[1,1,1,1,1,1]) (zs:=zaB) rfl ho kB72 kC72 (λ w a hl=>by
 intro p hp;simp only[List.mem_cons,List.not_mem_nil,or_false] at hp
 rcases hp with rfl | rfl | rfl
 ·
  exact⟨(by decide:0<6),Rep.len (α:=Int) (OpdR.cells h0 hl)⟩
 ·
  exact⟨(by decide:1<6),Rep.len (α:=Str) (OpdR.cells h1 hl)⟩
 ·
  exact⟨(by decide:3<6),Rep.len (α:=Bool) (OpdR.cells h3 hl)⟩) (λ w a hl=>File.parts (x:=(⟨y0,y1,⟨[]⟩,y3,0,[]⟩:File)) (OpdR.cells h0 hl) (OpdR.cells h1 hl) qn (OpdR.cells h3 hl) ⟨rfl,trivial⟩ xI)
theorem Zq:∀ {M:Nat->Prop} {look:Nat->Option Dt} {o:Oper} {q0 q1 q2:Operand} {y0:Int} {y1:Int} {y2:List Int},o.op=.build 37 #[(0,q0),(1,q1),(2,q2)]->OpdR M look q0 (dt y0)->OpdR M look q1 (dt y1)->OpdR M look q2 (dt y2)->OpRel prog M look o (dt (⟨y0,y1,y2⟩:Spec)):=@λ _ _ _ q0 q1 q2 y0 y1 y2 ho h0 h1 h2=>yw (parts:=[(0,q0),(1,q1),(2,q2)]) (ns:=[1,1,1]) (zs:=Jd) rfl ho kB37 kC37 (λ w a hl=>by
 intro p hp;simp only[List.mem_cons,List.not_mem_nil,or_false] at hp
 rcases hp with rfl | rfl | rfl
 ·
  exact⟨(by decide:0<3),Rep.len (α:=Int) (OpdR.cells h0 hl)⟩
 ·
  exact⟨(by decide:1<3),Rep.len (α:=Int) (OpdR.cells h1 hl)⟩
 ·
  exact⟨(by decide:2<3),Rep.len (α:=List Int) (OpdR.cells h2 hl)⟩) (λ w a hl=>Spec.parts (x:=(⟨y0,y1,y2⟩:Spec)) (OpdR.cells h0 hl) (OpdR.cells h1 hl) (OpdR.cells h2 hl))
theorem zbG:∀ {M:Nat->Prop} {look:Nat->Option Dt} {o:Oper} {q0 q1 q2:Operand} {y0:Int} {y1:Str} {y2:Str},o.op=.build 72 #[(0,q0),(1,q1),(2,q2)]->OpdR M look q0 (dt y0)->OpdR M look q1 (dt y1)->OpdR M look q2 (dt y2)->OpRel prog M look o (dt (⟨y0,y1,y2,false,0,[]⟩:File)):=@λ _ _ _ q0 q1 q2 y0 y1 y2 ho h0 h1 h2=>yw (parts:=[(0,q0),(1,q1),(2,q2)]) (ns:=[1,1,1,1,1,1]) (zs:=zaB) rfl ho kB72 kC72 (λ w a hl=>by
 intro p hp;simp only[List.mem_cons,List.not_mem_nil,or_false] at hp
 rcases hp with rfl | rfl | rfl
 ·
  exact⟨(by decide:0<6),Rep.len (α:=Int) (OpdR.cells h0 hl)⟩
 ·
  exact⟨(by decide:1<6),Rep.len (α:=Str) (OpdR.cells h1 hl)⟩
 ·
  exact⟨(by decide:2<6),Rep.len (α:=Str) (OpdR.cells h2 hl)⟩) (λ w a hl=>File.parts (x:=(⟨y0,y1,y2,false,0,[]⟩:File)) (OpdR.cells h0 hl) (OpdR.cells h1 hl) (OpdR.cells h2 hl) ⟨rfl,trivial⟩ ⟨rfl,trivial⟩ xI)
theorem kI33:sliB prog 33 77 4=true:=by kernel_rfl
theorem kN102:fnB prog 102=true:=by kernel_rfl
theorem kB35:bldB prog 35 [1,1,1]=true:=by kernel_rfl
theorem kC35:Yz prog 35 [1,1,1]=some Xw:=by kernel_rfl
theorem kN28:fnB prog 28=true:=by kernel_rfl
theorem kN29:fnB prog 29=true:=by kernel_rfl
theorem kN57:fnB prog 57=true:=by kernel_rfl
theorem kN80:fnB prog 80=true:=by kernel_rfl
instance iF35_0FcB:FldO prog 35 0 0:=⟨jE⟩
instance iF35_1FcB:FldO prog 35 1 1:=⟨WE⟩
instance iF35_2FcB:FldO prog 35 2 2:=⟨Qo⟩
instance iF37_2FcB:FldO prog 37 2 2:=⟨kF37_2⟩
instance iF77_3FcB:FldO prog 77 3 3:=⟨YH⟩
def zW(x0:List Dir)(x1:(Dir->Option Bool))(s4:Int):Option (Int⊕(Unit⊕Int)):=
if(cmpI .lss s4 (x0.length:Int))=true then((atI x0 s4).bind λ v10=>
(x1 v10).bind λ v11=>
if v11=true then(some (.inr (.inr s4)))
else((i64 (s4+(1:Int))).bind λ v20=>
some (.inl v20)))
else(some (.inr (.inl ())))
def yI(x0:List Dir)(x1:(Dir->Option Bool)):Option Int:=
Option.bind (α:=Unit⊕Int) (zS (λ s4=>zW x0 x1 s4) (0:Int)) (Sum.elim (λ _b2=>
some (-1:Int)) some)
theorem ZN{x0:List Dir}{x1:(Dir->Option Bool)}{r:Int}(h:yI x0 x1=some r):Fn prog 142 [dt x0,dfn1 prog x1] (dt r):=by
 unfold yI at h
 refine fnx (fn:=f142) 0 func142 rfl (oD rfl) rfl (λ M w0 _ st0=>?_)
 refine st0.sq1 [0,1] (λ _ _ st1=>?_)
 obtain⟨o2,p2,k2⟩:=bs h
 refine zm (λ a w=>∃ b2,o2=.inl b2/\Sx (Frm.of w0) 19 M M [] [] [] a w) ?_ ?_
 ·
  refine st1.sq1 [0,1,7,8] (λ _ _ st3=>wp_block ?_)
  refine zL p2 (λ s4 a w=>Sx (Frm.of w0) 19 M M [] [(0,dt x0),(7,dt (x0.length:Int)),(8,dt s4),(1,dfn1 prog x1)] [] a w) (st3.sel0 [0,7,8,1] rfl) ?_
  rintro s4 z4 a4 w4 st4 hs4 hx4
  have h5:zW x0 x1 s4=some z4:=hs4
  unfold zW at h5
  refine st4.sq1 [0,1,7,8,9] (λ _ _ st6=>wp_seq ?_)
  refine st6.cs rfl h5 (λ _ h7=>wp_skip (za (wp_seq (wp_block ?_)))) (λ _ h8=>wp_exit (zh (zh (zE ?_))))
  ·
   refine st6.sq1 [0,1,5,7,8] (λ _ _ st9=>?_)
   obtain⟨v10,p10,v11,p11,h13⟩:=bsB h7
   refine st9.sq2 (sP 5 (r:=by exact sc rfl (xCaF1 rfl (tp rfl) (tp rfl) p11)<|.nil)) [0,1,5,7,8,16] (λ _ _ st14=>?_)
   refine st14.cs rfl h13 (λ _ h15=>?_) (λ _ h16=>wp_skip (zg (za ?_)))
   ·
    refine st14.sq1 [4] (λ _ _ st17=>wp_ret (zt (zd (zd (zt (zd ?_))))))
    have h18:=lo h15 hx4
    have h19:=jo h18 k2
    exact st17.ret rfl rfl h19
   obtain⟨v20,p20,h21⟩:=bs h16
   refine st14.rg1 [0,1,7,8] (λ _ _ st22=>za ?_)
   exact⟨_,(Option.some.inj h21).symm,st22.sel0 [0,7,8,1] rfl⟩
  refine za ?_
  have h23:=lo h8 hx4
  exact⟨_,(Option.some.inj h23).symm,st6.sel0 [] rfl⟩
 rintro a2 w2 ⟨b2,rfl,st2⟩
 have h24:=jn k2
 refine st2.sq1 [4] (λ _ _ st25=>wp_ret ?_)
 exact st25.ret rfl rfl h24
def Zr(x0:Dir)(x1:Int)(x2:Str):Option Bool:=
some (cmpI .eql x0.root x1&&decide (x0.pkg=x2))
theorem zbH{x0:Dir}{x1:Int}{x2:Str}{r:Bool}(h:Zr x0 x1 x2=some r):Fn prog 143 [dt x0,dptr x1,dptr x2] (dt r):=by
 unfold Zr at h
 refine fnx (fn:=f143) 0 func143 rfl (oD rfl) rfl (λ M _ _ st0=>?_)
 refine st0.sq1 [1,2,3] (λ _ _ st1=>?_)
 refine st1.sq3 [4] (λ _ _ st2=>wp_ret ?_)
 exact st2.ret rfl rfl h
def qP(x0:List Dir)(x1:Int)(x2:Str):Option Int:=
(yI x0 (λ a0=>Zr a0 x1 x2)).bind λ v2=>
some v2
theorem WF{x0:List Dir}{x1:Int}{x2:Str}{r:Int}(h:qP x0 x1 x2=some r):Fn prog 105 [dt x0,dt x1,dt x2] (dt r):=by
 unfold qP at h
 refine fnx (fn:=f105) 0 func105 rfl (oD rfl) rfl (λ M _ a0 st0=>?_)
 refine st0.sq1 [0,4,5] (λ _ _ st1=>?_)
 obtain⟨v2,p2,h3⟩:=bs h
 refine st1.sq2 (sP 1 (r:=by exact sc rfl (xMkF1 (l:=[.tmp 4,.tmp 5]) (g:=(λ a0=>Zr a0 x1 x2)) rfl kN143 (.cons (tp rfl) (.cons (tp rfl) .nil)) rfl (λ _ _ h=>zbH h))<|sc rfl (oK (ZN p2))<|segC)) [6] (λ _ _ st4=>wp_ret ?_)
 exact st4.ret rfl rfl h3
def ju(x0:List Dir)(x1:Int)(x2:Int)(s4:Int):Option (Int⊕(Unit⊕Bool)):=
if(cmpI .lss s4 (x0.length:Int))=true then((atI x0 s4).bind λ v9=>
(yx v9.root (0:Int) (2:Int)).bind λ v17=>
(gO ((!v17) == false) (yZ v9.pkg)).bind λ v18=>
(gO (((!v17)||(!v18)) == false) (yx v9.stamp (0:Int) x1)).bind λ v19=>
(gO (((((!v17)||(!v18))||(!v19))||cmpI .gtr (v9.names.length:Int) x2) == false) (ZQ x0 s4)).bind λ v20=>
(gO (((((!v17)||(!v18))||(!v19))||cmpI .gtr (v9.names.length:Int) x2) == false) (qP v20 v9.root v9.pkg)).bind λ v21=>
if(((((!v17)||(!v18))||(!v19))||cmpI .gtr (v9.names.length:Int) x2)||cmpI .geq v21 (0:Int))=true then(some (.inr (.inr false)))
else((i64 (s4+(1:Int))).bind λ v33=>
some (.inl v33)))
else(some (.inr (.inl ())))
def Zb(x0:List Dir)(x1:Int)(x2:Int):Option Bool:=
Option.bind (α:=Unit⊕Bool) (zS (λ s4=>ju x0 x1 x2 s4) (0:Int)) (Sum.elim (λ _b2=>
some (cmpI .leq (x0.length:Int) (20:Int))) some)
theorem J2{x0:List Dir}{x1:Int}{x2:Int}{r:Bool}(h:Zb x0 x1 x2=some r):Fn prog 73 [dt x0,dt x1,dt x2] (dt r):=by
 unfold Zb at h
 refine fnx (fn:=f73) 1 func73 rfl (oD rfl) rfl (λ M w0 _ st0=>?_)
 refine st0.sq1 [0,1,2] (λ _ _ st1=>?_)
 obtain⟨o2,p2,k2⟩:=bs h
 refine zm (λ a w=>∃ b2,o2=.inl b2/\(∃ M1 q2_0,Sx (Frm.of w0) 55 M M1 [oneB q2_0] [(0,dt x0)] [] a w)) ?_ ?_
 ·
  refine st1.sq1 [0,1,2,9,10,11] (λ _ _ st3=>wp_block ?_)
  refine zL p2 (λ s4 a w=>∃ M1 q4_0,Sx (Frm.of w0) 55 M M1 [oneB q4_0] [(0,dt x0),(1,dt x1),(2,dt x2),(9,dt x0),(10,dt (x0.length:Int)),(11,dt s4)] [] a w) fx ?_
  rintro s4 z4 a4 w4 ⟨M4,q4_0,st4⟩ hs4 hx4
  have h5:ju x0 x1 x2 s4=some z4:=hs4
  unfold ju at h5
  refine st4.sq1 [0,1,2,9,10,11,12] (λ _ _ st6=>wp_seq ?_)
  refine st6.cs rfl h5 (λ _ h7=>wp_skip (za (wp_seq (wp_block (wp_seq (wp_region_list ?_)))))) (λ _ h8=>wp_exit (zh (zh (zE ?_))))
  ·
   obtain⟨v9,p9,h10⟩:=bs h7
   refine st6.segA 3 [0,1,2,9,10,11,13,15] [] (λ _ _ st11=>?_)
   refine st11.alA 0 zrDir [0,1,2,9,10,11,13,15] [] (λ b13 _ _ _ st13=>?_)
   refine st13.segA 1 [0,1,2,7,9,10,11,15] [(8,0)] (λ _ _ st14=>?_)
   refine st14.stA 8 0 FldS.id (tp rfl) [0,1,2,7,9,10,11] [] (λ _ _ st16=>wpList_nil (za (wp_seq ?_)))
   obtain⟨v17,p17,v18,p18,v19,p19,v20,p20,h25⟩:=bsD h10
   obtain⟨v21,p21,h26⟩:=bs h25
   refine st16.drA (D:=[_,_,_,_,_,_,_,_,_,_,_,_,_,_,_,_,_,_,_,_,_,_,_,_,_,_,_,_,_,_,_,_,_,_,_]) zD [[(8,nS)],[(16,0)],[(17,1)],[(18,2)],[(19,3)],[(8,nS),(20,4)],[(21,5),(20,4)],[(22,6),(20,4)],[(23,7),(20,4)],[(20,4),(24,8)],[(25,9)],[(8,nS),(26,10)],[(27,11),(26,10)],[(1,nS),(26,10)],[(28,12),(29,13),(26,10)],[(30,14),(26,10)],[(26,10),(31,15)],[(32,16)],[(8,nS),(33,17)],[(34,18),(33,17)],[(35,19),(33,17)],[(2,nS),(33,17)],[(36,20),(37,21),(33,17)],[(33,17),(38,22)],[(39,23)],[(0,nS),(40,24)],[(7,nS),(40,24)],[(41,25),(42,26),(40,24)],[(8,nS),(40,24)],[(44,28),(40,24)],[(8,nS),(40,24)],[(46,30),(40,24)],[(43,27),(45,29),(47,31),(40,24)],[(48,32),(40,24)],[(40,24),(49,33)]] [0,1,2,9,10,11,50] [] (λ _ _ st27=>?_) (hs:=rc rfl rfl (zB Dir.fld0 rfl YF (tp rfl))<|rc rfl rfl (zf rfl kT3 (tp rfl))<|rc rfl rfl (zo (l:=[.tmp 17,.const (.int .i64 0),.const (.int .i64 2)]) rfl kN74 (.cons (tp rfl) (.cons cI (.cons cI .nil))) (yX p17))<|rc rfl rfl (yE rfl (tp rfl))<|rc rfl rfl (oM rfl (tp rfl))<|rg rfl rfl rfl (λ hg=>zB Dir.fld1 rfl YG (tp rfl))<|rg rfl rfl rfl (λ hg=>zf rfl kT9 (ze hg rfl))<|rg rfl rfl rfl (λ hg=>zo (l:=[.tmp 22]) rfl kN88 (.cons (ze hg rfl) .nil) (jr (gh hg p18)))<|rg rfl rfl rfl (λ hg=>yE rfl (ze hg rfl))<|rc rfl rfl (yU rfl (tp rfl) (zb rfl))<|rc rfl rfl (oM rfl (tp rfl))<|rg rfl rfl rfl (λ hg=>zB Dir.fld2 rfl Xb (tp rfl))<|rg rfl rfl rfl (λ hg=>zf rfl kT3 (ze hg rfl))<|rg rfl rfl rfl (λ hg=>oM rfl (tp rfl))<|rg rfl rfl rfl (λ hg=>zo (l:=[.tmp 28,.const (.int .i64 0),.tmp 29]) rfl kN74 (.cons (ze hg rfl) (.cons cI (.cons (ze hg rfl) .nil))) (yX (gh hg p19)))<|rg rfl rfl rfl (λ hg=>yE rfl (ze hg rfl))<|rc rfl rfl (yU rfl (tp rfl) (zb rfl))<|rc rfl rfl (oM rfl (tp rfl))<|rg rfl rfl rfl (λ hg=>zB Dir.fld3 rfl YH (tp rfl))<|rg rfl rfl rfl (λ hg=>zf rfl kT75 (ze hg rfl))<|rg rfl rfl rfl (λ hg=>jJ rfl kL75 (ze hg rfl))<|rg rfl rfl rfl (λ hg=>oM rfl (tp rfl))<|rg rfl rfl rfl (λ hg=>oCI rfl (ze hg rfl) (ze hg rfl))<|rc rfl rfl (yU rfl (tp rfl) (zb rfl))<|rc rfl rfl (oM rfl (tp rfl))<|rg rfl rfl rfl (λ hg=>oM rfl (tp rfl))<|rg rfl rfl rfl (λ hg=>oM rfl (tp rfl))<|rg rfl rfl rfl (λ hg=>xSliH rfl kS33 (ze hg rfl) (ze hg rfl) (gh hg p20))<|rg rfl rfl rfl (λ hg=>zB Dir.fld0 rfl YF (tp rfl))<|rg rfl rfl rfl (λ hg=>zf rfl kT3 (ze hg rfl))<|rg rfl rfl rfl (λ hg=>zB Dir.fld1 rfl YG (tp rfl))<|rg rfl rfl rfl (λ hg=>zf rfl kT9 (ze hg rfl))<|rg rfl rfl rfl (λ hg=>zo (l:=[.tmp 43,.tmp 45,.tmp 47]) rfl kN105 (.cons (ze hg rfl) (.cons (ze hg rfl) (.cons (ze hg rfl) .nil))) (WF (gh hg p21)))<|rg rfl rfl rfl (λ hg=>oCI rfl (ze hg rfl) cI)<|rc rfl rfl (yU rfl (tp rfl) (zb rfl))<|.nil)
   refine za ?_
   refine st27.cs rfl h26 (λ _ h28=>?_) (λ _ h29=>wp_skip (zg (za ?_)))
   ·
    refine st27.sq1 [6] (λ _ _ st30=>wp_ret (zt (zd (zd (zt (zd ?_))))))
    have h31:=lo h28 hx4
    have h32:=jo h31 k2
    exact st30.ret rfl rfl h32
   obtain⟨v33,p33,h34⟩:=bs h29
   refine st27.rg1 [0,1,2,9,10,11] (λ _ _ st35=>za ?_)
   exact fl h34
  refine za ?_
  have h36:=lo h8 hx4
  exact fl h36
 rintro a2 w2 ⟨b2,rfl,⟨M2,q2_0,st2⟩⟩
 have h37:=jn k2
 refine st2.sq1 [6] (λ _ _ st38=>wp_ret ?_)
 exact st38.ret rfl rfl h37
def ya(x0:Finder):Option Bool:=
(Zb x0.dirs (200:Int) (12:Int)).bind λ v2=>
(gO (v2 == true) (yx x0.fills (0:Int) (1000:Int))).bind λ v3=>
(gO ((v2&&v3) == true) (yx x0.hits (0:Int) (1000:Int))).bind λ v4=>
some ((v2&&v3)&&v4)
theorem yT{x0:Finder}{r:Bool}(h:ya x0=some r):Fn prog 28 [dt x0] (dt r):=by
 unfold ya at h
 refine fnx (fn:=f28) 0 func28 rfl (oD rfl) rfl (λ M _ _ st0=>?_)
 refine st0.sq1 [1] (λ _ _ st1=>?_)
 obtain⟨v2,p2,v3,p3,v4,p4,h7⟩:=bsC h
 refine st1.sq2 (sP 2 (r:=by exact sc rfl (oK (J2 p2))<|sP 3 (r:=by exact sg rfl rfl (λ hg=>oK (yX (gh hg p3)))<|sP 4 (r:=by exact sg rfl rfl (λ hg=>oK (yX (gh hg p4)))<|segC)))) [2] (λ _ _ st8=>wp_ret ?_)
 exact st8.ret rfl rfl h7
def yD(x0:Disk):Option Bool:=
(wy x0.tree).bind λ v2=>
(gO (v2 == true) (yx x0.clock (0:Int) (200:Int))).bind λ v3=>
(gO ((v2&&v3) == true) (Zb x0.dirs x0.clock (0:Int))).bind λ v4=>
some ((v2&&v3)&&v4)
theorem wz{x0:Disk}{r:Bool}(h:yD x0=some r):Fn prog 29 [dt x0] (dt r):=by
 unfold yD at h
 refine fnx (fn:=f29) 0 func29 rfl (oD rfl) rfl (λ M _ _ st0=>?_)
 refine st0.sq1 [1] (λ _ _ st1=>?_)
 obtain⟨v2,p2,v3,p3,v4,p4,h7⟩:=bsC h
 refine st1.sq2 (sP 2 (r:=by exact sc rfl (oK (YE p2))<|sP 3 (r:=by exact sg rfl rfl (λ hg=>oK (yX (gh hg p3)))<|sP 6 (r:=by exact sg rfl rfl (λ hg=>oK (J2 (gh hg p4)))<|segC)))) [2] (λ _ _ st8=>wp_ret ?_)
 exact st8.ret rfl rfl h7
def xC(x0:Disk)(x1:Int)(x2:Str):Option Int:=
(qP x0.dirs x1 x2).bind λ v2=>
if(cmpI .lss v2 (0:Int))=true then(some (0:Int))
else((atI x0.dirs v2).bind λ v9=>
some v9.stamp)
theorem XA{x0:Disk}{x1:Int}{x2:Str}{r:Int}(h:xC x0 x1 x2=some r):Fn prog 79 [dt x0,dt x1,dt x2] (dt r):=by
 unfold xC at h
 refine fnx (fn:=f79) 0 func79 rfl (oD rfl) rfl (λ M _ _ st0=>?_)
 refine st0.sq1 [1,2,3] (λ _ _ st1=>?_)
 obtain⟨v2,p2,h3⟩:=bsW h WF
 refine st1.sq1 [3,7] (λ _ _ st4=>wp_seq ?_)
 refine st4.sq1 [3,7,14] (λ _ _ st5=>?_)
 refine st5.cs rfl h3 (λ _ h6=>?_) (λ _ h7=>wp_skip (za ?_))
 ·
  refine st5.sq1 [6] (λ _ _ st8=>wp_ret (zd ?_))
  exact st8.ret rfl rfl h6
 obtain⟨v9,p9,h10⟩:=bs h7
 refine st5.sq1 [6] (λ _ _ st11=>wp_ret ?_)
 exact st11.ret rfl rfl h10
def xV(x0:Str)(x1:Str):Option (Str×Str×Bool):=
(xF x0 x1).bind λ v2=>
if(cmpI .geq v2 (0:Int))=true then((cutHO x0 v2).bind λ v8=>
(i64 (v2+(x1.l.length:Int))).bind λ v9=>
(cutLO x0 v9).bind λ v10=>
some (v8,v10,true))
else(some (x0,(⟨[]⟩:Str),false))
theorem XB{x0:Str}{x1:Str}{r:Str×Str×Bool}(h:xV x0 x1=some r):Fn prog 156 [dt x0,dt x1] (dtup [dt r.1,dt r.2.1,dt r.2.2]):=by
 unfold xV at h
 refine fnx (fn:=f156) 0 func156 rfl (oD rfl) rfl (λ M _ _ st0=>?_)
 refine st0.sq1 [0,1] (λ _ _ st1=>wp_seq ?_)
 obtain⟨v2,p2,h3⟩:=bsW h Y7
 refine st1.sq1 [0,1,7] (λ _ _ st4=>?_)
 refine st4.sq1 [0,1,7,12] (λ _ _ st5=>?_)
 refine st5.cs rfl h3 (λ _ h6=>wp_seq ?_) (λ _ h7=>wp_skip (za ?_))
 ·
  obtain⟨v8,p8,v9,p9,v10,p10,h13⟩:=bsC h6
  refine st5.drA (D:=[_,_,_,_,_,_,_,_,_,_,_,_]) zD [[(0,nS)],[(7,nS)],[(13,0),(14,1)],[(0,nS)],[(7,nS)],[(1,nS)],[(18,5)],[(17,4),(19,6)],[(16,3),(20,7)],[(15,2)],[(21,8)],[]] [4,5,6] [] (λ _ _ st14=>za ?_)
  refine wp_ret (zd ?_)
  obtain rfl:=Option.some.inj h13
  exact st14.ret3 rfl (st14.frozen (t:=4) rfl) (st14.frozen (t:=5) rfl) (st14.frozen (t:=6) rfl) ⟨rfl,rfl,rfl⟩ rfl
 refine st5.sq1 [4,5,6] (λ _ _ st15=>wp_ret ?_)
 obtain rfl:=Option.some.inj h7
 exact st15.ret3 rfl (st15.frozen (t:=4) rfl) (st15.frozen (t:=5) rfl) (st15.frozen (t:=6) rfl) ⟨rfl,rfl,rfl⟩ rfl
def ZU(x0:Str)(x1:Str):Option (Str×Str×Bool):=
(xV x0 x1).bind λ v2=>
some (v2.1,v2.2.1,v2.2.2)
theorem strings_Cut_w{x0:Str}{x1:Str}{r:Str×Str×Bool}(h:ZU x0 x1=some r):Fn prog 122 [dt x0,dt x1] (dtup [dt r.1,dt r.2.1,dt r.2.2]):=by
 unfold ZU at h
 refine fnx (fn:=f122) 0 func122 rfl (oD rfl) rfl (λ M _ _ st0=>?_)
 refine st0.sq1 [0,1] (λ _ _ st1=>?_)
 obtain⟨v2,p2,h3⟩:=bsW h XB
 refine st1.sq1 [4,5,6] (λ _ _ st4=>wp_ret ?_)
 obtain rfl:=Option.some.inj h3
 exact st4.ret3 rfl (st4.frozen (t:=4) rfl) (st4.frozen (t:=5) rfl) (st4.frozen (t:=6) rfl) ⟨rfl,rfl,rfl⟩ rfl
def wU(x0:Tree)(x1:Int)(x2:Str)(s5:(List Str)×Int):Option (((List Str)×Int)⊕(List Str)):=
if(cmpI .lss s5.2 (x0.files.length:Int))=true then(Option.bind (α:=(List Str)) ((atI x0.files s5.2).bind λ v11=>
if(cmpI .neq v11.root x1)=true then(some s5.1)
else(if(decide (v11.pkg=x2))=true then(Option.bind (α:=(List Str)) (if v11.init=true then((appO 16 s5.1 ([(⟨[42]⟩:Str)]:List Str)).bind λ v31=>
some v31)
else((appO 16 s5.1 ([v11.name]:List Str)).bind λ v37=>
some v37)) λ o24=>
some o24)
else((qu v11.pkg x2).bind λ v41=>
if v41=true then(Option.bind (α:=Str) (if(decide (x2≠(⟨[]⟩:Str)))=true then((i64 ((x2.l.length:Int)+(1:Int))).bind λ v51=>
(cutLO v11.pkg v51).bind λ v52=>
some v52)
else(some v11.pkg)) λ o47=>
(ZU o47 (⟨[46]⟩:Str)).bind λ v57=>
(catO v57.1 (⟨[47]⟩:Str)).bind λ v60=>
(appO 16 s5.1 ([v60]:List Str)).bind λ v65=>
some v65)
else(some s5.1)))) λ o10=>
(i64 (s5.2+(1:Int))).bind λ v69=>
some (.inl (o10,v69)))
else(some (.inr s5.1))
def jF(x0:Tree)(x1:Int)(x2:Str):Option (List Str):=
Option.bind (α:=(List Str)) (zS (λ s5=>wU x0 x1 x2 s5) ([],(0:Int))) λ o3=>
(ZS o3).bind λ v77=>
some v77
theorem XC{x0:Tree}{x1:Int}{x2:Str}{r:List Str}(h:jF x0 x1 x2=some r):FnOwn prog 81 [dt x0,dt x1,dt x2] 9 r:=by
 unfold jF at h
 refine fnxO (fn:=f81) 2 func81 rfl (oD rfl) rfl (λ M w0 _ st0=>?_)
 refine st0.sq2 (sP 1 (r:=by exact sc rfl (oA rfl (Zl (α:=Str) (e:=9)))<|.nil)) [1,2,3] (λ _ _ st1=>?_)
 refine st1.sqB (sc rfl (wT (α:=Str) (e:=9) rfl kS75)<|segC) [1,2,3] [(7,0)] (λ _ _ st2=>?_)
 obtain⟨o3,p3,k3⟩:=bs h
 refine zm (λ a w=>∃ M1 q3_0 q3_1,Sx (Frm.of w0) 68 M M1 [oneB q3_0,oneB q3_1] [] [(7,0,dtip q3_0 9 o3)] a w) ?_ ?_
 ·
  refine st2.sqA [1,2,16,17,18] [(7,0)] (λ _ _ st4=>wp_block ?_)
  refine zL p3 (λ s5 a w=>∃ M1 q5_0 q5_1,Sx (Frm.of w0) 68 M M1 [oneB q5_0,oneB q5_1] [(1,dt x1),(2,dt x2),(16,dt x0.files),(17,dt (x0.files.length:Int)),(18,dt s5.2)] [(7,0,dtip q5_0 9 s5.1)] a w) fx ?_
  rintro s5 z5 a5 w5 ⟨M5,q5_0,q5_1,st5⟩ hs5 hx5
  have h6:wU x0 x1 x2 s5=some z5:=hs5
  unfold wU at h6
  refine st5.sqA [1,2,16,17,18,19] [(7,0)] (λ _ _ st7=>wp_seq ?_)
  refine st7.cs rfl h6 (λ _ h8=>wp_skip (za ?_)) (λ _ h9=>wp_exit (zh (zh (zE ?_))))
  ·
   obtain⟨o10,p10,k10⟩:=bs h8
   refine zm (λ a w=>∃ M1 q10_0 q10_1,Sx (Frm.of w0) 68 M M1 [oneB q10_0,oneB q10_1] [(1,dt x1),(2,dt x2),(16,dt x0.files),(17,dt (x0.files.length:Int)),(18,dt s5.2)] [(7,0,dtip q10_0 9 o10)] a w) ?_ ?_
   ·
    refine wp_block (wp_seq (wp_region_list ?_))
    obtain⟨v11,p11,h12⟩:=bs p10
    refine st7.segA 2 [1,2,16,17,18,21] [(7,0)] (λ _ _ st13=>?_)
    refine st13.alA 1 Qj [1,2,16,17,18,21] [7] (λ b15 _ _ _ st15=>?_)
    refine st15.stA 9 1 FldS.id (tp rfl) [1,2,16,17,18] [7] (λ _ _ st17=>wpList_nil (za (wp_seq ?_)))
    refine st17.sqC [1,2,16,17,18,25] [(7,0),(9,1)] (λ _ _ st18=>?_)
    refine st18.cs rfl h12 (λ _ h19=>wp_exit (zh (zE ?_))) (λ _ h20=>wp_skip (za (wp_seq ?_)))
    ·
     refine za ?_
     cases h19
     exact fx
    refine st18.sqC [1,2,16,17,18,29] [(7,0),(9,1)] (λ _ _ st21=>?_)
    refine st21.cs rfl h20 (λ _ h22=>?_) (λ _ h23=>wp_skip (za ?_))
    ·
     obtain⟨o24,p24,k24⟩:=bs h22
     refine zm (λ a w=>∃ M1 q24_0 q24_1,Sx (Frm.of w0) 68 M M1 [oneB q24_0,oneB q24_1] [(1,dt x1),(2,dt x2),(16,dt x0.files),(17,dt (x0.files.length:Int)),(18,dt s5.2)] [(7,0,dtip q24_0 9 o24)] a w) ?_ ?_
     ·
      refine st21.sqC [1,2,16,17,18,31] [(7,0),(9,1)] (λ _ _ st25=>?_)
      refine st25.cs rfl p24 (λ _ h26=>wp_region_list ?_) (λ _ h27=>wp_region_list ?_)
      ·
       refine st25.segB 2 (sP 1 (r:=by exact sc rfl (yG (opds:=[_]) rfl kS75 kY75 rfl rfl (by decide) (.cons (zQ (by decide)) .nil))<|.nil)) [1,2,16,17,18,33] [(7,0),(32,0)] (λ _ _ st28=>?_)
       obtain⟨v31,p31,h32⟩:=bs h26
       refine st28.apA 0 wO p31 [1,2,16,17,18] [] (λ g30 _ _ _ st30=>?_)
       refine st30.segA 1 [1,2,16,17,18] [(7,0)] (λ _ _ st33=>wpList_nil (za ?_))
       cases h32
       exact fx
      refine st25.segC 4 [1,2,16,17,18,38] [(7,0),(35,0)] (λ _ _ st34=>?_)
      obtain⟨v37,p37,h38⟩:=bs h27
      refine st34.apA 0 wO p37 [1,2,16,17,18] [] (λ g36 _ _ _ st36=>?_)
      refine st36.segA 1 [1,2,16,17,18] [(7,0)] (λ _ _ st39=>wpList_nil (za ?_))
      cases h38
      exact fx
     rintro a24 w24 ⟨M24,q24_0,q24_1,st24⟩
     have h40:=k24
     refine wp_exit (zh (zE ?_))
     refine za ?_
     cases h40
     exact fx
    obtain⟨v41,p41,h42⟩:=bsW h23 Ji
    refine st21.sqC [1,2,16,17,18,43] [(7,0),(9,1)] (λ _ _ st43=>?_)
    refine st43.cs rfl h42 (λ _ h44=>?_) (λ _ h45=>wp_skip (zg (za ?_)))
    ·
     refine st43.sqC [1,2,10,16,17,18] [(7,0),(9,1)] (λ _ _ st46=>?_)
     obtain⟨o47,p47,k47⟩:=bs h44
     refine zm (λ a w=>∃ M1 q47_0 q47_1,Sx (Frm.of w0) 68 M M1 [oneB q47_0,oneB q47_1] [(1,dt x1),(2,dt x2),(10,dt o47),(16,dt x0.files),(17,dt (x0.files.length:Int)),(18,dt s5.2)] [(7,0,dtip q47_0 9 s5.1)] a w) ?_ ?_
     ·
      refine st46.sqB (sc rfl (oM rfl (tp rfl))<|sc rfl (Wv rfl (tp rfl) (zQ (by decide)))<|.nil) [1,2,10,16,17,18,47] [(7,0),(9,1)] (λ _ _ st48=>?_)
      refine st48.cs rfl p47 (λ _ h49=>?_) (λ _ h50=>wp_skip (za ?_))
      ·
       obtain⟨v51,p51,v52,p52,h54⟩:=bsB h49
       refine st48.rgB (sc rfl (zB File.fld1 rfl Jf (tp rfl))<|sc rfl (zf rfl kT9 (tp rfl))<|sc rfl (oM rfl (tp rfl))<|sc rfl (Xf rfl kX9 (tp rfl))<|sc rfl (xAr rfl (tp rfl) cI p51)<|sc rfl (xCutL rfl kX9 (tp rfl) (tp rfl) p52)<|sc rfl (oA rfl (tp rfl))<|.nil) [1,2,10,16,17,18] [(7,0)] (λ _ _ st55=>za ?_)
       cases h54
       exact fx
      cases h50
      exact fx
     rintro a47 w47 ⟨M47,q47_0,q47_1,st47⟩
     have h56:=k47
     obtain⟨v57,p57,h58⟩:=bs h56
     refine st47.sqB (sc rfl (oM rfl (tp rfl))<|sc rfl (zo (l:=[.tmp 55,_]) rfl kN122 (.cons (tp rfl) (.cons (zQ (by decide)) .nil)) (strings_Cut_w p57))<|sc rfl (oM rfl (tp rfl))<|sc rfl (xExt (i:=0) rfl (tp rfl) rfl)<|sc rfl (xExt (i:=1) rfl (tp rfl) rfl)<|sc rfl (xExt (i:=2) rfl (tp rfl) rfl)<|sc rfl (oA rfl (tp rfl))<|sc rfl (oA rfl (tp rfl))<|sc rfl (oA rfl (tp rfl))<|.nil) [1,2,11,16,17,18] [(7,0)] (λ _ _ st59=>wp_region_list ?_)
     obtain⟨v60,p60,h61⟩:=bs h58
     refine st59.segB 4 (sP 2 (r:=by exact sc rfl (xCat rfl (tp rfl) (zQ (by decide)) p60)<|segC)) [1,2,16,17,18,63] [(7,0),(60,0)] (λ _ _ st62=>?_)
     obtain⟨v65,p65,h66⟩:=bs h61
     refine st62.apA 0 wO p65 [1,2,16,17,18] [] (λ g64 _ _ _ st64=>?_)
     refine st64.segA 1 [1,2,16,17,18] [(7,0)] (λ _ _ st67=>wpList_nil (zg (za ?_)))
     cases h66
     exact fx
    cases h45
    exact fx
   rintro a10 w10 ⟨M10,q10_0,q10_1,st10⟩
   have h68:=k10
   obtain⟨v69,p69,h70⟩:=bs h68
   refine st10.rgA [1,2,16,17,18] [(7,0)] (λ _ _ st71=>za ?_)
   exact fl h70
  refine za ?_
  have h72:=lo h9 hx5
  cases h72
  exact fx
 rintro a3 w3 ⟨M3,q3_0,q3_1,st3⟩
 have h73:=k3
 refine wp_seq (wp_region_list ?_)
 refine st3.segA 1 [] [(66,0)] (λ _ _ st74=>?_)
 obtain⟨v77,p77,h78⟩:=bs h73
 refine st74.take (l:=[]) 0 rfl rfl kN123 rfl rfl .nil (impl_sorted_w p77) [] rfl [] rfl rfl (λ g76 _ _ _ st76=>?_)
 refine st76.segA 1 [] [(6,0)] (λ _ _ st79=>wpList_nil (za (wp_ret ?_)))
 exact st79.ret_own 0 rfl rfl iI h78
def j0(x0:Finder)(x1:Disk)(x2:Int)(x3:Str):Option (Finder×(List Str)):=
(xC x1 x2 x3).bind λ v2=>
(qP x0.dirs x2 x3).bind λ v6=>
(gO (cmpI .geq v6 (0:Int) == true) (atI x0.dirs v6)).bind λ v11=>
if(cmpI .geq v6 (0:Int)&&cmpI .eql v11.stamp v2)=true then((i64 (x0.hits+(1:Int))).bind λ v17=>
(atI x0.dirs v6).bind λ v22=>
some ({ x0 with hits:=(if(1000:Int)<v17 then(1000:Int) else v17) },v22.names))
else((i64 (x0.fills+(1:Int))).bind λ v26=>
(jF x1.tree x2 x3).bind λ v30=>
Option.bind (α:=Finder) (if(cmpI .geq v6 (0:Int))=true then((atI x0.dirs v6).bind λ _v43=>
some ({ x0 with dirs:=(x0.dirs.set v6.toNat (⟨x2,x3,v2,v30⟩:Dir)),fills:=(if(1000:Int)<v26 then(1000:Int) else v26) }))
else(if(cmpI .lss (x0.dirs.length:Int) (20:Int))=true then((appO 56 x0.dirs ([(⟨x2,x3,v2,v30⟩:Dir)]:List Dir)).bind λ v60=>
some ({ x0 with dirs:=v60,fills:=(if(1000:Int)<v26 then(1000:Int) else v26) }))
else(some ({ x0 with fills:=(if(1000:Int)<v26 then(1000:Int) else v26) })))) λ o38=>
some (o38,v30))
theorem Q7{x0:Finder}{x1:Disk}{x2:Int}{x3:Str}{r:Finder×(List Str)}(h:j0 x0 x1 x2 x3=some r):FnS prog 60 (Ow.box (owFinder (Ow.row 77 (Ow.frz (α:=Dir))))) ⟨x0⟩ [dt x1,dt x2,dt x3] ⟨r.1⟩ (.frz (dt r.2)):=by
 unfold j0 at h
 refine fnSB (fn:=f60) 0 3 func60 rfl (oD rfl) rfl (λ M G w0 b0 _ st0=>?_)
 refine st0.sqB (sP 1 (r:=by exact sc rfl (oA rfl (jW (α:=Str)))<|.nil)) [2,3,5] [(0,0)] (λ _ _ st1=>?_)
 obtain⟨v2,p2,h3⟩:=bsW h XA
 refine st1.sqA [2,3,5,9] [(0,0)] (λ _ _ st4=>?_)
 obtain⟨v6,p6,h7⟩:=bs h3
 refine st4.hdA 0 0 ((PV.root.box rfl).fld owFinder.f0) [] (λ g5 A5 _ hA5 st5=>?_)
 refine st5.sqB (sP 6 (r:=by exact sc rfl (W8 (l:=[.tmp 20,.tmp 21,.tmp 22]) st5.ob.sub rfl kN105 (.cons (lendP (sb:=0) st5.ob 0 ((PV.root.box rfl).fld owFinder.f0) (.head _) rfl (Yh rfl rfl) (tp rfl) rfl iI) (.cons (Ww st5.ob.sub (tp rfl)) (.cons (Ww st5.ob.sub (tp rfl)) .nil))) (WF p6) Xu)<|segC)) [2,3,5,9,10] [(0,0)] (λ _ _ st8=>?_)
 have st9:=st8.ncf (s:=0) 0 rfl rfl iI [] rfl
 refine wp_seq ?_
 obtain⟨v11,p11,h12⟩:=bs h7
 refine st9.hdR (s:=0) 0 (cmpI .geq v6 (0:Int) == true) (λ hg=>((PV.root.box rfl).fld owFinder.f0)) rfl rfl iI [] rfl (λ g10 A10 _ hA10 st10=>?_)
 refine st10.sqB (sc rfl (oM rfl (tp rfl))<|sc rfl (oCI rfl (tp rfl) cI)<|sc rfl (oM rfl (tp rfl))<|sg rfl rfl (λ hg=>oM rfl (zG rfl))<|sg rfl rfl (λ hg=>xNc rfl (ze hg rfl))<|sg rfl rfl (λ hg=>xFa rfl jE (ze hg rfl))<|sg rfl rfl (λ hg=>xLc (sb:=0) (.head _) hg rfl rfl kT33 (ze hg rfl) rfl)<|sg rfl rfl (λ hg=>oM rfl (tp rfl))<|sg rfl rfl (λ hg=>xIa (g:=g10) rfl kS33 (ze hg rfl) (ze hg rfl) rfl (λ h=>hA10 h hg) (gh hg p11))<|sg rfl rfl (λ hg=>xFa rfl Xb (ze hg rfl))<|sg rfl rfl (λ hg=>xLf (sb:=0) ((((PV.root.box rfl).fld owFinder.f0).row (.head _) hg (λ h=>hA10 h hg) (gh hg p11)).fld Dir.z2) rfl kT3 (ze hg rfl) rfl)<|sg rfl rfl (λ hg=>oM rfl (tp rfl))<|sg rfl rfl (λ hg=>oCI rfl (ze hg rfl) (ze hg rfl))<|sc rfl (yK rfl (tp rfl) (zb rfl))<|.nil) [2,3,5,9,10,37] [(0,0)] (λ _ _ st13=>?_)
 have st14:=st13.ncf (s:=0) 0 rfl rfl iI [] rfl
 refine st14.cs rfl h12 (λ _ h15=>wp_seq (wp_region_list ?_)) (λ _ h16=>wp_skip (za (wp_seq (wp_region_list ?_))))
 ·
  obtain⟨v17,p17,h18⟩:=bs h15
  refine st14.segB 9 (sP 4 (r:=by exact sc rfl (xLf (sb:=0) ((PV.root.box rfl).fld owFinder.f2) rfl kT3 (tp rfl) rfl)<|sP 1 (r:=by exact sc rfl (xMin rfl (tp rfl) cI)<|segC))) [10,44,46] [(0,0)] (λ _ _ st19=>?_)
  refine st19.sfA 0 0 ((PV.root.box rfl).fld owFinder.f2) (tp rfl) (tp rfl) [10] [] (λ _ st20=>wpList_nil (za ?_))
  obtain⟨v22,p22,h23⟩:=bs h18
  refine st20.hdA 0 0 ((PV.root.box rfl).fld owFinder.f0) [] (λ g21 A21 _ hA21 st21=>?_)
  refine st21.sqB (sP 5 (r:=by exact sc rfl (xIa (g:=g21) rfl kS33 (tp rfl) (tp rfl) rfl (λ h=>hA21 h rfl) p22)<|sP 1 (r:=by exact sc rfl (xLf (sb:=0) (((((PV.root (x:=(⟨{ x0 with hits:=(if(1000:Int)<v17 then(1000:Int) else v17) }⟩:Bx Finder))).box rfl).fld owFinder.f0).row (.head _) rfl (λ h=>hA21 h rfl) p22).fld Dir.z3) rfl kT75 (tp rfl) rfl)<|segC))) [8] [(0,0)] (λ _ _ st24=>?_)
  have st25:=st24.ncf (s:=0) 0 rfl rfl iI [] rfl
  refine wp_ret (zd ?_)
  exact st25.rsD (s:=0) 0 rfl rfl rfl iI (bxr h23)
 obtain⟨v26,p26,h27⟩:=bs h16
 refine st14.segB 9 (sP 4 (r:=by exact sc rfl (xLf (sb:=0) ((PV.root.box rfl).fld owFinder.f1) rfl kT3 (tp rfl) rfl)<|sP 1 (r:=by exact sc rfl (xMin rfl (tp rfl) cI)<|segC))) [2,3,5,9,10,61,63] [(0,0)] (λ _ _ st28=>?_)
 refine st28.sfA 0 0 ((PV.root.box rfl).fld owFinder.f1) (tp rfl) (tp rfl) [2,3,5,9,10] [] (λ _ st29=>wpList_nil (za ?_))
 obtain⟨v30,p30,h31⟩:=bs h27
 refine st29.sqB (sP 4 (r:=by exact sc rfl (zo (l:=[.tmp 65,.tmp 66,.tmp 67]) rfl kN81 (.cons (tp rfl) (.cons (tp rfl) (.cons (tp rfl) .nil))) ((XC p30)).fn)<|segC)) [2,3,9,10,11] [(0,0)] (λ _ _ st32=>wp_seq (wp_region_list ?_))
 refine st32.segB 5 (sP 4 (r:=by exact sc rfl (Q6 rfl (tp rfl) (tp rfl) (tp rfl) (tp rfl))<|.nil)) [10,11,73] [(0,0)] (λ _ _ st33=>?_)
 refine st33.alA 2 zrDir [10,11,73] [0] (λ b35 _ _ _ st35=>?_)
 refine st35.stA 12 2 FldS.id (tp rfl) [10,11] [0] (λ _ _ st37=>wpList_nil (za ?_))
 obtain⟨o38,p38,k38⟩:=bs h31
 refine zm (λ a w=>∃ M1 q38_0 q38_1 q38_2,Sx (Frm.chg w0 G) 102 M M1 [q38_0,q38_1,oneB q38_2] [(11,dt v30)] [(0,0,dnm (Ow.box (owFinder (Ow.row 77 (Ow.frz (α:=Dir))))) q38_0 ⟨o38⟩ (.pointer (some ⟨b0,0,none⟩)) [])] a w) ?_ ?_
 ·
  refine wp_block ?_
  refine st37.sqA [10,11,74] [(0,0),(12,2)] (λ _ _ st39=>?_)
  refine st39.cs rfl p38 (λ _ h40=>?_) (λ _ h41=>?_)
  ·
   obtain⟨v43,p43,h44⟩:=bs h40
   refine st39.hdA 0 0 ((PV.root.box rfl).fld owFinder.f0) [12] (λ g42 A42 _ hA42 st42=>?_)
   refine st42.drnA (D:=[_,_,_,_,_,_,_]) zD 7 [[(0,nS)],[(77,0)],[(78,1)],[(79,2),(0,nS)],[(10,nS)],[(12,nS)],[(80,3),(81,4)],[(83,6),(82,5)]] [11,82,83] [(0,0)] (λ _ _ st45=>?_) (hs:=rc rfl rfl (oM rfl (zG rfl))<|rc rfl rfl (xNc rfl (tp rfl))<|rc rfl rfl (xFa rfl jE (tp rfl))<|rc rfl rfl (xLc (sb:=0) (.head _) rfl rfl rfl kT33 (tp rfl) rfl)<|rc rfl rfl (oM rfl (tp rfl))<|rc rfl rfl (zf rfl kT77 (tp rfl))<|rc rfl rfl (xIa (g:=g42) rfl kS33 (tp rfl) (tp rfl) rfl (λ h=>hA42 h rfl) p43)<|.nil)
   refine st45.stF (sb:=0) 0 ((((PV.root (x:=(⟨{ x0 with fills:=(if(1000:Int)<v26 then(1000:Int) else v26) }⟩:Bx Finder))).box rfl).fld owFinder.f0).row (.head _) rfl (λ h=>hA42 h rfl) p43) rfl rfl rfl kT77 (by simp) (tp rfl) (tp rfl) rfl rfl iI [11] rfl [] rfl rfl (λ _ st46=>wpList_nil (zg (za ?_)))
   cases h44
   exact fx
  refine st39.hdA 0 0 ((PV.root.box rfl).fld owFinder.f0) [12] (λ g47 A47 _ hA47 st47=>?_)
  refine st47.sqB (sP 4 (r:=by exact sc rfl (xLe rfl kL33 (tp rfl))<|segC)) [11,84] [(0,0),(12,2)] (λ _ _ st48=>?_)
  have st49:=st48.ncf (s:=0) 0 rfl rfl iI [12] rfl
  refine st49.cs rfl h41 (λ _ h50=>?_) (λ _ h51=>?_)
  ·
   refine st49.held (λ _=>True) zD (λ _ st52=>?_)
   refine st52.tN 0 0 trivial (λ _ st53=>?_)
   refine st53.hdA 0 0 ((PV.root.box rfl).fld owFinder.f0) [12] (λ g54 A54 _ hA54 st54=>?_)
   refine st54.drnE (D:=[_,_,_,_,_,_,_]) 7 [0] [[(0,nS)],[(0,nS)],[(92,1)],[(93,2)],[(94,3),(0,nS)],[(12,nS)],[(96,5)],[(95,4),(97,6)],[(91,0)],[(99,8)],[(100,9),(98,7)]] (by decide +kernel) (by decide) (by decide +kernel) (by decide +kernel) (
    rc rfl rfl (oM rfl (zG rfl))<|rc rfl rfl (oM rfl (zG rfl))<|rc rfl rfl (xNc rfl (tp rfl))<|rc rfl rfl (xFa rfl jE (tp rfl))<|rc rfl rfl (xLc (sb:=0) (.head _) rfl rfl rfl kT33 (tp rfl) rfl)<|rc rfl rfl (zf rfl kT77 (tp rfl))<|rc rfl rfl (yG (opds:=[.tmp 96]) rfl kS33 kY33 rfl rfl (by decide) (.cons (tp rfl) .nil))<|.nil) (by
 intro i hi x d hx
 simp only[List.mem_cons,List.not_mem_nil,or_false] at hi
 rcases hi with rfl
 all_goals (injection hx with hx;injection hx with h1 h2;subst h1;subst h2;rfl)) [11,91,95,97] rfl [(0,0)] rfl iT (λ _ _ st55=>?_)
   refine st55.mvG (s:=95) (sb:=0) 0 1 ((PV.root.box rfl).fld owFinder.f0) (.head _) rfl (Yh rfl rfl) rfl (by simp) (by simp) (by decide) rfl iI [11,91,97] rfl [] rfl rfl rfl rfl (λ _ H57 st57=>?_)
   refine st57.tipR (s:=95) 1 rfl rfl (by simp) iI [0] rfl rfl (λ g58 st58=>?_)
   obtain⟨v60,p60,h61⟩:=bs h50
   refine st58.apA 1 wO p60 [11,91] [0] (λ g59 _ _ _ st59=>?_)
   refine st59.segC 2 [11,100] [(0,0),(98,1)] (λ _ _ st62=>?_)
   have st64:=st62.tipW (s:=98) 1 rfl rfl iI [0] rfl
   refine st64.shA 0 98 0 1 (tp rfl) [11] [] (λ _ _ st63=>wpList_nil (zg (za ?_)))
   cases h61
   exact fx
  refine wp_skip (zg (za ?_))
  cases h51
  exact fx
 rintro a38 w38 ⟨M38,q38_0,q38_1,q38_2,st38⟩
 have h65:=k38
 refine st38.sqA [8] [(0,0)] (λ _ _ st66=>wp_ret ?_)
 exact st66.rsD (s:=0) 0 rfl rfl rfl iI (bxr h65)
def qk(x0:Int)(x1:Str)(x2:Finder)(x3:Disk):Option (Finder×(List Str)):=
(j0 x2 x3 x0 x1).bind λ v4=>
some (v4.1,v4.2)
theorem JO{x0:Int}{x1:Str}{x2:Finder}{x3:Disk}{r:Finder×(List Str)}(h:qk x0 x1 x2 x3=some r):FnM 2 prog 59 (Ow.box (owFinder (Ow.row 77 (Ow.frz (α:=Dir))))) ⟨x2⟩ [dt x0,dt x1,dptr x3] ⟨r.1⟩ (.frz (dt r.2)):=by
 unfold qk at h
 refine fnMB (fn:=f59) 2 0 2 (by simp) func59 rfl (oD rfl) rfl rfl (λ M G _ b0 _ st0=>?_)
 refine st0.sqB (sc rfl (oA rfl (jW (α:=Str)))<|.nil) [0,1,3] [(2,0)] (λ _ _ st1=>wp_seq (wp_region_list ?_))
 refine st1.segA 3 [7,8,9] [(2,0)] (λ _ _ st2=>?_)
 obtain⟨v4,p4,h5⟩:=bs h
 refine st2.cSF (l:=[.tmp 7,.tmp 8,.tmp 9]) 0 (st2.bkN (s:=2) rfl iI) rfl rfl kN60 rfl (by simp) (.cons (tp rfl) (.cons (tp rfl) (.cons (tp rfl) .nil))) (Q7 p4) [] rfl [] rfl rfl (by decide) (λ _ _ _ _ st3=>?_)
 refine st3.segA 1 [6] [(2,0)] (λ _ _ st6=>wpList_nil (za (wp_ret ?_)))
 exact st6.rsD (s:=2) 0 rfl rfl rfl iI (bxr h5)
def wA(xd:Disk)(x0:Tree)(x1:List Int)(x2:Str)(x3:Str)(v5:Str)(s19:Finder×Spec×(List Int)×Int):Option ((Finder×Spec×(List Int)×Int)⊕((Finder×Spec×(List Int))⊕(Finder×Spec))):=
if(cmpI .lss s19.2.2.2 (x1.length:Int))=true then(Option.bind (α:=(Finder×Spec×(List Int))⊕((Finder×Spec×(List Int)×Int)⊕((Finder×Spec×(List Int))⊕(Finder×Spec)))) ((atI x1 s19.2.2.2).bind λ v25=>
Option.bind (α:=Finder×Bool×Bool) (if true=true then((qk v25 x2 s19.1 xd).bind λ v35=>
(catO x3 (⟨[47]⟩:Str)).bind λ v39=>
(yp v35.2 v39).bind λ v40=>
(yp v35.2 x3).bind λ v41=>
some (v35.1,v40,v41))
else(some (s19.1,true,true))) λ o29=>
(jp x0 (⟨v25,v5,⟨[]⟩,true,0,[]⟩:File)).bind λ v47=>
if(o29.2.1&&cmpI .geq v47 (0:Int))=true then(some (.inr (.inr (.inr (o29.1,(⟨(2:Int),v47,([v25]:List Int)⟩:Spec))))))
else((jp x0 (⟨v25,x2,x3,false,0,[]⟩:File)).bind λ v59=>
if(o29.2.2&&cmpI .geq v59 (0:Int))=true then(some (.inr (.inr (.inr (o29.1,(⟨(1:Int),v59,([]:List Int)⟩:Spec))))))
else((gO (o29.2.1 == true) (q9 x0 v25 v5)).bind λ v71=>
if(o29.2.1&&v71)=true then((appO 8 s19.2.2.1 ([v25]:List Int)).bind λ v79=>
some (.inl (o29.1,s19.2.1,v79)))
else(some (.inl (o29.1,s19.2.1,s19.2.2.1)))))) (Sum.elim (λ b24=>
(i64 (s19.2.2.2+(1:Int))).bind λ v84=>
some (.inl (b24.1,b24.2.1,b24.2.2,v84))) some))
else(some (.inr (.inl (s19.1,s19.2.1,s19.2.2.1))))
def ZV(xd:Disk)(x0:Tree)(x1:List Int)(x2:Str)(x3:Str)(x4:Finder):Option (Finder×Spec):=
(xB x2 x3).bind λ v5=>
if(decide (v5=(⟨[]⟩:Str)))=true then((xi).bind λ v11=>
some (x4,v11))
else(Option.bind (α:=(Finder×Spec×(List Int))⊕(Finder×Spec)) (zS (λ s19=>wA xd x0 x1 x2 x3 v5 s19) (x4,zO,[],(0:Int))) (Sum.elim (λ b17=>
if(cmpI .gtr (b17.2.2.length:Int) (0:Int))=true then(some (b17.1,(⟨(3:Int),(-1:Int),b17.2.2⟩:Spec)))
else((xi).bind λ v96=>
some (b17.1,v96))) some))
theorem impl_find_k_w{xd:Disk}{x0:Tree}{x1:List Int}{x2:Str}{x3:Str}{x4:Finder}{r:Finder×Spec}(h:ZV xd x0 x1 x2 x3 x4=some r):FnM 4 prog 104 (Ow.clo 59 (owFinder (Ow.row 77 (Ow.frz (α:=Dir))))) ⟨xd,x4⟩ [dt x0,dt x1,dt x2,dt x3] ⟨xd,r.1⟩ (.frz (dt r.2)):=by
 unfold ZV at h
 refine fnMV (fn:=f104) 4 1 4 (by simp) func104 rfl (oD rfl) rfl rfl (λ M G w0 u0 _ st0=>wp_seq (wp_region_list ?_))
 refine st0.segA 1 [1,2,3,5] [(4,1)] (λ _ _ st1=>?_)
 refine st1.alA 3 yz [1,2,3,5] [4] (λ b3 _ _ _ st3=>?_)
 have st4:=st3.gn
 refine wpList_nil (za ?_)
 obtain⟨v5,p5,h6⟩:=bsW h qt
 refine st4.sqA [1,2,3,5,11] [(4,1),(10,3)] (λ _ _ st7=>wp_seq ?_)
 refine st7.sqA [1,2,3,5,11,24] [(4,1),(10,3)] (λ _ _ st8=>?_)
 refine st8.cs rfl h6 (λ _ h9=>wp_seq (wp_region_list ?_)) (λ _ h10=>wp_skip (za ?_))
 ·
  obtain⟨v11,p11,h12⟩:=bsW h9 jC
  refine st8.segA 1 [25] [(4,1),(10,3)] (λ _ _ st13=>?_)
  refine st13.stA 10 3 FldS.id (tp rfl) [] [4] (λ _ _ st15=>wpList_nil (za ?_))
  refine wp_ret (zd ?_)
  exact st15.rsC (s:=4) 1 rfl kT37 rfl rfl iI (bxk (d:=xd) h12)
 refine st8.sqB (sc rfl (wT (α:=Int) (e:=3) rfl kS30)<|segC) [1,2,3,5,11] [(4,1),(10,3),(12,2)] (λ _ _ st16=>?_)
 obtain⟨o17,p17,k17⟩:=bs h10
 refine zm (λ a w=>∃ b17,o17=.inl b17/\(∃ M1 q17_0 q17_1 q17_2 q17_3,Sx (Frm.chg w0 G) 92 M M1 [oneB q17_0,q17_1,oneB q17_2,oneB q17_3] [] [(10,3,dbox q17_3 0 b17.2.1),(12,2,dtip q17_2 3 b17.2.2),(4,1,dnm (Ow.clo 59 (owFinder (Ow.row 77 (Ow.frz (α:=Dir))))) q17_1 ⟨xd,b17.1⟩ u0 [])] a w)) ?_ ?_
 ·
  refine st16.sqA [2,3,5,11,27,28,29] [(4,1),(10,3),(12,2)] (λ _ _ st18=>wp_block ?_)
  refine zL p17 (λ s19 a w=>∃ M1 q19_0 q19_1 q19_2 q19_3,Sx (Frm.chg w0 G) 92 M M1 [oneB q19_0,q19_1,oneB q19_2,oneB q19_3] [(2,dt x2),(3,dt x3),(5,dptr x0),(11,dt v5),(27,dt x1),(28,dt (x1.length:Int)),(29,dt s19.2.2.2)] [(10,3,dbox q19_3 0 s19.2.1),(12,2,dtip q19_2 3 s19.2.2.1),(4,1,dnm (Ow.clo 59 (owFinder (Ow.row 77 (Ow.frz (α:=Dir))))) q19_1 ⟨xd,s19.1⟩ u0 [])] a w) fx ?_
  rintro s19 z19 a19 w19 ⟨M19,q19_0,q19_1,q19_2,q19_3,st19⟩ hs19 hx19
  have h20:wA xd x0 x1 x2 x3 v5 s19=some z19:=hs19
  unfold wA at h20
  refine st19.sqA [2,3,5,11,27,28,29,30] [(4,1),(10,3),(12,2)] (λ _ _ st21=>wp_seq ?_)
  refine st21.cs rfl h20 (λ _ h22=>wp_skip (za ?_)) (λ _ h23=>wp_exit (zh (zh (zE ?_))))
  ·
   obtain⟨o24,p24,k24⟩:=bs h22
   refine zm (λ a w=>∃ b24,o24=.inl b24/\(∃ M1 q24_0 q24_1 q24_2 q24_3,Sx (Frm.chg w0 G) 92 M M1 [oneB q24_0,q24_1,oneB q24_2,oneB q24_3] [(2,dt x2),(3,dt x3),(5,dptr x0),(11,dt v5),(27,dt x1),(28,dt (x1.length:Int)),(29,dt s19.2.2.2)] [(10,3,dbox q24_3 0 b24.2.1),(12,2,dtip q24_2 3 b24.2.2),(4,1,dnm (Ow.clo 59 (owFinder (Ow.row 77 (Ow.frz (α:=Dir))))) q24_1 ⟨xd,b24.1⟩ u0 [])] a w)) ?_ ?_
   ·
    refine wp_block ?_
    obtain⟨v25,p25,h26⟩:=bs p24
    refine st21.sqA [2,3,5,11,14,27,28,29] [(4,1),(10,3),(12,2)] (λ _ _ st27=>?_)
    refine st27.sqA [2,3,5,11,14,15,16,27,28,29] [(4,1),(10,3),(12,2)] (λ _ _ st28=>?_)
    obtain⟨o29,p29,k29⟩:=bs h26
    refine zm (λ a w=>∃ M1 q29_0 q29_1 q29_2 q29_3,Sx (Frm.chg w0 G) 92 M M1 [oneB q29_0,q29_1,oneB q29_2,oneB q29_3] [(2,dt x2),(3,dt x3),(5,dptr x0),(11,dt v5),(14,dt v25),(15,dt o29.2.1),(16,dt o29.2.2),(27,dt x1),(28,dt (x1.length:Int)),(29,dt s19.2.2.2)] [(10,3,dbox q29_3 0 s19.2.1),(12,2,dtip q29_2 3 s19.2.2.1),(4,1,dnm (Ow.clo 59 (owFinder (Ow.row 77 (Ow.frz (α:=Dir))))) q29_1 ⟨xd,o29.1⟩ u0 [])] a w) ?_ ?_
    ·
     refine st28.sqB (sP 1 (r:=by exact sc rfl (xNeK (sb:=4) rfl kU116 (tp rfl) rfl)<|.nil)) [2,3,5,11,14,15,16,27,28,29,34] [(4,1),(10,3),(12,2)] (λ _ _ st30=>?_)
     refine st30.cs rfl p29 (λ _ h31=>wp_seq (wp_region_list ?_)) (λ _ h32=>wp_skip (za ?_))
     ·
      refine st30.segC 3 [2,3,5,11,14,27,28,29,35,36,37] [(4,1),(10,3),(12,2)] (λ _ _ st33=>?_)
      obtain⟨v35,p35,h36⟩:=bs h31
      refine st33.cK (s:=35) (sb:=4) (l:=[.tmp 36,.tmp 37]) 1 rfl iI rfl rfl rfl kN59 rfl (by simp) (.cons (tp rfl) (.cons (tp rfl) .nil)) (JO p35) [2,3,5,11,14,27,28,29] rfl [10,12] rfl rfl (by decide) (λ _ _ _ _ st34=>?_)
      have st37:=st34.gn
      refine st37.segA 1 [2,3,5,11,14,17,27,28,29] [(4,1),(10,3),(12,2)] (λ _ _ st38=>wpList_nil (za ?_))
      obtain⟨v39,p39,v40,p40,v41,p41,h44⟩:=bsC h36
      refine st38.rgB (sP 2 (r:=by exact sc rfl (xCat rfl (tp rfl) (zQ (by decide)) p39)<|sc rfl (oK (qg p40))<|sP 2 (r:=by exact sc rfl (oK (qg p41))<|segC))) [2,3,5,11,14,15,16,27,28,29] [(4,1),(10,3),(12,2)] (λ _ _ st45=>za ?_)
      cases h44
      exact fx
     cases h32
     exact fx
    rintro a29 w29 ⟨M29,q29_0,q29_1,q29_2,q29_3,st29⟩
    have h46:=k29
    refine wp_seq ?_
    obtain⟨v47,p47,h48⟩:=bs h46
    refine st29.sqB (sP 3 (r:=by exact sc rfl (zbF rfl (tp rfl) (tp rfl) cB)<|sc rfl (oK (YT p47))<|segC)) [2,3,5,11,14,15,16,18,27,28,29] [(4,1),(10,3),(12,2)] (λ _ _ st49=>?_)
    refine st49.sqC [2,3,5,11,14,15,16,18,27,28,29,55] [(4,1),(10,3),(12,2)] (λ _ _ st50=>?_)
    refine st50.cs rfl h48 (λ _ h51=>wp_seq (wp_region_list ?_)) (λ _ h52=>wp_skip (za (wp_seq ?_)))
    ·
     refine st50.segB 4 (sP 3 (r:=by exact sc rfl (Zq rfl cI (tp rfl) (tp rfl))<|.nil)) [59] [(4,1),(10,3)] (λ _ _ st53=>?_)
     refine st53.stA 10 3 FldS.id (tp rfl) [] [4] (λ _ _ st55=>wpList_nil (za ?_))
     refine wp_ret (zd (zt (zd (zd (zt (zd ?_))))))
     have h56:=jo h51 k24
     have h57:=lo h56 hx19
     have h58:=jo h57 k17
     exact st55.rsC (s:=4) 1 rfl kT37 rfl rfl iI (bxk (d:=xd) h58)
    obtain⟨v59,p59,h60⟩:=bs h52
    refine st50.sqB (sP 4 (r:=by exact sc rfl (zbG rfl (tp rfl) (tp rfl) (tp rfl))<|sc rfl (oK (YT p59))<|segC)) [2,3,5,11,14,15,16,19,27,28,29] [(4,1),(10,3),(12,2)] (λ _ _ st61=>?_)
    refine st61.sqC [2,3,5,11,14,15,19,27,28,29,70] [(4,1),(10,3),(12,2)] (λ _ _ st62=>?_)
    refine st62.cs rfl h60 (λ _ h63=>wp_seq (wp_region_list ?_)) (λ _ h64=>wp_skip (za ?_))
    ·
     refine st62.segB 3 (sP 1 (r:=by exact sc rfl (yG (opds:=[]) (α:=Int) rfl kS30 kY30 rfl rfl (by decide) .nil)<|sc rfl (Zq rfl cI (tp rfl) (tp rfl))<|.nil)) [73] [(4,1),(10,3)] (λ _ _ st65=>?_)
     refine st65.stA 10 3 FldS.id (tp rfl) [] [4] (λ _ _ st67=>wpList_nil (za ?_))
     refine wp_ret (zd (zt (zd (zd (zt (zd ?_))))))
     have h68:=jo h63 k24
     have h69:=lo h68 hx19
     have h70:=jo h69 k17
     exact st67.rsC (s:=4) 1 rfl kT37 rfl rfl iI (bxk (d:=xd) h70)
    obtain⟨v71,p71,h72⟩:=bs h64
    refine st62.sqB (sP 5 (r:=by exact sg rfl rfl (λ hg=>oK (J0 (gh hg p71)))<|segC)) [2,3,5,11,14,27,28,29,80] [(4,1),(10,3),(12,2)] (λ _ _ st73=>?_)
    refine st73.cs rfl h72 (λ _ h74=>wp_region_list ?_) (λ _ h75=>wp_skip (zg (za ?_)))
    ·
     refine st73.segC 3 [2,3,5,11,27,28,29,83] [(4,1),(10,3),(12,2),(81,2)] (λ _ _ st76=>?_)
     obtain⟨v79,p79,h80⟩:=bs h74
     refine st76.apA 2 wO p79 [2,3,5,11,27,28,29] [4,10] (λ g78 _ _ _ st78=>?_)
     have st81:=st78.gn
     refine st81.segA 1 [2,3,5,11,27,28,29] [(4,1),(10,3),(12,2)] (λ _ _ st82=>wpList_nil (zg (za ?_)))
     exact fl h80
    exact fl h75
   rintro a24 w24 ⟨b24,rfl,⟨M24,q24_0,q24_1,q24_2,q24_3,st24⟩⟩
   have h83:=jn k24
   obtain⟨v84,p84,h85⟩:=bs h83
   refine st24.rgA [2,3,5,11,27,28,29] [(4,1),(10,3),(12,2)] (λ _ _ st86=>za ?_)
   exact fl h85
  refine za ?_
  have h87:=lo h23 hx19
  exact fl h87
 rintro a17 w17 ⟨b17,rfl,⟨M17,q17_0,q17_1,q17_2,q17_3,st17⟩⟩
 have h88:=jn k17
 refine wp_seq ?_
 refine st17.sqB (sP 1 (r:=by exact sc rfl (op_lenT rfl kL30 (tp rfl))<|segC)) [88] [(4,1),(10,3),(12,2)] (λ _ _ st89=>?_)
 refine st89.cs rfl h88 (λ _ h90=>?_) (λ _ h91=>wp_skip (za (wp_seq (wp_region_list ?_))))
 ·
  have st92:=st89.frz 2 (s:=12) rfl rfl [88] rfl [4,10] rfl
  refine wp_seq (wp_region_list ?_)
  refine st92.segB 2 (sP 1 (r:=by exact sc rfl (Zq rfl cI cI (tp rfl))<|.nil)) [90] [(4,1),(10,3)] (λ _ _ st93=>?_)
  refine st93.stA 10 3 FldS.id (tp rfl) [] [4] (λ _ _ st95=>wpList_nil (za ?_))
  refine wp_ret (zd ?_)
  exact st95.rsC (s:=4) 1 rfl kT37 rfl rfl iI (bxk (d:=xd) h90)
 obtain⟨v96,p96,h97⟩:=bsW h91 jC
 refine st89.segA 1 [91] [(4,1),(10,3)] (λ _ _ st98=>?_)
 refine st98.stA 10 3 FldS.id (tp rfl) [] [4] (λ _ _ st100=>wpList_nil (za (wp_ret ?_)))
 exact st100.rsC (s:=4) 1 rfl kT37 rfl rfl iI (bxk (d:=xd) h97)
def xj(xd:Disk)(x0:Tree)(v13:List Str)(s16:Finder×Spec×Spec×Str×Int):Option ((Finder×Spec×Spec×Str×Int)⊕((Finder×Spec×Spec)⊕(Finder×Spec))):=
if(cmpI .lss s16.2.2.2.2 (v13.length:Int))=true then((atI v13 s16.2.2.2.2).bind λ v21=>
if(cmpI .eql s16.2.2.1.kind (0:Int)||cmpI .eql s16.2.2.1.kind (1:Int))=true then((xi).bind λ v27=>
some (.inr (.inr (s16.1,v27))))
else((ZV xd x0 s16.2.2.1.roots s16.2.2.2.1 v21 s16.1).bind λ v36=>
(xB s16.2.2.2.1 v21).bind λ v41=>
(i64 (s16.2.2.2.2+(1:Int))).bind λ v44=>
some (.inl (v36.1,s16.2.1,v36.2,v41,v44))))
else(some (.inr (.inl (s16.1,s16.2.1,s16.2.2.1))))
def j4(xd:Disk)(x0:Tree)(x1:List Int)(x2:Str)(x3:Finder):Option (Finder×Spec):=
Option.bind (α:=(Finder×Spec×Spec)⊕(Finder×Spec)) ((qr x2).bind λ v13=>
zS (λ s16=>xj xd x0 v13 s16) (x3,zO,(⟨(3:Int),(-1:Int),x1⟩:Spec),(⟨[]⟩:Str),(0:Int))) (Sum.elim (λ b12=>
some (b12.1,b12.2.2)) some)
theorem Q8{xd:Disk}{x0:Tree}{x1:List Int}{x2:Str}{x3:Finder}{r:Finder×Spec}(h:j4 xd x0 x1 x2 x3=some r):FnM 3 prog 58 (Ow.clo 59 (owFinder (Ow.row 77 (Ow.frz (α:=Dir))))) ⟨xd,x3⟩ [dt x0,dt x1,dt x2] ⟨xd,r.1⟩ (.frz (dt r.2)):=by
 unfold j4 at h
 refine fnMV (fn:=f58) 3 1 4 (by simp) func58 rfl (oD rfl) rfl rfl (λ M G w0 u0 _ st0=>wp_seq (wp_region_list ?_))
 refine st0.segB 1 (sc rfl (Y6 rfl (tp rfl))<|.nil) [1,2,4] [(3,1)] (λ _ _ st1=>?_)
 refine st1.alloc 2 rfl rfl kZ37 yz (by simp) [1,2,4] rfl [3] rfl rfl (λ b3 _ _ _ st3=>?_)
 have st4:=st3.gn
 refine wpList_nil (za (wp_seq (wp_region_list ?_)))
 refine st4.segB 2 (sP 1 (r:=by exact sc rfl (Zq rfl cI cI (tp rfl))<|.nil)) [2,4,14] [(3,1),(8,2)] (λ _ _ st5=>?_)
 refine st5.alA 3 yz [2,4,14] [3,8] (λ b7 _ _ _ st7=>?_)
 have st8:=st7.gn
 refine st8.stA 9 3 FldS.id (tp rfl) [2,4] [3,8] (λ _ _ st10=>wpList_nil (za ?_))
 refine st10.sqB (sc rfl (oA rfl (zQ (by decide)))<|.nil) [2,4,10] [(3,1),(8,2),(9,3)] (λ _ _ st11=>?_)
 obtain⟨o12,p12,k12⟩:=bs h
 refine zm (λ a w=>∃ b12,o12=.inl b12/\(∃ M1 q12_0 q12_1 q12_2 q12_3,Sx (Frm.chg w0 G) 43 M M1 [oneB q12_0,q12_1,oneB q12_2,oneB q12_3] [] [(8,2,dbox q12_2 0 b12.2.1),(9,3,dbox q12_3 0 b12.2.2),(3,1,dnm (Ow.clo 59 (owFinder (Ow.row 77 (Ow.frz (α:=Dir))))) q12_1 ⟨xd,b12.1⟩ u0 [])] a w)) ?_ ?_
 ·
  obtain⟨v13,p13,h14⟩:=bsW p12 Jh
  refine st11.sqA [4,10,16,17,18] [(3,1),(8,2),(9,3)] (λ _ _ st15=>wp_block ?_)
  refine zL h14 (λ s16 a w=>∃ M1 q16_0 q16_1 q16_2 q16_3,Sx (Frm.chg w0 G) 43 M M1 [oneB q16_0,q16_1,oneB q16_2,oneB q16_3] [(4,dptr x0),(10,dt s16.2.2.2.1),(16,dt v13),(17,dt (v13.length:Int)),(18,dt s16.2.2.2.2)] [(8,2,dbox q16_2 0 s16.2.1),(9,3,dbox q16_3 0 s16.2.2.1),(3,1,dnm (Ow.clo 59 (owFinder (Ow.row 77 (Ow.frz (α:=Dir))))) q16_1 ⟨xd,s16.1⟩ u0 [])] a w) fx ?_
  rintro s16 z16 a16 w16 ⟨M16,q16_0,q16_1,q16_2,q16_3,st16⟩ hs16 hx16
  have h17:xj xd x0 v13 s16=some z16:=hs16
  unfold xj at h17
  refine st16.sqA [4,10,16,17,18,19] [(3,1),(8,2),(9,3)] (λ _ _ st18=>wp_seq ?_)
  refine st18.cs rfl h17 (λ _ h19=>wp_skip (za (wp_seq (wp_block ?_)))) (λ _ h20=>wp_exit (zh (zh (zE ?_))))
  ·
   obtain⟨v21,p21,h22⟩:=bs h19
   refine st18.sqB (sc rfl (xIdx rfl kS75 (tp rfl) (tp rfl) p21)<|sc rfl (zp rfl kT9 (tp rfl))<|sc rfl (oA rfl (tp rfl))<|.nil) [4,10,12,16,17,18] [(3,1),(8,2),(9,3)] (λ _ _ st23=>wp_seq ?_)
   refine st23.sqB (sc rfl (zB Spec.fld0 rfl kF37_0 (tp rfl))<|sc rfl (zf rfl kT3 (tp rfl))<|sc rfl (oCI rfl (tp rfl) cI)<|sc rfl (oM rfl (tp rfl))<|sg rfl rfl (λ hg=>zB Spec.fld0 rfl kF37_0 (tp rfl))<|sg rfl rfl (λ hg=>zf rfl kT3 (ze hg rfl))<|sg rfl rfl (λ hg=>oCI rfl (ze hg rfl) cI)<|sc rfl (yU rfl (tp rfl) (zb rfl))<|.nil) [4,10,12,16,17,18,29] [(3,1),(8,2),(9,3)] (λ _ _ st24=>?_)
   refine st24.cs rfl h22 (λ _ h25=>wp_seq (wp_region_list ?_)) (λ _ h26=>wp_skip (za (wp_seq (wp_region_list ?_))))
   ·
    obtain⟨v27,p27,h28⟩:=bsW h25 jC
    refine st24.segA 1 [30] [(3,1),(8,2)] (λ _ _ st29=>?_)
    refine st29.stA 8 2 FldS.id (tp rfl) [] [3] (λ _ _ st31=>wpList_nil (za ?_))
    refine wp_ret (zd (zt (zd (zd (zt (zd ?_))))))
    have h32:=lo h28 hx16
    have h33:=jo h32 k12
    exact st31.rsC (s:=3) 1 rfl kT37 rfl rfl iI (bxk (d:=xd) h33)
   refine st24.segC 6 [4,10,12,16,17,18,31,33,34,35,36] [(3,1),(8,2),(9,3)] (λ _ _ st34=>?_)
   obtain⟨v36,p36,h37⟩:=bs h26
   refine st34.cMF (l:=[.tmp 31,.tmp 33,.tmp 34,.tmp 35]) 4 1 (st34.bkN (s:=3) rfl iI) rfl rfl rfl kN104 ((st34.st.has 36 _ rfl).trans (st34.st.has 3 _ rfl).1.symm) (by simp) (.cons (tp rfl) (.cons (tp rfl) (.cons (tp rfl) (.cons (tp rfl) .nil)))) (impl_find_k_w p36) [4,10,12,16,17,18] rfl [8,9] rfl rfl (by decide) (λ _ _ _ _ st35=>?_)
   have st38:=st35.gn
   refine st38.stA 9 3 FldS.id (tp rfl) [4,10,12,16,17,18] [3,8] (λ _ _ st40=>wpList_nil (za ?_))
   obtain⟨v41,p41,h42⟩:=bsW h37 qt
   refine st40.rgA [4,10,16,17,18] [(3,1),(8,2),(9,3)] (λ _ _ st43=>zg (za ?_))
   obtain⟨v44,p44,h45⟩:=bs h42
   refine st43.rgA [4,10,16,17,18] [(3,1),(8,2),(9,3)] (λ _ _ st46=>za ?_)
   exact fl h45
  refine za ?_
  have h47:=lo h20 hx16
  exact fl h47
 rintro a12 w12 ⟨b12,rfl,⟨M12,q12_0,q12_1,q12_2,q12_3,st12⟩⟩
 have h48:=jn k12
 refine wp_seq (wp_region_list ?_)
 refine st12.segC 1 [42] [(3,1),(8,2)] (λ _ _ st49=>?_)
 refine st49.stA 8 2 FldS.id (tp rfl) [] [3] (λ _ _ st51=>wpList_nil (za (wp_ret ?_)))
 exact st51.rsC (s:=3) 1 rfl kT37 rfl rfl iI (bxk (d:=xd) h48)
def wg(x0:List Dir)(s6:(List Dir)×Int):Option (((List Dir)×Int)⊕(List Dir)):=
if(cmpI .lss s6.2 (x0.length:Int))=true then((atI x0 s6.2).bind λ v11=>
(appO 16 [] v11.names).bind λ v21=>
(appO 56 s6.1 [{ v11 with names:=v21 }]).bind λ v35=>
(i64 (s6.2+(1:Int))).bind λ v40=>
some (.inl (v35,v40)))
else(some (.inr s6.1))
def qy(x0:List Dir):Option (List Dir):=
Option.bind (α:=(List Dir)) (zS (λ s6=>wg x0 s6) ([],(0:Int))) λ o3=>
some o3
theorem zaN{x0:List Dir}{r:List Dir}(h:qy x0=some r):FnN prog 102 [dt x0] (.ow (Ow.row 77 (owDir (Ow.row 9 (Ow.frz (α:=Str))))) r):=by
 unfold qy at h
 refine fnN (fn:=f102) 5 func102 rfl (oD rfl) rfl (λ M w0 _ st0=>?_)
 refine st0.sq2 (sc rfl (oA rfl (jW (α:=Dir)))<|.nil) [0] (λ _ _ st1=>?_)
 refine st1.sqB (sc rfl (wT (α:=Dir) (e:=77) rfl kS33)<|segC) [0] [(3,0)] (λ _ _ st2=>?_)
 obtain⟨o3,p3,k3⟩:=bs h
 refine zm (λ a w=>∃ M1 q3_0 q3_1 q3_2 q3_3 q3_4,Sx (Frm.of w0) 24 M M1 [q3_0,q3_1,q3_2,q3_3,q3_4] [] [(3,0,dow (Ow.row 77 (owDir (Ow.row 9 (Ow.frz (α:=Str))))) q3_0 o3)] a w) ?_ ?_
 ·
  have st4:=st2.tip0 (s:=3) (e':=77) (oy:=(owDir (Ow.row 9 (Ow.frz (α:=Str))))) 0 rfl rfl [] rfl
  refine st4.sqA [7,8,9] [(3,0)] (λ _ _ st5=>wp_block ?_)
  refine zL p3 (λ s6 a w=>∃ M1 q6_0 q6_1 q6_2 q6_3 q6_4,Sx (Frm.of w0) 24 M M1 [q6_0,q6_1,q6_2,q6_3,q6_4] [(7,dt x0),(8,dt (x0.length:Int)),(9,dt s6.2)] [(3,0,dow (Ow.row 77 (owDir (Ow.row 9 (Ow.frz (α:=Str))))) q6_0 s6.1)] a w) fx ?_
  rintro s6 z6 a6 w6 ⟨M6,q6_0,q6_1,q6_2,q6_3,q6_4,st6⟩ hs6 hx6
  have h7:wg x0 s6=some z6:=hs6
  unfold wg at h7
  refine st6.sqA [7,8,9,10] [(3,0)] (λ _ _ st8=>wp_seq ?_)
  refine st8.cs rfl h7 (λ _ h9=>wp_skip (za (wp_seq (wp_block (wp_seq (wp_region_list ?_)))))) (λ _ h10=>?_)
  ·
   obtain⟨v11,p11,h12⟩:=bs h9
   refine st8.segA 2 [7,8,9,12] [(3,0)] (λ _ _ st13=>?_)
   refine st13.alcW (ow:=(owDir (Ow.row 9 (Ow.frz (α:=Str))))) 4 rfl rfl kZ77 (owDir.z Ow.row_z) (by simp) [7,8,9,12] rfl [3] rfl rfl (λ b14 _ _ _ st14=>?_)
   have st15:=st14.gn
   refine st15.stFz (ow2:=(owDir (Ow.frz (α:=List Str)))) (sb:=5) 4 owDir.ofR rfl rfl rfl kT77 (by simp) rfl (tp rfl) iI [7,8,9] rfl [3] rfl rfl (λ _ st16=>wpList_nil (za ?_))
   have st17:=st16.rst 1 (by simp) [7,8,9] rfl [3,5] rfl
   refine wp_seq (wp_region_list ?_)
   refine st17.segB 3 (sc rfl (wT (α:=Str) (e:=9) rfl kS75)<|sc rfl (xFa rfl YH (zG rfl))<|sc rfl (xLf (sb:=5) ((PV.root.box rfl).fld owDir.f3) rfl kT75 (tp rfl) rfl)<|.nil) [7,8,9,15] [(3,0),(5,4),(13,1)] (λ _ _ st18=>?_)
   obtain⟨v21,p21,h22⟩:=bs h12
   refine st18.apA 1 wO p21 [7,8,9] [3,5] (λ g20 _ _ _ st20=>?_)
   have st23:=st20.gn
   refine st23.segB 1 (sc rfl (xFa rfl YH (zG rfl))<|.nil) [7,8,9,17] [(3,0),(5,4),(16,1)] (λ _ _ st24=>?_)
   have st25:=st24.tipW (s:=16) 1 rfl rfl iI [3,5] rfl
   refine st25.stTk (off:=3) (ow2:=(owDir (Ow.row 9 (Ow.frz (α:=Str))))) (x2:={ v11 with names:=v21 }) (sb:=5) (tv:=16) 4 1 (by decide) owDir.tk rfl rfl rfl kT75 (by simp) (by simp) (by decide) (tp rfl) rfl rfl iI iI [7,8,9] rfl [3] rfl rfl rfl (λ _ _ st26=>?_)
   have st27:=st26.gn
   refine wpList_nil (za (wp_region_list ?_))
   refine st27.nmR (s:=3) 0 rfl rfl iI [5] rfl (λ g28 A28 _ hA28 st28=>?_)
   refine st28.segA 1 [7,8,9] [(3,0),(5,4),(18,0)] (λ _ _ st29=>?_)
   refine st29.ldW (sb:=5) 4 rfl rfl kT77 rfl (by simp) iI [7,8,9] rfl [3,18] rfl rfl (λ _ _ st30=>?_)
   refine st30.litW (oe:=(owDir (Ow.row 9 (Ow.frz (α:=Str))))) (opds:=[.tmp 19]) (xs:=[{ v11 with names:=v21 }]) 3 [4] rfl rfl kI33 kY33 rfl rfl (by decide) rfl (by decide) (rowW_lit (jO (st30.st.has 19 _ rfl)) (λ b hb=>⟨4,by simp,hb⟩)) (λ q hq=>by
 simp only[List.mem_cons,List.not_mem_nil,or_false] at hq
 subst hq
 exact Ow.len _ (jO (st30.st.has 19 _ rfl))) (by simp) [7,8,9] rfl [3,18] rfl rfl rfl (by decide) (λ G31 _ _ _ st31=>?_)
   have st32:=st31.gs (Gs':=[q6_0,oneB none,q6_2,G31,oneB none]) rfl
   have st34:=st32.unm (s:=18) 0 rfl rfl iI [20] rfl
   obtain⟨v35,p35,h36⟩:=bs h22
   refine st34.appW 0 3 rfl rfl kE33 rfl rfl (by simp) (by simp) (by decide) iI iI p35 [7,8,9] rfl [] rfl rfl rfl (λ _ _ _ _ st33=>?_)
   have st37:=st33.gn
   refine st37.nmR (s:=21) 0 rfl rfl iI [] rfl (λ g38 A38 _ hA38 st38=>?_)
   refine st38.segA 1 [7,8,9] [(3,0)] (λ _ _ st39=>wpList_nil (zg (za ?_)))
   obtain⟨v40,p40,h41⟩:=bs h36
   refine st39.rgA [7,8,9] [(3,0)] (λ _ _ st42=>?_)
   have st43:=st42.unm (s:=3) 0 rfl rfl iI [] rfl
   refine za ?_
   exact fl h41
  refine wp_exit (zh (zh (zE ?_)))
  refine za ?_
  have h44:=lo h10 hx6
  cases h44
  exact fx
 rintro a3 w3 ⟨M3,q3_0,q3_1,q3_2,q3_3,q3_4,st3⟩
 have h45:=k3
 refine st3.nmR (s:=3) 0 rfl rfl iI [] rfl (λ g46 A46 _ hA46 st46=>?_)
 refine st46.sqA [] [(2,0)] (λ _ _ st47=>wp_ret ?_)
 have st48:=st47.unm (s:=2) 0 rfl rfl iI [] rfl
 exact st48.rnO 0 rfl rfl iI h45
def wB(x0:Finder):Option Finder:=
(qy x0.dirs).bind λ v12=>
some (⟨v12,x0.fills,x0.hits⟩:Finder)
theorem qQ{x0:Finder}{r:Finder}(h:wB x0=some r):FnN prog 57 [dt x0] (.ow (owFinder (Ow.row 77 (owDir (Ow.row 9 (Ow.frz (α:=Str)))))) r):=by
 unfold wB at h
 refine fnN (fn:=f57) 3 func57 rfl (oD rfl) rfl (λ M _ _ st0=>wp_seq (wp_region_list ?_))
 refine st0.segA 1 [1] [] (λ _ _ st1=>?_)
 refine st1.alcW (ow:=(owFinder (Ow.row 77 (owDir (Ow.row 9 (Ow.frz (α:=Str))))))) 2 rfl rfl kZ35 (owFinder.z Ow.row_z) (by simp) [1] rfl [] rfl rfl (λ b2 _ _ _ st2=>wpList_nil (za (wp_seq ?_)))
 refine st2.opn (s:=1) rfl (λ b3 o3 c3 st3=>?_)
 refine st3.held (λ w=>CellsAt w b3 o3 c3) zD (λ _ st4=>?_)
 refine st4.tA 0 1 (λ _ st5=>?_) (ht:=jE)
 refine st5.tF 1 1 3 Finder.fld0 (λ _ st6=>?_)
 refine st6.tA 3 1 (λ _ st7=>?_) (ht:=WE)
 refine st7.tF 4 1 6 Finder.fld1 (λ _ st8=>?_)
 refine st8.tA 5 1 (λ _ st9=>?_) (ht:=Qo)
 refine st9.tF 6 1 8 Finder.fld2 (λ _ st10=>?_)
 obtain⟨v12,p12,h17⟩:=bs h
 refine aK1 2 ?_
 refine st10.cN (l:=[.tmp 4]) 0 rfl rfl kN102 (.cons (tp rfl) .nil) (zaN p12) (by simp) [1,7,9] rfl [2] rfl rfl (λ _ _ _ _ st18=>?_)
 refine aHN (st18.pkZ 1) ?_
 refine aK1 7 ?_
 refine st18.bldW (ow:=(owFinder (Ow.row 77 (owDir (Ow.row 9 (Ow.frz (α:=Str))))))) (parts:=[(0,.tmp 5),(1,.tmp 7),(2,.tmp 9)]) (ns:=[1,1,1]) (zs:=Xw) (x:=(⟨v12,x0.fills,x0.hits⟩:Finder)) 1 [0] rfl rfl rfl kB35 kC35 (by
 intro p hp;simp only[List.mem_cons,List.not_mem_nil,or_false] at hp
 rcases hp with rfl | rfl | rfl
 ·
  exact⟨by decide,Ow.len _ (jO (st18.st.has 5 _ rfl))⟩
 ·
  exact⟨by decide,Rep.len (α:=Int) (OpdR.cells (tp rfl) (λ s y hs=>st18.st.has s y hs))⟩
 ·
  exact⟨by decide,Rep.len (α:=Int) (OpdR.cells (tp rfl) (λ s y hs=>st18.st.has s y hs))⟩) (((owFinder (Ow.row 77 (owDir (Ow.row 9 (Ow.frz (α:=Str))))))).more (owFinder.mk (x:=(⟨v12,x0.fills,x0.hits⟩:Finder)) (jO (st18.st.has 5 _ rfl)) (OpdR.cells (tp rfl) (λ s y hs=>st18.st.has s y hs)) (OpdR.cells (tp rfl) (λ s y hs=>st18.st.has s y hs))) (λ b=>(λ hb=>⟨0,by simp,hb⟩))) (by simp) [1] rfl [2] rfl rfl rfl (λ G19 _ _ st19=>?_)
 have st20:=st19.gs (Gs':=[oneB none,G19,(oneB (some b2))]) rfl
 refine aHN (st20.pkS (s:=1) rfl) ?_
 refine aK1 8 ?_
 refine st20.stO (sb:=2) (tv:=10) 2 1 (PV.root.box rfl) rfl rfl rfl kT35 (by simp) (by simp) (by decide) (zG rfl) rfl rfl rfl iI iI [1] rfl [] rfl rfl rfl (λ _ _ st21=>?_)
 refine aHN (st21.pkZ 1) ?_
 refine aK0 (za (wp_ret ?_))
 exact st21.rnC 2 rfl kT35 rfl iI h17
def YI:Option Spec:=
some (⟨(0:Int),(-1:Int),[]⟩:Spec)
theorem zaO{r:Spec}(h:YI=some r):FnN prog 56 [] (.ow (owSpec (Ow.row 3 (Ow.frz (α:=Int)))) r):=by
 unfold YI at h
 refine fnN (fn:=f56) 3 func56 rfl (oD rfl) rfl (λ M _ _ st0=>wp_seq (wp_region_list ?_))
 refine st0.alcW (ow:=(owSpec (Ow.row 3 (Ow.frz (α:=Int))))) 2 rfl rfl kZ37 (owSpec.z Ow.row_z) (by simp) [] rfl [] rfl rfl (λ b1 _ _ _ st1=>wpList_nil (za (wp_seq (wp_region_list ?_))))
 refine st1.segB 1 (sc rfl (wT (α:=Int) (e:=3) rfl kS30)<|.nil) [] [(0,2),(1,0)] (λ _ _ st2=>?_)
 have st4:=st2.tipW (s:=1) 0 rfl rfl iE [0] rfl
 refine st4.bldW (ow:=(owSpec (Ow.row 3 (Ow.frz (α:=Int))))) (parts:=[(0,.const (.int .i64 0)),(1,.const (.int .i64 (-1))),(2,.tmp 1)]) (ns:=[1,1,1]) (zs:=Jd) (x:=(⟨(0:Int),(-1:Int),[]⟩:Spec)) 1 [0] rfl rfl rfl kB37 kC37 (by
 intro p hp;simp only[List.mem_cons,List.not_mem_nil,or_false] at hp
 rcases hp with rfl | rfl | rfl
 ·
  exact⟨by decide,rfl⟩
 ·
  exact⟨by decide,rfl⟩
 ·
  exact⟨by decide,Ow.len _ (jO (st4.st.has 1 _ rfl))⟩) (((owSpec (Ow.row 3 (Ow.frz (α:=Int))))).more (owSpec.mk (x:=(⟨(0:Int),(-1:Int),[]⟩:Spec)) (OpdR.cells cI (λ s y hs=>st4.st.has s y hs)) (OpdR.cells cI (λ s y hs=>st4.st.has s y hs)) (jO (st4.st.has 1 _ rfl))) (λ b=>(λ hb=>⟨0,by simp,hb⟩))) (by simp) [] rfl [0] rfl rfl rfl (λ G3 _ _ st3=>?_)
 have st5:=st3.gs (Gs':=[oneB none,G3,(oneB (some b1))]) rfl
 refine st5.stO (sb:=0) (tv:=2) 2 1 (PV.root.box rfl) rfl rfl rfl kT37 (by simp) (by simp) (by decide) (zG rfl) rfl rfl rfl iI iI [] rfl [] rfl rfl rfl (λ _ _ st6=>wpList_nil (za (wp_ret ?_)))
 exact st6.rnC 2 rfl kT37 rfl iI h
def yO(x0:Finder)(x1:Disk)(x2:List Int)(x3:Str):Option (Finder×Spec):=
(ya x0).bind λ v6=>
(gO ((!v6) == false) (yD x1)).bind λ v7=>
(gO (((!v6)||(!v7)) == false) (y6 x2)).bind λ v8=>
(gO ((((!v6)||(!v7))||(!v8)) == false) (yc x3)).bind λ v9=>
if((((!v6)||(!v7))||(!v8))||(!v9))=true then((YI).bind λ v21=>
some ((⟨[],0,0⟩:Finder),v21))
else((wB x0).bind λ v30=>
(j4 x1 x1.tree x2 x3 v30).bind λ v39=>
(appO 8 [] v39.2.roots).bind λ v48=>
(wB v39.1).bind λ v58=>
some (v58,{ v39.2 with roots:=v48 }))
theorem xv{x0:Finder}{x1:Disk}{x2:List Int}{x3:Str}{r:Finder×Spec}(h:yO x0 x1 x2 x3=some r):FnN prog 14 [dt x0,dt x1,dt x2,dt x3] (.too (owFinder (Ow.row 77 (owDir (Ow.row 9 (Ow.frz (α:=Str)))))) r.1 (owSpec (Ow.row 3 (Ow.frz (α:=Int)))) r.2):=by
 unfold yO at h
 refine fnN (fn:=f14) 11 func14 rfl (oD rfl) rfl (λ M _ _ st0=>wp_seq (wp_region_list ?_))
 refine st0.segA 2 [2,3,4,5] [] (λ _ _ st1=>?_)
 refine st1.alcW (ow:=(owFinder (Ow.row 77 (owDir (Ow.row 9 (Ow.frz (α:=Str))))))) 7 rfl rfl kZ35 (owFinder.z Ow.row_z) (by simp) [2,3,4,5] rfl [] rfl rfl (λ b2 _ _ _ st2=>?_)
 have st3:=st2.gn
 refine st3.alcW (ow:=(owSpec (Ow.row 3 (Ow.frz (α:=Int))))) 8 rfl rfl kZ37 (owSpec.z Ow.row_z) (by simp) [2,3,4,5] rfl [8] rfl rfl (λ b4 _ _ _ st4=>?_)
 have st5:=st4.gn
 refine wpList_nil (za (wp_seq ?_))
 obtain⟨v6,p6,v7,p7,v8,p8,v9,p9,h13⟩:=bsD h
 refine st5.sqB (sP 1 (r:=by exact sc rfl (oK (yT p6))<|sP 3 (r:=by exact sg rfl rfl (λ hg=>oK (wz (gh hg p7)))<|sP 4 (r:=by exact sg rfl rfl (λ hg=>oK (qw (gh hg p8)))<|sP 4 (r:=by exact sg rfl rfl (λ hg=>oK (yM (gh hg p9)))<|segC))))) [2,3,4,5,29] [(8,7),(9,8)] (λ _ _ st14=>?_)
 refine st14.cs rfl h13 (λ _ h15=>wp_seq (wp_region_list ?_)) (λ _ h16=>wp_skip (za (wp_seq (wp_region_list ?_))))
 ·
  refine st14.bldW (ow:=(owFinder (Ow.row 77 (owDir (Ow.row 9 (Ow.frz (α:=Str))))))) (parts:=[]) (ns:=[1,1,1]) (zs:=Xw) (x:=(⟨[],0,0⟩:Finder)) 0 [] rfl rfl rfl kB35 kC35 (by simp) (((owFinder (Ow.row 77 (owDir (Ow.row 9 (Ow.frz (α:=Str))))))).more (owFinder.mk (x:=(⟨[],0,0⟩:Finder)) (Ow.row_z _ _) ⟨rfl,trivial⟩ ⟨rfl,trivial⟩) (λ b=>(λ hb=>hb.elim))) (by simp) [] rfl [8,9] rfl rfl rfl (λ G17 _ _ st17=>?_)
  have st18:=st17.gs (Gs':=[G17,oneB none,oneB none,oneB none,oneB none,oneB none,oneB none,(oneB (some b2)),(oneB (some b4)),oneB none,oneB none]) rfl
  have st19:=st18.gs (Gs':=[G17,oneB none,oneB none,oneB none,oneB none,oneB none,oneB none,(oneB (some b2)),(oneB (some b4)),oneB none,oneB none]) rfl
  obtain⟨v21,p21,h22⟩:=bs h15
  refine st19.cN (l:=[]) 1 rfl rfl kN56 .nil (zaO p21) (by simp) [] rfl [8,9,30] rfl rfl (λ _ _ _ _ st20=>?_)
  have st23:=st20.gn
  refine st23.stO (sb:=8) (tv:=30) 7 0 (PV.root.box rfl) rfl rfl rfl kT35 (by simp) (by simp) (by decide) (zG rfl) rfl rfl rfl iI iI [] rfl [9,31] rfl rfl rfl (λ _ _ st24=>?_)
  have st25:=st24.gn
  refine st25.stO (sb:=9) (tv:=31) 8 1 (PV.root.box rfl) rfl rfl rfl kT37 (by simp) (by simp) (by decide) (zG rfl) rfl rfl rfl iI iI [] rfl [8] rfl rfl rfl (λ _ _ st26=>?_)
  have st27:=st26.gn
  refine wpList_nil (za ?_)
  refine wp_ret (zd ?_)
  exact st27.rnCC 7 8 rfl kT35 kT37 rfl rfl iI iI (by decide) h22
 refine st14.segA 1 [2,3,5,32] [(8,7),(9,8)] (λ _ _ st28=>?_)
 obtain⟨v30,p30,h31⟩:=bs h16
 refine st28.cN (l:=[.tmp 32]) 2 rfl rfl kN57 (.cons (tp rfl) .nil) (FnN.thin (thin_via (thin_pr_l thin_row)) (qQ p30)) (by simp) [2,3,5] rfl [8,9] rfl rfl (λ _ _ _ _ st29=>?_)
 have st32:=st29.gn
 refine st32.alcW (ow:=(owFinder (Ow.row 77 (Ow.frz (α:=Dir))))) 9 rfl rfl kZ35 (owFinder.z Ow.row_z) (by simp) [2,3,5] rfl [8,9,33] rfl rfl (λ b33 _ _ _ st33=>?_)
 have st34:=st33.gn
 refine st34.stO (sb:=10) (tv:=33) 9 2 (PV.root.box rfl) rfl rfl rfl kT35 (by simp) (by simp) (by decide) (zG rfl) rfl rfl rfl iI iI [2,3,5] rfl [8,9] rfl rfl rfl (λ _ _ st35=>?_)
 have st36:=st35.gn
 refine wpList_nil (za (wp_seq (wp_region_list ?_)))
 refine st36.segB 5 (sP 4 (r:=by exact sc rfl (xMkK rfl rfl rfl)<|.nil)) [35,36,37,38] [(8,7),(9,8),(10,9)] (λ _ _ st37=>?_)
 obtain⟨v39,p39,h40⟩:=bs h31
 refine st37.cMF (l:=[.tmp 35,.tmp 36,.tmp 37]) 3 9 (st37.bkK (sk:=38) (so:=10) rfl rfl iI) rfl rfl rfl kN58 rfl (by simp) (.cons (tp rfl) (.cons (tp rfl) (.cons (tp rfl) .nil))) (Q8 p39) [] rfl [8,9] rfl rfl (by decide) (λ _ _ _ _ st38=>?_)
 have st41:=st38.gn
 refine st41.alcW (ow:=(owSpec (Ow.row 3 (Ow.frz (α:=Int))))) 10 rfl rfl kZ37 (owSpec.z Ow.row_z) (by simp) [39] rfl [8,9,10] rfl rfl (λ b42 _ _ _ st42=>?_)
 have st43:=st42.gn
 refine st43.stFz (ow2:=(owSpec (Ow.frz (α:=List Int)))) (sb:=11) 10 owSpec.ofR rfl rfl rfl kT37 (by simp) rfl (tp rfl) iI [] rfl [8,9,10] rfl rfl (λ _ st44=>wpList_nil (za (wp_seq (wp_region_list ?_))))
 refine st44.segB 3 (sc rfl (wT (α:=Int) (e:=3) rfl kS30)<|sc rfl (xFa rfl kF37_2 (zG rfl))<|sc rfl (xLf (sb:=11) ((PV.root.box rfl).fld owSpec.f2) rfl kT30 (tp rfl) rfl)<|.nil) [42] [(8,7),(9,8),(10,9),(11,10),(40,4)] (λ _ _ st45=>?_)
 obtain⟨v48,p48,h49⟩:=bs h40
 refine st45.apA 4 wO p48 [] [8,9,10,11] (λ g47 _ _ _ st47=>?_)
 have st50:=st47.gn
 refine st50.segB 1 (sc rfl (xFa rfl kF37_2 (zG rfl))<|.nil) [44] [(8,7),(9,8),(10,9),(11,10),(43,4)] (λ _ _ st51=>?_)
 have st52:=st51.tipW (s:=43) 4 rfl rfl iI [8,9,10,11] rfl
 refine st52.stTk (off:=2) (ow2:=(owSpec (Ow.row 3 (Ow.frz (α:=Int))))) (x2:={ v39.2 with roots:=v48 }) (sb:=11) (tv:=43) 10 4 (by decide) owSpec.tk rfl rfl rfl kT30 (by simp) (by simp) (by decide) (tp rfl) rfl rfl iI iI [] rfl [8,9,10] rfl rfl rfl (λ _ _ st53=>?_)
 have st54:=st53.gn
 refine wpList_nil (za (wp_seq ?_))
 obtain⟨v58,p58,h66⟩:=bs h49
 refine st54.any zD (λ _ st67=>?_)
 refine an2 (i:=0) (j:=2) (by decide +kernel) rfl rfl ?_ ?_
 ·
  refine st67.hdW (s:=10) 9 true (λ _=>(PV.root.box rfl)) rfl rfl iI [8,9,11] rfl (λ cs68 hS68 st68=>?_)
  refine st68.segB 1 (sc rfl (xLw (sb:=10) (.head _) rfl (hS68 rfl) rfl kT35 (zG rfl) rfl)<|.nil) [45] [(8,7),(9,8),(10,9),(11,10)] (λ _ _ st69=>anN ?_)
  refine an2 (i:=1) (j:=2) (by decide +kernel) rfl rfl ?_ ?_
  ·
   refine st69.cNb (l:=[.tmp 45]) 5 rfl rfl kN57 st69.ob.sub (.cons (lendP (sb:=10) st69.ob 9 (PV.root.box rfl) (.head _) rfl (QY rfl (hS68 rfl)) (tp rfl) rfl iI) .nil) (qQ p58) (owFinder.full (Wh (owDir.full (Wh Q0)))) (by simp) [] rfl [8,9,11] rfl rfl (λ _ _ _ _ st70=>?_)
   have st71:=st70.gn
   refine anN ?_
   refine an2 (i:=2) (j:=3) (by decide +kernel) rfl rfl ?_ ?_
   ·
    refine st71.ldW (sb:=11) 10 rfl rfl kT37 rfl (by simp) iI [] rfl [8,9,46] rfl rfl (λ _ _ st72=>anN ?_)
    refine an1 (i:=3) (by decide +kernel) rfl ?_
    refine st72.stO (sb:=8) (tv:=46) 7 5 (PV.root.box rfl) rfl rfl rfl kT35 (by simp) (by simp) (by decide) (zG rfl) rfl rfl rfl iI iI [] rfl [9,47] rfl rfl rfl (λ _ _ st73=>?_)
    have st74:=st73.gn
    refine anN ?_
    refine an1 (i:=4) (by decide +kernel) rfl ?_
    refine st74.stO (sb:=9) (tv:=47) 8 10 (PV.root.box rfl) rfl rfl rfl kT37 (by simp) (by simp) (by decide) (zG rfl) rfl rfl rfl iI iI [] rfl [8] rfl rfl rfl (λ _ _ st75=>?_)
    have st76:=st75.gn
    refine anN ?_
    refine an0 (by decide +kernel) ?_
    refine za (wp_ret ?_)
    exact st76.rnCC 7 8 rfl kT35 kT37 rfl rfl iI iI (by decide) h66
   ·
    refine st71.stO (sb:=8) (tv:=46) 7 5 (PV.root.box rfl) rfl rfl rfl kT35 (by simp) (by simp) (by decide) (zG rfl) rfl rfl rfl iI iI [] rfl [9,11] rfl rfl rfl (λ _ _ st77=>?_)
    have st78:=st77.gn
    refine anN ?_
    refine an1 (i:=2) (by decide +kernel) rfl ?_
    refine st78.ldW (sb:=11) 10 rfl rfl kT37 rfl (by simp) iI [] rfl [8,9] rfl rfl (λ _ _ st79=>anN ?_)
    refine an1 (i:=4) (by decide +kernel) rfl ?_
    refine st79.stO (sb:=9) (tv:=47) 8 10 (PV.root.box rfl) rfl rfl rfl kT37 (by simp) (by simp) (by decide) (zG rfl) rfl rfl rfl iI iI [] rfl [8] rfl rfl rfl (λ _ _ st80=>?_)
    have st81:=st80.gn
    refine anN ?_
    refine an0 (by decide +kernel) ?_
    refine za (wp_ret ?_)
    exact st81.rnCC 7 8 rfl kT35 kT37 rfl rfl iI iI (by decide) h66
  ·
   refine st69.ldW (sb:=11) 10 rfl rfl kT37 rfl (by simp) iI [45] rfl [8,9,10] rfl rfl (λ _ _ st82=>anN ?_)
   refine an1 (i:=1) (by decide +kernel) rfl ?_
   refine st82.cNb (l:=[.tmp 45]) 5 rfl rfl kN57 st82.ob.sub (.cons (lendP (sb:=10) st82.ob 9 (PV.root.box rfl) (.head _) rfl (QY rfl (hS68 rfl)) (tp rfl) rfl iI) .nil) (qQ p58) (owFinder.full (Wh (owDir.full (Wh Q0)))) (by simp) [] rfl [8,9,47] rfl rfl (λ _ _ _ _ st83=>?_)
   have st84:=st83.gn
   refine anN ?_
   refine an1 (i:=3) (by decide +kernel) rfl ?_
   refine st84.stO (sb:=8) (tv:=46) 7 5 (PV.root.box rfl) rfl rfl rfl kT35 (by simp) (by simp) (by decide) (zG rfl) rfl rfl rfl iI iI [] rfl [9,47] rfl rfl rfl (λ _ _ st85=>?_)
   have st86:=st85.gn
   refine anN ?_
   refine an1 (i:=4) (by decide +kernel) rfl ?_
   refine st86.stO (sb:=9) (tv:=47) 8 10 (PV.root.box rfl) rfl rfl rfl kT37 (by simp) (by simp) (by decide) (zG rfl) rfl rfl rfl iI iI [] rfl [8] rfl rfl rfl (λ _ _ st87=>?_)
   have st88:=st87.gn
   refine anN ?_
   refine an0 (by decide +kernel) ?_
   refine za (wp_ret ?_)
   exact st88.rnCC 7 8 rfl kT35 kT37 rfl rfl iI iI (by decide) h66
 ·
  refine st67.ldW (sb:=11) 10 rfl rfl kT37 rfl (by simp) iI [] rfl [8,9,10] rfl rfl (λ _ _ st89=>anN ?_)
  refine an1 (i:=0) (by decide +kernel) rfl ?_
  refine st89.hdW (s:=10) 9 true (λ _=>(PV.root.box rfl)) rfl rfl iI [8,9,47] rfl (λ cs90 hS90 st90=>?_)
  refine st90.segB 1 (sc rfl (xLw (sb:=10) (.head _) rfl (hS90 rfl) rfl kT35 (zG rfl) rfl)<|.nil) [45] [(8,7),(9,8),(10,9),(47,10)] (λ _ _ st91=>anN ?_)
  refine an1 (i:=1) (by decide +kernel) rfl ?_
  refine st91.cNb (l:=[.tmp 45]) 5 rfl rfl kN57 st91.ob.sub (.cons (lendP (sb:=10) st91.ob 9 (PV.root.box rfl) (.head _) rfl (QY rfl (hS90 rfl)) (tp rfl) rfl iI) .nil) (qQ p58) (owFinder.full (Wh (owDir.full (Wh Q0)))) (by simp) [] rfl [8,9,47] rfl rfl (λ _ _ _ _ st92=>?_)
  have st93:=st92.gn
  refine anN ?_
  refine an1 (i:=3) (by decide +kernel) rfl ?_
  refine st93.stO (sb:=8) (tv:=46) 7 5 (PV.root.box rfl) rfl rfl rfl kT35 (by simp) (by simp) (by decide) (zG rfl) rfl rfl rfl iI iI [] rfl [9,47] rfl rfl rfl (λ _ _ st94=>?_)
  have st95:=st94.gn
  refine anN ?_
  refine an1 (i:=4) (by decide +kernel) rfl ?_
  refine st95.stO (sb:=9) (tv:=47) 8 10 (PV.root.box rfl) rfl rfl rfl kT37 (by simp) (by simp) (by decide) (zG rfl) rfl rfl rfl iI iI [] rfl [8] rfl rfl rfl (λ _ _ st96=>?_)
  have st97:=st96.gn
  refine anN ?_
  refine an0 (by decide +kernel) ?_
  refine za (wp_ret ?_)
  exact st97.rnCC 7 8 rfl kT35 kT37 rfl rfl iI iI (by decide) h66
def wh(x0:Finder)(x1:Disk)(s13:(List Int)×Int):Option (((List Int)×Int)⊕(List Int)):=
if(cmpI .lss s13.2 (x0.dirs.length:Int))=true then(Option.bind (α:=(List Int)) ((atI x0.dirs s13.2).bind λ v19=>
(xC x1 v19.root v19.pkg).bind λ v27=>
(gO (cmpI .eql v19.stamp v27 == true) (jF x1.tree v19.root v19.pkg)).bind λ v28=>
(gO (cmpI .eql v19.stamp v27 == true) (yV v19.names v28)).bind λ v29=>
if(cmpI .eql v19.stamp v27&&(!v29))=true then((appO 8 s13.1 ([s13.2]:List Int)).bind λ v39=>
some v39)
else(some s13.1)) λ o18=>
(i64 (s13.2+(1:Int))).bind λ v43=>
some (.inl (o18,v43)))
else(some (.inr s13.1))
def wC(x0:Finder)(x1:Disk):Option (List Int):=
(ya x0).bind λ v3=>
(gO ((!v3) == false) (yD x1)).bind λ v4=>
if((!v3)||(!v4))=true then(some [])
else(Option.bind (α:=(List Int)) (zS (λ s13=>wh x0 x1 s13) ([],(0:Int))) λ o11=>
some o11)
theorem YJ{x0:Finder}{x1:Disk}{r:List Int}(h:wC x0 x1=some r):FnOwn prog 32 [dt x0,dt x1] 3 r:=by
 unfold wC at h
 refine fnxO (fn:=f32) 2 func32 rfl (oD rfl) rfl (λ M w0 _ st0=>?_)
 refine st0.sq2 (sP 2 (r:=by exact sc rfl (oA rfl (Zl (α:=Int) (e:=3)))<|.nil)) [2,3] (λ _ _ st1=>?_)
 refine st1.sqB (sc rfl (wT (α:=Int) (e:=3) rfl kS30)<|segC) [2,3] [(5,0)] (λ _ _ st2=>wp_seq ?_)
 obtain⟨v3,p3,v4,p4,h6⟩:=bsB h
 refine st2.sqB (sP 1 (r:=by exact sc rfl (oK (yT p3))<|sP 3 (r:=by exact sg rfl rfl (λ hg=>oK (wz (gh hg p4)))<|segC))) [2,3,16] [(5,0)] (λ _ _ st7=>?_)
 refine st7.cs rfl h6 (λ _ h8=>?_) (λ _ h9=>wp_skip (za ?_))
 ·
  refine st7.sqA [] [(4,0)] (λ _ _ st10=>wp_ret (zd ?_))
  exact st10.ret_own 0 rfl rfl iE h8
 obtain⟨o11,p11,k11⟩:=bs h9
 refine zm (λ a w=>∃ M1 q11_0 q11_1,Sx (Frm.of w0) 54 M M1 [oneB q11_0,oneB q11_1] [] [(5,0,dtip q11_0 3 o11)] a w) ?_ ?_
 ·
  refine st7.sqA [3,19,20,21] [(5,0)] (λ _ _ st12=>wp_block ?_)
  refine zL p11 (λ s13 a w=>∃ M1 q13_0 q13_1,Sx (Frm.of w0) 54 M M1 [oneB q13_0,oneB q13_1] [(3,dptr x1),(19,dt x0.dirs),(20,dt (x0.dirs.length:Int)),(21,dt s13.2)] [(5,0,dtip q13_0 3 s13.1)] a w) fx ?_
  rintro s13 z13 a13 w13 ⟨M13,q13_0,q13_1,st13⟩ hs13 hx13
  have h14:wh x0 x1 s13=some z13:=hs13
  unfold wh at h14
  refine st13.sqA [3,19,20,21,22] [(5,0)] (λ _ _ st15=>wp_seq ?_)
  refine st15.cs rfl h14 (λ _ h16=>wp_skip (za ?_)) (λ _ h17=>wp_exit (zh (zh (zE ?_))))
  ·
   obtain⟨o18,p18,k18⟩:=bs h16
   refine zm (λ a w=>∃ M1 q18_0 q18_1,Sx (Frm.of w0) 54 M M1 [oneB q18_0,oneB q18_1] [(3,dptr x1),(19,dt x0.dirs),(20,dt (x0.dirs.length:Int)),(21,dt s13.2)] [(5,0,dtip q18_0 3 o18)] a w) ?_ ?_
   ·
    refine wp_block (wp_seq (wp_region_list ?_))
    obtain⟨v19,p19,h20⟩:=bs p18
    refine st15.segA 3 [3,19,20,21,23,25] [(5,0)] (λ _ _ st21=>?_)
    refine st21.alA 1 zrDir [3,19,20,21,23,25] [5] (λ b23 _ _ _ st23=>?_)
    refine st23.segA 1 [3,6,19,20,21,25] [(5,0),(7,1)] (λ _ _ st24=>?_)
    refine st24.stA 7 1 FldS.id (tp rfl) [3,6,19,20,21] [5] (λ _ _ st26=>wpList_nil (za (wp_seq ?_)))
    obtain⟨v27,p27,v28,p28,v29,p29,h32⟩:=bsC h20
    refine st26.drA (D:=[_,_,_,_,_,_,_,_,_,_,_,_,_,_,_,_,_,_,_,_,_,_]) zD [[(7,nS)],[(26,0)],[(3,nS)],[(7,nS)],[(29,3)],[(7,nS)],[(31,5)],[(28,2),(30,4),(32,6)],[(27,1),(33,7)],[(34,8)],[(7,nS),(35,9)],[(36,10),(35,9)],[(3,nS),(35,9)],[(38,12),(35,9)],[(7,nS),(35,9)],[(40,14),(35,9)],[(7,nS),(35,9)],[(42,16),(35,9)],[(39,13),(41,15),(43,17),(35,9)],[(37,11),(44,18),(35,9)],[(45,19),(35,9)],[(35,9),(46,20)]] [3,6,19,20,21,47] [(5,0)] (λ _ _ st33=>?_) (hs:=rc rfl rfl (zB Dir.fld2 rfl Xb (tp rfl))<|rc rfl rfl (zf rfl kT3 (tp rfl))<|rc rfl rfl (zp rfl kT45 (tp rfl))<|rc rfl rfl (zB Dir.fld0 rfl YF (tp rfl))<|rc rfl rfl (zf rfl kT3 (tp rfl))<|rc rfl rfl (zB Dir.fld1 rfl YG (tp rfl))<|rc rfl rfl (zf rfl kT9 (tp rfl))<|rc rfl rfl (zo (l:=[.tmp 28,.tmp 30,.tmp 32]) rfl kN79 (.cons (tp rfl) (.cons (tp rfl) (.cons (tp rfl) .nil))) (XA p27))<|rc rfl rfl (oCI rfl (tp rfl) (tp rfl))<|rc rfl rfl (oM rfl (tp rfl))<|rg rfl rfl rfl (λ hg=>zB Dir.fld3 rfl YH (tp rfl))<|rg rfl rfl rfl (λ hg=>zf rfl kT75 (ze hg rfl))<|rg rfl rfl rfl (λ hg=>zv Disk.fld0 rfl Yl (tp rfl))<|rg rfl rfl rfl (λ hg=>zp rfl kT43 (ze hg rfl))<|rg rfl rfl rfl (λ hg=>zB Dir.fld0 rfl YF (tp rfl))<|rg rfl rfl rfl (λ hg=>zf rfl kT3 (ze hg rfl))<|rg rfl rfl rfl (λ hg=>zB Dir.fld1 rfl YG (tp rfl))<|rg rfl rfl rfl (λ hg=>zf rfl kT9 (ze hg rfl))<|rg rfl rfl rfl (λ hg=>zo (l:=[.tmp 39,.tmp 41,.tmp 43]) rfl kN81 (.cons (ze hg rfl) (.cons (ze hg rfl) (.cons (ze hg rfl) .nil))) ((XC (gh hg p28))).fn)<|rg rfl rfl rfl (λ hg=>zo (l:=[.tmp 37,.tmp 44]) rfl kN80 (.cons (ze hg rfl) (.cons (ze hg rfl) .nil)) (Xa (gh hg p29)))<|rg rfl rfl rfl (λ hg=>yE rfl (ze hg rfl))<|rc rfl rfl (yK rfl (tp rfl) (zb rfl))<|.nil)
    refine za ?_
    refine st33.cs rfl h32 (λ _ h34=>wp_region_list ?_) (λ _ h35=>wp_skip (zg (za ?_)))
    ·
     refine st33.segC 3 [3,19,20,21,50] [(5,0),(48,0)] (λ _ _ st36=>?_)
     obtain⟨v39,p39,h40⟩:=bs h34
     refine st36.apA 0 wO p39 [3,19,20,21] [] (λ g38 _ _ _ st38=>?_)
     refine st38.segA 1 [3,19,20,21] [(5,0)] (λ _ _ st41=>wpList_nil (zg (za ?_)))
     cases h40
     exact fx
    cases h35
    exact fx
   rintro a18 w18 ⟨M18,q18_0,q18_1,st18⟩
   have h42:=k18
   obtain⟨v43,p43,h44⟩:=bs h42
   refine st18.rgA [3,19,20,21] [(5,0)] (λ _ _ st45=>za ?_)
   exact fl h44
  refine za ?_
  have h46:=lo h17 hx13
  cases h46
  exact fx
 rintro a11 w11 ⟨M11,q11_0,q11_1,st11⟩
 have h47:=k11
 refine st11.sqA [] [(4,0)] (λ _ _ st48=>wp_ret ?_)
 exact st48.ret_own 0 rfl rfl iI h47
end Go.Proofs.YtdoidiipacdbpaaGreatDoor
