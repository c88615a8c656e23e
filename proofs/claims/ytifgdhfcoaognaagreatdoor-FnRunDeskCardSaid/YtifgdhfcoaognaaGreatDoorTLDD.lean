import Derived.Test.YtifgdhfcoaognaaGreatDoorTH
import Derived.Test.YtifgdhfcoaognaaGreatDoorTB
import Derived.Test.YtifgdhfcoaognaaGreatDoorTO
import Derived.Test.YtifgdhfcoaognaaGreatDoorTKb
import Derived.Test.YtifgdhfcoaognaaGreatDoorTW
import Derived.Test.YtifgdhfcoaognaaGreatDoorTQ
import Derived.Test.YtifgdhfcoaognaaGreatDoorRows
import Derived.LaidMore
import Derived.LaidLaws
import Derived.LaidSub
import Derived.MakeChecks
import Derived.ProofKit
import Derived.Deep.Slices
namespace Go.Proofs.YtifgdhfcoaognaaGreatDoor
open Go.RowKit Go.Proofs.Tryz
attribute [local irreducible] OpRel OpdR
set_option maxRecDepth 10000
set_option maxHeartbeats 1600000
variable{ms:Array (String×TypeId)}{r:Bool}{d:DataW Unit}{l:List (String×DataW Unit)}{p ps:List MemPlace}{L:List Str}{x0:List UInt8}{fuel g u:Nat}{P:Program}{R:Rec}{x:Str}{name:String}{e t ti:TypeId}{w:World}
def wI(R:Rec)(v7:Str×(List Int)×(List Str))(v10:Str)(s25:Int):Option (Int⊕(Unit⊕Bool)):=
if(cmpI .leq s25 (v7.2.2.length:Int))=true then((JJ v7.2.2 s25).bind λ v30=>
(jp R v7.1 v7.2.1 v30).bind λ v31=>
(gO (cmpI .gtr (v31.l.length:Int) (v10.l.length:Int) == false) (JI v10 (v31.l.length:Int))).bind λ v35=>
if(cmpI .gtr (v31.l.length:Int) (v10.l.length:Int)||decide (v35≠v31))=true then(some (.inr (.inr false)))
else((i64 (s25+(1:Int))).bind λ v43=>
some (.inl v43)))
else(some (.inr (.inl ())))
def Yt(R:Rec)(x0:List UInt8):Option Bool:=
if(cmpI .gtr (x0.length:Int) 1048576)=true then(some true)
else((j0 x0).bind λ v7=>
(jp R v7.1 v7.2.1 v7.2.2).bind λ v10=>
(jq R v7.1 v7.2.1 v7.2.2).bind λ v13=>
(gO ((decide (v10≠v13)||cmpI .gtr (v7.2.2.length:Int) 20) == false) (wo v7.2.1)).bind λ v14=>
if((decide (v10≠v13)||cmpI .gtr (v7.2.2.length:Int) 20)||(!v14))=true then((jq R v7.1 v7.2.1 v7.2.2).bind λ v20=>
some (decide (v10=v20)))
else(Option.bind (α:=Unit⊕Bool) (zP (λ s25=>wI R v7 v10 s25) (0:Int)) (Sum.elim (λ _b23=>
(ZH v10).bind λ v48=>
some (cmpI .eql v48 (v7.2.2.length:Int))) some)))
theorem zdu(hR:R.ok)(h:Yt R x0=some r):Fn prog 3 [wg (dt x0)] (dt r):=by
 unfold Yt at h
 refine fnx (fn:=f3) 0 func3 Z Z λ M w0 _ st0=>?_
 have st1:=st0.glb (s:=0) (g:=75)
 refine st1.sq1 [0,75] (λ st2=>Kc ?_)
 refine st2.sq1 [0,11,75] λ st3=>?_
 refine st3.cs h (λ _ h4=>?_) (λ _ h5=>wp_skip ?_)
 ·refine st3.sq1 [2,75] (λ st6=>wp_ret (zK ?_))
  exact st6.ret Z Z h4
 refine za ?_
 obtain⟨v7,p7,h8⟩:=bsW h5 W4
 refine st3.sq1 [3,4,5,75] λ st9=>?_
 have⟨v10,p10,h11⟩:=bs h8
 refine st9.sq2 (sP 3 (r:=by exact sc Z (zA (l:=[.tmp 18,.tmp 19,.tmp 20]) Z (.cons (zbD (s:=75) Z T) (.cons T (.cons T .nil))) (zai hR p10))<|segC)) [3,4,5,6,75] (λ st12=>Kc ?_)
 obtain⟨v13,p13,v14,p14,h16⟩:=bsB h11
 refine st12.sq2 (sP 4 (r:=by exact sc Z (oK (zaj hR p13))<|sP 8 (r:=by exact sg Z Z (λ hg=>oK (Zh (gh hg p14)))<|segC))) [3,4,5,6,37,75] λ st17=>?_
 refine st17.cs h16 (λ _ h18=>?_) (λ _ h19=>wp_skip ?_)
 ·obtain⟨v20,p20,h21⟩:=bsW h18 (zaj hR)
  refine st17.sq1 [2,75] (λ st22=>wp_ret (zK ?_))
  exact st22.ret Z Z h21
 refine za ?_
 have⟨o23,p23,k23⟩:=bs h19
 refine jg (λ a w=>∃ b23,o23=.inl b23/\Sx (Frm.of w0) 74 M M [] [(5,dt v7.2.2),(6,dt v10),(75,dgl)] [] a w) ?_ ?_
 ·refine st17.sq1 [3,4,5,6,7,75] (λ st24=>wp_block ?_)
  refine XI p23 (λ s25 a w=>Sx (Frm.of w0) 74 M M [] [(3,dt v7.1),(4,dt v7.2.1),(5,dt v7.2.2),(6,dt v10),(7,dt s25),(75,dgl)] [] a w) (st24.sel0 [3,4,5,6,7,75]) ?_
  rintro s25 z25 a25 w25 st25 hs25 hx25
  have h26:wI R v7 v10 s25=some z25:=hs25
  unfold wI at h26
  refine Kc ?_
  refine st25.sq1 [3,4,5,6,7,47,75] λ st27=>?_
  refine st27.cs h26 (λ _ h28=>wp_skip ?_) (λ _ h29=>wp_exit (zZ (zZ (y6 ?_))))
  ·refine za ?_
   refine Kc ?_
   refine wp_block ?_
   obtain⟨v30,p30,v31,p31,h33⟩:=bsB h28
   refine st27.sq2 (sP 4 (r:=by exact sc Z (za1 Z T T p30)<|sc Z (zA (l:=[.tmp 50,.tmp 51,.tmp 54]) Z (.cons (zbD (s:=75) Z T) (.cons T (.cons T .nil))) (zai hR p31))<|segC)) [3,4,5,6,7,8,75] λ st34=>?_
   have⟨v35,p35,h36⟩:=bs h33
   refine st34.sq2 (sP 9 (r:=by exact sg Z Z (λ hg=>xCutH Z V V (gh hg p35))<|segC)) [3,4,5,6,7,68,75] λ st37=>?_
   refine st37.cs h36 (λ _ h38=>?_) (λ _ h39=>wp_skip ?_)
   ·refine st37.sq1 [2,75] (λ st40=>wp_ret (yq (zK (zK (yq (zK ?_))))))
    have h41:=lo h38 hx25
    have h42:=jo h41 k23
    exact st40.ret Z Z h42
   refine z3 ?_
   refine za ?_
   have⟨v43,p43,h44⟩:=bs h39
   refine st37.rg1 [3,4,5,6,7,75] (λ _ _ st45=>za ?_)
   exact⟨_,(Option.some.inj h44).symm,st45.sel0 [3,4,5,6,7,75]⟩
  refine za ?_
  have h46:=lo h29 hx25
  exact⟨_,(Option.some.inj h46).symm,st27.sel0 [5,6,75]⟩
 rintro a23 w23 ⟨b23,rfl,st23⟩
 have h47:=jn k23
 obtain⟨v48,p48,h49⟩:=bsW h47 QJ
 refine st23.sq1 [2,75] (λ st50=>wp_ret ?_)
 exact st50.ret Z Z h49
theorem zeL:∀ (l:List UInt8) (n:Int),l.foldl (λ n b=>if cmpB .eql b (UInt8.ofNat 10)=true then n+1 else n) n=n+(l.count 10:Nat)
 | [],n=>by simp
 |b::l,n=>by
  rw[List.foldl_cons,zeL l,List.count_cons]
  by_cases h:b=10
  ·subst h
   rw[Ke (by rfl),Ke (by rfl)]
   omega
  ·rw[Kf (by simpa[cmpB] using h),Kf (by simpa using h)]
   omega
theorem newlines_eq(h:x.l.length<576460752303423488):ZH x=some ((x.l.count 10:Nat):Int):=by
 have key:=ju (step:=λ s5=>xa x s5) x.l (λ n k=>(n,(k:Int))) (λ n b=>if cmpB .eql b (UInt8.ofNat 10)=true then n+1 else n) id (λ k (n:Int)=>0<=n/\n<=k) (λ k n b hk hlt hi=>?_) (λ n _=>?_) (s0:=(0:Int)) ⟨Int.le_refl _,Int.le_refl _⟩ h
 ·unfold ZH
  rw[show zP (λ s5=>xa x s5) ((0:Int),(0:Int))=_ from key,Kd,id,zeL]
  simp
 ·refine⟨?_,by split <;> omega⟩
  show xa x (n,(k:Int))=_
  unfold xa
  simp only
  rw[zI,Ke (decide_eq_true hlt),zL,hk,Kd,zS (by omega)]
  cases hb:cmpB .eql b (UInt8.ofNat 10) with
  | true=>rw[Ke Z,Ke Z,xx (by omega) (by omega)];rfl
  | false=>rw[Kf (by decide),Kf (by decide)];rfl
 ·show xa x (n,(x.l.length:Int))=_
  unfold xa
  simp only
  rw[zI,Kf (by simp)]
  rfl
theorem zdv(c:List UInt8):Yt (scc yE) c=some true:=by
 unfold Yt
 split
 ·rfl
 obtain⟨s,p,l,hd,hs,hp,hl,hx⟩:=zeK c
 have hs':s.l.length<=1048576:=by omega
 have hp':p.length<=1048576:=by omega
 have hx':∀ x∈l,x.l.length<=1048576:=λ x h=>Nat.le_trans (hx x h) (by decide)
 have h20:cmpI .gtr (l.length:Int) (20:Int)=false:=decide_eq_false (by omega)
 rw[hd,Kd]
 simp only
 cases hv:yk p with
 |false=>
  obtain⟨r,e1,e2⟩:=RunDesk_eq hs' hp' hx'
  rw[e1,Kd,e2,Kd,Zw hp',h20,hv,show decide (r≠r)=false from by simp,show((false||false) == false:Bool)=true from Z,q6,Kd,Ke (by rfl),Kd,decide_eq_true Z]
 |true=>
  obtain⟨t,b,hb,hall⟩:=zdN hs' hp' hv
  obtain⟨e1,e2⟩:=hall l (by omega) hx'
  have hlen:(ZK t b p l).l.length<=1200000000000000:=by
   have:=desk_len hb hv hp' l ⟨[]⟩ hx'
   unfold ZK
   simp only[List.length_nil] at this
   omega
  have hloop:zP (λ s25=>wI (scc yE) (s,p,l) (ZK t b p l) s25) (0:Int)=some (.inl ()):=by
   refine Xe (b:=(Sum.inl ():Unit⊕Bool)) (l.length+1) (λ k=>(k:Int)) (λ k hk=>?_) ?_ (by omega) Z
   ·obtain⟨w,hw⟩:=desk_early (t:=t) (b:=b) (p:=p) l k
    have ek:=(hall (l.take k) (by rw[List.length_take];omega) λ x h=>hx' x (List.mem_of_mem_take h)).1
    have hle:(ZK t b p (l.take k)).l.length<=(ZK t b p l).l.length:=by rw[hw,List.length_append];omega
    have hcut:(⟨(ZK t b p l).l.take (ZK t b p (l.take k)).l.length⟩:Str)=ZK t b p (l.take k):=by rw[hw,List.take_left]
    unfold wI
    simp only
    rw[Ke (show cmpI .leq (k:Int) (l.length:Int)=true from decide_eq_true (by omega)),WD (by omega),Kd,ek,Kd,show cmpI .gtr ((ZK t b p (l.take k)).l.length:Int) ((ZK t b p l).l.length:Int)=false from decide_eq_false (by omega),show((false == false):Bool)=true from Z,q6,Xd hle,Kd,hcut,show decide (ZK t b p (l.take k)≠ZK t b p (l.take k))=false from by simp,Kf (by decide),zS (by omega),Kd]
   ·unfold wI
    simp only
    rw[Kf (show ¬ cmpI .leq ((l.length+1:Nat):Int) (l.length:Int)=true from by simp[cmpI];omega)]
  rw[e1,Kd,e2,Kd,Zw hp',h20,hv,show decide (ZK t b p l≠ZK t b p l)=false from by simp,show((false||false) == false:Bool)=true from Z,q6,Kd,Kf (by decide),hloop,Kd,Sum.elim_inl,newlines_eq (by omega),Kd,desk_lines hb hv hp' hx']
  exact congrArg some (by simp[cmpI])
theorem zeM(c:List UInt8):Fn prog 3 [wg (dt c)] (dt true):=zdu (JA yE) (zdv c)
open Go.RowKit Go.ChangeShapes Go.WideShapes
section
variable{H:Type}{enc:TypeId×Value->H}{sp:Nat->Bool}{held:Bool}
theorem strs_of{cs:List Value}(ht:P.underlying t=some (.slice e))(hs:P.underlying e=some .string)
  (h:DataW.trod enc P w 0 sp held fuel t cs=some (.slice (L.map λ s=>.lit (.string s.l)) [],p))(hL:L≠[]:=by decide)(hc:P.cellsOf e=1:=by kernel_rfl):Rep.rdc noB w cs L:=by
 have hcap:∃ A n c,cs=[.slice A n c]/\n<=c/\c<=maxLen:=by
  rcases Deep.open_slice ht h with⟨rfl,_⟩ | ⟨a,len,cap,m,n,D,Pl,rfl,_,hl,hm,_⟩
  ·exact⟨_,_,_,Z,Nat.le_refl _,Nat.zero_le _⟩
  ·exact⟨_,_,_,Z,hl,hm⟩
 obtain⟨a,cap,rfl,hl,hat⟩:=open_row ht hc h
 obtain⟨A,n,c,he,h1,h2⟩:=hcap
 simp only[List.cons.injEq,Value.slice.injEq,and_true] at he
 obtain⟨rfl,rfl,rfl⟩:=he
 rw[List.length_map] at*
 have one:∀ i x,L[i]?=some x->w.cell? (a.add i)=some (strv x)/\x.l.length<=maxLen:=λ i x hx=>by
  obtain⟨v,k,q,hv,ht⟩:=hat i (.lit (.string x.l)) (by rw[List.getElem?_map,hx];rfl)
  obtain⟨s,hs1,hs2,hs3⟩:=DataW.trod_string hs ht
  injection hs1 with hs1
  simp only[Prod.mk.injEq,DataW.lit.injEq,Lit.string.injEq] at hs2
  have e:v=strv x:=by
   rw[hs1]
   unfold strv
   rw[hs2.1]
  exact⟨e ▸ hv,by rw[hs2.1];simpa using hs3⟩
 have hrow:∀ k,k<=L.length->∃ cells:List Value,cells.length=k/\rowR noB w cells (L.take k)/\∀ j u,cells[j]?=some u->w.cell? (a.add j)=some u:=by
  intro k
  induction k with
  | zero=>intro _;exact⟨[],Z,Z,λ j u hj=>by simp at hj⟩
  |succ k ih=>
   intro hk
   obtain⟨cells,hx,hr,hcl⟩:=ih (by omega)
   obtain⟨x,hxk⟩:∃ x,L[k]?=some x:=⟨_,List.getElem?_eq_getElem (by omega)⟩
   obtain⟨o1,o2⟩:=one k x hxk
   refine⟨cells++[strv x],by simp[hx],?_,λ j u hj=>?_⟩
   ·rw[List.take_add_one,hxk]
    exact Z2 hr (zbO ⟨Z,o2⟩)
   ·by_cases hjl:j<cells.length
    ·rw[List.getElem?_append_left hjl] at hj;exact hcl j u hj
    ·rw[List.getElem?_append_right (by omega)] at hj
     have hj2:=(List.getElem?_eq_some_iff.1 hj).1
     simp only[List.length_cons,List.length_nil] at hj2
     have hj3:j=k:=by omega
     subst hj3
     rw[hx,Nat.sub_self] at hj
     simp only[List.getElem?_cons_zero,Option.some.injEq] at hj
     rw[← hj];exact o1
 obtain⟨cells,hx,hr,hcl⟩:=hrow L.length (Nat.le_refl _)
 rw[List.take_length] at hr
 refine⟨some a,cap,Z,hl,h2,.inr ?_⟩
 obtain⟨x,hx0⟩:∃ x,L[0]?=some x:=by
  cases L with
  | nil=>exact absurd Z hL
  | cons x _=>exact⟨x,Z⟩
 have hspot:a.spot=none:=by simpa[Addr.add] using World.cell?_spot (one 0 x hx0).1
 obtain⟨b,o,s⟩:=a
 subst hspot
 exact⟨b,o,cells,Z,λ hf=>hf,λ j u hj=>by rw[← add_plain];exact hcl j u hj,hr⟩
end
theorem glob_rd{α:Type}[Rep α]{x:α}{n:String}{cs:Array Value}(hg:P.globalNamed n=some g)(hv:w.var? P n=some cs)(h:Rep.rdc noB w cs.toList x):(dptr x).rd noB w (ptrB g):=
 ⟨g,0,cs.toList,Z,λ hf=>hf,λ j u hj=>by rw[Nat.zero_add,World.var?_cell hg hv j,← hj];simp,h⟩
theorem err_of{H:Type}{enc:TypeId×Value->H}{sp:Nat->Bool}{cs:List Value}{d:DataW H}(hi:P.underlying ti=some (.interface ms))
  (h:DataW.trod enc P w 0 sp false fuel ti cs=some (.iface name d,p)):Rep.rdc noB w cs (⟨⟩:Err):=by
 obtain⟨_,u,v,rfl,_⟩:=iface_of_trod hi h
 exact⟨_,Z,.inr ⟨_,_,Z⟩⟩
theorem ty_of{t:Nat}(h:(P.globals[g]?).map (·.type)=some t)(k:(P.globals[g]?).map (·.type)=some u):t=u:=Option.some.inj (h.symm.trans k)
theorem zcN{n:String}(h:DataW.LaidVars P w l ps)(hd:(n,d)∈l)(hg:P.globalNamed n=some g)(hu:(P.globals[g]?).map (·.type)=some u:=by kernel_rfl):∃ cs fuel p,w.var? P n=some cs/\DataW.trod (λ _=>()) P w 0 (λ _=>true) false fuel u cs.toList=some (d,p):=by
 induction l generalizing ps with
 | nil=>cases hd
 |cons x l ih=>
  obtain⟨m,e⟩:=x
  obtain⟨g',t,cs,fuel,p,q,h1,h2,h3,h4,h5,_⟩:=h
  rcases List.mem_cons.1 hd with he | hd
  ·injection he with e1 e2
   subst e1;subst e2
   obtain rfl:=Option.some.inj (h1.symm.trans hg)
   obtain rfl:=ty_of h2 hu
   exact⟨cs,fuel,p,h3,h4⟩
  ·exact ih h5 hd
theorem gok_of(h:laidMetH prog Rows.fnRunDeskRow.laid w):GOk noB w:=by
 rw[MakeChecks.laidMetH_plain _ _ _ (by kernel_rfl)] at h
 obtain⟨ps,hV,_⟩:=h
 have mK : ("loop.example/importhouse/impl.kindNames", Rows.laid_loop_example_importhouse_impl_kindNames) ∈ Rows.fnRunDeskRow.laid := by simp [Rows.fnRunDeskRow]
 have mE : ("loop.example/importhouse/impl.endNames", Rows.laid_loop_example_importhouse_impl_endNames) ∈ Rows.fnRunDeskRow.laid := by simp [Rows.fnRunDeskRow]
 have mS : ("strconv.ErrSyntax", Rows.laid_strconv_ErrSyntax) ∈ Rows.fnRunDeskRow.laid := by simp [Rows.fnRunDeskRow]
 have mR : ("strconv.ErrRange", Rows.laid_strconv_ErrRange) ∈ Rows.fnRunDeskRow.laid := by simp [Rows.fnRunDeskRow]
 have gK : prog.globalNamed "loop.example/importhouse/impl.kindNames" = some 0 := by kernel_rfl
 have gE : prog.globalNamed "loop.example/importhouse/impl.endNames" = some 1 := by kernel_rfl
 have gS : prog.globalNamed "strconv.ErrSyntax" = some 3 := by kernel_rfl
 have gR : prog.globalNamed "strconv.ErrRange" = some 4 := by kernel_rfl
 have us:prog.underlying 24=some (.slice 9):=by kernel_rfl
 have ut:prog.underlying 9=some .string:=by kernel_rfl
 obtain⟨cK,fK,pK,vK,tK⟩:=zcN (u:=24) hV mK gK
 obtain⟨cE,fE,pE,vE,tE⟩:=zcN (u:=24) hV mE gE
 obtain⟨cS,fS,pS,vS,tS⟩:=zcN (u:=91) hV mS gS
 obtain⟨cR,fR,pR,vR,tR⟩:=zcN (u:=91) hV mR gR
 exact⟨glob_rd gK vK (strs_of us ut tK),glob_rd gE vE (strs_of us ut tE),glob_rd gS vS (err_of Tryz.underlying91 tS),glob_rd gR vR (err_of Tryz.underlying91 tR)⟩
end Go.Proofs.YtifgdhfcoaognaaGreatDoor
