import Derived.Test.YtoomehfflopakaaGreatDoorTG
import Derived.Test.YtoomehfflopakaaGreatDoorProg
import Derived.Maps.Own
namespace Go.Proofs.YtoomehfflopakaaGreatDoor
open Go.RowKit
variable{a a0:Act}{l' l0 listed:Array Bool}{ops:Array Oper}{ag:Array Operand}{ts:Array TypeId}{args:Array Value}{op:BinOp}{c cnd:Bool}{cf cf1 cf2:CF}{X x y yd:Dt}{L L' L1 L2:Env}{Q Q2:Exit->Act->World->Prop}{F:Frm}{F' F0 f:FuncId}{m:Int}{zs:List (List Value)}{Gs Gs':List (Nat->Prop)}{x1 x2:List (Nat×Dt)}{ps ps':List (Nat×Nat)}{O O2:List (Nat×Nat×Dt)}{D ds rs xr xs:List Dt}{ks ns qs:List Nat}{φ:List Nat->Prop}{l1 l2 rest:List Oper}{l:List Operand}{c0 c1 c2 c3 c4 us:List Value}{N b b' b1 b2 bk by_ bytes d fo i j k off p p2 s s2 sb:Nat}{b4:Nat->Ow (List (Bx GMod))}{G G' G1 G2 G3 M M' M0:Nat->Prop}{o o2 o3:Oper}{q qi qx vo:Operand}{A:Option Addr}{g:Option Nat}{a4:Ow (List (Bx GMod))}{a6:Ow (List GEvent)}{a5:Ow (List Int)}{a7:Ow (List Str)}{P:Program}{r:Rd}{e e' e2 t t' t2 ty:TypeId}{u v v0:Value}{w w' w0:World}{S:World->Prop}
section
variable{α:Type}[Rep α]
def dpk(b o:Nat)(cs:List Value)(x:α):Dt where
 rd M w v:=v=.pointer (some ⟨b,o,none⟩)/\¬ M b/\CellsAt w b o cs/\Rep.rdc M w cs x
 own:=noB
 nb:=true
 nob _ _ h:=h
 stable:=λ⟨hv,hb,hc,h⟩ e=>⟨hv,hb,hc.stable hb e,Rep.stable h e⟩
 weak:=λ{M M' w v} ⟨hv,hb,hc,h⟩ e=>⟨hv,λ hm=>by
  have hl:=Rep.len h;have hp:=Rep.pos (α:=α);obtain⟨u,hu⟩:∃ u,cs[0]?=some u:=⟨_,aa (by omega)⟩;exact hb (e b (zc1 (hc 0 u hu)) hm),hc,Rep.weak h e⟩
end
section
variable{fn:Func}{f:Nat}{T:Prop}
theorem Sx.addL(h:Sx F N M0 M Gs L O a w)(hy:y.rd M w (Act.at a s))(hn:y.nb=true:=by rfl):Sx F N M0 M Gs ((s,y)::L) O a w:=by
 refine⟨⟨h.st.fr,h.st.size,h.st.defers,h.st.mok,λ s' z hz=>?_⟩,h.ob,λ s' z hz=>?_,h.ow⟩
 ·simp only[bL,ae] at hz;by_cases he:s'=s
  ·subst he;simp at hz;subst hz;exact hy
  ·have hb:(s' == s)=false:=by simpa using he
   simp[hb] at hz;exact h.st.has s' z hz
 ·simp only[ae] at hz;split at hz
  ·injection hz with hz;subst hz;exact hn
  ·exact h.no s' z hz
section
variable{α β γ δ:Type}[Rep α][Rep β][Rep γ][Rep δ]
theorem Sx.opn{x:α}(h:Sx F N M0 M Gs L O a w)(next:∀ (b o:Nat) (cs:List Value),Sx F N M0 M Gs ((s,dpk b o cs x)::L) O a w->T)(hs:(L++envO O).lookup s=some (dptr x):=by rfl):T:=by
 obtain⟨b,o,cs,h1,h2,h3,h4⟩:=h.st.has s _ hs;exact next b o cs (h.addL ⟨h1,h2,h3,h4⟩)
theorem Sx.clo{o:Nat}{cs:List Value}{x:α}(h:Sx F N M0 M Gs L O a w)(hs:(L++envO O).lookup s=some (dpk b o cs x):=by rfl):Sx F N M0 M Gs ((s,dptr x)::L) O a w:=by
 obtain⟨h1,h2,h3,h4⟩:=h.st.has s _ hs;exact h.addL ⟨b,o,cs,h1,h2,h3,h4⟩
theorem Sx.pkS{o:Nat}{cs:List Value}{x:α}(h:Sx F N M0 M Gs L O a w)(hs:(L++envO O).lookup s=some (dpk b o cs x):=by rfl):CellsAt w b o cs:=(h.st.has s _ hs).2.2.1
theorem Sx.tkY(h:Sx F N M0 M Gs L O a w)(ho:ops[i]?=some o)(hh:opH o N=some d)(hs:Region.noSelect ops=true)(hf:Region.free .any ops listed i=true)(hr:(Region.ready .any ops listed).contains i=true)
  (hQ:∀ c a w,Q (.panic c) (a.put o.dst v) w->Q (.panic c) a w) (hS:S w) (hy:∀ w,S w->(execOp a.eval o).run P w=.ok (.value v) w) (hyr:y.rd M w v) (hn:y.nb=true)
  (next:∀ a',Sx F N M0 M Gs ((d,y)::L) O a' w->wpAnyH P .any ops Q S f (listed.setIfInBounds i true) a' w):wpAnyH P .any ops Q S (f+1) listed a w:=
 wpAnyH_take ho hs hf hr hQ (.inl ⟨Z3 (zQ hh).1,hy⟩) hS (by rw[(zQ hh).2.1];exact next _ (h.putL (zQ hh).2.2 hyr hn))
theorem Sx.tkA{n:Nat}{cs:List Value}{x:α}(h:Sx F N M0 M Gs L O a w)(ho:ops[i]?=some o)(hh:opH o N=some d)(hs:Region.noSelect ops=true)(hf:Region.free .any ops listed i=true)(hr:(Region.ready .any ops listed).contains i=true)
  (hQ:∀ c a w v,Q (.panic c) (a.put o.dst v) w->Q (.panic c) a w) (hl:(L++envO O).lookup sb=some (dpk b off cs x)) (hop:o.op=.fieldAddr t q n) (ht:fldB P t n fo=true) (hq:q=.tmp sb)
  (next:∀ a',Sx F N M0 M Gs ((d,dis (.pointer (some ⟨b,off+fo,none⟩)))::L) O a' w->wpAnyH P .any ops Q (λ w=>CellsAt w b off cs) f (listed.setIfInBounds i true) a' w):wpAnyH P .any ops Q (λ w=>CellsAt w b off cs) (f+1) listed a w:=by
 obtain⟨h1,_,h3,_⟩:=h.st.has sb _ hl;exact h.tkY ho hh hs hf hr (λ c a w=>hQ c a w _) h3 (yFa hop ht (by rw[hq];exact h1)) Z Z next
theorem Sx.tkB{parts:List (Nat×Operand)}{x:α}(h:Sx F N M0 M Gs L O a w)(ho:ops[i]?=some o)(hh:opH o N=some d)
   (hS:S w) (hagg:Rep.agg α=true) (hop:o.op=.build t parts.toArray) (hb:bldB P t ns=true) (hz:Zg P t ns=some zs)
  (hl:∀ (w:World) (a:Act),(∀ s y,(L++envO O).lookup s=some y->y.rd M w (Act.at a s))->∀ p∈parts,p.1<ns.length/\(a.eval p.2).cells.toList.length=ns.getD p.1 0)
  (hx:∀ (w:World) (a:Act),(∀ s y,(L++envO O).lookup s=some y->y.rd M w (Act.at a s))->Rep.rdc M w ((parts.foldl (λ l p=>l.set p.1 (a.eval p.2).cells.toList) zs).flatten) x)
  (next:∀ a',Sx F N M0 M Gs ((d,dt x)::L) O a' w->wpAnyH P .any ops Q S f (listed.setIfInBounds i true) a' w)(hs:Region.noSelect ops=true:=by decide +kernel)(hf:Region.free .any ops listed i=true:=by decide +kernel)(hr:(Region.ready .any ops listed).contains i=true:=by decide +kernel)(hQ:∀ c a w v,Q (.panic c) (a.put o.dst v) w->Q (.panic c) a w:=by exact λ _ _ _ _ h=>h):wpAnyH P .any ops Q S (f+1) listed a w:=by
 have hc:=λ w'=>zd4 (parts:=parts.map λ p=>(p.1,a.eval p.2)) hb hz (λ p hp=>by
  obtain⟨q,hq,rfl⟩:=bg.1 hp;have:=hl w a (λ s y hy=>h.st.has s y hy) q hq;exact⟨this.1,by simpa using this.2⟩) w'
 obtain⟨cells,h1,h2⟩:=hc w;refine h.tkY (v:=.agg cells) (y:=dt x) ho hh hs hf hr (λ c a w=>hQ c a w _) hS (λ w' _=>?_) ⟨cells.toList,?_,by rw[hagg];rfl⟩ Z next
 ·obtain⟨cells',h3,h4⟩:=hc w';have hcc:=Array.toList_inj.1 (h4.trans h2.symm);rw[hcc] at h3;unfold execOp;rw[hop];have e:(parts.toArray.map λ p:Nat×Operand=>(p.1,a.eval p.2))=(parts.map λ p=>(p.1,a.eval p.2)).toArray:=by simp
  simp[e,h3]
 ·rw[h2,dJ];exact hx w a λ s y hy=>h.st.has s y hy
theorem Sx.tkM(h:Sx F N M0 M Gs L O a w)(ho:ops[i]?=some o)(hh:opH o N=some d)
   (hS:S w) (hl:(L++envO O).lookup sb=some y) (hn:y.nb=true) (hop:o.op=.move q) (hq:q=.tmp sb)
  (next:∀ a',Sx F N M0 M Gs ((d,y)::L) O a' w->wpAnyH P .any ops Q S f (listed.setIfInBounds i true) a' w)(hs:Region.noSelect ops=true:=by decide +kernel)(hf:Region.free .any ops listed i=true:=by decide +kernel)(hr:(Region.ready .any ops listed).contains i=true:=by decide +kernel)(hQ:∀ c a w v,Q (.panic c) (a.put o.dst v) w->Q (.panic c) a w:=by exact λ _ _ _ _ h=>h):wpAnyH P .any ops Q S (f+1) listed a w:=
 h.tkY ho hh hs hf hr (λ c a w=>hQ c a w _) hS (yMv hop (by rw[hq];rfl)) (h.st.has sb _ hl) hn next
theorem Sx.tkF{cs:List Value}{x:α}{get:α->β}(fl:Fld get fo)(h:Sx F N M0 M Gs L O a w)(ho:ops[i]?=some o)(hh:opH o N=some d)(hs:Region.noSelect ops=true)(hf:Region.free .any ops listed i=true)(hr:(Region.ready .any ops listed).contains i=true)
  (hQ:∀ c a w v,Q (.panic c) (a.put o.dst v) w->Q (.panic c) a w) (hl:(L++envO O).lookup sb=some (dpk b off cs x)) (hl2:(L++envO O).lookup s2=some (dis (.pointer (some ⟨b,off+fo,none⟩)))) (hop:o.op=.load t q) (ht:tyB P t (Rep.agg β) (Rep.size β)=true) (hq:q=.tmp s2)
  (next:∀ a',Sx F N M0 M Gs ((d,dt (get x))::L) O a' w->wpAnyH P .any ops Q (λ w=>CellsAt w b off cs) f (listed.setIfInBounds i true) a' w):wpAnyH P .any ops Q (λ w=>CellsAt w b off cs) (f+1) listed a w:=by
 obtain⟨h1,_,h3,h4⟩:=h.st.has sb _ hl;obtain⟨c,hc,hr2⟩:=fl.sub h4;have h5:=h.st.has s2 _ hl2;refine h.tkY (y:=dt _) ho hh hs hf hr (λ c a w=>hQ c a w _) h3 (λ w hw=>?_) ⟨c,hr2,Z⟩ Z next;have:=yH ht (Rep.len hr2) Rep.one (λ j u hj=>by rw[bA];exact hw _ u (hc j u hj));have hv:a.eval q=.pointer (some ⟨b,off+fo,none⟩):=by rw[hq];exact h5
 unfold execOp;rw[hop];simp[Instr.loadAt,Instr.sureAddr,hv,this]
end
end
def chkE(E:List Nat)(n k:Nat)(T:List (List Nat))(listed:Array Bool):Bool:=
 decide (listed.size=n)&&((List.range n).all λ i=>listed.getD i false == E.contains i)&&(E.all λ i=>decide (i<k)&&(T.getD i []).all λ j=>E.contains j)
theorem zb7{P:Program}{ops:Array Oper}{Q:Exit->Act->World->Prop}:∀ (f:Nat) (listed:Array Bool) (a:Act) (w:World),wpAny P .any ops Q f listed a w->wpAnyH P .any ops Q (λ _=>True) f listed a w
 | 0,_,_,_,h=>h
 | f+1,_,_,_,h=>⟨h.1,λ i hi=>wpOp_mono (λ a' w' h'=>⟨trivial,zb7 f _ a' w' h'⟩) (h.2 i hi)⟩
section
variable{f:Nat}
variable{α:Type}[Rep α]
variable{β:Type}{ys:List β}
theorem Sx.drnE{xs:List (Nat×Dt)}(h:Sx F N M0 M Gs L O a w)(k:Nat)(E:List Nat)(S:List (List (Nat×Option Nat)))
  (hs:RegR P M ops N S (L++envO O) D 0 (ops.toList.take k) xs) (hx:∀ i∈E,∀ x d,xs[i]?=some (d,x)->(L++envO O).lookup d=some x) (ks:List Nat)  (qp:List (Nat×Nat)) (hq:selQ qp (xs++(L++envO O))=some O2) (hw:AllOw Gs O2)
  (hQ:∀{a' w'},Sx F N M0 M Gs L2 O2 a' w'->wpList P ops Q (ops.toList.drop k) a' w')(hc:Xp E ops k (cloE E ops) S=true:=by decide +kernel)(hkn:k<=ops.size:=by decide)(hE:chkE E ops.size k (cloE E ops) listed=true:=by decide +kernel)(hf:left ops.size listed=f:=by decide +kernel)(hk:selP ks (xs++(L++envO O))=some L2:=by rfl):wpAnyH P .any ops Q (λ _=>True) f listed a w:=by
 unfold chkE at hE;simp only[af,bt] at hE;obtain⟨⟨hsz,hl⟩,hEk⟩:=hE;have hl':∀ i,i<ops.size->listed.getD i false=E.contains i:=λ i hi=>by
  have:=al.1 hl i (az.2 hi);simpa using this
 have hEk':∀ i∈E,i<k/\∀ j∈(cloE E ops).getD i [],j∈E:=λ i hi=>by
  have:=al.1 hEk i hi;simp only[af,bt] at this;exact⟨this.1,λ j hj=>bF.1 (al.1 this.2 j hj)⟩
 have hin:∀ j∈E,listed.getD j false=true:=λ j hj=>by
  rw[hl' j (by have:=(hEk' j hj).1;omega)];exact bF.2 hj
 refine zb7 _ _ _ _ (draw_anyE hc (λ j hj=>(hEk' j hj).1) hkn h.st hs (λ a' w' he st=>hQ (.of_st st h.ob hk hq hw)) f listed a w hf hin ⟨hsz,h.st.size,Z,Ext0.refl _,λ i hi=>?_,λ i hi hl2 j hj=>?_,λ i hl2 x d hxi=>?_,λ s _=>Z⟩)
 ·rcases aR i ops.size with h1 | h1
  ·rw[hl' i h1];cases hcn:E.contains i with
   | false=>rfl
   |true=>have:=(hEk' i (bF.1 hcn)).1;omega
  ·have:¬ i<listed.size:=by omega
   simp[this]
 ·rw[hl' i hi] at hl2;exact hin j ((hEk' i (bF.1 hl2)).2 j hj)
 ·have hi:i<ops.size:=by rw[← hsz];exact QB hl2
  rw[hl' i hi] at hl2;exact h.st.has d x (hx i (bF.1 hl2) x d hxi)
theorem Sx.tkN{ow:Ow α}{x:α}(h:Sx F N M0 M Gs L O a w)(ho:ops[i]?=some o)(hh:opH o N=some d)
   (hS:S w) (hl:(L++envO O).lookup sb=some (dnm ow G x v0 cf)) (hop:o.op=.move q) (hq:q=.tmp sb)
  (next:∀ a',Sx F N M0 M Gs ((d,dis v0)::L) O a' w->wpAnyH P .any ops Q S f (listed.setIfInBounds i true) a' w)(hs:Region.noSelect ops=true:=by decide +kernel)(hf:Region.free .any ops listed i=true:=by decide +kernel)(hr:(Region.ready .any ops listed).contains i=true:=by decide +kernel)(hQ:∀ c a w v,Q (.panic c) (a.put o.dst v) w->Q (.panic c) a w:=by exact λ _ _ _ _ h=>h):wpAnyH P .any ops Q S (f+1) listed a w:=
 h.tkY ho hh hs hf hr (λ c a w=>hQ c a w _) hS (yMv hop (by rw[hq];exact(h.st.has sb _ hl).1)) Z Z next
theorem yNc{A:Addr}(ho:o.op=.nilCheck q)(hv:a.eval q=.pointer (some A)):∀ w,S w->(execOp a.eval o).run P w=.ok (.value (.pointer (some A))) w:=λ w _=>by
 unfold execOp;rw[ho];simp[hv]
theorem Sx.tkI{g n cap size:Nat}{y:β}(h:Sx F N M0 M Gs L O a w)(ho:ops[i]?=some o)(hh:opH o N=some d)
   (hS:S w) (hop:o.op=.indexAddr t q qi) (ht':slB P t size=true) (hl:(L++envO O).lookup s2=some (dis (.slice A n cap))) (hq:q=.tmp s2) (hi:OpdR M (λ s=>(L++envO O).lookup s) qi (dt m)) (hn:n=ys.length) (hA:ys.length≠0->A=some ⟨g,0,none⟩) (hm:atI ys m=some y)
  (next:∀ a',Sx F N M0 M Gs ((d,dis (.pointer (some ⟨g,m.toNat*size,none⟩)))::L) O a' w->wpAnyH P .any ops Q S f (listed.setIfInBounds i true) a' w)(hs:Region.noSelect ops=true:=by decide +kernel)(hf:Region.free .any ops listed i=true:=by decide +kernel)(hr:(Region.ready .any ops listed).contains i=true:=by decide +kernel)(hQ:∀ c a w v,Q (.panic c) (a.put o.dst v) w->Q (.panic c) a w:=by exact λ _ _ _ _ h=>h):wpAnyH P .any ops Q S (f+1) listed a w:=by
 refine h.tkY ho hh hs hf hr (λ c a w=>hQ c a w _) hS (λ w' _=>?_) Z Z next;obtain⟨hm0,hx⟩:=yL hm;generalize m.toNat=k at*;have hk:=zJ hx;have hA':=hA (by omega);subst hA';obtain⟨e',ht⟩:=jJ ht';obtain⟨ti,ht1,ht2,ht3⟩:=Zy ht;have hsv:a.eval q=.slice (some ⟨g,0,none⟩) n cap:=by rw[hq];exact h.st.has s2 _ hl
 have hiv:=yx.1 (hi w a λ s y hy=>h.st.has s y hy);have hk':k<n:=by omega
 have hadd:(⟨g,0,none⟩:Addr).add (k*size)=⟨g,k*size,none⟩:=by rw[jq];simp
 subst hm0;unfold execOp;rw[hop];simp[hsv,hiv,Instr.indexAt,asIntOf,aw ht1,sizeOf,typeInfo,ht2,ht3,hk',hadd]
theorem Sx.tkIN[Rep β]{ow:Ow β}{g n cap:Nat}{y:β}(h:Sx F N M0 M Gs L O a w)(ho:ops[i]?=some o)(hh:opH o N=some d)
  (hQ:∀ c a w v,Q (.panic c) (a.put o.dst v) w->Q (.panic c) a w) (hS:S w) (hop:o.op=.indexAddr t q qi) (ht':slB P t (Rep.size β)=true) (hl:(L++envO O).lookup s2=some (dnm (Ow.row e ow) G ys (.slice A n cap) cf)) (hq:q=.tmp s2) (hi:OpdR M (λ s=>(L++envO O).lookup s) qi (dt m)) (hA:n≠0->A=some ⟨g,0,none⟩) (hm:atI ys m=some y)
  (next:∀ a',Sx F N M0 M Gs ((d,dis (.pointer (some ⟨g,m.toNat*Rep.size β,none⟩)))::L) O a' w->wpAnyH P .any ops Q S f (listed.setIfInBounds i true) a' w)(hs:Region.noSelect ops=true:=by decide +kernel)(hf:Region.free .any ops listed i=true:=by decide +kernel)(hr:(Region.ready .any ops listed).contains i=true:=by decide +kernel):wpAnyH P .any ops Q S (f+1) listed a w:=by
 have hn:=row_nm (s:=s2) (h.st.has s2 _ hl);refine h.tkY ho hh hs hf hr (λ c a w=>hQ c a w _) hS (λ w' _=>?_) Z Z next;obtain⟨hm0,hx⟩:=yL hm;generalize m.toNat=k at*;have hk:=zJ hx;have hA':=hA (by omega);subst hA';obtain⟨e',ht⟩:=jJ ht';obtain⟨ti,ht1,ht2,ht3⟩:=Zy ht;have hsv:a.eval q=.slice (some ⟨g,0,none⟩) n cap:=by rw[hq];exact(h.st.has s2 _ hl).1
 have hiv:=yx.1 (hi w a λ s y hy=>h.st.has s y hy);have hk':k<n:=by omega
 have hadd:(⟨g,0,none⟩:Addr).add (k*Rep.size β)=⟨g,k*Rep.size β,none⟩:=by rw[jq];simp
 subst hm0;unfold execOp;rw[hop];simp[hsv,hiv,Instr.indexAt,asIntOf,aw ht1,sizeOf,typeInfo,ht2,ht3,hk',hadd]
theorem Sx.tkE(h:Sx F N M0 M Gs L O a w)
   (hS:S w)    
  (next:∀{a'},Sx F N M0 M Gs ((d,y)::L) O a' w->wpAnyH P .any ops Q S f (listed.setIfInBounds i true) a' w)(ho:ops[i]?=some o:=by rfl)(hh:opH o N=some d:=by rfl)(hs:Region.noSelect ops=true:=by decide +kernel)(hf:Region.free .any ops listed i=true:=by decide +kernel)(hr:(Region.ready .any ops listed).contains i=true:=by decide +kernel)(hQ:∀ c a w v,Q (.panic c) (a.put o.dst v) w->Q (.panic c) a w:=by exact λ _ _ _ _ h=>h)(hop:o.op=.extract q j:=by rfl)(hl:(L++envO O).lookup s2=some (dtup xs):=by rfl)(hq:q=.tmp s2:=by rfl)(hx:xs[j]?=some y:=by rfl):wpAnyH P .any ops Q S (f+1) listed a w:=by
 obtain⟨us,hv,hr2,hn⟩:=h.st.has s2 _ hl;obtain⟨u,h1,h2⟩:=hr2.at hx;refine h.tkY ho hh hs hf hr (λ c a w=>hQ c a w _) hS (λ w' _=>?_) h2 (hn y (ac hx)) (λ _ h_=>next h_);have hv':a.eval q=.tuple us.toArray:=by rw[hq];exact hv
 unfold execOp;rw[hop];simp[hv',Instr.extract,h1]
theorem Sx.appH{x:Nat}{xs ys r:List α}(h:Sx F N M0 M Gs L O a w)(p:Nat)(hh:opH o N=some d)
  (ho:o.op=.call { callee:=.builtin .append,args:=#[.tmp s,.tmp x],argTypes:=#[t,t] }) (hel:elB P t e (Rep.size α) bytes=true)
  (hs:(L++envO O).lookup s=some (dtip g e xs)) (hg:Gs[p]?=some (oneB g)) (hx:RowAt M w (Act.at a x) ys) (hm:appO bytes xs ys=some r)
  (ks:List Nat) (hk:selP ks L=some L2) (qs:List Nat) (hq:selR L O qs p=some O2) (hdn:L2.lookup d=none)
  (next:∀ g' M' a' w',Sx F N M0 M' (Gs.set p (oneB g')) L2 ((d,p,dtip g' e r)::O2) a' w'->wpList P ops Q rest a' w'):wpList P ops Q (o::rest) a w:=by
 obtain⟨hgd,hd,hN⟩:=zQ hh;unfold appO at hm;split at hm
 ·rename_i hsz;injection hm with hm;subst hm;have hMg:∀ k,insO g M k->M k:=λ k hk=>hk.elim id λ e=>(h.ob.at_ p k ((yD hg k).2 e)).2.1
  have hx':RowAt _ w _ ys:=let⟨A,c,h1,h2⟩:=hx;⟨A,c,h1,h2.imp id λ⟨b,off,cells,hA,hc,hr⟩=>⟨b,off,cells,hA,hc,wE (λ k _ hk=>hMg k hk) hr⟩⟩;obtain⟨v',w',g',hrun,hv',hgr,hg',hlt⟩:=X8 (ty:=o.type) hel ((dtip g e xs).weak (h.st.has s _ hs) λ k _ hk=>hMg k hk) hx' hsz.1 (by unfold maxLen;omega);refine av hgd λ K hK=>OpOut.wp (OpOut.of_value (v:=v') (w':=w') ?_ ?_)
  ·unfold execOp;simp[ho,resolve,invoke,builtin,Act.eval_tmp,hrun]
  ·rw[hd];have h1:=h.eff (G':=oneB g') (YE hg) (Grown.own hg hgr) (λ b hb=>⟨(hg'.imp (λ e=>(yD hg b).2 (by rw[← e];exact hb)) λ e=>e b hb),hlt b hb⟩) hk hq;exact hK _ _ (next g' _ _ _ (h1.putO hN hdn ((dtip g' e _).weak hv' λ k _ hk=>hk.imp (λ h=>h.1) id) λ b hb=>by rw[zk (YE hg)];exact hb))
 ·cases hm
theorem Sx.rowH[Rep β]{ow:Ow β}{x:β}{ys:List α}{upd:List α->β}(h:Sx F N M0 M Gs L O a w)(hP:PH ow x v0 cf (Ow.row e Ow.frz) b off ys upd)(hm:(c,b,off,u)∈cf)(hc:c=true)(hf:Fits (List α) u)(hs:(L++envO O).lookup sb=some (dnm ow G x v0 cf))(hx:(L++envO O).lookup s=some (dis u)):RowAt M w (Act.at a s) ys:=by
 obtain⟨h1,⟨cs,h2,h3⟩,h4⟩:=h.st.has sb _ hs;obtain⟨C,e',hh,hsz,_,G1,G2,_,_,_,_,_,hr,_⟩:=(hP.of h2 h3 h4).here;have hu:=Q5 hf hh hsz (h4 _ hm hc).2.2;have hsv:=h.st.has s _ hx;obtain⟨v,hv,h5⟩:=hr;rw[hv] at hu;have hu:=hu;rw[hsv,hu];rcases h5 with⟨g,cap,cur,Gr,hg,hb,k1,k2,k3,k4,k5,k6,k7⟩ | ⟨hx0,A,hA⟩
 ·refine⟨_,cap,hg,.inr ⟨g,0,_,Z,λ j u hj=>?_,Jk k7⟩⟩;rw[aE] at hj;split at hj
  ·rw[aB];have:cur[j]?=some u:=by simpa using hj
   simp[World.cell?,hb,this]
  ·cases hj
 ·exact⟨A,0,by rw[hA,hx0];rfl,.inl hx0⟩
end
section
variable{e:Nat}
variable{β γ:Type}[Rep β][Rep γ]
theorem Sx.cSFw{oy:Ow β}{y y':β}{r:γ}(h:Sx F N M0 M Gs L O a w)(p:Nat)
  (hs:(L++envO O).lookup sb=some (dnm oy G y v0 cf)) (hG:∀ b,G b->zj Gs p b) (hd:o.dst=some d) (hN:d<N) (hw:Region.wanted o (yielded ops a.tmps)=cnd)
  (ho:o.op=.call { callee:=.value (.func f),args:=(q::l).toArray,argTypes:=ts }) (hf:fnB P f=true) (hqv:cnd=true->a.eval q=v0) (hp:p<Gs.length) (hx:cnd=true->ArgsR M (λ s=>(L++envO O).lookup s) l xr) (hfn:cnd=true->FnS P f oy y xr y' (.frz (dt r)))
  (ks:List Nat) (hk:selP ks L=some L2) (qs:List Nat) (hq:selR L O qs p=some O2) (hsn:L2.lookup sb=none) (hne:sb≠d)
  (next:∀ G'' M' a' w',Sx F N M0 M' (Gs.set p G'') ((d,Dt.grd cnd (dt r))::L2) ((sb,p,dnm oy G'' (if cnd=true then y' else y) v0 [])::O2) a' w'->wpList P ops Q rest a' w'):wpList P ops Q (o::rest) a w:=by
 have hv0:=(h.st.has sb _ hs).1;cases hc:cnd with
 |true=>
  rw[hc] at hw;refine zbd hw ?_;refine h.cSF (yd:=Dt.grd cnd (dt r)) p (h.bkN (y':=y') (hs:=hs) (hG:=hG)) ?_ ho hf ((hqv hc).trans hv0.symm) hp (hx hc) ?_ ks hk qs hq hsn hne (@λ G'' M' a' w' st=>next G'' M' a' w' ?_)
  ·simp[opH,hd,hN]
  ·intro M0 G w v vs hm hgm hv hr;refine(hfn hc M0 G w v vs hm hgm hv hr).mono λ en w' ⟨u,G',Gr,k1,k2,k3,k4,k5,k6,k7,k8,k9⟩=>⟨u,G',Gr,k1,k2,k3,k4,k5,k6,k7,⟨λ _=>k8,λ hf=>?_⟩,Z⟩
   rw[hc] at hf;cases hf
  ·rw[hc] at st;rw[hc,Kc Z];exact st
 |false=>
  rw[hc] at hw;obtain⟨k1,k2,_⟩:=h.st.has sb _ hs;unfold wpList;rw[Kd (by rw[hw];decide),hd];have hset:Gs.set p (zj Gs p)=Gs:=by
   apply aX;intro n;by_cases hn:p=n
   ·subst hn;rw[aU hp,aa hp]
    congr 1
    funext b
    unfold zj;rw[aa hp]
   ·rw[ba hn]
  have st0:=(h.mut hp (Grown.refl _ w) hk hq).addO (x:=dnm oy _ y v0 []) hsn ⟨k1,(let⟨cs,k3,k4⟩:=k2;⟨cs,oy.more k3 hG,k4⟩),λ q hq _=>by cases hq⟩ (λ _ h=>h);refine next (zj Gs p) M _ w ?_;rw[hset,hc,Kd (by decide)];exact st0.putL hN ⟨λ h=>(by cases h),λ _=>rfl⟩ rfl
theorem Sx.cSFhB{oy:Ow β}{want b:Bool}{y y':β}{r:γ}(h:Sx F N M0 M Gs L O a w)(p:Nat)
  (hs:(L++envO O).lookup sb=some (dnm oy.box G ⟨y⟩ v0 cf)) (hG:∀ b,G b->zj Gs p b) (hh:opG o N ops=some (d,e,j,want)) (hb:(L++envO O).lookup e=some (Dt.grd c (dt b)))
  (ho:o.op=.call { callee:=.value (.func f),args:=(q::l).toArray,argTypes:=ts }) (hf:fnB P f=true) (hqv:(c&&(b == want))=true->a.eval q=v0) (hp:p<Gs.length) (hx:(c&&(b == want))=true->ArgsR M (λ s=>(L++envO O).lookup s) l xr) (hfn:(c&&(b == want))=true->FnS P f oy.box ⟨y⟩ xr ⟨y'⟩ (.frz (dt r)))
  (ks:List Nat) (hk:selP ks L=some L2) (qs:List Nat) (hq:selR L O qs p=some O2) (hsn:L2.lookup sb=none) (hne:sb≠d)
  (next:∀ G'' M' a' w',Sx F N M0 M' (Gs.set p G'') ((d,Dt.grd (c&&(b == want)) (dt r))::L2) ((sb,p,dnm oy.box G'' ⟨if(c&&(b == want))=true then y' else y⟩ v0 [])::O2) a' w'->wpList P ops Q rest a' w'):wpList P ops Q (o::rest) a w:=by
 obtain⟨hg,hd,hj,hN,hE⟩:=xL hh;have h1:=h.st.has e _ hb;have hlt:e<a.tmps.size:=by rw[h.st.size];exact hE
 have hat:a.tmps[e]?=some (Act.at a e):=by
  unfold Act.at;rw[bX,aq hlt];rfl
 have hw:Region.wanted o (yielded ops a.tmps)=(c&&(b == want)):=by
  cases hc:c with
  |true=>have h2:=zy (h1.1 hc);simp[Region.wanted,hg,yielded,hj,hat,h2]
  |false=>have h2:=h1.2 hc;simp[Region.wanted,hg,yielded,hj,hat,h2,undef]
 exact h.cSFw p hs hG hd hN hw ho hf hqv hp hx hfn ks hk qs hq hsn hne λ G'' M' a' w' st=>next G'' M' a' w' (by rw[ite_bx] at st;exact st)
end
theorem row_hd{α β:Type}[Rep α][Rep β]{look:Nat->Option Dt}{ow:Ow β}{x:β}{ys:List α}{upd:List α->β}(hP:PH ow x v0 cf (Ow.row e Ow.frz) b off ys upd)(hm:(c,b,off,u)∈cf)(hc:c=true)(hf:Fits (List α) u)(hs:look sb=some (dnm ow G x v0 cf))(hq:OpdR M look q (dis u)):∀ (w:World) (a:Act),(∀ s y,look s=some y->y.rd M w (Act.at a s))->RowAt M w (a.eval q) ys:=λ w a hl=>by
 obtain⟨h1,⟨cs,h2,h3⟩,h4⟩:=hl sb _ hs;obtain⟨C,e',hh,hsz,_,G1,G2,_,_,_,_,_,hr,_⟩:=(hP.of h2 h3 h4).here;have hu:=Q5 hf hh hsz (h4 _ hm hc).2.2;have hsv:=hq w a hl;obtain⟨v,hv,h5⟩:=hr;rw[hv] at hu;have hu:=hu;rw[hsv,hu];rcases h5 with⟨g,cap,cur,Gr,hg,hb,k1,k2,k3,k4,k5,k6,k7⟩ | ⟨hx0,A,hA⟩
 ·refine⟨_,cap,hg,.inr ⟨g,0,_,Z,λ j u hj=>?_,Jk k7⟩⟩;rw[aE] at hj;split at hj
  ·rw[aB];have:cur[j]?=some u:=by simpa using hj
   simp[World.cell?,hb,this]
  ·cases hj
 ·exact⟨A,0,by rw[hA,hx0];rfl,.inl hx0⟩
theorem op_app1{α:Type}[Rep α]{look:Nat->Option Dt}{ys r:List α}(ho:o.op=.call { callee:=.builtin .append,args:=#[q,qx],argTypes:=#[t,t] })(hel:elB P t e (Rep.size α) bytes=true)
  (hs:OpdR M look q (dtip none e ([]:List α))) (hx:∀ (w:World) (a:Act),(∀ s y,look s=some y->y.rd M w (Act.at a s))->RowAt M w (a.eval qx) ys) (hm:appO bytes [] ys=some r):OpRel P M look o (dt r):=
 λ a w hmok hl=>by
  unfold appO at hm;split at hm
  ·rename_i hsz;injection hm with hm;subst hm;have hM:∀ k,insO none M k->M k:=λ k hk=>hk.elim id λ e=>by cases e
   have hx':RowAt _ w _ ys:=let⟨A,c,h1,h2⟩:=hx w a hl;⟨A,c,h1,h2.imp id λ⟨b,off,cells,hA,hc,hr⟩=>⟨b,off,cells,hA,hc,wE (λ k _ hk=>hM k hk) hr⟩⟩;obtain⟨v',w',g',hrun,hv',hgr,hg',hlt⟩:=X8 (ty:=o.type) hel ((dtip none e _).weak (hs w a hl) λ k _ hk=>hM k hk) hx' hsz.1 (by unfold maxLen;omega);have hex:Ext0 w w':=⟨hgr.os,hgr.tape,hgr.output,hgr.size,λ k hk=>hgr.block k hk (by simp)⟩;refine OpOut.of_value (w':=w') ?_ ⟨hex,Jg hv' (λ b _ hb=>.inl hb) λ b hb hm=>?_⟩
   ·unfold execOp;simp[ho,resolve,invoke,builtin,hrun]
   ·rcases hg' with h1 | h1
    ·rw[h1] at hb;cases hb
    ·have h2:=h1 b hb;have h3:=hmok b hm;omega
  ·cases hm
theorem op_app0{α:Type}[Rep α]{look:Nat->Option Dt}{ys r:List α}(ho:o.op=.call { callee:=.builtin .append,args:=#[q,qx],argTypes:=#[t,t] })(hel:elB P t e (Rep.size α) bytes=true)
  (hs:OpdR M look q (dtip none e ([]:List α))) (hx:OpdR M look qx (dt ys)) (hm:appO bytes [] ys=some r):OpRel P M look o (dt r):=
 op_app1 ho hel hs (λ w a hl=>yI M w _ (hx w a hl)) hm
section
variable{α β γ:Type}[Rep α][Rep β][Rep γ]
variable{fn:Func}{T:Prop}{look:Nat->Option Dt}
theorem Sx.mvD(h:Sx F N M0 M Gs L O a w)(p:Nat)(hh:opH o N=some d)(ho:o.op=.move q)(hq:q=.tmp s)(hs:(L++envO O).lookup s=some X)(hdn:L.lookup d=none)(qs:List Nat)(hsel:selR L O qs p=some O2)
  (next:∀ a',Sx F N M0 M Gs L ((d,p,X)::O2) a' w->wpList P ops Q rest a' w)(hX:∀ b,X.own b->zj Gs p b:=by exact λ _ h=>h):wpList P ops Q (o::rest) a w:=by
 obtain⟨hgd,hd,hN⟩:=zQ hh;refine av hgd λ K hK=>OpOut.wp (OpOut.of_value (v:=Act.at a s) (w':=w) ?_ ?_)
 ·unfold execOp;rw[ho,hq];simp;rfl
 ·rw[hd];exact hK _ _ (next _ ((h.drop hsel).putO hN hdn (h.st.has s _ hs) hX))
variable{f:Nat}
end
section
variable{fn:Func}
variable{α β γ:Type}[Rep α][Rep β][Rep γ]
variable{e:Nat}
end
structure Pn(α:Type) where
 b:Nat
 x:α
section
variable{α:Type}[Rep α]
instance:Rep (Pn α) where
 size:=1
 agg:=false
 rdc M w cs y:=cs=[.pointer (some ⟨y.b,0,none⟩)]/\(dptr y.x).rd M w (.pointer (some ⟨y.b,0,none⟩))
 len:=λ⟨h,_⟩=>by rw[h];rfl
 one _:=rfl
 pos:=Nat.one_pos
 oneCell:=λ⟨h,_⟩ c hc=>by
  rw[h] at hc;simp at hc;subst hc;rfl
 stable:=λ⟨h,hr⟩ e=>⟨h,(dptr _).stable hr e⟩
 weak:=λ⟨h,hr⟩ e=>⟨h,(dptr _).weak hr e⟩
def Ow.pin(o:Ow α):Ow (Pn α) where
 ro M G w cs y:=∃ (C:Array Value) (e:TypeId) (Gr:Nat->Prop),cs=[.pointer (some ⟨y.b,0,none⟩)]/\w.heap[y.b]?=some (.cells C e (0,0))/\G y.b/\¬ Gr y.b/\(∀ k,Gr k->G k)/\o.ro M Gr w C.toList y.x
 toR:=λ{M G w cs y} ⟨C,e,Gr,hc,hh,hG,hn,hs,hr⟩=>⟨hc,y.b,0,C.toList,Z,λ h=>h.2 hG,λ j u hj=>by
  rw[aB];have:C[j]?=some u:=by simpa using hj
  simp[World.cell?,hh,this],Rep.weak (o.toR hr) λ k _ hk=>⟨hk.1,λ h=>hk.2 (hs k h)⟩⟩
 stable:=λ{M G w w' cs y} ⟨C,e,Gr,hc,hh,hG,hn,hs,hr⟩ k=>⟨C,e,Gr,hc,(k y.b (xG hh) (.inr hG)).trans hh,hG,hn,hs,o.stable hr (k.sub hs)⟩
 weak:=λ⟨C,e,Gr,hc,hh,hG,hn,hs,hr⟩ k=>⟨C,e,Gr,hc,hh,hG,hn,hs,o.weak hr k⟩
 more:=λ{M G G' w cs y} ⟨C,e,Gr,hc,hh,hG,hn,hs,hr⟩ k=>⟨C,e,Gr,hc,hh,k y.b hG,hn,λ i hi=>k i (hs i hi),hr⟩
theorem Ow.pin_box{o:Ow α}{cs:List Value}{y:Pn α}(h:o.pin.ro M G w cs y):o.box.ro M G w cs ⟨y.x⟩:=
 let⟨C,e,Gr,h⟩:=h;⟨y.b,C,e,Gr,h⟩
theorem Ow.box_pin{o:Ow α}{cs:List Value}{y:Bx α}(h:o.box.ro M G w cs y)(hc:cs=[.pointer (some ⟨b,0,none⟩)]):o.pin.ro M G w cs ⟨b,y.x⟩:=by
 obtain⟨b',C,e,Gr,h1,h2⟩:=h;rw[hc] at h1;have e2:b'=b:=by injection h1 with h1;injection h1 with h1;injection h1 with h1;injection h1 with h1;exact h1.symm
 subst e2;exact⟨C,e,Gr,hc,h2⟩
variable{β:Type}[Rep β]
theorem HP.mono{oy:Ow β}{y:β}{R R':(Nat->Prop)->(Nat->Prop)->World->β->Prop}(h:HP oy M G w b off y R)(hR:∀ {M' G':Nat->Prop} {w':World} {y':β},R M' G' w' y'->R' M' G' w' y'):HP oy M G w b off y R':=by
 obtain⟨G1,G2,C,e,s1,s2,hb,n1,n2,hd,hh,hsz,hr,put⟩:=h;exact⟨G1,G2,C,e,s1,s2,hb,n1,n2,hd,hh,hsz,hr,λ hL hh' hy nb h1 g0 h2 h3=>hR (put hL hh' hy nb h1 g0 h2 h3)⟩
theorem VP.toBox{o:Ow α}{c:List Value}{y:Pn α}{R:(Nat->Prop)->(Nat->Prop)->World->Pn α->Prop}(h:VP o.pin M G w c y R):c=[.pointer (some ⟨y.b,0,none⟩)]/\VP o.box M G w c ⟨y.x⟩ (λ M' G' w' z=>R M' G' w' ⟨y.b,z.x⟩):=by
 obtain⟨G1,G2,s1,s2,hd,hr,put⟩:=h;obtain⟨C,e,Gr,hc,hk⟩:=hr;exact⟨hc,G1,G2,s1,s2,hd,Ow.pin_box ⟨C,e,Gr,hc,hk⟩,λ hL hy h1 h2 h3=>put hL (Ow.box_pin hy hc) h1 h2 h3⟩
theorem HP.pin{o:Ow α}{y:Pn α}{R:(Nat->Prop)->(Nat->Prop)->World->Pn α->Prop}(h:HP o.pin M G w b off y R):w.cell? ⟨b,off,none⟩=some (.pointer (some ⟨y.b,0,none⟩))/\HP o M G w y.b 0 y.x (λ M' G' w' z=>R M' G' w' ⟨y.b,z⟩):=by
 obtain⟨C,e,hh,hsz,hv⟩:=h.vp;obtain⟨hc,hb⟩:=hv.toBox;obtain⟨b',hc',hp⟩:=hb.box;rw[hc] at hc';have e2:b'=y.b:=by injection hc' with h1;injection h1 with h1;injection h1 with h1;injection h1 with h1;exact h1.symm
 subst e2;exact⟨by simp[World.cell?,hh,Xr hc],hp⟩
theorem zip_set{τ:Type}{bs:List Nat}{xs:List τ}{y:τ}(h:bs[k]?=some b):(List.zipWith Pn.mk bs xs).set k ⟨b,y⟩=List.zipWith Pn.mk bs (xs.set k y):=by
 apply aX;grind
theorem zbL{τ:Type}{bs:List Nat}{xs:List (Bx τ)}(h:bs.length=xs.length):(List.zipWith Pn.mk bs (xs.map Bx.x)).length=xs.length:=by
 grind
theorem rowR_pin{M:Nat->Prop}{w:World}:∀ {bs:List Nat} {xs:List (Bx α)} {cells:List Value},bs.length=xs.length->rowR M w cells (List.zipWith Pn.mk bs (xs.map Bx.x))->rowR M w cells xs
 | [],[],_,_,h=>h
 |b::bs,x::xs,cells,hl,h=>by
  obtain⟨c,r,h1,⟨h2,h3⟩,h4⟩:=h;exact⟨c,r,h1,⟨_,h2,h3⟩,rowR_pin (by simpa using hl) h4⟩
 | [],_::_,_,hl,_=>by simp at hl
 | _::_,[],_,hl,_=>by simp at hl
def Ow.rowF(φ:List Nat->Prop)(e:TypeId)(o:Ow α):Ow (List (Bx α)) where
 ro M G w cs xs:=∃ bs:List Nat,bs.length=xs.length/\φ bs/\(Ow.row e o.pin).ro M G w cs (List.zipWith Pn.mk bs (xs.map Bx.x))
 toR:=λ{M G w cs xs} ⟨bs,hl,_,h⟩=>by
  obtain⟨A,c,h1,h2,h3,h4⟩:=(Ow.row e o.pin).toR h;rw[zbL hl] at h1 h2;refine⟨A,c,h1,h2,h3,?_⟩;rcases h4 with h4 | ⟨b,o',cells,ha,hb,hc,hr⟩
  ·have:=bz List.length h4;rw[zbL hl,cL] at this;exact .inl (dl.1 this)
  ·exact .inr ⟨b,o',cells,ha,hb,hc,rowR_pin hl hr⟩
 stable:=λ⟨bs,hl,hp,h⟩ k=>⟨bs,hl,hp,(Ow.row e _).stable h k⟩
 weak:=λ⟨bs,hl,hp,h⟩ k=>⟨bs,hl,hp,(Ow.row e _).weak h k⟩
 more:=λ⟨bs,hl,hp,h⟩ k=>⟨bs,hl,hp,(Ow.row e _).more h k⟩
def pinsOf(ps:List (Nat×Nat))(bs:List Nat):Prop:=∀ q∈ps,bs[q.1]?=some q.2
def laxOf(ps:List (Nat×Nat))(n b:Nat)(bs:List Nat):Prop:=pinsOf ps bs/\(n<bs.length->bs[n]?=some b)
abbrev Ow.rowP(ps:List (Nat×Nat))(e:TypeId)(o:Ow α):Ow (List (Bx α)):=Ow.rowF (pinsOf ps) e o
variable{o:Ow α}
def Imp{γ:Type}[Rep γ](o1 o2:Ow γ)(x:γ):Prop:=∀ {M G:Nat->Prop} {w:World} {cs:List Value},o1.ro M G w cs x->o2.ro M G w cs x
def ImpE{γ:Type}[Rep γ](o1:Ow γ)(o2:Nat->Ow γ)(x:γ):Prop:=∀ {M G:Nat->Prop} {w:World} {cs:List Value},o1.ro M G w cs x->∃ b,(o2 b).ro M G w cs x
variable{o1:Ow α}{γ δ:Type}
theorem xY{o2:Ow α}{x:Bx α}(h:Imp o1 o2 x.x):Imp o1.box o2.box x:=λ⟨b,C,e,Gr,h1,h2,h3,h4,h5,h6⟩=>⟨b,C,e,Gr,h1,h2,h3,h4,h5,h h6⟩
theorem YU{o2:Nat->Ow α}{x:Bx α}(h:ImpE o1 o2 x.x):ImpE o1.box (λ b=>(o2 b).box) x:=λ⟨b,C,e,Gr,h1,h2,h3,h4,h5,h6⟩=>let⟨b',h7⟩:=h h6;⟨b',b,C,e,Gr,h1,h2,h3,h4,h5,h7⟩
theorem imp_via[Rep γ]{f:δ->γ}{o1 o2:Ow γ}{x:δ}(h:Imp o1 o2 (f x)):@Imp δ (Rep.iso f) (Ow.via f o1) (Ow.via f o2) x:=λ hr=>h hr
theorem impE_via[Rep γ]{f:δ->γ}{o1:Ow γ}{o2:Nat->Ow γ}{x:δ}(h:ImpE o1 o2 (f x)):@ImpE δ (Rep.iso f) (Ow.via f o1) (λ b=>Ow.via f (o2 b)) x:=λ hr=>h hr
section
variable{β γ:Type}[Rep β][Rep γ]
theorem imp_fst{o1 o2:Ow β}{c:Ow γ}{x:β×γ}(h:Imp o1 o2 x.1):Imp (o1.pr c) (o2.pr c) x:=λ⟨G1,G2,c1,c2,h1,h2,h3,h4,h5,h6⟩=>⟨G1,G2,c1,c2,h1,h2,h3,h4,h h5,h6⟩
theorem imp_snd{o1 o2:Ow γ}{c:Ow β}{x:β×γ}(h:Imp o1 o2 x.2):Imp (c.pr o1) (c.pr o2) x:=λ⟨G1,G2,c1,c2,h1,h2,h3,h4,h5,h6⟩=>⟨G1,G2,c1,c2,h1,h2,h3,h4,h5,h h6⟩
theorem impE_fst{o1:Ow β}{o2:Nat->Ow β}{c:Ow γ}{x:β×γ}(h:ImpE o1 o2 x.1):ImpE (o1.pr c) (λ b=>(o2 b).pr c) x:=λ⟨G1,G2,c1,c2,h1,h2,h3,h4,h5,h6⟩=>let⟨b,h7⟩:=h h5;⟨b,G1,G2,c1,c2,h1,h2,h3,h4,h7,h6⟩
theorem zdl{o1:Ow γ}{o2:Nat->Ow γ}{c:Ow β}{x:β×γ}(h:ImpE o1 o2 x.2):ImpE (c.pr o1) (λ b=>c.pr (o2 b)) x:=λ⟨G1,G2,c1,c2,h1,h2,h3,h4,h5,h6⟩=>let⟨b,h7⟩:=h h6;⟨b,G1,G2,c1,c2,h1,h2,h3,h4,h5,h7⟩
end
def pinI(c:Bool)(k b:Nat)(ps:List (Nat×Nat)):List (Nat×Nat):=if c=true then(k,b)::ps else ps
theorem pinI_at(h:c=true):(k,b)∈pinI c k b ps:=by unfold pinI;rw[Kc h];exact .head _
theorem pinI_of{q:Nat×Nat}(h:q∈ps):q∈pinI c k b ps:=by
 unfold pinI;grind
theorem impE_pinI{xs:List (Bx α)}(hk:c=true->k<xs.length):ImpE (Ow.rowP ps e o) (λ b=>Ow.rowP (pinI c k b ps) e o) xs:=
 λ⟨bs,hl,hp,hr⟩=>by
  cases c with
  | false=>exact⟨0,bs,hl,λ q hq=>hp q hq,hr⟩
  |true=>have hk:=hk Z;exact⟨bs[k],bs,hl,λ q hq=>(am.1 hq).elim (λ e=>by rw[e];exact aa (by omega)) (hp q),hr⟩
theorem xu{xs:List (Bx α)}(hs:∀ q∈ps',q∈ps):Imp (Ow.rowP ps e o) (Ow.rowP ps' e o) xs:=
 λ⟨bs,hl,hp,hr⟩=>⟨bs,hl,λ q hq=>hp q (hs q hq),hr⟩
theorem Xs{xs:List (Bx α)}(hk:k<xs.length):ImpE (Ow.rowP ps e o) (λ b=>Ow.rowP ((k,b)::ps) e o) xs:=
 λ⟨bs,hl,hp,hr⟩=>⟨bs[k],bs,hl,λ q hq=>(am.1 hq).elim (λ e=>by rw[e];exact aa (by omega)) (hp q),hr⟩
theorem imp_lax{xs:List (Bx α)}:Imp (Ow.rowP ps e o) (Ow.rowF (laxOf ps xs.length b) e o) xs:=
 λ⟨bs,hl,hp,hr⟩=>⟨bs,hl,⟨hp,λ h=>by omega⟩,hr⟩
theorem imp_strict{xs:List (Bx α)}{n:Nat}(hn:n<xs.length):Imp (Ow.rowF (laxOf ps n b) e o) (Ow.rowP ((n,b)::ps) e o) xs:=
 λ⟨bs,hl,hp,hr⟩=>⟨bs,hl,λ q hq=>(am.1 hq).elim (λ e=>by rw[e];exact hp.2 (by omega)) (hp.1 q),hr⟩
theorem Ow.rowP_z{P:Nat->Prop}{cs:List Value}(h:(Ow.row e o.pin).ro P noB w cs []):(Ow.rowP [] e o).ro P noB w cs []:=⟨[],Z,(λ _ h=>nomatch h),h⟩
theorem VP.rowF{c:List Value}{xs:List (Bx α)}{R:(Nat->Prop)->(Nat->Prop)->World->List (Bx α)->Prop}{k bk:Nat}{z:Bx α}(h:VP (Ow.rowF φ e o) M G w c xs R)(hk:∀ bs,φ bs->bs[k]?=some bk)(hz:xs[k]?=some z):∃ g cap,c=[.slice (some ⟨g,0,none⟩) xs.length cap]/\HP o.pin M G w g k ⟨bk,z.x⟩ (λ M' G' w' y'=>y'.b=bk->R M' G' w' (xs.set k ⟨y'.x⟩)):=by
 obtain⟨G1,G2,s1,s2,hd,⟨bs,hl,hp,hr⟩,put⟩:=h;have hb:=hk bs hp;have hzz:(List.zipWith Pn.mk bs (xs.map Bx.x))[k]?=some ⟨bk,z.x⟩:=by
  rw[List.getElem?_zipWith_eq_some];exact⟨bk,z.x,hb,by rw[aY,hz];rfl,Z⟩
 have h0:VP _ M G w c _ (λ M' G' w' ys=>∀ xs':List _,xs'.length=xs.length->ys=List.zipWith Pn.mk bs _->R M' G' w' xs'):=
  ⟨G1,G2,s1,s2,hd,hr,λ hL hy h1 h2 h3=>λ xs' hl' hxs=>put hL ⟨bs,by omega,hp,by rw[← hxs];exact hy⟩ h1 h2 h3⟩
 obtain⟨g,cap,hc,hq⟩:=h0.row hzz;rw[zbL hl] at hc;rw[show Rep.size _=1 from Z,cd] at hq;refine⟨g,cap,hc,hq.mono λ{M' G' w' y'} h5 e5=>?_⟩;obtain⟨b',y'⟩:=y';subst e5;exact h5 _ (by rw[bv]) (by rw[zip_set hb,dX])
theorem HP.rowF{xs:List (Bx α)}{R:(Nat->Prop)->(Nat->Prop)->World->List (Bx α)->Prop}{k bk:Nat}{z:Bx α}(h:HP (Ow.rowF φ e o) M G w b off xs R)(hk:∀ bs,φ bs->bs[k]?=some bk)(hz:xs[k]?=some z):∃ g cap,w.cell? ⟨b,off,none⟩=some (.slice (some ⟨g,0,none⟩) xs.length cap)/\HP o.pin M G w g k ⟨bk,z.x⟩ (λ M' G' w' y'=>y'.b=bk->R M' G' w' (xs.set k ⟨y'.x⟩)):=by
 obtain⟨C,e,hh,hsz,hv⟩:=h.vp;obtain⟨g,cap,hc,h1⟩:=hv.rowF hk hz;exact⟨g,cap,by simp[World.cell?,hh,Xr hc],h1⟩
theorem HP.rowF_cell{xs:List (Bx α)}{R:(Nat->Prop)->(Nat->Prop)->World->List (Bx α)->Prop}(h:HP (Ow.rowF φ e o) M G w b off xs R):∃ (g:Nat) (A:Option Addr) (cap:Nat),(xs.length≠0->A=some ⟨g,0,none⟩)/\w.cell? ⟨b,off,none⟩=some (.slice A xs.length cap):=by
 obtain⟨C,e',hh,hsz,hv⟩:=h.vp;obtain⟨G1,G2,s1,s2,hd,⟨bs,hl,hp,hr⟩,put⟩:=hv;have h0:VP _ M G w _ _ (λ _ _ _ _=>True):=⟨G1,G2,s1,s2,hd,hr,λ _ _ _ _ _=>trivial⟩;obtain⟨_,_,_,_,_,hr,_⟩:=h0;obtain⟨v,hv,h3⟩:=hr;have e1:w.cell? ⟨b,off,none⟩=some v:=by simp[World.cell?,hh,Xr hv]
 rcases h3 with⟨g,cap,cur,Gr,hg,h4⟩ | ⟨hx,A,hA⟩
 ·rw[zbL hl] at hg;exact⟨g,_,cap,λ _=>Z,by rw[e1,hg]⟩
 ·have e2:=bz List.length hx;rw[zbL hl,cL] at e2;exact⟨0,A,0,λ hne=>absurd e2 hne,by rw[e1,hA,e2]⟩
theorem pins_at(hk:(k,bk)∈ps):∀ bs,pinsOf ps bs->bs[k]?=some bk:=λ _ h=>h _ hk
theorem PH.rowP{γ:Type}[Rep γ]{ow:Ow γ}{x:γ}{v0:Value}{cf:CF}{b off:Nat}{ys:List (Bx α)}{upd:List (Bx α)->γ}(h:PH ow x v0 cf (Ow.rowP ps e o) b off ys upd){k bk:Nat}{z:Bx α}(hk:(k,bk)∈ps)(hz:ys[k]?=some z):PH ow x v0 cf o bk 0 z.x (λ y'=>upd (ys.set k ⟨y'⟩)):=
 ⟨λ h1 h2 h3=>let⟨_,_,_,h4⟩:=(h.of h1 h2 h3).rowF (pins_at hk) hz;h4.pin.2.mono λ h5=>h5 Z⟩
end
section
variable{fn:Func}{op:Oper}{T:Prop}
variable{α γ:Type}[Rep α][Rep γ]{look:Nat->Option Dt}{o:Ow α}
variable{o1:Ow γ}{ys:List (Bx α)}
theorem Sx.hdF{ow:Ow γ}{x:γ}{upd:List (Bx α)->γ}(h:Sx F N M0 M Gs L O a w)(p:Nat)(c:Bool)(hP:c=true->PH ow x v0 cf (Ow.rowF φ e o) b off ys upd)(qs:List Nat)
  (next:∀ (g:Nat) (A:Option Addr) (cap:Nat),(ys.length≠0->c=true->A=some ⟨g,0,none⟩)->Sx F N M0 M Gs L ((s,p,dnm ow G x v0 ((c,b,off,.slice A ys.length cap)::cf))::O2) a w->T)(hs:(L++envO O).lookup s=some (dnm ow G x v0 cf):=by rfl)(hn:L.lookup s=none:=by rfl)(hG:∀ b,G b->zj Gs p b:=by exact λ _ h=>h)(hq:selR L O qs p=some O2:=by rfl):T:=by
 obtain⟨h1,⟨cs,h2,h3⟩,h4⟩:=h.st.has s _ hs;have:∃ (g:Nat) (A:Option Addr) (cap:Nat),(ys.length≠0->c=true->A=some ⟨g,0,none⟩)/\(c=true->G b/\b<w.heap.size/\Qa w b off (.slice A ys.length cap)):=by
  cases c with
  | false=>exact⟨0,none,0,⟨(λ _ h=>nomatch h),(λ h=>nomatch h)⟩⟩
  |true=>have hp:=(hP Z).of h2 h3 h4;obtain⟨_,_,hh,_,hGb,_⟩:=hp.here;obtain⟨g,A,cap,hA,hc⟩:=hp.rowF_cell;exact⟨g,A,cap,λ h _=>hA h,λ _=>⟨hGb,xG hh,hc⟩⟩
 obtain⟨g,A,cap,hA,hb'⟩:=this;refine next g A cap hA ((h.drop hq).addO hn ⟨h1,⟨cs,h2,h3⟩,λ q hq' hb=>?_⟩ hG);rcases am.1 hq' with rfl | hq'
 ·exact hb' hb
 ·exact h4 q hq' hb
theorem xLdP{ow:Ow γ}{k' g n cap:Nat}{x:γ}{upd:List (Bx α)->γ}{z:Bx α}(hP:PH ow x v0 cf (Ow.rowP ps e o) b off ys upd)(hh:(c,b,off,.slice A n cap)∈cf)(hc:c=true)(hA:n≠0->A=some ⟨g,0,none⟩)(hk:(k,bk)∈ps)(hz:ys[k]?=some z)(hkk:k'=k)(ho:op.op=.load t q)(ht:tyB P t false 1=true)(hq:OpdR M look q (dis (.pointer (some ⟨g,k',none⟩))))(hs:look sb=some (dnm ow G x v0 cf)):OpRel P M look op (dis (.pointer (some ⟨bk,0,none⟩))):=
 zC λ a w _ hl=>by
  subst hkk;obtain⟨h1,⟨cs,h2,h3⟩,h4⟩:=hl sb _ hs;obtain⟨g',cap',e1,hpin⟩:=(hP.of h2 h3 h4).rowF (pins_at hk) hz;obtain⟨e2,_⟩:=hpin.pin;have e3:w.cell? _=some _:=(h4 _ hh hc).2.2;simp only at e3;rw[e1] at e3;injection e3 with e3;injection e3 with e4 e5 e6;have hlt:=zJ hz;rw[hA (by omega)] at e4;have e7:g'=g:=by injection e4 with e4;injection e4 with e4
  subst e7;have hv:a.eval q=.pointer _:=hq w a hl;refine⟨.pointer _,?_,Z⟩;have:=yH (cs:=[.pointer _]) ht Z (λ _=>Z) (λ j u hj=>by
   cases j with
   | zero=>simp at hj;subst hj;simpa using e2
   | succ j=>simp at hj)
  unfold execOp;rw[ho];simp[Instr.loadAt,Instr.sureAddr,hv,this,mkv]
theorem Sx.asO{o2:Ow γ}{x:γ}(h:Sx F N M0 M Gs L O a w)(p:Nat)(hs:(L++envO O).lookup s=some (dnm o1 G x v0 cf))(hn:L.lookup s=none)(hG:∀ b,G b->zj Gs p b)(hw:Imp o1 o2 x)(qs:List Nat)(hq:selR L O qs p=some O2):Sx F N M0 M Gs L ((s,p,dnm o2 G x v0 cf)::O2) a w:=by
 obtain⟨h1,⟨cs,h2,h3⟩,h4⟩:=h.st.has s _ hs;exact(h.drop hq).addO hn ⟨h1,⟨cs,hw h2,h3⟩,h4⟩ hG
theorem Sx.mintP{ow:Nat->Ow γ}{x:γ}(h:Sx F N M0 M Gs L O a w)(p:Nat)(hw:ImpE o1 ow x)(qs:List Nat)(next:∀ b:Nat,Sx F N M0 M Gs L ((s,p,dnm (ow b) G x v0 cf)::O2) a w->T)(hs:(L++envO O).lookup s=some (dnm o1 G x v0 cf):=by rfl)(hn:L.lookup s=none:=by rfl)(hG:∀ b,G b->zj Gs p b:=by exact λ _ h=>h)(hq:selR L O qs p=some O2:=by rfl):T:=by
 obtain⟨h1,⟨cs,h2,h3⟩,h4⟩:=h.st.has s _ hs;obtain⟨b,h5⟩:=hw h2;exact next b ((h.drop hq).addO hn ⟨h1,⟨cs,h5,h3⟩,h4⟩ hG)
theorem appO_spec{β β':Type}{xs ys r:List β}{xs' ys':List β'}(h:appO by_ xs ys=some r)(h1:xs'.length=xs.length)(h2:ys'.length=ys.length):r=xs++ys/\appO by_ xs' ys'=some (xs'++ys'):=by
 unfold appO at h ⊢;grind
theorem rowF_app{cs:List Value}{bs:List Nat}{xs:List (Bx α)}{y:α}(hl:bs.length=xs.length)(hp:laxOf ps xs.length b bs)(h:(Ow.row e o.pin).ro M G w cs (List.zipWith Pn.mk bs (xs.map Bx.x)++[⟨b,y⟩])):(Ow.rowF (laxOf ps xs.length b) e o).ro M G w cs (xs++[⟨y⟩]):=by
 refine⟨bs++[b],by simp[hl],⟨λ q hq=>?_,λ _=>?_⟩,?_⟩
 ·have h1:=hp.1 q hq;rw[aK (zJ h1)];exact h1
 ·rw[← hl];simp
 ·rw[ea,List.zipWith_append (by rw[bZ];exact hl)];exact h
theorem Sx.headO{Y:Dt}(h:Sx F N M0 M Gs L ((d,p,X)::O) a w)(hdn:L.lookup d=none)(hx:X.rd M w (Act.at a d)->Y.rd M w (Act.at a d))(ho:∀ b,Y.own b->X.own b):Sx F N M0 M Gs L ((d,p,Y)::O) a w:=by
 refine⟨⟨h.st.fr,h.st.size,h.st.defers,h.st.mok,λ s y hy=>?_⟩,h.ob,h.no,λ b hb=>h.ow.1 b (ho b hb),h.ow.2⟩;rcases yq hy with h1 | ⟨h0,h1⟩
 ·exact h.st.has s y (yF h1)
 ·simp only[envO,ae] at h1;cases hb:s == d with
  |true=>
   simp only[hb] at h1;injection h1 with h1;subst h1;have e:s=d:=by simpa using hb
   subst e;exact hx (h.st.has s X (by rw[yi h0];simp[envO]))
  |false=>simp[hb] at h1;exact h.st.has s y (by rw[yi h0];simp[envO,ae,hb,h1])
theorem Sx.appP{x n:Nat}{xs r:List (Bx α)}{y:α}(h:Sx F N M0 M Gs L O a w)(p p2:Nat)(hh:opH op N=some d)
  (ho:op.op=.call { callee:=.builtin .append,args:=#[.tmp s,.tmp x],argTypes:=#[t,t] }) (hel:elB P t e 1 bytes=true)
  (hs:(L++envO O).lookup s=some (dow (Ow.rowF (laxOf ps n b) e o) G1 xs)) (hn:n=xs.length) (hx:(L++envO O).lookup x=some (dow (Ow.row e2 o.pin) G2 [⟨b,y⟩]))    (hG1:∀ b,G1 b->zj Gs p b) (hG2:∀ b,G2 b->zj Gs p2 b) (hm:appO bytes xs [⟨y⟩]=some r)
  (ks:List Nat) (hk:selP ks L=some L2) (qs:List Nat) (hq:selR L O qs p=some O2) (hO:O2.all (λ q=>q.2.1 != p2)=true) (hdn:L2.lookup d=none)
  (next:∀ G' M' a' w',n<r.length->Sx F N M0 M' ((Gs.set p G').set p2 (oneB none)) L2 ((d,p,dow (Ow.rowF (laxOf ps n b) e o) G' r)::O2) a' w'->wpList P ops Q rest a' w')(hp:p<Gs.length:=by simp)(hp2:p2<Gs.length:=by simp)(hne:p≠p2:=by decide):wpList P ops Q (op::rest) a w:=by
 subst hn;obtain⟨cs,⟨bs,hl,hφ,hr⟩,hv⟩:=h.st.has s _ hs;obtain⟨e1,e2⟩:=appO_spec (xs':=List.zipWith Pn.mk bs _) (ys':=[(⟨b,y⟩:Pn α)]) hm (zbL hl) Z;subst e1;refine h.appR p p2 hh ho hel ⟨cs,hr,hv⟩ (h.st.has x _ hx) hp hp2 hne hG1 hG2 e2 ks hk qs hq hO hdn λ G' M' a' w' st=>next G' M' a' w' (by simp) (st.headO hdn (λ⟨cs',k1,k2⟩=>⟨cs',rowF_app hl hφ k1,k2⟩) λ _ h=>h)
end
section
variable{fn:Func}
variable{α β γ:Type}[Rep α][Rep β][Rep γ]
variable{oo:Ow α}
theorem Sx.rs0{x xr:α}(h:Sx (Frm.chg w0 G) N M0 M Gs L O a w)(p:Nat)(hm:some x=some xr)(hr:fn.results=#[]:=by rfl)(hs:(L++envO O).lookup s=some (dnm oo G' x v0 cf):=by rfl)(hG:∀ b,G' b->zj Gs p b:=by exact λ _ h=>h):
  bodyPost P fn (RetS M0 w0 G v0 oo xr .gone) .ret a w/\bodyPost P fn (RetS M0 w0 G v0 oo xr .gone) .normal a w:=by
 injection hm with hm;subst hm;obtain⟨k1,⟨cs,k2,k3⟩,_⟩:=h.st.has s _ hs;have hM:∀ k,k<w.heap.size->(M0 k\/G' k)\/noB k->M k:=λ k _ hk=>hk.elim (λ hk=>hk.elim (h.ob.sub k) λ hk=>(h.ob.at_ p k (hG k hk)).2.1) λ h=>h.elim
 have key:bodyPost P fn (RetS M0 w0 G v0 oo x .gone) .ret a w:=⟨h.st.defers,_,results_none hr a.tmps P w,_,G',noB,Z,h.st.fr,λ b hb=>(h.ob.at_ p b (hG b hb)).1,λ _ h=>h.elim,λ _ _ h=>h,λ b hb=>hb.elim (λ hb=>h.st.mok b (h.ob.at_ p b (hG b hb)).2.1) λ h=>h.elim,⟨cs,oo.weak k2 hM,k3⟩,trivial⟩;exact⟨key,key⟩
theorem Sx.rs2{t u:Nat}{x xr:α}{y:β}{z:γ}{r:β×γ}(h:Sx (Frm.chg w0 G) N M0 M Gs L O a w)(p:Nat)(hr:fn.results=#[.tmp t,.tmp u])(hl:(L++envO O).lookup t=some (dt y))(hl2:(L++envO O).lookup u=some (dt z))(hs:(L++envO O).lookup s=some (dnm oo G' x v0 cf))(hG:∀ b,G' b->zj Gs p b)
  (hm:some (x,y,z)=some (xr,r)):bodyPost P fn (RetS M0 w0 G v0 oo xr (.frz (dtup [dt r.1,dt r.2]))) .ret a w:=by
 injection hm with hm;injection hm with h1 h2;subst h1;subst h2;obtain⟨k1,⟨cs,k2,k3⟩,_⟩:=h.st.has s _ hs;have hM:∀ k,k<w.heap.size->(M0 k\/G' k)\/noB k->M k:=λ k _ hk=>hk.elim (λ hk=>hk.elim (h.ob.sub k) λ hk=>(h.ob.at_ p k (hG k hk)).2.1) λ h=>h.elim
 exact⟨h.st.defers,_,results_tmp2 hr a.tmps P w,_,G',noB,Z,h.st.fr,λ b hb=>(h.ob.at_ p b (hG b hb)).1,λ _ h=>h.elim,λ _ _ h=>h,λ b hb=>hb.elim (λ hb=>h.st.mok b (h.ob.at_ p b (hG b hb)).2.1) λ h=>h.elim,
  ⟨cs,oo.weak k2 hM,k3⟩,⟨[_,_],Z,.cons ((dt y).weak (h.st.has t _ hl) hM) (.cons ((dt z).weak (h.st.has u _ hl2) hM) .nil),λ q hq=>by
   simp at hq;rcases hq with rfl | rfl <;> rfl⟩,Z⟩
end
structure Np(α:Type) where
 o:Option α
instance {α:Type}:Inhabited (Np α):=⟨⟨none⟩⟩
instance {α:Type} [Inhabited α]:Inhabited (Bx α):=⟨⟨default⟩⟩
section
variable{α β γ:Type}[Rep α][Rep β][Rep γ]
def npR(M:Nat->Prop)(w:World)(cs:List Value):Option α->Prop
 | none=>cs=[.pointer none]
 | some x=>∃ v,cs=[v]/\(dptr x).rd M w v
instance:Rep (Np α) where
 size:=1
 agg:=false
 rdc M w cs x:=npR M w cs x.o
 len:=λ{M w cs x} h=>by
  revert h
  cases x.o with
  | none=>intro h;rw[show cs=_ from h];rfl
  | some y=>rintro ⟨v,h,_⟩;rw[h];rfl
 one _:=rfl
 pos:=Nat.one_pos
 oneCell:=λ{M w cs x} h c hc=>by
  revert h
  cases x.o with
  |none=>intro h;rw[show cs=_ from h] at hc;simp at hc;subst hc;rfl
  |some y=>
   rintro ⟨v,h,b,o,_,hv,_⟩
   rw[h] at hc;simp at hc;subst hc;rw[hv];rfl
 stable:=λ{M w w' cs x} h e=>by
  revert h
  cases x.o with
  | none=>exact id
  | some y=>rintro ⟨v,h,hr⟩;exact⟨v,h,(dptr _).stable hr e⟩
 weak:=λ{M M' w cs x} h e=>by
  revert h
  cases x.o with
  | none=>exact id
  | some y=>rintro ⟨v,h,hr⟩;exact⟨v,h,(dptr _).weak hr e⟩
variable{fn:Func}{T:Prop}{look:Nat->Option Dt}
variable{oy:Ow β}
theorem OpRel.mono{x y:Dt}(h:OpRel P M look o x)(hxy:∀ {w:World} {v:Value},x.rd M w v->y.rd M w v):OpRel P M look o y:=λ a w hm hl=>(h a w hm hl).mono λ _ _ ⟨h1,h2⟩=>⟨h1,hxy h2⟩
theorem OpRel.bx{x:Bx α}(h:OpRel P M look o (dt x)):OpRel P M look o (dptr x.x):=h.mono bx_ptr.1
def dfq1(P:Program)(g:α->Option β):Dt where
 rd M w v:=∃ (f:FuncId) (caps:List Value) (ds:List Dt),v=.func (.func f) #[] caps.toArray/\fnB P f=true/\RdAll M w caps ds/\(∀ x∈ds,x.nb=true)/\∀ x y,g x=some y->Fn P f (dptr x::ds) (dt y)
 own:=noB
 nb:=true
 nob _ _ h:=h
 stable:=by
  rintro M w w' v ⟨f,caps,ds,hv,hf,hr,hn,hg⟩ e
  exact⟨f,caps,ds,hv,hf,hr.stable hn e,hn,hg⟩
 weak:=by
  rintro M M' w v ⟨f,caps,ds,hv,hf,hr,hn,hg⟩ e
  exact⟨f,caps,ds,hv,hf,hr.weak e,hn,hg⟩
theorem xMkQ1{g:α->Option β}(ho:o.op=.makeFunc (.func f) #[] l.toArray)(hf:fnB P f=true)(hx:ArgsR M look l ds)(hn:allNb' ds=true)(hg:∀ x y,g x=some y->Fn P f (dptr x::ds) (dt y)):OpRel P M look o (dfq1 P g):=
 zC λ a w _ hl=>by
  refine⟨.func _ #[] (l.map a.eval).toArray,?_,f,_,ds,Z,hf,hx.all hl,zeF hn,hg⟩;unfold execOp;rw[ho];simp[Instr.makeFunc]
theorem xCaQ1{s:Operand}{g:α->Option β}{x:α}{y:β}(ho:o.op=.call { callee:=.value s,args:=#[q],argTypes:=ts })(hs:OpdR M look s (dfq1 P g))(hq:OpdR M look q (dptr x))(hg:g x=some y):OpRel P M look o (dt y):=
 λ a w hm hl=>by
  obtain⟨f,caps,ds,hv,hf,hr,hn,hk⟩:=hs w a hl;refine OpOut.of_enter (f:=f) (args:=(a.eval q::caps).toArray) (w':=w) ?_ ?_
  ·unfold execOp;rw[ho];simp[resolve,hv,Deferred.ofValue,invoke,xX hf]
  ·exact(hk x y hg M w _ hm (.cons (hq w a hl) hr)).mono λ e w' ⟨v,he,hx,hr⟩=>⟨v,he,hx,hr⟩
theorem lendQ{ow:Ow α}{x:α}{y:β}{upd:β->α}(ob:Objs F M0 M Gs)(p:Nat)(hP:PH ow x v0 cf oy bk 0 y upd)(hq:OpdR M look q (dis (.pointer (some ⟨bk,0,none⟩))))(hs:look sb=some (dnm ow G x v0 cf))(hG:∀ b,G b->zj Gs p b:=by exact λ _ h=>h):OpdR2 M M0 look q (dptr y):=
 λ w a hl=>by
  obtain⟨h1,⟨cs,h2,h3⟩,h4⟩:=hl sb _ hs;obtain⟨C,e,hh,hsz,hGb,G1,G2,s1,s2,hd,_,_,hr,put⟩:=(hP.of h2 h3 h4).here;have hv:=hq w a hl;refine⟨bk,0,_,hv,λ hb=>(ob.at_ p bk (hG bk hGb)).2.2 hb,λ j u hj=>?_,Rep.weak (oy.toR hr) λ b _ hb=>⟨ob.sub b hb,λ hg=>(ob.at_ p b (hG b (s1 b hg))).2.2 hb⟩⟩;rw[bN,aE] at hj;split at hj
  ·rw[aB];have:C[j]?=some u:=by simpa using hj
   simp[World.cell?,hh,this]
  ·cases hj
theorem lendB{ow:Ow α}{x:Bx α}(ob:Objs F M0 M Gs)(p:Nat)(hG:∀ b,G b->zj Gs p b)(h:OpdR M look q (dnm ow.box G x v0 cf)):OpdR2 M M0 look q (dptr x.x):=
 λ w a hl=>bx_ptr.1 (lendN ob p hG h w a hl)
theorem lendA{ow:Ow α}{x:Bx α}(ob:Objs F M0 M Gs)(p:Nat)(hq:OpdR M look q (dis (.pointer (some ⟨b,0,none⟩))))(hs:look sb=some (dnm ow.box G x (.pointer (some ⟨b,0,none⟩)) cf))(hG:∀ b,G b->zj Gs p b:=by exact λ _ h=>h):OpdR2 M M0 look q (dptr x.x):=
 λ w a hl=>by
  have h1:=lendB ob p hG (zb hs) w a hl;have hv:=hq w a hl;have hv2:a.eval (.tmp sb)=.pointer _:=(hl sb _ hs).1;rw[hv];rw[hv2] at h1;exact h1
theorem Sx.bkP{ow:Ow α}{x:α}{ys:List (Bx β)}{z z':Bx β}{upd:List (Bx β)->α}(h:Sx F N M0 M Gs L O a w)(hP:PH ow x v0 cf (Ow.rowP ps e oy) b off ys upd)(hk:(k,bk)∈ps)(hz:ys[k]?=some z)(hs:(L++envO O).lookup sb=some (dnm ow G x v0 cf):=by rfl)(hG:∀ b,G b->zj Gs p b:=by exact λ _ h=>h):Back M w Gs p (.pointer (some ⟨bk,0,none⟩)) (Act.at a sb) oy.box z z' (λ G''=>dnm ow G'' (upd (ys.set k z')) v0 []):=by
 obtain⟨h1,⟨cs,h2,h3⟩,h4⟩:=h.st.has sb _ hs;obtain⟨g,cap,_,hp⟩:=(hP.of h2 h3 h4).rowF (pins_at hk) hz;obtain⟨C,e,hh,hsz,_,G1,G2,s1,s2,hd,_,_,hr,put⟩:=hp.here;have hc:(C.toList.drop k).take (Rep.size (Pn β))=[.pointer (some ⟨bk,0,none⟩)]:=by
  obtain⟨C2,e2,Gr,hc,_⟩:=hr;exact hc
 refine⟨⟨G1,λ b hb=>hG b (s1 b hb),⟨_,Ow.pin_box hr,by rw[hc];rfl⟩,λ{G' M' w' G''} hL hG' hr' hs'=>?_⟩,λ _ _ h=>h⟩;obtain⟨c',h5,h6⟩:=hr';obtain⟨u,hu1,hu2⟩:=mkv_one h5 Z;have e1:=hu2.symm.trans h6.symm;subst e1;have h7:=Ow.box_pin h5 hu1;rw[hu1,← hc] at h7;have hlt:=λ b hb=>h.st.mok b (h.ob.at_ p b (hG b hb)).2.1
 have h8:=put (G'':=G'') (hL G2 λ b hb hb1=>hd b hb1 hb) h7 (λ k hk hk2=>(hG' k hk).elim (λ e=>hd k e hk2) λ e=>by have:=hlt k (s2 k hk2);omega) (λ k hk=>hs' k (.inr hk)) (λ k hk=>hs' k (.inl ⟨hG k (s2 k hk),λ e=>hd k e hk⟩)) Z;exact⟨h1,⟨cs,h8,h3⟩,λ q hq _=>by cases hq⟩
def dpg(oy:Ow β)(G:Nat->Prop)(b:Nat)(y:β):Dt where
 rd M w _:=oy.pin.ro M G w [.pointer (some ⟨b,0,none⟩)] ⟨b,y⟩
 own:=G
 nb:=false
 nob h:=by cases h
 stable h k:=oy.pin.stable h k
 weak h k:=oy.pin.weak h k
theorem Sx.tuck{y:Bx β}(h:Sx F N M0 M Gs L O a w)(u p:Nat)(hs:(L++envO O).lookup s=some (dnm oy.box G y (.pointer (some ⟨b,0,none⟩)) cf))(hG:∀ b,G b->zj Gs p b)(hu:L.lookup u=none)(qs:List Nat)(hq:selR L O qs p=some O2)(hus:u≠s:=by decide):
  Sx F N M0 M Gs ((s,dis (.pointer (some ⟨b,0,none⟩)))::L) ((u,p,dpg oy G b y.x)::O2) a w:=by
 obtain⟨h1,⟨cs,⟨b',C,e,Gr,hc,h2⟩,h3⟩,_⟩:=h.st.has s _ hs;have e2:b'=b:=by
  rw[hc] at h3;have:=h3;injection this with h5;injection h5 with h5;injection h5 with h5;exact h5.symm
 subst e2;have hb:(u == s)=false:=by simpa using hus
 exact((h.drop hq).addL h1).addO (by simp only[ae,hb];exact hu) ⟨C,e,Gr,Z,h2⟩ hG
theorem pin_cells{y:β}(hv:(dis (.pointer (some ⟨b,0,none⟩))).rd M w v)(hp:(dpg oy G b y).rd M w u):oy.pin.ro M G w v.cells.toList ⟨b,y⟩:=by
 rw[show v=_ from hv];exact hp
theorem rowP_zz(M:Nat->Prop)(w:World):(Ow.rowP [] e oy).ro M noB w js []:=Ow.rowP_z (Ow.row_z M w)
def dany:Dt where
 rd _ _ _:=True
 own:=noB
 nb:=true
 nob _ _ h:=h
 stable h _:=h
 weak h _:=h
theorem FnS.any{oo:Ow α}{x x':α}(h:FnS P f oo x xs x' .gone):FnS P f oo x xs x' (.frz dany):=λ M0 G w v vs h1 h2 h3 h4=>
 (h M0 G w v vs h1 h2 h3 h4).mono λ _ _ ⟨u,G',Gr,k1,k2,k3,k4,k5,k6,k7,_⟩=>⟨u,G',Gr,k1,k2,k3,k4,k5,k6,k7,trivial,Z⟩
theorem Sx.boxW{ow:Ow α}{x:α}(h:Sx F N M0 M Gs L O a w)(p p2:Nat)
  (ks:List Nat)  (qs:List Nat)   
  (next:∀ b G' M' a' w',Sx F N M0 M' ((Gs.set p G').set p2 (oneB none)) L2 ((d,p,dnm ow.box G' ⟨x⟩ (.pointer (some ⟨b,0,none⟩)) [])::O2) a' w'->wpList P ops Q rest a' w')(hh:opH o N=some d:=by rfl)(ho:o.op=.box t (.tmp s):=by rfl)(hs:(L++envO O).lookup s=some (dow ow G x):=by rfl)(hp:p<Gs.length:=by simp)(hp2:p2<Gs.length:=by simp)(hne:p≠p2:=by decide)(hG:∀ b,G b->zj Gs p2 b:=by exact λ _ h=>h)(hk:selP ks L=some L2:=by rfl)(hq:selR L O qs p=some O2:=by rfl)(hO:O2.all (λ q=>q.2.1 != p2)=true:=by rfl)(hdn:L2.lookup d=none:=by rfl):wpList P ops Q (o::rest) a w:=by
 obtain⟨hgd,hd,hN⟩:=zQ hh;have hy:ow.ro M G w (Act.at a s).cells.toList x:=by
  obtain⟨cs,h1,h2⟩:=h.st.has s _ hs;rw[h2,Zz (ow.toR h1)];exact h1
 have he:Ext0 w (w.alloc (.cells (Act.at a s).cells t)):=Ext0.alloc _ _;refine av hgd λ K hK=>OpOut.wp (OpOut.of_value (v:=.pointer (some ⟨w.heap.size,0,none⟩)) (w':=w.alloc (.cells (Act.at a s).cells t)) ?_ ?_)
 ·unfold execOp;rw[ho];simp[Instr.box,newVar,newRow,newObj,JY,Act.eval_tmp]
 ·rw[hd];have h1:=h.eff (G':=oneB _) hp ((Grown.of_ext he).mono λ b hb=>hb.elim) (λ b (hb:some w.heap.size=some b)=>by injection hb with hb;subst hb;exact⟨.inr (ak _),by simp⟩) hk hq;have h2:=h1.mrg (by simpa using hp) (by simpa using hp2) hne hO;have e1:JB (Gs.set p (oneB (some w.heap.size))) p p2=(Gs.set p (λ b=>oneB (some w.heap.size) b\/zj Gs p2 b)).set p2 (oneB none):=by
   unfold JB;rw[dE]
   congr 2
   funext b
   rw[zk hp,zq hne]
  rw[e1] at h2;have hlt:=λ b hb=>h.st.mok b (h.ob.at_ p2 b (hG b hb)).2.1
  refine hK _ _ (next w.heap.size _ _ _ _ (h2.putO hN hdn ?_ λ b hb=>by rw[zq (bo hne),zk hp];exact hb));refine⟨Z,⟨_,⟨w.heap.size,(Act.at a s).cells,t,G,Z,cZ w _,.inl Z,λ hg=>absurd (hlt _ hg) (cJ _),λ b hb=>.inr (hG b hb),?_⟩,Z⟩,λ q hq _=>by cases hq⟩;refine ow.later hy ⟨λ k hk hm=>?_,λ k hk _=>he.block k hk⟩;rcases hm with hm | hm
  ·exact hm.1
  ·have:w.heap.size=k:=by injection hm
   omega
theorem RdAll.flat{M M':Nat->Prop}{w:World}:∀ {us:List Value} {xs:List Dt},RdAll M w us xs->(∀ x∈xs,Flat x)->RdAll M' w us xs
 | _,_,.nil,_=>.nil
 | _,_,.cons h r,k=>.cons (k _ (bK ..) _ _ _ _ h) (RdAll.flat r λ x hx=>k x (bM _ hx))
theorem flat_tup(h:∀ x∈xs,Flat x):Flat (dtup xs):=λ _ _ _ _ ⟨us,hv,hr,hn⟩=>⟨us,hv,hr.flat h,hn⟩
theorem Q6(h:Flat x)(k:Flat y):Flat (dtup [x,y]):=flat_tup λ z hz=>by
 simp at hz;rcases hz with rfl | rfl
 ·exact h
 ·exact k
theorem zbe{x:GVal}:Flat (dt x):=λ _ _ _ _ ⟨cs,h,hv⟩=>⟨cs,h,hv⟩
end
abbrev ptA(b:Nat):Value:=.pointer (some ⟨b,0,none⟩)
def FnM{α:Type}[Rep α](k:Nat)(P:Program)(f:FuncId)(o:Ow α)(x:α)(xs:List Dt)(x':α)(r:Rd):Prop:=
 ∀
  (M0 G:Nat->Prop) (w:World) (v:Value) (vs:List Value),(∀ b,M0 b\/G b->b<w.heap.size)->(∀ b,G b->¬ M0 b)->(dow o G x).rd (λ b=>M0 b\/G b) w v->RdAll (λ b=>M0 b\/G b) w vs xs->
  Calls P f (vs.take k++v::vs.drop k).toArray w (RetS M0 w G v o x' r)
theorem RdAll.ins{M:Nat->Prop}{w:World}{v:Value}{y:Dt}(hv:y.rd M w v):∀ (k:Nat) {vs:List Value} {xs:List Dt},RdAll M w vs xs->RdAll M w (vs.take k++v::vs.drop k) (xs.take k++y::xs.drop k)
 | 0,_,_,h=>by simpa using RdAll.cons hv h
 | _+1,_,_,.nil=>.cons hv .nil
 | k+1,_,_,.cons h1 h=>.cons h1 (RdAll.ins hv k h)
theorem zff:∀ {xs ys:List Dt} {i:Nat},zK i (xs++ys)=zK i xs++zK (i+xs.length) ys
 | [],_,_=>rfl
 |_::xs,ys,i=>by
  show(i,_)::zK (i+1) (xs++ys)=(i,_)::(zK (i+1) xs++zK (i+(xs.length+1)) ys);rw[zff,bA,cF 1]
theorem zee:∀ {xs:List Dt} {i s:Nat} {x:Dt},(zK i xs).lookup s=some x->i<=s/\s<i+xs.length
 | [],_,_,_,h=>by simp[zK] at h
 |y::xs,i,s,x,h=>by
  simp only[zK,ae] at h;by_cases he:s=i
  ·simp;omega
  ·have hb:(s == i)=false:=by simpa using he
   simp only[hb] at h;have:=zee h;simp only[bj];omega
theorem lookup_ins{A B:Env}(_hA:A.lookup k=none)(h:(A++B++[(k,X)]).lookup s=some y)(hB:B.lookup k=none):(A++(k,X)::B).lookup s=some y:=by
 grind
section
variable{fn:Func}{look:Nat->Option Dt}
variable{α β:Type}[Rep α][Rep β]
variable{oo:Ow α}{oy:Ow β}{x':α}{y':β}
theorem fnM0{c:Code}{x:α}(k p n:Nat)(hk:k<=rs.length)(hf:P.funcs[f]?=some fn)(hb:fn.body=some c)(hn:rs.length+1<=fn.ntmps)(hnb:Ji (zK 0 (rs.take k)++zK (k+1) (rs.drop k))=true)
  (h:∀ (M G:Nat->Prop) (w:World) (v:Value) (a:Act),Act.at a k=v->Sx (Frm.chg w G) fn.ntmps M (λ b=>M b\/G b) ((List.replicate n (oneB none)).set p G) (zK 0 (rs.take k)++zK (k+1) (rs.drop k)) [(k,p,dow oo G x)] a w->c.wp P (bodyPost P fn (RetS M w G v oo x' r)) a w) (hp:p<n):FnM k P f oo x rs x' r:=by
 intro M0 G w v vs hm hg hv hr;have hra:=hr.ins hv k;have hl:=hra.len;have hl':=hr.len;have hnth:∀ s y,(zK 0 _).lookup s=some y->y.rd (λ b=>M0 b\/G b) w (Act.at { tmps:=(vs.take k++v::vs.drop k).toArray++Array.replicate _ undef,defers:=[] } s):=λ s y hs=>by
  obtain⟨j,u,h1,h2,h3⟩:=hra.nth 0 s y hs;have hj:=(ai.1 h2).1;have h5:(vs.take k++v::vs.drop k).toArray[j]?=some u:=by rw[cU];exact h2
  have hj':j<(vs.take k++v::vs.drop k).toArray.size:=by rw[dQ];exact hj
  have:s=j:=by omega
  subst this;have h4:Act.at { tmps:=(vs.take k++v::vs.drop k).toArray++Array.replicate (fn.ntmps - (vs.take k++v::vs.drop k).toArray.size) undef,defers:=[] } s=u:=by
   simp[Act.at];rw[aV hj',h5];rfl
  rw[h4];exact h3
 have hlen:p<(List.replicate n (oneB none)).length:=by simpa using hp
 have hown:∀ q b,zj ((List.replicate n _).set p G) q b ↔ q=p/\G b:=λ q b=>by
  by_cases hq:p=q
  ·subst hq;rw[zk hlen];simp
  ·rw[zq hq];exact⟨λ h=>(J4 h).elim,λ h=>(hq h.1.symm).elim⟩
 have hkl:(rs.take k).length=k:=by rw[aI];omega
 have hA:(zK 0 (rs.take k)).lookup k=none:=by
  cases hc:(zK 0 _).lookup k with
  | none=>rfl
  | some y=>have:=zee hc;omega
 have hB:(zK (k+1) (rs.drop k)).lookup k=none:=by
  cases hc:(zK _ _).lookup k with
  | none=>rfl
  | some y=>have:=zee hc;omega
 have hall:∀ s y,(zK 0 _++zK _ _++envO [(k,p,dow oo G x)]).lookup s=some y->(zK 0 (rs.take k++dow oo G x::rs.drop k)).lookup s=some y:=λ s y hs=>by
  rw[zff,hkl,aB];exact lookup_ins hA hs hB
 refine cP hf hb (h M0 G w v _ ?_ ?_)
 ·have h1:(zK 0 _).lookup k=some (dow oo G x):=hall k _ (by
   rw[yi (by rw[yi hA];exact hB)];simp[envO])
  have hvl:(vs.take k).length=k:=by rw[aI];omega
  have hj:k<(vs.take k++v::vs.drop k).toArray.size:=by simp;omega
  simp[Act.at];rw[aV hj,cU,aH (by omega),hvl,ct];rfl
 ·refine⟨⟨Grown.refl _ _,by simp at hl ⊢;omega,Z,hm,λ s y hy=>hnth s y (hall s y hy)⟩,⟨λ b hb=>.inl hb,λ q b hb=>?_,λ q r b hne h1 h2=>hne (((hown q b).1 h1).1.trans ((hown r b).1 h2).1.symm)⟩,XU hnb,⟨λ b hb=>(hown p b).2 ⟨Z,hb⟩,trivial⟩⟩;obtain⟨rfl,hb'⟩:=(hown q b).1 hb;exact⟨.inl hb',.inr hb',hg b hb'⟩
theorem fnMB{c:Code}{x x':Bx α}(k p n:Nat)(hf:P.funcs[f]?=some fn)(hb:fn.body=some c)(hnb:Ji (zK 0 (rs.take k)++zK (k+1) (rs.drop k))=true)
  (hl:(zK 0 (rs.take k)++zK (k+1) (rs.drop k)).lookup k=none)
  (h:∀ (M G:Nat->Prop) (w:World) (b:Nat) (a:Act),Sx (Frm.chg w G) fn.ntmps M (λ b=>M b\/G b) ((List.replicate n (oneB none)).set p G) (zK 0 (rs.take k)++zK (k+1) (rs.drop k)) [(k,p,dnm oo.box G x (.pointer (some ⟨b,0,none⟩)) [])] a w->c.wp P (bodyPost P fn (RetS M w G (.pointer (some ⟨b,0,none⟩)) oo.box x' r)) a w) (hp:p<n:=by decide)(hk:k<=rs.length:=by simp)(hn:rs.length+1<=fn.ntmps:=by exact oD Z):FnM k P f oo.box x rs x' r:=
 fnM0 k p n hk hf hb hn hnb (λ M G w v a hv st=>by
  have hs:((zK 0 (rs.take k)++zK (k+1) (rs.drop k))++envO [(k,p,dow oo.box G x)]).lookup k=some (dow oo.box G x):=by rw[yi hl];simp[envO]
  exact st.nmB p (hs:=hs) (hn:=hl) (hG:=(zcL hp)) [] λ b st'=>by
   have e:v=.pointer (some ⟨b,0,none⟩):=by
    rw[← hv];refine(st'.st.has k (dnm oo.box G x _ []) ?_).1;rw[yi hl];simp[envO]
   rw[e];exact h M G w b a st') hp
theorem fnMV{c:Code}{x:α}(k p n:Nat)(hf:P.funcs[f]?=some fn)(hb:fn.body=some c)(hnb:Ji (zK 0 (rs.take k)++zK (k+1) (rs.drop k))=true)
  (hl:(zK 0 (rs.take k)++zK (k+1) (rs.drop k)).lookup k=none)
  (h:∀ (M G:Nat->Prop) (w:World) (v0:Value) (a:Act),Sx (Frm.chg w G) fn.ntmps M (λ b=>M b\/G b) ((List.replicate n (oneB none)).set p G) (zK 0 (rs.take k)++zK (k+1) (rs.drop k)) [(k,p,dnm oo G x v0 [])] a w->c.wp P (bodyPost P fn (RetS M w G v0 oo x' r)) a w) (hp:p<n:=by decide)(hk:k<=rs.length:=by simp)(hn:rs.length+1<=fn.ntmps:=by exact oD Z):FnM k P f oo x rs x' r:=
 fnM0 k p n hk hf hb hn hnb (λ M G w v a hv st=>by
  have hs:((zK 0 (rs.take k)++zK (k+1) (rs.drop k))++envO [(k,p,dow oo G x)]).lookup k=some (dow oo G x):=by rw[yi hl];simp[envO]
  exact st.nmV p (hs:=hs) (hn:=hl) (hG:=(zcL hp)) [] λ v0 st'=>by
   have e:v=v0:=by
    rw[← hv];refine(st'.st.has k (dnm oo G x v0 []) ?_).1;rw[yi hl];simp[envO]
   rw[e];exact h M G w v0 a st') hp
theorem Sx.cE{y:β}(h:Sx F N M0 M Gs L O a w)(p:Nat)(hh:opH o N=some d)
  (hx:(execOp a.eval o).run P w=.ok (.enter f args) w) (_hy:(dow oy G1 y).rd M w u) (hG1:∀ b,G1 b->zj Gs p b) (hp:p<Gs.length)
  (hfn:∀ M1:Nat->Prop,(∀ b,M1 b\/G1 b->b<w.heap.size)->(∀ b,G1 b->¬ M1 b)->(∀ k,M1 k\/G1 k->M k)->Calls P f args w (RetS M1 w G1 u oy y' r))
  (ks:List Nat) (hk:selP ks L=some L2) (qs:List Nat) (hq:selR L O qs p=some O2)
  (next:∀ G' Gr M' v w',Sx F N M0 M' (Gs.set p (λ b=>((zj Gs p b/\¬ G1 b)\/G' b)\/Gr b)) L2 O2 a w'->(∀ G2:Nat->Prop,(∀ b,G2 b->¬ G1 b)->Later M G2 w M' w')->(∀ b,G' b->G1 b\/w.heap.size<=b)->(∀ b,Gr b->G1 b\/w.heap.size<=b)->(∀ b,G' b->¬ Gr b)->
   (dow oy G' y').rd M' w' u->r.rd M' Gr w' v->wpList P ops Q rest (a.put (some d) v) w'):wpList P ops Q (o::rest) a w:=by
 obtain⟨hgd,hd,hN⟩:=zQ hh;have hGM:=λ b hb=>(h.ob.at_ p b (hG1 b hb)).2.1
 refine av hgd λ K hK=>OpOut.wp (OpOut.of_enter hx ?_)
 have hM:∀ k,((M k/\¬ G1 k)\/G1 k) ↔ M k:=λ k=>by
  refine⟨λ hk=>hk.elim (λ h=>h.1) (hGM k),λ hk=>?_⟩;by_cases e:G1 k
  ·exact .inr e
  ·exact .inl ⟨hk,e⟩
 refine(hfn (λ b=>M b/\¬ G1 b) (λ b hb=>h.st.mok b ((hM b).1 hb)) (λ b hb hm=>hm.2 hb) λ k hk=>(hM k).1 hk).mono λ en w' ⟨v,G',Gr,he,hgr,i1,i2,i3,i4,hv',hu⟩=>⟨v,he,?_⟩
 rw[hd];have h1:=h.eff (G':=λ b=>((zj Gs p b/\¬ G1 b)\/G' b)\/Gr b) hp (hgr.mono hG1) (λ b hb=>by
  rcases hb with(hb | hb) | hb
  ·exact⟨.inl hb.1,ax (h.st.mok b (h.ob.at_ p b hb.1).2.1) hgr.size⟩
  ·exact⟨(i1 b hb).imp (hG1 b) id,i4 b (.inl hb)⟩
  ·exact⟨(i2 b hb).imp (hG1 b) id,i4 b (.inr hb)⟩) hk hq
 have hM':∀ k,(M k/\¬ zj Gs p k)\/((zj Gs p k/\¬ G1 k)\/G' k)\/Gr k->((M k/\¬ G1 k)\/G' k)\/Gr k:=λ k hk=>by
  rcases hk with hk | (hk | hk) | hk
  ·exact .inl (.inl ⟨hk.1,λ e=>hk.2 (hG1 k e)⟩)
  ·exact .inl (.inl ⟨(h.ob.at_ p k hk.1).2.1,hk.2⟩)
  ·exact .inl (.inr hk)
  ·exact .inr hk
 refine hK _ _ (next G' Gr _ _ _ h1 (λ G2 hd2=>⟨λ k hk hm=>?_,λ k hk hm=>hgr.block k hk λ e=>hm.elim (λ hm=>hm (hGM k e)) λ hm=>hd2 k hm e⟩) i1 i2 i3 ((dow oy G' y').weak hv' λ k _ hk=>hM' k hk) (r.weak hu λ k _ hk=>hM' k hk));rcases hM' k hm with(h2 | h2) | h2
 ·exact h2.1
 ·exact(i1 k h2).elim (hGM k) λ h=>by omega
 ·exact(i2 k h2).elim (hGM k) λ h=>by omega
theorem Sx.cMF{y:β}{mk:(Nat->Prop)->Dt}(h:Sx F N M0 M Gs L O a w)(k p:Nat)(bk:Back M w Gs p u (Act.at a sb) oy y y' mk)(hh:opH o N=some d)
  (ho:o.op=.call { callee:=.value (.func f),args:=ag,argTypes:=ts }) (has:ag=(l.take k++q::l.drop k).toArray) (hf:fnB P f=true) (hqv:a.eval q=u) (hp:p<Gs.length) (hx:ArgsR M (λ s=>(L++envO O).lookup s) l xr) (hfn:FnM k P f oy y xr y' (.frz yd))
  (ks:List Nat) (hk:selP ks L=some L2) (qs:List Nat) (hq:selR L O qs p=some O2) (hsn:L2.lookup sb=none) (_hne:sb≠d)
  (next:∀ G'' M' a' w',Sx F N M0 M' (Gs.set p G'') ((d,yd)::L2) ((sb,p,mk G'')::O2) a' w'->wpList P ops Q rest a' w'):wpList P ops Q (o::rest) a w:=by
 subst hqv;subst has;obtain⟨G1,hG1,hy,back⟩:=bk.ex;refine h.cE (y':=y') p hh ?_ hy hG1 hp (λ M1 m1 m2 m3=>hfn M1 G1 w _ _ m1 m2 ((dow oy G1 y).weak hy λ k _ hk=>m3 k hk) ((hx.all h.st.has).weak λ k _ hk=>m3 k hk)) ks hk qs hq λ G' Gr M' v w' st hL hG' _ _ hr hres=>?_
 ·unfold execOp;rw[ho];have e:a.eval (.func f)=.func _ #[] #[]:=rfl;simp[resolve,e,Deferred.ofValue,invoke,xX hf,List.map_take,List.map_drop]
 ·have h1:=st.addO (x:=mk (λ b=>_\/Gr b)) hsn (back hL hG' hr λ b hb=>.inl hb) λ b hb=>by rw[zk hp];exact bk.own _ b hb
  exact next _ _ _ _ (h1.putL (zQ hh).2.2 hres.1 hres.2)
end
theorem zfg{α:Type}[Rep α]{y:α}(h:(dptr y).rd M w v)(l:Later M noB w M' w'):(dptr y).rd M' w' v:=by
 have h1:Rep.rdc M w [v] (⟨y⟩:Bx α):=⟨v,Z,h⟩;obtain⟨u,hu,h2⟩:=Rep.later h1 l;grind
section
variable{α β γ δ:Type}[Rep α][Rep β][Rep γ]
def Ow.boxA(b:Nat)(o:Ow α):Ow (Bx α) where
 ro M G w cs y:=o.pin.ro M G w cs ⟨b,y.x⟩
 toR h:=o.box.toR (Ow.pin_box h)
 stable h k:=o.pin.stable h k
 weak h k:=o.pin.weak h k
 more h k:=o.pin.more h k
theorem HP.unA{oy:Ow β}{y:Bx β}{R:(Nat->Prop)->(Nat->Prop)->World->Bx β->Prop}(h:HP (Ow.boxA b' oy) M G w b off y R):HP oy.pin M G w b off ⟨b',y.x⟩ (λ M' G' w' (z:Pn β)=>z.b=b'->R M' G' w' ⟨z.x⟩):=by
 obtain⟨G1,G2,C,e,s1,s2,hb,n1,n2,hd,hh,hsz,hr,put⟩:=h;exact⟨G1,G2,C,e,s1,s2,hb,n1,n2,hd,hh,hsz,hr,λ hL hh' hy nb h1 g0 h2 h3 e=>put hL hh' (by subst e;exact hy) nb h1 g0 h2 h3⟩
theorem PH.boxA{o:Ow γ}{x:γ}{v0:Value}{cf:CF}{oy:Ow β}{b off b':Nat}{y:Bx β}{upd:Bx β->γ}(h:PH o x v0 cf (Ow.boxA b' oy) b off y upd):PH o x v0 cf oy b' 0 y.x (λ z=>upd ⟨z⟩):=
 ⟨λ h1 h2 h3=>((h.of h1 h2 h3).unA).pin.2.mono λ h5=>h5 Z⟩
theorem RdAll.later(h:RdAll M w us xs)(hn:∀ x∈xs,x.nb=true)(l:Later M G w M' w'):RdAll M' w' us xs:=by
 have h1:=h.weak (M':=λ k=>M k\/w.heap.size<=k) λ k hk hm=>hm.elim id λ e=>by omega
 have h2:=h1.stable hn (w':=w') λ k hk hm=>l.same k hk (.inl λ hM=>hm.elim (λ e=>e (.inl hM)) λ e=>e.elim)
 exact h2.weak λ k _ hm=>if e:k<w.heap.size then .inl (l.weak k e hm) else .inr (by omega)
class Cap (β:Type) where
 ds:β->List Dt
 nb:∀ x,∀ y∈ds x,y.nb=true
structure C0 where
structure C1(β:Type) where
 x:β
instance:Cap C0:=⟨λ _=>[],λ _ _ h=>by cases h⟩
instance:Cap (C1 β):=⟨λ x=>[dptr x.x],λ x y h=>by rw[aF.1 h];rfl⟩
structure Fw(α β:Type) where
 o:Option (β×α)
variable[Cap δ]
instance:Inhabited (Fw α δ):=⟨⟨none⟩⟩
instance:Rep (Fw α δ) where
 size:=1
 agg:=false
 rdc M w cs y:=∃ v,cs=[v]/\v.oneCell'=true/\∀ q,y.o=some q->∃ F vp vd,v=.func (.func F) #[] (vp::vd).toArray/\(dptr q.2).rd M w vp/\RdAll M w vd (Cap.ds q.1)
 len:=λ⟨_,h,_⟩=>by rw[h];rfl
 one _:=rfl
 pos:=Nat.one_pos
 oneCell:=λ⟨v,h,h1,_⟩ c hc=>by
  rw[h] at hc;simp at hc;subst hc;exact h1
 stable:=λ⟨v,h,h1,h2⟩ e=>⟨v,h,h1,λ q hq=>let⟨F,vp,vd,k,k1,k2⟩:=h2 q hq;⟨F,vp,vd,k,(dptr _).stable k1 e,k2.stable (Cap.nb _) e⟩⟩
 weak:=λ⟨v,h,h1,h2⟩ e=>⟨v,h,h1,λ q hq=>let⟨F,vp,vd,k,k1,k2⟩:=h2 q hq;⟨F,vp,vd,k,(dptr _).weak k1 e,k2.weak e⟩⟩
def Ow.fw(z:Value)(F:FuncId)(b:Nat)(oo:Ow α):Ow (Fw α δ) where
 ro M G w cs y:=∃ v,cs=[v]/\(y.o=none->v=z/\z.oneCell'=true)/\∀ q,y.o=some q->∃ vd,v=.func (.func F) #[] (ptA b::vd).toArray/\oo.pin.ro M G w [ptA b] ⟨b,q.2⟩/\RdAll M w vd (Cap.ds q.1)
 toR:=λ{M G w cs y} ⟨v,h,h1,h2⟩=>⟨v,h,by
  cases hy:y.o with
  | none=>rw[(h1 hy).1];exact(h1 hy).2
  | some q=>obtain⟨vd,k,_⟩:=h2 q hy;rw[k];rfl,λ q hq=>by
  obtain⟨vd,k,k1,k2⟩:=h2 q hq;obtain⟨u,hu,hr⟩:=oo.box.toR (Ow.pin_box k1);injection hu with hu;exact⟨F,ptA b,vd,k,by rw[hu];exact hr,k2.weak λ _ _ hk=>hk.1⟩⟩
 stable:=λ⟨v,h,h1,h2⟩ e=>⟨v,h,h1,λ q hq=>let⟨vd,k,k1,k2⟩:=h2 q hq;⟨vd,k,oo.pin.stable k1 e,k2.stable (Cap.nb _) e.mono⟩⟩
 weak:=λ⟨v,h,h1,h2⟩ e=>⟨v,h,h1,λ q hq=>let⟨vd,k,k1,k2⟩:=h2 q hq;⟨vd,k,oo.pin.weak k1 e,k2.weak e⟩⟩
 more:=λ⟨v,h,h1,h2⟩ e=>⟨v,h,h1,λ q hq=>let⟨vd,k,k1,k2⟩:=h2 q hq;⟨vd,k,oo.pin.more k1 e,k2⟩⟩
variable{oo:Ow α}{x':α}
theorem Ow.fw_z{z:Value}{F:FuncId}(hz:z.oneCell'=true)(M:Nat->Prop)(w:World):(Ow.fw (δ:=δ) z F b oo).ro M noB w [z] ⟨none⟩:=⟨z,Z,λ _=>⟨Z,hz⟩,λ _ h=>by cases h⟩
theorem VP.fw{z:Value}{F b:Nat}{oo:Ow α}{M G:Nat->Prop}{w:World}{c:List Value}{y:Fw α δ}{q:δ×α}{R:(Nat->Prop)->(Nat->Prop)->World->Fw α δ->Prop}(h:VP (Ow.fw z F b oo) M G w c y R)(hq:y.o=some q):HP oo M G w b 0 q.2 (λ M' G' w' x'=>R M' G' w' ⟨some (q.1,x')⟩):=by
 obtain⟨G1,G2,s1,s2,hd,⟨v,hv,_,hs⟩,put⟩:=h;obtain⟨vd,k,⟨C',e',Gr,hc,hh',hG',hn',hsub,hr⟩,k2⟩:=hs q hq;refine⟨Gr,λ k=>G2 k,C',e',λ k hk=>s1 k (hsub k hk),s2,s1 b hG',hn',hd b hG',λ k hk=>hd k (hsub k hk),hh',?_,?_,λ{M' G1' G'' w' c' y'} hL hh2 hy nb h1 g0 h2 h3=>?_⟩
 ·have:=oo.len hr;rw[← this];simp
 ·have:=oo.len hr;rw[bN,← this,aL];exact hr
 ·have hl:=oo.len hr;have e1:C'.toList.take 0++c'++C'.toList.drop (0+Rep.size α)=c':=by rw[bU,bc,bu (by omega),aM]
  rw[e1] at hh2;refine put (G1':=λ k=>k=b\/G1' k) hL ⟨v,hv,(λ h=>by cases h),λ q' hq'=>?_⟩ (λ k hk hk2=>hk.elim (λ e=>hd b hG' (e ▸ hk2)) λ hk=>h1 k hk hk2) (λ k hk=>hk.elim (λ e=>e ▸ g0) (h2 k)) h3;injection hq' with hq';subst hq';refine⟨vd,k,⟨_,e',G1',Z,hh2,.inl Z,nb,λ k hk=>.inr hk,by simpa using hy⟩,?_⟩;exact RdAll.later k2 (Cap.nb _) hL
theorem PV.fw{o:Ow γ}{x:γ}{v0:Value}{cf:CF}{z:Value}{F b:Nat}{oo:Ow α}{off:Nat}{y:Fw α δ}{q:δ×α}{upd:Fw α δ->γ}(h:PV o x v0 cf (Ow.fw z F b oo) off y upd)(hq:y.o=some q):PH o x v0 cf oo b 0 q.2 (λ x'=>upd ⟨some (q.1,x')⟩):=⟨λ h1 h2 h3=>(h.of h1 h2 h3).1.fw hq⟩
theorem PH.fw{o:Ow γ}{x:γ}{v0:Value}{cf:CF}{z:Value}{F b:Nat}{oo:Ow α}{b0 off:Nat}{y:Fw α δ}{q:δ×α}{upd:Fw α δ->γ}(h:PH o x v0 cf (Ow.fw z F b oo) b0 off y upd)(hq:y.o=some q):PH o x v0 cf oo b 0 q.2 (λ x'=>upd ⟨some (q.1,x')⟩):=⟨λ h1 h2 h3=>let⟨_,_,_,_,hv⟩:=(h.of h1 h2 h3).vp;hv.fw hq⟩
def FnD(P:Program)(o:Ow α)(x:α)(xs:List Dt)(x':α)(r:Rd):Prop:=
 ∀
  (M0 G:Nat->Prop) (w:World) (v:Value) (vs:List Value),(∀ b,M0 b\/G b->b<w.heap.size)->(∀ b,G b->¬ M0 b)->(dow o G x).rd (λ b=>M0 b\/G b) w v->RdAll (λ b=>M0 b\/G b) w vs xs->
  ∃ (f:FuncId) (caps:List Value),v=.func (.func f) #[] caps.toArray/\fnB P f=true/\Calls P f (vs++caps).toArray w (RetS M0 w G v o x' r)
theorem FnD.any{o:Ow α}{x:α}(h:FnD P o x xs x' .gone):FnD P o x xs x' (.frz dany):=λ M0 G w v vs h1 h2 h3 h4=>
 let⟨f,caps,hv,hf,hc⟩:=h M0 G w v vs h1 h2 h3 h4
 ⟨f,caps,hv,hf,hc.mono λ _ _ ⟨u,G',Gr,k1,k2,k3,k4,k5,k6,k7,_⟩=>⟨u,G',Gr,k1,k2,k3,k4,k5,k6,k7,trivial,Z⟩⟩
theorem RdAll.app{M:Nat->Prop}{w:World}{us:List Value}{ys:List Dt}(k:RdAll M w us ys):∀ {vs:List Value} {xs:List Dt},RdAll M w vs xs->RdAll M w (vs++us) (xs++ys)
 | _,_,.nil=>k
 | _,_,.cons h r=>.cons h (RdAll.app k r)
theorem Grown.later{Gr:Nat->Prop}(hg:Grown G w w')(h1:∀ b,G' b->G b\/w.heap.size<=b)(h2:∀ b,Gr b->G b\/w.heap.size<=b):Later (λ b=>M0 b\/G b) noB w (λ b=>(M0 b\/G' b)\/Gr b) w':=
 ⟨λ k hk hm=>by
  rcases hm with(hm | hm) | hm
  ·exact .inl hm
  ·exact(h1 k hm).elim .inr λ e=>by omega
  ·exact(h2 k hm).elim .inr λ e=>by omega,λ k hk hm=>hm.elim (λ hm=>hg.block k hk λ e=>hm (.inr e)) λ e=>e.elim⟩
theorem fw_some{z:Value}{F:FuncId}{d:δ}{x:α}(hfn:FnM xs.length P F oo.box ⟨x⟩ (xs++Cap.ds d) ⟨x'⟩ r)(hf:fnB P F=true:=by kernel_rfl):FnD P (Ow.fw z F b oo) ⟨some (d,x)⟩ xs ⟨some (d,x')⟩ r:=by
 intro M0 G w v vs hm hg hv hr;obtain⟨cs,⟨u,hc,_,hs⟩,hv0⟩:=hv;obtain⟨vd,k,k1,k2⟩:=hs _ Z;subst hc;have hv1:=hv0;subst hv1;have hl:=hr.len;have h1:=hfn M0 G w _ _ hm hg ⟨_,Ow.pin_box k1,Z⟩ (RdAll.app k2 hr);rw[← hl,cY,bT] at h1;refine⟨F,ptA b::vd,k,hf,h1.mono λ en w' ⟨u,G',Gr,i1,i2,i3,i4,i5,i6,i7,i8⟩=>⟨u,G',Gr,i1,i2,i3,i4,i5,i6,⟨[v],⟨v,Z,(λ h=>by cases h),λ q hq=>?_⟩,rfl⟩,i8⟩⟩;injection hq with hq;subst hq;obtain⟨c',h4,h5⟩:=i7;have hc':c'=[ptA b]:=by
  obtain⟨b',C,e,Gr',hc,_⟩:=h4;rw[hc] at h5 ⊢;have h6:ptA b=ptA b':=h5;rw[h6]
 rw[hc'] at h4;exact⟨vd,k,Ow.box_pin h4 Z,k2.later (Cap.nb _) (i2.later i3 i4)⟩
theorem fw_none{F:FuncId}(hf:fnB P F0=true)(hfn:Fn P F0 xs y)(hn:y.nb=true):FnD P (Ow.fw (δ:=δ) (.func (.func F0) #[] #[]) F b oo) ⟨none⟩ xs ⟨none⟩ (.frz y):=by
 intro M0 G w v vs hm hg hv hr;obtain⟨cs,⟨u,hc,hz,_⟩,hv0⟩:=hv;subst hc;have hv1:=dU hv0 (hz Z).1;refine⟨F0,[],hv1,hf,?_⟩;rw[aM];refine(hfn _ w vs hm hr).mono λ en w' ⟨u',he,hx,hy⟩=>⟨u',noB,noB,he,(Grown.of_ext hx).mono λ b hb=>hb.elim,λ _ h=>h.elim,λ _ h=>h.elim,λ _ h=>h.elim,λ _ h=>h.elim (λ h=>h.elim) λ h=>h.elim,?_,?_,hn⟩
 ·exact⟨_,Ow.more _ (Ow.fw_z Z _ _) λ _ h=>h.elim,hv1⟩
 ·exact y.weak hy λ k _ hk=>hk.elim (λ h=>h.elim .inl λ h=>h.elim) λ h=>h.elim
end
abbrev FKt:=Fw (Bx Finder) (C1 Disk)
abbrev FLt:=Fw (List Compiled) (C1 Int)
variable{a2:Ow (FKt)}{a3:Ow (FLt)}
section
variable{fn:Func}{look:Nat->Option Dt}{T:Prop}
variable{α β γ δ:Type}[Rep α][Rep β][Rep γ][Cap δ]
variable{oo:Ow α}{oy:Ow β}
theorem Sx.cD{y y':β}{mk:(Nat->Prop)->Dt}(h:Sx F N M0 M Gs L O a w)(p:Nat)(bk:Back M w Gs p u (Act.at a sb) oy y y' mk)(hh:opH o N=some d)
  (ho:o.op=.call { callee:=.value q,args:=ag,argTypes:=ts }) (has:ag=l.toArray) (hqv:a.eval q=u) (hp:p<Gs.length) (hx:ArgsR M (λ s=>(L++envO O).lookup s) l xr) (hfn:FnD P oy y xr y' (.frz yd))
  (ks:List Nat) (hk:selP ks L=some L2) (qs:List Nat) (hq:selR L O qs p=some O2) (hsn:L2.lookup sb=none) (_hne:sb≠d)
  (next:∀{G'' M' a' w'},Sx F N M0 M' (Gs.set p G'') ((d,yd)::L2) ((sb,p,mk G'')::O2) a' w'->wpList P ops Q rest a' w'):wpList P ops Q (o::rest) a w:=by
 subst hqv;subst has;obtain⟨G1,hG1,hy,back⟩:=bk.ex;have hGM:=λ b hb=>(h.ob.at_ p b (hG1 b hb)).2.1
 have hM:∀ k,((M k/\¬ G1 k)\/G1 k)->M k:=λ k hk=>hk.elim (λ h=>h.1) (hGM k)
 have hra:=hx.all h.st.has;have key:∀ M1:Nat->Prop,_->_->(∀ k,M1 k\/G1 k->M k)->∃ (f:FuncId) (caps:List Value),a.eval q=.func _ #[] caps.toArray/\fnB P f=true/\Calls P f (l.map a.eval++caps).toArray w _:=λ M1 m1 m2 m3=>
  hfn M1 G1 w _ _ m1 m2 ((dow oy G1 y).weak hy λ k _ hk=>m3 k hk) (hra.weak λ k _ hk=>m3 k hk)
 obtain⟨f,caps,hv,hf,_⟩:=key (λ b=>M b/\¬ G1 b) (λ b hb=>h.st.mok b (hM b hb)) (λ b hb hm=>hm.2 hb) hM;refine h.cE (f:=f) (y':=y') (r:=.frz yd) (args:=(l.map a.eval++caps).toArray) p hh ?_ hy hG1 hp (λ M1 m1 m2 m3=>?_) ks hk qs hq λ G' Gr M' v w' st hL hG' _ _ hr hres=>?_
 ·unfold execOp;rw[ho];simp[resolve,hv,Deferred.ofValue,invoke,xX hf]
 ·obtain⟨f',caps',hv',_,hc⟩:=key M1 m1 m2 m3;have e:=hv.symm.trans hv';injection e with e1 _ e2;injection e1 with e1;have e3:caps=caps':=by simpa using bz Array.toList e2
  rw[e1,e3];exact hc
 ·have h1:=st.addO (x:=mk (λ b=>_\/Gr b)) hsn (back hL hG' hr λ b hb=>.inl hb) λ b hb=>by rw[zk hp];exact bk.own _ b hb
  exact next (h1.putL (zQ hh).2.2 hres.1 hres.2)
theorem Sx.hd1{ow:Ow α}{x:α}{y:β}{upd:β->α}(h:Sx F N M0 M Gs L O a w)(p:Nat)(c:Bool)(hP:c=true->PH ow x v0 cf oy b off y upd)(ha:Rep.agg β=false)(hs:(L++envO O).lookup s=some (dnm ow G x v0 cf))(hn:L.lookup s=none)(hG:∀ b,G b->zj Gs p b)(qs:List Nat)(hq:selR L O qs p=some O2)
  (next:∀ u:Value,u.oneCell'=true->Sx F N M0 M Gs L ((s,p,dnm ow G x v0 ((c,b,off,u)::cf))::O2) a w->T):T:=by
 obtain⟨h1,⟨cs,h2,h3⟩,h4⟩:=h.st.has s _ hs;have:∃ u:Value,u.oneCell'=true/\(c=true->G b/\b<w.heap.size/\Qa w b off u):=by
  cases c with
  | false=>exact⟨.nilFunc,Z,λ h=>by cases h⟩
  |true=>
   have hp:=(hP Z).of h2 h3 h4;obtain⟨C,e,hh,hsz,hGb,G1,G2,_,_,_,_,_,hr,_⟩:=hp.here;obtain⟨u,hu,_⟩:=mkv_one hr ha;have h1c:=oy.one hr u (by rw[hu];exact aF.2 Z);have hs1:=Rep.one ha;rw[hs1] at hu;have hcell:w.cell? ⟨b,off,none⟩=some u:=by simp[World.cell?,hh,Xr hu]
   exact⟨u,h1c,λ _=>⟨hGb,xG hh,by
    cases u <;> first
     | exact hcell
     | (simp[Value.oneCell'] at h1c)⟩⟩
 obtain⟨u,hu,hu'⟩:=this;refine next u hu ((h.drop hq).addO hn ⟨h1,⟨cs,h2,h3⟩,λ q hq' hb=>?_⟩ hG);rcases am.1 hq' with rfl | hq'
 ·exact hu' hb
 ·exact h4 q hq' hb
theorem Sx.hdAd{ow:Ow α}{x:α}{y:Bx β}{upd:Bx β->α}(h:Sx F N M0 M Gs L O a w)(p:Nat)(c:Bool)(hP:c=true->PH ow x v0 cf (Ow.boxA b' oy) b off y upd)(qs:List Nat)
  (next:Sx F N M0 M Gs L ((s,p,dnm ow G x v0 ((c,b,off,ptA b')::cf))::O2) a w->T)(hs:(L++envO O).lookup s=some (dnm ow G x v0 cf):=by rfl)(hn:L.lookup s=none:=by rfl)(hG:∀ b,G b->zj Gs p b:=by exact λ _ h=>h)(hq:selR L O qs p=some O2:=by rfl):T:=by
 obtain⟨h1,⟨cs,h2,h3⟩,h4⟩:=h.st.has s _ hs;refine next ((h.drop hq).addO hn ⟨h1,⟨cs,h2,h3⟩,λ q hq' hb=>?_⟩ hG);rcases am.1 hq' with rfl | hq'
 ·have hp:=(hP hb).of h2 h3 h4;obtain⟨_,_,hh,_,hGb,_⟩:=hp.here;exact⟨hGb,xG hh,hp.unA.pin.1⟩
 ·exact h4 q hq' hb
theorem xNeFw{y:Fw α δ}(ho:o.op=.binOp .neq t q (.const .nilFunc) t2)(ht:isFn P t=true)(hq:OpdR M look q (dis v0))(hs:look sb=some (dnm (Ow.fw .nilFunc F' bk oo) G y v0 cf)):OpRel P M look o (dt y.o.isSome):=
 zC λ a w _ hl=>by
  obtain⟨_,⟨cs,⟨v,hc,hz,hs'⟩,hv⟩,_⟩:=hl sb _ hs;subst hc;have hv0:v0=v:=hv;have h1:=(hq w a hl).trans hv0;have h2:a.eval (.const .nilFunc)=.nilFunc:=rfl;obtain⟨f1,f2,f3,hf⟩:=isFn_spec ht;have he:∀ u:Value,(u=.nilFunc\/∃ f c,u=.func f #[] c)->(Op.equal t u .nilFunc).run P w=.ok (match u with | .nilFunc=>true | _=>false) w:=λ u hu=>by
   unfold Op.equal Op.maxDepth;rw[show(10000:Nat)=9999+1 from Z,Op.equalIn];rcases hu with rfl | ⟨f,c,rfl⟩ <;> simp[aw hf]
  refine⟨.bool y.o.isSome,?_,xE.2 Z⟩;cases hy:y.o with
  |none=>have e:=(hz hy).1;subst e;have:=he .nilFunc (.inl Z);unfold execOp;rw[ho];simp[h1,h2,eqGuard,binOp,this]
  |some z=>obtain⟨vd,e,_⟩:=hs' z hy;subst e;have:=he (.func (.func F') #[] (ptA bk::vd).toArray) (.inr ⟨_,_,Z⟩);unfold execOp;rw[ho];simp[h1,h2,eqGuard,binOp,this]
theorem Sx.mkFw{z:Value}{so:Nat}{x:Bx α}{y:δ}(h:Sx F N M0 M Gs L O a w)(p:Nat)(h2:ArgsR M (λ s=>(L++envO O).lookup s) l (Cap.ds y))
  (ks:List Nat)  (qs:List Nat)   
  (next:∀ a',Sx F N M0 M Gs ((so,dis (ptA b))::L2) ((d,p,dow (Ow.fw z f b oo) G ⟨some (y,x.x)⟩)::O2) a' w->wpList P ops Q rest a' w)(hh:opH o N=some d:=by rfl)(ho:o.op=.makeFunc (.func f) #[] (.tmp so::l).toArray:=by rfl)(h1:(L++envO O).lookup so=some (dnm oo.box G x (ptA b) cf):=by rfl)(hp:p<Gs.length:=by simp)(hG:∀ b,G b->zj Gs p b:=by exact λ _ h=>h)(hk:selP ks L=some L2:=by rfl)(hq:selR L O qs p=some O2:=by rfl)(hdn:L2.lookup d=none:=by rfl)(hne:(d == so)=false:=by rfl):wpList P ops Q (o::rest) a w:=by
 obtain⟨hgd,hd,hN⟩:=zQ hh;obtain⟨k1,⟨cs,k2,k3⟩,_⟩:=h.st.has so _ h1;have k4:=h2.all h.st.has;have hcs:cs=[ptA b]:=by
  obtain⟨b',C,e,Gr,hc,_⟩:=k2;rw[hc] at k3 ⊢;have h6:ptA b=ptA b':=k3;rw[h6]
 subst hcs;have e1:a.eval (.tmp so)=ptA b:=k1;refine av hgd λ K hK=>OpOut.wp (OpOut.of_value (v:=.func (.func f) #[] (ptA b::l.map a.eval).toArray) (w':=w) ?_ ?_)
 ·unfold execOp;rw[ho];simp[Instr.makeFunc,e1]
 ·rw[hd];have h3:=(h.mut hp (Grown.refl _ w) hk hq).addL (y:=dis _) k1;exact hK _ _ (next _ (h3.putO hN (by simp only[ae,hne];exact hdn) ⟨_,⟨_,Z,λ h=>(by cases h),λ q hq=>by
   injection hq with hq;subst hq;exact⟨_,Z,Ow.box_pin k2 Z,k4⟩⟩,Z⟩ hG))
end
structure Rw(α β γ δ:Type) where
 c:γ
 a:α
 b:β
 d:δ
section
variable{α β γ δ:Type}[Rep α][Rep β][Rep γ][Rep δ]
instance:Rep (Rw α β γ δ) where
 size:=1
 agg:=false
 rdc M w cs y:=∃ F vc va vb vd,cs=[.func (.func F) #[] #[vc,va,vb,vd]]/\(dptr y.c).rd M w vc/\(dptr y.a).rd M w va/\(dptr y.b).rd M w vb/\(dptr y.d).rd M w vd
 len:=λ⟨_,_,_,_,_,h,_⟩=>by rw[h];rfl
 one _:=rfl
 pos:=Nat.one_pos
 oneCell:=λ⟨_,_,_,_,_,h,_⟩ c hc=>by
  rw[h] at hc;simp at hc;subst hc;rfl
 stable:=λ⟨F,vc,va,vb,vd,h,h1,h2,h3,h4⟩ e=>⟨F,vc,va,vb,vd,h,(dptr _).stable h1 e,(dptr _).stable h2 e,(dptr _).stable h3 e,(dptr _).stable h4 e⟩
 weak:=λ⟨F,vc,va,vb,vd,h,h1,h2,h3,h4⟩ e=>⟨F,vc,va,vb,vd,h,(dptr _).weak h1 e,(dptr _).weak h2 e,(dptr _).weak h3 e,(dptr _).weak h4 e⟩
theorem box_dptr{o:Ow α}{x:α}(h:o.box.ro M G w [ptA b] ⟨x⟩)(hs:∀ k,G k->G' k):(dptr x).rd (λ k=>M k/\¬ G' k) w (ptA b):=by
 obtain⟨u,hu,hr⟩:=o.box.toR h;injection hu with hu;rw[hu];exact(dptr x).weak hr λ k _ hk=>⟨hk.1,λ hg=>hk.2 (hs k hg)⟩
def Ow.rw(F b1 b2:Nat)(oa:Ow α)(ob:Ow β):Ow (Rw α β γ δ) where
 ro M G w cs y:=∃ vc vd G1 G2,(∀ k,G1 k->G k)/\(∀ k,G2 k->G k)/\(∀ k,G1 k->¬ G2 k)/\cs=[.func (.func F) #[] #[vc,ptA b1,ptA b2,vd]]/\(dptr y.c).rd M w vc/\oa.box.ro M G1 w [ptA b1] ⟨y.a⟩/\ob.box.ro M G2 w [ptA b2] ⟨y.b⟩/\(dptr y.d).rd M w vd
 toR:=λ⟨vc,vd,_G1,_G2,s1,s2,_,h,h1,h2,h3,h4⟩=>⟨F,vc,ptA b1,ptA b2,vd,h,(dptr _).weak h1 λ _ _ hk=>hk.1,box_dptr h2 s1,box_dptr h3 s2,(dptr _).weak h4 λ _ _ hk=>hk.1⟩
 stable:=λ⟨vc,vd,G1,G2,s1,s2,hd,h,h1,h2,h3,h4⟩ e=>⟨vc,vd,G1,G2,s1,s2,hd,h,(dptr _).stable h1 e.mono,oa.box.stable h2 (e.sub s1),ob.box.stable h3 (e.sub s2),(dptr _).stable h4 e.mono⟩
 weak:=λ⟨vc,vd,G1,G2,s1,s2,hd,h,h1,h2,h3,h4⟩ e=>⟨vc,vd,G1,G2,s1,s2,hd,h,(dptr _).weak h1 e,oa.box.weak h2 e,ob.box.weak h3 e,(dptr _).weak h4 e⟩
 more:=λ⟨vc,vd,G1,G2,s1,s2,hd,h,h1,h2,h3,h4⟩ e=>⟨vc,vd,G1,G2,λ k hk=>e k (s1 k hk),λ k hk=>e k (s2 k hk),hd,h,h1,h2,h3,h4⟩
theorem dnmB{o:Ow α}{x:Bx α}(h:o.box.ro M G w [ptA b] x):(dnm o.box G x (ptA b) []).rd M w (ptA b):=⟨Z,⟨_,h,Z⟩,λ q hq _=>by cases hq⟩
def RetRw(M0:Nat->Prop)(w:World)(G:Nat->Prop)(b1 b2:Nat)(oa:Ow α)(ob:Ow β)(x:α)(z:β)(r:Rd):Ending->World->Prop:=λ en w'=>
 ∃
  (u:Value) (G' Gr:Nat->Prop),en=.returned u/\Grown G w w'/\(∀ b,G' b->G b\/w.heap.size<=b)/\(∀ b,Gr b->G b\/w.heap.size<=b)/\(∀ b,G' b->¬ Gr b)/\(∀ b,G' b\/Gr b->b<w'.heap.size)/\
  (∃ G1 G2:Nat->Prop,(∀ k,G1 k->G' k)/\(∀ k,G2 k->G' k)/\(∀ k,G1 k->¬ G2 k)/\oa.box.ro (λ b=>(M0 b\/G' b)\/Gr b) G1 w' [ptA b1] ⟨x⟩/\ob.box.ro (λ b=>(M0 b\/G' b)\/Gr b) G2 w' [ptA b2] ⟨z⟩)/\r.rd (λ b=>(M0 b\/G' b)\/Gr b) Gr w' u
end
section
variable{fn:Func}{look:Nat->Option Dt}{T:Prop}
variable{α β γ δ:Type}[Rep α][Rep β][Rep γ][Rep δ]
variable{oa:Ow α}{ob:Ow β}{oy:Ow α}{x':α}{z':β}
theorem fnRw{c0:Code}{y:Rw α β γ δ}{X0 X1:Dt}(p1 p2 n:Nat)(hf:P.funcs[f]?=some fn)(hb:fn.body=some c0)(hn:6<=fn.ntmps)(hfb:fnB P f=true)(hn0:X0.nb=true)(hn1:X1.nb=true)
  (h:∀ (M G G1 G2:Nat->Prop) (w:World) (a:Act),Sx (Frm.chg w G) fn.ntmps M (λ b=>M b\/G b) (((List.replicate n (oneB none)).set p1 G1).set p2 G2) [(0,X0),(1,X1),(2,dptr y.c),(5,dptr y.d)] [(3,p1,dnm oa.box G1 ⟨y.a⟩ (ptA b1) []),(4,p2,dnm ob.box G2 ⟨y.b⟩ (ptA b2) [])] a w->c0.wp P (bodyPost P fn (RetRw M w G b1 b2 oa ob x' z' r)) a w)
    (hp1:p1<n:=by decide)(hp2:p2<n:=by decide)(hne:p1≠p2:=by decide):FnD P (Ow.rw f b1 b2 oa ob) y [X0,X1] ⟨y.c,x',z',y.d⟩ r:=by
 intro M0 G w v vs hm hg hv hr;obtain⟨cs,⟨vc,vd,G1,G2,s1,s2,hd,hc,k1,k2,k3,k4⟩,hv0⟩:=hv;subst hc;have hv1:=hv0;refine⟨f,[vc,ptA b1,ptA b2,vd],hv1,hfb,?_⟩;have hlen:((List.replicate n (oneB none)).set p1 G1).length=n:=by simp
 have hown:∀ q b,zj (((List.replicate n _).set p1 G1).set p2 G2) q b ↔ (q=p1/\G1 b)\/(q=p2/\G2 b):=λ q b=>by
  by_cases h2:p2=q
  ·subst h2;rw[zk (by rw[hlen];exact hp2)];exact⟨λ h=>.inr ⟨Z,h⟩,λ h=>h.elim (λ h=>absurd h.1.symm hne) λ h=>h.2⟩
  ·rw[zq h2];by_cases h1:p1=q
   ·subst h1;rw[zk (by simpa using hp1)];exact⟨λ h=>.inl ⟨Z,h⟩,λ h=>h.elim (λ h=>h.2) λ h=>absurd h.1.symm h2⟩
   ·rw[zq h1];exact⟨λ h=>(J4 h).elim,λ h=>h.elim (λ h=>absurd h.1.symm h1) λ h=>absurd h.1.symm h2⟩
 have hra:=
  RdAll.app (.cons k1 (.cons (dnmB k2) (.cons (dnmB k3) (.cons k4 .nil)))) hr
 have hl:=hra.len;refine(cP hf hb (h M0 G G1 G2 w _ ?_)).mono λ en w' ⟨u,G',Gr,i1,i2,i3,i4,i5,i6,⟨H1,H2,j1,j2,j3,j4,j5⟩,i8⟩=>⟨u,G',Gr,i1,i2,i3,i4,i5,i6,⟨_,⟨vc,vd,H1,H2,j1,j2,j3,Z,zfg k1 (i2.later i3 i4),j4,j5,zfg k4 (i2.later i3 i4)⟩,hv1⟩,i8⟩
 refine⟨⟨Grown.refl _ _,by simp at hl ⊢;omega,Z,hm,λ s x hs=>?_⟩,⟨λ b hb=>.inl hb,λ q b hb=>?_,λ q r b hqr h1 h2=>?_⟩,XU (by simp only[Ji,hn0,hn1];rfl),⟨λ b hb=>(hown p1 b).2 (.inl ⟨Z,hb⟩),λ b hb=>(hown p2 b).2 (.inr ⟨Z,hb⟩),trivial⟩⟩
 ·have hs':(zK 0 ([X0,X1]++[dptr y.c,dnm oa.box G1 ⟨y.a⟩ (ptA b1) [],dnm ob.box G2 ⟨y.b⟩ (ptA b2) [],dptr y.d])).lookup s=some x:=by
   match s,hs with
   | 0,hs=>exact hs
   | 1,hs=>exact hs
   | 2,hs=>exact hs
   | 3,hs=>exact hs
   | 4,hs=>exact hs
   | 5,hs=>exact hs
   | s+6,hs=>simp[envO,ae] at hs
  obtain⟨j,u,h1,h2,h3⟩:=hra.nth 0 s x hs';have hj:=(ai.1 h2).1;have h5:(vs++[vc,ptA b1,ptA b2,vd]).toArray[j]?=some u:=by rw[cU];exact h2
  have hj':j<(vs++[vc,ptA b1,ptA b2,vd]).toArray.size:=by rw[dQ];exact hj
  have:s=j:=by omega
  subst this;have h4:Act.at { tmps:=(vs++[vc,ptA b1,ptA b2,vd]).toArray++Array.replicate (fn.ntmps - (vs++[vc,ptA b1,ptA b2,vd]).toArray.size) undef,defers:=[] } s=u:=by
   simp[Act.at];rw[aV hj',h5];rfl
  rw[h4];exact h3
 ·rcases(hown q b).1 hb with⟨_,hb'⟩ | ⟨_,hb'⟩
  ·exact⟨.inl (s1 b hb'),.inr (s1 b hb'),hg b (s1 b hb')⟩
  ·exact⟨.inl (s2 b hb'),.inr (s2 b hb'),hg b (s2 b hb')⟩
 ·rcases(hown q b).1 h1 with⟨e1,k⟩ | ⟨e1,k⟩ <;> rcases(hown r b).1 h2 with⟨e2,k'⟩ | ⟨e2,k'⟩
  ·exact hqr (e1.trans e2.symm)
  ·exact hd b k k'
  ·exact hd b k' k
  ·exact hqr (e1.trans e2.symm)
theorem Sx.rsP{t s1:Nat}{x:α}{z:β}{y y':γ}(h:Sx (Frm.chg w0 G) N M0 M Gs L O a w)(p1 p2:Nat)(hr:fn.results=#[.tmp t])(hl:(L++envO O).lookup t=some (dt y))(hs1:(L++envO O).lookup s1=some (dnm oa.box G1 ⟨x⟩ (ptA b1) cf1))(hs2:(L++envO O).lookup s2=some (dnm ob.box G2 ⟨z⟩ (ptA b2) cf2))(hG1:∀ b,G1 b->zj Gs p1 b)(hG2:∀ b,G2 b->zj Gs p2 b)
  (hm:some ((x,z),y)=some ((x',z'),y'))(hne:p1≠p2:=by decide):bodyPost P fn (RetRw M0 w0 G b1 b2 oa ob x' z' (.frz (dt y'))) .ret a w:=by
 injection hm with hm;injection hm with h1 h2;injection h1 with h1 h3;subst h1;subst h2;subst h3;have one:∀ {τ:Type} [Rep τ] {ow:Ow τ} {s b:Nat} {g:Nat->Prop} {x:τ} {cf:CF},(L++envO O).lookup s=some (dnm ow.box g ⟨x⟩ (ptA b) cf)->ow.box.ro M g w [ptA b] ⟨x⟩:=λ{τ _ ow s b g x cf} hs=>by
  obtain⟨_,⟨cs,k2,k3⟩,_⟩:=h.st.has s _ hs;obtain⟨b',C,e,Gr,hc,k4⟩:=k2;rw[hc] at k3;have h6:=k3;rw[h6];exact⟨b',C,e,Gr,Z,k4⟩
 have hM:∀ k,k<w.heap.size->(M0 k\/(G1 k\/G2 k))\/noB k->M k:=λ k _ hk=>hk.elim (λ hk=>hk.elim (h.ob.sub k) λ hk=>hk.elim (λ hk=>(h.ob.at_ p1 k (hG1 k hk)).2.1) λ hk=>(h.ob.at_ p2 k (hG2 k hk)).2.1) λ h=>h.elim
 exact⟨h.st.defers,_,cQ hr a.tmps P w,_,λ k=>G1 k\/G2 k,noB,Z,h.st.fr,λ b hb=>hb.elim (λ hb=>(h.ob.at_ p1 b (hG1 b hb)).1) λ hb=>(h.ob.at_ p2 b (hG2 b hb)).1,λ _ h=>h.elim,λ _ _ h=>h,λ b hb=>hb.elim (λ hb=>hb.elim (λ hb=>h.st.mok b (h.ob.at_ p1 b (hG1 b hb)).2.1) λ hb=>h.st.mok b (h.ob.at_ p2 b (hG2 b hb)).2.1) λ h=>h.elim,
  ⟨G1,G2,λ _ h=>.inl h,λ _ h=>.inr h,λ b h1 h2=>h.ob.apart p1 p2 b hne (hG1 b h1) (hG2 b h2),oa.box.weak (one hs1) hM,ob.box.weak (one hs2) hM⟩,(dt y).weak (h.st.has t _ hl) hM,Z⟩
theorem Sx.mkRw{sc sa sd:Nat}{x:Bx α}{z:Bx β}{yc:γ}{yd:δ}(h:Sx F N M0 M Gs L O a w)(p p2:Nat)(hh:opH o N=some d)(ho:o.op=.makeFunc (.func f) #[] #[.tmp sc,.tmp sa,.tmp sb,.tmp sd])(h1:(L++envO O).lookup sa=some (dnm oa.box G1 x (ptA b1) cf1))(h2:(L++envO O).lookup sb=some (dnm ob.box G2 z (ptA b2) cf2))(h3:(L++envO O).lookup sc=some (dptr yc))(h4:(L++envO O).lookup sd=some (dptr yd))(hG1:∀ b,G1 b->zj Gs p b)(hG2:∀ b,G2 b->zj Gs p2 b)
  (ks:List Nat) (hk:selP ks L=some L2) (qs:List Nat) (hq:selR L O qs p=some O2) (hq2:O2.all (λ q=>q.2.1 != p2)=true) (hdn:L2.lookup d=none) (hd1:(d == sa)=false) (hd2:(d == sb)=false)
  (next:∀ G' a',Sx F N M0 M ((Gs.set p G').set p2 (oneB none)) ((sa,dis (ptA b1))::(sb,dis (ptA b2))::L2) ((d,p,dow (Ow.rw f b1 b2 oa ob) G' ⟨yc,x.x,z.x,yd⟩)::O2) a' w->wpList P ops Q rest a' w)(hp:p<Gs.length:=by simp)(hp2:p2<Gs.length:=by simp)(hne:p≠p2:=by decide):wpList P ops Q (o::rest) a w:=by
 obtain⟨hgd,hd,hN⟩:=zQ hh;have one:∀ {τ:Type} [Rep τ] {ow:Ow τ} {s b:Nat} {g:Nat->Prop} {x:Bx τ} {cf:CF},(L++envO O).lookup s=some (dnm ow.box g x _ cf)->Act.at a s=ptA b/\ow.box.ro M g w [ptA b] ⟨x.x⟩:=λ{τ _ ow s b g x cf} hs=>by
  obtain⟨k1,⟨cs,k2,k3⟩,_⟩:=h.st.has s _ hs;obtain⟨b',C,e,Gr,hc,k4⟩:=k2;rw[hc] at k3;have h6:=k3;refine⟨k1,?_⟩;rw[h6];exact⟨b',C,e,Gr,Z,k4⟩
 obtain⟨e1,r1⟩:=one h1;obtain⟨e2,r2⟩:=one h2;have e1':a.eval (.tmp sa)=ptA b1:=e1;have e2':a.eval (.tmp sb)=ptA b2:=e2;refine av hgd λ K hK=>OpOut.wp (OpOut.of_value (v:=.func (.func f) #[] #[Act.at a sc,ptA b1,ptA b2,Act.at a sd]) (w':=w) ?_ ?_)
 ·unfold execOp;rw[ho];simp[Instr.makeFunc,e1',e2',Act.eval_tmp]
 ·rw[hd];have k1:=((h.mut hp (Grown.refl _ w) hk hq).addL (y:=dis _) e2).addL (y:=dis _) e1;have k2:=k1.mrg hp hp2 hne hq2;have e:JB Gs p p2=(Gs.set p (λ b=>zj Gs p b\/zj Gs p2 b)).set p2 _:=rfl;rw[e] at k2;exact hK _ _ (next _ _ (k2.putO hN (by simp only[ae,hd1,hd2];exact hdn) ⟨_,⟨_,_,G1,G2,λ k hk=>.inl (hG1 k hk),λ k hk=>.inr (hG2 k hk),λ k h1 h2=>h.ob.apart p p2 k hne (hG1 k h1) (hG2 k h2),Z,h.st.has sc _ h3,r1,r2,h.st.has sd _ h4⟩,Z⟩ λ b hb=>by rw[zq (bo hne),zk hp];exact hb))
theorem Sx.part2{ow:Ow γ}{oz:Ow β}{sc c:Nat}{x:γ}{y:α}{z:β}(h:Sx F N M0 M Gs L O a w)(p p2:Nat)(hs:(L++envO O).lookup s=some (dnm ow G x v0 cf))(hb:L.lookup sb=some (dis (ptA b)))(hc:L.lookup sc=some (dis (ptA c)))
  (hP:∀ {M G:Nat->Prop} {w:World} {cs:List Value},ow.ro M G w cs x->∃ G1 G2:Nat->Prop,(∀ k,G1 k->G k)/\(∀ k,G2 k->G k)/\(∀ k,G1 k->¬ G2 k)/\oy.box.ro M G1 w [ptA b] ⟨y⟩/\oz.box.ro M G2 w [ptA c] ⟨z⟩)
  (ks:List Nat) (hk:selP ks L=some L2) (qs:List Nat) (hq:selR L O qs p=some O2) (hq2:O2.all (λ q=>q.2.1 != p&&q.2.1 != p2)=true) (hbn:L2.lookup sb=none) (hcn:L2.lookup sc=none)
  (next:∀ G1 G2,Sx F N M0 M ((Gs.set p G1).set p2 G2) L2 ((sb,p,dnm oy.box G1 ⟨y⟩ (ptA b) [])::(sc,p2,dnm oz.box G2 ⟨z⟩ (ptA c) [])::O2) a w->T)(hG:∀ b,G b->zj Gs p b:=by exact λ _ h=>h)(hp:p<Gs.length:=by simp)(hp2:p2<Gs.length:=by simp)(hne:p≠p2:=by decide):T:=by
 obtain⟨_,⟨cs,k2,_⟩,_⟩:=h.st.has s _ hs;obtain⟨G1,G2,s1,s2,hd,r1,r2⟩:=hP k2;have e1:=h.st.has sb _ (yF hb);have e2:=h.st.has sc _ (yF hc);have h1:=(h.mut hp (Grown.refl _ w) hk hq).spl hp hp2 hne (λ k hk=>hG k (s1 k hk)) (λ k hk=>hG k (s2 k hk)) hd hq2;have h2:=h1.addO (x:=dnm oz.box G2 ⟨z⟩ _ []) hcn ⟨e2,⟨_,r2,Z⟩,λ q hq _=>by cases hq⟩ λ k hk=>by rw[zk (by simpa using hp2)];exact hk
 exact next G1 G2 (h2.addO hbn ⟨e1,⟨_,r1,Z⟩,λ q hq _=>by cases hq⟩ λ k hk=>by rw[zq (bo hne),zk hp];exact hk)
theorem Ow.rw_parts{F:Nat}{x:Rw α β γ δ}{cs:List Value}(h:(Ow.rw F b1 b2 oa ob).ro M G w cs x):∃ G1 G2:Nat->Prop,(∀ k,G1 k->G k)/\(∀ k,G2 k->G k)/\(∀ k,G1 k->¬ G2 k)/\oa.box.ro M G1 w [ptA b1] ⟨x.a⟩/\ob.box.ro M G2 w [ptA b2] ⟨x.b⟩:=
 let⟨_,_,G1,G2,s1,s2,hd,_,_,h2,h3,_⟩:=h;⟨G1,G2,s1,s2,hd,h2,h3⟩
theorem Sx.part1{ow:Ow γ}{x:γ}{y:α}(h:Sx F N M0 M Gs L O a w)(p:Nat)(hs:(L++envO O).lookup s=some (dnm ow G x v0 cf))(hG:∀ b,G b->zj Gs p b)(hb:L.lookup sb=some (dis (ptA b)))
  (hP:∀ {M G:Nat->Prop} {w:World} {cs:List Value},ow.ro M G w cs x->∃ G1:Nat->Prop,(∀ k,G1 k->G k)/\oy.box.ro M G1 w [ptA b] ⟨y⟩)
  (ks:List Nat) (hk:selP ks L=some L2) (qs:List Nat) (hq:selR L O qs p=some O2) (hbn:L2.lookup sb=none)(hp:p<Gs.length:=by simp):Sx F N M0 M Gs L2 ((sb,p,dnm oy.box G ⟨y⟩ (ptA b) [])::O2) a w:=by
 obtain⟨_,⟨cs,k2,_⟩,_⟩:=h.st.has s _ hs;obtain⟨G1,s1,r1⟩:=hP k2;exact(h.mut hp (Grown.refl _ w) hk hq).addO hbn ⟨h.st.has sb _ (yF hb),⟨_,oy.box.more r1 s1,Z⟩,λ q hq _=>by cases hq⟩ hG
end
structure Warmth where
 on:Bool
 disk:Disk
 finder:Finder
 store:List Compiled
 mode:Int
instance:Rep Warmth:=Rep.iso (λ x=>((x.on,x.disk,x.finder,x.store,x.mode):Bool×Disk×Finder×List Compiled×Int))
theorem Warmth.parts{x:Warmth}(h0:Rep.rdc M w c0 x.on)(h1:Rep.rdc M w c1 x.disk)(h2:Rep.rdc M w c2 x.finder)(h3:Rep.rdc M w c3 x.store)(h4:Rep.rdc M w c4 x.mode):Rep.rdc M w [c0,c1,c2,c3,c4].flatten x:=by
 simp;exact⟨c0,_,Z,h0,⟨c1,_,Z,h1,⟨c2,_,Z,h2,⟨c3,_,Z,h3,h4⟩⟩⟩⟩
structure Machine where
 t:Tree
 path:List Int
 known:FKt
 load:FLt
 modules:List (Bx GMod)
 out:List Int
 log:List GEvent
 part:List Str
 left:Int
instance:Rep Machine:=Rep.iso (λ x=>((x.t,x.path,x.known,x.load,x.modules,x.out,x.log,x.part,x.left):Tree×List Int×FKt×FLt×List (Bx GMod)×List Int×List GEvent×List Str×Int))
theorem Machine.fld4:Fld (λ x:Machine=>x.modules) 4:=⟨λ h=>((Fld.snd (Fld.snd (Fld.snd (Fld.snd Fld.fst))))).sub h⟩
structure Runner where
 t:Tree
 path:List Int
 mods:List GMod
 log:List GEvent
 out:List Int
 fin:Int
 left:Int
 warm:Bx Warmth
instance:Rep Runner:=Rep.iso (λ x=>((x.t,x.path,x.mods,x.log,x.out,x.fin,x.left,x.warm):Tree×List Int×List GMod×List GEvent×List Int×Int×Int×Bx Warmth))
def zcPtr:List Value:=[.pointer none]
def zcNilf:List Value:=[.nilFunc]
def zpWarmth:List (List Value):=[za4,zcDisk,zc9,js,xp]
def zpMachine:List (List Value):=[za5,js,zcNilf,zcNilf,js,js,js,js,xp]
def zpRunner:List (List Value):=[za5,js,js,js,js,xp,xp,zcPtr]
@[reducible] def owRunner (a2:Ow (List GMod)) (a3:Ow (List GEvent)) (a4:Ow (List Int)) (a7:Ow (Bx Warmth)):Ow Runner:=Ow.via (λ(x:Runner)=>((x.t,x.path,x.mods,x.log,x.out,x.fin,x.left,x.warm):Tree×List Int×List GMod×List GEvent×List Int×Int×Int×Bx Warmth)) (Ow.pr (Ow.frz (α:=Tree)) (Ow.pr (Ow.frz (α:=List Int)) (Ow.pr a2 (Ow.pr a3 (Ow.pr a4 (Ow.pr (Ow.frz (α:=Int)) (Ow.pr (Ow.frz (α:=Int)) a7)))))))
theorem owRunner.f0{a2:Ow (List GMod)}{a3:Ow (List GEvent)}{a4:Ow (List Int)}{a7:Ow (Bx Warmth)}:FldW (owRunner a2 a3 a4 a7) (Ow.frz (α:=Tree)) (λ x:Runner=>x.t) (λ y x=>{ x with t:=y }) 0:=⟨λ h=>(FldW.fst).foc h⟩
theorem owRunner.f1{a2:Ow (List GMod)}{a3:Ow (List GEvent)}{a4:Ow (List Int)}{a7:Ow (Bx Warmth)}:FldW (owRunner a2 a3 a4 a7) (Ow.frz (α:=List Int)) (λ x:Runner=>x.path) (λ y x=>{ x with path:=y }) 1:=⟨λ h=>((FldW.snd FldW.fst)).foc h⟩
theorem owRunner.f2{a2:Ow (List GMod)}{a3:Ow (List GEvent)}{a4:Ow (List Int)}{a7:Ow (Bx Warmth)}:FldW (owRunner a2 a3 a4 a7) a2 (λ x:Runner=>x.mods) (λ y x=>{ x with mods:=y }) 2:=⟨λ h=>((FldW.snd (FldW.snd FldW.fst))).foc h⟩
theorem owRunner.f3{a2:Ow (List GMod)}{a3:Ow (List GEvent)}{a4:Ow (List Int)}{a7:Ow (Bx Warmth)}:FldW (owRunner a2 a3 a4 a7) a3 (λ x:Runner=>x.log) (λ y x=>{ x with log:=y }) 3:=⟨λ h=>((FldW.snd (FldW.snd (FldW.snd FldW.fst)))).foc h⟩
theorem owRunner.f4{a2:Ow (List GMod)}{a3:Ow (List GEvent)}{a4:Ow (List Int)}{a7:Ow (Bx Warmth)}:FldW (owRunner a2 a3 a4 a7) a4 (λ x:Runner=>x.out) (λ y x=>{ x with out:=y }) 4:=⟨λ h=>((FldW.snd (FldW.snd (FldW.snd (FldW.snd FldW.fst))))).foc h⟩
theorem owRunner.f5{a2:Ow (List GMod)}{a3:Ow (List GEvent)}{a4:Ow (List Int)}{a7:Ow (Bx Warmth)}:FldW (owRunner a2 a3 a4 a7) (Ow.frz (α:=Int)) (λ x:Runner=>x.fin) (λ y x=>{ x with fin:=y }) 5:=⟨λ h=>((FldW.snd (FldW.snd (FldW.snd (FldW.snd (FldW.snd FldW.fst)))))).foc h⟩
theorem owRunner.f6{a2:Ow (List GMod)}{a3:Ow (List GEvent)}{a4:Ow (List Int)}{a7:Ow (Bx Warmth)}:FldW (owRunner a2 a3 a4 a7) (Ow.frz (α:=Int)) (λ x:Runner=>x.left) (λ y x=>{ x with left:=y }) 6:=⟨λ h=>((FldW.snd (FldW.snd (FldW.snd (FldW.snd (FldW.snd (FldW.snd FldW.fst))))))).foc h⟩
theorem owRunner.f7{a2:Ow (List GMod)}{a3:Ow (List GEvent)}{a4:Ow (List Int)}{a7:Ow (Bx Warmth)}:FldW (owRunner a2 a3 a4 a7) a7 (λ x:Runner=>x.warm) (λ y x=>{ x with warm:=y }) 7:=⟨λ h=>((FldW.snd (FldW.snd (FldW.snd (FldW.snd (FldW.snd (FldW.snd (FldW.snd FldW.id)))))))).foc h⟩
theorem owRunner.mk{M:Nat->Prop}{w:World}{x:Runner}{g2:Nat->Prop}{a2:Ow (List GMod)}{g3:Nat->Prop}{a3:Ow (List GEvent)}{g4:Nat->Prop}{a4:Ow (List Int)}{g7:Nat->Prop}{a7:Ow (Bx Warmth)}{c0:List Value}{c1:List Value}{c2:List Value}{c3:List Value}{c4:List Value}{c5:List Value}{c6:List Value}{c7:List Value}(h0:Rep.rdc M w c0 x.t)(h1:Rep.rdc M w c1 x.path)(h2:a2.ro M g2 w c2 x.mods)(h3:a3.ro M g3 w c3 x.log)(h4:a4.ro M g4 w c4 x.out)(h5:Rep.rdc M w c5 x.fin)(h6:Rep.rdc M w c6 x.left)(h7:a7.ro M g7 w c7 x.warm)(d2:∀ b,g2 b->¬ (λ b=>g3 b\/(λ b=>g4 b\/g7 b) b) b)(d3:∀ b,g3 b->¬ (λ b=>g4 b\/g7 b) b)(d4:∀ b,g4 b->¬ g7 b):(owRunner a2 a3 a4 a7).ro M (λ b=>g2 b\/(λ b=>g3 b\/(λ b=>g4 b\/g7 b) b) b) w [c0,c1,c2,c3,c4,c5,c6,c7].flatten x:=by
 simp;exact⟨noB,(λ b=>g2 b\/(λ b=>g3 b\/(λ b=>g4 b\/g7 b) b) b),c0,_,λ _ h=>h.elim,λ _ h=>h,λ _ h=>h.elim,Z,h0,⟨noB,(λ b=>g2 b\/(λ b=>g3 b\/(λ b=>g4 b\/g7 b) b) b),c1,_,λ _ h=>h.elim,λ _ h=>h,λ _ h=>h.elim,Z,h1,⟨g2,(λ b=>g3 b\/(λ b=>g4 b\/g7 b) b),c2,_,λ _ h=>.inl h,λ _ h=>.inr h,d2,Z,h2,⟨g3,(λ b=>g4 b\/g7 b),c3,_,λ _ h=>.inl h,λ _ h=>.inr h,d3,Z,h3,⟨g4,g7,c4,_,λ _ h=>.inl h,λ _ h=>.inr h,d4,Z,h4,⟨noB,g7,c5,_,λ _ h=>h.elim,λ _ h=>h,λ _ h=>h.elim,Z,h5,⟨noB,g7,c6,_,λ _ h=>h.elim,λ _ h=>h,λ _ h=>h.elim,Z,h6,h7⟩⟩⟩⟩⟩⟩⟩
@[reducible] def owGModR (a5:Ow (List GAttr)):Ow GMod:=Ow.via (λ(x:GMod)=>((x.name,x.kind,x.roots,x.cached,x.done,x.attrs):Str×Int×List Int×Bool×Bool×List GAttr)) (Ow.pr (Ow.frz (α:=Str)) (Ow.pr (Ow.frz (α:=Int)) (Ow.pr (Ow.frz (α:=List Int)) (Ow.pr (Ow.frz (α:=Bool)) (Ow.pr (Ow.frz (α:=Bool)) a5)))))
theorem owGModR.f0{a5:Ow (List GAttr)}:FldW (owGModR a5) (Ow.frz (α:=Str)) (λ x:GMod=>x.name) (λ y x=>{ x with name:=y }) 0:=⟨λ h=>(FldW.fst).foc h⟩
theorem owGModR.f1{a5:Ow (List GAttr)}:FldW (owGModR a5) (Ow.frz (α:=Int)) (λ x:GMod=>x.kind) (λ y x=>{ x with kind:=y }) 1:=⟨λ h=>((FldW.snd FldW.fst)).foc h⟩
theorem owGModR.f2{a5:Ow (List GAttr)}:FldW (owGModR a5) (Ow.frz (α:=List Int)) (λ x:GMod=>x.roots) (λ y x=>{ x with roots:=y }) 2:=⟨λ h=>((FldW.snd (FldW.snd FldW.fst))).foc h⟩
theorem owGModR.f3{a5:Ow (List GAttr)}:FldW (owGModR a5) (Ow.frz (α:=Bool)) (λ x:GMod=>x.cached) (λ y x=>{ x with cached:=y }) 3:=⟨λ h=>((FldW.snd (FldW.snd (FldW.snd FldW.fst)))).foc h⟩
theorem owGModR.f4{a5:Ow (List GAttr)}:FldW (owGModR a5) (Ow.frz (α:=Bool)) (λ x:GMod=>x.done) (λ y x=>{ x with done:=y }) 4:=⟨λ h=>((FldW.snd (FldW.snd (FldW.snd (FldW.snd FldW.fst))))).foc h⟩
theorem owGModR.f5{a5:Ow (List GAttr)}:FldW (owGModR a5) a5 (λ x:GMod=>x.attrs) (λ y x=>{ x with attrs:=y }) 5:=⟨λ h=>((FldW.snd (FldW.snd (FldW.snd (FldW.snd (FldW.snd FldW.id)))))).foc h⟩
theorem owGModR.mk{M:Nat->Prop}{w:World}{x:GMod}{g5:Nat->Prop}{a5:Ow (List GAttr)}{c0:List Value}{c1:List Value}{c2:List Value}{c3:List Value}{c4:List Value}{c5:List Value}(h0:Rep.rdc M w c0 x.name)(h1:Rep.rdc M w c1 x.kind)(h2:Rep.rdc M w c2 x.roots)(h3:Rep.rdc M w c3 x.cached)(h4:Rep.rdc M w c4 x.done)(h5:a5.ro M g5 w c5 x.attrs)  : (owGModR a5).ro M g5 w [c0,c1,c2,c3,c4,c5].flatten x:=by
 simp;exact⟨noB,g5,c0,_,λ _ h=>h.elim,λ _ h=>h,λ _ h=>h.elim,Z,h0,⟨noB,g5,c1,_,λ _ h=>h.elim,λ _ h=>h,λ _ h=>h.elim,Z,h1,⟨noB,g5,c2,_,λ _ h=>h.elim,λ _ h=>h,λ _ h=>h.elim,Z,h2,⟨noB,g5,c3,_,λ _ h=>h.elim,λ _ h=>h,λ _ h=>h.elim,Z,h3,⟨noB,g5,c4,_,λ _ h=>h.elim,λ _ h=>h,λ _ h=>h.elim,Z,h4,h5⟩⟩⟩⟩⟩
@[reducible] def owMachine (a2:Ow (FKt)) (a3:Ow (FLt)) (a4:Ow (List (Bx GMod))) (a5:Ow (List Int)) (a6:Ow (List GEvent)) (a7:Ow (List Str)):Ow Machine:=Ow.via (λ(x:Machine)=>((x.t,x.path,x.known,x.load,x.modules,x.out,x.log,x.part,x.left):Tree×List Int×FKt×FLt×List (Bx GMod)×List Int×List GEvent×List Str×Int)) (Ow.pr (Ow.frz (α:=Tree)) (Ow.pr (Ow.frz (α:=List Int)) (Ow.pr a2 (Ow.pr a3 (Ow.pr a4 (Ow.pr a5 (Ow.pr a6 (Ow.pr a7 (Ow.frz (α:=Int))))))))))
theorem owMachine.f0:FldW (owMachine a2 a3 a4 a5 a6 a7) (Ow.frz (α:=Tree)) (λ x:Machine=>x.t) (λ y x=>{ x with t:=y }) 0:=⟨λ h=>(FldW.fst).foc h⟩
theorem owMachine.f1:FldW (owMachine a2 a3 a4 a5 a6 a7) (Ow.frz (α:=List Int)) (λ x:Machine=>x.path) (λ y x=>{ x with path:=y }) 1:=⟨λ h=>((FldW.snd FldW.fst)).foc h⟩
theorem owMachine.f2:FldW (owMachine a2 a3 a4 a5 a6 a7) a2 (λ x:Machine=>x.known) (λ y x=>{ x with known:=y }) 2:=⟨λ h=>((FldW.snd (FldW.snd FldW.fst))).foc h⟩
theorem owMachine.f3:FldW (owMachine a2 a3 a4 a5 a6 a7) a3 (λ x:Machine=>x.load) (λ y x=>{ x with load:=y }) 3:=⟨λ h=>((FldW.snd (FldW.snd (FldW.snd FldW.fst)))).foc h⟩
theorem owMachine.f4:FldW (owMachine a2 a3 a4 a5 a6 a7) a4 (λ x:Machine=>x.modules) (λ y x=>{ x with modules:=y }) 4:=⟨λ h=>((FldW.snd (FldW.snd (FldW.snd (FldW.snd FldW.fst))))).foc h⟩
theorem owMachine.f5:FldW (owMachine a2 a3 a4 a5 a6 a7) a5 (λ x:Machine=>x.out) (λ y x=>{ x with out:=y }) 5:=⟨λ h=>((FldW.snd (FldW.snd (FldW.snd (FldW.snd (FldW.snd FldW.fst)))))).foc h⟩
theorem owMachine.f6:FldW (owMachine a2 a3 a4 a5 a6 a7) a6 (λ x:Machine=>x.log) (λ y x=>{ x with log:=y }) 6:=⟨λ h=>((FldW.snd (FldW.snd (FldW.snd (FldW.snd (FldW.snd (FldW.snd FldW.fst))))))).foc h⟩
theorem owMachine.f7:FldW (owMachine a2 a3 a4 a5 a6 a7) a7 (λ x:Machine=>x.part) (λ y x=>{ x with part:=y }) 7:=⟨λ h=>((FldW.snd (FldW.snd (FldW.snd (FldW.snd (FldW.snd (FldW.snd (FldW.snd FldW.fst)))))))).foc h⟩
theorem owMachine.f8:FldW (owMachine a2 a3 a4 a5 a6 a7) (Ow.frz (α:=Int)) (λ x:Machine=>x.left) (λ y x=>{ x with left:=y }) 8:=⟨λ h=>((FldW.snd (FldW.snd (FldW.snd (FldW.snd (FldW.snd (FldW.snd (FldW.snd (FldW.snd FldW.id))))))))).foc h⟩
theorem owMachine.imp4{b4:Ow (List (Bx GMod))}{x:Machine}(h:Imp a4 b4 x.modules):Imp (owMachine a2 a3 a4 a5 a6 a7) (owMachine a2 a3 b4 a5 a6 a7) x:=imp_via (imp_snd (imp_snd (imp_snd (imp_snd (imp_fst h)))))
theorem owMachine.impE4{x:Machine}(h:ImpE a4 b4 x.modules):ImpE (owMachine a2 a3 a4 a5 a6 a7) (λ n=>(owMachine a2 a3 (b4 n) a5 a6 a7)) x:=impE_via (zdl (zdl (zdl (zdl (impE_fst h)))))
theorem owMachine.mk{M:Nat->Prop}{w:World}{x:Machine}{g2:Nat->Prop}{a2:Ow (FKt)}{g3:Nat->Prop}{a3:Ow (FLt)}{g4:Nat->Prop}{a4:Ow (List (Bx GMod))}{g5:Nat->Prop}{a5:Ow (List Int)}{g6:Nat->Prop}{a6:Ow (List GEvent)}{g7:Nat->Prop}{a7:Ow (List Str)}{c0:List Value}{c1:List Value}{c2:List Value}{c3:List Value}{c4:List Value}{c5:List Value}{c6:List Value}{c7:List Value}{c8:List Value}(h0:Rep.rdc M w c0 x.t)(h1:Rep.rdc M w c1 x.path)(h2:a2.ro M g2 w c2 x.known)(h3:a3.ro M g3 w c3 x.load)(h4:a4.ro M g4 w c4 x.modules)(h5:a5.ro M g5 w c5 x.out)(h6:a6.ro M g6 w c6 x.log)(h7:a7.ro M g7 w c7 x.part)(h8:Rep.rdc M w c8 x.left)(d2:∀ b,g2 b->¬ (λ b=>g3 b\/(λ b=>g4 b\/(λ b=>g5 b\/(λ b=>g6 b\/g7 b) b) b) b) b)(d3:∀ b,g3 b->¬ (λ b=>g4 b\/(λ b=>g5 b\/(λ b=>g6 b\/g7 b) b) b) b)(d4:∀ b,g4 b->¬ (λ b=>g5 b\/(λ b=>g6 b\/g7 b) b) b)(d5:∀ b,g5 b->¬ (λ b=>g6 b\/g7 b) b)(d6:∀ b,g6 b->¬ g7 b):(owMachine a2 a3 a4 a5 a6 a7).ro M (λ b=>g2 b\/(λ b=>g3 b\/(λ b=>g4 b\/(λ b=>g5 b\/(λ b=>g6 b\/g7 b) b) b) b) b) w [c0,c1,c2,c3,c4,c5,c6,c7,c8].flatten x:=by
 simp;exact⟨noB,(λ b=>g2 b\/(λ b=>g3 b\/(λ b=>g4 b\/(λ b=>g5 b\/(λ b=>g6 b\/g7 b) b) b) b) b),c0,_,λ _ h=>h.elim,λ _ h=>h,λ _ h=>h.elim,Z,h0,⟨noB,(λ b=>g2 b\/(λ b=>g3 b\/(λ b=>g4 b\/(λ b=>g5 b\/(λ b=>g6 b\/g7 b) b) b) b) b),c1,_,λ _ h=>h.elim,λ _ h=>h,λ _ h=>h.elim,Z,h1,⟨g2,(λ b=>g3 b\/(λ b=>g4 b\/(λ b=>g5 b\/(λ b=>g6 b\/g7 b) b) b) b),c2,_,λ _ h=>.inl h,λ _ h=>.inr h,d2,Z,h2,⟨g3,(λ b=>g4 b\/(λ b=>g5 b\/(λ b=>g6 b\/g7 b) b) b),c3,_,λ _ h=>.inl h,λ _ h=>.inr h,d3,Z,h3,⟨g4,(λ b=>g5 b\/(λ b=>g6 b\/g7 b) b),c4,_,λ _ h=>.inl h,λ _ h=>.inr h,d4,Z,h4,⟨g5,(λ b=>g6 b\/g7 b),c5,_,λ _ h=>.inl h,λ _ h=>.inr h,d5,Z,h5,⟨g6,g7,c6,_,λ _ h=>.inl h,λ _ h=>.inr h,d6,Z,h6,⟨g7,noB,c7,_,λ _ h=>h,λ _ h=>h.elim,λ _ _ h=>h,Z,h7,h8⟩⟩⟩⟩⟩⟩⟩⟩
@[reducible] def owWarmth (a2:Ow (Finder)) (a3:Ow (List Compiled)):Ow Warmth:=Ow.via (λ(x:Warmth)=>((x.on,x.disk,x.finder,x.store,x.mode):Bool×Disk×Finder×List Compiled×Int)) (Ow.pr (Ow.frz (α:=Bool)) (Ow.pr (Ow.frz (α:=Disk)) (Ow.pr a2 (Ow.pr a3 (Ow.frz (α:=Int))))))
theorem owWarmth.f0{a2:Ow (Finder)}{a3:Ow (List Compiled)}:FldW (owWarmth a2 a3) (Ow.frz (α:=Bool)) (λ x:Warmth=>x.on) (λ y x=>{ x with on:=y }) 0:=⟨λ h=>(FldW.fst).foc h⟩
theorem owWarmth.f1{a2:Ow (Finder)}{a3:Ow (List Compiled)}:FldW (owWarmth a2 a3) (Ow.frz (α:=Disk)) (λ x:Warmth=>x.disk) (λ y x=>{ x with disk:=y }) 1:=⟨λ h=>((FldW.snd FldW.fst)).foc h⟩
theorem owWarmth.f2{a2:Ow (Finder)}{a3:Ow (List Compiled)}:FldW (owWarmth a2 a3) a2 (λ x:Warmth=>x.finder) (λ y x=>{ x with finder:=y }) 4:=⟨λ h=>((FldW.snd (FldW.snd FldW.fst))).foc h⟩
theorem owWarmth.f3{a2:Ow (Finder)}{a3:Ow (List Compiled)}:FldW (owWarmth a2 a3) a3 (λ x:Warmth=>x.store) (λ y x=>{ x with store:=y }) 7:=⟨λ h=>((FldW.snd (FldW.snd (FldW.snd FldW.fst)))).foc h⟩
theorem owWarmth.f4{a2:Ow (Finder)}{a3:Ow (List Compiled)}:FldW (owWarmth a2 a3) (Ow.frz (α:=Int)) (λ x:Warmth=>x.mode) (λ y x=>{ x with mode:=y }) 8:=⟨λ h=>((FldW.snd (FldW.snd (FldW.snd (FldW.snd FldW.id))))).foc h⟩
theorem owWarmth.mk{M:Nat->Prop}{w:World}{x:Warmth}{g2:Nat->Prop}{a2:Ow (Finder)}{g3:Nat->Prop}{a3:Ow (List Compiled)}{c0:List Value}{c1:List Value}{c2:List Value}{c3:List Value}{c4:List Value}(h0:Rep.rdc M w c0 x.on)(h1:Rep.rdc M w c1 x.disk)(h2:a2.ro M g2 w c2 x.finder)(h3:a3.ro M g3 w c3 x.store)(h4:Rep.rdc M w c4 x.mode)(d2:∀ b,g2 b->¬ g3 b):(owWarmth a2 a3).ro M (λ b=>g2 b\/g3 b) w [c0,c1,c2,c3,c4].flatten x:=by
 simp;exact⟨noB,(λ b=>g2 b\/g3 b),c0,_,λ _ h=>h.elim,λ _ h=>h,λ _ h=>h.elim,Z,h0,⟨noB,(λ b=>g2 b\/g3 b),c1,_,λ _ h=>h.elim,λ _ h=>h,λ _ h=>h.elim,Z,h1,⟨g2,g3,c2,_,λ _ h=>.inl h,λ _ h=>.inr h,d2,Z,h2,⟨g3,noB,c3,_,λ _ h=>h,λ _ h=>h.elim,λ _ _ h=>h,Z,h3,h4⟩⟩⟩⟩
instance:Inhabited Machine:=⟨⟨default,[],default,default,[],[],[],[],0⟩⟩
instance:Inhabited Warmth:=⟨⟨false,default,default,[],0⟩⟩
instance:Inhabited Runner:=⟨⟨default,[],[],[],[],0,0,default⟩⟩
open Go.RowKit Go.ChangeMaps Go.Maps Go.WideMaps
section
variable{look:Nat->Option Dt}{k:TypeId}
end
theorem cell_same{o:Nat}(h:w'.heap[b]?=w.heap[b]?):w'.cell? ⟨b,o,none⟩=w.cell? ⟨b,o,none⟩:=by simp[World.cell?,h]
section
variable{fn:Func}{look:Nat->Option Dt}{k es:TypeId}
end
section
variable{f:Nat}
variable{α:Type}[Rep α]
theorem Sx.tkAr{x y:Operand}{n r:Int}(h:Sx F N M0 M Gs L O a w)
   (hS:S w)  (hx:OpdR M (λ s=>(L++envO O).lookup s) x (dt m)) (hy:OpdR M (λ s=>(L++envO O).lookup s) y (dt n)) (hm:i64 (arI op m n)=some r) (hk:op=.add\/op=.sub\/op=.mul:=by decide)
  (next:∀ a',Sx F N M0 M Gs ((d,dt r)::L) O a' w->wpAnyH P .any ops Q S f (listed.setIfInBounds i true) a' w)(ho:ops[i]?=some o:=by rfl)(hh:opH o N=some d:=by rfl)(hs:Region.noSelect ops=true:=by decide +kernel)(hf:Region.free .any ops listed i=true:=by decide +kernel)(hr:(Region.ready .any ops listed).contains i=true:=by decide +kernel)(hQ:∀ c a w v,Q (.panic c) (a.put o.dst v) w->Q (.panic c) a w:=by exact λ _ _ _ _ h=>h)(hop:o.op=.binOp op t x y t':=by rfl):wpAnyH P .any ops Q S (f+1) listed a w:=by
 obtain⟨rfl,hb⟩:=i64_get hm;refine h.tkY ho hh hs hf hr (λ c a w=>hQ c a w _) hS (λ w' _=>?_) (yx.2 Z) Z next;have h1:=yx.1 (hx w a λ s y hy=>h.st.has s y hy);have h2:=yx.1 (hy w a λ s y hy=>h.st.has s y hy);have hw:=wrap_in _ hb;unfold execOp;rw[hop];rcases hk with rfl | rfl | rfl <;> (simp[arI] at hw ⊢;simp[h1,h2,eqGuard,binOp,Op.intArith,hw])
end
section
variable{α β γ:Type}[Rep α][Rep β][Rep γ]
variable{fn:Func}{look:Nat->Option Dt}
end
section
variable{fn:Func}
variable{α:Type}[Rep α]
end
section
variable{α β γ:Type}[Rep α][Rep β][Rep γ]
def Rd.t2o(o:Ow α)(x:α)(y:Dt):Rd where
 rd M G w v:=∃ u1 u2,v=.tuple #[u1,u2]/\(dow o G x).rd M w u1/\y.rd M w u2/\y.nb=true
 stable:=λ⟨u1,u2,hv,h3,h2⟩ e=>⟨u1,u2,hv,(dow o _ x).stable h3 e,⟨y.stable h2.1 (λ k hk hm=>e k hk (hm.imp id λ ho=>(y.nob h2.2 k ho).elim)),h2.2⟩⟩
 weak:=λ⟨u1,u2,hv,h3,h2⟩ e=>⟨u1,u2,hv,(dow o _ x).weak h3 e,⟨y.weak h2.1 e,h2.2⟩⟩
 more:=λ⟨u1,u2,hv,⟨cs,h3,h4⟩,h2⟩ e=>⟨u1,u2,hv,⟨cs,o.more h3 e,h4⟩,h2⟩
def dex2(y:Dt):Dt where
 rd M w v:=∃ u1 u2,v=.tuple #[u1,u2]/\y.rd M w u2/\y.nb=true
 own:=noB
 nb:=true
 nob _ _ h:=h
 stable:=λ⟨u1,u2,hv,h2⟩ e=>⟨u1,u2,hv,⟨y.stable h2.1 (λ k hk hm=>e k hk (hm.elim .inl λ ho=>(y.nob h2.2 k ho).elim)),h2.2⟩⟩
 weak:=λ⟨u1,u2,hv,h2⟩ e=>⟨u1,u2,hv,⟨y.weak h2.1 e,h2.2⟩⟩
variable{fn:Func}{look:Nat->Option Dt}
variable{oy:Ow β}
theorem Sx.ex2o{oo:Ow α}{x:α}(h:Sx F N M0 M Gs L O a w)(p:Nat)(qs:List Nat)
  (next:∀ a',Sx F N M0 M Gs ((s,dex2 y)::L) ((d,p,dow oo G x)::O2) a' w->wpList P ops Q rest a' w)(hh:opH o N=some d:=by rfl)(ho:o.op=.extract q 0:=by rfl)(hq:q=.tmp s:=by rfl)(hs:(L++envO O).lookup s=some (drd (Rd.t2o oo x y) G):=by rfl)(hG:∀ b,G b->zj Gs p b:=by exact λ _ h=>h)(hdn:List.lookup d ((s,dex2 y)::L)=none:=by rfl)(hsel:selR L O qs p=some O2:=by rfl):wpList P ops Q (o::rest) a w:=by
 obtain⟨hgd,hd,hN⟩:=zQ hh;obtain⟨u1,u2,hv,h1,h2⟩:=h.st.has s _ hs;refine av hgd λ K hK=>OpOut.wp (OpOut.of_value (v:=u1) (w':=w) ?_ ?_)
 ·have he:a.eval q=.tuple #[u1,u2]:=by rw[hq];exact hv
  unfold execOp;rw[ho];simp[he,Instr.extract]
 ·rw[hd];exact hK _ _ (next _ (((h.drop hsel).addL (y:=dex2 y) ⟨u1,u2,hv,h2⟩).putO hN hdn h1 hG))
theorem xEx2o(ho:o.op=.extract q 1)(hp:OpdR M look q (dex2 y)):OpRel P M look o y:=
 zC λ a w _ hl=>by
  obtain⟨u1,u2,hv,h2⟩:=hp w a hl;exact⟨u2,by unfold execOp;rw[ho];simp[hv,Instr.extract],h2.1⟩
theorem tip0_dow(h:(dtip none e ([]:List β)).rd M w v):(dow (Ow.row e' oy) (oneB none) []).rd M w v:=by
 rcases h with⟨cells,hown,hrow,hb⟩ | ⟨_,_,A,hv⟩
 ·rcases hown.2 with⟨h1,_⟩ | ⟨b,cap,cur,h1,h2,_⟩
  ·rw[h1];exact⟨[.slice none 0 0],⟨_,Z,.inr ⟨Z,none,Z⟩⟩,Z⟩
  ·rw[h1] at hb;simp[Value.ownBlock] at hb
 ·rw[hv];exact⟨[.slice A 0 0],⟨_,Z,.inr ⟨Z,A,Z⟩⟩,Z⟩
theorem Sx.tip0(h:Sx F N M0 M Gs L O a w)(p:Nat)(hs:(L++envO O).lookup s=some (dtip none e ([]:List β)))(hn:L.lookup s=none)(qs:List Nat)(hq:selR L O qs p=some O2):Sx F N M0 M Gs L ((s,p,dow (Ow.row e' oy) (oneB none) [])::O2) a w:=
 (h.drop hq).addO hn (tip0_dow (h.st.has s _ hs)) λ b (h:none=some b)=>nomatch h
end
attribute [local irreducible] OpRel OpdR
class FldO (P:Program) (t:TypeId) (f:Nat) (fo:outParam Nat):Prop where
 h:fldB P t f fo=true
instance:FldC Machine 4 (List (Bx GMod)) (λ x=>x.modules) 4:=⟨Machine.fld4⟩
section
variable{fn:Func}{l:List Oper}
theorem xFaC{look:Nat->Option Dt}{f:Nat}(ho:o.op=.fieldAddr t q f)(hp:OpdR M look q (dis (.pointer (some ⟨b,off,none⟩))))[c:FldO P t f fo]{z:Dt}(e:z=dis (.pointer (some ⟨b,off+fo,none⟩)):=by rfl):OpRel P M look o z:=e ▸ xFa ho c.h hp
theorem JI{look:Nat->Option Dt}{α β:Type}[Rep α][Rep β]{p:Operand}{f ob:Nat}{x:α}{get:α->β}(ho:o.op=.fieldAddr t p f)(hp:OpdR M look p (dbox g ob x))[c:FldC α f β get off]{z:Dt}(e:z=dbox g (ob+off) (get x):=by rfl)(ht:fldB P t f off=true:=by kernel_rfl):OpRel P M look o z:=e ▸ jQ c.h ho (ht:=ht) hp
theorem op_lit1{look:Nat->Option Dt}{α:Type}[Rep α]{y:α}(ho:o.op=.buildSlice t 1 #[(0,q)])(hq:OpdR M look q (dt y))(hs:Rep.size α<=16777216:=by decide)(ht':slB P t (Rep.size α)=true:=by kernel_rfl)(hz':zlB P t=true:=by kernel_rfl):OpRel P M look o (dt [y]):=xH ho (ht':=ht') (hz':=hz') Z Z (hsz:=(by simpa using hs)) (.cons hq .nil)
theorem opB{look:Nat->Option Dt}(h:OpRel P M look o x:=by
  first
   | exact oM Z (zt Z)
   | exact xNc Z (tp Z)
   | exact xFaC Z (tp Z)
   | exact xNcP Z (tp Z)
   | exact xLc (sb:=0) (.head _) Z Z Z (tp Z) Z
   | exact xLc (sb:=0) (.tail _ (.head _)) Z Z Z (tp Z) Z
   | exact xLc (sb:=0) (.tail _ (.tail _ (.head _))) Z Z Z (tp Z) Z
   | exact JI Z (tp Z)
   | exact y8 Z (tp Z)
   | exact op_lit1 Z (tp Z)):OpRel P M look o x:=h
theorem opGB{look:Nat->Option Dt}(h:OpRel P M look o x:=by
  first
   | exact opGA
   | exact y8 Z opdB
   | exact JI Z opdB
   | exact xNc Z opdB
   | exact xNcP Z opdB
   | exact xFaC Z opdB
   | exact oM Z (zt Z)):OpRel P M look o x:=h
theorem segC(h:Seg P M ops N L l L':=by repeat (first | exact .nil | apply sc rfl opB | apply sc rfl opA | apply sg rfl rfl (λ _=>opGB))):Seg P M ops N L l L':=h
theorem sP(n:Nat)(h:Seg P M ops N L (l.take n) L1:=by exact segC)(r:Seg P M ops N L1 (l.drop n) L'):Seg P M ops N L l L':=sp n h r
theorem Sx.sq3(h:Sx F N M0 M Gs L O a w){id:Nat}{c2:Code}(ks:List Nat)(hQ:∀ a' w',Sx F N M0 M Gs L2 [] a' w'->c2.wp P Q a' w')
  (hs:Seg P M ops N (L++envO O) ops.toList L':=by exact segC) (hk:selP ks L'=some L2:=by rfl):(Code.seq (Code.region id ops false) c2).wp P Q a w:=
 h.sq0 hs ks hk hQ
theorem Sx.segC(h:Sx F N M0 M Gs L O a w)(n:Nat)(ks:List Nat)(qp:List (Nat×Nat))(hQ:∀{a' w'},Sx F N M0 M Gs L2 O2 a' w'->wpList P ops Q (l.drop n) a' w')
  (hs:Seg P M ops N (L++envO O) (l.take n) L':=by exact segC) (hk:selP ks L'=some L2:=by rfl) (hq:selQ qp L'=some O2:=by rfl) (hw:AllOw Gs O2:=by exact owA):wpList P ops Q l a w:=
 h.seg n hs ks hk qp hq hw (λ _ _ h_=>hQ h_)
end
class SetL (Gs:List (Nat->Prop)) (p:Nat) (f:outParam ((Nat->Prop)->List (Nat->Prop))):Prop where
 h:∀ G,Gs.set p G=f G
instance {g:Nat->Prop} {l:List (Nat->Prop)}:SetL (g::l) 0 (λ G=>G::l):=⟨λ _=>Z⟩
instance {g:Nat->Prop} {l:List (Nat->Prop)} {k:Nat} {f:(Nat->Prop)->List (Nat->Prop)} [s:SetL l k f]:SetL (g::l) (k+1) (λ G=>g::f G):=⟨λ G=>by rw[List.set_cons_succ,s.h]⟩
instance {g:Nat->Prop} {n k:Nat} {f:(Nat->Prop)->List (Nat->Prop)} [s:SetL (g::List.replicate n g) k f]:SetL (List.replicate (n+1) g) k f:=⟨s.h⟩
instance {g:Nat->Prop} {l:List (Nat->Prop)} {q k:Nat} {f f0:(Nat->Prop)->List (Nat->Prop)} [s0:SetL l q f0] [s:SetL (f0 g) k f]:SetL (l.set q g) k f:=⟨λ G=>by rw[s0.h,s.h]⟩
class NormG (Gs:List (Nat->Prop)) (Gs':outParam (List (Nat->Prop))):Prop where
 h:Gs=Gs'
instance:NormG [] []:=⟨Z⟩
instance {g:Nat->Prop} {l l':List (Nat->Prop)} [n:NormG l l']:NormG (g::l) (g::l'):=⟨by rw[n.h]⟩
instance {g:Nat->Prop}:NormG (List.replicate 0 g) []:=⟨Z⟩
instance {g:Nat->Prop} {k:Nat} {l:List (Nat->Prop)} [n:NormG (List.replicate k g) l]:NormG (List.replicate (k+1) g) (g::l):=⟨by rw[db,n.h]⟩
instance {g:Nat->Prop} {l l':List (Nat->Prop)} {p:Nat} {f:(Nat->Prop)->List (Nat->Prop)} [n:NormG l l'] [s:SetL l' p f]:NormG (l.set p g) (f g):=⟨by rw[n.h,s.h]⟩
section
variable{fn:Func}{l:List Oper}
variable{α β:Type}[Rep α][Rep β]
theorem Sx.gn[n:NormG Gs Gs'](h:Sx F N M0 M Gs L O a w):Sx F N M0 M Gs' L O a w:=by rw[← n.h];exact h
theorem opC{look:Nat->Option Dt}(h:OpRel P M look o x:=by first | exact opB | exact opA):OpRel P M look o x:=h
section
variable{S:List (List (Nat×Option Nat))}{xs:List (Nat×Dt)}
theorem regA(h:RegR P M ops N S L D i l xs:=by repeat (first | exact .nil | apply rc rfl rfl opC | apply rg rfl rfl rfl (λ _=>opGB))):RegR P M ops N S L D i l xs:=h
theorem Sx.drA(h:Sx F N M0 M Gs L O a w){id:Nat}(hm:P.follows .mixedOrders=true)(S:List (List (Nat×Option Nat)))(ks:List Nat)(qp:List (Nat×Nat))(hQ:∀{a' w'},Sx F N M0 M Gs L2 O2 a' w'->Q .normal a' w')
  (hs:RegR P M ops N S (L++envO O) D 0 ops.toList xs:=by exact regA) (hc:jf ops ops.size (cloT ops) S=true:=by decide +kernel) (hk:selP ks (xs++(L++envO O))=some L2:=by rfl) (hq:selQ qp (xs++(L++envO O))=some O2:=by rfl) (hw:AllOw Gs O2:=by exact owA):(Code.region id ops true).wp P Q a w:=
 h.dr hm S hc hs ks hk qp hq hw (λ _ _ h_=>hQ h_)
theorem Sx.drnA(h:Sx F N M0 M Gs L O a w){id:Nat}(hm:P.follows .mixedOrders=true)(k:Nat)(S:List (List (Nat×Option Nat)))(ks:List Nat)(qp:List (Nat×Nat))(hQ:∀ a' w',Sx F N M0 M Gs L2 O2 a' w'->wpList P ops Q (ops.toList.drop k) a' w')
  (hs:RegR P M ops N S (L++envO O) D 0 (ops.toList.take k) xs:=by exact regA) (hc:jf ops k (cloT ops) S=true:=by decide +kernel) (hkn:k<=ops.size:=by decide) (hk:selP ks (xs++(L++envO O))=some L2:=by rfl) (hq:selQ qp (xs++(L++envO O))=some O2:=by rfl) (hw:AllOw Gs O2:=by exact owA):(Code.region id ops true).wp P Q a w:=
 h.drn hm k S hc hkn hs ks hk qp hq hw hQ
end
theorem Sx.cNA{oy:Ow β}{A:Array Operand}{l:List Operand}{y y':β}{f2:(Nat->Prop)->List (Nat->Prop)}(h:Sx F N M0 M Gs L O a w)(p sb:Nat)(hfn:FnS P f oy y xr y' (.frz yd))(ks qs:List Nat)
  (next:∀{G'' M' a' w'},Sx F N M0 M' (f2 G'') ((d,yd)::L2) ((sb,p,dnm oy G'' y' v0 [])::O2) a' w'->wpList P ops Q rest a' w')
  (hs:(L++envO O).lookup sb=some (dnm oy G y v0 cf):=by rfl) (hG:∀ b,G b->zj Gs p b:=by exact λ _ h=>h) (hh:opH o N=some d:=by rfl)
  (ho:o.op=.call { callee:=.value (.func f),args:=A,argTypes:=ts }:=by rfl) (hA:A.toList=.tmp k::l:=by rfl) (hf:fnB P f=true:=by kernel_rfl) (hk0:(L++envO O).lookup k=some (dis v0):=by rfl) (hp:p<Gs.length:=by simp)
  (hx:ArgsR M (λ s=>(L++envO O).lookup s) l xr:=by exact argsA) (hk:selP ks L=some L2:=by rfl) (hq:selR L O qs p=some O2:=by rfl) (hsn:L2.lookup sb=none:=by rfl) (hne:sb≠d:=by decide) [sl:SetL Gs p f2]:wpList P ops Q (o::rest) a w:=by
 have e:A=(.tmp k::l).toArray:=by rw[← hA]
 subst e;exact h.cSF p (h.bkN (hs:=hs) (hG:=hG)) hh ho hf (dU (h.st.has k _ hk0) (h.st.has sb _ hs).1.symm) hp hx hfn ks hk qs hq hsn hne @λ G'' M' a' w' st=>next (by rw[← sl.h];exact st)
theorem Sx.pkZ{o:Nat}{cs:List Value}{x:α}(h:Sx F N M0 M Gs L O a w)(s:Nat)(hs:(L++envO O).lookup s=some (dpk b o cs x):=by rfl):CellsAt w b o cs:=h.pkS (hs:=hs)
section
variable{f:Nat}
theorem aK0(h:Q .normal a w)(hr:Region.ready .any ops listed=[]:=by decide +kernel):wpAnyH P .any ops Q S f listed a w:=aH0 hr h
theorem aK1(i:Nat)(h:wpList P ops (QH P ops Q S f (listed.setIfInBounds i true)) [o] a w)(hr:Region.ready .any ops listed=[i]:=by decide +kernel)(ho:ops[i]?=some o:=by rfl):wpAnyH P .any ops Q S (f+1) listed a w:=aH1 hr ho h
theorem aK2(i j:Nat)(h:wpList P ops (QH P ops Q S f (listed.setIfInBounds i true)) [o] a w)(h2:wpList P ops (QH P ops Q S f (listed.setIfInBounds j true)) [o2] a w)(hr:Region.ready .any ops listed=[i,j]:=by decide +kernel)(ho:ops[i]?=some o:=by rfl)(ho2:ops[j]?=some o2:=by rfl):wpAnyH P .any ops Q S (f+1) listed a w:=aH2 hr ho ho2 h h2
end
end
section
variable{fn:Func}{T:Prop}
theorem Sx.stA{α β:Type}[Rep α][Rep β]{t q:Nat}{x:α}{y0 y:β}{set:α->β->α}(h:Sx F N M0 M Gs L O a w)(sb p:Nat)(fs:FldS set off)(hvl:OpdR M (λ s=>(L++envO O).lookup s) vo (dt y))(ks qs:List Nat)
  (next:∀{M' w'},Sx F N M0 M' Gs L2 ((sb,p,dbox g 0 (set x y))::O2) a w'->wpList P ops Q rest a w') (ho:o.op=.store t (.tmp q) vo:=by rfl) (hgd:o.guard=none:=by rfl) (hd:o.dst=none:=by rfl)
  (hpl:(L++envO O).lookup q=some (dbox g off y0):=by rfl) (hsl:(L++envO O).lookup sb=some (dbox g 0 x):=by rfl) (ht:tyB P t (Rep.agg β) (Rep.size β)=true:=by kernel_rfl) (hg:Gs[p]?=some (oneB g):=by rfl)
  (hk:selP ks L=some L2:=by rfl) (hq:selR L O qs p=some O2:=by rfl) (hdn:L2.lookup sb=none:=by rfl):wpList P ops Q (o::rest) a w:=
 h.store p fs ho hgd hd ht hg hpl hvl hsl ks hk qs hq hdn (λ _ _ h_=>next h_)
theorem Sx.alA{α:Type}[Rep α]{t:Nat}{zs:List Value}{d0:α}(h:Sx F N M0 M Gs L O a w)(p:Nat)(hz:∀ (M:Nat->Prop) (w:World),Rep.rdc M w zs d0)(ks qs:List Nat)
  (next:∀{M' a' w'} b,Sx F N M0 M' (Gs.set p (oneB (some b))) L2 ((d,p,dbox (some b) 0 d0)::O2) a' w'->wpList P ops Q rest a' w') (hh:opH o N=some d:=by rfl) (ho:o.op=.alloc t:=by rfl) (hzc:zeroCells P t=some zs:=by kernel_rfl) (hp:p<Gs.length:=by simp)
  (hk:selP ks L=some L2:=by rfl) (hq:selR L O qs p=some O2:=by rfl) (hdn:L2.lookup d=none:=by rfl):wpList P ops Q (o::rest) a w:=
 h.alloc p hh ho hzc hz hp ks hk qs hq hdn (λ b _ _ _ h_=>next b h_)
theorem Sx.apA{α:Type}[Rep α]{x:Nat}{xs ys r:List α}{z:Dt}(h:Sx F N M0 M Gs L O a w)(p:Nat)(hz:IsRow z ys)(hm:appO bytes xs ys=some r)(ks qs:List Nat)
  (next:∀{M' a' w'} g',Sx F N M0 M' (Gs.set p (oneB g')) L2 ((d,p,dtip g' e r)::O2) a' w'->wpList P ops Q rest a' w') (hh:opH o N=some d:=by rfl)
  (ho:o.op=.call { callee:=.builtin .append,args:=#[.tmp s,.tmp x],argTypes:=#[t,t] }:=by rfl) (hs:(L++envO O).lookup s=some (dtip g e xs):=by rfl) (hel:elB P t e (Rep.size α) bytes=true:=by kernel_rfl)
  (hg:Gs[p]?=some (oneB g):=by rfl) (hx:(L++envO O).lookup x=some z:=by rfl)
  (hk:selP ks L=some L2:=by rfl) (hq:selR L O qs p=some O2:=by rfl) (hdn:L2.lookup d=none:=by rfl):wpList P ops Q (o::rest) a w:=
 h.app p hh ho hel hs hg hx hz hm ks hk qs hq hdn (λ g' _ _ _ h_=>next g' h_)
variable{α β γ:Type}[Rep α][Rep β][Rep γ]
variable{oy:Ow β}{y':β}
theorem Sx.hdA{ow:Ow α}{x:α}{ys:List β}{upd:List β->α}(h:Sx F N M0 M Gs L O a w)(s p:Nat)(hP:PH ow x v0 cf (Ow.row e oy) b off ys upd)(qs:List Nat)
  (next:∀ (g:Nat) (A:Option Addr) (cap:Nat),(ys.length≠0->true=true->A=some ⟨g,0,none⟩)->Sx F N M0 M Gs L ((s,p,dnm ow G x v0 ((true,b,off,.slice A ys.length cap)::cf))::O2) a w->T)
  (hs:(L++envO O).lookup s=some (dnm ow G x v0 cf):=by rfl) (hn:L.lookup s=none:=by rfl) (hG:∀ b,G b->zj Gs p b:=by exact λ _ h=>h) (hq:selR L O qs p=some O2:=by rfl):T:=
 h.hdR p true (λ _=>hP) (hs:=hs) (hn:=hn) (hG:=hG) qs (hq:=hq) next
theorem Sx.sfA{ow:Ow α}{t q:Nat}{x:α}{y:β}{upd:β->α}(h:Sx F N M0 M Gs L O a w)(sb p:Nat)(hP:PH ow x v0 cf Ow.frz b off y upd)
  (hpl:OpdR M (λ s=>(L++envO O).lookup s) (.tmp q) (dis (.pointer (some ⟨b,off,none⟩)))) (hvl:OpdR M (λ s=>(L++envO O).lookup s) vo (dt y')) (ks qs:List Nat)
  (next:∀{w'},Sx F N M0 M Gs L2 ((sb,p,dnm ow G (upd y') v0 [])::O2) a w'->wpList P ops Q rest a w') (hs:(L++envO O).lookup sb=some (dnm ow G x v0 cf):=by rfl) (ho:o.op=.store t (.tmp q) vo:=by rfl) (hgd:o.guard=none:=by rfl) (hd:o.dst=none:=by rfl)
  (ht:tyB P t (Rep.agg β) (Rep.size β)=true:=by kernel_rfl) (hp:p<Gs.length:=by simp) (hn:L.lookup sb=none:=by rfl) (hG:∀ b,G b->zj Gs p b:=by exact λ _ h=>h)
  (hk:selP ks L=some L2:=by rfl) (hq:selR L O qs p=some O2:=by rfl) (hdn:L2.lookup sb=none:=by rfl):wpList P ops Q (o::rest) a w:=
 h.stF p hP (ho:=ho) (hgd:=hgd) (hd:=hd) (ht:=ht) (hp:=hp) hpl hvl (hs:=hs) (hn:=hn) (hG:=hG) ks (hk:=hk) qs (hq:=hq) (hdn:=hdn) (λ _ h_=>next h_)
theorem Sx.shA{ow:Ow α}{t q:Nat}{upd:β->α}(h:Sx F N M0 M Gs L O a w)(sb tv p p2:Nat)(hpl:OpdR M (λ s=>(L++envO O).lookup s) (.tmp q) (dis (.pointer (some ⟨b,off,none⟩))))(ks qs:List Nat)
  (next:∀{G' w'},Sx F N M0 M ((Gs.set p G').set p2 (oneB none)) L2 ((sb,p,dnm ow G' (upd y') v0 [])::O2) a w'->wpList P ops Q rest a w')
  (ho:o.op=.store t (.tmp q) (.tmp tv):=by rfl) (hgd:o.guard=none:=by rfl) (hd:o.dst=none:=by rfl) (hvl:(L++envO O).lookup tv=some (dow oy G3 y'):=by rfl) (hs:(L++envO O).lookup sb=some (dhl ow oy G v0 b off upd):=by rfl)
  (ht:tyB P t (Rep.agg β) (Rep.size β)=true:=by kernel_rfl) (hp:p<Gs.length:=by simp) (hp2:p2<Gs.length:=by simp) (hne:p≠p2:=by decide) (hG:∀ b,G b->zj Gs p b:=by exact λ _ h=>h) (hG3:∀ b,G3 b->zj Gs p2 b:=by exact λ _ h=>h)
  (hk:selP ks L=some L2:=by rfl) (hq:selR L O qs p=some O2:=by rfl) (hq2:O2.all (λ q=>q.2.1 != p2)=true:=by rfl) (hdn:L2.lookup sb=none:=by rfl):wpList P ops Q (o::rest) a w:=
 h.stH p p2 ho hgd hd ht hp hp2 hne hpl hvl hs hG hG3 ks hk qs hq hq2 hdn (λ _ _ h_=>next h_)
theorem Sx.asA{o1 o2:Ow γ}{x:γ}(h:Sx F N M0 M Gs L O a w)(s p:Nat)(hw:Imp o1 o2 x)(qs:List Nat)(hs:(L++envO O).lookup s=some (dnm o1 G x v0 cf):=by rfl)(hn:L.lookup s=none:=by rfl)(hG:∀ b,G b->zj Gs p b:=by exact λ _ h=>h)(hq:selR L O qs p=some O2:=by rfl):
  Sx F N M0 M Gs L ((s,p,dnm o2 G x v0 cf)::O2) a w:=h.asO p hs hn hG hw qs hq
end
section
variable{f:Nat}
variable{α β:Type}[Rep α][Rep β]
theorem Sx.tM(h:Sx F N M0 M Gs L O a w)(i sb:Nat)(hS:S w)(next:∀ a',Sx F N M0 M Gs ((d,y)::L) O a' w->wpAnyH P .any ops Q S f (listed.setIfInBounds i true) a' w)
  (ho:ops[i]?=some o:=by rfl) (hh:opH o N=some d:=by rfl) (hs:Region.noSelect ops=true:=by decide +kernel) (hf:Region.free .any ops listed i=true:=by decide +kernel) (hr:(Region.ready .any ops listed).contains i=true:=by decide +kernel)
  (hQ:∀ c a w v,Q (.panic c) (a.put o.dst v) w->Q (.panic c) a w:=by exact λ _ _ _ _ h=>h) (hl:(L++envO O).lookup sb=some y:=by rfl) (hn:y.nb=true:=by rfl) (hop:o.op=.move q:=by rfl) (hq:q=.tmp sb:=by rfl):wpAnyH P .any ops Q S (f+1) listed a w:=
 h.tkM ho hh (hs:=hs) (hf:=hf) (hr:=hr) (hQ:=hQ) hS hl hn hop hq next
theorem Sx.tN{ow:Ow α}{x:α}(h:Sx F N M0 M Gs L O a w)(i sb:Nat)(hS:S w)(next:∀ a',Sx F N M0 M Gs ((d,dis v0)::L) O a' w->wpAnyH P .any ops Q S f (listed.setIfInBounds i true) a' w)
  (ho:ops[i]?=some o:=by rfl) (hh:opH o N=some d:=by rfl) (hs:Region.noSelect ops=true:=by decide +kernel) (hf:Region.free .any ops listed i=true:=by decide +kernel) (hr:(Region.ready .any ops listed).contains i=true:=by decide +kernel)
  (hQ:∀ c a w v,Q (.panic c) (a.put o.dst v) w->Q (.panic c) a w:=by exact λ _ _ _ _ h=>h) (hl:(L++envO O).lookup sb=some (dnm ow G x v0 cf):=by rfl) (hop:o.op=.move q:=by rfl) (hq:q=.tmp sb:=by rfl):wpAnyH P .any ops Q S (f+1) listed a w:=
 h.tkN ho hh (hs:=hs) (hf:=hf) (hr:=hr) (hQ:=hQ) hS hl hop hq next
theorem Sx.tA{n:Nat}{cs:List Value}{x:α}(h:Sx F N M0 M Gs L O a w)(i sb:Nat)(next:∀ a',Sx F N M0 M Gs ((d,dis (.pointer (some ⟨b,off+fo,none⟩)))::L) O a' w->wpAnyH P .any ops Q (λ w=>CellsAt w b off cs) f (listed.setIfInBounds i true) a' w)
  (ho:ops[i]?=some o:=by rfl) (hh:opH o N=some d:=by rfl) (hs:Region.noSelect ops=true:=by decide +kernel) (hf:Region.free .any ops listed i=true:=by decide +kernel) (hr:(Region.ready .any ops listed).contains i=true:=by decide +kernel)
  (hQ:∀ c a w v,Q (.panic c) (a.put o.dst v) w->Q (.panic c) a w:=by exact λ _ _ _ _ h=>h) (hl:(L++envO O).lookup sb=some (dpk b off cs x):=by rfl) (hop:o.op=.fieldAddr t q n:=by rfl) (ht:fldB P t n fo=true:=by exact FldO.h) (hq:q=.tmp sb:=by rfl):wpAnyH P .any ops Q (λ w=>CellsAt w b off cs) (f+1) listed a w:=
 h.tkA ho hh hs hf hr hQ hl hop ht hq next
theorem Sx.tF{cs:List Value}{x:α}{get:α->β}(h:Sx F N M0 M Gs L O a w)(i sb s2:Nat)(fl:Fld get fo)(next:∀ a',Sx F N M0 M Gs ((d,dt (get x))::L) O a' w->wpAnyH P .any ops Q (λ w=>CellsAt w b off cs) f (listed.setIfInBounds i true) a' w)
  (ho:ops[i]?=some o:=by rfl) (hh:opH o N=some d:=by rfl) (hs:Region.noSelect ops=true:=by decide +kernel) (hf:Region.free .any ops listed i=true:=by decide +kernel) (hr:(Region.ready .any ops listed).contains i=true:=by decide +kernel)
  (hQ:∀ c a w v,Q (.panic c) (a.put o.dst v) w->Q (.panic c) a w:=by exact λ _ _ _ _ h=>h) (hl:(L++envO O).lookup sb=some (dpk b off cs x):=by rfl) (hl2:(L++envO O).lookup s2=some (dis (.pointer (some ⟨b,off+fo,none⟩))):=by rfl) (hop:o.op=.load t q:=by rfl) (ht:tyB P t (Rep.agg β) (Rep.size β)=true:=by kernel_rfl) (hq:q=.tmp s2:=by rfl):wpAnyH P .any ops Q (λ w=>CellsAt w b off cs) (f+1) listed a w:=
 h.tkF fl ho hh hs hf hr hQ hl hl2 hop ht hq next
end
section
variable{fn:Func}{l:List Oper}{id:Nat}
variable{α β:Type}{B:Option β}
theorem opZ{look:Nat->Option Dt}(h:OpRel P M look o x:=by
  first
   | exact oM Z (zt Z)
   | exact oM Z (tp Z)
   | exact oA Z (tp Z)
   | exact oA Z cI
   | exact XR Z (tp Z)
   | exact oCA Z (tp Z) (tp Z)
   | exact oCA Z (tp Z) cI
   | exact zH Z (tp Z)
   | exact oA Z cB
   | exact oM Z cI
   | exact oM Z cB
   | exact zbK Z (tp Z)
   | exact oLA Z (tp Z)
   | exact xArC Z (tp Z) cI (by with_reducible assumption)
   | exact xArC Z (tp Z) (tp Z) (by with_reducible assumption)
   | exact xArC Z cI (tp Z) (by with_reducible assumption)
   | exact xIdx Z (tp Z) (tp Z) (by with_reducible assumption)
   | exact oCA Z (tp Z) (yS)
   | exact oA Z (yS)
   | exact oM Z (yS)
   | exact xExt Z (tp Z) Z
   | exact xByte Z (tp Z) (tp Z) (by with_reducible assumption)
   | exact xCat Z (tp Z) (tp Z) (by with_reducible assumption)
   | exact xCutL Z (tp Z) (tp Z) (by with_reducible assumption)
   | exact xCutH Z (tp Z) (tp Z) (by with_reducible assumption)
   | exact JZ Z (tp Z)
   | exact xc Z (tp Z) (tp Z)
   | exact qm Z (tp Z) (tp Z)
   | exact xNc Z (tp Z)
   | exact xFaC Z (tp Z)
   | exact xNcP Z (tp Z)
   | exact xLc (sb:=0) (.head _) Z Z Z (tp Z) Z
   | exact xLc (sb:=0) (.tail _ (.head _)) Z Z Z (tp Z) Z
   | exact xLc (sb:=0) (.tail _ (.tail _ (.head _))) Z Z Z (tp Z) Z
   | exact JI Z (tp Z)
   | exact y8 Z (tp Z)
   | exact op_lit1 Z (tp Z)
   | exact xMin Z (tp Z) (tp Z)
   | (apply zdb Z argsA;first | exact Ct1.h (by with_reducible assumption) | exact Ct2.h (by with_reducible assumption) | exact Ct3.h (by with_reducible assumption) | exact Ct4.h (by with_reducible assumption) | exact Ct0.h (by with_reducible assumption) | with_reducible assumption)
   | exact op_eqT Z (tp Z) opdB
   | exact op_neT Z (tp Z) opdB
   | exact xSliH Z opdB opdB (by with_reducible assumption)
   | exact xArC Z opdB opdB (by with_reducible assumption)
   | exact oCA Z opdB opdB
   | exact xCat Z opdB opdB (by with_reducible assumption)
   | exact xIdx Z opdB opdB (by with_reducible assumption)
   | exact xByte Z opdB opdB (by with_reducible assumption)
   | exact xCutL Z opdB opdB (by with_reducible assumption)
   | exact xCutH Z opdB opdB (by with_reducible assumption)
   | exact xCutLH Z (by kernel_rfl) opdB opdB opdB (by with_reducible assumption)):OpRel P M look o x:=h
theorem opGZ{look:Nat->Option Dt}(h:OpRel P M look o x:=by
  first
   | exact oM Z opdB
   | exact zH Z opdB
   | exact zbK Z opdB
   | exact XR Z opdB
   | exact oCA Z opdB opdB
   | exact oLA Z opdB
   | exact oA Z opdB
   | exact op_eqT Z opdB opdB
   | exact op_neT Z opdB opdB
   | exact xArC Z opdB opdB (gh (by with_reducible assumption) (by with_reducible assumption))
   | exact xIdx Z opdB opdB (gh (by with_reducible assumption) (by with_reducible assumption))
   | exact xByte Z opdB opdB (gh (by with_reducible assumption) (by with_reducible assumption))
   | exact xCat Z opdB opdB (gh (by with_reducible assumption) (by with_reducible assumption))
   | exact xCutH Z opdB opdB (gh (by with_reducible assumption) (by with_reducible assumption))
   | exact xCutL Z opdB opdB (gh (by with_reducible assumption) (by with_reducible assumption))
   | exact xSliH Z opdB opdB (gh (by with_reducible assumption) (by with_reducible assumption))
   | exact y8 Z opdB
   | exact JI Z opdB
   | exact xNc Z opdB
   | exact xNcP Z opdB
   | exact xFaC Z opdB
   | exact oM Z (zt Z)
   | (apply zdb Z argsB;first | exact Ct1.h (gh (by with_reducible assumption) (by with_reducible assumption)) | exact Ct2.h (gh (by with_reducible assumption) (by with_reducible assumption)) | exact Ct3.h (gh (by with_reducible assumption) (by with_reducible assumption)))):OpRel P M look o x:=h
theorem segZ(h:Seg P M ops N L l L':=by repeat (first | exact .nil | apply sc rfl opZ | apply sg rfl rfl (λ _=>opGZ))):Seg P M ops N L l L':=h
theorem sZ(n:Nat)(h:Seg P M ops N L (l.take n) L1:=by exact segZ)(r:Seg P M ops N L1 (l.drop n) L'):Seg P M ops N L l L':=sp n h r
theorem Sx.z1(h:Sx F N M0 M Gs L O a w)(next:∀{a' w'},Sx F N M0 M Gs L2 [] a' w'->Q .normal a' w')(hs:Seg P M ops N (L++envO O) ops.toList L':=by exact segZ)(hk:kp L' []=some L2:=by rfl):(Code.region id ops false).wp P Q a w:=
 h.go (qp:=[]) hs hk Z trivial (λ _ _ h_=>next h_)
theorem Sx.zo(h:Sx F N M0 M Gs L O a w)(qp:List (Nat×Nat))(next:∀{a' w'},Sx F N M0 M Gs L2 O2 a' w'->Q .normal a' w')(hs:Seg P M ops N (L++envO O) ops.toList L':=by exact segZ)(hk:kp L' []=some L2:=by rfl)(hq:selQ qp L'=some O2:=by rfl)(hw:AllOw Gs O2:=by exact owA):(Code.region id ops false).wp P Q a w:=
 h.go hs hk hq hw (λ _ _ h_=>next h_)
theorem Sx.zg(h:Sx F N M0 M Gs L O a w)(n:Nat)(next:∀{a' w'},Sx F N M0 M Gs L2 [] a' w'->wpList P ops Q (l.drop n) a' w')(hs:Seg P M ops N (L++envO O) (l.take n) L':=by exact segZ)(hk:kp L' []=some L2:=by rfl):wpList P ops Q l a w:=
 h.go2 (qp:=[]) n hs hk Z trivial (λ _ _ h_=>next h_)
theorem Sx.zh(h:Sx F N M0 M Gs L O a w)(n:Nat)(qp:List (Nat×Nat))(next:∀{a' w'},Sx F N M0 M Gs L2 O2 a' w'->wpList P ops Q (l.drop n) a' w')(hs:Seg P M ops N (L++envO O) (l.take n) L':=by exact segZ)(hk:kp L' []=some L2:=by rfl)(hq:selQ qp L'=some O2:=by rfl)(hw:AllOw Gs O2:=by exact owA):wpList P ops Q l a w:=
 h.go2 n hs hk hq hw (λ _ _ h_=>next h_)
theorem segV(h:SegW P M ops N L l L':=by repeat (first | exact .nil | apply sw rfl opZ | apply swg rfl rfl (λ _=>opGZ))):SegW P M ops N L l L':=h
theorem Sx.zw(h:Sx F N M0 M Gs L O a w)(next:∀{a' w'},Sx F N M0 M Gs L2 [] a' w'->Q .normal a' w')(hs:SegW P M ops N (L++envO O) ops.toList L':=by exact segV)(hk:kp L' []=some L2:=by rfl)(hm:P.follows .mixedOrders=true:=by kernel_rfl)(hc:jf ops ops.size (cloT ops) (srcW ops)=true:=by decide +kernel):(Code.region id ops true).wp P Q a w:=
 h.gw (qp:=[]) hm ops.size (by rwa[show ops.size=ops.toList.length from by simp,aL]) hc (ak _) hk Z trivial λ a' w' h=>by
  rw[show ops.size=ops.toList.length from by simp,bR];exact Wz (next h)
theorem Sx.zv(h:Sx F N M0 M Gs L O a w)(qp:List (Nat×Nat))(next:∀{a' w'},Sx F N M0 M Gs L2 O2 a' w'->Q .normal a' w')(hs:SegW P M ops N (L++envO O) ops.toList L':=by exact segV)(hk:kp L' []=some L2:=by rfl)(hq:selQ qp L'=some O2:=by rfl)(hw:AllOw Gs O2:=by exact owA)(hm:P.follows .mixedOrders=true:=by kernel_rfl)(hc:jf ops ops.size (cloT ops) (srcW ops)=true:=by decide +kernel):(Code.region id ops true).wp P Q a w:=
 h.gw hm ops.size (by rwa[show ops.size=ops.toList.length from by simp,aL]) hc (ak _) hk hq hw λ a' w' h=>by
  rw[show ops.size=ops.toList.length from by simp,bR];exact Wz (next h)
theorem Sx.zu(h:Sx F N M0 M Gs L O a w)(k:Nat)(qp:List (Nat×Nat))(next:∀{a' w'},Sx F N M0 M Gs L2 O2 a' w'->wpList P ops Q (ops.toList.drop k) a' w')(hs:SegW P M ops N (L++envO O) (ops.toList.take k) L':=by exact segV)(hk:kp L' []=some L2:=by rfl)(hq:selQ qp L'=some O2:=by rfl)(hw:AllOw Gs O2:=by exact owA)(hm:P.follows .mixedOrders=true:=by kernel_rfl)(hc:jf ops k (cloT ops) (srcW ops)=true:=by decide +kernel)(hkn:k<=ops.size:=by decide):(Code.region id ops true).wp P Q a w:=
 h.gw hm k hs hc hkn hk hq hw (λ _ _ h_=>next h_)
theorem Sx.ze[Rep α]{t:Nat}{x r:α}(h:Sx (Frm.of w0) N M0 M Gs L O a w)(hm:some x=some r)(hq:∀ a' w',bodyPost P fn (RetP M0 w0 (dt r)) .ret a' w'->Q .normal a' w':=by exact λ _ _ h=>h)(hr:fn.results=#[.tmp t]:=by rfl)
  (hs:Seg P M ops N (L++envO O) ops.toList L':=by exact segZ) (hl:L'.lookup t=some (dt x):=by rfl):(Code.region id ops false).wp P Q a w:=by
 injection hm with hm;subst hm;exact h.gs_ hs λ a' w' st=>hq a' w' (zc3 hr st hl λ v hv=>(dt x).weak hv λ k _ hk=>h.ob.sub k hk)
theorem Sx.zl[Rep α]{t:Nat}{x r:List α}(h:Sx (Frm.of w0) N M0 M Gs L O a w)(p:Nat)(hm:some x=some r)(hq:∀ a' w',bodyPost P fn (RetO e M0 w0 r) .ret a' w'->Q .normal a' w':=by exact λ _ _ h=>h)(hr:fn.results=#[.tmp t]:=by rfl)
  (hs:Seg P M ops N (L++envO O) ops.toList L':=by exact segZ) (hl:selQ [(t,p)] L'=some O2:=by rfl) (hw:AllOw Gs O2:=by exact owA) (hl2:(envO O2).lookup t=some (dtip g e x):=by rfl) (hg:∀ b,g=some b->zj Gs p b:=by first | exact λ _ h=>h | exact λ _ h=>(by cases h)):(Code.region id ops false).wp P Q a w:=
 h.gs_ hs λ a' w' st=>hq a' w' ((Sx.of_st (ks:=[]) st h.ob Z hl hw).ret_own p hr hl2 hg hm)
theorem Sx.zn{σ:Type}{x:σ⊕β}{s:σ}{T:σ->Act->World->Prop}(h:Sx F N M0 M Gs L O a w)(qp:List (Nat×Nat))(h2:some (Sum.inl s)=some x)(hq:∀ a' w',(∃ s',x=.inl s'/\T s' a' w')->Q .normal a' w':=by exact λ _ _ h=>h)
  (hs:Seg P M ops N (L++envO O) ops.toList L':=by exact segZ) (hk:kp L' []=some L2:=by rfl) (hsq:selQ qp L'=some O2:=by rfl) (hw:AllOw Gs O2:=by exact owA) (k:∀ a' w',Sx F N M0 M Gs L2 O2 a' w'->T s a' w':=by intro _ _ _;exact fz):(Code.region id ops false).wp P Q a w:=
 h.gs_ hs λ a' w' st=>hq a' w' ⟨s,(bP h2).symm,k a' w' (Sx.of_kp st h.ob hk hsq hw)⟩
theorem Sx.zc{c:Nat}{b:Bool}{x z:Code}{A:Option β}{r:β}(h:Sx F N M0 M Gs L O a w)(hm:(if b=true then A else B)=some r)(ht:∀{a' w'},Sx F N M0 M Gs L2 [] a' w'->A=some r->wq P x Q2 a' w')(hf:∀{a' w'},Sx F N M0 M Gs L2 [] a' w'->B=some r->wq P z Q2 a' w')
  (hq:∀ a' w',(Code.cond (.tmp c) x z).wp P Q2 a' w'->Q .normal a' w':=by exact λ _ _ h=>h) (hs:Seg P M ops N (L++envO O) ops.toList L':=by exact segZ) (hk:kp L' []=some L2:=by rfl) (hl:L2.lookup c=some (dt b):=by rfl):(Code.region id ops false).wp P Q a w:=
 h.z1 (@λ a' w' st=>hq a' w' (st.cq hm (ht st) (hf st) hl)) hs hk
theorem Sx.zd{c:Nat}{b:Bool}{x z:Code}{A:Option β}{r:β}(h:Sx F N M0 M Gs L O a w)(qp:List (Nat×Nat))(hm:(if b=true then A else B)=some r)(ht:∀{a' w'},Sx F N M0 M Gs L2 O2 a' w'->A=some r->wq P x Q2 a' w')(hf:∀{a' w'},Sx F N M0 M Gs L2 O2 a' w'->B=some r->wq P z Q2 a' w')
  (hq:∀ a' w',(Code.cond (.tmp c) x z).wp P Q2 a' w'->Q .normal a' w':=by exact λ _ _ h=>h) (hs:Seg P M ops N (L++envO O) ops.toList L':=by exact segZ) (hk:kp L' []=some L2:=by rfl) (hsq:selQ qp L'=some O2:=by rfl) (hw:AllOw Gs O2:=by exact owA) (hl:L2.lookup c=some (dt b):=by rfl):(Code.region id ops false).wp P Q a w:=
 h.zo qp (@λ a' w' st=>hq a' w' (st.cq hm (ht st) (hf st) hl)) hs hk hsq hw
theorem Sx.zO(h:Sx F N M0 M Gs L O a w)(next:∀{a' w'},Sx F N M0 M Gs L2 O2 a' w'->Q .normal a' w')(hs:Seg P M ops N (L++envO O) ops.toList L':=by exact segZ)(hk:kp L' []=some L2:=by rfl)(hq:selQ (O.map λ e=>(e.1,e.2.1)) L'=some O2:=by rfl)(hw:AllOw Gs O2:=by exact owA):(Code.region id ops false).wp P Q a w:=h.zo _ next hs hk hq hw
theorem Sx.zH(h:Sx F N M0 M Gs L O a w)(n:Nat)(next:∀{a' w'},Sx F N M0 M Gs L2 O2 a' w'->wpList P ops Q (l.drop n) a' w')(hs:Seg P M ops N (L++envO O) (l.take n) L':=by exact segZ)(hk:kp L' []=some L2:=by rfl)(hq:selQ (O.map λ e=>(e.1,e.2.1)) L'=some O2:=by rfl)(hw:AllOw Gs O2:=by exact owA):wpList P ops Q l a w:=h.zh n _ next hs hk hq hw
theorem Sx.zD{c:Nat}{b:Bool}{x z:Code}{A:Option β}{r:β}(h:Sx F N M0 M Gs L O a w)(hm:(if b=true then A else B)=some r)(ht:∀{a' w'},Sx F N M0 M Gs L2 O2 a' w'->A=some r->wq P x Q2 a' w')(hf:∀{a' w'},Sx F N M0 M Gs L2 O2 a' w'->B=some r->wq P z Q2 a' w')
  (hq:∀ a' w',(Code.cond (.tmp c) x z).wp P Q2 a' w'->Q .normal a' w':=by exact λ _ _ h=>h) (hs:Seg P M ops N (L++envO O) ops.toList L':=by exact segZ) (hk:kp L' []=some L2:=by rfl) (hsq:selQ (O.map λ e=>(e.1,e.2.1)) L'=some O2:=by rfl) (hw:AllOw Gs O2:=by exact owA) (hl:L2.lookup c=some (dt b):=by rfl):(Code.region id ops false).wp P Q a w:=h.zd _ hm ht hf hq hs hk hsq hw hl
theorem Sx.zN{σ:Type}{x:σ⊕β}{s:σ}{T:σ->Act->World->Prop}(h:Sx F N M0 M Gs L O a w)(h2:some (Sum.inl s)=some x)(hq:∀ a' w',(∃ s',x=.inl s'/\T s' a' w')->Q .normal a' w':=by exact λ _ _ h=>h)
  (hs:Seg P M ops N (L++envO O) ops.toList L':=by exact segZ) (hk:kp L' []=some L2:=by rfl) (hsq:selQ (O.map λ e=>(e.1,e.2.1)) L'=some O2:=by rfl) (hw:AllOw Gs O2:=by exact owA) (k:∀ a' w',Sx F N M0 M Gs L2 O2 a' w'->T s a' w':=by intro _ _ _;exact fz):(Code.region id ops false).wp P Q a w:=h.zn _ h2 hq hs hk hsq hw k
theorem Sx.zV(h:Sx F N M0 M Gs L O a w)(next:∀{a' w'},Sx F N M0 M Gs L2 O2 a' w'->Q .normal a' w')(hs:SegW P M ops N (L++envO O) ops.toList L':=by exact segV)(hk:kp L' []=some L2:=by rfl)(hq:selQ (O.map λ e=>(e.1,e.2.1)) L'=some O2:=by rfl)(hw:AllOw Gs O2:=by exact owA)(hm:P.follows .mixedOrders=true:=by kernel_rfl)(hc:jf ops ops.size (cloT ops) (srcW ops)=true:=by decide +kernel):(Code.region id ops true).wp P Q a w:=h.zv _ next hs hk hq hw hm hc
theorem Sx.zU(h:Sx F N M0 M Gs L O a w)(k:Nat)(next:∀{a' w'},Sx F N M0 M Gs L2 O2 a' w'->wpList P ops Q (ops.toList.drop k) a' w')(hs:SegW P M ops N (L++envO O) (ops.toList.take k) L':=by exact segV)(hk:kp L' []=some L2:=by rfl)(hq:selQ (O.map λ e=>(e.1,e.2.1)) L'=some O2:=by rfl)(hw:AllOw Gs O2:=by exact owA)(hm:P.follows .mixedOrders=true:=by kernel_rfl)(hc:jf ops k (cloT ops) (srcW ops)=true:=by decide +kernel)(hkn:k<=ops.size:=by decide):(Code.region id ops true).wp P Q a w:=h.zu k _ next hs hk hq hw hm hc hkn
end
section
variable{fn:Func}{ξ β γ:Type}[Rep ξ][Rep β][Rep γ]{oo:Ow (Bx ξ)}{t u:Nat}{x:ξ}{y:β}{z:γ}
theorem Sx.xF{r:ξ×β}(h:Sx (Frm.chg w0 G) N M0 M Gs L O a w)(s p:Nat)(hm:some (x,y)=some r)(hr:fn.results=#[.tmp t]:=by rfl)(hl:(L++envO O).lookup t=some (dt y):=by rfl)(hs:(L++envO O).lookup s=some (dnm oo G' ⟨x⟩ v0 cf):=by rfl)(hG:∀ b,G' b->zj Gs p b:=by exact λ _ h=>h)(hfl:Flat (dt y):=by first | exact jK | exact ZA | exact flat_str):bodyPost P fn (RetS M0 w0 G v0 oo ⟨r.1⟩ (.frz (dt r.2))) .ret a w:=h.rsF p hr hl hs hG (bxr hm) hfl
theorem Sx.xD{r:ξ×β}(h:Sx (Frm.chg w0 G) N M0 M Gs L O a w)(s p:Nat)(hm:some (x,y)=some r)(hr:fn.results=#[.tmp t]:=by rfl)(hl:(L++envO O).lookup t=some (dt y):=by rfl)(hs:(L++envO O).lookup s=some (dnm oo G' ⟨x⟩ v0 cf):=by rfl)(hG:∀ b,G' b->zj Gs p b:=by exact λ _ h=>h):bodyPost P fn (RetS M0 w0 G v0 oo ⟨r.1⟩ (.frz (dt r.2))) .ret a w:=h.rsD p hr hl hs hG (bxr hm)
theorem Sx.xC{r:ξ×β}(h:Sx (Frm.chg w0 G) N M0 M Gs L O a w)(s p:Nat)(hm:some (x,y)=some r)(hr:fn.results=#[.cell t ty]:=by rfl)(ht:tyB P ty (Rep.agg β) (Rep.size β)=true:=by kernel_rfl)(hl:(L++envO O).lookup t=some (dbox g 0 y):=by rfl)(hs:(L++envO O).lookup s=some (dnm oo G' ⟨x⟩ v0 cf):=by rfl)(hG:∀ b,G' b->zj Gs p b:=by exact λ _ h=>h):bodyPost P fn (RetS M0 w0 G v0 oo ⟨r.1⟩ (.frz (dt r.2))) .ret a w:=h.rsC p (hr:=hr) ht (hl:=hl) (hs:=hs) (hG:=hG) (bxr hm)
theorem Sx.xE2{r:ξ×β×γ}(h:Sx (Frm.chg w0 G) N M0 M Gs L O a w)(s p:Nat)(hm:some (x,y,z)=some r)(hr:fn.results=#[.tmp t,.tmp u]:=by rfl)(hl:(L++envO O).lookup t=some (dt y):=by rfl)(hl2:(L++envO O).lookup u=some (dt z):=by rfl)(hs:(L++envO O).lookup s=some (dnm oo G' ⟨x⟩ v0 cf):=by rfl)(hG:∀ b,G' b->zj Gs p b:=by exact λ _ h=>h):bodyPost P fn (RetS M0 w0 G v0 oo ⟨r.1⟩ (.frz (dtup [dt r.2.1,dt r.2.2]))) .ret a w:=h.rs2 p hr hl hl2 hs hG (bxr hm)
theorem Sx.y2{x:β}{y R:Dt}(h:Sx (Frm.of w0) N M0 M Gs L O a w)(hr:fn.results=#[.cell t ty,.tmp u]:=by rfl)(ht:tyB P ty (Rep.agg β) (Rep.size β)=true:=by kernel_rfl)(hl:(L++envO O).lookup t=some (dbox g 0 x):=by rfl)(hu:(L++envO O).lookup u=some y:=by rfl)(hn:y.nb=true:=by rfl)(hR:R=dtup [dt x,y]:=by rfl):bodyPost P fn (RetP M0 w0 R) .ret a w:=h.ret2c hr ht hl (h.frozen (hl:=hu)) hn hR
theorem Sx.yB{x r:β}(h:Sx (Frm.of w0) N M0 M Gs L O a w)(hm:some x=some r)(hr:fn.results=#[.cell t ty]:=by rfl)(ht:tyB P ty (Rep.agg β) (Rep.size β)=true:=by kernel_rfl)(hl:(L++envO O).lookup t=some (dbox g 0 x):=by rfl):bodyPost P fn (RetP M0 w0 (dt r)) .ret a w:=h.ret_box hr ht hl hm
end
section
theorem SegW.app(h:SegW P M ops N L l1 L1)(k:SegW P M ops N L1 l2 L'):SegW P M ops N L (l1++l2) L':=by
 induction h with
 | nil=>exact k
 | cons hd hN h _ ih=>exact .cons hd hN h (ih k)
theorem sV{l:List Oper}(n:Nat)(h:SegW P M ops N L (l.take n) L1:=by exact segV)(r:SegW P M ops N L1 (l.drop n) L'):SegW P M ops N L l L':=by
 have:=SegW.app h r;simp_all
end
section
variable{f:Nat}
variable{α β:Type}[Rep α][Rep β]
theorem Sx.tkIF{xs:List α}{x:α}(h:Sx F N M0 M Gs L O a w)(ho:ops[i]?=some o)(hh:opH o N=some d)
  (hQ:∀ c a w v,Q (.panic c) (a.put o.dst v) w->Q (.panic c) a w) (hS:S w) (hop:o.op=.indexAddr t q qi) (ht':slB P t (Rep.size α)=true) (hx:OpdR M (λ s=>(L++envO O).lookup s) q (dt xs)) (hi:OpdR M (λ s=>(L++envO O).lookup s) qi (dt m)) (hm:atI xs m=some x)
  (next:∀ a',Sx F N M0 M Gs ((d,dptr x)::L) O a' w->wpAnyH P .any ops Q S f (listed.setIfInBounds i true) a' w)(hs:Region.noSelect ops=true:=by decide +kernel)(hf:Region.free .any ops listed i=true:=by decide +kernel)(hr:(Region.ready .any ops listed).contains i=true:=by decide +kernel):wpAnyH P .any ops Q S (f+1) listed a w:=by
 unfold OpdR at hx hi;obtain⟨hm0,hg⟩:=yL hm;generalize m.toNat=k at*;subst hm0;obtain⟨e,ht⟩:=jJ ht';obtain⟨cs,⟨A,c,hcs,h1,h2,h3⟩,hv⟩:=hx w a λ s y hy=>h.st.has s y hy
 have hiv:=yx.1 (hi w a λ s y hy=>h.st.has s y hy);have hk:=(ai.1 hg).1;rcases h3 with h3 | ⟨b,off,cells,hA,hb,hc,hr2⟩
 ·rw[h3] at hk;simp at hk
 ·obtain⟨ti,ht1,ht2,ht3⟩:=Zy ht;obtain⟨c',hcc,hr'⟩:=rowR_at hr2 hg;refine h.tkY (y:=dptr x) ho hh hs hf hr (λ c a w=>hQ c a w _) hS (λ w' _=>?_) ⟨b,off+k*Rep.size α,c',Z,hb,λ j u hj=>by rw[bA];exact hc _ u (hcc j u hj),hr'⟩ Z next;have hadd:(⟨b,off,none⟩:Addr).add (k*Rep.size α)=⟨b,off+k*Rep.size α,none⟩:=by
   unfold Addr.add;split
   ·rename_i h0;rw[h0];simp
   ·rfl
  unfold execOp;rw[hop];subst hcs hA;simp[mkv,Rep.agg] at hv;simp[hv,hiv,Instr.indexAt,asIntOf,aw ht1,sizeOf,typeInfo,ht2,ht3,hk,hadd]
theorem Sx.tkFp{x:α}{get:α->β}(h:Sx F N M0 M Gs L O a w)
   (hS:S w) (fl:Fld get off)  (ht:fldB P t fo off=true) (hp:OpdR M (λ s=>(L++envO O).lookup s) q (dptr x))
  (next:∀{a'},Sx F N M0 M Gs ((d,dptr (get x))::L) O a' w->wpAnyH P .any ops Q S f (listed.setIfInBounds i true) a' w)(ho:ops[i]?=some o:=by rfl)(hh:opH o N=some d:=by rfl)(hs:Region.noSelect ops=true:=by decide +kernel)(hf:Region.free .any ops listed i=true:=by decide +kernel)(hr:(Region.ready .any ops listed).contains i=true:=by decide +kernel)(hQ:∀ c a w v,Q (.panic c) (a.put o.dst v) w->Q (.panic c) a w:=by exact λ _ _ _ _ h=>h)(hop:o.op=.fieldAddr t q fo:=by rfl):wpAnyH P .any ops Q S (f+1) listed a w:=by
 unfold OpdR at hp;obtain⟨b,off',cs,hv,hb,hc,hr2⟩:=hp w a λ s y hy=>h.st.has s y hy
 obtain⟨c,hcc,hr'⟩:=fl.sub hr2;refine h.tkY (y:=dptr _) ho hh hs hf hr (λ c a w=>hQ c a w _) hS (λ w' _=>?_) ⟨b,off'+off,c,Z,hb,λ j u hj=>by rw[bA];exact hc _ u (hcc j u hj),hr'⟩ Z (λ _ h_=>next h_);unfold execOp;rw[hop];simp[hv,Jf ht]
def Qd(n m:Nat):Array Bool:=((List.range n).map m.testBit).toArray
theorem ws{f0:Nat}(f m:Nat)(T:Act->World->Prop)(h:∀ a w,T a w->wpAnyH P .any ops Q S f (Qd ops.size m) a w)(next:(∀ a w,T a w->wpAnyH P .any ops Q S f (Qd ops.size m) a w)->wpAnyH P .any ops Q S f0 l0 a0 w0):wpAnyH P .any ops Q S f0 l0 a0 w0:=next h
theorem aHgo{l:Array Bool}{T:Act->World->Prop}(n:∀ a w,T a w->wpAnyH P .any ops Q S f l' a w)(h:T a w:=by exact fx)(hl:l=l':=by decide +kernel):wpAnyH P .any ops Q S f l a w:=by rw[hl];exact n a w h
theorem aHe{l:Array Bool}{T:Act->World->Prop}(n:∀ a w,T a w->wpAnyH P .any ops Q S f l' a w)(hS:S w)(h:T a w:=by exact fx)(hl:l=l':=by decide +kernel):wpList P ops (QH P ops Q S f l) [] a w:=aHN hS (aHgo n h hl)
theorem aH3(ho:ops[i]?=some o)(ho2:ops[j]?=some o2)(ho3:ops[k]?=some o3)(h:wpList P ops (QH P ops Q S f (listed.setIfInBounds i true)) [o] a w)(h2:wpList P ops (QH P ops Q S f (listed.setIfInBounds j true)) [o2] a w)(h3:wpList P ops (QH P ops Q S f (listed.setIfInBounds k true)) [o3] a w)(hr:Region.ready .any ops listed=[i,j,k]:=by decide +kernel):wpAnyH P .any ops Q S (f+1) listed a w:=
 ⟨λ e=>(by rw[hr] at e;cases e),λ q hk=>by
  rw[hr] at hk;simp at hk;rcases hk with rfl | rfl | rfl
  ·exact Yp ho h
  ·exact Yp ho2 h2
  ·exact Yp ho3 h3⟩
end
