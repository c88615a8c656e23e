import Derived.Test.YtifgdhfcoaognaaGreatDoorTG
import Derived.Test.YtifgdhfcoaognaaGreatDoorProg
import Derived.Maps.Own
import Derived.Test.YtifgdhfcoaognaaGreatDoorTB
namespace Go.Proofs.YtifgdhfcoaognaaGreatDoor
open Go.RowKit
variable{a:Act}{listed:Array Bool}{ops:Array Oper}{ts:Array TypeId}{op:BinOp}{c cnd:Bool}{cf:CF}{y yd:Dt}{L L' L1 L2:Env}{Q Q2:Exit->Act->World->Prop}{F:Frm}{m:Int}{zs:List (List Value)}{Gs Gs':List (Nat->Prop)}{x1 x2:List (Nat×Dt)}{ps ps':List (Nat×Nat)}{O O2:List (Nat×Nat×Dt)}{D ds xr xs:List Dt}{ks ns qs:List Nat}{φ:List Nat->Prop}{l1 l2 rest:List Oper}{l:List Operand}{c0 c1 c2 c3 c4 c5 c6 c7 c8:List Value}{N b bk by_ bytes d fo i j k off p p2 s s2 sb:Nat}{b4:Nat->Ow (List (Bx GMod))}{G G' G1 G2 G3 M M' M0:Nat->Prop}{o o2:Oper}{q qi qx vo:Operand}{A:Option Addr}{g:Option Nat}{a4:Ow (List (Bx GMod))}{a3 a6:Ow (List GEvent)}{a2:Ow (List GMod)}{a5:Ow (List Int)}{a7:Ow (List Str)}{P:Program}{e t t' ty:TypeId}{u v v0:Value}{w w' w0:World}{S:World->Prop}
section
variable{α:Type}[Rep α]
def dpk(b o:Nat)(cs:List Value)(x:α):Dt where
 rd M w v:=v=.pointer (some ⟨b,o,none⟩)/\¬ M b/\CellsAt w b o cs/\Rep.rdc M w cs x
 own:=noB
 nb:=true
 nob _ _ h:=h
 stable:=λ⟨hv,hb,hc,h⟩ e=>⟨hv,hb,hc.stable hb e,Rep.stable h e⟩
 weak:=λ{M M' w v} ⟨hv,hb,hc,h⟩ e=>⟨hv,λ hm=>by
  have hl:=Rep.len h;have hp:=Rep.pos (α:=α);obtain⟨u,hu⟩:∃ u,cs[0]?=some u:=⟨_,List.getElem?_eq_getElem (by omega)⟩;exact hb (e b (zbP (hc 0 u hu)) hm),hc,Rep.weak h e⟩
end
section
variable{fn:Func}{f:Nat}{T:Prop}
theorem Sx.addL(h:Sx F N M0 M Gs L O a w)(hy:y.rd M w (Act.at a s))(hn:y.nb=true:=by rfl):Sx F N M0 M Gs ((s,y)::L) O a w:=by
 refine⟨⟨h.st.fr,h.st.size,h.st.defers,h.st.mok,λ s' z hz=>?_⟩,h.ob,λ s' z hz=>?_,h.ow⟩
 ·simp only[List.cons_append,List.lookup_cons] at hz;by_cases he:s'=s
  ·subst he;simp only[beq_self_eq_true,Option.some.injEq] at hz;subst hz;exact hy
  ·have hb:(s' == s)=false:=by simpa using he
   simp only[hb] at hz;exact h.st.has s' z hz
 ·simp only[List.lookup_cons] at hz;split at hz
  ·injection hz with hz;subst hz;exact hn
  ·exact h.no s' z hz
section
variable{α β γ δ:Type}[Rep α][Rep β][Rep γ][Rep δ]
theorem Sx.opn{x:α}(h:Sx F N M0 M Gs L O a w)(next:∀ (b o:Nat) (cs:List Value),Sx F N M0 M Gs ((s,dpk b o cs x)::L) O a w->T)(hs:(L++envO O).lookup s=some (dptr x):=by rfl):T:=by
 obtain⟨b,o,cs,h1,h2,h3,h4⟩:=h.st.has s _ hs;exact next b o cs (h.addL ⟨h1,h2,h3,h4⟩)
theorem Sx.clo{o:Nat}{cs:List Value}{x:α}(h:Sx F N M0 M Gs L O a w)(hs:(L++envO O).lookup s=some (dpk b o cs x):=by rfl):Sx F N M0 M Gs ((s,dptr x)::L) O a w:=by
 obtain⟨h1,h2,h3,h4⟩:=h.st.has s _ hs;exact h.addL ⟨b,o,cs,h1,h2,h3,h4⟩
theorem Sx.pkS{o:Nat}{cs:List Value}{x:α}(h:Sx F N M0 M Gs L O a w)(hs:(L++envO O).lookup s=some (dpk b o cs x):=by rfl):CellsAt w b o cs:=(h.st.has s _ hs).2.2.1
theorem Sx.tkY(h:Sx F N M0 M Gs L O a w)(ho:ops[i]?=some o)(hh:opH o N=some d)(hs:Region.noSelect ops=true)(hf:Region.free .any ops listed i=true)(hr:(Region.ready .any ops listed).contains i=true)
  (hQ:∀ c a w,Q (.panic c) (a.put o.dst v) w->Q (.panic c) a w) (hS:S w) (hy:∀ w,S w->(execOp a.eval o).run P w=.ok (.value v) w) (hyr:y.rd M w v) 
  (next:∀ a',Sx F N M0 M Gs ((d,y)::L) O a' w->wpAnyH P .any ops Q S f (listed.setIfInBounds i true) a' w)(hn:y.nb=true:=by rfl):wpAnyH P .any ops Q S (f+1) listed a w:=
 wpAnyH_take ho hs hf hr hQ (.inl ⟨Y5 (ya hh).1,hy⟩) hS (by rw[(ya hh).2.1];exact next _ (h.putL (ya hh).2.2 hyr hn))
theorem Sx.tkA{n:Nat}{cs:List Value}{x:α}(h:Sx F N M0 M Gs L O a w)(ho:ops[i]?=some o)(hh:opH o N=some d)(hs:Region.noSelect ops=true)(hf:Region.free .any ops listed i=true)(hr:(Region.ready .any ops listed).contains i=true)
  (hQ:∀ c a w v,Q (.panic c) (a.put o.dst v) w->Q (.panic c) a w) (hl:(L++envO O).lookup sb=some (dpk b off cs x)) (hop:o.op=.fieldAddr t q n) (ht:fldB P t n fo=true) (hq:q=.tmp sb)
  (next:∀ a',Sx F N M0 M Gs ((d,dis (.pointer (some ⟨b,off+fo,none⟩)))::L) O a' w->wpAnyH P .any ops Q (λ w=>CellsAt w b off cs) f (listed.setIfInBounds i true) a' w):wpAnyH P .any ops Q (λ w=>CellsAt w b off cs) (f+1) listed a w:=by
 obtain⟨h1,_,h3,_⟩:=h.st.has sb _ hl;exact h.tkY ho hh hs hf hr (λ c a w=>hQ c a w _) h3 (yFa hop ht (by rw[hq];exact h1)) Z next
theorem Sx.tkB{parts:List (Nat×Operand)}{x:α}(h:Sx F N M0 M Gs L O a w)(ho:ops[i]?=some o)(hh:opH o N=some d)
   (hS:S w) (hagg:Rep.agg α=true) (hop:o.op=.build t parts.toArray) (hb:bldB P t ns=true) (hz:Zq P t ns=some zs)
  (hl:∀ (w:World) (a:Act),(∀ s y,(L++envO O).lookup s=some y->y.rd M w (Act.at a s))->∀ p∈parts,p.1<ns.length/\(a.eval p.2).cells.toList.length=ns.getD p.1 0)
  (hx:∀ (w:World) (a:Act),(∀ s y,(L++envO O).lookup s=some y->y.rd M w (Act.at a s))->Rep.rdc M w ((parts.foldl (λ l p=>l.set p.1 (a.eval p.2).cells.toList) zs).flatten) x)
  (next:∀ a',Sx F N M0 M Gs ((d,dt x)::L) O a' w->wpAnyH P .any ops Q S f (listed.setIfInBounds i true) a' w)(hs:Region.noSelect ops=true:=by decide +kernel)(hf:Region.free .any ops listed i=true:=by decide +kernel)(hr:(Region.ready .any ops listed).contains i=true:=by decide +kernel)(hQ:∀ c a w v,Q (.panic c) (a.put o.dst v) w->Q (.panic c) a w:=by exact λ _ _ _ _ h=>h):wpAnyH P .any ops Q S (f+1) listed a w:=by
 have hc:=λ w'=>zcS (P:=P) (parts:=parts.map λ p=>(p.1,a.eval p.2)) hb hz (λ p hp=>by
  obtain⟨q,hq,rfl⟩:=List.mem_map.1 hp;have:=hl w a (λ s y hy=>h.st.has s y hy) q hq;exact⟨this.1,by simpa using this.2⟩) w'
 obtain⟨cells,h1,h2⟩:=hc w;refine h.tkY (v:=.agg cells) (y:=dt x) ho hh hs hf hr (λ c a w=>hQ c a w _) hS (λ w' _=>?_) ⟨cells.toList,?_,by rw[hagg];rfl⟩ next
 ·obtain⟨cells',h3,h4⟩:=hc w';have hcc:cells'=cells:=Array.toList_inj.1 (h4.trans h2.symm);rw[hcc] at h3;unfold execOp;rw[hop];have e:(parts.toArray.map λ p:Nat×Operand=>(p.1,a.eval p.2))=(parts.map λ p=>(p.1,a.eval p.2)).toArray:=by simp
  simp only[e,Sem.run_bind,h3,Result.andThen_ok,Sem.run_pure]
 ·rw[h2,List.foldl_map];exact hx w a λ s y hy=>h.st.has s y hy
theorem Sx.tkM(h:Sx F N M0 M Gs L O a w)(ho:ops[i]?=some o)(hh:opH o N=some d)
   (hS:S w) (hl:(L++envO O).lookup sb=some y) (hn:y.nb=true) (hop:o.op=.move q) (hq:q=.tmp sb)
  (next:∀ a',Sx F N M0 M Gs ((d,y)::L) O a' w->wpAnyH P .any ops Q S f (listed.setIfInBounds i true) a' w)(hs:Region.noSelect ops=true:=by decide +kernel)(hf:Region.free .any ops listed i=true:=by decide +kernel)(hr:(Region.ready .any ops listed).contains i=true:=by decide +kernel)(hQ:∀ c a w v,Q (.panic c) (a.put o.dst v) w->Q (.panic c) a w:=by exact λ _ _ _ _ h=>h):wpAnyH P .any ops Q S (f+1) listed a w:=
 h.tkY (v:=Act.at a sb) (y:=y) ho hh hs hf hr (λ c a w=>hQ c a w _) hS (yMv hop (by rw[hq];rfl)) (h.st.has sb _ hl) (hn:=hn) next
theorem Sx.tkF{cs:List Value}{x:α}{get:α->β}(fl:Fld get fo)(h:Sx F N M0 M Gs L O a w)(ho:ops[i]?=some o)(hh:opH o N=some d)(hs:Region.noSelect ops=true)(hf:Region.free .any ops listed i=true)(hr:(Region.ready .any ops listed).contains i=true)
  (hQ:∀ c a w v,Q (.panic c) (a.put o.dst v) w->Q (.panic c) a w) (hl:(L++envO O).lookup sb=some (dpk b off cs x)) (hl2:(L++envO O).lookup s2=some (dis (.pointer (some ⟨b,off+fo,none⟩)))) (hop:o.op=.load t q) (ht:tyB P t (Rep.agg β) (Rep.size β)=true) (hq:q=.tmp s2)
  (next:∀ a',Sx F N M0 M Gs ((d,dt (get x))::L) O a' w->wpAnyH P .any ops Q (λ w=>CellsAt w b off cs) f (listed.setIfInBounds i true) a' w):wpAnyH P .any ops Q (λ w=>CellsAt w b off cs) (f+1) listed a w:=by
 obtain⟨h1,_,h3,h4⟩:=h.st.has sb _ hl;obtain⟨c,hc,hr2⟩:=fl.sub h4;have h5:Act.at a s2=.pointer (some ⟨b,off+fo,none⟩):=h.st.has s2 _ hl2;refine h.tkY (v:=mkv (Rep.agg β) c) (y:=dt (get x)) ho hh hs hf hr (λ c a w=>hQ c a w _) h3 (λ w hw=>?_) ⟨c,hr2,Z⟩ next;have:=xZ (P:=P) (w:=w) (b:=b) (o:=off+fo) ht (Rep.len hr2) Rep.one (λ j u hj=>by rw[Nat.add_assoc];exact hw _ u (hc j u hj));have hv:a.eval q=.pointer (some ⟨b,off+fo,none⟩):=by rw[hq];exact h5
 unfold execOp;rw[hop];simp[Instr.loadAt,Instr.sureAddr,hv,this]
end
end
def chkE(E:List Nat)(n k:Nat)(T:List (List Nat))(listed:Array Bool):Bool:=
 decide (listed.size=n)&&((List.range n).all λ i=>listed.getD i false == E.contains i)&&(E.all λ i=>decide (i<k)&&(T.getD i []).all λ j=>E.contains j)
theorem za8{P:Program}{ops:Array Oper}{Q:Exit->Act->World->Prop}:∀ (f:Nat) (listed:Array Bool) (a:Act) (w:World),wpAny P .any ops Q f listed a w->wpAnyH P .any ops Q (λ _=>True) f listed a w
 | 0,_,_,_,h=>h
 | f+1,_,_,_,h=>⟨h.1,λ i hi=>wpOp_mono (λ a' w' h'=>⟨trivial,za8 f _ a' w' h'⟩) (h.2 i hi)⟩
section
variable{f:Nat}
variable{α:Type}[Rep α]
variable{β:Type}{ys:List β}
theorem Sx.drnE{xs:List (Nat×Dt)}(h:Sx F N M0 M Gs L O a w)(k:Nat)(E:List Nat)(S:List (List (Nat×Option Nat)))
  (hs:RegR P M ops N S (L++envO O) D 0 (ops.toList.take k) xs) (hx:∀ i∈E,∀ x d,xs[i]?=some (d,x)->(L++envO O).lookup d=some x) (ks:List Nat)  (qp:List (Nat×Nat)) (hq:selQ qp (xs++(L++envO O))=some O2) (hw:AllOw Gs O2)
  (hQ:∀ a' w',Sx F N M0 M Gs L2 O2 a' w'->wpList P ops Q (ops.toList.drop k) a' w')(hc:Yy E ops k (cloE E ops) S=true:=by decide +kernel)(hkn:k<=ops.size:=by decide)(hE:chkE E ops.size k (cloE E ops) listed=true:=by decide +kernel)(hf:left ops.size listed=f:=by decide +kernel)(hk:selP ks (xs++(L++envO O))=some L2:=by rfl):wpAnyH P .any ops Q (λ _=>True) f listed a w:=by
 unfold chkE at hE;simp only[Bool.and_eq_true,decide_eq_true_eq] at hE;obtain⟨⟨hsz,hl⟩,hEk⟩:=hE;have hl':∀ i,i<ops.size->listed.getD i false=E.contains i:=λ i hi=>by
  have:=List.all_eq_true.1 hl i (List.mem_range.2 hi);simpa using this
 have hEk':∀ i∈E,i<k/\∀ j∈(cloE E ops).getD i [],j∈E:=λ i hi=>by
  have:=List.all_eq_true.1 hEk i hi;simp only[Bool.and_eq_true,decide_eq_true_eq] at this;exact⟨this.1,λ j hj=>List.contains_iff_mem.1 (List.all_eq_true.1 this.2 j hj)⟩
 have hin:∀ j∈E,listed.getD j false=true:=λ j hj=>by
  rw[hl' j (by have:=(hEk' j hj).1;omega)];exact List.contains_iff_mem.2 hj
 refine za8 _ _ _ _ (draw_anyE hc (λ j hj=>(hEk' j hj).1) hkn h.st hs (λ a' w' he st=>hQ a' w' (.of_st st h.ob hk hq hw)) f listed a w hf hin ⟨hsz,h.st.size,Z,Ext0.refl _,λ i hi=>?_,λ i hi hl2 j hj=>?_,λ i hl2 x d hxi=>?_,λ s _=>Z⟩)
 ·rcases Nat.lt_or_ge i ops.size with h1 | h1
  ·rw[hl' i h1];cases hcn:E.contains i with
   | false=>rfl
   |true=>have:=(hEk' i (List.contains_iff_mem.1 hcn)).1;omega
  ·have:¬ i<listed.size:=by omega
   simp[this]
 ·rw[hl' i hi] at hl2;exact hin j ((hEk' i (List.contains_iff_mem.1 hl2)).2 j hj)
 ·have hi:i<ops.size:=by rw[← hsz];exact XR hl2
  rw[hl' i hi] at hl2;exact h.st.has d x (hx i (List.contains_iff_mem.1 hl2) x d hxi)
theorem Objs.up(ob:Objs F M0 M Gs)(h:∀ b,M b->M' b):Objs F M0 M' Gs:=⟨λ b hb=>h b (ob.sub b hb),λ p b hb=>⟨(ob.at_ p b hb).1,h b (ob.at_ p b hb).2.1,(ob.at_ p b hb).2.2⟩,ob.apart⟩
theorem Sx.tkN{ow:Ow α}{x:α}(h:Sx F N M0 M Gs L O a w)(ho:ops[i]?=some o)(hh:opH o N=some d)
   (hS:S w) (hl:(L++envO O).lookup sb=some (dnm ow G x v0 cf)) (hop:o.op=.move q) (hq:q=.tmp sb)
  (next:∀ a',Sx F N M0 M Gs ((d,dis v0)::L) O a' w->wpAnyH P .any ops Q S f (listed.setIfInBounds i true) a' w)(hs:Region.noSelect ops=true:=by decide +kernel)(hf:Region.free .any ops listed i=true:=by decide +kernel)(hr:(Region.ready .any ops listed).contains i=true:=by decide +kernel)(hQ:∀ c a w v,Q (.panic c) (a.put o.dst v) w->Q (.panic c) a w:=by exact λ _ _ _ _ h=>h):wpAnyH P .any ops Q S (f+1) listed a w:=
 h.tkY (v:=v0) (y:=dis v0) ho hh hs hf hr (λ c a w=>hQ c a w _) hS (yMv hop (by rw[hq];exact(h.st.has sb _ hl).1)) Z next
theorem yNc{A:Addr}(ho:o.op=.nilCheck q)(hv:a.eval q=.pointer (some A)):∀ w,S w->(execOp a.eval o).run P w=.ok (.value (.pointer (some A))) w:=λ w _=>by
 unfold execOp;rw[ho];simp[hv]
theorem Sx.tkI{g n cap size:Nat}{y:β}(h:Sx F N M0 M Gs L O a w)(ho:ops[i]?=some o)(hh:opH o N=some d)
   (hS:S w) (hop:o.op=.indexAddr t q qi) (ht':slB P t size=true) (hl:(L++envO O).lookup s2=some (dis (.slice A n cap))) (hq:q=.tmp s2) (hi:OpdR M (λ s=>(L++envO O).lookup s) qi (dt m)) (hn:n=ys.length) (hA:ys.length≠0->A=some ⟨g,0,none⟩) (hm:atI ys m=some y)
  (next:∀ a',Sx F N M0 M Gs ((d,dis (.pointer (some ⟨g,m.toNat*size,none⟩)))::L) O a' w->wpAnyH P .any ops Q S f (listed.setIfInBounds i true) a' w)(hs:Region.noSelect ops=true:=by decide +kernel)(hf:Region.free .any ops listed i=true:=by decide +kernel)(hr:(Region.ready .any ops listed).contains i=true:=by decide +kernel)(hQ:∀ c a w v,Q (.panic c) (a.put o.dst v) w->Q (.panic c) a w:=by exact λ _ _ _ _ h=>h):wpAnyH P .any ops Q S (f+1) listed a w:=by
 refine h.tkY (v:=.pointer (some ⟨g,m.toNat*size,none⟩)) (y:=dis (.pointer (some ⟨g,m.toNat*size,none⟩))) ho hh hs hf hr (λ c a w=>hQ c a w _) hS (λ w' _=>?_) Z next;obtain⟨hm0,hx⟩:=yS hm;generalize m.toNat=k at*;have hk:=zG hx;have hA':=hA (by omega);subst hA';obtain⟨e',ht⟩:=Zy ht';obtain⟨ti,ht1,ht2,ht3⟩:=Yj ht;have hsv:a.eval q=.slice (some ⟨g,0,none⟩) n cap:=by rw[hq];exact h.st.has s2 _ hl
 have hiv:=yn.1 (hi w a λ s y hy=>h.st.has s y hy);have hk':k<n:=by omega
 have hadd:(⟨g,0,none⟩:Addr).add (k*size)=⟨g,k*size,none⟩:=by rw[Zz];simp
 subst hm0;unfold execOp;rw[hop];simp[hsv,hiv,Instr.indexAt,asIntOf,run_underlying ht1,sizeOf,typeInfo,ht2,ht3,hk',hadd]
theorem Sx.tkIN[Rep β]{ow:Ow β}{g n cap:Nat}{y:β}(h:Sx F N M0 M Gs L O a w)
   (hS:S w)  (ht':slB P t (Rep.size β)=true)   (hi:OpdR M (λ s=>(L++envO O).lookup s) qi (dt m)) (hA:n≠0->A=some ⟨g,0,none⟩) (hm:atI ys m=some y)
  (next:∀ a',Sx F N M0 M Gs ((d,dis (.pointer (some ⟨g,m.toNat*Rep.size β,none⟩)))::L) O a' w->wpAnyH P .any ops Q S f (listed.setIfInBounds i true) a' w)(ho:ops[i]?=some o:=by rfl)(hh:opH o N=some d:=by rfl)(hs:Region.noSelect ops=true:=by decide +kernel)(hf:Region.free .any ops listed i=true:=by decide +kernel)(hr:(Region.ready .any ops listed).contains i=true:=by decide +kernel)(hQ:∀ c a w v,Q (.panic c) (a.put o.dst v) w->Q (.panic c) a w:=by exact λ _ _ _ _ h=>h)(hop:o.op=.indexAddr t q qi:=by rfl)(hl:(L++envO O).lookup s2=some (dnm (Ow.row e ow) G ys (.slice A n cap) cf):=by rfl)(hq:q=.tmp s2:=by rfl):wpAnyH P .any ops Q S (f+1) listed a w:=by
 have hn:=row_nm (_s:=s2) (h.st.has s2 _ hl);refine h.tkY (v:=.pointer (some ⟨g,m.toNat*Rep.size β,none⟩)) (y:=dis (.pointer (some ⟨g,m.toNat*Rep.size β,none⟩))) ho hh hs hf hr (λ c a w=>hQ c a w _) hS (λ w' _=>?_) Z next;obtain⟨hm0,hx⟩:=yS hm;generalize m.toNat=k at*;have hk:=zG hx;have hA':=hA (by omega);subst hA';obtain⟨e',ht⟩:=Zy ht';obtain⟨ti,ht1,ht2,ht3⟩:=Yj ht;have hsv:a.eval q=.slice (some ⟨g,0,none⟩) n cap:=by rw[hq];exact(h.st.has s2 _ hl).1
 have hiv:=yn.1 (hi w a λ s y hy=>h.st.has s y hy);have hk':k<n:=by omega
 have hadd:(⟨g,0,none⟩:Addr).add (k*Rep.size β)=⟨g,k*Rep.size β,none⟩:=by rw[Zz];simp
 subst hm0;unfold execOp;rw[hop];simp[hsv,hiv,Instr.indexAt,asIntOf,run_underlying ht1,sizeOf,typeInfo,ht2,ht3,hk',hadd]
theorem Sx.tkE(h:Sx F N M0 M Gs L O a w)
   (hS:S w)    
  (next:∀{a'},Sx F N M0 M Gs ((d,y)::L) O a' w->wpAnyH P .any ops Q S f (listed.setIfInBounds i true) a' w)(ho:ops[i]?=some o:=by rfl)(hh:opH o N=some d:=by rfl)(hs:Region.noSelect ops=true:=by decide +kernel)(hf:Region.free .any ops listed i=true:=by decide +kernel)(hr:(Region.ready .any ops listed).contains i=true:=by decide +kernel)(hQ:∀ c a w v,Q (.panic c) (a.put o.dst v) w->Q (.panic c) a w:=by exact λ _ _ _ _ h=>h)(hop:o.op=.extract q j:=by rfl)(hl:(L++envO O).lookup s2=some (dtup xs):=by rfl)(hq:q=.tmp s2:=by rfl)(hx:xs[j]?=some y:=by rfl):wpAnyH P .any ops Q S (f+1) listed a w:=by
 obtain⟨us,hv,hr2,hn⟩:=h.st.has s2 _ hl;obtain⟨u,h1,h2⟩:=hr2.at hx;refine h.tkY (v:=u) (y:=y) ho hh hs hf hr (λ c a w=>hQ c a w _) hS (λ w' _=>?_) h2 (hn:=(hn y (List.mem_of_getElem? hx))) (λ _ h_=>next h_);have hv':a.eval q=.tuple us.toArray:=by rw[hq];exact hv
 unfold execOp;rw[hop];simp[hv',Instr.extract,h1]
theorem Sx.appH{x:Nat}{xs ys r:List α}(h:Sx F N M0 M Gs L O a w)(p:Nat)(hh:opH o N=some d)
  (ho:o.op=.call { callee:=.builtin .append,args:=#[.tmp s,.tmp x],argTypes:=#[t,t] }) (hel:elB P t e (Rep.size α) bytes=true)
  (hs:(L++envO O).lookup s=some (dtip g e xs)) (hg:Gs[p]?=some (oneB g)) (hx:RowAt M w (Act.at a x) ys) (hm:appO bytes xs ys=some r)
  (ks:List Nat) (hk:selP ks L=some L2) (qs:List Nat) (hq:selR L O qs p=some O2) (hdn:L2.lookup d=none)
  (next:∀ g' M' a' w',Sx F N M0 M' (Gs.set p (oneB g')) L2 ((d,p,dtip g' e r)::O2) a' w'->wpList P ops Q rest a' w'):wpList P ops Q (o::rest) a w:=by
 obtain⟨hgd,hd,hN⟩:=ya hh;unfold appO at hm;split at hm
 ·rename_i hsz;injection hm with hm;subst hm;have hMg:∀ k,insO g M k->M k:=λ k hk=>hk.elim id λ e=>(h.ob.at_ p k ((yl hg k).2 e)).2.1
  have hx':RowAt (insO g M) w (Act.at a x) ys:=let⟨A,c,h1,h2⟩:=hx;⟨A,c,h1,h2.imp id λ⟨b,off,cells,hA,hc,hr⟩=>⟨b,off,cells,hA,hc,jJ (λ k _ hk=>hMg k hk) hr⟩⟩;obtain⟨v',w',g',hrun,hv',hgr,hg',hlt⟩:=Xj (P:=P) (w:=w) (t:=t) (ty:=o.type) (M0:=M) (g:=g) hel ((dtip g e xs).weak (h.st.has s _ hs) λ k _ hk=>hMg k hk) hx' hsz.1 (by unfold maxLen;omega);refine wpList_plain hgd λ K hK=>OpOut.wp (OpOut.of_value (v:=v') (w':=w') ?_ ?_)
  ·unfold execOp;simp only[ho,resolve,invoke,builtin,Sem.run_bind,Sem.run_pure,Result.andThen_ok,List.map_toArray,List.map_cons,List.map_nil,Act.eval_tmp,hrun]
  ·rw[hd];have h1:=h.eff (G':=oneB g') (ZV hg) (Grown.own hg hgr) (λ b hb=>⟨(hg'.imp (λ e=>(yl hg b).2 (by rw[← e];exact hb)) λ e=>e b hb),hlt b hb⟩) hk hq;exact hK _ _ (next g' _ _ _ (h1.putO hN hdn ((dtip g' e _).weak hv' λ k _ hk=>hk.imp (λ h=>h.1) id) λ b hb=>by rw[zy (ZV hg)];exact hb))
 ·cases hm
theorem Sx.rowH[Rep β]{ow:Ow β}{x:β}{ys:List α}{upd:List α->β}(h:Sx F N M0 M Gs L O a w)(hP:PH ow x v0 cf (Ow.row e Ow.frz) b off ys upd)(hm:(c,b,off,u)∈cf)(hc:c=true)(hf:Fits (List α) u)(hs:(L++envO O).lookup sb=some (dnm ow G x v0 cf))(hx:(L++envO O).lookup s=some (dis u)):RowAt M w (Act.at a s) ys:=by
 obtain⟨h1,⟨cs,h2,h3⟩,h4⟩:=h.st.has sb _ hs;obtain⟨C,e',hh,hsz,_,G1,G2,_,_,_,_,_,hr,_⟩:=(hP.of h2 h3 h4).here;have hu:=zcb hf hh hsz (h4 _ hm hc).2.2;have hsv:Act.at a s=u:=h.st.has s _ hx;obtain⟨v,hv,h5⟩:=hr;rw[hv] at hu;have hu:u=v:=hu;rw[hsv,hu];rcases h5 with⟨g,cap,cur,Gr,hg,hb,k1,k2,k3,k4,k5,k6,k7⟩ | ⟨hx0,A,hA⟩
 ·refine⟨_,cap,hg,.inr ⟨g,0,_,Z,λ j u hj=>?_,zca k7⟩⟩;rw[List.getElem?_take] at hj;split at hj
  ·rw[Nat.zero_add];have:cur[j]?=some u:=by simpa using hj
   simp[World.cell?,hb,this]
  ·cases hj
 ·exact⟨A,0,by rw[hA,hx0];rfl,.inl hx0⟩
end
section
variable{e:Nat}
variable{β γ:Type}[Rep β][Rep γ]
variable{oy:Ow β}{r:γ}{y':β}
theorem Sx.cSFw{f:FuncId}{y:β}(h:Sx F N M0 M Gs L O a w)(p:Nat)
  (hs:(L++envO O).lookup sb=some (dnm oy G y v0 cf)) (hG:∀ b,G b->zp Gs p b) (hd:o.dst=some d) (hN:d<N) (hw:Region.wanted o (yielded ops a.tmps)=cnd)
  (ho:o.op=.call { callee:=.value (.func f),args:=(q::l).toArray,argTypes:=ts }) (hf:fnB P f=true) (hqv:cnd=true->a.eval q=v0) (hp:p<Gs.length) (hx:cnd=true->ArgsR M (λ s=>(L++envO O).lookup s) l xr) (hfn:cnd=true->FnS P f oy y xr y' (.frz (dt r)))
  (ks:List Nat) (hk:selP ks L=some L2) (qs:List Nat) (hq:selR L O qs p=some O2) (hsn:L2.lookup sb=none) (hne:sb≠d)
  (next:∀ G'' M' a' w',Sx F N M0 M' (Gs.set p G'') ((d,Dt.grd cnd (dt r))::L2) ((sb,p,dnm oy G'' (if cnd=true then y' else y) v0 [])::O2) a' w'->wpList P ops Q rest a' w'):wpList P ops Q (o::rest) a w:=by
 have hv0:Act.at a sb=v0:=(h.st.has sb _ hs).1;cases hc:cnd with
 |true=>
  rw[hc] at hw;refine Q8 hw ?_;refine h.cSF (o:={ o with guard:=none }) (yd:=Dt.grd cnd (dt r)) (d:=d) p (h.bkN (y':=y') (hs:=hs) (hG:=hG)) ?_ ho hf ((hqv hc).trans hv0.symm) hp (hx hc) ?_ ks hk qs hq hsn hne (@λ G'' M' a' w' st=>next G'' M' a' w' ?_)
  ·simp[opH,hd,hN]
  ·intro M0 G w v vs hm hgm hv hr;refine(hfn hc M0 G w v vs hm hgm hv hr).mono λ en w' ⟨u,G',Gr,k1,k2,k3,k4,k5,k6,k7,k8,k9⟩=>⟨u,G',Gr,k1,k2,k3,k4,k5,k6,k7,⟨λ _=>k8,λ hf=>?_⟩,Z⟩
   rw[hc] at hf;cases hf
  ·rw[hc] at st;rw[hc,Ke Z];exact st
 |false=>
  rw[hc] at hw;obtain⟨k1,k2,_⟩:=h.st.has sb _ hs;unfold wpList;rw[Kf (by rw[hw];decide),hd];have hset:Gs.set p (zp Gs p)=Gs:=by
   apply List.ext_getElem?;intro n;by_cases hn:p=n
   ·subst hn;rw[List.getElem?_set_self hp,List.getElem?_eq_getElem hp]
    congr 1
    funext b
    unfold zp;rw[List.getElem?_eq_getElem hp]
   ·rw[List.getElem?_set_ne hn]
  have st0:=(h.mut hp (Grown.refl _ w) hk hq).addO (d:=sb) (p:=p) (x:=dnm oy (zp Gs p) y v0 []) hsn ⟨k1,(let⟨cs,k3,k4⟩:=k2;⟨cs,oy.more k3 hG,k4⟩),λ q hq _=>by cases hq⟩ (λ _ h=>h);refine next (zp Gs p) M _ w ?_;rw[hset,hc,Kf (by decide)];exact st0.putL hN (v:=undef) ⟨λ h=>(by cases h),λ _=>rfl⟩ rfl
theorem Sx.cSFhB{want b:Bool}{f:FuncId}{y:β}(h:Sx F N M0 M Gs L O a w)(p:Nat)
  (hs:(L++envO O).lookup sb=some (dnm oy.box G ⟨y⟩ v0 cf)) (hG:∀ b,G b->zp Gs p b) (hh:opG o N ops=some (d,e,j,want)) (hb:(L++envO O).lookup e=some (Dt.grd c (dt b)))
  (ho:o.op=.call { callee:=.value (.func f),args:=(q::l).toArray,argTypes:=ts }) (hf:fnB P f=true) (hqv:(c&&(b == want))=true->a.eval q=v0) (hp:p<Gs.length) (hx:(c&&(b == want))=true->ArgsR M (λ s=>(L++envO O).lookup s) l xr) (hfn:(c&&(b == want))=true->FnS P f oy.box ⟨y⟩ xr ⟨y'⟩ (.frz (dt r)))
  (ks:List Nat) (hk:selP ks L=some L2) (qs:List Nat) (hq:selR L O qs p=some O2) (hsn:L2.lookup sb=none) (hne:sb≠d)
  (next:∀ G'' M' a' w',Sx F N M0 M' (Gs.set p G'') ((d,Dt.grd (c&&(b == want)) (dt r))::L2) ((sb,p,dnm oy.box G'' ⟨if(c&&(b == want))=true then y' else y⟩ v0 [])::O2) a' w'->wpList P ops Q rest a' w'):wpList P ops Q (o::rest) a w:=by
 obtain⟨hg,hd,hj,hN,hE⟩:=yz hh;have h1:=h.st.has e _ hb;have hlt:e<a.tmps.size:=by rw[h.st.size];exact hE
 have hat:a.tmps[e]?=some (Act.at a e):=by
  unfold Act.at;rw[Array.getD_eq_getD_getElem?,Array.getElem?_eq_getElem hlt];rfl
 have hw:Region.wanted o (yielded ops a.tmps)=(c&&(b == want)):=by
  cases hc:c with
  |true=>have h2:=zC (h1.1 hc);simp[Region.wanted,hg,yielded,hj,hat,h2]
  |false=>have h2:=h1.2 hc;simp[Region.wanted,hg,yielded,hj,hat,h2,undef]
 exact h.cSFw p hs hG hd hN hw ho hf hqv hp hx hfn ks hk qs hq hsn hne λ G'' M' a' w' st=>next G'' M' a' w' (by rw[ite_bx] at st;exact st)
end
def mkOwn{α:Type}[Rep α](i d:Nat)(t:TypeId)(zs:List Value)(p:Nat)(d0:α)(ow:Ow α)(hz:∀ (M:Nat->Prop) (w:World),ow.ro M noB w zs d0):Mk where
 c:=⟨i,d,t,zs⟩
 p:=p
 X b:=dnm ow.box (oneB (some b)) ⟨d0⟩ (.pointer (some ⟨b,0,none⟩)) []
 own _ _ h:=h
 rd M w b z h1 h2:=⟨Z,⟨_,⟨b,z.cells,t,noB,Z,h2,Z,λ h=>h,λ _ h=>h.elim,by rw[h1];exact hz _ _⟩,Z⟩,λ _ hq=>(by cases hq)⟩
theorem row_hd{α β:Type}[Rep α][Rep β]{look:Nat->Option Dt}{ow:Ow β}{x:β}{ys:List α}{upd:List α->β}(hP:PH ow x v0 cf (Ow.row e Ow.frz) b off ys upd)(hm:(c,b,off,u)∈cf)(hc:c=true)(hf:Fits (List α) u)(hs:look sb=some (dnm ow G x v0 cf))(hq:OpdR M look q (dis u)):∀ (w:World) (a:Act),(∀ s y,look s=some y->y.rd M w (Act.at a s))->RowAt M w (a.eval q) ys:=λ w a hl=>by
 obtain⟨h1,⟨cs,h2,h3⟩,h4⟩:=hl sb _ hs;obtain⟨C,e',hh,hsz,_,G1,G2,_,_,_,_,_,hr,_⟩:=(hP.of h2 h3 h4).here;have hu:=zcb hf hh hsz (h4 _ hm hc).2.2;have hsv:a.eval q=u:=hq w a hl;obtain⟨v,hv,h5⟩:=hr;rw[hv] at hu;have hu:u=v:=hu;rw[hsv,hu];rcases h5 with⟨g,cap,cur,Gr,hg,hb,k1,k2,k3,k4,k5,k6,k7⟩ | ⟨hx0,A,hA⟩
 ·refine⟨_,cap,hg,.inr ⟨g,0,_,Z,λ j u hj=>?_,zca k7⟩⟩;rw[List.getElem?_take] at hj;split at hj
  ·rw[Nat.zero_add];have:cur[j]?=some u:=by simpa using hj
   simp[World.cell?,hb,this]
  ·cases hj
 ·exact⟨A,0,by rw[hA,hx0];rfl,.inl hx0⟩
theorem op_app1{α:Type}[Rep α]{look:Nat->Option Dt}{ys r:List α}(ho:o.op=.call { callee:=.builtin .append,args:=#[q,qx],argTypes:=#[t,t] })(hel:elB P t e (Rep.size α) bytes=true)
  (hs:OpdR M look q (dtip none e ([]:List α))) (hx:∀ (w:World) (a:Act),(∀ s y,look s=some y->y.rd M w (Act.at a s))->RowAt M w (a.eval qx) ys) (hm:appO bytes [] ys=some r):OpRel P M look o (dt r):=
 λ a w hmok hl=>by
  unfold appO at hm;split at hm
  ·rename_i hsz;injection hm with hm;subst hm;have hM:∀ k,insO none M k->M k:=λ k hk=>hk.elim id λ e=>by cases e
   have hx':RowAt (insO none M) w (a.eval qx) ys:=let⟨A,c,h1,h2⟩:=hx w a hl;⟨A,c,h1,h2.imp id λ⟨b,off,cells,hA,hc,hr⟩=>⟨b,off,cells,hA,hc,jJ (λ k _ hk=>hM k hk) hr⟩⟩;obtain⟨v',w',g',hrun,hv',hgr,hg',hlt⟩:=Xj (P:=P) (w:=w) (t:=t) (ty:=o.type) (M0:=M) (g:=none) hel ((dtip none e ([]:List α)).weak (hs w a hl) λ k _ hk=>hM k hk) hx' hsz.1 (by unfold maxLen;omega);have hex:Ext0 w w':=⟨hgr.os,hgr.tape,hgr.output,hgr.size,λ k hk=>hgr.block k hk (by simp)⟩;refine OpOut.of_value (v:=v') (w':=w') ?_ ⟨hex,WM hv' (λ b _ hb=>.inl hb) λ b hb hm=>?_⟩
   ·unfold execOp;simp only[ho,resolve,invoke,builtin,Sem.run_bind,Sem.run_pure,Result.andThen_ok,List.map_toArray,List.map_cons,List.map_nil,hrun]
   ·rcases hg' with h1 | h1
    ·rw[h1] at hb;cases hb
    ·have h2:=h1 b hb;have h3:=hmok b hm;omega
  ·cases hm
theorem op_app0{α:Type}[Rep α]{look:Nat->Option Dt}{ys r:List α}(ho:o.op=.call { callee:=.builtin .append,args:=#[q,qx],argTypes:=#[t,t] })(hel:elB P t e (Rep.size α) bytes=true)
  (hs:OpdR M look q (dtip none e ([]:List α))) (hx:OpdR M look qx (dt ys)) (hm:appO bytes [] ys=some r):OpRel P M look o (dt r):=
 op_app1 ho hel hs (λ w a hl=>xv M w _ (hx w a hl)) hm
section
variable{α β γ:Type}[Rep α][Rep β][Rep γ]
variable{fn:Func}{T:Prop}{look:Nat->Option Dt}
variable{f:Nat}
end
section
variable{fn:Func}
variable{α β γ:Type}[Rep α][Rep β][Rep γ]
variable{e:Nat}
end
structure Pn(α:Type) where
 b:Nat
 x:α
section
variable{α:Type}[Rep α]
instance:Rep (Pn α) where
 size:=1
 agg:=false
 rdc M w cs y:=cs=[.pointer (some ⟨y.b,0,none⟩)]/\(dptr y.x).rd M w (.pointer (some ⟨y.b,0,none⟩))
 len:=λ⟨h,_⟩=>by rw[h];rfl
 one _:=rfl
 pos:=Nat.one_pos
 oneCell:=λ⟨h,_⟩ c hc=>by
  rw[h] at hc;simp at hc;subst hc;rfl
 stable:=λ⟨h,hr⟩ e=>⟨h,(dptr _).stable hr e⟩
 weak:=λ⟨h,hr⟩ e=>⟨h,(dptr _).weak hr e⟩
def Ow.pin(o:Ow α):Ow (Pn α) where
 ro M G w cs y:=∃ (C:Array Value) (e:TypeId) (Gr:Nat->Prop),cs=[.pointer (some ⟨y.b,0,none⟩)]/\w.heap[y.b]?=some (.cells C e (0,0))/\G y.b/\¬ Gr y.b/\(∀ k,Gr k->G k)/\o.ro M Gr w C.toList y.x
 toR:=λ{M G w cs y} ⟨C,e,Gr,hc,hh,hG,hn,hs,hr⟩=>⟨hc,y.b,0,C.toList,Z,λ h=>h.2 hG,λ j u hj=>by
  rw[Nat.zero_add];have:C[j]?=some u:=by simpa using hj
  simp[World.cell?,hh,this],Rep.weak (o.toR hr) λ k _ hk=>⟨hk.1,λ h=>hk.2 (hs k h)⟩⟩
 stable:=λ{M G w w' cs y} ⟨C,e,Gr,hc,hh,hG,hn,hs,hr⟩ k=>⟨C,e,Gr,hc,(k y.b (wP hh) (.inr hG)).trans hh,hG,hn,hs,o.stable hr (k.sub hs)⟩
 weak:=λ⟨C,e,Gr,hc,hh,hG,hn,hs,hr⟩ k=>⟨C,e,Gr,hc,hh,hG,hn,hs,o.weak hr k⟩
 more:=λ{M G G' w cs y} ⟨C,e,Gr,hc,hh,hG,hn,hs,hr⟩ k=>⟨C,e,Gr,hc,hh,k y.b hG,hn,λ i hi=>k i (hs i hi),hr⟩
theorem Ow.pin_box{o:Ow α}{cs:List Value}{y:Pn α}(h:o.pin.ro M G w cs y):o.box.ro M G w cs ⟨y.x⟩:=
 let⟨C,e,Gr,h⟩:=h;⟨y.b,C,e,Gr,h⟩
theorem Ow.box_pin{o:Ow α}{cs:List Value}{y:Bx α}(h:o.box.ro M G w cs y)(hc:cs=[.pointer (some ⟨b,0,none⟩)]):o.pin.ro M G w cs ⟨b,y.x⟩:=by
 obtain⟨b',C,e,Gr,h1,h2⟩:=h;rw[hc] at h1;have e2:b'=b:=by injection h1 with h1;injection h1 with h1;injection h1 with h1;injection h1 with h1;exact h1.symm
 subst e2;exact⟨C,e,Gr,hc,h2⟩
variable{β:Type}[Rep β]
theorem VP.mono{oy:Ow β}{c:List Value}{y:β}{R R':(Nat->Prop)->(Nat->Prop)->World->β->Prop}(h:VP oy M G w c y R)(hR:∀ {M' G':Nat->Prop} {w':World} {y':β},R M' G' w' y'->R' M' G' w' y'):VP oy M G w c y R':=by
 obtain⟨G1,G2,s1,s2,hd,hr,put⟩:=h;exact⟨G1,G2,s1,s2,hd,hr,λ hL hy h1 h2 h3=>hR (put hL hy h1 h2 h3)⟩
theorem HP.mono{oy:Ow β}{y:β}{R R':(Nat->Prop)->(Nat->Prop)->World->β->Prop}(h:HP oy M G w b off y R)(hR:∀ {M' G':Nat->Prop} {w':World} {y':β},R M' G' w' y'->R' M' G' w' y'):HP oy M G w b off y R':=by
 obtain⟨G1,G2,C,e,s1,s2,hb,n1,n2,hd,hh,hsz,hr,put⟩:=h;exact⟨G1,G2,C,e,s1,s2,hb,n1,n2,hd,hh,hsz,hr,λ hL hh' hy nb h1 g0 h2 h3=>hR (put hL hh' hy nb h1 g0 h2 h3)⟩
theorem VP.toBox{o:Ow α}{c:List Value}{y:Pn α}{R:(Nat->Prop)->(Nat->Prop)->World->Pn α->Prop}(h:VP o.pin M G w c y R):c=[.pointer (some ⟨y.b,0,none⟩)]/\VP o.box M G w c ⟨y.x⟩ (λ M' G' w' z=>R M' G' w' ⟨y.b,z.x⟩):=by
 obtain⟨G1,G2,s1,s2,hd,hr,put⟩:=h;obtain⟨C,e,Gr,hc,hk⟩:=hr;exact⟨hc,G1,G2,s1,s2,hd,Ow.pin_box ⟨C,e,Gr,hc,hk⟩,λ hL hy h1 h2 h3=>put hL (Ow.box_pin hy hc) h1 h2 h3⟩
theorem HP.pin{o:Ow α}{y:Pn α}{R:(Nat->Prop)->(Nat->Prop)->World->Pn α->Prop}(h:HP o.pin M G w b off y R):w.cell? ⟨b,off,none⟩=some (.pointer (some ⟨y.b,0,none⟩))/\HP o M G w y.b 0 y.x (λ M' G' w' z=>R M' G' w' ⟨y.b,z⟩):=by
 obtain⟨C,e,hh,hsz,hv⟩:=h.vp;obtain⟨hc,hb⟩:=hv.toBox;obtain⟨b',hc',hp⟩:=hb.box;rw[hc] at hc';have e2:b'=y.b:=by injection hc' with h1;injection h1 with h1;injection h1 with h1;injection h1 with h1;exact h1.symm
 subst e2;exact⟨by simp[World.cell?,hh,WV hc],hp⟩
theorem zip_set{τ:Type}{bs:List Nat}{xs:List τ}{y:τ}(h:bs[k]?=some b):(List.zipWith Pn.mk bs xs).set k ⟨b,y⟩=List.zipWith Pn.mk bs (xs.set k y):=by
 apply List.ext_getElem?;intro i;by_cases hi:k=i
 ·subst hi;by_cases hx:k<xs.length
  ·have hb:k<bs.length:=zG h;rw[List.getElem?_set_self (by rw[List.length_zipWith];omega),List.getElem?_zipWith_eq_some.2 ⟨b,y,h,by rw[List.getElem?_set_self hx],Z⟩]
  ·rw[List.getElem?_eq_none_iff.2 (by rw[List.length_set,List.length_zipWith];omega),List.getElem?_eq_none_iff.2 (by rw[List.length_zipWith,List.length_set];omega)]
 ·rw[List.getElem?_set_ne hi,List.getElem?_zipWith,List.getElem?_zipWith,List.getElem?_set_ne hi]
theorem zaI{τ:Type}{bs:List Nat}{xs:List (Bx τ)}(h:bs.length=xs.length):(List.zipWith Pn.mk bs (xs.map Bx.x)).length=xs.length:=by
 rw[List.length_zipWith,List.length_map];omega
theorem rowR_pin{M:Nat->Prop}{w:World}:∀ {bs:List Nat} {xs:List (Bx α)} {cells:List Value},bs.length=xs.length->rowR M w cells (List.zipWith Pn.mk bs (xs.map Bx.x))->rowR M w cells xs
 | [],[],_,_,h=>h
 |b::bs,x::xs,cells,hl,h=>by
  obtain⟨c,r,h1,⟨h2,h3⟩,h4⟩:=h;exact⟨c,r,h1,⟨_,h2,h3⟩,rowR_pin (by simpa using hl) h4⟩
 | [],_::_,_,hl,_=>by simp at hl
 | _::_,[],_,hl,_=>by simp at hl
def Ow.rowF(φ:List Nat->Prop)(e:TypeId)(o:Ow α):Ow (List (Bx α)) where
 ro M G w cs xs:=∃ bs:List Nat,bs.length=xs.length/\φ bs/\(Ow.row e o.pin).ro M G w cs (List.zipWith Pn.mk bs (xs.map Bx.x))
 toR:=λ{M G w cs xs} ⟨bs,hl,_,h⟩=>by
  obtain⟨A,c,h1,h2,h3,h4⟩:=(Ow.row e o.pin).toR h;rw[zaI hl] at h1 h2;refine⟨A,c,h1,h2,h3,?_⟩;rcases h4 with h4 | ⟨b,o',cells,ha,hb,hc,hr⟩
  ·have:=congrArg List.length h4;rw[zaI hl,List.length_nil] at this;exact .inl (List.length_eq_zero_iff.1 this)
  ·exact .inr ⟨b,o',cells,ha,hb,hc,rowR_pin hl hr⟩
 stable:=λ⟨bs,hl,hp,h⟩ k=>⟨bs,hl,hp,(Ow.row e _).stable h k⟩
 weak:=λ⟨bs,hl,hp,h⟩ k=>⟨bs,hl,hp,(Ow.row e _).weak h k⟩
 more:=λ⟨bs,hl,hp,h⟩ k=>⟨bs,hl,hp,(Ow.row e _).more h k⟩
def pinsOf(ps:List (Nat×Nat))(bs:List Nat):Prop:=∀ q∈ps,bs[q.1]?=some q.2
def laxOf(ps:List (Nat×Nat))(n b:Nat)(bs:List Nat):Prop:=pinsOf ps bs/\(n<bs.length->bs[n]?=some b)
abbrev Ow.rowP(ps:List (Nat×Nat))(e:TypeId)(o:Ow α):Ow (List (Bx α)):=Ow.rowF (pinsOf ps) e o
variable{o:Ow α}
def Imp{γ:Type}[Rep γ](o1 o2:Ow γ)(x:γ):Prop:=∀ {M G:Nat->Prop} {w:World} {cs:List Value},o1.ro M G w cs x->o2.ro M G w cs x
def ImpE{γ:Type}[Rep γ](o1:Ow γ)(o2:Nat->Ow γ)(x:γ):Prop:=∀ {M G:Nat->Prop} {w:World} {cs:List Value},o1.ro M G w cs x->∃ b,(o2 b).ro M G w cs x
variable{o1:Ow α}{γ δ:Type}
theorem wm{o2:Ow α}{x:Bx α}(h:Imp o1 o2 x.x):Imp o1.box o2.box x:=λ⟨b,C,e,Gr,h1,h2,h3,h4,h5,h6⟩=>⟨b,C,e,Gr,h1,h2,h3,h4,h5,h h6⟩
theorem Ya{o2:Nat->Ow α}{x:Bx α}(h:ImpE o1 o2 x.x):ImpE o1.box (λ b=>(o2 b).box) x:=λ⟨b,C,e,Gr,h1,h2,h3,h4,h5,h6⟩=>let⟨b',h7⟩:=h h6;⟨b',b,C,e,Gr,h1,h2,h3,h4,h5,h7⟩
theorem imp_via[Rep γ]{f:δ->γ}{o1 o2:Ow γ}{x:δ}(h:Imp o1 o2 (f x)):@Imp δ (Rep.iso f) (Ow.via f o1) (Ow.via f o2) x:=λ hr=>h hr
theorem impE_via[Rep γ]{f:δ->γ}{o1:Ow γ}{o2:Nat->Ow γ}{x:δ}(h:ImpE o1 o2 (f x)):@ImpE δ (Rep.iso f) (Ow.via f o1) (λ b=>Ow.via f (o2 b)) x:=λ hr=>h hr
section
variable{β γ:Type}[Rep β][Rep γ]
theorem imp_fst{o1 o2:Ow β}{c:Ow γ}{x:β×γ}(h:Imp o1 o2 x.1):Imp (o1.pr c) (o2.pr c) x:=λ⟨G1,G2,c1,c2,h1,h2,h3,h4,h5,h6⟩=>⟨G1,G2,c1,c2,h1,h2,h3,h4,h h5,h6⟩
theorem imp_snd{o1 o2:Ow γ}{c:Ow β}{x:β×γ}(h:Imp o1 o2 x.2):Imp (c.pr o1) (c.pr o2) x:=λ⟨G1,G2,c1,c2,h1,h2,h3,h4,h5,h6⟩=>⟨G1,G2,c1,c2,h1,h2,h3,h4,h5,h h6⟩
theorem impE_fst{o1:Ow β}{o2:Nat->Ow β}{c:Ow γ}{x:β×γ}(h:ImpE o1 o2 x.1):ImpE (o1.pr c) (λ b=>(o2 b).pr c) x:=λ⟨G1,G2,c1,c2,h1,h2,h3,h4,h5,h6⟩=>let⟨b,h7⟩:=h h5;⟨b,G1,G2,c1,c2,h1,h2,h3,h4,h7,h6⟩
theorem zcd{o1:Ow γ}{o2:Nat->Ow γ}{c:Ow β}{x:β×γ}(h:ImpE o1 o2 x.2):ImpE (c.pr o1) (λ b=>c.pr (o2 b)) x:=λ⟨G1,G2,c1,c2,h1,h2,h3,h4,h5,h6⟩=>let⟨b,h7⟩:=h h6;⟨b,G1,G2,c1,c2,h1,h2,h3,h4,h5,h7⟩
end
def pinI(c:Bool)(k b:Nat)(ps:List (Nat×Nat)):List (Nat×Nat):=if c=true then(k,b)::ps else ps
theorem pinI_at(h:c=true):(k,b)∈pinI c k b ps:=by unfold pinI;rw[Ke h];exact .head _
theorem pinI_of{q:Nat×Nat}(h:q∈ps):q∈pinI c k b ps:=by
 unfold pinI;split
 ·exact .tail _ h
 ·exact h
theorem impE_pinI{xs:List (Bx α)}(hk:c=true->k<xs.length):ImpE (Ow.rowP ps e o) (λ b=>Ow.rowP (pinI c k b ps) e o) xs:=
 λ⟨bs,hl,hp,hr⟩=>by
  cases c with
  | false=>exact⟨0,bs,hl,λ q hq=>hp q hq,hr⟩
  |true=>have hk:=hk Z;exact⟨bs[k],bs,hl,λ q hq=>(List.mem_cons.1 hq).elim (λ e=>by rw[e];exact List.getElem?_eq_getElem (by omega)) (hp q),hr⟩
theorem xE{xs:List (Bx α)}(hs:∀ q∈ps',q∈ps):Imp (Ow.rowP ps e o) (Ow.rowP ps' e o) xs:=
 λ⟨bs,hl,hp,hr⟩=>⟨bs,hl,λ q hq=>hp q (hs q hq),hr⟩
theorem YC{xs:List (Bx α)}(hk:k<xs.length):ImpE (Ow.rowP ps e o) (λ b=>Ow.rowP ((k,b)::ps) e o) xs:=
 λ⟨bs,hl,hp,hr⟩=>⟨bs[k],bs,hl,λ q hq=>(List.mem_cons.1 hq).elim (λ e=>by rw[e];exact List.getElem?_eq_getElem (by omega)) (hp q),hr⟩
theorem imp_lax{xs:List (Bx α)}:Imp (Ow.rowP ps e o) (Ow.rowF (laxOf ps xs.length b) e o) xs:=
 λ⟨bs,hl,hp,hr⟩=>⟨bs,hl,⟨hp,λ h=>by omega⟩,hr⟩
theorem imp_strict{xs:List (Bx α)}{n:Nat}(hn:n<xs.length):Imp (Ow.rowF (laxOf ps n b) e o) (Ow.rowP ((n,b)::ps) e o) xs:=
 λ⟨bs,hl,hp,hr⟩=>⟨bs,hl,λ q hq=>(List.mem_cons.1 hq).elim (λ e=>by rw[e];exact hp.2 (by omega)) (hp.1 q),hr⟩
theorem Ow.rowP_z{P:Nat->Prop}{cs:List Value}(h:(Ow.row e o.pin).ro P noB w cs []):(Ow.rowP [] e o).ro P noB w cs []:=⟨[],Z,(λ _ h=>nomatch h),h⟩
theorem VP.rowF{c:List Value}{xs:List (Bx α)}{R:(Nat->Prop)->(Nat->Prop)->World->List (Bx α)->Prop}{k bk:Nat}{z:Bx α}(h:VP (Ow.rowF φ e o) M G w c xs R)(hk:∀ bs,φ bs->bs[k]?=some bk)(hz:xs[k]?=some z):∃ g cap,c=[.slice (some ⟨g,0,none⟩) xs.length cap]/\HP o.pin M G w g k ⟨bk,z.x⟩ (λ M' G' w' y'=>y'.b=bk->R M' G' w' (xs.set k ⟨y'.x⟩)):=by
 obtain⟨G1,G2,s1,s2,hd,⟨bs,hl,hp,hr⟩,put⟩:=h;have hb:bs[k]?=some bk:=hk bs hp;have hzz:(List.zipWith Pn.mk bs (xs.map Bx.x))[k]?=some ⟨bk,z.x⟩:=by
  rw[List.getElem?_zipWith_eq_some];exact⟨bk,z.x,hb,by rw[List.getElem?_map,hz];rfl,Z⟩
 have h0:VP (Ow.row e o.pin) M G w c (List.zipWith Pn.mk bs (xs.map Bx.x)) (λ M' G' w' ys=>∀ xs':List (Bx α),xs'.length=xs.length->ys=List.zipWith Pn.mk bs (xs'.map Bx.x)->R M' G' w' xs'):=
  ⟨G1,G2,s1,s2,hd,hr,λ hL hy h1 h2 h3=>λ xs' hl' hxs=>put hL ⟨bs,by omega,hp,by rw[← hxs];exact hy⟩ h1 h2 h3⟩
 obtain⟨g,cap,hc,hq⟩:=h0.row hzz;rw[zaI hl] at hc;rw[show Rep.size (Pn α)=1 from Z,Nat.mul_one] at hq;refine⟨g,cap,hc,hq.mono λ{M' G' w' y'} h5 e5=>?_⟩;obtain⟨b',y'⟩:=y';subst e5;exact h5 (xs.set k ⟨y'⟩) (by rw[List.length_set]) (by rw[zip_set hb,List.map_set])
theorem HP.rowF{xs:List (Bx α)}{R:(Nat->Prop)->(Nat->Prop)->World->List (Bx α)->Prop}{k bk:Nat}{z:Bx α}(h:HP (Ow.rowF φ e o) M G w b off xs R)(hk:∀ bs,φ bs->bs[k]?=some bk)(hz:xs[k]?=some z):∃ g cap,w.cell? ⟨b,off,none⟩=some (.slice (some ⟨g,0,none⟩) xs.length cap)/\HP o.pin M G w g k ⟨bk,z.x⟩ (λ M' G' w' y'=>y'.b=bk->R M' G' w' (xs.set k ⟨y'.x⟩)):=by
 obtain⟨C,e,hh,hsz,hv⟩:=h.vp;obtain⟨g,cap,hc,h1⟩:=hv.rowF hk hz;exact⟨g,cap,by simp[World.cell?,hh,WV hc],h1⟩
theorem HP.rowF_cell{xs:List (Bx α)}{R:(Nat->Prop)->(Nat->Prop)->World->List (Bx α)->Prop}(h:HP (Ow.rowF φ e o) M G w b off xs R):∃ (g:Nat) (A:Option Addr) (cap:Nat),(xs.length≠0->A=some ⟨g,0,none⟩)/\w.cell? ⟨b,off,none⟩=some (.slice A xs.length cap):=by
 obtain⟨C,e',hh,hsz,hv⟩:=h.vp;obtain⟨G1,G2,s1,s2,hd,⟨bs,hl,hp,hr⟩,put⟩:=hv;have h0:VP (Ow.row e o.pin) M G w ((C.toList.drop off).take (Rep.size (List (Pn α)))) (List.zipWith Pn.mk bs (xs.map Bx.x)) (λ _ _ _ _=>True):=⟨G1,G2,s1,s2,hd,hr,λ _ _ _ _ _=>trivial⟩;obtain⟨_,_,_,_,_,hr,_⟩:=h0;obtain⟨v,hv,h3⟩:=hr;have e1:w.cell? ⟨b,off,none⟩=some v:=by simp[World.cell?,hh,WV hv]
 rcases h3 with⟨g,cap,cur,Gr,hg,h4⟩ | ⟨hx,A,hA⟩
 ·rw[zaI hl] at hg;exact⟨g,_,cap,λ _=>Z,by rw[e1,hg]⟩
 ·have e2:=congrArg List.length hx;rw[zaI hl,List.length_nil] at e2;exact⟨0,A,0,λ hne=>absurd e2 hne,by rw[e1,hA,e2]⟩
theorem pins_at(hk:(k,bk)∈ps):∀ bs,pinsOf ps bs->bs[k]?=some bk:=λ _ h=>h _ hk
theorem PH.rowP{γ:Type}[Rep γ]{ow:Ow γ}{x:γ}{v0:Value}{cf:CF}{b off:Nat}{ys:List (Bx α)}{upd:List (Bx α)->γ}(h:PH ow x v0 cf (Ow.rowP ps e o) b off ys upd){k bk:Nat}{z:Bx α}(hk:(k,bk)∈ps)(hz:ys[k]?=some z):PH ow x v0 cf o bk 0 z.x (λ y'=>upd (ys.set k ⟨y'⟩)):=
 ⟨λ h1 h2 h3=>let⟨_,_,_,h4⟩:=(h.of h1 h2 h3).rowF (pins_at hk) hz;h4.pin.2.mono λ h5=>h5 Z⟩
end
section
variable{fn:Func}{op:Oper}{T:Prop}
variable{α γ:Type}[Rep α][Rep γ]{look:Nat->Option Dt}{o:Ow α}
variable{o1:Ow γ}{ys:List (Bx α)}
theorem Sx.hdF{ow:Ow γ}{x:γ}{upd:List (Bx α)->γ}(h:Sx F N M0 M Gs L O a w)(p:Nat)(c:Bool)(hP:c=true->PH ow x v0 cf (Ow.rowF φ e o) b off ys upd)(qs:List Nat)
  (next:∀ (g:Nat) (A:Option Addr) (cap:Nat),(ys.length≠0->c=true->A=some ⟨g,0,none⟩)->Sx F N M0 M Gs L ((s,p,dnm ow G x v0 ((c,b,off,.slice A ys.length cap)::cf))::O2) a w->T)(hs:(L++envO O).lookup s=some (dnm ow G x v0 cf):=by rfl)(hn:L.lookup s=none:=by rfl)(hG:∀ b,G b->zp Gs p b:=by exact λ _ h=>h)(hq:selR L O qs p=some O2:=by rfl):T:=by
 obtain⟨h1,⟨cs,h2,h3⟩,h4⟩:=h.st.has s _ hs;have:∃ (g:Nat) (A:Option Addr) (cap:Nat),(ys.length≠0->c=true->A=some ⟨g,0,none⟩)/\(c=true->G b/\b<w.heap.size/\Qe w b off (.slice A ys.length cap)):=by
  cases c with
  | false=>exact⟨0,none,0,⟨(λ _ h=>nomatch h),(λ h=>nomatch h)⟩⟩
  |true=>have hp:=(hP Z).of h2 h3 h4;obtain⟨_,_,hh,_,hGb,_⟩:=hp.here;obtain⟨g,A,cap,hA,hc⟩:=hp.rowF_cell;exact⟨g,A,cap,λ h _=>hA h,λ _=>⟨hGb,wP hh,hc⟩⟩
 obtain⟨g,A,cap,hA,hb'⟩:=this;refine next g A cap hA ((h.drop hq).addO hn ⟨h1,⟨cs,h2,h3⟩,λ q hq' hb=>?_⟩ hG);rcases List.mem_cons.1 hq' with rfl | hq'
 ·exact hb' hb
 ·exact h4 q hq' hb
theorem xLdP{ow:Ow γ}{k' g n cap:Nat}{x:γ}{upd:List (Bx α)->γ}{z:Bx α}(hP:PH ow x v0 cf (Ow.rowP ps e o) b off ys upd)(hh:(c,b,off,.slice A n cap)∈cf)(hc:c=true)(hA:n≠0->A=some ⟨g,0,none⟩)(hk:(k,bk)∈ps)(hz:ys[k]?=some z)(hkk:k'=k)(ho:op.op=.load t q)(ht:tyB P t false 1=true)(hq:OpdR M look q (dis (.pointer (some ⟨g,k',none⟩))))(hs:look sb=some (dnm ow G x v0 cf)):OpRel P M look op (dis (.pointer (some ⟨bk,0,none⟩))):=
 zF λ a w _ hl=>by
  subst hkk;obtain⟨h1,⟨cs,h2,h3⟩,h4⟩:=hl sb _ hs;obtain⟨g',cap',e1,hpin⟩:=(hP.of h2 h3 h4).rowF (pins_at hk) hz;obtain⟨e2,_⟩:=hpin.pin;have e3:w.cell? _=some _:=(h4 _ hh hc).2.2;simp only at e3;rw[e1] at e3;injection e3 with e3;injection e3 with e4 e5 e6;have hlt:=zG hz;rw[hA (by omega)] at e4;have e7:g'=g:=by injection e4 with e4;injection e4 with e4
  subst e7;have hv:a.eval q=.pointer (some ⟨g',k',none⟩):=hq w a hl;refine⟨.pointer (some ⟨bk,0,none⟩),?_,Z⟩;have:=xZ (P:=P) (w:=w) (t:=t) (b:=g') (o:=k') (cs:=[.pointer (some ⟨bk,0,none⟩)]) (agg:=false) (size:=1) ht Z (λ _=>Z) (λ j u hj=>by
   cases j with
   | zero=>simp at hj;subst hj;simpa using e2
   | succ j=>simp at hj)
  unfold execOp;rw[ho];simp[Instr.loadAt,Instr.sureAddr,hv,this,mkv]
theorem Sx.asO{o2:Ow γ}{x:γ}(h:Sx F N M0 M Gs L O a w)(p:Nat)(hs:(L++envO O).lookup s=some (dnm o1 G x v0 cf))(hn:L.lookup s=none)(hG:∀ b,G b->zp Gs p b)(hw:Imp o1 o2 x)(qs:List Nat)(hq:selR L O qs p=some O2):Sx F N M0 M Gs L ((s,p,dnm o2 G x v0 cf)::O2) a w:=by
 obtain⟨h1,⟨cs,h2,h3⟩,h4⟩:=h.st.has s _ hs;exact(h.drop hq).addO hn ⟨h1,⟨cs,hw h2,h3⟩,h4⟩ hG
theorem Sx.mintP{ow:Nat->Ow γ}{x:γ}(h:Sx F N M0 M Gs L O a w)(p:Nat)(hw:ImpE o1 ow x)(qs:List Nat)(next:∀ b:Nat,Sx F N M0 M Gs L ((s,p,dnm (ow b) G x v0 cf)::O2) a w->T)(hs:(L++envO O).lookup s=some (dnm o1 G x v0 cf):=by rfl)(hn:L.lookup s=none:=by rfl)(hG:∀ b,G b->zp Gs p b:=by exact λ _ h=>h)(hq:selR L O qs p=some O2:=by rfl):T:=by
 obtain⟨h1,⟨cs,h2,h3⟩,h4⟩:=h.st.has s _ hs;obtain⟨b,h5⟩:=hw h2;exact next b ((h.drop hq).addO hn ⟨h1,⟨cs,h5,h3⟩,h4⟩ hG)
theorem appO_spec{β β':Type}{xs ys r:List β}{xs' ys':List β'}(h:appO by_ xs ys=some r)(h1:xs'.length=xs.length)(h2:ys'.length=ys.length):r=xs++ys/\appO by_ xs' ys'=some (xs'++ys'):=by
 unfold appO at h ⊢;rw[h1,h2];split at h
 ·rename_i hc;injection h with h;exact⟨h.symm,by rw[Ke hc]⟩
 ·cases h
theorem rowF_app{cs:List Value}{bs:List Nat}{xs:List (Bx α)}{y:α}(hl:bs.length=xs.length)(hp:laxOf ps xs.length b bs)(h:(Ow.row e o.pin).ro M G w cs (List.zipWith Pn.mk bs (xs.map Bx.x)++[⟨b,y⟩])):(Ow.rowF (laxOf ps xs.length b) e o).ro M G w cs (xs++[⟨y⟩]):=by
 refine⟨bs++[b],by simp[hl],⟨λ q hq=>?_,λ _=>?_⟩,?_⟩
 ·have h1:=hp.1 q hq;rw[List.getElem?_append_left (zG h1)];exact h1
 ·rw[← hl];simp
 ·rw[List.map_append,List.zipWith_append (by rw[List.length_map];exact hl)];exact h
theorem Sx.headO{X Y:Dt}(h:Sx F N M0 M Gs L ((d,p,X)::O) a w)(hdn:L.lookup d=none)(hx:X.rd M w (Act.at a d)->Y.rd M w (Act.at a d))(ho:∀ b,Y.own b->X.own b):Sx F N M0 M Gs L ((d,p,Y)::O) a w:=by
 refine⟨⟨h.st.fr,h.st.size,h.st.defers,h.st.mok,λ s y hy=>?_⟩,h.ob,h.no,λ b hb=>h.ow.1 b (ho b hb),h.ow.2⟩;rcases yF hy with h1 | ⟨h0,h1⟩
 ·exact h.st.has s y (xm h1)
 ·simp only[envO,List.lookup_cons] at h1;cases hb:s == d with
  |true=>
   simp only[hb] at h1;injection h1 with h1;subst h1;have e:s=d:=by simpa using hb
   subst e;exact hx (h.st.has s X (by rw[yt h0];simp[envO]))
  |false=>simp only[hb] at h1;exact h.st.has s y (by rw[yt h0];simp[envO,List.lookup_cons,hb,h1])
theorem Sx.appP{x n:Nat}{e2:TypeId}{xs r:List (Bx α)}{y:α}(h:Sx F N M0 M Gs L O a w)(p p2:Nat)(hh:opH op N=some d)
  (ho:op.op=.call { callee:=.builtin .append,args:=#[.tmp s,.tmp x],argTypes:=#[t,t] }) (hel:elB P t e 1 bytes=true)
  (hs:(L++envO O).lookup s=some (dow (Ow.rowF (laxOf ps n b) e o) G1 xs)) (hn:n=xs.length) (hx:(L++envO O).lookup x=some (dow (Ow.row e2 o.pin) G2 [⟨b,y⟩]))    (hG1:∀ b,G1 b->zp Gs p b) (hG2:∀ b,G2 b->zp Gs p2 b) (hm:appO bytes xs [⟨y⟩]=some r)
  (ks:List Nat) (hk:selP ks L=some L2) (qs:List Nat) (hq:selR L O qs p=some O2) (hO:O2.all (λ q=>q.2.1 != p2)=true) (hdn:L2.lookup d=none)
  (next:∀ G' M' a' w',n<r.length->Sx F N M0 M' ((Gs.set p G').set p2 (oneB none)) L2 ((d,p,dow (Ow.rowF (laxOf ps n b) e o) G' r)::O2) a' w'->wpList P ops Q rest a' w')(hp:p<Gs.length:=by simp)(hp2:p2<Gs.length:=by simp)(hne:p≠p2:=by decide):wpList P ops Q (op::rest) a w:=by
 subst hn;obtain⟨cs,⟨bs,hl,hφ,hr⟩,hv⟩:=h.st.has s _ hs;obtain⟨e1,e2⟩:=appO_spec (xs':=List.zipWith Pn.mk bs (xs.map Bx.x)) (ys':=[(⟨b,y⟩:Pn α)]) hm (zaI hl) Z;subst e1;refine h.appR p p2 hh ho (oe:=o.pin) hel ⟨cs,hr,hv⟩ (h.st.has x _ hx) hp hp2 hne hG1 hG2 e2 ks hk qs hq hO hdn λ G' M' a' w' st=>next G' M' a' w' (by simp) (st.headO hdn (λ⟨cs',k1,k2⟩=>⟨cs',rowF_app hl hφ k1,k2⟩) λ _ h=>h)
end
section
variable{fn:Func}
variable{α β γ:Type}[Rep α][Rep β][Rep γ]
variable{oo:Ow α}
theorem Sx.rs0{x xr:α}(h:Sx (Frm.chg w0 G) N M0 M Gs L O a w)(p:Nat)(hm:some x=some xr)(hr:fn.results=#[]:=by rfl)(hs:(L++envO O).lookup s=some (dnm oo G' x v0 cf):=by rfl)(hG:∀ b,G' b->zp Gs p b:=by exact λ _ h=>h):
  bodyPost P fn (RetS M0 w0 G v0 oo xr .gone) .ret a w/\bodyPost P fn (RetS M0 w0 G v0 oo xr .gone) .normal a w:=by
 injection hm with hm;subst hm;obtain⟨k1,⟨cs,k2,k3⟩,_⟩:=h.st.has s _ hs;have hM:∀ k,k<w.heap.size->(M0 k\/G' k)\/noB k->M k:=λ k _ hk=>hk.elim (λ hk=>hk.elim (h.ob.sub k) λ hk=>(h.ob.at_ p k (hG k hk)).2.1) λ h=>h.elim
 have key:bodyPost P fn (RetS M0 w0 G v0 oo x .gone) .ret a w:=⟨h.st.defers,_,results_none hr a.tmps P w,_,G',noB,Z,h.st.fr,λ b hb=>(h.ob.at_ p b (hG b hb)).1,λ _ h=>h.elim,λ _ _ h=>h,λ b hb=>hb.elim (λ hb=>h.st.mok b (h.ob.at_ p b (hG b hb)).2.1) λ h=>h.elim,⟨cs,oo.weak k2 hM,k3⟩,trivial⟩;exact⟨key,key⟩
theorem Sx.rs2{t u:Nat}{x xr:α}{y:β}{z:γ}{r:β×γ}(h:Sx (Frm.chg w0 G) N M0 M Gs L O a w)(p:Nat)(hr:fn.results=#[.tmp t,.tmp u])(hl:(L++envO O).lookup t=some (dt y))(hl2:(L++envO O).lookup u=some (dt z))(hs:(L++envO O).lookup s=some (dnm oo G' x v0 cf))(hG:∀ b,G' b->zp Gs p b)
  (hm:some (x,y,z)=some (xr,r)):bodyPost P fn (RetS M0 w0 G v0 oo xr (.frz (dtup [dt r.1,dt r.2]))) .ret a w:=by
 injection hm with hm;injection hm with h1 h2;subst h1;subst h2;obtain⟨k1,⟨cs,k2,k3⟩,_⟩:=h.st.has s _ hs;have hM:∀ k,k<w.heap.size->(M0 k\/G' k)\/noB k->M k:=λ k _ hk=>hk.elim (λ hk=>hk.elim (h.ob.sub k) λ hk=>(h.ob.at_ p k (hG k hk)).2.1) λ h=>h.elim
 exact⟨h.st.defers,_,results_tmp2 hr a.tmps P w,_,G',noB,Z,h.st.fr,λ b hb=>(h.ob.at_ p b (hG b hb)).1,λ _ h=>h.elim,λ _ _ h=>h,λ b hb=>hb.elim (λ hb=>h.st.mok b (h.ob.at_ p b (hG b hb)).2.1) λ h=>h.elim,
  ⟨cs,oo.weak k2 hM,k3⟩,⟨[_,_],Z,.cons ((dt y).weak (h.st.has t _ hl) hM) (.cons ((dt z).weak (h.st.has u _ hl2) hM) .nil),λ q hq=>by
   simp only[List.mem_cons,List.not_mem_nil,or_false] at hq;rcases hq with rfl | rfl <;> rfl⟩,Z⟩
end
structure FnV(α β:Type) where
 g:α->Option β
structure Nilf where
deriving Inhabited
structure Np(α:Type) where
 o:Option α
instance {α β:Type}:Inhabited (FnV α β):=⟨⟨λ _=>none⟩⟩
instance {α:Type}:Inhabited (Np α):=⟨⟨none⟩⟩
instance {α:Type} [Inhabited α]:Inhabited (Bx α):=⟨⟨default⟩⟩
section
variable{α β γ:Type}[Rep α][Rep β][Rep γ]
instance:Rep (FnV α β) where
 size:=1
 agg:=false
 rdc M w cs x:=∃ v,cs=[v]/\(dfn1 Tryz.prog x.g).rd M w v
 len:=λ⟨_,h,_⟩=>by rw[h];rfl
 one _:=rfl
 pos:=Nat.one_pos
 oneCell:=λ⟨v,h,f,caps,ds,hv,_⟩ c hc=>by
  rw[h] at hc;simp at hc;subst hc;rw[hv];rfl
 stable:=λ⟨v,h,hr⟩ e=>⟨v,h,(dfn1 _ _).stable hr e⟩
 weak:=λ⟨v,h,hr⟩ e=>⟨v,h,(dfn1 _ _).weak hr e⟩
instance:Rep Nilf where
 size:=1
 agg:=false
 rdc _ _ cs _:=cs=[.nilFunc]
 len h:=by rw[h];rfl
 one _:=rfl
 pos:=Nat.one_pos
 oneCell:=λ h c hc=>by
  rw[h] at hc;simp at hc;subst hc;rfl
 stable h _:=h
 weak h _:=h
def npR(M:Nat->Prop)(w:World)(cs:List Value):Option α->Prop
 | none=>cs=[.pointer none]
 | some x=>∃ v,cs=[v]/\(dptr x).rd M w v
instance:Rep (Np α) where
 size:=1
 agg:=false
 rdc M w cs x:=npR M w cs x.o
 len:=λ{M w cs x} h=>by
  revert h
  cases x.o with
  | none=>intro h;rw[show cs=_ from h];rfl
  | some y=>rintro ⟨v,h,_⟩;rw[h];rfl
 one _:=rfl
 pos:=Nat.one_pos
 oneCell:=λ{M w cs x} h c hc=>by
  revert h
  cases x.o with
  |none=>intro h;rw[show cs=_ from h] at hc;simp at hc;subst hc;rfl
  |some y=>
   rintro ⟨v,h,b,o,_,hv,_⟩
   rw[h] at hc;simp at hc;subst hc;rw[hv];rfl
 stable:=λ{M w w' cs x} h e=>by
  revert h
  cases x.o with
  | none=>exact id
  | some y=>rintro ⟨v,h,hr⟩;exact⟨v,h,(dptr _).stable hr e⟩
 weak:=λ{M M' w cs x} h e=>by
  revert h
  cases x.o with
  | none=>exact id
  | some y=>rintro ⟨v,h,hr⟩;exact⟨v,h,(dptr _).weak hr e⟩
theorem fnv_dt{x:FnV α β}:(dt x).rd M w v ↔ (dfn1 Tryz.prog x.g).rd M w v:=
 ⟨λ⟨_,⟨u,h,hr⟩,hv⟩=>by rw[hv,h];exact hr,λ h=>⟨[v],⟨v,Z,h⟩,Z⟩⟩
theorem nilf_dt{x:Nilf}:(dt x).rd M w v ↔ dnilf.rd M w v:=
 ⟨λ⟨_,h,hv⟩=>by rw[hv,show _=_ from h];rfl,λ h=>⟨[v],by rw[show v=_ from h];rfl,Z⟩⟩
theorem np_some{x:α}:(dt (⟨some x⟩:Np α)).rd M w v ↔ (dptr x).rd M w v:=
 ⟨λ⟨_,⟨u,h,hr⟩,hv⟩=>by rw[hv,h];exact hr,λ h=>⟨[v],⟨v,Z,h⟩,Z⟩⟩
theorem np_none:(dt (⟨none⟩:Np α)).rd M w v ↔ v=.pointer none:=
 ⟨λ⟨_,h,hv⟩=>by rw[hv,show _=_ from h];rfl,λ h=>⟨[v],by rw[h];rfl,Z⟩⟩
theorem zrNilf(M:Nat->Prop)(w:World):Rep.rdc M w [Value.nilFunc] (⟨⟩:Nilf):=rfl
variable{fn:Func}{T:Prop}{look:Nat->Option Dt}
variable{oy:Ow β}
theorem OpRel.mono{x y:Dt}(h:OpRel P M look o x)(hxy:∀ {w:World} {v:Value},x.rd M w v->y.rd M w v):OpRel P M look o y:=λ a w hm hl=>(h a w hm hl).mono λ _ _ ⟨h1,h2⟩=>⟨h1,hxy h2⟩
theorem OpdR.mono{x:Dt}(h:OpdR M look q x)(hxy:∀ {w:World} {v:Value},x.rd M w v->y.rd M w v):OpdR M look q y:=λ w a hl=>hxy (h w a hl)
theorem OpRel.bx{x:Bx α}(h:OpRel P M look o (dt x)):OpRel P M look o (dptr x.x):=h.mono bx_ptr.1
theorem OpRel.fnv{x:FnV α β}(h:OpRel P M look o (dt x)):OpRel P M look o (dfn1 Tryz.prog x.g):=h.mono fnv_dt.1
theorem OpRel.nilf{x:Nilf}(h:OpRel P M look o (dt x)):OpRel P M look o dnilf:=h.mono nilf_dt.1
theorem opd_fnv{g:α->Option β}(h:OpdR M look q (dfn1 Tryz.prog g)):OpdR M look q (dt (⟨g⟩:FnV α β)):=h.mono fnv_dt.2
def isPt(P:Program)(t:TypeId):Bool:=match P.underlying t with | some (.pointer _)=>true | _=>false
theorem xNcO{x:Np α}{y:α}(ho:o.op=.nilCheck q)(hq:OpdR M look q (dt x))(hm:x.o=some y):OpRel P M look o (dptr y):=
 zF λ a w _ hl=>by
  have h:=hq w a hl;have e:x=⟨some y⟩:=by cases x;simp only at hm;rw[hm]
  rw[e] at h;have h:=np_some.1 h;refine⟨a.eval q,?_,h⟩;obtain⟨b,off,cs,hv,_⟩:=h;unfold execOp;rw[ho];simp[hv]
theorem isPt_spec(h:isPt P t=true):∃ e,P.underlying t=some (.pointer e):=by
 unfold isPt at h;split at h
 ·exact⟨_,by assumption⟩
 ·cases h
theorem np_ptr{x:Np α}(h:(dt x).rd M w v):∃ p,v=.pointer p:=by
 obtain⟨ox⟩:=x;cases ox with
 | none=>exact⟨_,np_none.1 h⟩
 |some y=>obtain⟨b,off,cs,hv,_⟩:=np_some.1 h;exact⟨_,hv⟩
theorem np_eq{x:Np α}(ht:isPt P t=true)(h:(dt x).rd M w v):(Op.equal t v (.pointer none)).run P w=.ok (!x.o.isSome) w:=by
 obtain⟨e,he⟩:=isPt_spec ht;obtain⟨ox⟩:=x;cases ox with
 |none=>have hv:=np_none.1 h;subst hv;unfold Op.equal Op.maxDepth;rw[show(10000:Nat)=9999+1 from Z,Op.equalIn];simp[run_underlying he]
 |some y=>obtain⟨b,off,cs,hv,_⟩:=np_some.1 h;subst hv;unfold Op.equal Op.maxDepth;rw[show(10000:Nat)=9999+1 from Z,Op.equalIn];simp[run_underlying he]
theorem xNepNil{x:Np α}(ho:o.op=.binOp .neq t q (.const (.pointer none)) t')(ht:isPt P t=true)(hx:OpdR M look q (dt x)):OpRel P M look o (dt x.o.isSome):=
 zF λ a w _ hl=>⟨.bool x.o.isSome,by
  have he:=np_eq ht (hx w a hl);obtain⟨p,hp⟩:=np_ptr (hx w a hl);have hn:a.eval (.const (.pointer none))=.pointer none:=rfl;rw[hp] at he;unfold execOp;rw[ho];simp[hp,hn,eqGuard,binOp,he],xz.2 Z⟩
def dfq1(P:Program)(g:α->Option β):Dt where
 rd M w v:=∃ (f:FuncId) (caps:List Value) (ds:List Dt),v=.func (.func f) #[] caps.toArray/\fnB P f=true/\RdAll M w caps ds/\(∀ x∈ds,x.nb=true)/\∀ x y,g x=some y->Fn P f (dptr x::ds) (dt y)
 own:=noB
 nb:=true
 nob _ _ h:=h
 stable:=by
  rintro M w w' v ⟨f,caps,ds,hv,hf,hr,hn,hg⟩ e
  exact⟨f,caps,ds,hv,hf,hr.stable hn e,hn,hg⟩
 weak:=by
  rintro M M' w v ⟨f,caps,ds,hv,hf,hr,hn,hg⟩ e
  exact⟨f,caps,ds,hv,hf,hr.weak e,hn,hg⟩
theorem xMkQ1{f:FuncId}{g:α->Option β}(ho:o.op=.makeFunc (.func f) #[] l.toArray)(hf:fnB P f=true)(hx:ArgsR M look l ds)(hn:allNb' ds=true)(hg:∀ x y,g x=some y->Fn P f (dptr x::ds) (dt y)):OpRel P M look o (dfq1 P g):=
 zF λ a w _ hl=>by
  refine⟨.func (.func f) #[] (l.map a.eval).toArray,?_,f,_,ds,Z,hf,hx.all hl,zdD hn,hg⟩;unfold execOp;rw[ho];simp[Instr.makeFunc]
theorem xCaQ1{s:Operand}{g:α->Option β}{x:α}{y:β}(ho:o.op=.call { callee:=.value s,args:=#[q],argTypes:=ts })(hs:OpdR M look s (dfq1 P g))(hq:OpdR M look q (dptr x))(hg:g x=some y):OpRel P M look o (dt y):=
 λ a w hm hl=>by
  obtain⟨f,caps,ds,hv,hf,hr,hn,hk⟩:=hs w a hl;refine OpOut.of_enter (f:=f) (args:=(a.eval q::caps).toArray) (w':=w) ?_ ?_
  ·unfold execOp;rw[ho];simp[resolve,hv,Deferred.ofValue,invoke,wz hf]
  ·exact(hk x y hg M w _ hm (.cons (hq w a hl) hr)).mono λ e w' ⟨v,he,hx,hr⟩=>⟨v,he,hx,hr⟩
theorem lendQ{ow:Ow α}{x:α}{y:β}{upd:β->α}(ob:Objs F M0 M Gs)(p:Nat)(hP:PH ow x v0 cf oy bk 0 y upd)(hq:OpdR M look q (dis (.pointer (some ⟨bk,0,none⟩))))(hs:look sb=some (dnm ow G x v0 cf))(hG:∀ b,G b->zp Gs p b:=by exact λ _ h=>h):OpdR2 M M0 look q (dptr y):=
 λ w a hl=>by
  obtain⟨h1,⟨cs,h2,h3⟩,h4⟩:=hl sb _ hs;obtain⟨C,e,hh,hsz,hGb,G1,G2,s1,s2,hd,_,_,hr,put⟩:=(hP.of h2 h3 h4).here;have hv:a.eval q=_:=hq w a hl;refine⟨bk,0,_,hv,λ hb=>(ob.at_ p bk (hG bk hGb)).2.2 hb,λ j u hj=>?_,Rep.weak (oy.toR hr) λ b _ hb=>⟨ob.sub b hb,λ hg=>(ob.at_ p b (hG b (s1 b hg))).2.2 hb⟩⟩;rw[List.drop_zero,List.getElem?_take] at hj;split at hj
  ·rw[Nat.zero_add];have:C[j]?=some u:=by simpa using hj
   simp[World.cell?,hh,this]
  ·cases hj
theorem lendB{ow:Ow α}{x:Bx α}(ob:Objs F M0 M Gs)(p:Nat)(hG:∀ b,G b->zp Gs p b)(h:OpdR M look q (dnm ow.box G x v0 cf)):OpdR2 M M0 look q (dptr x.x):=
 λ w a hl=>bx_ptr.1 (lendN ob p hG h w a hl)
theorem lendA{ow:Ow α}{x:Bx α}(ob:Objs F M0 M Gs)(p:Nat)(hq:OpdR M look q (dis (.pointer (some ⟨b,0,none⟩))))(hs:look sb=some (dnm ow.box G x (.pointer (some ⟨b,0,none⟩)) cf))(hG:∀ b,G b->zp Gs p b:=by exact λ _ h=>h):OpdR2 M M0 look q (dptr x.x):=
 λ w a hl=>by
  have h1:=lendB (q:=.tmp sb) ob p hG (zb hs) w a hl;have hv:a.eval q=_:=hq w a hl;have hv2:a.eval (.tmp sb)=.pointer (some ⟨b,0,none⟩):=(hl sb _ hs).1;rw[hv];rw[hv2] at h1;exact h1
theorem opd_fun1{f:FuncId}{g:α->Option β}(hf:fnB P f=true)(hg:∀ x y,g x=some y->Fn P f [dt x] (dt y)):OpdR M look (.func f) (dfn1 P g):=λ _ _ _=>⟨f,[],[],Z,hf,.nil,λ _ h=>(by cases h),hg⟩
theorem Sx.bkP{ow:Ow α}{x:α}{ys:List (Bx β)}{z z':Bx β}{upd:List (Bx β)->α}(h:Sx F N M0 M Gs L O a w)(hP:PH ow x v0 cf (Ow.rowP ps e oy) b off ys upd)(hk:(k,bk)∈ps)(hz:ys[k]?=some z)(hs:(L++envO O).lookup sb=some (dnm ow G x v0 cf):=by rfl)(hG:∀ b,G b->zp Gs p b:=by exact λ _ h=>h):Back M w Gs p (.pointer (some ⟨bk,0,none⟩)) (Act.at a sb) oy.box z z' (λ G''=>dnm ow G'' (upd (ys.set k z')) v0 []):=by
 obtain⟨h1,⟨cs,h2,h3⟩,h4⟩:=h.st.has sb _ hs;obtain⟨g,cap,_,hp⟩:=(hP.of h2 h3 h4).rowF (pins_at hk) hz;obtain⟨C,e,hh,hsz,_,G1,G2,s1,s2,hd,_,_,hr,put⟩:=hp.here;have hc:(C.toList.drop k).take (Rep.size (Pn β))=[.pointer (some ⟨bk,0,none⟩)]:=by
  obtain⟨C2,e2,Gr,hc,_⟩:=hr;exact hc
 refine⟨⟨G1,λ b hb=>hG b (s1 b hb),⟨_,Ow.pin_box hr,by rw[hc];rfl⟩,λ{G' M' w' G''} hL hG' hr' hs'=>?_⟩,λ _ _ h=>h⟩;obtain⟨c',h5,h6⟩:=hr';obtain⟨u,hu1,hu2⟩:=mkv_one h5 Z;have e1:u=.pointer (some ⟨bk,0,none⟩):=hu2.symm.trans h6.symm;subst e1;have h7:=Ow.box_pin h5 hu1;rw[hu1,← hc] at h7;have hlt:∀ b,G b->b<w.heap.size:=λ b hb=>h.st.mok b (h.ob.at_ p b (hG b hb)).2.1
 have h8:=put (G'':=G'') (hL G2 λ b hb hb1=>hd b hb1 hb) h7 (λ k hk hk2=>(hG' k hk).elim (λ e=>hd k e hk2) λ e=>by have:=hlt k (s2 k hk2);omega) (λ k hk=>hs' k (.inr hk)) (λ k hk=>hs' k (.inl ⟨hG k (s2 k hk),λ e=>hd k e hk⟩)) Z;exact⟨h1,⟨cs,h8,h3⟩,λ q hq _=>by cases hq⟩
def dpg(oy:Ow β)(G:Nat->Prop)(b:Nat)(y:β):Dt where
 rd M w _:=oy.pin.ro M G w [.pointer (some ⟨b,0,none⟩)] ⟨b,y⟩
 own:=G
 nb:=false
 nob h:=by cases h
 stable h k:=oy.pin.stable h k
 weak h k:=oy.pin.weak h k
theorem Sx.tuck{y:Bx β}(h:Sx F N M0 M Gs L O a w)(u p:Nat)(hs:(L++envO O).lookup s=some (dnm oy.box G y (.pointer (some ⟨b,0,none⟩)) cf))(hG:∀ b,G b->zp Gs p b)(hu:L.lookup u=none)(qs:List Nat)(hq:selR L O qs p=some O2)(hus:u≠s:=by decide):
  Sx F N M0 M Gs ((s,dis (.pointer (some ⟨b,0,none⟩)))::L) ((u,p,dpg oy G b y.x)::O2) a w:=by
 obtain⟨h1,⟨cs,⟨b',C,e,Gr,hc,h2⟩,h3⟩,_⟩:=h.st.has s _ hs;have e2:b'=b:=by
  rw[hc] at h3;have:(Value.pointer (some ⟨b,0,none⟩))=.pointer (some ⟨b',0,none⟩):=h3;injection this with h5;injection h5 with h5;injection h5 with h5;exact h5.symm
 subst e2;have hb:(u == s)=false:=by simpa using hus
 exact((h.drop hq).addL (s:=s) (y:=dis (.pointer (some ⟨b',0,none⟩))) h1).addO (d:=u) (by simp only[List.lookup_cons,hb];exact hu) (x:=dpg oy G b' y.x) ⟨C,e,Gr,Z,h2⟩ hG
theorem pin_cells{y:β}(hv:(dis (.pointer (some ⟨b,0,none⟩))).rd M w v)(hp:(dpg oy G b y).rd M w u):oy.pin.ro M G w v.cells.toList ⟨b,y⟩:=by
 rw[show v=_ from hv];exact hp
theorem rowP_zz(M:Nat->Prop)(w:World):(Ow.rowP [] e oy).ro M noB w wJ []:=Ow.rowP_z (Ow.row_z M w)
def dany:Dt where
 rd _ _ _:=True
 own:=noB
 nb:=true
 nob _ _ h:=h
 stable h _:=h
 weak h _:=h
theorem FnS.any{f:FuncId}{oo:Ow α}{x x':α}(h:FnS P f oo x xs x' .gone):FnS P f oo x xs x' (.frz dany):=λ M0 G w v vs h1 h2 h3 h4=>
 (h M0 G w v vs h1 h2 h3 h4).mono λ _ _ ⟨u,G',Gr,k1,k2,k3,k4,k5,k6,k7,_⟩=>⟨u,G',Gr,k1,k2,k3,k4,k5,k6,k7,trivial,Z⟩
theorem Sx.boxW{ow:Ow α}{x:α}(h:Sx F N M0 M Gs L O a w)(p p2:Nat)
  (ks:List Nat)  (qs:List Nat)   
  (next:∀ b G' M' a' w',Sx F N M0 M' ((Gs.set p G').set p2 (oneB none)) L2 ((d,p,dnm ow.box G' ⟨x⟩ (.pointer (some ⟨b,0,none⟩)) [])::O2) a' w'->wpList P ops Q rest a' w')(hh:opH o N=some d:=by rfl)(ho:o.op=.box t (.tmp s):=by rfl)(hs:(L++envO O).lookup s=some (dow ow G x):=by rfl)(hp:p<Gs.length:=by simp)(hp2:p2<Gs.length:=by simp)(hne:p≠p2:=by decide)(hG:∀ b,G b->zp Gs p2 b:=by exact λ _ h=>h)(hk:selP ks L=some L2:=by rfl)(hq:selR L O qs p=some O2:=by rfl)(hO:O2.all (λ q=>q.2.1 != p2)=true:=by rfl)(hdn:L2.lookup d=none:=by rfl):wpList P ops Q (o::rest) a w:=by
 obtain⟨hgd,hd,hN⟩:=ya hh;have hy:ow.ro M G w (Act.at a s).cells.toList x:=by
  obtain⟨cs,h1,h2⟩:=h.st.has s _ hs;rw[h2,XG (ow.toR h1)];exact h1
 have he:Ext0 w (w.alloc (.cells (Act.at a s).cells t)):=Ext0.alloc _ _;refine wpList_plain hgd λ K hK=>OpOut.wp (OpOut.of_value (v:=.pointer (some ⟨w.heap.size,0,none⟩)) (w':=w.alloc (.cells (Act.at a s).cells t)) ?_ ?_)
 ·unfold execOp;rw[ho];simp[Instr.box,newVar,newRow,newObj,X3,Act.eval_tmp]
 ·rw[hd];have h1:=h.eff (G':=oneB (some w.heap.size)) hp ((Grown.of_ext he).mono λ b hb=>hb.elim) (λ b (hb:some w.heap.size=some b)=>by injection hb with hb;subst hb;exact⟨.inr (Nat.le_refl _),by simp⟩) hk hq;have h2:=h1.mrg (p:=p) (p2:=p2) (by simpa using hp) (by simpa using hp2) hne hO;have e1:za7 (Gs.set p (oneB (some w.heap.size))) p p2=(Gs.set p (λ b=>oneB (some w.heap.size) b\/zp Gs p2 b)).set p2 (oneB none):=by
   unfold za7;rw[List.set_set]
   congr 2
   funext b
   rw[zy hp,zE hne]
  rw[e1] at h2;have hlt:∀ b,G b->b<w.heap.size:=λ b hb=>h.st.mok b (h.ob.at_ p2 b (hG b hb)).2.1
  refine hK _ _ (next w.heap.size _ _ _ _ (h2.putO hN hdn (x:=dnm ow.box (λ b=>oneB (some w.heap.size) b\/zp Gs p2 b) ⟨x⟩ (.pointer (some ⟨w.heap.size,0,none⟩)) []) ?_ λ b hb=>by rw[zE (Ne.symm hne),zy hp];exact hb));refine⟨Z,⟨_,⟨w.heap.size,(Act.at a s).cells,t,G,Z,heap_alloc_new w _,.inl Z,λ hg=>absurd (hlt _ hg) (Nat.lt_irrefl _),λ b hb=>.inr (hG b hb),?_⟩,Z⟩,λ q hq _=>by cases hq⟩;refine ow.later hy ⟨λ k hk hm=>?_,λ k hk _=>he.block k hk⟩;rcases hm with hm | hm
  ·exact hm.1
  ·have:w.heap.size=k:=by injection hm
   omega
theorem RdAll.flat{M M':Nat->Prop}{w:World}:∀ {us:List Value} {xs:List Dt},RdAll M w us xs->(∀ x∈xs,Flat x)->RdAll M' w us xs
 | _,_,.nil,_=>.nil
 | _,_,.cons h r,k=>.cons (k _ (List.mem_cons_self ..) _ _ _ _ h) (RdAll.flat r λ x hx=>k x (List.mem_cons_of_mem _ hx))
theorem flat_tup(h:∀ x∈xs,Flat x):Flat (dtup xs):=λ _ _ _ _ ⟨us,hv,hr,hn⟩=>⟨us,hv,hr.flat h,hn⟩
theorem JS{x:Dt}(h:Flat x)(k:Flat y):Flat (dtup [x,y]):=flat_tup λ z hz=>by
 simp only[List.mem_cons,List.not_mem_nil,or_false] at hz;rcases hz with rfl | rfl
 ·exact h
 ·exact k
theorem zaa{x:GVal}:Flat (dt x):=λ _ _ _ _ ⟨cs,h,hv⟩=>⟨cs,h,hv⟩
end
structure Warmth where
 on:Bool
 disk:Disk
 finder:Finder
 store:List Compiled
 mode:Int
instance:Rep Warmth:=Rep.iso (λ x=>((x.on,x.disk,x.finder,x.store,x.mode):Bool×Disk×Finder×List Compiled×Int))
theorem Warmth.fld0:Fld (λ x:Warmth=>x.on) 0:=⟨λ h=>(Fld.fst).sub (α:=Bool×Disk×Finder×List Compiled×Int) h⟩
theorem Warmth.parts{x:Warmth}(h0:Rep.rdc M w c0 x.on)(h1:Rep.rdc M w c1 x.disk)(h2:Rep.rdc M w c2 x.finder)(h3:Rep.rdc M w c3 x.store)(h4:Rep.rdc M w c4 x.mode):Rep.rdc M w [c0,c1,c2,c3,c4].flatten x:=by
 simp only[List.flatten_cons,List.flatten_nil,List.append_nil];exact⟨c0,_,Z,h0,⟨c1,_,Z,h1,⟨c2,_,Z,h2,⟨c3,_,Z,h3,h4⟩⟩⟩⟩
structure Machine where
 t:Tree
 path:List Int
 known:Nilf
 load:FnV File (List Stmt)
 modules:List (Bx GMod)
 out:List Int
 log:List GEvent
 part:List Str
 left:Int
variable{x:Machine}
abbrev MTu:=Tree×List Int×Nilf×FnV File (List Stmt)×List (Bx GMod)×List Int×List GEvent×List Str×Int
instance:Rep Machine:=Rep.iso (λ x=>((x.t,x.path,x.known,x.load,x.modules,x.out,x.log,x.part,x.left):MTu))
theorem Machine.fld0:Fld (λ x:Machine=>x.t) 0:=⟨λ h=>(Fld.fst).sub (α:=MTu) h⟩
theorem Machine.fld1:Fld (λ x:Machine=>x.path) 1:=⟨λ h=>((Fld.snd Fld.fst)).sub (α:=MTu) h⟩
theorem Machine.fld4:Fld (λ x:Machine=>x.modules) 4:=⟨λ h=>((Fld.snd (Fld.snd (Fld.snd (Fld.snd Fld.fst))))).sub (α:=MTu) h⟩
theorem Machine.fld5:Fld (λ x:Machine=>x.out) 5:=⟨λ h=>((Fld.snd (Fld.snd (Fld.snd (Fld.snd (Fld.snd Fld.fst)))))).sub (α:=MTu) h⟩
theorem Machine.fld6:Fld (λ x:Machine=>x.log) 6:=⟨λ h=>((Fld.snd (Fld.snd (Fld.snd (Fld.snd (Fld.snd (Fld.snd Fld.fst))))))).sub (α:=MTu) h⟩
theorem Machine.fld7:Fld (λ x:Machine=>x.part) 7:=⟨λ h=>((Fld.snd (Fld.snd (Fld.snd (Fld.snd (Fld.snd (Fld.snd (Fld.snd Fld.fst)))))))).sub (α:=MTu) h⟩
theorem Machine.fld8:Fld (λ x:Machine=>x.left) 8:=⟨λ h=>((Fld.snd (Fld.snd (Fld.snd (Fld.snd (Fld.snd (Fld.snd (Fld.snd (Fld.snd Fld.id))))))))).sub (α:=MTu) h⟩
theorem Machine.parts(h0:Rep.rdc M w c0 x.t)(h1:Rep.rdc M w c1 x.path)(h2:Rep.rdc M w c2 x.known)(h3:Rep.rdc M w c3 x.load)(h4:Rep.rdc M w c4 x.modules)(h5:Rep.rdc M w c5 x.out)(h6:Rep.rdc M w c6 x.log)(h7:Rep.rdc M w c7 x.part)(h8:Rep.rdc M w c8 x.left):Rep.rdc M w [c0,c1,c2,c3,c4,c5,c6,c7,c8].flatten x:=by
 simp only[List.flatten_cons,List.flatten_nil,List.append_nil];exact⟨c0,_,Z,h0,⟨c1,_,Z,h1,⟨c2,_,Z,h2,⟨c3,_,Z,h3,⟨c4,_,Z,h4,⟨c5,_,Z,h5,⟨c6,_,Z,h6,⟨c7,_,Z,h7,h8⟩⟩⟩⟩⟩⟩⟩⟩
structure Runner where
 t:Tree
 path:List Int
 mods:List GMod
 log:List GEvent
 out:List Int
 fin:Int
 left:Int
 warm:Bx Warmth
abbrev RTu:=Tree×List Int×List GMod×List GEvent×List Int×Int×Int×Bx Warmth
instance:Rep Runner:=Rep.iso (λ x=>((x.t,x.path,x.mods,x.log,x.out,x.fin,x.left,x.warm):RTu))
theorem Runner.fld0:Fld (λ x:Runner=>x.t) 0:=⟨λ h=>(Fld.fst).sub (α:=RTu) h⟩
theorem Runner.fld1:Fld (λ x:Runner=>x.path) 1:=⟨λ h=>((Fld.snd Fld.fst)).sub (α:=RTu) h⟩
theorem Runner.fld2:Fld (λ x:Runner=>x.mods) 2:=⟨λ h=>((Fld.snd (Fld.snd Fld.fst))).sub (α:=RTu) h⟩
theorem Runner.fld3:Fld (λ x:Runner=>x.log) 3:=⟨λ h=>((Fld.snd (Fld.snd (Fld.snd Fld.fst)))).sub (α:=RTu) h⟩
theorem Runner.fld4:Fld (λ x:Runner=>x.out) 4:=⟨λ h=>((Fld.snd (Fld.snd (Fld.snd (Fld.snd Fld.fst))))).sub (α:=RTu) h⟩
theorem Runner.fld5:Fld (λ x:Runner=>x.fin) 5:=⟨λ h=>((Fld.snd (Fld.snd (Fld.snd (Fld.snd (Fld.snd Fld.fst)))))).sub (α:=RTu) h⟩
theorem Runner.fld6:Fld (λ x:Runner=>x.left) 6:=⟨λ h=>((Fld.snd (Fld.snd (Fld.snd (Fld.snd (Fld.snd (Fld.snd Fld.fst))))))).sub (α:=RTu) h⟩
theorem Runner.parts{x:Runner}(h0:Rep.rdc M w c0 x.t)(h1:Rep.rdc M w c1 x.path)(h2:Rep.rdc M w c2 x.mods)(h3:Rep.rdc M w c3 x.log)(h4:Rep.rdc M w c4 x.out)(h5:Rep.rdc M w c5 x.fin)(h6:Rep.rdc M w c6 x.left)(h7:Rep.rdc M w c7 x.warm):Rep.rdc M w [c0,c1,c2,c3,c4,c5,c6,c7].flatten x:=by
 simp only[List.flatten_cons,List.flatten_nil,List.append_nil];exact⟨c0,_,Z,h0,⟨c1,_,Z,h1,⟨c2,_,Z,h2,⟨c3,_,Z,h3,⟨c4,_,Z,h4,⟨c5,_,Z,h5,⟨c6,_,Z,h6,h7⟩⟩⟩⟩⟩⟩⟩
def zcPtr:List Value:=[.pointer none]
def zcNilf:List Value:=[.nilFunc]
def zcFnv:List Value:=[.nilFunc]
def zpWarmth:List (List Value):=[Qa,zcDisk,zcFinder,wJ,wD]
theorem Warmth.z1:FldW (Ow.frz (α:=Warmth)) (Ow.frz (α:=Disk)) (λ x:Warmth=>x.disk) (λ y x=>{ x with disk:=y }) 1:=⟨λ h=>((FldW.zsnd FldW.zfst)).foc (α:=Bool×Disk×Finder×List Compiled×Int) h⟩
def zpMachine:List (List Value):=[zby,wJ,zcNilf,zcFnv,wJ,wJ,wJ,wJ,wD]
theorem Machine.z1:FldW (Ow.frz (α:=Machine)) (Ow.frz (α:=List Int)) (λ x:Machine=>x.path) (λ y x=>{ x with path:=y }) 1:=⟨λ h=>((FldW.zsnd FldW.zfst)).foc (α:=MTu) h⟩
def zpRunner:List (List Value):=[zby,wJ,wJ,wJ,wJ,wD,wD,zcPtr]
theorem Runner.z1:FldW (Ow.frz (α:=Runner)) (Ow.frz (α:=List Int)) (λ x:Runner=>x.path) (λ y x=>{ x with path:=y }) 1:=⟨λ h=>((FldW.zsnd FldW.zfst)).foc (α:=RTu) h⟩
@[reducible] def owRunner (a2:Ow (List GMod)) (a3:Ow (List GEvent)) (a4:Ow (List Int)):Ow Runner:=Ow.via (λ(x:Runner)=>((x.t,x.path,x.mods,x.log,x.out,x.fin,x.left,x.warm):RTu)) (Ow.pr (Ow.frz (α:=Tree)) (Ow.pr (Ow.frz (α:=List Int)) (Ow.pr a2 (Ow.pr a3 (Ow.pr a4 (Ow.pr (Ow.frz (α:=Int)) (Ow.pr (Ow.frz (α:=Int)) (Ow.frz (α:=Bx Warmth)))))))))
theorem owRunner.f0{a4:Ow (List Int)}:FldW (owRunner a2 a3 a4) (Ow.frz (α:=Tree)) (λ x:Runner=>x.t) (λ y x=>{ x with t:=y }) 0:=⟨λ h=>(FldW.fst).foc (α:=RTu) h⟩
theorem owRunner.f1{a4:Ow (List Int)}:FldW (owRunner a2 a3 a4) (Ow.frz (α:=List Int)) (λ x:Runner=>x.path) (λ y x=>{ x with path:=y }) 1:=⟨λ h=>((FldW.snd FldW.fst)).foc (α:=RTu) h⟩
theorem owRunner.f2{a4:Ow (List Int)}:FldW (owRunner a2 a3 a4) a2 (λ x:Runner=>x.mods) (λ y x=>{ x with mods:=y }) 2:=⟨λ h=>((FldW.snd (FldW.snd FldW.fst))).foc (α:=RTu) h⟩
theorem owRunner.f3{a4:Ow (List Int)}:FldW (owRunner a2 a3 a4) a3 (λ x:Runner=>x.log) (λ y x=>{ x with log:=y }) 3:=⟨λ h=>((FldW.snd (FldW.snd (FldW.snd FldW.fst)))).foc (α:=RTu) h⟩
theorem owRunner.f4{a4:Ow (List Int)}:FldW (owRunner a2 a3 a4) a4 (λ x:Runner=>x.out) (λ y x=>{ x with out:=y }) 4:=⟨λ h=>((FldW.snd (FldW.snd (FldW.snd (FldW.snd FldW.fst))))).foc (α:=RTu) h⟩
theorem owRunner.f5{a4:Ow (List Int)}:FldW (owRunner a2 a3 a4) (Ow.frz (α:=Int)) (λ x:Runner=>x.fin) (λ y x=>{ x with fin:=y }) 5:=⟨λ h=>((FldW.snd (FldW.snd (FldW.snd (FldW.snd (FldW.snd FldW.fst)))))).foc (α:=RTu) h⟩
theorem owRunner.f6{a4:Ow (List Int)}:FldW (owRunner a2 a3 a4) (Ow.frz (α:=Int)) (λ x:Runner=>x.left) (λ y x=>{ x with left:=y }) 6:=⟨λ h=>((FldW.snd (FldW.snd (FldW.snd (FldW.snd (FldW.snd (FldW.snd FldW.fst))))))).foc (α:=RTu) h⟩
theorem owRunner.f7{a4:Ow (List Int)}:FldW (owRunner a2 a3 a4) (Ow.frz (α:=Bx Warmth)) (λ x:Runner=>x.warm) (λ y x=>{ x with warm:=y }) 7:=⟨λ h=>((FldW.snd (FldW.snd (FldW.snd (FldW.snd (FldW.snd (FldW.snd (FldW.snd FldW.id)))))))).foc (α:=RTu) h⟩
theorem owRunner.mk{M:Nat->Prop}{w:World}{x:Runner}{g2:Nat->Prop}{a2:Ow (List GMod)}{g3:Nat->Prop}{a3:Ow (List GEvent)}{g4:Nat->Prop}{a4:Ow (List Int)}{c0:List Value}{c1:List Value}{c2:List Value}{c3:List Value}{c4:List Value}{c5:List Value}{c6:List Value}{c7:List Value}(h0:Rep.rdc M w c0 x.t)(h1:Rep.rdc M w c1 x.path)(h2:a2.ro M g2 w c2 x.mods)(h3:a3.ro M g3 w c3 x.log)(h4:a4.ro M g4 w c4 x.out)(h5:Rep.rdc M w c5 x.fin)(h6:Rep.rdc M w c6 x.left)(h7:Rep.rdc M w c7 x.warm)(d2:∀ b,g2 b->¬ (λ b=>g3 b\/g4 b) b)(d3:∀ b,g3 b->¬ g4 b):(owRunner a2 a3 a4).ro M (λ b=>g2 b\/(λ b=>g3 b\/g4 b) b) w [c0,c1,c2,c3,c4,c5,c6,c7].flatten x:=by
 simp only[List.flatten_cons,List.flatten_nil,List.append_nil];exact⟨noB,(λ b=>g2 b\/(λ b=>g3 b\/g4 b) b),c0,_,λ _ h=>h.elim,λ _ h=>h,λ _ h=>h.elim,Z,h0,⟨noB,(λ b=>g2 b\/(λ b=>g3 b\/g4 b) b),c1,_,λ _ h=>h.elim,λ _ h=>h,λ _ h=>h.elim,Z,h1,⟨g2,(λ b=>g3 b\/g4 b),c2,_,λ _ h=>.inl h,λ _ h=>.inr h,d2,Z,h2,⟨g3,g4,c3,_,λ _ h=>.inl h,λ _ h=>.inr h,d3,Z,h3,⟨g4,noB,c4,_,λ _ h=>h,λ _ h=>h.elim,λ _ _ h=>h,Z,h4,⟨noB,noB,c5,_,λ _ h=>h.elim,λ _ h=>h.elim,λ _ _ h=>h,Z,h5,⟨noB,noB,c6,_,λ _ h=>h.elim,λ _ h=>h.elim,λ _ _ h=>h,Z,h6,h7⟩⟩⟩⟩⟩⟩⟩
@[reducible] def owGModR (a5:Ow (List GAttr)):Ow GMod:=Ow.via (λ(x:GMod)=>((x.name,x.kind,x.roots,x.cached,x.done,x.attrs):Str×Int×List Int×Bool×Bool×List GAttr)) (Ow.pr (Ow.frz (α:=Str)) (Ow.pr (Ow.frz (α:=Int)) (Ow.pr (Ow.frz (α:=List Int)) (Ow.pr (Ow.frz (α:=Bool)) (Ow.pr (Ow.frz (α:=Bool)) a5)))))
theorem owGModR.f0{a5:Ow (List GAttr)}:FldW (owGModR a5) (Ow.frz (α:=Str)) (λ x:GMod=>x.name) (λ y x=>{ x with name:=y }) 0:=⟨λ h=>(FldW.fst).foc (α:=Str×Int×List Int×Bool×Bool×List GAttr) h⟩
theorem owGModR.f1{a5:Ow (List GAttr)}:FldW (owGModR a5) (Ow.frz (α:=Int)) (λ x:GMod=>x.kind) (λ y x=>{ x with kind:=y }) 1:=⟨λ h=>((FldW.snd FldW.fst)).foc (α:=Str×Int×List Int×Bool×Bool×List GAttr) h⟩
theorem owGModR.f2{a5:Ow (List GAttr)}:FldW (owGModR a5) (Ow.frz (α:=List Int)) (λ x:GMod=>x.roots) (λ y x=>{ x with roots:=y }) 2:=⟨λ h=>((FldW.snd (FldW.snd FldW.fst))).foc (α:=Str×Int×List Int×Bool×Bool×List GAttr) h⟩
theorem owGModR.f3{a5:Ow (List GAttr)}:FldW (owGModR a5) (Ow.frz (α:=Bool)) (λ x:GMod=>x.cached) (λ y x=>{ x with cached:=y }) 3:=⟨λ h=>((FldW.snd (FldW.snd (FldW.snd FldW.fst)))).foc (α:=Str×Int×List Int×Bool×Bool×List GAttr) h⟩
theorem owGModR.f4{a5:Ow (List GAttr)}:FldW (owGModR a5) (Ow.frz (α:=Bool)) (λ x:GMod=>x.done) (λ y x=>{ x with done:=y }) 4:=⟨λ h=>((FldW.snd (FldW.snd (FldW.snd (FldW.snd FldW.fst))))).foc (α:=Str×Int×List Int×Bool×Bool×List GAttr) h⟩
theorem owGModR.f5{a5:Ow (List GAttr)}:FldW (owGModR a5) a5 (λ x:GMod=>x.attrs) (λ y x=>{ x with attrs:=y }) 5:=⟨λ h=>((FldW.snd (FldW.snd (FldW.snd (FldW.snd (FldW.snd FldW.id)))))).foc (α:=Str×Int×List Int×Bool×Bool×List GAttr) h⟩
theorem owGModR.z{a5:Ow (List GAttr)}(h5:∀ (M:Nat->Prop) (w:World),a5.ro M noB w wJ [])(M:Nat->Prop)(w:World):(owGModR a5).ro M noB w zcGMod zGMod:=(Ow.pr_z (a:=(Ow.frz (α:=Str))) (Jf M w) (Ow.pr_z (a:=(Ow.frz (α:=Int))) (qv M w) (Ow.pr_z (a:=(Ow.frz (α:=List Int))) (zrLst M w) (Ow.pr_z (a:=(Ow.frz (α:=Bool))) (zbv M w) (Ow.pr_z (a:=(Ow.frz (α:=Bool))) (zbv M w) (h5 M w))))))
theorem owGModR.mk{M:Nat->Prop}{w:World}{x:GMod}{g5:Nat->Prop}{a5:Ow (List GAttr)}{c0:List Value}{c1:List Value}{c2:List Value}{c3:List Value}{c4:List Value}{c5:List Value}(h0:Rep.rdc M w c0 x.name)(h1:Rep.rdc M w c1 x.kind)(h2:Rep.rdc M w c2 x.roots)(h3:Rep.rdc M w c3 x.cached)(h4:Rep.rdc M w c4 x.done)(h5:a5.ro M g5 w c5 x.attrs)  : (owGModR a5).ro M g5 w [c0,c1,c2,c3,c4,c5].flatten x:=by
 simp only[List.flatten_cons,List.flatten_nil,List.append_nil];exact⟨noB,g5,c0,_,λ _ h=>h.elim,λ _ h=>h,λ _ h=>h.elim,Z,h0,⟨noB,g5,c1,_,λ _ h=>h.elim,λ _ h=>h,λ _ h=>h.elim,Z,h1,⟨noB,g5,c2,_,λ _ h=>h.elim,λ _ h=>h,λ _ h=>h.elim,Z,h2,⟨noB,g5,c3,_,λ _ h=>h.elim,λ _ h=>h,λ _ h=>h.elim,Z,h3,⟨noB,g5,c4,_,λ _ h=>h.elim,λ _ h=>h,λ _ h=>h.elim,Z,h4,h5⟩⟩⟩⟩⟩
@[reducible] def owMachine (a4:Ow (List (Bx GMod))) (a5:Ow (List Int)) (a6:Ow (List GEvent)) (a7:Ow (List Str)):Ow Machine:=Ow.via (λ(x:Machine)=>((x.t,x.path,x.known,x.load,x.modules,x.out,x.log,x.part,x.left):MTu)) (Ow.pr (Ow.frz (α:=Tree)) (Ow.pr (Ow.frz (α:=List Int)) (Ow.pr (Ow.frz (α:=Nilf)) (Ow.pr (Ow.frz (α:=FnV File (List Stmt))) (Ow.pr a4 (Ow.pr a5 (Ow.pr a6 (Ow.pr a7 (Ow.frz (α:=Int))))))))))
theorem owMachine.f0:FldW (owMachine a4 a5 a6 a7) (Ow.frz (α:=Tree)) (λ x:Machine=>x.t) (λ y x=>{ x with t:=y }) 0:=⟨λ h=>(FldW.fst).foc (α:=MTu) h⟩
theorem owMachine.f1:FldW (owMachine a4 a5 a6 a7) (Ow.frz (α:=List Int)) (λ x:Machine=>x.path) (λ y x=>{ x with path:=y }) 1:=⟨λ h=>((FldW.snd FldW.fst)).foc (α:=MTu) h⟩
theorem owMachine.f2:FldW (owMachine a4 a5 a6 a7) (Ow.frz (α:=Nilf)) (λ x:Machine=>x.known) (λ y x=>{ x with known:=y }) 2:=⟨λ h=>((FldW.snd (FldW.snd FldW.fst))).foc (α:=MTu) h⟩
theorem owMachine.f3:FldW (owMachine a4 a5 a6 a7) (Ow.frz (α:=FnV File (List Stmt))) (λ x:Machine=>x.load) (λ y x=>{ x with load:=y }) 3:=⟨λ h=>((FldW.snd (FldW.snd (FldW.snd FldW.fst)))).foc (α:=MTu) h⟩
theorem owMachine.f4:FldW (owMachine a4 a5 a6 a7) a4 (λ x:Machine=>x.modules) (λ y x=>{ x with modules:=y }) 4:=⟨λ h=>((FldW.snd (FldW.snd (FldW.snd (FldW.snd FldW.fst))))).foc (α:=MTu) h⟩
theorem owMachine.f5:FldW (owMachine a4 a5 a6 a7) a5 (λ x:Machine=>x.out) (λ y x=>{ x with out:=y }) 5:=⟨λ h=>((FldW.snd (FldW.snd (FldW.snd (FldW.snd (FldW.snd FldW.fst)))))).foc (α:=MTu) h⟩
theorem owMachine.f6:FldW (owMachine a4 a5 a6 a7) a6 (λ x:Machine=>x.log) (λ y x=>{ x with log:=y }) 6:=⟨λ h=>((FldW.snd (FldW.snd (FldW.snd (FldW.snd (FldW.snd (FldW.snd FldW.fst))))))).foc (α:=MTu) h⟩
theorem owMachine.f7:FldW (owMachine a4 a5 a6 a7) a7 (λ x:Machine=>x.part) (λ y x=>{ x with part:=y }) 7:=⟨λ h=>((FldW.snd (FldW.snd (FldW.snd (FldW.snd (FldW.snd (FldW.snd (FldW.snd FldW.fst)))))))).foc (α:=MTu) h⟩
theorem owMachine.f8:FldW (owMachine a4 a5 a6 a7) (Ow.frz (α:=Int)) (λ x:Machine=>x.left) (λ y x=>{ x with left:=y }) 8:=⟨λ h=>((FldW.snd (FldW.snd (FldW.snd (FldW.snd (FldW.snd (FldW.snd (FldW.snd (FldW.snd FldW.id))))))))).foc (α:=MTu) h⟩
theorem owMachine.imp4{b4:Ow (List (Bx GMod))}(h:Imp a4 b4 x.modules):Imp (owMachine a4 a5 a6 a7) (owMachine b4 a5 a6 a7) x:=imp_via (x:=x) (imp_snd (imp_snd (imp_snd (imp_snd (imp_fst h)))))
theorem mI{q:Nat×Nat}{ps:List (Nat×Nat)}{e:TypeId}{o:Ow GMod}{a5:Ow (List Int)}{a6:Ow (List GEvent)}{a7:Ow (List Str)}{x:Bx Machine}:Imp (owMachine (Ow.rowP (q::ps) e o) a5 a6 a7).box (owMachine (Ow.rowP ps e o) a5 a6 a7).box x:=wm (owMachine.imp4 (xE (λ _ h=>(.tail _ h))))
theorem owMachine.impE4(h:ImpE a4 b4 x.modules):ImpE (owMachine a4 a5 a6 a7) (λ n=>(owMachine (b4 n) a5 a6 a7)) x:=impE_via (x:=x) (zcd (zcd (zcd (zcd (impE_fst h)))))
theorem owMachine.mk{M:Nat->Prop}{w:World}{x:Machine}{g4:Nat->Prop}{a4:Ow (List (Bx GMod))}{g5:Nat->Prop}{a5:Ow (List Int)}{g6:Nat->Prop}{a6:Ow (List GEvent)}{g7:Nat->Prop}{a7:Ow (List Str)}{c0:List Value}{c1:List Value}{c2:List Value}{c3:List Value}{c4:List Value}{c5:List Value}{c6:List Value}{c7:List Value}{c8:List Value}(h0:Rep.rdc M w c0 x.t)(h1:Rep.rdc M w c1 x.path)(h2:Rep.rdc M w c2 x.known)(h3:Rep.rdc M w c3 x.load)(h4:a4.ro M g4 w c4 x.modules)(h5:a5.ro M g5 w c5 x.out)(h6:a6.ro M g6 w c6 x.log)(h7:a7.ro M g7 w c7 x.part)(h8:Rep.rdc M w c8 x.left)(d4:∀ b,g4 b->¬ (λ b=>g5 b\/(λ b=>g6 b\/g7 b) b) b)(d5:∀ b,g5 b->¬ (λ b=>g6 b\/g7 b) b)(d6:∀ b,g6 b->¬ g7 b):(owMachine a4 a5 a6 a7).ro M (λ b=>g4 b\/(λ b=>g5 b\/(λ b=>g6 b\/g7 b) b) b) w [c0,c1,c2,c3,c4,c5,c6,c7,c8].flatten x:=by
 simp only[List.flatten_cons,List.flatten_nil,List.append_nil];exact⟨noB,(λ b=>g4 b\/(λ b=>g5 b\/(λ b=>g6 b\/g7 b) b) b),c0,_,λ _ h=>h.elim,λ _ h=>h,λ _ h=>h.elim,Z,h0,⟨noB,(λ b=>g4 b\/(λ b=>g5 b\/(λ b=>g6 b\/g7 b) b) b),c1,_,λ _ h=>h.elim,λ _ h=>h,λ _ h=>h.elim,Z,h1,⟨noB,(λ b=>g4 b\/(λ b=>g5 b\/(λ b=>g6 b\/g7 b) b) b),c2,_,λ _ h=>h.elim,λ _ h=>h,λ _ h=>h.elim,Z,h2,⟨noB,(λ b=>g4 b\/(λ b=>g5 b\/(λ b=>g6 b\/g7 b) b) b),c3,_,λ _ h=>h.elim,λ _ h=>h,λ _ h=>h.elim,Z,h3,⟨g4,(λ b=>g5 b\/(λ b=>g6 b\/g7 b) b),c4,_,λ _ h=>.inl h,λ _ h=>.inr h,d4,Z,h4,⟨g5,(λ b=>g6 b\/g7 b),c5,_,λ _ h=>.inl h,λ _ h=>.inr h,d5,Z,h5,⟨g6,g7,c6,_,λ _ h=>.inl h,λ _ h=>.inr h,d6,Z,h6,⟨g7,noB,c7,_,λ _ h=>h,λ _ h=>h.elim,λ _ _ h=>h,Z,h7,h8⟩⟩⟩⟩⟩⟩⟩⟩
instance:Inhabited Machine:=⟨⟨default,[],⟨⟩,default,[],[],[],[],0⟩⟩
instance:Inhabited Warmth:=⟨⟨false,default,default,[],0⟩⟩
instance:Inhabited Runner:=⟨⟨default,[],[],[],[],0,0,default⟩⟩
open Go.RowKit Go.ChangeMaps Go.Maps Go.WideMaps
section
variable{look:Nat->Option Dt}{k:TypeId}
end
theorem cell_same{o:Nat}(h:w'.heap[b]?=w.heap[b]?):w'.cell? ⟨b,o,none⟩=w.cell? ⟨b,o,none⟩:=by simp[World.cell?,h]
abbrev ptrB(b:Nat):Value:=.pointer (some ⟨b,0,none⟩)
structure Vc where
 f:FuncId
 bm:Nat
 bs:Nat
 bv:Nat
 t:Tree
 path:List Int
 bo:Nat
def Vc.val(c:Vc)(vt vp:Value):Value:=.func (.func c.f) #[] #[ptrB c.bm,ptrB c.bv,vt,vp,ptrB c.bo]
section
variable{fn:Func}{look:Nat->Option Dt}{k es:TypeId}
end
section
variable{f:Nat}
variable{α:Type}[Rep α]
theorem Sx.tkAr{x y:Operand}{n r:Int}(h:Sx F N M0 M Gs L O a w)(ho:ops[i]?=some o)(hh:opH o N=some d)
  (hQ:∀ c a w v,Q (.panic c) (a.put o.dst v) w->Q (.panic c) a w) (hS:S w) (hop:o.op=.binOp op t x y t') (hx:OpdR M (λ s=>(L++envO O).lookup s) x (dt m)) (hy:OpdR M (λ s=>(L++envO O).lookup s) y (dt n)) (hm:i64 (arI op m n)=some r) (hk:op=.add\/op=.sub\/op=.mul:=by decide)
  (next:∀ a',Sx F N M0 M Gs ((d,dt r)::L) O a' w->wpAnyH P .any ops Q S f (listed.setIfInBounds i true) a' w)(hs:Region.noSelect ops=true:=by decide +kernel)(hf:Region.free .any ops listed i=true:=by decide +kernel)(hr:(Region.ready .any ops listed).contains i=true:=by decide +kernel):wpAnyH P .any ops Q S (f+1) listed a w:=by
 obtain⟨rfl,hb⟩:=i64_get hm;refine h.tkY (v:=.int .i64 (arI op m n)) (y:=dt (arI op m n)) ho hh hs hf hr (λ c a w=>hQ c a w _) hS (λ w' _=>?_) (yn.2 Z) next;have h1:=yn.1 (hx w a λ s y hy=>h.st.has s y hy);have h2:=yn.1 (hy w a λ s y hy=>h.st.has s y hy);have hw:=zbR _ hb;unfold execOp;rw[hop];rcases hk with rfl | rfl | rfl <;> (simp only[arI] at hw ⊢;simp[h1,h2,eqGuard,binOp,Op.intArith,hw])
end
section
variable{α β γ:Type}[Rep α][Rep β][Rep γ]
def Rd.t2(y:Dt)(o:Ow α)(x:α):Rd where
 rd M G w v:=∃ u1 u2,v=.tuple #[u1,u2]/\(y.rd M w u1/\y.nb=true)/\(dow o G x).rd M w u2
 stable:=λ⟨u1,u2,hv,h2,h3⟩ e=>⟨u1,u2,hv,⟨y.stable h2.1 (λ k hk hm=>e k hk (hm.imp id λ ho=>(y.nob h2.2 k ho).elim)),h2.2⟩,(dow o _ x).stable h3 e⟩
 weak:=λ⟨u1,u2,hv,h2,h3⟩ e=>⟨u1,u2,hv,⟨y.weak h2.1 e,h2.2⟩,(dow o _ x).weak h3 e⟩
 more:=λ⟨u1,u2,hv,h2,⟨cs,h3,h4⟩⟩ e=>⟨u1,u2,hv,h2,⟨cs,o.more h3 e,h4⟩⟩
variable{fn:Func}{look:Nat->Option Dt}
theorem Sx.rn2{ow:Ow β}{t u:Nat}{y:α}{x:β}{r:α×β}(h:Sx (Frm.of w0) N M0 M Gs L O a w)(p:Nat)(hr:fn.results=#[.tmp t,.tmp u])(hl:(L++envO O).lookup t=some (dt y))(hl2:(L++envO O).lookup u=some (dow ow G x))(hG:∀ b,G b->zp Gs p b)(hm:some (y,x)=some r):
  bodyPost P fn (RetN M0 w0 (.t2 (dt r.1) ow r.2)) .ret a w:=by
 injection hm with hm;subst hm;have hM:∀ k,k<w.heap.size->M0 k\/G k->M k:=λ k _ hk=>hk.elim (h.ob.sub k) λ hk=>(h.ob.at_ p k (hG k hk)).2.1
 exact⟨h.st.defers,_,results_tmp2 hr a.tmps P w,_,G,Z,h.st.fr,λ b hb=>⟨(h.ob.at_ p b (hG b hb)).1,h.st.mok b (h.ob.at_ p b (hG b hb)).2.1⟩,_,_,Z,⟨(dt y).weak (h.st.has t _ hl) hM,Z⟩,(dow ow G x).weak (h.st.has u _ hl2) hM⟩
theorem FnN.fn2{f:FuncId}{ow:Ow α}{x:α}(h:FnN P f xs (.t2 y ow x)):Fn P f xs (dtup [y,dt x]):=λ M w vs hm hr=>(h M w vs hm hr).mono λ en w' ⟨v,G,he,hex,hG,u1,u2,hv,h1,⟨cs,h2,h3⟩⟩=>by
 have hw:∀ k,k<w'.heap.size->M k->(M k\/G k)/\¬ G k:=λ k _ hk=>⟨.inl hk,λ hg=>by have:=(hG k hg).1;have:=hm k hk;omega⟩
 exact⟨v,he,hex,[u1,u2],hv,.cons (y.weak h1.1 λ k hk hk2=>(hw k hk hk2).1) (.cons ⟨cs,Rep.weak (ow.toR h2) hw,h3⟩ .nil),λ q hq=>by
  simp only[List.mem_cons,List.not_mem_nil,or_false] at hq;rcases hq with rfl | rfl
  ·exact h1.2
  ·rfl⟩
end
section
variable{fn:Func}
variable{α:Type}[Rep α]
end
section
variable{α β γ:Type}[Rep α][Rep β][Rep γ]
variable{fn:Func}{look:Nat->Option Dt}
end
attribute [local irreducible] OpRel OpdR
class FldO (P:Program) (t:TypeId) (f:Nat) (fo:outParam Nat):Prop where
 h:fldB P t f fo=true
instance:FldC Runner 0 Tree (λ x=>x.t) 0:=⟨Runner.fld0⟩
instance:FldC Runner 1 (List Int) (λ x=>x.path) 1:=⟨Runner.fld1⟩
instance:FldC Runner 2 (List GMod) (λ x=>x.mods) 2:=⟨Runner.fld2⟩
instance:FldC Runner 3 (List GEvent) (λ x=>x.log) 3:=⟨Runner.fld3⟩
instance:FldC Runner 4 (List Int) (λ x=>x.out) 4:=⟨Runner.fld4⟩
instance:FldC Runner 5 Int (λ x=>x.fin) 5:=⟨Runner.fld5⟩
instance:FldC Runner 6 Int (λ x=>x.left) 6:=⟨Runner.fld6⟩
instance:FldC Machine 0 Tree (λ x=>x.t) 0:=⟨Machine.fld0⟩
instance:FldC Machine 1 (List Int) (λ x=>x.path) 1:=⟨Machine.fld1⟩
instance:FldC Machine 4 (List (Bx GMod)) (λ x=>x.modules) 4:=⟨Machine.fld4⟩
instance:FldC Machine 5 (List Int) (λ x=>x.out) 5:=⟨Machine.fld5⟩
instance:FldC Machine 6 (List GEvent) (λ x=>x.log) 6:=⟨Machine.fld6⟩
instance:FldC Machine 7 (List Str) (λ x=>x.part) 7:=⟨Machine.fld7⟩
instance:FldC Machine 8 Int (λ x=>x.left) 8:=⟨Machine.fld8⟩
section
variable{fn:Func}{l:List Oper}{x:Dt}
theorem xFaC{look:Nat->Option Dt}{f:Nat}(ho:o.op=.fieldAddr t q f)(hp:OpdR M look q (dis (.pointer (some ⟨b,off,none⟩))))[c:FldO P t f fo]{z:Dt}(e:z=dis (.pointer (some ⟨b,off+fo,none⟩)):=by rfl):OpRel P M look o z:=e ▸ xFa ho c.h hp
theorem Wv{look:Nat->Option Dt}{α β:Type}[Rep α][Rep β]{p:Operand}{f ob:Nat}{x:α}{get:α->β}(ho:o.op=.fieldAddr t p f)(hp:OpdR M look p (dbox g ob x))[c:FldC α f β get off]{z:Dt}(e:z=dbox g (ob+off) (get x):=by rfl)(ht:fldB P t f off=true:=by kernel_rfl):OpRel P M look o z:=e ▸ yM c.h ho (ht:=ht) hp
theorem op_lit1{look:Nat->Option Dt}{α:Type}[Rep α]{y:α}(ho:o.op=.buildSlice t 1 #[(0,q)])(hq:OpdR M look q (dt y))(hs:Rep.size α<=16777216:=by decide)(ht':slB P t (Rep.size α)=true:=by kernel_rfl)(hz':zlB P t=true:=by kernel_rfl):OpRel P M look o (dt [y]):=yf (opds:=[q]) ho (ht':=ht') (hz':=hz') Z Z (hsz:=(by simpa using hs)) (.cons hq .nil)
theorem opB{look:Nat->Option Dt}(h:OpRel P M look o x:=by
  first
   | exact oM Z (zU Z)
   | exact xNc Z (tp Z)
   | exact xFaC Z (tp Z)
   | exact xNcP Z (tp Z)
   | exact xLc (sb:=0) (.head _) Z Z Z (tp Z) Z
   | exact xLc (sb:=0) (.tail _ (.head _)) Z Z Z (tp Z) Z
   | exact xLc (sb:=0) (.tail _ (.tail _ (.head _))) Z Z Z (tp Z) Z
   | exact Wv Z (tp Z)
   | exact yx Z (tp Z)
   | exact op_lit1 Z (tp Z)):OpRel P M look o x:=h
theorem opGB{look:Nat->Option Dt}(h:OpRel P M look o x:=by
  first
   | exact opGA
   | exact yx Z opdB
   | exact Wv Z opdB
   | exact xNc Z opdB
   | exact xNcP Z opdB
   | exact xFaC Z opdB
   | exact oM Z (zU Z)):OpRel P M look o x:=h
theorem segC(h:Seg P M ops N L l L':=by repeat (first | exact .nil | apply sc rfl opB | apply sc rfl opA | apply sg rfl rfl (λ _=>opGB))):Seg P M ops N L l L':=h
theorem sP(n:Nat)(h:Seg P M ops N L (l.take n) L1:=by exact segC)(r:Seg P M ops N L1 (l.drop n) L'):Seg P M ops N L l L':=sp n h r
theorem Sx.sqC(h:Sx F N M0 M Gs L O a w){id:Nat}{c2:Code}(ks:List Nat)(qp:List (Nat×Nat))(hQ:∀ a' w',Sx F N M0 M Gs L2 O2 a' w'->c2.wp P Q a' w')
  (hs:Seg P M ops N (L++envO O) ops.toList L':=by exact segC) (hk:selP ks L'=some L2:=by rfl) (hq:selQ qp L'=some O2:=by rfl) (hw:AllOw Gs O2:=by exact owA):(Code.seq (Code.region id ops false) c2).wp P Q a w:=
 h.sq hs ks hk qp hq hw hQ
theorem Sx.segC(h:Sx F N M0 M Gs L O a w)(n:Nat)(ks:List Nat)(qp:List (Nat×Nat))(hQ:∀{a' w'},Sx F N M0 M Gs L2 O2 a' w'->wpList P ops Q (l.drop n) a' w')
  (hs:Seg P M ops N (L++envO O) (l.take n) L':=by exact segC) (hk:selP ks L'=some L2:=by rfl) (hq:selQ qp L'=some O2:=by rfl) (hw:AllOw Gs O2:=by exact owA):wpList P ops Q l a w:=
 h.seg n hs ks hk qp hq hw (λ _ _ h_=>hQ h_)
end
class SetL (Gs:List (Nat->Prop)) (p:Nat) (f:outParam ((Nat->Prop)->List (Nat->Prop))):Prop where
 h:∀ G,Gs.set p G=f G
instance {g:Nat->Prop} {l:List (Nat->Prop)}:SetL (g::l) 0 (λ G=>G::l):=⟨λ _=>Z⟩
instance {g:Nat->Prop} {l:List (Nat->Prop)} {k:Nat} {f:(Nat->Prop)->List (Nat->Prop)} [s:SetL l k f]:SetL (g::l) (k+1) (λ G=>g::f G):=⟨λ G=>by rw[List.set_cons_succ,s.h]⟩
instance {g:Nat->Prop} {n k:Nat} {f:(Nat->Prop)->List (Nat->Prop)} [s:SetL (g::List.replicate n g) k f]:SetL (List.replicate (n+1) g) k f:=⟨s.h⟩
instance {g:Nat->Prop} {l:List (Nat->Prop)} {q k:Nat} {f f0:(Nat->Prop)->List (Nat->Prop)} [s0:SetL l q f0] [s:SetL (f0 g) k f]:SetL (l.set q g) k f:=⟨λ G=>by rw[s0.h,s.h]⟩
class NormG (Gs:List (Nat->Prop)) (Gs':outParam (List (Nat->Prop))):Prop where
 h:Gs=Gs'
instance:NormG [] []:=⟨Z⟩
instance {g:Nat->Prop} {l l':List (Nat->Prop)} [n:NormG l l']:NormG (g::l) (g::l'):=⟨by rw[n.h]⟩
instance {g:Nat->Prop}:NormG (List.replicate 0 g) []:=⟨Z⟩
instance {g:Nat->Prop} {k:Nat} {l:List (Nat->Prop)} [n:NormG (List.replicate k g) l]:NormG (List.replicate (k+1) g) (g::l):=⟨by rw[List.replicate_succ,n.h]⟩
instance {g:Nat->Prop} {l l':List (Nat->Prop)} {p:Nat} {f:(Nat->Prop)->List (Nat->Prop)} [n:NormG l l'] [s:SetL l' p f]:NormG (l.set p g) (f g):=⟨by rw[n.h,s.h]⟩
section
variable{fn:Func}{l:List Oper}{x:Dt}
variable{α β:Type}[Rep α][Rep β]
theorem Sx.gn[n:NormG Gs Gs'](h:Sx F N M0 M Gs L O a w):Sx F N M0 M Gs' L O a w:=by rw[← n.h];exact h
theorem opC{look:Nat->Option Dt}(h:OpRel P M look o x:=by first | exact opB | exact opA):OpRel P M look o x:=h
section
variable{S:List (List (Nat×Option Nat))}{xs:List (Nat×Dt)}
theorem regA(h:RegR P M ops N S L D i l xs:=by repeat (first | exact .nil | apply rc rfl rfl opC | apply rg rfl rfl rfl (λ _=>opGB))):RegR P M ops N S L D i l xs:=h
theorem RegR.app(h:RegR P M ops N S L D i l1 x1):∀ {j:Nat},j=i+l1.length->RegR P M ops N S L D j l2 x2->RegR P M ops N S L D i (l1++l2) (x1++x2):=by
 induction h with
 | nil=>intro j hj k;rw[hj] at k;exact k
 | cons hd hN hx h hr ih=>intro j hj k;exact .cons hd hN hx h (ih (by rw[hj,List.length_cons];omega) k)
theorem Sx.drA(h:Sx F N M0 M Gs L O a w){id:Nat}(hm:P.follows .mixedOrders=true)(S:List (List (Nat×Option Nat)))(ks:List Nat)(qp:List (Nat×Nat))(hQ:∀ a' w',Sx F N M0 M Gs L2 O2 a' w'->Q .normal a' w')
  (hs:RegR P M ops N S (L++envO O) D 0 ops.toList xs:=by exact regA) (hc:wO ops ops.size (cloT ops) S=true:=by decide +kernel) (hk:selP ks (xs++(L++envO O))=some L2:=by rfl) (hq:selQ qp (xs++(L++envO O))=some O2:=by rfl) (hw:AllOw Gs O2:=by exact owA):(Code.region id ops true).wp P Q a w:=
 h.dr hm S hc hs ks hk qp hq hw hQ
theorem Sx.drnA(h:Sx F N M0 M Gs L O a w){id:Nat}(hm:P.follows .mixedOrders=true)(k:Nat)(S:List (List (Nat×Option Nat)))(ks:List Nat)(qp:List (Nat×Nat))(hQ:∀ a' w',Sx F N M0 M Gs L2 O2 a' w'->wpList P ops Q (ops.toList.drop k) a' w')
  (hs:RegR P M ops N S (L++envO O) D 0 (ops.toList.take k) xs:=by exact regA) (hc:wO ops k (cloT ops) S=true:=by decide +kernel) (hkn:k<=ops.size:=by decide) (hk:selP ks (xs++(L++envO O))=some L2:=by rfl) (hq:selQ qp (xs++(L++envO O))=some O2:=by rfl) (hw:AllOw Gs O2:=by exact owA):(Code.region id ops true).wp P Q a w:=
 h.drn hm k S hc hkn hs ks hk qp hq hw hQ
end
theorem Sx.cNA{oy:Ow β}{f:FuncId}{A:Array Operand}{l:List Operand}{y y':β}{f2:(Nat->Prop)->List (Nat->Prop)}(h:Sx F N M0 M Gs L O a w)(p sb:Nat)(hfn:FnS P f oy y xr y' (.frz yd))(ks qs:List Nat)
  (next:∀{G'' M' a' w'},Sx F N M0 M' (f2 G'') ((d,yd)::L2) ((sb,p,dnm oy G'' y' v0 [])::O2) a' w'->wpList P ops Q rest a' w')
  (hs:(L++envO O).lookup sb=some (dnm oy G y v0 cf):=by rfl) (hG:∀ b,G b->zp Gs p b:=by exact λ _ h=>h) (hh:opH o N=some d:=by rfl)
  (ho:o.op=.call { callee:=.value (.func f),args:=A,argTypes:=ts }:=by rfl) (hA:A.toList=.tmp k::l:=by rfl) (hf:fnB P f=true:=by kernel_rfl) (hk0:(L++envO O).lookup k=some (dis v0):=by rfl) (hp:p<Gs.length:=by simp)
  (hx:ArgsR M (λ s=>(L++envO O).lookup s) l xr:=by exact argsA) (hk:selP ks L=some L2:=by rfl) (hq:selR L O qs p=some O2:=by rfl) (hsn:L2.lookup sb=none:=by rfl) (hne:sb≠d:=by decide) [sl:SetL Gs p f2]:wpList P ops Q (o::rest) a w:=by
 have e:A=(.tmp k::l).toArray:=by rw[← hA]
 subst e;exact h.cSF p (h.bkN (hs:=hs) (hG:=hG)) hh ho hf (Eq.trans (h.st.has k _ hk0) (h.st.has sb _ hs).1.symm) hp hx hfn ks hk qs hq hsn hne @λ G'' M' a' w' st=>next (by rw[← sl.h];exact st)
theorem Sx.pkZ{o:Nat}{cs:List Value}{x:α}(h:Sx F N M0 M Gs L O a w)(s:Nat)(hs:(L++envO O).lookup s=some (dpk b o cs x):=by rfl):CellsAt w b o cs:=h.pkS (hs:=hs)
section
variable{f:Nat}
theorem aK0(h:Q .normal a w)(hr:Region.ready .any ops listed=[]:=by decide +kernel):wpAnyH P .any ops Q S f listed a w:=aH0 hr h
theorem aK1(i:Nat)(h:wpList P ops (QH P ops Q S f (listed.setIfInBounds i true)) [o] a w)(hr:Region.ready .any ops listed=[i]:=by decide +kernel)(ho:ops[i]?=some o:=by rfl):wpAnyH P .any ops Q S (f+1) listed a w:=aH1 (hr:=hr) ho h
theorem aK2(i j:Nat)(h:wpList P ops (QH P ops Q S f (listed.setIfInBounds i true)) [o] a w)(h2:wpList P ops (QH P ops Q S f (listed.setIfInBounds j true)) [o2] a w)(hr:Region.ready .any ops listed=[i,j]:=by decide +kernel)(ho:ops[i]?=some o:=by rfl)(ho2:ops[j]?=some o2:=by rfl):wpAnyH P .any ops Q S (f+1) listed a w:=aH2 (hr:=hr) ho ho2 h h2
end
end
section
variable{fn:Func}{T:Prop}
theorem Sx.stA{α β:Type}[Rep α][Rep β]{t q:Nat}{x:α}{y0 y:β}{set:α->β->α}(h:Sx F N M0 M Gs L O a w)(sb p:Nat)(fs:FldS set off)(hvl:OpdR M (λ s=>(L++envO O).lookup s) vo (dt y))(ks qs:List Nat)
  (next:∀{M' w'},Sx F N M0 M' Gs L2 ((sb,p,dbox g 0 (set x y))::O2) a w'->wpList P ops Q rest a w') (ho:o.op=.store t (.tmp q) vo:=by rfl) (hgd:o.guard=none:=by rfl) (hd:o.dst=none:=by rfl)
  (hpl:(L++envO O).lookup q=some (dbox g off y0):=by rfl) (hsl:(L++envO O).lookup sb=some (dbox g 0 x):=by rfl) (ht:tyB P t (Rep.agg β) (Rep.size β)=true:=by kernel_rfl) (hg:Gs[p]?=some (oneB g):=by rfl)
  (hk:selP ks L=some L2:=by rfl) (hq:selR L O qs p=some O2:=by rfl) (hdn:L2.lookup sb=none:=by rfl):wpList P ops Q (o::rest) a w:=
 h.store p fs ho hgd hd ht hg hpl hvl hsl ks hk qs hq hdn (λ _ _ h_=>next h_)
theorem Sx.alA{α:Type}[Rep α]{t:Nat}{zs:List Value}{d0:α}(h:Sx F N M0 M Gs L O a w)(p:Nat)(hz:∀ (M:Nat->Prop) (w:World),Rep.rdc M w zs d0)(ks qs:List Nat)
  (next:∀{M' a' w'} b,Sx F N M0 M' (Gs.set p (oneB (some b))) L2 ((d,p,dbox (some b) 0 d0)::O2) a' w'->wpList P ops Q rest a' w') (hh:opH o N=some d:=by rfl) (ho:o.op=.alloc t:=by rfl) (hzc:wW P t=some zs:=by kernel_rfl) (hp:p<Gs.length:=by simp)
  (hk:selP ks L=some L2:=by rfl) (hq:selR L O qs p=some O2:=by rfl) (hdn:L2.lookup d=none:=by rfl):wpList P ops Q (o::rest) a w:=
 h.alloc p hh ho hzc hz hp ks hk qs hq hdn (λ b _ _ _ h_=>next b h_)
theorem Sx.apA{α:Type}[Rep α]{x:Nat}{xs ys r:List α}{z:Dt}(h:Sx F N M0 M Gs L O a w)(p:Nat)(hz:IsRow z ys)(hm:appO bytes xs ys=some r)(ks qs:List Nat)
  (next:∀{M' a' w'} g',Sx F N M0 M' (Gs.set p (oneB g')) L2 ((d,p,dtip g' e r)::O2) a' w'->wpList P ops Q rest a' w') (hh:opH o N=some d:=by rfl)
  (ho:o.op=.call { callee:=.builtin .append,args:=#[.tmp s,.tmp x],argTypes:=#[t,t] }:=by rfl) (hs:(L++envO O).lookup s=some (dtip g e xs):=by rfl) (hel:elB P t e (Rep.size α) bytes=true:=by kernel_rfl)
  (hg:Gs[p]?=some (oneB g):=by rfl) (hx:(L++envO O).lookup x=some z:=by rfl)
  (hk:selP ks L=some L2:=by rfl) (hq:selR L O qs p=some O2:=by rfl) (hdn:L2.lookup d=none:=by rfl):wpList P ops Q (o::rest) a w:=
 h.app p hh ho hel hs hg hx hz hm ks hk qs hq hdn (λ g' _ _ _ h_=>next g' h_)
variable{α β γ:Type}[Rep α][Rep β][Rep γ]
variable{oy:Ow β}{y':β}
theorem Sx.hdA{ow:Ow α}{x:α}{ys:List β}{upd:List β->α}(h:Sx F N M0 M Gs L O a w)(s p:Nat)(hP:PH ow x v0 cf (Ow.row e oy) b off ys upd)(qs:List Nat)
  (next:∀ (g:Nat) (A:Option Addr) (cap:Nat),(ys.length≠0->true=true->A=some ⟨g,0,none⟩)->Sx F N M0 M Gs L ((s,p,dnm ow G x v0 ((true,b,off,.slice A ys.length cap)::cf))::O2) a w->T)
  (hs:(L++envO O).lookup s=some (dnm ow G x v0 cf):=by rfl) (hn:L.lookup s=none:=by rfl) (hG:∀ b,G b->zp Gs p b:=by exact λ _ h=>h) (hq:selR L O qs p=some O2:=by rfl):T:=
 h.hdR p true (λ _=>hP) hs hn (hG:=hG) qs hq next
theorem Sx.sfA{ow:Ow α}{t q:Nat}{x:α}{y:β}{upd:β->α}(h:Sx F N M0 M Gs L O a w)(sb p:Nat)(hP:PH ow x v0 cf Ow.frz b off y upd)
  (hpl:OpdR M (λ s=>(L++envO O).lookup s) (.tmp q) (dis (.pointer (some ⟨b,off,none⟩)))) (hvl:OpdR M (λ s=>(L++envO O).lookup s) vo (dt y')) (ks qs:List Nat)
  (next:∀{w'},Sx F N M0 M Gs L2 ((sb,p,dnm ow G (upd y') v0 [])::O2) a w'->wpList P ops Q rest a w') (hs:(L++envO O).lookup sb=some (dnm ow G x v0 cf):=by rfl) (ho:o.op=.store t (.tmp q) vo:=by rfl) (hgd:o.guard=none:=by rfl) (hd:o.dst=none:=by rfl)
  (ht:tyB P t (Rep.agg β) (Rep.size β)=true:=by kernel_rfl) (hp:p<Gs.length:=by simp) (hn:L.lookup sb=none:=by rfl) (hG:∀ b,G b->zp Gs p b:=by exact λ _ h=>h)
  (hk:selP ks L=some L2:=by rfl) (hq:selR L O qs p=some O2:=by rfl) (hdn:L2.lookup sb=none:=by rfl):wpList P ops Q (o::rest) a w:=
 h.stF p hP (ho:=ho) (hgd:=hgd) (hd:=hd) ht (hp:=hp) hpl hvl (hs:=hs) (hn:=hn) (hG:=hG) ks (hk:=hk) qs (hq:=hq) (hdn:=hdn) (λ _ h_=>next h_)
theorem Sx.shA{ow:Ow α}{t q:Nat}{upd:β->α}(h:Sx F N M0 M Gs L O a w)(sb tv p p2:Nat)(hpl:OpdR M (λ s=>(L++envO O).lookup s) (.tmp q) (dis (.pointer (some ⟨b,off,none⟩))))(ks qs:List Nat)
  (next:∀{G' w'},Sx F N M0 M ((Gs.set p G').set p2 (oneB none)) L2 ((sb,p,dnm ow G' (upd y') v0 [])::O2) a w'->wpList P ops Q rest a w')
  (ho:o.op=.store t (.tmp q) (.tmp tv):=by rfl) (hgd:o.guard=none:=by rfl) (hd:o.dst=none:=by rfl) (hvl:(L++envO O).lookup tv=some (dow oy G3 y'):=by rfl) (hs:(L++envO O).lookup sb=some (dhl ow oy G v0 b off upd):=by rfl)
  (ht:tyB P t (Rep.agg β) (Rep.size β)=true:=by kernel_rfl) (hp:p<Gs.length:=by simp) (hp2:p2<Gs.length:=by simp) (hne:p≠p2:=by decide) (hG:∀ b,G b->zp Gs p b:=by exact λ _ h=>h) (hG3:∀ b,G3 b->zp Gs p2 b:=by exact λ _ h=>h)
  (hk:selP ks L=some L2:=by rfl) (hq:selR L O qs p=some O2:=by rfl) (hq2:O2.all (λ q=>q.2.1 != p2)=true:=by rfl) (hdn:L2.lookup sb=none:=by rfl):wpList P ops Q (o::rest) a w:=
 h.stH p p2 ho hgd hd ht hp hp2 hne hpl hvl hs hG hG3 ks hk qs hq hq2 hdn (λ _ _ h_=>next h_)
theorem Sx.asA{o1 o2:Ow γ}{x:γ}(h:Sx F N M0 M Gs L O a w)(s p:Nat)(hw:Imp o1 o2 x)(qs:List Nat)(hs:(L++envO O).lookup s=some (dnm o1 G x v0 cf):=by rfl)(hn:L.lookup s=none:=by rfl)(hG:∀ b,G b->zp Gs p b:=by exact λ _ h=>h)(hq:selR L O qs p=some O2:=by rfl):
  Sx F N M0 M Gs L ((s,p,dnm o2 G x v0 cf)::O2) a w:=h.asO p hs hn hG hw qs hq
end
section
variable{f:Nat}
variable{α β:Type}[Rep α][Rep β]
theorem Sx.tM(h:Sx F N M0 M Gs L O a w)(i sb:Nat)(hS:S w)(next:∀ a',Sx F N M0 M Gs ((d,y)::L) O a' w->wpAnyH P .any ops Q S f (listed.setIfInBounds i true) a' w)
  (ho:ops[i]?=some o:=by rfl) (hh:opH o N=some d:=by rfl) (hs:Region.noSelect ops=true:=by decide +kernel) (hf:Region.free .any ops listed i=true:=by decide +kernel) (hr:(Region.ready .any ops listed).contains i=true:=by decide +kernel)
  (hQ:∀ c a w v,Q (.panic c) (a.put o.dst v) w->Q (.panic c) a w:=by exact λ _ _ _ _ h=>h) (hl:(L++envO O).lookup sb=some y:=by rfl) (hn:y.nb=true:=by rfl) (hop:o.op=.move q:=by rfl) (hq:q=.tmp sb:=by rfl):wpAnyH P .any ops Q S (f+1) listed a w:=
 h.tkM ho hh (hs:=hs) (hf:=hf) (hr:=hr) (hQ:=hQ) hS hl hn hop hq next
theorem Sx.tN{ow:Ow α}{x:α}(h:Sx F N M0 M Gs L O a w)(i sb:Nat)(hS:S w)(next:∀ a',Sx F N M0 M Gs ((d,dis v0)::L) O a' w->wpAnyH P .any ops Q S f (listed.setIfInBounds i true) a' w)
  (ho:ops[i]?=some o:=by rfl) (hh:opH o N=some d:=by rfl) (hs:Region.noSelect ops=true:=by decide +kernel) (hf:Region.free .any ops listed i=true:=by decide +kernel) (hr:(Region.ready .any ops listed).contains i=true:=by decide +kernel)
  (hQ:∀ c a w v,Q (.panic c) (a.put o.dst v) w->Q (.panic c) a w:=by exact λ _ _ _ _ h=>h) (hl:(L++envO O).lookup sb=some (dnm ow G x v0 cf):=by rfl) (hop:o.op=.move q:=by rfl) (hq:q=.tmp sb:=by rfl):wpAnyH P .any ops Q S (f+1) listed a w:=
 h.tkN ho hh (hs:=hs) (hf:=hf) (hr:=hr) (hQ:=hQ) hS hl hop hq next
theorem Sx.tA{n:Nat}{cs:List Value}{x:α}(h:Sx F N M0 M Gs L O a w)(i sb:Nat)(next:∀ a',Sx F N M0 M Gs ((d,dis (.pointer (some ⟨b,off+fo,none⟩)))::L) O a' w->wpAnyH P .any ops Q (λ w=>CellsAt w b off cs) f (listed.setIfInBounds i true) a' w)
  (ho:ops[i]?=some o:=by rfl) (hh:opH o N=some d:=by rfl) (hs:Region.noSelect ops=true:=by decide +kernel) (hf:Region.free .any ops listed i=true:=by decide +kernel) (hr:(Region.ready .any ops listed).contains i=true:=by decide +kernel)
  (hQ:∀ c a w v,Q (.panic c) (a.put o.dst v) w->Q (.panic c) a w:=by exact λ _ _ _ _ h=>h) (hl:(L++envO O).lookup sb=some (dpk b off cs x):=by rfl) (hop:o.op=.fieldAddr t q n:=by rfl) (ht:fldB P t n fo=true:=by exact FldO.h) (hq:q=.tmp sb:=by rfl):wpAnyH P .any ops Q (λ w=>CellsAt w b off cs) (f+1) listed a w:=
 h.tkA ho hh hs hf hr hQ hl hop ht hq next
theorem Sx.tF{cs:List Value}{x:α}{get:α->β}(h:Sx F N M0 M Gs L O a w)(i sb s2:Nat)(fl:Fld get fo)(next:∀ a',Sx F N M0 M Gs ((d,dt (get x))::L) O a' w->wpAnyH P .any ops Q (λ w=>CellsAt w b off cs) f (listed.setIfInBounds i true) a' w)
  (ho:ops[i]?=some o:=by rfl) (hh:opH o N=some d:=by rfl) (hs:Region.noSelect ops=true:=by decide +kernel) (hf:Region.free .any ops listed i=true:=by decide +kernel) (hr:(Region.ready .any ops listed).contains i=true:=by decide +kernel)
  (hQ:∀ c a w v,Q (.panic c) (a.put o.dst v) w->Q (.panic c) a w:=by exact λ _ _ _ _ h=>h) (hl:(L++envO O).lookup sb=some (dpk b off cs x):=by rfl) (hl2:(L++envO O).lookup s2=some (dis (.pointer (some ⟨b,off+fo,none⟩))):=by rfl) (hop:o.op=.load t q:=by rfl) (ht:tyB P t (Rep.agg β) (Rep.size β)=true:=by kernel_rfl) (hq:q=.tmp s2:=by rfl):wpAnyH P .any ops Q (λ w=>CellsAt w b off cs) (f+1) listed a w:=
 h.tkF fl ho hh hs hf hr hQ hl hl2 hop ht hq next
end
section
variable{fn:Func}{l:List Oper}{id:Nat}{x:Dt}
variable{α β:Type}{B:Option β}{r:β}
theorem opZ{look:Nat->Option Dt}(h:OpRel P M look o x:=by
  first
   | exact oM Z (zU Z)
   | exact oM Z (tp Z)
   | exact oA Z (tp Z)
   | exact oA Z cI
   | exact qe Z (tp Z)
   | exact oCA Z (tp Z) (tp Z)
   | exact oCA Z (tp Z) cI
   | exact zz Z (tp Z)
   | exact oA Z cB
   | exact oM Z cI
   | exact oM Z cB
   | exact WB Z (tp Z)
   | exact oLA Z (tp Z)
   | exact xArC Z (tp Z) cI (by with_reducible assumption)
   | exact xArC Z (tp Z) (tp Z) (by with_reducible assumption)
   | exact xArC Z cI (tp Z) (by with_reducible assumption)
   | exact xIdx Z (tp Z) (tp Z) (by with_reducible assumption)
   | exact oCA Z (tp Z) (zt)
   | exact oA Z (zt)
   | exact oM Z (zt)
   | exact xExt Z (tp Z) Z
   | exact xByte Z (tp Z) (tp Z) (by with_reducible assumption)
   | exact xCat Z (tp Z) (tp Z) (by with_reducible assumption)
   | exact xCutL Z (tp Z) (tp Z) (by with_reducible assumption)
   | exact xCutH Z (tp Z) (tp Z) (by with_reducible assumption)
   | exact xCutLH Z (tp Z) (tp Z) (tp Z) (by with_reducible assumption)
   | exact Yv Z (tp Z)
   | exact xk Z (tp Z) (tp Z)
   | exact Za Z (tp Z) (tp Z)
   | exact xNc Z (tp Z)
   | exact xFaC Z (tp Z)
   | exact xNcP Z (tp Z)
   | exact xLc (sb:=0) (.head _) Z Z Z (tp Z) Z
   | exact xLc (sb:=0) (.tail _ (.head _)) Z Z Z (tp Z) Z
   | exact xLc (sb:=0) (.tail _ (.tail _ (.head _))) Z Z Z (tp Z) Z
   | exact Wv Z (tp Z)
   | exact yx Z (tp Z)
   | exact op_lit1 Z (tp Z)
   | exact xMin Z (tp Z) (tp Z)
   | (apply JN Z argsA;first | exact Ct1.h (by with_reducible assumption) | exact Ct2.h (by with_reducible assumption) | exact Ct3.h (by with_reducible assumption) | exact Ct4.h (by with_reducible assumption) | exact Ct0.h (by with_reducible assumption) | with_reducible assumption)
   | exact op_eqT Z (tp Z) opdB
   | exact op_neT Z (tp Z) opdB
   | exact xSliLH Z opdB opdB opdB (by with_reducible assumption)
   | exact xSliL Z opdB opdB (by with_reducible assumption)
   | exact za1 Z opdB opdB (by with_reducible assumption)
   | exact xArC Z opdB opdB (by with_reducible assumption)
   | exact oCA Z opdB opdB
   | exact xCat Z opdB opdB (by with_reducible assumption)
   | exact xIdx Z opdB opdB (by with_reducible assumption)
   | exact xByte Z opdB opdB (by with_reducible assumption)
   | exact xCutL Z opdB opdB (by with_reducible assumption)
   | exact xCutH Z opdB opdB (by with_reducible assumption)
   | exact xCutLH Z opdB opdB opdB (by with_reducible assumption)):OpRel P M look o x:=h
theorem opGZ{look:Nat->Option Dt}(h:OpRel P M look o x:=by
  first
   | exact oM Z opdB
   | exact zz Z opdB
   | exact WB Z opdB
   | exact qe Z opdB
   | exact oCA Z opdB opdB
   | exact oLA Z opdB
   | exact oA Z opdB
   | exact op_eqT Z opdB opdB
   | exact op_neT Z opdB opdB
   | exact xArC Z opdB opdB (gh (by with_reducible assumption) (by with_reducible assumption))
   | exact xIdx Z opdB opdB (gh (by with_reducible assumption) (by with_reducible assumption))
   | exact xByte Z opdB opdB (gh (by with_reducible assumption) (by with_reducible assumption))
   | exact xCat Z opdB opdB (gh (by with_reducible assumption) (by with_reducible assumption))
   | exact xCutH Z opdB opdB (gh (by with_reducible assumption) (by with_reducible assumption))
   | exact xCutL Z opdB opdB (gh (by with_reducible assumption) (by with_reducible assumption))
   | exact za1 Z opdB opdB (gh (by with_reducible assumption) (by with_reducible assumption))
   | exact yx Z opdB
   | exact Wv Z opdB
   | exact xNc Z opdB
   | exact xNcP Z opdB
   | exact xFaC Z opdB
   | exact oM Z (zU Z)
   | (apply JN Z argsB;first | exact Ct1.h (gh (by with_reducible assumption) (by with_reducible assumption)) | exact Ct2.h (gh (by with_reducible assumption) (by with_reducible assumption)) | exact Ct3.h (gh (by with_reducible assumption) (by with_reducible assumption)))):OpRel P M look o x:=h
theorem segZ(h:Seg P M ops N L l L':=by repeat (first | exact .nil | apply sc rfl opZ | apply sg rfl rfl (λ _=>opGZ))):Seg P M ops N L l L':=h
theorem sZ(n:Nat)(h:Seg P M ops N L (l.take n) L1:=by exact segZ)(r:Seg P M ops N L1 (l.drop n) L'):Seg P M ops N L l L':=sp n h r
theorem Sx.z1(h:Sx F N M0 M Gs L O a w)(next:∀{a' w'},Sx F N M0 M Gs L2 [] a' w'->Q .normal a' w')(hs:Seg P M ops N (L++envO O) ops.toList L':=by exact segZ)(hk:kp L' []=some L2:=by rfl):(Code.region id ops false).wp P Q a w:=
 h.go (qp:=[]) hs hk Z trivial (λ _ _ h_=>next h_)
theorem Sx.zo(h:Sx F N M0 M Gs L O a w)(qp:List (Nat×Nat))(next:∀{a' w'},Sx F N M0 M Gs L2 O2 a' w'->Q .normal a' w')(hs:Seg P M ops N (L++envO O) ops.toList L':=by exact segZ)(hk:kp L' []=some L2:=by rfl)(hq:selQ qp L'=some O2:=by rfl)(hw:AllOw Gs O2:=by exact owA):(Code.region id ops false).wp P Q a w:=
 h.go hs hk hq hw (λ _ _ h_=>next h_)
theorem Sx.zg(h:Sx F N M0 M Gs L O a w)(n:Nat)(next:∀{a' w'},Sx F N M0 M Gs L2 [] a' w'->wpList P ops Q (l.drop n) a' w')(hs:Seg P M ops N (L++envO O) (l.take n) L':=by exact segZ)(hk:kp L' []=some L2:=by rfl):wpList P ops Q l a w:=
 h.go2 (qp:=[]) n hs hk Z trivial (λ _ _ h_=>next h_)
theorem Sx.zh(h:Sx F N M0 M Gs L O a w)(n:Nat)(qp:List (Nat×Nat))(next:∀{a' w'},Sx F N M0 M Gs L2 O2 a' w'->wpList P ops Q (l.drop n) a' w')(hs:Seg P M ops N (L++envO O) (l.take n) L':=by exact segZ)(hk:kp L' []=some L2:=by rfl)(hq:selQ qp L'=some O2:=by rfl)(hw:AllOw Gs O2:=by exact owA):wpList P ops Q l a w:=
 h.go2 n hs hk hq hw (λ _ _ h_=>next h_)
theorem segV(h:SegW P M ops N L l L':=by repeat (first | exact .nil | apply sw rfl opZ | apply swg rfl rfl (λ _=>opGZ))):SegW P M ops N L l L':=h
theorem Sx.zw(h:Sx F N M0 M Gs L O a w)(next:∀{a' w'},Sx F N M0 M Gs L2 [] a' w'->Q .normal a' w')(hs:SegW P M ops N (L++envO O) ops.toList L':=by exact segV)(hk:kp L' []=some L2:=by rfl)(hm:P.follows .mixedOrders=true:=by kernel_rfl)(hc:wO ops ops.size (cloT ops) (srcW ops)=true:=by decide +kernel):(Code.region id ops true).wp P Q a w:=
 h.gw (qp:=[]) hm ops.size (by rwa[show ops.size=ops.toList.length from by simp,List.take_length]) hc (Nat.le_refl _) hk Z trivial λ a' w' h=>by
  rw[show ops.size=ops.toList.length from by simp,List.drop_length];exact Kb (next h)
theorem Sx.zv(h:Sx F N M0 M Gs L O a w)(qp:List (Nat×Nat))(next:∀ a' w',Sx F N M0 M Gs L2 O2 a' w'->Q .normal a' w')(hs:SegW P M ops N (L++envO O) ops.toList L':=by exact segV)(hk:kp L' []=some L2:=by rfl)(hq:selQ qp L'=some O2:=by rfl)(hw:AllOw Gs O2:=by exact owA)(hm:P.follows .mixedOrders=true:=by kernel_rfl)(hc:wO ops ops.size (cloT ops) (srcW ops)=true:=by decide +kernel):(Code.region id ops true).wp P Q a w:=
 h.gw hm ops.size (by rwa[show ops.size=ops.toList.length from by simp,List.take_length]) hc (Nat.le_refl _) hk hq hw λ a' w' h=>by
  rw[show ops.size=ops.toList.length from by simp,List.drop_length];exact Kb (next a' w' h)
theorem Sx.zu(h:Sx F N M0 M Gs L O a w)(k:Nat)(qp:List (Nat×Nat))(next:∀{a' w'},Sx F N M0 M Gs L2 O2 a' w'->wpList P ops Q (ops.toList.drop k) a' w')(hs:SegW P M ops N (L++envO O) (ops.toList.take k) L':=by exact segV)(hk:kp L' []=some L2:=by rfl)(hq:selQ qp L'=some O2:=by rfl)(hw:AllOw Gs O2:=by exact owA)(hm:P.follows .mixedOrders=true:=by kernel_rfl)(hc:wO ops k (cloT ops) (srcW ops)=true:=by decide +kernel)(hkn:k<=ops.size:=by decide):(Code.region id ops true).wp P Q a w:=
 h.gw hm k hs hc hkn hk hq hw (λ _ _ h_=>next h_)
theorem Sx.ze[Rep α]{t:Nat}{x r:α}(h:Sx (Frm.of w0) N M0 M Gs L O a w)(hm:some x=some r)(hq:∀ a' w',bodyPost P fn (RetP M0 w0 (dt r)) .ret a' w'->Q .normal a' w':=by exact λ _ _ h=>h)(hr:fn.results=#[.tmp t]:=by rfl)
  (hs:Seg P M ops N (L++envO O) ops.toList L':=by exact segZ) (hl:L'.lookup t=some (dt x):=by rfl):(Code.region id ops false).wp P Q a w:=by
 injection hm with hm;subst hm;exact h.gs_ hs λ a' w' st=>hq a' w' (zaE hr st hl λ v hv=>(dt x).weak hv λ k _ hk=>h.ob.sub k hk)
theorem Sx.zl[Rep α]{t:Nat}{x r:List α}(h:Sx (Frm.of w0) N M0 M Gs L O a w)(p:Nat)(hm:some x=some r)(hq:∀ a' w',bodyPost P fn (RetO e M0 w0 r) .ret a' w'->Q .normal a' w':=by exact λ _ _ h=>h)(hr:fn.results=#[.tmp t]:=by rfl)
  (hs:Seg P M ops N (L++envO O) ops.toList L':=by exact segZ) (hl:selQ [(t,p)] L'=some O2:=by rfl) (hw:AllOw Gs O2:=by exact owA) (hl2:(envO O2).lookup t=some (dtip g e x):=by rfl) (hg:∀ b,g=some b->zp Gs p b:=by first | exact λ _ h=>h | exact λ _ h=>(by cases h)):(Code.region id ops false).wp P Q a w:=
 h.gs_ hs λ a' w' st=>hq a' w' ((Sx.of_st (ks:=[]) st h.ob Z hl hw).ret_own p (hr:=hr) (hl:=hl2) (hg:=hg) hm)
theorem Sx.zn{σ:Type}{x:σ⊕β}{s:σ}{T:σ->Act->World->Prop}(h:Sx F N M0 M Gs L O a w)(qp:List (Nat×Nat))(h2:some (Sum.inl s)=some x)(hq:∀ a' w',(∃ s',x=.inl s'/\T s' a' w')->Q .normal a' w':=by exact λ _ _ h=>h)
  (hs:Seg P M ops N (L++envO O) ops.toList L':=by exact segZ) (hk:kp L' []=some L2:=by rfl) (hsq:selQ qp L'=some O2:=by rfl) (hw:AllOw Gs O2:=by exact owA) (k:∀ a' w',Sx F N M0 M Gs L2 O2 a' w'->T s a' w':=by intro _ _ _;exact fz):(Code.region id ops false).wp P Q a w:=
 h.gs_ hs λ a' w' st=>hq a' w' ⟨s,(Option.some.inj h2).symm,k a' w' (Sx.of_kp st h.ob hk hsq hw)⟩
theorem Sx.zc{c:Nat}{b:Bool}{x z:Code}{A:Option β}(h:Sx F N M0 M Gs L O a w)(hm:(if b=true then A else B)=some r)(ht:∀{a' w'},Sx F N M0 M Gs L2 [] a' w'->A=some r->wq P x Q2 a' w')(hf:∀{a' w'},Sx F N M0 M Gs L2 [] a' w'->B=some r->wq P z Q2 a' w')
  (hq:∀ a' w',(Code.cond (.tmp c) x z).wp P Q2 a' w'->Q .normal a' w':=by exact λ _ _ h=>h) (hs:Seg P M ops N (L++envO O) ops.toList L':=by exact segZ) (hk:kp L' []=some L2:=by rfl) (hl:L2.lookup c=some (dt b):=by rfl):(Code.region id ops false).wp P Q a w:=
 h.z1 (@λ a' w' st=>hq a' w' (st.cq hm (ht st) (hf st) hl)) hs hk
theorem Sx.zd{c:Nat}{b:Bool}{x z:Code}{A:Option β}(h:Sx F N M0 M Gs L O a w)(qp:List (Nat×Nat))(hm:(if b=true then A else B)=some r)(ht:∀{a' w'},Sx F N M0 M Gs L2 O2 a' w'->A=some r->wq P x Q2 a' w')(hf:∀{a' w'},Sx F N M0 M Gs L2 O2 a' w'->B=some r->wq P z Q2 a' w')
  (hq:∀ a' w',(Code.cond (.tmp c) x z).wp P Q2 a' w'->Q .normal a' w':=by exact λ _ _ h=>h) (hs:Seg P M ops N (L++envO O) ops.toList L':=by exact segZ) (hk:kp L' []=some L2:=by rfl) (hsq:selQ qp L'=some O2:=by rfl) (hw:AllOw Gs O2:=by exact owA) (hl:L2.lookup c=some (dt b):=by rfl):(Code.region id ops false).wp P Q a w:=
 h.zo qp (@λ a' w' st=>hq a' w' (st.cq hm (ht st) (hf st) hl)) hs hk hsq hw
end
section
variable{fn:Func}{ξ β γ:Type}[Rep ξ][Rep β][Rep γ]{oo:Ow (Bx ξ)}{t u:Nat}{x:ξ}{y:β}{z:γ}
variable{r:ξ×β}
theorem Sx.xF(h:Sx (Frm.chg w0 G) N M0 M Gs L O a w)(s p:Nat)(hm:some (x,y)=some r)(hr:fn.results=#[.tmp t]:=by rfl)(hl:(L++envO O).lookup t=some (dt y):=by rfl)(hs:(L++envO O).lookup s=some (dnm oo G' ⟨x⟩ v0 cf):=by rfl)(hG:∀ b,G' b->zp Gs p b:=by exact λ _ h=>h)(hfl:Flat (dt y):=by first | exact Z5 | exact Y8 | exact flat_str):bodyPost P fn (RetS M0 w0 G v0 oo ⟨r.1⟩ (.frz (dt r.2))) .ret a w:=h.rsF p hr hl hs hG (bxr hm) hfl
theorem Sx.xD(h:Sx (Frm.chg w0 G) N M0 M Gs L O a w)(s p:Nat)(hm:some (x,y)=some r)(hr:fn.results=#[.tmp t]:=by rfl)(hl:(L++envO O).lookup t=some (dt y):=by rfl)(hs:(L++envO O).lookup s=some (dnm oo G' ⟨x⟩ v0 cf):=by rfl)(hG:∀ b,G' b->zp Gs p b:=by exact λ _ h=>h):bodyPost P fn (RetS M0 w0 G v0 oo ⟨r.1⟩ (.frz (dt r.2))) .ret a w:=h.rsD p hr hl hs hG (bxr hm)
theorem Sx.xC(h:Sx (Frm.chg w0 G) N M0 M Gs L O a w)(s p:Nat)(hm:some (x,y)=some r)(hr:fn.results=#[.cell t ty]:=by rfl)(ht:tyB P ty (Rep.agg β) (Rep.size β)=true:=by kernel_rfl)(hl:(L++envO O).lookup t=some (dbox g 0 y):=by rfl)(hs:(L++envO O).lookup s=some (dnm oo G' ⟨x⟩ v0 cf):=by rfl)(hG:∀ b,G' b->zp Gs p b:=by exact λ _ h=>h):bodyPost P fn (RetS M0 w0 G v0 oo ⟨r.1⟩ (.frz (dt r.2))) .ret a w:=h.rsC p hr ht hl hs hG (bxr hm)
theorem Sx.xE2{r:ξ×β×γ}(h:Sx (Frm.chg w0 G) N M0 M Gs L O a w)(s p:Nat)(hm:some (x,y,z)=some r)(hr:fn.results=#[.tmp t,.tmp u]:=by rfl)(hl:(L++envO O).lookup t=some (dt y):=by rfl)(hl2:(L++envO O).lookup u=some (dt z):=by rfl)(hs:(L++envO O).lookup s=some (dnm oo G' ⟨x⟩ v0 cf):=by rfl)(hG:∀ b,G' b->zp Gs p b:=by exact λ _ h=>h):bodyPost P fn (RetS M0 w0 G v0 oo ⟨r.1⟩ (.frz (dtup [dt r.2.1,dt r.2.2]))) .ret a w:=h.rs2 p hr hl hl2 hs hG (bxr hm)
theorem Sx.y2{x:β}{y R:Dt}(h:Sx (Frm.of w0) N M0 M Gs L O a w)(hr:fn.results=#[.cell t ty,.tmp u]:=by rfl)(ht:tyB P ty (Rep.agg β) (Rep.size β)=true:=by kernel_rfl)(hl:(L++envO O).lookup t=some (dbox g 0 x):=by rfl)(hu:(L++envO O).lookup u=some y:=by rfl)(hn:y.nb=true:=by rfl)(hR:R=dtup [dt x,y]:=by rfl):bodyPost P fn (RetP M0 w0 R) .ret a w:=h.ret2c hr ht hl (h.frozen (hl:=hu)) hn hR
theorem Sx.yB{x r:β}(h:Sx (Frm.of w0) N M0 M Gs L O a w)(hm:some x=some r)(hr:fn.results=#[.cell t ty]:=by rfl)(ht:tyB P ty (Rep.agg β) (Rep.size β)=true:=by kernel_rfl)(hl:(L++envO O).lookup t=some (dbox g 0 x):=by rfl):bodyPost P fn (RetP M0 w0 (dt r)) .ret a w:=h.ret_box (hr:=hr) (ht:=ht) (hl:=hl) hm
end
section
theorem SegW.app(h:SegW P M ops N L l1 L1)(k:SegW P M ops N L1 l2 L'):SegW P M ops N L (l1++l2) L':=by
 induction h with
 | nil=>exact k
 | cons hd hN h _ ih=>exact .cons hd hN h (ih k)
theorem sV{l:List Oper}(n:Nat)(h:SegW P M ops N L (l.take n) L1:=by exact segV)(r:SegW P M ops N L1 (l.drop n) L'):SegW P M ops N L l L':=by
 have:=SegW.app h r;rwa[List.take_append_drop] at this
end
section
variable{f:Nat}
variable{α β:Type}[Rep α][Rep β]
end
end Go.Proofs.YtifgdhfcoaognaaGreatDoor
