import Derived.Test.YtdoidiipacdbpaaGreatDoorRG
import Derived.Test.YtdoidiipacdbpaaGreatDoorProg
import Derived.Maps.Own
import Derived.Test.YtdoidiipacdbpaaGreatDoorRB
namespace Go.Proofs.YtdoidiipacdbpaaGreatDoor
open Go.RowKit
section
variable{α:Type}[Rep α]
def dpk(b o:Nat)(cs:List Value)(x:α):Dt where
 rd M w v:=v=.pointer (some ⟨b,o,none⟩)/\¬ M b/\CellsAt w b o cs/\Rep.rdc M w cs x
 own:=noB
 nb:=true
 nob _ _ h:=h
 stable:=λ⟨hv,hb,hc,h⟩ e=>⟨hv,hb,hc.stable hb e,Rep.stable h e⟩
 weak:=λ{M M' w v} ⟨hv,hb,hc,h⟩ e=>⟨hv,λ hm=>by
  have hl:=Rep.len h;have hp:=Rep.pos (α:=α);obtain⟨u,hu⟩:∃ u,cs[0]?=some u:=⟨_,List.getElem?_eq_getElem (by omega)⟩;exact hb (e b (cell_lt (hc 0 u hu)) hm),hc,Rep.weak h e⟩
end
section
variable{P:Program}{ops:Array Oper}{fn:Func}{Q:Exit->Act->World->Prop}{S:World->Prop}{a:Act}{w w0:World}{f:Nat}{listed:Array Bool}{o:Oper}{F:Frm}{N:Nat}{M0 M:Nat->Prop}{Gs:List (Nat->Prop)}{L L2:Env}{O O2:List (Nat×Nat×Dt)}{ks qs:List Nat}{p p2:Nat}{T:Prop}
theorem Sx.addL{s:Nat}{y:Dt}(h:Sx F N M0 M Gs L O a w)(hy:y.rd M w (Act.at a s))(hn:y.nb=true):Sx F N M0 M Gs ((s,y)::L) O a w:=by
 refine⟨⟨h.st.fr,h.st.size,h.st.defers,h.st.mok,λ s' z hz=>?_⟩,h.ob,λ s' z hz=>?_,h.ow⟩
 ·
  simp only[List.cons_append,List.lookup_cons] at hz;by_cases he:s'=s
  ·
   subst he;simp only[beq_self_eq_true,Option.some.injEq] at hz;subst hz;exact hy
  ·
   have hb:(s' == s)=false:=by simpa using he
   simp only[hb] at hz;exact h.st.has s' z hz
 ·
  simp only[List.lookup_cons] at hz;split at hz
  ·
   injection hz with hz;subst hz;exact hn
  ·
   exact h.no s' z hz
section
variable{α β γ δ:Type}[Rep α][Rep β][Rep γ][Rep δ]
theorem Sx.opn{s:Nat}{x:α}(h:Sx F N M0 M Gs L O a w)(hs:(L++envO O).lookup s=some (dptr x))(next:∀ (b o:Nat) (cs:List Value),Sx F N M0 M Gs ((s,dpk b o cs x)::L) O a w->T):T:=by
 obtain⟨b,o,cs,h1,h2,h3,h4⟩:=h.st.has s _ hs;exact next b o cs (h.addL ⟨h1,h2,h3,h4⟩ rfl)
theorem Sx.clo{s b o:Nat}{cs:List Value}{x:α}(h:Sx F N M0 M Gs L O a w)(hs:(L++envO O).lookup s=some (dpk b o cs x)):Sx F N M0 M Gs ((s,dptr x)::L) O a w:=by
 obtain⟨h1,h2,h3,h4⟩:=h.st.has s _ hs;exact h.addL ⟨b,o,cs,h1,h2,h3,h4⟩ rfl
theorem Sx.pkS{s b o:Nat}{cs:List Value}{x:α}(h:Sx F N M0 M Gs L O a w)(hs:(L++envO O).lookup s=some (dpk b o cs x)):CellsAt w b o cs:=(h.st.has s _ hs).2.2.1
theorem Sx.tkY{i d:Nat}{v:Value}{y:Dt}(h:Sx F N M0 M Gs L O a w)(ho:ops[i]?=some o)(hh:opH o N=some d)(hs:Region.noSelect ops=true)(hf:Region.free .any ops listed i=true)(hr:(Region.ready .any ops listed).contains i=true)
  (hQ:∀ c a w,Q (.panic c) (a.put o.dst v) w->Q (.panic c) a w) (hS:S w) (hy:∀ w,S w->(execOp a.eval o).run P w=.ok (.value v) w) (hyr:y.rd M w v) (hn:y.nb=true)
  (next:∀ a',Sx F N M0 M Gs ((d,y)::L) O a' w->wpAnyH P .any ops Q S f (listed.setIfInBounds i true) a' w):wpAnyH P .any ops Q S (f+1) listed a w:=
 wpAnyH_take ho hs hf hr hQ (.inl ⟨YX (zZ hh).1,hy⟩) hS (by rw[(zZ hh).2.1];exact next _ (h.putL (zZ hh).2.2 hyr hn))
theorem Sx.tkA{i d sb b off fo n:Nat}{cs:List Value}{x:α}{t:TypeId}{q:Operand}(h:Sx F N M0 M Gs L O a w)(ho:ops[i]?=some o)(hh:opH o N=some d)(hs:Region.noSelect ops=true)(hf:Region.free .any ops listed i=true)(hr:(Region.ready .any ops listed).contains i=true)
  (hQ:∀ c a w v,Q (.panic c) (a.put o.dst v) w->Q (.panic c) a w) (hl:(L++envO O).lookup sb=some (dpk b off cs x)) (hop:o.op=.fieldAddr t q n) (ht:fldB P t n fo=true) (hq:q=.tmp sb)
  (next:∀ a',Sx F N M0 M Gs ((d,dis (.pointer (some ⟨b,off+fo,none⟩)))::L) O a' w->wpAnyH P .any ops Q (λ w=>CellsAt w b off cs) f (listed.setIfInBounds i true) a' w):wpAnyH P .any ops Q (λ w=>CellsAt w b off cs) (f+1) listed a w:=by
 obtain⟨h1,_,h3,_⟩:=h.st.has sb _ hl;exact h.tkY ho hh hs hf hr (λ c a w=>hQ c a w _) h3 (yFa hop ht (by rw[hq];exact h1)) rfl rfl next
theorem Sx.tkM{i d sb:Nat}{y:Dt}{q:Operand}(h:Sx F N M0 M Gs L O a w)(ho:ops[i]?=some o)(hh:opH o N=some d)(hs:Region.noSelect ops=true)(hf:Region.free .any ops listed i=true)(hr:(Region.ready .any ops listed).contains i=true)
  (hQ:∀ c a w v,Q (.panic c) (a.put o.dst v) w->Q (.panic c) a w) (hS:S w) (hl:(L++envO O).lookup sb=some y) (hn:y.nb=true) (hop:o.op=.move q) (hq:q=.tmp sb)
  (next:∀ a',Sx F N M0 M Gs ((d,y)::L) O a' w->wpAnyH P .any ops Q S f (listed.setIfInBounds i true) a' w):wpAnyH P .any ops Q S (f+1) listed a w:=
 h.tkY (v:=Act.at a sb) (y:=y) ho hh hs hf hr (λ c a w=>hQ c a w _) hS (yMv hop (by rw[hq];rfl)) (h.st.has sb _ hl) hn next
theorem Sx.tkF{i d sb s2 b off fo:Nat}{cs:List Value}{x:α}{get:α->β}(fl:Fld get fo){t:TypeId}{q:Operand}(h:Sx F N M0 M Gs L O a w)(ho:ops[i]?=some o)(hh:opH o N=some d)(hs:Region.noSelect ops=true)(hf:Region.free .any ops listed i=true)(hr:(Region.ready .any ops listed).contains i=true)
  (hQ:∀ c a w v,Q (.panic c) (a.put o.dst v) w->Q (.panic c) a w) (hl:(L++envO O).lookup sb=some (dpk b off cs x)) (hl2:(L++envO O).lookup s2=some (dis (.pointer (some ⟨b,off+fo,none⟩)))) (hop:o.op=.load t q) (ht:tyB P t (Rep.agg β) (Rep.size β)=true) (hq:q=.tmp s2)
  (next:∀ a',Sx F N M0 M Gs ((d,dt (get x))::L) O a' w->wpAnyH P .any ops Q (λ w=>CellsAt w b off cs) f (listed.setIfInBounds i true) a' w):wpAnyH P .any ops Q (λ w=>CellsAt w b off cs) (f+1) listed a w:=by
 obtain⟨h1,_,h3,h4⟩:=h.st.has sb _ hl;obtain⟨c,hc,hr2⟩:=fl.sub h4;have h5:Act.at a s2=.pointer (some ⟨b,off+fo,none⟩):=h.st.has s2 _ hl2;refine h.tkY (v:=mkv (Rep.agg β) c) (y:=dt (get x)) ho hh hs hf hr (λ c a w=>hQ c a w _) h3 (λ w hw=>?_) ⟨c,hr2,rfl⟩ rfl next;have:=yP (P:=P) (w:=w) (b:=b) (o:=off+fo) ht (Rep.len hr2) Rep.one (λ j u hj=>by rw[Nat.add_assoc];exact hw _ u (hc j u hj));have hv:a.eval q=.pointer (some ⟨b,off+fo,none⟩):=by rw[hq];exact h5
 unfold execOp;rw[hop];simp[Instr.loadAt,Instr.sureAddr,hv,this]
end
end
open Go.RowKit
def chkE(E:List Nat)(n k:Nat)(T:List (List Nat))(listed:Array Bool):Bool:=
 decide (listed.size=n)&&((List.range n).all λ i=>listed.getD i false == E.contains i)&&(E.all λ i=>decide (i<k)&&(T.getD i []).all λ j=>E.contains j)
theorem JY{P:Program}{ops:Array Oper}{Q:Exit->Act->World->Prop}:∀ (f:Nat) (listed:Array Bool) (a:Act) (w:World),wpAny P .any ops Q f listed a w->wpAnyH P .any ops Q (λ _=>True) f listed a w
 | 0,_,_,_,h=>h
 | f+1,_,_,_,h=>⟨h.1,λ i hi=>wpOp_mono (λ a' w' h'=>⟨trivial,JY f _ a' w' h'⟩) (h.2 i hi)⟩
section
variable{P:Program}{F:Frm}{N:Nat}{M0 M:Nat->Prop}{Gs:List (Nat->Prop)}{L L2:Env}{O O2:List (Nat×Nat×Dt)}{a:Act}{w w0:World}{Q:Exit->Act->World->Prop}{ops:Array Oper}{ks:List Nat}{o:Oper}{listed:Array Bool}{f:Nat}
variable{α:Type}[Rep α]
theorem Sx.drnE{D:List Dt}{xs:List (Nat×Dt)}(h:Sx F N M0 M Gs L O a w)(k:Nat)(E:List Nat)(S:List (List (Nat×Option Nat)))(hc:Yc E ops k (cloE E ops) S=true)(hkn:k<=ops.size)(hE:chkE E ops.size k (cloE E ops) listed=true)(hf:left ops.size listed=f)
  (hs:RegR P M ops N S (L++envO O) D 0 (ops.toList.take k) xs) (hx:∀ i∈E,∀ x d,xs[i]?=some (d,x)->(L++envO O).lookup d=some x) (ks:List Nat) (hk:selP ks (xs++(L++envO O))=some L2) (qp:List (Nat×Nat)) (hq:selQ qp (xs++(L++envO O))=some O2) (hw:AllOw Gs O2)
  (hQ:∀ a' w',Sx F N M0 M Gs L2 O2 a' w'->wpList P ops Q (ops.toList.drop k) a' w'):wpAnyH P .any ops Q (λ _=>True) f listed a w:=by
 unfold chkE at hE;simp only[Bool.and_eq_true,decide_eq_true_eq] at hE;obtain⟨⟨hsz,hl⟩,hEk⟩:=hE;have hl':∀ i,i<ops.size->listed.getD i false=E.contains i:=λ i hi=>by
  have:=List.all_eq_true.1 hl i (List.mem_range.2 hi);simpa using this
 have hEk':∀ i∈E,i<k/\∀ j∈(cloE E ops).getD i [],j∈E:=λ i hi=>by
  have:=List.all_eq_true.1 hEk i hi;simp only[Bool.and_eq_true,decide_eq_true_eq] at this;exact⟨this.1,λ j hj=>List.contains_iff_mem.1 (List.all_eq_true.1 this.2 j hj)⟩
 have hin:∀ j∈E,listed.getD j false=true:=λ j hj=>by
  rw[hl' j (by have:=(hEk' j hj).1;omega)];exact List.contains_iff_mem.2 hj
 refine JY _ _ _ _ (draw_anyE hc (λ j hj=>(hEk' j hj).1) hkn h.st hs (λ a' w' he st=>hQ a' w' (.of_st st h.ob hk hq hw)) f listed a w hf hin ⟨hsz,h.st.size,rfl,Ext0.refl _,λ i hi=>?_,λ i hi hl2 j hj=>?_,λ i hl2 x d hxi=>?_,λ s _=>rfl⟩)
 ·
  rcases Nat.lt_or_ge i ops.size with h1 | h1
  ·
   rw[hl' i h1];cases hcn:E.contains i with
   | false=>rfl
   |
    true=>
    have:=(hEk' i (List.contains_iff_mem.1 hcn)).1;omega
  ·
   have:¬ i<listed.size:=by omega
   simp[this]
 ·
  rw[hl' i hi] at hl2;exact hin j ((hEk' i (List.contains_iff_mem.1 hl2)).2 j hj)
 ·
  have hi:i<ops.size:=by rw[← hsz];exact YP hl2
  rw[hl' i hi] at hl2;exact h.st.has d x (hx i (List.contains_iff_mem.1 hl2) x d hxi)
theorem Sx.tkN{ow:Ow α}{i d sb:Nat}{G:Nat->Prop}{x:α}{v0:Value}{cf:CF}{S:World->Prop}{q:Operand}(h:Sx F N M0 M Gs L O a w)(ho:ops[i]?=some o)(hh:opH o N=some d)(hs:Region.noSelect ops=true)(hf:Region.free .any ops listed i=true)(hr:(Region.ready .any ops listed).contains i=true)
  (hQ:∀ c a w v,Q (.panic c) (a.put o.dst v) w->Q (.panic c) a w) (hS:S w) (hl:(L++envO O).lookup sb=some (dnm ow G x v0 cf)) (hop:o.op=.move q) (hq:q=.tmp sb)
  (next:∀ a',Sx F N M0 M Gs ((d,dis v0)::L) O a' w->wpAnyH P .any ops Q S f (listed.setIfInBounds i true) a' w):wpAnyH P .any ops Q S (f+1) listed a w:=
 h.tkY (v:=v0) (y:=dis v0) ho hh hs hf hr (λ c a w=>hQ c a w _) hS (yMv hop (by rw[hq];exact(h.st.has sb _ hl).1)) rfl rfl next
end
section
variable{P:Program}{F:Frm}{N:Nat}{M0 M:Nat->Prop}{Gs:List (Nat->Prop)}{L L2:Env}{O O2:List (Nat×Nat×Dt)}{a:Act}{w w0:World}{Q:Exit->Act->World->Prop}{ops:Array Oper}{rest:List Oper}{ks qs:List Nat}{o:Oper}{d e:Nat}
variable{β γ:Type}[Rep β][Rep γ]
end
open Go.RowKit
section
variable{α β γ:Type}[Rep α][Rep β][Rep γ]
variable{P:Program}{ops:Array Oper}{rest:List Oper}{fn:Func}{Q:Exit->Act->World->Prop}{a:Act}{w w0:World}{o:Oper}{F:Frm}{N d:Nat}{M0 M:Nat->Prop}{Gs:List (Nat->Prop)}{L L2:Env}{O O2:List (Nat×Nat×Dt)}{ks qs:List Nat}{T:Prop}{look:Nat->Option Dt}
theorem Sx.mvD{X:Dt}{s:Nat}{q:Operand}(h:Sx F N M0 M Gs L O a w)(p:Nat)(hh:opH o N=some d)(ho:o.op=.move q)(hq:q=.tmp s)(hs:(L++envO O).lookup s=some X)(hX:∀ b,X.own b->zk Gs p b)(hdn:L.lookup d=none)(qs:List Nat)(hsel:selR L O qs p=some O2)
  (next:∀ a',Sx F N M0 M Gs L ((d,p,X)::O2) a' w->wpList P ops Q rest a' w):wpList P ops Q (o::rest) a w:=by
 obtain⟨hgd,hd,hN⟩:=zZ hh;refine wpList_plain hgd λ K hK=>OpOut.wp (OpOut.of_value (v:=Act.at a s) (w':=w) ?_ ?_)
 ·
  unfold execOp;rw[ho,hq];simp only[Sem.run_pure];rfl
 ·
  rw[hd];exact hK _ _ (next _ ((h.drop hsel).putO hN hdn (h.st.has s _ hs) hX))
variable{f:Nat}{listed:Array Bool}
end
open Go.RowKit
section
variable{P:Program}{fn:Func}{F:Frm}{N:Nat}{M0 M M':Nat->Prop}{Gs:List (Nat->Prop)}{L L' L2:Env}{O O2:List (Nat×Nat×Dt)}{a:Act}{w w' w0:World}
variable{α β γ:Type}[Rep α][Rep β][Rep γ]
variable{Q:Exit->Act->World->Prop}{ops:Array Oper}{rest:List Oper}{ks qs:List Nat}{o:Oper}{d p e:Nat}
end
open Go.RowKit
structure Pn(α:Type) where
 b:Nat
 x:α
section
variable{α:Type}[Rep α]
instance:Rep (Pn α) where
 size:=1
 agg:=false
 rdc M w cs y:=cs=[.pointer (some ⟨y.b,0,none⟩)]/\(dptr y.x).rd M w (.pointer (some ⟨y.b,0,none⟩))
 len:=λ⟨h,_⟩=>by rw[h];rfl
 one _:=rfl
 pos:=Nat.one_pos
 oneCell:=λ⟨h,_⟩ c hc=>by
  rw[h] at hc;simp at hc;subst hc;rfl
 stable:=λ⟨h,hr⟩ e=>⟨h,(dptr _).stable hr e⟩
 weak:=λ⟨h,hr⟩ e=>⟨h,(dptr _).weak hr e⟩
variable{β:Type}[Rep β]{M G:Nat->Prop}{w:World}{b off:Nat}
theorem VP.mono{oy:Ow β}{c:List Value}{y:β}{R R':(Nat->Prop)->(Nat->Prop)->World->β->Prop}(h:VP oy M G w c y R)(hR:∀ {M' G':Nat->Prop} {w':World} {y':β},R M' G' w' y'->R' M' G' w' y'):VP oy M G w c y R':=by
 obtain⟨G1,G2,s1,s2,hd,hr,put⟩:=h;exact⟨G1,G2,s1,s2,hd,hr,λ hL hy h1 h2 h3=>hR (put hL hy h1 h2 h3)⟩
theorem HP.mono{oy:Ow β}{y:β}{R R':(Nat->Prop)->(Nat->Prop)->World->β->Prop}(h:HP oy M G w b off y R)(hR:∀ {M' G':Nat->Prop} {w':World} {y':β},R M' G' w' y'->R' M' G' w' y'):HP oy M G w b off y R':=by
 obtain⟨G1,G2,C,e,s1,s2,hb,n1,n2,hd,hh,hsz,hr,put⟩:=h;exact⟨G1,G2,C,e,s1,s2,hb,n1,n2,hd,hh,hsz,hr,λ hL hh' hy nb h1 g0 h2 h3=>hR (put hL hh' hy nb h1 g0 h2 h3)⟩
variable{ps:List (Nat×Nat)}{φ:List Nat->Prop}{e:TypeId}{o:Ow α}
section
variable{β γ:Type}[Rep β][Rep γ]
end
end
section
variable{P:Program}{fn:Func}{F:Frm}{N:Nat}{M0 M:Nat->Prop}{Gs:List (Nat->Prop)}{L L2:Env}{O O2:List (Nat×Nat×Dt)}{a:Act}{w w0:World}{Q:Exit->Act->World->Prop}{ops:Array Oper}{rest:List Oper}{ks qs:List Nat}{op:Oper}{d p:Nat}{T:Prop}
variable{α γ:Type}[Rep α][Rep γ]{look:Nat->Option Dt}{ps:List (Nat×Nat)}{φ:List Nat->Prop}{e:TypeId}{o:Ow α}
end
open Go.RowKit
section
variable{P:Program}{fn:Func}{F:Frm}{N d p:Nat}{M0 M:Nat->Prop}{Gs:List (Nat->Prop)}{L L2:Env}{O O2:List (Nat×Nat×Dt)}{a:Act}{w w0:World}{Q:Exit->Act->World->Prop}{ops:Array Oper}{rest:List Oper}{ks qs:List Nat}{o:Oper}
variable{α β γ:Type}[Rep α][Rep β][Rep γ]
end
open Go.RowKit
structure FnV(α β:Type) where
 g:α->Option β
structure Nilf where
deriving Inhabited
structure Np(α:Type) where
 o:Option α
instance {α β:Type}:Inhabited (FnV α β):=⟨⟨λ _=>none⟩⟩
instance {α:Type}:Inhabited (Np α):=⟨⟨none⟩⟩
instance {α:Type} [Inhabited α]:Inhabited (Bx α):=⟨⟨default⟩⟩
section
variable{α β γ:Type}[Rep α][Rep β][Rep γ]
instance:Rep (FnV α β) where
 size:=1
 agg:=false
 rdc M w cs x:=∃ v,cs=[v]/\(dfn1 Tryz.prog x.g).rd M w v
 len:=λ⟨_,h,_⟩=>by rw[h];rfl
 one _:=rfl
 pos:=Nat.one_pos
 oneCell:=λ⟨v,h,f,caps,ds,hv,_⟩ c hc=>by
  rw[h] at hc;simp at hc;subst hc;rw[hv];rfl
 stable:=λ⟨v,h,hr⟩ e=>⟨v,h,(dfn1 _ _).stable hr e⟩
 weak:=λ⟨v,h,hr⟩ e=>⟨v,h,(dfn1 _ _).weak hr e⟩
instance:Rep Nilf where
 size:=1
 agg:=false
 rdc _ _ cs _:=cs=[.nilFunc]
 len h:=by rw[h];rfl
 one _:=rfl
 pos:=Nat.one_pos
 oneCell:=λ h c hc=>by
  rw[h] at hc;simp at hc;subst hc;rfl
 stable h _:=h
 weak h _:=h
def npR(M:Nat->Prop)(w:World)(cs:List Value):Option α->Prop
 | none=>cs=[.pointer none]
 | some x=>∃ v,cs=[v]/\(dptr x).rd M w v
instance:Rep (Np α) where
 size:=1
 agg:=false
 rdc M w cs x:=npR M w cs x.o
 len:=λ{M w cs x} h=>by
  revert h
  cases x.o with
  | none=>intro h;rw[show cs=_ from h];rfl
  | some y=>rintro ⟨v,h,_⟩;rw[h];rfl
 one _:=rfl
 pos:=Nat.one_pos
 oneCell:=λ{M w cs x} h c hc=>by
  revert h
  cases x.o with
  |
   none=>
   intro h;rw[show cs=_ from h] at hc;simp at hc;subst hc;rfl
  |
   some y=>
   rintro ⟨v,h,b,o,_,hv,_⟩
   rw[h] at hc;simp at hc;subst hc;rw[hv];rfl
 stable:=λ{M w w' cs x} h e=>by
  revert h
  cases x.o with
  | none=>exact id
  | some y=>rintro ⟨v,h,hr⟩;exact⟨v,h,(dptr _).stable hr e⟩
 weak:=λ{M M' w cs x} h e=>by
  revert h
  cases x.o with
  | none=>exact id
  | some y=>rintro ⟨v,h,hr⟩;exact⟨v,h,(dptr _).weak hr e⟩
variable{P:Program}{fn:Func}{F:Frm}{N:Nat}{M0 M:Nat->Prop}{Gs:List (Nat->Prop)}{L L2:Env}{O O2:List (Nat×Nat×Dt)}{a:Act}{w w0:World}{Q:Exit->Act->World->Prop}{ops:Array Oper}{rest:List Oper}{ks qs:List Nat}{o:Oper}{d p:Nat}{T:Prop}{look:Nat->Option Dt}{q:Operand}
theorem OpRel.mono{x y:Dt}(h:OpRel P M look o x)(hxy:∀ {w:World} {v:Value},x.rd M w v->y.rd M w v):OpRel P M look o y:=λ a w hm hl=>(h a w hm hl).mono λ _ _ ⟨h1,h2⟩=>⟨h1,hxy h2⟩
theorem OpdR.mono{x y:Dt}(h:OpdR M look q x)(hxy:∀ {w:World} {v:Value},x.rd M w v->y.rd M w v):OpdR M look q y:=λ w a hl=>hxy (h w a hl)
def dany:Dt where
 rd _ _ _:=True
 own:=noB
 nb:=true
 nob _ _ h:=h
 stable h _:=h
 weak h _:=h
theorem FnS.any{f:FuncId}{oo:Ow α}{x x':α}{xs:List Dt}(h:FnS P f oo x xs x' .gone):FnS P f oo x xs x' (.frz dany):=λ M0 G w v vs h1 h2 h3 h4=>
 (h M0 G w v vs h1 h2 h3 h4).mono λ _ _ ⟨u,G',Gr,k1,k2,k3,k4,k5,k6,k7,_⟩=>⟨u,G',Gr,k1,k2,k3,k4,k5,k6,k7,trivial,rfl⟩
theorem Sx.boxW{ow:Ow α}{t:TypeId}{s:Nat}{G:Nat->Prop}{x:α}(h:Sx F N M0 M Gs L O a w)(p p2:Nat)(hh:opH o N=some d)(ho:o.op=.box t (.tmp s))(hs:(L++envO O).lookup s=some (dow ow G x))(hp:p<Gs.length)(hp2:p2<Gs.length)(hne:p≠p2)(hG:∀ b,G b->zk Gs p2 b)
  (ks:List Nat) (hk:selP ks L=some L2) (qs:List Nat) (hq:selR L O qs p=some O2) (hO:O2.all (λ q=>q.2.1 != p2)=true) (hdn:L2.lookup d=none)
  (next:∀ b G' M' a' w',Sx F N M0 M' ((Gs.set p G').set p2 (oneB none)) L2 ((d,p,dnm ow.box G' ⟨x⟩ (.pointer (some ⟨b,0,none⟩)) [])::O2) a' w'->wpList P ops Q rest a' w'):wpList P ops Q (o::rest) a w:=by
 obtain⟨hgd,hd,hN⟩:=zZ hh;have hy:ow.ro M G w (Act.at a s).cells.toList x:=by
  obtain⟨cs,h1,h2⟩:=h.st.has s _ hs;rw[h2,Zz (ow.toR h1)];exact h1
 have he:Ext0 w (w.alloc (.cells (Act.at a s).cells t)):=Ext0.alloc _ _;refine wpList_plain hgd λ K hK=>OpOut.wp (OpOut.of_value (v:=.pointer (some ⟨w.heap.size,0,none⟩)) (w':=w.alloc (.cells (Act.at a s).cells t)) ?_ ?_)
 ·
  unfold execOp;rw[ho];simp[Instr.box,newVar,newRow,newObj,YZ,Act.eval_tmp]
 ·
  rw[hd];have h1:=h.eff (G':=oneB (some w.heap.size)) hp ((Grown.of_ext he).mono λ b hb=>hb.elim) (λ b (hb:some w.heap.size=some b)=>by injection hb with hb;subst hb;exact⟨.inr (Nat.le_refl _),by simp⟩) hk hq;have h2:=h1.mrg (p:=p) (p2:=p2) (by simpa using hp) (by simpa using hp2) hne hO;have e1:WV (Gs.set p (oneB (some w.heap.size))) p p2=(Gs.set p (λ b=>oneB (some w.heap.size) b\/zk Gs p2 b)).set p2 (oneB none):=by
   unfold WV;rw[List.set_set]
   congr 2
   funext b
   rw[zl hp,zx hne]
  rw[e1] at h2;have hlt:∀ b,G b->b<w.heap.size:=λ b hb=>h.st.mok b (h.ob.at_ p2 b (hG b hb)).2.1
  refine hK _ _ (next w.heap.size _ _ _ _ (h2.putO hN hdn (x:=dnm ow.box (λ b=>oneB (some w.heap.size) b\/zk Gs p2 b) ⟨x⟩ (.pointer (some ⟨w.heap.size,0,none⟩)) []) ?_ λ b hb=>by rw[zx (Ne.symm hne),zl hp];exact hb));refine⟨rfl,⟨_,⟨w.heap.size,(Act.at a s).cells,t,G,rfl,heap_alloc_new w _,.inl rfl,λ hg=>absurd (hlt _ hg) (Nat.lt_irrefl _),λ b hb=>.inr (hG b hb),?_⟩,rfl⟩,λ q hq _=>by cases hq⟩;refine ow.later hy ⟨λ k hk hm=>?_,λ k hk _=>he.block k hk⟩;rcases hm with hm | hm
  ·
   exact hm.1
  ·
   have:w.heap.size=k:=by injection hm
   omega
end
open Go.RowKit
structure Warmth where
 on:Bool
 disk:Disk
 finder:Finder
 store:List Compiled
 mode:Int
instance:Rep Warmth:=Rep.iso (λ x=>((x.on,x.disk,x.finder,x.store,x.mode):Bool×Disk×Finder×List Compiled×Int))
structure Machine where
 t:Tree
 path:List Int
 known:Nilf
 load:FnV File (List Stmt)
 modules:List (Bx GMod)
 out:List Int
 log:List GEvent
 part:List Str
 left:Int
instance:Rep Machine:=Rep.iso (λ x=>((x.t,x.path,x.known,x.load,x.modules,x.out,x.log,x.part,x.left):Tree×List Int×Nilf×FnV File (List Stmt)×List (Bx GMod)×List Int×List GEvent×List Str×Int))
theorem Machine.fld0:Fld (λ x:Machine=>x.t) 0:=⟨λ h=>(Fld.fst).sub (α:=Tree×List Int×Nilf×FnV File (List Stmt)×List (Bx GMod)×List Int×List GEvent×List Str×Int) h⟩
theorem Machine.fld1:Fld (λ x:Machine=>x.path) 1:=⟨λ h=>((Fld.snd Fld.fst)).sub (α:=Tree×List Int×Nilf×FnV File (List Stmt)×List (Bx GMod)×List Int×List GEvent×List Str×Int) h⟩
theorem Machine.fld4:Fld (λ x:Machine=>x.modules) 4:=⟨λ h=>((Fld.snd (Fld.snd (Fld.snd (Fld.snd Fld.fst))))).sub (α:=Tree×List Int×Nilf×FnV File (List Stmt)×List (Bx GMod)×List Int×List GEvent×List Str×Int) h⟩
theorem Machine.fld5:Fld (λ x:Machine=>x.out) 5:=⟨λ h=>((Fld.snd (Fld.snd (Fld.snd (Fld.snd (Fld.snd Fld.fst)))))).sub (α:=Tree×List Int×Nilf×FnV File (List Stmt)×List (Bx GMod)×List Int×List GEvent×List Str×Int) h⟩
theorem Machine.fld6:Fld (λ x:Machine=>x.log) 6:=⟨λ h=>((Fld.snd (Fld.snd (Fld.snd (Fld.snd (Fld.snd (Fld.snd Fld.fst))))))).sub (α:=Tree×List Int×Nilf×FnV File (List Stmt)×List (Bx GMod)×List Int×List GEvent×List Str×Int) h⟩
theorem Machine.fld7:Fld (λ x:Machine=>x.part) 7:=⟨λ h=>((Fld.snd (Fld.snd (Fld.snd (Fld.snd (Fld.snd (Fld.snd (Fld.snd Fld.fst)))))))).sub (α:=Tree×List Int×Nilf×FnV File (List Stmt)×List (Bx GMod)×List Int×List GEvent×List Str×Int) h⟩
theorem Machine.fld8:Fld (λ x:Machine=>x.left) 8:=⟨λ h=>((Fld.snd (Fld.snd (Fld.snd (Fld.snd (Fld.snd (Fld.snd (Fld.snd (Fld.snd Fld.id))))))))).sub (α:=Tree×List Int×Nilf×FnV File (List Stmt)×List (Bx GMod)×List Int×List GEvent×List Str×Int) h⟩
structure Runner where
 t:Tree
 path:List Int
 mods:List GMod
 log:List GEvent
 out:List Int
 fin:Int
 left:Int
 warm:Bx Warmth
instance:Rep Runner:=Rep.iso (λ x=>((x.t,x.path,x.mods,x.log,x.out,x.fin,x.left,x.warm):Tree×List Int×List GMod×List GEvent×List Int×Int×Int×Bx Warmth))
theorem Runner.fld0:Fld (λ x:Runner=>x.t) 0:=⟨λ h=>(Fld.fst).sub (α:=Tree×List Int×List GMod×List GEvent×List Int×Int×Int×Bx Warmth) h⟩
theorem Runner.fld1:Fld (λ x:Runner=>x.path) 1:=⟨λ h=>((Fld.snd Fld.fst)).sub (α:=Tree×List Int×List GMod×List GEvent×List Int×Int×Int×Bx Warmth) h⟩
theorem Runner.fld2:Fld (λ x:Runner=>x.mods) 2:=⟨λ h=>((Fld.snd (Fld.snd Fld.fst))).sub (α:=Tree×List Int×List GMod×List GEvent×List Int×Int×Int×Bx Warmth) h⟩
theorem Runner.fld3:Fld (λ x:Runner=>x.log) 3:=⟨λ h=>((Fld.snd (Fld.snd (Fld.snd Fld.fst)))).sub (α:=Tree×List Int×List GMod×List GEvent×List Int×Int×Int×Bx Warmth) h⟩
theorem Runner.fld4:Fld (λ x:Runner=>x.out) 4:=⟨λ h=>((Fld.snd (Fld.snd (Fld.snd (Fld.snd Fld.fst))))).sub (α:=Tree×List Int×List GMod×List GEvent×List Int×Int×Int×Bx Warmth) h⟩
theorem Runner.fld5:Fld (λ x:Runner=>x.fin) 5:=⟨λ h=>((Fld.snd (Fld.snd (Fld.snd (Fld.snd (Fld.snd Fld.fst)))))).sub (α:=Tree×List Int×List GMod×List GEvent×List Int×Int×Int×Bx Warmth) h⟩
theorem Runner.fld6:Fld (λ x:Runner=>x.left) 6:=⟨λ h=>((Fld.snd (Fld.snd (Fld.snd (Fld.snd (Fld.snd (Fld.snd Fld.fst))))))).sub (α:=Tree×List Int×List GMod×List GEvent×List Int×Int×Int×Bx Warmth) h⟩
@[reducible] def owRunner (a2:Ow (List GMod)) (a3:Ow (List GEvent)) (a4:Ow (List Int)):Ow Runner:=Ow.via (λ(x:Runner)=>((x.t,x.path,x.mods,x.log,x.out,x.fin,x.left,x.warm):Tree×List Int×List GMod×List GEvent×List Int×Int×Int×Bx Warmth)) (Ow.pr (Ow.frz (α:=Tree)) (Ow.pr (Ow.frz (α:=List Int)) (Ow.pr a2 (Ow.pr a3 (Ow.pr a4 (Ow.pr (Ow.frz (α:=Int)) (Ow.pr (Ow.frz (α:=Int)) (Ow.frz (α:=Bx Warmth)))))))))
theorem owRunner.f4{a2:Ow (List GMod)}{a3:Ow (List GEvent)}{a4:Ow (List Int)}:FldW (owRunner a2 a3 a4) a4 (λ x:Runner=>x.out) (λ y x=>{ x with out:=y }) 4:=⟨λ h=>((FldW.snd (FldW.snd (FldW.snd (FldW.snd FldW.fst))))).foc (α:=Tree×List Int×List GMod×List GEvent×List Int×Int×Int×Bx Warmth) h⟩
theorem owRunner.f5{a2:Ow (List GMod)}{a3:Ow (List GEvent)}{a4:Ow (List Int)}:FldW (owRunner a2 a3 a4) (Ow.frz (α:=Int)) (λ x:Runner=>x.fin) (λ y x=>{ x with fin:=y }) 5:=⟨λ h=>((FldW.snd (FldW.snd (FldW.snd (FldW.snd (FldW.snd FldW.fst)))))).foc (α:=Tree×List Int×List GMod×List GEvent×List Int×Int×Int×Bx Warmth) h⟩
theorem owRunner.f6{a2:Ow (List GMod)}{a3:Ow (List GEvent)}{a4:Ow (List Int)}:FldW (owRunner a2 a3 a4) (Ow.frz (α:=Int)) (λ x:Runner=>x.left) (λ y x=>{ x with left:=y }) 6:=⟨λ h=>((FldW.snd (FldW.snd (FldW.snd (FldW.snd (FldW.snd (FldW.snd FldW.fst))))))).foc (α:=Tree×List Int×List GMod×List GEvent×List Int×Int×Int×Bx Warmth) h⟩
theorem owRunner.f7{a2:Ow (List GMod)}{a3:Ow (List GEvent)}{a4:Ow (List Int)}:FldW (owRunner a2 a3 a4) (Ow.frz (α:=Bx Warmth)) (λ x:Runner=>x.warm) (λ y x=>{ x with warm:=y }) 7:=⟨λ h=>((FldW.snd (FldW.snd (FldW.snd (FldW.snd (FldW.snd (FldW.snd (FldW.snd FldW.id)))))))).foc (α:=Tree×List Int×List GMod×List GEvent×List Int×Int×Int×Bx Warmth) h⟩
theorem owRunner.mk{M:Nat->Prop}{w:World}{x:Runner}{g2:Nat->Prop}{a2:Ow (List GMod)}{g3:Nat->Prop}{a3:Ow (List GEvent)}{g4:Nat->Prop}{a4:Ow (List Int)}{c0:List Value}{c1:List Value}{c2:List Value}{c3:List Value}{c4:List Value}{c5:List Value}{c6:List Value}{c7:List Value}(h0:Rep.rdc M w c0 x.t)(h1:Rep.rdc M w c1 x.path)(h2:a2.ro M g2 w c2 x.mods)(h3:a3.ro M g3 w c3 x.log)(h4:a4.ro M g4 w c4 x.out)(h5:Rep.rdc M w c5 x.fin)(h6:Rep.rdc M w c6 x.left)(h7:Rep.rdc M w c7 x.warm)(d2:∀ b,g2 b->¬ (λ b=>g3 b\/g4 b) b)(d3:∀ b,g3 b->¬ g4 b):(owRunner a2 a3 a4).ro M (λ b=>g2 b\/(λ b=>g3 b\/g4 b) b) w [c0,c1,c2,c3,c4,c5,c6,c7].flatten x:=by
 simp only[List.flatten_cons,List.flatten_nil,List.append_nil];exact⟨noB,(λ b=>g2 b\/(λ b=>g3 b\/g4 b) b),c0,_,λ _ h=>h.elim,λ _ h=>h,λ _ h=>h.elim,rfl,h0,⟨noB,(λ b=>g2 b\/(λ b=>g3 b\/g4 b) b),c1,_,λ _ h=>h.elim,λ _ h=>h,λ _ h=>h.elim,rfl,h1,⟨g2,(λ b=>g3 b\/g4 b),c2,_,λ _ h=>.inl h,λ _ h=>.inr h,d2,rfl,h2,⟨g3,g4,c3,_,λ _ h=>.inl h,λ _ h=>.inr h,d3,rfl,h3,⟨g4,noB,c4,_,λ _ h=>h,λ _ h=>h.elim,λ _ _ h=>h,rfl,h4,⟨noB,noB,c5,_,λ _ h=>h.elim,λ _ h=>h.elim,λ _ _ h=>h,rfl,h5,⟨noB,noB,c6,_,λ _ h=>h.elim,λ _ h=>h.elim,λ _ _ h=>h,rfl,h6,h7⟩⟩⟩⟩⟩⟩⟩
@[reducible] def owGModR (a5:Ow (List GAttr)):Ow GMod:=Ow.via (λ(x:GMod)=>((x.name,x.kind,x.roots,x.cached,x.done,x.attrs):Str×Int×List Int×Bool×Bool×List GAttr)) (Ow.pr (Ow.frz (α:=Str)) (Ow.pr (Ow.frz (α:=Int)) (Ow.pr (Ow.frz (α:=List Int)) (Ow.pr (Ow.frz (α:=Bool)) (Ow.pr (Ow.frz (α:=Bool)) a5)))))
theorem owGModR.f4{a5:Ow (List GAttr)}:FldW (owGModR a5) (Ow.frz (α:=Bool)) (λ x:GMod=>x.done) (λ y x=>{ x with done:=y }) 4:=⟨λ h=>((FldW.snd (FldW.snd (FldW.snd (FldW.snd FldW.fst))))).foc (α:=Str×Int×List Int×Bool×Bool×List GAttr) h⟩
theorem owGModR.f5{a5:Ow (List GAttr)}:FldW (owGModR a5) a5 (λ x:GMod=>x.attrs) (λ y x=>{ x with attrs:=y }) 5:=⟨λ h=>((FldW.snd (FldW.snd (FldW.snd (FldW.snd (FldW.snd FldW.id)))))).foc (α:=Str×Int×List Int×Bool×Bool×List GAttr) h⟩
theorem owGModR.z{a5:Ow (List GAttr)}(h5:∀ (M:Nat->Prop) (w:World),a5.ro M noB w wr [])(M:Nat->Prop)(w:World):(owGModR a5).ro M noB w zcGMod zGMod:=(Ow.pr_z (a:=(Ow.frz (α:=Str))) (Wd M w) (Ow.pr_z (a:=(Ow.frz (α:=Int))) (jm M w) (Ow.pr_z (a:=(Ow.frz (α:=List Int))) (JV M w) (Ow.pr_z (a:=(Ow.frz (α:=Bool))) (Qi M w) (Ow.pr_z (a:=(Ow.frz (α:=Bool))) (Qi M w) (h5 M w))))))
theorem owGModR.mk{M:Nat->Prop}{w:World}{x:GMod}{g5:Nat->Prop}{a5:Ow (List GAttr)}{c0:List Value}{c1:List Value}{c2:List Value}{c3:List Value}{c4:List Value}{c5:List Value}(h0:Rep.rdc M w c0 x.name)(h1:Rep.rdc M w c1 x.kind)(h2:Rep.rdc M w c2 x.roots)(h3:Rep.rdc M w c3 x.cached)(h4:Rep.rdc M w c4 x.done)(h5:a5.ro M g5 w c5 x.attrs)  : (owGModR a5).ro M g5 w [c0,c1,c2,c3,c4,c5].flatten x:=by
 simp only[List.flatten_cons,List.flatten_nil,List.append_nil];exact⟨noB,g5,c0,_,λ _ h=>h.elim,λ _ h=>h,λ _ h=>h.elim,rfl,h0,⟨noB,g5,c1,_,λ _ h=>h.elim,λ _ h=>h,λ _ h=>h.elim,rfl,h1,⟨noB,g5,c2,_,λ _ h=>h.elim,λ _ h=>h,λ _ h=>h.elim,rfl,h2,⟨noB,g5,c3,_,λ _ h=>h.elim,λ _ h=>h,λ _ h=>h.elim,rfl,h3,⟨noB,g5,c4,_,λ _ h=>h.elim,λ _ h=>h,λ _ h=>h.elim,rfl,h4,h5⟩⟩⟩⟩⟩
@[reducible] def owGResultR (a3:Ow (List GMod)):Ow GResult:=Ow.via (λ(x:GResult)=>((x.ends,x.out,x.log,x.modules,x.left):List Int×List Int×List GEvent×List GMod×Int)) (Ow.pr (Ow.frz (α:=List Int)) (Ow.pr (Ow.frz (α:=List Int)) (Ow.pr (Ow.frz (α:=List GEvent)) (Ow.pr a3 (Ow.frz (α:=Int))))))
theorem owGResultR.f4{a3:Ow (List GMod)}:FldW (owGResultR a3) (Ow.frz (α:=Int)) (λ x:GResult=>x.left) (λ y x=>{ x with left:=y }) 4:=⟨λ h=>((FldW.snd (FldW.snd (FldW.snd (FldW.snd FldW.id))))).foc (α:=List Int×List Int×List GEvent×List GMod×Int) h⟩
theorem owGResultR.z{a3:Ow (List GMod)}(h3:∀ (M:Nat->Prop) (w:World),a3.ro M noB w wr [])(M:Nat->Prop)(w:World):(owGResultR a3).ro M noB w zcGResult zGResult:=(Ow.pr_z (a:=(Ow.frz (α:=List Int))) (JV M w) (Ow.pr_z (a:=(Ow.frz (α:=List Int))) (JV M w) (Ow.pr_z (a:=(Ow.frz (α:=List GEvent))) (JV M w) (Ow.pr_z (a:=a3) (h3 M w) (jm M w)))))
theorem owGResultR.mk{M:Nat->Prop}{w:World}{x:GResult}{g3:Nat->Prop}{a3:Ow (List GMod)}{c0:List Value}{c1:List Value}{c2:List Value}{c3:List Value}{c4:List Value}(h0:Rep.rdc M w c0 x.ends)(h1:Rep.rdc M w c1 x.out)(h2:Rep.rdc M w c2 x.log)(h3:a3.ro M g3 w c3 x.modules)(h4:Rep.rdc M w c4 x.left)  : (owGResultR a3).ro M g3 w [c0,c1,c2,c3,c4].flatten x:=by
 simp only[List.flatten_cons,List.flatten_nil,List.append_nil];exact⟨noB,g3,c0,_,λ _ h=>h.elim,λ _ h=>h,λ _ h=>h.elim,rfl,h0,⟨noB,g3,c1,_,λ _ h=>h.elim,λ _ h=>h,λ _ h=>h.elim,rfl,h1,⟨noB,g3,c2,_,λ _ h=>h.elim,λ _ h=>h,λ _ h=>h.elim,rfl,h2,⟨g3,noB,c3,_,λ _ h=>h,λ _ h=>h.elim,λ _ _ h=>h,rfl,h3,h4⟩⟩⟩⟩
@[reducible] def owMachine (a4:Ow (List (Bx GMod))) (a5:Ow (List Int)) (a6:Ow (List GEvent)) (a7:Ow (List Str)):Ow Machine:=Ow.via (λ(x:Machine)=>((x.t,x.path,x.known,x.load,x.modules,x.out,x.log,x.part,x.left):Tree×List Int×Nilf×FnV File (List Stmt)×List (Bx GMod)×List Int×List GEvent×List Str×Int)) (Ow.pr (Ow.frz (α:=Tree)) (Ow.pr (Ow.frz (α:=List Int)) (Ow.pr (Ow.frz (α:=Nilf)) (Ow.pr (Ow.frz (α:=FnV File (List Stmt))) (Ow.pr a4 (Ow.pr a5 (Ow.pr a6 (Ow.pr a7 (Ow.frz (α:=Int))))))))))
theorem owMachine.f4{a4:Ow (List (Bx GMod))}{a5:Ow (List Int)}{a6:Ow (List GEvent)}{a7:Ow (List Str)}:FldW (owMachine a4 a5 a6 a7) a4 (λ x:Machine=>x.modules) (λ y x=>{ x with modules:=y }) 4:=⟨λ h=>((FldW.snd (FldW.snd (FldW.snd (FldW.snd FldW.fst))))).foc (α:=Tree×List Int×Nilf×FnV File (List Stmt)×List (Bx GMod)×List Int×List GEvent×List Str×Int) h⟩
theorem owMachine.f5{a4:Ow (List (Bx GMod))}{a5:Ow (List Int)}{a6:Ow (List GEvent)}{a7:Ow (List Str)}:FldW (owMachine a4 a5 a6 a7) a5 (λ x:Machine=>x.out) (λ y x=>{ x with out:=y }) 5:=⟨λ h=>((FldW.snd (FldW.snd (FldW.snd (FldW.snd (FldW.snd FldW.fst)))))).foc (α:=Tree×List Int×Nilf×FnV File (List Stmt)×List (Bx GMod)×List Int×List GEvent×List Str×Int) h⟩
theorem owMachine.f6{a4:Ow (List (Bx GMod))}{a5:Ow (List Int)}{a6:Ow (List GEvent)}{a7:Ow (List Str)}:FldW (owMachine a4 a5 a6 a7) a6 (λ x:Machine=>x.log) (λ y x=>{ x with log:=y }) 6:=⟨λ h=>((FldW.snd (FldW.snd (FldW.snd (FldW.snd (FldW.snd (FldW.snd FldW.fst))))))).foc (α:=Tree×List Int×Nilf×FnV File (List Stmt)×List (Bx GMod)×List Int×List GEvent×List Str×Int) h⟩
theorem owMachine.f7{a4:Ow (List (Bx GMod))}{a5:Ow (List Int)}{a6:Ow (List GEvent)}{a7:Ow (List Str)}:FldW (owMachine a4 a5 a6 a7) a7 (λ x:Machine=>x.part) (λ y x=>{ x with part:=y }) 7:=⟨λ h=>((FldW.snd (FldW.snd (FldW.snd (FldW.snd (FldW.snd (FldW.snd (FldW.snd FldW.fst)))))))).foc (α:=Tree×List Int×Nilf×FnV File (List Stmt)×List (Bx GMod)×List Int×List GEvent×List Str×Int) h⟩
theorem owMachine.mk{M:Nat->Prop}{w:World}{x:Machine}{g4:Nat->Prop}{a4:Ow (List (Bx GMod))}{g5:Nat->Prop}{a5:Ow (List Int)}{g6:Nat->Prop}{a6:Ow (List GEvent)}{g7:Nat->Prop}{a7:Ow (List Str)}{c0:List Value}{c1:List Value}{c2:List Value}{c3:List Value}{c4:List Value}{c5:List Value}{c6:List Value}{c7:List Value}{c8:List Value}(h0:Rep.rdc M w c0 x.t)(h1:Rep.rdc M w c1 x.path)(h2:Rep.rdc M w c2 x.known)(h3:Rep.rdc M w c3 x.load)(h4:a4.ro M g4 w c4 x.modules)(h5:a5.ro M g5 w c5 x.out)(h6:a6.ro M g6 w c6 x.log)(h7:a7.ro M g7 w c7 x.part)(h8:Rep.rdc M w c8 x.left)(d4:∀ b,g4 b->¬ (λ b=>g5 b\/(λ b=>g6 b\/g7 b) b) b)(d5:∀ b,g5 b->¬ (λ b=>g6 b\/g7 b) b)(d6:∀ b,g6 b->¬ g7 b):(owMachine a4 a5 a6 a7).ro M (λ b=>g4 b\/(λ b=>g5 b\/(λ b=>g6 b\/g7 b) b) b) w [c0,c1,c2,c3,c4,c5,c6,c7,c8].flatten x:=by
 simp only[List.flatten_cons,List.flatten_nil,List.append_nil];exact⟨noB,(λ b=>g4 b\/(λ b=>g5 b\/(λ b=>g6 b\/g7 b) b) b),c0,_,λ _ h=>h.elim,λ _ h=>h,λ _ h=>h.elim,rfl,h0,⟨noB,(λ b=>g4 b\/(λ b=>g5 b\/(λ b=>g6 b\/g7 b) b) b),c1,_,λ _ h=>h.elim,λ _ h=>h,λ _ h=>h.elim,rfl,h1,⟨noB,(λ b=>g4 b\/(λ b=>g5 b\/(λ b=>g6 b\/g7 b) b) b),c2,_,λ _ h=>h.elim,λ _ h=>h,λ _ h=>h.elim,rfl,h2,⟨noB,(λ b=>g4 b\/(λ b=>g5 b\/(λ b=>g6 b\/g7 b) b) b),c3,_,λ _ h=>h.elim,λ _ h=>h,λ _ h=>h.elim,rfl,h3,⟨g4,(λ b=>g5 b\/(λ b=>g6 b\/g7 b) b),c4,_,λ _ h=>.inl h,λ _ h=>.inr h,d4,rfl,h4,⟨g5,(λ b=>g6 b\/g7 b),c5,_,λ _ h=>.inl h,λ _ h=>.inr h,d5,rfl,h5,⟨g6,g7,c6,_,λ _ h=>.inl h,λ _ h=>.inr h,d6,rfl,h6,⟨g7,noB,c7,_,λ _ h=>h,λ _ h=>h.elim,λ _ _ h=>h,rfl,h7,h8⟩⟩⟩⟩⟩⟩⟩⟩
instance:Inhabited Machine:=⟨⟨default,[],⟨⟩,default,[],[],[],[],0⟩⟩
instance:Inhabited Warmth:=⟨⟨false,default,default,[],0⟩⟩
instance:Inhabited Runner:=⟨⟨default,[],[],[],[],0,0,default⟩⟩
open Go.RowKit Go.ChangeMaps Go.Maps Go.WideMaps
section
variable{P:Program}{ops:Array Oper}{rest:List Oper}{Q:Exit->Act->World->Prop}{a:Act}{w:World}{o:Oper}{F:Frm}{N d:Nat}{M0 M:Nat->Prop}{Gs:List (Nat->Prop)}{L L2:Env}{O O2:List (Nat×Nat×Dt)}{ks qs:List Nat}{look:Nat->Option Dt}{t k e:TypeId}
end
open Go.RowKit Go.ChangeMaps Go.Maps Go.WideMaps
theorem cell_same{w w':World}{b o:Nat}(h:w'.heap[b]?=w.heap[b]?):w'.cell? ⟨b,o,none⟩=w.cell? ⟨b,o,none⟩:=by simp[World.cell?,h]
abbrev ptrB(b:Nat):Value:=.pointer (some ⟨b,0,none⟩)
structure Vc where
 f:FuncId
 bm:Nat
 bs:Nat
 bv:Nat
 t:Tree
 path:List Int
 bo:Nat
section
variable{P:Program}{fn:Func}{F:Frm}{N d p p2:Nat}{M0 M:Nat->Prop}{Gs:List (Nat->Prop)}{L L2:Env}{O O2:List (Nat×Nat×Dt)}{a:Act}{w w0:World}{Q:Exit->Act->World->Prop}{ops:Array Oper}{rest:List Oper}{ks qs:List Nat}{o:Oper}{look:Nat->Option Dt}{t k e es:TypeId}
end
open Go.RowKit
section
variable{P:Program}{F:Frm}{N:Nat}{M0 M:Nat->Prop}{Gs:List (Nat->Prop)}{L L2:Env}{O O2:List (Nat×Nat×Dt)}{a:Act}{w w0:World}{Q:Exit->Act->World->Prop}{ops:Array Oper}{o:Oper}{listed:Array Bool}{f i d:Nat}{S:World->Prop}
variable{α:Type}[Rep α]
theorem Sx.tkAr{op:BinOp}{t t':TypeId}{x y:Operand}{m n r:Int}(h:Sx F N M0 M Gs L O a w)(ho:ops[i]?=some o)(hh:opH o N=some d)(hs:Region.noSelect ops=true)(hf:Region.free .any ops listed i=true)(hr:(Region.ready .any ops listed).contains i=true)
  (hQ:∀ c a w v,Q (.panic c) (a.put o.dst v) w->Q (.panic c) a w) (hS:S w) (hop:o.op=.binOp op t x y t') (hx:OpdR M (λ s=>(L++envO O).lookup s) x (dt m)) (hy:OpdR M (λ s=>(L++envO O).lookup s) y (dt n)) (hm:i64 (arI op m n)=some r) (hk:op=.add\/op=.sub\/op=.mul:=by decide)
  (next:∀ a',Sx F N M0 M Gs ((d,dt r)::L) O a' w->wpAnyH P .any ops Q S f (listed.setIfInBounds i true) a' w):wpAnyH P .any ops Q S (f+1) listed a w:=by
 obtain⟨rfl,hb⟩:=i64_get hm;refine h.tkY (v:=.int .i64 (arI op m n)) (y:=dt (arI op m n)) ho hh hs hf hr (λ c a w=>hQ c a w _) hS (λ w' _=>?_) (yy.2 rfl) rfl next;have h1:=yy.1 (hx w a λ s y hy=>h.st.has s y hy);have h2:=yy.1 (hy w a λ s y hy=>h.st.has s y hy);have hw:=QA _ hb;unfold execOp;rw[hop];rcases hk with rfl | rfl | rfl <;> (simp only[arI] at hw ⊢;simp[h1,h2,eqGuard,binOp,Op.intArith,hw])
theorem Sx.tkSlH{t:TypeId}{s1 hi:Operand}{xs r:List α}{n:Int}(h:Sx F N M0 M Gs L O a w)(ho:ops[i]?=some o)(hh:opH o N=some d)(hs:Region.noSelect ops=true)(hf:Region.free .any ops listed i=true)(hr:(Region.ready .any ops listed).contains i=true)
  (hQ:∀ c a w v,Q (.panic c) (a.put o.dst v) w->Q (.panic c) a w) (hS:S w) (hop:o.op=.slice t s1 none (some hi) none) (ht':slB P t (Rep.size α)=true) (hx:OpdR M (λ s=>(L++envO O).lookup s) s1 (dt xs)) (hy:OpdR M (λ s=>(L++envO O).lookup s) hi (dt n)) (hm:ZQ xs n=some r)
  (next:∀ a',Sx F N M0 M Gs ((d,dt r)::L) O a' w->wpAnyH P .any ops Q S f (listed.setIfInBounds i true) a' w):wpAnyH P .any ops Q S (f+1) listed a w:=by
 unfold ZQ at hm;split at hm
 ·
  rename_i hc;injection hm with hm;subst hm;obtain⟨e,ht⟩:=qT ht';obtain⟨cs,hcs,hv⟩:=hx w a λ s y hy=>h.st.has s y hy
  have hcs':=hcs;obtain⟨A,c,rfl,h3,h4,_⟩:=hcs';simp only[mkv,Rep.agg,List.headD_cons,Bool.false_eq_true,if_false] at hv;have hn:n=(n.toNat:Int):=by omega
  have hnv:=yy.1 (hy w a λ s y hy=>h.st.has s y hy);rw[hn] at hnv;have hrd:=rd_slice hcs (Nat.zero_le n.toNat) (by omega);rw[List.drop_zero] at hrd;have hrun:=λ w=>Yy ht A xs.length c none (some (n.toNat:Int)) (by simp) (by simp;try omega) (by simp;omega) w
  simp only[Option.map_some,Option.map_none,Option.getD_some,Option.getD_none,Int.toNat_natCast,Int.toNat_zero] at hrun;refine h.tkY (y:=dt (xs.take n.toNat)) ho hh hs hf hr (λ c a w=>hQ c a w _) hS (λ w' _=>?_) ⟨_,hrd,rfl⟩ rfl next;unfold execOp;rw[hop];simp only[Option.map_some,Option.map_none,hv,hnv,Sem.run_bind,hrun,Result.andThen_ok,Sem.run_pure];rfl
 ·
  cases hm
end
open Go.RowKit
section
variable{α β γ:Type}[Rep α][Rep β][Rep γ]
variable{P:Program}{ops:Array Oper}{rest:List Oper}{fn:Func}{Q:Exit->Act->World->Prop}{a:Act}{w w0:World}{o:Oper}{F:Frm}{N d:Nat}{M0 M:Nat->Prop}{Gs:List (Nat->Prop)}{L L2:Env}{O O2:List (Nat×Nat×Dt)}{ks qs:List Nat}{look:Nat->Option Dt}
end
open Go.RowKit
section
variable{P:Program}{fn:Func}{F:Frm}{N:Nat}{M0 M:Nat->Prop}{Gs:List (Nat->Prop)}{L:Env}{O:List (Nat×Nat×Dt)}{a:Act}{w w0:World}
variable{α:Type}[Rep α]
end
open Go.RowKit
section
variable{α β γ:Type}[Rep α][Rep β][Rep γ]
def Rd.t2o(o:Ow α)(x:α)(y:Dt):Rd where
 rd M G w v:=∃ u1 u2,v=.tuple #[u1,u2]/\(dow o G x).rd M w u1/\y.rd M w u2/\y.nb=true
 stable:=λ⟨u1,u2,hv,h3,h2⟩ e=>⟨u1,u2,hv,(dow o _ x).stable h3 e,⟨y.stable h2.1 (λ k hk hm=>e k hk (hm.imp id λ ho=>(y.nob h2.2 k ho).elim)),h2.2⟩⟩
 weak:=λ⟨u1,u2,hv,h3,h2⟩ e=>⟨u1,u2,hv,(dow o _ x).weak h3 e,⟨y.weak h2.1 e,h2.2⟩⟩
 more:=λ⟨u1,u2,hv,⟨cs,h3,h4⟩,h2⟩ e=>⟨u1,u2,hv,⟨cs,o.more h3 e,h4⟩,h2⟩
def dex2(y:Dt):Dt where
 rd M w v:=∃ u1 u2,v=.tuple #[u1,u2]/\y.rd M w u2/\y.nb=true
 own:=noB
 nb:=true
 nob _ _ h:=h
 stable:=λ⟨u1,u2,hv,h2⟩ e=>⟨u1,u2,hv,⟨y.stable h2.1 (λ k hk hm=>e k hk (hm.elim .inl λ ho=>(y.nob h2.2 k ho).elim)),h2.2⟩⟩
 weak:=λ⟨u1,u2,hv,h2⟩ e=>⟨u1,u2,hv,⟨y.weak h2.1 e,h2.2⟩⟩
variable{P:Program}{ops:Array Oper}{rest:List Oper}{fn:Func}{Q:Exit->Act->World->Prop}{a:Act}{w w0:World}{o:Oper}{F:Frm}{N d:Nat}{M0 M:Nat->Prop}{Gs:List (Nat->Prop)}{L L2:Env}{O O2:List (Nat×Nat×Dt)}{ks qs:List Nat}{look:Nat->Option Dt}
theorem Sx.ex2o{oo:Ow α}{x:α}{y:Dt}{s:Nat}{G:Nat->Prop}{q:Operand}(h:Sx F N M0 M Gs L O a w)(p:Nat)(hh:opH o N=some d)(ho:o.op=.extract q 0)(hq:q=.tmp s)(hs:(L++envO O).lookup s=some (drd (Rd.t2o oo x y) G))(hG:∀ b,G b->zk Gs p b)(hdn:List.lookup d ((s,dex2 y)::L)=none)(qs:List Nat)(hsel:selR L O qs p=some O2)
  (next:∀ a',Sx F N M0 M Gs ((s,dex2 y)::L) ((d,p,dow oo G x)::O2) a' w->wpList P ops Q rest a' w):wpList P ops Q (o::rest) a w:=by
 obtain⟨hgd,hd,hN⟩:=zZ hh;obtain⟨u1,u2,hv,h1,h2⟩:=h.st.has s _ hs;refine wpList_plain hgd λ K hK=>OpOut.wp (OpOut.of_value (v:=u1) (w':=w) ?_ ?_)
 ·
  have he:a.eval q=.tuple #[u1,u2]:=by rw[hq];exact hv
  unfold execOp;rw[ho];simp[he,Instr.extract]
 ·
  rw[hd];exact hK _ _ (next _ (((h.drop hsel).addL (s:=s) (y:=dex2 y) ⟨u1,u2,hv,h2⟩ rfl).putO hN hdn h1 hG))
theorem Wi{q:Operand}{y:Dt}(ho:o.op=.extract q 1)(hp:OpdR M look q (dex2 y)):OpRel P M look o y:=
 zC λ a w _ hl=>by
  obtain⟨u1,u2,hv,h2⟩:=hp w a hl;exact⟨u2,by unfold execOp;rw[ho];simp[hv,Instr.extract],h2.1⟩
theorem tip0_dow{M:Nat->Prop}{w:World}{v:Value}{e e':TypeId}{oy:Ow β}(h:(dtip none e ([]:List β)).rd M w v):(dow (Ow.row e' oy) (oneB none) []).rd M w v:=by
 rcases h with⟨cells,hown,hrow,hb⟩ | ⟨_,_,A,hv⟩
 ·
  rcases hown.2 with⟨h1,_⟩ | ⟨b,cap,cur,h1,h2,_⟩
  ·
   rw[h1];exact⟨[.slice none 0 0],⟨_,rfl,.inr ⟨rfl,none,rfl⟩⟩,rfl⟩
  ·
   rw[h1] at hb;simp[Value.ownBlock] at hb
 ·
  rw[hv];exact⟨[.slice A 0 0],⟨_,rfl,.inr ⟨rfl,A,rfl⟩⟩,rfl⟩
theorem Sx.tip0{s:Nat}{e e':TypeId}{oy:Ow β}(h:Sx F N M0 M Gs L O a w)(p:Nat)(hs:(L++envO O).lookup s=some (dtip none e ([]:List β)))(hn:L.lookup s=none)(qs:List Nat)(hq:selR L O qs p=some O2):Sx F N M0 M Gs L ((s,p,dow (Ow.row e' oy) (oneB none) [])::O2) a w:=
 (h.drop hq).addO hn (tip0_dow (h.st.has s _ hs)) λ b (h:none=some b)=>nomatch h
end
open Go.RowKit
attribute [local irreducible] OpRel OpdR
class FldO (P:Program) (t:TypeId) (f:Nat) (fo:outParam Nat):Prop where
 h:fldB P t f fo=true
instance:FldC Runner 0 Tree (λ x=>x.t) 0:=⟨Runner.fld0⟩
instance:FldC Runner 1 (List Int) (λ x=>x.path) 1:=⟨Runner.fld1⟩
instance:FldC Runner 2 (List GMod) (λ x=>x.mods) 2:=⟨Runner.fld2⟩
instance:FldC Runner 3 (List GEvent) (λ x=>x.log) 3:=⟨Runner.fld3⟩
instance:FldC Runner 4 (List Int) (λ x=>x.out) 4:=⟨Runner.fld4⟩
instance:FldC Runner 5 Int (λ x=>x.fin) 5:=⟨Runner.fld5⟩
instance:FldC Runner 6 Int (λ x=>x.left) 6:=⟨Runner.fld6⟩
instance:FldC Machine 0 Tree (λ x=>x.t) 0:=⟨Machine.fld0⟩
instance:FldC Machine 1 (List Int) (λ x=>x.path) 1:=⟨Machine.fld1⟩
instance:FldC Machine 4 (List (Bx GMod)) (λ x=>x.modules) 4:=⟨Machine.fld4⟩
instance:FldC Machine 5 (List Int) (λ x=>x.out) 5:=⟨Machine.fld5⟩
instance:FldC Machine 6 (List GEvent) (λ x=>x.log) 6:=⟨Machine.fld6⟩
instance:FldC Machine 7 (List Str) (λ x=>x.part) 7:=⟨Machine.fld7⟩
instance:FldC Machine 8 Int (λ x=>x.left) 8:=⟨Machine.fld8⟩
section
variable{P:Program}{fn:Func}{F:Frm}{N:Nat}{M0 M M':Nat->Prop}{Gs:List (Nat->Prop)}{L L' L2:Env}{O O2:List (Nat×Nat×Dt)}{a:Act}{w w' w0:World}{Q:Exit->Act->World->Prop}{ops:Array Oper}{l rest:List Oper}{o:Oper}{d p:Nat}{x:Dt}
theorem xFaC{look:Nat->Option Dt}{t:TypeId}{q:Operand}{f fo b off:Nat}(ho:o.op=.fieldAddr t q f)(hp:OpdR M look q (dis (.pointer (some ⟨b,off,none⟩))))[c:FldO P t f fo]{z:Dt}(e:z=dis (.pointer (some ⟨b,off+fo,none⟩)):=by rfl):OpRel P M look o z:=e ▸ xFa ho c.h hp
theorem Q3{look:Nat->Option Dt}{α β:Type}[Rep α][Rep β]{t:TypeId}{p:Operand}{f off ob:Nat}{g:Option Nat}{x:α}{get:α->β}(ho:o.op=.fieldAddr t p f)(hp:OpdR M look p (dbox g ob x))[c:FldC α f β get off](ht:fldB P t f off=true){z:Dt}(e:z=dbox g (ob+off) (get x):=by rfl):OpRel P M look o z:=e ▸ zB c.h ho ht hp
theorem op_lit1{look:Nat->Option Dt}{α:Type}[Rep α]{t:TypeId}{q:Operand}{y:α}(ho:o.op=.buildSlice t 1 #[(0,q)])(hq:OpdR M look q (dt y))(ht':slB P t (Rep.size α)=true)(hz':zlB P t=true)(hs:Rep.size α<=16777216):OpRel P M look o (dt [y]):=yG (opds:=[q]) ho ht' hz' rfl rfl (by simpa using hs) (.cons hq .nil)
theorem opB{look:Nat->Option Dt}(h:OpRel P M look o x:=by
  first
   | exact oM rfl (zG rfl)
   | exact xNc rfl (tp rfl)
   | exact xFaC rfl (tp rfl)
   | exact xNcP rfl (tp rfl)
   | exact xLc (sb:=0) (.head _) rfl rfl rfl (by kernel_rfl) (tp rfl) rfl
   | exact xLc (sb:=0) (.tail _ (.head _)) rfl rfl rfl (by kernel_rfl) (tp rfl) rfl
   | exact xLc (sb:=0) (.tail _ (.tail _ (.head _))) rfl rfl rfl (by kernel_rfl) (tp rfl) rfl
   | exact Q3 rfl (tp rfl) (by kernel_rfl)
   | exact zf rfl (by kernel_rfl) (tp rfl)
   | exact op_lit1 rfl (tp rfl) (by kernel_rfl) (by kernel_rfl) (by decide)):OpRel P M look o x:=h
theorem opGB{look:Nat->Option Dt}(h:OpRel P M look o x:=by
  first
   | exact opGA
   | exact zf rfl (by kernel_rfl) opdB
   | exact Q3 rfl opdB (by kernel_rfl)
   | exact xNc rfl opdB
   | exact xNcP rfl opdB
   | exact xFaC rfl opdB
   | exact oM rfl (zG rfl)):OpRel P M look o x:=h
theorem segC{L:Env}(h:Seg P M ops N L l L':=by repeat (first | exact .nil | apply sc rfl opB | apply sc rfl opA | apply sg rfl rfl (λ _=>opGB))):Seg P M ops N L l L':=h
theorem sP{L L1:Env}(n:Nat)(h:Seg P M ops N L (l.take n) L1:=by exact segC)(r:Seg P M ops N L1 (l.drop n) L'):Seg P M ops N L l L':=sp n h r
theorem Sx.sqC(h:Sx F N M0 M Gs L O a w){id:Nat}{c2:Code}(ks:List Nat)(qp:List (Nat×Nat))(hQ:∀ a' w',Sx F N M0 M Gs L2 O2 a' w'->c2.wp P Q a' w')
  (hs:Seg P M ops N (L++envO O) ops.toList L':=by exact segC) (hk:selP ks L'=some L2:=by rfl) (hq:selQ qp L'=some O2:=by rfl) (hw:AllOw Gs O2:=by exact owA):(Code.seq (Code.region id ops false) c2).wp P Q a w:=
 h.sq hs ks hk qp hq hw hQ
theorem Sx.sq3(h:Sx F N M0 M Gs L O a w){id:Nat}{c2:Code}(ks:List Nat)(hQ:∀ a' w',Sx F N M0 M Gs L2 [] a' w'->c2.wp P Q a' w')
  (hs:Seg P M ops N (L++envO O) ops.toList L':=by exact segC) (hk:selP ks L'=some L2:=by rfl):(Code.seq (Code.region id ops false) c2).wp P Q a w:=
 h.sq0 hs ks hk hQ
theorem Sx.rgC(h:Sx F N M0 M Gs L O a w){id:Nat}(ks:List Nat)(qp:List (Nat×Nat))(hQ:∀ a' w',Sx F N M0 M Gs L2 O2 a' w'->Q .normal a' w')
  (hs:Seg P M ops N (L++envO O) ops.toList L':=by exact segC) (hk:selP ks L'=some L2:=by rfl) (hq:selQ qp L'=some O2:=by rfl) (hw:AllOw Gs O2:=by exact owA):(Code.region id ops false).wp P Q a w:=
 h.rg hs ks hk qp hq hw hQ
theorem Sx.segC(h:Sx F N M0 M Gs L O a w)(n:Nat)(ks:List Nat)(qp:List (Nat×Nat))(hQ:∀ a' w',Sx F N M0 M Gs L2 O2 a' w'->wpList P ops Q (l.drop n) a' w')
  (hs:Seg P M ops N (L++envO O) (l.take n) L':=by exact segC) (hk:selP ks L'=some L2:=by rfl) (hq:selQ qp L'=some O2:=by rfl) (hw:AllOw Gs O2:=by exact owA):wpList P ops Q l a w:=
 h.seg n hs ks hk qp hq hw hQ
end
open Go.RowKit
class SetL (Gs:List (Nat->Prop)) (p:Nat) (f:outParam ((Nat->Prop)->List (Nat->Prop))):Prop where
 h:∀ G,Gs.set p G=f G
instance {g:Nat->Prop} {l:List (Nat->Prop)}:SetL (g::l) 0 (λ G=>G::l):=⟨λ _=>rfl⟩
instance {g:Nat->Prop} {l:List (Nat->Prop)} {k:Nat} {f:(Nat->Prop)->List (Nat->Prop)} [s:SetL l k f]:SetL (g::l) (k+1) (λ G=>g::f G):=⟨λ G=>by rw[List.set_cons_succ,s.h]⟩
instance {g:Nat->Prop} {n k:Nat} {f:(Nat->Prop)->List (Nat->Prop)} [s:SetL (g::List.replicate n g) k f]:SetL (List.replicate (n+1) g) k f:=⟨s.h⟩
instance {g:Nat->Prop} {l:List (Nat->Prop)} {q k:Nat} {f f0:(Nat->Prop)->List (Nat->Prop)} [s0:SetL l q f0] [s:SetL (f0 g) k f]:SetL (l.set q g) k f:=⟨λ G=>by rw[s0.h,s.h]⟩
class NormG (Gs:List (Nat->Prop)) (Gs':outParam (List (Nat->Prop))):Prop where
 h:Gs=Gs'
instance:NormG [] []:=⟨rfl⟩
instance {g:Nat->Prop} {l l':List (Nat->Prop)} [n:NormG l l']:NormG (g::l) (g::l'):=⟨by rw[n.h]⟩
instance {g:Nat->Prop}:NormG (List.replicate 0 g) []:=⟨rfl⟩
instance {g:Nat->Prop} {k:Nat} {l:List (Nat->Prop)} [n:NormG (List.replicate k g) l]:NormG (List.replicate (k+1) g) (g::l):=⟨by rw[List.replicate_succ,n.h]⟩
instance {g:Nat->Prop} {l l':List (Nat->Prop)} {p:Nat} {f:(Nat->Prop)->List (Nat->Prop)} [n:NormG l l'] [s:SetL l' p f]:NormG (l.set p g) (f g):=⟨by rw[n.h,s.h]⟩
section
variable{P:Program}{fn:Func}{F:Frm}{N:Nat}{M0 M M':Nat->Prop}{Gs:List (Nat->Prop)}{L L' L2:Env}{O O2:List (Nat×Nat×Dt)}{a:Act}{w w' w0:World}{Q:Exit->Act->World->Prop}{ops:Array Oper}{l rest:List Oper}{o:Oper}{d p:Nat}{x:Dt}
variable{α β:Type}[Rep α][Rep β]
theorem Sx.gn{Gs':List (Nat->Prop)}[n:NormG Gs Gs'](h:Sx F N M0 M Gs L O a w):Sx F N M0 M Gs' L O a w:=by rw[← n.h];exact h
theorem opC{look:Nat->Option Dt}(h:OpRel P M look o x:=by first | exact opB | exact opA):OpRel P M look o x:=h
section
variable{S:List (List (Nat×Option Nat))}{D:List Dt}{i:Nat}{xs x1 x2:List (Nat×Dt)}
theorem regA(h:RegR P M ops N S L D i l xs:=by repeat (first | exact .nil | apply rc rfl rfl opC | apply rg rfl rfl rfl (λ _=>opGB))):RegR P M ops N S L D i l xs:=h
theorem RegR.app{l1 l2:List Oper}(h:RegR P M ops N S L D i l1 x1):∀ {j:Nat},j=i+l1.length->RegR P M ops N S L D j l2 x2->RegR P M ops N S L D i (l1++l2) (x1++x2):=by
 induction h with
 | nil=>intro j hj k;rw[hj] at k;exact k
 | cons hd hN hx h hr ih=>intro j hj k;exact .cons hd hN hx h (ih (by rw[hj,List.length_cons];omega) k)
theorem Sx.drA(h:Sx F N M0 M Gs L O a w){id:Nat}(hm:P.follows .mixedOrders=true)(S:List (List (Nat×Option Nat)))(ks:List Nat)(qp:List (Nat×Nat))(hQ:∀ a' w',Sx F N M0 M Gs L2 O2 a' w'->Q .normal a' w')
  (hs:RegR P M ops N S (L++envO O) D 0 ops.toList xs:=by exact regA) (hc:jU ops ops.size (cloT ops) S=true:=by decide +kernel) (hk:selP ks (xs++(L++envO O))=some L2:=by rfl) (hq:selQ qp (xs++(L++envO O))=some O2:=by rfl) (hw:AllOw Gs O2:=by exact owA):(Code.region id ops true).wp P Q a w:=
 h.dr hm S hc hs ks hk qp hq hw hQ
theorem Sx.drnA(h:Sx F N M0 M Gs L O a w){id:Nat}(hm:P.follows .mixedOrders=true)(k:Nat)(S:List (List (Nat×Option Nat)))(ks:List Nat)(qp:List (Nat×Nat))(hQ:∀ a' w',Sx F N M0 M Gs L2 O2 a' w'->wpList P ops Q (ops.toList.drop k) a' w')
  (hs:RegR P M ops N S (L++envO O) D 0 (ops.toList.take k) xs:=by exact regA) (hc:jU ops k (cloT ops) S=true:=by decide +kernel) (hkn:k<=ops.size:=by decide) (hk:selP ks (xs++(L++envO O))=some L2:=by rfl) (hq:selQ qp (xs++(L++envO O))=some O2:=by rfl) (hw:AllOw Gs O2:=by exact owA):(Code.region id ops true).wp P Q a w:=
 h.drn hm k S hc hkn hs ks hk qp hq hw hQ
end
theorem Sx.cNA{oy:Ow β}{k:Nat}{f:FuncId}{A:Array Operand}{l:List Operand}{ts:Array TypeId}{G:Nat->Prop}{y y':β}{v0:Value}{cf:CF}{yd:Dt}{xr:List Dt}{f2:(Nat->Prop)->List (Nat->Prop)}(h:Sx F N M0 M Gs L O a w)(p sb:Nat)(hfn:FnS P f oy y xr y' (.frz yd))(ks qs:List Nat)
  (next:∀ G'' M' a' w',Sx F N M0 M' (f2 G'') ((d,yd)::L2) ((sb,p,dnm oy G'' y' v0 [])::O2) a' w'->wpList P ops Q rest a' w')
  (hs:(L++envO O).lookup sb=some (dnm oy G y v0 cf):=by rfl) (hG:∀ b,G b->zk Gs p b:=by exact λ _ h=>h) (hh:opH o N=some d:=by rfl)
  (ho:o.op=.call { callee:=.value (.func f),args:=A,argTypes:=ts }:=by rfl) (hA:A.toList=.tmp k::l:=by rfl) (hf:fnB P f=true:=by kernel_rfl) (hk0:(L++envO O).lookup k=some (dis v0):=by rfl) (hp:p<Gs.length:=by simp)
  (hx:ArgsR M (λ s=>(L++envO O).lookup s) l xr:=by exact argsA) (hk:selP ks L=some L2:=by rfl) (hq:selR L O qs p=some O2:=by rfl) (hsn:L2.lookup sb=none:=by rfl) (hne:sb≠d:=by decide) [sl:SetL Gs p f2]:wpList P ops Q (o::rest) a w:=by
 have e:A=(.tmp k::l).toArray:=by rw[← hA]
 subst e;exact h.cSF p (h.bkN hs hG) hh ho hf (Eq.trans (h.st.has k _ hk0) (h.st.has sb _ hs).1.symm) hp hx hfn ks hk qs hq hsn hne λ G'' M' a' w' st=>next G'' M' a' w' (by rw[← sl.h];exact st)
theorem Sx.pkZ{b o:Nat}{cs:List Value}{x:α}(h:Sx F N M0 M Gs L O a w)(s:Nat)(hs:(L++envO O).lookup s=some (dpk b o cs x):=by rfl):CellsAt w b o cs:=h.pkS hs
section
variable{S:World->Prop}{f:Nat}{listed:Array Bool}{o2:Oper}
theorem aK0(h:Q .normal a w)(hr:Region.ready .any ops listed=[]:=by decide +kernel):wpAnyH P .any ops Q S f listed a w:=aH0 hr h
theorem aK1(i:Nat)(h:wpList P ops (QH P ops Q S f (listed.setIfInBounds i true)) [o] a w)(hr:Region.ready .any ops listed=[i]:=by decide +kernel)(ho:ops[i]?=some o:=by rfl):wpAnyH P .any ops Q S (f+1) listed a w:=aH1 hr ho h
theorem aK2(i j:Nat)(h:wpList P ops (QH P ops Q S f (listed.setIfInBounds i true)) [o] a w)(h2:wpList P ops (QH P ops Q S f (listed.setIfInBounds j true)) [o2] a w)(hr:Region.ready .any ops listed=[i,j]:=by decide +kernel)(ho:ops[i]?=some o:=by rfl)(ho2:ops[j]?=some o2:=by rfl):wpAnyH P .any ops Q S (f+1) listed a w:=aH2 hr ho ho2 h h2
end
end
open Go.RowKit
section
variable{P:Program}{ops:Array Oper}{rest:List Oper}{fn:Func}{Q:Exit->Act->World->Prop}{a:Act}{w w0:World}{o:Oper}{F:Frm}{N d:Nat}{M0 M:Nat->Prop}{Gs:List (Nat->Prop)}{L L2:Env}{O O2:List (Nat×Nat×Dt)}{T:Prop}
theorem Sx.stA{α β:Type}[Rep α][Rep β]{t q:Nat}{vo:Operand}{g:Option Nat}{off:Nat}{x:α}{y0 y:β}{set:α->β->α}(h:Sx F N M0 M Gs L O a w)(sb p:Nat)(fs:FldS set off)(hvl:OpdR M (λ s=>(L++envO O).lookup s) vo (dt y))(ks qs:List Nat)
  (next:∀ M' w',Sx F N M0 M' Gs L2 ((sb,p,dbox g 0 (set x y))::O2) a w'->wpList P ops Q rest a w') (ho:o.op=.store t (.tmp q) vo:=by rfl) (hgd:o.guard=none:=by rfl) (hd:o.dst=none:=by rfl)
  (hpl:(L++envO O).lookup q=some (dbox g off y0):=by rfl) (hsl:(L++envO O).lookup sb=some (dbox g 0 x):=by rfl) (ht:tyB P t (Rep.agg β) (Rep.size β)=true:=by kernel_rfl) (hg:Gs[p]?=some (oneB g):=by rfl)
  (hk:selP ks L=some L2:=by rfl) (hq:selR L O qs p=some O2:=by rfl) (hdn:L2.lookup sb=none:=by rfl):wpList P ops Q (o::rest) a w:=
 h.store p fs ho hgd hd ht hg hpl hvl hsl ks hk qs hq hdn next
theorem Sx.alA{α:Type}[Rep α]{t:Nat}{zs:List Value}{d0:α}(h:Sx F N M0 M Gs L O a w)(p:Nat)(hz:∀ (M:Nat->Prop) (w:World),Rep.rdc M w zs d0)(ks qs:List Nat)
  (next:∀ b M' a' w',Sx F N M0 M' (Gs.set p (oneB (some b))) L2 ((d,p,dbox (some b) 0 d0)::O2) a' w'->wpList P ops Q rest a' w') (hh:opH o N=some d:=by rfl) (ho:o.op=.alloc t:=by rfl) (hzc:wt P t=some zs:=by kernel_rfl) (hp:p<Gs.length:=by simp)
  (hk:selP ks L=some L2:=by rfl) (hq:selR L O qs p=some O2:=by rfl) (hdn:L2.lookup d=none:=by rfl):wpList P ops Q (o::rest) a w:=
 h.alloc p hh ho hzc hz hp ks hk qs hq hdn next
theorem Sx.apA{α:Type}[Rep α]{s x:Nat}{t e:TypeId}{bytes:Nat}{g:Option Nat}{xs ys r:List α}{z:Dt}(h:Sx F N M0 M Gs L O a w)(p:Nat)(hz:IsRow z ys)(hm:appO bytes xs ys=some r)(ks qs:List Nat)
  (next:∀ g' M' a' w',Sx F N M0 M' (Gs.set p (oneB g')) L2 ((d,p,dtip g' e r)::O2) a' w'->wpList P ops Q rest a' w') (hh:opH o N=some d:=by rfl)
  (ho:o.op=.call { callee:=.builtin .append,args:=#[.tmp s,.tmp x],argTypes:=#[t,t] }:=by rfl) (hs:(L++envO O).lookup s=some (dtip g e xs):=by rfl) (hel:elB P t e (Rep.size α) bytes=true:=by kernel_rfl)
  (hg:Gs[p]?=some (oneB g):=by rfl) (hx:(L++envO O).lookup x=some z:=by rfl)
  (hk:selP ks L=some L2:=by rfl) (hq:selR L O qs p=some O2:=by rfl) (hdn:L2.lookup d=none:=by rfl):wpList P ops Q (o::rest) a w:=
 h.app p hh ho hel hs hg hx hz hm ks hk qs hq hdn next
variable{α β γ:Type}[Rep α][Rep β][Rep γ]
theorem Sx.hdA{ow:Ow α}{oy:Ow β}{e:TypeId}{G:Nat->Prop}{x:α}{v0:Value}{cf:CF}{b off:Nat}{ys:List β}{upd:List β->α}(h:Sx F N M0 M Gs L O a w)(s p:Nat)(hP:PH ow x v0 cf (Ow.row e oy) b off ys upd)(qs:List Nat)
  (next:∀ (g:Nat) (A:Option Addr) (cap:Nat),(ys.length≠0->true=true->A=some ⟨g,0,none⟩)->Sx F N M0 M Gs L ((s,p,dnm ow G x v0 ((true,b,off,.slice A ys.length cap)::cf))::O2) a w->T)
  (hs:(L++envO O).lookup s=some (dnm ow G x v0 cf):=by rfl) (hn:L.lookup s=none:=by rfl) (hG:∀ b,G b->zk Gs p b:=by exact λ _ h=>h) (hq:selR L O qs p=some O2:=by rfl):T:=
 h.hdR p true (λ _=>hP) hs hn hG qs hq next
theorem Sx.sfA{ow:Ow α}{t q:Nat}{vo:Operand}{G:Nat->Prop}{x:α}{v0:Value}{cf:CF}{b off:Nat}{y y':β}{upd:β->α}(h:Sx F N M0 M Gs L O a w)(sb p:Nat)(hP:PH ow x v0 cf Ow.frz b off y upd)
  (hpl:OpdR M (λ s=>(L++envO O).lookup s) (.tmp q) (dis (.pointer (some ⟨b,off,none⟩)))) (hvl:OpdR M (λ s=>(L++envO O).lookup s) vo (dt y')) (ks qs:List Nat)
  (next:∀ w',Sx F N M0 M Gs L2 ((sb,p,dnm ow G (upd y') v0 [])::O2) a w'->wpList P ops Q rest a w') (hs:(L++envO O).lookup sb=some (dnm ow G x v0 cf):=by rfl) (ho:o.op=.store t (.tmp q) vo:=by rfl) (hgd:o.guard=none:=by rfl) (hd:o.dst=none:=by rfl)
  (ht:tyB P t (Rep.agg β) (Rep.size β)=true:=by kernel_rfl) (hp:p<Gs.length:=by simp) (hn:L.lookup sb=none:=by rfl) (hG:∀ b,G b->zk Gs p b:=by exact λ _ h=>h)
  (hk:selP ks L=some L2:=by rfl) (hq:selR L O qs p=some O2:=by rfl) (hdn:L2.lookup sb=none:=by rfl):wpList P ops Q (o::rest) a w:=
 h.stF p hP ho hgd hd ht hp hpl hvl hs hn hG ks hk qs hq hdn next
theorem Sx.shA{ow:Ow α}{oy:Ow β}{t q:Nat}{G G3:Nat->Prop}{v0:Value}{b off:Nat}{y':β}{upd:β->α}(h:Sx F N M0 M Gs L O a w)(sb tv p p2:Nat)(hpl:OpdR M (λ s=>(L++envO O).lookup s) (.tmp q) (dis (.pointer (some ⟨b,off,none⟩))))(ks qs:List Nat)
  (next:∀ G' w',Sx F N M0 M ((Gs.set p G').set p2 (oneB none)) L2 ((sb,p,dnm ow G' (upd y') v0 [])::O2) a w'->wpList P ops Q rest a w')
  (ho:o.op=.store t (.tmp q) (.tmp tv):=by rfl) (hgd:o.guard=none:=by rfl) (hd:o.dst=none:=by rfl) (hvl:(L++envO O).lookup tv=some (dow oy G3 y'):=by rfl) (hs:(L++envO O).lookup sb=some (dhl ow oy G v0 b off upd):=by rfl)
  (ht:tyB P t (Rep.agg β) (Rep.size β)=true:=by kernel_rfl) (hp:p<Gs.length:=by simp) (hp2:p2<Gs.length:=by simp) (hne:p≠p2:=by decide) (hG:∀ b,G b->zk Gs p b:=by exact λ _ h=>h) (hG3:∀ b,G3 b->zk Gs p2 b:=by exact λ _ h=>h)
  (hk:selP ks L=some L2:=by rfl) (hq:selR L O qs p=some O2:=by rfl) (hq2:O2.all (λ q=>q.2.1 != p2)=true:=by rfl) (hdn:L2.lookup sb=none:=by rfl):wpList P ops Q (o::rest) a w:=
 h.stH p p2 ho hgd hd ht hp hp2 hne hpl hvl hs hG hG3 ks hk qs hq hq2 hdn next
end
section
variable{P:Program}{F:Frm}{N:Nat}{M0 M:Nat->Prop}{Gs:List (Nat->Prop)}{L L2:Env}{O O2:List (Nat×Nat×Dt)}{a:Act}{w w0:World}{Q:Exit->Act->World->Prop}{ops:Array Oper}{o:Oper}{listed:Array Bool}{f d:Nat}{S:World->Prop}
variable{α β:Type}[Rep α][Rep β]
theorem Sx.tM{y:Dt}{q:Operand}(h:Sx F N M0 M Gs L O a w)(i sb:Nat)(hS:S w)(next:∀ a',Sx F N M0 M Gs ((d,y)::L) O a' w->wpAnyH P .any ops Q S f (listed.setIfInBounds i true) a' w)
  (ho:ops[i]?=some o:=by rfl) (hh:opH o N=some d:=by rfl) (hs:Region.noSelect ops=true:=by decide +kernel) (hf:Region.free .any ops listed i=true:=by decide +kernel) (hr:(Region.ready .any ops listed).contains i=true:=by decide +kernel)
  (hQ:∀ c a w v,Q (.panic c) (a.put o.dst v) w->Q (.panic c) a w:=by exact λ _ _ _ _ h=>h) (hl:(L++envO O).lookup sb=some y:=by rfl) (hn:y.nb=true:=by rfl) (hop:o.op=.move q:=by rfl) (hq:q=.tmp sb:=by rfl):wpAnyH P .any ops Q S (f+1) listed a w:=
 h.tkM ho hh hs hf hr hQ hS hl hn hop hq next
theorem Sx.tN{ow:Ow α}{G:Nat->Prop}{x:α}{v0:Value}{cf:CF}{q:Operand}(h:Sx F N M0 M Gs L O a w)(i sb:Nat)(hS:S w)(next:∀ a',Sx F N M0 M Gs ((d,dis v0)::L) O a' w->wpAnyH P .any ops Q S f (listed.setIfInBounds i true) a' w)
  (ho:ops[i]?=some o:=by rfl) (hh:opH o N=some d:=by rfl) (hs:Region.noSelect ops=true:=by decide +kernel) (hf:Region.free .any ops listed i=true:=by decide +kernel) (hr:(Region.ready .any ops listed).contains i=true:=by decide +kernel)
  (hQ:∀ c a w v,Q (.panic c) (a.put o.dst v) w->Q (.panic c) a w:=by exact λ _ _ _ _ h=>h) (hl:(L++envO O).lookup sb=some (dnm ow G x v0 cf):=by rfl) (hop:o.op=.move q:=by rfl) (hq:q=.tmp sb:=by rfl):wpAnyH P .any ops Q S (f+1) listed a w:=
 h.tkN ho hh hs hf hr hQ hS hl hop hq next
theorem Sx.tA{b off fo n:Nat}{cs:List Value}{x:α}{t:TypeId}{q:Operand}(h:Sx F N M0 M Gs L O a w)(i sb:Nat)(next:∀ a',Sx F N M0 M Gs ((d,dis (.pointer (some ⟨b,off+fo,none⟩)))::L) O a' w->wpAnyH P .any ops Q (λ w=>CellsAt w b off cs) f (listed.setIfInBounds i true) a' w)
  (ho:ops[i]?=some o:=by rfl) (hh:opH o N=some d:=by rfl) (hs:Region.noSelect ops=true:=by decide +kernel) (hf:Region.free .any ops listed i=true:=by decide +kernel) (hr:(Region.ready .any ops listed).contains i=true:=by decide +kernel)
  (hQ:∀ c a w v,Q (.panic c) (a.put o.dst v) w->Q (.panic c) a w:=by exact λ _ _ _ _ h=>h) (hl:(L++envO O).lookup sb=some (dpk b off cs x):=by rfl) (hop:o.op=.fieldAddr t q n:=by rfl) (ht:fldB P t n fo=true:=by exact FldO.h) (hq:q=.tmp sb:=by rfl):wpAnyH P .any ops Q (λ w=>CellsAt w b off cs) (f+1) listed a w:=
 h.tkA ho hh hs hf hr hQ hl hop ht hq next
theorem Sx.tF{b off fo:Nat}{cs:List Value}{x:α}{get:α->β}{t:TypeId}{q:Operand}(h:Sx F N M0 M Gs L O a w)(i sb s2:Nat)(fl:Fld get fo)(next:∀ a',Sx F N M0 M Gs ((d,dt (get x))::L) O a' w->wpAnyH P .any ops Q (λ w=>CellsAt w b off cs) f (listed.setIfInBounds i true) a' w)
  (ho:ops[i]?=some o:=by rfl) (hh:opH o N=some d:=by rfl) (hs:Region.noSelect ops=true:=by decide +kernel) (hf:Region.free .any ops listed i=true:=by decide +kernel) (hr:(Region.ready .any ops listed).contains i=true:=by decide +kernel)
  (hQ:∀ c a w v,Q (.panic c) (a.put o.dst v) w->Q (.panic c) a w:=by exact λ _ _ _ _ h=>h) (hl:(L++envO O).lookup sb=some (dpk b off cs x):=by rfl) (hl2:(L++envO O).lookup s2=some (dis (.pointer (some ⟨b,off+fo,none⟩))):=by rfl) (hop:o.op=.load t q:=by rfl) (ht:tyB P t (Rep.agg β) (Rep.size β)=true:=by kernel_rfl) (hq:q=.tmp s2:=by rfl):wpAnyH P .any ops Q (λ w=>CellsAt w b off cs) (f+1) listed a w:=
 h.tkF fl ho hh hs hf hr hQ hl hl2 hop ht hq next
end
open Go.RowKit
section
variable{P:Program}{F:Frm}{N:Nat}{M0 M:Nat->Prop}{Gs:List (Nat->Prop)}{L L2:Env}{O O2:List (Nat×Nat×Dt)}{a:Act}{w w0:World}{Q:Exit->Act->World->Prop}{ops:Array Oper}{o:Oper}{listed:Array Bool}{f i d:Nat}{S:World->Prop}
variable{α β:Type}[Rep α][Rep β]
theorem Sx.tkIF{t:TypeId}{q qi:Operand}{xs:List α}{m:Int}{x:α}(h:Sx F N M0 M Gs L O a w)(ho:ops[i]?=some o)(hh:opH o N=some d)(hs:Region.noSelect ops=true)(hf:Region.free .any ops listed i=true)(hr:(Region.ready .any ops listed).contains i=true)
  (hQ:∀ c a w v,Q (.panic c) (a.put o.dst v) w->Q (.panic c) a w) (hS:S w) (hop:o.op=.indexAddr t q qi) (ht':slB P t (Rep.size α)=true) (hx:OpdR M (λ s=>(L++envO O).lookup s) q (dt xs)) (hi:OpdR M (λ s=>(L++envO O).lookup s) qi (dt m)) (hm:atI xs m=some x)
  (next:∀ a',Sx F N M0 M Gs ((d,dptr x)::L) O a' w->wpAnyH P .any ops Q S f (listed.setIfInBounds i true) a' w):wpAnyH P .any ops Q S (f+1) listed a w:=by
 unfold OpdR at hx hi;obtain⟨hm0,hg⟩:=Ye hm;generalize m.toNat=k at*;subst hm0;obtain⟨e,ht⟩:=qT ht';obtain⟨cs,⟨A,c,hcs,h1,h2,h3⟩,hv⟩:=hx w a λ s y hy=>h.st.has s y hy
 have hiv:=yy.1 (hi w a λ s y hy=>h.st.has s y hy);have hk:k<xs.length:=(List.getElem?_eq_some_iff.1 hg).1;rcases h3 with h3 | ⟨b,off,cells,hA,hb,hc,hr2⟩
 ·
  rw[h3] at hk;simp at hk
 ·
  obtain⟨ti,ht1,ht2,ht3⟩:=Z7 ht;obtain⟨c',hcc,hr'⟩:=rowR_at hr2 hg;refine h.tkY (v:=.pointer (some ⟨b,off+k*Rep.size α,none⟩)) (y:=dptr x) ho hh hs hf hr (λ c a w=>hQ c a w _) hS (λ w' _=>?_) ⟨b,off+k*Rep.size α,c',rfl,hb,λ j u hj=>by rw[Nat.add_assoc];exact hc _ u (hcc j u hj),hr'⟩ rfl next;have hadd:(⟨b,off,none⟩:Addr).add (k*Rep.size α)=⟨b,off+k*Rep.size α,none⟩:=by
   unfold Addr.add;split
   ·
    rename_i h0;rw[h0];simp
   ·
    rfl
  unfold execOp;rw[hop];subst hcs hA;simp only[mkv,Rep.agg,List.headD_cons] at hv;simp[hv,hiv,Instr.indexAt,asIntOf,run_underlying ht1,sizeOf,typeInfo,ht2,ht3,hk,hadd]
theorem Sx.tkFp{t:TypeId}{q:Operand}{fo off:Nat}{x:α}{get:α->β}(h:Sx F N M0 M Gs L O a w)(ho:ops[i]?=some o)(hh:opH o N=some d)(hs:Region.noSelect ops=true)(hf:Region.free .any ops listed i=true)(hr:(Region.ready .any ops listed).contains i=true)
  (hQ:∀ c a w v,Q (.panic c) (a.put o.dst v) w->Q (.panic c) a w) (hS:S w) (fl:Fld get off) (hop:o.op=.fieldAddr t q fo) (ht:fldB P t fo off=true) (hp:OpdR M (λ s=>(L++envO O).lookup s) q (dptr x))
  (next:∀ a',Sx F N M0 M Gs ((d,dptr (get x))::L) O a' w->wpAnyH P .any ops Q S f (listed.setIfInBounds i true) a' w):wpAnyH P .any ops Q S (f+1) listed a w:=by
 unfold OpdR at hp;obtain⟨b,off',cs,hv,hb,hc,hr2⟩:=hp w a λ s y hy=>h.st.has s y hy
 obtain⟨c,hcc,hr'⟩:=fl.sub hr2;refine h.tkY (v:=.pointer (some ⟨b,off'+off,none⟩)) (y:=dptr (get x)) ho hh hs hf hr (λ c a w=>hQ c a w _) hS (λ w' _=>?_) ⟨b,off'+off,c,rfl,hb,λ j u hj=>by rw[Nat.add_assoc];exact hc _ u (hcc j u hj),hr'⟩ rfl next;unfold execOp;rw[hop];simp[hv,YY ht]
def bitsA(n m:Nat):Array Bool:=((List.range n).map m.testBit).toArray
theorem zq{f0:Nat}{l0:Array Bool}{a0:Act}{w0:World}(f m:Nat)(T:Act->World->Prop)(h:∀ a w,T a w->wpAnyH P .any ops Q S f (bitsA ops.size m) a w)(next:(∀ a w,T a w->wpAnyH P .any ops Q S f (bitsA ops.size m) a w)->wpAnyH P .any ops Q S f0 l0 a0 w0):wpAnyH P .any ops Q S f0 l0 a0 w0:=next h
theorem aHgo{l l':Array Bool}{T:Act->World->Prop}(n:∀ a w,T a w->wpAnyH P .any ops Q S f l' a w)(h:T a w:=by exact fx)(hl:l=l':=by decide +kernel):wpAnyH P .any ops Q S f l a w:=by rw[hl];exact n a w h
theorem aHe{l l':Array Bool}{T:Act->World->Prop}(n:∀ a w,T a w->wpAnyH P .any ops Q S f l' a w)(hS:S w)(h:T a w:=by exact fx)(hl:l=l':=by decide +kernel):wpList P ops (QH P ops Q S f l) [] a w:=aHN hS (aHgo n h hl)
theorem aH3{i j k:Nat}{o2 o3:Oper}(hr:Region.ready .any ops listed=[i,j,k])(ho:ops[i]?=some o)(ho2:ops[j]?=some o2)(ho3:ops[k]?=some o3)(h:wpList P ops (QH P ops Q S f (listed.setIfInBounds i true)) [o] a w)(h2:wpList P ops (QH P ops Q S f (listed.setIfInBounds j true)) [o2] a w)(h3:wpList P ops (QH P ops Q S f (listed.setIfInBounds k true)) [o3] a w):wpAnyH P .any ops Q S (f+1) listed a w:=
 ⟨λ e=>(by rw[hr] at e;cases e),λ q hk=>by
  rw[hr] at hk;simp only[List.mem_cons,List.not_mem_nil,or_false] at hk;rcases hk with rfl | rfl | rfl
  ·
   exact xQ ho h
  ·
   exact xQ ho2 h2
  ·
   exact xQ ho3 h3⟩
end
end Go.Proofs.YtdoidiipacdbpaaGreatDoor
