import Derived.Test.YtpmkkijamfgaeaaGreatDoorRG
import Derived.Test.YtpmkkijamfgaeaaGreatDoorProg
import Derived.Maps.Own
import Derived.Test.YtpmkkijamfgaeaaGreatDoorRB
namespace Go.Proofs.YtpmkkijamfgaeaaGreatDoor
open Go.RowKit
section
variable{α:Type}[Rep α]
def dpk(b o:Nat)(cs:List Value)(x:α):Dt where
 rd M w v:=v=.pointer (some ⟨b,o,none⟩)/\¬ M b/\CellsAt w b o cs/\Rep.rdc M w cs x
 own:=noB
 nb:=true
 nob _ _ h:=h
 stable:=λ⟨hv,hb,hc,h⟩ e=>⟨hv,hb,hc.stable hb e,Rep.stable h e⟩
 weak:=λ{M M' w v} ⟨hv,hb,hc,h⟩ e=>⟨hv,λ hm=>by
  have hl:=Rep.len h;have hp:=Rep.pos (α:=α);obtain⟨u,hu⟩:∃ u,cs[0]?=some u:=⟨_,List.getElem?_eq_getElem (by omega)⟩;exact hb (e b (zaQ (hc 0 u hu)) hm),hc,Rep.weak h e⟩
end
section
variable{P:Program}{ops:Array Oper}{fn:Func}{Q:Exit->Act->World->Prop}{S:World->Prop}{a:Act}{w w0:World}{f:Nat}{listed:Array Bool}{o:Oper}{F:Frm}{N:Nat}{M0 M:Nat->Prop}{Gs:List (Nat->Prop)}{L L2:Env}{O O2:List (Nat×Nat×Dt)}{ks qs:List Nat}{p p2:Nat}{T:Prop}
theorem Sx.addL{s:Nat}{y:Dt}(h:Sx F N M0 M Gs L O a w)(hy:y.rd M w (Act.at a s))(hn:y.nb=true):Sx F N M0 M Gs ((s,y)::L) O a w:=by
 refine⟨⟨h.st.fr,h.st.size,h.st.defers,h.st.mok,λ s' z hz=>?_⟩,h.ob,λ s' z hz=>?_,h.ow⟩
 ·
  simp only[List.cons_append,List.lookup_cons] at hz;by_cases he:s'=s
  ·
   subst he;simp only[beq_self_eq_true,Option.some.injEq] at hz;subst hz;exact hy
  ·
   have hb:(s' == s)=false:=by simpa using he
   simp only[hb] at hz;exact h.st.has s' z hz
 ·
  simp only[List.lookup_cons] at hz;split at hz
  ·
   injection hz with hz;subst hz;exact hn
  ·
   exact h.no s' z hz
section
variable{α β γ δ:Type}[Rep α][Rep β][Rep γ][Rep δ]
theorem Sx.opn{s:Nat}{x:α}(h:Sx F N M0 M Gs L O a w)(hs:(L++envO O).lookup s=some (dptr x))(next:∀ (b o:Nat) (cs:List Value),Sx F N M0 M Gs ((s,dpk b o cs x)::L) O a w->T):T:=by
 obtain⟨b,o,cs,h1,h2,h3,h4⟩:=h.st.has s _ hs;exact next b o cs (h.addL ⟨h1,h2,h3,h4⟩ rfl)
theorem Sx.clo{s b o:Nat}{cs:List Value}{x:α}(h:Sx F N M0 M Gs L O a w)(hs:(L++envO O).lookup s=some (dpk b o cs x)):Sx F N M0 M Gs ((s,dptr x)::L) O a w:=by
 obtain⟨h1,h2,h3,h4⟩:=h.st.has s _ hs;exact h.addL ⟨b,o,cs,h1,h2,h3,h4⟩ rfl
theorem Sx.pkS{s b o:Nat}{cs:List Value}{x:α}(h:Sx F N M0 M Gs L O a w)(hs:(L++envO O).lookup s=some (dpk b o cs x)):CellsAt w b o cs:=(h.st.has s _ hs).2.2.1
theorem Sx.tkY{i d:Nat}{v:Value}{y:Dt}(h:Sx F N M0 M Gs L O a w)(ho:ops[i]?=some o)(hh:opH o N=some d)(hs:Region.noSelect ops=true)(hf:Region.free .any ops listed i=true)(hr:(Region.ready .any ops listed).contains i=true)
  (hQ:∀ c a w,Q (.panic c) (a.put o.dst v) w->Q (.panic c) a w) (hS:S w) (hy:∀ w,S w->(execOp a.eval o).run P w=.ok (.value v) w) (hyr:y.rd M w v) (hn:y.nb=true)
  (next:∀ a',Sx F N M0 M Gs ((d,y)::L) O a' w->wpAnyH P .any ops Q S f (listed.setIfInBounds i true) a' w):wpAnyH P .any ops Q S (f+1) listed a w:=
 wpAnyH_take ho hs hf hr hQ (.inl ⟨Xv (zY hh).1,hy⟩) hS (by rw[(zY hh).2.1];exact next _ (h.putL (zY hh).2.2 hyr hn))
theorem Sx.tkA{i d sb b off fo n:Nat}{cs:List Value}{x:α}{t:TypeId}{q:Operand}(h:Sx F N M0 M Gs L O a w)(ho:ops[i]?=some o)(hh:opH o N=some d)(hs:Region.noSelect ops=true)(hf:Region.free .any ops listed i=true)(hr:(Region.ready .any ops listed).contains i=true)
  (hQ:∀ c a w v,Q (.panic c) (a.put o.dst v) w->Q (.panic c) a w) (hl:(L++envO O).lookup sb=some (dpk b off cs x)) (hop:o.op=.fieldAddr t q n) (ht:fldB P t n fo=true) (hq:q=.tmp sb)
  (next:∀ a',Sx F N M0 M Gs ((d,dis (.pointer (some ⟨b,off+fo,none⟩)))::L) O a' w->wpAnyH P .any ops Q (λ w=>CellsAt w b off cs) f (listed.setIfInBounds i true) a' w):wpAnyH P .any ops Q (λ w=>CellsAt w b off cs) (f+1) listed a w:=by
 obtain⟨h1,_,h3,_⟩:=h.st.has sb _ hl;exact h.tkY ho hh hs hf hr (λ c a w=>hQ c a w _) h3 (yFa hop ht (by rw[hq];exact h1)) rfl rfl next
theorem Sx.tkB{i d:Nat}{t:TypeId}{ns:List Nat}{zs:List (List Value)}{parts:List (Nat×Operand)}{x:α}(h:Sx F N M0 M Gs L O a w)(ho:ops[i]?=some o)(hh:opH o N=some d)(hs:Region.noSelect ops=true)(hf:Region.free .any ops listed i=true)(hr:(Region.ready .any ops listed).contains i=true)
  (hQ:∀ c a w v,Q (.panic c) (a.put o.dst v) w->Q (.panic c) a w) (hS:S w) (hagg:Rep.agg α=true) (hop:o.op=.build t parts.toArray) (hb:bldB P t ns=true) (hz:ZR P t ns=some zs)
  (hl:∀ (w:World) (a:Act),(∀ s y,(L++envO O).lookup s=some y->y.rd M w (Act.at a s))->∀ p∈parts,p.1<ns.length/\(a.eval p.2).cells.toList.length=ns.getD p.1 0)
  (hx:∀ (w:World) (a:Act),(∀ s y,(L++envO O).lookup s=some y->y.rd M w (Act.at a s))->Rep.rdc M w ((parts.foldl (λ l p=>l.set p.1 (a.eval p.2).cells.toList) zs).flatten) x)
  (next:∀ a',Sx F N M0 M Gs ((d,dt x)::L) O a' w->wpAnyH P .any ops Q S f (listed.setIfInBounds i true) a' w):wpAnyH P .any ops Q S (f+1) listed a w:=by
 have hc:=λ w'=>zbL (P:=P) (parts:=parts.map λ p=>(p.1,a.eval p.2)) hb hz (λ p hp=>by
  obtain⟨q,hq,rfl⟩:=List.mem_map.1 hp;have:=hl w a (λ s y hy=>h.st.has s y hy) q hq;exact⟨this.1,by simpa using this.2⟩) w'
 obtain⟨cells,h1,h2⟩:=hc w;refine h.tkY (v:=.agg cells) (y:=dt x) ho hh hs hf hr (λ c a w=>hQ c a w _) hS (λ w' _=>?_) ⟨cells.toList,?_,by rw[hagg];rfl⟩ rfl next
 ·
  obtain⟨cells',h3,h4⟩:=hc w';have hcc:cells'=cells:=Array.toList_inj.1 (h4.trans h2.symm);rw[hcc] at h3;unfold execOp;rw[hop];have e:(parts.toArray.map λ p:Nat×Operand=>(p.1,a.eval p.2))=(parts.map λ p=>(p.1,a.eval p.2)).toArray:=by simp
  simp only[e,Sem.run_bind,h3,Result.andThen_ok,Sem.run_pure]
 ·
  rw[h2,List.foldl_map];exact hx w a λ s y hy=>h.st.has s y hy
theorem Sx.tkM{i d sb:Nat}{y:Dt}{q:Operand}(h:Sx F N M0 M Gs L O a w)(ho:ops[i]?=some o)(hh:opH o N=some d)(hs:Region.noSelect ops=true)(hf:Region.free .any ops listed i=true)(hr:(Region.ready .any ops listed).contains i=true)
  (hQ:∀ c a w v,Q (.panic c) (a.put o.dst v) w->Q (.panic c) a w) (hS:S w) (hl:(L++envO O).lookup sb=some y) (hn:y.nb=true) (hop:o.op=.move q) (hq:q=.tmp sb)
  (next:∀ a',Sx F N M0 M Gs ((d,y)::L) O a' w->wpAnyH P .any ops Q S f (listed.setIfInBounds i true) a' w):wpAnyH P .any ops Q S (f+1) listed a w:=
 h.tkY (v:=Act.at a sb) (y:=y) ho hh hs hf hr (λ c a w=>hQ c a w _) hS (yMv hop (by rw[hq];rfl)) (h.st.has sb _ hl) hn next
theorem Sx.tkF{i d sb s2 b off fo:Nat}{cs:List Value}{x:α}{get:α->β}(fl:Fld get fo){t:TypeId}{q:Operand}(h:Sx F N M0 M Gs L O a w)(ho:ops[i]?=some o)(hh:opH o N=some d)(hs:Region.noSelect ops=true)(hf:Region.free .any ops listed i=true)(hr:(Region.ready .any ops listed).contains i=true)
  (hQ:∀ c a w v,Q (.panic c) (a.put o.dst v) w->Q (.panic c) a w) (hl:(L++envO O).lookup sb=some (dpk b off cs x)) (hl2:(L++envO O).lookup s2=some (dis (.pointer (some ⟨b,off+fo,none⟩)))) (hop:o.op=.load t q) (ht:tyB P t (Rep.agg β) (Rep.size β)=true) (hq:q=.tmp s2)
  (next:∀ a',Sx F N M0 M Gs ((d,dt (get x))::L) O a' w->wpAnyH P .any ops Q (λ w=>CellsAt w b off cs) f (listed.setIfInBounds i true) a' w):wpAnyH P .any ops Q (λ w=>CellsAt w b off cs) (f+1) listed a w:=by
 obtain⟨h1,_,h3,h4⟩:=h.st.has sb _ hl;obtain⟨c,hc,hr2⟩:=fl.sub h4;have h5:Act.at a s2=.pointer (some ⟨b,off+fo,none⟩):=h.st.has s2 _ hl2;refine h.tkY (v:=mkv (Rep.agg β) c) (y:=dt (get x)) ho hh hs hf hr (λ c a w=>hQ c a w _) h3 (λ w hw=>?_) ⟨c,hr2,rfl⟩ rfl next;have:=yQ (P:=P) (w:=w) (b:=b) (o:=off+fo) ht (Rep.len hr2) Rep.one (λ j u hj=>by rw[Nat.add_assoc];exact hw _ u (hc j u hj));have hv:a.eval q=.pointer (some ⟨b,off+fo,none⟩):=by rw[hq];exact h5
 unfold execOp;rw[hop];simp[Instr.loadAt,Instr.sureAddr,hv,this]
end
end
open Go.RowKit
def chkE(E:List Nat)(n k:Nat)(T:List (List Nat))(listed:Array Bool):Bool:=
 decide (listed.size=n)&&((List.range n).all λ i=>listed.getD i false == E.contains i)&&(E.all λ i=>decide (i<k)&&(T.getD i []).all λ j=>E.contains j)
theorem QY{P:Program}{ops:Array Oper}{Q:Exit->Act->World->Prop}:∀ (f:Nat) (listed:Array Bool) (a:Act) (w:World),wpAny P .any ops Q f listed a w->wpAnyH P .any ops Q (λ _=>True) f listed a w
 | 0,_,_,_,h=>h
 | f+1,_,_,_,h=>⟨h.1,λ i hi=>wpOp_mono (λ a' w' h'=>⟨trivial,QY f _ a' w' h'⟩) (h.2 i hi)⟩
section
variable{P:Program}{F:Frm}{N:Nat}{M0 M:Nat->Prop}{Gs:List (Nat->Prop)}{L L2:Env}{O O2:List (Nat×Nat×Dt)}{a:Act}{w w0:World}{Q:Exit->Act->World->Prop}{ops:Array Oper}{ks:List Nat}{o:Oper}{listed:Array Bool}{f:Nat}
variable{α:Type}[Rep α]
theorem Sx.drnE{D:List Dt}{xs:List (Nat×Dt)}(h:Sx F N M0 M Gs L O a w)(k:Nat)(E:List Nat)(S:List (List (Nat×Option Nat)))(hc:Yx E ops k (cloE E ops) S=true)(hkn:k<=ops.size)(hE:chkE E ops.size k (cloE E ops) listed=true)(hf:left ops.size listed=f)
  (hs:RegR P M ops N S (L++envO O) D 0 (ops.toList.take k) xs) (hx:∀ i∈E,∀ x d,xs[i]?=some (d,x)->(L++envO O).lookup d=some x) (ks:List Nat) (hk:selP ks (xs++(L++envO O))=some L2) (qp:List (Nat×Nat)) (hq:selQ qp (xs++(L++envO O))=some O2) (hw:AllOw Gs O2)
  (hQ:∀ a' w',Sx F N M0 M Gs L2 O2 a' w'->wpList P ops Q (ops.toList.drop k) a' w'):wpAnyH P .any ops Q (λ _=>True) f listed a w:=by
 unfold chkE at hE;simp only[Bool.and_eq_true,decide_eq_true_eq] at hE;obtain⟨⟨hsz,hl⟩,hEk⟩:=hE;have hl':∀ i,i<ops.size->listed.getD i false=E.contains i:=λ i hi=>by
  have:=List.all_eq_true.1 hl i (List.mem_range.2 hi);simpa using this
 have hEk':∀ i∈E,i<k/\∀ j∈(cloE E ops).getD i [],j∈E:=λ i hi=>by
  have:=List.all_eq_true.1 hEk i hi;simp only[Bool.and_eq_true,decide_eq_true_eq] at this;exact⟨this.1,λ j hj=>List.contains_iff_mem.1 (List.all_eq_true.1 this.2 j hj)⟩
 have hin:∀ j∈E,listed.getD j false=true:=λ j hj=>by
  rw[hl' j (by have:=(hEk' j hj).1;omega)];exact List.contains_iff_mem.2 hj
 refine QY _ _ _ _ (draw_anyE hc (λ j hj=>(hEk' j hj).1) hkn h.st hs (λ a' w' he st=>hQ a' w' (.of_st st h.ob hk hq hw)) f listed a w hf hin ⟨hsz,h.st.size,rfl,Ext0.refl _,λ i hi=>?_,λ i hi hl2 j hj=>?_,λ i hl2 x d hxi=>?_,λ s _=>rfl⟩)
 ·
  rcases Nat.lt_or_ge i ops.size with h1 | h1
  ·
   rw[hl' i h1];cases hcn:E.contains i with
   | false=>rfl
   |
    true=>
    have:=(hEk' i (List.contains_iff_mem.1 hcn)).1;omega
  ·
   have:¬ i<listed.size:=by omega
   simp[this]
 ·
  rw[hl' i hi] at hl2;exact hin j ((hEk' i (List.contains_iff_mem.1 hl2)).2 j hj)
 ·
  have hi:i<ops.size:=by rw[← hsz];exact QQ hl2
  rw[hl' i hi] at hl2;exact h.st.has d x (hx i (List.contains_iff_mem.1 hl2) x d hxi)
theorem Objs.up{M':Nat->Prop}(ob:Objs F M0 M Gs)(h:∀ b,M b->M' b):Objs F M0 M' Gs:=⟨λ b hb=>h b (ob.sub b hb),λ p b hb=>⟨(ob.at_ p b hb).1,h b (ob.at_ p b hb).2.1,(ob.at_ p b hb).2.2⟩,ob.apart⟩
theorem Sx.tkN{ow:Ow α}{i d sb:Nat}{G:Nat->Prop}{x:α}{v0:Value}{cf:CF}{S:World->Prop}{q:Operand}(h:Sx F N M0 M Gs L O a w)(ho:ops[i]?=some o)(hh:opH o N=some d)(hs:Region.noSelect ops=true)(hf:Region.free .any ops listed i=true)(hr:(Region.ready .any ops listed).contains i=true)
  (hQ:∀ c a w v,Q (.panic c) (a.put o.dst v) w->Q (.panic c) a w) (hS:S w) (hl:(L++envO O).lookup sb=some (dnm ow G x v0 cf)) (hop:o.op=.move q) (hq:q=.tmp sb)
  (next:∀ a',Sx F N M0 M Gs ((d,dis v0)::L) O a' w->wpAnyH P .any ops Q S f (listed.setIfInBounds i true) a' w):wpAnyH P .any ops Q S (f+1) listed a w:=
 h.tkY (v:=v0) (y:=dis v0) ho hh hs hf hr (λ c a w=>hQ c a w _) hS (yMv hop (by rw[hq];exact(h.st.has sb _ hl).1)) rfl rfl next
theorem yNc{S:World->Prop}{q:Operand}{A:Addr}(ho:o.op=.nilCheck q)(hv:a.eval q=.pointer (some A)):∀ w,S w->(execOp a.eval o).run P w=.ok (.value (.pointer (some A))) w:=λ w _=>by
 unfold execOp;rw[ho];simp[hv]
theorem Sx.tkI{β:Type}{i d g n cap s2 size:Nat}{S:World->Prop}{t:TypeId}{q qi:Operand}{A:Option Addr}{ys:List β}{m:Int}{y:β}(h:Sx F N M0 M Gs L O a w)(ho:ops[i]?=some o)(hh:opH o N=some d)(hs:Region.noSelect ops=true)(hf:Region.free .any ops listed i=true)(hr:(Region.ready .any ops listed).contains i=true)
  (hQ:∀ c a w v,Q (.panic c) (a.put o.dst v) w->Q (.panic c) a w) (hS:S w) (hop:o.op=.indexAddr t q qi) (ht':slB P t size=true) (hl:(L++envO O).lookup s2=some (dis (.slice A n cap))) (hq:q=.tmp s2) (hi:OpdR M (λ s=>(L++envO O).lookup s) qi (dt m)) (hn:n=ys.length) (hA:ys.length≠0->A=some ⟨g,0,none⟩) (hm:atI ys m=some y)
  (next:∀ a',Sx F N M0 M Gs ((d,dis (.pointer (some ⟨g,m.toNat*size,none⟩)))::L) O a' w->wpAnyH P .any ops Q S f (listed.setIfInBounds i true) a' w):wpAnyH P .any ops Q S (f+1) listed a w:=by
 refine h.tkY (v:=.pointer (some ⟨g,m.toNat*size,none⟩)) (y:=dis (.pointer (some ⟨g,m.toNat*size,none⟩))) ho hh hs hf hr (λ c a w=>hQ c a w _) hS (λ w' _=>?_) rfl rfl next;obtain⟨hm0,hx⟩:=yt hm;generalize m.toNat=k at*;have hk:=zA hx;have hA':=hA (by omega);subst hA';obtain⟨e',ht⟩:=Yy ht';obtain⟨ti,ht1,ht2,ht3⟩:=Yl ht;have hsv:a.eval q=.slice (some ⟨g,0,none⟩) n cap:=by rw[hq];exact h.st.has s2 _ hl
 have hiv:=yv.1 (hi w a λ s y hy=>h.st.has s y hy);have hk':k<n:=by omega
 have hadd:(⟨g,0,none⟩:Addr).add (k*size)=⟨g,k*size,none⟩:=by rw[Zn];simp
 subst hm0;unfold execOp;rw[hop];simp[hsv,hiv,Instr.indexAt,asIntOf,run_underlying ht1,sizeOf,typeInfo,ht2,ht3,hk',hadd]
theorem Sx.tkE{i d s2 j:Nat}{S:World->Prop}{q:Operand}{xs:List Dt}{y:Dt}(h:Sx F N M0 M Gs L O a w)(ho:ops[i]?=some o)(hh:opH o N=some d)(hs:Region.noSelect ops=true)(hf:Region.free .any ops listed i=true)(hr:(Region.ready .any ops listed).contains i=true)
  (hQ:∀ c a w v,Q (.panic c) (a.put o.dst v) w->Q (.panic c) a w) (hS:S w) (hop:o.op=.extract q j) (hl:(L++envO O).lookup s2=some (dtup xs)) (hq:q=.tmp s2) (hx:xs[j]?=some y)
  (next:∀ a',Sx F N M0 M Gs ((d,y)::L) O a' w->wpAnyH P .any ops Q S f (listed.setIfInBounds i true) a' w):wpAnyH P .any ops Q S (f+1) listed a w:=by
 obtain⟨us,hv,hr2,hn⟩:=h.st.has s2 _ hl;obtain⟨u,h1,h2⟩:=hr2.at hx;refine h.tkY (v:=u) (y:=y) ho hh hs hf hr (λ c a w=>hQ c a w _) hS (λ w' _=>?_) h2 (hn y (List.mem_of_getElem? hx)) next;have hv':a.eval q=.tuple us.toArray:=by rw[hq];exact hv
 unfold execOp;rw[hop];simp[hv',Instr.extract,h1]
theorem Sx.appH{d s x:Nat}{t e:TypeId}{bytes:Nat}{g:Option Nat}{xs ys r:List α}{rest:List Oper}(h:Sx F N M0 M Gs L O a w)(p:Nat)(hh:opH o N=some d)
  (ho:o.op=.call { callee:=.builtin .append,args:=#[.tmp s,.tmp x],argTypes:=#[t,t] }) (hel:elB P t e (Rep.size α) bytes=true)
  (hs:(L++envO O).lookup s=some (dtip g e xs)) (hg:Gs[p]?=some (oneB g)) (hx:RowAt M w (Act.at a x) ys) (hm:appO bytes xs ys=some r)
  (ks:List Nat) (hk:selP ks L=some L2) (qs:List Nat) (hq:selR L O qs p=some O2) (hdn:L2.lookup d=none)
  (next:∀ g' M' a' w',Sx F N M0 M' (Gs.set p (oneB g')) L2 ((d,p,dtip g' e r)::O2) a' w'->wpList P ops Q rest a' w'):wpList P ops Q (o::rest) a w:=by
 obtain⟨hgd,hd,hN⟩:=zY hh;unfold appO at hm;split at hm
 ·
  rename_i hsz;injection hm with hm;subst hm;have hMg:∀ k,insO g M k->M k:=λ k hk=>hk.elim id λ e=>(h.ob.at_ p k ((yg hg k).2 e)).2.1
  have hx':RowAt (insO g M) w (Act.at a x) ys:=let⟨A,c,h1,h2⟩:=hx;⟨A,c,h1,h2.imp id λ⟨b,off,cells,hA,hc,hr⟩=>⟨b,off,cells,hA,hc,wY (λ k _ hk=>hMg k hk) hr⟩⟩;obtain⟨v',w',g',hrun,hv',hgr,hg',hlt⟩:=YA (P:=P) (w:=w) (t:=t) (ty:=o.type) (M0:=M) (g:=g) hel ((dtip g e xs).weak (h.st.has s _ hs) λ k _ hk=>hMg k hk) hx' hsz.1 (by unfold maxLen;omega);refine wpList_plain hgd λ K hK=>OpOut.wp (OpOut.of_value (v:=v') (w':=w') ?_ ?_)
  ·
   unfold execOp;simp only[ho,resolve,invoke,builtin,Sem.run_bind,Sem.run_pure,Result.andThen_ok,List.map_toArray,List.map_cons,List.map_nil,Act.eval_tmp,hrun]
  ·
   rw[hd];have h1:=h.eff (G':=oneB g') (qe hg) (Grown.own hg hgr) (λ b hb=>⟨(hg'.imp (λ e=>(yg hg b).2 (by rw[← e];exact hb)) λ e=>e b hb),hlt b hb⟩) hk hq;exact hK _ _ (next g' _ _ _ (h1.putO hN hdn ((dtip g' e _).weak hv' λ k _ hk=>hk.imp (λ h=>h.1) id) λ b hb=>by rw[zm (qe hg)];exact hb))
 ·
  cases hm
theorem Sx.rowH{β:Type}[Rep β]{ow:Ow β}{e:TypeId}{s sb b off:Nat}{G:Nat->Prop}{x:β}{v0 u:Value}{cf:CF}{ys:List α}{upd:List α->β}{c:Bool}(h:Sx F N M0 M Gs L O a w)(hP:PH ow x v0 cf (Ow.row e Ow.frz) b off ys upd)(hm:(c,b,off,u)∈cf)(hc:c=true)(hf:Fits (List α) u)(hs:(L++envO O).lookup sb=some (dnm ow G x v0 cf))(hx:(L++envO O).lookup s=some (dis u)):RowAt M w (Act.at a s) ys:=by
 obtain⟨h1,⟨cs,h2,h3⟩,h4⟩:=h.st.has sb _ hs;obtain⟨C,e',hh,hsz,_,G1,G2,_,_,_,_,_,hr,_⟩:=(hP.of h2 h3 h4).here;have hu:=fits_val hf hh hsz (h4 _ hm hc).2.2;have hsv:Act.at a s=u:=h.st.has s _ hx;obtain⟨v,hv,h5⟩:=hr;rw[hv] at hu;have hu:u=v:=hu;rw[hsv,hu];rcases h5 with⟨g,cap,cur,Gr,hg,hb,k1,k2,k3,k4,k5,k6,k7⟩ | ⟨hx0,A,hA⟩
 ·
  refine⟨_,cap,hg,.inr ⟨g,0,_,rfl,λ j u hj=>?_,rowR_frz k7⟩⟩;rw[List.getElem?_take] at hj;split at hj
  ·
   rw[Nat.zero_add];have:cur[j]?=some u:=by simpa using hj
   simp[World.cell?,hb,this]
  ·
   cases hj
 ·
  exact⟨A,0,by rw[hA,hx0];rfl,.inl hx0⟩
end
section
variable{P:Program}{F:Frm}{N:Nat}{M0 M:Nat->Prop}{Gs:List (Nat->Prop)}{L L2:Env}{O O2:List (Nat×Nat×Dt)}{a:Act}{w w0:World}{Q:Exit->Act->World->Prop}{ops:Array Oper}{rest:List Oper}{ks qs:List Nat}{o:Oper}{d e:Nat}
variable{β γ:Type}[Rep β][Rep γ]
theorem Sx.cSFw{oy:Ow β}{q:Operand}{sb:Nat}{cnd:Bool}{f:FuncId}{l:List Operand}{ts:Array TypeId}{G:Nat->Prop}{y y':β}{r:γ}{v0:Value}{cf:CF}{xr:List Dt}(h:Sx F N M0 M Gs L O a w)(p:Nat)
  (hs:(L++envO O).lookup sb=some (dnm oy G y v0 cf)) (hG:∀ b,G b->zo Gs p b) (hd:o.dst=some d) (hN:d<N) (hw:Region.wanted o (yielded ops a.tmps)=cnd)
  (ho:o.op=.call { callee:=.value (.func f),args:=(q::l).toArray,argTypes:=ts }) (hf:fnB P f=true) (hqv:cnd=true->a.eval q=v0) (hp:p<Gs.length) (hx:cnd=true->ArgsR M (λ s=>(L++envO O).lookup s) l xr) (hfn:cnd=true->FnS P f oy y xr y' (.frz (dt r)))
  (ks:List Nat) (hk:selP ks L=some L2) (qs:List Nat) (hq:selR L O qs p=some O2) (hsn:L2.lookup sb=none) (hne:sb≠d)
  (next:∀ G'' M' a' w',Sx F N M0 M' (Gs.set p G'') ((d,Dt.grd cnd (dt r))::L2) ((sb,p,dnm oy G'' (if cnd=true then y' else y) v0 [])::O2) a' w'->wpList P ops Q rest a' w'):wpList P ops Q (o::rest) a w:=by
 have hv0:Act.at a sb=v0:=(h.st.has sb _ hs).1;cases hc:cnd with
 |
  true=>
  rw[hc] at hw;refine J0 hw ?_;refine h.cSF (o:={ o with guard:=none }) (yd:=Dt.grd cnd (dt r)) (d:=d) p (h.bkN (y':=y') hs hG) ?_ ho hf ((hqv hc).trans hv0.symm) hp (hx hc) ?_ ks hk qs hq hsn hne (λ G'' M' a' w' st=>next G'' M' a' w' ?_)
  ·
   simp[opH,hd,hN]
  ·
   intro M0 G w v vs hm hgm hv hr;refine(hfn hc M0 G w v vs hm hgm hv hr).mono λ en w' ⟨u,G',Gr,k1,k2,k3,k4,k5,k6,k7,k8,k9⟩=>⟨u,G',Gr,k1,k2,k3,k4,k5,k6,k7,⟨λ _=>k8,λ hf=>?_⟩,rfl⟩
   rw[hc] at hf;cases hf
  ·
   rw[hc] at st;rw[hc,if_pos rfl];exact st
 |
  false=>
  rw[hc] at hw;obtain⟨k1,k2,_⟩:=h.st.has sb _ hs;unfold wpList;rw[if_neg (by rw[hw];decide),hd];have hset:Gs.set p (zo Gs p)=Gs:=by
   apply List.ext_getElem?;intro n;by_cases hn:p=n
   ·
    subst hn;rw[List.getElem?_set_self hp,List.getElem?_eq_getElem hp]
    congr 1
    funext b
    unfold zo;rw[List.getElem?_eq_getElem hp]
   ·
    rw[List.getElem?_set_ne hn]
  have st0:=(h.mut hp (Grown.refl _ w) hk hq).addO (d:=sb) (p:=p) (x:=dnm oy (zo Gs p) y v0 []) hsn ⟨k1,(let⟨cs,k3,k4⟩:=k2;⟨cs,oy.more k3 hG,k4⟩),λ q hq _=>by cases hq⟩ (λ _ h=>h);refine next (zo Gs p) M _ w ?_;rw[hset,hc,if_neg (by decide)];exact st0.putL hN (v:=undef) ⟨λ h=>(by cases h),λ _=>rfl⟩ rfl
theorem Sx.cSFhB{oy:Ow β}{q:Operand}{sb j:Nat}{want b c:Bool}{f:FuncId}{l:List Operand}{ts:Array TypeId}{G:Nat->Prop}{y y':β}{r:γ}{v0:Value}{cf:CF}{xr:List Dt}(h:Sx F N M0 M Gs L O a w)(p:Nat)
  (hs:(L++envO O).lookup sb=some (dnm oy.box G ⟨y⟩ v0 cf)) (hG:∀ b,G b->zo Gs p b) (hh:opG o N ops=some (d,e,j,want)) (hb:(L++envO O).lookup e=some (Dt.grd c (dt b)))
  (ho:o.op=.call { callee:=.value (.func f),args:=(q::l).toArray,argTypes:=ts }) (hf:fnB P f=true) (hqv:(c&&(b == want))=true->a.eval q=v0) (hp:p<Gs.length) (hx:(c&&(b == want))=true->ArgsR M (λ s=>(L++envO O).lookup s) l xr) (hfn:(c&&(b == want))=true->FnS P f oy.box ⟨y⟩ xr ⟨y'⟩ (.frz (dt r)))
  (ks:List Nat) (hk:selP ks L=some L2) (qs:List Nat) (hq:selR L O qs p=some O2) (hsn:L2.lookup sb=none) (hne:sb≠d)
  (next:∀ G'' M' a' w',Sx F N M0 M' (Gs.set p G'') ((d,Dt.grd (c&&(b == want)) (dt r))::L2) ((sb,p,dnm oy.box G'' ⟨if(c&&(b == want))=true then y' else y⟩ v0 [])::O2) a' w'->wpList P ops Q rest a' w'):wpList P ops Q (o::rest) a w:=by
 obtain⟨hg,hd,hj,hN,hE⟩:=xn hh;have h1:=h.st.has e _ hb;have hlt:e<a.tmps.size:=by rw[h.st.size];exact hE
 have hat:a.tmps[e]?=some (Act.at a e):=by
  unfold Act.at;rw[Array.getD_eq_getD_getElem?,Array.getElem?_eq_getElem hlt];rfl
 have hw:Region.wanted o (yielded ops a.tmps)=(c&&(b == want)):=by
  cases hc:c with
  |
   true=>
   have h2:=zv (h1.1 hc);simp[Region.wanted,hg,yielded,hj,hat,h2]
  |
   false=>
   have h2:=h1.2 hc;simp[Region.wanted,hg,yielded,hj,hat,h2,undef]
 exact h.cSFw p hs hG hd hN hw ho hf hqv hp hx hfn ks hk qs hq hsn hne λ G'' M' a' w' st=>next G'' M' a' w' (by rw[ite_bx] at st;exact st)
end
theorem op_app1{α:Type}[Rep α]{P:Program}{M:Nat->Prop}{look:Nat->Option Dt}{o:Oper}{t e:TypeId}{bytes:Nat}{q qx:Operand}{ys r:List α}(ho:o.op=.call { callee:=.builtin .append,args:=#[q,qx],argTypes:=#[t,t] })(hel:elB P t e (Rep.size α) bytes=true)
  (hs:OpdR M look q (dtip none e ([]:List α))) (hx:∀ (w:World) (a:Act),(∀ s y,look s=some y->y.rd M w (Act.at a s))->RowAt M w (a.eval qx) ys) (hm:appO bytes [] ys=some r):OpRel P M look o (dt r):=
 λ a w hmok hl=>by
  unfold appO at hm;split at hm
  ·
   rename_i hsz;injection hm with hm;subst hm;have hM:∀ k,insO none M k->M k:=λ k hk=>hk.elim id λ e=>by cases e
   have hx':RowAt (insO none M) w (a.eval qx) ys:=let⟨A,c,h1,h2⟩:=hx w a hl;⟨A,c,h1,h2.imp id λ⟨b,off,cells,hA,hc,hr⟩=>⟨b,off,cells,hA,hc,wY (λ k _ hk=>hM k hk) hr⟩⟩;obtain⟨v',w',g',hrun,hv',hgr,hg',hlt⟩:=YA (P:=P) (w:=w) (t:=t) (ty:=o.type) (M0:=M) (g:=none) hel ((dtip none e ([]:List α)).weak (hs w a hl) λ k _ hk=>hM k hk) hx' hsz.1 (by unfold maxLen;omega);have hex:Ext0 w w':=⟨hgr.os,hgr.tape,hgr.output,hgr.size,λ k hk=>hgr.block k hk (by simp)⟩;refine OpOut.of_value (v:=v') (w':=w') ?_ ⟨hex,Wc hv' (λ b _ hb=>.inl hb) λ b hb hm=>?_⟩
   ·
    unfold execOp;simp only[ho,resolve,invoke,builtin,Sem.run_bind,Sem.run_pure,Result.andThen_ok,List.map_toArray,List.map_cons,List.map_nil,hrun]
   ·
    rcases hg' with h1 | h1
    ·
     rw[h1] at hb;cases hb
    ·
     have h2:=h1 b hb;have h3:=hmok b hm;omega
  ·
   cases hm
theorem op_app0{α:Type}[Rep α]{P:Program}{M:Nat->Prop}{look:Nat->Option Dt}{o:Oper}{t e:TypeId}{bytes:Nat}{q qx:Operand}{ys r:List α}(ho:o.op=.call { callee:=.builtin .append,args:=#[q,qx],argTypes:=#[t,t] })(hel:elB P t e (Rep.size α) bytes=true)
  (hs:OpdR M look q (dtip none e ([]:List α))) (hx:OpdR M look qx (dt ys)) (hm:appO bytes [] ys=some r):OpRel P M look o (dt r):=
 op_app1 ho hel hs (λ w a hl=>yS M w _ (hx w a hl)) hm
open Go.RowKit
section
variable{α β γ:Type}[Rep α][Rep β][Rep γ]
def Rd.t3(o:Ow α)(x:α)(y z:Dt):Rd where
 rd M G w v:=∃ u1 u2 u3,v=.tuple #[u1,u2,u3]/\(dow o G x).rd M w u1/\(y.rd M w u2/\y.nb=true)/\z.rd M w u3/\z.nb=true
 stable:=λ⟨u1,u2,u3,hv,h1,h2,h3⟩ e=>⟨u1,u2,u3,hv,(dow o _ x).stable h1 e,⟨y.stable h2.1 (λ k hk hm=>e k hk (hm.imp id λ ho=>(y.nob h2.2 k ho).elim)),h2.2⟩,z.stable h3.1 (λ k hk hm=>e k hk (hm.imp id λ ho=>(z.nob h3.2 k ho).elim)),h3.2⟩
 weak:=λ⟨u1,u2,u3,hv,h1,h2,h3⟩ e=>⟨u1,u2,u3,hv,(dow o _ x).weak h1 e,⟨y.weak h2.1 e,h2.2⟩,z.weak h3.1 e,h3.2⟩
 more:=λ⟨u1,u2,u3,hv,⟨cs,h1,h1'⟩,h2,h3⟩ e=>⟨u1,u2,u3,hv,⟨cs,o.more h1 e,h1'⟩,h2,h3⟩
def dex(y z:Dt):Dt where
 rd M w v:=∃ u1 u2 u3,v=.tuple #[u1,u2,u3]/\(y.rd M w u2/\y.nb=true)/\z.rd M w u3/\z.nb=true
 own:=noB
 nb:=true
 nob _ _ h:=h
 stable:=λ⟨u1,u2,u3,hv,h2,h3⟩ e=>⟨u1,u2,u3,hv,⟨y.stable h2.1 (λ k hk hm=>e k hk (hm.elim .inl λ ho=>(y.nob h2.2 k ho).elim)),h2.2⟩,z.stable h3.1 (λ k hk hm=>e k hk (hm.elim .inl λ ho=>(z.nob h3.2 k ho).elim)),h3.2⟩
 weak:=λ⟨u1,u2,u3,hv,h2,h3⟩ e=>⟨u1,u2,u3,hv,⟨y.weak h2.1 e,h2.2⟩,z.weak h3.1 e,h3.2⟩
variable{P:Program}{ops:Array Oper}{rest:List Oper}{fn:Func}{Q:Exit->Act->World->Prop}{a:Act}{w w0:World}{o:Oper}{F:Frm}{N d:Nat}{M0 M:Nat->Prop}{Gs:List (Nat->Prop)}{L L2:Env}{O O2:List (Nat×Nat×Dt)}{ks qs:List Nat}{T:Prop}{look:Nat->Option Dt}
theorem Sx.mvD{X:Dt}{s:Nat}{q:Operand}(h:Sx F N M0 M Gs L O a w)(p:Nat)(hh:opH o N=some d)(ho:o.op=.move q)(hq:q=.tmp s)(hs:(L++envO O).lookup s=some X)(hX:∀ b,X.own b->zo Gs p b)(hdn:L.lookup d=none)(qs:List Nat)(hsel:selR L O qs p=some O2)
  (next:∀ a',Sx F N M0 M Gs L ((d,p,X)::O2) a' w->wpList P ops Q rest a' w):wpList P ops Q (o::rest) a w:=by
 obtain⟨hgd,hd,hN⟩:=zY hh;refine wpList_plain hgd λ K hK=>OpOut.wp (OpOut.of_value (v:=Act.at a s) (w':=w) ?_ ?_)
 ·
  unfold execOp;rw[ho,hq];simp only[Sem.run_pure];rfl
 ·
  rw[hd];exact hK _ _ (next _ ((h.drop hsel).putO hN hdn (h.st.has s _ hs) hX))
theorem Sx.ex3{oo:Ow α}{x:α}{y z:Dt}{s:Nat}{G:Nat->Prop}{q:Operand}(h:Sx F N M0 M Gs L O a w)(p:Nat)(hh:opH o N=some d)(ho:o.op=.extract q 0)(hq:q=.tmp s)(hs:(L++envO O).lookup s=some (drd (Rd.t3 oo x y z) G))(hG:∀ b,G b->zo Gs p b)(hdn:List.lookup d ((s,dex y z)::L)=none)(qs:List Nat)(hsel:selR L O qs p=some O2)
  (next:∀ a',Sx F N M0 M Gs ((s,dex y z)::L) ((d,p,dow oo G x)::O2) a' w->wpList P ops Q rest a' w):wpList P ops Q (o::rest) a w:=by
 obtain⟨hgd,hd,hN⟩:=zY hh;obtain⟨u1,u2,u3,hv,h1,h2,h3⟩:=h.st.has s _ hs;refine wpList_plain hgd λ K hK=>OpOut.wp (OpOut.of_value (v:=u1) (w':=w) ?_ ?_)
 ·
  have he:a.eval q=.tuple #[u1,u2,u3]:=by rw[hq];exact hv
  unfold execOp;rw[ho];simp[he,Instr.extract]
 ·
  rw[hd];exact hK _ _ (next _ (((h.drop hsel).addL (s:=s) (y:=dex y z) ⟨u1,u2,u3,hv,h2,h3⟩ rfl).putO hN hdn h1 hG))
theorem xEx1{q:Operand}{y z:Dt}(ho:o.op=.extract q 1)(hp:OpdR M look q (dex y z)):OpRel P M look o y:=
 zx λ a w _ hl=>by
  obtain⟨u1,u2,u3,hv,h2,_⟩:=hp w a hl;exact⟨u2,by unfold execOp;rw[ho];simp[hv,Instr.extract],h2.1⟩
theorem xEx2{q:Operand}{y z:Dt}(ho:o.op=.extract q 2)(hp:OpdR M look q (dex y z)):OpRel P M look o z:=
 zx λ a w _ hl=>by
  obtain⟨u1,u2,u3,hv,_,h3⟩:=hp w a hl;exact⟨u3,by unfold execOp;rw[ho];simp[hv,Instr.extract],h3.1⟩
theorem Sx.rs3O{oo:Ow α}{oy:Ow β}{t u v s:Nat}{ty:TypeId}{G G' G2:Nat->Prop}{v0 v1:Value}{cf cf2:CF}{x xr:α}{y:Bx β}{y2 y3:Dt}{yr:β}(h:Sx (Frm.chg w0 G) N M0 M Gs L O a w)(p p2:Nat)(hr:fn.results=#[.cell t ty,.tmp u,.tmp v])(ht:tyB P ty (Rep.agg β) (Rep.size β)=true)(hl:(L++envO O).lookup t=some (dnm oy.box G2 y v1 cf2))(hs:(L++envO O).lookup s=some (dnm oo G' x v0 cf))(hl2:(L++envO O).lookup u=some y2)(hl3:(L++envO O).lookup v=some y3)(hn:y2.nb=true/\y3.nb=true)(hG:∀ b,G' b->zo Gs p b)(hG2:∀ b,G2 b->zo Gs p2 b)(hne:p≠p2)
  (hm:xr=x/\yr=y.x):bodyPost P fn (RetS M0 w0 G v0 oo xr (.t3 oy yr y2 y3)) .ret a w:=by
 obtain⟨h1,h2⟩:=hm;subst h1;subst h2;obtain⟨k1,⟨cs,k2,k3⟩,_⟩:=h.st.has s _ hs;obtain⟨j1,⟨c2,⟨b,C,e,Gr,hc,hb,hGb,hnb,hsub,hro⟩,h3⟩,_⟩:=h.st.has t _ hl;have hM:∀ k,k<w.heap.size->(M0 k\/G' k)\/Gr k->M k:=λ k _ hk=>hk.elim (λ hk=>hk.elim (h.ob.sub k) λ hk=>(h.ob.at_ p k (hG k hk)).2.1) λ hk=>(h.ob.at_ p2 k (hG2 k (hsub k hk))).2.1
 have hrr:=oy.toR hro;have hc':∀ j u,C.toList[j]?=some u->w.cell? ⟨b,0+j,none⟩=some u:=λ j u hj=>by
  rw[Nat.zero_add];have:C[j]?=some u:=by simpa using hj
  simp[World.cell?,hb,this]
 have hld:=yQ ht (Rep.len hrr) Rep.one hc';have hv:a.tmps.getD t undef=.pointer (some ⟨b,0,none⟩):=by
  show Act.at a t=_;rw[j1,h3,hc];rfl
 exact⟨h.st.defers,_,zcn hr hv hld,_,G',Gr,rfl,h.st.fr,λ b hb=>(h.ob.at_ p b (hG b hb)).1,λ b hb=>(h.ob.at_ p2 b (hG2 b (hsub b hb))).1,λ b hb hb2=>h.ob.apart p p2 b hne (hG b hb) (hG2 b (hsub b hb2)),λ b hb=>hb.elim (λ hb=>h.st.mok b (h.ob.at_ p b (hG b hb)).2.1) λ hb=>h.st.mok b (h.ob.at_ p2 b (hG2 b (hsub b hb))).2.1,
  ⟨cs,oo.weak k2 hM,k3⟩,_,_,_,rfl,⟨_,oy.weak hro hM,rfl⟩,⟨y2.weak (h.st.has u _ hl2) hM,hn.1⟩,y3.weak (h.st.has v _ hl3) hM,hn.2⟩
def dbk(oo:Ow α)(G:Nat->Prop)(x:α)(b:Nat)(C:Array Value)(e:TypeId):Dt where
 rd M w v:=v=.pointer (some ⟨b,0,none⟩)/\w.heap[b]?=some (.cells C e (0,0))/\G b/\∃ Gr:Nat->Prop,¬ Gr b/\(∀ k,Gr k->G k)/\oo.ro M Gr w C.toList x
 own:=G
 nb:=false
 nob h:=by cases h
 stable:=λ⟨hv,hh,hG,Gr,h1,h2,h3⟩ k=>⟨hv,(k b (wA hh) (.inr hG)).trans hh,hG,Gr,h1,h2,oo.stable h3 (k.sub h2)⟩
 weak:=λ⟨hv,hh,hG,Gr,h1,h2,h3⟩ k=>⟨hv,hh,hG,Gr,h1,h2,oo.weak h3 k⟩
def dbc(b:Nat)(C:Array Value)(e:TypeId):Dt where
 rd _ w v:=v=.pointer (some ⟨b,0,none⟩)/\w.heap[b]?=some (.cells C e (0,0))
 own:=oneB (some b)
 nb:=false
 nob h:=by cases h
 stable:=λ⟨hv,hh⟩ k=>⟨hv,(k b (wA hh) (.inr rfl)).trans hh⟩
 weak h _:=h
theorem Sx.opB{oo:Ow α}{s:Nat}{G:Nat->Prop}{x:Bx α}(h:Sx F N M0 M Gs L O a w)(p:Nat)(hs:(L++envO O).lookup s=some (dow oo.box G x))(hn:L.lookup s=none)(hG:∀ b,G b->zo Gs p b)(qs:List Nat)(hq:selR L O qs p=some O2)
  (next:∀ (b:Nat) (C:Array Value) (e:TypeId),Sx F N M0 M Gs L ((s,p,dbk oo G x.x b C e)::O2) a w->T):T:=by
 obtain⟨cs,⟨b,C,e,Gr,hc,hh,hb,h1,h2,h3⟩,hv⟩:=h.st.has s _ hs;refine next b C e ((h.drop hq).addO hn ⟨?_,hh,hb,Gr,h1,h2,h3⟩ hG);rw[hv,hc];rfl
theorem Sx.bcS{s b:Nat}{C:Array Value}{e:TypeId}(h:Sx F N M0 M Gs L O a w)(hs:(L++envO O).lookup s=some (dbc b C e)):w.heap[b]?=some (.cells C e (0,0)):=(h.st.has s _ hs).2
variable{f:Nat}{listed:Array Bool}
theorem Sx.tkO{oo:Ow α}{i s b:Nat}{G:Nat->Prop}{x:α}{C:Array Value}{e t:TypeId}{q:Operand}(h:Sx F N M0 M Gs L O a w)(p p2:Nat)(ho:ops[i]?=some o)(hh:opH o N=some d)(hsel:Region.noSelect ops=true)(hf:Region.free .any ops listed i=true)(hr:(Region.ready .any ops listed).contains i=true)
  (hQ:∀ c a w v,Q (.panic c) (a.put o.dst v) w->Q (.panic c) a w) (hs:(L++envO O).lookup s=some (dbk oo G x b C e)) (hG:∀ b,G b->zo Gs p b) (hagg:Rep.agg α=true) (hop:o.op=.load t q) (ht:tyB P t true (Rep.size α)=true) (hq0:q=.tmp s) (hp:p<Gs.length) (hp2:p2<Gs.length) (hpp:p≠p2) (ks:List Nat) (_hk:selP ks L=some L2) (qs:List Nat) (hq:selR L O qs p=some O2) (hq2:O2.all (λ q=>q.2.1 != p&&q.2.1 != p2)=true) (hn:L.lookup s=none) (hdn:L.lookup d=none) (_hne:s≠d)
  (next:∀ a' (G1:Nat->Prop),C.size=Rep.size α->Sx F N M0 M ((Gs.set p (oneB (some b))).set p2 G1) L ((d,p2,dnm oo G1 x (.agg C) [])::(s,p,dbc b C e)::O2) a' w->wpAnyH P .any ops Q (λ w=>w.heap[b]?=some (.cells C e (0,0))) f (listed.setIfInBounds i true) a' w):wpAnyH P .any ops Q (λ w=>w.heap[b]?=some (.cells C e (0,0))) (f+1) listed a w:=by
 obtain⟨hv,hb,hGb,Gr,h1,h2,h3⟩:=h.st.has s _ hs;have hrr:=oo.toR h3;have hval:mkv (Rep.agg α) C.toList=.agg C:=by rw[hagg];simp[mkv]
 refine wpAnyH_take ho hsel hf hr (λ c a w=>hQ c a w _) (.inl ⟨Xv (zY hh).1,λ w' hw'=>?_⟩) (v:=.agg C) hb ?_
 ·
  have hc':∀ j u,C.toList[j]?=some u->w'.cell? ⟨b,0+j,none⟩=some u:=λ j u hj=>by
   rw[Nat.zero_add];have:C[j]?=some u:=by simpa using hj
   simp[World.cell?,hw',this]
  have hl:=yQ (P:=P) (w:=w') (agg:=true) ht (Rep.len hrr) (λ h=>by cases h) hc';have hv':a.eval q=.pointer (some ⟨b,0,none⟩):=by rw[hq0];exact hv
  unfold execOp;rw[hop];simp[Instr.loadAt,Instr.sureAddr,hv',hl,mkv]
 ·
  rw[(zY hh).2.1];have h0:=(h.drop hq).spl (A:=oneB (some b)) (B:=Gr) hp hp2 hpp (λ k hk=>by injection hk with hk;subst hk;exact hG _ hGb) (λ k hk=>hG k (h2 k hk)) (λ k hk hk2=>by injection hk with hk;subst hk;exact h1 hk2) hq2;have h5:=h0.addO (d:=s) (p:=p) (x:=dbc b C e) hn ⟨hv,hb⟩ λ k hk=>by rw[zq (Ne.symm hpp),zm hp];exact hk
  exact next _ Gr (by have:=Rep.len hrr;simpa using this) (h5.putO (zY hh).2.2 hdn (x:=dnm oo Gr x (.agg C) []) (v:=.agg C) ⟨rfl,⟨C.toList,h3,hval.symm⟩,λ q hq _=>by cases hq⟩ λ k hk=>by rw[zm (by simpa using hp2)];exact hk)
theorem Sx.tkP{i s b fo n:Nat}{C:Array Value}{e t:TypeId}{q:Operand}(h:Sx F N M0 M Gs L O a w)(ho:ops[i]?=some o)(hh:opH o N=some d)(hsel:Region.noSelect ops=true)(hf:Region.free .any ops listed i=true)(hr:(Region.ready .any ops listed).contains i=true)
  (hQ:∀ c a w v,Q (.panic c) (a.put o.dst v) w->Q (.panic c) a w) (hs:(L++envO O).lookup s=some (dbc b C e)) (hop:o.op=.fieldAddr t q n) (ht:fldB P t n fo=true) (hq0:q=.tmp s)
  (next:∀ a',Sx F N M0 M Gs ((d,dis (.pointer (some ⟨b,fo,none⟩)))::L) O a' w->wpAnyH P .any ops Q (λ w=>w.heap[b]?=some (.cells C e (0,0))) f (listed.setIfInBounds i true) a' w):wpAnyH P .any ops Q (λ w=>w.heap[b]?=some (.cells C e (0,0))) (f+1) listed a w:=by
 obtain⟨hv,hb⟩:=h.st.has s _ hs;refine h.tkY (y:=dis (.pointer (some ⟨b,fo,none⟩))) ho hh hsel hf hr (λ c a w=>hQ c a w _) hb (λ w' hw'=>?_) rfl rfl next;have:=yFa (P:=P) (S:=λ _=>True) (a:=a) (o:=o) hop ht (by rw[hq0];exact hv) w' trivial;rw[Nat.zero_add] at this;exact this
theorem Sx.tkC{i s s2 b fo:Nat}{C:Array Value}{e t:TypeId}{q:Operand}(h:Sx F N M0 M Gs L O a w)(ho:ops[i]?=some o)(hh:opH o N=some d)(hsel:Region.noSelect ops=true)(hf:Region.free .any ops listed i=true)(hr:(Region.ready .any ops listed).contains i=true)
  (hQ:∀ c a w v,Q (.panic c) (a.put o.dst v) w->Q (.panic c) a w) (hs:(L++envO O).lookup s=some (dbc b C e)) (hs2:(L++envO O).lookup s2=some (dis (.pointer (some ⟨b,fo,none⟩)))) (hop:o.op=.load t q) (ht:tyB P t false 1=true) (hq0:q=.tmp s2) {n:Nat} (hsz:C.size=n) (hfo:decide (fo<n)=true)
  (next:∀ a',Sx F N M0 M Gs ((d,dis (QX (.agg C) fo))::L) O a' w->wpAnyH P .any ops Q (λ w=>w.heap[b]?=some (.cells C e (0,0))) f (listed.setIfInBounds i true) a' w):wpAnyH P .any ops Q (λ w=>w.heap[b]?=some (.cells C e (0,0))) (f+1) listed a w:=by
 have hlen:fo<C.size:=by rw[hsz];exact oD hfo
 obtain⟨hv,hb⟩:=h.st.has s _ hs;have h2:Act.at a s2=.pointer (some ⟨b,fo,none⟩):=h.st.has s2 _ hs2;have hc:QX (.agg C) fo=C[fo]:=by
  show C.toList.getD fo undef=_;rw[List.getD_eq_getElem?_getD];simp[hlen]
 refine h.tkY (v:=QX (.agg C) fo) (y:=dis (QX (.agg C) fo)) ho hh hsel hf hr (λ c a w=>hQ c a w _) hb (λ w' hw'=>?_) rfl rfl next;exact yLd (P:=P) (S:=λ w=>w.heap[b]?=some (.cells C e (0,0))) (a:=a) (o:=o) hop ht (by rw[hq0];exact h2) (λ w hw=>by rw[hc];simp[World.cell?,hw,hlen]) w' hw'
theorem FnS.frz3{P:Program}{f:FuncId}{o:Ow α}{x x':α}{xs:List Dt}{oy:Ow β}{y:β}{z1 z2:Dt}(h:FnS P f o x xs x' (.t3 oy y z1 z2)):FnS P f o x xs x' (.frz (dtup [dt y,z1,z2])):=by
 intro M0 G w v vs hm hg hv hr;refine(h M0 G w v vs hm hg hv hr).mono λ en w' ⟨u,G',Gr,k1,k2,k3,k4,k5,k6,k7,⟨u1,u2,u3,e1,⟨cs,k8,k9⟩,e2,e3⟩⟩=>?_
 have hw:∀ k,(M0 k\/G' k)\/noB k->((M0 k\/G' k)\/Gr k)/\¬ Gr k:=λ k hk=>by
  rcases hk with(hk | hk) | hk
  ·
   exact⟨.inl (.inl hk),λ hg2=>(k4 k hg2).elim (λ e=>hg k e hk) λ e=>by have:=hm k (.inl hk);omega⟩
  ·
   exact⟨.inl (.inr hk),k5 k hk⟩
  ·
   exact hk.elim
 exact⟨u,G',noB,k1,k2,k3,λ _ h=>h.elim,λ _ _ h=>h,λ b hb=>hb.elim (λ hb=>k6 b (.inl hb)) λ h=>h.elim,(dow o G' x').weak k7 λ k _ hk=>hk.elim (λ hk=>.inl hk) λ h=>h.elim,
  ⟨[u1,u2,u3],e1,.cons ⟨cs,Rep.weak (oy.toR k8) λ k _ hk=>hw k hk,k9⟩ (.cons (z1.weak e2.1 λ k _ hk=>(hw k hk).1) (.cons (z2.weak e3.1 λ k _ hk=>(hw k hk).1) .nil)),λ q hq=>by
   simp only[List.mem_cons,List.not_mem_nil,or_false] at hq;rcases hq with rfl | rfl | rfl
   ·
    rfl
   ·
    exact e2.2
   ·
    exact e3.2⟩,rfl⟩
theorem opd_eq{q:Operand}{u u':Value}(e:u=u')(h:OpdR M look q (dis u)):OpdR M look q (dis u'):=e ▸ h
theorem Sx.hdV{ow:Ow α}{oy:Ow β}{e:TypeId}{s off:Nat}{G:Nat->Prop}{x:α}{v0:Value}{cf:CF}{ys:List β}{upd:List β->α}(h:Sx F N M0 M Gs L O a w)(hP:PV ow x v0 cf (Ow.row e oy) off ys upd)(hs:(L++envO O).lookup s=some (dnm ow G x v0 cf)):∃ (g:Nat) (A:Option Addr) (cap:Nat),QX v0 off=.slice A ys.length cap/\(ys.length≠0->A=some ⟨g,0,none⟩):=by
 obtain⟨_,⟨cs,h2,h3⟩,h4⟩:=h.st.has s _ hs;obtain⟨G1,G2,_,_,_,⟨v,hv,hr⟩,_⟩:=(hP.of h2 h3 h4).1;have hc:QX v0 off=v:=vcell_of h2 h3 hv;rcases hr with⟨g,cap,cur,Gr,hg,_⟩ | ⟨hx,A,hA⟩
 ·
  exact⟨g,_,cap,by rw[hc,hg],λ _=>rfl⟩
 ·
  exact⟨0,A,0,by rw[hc,hA,hx];rfl,λ h=>absurd (by rw[hx];rfl) h⟩
end
open Go.RowKit
section
variable{P:Program}{fn:Func}{F:Frm}{N:Nat}{M0 M M':Nat->Prop}{Gs:List (Nat->Prop)}{L L' L2:Env}{O O2:List (Nat×Nat×Dt)}{a:Act}{w w' w0:World}
variable{α β γ:Type}[Rep α][Rep β][Rep γ]
variable{Q:Exit->Act->World->Prop}{ops:Array Oper}{rest:List Oper}{ks qs:List Nat}{o:Oper}{d p e:Nat}
end
open Go.RowKit
structure Pn(α:Type) where
 b:Nat
 x:α
section
variable{α:Type}[Rep α]
instance:Rep (Pn α) where
 size:=1
 agg:=false
 rdc M w cs y:=cs=[.pointer (some ⟨y.b,0,none⟩)]/\(dptr y.x).rd M w (.pointer (some ⟨y.b,0,none⟩))
 len:=λ⟨h,_⟩=>by rw[h];rfl
 one _:=rfl
 pos:=Nat.one_pos
 oneCell:=λ⟨h,_⟩ c hc=>by
  rw[h] at hc;simp at hc;subst hc;rfl
 stable:=λ⟨h,hr⟩ e=>⟨h,(dptr _).stable hr e⟩
 weak:=λ⟨h,hr⟩ e=>⟨h,(dptr _).weak hr e⟩
def Ow.pin(o:Ow α):Ow (Pn α) where
 ro M G w cs y:=∃ (C:Array Value) (e:TypeId) (Gr:Nat->Prop),cs=[.pointer (some ⟨y.b,0,none⟩)]/\w.heap[y.b]?=some (.cells C e (0,0))/\G y.b/\¬ Gr y.b/\(∀ k,Gr k->G k)/\o.ro M Gr w C.toList y.x
 toR:=λ{M G w cs y} ⟨C,e,Gr,hc,hh,hG,hn,hs,hr⟩=>⟨hc,y.b,0,C.toList,rfl,λ h=>h.2 hG,λ j u hj=>by
  rw[Nat.zero_add];have:C[j]?=some u:=by simpa using hj
  simp[World.cell?,hh,this],Rep.weak (o.toR hr) λ k _ hk=>⟨hk.1,λ h=>hk.2 (hs k h)⟩⟩
 stable:=λ{M G w w' cs y} ⟨C,e,Gr,hc,hh,hG,hn,hs,hr⟩ k=>⟨C,e,Gr,hc,(k y.b (wA hh) (.inr hG)).trans hh,hG,hn,hs,o.stable hr (k.sub hs)⟩
 weak:=λ⟨C,e,Gr,hc,hh,hG,hn,hs,hr⟩ k=>⟨C,e,Gr,hc,hh,hG,hn,hs,o.weak hr k⟩
 more:=λ{M G G' w cs y} ⟨C,e,Gr,hc,hh,hG,hn,hs,hr⟩ k=>⟨C,e,Gr,hc,hh,k y.b hG,hn,λ i hi=>k i (hs i hi),hr⟩
theorem Ow.pin_box{o:Ow α}{M G:Nat->Prop}{w:World}{cs:List Value}{y:Pn α}(h:o.pin.ro M G w cs y):o.box.ro M G w cs ⟨y.x⟩:=
 let⟨C,e,Gr,h⟩:=h;⟨y.b,C,e,Gr,h⟩
theorem Ow.box_pin{o:Ow α}{M G:Nat->Prop}{w:World}{cs:List Value}{y:Bx α}{b:Nat}(h:o.box.ro M G w cs y)(hc:cs=[.pointer (some ⟨b,0,none⟩)]):o.pin.ro M G w cs ⟨b,y.x⟩:=by
 obtain⟨b',C,e,Gr,h1,h2⟩:=h;rw[hc] at h1;have e2:b'=b:=by injection h1 with h1;injection h1 with h1;injection h1 with h1;injection h1 with h1;exact h1.symm
 subst e2;exact⟨C,e,Gr,hc,h2⟩
variable{β:Type}[Rep β]{M G:Nat->Prop}{w:World}{b off:Nat}
theorem VP.mono{oy:Ow β}{c:List Value}{y:β}{R R':(Nat->Prop)->(Nat->Prop)->World->β->Prop}(h:VP oy M G w c y R)(hR:∀ {M' G':Nat->Prop} {w':World} {y':β},R M' G' w' y'->R' M' G' w' y'):VP oy M G w c y R':=by
 obtain⟨G1,G2,s1,s2,hd,hr,put⟩:=h;exact⟨G1,G2,s1,s2,hd,hr,λ hL hy h1 h2 h3=>hR (put hL hy h1 h2 h3)⟩
theorem HP.mono{oy:Ow β}{y:β}{R R':(Nat->Prop)->(Nat->Prop)->World->β->Prop}(h:HP oy M G w b off y R)(hR:∀ {M' G':Nat->Prop} {w':World} {y':β},R M' G' w' y'->R' M' G' w' y'):HP oy M G w b off y R':=by
 obtain⟨G1,G2,C,e,s1,s2,hb,n1,n2,hd,hh,hsz,hr,put⟩:=h;exact⟨G1,G2,C,e,s1,s2,hb,n1,n2,hd,hh,hsz,hr,λ hL hh' hy nb h1 g0 h2 h3=>hR (put hL hh' hy nb h1 g0 h2 h3)⟩
theorem VP.toBox{o:Ow α}{c:List Value}{y:Pn α}{R:(Nat->Prop)->(Nat->Prop)->World->Pn α->Prop}(h:VP o.pin M G w c y R):c=[.pointer (some ⟨y.b,0,none⟩)]/\VP o.box M G w c ⟨y.x⟩ (λ M' G' w' z=>R M' G' w' ⟨y.b,z.x⟩):=by
 obtain⟨G1,G2,s1,s2,hd,hr,put⟩:=h;obtain⟨C,e,Gr,hc,hk⟩:=hr;exact⟨hc,G1,G2,s1,s2,hd,Ow.pin_box ⟨C,e,Gr,hc,hk⟩,λ hL hy h1 h2 h3=>put hL (Ow.box_pin hy hc) h1 h2 h3⟩
theorem HP.pin{o:Ow α}{y:Pn α}{R:(Nat->Prop)->(Nat->Prop)->World->Pn α->Prop}(h:HP o.pin M G w b off y R):w.cell? ⟨b,off,none⟩=some (.pointer (some ⟨y.b,0,none⟩))/\HP o M G w y.b 0 y.x (λ M' G' w' z=>R M' G' w' ⟨y.b,z⟩):=by
 obtain⟨C,e,hh,hsz,hv⟩:=h.vp;obtain⟨hc,hb⟩:=hv.toBox;obtain⟨b',hc',hp⟩:=hb.box;rw[hc] at hc';have e2:b'=y.b:=by injection hc' with h1;injection h1 with h1;injection h1 with h1;injection h1 with h1;exact h1.symm
 subst e2;exact⟨by simp[World.cell?,hh,WZ hc],hp⟩
theorem zip_set{τ:Type}{bs:List Nat}{xs:List τ}{k b:Nat}{y:τ}(h:bs[k]?=some b):(List.zipWith Pn.mk bs xs).set k ⟨b,y⟩=List.zipWith Pn.mk bs (xs.set k y):=by
 apply List.ext_getElem?;intro i;by_cases hi:k=i
 ·
  subst hi;by_cases hx:k<xs.length
  ·
   have hb:k<bs.length:=zA h;rw[List.getElem?_set_self (by rw[List.length_zipWith];omega),List.getElem?_zipWith_eq_some.2 ⟨b,y,h,by rw[List.getElem?_set_self hx],rfl⟩]
  ·
   rw[List.getElem?_eq_none_iff.2 (by rw[List.length_set,List.length_zipWith];omega),List.getElem?_eq_none_iff.2 (by rw[List.length_zipWith,List.length_set];omega)]
 ·
  rw[List.getElem?_set_ne hi,List.getElem?_zipWith,List.getElem?_zipWith,List.getElem?_set_ne hi]
theorem Qt{τ:Type}{bs:List Nat}{xs:List (Bx τ)}(h:bs.length=xs.length):(List.zipWith Pn.mk bs (xs.map Bx.x)).length=xs.length:=by
 rw[List.length_zipWith,List.length_map];omega
theorem rowR_pin{M:Nat->Prop}{w:World}:∀ {bs:List Nat} {xs:List (Bx α)} {cells:List Value},bs.length=xs.length->rowR M w cells (List.zipWith Pn.mk bs (xs.map Bx.x))->rowR M w cells xs
 | [],[],_,_,h=>h
 |
  b::bs,x::xs,cells,hl,h=>by
  obtain⟨c,r,h1,⟨h2,h3⟩,h4⟩:=h;exact⟨c,r,h1,⟨_,h2,h3⟩,rowR_pin (by simpa using hl) h4⟩
 | [],_::_,_,hl,_=>by simp at hl
 | _::_,[],_,hl,_=>by simp at hl
def Ow.rowF(φ:List Nat->Prop)(e:TypeId)(o:Ow α):Ow (List (Bx α)) where
 ro M G w cs xs:=∃ bs:List Nat,bs.length=xs.length/\φ bs/\(Ow.row e o.pin).ro M G w cs (List.zipWith Pn.mk bs (xs.map Bx.x))
 toR:=λ{M G w cs xs} ⟨bs,hl,_,h⟩=>by
  obtain⟨A,c,h1,h2,h3,h4⟩:=(Ow.row e o.pin).toR h;rw[Qt hl] at h1 h2;refine⟨A,c,h1,h2,h3,?_⟩;rcases h4 with h4 | ⟨b,o',cells,ha,hb,hc,hr⟩
  ·
   have:=congrArg List.length h4;rw[Qt hl,List.length_nil] at this;exact .inl (List.length_eq_zero_iff.1 this)
  ·
   exact .inr ⟨b,o',cells,ha,hb,hc,rowR_pin hl hr⟩
 stable:=λ⟨bs,hl,hp,h⟩ k=>⟨bs,hl,hp,(Ow.row e _).stable h k⟩
 weak:=λ⟨bs,hl,hp,h⟩ k=>⟨bs,hl,hp,(Ow.row e _).weak h k⟩
 more:=λ⟨bs,hl,hp,h⟩ k=>⟨bs,hl,hp,(Ow.row e _).more h k⟩
def pinsOf(ps:List (Nat×Nat))(bs:List Nat):Prop:=∀ q∈ps,bs[q.1]?=some q.2
def laxOf(ps:List (Nat×Nat))(n b:Nat)(bs:List Nat):Prop:=pinsOf ps bs/\(n<bs.length->bs[n]?=some b)
abbrev Ow.rowP(ps:List (Nat×Nat))(e:TypeId)(o:Ow α):Ow (List (Bx α)):=Ow.rowF (pinsOf ps) e o
variable{ps:List (Nat×Nat)}{φ:List Nat->Prop}{e:TypeId}{o:Ow α}
def Imp{γ:Type}[Rep γ](o1 o2:Ow γ)(x:γ):Prop:=∀ {M G:Nat->Prop} {w:World} {cs:List Value},o1.ro M G w cs x->o2.ro M G w cs x
def ImpE{γ:Type}[Rep γ](o1:Ow γ)(o2:Nat->Ow γ)(x:γ):Prop:=∀ {M G:Nat->Prop} {w:World} {cs:List Value},o1.ro M G w cs x->∃ b,(o2 b).ro M G w cs x
theorem xO{o1 o2:Ow α}{x:Bx α}(h:Imp o1 o2 x.x):Imp o1.box o2.box x:=λ⟨b,C,e,Gr,h1,h2,h3,h4,h5,h6⟩=>⟨b,C,e,Gr,h1,h2,h3,h4,h5,h h6⟩
theorem Zu{o1:Ow α}{o2:Nat->Ow α}{x:Bx α}(h:ImpE o1 o2 x.x):ImpE o1.box (λ b=>(o2 b).box) x:=λ⟨b,C,e,Gr,h1,h2,h3,h4,h5,h6⟩=>let⟨b',h7⟩:=h h6;⟨b',b,C,e,Gr,h1,h2,h3,h4,h5,h7⟩
theorem imp_via{δ γ:Type}[Rep γ]{f:δ->γ}{o1 o2:Ow γ}{x:δ}(h:Imp o1 o2 (f x)):@Imp δ (Rep.iso f) (Ow.via f o1) (Ow.via f o2) x:=λ hr=>h hr
theorem impE_via{δ γ:Type}[Rep γ]{f:δ->γ}{o1:Ow γ}{o2:Nat->Ow γ}{x:δ}(h:ImpE o1 o2 (f x)):@ImpE δ (Rep.iso f) (Ow.via f o1) (λ b=>Ow.via f (o2 b)) x:=λ hr=>h hr
section
variable{β γ:Type}[Rep β][Rep γ]
theorem imp_fst{o1 o2:Ow β}{c:Ow γ}{x:β×γ}(h:Imp o1 o2 x.1):Imp (o1.pr c) (o2.pr c) x:=λ⟨G1,G2,c1,c2,h1,h2,h3,h4,h5,h6⟩=>⟨G1,G2,c1,c2,h1,h2,h3,h4,h h5,h6⟩
theorem imp_snd{o1 o2:Ow γ}{c:Ow β}{x:β×γ}(h:Imp o1 o2 x.2):Imp (c.pr o1) (c.pr o2) x:=λ⟨G1,G2,c1,c2,h1,h2,h3,h4,h5,h6⟩=>⟨G1,G2,c1,c2,h1,h2,h3,h4,h5,h h6⟩
theorem impE_fst{o1:Ow β}{o2:Nat->Ow β}{c:Ow γ}{x:β×γ}(h:ImpE o1 o2 x.1):ImpE (o1.pr c) (λ b=>(o2 b).pr c) x:=λ⟨G1,G2,c1,c2,h1,h2,h3,h4,h5,h6⟩=>let⟨b,h7⟩:=h h5;⟨b,G1,G2,c1,c2,h1,h2,h3,h4,h7,h6⟩
theorem zbc{o1:Ow γ}{o2:Nat->Ow γ}{c:Ow β}{x:β×γ}(h:ImpE o1 o2 x.2):ImpE (c.pr o1) (λ b=>c.pr (o2 b)) x:=λ⟨G1,G2,c1,c2,h1,h2,h3,h4,h5,h6⟩=>let⟨b,h7⟩:=h h6;⟨b,G1,G2,c1,c2,h1,h2,h3,h4,h5,h7⟩
end
def pinI(c:Bool)(k b:Nat)(ps:List (Nat×Nat)):List (Nat×Nat):=if c=true then(k,b)::ps else ps
theorem pinI_at{c:Bool}{k b:Nat}{ps:List (Nat×Nat)}(h:c=true):(k,b)∈pinI c k b ps:=by unfold pinI;rw[if_pos h];exact .head _
theorem pinI_of{c:Bool}{k b:Nat}{ps:List (Nat×Nat)}{q:Nat×Nat}(h:q∈ps):q∈pinI c k b ps:=by
 unfold pinI;split
 ·
  exact .tail _ h
 ·
  exact h
theorem impE_pinI{xs:List (Bx α)}{k:Nat}{c:Bool}(hk:c=true->k<xs.length):ImpE (Ow.rowP ps e o) (λ b=>Ow.rowP (pinI c k b ps) e o) xs:=
 λ⟨bs,hl,hp,hr⟩=>by
  cases c with
  | false=>exact⟨0,bs,hl,λ q hq=>hp q hq,hr⟩
  |
   true=>
   have hk:=hk rfl;exact⟨bs[k],bs,hl,λ q hq=>(List.mem_cons.1 hq).elim (λ e=>by rw[e];exact List.getElem?_eq_getElem (by omega)) (hp q),hr⟩
theorem xb{ps':List (Nat×Nat)}{xs:List (Bx α)}(hs:∀ q∈ps',q∈ps):Imp (Ow.rowP ps e o) (Ow.rowP ps' e o) xs:=
 λ⟨bs,hl,hp,hr⟩=>⟨bs,hl,λ q hq=>hp q (hs q hq),hr⟩
theorem ZU{xs:List (Bx α)}{k:Nat}(hk:k<xs.length):ImpE (Ow.rowP ps e o) (λ b=>Ow.rowP ((k,b)::ps) e o) xs:=
 λ⟨bs,hl,hp,hr⟩=>⟨bs[k],bs,hl,λ q hq=>(List.mem_cons.1 hq).elim (λ e=>by rw[e];exact List.getElem?_eq_getElem (by omega)) (hp q),hr⟩
theorem imp_lax{xs:List (Bx α)}{b:Nat}:Imp (Ow.rowP ps e o) (Ow.rowF (laxOf ps xs.length b) e o) xs:=
 λ⟨bs,hl,hp,hr⟩=>⟨bs,hl,⟨hp,λ h=>by omega⟩,hr⟩
theorem imp_strict{xs:List (Bx α)}{n b:Nat}(hn:n<xs.length):Imp (Ow.rowF (laxOf ps n b) e o) (Ow.rowP ((n,b)::ps) e o) xs:=
 λ⟨bs,hl,hp,hr⟩=>⟨bs,hl,λ q hq=>(List.mem_cons.1 hq).elim (λ e=>by rw[e];exact hp.2 (by omega)) (hp.1 q),hr⟩
theorem Ow.rowP_z{P:Nat->Prop}{w:World}{cs:List Value}(h:(Ow.row e o.pin).ro P noB w cs []):(Ow.rowP [] e o).ro P noB w cs []:=⟨[],rfl,(λ _ h=>nomatch h),h⟩
theorem VP.rowF{c:List Value}{xs:List (Bx α)}{R:(Nat->Prop)->(Nat->Prop)->World->List (Bx α)->Prop}{k bk:Nat}{z:Bx α}(h:VP (Ow.rowF φ e o) M G w c xs R)(hk:∀ bs,φ bs->bs[k]?=some bk)(hz:xs[k]?=some z):∃ g cap,c=[.slice (some ⟨g,0,none⟩) xs.length cap]/\HP o.pin M G w g k ⟨bk,z.x⟩ (λ M' G' w' y'=>y'.b=bk->R M' G' w' (xs.set k ⟨y'.x⟩)):=by
 obtain⟨G1,G2,s1,s2,hd,⟨bs,hl,hp,hr⟩,put⟩:=h;have hb:bs[k]?=some bk:=hk bs hp;have hzz:(List.zipWith Pn.mk bs (xs.map Bx.x))[k]?=some ⟨bk,z.x⟩:=by
  rw[List.getElem?_zipWith_eq_some];exact⟨bk,z.x,hb,by rw[List.getElem?_map,hz];rfl,rfl⟩
 have h0:VP (Ow.row e o.pin) M G w c (List.zipWith Pn.mk bs (xs.map Bx.x)) (λ M' G' w' ys=>∀ xs':List (Bx α),xs'.length=xs.length->ys=List.zipWith Pn.mk bs (xs'.map Bx.x)->R M' G' w' xs'):=
  ⟨G1,G2,s1,s2,hd,hr,λ hL hy h1 h2 h3=>λ xs' hl' hxs=>put hL ⟨bs,by omega,hp,by rw[← hxs];exact hy⟩ h1 h2 h3⟩
 obtain⟨g,cap,hc,hq⟩:=h0.row hzz;rw[Qt hl] at hc;rw[show Rep.size (Pn α)=1 from rfl,Nat.mul_one] at hq;refine⟨g,cap,hc,hq.mono λ{M' G' w' y'} h5 e5=>?_⟩;obtain⟨b',y'⟩:=y';subst e5;exact h5 (xs.set k ⟨y'⟩) (by rw[List.length_set]) (by rw[zip_set hb,List.map_set])
theorem HP.rowF{xs:List (Bx α)}{R:(Nat->Prop)->(Nat->Prop)->World->List (Bx α)->Prop}{k bk:Nat}{z:Bx α}(h:HP (Ow.rowF φ e o) M G w b off xs R)(hk:∀ bs,φ bs->bs[k]?=some bk)(hz:xs[k]?=some z):∃ g cap,w.cell? ⟨b,off,none⟩=some (.slice (some ⟨g,0,none⟩) xs.length cap)/\HP o.pin M G w g k ⟨bk,z.x⟩ (λ M' G' w' y'=>y'.b=bk->R M' G' w' (xs.set k ⟨y'.x⟩)):=by
 obtain⟨C,e,hh,hsz,hv⟩:=h.vp;obtain⟨g,cap,hc,h1⟩:=hv.rowF hk hz;exact⟨g,cap,by simp[World.cell?,hh,WZ hc],h1⟩
theorem HP.rowF_cell{xs:List (Bx α)}{R:(Nat->Prop)->(Nat->Prop)->World->List (Bx α)->Prop}(h:HP (Ow.rowF φ e o) M G w b off xs R):∃ (g:Nat) (A:Option Addr) (cap:Nat),(xs.length≠0->A=some ⟨g,0,none⟩)/\w.cell? ⟨b,off,none⟩=some (.slice A xs.length cap):=by
 obtain⟨C,e',hh,hsz,hv⟩:=h.vp;obtain⟨G1,G2,s1,s2,hd,⟨bs,hl,hp,hr⟩,put⟩:=hv;have h0:VP (Ow.row e o.pin) M G w ((C.toList.drop off).take (Rep.size (List (Pn α)))) (List.zipWith Pn.mk bs (xs.map Bx.x)) (λ _ _ _ _=>True):=⟨G1,G2,s1,s2,hd,hr,λ _ _ _ _ _=>trivial⟩;obtain⟨_,_,_,_,_,hr,_⟩:=h0;obtain⟨v,hv,h3⟩:=hr;have e1:w.cell? ⟨b,off,none⟩=some v:=by simp[World.cell?,hh,WZ hv]
 rcases h3 with⟨g,cap,cur,Gr,hg,h4⟩ | ⟨hx,A,hA⟩
 ·
  rw[Qt hl] at hg;exact⟨g,_,cap,λ _=>rfl,by rw[e1,hg]⟩
 ·
  have e2:=congrArg List.length hx;rw[Qt hl,List.length_nil] at e2;exact⟨0,A,0,λ hne=>absurd e2 hne,by rw[e1,hA,e2]⟩
theorem pins_at{k bk:Nat}(hk:(k,bk)∈ps):∀ bs,pinsOf ps bs->bs[k]?=some bk:=λ _ h=>h _ hk
theorem PH.rowP{γ:Type}[Rep γ]{ow:Ow γ}{x:γ}{v0:Value}{cf:CF}{b off:Nat}{ys:List (Bx α)}{upd:List (Bx α)->γ}(h:PH ow x v0 cf (Ow.rowP ps e o) b off ys upd){k bk:Nat}{z:Bx α}(hk:(k,bk)∈ps)(hz:ys[k]?=some z):PH ow x v0 cf o bk 0 z.x (λ y'=>upd (ys.set k ⟨y'⟩)):=
 ⟨λ h1 h2 h3=>let⟨_,_,_,h4⟩:=(h.of h1 h2 h3).rowF (pins_at hk) hz;h4.pin.2.mono λ h5=>h5 rfl⟩
end
section
variable{P:Program}{fn:Func}{F:Frm}{N:Nat}{M0 M:Nat->Prop}{Gs:List (Nat->Prop)}{L L2:Env}{O O2:List (Nat×Nat×Dt)}{a:Act}{w w0:World}{Q:Exit->Act->World->Prop}{ops:Array Oper}{rest:List Oper}{ks qs:List Nat}{op:Oper}{d p:Nat}{T:Prop}
variable{α γ:Type}[Rep α][Rep γ]{look:Nat->Option Dt}{ps:List (Nat×Nat)}{φ:List Nat->Prop}{e:TypeId}{o:Ow α}
theorem Sx.hdF{ow:Ow γ}{s:Nat}{G:Nat->Prop}{x:γ}{v0:Value}{cf:CF}{b off:Nat}{ys:List (Bx α)}{upd:List (Bx α)->γ}(h:Sx F N M0 M Gs L O a w)(p:Nat)(c:Bool)(hP:c=true->PH ow x v0 cf (Ow.rowF φ e o) b off ys upd)(hs:(L++envO O).lookup s=some (dnm ow G x v0 cf))(hn:L.lookup s=none)(hG:∀ b,G b->zo Gs p b)(qs:List Nat)(hq:selR L O qs p=some O2)
  (next:∀ (g:Nat) (A:Option Addr) (cap:Nat),(ys.length≠0->c=true->A=some ⟨g,0,none⟩)->Sx F N M0 M Gs L ((s,p,dnm ow G x v0 ((c,b,off,.slice A ys.length cap)::cf))::O2) a w->T):T:=by
 obtain⟨h1,⟨cs,h2,h3⟩,h4⟩:=h.st.has s _ hs;have:∃ (g:Nat) (A:Option Addr) (cap:Nat),(ys.length≠0->c=true->A=some ⟨g,0,none⟩)/\(c=true->G b/\b<w.heap.size/\Jk w b off (.slice A ys.length cap)):=by
  cases c with
  | false=>exact⟨0,none,0,⟨(λ _ h=>nomatch h),(λ h=>nomatch h)⟩⟩
  |
   true=>
   have hp:=(hP rfl).of h2 h3 h4;obtain⟨_,_,hh,_,hGb,_⟩:=hp.here;obtain⟨g,A,cap,hA,hc⟩:=hp.rowF_cell;exact⟨g,A,cap,λ h _=>hA h,λ _=>⟨hGb,wA hh,hc⟩⟩
 obtain⟨g,A,cap,hA,hb'⟩:=this;refine next g A cap hA ((h.drop hq).addO hn ⟨h1,⟨cs,h2,h3⟩,λ q hq' hb=>?_⟩ hG);rcases List.mem_cons.1 hq' with rfl | hq'
 ·
  exact hb' hb
 ·
  exact h4 q hq' hb
theorem xLdP{ow:Ow γ}{sb k k' bk g n cap b off:Nat}{t:TypeId}{q:Operand}{G:Nat->Prop}{x:γ}{v0:Value}{cf:CF}{ys:List (Bx α)}{upd:List (Bx α)->γ}{A:Option Addr}{c:Bool}{z:Bx α}(hP:PH ow x v0 cf (Ow.rowP ps e o) b off ys upd)(hh:(c,b,off,.slice A n cap)∈cf)(hc:c=true)(hA:n≠0->A=some ⟨g,0,none⟩)(hk:(k,bk)∈ps)(hz:ys[k]?=some z)(hkk:k'=k)(ho:op.op=.load t q)(ht:tyB P t false 1=true)(hq:OpdR M look q (dis (.pointer (some ⟨g,k',none⟩))))(hs:look sb=some (dnm ow G x v0 cf)):OpRel P M look op (dis (.pointer (some ⟨bk,0,none⟩))):=
 zx λ a w _ hl=>by
  subst hkk;obtain⟨h1,⟨cs,h2,h3⟩,h4⟩:=hl sb _ hs;obtain⟨g',cap',e1,hpin⟩:=(hP.of h2 h3 h4).rowF (pins_at hk) hz;obtain⟨e2,_⟩:=hpin.pin;have e3:w.cell? _=some _:=(h4 _ hh hc).2.2;simp only at e3;rw[e1] at e3;injection e3 with e3;injection e3 with e4 e5 e6;have hlt:=zA hz;rw[hA (by omega)] at e4;have e7:g'=g:=by injection e4 with e4;injection e4 with e4
  subst e7;have hv:a.eval q=.pointer (some ⟨g',k',none⟩):=hq w a hl;refine⟨.pointer (some ⟨bk,0,none⟩),?_,rfl⟩;have:=yQ (P:=P) (w:=w) (t:=t) (b:=g') (o:=k') (cs:=[.pointer (some ⟨bk,0,none⟩)]) (agg:=false) (size:=1) ht rfl (λ _=>rfl) (λ j u hj=>by
   cases j with
   | zero=>simp at hj;subst hj;simpa using e2
   | succ j=>simp at hj)
  unfold execOp;rw[ho];simp[Instr.loadAt,Instr.sureAddr,hv,this,mkv]
theorem Sx.asO{o1 o2:Ow γ}{s:Nat}{G:Nat->Prop}{x:γ}{v0:Value}{cf:CF}(h:Sx F N M0 M Gs L O a w)(p:Nat)(hs:(L++envO O).lookup s=some (dnm o1 G x v0 cf))(hn:L.lookup s=none)(hG:∀ b,G b->zo Gs p b)(hw:Imp o1 o2 x)(qs:List Nat)(hq:selR L O qs p=some O2):Sx F N M0 M Gs L ((s,p,dnm o2 G x v0 cf)::O2) a w:=by
 obtain⟨h1,⟨cs,h2,h3⟩,h4⟩:=h.st.has s _ hs;exact(h.drop hq).addO hn ⟨h1,⟨cs,hw h2,h3⟩,h4⟩ hG
theorem Sx.mintP{ow:Nat->Ow γ}{o1:Ow γ}{s:Nat}{G:Nat->Prop}{x:γ}{v0:Value}{cf:CF}(h:Sx F N M0 M Gs L O a w)(p:Nat)(hs:(L++envO O).lookup s=some (dnm o1 G x v0 cf))(hn:L.lookup s=none)(hG:∀ b,G b->zo Gs p b)(hw:ImpE o1 ow x)(qs:List Nat)(hq:selR L O qs p=some O2)(next:∀ b:Nat,Sx F N M0 M Gs L ((s,p,dnm (ow b) G x v0 cf)::O2) a w->T):T:=by
 obtain⟨h1,⟨cs,h2,h3⟩,h4⟩:=h.st.has s _ hs;obtain⟨b,h5⟩:=hw h2;exact next b ((h.drop hq).addO hn ⟨h1,⟨cs,h5,h3⟩,h4⟩ hG)
theorem appO_spec{β β':Type}{by_:Nat}{xs ys r:List β}{xs' ys':List β'}(h:appO by_ xs ys=some r)(h1:xs'.length=xs.length)(h2:ys'.length=ys.length):r=xs++ys/\appO by_ xs' ys'=some (xs'++ys'):=by
 unfold appO at h ⊢;rw[h1,h2];split at h
 ·
  rename_i hc;injection h with h;exact⟨h.symm,by rw[if_pos hc]⟩
 ·
  cases h
theorem rowF_app{M G:Nat->Prop}{w:World}{cs:List Value}{bs:List Nat}{xs:List (Bx α)}{b:Nat}{y:α}(hl:bs.length=xs.length)(hp:laxOf ps xs.length b bs)(h:(Ow.row e o.pin).ro M G w cs (List.zipWith Pn.mk bs (xs.map Bx.x)++[⟨b,y⟩])):(Ow.rowF (laxOf ps xs.length b) e o).ro M G w cs (xs++[⟨y⟩]):=by
 refine⟨bs++[b],by simp[hl],⟨λ q hq=>?_,λ _=>?_⟩,?_⟩
 ·
  have h1:=hp.1 q hq;rw[List.getElem?_append_left (zA h1)];exact h1
 ·
  rw[← hl];simp
 ·
  rw[List.map_append,List.zipWith_append (by rw[List.length_map];exact hl)];exact h
theorem Sx.headO{X Y:Dt}(h:Sx F N M0 M Gs L ((d,p,X)::O) a w)(hdn:L.lookup d=none)(hx:X.rd M w (Act.at a d)->Y.rd M w (Act.at a d))(ho:∀ b,Y.own b->X.own b):Sx F N M0 M Gs L ((d,p,Y)::O) a w:=by
 refine⟨⟨h.st.fr,h.st.size,h.st.defers,h.st.mok,λ s y hy=>?_⟩,h.ob,h.no,λ b hb=>h.ow.1 b (ho b hb),h.ow.2⟩;rcases wD hy with h1 | ⟨h0,h1⟩
 ·
  exact h.st.has s y (xK h1)
 ·
  simp only[envO,List.lookup_cons] at h1;cases hb:s == d with
  |
   true=>
   simp only[hb] at h1;injection h1 with h1;subst h1;have e:s=d:=by simpa using hb
   subst e;exact hx (h.st.has s X (by rw[xL h0];simp[envO]))
  |
   false=>
   simp only[hb] at h1;exact h.st.has s y (by rw[xL h0];simp[envO,List.lookup_cons,hb,h1])
theorem Sx.appP{s x n b:Nat}{t e2:TypeId}{bytes:Nat}{G1 G2:Nat->Prop}{xs r:List (Bx α)}{y:α}(h:Sx F N M0 M Gs L O a w)(p p2:Nat)(hh:opH op N=some d)
  (ho:op.op=.call { callee:=.builtin .append,args:=#[.tmp s,.tmp x],argTypes:=#[t,t] }) (hel:elB P t e 1 bytes=true)
  (hs:(L++envO O).lookup s=some (dow (Ow.rowF (laxOf ps n b) e o) G1 xs)) (hn:n=xs.length) (hx:(L++envO O).lookup x=some (dow (Ow.row e2 o.pin) G2 [⟨b,y⟩])) (hp:p<Gs.length) (hp2:p2<Gs.length) (hne:p≠p2) (hG1:∀ b,G1 b->zo Gs p b) (hG2:∀ b,G2 b->zo Gs p2 b) (hm:appO bytes xs [⟨y⟩]=some r)
  (ks:List Nat) (hk:selP ks L=some L2) (qs:List Nat) (hq:selR L O qs p=some O2) (hO:O2.all (λ q=>q.2.1 != p2)=true) (hdn:L2.lookup d=none)
  (next:∀ G' M' a' w',n<r.length->Sx F N M0 M' ((Gs.set p G').set p2 (oneB none)) L2 ((d,p,dow (Ow.rowF (laxOf ps n b) e o) G' r)::O2) a' w'->wpList P ops Q rest a' w'):wpList P ops Q (op::rest) a w:=by
 subst hn;obtain⟨cs,⟨bs,hl,hφ,hr⟩,hv⟩:=h.st.has s _ hs;obtain⟨e1,e2⟩:=appO_spec (xs':=List.zipWith Pn.mk bs (xs.map Bx.x)) (ys':=[(⟨b,y⟩:Pn α)]) hm (Qt hl) rfl;subst e1;refine h.appR p p2 hh ho (oe:=o.pin) hel ⟨cs,hr,hv⟩ (h.st.has x _ hx) hp hp2 hne hG1 hG2 e2 ks hk qs hq hO hdn λ G' M' a' w' st=>next G' M' a' w' (by simp) (st.headO hdn (λ⟨cs',k1,k2⟩=>⟨cs',rowF_app hl hφ k1,k2⟩) λ _ h=>h)
end
open Go.RowKit
section
variable{P:Program}{fn:Func}{F:Frm}{N d p:Nat}{M0 M:Nat->Prop}{Gs:List (Nat->Prop)}{L L2:Env}{O O2:List (Nat×Nat×Dt)}{a:Act}{w w0:World}{Q:Exit->Act->World->Prop}{ops:Array Oper}{rest:List Oper}{ks qs:List Nat}{o:Oper}
variable{α β γ:Type}[Rep α][Rep β][Rep γ]
theorem Sx.rs0{oo:Ow α}{s:Nat}{G G':Nat->Prop}{v0:Value}{cf:CF}{x xr:α}(h:Sx (Frm.chg w0 G) N M0 M Gs L O a w)(p:Nat)(hr:fn.results=#[])(hs:(L++envO O).lookup s=some (dnm oo G' x v0 cf))(hG:∀ b,G' b->zo Gs p b)(hm:some x=some xr):
  bodyPost P fn (RetS M0 w0 G v0 oo xr .gone) .ret a w/\bodyPost P fn (RetS M0 w0 G v0 oo xr .gone) .normal a w:=by
 injection hm with hm;subst hm;obtain⟨k1,⟨cs,k2,k3⟩,_⟩:=h.st.has s _ hs;have hM:∀ k,k<w.heap.size->(M0 k\/G' k)\/noB k->M k:=λ k _ hk=>hk.elim (λ hk=>hk.elim (h.ob.sub k) λ hk=>(h.ob.at_ p k (hG k hk)).2.1) λ h=>h.elim
 have key:bodyPost P fn (RetS M0 w0 G v0 oo x .gone) .ret a w:=⟨h.st.defers,_,results_none hr a.tmps P w,_,G',noB,rfl,h.st.fr,λ b hb=>(h.ob.at_ p b (hG b hb)).1,λ _ h=>h.elim,λ _ _ h=>h,λ b hb=>hb.elim (λ hb=>h.st.mok b (h.ob.at_ p b (hG b hb)).2.1) λ h=>h.elim,⟨cs,oo.weak k2 hM,k3⟩,trivial⟩;exact⟨key,key⟩
theorem Sx.rs2{oo:Ow α}{t u s:Nat}{G G':Nat->Prop}{v0:Value}{cf:CF}{x xr:α}{y:β}{z:γ}{r:β×γ}(h:Sx (Frm.chg w0 G) N M0 M Gs L O a w)(p:Nat)(hr:fn.results=#[.tmp t,.tmp u])(hl:(L++envO O).lookup t=some (dt y))(hl2:(L++envO O).lookup u=some (dt z))(hs:(L++envO O).lookup s=some (dnm oo G' x v0 cf))(hG:∀ b,G' b->zo Gs p b)
  (hm:some (x,y,z)=some (xr,r)):bodyPost P fn (RetS M0 w0 G v0 oo xr (.frz (dtup [dt r.1,dt r.2]))) .ret a w:=by
 injection hm with hm;injection hm with h1 h2;subst h1;subst h2;obtain⟨k1,⟨cs,k2,k3⟩,_⟩:=h.st.has s _ hs;have hM:∀ k,k<w.heap.size->(M0 k\/G' k)\/noB k->M k:=λ k _ hk=>hk.elim (λ hk=>hk.elim (h.ob.sub k) λ hk=>(h.ob.at_ p k (hG k hk)).2.1) λ h=>h.elim
 exact⟨h.st.defers,_,results_tmp2 hr a.tmps P w,_,G',noB,rfl,h.st.fr,λ b hb=>(h.ob.at_ p b (hG b hb)).1,λ _ h=>h.elim,λ _ _ h=>h,λ b hb=>hb.elim (λ hb=>h.st.mok b (h.ob.at_ p b (hG b hb)).2.1) λ h=>h.elim,
  ⟨cs,oo.weak k2 hM,k3⟩,⟨[_,_],rfl,.cons ((dt y).weak (h.st.has t _ hl) hM) (.cons ((dt z).weak (h.st.has u _ hl2) hM) .nil),λ q hq=>by
   simp only[List.mem_cons,List.not_mem_nil,or_false] at hq;rcases hq with rfl | rfl <;> rfl⟩,rfl⟩
end
open Go.RowKit
structure FnV(α β:Type) where
 g:α->Option β
structure Nilf where
deriving Inhabited
structure Np(α:Type) where
 o:Option α
instance {α β:Type}:Inhabited (FnV α β):=⟨⟨λ _=>none⟩⟩
instance {α:Type}:Inhabited (Np α):=⟨⟨none⟩⟩
instance {α:Type} [Inhabited α]:Inhabited (Bx α):=⟨⟨default⟩⟩
section
variable{α β γ:Type}[Rep α][Rep β][Rep γ]
instance:Rep (FnV α β) where
 size:=1
 agg:=false
 rdc M w cs x:=∃ v,cs=[v]/\(dfn1 Tryz.prog x.g).rd M w v
 len:=λ⟨_,h,_⟩=>by rw[h];rfl
 one _:=rfl
 pos:=Nat.one_pos
 oneCell:=λ⟨v,h,f,caps,ds,hv,_⟩ c hc=>by
  rw[h] at hc;simp at hc;subst hc;rw[hv];rfl
 stable:=λ⟨v,h,hr⟩ e=>⟨v,h,(dfn1 _ _).stable hr e⟩
 weak:=λ⟨v,h,hr⟩ e=>⟨v,h,(dfn1 _ _).weak hr e⟩
instance:Rep Nilf where
 size:=1
 agg:=false
 rdc _ _ cs _:=cs=[.nilFunc]
 len h:=by rw[h];rfl
 one _:=rfl
 pos:=Nat.one_pos
 oneCell:=λ h c hc=>by
  rw[h] at hc;simp at hc;subst hc;rfl
 stable h _:=h
 weak h _:=h
def npR(M:Nat->Prop)(w:World)(cs:List Value):Option α->Prop
 | none=>cs=[.pointer none]
 | some x=>∃ v,cs=[v]/\(dptr x).rd M w v
instance:Rep (Np α) where
 size:=1
 agg:=false
 rdc M w cs x:=npR M w cs x.o
 len:=λ{M w cs x} h=>by
  revert h
  cases x.o with
  | none=>intro h;rw[show cs=_ from h];rfl
  | some y=>rintro ⟨v,h,_⟩;rw[h];rfl
 one _:=rfl
 pos:=Nat.one_pos
 oneCell:=λ{M w cs x} h c hc=>by
  revert h
  cases x.o with
  |
   none=>
   intro h;rw[show cs=_ from h] at hc;simp at hc;subst hc;rfl
  |
   some y=>
   rintro ⟨v,h,b,o,_,hv,_⟩
   rw[h] at hc;simp at hc;subst hc;rw[hv];rfl
 stable:=λ{M w w' cs x} h e=>by
  revert h
  cases x.o with
  | none=>exact id
  | some y=>rintro ⟨v,h,hr⟩;exact⟨v,h,(dptr _).stable hr e⟩
 weak:=λ{M M' w cs x} h e=>by
  revert h
  cases x.o with
  | none=>exact id
  | some y=>rintro ⟨v,h,hr⟩;exact⟨v,h,(dptr _).weak hr e⟩
theorem fnv_dt{x:FnV α β}{M:Nat->Prop}{w:World}{v:Value}:(dt x).rd M w v ↔ (dfn1 Tryz.prog x.g).rd M w v:=
 ⟨λ⟨_,⟨u,h,hr⟩,hv⟩=>by rw[hv,h];exact hr,λ h=>⟨[v],⟨v,rfl,h⟩,rfl⟩⟩
theorem nilf_dt{x:Nilf}{M:Nat->Prop}{w:World}{v:Value}:(dt x).rd M w v ↔ dnilf.rd M w v:=
 ⟨λ⟨_,h,hv⟩=>by rw[hv,show _=_ from h];rfl,λ h=>⟨[v],by rw[show v=_ from h];rfl,rfl⟩⟩
theorem np_some{x:α}{M:Nat->Prop}{w:World}{v:Value}:(dt (⟨some x⟩:Np α)).rd M w v ↔ (dptr x).rd M w v:=
 ⟨λ⟨_,⟨u,h,hr⟩,hv⟩=>by rw[hv,h];exact hr,λ h=>⟨[v],⟨v,rfl,h⟩,rfl⟩⟩
theorem np_none{M:Nat->Prop}{w:World}{v:Value}:(dt (⟨none⟩:Np α)).rd M w v ↔ v=.pointer none:=
 ⟨λ⟨_,h,hv⟩=>by rw[hv,show _=_ from h];rfl,λ h=>⟨[v],by rw[h];rfl,rfl⟩⟩
theorem zrNilf(M:Nat->Prop)(w:World):Rep.rdc M w [Value.nilFunc] (⟨⟩:Nilf):=rfl
variable{P:Program}{fn:Func}{F:Frm}{N:Nat}{M0 M:Nat->Prop}{Gs:List (Nat->Prop)}{L L2:Env}{O O2:List (Nat×Nat×Dt)}{a:Act}{w w0:World}{Q:Exit->Act->World->Prop}{ops:Array Oper}{rest:List Oper}{ks qs:List Nat}{o:Oper}{d p:Nat}{T:Prop}{look:Nat->Option Dt}{q:Operand}
theorem OpRel.mono{x y:Dt}(h:OpRel P M look o x)(hxy:∀ {w:World} {v:Value},x.rd M w v->y.rd M w v):OpRel P M look o y:=λ a w hm hl=>(h a w hm hl).mono λ _ _ ⟨h1,h2⟩=>⟨h1,hxy h2⟩
theorem OpdR.mono{x y:Dt}(h:OpdR M look q x)(hxy:∀ {w:World} {v:Value},x.rd M w v->y.rd M w v):OpdR M look q y:=λ w a hl=>hxy (h w a hl)
theorem OpRel.bx{x:Bx α}(h:OpRel P M look o (dt x)):OpRel P M look o (dptr x.x):=h.mono bx_ptr.1
theorem OpRel.fnv{x:FnV α β}(h:OpRel P M look o (dt x)):OpRel P M look o (dfn1 Tryz.prog x.g):=h.mono fnv_dt.1
theorem OpRel.nilf{x:Nilf}(h:OpRel P M look o (dt x)):OpRel P M look o dnilf:=h.mono nilf_dt.1
theorem opd_fnv{g:α->Option β}(h:OpdR M look q (dfn1 Tryz.prog g)):OpdR M look q (dt (⟨g⟩:FnV α β)):=h.mono fnv_dt.2
def isPt(P:Program)(t:TypeId):Bool:=match P.underlying t with | some (.pointer _)=>true | _=>false
theorem xNcO{x:Np α}{y:α}(ho:o.op=.nilCheck q)(hq:OpdR M look q (dt x))(hm:x.o=some y):OpRel P M look o (dptr y):=
 zx λ a w _ hl=>by
  have h:=hq w a hl;have e:x=⟨some y⟩:=by cases x;simp only at hm;rw[hm]
  rw[e] at h;have h:=np_some.1 h;refine⟨a.eval q,?_,h⟩;obtain⟨b,off,cs,hv,_⟩:=h;unfold execOp;rw[ho];simp[hv]
theorem isPt_spec{t:TypeId}(h:isPt P t=true):∃ e,P.underlying t=some (.pointer e):=by
 unfold isPt at h;split at h
 ·
  exact⟨_,by assumption⟩
 ·
  cases h
theorem np_ptr{x:Np α}{v:Value}{M:Nat->Prop}{w:World}(h:(dt x).rd M w v):∃ p,v=.pointer p:=by
 obtain⟨ox⟩:=x;cases ox with
 | none=>exact⟨_,np_none.1 h⟩
 |
  some y=>
  obtain⟨b,off,cs,hv,_⟩:=np_some.1 h;exact⟨_,hv⟩
theorem np_eq{t:TypeId}{x:Np α}{v:Value}{M:Nat->Prop}{w:World}(ht:isPt P t=true)(h:(dt x).rd M w v):(Op.equal t v (.pointer none)).run P w=.ok (!x.o.isSome) w:=by
 obtain⟨e,he⟩:=isPt_spec ht;obtain⟨ox⟩:=x;cases ox with
 |
  none=>
  have hv:=np_none.1 h;subst hv;unfold Op.equal Op.maxDepth;rw[show(10000:Nat)=9999+1 from rfl,Op.equalIn];simp[run_underlying he]
 |
  some y=>
  obtain⟨b,off,cs,hv,_⟩:=np_some.1 h;subst hv;unfold Op.equal Op.maxDepth;rw[show(10000:Nat)=9999+1 from rfl,Op.equalIn];simp[run_underlying he]
theorem xEqpNil{t t':TypeId}{x:Np α}(ho:o.op=.binOp .eql t q (.const (.pointer none)) t')(ht:isPt P t=true)(hx:OpdR M look q (dt x)):OpRel P M look o (dt (!x.o.isSome)):=
 zx λ a w _ hl=>⟨.bool (!x.o.isSome),by
  have he:=np_eq ht (hx w a hl);obtain⟨p,hp⟩:=np_ptr (hx w a hl);have hn:a.eval (.const (.pointer none))=.pointer none:=rfl;rw[hp] at he;unfold execOp;rw[ho];simp[hp,hn,eqGuard,binOp,he],yG.2 rfl⟩
theorem xNepNil{t t':TypeId}{x:Np α}(ho:o.op=.binOp .neq t q (.const (.pointer none)) t')(ht:isPt P t=true)(hx:OpdR M look q (dt x)):OpRel P M look o (dt x.o.isSome):=
 zx λ a w _ hl=>⟨.bool x.o.isSome,by
  have he:=np_eq ht (hx w a hl);obtain⟨p,hp⟩:=np_ptr (hx w a hl);have hn:a.eval (.const (.pointer none))=.pointer none:=rfl;rw[hp] at he;unfold execOp;rw[ho];simp[hp,hn,eqGuard,binOp,he],yG.2 rfl⟩
def dfq1(P:Program)(g:α->Option β):Dt where
 rd M w v:=∃ (f:FuncId) (caps:List Value) (ds:List Dt),v=.func (.func f) #[] caps.toArray/\fnB P f=true/\RdAll M w caps ds/\(∀ x∈ds,x.nb=true)/\∀ x y,g x=some y->Fn P f (dptr x::ds) (dt y)
 own:=noB
 nb:=true
 nob _ _ h:=h
 stable:=by
  rintro M w w' v ⟨f,caps,ds,hv,hf,hr,hn,hg⟩ e
  exact⟨f,caps,ds,hv,hf,hr.stable hn e,hn,hg⟩
 weak:=by
  rintro M M' w v ⟨f,caps,ds,hv,hf,hr,hn,hg⟩ e
  exact⟨f,caps,ds,hv,hf,hr.weak e,hn,hg⟩
theorem xMkQ1{f:FuncId}{l:List Operand}{ds:List Dt}{g:α->Option β}(ho:o.op=.makeFunc (.func f) #[] l.toArray)(hf:fnB P f=true)(hx:ArgsR M look l ds)(hn:allNb' ds=true)(hg:∀ x y,g x=some y->Fn P f (dptr x::ds) (dt y)):OpRel P M look o (dfq1 P g):=
 zx λ a w _ hl=>by
  refine⟨.func (.func f) #[] (l.map a.eval).toArray,?_,f,_,ds,rfl,hf,hx.all hl,zcl hn,hg⟩;unfold execOp;rw[ho];simp[Instr.makeFunc]
theorem xCaQ1{s:Operand}{ts:Array TypeId}{g:α->Option β}{x:α}{y:β}(ho:o.op=.call { callee:=.value s,args:=#[q],argTypes:=ts })(hs:OpdR M look s (dfq1 P g))(hq:OpdR M look q (dptr x))(hg:g x=some y):OpRel P M look o (dt y):=
 λ a w hm hl=>by
  obtain⟨f,caps,ds,hv,hf,hr,hn,hk⟩:=hs w a hl;refine OpOut.of_enter (f:=f) (args:=(a.eval q::caps).toArray) (w':=w) ?_ ?_
  ·
   unfold execOp;rw[ho];simp[resolve,hv,Deferred.ofValue,invoke,wN hf]
  ·
   exact(hk x y hg M w _ hm (.cons (hq w a hl) hr)).mono λ e w' ⟨v,he,hx,hr⟩=>⟨v,he,hx,hr⟩
theorem lendQ{ow:Ow α}{oy:Ow β}{sb bk:Nat}{G:Nat->Prop}{x:α}{y:β}{v0:Value}{cf:CF}{upd:β->α}(ob:Objs F M0 M Gs)(p:Nat)(hP:PH ow x v0 cf oy bk 0 y upd)(hq:OpdR M look q (dis (.pointer (some ⟨bk,0,none⟩))))(hs:look sb=some (dnm ow G x v0 cf))(hG:∀ b,G b->zo Gs p b):OpdR2 M M0 look q (dptr y):=
 λ w a hl=>by
  obtain⟨h1,⟨cs,h2,h3⟩,h4⟩:=hl sb _ hs;obtain⟨C,e,hh,hsz,hGb,G1,G2,s1,s2,hd,_,_,hr,put⟩:=(hP.of h2 h3 h4).here;have hv:a.eval q=_:=hq w a hl;refine⟨bk,0,_,hv,λ hb=>(ob.at_ p bk (hG bk hGb)).2.2 hb,λ j u hj=>?_,Rep.weak (oy.toR hr) λ b _ hb=>⟨ob.sub b hb,λ hg=>(ob.at_ p b (hG b (s1 b hg))).2.2 hb⟩⟩;rw[List.drop_zero,List.getElem?_take] at hj;split at hj
  ·
   rw[Nat.zero_add];have:C[j]?=some u:=by simpa using hj
   simp[World.cell?,hh,this]
  ·
   cases hj
theorem lendB{ow:Ow α}{G:Nat->Prop}{x:Bx α}{v0:Value}{cf:CF}(ob:Objs F M0 M Gs)(p:Nat)(hG:∀ b,G b->zo Gs p b)(h:OpdR M look q (dnm ow.box G x v0 cf)):OpdR2 M M0 look q (dptr x.x):=
 λ w a hl=>bx_ptr.1 (lendN ob p hG h w a hl)
theorem lendA{ow:Ow α}{sb b:Nat}{G:Nat->Prop}{x:Bx α}{cf:CF}(ob:Objs F M0 M Gs)(p:Nat)(hq:OpdR M look q (dis (.pointer (some ⟨b,0,none⟩))))(hs:look sb=some (dnm ow.box G x (.pointer (some ⟨b,0,none⟩)) cf))(hG:∀ b,G b->zo Gs p b):OpdR2 M M0 look q (dptr x.x):=
 λ w a hl=>by
  have h1:=lendB (q:=.tmp sb) ob p hG (zb hs) w a hl;have hv:a.eval q=_:=hq w a hl;have hv2:a.eval (.tmp sb)=.pointer (some ⟨b,0,none⟩):=(hl sb _ hs).1;rw[hv];rw[hv2] at h1;exact h1
theorem opd_fun1{f:FuncId}{g:α->Option β}(hf:fnB P f=true)(hg:∀ x y,g x=some y->Fn P f [dt x] (dt y)):OpdR M look (.func f) (dfn1 P g):=λ _ _ _=>⟨f,[],[],rfl,hf,.nil,λ _ h=>(by cases h),hg⟩
theorem Sx.bkP{ow:Ow α}{oy:Ow β}{ps:List (Nat×Nat)}{e:TypeId}{sb b off k bk:Nat}{G:Nat->Prop}{x:α}{v0:Value}{cf:CF}{ys:List (Bx β)}{z z':Bx β}{upd:List (Bx β)->α}(h:Sx F N M0 M Gs L O a w)(hP:PH ow x v0 cf (Ow.rowP ps e oy) b off ys upd)(hk:(k,bk)∈ps)(hz:ys[k]?=some z)(hs:(L++envO O).lookup sb=some (dnm ow G x v0 cf))(hG:∀ b,G b->zo Gs p b):Back M w Gs p (.pointer (some ⟨bk,0,none⟩)) (Act.at a sb) oy.box z z' (λ G''=>dnm ow G'' (upd (ys.set k z')) v0 []):=by
 obtain⟨h1,⟨cs,h2,h3⟩,h4⟩:=h.st.has sb _ hs;obtain⟨g,cap,_,hp⟩:=(hP.of h2 h3 h4).rowF (pins_at hk) hz;obtain⟨C,e,hh,hsz,_,G1,G2,s1,s2,hd,_,_,hr,put⟩:=hp.here;have hc:(C.toList.drop k).take (Rep.size (Pn β))=[.pointer (some ⟨bk,0,none⟩)]:=by
  obtain⟨C2,e2,Gr,hc,_⟩:=hr;exact hc
 refine⟨⟨G1,λ b hb=>hG b (s1 b hb),⟨_,Ow.pin_box hr,by rw[hc];rfl⟩,λ{G' M' w' G''} hL hG' hr' hs'=>?_⟩,λ _ _ h=>h⟩;obtain⟨c',h5,h6⟩:=hr';obtain⟨u,hu1,hu2⟩:=mkv_one h5 rfl;have e1:u=.pointer (some ⟨bk,0,none⟩):=hu2.symm.trans h6.symm;subst e1;have h7:=Ow.box_pin h5 hu1;rw[hu1,← hc] at h7;have hlt:∀ b,G b->b<w.heap.size:=λ b hb=>h.st.mok b (h.ob.at_ p b (hG b hb)).2.1
 have h8:=put (G'':=G'') (hL G2 λ b hb hb1=>hd b hb1 hb) h7 (λ k hk hk2=>(hG' k hk).elim (λ e=>hd k e hk2) λ e=>by have:=hlt k (s2 k hk2);omega) (λ k hk=>hs' k (.inr hk)) (λ k hk=>hs' k (.inl ⟨hG k (s2 k hk),λ e=>hd k e hk⟩)) rfl;exact⟨h1,⟨cs,h8,h3⟩,λ q hq _=>by cases hq⟩
def dpg(oy:Ow β)(G:Nat->Prop)(b:Nat)(y:β):Dt where
 rd M w _:=oy.pin.ro M G w [.pointer (some ⟨b,0,none⟩)] ⟨b,y⟩
 own:=G
 nb:=false
 nob h:=by cases h
 stable h k:=oy.pin.stable h k
 weak h k:=oy.pin.weak h k
theorem Sx.tuck{oy:Ow β}{s b:Nat}{G:Nat->Prop}{y:Bx β}{cf:CF}(h:Sx F N M0 M Gs L O a w)(u p:Nat)(hs:(L++envO O).lookup s=some (dnm oy.box G y (.pointer (some ⟨b,0,none⟩)) cf))(hG:∀ b,G b->zo Gs p b)(hu:L.lookup u=none)(hus:u≠s)(qs:List Nat)(hq:selR L O qs p=some O2):
  Sx F N M0 M Gs ((s,dis (.pointer (some ⟨b,0,none⟩)))::L) ((u,p,dpg oy G b y.x)::O2) a w:=by
 obtain⟨h1,⟨cs,⟨b',C,e,Gr,hc,h2⟩,h3⟩,_⟩:=h.st.has s _ hs;have e2:b'=b:=by
  rw[hc] at h3;have:(Value.pointer (some ⟨b,0,none⟩))=.pointer (some ⟨b',0,none⟩):=h3;injection this with h5;injection h5 with h5;injection h5 with h5;exact h5.symm
 subst e2;have hb:(u == s)=false:=by simpa using hus
 exact((h.drop hq).addL (s:=s) (y:=dis (.pointer (some ⟨b',0,none⟩))) h1 rfl).addO (d:=u) (by simp only[List.lookup_cons,hb];exact hu) (x:=dpg oy G b' y.x) ⟨C,e,Gr,rfl,h2⟩ hG
theorem pin_cells{oy:Ow β}{G:Nat->Prop}{b:Nat}{y:β}{v u:Value}(hv:(dis (.pointer (some ⟨b,0,none⟩))).rd M w v)(hp:(dpg oy G b y).rd M w u):oy.pin.ro M G w v.cells.toList ⟨b,y⟩:=by
 rw[show v=_ from hv];exact hp
theorem rowP_zz{oy:Ow β}{e:TypeId}(M:Nat->Prop)(w:World):(Ow.rowP [] e oy).ro M noB w ZP []:=Ow.rowP_z (Ow.row_z M w)
def dany:Dt where
 rd _ _ _:=True
 own:=noB
 nb:=true
 nob _ _ h:=h
 stable h _:=h
 weak h _:=h
theorem FnS.any{f:FuncId}{oo:Ow α}{x x':α}{xs:List Dt}(h:FnS P f oo x xs x' .gone):FnS P f oo x xs x' (.frz dany):=λ M0 G w v vs h1 h2 h3 h4=>
 (h M0 G w v vs h1 h2 h3 h4).mono λ _ _ ⟨u,G',Gr,k1,k2,k3,k4,k5,k6,k7,_⟩=>⟨u,G',Gr,k1,k2,k3,k4,k5,k6,k7,trivial,rfl⟩
theorem Sx.boxW{ow:Ow α}{t:TypeId}{s:Nat}{G:Nat->Prop}{x:α}(h:Sx F N M0 M Gs L O a w)(p p2:Nat)(hh:opH o N=some d)(ho:o.op=.box t (.tmp s))(hs:(L++envO O).lookup s=some (dow ow G x))(hp:p<Gs.length)(hp2:p2<Gs.length)(hne:p≠p2)(hG:∀ b,G b->zo Gs p2 b)
  (ks:List Nat) (hk:selP ks L=some L2) (qs:List Nat) (hq:selR L O qs p=some O2) (hO:O2.all (λ q=>q.2.1 != p2)=true) (hdn:L2.lookup d=none)
  (next:∀ b G' M' a' w',Sx F N M0 M' ((Gs.set p G').set p2 (oneB none)) L2 ((d,p,dnm ow.box G' ⟨x⟩ (.pointer (some ⟨b,0,none⟩)) [])::O2) a' w'->wpList P ops Q rest a' w'):wpList P ops Q (o::rest) a w:=by
 obtain⟨hgd,hd,hN⟩:=zY hh;have hy:ow.ro M G w (Act.at a s).cells.toList x:=by
  obtain⟨cs,h1,h2⟩:=h.st.has s _ hs;rw[h2,Y3 (ow.toR h1)];exact h1
 have he:Ext0 w (w.alloc (.cells (Act.at a s).cells t)):=Ext0.alloc _ _;refine wpList_plain hgd λ K hK=>OpOut.wp (OpOut.of_value (v:=.pointer (some ⟨w.heap.size,0,none⟩)) (w':=w.alloc (.cells (Act.at a s).cells t)) ?_ ?_)
 ·
  unfold execOp;rw[ho];simp[Instr.box,newVar,newRow,newObj,Xx,Act.eval_tmp]
 ·
  rw[hd];have h1:=h.eff (G':=oneB (some w.heap.size)) hp ((Grown.of_ext he).mono λ b hb=>hb.elim) (λ b (hb:some w.heap.size=some b)=>by injection hb with hb;subst hb;exact⟨.inr (Nat.le_refl _),by simp⟩) hk hq;have h2:=h1.mrg (p:=p) (p2:=p2) (by simpa using hp) (by simpa using hp2) hne hO;have e1:YZ (Gs.set p (oneB (some w.heap.size))) p p2=(Gs.set p (λ b=>oneB (some w.heap.size) b\/zo Gs p2 b)).set p2 (oneB none):=by
   unfold YZ;rw[List.set_set]
   congr 2
   funext b
   rw[zm hp,zq hne]
  rw[e1] at h2;have hlt:∀ b,G b->b<w.heap.size:=λ b hb=>h.st.mok b (h.ob.at_ p2 b (hG b hb)).2.1
  refine hK _ _ (next w.heap.size _ _ _ _ (h2.putO hN hdn (x:=dnm ow.box (λ b=>oneB (some w.heap.size) b\/zo Gs p2 b) ⟨x⟩ (.pointer (some ⟨w.heap.size,0,none⟩)) []) ?_ λ b hb=>by rw[zq (Ne.symm hne),zm hp];exact hb));refine⟨rfl,⟨_,⟨w.heap.size,(Act.at a s).cells,t,G,rfl,heap_alloc_new w _,.inl rfl,λ hg=>absurd (hlt _ hg) (Nat.lt_irrefl _),λ b hb=>.inr (hG b hb),?_⟩,rfl⟩,λ q hq _=>by cases hq⟩;refine ow.later hy ⟨λ k hk hm=>?_,λ k hk _=>he.block k hk⟩;rcases hm with hm | hm
  ·
   exact hm.1
  ·
   have:w.heap.size=k:=by injection hm
   omega
theorem RdAll.flat{M M':Nat->Prop}{w:World}:∀ {us:List Value} {xs:List Dt},RdAll M w us xs->(∀ x∈xs,Flat x)->RdAll M' w us xs
 | _,_,.nil,_=>.nil
 | _,_,.cons h r,k=>.cons (k _ (List.mem_cons_self ..) _ _ _ _ h) (RdAll.flat r λ x hx=>k x (List.mem_cons_of_mem _ hx))
theorem flat_tup{xs:List Dt}(h:∀ x∈xs,Flat x):Flat (dtup xs):=λ _ _ _ _ ⟨us,hv,hr,hn⟩=>⟨us,hv,hr.flat h,hn⟩
theorem W0{x y:Dt}(h:Flat x)(k:Flat y):Flat (dtup [x,y]):=flat_tup λ z hz=>by
 simp only[List.mem_cons,List.not_mem_nil,or_false] at hz;rcases hz with rfl | rfl
 ·
  exact h
 ·
  exact k
theorem J1{x:GVal}:Flat (dt x):=λ _ _ _ _ ⟨cs,h,hv⟩=>⟨cs,h,hv⟩
end
open Go.RowKit
structure Machine where
 t:Tree
 path:List Int
 known:Nilf
 load:FnV File (List Stmt)
 modules:List (Bx GMod)
 out:List Int
 log:List GEvent
 part:List Str
 left:Int
instance:Rep Machine:=Rep.iso (λ x=>((x.t,x.path,x.known,x.load,x.modules,x.out,x.log,x.part,x.left):Tree×List Int×Nilf×FnV File (List Stmt)×List (Bx GMod)×List Int×List GEvent×List Str×Int))
theorem Machine.fld0:Fld (λ x:Machine=>x.t) 0:=⟨λ h=>(Fld.fst).sub (α:=Tree×List Int×Nilf×FnV File (List Stmt)×List (Bx GMod)×List Int×List GEvent×List Str×Int) h⟩
theorem Machine.fld1:Fld (λ x:Machine=>x.path) 1:=⟨λ h=>((Fld.snd Fld.fst)).sub (α:=Tree×List Int×Nilf×FnV File (List Stmt)×List (Bx GMod)×List Int×List GEvent×List Str×Int) h⟩
theorem Machine.fld4:Fld (λ x:Machine=>x.modules) 4:=⟨λ h=>((Fld.snd (Fld.snd (Fld.snd (Fld.snd Fld.fst))))).sub (α:=Tree×List Int×Nilf×FnV File (List Stmt)×List (Bx GMod)×List Int×List GEvent×List Str×Int) h⟩
theorem Machine.fld5:Fld (λ x:Machine=>x.out) 5:=⟨λ h=>((Fld.snd (Fld.snd (Fld.snd (Fld.snd (Fld.snd Fld.fst)))))).sub (α:=Tree×List Int×Nilf×FnV File (List Stmt)×List (Bx GMod)×List Int×List GEvent×List Str×Int) h⟩
theorem Machine.fld6:Fld (λ x:Machine=>x.log) 6:=⟨λ h=>((Fld.snd (Fld.snd (Fld.snd (Fld.snd (Fld.snd (Fld.snd Fld.fst))))))).sub (α:=Tree×List Int×Nilf×FnV File (List Stmt)×List (Bx GMod)×List Int×List GEvent×List Str×Int) h⟩
theorem Machine.fld7:Fld (λ x:Machine=>x.part) 7:=⟨λ h=>((Fld.snd (Fld.snd (Fld.snd (Fld.snd (Fld.snd (Fld.snd (Fld.snd Fld.fst)))))))).sub (α:=Tree×List Int×Nilf×FnV File (List Stmt)×List (Bx GMod)×List Int×List GEvent×List Str×Int) h⟩
theorem Machine.fld8:Fld (λ x:Machine=>x.left) 8:=⟨λ h=>((Fld.snd (Fld.snd (Fld.snd (Fld.snd (Fld.snd (Fld.snd (Fld.snd (Fld.snd Fld.id))))))))).sub (α:=Tree×List Int×Nilf×FnV File (List Stmt)×List (Bx GMod)×List Int×List GEvent×List Str×Int) h⟩
theorem Machine.parts{M:Nat->Prop}{w:World}{x:Machine}{c0:List Value}{c1:List Value}{c2:List Value}{c3:List Value}{c4:List Value}{c5:List Value}{c6:List Value}{c7:List Value}{c8:List Value}(h0:Rep.rdc M w c0 x.t)(h1:Rep.rdc M w c1 x.path)(h2:Rep.rdc M w c2 x.known)(h3:Rep.rdc M w c3 x.load)(h4:Rep.rdc M w c4 x.modules)(h5:Rep.rdc M w c5 x.out)(h6:Rep.rdc M w c6 x.log)(h7:Rep.rdc M w c7 x.part)(h8:Rep.rdc M w c8 x.left):Rep.rdc M w [c0,c1,c2,c3,c4,c5,c6,c7,c8].flatten x:=by
 simp only[List.flatten_cons,List.flatten_nil,List.append_nil];exact⟨c0,_,rfl,h0,⟨c1,_,rfl,h1,⟨c2,_,rfl,h2,⟨c3,_,rfl,h3,⟨c4,_,rfl,h4,⟨c5,_,rfl,h5,⟨c6,_,rfl,h6,⟨c7,_,rfl,h7,h8⟩⟩⟩⟩⟩⟩⟩⟩
def zcNilf:List Value:=[.nilFunc]
def zcFnv:List Value:=[.nilFunc]
def zpMachine:List (List Value):=[zcTree,ZP,zcNilf,zcFnv,ZP,ZP,ZP,ZP,qX]
@[reducible] def owGModR (a5:Ow (List GAttr)):Ow GMod:=Ow.via (λ(x:GMod)=>((x.name,x.kind,x.roots,x.cached,x.done,x.attrs):Str×Int×List Int×Bool×Bool×List GAttr)) (Ow.pr (Ow.frz (α:=Str)) (Ow.pr (Ow.frz (α:=Int)) (Ow.pr (Ow.frz (α:=List Int)) (Ow.pr (Ow.frz (α:=Bool)) (Ow.pr (Ow.frz (α:=Bool)) a5)))))
theorem owGModR.f0{a5:Ow (List GAttr)}:FldW (owGModR a5) (Ow.frz (α:=Str)) (λ x:GMod=>x.name) (λ y x=>{ x with name:=y }) 0:=⟨λ h=>(FldW.fst).foc (α:=Str×Int×List Int×Bool×Bool×List GAttr) h⟩
theorem owGModR.f1{a5:Ow (List GAttr)}:FldW (owGModR a5) (Ow.frz (α:=Int)) (λ x:GMod=>x.kind) (λ y x=>{ x with kind:=y }) 1:=⟨λ h=>((FldW.snd FldW.fst)).foc (α:=Str×Int×List Int×Bool×Bool×List GAttr) h⟩
theorem owGModR.f2{a5:Ow (List GAttr)}:FldW (owGModR a5) (Ow.frz (α:=List Int)) (λ x:GMod=>x.roots) (λ y x=>{ x with roots:=y }) 2:=⟨λ h=>((FldW.snd (FldW.snd FldW.fst))).foc (α:=Str×Int×List Int×Bool×Bool×List GAttr) h⟩
theorem owGModR.f3{a5:Ow (List GAttr)}:FldW (owGModR a5) (Ow.frz (α:=Bool)) (λ x:GMod=>x.cached) (λ y x=>{ x with cached:=y }) 3:=⟨λ h=>((FldW.snd (FldW.snd (FldW.snd FldW.fst)))).foc (α:=Str×Int×List Int×Bool×Bool×List GAttr) h⟩
theorem owGModR.f4{a5:Ow (List GAttr)}:FldW (owGModR a5) (Ow.frz (α:=Bool)) (λ x:GMod=>x.done) (λ y x=>{ x with done:=y }) 4:=⟨λ h=>((FldW.snd (FldW.snd (FldW.snd (FldW.snd FldW.fst))))).foc (α:=Str×Int×List Int×Bool×Bool×List GAttr) h⟩
theorem owGModR.f5{a5:Ow (List GAttr)}:FldW (owGModR a5) a5 (λ x:GMod=>x.attrs) (λ y x=>{ x with attrs:=y }) 5:=⟨λ h=>((FldW.snd (FldW.snd (FldW.snd (FldW.snd (FldW.snd FldW.id)))))).foc (α:=Str×Int×List Int×Bool×Bool×List GAttr) h⟩
theorem owGModR.mk{M:Nat->Prop}{w:World}{x:GMod}{g5:Nat->Prop}{a5:Ow (List GAttr)}{c0:List Value}{c1:List Value}{c2:List Value}{c3:List Value}{c4:List Value}{c5:List Value}(h0:Rep.rdc M w c0 x.name)(h1:Rep.rdc M w c1 x.kind)(h2:Rep.rdc M w c2 x.roots)(h3:Rep.rdc M w c3 x.cached)(h4:Rep.rdc M w c4 x.done)(h5:a5.ro M g5 w c5 x.attrs)  : (owGModR a5).ro M g5 w [c0,c1,c2,c3,c4,c5].flatten x:=by
 simp only[List.flatten_cons,List.flatten_nil,List.append_nil];exact⟨noB,g5,c0,_,λ _ h=>h.elim,λ _ h=>h,λ _ h=>h.elim,rfl,h0,⟨noB,g5,c1,_,λ _ h=>h.elim,λ _ h=>h,λ _ h=>h.elim,rfl,h1,⟨noB,g5,c2,_,λ _ h=>h.elim,λ _ h=>h,λ _ h=>h.elim,rfl,h2,⟨noB,g5,c3,_,λ _ h=>h.elim,λ _ h=>h,λ _ h=>h.elim,rfl,h3,⟨noB,g5,c4,_,λ _ h=>h.elim,λ _ h=>h,λ _ h=>h.elim,rfl,h4,h5⟩⟩⟩⟩⟩
@[reducible] def owMachine (a4:Ow (List (Bx GMod))) (a5:Ow (List Int)) (a6:Ow (List GEvent)) (a7:Ow (List Str)):Ow Machine:=Ow.via (λ(x:Machine)=>((x.t,x.path,x.known,x.load,x.modules,x.out,x.log,x.part,x.left):Tree×List Int×Nilf×FnV File (List Stmt)×List (Bx GMod)×List Int×List GEvent×List Str×Int)) (Ow.pr (Ow.frz (α:=Tree)) (Ow.pr (Ow.frz (α:=List Int)) (Ow.pr (Ow.frz (α:=Nilf)) (Ow.pr (Ow.frz (α:=FnV File (List Stmt))) (Ow.pr a4 (Ow.pr a5 (Ow.pr a6 (Ow.pr a7 (Ow.frz (α:=Int))))))))))
theorem owMachine.f0{a4:Ow (List (Bx GMod))}{a5:Ow (List Int)}{a6:Ow (List GEvent)}{a7:Ow (List Str)}:FldW (owMachine a4 a5 a6 a7) (Ow.frz (α:=Tree)) (λ x:Machine=>x.t) (λ y x=>{ x with t:=y }) 0:=⟨λ h=>(FldW.fst).foc (α:=Tree×List Int×Nilf×FnV File (List Stmt)×List (Bx GMod)×List Int×List GEvent×List Str×Int) h⟩
theorem owMachine.f1{a4:Ow (List (Bx GMod))}{a5:Ow (List Int)}{a6:Ow (List GEvent)}{a7:Ow (List Str)}:FldW (owMachine a4 a5 a6 a7) (Ow.frz (α:=List Int)) (λ x:Machine=>x.path) (λ y x=>{ x with path:=y }) 1:=⟨λ h=>((FldW.snd FldW.fst)).foc (α:=Tree×List Int×Nilf×FnV File (List Stmt)×List (Bx GMod)×List Int×List GEvent×List Str×Int) h⟩
theorem owMachine.f2{a4:Ow (List (Bx GMod))}{a5:Ow (List Int)}{a6:Ow (List GEvent)}{a7:Ow (List Str)}:FldW (owMachine a4 a5 a6 a7) (Ow.frz (α:=Nilf)) (λ x:Machine=>x.known) (λ y x=>{ x with known:=y }) 2:=⟨λ h=>((FldW.snd (FldW.snd FldW.fst))).foc (α:=Tree×List Int×Nilf×FnV File (List Stmt)×List (Bx GMod)×List Int×List GEvent×List Str×Int) h⟩
theorem owMachine.f3{a4:Ow (List (Bx GMod))}{a5:Ow (List Int)}{a6:Ow (List GEvent)}{a7:Ow (List Str)}:FldW (owMachine a4 a5 a6 a7) (Ow.frz (α:=FnV File (List Stmt))) (λ x:Machine=>x.load) (λ y x=>{ x with load:=y }) 3:=⟨λ h=>((FldW.snd (FldW.snd (FldW.snd FldW.fst)))).foc (α:=Tree×List Int×Nilf×FnV File (List Stmt)×List (Bx GMod)×List Int×List GEvent×List Str×Int) h⟩
theorem owMachine.f4{a4:Ow (List (Bx GMod))}{a5:Ow (List Int)}{a6:Ow (List GEvent)}{a7:Ow (List Str)}:FldW (owMachine a4 a5 a6 a7) a4 (λ x:Machine=>x.modules) (λ y x=>{ x with modules:=y }) 4:=⟨λ h=>((FldW.snd (FldW.snd (FldW.snd (FldW.snd FldW.fst))))).foc (α:=Tree×List Int×Nilf×FnV File (List Stmt)×List (Bx GMod)×List Int×List GEvent×List Str×Int) h⟩
theorem owMachine.f5{a4:Ow (List (Bx GMod))}{a5:Ow (List Int)}{a6:Ow (List GEvent)}{a7:Ow (List Str)}:FldW (owMachine a4 a5 a6 a7) a5 (λ x:Machine=>x.out) (λ y x=>{ x with out:=y }) 5:=⟨λ h=>((FldW.snd (FldW.snd (FldW.snd (FldW.snd (FldW.snd FldW.fst)))))).foc (α:=Tree×List Int×Nilf×FnV File (List Stmt)×List (Bx GMod)×List Int×List GEvent×List Str×Int) h⟩
theorem owMachine.f6{a4:Ow (List (Bx GMod))}{a5:Ow (List Int)}{a6:Ow (List GEvent)}{a7:Ow (List Str)}:FldW (owMachine a4 a5 a6 a7) a6 (λ x:Machine=>x.log) (λ y x=>{ x with log:=y }) 6:=⟨λ h=>((FldW.snd (FldW.snd (FldW.snd (FldW.snd (FldW.snd (FldW.snd FldW.fst))))))).foc (α:=Tree×List Int×Nilf×FnV File (List Stmt)×List (Bx GMod)×List Int×List GEvent×List Str×Int) h⟩
theorem owMachine.f7{a4:Ow (List (Bx GMod))}{a5:Ow (List Int)}{a6:Ow (List GEvent)}{a7:Ow (List Str)}:FldW (owMachine a4 a5 a6 a7) a7 (λ x:Machine=>x.part) (λ y x=>{ x with part:=y }) 7:=⟨λ h=>((FldW.snd (FldW.snd (FldW.snd (FldW.snd (FldW.snd (FldW.snd (FldW.snd FldW.fst)))))))).foc (α:=Tree×List Int×Nilf×FnV File (List Stmt)×List (Bx GMod)×List Int×List GEvent×List Str×Int) h⟩
theorem owMachine.f8{a4:Ow (List (Bx GMod))}{a5:Ow (List Int)}{a6:Ow (List GEvent)}{a7:Ow (List Str)}:FldW (owMachine a4 a5 a6 a7) (Ow.frz (α:=Int)) (λ x:Machine=>x.left) (λ y x=>{ x with left:=y }) 8:=⟨λ h=>((FldW.snd (FldW.snd (FldW.snd (FldW.snd (FldW.snd (FldW.snd (FldW.snd (FldW.snd FldW.id))))))))).foc (α:=Tree×List Int×Nilf×FnV File (List Stmt)×List (Bx GMod)×List Int×List GEvent×List Str×Int) h⟩
theorem owMachine.imp4{a4:Ow (List (Bx GMod))}{a5:Ow (List Int)}{a6:Ow (List GEvent)}{a7:Ow (List Str)}{b4:Ow (List (Bx GMod))}{x:Machine}(h:Imp a4 b4 x.modules):Imp (owMachine a4 a5 a6 a7) (owMachine b4 a5 a6 a7) x:=imp_via (x:=x) (imp_snd (imp_snd (imp_snd (imp_snd (imp_fst h)))))
theorem owMachine.impE4{a4:Ow (List (Bx GMod))}{a5:Ow (List Int)}{a6:Ow (List GEvent)}{a7:Ow (List Str)}{b4:Nat->Ow (List (Bx GMod))}{x:Machine}(h:ImpE a4 b4 x.modules):ImpE (owMachine a4 a5 a6 a7) (λ n=>(owMachine (b4 n) a5 a6 a7)) x:=impE_via (x:=x) (zbc (zbc (zbc (zbc (impE_fst h)))))
theorem owMachine.mk{M:Nat->Prop}{w:World}{x:Machine}{g4:Nat->Prop}{a4:Ow (List (Bx GMod))}{g5:Nat->Prop}{a5:Ow (List Int)}{g6:Nat->Prop}{a6:Ow (List GEvent)}{g7:Nat->Prop}{a7:Ow (List Str)}{c0:List Value}{c1:List Value}{c2:List Value}{c3:List Value}{c4:List Value}{c5:List Value}{c6:List Value}{c7:List Value}{c8:List Value}(h0:Rep.rdc M w c0 x.t)(h1:Rep.rdc M w c1 x.path)(h2:Rep.rdc M w c2 x.known)(h3:Rep.rdc M w c3 x.load)(h4:a4.ro M g4 w c4 x.modules)(h5:a5.ro M g5 w c5 x.out)(h6:a6.ro M g6 w c6 x.log)(h7:a7.ro M g7 w c7 x.part)(h8:Rep.rdc M w c8 x.left)(d4:∀ b,g4 b->¬ (λ b=>g5 b\/(λ b=>g6 b\/g7 b) b) b)(d5:∀ b,g5 b->¬ (λ b=>g6 b\/g7 b) b)(d6:∀ b,g6 b->¬ g7 b):(owMachine a4 a5 a6 a7).ro M (λ b=>g4 b\/(λ b=>g5 b\/(λ b=>g6 b\/g7 b) b) b) w [c0,c1,c2,c3,c4,c5,c6,c7,c8].flatten x:=by
 simp only[List.flatten_cons,List.flatten_nil,List.append_nil];exact⟨noB,(λ b=>g4 b\/(λ b=>g5 b\/(λ b=>g6 b\/g7 b) b) b),c0,_,λ _ h=>h.elim,λ _ h=>h,λ _ h=>h.elim,rfl,h0,⟨noB,(λ b=>g4 b\/(λ b=>g5 b\/(λ b=>g6 b\/g7 b) b) b),c1,_,λ _ h=>h.elim,λ _ h=>h,λ _ h=>h.elim,rfl,h1,⟨noB,(λ b=>g4 b\/(λ b=>g5 b\/(λ b=>g6 b\/g7 b) b) b),c2,_,λ _ h=>h.elim,λ _ h=>h,λ _ h=>h.elim,rfl,h2,⟨noB,(λ b=>g4 b\/(λ b=>g5 b\/(λ b=>g6 b\/g7 b) b) b),c3,_,λ _ h=>h.elim,λ _ h=>h,λ _ h=>h.elim,rfl,h3,⟨g4,(λ b=>g5 b\/(λ b=>g6 b\/g7 b) b),c4,_,λ _ h=>.inl h,λ _ h=>.inr h,d4,rfl,h4,⟨g5,(λ b=>g6 b\/g7 b),c5,_,λ _ h=>.inl h,λ _ h=>.inr h,d5,rfl,h5,⟨g6,g7,c6,_,λ _ h=>.inl h,λ _ h=>.inr h,d6,rfl,h6,⟨g7,noB,c7,_,λ _ h=>h,λ _ h=>h.elim,λ _ _ h=>h,rfl,h7,h8⟩⟩⟩⟩⟩⟩⟩⟩
instance:Inhabited Machine:=⟨⟨default,[],⟨⟩,default,[],[],[],[],0⟩⟩
open Go.RowKit Go.ChangeMaps Go.Maps Go.WideMaps
def mapE(s:Str):Lit×DataW Unit:=(.string s.l,.lit (.bool true))
def mapL(m:List Str):List (Lit×DataW Unit):=(m.map mapE).foldr DataW.insert []
def mapD(m:List Str):DataW Unit:=.map (mapL m)
theorem zco{x y:Lit×DataW Unit}:∀ {l:List (Lit×DataW Unit)},x∈DataW.insert y l ↔ x=y\/x∈l
 | []=>by simp[DataW.insert]
 |
  z::r=>by
  unfold DataW.insert;split
  ·
   simp
  ·
   rw[List.mem_cons,zco,List.mem_cons];constructor
   ·
    rintro (h | h | h)
    ·
     exact .inr (.inl h)
    ·
     exact .inl h
    ·
     exact .inr (.inr h)
   ·
    rintro (h | h | h)
    ·
     exact .inr (.inl h)
    ·
     exact .inl h
    ·
     exact .inr (.inr h)
theorem zbd{x:Lit×DataW Unit}:∀ {m:List Str},x∈mapL m ↔ ∃ s∈m,x=mapE s
 | []=>by simp[mapL]
 |
  t::m=>by
  show x∈DataW.insert (mapE t) (mapL m) ↔ _;rw[zco,zbd];constructor
  ·
   rintro (h | ⟨s,hs,h⟩)
   ·
    exact⟨t,List.mem_cons_self ..,h⟩
   ·
    exact⟨s,List.mem_cons_of_mem _ hs,h⟩
  ·
   rintro ⟨s,hs,h⟩
   rcases List.mem_cons.1 hs with rfl | hs
   ·
    exact .inl h
   ·
    exact .inr ⟨s,hs,h⟩
theorem mapE_key{s t:Str}:(mapE s).1.sameKey (.string t.l)=true ↔ s=t:=by
 show(s.l == t.l)=true ↔ _;rw[beq_iff_eq];constructor
 ·
  intro h;cases s;cases t;simp only at h;rw[h]
 ·
  intro h;rw[h]
theorem atKey_mapD(m:List Str)(s:Str):(mapD m).atKey (.string s.l) (.lit (.bool false))=.lit (.bool (decide (s∈m))):=by
 unfold mapD DataW.atKey;simp only;cases hf:(mapL m).find? (λ p=>p.1.sameKey (.string s.l)) with
 |
  some p=>
  have h1:=List.mem_of_find?_eq_some hf;have h2:=List.find?_some hf;obtain⟨t,ht,rfl⟩:=zbd.1 h1;have h3:=mapE_key.1 h2;subst h3;rw[decide_eq_true ht];rfl
 |
  none=>
  rw[List.find?_eq_none] at hf;have:s ∉ m:=λ h=>hf (mapE s) (zbd.2 ⟨s,h,rfl⟩) (mapE_key.2 rfl)
  rw[decide_eq_false this]
theorem put_mapD{m:List Str}{s:Str}(h:s ∉ m):(mapD m).put (.string s.l) (.lit (.bool true))=mapD (s::m):=by
 unfold mapD;rw[DataW.put_eq]
 congr 1
 show DataW.insert _ ((mapL m).filter (notKey (.string s.l)))=DataW.insert (mapE s) (mapL m);rw[List.filter_eq_self.2 λ p hp=>?_]
 ·
  rfl
 ·
  obtain⟨t,ht,rfl⟩:=zbd.1 hp;unfold notKey;cases hc:(mapE t).1.sameKey (.string s.l) with
  | false=>rfl
  | true=>exact absurd (mapE_key.1 hc ▸ ht) h
def Qu(m:List Str)(s:Str):Option (List Str):=if s∈m then none else if m.length<1099511627776 then some (s::m) else none
theorem mapPutO_spec{m m':List Str}{s:Str}(h:Qu m s=some m'):s ∉ m/\m.length<1099511627776/\m'=s::m:=by
 unfold Qu at h;split at h
 ·
  cases h
 ·
  rename_i h1;split at h
  ·
   rename_i h2;injection h with h;exact⟨h1,h2,h.symm⟩
  ·
   cases h
def mapB(P:Program)(t k e:TypeId):Bool:=match P.underlying t,P.underlying k,P.underlying e with
 | some (.map k' e'),some .string,some .bool=>k' == k&&e' == e
 | _,_,_=>false
theorem mapB_spec{P:Program}{t k e:TypeId}(h:mapB P t k e=true):P.underlying t=some (.map k e)/\P.underlying k=some .string/\P.underlying e=some .bool:=by
 unfold mapB at h;split at h
 ·
  rename_i k' e' h1 h2 h3;rw[Bool.and_eq_true,beq_iff_eq,beq_iff_eq] at h;rw[← h.1,← h.2];exact⟨by rw[h1],by rw[h.1];exact h2,by rw[h.2];exact h3⟩
 ·
  cases h
def zeroV(P:Program)(e:TypeId):Option Value:=(P.info? e).bind λ i=>i.zero
theorem run_zeroV{P:Program}{e:TypeId}{v:Value}(h:zeroV P e=some v)(w:World):(zeroValue e).run P w=.ok v w:=by
 unfold zeroV at h;cases hi:P.info? e with
 | none=>rw[hi] at h;cases h
 |
  some i=>
  rw[hi,obS] at h;simp[zeroValue,typeInfo,hi,h]
theorem zau{P:Program}{e:TypeId}(he:P.underlying e=some .bool){v:Value}{z:DataW Unit×List MemPlace}(h:plainElem P e v=some z):∃ x,v=.bool x/\z=(.lit (.bool x),[]):=by
 unfold plainElem at h;rw[he] at h;cases v <;> simp at h;exact⟨_,rfl,h.symm⟩
def dmap(P:Program)(k e:TypeId)(b:Option Nat)(m:List Str):Dt where
 rd _ w v:=∃ bb,b=some bb/\v=.map (some bb)/\w.ownsMap P k (plainElem P e) bb m.length (mapD m)
 own:=oneB b
 nb:=false
 nob h:=by cases h
 stable:=by
  rintro M w w' v ⟨bb,hb,hv,es,clock,hh,F,hs,hD⟩ k
  have hlt:bb<w.heap.size:=(Array.getElem?_eq_some_iff.1 hh).1;exact⟨bb,hb,hv,es,clock,(k bb hlt (.inr hb)).trans hh,F,hs,hD⟩
 weak h _:=h
section
variable{P:Program}{ops:Array Oper}{rest:List Oper}{Q:Exit->Act->World->Prop}{a:Act}{w:World}{o:Oper}{F:Frm}{N d:Nat}{M0 M:Nat->Prop}{Gs:List (Nat->Prop)}{L L2:Env}{O O2:List (Nat×Nat×Dt)}{ks qs:List Nat}{look:Nat->Option Dt}{t k e:TypeId}
theorem Sx.mapNew(h:Sx F N M0 M Gs L O a w)(p:Nat)(hh:opH o N=some d)(ho:o.op=.makeMap t none)(hp:p<Gs.length)
  (ks:List Nat) (hk:selP ks L=some L2) (qs:List Nat) (hq:selR L O qs p=some O2) (hdn:L2.lookup d=none)
  (next:∀ b M' a' w',Sx F N M0 M' (Gs.set p (oneB (some b))) L2 ((d,p,dmap P k e (some b) [])::O2) a' w'->wpList P ops Q rest a' w'):wpList P ops Q (o::rest) a w:=by
 obtain⟨hgd,hd,hN⟩:=zY hh;have he:Ext0 w (w.alloc (.map #[] 0)):=Ext0.alloc _ _;refine wpList_plain hgd λ K hK=>OpOut.wp (OpOut.of_value (v:=.map (some w.heap.size)) (w':=w.alloc (.map #[] 0)) ?_ ?_)
 ·
  unfold execOp;rw[ho];simp[run_makeMap]
 ·
  rw[hd];have h1:=h.eff (G':=oneB (some w.heap.size)) hp ((Grown.of_ext he).mono λ b hb=>hb.elim) (λ b (hb:some w.heap.size=some b)=>by injection hb with hb;subst hb;exact⟨.inr (Nat.le_refl _),by simp⟩) hk hq;refine hK _ _ (next w.heap.size _ _ _ (h1.putO hN hdn ?_ λ b hb=>by rw[zm hp];exact hb));exact⟨_,rfl,rfl,World.ownsMap_made w P k (plainElem P e)⟩
end
open Go.RowKit Go.ChangeMaps Go.Maps Go.WideMaps
theorem cell_same{w w':World}{b o:Nat}(h:w'.heap[b]?=w.heap[b]?):w'.cell? ⟨b,o,none⟩=w.cell? ⟨b,o,none⟩:=by simp[World.cell?,h]
abbrev ptrB(b:Nat):Value:=.pointer (some ⟨b,0,none⟩)
def dco(b:Nat)(x:Dt):Dt where
 rd M w v:=v=ptrB b/\b<w.heap.size/\∃ u C e,w.heap[b]?=some (.cells C e (0,0))/\C.toList=[u]/\x.rd M w u/\x.nb=true
 own:=oneB (some b)
 nb:=false
 nob h:=by cases h
 stable:=λ⟨hv,hl,u,C,e,hc,hC,hu,hn⟩ k=>⟨hv,wA ((k b hl (.inr rfl)).trans hc),u,C,e,(k b hl (.inr rfl)).trans hc,hC,x.stable hu (λ j hj hm=>k j hj (hm.imp id λ ho=>(x.nob hn j ho).elim)),hn⟩
 weak:=λ⟨hv,hl,u,C,e,hc,hC,hu,hn⟩ k=>⟨hv,hl,u,C,e,hc,hC,x.weak hu k,hn⟩
def dcf(b:Nat)(x:Dt):Dt where
 rd M w v:=v=ptrB b/\¬ M b/\b<w.heap.size/\∃ u,w.cell? ⟨b,0,none⟩=some u/\x.rd M w u/\x.nb=true
 own:=noB
 nb:=true
 nob _ _ h:=h
 stable:=λ⟨hv,hm,hl,u,hc,hu,hn⟩ e=>⟨hv,hm,by
  have:=e b hl (.inl hm);rw[Array.getElem?_eq_getElem hl] at this;exact(Array.getElem?_eq_some_iff.1 this).1,u,(cell_same (e b hl (.inl hm))).trans hc,x.stable hu (λ j hj h=>e j hj (h.imp id λ ho=>(x.nob hn j ho).elim)),hn⟩
 weak:=λ⟨hv,hm,hl,u,hc,hu,hn⟩ e=>⟨hv,λ h=>hm (e _ hl h),hl,u,hc,x.weak hu e,hn⟩
theorem dcf_load{b:Nat}{x:Dt}{P:Program}{M:Nat->Prop}{w:World}{v:Value}{t:TypeId}(h:(dcf b x).rd M w v)(ht:tyB P t false 1=true):∃ u,(loadVar t ⟨b,0,none⟩).run P w=.ok u w/\x.rd M w u:=by
 obtain⟨_,_,_,u,hc,hu,_⟩:=h;exact⟨u,by
  have:=yQ (P:=P) (w:=w) (t:=t) (b:=b) (o:=0) (cs:=[u]) (agg:=false) (size:=1) ht rfl (λ _=>rfl) (λ j z hj=>by
   cases j with
   | zero=>simp at hj;subst hj;simpa using hc
   | succ j=>simp at hj)
  simpa[mkv] using this,hu⟩
def dmg(P:Program)(k e:TypeId)(bs:Nat)(m:List Str):Dt where
 rd M w _:=(dmap P k e (some bs) m).rd M w (.map (some bs))
 own:=oneB (some bs)
 nb:=false
 nob h:=by cases h
 stable h i:=(dmap P k e (some bs) m).stable h i
 weak h i:=(dmap P k e (some bs) m).weak h i
structure Vc where
 f:FuncId
 bm:Nat
 bs:Nat
 bv:Nat
 t:Tree
 path:List Int
 bo:Nat
def Vc.val(c:Vc)(vt vp:Value):Value:=.func (.func c.f) #[] #[ptrB c.bm,ptrB c.bv,vt,vp,ptrB c.bo]
abbrev Vc.cm(c:Vc):Dt:=dcf c.bm (dis (.map (some c.bs)))
def dvm(c:Vc):Dt where
 rd M w v:=∃ vt vp,v=c.val vt vp/\(dptr c.t).rd M w vt/\(dptr c.path).rd M w vp/\c.cm.rd M w (ptrB c.bm)
 own:=noB
 nb:=true
 nob _ _ h:=h
 stable:=λ⟨vt,vp,hv,h1,h2,h3⟩ e=>⟨vt,vp,hv,(dptr c.t).stable h1 e,(dptr c.path).stable h2 e,c.cm.stable h3 e⟩
 weak:=λ⟨vt,vp,hv,h1,h2,h3⟩ e=>⟨vt,vp,hv,(dptr c.t).weak h1 e,(dptr c.path).weak h2 e,c.cm.weak h3 e⟩
abbrev Vc.cv(c:Vc):Dt:=dcf c.bv (dvm c)
def dvf(c:Vc):Dt where
 rd M w v:=(dvm c).rd M w v/\c.cv.rd M w (ptrB c.bv)
 own:=noB
 nb:=true
 nob _ _ h:=h
 stable h e:=⟨(dvm c).stable h.1 e,c.cv.stable h.2 e⟩
 weak h e:=⟨(dvm c).weak h.1 e,c.cv.weak h.2 e⟩
def FnVis(P:Program)(k e es:TypeId)(f:FuncId)(t:Tree)(path:List Int)(s:Str)(x x':List Str×List Str):Prop:=
 ∀
  (c:Vc) (M0 G:Nat->Prop) (w:World) (vs vt vp:Value),c.f=f->c.t=t->c.path=path->(∀ b,(M0 b\/oneB (some c.bs) b)\/G b->b<w.heap.size)->¬ M0 c.bs->¬ G c.bs->(∀ b,G b->¬ M0 b)->
  (dmg P k e c.bs x.1).rd (λ b=>(M0 b\/oneB (some c.bs) b)\/G b) w undef->(dow (Ow.row es Ow.frz).box G ⟨x.2⟩).rd (λ b=>(M0 b\/oneB (some c.bs) b)\/G b) w (ptrB c.bo)->
  (dt s).rd (λ b=>(M0 b\/oneB (some c.bs) b)\/G b) w vs->c.cm.rd (λ b=>(M0 b\/oneB (some c.bs) b)\/G b) w (ptrB c.bm)->c.cv.rd (λ b=>(M0 b\/oneB (some c.bs) b)\/G b) w (ptrB c.bv)->(dptr t).rd (λ b=>(M0 b\/oneB (some c.bs) b)\/G b) w vt->(dptr path).rd (λ b=>(M0 b\/oneB (some c.bs) b)\/G b) w vp->
  Calls P f #[vs,ptrB c.bm,ptrB c.bv,vt,vp,ptrB c.bo] w (λ en w'=>∃ u G',en=.returned u/\Grown (λ b=>oneB (some c.bs) b\/G b) w w'/\(∀ b,G' b->G b\/w.heap.size<=b)/\(∀ b,G' b->b<w'.heap.size)/\
   (dmg P k e c.bs x'.1).rd (λ b=>(M0 b\/oneB (some c.bs) b)\/G' b) w' undef/\(dow (Ow.row es Ow.frz).box G' ⟨x'.2⟩).rd (λ b=>(M0 b\/oneB (some c.bs) b)\/G' b) w' (ptrB c.bo))
def RetV(P:Program)(k e es:TypeId)(M0 G:Nat->Prop)(bs bo:Nat)(w:World)(x':List Str×List Str):Ending->World->Prop:=λ en w'=>
 ∃ u
   G',en=.returned u/\Grown (λ b=>oneB (some bs) b\/G b) w w'/\(∀ b,G' b->G b\/w.heap.size<=b)/\(∀ b,G' b->b<w'.heap.size)/\
   (dmg P k e bs x'.1).rd (λ b=>(M0 b\/oneB (some bs) b)\/G' b) w' undef/\(dow (Ow.row es Ow.frz).box G' ⟨x'.2⟩).rd (λ b=>(M0 b\/oneB (some bs) b)\/G' b) w' (ptrB bo)
section
variable{P:Program}{fn:Func}{F:Frm}{N d p p2:Nat}{M0 M:Nat->Prop}{Gs:List (Nat->Prop)}{L L2:Env}{O O2:List (Nat×Nat×Dt)}{a:Act}{w w0:World}{Q:Exit->Act->World->Prop}{ops:Array Oper}{rest:List Oper}{ks qs:List Nat}{o:Oper}{look:Nat->Option Dt}{t k e es:TypeId}
theorem xLdV{c:Vc}{q:Operand}(ho:o.op=.load t q)(ht:tyB P t false 1=true)(hq:OpdR M look q c.cv):OpRel P M look o (dvf c):=
 zx λ a w _ hl=>by
  have h:=hq w a hl;obtain⟨u,h1,h2⟩:=dcf_load h ht;have hv:a.eval q=.pointer (some ⟨c.bv,0,none⟩):=h.1;refine⟨u,?_,h2,by rw[← show a.eval q=ptrB c.bv from h.1];exact h⟩;unfold execOp;rw[ho];simp[Instr.loadAt,Instr.sureAddr,hv,h1]
theorem xLdC'{b:Nat}{x:Dt}{q:Operand}(ho:o.op=.load t q)(ht:tyB P t false 1=true)(hq:OpdR M look q (dcf b x)):OpRel P M look o x:=
 zx λ a w _ hl=>by
  have h:=hq w a hl;obtain⟨u,h1,h2⟩:=dcf_load h ht;have hv:a.eval q=.pointer (some ⟨b,0,none⟩):=h.1;refine⟨u,?_,h2⟩;unfold execOp;rw[ho];simp[Instr.loadAt,Instr.sureAddr,hv,h1]
theorem xMkV{c:Vc}{f:FuncId}{sm sv st sp so:Nat}{x:Dt}{G:Nat->Prop}{y:Bx (List Str)}{cf:CF}(ho:o.op=.makeFunc (.func f) #[] #[.tmp sm,.tmp sv,.tmp st,.tmp sp,.tmp so])(hf:c.f=f)(h1:look sm=some c.cm)(h2:look sv=some (dco c.bv x))(h3:look st=some (dptr c.t))(h4:look sp=some (dptr c.path))(h5:look so=some (dnm (Ow.row es Ow.frz).box G y (ptrB c.bo) cf)):OpRel P M look o (dvm c):=
 zx λ a w _ hl=>by
  have e1:a.eval (.tmp sm)=ptrB c.bm:=(hl sm _ h1).1;have e2:a.eval (.tmp sv)=ptrB c.bv:=(hl sv _ h2).1;have e5:a.eval (.tmp so)=ptrB c.bo:=(hl so _ h5).1;refine⟨.func (.func f) #[] #[a.eval (.tmp sm),a.eval (.tmp sv),a.eval (.tmp st),a.eval (.tmp sp),a.eval (.tmp so)],?_,a.eval (.tmp st),a.eval (.tmp sp),?_,hl st _ h3,hl sp _ h4,e1 ▸ hl sm _ h1⟩
  ·
   unfold execOp;rw[ho];simp[Instr.makeFunc]
  ·
   rw[e1,e2,e5,← hf];rfl
theorem xMapGetG{m x:Operand}{g bs:Nat}{l:List Str}{s:Str}(ho:o.op=.lookup t m x false)(ht:mapB P t k e=true)(hz:zeroV P e=some (.bool false))(hm:OpdR M look m (dis (.map (some bs))))(hg:look g=some (dmg P k e bs l))(hx:OpdR M look x (dt s)):OpRel P M look o (dt (decide (s∈l))):=
 zx λ a w _ hl=>by
  obtain⟨h1,h2,h3⟩:=mapB_spec ht;have hv:a.eval m=.map (some bs):=hm w a hl;obtain⟨bb,e1,_,hown⟩:=hl g _ hg;injection e1 with e1;subst e1;obtain⟨k1,k2⟩:=xd.1 (hx w a hl);obtain⟨v,ps,hrun,hR⟩:=hown.lookup (string_keyed h2) h1 (run_zeroV hz w) (plainElem_bool h3 false) (key:=a.eval x) (kl:=.string s.l) (by rw[k1];exact keyOf_string_mk h2 k2);rw[atKey_mapD] at hR;obtain⟨y,rfl,hy⟩:=zau h3 hR;injection hy with hy _;injection hy with hy;injection hy with hy;refine⟨.bool y,?_,?_⟩
  ·
   unfold execOp;rw[ho];simp[hv,hrun]
  ·
   rw[hy];exact yG.2 rfl
theorem Sx.mapPutG{g bs:Nat}{m x v:Operand}{l l':List Str}{key:Str}(h:Sx F N M0 M Gs L O a w)(p:Nat)(hgd:o.guard=none)(hd:o.dst=none)(ho:o.op=.mapUpdate t m x v)(ht:mapB P t k e=true)(hmq:OpdR M (λ s=>(L++envO O).lookup s) m (dis (.map (some bs))))(hs:(L++envO O).lookup g=some (dmg P k e bs l))(hx:OpdR M (λ s=>(L++envO O).lookup s) x (dt key))(hv:OpdR M (λ s=>(L++envO O).lookup s) v (dt true))(hb:∀ b,oneB (some bs) b->zo Gs p b)(hp:p<Gs.length)(hnew:Qu l key=some l')
  (ks:List Nat) (hk:selP ks L=some L2) (qs:List Nat) (hq:selR L O qs p=some O2) (hdn:L2.lookup g=none)
  (next:∀ w',Sx F N M0 M Gs L2 ((g,p,dmg P k e bs l')::O2) a w'->wpList P ops Q rest a w'):wpList P ops Q (o::rest) a w:=by
 obtain⟨h1,h2,h3⟩:=mapB_spec ht;obtain⟨n1,n2,rfl⟩:=mapPutO_spec hnew;obtain⟨bb,hbb,hval,hown⟩:=h.st.has g _ hs;injection hbb with hbb;subst hbb;have hval':a.eval m=.map (some bs):=hmq w a λ s y hs=>h.st.has s y hs
 obtain⟨k1,k2⟩:=xd.1 (hx w a λ s y hs=>h.st.has s y hs);have k3:=yG.1 (hv w a λ s y hs=>h.st.has s y hs);refine wpList_mapUpdate_own (H:=Unit) w hgd m x v t ho k e (string_keyed h2) h1 (plainElem P e) bs l.length (mapD l) hval' hown (by unfold maxLen;omega) _ _ (.string key.l) rfl rfl (by rw[k1];exact keyOf_string_mk h2 k2) (.lit (.bool true)) [] (by rw[k3];exact plainElem_bool h3 true) λ w' hown' hgr=>?_
 rw[put_mapD n1] at hown';rw[hd];have hgr':Grown (zo Gs p) w w':=(Grown.of_grownBy hgr).mono λ c hc=>hb c hc
 exact next _ ((h.mut hp hgr' hk hq).addO hdn ⟨bs,rfl,rfl,hown'⟩ hb)
theorem opd_mapv{s bs:Nat}{m:List Str}(h:look s=some (dmap P k e (some bs) m)):OpdR M look (.tmp s) (dis (.map (some bs))):=λ _ _ hl=>by
 obtain⟨bb,e1,hv,_⟩:=hl s _ h;injection e1 with e1;subst e1;exact hv
theorem one_map{b:Option Nat}{w:World}{u:Value}(h:(dis (.map b)).rd M w u):u.cells.toList=[u]/\u.oneCell'=true:=by
 have h':u=.map b:=h;subst h';exact⟨rfl,rfl⟩
theorem one_vm{c:Vc}{w:World}{u:Value}(h:(dvm c).rd M w u):u.cells.toList=[u]/\u.oneCell'=true:=by
 obtain⟨vt,vp,h',_⟩:=h;subst h';exact⟨rfl,rfl⟩
theorem Sx.toG{s bs:Nat}{m:List Str}(h:Sx F N M0 M Gs L O a w)(p:Nat)(hs:(L++envO O).lookup s=some (dmap P k e (some bs) m))(hn:L.lookup s=none)(hb:∀ b,oneB (some bs) b->zo Gs p b)(qs:List Nat)(hq:selR L O qs p=some O2):Sx F N M0 M Gs L ((s,p,dmg P k e bs m)::O2) a w:=by
 obtain⟨bb,e1,hv,ho⟩:=h.st.has s _ hs;injection e1 with e1;subst e1;exact(h.drop hq).addO hn ⟨_,rfl,rfl,ho⟩ hb
theorem Sx.alcC{z:Value}(h:Sx F N M0 M Gs L O a w)(p:Nat)(hh:opH o N=some d)(ho:o.op=.alloc t)(hzc:xU P t=some [z])(hp:p<Gs.length)
  (ks:List Nat) (hk:selP ks L=some L2) (qs:List Nat) (hq:selR L O qs p=some O2) (hdn:L2.lookup d=none)
  (next:∀ b M' a' w',Sx F N M0 M' (Gs.set p (oneB (some b))) L2 ((d,p,dco b (dis z))::O2) a' w'->wpList P ops Q rest a' w'):wpList P ops Q (o::rest) a w:=by
 obtain⟨hgd,hd,hN⟩:=zY hh;obtain⟨i,z',hi,hzz,hzs⟩:∃ i z',P.info? t=some i/\i.zero=some z'/\z'.cells.toList=[z]:=by
  unfold xU at hzc;cases hi:P.info? t with
  | none=>rw[hi] at hzc;cases hzc
  |
   some i=>
   rw[hi] at hzc;cases hzz:i.zero with
   | none=>simp[hzz] at hzc
   | some z=>exact⟨i,z,rfl,hzz,by simpa[hzz] using hzc⟩
 have he:Ext0 w (w.alloc (.cells z'.cells t)):=Ext0.alloc _ _;refine wpList_plain hgd λ K hK=>OpOut.wp (OpOut.of_value (v:=.pointer (some ⟨w.heap.size,0,none⟩)) (w':=w.alloc (.cells z'.cells t)) ?_ ?_)
 ·
  unfold execOp;rw[ho];simp[Instr.alloc,zeroValue,typeInfo,hi,hzz,newVar,newRow,newObj,Xx]
 ·
  rw[hd];have h1:=h.eff (G':=oneB (some w.heap.size)) hp ((Grown.of_ext he).mono λ b hb=>hb.elim) (λ b (hb:some w.heap.size=some b)=>by injection hb with hb;subst hb;exact⟨.inr (Nat.le_refl _),by simp⟩) hk hq;refine hK _ _ (next w.heap.size _ _ _ (h1.putO hN hdn ?_ λ b hb=>by rw[zm hp];exact hb));exact⟨rfl,by simp,z,_,_,heap_alloc_new w _,hzs,rfl,rfl⟩
theorem Sx.stC{sc b:Nat}{v:Operand}{x y:Dt}(h:Sx F N M0 M Gs L O a w)(p:Nat)(hgd:o.guard=none)(hd:o.dst=none)(ho:o.op=.store t (.tmp sc) v)(ht:tyB P t false 1=true)(hs:(L++envO O).lookup sc=some (dco b x))(hy:OpdR M (λ s=>(L++envO O).lookup s) v y)(hn:y.nb=true)(h1:∀ {w:World} {u:Value},y.rd M w u->u.cells.toList=[u]/\u.oneCell'=true)(hb:∀ k,oneB (some b) k->zo Gs p k)(hp:p<Gs.length)
  (ks:List Nat) (hk:selP ks L=some L2) (qs:List Nat) (hq:selR L O qs p=some O2) (hdn:L2.lookup sc=none)
  (next:∀ w',Sx F N M0 M Gs L2 ((sc,p,dco b y)::O2) a w'->wpList P ops Q rest a w'):wpList P ops Q (o::rest) a w:=by
 obtain⟨hv,hl,u,C,e,hc,hC,hu,hn0⟩:=h.st.has sc _ hs;have hy':=hy w a λ s y hs=>h.st.has s y hs
 obtain⟨c1,c2⟩:=h1 hy';have hob:=hb b rfl;have hMb:=(h.ob.at_ p b hob).2.1;have hsz:C.size=1:=by have:=congrArg List.length hC;simpa using this
 have hrun:=jf (P:=P) (w:=w) (t:=t) (off:=0) (v:=a.eval v) (cs:=[a.eval v]) ht c1 hc (by simp[hsz]) (λ x hx=>by rw[List.mem_singleton.1 hx];exact c2);have hgr:w.grownBy (w.setRow b (C.toList.take 0++[a.eval v]++C.toList.drop (0+[a.eval v].length)).toArray) (some b):=jz;have hgr':=Grown.of_grownBy hgr;refine wpList_plain hgd λ K hK=>OpOut.wp (OpOut.of_skip (w':=w.setRow b (C.toList.take 0++[a.eval v]++C.toList.drop (0+[a.eval v].length)).toArray) ?_ ?_)
 ·
  unfold execOp;rw[ho];have hpv':a.eval (.tmp sc)=.pointer (some ⟨b,0,none⟩):=hv;simp only[Instr.storeAt,Instr.sureAddr,hpv',Sem.run_bind,Sem.run_pure,Result.andThen_ok,hrun]
 ·
  rw[hd];have k1:=h.mut hp (hgr'.mono λ i (hi:some b=some i)=>by injection hi with hi;rw[← hi];exact hob) hk hq;have hw':=setRow_heap w b C (C.toList.take 0++[a.eval v]++C.toList.drop (0+[a.eval v].length)).toArray e (0,0) hc;exact hK _ _ (next _ (k1.addO hdn ⟨hv,wA hw',a.eval v,_,e,hw',by rw[hC];rfl,y.stable hy' (λ k hk hm=>hgr'.block k hk λ(i:some b=some k)=>by
   injection i with i;subst i;exact hm.elim (λ hm=>hm hMb) λ ho=>y.nob hn _ ho),hn⟩ hb))
theorem Sx.frzC{sc b:Nat}{x:Dt}(h:Sx F N M0 M Gs L O a w)(p:Nat)(hs:(L++envO O).lookup sc=some (dco b x))(hg:Gs[p]?=some (oneB (some b)))
  (ks:List Nat) (hk:selP ks L=some L2) (qs:List Nat) (hq:selR L O qs p=some O2):Sx F N M0 (λ b=>M b/\¬ zo Gs p b) (Gs.set p (oneB none)) ((sc,dcf b x)::L2) O2 a w:=by
 have hsub:∀ k,k<w.heap.size->(M k/\¬ zo Gs p k)->M k:=λ k _ hk=>hk.1
 refine⟨⟨h.st.fr,h.st.size,h.st.defers,λ b hb=>h.st.mok b hb.1,λ s' y hx=>?_⟩,⟨λ b hb=>⟨h.ob.sub b hb,λ ho=>(h.ob.at_ p b ho).2.2 hb⟩,λ q b hb=>?_,λ q r b hne h1 h2=>?_⟩,λ s' y hx=>?_,AllOw.of λ q hq' b hb=>?_⟩
 ·
  simp only[List.cons_append,List.lookup_cons] at hx;by_cases he:s'=sc
  ·
   subst he;simp only[beq_self_eq_true,Option.some.injEq] at hx;subst hx;obtain⟨hv,hl,u,C,e,hc,hC,hu,hn⟩:=h.st.has s' _ hs;refine⟨hv,λ hm=>hm.2 ((yg hg b).2 rfl),hl,u,?_,x.weak hu hsub,hn⟩;have:C[0]?=some u:=by rw[← Array.getElem?_toList,hC];rfl
   simp[World.cell?,hc,this]
  ·
   have hb:(s' == sc)=false:=by simpa using he
   simp only[hb] at hx;rcases wD hx with h1 | ⟨_,h1⟩
   ·
    exact y.weak (h.st.has s' y (xK ((qo hk).spec s' y h1).1)) hsub
   ·
    obtain⟨q,hq'⟩:=We h1;exact y.weak (h.st.has s' y (qq hq _ hq').2.2) hsub
 ·
  by_cases hq':p=q
  ·
   subst hq';rw[zm (qe hg)] at hb;cases hb
  ·
   rw[zq hq'] at hb;obtain⟨h1,h2,h3⟩:=h.ob.at_ q b hb;exact⟨h1,⟨h2,λ ho=>h.ob.apart p q b hq' ho hb⟩,h3⟩
 ·
  by_cases hq':p=q
  ·
   subst hq';rw[zm (qe hg)] at h1;cases h1
  ·
   rw[zq hq'] at h1;by_cases hr:p=r
   ·
    subst hr;rw[zm (qe hg)] at h2;cases h2
   ·
    rw[zq hr] at h2;exact h.ob.apart q r b hne h1 h2
 ·
  simp only[List.lookup_cons] at hx;split at hx
  ·
   injection hx with hx;subst hx;rfl
  ·
   exact((qo hk).spec s' y hx).2
 ·
  obtain⟨h2,h3,_⟩:=qq hq _ hq';rw[zq (Ne.symm h3)];exact h.ow.get _ h2 b hb
theorem fnVis{f:FuncId}{cd:Code}{tr:Tree}{path:List Int}{s:Str}{x x':List Str×List Str}(p p2 n:Nat)(hf:P.funcs[f]?=some fn)(hb:fn.body=some cd)(hn:6<=fn.ntmps)
  (h:∀ (c:Vc) (M0 G:Nat->Prop) (w:World) (a:Act),c.f=f->c.t=tr->c.path=path->Sx (Frm.chg w (λ b=>oneB (some c.bs) b\/G b)) fn.ntmps M0 (λ b=>(M0 b\/oneB (some c.bs) b)\/G b) (((List.replicate n (oneB none)).set p (oneB (some c.bs))).set p2 G) [(0,dt s),(1,c.cm),(2,c.cv),(3,dptr tr),(4,dptr path)] [(fn.ntmps,p,dmg P k e c.bs x.1),(5,p2,dnm (Ow.row es Ow.frz).box G ⟨x.2⟩ (ptrB c.bo) [])] a w->cd.wp P (bodyPost P fn (RetV P k e es M0 G c.bs c.bo w x')) a w) (hp:p<n) (hp2:p2<n) (hne:p≠p2):FnVis P k e es f tr path s x x':=by
 intro c M0 G w vs vt vp hcf hct hcp hm hn1 hn2 hn3 hmap hout hs hcm hc ht hpa;have hown:∀ q b,zo (((List.replicate n (oneB none)).set p (oneB (some c.bs))).set p2 G) q b ↔ (q=p/\c.bs=b)\/(q=p2/\G b):=λ q b=>by
  by_cases h2:p2=q
  ·
   subst h2;rw[zm (by simpa using hp2)];exact⟨λ h=>.inr ⟨rfl,h⟩,λ h=>h.elim (λ h=>absurd h.1.symm hne) λ h=>h.2⟩
  ·
   rw[zq h2];by_cases h1:p=q
   ·
    subst h1;rw[zm (by simpa using hp)];exact⟨λ h=>.inl ⟨rfl,by injection h⟩,λ h=>h.elim (λ h=>by rw[h.2];rfl) λ h=>absurd h.1 hne⟩
   ·
    rw[zq h1];exact⟨λ h=>(JR h).elim,λ h=>h.elim (λ h=>absurd h.1.symm h1) λ h=>absurd h.1.symm h2⟩
 refine calls_of_wp hf hb (h c M0 G w _ hcf hct hcp ⟨⟨Grown.refl _ _,by simp;omega,rfl,hm,λ sl y hy=>?_⟩,⟨λ b hb=>.inl (.inl hb),λ q b hb=>?_,λ q r b hne h1 h2=>?_⟩,Wg (by rfl),⟨λ b hb=>(hown p b).2 (.inl ⟨rfl,by injection hb⟩),λ b hb=>(hown p2 b).2 (.inr ⟨rfl,hb⟩),trivial⟩⟩)
 ·
  have hat:∀ (i:Nat) (v:Value),(#[vs,ptrB c.bm,ptrB c.bv,vt,vp,ptrB c.bo]:Array Value)[i]?=some v->Act.at { tmps:=#[vs,ptrB c.bm,ptrB c.bv,vt,vp,ptrB c.bo]++Array.replicate (fn.ntmps - (#[vs,ptrB c.bm,ptrB c.bv,vt,vp,ptrB c.bo]:Array Value).size) undef,defers:=[] } i=v:=λ i v hi=>by
   have hlt:=(Array.getElem?_eq_some_iff.1 hi).1;simp only[Act.at,Array.getD_eq_getD_getElem?];rw[Array.getElem?_append_left hlt,hi];rfl
  have hmem:=lookup_mem hy;simp only[envO,List.cons_append,List.nil_append,List.mem_cons,Prod.mk.injEq,List.not_mem_nil,or_false] at hmem;rcases hmem with⟨rfl,rfl⟩ | ⟨rfl,rfl⟩ | ⟨rfl,rfl⟩ | ⟨rfl,rfl⟩ | ⟨rfl,rfl⟩ | ⟨rfl,rfl⟩ | ⟨rfl,rfl⟩
  ·
   rw[hat 0 vs rfl];exact hs
  ·
   rw[hat 1 _ rfl];exact hcm
  ·
   rw[hat 2 _ rfl];exact hc
  ·
   rw[hat 3 _ rfl];exact ht
  ·
   rw[hat 4 _ rfl];exact hpa
  ·
   exact hmap
  ·
   rw[hat 5 _ rfl];obtain⟨cs,h1,h2⟩:=hout;exact⟨rfl,⟨cs,h1,h2⟩,λ q hq _=>by cases hq⟩
 ·
  rcases(hown q b).1 hb with⟨_,rfl⟩ | ⟨_,hb2⟩
  ·
   exact⟨.inl (.inl rfl),.inl (.inr rfl),hn1⟩
  ·
   exact⟨.inl (.inr hb2),.inr hb2,hn3 b hb2⟩
 ·
  rcases(hown q b).1 h1 with⟨e1,e2⟩ | ⟨e1,e2⟩ <;> rcases(hown r b).1 h2 with⟨e3,e4⟩ | ⟨e3,e4⟩
  ·
   exact hne (e1.trans e3.symm)
  ·
   exact hn2 (e2 ▸ e4)
  ·
   exact hn2 (e4 ▸ e2)
  ·
   exact hne (e1.trans e3.symm)
theorem FnVis.cast{f f':FuncId}{tr tr':Tree}{path path':List Int}{s:Str}{x x':List Str×List Str}(h:FnVis P k e es f tr path s x x')(h1:f'=f)(h2:tr'=tr)(h3:path'=path):FnVis P k e es f' tr' path' s x x':=by rw[h1,h2,h3];exact h
theorem fnB_as{f f':FuncId}(h1:f'=f)(h:fnB P f=true):fnB P f'=true:=h1 ▸ h
theorem Sx.rsV{c:Vc}{s0 s1:Nat}{G G':Nat->Prop}{m:List Str}{y:Bx (List Str)}{cf:CF}{xr:List Str×List Str}(h:Sx (Frm.chg w0 (λ b=>oneB (some c.bs) b\/G b)) N M0 M Gs L O a w)(hr:fn.results=#[])(h0:(L++envO O).lookup s0=some (dmg P k e c.bs m))(h1:(L++envO O).lookup s1=some (dnm (Ow.row es Ow.frz).box G' y (ptrB c.bo) cf))(hg0:∀ b,oneB (some c.bs) b->zo Gs p b)(hg1:∀ b,G' b->zo Gs p2 b)(hne:p2≠p)(hm:some (m,y.x)=some xr):
  bodyPost P fn (RetV P k e es M0 G c.bs c.bo w0 xr) .ret a w/\bodyPost P fn (RetV P k e es M0 G c.bs c.bo w0 xr) .normal a w:=by
 injection hm with hm;subst hm;have hown:=h.st.has s0 _ h0;obtain⟨k1,⟨cs,k2,k3⟩,_⟩:=h.st.has s1 _ h1;have hM:∀ k,k<w.heap.size->(M0 k\/oneB (some c.bs) k)\/G' k->M k:=λ k _ hk=>hk.elim (λ hk=>hk.elim (h.ob.sub k) λ hk=>(h.ob.at_ p k (hg0 k hk)).2.1) λ hk=>(h.ob.at_ p2 k (hg1 k hk)).2.1
 have key:bodyPost P fn (RetV P k e es M0 G c.bs c.bo w0 (m,y.x)) .ret a w:=⟨h.st.defers,_,results_none hr a.tmps P w,_,G',rfl,h.st.fr,λ b hb=>by
  have hnb:¬ oneB (some c.bs) b:=λ e=>h.ob.apart p2 p b hne (hg1 b hb) (hg0 b e)
  rcases(h.ob.at_ p2 b (hg1 b hb)).1 with(h2 | h2) | h2
  ·
   exact(hnb h2).elim
  ·
   exact .inl h2
  ·
   exact .inr h2,λ b hb=>h.st.mok b (h.ob.at_ p2 b (hg1 b hb)).2.1,hown,⟨cs,(Ow.row es Ow.frz).box.weak k2 hM,k3⟩⟩
 exact⟨key,key⟩
theorem Sx.cV{c:Vc}{sf sm so:Nat}{q:Operand}{ts:Array TypeId}{G:Nat->Prop}{m:List Str}{y:Bx (List Str)}{cf:CF}{s:Str}{x':List Str×List Str}(h:Sx F N M0 M Gs L O a w)(p p2:Nat)(hh:opH o N=some d)
  (ho:o.op=.call { callee:=.value (.tmp sf),args:=#[q],argTypes:=ts }) (hf:fnB P c.f=true) (hsf:(L++envO O).lookup sf=some (dvf c)) (hx:OpdR M (λ s=>(L++envO O).lookup s) q (dt s))
  (h0:(L++envO O).lookup sm=some (dmg P k e c.bs m)) (h1:(L++envO O).lookup so=some (dnm (Ow.row es Ow.frz).box G y (ptrB c.bo) cf)) (hg0:∀ b,zo Gs p b ↔ oneB (some c.bs) b) (hg1:∀ b,zo Gs p2 b ↔ G b) (hp:p<Gs.length) (hp2:p2<Gs.length) (hne:p≠p2)
  (hfn:FnVis P k e es c.f c.t c.path s (m,y.x) x')
  (ks:List Nat) (hk:selP ks L=some L2) (qs:List Nat) (hq:selR L O qs p=some O2) (hq3:selR L O2 qs p2=some O2) (hq2:O2.all (λ q=>q.2.1 != p2&&q.2.1 != p)=true) (hm:L2.lookup sm=none) (ho':L2.lookup so=none)
  (next:∀ G' M' a' w',Sx F N M0 M' ((Gs.set p2 G').set p (oneB (some c.bs))) ((d,dtrue)::L2) ((sm,p,dmg P k e c.bs x'.1)::(so,p2,dnm (Ow.row es Ow.frz).box G' ⟨x'.2⟩ (ptrB c.bo) [])::O2) a' w'->wpList P ops Q rest a' w'):wpList P ops Q (o::rest) a w:=by
 obtain⟨hgd,hd,hN⟩:=zY hh;obtain⟨⟨vt,vp,hfv,hrt,hrp,hcm⟩,hcell⟩:=h.st.has sf _ hsf;have hown:=h.st.has sm _ h0;obtain⟨k1,⟨cs,k2,k3⟩,_⟩:=h.st.has so _ h1;have h2:(dow (Ow.row es Ow.frz).box G y).rd M w (ptrB c.bo):=⟨cs,k2,k3⟩;refine wpList_plain hgd λ K hK=>OpOut.wp (OpOut.of_enter (f:=c.f) (args:=#[a.eval q,ptrB c.bm,ptrB c.bv,vt,vp,ptrB c.bo]) (w':=w) ?_ ?_)
 ·
  unfold execOp;rw[ho];have e:a.eval (.tmp sf)=c.val vt vp:=hfv;simp[resolve,e,Vc.val,Deferred.ofValue,invoke,wN hf]
 ·
  have hbs:∀ b,oneB (some c.bs) b->M b:=λ b hb=>(h.ob.at_ p b ((hg0 b).2 hb)).2.1
  have hGo:∀ b,G b->M b:=λ b hb=>(h.ob.at_ p2 b ((hg1 b).2 hb)).2.1
  have hnG:¬ G c.bs:=λ e=>h.ob.apart p p2 c.bs hne ((hg0 _).2 rfl) ((hg1 _).2 e)
  have hM:∀ k,k<w.heap.size->(((M k/\¬ oneB (some c.bs) k)/\¬ G k)\/oneB (some c.bs) k)\/G k->M k:=λ k _ hk=>hk.elim (λ hk=>hk.elim (λ hk=>hk.1.1) (hbs k)) (hGo k)
  have hlt:∀ b,(((M b/\¬ oneB (some c.bs) b)/\¬ G b)\/oneB (some c.bs) b)\/G b->b<w.heap.size:=λ b hb=>h.st.mok b (hb.elim (λ hb=>hb.elim (λ hb=>hb.1.1) (hbs b)) (hGo b))
  refine(hfn c (λ b=>(M b/\¬ oneB (some c.bs) b)/\¬ G b) G w _ vt vp rfl rfl rfl hlt (λ e=>e.1.2 rfl) hnG (λ b hb e=>e.2 hb) ((dmg P k e c.bs m).weak hown hM) ((dow (Ow.row es Ow.frz).box G y).weak h2 hM) ((dt s).weak (hx w a λ s y hs=>h.st.has s y hs) hM) (c.cm.weak hcm hM) (c.cv.weak hcell hM) ((dptr c.t).weak hrt hM) ((dptr c.path).weak hrp hM)).mono λ en w' ⟨u,G',he,hgr,i1,i2,hm',ho2⟩=>⟨u,he,?_⟩
  have j1:∀ b,zo (YZ Gs p2 p) p2 b ↔ (G b\/oneB (some c.bs) b):=λ b=>by
   rw[Y8 hp2 hp (Ne.symm hne)];simp[hg0,hg1]
  have q1:=(h.drop hq).mrg (p:=p2) (p2:=p) hp2 hp (Ne.symm hne) (by
   rw[List.all_eq_true] at hq2 ⊢;intro x hx;have:=hq2 x hx;rw[Bool.and_eq_true] at this;exact this.2)
  have q2:=q1.eff (G':=λ b=>oneB (some c.bs) b\/G' b) (p:=p2) (by unfold YZ;simpa using hp2) (hgr.mono λ b hb=>(j1 b).2 hb.symm) (λ b hb=>by
   rcases hb with hb | hb
   ·
    exact⟨.inl ((j1 b).2 (.inr hb)),Nat.lt_of_lt_of_le (h.st.mok b (hbs b hb)) hgr.size⟩
   ·
    exact⟨(i1 b hb).imp (λ hb=>(j1 b).2 (.inl hb)) id,i2 b hb⟩) hk hq3
  have hlen:p2<(YZ Gs p2 p).length:=by unfold YZ;simpa using hp2
  have q3:=q2.spl (p:=p2) (p2:=p) (A:=G') (B:=oneB (some c.bs)) (by simpa using hlen) (by unfold YZ;simpa using hp) (Ne.symm hne) (λ b hb=>by rw[zm hlen];exact .inr hb) (λ b hb=>by rw[zm hlen];exact .inl hb) (λ b hb e=>by
   have e':c.bs=b:=by injection e
   subst e';exact(i1 _ hb).elim hnG λ h2=>by have:=h.st.mok _ (hbs _ rfl);omega) hq2
  have eg:(((YZ Gs p2 p).set p2 (λ b=>oneB (some c.bs) b\/G' b)).set p2 G').set p (oneB (some c.bs))=(Gs.set p2 G').set p (oneB (some c.bs)):=by
   unfold YZ;rw[List.set_set,List.set_comm _ _ (Ne.symm hne),List.set_set,List.set_comm _ _ hne,List.set_set,List.set_comm _ _ (Ne.symm hne)]
  rw[eg] at q3;have hM':∀ k,k<w'.heap.size->(M k/\¬ zo (YZ Gs p2 p) p2 k)\/(oneB (some c.bs) k\/G' k)->(((M k/\¬ oneB (some c.bs) k)/\¬ G k)\/oneB (some c.bs) k)\/G' k:=λ k _ hk=>by
   rcases hk with⟨hk,hn⟩ | hk | hk
   ·
    exact .inl (.inl ⟨⟨hk,λ e=>hn ((j1 k).2 (.inr e))⟩,λ e=>hn ((j1 k).2 (.inl e))⟩)
   ·
    exact .inl (.inr hk)
   ·
    exact .inr hk
  obtain⟨cs',o1,o2⟩:=(dow (Ow.row es Ow.frz).box G' ⟨x'.2⟩).weak ho2 hM';rw[hd];have q4:=q3.addO (d:=so) (p:=p2) (x:=dnm (Ow.row es Ow.frz).box G' ⟨x'.2⟩ (ptrB c.bo) []) ho' ⟨k1,⟨cs',o1,o2⟩,λ q hq _=>by cases hq⟩ (λ b hb=>by rw[zq hne,zm hp2];exact hb);have q5:=q4.addO (d:=sm) (p:=p) (x:=dmg P k e c.bs x'.1) hm ((dmg P k e c.bs x'.1).weak hm' hM') λ b hb=>by rw[zm (by simpa using hp)];exact hb
  exact hK _ _ (next G' _ _ w' (q5.putL hN (x:=dtrue) (v:=u) trivial rfl))
end
open Go.RowKit
section
variable{P:Program}{F:Frm}{N:Nat}{M0 M:Nat->Prop}{Gs:List (Nat->Prop)}{L L2:Env}{O O2:List (Nat×Nat×Dt)}{a:Act}{w w0:World}{Q:Exit->Act->World->Prop}{ops:Array Oper}{o:Oper}{listed:Array Bool}{f i d:Nat}{S:World->Prop}
variable{α:Type}[Rep α]
end
open Go.RowKit
section
variable{α β γ:Type}[Rep α][Rep β][Rep γ]
def Rd.t2(y:Dt)(o:Ow α)(x:α):Rd where
 rd M G w v:=∃ u1 u2,v=.tuple #[u1,u2]/\(y.rd M w u1/\y.nb=true)/\(dow o G x).rd M w u2
 stable:=λ⟨u1,u2,hv,h2,h3⟩ e=>⟨u1,u2,hv,⟨y.stable h2.1 (λ k hk hm=>e k hk (hm.imp id λ ho=>(y.nob h2.2 k ho).elim)),h2.2⟩,(dow o _ x).stable h3 e⟩
 weak:=λ⟨u1,u2,hv,h2,h3⟩ e=>⟨u1,u2,hv,⟨y.weak h2.1 e,h2.2⟩,(dow o _ x).weak h3 e⟩
 more:=λ⟨u1,u2,hv,h2,⟨cs,h3,h4⟩⟩ e=>⟨u1,u2,hv,h2,⟨cs,o.more h3 e,h4⟩⟩
variable{P:Program}{ops:Array Oper}{rest:List Oper}{fn:Func}{Q:Exit->Act->World->Prop}{a:Act}{w w0:World}{o:Oper}{F:Frm}{N d:Nat}{M0 M:Nat->Prop}{Gs:List (Nat->Prop)}{L L2:Env}{O O2:List (Nat×Nat×Dt)}{ks qs:List Nat}{look:Nat->Option Dt}
theorem Sx.rn2{ow:Ow β}{t u:Nat}{G:Nat->Prop}{y:α}{x:β}{r:α×β}(h:Sx (Frm.of w0) N M0 M Gs L O a w)(p:Nat)(hr:fn.results=#[.tmp t,.tmp u])(hl:(L++envO O).lookup t=some (dt y))(hl2:(L++envO O).lookup u=some (dow ow G x))(hG:∀ b,G b->zo Gs p b)(hm:some (y,x)=some r):
  bodyPost P fn (RetN M0 w0 (.t2 (dt r.1) ow r.2)) .ret a w:=by
 injection hm with hm;subst hm;have hM:∀ k,k<w.heap.size->M0 k\/G k->M k:=λ k _ hk=>hk.elim (h.ob.sub k) λ hk=>(h.ob.at_ p k (hG k hk)).2.1
 exact⟨h.st.defers,_,results_tmp2 hr a.tmps P w,_,G,rfl,h.st.fr,λ b hb=>⟨(h.ob.at_ p b (hG b hb)).1,h.st.mok b (h.ob.at_ p b (hG b hb)).2.1⟩,_,_,rfl,⟨(dt y).weak (h.st.has t _ hl) hM,rfl⟩,(dow ow G x).weak (h.st.has u _ hl2) hM⟩
theorem FnN.fn2{f:FuncId}{xs:List Dt}{ow:Ow α}{y:Dt}{x:α}(h:FnN P f xs (.t2 y ow x)):Fn P f xs (dtup [y,dt x]):=λ M w vs hm hr=>(h M w vs hm hr).mono λ en w' ⟨v,G,he,hex,hG,u1,u2,hv,h1,⟨cs,h2,h3⟩⟩=>by
 have hw:∀ k,k<w'.heap.size->M k->(M k\/G k)/\¬ G k:=λ k _ hk=>⟨.inl hk,λ hg=>by have:=(hG k hg).1;have:=hm k hk;omega⟩
 exact⟨v,he,hex,[u1,u2],hv,.cons (y.weak h1.1 λ k hk hk2=>(hw k hk hk2).1) (.cons ⟨cs,Rep.weak (ow.toR h2) hw,h3⟩ .nil),λ q hq=>by
  simp only[List.mem_cons,List.not_mem_nil,or_false] at hq;rcases hq with rfl | rfl
  ·
   exact h1.2
  ·
   rfl⟩
end
open Go.RowKit
section
variable{P:Program}{fn:Func}{F:Frm}{N:Nat}{M0 M:Nat->Prop}{Gs:List (Nat->Prop)}{L:Env}{O:List (Nat×Nat×Dt)}{a:Act}{w w0:World}
variable{α:Type}[Rep α]
end
open Go.RowKit
section
variable{α β γ:Type}[Rep α][Rep β][Rep γ]
def Rd.t2o(o:Ow α)(x:α)(y:Dt):Rd where
 rd M G w v:=∃ u1 u2,v=.tuple #[u1,u2]/\(dow o G x).rd M w u1/\y.rd M w u2/\y.nb=true
 stable:=λ⟨u1,u2,hv,h3,h2⟩ e=>⟨u1,u2,hv,(dow o _ x).stable h3 e,⟨y.stable h2.1 (λ k hk hm=>e k hk (hm.imp id λ ho=>(y.nob h2.2 k ho).elim)),h2.2⟩⟩
 weak:=λ⟨u1,u2,hv,h3,h2⟩ e=>⟨u1,u2,hv,(dow o _ x).weak h3 e,⟨y.weak h2.1 e,h2.2⟩⟩
 more:=λ⟨u1,u2,hv,⟨cs,h3,h4⟩,h2⟩ e=>⟨u1,u2,hv,⟨cs,o.more h3 e,h4⟩,h2⟩
variable{P:Program}{ops:Array Oper}{rest:List Oper}{fn:Func}{Q:Exit->Act->World->Prop}{a:Act}{w w0:World}{o:Oper}{F:Frm}{N d:Nat}{M0 M:Nat->Prop}{Gs:List (Nat->Prop)}{L L2:Env}{O O2:List (Nat×Nat×Dt)}{ks qs:List Nat}{look:Nat->Option Dt}
theorem Sx.rn2o{ow:Ow β}{t u:Nat}{G:Nat->Prop}{y:α}{x:β}{r:β×α}(h:Sx (Frm.of w0) N M0 M Gs L O a w)(p:Nat)(hr:fn.results=#[.tmp u,.tmp t])(hl:(L++envO O).lookup t=some (dt y))(hl2:(L++envO O).lookup u=some (dow ow G x))(hG:∀ b,G b->zo Gs p b)(hm:some (x,y)=some r):
  bodyPost P fn (RetN M0 w0 (.t2o ow r.1 (dt r.2))) .ret a w:=by
 injection hm with hm;subst hm;have hM:∀ k,k<w.heap.size->M0 k\/G k->M k:=λ k _ hk=>hk.elim (h.ob.sub k) λ hk=>(h.ob.at_ p k (hG k hk)).2.1
 exact⟨h.st.defers,_,results_tmp2 hr a.tmps P w,_,G,rfl,h.st.fr,λ b hb=>⟨(h.ob.at_ p b (hG b hb)).1,h.st.mok b (h.ob.at_ p b (hG b hb)).2.1⟩,_,_,rfl,(dow ow G x).weak (h.st.has u _ hl2) hM,(dt y).weak (h.st.has t _ hl) hM,rfl⟩
theorem FnN.fn2o{f:FuncId}{xs:List Dt}{ow:Ow α}{y:Dt}{x:α}(h:FnN P f xs (.t2o ow x y)):Fn P f xs (dtup [dt x,y]):=λ M w vs hm hr=>(h M w vs hm hr).mono λ en w' ⟨v,G,he,hex,hG,u1,u2,hv,⟨cs,h2,h3⟩,h1⟩=>by
 have hw:∀ k,k<w'.heap.size->M k->(M k\/G k)/\¬ G k:=λ k _ hk=>⟨.inl hk,λ hg=>by have:=(hG k hg).1;have:=hm k hk;omega⟩
 exact⟨v,he,hex,[u1,u2],hv,.cons ⟨cs,Rep.weak (ow.toR h2) hw,h3⟩ (.cons (y.weak h1.1 λ k hk hk2=>(hw k hk hk2).1) .nil),λ q hq=>by
  simp only[List.mem_cons,List.not_mem_nil,or_false] at hq;rcases hq with rfl | rfl
  ·
   rfl
  ·
   exact h1.2⟩
end
open Go.RowKit
attribute [local irreducible] OpRel OpdR
class FldO (P:Program) (t:TypeId) (f:Nat) (fo:outParam Nat):Prop where
 h:fldB P t f fo=true
instance:FldC Machine 0 Tree (λ x=>x.t) 0:=⟨Machine.fld0⟩
instance:FldC Machine 1 (List Int) (λ x=>x.path) 1:=⟨Machine.fld1⟩
instance:FldC Machine 4 (List (Bx GMod)) (λ x=>x.modules) 4:=⟨Machine.fld4⟩
instance:FldC Machine 5 (List Int) (λ x=>x.out) 5:=⟨Machine.fld5⟩
instance:FldC Machine 6 (List GEvent) (λ x=>x.log) 6:=⟨Machine.fld6⟩
instance:FldC Machine 7 (List Str) (λ x=>x.part) 7:=⟨Machine.fld7⟩
instance:FldC Machine 8 Int (λ x=>x.left) 8:=⟨Machine.fld8⟩
section
variable{P:Program}{fn:Func}{F:Frm}{N:Nat}{M0 M M':Nat->Prop}{Gs:List (Nat->Prop)}{L L' L2:Env}{O O2:List (Nat×Nat×Dt)}{a:Act}{w w' w0:World}{Q:Exit->Act->World->Prop}{ops:Array Oper}{l rest:List Oper}{o:Oper}{d p:Nat}{x:Dt}
theorem xFaC{look:Nat->Option Dt}{t:TypeId}{q:Operand}{f fo b off:Nat}(ho:o.op=.fieldAddr t q f)(hp:OpdR M look q (dis (.pointer (some ⟨b,off,none⟩))))[c:FldO P t f fo]{z:Dt}(e:z=dis (.pointer (some ⟨b,off+fo,none⟩)):=by rfl):OpRel P M look o z:=e ▸ xFa ho c.h hp
theorem zbe{look:Nat->Option Dt}{α β:Type}[Rep α][Rep β]{t:TypeId}{p:Operand}{f off ob:Nat}{g:Option Nat}{x:α}{get:α->β}(ho:o.op=.fieldAddr t p f)(hp:OpdR M look p (dbox g ob x))[c:FldC α f β get off](ht:fldB P t f off=true){z:Dt}(e:z=dbox g (ob+off) (get x):=by rfl):OpRel P M look o z:=e ▸ xv c.h ho ht hp
theorem op_lit1{look:Nat->Option Dt}{α:Type}[Rep α]{t:TypeId}{q:Operand}{y:α}(ho:o.op=.buildSlice t 1 #[(0,q)])(hq:OpdR M look q (dt y))(ht':slB P t (Rep.size α)=true)(hz':zlB P t=true)(hs:Rep.size α<=16777216):OpRel P M look o (dt [y]):=yq (opds:=[q]) ho ht' hz' rfl rfl (by simpa using hs) (.cons hq .nil)
theorem opB{look:Nat->Option Dt}(h:OpRel P M look o x:=by
  first
   | exact oM rfl (zR rfl)
   | exact xNc rfl (tp rfl)
   | exact xFaC rfl (tp rfl)
   | exact xNcP rfl (tp rfl)
   | exact xLc (sb:=0) (.head _) rfl rfl rfl (by kernel_rfl) (tp rfl) rfl
   | exact xLc (sb:=0) (.tail _ (.head _)) rfl rfl rfl (by kernel_rfl) (tp rfl) rfl
   | exact xLc (sb:=0) (.tail _ (.tail _ (.head _))) rfl rfl rfl (by kernel_rfl) (tp rfl) rfl
   | exact zbe rfl (tp rfl) (by kernel_rfl)
   | exact yf rfl (by kernel_rfl) (tp rfl)
   | exact op_lit1 rfl (tp rfl) (by kernel_rfl) (by kernel_rfl) (by decide)):OpRel P M look o x:=h
theorem opGB{look:Nat->Option Dt}(h:OpRel P M look o x:=by
  first
   | exact opGA
   | exact yf rfl (by kernel_rfl) opdB
   | exact zbe rfl opdB (by kernel_rfl)
   | exact xNc rfl opdB
   | exact xNcP rfl opdB
   | exact xFaC rfl opdB
   | exact oM rfl (zR rfl)):OpRel P M look o x:=h
theorem segC{L:Env}(h:Seg P M ops N L l L':=by repeat (first | exact .nil | apply sc rfl opB | apply sc rfl opA | apply sg rfl rfl (λ _=>opGB))):Seg P M ops N L l L':=h
theorem sP{L L1:Env}(n:Nat)(h:Seg P M ops N L (l.take n) L1:=by exact segC)(r:Seg P M ops N L1 (l.drop n) L'):Seg P M ops N L l L':=sp n h r
theorem Sx.sqC(h:Sx F N M0 M Gs L O a w){id:Nat}{c2:Code}(ks:List Nat)(qp:List (Nat×Nat))(hQ:∀ a' w',Sx F N M0 M Gs L2 O2 a' w'->c2.wp P Q a' w')
  (hs:Seg P M ops N (L++envO O) ops.toList L':=by exact segC) (hk:selP ks L'=some L2:=by rfl) (hq:selQ qp L'=some O2:=by rfl) (hw:AllOw Gs O2:=by exact owA):(Code.seq (Code.region id ops false) c2).wp P Q a w:=
 h.sq hs ks hk qp hq hw hQ
theorem Sx.sq3(h:Sx F N M0 M Gs L O a w){id:Nat}{c2:Code}(ks:List Nat)(hQ:∀ a' w',Sx F N M0 M Gs L2 [] a' w'->c2.wp P Q a' w')
  (hs:Seg P M ops N (L++envO O) ops.toList L':=by exact segC) (hk:selP ks L'=some L2:=by rfl):(Code.seq (Code.region id ops false) c2).wp P Q a w:=
 h.sq0 hs ks hk hQ
theorem Sx.segC(h:Sx F N M0 M Gs L O a w)(n:Nat)(ks:List Nat)(qp:List (Nat×Nat))(hQ:∀ a' w',Sx F N M0 M Gs L2 O2 a' w'->wpList P ops Q (l.drop n) a' w')
  (hs:Seg P M ops N (L++envO O) (l.take n) L':=by exact segC) (hk:selP ks L'=some L2:=by rfl) (hq:selQ qp L'=some O2:=by rfl) (hw:AllOw Gs O2:=by exact owA):wpList P ops Q l a w:=
 h.seg n hs ks hk qp hq hw hQ
end
open Go.RowKit
class SetL (Gs:List (Nat->Prop)) (p:Nat) (f:outParam ((Nat->Prop)->List (Nat->Prop))):Prop where
 h:∀ G,Gs.set p G=f G
instance {g:Nat->Prop} {l:List (Nat->Prop)}:SetL (g::l) 0 (λ G=>G::l):=⟨λ _=>rfl⟩
instance {g:Nat->Prop} {l:List (Nat->Prop)} {k:Nat} {f:(Nat->Prop)->List (Nat->Prop)} [s:SetL l k f]:SetL (g::l) (k+1) (λ G=>g::f G):=⟨λ G=>by rw[List.set_cons_succ,s.h]⟩
instance {g:Nat->Prop} {n k:Nat} {f:(Nat->Prop)->List (Nat->Prop)} [s:SetL (g::List.replicate n g) k f]:SetL (List.replicate (n+1) g) k f:=⟨s.h⟩
instance {g:Nat->Prop} {l:List (Nat->Prop)} {q k:Nat} {f f0:(Nat->Prop)->List (Nat->Prop)} [s0:SetL l q f0] [s:SetL (f0 g) k f]:SetL (l.set q g) k f:=⟨λ G=>by rw[s0.h,s.h]⟩
class NormG (Gs:List (Nat->Prop)) (Gs':outParam (List (Nat->Prop))):Prop where
 h:Gs=Gs'
instance:NormG [] []:=⟨rfl⟩
instance {g:Nat->Prop} {l l':List (Nat->Prop)} [n:NormG l l']:NormG (g::l) (g::l'):=⟨by rw[n.h]⟩
instance {g:Nat->Prop}:NormG (List.replicate 0 g) []:=⟨rfl⟩
instance {g:Nat->Prop} {k:Nat} {l:List (Nat->Prop)} [n:NormG (List.replicate k g) l]:NormG (List.replicate (k+1) g) (g::l):=⟨by rw[List.replicate_succ,n.h]⟩
instance {g:Nat->Prop} {l l':List (Nat->Prop)} {p:Nat} {f:(Nat->Prop)->List (Nat->Prop)} [n:NormG l l'] [s:SetL l' p f]:NormG (l.set p g) (f g):=⟨by rw[n.h,s.h]⟩
section
variable{P:Program}{fn:Func}{F:Frm}{N:Nat}{M0 M M':Nat->Prop}{Gs:List (Nat->Prop)}{L L' L2:Env}{O O2:List (Nat×Nat×Dt)}{a:Act}{w w' w0:World}{Q:Exit->Act->World->Prop}{ops:Array Oper}{l rest:List Oper}{o:Oper}{d p:Nat}{x:Dt}
variable{α β:Type}[Rep α][Rep β]
theorem Sx.gn{Gs':List (Nat->Prop)}[n:NormG Gs Gs'](h:Sx F N M0 M Gs L O a w):Sx F N M0 M Gs' L O a w:=by rw[← n.h];exact h
theorem opC{look:Nat->Option Dt}(h:OpRel P M look o x:=by first | exact opB | exact opA):OpRel P M look o x:=h
section
variable{S:List (List (Nat×Option Nat))}{D:List Dt}{i:Nat}{xs x1 x2:List (Nat×Dt)}
theorem regA(h:RegR P M ops N S L D i l xs:=by repeat (first | exact .nil | apply rc rfl rfl opC | apply rg rfl rfl rfl (λ _=>opGB))):RegR P M ops N S L D i l xs:=h
theorem RegR.app{l1 l2:List Oper}(h:RegR P M ops N S L D i l1 x1):∀ {j:Nat},j=i+l1.length->RegR P M ops N S L D j l2 x2->RegR P M ops N S L D i (l1++l2) (x1++x2):=by
 induction h with
 | nil=>intro j hj k;rw[hj] at k;exact k
 | cons hd hN hx h hr ih=>intro j hj k;exact .cons hd hN hx h (ih (by rw[hj,List.length_cons];omega) k)
theorem Sx.drA(h:Sx F N M0 M Gs L O a w){id:Nat}(hm:P.follows .mixedOrders=true)(S:List (List (Nat×Option Nat)))(ks:List Nat)(qp:List (Nat×Nat))(hQ:∀ a' w',Sx F N M0 M Gs L2 O2 a' w'->Q .normal a' w')
  (hs:RegR P M ops N S (L++envO O) D 0 ops.toList xs:=by exact regA) (hc:WA ops ops.size (cloT ops) S=true:=by decide +kernel) (hk:selP ks (xs++(L++envO O))=some L2:=by rfl) (hq:selQ qp (xs++(L++envO O))=some O2:=by rfl) (hw:AllOw Gs O2:=by exact owA):(Code.region id ops true).wp P Q a w:=
 h.dr hm S hc hs ks hk qp hq hw hQ
theorem Sx.drnA(h:Sx F N M0 M Gs L O a w){id:Nat}(hm:P.follows .mixedOrders=true)(k:Nat)(S:List (List (Nat×Option Nat)))(ks:List Nat)(qp:List (Nat×Nat))(hQ:∀ a' w',Sx F N M0 M Gs L2 O2 a' w'->wpList P ops Q (ops.toList.drop k) a' w')
  (hs:RegR P M ops N S (L++envO O) D 0 (ops.toList.take k) xs:=by exact regA) (hc:WA ops k (cloT ops) S=true:=by decide +kernel) (hkn:k<=ops.size:=by decide) (hk:selP ks (xs++(L++envO O))=some L2:=by rfl) (hq:selQ qp (xs++(L++envO O))=some O2:=by rfl) (hw:AllOw Gs O2:=by exact owA):(Code.region id ops true).wp P Q a w:=
 h.drn hm k S hc hkn hs ks hk qp hq hw hQ
end
theorem Sx.cNA{oy:Ow β}{k:Nat}{f:FuncId}{A:Array Operand}{l:List Operand}{ts:Array TypeId}{G:Nat->Prop}{y y':β}{v0:Value}{cf:CF}{yd:Dt}{xr:List Dt}{f2:(Nat->Prop)->List (Nat->Prop)}(h:Sx F N M0 M Gs L O a w)(p sb:Nat)(hfn:FnS P f oy y xr y' (.frz yd))(ks qs:List Nat)
  (next:∀ G'' M' a' w',Sx F N M0 M' (f2 G'') ((d,yd)::L2) ((sb,p,dnm oy G'' y' v0 [])::O2) a' w'->wpList P ops Q rest a' w')
  (hs:(L++envO O).lookup sb=some (dnm oy G y v0 cf):=by rfl) (hG:∀ b,G b->zo Gs p b:=by exact λ _ h=>h) (hh:opH o N=some d:=by rfl)
  (ho:o.op=.call { callee:=.value (.func f),args:=A,argTypes:=ts }:=by rfl) (hA:A.toList=.tmp k::l:=by rfl) (hf:fnB P f=true:=by kernel_rfl) (hk0:(L++envO O).lookup k=some (dis v0):=by rfl) (hp:p<Gs.length:=by simp)
  (hx:ArgsR M (λ s=>(L++envO O).lookup s) l xr:=by exact argsA) (hk:selP ks L=some L2:=by rfl) (hq:selR L O qs p=some O2:=by rfl) (hsn:L2.lookup sb=none:=by rfl) (hne:sb≠d:=by decide) [sl:SetL Gs p f2]:wpList P ops Q (o::rest) a w:=by
 have e:A=(.tmp k::l).toArray:=by rw[← hA]
 subst e;exact h.cSF p (h.bkN hs hG) hh ho hf (Eq.trans (h.st.has k _ hk0) (h.st.has sb _ hs).1.symm) hp hx hfn ks hk qs hq hsn hne λ G'' M' a' w' st=>next G'' M' a' w' (by rw[← sl.h];exact st)
theorem Sx.pkZ{b o:Nat}{cs:List Value}{x:α}(h:Sx F N M0 M Gs L O a w)(s:Nat)(hs:(L++envO O).lookup s=some (dpk b o cs x):=by rfl):CellsAt w b o cs:=h.pkS hs
section
variable{S:World->Prop}{f:Nat}{listed:Array Bool}{o2:Oper}
theorem aK0(h:Q .normal a w)(hr:Region.ready .any ops listed=[]:=by decide +kernel):wpAnyH P .any ops Q S f listed a w:=aH0 hr h
theorem aK1(i:Nat)(h:wpList P ops (QH P ops Q S f (listed.setIfInBounds i true)) [o] a w)(hr:Region.ready .any ops listed=[i]:=by decide +kernel)(ho:ops[i]?=some o:=by rfl):wpAnyH P .any ops Q S (f+1) listed a w:=aH1 hr ho h
theorem aK2(i j:Nat)(h:wpList P ops (QH P ops Q S f (listed.setIfInBounds i true)) [o] a w)(h2:wpList P ops (QH P ops Q S f (listed.setIfInBounds j true)) [o2] a w)(hr:Region.ready .any ops listed=[i,j]:=by decide +kernel)(ho:ops[i]?=some o:=by rfl)(ho2:ops[j]?=some o2:=by rfl):wpAnyH P .any ops Q S (f+1) listed a w:=aH2 hr ho ho2 h h2
end
end
open Go.RowKit
section
variable{P:Program}{ops:Array Oper}{rest:List Oper}{fn:Func}{Q:Exit->Act->World->Prop}{a:Act}{w w0:World}{o:Oper}{F:Frm}{N d:Nat}{M0 M:Nat->Prop}{Gs:List (Nat->Prop)}{L L2:Env}{O O2:List (Nat×Nat×Dt)}{T:Prop}
theorem Sx.stA{α β:Type}[Rep α][Rep β]{t q:Nat}{vo:Operand}{g:Option Nat}{off:Nat}{x:α}{y0 y:β}{set:α->β->α}(h:Sx F N M0 M Gs L O a w)(sb p:Nat)(fs:FldS set off)(hvl:OpdR M (λ s=>(L++envO O).lookup s) vo (dt y))(ks qs:List Nat)
  (next:∀ M' w',Sx F N M0 M' Gs L2 ((sb,p,dbox g 0 (set x y))::O2) a w'->wpList P ops Q rest a w') (ho:o.op=.store t (.tmp q) vo:=by rfl) (hgd:o.guard=none:=by rfl) (hd:o.dst=none:=by rfl)
  (hpl:(L++envO O).lookup q=some (dbox g off y0):=by rfl) (hsl:(L++envO O).lookup sb=some (dbox g 0 x):=by rfl) (ht:tyB P t (Rep.agg β) (Rep.size β)=true:=by kernel_rfl) (hg:Gs[p]?=some (oneB g):=by rfl)
  (hk:selP ks L=some L2:=by rfl) (hq:selR L O qs p=some O2:=by rfl) (hdn:L2.lookup sb=none:=by rfl):wpList P ops Q (o::rest) a w:=
 h.store p fs ho hgd hd ht hg hpl hvl hsl ks hk qs hq hdn next
theorem Sx.alA{α:Type}[Rep α]{t:Nat}{zs:List Value}{d0:α}(h:Sx F N M0 M Gs L O a w)(p:Nat)(hz:∀ (M:Nat->Prop) (w:World),Rep.rdc M w zs d0)(ks qs:List Nat)
  (next:∀ b M' a' w',Sx F N M0 M' (Gs.set p (oneB (some b))) L2 ((d,p,dbox (some b) 0 d0)::O2) a' w'->wpList P ops Q rest a' w') (hh:opH o N=some d:=by rfl) (ho:o.op=.alloc t:=by rfl) (hzc:xU P t=some zs:=by kernel_rfl) (hp:p<Gs.length:=by simp)
  (hk:selP ks L=some L2:=by rfl) (hq:selR L O qs p=some O2:=by rfl) (hdn:L2.lookup d=none:=by rfl):wpList P ops Q (o::rest) a w:=
 h.alloc p hh ho hzc hz hp ks hk qs hq hdn next
theorem Sx.apA{α:Type}[Rep α]{s x:Nat}{t e:TypeId}{bytes:Nat}{g:Option Nat}{xs ys r:List α}{z:Dt}(h:Sx F N M0 M Gs L O a w)(p:Nat)(hz:IsRow z ys)(hm:appO bytes xs ys=some r)(ks qs:List Nat)
  (next:∀ g' M' a' w',Sx F N M0 M' (Gs.set p (oneB g')) L2 ((d,p,dtip g' e r)::O2) a' w'->wpList P ops Q rest a' w') (hh:opH o N=some d:=by rfl)
  (ho:o.op=.call { callee:=.builtin .append,args:=#[.tmp s,.tmp x],argTypes:=#[t,t] }:=by rfl) (hs:(L++envO O).lookup s=some (dtip g e xs):=by rfl) (hel:elB P t e (Rep.size α) bytes=true:=by kernel_rfl)
  (hg:Gs[p]?=some (oneB g):=by rfl) (hx:(L++envO O).lookup x=some z:=by rfl)
  (hk:selP ks L=some L2:=by rfl) (hq:selR L O qs p=some O2:=by rfl) (hdn:L2.lookup d=none:=by rfl):wpList P ops Q (o::rest) a w:=
 h.app p hh ho hel hs hg hx hz hm ks hk qs hq hdn next
variable{α β γ:Type}[Rep α][Rep β][Rep γ]
theorem Sx.hdA{ow:Ow α}{oy:Ow β}{e:TypeId}{G:Nat->Prop}{x:α}{v0:Value}{cf:CF}{b off:Nat}{ys:List β}{upd:List β->α}(h:Sx F N M0 M Gs L O a w)(s p:Nat)(hP:PH ow x v0 cf (Ow.row e oy) b off ys upd)(qs:List Nat)
  (next:∀ (g:Nat) (A:Option Addr) (cap:Nat),(ys.length≠0->true=true->A=some ⟨g,0,none⟩)->Sx F N M0 M Gs L ((s,p,dnm ow G x v0 ((true,b,off,.slice A ys.length cap)::cf))::O2) a w->T)
  (hs:(L++envO O).lookup s=some (dnm ow G x v0 cf):=by rfl) (hn:L.lookup s=none:=by rfl) (hG:∀ b,G b->zo Gs p b:=by exact λ _ h=>h) (hq:selR L O qs p=some O2:=by rfl):T:=
 h.hdR p true (λ _=>hP) hs hn hG qs hq next
theorem Sx.sfA{ow:Ow α}{t q:Nat}{vo:Operand}{G:Nat->Prop}{x:α}{v0:Value}{cf:CF}{b off:Nat}{y y':β}{upd:β->α}(h:Sx F N M0 M Gs L O a w)(sb p:Nat)(hP:PH ow x v0 cf Ow.frz b off y upd)
  (hpl:OpdR M (λ s=>(L++envO O).lookup s) (.tmp q) (dis (.pointer (some ⟨b,off,none⟩)))) (hvl:OpdR M (λ s=>(L++envO O).lookup s) vo (dt y')) (ks qs:List Nat)
  (next:∀ w',Sx F N M0 M Gs L2 ((sb,p,dnm ow G (upd y') v0 [])::O2) a w'->wpList P ops Q rest a w') (hs:(L++envO O).lookup sb=some (dnm ow G x v0 cf):=by rfl) (ho:o.op=.store t (.tmp q) vo:=by rfl) (hgd:o.guard=none:=by rfl) (hd:o.dst=none:=by rfl)
  (ht:tyB P t (Rep.agg β) (Rep.size β)=true:=by kernel_rfl) (hp:p<Gs.length:=by simp) (hn:L.lookup sb=none:=by rfl) (hG:∀ b,G b->zo Gs p b:=by exact λ _ h=>h)
  (hk:selP ks L=some L2:=by rfl) (hq:selR L O qs p=some O2:=by rfl) (hdn:L2.lookup sb=none:=by rfl):wpList P ops Q (o::rest) a w:=
 h.stF p hP ho hgd hd ht hp hpl hvl hs hn hG ks hk qs hq hdn next
theorem Sx.shA{ow:Ow α}{oy:Ow β}{t q:Nat}{G G3:Nat->Prop}{v0:Value}{b off:Nat}{y':β}{upd:β->α}(h:Sx F N M0 M Gs L O a w)(sb tv p p2:Nat)(hpl:OpdR M (λ s=>(L++envO O).lookup s) (.tmp q) (dis (.pointer (some ⟨b,off,none⟩))))(ks qs:List Nat)
  (next:∀ G' w',Sx F N M0 M ((Gs.set p G').set p2 (oneB none)) L2 ((sb,p,dnm ow G' (upd y') v0 [])::O2) a w'->wpList P ops Q rest a w')
  (ho:o.op=.store t (.tmp q) (.tmp tv):=by rfl) (hgd:o.guard=none:=by rfl) (hd:o.dst=none:=by rfl) (hvl:(L++envO O).lookup tv=some (dow oy G3 y'):=by rfl) (hs:(L++envO O).lookup sb=some (dhl ow oy G v0 b off upd):=by rfl)
  (ht:tyB P t (Rep.agg β) (Rep.size β)=true:=by kernel_rfl) (hp:p<Gs.length:=by simp) (hp2:p2<Gs.length:=by simp) (hne:p≠p2:=by decide) (hG:∀ b,G b->zo Gs p b:=by exact λ _ h=>h) (hG3:∀ b,G3 b->zo Gs p2 b:=by exact λ _ h=>h)
  (hk:selP ks L=some L2:=by rfl) (hq:selR L O qs p=some O2:=by rfl) (hq2:O2.all (λ q=>q.2.1 != p2)=true:=by rfl) (hdn:L2.lookup sb=none:=by rfl):wpList P ops Q (o::rest) a w:=
 h.stH p p2 ho hgd hd ht hp hp2 hne hpl hvl hs hG hG3 ks hk qs hq hq2 hdn next
theorem Sx.asA{o1 o2:Ow γ}{G:Nat->Prop}{x:γ}{v0:Value}{cf:CF}(h:Sx F N M0 M Gs L O a w)(s p:Nat)(hw:Imp o1 o2 x)(qs:List Nat)(hs:(L++envO O).lookup s=some (dnm o1 G x v0 cf):=by rfl)(hn:L.lookup s=none:=by rfl)(hG:∀ b,G b->zo Gs p b:=by exact λ _ h=>h)(hq:selR L O qs p=some O2:=by rfl):
  Sx F N M0 M Gs L ((s,p,dnm o2 G x v0 cf)::O2) a w:=h.asO p hs hn hG hw qs hq
end
section
variable{P:Program}{F:Frm}{N:Nat}{M0 M:Nat->Prop}{Gs:List (Nat->Prop)}{L L2:Env}{O O2:List (Nat×Nat×Dt)}{a:Act}{w w0:World}{Q:Exit->Act->World->Prop}{ops:Array Oper}{o:Oper}{listed:Array Bool}{f d:Nat}{S:World->Prop}
variable{α β:Type}[Rep α][Rep β]
theorem Sx.tM{y:Dt}{q:Operand}(h:Sx F N M0 M Gs L O a w)(i sb:Nat)(hS:S w)(next:∀ a',Sx F N M0 M Gs ((d,y)::L) O a' w->wpAnyH P .any ops Q S f (listed.setIfInBounds i true) a' w)
  (ho:ops[i]?=some o:=by rfl) (hh:opH o N=some d:=by rfl) (hs:Region.noSelect ops=true:=by decide +kernel) (hf:Region.free .any ops listed i=true:=by decide +kernel) (hr:(Region.ready .any ops listed).contains i=true:=by decide +kernel)
  (hQ:∀ c a w v,Q (.panic c) (a.put o.dst v) w->Q (.panic c) a w:=by exact λ _ _ _ _ h=>h) (hl:(L++envO O).lookup sb=some y:=by rfl) (hn:y.nb=true:=by rfl) (hop:o.op=.move q:=by rfl) (hq:q=.tmp sb:=by rfl):wpAnyH P .any ops Q S (f+1) listed a w:=
 h.tkM ho hh hs hf hr hQ hS hl hn hop hq next
theorem Sx.tN{ow:Ow α}{G:Nat->Prop}{x:α}{v0:Value}{cf:CF}{q:Operand}(h:Sx F N M0 M Gs L O a w)(i sb:Nat)(hS:S w)(next:∀ a',Sx F N M0 M Gs ((d,dis v0)::L) O a' w->wpAnyH P .any ops Q S f (listed.setIfInBounds i true) a' w)
  (ho:ops[i]?=some o:=by rfl) (hh:opH o N=some d:=by rfl) (hs:Region.noSelect ops=true:=by decide +kernel) (hf:Region.free .any ops listed i=true:=by decide +kernel) (hr:(Region.ready .any ops listed).contains i=true:=by decide +kernel)
  (hQ:∀ c a w v,Q (.panic c) (a.put o.dst v) w->Q (.panic c) a w:=by exact λ _ _ _ _ h=>h) (hl:(L++envO O).lookup sb=some (dnm ow G x v0 cf):=by rfl) (hop:o.op=.move q:=by rfl) (hq:q=.tmp sb:=by rfl):wpAnyH P .any ops Q S (f+1) listed a w:=
 h.tkN ho hh hs hf hr hQ hS hl hop hq next
theorem Sx.tA{b off fo n:Nat}{cs:List Value}{x:α}{t:TypeId}{q:Operand}(h:Sx F N M0 M Gs L O a w)(i sb:Nat)(next:∀ a',Sx F N M0 M Gs ((d,dis (.pointer (some ⟨b,off+fo,none⟩)))::L) O a' w->wpAnyH P .any ops Q (λ w=>CellsAt w b off cs) f (listed.setIfInBounds i true) a' w)
  (ho:ops[i]?=some o:=by rfl) (hh:opH o N=some d:=by rfl) (hs:Region.noSelect ops=true:=by decide +kernel) (hf:Region.free .any ops listed i=true:=by decide +kernel) (hr:(Region.ready .any ops listed).contains i=true:=by decide +kernel)
  (hQ:∀ c a w v,Q (.panic c) (a.put o.dst v) w->Q (.panic c) a w:=by exact λ _ _ _ _ h=>h) (hl:(L++envO O).lookup sb=some (dpk b off cs x):=by rfl) (hop:o.op=.fieldAddr t q n:=by rfl) (ht:fldB P t n fo=true:=by exact FldO.h) (hq:q=.tmp sb:=by rfl):wpAnyH P .any ops Q (λ w=>CellsAt w b off cs) (f+1) listed a w:=
 h.tkA ho hh hs hf hr hQ hl hop ht hq next
theorem Sx.tF{b off fo:Nat}{cs:List Value}{x:α}{get:α->β}{t:TypeId}{q:Operand}(h:Sx F N M0 M Gs L O a w)(i sb s2:Nat)(fl:Fld get fo)(next:∀ a',Sx F N M0 M Gs ((d,dt (get x))::L) O a' w->wpAnyH P .any ops Q (λ w=>CellsAt w b off cs) f (listed.setIfInBounds i true) a' w)
  (ho:ops[i]?=some o:=by rfl) (hh:opH o N=some d:=by rfl) (hs:Region.noSelect ops=true:=by decide +kernel) (hf:Region.free .any ops listed i=true:=by decide +kernel) (hr:(Region.ready .any ops listed).contains i=true:=by decide +kernel)
  (hQ:∀ c a w v,Q (.panic c) (a.put o.dst v) w->Q (.panic c) a w:=by exact λ _ _ _ _ h=>h) (hl:(L++envO O).lookup sb=some (dpk b off cs x):=by rfl) (hl2:(L++envO O).lookup s2=some (dis (.pointer (some ⟨b,off+fo,none⟩))):=by rfl) (hop:o.op=.load t q:=by rfl) (ht:tyB P t (Rep.agg β) (Rep.size β)=true:=by kernel_rfl) (hq:q=.tmp s2:=by rfl):wpAnyH P .any ops Q (λ w=>CellsAt w b off cs) (f+1) listed a w:=
 h.tkF fl ho hh hs hf hr hQ hl hl2 hop ht hq next
end
open Go.RowKit
section
variable{P:Program}{F:Frm}{N:Nat}{M0 M:Nat->Prop}{Gs:List (Nat->Prop)}{L L2:Env}{O O2:List (Nat×Nat×Dt)}{a:Act}{w w0:World}{Q:Exit->Act->World->Prop}{ops:Array Oper}{o:Oper}{listed:Array Bool}{f i d:Nat}{S:World->Prop}
variable{α β:Type}[Rep α][Rep β]
end
end Go.Proofs.YtpmkkijamfgaeaaGreatDoor
