import Derived.Test.YtoomehfflopakaaGreatDoorTG
import Derived.Test.YtoomehfflopakaaGreatDoorProg
import Derived.Maps.Own
namespace Go.Proofs.YtoomehfflopakaaGreatDoor
open Go.RowKit
variable{a a0:Act}{l' l0 listed:Array Bool}{ops:Array Oper}{ag:Array Operand}{ts:Array TypeId}{args:Array Value}{op:BinOp}{c cnd:Bool}{cf:CF}{X x y yd:Dt}{L L' L1 L2:Env}{Q Q2:Exit->Act->World->Prop}{F:eG}{F' F0 f:FuncId}{m:Int}{zs:List (List Value)}{Gs Gs':List (Nat->Prop)}{x1 x2:List (Nat×Dt)}{ps ps':List (Nat×Nat)}{O O2:List (Nat×Nat×Dt)}{D ds rs xr xs:List Dt}{ks ns qs:List Nat}{φ:List Nat->Prop}{l1 l2 rest:List Oper}{l:List Operand}{c0 c1 c2 c3 c4 us:List Value}{N b b' b1 b2 bk by_ bytes d fo i j k off p p2 s s2 sb:Nat}{b4:Nat->Ow (List (Bx eZ))}{G G' G1 G2 G3 M M' M0:Nat->Prop}{o o2 o3:Oper}{q qi qx vo:Operand}{A:Option Addr}{g:Option Nat}{a4:Ow (List (Bx eZ))}{a6:Ow (List im)}{a5:Ow (List Int)}{a7:Ow (List Str)}{P:Program}{r:Rd}{e e' e2 t t' ty:TypeId}{u v v0:Value}{w w' w0:World}{S:World->Prop}
section
variable{α:Type}[ey α]
def oj(b o:Nat)(cs:List Value)(x:α):Dt where
 rd M w v:=v=.pointer (some ⟨b,o,none⟩)/\¬ M b/\iu w b o cs/\ey.rdc M w cs x
 own:=noB
 nb:=true
 nob _ _ h:=h
 stable:=λ⟨hv,hb,hc,h⟩ e=>⟨hv,hb,hc.stable hb e,ey.stable h e⟩
 weak:=λ{M M' w v} ⟨hv,hb,hc,h⟩ e=>⟨hv,λ hm=>by
  have hl:=ey.len h;have hp:=ey.pos (α:=α);obtain⟨u,hu⟩:∃ u,cs[0]?=some u:=⟨_,aa (by omega)⟩;exact hb (e b (tI (hc 0 u hu)) hm),hc,ey.weak h e⟩
end
section
variable{fn:Func}{f:Nat}{T:Prop}
theorem Sx.lI(h:Sx F N M0 M Gs L O a w)(hy:y.rd M w (Act.at a s))(hn:y.nb=true:=by rfl):Sx F N M0 M Gs ((s,y)::L) O a w:=by
 refine⟨⟨h.st.fr,h.st.size,h.st.defers,h.st.mok,λ s' z hz=>?_⟩,h.ob,λ s' z hz=>?_,h.ow⟩
 .simp only[bG,af] at hz;by_cases he:s'=s
  .subst he;simp at hz;subst hz;exact hy
  .have hb:(s' == s)=false:=by simpa using he
   simp[hb] at hz;exact h.st.has s' z hz
 .simp only[af] at hz;split at hz
  .injection hz with hz;subst hz;exact hn
  .exact h.no s' z hz
section
variable{α β γ δ:Type}[ey α][ey β][ey γ][ey δ]
theorem Sx.AD{x:α}(h:Sx F N M0 M Gs L O a w)(next:∀ (b o:Nat) (cs:List Value),Sx F N M0 M Gs ((s,oj b o cs x)::L) O a w->T)(hs:(L++eB O).lookup s=some (eX x):=by rfl):T:=by
 obtain⟨b,o,cs,h1,h2,h3,h4⟩:=h.st.has s _ hs;exact next b o cs (h.lI ⟨h1,h2,h3,h4⟩)
theorem Sx.nU{o:Nat}{cs:List Value}{x:α}(h:Sx F N M0 M Gs L O a w)(hs:(L++eB O).lookup s=some (oj b o cs x):=by rfl):Sx F N M0 M Gs ((s,eX x)::L) O a w:=by
 obtain⟨h1,h2,h3,h4⟩:=h.st.has s _ hs;exact h.lI ⟨b,o,cs,h1,h2,h3,h4⟩
theorem Sx.nX{o:Nat}{cs:List Value}{x:α}(h:Sx F N M0 M Gs L O a w)(hs:(L++eB O).lookup s=some (oj b o cs x):=by rfl):iu w b o cs:=(h.st.has s _ hs).2.2.1
theorem Sx.kX(h:Sx F N M0 M Gs L O a w)(ho:ops[i]?=some o)(hh:fH o N=some d)(hs:Region.noSelect ops=true)(hf:Region.free .any ops listed i=true)(hr:(Region.ready .any ops listed).contains i=true)
  (hQ:∀ c a w,Q (.panic c) (a.put o.dst v) w->Q (.panic c) a w) (hS:S w) (hy:∀ w,S w->(execOp a.eval o).run P w=.ok (.value v) w) (hyr:y.rd M w v) (hn:y.nb=true)
  (next:∀ a',Sx F N M0 M Gs ((d,y)::L) O a' w->wpAnyH P .any ops Q S f (listed.setIfInBounds i true) a' w):wpAnyH P .any ops Q S (f+1) listed a w:=
 wpAnyH_take ho hs hf hr hQ (.inl ⟨Ym (zK hh).1,hy⟩) hS (by rw[(zK hh).2.1];exact next _ (h.nY (zK hh).2.2 hyr hn))
theorem Sx.Mf{n:Nat}{cs:List Value}{x:α}(h:Sx F N M0 M Gs L O a w)(ho:ops[i]?=some o)(hh:fH o N=some d)(hs:Region.noSelect ops=true)(hf:Region.free .any ops listed i=true)(hr:(Region.ready .any ops listed).contains i=true)
  (hQ:∀ c a w v,Q (.panic c) (a.put o.dst v) w->Q (.panic c) a w) (hl:(L++eB O).lookup sb=some (oj b off cs x)) (hop:o.op=.fieldAddr t q n) (ht:fR P t n fo=true) (hq:q=.tmp sb)
  (next:∀ a',Sx F N M0 M Gs ((d,fk (.pointer (some ⟨b,off+fo,none⟩)))::L) O a' w->wpAnyH P .any ops Q (λ w=>iu w b off cs) f (listed.setIfInBounds i true) a' w):wpAnyH P .any ops Q (λ w=>iu w b off cs) (f+1) listed a w:=by
 obtain⟨h1,_,h3,_⟩:=h.st.has sb _ hl;exact h.kX ho hh hs hf hr (λ c a w=>hQ c a w _) h3 (mo hop ht (by rw[hq];exact h1)) Z Z next
theorem Sx.Eb{parts:List (Nat×Operand)}{x:α}(h:Sx F N M0 M Gs L O a w)(ho:ops[i]?=some o)(hh:fH o N=some d)
   (hS:S w) (hagg:ey.agg α=true) (hop:o.op=.build t parts.toArray) (hb:pf P t ns=true) (hz:Zx P t ns=some zs)
  (hl:∀ (w:World) (a:Act),(∀ s y,(L++eB O).lookup s=some y->y.rd M w (Act.at a s))->∀ p∈parts,p.1<ns.length/\(a.eval p.2).cells.toList.length=ns.getD p.1 0)
  (hx:∀ (w:World) (a:Act),(∀ s y,(L++eB O).lookup s=some y->y.rd M w (Act.at a s))->ey.rdc M w ((parts.foldl (λ l p=>l.set p.1 (a.eval p.2).cells.toList) zs).flatten) x)
  (next:∀ a',Sx F N M0 M Gs ((d,dt x)::L) O a' w->wpAnyH P .any ops Q S f (listed.setIfInBounds i true) a' w)(hs:Region.noSelect ops=true:=by decide +kernel)(hf:Region.free .any ops listed i=true:=by decide +kernel)(hr:(Region.ready .any ops listed).contains i=true:=by decide +kernel)(hQ:∀ c a w v,Q (.panic c) (a.put o.dst v) w->Q (.panic c) a w:=by exact λ _ _ _ _ h=>h):wpAnyH P .any ops Q S (f+1) listed a w:=by
 have hc:=λ w'=>Ds (parts:=parts.map λ p=>(p.1,a.eval p.2)) hb hz (λ p hp=>by
  obtain⟨q,hq,rfl⟩:=bi.1 hp;have:=hl w a (λ s y hy=>h.st.has s y hy) q hq;exact⟨this.1,by simpa using this.2⟩) w'
 obtain⟨cells,h1,h2⟩:=hc w;refine h.kX (v:=.agg cells) (y:=dt x) ho hh hs hf hr (λ c a w=>hQ c a w _) hS (λ w' _=>?_) ⟨cells.toList,?_,by rw[hagg];rfl⟩ Z next
 .obtain⟨cells',h3,h4⟩:=hc w';have hcc:=Array.toList_inj.1 (h4.trans h2.symm);rw[hcc] at h3;unfold execOp;rw[hop];have e:(parts.toArray.map λ p:Nat×Operand=>(p.1,a.eval p.2))=(parts.map λ p=>(p.1,a.eval p.2)).toArray:=by simp
  simp[e,h3]
 .rw[h2,dV];exact hx w a λ s y hy=>h.st.has s y hy
theorem Sx.AK(h:Sx F N M0 M Gs L O a w)(ho:ops[i]?=some o)(hh:fH o N=some d)
   (hS:S w) (hl:(L++eB O).lookup sb=some y) (hn:y.nb=true) (hop:o.op=.move q) (hq:q=.tmp sb)
  (next:∀ a',Sx F N M0 M Gs ((d,y)::L) O a' w->wpAnyH P .any ops Q S f (listed.setIfInBounds i true) a' w)(hs:Region.noSelect ops=true:=by decide +kernel)(hf:Region.free .any ops listed i=true:=by decide +kernel)(hr:(Region.ready .any ops listed).contains i=true:=by decide +kernel)(hQ:∀ c a w v,Q (.panic c) (a.put o.dst v) w->Q (.panic c) a w:=by exact λ _ _ _ _ h=>h):wpAnyH P .any ops Q S (f+1) listed a w:=
 h.kX ho hh hs hf hr (λ c a w=>hQ c a w _) hS (vE hop (by rw[hq];rfl)) (h.st.has sb _ hl) hn next
theorem Sx.Mh{cs:List Value}{x:α}{get:α->β}(fl:eM get fo)(h:Sx F N M0 M Gs L O a w)(ho:ops[i]?=some o)(hh:fH o N=some d)(hs:Region.noSelect ops=true)(hf:Region.free .any ops listed i=true)(hr:(Region.ready .any ops listed).contains i=true)
  (hQ:∀ c a w v,Q (.panic c) (a.put o.dst v) w->Q (.panic c) a w) (hl:(L++eB O).lookup sb=some (oj b off cs x)) (hl2:(L++eB O).lookup s2=some (fk (.pointer (some ⟨b,off+fo,none⟩)))) (hop:o.op=.load t q) (ht:fM P t (ey.agg β) (ey.size β)=true) (hq:q=.tmp s2)
  (next:∀ a',Sx F N M0 M Gs ((d,dt (get x))::L) O a' w->wpAnyH P .any ops Q (λ w=>iu w b off cs) f (listed.setIfInBounds i true) a' w):wpAnyH P .any ops Q (λ w=>iu w b off cs) (f+1) listed a w:=by
 obtain⟨h1,_,h3,h4⟩:=h.st.has sb _ hl;obtain⟨c,hc,hr2⟩:=fl.sub h4;have h5:=h.st.has s2 _ hl2;refine h.kX (y:=dt _) ho hh hs hf hr (λ c a w=>hQ c a w _) h3 (λ w hw=>?_) ⟨c,hr2,Z⟩ Z next;have:=yA ht (ey.len hr2) ey.one (λ j u hj=>by rw[bJ];exact hw _ u (hc j u hj));have hv:a.eval q=.pointer (some ⟨b,off+fo,none⟩):=by rw[hq];exact h5
 unfold execOp;rw[hop];simp[Instr.loadAt,Instr.sureAddr,hv,this]
end
end
def EI(E:List Nat)(n k:Nat)(T:List (List Nat))(listed:Array Bool):Bool:=
 decide (listed.size=n)&&((List.range n).all λ i=>listed.getD i false == E.contains i)&&(E.all λ i=>decide (i<k)&&(T.getD i []).all λ j=>E.contains j)
theorem Ik{P:Program}{ops:Array Oper}{Q:Exit->Act->World->Prop}:∀ (f:Nat) (listed:Array Bool) (a:Act) (w:World),wpAny P .any ops Q f listed a w->wpAnyH P .any ops Q (λ _=>True) f listed a w
 | 0,_,_,_,h=>h
 | f+1,_,_,_,h=>⟨h.1,λ i hi=>wpOp_mono (λ a' w' h'=>⟨trivial,Ik f _ a' w' h'⟩) (h.2 i hi)⟩
section
variable{f:Nat}
variable{α:Type}[ey α]
variable{β:Type}{ys:List β}
theorem Sx.nV{xs:List (Nat×Dt)}(h:Sx F N M0 M Gs L O a w)(k:Nat)(E:List Nat)(S:List (List (Nat×Option Nat)))
  (hs:RegR P M ops N S (L++eB O) D 0 (ops.toList.take k) xs) (hx:∀ i∈E,∀ x d,xs[i]?=some (d,x)->(L++eB O).lookup d=some x) (ks:List Nat)  (qp:List (Nat×Nat)) (hq:gy qp (xs++(L++eB O))=some O2) (hw:gf Gs O2)
  (hQ:∀{a' w'},Sx F N M0 M Gs L2 O2 a' w'->wpList P ops Q (ops.toList.drop k) a' w')(hc:XM E ops k (Bc E ops) S=true:=by decide +kernel)(hkn:k<=ops.size:=by decide)(hE:EI E ops.size k (Bc E ops) listed=true:=by decide +kernel)(hf:left ops.size listed=f:=by decide +kernel)(hk:ff ks (xs++(L++eB O))=some L2:=by rfl):wpAnyH P .any ops Q (λ _=>True) f listed a w:=by
 unfold EI at hE;simp only[ac,bB] at hE;obtain⟨⟨hsz,hl⟩,hEk⟩:=hE;have hl':∀ i,i<ops.size->listed.getD i false=E.contains i:=λ i hi=>by
  have:=am.1 hl i (aA.2 hi);simpa using this
 have hEk':∀ i∈E,i<k/\∀ j∈(Bc E ops).getD i [],j∈E:=λ i hi=>by
  have:=am.1 hEk i hi;simp only[ac,bB] at this;exact⟨this.1,λ j hj=>bH.1 (am.1 this.2 j hj)⟩
 have hin:∀ j∈E,listed.getD j false=true:=λ j hj=>by
  rw[hl' j (by have:=(hEk' j hj).1;omega)];exact bH.2 hj
 refine Ik _ _ _ _ (ES hc (λ j hj=>(hEk' j hj).1) hkn h.st hs (λ a' w' he st=>hQ (.nW st h.ob hk hq hw)) f listed a w hf hin ⟨hsz,h.st.size,Z,fy.refl _,λ i hi=>?_,λ i hi hl2 j hj=>?_,λ i hl2 x d hxi=>?_,λ s _=>Z⟩)
 .rcases aT i ops.size with h1 | h1
  .rw[hl' i h1];cases hcn:E.contains i with
   | false=>rfl
   |true=>have:=(hEk' i (bH.1 hcn)).1;omega
  .have:¬ i<listed.size:=by omega
   simp[this]
 .rw[hl' i hi] at hl2;exact hin j ((hEk' i (bH.1 hl2)).2 j hj)
 .have hi:i<ops.size:=by rw[<-hsz];exact Q7 hl2
  rw[hl' i hi] at hl2;exact h.st.has d x (hx i (bH.1 hl2) x d hxi)
theorem Sx.AL{ow:Ow α}{x:α}(h:Sx F N M0 M Gs L O a w)(ho:ops[i]?=some o)(hh:fH o N=some d)
   (hS:S w) (hl:(L++eB O).lookup sb=some (eJ ow G x v0 cf)) (hop:o.op=.move q) (hq:q=.tmp sb)
  (next:∀ a',Sx F N M0 M Gs ((d,fk v0)::L) O a' w->wpAnyH P .any ops Q S f (listed.setIfInBounds i true) a' w)(hs:Region.noSelect ops=true:=by decide +kernel)(hf:Region.free .any ops listed i=true:=by decide +kernel)(hr:(Region.ready .any ops listed).contains i=true:=by decide +kernel)(hQ:∀ c a w v,Q (.panic c) (a.put o.dst v) w->Q (.panic c) a w:=by exact λ _ _ _ _ h=>h):wpAnyH P .any ops Q S (f+1) listed a w:=
 h.kX ho hh hs hf hr (λ c a w=>hQ c a w _) hS (vE hop (by rw[hq];exact(h.st.has sb _ hl).1)) Z Z next
theorem oH{A:Addr}(ho:o.op=.nilCheck q)(hv:a.eval q=.pointer (some A)):∀ w,S w->(execOp a.eval o).run P w=.ok (.value (.pointer (some A))) w:=λ w _=>by
 unfold execOp;rw[ho];simp[hv]
theorem Sx.Ec{g n cap size:Nat}{y:β}(h:Sx F N M0 M Gs L O a w)(ho:ops[i]?=some o)(hh:fH o N=some d)
   (hS:S w) (hop:o.op=.indexAddr t q qi) (ht':gV P t size=true) (hl:(L++eB O).lookup s2=some (fk (.slice A n cap))) (hq:q=.tmp s2) (hi:eC M (λ s=>(L++eB O).lookup s) qi (dt m)) (hn:n=ys.length) (hA:ys.length≠0->A=some ⟨g,0,none⟩) (hm:eN ys m=some y)
  (next:∀ a',Sx F N M0 M Gs ((d,fk (.pointer (some ⟨g,m.toNat*size,none⟩)))::L) O a' w->wpAnyH P .any ops Q S f (listed.setIfInBounds i true) a' w)(hs:Region.noSelect ops=true:=by decide +kernel)(hf:Region.free .any ops listed i=true:=by decide +kernel)(hr:(Region.ready .any ops listed).contains i=true:=by decide +kernel)(hQ:∀ c a w v,Q (.panic c) (a.put o.dst v) w->Q (.panic c) a w:=by exact λ _ _ _ _ h=>h):wpAnyH P .any ops Q S (f+1) listed a w:=by
 refine h.kX ho hh hs hf hr (λ c a w=>hQ c a w _) hS (λ w' _=>?_) Z Z next;obtain⟨hm0,hx⟩:=yS hm;generalize m.toNat=k at*;have hk:=zJ hx;have hA':=hA (by omega);subst hA';obtain⟨e',ht⟩:=jZ ht';obtain⟨ti,ht1,ht2,ht3⟩:=ZR ht;have hsv:a.eval q=.slice (some ⟨g,0,none⟩) n cap:=by rw[hq];exact h.st.has s2 _ hl
 have hiv:=yq.1 (hi w a λ s y hy=>h.st.has s y hy);have hk':k<n:=by omega
 have hadd:(⟨g,0,none⟩:Addr).add (k*size)=⟨g,k*size,none⟩:=by rw[jI];simp
 subst hm0;unfold execOp;rw[hop];simp[hsv,hiv,Instr.indexAt,asIntOf,ax ht1,sizeOf,typeInfo,ht2,ht3,hk',hadd]
theorem Sx.Mi[ey β]{ow:Ow β}{g n cap:Nat}{y:β}(h:Sx F N M0 M Gs L O a w)(ho:ops[i]?=some o)(hh:fH o N=some d)
  (hQ:∀ c a w v,Q (.panic c) (a.put o.dst v) w->Q (.panic c) a w) (hS:S w) (hop:o.op=.indexAddr t q qi) (ht':gV P t (ey.size β)=true) (hl:(L++eB O).lookup s2=some (eJ (Ow.row e ow) G ys (.slice A n cap) cf)) (hq:q=.tmp s2) (hi:eC M (λ s=>(L++eB O).lookup s) qi (dt m)) (hA:n≠0->A=some ⟨g,0,none⟩) (hm:eN ys m=some y)
  (next:∀ a',Sx F N M0 M Gs ((d,fk (.pointer (some ⟨g,m.toNat*ey.size β,none⟩)))::L) O a' w->wpAnyH P .any ops Q S f (listed.setIfInBounds i true) a' w)(hs:Region.noSelect ops=true:=by decide +kernel)(hf:Region.free .any ops listed i=true:=by decide +kernel)(hr:(Region.ready .any ops listed).contains i=true:=by decide +kernel):wpAnyH P .any ops Q S (f+1) listed a w:=by
 have hn:=B' (s:=s2) (h.st.has s2 _ hl);refine h.kX ho hh hs hf hr (λ c a w=>hQ c a w _) hS (λ w' _=>?_) Z Z next;obtain⟨hm0,hx⟩:=yS hm;generalize m.toNat=k at*;have hk:=zJ hx;have hA':=hA (by omega);subst hA';obtain⟨e',ht⟩:=jZ ht';obtain⟨ti,ht1,ht2,ht3⟩:=ZR ht;have hsv:a.eval q=.slice (some ⟨g,0,none⟩) n cap:=by rw[hq];exact(h.st.has s2 _ hl).1
 have hiv:=yq.1 (hi w a λ s y hy=>h.st.has s y hy);have hk':k<n:=by omega
 have hadd:(⟨g,0,none⟩:Addr).add (k*ey.size β)=⟨g,k*ey.size β,none⟩:=by rw[jI];simp
 subst hm0;unfold execOp;rw[hop];simp[hsv,hiv,Instr.indexAt,asIntOf,ax ht1,sizeOf,typeInfo,ht2,ht3,hk',hadd]
theorem Sx.n'(h:Sx F N M0 M Gs L O a w)
   (hS:S w)    
  (next:∀{a'},Sx F N M0 M Gs ((d,y)::L) O a' w->wpAnyH P .any ops Q S f (listed.setIfInBounds i true) a' w)(ho:ops[i]?=some o:=by rfl)(hh:fH o N=some d:=by rfl)(hs:Region.noSelect ops=true:=by decide +kernel)(hf:Region.free .any ops listed i=true:=by decide +kernel)(hr:(Region.ready .any ops listed).contains i=true:=by decide +kernel)(hQ:∀ c a w v,Q (.panic c) (a.put o.dst v) w->Q (.panic c) a w:=by exact λ _ _ _ _ h=>h)(hop:o.op=.extract q j:=by rfl)(hl:(L++eB O).lookup s2=some (fZ xs):=by rfl)(hq:q=.tmp s2:=by rfl)(hx:xs[j]?=some y:=by rfl):wpAnyH P .any ops Q S (f+1) listed a w:=by
 obtain⟨us,hv,hr2,hn⟩:=h.st.has s2 _ hl;obtain⟨u,h1,h2⟩:=hr2.at hx;refine h.kX ho hh hs hf hr (λ c a w=>hQ c a w _) hS (λ w' _=>?_) h2 (hn y (ae hx)) (λ _ h_=>next h_);have hv':a.eval q=.tuple us.toArray:=by rw[hq];exact hv
 unfold execOp;rw[hop];simp[hv',Instr.extract,h1]
theorem Sx.DH{x:Nat}{xs ys r:List α}(h:Sx F N M0 M Gs L O a w)(p:Nat)(hh:fH o N=some d)
  (ho:o.op=.call { callee:=.builtin .append,args:=#[.tmp s,.tmp x],argTypes:=#[t,t] }) (hel:iH P t e (ey.size α) bytes=true)
  (hs:(L++eB O).lookup s=some (eQ g e xs)) (hg:Gs[p]?=some (eA g)) (hx:ny M w (Act.at a x) ys) (hm:fE bytes xs ys=some r)
  (ks:List Nat) (hk:ff ks L=some L2) (qs:List Nat) (hq:fi L O qs p=some O2) (hdn:L2.lookup d=none)
  (next:∀ g' M' a' w',Sx F N M0 M' (Gs.set p (eA g')) L2 ((d,p,eQ g' e r)::O2) a' w'->wpList P ops Q rest a' w'):wpList P ops Q (o::rest) a w:=by
 obtain⟨hgd,hd,hN⟩:=zK hh;unfold fE at hm;split at hm
 .rename_i hsz;injection hm with hm;subst hm;have hMg:∀ k,gp g M k->M k:=λ k hk=>hk.elim id λ e=>(h.ob.at_ p k ((yJ hg k).2 e)).2.1
  have hx':ny _ w _ ys:=let⟨A,c,h1,h2⟩:=hx;⟨A,c,h1,h2.imp id λ⟨b,off,cells,hA,hc,hr⟩=>⟨b,off,cells,hA,hc,wN (λ k _ hk=>hMg k hk) hr⟩⟩;obtain⟨v',w',g',hrun,hv',hgr,hg',hlt⟩:=Ww (ty:=o.type) hel ((eQ g e xs).weak (h.st.has s _ hs) λ k _ hk=>hMg k hk) hx' hsz.1 (by unfold maxLen;omega);refine av hgd λ K hK=>fb.wp (fb.iw (v:=v') (w':=w') ?_ ?_)
  .unfold execOp;simp[ho,resolve,invoke,builtin,Act.np,hrun]
  .rw[hd];have h1:=h.kr (G':=eA g') (YZ hg) (Grown.own hg hgr) (λ b hb=>⟨(hg'.imp (λ e=>(yJ hg b).2 (by rw[<-e];exact hb)) λ e=>e b hb),hlt b hb⟩) hk hq;exact hK _ _ (next g' _ _ _ (h1.iG hN hdn ((eQ g' e _).weak hv' λ k _ hk=>hk.imp (λ h=>h.1) id) λ b hb=>by rw[zf (YZ hg)];exact hb))
 .cases hm
theorem Sx.D2[ey β]{ow:Ow β}{x:β}{ys:List α}{upd:List α->β}(h:Sx F N M0 M Gs L O a w)(hP:PH ow x v0 cf (Ow.row e Ow.eE) b off ys upd)(hm:(c,b,off,u)∈cf)(hc:c=true)(hf:Fits (List α) u)(hs:(L++eB O).lookup sb=some (eJ ow G x v0 cf))(hx:(L++eB O).lookup s=some (fk u)):ny M w (Act.at a s) ys:=by
 obtain⟨h1,⟨cs,h2,h3⟩,h4⟩:=h.st.has sb _ hs;obtain⟨C,e',hh,hsz,_,G1,G2,_,_,_,_,_,hr,_⟩:=(hP.of h2 h3 h4).here;have hu:=rF hf hh hsz (h4 _ hm hc).2.2;have hsv:=h.st.has s _ hx;obtain⟨v,hv,h5⟩:=hr;rw[hv] at hu;have hu:=hu;rw[hsv,hu];rcases h5 with⟨g,cap,cur,Gr,hg,hb,k1,k2,k3,k4,k5,k6,k7⟩ | ⟨hx0,A,hA⟩
 .refine⟨_,cap,hg,.inr ⟨g,0,_,Z,λ j u hj=>?_,JM k7⟩⟩;rw[aw] at hj;split at hj
  .rw[aD];have:cur[j]?=some u:=by simpa using hj
   simp[World.cell?,hb,this]
  .cases hj
 .exact⟨A,0,by rw[hA,hx0];rfl,.inl hx0⟩
end
section
variable{e:Nat}
variable{β γ:Type}[ey β][ey γ]
theorem Sx.Lh{oy:Ow β}{y y':β}{r:γ}(h:Sx F N M0 M Gs L O a w)(p:Nat)
  (hs:(L++eB O).lookup sb=some (eJ oy G y v0 cf)) (hG:∀ b,G b->zj Gs p b) (hd:o.dst=some d) (hN:d<N) (hw:Region.wanted o (yielded ops a.tmps)=cnd)
  (ho:o.op=.call { callee:=.value (.func f),args:=(q::l).toArray,argTypes:=ts }) (hf:gb P f=true) (hqv:cnd=true->a.eval q=v0) (hp:p<Gs.length) (hx:cnd=true->ArgsR M (λ s=>(L++eB O).lookup s) l xr) (hfn:cnd=true->fP P f oy y xr y' (.eE (dt r)))
  (ks:List Nat) (hk:ff ks L=some L2) (qs:List Nat) (hq:fi L O qs p=some O2) (hsn:L2.lookup sb=none) (hne:sb≠d)
  (next:∀ G'' M' a' w',Sx F N M0 M' (Gs.set p G'') ((d,Dt.kt cnd (dt r))::L2) ((sb,p,eJ oy G'' (if cnd=true then y' else y) v0 [])::O2) a' w'->wpList P ops Q rest a' w'):wpList P ops Q (o::rest) a w:=by
 have hv0:=(h.st.has sb _ hs).1;cases hc:cnd with
 |true=>
  rw[hc] at hw;refine HN hw ?_;refine h.kV (yd:=Dt.kt cnd (dt r)) p (h.lr (y':=y') (hs:=hs) (hG:=hG)) ?_ ho hf ((hqv hc).trans hv0.symm) hp (hx hc) ?_ ks hk qs hq hsn hne (@λ G'' M' a' w' st=>next G'' M' a' w' ?_)
  .simp[fH,hd,hN]
  .intro M0 G w v vs hm hgm hv hr;refine(hfn hc M0 G w v vs hm hgm hv hr).mono λ en w' ⟨u,G',Gr,k1,k2,k3,k4,k5,k6,k7,k8,k9⟩=>⟨u,G',Gr,k1,k2,k3,k4,k5,k6,k7,⟨λ _=>k8,λ hf=>?_⟩,Z⟩
   rw[hc] at hf;cases hf
  .rw[hc] at st;rw[hc,Ke Z];exact st
 |false=>
  rw[hc] at hw;obtain⟨k1,k2,_⟩:=h.st.has sb _ hs;unfold wpList;rw[Kf (by rw[hw];decide),hd];have hset:Gs.set p (zj Gs p)=Gs:=by
   apply aZ;intro n;by_cases hn:p=n
   .subst hn;rw[aI hp,aa hp]
    congr 1
    funext b
    unfold zj;rw[aa hp]
   .rw[aG hn]
  have fK:=(h.kE hp (Grown.refl _ w) hk hq).gu (x:=eJ oy _ y v0 []) hsn ⟨k1,(let⟨cs,k3,k4⟩:=k2;⟨cs,oy.more k3 hG,k4⟩),λ q hq _=>by cases hq⟩ (λ _ h=>h);refine next (zj Gs p) M _ w ?_;rw[hset,hc,Kf (by decide)];exact fK.nY hN ⟨λ h=>(by cases h),λ _=>rfl⟩ rfl
theorem Sx.Lg{oy:Ow β}{want b:Bool}{y y':β}{r:γ}(h:Sx F N M0 M Gs L O a w)(p:Nat)
  (hs:(L++eB O).lookup sb=some (eJ oy.box G ⟨y⟩ v0 cf)) (hG:∀ b,G b->zj Gs p b) (hh:nE o N ops=some (d,e,j,want)) (hb:(L++eB O).lookup e=some (Dt.kt c (dt b)))
  (ho:o.op=.call { callee:=.value (.func f),args:=(q::l).toArray,argTypes:=ts }) (hf:gb P f=true) (hqv:(c&&(b == want))=true->a.eval q=v0) (hp:p<Gs.length) (hx:(c&&(b == want))=true->ArgsR M (λ s=>(L++eB O).lookup s) l xr) (hfn:(c&&(b == want))=true->fP P f oy.box ⟨y⟩ xr ⟨y'⟩ (.eE (dt r)))
  (ks:List Nat) (hk:ff ks L=some L2) (qs:List Nat) (hq:fi L O qs p=some O2) (hsn:L2.lookup sb=none) (hne:sb≠d)
  (next:∀ G'' M' a' w',Sx F N M0 M' (Gs.set p G'') ((d,Dt.kt (c&&(b == want)) (dt r))::L2) ((sb,p,eJ oy.box G'' ⟨if(c&&(b == want))=true then y' else y⟩ v0 [])::O2) a' w'->wpList P ops Q rest a' w'):wpList P ops Q (o::rest) a w:=by
 obtain⟨hg,hd,hj,hN,hE⟩:=xR hh;have h1:=h.st.has e _ hb;have hlt:e<a.tmps.size:=by rw[h.st.size];exact hE
 have hat:a.tmps[e]?=some (Act.at a e):=by
  unfold Act.at;rw[ce,an hlt];rfl
 have hw:Region.wanted o (yielded ops a.tmps)=(c&&(b == want)):=by
  cases hc:c with
  |true=>have h2:=zB (h1.1 hc);simp[Region.wanted,hg,yielded,hj,hat,h2]
  |false=>have h2:=h1.2 hc;simp[Region.wanted,hg,yielded,hj,hat,h2,undef]
 exact h.Lh p hs hG hd hN hw ho hf hqv hp hx hfn ks hk qs hq hsn hne λ G'' M' a' w' st=>next G'' M' a' w' (by rw[Fv] at st;exact st)
end
theorem GP{α β:Type}[ey α][ey β]{look:Nat->Option Dt}{ow:Ow β}{x:β}{ys:List α}{upd:List α->β}(hP:PH ow x v0 cf (Ow.row e Ow.eE) b off ys upd)(hm:(c,b,off,u)∈cf)(hc:c=true)(hf:Fits (List α) u)(hs:look sb=some (eJ ow G x v0 cf))(hq:eC M look q (fk u)):∀ (w:World) (a:Act),(∀ s y,look s=some y->y.rd M w (Act.at a s))->ny M w (a.eval q) ys:=λ w a hl=>by
 obtain⟨h1,⟨cs,h2,h3⟩,h4⟩:=hl sb _ hs;obtain⟨C,e',hh,hsz,_,G1,G2,_,_,_,_,_,hr,_⟩:=(hP.of h2 h3 h4).here;have hu:=rF hf hh hsz (h4 _ hm hc).2.2;have hsv:=hq w a hl;obtain⟨v,hv,h5⟩:=hr;rw[hv] at hu;have hu:=hu;rw[hsv,hu];rcases h5 with⟨g,cap,cur,Gr,hg,hb,k1,k2,k3,k4,k5,k6,k7⟩ | ⟨hx0,A,hA⟩
 .refine⟨_,cap,hg,.inr ⟨g,0,_,Z,λ j u hj=>?_,JM k7⟩⟩;rw[aw] at hj;split at hj
  .rw[aD];have:cur[j]?=some u:=by simpa using hj
   simp[World.cell?,hb,this]
  .cases hj
 .exact⟨A,0,by rw[hA,hx0];rfl,.inl hx0⟩
theorem Gq{α:Type}[ey α]{look:Nat->Option Dt}{ys r:List α}(ho:o.op=.call { callee:=.builtin .append,args:=#[q,qx],argTypes:=#[t,t] })(hel:iH P t e (ey.size α) bytes=true)
  (hs:eC M look q (eQ none e ([]:List α))) (hx:∀ (w:World) (a:Act),(∀ s y,look s=some y->y.rd M w (Act.at a s))->ny M w (a.eval qx) ys) (hm:fE bytes [] ys=some r):eP P M look o (dt r):=
 λ a w hmok hl=>by
  unfold fE at hm;split at hm
  .rename_i hsz;injection hm with hm;subst hm;have hM:∀ k,gp none M k->M k:=λ k hk=>hk.elim id λ e=>by cases e
   have hx':ny _ w _ ys:=let⟨A,c,h1,h2⟩:=hx w a hl;⟨A,c,h1,h2.imp id λ⟨b,off,cells,hA,hc,hr⟩=>⟨b,off,cells,hA,hc,wN (λ k _ hk=>hM k hk) hr⟩⟩;obtain⟨v',w',g',hrun,hv',hgr,hg',hlt⟩:=Ww (ty:=o.type) hel ((eQ none e _).weak (hs w a hl) λ k _ hk=>hM k hk) hx' hsz.1 (by unfold maxLen;omega);have hex:fy w w':=⟨hgr.os,hgr.tape,hgr.output,hgr.size,λ k hk=>hgr.block k hk (by simp)⟩;refine fb.iw (w':=w') ?_ ⟨hex,JJ hv' (λ b _ hb=>.inl hb) λ b hb hm=>?_⟩
   .unfold execOp;simp[ho,resolve,invoke,builtin,hrun]
   .rcases hg' with h1 | h1
    .rw[h1] at hb;cases hb
    .have h2:=h1 b hb;have h3:=hmok b hm;omega
  .cases hm
theorem B0{α:Type}[ey α]{look:Nat->Option Dt}{ys r:List α}(ho:o.op=.call { callee:=.builtin .append,args:=#[q,qx],argTypes:=#[t,t] })(hel:iH P t e (ey.size α) bytes=true)
  (hs:eC M look q (eQ none e ([]:List α))) (hx:eC M look qx (dt ys)) (hm:fE bytes [] ys=some r):eP P M look o (dt r):=
 Gq ho hel hs (λ w a hl=>yW M w _ (hx w a hl)) hm
section
variable{α β γ:Type}[ey α][ey β][ey γ]
variable{fn:Func}{T:Prop}{look:Nat->Option Dt}
theorem Sx.tY(h:Sx F N M0 M Gs L O a w)(p:Nat)(qs:List Nat)
  (next:∀ a',Sx F N M0 M Gs L ((d,p,X)::O2) a' w->wpList P ops Q rest a' w)(hh:fH o N=some d:=by rfl)(ho:o.op=.move q:=by rfl)(hq:q=.tmp s:=by rfl)(hs:(L++eB O).lookup s=some X:=by rfl)(hX:∀ b,X.own b->zj Gs p b:=by exact λ _ h=>h)(hdn:L.lookup d=none:=by rfl)(hsel:fi L O qs p=some O2:=by rfl):wpList P ops Q (o::rest) a w:=by
 obtain⟨hgd,hd,hN⟩:=zK hh;refine av hgd λ K hK=>fb.wp (fb.iw (v:=Act.at a s) (w':=w) ?_ ?_)
 .unfold execOp;rw[ho,hq];simp only[ar];rfl
 .rw[hd];exact hK _ _ (next _ ((h.drop hsel).iG hN hdn (h.st.has s _ hs) hX))
variable{f:Nat}
end
section
variable{fn:Func}
variable{α β γ:Type}[ey α][ey β][ey γ]
variable{e:Nat}
end
structure Pn(α:Type) where
 b:Nat
 x:α
section
variable{α:Type}[ey α]
instance:ey (Pn α) where
 size:=1
 agg:=false
 rdc M w cs y:=cs=[.pointer (some ⟨y.b,0,none⟩)]/\(eX y.x).rd M w (.pointer (some ⟨y.b,0,none⟩))
 len:=λ⟨h,_⟩=>by rw[h];rfl
 one _:=rfl
 pos:=Nat.one_pos
 oneCell:=λ⟨h,_⟩ c hc=>by
  rw[h] at hc;simp at hc;subst hc;rfl
 stable:=λ⟨h,hr⟩ e=>⟨h,(eX _).stable hr e⟩
 weak:=λ⟨h,hr⟩ e=>⟨h,(eX _).weak hr e⟩
def Ow.iz(o:Ow α):Ow (Pn α) where
 ro M G w cs y:=∃ (C:Array Value) (e:TypeId) (Gr:Nat->Prop),cs=[.pointer (some ⟨y.b,0,none⟩)]/\w.heap[y.b]?=some (.cells C e (0,0))/\G y.b/\¬ Gr y.b/\(∀ k,Gr k->G k)/\o.ro M Gr w C.toList y.x
 toR:=λ{M G w cs y} ⟨C,e,Gr,hc,hh,hG,hn,hs,hr⟩=>⟨hc,y.b,0,C.toList,Z,λ h=>h.2 hG,λ j u hj=>by
  rw[aD];have:C[j]?=some u:=by simpa using hj
  simp[World.cell?,hh,this],ey.weak (o.toR hr) λ k _ hk=>⟨hk.1,λ h=>hk.2 (hs k h)⟩⟩
 stable:=λ{M G w w' cs y} ⟨C,e,Gr,hc,hh,hG,hn,hs,hr⟩ k=>⟨C,e,Gr,hc,(k y.b (xM hh) (.inr hG)).trans hh,hG,hn,hs,o.stable hr (k.sub hs)⟩
 weak:=λ⟨C,e,Gr,hc,hh,hG,hn,hs,hr⟩ k=>⟨C,e,Gr,hc,hh,hG,hn,hs,o.weak hr k⟩
 more:=λ{M G G' w cs y} ⟨C,e,Gr,hc,hh,hG,hn,hs,hr⟩ k=>⟨C,e,Gr,hc,hh,k y.b hG,hn,λ i hi=>k i (hs i hi),hr⟩
theorem Ow.nt{o:Ow α}{cs:List Value}{y:Pn α}(h:o.iz.ro M G w cs y):o.box.ro M G w cs ⟨y.x⟩:=
 let⟨C,e,Gr,h⟩:=h;⟨y.b,C,e,Gr,h⟩
theorem Ow.pP{o:Ow α}{cs:List Value}{y:Bx α}(h:o.box.ro M G w cs y)(hc:cs=[.pointer (some ⟨b,0,none⟩)]):o.iz.ro M G w cs ⟨b,y.x⟩:=by
 obtain⟨b',C,e,Gr,h1,h2⟩:=h;rw[hc] at h1;have e2:b'=b:=by injection h1 with h1;injection h1 with h1;injection h1 with h1;injection h1 with h1;exact h1.symm
 subst e2;exact⟨C,e,Gr,hc,h2⟩
variable{β:Type}[ey β]
theorem HP.mono{oy:Ow β}{y:β}{R R':(Nat->Prop)->(Nat->Prop)->World->β->Prop}(h:HP oy M G w b off y R)(hR:∀ {M' G':Nat->Prop} {w':World} {y':β},R M' G' w' y'->R' M' G' w' y'):HP oy M G w b off y R':=by
 obtain⟨G1,G2,C,e,s1,s2,hb,n1,n2,hd,hh,hsz,hr,put⟩:=h;exact⟨G1,G2,C,e,s1,s2,hb,n1,n2,hd,hh,hsz,hr,λ hL hh' hy nb h1 g0 h2 h3=>hR (put hL hh' hy nb h1 g0 h2 h3)⟩
theorem VP.Mk{o:Ow α}{c:List Value}{y:Pn α}{R:(Nat->Prop)->(Nat->Prop)->World->Pn α->Prop}(h:VP o.iz M G w c y R):c=[.pointer (some ⟨y.b,0,none⟩)]/\VP o.box M G w c ⟨y.x⟩ (λ M' G' w' z=>R M' G' w' ⟨y.b,z.x⟩):=by
 obtain⟨G1,G2,s1,s2,hd,hr,put⟩:=h;obtain⟨C,e,Gr,hc,hk⟩:=hr;exact⟨hc,G1,G2,s1,s2,hd,Ow.nt ⟨C,e,Gr,hc,hk⟩,λ hL hy h1 h2 h3=>put hL (Ow.pP hy hc) h1 h2 h3⟩
theorem HP.iz{o:Ow α}{y:Pn α}{R:(Nat->Prop)->(Nat->Prop)->World->Pn α->Prop}(h:HP o.iz M G w b off y R):w.cell? ⟨b,off,none⟩=some (.pointer (some ⟨y.b,0,none⟩))/\HP o M G w y.b 0 y.x (λ M' G' w' z=>R M' G' w' ⟨y.b,z⟩):=by
 obtain⟨C,e,hh,hsz,hv⟩:=h.vp;obtain⟨hc,hb⟩:=hv.Mk;obtain⟨b',hc',hp⟩:=hb.box;rw[hc] at hc';have e2:b'=y.b:=by injection hc' with h1;injection h1 with h1;injection h1 with h1;injection h1 with h1;exact h1.symm
 subst e2;exact⟨by simp[World.cell?,hh,XO hc],hp⟩
theorem VN{τ:Type}{bs:List Nat}{xs:List τ}{y:τ}(h:bs[k]?=some b):(List.zipWith Pn.mk bs xs).set k ⟨b,y⟩=List.zipWith Pn.mk bs (xs.set k y):=by
 apply aZ;intro i;by_cases hi:k=i
 .subst hi;by_cases hx:k<xs.length
  .have hb:=zJ h;rw[aI (by rw[df];omega),dS.2 ⟨b,y,h,by rw[aI hx],Z⟩]
  .rw[List.getElem?_eq_none_iff.2 (by rw[bf,df];omega),List.getElem?_eq_none_iff.2 (by rw[df,bf];omega)]
 .rw[aG hi,List.getElem?_zipWith,List.getElem?_zipWith,aG hi]
theorem rI{τ:Type}{bs:List Nat}{xs:List (Bx τ)}(h:bs.length=xs.length):(List.zipWith Pn.mk bs (xs.map Bx.x)).length=xs.length:=by
 rw[df,bU];omega
theorem GM{M:Nat->Prop}{w:World}:∀ {bs:List Nat} {xs:List (Bx α)} {cells:List Value},bs.length=xs.length->gQ M w cells (List.zipWith Pn.mk bs (xs.map Bx.x))->gQ M w cells xs
 | [],[],_,_,h=>h
 |b::bs,x::xs,cells,hl,h=>by
  obtain⟨c,r,h1,⟨h2,h3⟩,h4⟩:=h;exact⟨c,r,h1,⟨_,h2,h3⟩,GM (by simpa using hl) h4⟩
 | [],_::_,_,hl,_=>by simp at hl
 | _::_,[],_,hl,_=>by simp at hl
def Ow.lk(φ:List Nat->Prop)(e:TypeId)(o:Ow α):Ow (List (Bx α)) where
 ro M G w cs xs:=∃ bs:List Nat,bs.length=xs.length/\φ bs/\(Ow.row e o.iz).ro M G w cs (List.zipWith Pn.mk bs (xs.map Bx.x))
 toR:=λ{M G w cs xs} ⟨bs,hl,_,h⟩=>by
  obtain⟨A,c,h1,h2,h3,h4⟩:=(Ow.row e o.iz).toR h;rw[rI hl] at h1 h2;refine⟨A,c,h1,h2,h3,?_⟩;rcases h4 with h4 | ⟨b,o',cells,ha,hb,hc,hr⟩
  .have:=bu List.length h4;rw[rI hl,cx] at this;exact .inl (dq.1 this)
  .exact .inr ⟨b,o',cells,ha,hb,hc,GM hl hr⟩
 stable:=λ⟨bs,hl,hp,h⟩ k=>⟨bs,hl,hp,(Ow.row e _).stable h k⟩
 weak:=λ⟨bs,hl,hp,h⟩ k=>⟨bs,hl,hp,(Ow.row e _).weak h k⟩
 more:=λ⟨bs,hl,hp,h⟩ k=>⟨bs,hl,hp,(Ow.row e _).more h k⟩
def B5(ps:List (Nat×Nat))(bs:List Nat):Prop:=∀ q∈ps,bs[q.1]?=some q.2
def rm(ps:List (Nat×Nat))(n b:Nat)(bs:List Nat):Prop:=B5 ps bs/\(n<bs.length->bs[n]?=some b)
abbrev Ow.ig(ps:List (Nat×Nat))(e:TypeId)(o:Ow α):Ow (List (Bx α)):=Ow.lk (B5 ps) e o
variable{o:Ow α}
def lB{γ:Type}[ey γ](o1 o2:Ow γ)(x:γ):Prop:=∀ {M G:Nat->Prop} {w:World} {cs:List Value},o1.ro M G w cs x->o2.ro M G w cs x
def lQ{γ:Type}[ey γ](o1:Ow γ)(o2:Nat->Ow γ)(x:γ):Prop:=∀ {M G:Nat->Prop} {w:World} {cs:List Value},o1.ro M G w cs x->∃ b,(o2 b).ro M G w cs x
variable{o1:Ow α}{γ δ:Type}
theorem wh{o2:Ow α}{x:Bx α}(h:lB o1 o2 x.x):lB o1.box o2.box x:=λ⟨b,C,e,Gr,h1,h2,h3,h4,h5,h6⟩=>⟨b,C,e,Gr,h1,h2,h3,h4,h5,h h6⟩
theorem Xf{o2:Nat->Ow α}{x:Bx α}(h:lQ o1 o2 x.x):lQ o1.box (λ b=>(o2 b).box) x:=λ⟨b,C,e,Gr,h1,h2,h3,h4,h5,h6⟩=>let⟨b',h7⟩:=h h6;⟨b',b,C,e,Gr,h1,h2,h3,h4,h5,h7⟩
theorem Om[ey γ]{f:δ->γ}{o1 o2:Ow γ}{x:δ}(h:lB o1 o2 (f x)):@lB δ (ey.ku f) (Ow.via f o1) (Ow.via f o2) x:=λ hr=>h hr
theorem Oh[ey γ]{f:δ->γ}{o1:Ow γ}{o2:Nat->Ow γ}{x:δ}(h:lQ o1 o2 (f x)):@lQ δ (ey.ku f) (Ow.via f o1) (λ b=>Ow.via f (o2 b)) x:=λ hr=>h hr
section
variable{β γ:Type}[ey β][ey γ]
theorem Oi{o1 o2:Ow β}{c:Ow γ}{x:β×γ}(h:lB o1 o2 x.1):lB (o1.pr c) (o2.pr c) x:=λ⟨G1,G2,c1,c2,h1,h2,h3,h4,h5,h6⟩=>⟨G1,G2,c1,c2,h1,h2,h3,h4,h h5,h6⟩
theorem uO{o1 o2:Ow γ}{c:Ow β}{x:β×γ}(h:lB o1 o2 x.2):lB (c.pr o1) (c.pr o2) x:=λ⟨G1,G2,c1,c2,h1,h2,h3,h4,h5,h6⟩=>⟨G1,G2,c1,c2,h1,h2,h3,h4,h5,h h6⟩
theorem Of{o1:Ow β}{o2:Nat->Ow β}{c:Ow γ}{x:β×γ}(h:lQ o1 o2 x.1):lQ (o1.pr c) (λ b=>(o2 b).pr c) x:=λ⟨G1,G2,c1,c2,h1,h2,h3,h4,h5,h6⟩=>let⟨b,h7⟩:=h h5;⟨b,G1,G2,c1,c2,h1,h2,h3,h4,h7,h6⟩
theorem Ab{o1:Ow γ}{o2:Nat->Ow γ}{c:Ow β}{x:β×γ}(h:lQ o1 o2 x.2):lQ (c.pr o1) (λ b=>c.pr (o2 b)) x:=λ⟨G1,G2,c1,c2,h1,h2,h3,h4,h5,h6⟩=>let⟨b,h7⟩:=h h6;⟨b,G1,G2,c1,c2,h1,h2,h3,h4,h5,h7⟩
end
def sQ(c:Bool)(k b:Nat)(ps:List (Nat×Nat)):List (Nat×Nat):=if c=true then(k,b)::ps else ps
theorem GC(h:c=true):(k,b)∈sQ c k b ps:=by unfold sQ;rw[Ke h];exact .head _
theorem GD{q:Nat×Nat}(h:q∈ps):q∈sQ c k b ps:=by
 unfold sQ;split
 .exact .tail _ h
 .exact h
theorem Og{xs:List (Bx α)}(hk:c=true->k<xs.length):lQ (Ow.ig ps e o) (λ b=>Ow.ig (sQ c k b ps) e o) xs:=
 λ⟨bs,hl,hp,hr⟩=>by
  cases c with
  | false=>exact⟨0,bs,hl,λ q hq=>hp q hq,hr⟩
  |true=>have hk:=hk Z;exact⟨bs[k],bs,hl,λ q hq=>(aj.1 hq).elim (λ e=>by rw[e];exact aa (by omega)) (hp q),hr⟩
theorem xz{xs:List (Bx α)}(hs:∀ q∈ps',q∈ps):lB (Ow.ig ps e o) (Ow.ig ps' e o) xs:=
 λ⟨bs,hl,hp,hr⟩=>⟨bs,hl,λ q hq=>hp q (hs q hq),hr⟩
theorem XP{xs:List (Bx α)}(hk:k<xs.length):lQ (Ow.ig ps e o) (λ b=>Ow.ig ((k,b)::ps) e o) xs:=
 λ⟨bs,hl,hp,hr⟩=>⟨bs[k],bs,hl,λ q hq=>(aj.1 hq).elim (λ e=>by rw[e];exact aa (by omega)) (hp q),hr⟩
theorem Oj{xs:List (Bx α)}:lB (Ow.ig ps e o) (Ow.lk (rm ps xs.length b) e o) xs:=
 λ⟨bs,hl,hp,hr⟩=>⟨bs,hl,⟨hp,λ h=>by omega⟩,hr⟩
theorem Ol{xs:List (Bx α)}{n:Nat}(hn:n<xs.length):lB (Ow.lk (rm ps n b) e o) (Ow.ig ((n,b)::ps) e o) xs:=
 λ⟨bs,hl,hp,hr⟩=>⟨bs,hl,λ q hq=>(aj.1 hq).elim (λ e=>by rw[e];exact hp.2 (by omega)) (hp.1 q),hr⟩
theorem Ow.LM{P:Nat->Prop}{cs:List Value}(h:(Ow.row e o.iz).ro P noB w cs []):(Ow.ig [] e o).ro P noB w cs []:=⟨[],Z,(λ _ h=>by cases h),h⟩
theorem VP.lk{c:List Value}{xs:List (Bx α)}{R:(Nat->Prop)->(Nat->Prop)->World->List (Bx α)->Prop}{k bk:Nat}{z:Bx α}(h:VP (Ow.lk φ e o) M G w c xs R)(hk:∀ bs,φ bs->bs[k]?=some bk)(hz:xs[k]?=some z):∃ g cap,c=[.slice (some ⟨g,0,none⟩) xs.length cap]/\HP o.iz M G w g k ⟨bk,z.x⟩ (λ M' G' w' y'=>y'.b=bk->R M' G' w' (xs.set k ⟨y'.x⟩)):=by
 obtain⟨G1,G2,s1,s2,hd,⟨bs,hl,hp,hr⟩,put⟩:=h;have hb:=hk bs hp;have hzz:(List.zipWith Pn.mk bs (xs.map Bx.x))[k]?=some ⟨bk,z.x⟩:=by
  rw[dS];exact⟨bk,z.x,hb,by rw[be,hz];rfl,Z⟩
 have h0:VP _ M G w c _ (λ M' G' w' ys=>∀ xs':List _,xs'.length=xs.length->ys=List.zipWith Pn.mk bs _->R M' G' w' xs'):=
  ⟨G1,G2,s1,s2,hd,hr,λ hL hy h1 h2 h3=>λ xs' hl' hxs=>put hL ⟨bs,by omega,hp,by rw[<-hxs];exact hy⟩ h1 h2 h3⟩
 obtain⟨g,cap,hc,hq⟩:=h0.row hzz;rw[rI hl] at hc;rw[show ey.size _=1 from Z,cj] at hq;refine⟨g,cap,hc,hq.mono λ{M' G' w' y'} h5 e5=>?_⟩;obtain⟨b',y'⟩:=y';subst e5;exact h5 _ (by rw[bf]) (by rw[VN hb,el])
theorem HP.lk{xs:List (Bx α)}{R:(Nat->Prop)->(Nat->Prop)->World->List (Bx α)->Prop}{k bk:Nat}{z:Bx α}(h:HP (Ow.lk φ e o) M G w b off xs R)(hk:∀ bs,φ bs->bs[k]?=some bk)(hz:xs[k]?=some z):∃ g cap,w.cell? ⟨b,off,none⟩=some (.slice (some ⟨g,0,none⟩) xs.length cap)/\HP o.iz M G w g k ⟨bk,z.x⟩ (λ M' G' w' y'=>y'.b=bk->R M' G' w' (xs.set k ⟨y'.x⟩)):=by
 obtain⟨C,e,hh,hsz,hv⟩:=h.vp;obtain⟨g,cap,hc,h1⟩:=hv.lk hk hz;exact⟨g,cap,by simp[World.cell?,hh,XO hc],h1⟩
theorem HP.LL{xs:List (Bx α)}{R:(Nat->Prop)->(Nat->Prop)->World->List (Bx α)->Prop}(h:HP (Ow.lk φ e o) M G w b off xs R):∃ (g:Nat) (A:Option Addr) (cap:Nat),(xs.length≠0->A=some ⟨g,0,none⟩)/\w.cell? ⟨b,off,none⟩=some (.slice A xs.length cap):=by
 obtain⟨C,e',hh,hsz,hv⟩:=h.vp;obtain⟨G1,G2,s1,s2,hd,⟨bs,hl,hp,hr⟩,put⟩:=hv;have h0:VP _ M G w _ _ (λ _ _ _ _=>True):=⟨G1,G2,s1,s2,hd,hr,λ _ _ _ _ _=>trivial⟩;obtain⟨_,_,_,_,_,hr,_⟩:=h0;obtain⟨v,hv,h3⟩:=hr;have e1:w.cell? ⟨b,off,none⟩=some v:=by simp[World.cell?,hh,XO hv]
 rcases h3 with⟨g,cap,cur,Gr,hg,h4⟩ | ⟨hx,A,hA⟩
 .rw[rI hl] at hg;exact⟨g,_,cap,λ _=>Z,by rw[e1,hg]⟩
 .have e2:=bu List.length hx;rw[rI hl,cx] at e2;exact⟨0,A,0,λ hne=>absurd e2 hne,by rw[e1,hA,e2]⟩
theorem B6(hk:(k,bk)∈ps):∀ bs,B5 ps bs->bs[k]?=some bk:=λ _ h=>h _ hk
theorem PH.ig{γ:Type}[ey γ]{ow:Ow γ}{x:γ}{v0:Value}{cf:CF}{b off:Nat}{ys:List (Bx α)}{upd:List (Bx α)->γ}(h:PH ow x v0 cf (Ow.ig ps e o) b off ys upd){k bk:Nat}{z:Bx α}(hk:(k,bk)∈ps)(hz:ys[k]?=some z):PH ow x v0 cf o bk 0 z.x (λ y'=>upd (ys.set k ⟨y'⟩)):=
 ⟨λ h1 h2 h3=>let⟨_,_,_,h4⟩:=(h.of h1 h2 h3).lk (B6 hk) hz;h4.iz.2.mono λ h5=>h5 Z⟩
end
section
variable{fn:Func}{op:Oper}{T:Prop}
variable{α γ:Type}[ey α][ey γ]{look:Nat->Option Dt}{o:Ow α}
variable{o1:Ow γ}{ys:List (Bx α)}
theorem Sx.mb{ow:Ow γ}{x:γ}{upd:List (Bx α)->γ}(h:Sx F N M0 M Gs L O a w)(p:Nat)(c:Bool)(hP:c=true->PH ow x v0 cf (Ow.lk φ e o) b off ys upd)(qs:List Nat)
  (next:∀ (g:Nat) (A:Option Addr) (cap:Nat),(ys.length≠0->c=true->A=some ⟨g,0,none⟩)->Sx F N M0 M Gs L ((s,p,eJ ow G x v0 ((c,b,off,.slice A ys.length cap)::cf))::O2) a w->T)(hs:(L++eB O).lookup s=some (eJ ow G x v0 cf):=by rfl)(hn:L.lookup s=none:=by rfl)(hG:∀ b,G b->zj Gs p b:=by exact λ _ h=>h)(hq:fi L O qs p=some O2:=by rfl):T:=by
 obtain⟨h1,⟨cs,h2,h3⟩,h4⟩:=h.st.has s _ hs;have:∃ (g:Nat) (A:Option Addr) (cap:Nat),(ys.length≠0->c=true->A=some ⟨g,0,none⟩)/\(c=true->G b/\b<w.heap.size/\QD w b off (.slice A ys.length cap)):=by
  cases c with
  | false=>exact⟨0,none,0,⟨(λ _ h=>by cases h),(λ h=>by cases h)⟩⟩
  |true=>have hp:=(hP Z).of h2 h3 h4;obtain⟨_,_,hh,_,hGb,_⟩:=hp.here;obtain⟨g,A,cap,hA,hc⟩:=hp.LL;exact⟨g,A,cap,λ h _=>hA h,λ _=>⟨hGb,xM hh,hc⟩⟩
 obtain⟨g,A,cap,hA,hb'⟩:=this;refine next g A cap hA ((h.drop hq).gu hn ⟨h1,⟨cs,h2,h3⟩,λ q hq' hb=>?_⟩ hG);rcases aj.1 hq' with rfl | hq'
 .exact hb' hb
 .exact h4 q hq' hb
theorem mO{ow:Ow γ}{k' g n cap:Nat}{x:γ}{upd:List (Bx α)->γ}{z:Bx α}(hP:PH ow x v0 cf (Ow.ig ps e o) b off ys upd)(hh:(c,b,off,.slice A n cap)∈cf)(hc:c=true)(hA:n≠0->A=some ⟨g,0,none⟩)(hk:(k,bk)∈ps)(hz:ys[k]?=some z)(hkk:k'=k)(ho:op.op=.load t q)(ht:fM P t false 1=true)(hq:eC M look q (fk (.pointer (some ⟨g,k',none⟩))))(hs:look sb=some (eJ ow G x v0 cf)):eP P M look op (fk (.pointer (some ⟨bk,0,none⟩))):=
 zz λ a w _ hl=>by
  subst hkk;obtain⟨h1,⟨cs,h2,h3⟩,h4⟩:=hl sb _ hs;obtain⟨g',cap',e1,hpin⟩:=(hP.of h2 h3 h4).lk (B6 hk) hz;obtain⟨e2,_⟩:=hpin.iz;have e3:w.cell? _=some _:=(h4 _ hh hc).2.2;simp only at e3;rw[e1] at e3;injection e3 with e3;injection e3 with e4 e5 e6;have hlt:=zJ hz;rw[hA (by omega)] at e4;have e7:g'=g:=by injection e4 with e4;injection e4 with e4
  subst e7;have hv:a.eval q=.pointer _:=hq w a hl;refine⟨.pointer _,?_,Z⟩;have:=yA (cs:=[.pointer _]) ht Z (λ _=>Z) (λ j u hj=>by
   cases j with
   | zero=>simp at hj;subst hj;simpa using e2
   | succ j=>simp at hj)
  unfold execOp;rw[ho];simp[Instr.loadAt,Instr.sureAddr,hv,this,gI]
theorem Sx.DJ{o2:Ow γ}{x:γ}(h:Sx F N M0 M Gs L O a w)(p:Nat)(hs:(L++eB O).lookup s=some (eJ o1 G x v0 cf))(hn:L.lookup s=none)(hG:∀ b,G b->zj Gs p b)(hw:lB o1 o2 x)(qs:List Nat)(hq:fi L O qs p=some O2):Sx F N M0 M Gs L ((s,p,eJ o2 G x v0 cf)::O2) a w:=by
 obtain⟨h1,⟨cs,h2,h3⟩,h4⟩:=h.st.has s _ hs;exact(h.drop hq).gu hn ⟨h1,⟨cs,hw h2,h3⟩,h4⟩ hG
theorem Sx.mI{ow:Nat->Ow γ}{x:γ}(h:Sx F N M0 M Gs L O a w)(p:Nat)(hw:lQ o1 ow x)(qs:List Nat)(next:∀ b:Nat,Sx F N M0 M Gs L ((s,p,eJ (ow b) G x v0 cf)::O2) a w->T)(hs:(L++eB O).lookup s=some (eJ o1 G x v0 cf):=by rfl)(hn:L.lookup s=none:=by rfl)(hG:∀ b,G b->zj Gs p b:=by exact λ _ h=>h)(hq:fi L O qs p=some O2:=by rfl):T:=by
 obtain⟨h1,⟨cs,h2,h3⟩,h4⟩:=h.st.has s _ hs;obtain⟨b,h5⟩:=hw h2;exact next b ((h.drop hq).gu hn ⟨h1,⟨cs,h5,h3⟩,h4⟩ hG)
theorem MT{β β':Type}{xs ys r:List β}{xs' ys':List β'}(h:fE by_ xs ys=some r)(h1:xs'.length=xs.length)(h2:ys'.length=ys.length):r=xs++ys/\fE by_ xs' ys'=some (xs'++ys'):=by
 unfold fE at h ⊢;rw[h1,h2];split at h
 .rename_i hc;injection h with h;exact⟨h.symm,by rw[Ke hc]⟩
 .cases h
theorem Sg{cs:List Value}{bs:List Nat}{xs:List (Bx α)}{y:α}(hl:bs.length=xs.length)(hp:rm ps xs.length b bs)(h:(Ow.row e o.iz).ro M G w cs (List.zipWith Pn.mk bs (xs.map Bx.x)++[⟨b,y⟩])):(Ow.lk (rm ps xs.length b) e o).ro M G w cs (xs++[⟨y⟩]):=by
 refine⟨bs++[b],by simp[hl],⟨λ q hq=>?_,λ _=>?_⟩,?_⟩
 .have h1:=hp.1 q hq;rw[aN (zJ h1)];exact h1
 .rw[<-hl];simp
 .rw[eq,List.zipWith_append (by rw[bU];exact hl)];exact h
theorem Sx.Lq{Y:Dt}(h:Sx F N M0 M Gs L ((d,p,X)::O) a w)(hdn:L.lookup d=none)(hx:X.rd M w (Act.at a d)->Y.rd M w (Act.at a d))(ho:∀ b,Y.own b->X.own b):Sx F N M0 M Gs L ((d,p,Y)::O) a w:=by
 refine⟨⟨h.st.fr,h.st.size,h.st.defers,h.st.mok,λ s y hy=>?_⟩,h.ob,h.no,λ b hb=>h.ow.1 b (ho b hb),h.ow.2⟩;rcases yw hy with h1 | ⟨h0,h1⟩
 .exact h.st.has s y (yN h1)
 .simp only[eB,af] at h1;cases hb:s == d with
  |true=>
   simp only[hb] at h1;injection h1 with h1;subst h1;have e:s=d:=by simpa using hb
   subst e;exact hx (h.st.has s X (by rw[yi h0];simp[eB]))
  |false=>simp[hb] at h1;exact h.st.has s y (by rw[yi h0];simp[eB,af,hb,h1])
theorem Sx.K6{x n:Nat}{xs r:List (Bx α)}{y:α}(h:Sx F N M0 M Gs L O a w)(p p2:Nat)(hh:fH op N=some d)
  (ho:op.op=.call { callee:=.builtin .append,args:=#[.tmp s,.tmp x],argTypes:=#[t,t] }) (hel:iH P t e 1 bytes=true)
  (hs:(L++eB O).lookup s=some (eH (Ow.lk (rm ps n b) e o) G1 xs)) (hn:n=xs.length) (hx:(L++eB O).lookup x=some (eH (Ow.row e2 o.iz) G2 [⟨b,y⟩]))    (hG1:∀ b,G1 b->zj Gs p b) (hG2:∀ b,G2 b->zj Gs p2 b) (hm:fE bytes xs [⟨y⟩]=some r)
  (ks:List Nat) (hk:ff ks L=some L2) (qs:List Nat) (hq:fi L O qs p=some O2) (hO:O2.all (λ q=>q.2.1 != p2)=true) (hdn:L2.lookup d=none)
  (next:∀ G' M' a' w',n<r.length->Sx F N M0 M' ((Gs.set p G').set p2 (eA none)) L2 ((d,p,eH (Ow.lk (rm ps n b) e o) G' r)::O2) a' w'->wpList P ops Q rest a' w')(hp:p<Gs.length:=by simp)(hp2:p2<Gs.length:=by simp)(hne:p≠p2:=by decide):wpList P ops Q (op::rest) a w:=by
 subst hn;obtain⟨cs,⟨bs,hl,hφ,hr⟩,hv⟩:=h.st.has s _ hs;obtain⟨e1,e2⟩:=MT (xs':=List.zipWith Pn.mk bs _) (ys':=[(⟨b,y⟩:Pn α)]) hm (rI hl) Z;subst e1;refine h.DI p p2 hh ho hel ⟨cs,hr,hv⟩ (h.st.has x _ hx) hp hp2 hne hG1 hG2 e2 ks hk qs hq hO hdn λ G' M' a' w' st=>next G' M' a' w' (by simp) (st.Lq hdn (λ⟨cs',k1,k2⟩=>⟨cs',Sg hl hφ k1,k2⟩) λ _ h=>h)
end
section
variable{fn:Func}
variable{α β γ:Type}[ey α][ey β][ey γ]
variable{oo:Ow α}
theorem Sx.iD{x xr:α}(h:Sx (eG.ft w0 G) N M0 M Gs L O a w)(p:Nat)(hm:some x=some xr)(hr:fn.results=#[]:=by rfl)(hs:(L++eB O).lookup s=some (eJ oo G' x v0 cf):=by rfl)(hG:∀ b,G' b->zj Gs p b:=by exact λ _ h=>h):
  bodyPost P fn (ko M0 w0 G v0 oo xr .gone) .ret a w/\bodyPost P fn (ko M0 w0 G v0 oo xr .gone) .normal a w:=by
 injection hm with hm;subst hm;obtain⟨k1,⟨cs,k2,k3⟩,_⟩:=h.st.has s _ hs;have hM:∀ k,k<w.heap.size->(M0 k\/G' k)\/noB k->M k:=λ k _ hk=>hk.elim (λ hk=>hk.elim (h.ob.sub k) λ hk=>(h.ob.at_ p k (hG k hk)).2.1) λ h=>h.elim
 have key:bodyPost P fn (ko M0 w0 G v0 oo x .gone) .ret a w:=⟨h.st.defers,_,results_none hr a.tmps P w,_,G',noB,Z,h.st.fr,λ b hb=>(h.ob.at_ p b (hG b hb)).1,λ _ h=>h.elim,λ _ _ h=>h,λ b hb=>hb.elim (λ hb=>h.st.mok b (h.ob.at_ p b (hG b hb)).2.1) λ h=>h.elim,⟨cs,oo.weak k2 hM,k3⟩,trivial⟩;exact⟨key,key⟩
theorem Sx.LP{t u:Nat}{x xr:α}{y:β}{z:γ}{r:β×γ}(h:Sx (eG.ft w0 G) N M0 M Gs L O a w)(p:Nat)(hr:fn.results=#[.tmp t,.tmp u])(hl:(L++eB O).lookup t=some (dt y))(hl2:(L++eB O).lookup u=some (dt z))(hs:(L++eB O).lookup s=some (eJ oo G' x v0 cf))(hG:∀ b,G' b->zj Gs p b)
  (hm:some (x,y,z)=some (xr,r)):bodyPost P fn (ko M0 w0 G v0 oo xr (.eE (fZ [dt r.1,dt r.2]))) .ret a w:=by
 injection hm with hm;injection hm with h1 h2;subst h1;subst h2;obtain⟨k1,⟨cs,k2,k3⟩,_⟩:=h.st.has s _ hs;have hM:∀ k,k<w.heap.size->(M0 k\/G' k)\/noB k->M k:=λ k _ hk=>hk.elim (λ hk=>hk.elim (h.ob.sub k) λ hk=>(h.ob.at_ p k (hG k hk)).2.1) λ h=>h.elim
 exact⟨h.st.defers,_,results_tmp2 hr a.tmps P w,_,G',noB,Z,h.st.fr,λ b hb=>(h.ob.at_ p b (hG b hb)).1,λ _ h=>h.elim,λ _ _ h=>h,λ b hb=>hb.elim (λ hb=>h.st.mok b (h.ob.at_ p b (hG b hb)).2.1) λ h=>h.elim,
  ⟨cs,oo.weak k2 hM,k3⟩,⟨[_,_],Z,.cons ((dt y).weak (h.st.has t _ hl) hM) (.cons ((dt z).weak (h.st.has u _ hl2) hM) .nil),λ q hq=>by
   simp only[aj,aF,bI] at hq;rcases hq with rfl | rfl <;> rfl⟩,Z⟩
end
structure Np(α:Type) where
 o:Option α
instance {α:Type}:Inhabited (Np α):=⟨⟨none⟩⟩
instance {α:Type} [Inhabited α]:Inhabited (Bx α):=⟨⟨default⟩⟩
section
variable{α β γ:Type}[ey α][ey β][ey γ]
def Rv(M:Nat->Prop)(w:World)(cs:List Value):Option α->Prop
 | none=>cs=[.pointer none]
 | some x=>∃ v,cs=[v]/\(eX x).rd M w v
instance:ey (Np α) where
 size:=1
 agg:=false
 rdc M w cs x:=Rv M w cs x.o
 len:=λ{M w cs x} h=>by
  revert h
  cases x.o with
  | none=>intro h;rw[show cs=_ from h];rfl
  | some y=>rintro ⟨v,h,_⟩;rw[h];rfl
 one _:=rfl
 pos:=Nat.one_pos
 oneCell:=λ{M w cs x} h c hc=>by
  revert h
  cases x.o with
  |none=>intro h;rw[show cs=_ from h] at hc;simp at hc;subst hc;rfl
  |some y=>
   rintro ⟨v,h,b,o,_,hv,_⟩
   rw[h] at hc;simp at hc;subst hc;rw[hv];rfl
 stable:=λ{M w w' cs x} h e=>by
  revert h
  cases x.o with
  | none=>exact id
  | some y=>rintro ⟨v,h,hr⟩;exact⟨v,h,(eX _).stable hr e⟩
 weak:=λ{M M' w cs x} h e=>by
  revert h
  cases x.o with
  | none=>exact id
  | some y=>rintro ⟨v,h,hr⟩;exact⟨v,h,(eX _).weak hr e⟩
variable{fn:Func}{T:Prop}{look:Nat->Option Dt}
variable{oy:Ow β}
theorem eP.mono{x y:Dt}(h:eP P M look o x)(hxy:∀ {w:World} {v:Value},x.rd M w v->y.rd M w v):eP P M look o y:=λ a w hm hl=>(h a w hm hl).mono λ _ _ ⟨h1,h2⟩=>⟨h1,hxy h2⟩
theorem eP.bx{x:Bx α}(h:eP P M look o (dt x)):eP P M look o (eX x.x):=h.mono uC.1
def uG(P:Program)(g:α->Option β):Dt where
 rd M w v:=∃ (f:FuncId) (caps:List Value) (ds:List Dt),v=.func (.func f) #[] caps.toArray/\gb P f=true/\RdAll M w caps ds/\(∀ x∈ds,x.nb=true)/\∀ x y,g x=some y->Fn P f (eX x::ds) (dt y)
 own:=noB
 nb:=true
 nob _ _ h:=h
 stable:=by
  rintro M w w' v ⟨f,caps,ds,hv,hf,hr,hn,hg⟩ e
  exact⟨f,caps,ds,hv,hf,hr.stable hn e,hn,hg⟩
 weak:=by
  rintro M M' w v ⟨f,caps,ds,hv,hf,hr,hn,hg⟩ e
  exact⟨f,caps,ds,hv,hf,hr.weak e,hn,hg⟩
theorem T7{g:α->Option β}(ho:o.op=.makeFunc (.func f) #[] l.toArray)(hf:gb P f=true)(hx:ArgsR M look l ds)(hn:AU ds=true)(hg:∀ x y,g x=some y->Fn P f (eX x::ds) (dt y)):eP P M look o (uG P g):=
 zz λ a w _ hl=>by
  refine⟨.func _ #[] (l.map a.eval).toArray,?_,f,_,ds,Z,hf,hx.all hl,Kr hn,hg⟩;unfold execOp;rw[ho];simp[Instr.makeFunc]
theorem T3{s:Operand}{g:α->Option β}{x:α}{y:β}(ho:o.op=.call { callee:=.value s,args:=#[q],argTypes:=ts })(hs:eC M look s (uG P g))(hq:eC M look q (eX x))(hg:g x=some y):eP P M look o (dt y):=
 λ a w hm hl=>by
  obtain⟨f,caps,ds,hv,hf,hr,hn,hk⟩:=hs w a hl;refine fb.mK (f:=f) (args:=(a.eval q::caps).toArray) (w':=w) ?_ ?_
  .unfold execOp;rw[ho];simp[resolve,hv,Deferred.ofValue,invoke,xq hf]
  .exact(hk x y hg M w _ hm (.cons (hq w a hl) hr)).mono λ e w' ⟨v,he,hx,hr⟩=>⟨v,he,hx,hr⟩
theorem rp{ow:Ow α}{x:α}{y:β}{upd:β->α}(ob:mg F M0 M Gs)(p:Nat)(hP:PH ow x v0 cf oy bk 0 y upd)(hq:eC M look q (fk (.pointer (some ⟨bk,0,none⟩))))(hs:look sb=some (eJ ow G x v0 cf))(hG:∀ b,G b->zj Gs p b:=by exact λ _ h=>h):nx M M0 look q (eX y):=
 λ w a hl=>by
  obtain⟨h1,⟨cs,h2,h3⟩,h4⟩:=hl sb _ hs;obtain⟨C,e,hh,hsz,hGb,G1,G2,s1,s2,hd,_,_,hr,put⟩:=(hP.of h2 h3 h4).here;have hv:=hq w a hl;refine⟨bk,0,_,hv,λ hb=>(ob.at_ p bk (hG bk hGb)).2.2 hb,λ j u hj=>?_,ey.weak (oy.toR hr) λ b _ hb=>⟨ob.sub b hb,λ hg=>(ob.at_ p b (hG b (s1 b hg))).2.2 hb⟩⟩;rw[bR,aw] at hj;split at hj
  .rw[aD];have:C[j]?=some u:=by simpa using hj
   simp[World.cell?,hh,this]
  .cases hj
theorem Rb{ow:Ow α}{x:Bx α}(ob:mg F M0 M Gs)(p:Nat)(hG:∀ b,G b->zj Gs p b)(h:eC M look q (eJ ow.box G x v0 cf)):nx M M0 look q (eX x.x):=
 λ w a hl=>uC.1 (nn ob p (hG:=hG) h w a hl)
theorem rn{ow:Ow α}{x:Bx α}(ob:mg F M0 M Gs)(p:Nat)(hq:eC M look q (fk (.pointer (some ⟨b,0,none⟩))))(hs:look sb=some (eJ ow.box G x (.pointer (some ⟨b,0,none⟩)) cf))(hG:∀ b,G b->zj Gs p b:=by exact λ _ h=>h):nx M M0 look q (eX x.x):=
 λ w a hl=>by
  have h1:=Rb ob p hG (zb hs) w a hl;have hv:=hq w a hl;have hv2:a.eval (.tmp sb)=.pointer _:=(hl sb _ hs).1;rw[hv];rw[hv2] at h1;exact h1
theorem Sx.rT{ow:Ow α}{x:α}{ys:List (Bx β)}{z z':Bx β}{upd:List (Bx β)->α}(h:Sx F N M0 M Gs L O a w)(hP:PH ow x v0 cf (Ow.ig ps e oy) b off ys upd)(hk:(k,bk)∈ps)(hz:ys[k]?=some z)(hs:(L++eB O).lookup sb=some (eJ ow G x v0 cf):=by rfl)(hG:∀ b,G b->zj Gs p b:=by exact λ _ h=>h):nu M w Gs p (.pointer (some ⟨bk,0,none⟩)) (Act.at a sb) oy.box z z' (λ G''=>eJ ow G'' (upd (ys.set k z')) v0 []):=by
 obtain⟨h1,⟨cs,h2,h3⟩,h4⟩:=h.st.has sb _ hs;obtain⟨g,cap,_,hp⟩:=(hP.of h2 h3 h4).lk (B6 hk) hz;obtain⟨C,e,hh,hsz,_,G1,G2,s1,s2,hd,_,_,hr,put⟩:=hp.here;have hc:(C.toList.drop k).take (ey.size (Pn β))=[.pointer (some ⟨bk,0,none⟩)]:=by
  obtain⟨C2,e2,Gr,hc,_⟩:=hr;exact hc
 refine⟨⟨G1,λ b hb=>hG b (s1 b hb),⟨_,Ow.nt hr,by rw[hc];rfl⟩,λ{G' M' w' G''} hL hG' hr' hs'=>?_⟩,λ _ _ h=>h⟩;obtain⟨c',h5,h6⟩:=hr';obtain⟨u,hu1,hu2⟩:=BZ h5 Z;have e1:=hu2.symm.trans h6.symm;subst e1;have h7:=Ow.pP h5 hu1;rw[hu1,<-hc] at h7;have hlt:=λ b hb=>h.st.mok b (h.ob.at_ p b (hG b hb)).2.1
 have h8:=put (G'':=G'') (hL G2 λ b hb hb1=>hd b hb1 hb) h7 (λ k hk hk2=>(hG' k hk).elim (λ e=>hd k e hk2) λ e=>by have:=hlt k (s2 k hk2);omega) (λ k hk=>hs' k (.inr hk)) (λ k hk=>hs' k (.inl ⟨hG k (s2 k hk),λ e=>hd k e hk⟩)) Z;exact⟨h1,⟨cs,h8,h3⟩,λ q hq _=>by cases hq⟩
def ER(oy:Ow β)(G:Nat->Prop)(b:Nat)(y:β):Dt where
 rd M w _:=oy.iz.ro M G w [.pointer (some ⟨b,0,none⟩)] ⟨b,y⟩
 own:=G
 nb:=false
 nob h:=by cases h
 stable h k:=oy.iz.stable h k
 weak h k:=oy.iz.weak h k
theorem Sx.Mm{y:Bx β}(h:Sx F N M0 M Gs L O a w)(u p:Nat)(hs:(L++eB O).lookup s=some (eJ oy.box G y (.pointer (some ⟨b,0,none⟩)) cf))(hG:∀ b,G b->zj Gs p b)(hu:L.lookup u=none)(qs:List Nat)(hq:fi L O qs p=some O2)(hus:u≠s:=by decide):
  Sx F N M0 M Gs ((s,fk (.pointer (some ⟨b,0,none⟩)))::L) ((u,p,ER oy G b y.x)::O2) a w:=by
 obtain⟨h1,⟨cs,⟨b',C,e,Gr,hc,h2⟩,h3⟩,_⟩:=h.st.has s _ hs;have e2:b'=b:=by
  rw[hc] at h3;have:=h3;injection this with h5;injection h5 with h5;injection h5 with h5;exact h5.symm
 subst e2;have hb:(u == s)=false:=by simpa using hus
 exact((h.drop hq).lI h1).gu (by simp only[af,hb];exact hu) ⟨C,e,Gr,Z,h2⟩ hG
theorem GF{y:β}(hv:(fk (.pointer (some ⟨b,0,none⟩))).rd M w v)(hp:(ER oy G b y).rd M w u):oy.iz.ro M G w v.cells.toList ⟨b,y⟩:=by
 rw[show v=_ from hv];exact hp
theorem Sh(M:Nat->Prop)(w:World):(Ow.ig [] e oy).ro M noB w jJ []:=Ow.LM (Ow.gB M w)
def EN:Dt where
 rd _ _ _:=True
 own:=noB
 nb:=true
 nob _ _ h:=h
 stable h _:=h
 weak h _:=h
theorem fP.any{oo:Ow α}{x x':α}(h:fP P f oo x xs x' .gone):fP P f oo x xs x' (.eE EN):=λ M0 G w v vs h1 h2 h3 h4=>
 (h M0 G w v vs h1 h2 h3 h4).mono λ _ _ ⟨u,G',Gr,k1,k2,k3,k4,k5,k6,k7,_⟩=>⟨u,G',Gr,k1,k2,k3,k4,k5,k6,k7,trivial,Z⟩
theorem Sx.nT{ow:Ow α}{x:α}(h:Sx F N M0 M Gs L O a w)(p p2:Nat)
  (ks:List Nat)  (qs:List Nat)   
  (next:∀ b G' M' a' w',Sx F N M0 M' ((Gs.set p G').set p2 (eA none)) L2 ((d,p,eJ ow.box G' ⟨x⟩ (.pointer (some ⟨b,0,none⟩)) [])::O2) a' w'->wpList P ops Q rest a' w')(hh:fH o N=some d:=by rfl)(ho:o.op=.box t (.tmp s):=by rfl)(hs:(L++eB O).lookup s=some (eH ow G x):=by rfl)(hp:p<Gs.length:=by simp)(hp2:p2<Gs.length:=by simp)(hne:p≠p2:=by decide)(hG:∀ b,G b->zj Gs p2 b:=by exact λ _ h=>h)(hk:ff ks L=some L2:=by rfl)(hq:fi L O qs p=some O2:=by rfl)(hO:O2.all (λ q=>q.2.1 != p2)=true:=by rfl)(hdn:L2.lookup d=none:=by rfl):wpList P ops Q (o::rest) a w:=by
 obtain⟨hgd,hd,hN⟩:=zK hh;have hy:ow.ro M G w (Act.at a s).cells.toList x:=by
  obtain⟨cs,h1,h2⟩:=h.st.has s _ hs;rw[h2,ZS (ow.toR h1)];exact h1
 have he:fy w (w.alloc (.cells (Act.at a s).cells t)):=fy.alloc _ _;refine av hgd λ K hK=>fb.wp (fb.iw (v:=.pointer (some ⟨w.heap.size,0,none⟩)) (w':=w.alloc (.cells (Act.at a s).cells t)) ?_ ?_)
 .unfold execOp;rw[ho];simp[Instr.box,newVar,newRow,newObj,Qr,Act.np]
 .rw[hd];have h1:=h.kr (G':=eA _) hp ((Grown.kW he).mono λ b hb=>hb.elim) (λ b (hb:some w.heap.size=some b)=>by injection hb with hb;subst hb;exact⟨.inr (al _),by simp⟩) hk hq;have h2:=h1.mJ (by simpa using hp) (by simpa using hp2) hne hO;have e1:J3 (Gs.set p (eA (some w.heap.size))) p p2=(Gs.set p (λ b=>eA (some w.heap.size) b\/zj Gs p2 b)).set p2 (eA none):=by
   unfold J3;rw[bj]
   congr 2
   funext b
   rw[zf hp,zq hne]
  rw[e1] at h2;have hlt:=λ b hb=>h.st.mok b (h.ob.at_ p2 b (hG b hb)).2.1
  refine hK _ _ (next w.heap.size _ _ _ _ (h2.iG hN hdn ?_ λ b hb=>by rw[zq (br hne),zf hp];exact hb));refine⟨Z,⟨_,⟨w.heap.size,(Act.at a s).cells,t,G,Z,db w _,.inl Z,λ hg=>absurd (hlt _ hg) (cO _),λ b hb=>.inr (hG b hb),?_⟩,Z⟩,λ q hq _=>by cases hq⟩;refine ow.later hy ⟨λ k hk hm=>?_,λ k hk _=>he.block k hk⟩;rcases hm with hm | hm
  .exact hm.1
  .have:w.heap.size=k:=by injection hm
   omega
theorem RdAll.flat{M M':Nat->Prop}{w:World}:∀ {us:List Value} {xs:List Dt},RdAll M w us xs->(∀ x∈xs,Flat x)->RdAll M' w us xs
 | _,_,.nil,_=>.nil
 | _,_,.cons h r,k=>.cons (k _ (bF ..) _ _ _ _ h) (RdAll.flat r λ x hx=>k x (bD _ hx))
theorem N0(h:∀ x∈xs,Flat x):Flat (fZ xs):=λ _ _ _ _ ⟨us,hv,hr,hn⟩=>⟨us,hv,hr.flat h,hn⟩
theorem tm(h:Flat x)(k:Flat y):Flat (fZ [x,y]):=N0 λ z hz=>by
 simp at hz;rcases hz with rfl | rfl
 .exact h
 .exact k
theorem tx{x:fu}:Flat (dt x):=λ _ _ _ _ ⟨cs,h,hv⟩=>⟨cs,h,hv⟩
end
abbrev fm(b:Nat):Value:=.pointer (some ⟨b,0,none⟩)
def lP{α:Type}[ey α](k:Nat)(P:Program)(f:FuncId)(o:Ow α)(x:α)(xs:List Dt)(x':α)(r:Rd):Prop:=
 ∀
  (M0 G:Nat->Prop) (w:World) (v:Value) (vs:List Value),(∀ b,M0 b\/G b->b<w.heap.size)->(∀ b,G b->¬ M0 b)->(eH o G x).rd (λ b=>M0 b\/G b) w v->RdAll (λ b=>M0 b\/G b) w vs xs->
  Calls P f (vs.take k++v::vs.drop k).toArray w (ko M0 w G v o x' r)
theorem RdAll.ins{M:Nat->Prop}{w:World}{v:Value}{y:Dt}(hv:y.rd M w v):∀ (k:Nat) {vs:List Value} {xs:List Dt},RdAll M w vs xs->RdAll M w (vs.take k++v::vs.drop k) (xs.take k++y::xs.drop k)
 | 0,_,_,h=>by simpa using RdAll.cons hv h
 | _+1,_,_,.nil=>.cons hv .nil
 | k+1,_,_,.cons h1 h=>.cons h1 (RdAll.ins hv k h)
theorem Ki:∀ {xs ys:List Dt} {i:Nat},zL i (xs++ys)=zL i xs++zL (i+xs.length) ys
 | [],_,_=>rfl
 |_::xs,ys,i=>by
  show(i,_)::zL (i+1) (xs++ys)=(i,_)::(zL (i+1) xs++zL (i+(xs.length+1)) ys);rw[Ki,bJ,cK 1]
theorem Dw:∀ {xs:List Dt} {i s:Nat} {x:Dt},(zL i xs).lookup s=some x->i<=s/\s<i+xs.length
 | [],_,_,_,h=>by simp[zL] at h
 |y::xs,i,s,x,h=>by
  simp only[zL,af] at h;by_cases he:s=i
  .simp;omega
  .have hb:(s == i)=false:=by simpa using he
   simp only[hb] at h;have:=Dw h;simp only[aW];omega
theorem Ri{A B:Env}(hA:A.lookup k=none)(h:(A++B++[(k,X)]).lookup s=some y)(hB:B.lookup k=none):(A++(k,X)::B).lookup s=some y:=by
 by_cases he:s=k
 .subst he;rcases yw h with h1 | ⟨_,h1⟩
  .rcases yw h1 with h2 | ⟨_,h2⟩
   .rw[hA] at h2;cases h2
   .rw[hB] at h2;cases h2
  .rw[yi hA];simpa using h1
 .have hb:(s == k)=false:=by simpa using he
  rcases yw h with h1 | ⟨_,h1⟩
  .rcases yw h1 with h2 | ⟨h3,h2⟩
   .exact yN h2
   .rw[yi h3];simp only[af,hb];exact h2
  .simp only[af,hb,dL] at h1;cases h1
section
variable{fn:Func}{look:Nat->Option Dt}
variable{α β:Type}[ey α][ey β]
variable{oo:Ow α}{oy:Ow β}{x':α}{y':β}
theorem E8{c:Code}{x:α}(k p n:Nat)(hk:k<=rs.length)(hf:P.funcs[f]?=some fn)(hb:fn.body=some c)(hn:rs.length+1<=fn.ntmps)(hnb:W2 (zL 0 (rs.take k)++zL (k+1) (rs.drop k))=true)
  (h:∀ (M G:Nat->Prop) (w:World) (v:Value) (a:Act),Act.at a k=v->Sx (eG.ft w G) fn.ntmps M (λ b=>M b\/G b) ((List.replicate n (eA none)).set p G) (zL 0 (rs.take k)++zL (k+1) (rs.drop k)) [(k,p,eH oo G x)] a w->c.wp P (bodyPost P fn (ko M w G v oo x' r)) a w) (hp:p<n):lP k P f oo x rs x' r:=by
 intro M0 G w v vs hm hg hv hr;have hra:=hr.ins hv k;have hl:=hra.len;have hl':=hr.len;have hnth:∀ s y,(zL 0 _).lookup s=some y->y.rd (λ b=>M0 b\/G b) w (Act.at { tmps:=(vs.take k++v::vs.drop k).toArray++Array.replicate _ undef,defers:=[] } s):=λ s y hs=>by
  obtain⟨j,u,h1,h2,h3⟩:=hra.nth 0 s y hs;have hj:=(ai.1 h2).1;have h5:(vs.take k++v::vs.drop k).toArray[j]?=some u:=by rw[cw];exact h2
  have hj':j<(vs.take k++v::vs.drop k).toArray.size:=by rw[eb];exact hj
  have:s=j:=by omega
  subst this;have h4:Act.at { tmps:=(vs.take k++v::vs.drop k).toArray++Array.replicate (fn.ntmps - (vs.take k++v::vs.drop k).toArray.size) undef,defers:=[] } s=u:=by
   simp[Act.at];rw[bc hj',h5];rfl
  rw[h4];exact h3
 have hlen:p<(List.replicate n (eA none)).length:=by simpa using hp
 have hown:∀ q b,zj ((List.replicate n _).set p G) q b ↔ q=p/\G b:=λ q b=>by
  by_cases hq:p=q
  .subst hq;rw[zf hlen];simp
  .rw[zq hq];exact⟨λ h=>(Qx h).elim,λ h=>(hq h.1.symm).elim⟩
 have hkl:(rs.take k).length=k:=by rw[aJ];omega
 have hA:(zL 0 (rs.take k)).lookup k=none:=by
  cases hc:(zL 0 _).lookup k with
  | none=>rfl
  | some y=>have:=Dw hc;omega
 have hB:(zL (k+1) (rs.drop k)).lookup k=none:=by
  cases hc:(zL _ _).lookup k with
  | none=>rfl
  | some y=>have:=Dw hc;omega
 have hall:∀ s y,(zL 0 _++zL _ _++eB [(k,p,eH oo G x)]).lookup s=some y->(zL 0 (rs.take k++eH oo G x::rs.drop k)).lookup s=some y:=λ s y hs=>by
  rw[Ki,hkl,aD];exact Ri hA hs hB
 refine cU hf hb (h M0 G w v _ ?_ ?_)
 .have h1:(zL 0 _).lookup k=some (eH oo G x):=hall k _ (by
   rw[yi (by rw[yi hA];exact hB)];simp[eB])
  have hvl:(vs.take k).length=k:=by rw[aJ];omega
  have hj:k<(vs.take k++v::vs.drop k).toArray.size:=by simp;omega
  simp[Act.at];rw[bc hj,cw,aL (by omega),hvl,cv];rfl
 .refine⟨⟨Grown.refl _ _,by simp at hl ⊢;omega,Z,hm,λ s y hy=>hnth s y (hall s y hy)⟩,⟨λ b hb=>.inl hb,λ q b hb=>?_,λ q r b hne h1 h2=>hne (((hown q b).1 h1).1.trans ((hown r b).1 h2).1.symm)⟩,Wl hnb,⟨λ b hb=>(hown p b).2 ⟨Z,hb⟩,trivial⟩⟩;obtain⟨rfl,hb'⟩:=(hown q b).1 hb;exact⟨.inl hb',.inr hb',hg b hb'⟩
theorem sF{c:Code}{x x':Bx α}(k p n:Nat)(hf:P.funcs[f]?=some fn)(hb:fn.body=some c)(hnb:W2 (zL 0 (rs.take k)++zL (k+1) (rs.drop k))=true)
  (hl:(zL 0 (rs.take k)++zL (k+1) (rs.drop k)).lookup k=none)
  (h:∀ (M G:Nat->Prop) (w:World) (b:Nat) (a:Act),Sx (eG.ft w G) fn.ntmps M (λ b=>M b\/G b) ((List.replicate n (eA none)).set p G) (zL 0 (rs.take k)++zL (k+1) (rs.drop k)) [(k,p,eJ oo.box G x (.pointer (some ⟨b,0,none⟩)) [])] a w->c.wp P (bodyPost P fn (ko M w G (.pointer (some ⟨b,0,none⟩)) oo.box x' r)) a w) (hp:p<n:=by decide)(hk:k<=rs.length:=by simp)(hn:rs.length+1<=fn.ntmps:=by exact oD Z):lP k P f oo.box x rs x' r:=
 E8 k p n hk hf hb hn hnb (λ M G w v a hv st=>by
  have hs:((zL 0 (rs.take k)++zL (k+1) (rs.drop k))++eB [(k,p,eH oo.box G x)]).lookup k=some (eH oo.box G x):=by rw[yi hl];simp[eB]
  exact st.ie p (hs:=hs) (hn:=hl) (hG:=(vJ hp)) [] λ b st'=>by
   have e:v=.pointer (some ⟨b,0,none⟩):=by
    rw[<-hv];refine(st'.st.has k (eJ oo.box G x _ []) ?_).1;rw[yi hl];simp[eB]
   rw[e];exact h M G w b a st') hp
theorem E9{c:Code}{x:α}(k p n:Nat)(hf:P.funcs[f]?=some fn)(hb:fn.body=some c)(hnb:W2 (zL 0 (rs.take k)++zL (k+1) (rs.drop k))=true)
  (hl:(zL 0 (rs.take k)++zL (k+1) (rs.drop k)).lookup k=none)
  (h:∀ (M G:Nat->Prop) (w:World) (v0:Value) (a:Act),Sx (eG.ft w G) fn.ntmps M (λ b=>M b\/G b) ((List.replicate n (eA none)).set p G) (zL 0 (rs.take k)++zL (k+1) (rs.drop k)) [(k,p,eJ oo G x v0 [])] a w->c.wp P (bodyPost P fn (ko M w G v0 oo x' r)) a w) (hp:p<n:=by decide)(hk:k<=rs.length:=by simp)(hn:rs.length+1<=fn.ntmps:=by exact oD Z):lP k P f oo x rs x' r:=
 E8 k p n hk hf hb hn hnb (λ M G w v a hv st=>by
  have hs:((zL 0 (rs.take k)++zL (k+1) (rs.drop k))++eB [(k,p,eH oo G x)]).lookup k=some (eH oo G x):=by rw[yi hl];simp[eB]
  exact st.se p (hs:=hs) (hn:=hl) (hG:=(vJ hp)) [] λ v0 st'=>by
   have e:v=v0:=by
    rw[<-hv];refine(st'.st.has k (eJ oo G x v0 []) ?_).1;rw[yi hl];simp[eB]
   rw[e];exact h M G w v0 a st') hp
theorem Sx.cE{y:β}(h:Sx F N M0 M Gs L O a w)(p:Nat)(hh:fH o N=some d)
  (hx:(execOp a.eval o).run P w=.ok (.enter f args) w) (_hy:(eH oy G1 y).rd M w u) (hG1:∀ b,G1 b->zj Gs p b) (hp:p<Gs.length)
  (hfn:∀ M1:Nat->Prop,(∀ b,M1 b\/G1 b->b<w.heap.size)->(∀ b,G1 b->¬ M1 b)->(∀ k,M1 k\/G1 k->M k)->Calls P f args w (ko M1 w G1 u oy y' r))
  (ks:List Nat) (hk:ff ks L=some L2) (qs:List Nat) (hq:fi L O qs p=some O2)
  (next:∀ G' Gr M' v w',Sx F N M0 M' (Gs.set p (λ b=>((zj Gs p b/\¬ G1 b)\/G' b)\/Gr b)) L2 O2 a w'->(∀ G2:Nat->Prop,(∀ b,G2 b->¬ G1 b)->iq M G2 w M' w')->(∀ b,G' b->G1 b\/w.heap.size<=b)->(∀ b,Gr b->G1 b\/w.heap.size<=b)->(∀ b,G' b->¬ Gr b)->
   (eH oy G' y').rd M' w' u->r.rd M' Gr w' v->wpList P ops Q rest (a.put (some d) v) w'):wpList P ops Q (o::rest) a w:=by
 obtain⟨hgd,hd,hN⟩:=zK hh;have hGM:=λ b hb=>(h.ob.at_ p b (hG1 b hb)).2.1
 refine av hgd λ K hK=>fb.wp (fb.mK hx ?_)
 have hM:∀ k,((M k/\¬ G1 k)\/G1 k) ↔ M k:=λ k=>by
  refine⟨λ hk=>hk.elim (λ h=>h.1) (hGM k),λ hk=>?_⟩;by_cases e:G1 k
  .exact .inr e
  .exact .inl ⟨hk,e⟩
 refine(hfn (λ b=>M b/\¬ G1 b) (λ b hb=>h.st.mok b ((hM b).1 hb)) (λ b hb hm=>hm.2 hb) λ k hk=>(hM k).1 hk).mono λ en w' ⟨v,G',Gr,he,hgr,i1,i2,i3,i4,hv',hu⟩=>⟨v,he,?_⟩
 rw[hd];have h1:=h.kr (G':=λ b=>((zj Gs p b/\¬ G1 b)\/G' b)\/Gr b) hp (hgr.mono hG1) (λ b hb=>by
  rcases hb with(hb | hb) | hb
  .exact⟨.inl hb.1,ay (h.st.mok b (h.ob.at_ p b hb.1).2.1) hgr.size⟩
  .exact⟨(i1 b hb).imp (hG1 b) id,i4 b (.inl hb)⟩
  .exact⟨(i2 b hb).imp (hG1 b) id,i4 b (.inr hb)⟩) hk hq
 have hM':∀ k,(M k/\¬ zj Gs p k)\/((zj Gs p k/\¬ G1 k)\/G' k)\/Gr k->((M k/\¬ G1 k)\/G' k)\/Gr k:=λ k hk=>by
  rcases hk with hk | (hk | hk) | hk
  .exact .inl (.inl ⟨hk.1,λ e=>hk.2 (hG1 k e)⟩)
  .exact .inl (.inl ⟨(h.ob.at_ p k hk.1).2.1,hk.2⟩)
  .exact .inl (.inr hk)
  .exact .inr hk
 refine hK _ _ (next G' Gr _ _ _ h1 (λ G2 hd2=>⟨λ k hk hm=>?_,λ k hk hm=>hgr.block k hk λ e=>hm.elim (λ hm=>hm (hGM k e)) λ hm=>hd2 k hm e⟩) i1 i2 i3 ((eH oy G' y').weak hv' λ k _ hk=>hM' k hk) (r.weak hu λ k _ hk=>hM' k hk));rcases hM' k hm with(h2 | h2) | h2
 .exact h2.1
 .exact(i1 k h2).elim (hGM k) λ h=>by omega
 .exact(i2 k h2).elim (hGM k) λ h=>by omega
theorem Sx.tR{y:β}{mk:(Nat->Prop)->Dt}(h:Sx F N M0 M Gs L O a w)(k p:Nat)(bk:nu M w Gs p u (Act.at a sb) oy y y' mk)(hh:fH o N=some d)
  (ho:o.op=.call { callee:=.value (.func f),args:=ag,argTypes:=ts }) (has:ag=(l.take k++q::l.drop k).toArray) (hf:gb P f=true) (hqv:a.eval q=u) (hp:p<Gs.length) (hx:ArgsR M (λ s=>(L++eB O).lookup s) l xr) (hfn:lP k P f oy y xr y' (.eE yd))
  (ks:List Nat) (hk:ff ks L=some L2) (qs:List Nat) (hq:fi L O qs p=some O2) (hsn:L2.lookup sb=none) (_hne:sb≠d)
  (next:∀ G'' M' a' w',Sx F N M0 M' (Gs.set p G'') ((d,yd)::L2) ((sb,p,mk G'')::O2) a' w'->wpList P ops Q rest a' w'):wpList P ops Q (o::rest) a w:=by
 subst hqv;subst has;obtain⟨G1,hG1,hy,back⟩:=bk.ex;refine h.cE (y':=y') p hh ?_ hy hG1 hp (λ M1 m1 m2 m3=>hfn M1 G1 w _ _ m1 m2 ((eH oy G1 y).weak hy λ k _ hk=>m3 k hk) ((hx.all h.st.has).weak λ k _ hk=>m3 k hk)) ks hk qs hq λ G' Gr M' v w' st hL hG' _ _ hr hres=>?_
 .unfold execOp;rw[ho];have e:a.eval (.func f)=.func _ #[] #[]:=rfl;simp[resolve,e,Deferred.ofValue,invoke,xq hf,List.map_take,List.map_drop]
 .have h1:=st.gu (x:=mk (λ b=>_\/Gr b)) hsn (back hL hG' hr λ b hb=>.inl hb) λ b hb=>by rw[zf hp];exact bk.own _ b hb
  exact next _ _ _ _ (h1.nY (zK hh).2.2 hres.1 hres.2)
end
theorem Kj{α:Type}[ey α]{y:α}(h:(eX y).rd M w v)(l:iq M noB w M' w'):(eX y).rd M' w' v:=by
 have h1:ey.rdc M w [v] (⟨y⟩:Bx α):=⟨v,Z,h⟩;obtain⟨u,hu,h2⟩:=ey.later h1 l;injection hu with hu;rw[hu];exact h2
section
variable{α β γ δ:Type}[ey α][ey β][ey γ]
def Ow.kq(b:Nat)(o:Ow α):Ow (Bx α) where
 ro M G w cs y:=o.iz.ro M G w cs ⟨b,y.x⟩
 toR h:=o.box.toR (Ow.nt h)
 stable h k:=o.iz.stable h k
 weak h k:=o.iz.weak h k
 more h k:=o.iz.more h k
theorem HP.Eg{oy:Ow β}{y:Bx β}{R:(Nat->Prop)->(Nat->Prop)->World->Bx β->Prop}(h:HP (Ow.kq b' oy) M G w b off y R):HP oy.iz M G w b off ⟨b',y.x⟩ (λ M' G' w' (z:Pn β)=>z.b=b'->R M' G' w' ⟨z.x⟩):=by
 obtain⟨G1,G2,C,e,s1,s2,hb,n1,n2,hd,hh,hsz,hr,put⟩:=h;exact⟨G1,G2,C,e,s1,s2,hb,n1,n2,hd,hh,hsz,hr,λ hL hh' hy nb h1 g0 h2 h3 e=>put hL hh' (by subst e;exact hy) nb h1 g0 h2 h3⟩
theorem PH.kq{o:Ow γ}{x:γ}{v0:Value}{cf:CF}{oy:Ow β}{b off b':Nat}{y:Bx β}{upd:Bx β->γ}(h:PH o x v0 cf (Ow.kq b' oy) b off y upd):PH o x v0 cf oy b' 0 y.x (λ z=>upd ⟨z⟩):=
 ⟨λ h1 h2 h3=>((h.of h1 h2 h3).Eg).iz.2.mono λ h5=>h5 Z⟩
theorem RdAll.later(h:RdAll M w us xs)(hn:∀ x∈xs,x.nb=true)(l:iq M G w M' w'):RdAll M' w' us xs:=by
 have h1:=h.weak (M':=λ k=>M k\/w.heap.size<=k) λ k hk hm=>hm.elim id λ e=>by omega
 have h2:=h1.stable hn (w':=w') λ k hk hm=>l.same k hk (.inl λ hM=>hm.elim (λ e=>e (.inl hM)) λ e=>e.elim)
 exact h2.weak λ k _ hm=>if e:k<w.heap.size then .inl (l.weak k e hm) else .inr (by omega)
class mf (β:Type) where
 ds:β->List Dt
 nb:∀ x,∀ y∈ds x,y.nb=true
structure C0 where
structure C1(β:Type) where
 x:β
instance:mf C0:=⟨λ _=>[],λ _ _ h=>by cases h⟩
instance:mf (C1 β):=⟨λ x=>[eX x.x],λ x y h=>by rw[aH.1 h];rfl⟩
structure Fw(α β:Type) where
 o:Option (β×α)
variable[mf δ]
instance:Inhabited (Fw α δ):=⟨⟨none⟩⟩
instance:ey (Fw α δ) where
 size:=1
 agg:=false
 rdc M w cs y:=∃ v,cs=[v]/\v.oneCell'=true/\∀ q,y.o=some q->∃ F vp vd,v=.func (.func F) #[] (vp::vd).toArray/\(eX q.2).rd M w vp/\RdAll M w vd (mf.ds q.1)
 len:=λ⟨_,h,_⟩=>by rw[h];rfl
 one _:=rfl
 pos:=Nat.one_pos
 oneCell:=λ⟨v,h,h1,_⟩ c hc=>by
  rw[h] at hc;simp at hc;subst hc;exact h1
 stable:=λ⟨v,h,h1,h2⟩ e=>⟨v,h,h1,λ q hq=>let⟨F,vp,vd,k,k1,k2⟩:=h2 q hq;⟨F,vp,vd,k,(eX _).stable k1 e,k2.stable (mf.nb _) e⟩⟩
 weak:=λ⟨v,h,h1,h2⟩ e=>⟨v,h,h1,λ q hq=>let⟨F,vp,vd,k,k1,k2⟩:=h2 q hq;⟨F,vp,vd,k,(eX _).weak k1 e,k2.weak e⟩⟩
def Ow.fw(z:Value)(F:FuncId)(b:Nat)(oo:Ow α):Ow (Fw α δ) where
 ro M G w cs y:=∃ v,cs=[v]/\(y.o=none->v=z/\z.oneCell'=true)/\∀ q,y.o=some q->∃ vd,v=.func (.func F) #[] (fm b::vd).toArray/\oo.iz.ro M G w [fm b] ⟨b,q.2⟩/\RdAll M w vd (mf.ds q.1)
 toR:=λ{M G w cs y} ⟨v,h,h1,h2⟩=>⟨v,h,by
  cases hy:y.o with
  | none=>rw[(h1 hy).1];exact(h1 hy).2
  | some q=>obtain⟨vd,k,_⟩:=h2 q hy;rw[k];rfl,λ q hq=>by
  obtain⟨vd,k,k1,k2⟩:=h2 q hq;obtain⟨u,hu,hr⟩:=oo.box.toR (Ow.nt k1);injection hu with hu;exact⟨F,fm b,vd,k,by rw[hu];exact hr,k2.weak λ _ _ hk=>hk.1⟩⟩
 stable:=λ⟨v,h,h1,h2⟩ e=>⟨v,h,h1,λ q hq=>let⟨vd,k,k1,k2⟩:=h2 q hq;⟨vd,k,oo.iz.stable k1 e,k2.stable (mf.nb _) e.mono⟩⟩
 weak:=λ⟨v,h,h1,h2⟩ e=>⟨v,h,h1,λ q hq=>let⟨vd,k,k1,k2⟩:=h2 q hq;⟨vd,k,oo.iz.weak k1 e,k2.weak e⟩⟩
 more:=λ⟨v,h,h1,h2⟩ e=>⟨v,h,h1,λ q hq=>let⟨vd,k,k1,k2⟩:=h2 q hq;⟨vd,k,oo.iz.more k1 e,k2⟩⟩
variable{oo:Ow α}{x':α}
theorem Ow.tT{z:Value}{F:FuncId}(hz:z.oneCell'=true)(M:Nat->Prop)(w:World):(Ow.fw (δ:=δ) z F b oo).ro M noB w [z] ⟨none⟩:=⟨z,Z,λ _=>⟨Z,hz⟩,λ _ h=>by cases h⟩
theorem VP.fw{z:Value}{F b:Nat}{oo:Ow α}{M G:Nat->Prop}{w:World}{c:List Value}{y:Fw α δ}{q:δ×α}{R:(Nat->Prop)->(Nat->Prop)->World->Fw α δ->Prop}(h:VP (Ow.fw z F b oo) M G w c y R)(hq:y.o=some q):HP oo M G w b 0 q.2 (λ M' G' w' x'=>R M' G' w' ⟨some (q.1,x')⟩):=by
 obtain⟨G1,G2,s1,s2,hd,⟨v,hv,_,hs⟩,put⟩:=h;obtain⟨vd,k,⟨C',e',Gr,hc,hh',hG',hn',hsub,hr⟩,k2⟩:=hs q hq;refine⟨Gr,λ k=>G2 k,C',e',λ k hk=>s1 k (hsub k hk),s2,s1 b hG',hn',hd b hG',λ k hk=>hd k (hsub k hk),hh',?_,?_,λ{M' G1' G'' w' c' y'} hL hh2 hy nb h1 g0 h2 h3=>?_⟩
 .have:=oo.len hr;rw[<-this];simp
 .have:=oo.len hr;rw[bR,<-this,aQ];exact hr
 .have hl:=oo.len hr;have e1:C'.toList.take 0++c'++C'.toList.drop (0+ey.size α)=c':=by rw[ca,bb,bE (by omega),aO]
  rw[e1] at hh2;refine put (G1':=λ k=>k=b\/G1' k) hL ⟨v,hv,(λ h=>by cases h),λ q' hq'=>?_⟩ (λ k hk hk2=>hk.elim (λ e=>hd b hG' (e ▸ hk2)) λ hk=>h1 k hk hk2) (λ k hk=>hk.elim (λ e=>e ▸ g0) (h2 k)) h3;injection hq' with hq';subst hq';refine⟨vd,k,⟨_,e',G1',Z,hh2,.inl Z,nb,λ k hk=>.inr hk,by simpa using hy⟩,?_⟩;exact RdAll.later k2 (mf.nb _) hL
theorem PV.fw{o:Ow γ}{x:γ}{v0:Value}{cf:CF}{z:Value}{F b:Nat}{oo:Ow α}{off:Nat}{y:Fw α δ}{q:δ×α}{upd:Fw α δ->γ}(h:PV o x v0 cf (Ow.fw z F b oo) off y upd)(hq:y.o=some q):PH o x v0 cf oo b 0 q.2 (λ x'=>upd ⟨some (q.1,x')⟩):=⟨λ h1 h2 h3=>(h.of h1 h2 h3).1.fw hq⟩
theorem PH.fw{o:Ow γ}{x:γ}{v0:Value}{cf:CF}{z:Value}{F b:Nat}{oo:Ow α}{b0 off:Nat}{y:Fw α δ}{q:δ×α}{upd:Fw α δ->γ}(h:PH o x v0 cf (Ow.fw z F b oo) b0 off y upd)(hq:y.o=some q):PH o x v0 cf oo b 0 q.2 (λ x'=>upd ⟨some (q.1,x')⟩):=⟨λ h1 h2 h3=>let⟨_,_,_,_,hv⟩:=(h.of h1 h2 h3).vp;hv.fw hq⟩
def kF(P:Program)(o:Ow α)(x:α)(xs:List Dt)(x':α)(r:Rd):Prop:=
 ∀
  (M0 G:Nat->Prop) (w:World) (v:Value) (vs:List Value),(∀ b,M0 b\/G b->b<w.heap.size)->(∀ b,G b->¬ M0 b)->(eH o G x).rd (λ b=>M0 b\/G b) w v->RdAll (λ b=>M0 b\/G b) w vs xs->
  ∃ (f:FuncId) (caps:List Value),v=.func (.func f) #[] caps.toArray/\gb P f=true/\Calls P f (vs++caps).toArray w (ko M0 w G v o x' r)
theorem kF.any{o:Ow α}{x:α}(h:kF P o x xs x' .gone):kF P o x xs x' (.eE EN):=λ M0 G w v vs h1 h2 h3 h4=>
 let⟨f,caps,hv,hf,hc⟩:=h M0 G w v vs h1 h2 h3 h4
 ⟨f,caps,hv,hf,hc.mono λ _ _ ⟨u,G',Gr,k1,k2,k3,k4,k5,k6,k7,_⟩=>⟨u,G',Gr,k1,k2,k3,k4,k5,k6,k7,trivial,Z⟩⟩
theorem RdAll.app{M:Nat->Prop}{w:World}{us:List Value}{ys:List Dt}(k:RdAll M w us ys):∀ {vs:List Value} {xs:List Dt},RdAll M w vs xs->RdAll M w (vs++us) (xs++ys)
 | _,_,.nil=>k
 | _,_,.cons h r=>.cons h (RdAll.app k r)
theorem Grown.later{Gr:Nat->Prop}(hg:Grown G w w')(h1:∀ b,G' b->G b\/w.heap.size<=b)(h2:∀ b,Gr b->G b\/w.heap.size<=b):iq (λ b=>M0 b\/G b) noB w (λ b=>(M0 b\/G' b)\/Gr b) w':=
 ⟨λ k hk hm=>by
  rcases hm with(hm | hm) | hm
  .exact .inl hm
  .exact(h1 k hm).elim .inr λ e=>by omega
  .exact(h2 k hm).elim .inr λ e=>by omega,λ k hk hm=>hm.elim (λ hm=>hg.block k hk λ e=>hm (.inr e)) λ e=>e.elim⟩
theorem uM{z:Value}{F:FuncId}{d:δ}{x:α}(hfn:lP xs.length P F oo.box ⟨x⟩ (xs++mf.ds d) ⟨x'⟩ r)(hf:gb P F=true:=by kernel_rfl):kF P (Ow.fw z F b oo) ⟨some (d,x)⟩ xs ⟨some (d,x')⟩ r:=by
 intro M0 G w v vs hm hg hv hr;obtain⟨cs,⟨u,hc,_,hs⟩,hv0⟩:=hv;obtain⟨vd,k,k1,k2⟩:=hs _ Z;subst hc;have hv1:=hv0;subst hv1;have hl:=hr.len;have h1:=hfn M0 G w _ _ hm hg ⟨_,Ow.nt k1,Z⟩ (RdAll.app k2 hr);rw[<-hl,da,bZ] at h1;refine⟨F,fm b::vd,k,hf,h1.mono λ en w' ⟨u,G',Gr,i1,i2,i3,i4,i5,i6,i7,i8⟩=>⟨u,G',Gr,i1,i2,i3,i4,i5,i6,⟨[v],⟨v,Z,(λ h=>by cases h),λ q hq=>?_⟩,rfl⟩,i8⟩⟩;injection hq with hq;subst hq;obtain⟨c',h4,h5⟩:=i7;have hc':c'=[fm b]:=by
  obtain⟨b',C,e,Gr',hc,_⟩:=h4;rw[hc] at h5 ⊢;have h6:fm b=fm b':=h5;rw[h6]
 rw[hc'] at h4;exact⟨vd,k,Ow.pP h4 Z,k2.later (mf.nb _) (i2.later i3 i4)⟩
theorem N9{F:FuncId}(hf:gb P F0=true)(hfn:Fn P F0 xs y)(hn:y.nb=true):kF P (Ow.fw (δ:=δ) (.func (.func F0) #[] #[]) F b oo) ⟨none⟩ xs ⟨none⟩ (.eE y):=by
 intro M0 G w v vs hm hg hv hr;obtain⟨cs,⟨u,hc,hz,_⟩,hv0⟩:=hv;subst hc;have hv1:=ek hv0 (hz Z).1;refine⟨F0,[],hv1,hf,?_⟩;rw[aO];refine(hfn _ w vs hm hr).mono λ en w' ⟨u',he,hx,hy⟩=>⟨u',noB,noB,he,(Grown.kW hx).mono λ b hb=>hb.elim,λ _ h=>h.elim,λ _ h=>h.elim,λ _ h=>h.elim,λ _ h=>h.elim (λ h=>h.elim) λ h=>h.elim,?_,?_,hn⟩
 .exact⟨_,Ow.more _ (Ow.tT Z _ _) λ _ h=>h.elim,hv1⟩
 .exact y.weak hy λ k _ hk=>hk.elim (λ h=>h.elim .inl λ h=>h.elim) λ h=>h.elim
end
abbrev iP:=Fw (Bx fj) (C1 eK)
abbrev lA:=Fw (List eU) (C1 Int)
variable{a2:Ow (iP)}{a3:Ow (lA)}
section
variable{fn:Func}{look:Nat->Option Dt}{T:Prop}
variable{α β γ δ:Type}[ey α][ey β][ey γ][mf δ]
variable{oo:Ow α}{oy:Ow β}
theorem Sx.cD{y y':β}{mk:(Nat->Prop)->Dt}(h:Sx F N M0 M Gs L O a w)(p:Nat)(bk:nu M w Gs p u (Act.at a sb) oy y y' mk)(hh:fH o N=some d)
  (ho:o.op=.call { callee:=.value q,args:=ag,argTypes:=ts }) (has:ag=l.toArray) (hqv:a.eval q=u) (hp:p<Gs.length) (hx:ArgsR M (λ s=>(L++eB O).lookup s) l xr) (hfn:kF P oy y xr y' (.eE yd))
  (ks:List Nat) (hk:ff ks L=some L2) (qs:List Nat) (hq:fi L O qs p=some O2) (hsn:L2.lookup sb=none) (_hne:sb≠d)
  (next:∀{G'' M' a' w'},Sx F N M0 M' (Gs.set p G'') ((d,yd)::L2) ((sb,p,mk G'')::O2) a' w'->wpList P ops Q rest a' w'):wpList P ops Q (o::rest) a w:=by
 subst hqv;subst has;obtain⟨G1,hG1,hy,back⟩:=bk.ex;have hGM:=λ b hb=>(h.ob.at_ p b (hG1 b hb)).2.1
 have hM:∀ k,((M k/\¬ G1 k)\/G1 k)->M k:=λ k hk=>hk.elim (λ h=>h.1) (hGM k)
 have hra:=hx.all h.st.has;have key:∀ M1:Nat->Prop,_->_->(∀ k,M1 k\/G1 k->M k)->∃ (f:FuncId) (caps:List Value),a.eval q=.func _ #[] caps.toArray/\gb P f=true/\Calls P f (l.map a.eval++caps).toArray w _:=λ M1 m1 m2 m3=>
  hfn M1 G1 w _ _ m1 m2 ((eH oy G1 y).weak hy λ k _ hk=>m3 k hk) (hra.weak λ k _ hk=>m3 k hk)
 obtain⟨f,caps,hv,hf,_⟩:=key (λ b=>M b/\¬ G1 b) (λ b hb=>h.st.mok b (hM b hb)) (λ b hb hm=>hm.2 hb) hM;refine h.cE (f:=f) (y':=y') (r:=.eE yd) (args:=(l.map a.eval++caps).toArray) p hh ?_ hy hG1 hp (λ M1 m1 m2 m3=>?_) ks hk qs hq λ G' Gr M' v w' st hL hG' _ _ hr hres=>?_
 .unfold execOp;rw[ho];simp[resolve,hv,Deferred.ofValue,invoke,xq hf]
 .obtain⟨f',caps',hv',_,hc⟩:=key M1 m1 m2 m3;have e:=hv.symm.trans hv';injection e with e1 _ e2;injection e1 with e1;have e3:caps=caps':=by simpa using bu Array.toList e2
  rw[e1,e3];exact hc
 .have h1:=st.gu (x:=mk (λ b=>_\/Gr b)) hsn (back hL hG' hr λ b hb=>.inl hb) λ b hb=>by rw[zf hp];exact bk.own _ b hb
  exact next (h1.nY (zK hh).2.2 hres.1 hres.2)
theorem Sx.hd1{ow:Ow α}{x:α}{y:β}{upd:β->α}(h:Sx F N M0 M Gs L O a w)(p:Nat)(c:Bool)(hP:c=true->PH ow x v0 cf oy b off y upd)(ha:ey.agg β=false)(hs:(L++eB O).lookup s=some (eJ ow G x v0 cf))(hn:L.lookup s=none)(hG:∀ b,G b->zj Gs p b)(qs:List Nat)(hq:fi L O qs p=some O2)
  (next:∀ u:Value,u.oneCell'=true->Sx F N M0 M Gs L ((s,p,eJ ow G x v0 ((c,b,off,u)::cf))::O2) a w->T):T:=by
 obtain⟨h1,⟨cs,h2,h3⟩,h4⟩:=h.st.has s _ hs;have:∃ u:Value,u.oneCell'=true/\(c=true->G b/\b<w.heap.size/\QD w b off u):=by
  cases c with
  | false=>exact⟨.nilFunc,Z,λ h=>by cases h⟩
  |true=>
   have hp:=(hP Z).of h2 h3 h4;obtain⟨C,e,hh,hsz,hGb,G1,G2,_,_,_,_,_,hr,_⟩:=hp.here;obtain⟨u,hu,_⟩:=BZ hr ha;have h1c:=oy.one hr u (by rw[hu];exact aH.2 Z);have hs1:=ey.one ha;rw[hs1] at hu;have hcell:w.cell? ⟨b,off,none⟩=some u:=by simp[World.cell?,hh,XO hu]
   exact⟨u,h1c,λ _=>⟨hGb,xM hh,by
    cases u <;> first
     | exact hcell
     | (simp[Value.oneCell'] at h1c)⟩⟩
 obtain⟨u,hu,hu'⟩:=this;refine next u hu ((h.drop hq).gu hn ⟨h1,⟨cs,h2,h3⟩,λ q hq' hb=>?_⟩ hG);rcases aj.1 hq' with rfl | hq'
 .exact hu' hb
 .exact h4 q hq' hb
theorem Sx.tV{ow:Ow α}{x:α}{y:Bx β}{upd:Bx β->α}(h:Sx F N M0 M Gs L O a w)(p:Nat)(c:Bool)(hP:c=true->PH ow x v0 cf (Ow.kq b' oy) b off y upd)(qs:List Nat)
  (next:Sx F N M0 M Gs L ((s,p,eJ ow G x v0 ((c,b,off,fm b')::cf))::O2) a w->T)(hs:(L++eB O).lookup s=some (eJ ow G x v0 cf):=by rfl)(hn:L.lookup s=none:=by rfl)(hG:∀ b,G b->zj Gs p b:=by exact λ _ h=>h)(hq:fi L O qs p=some O2:=by rfl):T:=by
 obtain⟨h1,⟨cs,h2,h3⟩,h4⟩:=h.st.has s _ hs;refine next ((h.drop hq).gu hn ⟨h1,⟨cs,h2,h3⟩,λ q hq' hb=>?_⟩ hG);rcases aj.1 hq' with rfl | hq'
 .have hp:=(hP hb).of h2 h3 h4;obtain⟨_,_,hh,_,hGb,_⟩:=hp.here;exact⟨hGb,xM hh,hp.Eg.iz.1⟩
 .exact h4 q hq' hb
theorem T8{t2:TypeId}{y:Fw α δ}(ho:o.op=.binOp .neq t q (.const .nilFunc) t2)(ht:uP P t=true)(hq:eC M look q (fk v0))(hs:look sb=some (eJ (Ow.fw .nilFunc F' bk oo) G y v0 cf)):eP P M look o (dt y.o.isSome):=
 zz λ a w _ hl=>by
  obtain⟨_,⟨cs,⟨v,hc,hz,hs'⟩,hv⟩,_⟩:=hl sb _ hs;subst hc;have hv0:v0=v:=hv;have h1:=(hq w a hl).trans hv0;have h2:a.eval (.const .nilFunc)=.nilFunc:=rfl;obtain⟨f1,f2,f3,hf⟩:=OG ht;have he:∀ u:Value,(u=.nilFunc\/∃ f c,u=.func f #[] c)->(Op.equal t u .nilFunc).run P w=.ok (match u with | .nilFunc=>true | _=>false) w:=λ u hu=>by
   unfold Op.equal Op.maxDepth;rw[show(10000:Nat)=9999+1 from Z,Op.equalIn];rcases hu with rfl | ⟨f,c,rfl⟩ <;> simp[ax hf]
  refine⟨.bool y.o.isSome,?_,xL.2 Z⟩;cases hy:y.o with
  |none=>have e:=(hz hy).1;subst e;have:=he .nilFunc (.inl Z);unfold execOp;rw[ho];simp[h1,h2,eqGuard,binOp,this]
  |some z=>obtain⟨vd,e,_⟩:=hs' z hy;subst e;have:=he (.func (.func F') #[] (fm bk::vd).toArray) (.inr ⟨_,_,Z⟩);unfold execOp;rw[ho];simp[h1,h2,eqGuard,binOp,this]
theorem Sx.tX{z:Value}{so:Nat}{x:Bx α}{y:δ}(h:Sx F N M0 M Gs L O a w)(p:Nat)(h2:ArgsR M (λ s=>(L++eB O).lookup s) l (mf.ds y))
  (ks:List Nat)  (qs:List Nat)   
  (next:∀ a',Sx F N M0 M Gs ((so,fk (fm b))::L2) ((d,p,eH (Ow.fw z f b oo) G ⟨some (y,x.x)⟩)::O2) a' w->wpList P ops Q rest a' w)(hh:fH o N=some d:=by rfl)(ho:o.op=.makeFunc (.func f) #[] (.tmp so::l).toArray:=by rfl)(h1:(L++eB O).lookup so=some (eJ oo.box G x (fm b) cf):=by rfl)(hp:p<Gs.length:=by simp)(hG:∀ b,G b->zj Gs p b:=by exact λ _ h=>h)(hk:ff ks L=some L2:=by rfl)(hq:fi L O qs p=some O2:=by rfl)(hdn:L2.lookup d=none:=by rfl)(hne:(d == so)=false:=by rfl):wpList P ops Q (o::rest) a w:=by
 obtain⟨hgd,hd,hN⟩:=zK hh;obtain⟨k1,⟨cs,k2,k3⟩,_⟩:=h.st.has so _ h1;have k4:=h2.all h.st.has;have hcs:cs=[fm b]:=by
  obtain⟨b',C,e,Gr,hc,_⟩:=k2;rw[hc] at k3 ⊢;have h6:fm b=fm b':=k3;rw[h6]
 subst hcs;have e1:a.eval (.tmp so)=fm b:=k1;refine av hgd λ K hK=>fb.wp (fb.iw (v:=.func (.func f) #[] (fm b::l.map a.eval).toArray) (w':=w) ?_ ?_)
 .unfold execOp;rw[ho];simp[Instr.makeFunc,e1]
 .rw[hd];have h3:=(h.kE hp (Grown.refl _ w) hk hq).lI (y:=fk _) k1;exact hK _ _ (next _ (h3.iG hN (by simp only[af,hne];exact hdn) ⟨_,⟨_,Z,λ h=>(by cases h),λ q hq=>by
   injection hq with hq;subst hq;exact⟨_,Z,Ow.pP k2 Z,k4⟩⟩,Z⟩ hG))
end
structure Rw(α β γ δ:Type) where
 c:γ
 a:α
 b:β
 d:δ
section
variable{α β γ δ:Type}[ey α][ey β][ey γ][ey δ]
instance:ey (Rw α β γ δ) where
 size:=1
 agg:=false
 rdc M w cs y:=∃ F vc va vb vd,cs=[.func (.func F) #[] #[vc,va,vb,vd]]/\(eX y.c).rd M w vc/\(eX y.a).rd M w va/\(eX y.b).rd M w vb/\(eX y.d).rd M w vd
 len:=λ⟨_,_,_,_,_,h,_⟩=>by rw[h];rfl
 one _:=rfl
 pos:=Nat.one_pos
 oneCell:=λ⟨_,_,_,_,_,h,_⟩ c hc=>by
  rw[h] at hc;simp at hc;subst hc;rfl
 stable:=λ⟨F,vc,va,vb,vd,h,h1,h2,h3,h4⟩ e=>⟨F,vc,va,vb,vd,h,(eX _).stable h1 e,(eX _).stable h2 e,(eX _).stable h3 e,(eX _).stable h4 e⟩
 weak:=λ⟨F,vc,va,vb,vd,h,h1,h2,h3,h4⟩ e=>⟨F,vc,va,vb,vd,h,(eX _).weak h1 e,(eX _).weak h2 e,(eX _).weak h3 e,(eX _).weak h4 e⟩
theorem ED{o:Ow α}{x:α}(h:o.box.ro M G w [fm b] ⟨x⟩)(hs:∀ k,G k->G' k):(eX x).rd (λ k=>M k/\¬ G' k) w (fm b):=by
 obtain⟨u,hu,hr⟩:=o.box.toR h;injection hu with hu;rw[hu];exact(eX x).weak hr λ k _ hk=>⟨hk.1,λ hg=>hk.2 (hs k hg)⟩
def Ow.rw(F b1 b2:Nat)(oa:Ow α)(ob:Ow β):Ow (Rw α β γ δ) where
 ro M G w cs y:=∃ vc vd G1 G2,(∀ k,G1 k->G k)/\(∀ k,G2 k->G k)/\(∀ k,G1 k->¬ G2 k)/\cs=[.func (.func F) #[] #[vc,fm b1,fm b2,vd]]/\(eX y.c).rd M w vc/\oa.box.ro M G1 w [fm b1] ⟨y.a⟩/\ob.box.ro M G2 w [fm b2] ⟨y.b⟩/\(eX y.d).rd M w vd
 toR:=λ⟨vc,vd,_G1,_G2,s1,s2,_,h,h1,h2,h3,h4⟩=>⟨F,vc,fm b1,fm b2,vd,h,(eX _).weak h1 λ _ _ hk=>hk.1,ED h2 s1,ED h3 s2,(eX _).weak h4 λ _ _ hk=>hk.1⟩
 stable:=λ⟨vc,vd,G1,G2,s1,s2,hd,h,h1,h2,h3,h4⟩ e=>⟨vc,vd,G1,G2,s1,s2,hd,h,(eX _).stable h1 e.mono,oa.box.stable h2 (e.sub s1),ob.box.stable h3 (e.sub s2),(eX _).stable h4 e.mono⟩
 weak:=λ⟨vc,vd,G1,G2,s1,s2,hd,h,h1,h2,h3,h4⟩ e=>⟨vc,vd,G1,G2,s1,s2,hd,h,(eX _).weak h1 e,oa.box.weak h2 e,ob.box.weak h3 e,(eX _).weak h4 e⟩
 more:=λ⟨vc,vd,G1,G2,s1,s2,hd,h,h1,h2,h3,h4⟩ e=>⟨vc,vd,G1,G2,λ k hk=>e k (s1 k hk),λ k hk=>e k (s2 k hk),hd,h,h1,h2,h3,h4⟩
theorem EP{o:Ow α}{x:Bx α}(h:o.box.ro M G w [fm b] x):(eJ o.box G x (fm b) []).rd M w (fm b):=⟨Z,⟨_,h,Z⟩,λ q hq _=>by cases hq⟩
def El(M0:Nat->Prop)(w:World)(G:Nat->Prop)(b1 b2:Nat)(oa:Ow α)(ob:Ow β)(x:α)(z:β)(r:Rd):Ending->World->Prop:=λ en w'=>
 ∃
  (u:Value) (G' Gr:Nat->Prop),en=.returned u/\Grown G w w'/\(∀ b,G' b->G b\/w.heap.size<=b)/\(∀ b,Gr b->G b\/w.heap.size<=b)/\(∀ b,G' b->¬ Gr b)/\(∀ b,G' b\/Gr b->b<w'.heap.size)/\
  (∃ G1 G2:Nat->Prop,(∀ k,G1 k->G' k)/\(∀ k,G2 k->G' k)/\(∀ k,G1 k->¬ G2 k)/\oa.box.ro (λ b=>(M0 b\/G' b)\/Gr b) G1 w' [fm b1] ⟨x⟩/\ob.box.ro (λ b=>(M0 b\/G' b)\/Gr b) G2 w' [fm b2] ⟨z⟩)/\r.rd (λ b=>(M0 b\/G' b)\/Gr b) Gr w' u
end
section
variable{fn:Func}{look:Nat->Option Dt}{T:Prop}
variable{α β γ δ:Type}[ey α][ey β][ey γ][ey δ]
variable{oa:Ow α}{ob:Ow β}{oy:Ow α}
theorem N3{c0:Code}{y:Rw α β γ δ}{x':α}{z':β}{X0 X1:Dt}(p1 p2 n:Nat)(hf:P.funcs[f]?=some fn)(hb:fn.body=some c0)(hn:6<=fn.ntmps)(hfb:gb P f=true)(hn0:X0.nb=true)(hn1:X1.nb=true)
  (h:∀ (M G G1 G2:Nat->Prop) (w:World) (a:Act),Sx (eG.ft w G) fn.ntmps M (λ b=>M b\/G b) (((List.replicate n (eA none)).set p1 G1).set p2 G2) [(0,X0),(1,X1),(2,eX y.c),(5,eX y.d)] [(3,p1,eJ oa.box G1 ⟨y.a⟩ (fm b1) []),(4,p2,eJ ob.box G2 ⟨y.b⟩ (fm b2) [])] a w->c0.wp P (bodyPost P fn (El M w G b1 b2 oa ob x' z' r)) a w)
    (hp1:p1<n:=by decide)(hp2:p2<n:=by decide)(hne:p1≠p2:=by decide):kF P (Ow.rw f b1 b2 oa ob) y [X0,X1] ⟨y.c,x',z',y.d⟩ r:=by
 intro M0 G w v vs hm hg hv hr;obtain⟨cs,⟨vc,vd,G1,G2,s1,s2,hd,hc,k1,k2,k3,k4⟩,hv0⟩:=hv;subst hc;have hv1:=hv0;refine⟨f,[vc,fm b1,fm b2,vd],hv1,hfb,?_⟩;have hlen:((List.replicate n (eA none)).set p1 G1).length=n:=by simp
 have hown:∀ q b,zj (((List.replicate n _).set p1 G1).set p2 G2) q b ↔ (q=p1/\G1 b)\/(q=p2/\G2 b):=λ q b=>by
  by_cases h2:p2=q
  .subst h2;rw[zf (by rw[hlen];exact hp2)];exact⟨λ h=>.inr ⟨Z,h⟩,λ h=>h.elim (λ h=>absurd h.1.symm hne) λ h=>h.2⟩
  .rw[zq h2];by_cases h1:p1=q
   .subst h1;rw[zf (by simpa using hp1)];exact⟨λ h=>.inl ⟨Z,h⟩,λ h=>h.elim (λ h=>h.2) λ h=>absurd h.1.symm h2⟩
   .rw[zq h1];exact⟨λ h=>(Qx h).elim,λ h=>h.elim (λ h=>absurd h.1.symm h1) λ h=>absurd h.1.symm h2⟩
 have hra:=
  RdAll.app (.cons k1 (.cons (EP k2) (.cons (EP k3) (.cons k4 .nil)))) hr
 have hl:=hra.len;refine(cU hf hb (h M0 G G1 G2 w _ ?_)).mono λ en w' ⟨u,G',Gr,i1,i2,i3,i4,i5,i6,⟨H1,H2,j1,j2,j3,j4,j5⟩,i8⟩=>⟨u,G',Gr,i1,i2,i3,i4,i5,i6,⟨_,⟨vc,vd,H1,H2,j1,j2,j3,Z,Kj k1 (i2.later i3 i4),j4,j5,Kj k4 (i2.later i3 i4)⟩,hv1⟩,i8⟩
 refine⟨⟨Grown.refl _ _,by simp at hl ⊢;omega,Z,hm,λ s x hs=>?_⟩,⟨λ b hb=>.inl hb,λ q b hb=>?_,λ q r b hqr h1 h2=>?_⟩,Wl (by simp only[W2,hn0,hn1];rfl),⟨λ b hb=>(hown p1 b).2 (.inl ⟨Z,hb⟩),λ b hb=>(hown p2 b).2 (.inr ⟨Z,hb⟩),trivial⟩⟩
 .have hs':(zL 0 ([X0,X1]++[eX y.c,eJ oa.box G1 ⟨y.a⟩ (fm b1) [],eJ ob.box G2 ⟨y.b⟩ (fm b2) [],eX y.d])).lookup s=some x:=by
   match s,hs with
   | 0,hs=>exact hs
   | 1,hs=>exact hs
   | 2,hs=>exact hs
   | 3,hs=>exact hs
   | 4,hs=>exact hs
   | 5,hs=>exact hs
   | s+6,hs=>simp[eB,af] at hs
  obtain⟨j,u,h1,h2,h3⟩:=hra.nth 0 s x hs';have hj:=(ai.1 h2).1;have h5:(vs++[vc,fm b1,fm b2,vd]).toArray[j]?=some u:=by rw[cw];exact h2
  have hj':j<(vs++[vc,fm b1,fm b2,vd]).toArray.size:=by rw[eb];exact hj
  have:s=j:=by omega
  subst this;have h4:Act.at { tmps:=(vs++[vc,fm b1,fm b2,vd]).toArray++Array.replicate (fn.ntmps - (vs++[vc,fm b1,fm b2,vd]).toArray.size) undef,defers:=[] } s=u:=by
   simp[Act.at];rw[bc hj',h5];rfl
  rw[h4];exact h3
 .rcases(hown q b).1 hb with⟨_,hb'⟩ | ⟨_,hb'⟩
  .exact⟨.inl (s1 b hb'),.inr (s1 b hb'),hg b (s1 b hb')⟩
  .exact⟨.inl (s2 b hb'),.inr (s2 b hb'),hg b (s2 b hb')⟩
 .rcases(hown q b).1 h1 with⟨e1,k⟩ | ⟨e1,k⟩ <;> rcases(hown r b).1 h2 with⟨e2,k'⟩ | ⟨e2,k'⟩
  .exact hqr (e1.trans e2.symm)
  .exact hd b k k'
  .exact hd b k' k
  .exact hqr (e1.trans e2.symm)
theorem Sx.LC{sc sa sd:Nat}{x:Bx α}{z:Bx β}{yc:γ}{yd:δ}{cf1 cf2:CF}(h:Sx F N M0 M Gs L O a w)(p p2:Nat)(hh:fH o N=some d)(ho:o.op=.makeFunc (.func f) #[] #[.tmp sc,.tmp sa,.tmp sb,.tmp sd])(h1:(L++eB O).lookup sa=some (eJ oa.box G1 x (fm b1) cf1))(h2:(L++eB O).lookup sb=some (eJ ob.box G2 z (fm b2) cf2))(h3:(L++eB O).lookup sc=some (eX yc))(h4:(L++eB O).lookup sd=some (eX yd))(hG1:∀ b,G1 b->zj Gs p b)(hG2:∀ b,G2 b->zj Gs p2 b)
  (ks:List Nat) (hk:ff ks L=some L2) (qs:List Nat) (hq:fi L O qs p=some O2) (hq2:O2.all (λ q=>q.2.1 != p2)=true) (hdn:L2.lookup d=none) (hd1:(d == sa)=false) (hd2:(d == sb)=false)
  (next:∀ G' a',Sx F N M0 M ((Gs.set p G').set p2 (eA none)) ((sa,fk (fm b1))::(sb,fk (fm b2))::L2) ((d,p,eH (Ow.rw f b1 b2 oa ob) G' ⟨yc,x.x,z.x,yd⟩)::O2) a' w->wpList P ops Q rest a' w)(hp:p<Gs.length:=by simp)(hp2:p2<Gs.length:=by simp)(hne:p≠p2:=by decide):wpList P ops Q (o::rest) a w:=by
 obtain⟨hgd,hd,hN⟩:=zK hh;have one:∀ {τ:Type} [ey τ] {ow:Ow τ} {s b:Nat} {g:Nat->Prop} {x:Bx τ} {cf:CF},(L++eB O).lookup s=some (eJ ow.box g x _ cf)->Act.at a s=fm b/\ow.box.ro M g w [fm b] ⟨x.x⟩:=λ{τ _ ow s b g x cf} hs=>by
  obtain⟨k1,⟨cs,k2,k3⟩,_⟩:=h.st.has s _ hs;obtain⟨b',C,e,Gr,hc,k4⟩:=k2;rw[hc] at k3;have h6:=k3;refine⟨k1,?_⟩;rw[h6];exact⟨b',C,e,Gr,Z,k4⟩
 obtain⟨e1,r1⟩:=one h1;obtain⟨e2,r2⟩:=one h2;have e1':a.eval (.tmp sa)=fm b1:=e1;have e2':a.eval (.tmp sb)=fm b2:=e2;refine av hgd λ K hK=>fb.wp (fb.iw (v:=.func (.func f) #[] #[Act.at a sc,fm b1,fm b2,Act.at a sd]) (w':=w) ?_ ?_)
 .unfold execOp;rw[ho];simp[Instr.makeFunc,e1',e2',Act.np]
 .rw[hd];have k1:=((h.kE hp (Grown.refl _ w) hk hq).lI (y:=fk _) e2).lI (y:=fk _) e1;have k2:=k1.mJ hp hp2 hne hq2;have e:J3 Gs p p2=(Gs.set p (λ b=>zj Gs p b\/zj Gs p2 b)).set p2 _:=rfl;rw[e] at k2;exact hK _ _ (next _ _ (k2.iG hN (by simp only[af,hd1,hd2];exact hdn) ⟨_,⟨_,_,G1,G2,λ k hk=>.inl (hG1 k hk),λ k hk=>.inr (hG2 k hk),λ k h1 h2=>h.ob.apart p p2 k hne (hG1 k h1) (hG2 k h2),Z,h.st.has sc _ h3,r1,r2,h.st.has sd _ h4⟩,Z⟩ λ b hb=>by rw[zq (br hne),zf hp];exact hb))
theorem Sx.D0{ow:Ow γ}{oz:Ow β}{sc c:Nat}{x:γ}{y:α}{z:β}(h:Sx F N M0 M Gs L O a w)(p p2:Nat)(hs:(L++eB O).lookup s=some (eJ ow G x v0 cf))(hb:L.lookup sb=some (fk (fm b)))(hc:L.lookup sc=some (fk (fm c)))
  (hP:∀ {M G:Nat->Prop} {w:World} {cs:List Value},ow.ro M G w cs x->∃ G1 G2:Nat->Prop,(∀ k,G1 k->G k)/\(∀ k,G2 k->G k)/\(∀ k,G1 k->¬ G2 k)/\oy.box.ro M G1 w [fm b] ⟨y⟩/\oz.box.ro M G2 w [fm c] ⟨z⟩)
  (ks:List Nat) (hk:ff ks L=some L2) (qs:List Nat) (hq:fi L O qs p=some O2) (hq2:O2.all (λ q=>q.2.1 != p&&q.2.1 != p2)=true) (hbn:L2.lookup sb=none) (hcn:L2.lookup sc=none)
  (next:∀ G1 G2,Sx F N M0 M ((Gs.set p G1).set p2 G2) L2 ((sb,p,eJ oy.box G1 ⟨y⟩ (fm b) [])::(sc,p2,eJ oz.box G2 ⟨z⟩ (fm c) [])::O2) a w->T)(hG:∀ b,G b->zj Gs p b:=by exact λ _ h=>h)(hp:p<Gs.length:=by simp)(hp2:p2<Gs.length:=by simp)(hne:p≠p2:=by decide):T:=by
 obtain⟨_,⟨cs,k2,_⟩,_⟩:=h.st.has s _ hs;obtain⟨G1,G2,s1,s2,hd,r1,r2⟩:=hP k2;have e1:=h.st.has sb _ (yN hb);have e2:=h.st.has sc _ (yN hc);have h1:=(h.kE hp (Grown.refl _ w) hk hq).sn hp hp2 hne (λ k hk=>hG k (s1 k hk)) (λ k hk=>hG k (s2 k hk)) hd hq2;have h2:=h1.gu (x:=eJ oz.box G2 ⟨z⟩ _ []) hcn ⟨e2,⟨_,r2,Z⟩,λ q hq _=>by cases hq⟩ λ k hk=>by rw[zf (by simpa using hp2)];exact hk
 exact next G1 G2 (h2.gu hbn ⟨e1,⟨_,r1,Z⟩,λ q hq _=>by cases hq⟩ λ k hk=>by rw[zq (br hne),zf hp];exact hk)
theorem Ow.LV{F:Nat}{x:Rw α β γ δ}{cs:List Value}(h:(Ow.rw F b1 b2 oa ob).ro M G w cs x):∃ G1 G2:Nat->Prop,(∀ k,G1 k->G k)/\(∀ k,G2 k->G k)/\(∀ k,G1 k->¬ G2 k)/\oa.box.ro M G1 w [fm b1] ⟨x.a⟩/\ob.box.ro M G2 w [fm b2] ⟨x.b⟩:=
 let⟨_,_,G1,G2,s1,s2,hd,_,_,h2,h3,_⟩:=h;⟨G1,G2,s1,s2,hd,h2,h3⟩
theorem Sx.LG{ow:Ow γ}{x:γ}{y:α}(h:Sx F N M0 M Gs L O a w)(p:Nat)(hs:(L++eB O).lookup s=some (eJ ow G x v0 cf))(hG:∀ b,G b->zj Gs p b)(hb:L.lookup sb=some (fk (fm b)))
  (hP:∀ {M G:Nat->Prop} {w:World} {cs:List Value},ow.ro M G w cs x->∃ G1:Nat->Prop,(∀ k,G1 k->G k)/\oy.box.ro M G1 w [fm b] ⟨y⟩)
  (ks:List Nat) (hk:ff ks L=some L2) (qs:List Nat) (hq:fi L O qs p=some O2) (hbn:L2.lookup sb=none)(hp:p<Gs.length:=by simp):Sx F N M0 M Gs L2 ((sb,p,eJ oy.box G ⟨y⟩ (fm b) [])::O2) a w:=by
 obtain⟨_,⟨cs,k2,_⟩,_⟩:=h.st.has s _ hs;obtain⟨G1,s1,r1⟩:=hP k2;exact(h.kE hp (Grown.refl _ w) hk hq).gu hbn ⟨h.st.has sb _ (yN hb),⟨_,oy.box.more r1 s1,Z⟩,λ q hq _=>by cases hq⟩ hG
end
structure ga where
 on:Bool
 disk:eK
 finder:fj
 store:List eU
 mode:Int
instance:ey ga:=ey.ku (λ x=>((x.on,x.disk,x.finder,x.store,x.mode):Bool×eK×fj×List eU×Int))
theorem ga.parts{x:ga}(h0:ey.rdc M w c0 x.on)(h1:ey.rdc M w c1 x.disk)(h2:ey.rdc M w c2 x.finder)(h3:ey.rdc M w c3 x.store)(h4:ey.rdc M w c4 x.mode):ey.rdc M w [c0,c1,c2,c3,c4].flatten x:=by
 simp;exact⟨c0,_,Z,h0,⟨c1,_,Z,h1,⟨c2,_,Z,h2,⟨c3,_,Z,h3,h4⟩⟩⟩⟩
structure Machine where
 t:Tree
 path:List Int
 known:iP
 load:lA
 modules:List (Bx eZ)
 out:List Int
 log:List im
 part:List Str
 left:Int
instance:ey Machine:=ey.ku (λ x=>((x.t,x.path,x.known,x.load,x.modules,x.out,x.log,x.part,x.left):Tree×List Int×iP×lA×List (Bx eZ)×List Int×List im×List Str×Int))
theorem Machine.ls:eM (λ x:Machine=>x.modules) 4:=⟨λ h=>((eM.snd (eM.snd (eM.snd (eM.snd eM.fst))))).sub h⟩
structure Runner where
 t:Tree
 path:List Int
 mods:List eZ
 log:List im
 out:List Int
 fin:Int
 left:Int
 warm:Bx ga
instance:ey Runner:=ey.ku (λ x=>((x.t,x.path,x.mods,x.log,x.out,x.fin,x.left,x.warm):Tree×List Int×List eZ×List im×List Int×Int×Int×Bx ga))
def Um:List Value:=[.pointer none]
def It:List Value:=[.nilFunc]
def KX:List (List Value):=[oS,CT,CW,jJ,xx]
def VR:List (List Value):=[pI,jJ,It,It,jJ,jJ,jJ,jJ,xx]
def VS:List (List Value):=[pI,jJ,jJ,jJ,jJ,xx,xx,Um]
abbrev fa (a2:Ow (List eZ)) (a3:Ow (List im)) (a4:Ow (List Int)) (a7:Ow (Bx ga)):Ow Runner:=Ow.via (λ(x:Runner)=>((x.t,x.path,x.mods,x.log,x.out,x.fin,x.left,x.warm):Tree×List Int×List eZ×List im×List Int×Int×Int×Bx ga)) (Ow.pr (Ow.eE (α:=Tree)) (Ow.pr (Ow.eE (α:=List Int)) (Ow.pr a2 (Ow.pr a3 (Ow.pr a4 (Ow.pr (Ow.eE (α:=Int)) (Ow.pr (Ow.eE (α:=Int)) a7)))))))
theorem fa.f0{a2:Ow (List eZ)}{a3:Ow (List im)}{a4:Ow (List Int)}{a7:Ow (Bx ga)}:eF (fa a2 a3 a4 a7) (Ow.eE (α:=Tree)) (λ x:Runner=>x.t) (λ y x=>{ x with t:=y }) 0:=⟨λ h=>(eF.fst).foc h⟩
theorem fa.f1{a2:Ow (List eZ)}{a3:Ow (List im)}{a4:Ow (List Int)}{a7:Ow (Bx ga)}:eF (fa a2 a3 a4 a7) (Ow.eE (α:=List Int)) (λ x:Runner=>x.path) (λ y x=>{ x with path:=y }) 1:=⟨λ h=>((eF.snd eF.fst)).foc h⟩
theorem fa.f2{a2:Ow (List eZ)}{a3:Ow (List im)}{a4:Ow (List Int)}{a7:Ow (Bx ga)}:eF (fa a2 a3 a4 a7) a2 (λ x:Runner=>x.mods) (λ y x=>{ x with mods:=y }) 2:=⟨λ h=>((eF.snd (eF.snd eF.fst))).foc h⟩
theorem fa.f3{a2:Ow (List eZ)}{a3:Ow (List im)}{a4:Ow (List Int)}{a7:Ow (Bx ga)}:eF (fa a2 a3 a4 a7) a3 (λ x:Runner=>x.log) (λ y x=>{ x with log:=y }) 3:=⟨λ h=>((eF.snd (eF.snd (eF.snd eF.fst)))).foc h⟩
theorem fa.f4{a2:Ow (List eZ)}{a3:Ow (List im)}{a4:Ow (List Int)}{a7:Ow (Bx ga)}:eF (fa a2 a3 a4 a7) a4 (λ x:Runner=>x.out) (λ y x=>{ x with out:=y }) 4:=⟨λ h=>((eF.snd (eF.snd (eF.snd (eF.snd eF.fst))))).foc h⟩
theorem fa.f5{a2:Ow (List eZ)}{a3:Ow (List im)}{a4:Ow (List Int)}{a7:Ow (Bx ga)}:eF (fa a2 a3 a4 a7) (Ow.eE (α:=Int)) (λ x:Runner=>x.fin) (λ y x=>{ x with fin:=y }) 5:=⟨λ h=>((eF.snd (eF.snd (eF.snd (eF.snd (eF.snd eF.fst)))))).foc h⟩
theorem fa.f6{a2:Ow (List eZ)}{a3:Ow (List im)}{a4:Ow (List Int)}{a7:Ow (Bx ga)}:eF (fa a2 a3 a4 a7) (Ow.eE (α:=Int)) (λ x:Runner=>x.left) (λ y x=>{ x with left:=y }) 6:=⟨λ h=>((eF.snd (eF.snd (eF.snd (eF.snd (eF.snd (eF.snd eF.fst))))))).foc h⟩
theorem fa.f7{a2:Ow (List eZ)}{a3:Ow (List im)}{a4:Ow (List Int)}{a7:Ow (Bx ga)}:eF (fa a2 a3 a4 a7) a7 (λ x:Runner=>x.warm) (λ y x=>{ x with warm:=y }) 7:=⟨λ h=>((eF.snd (eF.snd (eF.snd (eF.snd (eF.snd (eF.snd (eF.snd eF.id)))))))).foc h⟩
theorem fa.mk{M:Nat->Prop}{w:World}{x:Runner}{g2:Nat->Prop}{a2:Ow (List eZ)}{g3:Nat->Prop}{a3:Ow (List im)}{g4:Nat->Prop}{a4:Ow (List Int)}{g7:Nat->Prop}{a7:Ow (Bx ga)}{c0:List Value}{c1:List Value}{c2:List Value}{c3:List Value}{c4:List Value}{c5:List Value}{c6:List Value}{c7:List Value}(h0:ey.rdc M w c0 x.t)(h1:ey.rdc M w c1 x.path)(h2:a2.ro M g2 w c2 x.mods)(h3:a3.ro M g3 w c3 x.log)(h4:a4.ro M g4 w c4 x.out)(h5:ey.rdc M w c5 x.fin)(h6:ey.rdc M w c6 x.left)(h7:a7.ro M g7 w c7 x.warm)(d2:∀ b,g2 b->¬ (λ b=>g3 b\/(λ b=>g4 b\/g7 b) b) b)(d3:∀ b,g3 b->¬ (λ b=>g4 b\/g7 b) b)(d4:∀ b,g4 b->¬ g7 b):(fa a2 a3 a4 a7).ro M (λ b=>g2 b\/(λ b=>g3 b\/(λ b=>g4 b\/g7 b) b) b) w [c0,c1,c2,c3,c4,c5,c6,c7].flatten x:=by
 simp;exact⟨noB,(λ b=>g2 b\/(λ b=>g3 b\/(λ b=>g4 b\/g7 b) b) b),c0,_,λ _ h=>h.elim,λ _ h=>h,λ _ h=>h.elim,Z,h0,⟨noB,(λ b=>g2 b\/(λ b=>g3 b\/(λ b=>g4 b\/g7 b) b) b),c1,_,λ _ h=>h.elim,λ _ h=>h,λ _ h=>h.elim,Z,h1,⟨g2,(λ b=>g3 b\/(λ b=>g4 b\/g7 b) b),c2,_,λ _ h=>.inl h,λ _ h=>.inr h,d2,Z,h2,⟨g3,(λ b=>g4 b\/g7 b),c3,_,λ _ h=>.inl h,λ _ h=>.inr h,d3,Z,h3,⟨g4,g7,c4,_,λ _ h=>.inl h,λ _ h=>.inr h,d4,Z,h4,⟨noB,g7,c5,_,λ _ h=>h.elim,λ _ h=>h,λ _ h=>h.elim,Z,h5,⟨noB,g7,c6,_,λ _ h=>h.elim,λ _ h=>h,λ _ h=>h.elim,Z,h6,h7⟩⟩⟩⟩⟩⟩⟩
abbrev fD (a5:Ow (List fI)):Ow eZ:=Ow.via (λ(x:eZ)=>((x.name,x.kind,x.roots,x.cached,x.done,x.attrs):Str×Int×List Int×Bool×Bool×List fI)) (Ow.pr (Ow.eE (α:=Str)) (Ow.pr (Ow.eE (α:=Int)) (Ow.pr (Ow.eE (α:=List Int)) (Ow.pr (Ow.eE (α:=Bool)) (Ow.pr (Ow.eE (α:=Bool)) a5)))))
theorem fD.f0{a5:Ow (List fI)}:eF (fD a5) (Ow.eE (α:=Str)) (λ x:eZ=>x.name) (λ y x=>{ x with name:=y }) 0:=⟨λ h=>(eF.fst).foc h⟩
theorem fD.f1{a5:Ow (List fI)}:eF (fD a5) (Ow.eE (α:=Int)) (λ x:eZ=>x.kind) (λ y x=>{ x with kind:=y }) 1:=⟨λ h=>((eF.snd eF.fst)).foc h⟩
theorem fD.f2{a5:Ow (List fI)}:eF (fD a5) (Ow.eE (α:=List Int)) (λ x:eZ=>x.roots) (λ y x=>{ x with roots:=y }) 2:=⟨λ h=>((eF.snd (eF.snd eF.fst))).foc h⟩
theorem fD.f3{a5:Ow (List fI)}:eF (fD a5) (Ow.eE (α:=Bool)) (λ x:eZ=>x.cached) (λ y x=>{ x with cached:=y }) 3:=⟨λ h=>((eF.snd (eF.snd (eF.snd eF.fst)))).foc h⟩
theorem fD.f4{a5:Ow (List fI)}:eF (fD a5) (Ow.eE (α:=Bool)) (λ x:eZ=>x.done) (λ y x=>{ x with done:=y }) 4:=⟨λ h=>((eF.snd (eF.snd (eF.snd (eF.snd eF.fst))))).foc h⟩
theorem fD.f5{a5:Ow (List fI)}:eF (fD a5) a5 (λ x:eZ=>x.attrs) (λ y x=>{ x with attrs:=y }) 5:=⟨λ h=>((eF.snd (eF.snd (eF.snd (eF.snd (eF.snd eF.id)))))).foc h⟩
theorem fD.mk{M:Nat->Prop}{w:World}{x:eZ}{g5:Nat->Prop}{a5:Ow (List fI)}{c0:List Value}{c1:List Value}{c2:List Value}{c3:List Value}{c4:List Value}{c5:List Value}(h0:ey.rdc M w c0 x.name)(h1:ey.rdc M w c1 x.kind)(h2:ey.rdc M w c2 x.roots)(h3:ey.rdc M w c3 x.cached)(h4:ey.rdc M w c4 x.done)(h5:a5.ro M g5 w c5 x.attrs)  : (fD a5).ro M g5 w [c0,c1,c2,c3,c4,c5].flatten x:=by
 simp;exact⟨noB,g5,c0,_,λ _ h=>h.elim,λ _ h=>h,λ _ h=>h.elim,Z,h0,⟨noB,g5,c1,_,λ _ h=>h.elim,λ _ h=>h,λ _ h=>h.elim,Z,h1,⟨noB,g5,c2,_,λ _ h=>h.elim,λ _ h=>h,λ _ h=>h.elim,Z,h2,⟨noB,g5,c3,_,λ _ h=>h.elim,λ _ h=>h,λ _ h=>h.elim,Z,h3,⟨noB,g5,c4,_,λ _ h=>h.elim,λ _ h=>h,λ _ h=>h.elim,Z,h4,h5⟩⟩⟩⟩⟩
abbrev eS (a2:Ow (iP)) (a3:Ow (lA)) (a4:Ow (List (Bx eZ))) (a5:Ow (List Int)) (a6:Ow (List im)) (a7:Ow (List Str)):Ow Machine:=Ow.via (λ(x:Machine)=>((x.t,x.path,x.known,x.load,x.modules,x.out,x.log,x.part,x.left):Tree×List Int×iP×lA×List (Bx eZ)×List Int×List im×List Str×Int)) (Ow.pr (Ow.eE (α:=Tree)) (Ow.pr (Ow.eE (α:=List Int)) (Ow.pr a2 (Ow.pr a3 (Ow.pr a4 (Ow.pr a5 (Ow.pr a6 (Ow.pr a7 (Ow.eE (α:=Int))))))))))
theorem eS.f0:eF (eS a2 a3 a4 a5 a6 a7) (Ow.eE (α:=Tree)) (λ x:Machine=>x.t) (λ y x=>{ x with t:=y }) 0:=⟨λ h=>(eF.fst).foc h⟩
theorem eS.f1:eF (eS a2 a3 a4 a5 a6 a7) (Ow.eE (α:=List Int)) (λ x:Machine=>x.path) (λ y x=>{ x with path:=y }) 1:=⟨λ h=>((eF.snd eF.fst)).foc h⟩
theorem eS.f2:eF (eS a2 a3 a4 a5 a6 a7) a2 (λ x:Machine=>x.known) (λ y x=>{ x with known:=y }) 2:=⟨λ h=>((eF.snd (eF.snd eF.fst))).foc h⟩
theorem eS.f3:eF (eS a2 a3 a4 a5 a6 a7) a3 (λ x:Machine=>x.load) (λ y x=>{ x with load:=y }) 3:=⟨λ h=>((eF.snd (eF.snd (eF.snd eF.fst)))).foc h⟩
theorem eS.f4:eF (eS a2 a3 a4 a5 a6 a7) a4 (λ x:Machine=>x.modules) (λ y x=>{ x with modules:=y }) 4:=⟨λ h=>((eF.snd (eF.snd (eF.snd (eF.snd eF.fst))))).foc h⟩
theorem eS.f5:eF (eS a2 a3 a4 a5 a6 a7) a5 (λ x:Machine=>x.out) (λ y x=>{ x with out:=y }) 5:=⟨λ h=>((eF.snd (eF.snd (eF.snd (eF.snd (eF.snd eF.fst)))))).foc h⟩
theorem eS.f6:eF (eS a2 a3 a4 a5 a6 a7) a6 (λ x:Machine=>x.log) (λ y x=>{ x with log:=y }) 6:=⟨λ h=>((eF.snd (eF.snd (eF.snd (eF.snd (eF.snd (eF.snd eF.fst))))))).foc h⟩
theorem eS.f7:eF (eS a2 a3 a4 a5 a6 a7) a7 (λ x:Machine=>x.part) (λ y x=>{ x with part:=y }) 7:=⟨λ h=>((eF.snd (eF.snd (eF.snd (eF.snd (eF.snd (eF.snd (eF.snd eF.fst)))))))).foc h⟩
theorem eS.f8:eF (eS a2 a3 a4 a5 a6 a7) (Ow.eE (α:=Int)) (λ x:Machine=>x.left) (λ y x=>{ x with left:=y }) 8:=⟨λ h=>((eF.snd (eF.snd (eF.snd (eF.snd (eF.snd (eF.snd (eF.snd (eF.snd eF.id))))))))).foc h⟩
theorem eS.iW{b4:Ow (List (Bx eZ))}{x:Machine}(h:lB a4 b4 x.modules):lB (eS a2 a3 a4 a5 a6 a7) (eS a2 a3 b4 a5 a6 a7) x:=Om (uO (uO (uO (uO (Oi h)))))
theorem eS.mG{x:Machine}(h:lQ a4 b4 x.modules):lQ (eS a2 a3 a4 a5 a6 a7) (λ n=>(eS a2 a3 (b4 n) a5 a6 a7)) x:=Oh (Ab (Ab (Ab (Ab (Of h)))))
theorem eS.mk{M:Nat->Prop}{w:World}{x:Machine}{g2:Nat->Prop}{a2:Ow (iP)}{g3:Nat->Prop}{a3:Ow (lA)}{g4:Nat->Prop}{a4:Ow (List (Bx eZ))}{g5:Nat->Prop}{a5:Ow (List Int)}{g6:Nat->Prop}{a6:Ow (List im)}{g7:Nat->Prop}{a7:Ow (List Str)}{c0:List Value}{c1:List Value}{c2:List Value}{c3:List Value}{c4:List Value}{c5:List Value}{c6:List Value}{c7:List Value}{c8:List Value}(h0:ey.rdc M w c0 x.t)(h1:ey.rdc M w c1 x.path)(h2:a2.ro M g2 w c2 x.known)(h3:a3.ro M g3 w c3 x.load)(h4:a4.ro M g4 w c4 x.modules)(h5:a5.ro M g5 w c5 x.out)(h6:a6.ro M g6 w c6 x.log)(h7:a7.ro M g7 w c7 x.part)(h8:ey.rdc M w c8 x.left)(d2:∀ b,g2 b->¬ (λ b=>g3 b\/(λ b=>g4 b\/(λ b=>g5 b\/(λ b=>g6 b\/g7 b) b) b) b) b)(d3:∀ b,g3 b->¬ (λ b=>g4 b\/(λ b=>g5 b\/(λ b=>g6 b\/g7 b) b) b) b)(d4:∀ b,g4 b->¬ (λ b=>g5 b\/(λ b=>g6 b\/g7 b) b) b)(d5:∀ b,g5 b->¬ (λ b=>g6 b\/g7 b) b)(d6:∀ b,g6 b->¬ g7 b):(eS a2 a3 a4 a5 a6 a7).ro M (λ b=>g2 b\/(λ b=>g3 b\/(λ b=>g4 b\/(λ b=>g5 b\/(λ b=>g6 b\/g7 b) b) b) b) b) w [c0,c1,c2,c3,c4,c5,c6,c7,c8].flatten x:=by
 simp;exact⟨noB,(λ b=>g2 b\/(λ b=>g3 b\/(λ b=>g4 b\/(λ b=>g5 b\/(λ b=>g6 b\/g7 b) b) b) b) b),c0,_,λ _ h=>h.elim,λ _ h=>h,λ _ h=>h.elim,Z,h0,⟨noB,(λ b=>g2 b\/(λ b=>g3 b\/(λ b=>g4 b\/(λ b=>g5 b\/(λ b=>g6 b\/g7 b) b) b) b) b),c1,_,λ _ h=>h.elim,λ _ h=>h,λ _ h=>h.elim,Z,h1,⟨g2,(λ b=>g3 b\/(λ b=>g4 b\/(λ b=>g5 b\/(λ b=>g6 b\/g7 b) b) b) b),c2,_,λ _ h=>.inl h,λ _ h=>.inr h,d2,Z,h2,⟨g3,(λ b=>g4 b\/(λ b=>g5 b\/(λ b=>g6 b\/g7 b) b) b),c3,_,λ _ h=>.inl h,λ _ h=>.inr h,d3,Z,h3,⟨g4,(λ b=>g5 b\/(λ b=>g6 b\/g7 b) b),c4,_,λ _ h=>.inl h,λ _ h=>.inr h,d4,Z,h4,⟨g5,(λ b=>g6 b\/g7 b),c5,_,λ _ h=>.inl h,λ _ h=>.inr h,d5,Z,h5,⟨g6,g7,c6,_,λ _ h=>.inl h,λ _ h=>.inr h,d6,Z,h6,⟨g7,noB,c7,_,λ _ h=>h,λ _ h=>h.elim,λ _ _ h=>h,Z,h7,h8⟩⟩⟩⟩⟩⟩⟩⟩
abbrev ki (a2:Ow (fj)) (a3:Ow (List eU)):Ow ga:=Ow.via (λ(x:ga)=>((x.on,x.disk,x.finder,x.store,x.mode):Bool×eK×fj×List eU×Int)) (Ow.pr (Ow.eE (α:=Bool)) (Ow.pr (Ow.eE (α:=eK)) (Ow.pr a2 (Ow.pr a3 (Ow.eE (α:=Int))))))
theorem ki.f0{a2:Ow (fj)}{a3:Ow (List eU)}:eF (ki a2 a3) (Ow.eE (α:=Bool)) (λ x:ga=>x.on) (λ y x=>{ x with on:=y }) 0:=⟨λ h=>(eF.fst).foc h⟩
theorem ki.f1{a2:Ow (fj)}{a3:Ow (List eU)}:eF (ki a2 a3) (Ow.eE (α:=eK)) (λ x:ga=>x.disk) (λ y x=>{ x with disk:=y }) 1:=⟨λ h=>((eF.snd eF.fst)).foc h⟩
theorem ki.f2{a2:Ow (fj)}{a3:Ow (List eU)}:eF (ki a2 a3) a2 (λ x:ga=>x.finder) (λ y x=>{ x with finder:=y }) 4:=⟨λ h=>((eF.snd (eF.snd eF.fst))).foc h⟩
theorem ki.f3{a2:Ow (fj)}{a3:Ow (List eU)}:eF (ki a2 a3) a3 (λ x:ga=>x.store) (λ y x=>{ x with store:=y }) 7:=⟨λ h=>((eF.snd (eF.snd (eF.snd eF.fst)))).foc h⟩
theorem ki.f4{a2:Ow (fj)}{a3:Ow (List eU)}:eF (ki a2 a3) (Ow.eE (α:=Int)) (λ x:ga=>x.mode) (λ y x=>{ x with mode:=y }) 8:=⟨λ h=>((eF.snd (eF.snd (eF.snd (eF.snd eF.id))))).foc h⟩
theorem ki.mk{M:Nat->Prop}{w:World}{x:ga}{g2:Nat->Prop}{a2:Ow (fj)}{g3:Nat->Prop}{a3:Ow (List eU)}{c0:List Value}{c1:List Value}{c2:List Value}{c3:List Value}{c4:List Value}(h0:ey.rdc M w c0 x.on)(h1:ey.rdc M w c1 x.disk)(h2:a2.ro M g2 w c2 x.finder)(h3:a3.ro M g3 w c3 x.store)(h4:ey.rdc M w c4 x.mode)(d2:∀ b,g2 b->¬ g3 b):(ki a2 a3).ro M (λ b=>g2 b\/g3 b) w [c0,c1,c2,c3,c4].flatten x:=by
 simp;exact⟨noB,(λ b=>g2 b\/g3 b),c0,_,λ _ h=>h.elim,λ _ h=>h,λ _ h=>h.elim,Z,h0,⟨noB,(λ b=>g2 b\/g3 b),c1,_,λ _ h=>h.elim,λ _ h=>h,λ _ h=>h.elim,Z,h1,⟨g2,g3,c2,_,λ _ h=>.inl h,λ _ h=>.inr h,d2,Z,h2,⟨g3,noB,c3,_,λ _ h=>h,λ _ h=>h.elim,λ _ _ h=>h,Z,h3,h4⟩⟩⟩⟩
instance:Inhabited Machine:=⟨⟨default,[],default,default,[],[],[],[],0⟩⟩
instance:Inhabited ga:=⟨⟨false,default,default,[],0⟩⟩
instance:Inhabited Runner:=⟨⟨default,[],[],[],[],0,0,default⟩⟩
open Go.RowKit Go.ChangeMaps Go.Maps Go.WideMaps
section
variable{look:Nat->Option Dt}{k:TypeId}
end
theorem Nc{o:Nat}(h:w'.heap[b]?=w.heap[b]?):w'.cell? ⟨b,o,none⟩=w.cell? ⟨b,o,none⟩:=by simp[World.cell?,h]
section
variable{fn:Func}{look:Nat->Option Dt}{k es:TypeId}
end
section
variable{f:Nat}
variable{α:Type}[ey α]
theorem Sx.AJ{x y:Operand}{n r:Int}(h:Sx F N M0 M Gs L O a w)
   (hS:S w)  (hx:eC M (λ s=>(L++eB O).lookup s) x (dt m)) (hy:eC M (λ s=>(L++eB O).lookup s) y (dt n)) (hm:i64 (gY op m n)=some r) (hk:op=.add\/op=.sub\/op=.mul:=by decide)
  (next:∀ a',Sx F N M0 M Gs ((d,dt r)::L) O a' w->wpAnyH P .any ops Q S f (listed.setIfInBounds i true) a' w)(ho:ops[i]?=some o:=by rfl)(hh:fH o N=some d:=by rfl)(hs:Region.noSelect ops=true:=by decide +kernel)(hf:Region.free .any ops listed i=true:=by decide +kernel)(hr:(Region.ready .any ops listed).contains i=true:=by decide +kernel)(hQ:∀ c a w v,Q (.panic c) (a.put o.dst v) w->Q (.panic c) a w:=by exact λ _ _ _ _ h=>h)(hop:o.op=.binOp op t x y t':=by rfl):wpAnyH P .any ops Q S (f+1) listed a w:=by
 obtain⟨rfl,hb⟩:=Br hm;refine h.kX (v:=.int .i64 (gY op m n)) (y:=dt (gY op m n)) ho hh hs hf hr (λ c a w=>hQ c a w _) hS (λ w' _=>?_) (yq.2 Z) Z next;have h1:=yq.1 (hx w a λ s y hy=>h.st.has s y hy);have h2:=yq.1 (hy w a λ s y hy=>h.st.has s y hy);have hw:=vz _ hb;unfold execOp;rw[hop];rcases hk with rfl | rfl | rfl <;> (simp only[gY] at hw ⊢;simp[h1,h2,eqGuard,binOp,Op.intArith,hw])
end
section
variable{α β γ:Type}[ey α][ey β][ey γ]
def Rd.t2(y:Dt)(o:Ow α)(x:α):Rd where
 rd M G w v:=∃ u1 u2,v=.tuple #[u1,u2]/\(y.rd M w u1/\y.nb=true)/\(eH o G x).rd M w u2
 stable:=λ⟨u1,u2,hv,h2,h3⟩ e=>⟨u1,u2,hv,⟨y.stable h2.1 (λ k hk hm=>e k hk (hm.imp id λ ho=>(y.nob h2.2 k ho).elim)),h2.2⟩,(eH o _ x).stable h3 e⟩
 weak:=λ⟨u1,u2,hv,h2,h3⟩ e=>⟨u1,u2,hv,⟨y.weak h2.1 e,h2.2⟩,(eH o _ x).weak h3 e⟩
 more:=λ⟨u1,u2,hv,h2,⟨cs,h3,h4⟩⟩ e=>⟨u1,u2,hv,h2,⟨cs,o.more h3 e,h4⟩⟩
variable{fn:Func}{look:Nat->Option Dt}
variable{oo:Ow α}
theorem Ua{x:α}(ho:o.op=.extract q 0)(hq:q=.tmp s)(hs:look s=some (kP (Rd.t2 y oo x) G)):eP P M look o y:=
 zz λ a w _ hl=>by
  obtain⟨u1,u2,hv,h2,_⟩:=hl s _ hs;have he:a.eval q=.tuple #[u1,u2]:=by rw[hq];exact hv
  exact⟨u1,by unfold execOp;rw[ho];simp[he,Instr.extract],h2.1⟩
theorem Sx.Lk{x:α}(h:Sx F N M0 M Gs L O a w)(p:Nat)(hh:fH o N=some d)(ho:o.op=.extract q 1)(hq:q=.tmp s)(hs:(L++eB O).lookup s=some (kP (Rd.t2 y oo x) G))(hG:∀ b,G b->zj Gs p b)(hdn:L.lookup d=none)(qs:List Nat)(hsel:fi L O qs p=some O2)
  (next:∀ a',Sx F N M0 M Gs L ((d,p,eH oo G x)::O2) a' w->wpList P ops Q rest a' w):wpList P ops Q (o::rest) a w:=by
 obtain⟨hgd,hd,hN⟩:=zK hh;obtain⟨u1,u2,hv,h1,h2⟩:=h.st.has s _ hs;refine av hgd λ K hK=>fb.wp (fb.iw (v:=u2) (w':=w) ?_ ?_)
 .have he:a.eval q=.tuple #[u1,u2]:=by rw[hq];exact hv
  unfold execOp;rw[ho];simp[he,Instr.extract]
 .rw[hd];exact hK _ _ (next _ ((h.drop hsel).iG hN hdn h2 hG))
theorem Sx.Ld(h:Sx F N M0 M Gs L O a w)(p:Nat)(hh:fH o N=some d)
  (ho:o.op=.call { callee:=.value (.func f),args:=l.toArray,argTypes:=ts }) (hf:gb P f=true) (hx:ArgsR M (λ s=>(L++eB O).lookup s) l xr) (hfn:iF P f xr r) 
  (ks:List Nat) (hk:ff ks L=some L2) (qs:List Nat) (hq:fi L O qs p=some O2) (hdn:L2.lookup d=none)
  (next:∀ G' M' a' w',Sx F N M0 M' (Gs.set p G') L2 ((d,p,kP r G')::O2) a' w'->wpList P ops Q rest a' w')(hp:p<Gs.length:=by simp):wpList P ops Q (o::rest) a w:=
 h.Aq p hh ho hf (λ _ h=>h) hx.two hfn hp ks hk qs hq λ G' M' v w' hM st hr=>next G' M' _ w' (st.iG (zK hh).2.2 hdn (r.weak hr λ k _ hk=>hM k hk) λ b hb=>by rw[zf hp];exact hb)
end
section
variable{fn:Func}
variable{α:Type}[ey α]
end
section
variable{α β γ:Type}[ey α][ey β][ey γ]
def Rd.lx(o:Ow α)(x:α)(y:Dt):Rd where
 rd M G w v:=∃ u1 u2,v=.tuple #[u1,u2]/\(eH o G x).rd M w u1/\y.rd M w u2/\y.nb=true
 stable:=λ⟨u1,u2,hv,h3,h2⟩ e=>⟨u1,u2,hv,(eH o _ x).stable h3 e,⟨y.stable h2.1 (λ k hk hm=>e k hk (hm.imp id λ ho=>(y.nob h2.2 k ho).elim)),h2.2⟩⟩
 weak:=λ⟨u1,u2,hv,h3,h2⟩ e=>⟨u1,u2,hv,(eH o _ x).weak h3 e,⟨y.weak h2.1 e,h2.2⟩⟩
 more:=λ⟨u1,u2,hv,⟨cs,h3,h4⟩,h2⟩ e=>⟨u1,u2,hv,⟨cs,o.more h3 e,h4⟩,h2⟩
def mM(y:Dt):Dt where
 rd M w v:=∃ u1 u2,v=.tuple #[u1,u2]/\y.rd M w u2/\y.nb=true
 own:=noB
 nb:=true
 nob _ _ h:=h
 stable:=λ⟨u1,u2,hv,h2⟩ e=>⟨u1,u2,hv,⟨y.stable h2.1 (λ k hk hm=>e k hk (hm.elim .inl λ ho=>(y.nob h2.2 k ho).elim)),h2.2⟩⟩
 weak:=λ⟨u1,u2,hv,h2⟩ e=>⟨u1,u2,hv,⟨y.weak h2.1 e,h2.2⟩⟩
variable{fn:Func}{look:Nat->Option Dt}
variable{oy:Ow β}
theorem Sx.rV{oo:Ow α}{x:α}(h:Sx F N M0 M Gs L O a w)(p:Nat)(qs:List Nat)
  (next:∀ a',Sx F N M0 M Gs ((s,mM y)::L) ((d,p,eH oo G x)::O2) a' w->wpList P ops Q rest a' w)(hh:fH o N=some d:=by rfl)(ho:o.op=.extract q 0:=by rfl)(hq:q=.tmp s:=by rfl)(hs:(L++eB O).lookup s=some (kP (Rd.lx oo x y) G):=by rfl)(hG:∀ b,G b->zj Gs p b:=by exact λ _ h=>h)(hdn:List.lookup d ((s,mM y)::L)=none:=by rfl)(hsel:fi L O qs p=some O2:=by rfl):wpList P ops Q (o::rest) a w:=by
 obtain⟨hgd,hd,hN⟩:=zK hh;obtain⟨u1,u2,hv,h1,h2⟩:=h.st.has s _ hs;refine av hgd λ K hK=>fb.wp (fb.iw (v:=u1) (w':=w) ?_ ?_)
 .have he:a.eval q=.tuple #[u1,u2]:=by rw[hq];exact hv
  unfold execOp;rw[ho];simp[he,Instr.extract]
 .rw[hd];exact hK _ _ (next _ (((h.drop hsel).lI (s:=s) (y:=mM y) ⟨u1,u2,hv,h2⟩).iG hN hdn h1 hG))
theorem vA(ho:o.op=.extract q 1)(hp:eC M look q (mM y)):eP P M look o y:=
 zz λ a w _ hl=>by
  obtain⟨u1,u2,hv,h2⟩:=hp w a hl;exact⟨u2,by unfold execOp;rw[ho];simp[hv,Instr.extract],h2.1⟩
theorem To(h:(eQ none e ([]:List β)).rd M w v):(eH (Ow.row e' oy) (eA none) []).rd M w v:=by
 rcases h with⟨cells,hown,hrow,hb⟩ | ⟨_,_,A,hv⟩
 .rcases hown.2 with⟨h1,_⟩ | ⟨b,cap,cur,h1,h2,_⟩
  .rw[h1];exact⟨[.slice none 0 0],⟨_,Z,.inr ⟨Z,none,Z⟩⟩,Z⟩
  .rw[h1] at hb;simp[Value.ownBlock] at hb
 .rw[hv];exact⟨[.slice A 0 0],⟨_,Z,.inr ⟨Z,A,Z⟩⟩,Z⟩
theorem Sx.AI(h:Sx F N M0 M Gs L O a w)(p:Nat)(qs:List Nat)(hs:(L++eB O).lookup s=some (eQ none e ([]:List β)):=by rfl)(hn:L.lookup s=none:=by rfl)(hq:fi L O qs p=some O2:=by rfl):Sx F N M0 M Gs L ((s,p,eH (Ow.row e' oy) (eA none) [])::O2) a w:=
 (h.drop hq).gu hn (To (h.st.has s _ hs)) λ b (h:none=some b)=>by cases h
end
attribute [local irreducible] eP eC
class fT (P:Program) (t:TypeId) (f:Nat) (fo:outParam Nat):Prop where
 h:fR P t f fo=true
instance:gE Machine 4 (List (Bx eZ)) (λ x=>x.modules) 4:=⟨Machine.ls⟩
section
variable{fn:Func}{l:List Oper}
theorem vB{look:Nat->Option Dt}{f:Nat}(ho:o.op=.fieldAddr t q f)(hp:eC M look q (fk (.pointer (some ⟨b,off,none⟩))))[c:fT P t f fo]{z:Dt}(e:z=fk (.pointer (some ⟨b,off+fo,none⟩)):=by rfl):eP P M look o z:=e ▸ eV ho c.h hp
theorem Qa{look:Nat->Option Dt}{α β:Type}[ey α][ey β]{p:Operand}{f ob:Nat}{x:α}{get:α->β}(ho:o.op=.fieldAddr t p f)(hp:eC M look p (eY g ob x))[c:gE α f β get off]{z:Dt}(e:z=eY g (ob+off) (get x):=by rfl)(ht:fR P t f off=true:=by kernel_rfl):eP P M look o z:=e ▸ jH c.h ho (ht:=ht) hp
theorem Gx{look:Nat->Option Dt}{α:Type}[ey α]{y:α}(ho:o.op=.buildSlice t 1 #[(0,q)])(hq:eC M look q (dt y))(hs:ey.size α<=16777216:=by decide)(ht':gV P t (ey.size α)=true:=by kernel_rfl)(hz':mC P t=true:=by kernel_rfl):eP P M look o (dt [y]):=wa (opds:=[q]) ho (ht':=ht') (hz':=hz') Z Z (hsz:=(by simpa using hs)) (.cons hq .nil)
theorem RB{look:Nat->Option Dt}(h:eP P M look o x:=by
  first
   | exact oM Z (zt Z)
   | exact gK Z (tp Z)
   | exact vB Z (tp Z)
   | exact sX Z (tp Z)
   | exact fS (sb:=0) (.head _) Z Z Z (tp Z) Z
   | exact fS (sb:=0) (.tail _ (.head _)) Z Z Z (tp Z) Z
   | exact fS (sb:=0) (.tail _ (.tail _ (.head _))) Z Z Z (tp Z) Z
   | exact Qa Z (tp Z)
   | exact yV Z (tp Z)
   | exact Gx Z (tp Z)):eP P M look o x:=h
theorem RC{look:Nat->Option Dt}(h:eP P M look o x:=by
  first
   | exact Gm
   | exact yV Z fc
   | exact Qa Z fc
   | exact gK Z fc
   | exact sX Z fc
   | exact vB Z fc
   | exact oM Z (zt Z)):eP P M look o x:=h
theorem lF(h:Seg P M ops N L l L':=by repeat (first | exact .nil | apply sc rfl RB | apply sc rfl Gl | apply sg rfl rfl (λ _=>RC))):Seg P M ops N L l L':=h
theorem sP(n:Nat)(h:Seg P M ops N L (l.take n) L1:=by exact lF)(r:Seg P M ops N L1 (l.drop n) L'):Seg P M ops N L l L':=sp n h r
theorem Sx.LZ(h:Sx F N M0 M Gs L O a w){id:Nat}{c2:Code}(ks:List Nat)(qp:List (Nat×Nat))(hQ:∀ a' w',Sx F N M0 M Gs L2 O2 a' w'->c2.wp P Q a' w')
  (hs:Seg P M ops N (L++eB O) ops.toList L':=by exact lF) (hk:ff ks L'=some L2:=by rfl) (hq:gy qp L'=some O2:=by rfl) (hw:gf Gs O2:=by exact iB):(Code.seq (Code.region id ops false) c2).wp P Q a w:=
 h.sq hs ks hk qp hq hw hQ
theorem Sx.segC(h:Sx F N M0 M Gs L O a w)(n:Nat)(ks:List Nat)(qp:List (Nat×Nat))(hQ:∀{a' w'},Sx F N M0 M Gs L2 O2 a' w'->wpList P ops Q (l.drop n) a' w')
  (hs:Seg P M ops N (L++eB O) (l.take n) L':=by exact lF) (hk:ff ks L'=some L2:=by rfl) (hq:gy qp L'=some O2:=by rfl) (hw:gf Gs O2:=by exact iB):wpList P ops Q l a w:=
 h.seg n hs ks hk qp hq hw (λ _ _ h_=>hQ h_)
end
class mV (Gs:List (Nat->Prop)) (p:Nat) (f:outParam ((Nat->Prop)->List (Nat->Prop))):Prop where
 h:∀ G,Gs.set p G=f G
instance {g:Nat->Prop} {l:List (Nat->Prop)}:mV (g::l) 0 (λ G=>G::l):=⟨λ _=>Z⟩
instance {g:Nat->Prop} {l:List (Nat->Prop)} {k:Nat} {f:(Nat->Prop)->List (Nat->Prop)} [s:mV l k f]:mV (g::l) (k+1) (λ G=>g::f G):=⟨λ G=>by rw[List.set_cons_succ,s.h]⟩
instance {g:Nat->Prop} {n k:Nat} {f:(Nat->Prop)->List (Nat->Prop)} [s:mV (g::List.replicate n g) k f]:mV (List.replicate (n+1) g) k f:=⟨s.h⟩
instance {g:Nat->Prop} {l:List (Nat->Prop)} {q k:Nat} {f f0:(Nat->Prop)->List (Nat->Prop)} [s0:mV l q f0] [s:mV (f0 g) k f]:mV (l.set q g) k f:=⟨λ G=>by rw[s0.h,s.h]⟩
class nw (Gs:List (Nat->Prop)) (Gs':outParam (List (Nat->Prop))):Prop where
 h:Gs=Gs'
instance:nw [] []:=⟨Z⟩
instance {g:Nat->Prop} {l l':List (Nat->Prop)} [n:nw l l']:nw (g::l) (g::l'):=⟨by rw[n.h]⟩
instance {g:Nat->Prop}:nw (List.replicate 0 g) []:=⟨Z⟩
instance {g:Nat->Prop} {k:Nat} {l:List (Nat->Prop)} [n:nw (List.replicate k g) l]:nw (List.replicate (k+1) g) (g::l):=⟨by rw[dg,n.h]⟩
instance {g:Nat->Prop} {l l':List (Nat->Prop)} {p:Nat} {f:(Nat->Prop)->List (Nat->Prop)} [n:nw l l'] [s:mV l' p f]:nw (l.set p g) (f g):=⟨by rw[n.h,s.h]⟩
section
variable{fn:Func}{l:List Oper}
variable{α β:Type}[ey α][ey β]
theorem Sx.gn[n:nw Gs Gs'](h:Sx F N M0 M Gs L O a w):Sx F N M0 M Gs' L O a w:=by rw[<-n.h];exact h
section
variable{S:List (List (Nat×Option Nat))}{xs:List (Nat×Dt)}
theorem Sx.pQ(h:Sx F N M0 M Gs L O a w){id:Nat}(hm:P.follows .mixedOrders=true)(S:List (List (Nat×Option Nat)))(ks:List Nat)(qp:List (Nat×Nat))(hQ:∀{a' w'},Sx F N M0 M Gs L2 O2 a' w'->Q .normal a' w')
  (hs:RegR P M ops N S (L++eB O) D 0 ops.toList xs:=by exact regA) (hc:jA ops ops.size (kO ops) S=true:=by decide +kernel) (hk:ff ks (xs++(L++eB O))=some L2:=by rfl) (hq:gy qp (xs++(L++eB O))=some O2:=by rfl) (hw:gf Gs O2:=by exact iB):(Code.region id ops true).wp P Q a w:=
 h.dr hm S hc hs ks hk qp hq hw (λ _ _ h_=>hQ h_)
theorem Sx.rU(h:Sx F N M0 M Gs L O a w){id:Nat}(hm:P.follows .mixedOrders=true)(k:Nat)(S:List (List (Nat×Option Nat)))(ks:List Nat)(qp:List (Nat×Nat))(hQ:∀ a' w',Sx F N M0 M Gs L2 O2 a' w'->wpList P ops Q (ops.toList.drop k) a' w')
  (hs:RegR P M ops N S (L++eB O) D 0 (ops.toList.take k) xs:=by exact regA) (hc:jA ops k (kO ops) S=true:=by decide +kernel) (hkn:k<=ops.size:=by decide) (hk:ff ks (xs++(L++eB O))=some L2:=by rfl) (hq:gy qp (xs++(L++eB O))=some O2:=by rfl) (hw:gf Gs O2:=by exact iB):(Code.region id ops true).wp P Q a w:=
 h.DN hm k S hc hkn hs ks hk qp hq hw hQ
end
theorem Sx.gL{oy:Ow β}{A:Array Operand}{l:List Operand}{y y':β}{f2:(Nat->Prop)->List (Nat->Prop)}(h:Sx F N M0 M Gs L O a w)(p sb:Nat)(hfn:fP P f oy y xr y' (.eE yd))(ks qs:List Nat)
  (next:∀{G'' M' a' w'},Sx F N M0 M' (f2 G'') ((d,yd)::L2) ((sb,p,eJ oy G'' y' v0 [])::O2) a' w'->wpList P ops Q rest a' w')
  (hs:(L++eB O).lookup sb=some (eJ oy G y v0 cf):=by rfl) (hG:∀ b,G b->zj Gs p b:=by exact λ _ h=>h) (hh:fH o N=some d:=by rfl)
  (ho:o.op=.call { callee:=.value (.func f),args:=A,argTypes:=ts }:=by rfl) (hA:A.toList=.tmp k::l:=by rfl) (hf:gb P f=true:=by kernel_rfl) (hk0:(L++eB O).lookup k=some (fk v0):=by rfl) (hp:p<Gs.length:=by simp)
  (hx:ArgsR M (λ s=>(L++eB O).lookup s) l xr:=by exact uA) (hk:ff ks L=some L2:=by rfl) (hq:fi L O qs p=some O2:=by rfl) (hsn:L2.lookup sb=none:=by rfl) (hne:sb≠d:=by decide) [sl:mV Gs p f2]:wpList P ops Q (o::rest) a w:=by
 have e:A=(.tmp k::l).toArray:=by rw[<-hA]
 subst e;exact h.kV p (h.lr (hs:=hs) (hG:=hG)) hh ho hf (ek (h.st.has k _ hk0) (h.st.has sb _ hs).1.symm) hp hx hfn ks hk qs hq hsn hne @λ G'' M' a' w' st=>next (by rw[<-sl.h];exact st)
theorem Sx.fX{o:Nat}{cs:List Value}{x:α}(h:Sx F N M0 M Gs L O a w)(s:Nat)(hs:(L++eB O).lookup s=some (oj b o cs x):=by rfl):iu w b o cs:=h.nX (hs:=hs)
section
variable{f:Nat}
theorem kG(h:Q .normal a w)(hr:Region.ready .any ops listed=[]:=by decide +kernel):wpAnyH P .any ops Q S f listed a w:=MG hr h
theorem fp(i:Nat)(h:wpList P ops (QH P ops Q S f (listed.setIfInBounds i true)) [o] a w)(hr:Region.ready .any ops listed=[i]:=by decide +kernel)(ho:ops[i]?=some o:=by rfl):wpAnyH P .any ops Q S (f+1) listed a w:=MH hr ho h
theorem iU(i j:Nat)(h:wpList P ops (QH P ops Q S f (listed.setIfInBounds i true)) [o] a w)(h2:wpList P ops (QH P ops Q S f (listed.setIfInBounds j true)) [o2] a w)(hr:Region.ready .any ops listed=[i,j]:=by decide +kernel)(ho:ops[i]?=some o:=by rfl)(ho2:ops[j]?=some o2:=by rfl):wpAnyH P .any ops Q S (f+1) listed a w:=Ep hr ho ho2 h h2
end
end
section
variable{fn:Func}{T:Prop}
theorem Sx.eW{α β:Type}[ey α][ey β]{t q:Nat}{x:α}{y0 y:β}{set:α->β->α}(h:Sx F N M0 M Gs L O a w)(sb p:Nat)(fs:eO set off)(hvl:eC M (λ s=>(L++eB O).lookup s) vo (dt y))(ks qs:List Nat)
  (next:∀{M' w'},Sx F N M0 M' Gs L2 ((sb,p,eY g 0 (set x y))::O2) a w'->wpList P ops Q rest a w') (ho:o.op=.store t (.tmp q) vo:=by rfl) (hgd:o.guard=none:=by rfl) (hd:o.dst=none:=by rfl)
  (hpl:(L++eB O).lookup q=some (eY g off y0):=by rfl) (hsl:(L++eB O).lookup sb=some (eY g 0 x):=by rfl) (ht:fM P t (ey.agg β) (ey.size β)=true:=by kernel_rfl) (hg:Gs[p]?=some (eA g):=by rfl)
  (hk:ff ks L=some L2:=by rfl) (hq:fi L O qs p=some O2:=by rfl) (hdn:L2.lookup sb=none:=by rfl):wpList P ops Q (o::rest) a w:=
 h.store p fs ho hgd hd ht hg hpl hvl hsl ks hk qs hq hdn (λ _ _ h_=>next h_)
theorem Sx.fB{α:Type}[ey α]{t:Nat}{zs:List Value}{d0:α}(h:Sx F N M0 M Gs L O a w)(p:Nat)(hz:∀ (M:Nat->Prop) (w:World),ey.rdc M w zs d0)(ks qs:List Nat)
  (next:∀{M' a' w'} b,Sx F N M0 M' (Gs.set p (eA (some b))) L2 ((d,p,eY (some b) 0 d0)::O2) a' w'->wpList P ops Q rest a' w') (hh:fH o N=some d:=by rfl) (ho:o.op=.alloc t:=by rfl) (hzc:zeroCells P t=some zs:=by kernel_rfl) (hp:p<Gs.length:=by simp)
  (hk:ff ks L=some L2:=by rfl) (hq:fi L O qs p=some O2:=by rfl) (hdn:L2.lookup d=none:=by rfl):wpList P ops Q (o::rest) a w:=
 h.alloc p hh ho hzc hz hp ks hk qs hq hdn (λ b _ _ _ h_=>next b h_)
theorem Sx.ic{α:Type}[ey α]{x:Nat}{xs ys r:List α}{z:Dt}(h:Sx F N M0 M Gs L O a w)(p:Nat)(hz:pY z ys)(hm:fE bytes xs ys=some r)(ks qs:List Nat)
  (next:∀{M' a' w'} g',Sx F N M0 M' (Gs.set p (eA g')) L2 ((d,p,eQ g' e r)::O2) a' w'->wpList P ops Q rest a' w') (hh:fH o N=some d:=by rfl)
  (ho:o.op=.call { callee:=.builtin .append,args:=#[.tmp s,.tmp x],argTypes:=#[t,t] }:=by rfl) (hs:(L++eB O).lookup s=some (eQ g e xs):=by rfl) (hel:iH P t e (ey.size α) bytes=true:=by kernel_rfl)
  (hg:Gs[p]?=some (eA g):=by rfl) (hx:(L++eB O).lookup x=some z:=by rfl)
  (hk:ff ks L=some L2:=by rfl) (hq:fi L O qs p=some O2:=by rfl) (hdn:L2.lookup d=none:=by rfl):wpList P ops Q (o::rest) a w:=
 h.app p hh ho hel hs hg hx hz hm ks hk qs hq hdn (λ g' _ _ _ h_=>next g' h_)
variable{α β γ:Type}[ey α][ey β][ey γ]
variable{oy:Ow β}{y':β}
theorem Sx.fL{ow:Ow α}{x:α}{ys:List β}{upd:List β->α}(h:Sx F N M0 M Gs L O a w)(s p:Nat)(hP:PH ow x v0 cf (Ow.row e oy) b off ys upd)(qs:List Nat)
  (next:∀ (g:Nat) (A:Option Addr) (cap:Nat),(ys.length≠0->true=true->A=some ⟨g,0,none⟩)->Sx F N M0 M Gs L ((s,p,eJ ow G x v0 ((true,b,off,.slice A ys.length cap)::cf))::O2) a w->T)
  (hs:(L++eB O).lookup s=some (eJ ow G x v0 cf):=by rfl) (hn:L.lookup s=none:=by rfl) (hG:∀ b,G b->zj Gs p b:=by exact λ _ h=>h) (hq:fi L O qs p=some O2:=by rfl):T:=
 h.oZ p true (λ _=>hP) (hs:=hs) (hn:=hn) (hG:=hG) qs (hq:=hq) next
theorem Sx.gX{ow:Ow α}{t q:Nat}{x:α}{y:β}{upd:β->α}(h:Sx F N M0 M Gs L O a w)(sb p:Nat)(hP:PH ow x v0 cf Ow.eE b off y upd)
  (hpl:eC M (λ s=>(L++eB O).lookup s) (.tmp q) (fk (.pointer (some ⟨b,off,none⟩)))) (hvl:eC M (λ s=>(L++eB O).lookup s) vo (dt y')) (ks qs:List Nat)
  (next:∀{w'},Sx F N M0 M Gs L2 ((sb,p,eJ ow G (upd y') v0 [])::O2) a w'->wpList P ops Q rest a w') (hs:(L++eB O).lookup sb=some (eJ ow G x v0 cf):=by rfl) (ho:o.op=.store t (.tmp q) vo:=by rfl) (hgd:o.guard=none:=by rfl) (hd:o.dst=none:=by rfl)
  (ht:fM P t (ey.agg β) (ey.size β)=true:=by kernel_rfl) (hp:p<Gs.length:=by simp) (hn:L.lookup sb=none:=by rfl) (hG:∀ b,G b->zj Gs p b:=by exact λ _ h=>h)
  (hk:ff ks L=some L2:=by rfl) (hq:fi L O qs p=some O2:=by rfl) (hdn:L2.lookup sb=none:=by rfl):wpList P ops Q (o::rest) a w:=
 h.kM p hP (ho:=ho) (hgd:=hgd) (hd:=hd) (ht:=ht) (hp:=hp) hpl hvl (hs:=hs) (hn:=hn) (hG:=hG) ks (hk:=hk) qs (hq:=hq) (hdn:=hdn) (λ h_=>next h_)
theorem Sx.kg{ow:Ow α}{t q:Nat}{upd:β->α}(h:Sx F N M0 M Gs L O a w)(sb tv p p2:Nat)(hpl:eC M (λ s=>(L++eB O).lookup s) (.tmp q) (fk (.pointer (some ⟨b,off,none⟩))))(ks qs:List Nat)
  (next:∀{G' w'},Sx F N M0 M ((Gs.set p G').set p2 (eA none)) L2 ((sb,p,eJ ow G' (upd y') v0 [])::O2) a w'->wpList P ops Q rest a w')
  (ho:o.op=.store t (.tmp q) (.tmp tv):=by rfl) (hgd:o.guard=none:=by rfl) (hd:o.dst=none:=by rfl) (hvl:(L++eB O).lookup tv=some (eH oy G3 y'):=by rfl) (hs:(L++eB O).lookup sb=some (lS ow oy G v0 b off upd):=by rfl)
  (ht:fM P t (ey.agg β) (ey.size β)=true:=by kernel_rfl) (hp:p<Gs.length:=by simp) (hp2:p2<Gs.length:=by simp) (hne:p≠p2:=by decide) (hG:∀ b,G b->zj Gs p b:=by exact λ _ h=>h) (hG3:∀ b,G3 b->zj Gs p2 b:=by exact λ _ h=>h)
  (hk:ff ks L=some L2:=by rfl) (hq:fi L O qs p=some O2:=by rfl) (hq2:O2.all (λ q=>q.2.1 != p2)=true:=by rfl) (hdn:L2.lookup sb=none:=by rfl):wpList P ops Q (o::rest) a w:=
 h.D9 p p2 ho hgd hd ht hp hp2 hne hpl hvl hs hG hG3 ks hk qs hq hq2 hdn (λ _ _ h_=>next h_)
theorem Sx.kf{o1 o2:Ow γ}{x:γ}(h:Sx F N M0 M Gs L O a w)(s p:Nat)(hw:lB o1 o2 x)(qs:List Nat)(hs:(L++eB O).lookup s=some (eJ o1 G x v0 cf):=by rfl)(hn:L.lookup s=none:=by rfl)(hG:∀ b,G b->zj Gs p b:=by exact λ _ h=>h)(hq:fi L O qs p=some O2:=by rfl):
  Sx F N M0 M Gs L ((s,p,eJ o2 G x v0 cf)::O2) a w:=h.DJ p hs hn hG hw qs hq
end
section
variable{f:Nat}
variable{α β:Type}[ey α][ey β]
theorem Sx.tM(h:Sx F N M0 M Gs L O a w)(i sb:Nat)(hS:S w)(next:∀ a',Sx F N M0 M Gs ((d,y)::L) O a' w->wpAnyH P .any ops Q S f (listed.setIfInBounds i true) a' w)
  (ho:ops[i]?=some o:=by rfl) (hh:fH o N=some d:=by rfl) (hs:Region.noSelect ops=true:=by decide +kernel) (hf:Region.free .any ops listed i=true:=by decide +kernel) (hr:(Region.ready .any ops listed).contains i=true:=by decide +kernel)
  (hQ:∀ c a w v,Q (.panic c) (a.put o.dst v) w->Q (.panic c) a w:=by exact λ _ _ _ _ h=>h) (hl:(L++eB O).lookup sb=some y:=by rfl) (hn:y.nb=true:=by rfl) (hop:o.op=.move q:=by rfl) (hq:q=.tmp sb:=by rfl):wpAnyH P .any ops Q S (f+1) listed a w:=
 h.AK ho hh (hs:=hs) (hf:=hf) (hr:=hr) (hQ:=hQ) hS hl hn hop hq next
theorem Sx.tN{ow:Ow α}{x:α}(h:Sx F N M0 M Gs L O a w)(i sb:Nat)(hS:S w)(next:∀ a',Sx F N M0 M Gs ((d,fk v0)::L) O a' w->wpAnyH P .any ops Q S f (listed.setIfInBounds i true) a' w)
  (ho:ops[i]?=some o:=by rfl) (hh:fH o N=some d:=by rfl) (hs:Region.noSelect ops=true:=by decide +kernel) (hf:Region.free .any ops listed i=true:=by decide +kernel) (hr:(Region.ready .any ops listed).contains i=true:=by decide +kernel)
  (hQ:∀ c a w v,Q (.panic c) (a.put o.dst v) w->Q (.panic c) a w:=by exact λ _ _ _ _ h=>h) (hl:(L++eB O).lookup sb=some (eJ ow G x v0 cf):=by rfl) (hop:o.op=.move q:=by rfl) (hq:q=.tmp sb:=by rfl):wpAnyH P .any ops Q S (f+1) listed a w:=
 h.AL ho hh (hs:=hs) (hf:=hf) (hr:=hr) (hQ:=hQ) hS hl hop hq next
theorem Sx.tA{n:Nat}{cs:List Value}{x:α}(h:Sx F N M0 M Gs L O a w)(i sb:Nat)(next:∀ a',Sx F N M0 M Gs ((d,fk (.pointer (some ⟨b,off+fo,none⟩)))::L) O a' w->wpAnyH P .any ops Q (λ w=>iu w b off cs) f (listed.setIfInBounds i true) a' w)
  (ho:ops[i]?=some o:=by rfl) (hh:fH o N=some d:=by rfl) (hs:Region.noSelect ops=true:=by decide +kernel) (hf:Region.free .any ops listed i=true:=by decide +kernel) (hr:(Region.ready .any ops listed).contains i=true:=by decide +kernel)
  (hQ:∀ c a w v,Q (.panic c) (a.put o.dst v) w->Q (.panic c) a w:=by exact λ _ _ _ _ h=>h) (hl:(L++eB O).lookup sb=some (oj b off cs x):=by rfl) (hop:o.op=.fieldAddr t q n:=by rfl) (ht:fR P t n fo=true:=by exact fT.h) (hq:q=.tmp sb:=by rfl):wpAnyH P .any ops Q (λ w=>iu w b off cs) (f+1) listed a w:=
 h.Mf ho hh hs hf hr hQ hl hop ht hq next
theorem Sx.tF{cs:List Value}{x:α}{get:α->β}(h:Sx F N M0 M Gs L O a w)(i sb s2:Nat)(fl:eM get fo)(next:∀ a',Sx F N M0 M Gs ((d,dt (get x))::L) O a' w->wpAnyH P .any ops Q (λ w=>iu w b off cs) f (listed.setIfInBounds i true) a' w)
  (ho:ops[i]?=some o:=by rfl) (hh:fH o N=some d:=by rfl) (hs:Region.noSelect ops=true:=by decide +kernel) (hf:Region.free .any ops listed i=true:=by decide +kernel) (hr:(Region.ready .any ops listed).contains i=true:=by decide +kernel)
  (hQ:∀ c a w v,Q (.panic c) (a.put o.dst v) w->Q (.panic c) a w:=by exact λ _ _ _ _ h=>h) (hl:(L++eB O).lookup sb=some (oj b off cs x):=by rfl) (hl2:(L++eB O).lookup s2=some (fk (.pointer (some ⟨b,off+fo,none⟩))):=by rfl) (hop:o.op=.load t q:=by rfl) (ht:fM P t (ey.agg β) (ey.size β)=true:=by kernel_rfl) (hq:q=.tmp s2:=by rfl):wpAnyH P .any ops Q (λ w=>iu w b off cs) (f+1) listed a w:=
 h.Mh fl ho hh hs hf hr hQ hl hl2 hop ht hq next
end
section
variable{fn:Func}{l:List Oper}{id:Nat}
variable{α β:Type}{B:Option β}
theorem Gp{look:Nat->Option Dt}(h:eP P M look o x:=by
  first
   | exact oM Z (zt Z)
   | exact oM Z (tp Z)
   | exact oA Z (tp Z)
   | exact oA Z cI
   | exact ZQ Z (tp Z)
   | exact lV Z (tp Z) (tp Z)
   | exact lV Z (tp Z) cI
   | exact zG Z (tp Z)
   | exact oA Z cB
   | exact oM Z cI
   | exact oM Z cB
   | exact Ql Z (tp Z)
   | exact rq Z (tp Z)
   | exact mY Z (tp Z) cI (by with_reducible assumption)
   | exact mY Z (tp Z) (tp Z) (by with_reducible assumption)
   | exact mY Z cI (tp Z) (by with_reducible assumption)
   | exact xIdx Z (tp Z) (tp Z) (by with_reducible assumption)
   | exact lV Z (tp Z) (yM)
   | exact oA Z (yM)
   | exact oM Z (yM)
   | exact sW Z (tp Z) Z
   | exact nH Z (tp Z) (tp Z) (by with_reducible assumption)
   | exact nI Z (tp Z) (tp Z) (by with_reducible assumption)
   | exact pB Z (tp Z) (tp Z) (by with_reducible assumption)
   | exact oB Z (tp Z) (tp Z) (by with_reducible assumption)
   | exact JT Z (tp Z)
   | exact xd Z (tp Z) (tp Z)
   | exact qe Z (tp Z) (tp Z)
   | exact gK Z (tp Z)
   | exact vB Z (tp Z)
   | exact sX Z (tp Z)
   | exact fS (sb:=0) (.head _) Z Z Z (tp Z) Z
   | exact fS (sb:=0) (.tail _ (.head _)) Z Z Z (tp Z) Z
   | exact fS (sb:=0) (.tail _ (.tail _ (.head _))) Z Z Z (tp Z) Z
   | exact Qa Z (tp Z)
   | exact yV Z (tp Z)
   | exact Gx Z (tp Z)
   | exact oF Z (tp Z) (tp Z)
   | (apply rE Z uA;first | exact gC.h (by with_reducible assumption) | exact fY.h (by with_reducible assumption) | exact ky.h (by with_reducible assumption) | exact od.h (by with_reducible assumption) | exact uw.h (by with_reducible assumption) | with_reducible assumption)
   | exact sN Z (tp Z) fc
   | exact vk Z (tp Z) fc
   | exact oG Z fc fc (by with_reducible assumption)
   | exact mY Z fc fc (by with_reducible assumption)
   | exact lV Z fc fc
   | exact nI Z fc fc (by with_reducible assumption)
   | exact xIdx Z fc fc (by with_reducible assumption)
   | exact nH Z fc fc (by with_reducible assumption)
   | exact pB Z fc fc (by with_reducible assumption)
   | exact oB Z fc fc (by with_reducible assumption)
   | exact xCutLH Z (by kernel_rfl) fc fc fc (by with_reducible assumption)):eP P M look o x:=h
theorem Gn{look:Nat->Option Dt}(h:eP P M look o x:=by
  first
   | exact oM Z fc
   | exact zG Z fc
   | exact Ql Z fc
   | exact ZQ Z fc
   | exact lV Z fc fc
   | exact rq Z fc
   | exact oA Z fc
   | exact sN Z fc fc
   | exact vk Z fc fc
   | exact mY Z fc fc (gh (by with_reducible assumption) (by with_reducible assumption))
   | exact xIdx Z fc fc (gh (by with_reducible assumption) (by with_reducible assumption))
   | exact nH Z fc fc (gh (by with_reducible assumption) (by with_reducible assumption))
   | exact nI Z fc fc (gh (by with_reducible assumption) (by with_reducible assumption))
   | exact oB Z fc fc (gh (by with_reducible assumption) (by with_reducible assumption))
   | exact pB Z fc fc (gh (by with_reducible assumption) (by with_reducible assumption))
   | exact oG Z fc fc (gh (by with_reducible assumption) (by with_reducible assumption))
   | exact yV Z fc
   | exact Qa Z fc
   | exact gK Z fc
   | exact sX Z fc
   | exact vB Z fc
   | exact oM Z (zt Z)
   | (apply rE Z AY;first | exact gC.h (gh (by with_reducible assumption) (by with_reducible assumption)) | exact fY.h (gh (by with_reducible assumption) (by with_reducible assumption)) | exact ky.h (gh (by with_reducible assumption) (by with_reducible assumption)))):eP P M look o x:=h
theorem eI(h:Seg P M ops N L l L':=by repeat (first | exact .nil | apply sc rfl Gp | apply sg rfl rfl (λ _=>Gn))):Seg P M ops N L l L':=h
theorem sZ(n:Nat)(h:Seg P M ops N L (l.take n) L1:=by exact eI)(r:Seg P M ops N L1 (l.drop n) L'):Seg P M ops N L l L':=sp n h r
theorem Sx.z1(h:Sx F N M0 M Gs L O a w)(next:∀{a' w'},Sx F N M0 M Gs L2 [] a' w'->Q .normal a' w')(hs:Seg P M ops N (L++eB O) ops.toList L':=by exact eI)(hk:kp L' []=some L2:=by rfl):(Code.region id ops false).wp P Q a w:=
 h.go (qp:=[]) hs hk Z trivial (λ _ _ h_=>next h_)
theorem Sx.zo(h:Sx F N M0 M Gs L O a w)(qp:List (Nat×Nat))(next:∀{a' w'},Sx F N M0 M Gs L2 O2 a' w'->Q .normal a' w')(hs:Seg P M ops N (L++eB O) ops.toList L':=by exact eI)(hk:kp L' []=some L2:=by rfl)(hq:gy qp L'=some O2:=by rfl)(hw:gf Gs O2:=by exact iB):(Code.region id ops false).wp P Q a w:=
 h.go hs hk hq hw (λ _ _ h_=>next h_)
theorem Sx.zg(h:Sx F N M0 M Gs L O a w)(n:Nat)(next:∀{a' w'},Sx F N M0 M Gs L2 [] a' w'->wpList P ops Q (l.drop n) a' w')(hs:Seg P M ops N (L++eB O) (l.take n) L':=by exact eI)(hk:kp L' []=some L2:=by rfl):wpList P ops Q l a w:=
 h.tU (qp:=[]) n hs hk Z trivial (λ _ _ h_=>next h_)
theorem Sx.zh(h:Sx F N M0 M Gs L O a w)(n:Nat)(qp:List (Nat×Nat))(next:∀{a' w'},Sx F N M0 M Gs L2 O2 a' w'->wpList P ops Q (l.drop n) a' w')(hs:Seg P M ops N (L++eB O) (l.take n) L':=by exact eI)(hk:kp L' []=some L2:=by rfl)(hq:gy qp L'=some O2:=by rfl)(hw:gf Gs O2:=by exact iB):wpList P ops Q l a w:=
 h.tU n hs hk hq hw (λ _ _ h_=>next h_)
theorem ru(h:SegW P M ops N L l L':=by repeat (first | exact .nil | apply sw rfl Gp | apply gW rfl rfl (λ _=>Gn))):SegW P M ops N L l L':=h
theorem Sx.zw(h:Sx F N M0 M Gs L O a w)(next:∀{a' w'},Sx F N M0 M Gs L2 [] a' w'->Q .normal a' w')(hs:SegW P M ops N (L++eB O) ops.toList L':=by exact ru)(hk:kp L' []=some L2:=by rfl)(hm:P.follows .mixedOrders=true:=by kernel_rfl)(hc:jA ops ops.size (kO ops) (mj ops)=true:=by decide +kernel):(Code.region id ops true).wp P Q a w:=
 h.gw (qp:=[]) hm ops.size (by rwa[show ops.size=ops.toList.length from by simp,aQ]) hc (al _) hk Z trivial λ a' w' h=>by
  rw[show ops.size=ops.toList.length from by simp,bX];exact Kb (next h)
theorem Sx.zv(h:Sx F N M0 M Gs L O a w)(qp:List (Nat×Nat))(next:∀{a' w'},Sx F N M0 M Gs L2 O2 a' w'->Q .normal a' w')(hs:SegW P M ops N (L++eB O) ops.toList L':=by exact ru)(hk:kp L' []=some L2:=by rfl)(hq:gy qp L'=some O2:=by rfl)(hw:gf Gs O2:=by exact iB)(hm:P.follows .mixedOrders=true:=by kernel_rfl)(hc:jA ops ops.size (kO ops) (mj ops)=true:=by decide +kernel):(Code.region id ops true).wp P Q a w:=
 h.gw hm ops.size (by rwa[show ops.size=ops.toList.length from by simp,aQ]) hc (al _) hk hq hw λ a' w' h=>by
  rw[show ops.size=ops.toList.length from by simp,bX];exact Kb (next h)
theorem Sx.zu(h:Sx F N M0 M Gs L O a w)(k:Nat)(qp:List (Nat×Nat))(next:∀{a' w'},Sx F N M0 M Gs L2 O2 a' w'->wpList P ops Q (ops.toList.drop k) a' w')(hs:SegW P M ops N (L++eB O) (ops.toList.take k) L':=by exact ru)(hk:kp L' []=some L2:=by rfl)(hq:gy qp L'=some O2:=by rfl)(hw:gf Gs O2:=by exact iB)(hm:P.follows .mixedOrders=true:=by kernel_rfl)(hc:jA ops k (kO ops) (mj ops)=true:=by decide +kernel)(hkn:k<=ops.size:=by decide):(Code.region id ops true).wp P Q a w:=
 h.gw hm k hs hc hkn hk hq hw (λ _ _ h_=>next h_)
theorem Sx.ze[ey α]{t:Nat}{x r:α}(h:Sx (eG.of w0) N M0 M Gs L O a w)(hm:some x=some r)(hq:∀ a' w',bodyPost P fn (kZ M0 w0 (dt r)) .ret a' w'->Q .normal a' w':=by exact λ _ _ h=>h)(hr:fn.results=#[.tmp t]:=by rfl)
  (hs:Seg P M ops N (L++eB O) ops.toList L':=by exact eI) (hl:L'.lookup t=some (dt x):=by rfl):(Code.region id ops false).wp P Q a w:=by
 injection hm with hm;subst hm;exact h.rW hs λ a' w' st=>hq a' w' (tJ hr st hl λ v hv=>(dt x).weak hv λ k _ hk=>h.ob.sub k hk)
theorem Sx.zl[ey α]{t:Nat}{x r:List α}(h:Sx (eG.of w0) N M0 M Gs L O a w)(p:Nat)(hm:some x=some r)(hq:∀ a' w',bodyPost P fn (sx e M0 w0 r) .ret a' w'->Q .normal a' w':=by exact λ _ _ h=>h)(hr:fn.results=#[.tmp t]:=by rfl)
  (hs:Seg P M ops N (L++eB O) ops.toList L':=by exact eI) (hl:gy [(t,p)] L'=some O2:=by rfl) (hw:gf Gs O2:=by exact iB) (hl2:(eB O2).lookup t=some (eQ g e x):=by rfl) (hg:∀ b,g=some b->zj Gs p b:=by first | exact λ _ h=>h | exact λ _ h=>(by cases h)):(Code.region id ops false).wp P Q a w:=
 h.rW hs λ a' w' st=>hq a' w' ((Sx.nW (ks:=[]) st h.ob Z hl hw).sh p (hr:=hr) (hl:=hl2) (hg:=hg) hm)
theorem Sx.zn{σ:Type}{x:σ⊕β}{s:σ}{T:σ->Act->World->Prop}(h:Sx F N M0 M Gs L O a w)(qp:List (Nat×Nat))(h2:some (Sum.inl s)=some x)(hq:∀ a' w',(∃ s',x=.inl s'/\T s' a' w')->Q .normal a' w':=by exact λ _ _ h=>h)
  (hs:Seg P M ops N (L++eB O) ops.toList L':=by exact eI) (hk:kp L' []=some L2:=by rfl) (hsq:gy qp L'=some O2:=by rfl) (hw:gf Gs O2:=by exact iB) (k:∀ a' w',Sx F N M0 M Gs L2 O2 a' w'->T s a' w':=by intro _ _ _;exact fz):(Code.region id ops false).wp P Q a w:=
 h.rW hs λ a' w' st=>hq a' w' ⟨s,(bV h2).symm,k a' w' (Sx.sf st h.ob hk hsq hw)⟩
theorem Sx.zc{c:Nat}{b:Bool}{x z:Code}{A:Option β}{r:β}(h:Sx F N M0 M Gs L O a w)(hm:(if b=true then A else B)=some r)(ht:∀{a' w'},Sx F N M0 M Gs L2 [] a' w'->A=some r->wq P x Q2 a' w')(hf:∀{a' w'},Sx F N M0 M Gs L2 [] a' w'->B=some r->wq P z Q2 a' w')
  (hq:∀ a' w',(Code.cond (.tmp c) x z).wp P Q2 a' w'->Q .normal a' w':=by exact λ _ _ h=>h) (hs:Seg P M ops N (L++eB O) ops.toList L':=by exact eI) (hk:kp L' []=some L2:=by rfl) (hl:L2.lookup c=some (dt b):=by rfl):(Code.region id ops false).wp P Q a w:=
 h.z1 (@λ a' w' st=>hq a' w' (st.cq hm (ht st) (hf st) hl)) hs hk
theorem Sx.zd{c:Nat}{b:Bool}{x z:Code}{A:Option β}{r:β}(h:Sx F N M0 M Gs L O a w)(qp:List (Nat×Nat))(hm:(if b=true then A else B)=some r)(ht:∀{a' w'},Sx F N M0 M Gs L2 O2 a' w'->A=some r->wq P x Q2 a' w')(hf:∀{a' w'},Sx F N M0 M Gs L2 O2 a' w'->B=some r->wq P z Q2 a' w')
  (hq:∀ a' w',(Code.cond (.tmp c) x z).wp P Q2 a' w'->Q .normal a' w':=by exact λ _ _ h=>h) (hs:Seg P M ops N (L++eB O) ops.toList L':=by exact eI) (hk:kp L' []=some L2:=by rfl) (hsq:gy qp L'=some O2:=by rfl) (hw:gf Gs O2:=by exact iB) (hl:L2.lookup c=some (dt b):=by rfl):(Code.region id ops false).wp P Q a w:=
 h.zo qp (@λ a' w' st=>hq a' w' (st.cq hm (ht st) (hf st) hl)) hs hk hsq hw
theorem Sx.zO(h:Sx F N M0 M Gs L O a w)(next:∀{a' w'},Sx F N M0 M Gs L2 O2 a' w'->Q .normal a' w')(hs:Seg P M ops N (L++eB O) ops.toList L':=by exact eI)(hk:kp L' []=some L2:=by rfl)(hq:gy (O.map λ e=>(e.1,e.2.1)) L'=some O2:=by rfl)(hw:gf Gs O2:=by exact iB):(Code.region id ops false).wp P Q a w:=h.zo _ next hs hk hq hw
theorem Sx.zH(h:Sx F N M0 M Gs L O a w)(n:Nat)(next:∀{a' w'},Sx F N M0 M Gs L2 O2 a' w'->wpList P ops Q (l.drop n) a' w')(hs:Seg P M ops N (L++eB O) (l.take n) L':=by exact eI)(hk:kp L' []=some L2:=by rfl)(hq:gy (O.map λ e=>(e.1,e.2.1)) L'=some O2:=by rfl)(hw:gf Gs O2:=by exact iB):wpList P ops Q l a w:=h.zh n _ next hs hk hq hw
theorem Sx.zD{c:Nat}{b:Bool}{x z:Code}{A:Option β}{r:β}(h:Sx F N M0 M Gs L O a w)(hm:(if b=true then A else B)=some r)(ht:∀{a' w'},Sx F N M0 M Gs L2 O2 a' w'->A=some r->wq P x Q2 a' w')(hf:∀{a' w'},Sx F N M0 M Gs L2 O2 a' w'->B=some r->wq P z Q2 a' w')
  (hq:∀ a' w',(Code.cond (.tmp c) x z).wp P Q2 a' w'->Q .normal a' w':=by exact λ _ _ h=>h) (hs:Seg P M ops N (L++eB O) ops.toList L':=by exact eI) (hk:kp L' []=some L2:=by rfl) (hsq:gy (O.map λ e=>(e.1,e.2.1)) L'=some O2:=by rfl) (hw:gf Gs O2:=by exact iB) (hl:L2.lookup c=some (dt b):=by rfl):(Code.region id ops false).wp P Q a w:=h.zd _ hm ht hf hq hs hk hsq hw hl
theorem Sx.zN{σ:Type}{x:σ⊕β}{s:σ}{T:σ->Act->World->Prop}(h:Sx F N M0 M Gs L O a w)(h2:some (Sum.inl s)=some x)(hq:∀ a' w',(∃ s',x=.inl s'/\T s' a' w')->Q .normal a' w':=by exact λ _ _ h=>h)
  (hs:Seg P M ops N (L++eB O) ops.toList L':=by exact eI) (hk:kp L' []=some L2:=by rfl) (hsq:gy (O.map λ e=>(e.1,e.2.1)) L'=some O2:=by rfl) (hw:gf Gs O2:=by exact iB) (k:∀ a' w',Sx F N M0 M Gs L2 O2 a' w'->T s a' w':=by intro _ _ _;exact fz):(Code.region id ops false).wp P Q a w:=h.zn _ h2 hq hs hk hsq hw k
theorem Sx.zV(h:Sx F N M0 M Gs L O a w)(next:∀{a' w'},Sx F N M0 M Gs L2 O2 a' w'->Q .normal a' w')(hs:SegW P M ops N (L++eB O) ops.toList L':=by exact ru)(hk:kp L' []=some L2:=by rfl)(hq:gy (O.map λ e=>(e.1,e.2.1)) L'=some O2:=by rfl)(hw:gf Gs O2:=by exact iB)(hm:P.follows .mixedOrders=true:=by kernel_rfl)(hc:jA ops ops.size (kO ops) (mj ops)=true:=by decide +kernel):(Code.region id ops true).wp P Q a w:=h.zv _ next hs hk hq hw hm hc
theorem Sx.zU(h:Sx F N M0 M Gs L O a w)(k:Nat)(next:∀{a' w'},Sx F N M0 M Gs L2 O2 a' w'->wpList P ops Q (ops.toList.drop k) a' w')(hs:SegW P M ops N (L++eB O) (ops.toList.take k) L':=by exact ru)(hk:kp L' []=some L2:=by rfl)(hq:gy (O.map λ e=>(e.1,e.2.1)) L'=some O2:=by rfl)(hw:gf Gs O2:=by exact iB)(hm:P.follows .mixedOrders=true:=by kernel_rfl)(hc:jA ops k (kO ops) (mj ops)=true:=by decide +kernel)(hkn:k<=ops.size:=by decide):(Code.region id ops true).wp P Q a w:=h.zu k _ next hs hk hq hw hm hc hkn
end
section
variable{fn:Func}{ξ β γ:Type}[ey ξ][ey β][ey γ]{oo:Ow (Bx ξ)}{t u:Nat}{x:ξ}{y:β}{z:γ}
theorem Sx.xF{r:ξ×β}(h:Sx (eG.ft w0 G) N M0 M Gs L O a w)(s p:Nat)(hm:some (x,y)=some r)(hr:fn.results=#[.tmp t]:=by rfl)(hl:(L++eB O).lookup t=some (dt y):=by rfl)(hs:(L++eB O).lookup s=some (eJ oo G' ⟨x⟩ v0 cf):=by rfl)(hG:∀ b,G' b->zj Gs p b:=by exact λ _ h=>h)(hfl:Flat (dt y):=by first | exact xQ | exact jh | exact Bm):bodyPost P fn (ko M0 w0 G v0 oo ⟨r.1⟩ (.eE (dt r.2))) .ret a w:=h.si p (hr:=hr) (hl:=hl) (hs:=hs) (hG:=hG) (pg hm) hfl
theorem Sx.xD{r:ξ×β}(h:Sx (eG.ft w0 G) N M0 M Gs L O a w)(s p:Nat)(hm:some (x,y)=some r)(hr:fn.results=#[.tmp t]:=by rfl)(hl:(L++eB O).lookup t=some (dt y):=by rfl)(hs:(L++eB O).lookup s=some (eJ oo G' ⟨x⟩ v0 cf):=by rfl)(hG:∀ b,G' b->zj Gs p b:=by exact λ _ h=>h):bodyPost P fn (ko M0 w0 G v0 oo ⟨r.1⟩ (.eE (dt r.2))) .ret a w:=h.LR p hr hl hs hG (pg hm)
theorem Sx.xC{r:ξ×β}(h:Sx (eG.ft w0 G) N M0 M Gs L O a w)(s p:Nat)(hm:some (x,y)=some r)(hr:fn.results=#[.cell t ty]:=by rfl)(ht:fM P ty (ey.agg β) (ey.size β)=true:=by kernel_rfl)(hl:(L++eB O).lookup t=some (eY g 0 y):=by rfl)(hs:(L++eB O).lookup s=some (eJ oo G' ⟨x⟩ v0 cf):=by rfl)(hG:∀ b,G' b->zj Gs p b:=by exact λ _ h=>h):bodyPost P fn (ko M0 w0 G v0 oo ⟨r.1⟩ (.eE (dt r.2))) .ret a w:=h.pU p (hr:=hr) ht (hl:=hl) (hs:=hs) (hG:=hG) (pg hm)
theorem Sx.pW{r:ξ×β×γ}(h:Sx (eG.ft w0 G) N M0 M Gs L O a w)(s p:Nat)(hm:some (x,y,z)=some r)(hr:fn.results=#[.tmp t,.tmp u]:=by rfl)(hl:(L++eB O).lookup t=some (dt y):=by rfl)(hl2:(L++eB O).lookup u=some (dt z):=by rfl)(hs:(L++eB O).lookup s=some (eJ oo G' ⟨x⟩ v0 cf):=by rfl)(hG:∀ b,G' b->zj Gs p b:=by exact λ _ h=>h):bodyPost P fn (ko M0 w0 G v0 oo ⟨r.1⟩ (.eE (fZ [dt r.2.1,dt r.2.2]))) .ret a w:=h.LP p hr hl hl2 hs hG (pg hm)
theorem Sx.y2{x:β}{y R:Dt}(h:Sx (eG.of w0) N M0 M Gs L O a w)(hr:fn.results=#[.cell t ty,.tmp u]:=by rfl)(ht:fM P ty (ey.agg β) (ey.size β)=true:=by kernel_rfl)(hl:(L++eB O).lookup t=some (eY g 0 x):=by rfl)(hu:(L++eB O).lookup u=some y:=by rfl)(hn:y.nb=true:=by rfl)(hR:R=fZ [dt x,y]:=by rfl):bodyPost P fn (kZ M0 w0 R) .ret a w:=h.LI hr ht hl (h.frozen (hl:=hu)) hn hR
theorem Sx.yB{x r:β}(h:Sx (eG.of w0) N M0 M Gs L O a w)(hm:some x=some r)(hr:fn.results=#[.cell t ty]:=by rfl)(ht:fM P ty (ey.agg β) (ey.size β)=true:=by kernel_rfl)(hl:(L++eB O).lookup t=some (eY g 0 x):=by rfl):bodyPost P fn (kZ M0 w0 (dt r)) .ret a w:=h.ret_box hr ht hl hm
end
section
theorem SegW.app(h:SegW P M ops N L l1 L1)(k:SegW P M ops N L1 l2 L'):SegW P M ops N L (l1++l2) L':=by
 induction h with
 | nil=>exact k
 | cons hd hN h _ ih=>exact .cons hd hN h (ih k)
theorem sV{l:List Oper}(n:Nat)(h:SegW P M ops N L (l.take n) L1:=by exact ru)(r:SegW P M ops N L1 (l.drop n) L'):SegW P M ops N L l L':=by
 have:=SegW.app h r;rwa[aV] at this
end
section
variable{f:Nat}
variable{α β:Type}[ey α][ey β]
theorem Sx.Ed{xs:List α}{x:α}(h:Sx F N M0 M Gs L O a w)(ho:ops[i]?=some o)(hh:fH o N=some d)
   (hS:S w) (hop:o.op=.indexAddr t q qi) (ht':gV P t (ey.size α)=true) (hx:eC M (λ s=>(L++eB O).lookup s) q (dt xs)) (hi:eC M (λ s=>(L++eB O).lookup s) qi (dt m)) (hm:eN xs m=some x)
  (next:∀ a',Sx F N M0 M Gs ((d,eX x)::L) O a' w->wpAnyH P .any ops Q S f (listed.setIfInBounds i true) a' w)(hs:Region.noSelect ops=true:=by decide +kernel)(hf:Region.free .any ops listed i=true:=by decide +kernel)(hr:(Region.ready .any ops listed).contains i=true:=by decide +kernel)(hQ:∀ c a w v,Q (.panic c) (a.put o.dst v) w->Q (.panic c) a w:=by exact λ _ _ _ _ h=>h):wpAnyH P .any ops Q S (f+1) listed a w:=by
 unfold eC at hx hi;obtain⟨hm0,hg⟩:=yS hm;generalize m.toNat=k at*;subst hm0;obtain⟨e,ht⟩:=jZ ht';obtain⟨cs,⟨A,c,hcs,h1,h2,h3⟩,hv⟩:=hx w a λ s y hy=>h.st.has s y hy
 have hiv:=yq.1 (hi w a λ s y hy=>h.st.has s y hy);have hk:k<xs.length:=(ai.1 hg).1;rcases h3 with h3 | ⟨b,off,cells,hA,hb,hc,hr2⟩
 .rw[h3] at hk;simp at hk
 .obtain⟨ti,ht1,ht2,ht3⟩:=ZR ht;obtain⟨c',hcc,hr'⟩:=tH hr2 hg;refine h.kX (v:=.pointer (some ⟨b,off+k*ey.size α,none⟩)) (y:=eX x) ho hh hs hf hr (λ c a w=>hQ c a w _) hS (λ w' _=>?_) ⟨b,off+k*ey.size α,c',Z,hb,λ j u hj=>by rw[bJ];exact hc _ u (hcc j u hj),hr'⟩ Z next;have hadd:(⟨b,off,none⟩:Addr).add (k*ey.size α)=⟨b,off+k*ey.size α,none⟩:=by
   unfold Addr.add;split
   .rename_i h0;rw[h0];simp
   .rfl
  unfold execOp;rw[hop];subst hcs hA;simp only[gI,ey.agg,List.headD_cons] at hv;simp[hv,hiv,Instr.indexAt,asIntOf,ax ht1,sizeOf,typeInfo,ht2,ht3,hk,hadd]
theorem Sx.pV{x:α}{get:α->β}(h:Sx F N M0 M Gs L O a w)
   (hS:S w) (fl:eM get off)  (ht:fR P t fo off=true) (hp:eC M (λ s=>(L++eB O).lookup s) q (eX x))
  (next:∀{a'},Sx F N M0 M Gs ((d,eX (get x))::L) O a' w->wpAnyH P .any ops Q S f (listed.setIfInBounds i true) a' w)(ho:ops[i]?=some o:=by rfl)(hh:fH o N=some d:=by rfl)(hs:Region.noSelect ops=true:=by decide +kernel)(hf:Region.free .any ops listed i=true:=by decide +kernel)(hr:(Region.ready .any ops listed).contains i=true:=by decide +kernel)(hQ:∀ c a w v,Q (.panic c) (a.put o.dst v) w->Q (.panic c) a w:=by exact λ _ _ _ _ h=>h)(hop:o.op=.fieldAddr t q fo:=by rfl):wpAnyH P .any ops Q S (f+1) listed a w:=by
 unfold eC at hp;obtain⟨b,off',cs,hv,hb,hc,hr2⟩:=hp w a λ s y hy=>h.st.has s y hy
 obtain⟨c,hcc,hr'⟩:=fl.sub hr2;refine h.kX (v:=.pointer (some ⟨b,off'+off,none⟩)) (y:=eX (get x)) ho hh hs hf hr (λ c a w=>hQ c a w _) hS (λ w' _=>?_) ⟨b,off'+off,c,Z,hb,λ j u hj=>by rw[bJ];exact hc _ u (hcc j u hj),hr'⟩ Z (λ _ h_=>next h_);unfold execOp;rw[hop];simp[hv,JI ht]
def QI(n m:Nat):Array Bool:=((List.range n).map m.testBit).toArray
theorem yP{f0:Nat}(f m:Nat)(T:Act->World->Prop)(h:∀ a w,T a w->wpAnyH P .any ops Q S f (QI ops.size m) a w)(next:(∀ a w,T a w->wpAnyH P .any ops Q S f (QI ops.size m) a w)->wpAnyH P .any ops Q S f0 l0 a0 w0):wpAnyH P .any ops Q S f0 l0 a0 w0:=next h
theorem MI{l:Array Bool}{T:Act->World->Prop}(n:∀ a w,T a w->wpAnyH P .any ops Q S f l' a w)(h:T a w:=by exact fx)(hl:l=l':=by decide +kernel):wpAnyH P .any ops Q S f l a w:=by rw[hl];exact n a w h
theorem fQ{l:Array Bool}{T:Act->World->Prop}(n:∀ a w,T a w->wpAnyH P .any ops Q S f l' a w)(hS:S w)(h:T a w:=by exact fx)(hl:l=l':=by decide +kernel):wpList P ops (QH P ops Q S f l) [] a w:=fC hS (MI n h hl)
theorem Er(ho:ops[i]?=some o)(ho2:ops[j]?=some o2)(ho3:ops[k]?=some o3)(h:wpList P ops (QH P ops Q S f (listed.setIfInBounds i true)) [o] a w)(h2:wpList P ops (QH P ops Q S f (listed.setIfInBounds j true)) [o2] a w)(h3:wpList P ops (QH P ops Q S f (listed.setIfInBounds k true)) [o3] a w)(hr:Region.ready .any ops listed=[i,j,k]:=by decide +kernel):wpAnyH P .any ops Q S (f+1) listed a w:=
 ⟨λ e=>(by rw[hr] at e;cases e),λ q hk=>by
  rw[hr] at hk;simp only[aj,aF,bI] at hk;rcases hk with rfl | rfl | rfl
  .exact YN ho h
  .exact YN ho2 h2
  .exact YN ho3 h3⟩
end
