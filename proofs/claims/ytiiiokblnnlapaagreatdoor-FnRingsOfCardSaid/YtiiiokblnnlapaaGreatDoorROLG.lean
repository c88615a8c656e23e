/-
  Loads of what is only read, taken first; several results of a function that changes its first argument.
-/
import Derived.Test.YtiiiokblnnlapaaGreatDoorRGLG
import Derived.Test.YtiiiokblnnlapaaGreatDoorProg
namespace Go.Proofs.YtiiiokblnnlapaaGreatDoor
open Go.RowKit
section
variable{α:Type}[Rep α]
end
section
variable{P:Program}{ops:Array Oper}{fn:Func}{Q:Exit->Act->World->Prop}{S:World->Prop}{a:Act}{w w0:World}{f:Nat}{listed:Array Bool}{o:Oper}{F:Frm}{N:Nat}{M0 M:Nat->Prop}{Gs:List (Nat->Prop)}{L L2:Env}{O O2:List (Nat×Nat×Dt)}{ks qs:List Nat}{p p2:Nat}{T:Prop}
theorem Sx.addL{s:Nat}{y:Dt}(h:Sx F N M0 M Gs L O a w)(hy:y.rd M w (Act.at a s))(hn:y.nb=true):Sx F N M0 M Gs ((s,y)::L) O a w:=by
 refine⟨⟨h.st.fr,h.st.size,h.st.defers,h.st.mok,λ s' z hz=>?_⟩,h.ob,λ s' z hz=>?_,h.ow⟩
 ·
  simp only[List.cons_append,List.lookup_cons] at hz
  by_cases he:s'=s
  ·
   subst he
   simp only[beq_self_eq_true,Option.some.injEq] at hz
   subst hz
   exact hy
  ·
   have hb:(s' == s)=false:=by simpa using he
   simp only[hb] at hz
   exact h.st.has s' z hz
 ·
  simp only[List.lookup_cons] at hz
  split at hz
  ·
   injection hz with hz;subst hz;exact hn
  ·
   exact h.no s' z hz
section
variable{α β γ δ:Type}[Rep α][Rep β][Rep γ][Rep δ]
theorem Sx.tkY{i d:Nat}{v:Value}{y:Dt}(h:Sx F N M0 M Gs L O a w)(ho:ops[i]?=some o)(hh:opH o N=some d)(hs:Region.noSelect ops=true)(hf:Region.free .any ops listed i=true)(hr:(Region.ready .any ops listed).contains i=true)
  (hQ:∀ c a w,Q (.panic c) (a.put o.dst v) w->Q (.panic c) a w) (hS:S w) (hy:∀ w,S w->(execOp a.eval o).run P w=.ok (.value v) w) (hyr:y.rd M w v) (hn:y.nb=true)
  (next:∀ a',Sx F N M0 M Gs ((d,y)::L) O a' w->wpAnyH P .any ops Q S f (listed.setIfInBounds i true) a' w):wpAnyH P .any ops Q S (f+1) listed a w:=
 wpAnyH_take ho hs hf hr hQ (.inl ⟨jR (zU hh).1,hy⟩) hS (by rw[(zU hh).2.1];exact next _ (h.putL (zU hh).2.2 hyr hn))
theorem Sx.tkB{i d:Nat}{t:TypeId}{ns:List Nat}{zs:List (List Value)}{parts:List (Nat×Operand)}{x:α}(h:Sx F N M0 M Gs L O a w)(ho:ops[i]?=some o)(hh:opH o N=some d)(hs:Region.noSelect ops=true)(hf:Region.free .any ops listed i=true)(hr:(Region.ready .any ops listed).contains i=true)
  (hQ:∀ c a w v,Q (.panic c) (a.put o.dst v) w->Q (.panic c) a w) (hS:S w) (hagg:Rep.agg α=true) (hop:o.op=.build t parts.toArray) (hb:bldB P t ns=true) (hz:ZJ P t ns=some zs)
  (hl:∀ (w:World) (a:Act),(∀ s y,(L++envO O).lookup s=some y->y.rd M w (Act.at a s))->∀ p∈parts,p.1<ns.length/\(a.eval p.2).cells.toList.length=ns.getD p.1 0)
  (hx:∀ (w:World) (a:Act),(∀ s y,(L++envO O).lookup s=some y->y.rd M w (Act.at a s))->Rep.rdc M w ((parts.foldl (λ l p=>l.set p.1 (a.eval p.2).cells.toList) zs).flatten) x)
  (next:∀ a',Sx F N M0 M Gs ((d,dt x)::L) O a' w->wpAnyH P .any ops Q S f (listed.setIfInBounds i true) a' w):wpAnyH P .any ops Q S (f+1) listed a w:=by
 have hc:=λ w'=>JF (P:=P) (parts:=parts.map λ p=>(p.1,a.eval p.2)) hb hz (λ p hp=>by
  obtain⟨q,hq,rfl⟩:=List.mem_map.1 hp
  have:=hl w a (λ s y hy=>h.st.has s y hy) q hq
  exact⟨this.1,by simpa using this.2⟩) w'
 obtain⟨cells,h1,h2⟩:=hc w
 refine h.tkY (v:=.agg cells) (y:=dt x) ho hh hs hf hr (λ c a w=>hQ c a w _) hS (λ w' _=>?_) ⟨cells.toList,?_,by rw[hagg];rfl⟩ rfl next
 ·
  obtain⟨cells',h3,h4⟩:=hc w'
  have hcc:cells'=cells:=Array.toList_inj.1 (h4.trans h2.symm)
  rw[hcc] at h3
  unfold execOp;rw[hop]
  have e:(parts.toArray.map λ p:Nat×Operand=>(p.1,a.eval p.2))=(parts.map λ p=>(p.1,a.eval p.2)).toArray:=by simp
  simp only[e,Sem.run_bind,h3,Result.andThen_ok,Sem.run_pure]
 ·
  rw[h2,List.foldl_map]
  exact hx w a λ s y hy=>h.st.has s y hy
theorem Sx.tkM{i d sb:Nat}{y:Dt}{q:Operand}(h:Sx F N M0 M Gs L O a w)(ho:ops[i]?=some o)(hh:opH o N=some d)(hs:Region.noSelect ops=true)(hf:Region.free .any ops listed i=true)(hr:(Region.ready .any ops listed).contains i=true)
  (hQ:∀ c a w v,Q (.panic c) (a.put o.dst v) w->Q (.panic c) a w) (hS:S w) (hl:(L++envO O).lookup sb=some y) (hn:y.nb=true) (hop:o.op=.move q) (hq:q=.tmp sb)
  (next:∀ a',Sx F N M0 M Gs ((d,y)::L) O a' w->wpAnyH P .any ops Q S f (listed.setIfInBounds i true) a' w):wpAnyH P .any ops Q S (f+1) listed a w:=
 h.tkY (v:=Act.at a sb) (y:=y) ho hh hs hf hr (λ c a w=>hQ c a w _) hS (yMv hop (by rw[hq];rfl)) (h.st.has sb _ hl) hn next
end
end
open Go.RowKit
section
variable{P:Program}{M:Nat->Prop}{ops:Array Oper}{N:Nat}{k:Nat}{E:List Nat}{T:List (List Nat)}{S:List (List (Nat×Option Nat))}
end
section
variable{P:Program}{F:Frm}{N:Nat}{M0 M:Nat->Prop}{Gs:List (Nat->Prop)}{L L2:Env}{O O2:List (Nat×Nat×Dt)}{a:Act}{w w0:World}{Q:Exit->Act->World->Prop}{ops:Array Oper}{ks:List Nat}{o:Oper}{listed:Array Bool}{f:Nat}
variable{α:Type}[Rep α]
theorem Objs.up{M':Nat->Prop}(ob:Objs F M0 M Gs)(h:∀ b,M b->M' b):Objs F M0 M' Gs:=⟨λ b hb=>h b (ob.sub b hb),λ p b hb=>⟨(ob.at_ p b hb).1,h b (ob.at_ p b hb).2.1,(ob.at_ p b hb).2.2⟩,ob.apart⟩
theorem Sx.tkN{ow:Ow α}{i d sb:Nat}{G:Nat->Prop}{x:α}{v0:Value}{cf:CF}{S:World->Prop}{q:Operand}(h:Sx F N M0 M Gs L O a w)(ho:ops[i]?=some o)(hh:opH o N=some d)(hs:Region.noSelect ops=true)(hf:Region.free .any ops listed i=true)(hr:(Region.ready .any ops listed).contains i=true)
  (hQ:∀ c a w v,Q (.panic c) (a.put o.dst v) w->Q (.panic c) a w) (hS:S w) (hl:(L++envO O).lookup sb=some (dnm ow G x v0 cf)) (hop:o.op=.move q) (hq:q=.tmp sb)
  (next:∀ a',Sx F N M0 M Gs ((d,dis v0)::L) O a' w->wpAnyH P .any ops Q S f (listed.setIfInBounds i true) a' w):wpAnyH P .any ops Q S (f+1) listed a w:=
 h.tkY (v:=v0) (y:=dis v0) ho hh hs hf hr (λ c a w=>hQ c a w _) hS (yMv hop (by rw[hq];exact(h.st.has sb _ hl).1)) rfl rfl next
end
section
variable{P:Program}{F:Frm}{N:Nat}{M0 M:Nat->Prop}{Gs:List (Nat->Prop)}{L L2:Env}{O O2:List (Nat×Nat×Dt)}{a:Act}{w w0:World}{Q:Exit->Act->World->Prop}{ops:Array Oper}{rest:List Oper}{ks qs:List Nat}{o:Oper}{d e:Nat}
variable{β γ:Type}[Rep β][Rep γ]
theorem Sx.cSFw{oy:Ow β}{q:Operand}{sb:Nat}{cnd:Bool}{f:FuncId}{l:List Operand}{ts:Array TypeId}{G:Nat->Prop}{y y':β}{r:γ}{v0:Value}{cf:CF}{xr:List Dt}(h:Sx F N M0 M Gs L O a w)(p:Nat)
  (hs:(L++envO O).lookup sb=some (dnm oy G y v0 cf)) (hG:∀ b,G b->zq Gs p b) (hd:o.dst=some d) (hN:d<N) (hw:Region.wanted o (yielded ops a.tmps)=cnd)
  (ho:o.op=.call { callee:=.value (.func f),args:=(q::l).toArray,argTypes:=ts }) (hf:fnB P f=true) (hqv:cnd=true->a.eval q=v0) (hp:p<Gs.length) (hx:cnd=true->ArgsR M (λ s=>(L++envO O).lookup s) l xr) (hfn:cnd=true->FnS P f oy y xr y' (.frz (dt r)))
  (ks:List Nat) (hk:selP ks L=some L2) (qs:List Nat) (hq:selR L O qs p=some O2) (hsn:L2.lookup sb=none) (hne:sb≠d)
  (next:∀ G'' M' a' w',Sx F N M0 M' (Gs.set p G'') ((d,Dt.grd cnd (dt r))::L2) ((sb,p,dnm oy G'' (if cnd=true then y' else y) v0 [])::O2) a' w'->wpList P ops Q rest a' w'):wpList P ops Q (o::rest) a w:=by
 have hv0:Act.at a sb=v0:=(h.st.has sb _ hs).1
 cases hc:cnd with
 |
  true=>
  rw[hc] at hw
  refine XG hw ?_
  refine h.cSF (o:={ o with guard:=none }) (yd:=Dt.grd cnd (dt r)) (d:=d) p (h.bkN (y':=y') hs hG) ?_ ho hf ((hqv hc).trans hv0.symm) hp (hx hc) ?_ ks hk qs hq hsn hne (λ G'' M' a' w' st=>next G'' M' a' w' ?_)
  ·
   simp[opH,hd,hN]
  ·
   intro M0 G w v vs hm hgm hv hr
   refine(hfn hc M0 G w v vs hm hgm hv hr).mono λ en w' ⟨u,G',Gr,k1,k2,k3,k4,k5,k6,k7,k8,k9⟩=>⟨u,G',Gr,k1,k2,k3,k4,k5,k6,k7,⟨λ _=>k8,λ hf=>?_⟩,rfl⟩
   rw[hc] at hf;cases hf
  ·
   rw[hc] at st
   rw[hc,if_pos rfl]
   exact st
 |
  false=>
  rw[hc] at hw
  obtain⟨k1,k2,_⟩:=h.st.has sb _ hs
  unfold wpList
  rw[if_neg (by rw[hw];decide),hd]
  have hset:Gs.set p (zq Gs p)=Gs:=by
   apply List.ext_getElem?
   intro n
   by_cases hn:p=n
   ·
    subst hn
    rw[List.getElem?_set_self hp,List.getElem?_eq_getElem hp]
    congr 1
    funext b
    unfold zq
    rw[List.getElem?_eq_getElem hp]
   ·
    rw[List.getElem?_set_ne hn]
  have st0:=(h.mut hp (Grown.refl _ w) hk hq).addO (d:=sb) (p:=p) (x:=dnm oy (zq Gs p) y v0 []) hsn ⟨k1,(let⟨cs,k3,k4⟩:=k2;⟨cs,oy.more k3 hG,k4⟩),λ q hq _=>by cases hq⟩ (λ _ h=>h)
  refine next (zq Gs p) M _ w ?_
  rw[hset,hc,if_neg (by decide)]
  exact st0.putL hN (v:=undef) ⟨λ h=>(by cases h),λ _=>rfl⟩ rfl
theorem Sx.cSFhB{oy:Ow β}{q:Operand}{sb j:Nat}{want b c:Bool}{f:FuncId}{l:List Operand}{ts:Array TypeId}{G:Nat->Prop}{y y':β}{r:γ}{v0:Value}{cf:CF}{xr:List Dt}(h:Sx F N M0 M Gs L O a w)(p:Nat)
  (hs:(L++envO O).lookup sb=some (dnm oy.box G ⟨y⟩ v0 cf)) (hG:∀ b,G b->zq Gs p b) (hh:opG o N ops=some (d,e,j,want)) (hb:(L++envO O).lookup e=some (Dt.grd c (dt b)))
  (ho:o.op=.call { callee:=.value (.func f),args:=(q::l).toArray,argTypes:=ts }) (hf:fnB P f=true) (hqv:(c&&(b == want))=true->a.eval q=v0) (hp:p<Gs.length) (hx:(c&&(b == want))=true->ArgsR M (λ s=>(L++envO O).lookup s) l xr) (hfn:(c&&(b == want))=true->FnS P f oy.box ⟨y⟩ xr ⟨y'⟩ (.frz (dt r)))
  (ks:List Nat) (hk:selP ks L=some L2) (qs:List Nat) (hq:selR L O qs p=some O2) (hsn:L2.lookup sb=none) (hne:sb≠d)
  (next:∀ G'' M' a' w',Sx F N M0 M' (Gs.set p G'') ((d,Dt.grd (c&&(b == want)) (dt r))::L2) ((sb,p,dnm oy.box G'' ⟨if(c&&(b == want))=true then y' else y⟩ v0 [])::O2) a' w'->wpList P ops Q rest a' w'):wpList P ops Q (o::rest) a w:=by
 obtain⟨hg,hd,hj,hN,hE⟩:=xS hh
 have h1:=h.st.has e _ hb
 have hlt:e<a.tmps.size:=by rw[h.st.size];exact hE
 have hat:a.tmps[e]?=some (Act.at a e):=by
  unfold Act.at
  rw[Array.getD_eq_getD_getElem?,Array.getElem?_eq_getElem hlt]
  rfl
 have hw:Region.wanted o (yielded ops a.tmps)=(c&&(b == want)):=by
  cases hc:c with
  |
   true=>
   have h2:=zt (h1.1 hc)
   simp[Region.wanted,hg,yielded,hj,hat,h2]
  |
   false=>
   have h2:=h1.2 hc
   simp[Region.wanted,hg,yielded,hj,hat,h2,undef]
 exact h.cSFw p hs hG hd hN hw ho hf hqv hp hx hfn ks hk qs hq hsn hne λ G'' M' a' w' st=>next G'' M' a' w' (by rw[ite_bx] at st;exact st)
end
open Go.RowKit
section
variable{α β γ:Type}[Rep α][Rep β][Rep γ]
def Rd.t3(o:Ow α)(x:α)(y z:Dt):Rd where
 rd M G w v:=∃ u1 u2 u3,v=.tuple #[u1,u2,u3]/\(dow o G x).rd M w u1/\(y.rd M w u2/\y.nb=true)/\z.rd M w u3/\z.nb=true
 stable:=λ⟨u1,u2,u3,hv,h1,h2,h3⟩ e=>⟨u1,u2,u3,hv,(dow o _ x).stable h1 e,⟨y.stable h2.1 (λ k hk hm=>e k hk (hm.imp id λ ho=>(y.nob h2.2 k ho).elim)),h2.2⟩,z.stable h3.1 (λ k hk hm=>e k hk (hm.imp id λ ho=>(z.nob h3.2 k ho).elim)),h3.2⟩
 weak:=λ⟨u1,u2,u3,hv,h1,h2,h3⟩ e=>⟨u1,u2,u3,hv,(dow o _ x).weak h1 e,⟨y.weak h2.1 e,h2.2⟩,z.weak h3.1 e,h3.2⟩
 more:=λ⟨u1,u2,u3,hv,⟨cs,h1,h1'⟩,h2,h3⟩ e=>⟨u1,u2,u3,hv,⟨cs,o.more h1 e,h1'⟩,h2,h3⟩
def dex(y z:Dt):Dt where
 rd M w v:=∃ u1 u2 u3,v=.tuple #[u1,u2,u3]/\(y.rd M w u2/\y.nb=true)/\z.rd M w u3/\z.nb=true
 own:=noB
 nb:=true
 nob _ _ h:=h
 stable:=λ⟨u1,u2,u3,hv,h2,h3⟩ e=>⟨u1,u2,u3,hv,⟨y.stable h2.1 (λ k hk hm=>e k hk (hm.elim .inl λ ho=>(y.nob h2.2 k ho).elim)),h2.2⟩,z.stable h3.1 (λ k hk hm=>e k hk (hm.elim .inl λ ho=>(z.nob h3.2 k ho).elim)),h3.2⟩
 weak:=λ⟨u1,u2,u3,hv,h2,h3⟩ e=>⟨u1,u2,u3,hv,⟨y.weak h2.1 e,h2.2⟩,z.weak h3.1 e,h3.2⟩
variable{P:Program}{ops:Array Oper}{rest:List Oper}{fn:Func}{Q:Exit->Act->World->Prop}{a:Act}{w w0:World}{o:Oper}{F:Frm}{N d:Nat}{M0 M:Nat->Prop}{Gs:List (Nat->Prop)}{L L2:Env}{O O2:List (Nat×Nat×Dt)}{ks qs:List Nat}{T:Prop}{look:Nat->Option Dt}
theorem Sx.mvD{X:Dt}{s:Nat}{q:Operand}(h:Sx F N M0 M Gs L O a w)(p:Nat)(hh:opH o N=some d)(ho:o.op=.move q)(hq:q=.tmp s)(hs:(L++envO O).lookup s=some X)(hX:∀ b,X.own b->zq Gs p b)(hdn:L.lookup d=none)(qs:List Nat)(hsel:selR L O qs p=some O2)
  (next:∀ a',Sx F N M0 M Gs L ((d,p,X)::O2) a' w->wpList P ops Q rest a' w):wpList P ops Q (o::rest) a w:=by
 obtain⟨hgd,hd,hN⟩:=zU hh
 refine wpList_plain hgd λ K hK=>OpOut.wp (OpOut.of_value (v:=Act.at a s) (w':=w) ?_ ?_)
 ·
  unfold execOp;rw[ho,hq]
  simp only[Sem.run_pure]
  rfl
 ·
  rw[hd]
  exact hK _ _ (next _ ((h.drop hsel).putO hN hdn (h.st.has s _ hs) hX))
theorem Sx.ex3{oo:Ow α}{x:α}{y z:Dt}{s:Nat}{G:Nat->Prop}{q:Operand}(h:Sx F N M0 M Gs L O a w)(p:Nat)(hh:opH o N=some d)(ho:o.op=.extract q 0)(hq:q=.tmp s)(hs:(L++envO O).lookup s=some (drd (Rd.t3 oo x y z) G))(hG:∀ b,G b->zq Gs p b)(hdn:List.lookup d ((s,dex y z)::L)=none)(qs:List Nat)(hsel:selR L O qs p=some O2)
  (next:∀ a',Sx F N M0 M Gs ((s,dex y z)::L) ((d,p,dow oo G x)::O2) a' w->wpList P ops Q rest a' w):wpList P ops Q (o::rest) a w:=by
 obtain⟨hgd,hd,hN⟩:=zU hh
 obtain⟨u1,u2,u3,hv,h1,h2,h3⟩:=h.st.has s _ hs
 refine wpList_plain hgd λ K hK=>OpOut.wp (OpOut.of_value (v:=u1) (w':=w) ?_ ?_)
 ·
  have he:a.eval q=.tuple #[u1,u2,u3]:=by rw[hq];exact hv
  unfold execOp;rw[ho]
  simp[he,Instr.extract]
 ·
  rw[hd]
  exact hK _ _ (next _ (((h.drop hsel).addL (s:=s) (y:=dex y z) ⟨u1,u2,u3,hv,h2,h3⟩ rfl).putO hN hdn h1 hG))
theorem xEx1{q:Operand}{y z:Dt}(ho:o.op=.extract q 1)(hp:OpdR M look q (dex y z)):OpRel P M look o y:=
 zB λ a w _ hl=>by
  obtain⟨u1,u2,u3,hv,h2,_⟩:=hp w a hl
  exact⟨u2,by unfold execOp;rw[ho];simp[hv,Instr.extract],h2.1⟩
theorem xEx2{q:Operand}{y z:Dt}(ho:o.op=.extract q 2)(hp:OpdR M look q (dex y z)):OpRel P M look o z:=
 zB λ a w _ hl=>by
  obtain⟨u1,u2,u3,hv,_,h3⟩:=hp w a hl
  exact⟨u3,by unfold execOp;rw[ho];simp[hv,Instr.extract],h3.1⟩
theorem Sx.rs3O{oo:Ow α}{oy:Ow β}{t u v s:Nat}{ty:TypeId}{G G' G2:Nat->Prop}{v0 v1:Value}{cf cf2:CF}{x xr:α}{y:Bx β}{y2 y3:Dt}{yr:β}(h:Sx (Frm.chg w0 G) N M0 M Gs L O a w)(p p2:Nat)(hr:fn.results=#[.cell t ty,.tmp u,.tmp v])(ht:tyB P ty (Rep.agg β) (Rep.size β)=true)(hl:(L++envO O).lookup t=some (dnm oy.box G2 y v1 cf2))(hs:(L++envO O).lookup s=some (dnm oo G' x v0 cf))(hl2:(L++envO O).lookup u=some y2)(hl3:(L++envO O).lookup v=some y3)(hn:y2.nb=true/\y3.nb=true)(hG:∀ b,G' b->zq Gs p b)(hG2:∀ b,G2 b->zq Gs p2 b)(hne:p≠p2)
  (hm:xr=x/\yr=y.x):bodyPost P fn (RetS M0 w0 G v0 oo xr (.t3 oy yr y2 y3)) .ret a w:=by
 obtain⟨h1,h2⟩:=hm
 subst h1;subst h2
 obtain⟨k1,⟨cs,k2,k3⟩,_⟩:=h.st.has s _ hs
 obtain⟨j1,⟨c2,⟨b,C,e,Gr,hc,hb,hGb,hnb,hsub,hro⟩,h3⟩,_⟩:=h.st.has t _ hl
 have hM:∀ k,k<w.heap.size->(M0 k\/G' k)\/Gr k->M k:=λ k _ hk=>hk.elim (λ hk=>hk.elim (h.ob.sub k) λ hk=>(h.ob.at_ p k (hG k hk)).2.1) λ hk=>(h.ob.at_ p2 k (hG2 k (hsub k hk))).2.1
 have hrr:=oy.toR hro
 have hc':∀ j u,C.toList[j]?=some u->w.cell? ⟨b,0+j,none⟩=some u:=λ j u hj=>by
  rw[Nat.zero_add]
  have:C[j]?=some u:=by simpa using hj
  simp[World.cell?,hb,this]
 have hld:=y6 ht (Rep.len hrr) Rep.one hc'
 have hv:a.tmps.getD t undef=.pointer (some ⟨b,0,none⟩):=by
  show Act.at a t=_
  rw[j1,h3,hc]
  rfl
 exact⟨h.st.defers,_,J1 hr hv hld,_,G',Gr,rfl,h.st.fr,λ b hb=>(h.ob.at_ p b (hG b hb)).1,λ b hb=>(h.ob.at_ p2 b (hG2 b (hsub b hb))).1,λ b hb hb2=>h.ob.apart p p2 b hne (hG b hb) (hG2 b (hsub b hb2)),λ b hb=>hb.elim (λ hb=>h.st.mok b (h.ob.at_ p b (hG b hb)).2.1) λ hb=>h.st.mok b (h.ob.at_ p2 b (hG2 b (hsub b hb))).2.1,
  ⟨cs,oo.weak k2 hM,k3⟩,_,_,_,rfl,⟨_,oy.weak hro hM,rfl⟩,⟨y2.weak (h.st.has u _ hl2) hM,hn.1⟩,y3.weak (h.st.has v _ hl3) hM,hn.2⟩
def dbk(oo:Ow α)(G:Nat->Prop)(x:α)(b:Nat)(C:Array Value)(e:TypeId):Dt where
 rd M w v:=v=.pointer (some ⟨b,0,none⟩)/\w.heap[b]?=some (.cells C e (0,0))/\G b/\∃ Gr:Nat->Prop,¬ Gr b/\(∀ k,Gr k->G k)/\oo.ro M Gr w C.toList x
 own:=G
 nb:=false
 nob h:=by cases h
 stable:=λ⟨hv,hh,hG,Gr,h1,h2,h3⟩ k=>⟨hv,(k b (xi hh) (.inr hG)).trans hh,hG,Gr,h1,h2,oo.stable h3 (k.sub h2)⟩
 weak:=λ⟨hv,hh,hG,Gr,h1,h2,h3⟩ k=>⟨hv,hh,hG,Gr,h1,h2,oo.weak h3 k⟩
def dbc(b:Nat)(C:Array Value)(e:TypeId):Dt where
 rd _ w v:=v=.pointer (some ⟨b,0,none⟩)/\w.heap[b]?=some (.cells C e (0,0))
 own:=oneB (some b)
 nb:=false
 nob h:=by cases h
 stable:=λ⟨hv,hh⟩ k=>⟨hv,(k b (xi hh) (.inr rfl)).trans hh⟩
 weak h _:=h
theorem Sx.opB{oo:Ow α}{s:Nat}{G:Nat->Prop}{x:Bx α}(h:Sx F N M0 M Gs L O a w)(p:Nat)(hs:(L++envO O).lookup s=some (dow oo.box G x))(hn:L.lookup s=none)(hG:∀ b,G b->zq Gs p b)(qs:List Nat)(hq:selR L O qs p=some O2)
  (next:∀ (b:Nat) (C:Array Value) (e:TypeId),Sx F N M0 M Gs L ((s,p,dbk oo G x.x b C e)::O2) a w->T):T:=by
 obtain⟨cs,⟨b,C,e,Gr,hc,hh,hb,h1,h2,h3⟩,hv⟩:=h.st.has s _ hs
 refine next b C e ((h.drop hq).addO hn ⟨?_,hh,hb,Gr,h1,h2,h3⟩ hG)
 rw[hv,hc]
 rfl
theorem Sx.bcS{s b:Nat}{C:Array Value}{e:TypeId}(h:Sx F N M0 M Gs L O a w)(hs:(L++envO O).lookup s=some (dbc b C e)):w.heap[b]?=some (.cells C e (0,0)):=(h.st.has s _ hs).2
variable{f:Nat}{listed:Array Bool}
theorem Sx.tkO{oo:Ow α}{i s b:Nat}{G:Nat->Prop}{x:α}{C:Array Value}{e t:TypeId}{q:Operand}(h:Sx F N M0 M Gs L O a w)(p p2:Nat)(ho:ops[i]?=some o)(hh:opH o N=some d)(hsel:Region.noSelect ops=true)(hf:Region.free .any ops listed i=true)(hr:(Region.ready .any ops listed).contains i=true)
  (hQ:∀ c a w v,Q (.panic c) (a.put o.dst v) w->Q (.panic c) a w) (hs:(L++envO O).lookup s=some (dbk oo G x b C e)) (hG:∀ b,G b->zq Gs p b) (hagg:Rep.agg α=true) (hop:o.op=.load t q) (ht:tyB P t true (Rep.size α)=true) (hq0:q=.tmp s) (hp:p<Gs.length) (hp2:p2<Gs.length) (hpp:p≠p2) (ks:List Nat) (_hk:selP ks L=some L2) (qs:List Nat) (hq:selR L O qs p=some O2) (hq2:O2.all (λ q=>q.2.1 != p&&q.2.1 != p2)=true) (hn:L.lookup s=none) (hdn:L.lookup d=none) (_hne:s≠d)
  (next:∀ a' (G1:Nat->Prop),C.size=Rep.size α->Sx F N M0 M ((Gs.set p (oneB (some b))).set p2 G1) L ((d,p2,dnm oo G1 x (.agg C) [])::(s,p,dbc b C e)::O2) a' w->wpAnyH P .any ops Q (λ w=>w.heap[b]?=some (.cells C e (0,0))) f (listed.setIfInBounds i true) a' w):wpAnyH P .any ops Q (λ w=>w.heap[b]?=some (.cells C e (0,0))) (f+1) listed a w:=by
 obtain⟨hv,hb,hGb,Gr,h1,h2,h3⟩:=h.st.has s _ hs
 have hrr:=oo.toR h3
 have hval:mkv (Rep.agg α) C.toList=.agg C:=by rw[hagg];simp[mkv]
 refine wpAnyH_take ho hsel hf hr (λ c a w=>hQ c a w _) (.inl ⟨jR (zU hh).1,λ w' hw'=>?_⟩) (v:=.agg C) hb ?_
 ·
  have hc':∀ j u,C.toList[j]?=some u->w'.cell? ⟨b,0+j,none⟩=some u:=λ j u hj=>by
   rw[Nat.zero_add]
   have:C[j]?=some u:=by simpa using hj
   simp[World.cell?,hw',this]
  have hl:=y6 (P:=P) (w:=w') (agg:=true) ht (Rep.len hrr) (λ h=>by cases h) hc'
  have hv':a.eval q=.pointer (some ⟨b,0,none⟩):=by rw[hq0];exact hv
  unfold execOp;rw[hop]
  simp[Instr.loadAt,Instr.sureAddr,hv',hl,mkv]
 ·
  rw[(zU hh).2.1]
  have h0:=(h.drop hq).spl (A:=oneB (some b)) (B:=Gr) hp hp2 hpp (λ k hk=>by injection hk with hk;subst hk;exact hG _ hGb) (λ k hk=>hG k (h2 k hk)) (λ k hk hk2=>by injection hk with hk;subst hk;exact h1 hk2) hq2
  have h5:=h0.addO (d:=s) (p:=p) (x:=dbc b C e) hn ⟨hv,hb⟩ λ k hk=>by rw[zw (Ne.symm hpp),zp hp];exact hk
  exact next _ Gr (by have:=Rep.len hrr;simpa using this) (h5.putO (zU hh).2.2 hdn (x:=dnm oo Gr x (.agg C) []) (v:=.agg C) ⟨rfl,⟨C.toList,h3,hval.symm⟩,λ q hq _=>by cases hq⟩ λ k hk=>by rw[zp (by simpa using hp2)];exact hk)
theorem Sx.tkP{i s b fo n:Nat}{C:Array Value}{e t:TypeId}{q:Operand}(h:Sx F N M0 M Gs L O a w)(ho:ops[i]?=some o)(hh:opH o N=some d)(hsel:Region.noSelect ops=true)(hf:Region.free .any ops listed i=true)(hr:(Region.ready .any ops listed).contains i=true)
  (hQ:∀ c a w v,Q (.panic c) (a.put o.dst v) w->Q (.panic c) a w) (hs:(L++envO O).lookup s=some (dbc b C e)) (hop:o.op=.fieldAddr t q n) (ht:fldB P t n fo=true) (hq0:q=.tmp s)
  (next:∀ a',Sx F N M0 M Gs ((d,dis (.pointer (some ⟨b,fo,none⟩)))::L) O a' w->wpAnyH P .any ops Q (λ w=>w.heap[b]?=some (.cells C e (0,0))) f (listed.setIfInBounds i true) a' w):wpAnyH P .any ops Q (λ w=>w.heap[b]?=some (.cells C e (0,0))) (f+1) listed a w:=by
 obtain⟨hv,hb⟩:=h.st.has s _ hs
 refine h.tkY (y:=dis (.pointer (some ⟨b,fo,none⟩))) ho hh hsel hf hr (λ c a w=>hQ c a w _) hb (λ w' hw'=>?_) rfl rfl next
 have:=yFa (P:=P) (S:=λ _=>True) (a:=a) (o:=o) hop ht (by rw[hq0];exact hv) w' trivial
 rw[Nat.zero_add] at this
 exact this
theorem Sx.tkC{i s s2 b fo:Nat}{C:Array Value}{e t:TypeId}{q:Operand}(h:Sx F N M0 M Gs L O a w)(ho:ops[i]?=some o)(hh:opH o N=some d)(hsel:Region.noSelect ops=true)(hf:Region.free .any ops listed i=true)(hr:(Region.ready .any ops listed).contains i=true)
  (hQ:∀ c a w v,Q (.panic c) (a.put o.dst v) w->Q (.panic c) a w) (hs:(L++envO O).lookup s=some (dbc b C e)) (hs2:(L++envO O).lookup s2=some (dis (.pointer (some ⟨b,fo,none⟩)))) (hop:o.op=.load t q) (ht:tyB P t false 1=true) (hq0:q=.tmp s2) {n:Nat} (hsz:C.size=n) (hfo:decide (fo<n)=true)
  (next:∀ a',Sx F N M0 M Gs ((d,dis (Wg (.agg C) fo))::L) O a' w->wpAnyH P .any ops Q (λ w=>w.heap[b]?=some (.cells C e (0,0))) f (listed.setIfInBounds i true) a' w):wpAnyH P .any ops Q (λ w=>w.heap[b]?=some (.cells C e (0,0))) (f+1) listed a w:=by
 have hlen:fo<C.size:=by rw[hsz];exact of_decide_eq_true hfo
 obtain⟨hv,hb⟩:=h.st.has s _ hs
 have h2:Act.at a s2=.pointer (some ⟨b,fo,none⟩):=h.st.has s2 _ hs2
 have hc:Wg (.agg C) fo=C[fo]:=by
  show C.toList.getD fo undef=_
  rw[List.getD_eq_getElem?_getD]
  simp[hlen]
 refine h.tkY (v:=Wg (.agg C) fo) (y:=dis (Wg (.agg C) fo)) ho hh hsel hf hr (λ c a w=>hQ c a w _) hb (λ w' hw'=>?_) rfl rfl next
 exact yLd (P:=P) (S:=λ w=>w.heap[b]?=some (.cells C e (0,0))) (a:=a) (o:=o) hop ht (by rw[hq0];exact h2) (λ w hw=>by rw[hc];simp[World.cell?,hw,hlen]) w' hw'
theorem FnS.frz3{P:Program}{f:FuncId}{o:Ow α}{x x':α}{xs:List Dt}{oy:Ow β}{y:β}{z1 z2:Dt}(h:FnS P f o x xs x' (.t3 oy y z1 z2)):FnS P f o x xs x' (.frz (dtup [dt y,z1,z2])):=by
 intro M0 G w v vs hm hg hv hr
 refine(h M0 G w v vs hm hg hv hr).mono λ en w' ⟨u,G',Gr,k1,k2,k3,k4,k5,k6,k7,⟨u1,u2,u3,e1,⟨cs,k8,k9⟩,e2,e3⟩⟩=>?_
 have hw:∀ k,(M0 k\/G' k)\/noB k->((M0 k\/G' k)\/Gr k)/\¬ Gr k:=λ k hk=>by
  rcases hk with(hk | hk) | hk
  ·
   exact⟨.inl (.inl hk),λ hg2=>(k4 k hg2).elim (λ e=>hg k e hk) λ e=>by have:=hm k (.inl hk);omega⟩
  ·
   exact⟨.inl (.inr hk),k5 k hk⟩
  ·
   exact hk.elim
 exact⟨u,G',noB,k1,k2,k3,λ _ h=>h.elim,λ _ _ h=>h,λ b hb=>hb.elim (λ hb=>k6 b (.inl hb)) λ h=>h.elim,(dow o G' x').weak k7 λ k _ hk=>hk.elim (λ hk=>.inl hk) λ h=>h.elim,
  ⟨[u1,u2,u3],e1,.cons ⟨cs,Rep.weak (oy.toR k8) λ k _ hk=>hw k hk,k9⟩ (.cons (z1.weak e2.1 λ k _ hk=>(hw k hk).1) (.cons (z2.weak e3.1 λ k _ hk=>(hw k hk).1) .nil)),λ q hq=>by
   simp only[List.mem_cons,List.not_mem_nil,or_false] at hq
   rcases hq with rfl | rfl | rfl
   ·
    rfl
   ·
    exact e2.2
   ·
    exact e3.2⟩,rfl⟩
theorem opd_eq{q:Operand}{u u':Value}(e:u=u')(h:OpdR M look q (dis u)):OpdR M look q (dis u'):=e ▸ h
theorem Sx.hdV{ow:Ow α}{oy:Ow β}{e:TypeId}{s off:Nat}{G:Nat->Prop}{x:α}{v0:Value}{cf:CF}{ys:List β}{upd:List β->α}(h:Sx F N M0 M Gs L O a w)(hP:PV ow x v0 cf (Ow.row e oy) off ys upd)(hs:(L++envO O).lookup s=some (dnm ow G x v0 cf)):∃ (g:Nat) (A:Option Addr) (cap:Nat),Wg v0 off=.slice A ys.length cap/\(ys.length≠0->A=some ⟨g,0,none⟩):=by
 obtain⟨_,⟨cs,h2,h3⟩,h4⟩:=h.st.has s _ hs
 obtain⟨G1,G2,_,_,_,⟨v,hv,hr⟩,_⟩:=(hP.of h2 h3 h4).1
 have hc:Wg v0 off=v:=vcell_of h2 h3 hv
 rcases hr with⟨g,cap,cur,Gr,hg,_⟩ | ⟨hx,A,hA⟩
 ·
  exact⟨g,_,cap,by rw[hc,hg],λ _=>rfl⟩
 ·
  exact⟨0,A,0,by rw[hc,hA,hx];rfl,λ h=>absurd (by rw[hx];rfl) h⟩
end
open Go.RowKit
section
variable{P:Program}{fn:Func}{F:Frm}{N:Nat}{M0 M M':Nat->Prop}{Gs:List (Nat->Prop)}{L L' L2:Env}{O O2:List (Nat×Nat×Dt)}{a:Act}{w w' w0:World}
variable{α β γ:Type}[Rep α][Rep β][Rep γ]
variable{Q:Exit->Act->World->Prop}{ops:Array Oper}{rest:List Oper}{ks qs:List Nat}{o:Oper}{d p e:Nat}
end
open Go.RowKit
structure Pn(α:Type) where
 b:Nat
 x:α
section
variable{α:Type}[Rep α]
instance:Rep (Pn α) where
 size:=1
 agg:=false
 rdc M w cs y:=cs=[.pointer (some ⟨y.b,0,none⟩)]/\(dptr y.x).rd M w (.pointer (some ⟨y.b,0,none⟩))
 len:=λ⟨h,_⟩=>by rw[h];rfl
 one _:=rfl
 pos:=Nat.one_pos
 oneCell:=λ⟨h,_⟩ c hc=>by
  rw[h] at hc
  simp at hc
  subst hc
  rfl
 stable:=λ⟨h,hr⟩ e=>⟨h,(dptr _).stable hr e⟩
 weak:=λ⟨h,hr⟩ e=>⟨h,(dptr _).weak hr e⟩
def Ow.pin(o:Ow α):Ow (Pn α) where
 ro M G w cs y:=∃ (C:Array Value) (e:TypeId) (Gr:Nat->Prop),cs=[.pointer (some ⟨y.b,0,none⟩)]/\w.heap[y.b]?=some (.cells C e (0,0))/\G y.b/\¬ Gr y.b/\(∀ k,Gr k->G k)/\o.ro M Gr w C.toList y.x
 toR:=λ{M G w cs y} ⟨C,e,Gr,hc,hh,hG,hn,hs,hr⟩=>⟨hc,y.b,0,C.toList,rfl,λ h=>h.2 hG,λ j u hj=>by
  rw[Nat.zero_add]
  have:C[j]?=some u:=by simpa using hj
  simp[World.cell?,hh,this],Rep.weak (o.toR hr) λ k _ hk=>⟨hk.1,λ h=>hk.2 (hs k h)⟩⟩
 stable:=λ{M G w w' cs y} ⟨C,e,Gr,hc,hh,hG,hn,hs,hr⟩ k=>⟨C,e,Gr,hc,(k y.b (xi hh) (.inr hG)).trans hh,hG,hn,hs,o.stable hr (k.sub hs)⟩
 weak:=λ⟨C,e,Gr,hc,hh,hG,hn,hs,hr⟩ k=>⟨C,e,Gr,hc,hh,hG,hn,hs,o.weak hr k⟩
 more:=λ{M G G' w cs y} ⟨C,e,Gr,hc,hh,hG,hn,hs,hr⟩ k=>⟨C,e,Gr,hc,hh,k y.b hG,hn,λ i hi=>k i (hs i hi),hr⟩
theorem Ow.pin_box{o:Ow α}{M G:Nat->Prop}{w:World}{cs:List Value}{y:Pn α}(h:o.pin.ro M G w cs y):o.box.ro M G w cs ⟨y.x⟩:=
 let⟨C,e,Gr,h⟩:=h;⟨y.b,C,e,Gr,h⟩
theorem Ow.box_pin{o:Ow α}{M G:Nat->Prop}{w:World}{cs:List Value}{y:Bx α}{b:Nat}(h:o.box.ro M G w cs y)(hc:cs=[.pointer (some ⟨b,0,none⟩)]):o.pin.ro M G w cs ⟨b,y.x⟩:=by
 obtain⟨b',C,e,Gr,h1,h2⟩:=h
 rw[hc] at h1
 have e2:b'=b:=by injection h1 with h1;injection h1 with h1;injection h1 with h1;injection h1 with h1;exact h1.symm
 subst e2
 exact⟨C,e,Gr,hc,h2⟩
variable{β:Type}[Rep β]{M G:Nat->Prop}{w:World}{b off:Nat}
theorem VP.mono{oy:Ow β}{c:List Value}{y:β}{R R':(Nat->Prop)->(Nat->Prop)->World->β->Prop}(h:VP oy M G w c y R)(hR:∀ {M' G':Nat->Prop} {w':World} {y':β},R M' G' w' y'->R' M' G' w' y'):VP oy M G w c y R':=by
 obtain⟨G1,G2,s1,s2,hd,hr,put⟩:=h
 exact⟨G1,G2,s1,s2,hd,hr,λ hL hy h1 h2 h3=>hR (put hL hy h1 h2 h3)⟩
theorem HP.mono{oy:Ow β}{y:β}{R R':(Nat->Prop)->(Nat->Prop)->World->β->Prop}(h:HP oy M G w b off y R)(hR:∀ {M' G':Nat->Prop} {w':World} {y':β},R M' G' w' y'->R' M' G' w' y'):HP oy M G w b off y R':=by
 obtain⟨G1,G2,C,e,s1,s2,hb,n1,n2,hd,hh,hsz,hr,put⟩:=h
 exact⟨G1,G2,C,e,s1,s2,hb,n1,n2,hd,hh,hsz,hr,λ hL hh' hy nb h1 g0 h2 h3=>hR (put hL hh' hy nb h1 g0 h2 h3)⟩
theorem VP.toBox{o:Ow α}{c:List Value}{y:Pn α}{R:(Nat->Prop)->(Nat->Prop)->World->Pn α->Prop}(h:VP o.pin M G w c y R):c=[.pointer (some ⟨y.b,0,none⟩)]/\VP o.box M G w c ⟨y.x⟩ (λ M' G' w' z=>R M' G' w' ⟨y.b,z.x⟩):=by
 obtain⟨G1,G2,s1,s2,hd,hr,put⟩:=h
 obtain⟨C,e,Gr,hc,hk⟩:=hr
 exact⟨hc,G1,G2,s1,s2,hd,Ow.pin_box ⟨C,e,Gr,hc,hk⟩,λ hL hy h1 h2 h3=>put hL (Ow.box_pin hy hc) h1 h2 h3⟩
theorem HP.pin{o:Ow α}{y:Pn α}{R:(Nat->Prop)->(Nat->Prop)->World->Pn α->Prop}(h:HP o.pin M G w b off y R):w.cell? ⟨b,off,none⟩=some (.pointer (some ⟨y.b,0,none⟩))/\HP o M G w y.b 0 y.x (λ M' G' w' z=>R M' G' w' ⟨y.b,z⟩):=by
 obtain⟨C,e,hh,hsz,hv⟩:=h.vp
 obtain⟨hc,hb⟩:=hv.toBox
 obtain⟨b',hc',hp⟩:=hb.box
 rw[hc] at hc'
 have e2:b'=y.b:=by injection hc' with h1;injection h1 with h1;injection h1 with h1;injection h1 with h1;exact h1.symm
 subst e2
 exact⟨by simp[World.cell?,hh,XE hc],hp⟩
theorem zip_set{τ:Type}{bs:List Nat}{xs:List τ}{k b:Nat}{y:τ}(h:bs[k]?=some b):(List.zipWith Pn.mk bs xs).set k ⟨b,y⟩=List.zipWith Pn.mk bs (xs.set k y):=by
 apply List.ext_getElem?
 intro i
 by_cases hi:k=i
 ·
  subst hi
  by_cases hx:k<xs.length
  ·
   have hb:k<bs.length:=ye h
   rw[List.getElem?_set_self (by rw[List.length_zipWith];omega),List.getElem?_zipWith_eq_some.2 ⟨b,y,h,by rw[List.getElem?_set_self hx],rfl⟩]
  ·
   rw[List.getElem?_eq_none_iff.2 (by rw[List.length_set,List.length_zipWith];omega),List.getElem?_eq_none_iff.2 (by rw[List.length_zipWith,List.length_set];omega)]
 ·
  rw[List.getElem?_set_ne hi,List.getElem?_zipWith,List.getElem?_zipWith,List.getElem?_set_ne hi]
theorem zip_len{τ:Type}{bs:List Nat}{xs:List (Bx τ)}(h:bs.length=xs.length):(List.zipWith Pn.mk bs (xs.map Bx.x)).length=xs.length:=by
 rw[List.length_zipWith,List.length_map];omega
theorem rowR_pin{M:Nat->Prop}{w:World}:∀ {bs:List Nat} {xs:List (Bx α)} {cells:List Value},bs.length=xs.length->rowR M w cells (List.zipWith Pn.mk bs (xs.map Bx.x))->rowR M w cells xs
 | [],[],_,_,h=>h
 |
  b::bs,x::xs,cells,hl,h=>by
  obtain⟨c,r,h1,⟨h2,h3⟩,h4⟩:=h
  exact⟨c,r,h1,⟨_,h2,h3⟩,rowR_pin (by simpa using hl) h4⟩
 | [],_::_,_,hl,_=>by simp at hl
 | _::_,[],_,hl,_=>by simp at hl
def Ow.rowF(φ:List Nat->Prop)(e:TypeId)(o:Ow α):Ow (List (Bx α)) where
 ro M G w cs xs:=∃ bs:List Nat,bs.length=xs.length/\φ bs/\(Ow.row e o.pin).ro M G w cs (List.zipWith Pn.mk bs (xs.map Bx.x))
 toR:=λ{M G w cs xs} ⟨bs,hl,_,h⟩=>by
  obtain⟨A,c,h1,h2,h3,h4⟩:=(Ow.row e o.pin).toR h
  rw[zip_len hl] at h1 h2
  refine⟨A,c,h1,h2,h3,?_⟩
  rcases h4 with h4 | ⟨b,o',cells,ha,hb,hc,hr⟩
  ·
   have:=congrArg List.length h4
   rw[zip_len hl,List.length_nil] at this
   exact .inl (List.length_eq_zero_iff.1 this)
  ·
   exact .inr ⟨b,o',cells,ha,hb,hc,rowR_pin hl hr⟩
 stable:=λ⟨bs,hl,hp,h⟩ k=>⟨bs,hl,hp,(Ow.row e _).stable h k⟩
 weak:=λ⟨bs,hl,hp,h⟩ k=>⟨bs,hl,hp,(Ow.row e _).weak h k⟩
 more:=λ⟨bs,hl,hp,h⟩ k=>⟨bs,hl,hp,(Ow.row e _).more h k⟩
def pinsOf(ps:List (Nat×Nat))(bs:List Nat):Prop:=∀ q∈ps,bs[q.1]?=some q.2
abbrev Ow.rowP(ps:List (Nat×Nat))(e:TypeId)(o:Ow α):Ow (List (Bx α)):=Ow.rowF (pinsOf ps) e o
variable{ps:List (Nat×Nat)}{φ:List Nat->Prop}{e:TypeId}{o:Ow α}
section
variable{β γ:Type}[Rep β][Rep γ]
end
theorem VP.rowF{c:List Value}{xs:List (Bx α)}{R:(Nat->Prop)->(Nat->Prop)->World->List (Bx α)->Prop}{k bk:Nat}{z:Bx α}(h:VP (Ow.rowF φ e o) M G w c xs R)(hk:∀ bs,φ bs->bs[k]?=some bk)(hz:xs[k]?=some z):∃ g cap,c=[.slice (some ⟨g,0,none⟩) xs.length cap]/\HP o.pin M G w g k ⟨bk,z.x⟩ (λ M' G' w' y'=>y'.b=bk->R M' G' w' (xs.set k ⟨y'.x⟩)):=by
 obtain⟨G1,G2,s1,s2,hd,⟨bs,hl,hp,hr⟩,put⟩:=h
 have hb:bs[k]?=some bk:=hk bs hp
 have hzz:(List.zipWith Pn.mk bs (xs.map Bx.x))[k]?=some ⟨bk,z.x⟩:=by
  rw[List.getElem?_zipWith_eq_some]
  exact⟨bk,z.x,hb,by rw[List.getElem?_map,hz];rfl,rfl⟩
 have h0:VP (Ow.row e o.pin) M G w c (List.zipWith Pn.mk bs (xs.map Bx.x)) (λ M' G' w' ys=>∀ xs':List (Bx α),xs'.length=xs.length->ys=List.zipWith Pn.mk bs (xs'.map Bx.x)->R M' G' w' xs'):=
  ⟨G1,G2,s1,s2,hd,hr,λ hL hy h1 h2 h3=>λ xs' hl' hxs=>put hL ⟨bs,by omega,hp,by rw[← hxs];exact hy⟩ h1 h2 h3⟩
 obtain⟨g,cap,hc,hq⟩:=h0.row hzz
 rw[zip_len hl] at hc
 rw[show Rep.size (Pn α)=1 from rfl,Nat.mul_one] at hq
 refine⟨g,cap,hc,hq.mono λ{M' G' w' y'} h5 e5=>?_⟩
 obtain⟨b',y'⟩:=y'
 subst e5
 exact h5 (xs.set k ⟨y'⟩) (by rw[List.length_set]) (by rw[zip_set hb,List.map_set])
theorem HP.rowF{xs:List (Bx α)}{R:(Nat->Prop)->(Nat->Prop)->World->List (Bx α)->Prop}{k bk:Nat}{z:Bx α}(h:HP (Ow.rowF φ e o) M G w b off xs R)(hk:∀ bs,φ bs->bs[k]?=some bk)(hz:xs[k]?=some z):∃ g cap,w.cell? ⟨b,off,none⟩=some (.slice (some ⟨g,0,none⟩) xs.length cap)/\HP o.pin M G w g k ⟨bk,z.x⟩ (λ M' G' w' y'=>y'.b=bk->R M' G' w' (xs.set k ⟨y'.x⟩)):=by
 obtain⟨C,e,hh,hsz,hv⟩:=h.vp
 obtain⟨g,cap,hc,h1⟩:=hv.rowF hk hz
 exact⟨g,cap,by simp[World.cell?,hh,XE hc],h1⟩
theorem pins_at{k bk:Nat}(hk:(k,bk)∈ps):∀ bs,pinsOf ps bs->bs[k]?=some bk:=λ _ h=>h _ hk
theorem PH.rowP{γ:Type}[Rep γ]{ow:Ow γ}{x:γ}{v0:Value}{cf:CF}{b off:Nat}{ys:List (Bx α)}{upd:List (Bx α)->γ}(h:PH ow x v0 cf (Ow.rowP ps e o) b off ys upd){k bk:Nat}{z:Bx α}(hk:(k,bk)∈ps)(hz:ys[k]?=some z):PH ow x v0 cf o bk 0 z.x (λ y'=>upd (ys.set k ⟨y'⟩)):=
 ⟨λ h1 h2 h3=>let⟨_,_,_,h4⟩:=(h.of h1 h2 h3).rowF (pins_at hk) hz;h4.pin.2.mono λ h5=>h5 rfl⟩
end
section
variable{P:Program}{fn:Func}{F:Frm}{N:Nat}{M0 M:Nat->Prop}{Gs:List (Nat->Prop)}{L L2:Env}{O O2:List (Nat×Nat×Dt)}{a:Act}{w w0:World}{Q:Exit->Act->World->Prop}{ops:Array Oper}{rest:List Oper}{ks qs:List Nat}{op:Oper}{d p:Nat}{T:Prop}
variable{α γ:Type}[Rep α][Rep γ]{look:Nat->Option Dt}{ps:List (Nat×Nat)}{φ:List Nat->Prop}{e:TypeId}{o:Ow α}
end
open Go.RowKit
section
variable{P:Program}{fn:Func}{F:Frm}{N d p:Nat}{M0 M:Nat->Prop}{Gs:List (Nat->Prop)}{L L2:Env}{O O2:List (Nat×Nat×Dt)}{a:Act}{w w0:World}{Q:Exit->Act->World->Prop}{ops:Array Oper}{rest:List Oper}{ks qs:List Nat}{o:Oper}
variable{α β γ:Type}[Rep α][Rep β][Rep γ]
end
open Go.RowKit
structure FnV(α β:Type) where
 g:α->Option β
structure Nilf where
deriving Inhabited
structure Np(α:Type) where
 o:Option α
instance {α β:Type}:Inhabited (FnV α β):=⟨⟨λ _=>none⟩⟩
instance {α:Type}:Inhabited (Np α):=⟨⟨none⟩⟩
instance {α:Type} [Inhabited α]:Inhabited (Bx α):=⟨⟨default⟩⟩
section
variable{α β γ:Type}[Rep α][Rep β][Rep γ]
instance:Rep (FnV α β) where
 size:=1
 agg:=false
 rdc M w cs x:=∃ v,cs=[v]/\(dfn1 Tryz.prog x.g).rd M w v
 len:=λ⟨_,h,_⟩=>by rw[h];rfl
 one _:=rfl
 pos:=Nat.one_pos
 oneCell:=λ⟨v,h,f,caps,ds,hv,_⟩ c hc=>by
  rw[h] at hc
  simp at hc
  subst hc
  rw[hv]
  rfl
 stable:=λ⟨v,h,hr⟩ e=>⟨v,h,(dfn1 _ _).stable hr e⟩
 weak:=λ⟨v,h,hr⟩ e=>⟨v,h,(dfn1 _ _).weak hr e⟩
instance:Rep Nilf where
 size:=1
 agg:=false
 rdc _ _ cs _:=cs=[.nilFunc]
 len h:=by rw[h];rfl
 one _:=rfl
 pos:=Nat.one_pos
 oneCell:=λ h c hc=>by
  rw[h] at hc
  simp at hc
  subst hc
  rfl
 stable h _:=h
 weak h _:=h
def npR(M:Nat->Prop)(w:World)(cs:List Value):Option α->Prop
 | none=>cs=[.pointer none]
 | some x=>∃ v,cs=[v]/\(dptr x).rd M w v
instance:Rep (Np α) where
 size:=1
 agg:=false
 rdc M w cs x:=npR M w cs x.o
 len:=λ{M w cs x} h=>by
  revert h
  cases x.o with
  | none=>intro h;rw[show cs=_ from h];rfl
  | some y=>rintro ⟨v,h,_⟩;rw[h];rfl
 one _:=rfl
 pos:=Nat.one_pos
 oneCell:=λ{M w cs x} h c hc=>by
  revert h
  cases x.o with
  |
   none=>
   intro h
   rw[show cs=_ from h] at hc
   simp at hc
   subst hc
   rfl
  |
   some y=>
   rintro ⟨v,h,b,o,_,hv,_⟩
   rw[h] at hc
   simp at hc
   subst hc
   rw[hv]
   rfl
 stable:=λ{M w w' cs x} h e=>by
  revert h
  cases x.o with
  | none=>exact id
  | some y=>rintro ⟨v,h,hr⟩;exact⟨v,h,(dptr _).stable hr e⟩
 weak:=λ{M M' w cs x} h e=>by
  revert h
  cases x.o with
  | none=>exact id
  | some y=>rintro ⟨v,h,hr⟩;exact⟨v,h,(dptr _).weak hr e⟩
variable{P:Program}{fn:Func}{F:Frm}{N:Nat}{M0 M:Nat->Prop}{Gs:List (Nat->Prop)}{L L2:Env}{O O2:List (Nat×Nat×Dt)}{a:Act}{w w0:World}{Q:Exit->Act->World->Prop}{ops:Array Oper}{rest:List Oper}{ks qs:List Nat}{o:Oper}{d p:Nat}{T:Prop}{look:Nat->Option Dt}{q:Operand}
theorem OpRel.mono{x y:Dt}(h:OpRel P M look o x)(hxy:∀ {w:World} {v:Value},x.rd M w v->y.rd M w v):OpRel P M look o y:=λ a w hm hl=>(h a w hm hl).mono λ _ _ ⟨h1,h2⟩=>⟨h1,hxy h2⟩
theorem OpdR.mono{x y:Dt}(h:OpdR M look q x)(hxy:∀ {w:World} {v:Value},x.rd M w v->y.rd M w v):OpdR M look q y:=λ w a hl=>hxy (h w a hl)
def dany:Dt where
 rd _ _ _:=True
 own:=noB
 nb:=true
 nob _ _ h:=h
 stable h _:=h
 weak h _:=h
theorem FnS.any{f:FuncId}{oo:Ow α}{x x':α}{xs:List Dt}(h:FnS P f oo x xs x' .gone):FnS P f oo x xs x' (.frz dany):=λ M0 G w v vs h1 h2 h3 h4=>
 (h M0 G w v vs h1 h2 h3 h4).mono λ _ _ ⟨u,G',Gr,k1,k2,k3,k4,k5,k6,k7,_⟩=>⟨u,G',Gr,k1,k2,k3,k4,k5,k6,k7,trivial,rfl⟩
theorem RdAll.flat{M M':Nat->Prop}{w:World}:∀ {us:List Value} {xs:List Dt},RdAll M w us xs->(∀ x∈xs,Flat x)->RdAll M' w us xs
 | _,_,.nil,_=>.nil
 | _,_,.cons h r,k=>.cons (k _ (List.mem_cons_self ..) _ _ _ _ h) (RdAll.flat r λ x hx=>k x (List.mem_cons_of_mem _ hx))
end
open Go.RowKit
structure Warmth where
 on:Bool
 disk:Disk
 finder:Finder
 store:List Compiled
 mode:Int
instance:Rep Warmth:=Rep.iso (λ x=>((x.on,x.disk,x.finder,x.store,x.mode):Bool×Disk×Finder×List Compiled×Int))
theorem Warmth.fld0:Fld (λ x:Warmth=>x.on) 0:=⟨λ h=>(Fld.fst).sub (α:=Bool×Disk×Finder×List Compiled×Int) h⟩
theorem Warmth.fld1:Fld (λ x:Warmth=>x.disk) 1:=⟨λ h=>((Fld.snd Fld.fst)).sub (α:=Bool×Disk×Finder×List Compiled×Int) h⟩
theorem Warmth.set1:FldS (λ(x:Warmth) y=>{ x with disk:=y }) 1:=⟨λ h k=>((FldS.snd FldS.fst)).put (α:=Bool×Disk×Finder×List Compiled×Int) h k⟩
theorem Warmth.fld2:Fld (λ x:Warmth=>x.finder) 4:=⟨λ h=>((Fld.snd (Fld.snd Fld.fst))).sub (α:=Bool×Disk×Finder×List Compiled×Int) h⟩
theorem Warmth.fld3:Fld (λ x:Warmth=>x.store) 7:=⟨λ h=>((Fld.snd (Fld.snd (Fld.snd Fld.fst)))).sub (α:=Bool×Disk×Finder×List Compiled×Int) h⟩
theorem Warmth.set3:FldS (λ(x:Warmth) y=>{ x with store:=y }) 7:=⟨λ h k=>((FldS.snd (FldS.snd (FldS.snd FldS.fst)))).put (α:=Bool×Disk×Finder×List Compiled×Int) h k⟩
theorem Warmth.fld4:Fld (λ x:Warmth=>x.mode) 8:=⟨λ h=>((Fld.snd (Fld.snd (Fld.snd (Fld.snd Fld.id))))).sub (α:=Bool×Disk×Finder×List Compiled×Int) h⟩
theorem Warmth.set4:FldS (λ(x:Warmth) y=>{ x with mode:=y }) 8:=⟨λ h k=>((FldS.snd (FldS.snd (FldS.snd (FldS.snd FldS.id))))).put (α:=Bool×Disk×Finder×List Compiled×Int) h k⟩
theorem Warmth.parts{M:Nat->Prop}{w:World}{x:Warmth}{c0:List Value}{c1:List Value}{c2:List Value}{c3:List Value}{c4:List Value}(h0:Rep.rdc M w c0 x.on)(h1:Rep.rdc M w c1 x.disk)(h2:Rep.rdc M w c2 x.finder)(h3:Rep.rdc M w c3 x.store)(h4:Rep.rdc M w c4 x.mode):Rep.rdc M w [c0,c1,c2,c3,c4].flatten x:=by
 simp only[List.flatten_cons,List.flatten_nil,List.append_nil]
 exact⟨c0,_,rfl,h0,⟨c1,_,rfl,h1,⟨c2,_,rfl,h2,⟨c3,_,rfl,h3,h4⟩⟩⟩⟩
structure Machine where
 t:Tree
 path:List Int
 known:Nilf
 load:FnV File (List Stmt)
 modules:List (Bx GMod)
 out:List Int
 log:List GEvent
 part:List Str
 left:Int
instance:Rep Machine:=Rep.iso (λ x=>((x.t,x.path,x.known,x.load,x.modules,x.out,x.log,x.part,x.left):Tree×List Int×Nilf×FnV File (List Stmt)×List (Bx GMod)×List Int×List GEvent×List Str×Int))
theorem Machine.fld0:Fld (λ x:Machine=>x.t) 0:=⟨λ h=>(Fld.fst).sub (α:=Tree×List Int×Nilf×FnV File (List Stmt)×List (Bx GMod)×List Int×List GEvent×List Str×Int) h⟩
theorem Machine.fld1:Fld (λ x:Machine=>x.path) 1:=⟨λ h=>((Fld.snd Fld.fst)).sub (α:=Tree×List Int×Nilf×FnV File (List Stmt)×List (Bx GMod)×List Int×List GEvent×List Str×Int) h⟩
theorem Machine.set1:FldS (λ(x:Machine) y=>{ x with path:=y }) 1:=⟨λ h k=>((FldS.snd FldS.fst)).put (α:=Tree×List Int×Nilf×FnV File (List Stmt)×List (Bx GMod)×List Int×List GEvent×List Str×Int) h k⟩
theorem Machine.fld2:Fld (λ x:Machine=>x.known) 2:=⟨λ h=>((Fld.snd (Fld.snd Fld.fst))).sub (α:=Tree×List Int×Nilf×FnV File (List Stmt)×List (Bx GMod)×List Int×List GEvent×List Str×Int) h⟩
theorem Machine.fld3:Fld (λ x:Machine=>x.load) 3:=⟨λ h=>((Fld.snd (Fld.snd (Fld.snd Fld.fst)))).sub (α:=Tree×List Int×Nilf×FnV File (List Stmt)×List (Bx GMod)×List Int×List GEvent×List Str×Int) h⟩
theorem Machine.set3:FldS (λ(x:Machine) y=>{ x with load:=y }) 3:=⟨λ h k=>((FldS.snd (FldS.snd (FldS.snd FldS.fst)))).put (α:=Tree×List Int×Nilf×FnV File (List Stmt)×List (Bx GMod)×List Int×List GEvent×List Str×Int) h k⟩
theorem Machine.fld4:Fld (λ x:Machine=>x.modules) 4:=⟨λ h=>((Fld.snd (Fld.snd (Fld.snd (Fld.snd Fld.fst))))).sub (α:=Tree×List Int×Nilf×FnV File (List Stmt)×List (Bx GMod)×List Int×List GEvent×List Str×Int) h⟩
theorem Machine.set4:FldS (λ(x:Machine) y=>{ x with modules:=y }) 4:=⟨λ h k=>((FldS.snd (FldS.snd (FldS.snd (FldS.snd FldS.fst))))).put (α:=Tree×List Int×Nilf×FnV File (List Stmt)×List (Bx GMod)×List Int×List GEvent×List Str×Int) h k⟩
theorem Machine.fld5:Fld (λ x:Machine=>x.out) 5:=⟨λ h=>((Fld.snd (Fld.snd (Fld.snd (Fld.snd (Fld.snd Fld.fst)))))).sub (α:=Tree×List Int×Nilf×FnV File (List Stmt)×List (Bx GMod)×List Int×List GEvent×List Str×Int) h⟩
theorem Machine.parts{M:Nat->Prop}{w:World}{x:Machine}{c0:List Value}{c1:List Value}{c2:List Value}{c3:List Value}{c4:List Value}{c5:List Value}{c6:List Value}{c7:List Value}{c8:List Value}(h0:Rep.rdc M w c0 x.t)(h1:Rep.rdc M w c1 x.path)(h2:Rep.rdc M w c2 x.known)(h3:Rep.rdc M w c3 x.load)(h4:Rep.rdc M w c4 x.modules)(h5:Rep.rdc M w c5 x.out)(h6:Rep.rdc M w c6 x.log)(h7:Rep.rdc M w c7 x.part)(h8:Rep.rdc M w c8 x.left):Rep.rdc M w [c0,c1,c2,c3,c4,c5,c6,c7,c8].flatten x:=by
 simp only[List.flatten_cons,List.flatten_nil,List.append_nil]
 exact⟨c0,_,rfl,h0,⟨c1,_,rfl,h1,⟨c2,_,rfl,h2,⟨c3,_,rfl,h3,⟨c4,_,rfl,h4,⟨c5,_,rfl,h5,⟨c6,_,rfl,h6,⟨c7,_,rfl,h7,h8⟩⟩⟩⟩⟩⟩⟩⟩
structure Runner where
 t:Tree
 path:List Int
 mods:List GMod
 log:List GEvent
 out:List Int
 fin:Int
 left:Int
 warm:Bx Warmth
instance:Rep Runner:=Rep.iso (λ x=>((x.t,x.path,x.mods,x.log,x.out,x.fin,x.left,x.warm):Tree×List Int×List GMod×List GEvent×List Int×Int×Int×Bx Warmth))
theorem Runner.fld0:Fld (λ x:Runner=>x.t) 0:=⟨λ h=>(Fld.fst).sub (α:=Tree×List Int×List GMod×List GEvent×List Int×Int×Int×Bx Warmth) h⟩
theorem Runner.fld1:Fld (λ x:Runner=>x.path) 1:=⟨λ h=>((Fld.snd Fld.fst)).sub (α:=Tree×List Int×List GMod×List GEvent×List Int×Int×Int×Bx Warmth) h⟩
theorem Runner.set1:FldS (λ(x:Runner) y=>{ x with path:=y }) 1:=⟨λ h k=>((FldS.snd FldS.fst)).put (α:=Tree×List Int×List GMod×List GEvent×List Int×Int×Int×Bx Warmth) h k⟩
theorem Runner.fld2:Fld (λ x:Runner=>x.mods) 2:=⟨λ h=>((Fld.snd (Fld.snd Fld.fst))).sub (α:=Tree×List Int×List GMod×List GEvent×List Int×Int×Int×Bx Warmth) h⟩
theorem Runner.fld3:Fld (λ x:Runner=>x.log) 3:=⟨λ h=>((Fld.snd (Fld.snd (Fld.snd Fld.fst)))).sub (α:=Tree×List Int×List GMod×List GEvent×List Int×Int×Int×Bx Warmth) h⟩
theorem Runner.set3:FldS (λ(x:Runner) y=>{ x with log:=y }) 3:=⟨λ h k=>((FldS.snd (FldS.snd (FldS.snd FldS.fst)))).put (α:=Tree×List Int×List GMod×List GEvent×List Int×Int×Int×Bx Warmth) h k⟩
theorem Runner.fld4:Fld (λ x:Runner=>x.out) 4:=⟨λ h=>((Fld.snd (Fld.snd (Fld.snd (Fld.snd Fld.fst))))).sub (α:=Tree×List Int×List GMod×List GEvent×List Int×Int×Int×Bx Warmth) h⟩
theorem Runner.set4:FldS (λ(x:Runner) y=>{ x with out:=y }) 4:=⟨λ h k=>((FldS.snd (FldS.snd (FldS.snd (FldS.snd FldS.fst))))).put (α:=Tree×List Int×List GMod×List GEvent×List Int×Int×Int×Bx Warmth) h k⟩
theorem Runner.fld5:Fld (λ x:Runner=>x.fin) 5:=⟨λ h=>((Fld.snd (Fld.snd (Fld.snd (Fld.snd (Fld.snd Fld.fst)))))).sub (α:=Tree×List Int×List GMod×List GEvent×List Int×Int×Int×Bx Warmth) h⟩
theorem Runner.parts{M:Nat->Prop}{w:World}{x:Runner}{c0:List Value}{c1:List Value}{c2:List Value}{c3:List Value}{c4:List Value}{c5:List Value}{c6:List Value}{c7:List Value}(h0:Rep.rdc M w c0 x.t)(h1:Rep.rdc M w c1 x.path)(h2:Rep.rdc M w c2 x.mods)(h3:Rep.rdc M w c3 x.log)(h4:Rep.rdc M w c4 x.out)(h5:Rep.rdc M w c5 x.fin)(h6:Rep.rdc M w c6 x.left)(h7:Rep.rdc M w c7 x.warm):Rep.rdc M w [c0,c1,c2,c3,c4,c5,c6,c7].flatten x:=by
 simp only[List.flatten_cons,List.flatten_nil,List.append_nil]
 exact⟨c0,_,rfl,h0,⟨c1,_,rfl,h1,⟨c2,_,rfl,h2,⟨c3,_,rfl,h3,⟨c4,_,rfl,h4,⟨c5,_,rfl,h5,⟨c6,_,rfl,h6,h7⟩⟩⟩⟩⟩⟩⟩
theorem Warmth.z0:FldW (Ow.frz (α:=Warmth)) (Ow.frz (α:=Bool)) (λ x:Warmth=>x.on) (λ y x=>{ x with on:=y }) 0:=⟨λ h=>(FldW.zfst).foc (α:=Bool×Disk×Finder×List Compiled×Int) h⟩
theorem Warmth.z1:FldW (Ow.frz (α:=Warmth)) (Ow.frz (α:=Disk)) (λ x:Warmth=>x.disk) (λ y x=>{ x with disk:=y }) 1:=⟨λ h=>((FldW.zsnd FldW.zfst)).foc (α:=Bool×Disk×Finder×List Compiled×Int) h⟩
theorem Warmth.z2:FldW (Ow.frz (α:=Warmth)) (Ow.frz (α:=Finder)) (λ x:Warmth=>x.finder) (λ y x=>{ x with finder:=y }) 4:=⟨λ h=>((FldW.zsnd (FldW.zsnd FldW.zfst))).foc (α:=Bool×Disk×Finder×List Compiled×Int) h⟩
theorem Warmth.z3:FldW (Ow.frz (α:=Warmth)) (Ow.frz (α:=List Compiled)) (λ x:Warmth=>x.store) (λ y x=>{ x with store:=y }) 7:=⟨λ h=>((FldW.zsnd (FldW.zsnd (FldW.zsnd FldW.zfst)))).foc (α:=Bool×Disk×Finder×List Compiled×Int) h⟩
theorem Warmth.z4:FldW (Ow.frz (α:=Warmth)) (Ow.frz (α:=Int)) (λ x:Warmth=>x.mode) (λ y x=>{ x with mode:=y }) 8:=⟨λ h=>((FldW.zsnd (FldW.zsnd (FldW.zsnd (FldW.zsnd FldW.id))))).foc (α:=Bool×Disk×Finder×List Compiled×Int) h⟩
theorem Machine.z0:FldW (Ow.frz (α:=Machine)) (Ow.frz (α:=Tree)) (λ x:Machine=>x.t) (λ y x=>{ x with t:=y }) 0:=⟨λ h=>(FldW.zfst).foc (α:=Tree×List Int×Nilf×FnV File (List Stmt)×List (Bx GMod)×List Int×List GEvent×List Str×Int) h⟩
theorem Machine.z1:FldW (Ow.frz (α:=Machine)) (Ow.frz (α:=List Int)) (λ x:Machine=>x.path) (λ y x=>{ x with path:=y }) 1:=⟨λ h=>((FldW.zsnd FldW.zfst)).foc (α:=Tree×List Int×Nilf×FnV File (List Stmt)×List (Bx GMod)×List Int×List GEvent×List Str×Int) h⟩
theorem Machine.z2:FldW (Ow.frz (α:=Machine)) (Ow.frz (α:=Nilf)) (λ x:Machine=>x.known) (λ y x=>{ x with known:=y }) 2:=⟨λ h=>((FldW.zsnd (FldW.zsnd FldW.zfst))).foc (α:=Tree×List Int×Nilf×FnV File (List Stmt)×List (Bx GMod)×List Int×List GEvent×List Str×Int) h⟩
theorem Machine.z3:FldW (Ow.frz (α:=Machine)) (Ow.frz (α:=FnV File (List Stmt))) (λ x:Machine=>x.load) (λ y x=>{ x with load:=y }) 3:=⟨λ h=>((FldW.zsnd (FldW.zsnd (FldW.zsnd FldW.zfst)))).foc (α:=Tree×List Int×Nilf×FnV File (List Stmt)×List (Bx GMod)×List Int×List GEvent×List Str×Int) h⟩
theorem Machine.z4:FldW (Ow.frz (α:=Machine)) (Ow.frz (α:=List (Bx GMod))) (λ x:Machine=>x.modules) (λ y x=>{ x with modules:=y }) 4:=⟨λ h=>((FldW.zsnd (FldW.zsnd (FldW.zsnd (FldW.zsnd FldW.zfst))))).foc (α:=Tree×List Int×Nilf×FnV File (List Stmt)×List (Bx GMod)×List Int×List GEvent×List Str×Int) h⟩
theorem Machine.z5:FldW (Ow.frz (α:=Machine)) (Ow.frz (α:=List Int)) (λ x:Machine=>x.out) (λ y x=>{ x with out:=y }) 5:=⟨λ h=>((FldW.zsnd (FldW.zsnd (FldW.zsnd (FldW.zsnd (FldW.zsnd FldW.zfst)))))).foc (α:=Tree×List Int×Nilf×FnV File (List Stmt)×List (Bx GMod)×List Int×List GEvent×List Str×Int) h⟩
theorem Machine.z7:FldW (Ow.frz (α:=Machine)) (Ow.frz (α:=List Str)) (λ x:Machine=>x.part) (λ y x=>{ x with part:=y }) 7:=⟨λ h=>((FldW.zsnd (FldW.zsnd (FldW.zsnd (FldW.zsnd (FldW.zsnd (FldW.zsnd (FldW.zsnd FldW.zfst)))))))).foc (α:=Tree×List Int×Nilf×FnV File (List Stmt)×List (Bx GMod)×List Int×List GEvent×List Str×Int) h⟩
theorem Machine.z8:FldW (Ow.frz (α:=Machine)) (Ow.frz (α:=Int)) (λ x:Machine=>x.left) (λ y x=>{ x with left:=y }) 8:=⟨λ h=>((FldW.zsnd (FldW.zsnd (FldW.zsnd (FldW.zsnd (FldW.zsnd (FldW.zsnd (FldW.zsnd (FldW.zsnd FldW.id))))))))).foc (α:=Tree×List Int×Nilf×FnV File (List Stmt)×List (Bx GMod)×List Int×List GEvent×List Str×Int) h⟩
theorem Runner.z0:FldW (Ow.frz (α:=Runner)) (Ow.frz (α:=Tree)) (λ x:Runner=>x.t) (λ y x=>{ x with t:=y }) 0:=⟨λ h=>(FldW.zfst).foc (α:=Tree×List Int×List GMod×List GEvent×List Int×Int×Int×Bx Warmth) h⟩
theorem Runner.z1:FldW (Ow.frz (α:=Runner)) (Ow.frz (α:=List Int)) (λ x:Runner=>x.path) (λ y x=>{ x with path:=y }) 1:=⟨λ h=>((FldW.zsnd FldW.zfst)).foc (α:=Tree×List Int×List GMod×List GEvent×List Int×Int×Int×Bx Warmth) h⟩
theorem Runner.z2:FldW (Ow.frz (α:=Runner)) (Ow.frz (α:=List GMod)) (λ x:Runner=>x.mods) (λ y x=>{ x with mods:=y }) 2:=⟨λ h=>((FldW.zsnd (FldW.zsnd FldW.zfst))).foc (α:=Tree×List Int×List GMod×List GEvent×List Int×Int×Int×Bx Warmth) h⟩
theorem Runner.z3:FldW (Ow.frz (α:=Runner)) (Ow.frz (α:=List GEvent)) (λ x:Runner=>x.log) (λ y x=>{ x with log:=y }) 3:=⟨λ h=>((FldW.zsnd (FldW.zsnd (FldW.zsnd FldW.zfst)))).foc (α:=Tree×List Int×List GMod×List GEvent×List Int×Int×Int×Bx Warmth) h⟩
theorem Runner.z4:FldW (Ow.frz (α:=Runner)) (Ow.frz (α:=List Int)) (λ x:Runner=>x.out) (λ y x=>{ x with out:=y }) 4:=⟨λ h=>((FldW.zsnd (FldW.zsnd (FldW.zsnd (FldW.zsnd FldW.zfst))))).foc (α:=Tree×List Int×List GMod×List GEvent×List Int×Int×Int×Bx Warmth) h⟩
theorem Runner.z5:FldW (Ow.frz (α:=Runner)) (Ow.frz (α:=Int)) (λ x:Runner=>x.fin) (λ y x=>{ x with fin:=y }) 5:=⟨λ h=>((FldW.zsnd (FldW.zsnd (FldW.zsnd (FldW.zsnd (FldW.zsnd FldW.zfst)))))).foc (α:=Tree×List Int×List GMod×List GEvent×List Int×Int×Int×Bx Warmth) h⟩
theorem Runner.z7:FldW (Ow.frz (α:=Runner)) (Ow.frz (α:=Bx Warmth)) (λ x:Runner=>x.warm) (λ y x=>{ x with warm:=y }) 7:=⟨λ h=>((FldW.zsnd (FldW.zsnd (FldW.zsnd (FldW.zsnd (FldW.zsnd (FldW.zsnd (FldW.zsnd FldW.id)))))))).foc (α:=Tree×List Int×List GMod×List GEvent×List Int×Int×Int×Bx Warmth) h⟩
@[reducible] def owRunner (a2:Ow (List GMod)) (a3:Ow (List GEvent)) (a4:Ow (List Int)):Ow Runner:=Ow.via (λ(x:Runner)=>((x.t,x.path,x.mods,x.log,x.out,x.fin,x.left,x.warm):Tree×List Int×List GMod×List GEvent×List Int×Int×Int×Bx Warmth)) (Ow.pr (Ow.frz (α:=Tree)) (Ow.pr (Ow.frz (α:=List Int)) (Ow.pr a2 (Ow.pr a3 (Ow.pr a4 (Ow.pr (Ow.frz (α:=Int)) (Ow.pr (Ow.frz (α:=Int)) (Ow.frz (α:=Bx Warmth)))))))))
theorem owRunner.f0{a2:Ow (List GMod)}{a3:Ow (List GEvent)}{a4:Ow (List Int)}:FldW (owRunner a2 a3 a4) (Ow.frz (α:=Tree)) (λ x:Runner=>x.t) (λ y x=>{ x with t:=y }) 0:=⟨λ h=>(FldW.fst).foc (α:=Tree×List Int×List GMod×List GEvent×List Int×Int×Int×Bx Warmth) h⟩
theorem owRunner.f1{a2:Ow (List GMod)}{a3:Ow (List GEvent)}{a4:Ow (List Int)}:FldW (owRunner a2 a3 a4) (Ow.frz (α:=List Int)) (λ x:Runner=>x.path) (λ y x=>{ x with path:=y }) 1:=⟨λ h=>((FldW.snd FldW.fst)).foc (α:=Tree×List Int×List GMod×List GEvent×List Int×Int×Int×Bx Warmth) h⟩
theorem owRunner.f2{a2:Ow (List GMod)}{a3:Ow (List GEvent)}{a4:Ow (List Int)}:FldW (owRunner a2 a3 a4) a2 (λ x:Runner=>x.mods) (λ y x=>{ x with mods:=y }) 2:=⟨λ h=>((FldW.snd (FldW.snd FldW.fst))).foc (α:=Tree×List Int×List GMod×List GEvent×List Int×Int×Int×Bx Warmth) h⟩
theorem owRunner.f3{a2:Ow (List GMod)}{a3:Ow (List GEvent)}{a4:Ow (List Int)}:FldW (owRunner a2 a3 a4) a3 (λ x:Runner=>x.log) (λ y x=>{ x with log:=y }) 3:=⟨λ h=>((FldW.snd (FldW.snd (FldW.snd FldW.fst)))).foc (α:=Tree×List Int×List GMod×List GEvent×List Int×Int×Int×Bx Warmth) h⟩
theorem owRunner.f4{a2:Ow (List GMod)}{a3:Ow (List GEvent)}{a4:Ow (List Int)}:FldW (owRunner a2 a3 a4) a4 (λ x:Runner=>x.out) (λ y x=>{ x with out:=y }) 4:=⟨λ h=>((FldW.snd (FldW.snd (FldW.snd (FldW.snd FldW.fst))))).foc (α:=Tree×List Int×List GMod×List GEvent×List Int×Int×Int×Bx Warmth) h⟩
theorem owRunner.f5{a2:Ow (List GMod)}{a3:Ow (List GEvent)}{a4:Ow (List Int)}:FldW (owRunner a2 a3 a4) (Ow.frz (α:=Int)) (λ x:Runner=>x.fin) (λ y x=>{ x with fin:=y }) 5:=⟨λ h=>((FldW.snd (FldW.snd (FldW.snd (FldW.snd (FldW.snd FldW.fst)))))).foc (α:=Tree×List Int×List GMod×List GEvent×List Int×Int×Int×Bx Warmth) h⟩
theorem owRunner.f6{a2:Ow (List GMod)}{a3:Ow (List GEvent)}{a4:Ow (List Int)}:FldW (owRunner a2 a3 a4) (Ow.frz (α:=Int)) (λ x:Runner=>x.left) (λ y x=>{ x with left:=y }) 6:=⟨λ h=>((FldW.snd (FldW.snd (FldW.snd (FldW.snd (FldW.snd (FldW.snd FldW.fst))))))).foc (α:=Tree×List Int×List GMod×List GEvent×List Int×Int×Int×Bx Warmth) h⟩
theorem owRunner.mk{M:Nat->Prop}{w:World}{x:Runner}{g2:Nat->Prop}{a2:Ow (List GMod)}{g3:Nat->Prop}{a3:Ow (List GEvent)}{g4:Nat->Prop}{a4:Ow (List Int)}{c0:List Value}{c1:List Value}{c2:List Value}{c3:List Value}{c4:List Value}{c5:List Value}{c6:List Value}{c7:List Value}(h0:Rep.rdc M w c0 x.t)(h1:Rep.rdc M w c1 x.path)(h2:a2.ro M g2 w c2 x.mods)(h3:a3.ro M g3 w c3 x.log)(h4:a4.ro M g4 w c4 x.out)(h5:Rep.rdc M w c5 x.fin)(h6:Rep.rdc M w c6 x.left)(h7:Rep.rdc M w c7 x.warm)(d2:∀ b,g2 b->¬ (λ b=>g3 b\/g4 b) b)(d3:∀ b,g3 b->¬ g4 b):(owRunner a2 a3 a4).ro M (λ b=>g2 b\/(λ b=>g3 b\/g4 b) b) w [c0,c1,c2,c3,c4,c5,c6,c7].flatten x:=by
 simp only[List.flatten_cons,List.flatten_nil,List.append_nil]
 exact⟨noB,(λ b=>g2 b\/(λ b=>g3 b\/g4 b) b),c0,_,λ _ h=>h.elim,λ _ h=>h,λ _ h=>h.elim,rfl,h0,⟨noB,(λ b=>g2 b\/(λ b=>g3 b\/g4 b) b),c1,_,λ _ h=>h.elim,λ _ h=>h,λ _ h=>h.elim,rfl,h1,⟨g2,(λ b=>g3 b\/g4 b),c2,_,λ _ h=>.inl h,λ _ h=>.inr h,d2,rfl,h2,⟨g3,g4,c3,_,λ _ h=>.inl h,λ _ h=>.inr h,d3,rfl,h3,⟨g4,noB,c4,_,λ _ h=>h,λ _ h=>h.elim,λ _ _ h=>h,rfl,h4,⟨noB,noB,c5,_,λ _ h=>h.elim,λ _ h=>h.elim,λ _ _ h=>h,rfl,h5,⟨noB,noB,c6,_,λ _ h=>h.elim,λ _ h=>h.elim,λ _ _ h=>h,rfl,h6,h7⟩⟩⟩⟩⟩⟩⟩
@[reducible] def owGModR (a5:Ow (List GAttr)):Ow GMod:=Ow.via (λ(x:GMod)=>((x.name,x.kind,x.roots,x.cached,x.done,x.attrs):Str×Int×List Int×Bool×Bool×List GAttr)) (Ow.pr (Ow.frz (α:=Str)) (Ow.pr (Ow.frz (α:=Int)) (Ow.pr (Ow.frz (α:=List Int)) (Ow.pr (Ow.frz (α:=Bool)) (Ow.pr (Ow.frz (α:=Bool)) a5)))))
theorem owGModR.f0{a5:Ow (List GAttr)}:FldW (owGModR a5) (Ow.frz (α:=Str)) (λ x:GMod=>x.name) (λ y x=>{ x with name:=y }) 0:=⟨λ h=>(FldW.fst).foc (α:=Str×Int×List Int×Bool×Bool×List GAttr) h⟩
theorem owGModR.f1{a5:Ow (List GAttr)}:FldW (owGModR a5) (Ow.frz (α:=Int)) (λ x:GMod=>x.kind) (λ y x=>{ x with kind:=y }) 1:=⟨λ h=>((FldW.snd FldW.fst)).foc (α:=Str×Int×List Int×Bool×Bool×List GAttr) h⟩
theorem owGModR.f2{a5:Ow (List GAttr)}:FldW (owGModR a5) (Ow.frz (α:=List Int)) (λ x:GMod=>x.roots) (λ y x=>{ x with roots:=y }) 2:=⟨λ h=>((FldW.snd (FldW.snd FldW.fst))).foc (α:=Str×Int×List Int×Bool×Bool×List GAttr) h⟩
theorem owGModR.f3{a5:Ow (List GAttr)}:FldW (owGModR a5) (Ow.frz (α:=Bool)) (λ x:GMod=>x.cached) (λ y x=>{ x with cached:=y }) 3:=⟨λ h=>((FldW.snd (FldW.snd (FldW.snd FldW.fst)))).foc (α:=Str×Int×List Int×Bool×Bool×List GAttr) h⟩
theorem owGModR.f4{a5:Ow (List GAttr)}:FldW (owGModR a5) (Ow.frz (α:=Bool)) (λ x:GMod=>x.done) (λ y x=>{ x with done:=y }) 4:=⟨λ h=>((FldW.snd (FldW.snd (FldW.snd (FldW.snd FldW.fst))))).foc (α:=Str×Int×List Int×Bool×Bool×List GAttr) h⟩
theorem owGModR.f5{a5:Ow (List GAttr)}:FldW (owGModR a5) a5 (λ x:GMod=>x.attrs) (λ y x=>{ x with attrs:=y }) 5:=⟨λ h=>((FldW.snd (FldW.snd (FldW.snd (FldW.snd (FldW.snd FldW.id)))))).foc (α:=Str×Int×List Int×Bool×Bool×List GAttr) h⟩
theorem owGModR.z{a5:Ow (List GAttr)}(h5:∀ (M:Nat->Prop) (w:World),a5.ro M noB w xN [])(M:Nat->Prop)(w:World):(owGModR a5).ro M noB w zcGMod zGMod:=(Ow.pr_z (a:=(Ow.frz (α:=Str))) (YM M w) (Ow.pr_z (a:=(Ow.frz (α:=Int))) (jb M w) (Ow.pr_z (a:=(Ow.frz (α:=List Int))) (zrLst M w) (Ow.pr_z (a:=(Ow.frz (α:=Bool))) (Y1 M w) (Ow.pr_z (a:=(Ow.frz (α:=Bool))) (Y1 M w) (h5 M w))))))
theorem owGModR.mk{M:Nat->Prop}{w:World}{x:GMod}{g5:Nat->Prop}{a5:Ow (List GAttr)}{c0:List Value}{c1:List Value}{c2:List Value}{c3:List Value}{c4:List Value}{c5:List Value}(h0:Rep.rdc M w c0 x.name)(h1:Rep.rdc M w c1 x.kind)(h2:Rep.rdc M w c2 x.roots)(h3:Rep.rdc M w c3 x.cached)(h4:Rep.rdc M w c4 x.done)(h5:a5.ro M g5 w c5 x.attrs)  : (owGModR a5).ro M g5 w [c0,c1,c2,c3,c4,c5].flatten x:=by
 simp only[List.flatten_cons,List.flatten_nil,List.append_nil]
 exact⟨noB,g5,c0,_,λ _ h=>h.elim,λ _ h=>h,λ _ h=>h.elim,rfl,h0,⟨noB,g5,c1,_,λ _ h=>h.elim,λ _ h=>h,λ _ h=>h.elim,rfl,h1,⟨noB,g5,c2,_,λ _ h=>h.elim,λ _ h=>h,λ _ h=>h.elim,rfl,h2,⟨noB,g5,c3,_,λ _ h=>h.elim,λ _ h=>h,λ _ h=>h.elim,rfl,h3,⟨noB,g5,c4,_,λ _ h=>h.elim,λ _ h=>h,λ _ h=>h.elim,rfl,h4,h5⟩⟩⟩⟩⟩
@[reducible] def owGResultR (a3:Ow (List GMod)):Ow GResult:=Ow.via (λ(x:GResult)=>((x.ends,x.out,x.log,x.modules,x.left):List Int×List Int×List GEvent×List GMod×Int)) (Ow.pr (Ow.frz (α:=List Int)) (Ow.pr (Ow.frz (α:=List Int)) (Ow.pr (Ow.frz (α:=List GEvent)) (Ow.pr a3 (Ow.frz (α:=Int))))))
theorem owGResultR.f0{a3:Ow (List GMod)}:FldW (owGResultR a3) (Ow.frz (α:=List Int)) (λ x:GResult=>x.ends) (λ y x=>{ x with ends:=y }) 0:=⟨λ h=>(FldW.fst).foc (α:=List Int×List Int×List GEvent×List GMod×Int) h⟩
theorem owGResultR.f1{a3:Ow (List GMod)}:FldW (owGResultR a3) (Ow.frz (α:=List Int)) (λ x:GResult=>x.out) (λ y x=>{ x with out:=y }) 1:=⟨λ h=>((FldW.snd FldW.fst)).foc (α:=List Int×List Int×List GEvent×List GMod×Int) h⟩
theorem owGResultR.f2{a3:Ow (List GMod)}:FldW (owGResultR a3) (Ow.frz (α:=List GEvent)) (λ x:GResult=>x.log) (λ y x=>{ x with log:=y }) 2:=⟨λ h=>((FldW.snd (FldW.snd FldW.fst))).foc (α:=List Int×List Int×List GEvent×List GMod×Int) h⟩
theorem owGResultR.f3{a3:Ow (List GMod)}:FldW (owGResultR a3) a3 (λ x:GResult=>x.modules) (λ y x=>{ x with modules:=y }) 3:=⟨λ h=>((FldW.snd (FldW.snd (FldW.snd FldW.fst)))).foc (α:=List Int×List Int×List GEvent×List GMod×Int) h⟩
theorem owGResultR.f4{a3:Ow (List GMod)}:FldW (owGResultR a3) (Ow.frz (α:=Int)) (λ x:GResult=>x.left) (λ y x=>{ x with left:=y }) 4:=⟨λ h=>((FldW.snd (FldW.snd (FldW.snd (FldW.snd FldW.id))))).foc (α:=List Int×List Int×List GEvent×List GMod×Int) h⟩
theorem owGResultR.z{a3:Ow (List GMod)}(h3:∀ (M:Nat->Prop) (w:World),a3.ro M noB w xN [])(M:Nat->Prop)(w:World):(owGResultR a3).ro M noB w zcGResult zGResult:=(Ow.pr_z (a:=(Ow.frz (α:=List Int))) (zrLst M w) (Ow.pr_z (a:=(Ow.frz (α:=List Int))) (zrLst M w) (Ow.pr_z (a:=(Ow.frz (α:=List GEvent))) (zrLst M w) (Ow.pr_z (a:=a3) (h3 M w) (jb M w)))))
theorem owGResultR.mk{M:Nat->Prop}{w:World}{x:GResult}{g3:Nat->Prop}{a3:Ow (List GMod)}{c0:List Value}{c1:List Value}{c2:List Value}{c3:List Value}{c4:List Value}(h0:Rep.rdc M w c0 x.ends)(h1:Rep.rdc M w c1 x.out)(h2:Rep.rdc M w c2 x.log)(h3:a3.ro M g3 w c3 x.modules)(h4:Rep.rdc M w c4 x.left)  : (owGResultR a3).ro M g3 w [c0,c1,c2,c3,c4].flatten x:=by
 simp only[List.flatten_cons,List.flatten_nil,List.append_nil]
 exact⟨noB,g3,c0,_,λ _ h=>h.elim,λ _ h=>h,λ _ h=>h.elim,rfl,h0,⟨noB,g3,c1,_,λ _ h=>h.elim,λ _ h=>h,λ _ h=>h.elim,rfl,h1,⟨noB,g3,c2,_,λ _ h=>h.elim,λ _ h=>h,λ _ h=>h.elim,rfl,h2,⟨g3,noB,c3,_,λ _ h=>h,λ _ h=>h.elim,λ _ _ h=>h,rfl,h3,h4⟩⟩⟩⟩
@[reducible] def owMachine (a4:Ow (List (Bx GMod))) (a5:Ow (List Int)) (a6:Ow (List GEvent)) (a7:Ow (List Str)):Ow Machine:=Ow.via (λ(x:Machine)=>((x.t,x.path,x.known,x.load,x.modules,x.out,x.log,x.part,x.left):Tree×List Int×Nilf×FnV File (List Stmt)×List (Bx GMod)×List Int×List GEvent×List Str×Int)) (Ow.pr (Ow.frz (α:=Tree)) (Ow.pr (Ow.frz (α:=List Int)) (Ow.pr (Ow.frz (α:=Nilf)) (Ow.pr (Ow.frz (α:=FnV File (List Stmt))) (Ow.pr a4 (Ow.pr a5 (Ow.pr a6 (Ow.pr a7 (Ow.frz (α:=Int))))))))))
theorem owMachine.f0{a4:Ow (List (Bx GMod))}{a5:Ow (List Int)}{a6:Ow (List GEvent)}{a7:Ow (List Str)}:FldW (owMachine a4 a5 a6 a7) (Ow.frz (α:=Tree)) (λ x:Machine=>x.t) (λ y x=>{ x with t:=y }) 0:=⟨λ h=>(FldW.fst).foc (α:=Tree×List Int×Nilf×FnV File (List Stmt)×List (Bx GMod)×List Int×List GEvent×List Str×Int) h⟩
theorem owMachine.f1{a4:Ow (List (Bx GMod))}{a5:Ow (List Int)}{a6:Ow (List GEvent)}{a7:Ow (List Str)}:FldW (owMachine a4 a5 a6 a7) (Ow.frz (α:=List Int)) (λ x:Machine=>x.path) (λ y x=>{ x with path:=y }) 1:=⟨λ h=>((FldW.snd FldW.fst)).foc (α:=Tree×List Int×Nilf×FnV File (List Stmt)×List (Bx GMod)×List Int×List GEvent×List Str×Int) h⟩
theorem owMachine.f2{a4:Ow (List (Bx GMod))}{a5:Ow (List Int)}{a6:Ow (List GEvent)}{a7:Ow (List Str)}:FldW (owMachine a4 a5 a6 a7) (Ow.frz (α:=Nilf)) (λ x:Machine=>x.known) (λ y x=>{ x with known:=y }) 2:=⟨λ h=>((FldW.snd (FldW.snd FldW.fst))).foc (α:=Tree×List Int×Nilf×FnV File (List Stmt)×List (Bx GMod)×List Int×List GEvent×List Str×Int) h⟩
theorem owMachine.f3{a4:Ow (List (Bx GMod))}{a5:Ow (List Int)}{a6:Ow (List GEvent)}{a7:Ow (List Str)}:FldW (owMachine a4 a5 a6 a7) (Ow.frz (α:=FnV File (List Stmt))) (λ x:Machine=>x.load) (λ y x=>{ x with load:=y }) 3:=⟨λ h=>((FldW.snd (FldW.snd (FldW.snd FldW.fst)))).foc (α:=Tree×List Int×Nilf×FnV File (List Stmt)×List (Bx GMod)×List Int×List GEvent×List Str×Int) h⟩
theorem owMachine.f4{a4:Ow (List (Bx GMod))}{a5:Ow (List Int)}{a6:Ow (List GEvent)}{a7:Ow (List Str)}:FldW (owMachine a4 a5 a6 a7) a4 (λ x:Machine=>x.modules) (λ y x=>{ x with modules:=y }) 4:=⟨λ h=>((FldW.snd (FldW.snd (FldW.snd (FldW.snd FldW.fst))))).foc (α:=Tree×List Int×Nilf×FnV File (List Stmt)×List (Bx GMod)×List Int×List GEvent×List Str×Int) h⟩
theorem owMachine.f5{a4:Ow (List (Bx GMod))}{a5:Ow (List Int)}{a6:Ow (List GEvent)}{a7:Ow (List Str)}:FldW (owMachine a4 a5 a6 a7) a5 (λ x:Machine=>x.out) (λ y x=>{ x with out:=y }) 5:=⟨λ h=>((FldW.snd (FldW.snd (FldW.snd (FldW.snd (FldW.snd FldW.fst)))))).foc (α:=Tree×List Int×Nilf×FnV File (List Stmt)×List (Bx GMod)×List Int×List GEvent×List Str×Int) h⟩
theorem owMachine.f6{a4:Ow (List (Bx GMod))}{a5:Ow (List Int)}{a6:Ow (List GEvent)}{a7:Ow (List Str)}:FldW (owMachine a4 a5 a6 a7) a6 (λ x:Machine=>x.log) (λ y x=>{ x with log:=y }) 6:=⟨λ h=>((FldW.snd (FldW.snd (FldW.snd (FldW.snd (FldW.snd (FldW.snd FldW.fst))))))).foc (α:=Tree×List Int×Nilf×FnV File (List Stmt)×List (Bx GMod)×List Int×List GEvent×List Str×Int) h⟩
theorem owMachine.mk{M:Nat->Prop}{w:World}{x:Machine}{g4:Nat->Prop}{a4:Ow (List (Bx GMod))}{g5:Nat->Prop}{a5:Ow (List Int)}{g6:Nat->Prop}{a6:Ow (List GEvent)}{g7:Nat->Prop}{a7:Ow (List Str)}{c0:List Value}{c1:List Value}{c2:List Value}{c3:List Value}{c4:List Value}{c5:List Value}{c6:List Value}{c7:List Value}{c8:List Value}(h0:Rep.rdc M w c0 x.t)(h1:Rep.rdc M w c1 x.path)(h2:Rep.rdc M w c2 x.known)(h3:Rep.rdc M w c3 x.load)(h4:a4.ro M g4 w c4 x.modules)(h5:a5.ro M g5 w c5 x.out)(h6:a6.ro M g6 w c6 x.log)(h7:a7.ro M g7 w c7 x.part)(h8:Rep.rdc M w c8 x.left)(d4:∀ b,g4 b->¬ (λ b=>g5 b\/(λ b=>g6 b\/g7 b) b) b)(d5:∀ b,g5 b->¬ (λ b=>g6 b\/g7 b) b)(d6:∀ b,g6 b->¬ g7 b):(owMachine a4 a5 a6 a7).ro M (λ b=>g4 b\/(λ b=>g5 b\/(λ b=>g6 b\/g7 b) b) b) w [c0,c1,c2,c3,c4,c5,c6,c7,c8].flatten x:=by
 simp only[List.flatten_cons,List.flatten_nil,List.append_nil]
 exact⟨noB,(λ b=>g4 b\/(λ b=>g5 b\/(λ b=>g6 b\/g7 b) b) b),c0,_,λ _ h=>h.elim,λ _ h=>h,λ _ h=>h.elim,rfl,h0,⟨noB,(λ b=>g4 b\/(λ b=>g5 b\/(λ b=>g6 b\/g7 b) b) b),c1,_,λ _ h=>h.elim,λ _ h=>h,λ _ h=>h.elim,rfl,h1,⟨noB,(λ b=>g4 b\/(λ b=>g5 b\/(λ b=>g6 b\/g7 b) b) b),c2,_,λ _ h=>h.elim,λ _ h=>h,λ _ h=>h.elim,rfl,h2,⟨noB,(λ b=>g4 b\/(λ b=>g5 b\/(λ b=>g6 b\/g7 b) b) b),c3,_,λ _ h=>h.elim,λ _ h=>h,λ _ h=>h.elim,rfl,h3,⟨g4,(λ b=>g5 b\/(λ b=>g6 b\/g7 b) b),c4,_,λ _ h=>.inl h,λ _ h=>.inr h,d4,rfl,h4,⟨g5,(λ b=>g6 b\/g7 b),c5,_,λ _ h=>.inl h,λ _ h=>.inr h,d5,rfl,h5,⟨g6,g7,c6,_,λ _ h=>.inl h,λ _ h=>.inr h,d6,rfl,h6,⟨g7,noB,c7,_,λ _ h=>h,λ _ h=>h.elim,λ _ _ h=>h,rfl,h7,h8⟩⟩⟩⟩⟩⟩⟩⟩
instance:Inhabited Machine:=⟨⟨default,[],⟨⟩,default,[],[],[],[],0⟩⟩
instance:Inhabited Warmth:=⟨⟨false,default,default,[],0⟩⟩
instance:Inhabited Runner:=⟨⟨default,[],[],[],[],0,0,default⟩⟩
open Go.RowKit
section
variable{P:Program}{F:Frm}{N:Nat}{M0 M:Nat->Prop}{Gs:List (Nat->Prop)}{L L2:Env}{O O2:List (Nat×Nat×Dt)}{a:Act}{w w0:World}{Q:Exit->Act->World->Prop}{ops:Array Oper}{o:Oper}{listed:Array Bool}{f i d:Nat}{S:World->Prop}
variable{α:Type}[Rep α]
end
end Go.Proofs.YtiiiokblnnlapaaGreatDoor
