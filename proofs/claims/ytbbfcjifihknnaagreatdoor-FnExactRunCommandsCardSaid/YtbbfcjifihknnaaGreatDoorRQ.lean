import Derived.Test.YtbbfcjifihknnaaGreatDoorRO
namespace Go.Proofs.YtbbfcjifihknnaaGreatDoor
open Go.RowKit
variable{a:Act}{listed:Array Bool}{ops:Array Oper}{ts:Array TypeId}{cf:CF}{L L2:Env}{Q:Exit->Act->World->Prop}{F:Frm}{f:FuncId}{x y:GMod}{T:List (List Nat)}{Gs:List (Nat->Prop)}{O O2:List (Nat×Nat×Dt)}{rs xr:List Dt}{r:List Int}{ks qs:List Nat}{rest:List Oper}{l:List Operand}{cy:List Value}{N b d g i k off p p2 sb:Nat}{G G0 G1 G3 M M' M0:Nat->Prop}{o:Oper}{q vo:Operand}{P:Program}{e t ty:TypeId}{v0:Value}{w w0:World}{S:World->Prop}
section
variable{α:Type}[Rep α]
end
section
variable{α β:Type}[Rep α][Rep β]
def RetTk(M0:Nat->Prop)(w:World)(G:Nat->Prop)(r:Rd):Ending->World->Prop:=λ en w'=>
 ∃ u Gr,en=.returned u/\Grown G w w'/\(∀ b,Gr b->G b\/w.heap.size<=b)/\(∀ b,Gr b->b<w'.heap.size)/\r.rd (λ b=>M0 b\/Gr b) Gr w' u
variable{fn:Func}
theorem Sx.rtC{ow:Ow α}{t:Nat}{x:Bx α}{r:α}(h:Sx (Frm.chg w0 G0) N M0 M Gs L O a w)(p:Nat)(hr:fn.results=#[.cell t ty])(ht:tyB P ty (Rep.agg α) (Rep.size α)=true)(hl:(L++envO O).lookup t=some (dnm ow.box G x v0 cf))(hG:∀ b,G b->zj Gs p b)(hm:some x.x=some r):bodyPost P fn (RetTk M0 w0 G0 (.ow ow r)) .ret a w:=by
 injection hm with hm;subst hm;obtain⟨h1,⟨cs,⟨b,C,e,Gr,hc,hb,hGb,hn,hs,hro⟩,h3⟩,_⟩:=h.st.has t _ hl;have hrr:=ow.toR hro;have hc':∀ j u,C.toList[j]?=some u->w.cell? ⟨b,0+j,none⟩=some u:=λ j u hj=>by
  rw[Nat.zero_add];have:C[j]?=some u:=by simpa using hj
  simp[World.cell?,hb,this]
 have hld:=yU ht (Rep.len hrr) Rep.one hc';have hv:Act.at a t=.pointer (some ⟨b,0,none⟩):=by rw[h1,h3,hc];rfl
 refine⟨h.st.defers,mkv (Rep.agg α) C.toList,?_,_,Gr,Z,h.st.fr,λ k hk=>(h.ob.at_ p k (hG k (hs k hk))).1,λ k hk=>h.st.mok k (h.ob.at_ p k (hG k (hs k hk))).2.1,⟨_,ow.weak hro λ k _ hk=>hk.elim (h.ob.sub k) λ hk=>(h.ob.at_ p k (hG k (hs k hk))).2.1,Z⟩⟩;have h2:a.tmps.getD t undef=.pointer (some ⟨b,0,none⟩):=hv;simp only[results,hr];simp at h2;simp[h2,asAddr,hld]
end
structure Kn where
 d:Disk
 f:Finder
instance:Inhabited Kn:=⟨⟨default,default⟩⟩
instance:Rep Kn where
 size:=1
 agg:=false
 rdc M w cs y:=∃ F vp vd,cs=[.func (.func F) #[] #[vp,vd]]/\(dptr y.f).rd M w vp/\(dptr y.d).rd M w vd
 len:=λ⟨_,_,_,h,_⟩=>by rw[h];rfl
 one _:=rfl
 pos:=Nat.one_pos
 oneCell:=λ⟨_,_,_,h,_⟩ c hc=>by
  rw[h] at hc;simp at hc;subst hc;rfl
 stable:=λ⟨F,vp,vd,h,h1,h2⟩ e=>⟨F,vp,vd,h,(dptr _).stable h1 e,(dptr _).stable h2 e⟩
 weak:=λ⟨F,vp,vd,h,h1,h2⟩ e=>⟨F,vp,vd,h,(dptr _).weak h1 e,(dptr _).weak h2 e⟩
def Ow.clo(F:FuncId)(o:Ow Finder):Ow Kn where
 ro M G w cs y:=∃ b vd,cs=[.func (.func F) #[] #[ptrB b,vd]]/\o.box.ro M G w [ptrB b] ⟨y.f⟩/\(dptr y.d).rd M w vd
 toR:=λ⟨b,vd,h,h1,h2⟩=>⟨F,ptrB b,vd,h,by
  obtain⟨v,hv,hr⟩:=o.box.toR h1;injection hv with hv;rw[hv];exact hr,(dptr _).weak h2 λ _ _ hk=>hk.1⟩
 stable:=λ⟨b,vd,h,h1,h2⟩ e=>⟨b,vd,h,o.box.stable h1 e,(dptr _).stable h2 e.mono⟩
 weak:=λ⟨b,vd,h,h1,h2⟩ e=>⟨b,vd,h,o.box.weak h1 e,(dptr _).weak h2 e⟩
 more:=λ⟨b,vd,h,h1,h2⟩ e=>⟨b,vd,h,o.box.more h1 e,h2⟩
section
variable{fn:Func}{look:Nat->Option Dt}
variable{α β:Type}[Rep α][Rep β]
end
section
variable{fn:Func}{look:Nat->Option Dt}
variable{α β:Type}[Rep α][Rep β]
theorem PH.cap{ow:Ow α}{oy:Ow β}{e:TypeId}{x:α}{v0:Value}{cf:CF}{b off n cap:Nat}{A:Option Addr}{ys:List β}{upd:List β->α}{c:Bool}{G:Nat->Prop}{v:Value}(hP:PH ow x v0 cf (Ow.row e oy) b off ys upd)(hm:(c,b,off,.slice A n cap)∈cf)(hc:c=true)(h:(dnm ow G x v0 cf).rd M w v):n=ys.length/\n<=cap:=by
 obtain⟨_,⟨cs,h2,h3⟩,h4⟩:=h;obtain⟨C,e',hh,hsz,_,G1,G2,_,_,_,_,_,hr,_⟩:=(hP.of h2 h3 h4).here;obtain⟨v,hv,h5⟩:=hr;have e1:w.cell? ⟨b,off,none⟩=some (.slice A n cap):=JL Z (h4 _ hm hc).2.2;have e2:w.cell? ⟨b,off,none⟩=some v:=by simp[World.cell?,hh,Ws hv]
 have e3:Value.slice A n cap=v:=Option.some.inj (e1.symm.trans e2);rcases h5 with⟨g,cap',cur,Gr,hg,_,hcap,_⟩ | ⟨hx,A',hA⟩
 ·rw[hg] at e3;injection e3 with e4 e5 e6;subst e5;subst e6;exact⟨Z,hcap⟩
 ·rw[hA] at e3;injection e3 with e4 e5 e6;subst e5;subst e6;subst hx;exact⟨Z,Nat.le_refl _⟩
end
section
variable{α β γ:Type}[Rep α][Rep β][Rep γ]
variable{fn:Func}{look:Nat->Option Dt}
end
section
variable{fn:Func}{look:Nat->Option Dt}
variable{α β:Type}[Rep α][Rep β]
theorem Sx.stN{ow ow2:Ow α}{oy:Ow β}{q:Nat}{x x2:α}{y':β}(h:Sx F N M0 M Gs L O a w)(p:Nat)(ho:o.op=.store t (.tmp q) vo)(hgd:o.guard=none)(hd:o.dst=none)(ht:tyB P t (Rep.agg β) (Rep.size β)=true)(hp:p<Gs.length)
  (hq':Act.at a q=.pointer (some ⟨b,off,none⟩)) (hcv:(a.eval vo).cells.toList=cy) (hy:oy.ro M G3 w cy y') (hs:(L++envO O).lookup sb=some (dnm ow.box G ⟨x⟩ (.pointer (some ⟨b,0,none⟩)) cf)) (hG:∀ b,G b->zj Gs p b) (hG3:∀ b,G3 b->¬ zj Gs p b) (hoff:off+Rep.size β<=Rep.size α)
  (hnew:∀ {M G1 G3:Nat->Prop} {w:World} {cells:List Value},ow.ro M G1 w cells x->oy.ro M G3 w cy y'->(∀ k,G1 k->¬ G3 k)->ow2.ro M (λ k=>G1 k\/G3 k) w (cells.take off++cy++cells.drop (off+Rep.size β)) x2)
  (ks:List Nat) (hk:selP ks L=some L2) (qs:List Nat) (hq:selR L O qs p=some O2)
  (next:∀ w',Sx F N M0 M Gs L2 O2 a w'->(dnm ow2.box (λ k=>G k\/G3 k) ⟨x2⟩ (.pointer (some ⟨b,0,none⟩)) []).rd M w' (Act.at a sb)->wpList P ops Q rest a w'):wpList P ops Q (o::rest) a w:=by
 obtain⟨h1,⟨cs,⟨b',C,e,Gr,hc,hh,hGb,hn,hsub,hro⟩,h3⟩,_⟩:=h.st.has sb _ hs;have hb:b'=b:=by
  rw[hc] at h3;have h3:Value.pointer (some ⟨b,0,none⟩)=.pointer (some ⟨b',0,none⟩):=h3;injection h3 with h3;injection h3 with h3;injection h3 with h3;exact h3.symm
 subst hb;have hcl:cy.length=Rep.size β:=oy.len hy;have hCl:C.toList.length=Rep.size α:=ow.len hro;have hCs:C.size=Rep.size α:=by rw[← Array.length_toList];exact hCl
 have hone:=oy.one hy;have hob:=hG b' hGb;have hMb:=(h.ob.at_ p b' hob).2.1;have hrun:=w9 (P:=P) (w:=w) (t:=t) (off:=off) (v:=a.eval vo) (cs:=cy) (by rw[hcl];exact ht) hcv hh (by rw[hcl,hCs];exact hoff) hone;generalize hC':(C.toList.take off++cy++C.toList.drop (off+cy.length)).toArray=C' at hrun;have hw':(w.setRow b' C').heap[b']?=some (.cells C' e (0,0)):=setRow_heap w b' C C' e (0,0) hh;have hsame:∀ k,k≠b'->(w.setRow b' C').heap[k]?=w.heap[k]?:=λ k hk=>setRow_other w b' k _ hk
 have hgr:Grown (zj Gs p) w (w.setRow b' C'):=(Grown.of_grownBy (jD (b:=b'))).mono λ k (hk:some b'=some k)=>by
  injection hk with hk;rw[← hk];exact hob
 have hL:∀ G5:Nat->Prop,¬ G5 b'->Same M G5 w (w.setRow b' C'):=λ G5 hn5 k _ hm=>hsame k λ e=>hm.elim (λ hm=>hm (e ▸ hMb)) λ h2=>hn5 (e ▸ h2)
 have nb3:¬ G3 b':=λ h3=>hG3 b' h3 hob
 refine wpList_plain hgd λ K hK=>OpOut.wp (OpOut.of_skip (w':=w.setRow b' C') ?_ ?_)
 ·unfold execOp;rw[ho];have hpv':a.eval (.tmp q)=.pointer (some ⟨b',off,none⟩):=hq';simp only[Instr.storeAt,Instr.sureAddr,hpv',Sem.run_bind,Sem.run_pure,Result.andThen_ok,hrun]
 ·rw[hd];refine hK _ _ (next _ (h.mut hp hgr hk hq) ⟨h1,⟨_,⟨b',C',e,λ k=>Gr k\/G3 k,Z,hw',.inl hGb,λ h=>h.elim hn nb3,λ k hk=>hk.imp (hsub k) id,?_⟩,Z⟩,λ q hq _=>by cases hq⟩);have:=hnew (ow.stable hro (hL Gr hn)) (oy.stable hy (hL G3 nb3)) λ k hk hk2=>hG3 k hk2 (hG k (hsub k hk))
  have e1:C'.toList=C.toList.take off++cy++C.toList.drop (off+Rep.size β):=by rw[← hC',List.toList_toArray,hcl]
  show ow2.ro M _ _ C'.toList x2;rw[e1];exact this
theorem Sx.stFz{ow ow2:Ow α}{x y:α}(h:Sx F N M0 M Gs L O a w)(p:Nat)(hz:∀ {M:Nat->Prop} {w:World} {cs:List Value},Rep.rdc M w cs y->ow2.ro M noB w cs y)(ho:o.op=.store t (.tmp sb) vo)(hgd:o.guard=none)(hd:o.dst=none)(ht:tyB P t (Rep.agg α) (Rep.size α)=true)
  (hs:(L++envO O).lookup sb=some (dnm ow.box G ⟨x⟩ (.pointer (some ⟨b,0,none⟩)) cf)) (hvl:OpdR M (λ s=>(L++envO O).lookup s) vo (dt y)) (hG:∀ b,G b->zj Gs p b)
  (ks:List Nat) (hk:selP ks L=some L2) (qs:List Nat) (hq:selR L O qs p=some O2) (hsn:L2.lookup sb=none)
  (next:∀ w',Sx F N M0 M Gs L2 ((sb,p,dnm ow2.box G ⟨y⟩ (.pointer (some ⟨b,0,none⟩)) [])::O2) a w'->wpList P ops Q rest a w')(hp:p<Gs.length:=by simp):wpList P ops Q (o::rest) a w:=by
 have hy:=X7 (hvl w a λ s y hs=>h.st.has s y hs);refine h.stN (ow2:=ow2) (oy:=Ow.frz) (G3:=noB) (x2:=y) (off:=0) p ho hgd hd ht hp (h.st.has sb _ hs).1 Z hy hs hG (λ _ h=>h.elim) (by omega) (λ{M G1 G3 w cells} h1 h2 _=>?_) ks hk qs hq λ w' st hr=>next w' (st.addO hsn ?_ hG)
 ·have hl:=ow.len h1;rw[List.take_zero,List.nil_append,List.drop_of_length_le (by omega),List.append_nil];exact ow2.more (hz h2) λ _ h=>h.elim
 ·have e:(λ k=>G k\/noB k)=G:=by funext k;simp[noB]
  rwa[e] at hr
theorem Sx.stTk{ow ow2:Ow α}{q tv:Nat}{x x2:α}{r:List β}(h:Sx F N M0 M Gs L O a w)(p p2:Nat)
  (hnew:∀ {M G1 G3:Nat->Prop} {w:World} {cells cy:List Value},ow.ro M G1 w cells x->(Ow.row e (Ow.frz (α:=β))).ro M G3 w cy r->(∀ k,G1 k->¬ G3 k)->ow2.ro M (λ k=>G1 k\/G3 k) w (cells.take off++cy++cells.drop (off+1)) x2)
  (ho:o.op=.store t (.tmp q) (.tmp tv)) (hgd:o.guard=none) (hd:o.dst=none) (ht:tyB P t false 1=true)   
  (hpl:OpdR M (λ s=>(L++envO O).lookup s) (.tmp q) (dis (.pointer (some ⟨b,off,none⟩)))) (hvl:(L++envO O).lookup tv=some (dow (Ow.row e (Ow.frz (α:=β))) G3 r)) (hs:(L++envO O).lookup sb=some (dnm ow.box G ⟨x⟩ (.pointer (some ⟨b,0,none⟩)) cf)) (hG:∀ b,G b->zj Gs p b) (hG3:∀ b,G3 b->zj Gs p2 b)
  (ks:List Nat) (hk:selP ks L=some L2) (qs:List Nat) (hq:selR L O qs p=some O2) (hq2:O2.all (λ q=>q.2.1 != p2)=true) (hsn:L2.lookup sb=none)
  (next:∀ G' w',Sx F N M0 M ((Gs.set p G').set p2 (oneB none)) L2 ((sb,p,dnm ow2.box G' ⟨x2⟩ (.pointer (some ⟨b,0,none⟩)) [])::O2) a w'->wpList P ops Q rest a w')(hoff:off+1<=Rep.size α:=by decide)(hp:p<Gs.length:=by simp)(hp2:p2<Gs.length:=by simp)(hne:p≠p2:=by decide):wpList P ops Q (o::rest) a w:=by
 obtain⟨cy,hy,hyv⟩:=h.st.has tv _ hvl;have hcv:(Act.at a tv).cells.toList=cy:=by rw[hyv];exact qy ((Ow.row e (Ow.frz (α:=β))).toR hy)
 refine h.stN (ow2:=ow2) (x2:=x2) (off:=off) p ho hgd hd ht hp (hpl w a λ s y hs=>h.st.has s y hs) hcv hy hs hG (λ b hb hb2=>h.ob.apart p p2 b hne hb2 (hG3 b hb)) hoff hnew ks hk qs hq λ w' st hr=>?_
 have k1:=st.mrg hp hp2 hne hq2;have ej:Qv Gs p p2=(Gs.set p (λ b=>zj Gs p b\/zj Gs p2 b)).set p2 (oneB none):=rfl;rw[ej] at k1;refine next _ w' (k1.addO (x:=dnm ow2.box (λ b=>zj Gs p b\/zj Gs p2 b) ⟨x2⟩ (.pointer (some ⟨b,0,none⟩)) []) hsn ⟨hr.1,?_,λ q hq _=>by cases hq⟩ λ c hc=>?_)
 ·obtain⟨cs,h1,h2⟩:=hr.2.1;exact⟨cs,(ow2.box).more h1 λ k hk=>hk.imp (hG k) (hG3 k),h2⟩
 ·rw[zy (Ne.symm hne),zq hp];exact hc
theorem owSpec.tk{x:Spec}{cells:List Value}(h1:(owSpec (Ow.frz (α:=List Int))).ro M G1 w cells x)(h2:(Ow.row e (Ow.frz (α:=Int))).ro M G3 w cy r)(_:∀ k,G1 k->¬ G3 k):(owSpec (Ow.row e (Ow.frz (α:=Int)))).ro M (λ k=>G1 k\/G3 k) w (cells.take 2++cy++cells.drop (2+1)) { x with roots:=r }:=by
 obtain⟨_,_,c0,r0,_,_,_,hc,k0,_,_,c1,c2,_,_,_,hc2,k1,k2⟩:=h1;have l0:c0.length=1:=Rep.len (α:=Int) k0;have l1:c1.length=1:=Rep.len (α:=Int) k1;have l2:c2.length=1:=Rep.len (α:=List Int) k2;rw[hc2] at hc;have e1:cells.take 2=c0++c1:=by rw[hc,← List.append_assoc,List.take_left' (by simp[l0,l1])]
 have e2:cells.drop (2+1)=[]:=by rw[List.drop_of_length_le];simp[hc,l0,l1,l2]
 rw[e1,e2,List.append_nil];have:=owSpec.mk (x:={ x with roots:=r }) (a2:=Ow.row e (Ow.frz (α:=Int))) k0 k1 h2;simp only[List.flatten_cons,List.flatten_nil,List.append_nil] at this;rw[List.append_assoc];exact(owSpec _).more this λ _ h=>.inr h
theorem owDir.tk{x:Dir}{r:List Str}{cells:List Value}(h1:(owDir (Ow.frz (α:=List Str))).ro M G1 w cells x)(h2:(Ow.row e (Ow.frz (α:=Str))).ro M G3 w cy r)(_:∀ k,G1 k->¬ G3 k):(owDir (Ow.row e (Ow.frz (α:=Str)))).ro M (λ k=>G1 k\/G3 k) w (cells.take 3++cy++cells.drop (3+1)) { x with names:=r }:=by
 obtain⟨_,_,c0,r0,_,_,_,hc,k0,_,_,c1,r1,_,_,_,hc1,k1,_,_,c2,c3,_,_,_,hc2,k2,k3⟩:=h1;have l0:c0.length=1:=Rep.len (α:=Int) k0;have l1:c1.length=1:=Rep.len (α:=Str) k1;have l2:c2.length=1:=Rep.len (α:=Int) k2;have l3:c3.length=1:=Rep.len (α:=List Str) k3;rw[hc1,hc2] at hc;have e1:cells.take 3=c0++(c1++c2):=by
  rw[hc,← List.append_assoc,← List.append_assoc,List.take_left' (by simp[l0,l1,l2]),List.append_assoc]
 have e2:cells.drop (3+1)=[]:=by rw[List.drop_of_length_le];simp[hc,l0,l1,l2,l3]
 rw[e1,e2,List.append_nil];have:=owDir.mk (x:={ x with names:=r }) (a3:=Ow.row e (Ow.frz (α:=Str))) k0 k1 k2 h2;simp only[List.flatten_cons,List.flatten_nil,List.append_nil] at this;rw[List.append_assoc,List.append_assoc];exact(owDir _).more this λ _ h=>.inr h
end
structure RInvK(P:Program)(F:Frm)(M:Nat->Prop)(ops:Array Oper)(N k:Nat)(T:List (List Nat))(xs:List (Nat×Dt))(s sb:Nat)(G:Nat->Prop)(Z:Dt)(a0:Act)(w1:World)(listed:Array Bool)(a:Act)(w:World):Prop where
 sz:listed.size=ops.size
 size:a.tmps.size=N
 defers:a.defers=a0.defers
 fr:F.J w
 grown:Grown G w1 w
 ext:listed.getD s false=false->Ext0 w1 w
 tail:∀ i,k<=i->listed.getD i false=false
 clos:WW T ops.size listed
 done:∀ i,i≠s->listed.getD i false=true->∀ x d,xs[i]?=some (d,x)->(listed.getD s false=false\/∀ b,x.own b->¬ G b)->x.rd M w (Act.at a d)
 rest:∀ t,(∀ i,listed.getD i false=true->yy ops i≠some t)->Act.at a t=Act.at a0 t
 z:listed.getD s false=true->Z.rd M w (Act.at a sb)
section
variable{S:List (List (Nat×Option Nat))}
end
def KD(Gs:List (Nat->Prop))(p:Nat):List Dt->Prop
 | []=>True
 | y::l=>(y.nb=true\/∃ p',p'≠p/\∀ b,y.own b->zj Gs p' b)/\KD Gs p l
theorem KD.get{Gs:List (Nat->Prop)}{p:Nat}:∀ {l:List Dt},KD Gs p l->∀ y∈l,y.nb=true\/∃ p',p'≠p/\∀ b,y.own b->zj Gs p' b
 |_::l,h,y,hy=>by
  rcases List.mem_cons.1 hy with rfl | hy
  ·exact h.1
  ·exact KD.get h.2 y hy
section
end
section
variable{fn:Func}
variable{α:Type}[Rep α]
end
theorem owFinder.tk{x:Finder}{r:List Dir}{cells:List Value}(h1:(owFinder (Ow.frz (α:=List Dir))).ro M G1 w cells x)(h2:(Ow.row e (Ow.frz (α:=Dir))).ro M G3 w cy r)(_:∀ k,G1 k->¬ G3 k):(owFinder (Ow.row e (Ow.frz (α:=Dir)))).ro M (λ k=>G1 k\/G3 k) w (cells.take 0++cy++cells.drop (0+1)) { x with dirs:=r }:=by
 obtain⟨_,_,c0,r0,_,_,_,hc,k0,_,_,c1,c2,_,_,_,hc2,k1,k2⟩:=h1;have l0:c0.length=1:=Rep.len (α:=List Dir) k0;have e2:cells.drop (0+1)=c1++c2:=by rw[hc,hc2,List.drop_left' (by omega)]
 rw[e2,List.take_zero,List.nil_append];have:=owFinder.mk (x:={ x with dirs:=r }) (a0:=Ow.row e (Ow.frz (α:=Dir))) h2 k1 k2;simp only[List.flatten_cons,List.flatten_nil,List.append_nil] at this;exact(owFinder _).more this λ _ h=>.inr h
structure FzC where
 M:Nat->Prop
 w:World
variable{c:FzC}
def Fz(c:FzC)(w:World):Prop:=∀ k,k<c.w.heap.size->¬ c.M k->w.heap[k]?=c.w.heap[k]?
theorem Fz.lt(h:Fz c w)(hk:k<c.w.heap.size)(hm:¬ c.M k):k<w.heap.size:=by
 have h1:=h k hk hm;rw[Array.getElem?_eq_getElem hk] at h1;exact(Array.getElem?_eq_some_iff.1 h1).1
def dfz(c:FzC):Dt where
 rd M w _:=(∀ k,k<c.w.heap.size->M k->c.M k)/\Fz c w
 own:=noB
 nb:=true
 nob _ _ h:=h
 stable:=λ⟨h2,h3⟩ e=>⟨h2,λ k hk hm=>(e k (h3.lt hk hm) (.inl λ h=>hm (h2 k hk h))).trans (h3 k hk hm)⟩
 weak:=λ⟨h2,h3⟩ e=>⟨λ k hk hm=>Classical.byContradiction λ hc=>hc (h2 k hk (e k (h3.lt hk hc) hm)),h3⟩
section
variable{f:Nat}
variable{α:Type}[Rep α]
theorem Sx.heldF(h:Sx F N M0 M Gs L O a w){id:Nat}(hm:P.follows .mixedOrders=true)
  (hQ:∀ (c:FzC) w',(∀ w2,Fz c w2->∀ k,k<w'.heap.size->¬ M k->w2.heap[k]?=w'.heap[k]?)->Sx F N M0 M Gs ((N,dfz c)::L) O a w'->wpAnyH P .any ops Q (Fz c) ops.size (Array.replicate ops.size false) a w'):(Code.region id ops true).wp P Q a w:=
 wp_region_held (S:=Fz ⟨M,w⟩) hm (hQ ⟨M,w⟩ _ (λ _ h=>h) (h.drew.addL (s:=N) (y:=dfz ⟨M,w⟩) ⟨λ _ _ h=>h,λ _ _ _=>Z⟩))
theorem Sx.fzS(h:Sx F N M0 M Gs L O a w)(hs:(L++envO O).lookup g=some (dfz c):=by rfl):Fz c w:=(h.st.has g _ hs).2
theorem Sx.tkLp{x:α}(h:Sx F N M0 M Gs L O a w)
   (hS:S w) (hz:∀ w2,S w2->∀ k,k<w.heap.size->¬ M k->w2.heap[k]?=w.heap[k]?)  (ht:tyB P t (Rep.agg α) (Rep.size α)=true) (hq:OpdR M (λ s=>(L++envO O).lookup s) q (dptr x))
  (next:∀ a',Sx F N M0 M Gs ((d,dt x)::L) O a' w->wpAnyH P .any ops Q S f (listed.setIfInBounds i true) a' w)(ho:ops[i]?=some o:=by rfl)(hh:opH o N=some d:=by rfl)(hs:Region.noSelect ops=true:=by decide +kernel)(hf:Region.free .any ops listed i=true:=by decide +kernel)(hr:(Region.ready .any ops listed).contains i=true:=by decide +kernel)(hQ:∀ c a w v,Q (.panic c) (a.put o.dst v) w->Q (.panic c) a w:=by exact λ _ _ _ _ h=>h)(hop:o.op=.load t q:=by rfl):wpAnyH P .any ops Q S (f+1) listed a w:=by
 obtain⟨b,off,cs,hv,hb,hc,hr2⟩:=hq w a λ s y hy=>h.st.has s y hy
 have hpos:=Rep.pos (α:=α);have hl:=Rep.len hr2;have hlt:b<w.heap.size:=by
  have h1:=hc 0 _ (List.getElem?_eq_getElem (by omega:0<cs.length));unfold World.cell? at h1;cases he:w.heap[b]? with
  | none=>simp[he] at h1
  | some v=>exact(Array.getElem?_eq_some_iff.1 he).1
 refine h.tkY (v:=mkv (Rep.agg α) cs) (y:=dt x) ho hh hs hf hr (λ c a w=>hQ c a w _) hS (λ w' hw'=>?_) ⟨cs,hr2,Z⟩ next;have hcell:∀ j u,cs[j]?=some u->w'.cell? ⟨b,off+j,none⟩=some u:=λ j u hj=>(cell_same (hz w' hw' b hlt hb)).trans (hc j u hj)
 have hld:=yU (P:=P) (w:=w') ht hl Rep.one hcell;unfold execOp;rw[hop];simp[Instr.loadAt,Instr.sureAddr,hv,hld]
theorem aH4{j l:Nat}{o2 o3 o4:Oper}(ho:ops[i]?=some o)(ho2:ops[j]?=some o2)(ho3:ops[k]?=some o3)(ho4:ops[l]?=some o4)(h:wpList P ops (QH P ops Q S f (listed.setIfInBounds i true)) [o] a w)(h2:wpList P ops (QH P ops Q S f (listed.setIfInBounds j true)) [o2] a w)(h3:wpList P ops (QH P ops Q S f (listed.setIfInBounds k true)) [o3] a w)(h4:wpList P ops (QH P ops Q S f (listed.setIfInBounds l true)) [o4] a w)(hr:Region.ready .any ops listed=[i,j,k,l]:=by decide +kernel):wpAnyH P .any ops Q S (f+1) listed a w:=
 ⟨λ e=>(by rw[hr] at e;cases e),λ q hk=>by
  rw[hr] at hk;simp only[List.mem_cons,List.not_mem_nil,or_false] at hk;rcases hk with rfl | rfl | rfl | rfl
  ·exact xY ho h
  ·exact xY ho2 h2
  ·exact xY ho3 h3
  ·exact xY ho4 h4⟩
end
section
variable{α β:Type}[Rep α][Rep β]
variable{fn:Func}
end
section
variable{fn:Func}{look:Nat->Option Dt}
variable{α β:Type}[Rep α][Rep β]
end
section
variable{α β γ:Type}[Rep α][Rep β][Rep γ]
def FnTL(P:Program)(f:FuncId)(o:Ow α)(xs:List Dt)(x:α)(r:Rd):Prop:=
 ∀
  (M0 G:Nat->Prop) (w:World) (v:Value) (vs:List Value),(∀ b,M0 b\/G b->b<w.heap.size)->(∀ b,G b->¬ M0 b)->(dow o G x).rd (λ b=>M0 b\/G b) w v->RdAll (λ b=>M0 b\/G b) w vs xs->
  Calls P f (vs++[v]).toArray w (λ en w'=>∃ u Gr,en=.returned u/\Grown G w w'/\(∀ b,Gr b->G b\/w.heap.size<=b)/\(∀ b,Gr b->b<w'.heap.size)/\r.rd (λ b=>M0 b\/Gr b) Gr w' u)
variable{fn:Func}{look:Nat->Option Dt}
theorem fnTL{oo:Ow α}{c:Code}{x:α}{r:Rd}(k p n:Nat)(hk:rs.length=k)(hf:P.funcs[f]?=some fn)(hb:fn.body=some c)(hn:k+1<=fn.ntmps)(hnb:WK (y6 0 rs)=true)
  (h:∀ (M G:Nat->Prop) (w:World) (a:Act),Sx (Frm.chg w G) fn.ntmps M (λ b=>M b\/G b) ((List.replicate n (oneB none)).set p G) (y6 0 rs) [(k,p,dow oo G x)] a w->c.wp P (bodyPost P fn (RetTk M w G r)) a w) (hp:p<n:=by decide):FnTL P f oo rs x r:=by
 intro M0 G w v vs hm hg hv hr;subst hk;have hl:=hr.len;have hat:∀ (s:Nat) (u:Value),(vs++[v])[s]?=some u->Act.at { tmps:=(vs++[v]).toArray++Array.replicate (fn.ntmps - (vs++[v]).toArray.size) undef,defers:=[] } s=u:=λ s u h2=>by
  have hj:s<(vs++[v]).length:=(List.getElem?_eq_some_iff.1 h2).1;have h5:(vs++[v]).toArray[s]?=some u:=by simpa using h2
  have hj':s<(vs++[v]).toArray.size:=by simpa using hj
  simp only[Act.at,Array.getD_eq_getD_getElem?];rw[Array.getElem?_append_left hj',h5];rfl
 have hlen:p<(List.replicate n (oneB none)).length:=by simpa using hp
 have hown:∀ q b,zj ((List.replicate n (oneB none)).set p G) q b ↔ q=p/\G b:=λ q b=>by
  by_cases hq:p=q
  ·subst hq;rw[zq hlen];simp
  ·rw[zy hq];exact⟨λ h=>(zbb h).elim,λ h=>(hq h.1.symm).elim⟩
 refine calls_of_wp hf hb (h M0 G w _ ?_);refine⟨⟨Grown.refl _ _,by simp;omega,Z,hm,λ s y hy=>?_⟩,⟨λ b hb=>.inl hb,λ q b hb=>?_,λ q r b hne h1 h2=>hne (((hown q b).1 h1).1.trans ((hown r b).1 h2).1.symm)⟩,JE hnb,⟨λ b hb=>(hown p b).2 ⟨Z,hb⟩,trivial⟩⟩
 ·rcases xb hy with h1 | ⟨_,h1⟩
  ·obtain⟨j,u,e1,e2,e3⟩:=hr.nth 0 s y h1;have hs:s=j:=by omega
   subst hs;have hj:s<vs.length:=(List.getElem?_eq_some_iff.1 e2).1;rw[hat s u (by rw[List.getElem?_append_left hj];exact e2)];exact e3
  ·simp only[envO,List.lookup_cons,List.lookup_nil] at h1;cases hb:s == rs.length with
   |true=>
    simp only[hb] at h1;injection h1 with h1;subst h1;have e:s=rs.length:=by simpa using hb
    rw[hat s v (by rw[e,← hl];simp)];exact hv
   | false=>simp only[hb] at h1;cases h1
 ·obtain⟨rfl,hb'⟩:=(hown q b).1 hb;exact⟨.inl hb',.inr hb',hg b hb'⟩
end
section
variable{fn:Func}{f:Nat}
variable{α β:Type}[Rep α][Rep β]
theorem Sx.tkNp{x:α}(h:Sx F N M0 M Gs L O a w)
   (hS:S w)  (hp:OpdR M (λ s=>(L++envO O).lookup s) q (dptr x))
  (next:∀ a',Sx F N M0 M Gs ((d,dptr x)::L) O a' w->wpAnyH P .any ops Q S f (listed.setIfInBounds i true) a' w)(ho:ops[i]?=some o:=by rfl)(hh:opH o N=some d:=by rfl)(hs:Region.noSelect ops=true:=by decide +kernel)(hf:Region.free .any ops listed i=true:=by decide +kernel)(hr:(Region.ready .any ops listed).contains i=true:=by decide +kernel)(hQ:∀ c a w v,Q (.panic c) (a.put o.dst v) w->Q (.panic c) a w:=by exact λ _ _ _ _ h=>h)(hop:o.op=.nilCheck q:=by rfl):wpAnyH P .any ops Q S (f+1) listed a w:=by
 unfold OpdR at hp;obtain⟨b,off,cs,hv,hb,hc,hr2⟩:=hp w a λ s y hy=>h.st.has s y hy
 exact h.tkY (v:=.pointer (some ⟨b,off,none⟩)) (y:=dptr x) ho hh hs hf hr (λ c a w=>hQ c a w _) hS (yNc hop hv) ⟨b,off,cs,Z,hb,hc,hr2⟩ next
end
section
variable{α β γ:Type}[Rep α][Rep β][Rep γ]
variable{look:Nat->Option Dt}
end
theorem owGMod.ofR{cs:List Value}(h:Rep.rdc M w cs y):(owGMod (Ow.frz (α:=List Int)) (Ow.frz (α:=List GAttr))).ro M noB w cs y:=by
 obtain⟨c0,r0,hc,k0,c1,r1,hc1,k1,c2,r2,hc2,k2,c3,r3,hc3,k3,c4,c5,hc4,k4,k5⟩:=h;have E:∀ b,noB b->noB b:=λ _ h=>h
 have D:∀ b,noB b->¬ noB b:=λ _ h=>h.elim
 exact⟨noB,noB,c0,r0,E,E,D,hc,k0,noB,noB,c1,r1,E,E,D,hc1,k1,noB,noB,c2,r2,E,E,D,hc2,k2,noB,noB,c3,r3,E,E,D,hc3,k3,noB,noB,c4,c5,E,E,D,hc4,k4,k5⟩
theorem owGMod.tk2{cells:List Value}(h1:(owGMod (Ow.frz (α:=List Int)) (Ow.frz (α:=List GAttr))).ro M G1 w cells x)(h2:(Ow.row e (Ow.frz (α:=Int))).ro M G3 w cy r)(_:∀ k,G1 k->¬ G3 k):(owGMod (Ow.row e (Ow.frz (α:=Int))) (Ow.frz (α:=List GAttr))).ro M (λ k=>G1 k\/G3 k) w (cells.take 2++cy++cells.drop (2+1)) { x with roots:=r }:=by
 obtain⟨_,_,c0,r0,_,_,_,hc,k0,_,_,c1,r1,_,_,_,hc1,k1,_,_,c2,r2,_,_,_,hc2,k2,_,_,c3,r3,_,_,_,hc3,k3,_,_,c4,c5,_,_,_,hc4,k4,k5⟩:=h1;have l0:c0.length=1:=Rep.len (α:=Str) k0;have l1:c1.length=1:=Rep.len (α:=Int) k1;have l2:c2.length=1:=Rep.len (α:=List Int) k2;rw[hc1,hc2,hc3,hc4] at hc;have e1:cells.take 2=c0++c1:=by rw[hc,← List.append_assoc,List.take_left' (by simp[l0,l1])]
 have e2:cells.drop (2+1)=c3++(c4++c5):=by rw[hc,← List.append_assoc,← List.append_assoc,List.drop_left' (by simp[l0,l1,l2])]
 have:=owGMod.mk (x:={ x with roots:=r }) (a2:=Ow.row e (Ow.frz (α:=Int))) (a5:=Ow.frz (α:=List GAttr)) (g5:=noB) k0 k1 h2 k3 k4 k5 (λ _ _ h=>h);simp only[List.flatten_cons,List.flatten_nil,List.append_nil] at this;rw[e1,e2,List.append_assoc,List.append_assoc];exact(owGMod _ _).more this λ _ h=>h.elim .inr λ h=>h.elim
theorem owGMod.tk5{e2:TypeId}{r:List GAttr}{cells:List Value}(h1:(owGMod (Ow.row e2 (Ow.frz (α:=Int))) (Ow.frz (α:=List GAttr))).ro M G1 w cells x)(h2:(Ow.row e (Ow.frz (α:=GAttr))).ro M G3 w cy r)(hd:∀ k,G1 k->¬ G3 k):(owGMod (Ow.row e2 (Ow.frz (α:=Int))) (Ow.row e (Ow.frz (α:=GAttr)))).ro M (λ k=>G1 k\/G3 k) w (cells.take 5++cy++cells.drop (5+1)) { x with attrs:=r }:=by
 obtain⟨_,_,c0,r0,_,s0,_,hc,k0,_,_,c1,r1,_,s1,_,hc1,k1,g2,_,c2,r2,s2,_,_,hc2,k2,_,_,c3,r3,_,_,_,hc3,k3,_,_,c4,c5,_,_,_,hc4,k4,k5⟩:=h1;have l0:c0.length=1:=Rep.len (α:=Str) k0;have l1:c1.length=1:=Rep.len (α:=Int) k1;have l2:c2.length=1:=(Ow.row e2 (Ow.frz (α:=Int))).len k2;have l3:c3.length=1:=Rep.len (α:=Bool) k3;have l4:c4.length=1:=Rep.len (α:=Bool) k4;have l5:c5.length=1:=Rep.len (α:=List GAttr) k5;rw[hc1,hc2,hc3,hc4] at hc;have e1:cells.take 5=c0++(c1++(c2++(c3++c4))):=by
  rw[hc,show c0++(c1++(c2++(c3++(c4++c5))))=(c0++(c1++(c2++(c3++c4))))++c5 by simp only[List.append_assoc],List.take_left' (by simp[l0,l1,l2,l3,l4])]
 have e3:cells.drop (5+1)=[]:=by rw[List.drop_of_length_le];simp[hc,l0,l1,l2,l3,l4,l5]
 have hg:∀ b,g2 b->G1 b:=λ b h=>s0 b (s1 b (s2 b h))
 have:=owGMod.mk (x:={ x with attrs:=r }) (a2:=Ow.row e2 (Ow.frz (α:=Int))) (a5:=Ow.row e (Ow.frz (α:=GAttr))) k0 k1 k2 k3 k4 h2 (λ b h=>hd b (hg b h));simp only[List.flatten_cons,List.flatten_nil,List.append_nil] at this;rw[e1,e3,List.append_nil,show c0++(c1++(c2++(c3++c4)))++cy=c0++(c1++(c2++(c3++(c4++cy)))) by simp only[List.append_assoc]];exact(owGMod _ _).more this λ b h=>h.imp (hg b) id
section
variable{α β γ:Type}[Rep α][Rep β][Rep γ]
variable{look:Nat->Option Dt}
theorem lendNT{ow:Ow α}{x:Bx α}(ob:Objs F M0 M Gs)(p pm:Nat)(hG:∀ b,G b->zj Gs pm b)(h:OpdR M look q (dnm ow.box G x v0 cf))(hne:pm≠p:=by decide):OpdR2 M (λ b=>M0 b\/zj Gs p b) look q (dptr x.x):=
 λ w a hl=>by
  obtain⟨h0,⟨cs,h1,h2⟩,_⟩:=h w a hl;exact bx_ptr.1 ⟨cs,Rep.weak (ow.box.toR h1) λ b _ hb=>⟨hb.elim (ob.sub b) λ h=>(ob.at_ p b h).2.1,λ hg=>hb.elim (ob.at_ pm b (hG b hg)).2.2 (ob.apart pm p b hne (hG b hg))⟩,h0.trans h2⟩
theorem Sx.cTLb{ow:Ow γ}{oy:Ow β}{y:β}{z:γ}(h:Sx F N M0 M Gs L O a w)(p:Nat)(hh:opH o N=some d)
  (ho:o.op=.call { callee:=.value (.func f),args:=(l++[Operand.tmp sb]).toArray,argTypes:=ts }) (hf:fnB P f=true) (hy:(L++envO O).lookup sb=some (dow oy G1 y)) (hG1:∀ b,G1 b->zj Gs p b)  (hx:ArgsR2 M (λ b=>M0 b\/zj Gs p b) (λ s=>(L++envO O).lookup s) l xr) (hfn:FnTL P f oy xr y (.ow ow z)) (hfu:Full ow)
  (ks:List Nat) (hk:selP ks L=some L2) (qs:List Nat) (hq:selR L O qs p=some O2) (hdn:L2.lookup d=none)
  (next:∀ G' M' a' w',Sx F N M0 M' (Gs.set p G') L2 ((d,p,dow ow G' z)::O2) a' w'->wpList P ops Q rest a' w')(hp:p<Gs.length:=by simp):wpList P ops Q (o::rest) a w:=by
 obtain⟨hgd,hd,hN⟩:=zX hh;have hy':=h.st.has sb _ hy;have hGM:∀ b,G1 b->M b:=λ b hb=>(h.ob.at_ p b (hG1 b hb)).2.1
 refine wpList_plain hgd λ K hK=>OpOut.wp (OpOut.of_enter (f:=f) (args:=((l++[Operand.tmp sb]).map a.eval).toArray) (w':=w) ?_ ?_)
 ·unfold execOp;rw[ho];have e:a.eval (.func f)=.func (.func f) #[] #[]:=rfl;simp[resolve,e,Deferred.ofValue,invoke,wG hf]
 ·rw[List.map_append,List.map_cons,List.map_nil];refine(hfn M0 G1 w _ _ (λ b hb=>h.st.mok b (hb.elim (h.ob.sub b) (hGM b))) (λ b hb hm=>(h.ob.at_ p b (hG1 b hb)).2.2 hm) ((dow oy G1 y).weak hy' λ k _ hk=>hk.elim (h.ob.sub k) (hGM k)) ((hx.all h.st.has).weak λ k _ hk=>hk.imp id (hG1 k))).mono λ en w' ⟨u,Gr,he,hgr,i2,i4,hu⟩=>⟨u,he,?_⟩
  rw[hd];have h1:=h.eff (G':=λ b=>(zj Gs p b/\¬ G1 b)\/Gr b) hp (hgr.mono hG1) (λ b hb=>by
   rcases hb with hb | hb
   ·exact⟨.inl hb.1,Nat.lt_of_lt_of_le (h.st.mok b (h.ob.at_ p b hb.1).2.1) hgr.size⟩
   ·exact⟨(i2 b hb).imp (hG1 b) id,i4 b hb⟩) hk hq
  obtain⟨cs,k1,k2⟩:=hu;exact hK _ _ (next _ _ _ _ (h1.putO hN hdn (x:=dow ow (λ b=>(zj Gs p b/\¬ G1 b)\/Gr b) z) ⟨cs,ow.more (hfu k1) λ b hb=>.inr hb,k2⟩ λ b hb=>by rw[zq hp];exact hb))
theorem Sx.tkV{ow:Ow α}{f:Nat}{x:α}(h:Sx F N M0 M Gs L O a w)(p:Nat)(ho:ops[i]?=some o)(hh:opH o N=some d)
  (hQ:∀ c a w v,Q (.panic c) (a.put o.dst v) w->Q (.panic c) a w) (hS:S w) (hl:(L++envO O).lookup sb=some (dow ow G x)) (hop:o.op=.move q) (hq:q=.tmp sb) (hG:∀ b,G b->zj Gs p b) (qs:List Nat) (hqs:selR L O qs p=some O2) (hdn:L.lookup d=none)
  (next:∀ a',Sx F N M0 M Gs L ((d,p,dow ow G x)::O2) a' w->wpAnyH P .any ops Q S f (listed.setIfInBounds i true) a' w)(hs:Region.noSelect ops=true:=by decide +kernel)(hf:Region.free .any ops listed i=true:=by decide +kernel)(hr:(Region.ready .any ops listed).contains i=true:=by decide +kernel):wpAnyH P .any ops Q S (f+1) listed a w:=by
 subst hq;exact wpAnyH_take ho hs hf hr (λ c a w=>hQ c a w _) (.inl ⟨YM (zX hh).1,yMv hop Z⟩) hS (by rw[(zX hh).2.1];exact next _ ((h.drop hqs).putO (zX hh).2.2 hdn (h.st.has sb _ hl) hG))
end
set_option maxRecDepth 10000
set_option maxHeartbeats 1600000
section
variable{look:Nat->Option Dt}
end
end Go.Proofs.YtbbfcjifihknnaaGreatDoor
