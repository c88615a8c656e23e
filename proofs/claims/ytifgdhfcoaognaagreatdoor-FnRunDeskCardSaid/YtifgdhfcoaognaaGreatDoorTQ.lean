import Derived.Test.YtifgdhfcoaognaaGreatDoorTO
import Derived.Test.YtifgdhfcoaognaaGreatDoorTC
namespace Go.Proofs.YtifgdhfcoaognaaGreatDoor
open Go.RowKit
variable{a:Act}{listed:Array Bool}{ops:Array Oper}{ts:Array TypeId}{args:Array Value}{cf:CF}{c:Code}{x:Dt}{L L2:Env}{Q:Exit->Act->World->Prop}{F:Frm}{Gs:List (Nat->Prop)}{O O2:List (Nat×Nat×Dt)}{rs xr xs:List Dt}{ks qs:List Nat}{rest:List Oper}{l:List Operand}{c0 c1 c2 c3 c4 c5 cy:List Value}{N bytes d g i k p p2 s:Nat}{G G1 G3 M M' M0:Nat->Prop}{o:Oper}{hi q s1 y:Operand}{P:Program}{r:Rd}{e t t':TypeId}{m:UInt8}{u v v0:Value}{w w0:World}{S:World->Prop}
section
variable{α:Type}[Rep α]
end
section
variable{α β:Type}[Rep α][Rep β]
variable{fn:Func}
end
structure Kn where
 d:Disk
 f:Finder
instance:Inhabited Kn:=⟨⟨default,default⟩⟩
instance:Rep Kn where
 size:=1
 agg:=false
 rdc M w cs y:=∃ F vp vd,cs=[.func (.func F) #[] #[vp,vd]]/\(dptr y.f).rd M w vp/\(dptr y.d).rd M w vd
 len:=λ⟨_,_,_,h,_⟩=>by rw[h];rfl
 one _:=rfl
 pos:=Nat.one_pos
 oneCell:=λ⟨_,_,_,h,_⟩ c hc=>by
  rw[h] at hc;simp at hc;subst hc;rfl
 stable:=λ⟨F,vp,vd,h,h1,h2⟩ e=>⟨F,vp,vd,h,(dptr _).stable h1 e,(dptr _).stable h2 e⟩
 weak:=λ⟨F,vp,vd,h,h1,h2⟩ e=>⟨F,vp,vd,h,(dptr _).weak h1 e,(dptr _).weak h2 e⟩
def Ow.clo(F:FuncId)(o:Ow Finder):Ow Kn where
 ro M G w cs y:=∃ b vd,cs=[.func (.func F) #[] #[ptrB b,vd]]/\o.box.ro M G w [ptrB b] ⟨y.f⟩/\(dptr y.d).rd M w vd
 toR:=λ⟨b,vd,h,h1,h2⟩=>⟨F,ptrB b,vd,h,by
  obtain⟨v,hv,hr⟩:=o.box.toR h1;injection hv with hv;rw[hv];exact hr,(dptr _).weak h2 λ _ _ hk=>hk.1⟩
 stable:=λ⟨b,vd,h,h1,h2⟩ e=>⟨b,vd,h,o.box.stable h1 e,(dptr _).stable h2 e.mono⟩
 weak:=λ⟨b,vd,h,h1,h2⟩ e=>⟨b,vd,h,o.box.weak h1 e,(dptr _).weak h2 e⟩
 more:=λ⟨b,vd,h,h1,h2⟩ e=>⟨b,vd,h,o.box.more h1 e,h2⟩
def FnM{α:Type}[Rep α](k:Nat)(P:Program)(f:FuncId)(o:Ow α)(x:α)(xs:List Dt)(x':α)(r:Rd):Prop:=
 ∀
  (M0 G:Nat->Prop) (w:World) (v:Value) (vs:List Value),(∀ b,M0 b\/G b->b<w.heap.size)->(∀ b,G b->¬ M0 b)->(dow o G x).rd (λ b=>M0 b\/G b) w v->RdAll (λ b=>M0 b\/G b) w vs xs->
  Calls P f (vs.take k++v::vs.drop k).toArray w (RetS M0 w G v o x' r)
theorem RdAll.ins{M:Nat->Prop}{w:World}{v:Value}{y:Dt}(hv:y.rd M w v):∀ (k:Nat) {vs:List Value} {xs:List Dt},RdAll M w vs xs->RdAll M w (vs.take k++v::vs.drop k) (xs.take k++y::xs.drop k)
 | 0,_,_,h=>by simpa using RdAll.cons hv h
 | _+1,_,_,.nil=>.cons hv .nil
 | k+1,_,_,.cons h1 h=>.cons h1 (RdAll.ins hv k h)
theorem zek:∀ {xs ys:List Dt} {i:Nat},z9 i (xs++ys)=z9 i xs++z9 (i+xs.length) ys
 | [],_,_=>rfl
 |_::xs,ys,i=>by
  show(i,_)::z9 (i+1) (xs++ys)=(i,_)::(z9 (i+1) xs++z9 (i+(xs.length+1)) ys);rw[zek,Nat.add_assoc,Nat.add_comm 1]
theorem zc6:∀ {xs:List Dt} {i s:Nat} {x:Dt},(z9 i xs).lookup s=some x->i<=s/\s<i+xs.length
 | [],_,_,_,h=>by simp[z9] at h
 |y::xs,i,s,x,h=>by
  simp only[z9,List.lookup_cons] at h;by_cases he:s=i
  ·simp;omega
  ·have hb:(s == i)=false:=by simpa using he
   simp only[hb] at h;have:=zc6 h;simp only[List.length_cons];omega
theorem lookup_ins{A B:Env}{X y:Dt}(hA:A.lookup k=none)(h:(A++B++[(k,X)]).lookup s=some y)(hB:B.lookup k=none):(A++(k,X)::B).lookup s=some y:=by
 by_cases he:s=k
 ·subst he;rcases yF h with h1 | ⟨_,h1⟩
  ·rcases yF h1 with h2 | ⟨_,h2⟩
   ·rw[hA] at h2;cases h2
   ·rw[hB] at h2;cases h2
  ·rw[yt hA];simpa using h1
 ·have hb:(s == k)=false:=by simpa using he
  rcases yF h with h1 | ⟨_,h1⟩
  ·rcases yF h1 with h2 | ⟨h3,h2⟩
   ·exact xm h2
   ·rw[yt h3];simp only[List.lookup_cons,hb];exact h2
  ·simp only[List.lookup_cons,hb,List.lookup_nil] at h1;cases h1
section
variable{fn:Func}{look:Nat->Option Dt}
variable{α β:Type}[Rep α][Rep β]
variable{oo:Ow α}
theorem fnM0{f:FuncId}{x x':α}(k p n:Nat)(hk:k<=rs.length)(hf:P.funcs[f]?=some fn)(hb:fn.body=some c)(hn:rs.length+1<=fn.ntmps)(hnb:Jd (z9 0 (rs.take k)++z9 (k+1) (rs.drop k))=true)
  (h:∀ (M G:Nat->Prop) (w:World) (v:Value) (a:Act),Act.at a k=v->Sx (Frm.chg w G) fn.ntmps M (λ b=>M b\/G b) ((List.replicate n (oneB none)).set p G) (z9 0 (rs.take k)++z9 (k+1) (rs.drop k)) [(k,p,dow oo G x)] a w->c.wp P (bodyPost P fn (RetS M w G v oo x' r)) a w) (hp:p<n):FnM k P f oo x rs x' r:=by
 intro M0 G w v vs hm hg hv hr;have hra:=hr.ins (y:=dow oo G x) hv k;have hl:=hra.len;have hl':=hr.len;have hnth:∀ s y,(z9 0 (rs.take k++dow oo G x::rs.drop k)).lookup s=some y->y.rd (λ b=>M0 b\/G b) w (Act.at { tmps:=(vs.take k++v::vs.drop k).toArray++Array.replicate (fn.ntmps - (vs.take k++v::vs.drop k).toArray.size) undef,defers:=[] } s):=λ s y hs=>by
  obtain⟨j,u,h1,h2,h3⟩:=hra.nth 0 s y hs;have hj:j<(vs.take k++v::vs.drop k).length:=(List.getElem?_eq_some_iff.1 h2).1;have h5:(vs.take k++v::vs.drop k).toArray[j]?=some u:=by rw[List.getElem?_toArray];exact h2
  have hj':j<(vs.take k++v::vs.drop k).toArray.size:=by rw[List.size_toArray];exact hj
  have:s=j:=by omega
  subst this;have h4:Act.at { tmps:=(vs.take k++v::vs.drop k).toArray++Array.replicate (fn.ntmps - (vs.take k++v::vs.drop k).toArray.size) undef,defers:=[] } s=u:=by
   simp only[Act.at,Array.getD_eq_getD_getElem?];rw[Array.getElem?_append_left hj',h5];rfl
  rw[h4];exact h3
 have hlen:p<(List.replicate n (oneB none)).length:=by simpa using hp
 have hown:∀ q b,zp ((List.replicate n (oneB none)).set p G) q b ↔ q=p/\G b:=λ q b=>by
  by_cases hq:p=q
  ·subst hq;rw[zy hlen];simp
  ·rw[zE hq];exact⟨λ h=>(QR h).elim,λ h=>(hq h.1.symm).elim⟩
 have hkl:(rs.take k).length=k:=by rw[List.length_take];omega
 have hA:(z9 0 (rs.take k)).lookup k=none:=by
  cases hc:(z9 0 (rs.take k)).lookup k with
  | none=>rfl
  | some y=>have:=zc6 hc;omega
 have hB:(z9 (k+1) (rs.drop k)).lookup k=none:=by
  cases hc:(z9 (k+1) (rs.drop k)).lookup k with
  | none=>rfl
  | some y=>have:=zc6 hc;omega
 have hall:∀ s y,(z9 0 (rs.take k)++z9 (k+1) (rs.drop k)++envO [(k,p,dow oo G x)]).lookup s=some y->(z9 0 (rs.take k++dow oo G x::rs.drop k)).lookup s=some y:=λ s y hs=>by
  rw[zek,hkl,Nat.zero_add];exact lookup_ins hA hs hB
 refine calls_of_wp hf hb (h M0 G w v _ ?_ ?_)
 ·have h1:(z9 0 (rs.take k++dow oo G x::rs.drop k)).lookup k=some (dow oo G x):=hall k _ (by
   rw[yt (by rw[yt hA];exact hB)];simp[envO])
  have hvl:(vs.take k).length=k:=by rw[List.length_take];omega
  have hj:k<(vs.take k++v::vs.drop k).toArray.size:=by simp;omega
  simp only[Act.at,Array.getD_eq_getD_getElem?];rw[Array.getElem?_append_left hj,List.getElem?_toArray,List.getElem?_append_right (by omega),hvl,Nat.sub_self];rfl
 ·refine⟨⟨Grown.refl _ _,by simp at hl ⊢;omega,Z,hm,λ s y hy=>hnth s y (hall s y hy)⟩,⟨λ b hb=>.inl hb,λ q b hb=>?_,λ q r b hne h1 h2=>hne (((hown q b).1 h1).1.trans ((hown r b).1 h2).1.symm)⟩,WN hnb,⟨λ b hb=>(hown p b).2 ⟨Z,hb⟩,trivial⟩⟩;obtain⟨rfl,hb'⟩:=(hown q b).1 hb;exact⟨.inl hb',.inr hb',hg b hb'⟩
theorem fnMB{f:FuncId}{x x':Bx α}(k p n:Nat)(hf:P.funcs[f]?=some fn)(hb:fn.body=some c)(hn:rs.length+1<=fn.ntmps)(hnb:Jd (z9 0 (rs.take k)++z9 (k+1) (rs.drop k))=true)
  (hl:(z9 0 (rs.take k)++z9 (k+1) (rs.drop k)).lookup k=none)
  (h:∀ (M G:Nat->Prop) (w:World) (b:Nat) (a:Act),Sx (Frm.chg w G) fn.ntmps M (λ b=>M b\/G b) ((List.replicate n (oneB none)).set p G) (z9 0 (rs.take k)++z9 (k+1) (rs.drop k)) [(k,p,dnm oo.box G x (.pointer (some ⟨b,0,none⟩)) [])] a w->c.wp P (bodyPost P fn (RetS M w G (.pointer (some ⟨b,0,none⟩)) oo.box x' r)) a w) (hp:p<n:=by decide)(hk:k<=rs.length:=by simp):FnM k P f oo.box x rs x' r:=
 fnM0 k p n hk hf hb hn hnb (λ M G w v a hv st=>by
  have hs:((z9 0 (rs.take k)++z9 (k+1) (rs.drop k))++envO [(k,p,dow oo.box G x)]).lookup k=some (dow oo.box G x):=by rw[yt hl];simp[envO]
  exact st.nmB p (hs:=hs) (hn:=hl) (hG:=(zej hp)) [] λ b st'=>by
   have e:v=.pointer (some ⟨b,0,none⟩):=by
    rw[← hv];refine(st'.st.has k (dnm oo.box G x (.pointer (some ⟨b,0,none⟩)) []) ?_).1;rw[yt hl];simp[envO]
   rw[e];exact h M G w b a st') hp
theorem Sx.cE{oy:Ow β}{f:FuncId}{y y':β}(h:Sx F N M0 M Gs L O a w)(p:Nat)(hh:opH o N=some d)
  (hx:(execOp a.eval o).run P w=.ok (.enter f args) w) (_hy:(dow oy G1 y).rd M w u) (hG1:∀ b,G1 b->zp Gs p b) (hp:p<Gs.length)
  (hfn:∀ M1:Nat->Prop,(∀ b,M1 b\/G1 b->b<w.heap.size)->(∀ b,G1 b->¬ M1 b)->(∀ k,M1 k\/G1 k->M k)->Calls P f args w (RetS M1 w G1 u oy y' r))
  (ks:List Nat) (hk:selP ks L=some L2) (qs:List Nat) (hq:selR L O qs p=some O2)
  (next:∀ G' Gr M' v w',Sx F N M0 M' (Gs.set p (λ b=>((zp Gs p b/\¬ G1 b)\/G' b)\/Gr b)) L2 O2 a w'->(∀ G2:Nat->Prop,(∀ b,G2 b->¬ G1 b)->Later M G2 w M' w')->(∀ b,G' b->G1 b\/w.heap.size<=b)->(∀ b,Gr b->G1 b\/w.heap.size<=b)->(∀ b,G' b->¬ Gr b)->
   (dow oy G' y').rd M' w' u->r.rd M' Gr w' v->wpList P ops Q rest (a.put (some d) v) w'):wpList P ops Q (o::rest) a w:=by
 obtain⟨hgd,hd,hN⟩:=ya hh;have hGM:∀ b,G1 b->M b:=λ b hb=>(h.ob.at_ p b (hG1 b hb)).2.1
 refine wpList_plain hgd λ K hK=>OpOut.wp (OpOut.of_enter hx ?_)
 have hM:∀ k,((M k/\¬ G1 k)\/G1 k) ↔ M k:=λ k=>by
  refine⟨λ hk=>hk.elim (λ h=>h.1) (hGM k),λ hk=>?_⟩;by_cases e:G1 k
  ·exact .inr e
  ·exact .inl ⟨hk,e⟩
 refine(hfn (λ b=>M b/\¬ G1 b) (λ b hb=>h.st.mok b ((hM b).1 hb)) (λ b hb hm=>hm.2 hb) λ k hk=>(hM k).1 hk).mono λ en w' ⟨v,G',Gr,he,hgr,i1,i2,i3,i4,hv',hu⟩=>⟨v,he,?_⟩
 rw[hd];have h1:=h.eff (G':=λ b=>((zp Gs p b/\¬ G1 b)\/G' b)\/Gr b) hp (hgr.mono hG1) (λ b hb=>by
  rcases hb with(hb | hb) | hb
  ·exact⟨.inl hb.1,Nat.lt_of_lt_of_le (h.st.mok b (h.ob.at_ p b hb.1).2.1) hgr.size⟩
  ·exact⟨(i1 b hb).imp (hG1 b) id,i4 b (.inl hb)⟩
  ·exact⟨(i2 b hb).imp (hG1 b) id,i4 b (.inr hb)⟩) hk hq
 have hM':∀ k,(M k/\¬ zp Gs p k)\/((zp Gs p k/\¬ G1 k)\/G' k)\/Gr k->((M k/\¬ G1 k)\/G' k)\/Gr k:=λ k hk=>by
  rcases hk with hk | (hk | hk) | hk
  ·exact .inl (.inl ⟨hk.1,λ e=>hk.2 (hG1 k e)⟩)
  ·exact .inl (.inl ⟨(h.ob.at_ p k hk.1).2.1,hk.2⟩)
  ·exact .inl (.inr hk)
  ·exact .inr hk
 refine hK _ _ (next G' Gr _ _ _ h1 (λ G2 hd2=>⟨λ k hk hm=>?_,λ k hk hm=>hgr.block k hk λ e=>hm.elim (λ hm=>hm (hGM k e)) λ hm=>hd2 k hm e⟩) i1 i2 i3 ((dow oy G' y').weak hv' λ k _ hk=>hM' k hk) (r.weak hu λ k _ hk=>hM' k hk));rcases hM' k hm with(h2 | h2) | h2
 ·exact h2.1
 ·exact(i1 k h2).elim (hGM k) λ h=>by omega
 ·exact(i2 k h2).elim (hGM k) λ h=>by omega
end
section
variable{fn:Func}{look:Nat->Option Dt}
variable{α β:Type}[Rep α][Rep β]
theorem PH.cap{ow:Ow α}{oy:Ow β}{e:TypeId}{x:α}{v0:Value}{cf:CF}{b off n cap:Nat}{A:Option Addr}{ys:List β}{upd:List β->α}{c:Bool}{G:Nat->Prop}{v:Value}(hP:PH ow x v0 cf (Ow.row e oy) b off ys upd)(hm:(c,b,off,.slice A n cap)∈cf)(hc:c=true)(h:(dnm ow G x v0 cf).rd M w v):n=ys.length/\n<=cap:=by
 obtain⟨_,⟨cs,h2,h3⟩,h4⟩:=h;obtain⟨C,e',hh,hsz,_,G1,G2,_,_,_,_,_,hr,_⟩:=(hP.of h2 h3 h4).here;obtain⟨v,hv,h5⟩:=hr;have e1:w.cell? ⟨b,off,none⟩=some (.slice A n cap):=Qf Z (h4 _ hm hc).2.2;have e2:w.cell? ⟨b,off,none⟩=some v:=by simp[World.cell?,hh,WV hv]
 have e3:Value.slice A n cap=v:=Option.some.inj (e1.symm.trans e2);rcases h5 with⟨g,cap',cur,Gr,hg,_,hcap,_⟩ | ⟨hx,A',hA⟩
 ·rw[hg] at e3;injection e3 with e4 e5 e6;subst e5;subst e6;exact⟨Z,hcap⟩
 ·rw[hA] at e3;injection e3 with e4 e5 e6;subst e5;subst e6;subst hx;exact⟨Z,Nat.le_refl _⟩
end
section
variable{α β γ:Type}[Rep α][Rep β][Rep γ]
variable{fn:Func}{look:Nat->Option Dt}
end
section
variable{fn:Func}{look:Nat->Option Dt}
variable{α β:Type}[Rep α][Rep β]
theorem owSpec.tk{x:Spec}{r:List Int}{cells:List Value}(h1:(owSpec (Ow.frz (α:=List Int))).ro M G1 w cells x)(h2:(Ow.row e (Ow.frz (α:=Int))).ro M G3 w cy r)(_:∀ k,G1 k->¬ G3 k):(owSpec (Ow.row e (Ow.frz (α:=Int)))).ro M (λ k=>G1 k\/G3 k) w (cells.take 2++cy++cells.drop (2+1)) { x with roots:=r }:=by
 obtain⟨_,_,c0,r0,_,_,_,hc,k0,_,_,c1,c2,_,_,_,hc2,k1,k2⟩:=h1;have l0:c0.length=1:=Rep.len (α:=Int) k0;have l1:c1.length=1:=Rep.len (α:=Int) k1;have l2:c2.length=1:=Rep.len (α:=List Int) k2;rw[hc2] at hc;have e1:cells.take 2=c0++c1:=by rw[hc,← List.append_assoc,List.take_left' (by simp[l0,l1])]
 have e2:cells.drop (2+1)=[]:=by rw[List.drop_of_length_le];simp[hc,l0,l1,l2]
 rw[e1,e2,List.append_nil];have:=owSpec.mk (x:={ x with roots:=r }) (a2:=Ow.row e (Ow.frz (α:=Int))) k0 k1 h2;simp only[List.flatten_cons,List.flatten_nil,List.append_nil] at this;rw[List.append_assoc];exact(owSpec _).more this λ _ h=>.inr h
theorem owDir.tk{x:Dir}{r:List Str}{cells:List Value}(h1:(owDir (Ow.frz (α:=List Str))).ro M G1 w cells x)(h2:(Ow.row e (Ow.frz (α:=Str))).ro M G3 w cy r)(_:∀ k,G1 k->¬ G3 k):(owDir (Ow.row e (Ow.frz (α:=Str)))).ro M (λ k=>G1 k\/G3 k) w (cells.take 3++cy++cells.drop (3+1)) { x with names:=r }:=by
 obtain⟨_,_,c0,r0,_,_,_,hc,k0,_,_,c1,r1,_,_,_,hc1,k1,_,_,c2,c3,_,_,_,hc2,k2,k3⟩:=h1;have l0:c0.length=1:=Rep.len (α:=Int) k0;have l1:c1.length=1:=Rep.len (α:=Str) k1;have l2:c2.length=1:=Rep.len (α:=Int) k2;have l3:c3.length=1:=Rep.len (α:=List Str) k3;rw[hc1,hc2] at hc;have e1:cells.take 3=c0++(c1++c2):=by
  rw[hc,← List.append_assoc,← List.append_assoc,List.take_left' (by simp[l0,l1,l2]),List.append_assoc]
 have e2:cells.drop (3+1)=[]:=by rw[List.drop_of_length_le];simp[hc,l0,l1,l2,l3]
 rw[e1,e2,List.append_nil];have:=owDir.mk (x:={ x with names:=r }) (a3:=Ow.row e (Ow.frz (α:=Str))) k0 k1 k2 h2;simp only[List.flatten_cons,List.flatten_nil,List.append_nil] at this;rw[List.append_assoc,List.append_assoc];exact(owDir _).more this λ _ h=>.inr h
end
structure RInvK(P:Program)(F:Frm)(M:Nat->Prop)(ops:Array Oper)(N k:Nat)(T:List (List Nat))(xs:List (Nat×Dt))(s sb:Nat)(G:Nat->Prop)(Z:Dt)(a0:Act)(w1:World)(listed:Array Bool)(a:Act)(w:World):Prop where
 sz:listed.size=ops.size
 size:a.tmps.size=N
 defers:a.defers=a0.defers
 fr:F.J w
 grown:Grown G w1 w
 ext:listed.getD s false=false->Ext0 w1 w
 tail:∀ i,k<=i->listed.getD i false=false
 clos:Jq T ops.size listed
 done:∀ i,i≠s->listed.getD i false=true->∀ x d,xs[i]?=some (d,x)->(listed.getD s false=false\/∀ b,x.own b->¬ G b)->x.rd M w (Act.at a d)
 rest:∀ t,(∀ i,listed.getD i false=true->yj ops i≠some t)->Act.at a t=Act.at a0 t
 z:listed.getD s false=true->Z.rd M w (Act.at a sb)
section
variable{T:List (List Nat)}{S:List (List (Nat×Option Nat))}
end
def KD(Gs:List (Nat->Prop))(p:Nat):List Dt->Prop
 | []=>True
 | y::l=>(y.nb=true\/∃ p',p'≠p/\∀ b,y.own b->zp Gs p' b)/\KD Gs p l
theorem KD.get{Gs:List (Nat->Prop)}{p:Nat}:∀ {l:List Dt},KD Gs p l->∀ y∈l,y.nb=true\/∃ p',p'≠p/\∀ b,y.own b->zp Gs p' b
 |_::l,h,y,hy=>by
  rcases List.mem_cons.1 hy with rfl | hy
  ·exact h.1
  ·exact KD.get h.2 y hy
section
end
section
variable{fn:Func}
variable{α:Type}[Rep α]
end
theorem owFinder.tk{x:Finder}{r:List Dir}{cells:List Value}(h1:(owFinder (Ow.frz (α:=List Dir))).ro M G1 w cells x)(h2:(Ow.row e (Ow.frz (α:=Dir))).ro M G3 w cy r)(_:∀ k,G1 k->¬ G3 k):(owFinder (Ow.row e (Ow.frz (α:=Dir)))).ro M (λ k=>G1 k\/G3 k) w (cells.take 0++cy++cells.drop (0+1)) { x with dirs:=r }:=by
 obtain⟨_,_,c0,r0,_,_,_,hc,k0,_,_,c1,c2,_,_,_,hc2,k1,k2⟩:=h1;have l0:c0.length=1:=Rep.len (α:=List Dir) k0;have e2:cells.drop (0+1)=c1++c2:=by rw[hc,hc2,List.drop_left' (by omega)]
 rw[e2,List.take_zero,List.nil_append];have:=owFinder.mk (x:={ x with dirs:=r }) (a0:=Ow.row e (Ow.frz (α:=Dir))) h2 k1 k2;simp only[List.flatten_cons,List.flatten_nil,List.append_nil] at this;exact(owFinder _).more this λ _ h=>.inr h
structure FzC where
 M:Nat->Prop
 w:World
def Fz(c:FzC)(w:World):Prop:=∀ k,k<c.w.heap.size->¬ c.M k->w.heap[k]?=c.w.heap[k]?
theorem Fz.lt{c:FzC}(h:Fz c w)(hk:k<c.w.heap.size)(hm:¬ c.M k):k<w.heap.size:=by
 have h1:=h k hk hm;rw[Array.getElem?_eq_getElem hk] at h1;exact(Array.getElem?_eq_some_iff.1 h1).1
def dfz(c:FzC):Dt where
 rd M w _:=(∀ k,k<c.w.heap.size->M k->c.M k)/\Fz c w
 own:=noB
 nb:=true
 nob _ _ h:=h
 stable:=λ⟨h2,h3⟩ e=>⟨h2,λ k hk hm=>(e k (h3.lt hk hm) (.inl λ h=>hm (h2 k hk h))).trans (h3 k hk hm)⟩
 weak:=λ⟨h2,h3⟩ e=>⟨λ k hk hm=>Classical.byContradiction λ hc=>hc (h2 k hk (e k (h3.lt hk hc) hm)),h3⟩
section
variable{f:Nat}
variable{α:Type}[Rep α]
theorem Sx.heldF(h:Sx F N M0 M Gs L O a w){id:Nat}(hm:P.follows .mixedOrders=true)
  (hQ:∀ (c:FzC) w',(∀ w2,Fz c w2->∀ k,k<w'.heap.size->¬ M k->w2.heap[k]?=w'.heap[k]?)->Sx F N M0 M Gs ((N,dfz c)::L) O a w'->wpAnyH P .any ops Q (Fz c) ops.size (Array.replicate ops.size false) a w'):(Code.region id ops true).wp P Q a w:=
 wp_region_held (S:=Fz ⟨M,w⟩) hm (hQ ⟨M,w⟩ _ (λ _ h=>h) (h.drew.addL (s:=N) (y:=dfz ⟨M,w⟩) ⟨λ _ _ h=>h,λ _ _ _=>Z⟩))
theorem Sx.fzS{c:FzC}(h:Sx F N M0 M Gs L O a w)(hs:(L++envO O).lookup g=some (dfz c):=by rfl):Fz c w:=(h.st.has g _ hs).2
theorem Sx.tkLp{x:α}(h:Sx F N M0 M Gs L O a w)(ho:ops[i]?=some o)(hh:opH o N=some d)
   (hS:S w) (hz:∀ w2,S w2->∀ k,k<w.heap.size->¬ M k->w2.heap[k]?=w.heap[k]?) (hop:o.op=.load t q) (ht:tyB P t (Rep.agg α) (Rep.size α)=true) (hq:OpdR M (λ s=>(L++envO O).lookup s) q (dptr x))
  (next:∀ a',Sx F N M0 M Gs ((d,dt x)::L) O a' w->wpAnyH P .any ops Q S f (listed.setIfInBounds i true) a' w)(hs:Region.noSelect ops=true:=by decide +kernel)(hf:Region.free .any ops listed i=true:=by decide +kernel)(hr:(Region.ready .any ops listed).contains i=true:=by decide +kernel)(hQ:∀ c a w v,Q (.panic c) (a.put o.dst v) w->Q (.panic c) a w:=by exact λ _ _ _ _ h=>h):wpAnyH P .any ops Q S (f+1) listed a w:=by
 obtain⟨b,off,cs,hv,hb,hc,hr2⟩:=hq w a λ s y hy=>h.st.has s y hy
 have hpos:=Rep.pos (α:=α);have hl:=Rep.len hr2;have hlt:b<w.heap.size:=by
  have h1:=hc 0 _ (List.getElem?_eq_getElem (by omega:0<cs.length));unfold World.cell? at h1;cases he:w.heap[b]? with
  | none=>simp[he] at h1
  | some v=>exact(Array.getElem?_eq_some_iff.1 he).1
 refine h.tkY (v:=mkv (Rep.agg α) cs) (y:=dt x) ho hh hs hf hr (λ c a w=>hQ c a w _) hS (λ w' hw'=>?_) ⟨cs,hr2,Z⟩ next;have hcell:∀ j u,cs[j]?=some u->w'.cell? ⟨b,off+j,none⟩=some u:=λ j u hj=>(cell_same (hz w' hw' b hlt hb)).trans (hc j u hj)
 have hld:=xZ (P:=P) (w:=w') ht hl Rep.one hcell;unfold execOp;rw[hop];simp[Instr.loadAt,Instr.sureAddr,hv,hld]
end
section
variable{α β:Type}[Rep α][Rep β]
variable{fn:Func}
end
section
variable{fn:Func}{look:Nat->Option Dt}
variable{α β:Type}[Rep α][Rep β]
end
section
variable{α β γ:Type}[Rep α][Rep β][Rep γ]
variable{fn:Func}{look:Nat->Option Dt}
end
section
variable{fn:Func}{f:Nat}
variable{α β:Type}[Rep α][Rep β]
end
section
variable{α β γ:Type}[Rep α][Rep β][Rep γ]
variable{look:Nat->Option Dt}
end
section
variable{α β γ:Type}[Rep α][Rep β][Rep γ]
variable{look:Nat->Option Dt}
end
section
variable{fn:Func}{f:Nat}
theorem Sx.tkCuH{x r:Str}{n:Int}(h:Sx F N M0 M Gs L O a w)(ho:ops[i]?=some o)(hh:opH o N=some d)
  (hQ:∀ c a w v,Q (.panic c) (a.put o.dst v) w->Q (.panic c) a w) (hS:S w) (hop:o.op=.slice t s1 none (some hi) none) (ht:Wm P t=true) (hx:OpdR M (λ s=>(L++envO O).lookup s) s1 (dt x)) (hy:OpdR M (λ s=>(L++envO O).lookup s) hi (dt n)) (hm:JI x n=some r)
  (next:∀ a',Sx F N M0 M Gs ((d,dt r)::L) O a' w->wpAnyH P .any ops Q S f (listed.setIfInBounds i true) a' w)(hs:Region.noSelect ops=true:=by decide +kernel)(hf:Region.free .any ops listed i=true:=by decide +kernel)(hr:(Region.ready .any ops listed).contains i=true:=by decide +kernel):wpAnyH P .any ops Q S (f+1) listed a w:=by
 unfold JI at hm;split at hm
 ·rename_i hc;injection hm with hm;subst hm;have hxv:=xc.1 (hx w a λ s y hy=>h.st.has s y hy);have hnv:=yn.1 (hy w a λ s y hy=>h.st.has s y hy);refine h.tkY (v:=strv ⟨x.l.take n.toNat⟩) (y:=dt (⟨x.l.take n.toNat⟩:Str)) ho hh hs hf hr (λ c a w=>hQ c a w _) hS (λ w' _=>?_) (xc.2 ⟨Z,?_⟩) next
  ·have:=zbS ht x none (some n) (Int.le_refl _) hc.1 hc.2 w';unfold execOp;rw[hop];simp only[Option.map_some,Option.map_none,Option.getD_some,Option.getD_none,Int.toNat_zero,List.drop_zero] at this;simp[hxv.1,hnv,this]
  ·have:=WH (n:=n.toNat) (m:=0) hxv.2;simpa using this
 ·cases hm
theorem Sx.tkCuL{lo:Operand}{x r:Str}{n:Int}(h:Sx F N M0 M Gs L O a w)(ho:ops[i]?=some o)(hh:opH o N=some d)
  (hQ:∀ c a w v,Q (.panic c) (a.put o.dst v) w->Q (.panic c) a w) (hS:S w) (hop:o.op=.slice t s1 (some lo) none none) (ht:Wm P t=true) (hx:OpdR M (λ s=>(L++envO O).lookup s) s1 (dt x)) (hy:OpdR M (λ s=>(L++envO O).lookup s) lo (dt n)) (hm:za0 x n=some r)
  (next:∀ a',Sx F N M0 M Gs ((d,dt r)::L) O a' w->wpAnyH P .any ops Q S f (listed.setIfInBounds i true) a' w)(hs:Region.noSelect ops=true:=by decide +kernel)(hf:Region.free .any ops listed i=true:=by decide +kernel)(hr:(Region.ready .any ops listed).contains i=true:=by decide +kernel):wpAnyH P .any ops Q S (f+1) listed a w:=by
 unfold za0 at hm;split at hm
 ·rename_i hc;injection hm with hm;subst hm;have hxv:=xc.1 (hx w a λ s y hy=>h.st.has s y hy);have hnv:=yn.1 (hy w a λ s y hy=>h.st.has s y hy);refine h.tkY (v:=strv ⟨x.l.drop n.toNat⟩) (y:=dt (⟨x.l.drop n.toNat⟩:Str)) ho hh hs hf hr (λ c a w=>hQ c a w _) hS (λ w' _=>?_) (xc.2 ⟨Z,?_⟩) next
  ·have:=zbS ht x (some n) none hc.1 hc.2 (Int.le_refl _) w';unfold execOp;rw[hop];simp only[Option.map_some,Option.map_none,Option.getD_some,Option.getD_none,Int.toNat_natCast,List.take_length] at this;simp[hxv.1,hnv,this]
  ·have:=WH (n:=x.l.length) (m:=n.toNat) hxv.2;rwa[List.take_length] at this
 ·cases hm
end
structure Err where
deriving Inhabited
instance:Rep Err where
 size:=1
 agg:=false
 rdc _ _ cs _:=∃ v,cs=[v]/\(v=.nilIface\/∃ t p,v=.iface t p)
 len:=λ⟨_,h,_⟩=>by rw[h];rfl
 one _:=rfl
 pos:=Nat.one_pos
 oneCell:=λ⟨v,h,hv⟩ c hc=>by
  rw[h] at hc;simp at hc;subst hc;rcases hv with rfl | ⟨_,_,rfl⟩ <;> rfl
 stable h _:=h
 weak h _:=h
structure FnO(α β:Type) where
 g:Option (α->Option β)
instance {α β:Type}:Inhabited (FnO α β):=⟨⟨none⟩⟩
section
variable{α β:Type}[Rep α][Rep β]
def fnoR(M:Nat->Prop)(w:World)(cs:List Value):Option (α->Option β)->Prop
 | none=>cs=[.nilFunc]
 | some g=>∃ v,cs=[v]/\(dfn1 Tryz.prog g).rd M w v
instance:Rep (FnO α β) where
 size:=1
 agg:=false
 rdc M w cs x:=fnoR M w cs x.g
 len:=λ{M w cs x} h=>by
  revert h
  cases x.g with
  | none=>intro h;rw[show cs=_ from h];rfl
  | some y=>rintro ⟨v,h,_⟩;rw[h];rfl
 one _:=rfl
 pos:=Nat.one_pos
 oneCell:=λ{M w cs x} h c hc=>by
  revert h
  cases x.g with
  |none=>intro h;rw[show cs=_ from h] at hc;simp at hc;subst hc;rfl
  |some y=>
   rintro ⟨v,h,f,caps,ds,hv,_⟩
   rw[h] at hc;simp at hc;subst hc;rw[hv];rfl
 stable:=λ{M w w' cs x} h e=>by
  revert h
  cases x.g with
  | none=>exact id
  | some y=>rintro ⟨v,h,hr⟩;exact⟨v,h,(dfn1 _ _).stable hr e⟩
 weak:=λ{M M' w cs x} h e=>by
  revert h
  cases x.g with
  | none=>exact id
  | some y=>rintro ⟨v,h,hr⟩;exact⟨v,h,(dfn1 _ _).weak hr e⟩
theorem fno_dt{g:α->Option β}:(dt (⟨some g⟩:FnO α β)).rd M w v ↔ (dfn1 Tryz.prog g).rd M w v:=
 ⟨λ⟨_,⟨u,h,hr⟩,hv⟩=>by rw[hv,h];exact hr,λ h=>⟨[v],⟨v,Z,h⟩,Z⟩⟩
variable{look:Nat->Option Dt}
theorem OpRel.fno{g:α->Option β}(h:OpRel P M look o (dt (⟨some g⟩:FnO α β))):OpRel P M look o (dfn1 Tryz.prog g):=h.mono fno_dt.1
end
def zcFnO:List Value:=[.nilFunc]
def zFnO:FnO Int Str:=⟨none⟩
theorem zrFnO(M:Nat->Prop)(w:World):Rep.rdc M w zcFnO zFnO:=rfl
theorem xSub8{look:Nat->Option Dt}{x:Operand}{n:UInt8}(ho:o.op=.binOp .sub t x y t')(hx:OpdR M look x (dt m))(hy:OpdR M look y (dt n)):OpRel P M look o (dt (m - n)):=
 zF λ a w _ hl=>⟨.int .u8 (m - n).toNat,by
  have h1:=dt_u8.1 (hx w a hl);have h2:=dt_u8.1 (hy w a hl);have h3:IntKind.u8.wrap ((m.toNat:Int) - n.toNat)=((m - n).toNat:Int):=by
   have:=m.toNat_lt;have:=n.toNat_lt;rw[UInt8.toNat_sub];unfold IntKind.wrap;simp[IntKind.bits,IntKind.signed];omega
  unfold execOp;rw[ho];simp[h1,h2,eqGuard,binOp,Op.intArith,h3],dt_u8.2 Z⟩
def gkinds:List Str:=[⟨[110,111,110,101]⟩,⟨[109,111,100,117,108,101]⟩,⟨[112,97,99,107,97,103,101]⟩,⟨[115,112,97,99,101]⟩]
def gends:List Str:=[⟨[100,111,110,101]⟩,⟨[109,105,115,115,105,110,103]⟩,⟨[97,116,116,114]⟩,⟨[110,97,109,101]⟩,⟨[102,97,105,108]⟩,⟨[114,101,108,97,116,105,118,101]⟩,⟨[102,117,101,108]⟩]
def GOk(M:Nat->Prop)(w:World):Prop:=
 (dptr gkinds).rd M w (ptrB 0)/\(dptr gends).rd M w (ptrB 1)/\(dptr (⟨⟩:Err)).rd M w (ptrB 3)/\(dptr (⟨⟩:Err)).rd M w (ptrB 4)
def dgl:Dt where
 rd M w _:=GOk M w
 own:=noB
 nb:=true
 nob _ _ h:=h
 stable:=λ⟨h1,h2,h3,h4⟩ e=>⟨(dptr _).stable h1 e,(dptr _).stable h2 e,(dptr _).stable h3 e,(dptr _).stable h4 e⟩
 weak:=λ⟨h1,h2,h3,h4⟩ e=>⟨(dptr _).weak h1 e,(dptr _).weak h2 e,(dptr _).weak h3 e,(dptr _).weak h4 e⟩
def wg(x:Dt):Dt where
 rd M w v:=x.rd M w v/\GOk M w
 own:=x.own
 nb:=x.nb
 nob:=x.nob
 stable:=λ{_M _w _w' v} ⟨h,hg⟩ e=>⟨x.stable h e,dgl.stable (v:=v) hg λ k hk hm=>e k hk (hm.imp id λ h=>h.elim)⟩
 weak:=λ{_M _M' _w v} ⟨h,hg⟩ e=>⟨x.weak h e,dgl.weak (v:=v) hg e⟩
section
variable{look:Nat->Option Dt}
theorem opd_gK(hs:look s=some dgl):OpdR M look (.global 0) (dptr gkinds):=λ _w _a hl=>(hl s _ hs).1
theorem opd_gE(hs:look s=some dgl):OpdR M look (.global 1) (dptr gends):=λ _w _a hl=>(hl s _ hs).2.1
theorem zbD(hs:look s=some dgl)(h:OpdR M look q x):OpdR M look q (wg x):=λ w a hl=>⟨h w a hl,hl s _ hs⟩
end
section
variable{fn:Func}
variable{α β:Type}[Rep α][Rep β]
theorem Sx.glb(h:Sx F N M0 M Gs L O a w)(hs:(L++envO O).lookup s=some (wg x):=by rfl)(hn:x.nb=true:=by rfl):Sx F N M0 M Gs ((g,dgl)::(s,x)::L) O a w:=
 (h.addL (s:=s) (y:=x) (h.st.has s _ hs).1 (hn:=hn)).addL (s:=g) (y:=dgl) (h.st.has s _ hs).2
theorem xMkD{look:Nat->Option Dt}{f:FuncId}(ho:o.op=.makeFunc (.func f) #[] #[q])(hq:OpdR M look q (dis u)):OpRel P M look o (dis (.func (.func f) #[] #[u])):=
 zF λ a w _ hl=>by
  refine⟨.func (.func f) #[] #[a.eval q],?_,by rw[show a.eval q=u from hq w a hl];rfl⟩;unfold execOp;rw[ho];simp[Instr.makeFunc]
theorem FnM.any{f:FuncId}{oo:Ow α}{x x':α}(h:FnM k P f oo x xs x' .gone):FnM k P f oo x xs x' (.frz dany):=λ M0 G w v vs h1 h2 h3 h4=>
 (h M0 G w v vs h1 h2 h3 h4).mono λ _ _ ⟨u,G',Gr,k1,k2,k3,k4,k5,k6,k7,_⟩=>⟨u,G',Gr,k1,k2,k3,k4,k5,k6,k7,trivial,Z⟩
theorem Sx.cDF{oy:Ow β}{sb:Nat}{f:FuncId}{ag:Array Operand}{y y':β}(h:Sx F N M0 M Gs L O a w)(p:Nat)
       (hx:ArgsR M (λ s=>(L++envO O).lookup s) l xr) (hfn:FnM l.length P f oy y xr y' .gone)
  (ks:List Nat)  (qs:List Nat)   
  (next:∀{G'' M' a' w'},Sx F N M0 M' (Gs.set p G'') ((d,dany)::L2) ((sb,p,dnm oy G'' y' v0 [])::O2) a' w'->wpList P ops Q rest a' w')(hs:(L++envO O).lookup sb=some (dnm oy G y v0 cf):=by rfl)(hG:∀ b,G b->zp Gs p b:=by exact λ _ h=>h)(hh:opH o N=some d:=by rfl)(ho:o.op=.call { callee:=.value (.tmp s),args:=ag,argTypes:=ts }:=by rfl)(has:ag=l.toArray:=by rfl)(hqv:(L++envO O).lookup s=some (dis (.func (.func f) #[] #[v0])):=by rfl)(hp:p<Gs.length:=by simp)(hk:selP ks L=some L2:=by rfl)(hq:selR L O qs p=some O2:=by rfl)(hsn:L2.lookup sb=none:=by rfl)(_hne:sb≠d:=by decide)(hf:fnB P f=true:=by kernel_rfl):wpList P ops Q (o::rest) a w:=by
 subst has;obtain⟨k1,⟨cs,hcs,hv⟩,_⟩:=h.st.has sb _ hs;have hsv:Act.at a s=.func (.func f) #[] #[v0]:=h.st.has s _ hqv;have hy:(dow oy G y).rd M w v0:=⟨cs,hcs,hv⟩;refine h.cE (f:=f) (y':=y') (r:=.frz dany) (args:=(l.map a.eval++[v0]).toArray) p hh ?_ hy hG hp (λ M1 m1 m2 m3=>?_) ks hk qs hq λ G' Gr M' v w' st hL hG' hGr hdj hr hres=>?_
 ·unfold execOp;rw[ho];have e:a.eval (.tmp s)=.func (.func f) #[] #[v0]:=hsv;simp[resolve,e,Deferred.ofValue,invoke,wz hf]
 ·have h2:=hfn.any M1 G w v0 (l.map a.eval) m1 m2 ((dow oy G y).weak hy λ k _ hk=>m3 k hk) ((hx.all h.st.has).weak λ k _ hk=>m3 k hk);have e1:(l.map a.eval).take l.length=l.map a.eval:=List.take_of_length_le (by simp);have e2:(l.map a.eval).drop l.length=[]:=List.drop_of_length_le (by simp);rw[e1,e2] at h2;exact h2
 ·have h1:=st.addO (d:=sb) (p:=p) (x:=dnm oy (λ b=>((zp Gs p b/\¬ G b)\/G' b)\/Gr b) y' v0 []) hsn ⟨k1,(dow oy _ y').weak (by
   obtain⟨c',h4,h5⟩:=hr;exact⟨c',oy.more h4 λ b hb=>.inl (.inr hb),h5⟩) λ _ _ h=>h,λ q hq _=>by cases hq⟩ λ b hb=>by rw[zy hp];exact hb
  exact next (h1.putL (ya hh).2.2 hres.1 hres.2)
end
structure Nil0 where
deriving DecidableEq,Inhabited
instance:Rep Nil0 where
 size:=1
 agg:=false
 rdc _ _ cs _:=∃ A,cs=[.slice A 0 0]
 len:=λ⟨_,h⟩=>by rw[h];rfl
 one _:=rfl
 pos:=Nat.one_pos
 oneCell:=λ⟨A,h⟩ c hc=>by
  rw[h] at hc;simp at hc;subst hc;rfl
 stable h _:=h
 weak h _:=h
structure File0 where
 root:Int
 pkg:Str
 name:Str
 init:Bool
 stamp:Int
 body:Nil0
deriving DecidableEq,Inhabited
instance:Rep File0:=Rep.iso (λ x=>((x.root,x.pkg,x.name,x.init,x.stamp,x.body):Int×Str×Str×Bool×Int×Nil0))
theorem File0.fld2:Fld (λ x:File0=>x.name) 2:=⟨λ h=>((Fld.snd (Fld.snd Fld.fst))).sub (α:=Int×Str×Str×Bool×Int×Nil0) h⟩
theorem File0.set2:FldS (λ(x:File0) y=>{ x with name:=y }) 2:=⟨λ h k=>((FldS.snd (FldS.snd FldS.fst))).put (α:=Int×Str×Str×Bool×Int×Nil0) h k⟩
theorem File0.fld3:Fld (λ x:File0=>x.init) 3:=⟨λ h=>((Fld.snd (Fld.snd (Fld.snd Fld.fst)))).sub (α:=Int×Str×Str×Bool×Int×Nil0) h⟩
theorem File0.set3:FldS (λ(x:File0) y=>{ x with init:=y }) 3:=⟨λ h k=>((FldS.snd (FldS.snd (FldS.snd FldS.fst)))).put (α:=Int×Str×Str×Bool×Int×Nil0) h k⟩
theorem File0.parts{x:File0}(h0:Rep.rdc M w c0 x.root)(h1:Rep.rdc M w c1 x.pkg)(h2:Rep.rdc M w c2 x.name)(h3:Rep.rdc M w c3 x.init)(h4:Rep.rdc M w c4 x.stamp)(h5:Rep.rdc M w c5 x.body):Rep.rdc M w [c0,c1,c2,c3,c4,c5].flatten x:=by
 simp only[List.flatten_cons,List.flatten_nil,List.append_nil];exact⟨c0,_,Z,h0,⟨c1,_,Z,h1,⟨c2,_,Z,h2,⟨c3,_,Z,h3,⟨c4,_,Z,h4,h5⟩⟩⟩⟩⟩
def zcFile0:List Value:=zcFile
def zpFile0:List (List Value):=zpFile
def zFile0:File0:=⟨0,⟨[]⟩,⟨[]⟩,false,0,⟨⟩⟩
theorem zero_nil0:Rep.rdc M w [.slice none 0 0] (⟨⟩:Nil0):=⟨none,Z⟩
theorem zrFile0(M:Nat->Prop)(w:World):Rep.rdc M w zcFile0 zFile0:=
 File0.parts (c0:=[.int .i64 0]) (c1:=[strv ⟨[]⟩]) (c2:=[strv ⟨[]⟩]) (c3:=[.bool false]) (c4:=[.int .i64 0]) (c5:=[.slice none 0 0]) ⟨Z,trivial⟩ qt qt ⟨Z,trivial⟩ ⟨Z,trivial⟩ zero_nil0
def File0.f(x:File0):File:=⟨x.root,x.pkg,x.name,x.init,x.stamp,[]⟩
class Cv {γ α:Type} [Rep γ] [Rep α] (oe:Ow α) (cv:outParam (γ->α)):Prop where
 size:Rep.size γ=Rep.size α
 ro:∀ {M:Nat->Prop} {w:World} {cs:List Value} {y:γ},Rep.rdc M w cs y->oe.ro M noB w cs (cv y)
instance {e:TypeId}:Cv (owFile (Ow.row e (Ow.frz (α:=Stmt)))) File0.f where
 size:=rfl
 ro:=λ{M w cs y} ⟨c0,_,e0,h0,c1,_,e1,h1,c2,_,e2,h2,c3,_,e3,h3,c4,c5,e4,h4,A,h5⟩=>by
  subst e4;subst e3;subst e2;subst e1;subst e0;have:=owFile.mk (x:=y.f) (a5:=Ow.row e (Ow.frz (α:=Stmt))) (g5:=noB) h0 h1 h2 h3 h4 (show(Ow.row e (Ow.frz (α:=Stmt))).ro M noB w c5 [] from⟨_,h5,.inr ⟨Z,A,Z⟩⟩);simpa only[List.flatten_cons,List.flatten_nil,List.append_nil] using this
theorem rowW_cv{γ α:Type}[Rep γ][Rep α]{oe:Ow α}{cv:γ->α}[k:Cv oe cv]{M:Nat->Prop}{w:World}:∀ {ys:List γ} {cells:List Value},rowR M w cells ys->rowW oe M noB w cells (ys.map cv)
 | [],_,h=>h
 | _::_,_,⟨c,r,h,h1,h2⟩=>⟨noB,noB,c,r,λ _ h=>h,λ _ h=>h,λ _ h _=>h,h,k.ro h1,rowW_cv h2⟩
theorem op_nil0{look:Nat->Option Dt}(α:Type)[Rep α](ho:o.op=.buildSlice t 0 #[])(ht':slB P t (Rep.size α)=true):OpRel P M look o (dt (⟨⟩:Nil0)):=
 (wA (α:=α) (e:=0) ho (ht':=ht')).mono λ{w v} h=>by
  rcases h with⟨cells,hown,hrow,hb⟩ | ⟨_,_,A,hv⟩
  ·rcases hown.2 with⟨h1,_⟩ | ⟨b,cap,cur,h1,h2,_⟩
   ·exact⟨[v],⟨none,by rw[h1]⟩,Z⟩
   ·rw[h1] at hb;simp[Value.ownBlock] at hb
  ·exact⟨[v],⟨A,by rw[hv]⟩,Z⟩
section
variable{α γ:Type}[Rep α][Rep γ]
theorem Sx.app0{oe:Ow α}{cv:γ->α}{xs r:List α}{ys:List γ}[kc:Cv oe cv](h:Sx F N M0 M Gs L O a w)(p:Nat)(hh:opH o N=some d)
  (ho:o.op=.call { callee:=.builtin .append,args:=#[.tmp s,q],argTypes:=#[t,t] }) (hel:elB P t e (Rep.size α) bytes=true)
  (hs:(L++envO O).lookup s=some (dow (Ow.row e oe) G1 xs)) (hx:OpdR M (λ s=>(L++envO O).lookup s) q (dt ys))   (hm:appO bytes xs (ys.map cv)=some r)
  (ks:List Nat) (hk:selP ks L=some L2) (qs:List Nat) (hq:selR L O qs p=some O2) (hdn:L2.lookup d=none)
  (next:∀ G' M' a' w',Sx F N M0 M' (Gs.set p G') L2 ((d,p,dow (Ow.row e oe) G' r)::O2) a' w'->wpList P ops Q rest a' w')(hp:p<Gs.length:=by simp)(hG1:∀ b,G1 b->zp Gs p b:=by exact λ _ h=>h):wpList P ops Q (o::rest) a w:=by
 obtain⟨hgd,hd,hN⟩:=ya hh;unfold appO at hm;split at hm
 ·rename_i hsz;injection hm with hm;subst hm;obtain⟨g,cells,Gr,hv,hg,hs1,hr⟩:=row_owns (h.st.has s _ hs);obtain⟨cs,⟨A,c,hcs,k1,k2,k3⟩,hxv⟩:=hx w a h.st.has;subst hcs;have hxv:a.eval q=.slice A ys.length c:=hxv;obtain⟨ycells,hu,hr2⟩:∃ ycells,(∃ A c,a.eval q=.slice A (ys.map cv).length c/\(((ys.map cv).length=0/\ycells=[])\/∃ b off,A=some ⟨b,off,none⟩/\CellsAt w b off ycells))/\rowR M w ycells ys:=by
   rcases k3 with rfl | ⟨b,o,cells,rfl,hb,hcell,hrow⟩
   ·exact⟨[],⟨A,c,hxv,.inl ⟨Z,Z⟩⟩,Z⟩
   ·exact⟨cells,⟨_,c,by rw[List.length_map];exact hxv,.inr ⟨b,o,Z,hcell⟩⟩,hrow⟩
  have hw2:rowW oe M noB w ycells (ys.map cv):=rowW_cv hr2;obtain⟨v',w',g',hrun,hv',hgr,hg',hlt⟩:=JQ (P:=P) (w:=w) (t:=t) (ty:=o.type) hel Rep.pos hv hu (Q6 hw2) (Wq (Q5 hw2)) hsz.1 (by unfold maxLen;omega);have hgr':Grown (zp Gs p) w w':=(Grown.of_grownBy hgr).mono λ b hb=>hG1 b (hg b hb).1
  refine wpList_plain hgd λ K hK=>OpOut.wp (OpOut.of_value (v:=v') (w':=w') ?_ ?_)
  ·unfold execOp;simp only[ho,resolve,invoke,builtin,Sem.run_bind,Sem.run_pure,Result.andThen_ok,List.map_toArray,List.map_cons,List.map_nil,Act.eval_tmp,hrun]
  ·rw[hd];have hown:∀ b,g'=some b->zp Gs p b\/w.heap.size<=b:=λ b hb=>hg'.elim (λ e=>.inl (hG1 b (hg b (by rw[← e];exact hb)).1)) λ e=>.inr (e b hb)
   have h1:=h.eff (G':=λ b=>zp Gs p b\/g'=some b) hp hgr' (λ b hb=>⟨hb.elim .inl (hown b),hb.elim (λ hb=>Nat.lt_of_lt_of_le (h.st.mok b (h.ob.at_ p b hb).2.1) hgr.size) (hlt b)⟩) hk hq;have hlt1:∀ b,zp Gs p b->b<w.heap.size:=λ b hb=>h.st.mok b (h.ob.at_ p b hb).2.1
   have hL:∀ G5:Nat->Prop,(∀ b,G5 b->b<w.heap.size/\g≠some b)->Later M G5 w (λ b=>(M b/\¬ zp Gs p b)\/(zp Gs p b\/g'=some b)) w':=λ G5 h5=>⟨λ k hk hm=>by
    rcases hm with hm | hm | hm
    ·exact hm.1
    ·exact(h.ob.at_ p k hm).2.1
    ·rcases hown k hm with e | e
     ·exact(h.ob.at_ p k e).2.1
     ·omega,λ k hk hm=>hgr.block k hk λ e=>by
    rcases hm with hm | hm
    ·exact hm (h.ob.at_ p k (hG1 k (hg k e.symm).1)).2.1
    ·exact(h5 k hm).2 e.symm⟩
   have hgr1:∀ b,Gr b->g≠some b:=λ b hb e=>(hg b e).2 hb
   have hrow:=Q7 (G:=Gr) (Y3 hr (hL Gr λ b hb=>⟨hlt1 b (hG1 b (hs1 b hb)),hgr1 b hb⟩)) (Y3 hw2 (hL noB λ b hb=>hb.elim)) (λ _ h=>h) (λ _ h=>h.elim) λ b _ hb2=>hb2
   have hfin:=owns_row (e:=e) (G:=λ b=>zp Gs p b\/g'=some b) (by rw[List.length_append];exact hv') (λ b hb=>⟨.inr hb,λ h3=>by
    rcases hg' with e | e
    ·exact(hg b (by rw[← e];exact hb)).2 h3
    ·have:=e b hb;have:=hlt1 b (hG1 b (hs1 b h3));omega⟩) (λ b hb=>.inl (hG1 b (hs1 b hb))) hrow
   exact hK _ _ (next _ _ _ _ (h1.putO hN hdn hfin λ b hb=>by rw[zy hp];exact hb))
 ·cases hm
end
theorem dec_small{n:Nat}(h:n<100):Lib.decDigits n=if n<10 then[UInt8.ofNat (48+n)] else[UInt8.ofNat (48+n / 10),UInt8.ofNat (48+n % 10)]:=by
 rw[Lib.decDigits];split
 ·rfl
 ·rw[Lib.decDigits,dif_pos (by omega)];rfl
def yO(n:Int):Option Str:=if 0<=n/\n<100 then some ⟨Lib.decDigits n.toNat⟩ else none
theorem zab{n:Int}{r:Str}(h:yO n=some r):Fn Tryz.prog 32 [dt n] (dt r):=λ M w vs _ hr=>by
 obtain⟨u,rfl,hu⟩:=rd1 hr;unfold yO at h;split at h
 ·rename_i hc;injection h with h;subst h;rw[yn.1 hu];have h1:=Tryz.strconv_Itoa_small n.toNat (by omega) w;rw[show((n.toNat:Nat):Int)=n from by omega] at h1;refine fn_same h1 (xc.2 ⟨Z,?_⟩);rw[dec_small (by omega)];unfold maxLen;split <;> simp
 ·cases h
def JT(l:List UInt8):Int:=match Lib.atoiAll l with
 | .ok v=>v
 | .range=>Lib.atoiSat l
 | _=>0
def Xs(s:Str):Option (Int×Err):=if s.l.length<=1048576 then some (JT s.l,⟨⟩) else none
theorem zel{s:Str}{r:Int×Err}(h:Xs s=some r):Fn Tryz.prog 61 [wg (dt s)] (dtup [dt r.1,dt r.2]):=λ M w vs _ hr=>by
 obtain⟨u,rfl,hu,_,_,h3,h4⟩:=rd1 hr;obtain⟨hu1,hu2⟩:=xc.1 hu;subst hu1;unfold Xs at h;split at h
 case isFalse=>cases h
 rename_i hlen;injection h with h;subst h;have hsz:(⟨⟨s.l⟩⟩:ByteArray).size<=1048576:=hlen;have fin:∀ (n:Int) (e:Value) (w':World),(e=.nilIface\/∃ t p,e=.iface t p)->Ext0 w w'->Ext0 w w'/\(dtup [dt n,dt (⟨⟩:Err)]).rd M w' (.tuple #[.int .i64 n,e]):=λ n e w' he hw=>
  ⟨hw,[_,_],Z,.cons (yn.2 Z) (.cons ⟨[e],⟨e,Z,he⟩,Z⟩ .nil),λ q hq=>by
   simp only[List.mem_cons,List.not_mem_nil,or_false] at hq;rcases hq with rfl | rfl <;> rfl⟩
 have cell:∀ {g:Nat},(dptr (⟨⟩:Err)).rd M w (ptrB g)->∃ ev,w.cell? ⟨g,0,none⟩=some ev/\(ev=.nilIface\/∃ te pe,ev=.iface te pe):=λ{g} ⟨b,o,cs,hv,_,hc,v,hcs,hk⟩=>by
  injection hv with hv;injection hv with hv;injection hv with h1 h2;subst h1;subst h2;subst hcs;exact⟨v,hc 0 v Z,hk⟩
 obtain⟨e3,c3,k3⟩:=cell h3;obtain⟨e4,c4,k4⟩:=cell h4;have hl:(⟨⟨s.l⟩⟩:ByteArray).data.toList=s.l:=rfl;unfold JT;cases hc:Lib.atoiAll s.l with
 |ok v=>
  exact(Tryz.strconv_Atoi_ok ⟨⟨s.l⟩⟩ (by omega) v hc w).mono λ e w' ⟨he,hw⟩=>⟨_,he,fin v _ w' (.inl Z) (by
   rcases hw with rfl | ⟨t,rfl⟩
   ·exact Below.refl _ _
   ·exact Lib.bytesWorld_below _ _ _)⟩
 |_=>first
  | exact(Go.Proofs.Any.strconv_Atoi_syntax Tryz.laysC172 ⟨⟨s.l⟩⟩ (by omega) hc e3 w c3 k3).mono λ e w' ⟨_,he,_,_,hw⟩=>⟨_,he,fin 0 _ w' (.inr ⟨_,_,Z⟩) hw⟩
  | exact(Tryz.strconv_Atoi_range ⟨⟨s.l⟩⟩ (by omega) hc e4 w c4 k4).mono λ e w' ⟨_,he,_,_,hw⟩=>⟨_,he,fin _ _ w' (.inr ⟨_,_,Z⟩) hw⟩
end Go.Proofs.YtifgdhfcoaognaaGreatDoor
