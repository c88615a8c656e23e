import Derived.Test.YtandbaloaenciaaGreatDoorRO
namespace Go.Proofs.YtandbaloaenciaaGreatDoor
open Go.RowKit
variable{a:Act}{listed:Array Bool}{ops:Array Oper}{ts xs:Array TypeId}{c:Bool}{cf:CF}{y:Dir}{R:Dt}{L L2:Env}{Q:Exit->Act->World->Prop}{F:Frm}{f:FuncId}{i j m:Int}{S:List (List (Nat×Option Nat))}{T:List (List Nat)}{Gs:List (Nat->Prop)}{O O2:List (Nat×Nat×Dt)}{ds rs xr:List Dt}{x0:List File}{ks qs:List Nat}{rest:List Oper}{l:List Operand}{cy:List Value}{N b bytes d k off p p2 s sb sz tv u:Nat}{G G0 G1 G3 M M' M0:Nat->Prop}{o:Oper}{h q q2 v vo x:Operand}{A:Option Addr}{g:Option Nat}{hi:Option Operand}{P:Program}{r:Rd}{e t ty:TypeId}{v0:Value}{w w0:World}
section
variable{α:Type}[Rep α]
theorem Sx.boxD{x:α}(h:Sx F N M0 M Gs L O a w)(p:Nat)(hh:opH o N=some d)(ho:o.op=.box t q)(hx:OpdR M (λ s=>(L++envO O).lookup s) q (dt x))
  (ks:List Nat) (hk:selP ks L=some L2) (qs:List Nat) (hq:selR L O qs p=some O2) (hdn:L2.lookup d=none)
  (next:∀ b M' a' w',Sx F N M0 M' (Gs.set p (oneB (some b))) L2 ((d,p,dbox (some b) 0 x)::O2) a' w'->wpList P ops Q rest a' w')(hp:p<Gs.length:=by simp):wpList P ops Q (o::rest) a w:=by
 obtain⟨hgd,hd,hN⟩:=zR hh;have hy:=qV (hx w a λ s y hs=>h.st.has s y hs);have he:Ext0 w (w.alloc (.cells (a.eval q).cells t)):=Ext0.alloc _ _;refine wpList_plain hgd λ K hK=>OpOut.wp (OpOut.of_value (v:=.pointer (some ⟨w.heap.size,0,none⟩)) (w':=w.alloc (.cells (a.eval q).cells t)) ?_ ?_)
 ·unfold execOp;rw[ho];simp[Instr.box,newVar,newRow,newObj,Xb]
 ·rw[hd];have h1:=h.eff (G':=oneB (some w.heap.size)) hp ((Grown.of_ext he).mono λ b hb=>hb.elim) (λ b (hb:some w.heap.size=some b)=>by injection hb with hb;subst hb;exact⟨.inr (Nat.le_refl _),by simp⟩) hk hq;refine hK _ _ (next w.heap.size _ _ _ (h1.putO hN hdn ?_ λ b hb=>by rw[zp hp];exact hb));refine⟨w.heap.size,Z,Z,(a.eval q).cells,t,(a.eval q).cells.toList,heap_alloc_new w _,λ j u hj=>?_,?_⟩
  ·rw[Nat.zero_add];simpa using hj
  refine Rep.later hy (G:=noB) ⟨λ k hk hm=>?_,λ k hk _=>he.block k hk⟩;rcases hm with hm | hm
  ·exact hm.1
  ·have:w.heap.size=k:=by injection hm
   omega
end
section
variable{α β:Type}[Rep α][Rep β]
def FnT(P:Program)(f:FuncId)(o:Ow α)(x:α)(xs:List Dt)(r:Rd):Prop:=
 ∀
  (M0 G:Nat->Prop) (w:World) (v:Value) (vs:List Value),(∀ b,M0 b\/G b->b<w.heap.size)->(∀ b,G b->¬ M0 b)->(dow o G x).rd (λ b=>M0 b\/G b) w v->RdAll (λ b=>M0 b\/G b) w vs xs->
  Calls P f (v::vs).toArray w (λ en w'=>∃ u Gr,en=.returned u/\Grown G w w'/\(∀ b,Gr b->G b\/w.heap.size<=b)/\(∀ b,Gr b->b<w'.heap.size)/\r.rd (λ b=>M0 b\/Gr b) Gr w' u)
def RetTk(M0:Nat->Prop)(w:World)(G:Nat->Prop)(r:Rd):Ending->World->Prop:=λ en w'=>
 ∃ u Gr,en=.returned u/\Grown G w w'/\(∀ b,Gr b->G b\/w.heap.size<=b)/\(∀ b,Gr b->b<w'.heap.size)/\r.rd (λ b=>M0 b\/Gr b) Gr w' u
variable{fn:Func}
theorem fnT{oo:Ow α}{c:Code}{x:α}(p n:Nat)(hf:P.funcs[f]?=some fn)(hb:fn.body=some c)(hnb:Jo (yR 1 rs)=true)
  (h:∀ (M G:Nat->Prop) (w:World) (a:Act),Sx (Frm.chg w G) fn.ntmps M (λ b=>M b\/G b) ((List.replicate n (oneB none)).set p G) (yR 1 rs) [(0,p,dow oo G x)] a w->c.wp P (bodyPost P fn (RetTk M w G r)) a w) (hp:p<n:=by decide)(hn:rs.length+1<=fn.ntmps:=by exact oD Z):FnT P f oo x rs r:=by
 intro M0 G w v vs hm hg hv hr;have hra:RdAll (λ b=>M0 b\/G b) w (v::vs) (dow oo G x::rs):=.cons hv hr;have hl:=hra.len;have hnth:∀ s y,(yR 0 (dow oo G x::rs)).lookup s=some y->y.rd (λ b=>M0 b\/G b) w (Act.at { tmps:=(v::vs).toArray++Array.replicate (fn.ntmps - (v::vs).toArray.size) undef,defers:=[] } s):=λ s y hs=>by
  obtain⟨j,u,h1,h2,h3⟩:=hra.nth 0 s y hs;have hj:j<(v::vs).length:=(List.getElem?_eq_some_iff.1 h2).1;have h5:(v::vs).toArray[j]?=some u:=by simpa using h2
  have hj':j<(v::vs).toArray.size:=by simpa using hj
  have:s=j:=by omega
  subst this;have h4:Act.at { tmps:=(v::vs).toArray++Array.replicate (fn.ntmps - (v::vs).toArray.size) undef,defers:=[] } s=u:=by
   simp only[Act.at,Array.getD_eq_getD_getElem?];rw[Array.getElem?_append_left hj',h5];rfl
  rw[h4];exact h3
 have hlen:p<(List.replicate n (oneB none)).length:=by simpa using hp
 have hown:∀ q b,zf ((List.replicate n (oneB none)).set p G) q b ↔ q=p/\G b:=λ q b=>by
  by_cases hq:p=q
  ·subst hq;rw[zp hlen];simp
  ·rw[zt hq];exact⟨λ h=>(QU h).elim,λ h=>(hq h.1.symm).elim⟩
 refine calls_of_wp hf hb (h M0 G w _ ?_);refine⟨⟨Grown.refl _ _,by simp at hl ⊢;omega,Z,hm,λ s y hy=>?_⟩,⟨λ b hb=>.inl hb,λ q b hb=>?_,λ q r b hne h1 h2=>hne (((hown q b).1 h1).1.trans ((hown r b).1 h2).1.symm)⟩,WZ hnb,⟨λ b hb=>(hown p b).2 ⟨Z,hb⟩,trivial⟩⟩
 ·have hk:∀ (i:Nat) (rs:List Dt) (s:Nat) (x:Dt),(yR i rs).lookup s=some x->i<=s:=λ i rs=>by
   induction rs generalizing i with
   | nil=>intro s x h;simp[yR] at h
   |cons y rs ih=>
    intro s x h;simp only[yR,List.lookup_cons] at h;by_cases he:s=i
    ·omega
    ·have hb:(s == i)=false:=by simpa using he
     simp only[hb] at h;have:=ih (i+1) s x h;omega
  refine hnth s y ?_;simp only[yR,List.lookup_cons];rcases xa hy with h1 | ⟨_,h1⟩
  ·have:=hk _ _ _ _ h1;have hb:(s == 0)=false:=by simpa using(by omega:¬ s=0)
   simp only[hb];exact h1
  ·simp only[envO,List.lookup_cons,List.lookup_nil] at h1;cases hb:s == 0 with
   | true=>simp only[hb] at h1;exact h1
   | false=>simp only[hb] at h1;cases h1
 ·obtain⟨rfl,hb'⟩:=(hown q b).1 hb;exact⟨.inl hb',.inr hb',hg b hb'⟩
theorem Sx.rtC{ow:Ow α}{t:Nat}{x:Bx α}{r:α}(h:Sx (Frm.chg w0 G0) N M0 M Gs L O a w)(p:Nat)(hr:fn.results=#[.cell t ty])(ht:tyB P ty (Rep.agg α) (Rep.size α)=true)(hl:(L++envO O).lookup t=some (dnm ow.box G x v0 cf))(hG:∀ b,G b->zf Gs p b)(hm:some x.x=some r):bodyPost P fn (RetTk M0 w0 G0 (.ow ow r)) .ret a w:=by
 injection hm with hm;subst hm;obtain⟨h1,⟨cs,⟨b,C,e,Gr,hc,hb,hGb,hn,hs,hro⟩,h3⟩,_⟩:=h.st.has t _ hl;have hrr:=ow.toR hro;have hc':∀ j u,C.toList[j]?=some u->w.cell? ⟨b,0+j,none⟩=some u:=λ j u hj=>by
  rw[Nat.zero_add];have:C[j]?=some u:=by simpa using hj
  simp[World.cell?,hb,this]
 have hld:=yS ht (Rep.len hrr) Rep.one hc';have hv:Act.at a t=.pointer (some ⟨b,0,none⟩):=by rw[h1,h3,hc];rfl
 refine⟨h.st.defers,mkv (Rep.agg α) C.toList,?_,_,Gr,Z,h.st.fr,λ k hk=>(h.ob.at_ p k (hG k (hs k hk))).1,λ k hk=>h.st.mok k (h.ob.at_ p k (hG k (hs k hk))).2.1,⟨_,ow.weak hro λ k _ hk=>hk.elim (h.ob.sub k) λ hk=>(h.ob.at_ p k (hG k (hs k hk))).2.1,Z⟩⟩;have h2:a.tmps.getD t undef=.pointer (some ⟨b,0,none⟩):=hv;simp only[results,hr];simp at h2;simp[h2,asAddr,hld]
theorem Sx.cT{oy:Ow β}{y:β}(h:Sx F N M0 M Gs L O a w)(p:Nat)(hh:opH o N=some d)
  (ho:o.op=.call { callee:=.value (.func f),args:=(.tmp sb::l).toArray,argTypes:=ts }) (hf:fnB P f=true) (hy:(L++envO O).lookup sb=some (dow oy G1 y)) (hG1:∀ b,G1 b->zf Gs p b)  (hx:ArgsR M (λ s=>(L++envO O).lookup s) l xr) (hfn:FnT P f oy y xr r)
  (ks:List Nat) (hk:selP ks L=some L2) (qs:List Nat) (hq:selR L O qs p=some O2) (hdn:L2.lookup d=none)
  (next:∀ G' M' a' w',Sx F N M0 M' (Gs.set p G') L2 ((d,p,drd r G')::O2) a' w'->wpList P ops Q rest a' w')(hp:p<Gs.length:=by simp):wpList P ops Q (o::rest) a w:=by
 obtain⟨hgd,hd,hN⟩:=zR hh;have hy':=h.st.has sb _ hy;have hGM:∀ b,G1 b->M b:=λ b hb=>(h.ob.at_ p b (hG1 b hb)).2.1
 refine wpList_plain hgd λ K hK=>OpOut.wp (OpOut.of_enter (f:=f) (args:=((.tmp sb::l).map a.eval).toArray) (w':=w) ?_ ?_)
 ·unfold execOp;rw[ho];have e:a.eval (.func f)=.func (.func f) #[] #[]:=rfl;simp[resolve,e,Deferred.ofValue,invoke,xK hf]
 ·have hM:∀ k,((M k/\¬ G1 k)\/G1 k) ↔ M k:=λ k=>by
   refine⟨λ hk=>hk.elim (λ h=>h.1) (hGM k),λ hk=>?_⟩;by_cases e:G1 k
   ·exact .inr e
   ·exact .inl ⟨hk,e⟩
  rw[List.map_cons];refine(hfn (λ b=>M b/\¬ G1 b) G1 w _ _ (λ b hb=>h.st.mok b ((hM b).1 hb)) (λ b hb hm=>hm.2 hb) ((dow oy G1 y).weak hy' λ k _ hk=>(hM k).1 hk) ((hx.all h.st.has).weak λ k _ hk=>(hM k).1 hk)).mono λ en w' ⟨u,Gr,he,hgr,i2,i4,hu⟩=>⟨u,he,?_⟩
  rw[hd];have h1:=h.eff (G':=λ b=>(zf Gs p b/\¬ G1 b)\/Gr b) hp (hgr.mono hG1) (λ b hb=>by
   rcases hb with hb | hb
   ·exact⟨.inl hb.1,Nat.lt_of_lt_of_le (h.st.mok b (h.ob.at_ p b hb.1).2.1) hgr.size⟩
   ·exact⟨(i2 b hb).imp (hG1 b) id,i4 b hb⟩) hk hq
  have hM':∀ k,(M k/\¬ zf Gs p k)\/((zf Gs p k/\¬ G1 k)\/Gr k)->(M k/\¬ G1 k)\/Gr k:=λ k hk=>by
   rcases hk with hk | hk | hk
   ·exact .inl ⟨hk.1,λ e=>hk.2 (hG1 k e)⟩
   ·exact .inl ⟨(h.ob.at_ p k hk.1).2.1,hk.2⟩
   ·exact .inr hk
  exact hK _ _ (next _ _ _ _ (h1.putO hN hdn (x:=drd r λ b=>(zf Gs p b/\¬ G1 b)\/Gr b) (r.more (r.weak hu λ k _ hk=>hM' k hk) λ b hb=>.inr hb) λ b hb=>by rw[zp hp];exact hb))
end
structure Kn where
 d:Disk
 f:Finder
instance:Inhabited Kn:=⟨⟨default,default⟩⟩
instance:Rep Kn where
 size:=1
 agg:=false
 rdc M w cs y:=∃ F vp vd,cs=[.func (.func F) #[] #[vp,vd]]/\(dptr y.f).rd M w vp/\(dptr y.d).rd M w vd
 len:=λ⟨_,_,_,h,_⟩=>by rw[h];rfl
 one _:=rfl
 pos:=Nat.one_pos
 oneCell:=λ⟨_,_,_,h,_⟩ c hc=>by
  rw[h] at hc;simp at hc;subst hc;rfl
 stable:=λ⟨F,vp,vd,h,h1,h2⟩ e=>⟨F,vp,vd,h,(dptr _).stable h1 e,(dptr _).stable h2 e⟩
 weak:=λ⟨F,vp,vd,h,h1,h2⟩ e=>⟨F,vp,vd,h,(dptr _).weak h1 e,(dptr _).weak h2 e⟩
def Ow.clo(F:FuncId)(o:Ow Finder):Ow Kn where
 ro M G w cs y:=∃ b vd,cs=[.func (.func F) #[] #[ptrB b,vd]]/\o.box.ro M G w [ptrB b] ⟨y.f⟩/\(dptr y.d).rd M w vd
 toR:=λ⟨b,vd,h,h1,h2⟩=>⟨F,ptrB b,vd,h,by
  obtain⟨v,hv,hr⟩:=o.box.toR h1;injection hv with hv;rw[hv];exact hr,(dptr _).weak h2 λ _ _ hk=>hk.1⟩
 stable:=λ⟨b,vd,h,h1,h2⟩ e=>⟨b,vd,h,o.box.stable h1 e,(dptr _).stable h2 e.mono⟩
 weak:=λ⟨b,vd,h,h1,h2⟩ e=>⟨b,vd,h,o.box.weak h1 e,(dptr _).weak h2 e⟩
 more:=λ⟨b,vd,h,h1,h2⟩ e=>⟨b,vd,h,o.box.more h1 e,h2⟩
section
variable{fn:Func}{look:Nat->Option Dt}
variable{α β:Type}[Rep α][Rep β]
end
section
variable{fn:Func}{look:Nat->Option Dt}
variable{α β:Type}[Rep α][Rep β]
variable{oy:Ow β}{ys:List β}
theorem PH.cap{ow:Ow α}{oy:Ow β}{e:TypeId}{x:α}{v0:Value}{cf:CF}{b off n cap:Nat}{A:Option Addr}{ys:List β}{upd:List β->α}{c:Bool}{G:Nat->Prop}{v:Value}(hP:PH ow x v0 cf (Ow.row e oy) b off ys upd)(hm:(c,b,off,.slice A n cap)∈cf)(hc:c=true)(h:(dnm ow G x v0 cf).rd M w v):n=ys.length/\n<=cap:=by
 obtain⟨_,⟨cs,h2,h3⟩,h4⟩:=h;obtain⟨C,e',hh,hsz,_,G1,G2,_,_,_,_,_,hr,_⟩:=(hP.of h2 h3 h4).here;obtain⟨v,hv,h5⟩:=hr;have e1:w.cell? ⟨b,off,none⟩=some (.slice A n cap):=XN Z (h4 _ hm hc).2.2;have e2:w.cell? ⟨b,off,none⟩=some v:=by simp[World.cell?,hh,Xl hv]
 have e3:Value.slice A n cap=v:=Option.some.inj (e1.symm.trans e2);rcases h5 with⟨g,cap',cur,Gr,hg,_,hcap,_⟩ | ⟨hx,A',hA⟩
 ·rw[hg] at e3;injection e3 with e4 e5 e6;subst e5;subst e6;exact⟨Z,hcap⟩
 ·rw[hA] at e3;injection e3 with e4 e5 e6;subst e5;subst e6;subst hx;exact⟨Z,Nat.le_refl _⟩
theorem xSlH{ow:Ow α}{x:α}{n cap:Nat}{r:List β}{upd:List β->α}(hP:PH ow x v0 cf (Ow.row e oy) b off ys upd)(hm:(c,b,off,.slice A n cap)∈cf)(hc:c=true)(hs:look sb=some (dnm ow G x v0 cf))
  (ho:o.op=.slice t q none (some h) none) (ht:slB P t (Rep.size β)=true) (hq:OpdR M look q (dis (.slice A n cap))) (hh:OpdR M look h (dt i)) (hr:XF ys i=some r):OpRel P M look o (dis (.slice A i.toNat cap)):=
 zz λ a w _ hl=>by
  obtain⟨h1,h2⟩:=hP.cap hm hc (hl sb _ hs);obtain⟨_,ht⟩:=jL ht;unfold XF at hr;split at hr
  ·rename_i hi;have hrun:=XK ht A n cap none (some i) (by simp;omega) (by simp;omega) w;simp only[Option.map_some,Option.map_none,Option.getD_some,Option.getD_none,Int.toNat_zero,Nat.zero_mul,Nat.sub_zero] at hrun;have hA:(if cap=0 then A else A.map (·.add 0))=A:=by
    split
    ·rfl
    ·cases A <;> rfl
   rw[hA] at hrun;refine⟨_,?_,Z⟩;have hv:a.eval q=.slice A n cap:=hq w a hl;unfold execOp;rw[ho];simp only[Option.map_some,Option.map_none,hv,yi.1 (hh w a hl),Sem.run_bind,hrun,Result.andThen_ok,Sem.run_pure]
  ·cases hr
theorem xSlL{ow:Ow α}{x:α}{n cap:Nat}{r:List β}{upd:List β->α}{l:Operand}(hP:PH ow x v0 cf (Ow.row e oy) b off ys upd)(hm:(c,b,off,.slice A n cap)∈cf)(hc:c=true)(hs:look sb=some (dnm ow G x v0 cf))
  (ho:o.op=.slice t q (some l) none none) (ht:slB P t (Rep.size β)=true) (hq:OpdR M look q (dis (.slice A n cap))) (hh:OpdR M look l (dt j)) (hr:JS ys j=some r):OpRel P M look o (dis (.slice (if cap=j.toNat then A else A.map (·.add (j.toNat*Rep.size β))) (n - j.toNat) (cap - j.toNat))):=
 zz λ a w _ hl=>by
  obtain⟨h1,h2⟩:=hP.cap hm hc (hl sb _ hs);obtain⟨_,ht⟩:=jL ht;unfold JS at hr;split at hr
  ·rename_i hi;have hrun:=XK ht A n cap (some j) none (h1:=(by simp;omega)) (by simp;omega) (by simp;omega) w;simp only[Option.map_some,Option.map_none,Option.getD_some,Option.getD_none,Int.toNat_natCast] at hrun;refine⟨_,?_,Z⟩;have hv:a.eval q=.slice A n cap:=hq w a hl;unfold execOp;rw[ho];simp only[Option.map_some,Option.map_none,hv,yi.1 (hh w a hl),Sem.run_bind,hrun,Result.andThen_ok,Sem.run_pure]
  ·cases hr
def cutL{γ:Type}(ys:List γ)(i j:Nat):List γ:=ys.take i++ys.drop j++ys.drop (i+(ys.length - j))
theorem cutL_len{γ:Type}{ys:List γ}{i j:Nat}(h1:i<=j)(h2:j<=ys.length):(cutL ys i j).length=ys.length:=by
 simp[cutL];omega
theorem Sx.apCut{ow:Ow α}{x:α}{n cap:Nat}{r1 r2:List β}{upd:List β->α}{q1:Operand}(h:Sx F N M0 M Gs L O a w)(p:Nat)(hP:PH ow x v0 cf (Ow.row e (Ow.frz (α:=β))) b off ys upd)(hm:(c,b,off,.slice A n cap)∈cf)(hc:c=true)
  (hh:opH o N=some d) (ho:o.op=.call { callee:=.builtin .append,args:=#[q1,q2],argTypes:=#[t,t] }) (hel:elB P t e (Rep.size β) bytes=true) (hs:(L++envO O).lookup sb=some (dnm ow G x v0 cf)) (hG:∀ b,G b->zf Gs p b) 
  (h1:OpdR M (λ s=>(L++envO O).lookup s) q1 (dis (.slice A i.toNat cap))) (h2:OpdR M (λ s=>(L++envO O).lookup s) q2 (dis (.slice (if cap=j.toNat then A else A.map (·.add (j.toNat*Rep.size β))) (n - j.toNat) (cap - j.toNat))))
  (hr1:XF ys i=some r1) (hr2:JS ys j=some r2) (hij:decide (i<j)=true)
  (ks:List Nat) (hk:selP ks L=some L2) (qs:List Nat) (hq:selR L O qs p=some O2) (hsn:L2.lookup sb=none)
  (next:∀ a' w',Sx F N M0 M Gs ((d,dis (.slice A (i.toNat+(n - j.toNat)) cap))::L2) ((sb,p,dnm ow G (upd (cutL ys i.toNat j.toNat)) v0 [(c,b,off,.slice A n cap)])::O2) a' w'->wpList P ops Q rest a' w')(hp:p<Gs.length:=by simp):wpList P ops Q (o::rest) a w:=by
 have hij:=oD hij;obtain⟨hgd,hd,hN⟩:=zR hh;have hsv:=h.st.has sb _ hs;obtain⟨en,ecap⟩:=hP.cap hm hc hsv;obtain⟨k1,⟨cs,k2,k3⟩,k4⟩:=hsv;obtain⟨C,e',hhb,hsz,hGb,G1,G2,s1,s2,hdj,n1,n2,hr,put⟩:=(hP.of k2 k3 k4).here;have hI:0<=i/\i<=ys.length:=by
  unfold XF at hr1;split at hr1
  ·rename_i hi;exact⟨by omega,by omega⟩
  ·cases hr1
 have hJ:j<=ys.length:=by
  unfold JS at hr2;split at hr2
  ·rename_i hi;omega
  ·cases hr2
 obtain⟨v,hv,h5⟩:=hr;have e1:w.cell? ⟨b,off,none⟩=some (.slice A n cap):=XN Z (k4 _ hm hc).2.2;have e2:w.cell? ⟨b,off,none⟩=some v:=by simp[World.cell?,hhb,Xl hv]
 have e3:Value.slice A n cap=v:=Option.some.inj (e1.symm.trans e2);rcases h5 with⟨g,cap',cur,Gr,hg,hhg,hcap,hcm,hcs,hGg,hng,hsub,hrow⟩ | ⟨hx,_⟩
 ·rw[hg] at e3;injection e3 with e4 e5 e6;subst e4;subst e6;obtain⟨ii,hi⟩:∃ ii:Nat,i=ii:=Int.eq_ofNat_of_zero_le hI.1;obtain⟨jj,hj⟩:∃ jj:Nat,j=jj:=Int.eq_ofNat_of_zero_le (by omega);subst hi;subst hj;subst e5;simp only[Int.toNat_natCast] at*;have hrr:rowR M w (cur.toList.take (ys.length*Rep.size β)) ys:=Wh hrow;obtain⟨ti,z,ht1,ht2,hz,hs1,hs2,hs3⟩:=WV hel;have hcl:cur.toList.length=cap*Rep.size β:=by simpa using hcs
  have hjc:jj*Rep.size β<=ys.length*Rep.size β:=Nat.mul_le_mul_right _ (by omega);have hic:ii*Rep.size β<=jj*Rep.size β:=Nat.mul_le_mul_right _ (by omega);have hnc:ys.length*Rep.size β<=cap*Rep.size β:=Nat.mul_le_mul_right _ hcap;have hnews:rowR M w ((cur.toList.take (ys.length*Rep.size β)).drop (jj*Rep.size β)) (ys.drop jj):=Y2 jj (by omega) hrr;have hnl:((cur.toList.take (ys.length*Rep.size β)).drop (jj*Rep.size β)).length=(ys.length - jj)*ti.size:=by
   rw[List.length_drop,List.length_take,hs1,Nat.sub_mul];omega
  have hcell:∀ k u,((cur.toList.take (ys.length*Rep.size β)).drop (jj*Rep.size β))[k]?=some u->w.cell? ⟨g,jj*Rep.size β+k,none⟩=some u:=λ k u hu=>by
   rw[List.getElem?_drop,List.getElem?_take] at hu;split at hu
   ·have:cur[jj*Rep.size β+k]?=some u:=by simpa using hu
    simp[World.cell?,hhg,this]
   ·cases hu
  obtain⟨ad,had,hadc⟩:∃ ad:Addr,(if cap=jj then some (⟨g,0,none⟩:Addr) else(some (⟨g,0,none⟩:Addr)).map (·.add (jj*Rep.size β)))=some ad/\∀ k u,((cur.toList.take (ys.length*Rep.size β)).drop (jj*Rep.size β))[k]?=some u->w.cell? (ad.add k)=some u:=by
   by_cases hcj:cap=jj
   ·refine⟨⟨g,0,none⟩,by rw[Ke hcj],λ k u hu=>?_⟩;have:ys.length - jj=0:=by omega
    rw[this,Nat.zero_mul] at hnl;rw[List.length_eq_zero_iff.1 hnl] at hu;simp at hu
   ·refine⟨⟨g,jj*Rep.size β,none⟩,by rw[Kf hcj,Option.map_some,j9,Nat.zero_add],λ k u hu=>?_⟩;rw[j9];exact hcell k u hu
  have hfit:ii*ti.size+((cur.toList.take (ys.length*Rep.size β)).drop (jj*Rep.size β)).length<=cur.size:=by
   rw[hnl,hs1,hcs,← Nat.add_mul];exact Nat.mul_le_mul_right _ (by omega)
  have hrun:=run_append_room (P:=P) w t o.type e ti ht1 ht2 g ii cap cur hhg ad (ys.length - jj) (cap - jj) _ hnl hadc (λ u hu=>Xa hnews u hu) (by omega) hfit;rw[had] at h2;generalize hcur':(cur.toList.take (ii*ti.size)++((cur.toList.take (ys.length*Rep.size β)).drop (jj*Rep.size β))++cur.toList.drop (ii*ti.size+((cur.toList.take (ys.length*Rep.size β)).drop (jj*Rep.size β)).length)).toArray=cur' at hrun;have hgb:g≠b:=λ e=>n1 (e ▸ hGg)
  have hgr:Grown (zf Gs p) w (w.setRow g cur'):=(Grown.of_grownBy (yW (b:=g))).mono λ k (hk:some g=some k)=>by
   injection hk with hk;rw[← hk];exact hG g (s1 g hGg)
  have hMg:M g:=(h.ob.at_ p g (hG g (s1 g hGg))).2.1;have hsame:∀ k,k≠g->(w.setRow g cur').heap[k]?=w.heap[k]?:=λ k hk=>setRow_other w g k _ hk
  have hrr':rowR M (w.setRow g cur') (cur.toList.take (ys.length*Rep.size β)) ys:=Zt (λ k _ hm=>hsame k λ e=>hm.elim (λ hm=>hm (e ▸ hMg)) λ h=>h.elim) hrr;have hw':(w.setRow g cur').heap[g]?=some (.cells cur' e (0,0)):=setRow_heap w g cur cur' e (0,0) hhg;have hc'l:cur'.toList=cur.toList.take (ii*Rep.size β)++((cur.toList.take (ys.length*Rep.size β)).drop (jj*Rep.size β))++cur.toList.drop ((ii+(ys.length - jj))*Rep.size β):=by
   rw[← hcur',List.toList_toArray,hnl,hs1,← Nat.add_mul]
  have hlen':=cutL_len (ys:=ys) (i:=ii) (j:=jj) (by omega) (by omega);have htk:cur'.toList.take (ys.length*Rep.size β)=(cur.toList.take (ys.length*Rep.size β)).take (ii*Rep.size β)++((cur.toList.take (ys.length*Rep.size β)).drop (jj*Rep.size β))++(cur.toList.take (ys.length*Rep.size β)).drop ((ii+(ys.length - jj))*Rep.size β):=by
   rw[hc'l,List.take_take,Nat.min_eq_left (by omega)];have hl1:(cur.toList.take (ii*Rep.size β)).length=ii*Rep.size β:=by rw[List.length_take,hcl];omega
   have hl2:((cur.toList.take (ys.length*Rep.size β)).drop (jj*Rep.size β)).length=(ys.length - jj)*Rep.size β:=by rw[hnl,hs1]
   have hadd:(ii+(ys.length - jj))*Rep.size β=ii*Rep.size β+(ys.length - jj)*Rep.size β:=Nat.add_mul ..;have hle:(ii+(ys.length - jj))*Rep.size β<=ys.length*Rep.size β:=Nat.mul_le_mul_right _ (by omega);rw[List.take_append,List.take_of_length_le (by rw[List.length_append,hl1,hl2];omega),List.length_append,hl1,hl2,← hadd];simp only[List.drop_take]
  have hro:(Ow.row e (Ow.frz (α:=β))).ro M G1 (w.setRow g cur') ((C.toList.drop off).take 1) (cutL ys ii jj):=by
   refine⟨_,hv,.inl ⟨g,cap,cur',Gr,by rw[hlen'];exact hg,hw',by rw[hlen'];exact hcap,hcm,?_,hGg,hng,hsub,W7 ?_⟩⟩
   ·have:cur'.toList.length=cur'.size:=Array.length_toList;rw[← this,hc'l];simp only[List.length_append,List.length_take,List.length_drop,hcl];have:(ii+(ys.length - jj))*Rep.size β=ii*Rep.size β+(ys.length*Rep.size β - jj*Rep.size β):=by rw[Nat.add_mul,Nat.sub_mul]
    have:(ii+(ys.length - jj))*Rep.size β<=ys.length*Rep.size β:=Nat.mul_le_mul_right _ (by omega);omega
   ·rw[hlen',htk];exact j8 (j8 (WM ii (by omega) hrr') (Y2 jj (by omega) hrr')) (Y2 _ (by omega) hrr')
  refine wpList_plain hgd λ K hK=>OpOut.wp (OpOut.of_value (v:=.slice (some ⟨g,0,none⟩) (ii+(ys.length - jj)) cap) (w':=w.setRow g cur') ?_ ?_)
  ·have hv1:a.eval q1=.slice (some ⟨g,0,none⟩) ii cap:=h1 w a λ s y hs=>h.st.has s y hs
   have hv2:a.eval q2=.slice (some ad) (ys.length - jj) (cap - jj):=h2 w a λ s y hs=>h.st.has s y hs
   unfold execOp;rw[ho];simp[resolve,invoke,builtin,hv1,hv2,hrun]
  ·rw[hd];have st:=h.mut hp hgr hk hq;refine hK _ _ (next _ _ ((st.addO (d:=sb) (p:=p) (x:=dnm ow G (upd (cutL ys ii jj)) v0 [(c,b,off,.slice (some ⟨g,0,none⟩) ys.length cap)]) hsn ⟨k1,⟨cs,?_,k3⟩,λ q hq' hcc=>?_⟩ hG).putL hN (x:=dis _) Z Z))
   ·have hL:Later M G2 w M (w.setRow g cur'):=⟨λ _ _ h=>h,λ k hk hm=>hsame k λ e=>hm.elim (λ hm=>hm (e ▸ hMg)) λ h2=>hdj k (e ▸ hGg) h2⟩;exact put hL hro hdj s1 s2
   ·rcases List.mem_cons.1 hq' with rfl | hq'
    ·refine⟨hGb,?_,?_⟩
     ·show b<(w.setRow g cur').heap.size;have:(w.setRow g cur').heap.size=w.heap.size:=by simp[World.setRow]
      rw[this];exact wC hhb
     ·exact zc8 (u:=.slice (some ⟨g,0,none⟩) ys.length cap) (k4 _ hm hc).2.2 (hsame b (Ne.symm hgb))
    ·cases hq'
 ·subst hx;simp at hI hJ;omega
theorem Sx.stSh{ow:Ow α}{x:α}{n cap m:Nat}{upd:List β->α}(h:Sx F N M0 M Gs L O a w)(p:Nat)(hP:PH ow x v0 cf (Ow.row e (Ow.frz (α:=β))) b off ys upd)(hm:(c,b,off,.slice A n cap)∈cf)(hc:c=true)
  (ho:o.op=.store t q v) (hgd:o.guard=none) (hd:o.dst=none) (ht:tyB P t false 1=true) (hs:(L++envO O).lookup sb=some (dnm ow G x v0 cf)) (hG:∀ b,G b->zf Gs p b) 
  (hpl:OpdR M (λ s=>(L++envO O).lookup s) q (dis (.pointer (some ⟨b,off,none⟩)))) (hvl:OpdR M (λ s=>(L++envO O).lookup s) v (dis (.slice A m cap))) (hmn:m<=n)
  (ks:List Nat) (hk:selP ks L=some L2) (qs:List Nat) (hq:selR L O qs p=some O2) (hsn:L2.lookup sb=none)
  (next:∀ w',Sx F N M0 M Gs L2 ((sb,p,dnm ow G (upd (ys.take m)) v0 [])::O2) a w'->wpList P ops Q rest a w')(hp:p<Gs.length:=by simp):wpList P ops Q (o::rest) a w:=by
 have hsv:=h.st.has sb _ hs;obtain⟨en,ecap⟩:=hP.cap hm hc hsv;obtain⟨k1,⟨cs,k2,k3⟩,k4⟩:=hsv;obtain⟨G1,G2,C,e',s1,s2,hGb,n1,n2,hdj,hhb,hsz,hr,put⟩:=hP.of k2 k3 k4;obtain⟨v1,hv,h5⟩:=hr;have e1:w.cell? ⟨b,off,none⟩=some (.slice A n cap):=XN Z (k4 _ hm hc).2.2;have e2:w.cell? ⟨b,off,none⟩=some v1:=by simp[World.cell?,hhb,Xl hv]
 have e3:Value.slice A n cap=v1:=Option.some.inj (e1.symm.trans e2);have hpv:a.eval q=.pointer (some ⟨b,off,none⟩):=hpl w a λ s y hs=>h.st.has s y hs
 have hvv:a.eval v=.slice A m cap:=hvl w a λ s y hs=>h.st.has s y hs
 have hMb:M b:=(h.ob.at_ p b (hG b hGb)).2.1;have hrun:=xL (P:=P) (w:=w) (t:=t) (off:=off) (v:=a.eval v) (cs:=[a.eval v]) ht (by rw[hvv];rfl) hhb hsz (λ x hx=>by rw[List.mem_singleton.1 hx,hvv];rfl);rw[hvv] at hrun;generalize hC':(C.toList.take off++[Value.slice A m cap]++C.toList.drop (off+[Value.slice A m cap].length)).toArray=C' at hrun;have hw':(w.setRow b C').heap[b]?=some (.cells C' e' (0,0)):=setRow_heap w b C C' e' (0,0) hhb;have hsame:∀ k,k≠b->(w.setRow b C').heap[k]?=w.heap[k]?:=λ k hk=>setRow_other w b k _ hk
 have hgr:Grown (zf Gs p) w (w.setRow b C'):=(Grown.of_grownBy (yW (b:=b))).mono λ k (hk:some b=some k)=>by
  injection hk with hk;rw[← hk];exact hG b hGb
 have hro:(Ow.row e (Ow.frz (α:=β))).ro M G1 (w.setRow b C') [.slice A m cap] (ys.take m):=by
  have hl:(ys.take m).length=m:=by rw[List.length_take];omega
  rcases h5 with⟨g,cap',cur,Gr,hg,hhg,hcap,hcm,hcs,hGg,hng,hsub,hrow⟩ | ⟨hx,A',hA⟩
  ·rw[hg] at e3;injection e3 with e4 e5 e6;subst e4;subst e6;have hgb:g≠b:=λ e=>n1 (e ▸ hGg)
   have hrr:=WM m (by omega) (Zt (w':=w.setRow b C') (λ k _ hm=>hsame k λ e=>hm.elim (λ hm=>hm (e ▸ hMb)) λ h=>h.elim) (Wh hrow));refine⟨_,Z,.inl ⟨g,cap,cur,Gr,by rw[hl],(hsame g hgb).trans hhg,by rw[hl];omega,hcm,hcs,hGg,hng,hsub,?_⟩⟩;rw[List.take_take,Nat.min_eq_left (Nat.mul_le_mul_right _ (by omega))] at hrr;rw[hl];exact W7 hrr
  ·rw[hA] at e3;injection e3 with e4 e5 e6;subst hx;subst e5;subst e6;have:m=0:=by omega
   subst this;exact⟨_,Z,.inr ⟨Z,A,Z⟩⟩
 refine wpList_plain hgd λ K hK=>OpOut.wp (OpOut.of_skip (w':=w.setRow b C') ?_ ?_)
 ·unfold execOp;rw[ho];simp only[Instr.storeAt,Instr.sureAddr,hpv,hvv,Sem.run_bind,Sem.run_pure,Result.andThen_ok,hrun]
 ·rw[hd];have st:=h.mut hp hgr hk hq;refine hK _ _ (next _ (st.addO (d:=sb) (p:=p) (x:=dnm ow G (upd (ys.take m)) v0 []) hsn ⟨k1,⟨cs,?_,k3⟩,λ q hq' _=>by cases hq'⟩ hG));have hL:Later M G2 w M (w.setRow b C'):=⟨λ _ _ h=>h,λ k hk hm=>hsame k λ e=>hm.elim (λ hm=>hm (e ▸ hMb)) λ h2=>n2 (e ▸ h2)⟩;exact put hL (by rw[hw',← hC'];rfl) hro n1 hdj hGb s1 s2
theorem cut_le{τ:Type}{ys r1 r2:List τ}(h1:XF ys i=some r1)(h2:JS ys j=some r2)(h:decide (i<j)=true):i.toNat+(ys.length - j.toNat)<=ys.length:=by
 have h:=oD h;unfold XF at h1;unfold JS at h2;split at h1
 ·split at h2
  ·omega
  ·cases h2
 ·cases h1
end
section
variable{α β γ:Type}[Rep α][Rep β][Rep γ]
variable{fn:Func}{look:Nat->Option Dt}
theorem FnN.thin{xs:List Dt}{o1 o2:Ow α}{x:α}(ht:Thin o1 o2)(h:FnN P f xs (.ow o1 x)):FnN P f xs (.ow o2 x):=λ M w vs hm hr=>(h M w vs hm hr).mono λ en w' ⟨v,G,he,hex,hG,⟨cs,h2,h3⟩⟩=>by
 obtain⟨G',s1,h4⟩:=ht h2;refine⟨v,G',he,hex,λ b hb=>hG b (s1 b hb),cs,o2.weak h4 λ k _ hk=>?_,h3⟩;rcases hk with hk | hk
 ·exact⟨.inl hk,.inl λ hg=>by have:=(hG k hg).1;have:=hm k hk;omega⟩
 ·exact⟨.inr (s1 k hk),.inr hk⟩
end
section
variable{fn:Func}{look:Nat->Option Dt}
variable{α β:Type}[Rep α][Rep β]
theorem Sx.stN{ow ow2:Ow α}{oy:Ow β}{q:Nat}{x x2:α}{y':β}(h:Sx F N M0 M Gs L O a w)(p:Nat)(ho:o.op=.store t (.tmp q) vo)(hgd:o.guard=none)(hd:o.dst=none)(ht:tyB P t (Rep.agg β) (Rep.size β)=true)(hp:p<Gs.length)
  (hq':Act.at a q=.pointer (some ⟨b,off,none⟩)) (hcv:(a.eval vo).cells.toList=cy) (hy:oy.ro M G3 w cy y') (hs:(L++envO O).lookup sb=some (dnm ow.box G ⟨x⟩ (.pointer (some ⟨b,0,none⟩)) cf)) (hG:∀ b,G b->zf Gs p b) (hG3:∀ b,G3 b->¬ zf Gs p b) (hoff:off+Rep.size β<=Rep.size α)
  (hnew:∀ {M G1 G3:Nat->Prop} {w:World} {cells:List Value},ow.ro M G1 w cells x->oy.ro M G3 w cy y'->(∀ k,G1 k->¬ G3 k)->ow2.ro M (λ k=>G1 k\/G3 k) w (cells.take off++cy++cells.drop (off+Rep.size β)) x2)
  (ks:List Nat) (hk:selP ks L=some L2) (qs:List Nat) (hq:selR L O qs p=some O2)
  (next:∀ w',Sx F N M0 M Gs L2 O2 a w'->(dnm ow2.box (λ k=>G k\/G3 k) ⟨x2⟩ (.pointer (some ⟨b,0,none⟩)) []).rd M w' (Act.at a sb)->wpList P ops Q rest a w'):wpList P ops Q (o::rest) a w:=by
 obtain⟨h1,⟨cs,⟨b',C,e,Gr,hc,hh,hGb,hn,hsub,hro⟩,h3⟩,_⟩:=h.st.has sb _ hs;have hb:b'=b:=by
  rw[hc] at h3;have h3:Value.pointer (some ⟨b,0,none⟩)=.pointer (some ⟨b',0,none⟩):=h3;injection h3 with h3;injection h3 with h3;injection h3 with h3;exact h3.symm
 subst hb;have hcl:cy.length=Rep.size β:=oy.len hy;have hCl:C.toList.length=Rep.size α:=ow.len hro;have hCs:C.size=Rep.size α:=by rw[← Array.length_toList];exact hCl
 have hone:=oy.one hy;have hob:=hG b' hGb;have hMb:=(h.ob.at_ p b' hob).2.1;have hrun:=xL (P:=P) (w:=w) (t:=t) (off:=off) (v:=a.eval vo) (cs:=cy) (by rw[hcl];exact ht) hcv hh (by rw[hcl,hCs];exact hoff) hone;generalize hC':(C.toList.take off++cy++C.toList.drop (off+cy.length)).toArray=C' at hrun;have hw':(w.setRow b' C').heap[b']?=some (.cells C' e (0,0)):=setRow_heap w b' C C' e (0,0) hh;have hsame:∀ k,k≠b'->(w.setRow b' C').heap[k]?=w.heap[k]?:=λ k hk=>setRow_other w b' k _ hk
 have hgr:Grown (zf Gs p) w (w.setRow b' C'):=(Grown.of_grownBy (yW (b:=b'))).mono λ k (hk:some b'=some k)=>by
  injection hk with hk;rw[← hk];exact hob
 have hL:∀ G5:Nat->Prop,¬ G5 b'->Same M G5 w (w.setRow b' C'):=λ G5 hn5 k _ hm=>hsame k λ e=>hm.elim (λ hm=>hm (e ▸ hMb)) λ h2=>hn5 (e ▸ h2)
 have nb3:¬ G3 b':=λ h3=>hG3 b' h3 hob
 refine wpList_plain hgd λ K hK=>OpOut.wp (OpOut.of_skip (w':=w.setRow b' C') ?_ ?_)
 ·unfold execOp;rw[ho];have hpv':a.eval (.tmp q)=.pointer (some ⟨b',off,none⟩):=hq';simp only[Instr.storeAt,Instr.sureAddr,hpv',Sem.run_bind,Sem.run_pure,Result.andThen_ok,hrun]
 ·rw[hd];refine hK _ _ (next _ (h.mut hp hgr hk hq) ⟨h1,⟨_,⟨b',C',e,λ k=>Gr k\/G3 k,Z,hw',.inl hGb,λ h=>h.elim hn nb3,λ k hk=>hk.imp (hsub k) id,?_⟩,Z⟩,λ q hq _=>by cases hq⟩);have:=hnew (ow.stable hro (hL Gr hn)) (oy.stable hy (hL G3 nb3)) λ k hk hk2=>hG3 k hk2 (hG k (hsub k hk))
  have e1:C'.toList=C.toList.take off++cy++C.toList.drop (off+Rep.size β):=by rw[← hC',List.toList_toArray,hcl]
  show ow2.ro M _ _ C'.toList x2;rw[e1];exact this
theorem Sx.stFz{ow ow2:Ow α}{x y:α}(h:Sx F N M0 M Gs L O a w)(p:Nat)(hz:∀ {M:Nat->Prop} {w:World} {cs:List Value},Rep.rdc M w cs y->ow2.ro M noB w cs y)(ho:o.op=.store t (.tmp sb) vo)(hgd:o.guard=none)(hd:o.dst=none)(ht:tyB P t (Rep.agg α) (Rep.size α)=true)
  (hs:(L++envO O).lookup sb=some (dnm ow.box G ⟨x⟩ (.pointer (some ⟨b,0,none⟩)) cf)) (hvl:OpdR M (λ s=>(L++envO O).lookup s) vo (dt y)) (hG:∀ b,G b->zf Gs p b)
  (ks:List Nat) (hk:selP ks L=some L2) (qs:List Nat) (hq:selR L O qs p=some O2) (hsn:L2.lookup sb=none)
  (next:∀ w',Sx F N M0 M Gs L2 ((sb,p,dnm ow2.box G ⟨y⟩ (.pointer (some ⟨b,0,none⟩)) [])::O2) a w'->wpList P ops Q rest a w')(hp:p<Gs.length:=by simp):wpList P ops Q (o::rest) a w:=by
 have hy:=qV (hvl w a λ s y hs=>h.st.has s y hs);refine h.stN (ow2:=ow2) (oy:=Ow.frz) (G3:=noB) (x2:=y) (off:=0) p ho hgd hd ht hp (h.st.has sb _ hs).1 Z hy hs hG (λ _ h=>h.elim) (by omega) (λ{M G1 G3 w cells} h1 h2 _=>?_) ks hk qs hq λ w' st hr=>next w' (st.addO hsn ?_ hG)
 ·have hl:=ow.len h1;rw[List.take_zero,List.nil_append,List.drop_of_length_le (by omega),List.append_nil];exact ow2.more (hz h2) λ _ h=>h.elim
 ·have e:(λ k=>G k\/noB k)=G:=by funext k;simp[noB]
  rwa[e] at hr
theorem owDir.ofR{cs:List Value}(h:Rep.rdc M w cs y):(owDir (Ow.frz (α:=List Str))).ro M noB w cs y:=by
 obtain⟨c0,r0,hc,k0,c1,r1,hc1,k1,c2,c3,hc2,k2,k3⟩:=h;exact⟨noB,noB,c0,r0,λ _ h=>h.elim,λ _ h=>h.elim,λ _ h=>h.elim,hc,k0,noB,noB,c1,r1,λ _ h=>h.elim,λ _ h=>h.elim,λ _ h=>h.elim,hc1,k1,noB,noB,c2,c3,λ _ h=>h.elim,λ _ h=>h.elim,λ _ h=>h.elim,hc2,k2,k3⟩
theorem Sx.stTk{ow ow2:Ow α}{q:Nat}{x x2:α}{r:List β}(h:Sx F N M0 M Gs L O a w)(p p2:Nat)
  (hnew:∀ {M G1 G3:Nat->Prop} {w:World} {cells cy:List Value},ow.ro M G1 w cells x->(Ow.row e (Ow.frz (α:=β))).ro M G3 w cy r->(∀ k,G1 k->¬ G3 k)->ow2.ro M (λ k=>G1 k\/G3 k) w (cells.take off++cy++cells.drop (off+1)) x2)
  (ho:o.op=.store t (.tmp q) (.tmp tv)) (hgd:o.guard=none) (hd:o.dst=none) (ht:tyB P t false 1=true)   
  (hpl:OpdR M (λ s=>(L++envO O).lookup s) (.tmp q) (dis (.pointer (some ⟨b,off,none⟩)))) (hvl:(L++envO O).lookup tv=some (dow (Ow.row e (Ow.frz (α:=β))) G3 r)) (hs:(L++envO O).lookup sb=some (dnm ow.box G ⟨x⟩ (.pointer (some ⟨b,0,none⟩)) cf)) (hG:∀ b,G b->zf Gs p b) (hG3:∀ b,G3 b->zf Gs p2 b)
  (ks:List Nat) (hk:selP ks L=some L2) (qs:List Nat) (hq:selR L O qs p=some O2) (hq2:O2.all (λ q=>q.2.1 != p2)=true) (hsn:L2.lookup sb=none)
  (next:∀ G' w',Sx F N M0 M ((Gs.set p G').set p2 (oneB none)) L2 ((sb,p,dnm ow2.box G' ⟨x2⟩ (.pointer (some ⟨b,0,none⟩)) [])::O2) a w'->wpList P ops Q rest a w')(hoff:off+1<=Rep.size α:=by decide)(hp:p<Gs.length:=by simp)(hp2:p2<Gs.length:=by simp)(hne:p≠p2:=by decide):wpList P ops Q (o::rest) a w:=by
 obtain⟨cy,hy,hyv⟩:=h.st.has tv _ hvl;have hcv:(Act.at a tv).cells.toList=cy:=by rw[hyv];exact qU ((Ow.row e (Ow.frz (α:=β))).toR hy)
 refine h.stN (ow2:=ow2) (x2:=x2) (off:=off) p ho hgd hd ht hp (hpl w a λ s y hs=>h.st.has s y hs) hcv hy hs hG (λ b hb hb2=>h.ob.apart p p2 b hne hb2 (hG3 b hb)) hoff hnew ks hk qs hq λ w' st hr=>?_
 have k1:=st.mrg hp hp2 hne hq2;have ej:QF Gs p p2=(Gs.set p (λ b=>zf Gs p b\/zf Gs p2 b)).set p2 (oneB none):=rfl;rw[ej] at k1;refine next _ w' (k1.addO (x:=dnm ow2.box (λ b=>zf Gs p b\/zf Gs p2 b) ⟨x2⟩ (.pointer (some ⟨b,0,none⟩)) []) hsn ⟨hr.1,?_,λ q hq _=>by cases hq⟩ λ c hc=>?_)
 ·obtain⟨cs,h1,h2⟩:=hr.2.1;exact⟨cs,(ow2.box).more h1 λ k hk=>hk.imp (hG k) (hG3 k),h2⟩
 ·rw[zt (Ne.symm hne),zp hp];exact hc
theorem owSpec.tk{x:Spec}{r:List Int}{cells:List Value}(h1:(owSpec (Ow.frz (α:=List Int))).ro M G1 w cells x)(h2:(Ow.row e (Ow.frz (α:=Int))).ro M G3 w cy r)(_:∀ k,G1 k->¬ G3 k):(owSpec (Ow.row e (Ow.frz (α:=Int)))).ro M (λ k=>G1 k\/G3 k) w (cells.take 2++cy++cells.drop (2+1)) { x with roots:=r }:=by
 obtain⟨_,_,c0,r0,_,_,_,hc,k0,_,_,c1,c2,_,_,_,hc2,k1,k2⟩:=h1;have l0:c0.length=1:=Rep.len (α:=Int) k0;have l1:c1.length=1:=Rep.len (α:=Int) k1;have l2:c2.length=1:=Rep.len (α:=List Int) k2;rw[hc2] at hc;have e1:cells.take 2=c0++c1:=by rw[hc,← List.append_assoc,List.take_left' (by simp[l0,l1])]
 have e2:cells.drop (2+1)=[]:=by rw[List.drop_of_length_le];simp[hc,l0,l1,l2]
 rw[e1,e2,List.append_nil];have:=owSpec.mk (x:={ x with roots:=r }) (a2:=Ow.row e (Ow.frz (α:=Int))) k0 k1 h2;simp only[List.flatten_cons,List.flatten_nil,List.append_nil] at this;rw[List.append_assoc];exact(owSpec _).more this λ _ h=>.inr h
theorem owDir.tk{x:Dir}{r:List Str}{cells:List Value}(h1:(owDir (Ow.frz (α:=List Str))).ro M G1 w cells x)(h2:(Ow.row e (Ow.frz (α:=Str))).ro M G3 w cy r)(_:∀ k,G1 k->¬ G3 k):(owDir (Ow.row e (Ow.frz (α:=Str)))).ro M (λ k=>G1 k\/G3 k) w (cells.take 3++cy++cells.drop (3+1)) { x with names:=r }:=by
 obtain⟨_,_,c0,r0,_,_,_,hc,k0,_,_,c1,r1,_,_,_,hc1,k1,_,_,c2,c3,_,_,_,hc2,k2,k3⟩:=h1;have l0:c0.length=1:=Rep.len (α:=Int) k0;have l1:c1.length=1:=Rep.len (α:=Str) k1;have l2:c2.length=1:=Rep.len (α:=Int) k2;have l3:c3.length=1:=Rep.len (α:=List Str) k3;rw[hc1,hc2] at hc;have e1:cells.take 3=c0++(c1++c2):=by
  rw[hc,← List.append_assoc,← List.append_assoc,List.take_left' (by simp[l0,l1,l2]),List.append_assoc]
 have e2:cells.drop (3+1)=[]:=by rw[List.drop_of_length_le];simp[hc,l0,l1,l2,l3]
 rw[e1,e2,List.append_nil];have:=owDir.mk (x:={ x with names:=r }) (a3:=Ow.row e (Ow.frz (α:=Str))) k0 k1 k2 h2;simp only[List.flatten_cons,List.flatten_nil,List.append_nil] at this;rw[List.append_assoc,List.append_assoc];exact(owDir _).more this λ _ h=>.inr h
end
structure RInvK(P:Program)(F:Frm)(M:Nat->Prop)(ops:Array Oper)(N k:Nat)(T:List (List Nat))(xs:List (Nat×Dt))(s sb:Nat)(G:Nat->Prop)(Z:Dt)(a0:Act)(w1:World)(listed:Array Bool)(a:Act)(w:World):Prop where
 sz:listed.size=ops.size
 size:a.tmps.size=N
 defers:a.defers=a0.defers
 fr:F.J w
 grown:Grown G w1 w
 ext:listed.getD s false=false->Ext0 w1 w
 tail:∀ i,k<=i->listed.getD i false=false
 clos:Jz T ops.size listed
 done:∀ i,i≠s->listed.getD i false=true->∀ x d,xs[i]?=some (d,x)->(listed.getD s false=false\/∀ b,x.own b->¬ G b)->x.rd M w (Act.at a d)
 rest:∀ t,(∀ i,listed.getD i false=true->yG ops i≠some t)->Act.at a t=Act.at a0 t
 z:listed.getD s false=true->Z.rd M w (Act.at a sb)
section
end
def KD(Gs:List (Nat->Prop))(p:Nat):List Dt->Prop
 | []=>True
 | y::l=>(y.nb=true\/∃ p',p'≠p/\∀ b,y.own b->zf Gs p' b)/\KD Gs p l
theorem KD.get{Gs:List (Nat->Prop)}{p:Nat}:∀ {l:List Dt},KD Gs p l->∀ y∈l,y.nb=true\/∃ p',p'≠p/\∀ b,y.own b->zf Gs p' b
 |_::l,h,y,hy=>by
  rcases List.mem_cons.1 hy with rfl | hy
  ·exact h.1
  ·exact KD.get h.2 y hy
section
end
def dbd(G:Nat->Prop)(n:Nat):Dt where
 rd _ w v:=∃ b C e,v=.pointer (some ⟨b,0,none⟩)/\G b/\w.heap[b]?=some (.cells C e (0,0))/\C.size=n
 own:=G
 nb:=false
 nob h:=by cases h
 stable:=λ⟨b,C,e,hv,hG,hh,hn⟩ k=>⟨b,C,e,hv,hG,(k b (wC hh) (.inr hG)).trans hh,hn⟩
 weak h _:=h
section
variable{fn:Func}
variable{α:Type}[Rep α]
theorem Sx.ldK{ow:Ow α}{x:Bx α}(h:Sx F N M0 M Gs L O a w)(p p2:Nat)(hh:opH o N=some d)(ho:o.op=.load t (.tmp sb))(ht:tyB P t (Rep.agg α) (Rep.size α)=true)(hsl:(L++envO O).lookup sb=some (dnm ow.box G x v0 cf))(hG:∀ b,G b->zf Gs p b)
  (ks:List Nat) (hk:selP ks L=some L2) (qs:List Nat) (hq:selR L O qs p=some O2) (hq2:O2.all (λ q=>q.2.1 != p&&q.2.1 != p2)=true) (hdn:L2.lookup d=none) (hsn:L2.lookup sb=none)
  (next:∀ G1 G2 a' w',Sx F N M0 M ((Gs.set p G1).set p2 G2) L2 ((d,p2,dow ow G2 x.x)::(sb,p,dbd G1 (Rep.size α))::O2) a' w'->wpList P ops Q rest a' w')(hp:p<Gs.length:=by simp)(hp2:p2<Gs.length:=by simp)(hne:p≠p2:=by decide):wpList P ops Q (o::rest) a w:=by
 obtain⟨hgd,hd,hN⟩:=zR hh;obtain⟨h1,⟨cs,⟨b,C,e,Gr,hc,hb,hGb,hn,hs,hro⟩,h3⟩,_⟩:=h.st.has sb _ hsl;have hrr:=ow.toR hro;have hc':∀ j u,C.toList[j]?=some u->w.cell? ⟨b,0+j,none⟩=some u:=λ j u hj=>by
  rw[Nat.zero_add];have:C[j]?=some u:=by simpa using hj
  simp[World.cell?,hb,this]
 have hld:=yS ht (Rep.len hrr) Rep.one hc';have hsv:Act.at a sb=.pointer (some ⟨b,0,none⟩):=by rw[h1,h3,hc];rfl
 refine wpList_plain hgd λ K hK=>OpOut.wp (OpOut.of_value (v:=mkv (Rep.agg α) C.toList) (w':=w) ?_ ?_)
 ·unfold execOp;rw[ho];have hev:a.eval (.tmp sb)=.pointer (some ⟨b,0,none⟩):=hsv;simp[Instr.loadAt,Instr.sureAddr,hev,hld]
 ·rw[hd];have k1:=h.mut hp (Grown.refl _ w) hk hq;have k2:=k1.spl (p:=p) (p2:=p2) (A:=λ k=>k=b) (B:=Gr) hp hp2 hne (λ k hk=>by rw[show k=b from hk];exact hG b hGb) (λ k hk=>hG k (hs k hk)) (λ k hk hg=>hn ((show k=b from hk) ▸ hg)) hq2;have k3:=k2.addO (d:=sb) (p:=p) (x:=dbd (λ k=>k=b) (Rep.size α)) hsn ⟨b,C,e,hsv,Z,hb,by rw[← Array.length_toList];exact ow.len hro⟩ λ k hk=>by rw[zt (Ne.symm hne),zp hp];exact hk
  exact hK _ _ (next _ Gr _ _ (k3.putO hN hdn (x:=dow ow Gr x.x) ⟨_,hro,Z⟩ λ k hk=>by rw[zp (by simpa using hp2)];exact hk))
theorem Sx.stRv{ow:Ow α}{n:Nat}{y:α}(h:Sx F N M0 M Gs L O a w)(p p2:Nat)(ho:o.op=.store t (.tmp sb) (.tmp tv))(hgd:o.guard=none)(hd:o.dst=none)(ht:tyB P t (Rep.agg α) (Rep.size α)=true)
  (hsl:(L++envO O).lookup sb=some (dbd G1 n)) (hn:n=Rep.size α) (hG1:∀ b,G1 b->zf Gs p b) (hvl:(L++envO O).lookup tv=some (dow ow G3 y)) (hG3:∀ b,G3 b->zf Gs p2 b)
  (ks:List Nat) (hk:selP ks L=some L2) (qs:List Nat) (hq:selR L O qs p=some O2) (hq2:O2.all (λ q=>q.2.1 != p2)=true) (hsn:L2.lookup sb=none)
  (next:∀ G' w',Sx F N M0 M ((Gs.set p G').set p2 (oneB none)) L2 ((sb,p,dow ow.box G' ⟨y⟩)::O2) a w'->wpList P ops Q rest a w')(hp:p<Gs.length:=by simp)(hp2:p2<Gs.length:=by simp)(hne:p≠p2:=by decide):wpList P ops Q (o::rest) a w:=by
 obtain⟨b,C,e,hsv,hGb,hh,hsz⟩:=h.st.has sb _ hsl;obtain⟨cy,hy,hyv⟩:=h.st.has tv _ hvl;have hcl:=ow.len hy;have hone:=ow.one hy;have hcv:(a.eval (.tmp tv)).cells.toList=cy:=by
  have:a.eval (.tmp tv)=mkv (Rep.agg α) cy:=hyv;rw[this];exact qU (ow.toR hy)
 have hob:=hG1 b hGb;have hMb:=(h.ob.at_ p b hob).2.1;have hrun:=xL (P:=P) (w:=w) (t:=t) (off:=0) (v:=a.eval (.tmp tv)) (cs:=cy) (by rw[hcl];exact ht) hcv hh (by rw[hcl,hsz,hn];omega) hone;have hC':C.toList.take 0++cy++C.toList.drop (0+cy.length)=cy:=by
  rw[List.take_zero,List.nil_append,List.drop_of_length_le (by rw[Array.length_toList];omega),List.append_nil]
 rw[hC'] at hrun;have hw':(w.setRow b cy.toArray).heap[b]?=some (.cells cy.toArray e (0,0)):=setRow_heap w b C _ e (0,0) hh;have hgr:Grown (zf Gs p) w (w.setRow b cy.toArray):=(Grown.of_grownBy (yW (b:=b))).mono λ k (hk:some b=some k)=>by
  injection hk with hk;rw[← hk];exact hob
 have nb3:∀ k,G3 k->k≠b:=λ k hk e=>h.ob.apart p p2 b hne hob (e ▸ hG3 k hk)
 refine wpList_plain hgd λ K hK=>OpOut.wp (OpOut.of_skip (w':=w.setRow b cy.toArray) ?_ ?_)
 ·unfold execOp;rw[ho];have hpv:a.eval (.tmp sb)=.pointer (some ⟨b,0,none⟩):=hsv;simp only[Instr.storeAt,Instr.sureAddr,hpv,Sem.run_bind,Sem.run_pure,Result.andThen_ok,hrun]
 ·rw[hd];have k1:=(h.mut hp hgr hk hq).mrg hp hp2 hne hq2;have ej:QF Gs p p2=(Gs.set p (λ b=>zf Gs p b\/zf Gs p2 b)).set p2 (oneB none):=rfl;rw[ej] at k1;refine hK _ _ (next (λ b=>zf Gs p b\/zf Gs p2 b) _ (k1.addO (x:=dow ow.box (λ b=>zf Gs p b\/zf Gs p2 b) ⟨y⟩) hsn ⟨_,⟨b,_,e,G3,Z,hw',.inl hob,λ h3=>nb3 b h3 Z,λ k hk=>.inr (hG3 k hk),?_⟩,hsv⟩ λ c hc=>?_))
  ·rw[List.toList_toArray];exact ow.stable hy λ k _ hm=>setRow_other w b k _ λ e=>by
    rw[e] at hm;exact hm.elim (λ hm=>hm hMb) λ h3=>nb3 b h3 Z
  ·rw[zt (Ne.symm hne),zp hp];exact hc
end
theorem owFinder.tk{x:Finder}{r:List Dir}{cells:List Value}(h1:(owFinder (Ow.frz (α:=List Dir))).ro M G1 w cells x)(h2:(Ow.row e (Ow.frz (α:=Dir))).ro M G3 w cy r)(_:∀ k,G1 k->¬ G3 k):(owFinder (Ow.row e (Ow.frz (α:=Dir)))).ro M (λ k=>G1 k\/G3 k) w (cells.take 0++cy++cells.drop (0+1)) { x with dirs:=r }:=by
 obtain⟨_,_,c0,r0,_,_,_,hc,k0,_,_,c1,c2,_,_,_,hc2,k1,k2⟩:=h1;have l0:c0.length=1:=Rep.len (α:=List Dir) k0;have e2:cells.drop (0+1)=c1++c2:=by rw[hc,hc2,List.drop_left' (by omega)]
 rw[e2,List.take_zero,List.nil_append];have:=owFinder.mk (x:={ x with dirs:=r }) (a0:=Ow.row e (Ow.frz (α:=Dir))) h2 k1 k2;simp only[List.flatten_cons,List.flatten_nil,List.append_nil] at this;exact(owFinder _).more this λ _ h=>.inr h
structure FzC where
 M:Nat->Prop
 w:World
def Fz(c:FzC)(w:World):Prop:=∀ k,k<c.w.heap.size->¬ c.M k->w.heap[k]?=c.w.heap[k]?
theorem Fz.lt{c:FzC}(h:Fz c w)(hk:k<c.w.heap.size)(hm:¬ c.M k):k<w.heap.size:=by
 have h1:=h k hk hm;rw[Array.getElem?_eq_getElem hk] at h1;exact(Array.getElem?_eq_some_iff.1 h1).1
def dfz(c:FzC):Dt where
 rd M w _:=(∀ k,k<c.w.heap.size->M k->c.M k)/\Fz c w
 own:=noB
 nb:=true
 nob _ _ h:=h
 stable:=λ⟨h2,h3⟩ e=>⟨h2,λ k hk hm=>(e k (h3.lt hk hm) (.inl λ h=>hm (h2 k hk h))).trans (h3 k hk hm)⟩
 weak:=λ⟨h2,h3⟩ e=>⟨λ k hk hm=>Classical.byContradiction λ hc=>hc (h2 k hk (e k (h3.lt hk hc) hm)),h3⟩
section
variable{S:World->Prop}{f:Nat}
variable{α:Type}[Rep α]
theorem Sx.heldF(h:Sx F N M0 M Gs L O a w){id:Nat}(hm:P.follows .mixedOrders=true)
  (hQ:∀ (c:FzC) w',(∀ w2,Fz c w2->∀ k,k<w'.heap.size->¬ M k->w2.heap[k]?=w'.heap[k]?)->Sx F N M0 M Gs ((N,dfz c)::L) O a w'->wpAnyH P .any ops Q (Fz c) ops.size (Array.replicate ops.size false) a w'):(Code.region id ops true).wp P Q a w:=
 wp_region_held (S:=Fz ⟨M,w⟩) hm (hQ ⟨M,w⟩ _ (λ _ h=>h) (h.drew.addL (s:=N) (y:=dfz ⟨M,w⟩) ⟨λ _ _ h=>h,λ _ _ _=>Z⟩))
theorem Sx.fzS{g:Nat}{c:FzC}(h:Sx F N M0 M Gs L O a w)(hs:(L++envO O).lookup g=some (dfz c):=by rfl):Fz c w:=(h.st.has g _ hs).2
theorem Sx.tkLp{i:Nat}{x:α}(h:Sx F N M0 M Gs L O a w)
   (hS:S w) (hz:∀ w2,S w2->∀ k,k<w.heap.size->¬ M k->w2.heap[k]?=w.heap[k]?)   (hq:OpdR M (λ s=>(L++envO O).lookup s) q (dptr x))
  (next:∀ a',Sx F N M0 M Gs ((d,dt x)::L) O a' w->wpAnyH P .any ops Q S f (listed.setIfInBounds i true) a' w)(ho:ops[i]?=some o:=by rfl)(hh:opH o N=some d:=by rfl)(hs:Region.noSelect ops=true:=by decide +kernel)(hf:Region.free .any ops listed i=true:=by decide +kernel)(hr:(Region.ready .any ops listed).contains i=true:=by decide +kernel)(hQ:∀ c a w v,Q (.panic c) (a.put o.dst v) w->Q (.panic c) a w:=by exact λ _ _ _ _ h=>h)(hop:o.op=.load t q:=by rfl)(ht:tyB P t (Rep.agg α) (Rep.size α)=true:=by kernel_rfl):wpAnyH P .any ops Q S (f+1) listed a w:=by
 obtain⟨b,off,cs,hv,hb,hc,hr2⟩:=hq w a λ s y hy=>h.st.has s y hy
 have hpos:=Rep.pos (α:=α);have hl:=Rep.len hr2;have hlt:b<w.heap.size:=by
  have h1:=hc 0 _ (List.getElem?_eq_getElem (by omega:0<cs.length));unfold World.cell? at h1;cases he:w.heap[b]? with
  | none=>simp[he] at h1
  | some v=>exact(Array.getElem?_eq_some_iff.1 he).1
 refine h.tkY (v:=mkv (Rep.agg α) cs) (y:=dt x) ho hh hs hf hr (λ c a w=>hQ c a w _) hS (λ w' hw'=>?_) ⟨cs,hr2,Z⟩ next;have hcell:∀ j u,cs[j]?=some u->w'.cell? ⟨b,off+j,none⟩=some u:=λ j u hj=>(cell_same (hz w' hw' b hlt hb)).trans (hc j u hj)
 have hld:=yS (P:=P) (w:=w') ht hl Rep.one hcell;unfold execOp;rw[hop];simp[Instr.loadAt,Instr.sureAddr,hv,hld]
end
theorem lt_i64{n:Int}(h:i64 (n+1)=some m):n<m:=by have:=(i64_get h).1;omega
section
variable{α β:Type}[Rep α][Rep β]
variable{fn:Func}
end
section
variable{fn:Func}{look:Nat->Option Dt}
variable{α β:Type}[Rep α][Rep β]
variable{ys:List β}
theorem Sx.capN{n cap:Nat}(h:Sx F N M0 M Gs L O a w)(hs:(L++envO O).lookup s=some (dnm (Ow.row e (Ow.frz (α:=β))) G ys (.slice A n cap) cf)):n=ys.length/\n<=cap:=by
 obtain⟨_,⟨cs,⟨v,hv,h5⟩,h3⟩,_⟩:=h.st.has s _ hs;subst hv;have h3:Value.slice A n cap=v:=h3;rcases h5 with⟨g,cap',cur,Gr,hg,_,hcap,_⟩ | ⟨hx,A',hA⟩
 ·rw[hg] at h3;injection h3 with e4 e5 e6;subst e5;subst e6;exact⟨Z,hcap⟩
 ·rw[hA] at h3;injection h3 with e4 e5 e6;subst e5;subst e6;subst hx;exact⟨Z,Nat.le_refl _⟩
theorem op_sl{n cap:Nat}{lo:Option Operand}{i j:Option Int}(ho:o.op=.slice t q lo hi none)(ht:slB P t sz=true)(hq:OpdR M look q (dis (.slice A n cap)))
  (hl:∀ (w:World) (a:Act),(∀ s y,look s=some y->y.rd M w (Act.at a s))->lo.map a.eval=i.map (Value.int .i64)) (hh:∀ (w:World) (a:Act),(∀ s y,look s=some y->y.rd M w (Act.at a s))->hi.map a.eval=j.map (Value.int .i64))
  (h1:0<=i.getD 0) (h2:i.getD 0<=j.getD n) (h3:j.getD n<=cap):OpRel P M look o (dis (.slice (if cap=(i.getD 0).toNat then A else A.map (·.add ((i.getD 0).toNat*sz))) ((j.getD n).toNat - (i.getD 0).toNat) (cap - (i.getD 0).toNat))):=
 zz λ a w _ hlk=>by
  obtain⟨_,ht⟩:=jL ht;have hrun:=XK ht A n cap i j (h1:=h1) h2 h3 w;refine⟨_,?_,Z⟩;have hv:a.eval q=.slice A n cap:=hq w a hlk;unfold execOp;rw[ho];simp only[hl w a hlk,hh w a hlk,hv,Option.map_none,Sem.run_bind,hrun,Result.andThen_ok,Sem.run_pure]
theorem op_sl3{n cap:Nat}{x1 x2 x3:Operand}(ho:o.op=.slice t q (some x1) (some x2) (some x3))(ht:slB P t sz=true)(hq:OpdR M look q (dis (.slice A n cap)))(h1:OpdR M look x1 (dt i))(h2:OpdR M look x2 (dt j))(h3:OpdR M look x3 (dt m))
  (k1:0<=i) (k2:i<=j) (k3:j<=m) (k4:m<=cap):OpRel P M look o QD:=
 zz λ a w _ hlk=>by
  obtain⟨_,ht⟩:=jL ht;obtain⟨ti,ht1,ht2,ht3⟩:=qS ht;obtain⟨i,rfl⟩:=Int.eq_ofNat_of_zero_le k1;obtain⟨j,rfl⟩:=Int.eq_ofNat_of_zero_le (Int.le_trans k1 k2);obtain⟨m,rfl⟩:=Int.eq_ofNat_of_zero_le (Int.le_trans (Int.le_trans k1 k2) k3);have e1:i<=j:=by omega
  have e2:j<=m:=by omega
  have e3:m<=cap:=by omega
  have hv:a.eval q=.slice A n cap:=hq w a hlk;have hrun:∃ v,(Instr.sliceAt t (.slice A n cap) (some (.int .i64 (i:Int))) (some (.int .i64 (j:Int))) (some (.int .i64 (m:Int)))).run P w=.ok v w:=by
   simp[Instr.sliceAt,Instr.slice,run_underlying ht1,Instr.sliceBounds,Instr.sliceBound,asIntOf,sizeOf,typeInfo,ht2,ht3,e1,e2,e3]
  obtain⟨v,hrun⟩:=hrun;refine⟨v,?_,trivial⟩;unfold execOp;rw[ho];simp only[Option.map_some,hv,yi.1 (h1 w a hlk),yi.1 (h2 w a hlk),yi.1 (h3 w a hlk),Sem.run_bind,hrun,Result.andThen_ok,Sem.run_pure]
theorem Sx.apCutV{n cap i j:Nat}{q1:Operand}(h:Sx F N M0 M Gs L O a w)(p:Nat)
  (hh:opH o N=some d) (ho:o.op=.call { callee:=.builtin .append,args:=#[q1,q2],argTypes:=#[t,t] }) (hel:elB P t e (Rep.size β) bytes=true) (hs:(L++envO O).lookup sb=some (dnm (Ow.row e (Ow.frz (α:=β))) G ys (.slice A n cap) [])) (hG:∀ b,G b->zf Gs p b) 
  (h1:OpdR M (λ s=>(L++envO O).lookup s) q1 (dis (.slice A i cap))) (h2:OpdR M (λ s=>(L++envO O).lookup s) q2 (dis (.slice (if cap=j then A else A.map (·.add (j*Rep.size β))) (n - j) (cap - j))))
  (hij:i<j) (hjn:j<=ys.length)
  (ks:List Nat) (hk:selP ks L=some L2) (qs:List Nat) (hq:selR L O qs p=some O2) (hdn:L2.lookup d=none)
  (next:∀ g a' w',Sx F N M0 M Gs L2 ((d,p,dnm (Ow.row e (Ow.frz (α:=β))) G (ys.take i++ys.drop j) (.slice (some ⟨g,0,none⟩) (i+(n - j)) cap) [])::O2) a' w'->wpList P ops Q rest a' w')(hp:p<Gs.length:=by simp):wpList P ops Q (o::rest) a w:=by
 obtain⟨hgd,hd,hN⟩:=zR hh;obtain⟨_,⟨cs,⟨v,hv,h5⟩,k3⟩,_⟩:=h.st.has sb _ hs;subst hv;have e3:Value.slice A n cap=v:=k3;rcases h5 with⟨g,cap',cur,Gr,hg,hhg,hcap,hcm,hcs,hGg,hng,hsub,hrow⟩ | ⟨hx,_⟩
 ·rw[hg] at e3;injection e3 with e4 e5 e6;subst e4;subst e6;subst e5;have hrr:rowR M w (cur.toList.take (ys.length*Rep.size β)) ys:=Wh hrow;obtain⟨ti,z,ht1,ht2,hz,hs1,hs2,hs3⟩:=WV hel;have hcl:cur.toList.length=cap*Rep.size β:=by simpa using hcs
  have hjc:j*Rep.size β<=ys.length*Rep.size β:=Nat.mul_le_mul_right _ hjn;have hic:i*Rep.size β<=j*Rep.size β:=Nat.mul_le_mul_right _ (by omega);have hnc:ys.length*Rep.size β<=cap*Rep.size β:=Nat.mul_le_mul_right _ hcap;have hnews:rowR M w ((cur.toList.take (ys.length*Rep.size β)).drop (j*Rep.size β)) (ys.drop j):=Y2 j hjn hrr;have hnl:((cur.toList.take (ys.length*Rep.size β)).drop (j*Rep.size β)).length=(ys.length - j)*ti.size:=by
   rw[List.length_drop,List.length_take,hs1,Nat.sub_mul];omega
  have hcell:∀ k u,((cur.toList.take (ys.length*Rep.size β)).drop (j*Rep.size β))[k]?=some u->w.cell? ⟨g,j*Rep.size β+k,none⟩=some u:=λ k u hu=>by
   rw[List.getElem?_drop,List.getElem?_take] at hu;split at hu
   ·have:cur[j*Rep.size β+k]?=some u:=by simpa using hu
    simp[World.cell?,hhg,this]
   ·cases hu
  obtain⟨ad,had,hadc⟩:∃ ad:Addr,(if cap=j then some (⟨g,0,none⟩:Addr) else(some (⟨g,0,none⟩:Addr)).map (·.add (j*Rep.size β)))=some ad/\∀ k u,((cur.toList.take (ys.length*Rep.size β)).drop (j*Rep.size β))[k]?=some u->w.cell? (ad.add k)=some u:=by
   by_cases hcj:cap=j
   ·refine⟨⟨g,0,none⟩,by rw[Ke hcj],λ k u hu=>?_⟩;have:ys.length - j=0:=by omega
    rw[this,Nat.zero_mul] at hnl;rw[List.length_eq_zero_iff.1 hnl] at hu;simp at hu
   ·refine⟨⟨g,j*Rep.size β,none⟩,by rw[Kf hcj,Option.map_some,j9,Nat.zero_add],λ k u hu=>?_⟩;rw[j9];exact hcell k u hu
  have hfit:i*ti.size+((cur.toList.take (ys.length*Rep.size β)).drop (j*Rep.size β)).length<=cur.size:=by
   rw[hnl,hs1,hcs,← Nat.add_mul];exact Nat.mul_le_mul_right _ (by omega)
  have hrun:=run_append_room (P:=P) w t o.type e ti ht1 ht2 g i cap cur hhg ad (ys.length - j) (cap - j) _ hnl hadc (λ u hu=>Xa hnews u hu) (by omega) hfit;rw[had] at h2;generalize hcur':(cur.toList.take (i*ti.size)++((cur.toList.take (ys.length*Rep.size β)).drop (j*Rep.size β))++cur.toList.drop (i*ti.size+((cur.toList.take (ys.length*Rep.size β)).drop (j*Rep.size β)).length)).toArray=cur' at hrun;have hMg:M g:=(h.ob.at_ p g (hG g hGg)).2.1;have hgr:Grown (zf Gs p) w (w.setRow g cur'):=(Grown.of_grownBy (yW (b:=g))).mono λ k (hk:some g=some k)=>by
   injection hk with hk;rw[← hk];exact hG g hGg
  have hsame:∀ k,k≠g->(w.setRow g cur').heap[k]?=w.heap[k]?:=λ k hk=>setRow_other w g k _ hk
  have hrr':rowR M (w.setRow g cur') (cur.toList.take (ys.length*Rep.size β)) ys:=Zt (λ k _ hm=>hsame k λ e=>hm.elim (λ hm=>hm (e ▸ hMg)) λ h=>h.elim) hrr;have hw':(w.setRow g cur').heap[g]?=some (.cells cur' e (0,0)):=setRow_heap w g cur cur' e (0,0) hhg;have hc'l:cur'.toList=cur.toList.take (i*Rep.size β)++((cur.toList.take (ys.length*Rep.size β)).drop (j*Rep.size β))++cur.toList.drop ((i+(ys.length - j))*Rep.size β):=by
   rw[← hcur',List.toList_toArray,hnl,hs1,← Nat.add_mul]
  have hl1:(cur.toList.take (i*Rep.size β)).length=i*Rep.size β:=by rw[List.length_take,hcl];omega
  have hl2:((cur.toList.take (ys.length*Rep.size β)).drop (j*Rep.size β)).length=(ys.length - j)*Rep.size β:=by rw[hnl,hs1]
  have hlen':(ys.take i++ys.drop j).length=i+(ys.length - j):=by simp;omega
  have htk:cur'.toList.take ((i+(ys.length - j))*Rep.size β)=(cur.toList.take (ys.length*Rep.size β)).take (i*Rep.size β)++((cur.toList.take (ys.length*Rep.size β)).drop (j*Rep.size β)):=by
   rw[hc'l,List.take_take,Nat.min_eq_left (by omega),Nat.add_mul];rw[List.take_left' (by rw[List.length_append,hl1,hl2])]
  have hro:(Ow.row e (Ow.frz (α:=β))).ro M G (w.setRow g cur') [.slice (some ⟨g,0,none⟩) (i+(ys.length - j)) cap] (ys.take i++ys.drop j):=by
   refine⟨_,Z,.inl ⟨g,cap,cur',Gr,by rw[hlen'],hw',by rw[hlen'];omega,hcm,?_,hGg,hng,hsub,W7 ?_⟩⟩
   ·have:cur'.toList.length=cur'.size:=Array.length_toList;rw[← this,hc'l];simp only[List.length_append,List.length_drop,hl1,hl2,hcl];have e1:(i+(ys.length - j))*Rep.size β=i*Rep.size β+(ys.length - j)*Rep.size β:=Nat.add_mul ..;have e2:(i+(ys.length - j))*Rep.size β<=cap*Rep.size β:=Nat.mul_le_mul_right _ (by omega);omega
   ·rw[hlen',htk];exact j8 (WM i (by omega) hrr') (Y2 j hjn hrr')
  refine wpList_plain hgd λ K hK=>OpOut.wp (OpOut.of_value (v:=.slice (some ⟨g,0,none⟩) (i+(ys.length - j)) cap) (w':=w.setRow g cur') ?_ ?_)
  ·have hv1:a.eval q1=.slice (some ⟨g,0,none⟩) i cap:=h1 w a λ s y hs=>h.st.has s y hs
   have hv2:a.eval q2=.slice (some ad) (ys.length - j) (cap - j):=h2 w a λ s y hs=>h.st.has s y hs
   unfold execOp;rw[ho];simp[resolve,invoke,builtin,hv1,hv2,hrun]
  ·rw[hd];have st:=h.mut hp hgr hk hq;exact hK _ _ (next g _ _ (st.putO (d:=d) (p:=p) (x:=dnm (Ow.row e (Ow.frz (α:=β))) G (ys.take i++ys.drop j) (.slice (some ⟨g,0,none⟩) (i+(ys.length - j)) cap) []) hN hdn ⟨Z,⟨_,hro,Z⟩,λ q hq' _=>by cases hq'⟩ hG))
 ·subst hx;simp at hjn;omega
def clrB(P:Program)(e:TypeId):Bool:=match P.info? e with
 | some i=>(match i.zero with | some z=>z.cells.toList.all (·.oneCell') | none=>false)
 | none=>false
theorem zeroCells_one{z:Array Value}{n:Nat}(h:z.toList.all (·.oneCell')=true):(∀ v∈(Builtin.zeroCells z n).toList,v.oneCell'=true)/\(Builtin.zeroCells z n).toList.length=n*z.size:=by
 rw[List.all_eq_true] at h;unfold Builtin.zeroCells;refine⟨λ v hv=>?_,by simp⟩;simp only[Array.toList_map,List.mem_map,Array.toList_range,List.mem_range] at hv;obtain⟨k,hk,rfl⟩:=hv;have hz:0<z.size:=by
  rcases Nat.eq_zero_or_pos z.size with h0 | h0
  ·rw[h0,Nat.mul_zero] at hk;omega
  ·exact h0
 have hlt:=Nat.mod_lt k hz;rw[getElem!_pos z _ hlt];exact h _ (Array.getElem_mem_toList hlt)
theorem Sx.clrV{m cap g:Nat}{_xs:Array TypeId}(h:Sx F N M0 M Gs L O a w)(p:Nat)
  (ho:o.op=.call { callee:=.builtin .clear,args:=#[q],argTypes:=#[ty] }) (hgd:o.guard=none) (hd:o.dst=none) (hel:elB P ty e (Rep.size β) bytes=true) (hz:clrB P e=true) (hs:(L++envO O).lookup sb=some (dnm (Ow.row e (Ow.frz (α:=β))) G ys (.slice (some ⟨g,0,none⟩) m cap) [])) (hG:∀ b,G b->zf Gs p b) 
  (hq1:OpdR M (λ s=>(L++envO O).lookup s) q (dis (.slice (if cap=m then some ⟨g,0,none⟩ else(some (⟨g,0,none⟩:Addr)).map (·.add (m*Rep.size β))) k (cap - m)))) (hk:m+k<=cap)
  (ks:List Nat) (hks:selP ks L=some L2) (qs:List Nat) (hq:selR L O qs p=some O2) (hsn:L2.lookup sb=none)
  (next:∀ w',Sx F N M0 M Gs L2 ((sb,p,dnm (Ow.row e (Ow.frz (α:=β))) G ys (.slice (some ⟨g,0,none⟩) m cap) [])::O2) a w'->wpList P ops Q rest a w')(hp:p<Gs.length:=by simp):wpList P ops Q (o::rest) a w:=by
 obtain⟨k1,⟨cs,⟨v,hv,h5⟩,k3⟩,k4⟩:=h.st.has sb _ hs;subst hv;have e3:Value.slice (some ⟨g,0,none⟩) m cap=v:=k3;have hqv:a.eval q=.slice (if cap=m then some ⟨g,0,none⟩ else(some (⟨g,0,none⟩:Addr)).map (·.add (m*Rep.size β))) k (cap - m):=hq1 w a λ s y hs=>h.st.has s y hs
 obtain⟨ti,z,ht1,ht2,hz1,hs1,hs2,hs3⟩:=WV hel;have hzo:z.cells.toList.all (·.oneCell')=true:=by
  unfold clrB at hz;rw[ht2] at hz;simp only[hz1] at hz;exact hz
 have hzero:∀ w,(zeroValue e).run P w=.ok z w:=λ w=>by simp[zeroValue,typeInfo,ht2,hz1]
 obtain⟨z1,z2⟩:=zeroCells_one (n:=k) hzo;rw[hs3] at z2;by_cases hk0:k=0
 ·subst hk0;refine wpList_plain hgd λ K hK=>OpOut.wp (OpOut.of_value (v:=.tuple #[]) (w':=w) ?_ ?_)
  ·unfold execOp;rw[ho];generalize (if cap=m then some ⟨g,0,none⟩ else(some (⟨g,0,none⟩:Addr)).map (·.add (m*Rep.size β)))=A' at hqv;cases A' <;> simp[resolve,invoke,builtin,hqv,Builtin.clear_,run_underlying ht1]
  ·rw[hd];have st:=h.mut hp (Grown.refl _ _) hks hq;exact hK _ _ (next _ (st.addO (d:=sb) (p:=p) (x:=dnm (Ow.row e (Ow.frz (α:=β))) G ys (.slice (some ⟨g,0,none⟩) m cap) []) hsn (h.st.has sb _ hs) hG))
 ·rcases h5 with⟨g',cap',cur,Gr,hg,hhg,hcap,hcm,hcs,hGg,hng,hsub,hrow⟩ | ⟨hx,A,hA⟩
  ·rw[hg] at e3;injection e3 with e4 e5 e6;injection e4 with e4;injection e4 with e4;subst e4;subst e6;subst e5;have hcl:cur.toList.length=cap*Rep.size β:=by simpa using hcs
   have hne:¬ cap=ys.length:=by omega
   rw[Kf hne,Option.map_some,j9,Nat.zero_add] at hqv;have hfit:ys.length*Rep.size β+0+(Builtin.zeroCells z.cells k).toList.length<=cur.size:=by
    rw[z2,hcs,Nat.add_zero,← Nat.add_mul];exact Nat.mul_le_mul_right _ hk
   have hst:=run_storeCells_at (P:=P) g (ys.length*Rep.size β) e (Builtin.zeroCells z.cells k).toList 0 cur w hhg hfit z1;generalize hcur':(cur.toList.take (ys.length*Rep.size β+0)++(Builtin.zeroCells z.cells k).toList++cur.toList.drop (ys.length*Rep.size β+0+(Builtin.zeroCells z.cells k).toList.length)).toArray=cur' at hst;have hMg:M g:=(h.ob.at_ p g (hG g hGg)).2.1;have hgr:Grown (zf Gs p) w (w.setRow g cur'):=(Grown.of_grownBy (yW (b:=g))).mono λ k (hk:some g=some k)=>by
    injection hk with hk;rw[← hk];exact hG g hGg
   have hsame:∀ k,k≠g->(w.setRow g cur').heap[k]?=w.heap[k]?:=λ k hk=>setRow_other w g k _ hk
   have hw':(w.setRow g cur').heap[g]?=some (.cells cur' e (0,0)):=setRow_heap w g cur cur' e (0,0) hhg;have hnc:ys.length*Rep.size β<=cap*Rep.size β:=Nat.mul_le_mul_right _ hcap;have hrr':rowR M (w.setRow g cur') (cur.toList.take (ys.length*Rep.size β)) ys:=Zt (λ k _ hm=>hsame k λ e=>hm.elim (λ hm=>hm (e ▸ hMg)) λ h=>h.elim) (Wh hrow);have hl1:(cur.toList.take (ys.length*Rep.size β)).length=ys.length*Rep.size β:=by rw[List.length_take,hcl];omega
   have hc'l:cur'.toList=cur.toList.take (ys.length*Rep.size β)++((Builtin.zeroCells z.cells k).toList++cur.toList.drop (ys.length*Rep.size β+k*Rep.size β)):=by
    rw[← hcur',List.toList_toArray,z2,Nat.add_zero,List.append_assoc]
   have hro:(Ow.row e (Ow.frz (α:=β))).ro M G (w.setRow g cur') [.slice (some ⟨g,0,none⟩) ys.length cap] ys:=by
    refine⟨_,Z,.inl ⟨g,cap,cur',Gr,Z,hw',hcap,hcm,?_,hGg,hng,hsub,W7 ?_⟩⟩
    ·have:cur'.toList.length=cur'.size:=Array.length_toList;rw[← this,hc'l];simp only[List.length_append,List.length_drop,hl1,hcl,z2];have e1:(ys.length+k)*Rep.size β=ys.length*Rep.size β+k*Rep.size β:=Nat.add_mul ..;have e2:(ys.length+k)*Rep.size β<=cap*Rep.size β:=Nat.mul_le_mul_right _ hk;omega
    ·rw[hc'l,List.take_left' hl1];exact hrr'
   obtain⟨k',hkk⟩:∃ k',k=k'+1:=⟨k - 1,by omega⟩;refine wpList_plain hgd λ K hK=>OpOut.wp (OpOut.of_value (v:=.tuple #[]) (w':=w.setRow g cur') ?_ ?_)
   ·unfold execOp;rw[ho];subst hkk;simp[resolve,invoke,builtin,hqv,Builtin.clear_,run_underlying ht1,hzero,hst]
   ·rw[hd];have st:=h.mut hp hgr hks hq;exact hK _ _ (next _ (st.addO (d:=sb) (p:=p) (x:=dnm (Ow.row e (Ow.frz (α:=β))) G ys (.slice (some ⟨g,0,none⟩) ys.length cap) []) hsn ⟨k1,⟨_,hro,Z⟩,λ q hq' _=>by cases hq'⟩ hG))
  ·rw[hA] at e3;injection e3 with e4 e5 e6;omega
theorem Sx.rtO{ow:Ow α}{t:Nat}{x r:α}(h:Sx (Frm.chg w0 G0) N M0 M Gs L O a w)(p:Nat)(hr:fn.results=#[.tmp t])(hl:(L++envO O).lookup t=some (dow ow G x))(hm:some x=some r)(hG:∀ b,G b->zf Gs p b:=by exact λ _ h=>h):bodyPost P fn (RetTk M0 w0 G0 (.ow ow r)) .ret a w:=by
 injection hm with hm;subst hm;have hM:∀ k,k<w.heap.size->M0 k\/G k->M k:=λ k _ hk=>hk.elim (h.ob.sub k) λ hk=>(h.ob.at_ p k (hG k hk)).2.1
 refine⟨h.st.defers,a.tmps.getD t undef,?_,_,G,Z,h.st.fr,λ k hk=>(h.ob.at_ p k (hG k hk)).1,λ k hk=>h.st.mok k (h.ob.at_ p k (hG k hk)).2.1,(dow ow G x).weak (h.st.has t _ hl) hM⟩;simp only[results,hr];simp
end
section
variable{α β γ:Type}[Rep α][Rep β][Rep γ]
def FnTL(P:Program)(f:FuncId)(o:Ow α)(xs:List Dt)(x:α)(r:Rd):Prop:=
 ∀
  (M0 G:Nat->Prop) (w:World) (v:Value) (vs:List Value),(∀ b,M0 b\/G b->b<w.heap.size)->(∀ b,G b->¬ M0 b)->(dow o G x).rd (λ b=>M0 b\/G b) w v->RdAll (λ b=>M0 b\/G b) w vs xs->
  Calls P f (vs++[v]).toArray w (λ en w'=>∃ u Gr,en=.returned u/\Grown G w w'/\(∀ b,Gr b->G b\/w.heap.size<=b)/\(∀ b,Gr b->b<w'.heap.size)/\r.rd (λ b=>M0 b\/Gr b) Gr w' u)
variable{fn:Func}{look:Nat->Option Dt}
theorem opd_fun2{g:α->β->Option γ}(hf:fnB P f=true)(hg:∀ x y z,g x y=some z->Fn P f [dt x,dt y] (dt z)):OpdR M look (.func f) (dfn2 P g):=λ _ _ _=>⟨f,[],[],Z,hf,.nil,λ _ h=>(by cases h),hg⟩
theorem fnTL{oo:Ow α}{c:Code}{x:α}(k p n:Nat)(hk:rs.length=k)(hf:P.funcs[f]?=some fn)(hb:fn.body=some c)(hn:k+1<=fn.ntmps)(hnb:Jo (yR 0 rs)=true)
  (h:∀ (M G:Nat->Prop) (w:World) (a:Act),Sx (Frm.chg w G) fn.ntmps M (λ b=>M b\/G b) ((List.replicate n (oneB none)).set p G) (yR 0 rs) [(k,p,dow oo G x)] a w->c.wp P (bodyPost P fn (RetTk M w G r)) a w) (hp:p<n:=by decide):FnTL P f oo rs x r:=by
 intro M0 G w v vs hm hg hv hr;subst hk;have hl:=hr.len;have hat:∀ (s:Nat) (u:Value),(vs++[v])[s]?=some u->Act.at { tmps:=(vs++[v]).toArray++Array.replicate (fn.ntmps - (vs++[v]).toArray.size) undef,defers:=[] } s=u:=λ s u h2=>by
  have hj:s<(vs++[v]).length:=(List.getElem?_eq_some_iff.1 h2).1;have h5:(vs++[v]).toArray[s]?=some u:=by simpa using h2
  have hj':s<(vs++[v]).toArray.size:=by simpa using hj
  simp only[Act.at,Array.getD_eq_getD_getElem?];rw[Array.getElem?_append_left hj',h5];rfl
 have hlen:p<(List.replicate n (oneB none)).length:=by simpa using hp
 have hown:∀ q b,zf ((List.replicate n (oneB none)).set p G) q b ↔ q=p/\G b:=λ q b=>by
  by_cases hq:p=q
  ·subst hq;rw[zp hlen];simp
  ·rw[zt hq];exact⟨λ h=>(QU h).elim,λ h=>(hq h.1.symm).elim⟩
 refine calls_of_wp hf hb (h M0 G w _ ?_);refine⟨⟨Grown.refl _ _,by simp;omega,Z,hm,λ s y hy=>?_⟩,⟨λ b hb=>.inl hb,λ q b hb=>?_,λ q r b hne h1 h2=>hne (((hown q b).1 h1).1.trans ((hown r b).1 h2).1.symm)⟩,WZ hnb,⟨λ b hb=>(hown p b).2 ⟨Z,hb⟩,trivial⟩⟩
 ·rcases xa hy with h1 | ⟨_,h1⟩
  ·obtain⟨j,u,e1,e2,e3⟩:=hr.nth 0 s y h1;have hs:s=j:=by omega
   subst hs;have hj:s<vs.length:=(List.getElem?_eq_some_iff.1 e2).1;rw[hat s u (by rw[List.getElem?_append_left hj];exact e2)];exact e3
  ·simp only[envO,List.lookup_cons,List.lookup_nil] at h1;cases hb:s == rs.length with
   |true=>
    simp only[hb] at h1;injection h1 with h1;subst h1;have e:s=rs.length:=by simpa using hb
    rw[hat s v (by rw[e,← hl];simp)];exact hv
   | false=>simp only[hb] at h1;cases h1
 ·obtain⟨rfl,hb'⟩:=(hown q b).1 hb;exact⟨.inl hb',.inr hb',hg b hb'⟩
theorem Sx.rt2F{t:Nat}{x:α}{y:Dt}(h:Sx (Frm.chg w0 G0) N M0 M Gs L O a w)(ht:tyB P ty (Rep.agg α) (Rep.size α)=true)(hy:y.rd M0 w (Act.at a u))(hr:fn.results=#[.cell t ty,.tmp u]:=by rfl)(hl:(L++envO O).lookup t=some (dbox g 0 x):=by rfl)(hn:y.nb=true:=by rfl)(hR:R=dtup [dt x,y]:=by rfl):bodyPost P fn (RetTk M0 w0 G0 (.frz R)) .ret a w:=by
 subst hR;obtain⟨A,q,h1,h2,h3⟩:=h.frozenC (P:=P) ht hl;have e:(λ b=>M0 b\/noB b)=M0:=by funext b;simp[noB]
 refine⟨h.st.defers,_,zbq hr h1 h2,_,noB,Z,h.st.fr,λ _ h=>h.elim,λ _ h=>h.elim,?_⟩;rw[e];exact⟨⟨[_,_],Z,.cons h3 (.cons hy .nil),λ q hq=>by
  simp only[List.mem_cons,List.not_mem_nil,or_false] at hq;rcases hq with rfl | rfl
  ·rfl
  ·exact hn⟩,Z⟩
theorem Sx.cTL{oy:Ow β}{y:β}(h:Sx F N M0 M Gs L O a w)(p:Nat)(hh:opH o N=some d)
  (ho:o.op=.call { callee:=.value (.func f),args:=(l++[Operand.tmp sb]).toArray,argTypes:=ts }) (hf:fnB P f=true) (hy:(L++envO O).lookup sb=some (dow oy G1 y)) (hG1:∀ b,G1 b->zf Gs p b)  (hx:ArgsR M (λ s=>(L++envO O).lookup s) l xr) (hfn:FnTL P f oy xr y (.frz R))
  (ks:List Nat) (hk:selP ks L=some L2) (qs:List Nat) (hq:selR L O qs p=some O2)
  (next:∀ M' a' w',Sx F N M0 M' (Gs.set p (oneB none)) ((d,R)::L2) O2 a' w'->wpList P ops Q rest a' w')(hp:p<Gs.length:=by simp):wpList P ops Q (o::rest) a w:=by
 obtain⟨hgd,hd,hN⟩:=zR hh;have hy':=h.st.has sb _ hy;have hGM:∀ b,G1 b->M b:=λ b hb=>(h.ob.at_ p b (hG1 b hb)).2.1
 refine wpList_plain hgd λ K hK=>OpOut.wp (OpOut.of_enter (f:=f) (args:=((l++[Operand.tmp sb]).map a.eval).toArray) (w':=w) ?_ ?_)
 ·unfold execOp;rw[ho];have e:a.eval (.func f)=.func (.func f) #[] #[]:=rfl;simp[resolve,e,Deferred.ofValue,invoke,xK hf]
 ·have hM:∀ k,((M k/\¬ G1 k)\/G1 k) ↔ M k:=λ k=>by
   refine⟨λ hk=>hk.elim (λ h=>h.1) (hGM k),λ hk=>?_⟩;by_cases e:G1 k
   ·exact .inr e
   ·exact .inl ⟨hk,e⟩
  rw[List.map_append,List.map_cons,List.map_nil];refine(hfn (λ b=>M b/\¬ G1 b) G1 w _ _ (λ b hb=>h.st.mok b ((hM b).1 hb)) (λ b hb hm=>hm.2 hb) ((dow oy G1 y).weak hy' λ k _ hk=>(hM k).1 hk) ((hx.all h.st.has).weak λ k _ hk=>(hM k).1 hk)).mono λ en w' ⟨u,Gr,he,hgr,i2,i4,hu,hnb⟩=>⟨u,he,?_⟩
  rw[hd];have h1:=h.eff (G':=oneB none) hp (hgr.mono hG1) (λ b hb=>by cases hb) hk hq;have hM':∀ k,(M k/\¬ zf Gs p k)\/oneB none k->(M k/\¬ G1 k)\/Gr k:=λ k hk=>by
   rcases hk with hk | hk
   ·exact .inl ⟨hk.1,λ e=>hk.2 (hG1 k e)⟩
   ·cases hk
  exact hK _ _ (next _ _ _ (h1.putL hN (R.weak hu λ k _ hk=>hM' k hk) hnb))
theorem Sx.frzN{ow:Ow α}{x:α}(h:Sx F N M0 M Gs L O a w)(p:Nat)(hs:(L++envO O).lookup s=some (dnm ow G x v0 cf))(hG:∀ b,G b->zf Gs p b)(ks:List Nat)(hk:selP ks L=some L2)(qs:List Nat)(hq:selR L O qs p=some O2)(hsn:L2.lookup s=none)(hp:p<Gs.length:=by simp):
  Sx F N M0 (λ b=>M b/\¬ zf Gs p b) (Gs.set p (oneB none)) L2 ((s,p,dnm (Ow.frz (α:=α)) noB x v0 [])::O2) a w:=by
 have h1:=h.eff (G':=oneB none) hp (Grown.refl _ w) (λ b hb=>by cases hb) hk hq;have e:(λ b=>(M b/\¬ zf Gs p b)\/oneB none b)=λ b=>M b/\¬ zf Gs p b:=by
  funext b
  simp[oneB]
 rw[e] at h1;obtain⟨k1,⟨cs,k2,k3⟩,_⟩:=h.st.has s _ hs;exact h1.addO hsn ⟨k1,⟨cs,Rep.weak (ow.toR k2) λ k _ hk=>⟨hk.1,λ hg=>hk.2 (hG k hg)⟩,k3⟩,λ q hq _=>by cases hq⟩ λ _ h=>h.elim
theorem Sx.stHk{ow:Ow α}{t q g:Nat}{x:α}{y:β}{upd:β->α}(h:Sx F N M0 M Gs L O a w)(p:Nat)(hP:PH ow x v0 cf (Ow.frz (α:=β)) b off y upd)(ho:o.op=.store t (.tmp q) vo)(hgd:o.guard=none)(hd:o.dst=none)
  (ht:tyB P t false 1=true) (h1s:Rep.size β=1)  (hpl:OpdR M (λ s=>(L++envO O).lookup s) (.tmp q) (dis (.pointer (some ⟨b,off,none⟩)))) (hvl:OpdR M (λ s=>(L++envO O).lookup s) vo (dis (.pointer (some ⟨g,0,none⟩)))) (hs:(L++envO O).lookup sb=some (dnm ow G x v0 cf)) (hG:∀ b,G b->zf Gs p b)
  (ks:List Nat) (hk:selP ks L=some L2) (qs:List Nat) (hq:selR L O qs p=some O2) (hdn:L2.lookup sb=none)
  (next:∀ w',Sx F N M0 M Gs L2 ((sb,p,dhk ow (Ow.frz (α:=β)) G v0 b off (.pointer (some ⟨g,0,none⟩)) upd)::O2) a w'->wpList P ops Q rest a w')(hp:p<Gs.length:=by simp):wpList P ops Q (o::rest) a w:=by
 obtain⟨h1,⟨cs,h2,h3⟩,h4⟩:=h.st.has sb _ hs;obtain⟨G1,G2,C,e,s1,s2,hGb,n1,n2,hdj,hh,hsz,hr,put⟩:=hP.of h2 h3 h4;have hob:=hG b hGb;have hMb:=(h.ob.at_ p b hob).2.1;have hqv:Act.at a q=.pointer (some ⟨b,off,none⟩):=hpl w a λ s y hs=>h.st.has s y hs
 have huv:a.eval vo=.pointer (some ⟨g,0,none⟩):=hvl w a λ s y hs=>h.st.has s y hs
 have hrun:=xL (P:=P) (w:=w) (t:=t) (off:=off) (v:=a.eval vo) (cs:=[Value.pointer (some ⟨g,0,none⟩)]) ht (by rw[huv];rfl) hh (by rw[h1s] at hsz;exact hsz) (λ u hu=>by simp only[List.mem_cons,List.not_mem_nil,or_false] at hu;subst hu;rfl);have hgr:w.grownBy (w.setRow b (C.toList.take off++[Value.pointer (some ⟨g,0,none⟩)]++C.toList.drop (off+1)).toArray) (some b):=yW;have hgr':=Grown.of_grownBy hgr;have hw':=setRow_heap w b C (C.toList.take off++[Value.pointer (some ⟨g,0,none⟩)]++C.toList.drop (off+1)).toArray e (0,0) hh;have hL:Later M G2 w M (w.setRow b (C.toList.take off++[Value.pointer (some ⟨g,0,none⟩)]++C.toList.drop (off+1)).toArray):=⟨λ _ _ h=>h,λ k _ hm=>hgr'.block k (by assumption) λ(h1:some b=some k)=>by
  injection h1 with h1;subst h1;exact hm.elim (λ hm=>hm hMb) n2⟩
 have hoff:off<C.toList.length:=by rw[h1s] at hsz;rw[Array.length_toList];omega
 have etk:(C.toList.take off).length=off:=by rw[List.length_take];omega
 refine wpList_plain hgd λ K hK=>OpOut.wp (OpOut.of_skip (w':=w.setRow b (C.toList.take off++[Value.pointer (some ⟨g,0,none⟩)]++C.toList.drop (off+1)).toArray) ?_ ?_)
 ·unfold execOp;rw[ho];have hpv':a.eval (.tmp q)=.pointer (some ⟨b,off,none⟩):=hqv;simp only[Instr.storeAt,Instr.sureAddr,hpv',Sem.run_bind,Sem.run_pure,Result.andThen_ok];rw[hrun];rfl
 ·rw[hd];have k1:=h.mut hp (hgr'.mono λ i (hi:some b=some i)=>by injection hi with hi;rw[← hi];exact hob) hk hq;refine hK _ _ (next _ (k1.addO hdn ⟨⟨h1,_,M,G2,cs,_,e,h3,Later.refl _ _ _,hGb,n2,s2,hw',?_,?_⟩,?_⟩ hG))
  ·rw[h1s];simp;rw[Array.length_toList] at hoff;omega
  ·intro M' G1' G'' w'' c' y' hL2 hh2 hy nb1 g0 g1 g2 g3;refine put (hL.trans hL2) ?_ hy nb1 g0 g1 g2 g3;rw[hh2,h1s]
   congr 3
   simp only[List.append_assoc];rw[List.take_append_of_le_length (by omega),List.take_of_length_le (by omega)]
   congr 2
   rw[List.drop_append,List.drop_of_length_le (by omega),etk];simp
  ·simp only[World.cell?,hw'];simp[etk]
end
section
variable{fn:Func}{f:Nat}{S:World->Prop}{i:Nat}
variable{α β:Type}[Rep α][Rep β]
theorem Sx.tkNp{x:α}(h:Sx F N M0 M Gs L O a w)(ho:ops[i]?=some o)(hh:opH o N=some d)
   (hS:S w) (hop:o.op=.nilCheck q) (hp:OpdR M (λ s=>(L++envO O).lookup s) q (dptr x))
  (next:∀ a',Sx F N M0 M Gs ((d,dptr x)::L) O a' w->wpAnyH P .any ops Q S f (listed.setIfInBounds i true) a' w)(hs:Region.noSelect ops=true:=by decide +kernel)(hf:Region.free .any ops listed i=true:=by decide +kernel)(hr:(Region.ready .any ops listed).contains i=true:=by decide +kernel)(hQ:∀ c a w v,Q (.panic c) (a.put o.dst v) w->Q (.panic c) a w:=by exact λ _ _ _ _ h=>h):wpAnyH P .any ops Q S (f+1) listed a w:=by
 unfold OpdR at hp;obtain⟨b,off,cs,hv,hb,hc,hr2⟩:=hp w a λ s y hy=>h.st.has s y hy
 exact h.tkY (v:=.pointer (some ⟨b,off,none⟩)) (y:=dptr x) ho hh hs hf hr (λ c a w=>hQ c a w _) hS (yNc hop hv) ⟨b,off,cs,Z,hb,hc,hr2⟩ next
end
section
variable{α β γ:Type}[Rep α][Rep β][Rep γ]
def dfnN2(P:Program)(ow:Ow γ)(g:α->β->Option γ):Dt where
 rd M w v:=∃ (f:FuncId) (caps:List Value) (ds:List Dt),v=.func (.func f) #[] caps.toArray/\fnB P f=true/\RdAll M w caps ds/\(∀ x∈ds,x.nb=true)/\∀ x y z,g x y=some z->FnN P f (dt x::dt y::ds) (.ow ow z)
 own:=noB
 nb:=true
 nob _ _ h:=h
 stable:=by
  rintro M w w' v ⟨f,caps,ds,hv,hf,hr,hn,hg⟩ e
  exact⟨f,caps,ds,hv,hf,hr.stable hn e,hn,hg⟩
 weak:=by
  rintro M M' w v ⟨f,caps,ds,hv,hf,hr,hn,hg⟩ e
  exact⟨f,caps,ds,hv,hf,hr.weak e,hn,hg⟩
variable{look:Nat->Option Dt}
theorem xMkN2{ow:Ow γ}{g:α->β->Option γ}(ho:o.op=.makeFunc (.func f) #[] l.toArray)(hf:fnB P f=true)(hx:ArgsR M look l ds)(hn:allNb' ds=true)(hg:∀ x y z,g x y=some z->FnN P f (dt x::dt y::ds) (.ow ow z)):OpRel P M look o (dfnN2 P ow g):=
 zz λ a w _ hl=>by
  refine⟨.func (.func f) #[] (l.map a.eval).toArray,?_,f,_,ds,Z,hf,hx.all hl,zad hn,hg⟩;unfold execOp;rw[ho];simp[Instr.makeFunc]
theorem Sx.cF2{ow:Ow γ}{s r:Operand}{g:α->β->Option γ}{x:α}{y:β}{z:γ}(h:Sx F N M0 M Gs L O a w)(p:Nat)(hh:opH o N=some d)
  (ho:o.op=.call { callee:=.value s,args:=#[q,r],argTypes:=ts }) (hs:OpdR M (λ s=>(L++envO O).lookup s) s (dfnN2 P ow g)) (hq:OpdR M (λ s=>(L++envO O).lookup s) q (dt x)) (hr:OpdR M (λ s=>(L++envO O).lookup s) r (dt y)) (hg:g x y=some z) 
  (ks:List Nat) (hk:selP ks L=some L2) (qs:List Nat) (hqs:selR L O qs p=some O2) (hdn:L2.lookup d=none)
  (next:∀ G' M' a' w',Sx F N M0 M' (Gs.set p G') L2 ((d,p,dow ow G' z)::O2) a' w'->wpList P ops Q rest a' w')(hp:p<Gs.length:=by simp):wpList P ops Q (o::rest) a w:=by
 obtain⟨hgd,hd,hN⟩:=zR hh;obtain⟨f,caps,ds,hv,hf,hc,hn,hk2⟩:=hs w a h.st.has;refine wpList_plain hgd λ K hK=>OpOut.wp (OpOut.of_enter (f:=f) (args:=(a.eval q::a.eval r::caps).toArray) (w':=w) ?_ ?_)
 ·unfold execOp;rw[ho];simp[resolve,hv,Deferred.ofValue,invoke,xK hf]
 ·refine(hk2 x y z hg M w _ (λ b h1=>h.st.mok b h1) (.cons (hq w a h.st.has) (.cons (hr w a h.st.has) hc))).mono λ en w' ⟨v',G',he,hex,hg',hv'⟩=>⟨v',he,?_⟩
  rw[hd];have h1:=h.eff (G':=G') hp ((Grown.of_ext hex).mono λ b hb=>hb.elim) (λ b hb=>⟨.inr (hg' b hb).1,(hg' b hb).2⟩) hk hqs;exact hK _ _ (next G' _ _ _ (h1.putO (zR hh).2.2 hdn ((Rd.ow ow z).weak hv' λ k _ hk=>hk.imp (λ h=>h.1) id) λ b hb=>by rw[zp hp];exact hb))
theorem Sx.rn2c{fn:Func}{ow:Ow β}{t:Nat}{x:α}{y:β}{r:α×β}(h:Sx (Frm.of w0) N M0 M Gs L O a w)(p:Nat)(hr:fn.results=#[.cell t ty,.tmp u])(ht:tyB P ty (Rep.agg α) (Rep.size α)=true)(hl:(L++envO O).lookup t=some (dbox g 0 x))(hl2:(L++envO O).lookup u=some (dow ow G y))(hG:∀ b,G b->zf Gs p b)(hm:some (x,y)=some r):
  bodyPost P fn (RetN M0 w0 (.t2 (dt r.1) ow r.2)) .ret a w:=by
 injection hm with hm;subst hm;have hM:∀ k,k<w.heap.size->M0 k\/G k->M k:=λ k _ hk=>hk.elim (h.ob.sub k) λ hk=>(h.ob.at_ p k (hG k hk)).2.1
 obtain⟨b,_,hv,C,e,cs,hb,hc,hrr⟩:=h.st.has t _ hl;have hc':∀ j u,cs[j]?=some u->w.cell? ⟨b,0+j,none⟩=some u:=λ j u hj=>by
  have:=hc j u hj;rw[Nat.zero_add] at this ⊢;simp[World.cell?,hb,this]
 exact⟨h.st.defers,_,zbq hr hv (yS ht (Rep.len hrr) Rep.one hc'),_,G,Z,h.st.fr,λ b hb=>⟨(h.ob.at_ p b (hG b hb)).1,h.st.mok b (h.ob.at_ p b (hG b hb)).2.1⟩,_,_,Z,⟨⟨cs,Rep.weak hrr hM,Z⟩,Z⟩,(dow ow G y).weak (h.st.has u _ hl2) hM⟩
end
set_option maxRecDepth 10000
set_option maxHeartbeats 1600000
section
variable{look:Nat->Option Dt}
theorem add_zero_addr{n:Nat}(hn:n=0:=by simp):A.map (·.add n)=A:=by
 subst hn;cases A with
 | none=>rfl
 | some a=>cases a;rfl
theorem op_slH{n cap:Nat}(ho:o.op=.slice t q none (some x) none)(ht:slB P t sz=true)(hq:OpdR M look q (dis (.slice A n cap)))(hx:OpdR M look x (dt j))(h2:0<=j)(h3:j<=cap):OpRel P M look o (dis (.slice A j.toNat cap)):=by
 have h:=op_sl (i:=none) (j:=some j) ho ht hq (λ _ _ _=>Z) (λ w a hl=>congrArg some (yi.1 (hx w a hl))) (by simp) h2 h3;have e:(.slice (if cap=((none:Option Int).getD 0).toNat then A else A.map (·.add (((none:Option Int).getD 0).toNat*sz))) (((some j).getD n).toNat - ((none:Option Int).getD 0).toNat) (cap - ((none:Option Int).getD 0).toNat):Value)=.slice A j.toNat cap:=by
  have e2:(if cap=((none:Option Int).getD 0).toNat then A else A.map (·.add (((none:Option Int).getD 0).toNat*sz)))=A:=by
   split
   ·rfl
   ·exact add_zero_addr
  rw[e2];simp
 rw[e] at h;exact h
theorem op_slL{n cap:Nat}(ho:o.op=.slice t q (some x) none none)(ht:slB P t sz=true)(hq:OpdR M look q (dis (.slice A n cap)))(hx:OpdR M look x (dt i))(h1:0<=i)(h2:i<=n)(h3:n<=cap):OpRel P M look o (dis (.slice (if cap=i.toNat then A else A.map (·.add (i.toNat*sz))) (n - i.toNat) (cap - i.toNat))):=by
 have h:=op_sl (i:=some i) (j:=none) ho ht hq (λ w a hl=>congrArg some (yi.1 (hx w a hl))) (λ _ _ _=>Z) h1 h2 (by simpa using Int.ofNat_le.2 h3);simpa using h
theorem op_slB{n cap:Nat}{y:Operand}(ho:o.op=.slice t q (some x) (some y) none)(ht:slB P t sz=true)(hq:OpdR M look q (dis (.slice A n cap)))(hx:OpdR M look x (dt i))(hy:OpdR M look y (dt j))(h1:0<=i)(h2:i<=j)(h3:j<=cap):OpRel P M look o (dis (.slice (if cap=i.toNat then A else A.map (·.add (i.toNat*sz))) (j.toNat - i.toNat) (cap - i.toNat))):=by
 have h:=op_sl (i:=some i) (j:=some j) ho ht hq (λ w a hl=>congrArg some (yi.1 (hx w a hl))) (λ w a hl=>congrArg some (yi.1 (hy w a hl))) h1 h2 h3;simpa using h
end
def q6(x0:List File)(x1 x2:Int):Option (List File):=
 if 0<=x1/\x1<=x2/\x2<=(x0.length:Int) then some (if x1=x2 then x0 else x0.take x1.toNat++x0.drop x2.toNat) else none
theorem xdS:slB Tryz.prog 34 6=true:=by kernel_rfl
theorem xdL:isSl Tryz.prog 34=true:=by kernel_rfl
theorem xdE:elB Tryz.prog 34 59 6 80=true:=by kernel_rfl
theorem xdM:Tryz.prog.follows .mixedOrders=true:=by kernel_rfl
theorem xdZ:clrB Tryz.prog 59=true:=by kernel_rfl
theorem zcL{x1 x2:Int}{r:List File}(h:q6 x0 x1 x2=some r):FnT Tryz.prog 210 (Ow.row 59 (Ow.frz (α:=File))) x0 [dt x1,dt x2] (.ow (Ow.row 59 (Ow.frz (α:=File))) r):=by
 unfold q6 at h;have hb:0<=x1/\x1<=x2/\x2<=(x0.length:Int):=by
  by_cases hc:0<=x1/\x1<=x2/\x2<=(x0.length:Int)
  ·exact hc
  ·rw[Kf hc] at h;cases h
 rw[Ke hb] at h;obtain⟨hb1,hb2,hb3⟩:=hb;refine fnT (fn:=Tryz.f210) 0 1 Tryz.func210 Z Z (λ M G w0 a0 st0=>?_);refine st0.nmR (s:=0) 0 (hG:=(λ _ h=>h)) [] (λ g1 A1 c1 hA1 st1=>?_);have hcap:=(st1.capN (s:=0) Z).2;refine st1.sq (
  sc Z (oA Z (jl (α:=File)))<|.nil) [1,2] Z [(0,0)] Z ⟨λ _ h=>h,trivial⟩ (λ a2 w2 st2=>?_)
 refine st2.sq (
  sc Z (oM Z (zD Z))<|
  sc Z (oM Z (tp Z))<|
  sc Z (oM Z (tp Z))<|
  sc Z (oM Z (tp Z))<|
  sc Z (xLeN Z xdL Z)<|
  sc Z (op_sl3 Z xdS (tp Z) (tp Z) (tp Z) (tp Z) hb1 hb2 hb3 (Int.ofNat_le.2 hcap))<|.nil) [1,2] Z [(0,0)] Z ⟨λ _ h=>h,trivial⟩ (λ a3 w3 st3=>?_)
 refine Kc ?_;refine st3.sq (
  sc Z (oM Z (tp Z))<|
  sc Z (oM Z (tp Z))<|
  sc Z (oCI Z (tp Z) (tp Z))<|.nil) [1,2,16] Z [(0,0)] Z ⟨λ _ h=>h,trivial⟩ (λ a4 w4 st4=>?_)
 have hcnd:(if cmpI .eql x1 x2=true then some x0 else some (x0.take x1.toNat++x0.drop x2.toNat))=some r:=by
  rw[← h];by_cases hc:x1=x2
  ·rw[Ke hc,Ke (show cmpI .eql x1 x2=true from decide_eq_true hc)]
  ·rw[Kf hc,Kf (show ¬ cmpI .eql x1 x2=true from λ e=>hc (oD e))]
 by_cases hne:x1=x2
 ·have hc:cmpI .eql x1 x2=true:=decide_eq_true hne;refine st4.cs (c:=16) hcnd (λ c5 h5=>?_) (λ c6 h6=>absurd hc (by rw[c6];decide));refine st4.sq (
   sc Z (oM Z (tp Z))<|
   sc Z (oA Z (tp Z))<|.nil) [] Z [(6,0)] Z ⟨λ _ h=>h,trivial⟩ (λ a7 w7 st7=>?_)
  have st8:=st7.unm (s:=6) 0 (hG:=(λ _ h=>h)) [];exact wp_ret (zJ (st8.rtO 0 Z Z h5))
 have hc:cmpI .eql x1 x2=false:=decide_eq_false hne;refine st4.cs (c:=16) hcnd (λ c5 h5=>absurd hc (by rw[c5];decide)) (λ c6 h6=>?_);refine wp_skip ?_;refine za ?_;obtain⟨i,rfl⟩:=Int.eq_ofNat_of_zero_le hb1;obtain⟨j,rfl⟩:=Int.eq_ofNat_of_zero_le (Int.le_trans hb1 hb2);have hij:i<j:=by omega
 have hjn:j<=x0.length:=by omega
 have hlen:(x0.take i++x0.drop j).length=i+(x0.length - j):=by simp;omega
 refine st4.sq (
  sc Z (oM Z (tp Z))<|
  sc Z (xLeN Z xdL Z)<|
  sc Z (oA Z (tp Z))<|.nil) [1,2,7] Z [(0,0)] Z ⟨λ _ h=>h,trivial⟩ (λ a9 w9 st9=>?_)
 refine Kc ?_;refine st9.drn (D:=[_,_,_,_,_,_]) xdM 6 [[(0,nS)],[(1,nS)],[(20,0),(21,1)],[(0,nS)],[(2,nS)],[(23,3),(24,4)],[(22,2),(25,5)],[(26,6)]] (by decide +kernel) (by decide) (
  rc Z Z (oM Z (zD Z))<|
  rc Z Z (oM Z (tp Z))<|
  rc Z Z (op_slH Z xdS (tp Z) (tp Z) (by omega) (by omega))<|
  rc Z Z (oM Z (zD Z))<|
  rc Z Z (oM Z (tp Z))<|
  rc Z Z (op_slL Z xdS (tp Z) (tp Z) (by omega) (by omega) hcap)<|.nil) [7,22,25] Z [(0,0)] Z ⟨λ _ h=>h,trivial⟩ (λ a10 w10 st10=>?_)
 refine st10.apCutV (sb:=0) (i:=i) (j:=j) 0 Z Z xdE Z (λ _ h=>h) (tp Z) (tp Z) hij hjn [7] Z [] Z Z (λ g11 a11 w11 st11=>?_);rw[← hlen] at st11;refine st11.seg 1 (
  sc Z (oA Z (tp Z))<|.nil) [7] Z [(0,0)] Z ⟨λ _ h=>h,trivial⟩ (λ a12 w12 st12=>?_)
 refine Kb ?_;refine za ?_;have hcap2:=(st12.capN (s:=0) Z).2;refine Kc ?_;refine Ka ?_;refine st12.seg 5 (
  sc Z (oM Z (zD Z))<|
  sc Z (oM Z (tp Z))<|
  sc Z (xLeN Z xdL Z)<|
  sc Z (oM Z (tp Z))<|
  sc Z (op_slB Z xdS (tp Z) (tp Z) (tp Z) (by omega) (by omega) (by omega))<|.nil) [31] Z [(0,0)] Z ⟨λ _ h=>h,trivial⟩ (λ a13 w13 st13=>?_)
 refine st13.clrV (sb:=0) (_xs:=#[]) 0 Z Z Z xdE xdZ Z (λ _ h=>h) (tp Z) (by omega) [] Z [] Z Z (λ w14 st14=>?_);refine Kb ?_;refine za ?_;refine st14.sq (
  sc Z (oM Z (tp Z))<|
  sc Z (oA Z (tp Z))<|.nil) [] Z [(6,0)] Z ⟨λ _ h=>h,trivial⟩ (λ a15 w15 st15=>?_)
 have st16:=st15.unm (s:=6) 0 (hG:=(λ _ h=>h)) [];exact wp_ret (st16.rtO 0 Z Z h6)
end Go.Proofs.YtandbaloaenciaaGreatDoor
