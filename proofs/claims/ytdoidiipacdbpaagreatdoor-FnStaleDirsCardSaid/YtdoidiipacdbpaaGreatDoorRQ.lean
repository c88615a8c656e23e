import Derived.Test.YtdoidiipacdbpaaGreatDoorRO
namespace Go.Proofs.YtdoidiipacdbpaaGreatDoor
open Go.RowKit
section
variable{α:Type}[Rep α]
variable{P:Program}{ops:Array Oper}{rest:List Oper}{Q:Exit->Act->World->Prop}{a:Act}{w:World}{o:Oper}{F:Frm}{N d:Nat}{M0 M:Nat->Prop}{Gs:List (Nat->Prop)}{L L2:Env}{O O2:List (Nat×Nat×Dt)}{ks qs:List Nat}
theorem Sx.boxD{t:TypeId}{q:Operand}{x:α}(h:Sx F N M0 M Gs L O a w)(p:Nat)(hh:opH o N=some d)(ho:o.op=.box t q)(hx:OpdR M (λ s=>(L++envO O).lookup s) q (dt x))(hp:p<Gs.length)
  (ks:List Nat) (hk:selP ks L=some L2) (qs:List Nat) (hq:selR L O qs p=some O2) (hdn:L2.lookup d=none)
  (next:∀ b M' a' w',Sx F N M0 M' (Gs.set p (oneB (some b))) L2 ((d,p,dbox (some b) 0 x)::O2) a' w'->wpList P ops Q rest a' w'):wpList P ops Q (o::rest) a w:=by
 obtain⟨hgd,hd,hN⟩:=zZ hh;have hy:=Z8 (hx w a λ s y hs=>h.st.has s y hs);have he:Ext0 w (w.alloc (.cells (a.eval q).cells t)):=Ext0.alloc _ _;refine wpList_plain hgd λ K hK=>OpOut.wp (OpOut.of_value (v:=.pointer (some ⟨w.heap.size,0,none⟩)) (w':=w.alloc (.cells (a.eval q).cells t)) ?_ ?_)
 ·
  unfold execOp;rw[ho];simp[Instr.box,newVar,newRow,newObj,YZ]
 ·
  rw[hd];have h1:=h.eff (G':=oneB (some w.heap.size)) hp ((Grown.of_ext he).mono λ b hb=>hb.elim) (λ b (hb:some w.heap.size=some b)=>by injection hb with hb;subst hb;exact⟨.inr (Nat.le_refl _),by simp⟩) hk hq;refine hK _ _ (next w.heap.size _ _ _ (h1.putO hN hdn ?_ λ b hb=>by rw[zl hp];exact hb));refine⟨w.heap.size,rfl,rfl,(a.eval q).cells,t,(a.eval q).cells.toList,heap_alloc_new w _,λ j u hj=>?_,?_⟩
  ·
   rw[Nat.zero_add];simpa using hj
  refine Rep.later hy (G:=noB) ⟨λ k hk hm=>?_,λ k hk _=>he.block k hk⟩;rcases hm with hm | hm
  ·
   exact hm.1
  ·
   have:w.heap.size=k:=by injection hm
   omega
end
open Go.RowKit
section
variable{α β:Type}[Rep α][Rep β]
def FnT(P:Program)(f:FuncId)(o:Ow α)(x:α)(xs:List Dt)(r:Rd):Prop:=
 ∀
  (M0 G:Nat->Prop) (w:World) (v:Value) (vs:List Value),(∀ b,M0 b\/G b->b<w.heap.size)->(∀ b,G b->¬ M0 b)->(dow o G x).rd (λ b=>M0 b\/G b) w v->RdAll (λ b=>M0 b\/G b) w vs xs->
  Calls P f (v::vs).toArray w (λ en w'=>∃ u Gr,en=.returned u/\Grown G w w'/\(∀ b,Gr b->G b\/w.heap.size<=b)/\(∀ b,Gr b->b<w'.heap.size)/\r.rd (λ b=>M0 b\/Gr b) Gr w' u)
def RetTk(M0:Nat->Prop)(w:World)(G:Nat->Prop)(r:Rd):Ending->World->Prop:=λ en w'=>
 ∃ u Gr,en=.returned u/\Grown G w w'/\(∀ b,Gr b->G b\/w.heap.size<=b)/\(∀ b,Gr b->b<w'.heap.size)/\r.rd (λ b=>M0 b\/Gr b) Gr w' u
variable{P:Program}{fn:Func}{F:Frm}{N:Nat}{M0 M M':Nat->Prop}{Gs:List (Nat->Prop)}{L L2:Env}{O O2:List (Nat×Nat×Dt)}{a:Act}{w w0:World}{Q:Exit->Act->World->Prop}{ops:Array Oper}{rest:List Oper}{ks qs:List Nat}{o:Oper}{d p p2:Nat}
theorem fnT{oo:Ow α}{f:FuncId}{c:Code}{x:α}{rs:List Dt}{r:Rd}(p n:Nat)(hf:P.funcs[f]?=some fn)(hb:fn.body=some c)(hn:rs.length+1<=fn.ntmps)(hnb:XJ (zN 1 rs)=true)
  (h:∀ (M G:Nat->Prop) (w:World) (a:Act),Sx (Frm.chg w G) fn.ntmps M (λ b=>M b\/G b) ((List.replicate n (oneB none)).set p G) (zN 1 rs) [(0,p,dow oo G x)] a w->c.wp P (bodyPost P fn (RetTk M w G r)) a w) (hp:p<n:=by decide):FnT P f oo x rs r:=by
 intro M0 G w v vs hm hg hv hr;have hra:RdAll (λ b=>M0 b\/G b) w (v::vs) (dow oo G x::rs):=.cons hv hr;have hl:=hra.len;have hnth:∀ s y,(zN 0 (dow oo G x::rs)).lookup s=some y->y.rd (λ b=>M0 b\/G b) w (Act.at { tmps:=(v::vs).toArray++Array.replicate (fn.ntmps - (v::vs).toArray.size) undef,defers:=[] } s):=λ s y hs=>by
  obtain⟨j,u,h1,h2,h3⟩:=hra.nth 0 s y hs;have hj:j<(v::vs).length:=(List.getElem?_eq_some_iff.1 h2).1;have h5:(v::vs).toArray[j]?=some u:=by simpa using h2
  have hj':j<(v::vs).toArray.size:=by simpa using hj
  have:s=j:=by omega
  subst this;have h4:Act.at { tmps:=(v::vs).toArray++Array.replicate (fn.ntmps - (v::vs).toArray.size) undef,defers:=[] } s=u:=by
   simp only[Act.at,Array.getD_eq_getD_getElem?];rw[Array.getElem?_append_left hj',h5];rfl
  rw[h4];exact h3
 have hlen:p<(List.replicate n (oneB none)).length:=by simpa using hp
 have hown:∀ q b,zk ((List.replicate n (oneB none)).set p G) q b ↔ q=p/\G b:=λ q b=>by
  by_cases hq:p=q
  ·
   subst hq;rw[zl hlen];simp
  ·
   rw[zx hq];exact⟨λ h=>(Wa h).elim,λ h=>(hq h.1.symm).elim⟩
 refine calls_of_wp hf hb (h M0 G w _ ?_);refine⟨⟨Grown.refl _ _,by simp at hl ⊢;omega,rfl,hm,λ s y hy=>?_⟩,⟨λ b hb=>.inl hb,λ q b hb=>?_,λ q r b hne h1 h2=>hne (((hown q b).1 h1).1.trans ((hown r b).1 h2).1.symm)⟩,YB hnb,⟨λ b hb=>(hown p b).2 ⟨rfl,hb⟩,trivial⟩⟩
 ·
  have hk:∀ (i:Nat) (rs:List Dt) (s:Nat) (x:Dt),(zN i rs).lookup s=some x->i<=s:=λ i rs=>by
   induction rs generalizing i with
   | nil=>intro s x h;simp[zN] at h
   |
    cons y rs ih=>
    intro s x h;simp only[zN,List.lookup_cons] at h;by_cases he:s=i
    ·
     omega
    ·
     have hb:(s == i)=false:=by simpa using he
     simp only[hb] at h;have:=ih (i+1) s x h;omega
  refine hnth s y ?_;simp only[zN,List.lookup_cons];rcases yL hy with h1 | ⟨_,h1⟩
  ·
   have:=hk _ _ _ _ h1;have hb:(s == 0)=false:=by simpa using(by omega:¬ s=0)
   simp only[hb];exact h1
  ·
   simp only[envO,List.lookup_cons,List.lookup_nil] at h1;cases hb:s == 0 with
   | true=>simp only[hb] at h1;exact h1
   | false=>simp only[hb] at h1;cases h1
 ·
  obtain⟨rfl,hb'⟩:=(hown q b).1 hb;exact⟨.inl hb',.inr hb',hg b hb'⟩
theorem Sx.rtC{ow:Ow α}{t:Nat}{ty:TypeId}{G0 G:Nat->Prop}{x:Bx α}{r:α}{v0:Value}{cf:CF}(h:Sx (Frm.chg w0 G0) N M0 M Gs L O a w)(p:Nat)(hr:fn.results=#[.cell t ty])(ht:tyB P ty (Rep.agg α) (Rep.size α)=true)(hl:(L++envO O).lookup t=some (dnm ow.box G x v0 cf))(hG:∀ b,G b->zk Gs p b)(hm:some x.x=some r):bodyPost P fn (RetTk M0 w0 G0 (.ow ow r)) .ret a w:=by
 injection hm with hm;subst hm;obtain⟨h1,⟨cs,⟨b,C,e,Gr,hc,hb,hGb,hn,hs,hro⟩,h3⟩,_⟩:=h.st.has t _ hl;have hrr:=ow.toR hro;have hc':∀ j u,C.toList[j]?=some u->w.cell? ⟨b,0+j,none⟩=some u:=λ j u hj=>by
  rw[Nat.zero_add];have:C[j]?=some u:=by simpa using hj
  simp[World.cell?,hb,this]
 have hld:=yP ht (Rep.len hrr) Rep.one hc';have hv:Act.at a t=.pointer (some ⟨b,0,none⟩):=by rw[h1,h3,hc];rfl
 refine⟨h.st.defers,mkv (Rep.agg α) C.toList,?_,_,Gr,rfl,h.st.fr,λ k hk=>(h.ob.at_ p k (hG k (hs k hk))).1,λ k hk=>h.st.mok k (h.ob.at_ p k (hG k (hs k hk))).2.1,⟨_,ow.weak hro λ k _ hk=>hk.elim (h.ob.sub k) λ hk=>(h.ob.at_ p k (hG k (hs k hk))).2.1,rfl⟩⟩;have h2:a.tmps.getD t undef=.pointer (some ⟨b,0,none⟩):=hv;simp only[results,hr];simp at h2;simp[h2,asAddr,hld]
theorem Sx.cT{oy:Ow β}{sb:Nat}{f:FuncId}{l:List Operand}{ts:Array TypeId}{G1:Nat->Prop}{y:β}{r:Rd}{xr:List Dt}(h:Sx F N M0 M Gs L O a w)(p:Nat)(hh:opH o N=some d)
  (ho:o.op=.call { callee:=.value (.func f),args:=(.tmp sb::l).toArray,argTypes:=ts }) (hf:fnB P f=true) (hy:(L++envO O).lookup sb=some (dow oy G1 y)) (hG1:∀ b,G1 b->zk Gs p b) (hp:p<Gs.length) (hx:ArgsR M (λ s=>(L++envO O).lookup s) l xr) (hfn:FnT P f oy y xr r)
  (ks:List Nat) (hk:selP ks L=some L2) (qs:List Nat) (hq:selR L O qs p=some O2) (hdn:L2.lookup d=none)
  (next:∀ G' M' a' w',Sx F N M0 M' (Gs.set p G') L2 ((d,p,drd r G')::O2) a' w'->wpList P ops Q rest a' w'):wpList P ops Q (o::rest) a w:=by
 obtain⟨hgd,hd,hN⟩:=zZ hh;have hy':=h.st.has sb _ hy;have hGM:∀ b,G1 b->M b:=λ b hb=>(h.ob.at_ p b (hG1 b hb)).2.1
 refine wpList_plain hgd λ K hK=>OpOut.wp (OpOut.of_enter (f:=f) (args:=((.tmp sb::l).map a.eval).toArray) (w':=w) ?_ ?_)
 ·
  unfold execOp;rw[ho];have e:a.eval (.func f)=.func (.func f) #[] #[]:=rfl;simp[resolve,e,Deferred.ofValue,invoke,xS hf]
 ·
  have hM:∀ k,((M k/\¬ G1 k)\/G1 k) ↔ M k:=λ k=>by
   refine⟨λ hk=>hk.elim (λ h=>h.1) (hGM k),λ hk=>?_⟩;by_cases e:G1 k
   ·
    exact .inr e
   ·
    exact .inl ⟨hk,e⟩
  rw[List.map_cons];refine(hfn (λ b=>M b/\¬ G1 b) G1 w _ _ (λ b hb=>h.st.mok b ((hM b).1 hb)) (λ b hb hm=>hm.2 hb) ((dow oy G1 y).weak hy' λ k _ hk=>(hM k).1 hk) ((hx.all h.st.has).weak λ k _ hk=>(hM k).1 hk)).mono λ en w' ⟨u,Gr,he,hgr,i2,i4,hu⟩=>⟨u,he,?_⟩
  rw[hd];have h1:=h.eff (G':=λ b=>(zk Gs p b/\¬ G1 b)\/Gr b) hp (hgr.mono hG1) (λ b hb=>by
   rcases hb with hb | hb
   ·
    exact⟨.inl hb.1,Nat.lt_of_lt_of_le (h.st.mok b (h.ob.at_ p b hb.1).2.1) hgr.size⟩
   ·
    exact⟨(i2 b hb).imp (hG1 b) id,i4 b hb⟩) hk hq
  have hM':∀ k,(M k/\¬ zk Gs p k)\/((zk Gs p k/\¬ G1 k)\/Gr k)->(M k/\¬ G1 k)\/Gr k:=λ k hk=>by
   rcases hk with hk | hk | hk
   ·
    exact .inl ⟨hk.1,λ e=>hk.2 (hG1 k e)⟩
   ·
    exact .inl ⟨(h.ob.at_ p k hk.1).2.1,hk.2⟩
   ·
    exact .inr hk
  exact hK _ _ (next _ _ _ _ (h1.putO hN hdn (x:=drd r λ b=>(zk Gs p b/\¬ G1 b)\/Gr b) (r.more (r.weak hu λ k _ hk=>hM' k hk) λ b hb=>.inr hb) λ b hb=>by rw[zl hp];exact hb))
end
open Go.RowKit
structure Kn where
 d:Disk
 f:Finder
instance:Inhabited Kn:=⟨⟨default,default⟩⟩
instance:Rep Kn where
 size:=1
 agg:=false
 rdc M w cs y:=∃ F vp vd,cs=[.func (.func F) #[] #[vp,vd]]/\(dptr y.f).rd M w vp/\(dptr y.d).rd M w vd
 len:=λ⟨_,_,_,h,_⟩=>by rw[h];rfl
 one _:=rfl
 pos:=Nat.one_pos
 oneCell:=λ⟨_,_,_,h,_⟩ c hc=>by
  rw[h] at hc;simp at hc;subst hc;rfl
 stable:=λ⟨F,vp,vd,h,h1,h2⟩ e=>⟨F,vp,vd,h,(dptr _).stable h1 e,(dptr _).stable h2 e⟩
 weak:=λ⟨F,vp,vd,h,h1,h2⟩ e=>⟨F,vp,vd,h,(dptr _).weak h1 e,(dptr _).weak h2 e⟩
def Ow.clo(F:FuncId)(o:Ow Finder):Ow Kn where
 ro M G w cs y:=∃ b vd,cs=[.func (.func F) #[] #[ptrB b,vd]]/\o.box.ro M G w [ptrB b] ⟨y.f⟩/\(dptr y.d).rd M w vd
 toR:=λ⟨b,vd,h,h1,h2⟩=>⟨F,ptrB b,vd,h,by
  obtain⟨v,hv,hr⟩:=o.box.toR h1;injection hv with hv;rw[hv];exact hr,(dptr _).weak h2 λ _ _ hk=>hk.1⟩
 stable:=λ⟨b,vd,h,h1,h2⟩ e=>⟨b,vd,h,o.box.stable h1 e,(dptr _).stable h2 e.mono⟩
 weak:=λ⟨b,vd,h,h1,h2⟩ e=>⟨b,vd,h,o.box.weak h1 e,(dptr _).weak h2 e⟩
 more:=λ⟨b,vd,h,h1,h2⟩ e=>⟨b,vd,h,o.box.more h1 e,h2⟩
def dkn(F:FuncId)(b:Nat)(d:Disk):Dt where
 rd M w v:=∃ vd,v=.func (.func F) #[] #[ptrB b,vd]/\(dptr d).rd M w vd
 own:=noB
 nb:=true
 nob _ _ h:=h
 stable:=λ⟨vd,h,h1⟩ e=>⟨vd,h,(dptr d).stable h1 e⟩
 weak:=λ⟨vd,h,h1⟩ e=>⟨vd,h,(dptr d).weak h1 e⟩
def FnM{α:Type}[Rep α](k:Nat)(P:Program)(f:FuncId)(o:Ow α)(x:α)(xs:List Dt)(x':α)(r:Rd):Prop:=
 ∀
  (M0 G:Nat->Prop) (w:World) (v:Value) (vs:List Value),(∀ b,M0 b\/G b->b<w.heap.size)->(∀ b,G b->¬ M0 b)->(dow o G x).rd (λ b=>M0 b\/G b) w v->RdAll (λ b=>M0 b\/G b) w vs xs->
  Calls P f (vs.take k++v::vs.drop k).toArray w (RetS M0 w G v o x' r)
theorem RdAll.ins{M:Nat->Prop}{w:World}{v:Value}{y:Dt}(hv:y.rd M w v):∀ (k:Nat) {vs:List Value} {xs:List Dt},RdAll M w vs xs->RdAll M w (vs.take k++v::vs.drop k) (xs.take k++y::xs.drop k)
 | 0,_,_,h=>by simpa using RdAll.cons hv h
 | _+1,_,_,.nil=>.cons hv .nil
 | k+1,_,_,.cons h1 h=>.cons h1 (RdAll.ins hv k h)
theorem zbD:∀ {xs ys:List Dt} {i:Nat},zN i (xs++ys)=zN i xs++zN (i+xs.length) ys
 | [],_,_=>rfl
 |
  _::xs,ys,i=>by
  show(i,_)::zN (i+1) (xs++ys)=(i,_)::(zN (i+1) xs++zN (i+(xs.length+1)) ys);rw[zbD,Nat.add_assoc,Nat.add_comm 1]
theorem zaI:∀ {xs:List Dt} {i s:Nat} {x:Dt},(zN i xs).lookup s=some x->i<=s/\s<i+xs.length
 | [],_,_,_,h=>by simp[zN] at h
 |
  y::xs,i,s,x,h=>by
  simp only[zN,List.lookup_cons] at h;by_cases he:s=i
  ·
   simp;omega
  ·
   have hb:(s == i)=false:=by simpa using he
   simp only[hb] at h;have:=zaI h;simp only[List.length_cons];omega
theorem lookup_ins{A B:Env}{k s:Nat}{X y:Dt}(hA:A.lookup k=none)(h:(A++B++[(k,X)]).lookup s=some y)(hB:B.lookup k=none):(A++(k,X)::B).lookup s=some y:=by
 by_cases he:s=k
 ·
  subst he;rcases yL h with h1 | ⟨_,h1⟩
  ·
   rcases yL h1 with h2 | ⟨_,h2⟩
   ·
    rw[hA] at h2;cases h2
   ·
    rw[hB] at h2;cases h2
  ·
   rw[yS hA];simpa using h1
 ·
  have hb:(s == k)=false:=by simpa using he
  rcases yL h with h1 | ⟨_,h1⟩
  ·
   rcases yL h1 with h2 | ⟨h3,h2⟩
   ·
    exact wL h2
   ·
    rw[yS h3];simp only[List.lookup_cons,hb];exact h2
  ·
   simp only[List.lookup_cons,hb,List.lookup_nil] at h1;cases h1
theorem bxk{β:Type}{d:Disk}{x:Finder}{y:β}{r:Finder×β}(h:some (x,y)=some r):some ((⟨d,x⟩:Kn),y)=some (⟨d,r.1⟩,r.2):=by injection h with h;rw[← h]
section
variable{P:Program}{fn:Func}{F:Frm}{N d p:Nat}{M0 M M':Nat->Prop}{Gs:List (Nat->Prop)}{L L2:Env}{O O2:List (Nat×Nat×Dt)}{a:Act}{w w0:World}{Q:Exit->Act->World->Prop}{ops:Array Oper}{rest:List Oper}{ks qs:List Nat}{o:Oper}{look:Nat->Option Dt}{t:TypeId}
variable{α β:Type}[Rep α][Rep β]
theorem fnM0{oo:Ow α}{f:FuncId}{c:Code}{x x':α}{rs:List Dt}{r:Rd}(k p n:Nat)(hk:k<=rs.length)(hf:P.funcs[f]?=some fn)(hb:fn.body=some c)(hn:rs.length+1<=fn.ntmps)(hnb:XJ (zN 0 (rs.take k)++zN (k+1) (rs.drop k))=true)
  (h:∀ (M G:Nat->Prop) (w:World) (v:Value) (a:Act),Act.at a k=v->Sx (Frm.chg w G) fn.ntmps M (λ b=>M b\/G b) ((List.replicate n (oneB none)).set p G) (zN 0 (rs.take k)++zN (k+1) (rs.drop k)) [(k,p,dow oo G x)] a w->c.wp P (bodyPost P fn (RetS M w G v oo x' r)) a w) (hp:p<n):FnM k P f oo x rs x' r:=by
 intro M0 G w v vs hm hg hv hr;have hra:=hr.ins (y:=dow oo G x) hv k;have hl:=hra.len;have hl':=hr.len;have hnth:∀ s y,(zN 0 (rs.take k++dow oo G x::rs.drop k)).lookup s=some y->y.rd (λ b=>M0 b\/G b) w (Act.at { tmps:=(vs.take k++v::vs.drop k).toArray++Array.replicate (fn.ntmps - (vs.take k++v::vs.drop k).toArray.size) undef,defers:=[] } s):=λ s y hs=>by
  obtain⟨j,u,h1,h2,h3⟩:=hra.nth 0 s y hs;have hj:j<(vs.take k++v::vs.drop k).length:=(List.getElem?_eq_some_iff.1 h2).1;have h5:(vs.take k++v::vs.drop k).toArray[j]?=some u:=by rw[List.getElem?_toArray];exact h2
  have hj':j<(vs.take k++v::vs.drop k).toArray.size:=by rw[List.size_toArray];exact hj
  have:s=j:=by omega
  subst this;have h4:Act.at { tmps:=(vs.take k++v::vs.drop k).toArray++Array.replicate (fn.ntmps - (vs.take k++v::vs.drop k).toArray.size) undef,defers:=[] } s=u:=by
   simp only[Act.at,Array.getD_eq_getD_getElem?];rw[Array.getElem?_append_left hj',h5];rfl
  rw[h4];exact h3
 have hlen:p<(List.replicate n (oneB none)).length:=by simpa using hp
 have hown:∀ q b,zk ((List.replicate n (oneB none)).set p G) q b ↔ q=p/\G b:=λ q b=>by
  by_cases hq:p=q
  ·
   subst hq;rw[zl hlen];simp
  ·
   rw[zx hq];exact⟨λ h=>(Wa h).elim,λ h=>(hq h.1.symm).elim⟩
 have hkl:(rs.take k).length=k:=by rw[List.length_take];omega
 have hA:(zN 0 (rs.take k)).lookup k=none:=by
  cases hc:(zN 0 (rs.take k)).lookup k with
  | none=>rfl
  | some y=>have:=zaI hc;omega
 have hB:(zN (k+1) (rs.drop k)).lookup k=none:=by
  cases hc:(zN (k+1) (rs.drop k)).lookup k with
  | none=>rfl
  | some y=>have:=zaI hc;omega
 have hall:∀ s y,(zN 0 (rs.take k)++zN (k+1) (rs.drop k)++envO [(k,p,dow oo G x)]).lookup s=some y->(zN 0 (rs.take k++dow oo G x::rs.drop k)).lookup s=some y:=λ s y hs=>by
  rw[zbD,hkl,Nat.zero_add];exact lookup_ins hA hs hB
 refine calls_of_wp hf hb (h M0 G w v _ ?_ ?_)
 ·
  have h1:(zN 0 (rs.take k++dow oo G x::rs.drop k)).lookup k=some (dow oo G x):=hall k _ (by
   rw[yS (by rw[yS hA];exact hB)];simp[envO])
  have hvl:(vs.take k).length=k:=by rw[List.length_take];omega
  have hj:k<(vs.take k++v::vs.drop k).toArray.size:=by simp;omega
  simp only[Act.at,Array.getD_eq_getD_getElem?];rw[Array.getElem?_append_left hj,List.getElem?_toArray,List.getElem?_append_right (by omega),hvl,Nat.sub_self];rfl
 ·
  refine⟨⟨Grown.refl _ _,by simp at hl ⊢;omega,rfl,hm,λ s y hy=>hnth s y (hall s y hy)⟩,⟨λ b hb=>.inl hb,λ q b hb=>?_,λ q r b hne h1 h2=>hne (((hown q b).1 h1).1.trans ((hown r b).1 h2).1.symm)⟩,YB hnb,⟨λ b hb=>(hown p b).2 ⟨rfl,hb⟩,trivial⟩⟩;obtain⟨rfl,hb'⟩:=(hown q b).1 hb;exact⟨.inl hb',.inr hb',hg b hb'⟩
theorem fnMB{oo:Ow α}{f:FuncId}{c:Code}{x x':Bx α}{rs:List Dt}{r:Rd}(k p n:Nat)(hk:k<=rs.length)(hf:P.funcs[f]?=some fn)(hb:fn.body=some c)(hn:rs.length+1<=fn.ntmps)(hnb:XJ (zN 0 (rs.take k)++zN (k+1) (rs.drop k))=true)
  (hl:(zN 0 (rs.take k)++zN (k+1) (rs.drop k)).lookup k=none)
  (h:∀ (M G:Nat->Prop) (w:World) (b:Nat) (a:Act),Sx (Frm.chg w G) fn.ntmps M (λ b=>M b\/G b) ((List.replicate n (oneB none)).set p G) (zN 0 (rs.take k)++zN (k+1) (rs.drop k)) [(k,p,dnm oo.box G x (.pointer (some ⟨b,0,none⟩)) [])] a w->c.wp P (bodyPost P fn (RetS M w G (.pointer (some ⟨b,0,none⟩)) oo.box x' r)) a w) (hp:p<n:=by decide):FnM k P f oo.box x rs x' r:=
 fnM0 k p n hk hf hb hn hnb (λ M G w v a hv st=>by
  have hs:((zN 0 (rs.take k)++zN (k+1) (rs.drop k))++envO [(k,p,dow oo.box G x)]).lookup k=some (dow oo.box G x):=by rw[yS hl];simp[envO]
  exact st.nmB p hs hl (Qn hp) [] rfl λ b st'=>by
   have e:v=.pointer (some ⟨b,0,none⟩):=by
    rw[← hv];refine(st'.st.has k (dnm oo.box G x (.pointer (some ⟨b,0,none⟩)) []) ?_).1;rw[yS hl];simp[envO]
   rw[e];exact h M G w b a st') hp
theorem fnMV{oo:Ow α}{f:FuncId}{c:Code}{x x':α}{rs:List Dt}{r:Rd}(k p n:Nat)(hk:k<=rs.length)(hf:P.funcs[f]?=some fn)(hb:fn.body=some c)(hn:rs.length+1<=fn.ntmps)(hnb:XJ (zN 0 (rs.take k)++zN (k+1) (rs.drop k))=true)
  (hl:(zN 0 (rs.take k)++zN (k+1) (rs.drop k)).lookup k=none)
  (h:∀ (M G:Nat->Prop) (w:World) (v0:Value) (a:Act),Sx (Frm.chg w G) fn.ntmps M (λ b=>M b\/G b) ((List.replicate n (oneB none)).set p G) (zN 0 (rs.take k)++zN (k+1) (rs.drop k)) [(k,p,dnm oo G x v0 [])] a w->c.wp P (bodyPost P fn (RetS M w G v0 oo x' r)) a w) (hp:p<n:=by decide):FnM k P f oo x rs x' r:=
 fnM0 k p n hk hf hb hn hnb (λ M G w v a hv st=>by
  have hs:((zN 0 (rs.take k)++zN (k+1) (rs.drop k))++envO [(k,p,dow oo G x)]).lookup k=some (dow oo G x):=by rw[yS hl];simp[envO]
  exact st.nmV p hs hl (Qn hp) [] rfl λ v0 st'=>by
   have e:v=v0:=by
    rw[← hv];refine(st'.st.has k (dnm oo G x v0 []) ?_).1;rw[yS hl];simp[envO]
   rw[e];exact h M G w v0 a st') hp
theorem Sx.cE{oy:Ow β}{u:Value}{f:FuncId}{args:Array Value}{G1:Nat->Prop}{y y':β}{r:Rd}(h:Sx F N M0 M Gs L O a w)(p:Nat)(hh:opH o N=some d)
  (hx:(execOp a.eval o).run P w=.ok (.enter f args) w) (_hy:(dow oy G1 y).rd M w u) (hG1:∀ b,G1 b->zk Gs p b) (hp:p<Gs.length)
  (hfn:∀ M1:Nat->Prop,(∀ b,M1 b\/G1 b->b<w.heap.size)->(∀ b,G1 b->¬ M1 b)->(∀ k,M1 k\/G1 k->M k)->Calls P f args w (RetS M1 w G1 u oy y' r))
  (ks:List Nat) (hk:selP ks L=some L2) (qs:List Nat) (hq:selR L O qs p=some O2)
  (next:∀ G' Gr M' v w',Sx F N M0 M' (Gs.set p (λ b=>((zk Gs p b/\¬ G1 b)\/G' b)\/Gr b)) L2 O2 a w'->(∀ G2:Nat->Prop,(∀ b,G2 b->¬ G1 b)->Later M G2 w M' w')->(∀ b,G' b->G1 b\/w.heap.size<=b)->(∀ b,Gr b->G1 b\/w.heap.size<=b)->(∀ b,G' b->¬ Gr b)->
   (dow oy G' y').rd M' w' u->r.rd M' Gr w' v->wpList P ops Q rest (a.put (some d) v) w'):wpList P ops Q (o::rest) a w:=by
 obtain⟨hgd,hd,hN⟩:=zZ hh;have hGM:∀ b,G1 b->M b:=λ b hb=>(h.ob.at_ p b (hG1 b hb)).2.1
 refine wpList_plain hgd λ K hK=>OpOut.wp (OpOut.of_enter hx ?_)
 have hM:∀ k,((M k/\¬ G1 k)\/G1 k) ↔ M k:=λ k=>by
  refine⟨λ hk=>hk.elim (λ h=>h.1) (hGM k),λ hk=>?_⟩;by_cases e:G1 k
  ·
   exact .inr e
  ·
   exact .inl ⟨hk,e⟩
 refine(hfn (λ b=>M b/\¬ G1 b) (λ b hb=>h.st.mok b ((hM b).1 hb)) (λ b hb hm=>hm.2 hb) λ k hk=>(hM k).1 hk).mono λ en w' ⟨v,G',Gr,he,hgr,i1,i2,i3,i4,hv',hu⟩=>⟨v,he,?_⟩
 rw[hd];have h1:=h.eff (G':=λ b=>((zk Gs p b/\¬ G1 b)\/G' b)\/Gr b) hp (hgr.mono hG1) (λ b hb=>by
  rcases hb with(hb | hb) | hb
  ·
   exact⟨.inl hb.1,Nat.lt_of_lt_of_le (h.st.mok b (h.ob.at_ p b hb.1).2.1) hgr.size⟩
  ·
   exact⟨(i1 b hb).imp (hG1 b) id,i4 b (.inl hb)⟩
  ·
   exact⟨(i2 b hb).imp (hG1 b) id,i4 b (.inr hb)⟩) hk hq
 have hM':∀ k,(M k/\¬ zk Gs p k)\/((zk Gs p k/\¬ G1 k)\/G' k)\/Gr k->((M k/\¬ G1 k)\/G' k)\/Gr k:=λ k hk=>by
  rcases hk with hk | (hk | hk) | hk
  ·
   exact .inl (.inl ⟨hk.1,λ e=>hk.2 (hG1 k e)⟩)
  ·
   exact .inl (.inl ⟨(h.ob.at_ p k hk.1).2.1,hk.2⟩)
  ·
   exact .inl (.inr hk)
  ·
   exact .inr hk
 refine hK _ _ (next G' Gr _ _ _ h1 (λ G2 hd2=>⟨λ k hk hm=>?_,λ k hk hm=>hgr.block k hk λ e=>hm.elim (λ hm=>hm (hGM k e)) λ hm=>hd2 k hm e⟩) i1 i2 i3 ((dow oy G' y').weak hv' λ k _ hk=>hM' k hk) (r.weak hu λ k _ hk=>hM' k hk));rcases hM' k hm with(h2 | h2) | h2
 ·
  exact h2.1
 ·
  exact(i1 k h2).elim (hGM k) λ h=>by omega
 ·
  exact(i2 k h2).elim (hGM k) λ h=>by omega
theorem Sx.cMF{oy:Ow β}{q:Operand}{sb:Nat}{f:FuncId}{l:List Operand}{ag:Array Operand}{ts:Array TypeId}{y y':β}{u:Value}{yd:Dt}{xr:List Dt}{mk:(Nat->Prop)->Dt}(h:Sx F N M0 M Gs L O a w)(k p:Nat)(bk:Back M w Gs p u (Act.at a sb) oy y y' mk)(hh:opH o N=some d)
  (ho:o.op=.call { callee:=.value (.func f),args:=ag,argTypes:=ts }) (has:ag=(l.take k++q::l.drop k).toArray) (hf:fnB P f=true) (hqv:a.eval q=u) (hp:p<Gs.length) (hx:ArgsR M (λ s=>(L++envO O).lookup s) l xr) (hfn:FnM k P f oy y xr y' (.frz yd))
  (ks:List Nat) (hk:selP ks L=some L2) (qs:List Nat) (hq:selR L O qs p=some O2) (hsn:L2.lookup sb=none) (_hne:sb≠d)
  (next:∀ G'' M' a' w',Sx F N M0 M' (Gs.set p G'') ((d,yd)::L2) ((sb,p,mk G'')::O2) a' w'->wpList P ops Q rest a' w'):wpList P ops Q (o::rest) a w:=by
 subst hqv;subst has;obtain⟨G1,hG1,hy,back⟩:=bk.ex;refine h.cE (f:=f) (y':=y') (r:=.frz yd) (args:=((l.map a.eval).take k++a.eval q::(l.map a.eval).drop k).toArray) p hh ?_ hy hG1 hp (λ M1 m1 m2 m3=>hfn M1 G1 w _ _ m1 m2 ((dow oy G1 y).weak hy λ k _ hk=>m3 k hk) ((hx.all h.st.has).weak λ k _ hk=>m3 k hk)) ks hk qs hq λ G' Gr M' v w' st hL hG' _ _ hr hres=>?_
 ·
  unfold execOp;rw[ho];have e:a.eval (.func f)=.func (.func f) #[] #[]:=rfl;simp[resolve,e,Deferred.ofValue,invoke,xS hf,List.map_take,List.map_drop]
 ·
  have h1:=st.addO (d:=sb) (p:=p) (x:=mk (λ b=>((zk Gs p b/\¬ G1 b)\/G' b)\/Gr b)) hsn (back hL hG' hr λ b hb=>.inl hb) λ b hb=>by rw[zl hp];exact bk.own _ b hb
  exact next _ _ _ _ (h1.putL (zZ hh).2.2 hres.1 hres.2)
theorem Sx.cK{oo:Ow Finder}{F':FuncId}{s sb:Nat}{l:List Operand}{ag:Array Operand}{ts:Array TypeId}{G:Nat->Prop}{y:Kn}{f':Finder}{v0:Value}{cf:CF}{yd:Dt}{xr:List Dt}(h:Sx F N M0 M Gs L O a w)(p:Nat)(hs:(L++envO O).lookup sb=some (dnm (Ow.clo F' oo) G y v0 cf))(hG:∀ b,G b->zk Gs p b)(hh:opH o N=some d)
  (ho:o.op=.call { callee:=.value (.tmp s),args:=ag,argTypes:=ts }) (has:ag=l.toArray) (hf:fnB P F'=true) (hqv:(L++envO O).lookup s=some (dis v0)) (hp:p<Gs.length) (hx:ArgsR M (λ s=>(L++envO O).lookup s) l xr) (hfn:FnM l.length P F' oo.box ⟨y.f⟩ (xr++[dptr y.d]) ⟨f'⟩ (.frz yd))
  (ks:List Nat) (hk:selP ks L=some L2) (qs:List Nat) (hq:selR L O qs p=some O2) (hsn:L2.lookup sb=none) (_hne:sb≠d)
  (next:∀ G'' M' a' w',Sx F N M0 M' (Gs.set p G'') ((d,yd)::L2) ((sb,p,dnm (Ow.clo F' oo) G'' ⟨y.d,f'⟩ v0 [])::O2) a' w'->wpList P ops Q rest a' w'):wpList P ops Q (o::rest) a w:=by
 subst has;obtain⟨k1,⟨cs,⟨b,vd,hc,hbx,hd⟩,hv⟩,_⟩:=h.st.has sb _ hs;subst hc;have hv0:v0=.func (.func F') #[] #[ptrB b,vd]:=hv;have hsv:Act.at a s=v0:=h.st.has s _ hqv;have hy:(dow oo.box G ⟨y.f⟩).rd M w (ptrB b):=⟨_,hbx,rfl⟩;have hra:RdAll M w (l.map a.eval++[vd]) (xr++[dptr y.d]):=by
  have h1:=hx.all h.st.has;generalize l.map a.eval=vs at*
  clear hfn hx
  induction h1 with
  | nil=>exact .cons hd .nil
  | cons h2 _ ih=>exact .cons h2 ih
 refine h.cE (f:=F') (y':=⟨f'⟩) (r:=.frz yd) (args:=(l.map a.eval++[ptrB b,vd]).toArray) p hh ?_ hy hG hp (λ M1 m1 m2 m3=>?_) ks hk qs hq λ G' Gr M' v w' st hL hG' hGr hdj hr hres=>?_
 ·
  unfold execOp;rw[ho];have e:a.eval (.tmp s)=.func (.func F') #[] #[ptrB b,vd]:=hsv.trans hv0;simp[resolve,e,Deferred.ofValue,invoke,xS hf]
 ·
  have h2:=hfn M1 G w _ _ m1 m2 ((dow oo.box G ⟨y.f⟩).weak hy λ k _ hk=>m3 k hk) (hra.weak λ k _ hk=>m3 k hk);have e1:(l.map a.eval++[vd]).take l.length=l.map a.eval:=by rw[List.take_append_of_le_length (by simp),List.take_of_length_le (by simp)]
  have e2:(l.map a.eval++[vd]).drop l.length=[vd]:=by rw[List.drop_append_of_le_length (by simp),List.drop_of_length_le (by simp)];rfl
  rw[e1,e2] at h2;exact h2
 ·
  have hdd:(dptr y.d).rd M' w' vd:=by
   have:=hL noB (λ _ h=>h.elim);exact dptr_later hd this
  have h1:=st.addO (d:=sb) (p:=p) (x:=dnm (Ow.clo F' oo) (λ b=>((zk Gs p b/\¬ G b)\/G' b)\/Gr b) ⟨y.d,f'⟩ v0 []) hsn ⟨k1,⟨_,⟨b,vd,rfl,?_,hdd⟩,hv⟩,λ q hq _=>by cases hq⟩ λ b hb=>by rw[zl hp];exact hb
  ·
   exact next _ _ _ _ (h1.putL (zZ hh).2.2 hres.1 hres.2)
  ·
   obtain⟨c',h4,h5⟩:=hr;have hc':c'=[ptrB b]:=by
    obtain⟨b',C,e,Gr',hc,_⟩:=h4;rw[hc] at h5 ⊢;have h6:ptrB b=ptrB b':=h5;rw[h6]
   rw[hc'] at h4;exact oo.box.more h4 λ b hb=>.inl (.inr hb)
where
 dptr_later {α:Type} [Rep α] {y:α} {M M':Nat->Prop} {w w':World} {v:Value} (h:(dptr y).rd M w v) (l:Later M noB w M' w'):(dptr y).rd M' w' v:=by
  have h1:Rep.rdc M w [v] (⟨y⟩:Bx α):=⟨v,rfl,h⟩;obtain⟨u,hu,h2⟩:=Rep.later h1 l;injection hu with hu;rw[hu];exact h2
theorem xNeK{oo:Ow Finder}{F':FuncId}{sb:Nat}{q:Operand}{t2:TypeId}{G:Nat->Prop}{y:Kn}{v0:Value}{cf:CF}(ho:o.op=.binOp .neq t q (.const .nilFunc) t2)(ht:isFn P t=true)(hq:OpdR M look q (dis v0))(hs:look sb=some (dnm (Ow.clo F' oo) G y v0 cf)):OpRel P M look o (dt true):=
 zC λ a w _ hl=>by
  obtain⟨_,⟨cs,⟨b,vd,hc,_⟩,hv⟩,_⟩:=hl sb _ hs;subst hc;have hv0:v0=.func (.func F') #[] #[ptrB b,vd]:=hv;have h1:a.eval q=.func (.func F') #[] #[ptrB b,vd]:=(hq w a hl).trans hv0;have h2:a.eval (.const .nilFunc)=.nilFunc:=rfl;obtain⟨f1,f2,f3,hf⟩:=isFn_spec ht;have he:(Op.equal t (.func (.func F') #[] #[ptrB b,vd]) .nilFunc).run P w=.ok false w:=by
   unfold Op.equal Op.maxDepth;rw[show(10000:Nat)=9999+1 from rfl,Op.equalIn];simp only[Sem.run_bind,run_underlying hf,Result.andThen_ok,Sem.run_pure]
  refine⟨.bool true,?_,yR.2 rfl⟩;unfold execOp;rw[ho];simp[h1,h2,eqGuard,binOp,he]
theorem xMkK{oo:Ow Finder}{f:FuncId}{so sd b:Nat}{y:Bx Finder}{x:Disk}{G:Nat->Prop}{cf:CF}(ho:o.op=.makeFunc (.func f) #[] #[.tmp so,.tmp sd])(h1:look so=some (dnm oo.box G y (ptrB b) cf))(h2:look sd=some (dptr x)):OpRel P M look o (dkn f b x):=
 zC λ a w _ hl=>by
  have e1:a.eval (.tmp so)=ptrB b:=(hl so _ h1).1;refine⟨.func (.func f) #[] #[a.eval (.tmp so),a.eval (.tmp sd)],?_,a.eval (.tmp sd),?_,hl sd _ h2⟩
  ·
   unfold execOp;rw[ho];simp[Instr.makeFunc]
  ·
   rw[e1]
theorem Sx.bkK{oo:Ow Finder}{F':FuncId}{sk so b:Nat}{G:Nat->Prop}{x:Bx Finder}{x':Finder}{y:Disk}{cf:CF}(h:Sx F N M0 M Gs L O a w)(hk:(L++envO O).lookup sk=some (dkn F' b y))(hs:(L++envO O).lookup so=some (dnm oo.box G x (ptrB b) cf))(hG:∀ b,G b->zk Gs p b):
  Back M w Gs p (Act.at a sk) (Act.at a so) (Ow.clo F' oo) ⟨y,x.x⟩ ⟨y,x'⟩ (λ G''=>dnm oo.box G'' ⟨x'⟩ (ptrB b) []):=by
 obtain⟨vd,hv,hd⟩:=h.st.has sk _ hk;obtain⟨k1,⟨cs,k2,k3⟩,_⟩:=h.st.has so _ hs;have hcs:cs=[ptrB b]:=by
  obtain⟨b',C,e,Gr,hc,_⟩:=k2;rw[hc] at k3 ⊢;have h6:ptrB b=ptrB b':=k3;rw[h6]
 subst hcs;refine⟨⟨G,hG,⟨_,⟨b,vd,rfl,k2,hd⟩,hv⟩,λ{G' M' w' G''} _ _ hr hs'=>?_⟩,λ _ _ h=>h⟩;obtain⟨c',⟨b',vd',hc,hb,_⟩,h5⟩:=hr;subst hc;have h6:Value.func (.func F') #[] #[ptrB b,vd]=.func (.func F') #[] #[ptrB b',vd']:=hv.symm.trans h5;injection h6 with _ _ h6;injection h6 with h6;injection h6 with h6 _;have h7:oo.box.ro M' G' w' [ptrB b] ⟨x'⟩:=by
  rw[show ptrB b=ptrB b' from h6];exact hb
 exact⟨k1,⟨_,oo.box.more h7 λ b hb=>hs' b (.inr hb),rfl⟩,λ q hq _=>by cases hq⟩
end
open Go.RowKit
section
variable{P:Program}{fn:Func}{F:Frm}{N d p:Nat}{M0 M:Nat->Prop}{Gs:List (Nat->Prop)}{L L2:Env}{O O2:List (Nat×Nat×Dt)}{a:Act}{w w0:World}{Q:Exit->Act->World->Prop}{ops:Array Oper}{rest:List Oper}{ks qs:List Nat}{o:Oper}{look:Nat->Option Dt}{t:TypeId}
variable{α β:Type}[Rep α][Rep β]
theorem PH.cap{ow:Ow α}{oy:Ow β}{e:TypeId}{x:α}{v0:Value}{cf:CF}{b off n cap:Nat}{A:Option Addr}{ys:List β}{upd:List β->α}{c:Bool}{G:Nat->Prop}{v:Value}(hP:PH ow x v0 cf (Ow.row e oy) b off ys upd)(hm:(c,b,off,.slice A n cap)∈cf)(hc:c=true)(h:(dnm ow G x v0 cf).rd M w v):n=ys.length/\n<=cap:=by
 obtain⟨_,⟨cs,h2,h3⟩,h4⟩:=h;obtain⟨C,e',hh,hsz,_,G1,G2,_,_,_,_,_,hr,_⟩:=(hP.of h2 h3 h4).here;obtain⟨v,hv,h5⟩:=hr;have e1:w.cell? ⟨b,off,none⟩=some (.slice A n cap):=Xy rfl (h4 _ hm hc).2.2;have e2:w.cell? ⟨b,off,none⟩=some v:=by simp[World.cell?,hh,Wg hv]
 have e3:Value.slice A n cap=v:=Option.some.inj (e1.symm.trans e2);rcases h5 with⟨g,cap',cur,Gr,hg,_,hcap,_⟩ | ⟨hx,A',hA⟩
 ·
  rw[hg] at e3;injection e3 with e4 e5 e6;subst e5;subst e6;exact⟨rfl,hcap⟩
 ·
  rw[hA] at e3;injection e3 with e4 e5 e6;subst e5;subst e6;subst hx;exact⟨rfl,Nat.le_refl _⟩
theorem xSlH{ow:Ow α}{oy:Ow β}{e:TypeId}{x:α}{v0:Value}{cf:CF}{b off n cap sb:Nat}{A:Option Addr}{ys r:List β}{upd:List β->α}{c:Bool}{G:Nat->Prop}{q h:Operand}{i:Int}(hP:PH ow x v0 cf (Ow.row e oy) b off ys upd)(hm:(c,b,off,.slice A n cap)∈cf)(hc:c=true)(hs:look sb=some (dnm ow G x v0 cf))
  (ho:o.op=.slice t q none (some h) none) (ht:slB P t (Rep.size β)=true) (hq:OpdR M look q (dis (.slice A n cap))) (hh:OpdR M look h (dt i)) (hr:ZQ ys i=some r):OpRel P M look o (dis (.slice A i.toNat cap)):=
 zC λ a w _ hl=>by
  obtain⟨h1,h2⟩:=hP.cap hm hc (hl sb _ hs);obtain⟨_,ht⟩:=qT ht;unfold ZQ at hr;split at hr
  ·
   rename_i hi;have hrun:=Yy ht A n cap none (some i) (by simp) (by simp;omega) (by simp;omega) w;simp only[Option.map_some,Option.map_none,Option.getD_some,Option.getD_none,Int.toNat_zero,Nat.zero_mul,Nat.sub_zero] at hrun;have hA:(if cap=0 then A else A.map (·.add 0))=A:=by
    split
    ·
     rfl
    ·
     cases A <;> rfl
   rw[hA] at hrun;refine⟨_,?_,rfl⟩;have hv:a.eval q=.slice A n cap:=hq w a hl;unfold execOp;rw[ho];simp only[Option.map_some,Option.map_none,hv,yy.1 (hh w a hl),Sem.run_bind,hrun,Result.andThen_ok,Sem.run_pure]
  ·
   cases hr
theorem xSlL{ow:Ow α}{oy:Ow β}{e:TypeId}{x:α}{v0:Value}{cf:CF}{b off n cap sb:Nat}{A:Option Addr}{ys r:List β}{upd:List β->α}{c:Bool}{G:Nat->Prop}{q l:Operand}{j:Int}(hP:PH ow x v0 cf (Ow.row e oy) b off ys upd)(hm:(c,b,off,.slice A n cap)∈cf)(hc:c=true)(hs:look sb=some (dnm ow G x v0 cf))
  (ho:o.op=.slice t q (some l) none none) (ht:slB P t (Rep.size β)=true) (hq:OpdR M look q (dis (.slice A n cap))) (hh:OpdR M look l (dt j)) (hr:sliLO ys j=some r):OpRel P M look o (dis (.slice (if cap=j.toNat then A else A.map (·.add (j.toNat*Rep.size β))) (n - j.toNat) (cap - j.toNat))):=
 zC λ a w _ hl=>by
  obtain⟨h1,h2⟩:=hP.cap hm hc (hl sb _ hs);obtain⟨_,ht⟩:=qT ht;unfold sliLO at hr;split at hr
  ·
   rename_i hi;have hrun:=Yy ht A n cap (some j) none (by simp;omega) (by simp;omega) (by simp;omega) w;simp only[Option.map_some,Option.map_none,Option.getD_some,Option.getD_none,Int.toNat_natCast] at hrun;refine⟨_,?_,rfl⟩;have hv:a.eval q=.slice A n cap:=hq w a hl;unfold execOp;rw[ho];simp only[Option.map_some,Option.map_none,hv,yy.1 (hh w a hl),Sem.run_bind,hrun,Result.andThen_ok,Sem.run_pure]
  ·
   cases hr
def cutL{γ:Type}(ys:List γ)(i j:Nat):List γ:=ys.take i++ys.drop j++ys.drop (i+(ys.length - j))
theorem cutL_len{γ:Type}{ys:List γ}{i j:Nat}(h1:i<=j)(h2:j<=ys.length):(cutL ys i j).length=ys.length:=by
 simp[cutL];omega
theorem Sx.apCut{ow:Ow α}{e:TypeId}{x:α}{v0:Value}{cf:CF}{b off n cap sb bytes:Nat}{A:Option Addr}{ys r1 r2:List β}{upd:List β->α}{c:Bool}{G:Nat->Prop}{q1 q2:Operand}{i j:Int}(h:Sx F N M0 M Gs L O a w)(p:Nat)(hP:PH ow x v0 cf (Ow.row e (Ow.frz (α:=β))) b off ys upd)(hm:(c,b,off,.slice A n cap)∈cf)(hc:c=true)
  (hh:opH o N=some d) (ho:o.op=.call { callee:=.builtin .append,args:=#[q1,q2],argTypes:=#[t,t] }) (hel:elB P t e (Rep.size β) bytes=true) (hs:(L++envO O).lookup sb=some (dnm ow G x v0 cf)) (hG:∀ b,G b->zk Gs p b) (hp:p<Gs.length)
  (h1:OpdR M (λ s=>(L++envO O).lookup s) q1 (dis (.slice A i.toNat cap))) (h2:OpdR M (λ s=>(L++envO O).lookup s) q2 (dis (.slice (if cap=j.toNat then A else A.map (·.add (j.toNat*Rep.size β))) (n - j.toNat) (cap - j.toNat))))
  (hr1:ZQ ys i=some r1) (hr2:sliLO ys j=some r2) (hij:decide (i<j)=true)
  (ks:List Nat) (hk:selP ks L=some L2) (qs:List Nat) (hq:selR L O qs p=some O2) (hsn:L2.lookup sb=none)
  (next:∀ a' w',Sx F N M0 M Gs ((d,dis (.slice A (i.toNat+(n - j.toNat)) cap))::L2) ((sb,p,dnm ow G (upd (cutL ys i.toNat j.toNat)) v0 [(c,b,off,.slice A n cap)])::O2) a' w'->wpList P ops Q rest a' w'):wpList P ops Q (o::rest) a w:=by
 have hij:=oD hij;obtain⟨hgd,hd,hN⟩:=zZ hh;have hsv:=h.st.has sb _ hs;obtain⟨en,ecap⟩:=hP.cap hm hc hsv;obtain⟨k1,⟨cs,k2,k3⟩,k4⟩:=hsv;obtain⟨C,e',hhb,hsz,hGb,G1,G2,s1,s2,hdj,n1,n2,hr,put⟩:=(hP.of k2 k3 k4).here;have hI:0<=i/\i<=ys.length:=by
  unfold ZQ at hr1;split at hr1
  ·
   rename_i hi;exact⟨by omega,by omega⟩
  ·
   cases hr1
 have hJ:j<=ys.length:=by
  unfold sliLO at hr2;split at hr2
  ·
   rename_i hi;omega
  ·
   cases hr2
 obtain⟨v,hv,h5⟩:=hr;have e1:w.cell? ⟨b,off,none⟩=some (.slice A n cap):=Xy rfl (k4 _ hm hc).2.2;have e2:w.cell? ⟨b,off,none⟩=some v:=by simp[World.cell?,hhb,Wg hv]
 have e3:Value.slice A n cap=v:=Option.some.inj (e1.symm.trans e2);rcases h5 with⟨g,cap',cur,Gr,hg,hhg,hcap,hcm,hcs,hGg,hng,hsub,hrow⟩ | ⟨hx,_⟩
 ·
  rw[hg] at e3;injection e3 with e4 e5 e6;subst e4;subst e6;obtain⟨ii,hi⟩:∃ ii:Nat,i=ii:=Int.eq_ofNat_of_zero_le hI.1;obtain⟨jj,hj⟩:∃ jj:Nat,j=jj:=Int.eq_ofNat_of_zero_le (by omega);subst hi;subst hj;subst e5;simp only[Int.toNat_natCast] at*;have hrr:rowR M w (cur.toList.take (ys.length*Rep.size β)) ys:=QW hrow;obtain⟨ti,z,ht1,ht2,hz,hs1,hs2,hs3⟩:=QC hel;have hcl:cur.toList.length=cap*Rep.size β:=by simpa using hcs
  have hjc:jj*Rep.size β<=ys.length*Rep.size β:=Nat.mul_le_mul_right _ (by omega);have hic:ii*Rep.size β<=jj*Rep.size β:=Nat.mul_le_mul_right _ (by omega);have hnc:ys.length*Rep.size β<=cap*Rep.size β:=Nat.mul_le_mul_right _ hcap;have hnews:rowR M w ((cur.toList.take (ys.length*Rep.size β)).drop (jj*Rep.size β)) (ys.drop jj):=Yx jj (by omega) hrr;have hnl:((cur.toList.take (ys.length*Rep.size β)).drop (jj*Rep.size β)).length=(ys.length - jj)*ti.size:=by
   rw[List.length_drop,List.length_take,hs1,Nat.sub_mul];omega
  have hcell:∀ k u,((cur.toList.take (ys.length*Rep.size β)).drop (jj*Rep.size β))[k]?=some u->w.cell? ⟨g,jj*Rep.size β+k,none⟩=some u:=λ k u hu=>by
   rw[List.getElem?_drop,List.getElem?_take] at hu;split at hu
   ·
    have:cur[jj*Rep.size β+k]?=some u:=by simpa using hu
    simp[World.cell?,hhg,this]
   ·
    cases hu
  obtain⟨ad,had,hadc⟩:∃ ad:Addr,(if cap=jj then some (⟨g,0,none⟩:Addr) else(some (⟨g,0,none⟩:Addr)).map (·.add (jj*Rep.size β)))=some ad/\∀ k u,((cur.toList.take (ys.length*Rep.size β)).drop (jj*Rep.size β))[k]?=some u->w.cell? (ad.add k)=some u:=by
   by_cases hcj:cap=jj
   ·
    refine⟨⟨g,0,none⟩,by rw[if_pos hcj],λ k u hu=>?_⟩;have:ys.length - jj=0:=by omega
    rw[this,Nat.zero_mul] at hnl;rw[List.length_eq_zero_iff.1 hnl] at hu;simp at hu
   ·
    refine⟨⟨g,jj*Rep.size β,none⟩,by rw[if_neg hcj,Option.map_some,qU,Nat.zero_add],λ k u hu=>?_⟩;rw[qU];exact hcell k u hu
  have hfit:ii*ti.size+((cur.toList.take (ys.length*Rep.size β)).drop (jj*Rep.size β)).length<=cur.size:=by
   rw[hnl,hs1,hcs,← Nat.add_mul];exact Nat.mul_le_mul_right _ (by omega)
  have hrun:=run_append_room (P:=P) w t o.type e ti ht1 ht2 g ii cap cur hhg ad (ys.length - jj) (cap - jj) _ hnl hadc (λ u hu=>Xe hnews u hu) (by omega) hfit;rw[had] at h2;generalize hcur':(cur.toList.take (ii*ti.size)++((cur.toList.take (ys.length*Rep.size β)).drop (jj*Rep.size β))++cur.toList.drop (ii*ti.size+((cur.toList.take (ys.length*Rep.size β)).drop (jj*Rep.size β)).length)).toArray=cur' at hrun;have hgb:g≠b:=λ e=>n1 (e ▸ hGg)
  have hgr:Grown (zk Gs p) w (w.setRow g cur'):=(Grown.of_grownBy (xg (b:=g))).mono λ k (hk:some g=some k)=>by
   injection hk with hk;rw[← hk];exact hG g (s1 g hGg)
  have hMg:M g:=(h.ob.at_ p g (hG g (s1 g hGg))).2.1;have hsame:∀ k,k≠g->(w.setRow g cur').heap[k]?=w.heap[k]?:=λ k hk=>setRow_other w g k _ hk
  have hrr':rowR M (w.setRow g cur') (cur.toList.take (ys.length*Rep.size β)) ys:=Zj (λ k _ hm=>hsame k λ e=>hm.elim (λ hm=>hm (e ▸ hMg)) λ h=>h.elim) hrr;have hw':(w.setRow g cur').heap[g]?=some (.cells cur' e (0,0)):=setRow_heap w g cur cur' e (0,0) hhg;have hc'l:cur'.toList=cur.toList.take (ii*Rep.size β)++((cur.toList.take (ys.length*Rep.size β)).drop (jj*Rep.size β))++cur.toList.drop ((ii+(ys.length - jj))*Rep.size β):=by
   rw[← hcur',List.toList_toArray,hnl,hs1,← Nat.add_mul]
  have hlen':=cutL_len (ys:=ys) (i:=ii) (j:=jj) (by omega) (by omega);have htk:cur'.toList.take (ys.length*Rep.size β)=(cur.toList.take (ys.length*Rep.size β)).take (ii*Rep.size β)++((cur.toList.take (ys.length*Rep.size β)).drop (jj*Rep.size β))++(cur.toList.take (ys.length*Rep.size β)).drop ((ii+(ys.length - jj))*Rep.size β):=by
   rw[hc'l,List.take_take,Nat.min_eq_left (by omega)];have hl1:(cur.toList.take (ii*Rep.size β)).length=ii*Rep.size β:=by rw[List.length_take,hcl];omega
   have hl2:((cur.toList.take (ys.length*Rep.size β)).drop (jj*Rep.size β)).length=(ys.length - jj)*Rep.size β:=by rw[hnl,hs1]
   have hadd:(ii+(ys.length - jj))*Rep.size β=ii*Rep.size β+(ys.length - jj)*Rep.size β:=Nat.add_mul ..;have hle:(ii+(ys.length - jj))*Rep.size β<=ys.length*Rep.size β:=Nat.mul_le_mul_right _ (by omega);rw[List.take_append,List.take_of_length_le (by rw[List.length_append,hl1,hl2];omega),List.length_append,hl1,hl2,← hadd];simp only[List.drop_take]
  have hro:(Ow.row e (Ow.frz (α:=β))).ro M G1 (w.setRow g cur') ((C.toList.drop off).take 1) (cutL ys ii jj):=by
   refine⟨_,hv,.inl ⟨g,cap,cur',Gr,by rw[hlen'];exact hg,hw',by rw[hlen'];exact hcap,hcm,?_,hGg,hng,hsub,Jk ?_⟩⟩
   ·
    have:cur'.toList.length=cur'.size:=Array.length_toList;rw[← this,hc'l];simp only[List.length_append,List.length_take,List.length_drop,hcl];have:(ii+(ys.length - jj))*Rep.size β=ii*Rep.size β+(ys.length*Rep.size β - jj*Rep.size β):=by rw[Nat.add_mul,Nat.sub_mul]
    have:(ii+(ys.length - jj))*Rep.size β<=ys.length*Rep.size β:=Nat.mul_le_mul_right _ (by omega);omega
   ·
    rw[hlen',htk];exact qK (qK (Xo ii (by omega) hrr') (Yx jj (by omega) hrr')) (Yx _ (by omega) hrr')
  refine wpList_plain hgd λ K hK=>OpOut.wp (OpOut.of_value (v:=.slice (some ⟨g,0,none⟩) (ii+(ys.length - jj)) cap) (w':=w.setRow g cur') ?_ ?_)
  ·
   have hv1:a.eval q1=.slice (some ⟨g,0,none⟩) ii cap:=h1 w a λ s y hs=>h.st.has s y hs
   have hv2:a.eval q2=.slice (some ad) (ys.length - jj) (cap - jj):=h2 w a λ s y hs=>h.st.has s y hs
   unfold execOp;rw[ho];simp[resolve,invoke,builtin,hv1,hv2,hrun]
  ·
   rw[hd];have st:=h.mut hp hgr hk hq;refine hK _ _ (next _ _ ((st.addO (d:=sb) (p:=p) (x:=dnm ow G (upd (cutL ys ii jj)) v0 [(c,b,off,.slice (some ⟨g,0,none⟩) ys.length cap)]) hsn ⟨k1,⟨cs,?_,k3⟩,λ q hq' hcc=>?_⟩ hG).putL hN (x:=dis _) rfl rfl))
   ·
    have hL:Later M G2 w M (w.setRow g cur'):=⟨λ _ _ h=>h,λ k hk hm=>hsame k λ e=>hm.elim (λ hm=>hm (e ▸ hMg)) λ h2=>hdj k (e ▸ hGg) h2⟩;exact put hL hro hdj s1 s2
   ·
    rcases List.mem_cons.1 hq' with rfl | hq'
    ·
     refine⟨hGb,?_,?_⟩
     ·
      show b<(w.setRow g cur').heap.size;have:(w.setRow g cur').heap.size=w.heap.size:=by simp[World.setRow]
      rw[this];exact jV hhb
     ·
      exact za5 (u:=.slice (some ⟨g,0,none⟩) ys.length cap) (k4 _ hm hc).2.2 (hsame b (Ne.symm hgb))
    ·
     cases hq'
 ·
  subst hx;simp at hI hJ;omega
theorem Sx.stSh{ow:Ow α}{e:TypeId}{x:α}{v0:Value}{cf:CF}{b off n cap sb m:Nat}{A:Option Addr}{ys:List β}{upd:List β->α}{c:Bool}{G:Nat->Prop}{q v:Operand}(h:Sx F N M0 M Gs L O a w)(p:Nat)(hP:PH ow x v0 cf (Ow.row e (Ow.frz (α:=β))) b off ys upd)(hm:(c,b,off,.slice A n cap)∈cf)(hc:c=true)
  (ho:o.op=.store t q v) (hgd:o.guard=none) (hd:o.dst=none) (ht:tyB P t false 1=true) (hs:(L++envO O).lookup sb=some (dnm ow G x v0 cf)) (hG:∀ b,G b->zk Gs p b) (hp:p<Gs.length)
  (hpl:OpdR M (λ s=>(L++envO O).lookup s) q (dis (.pointer (some ⟨b,off,none⟩)))) (hvl:OpdR M (λ s=>(L++envO O).lookup s) v (dis (.slice A m cap))) (hmn:m<=n)
  (ks:List Nat) (hk:selP ks L=some L2) (qs:List Nat) (hq:selR L O qs p=some O2) (hsn:L2.lookup sb=none)
  (next:∀ w',Sx F N M0 M Gs L2 ((sb,p,dnm ow G (upd (ys.take m)) v0 [])::O2) a w'->wpList P ops Q rest a w'):wpList P ops Q (o::rest) a w:=by
 have hsv:=h.st.has sb _ hs;obtain⟨en,ecap⟩:=hP.cap hm hc hsv;obtain⟨k1,⟨cs,k2,k3⟩,k4⟩:=hsv;obtain⟨G1,G2,C,e',s1,s2,hGb,n1,n2,hdj,hhb,hsz,hr,put⟩:=hP.of k2 k3 k4;obtain⟨v1,hv,h5⟩:=hr;have e1:w.cell? ⟨b,off,none⟩=some (.slice A n cap):=Xy rfl (k4 _ hm hc).2.2;have e2:w.cell? ⟨b,off,none⟩=some v1:=by simp[World.cell?,hhb,Wg hv]
 have e3:Value.slice A n cap=v1:=Option.some.inj (e1.symm.trans e2);have hpv:a.eval q=.pointer (some ⟨b,off,none⟩):=hpl w a λ s y hs=>h.st.has s y hs
 have hvv:a.eval v=.slice A m cap:=hvl w a λ s y hs=>h.st.has s y hs
 have hMb:M b:=(h.ob.at_ p b (hG b hGb)).2.1;have hrun:=xk (P:=P) (w:=w) (t:=t) (off:=off) (v:=a.eval v) (cs:=[a.eval v]) ht (by rw[hvv];rfl) hhb hsz (λ x hx=>by rw[List.mem_singleton.1 hx,hvv];rfl);rw[hvv] at hrun;generalize hC':(C.toList.take off++[Value.slice A m cap]++C.toList.drop (off+[Value.slice A m cap].length)).toArray=C' at hrun;have hw':(w.setRow b C').heap[b]?=some (.cells C' e' (0,0)):=setRow_heap w b C C' e' (0,0) hhb;have hsame:∀ k,k≠b->(w.setRow b C').heap[k]?=w.heap[k]?:=λ k hk=>setRow_other w b k _ hk
 have hgr:Grown (zk Gs p) w (w.setRow b C'):=(Grown.of_grownBy (xg (b:=b))).mono λ k (hk:some b=some k)=>by
  injection hk with hk;rw[← hk];exact hG b hGb
 have hro:(Ow.row e (Ow.frz (α:=β))).ro M G1 (w.setRow b C') [.slice A m cap] (ys.take m):=by
  have hl:(ys.take m).length=m:=by rw[List.length_take];omega
  rcases h5 with⟨g,cap',cur,Gr,hg,hhg,hcap,hcm,hcs,hGg,hng,hsub,hrow⟩ | ⟨hx,A',hA⟩
  ·
   rw[hg] at e3;injection e3 with e4 e5 e6;subst e4;subst e6;have hgb:g≠b:=λ e=>n1 (e ▸ hGg)
   have hrr:=Xo m (by omega) (Zj (w':=w.setRow b C') (λ k _ hm=>hsame k λ e=>hm.elim (λ hm=>hm (e ▸ hMb)) λ h=>h.elim) (QW hrow));refine⟨_,rfl,.inl ⟨g,cap,cur,Gr,by rw[hl],(hsame g hgb).trans hhg,by rw[hl];omega,hcm,hcs,hGg,hng,hsub,?_⟩⟩;rw[List.take_take,Nat.min_eq_left (Nat.mul_le_mul_right _ (by omega))] at hrr;rw[hl];exact Jk hrr
  ·
   rw[hA] at e3;injection e3 with e4 e5 e6;subst hx;subst e5;subst e6;have:m=0:=by omega
   subst this;exact⟨_,rfl,.inr ⟨rfl,A,rfl⟩⟩
 refine wpList_plain hgd λ K hK=>OpOut.wp (OpOut.of_skip (w':=w.setRow b C') ?_ ?_)
 ·
  unfold execOp;rw[ho];simp only[Instr.storeAt,Instr.sureAddr,hpv,hvv,Sem.run_bind,Sem.run_pure,Result.andThen_ok,hrun]
 ·
  rw[hd];have st:=h.mut hp hgr hk hq;refine hK _ _ (next _ (st.addO (d:=sb) (p:=p) (x:=dnm ow G (upd (ys.take m)) v0 []) hsn ⟨k1,⟨cs,?_,k3⟩,λ q hq' _=>by cases hq'⟩ hG));have hL:Later M G2 w M (w.setRow b C'):=⟨λ _ _ h=>h,λ k hk hm=>hsame k λ e=>hm.elim (λ hm=>hm (e ▸ hMb)) λ h2=>n2 (e ▸ h2)⟩;exact put hL (by rw[hw',← hC'];rfl) hro n1 hdj hGb s1 s2
theorem cut_le{τ:Type}{ys r1 r2:List τ}{i j:Int}(h1:ZQ ys i=some r1)(h2:sliLO ys j=some r2)(h:decide (i<j)=true):i.toNat+(ys.length - j.toNat)<=ys.length:=by
 have h:=oD h;unfold ZQ at h1;unfold sliLO at h2;split at h1
 ·
  split at h2
  ·
   omega
  ·
   cases h2
 ·
  cases h1
end
open Go.RowKit
section
variable{α β γ:Type}[Rep α][Rep β][Rep γ]
def Rd.too(o1:Ow α)(x1:α)(o2:Ow β)(x2:β):Rd where
 rd M G w v:=∃ u1 u2 G1 G2,v=.tuple #[u1,u2]/\(∀ b:Nat,G1 b->G b)/\(∀ b:Nat,G2 b->G b)/\(∀ b:Nat,G1 b->¬ G2 b)/\(dow o1 G1 x1).rd M w u1/\(dow o2 G2 x2).rd M w u2
 stable:=λ{M G w w' v} h e=>by
  obtain⟨u1,u2,G1,G2,hv,s1,s2,hd,h1,h2⟩:=h;exact⟨u1,u2,G1,G2,hv,s1,s2,hd,(dow o1 G1 x1).stable h1 (e.sub s1),(dow o2 G2 x2).stable h2 (e.sub s2)⟩
 weak:=λ{M M' G w v} h e=>by
  obtain⟨u1,u2,G1,G2,hv,s1,s2,hd,h1,h2⟩:=h;exact⟨u1,u2,G1,G2,hv,s1,s2,hd,(dow o1 G1 x1).weak h1 e,(dow o2 G2 x2).weak h2 e⟩
 more:=λ{M G G' w v} h e=>by
  obtain⟨u1,u2,G1,G2,hv,s1,s2,hd,h1,h2⟩:=h;exact⟨u1,u2,G1,G2,hv,λ b hb=>e b (s1 b hb),λ b hb=>e b (s2 b hb),hd,h1,h2⟩
variable{P:Program}{ops:Array Oper}{rest:List Oper}{fn:Func}{Q:Exit->Act->World->Prop}{a:Act}{w w0:World}{o:Oper}{F:Frm}{N d:Nat}{M0 M:Nat->Prop}{Gs:List (Nat->Prop)}{L L2:Env}{O O2:List (Nat×Nat×Dt)}{ks qs:List Nat}{look:Nat->Option Dt}
theorem Sx.ownC{ow:Ow α}{t:Nat}{ty:TypeId}{G:Nat->Prop}{x:Bx α}{v0:Value}{cf:CF}(h:Sx F N M0 M Gs L O a w)(ht:tyB P ty (Rep.agg α) (Rep.size α)=true)(hl:(L++envO O).lookup t=some (dnm ow.box G x v0 cf)):
  ∃ (A:Addr) (v:Value) (Gr:Nat->Prop),a.tmps.getD t undef=.pointer (some A)/\(loadVar ty A).run P w=.ok v w/\(∀ b,Gr b->G b)/\(dow ow Gr x.x).rd M w v:=by
 obtain⟨h1,⟨cs,⟨b,C,e,Gr,hc,hb,hGb,hn,hs,hro⟩,h3⟩,_⟩:=h.st.has t _ hl;have hrr:=ow.toR hro;have hc':∀ j u,C.toList[j]?=some u->w.cell? ⟨b,0+j,none⟩=some u:=λ j u hj=>by
  rw[Nat.zero_add];have:C[j]?=some u:=by simpa using hj
  simp[World.cell?,hb,this]
 exact⟨_,_,Gr,(by rw[← show Act.at a t=a.tmps.getD t undef from rfl,h1,h3,hc];rfl:a.tmps.getD t undef=.pointer (some ⟨b,0,none⟩)),yP ht (Rep.len hrr) Rep.one hc',hs,_,hro,rfl⟩
theorem Sx.boxC{t:Nat}{ty:TypeId}{g:Option Nat}{x:α}(h:Sx F N M0 M Gs L O a w)(ht:tyB P ty (Rep.agg α) (Rep.size α)=true)(hl:(L++envO O).lookup t=some (dbox g 0 x)):∃ (A:Addr) (v:Value),a.tmps.getD t undef=.pointer (some A)/\(loadVar ty A).run P w=.ok v w/\(dt x).rd M w v:=by
 obtain⟨b,_,hv,C,e,cs,hb,hc,hrr⟩:=h.st.has t _ hl;have hc':∀ j u,cs[j]?=some u->w.cell? ⟨b,0+j,none⟩=some u:=λ j u hj=>by
  have:=hc j u hj;rw[Nat.zero_add] at this ⊢;simp[World.cell?,hb,this]
 exact⟨_,_,hv,yP ht (Rep.len hrr) Rep.one hc',cs,hrr,rfl⟩
theorem Sx.rnCC{o1:Ow α}{o2:Ow β}{t u:Nat}{ty ty2:TypeId}{G1 G2:Nat->Prop}{x:Bx α}{y:Bx β}{r:α×β}{v0 v1:Value}{cf cf2:CF}(h:Sx (Frm.of w0) N M0 M Gs L O a w)(p p2:Nat)(hr:fn.results=#[.cell t ty,.cell u ty2])(ht:tyB P ty (Rep.agg α) (Rep.size α)=true)(ht2:tyB P ty2 (Rep.agg β) (Rep.size β)=true)(hl:(L++envO O).lookup t=some (dnm o1.box G1 x v0 cf))(hl2:(L++envO O).lookup u=some (dnm o2.box G2 y v1 cf2))(hG1:∀ b,G1 b->zk Gs p b)(hG2:∀ b,G2 b->zk Gs p2 b)(hne:p≠p2)(hm:some (x.x,y.x)=some r):
  bodyPost P fn (RetN M0 w0 (.too o1 r.1 o2 r.2)) .ret a w:=by
 injection hm with hm;subst hm;obtain⟨A,v,Gr,h1,h2,hs,h3⟩:=h.ownC (P:=P) ht hl;obtain⟨A2,v2,Gr2,k1,k2,ks',k3⟩:=h.ownC (P:=P) ht2 hl2;have hM:∀ k,k<w.heap.size->M0 k\/(Gr k\/Gr2 k)->M k:=λ k _ hk=>hk.elim (h.ob.sub k) λ hk=>hk.elim (λ hk=>(h.ob.at_ p k (hG1 k (hs k hk))).2.1) λ hk=>(h.ob.at_ p2 k (hG2 k (ks' k hk))).2.1
 exact⟨h.st.defers,_,WD hr h1 h2 k1 k2,_,λ b=>Gr b\/Gr2 b,rfl,h.st.fr,λ b hb=>hb.elim (λ hb=>⟨(h.ob.at_ p b (hG1 b (hs b hb))).1,h.st.mok b (h.ob.at_ p b (hG1 b (hs b hb))).2.1⟩) λ hb=>⟨(h.ob.at_ p2 b (hG2 b (ks' b hb))).1,h.st.mok b (h.ob.at_ p2 b (hG2 b (ks' b hb))).2.1⟩,
  _,_,Gr,Gr2,rfl,λ _ h=>.inl h,λ _ h=>.inr h,λ b hb hb2=>h.ob.apart p p2 b hne (hG1 b (hs b hb)) (hG2 b (ks' b hb2)),(dow o1 Gr x.x).weak h3 hM,(dow o2 Gr2 y.x).weak k3 hM⟩
theorem FnN.fnoo{f:FuncId}{xs:List Dt}{o1:Ow α}{o2:Ow β}{x1:α}{x2:β}(h:FnN P f xs (.too o1 x1 o2 x2)):Fn P f xs (dtup [dt x1,dt x2]):=λ M w vs hm hr=>(h M w vs hm hr).mono λ en w' ⟨v,G,he,hex,hG,u1,u2,G1,G2,hv,s1,s2,_,⟨cs,h2,h3⟩,c2,k2,k3⟩=>by
 have hw:∀ k,k<w'.heap.size->M k->(M k\/G k)/\¬ G k:=λ k _ hk=>⟨.inl hk,λ hg=>by have:=(hG k hg).1;have:=hm k hk;omega⟩
 exact⟨v,he,hex,[u1,u2],hv,.cons ⟨cs,Rep.weak (o1.toR h2) (λ k hk hm=>⟨(hw k hk hm).1,λ hg=>(hw k hk hm).2 (s1 k hg)⟩),h3⟩ (.cons ⟨c2,Rep.weak (o2.toR k2) (λ k hk hm=>⟨(hw k hk hm).1,λ hg=>(hw k hk hm).2 (s2 k hg)⟩),k3⟩ .nil),λ q hq=>by
  simp only[List.mem_cons,List.not_mem_nil,or_false] at hq;rcases hq with rfl | rfl <;> rfl⟩
theorem Sx.rtCt{ow:Ow α}{t u:Nat}{ty:TypeId}{G0 G:Nat->Prop}{x:Bx α}{y:β}{r:α×β}{v0:Value}{cf:CF}(h:Sx (Frm.chg w0 G0) N M0 M Gs L O a w)(p:Nat)(hr:fn.results=#[.cell t ty,.tmp u])(ht:tyB P ty (Rep.agg α) (Rep.size α)=true)(hl:(L++envO O).lookup t=some (dnm ow.box G x v0 cf))(hl2:(L++envO O).lookup u=some (dt y))(hG:∀ b,G b->zk Gs p b)(hm:some (x.x,y)=some r):
  bodyPost P fn (RetTk M0 w0 G0 (.t2o ow r.1 (dt r.2))) .ret a w:=by
 injection hm with hm;subst hm;obtain⟨A,v,Gr,h1,h2,hs,h3⟩:=h.ownC (P:=P) ht hl;have hM:∀ k,k<w.heap.size->M0 k\/Gr k->M k:=λ k _ hk=>hk.elim (h.ob.sub k) λ hk=>(h.ob.at_ p k (hG k (hs k hk))).2.1
 exact⟨h.st.defers,_,zbC hr h1 h2,_,Gr,rfl,h.st.fr,λ k hk=>(h.ob.at_ p k (hG k (hs k hk))).1,λ k hk=>h.st.mok k (h.ob.at_ p k (hG k (hs k hk))).2.1,_,_,rfl,(dow ow Gr x.x).weak h3 hM,(dt y).weak (h.st.has u _ hl2) hM,rfl⟩
theorem Sx.rtCC{ow:Ow α}{t u:Nat}{ty ty2:TypeId}{g:Option Nat}{G0 G:Nat->Prop}{x:Bx α}{y:β}{r:α×β}{v0:Value}{cf:CF}(h:Sx (Frm.chg w0 G0) N M0 M Gs L O a w)(p:Nat)(hr:fn.results=#[.cell t ty,.cell u ty2])(ht:tyB P ty (Rep.agg α) (Rep.size α)=true)(ht2:tyB P ty2 (Rep.agg β) (Rep.size β)=true)(hl:(L++envO O).lookup t=some (dnm ow.box G x v0 cf))(hl2:(L++envO O).lookup u=some (dbox g 0 y))(hG:∀ b,G b->zk Gs p b)(hm:some (x.x,y)=some r):
  bodyPost P fn (RetTk M0 w0 G0 (.t2o ow r.1 (dt r.2))) .ret a w:=by
 injection hm with hm;subst hm;obtain⟨A,v,Gr,h1,h2,hs,h3⟩:=h.ownC (P:=P) ht hl;obtain⟨A2,v2,k1,k2,k3⟩:=h.boxC (P:=P) ht2 hl2;have hM:∀ k,k<w.heap.size->M0 k\/Gr k->M k:=λ k _ hk=>hk.elim (h.ob.sub k) λ hk=>(h.ob.at_ p k (hG k (hs k hk))).2.1
 exact⟨h.st.defers,_,WD hr h1 h2 k1 k2,_,Gr,rfl,h.st.fr,λ k hk=>(h.ob.at_ p k (hG k (hs k hk))).1,λ k hk=>h.st.mok k (h.ob.at_ p k (hG k (hs k hk))).2.1,_,_,rfl,(dow ow Gr x.x).weak h3 hM,(dt y).weak k3 hM,rfl⟩
theorem Sx.rsOC{oo:Ow γ}{ow:Ow α}{s t u:Nat}{ty ty2:TypeId}{g:Option Nat}{G0 Gs' G:Nat->Prop}{z zr:γ}{x:Bx α}{y:β}{r:α×β}{v0 v1:Value}{cf cf2:CF}(h:Sx (Frm.chg w0 G0) N M0 M Gs L O a w)(p p2:Nat)(hr:fn.results=#[.cell t ty,.cell u ty2])(ht:tyB P ty (Rep.agg α) (Rep.size α)=true)(ht2:tyB P ty2 (Rep.agg β) (Rep.size β)=true)(hs:(L++envO O).lookup s=some (dnm oo Gs' z v0 cf))(hl:(L++envO O).lookup t=some (dnm ow.box G x v1 cf2))(hl2:(L++envO O).lookup u=some (dbox g 0 y))(hGs:∀ b,Gs' b->zk Gs p b)(hG:∀ b,G b->zk Gs p2 b)(hne:p≠p2)(hm:some (z,x.x,y)=some (zr,r)):
  bodyPost P fn (RetS M0 w0 G0 v0 oo zr (.t2o ow r.1 (dt r.2))) .ret a w:=by
 injection hm with hm;injection hm with e1 hm;subst e1;subst hm;obtain⟨j1,⟨cs,j2,j3⟩,_⟩:=h.st.has s _ hs;obtain⟨A,v,Gr,h1,h2,hsub,h3⟩:=h.ownC (P:=P) ht hl;obtain⟨A2,v2,k1,k2,k3⟩:=h.boxC (P:=P) ht2 hl2;have hM:∀ k,k<w.heap.size->(M0 k\/Gs' k)\/Gr k->M k:=λ k _ hk=>hk.elim (λ hk=>hk.elim (h.ob.sub k) λ hk=>(h.ob.at_ p k (hGs k hk)).2.1) λ hk=>(h.ob.at_ p2 k (hG k (hsub k hk))).2.1
 exact⟨h.st.defers,_,WD hr h1 h2 k1 k2,_,Gs',Gr,rfl,h.st.fr,λ b hb=>(h.ob.at_ p b (hGs b hb)).1,λ b hb=>(h.ob.at_ p2 b (hG b (hsub b hb))).1,λ b hb hb2=>h.ob.apart p p2 b hne (hGs b hb) (hG b (hsub b hb2)),λ b hb=>hb.elim (λ hb=>h.st.mok b (h.ob.at_ p b (hGs b hb)).2.1) λ hb=>h.st.mok b (h.ob.at_ p2 b (hG b (hsub b hb))).2.1,
  ⟨cs,oo.weak j2 hM,j3⟩,_,_,rfl,(dow ow Gr x.x).weak h3 hM,(dt y).weak k3 hM,rfl⟩
theorem thin_pr_l{o o':Ow α}{o2:Ow β}(h:Thin o o'):Thin (Ow.pr o o2) (Ow.pr o' o2):=λ{M G w cs x} ⟨G1,G2,c1,c2,s1,s2,hd,hc,h1,h2⟩=>by
 obtain⟨G',t1,h3⟩:=h h1;refine⟨λ b=>G' b\/G2 b,λ b hb=>hb.elim (λ h=>s1 b (t1 b h)) (s2 b),G',G2,c1,c2,λ _ h=>.inl h,λ _ h=>.inr h,λ b hb=>hd b (t1 b hb),hc,o'.weak h3 λ k _ hk=>⟨hk.1,?_⟩,o2.weak h2 λ k _ hk=>hk.1⟩;rcases hk.2 with h4 | h4 | h4
 ·
  exact .inl λ h=>h4 (s1 k h)
 ·
  exact .inr h4
 ·
  exact .inl λ h=>hd k h h4
theorem FnN.thin{f:FuncId}{xs:List Dt}{o1 o2:Ow α}{x:α}(ht:Thin o1 o2)(h:FnN P f xs (.ow o1 x)):FnN P f xs (.ow o2 x):=λ M w vs hm hr=>(h M w vs hm hr).mono λ en w' ⟨v,G,he,hex,hG,⟨cs,h2,h3⟩⟩=>by
 obtain⟨G',s1,h4⟩:=ht h2;refine⟨v,G',he,hex,λ b hb=>hG b (s1 b hb),cs,o2.weak h4 λ k _ hk=>?_,h3⟩;rcases hk with hk | hk
 ·
  exact⟨.inl hk,.inl λ hg=>by have:=(hG k hg).1;have:=hm k hk;omega⟩
 ·
  exact⟨.inr (s1 k hk),.inr hk⟩
end
open Go.RowKit
section
variable{P:Program}{fn:Func}{F:Frm}{N d p p2:Nat}{M0 M:Nat->Prop}{Gs:List (Nat->Prop)}{L L2:Env}{O O2:List (Nat×Nat×Dt)}{a:Act}{w w0:World}{Q:Exit->Act->World->Prop}{ops:Array Oper}{rest:List Oper}{ks qs:List Nat}{o:Oper}{look:Nat->Option Dt}{t:TypeId}
variable{α β:Type}[Rep α][Rep β]
theorem Sx.stN{ow ow2:Ow α}{oy:Ow β}{q sb b off:Nat}{vo:Operand}{G G3:Nat->Prop}{x x2:α}{y':β}{cf:CF}{cy:List Value}(h:Sx F N M0 M Gs L O a w)(p:Nat)(ho:o.op=.store t (.tmp q) vo)(hgd:o.guard=none)(hd:o.dst=none)(ht:tyB P t (Rep.agg β) (Rep.size β)=true)(hp:p<Gs.length)
  (hq':Act.at a q=.pointer (some ⟨b,off,none⟩)) (hcv:(a.eval vo).cells.toList=cy) (hy:oy.ro M G3 w cy y') (hs:(L++envO O).lookup sb=some (dnm ow.box G ⟨x⟩ (.pointer (some ⟨b,0,none⟩)) cf)) (hG:∀ b,G b->zk Gs p b) (hG3:∀ b,G3 b->¬ zk Gs p b) (hoff:off+Rep.size β<=Rep.size α)
  (hnew:∀ {M G1 G3:Nat->Prop} {w:World} {cells:List Value},ow.ro M G1 w cells x->oy.ro M G3 w cy y'->(∀ k,G1 k->¬ G3 k)->ow2.ro M (λ k=>G1 k\/G3 k) w (cells.take off++cy++cells.drop (off+Rep.size β)) x2)
  (ks:List Nat) (hk:selP ks L=some L2) (qs:List Nat) (hq:selR L O qs p=some O2)
  (next:∀ w',Sx F N M0 M Gs L2 O2 a w'->(dnm ow2.box (λ k=>G k\/G3 k) ⟨x2⟩ (.pointer (some ⟨b,0,none⟩)) []).rd M w' (Act.at a sb)->wpList P ops Q rest a w'):wpList P ops Q (o::rest) a w:=by
 obtain⟨h1,⟨cs,⟨b',C,e,Gr,hc,hh,hGb,hn,hsub,hro⟩,h3⟩,_⟩:=h.st.has sb _ hs;have hb:b'=b:=by
  rw[hc] at h3;have h3:Value.pointer (some ⟨b,0,none⟩)=.pointer (some ⟨b',0,none⟩):=h3;injection h3 with h3;injection h3 with h3;injection h3 with h3;exact h3.symm
 subst hb;have hcl:cy.length=Rep.size β:=oy.len hy;have hCl:C.toList.length=Rep.size α:=ow.len hro;have hCs:C.size=Rep.size α:=by rw[← Array.length_toList];exact hCl
 have hone:=oy.one hy;have hob:=hG b' hGb;have hMb:=(h.ob.at_ p b' hob).2.1;have hrun:=xk (P:=P) (w:=w) (t:=t) (off:=off) (v:=a.eval vo) (cs:=cy) (by rw[hcl];exact ht) hcv hh (by rw[hcl,hCs];exact hoff) hone;generalize hC':(C.toList.take off++cy++C.toList.drop (off+cy.length)).toArray=C' at hrun;have hw':(w.setRow b' C').heap[b']?=some (.cells C' e (0,0)):=setRow_heap w b' C C' e (0,0) hh;have hsame:∀ k,k≠b'->(w.setRow b' C').heap[k]?=w.heap[k]?:=λ k hk=>setRow_other w b' k _ hk
 have hgr:Grown (zk Gs p) w (w.setRow b' C'):=(Grown.of_grownBy (xg (b:=b'))).mono λ k (hk:some b'=some k)=>by
  injection hk with hk;rw[← hk];exact hob
 have hL:∀ G5:Nat->Prop,¬ G5 b'->Same M G5 w (w.setRow b' C'):=λ G5 hn5 k _ hm=>hsame k λ e=>hm.elim (λ hm=>hm (e ▸ hMb)) λ h2=>hn5 (e ▸ h2)
 have nb3:¬ G3 b':=λ h3=>hG3 b' h3 hob
 refine wpList_plain hgd λ K hK=>OpOut.wp (OpOut.of_skip (w':=w.setRow b' C') ?_ ?_)
 ·
  unfold execOp;rw[ho];have hpv':a.eval (.tmp q)=.pointer (some ⟨b',off,none⟩):=hq';simp only[Instr.storeAt,Instr.sureAddr,hpv',Sem.run_bind,Sem.run_pure,Result.andThen_ok,hrun]
 ·
  rw[hd];refine hK _ _ (next _ (h.mut hp hgr hk hq) ⟨h1,⟨_,⟨b',C',e,λ k=>Gr k\/G3 k,rfl,hw',.inl hGb,λ h=>h.elim hn nb3,λ k hk=>hk.imp (hsub k) id,?_⟩,rfl⟩,λ q hq _=>by cases hq⟩);have:=hnew (ow.stable hro (hL Gr hn)) (oy.stable hy (hL G3 nb3)) λ k hk hk2=>hG3 k hk2 (hG k (hsub k hk))
  have e1:C'.toList=C.toList.take off++cy++C.toList.drop (off+Rep.size β):=by rw[← hC',List.toList_toArray,hcl]
  show ow2.ro M _ _ C'.toList x2;rw[e1];exact this
theorem Sx.stFz{ow ow2:Ow α}{sb b:Nat}{vo:Operand}{G:Nat->Prop}{x y:α}{cf:CF}(h:Sx F N M0 M Gs L O a w)(p:Nat)(hz:∀ {M:Nat->Prop} {w:World} {cs:List Value},Rep.rdc M w cs y->ow2.ro M noB w cs y)(ho:o.op=.store t (.tmp sb) vo)(hgd:o.guard=none)(hd:o.dst=none)(ht:tyB P t (Rep.agg α) (Rep.size α)=true)(hp:p<Gs.length)
  (hs:(L++envO O).lookup sb=some (dnm ow.box G ⟨x⟩ (.pointer (some ⟨b,0,none⟩)) cf)) (hvl:OpdR M (λ s=>(L++envO O).lookup s) vo (dt y)) (hG:∀ b,G b->zk Gs p b)
  (ks:List Nat) (hk:selP ks L=some L2) (qs:List Nat) (hq:selR L O qs p=some O2) (hsn:L2.lookup sb=none)
  (next:∀ w',Sx F N M0 M Gs L2 ((sb,p,dnm ow2.box G ⟨y⟩ (.pointer (some ⟨b,0,none⟩)) [])::O2) a w'->wpList P ops Q rest a w'):wpList P ops Q (o::rest) a w:=by
 have hy:=Z8 (hvl w a λ s y hs=>h.st.has s y hs);refine h.stN (ow2:=ow2) (oy:=Ow.frz) (G3:=noB) (x2:=y) (off:=0) p ho hgd hd ht hp (h.st.has sb _ hs).1 rfl hy hs hG (λ _ h=>h.elim) (by omega) (λ{M G1 G3 w cells} h1 h2 _=>?_) ks hk qs hq λ w' st hr=>next w' (st.addO hsn ?_ hG)
 ·
  have hl:=ow.len h1;rw[List.take_zero,List.nil_append,List.drop_of_length_le (by omega),List.append_nil];exact ow2.more (hz h2) λ _ h=>h.elim
 ·
  have e:(λ k=>G k\/noB k)=G:=by funext k;simp[noB]
  rwa[e] at hr
theorem owSpec.ofR{M:Nat->Prop}{w:World}{cs:List Value}{y:Spec}(h:Rep.rdc M w cs y):(owSpec (Ow.frz (α:=List Int))).ro M noB w cs y:=by
 obtain⟨c0,r0,hc,k0,c1,c2,hc2,k1,k2⟩:=h;exact⟨noB,noB,c0,r0,λ _ h=>h.elim,λ _ h=>h.elim,λ _ h=>h.elim,hc,k0,noB,noB,c1,c2,λ _ h=>h.elim,λ _ h=>h.elim,λ _ h=>h.elim,hc2,k1,k2⟩
theorem owDir.ofR{M:Nat->Prop}{w:World}{cs:List Value}{y:Dir}(h:Rep.rdc M w cs y):(owDir (Ow.frz (α:=List Str))).ro M noB w cs y:=by
 obtain⟨c0,r0,hc,k0,c1,r1,hc1,k1,c2,c3,hc2,k2,k3⟩:=h;exact⟨noB,noB,c0,r0,λ _ h=>h.elim,λ _ h=>h.elim,λ _ h=>h.elim,hc,k0,noB,noB,c1,r1,λ _ h=>h.elim,λ _ h=>h.elim,λ _ h=>h.elim,hc1,k1,noB,noB,c2,c3,λ _ h=>h.elim,λ _ h=>h.elim,λ _ h=>h.elim,hc2,k2,k3⟩
theorem Sx.stTk{e:TypeId}{off:Nat}{ow ow2:Ow α}{q sb tv b:Nat}{G G3:Nat->Prop}{x x2:α}{r:List β}{cf:CF}(h:Sx F N M0 M Gs L O a w)(p p2:Nat)(hoff:off+1<=Rep.size α)
  (hnew:∀ {M G1 G3:Nat->Prop} {w:World} {cells cy:List Value},ow.ro M G1 w cells x->(Ow.row e (Ow.frz (α:=β))).ro M G3 w cy r->(∀ k,G1 k->¬ G3 k)->ow2.ro M (λ k=>G1 k\/G3 k) w (cells.take off++cy++cells.drop (off+1)) x2)
  (ho:o.op=.store t (.tmp q) (.tmp tv)) (hgd:o.guard=none) (hd:o.dst=none) (ht:tyB P t false 1=true) (hp:p<Gs.length) (hp2:p2<Gs.length) (hne:p≠p2)
  (hpl:OpdR M (λ s=>(L++envO O).lookup s) (.tmp q) (dis (.pointer (some ⟨b,off,none⟩)))) (hvl:(L++envO O).lookup tv=some (dow (Ow.row e (Ow.frz (α:=β))) G3 r)) (hs:(L++envO O).lookup sb=some (dnm ow.box G ⟨x⟩ (.pointer (some ⟨b,0,none⟩)) cf)) (hG:∀ b,G b->zk Gs p b) (hG3:∀ b,G3 b->zk Gs p2 b)
  (ks:List Nat) (hk:selP ks L=some L2) (qs:List Nat) (hq:selR L O qs p=some O2) (hq2:O2.all (λ q=>q.2.1 != p2)=true) (hsn:L2.lookup sb=none)
  (next:∀ G' w',Sx F N M0 M ((Gs.set p G').set p2 (oneB none)) L2 ((sb,p,dnm ow2.box G' ⟨x2⟩ (.pointer (some ⟨b,0,none⟩)) [])::O2) a w'->wpList P ops Q rest a w'):wpList P ops Q (o::rest) a w:=by
 obtain⟨cy,hy,hyv⟩:=h.st.has tv _ hvl;have hcv:(Act.at a tv).cells.toList=cy:=by rw[hyv];exact Zz ((Ow.row e (Ow.frz (α:=β))).toR hy)
 refine h.stN (ow2:=ow2) (x2:=x2) (off:=off) p ho hgd hd ht hp (hpl w a λ s y hs=>h.st.has s y hs) hcv hy hs hG (λ b hb hb2=>h.ob.apart p p2 b hne hb2 (hG3 b hb)) hoff hnew ks hk qs hq λ w' st hr=>?_
 have k1:=st.mrg hp hp2 hne hq2;have ej:WV Gs p p2=(Gs.set p (λ b=>zk Gs p b\/zk Gs p2 b)).set p2 (oneB none):=rfl;rw[ej] at k1;refine next _ w' (k1.addO (x:=dnm ow2.box (λ b=>zk Gs p b\/zk Gs p2 b) ⟨x2⟩ (.pointer (some ⟨b,0,none⟩)) []) hsn ⟨hr.1,?_,λ q hq _=>by cases hq⟩ λ c hc=>?_)
 ·
  obtain⟨cs,h1,h2⟩:=hr.2.1;exact⟨cs,(ow2.box).more h1 λ k hk=>hk.imp (hG k) (hG3 k),h2⟩
 ·
  rw[zx (Ne.symm hne),zl hp];exact hc
theorem owSpec.tk{e:TypeId}{x:Spec}{r:List Int}{M G1 G3:Nat->Prop}{w:World}{cells cy:List Value}(h1:(owSpec (Ow.frz (α:=List Int))).ro M G1 w cells x)(h2:(Ow.row e (Ow.frz (α:=Int))).ro M G3 w cy r)(_:∀ k,G1 k->¬ G3 k):(owSpec (Ow.row e (Ow.frz (α:=Int)))).ro M (λ k=>G1 k\/G3 k) w (cells.take 2++cy++cells.drop (2+1)) { x with roots:=r }:=by
 obtain⟨_,_,c0,r0,_,_,_,hc,k0,_,_,c1,c2,_,_,_,hc2,k1,k2⟩:=h1;have l0:c0.length=1:=Rep.len (α:=Int) k0;have l1:c1.length=1:=Rep.len (α:=Int) k1;have l2:c2.length=1:=Rep.len (α:=List Int) k2;rw[hc2] at hc;have e1:cells.take 2=c0++c1:=by rw[hc,← List.append_assoc,List.take_left' (by simp[l0,l1])]
 have e2:cells.drop (2+1)=[]:=by rw[List.drop_of_length_le];simp[hc,l0,l1,l2]
 rw[e1,e2,List.append_nil];have:=owSpec.mk (x:={ x with roots:=r }) (a2:=Ow.row e (Ow.frz (α:=Int))) k0 k1 h2;simp only[List.flatten_cons,List.flatten_nil,List.append_nil] at this;rw[List.append_assoc];exact(owSpec _).more this λ _ h=>.inr h
theorem owDir.tk{e:TypeId}{x:Dir}{r:List Str}{M G1 G3:Nat->Prop}{w:World}{cells cy:List Value}(h1:(owDir (Ow.frz (α:=List Str))).ro M G1 w cells x)(h2:(Ow.row e (Ow.frz (α:=Str))).ro M G3 w cy r)(_:∀ k,G1 k->¬ G3 k):(owDir (Ow.row e (Ow.frz (α:=Str)))).ro M (λ k=>G1 k\/G3 k) w (cells.take 3++cy++cells.drop (3+1)) { x with names:=r }:=by
 obtain⟨_,_,c0,r0,_,_,_,hc,k0,_,_,c1,r1,_,_,_,hc1,k1,_,_,c2,c3,_,_,_,hc2,k2,k3⟩:=h1;have l0:c0.length=1:=Rep.len (α:=Int) k0;have l1:c1.length=1:=Rep.len (α:=Str) k1;have l2:c2.length=1:=Rep.len (α:=Int) k2;have l3:c3.length=1:=Rep.len (α:=List Str) k3;rw[hc1,hc2] at hc;have e1:cells.take 3=c0++(c1++c2):=by
  rw[hc,← List.append_assoc,← List.append_assoc,List.take_left' (by simp[l0,l1,l2]),List.append_assoc]
 have e2:cells.drop (3+1)=[]:=by rw[List.drop_of_length_le];simp[hc,l0,l1,l2,l3]
 rw[e1,e2,List.append_nil];have:=owDir.mk (x:={ x with names:=r }) (a3:=Ow.row e (Ow.frz (α:=Str))) k0 k1 k2 h2;simp only[List.flatten_cons,List.flatten_nil,List.append_nil] at this;rw[List.append_assoc,List.append_assoc];exact(owDir _).more this λ _ h=>.inr h
end
open Go.RowKit
structure RInvK(P:Program)(F:Frm)(M:Nat->Prop)(ops:Array Oper)(N k:Nat)(T:List (List Nat))(xs:List (Nat×Dt))(s sb:Nat)(G:Nat->Prop)(Z:Dt)(a0:Act)(w1:World)(listed:Array Bool)(a:Act)(w:World):Prop where
 sz:listed.size=ops.size
 size:a.tmps.size=N
 defers:a.defers=a0.defers
 fr:F.J w
 grown:Grown G w1 w
 ext:listed.getD s false=false->Ext0 w1 w
 tail:∀ i,k<=i->listed.getD i false=false
 clos:XT T ops.size listed
 done:∀ i,i≠s->listed.getD i false=true->∀ x d,xs[i]?=some (d,x)->(listed.getD s false=false\/∀ b,x.own b->¬ G b)->x.rd M w (Act.at a d)
 rest:∀ t,(∀ i,listed.getD i false=true->yN ops i≠some t)->Act.at a t=Act.at a0 t
 z:listed.getD s false=true->Z.rd M w (Act.at a sb)
section
variable{P:Program}{M:Nat->Prop}{ops:Array Oper}{N:Nat}{k:Nat}{T:List (List Nat)}{S:List (List (Nat×Option Nat))}
theorem zbE(h:jU ops k T S=true)(hk:k<=ops.size){Q:Exit->Act->World->Prop}{F:Frm}{L:Env}{D:List Dt}{xs:List (Nat×Dt)}{a0:Act}{w1:World}{s sb:Nat}{G:Nat->Prop}{Z:Dt}{os:Oper}
  (hsk:s<k) (hos:ops[s]?=some os) (hosd:os.dst=none) (hosg:os.guard=none) (hGM:∀ b,G b->M b) (hGF:∀ b,G b->F.Own b) (hZ:∀ {w w':World} {v:Value},Z.rd M w v->Ext0 w w'->Z.rd M w' v) (hDn:∀ (i:Nat) (x:Dt),D[i]?=some x->∀ b,x.own b->¬ G b) (hl:∀ i,i<k->i≠s->(i∈T.getD s []\/∀ t y,xR (S.getD i []) L D t=some y->∀ b,y.own b->¬ G b)/\yN ops i≠some sb)
  (hst:St F N M L a0 w1) (hreg:RegL P M ops N S L D s 0 (ops.toList.take k) xs)
  (hstep:∀ a w,Ext0 w1 w->(∀ t y,xR (S.getD s []) L D t=some y->y.rd M w (Act.at a t))->Act.at a sb=Act.at a0 sb->OpOut P os a w (λ _ w'=>Grown G w w'/\Z.rd M w' (Act.at a sb)))
  (hQ:∀ a' w',F.J w'->Grown G w1 w'->a'.tmps.size=N->a'.defers=a0.defers->(∀ t x,(xs++L).lookup t=some x->x.nb=true->x.rd M w' (Act.at a' t))->(∀ t,(∀ i,i<k->yN ops i≠some t)->Act.at a' t=Act.at a0 t)->Z.rd M w' (Act.at a' sb)->wpList P ops Q (ops.toList.drop k) a' w'):
  ∀ (f:Nat) (listed:Array Bool) (a:Act) (w:World),left ops.size listed=f->RInvK P F M ops N k T xs s sb G Z a0 w1 listed a w->wpAny P .any ops Q f listed a w:=by
 have hlen:xs.length=k:=by rw[← hreg.get.1];simp;omega
 have hget:∀ i o,i<k->i≠s->ops[i]?=some o->∃ x d,xs[i]?=some (d,x)/\o.dst=some d/\d<N/\D[i]?=some x/\OpG P M ops N (xR (S.getD i []) L D) o x:=by
  intro i o hi hne ho;have:=hreg.get.2 i o (by rw[List.getElem?_take,if_pos hi];simpa using ho) (by omega);simpa using this
 have hdst:∀ i x d,i≠s->xs[i]?=some (d,x)->i<k/\yN ops i=some d:=by
  intro i x d hne hx;have hi:i<k:=by rw[← hlen];exact(List.getElem?_eq_some_iff.1 hx).1
  obtain⟨o,ho⟩:∃ o,ops[i]?=some o:=⟨_,Array.getElem?_eq_getElem (by omega)⟩;obtain⟨x',d',h1,h2,_⟩:=hget i o hi hne ho;rw[hx] at h1;injection h1 with h1;injection h1 with h1 _;exact⟨hi,by simp[yN,ho,h2,h1]⟩
 have hlate:=hl;have hxsN:∀ t x,(t,x)∈xs->∀ i,xs[i]?=some (t,x)->i=s->x.nb=true->x=Yv:=by
  intro t x _ i hi hs _;subst hs;have key:∀ {i0:Nat} {l:List Oper} {xs:List (Nat×Dt)},RegL P M ops N S L D i i0 l xs->∀ n y,i0+n=i->xs[n]?=some y->y=(N,Yv):=by
   intro i0 l xs hr
   induction hr with
   | nil=>intro n y _ h;simp at h
   |
    cons hi hd hN hx h hr ih=>
    intro n y hn hy;cases n with
    | zero=>simp at hi;omega
    | succ n=>exact ih n y (by omega) (by simpa using hy)
   |
    late hi hr ih=>
    intro n y hn hy;cases n with
    | zero=>simp at hy;exact hy.symm
    | succ n=>simp at hi;omega
  have:=key hreg i (t,x) (by omega) hi;injection this
 have finish:∀ (f:Nat) (listed:Array Bool) (a:Act) (w:World),left ops.size listed=f->RInvK P F M ops N k T xs s sb G Z a0 w1 listed a w->(∀ i,i<k->listed.getD i false=true)->wpAny P .any ops Q f listed a w:=by
  intro f listed a w hf inv hall;refine tail_any h f k listed (by rw[← hf];exact Zi hk hall inv.tail) (Nat.le_refl _) inv.sz hall inv.tail a w (hQ a w inv.fr inv.grown inv.size inv.defers (λ t x hs hnb=>?_) (λ t ht=>inv.rest t λ i hi=>?_) (inv.z (hall s hsk)))
  ·
   rcases qM xs L t x hs with hm | ⟨hno,hl'⟩
   ·
    obtain⟨i,hi⟩:=List.getElem?_of_mem hm;by_cases hne:i=s
    ·
     rw[hxsN t x hm i hi hne hnb];trivial
    ·
     exact inv.done i hne (hall i (hdst i x t hne hi).1) x t hi (.inr λ b hb=>(x.nob hnb b hb).elim)
   ·
    rw[inv.rest t (λ i hi hd=>?_)]
    ·
     exact QO hnb (hst.has t x hl') inv.grown hGM
    ·
     have hik:i<k:=by
      rcases Nat.lt_or_ge i k with hx | hx
      ·
       exact hx
      ·
       rw[inv.tail i hx] at hi;cases hi
     by_cases hne:i=s
     ·
      subst hne;simp[yN,hos,hosd] at hd
     ·
      obtain⟨o,ho⟩:∃ o,ops[i]?=some o:=⟨_,Array.getElem?_eq_getElem (by omega)⟩;obtain⟨x',d',h1,h2,_⟩:=hget i o hik hne ho;simp only[yN,ho,obS,h2,Option.some.injEq] at hd;subst hd;exact hno x' (List.mem_of_getElem? h1)
  ·
   have hik:i<k:=by
    rcases Nat.lt_or_ge i k with hx | hx
    ·
     exact hx
    ·
     rw[inv.tail i hx] at hi;cases hi
   exact ht i hik
 intro f
 induction f with
 |
  zero=>
  intro listed a w hf inv;refine finish 0 listed a w hf inv (λ i hi=>?_);have h1:i ∉ (List.range ops.size).filter λ i=>!listed.getD i false:=by
   rw[List.eq_nil_of_length_eq_zero hf];intro h;cases h
  rw[List.mem_filter] at h1;have:¬ ((!listed.getD i false)=true):=λ hx=>h1 ⟨List.mem_range.2 (by omega),hx⟩
  simpa using this
 |
  succ f ih=>
  intro listed a w hf inv;by_cases hall:∀ i,i<k->listed.getD i false=true
  ·
   exact finish _ listed a w hf inv hall
  ·
   simp only[Classical.not_forall] at hall;obtain⟨p,hp,hup⟩:=hall;have hup:listed.getD p false=false:=by simpa using hup
   refine⟨λ hnil=>absurd hnil (Qy h inv.sz (by omega) hup),λ i hi=>?_⟩;obtain⟨hilt,hiu,hicl⟩:=zbt h inv.clos hi;have hiu':listed.getD i false=false:=by rw[Z3 (by rw[inv.sz];exact hilt) false true];exact hiu
   obtain⟨o,ho⟩:∃ o,ops[i]?=some o:=⟨_,Array.getElem?_eq_getElem hilt⟩;have hik:i<k:=by
    rcases Nat.lt_or_ge i k with hx | hx
    ·
     exact hx
    ·
     have:=hicl p ((X6 h ho).2.2.2 hx p (by omega));rw[hup] at this;cases this
   obtain⟨hS1,hS2,hdd⟩:=(X6 h ho).2.2.1 hik;have hlook:(listed.getD s false=false\/∀ t y,xR (S.getD i []) L D t=some y->∀ b,y.own b->¬ G b)->∀ t y,xR (S.getD i []) L D t=some y->y.rd M w (Act.at a t):=by
    intro hc t y hy;have hny:listed.getD s false=false\/∀ b,y.own b->¬ G b:=hc.imp id λ hn=>hn t y hy
    unfold xR at hy;split at hy
    ·
     rename_i j hj;have hmem:=xz _ _ _ hj;obtain⟨hd1,hT,hjk⟩:=hS1 t j hmem;obtain⟨o',ho'⟩:∃ o',ops[j]?=some o':=⟨_,Array.getElem?_eq_getElem (by omega)⟩;have hjs:j≠s:=by
      intro e;subst e;simp[yN,hos,hosd] at hd1
     obtain⟨x',d',g1,g2,_,g4,_⟩:=hget j o' hjk hjs ho';rw[g4] at hy;injection hy with hy;subst hy;have:d'=t:=by simpa[yN,ho',g2] using hd1
     subst this;exact inv.done j hjs (hicl j hT) _ _ g1 (.inr (hDn _ _ g4))
    ·
     rename_i hj;have hmem:=xz _ _ _ hj;rw[inv.rest t (λ m hm hd=>?_)]
     ·
      rcases hny with h0 | h0
      ·
       exact y.ext (hst.has t y hy) (inv.ext h0)
      ·
       exact y.stable (hst.has t y hy) λ n hn hm=>inv.grown.block n hn λ e=>hm.elim (λ h=>h (hGM n e)) λ h=>h0 n h e
     ·
      have hmlt:m<ops.size:=by rw[← inv.sz];exact YP hm
      have:=hS2 t hmem m hmlt hd;have:=inv.clos m hmlt hm i this;rw[hiu'] at this;cases this
    ·
     cases hy
   have hmok:∀ b,M b->b<w.heap.size:=λ b hb=>Nat.lt_of_lt_of_le (hst.mok b hb) inv.grown.size
   unfold wpOp;simp only[ho];by_cases hne:i=s
   ·
    subst hne;have:o=os:=by rw[hos] at ho;injection ho with ho;exact ho.symm
    subst this;rw[if_pos (YX hosg)];refine .inl (OpOut.wp ((hstep a w (inv.ext hiu') (hlook (.inl hiu')) (inv.rest sb λ j hj hd=>?_)).mono λ v w' ⟨hg,hz⟩=>?_))
    ·
     have hjk:j<k:=by
      rcases Nat.lt_or_ge j k with hx | hx
      ·
       exact hx
      ·
       rw[inv.tail j hx] at hj;cases hj
     by_cases hji:j=i
     ·
      subst hji;rw[hiu'] at hj;cases hj
     ·
      exact(hlate j hjk hji).2 hd
    ·
     rw[hosd];have hgr:Grown G w1 w':=inv.grown.trans hg λ _ _ h=>h
     refine ih _ _ _ (by have:=W3 hilt inv.sz hiu';omega) ⟨by simpa using inv.sz,inv.size,inv.defers,F.own inv.fr hg hGF,hgr,λ hf'=>?_,λ j hj=>?_,Wt h inv.sz inv.clos hi,λ j hjs hj y e hy hny=>?_,λ t ht=>inv.rest t λ j hj=>ht j ?_,λ _=>hz⟩
     ·
      rw[yA (by rw[inv.sz];exact hilt)] at hf';cases hf'
     ·
      rw[zJ (by omega)];exact inv.tail j hj
     ·
      rw[zJ (λ e=>hjs e.symm)] at hj;rcases hny with h0 | h0
      ·
       rw[yA (by rw[inv.sz];exact hilt)] at h0;cases h0
      ·
       exact y.stable (inv.done j hjs hj y e hy (.inr h0)) λ n hn hm=>hg.block n hn λ eg=>hm.elim (λ h=>h (hGM n eg)) λ h=>h0 n h eg
     ·
      by_cases hij:i=j
      ·
       subst hij;exact yA (by rw[inv.sz];exact hilt)
      ·
       rw[zJ hij];exact hj
   ·
    obtain⟨x,d,hx,hod,hdN,hDx,hg⟩:=hget i o hik hne ho;have hcond:listed.getD s false=false\/∀ t y,xR (S.getD i []) L D t=some y->∀ b,y.own b->¬ G b:=by
     cases hs:listed.getD s false with
     | false=>exact .inl rfl
     |
      true=>
      rcases(hlate i hik hne).1 with hT | hn
      ·
       have:=inv.clos s (by omega) hs i hT;rw[hiu'] at this;cases this
      ·
       exact .inr hn
    have hstep':=hg.step hmok (hlook hcond) inv.size;have hnext:∀ v w',Ext0 w w'->x.rd M w' v->wpAny P .any ops Q f (listed.setIfInBounds i true) (a.put o.dst v) w':=by
     intro v w' he hv;refine ih _ _ _ (by have:=W3 hilt inv.sz hiu';omega) ⟨by simpa using inv.sz,by rw[Act.put_size];exact inv.size,by rw[Act.put_defers];exact inv.defers,F.ext inv.fr he,inv.grown.trans (Grown.of_ext he) λ _ _ h=>h.elim,λ hf'=>?_,λ j hj=>?_,Wt h inv.sz inv.clos hi,λ j hjs hj y e hy hny=>?_,λ t ht=>?_,λ hz=>?_⟩
     ·
      rw[zJ hne] at hf';exact(inv.ext hf').trans he
     ·
      rw[zJ (by omega)];exact inv.tail j hj
     ·
      rw[zJ hne] at hny;rw[hod];by_cases hij:i=j
      ·
       subst hij;rw[hx] at hy;injection hy with hy;injection hy with hy1 hy2;subst hy1;subst hy2;rw[Act.at_put_self (by rw[inv.size];exact hdN)];exact hv
      ·
       rw[zJ hij] at hj;obtain⟨hjk,hjd⟩:=hdst j y e hjs hy;have hne':(some d:Option Nat)≠some e:=by
        intro he';have h1:yN ops i=some d:=by simp[yN,ho,hod]
        rcases Nat.lt_or_gt_of_ne hij with hlt | hgt
        ·
         obtain⟨o',ho'⟩:∃ o',ops[j]?=some o':=⟨_,Array.getElem?_eq_getElem (by omega)⟩;exact((X6 h ho').2.2.1 hjk).2.2 i hlt (by rw[h1,hjd,he'])
        ·
         exact hdd j hgt (by rw[h1,hjd,he'])
       rw[Act.at_put_other hne'];exact y.ext (inv.done j hjs hj y e hy hny) he
     ·
      rw[hod,Act.at_put_other]
      ·
       exact inv.rest t (λ j hj=>ht j (by
        by_cases hij:i=j
        ·
         subst hij;exact yA (by rw[inv.sz];exact hilt)
        ·
         rw[zJ hij];exact hj))
      ·
       have:=ht i (yA (by rw[inv.sz];exact hilt));simpa[yN,ho,hod] using this
     ·
      rw[zJ hne] at hz;have hsb:(some d:Option Nat)≠some sb:=by
       have:=(hlate i hik hne).2;simpa[yN,ho,hod] using this
      rw[hod,Act.at_put_other hsb];exact hZ (inv.z hz) he
    split
    ·
     rename_i hw;exact .inl (OpOut.wp ((hstep'.1 hw).mono λ v w' ⟨he,hv⟩=>hnext v w' he hv))
    ·
     rename_i hw;exact hnext undef w (Ext0.refl w) (hstep'.2 (by simpa using hw))
end
def chkLateK(ops:Array Oper)(k s sb:Nat)(T:List (List Nat))(S:List (List (Nat×Option Nat))):Bool:=
 (List.range k).all λ i=>i == s||(((T.getD s []).contains i||(S.getD i []).all λ q=>q.1 != sb)&&yN ops i != some sb)
def KD(Gs:List (Nat->Prop))(p:Nat):List Dt->Prop
 | []=>True
 | y::l=>(y.nb=true\/∃ p',p'≠p/\∀ b,y.own b->zk Gs p' b)/\KD Gs p l
theorem KD.get{Gs:List (Nat->Prop)}{p:Nat}:∀ {l:List Dt},KD Gs p l->∀ y∈l,y.nb=true\/∃ p',p'≠p/\∀ b,y.own b->zk Gs p' b
 |
  _::l,h,y,hy=>by
  rcases List.mem_cons.1 hy with rfl | hy
  ·
   exact h.1
  ·
   exact KD.get h.2 y hy
theorem lookS_in{C:List (Nat×Option Nat)}{L:Env}{D:List Dt}{t:Nat}{y:Dt}(h:xR C L D t=some y):(∃ q∈C,q.1=t)/\((∃ i:Nat,D[i]?=some y)\/L.lookup t=some y):=by
 unfold xR at h;split at h
 ·
  rename_i j hj;exact⟨⟨_,xz _ _ _ hj,rfl⟩,.inl ⟨j,h⟩⟩
 ·
  rename_i hj;exact⟨⟨_,xz _ _ _ hj,rfl⟩,.inr h⟩
 ·
  cases h
def dcs(b:Nat)(cs:List Value):Dt where
 rd _ w _:=∃ C e,w.heap[b]?=some (.cells C e (0,0))/\C.toList=cs
 own:=oneB (some b)
 nb:=false
 nob h:=by cases h
 stable:=λ⟨C,e,hh,hc⟩ k=>⟨C,e,(k b (jV hh) (.inr rfl)).trans hh,hc⟩
 weak h _:=h
section
variable{P:Program}{F:Frm}{N:Nat}{M0 M:Nat->Prop}{Gs:List (Nat->Prop)}{L L2:Env}{O O2:List (Nat×Nat×Dt)}{a:Act}{w:World}{Q:Exit->Act->World->Prop}{ops:Array Oper}{ks qs:List Nat}
theorem Sx.lateO{α:Type}[Rep α]{id:Nat}{D:List Dt}{xs:List (Nat×Dt)}{t q sb s4 b b4:Nat}{vo:Operand}{ow ow1:Ow α}{Gt G4:Nat->Prop}{x0 x:α}{cs:Array Value}{cf1 cf:CF}{o:Oper}(h:Sx F N M0 M Gs L O a w)(p p2:Nat)
  (hm:P.follows .mixedOrders=true) (k s:Nat) (S:List (List (Nat×Option Nat))) (hc:jU ops k (cloT ops) S=true) (hkn:k<=ops.size) (hsk:s<k) (hl:chkLateK ops k s sb (cloT ops) S=true) (hs:RegL P M ops N S (L++envO O) D s 0 (ops.toList.take k) xs) (hDn:KD Gs p D)
  (hso:ops[s]?=some o) (ho:o.op=.store t (.tmp q) vo) (hgd:o.guard=none) (hd:o.dst=none) (ht:tyB P t (Rep.agg α) (Rep.size α)=true) (_hag:Rep.agg α=true) (hp:p<Gs.length) (hp2:p2<Gs.length) (hne:p≠p2)
  (hpl:OpdR M (xR (S.getD s []) (L++envO O) D) (.tmp q) (dis (.pointer (some ⟨b,0,none⟩)))) (hvl:OpdR M (xR (S.getD s []) (L++envO O) D) vo (dis (.agg cs))) (hcs:cs.size=Rep.size α)
  (hsl:(L++envO O).lookup sb=some (dnm ow1.box Gt ⟨x0⟩ (.pointer (some ⟨b,0,none⟩)) cf1)) (hGt:∀ b,Gt b->zk Gs p b) (hs4:(L++envO O).lookup s4=some (dnm ow.box G4 ⟨x⟩ (.pointer (some ⟨b4,0,none⟩)) cf)) (hG4:∀ b,G4 b->zk Gs p2 b) (hcf:(true,b4,0,.agg cs)∈cf)
  (hOp:O.all (λ q=>q.2.1 != p||q.1 == sb)=true) (ks:List Nat) (hk:selP ks (xs++(L++envO O))=some L2) (qs:List Nat) (hq:selR L O qs p=some O2) (hq2:O2.all (λ q=>q.2.1 != p2)=true) (hO2:chkO ops k O2=true) (hdn:L2.lookup sb=none)
  (hQ:∀ G' a' w',Sx F N M0 M ((Gs.set p G').set p2 (oneB none)) L2 ((sb,p,dnm ow.box G' ⟨x⟩ (.pointer (some ⟨b,0,none⟩)) [])::O2) a' w'->wpList P ops Q (ops.toList.drop k) a' w'):(Code.region id ops true).wp P Q a w:=by
 obtain⟨j1,⟨c1,⟨b',C1,e1,Gr1,hc1,hh1,hGb1,hn1,hs1,hro1⟩,j3⟩,_⟩:=h.st.has sb _ hsl;have hb':b'=b:=by
  rw[hc1] at j3;have j3:Value.pointer (some ⟨b,0,none⟩)=.pointer (some ⟨b',0,none⟩):=j3;injection j3 with j3;injection j3 with j3;injection j3 with j3;exact j3.symm
 subst hb';have hob:=hGt b' hGb1;have hgM:∀ n,oneB (some b') n->M n:=λ n hn=>by
  have hn:some b'=some n:=hn;injection hn with hn;rw[← hn];exact(h.ob.at_ p b' hob).2.1
 have hgF:∀ n,oneB (some b') n->F.Own n:=λ n hn=>by
  have hn:some b'=some n:=hn;injection hn with hn;rw[← hn];exact(h.ob.at_ p b' hob).1
 have hC1:C1.size=Rep.size α:=by rw[← Array.length_toList];exact ow1.len hro1
 have he:Ext0 w { w with drawn:=w.drawn+1 }:=Ext0.drawn w _;have hst':St F N M (L++envO O) a { w with drawn:=w.drawn+1 }:=⟨F.ext h.st.fr he,h.st.size,h.st.defers,h.st.mok,λ s x hs=>x.ext (h.st.has s x hs) he⟩;obtain⟨i1,⟨c4,⟨b4',C4,e4,Gr4,hc4,hh4,hGb4,hn4,hsub4,hro4⟩,i3⟩,i4⟩:=h.st.has s4 _ hs4;have hb4:b4'=b4:=by
  rw[hc4] at i3;have i3:Value.pointer (some ⟨b4,0,none⟩)=.pointer (some ⟨b4',0,none⟩):=i3;injection i3 with i3;injection i3 with i3;injection i3 with i3;exact i3.symm
 subst hb4;have hC4:C4.toList=cs.toList:=by
  have h5:CellsAt w b4' 0 cs.toList:=(i4 _ hcf rfl).2.2;have hl4:C4.toList.length=Rep.size α:=ow.len hro4;apply List.ext_getElem?;intro j;by_cases hj:j<Rep.size α
  ·
   have hj':j<cs.size:=by omega
   have h6:=h5 j cs[j] (by simp[hj']);have h7:C4[j]?=some cs[j]:=by simpa[World.cell?,hh4] using h6
   rw[Array.getElem?_toList,h7];simp[hj']
  ·
   rw[List.getElem?_eq_none (by omega),List.getElem?_eq_none (by simp;omega)]
 have hnb:b4'≠b':=λ e=>h.ob.apart p p2 b' hne hob (e ▸ hG4 b4' hGb4)
 have hnG:∀ n,Gr4 n->n≠b':=λ n hn e=>h.ob.apart p p2 b' hne hob (e ▸ hG4 n (hsub4 n hn))
 refine wp_region_any hm ?_;have hall:∀ i,(Array.replicate ops.size false).getD i false=false:=λ i=>by
  rcases Nat.lt_or_ge i ops.size with hi | hi <;> simp[hi]
 have hleft:left ops.size (Array.replicate ops.size false)=ops.size:=by
  have:=Zi (n:=ops.size) (k:=0) (listed:=Array.replicate ops.size false) (by omega) (λ i hi=>absurd hi (Nat.not_lt_zero _)) (λ i _=>hall i);simpa using this
 have hKD:∀ y∈D,∀ n,y.own n->¬ oneB (some b') n:=λ y hy n hn hn2=>by
  have hn2:some b'=some n:=hn2;injection hn2 with hn2;subst hn2;rcases hDn.get y hy with h3 | ⟨p',h3,h4⟩
  ·
   exact y.nob h3 _ hn
  ·
   exact h.ob.apart p' p b' h3 (h4 b' hn) hob
 refine zbE (G:=oneB (some b')) (Z:=dcs b' cs.toList) (sb:=sb) hc hkn hsk hso hd hgd hgM hgF (λ h e=>(dcs b' cs.toList).ext h e) (λ i y hy=>hKD y (List.mem_of_getElem? hy)) (λ i hi hne'=>?_) hst' hs (λ a' w' e hlk hsb=>?_) (λ a' w' hj hgr hsz hdf hnb' hrest hz=>?_) _ _ _ _ hleft
  ⟨by simp,hst'.size,rfl,hst'.fr,Grown.refl _ _,λ _=>Ext0.refl _,λ i _=>hall i,λ i _ hl=>(by rw[hall i] at hl;cases hl),λ i _ hl=>(by rw[hall i] at hl;cases hl),λ _ _=>rfl,λ hl=>(by rw[hall] at hl;cases hl)⟩
 ·
  have h2:=List.all_eq_true.1 hl i (List.mem_range.2 hi);simp only[Bool.or_eq_true,beq_iff_eq,Bool.and_eq_true,bne_iff_ne,ne_eq,List.contains_iff_mem] at h2;obtain⟨h3,h4⟩:=h2.resolve_left hne';refine⟨h3.imp (λ h=>h) λ h3 tt y hy n hn hnb2=>?_,h4⟩;obtain⟨⟨q0,hq0,hqt⟩,h5⟩:=lookS_in hy;have htsb:tt≠sb:=by
   have:=List.all_eq_true.1 h3 q0 hq0;rw[← hqt];simpa using this
  rcases h5 with⟨m,hm'⟩ | h5
  ·
   exact hKD y (List.mem_of_getElem? hm') n hn hnb2
  ·
   rcases yL h5 with h6 | ⟨_,h6⟩
   ·
    exact y.nob (h.no tt y h6) n hn
   ·
    obtain⟨p',hp'⟩:=Zm h6;have h7:=List.all_eq_true.1 hOp _ hp';simp only[Bool.or_eq_true,bne_iff_ne,ne_eq,beq_iff_eq] at h7;have h8:=h.ow.get _ hp' n hn;have hnb2:some b'=some n:=hnb2;injection hnb2 with hnb2;subst hnb2;exact h.ob.apart p' p b' (h7.resolve_right htsb) h8 hob
 ·
  have hpv:a'.eval (.tmp q)=.pointer (some ⟨b',0,none⟩):=hpl w' a' hlk;have hvv:a'.eval vo=.agg cs:=hvl w' a' hlk;have hhb:w'.heap[b']?=some (.cells C1 e1 (0,0)):=(e.block b' (jV hh1)).trans hh1;have hone:∀ u∈cs.toList,u.oneCell'=true:=by rw[← hC4];exact ow.one hro4
  have hrun:=xk (P:=P) (w:=w') (t:=t) (off:=0) (v:=a'.eval vo) (cs:=cs.toList) (by rw[Array.length_toList,hcs];exact ht) (by rw[hvv];rfl) hhb (by rw[Array.length_toList];omega) hone;have hC':C1.toList.take 0++cs.toList++C1.toList.drop (0+cs.toList.length)=cs.toList:=by
   rw[List.take_zero,List.nil_append,List.drop_of_length_le (by rw[Array.length_toList,Array.length_toList];omega),List.append_nil]
  rw[hC'] at hrun;refine OpOut.of_skip (w':=w'.setRow b' cs.toList.toArray) ?_ ⟨Grown.of_grownBy xg,cs.toList.toArray,e1,setRow_heap w' b' C1 _ e1 (0,0) hhb,rfl⟩;unfold execOp;rw[ho];simp only[Instr.storeAt,Instr.sureAddr,hpv,Sem.run_bind,Sem.run_pure,Result.andThen_ok,hrun]
 ·
  obtain⟨C',e',hz1,hz2⟩:=hz;have hgr1:Grown (oneB (some b')) w w':=((Grown.of_ext he).mono λ _ h=>h.elim).trans hgr λ _ _ h=>h
  have hsbv:Act.at a' sb=Act.at a sb:=hrest sb λ i hi=>by
   by_cases his:i=s
   ·
    subst his;simp[yN,hso,hd]
   ·
    have h2:=List.all_eq_true.1 hl i (List.mem_range.2 hi);simp only[Bool.or_eq_true,beq_iff_eq,Bool.and_eq_true,bne_iff_ne,ne_eq] at h2;exact(h2.resolve_left his).2
  have k0:Sx F N M0 M Gs L2 O2 a' w':=by
   refine⟨⟨hj,hsz,by rw[hdf];exact hst'.defers,λ b hb=>Nat.lt_of_lt_of_le (hst'.mok b hb) hgr.size,λ t' x' hx'=>?_⟩,h.ob,λ t' x' hx'=>((wu hk).spec t' x' hx').2,AllOw.of λ q' hq' b hb=>h.ow.get _ (wv hq _ hq').1 b hb⟩;rcases yL hx' with h1 | ⟨h0,h1⟩
   ·
    obtain⟨h2,h3⟩:=(wu hk).spec t' x' h1;exact hnb' t' x' h2 h3
   ·
    obtain⟨p',hp'⟩:=Zm h1;obtain⟨g1,g2,g3⟩:=wv hq _ hp';have hno:∀ i,i<k->yN ops i≠some t':=λ i hi=>by
     have:=List.all_eq_true.1 (List.all_eq_true.1 hO2 _ hp') i (List.mem_range.2 hi);simpa using this
    rw[hrest t' hno];refine x'.stable (hst'.has t' x' g3) λ n hn hm'=>hgr.block n hn λ(e:some b'=some n)=>?_
    injection e with e;subst e;rcases hm' with hm' | hm'
    ·
     exact hm' (hgM _ rfl)
    ·
     exact h.ob.apart p' p b' g2 (h.ow.get _ g1 b' hm') hob
  have k1:=k0.mrg hp hp2 hne hq2;have ej:WV Gs p p2=(Gs.set p (λ b=>zk Gs p b\/zk Gs p2 b)).set p2 (oneB none):=rfl;rw[ej] at k1;refine hQ (λ b=>zk Gs p b\/zk Gs p2 b) a' w' (k1.addO (x:=dnm ow.box (λ b=>zk Gs p b\/zk Gs p2 b) ⟨x⟩ (.pointer (some ⟨b',0,none⟩)) []) hdn ⟨hsbv.trans j1,⟨_,⟨b',C',e',Gr4,rfl,hz1,.inl hob,λ hn=>hnG b' hn rfl,λ n hn=>.inr (hG4 n (hsub4 n hn)),?_⟩,rfl⟩,λ q hq _=>by cases hq⟩ λ c hc=>?_)
  ·
   rw[hz2,← hC4];refine ow.stable hro4 λ n hn hm'=>hgr1.block n hn λ(e:some b'=some n)=>?_
   injection e with e;subst e;exact hm'.elim (λ hm'=>hm' (hgM _ rfl)) λ hm'=>hnG _ hm' rfl
  ·
   rw[zx (Ne.symm hne),zl hp];exact hc
theorem Sx.lateB{α β:Type}[Rep α][Rep β]{id:Nat}{D:List Dt}{xs:List (Nat×Dt)}{t q sb:Nat}{vo:Operand}{g:Option Nat}{off:Nat}{x:α}{y0 y:β}{set:α->β->α}{o:Oper}(h:Sx F N M0 M Gs L O a w)(p:Nat)(fs:FldS set off)
  (hm:P.follows .mixedOrders=true) (k s:Nat) (S:List (List (Nat×Option Nat))) (hc:jU ops k (cloT ops) S=true) (hkn:k<=ops.size) (hsk:s<k) (hl:chkLateK ops k s sb (cloT ops) S=true) (hs:RegL P M ops N S (L++envO O) D s 0 (ops.toList.take k) xs) (hDn:KD Gs p D)
  (hso:ops[s]?=some o) (ho:o.op=.store t (.tmp q) vo) (hgd:o.guard=none) (hd:o.dst=none) (ht:tyB P t (Rep.agg β) (Rep.size β)=true) (hg:Gs[p]?=some (oneB g)) (hpl:xR (S.getD s []) (L++envO O) D q=some (dbox g off y0)) (hvl:OpdR M (xR (S.getD s []) (L++envO O) D) vo (dt y))
  (hsl:(L++envO O).lookup sb=some (dbox g 0 x)) (hOp:O.all (λ q=>q.2.1 != p||q.1 == sb)=true) (ks:List Nat) (hk:selP ks (xs++(L++envO O))=some L2) (qs:List Nat) (hq:selR L O qs p=some O2) (hO2:chkO ops k O2=true) (hdn:L2.lookup sb=none)
  (hQ:∀ a' w',Sx F N M0 M Gs L2 ((sb,p,dbox g 0 (set x y))::O2) a' w'->wpList P ops Q (ops.toList.drop k) a' w'):(Code.region id ops true).wp P Q a w:=by
 have hgM:∀ b,g=some b->M b:=λ b hb=>(h.ob.at_ p b ((zY hg b).2 hb)).2.1
 have he:Ext0 w { w with drawn:=w.drawn+1 }:=Ext0.drawn w _;have hst':St F N M (L++envO O) a { w with drawn:=w.drawn+1 }:=⟨F.ext h.st.fr he,h.st.size,h.st.defers,h.st.mok,λ s x hs=>x.ext (h.st.has s x hs) he⟩;refine wp_region_any hm ?_;have hall:∀ i,(Array.replicate ops.size false).getD i false=false:=λ i=>by
  rcases Nat.lt_or_ge i ops.size with hi | hi <;> simp[hi]
 have hleft:left ops.size (Array.replicate ops.size false)=ops.size:=by
  have:=Zi (n:=ops.size) (k:=0) (listed:=Array.replicate ops.size false) (by omega) (λ i hi=>absurd hi (Nat.not_lt_zero _)) (λ i _=>hall i);simpa using this
 have hKD:∀ y∈D,∀ n,y.own n->¬ oneB g n:=λ y hy n hn hn2=>by
  rcases hDn.get y hy with h3 | ⟨p',h3,h4⟩
  ·
   exact y.nob h3 _ hn
  ·
   exact h.ob.apart p' p n h3 (h4 n hn) ((zY hg n).2 hn2)
 refine zbE (G:=oneB g) (Z:=dbox g 0 (set x y)) (sb:=sb) hc hkn hsk hso hd hgd (λ b hb=>hgM b hb) (λ b hb=>(h.ob.at_ p b ((zY hg b).2 hb)).1) (λ h e=>(dbox g 0 (set x y)).ext h e) (λ i y hy=>hKD y (List.mem_of_getElem? hy)) (λ i hi hne'=>?_) hst' hs (λ a' w' e hlk hsb=>?_) (λ a' w' hj hgr hsz hdf hnb hrest hz=>?_) _ _ _ _ hleft
  ⟨by simp,hst'.size,rfl,hst'.fr,Grown.refl _ _,λ _=>Ext0.refl _,λ i _=>hall i,λ i _ hl=>(by rw[hall i] at hl;cases hl),λ i _ hl=>(by rw[hall i] at hl;cases hl),λ _ _=>rfl,λ hl=>(by rw[hall] at hl;cases hl)⟩
 ·
  have h2:=List.all_eq_true.1 hl i (List.mem_range.2 hi);simp only[Bool.or_eq_true,beq_iff_eq,Bool.and_eq_true,bne_iff_ne,ne_eq,List.contains_iff_mem] at h2;obtain⟨h3,h4⟩:=h2.resolve_left hne';refine⟨h3.imp (λ h=>h) λ h3 tt y hy n hn hnb2=>?_,h4⟩;obtain⟨⟨q0,hq0,hqt⟩,h5⟩:=lookS_in hy;have htsb:tt≠sb:=by
   have:=List.all_eq_true.1 h3 q0 hq0;rw[← hqt];simpa using this
  rcases h5 with⟨m,hm'⟩ | h5
  ·
   exact hKD y (List.mem_of_getElem? hm') n hn hnb2
  ·
   rcases yL h5 with h6 | ⟨_,h6⟩
   ·
    exact y.nob (h.no tt y h6) n hn
   ·
    obtain⟨p',hp'⟩:=Zm h6;have h7:=List.all_eq_true.1 hOp _ hp';simp only[Bool.or_eq_true,bne_iff_ne,ne_eq,beq_iff_eq] at h7;exact h.ob.apart p' p n (h7.resolve_right htsb) (h.ow.get _ hp' n hn) ((zY hg n).2 hnb2)
 ·
  refine JW (look:=xR (S.getD s []) (L++envO O) D) fs ho ht hgM hlk hpl hvl ?_;rw[hsb];exact(dbox g 0 x).ext (hst'.has sb _ hsl) e
 ·
  refine hQ a' w' ⟨⟨hj,hsz,by rw[hdf];exact hst'.defers,λ b hb=>Nat.lt_of_lt_of_le (hst'.mok b hb) hgr.size,λ t' x' hx'=>?_⟩,h.ob,λ t' x' hx'=>((wu hk).spec t' x' hx').2,λ b hb=>(zY hg b).2 hb,AllOw.of λ q' hq' b hb=>h.ow.get _ (wv hq _ hq').1 b hb⟩;rcases yL hx' with h1 | ⟨h0,h1⟩
  ·
   obtain⟨h2,h3⟩:=(wu hk).spec t' x' h1;exact hnb t' x' h2 h3
  ·
   simp only[envO,List.lookup_cons] at h1;cases hb:t' == sb with
   |
    true=>
    simp only[hb] at h1;injection h1 with h1;subst h1;have:t'=sb:=by simpa using hb
    subst this;exact hz
   |
    false=>
    simp only[hb] at h1;obtain⟨p',hp'⟩:=Zm h1;obtain⟨g1,g2,g3⟩:=wv hq _ hp';have hno:∀ i,i<k->yN ops i≠some t':=λ i hi=>by
     have:=List.all_eq_true.1 (List.all_eq_true.1 hO2 _ hp') i (List.mem_range.2 hi);simpa using this
    rw[hrest t' hno];refine x'.stable (hst'.has t' x' g3) λ n hn hm'=>hgr.block n hn λ(e:g=some n)=>?_
    rcases hm' with hm' | hm'
    ·
     exact hm' (hgM n e)
    ·
     exact h.ob.apart p' p n g2 (h.ow.get _ g1 n hm') ((zY hg n).2 e)
end
open Go.RowKit
def dbd(G:Nat->Prop)(n:Nat):Dt where
 rd _ w v:=∃ b C e,v=.pointer (some ⟨b,0,none⟩)/\G b/\w.heap[b]?=some (.cells C e (0,0))/\C.size=n
 own:=G
 nb:=false
 nob h:=by cases h
 stable:=λ⟨b,C,e,hv,hG,hh,hn⟩ k=>⟨b,C,e,hv,hG,(k b (jV hh) (.inr hG)).trans hh,hn⟩
 weak h _:=h
section
variable{P:Program}{fn:Func}{F:Frm}{N d:Nat}{M0 M:Nat->Prop}{Gs:List (Nat->Prop)}{L L2:Env}{O O2:List (Nat×Nat×Dt)}{a:Act}{w w0:World}{Q:Exit->Act->World->Prop}{ops:Array Oper}{rest:List Oper}{ks qs:List Nat}{o:Oper}{t:TypeId}
variable{α:Type}[Rep α]
theorem Sx.ldK{ow:Ow α}{sb:Nat}{G:Nat->Prop}{x:Bx α}{v0:Value}{cf:CF}(h:Sx F N M0 M Gs L O a w)(p p2:Nat)(hh:opH o N=some d)(ho:o.op=.load t (.tmp sb))(ht:tyB P t (Rep.agg α) (Rep.size α)=true)(hsl:(L++envO O).lookup sb=some (dnm ow.box G x v0 cf))(hp:p<Gs.length)(hp2:p2<Gs.length)(hne:p≠p2)(hG:∀ b,G b->zk Gs p b)
  (ks:List Nat) (hk:selP ks L=some L2) (qs:List Nat) (hq:selR L O qs p=some O2) (hq2:O2.all (λ q=>q.2.1 != p&&q.2.1 != p2)=true) (hdn:L2.lookup d=none) (hsn:L2.lookup sb=none)
  (next:∀ G1 G2 a' w',Sx F N M0 M ((Gs.set p G1).set p2 G2) L2 ((d,p2,dow ow G2 x.x)::(sb,p,dbd G1 (Rep.size α))::O2) a' w'->wpList P ops Q rest a' w'):wpList P ops Q (o::rest) a w:=by
 obtain⟨hgd,hd,hN⟩:=zZ hh;obtain⟨h1,⟨cs,⟨b,C,e,Gr,hc,hb,hGb,hn,hs,hro⟩,h3⟩,_⟩:=h.st.has sb _ hsl;have hrr:=ow.toR hro;have hc':∀ j u,C.toList[j]?=some u->w.cell? ⟨b,0+j,none⟩=some u:=λ j u hj=>by
  rw[Nat.zero_add];have:C[j]?=some u:=by simpa using hj
  simp[World.cell?,hb,this]
 have hld:=yP ht (Rep.len hrr) Rep.one hc';have hsv:Act.at a sb=.pointer (some ⟨b,0,none⟩):=by rw[h1,h3,hc];rfl
 refine wpList_plain hgd λ K hK=>OpOut.wp (OpOut.of_value (v:=mkv (Rep.agg α) C.toList) (w':=w) ?_ ?_)
 ·
  unfold execOp;rw[ho];have hev:a.eval (.tmp sb)=.pointer (some ⟨b,0,none⟩):=hsv;simp[Instr.loadAt,Instr.sureAddr,hev,hld]
 ·
  rw[hd];have k1:=h.mut hp (Grown.refl _ w) hk hq;have k2:=k1.spl (p:=p) (p2:=p2) (A:=λ k=>k=b) (B:=Gr) hp hp2 hne (λ k hk=>by rw[show k=b from hk];exact hG b hGb) (λ k hk=>hG k (hs k hk)) (λ k hk hg=>hn ((show k=b from hk) ▸ hg)) hq2;have k3:=k2.addO (d:=sb) (p:=p) (x:=dbd (λ k=>k=b) (Rep.size α)) hsn ⟨b,C,e,hsv,rfl,hb,by rw[← Array.length_toList];exact ow.len hro⟩ λ k hk=>by rw[zx (Ne.symm hne),zl hp];exact hk
  exact hK _ _ (next _ Gr _ _ (k3.putO hN hdn (x:=dow ow Gr x.x) ⟨_,hro,rfl⟩ λ k hk=>by rw[zl (by simpa using hp2)];exact hk))
theorem Sx.stRv{ow:Ow α}{sb tv n:Nat}{G1 G3:Nat->Prop}{y:α}(h:Sx F N M0 M Gs L O a w)(p p2:Nat)(ho:o.op=.store t (.tmp sb) (.tmp tv))(hgd:o.guard=none)(hd:o.dst=none)(ht:tyB P t (Rep.agg α) (Rep.size α)=true)(hp:p<Gs.length)(hp2:p2<Gs.length)(hne:p≠p2)
  (hsl:(L++envO O).lookup sb=some (dbd G1 n)) (hn:n=Rep.size α) (hG1:∀ b,G1 b->zk Gs p b) (hvl:(L++envO O).lookup tv=some (dow ow G3 y)) (hG3:∀ b,G3 b->zk Gs p2 b)
  (ks:List Nat) (hk:selP ks L=some L2) (qs:List Nat) (hq:selR L O qs p=some O2) (hq2:O2.all (λ q=>q.2.1 != p2)=true) (hsn:L2.lookup sb=none)
  (next:∀ G' w',Sx F N M0 M ((Gs.set p G').set p2 (oneB none)) L2 ((sb,p,dow ow.box G' ⟨y⟩)::O2) a w'->wpList P ops Q rest a w'):wpList P ops Q (o::rest) a w:=by
 obtain⟨b,C,e,hsv,hGb,hh,hsz⟩:=h.st.has sb _ hsl;obtain⟨cy,hy,hyv⟩:=h.st.has tv _ hvl;have hcl:=ow.len hy;have hone:=ow.one hy;have hcv:(a.eval (.tmp tv)).cells.toList=cy:=by
  have:a.eval (.tmp tv)=mkv (Rep.agg α) cy:=hyv;rw[this];exact Zz (ow.toR hy)
 have hob:=hG1 b hGb;have hMb:=(h.ob.at_ p b hob).2.1;have hrun:=xk (P:=P) (w:=w) (t:=t) (off:=0) (v:=a.eval (.tmp tv)) (cs:=cy) (by rw[hcl];exact ht) hcv hh (by rw[hcl,hsz,hn];omega) hone;have hC':C.toList.take 0++cy++C.toList.drop (0+cy.length)=cy:=by
  rw[List.take_zero,List.nil_append,List.drop_of_length_le (by rw[Array.length_toList];omega),List.append_nil]
 rw[hC'] at hrun;have hw':(w.setRow b cy.toArray).heap[b]?=some (.cells cy.toArray e (0,0)):=setRow_heap w b C _ e (0,0) hh;have hgr:Grown (zk Gs p) w (w.setRow b cy.toArray):=(Grown.of_grownBy (xg (b:=b))).mono λ k (hk:some b=some k)=>by
  injection hk with hk;rw[← hk];exact hob
 have nb3:∀ k,G3 k->k≠b:=λ k hk e=>h.ob.apart p p2 b hne hob (e ▸ hG3 k hk)
 refine wpList_plain hgd λ K hK=>OpOut.wp (OpOut.of_skip (w':=w.setRow b cy.toArray) ?_ ?_)
 ·
  unfold execOp;rw[ho];have hpv:a.eval (.tmp sb)=.pointer (some ⟨b,0,none⟩):=hsv;simp only[Instr.storeAt,Instr.sureAddr,hpv,Sem.run_bind,Sem.run_pure,Result.andThen_ok,hrun]
 ·
  rw[hd];have k1:=(h.mut hp hgr hk hq).mrg hp hp2 hne hq2;have ej:WV Gs p p2=(Gs.set p (λ b=>zk Gs p b\/zk Gs p2 b)).set p2 (oneB none):=rfl;rw[ej] at k1;refine hK _ _ (next (λ b=>zk Gs p b\/zk Gs p2 b) _ (k1.addO (x:=dow ow.box (λ b=>zk Gs p b\/zk Gs p2 b) ⟨y⟩) hsn ⟨_,⟨b,_,e,G3,rfl,hw',.inl hob,λ h3=>nb3 b h3 rfl,λ k hk=>.inr (hG3 k hk),?_⟩,hsv⟩ λ c hc=>?_))
  ·
   rw[List.toList_toArray];exact ow.stable hy λ k _ hm=>setRow_other w b k _ λ e=>by
    rw[e] at hm;exact hm.elim (λ hm=>hm hMb) λ h3=>nb3 b h3 rfl
  ·
   rw[zx (Ne.symm hne),zl hp];exact hc
theorem Sx.cvB{ow ow2:Ow α}{sb:Nat}{G:Nat->Prop}{x:Bx α}{v0:Value}{cf:CF}(h:Sx F N M0 M Gs L O a w)(p:Nat)(hz:∀ {M G:Nat->Prop} {w:World} {cs:List Value},ow.ro M G w cs x.x->ow2.ro M noB w cs x.x)(hs:(L++envO O).lookup sb=some (dnm ow.box G x v0 cf))(hn:L.lookup sb=none)(hG:∀ b,G b->zk Gs p b)(qs:List Nat)(hq:selR L O qs p=some O2):
  Sx F N M0 M Gs L ((sb,p,dnm ow2.box G x v0 [])::O2) a w:=by
 obtain⟨h1,⟨cs,⟨b,C,e,Gr,hc,hb,hGb,hn',hsub,hro⟩,h3⟩,_⟩:=h.st.has sb _ hs;exact(h.drop hq).addO hn ⟨h1,⟨cs,⟨b,C,e,noB,hc,hb,hGb,λ h=>h,λ _ h=>h.elim,hz hro⟩,h3⟩,λ q hq _=>by cases hq⟩ hG
end
theorem owFinder.ofR{M G:Nat->Prop}{w:World}{cs:List Value}{y:Finder}(h:(Ow.frz (α:=Finder)).ro M G w cs y):(owFinder (Ow.frz (α:=List Dir))).ro M noB w cs y:=by
 obtain⟨c0,r0,hc,k0,c1,c2,hc2,k1,k2⟩:=h;exact⟨noB,noB,c0,r0,λ _ h=>h.elim,λ _ h=>h.elim,λ _ h=>h.elim,hc,k0,noB,noB,c1,c2,λ _ h=>h.elim,λ _ h=>h.elim,λ _ h=>h.elim,hc2,k1,k2⟩
theorem owFinder.tk{e:TypeId}{x:Finder}{r:List Dir}{M G1 G3:Nat->Prop}{w:World}{cells cy:List Value}(h1:(owFinder (Ow.frz (α:=List Dir))).ro M G1 w cells x)(h2:(Ow.row e (Ow.frz (α:=Dir))).ro M G3 w cy r)(_:∀ k,G1 k->¬ G3 k):(owFinder (Ow.row e (Ow.frz (α:=Dir)))).ro M (λ k=>G1 k\/G3 k) w (cells.take 0++cy++cells.drop (0+1)) { x with dirs:=r }:=by
 obtain⟨_,_,c0,r0,_,_,_,hc,k0,_,_,c1,c2,_,_,_,hc2,k1,k2⟩:=h1;have l0:c0.length=1:=Rep.len (α:=List Dir) k0;have e2:cells.drop (0+1)=c1++c2:=by rw[hc,hc2,List.drop_left' (by omega)]
 rw[e2,List.take_zero,List.nil_append];have:=owFinder.mk (x:={ x with dirs:=r }) (a0:=Ow.row e (Ow.frz (α:=Dir))) h2 k1 k2;simp only[List.flatten_cons,List.flatten_nil,List.append_nil] at this;exact(owFinder _).more this λ _ h=>.inr h
open Go.RowKit
structure FzC where
 M:Nat->Prop
 w:World
def Fz(c:FzC)(w:World):Prop:=∀ k,k<c.w.heap.size->¬ c.M k->w.heap[k]?=c.w.heap[k]?
theorem Fz.lt{c:FzC}{w:World}(h:Fz c w){k:Nat}(hk:k<c.w.heap.size)(hm:¬ c.M k):k<w.heap.size:=by
 have h1:=h k hk hm;rw[Array.getElem?_eq_getElem hk] at h1;exact(Array.getElem?_eq_some_iff.1 h1).1
def dfz(c:FzC):Dt where
 rd M w _:=(∀ k,k<c.w.heap.size->M k->c.M k)/\Fz c w
 own:=noB
 nb:=true
 nob _ _ h:=h
 stable:=λ⟨h2,h3⟩ e=>⟨h2,λ k hk hm=>(e k (h3.lt hk hm) (.inl λ h=>hm (h2 k hk h))).trans (h3 k hk hm)⟩
 weak:=λ⟨h2,h3⟩ e=>⟨λ k hk hm=>Classical.byContradiction λ hc=>hc (h2 k hk (e k (h3.lt hk hc) hm)),h3⟩
section
variable{P:Program}{ops:Array Oper}{Q:Exit->Act->World->Prop}{S:World->Prop}{a:Act}{w:World}{f:Nat}{listed:Array Bool}{o:Oper}{F:Frm}{N:Nat}{M0 M:Nat->Prop}{Gs:List (Nat->Prop)}{L L2:Env}{O O2:List (Nat×Nat×Dt)}
variable{α:Type}[Rep α]
theorem Sx.heldF(h:Sx F N M0 M Gs L O a w){id:Nat}(hm:P.follows .mixedOrders=true)
  (hQ:∀ (c:FzC) w',(∀ w2,Fz c w2->∀ k,k<w'.heap.size->¬ M k->w2.heap[k]?=w'.heap[k]?)->Sx F N M0 M Gs ((N,dfz c)::L) O a w'->wpAnyH P .any ops Q (Fz c) ops.size (Array.replicate ops.size false) a w'):(Code.region id ops true).wp P Q a w:=
 wp_region_held (S:=Fz ⟨M,w⟩) hm (hQ ⟨M,w⟩ _ (λ _ h=>h) (h.drew.addL (s:=N) (y:=dfz ⟨M,w⟩) ⟨λ _ _ h=>h,λ _ _ _=>rfl⟩ rfl))
theorem Sx.fzS{g:Nat}{c:FzC}(h:Sx F N M0 M Gs L O a w)(hs:(L++envO O).lookup g=some (dfz c)):Fz c w:=(h.st.has g _ hs).2
theorem Sx.tkLp{i d:Nat}{x:α}{t:TypeId}{q:Operand}(h:Sx F N M0 M Gs L O a w)(ho:ops[i]?=some o)(hh:opH o N=some d)(hs:Region.noSelect ops=true)(hf:Region.free .any ops listed i=true)(hr:(Region.ready .any ops listed).contains i=true)
  (hQ:∀ c a w v,Q (.panic c) (a.put o.dst v) w->Q (.panic c) a w) (hS:S w) (hz:∀ w2,S w2->∀ k,k<w.heap.size->¬ M k->w2.heap[k]?=w.heap[k]?) (hop:o.op=.load t q) (ht:tyB P t (Rep.agg α) (Rep.size α)=true) (hq:OpdR M (λ s=>(L++envO O).lookup s) q (dptr x))
  (next:∀ a',Sx F N M0 M Gs ((d,dt x)::L) O a' w->wpAnyH P .any ops Q S f (listed.setIfInBounds i true) a' w):wpAnyH P .any ops Q S (f+1) listed a w:=by
 obtain⟨b,off,cs,hv,hb,hc,hr2⟩:=hq w a λ s y hy=>h.st.has s y hy
 have hpos:=Rep.pos (α:=α);have hl:=Rep.len hr2;have hlt:b<w.heap.size:=by
  have h1:=hc 0 _ (List.getElem?_eq_getElem (by omega:0<cs.length));unfold World.cell? at h1;cases he:w.heap[b]? with
  | none=>simp[he] at h1
  | some v=>exact(Array.getElem?_eq_some_iff.1 he).1
 refine h.tkY (v:=mkv (Rep.agg α) cs) (y:=dt x) ho hh hs hf hr (λ c a w=>hQ c a w _) hS (λ w' hw'=>?_) ⟨cs,hr2,rfl⟩ rfl next;have hcell:∀ j u,cs[j]?=some u->w'.cell? ⟨b,off+j,none⟩=some u:=λ j u hj=>(cell_same (hz w' hw' b hlt hb)).trans (hc j u hj)
 have hld:=yP (P:=P) (w:=w') ht hl Rep.one hcell;unfold execOp;rw[hop];simp[Instr.loadAt,Instr.sureAddr,hv,hld]
theorem xEx2p{look:Nat->Option Dt}{q:Operand}{s:Nat}{ow:Ow α}{x:α}{y:Dt}{G:Nat->Prop}(ho:o.op=.extract q 1)(hq:q=.tmp s)(hs:look s=some (drd (Rd.t2o ow x y) G)):OpRel P M look o y:=
 zC λ a w _ hl=>by
  obtain⟨u1,u2,hv,_,h2⟩:=hl s _ hs;refine⟨u2,?_,h2.1⟩;have he:a.eval q=.tuple #[u1,u2]:=by rw[hq];exact hv
  unfold execOp;rw[ho];simp[he,Instr.extract]
theorem aH4{i j k l:Nat}{o2 o3 o4:Oper}(hr:Region.ready .any ops listed=[i,j,k,l])(ho:ops[i]?=some o)(ho2:ops[j]?=some o2)(ho3:ops[k]?=some o3)(ho4:ops[l]?=some o4)(h:wpList P ops (QH P ops Q S f (listed.setIfInBounds i true)) [o] a w)(h2:wpList P ops (QH P ops Q S f (listed.setIfInBounds j true)) [o2] a w)(h3:wpList P ops (QH P ops Q S f (listed.setIfInBounds k true)) [o3] a w)(h4:wpList P ops (QH P ops Q S f (listed.setIfInBounds l true)) [o4] a w):wpAnyH P .any ops Q S (f+1) listed a w:=
 ⟨λ e=>(by rw[hr] at e;cases e),λ q hk=>by
  rw[hr] at hk;simp only[List.mem_cons,List.not_mem_nil,or_false] at hk;rcases hk with rfl | rfl | rfl | rfl
  ·
   exact xQ ho h
  ·
   exact xQ ho2 h2
  ·
   exact xQ ho3 h3
  ·
   exact xQ ho4 h4⟩
end
open Go.RowKit
theorem lt_i64{n m:Int}(h:i64 (n+1)=some m):n<m:=by have:=(i64_get h).1;omega
section
variable{α β:Type}[Rep α][Rep β]
theorem FnS.frz2o{P:Program}{f:FuncId}{o:Ow α}{x x':α}{xs:List Dt}{oy:Ow β}{y:β}{z:Dt}(h:FnS P f o x xs x' (.t2o oy y z)):FnS P f o x xs x' (.frz (dtup [dt y,z])):=by
 intro M0 G w v vs hm hg hv hr;refine(h M0 G w v vs hm hg hv hr).mono λ en w' ⟨u,G',Gr,k1,k2,k3,k4,k5,k6,k7,⟨u1,u2,e1,⟨cs,k8,k9⟩,e2⟩⟩=>?_
 have hw:∀ k,(M0 k\/G' k)\/noB k->((M0 k\/G' k)\/Gr k)/\¬ Gr k:=λ k hk=>by
  rcases hk with(hk | hk) | hk
  ·
   exact⟨.inl (.inl hk),λ hg2=>(k4 k hg2).elim (λ e=>hg k e hk) λ e=>by have:=hm k (.inl hk);omega⟩
  ·
   exact⟨.inl (.inr hk),k5 k hk⟩
  ·
   exact hk.elim
 exact⟨u,G',noB,k1,k2,k3,λ _ h=>h.elim,λ _ _ h=>h,λ b hb=>hb.elim (λ hb=>k6 b (.inl hb)) λ h=>h.elim,(dow o G' x').weak k7 λ k _ hk=>hk.elim (λ hk=>.inl hk) λ h=>h.elim,
  ⟨[u1,u2],e1,.cons ⟨cs,Rep.weak (oy.toR k8) λ k _ hk=>hw k hk,k9⟩ (.cons (z.weak e2.1 λ k _ hk=>(hw k hk).1) .nil),λ q hq=>by
   simp only[List.mem_cons,List.not_mem_nil,or_false] at hq;rcases hq with rfl | rfl
   ·
    rfl
   ·
    exact e2.2⟩,rfl⟩
theorem results_cctt{P:Program}{fn:Func}{t u v q:Tmp}{ty ty2:TypeId}{tmps:Array Value}{w:World}{A A2:Addr}{x x2:Value}(h:fn.results=#[.cell t ty,.cell u ty2,.tmp v,.tmp q])(ha:tmps.getD t undef=.pointer (some A))(hl:(loadVar ty A).run P w=.ok x w)(ha2:tmps.getD u undef=.pointer (some A2))(hl2:(loadVar ty2 A2).run P w=.ok x2 w):(results fn tmps).run P w=.ok (.tuple #[x,x2,tmps.getD v undef,tmps.getD q undef]) w:=by
 simp only[results,h];simp at ha ha2;simp[ha,ha2,asAddr,hl,hl2]
variable{P:Program}{fn:Func}{F:Frm}{N:Nat}{M0 M:Nat->Prop}{Gs:List (Nat->Prop)}{L:Env}{O:List (Nat×Nat×Dt)}{a:Act}{w w0:World}
theorem Sx.ret4cc{t u v q:Nat}{ty ty2:TypeId}{g g2:Option Nat}{x:α}{y:β}{z z2:Dt}{R:Dt}(h:Sx (Frm.of w0) N M0 M Gs L O a w)(hr:fn.results=#[.cell t ty,.cell u ty2,.tmp v,.tmp q])(ht:tyB P ty (Rep.agg α) (Rep.size α)=true)(ht2:tyB P ty2 (Rep.agg β) (Rep.size β)=true)(hl:(L++envO O).lookup t=some (dbox g 0 x))(hl2:(L++envO O).lookup u=some (dbox g2 0 y))(hz:z.rd M0 w (Act.at a v))(hz2:z2.rd M0 w (Act.at a q))(hn:z.nb=true/\z2.nb=true)(hR:R=dtup [dt x,dt y,z,z2]):bodyPost P fn (RetP M0 w0 R) .ret a w:=by
 subst hR;obtain⟨A,e,h1,h2,h3⟩:=h.frozenC (P:=P) ht hl;obtain⟨A2,e2,k1,k2,k3⟩:=h.frozenC (P:=P) ht2 hl2;exact⟨h.st.defers,_,results_cctt hr h1 h2 k1 k2,_,rfl,h.st.fr,[_,_,_,_],rfl,.cons h3 (.cons k3 (.cons hz (.cons hz2 .nil))),λ q hq=>by
  simp only[List.mem_cons,List.not_mem_nil,or_false] at hq;rcases hq with rfl | rfl | rfl | rfl
  ·
   rfl
  ·
   rfl
  ·
   exact hn.1
  ·
   exact hn.2⟩
end
end Go.Proofs.YtdoidiipacdbpaaGreatDoor
