import Derived.Test.YtoomehfflopakaaGreatDoorTO
namespace Go.Proofs.YtoomehfflopakaaGreatDoor
open Go.RowKit
variable{a a0:Act}{K:Act->World->Prop}{l l0 listed:Array Bool}{ops:Array Oper}{ag:Array Operand}{ts:Array TypeId}{c1 c2 cur tmps vs:Array Value}{c:Bool}{q2:C1 Int×List eU}{cf cf1:CF}{y:Dt}{L L2:Env}{Q:Exit->Act->World->Prop}{F:eG}{f:FuncId}{j:Int}{Gs:List (Nat->Prop)}{xs:List (Nat×Dt)}{O O2:List (Nat×Nat×Dt)}{C:List (Nat×Option Nat)}{D rs xr:List Dt}{x0:List File}{ks qs:List Nat}{rest:List Oper}{opds:List Operand}{cy:List Value}{N b b0 b1 b2 bw bytes d i k m m' o0 off p p2 s sb sz tv:Nat}{X:Nat->Dt}{G G' G0 G1 G2 G3 G4 Gt M M' M0:Nat->Prop}{o os:Oper}{h q qx vo x:Operand}{A:Option Addr}{g:Option Nat}{hi:Option Operand}{o1:Ow (Bx fj)}{a4:Ow (List (Bx eZ))}{o2:Ow (List eU)}{a3 a6:Ow (List im)}{a2:Ow (List eZ)}{a5:Ow (List Int)}{a7:Ow (List Str)}{P:Program}{r:Rd}{e t ty ty2:TypeId}{u u0 u2 v v0 v1:Value}{w w0 w1:World}{S:World->Prop}
section
variable{α:Type}[ey α]
theorem Sx.DK{x:α}(h:Sx F N M0 M Gs L O a w)(p:Nat)(hh:fH o N=some d)(ho:o.op=.box t q)(hx:eC M (λ s=>(L++eB O).lookup s) q (dt x))
  (ks:List Nat) (hk:ff ks L=some L2) (qs:List Nat) (hq:fi L O qs p=some O2) (hdn:L2.lookup d=none)
  (next:∀ b M' a' w',Sx F N M0 M' (Gs.set p (eA (some b))) L2 ((d,p,eY (some b) 0 x)::O2) a' w'->wpList P ops Q rest a' w')(hp:p<Gs.length:=by simp):wpList P ops Q (o::rest) a w:=by
 obtain⟨hgd,hd,hN⟩:=zK hh;have hy:=Wn (hx w a λ s y hs=>h.st.has s y hs);have he:fy w (w.alloc (.cells (a.eval q).cells t)):=fy.alloc _ _;refine av hgd λ K hK=>fb.wp (fb.iw (v:=.pointer (some ⟨w.heap.size,0,none⟩)) (w':=w.alloc (.cells (a.eval q).cells t)) ?_ ?_)
 .unfold execOp;rw[ho];simp[Instr.box,newVar,newRow,newObj,Qr]
 .rw[hd];have h1:=h.kr (G':=eA (some w.heap.size)) hp ((Grown.kW he).mono λ b hb=>hb.elim) (λ b (hb:some w.heap.size=some b)=>by injection hb with hb;subst hb;exact⟨.inr (al _),by simp⟩) hk hq;refine hK _ _ (next w.heap.size _ _ _ (h1.iG hN hdn ?_ λ b hb=>by rw[zf hp];exact hb));refine⟨w.heap.size,Z,Z,(a.eval q).cells,t,(a.eval q).cells.toList,db w _,λ j u hj=>?_,?_⟩
  .rw[aD];simpa using hj
  refine ey.later hy (G:=noB) ⟨λ k hk hm=>?_,λ k hk _=>he.block k hk⟩;rcases hm with hm | hm
  .exact hm.1
  .have:w.heap.size=k:=by injection hm
   omega
end
section
variable{α β:Type}[ey α][ey β]
def pd(P:Program)(f:FuncId)(o:Ow α)(x:α)(xs:List Dt)(r:Rd):Prop:=
 ∀
  (M0 G:Nat->Prop) (w:World) (v:Value) (vs:List Value),(∀ b,M0 b\/G b->b<w.heap.size)->(∀ b,G b->¬ M0 b)->(eH o G x).rd (λ b=>M0 b\/G b) w v->RdAll (λ b=>M0 b\/G b) w vs xs->
  Calls P f (v::vs).toArray w (λ en w'=>∃ u Gr,en=.returned u/\Grown G w w'/\(∀ b,Gr b->G b\/w.heap.size<=b)/\(∀ b,Gr b->b<w'.heap.size)/\r.rd (λ b=>M0 b\/Gr b) Gr w' u)
def ra(M0:Nat->Prop)(w:World)(G:Nat->Prop)(r:Rd):Ending->World->Prop:=λ en w'=>
 ∃ u Gr,en=.returned u/\Grown G w w'/\(∀ b,Gr b->G b\/w.heap.size<=b)/\(∀ b,Gr b->b<w'.heap.size)/\r.rd (λ b=>M0 b\/Gr b) Gr w' u
variable{fn:Func}
theorem sG{oo:Ow α}{c:Code}{x:α}(p n:Nat)(hf:P.funcs[f]?=some fn)(hb:fn.body=some c)(hnb:W2 (zL 1 rs)=true)
  (h:∀ (M G:Nat->Prop) (w:World) (a:Act),Sx (eG.ft w G) fn.ntmps M (λ b=>M b\/G b) ((List.replicate n (eA none)).set p G) (zL 1 rs) [(0,p,eH oo G x)] a w->c.wp P (bodyPost P fn (ra M w G r)) a w) (hp:p<n:=by decide)(hn:rs.length+1<=fn.ntmps:=by exact oD Z):pd P f oo x rs r:=by
 intro M0 G w v vs hm hg hv hr;have hra:RdAll (λ b=>M0 b\/G b) w (v::vs) _:=.cons hv hr;have hl:=hra.len;have hnth:∀ s y,(zL 0 _).lookup s=some y->y.rd (λ b=>M0 b\/G b) w (Act.at { tmps:=(v::vs).toArray++Array.replicate _ undef,defers:=[] } s):=λ s y hs=>by
  obtain⟨j,u,h1,h2,h3⟩:=hra.nth 0 s y hs;have hj:=(ai.1 h2).1;have h5:(v::vs).toArray[j]?=some u:=by simpa using h2
  have hj':j<(v::vs).toArray.size:=by simpa using hj
  have:s=j:=by omega
  subst this;have h4:Act.at { tmps:=(v::vs).toArray++Array.replicate (fn.ntmps - (v::vs).toArray.size) undef,defers:=[] } s=u:=by
   simp[Act.at];rw[bc hj',h5];rfl
  rw[h4];exact h3
 have hlen:p<(List.replicate n (eA none)).length:=by simpa using hp
 have hown:∀ q b,zj ((List.replicate n _).set p G) q b ↔ q=p/\G b:=λ q b=>by
  by_cases hq:p=q
  .subst hq;rw[zf hlen];simp
  .rw[zq hq];exact⟨λ h=>(Qx h).elim,λ h=>(hq h.1.symm).elim⟩
 refine cU hf hb (h M0 G w _ ?_);refine⟨⟨Grown.refl _ _,by simp at hl ⊢;omega,Z,hm,λ s y hy=>?_⟩,⟨λ b hb=>.inl hb,λ q b hb=>?_,λ q r b hne h1 h2=>hne (((hown q b).1 h1).1.trans ((hown r b).1 h2).1.symm)⟩,Wl hnb,⟨λ b hb=>(hown p b).2 ⟨Z,hb⟩,trivial⟩⟩
 .have hk:∀ (i:Nat) (rs:List Dt) (s:Nat) (x:Dt),(zL i rs).lookup s=some x->i<=s:=λ i rs=>by
   induction rs generalizing i with
   | nil=>intro s x h;simp[zL] at h
   |cons y rs ih=>
    intro s x h;simp only[zL,af] at h;by_cases he:s=i
    .omega
    .have hb:(s == i)=false:=by simpa using he
     simp[hb] at h;have:=ih _ s x h;omega
  refine hnth s y ?_;simp only[zL,af];rcases yw hy with h1 | ⟨_,h1⟩
  .have:=hk _ _ _ _ h1;have hb:(s == 0)=false:=by simpa using(by omega:¬ s=0)
   simp[hb];exact h1
  .simp only[eB,af,dL] at h1;cases hb:s == 0 with
   | true=>simp only[hb] at h1;exact h1
   | false=>simp only[hb] at h1;cases h1
 .obtain⟨rfl,hb'⟩:=(hown q b).1 hb;exact⟨.inl hb',.inr hb',hg b hb'⟩
theorem Sx.LU{ow:Ow α}{t:Nat}{x:Bx α}{r:α}(h:Sx (eG.ft w0 G0) N M0 M Gs L O a w)(p:Nat)(hr:fn.results=#[.cell t ty])(ht:fM P ty (ey.agg α) (ey.size α)=true)(hl:(L++eB O).lookup t=some (eJ ow.box G x v0 cf))(hG:∀ b,G b->zj Gs p b)(hm:some x.x=some r):bodyPost P fn (ra M0 w0 G0 (.ow ow r)) .ret a w:=by
 injection hm with hm;subst hm;obtain⟨h1,⟨cs,⟨b,C,e,Gr,hc,hb,hGb,hn,hs,hro⟩,h3⟩,_⟩:=h.st.has t _ hl;have hrr:=ow.toR hro;have hc':∀ j u,C.toList[j]?=some u->w.cell? ⟨b,0+j,none⟩=some u:=λ j u hj=>by
  rw[aD];have:C[j]?=some u:=by simpa using hj
  simp[World.cell?,hb,this]
 have hld:=yA ht (ey.len hrr) ey.one hc';have hv:Act.at a t=.pointer (some ⟨b,0,none⟩):=by rw[h1,h3,hc];rfl
 refine⟨h.st.defers,gI _ C.toList,?_,_,Gr,Z,h.st.fr,λ k hk=>(h.ob.at_ p k (hG k (hs k hk))).1,λ k hk=>h.st.mok k (h.ob.at_ p k (hG k (hs k hk))).2.1,⟨_,ow.weak hro λ k _ hk=>hk.elim (h.ob.sub k) λ hk=>(h.ob.at_ p k (hG k (hs k hk))).2.1,Z⟩⟩;have h2:a.tmps.getD t undef=.pointer _:=hv;simp[results,hr];simp at h2;simp[h2,asAddr,hld]
theorem Sx.cT{oy:Ow β}{l:List Operand}{y:β}(h:Sx F N M0 M Gs L O a w)(p:Nat)
       (hx:ArgsR M (λ s=>(L++eB O).lookup s) l xr) (hfn:pd P f oy y xr r)
  (ks:List Nat)  (qs:List Nat)  
  (next:∀{G' M' a' w'},Sx F N M0 M' (Gs.set p G') L2 ((d,p,kP r G')::O2) a' w'->wpList P ops Q rest a' w')(hh:fH o N=some d:=by rfl)(ho:o.op=.call { callee:=.value (.func f),args:=(.tmp sb::l).toArray,argTypes:=ts }:=by rfl)(hy:(L++eB O).lookup sb=some (eH oy G1 y):=by rfl)(hG1:∀ b,G1 b->zj Gs p b:=by exact λ _ h=>h)(hp:p<Gs.length:=by simp)(hk:ff ks L=some L2:=by rfl)(hq:fi L O qs p=some O2:=by rfl)(hdn:L2.lookup d=none:=by rfl)(hf:gb P f=true:=by kernel_rfl):wpList P ops Q (o::rest) a w:=by
 obtain⟨hgd,hd,hN⟩:=zK hh;have hy':=h.st.has sb _ hy;have hGM:=λ b hb=>(h.ob.at_ p b (hG1 b hb)).2.1
 refine av hgd λ K hK=>fb.wp (fb.mK (f:=f) (args:=((.tmp sb::l).map a.eval).toArray) (w':=w) ?_ ?_)
 .unfold execOp;rw[ho];have e:a.eval (.func f)=.func _ #[] #[]:=rfl;simp[resolve,e,Deferred.ofValue,invoke,xq hf]
 .have hM:∀ k,((M k/\¬ G1 k)\/G1 k) ↔ M k:=λ k=>by
   refine⟨λ hk=>hk.elim (λ h=>h.1) (hGM k),λ hk=>?_⟩;by_cases e:G1 k
   .exact .inr e
   .exact .inl ⟨hk,e⟩
  rw[cM];refine(hfn (λ b=>M b/\¬ G1 b) G1 w _ _ (λ b hb=>h.st.mok b ((hM b).1 hb)) (λ b hb hm=>hm.2 hb) ((eH oy G1 y).weak hy' λ k _ hk=>(hM k).1 hk) ((hx.all h.st.has).weak λ k _ hk=>(hM k).1 hk)).mono λ en w' ⟨u,Gr,he,hgr,i2,i4,hu⟩=>⟨u,he,?_⟩
  rw[hd];have h1:=h.kr (G':=λ b=>(zj Gs p b/\¬ G1 b)\/Gr b) hp (hgr.mono hG1) (λ b hb=>by
   rcases hb with hb | hb
   .exact⟨.inl hb.1,ay (h.st.mok b (h.ob.at_ p b hb.1).2.1) hgr.size⟩
   .exact⟨(i2 b hb).imp (hG1 b) id,i4 b hb⟩) hk hq
  have hM':∀ k,(M k/\¬ zj Gs p k)\/((zj Gs p k/\¬ G1 k)\/Gr k)->(M k/\¬ G1 k)\/Gr k:=λ k hk=>by
   rcases hk with hk | hk | hk
   .exact .inl ⟨hk.1,λ e=>hk.2 (hG1 k e)⟩
   .exact .inl ⟨(h.ob.at_ p k hk.1).2.1,hk.2⟩
   .exact .inr hk
  exact hK _ _ (next (h1.iG hN hdn (r.more (r.weak hu λ k _ hk=>hM' k hk) λ b hb=>.inr hb) λ b hb=>by rw[zf hp];exact hb))
end
section
variable{fn:Func}{look:Nat->Option Dt}
variable{α β:Type}[ey α][ey β]
variable{oy:Ow β}{ys:List β}
theorem PH.cap{ow:Ow α}{oy:Ow β}{e:TypeId}{x:α}{v0:Value}{cf:CF}{b off n cap:Nat}{A:Option Addr}{ys:List β}{upd:List β->α}{c:Bool}{G:Nat->Prop}{v:Value}(hP:PH ow x v0 cf (Ow.row e oy) b off ys upd)(hm:(c,b,off,.slice A n cap)∈cf)(hc:c=true)(h:(eJ ow G x v0 cf).rd M w v):n=ys.length/\n<=cap:=by
 obtain⟨_,⟨cs,h2,h3⟩,h4⟩:=h;obtain⟨C,e',hh,hsz,_,G1,G2,_,_,_,_,_,hr,_⟩:=(hP.of h2 h3 h4).here;obtain⟨v,hv,h5⟩:=hr;have e1:w.cell? ⟨b,off,none⟩=some (.slice A n cap):=Jc Z (h4 _ hm hc).2.2;have e2:w.cell? ⟨b,off,none⟩=some v:=by simp[World.cell?,hh,XO hv]
 have e3:Value.slice A n cap=v:=bV (e1.symm.trans e2);rcases h5 with⟨g,cap',cur,Gr,hg,_,hcap,_⟩ | ⟨hx,A',hA⟩
 .rw[hg] at e3;injection e3 with e4 e5 e6;subst e5;subst e6;exact⟨Z,hcap⟩
 .rw[hA] at e3;injection e3 with e4 e5 e6;subst e5;subst e6;subst hx;exact⟨Z,al _⟩
theorem T9{ow:Ow α}{x:α}{n cap:Nat}{r:List β}{upd:List β->α}{i:Int}(hP:PH ow x v0 cf (Ow.row e oy) b off ys upd)(hm:(c,b,off,.slice A n cap)∈cf)(hc:c=true)(hs:look sb=some (eJ ow G x v0 cf))
  (ho:o.op=.slice t q none (some h) none) (ht:gV P t (ey.size β)=true) (hq:eC M look q (fk (.slice A n cap))) (hh:eC M look h (dt i)) (hr:W1 ys i=some r):eP P M look o (fk (.slice A i.toNat cap)):=
 zz λ a w _ hl=>by
  obtain⟨h1,h2⟩:=hP.cap hm hc (hl sb _ hs);obtain⟨_,ht⟩:=jZ ht;unfold W1 at hr;split at hr
  .rename_i hi;have hrun:=W8 ht A n cap none (some i) (by simp;omega) (by simp;omega) w;simp at hrun;have hA:(if cap=0 then A else A.map (·.add 0))=A:=by
    split
    .rfl
    .cases A <;> rfl
   rw[hA] at hrun;refine⟨_,?_,Z⟩;have hv:a.eval q=.slice A n cap:=hq w a hl;unfold execOp;rw[ho];simp[hv,yq.1 (hh w a hl),hrun]
  .cases hr
theorem T'{ow:Ow α}{x:α}{n cap:Nat}{r:List β}{upd:List β->α}{l:Operand}(hP:PH ow x v0 cf (Ow.row e oy) b off ys upd)(hm:(c,b,off,.slice A n cap)∈cf)(hc:c=true)(hs:look sb=some (eJ ow G x v0 cf))
  (ho:o.op=.slice t q (some l) none none) (ht:gV P t (ey.size β)=true) (hq:eC M look q (fk (.slice A n cap))) (hh:eC M look l (dt j)) (hr:mQ ys j=some r):eP P M look o (fk (.slice (if cap=j.toNat then A else A.map (·.add (j.toNat*ey.size β))) (n - j.toNat) (cap - j.toNat))):=
 zz λ a w _ hl=>by
  obtain⟨h1,h2⟩:=hP.cap hm hc (hl sb _ hs);obtain⟨_,ht⟩:=jZ ht;unfold mQ at hr;split at hr
  .rename_i hi;have hrun:=W8 ht A n cap (some j) none (h1:=(by simp;omega)) (by simp;omega) (by simp;omega) w;simp at hrun;refine⟨_,?_,Z⟩;have hv:a.eval q=.slice A n cap:=hq w a hl;unfold execOp;rw[ho];simp[hv,yq.1 (hh w a hl),hrun]
  .cases hr
def mL{γ:Type}(ys:List γ)(i j:Nat):List γ:=ys.take i++ys.drop j++ys.drop (i+(ys.length - j))
theorem Ac{γ:Type}{ys:List γ}{j:Nat}(h1:i<=j)(h2:j<=ys.length):(mL ys i j).length=ys.length:=by
 simp[mL];omega
theorem EM{g cap j:Nat}{q1 q2:Operand}(ho:o.op=.call { callee:=.builtin .append,args:=#[q1,q2],argTypes:=#[t,t] })(hel:iH P t e (ey.size β) bytes=true)(hhg:w.heap[g]?=some (.cells cur e (0,0)))(hcs:cur.size=cap*ey.size β)(hcap:ys.length<=cap)
  (hrr:gQ M w (cur.toList.take (ys.length*ey.size β)) ys) (hMg:M g) (hij:i<j) (hjn:j<=ys.length) (hv1:a.eval q1=.slice (some ⟨g,0,none⟩) i cap) (hv2:a.eval q2=.slice (if cap=j then some ⟨g,0,none⟩ else(some (⟨g,0,none⟩:Addr)).map (·.add (j*ey.size β))) (ys.length - j) (cap - j)):
  ∃ cur',(execOp a.eval o).run P w=.ok (.value (.slice (some ⟨g,0,none⟩) (i+(ys.length - j)) cap)) (w.setRow g cur')/\cur'.size=cap*ey.size β/\(w.setRow g cur').heap[g]?=some (.cells cur' e (0,0))/\gQ M (w.setRow g cur') (cur'.toList.take (ys.length*ey.size β)) (mL ys i j):=by
 obtain⟨ti,z,ht1,ht2,hz,hs1,hs2,hs3⟩:=Qv hel;have hcl:cur.toList.length=cap*ey.size β:=by simpa using hcs
 have hjc:j*ey.size β<=ys.length*ey.size β:=aK _ (by omega);have hic:i*ey.size β<=j*ey.size β:=aK _ (by omega);have hnc:ys.length*ey.size β<=cap*ey.size β:=aK _ hcap;have hnews:gQ M w ((cur.toList.take (ys.length*ey.size β)).drop (j*ey.size β)) (ys.drop j):=W6 j (by omega) hrr;have hnl:((cur.toList.take (ys.length*ey.size β)).drop (j*ey.size β)).length=(ys.length - j)*ti.size:=by
  rw[dF,aJ,hs1,Nat.sub_mul];omega
 have hcell:∀ k u,((cur.toList.take (ys.length*ey.size β)).drop (j*ey.size β))[k]?=some u->w.cell? ⟨g,j*ey.size β+k,none⟩=some u:=λ k u hu=>by
  rw[bL,aw] at hu;split at hu
  .have:cur[j*ey.size β+k]?=some u:=by simpa using hu
   simp[World.cell?,hhg,this]
  .cases hu
 obtain⟨ad,had,hadc⟩:∃ ad:Addr,(if cap=j then some (⟨g,0,none⟩:Addr) else(some (⟨g,0,none⟩:Addr)).map (·.add (j*ey.size β)))=some ad/\∀ k u,((cur.toList.take (ys.length*ey.size β)).drop (j*ey.size β))[k]?=some u->w.cell? (ad.add k)=some u:=by
  by_cases hcj:cap=j
  .refine⟨⟨g,0,none⟩,by rw[Ke hcj],λ k u hu=>?_⟩;have:ys.length - j=0:=by omega
   rw[this,dN] at hnl;rw[dq.1 hnl] at hu;simp at hu
  .refine⟨⟨g,j*ey.size β,none⟩,by rw[Kf hcj,dO,jI,aD],λ k u hu=>?_⟩;rw[jI];exact hcell k u hu
 have hfit:i*ti.size+((cur.toList.take (ys.length*ey.size β)).drop (j*ey.size β)).length<=cur.size:=by
  rw[hnl,hs1,hcs,<-dx];exact aK _ (by omega)
 have hrun:=run_append_room (P:=P) w t o.type e ti ht1 ht2 g i cap cur hhg ad (ys.length - j) (cap - j) _ hnl hadc (λ u hu=>J7 hnews u hu) (by omega) hfit;rw[had] at hv2;generalize hcur':(cur.toList.take (i*ti.size)++((cur.toList.take (ys.length*ey.size β)).drop (j*ey.size β))++cur.toList.drop (i*ti.size+((cur.toList.take (ys.length*ey.size β)).drop (j*ey.size β)).length)).toArray=cur' at hrun;have hsame:∀ k,k≠g->(w.setRow g cur').heap[k]?=w.heap[k]?:=λ k hk=>cL w g k _ hk
 have hrr':gQ M (w.setRow g cur') (cur.toList.take (ys.length*ey.size β)) ys:=Yn (λ k _ hm=>hsame k λ e=>hm.elim (λ hm=>hm (e ▸ hMg)) λ h=>h.elim) hrr;have hw':(w.setRow g cur').heap[g]?=some (.cells cur' e (0,0)):=ck w g cur cur' e (0,0) hhg;have hc'l:cur'.toList=cur.toList.take (i*ey.size β)++((cur.toList.take (ys.length*ey.size β)).drop (j*ey.size β))++cur.toList.drop ((i+(ys.length - j))*ey.size β):=by
  rw[<-hcur',cg,hnl,hs1,<-dx]
 have hlen':=Ac (ys:=ys) (i:=i) (j:=j) (by omega) (by omega);have htk:cur'.toList.take (ys.length*ey.size β)=(cur.toList.take (ys.length*ey.size β)).take (i*ey.size β)++((cur.toList.take (ys.length*ey.size β)).drop (j*ey.size β))++(cur.toList.take (ys.length*ey.size β)).drop ((i+(ys.length - j))*ey.size β):=by
  rw[hc'l,ct,bz (by omega)];have hl1:(cur.toList.take (i*ey.size β)).length=i*ey.size β:=by rw[aJ,hcl];omega
  have hl2:((cur.toList.take (ys.length*ey.size β)).drop (j*ey.size β)).length=(ys.length - j)*ey.size β:=by rw[hnl,hs1]
  have hadd:(i+(ys.length - j))*ey.size β=i*ey.size β+(ys.length - j)*ey.size β:=dx ..;have hle:(i+(ys.length - j))*ey.size β<=ys.length*ey.size β:=aK _ (by omega);rw[cl,aM (by rw[ao,hl1,hl2];omega),ao,hl1,hl2,<-hadd];simp only[cY]
 refine⟨cur',?_,?_,hw',?_⟩
 .unfold execOp;rw[ho];simp[resolve,invoke,builtin,hv1,hv2,hrun]
 .have:cur'.toList.length=cur'.size:=aY;rw[<-this,hc'l];simp only[ao,aJ,dF,hcl];have:(i+(ys.length - j))*ey.size β=i*ey.size β+(ys.length*ey.size β - j*ey.size β):=by rw[dx,Nat.sub_mul]
  have:(i+(ys.length - j))*ey.size β<=ys.length*ey.size β:=aK _ (by omega);omega
 .rw[htk];exact Ze (Ze (W7 i (by omega) hrr') (W6 j (by omega) hrr')) (W6 _ (by omega) hrr')
theorem Sx.K4{ow:Ow α}{x:α}{n cap:Nat}{r1 r2:List β}{upd:List β->α}{q1 q2:Operand}{i:Int}(h:Sx F N M0 M Gs L O a w)(p:Nat)(hP:PH ow x v0 cf (Ow.row e (Ow.eE (α:=β))) b off ys upd)(hm:(c,b,off,.slice A n cap)∈cf)(hc:c=true)
  (hh:fH o N=some d) (ho:o.op=.call { callee:=.builtin .append,args:=#[q1,q2],argTypes:=#[t,t] }) (hel:iH P t e (ey.size β) bytes=true) (hs:(L++eB O).lookup sb=some (eJ ow G x v0 cf)) (hG:∀ b,G b->zj Gs p b) 
  (h1:eC M (λ s=>(L++eB O).lookup s) q1 (fk (.slice A i.toNat cap))) (h2:eC M (λ s=>(L++eB O).lookup s) q2 (fk (.slice (if cap=j.toNat then A else A.map (·.add (j.toNat*ey.size β))) (n - j.toNat) (cap - j.toNat))))
  (hr1:W1 ys i=some r1) (hr2:mQ ys j=some r2) (hij:decide (i<j)=true)
  (ks:List Nat) (hk:ff ks L=some L2) (qs:List Nat) (hq:fi L O qs p=some O2) (hsn:L2.lookup sb=none)
  (next:∀ a' w',Sx F N M0 M Gs ((d,fk (.slice A (i.toNat+(n - j.toNat)) cap))::L2) ((sb,p,eJ ow G (upd (mL ys i.toNat j.toNat)) v0 [(c,b,off,.slice A n cap)])::O2) a' w'->wpList P ops Q rest a' w')(hp:p<Gs.length:=by simp):wpList P ops Q (o::rest) a w:=by
 have hij:=oD hij;obtain⟨hgd,hd,hN⟩:=zK hh;have hsv:=h.st.has sb _ hs;obtain⟨en,ecap⟩:=hP.cap hm hc hsv;obtain⟨k1,⟨cs,k2,k3⟩,k4⟩:=hsv;obtain⟨C,e',hhb,hsz,hGb,G1,G2,s1,s2,hdj,n1,n2,hr,put⟩:=(hP.of k2 k3 k4).here;have hI:0<=i/\i<=ys.length:=by
  unfold W1 at hr1;split at hr1
  .rename_i hi;exact⟨by omega,by omega⟩
  .cases hr1
 have hJ:j<=ys.length:=by
  unfold mQ at hr2;split at hr2
  .rename_i hi;omega
  .cases hr2
 obtain⟨v,hv,h5⟩:=hr;have e1:=Jc Z (k4 _ hm hc).2.2;have e2:w.cell? ⟨b,off,none⟩=some v:=by simp[World.cell?,hhb,XO hv]
 have e3:=bV (e1.symm.trans e2);rcases h5 with⟨g,cap',cur,Gr,hg,hhg,hcap,hcm,hcs,hGg,hng,hsub,hrow⟩ | ⟨hx,_⟩
 .rw[hg] at e3;injection e3 with e4 e5 e6;subst e4;subst e6;obtain⟨ii,hi⟩:∃ ii:Nat,i=ii:=aC hI.1;obtain⟨jj,hj⟩:∃ jj:Nat,j=jj:=aC (by omega);subst hi;subst hj;subst e5;simp only[ak] at*;have hMg:=(h.ob.at_ p g (hG g (s1 g hGg))).2.1;have hlen':=Ac (ys:=ys) (i:=ii) (j:=jj) (by omega) (by omega);obtain⟨cur',hrun,hsz',hw',hrow'⟩:=EM ho hel hhg hcs hcap (JM hrow) hMg (by omega) (by omega) (h1 w a λ s y hs=>h.st.has s y hs) (h2 w a λ s y hs=>h.st.has s y hs);have hgb:g≠b:=λ e=>n1 (e ▸ hGg)
  have hgr:Grown (zj Gs p) w (w.setRow g cur'):=(Grown.lJ (y8)).mono λ k (hk:some g=some k)=>by
   injection hk with hk;rw[<-hk];exact hG g (s1 g hGg)
  have hsame:∀ k,k≠g->(w.setRow g cur').heap[k]?=w.heap[k]?:=λ k hk=>cL w g k _ hk
  have hro:(Ow.row e _).ro M G1 _ _ _:=
   ⟨_,hv,.inl ⟨g,cap,cur',Gr,by rw[hlen'];exact hg,hw',by rw[hlen'];exact hcap,hcm,hsz',hGg,hng,hsub,QC (by rw[hlen'];exact hrow')⟩⟩
  refine av hgd λ K hK=>fb.wp (fb.iw (v:=.slice (some ⟨g,0,none⟩) (ii+(ys.length - jj)) cap) (w':=w.setRow g cur') ?_ ?_)
  .exact hrun
  .rw[hd];have st:=h.kE hp hgr hk hq;refine hK _ _ (next _ _ ((st.gu (x:=eJ ow G _ v0 [(c,b,off,.slice _ ys.length cap)]) hsn ⟨k1,⟨cs,?_,k3⟩,λ q hq' hcc=>?_⟩ hG).nY hN Z Z))
   .have hL:iq M G2 w M _:=⟨λ _ _ h=>h,λ k hk hm=>hsame k λ e=>hm.elim (λ hm=>hm (e ▸ hMg)) λ h2=>hdj k (e ▸ hGg) h2⟩;exact put hL hro hdj s1 s2
   .rcases aj.1 hq' with rfl | hq'
    .refine⟨hGb,?_,?_⟩
     .show b<(w.setRow g cur').heap.size;have:(w.setRow g cur').heap.size=w.heap.size:=by simp[World.setRow]
      rw[this];exact xM hhb
     .exact Kq (k4 _ hm hc).2.2 (hsame b (br hgb))
    .cases hq'
 .subst hx;simp at hI hJ;omega
theorem Sx.L7{ow:Ow α}{x:α}{n cap:Nat}{upd:List β->α}{v:Operand}(h:Sx F N M0 M Gs L O a w)(p:Nat)(hP:PH ow x v0 cf (Ow.row e (Ow.eE (α:=β))) b off ys upd)(hm:(c,b,off,.slice A n cap)∈cf)(hc:c=true)
  (ho:o.op=.store t q v) (hgd:o.guard=none) (hd:o.dst=none) (ht:fM P t false 1=true) (hs:(L++eB O).lookup sb=some (eJ ow G x v0 cf)) (hG:∀ b,G b->zj Gs p b) 
  (hpl:eC M (λ s=>(L++eB O).lookup s) q (fk (.pointer (some ⟨b,off,none⟩)))) (hvl:eC M (λ s=>(L++eB O).lookup s) v (fk (.slice A m cap))) (hmn:m<=n)
  (ks:List Nat) (hk:ff ks L=some L2) (qs:List Nat) (hq:fi L O qs p=some O2) (hsn:L2.lookup sb=none)
  (next:∀ w',Sx F N M0 M Gs L2 ((sb,p,eJ ow G (upd (ys.take m)) v0 [])::O2) a w'->wpList P ops Q rest a w')(hp:p<Gs.length:=by simp):wpList P ops Q (o::rest) a w:=by
 have hsv:=h.st.has sb _ hs;obtain⟨en,ecap⟩:=hP.cap hm hc hsv;obtain⟨k1,⟨cs,k2,k3⟩,k4⟩:=hsv;obtain⟨G1,G2,C,e',s1,s2,hGb,n1,n2,hdj,hhb,hsz,hr,put⟩:=hP.of k2 k3 k4;obtain⟨v1,hv,h5⟩:=hr;have e1:=Jc Z (k4 _ hm hc).2.2;have e2:w.cell? ⟨b,off,none⟩=some v1:=by simp[World.cell?,hhb,XO hv]
 have e3:=bV (e1.symm.trans e2);have hpv:a.eval q=.pointer _:=hpl w a λ s y hs=>h.st.has s y hs
 have hvv:a.eval v=.slice A m cap:=hvl w a λ s y hs=>h.st.has s y hs
 have hMb:=(h.ob.at_ p b (hG b hGb)).2.1;have hrun:=xI (v:=a.eval v) (cs:=[a.eval v]) ht (by rw[hvv];rfl) hhb hsz (λ x hx=>by rw[aH.1 hx,hvv];rfl);rw[hvv] at hrun;generalize hC':(C.toList.take off++[Value.slice A m cap]++C.toList.drop _).toArray=C' at hrun;have hw':(w.setRow b C').heap[b]?=some _:=ck w b C C' e' _ hhb;have hsame:∀ k,k≠b->(w.setRow b C').heap[k]?=w.heap[k]?:=λ k hk=>cL w b k _ hk
 have hgr:Grown (zj Gs p) w (w.setRow b C'):=(Grown.lJ (y8)).mono λ k (hk:some b=some k)=>by
  injection hk with hk;rw[<-hk];exact hG b hGb
 have hro:(Ow.row e (Ow.eE)).ro M G1 (w.setRow b C') [.slice A m cap] (ys.take m):=by
  have hl:(ys.take m).length=m:=by rw[aJ];omega
  rcases h5 with⟨g,cap',cur,Gr,hg,hhg,hcap,hcm,hcs,hGg,hng,hsub,hrow⟩ | ⟨hx,A',hA⟩
  .rw[hg] at e3;injection e3 with e4 e5 e6;subst e4;subst e6;have hgb:g≠b:=λ e=>n1 (e ▸ hGg)
   have hrr:=W7 m (by omega) (Yn (w':=w.setRow b C') (λ k _ hm=>hsame k λ e=>hm.elim (λ hm=>hm (e ▸ hMb)) λ h=>h.elim) (JM hrow));refine⟨_,Z,.inl ⟨g,cap,cur,Gr,by rw[hl],(hsame g hgb).trans hhg,by rw[hl];omega,hcm,hcs,hGg,hng,hsub,?_⟩⟩;rw[ct,bz (aK _ (by omega))] at hrr;rw[hl];exact QC hrr
  .rw[hA] at e3;injection e3 with e4 e5 e6;subst hx;subst e5;subst e6;have:m=0:=by omega
   subst this;exact⟨_,Z,.inr ⟨Z,A,Z⟩⟩
 refine av hgd λ K hK=>fb.wp (fb.mS (w':=w.setRow b C') ?_ ?_)
 .unfold execOp;rw[ho];simp[Instr.storeAt,Instr.sureAddr,hpv,hvv,hrun]
 .rw[hd];have st:=h.kE hp hgr hk hq;refine hK _ _ (next _ (st.gu hsn ⟨k1,⟨cs,?_,k3⟩,λ q hq' _=>by cases hq'⟩ hG));have hL:iq M G2 w M _:=⟨λ _ _ h=>h,λ k hk hm=>hsame k λ e=>hm.elim (λ hm=>hm (e ▸ hMb)) λ h2=>n2 (e ▸ h2)⟩;exact put hL (by rw[hw',<-hC'];rfl) hro n1 hdj hGb s1 s2
theorem Nt{τ:Type}{ys r1 r2:List τ}{i:Int}(h1:W1 ys i=some r1)(h2:mQ ys j=some r2)(h:decide (i<j)=true):i.toNat+(ys.length - j.toNat)<=ys.length:=by
 have h:=oD h;unfold W1 at h1;unfold mQ at h2;split at h1
 .split at h2
  .omega
  .cases h2
 .cases h1
end
section
variable{α β γ:Type}[ey α][ey β][ey γ]
variable{fn:Func}{look:Nat->Option Dt}
theorem Sx.DZ{ow:Ow α}{t:Nat}{x:Bx α}(h:Sx F N M0 M Gs L O a w)(ht:fM P ty (ey.agg α) (ey.size α)=true)(hl:(L++eB O).lookup t=some (eJ ow.box G x v0 cf)):
  ∃ (A:Addr) (v:Value) (Gr:Nat->Prop),a.tmps.getD t undef=.pointer (some A)/\(loadVar ty A).run P w=.ok v w/\(∀ b,Gr b->G b)/\(eH ow Gr x.x).rd M w v:=by
 obtain⟨h1,⟨cs,⟨b,C,e,Gr,hc,hb,hGb,hn,hs,hro⟩,h3⟩,_⟩:=h.st.has t _ hl;have hrr:=ow.toR hro;have hc':∀ j u,C.toList[j]?=some u->w.cell? ⟨b,0+j,none⟩=some u:=λ j u hj=>by
  rw[aD];have:C[j]?=some u:=by simpa using hj
  simp[World.cell?,hb,this]
 exact⟨_,_,Gr,(by rw[<-show Act.at a t=a.tmps.getD t undef from Z,h1,h3,hc];rfl:a.tmps.getD t undef=.pointer (some ⟨b,0,none⟩)),yA ht (ey.len hrr) ey.one hc',hs,_,hro,Z⟩
theorem Sx.K8{t:Nat}{x:α}(h:Sx F N M0 M Gs L O a w)(ht:fM P ty (ey.agg α) (ey.size α)=true)(hl:(L++eB O).lookup t=some (eY g 0 x)):∃ (A:Addr) (v:Value),a.tmps.getD t undef=.pointer (some A)/\(loadVar ty A).run P w=.ok v w/\(dt x).rd M w v:=by
 obtain⟨b,_,hv,C,e,cs,hb,hc,hrr⟩:=h.st.has t _ hl;have hc':∀ j u,cs[j]?=some u->w.cell? ⟨b,0+j,none⟩=some u:=λ j u hj=>by
  have:=hc j u hj;rw[aD] at this ⊢;simp[World.cell?,hb,this]
 exact⟨_,_,hv,yA ht (ey.len hrr) ey.one hc',cs,hrr,Z⟩
theorem Sx.D4{ow:Ow α}{t u:Nat}{x:Bx α}{y:β}{r:α×β}(h:Sx (eG.ft w0 G0) N M0 M Gs L O a w)(p:Nat)(hr:fn.results=#[.cell t ty,.tmp u])(ht:fM P ty (ey.agg α) (ey.size α)=true)(hl:(L++eB O).lookup t=some (eJ ow.box G x v0 cf))(hl2:(L++eB O).lookup u=some (dt y))(hm:some (x.x,y)=some r)(hG:∀ b,G b->zj Gs p b:=by exact λ _ h=>h):
  bodyPost P fn (ra M0 w0 G0 (.lx ow r.1 (dt r.2))) .ret a w:=by
 injection hm with hm;subst hm;obtain⟨A,v,Gr,h1,h2,hs,h3⟩:=h.DZ (P:=P) ht hl;have hM:∀ k,k<w.heap.size->M0 k\/Gr k->M k:=λ k _ hk=>hk.elim (h.ob.sub k) λ hk=>(h.ob.at_ p k (hG k (hs k hk))).2.1
 exact⟨h.st.defers,_,vL hr h1 h2,_,Gr,Z,h.st.fr,λ k hk=>(h.ob.at_ p k (hG k (hs k hk))).1,λ k hk=>h.st.mok k (h.ob.at_ p k (hG k (hs k hk))).2.1,_,_,Z,(eH ow Gr x.x).weak h3 hM,(dt y).weak (h.st.has u _ hl2) hM,Z⟩
theorem Sx.uk{ow:Ow α}{t u:Nat}{x:Bx α}{y:β}{r:α×β}(h:Sx (eG.ft w0 G0) N M0 M Gs L O a w)(p:Nat)(ht2:fM P ty2 (ey.agg β) (ey.size β)=true)(hm:some (x.x,y)=some r)(hr:fn.results=#[.cell t ty,.cell u ty2]:=by rfl)(hl:(L++eB O).lookup t=some (eJ ow.box G x v0 cf):=by rfl)(hl2:(L++eB O).lookup u=some (eY g 0 y):=by rfl)(hG:∀ b,G b->zj Gs p b:=by exact λ _ h=>h)(ht:fM P ty (ey.agg α) (ey.size α)=true:=by kernel_rfl):
  bodyPost P fn (ra M0 w0 G0 (.lx ow r.1 (dt r.2))) .ret a w:=by
 injection hm with hm;subst hm;obtain⟨A,v,Gr,h1,h2,hs,h3⟩:=h.DZ (P:=P) ht hl;obtain⟨A2,v2,k1,k2,k3⟩:=h.K8 (P:=P) ht2 hl2;have hM:∀ k,k<w.heap.size->M0 k\/Gr k->M k:=λ k _ hk=>hk.elim (h.ob.sub k) λ hk=>(h.ob.at_ p k (hG k (hs k hk))).2.1
 exact⟨h.st.defers,_,Sc hr h1 h2 k1 k2,_,Gr,Z,h.st.fr,λ k hk=>(h.ob.at_ p k (hG k (hs k hk))).1,λ k hk=>h.st.mok k (h.ob.at_ p k (hG k (hs k hk))).2.1,_,_,Z,(eH ow Gr x.x).weak h3 hM,(dt y).weak k3 hM,Z⟩
theorem iF.thin{xs:List Dt}{o1 o2:Ow α}{x:α}(ht:Eo o1 o2)(h:iF P f xs (.ow o1 x)):iF P f xs (.ow o2 x):=λ M w vs hm hr=>(h M w vs hm hr).mono λ en w' ⟨v,G,he,hex,hG,⟨cs,h2,h3⟩⟩=>by
 obtain⟨G',s1,h4⟩:=ht h2;refine⟨v,G',he,hex,λ b hb=>hG b (s1 b hb),cs,o2.weak h4 λ k _ hk=>?_,h3⟩;rcases hk with hk | hk
 .exact⟨.inl hk,.inl λ hg=>by have:=(hG k hg).1;have:=hm k hk;omega⟩
 .exact⟨.inr (s1 k hk),.inr hk⟩
end
section
variable{fn:Func}{look:Nat->Option Dt}
variable{α β:Type}[ey α][ey β]
theorem Sx.AH{ow ow2:Ow α}{oy:Ow β}{q:Nat}{x x2:α}{y':β}(h:Sx F N M0 M Gs L O a w)(p:Nat)(ho:o.op=.store t (.tmp q) vo)(hgd:o.guard=none)(hd:o.dst=none)(ht:fM P t (ey.agg β) (ey.size β)=true)(hp:p<Gs.length)
  (hq':Act.at a q=.pointer (some ⟨b,off,none⟩)) (hcv:(a.eval vo).cells.toList=cy) (hy:oy.ro M G3 w cy y') (hs:(L++eB O).lookup sb=some (eJ ow.box G ⟨x⟩ (.pointer (some ⟨b,0,none⟩)) cf)) (hG:∀ b,G b->zj Gs p b) (hG3:∀ b,G3 b->¬ zj Gs p b) (hoff:off+ey.size β<=ey.size α)
  (hnew:∀ {M G1 G3:Nat->Prop} {w:World} {cells:List Value},ow.ro M G1 w cells x->oy.ro M G3 w cy y'->(∀ k,G1 k->¬ G3 k)->ow2.ro M (λ k=>G1 k\/G3 k) w (cells.take off++cy++cells.drop (off+ey.size β)) x2)
  (ks:List Nat) (hk:ff ks L=some L2) (qs:List Nat) (hq:fi L O qs p=some O2)
  (next:∀ w',Sx F N M0 M Gs L2 O2 a w'->(eJ ow2.box (λ k=>G k\/G3 k) ⟨x2⟩ (.pointer (some ⟨b,0,none⟩)) []).rd M w' (Act.at a sb)->wpList P ops Q rest a w'):wpList P ops Q (o::rest) a w:=by
 obtain⟨h1,⟨cs,⟨b',C,e,Gr,hc,hh,hGb,hn,hsub,hro⟩,h3⟩,_⟩:=h.st.has sb _ hs;have hb:b'=b:=by
  rw[hc] at h3;have h3:=h3;injection h3 with h3;injection h3 with h3;injection h3 with h3;exact h3.symm
 subst hb;have hcl:=oy.len hy;have hCl:=ow.len hro;have hCs:C.size=ey.size α:=by rw[<-aY];exact hCl
 have hone:=oy.one hy;have hob:=hG b' hGb;have hMb:=(h.ob.at_ p b' hob).2.1;have hrun:=xI (by rw[hcl];exact ht) hcv hh (by rw[hcl,hCs];exact hoff) hone;generalize hC':(C.toList.take off++cy++C.toList.drop _).toArray=C' at hrun;have hw':(w.setRow b' C').heap[b']?=some _:=ck w b' C C' e _ hh;have hsame:∀ k,k≠b'->(w.setRow b' C').heap[k]?=w.heap[k]?:=λ k hk=>cL w b' k _ hk
 have hgr:Grown (zj Gs p) w (w.setRow b' C'):=(Grown.lJ (y8)).mono λ k (hk:some b'=some k)=>by
  injection hk with hk;rw[<-hk];exact hob
 have hL:∀ G5:Nat->Prop,¬ G5 b'->kA M G5 w _:=λ G5 hn5 k _ hm=>hsame k λ e=>hm.elim (λ hm=>hm (e ▸ hMb)) λ h2=>hn5 (e ▸ h2)
 have nb3:=λ h3=>hG3 b' h3 hob
 refine av hgd λ K hK=>fb.wp (fb.mS (w':=w.setRow b' C') ?_ ?_)
 .unfold execOp;rw[ho];have hpv':a.eval (.tmp q)=.pointer _:=hq';simp[Instr.storeAt,Instr.sureAddr,hpv',hrun]
 .rw[hd];refine hK _ _ (next _ (h.kE hp hgr hk hq) ⟨h1,⟨_,⟨b',C',e,λ k=>Gr k\/G3 k,Z,hw',.inl hGb,λ h=>h.elim hn nb3,λ k hk=>hk.imp (hsub k) id,?_⟩,Z⟩,λ q hq _=>by cases hq⟩);have:=hnew (ow.stable hro (hL Gr hn)) (oy.stable hy (hL G3 nb3)) λ k hk hk2=>hG3 k hk2 (hG k (hsub k hk))
  have e1:C'.toList=C.toList.take off++cy++C.toList.drop (off+ey.size β):=by rw[<-hC',cg,hcl]
  show ow2.ro M _ _ C'.toList x2;rw[e1];exact this
theorem Sx.L5{ow ow2:Ow α}{x y:α}(h:Sx F N M0 M Gs L O a w)(p:Nat)(hz:∀ {M:Nat->Prop} {w:World} {cs:List Value},ey.rdc M w cs y->ow2.ro M noB w cs y)(ho:o.op=.store t (.tmp sb) vo)(hgd:o.guard=none)(hd:o.dst=none)(ht:fM P t (ey.agg α) (ey.size α)=true)
  (hs:(L++eB O).lookup sb=some (eJ ow.box G ⟨x⟩ (.pointer (some ⟨b,0,none⟩)) cf)) (hvl:eC M (λ s=>(L++eB O).lookup s) vo (dt y)) (hG:∀ b,G b->zj Gs p b)
  (ks:List Nat) (hk:ff ks L=some L2) (qs:List Nat) (hq:fi L O qs p=some O2) (hsn:L2.lookup sb=none)
  (next:∀ w',Sx F N M0 M Gs L2 ((sb,p,eJ ow2.box G ⟨y⟩ (.pointer (some ⟨b,0,none⟩)) [])::O2) a w'->wpList P ops Q rest a w')(hp:p<Gs.length:=by simp):wpList P ops Q (o::rest) a w:=by
 have hy:=Wn (hvl w a λ s y hs=>h.st.has s y hs);refine h.AH (ow2:=ow2) (oy:=Ow.eE) (G3:=noB) (x2:=y) p ho hgd hd ht hp (h.st.has sb _ hs).1 Z hy hs hG (λ _ h=>h.elim) (by omega) (λ{M G1 G3 w cells} h1 h2 _=>?_) ks hk qs hq λ w' st hr=>next w' (st.gu hsn ?_ hG)
 .have hl:=ow.len h1;rw[ca,bb,bE (by omega),aO];exact ow2.more (hz h2) λ _ h=>h.elim
 .have e:(λ k=>G k\/noB k)=G:=by funext k;simp[noB]
  rwa[e] at hr
theorem iY.LF{cs:List Value}{y:eT}(h:ey.rdc M w cs y):(iY (Ow.eE (α:=List Str))).ro M noB w cs y:=by
 obtain⟨c0,r0,hc,k0,c1,r1,hc1,k1,c2,c3,hc2,k2,k3⟩:=h;exact⟨noB,noB,c0,r0,λ _ h=>h.elim,λ _ h=>h.elim,λ _ h=>h.elim,hc,k0,noB,noB,c1,r1,λ _ h=>h.elim,λ _ h=>h.elim,λ _ h=>h.elim,hc1,k1,noB,noB,c2,c3,λ _ h=>h.elim,λ _ h=>h.elim,λ _ h=>h.elim,hc2,k2,k3⟩
theorem Sx.L8{ow ow2:Ow α}{q:Nat}{x x2:α}{r:List β}(h:Sx F N M0 M Gs L O a w)(p p2:Nat)
  (hnew:∀ {M G1 G3:Nat->Prop} {w:World} {cells cy:List Value},ow.ro M G1 w cells x->(Ow.row e (Ow.eE (α:=β))).ro M G3 w cy r->(∀ k,G1 k->¬ G3 k)->ow2.ro M (λ k=>G1 k\/G3 k) w (cells.take off++cy++cells.drop (off+1)) x2)
  (ho:o.op=.store t (.tmp q) (.tmp tv)) (hgd:o.guard=none) (hd:o.dst=none) (ht:fM P t false 1=true)   
  (hpl:eC M (λ s=>(L++eB O).lookup s) (.tmp q) (fk (.pointer (some ⟨b,off,none⟩)))) (hvl:(L++eB O).lookup tv=some (eH (Ow.row e (Ow.eE (α:=β))) G3 r)) (hs:(L++eB O).lookup sb=some (eJ ow.box G ⟨x⟩ (.pointer (some ⟨b,0,none⟩)) cf)) (hG:∀ b,G b->zj Gs p b) (hG3:∀ b,G3 b->zj Gs p2 b)
  (ks:List Nat) (hk:ff ks L=some L2) (qs:List Nat) (hq:fi L O qs p=some O2) (hq2:O2.all (λ q=>q.2.1 != p2)=true) (hsn:L2.lookup sb=none)
  (next:∀ G' w',Sx F N M0 M ((Gs.set p G').set p2 (eA none)) L2 ((sb,p,eJ ow2.box G' ⟨x2⟩ (.pointer (some ⟨b,0,none⟩)) [])::O2) a w'->wpList P ops Q rest a w')(hoff:off+1<=ey.size α:=by decide)(hp:p<Gs.length:=by simp)(hp2:p2<Gs.length:=by simp)(hne:p≠p2:=by decide):wpList P ops Q (o::rest) a w:=by
 obtain⟨cy,hy,hyv⟩:=h.st.has tv _ hvl;have hcv:(Act.at a tv).cells.toList=cy:=by rw[hyv];exact ZS ((Ow.row e _).toR hy)
 refine h.AH p ho hgd hd ht hp (hpl w a λ s y hs=>h.st.has s y hs) hcv hy hs hG (λ b hb hb2=>h.ob.apart p p2 b hne hb2 (hG3 b hb)) hoff hnew ks hk qs hq λ w' st hr=>?_
 have k1:=st.mJ hp hp2 hne hq2;have ej:J3 Gs p p2=(Gs.set p (λ b=>zj Gs p b\/zj Gs p2 b)).set p2 _:=rfl;rw[ej] at k1;refine next _ w' (k1.gu hsn ⟨hr.1,?_,λ q hq _=>by cases hq⟩ λ c hc=>?_)
 .obtain⟨cs,h1,h2⟩:=hr.2.1;exact⟨cs,(ow2.box).more h1 λ k hk=>hk.imp (hG k) (hG3 k),h2⟩
 .rw[zq (br hne),zf hp];exact hc
theorem iY.tk{x:eT}{r:List Str}{cells:List Value}(h1:(iY (Ow.eE (α:=List Str))).ro M G1 w cells x)(h2:(Ow.row e (Ow.eE (α:=Str))).ro M G3 w cy r)(_:∀ k,G1 k->¬ G3 k):(iY (Ow.row e (Ow.eE (α:=Str)))).ro M (λ k=>G1 k\/G3 k) w (cells.take 3++cy++cells.drop (3+1)) { x with names:=r }:=by
 obtain⟨_,_,c0,r0,_,_,_,hc,k0,_,_,c1,r1,_,_,_,hc1,k1,_,_,c2,c3,_,_,_,hc2,k2,k3⟩:=h1;have l0:c0.length=1:=ey.len k0;have l1:c1.length=1:=ey.len k1;have l2:c2.length=1:=ey.len k2;have l3:c3.length=1:=ey.len k3;rw[hc1,hc2] at hc;have e1:cells.take 3=c0++(c1++c2):=by
  rw[hc,<-aE,<-aE,di (by simp[l0,l1,l2]),aE]
 have e2:cells.drop (3+1)=[]:=by rw[bE];simp[hc,l0,l1,l2,l3]
 rw[e1,e2,aO];have:=iY.mk (x:={ x with names:=r }) k0 k1 k2 h2;simp at this;rw[aE,aE];exact(iY _).more this λ _ h=>.inr h
end
structure Ek(P:Program)(F:eG)(M:Nat->Prop)(ops:Array Oper)(N k:Nat)(T:List (List Nat))(xs:List (Nat×Dt))(s sb:Nat)(G:Nat->Prop)(Z:Dt)(a0:Act)(w1:World)(listed:Array Bool)(a:Act)(w:World):Prop where
 sz:listed.size=ops.size
 size:a.tmps.size=N
 defers:a.defers=a0.defers
 fr:F.J w
 grown:Grown G w1 w
 ext:listed.getD s false=false->fy w1 w
 tail:∀ i,k<=i->listed.getD i false=false
 clos:nO T ops.size listed
 done:∀ i,i≠s->listed.getD i false=true->∀ x d,xs[i]?=some (d,x)->(listed.getD s false=false\/∀ b,x.own b->¬ G b)->x.rd M w (Act.at a d)
 rest:∀ t,(∀ i,listed.getD i false=true->xK ops i≠some t)->Act.at a t=Act.at a0 t
 z:listed.getD s false=true->Z.rd M w (Act.at a sb)
section
variable{T:List (List Nat)}{S:List (List (Nat×Option Nat))}
theorem NJ(h:jA ops k T S=true)(hk:k<=ops.size){Z:Dt}
  (hsk:s<k) (hos:ops[s]?=some os) (hosd:os.dst=none) (hosg:os.guard=none) (hGM:∀ b,G b->M b) (hGF:∀ b,G b->F.Own b) (hZ:∀ {w w':World} {v:Value},Z.rd M w v->fy w w'->Z.rd M w' v) (hDn:∀ (i:Nat) (x:Dt),D[i]?=some x->∀ b,x.own b->¬ G b) (hl:∀ i,i<k->i≠s->(i∈T.getD s []\/∀ t y,Y7 (S.getD i []) L D t=some y->∀ b,y.own b->¬ G b)/\xK ops i≠some sb)
  (hst:St F N M L a0 w1) (hreg:RegL P M ops N S L D s 0 (ops.toList.take k) xs)
  (Qq:∀ a w,fy w1 w->(∀ t y,Y7 (S.getD s []) L D t=some y->y.rd M w (Act.at a t))->Act.at a sb=Act.at a0 sb->fb P os a w (λ _ w'=>Grown G w w'/\Z.rd M w' (Act.at a sb)))
  (hQ:∀ a' w',F.J w'->Grown G w1 w'->a'.tmps.size=N->a'.defers=a0.defers->(∀ t x,(xs++L).lookup t=some x->x.nb=true->x.rd M w' (Act.at a' t))->(∀ t,(∀ i,i<k->xK ops i≠some t)->Act.at a' t=Act.at a0 t)->Z.rd M w' (Act.at a' sb)->wpList P ops Q (ops.toList.drop k) a' w'):
  ∀ (f:Nat) (listed:Array Bool) (a:Act) (w:World),left ops.size listed=f->Ek P F M ops N k T xs s sb G Z a0 w1 listed a w->wpAny P .any ops Q f listed a w:=by
 have hlen:xs.length=k:=by rw[<-hreg.get.1];simp;omega
 have hget:∀ i o,i<k->i≠s->ops[i]?=some o->∃ x d,xs[i]?=some (d,x)/\o.dst=some d/\d<N/\D[i]?=some x/\OpG P M ops N (Y7 (S.getD i []) L D) o x:=by
  intro i o hi hne ho;have:=hreg.get.2 i o (by rw[aw,Ke hi];simpa using ho) (by omega);simpa using this
 have hdst:∀ i x d,i≠s->xs[i]?=some (d,x)->i<k/\xK ops i=some d:=by
  intro i x d hne hx;have hi:i<k:=by rw[<-hlen];exact(ai.1 hx).1
  obtain⟨o,ho⟩:∃ o,ops[i]?=some o:=⟨_,an (by omega)⟩;obtain⟨x',d',h1,h2,_⟩:=hget i o hi hne ho;rw[hx] at h1;injection h1 with h1;injection h1 with h1 _;exact⟨hi,by simp[xK,ho,h2,h1]⟩
 have hlate:=hl;have hxsN:∀ t x,(t,x)∈xs->∀ i,xs[i]?=some (t,x)->i=s->x.nb=true->x=nA:=by
  intro t x _ i hi hs _;subst hs;have key:∀ {i0:Nat} {l:List Oper} {xs:List _},RegL P M ops N S L D i i0 l xs->∀ n y,i0+n=i->xs[n]?=some y->y=(N,nA):=by
   intro i0 l xs hr
   induction hr with
   | nil=>intro n y _ h;simp at h
   |cons hi hd hN hx h hr ih=>
    intro n y hn hy;cases n with
    | zero=>simp at hi;omega
    | succ n=>exact ih n y (by omega) (by simpa using hy)
   |late hi hr ih=>
    intro n y hn hy;cases n with
    | zero=>simp at hy;exact hy.symm
    | succ n=>simp at hi;omega
  have:=key hreg i _ (by omega) hi;injection this
 have finish:∀ (f:Nat) (listed:Array Bool) (a:Act) (w:World),left ops.size listed=f->Ek P F M ops N k T xs s sb G Z a0 w1 listed a w->(∀ i,i<k->listed.getD i false=true)->wpAny P .any ops Q f listed a w:=by
  intro f listed a w hf inv hall;refine Tl h f k listed (by rw[<-hf];exact QV hk hall inv.tail) (al _) inv.sz hall inv.tail a w (hQ a w inv.fr inv.grown inv.size inv.defers (λ t x hs hnb=>?_) (λ t ht=>inv.rest t λ i hi=>?_) (inv.z (hall s hsk)))
  .rcases qF xs L t x hs with hm | ⟨hno,hl'⟩
   .obtain⟨i,hi⟩:=aR hm;by_cases hne:i=s
    .rw[hxsN t x hm i hi hne hnb];trivial
    .exact inv.done i hne (hall i (hdst i x t hne hi).1) x t hi (.inr λ b hb=>(x.nob hnb b hb).elim)
   .rw[inv.rest t (λ i hi hd=>?_)]
    .exact Rs hnb (hst.has t x hl') inv.grown hGM
    .have hik:i<k:=by
      rcases aT i k with hx | hx
      .exact hx
      .rw[inv.tail i hx] at hi;cases hi
     by_cases hne:i=s
     .subst hne;simp[xK,hos,hosd] at hd
     .obtain⟨o,ho⟩:∃ o,ops[i]?=some o:=⟨_,an (by omega)⟩;obtain⟨x',d',h1,h2,_⟩:=hget i o hik hne ho;simp[xK,ho,h2] at hd;subst hd;exact hno x' (ae h1)
  .have hik:i<k:=by
    rcases aT i k with hx | hx
    .exact hx
    .rw[inv.tail i hx] at hi;cases hi
   exact ht i hik
 intro f
 induction f with
 |zero=>
  intro listed a w hf inv;refine finish 0 listed a w hf inv (λ i hi=>?_);have h1:i ∉ (List.range ops.size).filter λ i=>!listed.getD i false:=by
   rw[au hf];intro h;cases h
  rw[cQ] at h1;have:=λ hx=>h1 ⟨aA.2 (by omega),hx⟩
  simpa using this
 |succ f ih=>
  intro listed a w hf inv;by_cases hall:∀ i,i<k->listed.getD i false=true
  .exact finish _ listed a w hf inv hall
  .simp at hall;obtain⟨p,hp,hup⟩:=hall;have hup:listed.getD p false=false:=by simpa using hup
   refine⟨λ hnil=>absurd hnil (IQ h inv.sz (by omega) hup),λ i hi=>?_⟩;obtain⟨hilt,hiu,hicl⟩:=I8 h inv.clos hi;have hiu':listed.getD i false=false:=by rw[Y8 (by rw[inv.sz];exact hilt) false true];exact hiu
   obtain⟨o,ho⟩:∃ o,ops[i]?=some o:=⟨_,an hilt⟩;have hik:i<k:=by
    rcases aT i k with hx | hx
    .exact hx
    .have:=hicl p ((vU h ho).2.2.2 hx p (by omega));rw[hup] at this;cases this
   obtain⟨hS1,hS2,hdd⟩:=(vU h ho).2.2.1 hik;have hlook:(listed.getD s false=false\/∀ t y,Y7 (S.getD i []) L D t=some y->∀ b,y.own b->¬ G b)->∀ t y,Y7 (S.getD i []) L D t=some y->y.rd M w (Act.at a t):=by
    intro hc t y hy;have hny:=hc.imp id λ hn=>hn t y hy
    unfold Y7 at hy;split at hy
    .rename_i j hj;have hmem:=jG _ _ _ hj;obtain⟨hd1,hT,hjk⟩:=hS1 t j hmem;obtain⟨o',ho'⟩:∃ o',ops[j]?=some o':=⟨_,an (by omega)⟩;have hjs:j≠s:=by
      intro e;subst e;simp[xK,hos,hosd] at hd1
     obtain⟨x',d',g1,g2,_,g4,_⟩:=hget j o' hjk hjs ho';rw[g4] at hy;injection hy with hy;subst hy;have:d'=t:=by simpa[xK,ho',g2] using hd1
     subst this;exact inv.done j hjs (hicl j hT) _ _ g1 (.inr (hDn _ _ g4))
    .rename_i hj;have hmem:=jG _ _ _ hj;rw[inv.rest t (λ m hm hd=>?_)]
     .rcases hny with h0 | h0
      .exact y.ext (hst.has t y hy) (inv.ext h0)
      .exact y.stable (hst.has t y hy) λ n hn hm=>inv.grown.block n hn λ e=>hm.elim (λ h=>h (hGM n e)) λ h=>h0 n h e
     .have hmlt:m<ops.size:=by rw[<-inv.sz];exact Q7 hm
      have:=hS2 t hmem m hmlt hd;have:=inv.clos m hmlt hm i this;rw[hiu'] at this;cases this
    .cases hy
   have hmok:=λ b hb=>ay (hst.mok b hb) inv.grown.size
   unfold wpOp;simp[ho];by_cases hne:i=s
   .subst hne;have:o=os:=by rw[hos] at ho;injection ho with ho;exact ho.symm
    subst this;rw[Ke (Ym hosg)];refine .inl (fb.wp ((Qq a w (inv.ext hiu') (hlook (.inl hiu')) (inv.rest sb λ j hj hd=>?_)).mono λ v w' ⟨hg,hz⟩=>?_))
    .have hjk:j<k:=by
      rcases aT j k with hx | hx
      .exact hx
      .rw[inv.tail j hx] at hj;cases hj
     by_cases hji:j=i
     .subst hji;rw[hiu'] at hj;cases hj
     .exact(hlate j hjk hji).2 hd
    .rw[hosd];have hgr:=inv.grown.trans hg λ _ _ h=>h
     refine ih _ _ _ (by have:=vV hilt inv.sz hiu';omega) ⟨by simpa using inv.sz,inv.size,inv.defers,F.own inv.fr hg hGF,hgr,λ hf'=>?_,λ j hj=>?_,CX h inv.sz inv.clos hi,λ j hjs hj y e hy hny=>?_,λ t ht=>inv.rest t λ j hj=>ht j ?_,λ _=>hz⟩
     .rw[xk (by rw[inv.sz];exact hilt)] at hf';cases hf'
     .rw[zZ (by omega)];exact inv.tail j hj
     .rw[zZ (λ e=>hjs e.symm)] at hj;rcases hny with h0 | h0
      .rw[xk (by rw[inv.sz];exact hilt)] at h0;cases h0
      .exact y.stable (inv.done j hjs hj y e hy (.inr h0)) λ n hn hm=>hg.block n hn λ eg=>hm.elim (λ h=>h (hGM n eg)) λ h=>h0 n h eg
     .by_cases hij:i=j
      .subst hij;exact xk (by rw[inv.sz];exact hilt)
      .rw[zZ hij];exact hj
   .obtain⟨x,d,hx,hod,hdN,hDx,hg⟩:=hget i o hik hne ho;have hcond:listed.getD s false=false\/∀ t y,Y7 (S.getD i []) L D t=some y->∀ b,y.own b->¬ G b:=by
     cases hs:listed.getD s false with
     | false=>exact .inl rfl
     |true=>
      rcases(hlate i hik hne).1 with hT | hn
      .have:=inv.clos s (by omega) hs i hT;rw[hiu'] at this;cases this
      .exact .inr hn
    have hstep':=hg.step hmok (hlook hcond) inv.size;have hnext:∀ v w',fy w w'->x.rd M w' v->wpAny P .any ops Q f (listed.setIfInBounds i true) (a.put o.dst v) w':=by
     intro v w' he hv;refine ih _ _ _ (by have:=vV hilt inv.sz hiu';omega) ⟨by simpa using inv.sz,by rw[Act.nZ];exact inv.size,by rw[Act.put_defers];exact inv.defers,F.ext inv.fr he,inv.grown.trans (Grown.kW he) λ _ _ h=>h.elim,λ hf'=>?_,λ j hj=>?_,CX h inv.sz inv.clos hi,λ j hjs hj y e hy hny=>?_,λ t ht=>?_,λ hz=>?_⟩
     .rw[zZ hne] at hf';exact(inv.ext hf').trans he
     .rw[zZ (by omega)];exact inv.tail j hj
     .rw[zZ hne] at hny;rw[hod];by_cases hij:i=j
      .subst hij;rw[hx] at hy;injection hy with hy;injection hy with hy1 hy2;subst hy1;subst hy2;rw[Act.oX (by rw[inv.size];exact hdN)];exact hv
      .rw[zZ hij] at hj;obtain⟨hjk,hjd⟩:=hdst j y e hjs hy;have hne':(some d:Option Nat)≠some e:=by
        intro he';have h1:xK ops i=some d:=by simp[xK,ho,hod]
        rcases Nat.lt_or_gt_of_ne hij with hlt | hgt
        .obtain⟨o',ho'⟩:∃ o',ops[j]?=some o':=⟨_,an (by omega)⟩;exact((vU h ho').2.2.1 hjk).2.2 i hlt (by rw[h1,hjd,he'])
        .exact hdd j hgt (by rw[h1,hjd,he'])
       rw[Act.mD hne'];exact y.ext (inv.done j hjs hj y e hy hny) he
     .rw[hod,Act.mD]
      .exact inv.rest t (λ j hj=>ht j (by
        by_cases hij:i=j
        .subst hij;exact xk (by rw[inv.sz];exact hilt)
        .rw[zZ hij];exact hj))
      .have:=ht i (xk (by rw[inv.sz];exact hilt));simpa[xK,ho,hod] using this
     .rw[zZ hne] at hz;have hsb:(some d:Option Nat)≠some sb:=by
       have:=(hlate i hik hne).2;simpa[xK,ho,hod] using this
      rw[hod,Act.mD hsb];exact hZ (inv.z hz) he
    split
    .rename_i hw;exact .inl (fb.wp ((hstep'.1 hw).mono λ v w' ⟨he,hv⟩=>hnext v w' he hv))
    .rename_i hw;exact hnext undef w (fy.refl w) (hstep'.2 (by simpa using hw))
end
def Nj(ops:Array Oper)(k s sb:Nat)(T:List (List Nat))(S:List (List (Nat×Option Nat))):Bool:=
 (List.range k).all λ i=>i == s||(((T.getD s []).contains i||(S.getD i []).all λ q=>q.1 != sb)&&xK ops i != some sb)
def KD(Gs:List (Nat->Prop))(p:Nat):List Dt->Prop
 | []=>True
 | y::l=>(y.nb=true\/∃ p',p'≠p/\∀ b,y.own b->zj Gs p' b)/\KD Gs p l
theorem KD.get{Gs:List (Nat->Prop)}{p:Nat}:∀ {l:List Dt},KD Gs p l->∀ y∈l,y.nb=true\/∃ p',p'≠p/\∀ b,y.own b->zj Gs p' b
 |_::l,h,y,hy=>by
  rcases aj.1 hy with rfl | hy
  .exact h.1
  .exact KD.get h.2 y hy
theorem Rh{t:Nat}(h:Y7 C L D t=some y):(∃ q∈C,q.1=t)/\((∃ i:Nat,D[i]?=some y)\/L.lookup t=some y):=by
 unfold Y7 at h;split at h
 .rename_i j hj;exact⟨⟨_,jG _ _ _ hj,Z⟩,.inl ⟨j,h⟩⟩
 .rename_i hj;exact⟨⟨_,jG _ _ _ hj,Z⟩,.inr h⟩
 .cases h
def Nv(b:Nat)(cs:List Value):Dt where
 rd _ w _:=∃ C e,w.heap[b]?=some (.cells C e (0,0))/\C.toList=cs
 own:=eA (some b)
 nb:=false
 nob h:=by cases h
 stable:=λ⟨C,e,hh,hc⟩ k=>⟨C,e,(k b (xM hh) (.inr Z)).trans hh,hc⟩
 weak h _:=h
section
theorem Sx.tW{α:Type}[ey α]{id:Nat}{t q s4 b4:Nat}{ow ow1:Ow α}{x0 x:α}{cs:Array Value}(h:Sx F N M0 M Gs L O a w)(p p2:Nat)
  (hm:P.follows .mixedOrders=true) (k s:Nat) (S:List (List (Nat×Option Nat)))     (hs:RegL P M ops N S (L++eB O) D s 0 (ops.toList.take k) xs) (hDn:KD Gs p D)
          
  (hpl:eC M (Y7 (S.getD s []) (L++eB O) D) (.tmp q) (fk (.pointer (some ⟨b,0,none⟩)))) (hvl:eC M (Y7 (S.getD s []) (L++eB O) D) vo (fk (.agg cs))) (hcs:cs.size=ey.size α)
      (hcf:(true,b4,0,.agg cs)∈cf)
   (ks:List Nat)  (qs:List Nat)    
  (hQ:∀ G' a' w',Sx F N M0 M ((Gs.set p G').set p2 (eA none)) L2 ((sb,p,eJ ow.box G' ⟨x⟩ (.pointer (some ⟨b,0,none⟩)) [])::O2) a' w'->wpList P ops Q (ops.toList.drop k) a' w')(hc:jA ops k (kO ops) S=true:=by decide +kernel)(hkn:k<=ops.size:=by decide)(hsk:s<k:=by decide)(hl:Nj ops k s sb (kO ops) S=true:=by rfl)(hso:ops[s]?=some o:=by rfl)(ho:o.op=.store t (.tmp q) vo:=by rfl)(hgd:o.guard=none:=by rfl)(hd:o.dst=none:=by rfl)(hp:p<Gs.length:=by simp)(hp2:p2<Gs.length:=by simp)(hne:p≠p2:=by decide)(hsl:(L++eB O).lookup sb=some (eJ ow1.box Gt ⟨x0⟩ (.pointer (some ⟨b,0,none⟩)) cf1):=by rfl)(hGt:∀ b,Gt b->zj Gs p b:=by exact λ _ h=>h)(hs4:(L++eB O).lookup s4=some (eJ ow.box G4 ⟨x⟩ (.pointer (some ⟨b4,0,none⟩)) cf):=by rfl)(hG4:∀ b,G4 b->zj Gs p2 b:=by exact λ _ h=>h)(hOp:O.all (λ q=>q.2.1 != p||q.1 == sb)=true:=by rfl)(hk:ff ks (xs++(L++eB O))=some L2:=by rfl)(hq:fi L O qs p=some O2:=by rfl)(hq2:O2.all (λ q=>q.2.1 != p2)=true:=by rfl)(hO2:Nk ops k O2=true:=by rfl)(hdn:L2.lookup sb=none:=by rfl)(ht:fM P t (ey.agg α) (ey.size α)=true:=by kernel_rfl)(_hag:ey.agg α=true:=by rfl):(Code.region id ops true).wp P Q a w:=by
 obtain⟨j1,⟨c1,⟨b',C1,e1,Gr1,hc1,hh1,hGb1,hn1,hs1,hro1⟩,j3⟩,_⟩:=h.st.has sb _ hsl;have hb':b'=b:=by
  rw[hc1] at j3;have j3:=j3;injection j3 with j3;injection j3 with j3;injection j3 with j3;exact j3.symm
 subst hb';have hob:=hGt b' hGb1;have hgM:∀ n,eA (some b') n->M n:=λ n hn=>by
  have hn:=hn;injection hn with hn;rw[<-hn];exact(h.ob.at_ p b' hob).2.1
 have hgF:∀ n,eA (some b') n->F.Own n:=λ n hn=>by
  have hn:=hn;injection hn with hn;rw[<-hn];exact(h.ob.at_ p b' hob).1
 have hC1:C1.size=ey.size α:=by rw[<-aY];exact ow1.len hro1
 have he:fy w { w with drawn:=w.drawn+1 }:=fy.drawn w _;have hst':St F N M _ a { w with drawn:=w.drawn+1 }:=⟨F.ext h.st.fr he,h.st.size,h.st.defers,h.st.mok,λ s x hs=>x.ext (h.st.has s x hs) he⟩;obtain⟨i1,⟨c4,⟨b4',C4,e4,Gr4,hc4,hh4,hGb4,hn4,hsub4,hro4⟩,i3⟩,i4⟩:=h.st.has s4 _ hs4;have hb4:b4'=b4:=by
  rw[hc4] at i3;have i3:=i3;injection i3 with i3;injection i3 with i3;injection i3 with i3;exact i3.symm
 subst hb4;have hC4:C4.toList=cs.toList:=by
  have h5:=(i4 _ hcf Z).2.2;have hl4:=ow.len hro4;apply aZ;intro j;by_cases hj:j<ey.size α
  .have hj':j<cs.size:=by omega
   have h6:=h5 j cs[j] (by simp[hj']);have h7:C4[j]?=some cs[j]:=by simpa[World.cell?,hh4] using h6
   rw[cX,h7];simp[hj']
  .rw[bh (by omega),bh (by simp;omega)]
 have hnb:b4'≠b':=λ e=>h.ob.apart p p2 b' hne hob (e ▸ hG4 b4' hGb4)
 have hnG:∀ n,Gr4 n->n≠b':=λ n hn e=>h.ob.apart p p2 b' hne hob (e ▸ hG4 n (hsub4 n hn))
 refine wp_region_any hm ?_;have hall:∀ i,(Array.replicate ops.size false).getD i false=false:=λ i=>by
  rcases aT i ops.size with hi | hi <;> simp[hi]
 have hleft:left ops.size (Array.replicate ops.size false)=ops.size:=by
  have:=QV (n:=ops.size) (by omega) (λ i hi=>absurd hi (Nat.not_lt_zero _)) (λ i _=>hall i);simpa using this
 have hKD:∀ y∈D,∀ n,y.own n->¬ eA (some b') n:=λ y hy n hn hn2=>by
  have hn2:=hn2;injection hn2 with hn2;subst hn2;rcases hDn.get y hy with h3 | ⟨p',h3,h4⟩
  .exact y.nob h3 _ hn
  .exact h.ob.apart p' p b' h3 (h4 b' hn) hob
 refine NJ (sb:=sb) hc hkn hsk hso hd hgd hgM hgF (λ h e=>(Nv b' cs.toList).ext h e) (λ i y hy=>hKD y (ae hy)) (λ i hi hne'=>?_) hst' hs (λ a' w' e hlk hsb=>?_) (λ a' w' hj hgr hsz hdf hnb' hrest hz=>?_) _ _ _ _ hleft
  ⟨by simp,hst'.size,Z,hst'.fr,Grown.refl _ _,λ _=>fy.refl _,λ i _=>hall i,λ i _ hl=>(by rw[hall i] at hl;cases hl),λ i _ hl=>(by rw[hall i] at hl;cases hl),λ _ _=>rfl,λ hl=>(by rw[hall] at hl;cases hl)⟩
 .have h2:=am.1 hl i (aA.2 hi);simp only[bK,beq_iff_eq,ac,bne_iff_ne,ne_eq,bH] at h2;obtain⟨h3,h4⟩:=h2.resolve_left hne';refine⟨h3.imp (λ h=>h) λ h3 tt y hy n hn hnb2=>?_,h4⟩;obtain⟨⟨q0,hq0,hqt⟩,h5⟩:=Rh hy;have htsb:tt≠sb:=by
   have:=am.1 h3 q0 hq0;rw[<-hqt];simpa using this
  rcases h5 with⟨m,hm'⟩ | h5
  .exact hKD y (ae hm') n hn hnb2
  .rcases yw h5 with h6 | ⟨_,h6⟩
   .exact y.nob (h.no tt y h6) n hn
   .obtain⟨p',hp'⟩:=JK h6;have h7:=am.1 hOp _ hp';simp at h7;have h8:=h.ow.get _ hp' n hn;have hnb2:=hnb2;injection hnb2 with hnb2;subst hnb2;exact h.ob.apart p' p b' (h7.resolve_right htsb) h8 hob
 .have hpv:a'.eval _=.pointer _:=hpl w' a' hlk;have hvv:=hvl w' a' hlk;have hhb:=(e.block b' (xM hh1)).trans hh1;have hone:∀ u∈cs.toList,u.oneCell'=true:=by rw[<-hC4];exact ow.one hro4
  have hrun:=xI (off:=0) (v:=a'.eval vo) (by rw[aY,hcs];exact ht) (by rw[hvv];rfl) hhb (by rw[aY];omega) hone;have hC':C1.toList.take 0++cs.toList++C1.toList.drop (0+cs.toList.length)=cs.toList:=by
   rw[ca,bb,bE (by rw[aY,aY];omega),aO]
  rw[hC'] at hrun;refine fb.mS (w':=w'.setRow b' cs.toList.toArray) ?_ ⟨Grown.lJ y8,cs.toList.toArray,e1,ck w' b' C1 _ e1 _ hhb,Z⟩;unfold execOp;rw[ho];simp[Instr.storeAt,Instr.sureAddr,hpv,hrun]
 .obtain⟨C',e',hz1,hz2⟩:=hz;have hgr1:=((Grown.kW he).mono λ _ h=>h.elim).trans hgr λ _ _ h=>h
  have hsbv:=hrest sb λ i hi=>by
   by_cases his:i=s
   .subst his;simp[xK,hso,hd]
   .have h2:=am.1 hl i (aA.2 hi);simp at h2;exact(h2.resolve_left his).2
  have k0:Sx F N M0 M Gs L2 O2 a' w':=by
   refine⟨⟨hj,hsz,by rw[hdf];exact hst'.defers,λ b hb=>ay (hst'.mok b hb) hgr.size,λ t' x' hx'=>?_⟩,h.ob,λ t' x' hx'=>((wn hk).spec t' x' hx').2,gf.of λ q' hq' b hb=>h.ow.get _ (ZT hq _ hq').1 b hb⟩;rcases yw hx' with h1 | ⟨h0,h1⟩
   .obtain⟨h2,h3⟩:=(wn hk).spec t' x' h1;exact hnb' t' x' h2 h3
   .obtain⟨p',hp'⟩:=JK h1;obtain⟨g1,g2,g3⟩:=ZT hq _ hp';have hno:=λ i hi=>by
     have:=am.1 (am.1 hO2 _ hp') i (aA.2 hi);simpa using this
    rw[hrest t' hno];refine x'.stable (hst'.has t' x' g3) λ n hn hm'=>hgr.block n hn λ(e:some b'=some n)=>?_
    injection e with e;subst e;rcases hm' with hm' | hm'
    .exact hm' (hgM _ Z)
    .exact h.ob.apart p' p b' g2 (h.ow.get _ g1 b' hm') hob
  have k1:=k0.mJ hp hp2 hne hq2;have ej:J3 Gs p p2=(Gs.set p (λ b=>zj Gs p b\/zj Gs p2 b)).set p2 _:=rfl;rw[ej] at k1;refine hQ (λ b=>zj Gs p b\/zj Gs p2 b) a' w' (k1.gu hdn ⟨hsbv.trans j1,⟨_,⟨b',C',e',Gr4,Z,hz1,.inl hob,λ hn=>hnG b' hn Z,λ n hn=>.inr (hG4 n (hsub4 n hn)),?_⟩,Z⟩,λ q hq _=>by cases hq⟩ λ c hc=>?_)
  .rw[hz2,<-hC4];refine ow.stable hro4 λ n hn hm'=>hgr1.block n hn λ(e:some b'=some n)=>?_
   injection e with e;subst e;exact hm'.elim (λ hm'=>hm' (hgM _ Z)) λ hm'=>hnG _ hm' Z
  .rw[zq (br hne),zf hp];exact hc
end
def la(G:Nat->Prop)(n:Nat):Dt where
 rd _ w v:=∃ b C e,v=.pointer (some ⟨b,0,none⟩)/\G b/\w.heap[b]?=some (.cells C e (0,0))/\C.size=n
 own:=G
 nb:=false
 nob h:=by cases h
 stable:=λ⟨b,C,e,hv,hG,hh,hn⟩ k=>⟨b,C,e,hv,hG,(k b (xM hh) (.inr hG)).trans hh,hn⟩
 weak h _:=h
section
variable{fn:Func}
variable{α:Type}[ey α]
theorem Sx.Ay{ow:Ow α}{x:Bx α}(h:Sx F N M0 M Gs L O a w)(p p2:Nat)(ht:fM P t (ey.agg α) (ey.size α)=true)
  (ks:List Nat)  (qs:List Nat)    
  (next:∀ G1 G2 a' w',Sx F N M0 M ((Gs.set p G1).set p2 G2) L2 ((d,p2,eH ow G2 x.x)::(sb,p,la G1 (ey.size α))::O2) a' w'->wpList P ops Q rest a' w')(hh:fH o N=some d:=by rfl)(ho:o.op=.load t (.tmp sb):=by rfl)(hsl:(L++eB O).lookup sb=some (eJ ow.box G x v0 cf):=by rfl)(hp:p<Gs.length:=by simp)(hp2:p2<Gs.length:=by simp)(hne:p≠p2:=by decide)(hG:∀ b,G b->zj Gs p b:=by exact λ _ h=>h)(hk:ff ks L=some L2:=by rfl)(hq:fi L O qs p=some O2:=by rfl)(hq2:O2.all (λ q=>q.2.1 != p&&q.2.1 != p2)=true:=by rfl)(hdn:L2.lookup d=none:=by rfl)(hsn:L2.lookup sb=none:=by rfl):wpList P ops Q (o::rest) a w:=by
 obtain⟨hgd,hd,hN⟩:=zK hh;obtain⟨h1,⟨cs,⟨b,C,e,Gr,hc,hb,hGb,hn,hs,hro⟩,h3⟩,_⟩:=h.st.has sb _ hsl;have hrr:=ow.toR hro;have hc':∀ j u,C.toList[j]?=some u->w.cell? ⟨b,0+j,none⟩=some u:=λ j u hj=>by
  rw[aD];have:C[j]?=some u:=by simpa using hj
  simp[World.cell?,hb,this]
 have hld:=yA ht (ey.len hrr) ey.one hc';have hsv:Act.at a sb=.pointer (some ⟨b,0,none⟩):=by rw[h1,h3,hc];rfl
 refine av hgd λ K hK=>fb.wp (fb.iw (v:=gI (ey.agg α) C.toList) (w':=w) ?_ ?_)
 .unfold execOp;rw[ho];have hev:a.eval (.tmp sb)=.pointer (some ⟨b,0,none⟩):=hsv;simp[Instr.loadAt,Instr.sureAddr,hev,hld]
 .rw[hd];have k1:=h.kE hp (Grown.refl _ w) hk hq;have k2:=k1.sn (p:=p) (p2:=p2) (A:=λ k=>k=b) (B:=Gr) hp hp2 hne (λ k hk=>by rw[show k=b from hk];exact hG b hGb) (λ k hk=>hG k (hs k hk)) (λ k hk hg=>hn ((show k=b from hk) ▸ hg)) hq2;have k3:=k2.gu (d:=sb) (p:=p) (x:=la (λ k=>k=b) (ey.size α)) hsn ⟨b,C,e,hsv,Z,hb,by rw[<-aY];exact ow.len hro⟩ λ k hk=>by rw[zq (br hne),zf hp];exact hk
  exact hK _ _ (next _ Gr _ _ (k3.iG hN hdn (x:=eH ow Gr x.x) ⟨_,hro,Z⟩ λ k hk=>by rw[zf (by simpa using hp2)];exact hk))
theorem Sx.D'{ow:Ow α}{n:Nat}{y:α}(h:Sx F N M0 M Gs L O a w)(p p2:Nat)(ho:o.op=.store t (.tmp sb) (.tmp tv))(hgd:o.guard=none)(hd:o.dst=none)(ht:fM P t (ey.agg α) (ey.size α)=true)
  (hsl:(L++eB O).lookup sb=some (la G1 n)) (hn:n=ey.size α)  (hvl:(L++eB O).lookup tv=some (eH ow G3 y)) 
  (ks:List Nat) (hk:ff ks L=some L2) (qs:List Nat) (hq:fi L O qs p=some O2) (hq2:O2.all (λ q=>q.2.1 != p2)=true) (hsn:L2.lookup sb=none)
  (next:∀ G' w',Sx F N M0 M ((Gs.set p G').set p2 (eA none)) L2 ((sb,p,eH ow.box G' ⟨y⟩)::O2) a w'->wpList P ops Q rest a w')(hp:p<Gs.length:=by simp)(hp2:p2<Gs.length:=by simp)(hne:p≠p2:=by decide)(hG1:∀ b,G1 b->zj Gs p b:=by exact λ _ h=>h)(hG3:∀ b,G3 b->zj Gs p2 b:=by exact λ _ h=>h):wpList P ops Q (o::rest) a w:=by
 obtain⟨b,C,e,hsv,hGb,hh,hsz⟩:=h.st.has sb _ hsl;obtain⟨cy,hy,hyv⟩:=h.st.has tv _ hvl;have hcl:=ow.len hy;have hone:=ow.one hy;have hcv:(a.eval (.tmp tv)).cells.toList=cy:=by
  have:a.eval (.tmp tv)=gI (ey.agg α) cy:=hyv;rw[this];exact ZS (ow.toR hy)
 have hob:=hG1 b hGb;have hMb:=(h.ob.at_ p b hob).2.1;have hrun:=xI (P:=P) (w:=w) (t:=t) (off:=0) (v:=a.eval (.tmp tv)) (cs:=cy) (by rw[hcl];exact ht) hcv hh (by rw[hcl,hsz,hn];omega) hone;have hC':C.toList.take 0++cy++C.toList.drop (0+cy.length)=cy:=by
  rw[ca,bb,bE (by rw[aY];omega),aO]
 rw[hC'] at hrun;have hw':(w.setRow b cy.toArray).heap[b]?=some (.cells cy.toArray e (0,0)):=ck w b C _ e (0,0) hh;have hgr:Grown (zj Gs p) w (w.setRow b cy.toArray):=(Grown.lJ (y8 (b:=b))).mono λ k (hk:some b=some k)=>by
  injection hk with hk;rw[<-hk];exact hob
 have nb3:∀ k,G3 k->k≠b:=λ k hk e=>h.ob.apart p p2 b hne hob (e ▸ hG3 k hk)
 refine av hgd λ K hK=>fb.wp (fb.mS (w':=w.setRow b cy.toArray) ?_ ?_)
 .unfold execOp;rw[ho];have hpv:a.eval (.tmp sb)=.pointer (some ⟨b,0,none⟩):=hsv;simp only[Instr.storeAt,Instr.sureAddr,hpv,ap,ar,ah,hrun]
 .rw[hd];have k1:=(h.kE hp hgr hk hq).mJ hp hp2 hne hq2;have ej:J3 Gs p p2=(Gs.set p (λ b=>zj Gs p b\/zj Gs p2 b)).set p2 (eA none):=rfl;rw[ej] at k1;refine hK _ _ (next (λ b=>zj Gs p b\/zj Gs p2 b) _ (k1.gu (x:=eH ow.box (λ b=>zj Gs p b\/zj Gs p2 b) ⟨y⟩) hsn ⟨_,⟨b,_,e,G3,Z,hw',.inl hob,λ h3=>nb3 b h3 Z,λ k hk=>.inr (hG3 k hk),?_⟩,hsv⟩ λ c hc=>?_))
  .rw[cg];exact ow.stable hy λ k _ hm=>cL w b k _ λ e=>by
    rw[e] at hm;exact hm.elim (λ hm=>hm hMb) λ h3=>nb3 b h3 Z
  .rw[zq (br hne),zf hp];exact hc
end
structure sr where
 M:Nat->Prop
 w:World
def Fz(c:sr)(w:World):Prop:=∀ k,k<c.w.heap.size->¬ c.M k->w.heap[k]?=c.w.heap[k]?
theorem Fz.lt{c:sr}(h:Fz c w)(hk:k<c.w.heap.size)(hm:¬ c.M k):k<w.heap.size:=by
 have h1:=h k hk hm;rw[an hk] at h1;exact(aB.1 h1).1
def gx(c:sr):Dt where
 rd M w _:=(∀ k,k<c.w.heap.size->M k->c.M k)/\Fz c w
 own:=noB
 nb:=true
 nob _ _ h:=h
 stable:=λ⟨h2,h3⟩ e=>⟨h2,λ k hk hm=>(e k (h3.lt hk hm) (.inl λ h=>hm (h2 k hk h))).trans (h3 k hk hm)⟩
 weak:=λ⟨h2,h3⟩ e=>⟨λ k hk hm=>Classical.byContradiction λ hc=>hc (h2 k hk (e k (h3.lt hk hc) hm)),h3⟩
section
variable{f:Nat}
variable{α:Type}[ey α]
theorem Sx.rX(h:Sx F N M0 M Gs L O a w){id:Nat}(hm:P.follows .mixedOrders=true)
  (hQ:∀ (c:sr) w',(∀ w2,Fz c w2->∀ k,k<w'.heap.size->¬ M k->w2.heap[k]?=w'.heap[k]?)->Sx F N M0 M Gs ((N,gx c)::L) O a w'->wpAnyH P .any ops Q (Fz c) ops.size (Array.replicate ops.size false) a w'):(Code.region id ops true).wp P Q a w:=
 wp_region_held (S:=Fz ⟨M,w⟩) hm (hQ ⟨M,w⟩ _ (λ _ h=>h) (h.drew.lI (s:=N) (y:=gx ⟨M,w⟩) ⟨λ _ _ h=>h,λ _ _ _=>Z⟩))
theorem Sx.fg{g:Nat}{c:sr}(h:Sx F N M0 M Gs L O a w)(hs:(L++eB O).lookup g=some (gx c):=by rfl):Fz c w:=(h.st.has g _ hs).2
theorem Sx.me{x:α}(h:Sx F N M0 M Gs L O a w)
   (hS:S w) (hz:∀ w2,S w2->∀ k,k<w.heap.size->¬ M k->w2.heap[k]?=w.heap[k]?)   (hq:eC M (λ s=>(L++eB O).lookup s) q (eX x))
  (next:∀{a'},Sx F N M0 M Gs ((d,dt x)::L) O a' w->wpAnyH P .any ops Q S f (listed.setIfInBounds i true) a' w)(ho:ops[i]?=some o:=by rfl)(hh:fH o N=some d:=by rfl)(hs:Region.noSelect ops=true:=by decide +kernel)(hf:Region.free .any ops listed i=true:=by decide +kernel)(hr:(Region.ready .any ops listed).contains i=true:=by decide +kernel)(hQ:∀ c a w v,Q (.panic c) (a.put o.dst v) w->Q (.panic c) a w:=by exact λ _ _ _ _ h=>h)(hop:o.op=.load t q:=by rfl)(ht:fM P t (ey.agg α) (ey.size α)=true:=by kernel_rfl):wpAnyH P .any ops Q S (f+1) listed a w:=by
 obtain⟨b,off,cs,hv,hb,hc,hr2⟩:=hq w a λ s y hy=>h.st.has s y hy
 have hpos:=ey.pos (α:=α);have hl:=ey.len hr2;have hlt:b<w.heap.size:=by
  have h1:=hc 0 _ (aa (by omega:0<cs.length));unfold World.cell? at h1;cases he:w.heap[b]? with
  | none=>simp[he] at h1
  | some v=>exact(aB.1 he).1
 refine h.kX (v:=gI (ey.agg α) cs) (y:=dt x) ho hh hs hf hr (λ c a w=>hQ c a w _) hS (λ w' hw'=>?_) ⟨cs,hr2,Z⟩ Z (λ _ h_=>next h_);have hcell:∀ j u,cs[j]?=some u->w'.cell? ⟨b,off+j,none⟩=some u:=λ j u hj=>(Nc (hz w' hw' b hlt hb)).trans (hc j u hj)
 have hld:=yA (P:=P) (w:=w') ht hl ey.one hcell;unfold execOp;rw[hop];simp[Instr.loadAt,Instr.sureAddr,hv,hld]
theorem Hu{look:Nat->Option Dt}{ow:Ow α}{x:α}(ho:o.op=.extract q 1)(hq:q=.tmp s)(hs:look s=some (kP (Rd.lx ow x y) G)):eP P M look o y:=
 zz λ a w _ hl=>by
  obtain⟨u1,u2,hv,_,h2⟩:=hl s _ hs;refine⟨u2,?_,h2.1⟩;have he:a.eval q=.tuple #[u1,u2]:=by rw[hq];exact hv
  unfold execOp;rw[ho];simp[he,Instr.extract]
end
theorem Gb{n m:Int}(h:i64 (n+1)=some m):n<m:=by have:=(Br h).1;omega
section
variable{α β:Type}[ey α][ey β]
variable{fn:Func}
end
section
variable{fn:Func}{look:Nat->Option Dt}
variable{α β:Type}[ey α][ey β]
variable{ys:List β}
theorem Sx.DM{n cap:Nat}(h:Sx F N M0 M Gs L O a w)(hs:(L++eB O).lookup s=some (eJ (Ow.row e (Ow.eE (α:=β))) G ys (.slice A n cap) cf)):n=ys.length/\n<=cap:=by
 obtain⟨_,⟨cs,⟨v,hv,h5⟩,h3⟩,_⟩:=h.st.has s _ hs;subst hv;have h3:=h3;rcases h5 with⟨g,cap',cur,Gr,hg,_,hcap,_⟩ | ⟨hx,A',hA⟩
 .rw[hg] at h3;injection h3 with e4 e5 e6;subst e5;subst e6;exact⟨Z,hcap⟩
 .rw[hA] at h3;injection h3 with e4 e5 e6;subst e5;subst e6;subst hx;exact⟨Z,al _⟩
theorem B1{n cap:Nat}{lo:Option Operand}{i j:Option Int}(ho:o.op=.slice t q lo hi none)(ht:gV P t sz=true)(hq:eC M look q (fk (.slice A n cap)))
  (hl:∀ (w:World) (a:Act),(∀ s y,look s=some y->y.rd M w (Act.at a s))->lo.map a.eval=i.map (Value.int .i64)) (hh:∀ (w:World) (a:Act),(∀ s y,look s=some y->y.rd M w (Act.at a s))->hi.map a.eval=j.map (Value.int .i64))
  (h1:0<=i.getD 0) (h2:i.getD 0<=j.getD n) (h3:j.getD n<=cap):eP P M look o (fk (.slice (if cap=(i.getD 0).toNat then A else A.map (·.add ((i.getD 0).toNat*sz))) ((j.getD n).toNat - (i.getD 0).toNat) (cap - (i.getD 0).toNat))):=
 zz λ a w _ hlk=>by
  obtain⟨_,ht⟩:=jZ ht;have hrun:=W8 ht A n cap i j (h1:=h1) h2 h3 w;refine⟨_,?_,Z⟩;have hv:a.eval q=.slice A n cap:=hq w a hlk;unfold execOp;rw[ho];simp[hl w a hlk,hh w a hlk,hv,hrun]
theorem RN{n cap:Nat}{x1 x2 x3:Operand}{i m:Int}(ho:o.op=.slice t q (some x1) (some x2) (some x3))(ht:gV P t sz=true)(hq:eC M look q (fk (.slice A n cap)))(h1:eC M look x1 (dt i))(h2:eC M look x2 (dt j))(h3:eC M look x3 (dt m))
  (k1:0<=i) (k2:i<=j) (k3:j<=m) (k4:m<=cap):eP P M look o nA:=
 zz λ a w _ hlk=>by
  obtain⟨_,ht⟩:=jZ ht;obtain⟨ti,ht1,ht2,ht3⟩:=ZR ht;obtain⟨i,rfl⟩:=aC k1;obtain⟨j,rfl⟩:=aC (cu k1 k2);obtain⟨m,rfl⟩:=aC (cu (cu k1 k2) k3);have e1:i<=j:=by omega
  have e2:j<=m:=by omega
  have e3:m<=cap:=by omega
  have hv:a.eval q=.slice A n cap:=hq w a hlk;have hrun:∃ v,(Instr.sliceAt t (.slice A n cap) (some (.int .i64 (i:Int))) (some (.int .i64 (j:Int))) (some (.int .i64 (m:Int)))).run P w=.ok v w:=by
   simp[Instr.sliceAt,Instr.slice,ax ht1,Instr.sliceBounds,Instr.sliceBound,asIntOf,sizeOf,typeInfo,ht2,ht3,e1,e2,e3]
  obtain⟨v,hrun⟩:=hrun;refine⟨v,?_,trivial⟩;unfold execOp;rw[ho];simp[hv,yq.1 (h1 w a hlk),yq.1 (h2 w a hlk),yq.1 (h3 w a hlk),hrun]
theorem Sx.K5{n cap j:Nat}{q1 q2:Operand}(h:Sx F N M0 M Gs L O a w)(p:Nat)
  (hh:fH o N=some d) (ho:o.op=.call { callee:=.builtin .append,args:=#[q1,q2],argTypes:=#[t,t] }) (hel:iH P t e (ey.size β) bytes=true) (hs:(L++eB O).lookup sb=some (eJ (Ow.row e (Ow.eE (α:=β))) G ys (.slice A n cap) [])) (hG:∀ b,G b->zj Gs p b) 
  (h1:eC M (λ s=>(L++eB O).lookup s) q1 (fk (.slice A i cap))) (h2:eC M (λ s=>(L++eB O).lookup s) q2 (fk (.slice (if cap=j then A else A.map (·.add (j*ey.size β))) (n - j) (cap - j))))
  (hij:i<j) (hjn:j<=ys.length)
  (ks:List Nat) (hk:ff ks L=some L2) (qs:List Nat) (hq:fi L O qs p=some O2) (hdn:L2.lookup d=none)
  (next:∀ g a' w',Sx F N M0 M Gs L2 ((d,p,eJ (Ow.row e (Ow.eE (α:=β))) G (ys.take i++ys.drop j) (.slice (some ⟨g,0,none⟩) (i+(n - j)) cap) [])::O2) a' w'->wpList P ops Q rest a' w')(hp:p<Gs.length:=by simp):wpList P ops Q (o::rest) a w:=by
 obtain⟨hgd,hd,hN⟩:=zK hh;obtain⟨_,⟨cs,⟨v,hv,h5⟩,k3⟩,_⟩:=h.st.has sb _ hs;subst hv;have e3:=k3;rcases h5 with⟨g,cap',cur,Gr,hg,hhg,hcap,hcm,hcs,hGg,hng,hsub,hrow⟩ | ⟨hx,_⟩
 .rw[hg] at e3;injection e3 with e4 e5 e6;subst e4;subst e6;subst e5;have hMg:=(h.ob.at_ p g (hG g hGg)).2.1;obtain⟨cur',hrun,hsz',hw',hrow'⟩:=EM ho hel hhg hcs hcap (JM hrow) hMg hij hjn (h1 w a λ s y hs=>h.st.has s y hs) (h2 w a λ s y hs=>h.st.has s y hs);have hgr:Grown (zj Gs p) w (w.setRow g cur'):=(Grown.lJ (y8)).mono λ k (hk:some g=some k)=>by
   injection hk with hk;rw[<-hk];exact hG g hGg
  have hlen':(ys.take i++ys.drop j).length=i+(ys.length - j):=by simp;omega
  have hrow2:=W7 (i+(ys.length - j)) (by rw[Ac (by omega) hjn];omega) hrow';rw[ct,bz (aK _ (by omega)),show(mL ys i j).take _=ys.take i++ys.drop j from di hlen'] at hrow2;have hro:(Ow.row e _).ro M G _ [.slice _ _ cap] _:=
   ⟨_,by rw[hlen'],.inl ⟨g,cap,cur',Gr,Z,hw',by rw[hlen'];omega,hcm,hsz',hGg,hng,hsub,QC (by rw[hlen'];exact hrow2)⟩⟩
  refine av hgd λ K hK=>fb.wp (fb.iw (v:=.slice (some ⟨g,0,none⟩) (i+(ys.length - j)) cap) (w':=w.setRow g cur') ?_ ?_)
  .exact hrun
  .rw[hd];have st:=h.kE hp hgr hk hq;exact hK _ _ (next g _ _ (st.iG hN hdn ⟨Z,⟨_,hro,Z⟩,λ q hq' _=>by cases hq'⟩ hG))
 .subst hx;simp at hjn;omega
def Bd(P:Program)(e:TypeId):Bool:=match P.info? e with
 | some i=>(match i.zero with | some z=>z.cells.toList.all (·.oneCell') | none=>false)
 | none=>false
theorem UY{z:Array Value}{n:Nat}(h:z.toList.all (·.oneCell')=true):(∀ v∈(Builtin.zeroCells z n).toList,v.oneCell'=true)/\(Builtin.zeroCells z n).toList.length=n*z.size:=by
 rw[am] at h;unfold Builtin.zeroCells;refine⟨λ v hv=>?_,by simp⟩;simp at hv;obtain⟨k,hk,rfl⟩:=hv;have hz:0<z.size:=by
  rcases d8 z.size with h0 | h0
  .rw[h0,Nat.mul_zero] at hk;omega
  .exact h0
 have hlt:=Nat.mod_lt k hz;rw[dQ z _ hlt];exact h _ (Array.getElem_mem_toList hlt)
theorem Sx.Li{cap g:Nat}{_xs:Array TypeId}(h:Sx F N M0 M Gs L O a w)(p:Nat)
  (ho:o.op=.call { callee:=.builtin .clear,args:=#[q],argTypes:=#[ty] }) (hgd:o.guard=none) (hd:o.dst=none) (hel:iH P ty e (ey.size β) bytes=true) (hz:Bd P e=true) (hs:(L++eB O).lookup sb=some (eJ (Ow.row e (Ow.eE (α:=β))) G ys (.slice (some ⟨g,0,none⟩) m cap) [])) (hG:∀ b,G b->zj Gs p b) 
  (hq1:eC M (λ s=>(L++eB O).lookup s) q (fk (.slice (if cap=m then some ⟨g,0,none⟩ else(some (⟨g,0,none⟩:Addr)).map (·.add (m*ey.size β))) k (cap - m)))) (hk:m+k<=cap)
  (ks:List Nat) (hks:ff ks L=some L2) (qs:List Nat) (hq:fi L O qs p=some O2) (hsn:L2.lookup sb=none)
  (next:∀ w',Sx F N M0 M Gs L2 ((sb,p,eJ (Ow.row e (Ow.eE (α:=β))) G ys (.slice (some ⟨g,0,none⟩) m cap) [])::O2) a w'->wpList P ops Q rest a w')(hp:p<Gs.length:=by simp):wpList P ops Q (o::rest) a w:=by
 obtain⟨k1,⟨cs,⟨v,hv,h5⟩,k3⟩,k4⟩:=h.st.has sb _ hs;subst hv;have e3:=k3;have hqv:a.eval q=.slice _ k _:=hq1 w a λ s y hs=>h.st.has s y hs
 obtain⟨ti,z,ht1,ht2,hz1,hs1,hs2,hs3⟩:=Qv hel;have hzo:z.cells.toList.all (·.oneCell')=true:=by
  unfold Bd at hz;rw[ht2] at hz;simp only[hz1] at hz;exact hz
 have hzero:∀ w,(zeroValue e).run P w=.ok z w:=λ w=>by simp[zeroValue,typeInfo,ht2,hz1]
 obtain⟨z1,z2⟩:=UY (n:=k) hzo;rw[hs3] at z2;by_cases hk0:k=0
 .subst hk0;refine av hgd λ K hK=>fb.wp (fb.iw (v:=.tuple #[]) (w':=w) ?_ ?_)
  .unfold execOp;rw[ho];generalize (if cap=m then some ⟨g,0,none⟩ else(some (⟨g,0,none⟩:Addr)).map (·.add (m*ey.size β)))=A' at hqv;cases A' <;> simp[resolve,invoke,builtin,hqv,Builtin.clear_,ax ht1]
  .rw[hd];have st:=h.kE hp (Grown.refl _ _) hks hq;exact hK _ _ (next _ (st.gu hsn (h.st.has sb _ hs) hG))
 .rcases h5 with⟨g',cap',cur,Gr,hg,hhg,hcap,hcm,hcs,hGg,hng,hsub,hrow⟩ | ⟨hx,A,hA⟩
  .rw[hg] at e3;injection e3 with e4 e5 e6;injection e4 with e4;injection e4 with e4;subst e4;subst e6;subst e5;have hcl:cur.toList.length=cap*ey.size β:=by simpa using hcs
   have hne:¬ cap=ys.length:=by omega
   rw[Kf hne,dO,jI,aD] at hqv;have hfit:ys.length*ey.size β+0+(Builtin.zeroCells z.cells k).toList.length<=cur.size:=by
    rw[z2,hcs,eo,<-dx];exact aK _ hk
   have hst:=run_storeCells_at (P:=P) g _ e (Builtin.zeroCells z.cells k).toList 0 cur w hhg hfit z1;generalize hcur':(cur.toList.take _++(Builtin.zeroCells z.cells k).toList++cur.toList.drop _).toArray=cur' at hst;have hMg:=(h.ob.at_ p g (hG g hGg)).2.1;have hgr:Grown (zj Gs p) w (w.setRow g cur'):=(Grown.lJ (y8)).mono λ k (hk:some g=some k)=>by
    injection hk with hk;rw[<-hk];exact hG g hGg
   have hsame:∀ k,k≠g->(w.setRow g cur').heap[k]?=w.heap[k]?:=λ k hk=>cL w g k _ hk
   have hw':(w.setRow g cur').heap[g]?=some _:=ck w g cur cur' e _ hhg;have hnc:ys.length*ey.size β<=cap*ey.size β:=aK _ hcap;have hrr':gQ M _ _ ys:=Yn (λ k _ hm=>hsame k λ e=>hm.elim (λ hm=>hm (e ▸ hMg)) λ h=>h.elim) (JM hrow);have hl1:(cur.toList.take (ys.length*ey.size β)).length=ys.length*ey.size β:=by rw[aJ,hcl];omega
   have hc'l:cur'.toList=cur.toList.take (ys.length*ey.size β)++((Builtin.zeroCells z.cells k).toList++cur.toList.drop (ys.length*ey.size β+k*ey.size β)):=by
    rw[<-hcur',cg,z2,eo,aE]
   have hro:(Ow.row e (Ow.eE)).ro M G (w.setRow g cur') [.slice (some ⟨g,0,none⟩) ys.length cap] ys:=by
    refine⟨_,Z,.inl ⟨g,cap,cur',Gr,Z,hw',hcap,hcm,?_,hGg,hng,hsub,QC ?_⟩⟩
    .have:cur'.toList.length=cur'.size:=aY;rw[<-this,hc'l];simp[hl1,hcl,z2];have e1:_*ey.size β=ys.length*ey.size β+k*ey.size β:=dx ..;have e2:_*ey.size β<=cap*ey.size β:=aK _ hk;omega
    .rw[hc'l,di hl1];exact hrr'
   obtain⟨k',hkk⟩:∃ k',k=k'+1:=⟨k - 1,by omega⟩;refine av hgd λ K hK=>fb.wp (fb.iw (v:=.tuple #[]) (w':=w.setRow g cur') ?_ ?_)
   .unfold execOp;rw[ho];subst hkk;simp[resolve,invoke,builtin,hqv,Builtin.clear_,ax ht1,hzero,hst]
   .rw[hd];have st:=h.kE hp hgr hks hq;exact hK _ _ (next _ (st.gu hsn ⟨k1,⟨_,hro,Z⟩,λ q hq' _=>by cases hq'⟩ hG))
  .rw[hA] at e3;injection e3 with e4 e5 e6;omega
theorem Sx.D5{ow:Ow α}{t:Nat}{x r:α}(h:Sx (eG.ft w0 G0) N M0 M Gs L O a w)(p:Nat)(hr:fn.results=#[.tmp t])(hl:(L++eB O).lookup t=some (eH ow G x))(hm:some x=some r)(hG:∀ b,G b->zj Gs p b:=by exact λ _ h=>h):bodyPost P fn (ra M0 w0 G0 (.ow ow r)) .ret a w:=by
 injection hm with hm;subst hm;have hM:∀ k,k<w.heap.size->M0 k\/G k->M k:=λ k _ hk=>hk.elim (h.ob.sub k) λ hk=>(h.ob.at_ p k (hG k hk)).2.1
 refine⟨h.st.defers,a.tmps.getD t undef,?_,_,G,Z,h.st.fr,λ k hk=>(h.ob.at_ p k (hG k hk)).1,λ k hk=>h.st.mok k (h.ob.at_ p k (hG k hk)).2.1,(eH ow G x).weak (h.st.has t _ hl) hM⟩;simp only[results,hr];simp
end
section
variable{α β γ:Type}[ey α][ey β][ey γ]
variable{fn:Func}{look:Nat->Option Dt}
end
section
variable{fn:Func}{f:Nat}
variable{α β:Type}[ey α][ey β]
end
section
variable{α β γ:Type}[ey α][ey β][ey γ]
variable{look:Nat->Option Dt}
end
section
variable{α β γ:Type}[ey α][ey β][ey γ]
variable{look:Nat->Option Dt}
end
set_option maxRecDepth 10000
set_option maxHeartbeats 1600000
section
variable{look:Nat->Option Dt}
theorem ML{n:Nat}(hn:n=0:=by simp):A.map (·.add n)=A:=by
 subst hn;cases A with
 | none=>rfl
 | some a=>cases a;rfl
theorem RP{n cap:Nat}(ho:o.op=.slice t q none (some x) none)(ht:gV P t sz=true)(hq:eC M look q (fk (.slice A n cap)))(hx:eC M look x (dt j))(h2:0<=j)(h3:j<=cap):eP P M look o (fk (.slice A j.toNat cap)):=by
 have h:=B1 (i:=none) (j:=some j) ho ht hq (λ _ _ _=>Z) (λ w a hl=>bu some (yq.1 (hx w a hl))) (by simp) h2 h3;have e:(.slice (if cap=((none:Option Int).getD 0).toNat then A else A.map (·.add (((none:Option Int).getD 0).toNat*sz))) (((some j).getD n).toNat - ((none:Option Int).getD 0).toNat) (cap - ((none:Option Int).getD 0).toNat):Value)=.slice A j.toNat cap:=by
  have e2:(if cap=((none:Option Int).getD 0).toNat then A else A.map (·.add (((none:Option Int).getD 0).toNat*sz)))=A:=by
   split
   .rfl
   .exact ML
  rw[e2];simp
 rw[e] at h;exact h
theorem RQ{n cap:Nat}{i:Int}(ho:o.op=.slice t q (some x) none none)(ht:gV P t sz=true)(hq:eC M look q (fk (.slice A n cap)))(hx:eC M look x (dt i))(h1:0<=i)(h2:i<=n)(h3:n<=cap):eP P M look o (fk (.slice (if cap=i.toNat then A else A.map (·.add (i.toNat*sz))) (n - i.toNat) (cap - i.toNat))):=by
 have h:=B1 (i:=some i) (j:=none) ho ht hq (λ w a hl=>bu some (yq.1 (hx w a hl))) (λ _ _ _=>Z) h1 h2 (by simpa using Int.ofNat_le.2 h3);simpa using h
theorem RO{n cap:Nat}{y:Operand}{i:Int}(ho:o.op=.slice t q (some x) (some y) none)(ht:gV P t sz=true)(hq:eC M look q (fk (.slice A n cap)))(hx:eC M look x (dt i))(hy:eC M look y (dt j))(h1:0<=i)(h2:i<=j)(h3:j<=cap):eP P M look o (fk (.slice (if cap=i.toNat then A else A.map (·.add (i.toNat*sz))) (j.toNat - i.toNat) (cap - i.toNat))):=by
 have h:=B1 (i:=some i) (j:=some j) ho ht hq (λ w a hl=>bu some (yq.1 (hx w a hl))) (λ w a hl=>bu some (yq.1 (hy w a hl))) h1 h2 h3;simpa using h
end
def Z3(x0:List File)(x1 x2:Int):Option (List File):=
 if 0<=x1/\x1<=x2/\x2<=(x0.length:Int) then some (if x1=x2 then x0 else x0.take x1.toNat++x0.drop x2.toNat) else none
theorem vD:gV Tryz.prog 63 6=true:=by kernel_rfl
theorem Cs:lL Tryz.prog 63=true:=by kernel_rfl
theorem Hx:iH Tryz.prog 63 45 6 80=true:=by kernel_rfl
theorem Ub:Tryz.prog.follows .mixedOrders=true:=by kernel_rfl
theorem Uc:Bd Tryz.prog 45=true:=by kernel_rfl
theorem UL{x1 x2 r}(h:Z3 x0 x1 x2=some r):pd Tryz.prog 199 (Ow.row 45 (Ow.eE (α:=File))) x0 [dt x1,dt x2] (.ow (Ow.row 45 (Ow.eE (α:=File))) r):=by
 unfold Z3 at h;have hb:0<=x1/\x1<=x2/\x2<=(x0.length:Int):=by
  by_cases hc:0<=x1/\x1<=x2/\x2<=(x0.length:Int)
  .exact hc
  .rw[Kf hc] at h;cases h
 rw[Ke hb] at h;obtain⟨hb1,hb2,hb3⟩:=hb;refine sG (fn:=Tryz.f199) 0 1 Tryz.func199 Z Z (λ M G w0 a0 fK=>?_);refine fK.iQ (s:=0) 0 [] (λ g1 A1 c1 hA1 st1=>?_);have hcap:=(st1.DM (s:=0) Z).2;refine st1.sq (
  sc Z (oA Z (wg (α:=File)))<|.nil) [1,2] Z [(0,0)] Z ⟨λ _ h=>h,trivial⟩ (λ a2 w2 st2=>?_)
 refine st2.sq (
  sc Z (oM Z (zt Z))<|
  sc Z (oM Z (tp Z))<|
  sc Z (oM Z (tp Z))<|
  sc Z (oM Z (tp Z))<|
  sc Z (nJ Z Cs Z)<|
  sc Z (RN Z vD (tp Z) (tp Z) (tp Z) (tp Z) hb1 hb2 hb3 (Int.ofNat_le.2 hcap))<|.nil) [1,2] Z [(0,0)] Z ⟨λ _ h=>h,trivial⟩ (λ a3 w3 st3=>?_)
 refine Kc ?_;refine st3.sq (
  sc Z (oM Z (tp Z))<|
  sc Z (oM Z (tp Z))<|
  sc Z (gU Z (tp Z) (tp Z))<|.nil) [1,2,16] Z [(0,0)] Z ⟨λ _ h=>h,trivial⟩ (λ a4 w4 st4=>?_)
 have hcnd:(if ez .eql x1 x2=true then some x0 else some (x0.take x1.toNat++x0.drop x2.toNat))=some r:=by
  rw[<-h];by_cases hc:x1=x2
  .rw[Ke hc,Ke (show ez .eql x1 x2=true from ab hc)]
  .rw[Kf hc,Kf (show ¬ ez .eql x1 x2=true from λ e=>hc (oD e))]
 by_cases hne:x1=x2
 .have hc:ez .eql x1 x2=true:=ab hne;refine st4.cs (c:=16) hcnd (λ c5 h5=>?_) (λ c6 h6=>absurd hc (by rw[c6];decide));refine st4.sq (
   sc Z (oM Z (tp Z))<|
   sc Z (oA Z (tp Z))<|.nil) [] Z [(6,0)] Z ⟨λ _ h=>h,trivial⟩ (λ a7 w7 st7=>?_)
  have st8:=st7.fv (s:=6) 0 [];exact wp_ret (zS (st8.D5 0 Z Z h5))
 have hc:ez .eql x1 x2=false:=cS hne;refine st4.cs (c:=16) hcnd (λ c5 h5=>absurd hc (by rw[c5];decide)) (λ c6 h6=>?_);refine az ?_;refine za ?_;obtain⟨i,rfl⟩:=aC hb1;obtain⟨j,rfl⟩:=aC (cu hb1 hb2);have hij:i<j:=by omega
 have hjn:j<=x0.length:=by omega
 have hlen:(x0.take i++x0.drop j).length=i+(x0.length - j):=by simp;omega
 refine st4.sq (
  sc Z (oM Z (tp Z))<|
  sc Z (nJ Z Cs Z)<|
  sc Z (oA Z (tp Z))<|.nil) [1,2,7] Z [(0,0)] Z ⟨λ _ h=>h,trivial⟩ (λ a9 w9 st9=>?_)
 refine Kc ?_;refine st9.DN (D:=[_,_,_,_,_,_]) Ub 6 [[(0,nS)],[(1,nS)],[(20,0),(21,1)],[(0,nS)],[(2,nS)],[(23,3),(24,4)],[(22,2),(25,5)],[(26,6)]] (by decide +kernel) (by decide) (
  rc Z Z (oM Z (zt Z))<|
  rc Z Z (oM Z (tp Z))<|
  rc Z Z (RP Z vD (tp Z) (tp Z) (by omega) (by omega))<|
  rc Z Z (oM Z (zt Z))<|
  rc Z Z (oM Z (tp Z))<|
  rc Z Z (RQ Z vD (tp Z) (tp Z) (by omega) (by omega) hcap)<|.nil) [7,22,25] Z [(0,0)] Z ⟨λ _ h=>h,trivial⟩ (λ a10 c8 b5=>?_)
 refine b5.K5 (sb:=0) (i:=i) (j:=j) 0 Z Z Hx Z (λ _ h=>h) (tp Z) (tp Z) hij hjn [7] Z [] Z Z (λ d1 a11 d2 a8=>?_);rw[<-hlen] at a8;refine a8.seg 1 (
  sc Z (oA Z (tp Z))<|.nil) [7] Z [(0,0)] Z ⟨λ _ h=>h,trivial⟩ (λ a12 d3 b3=>?_)
 refine Kb ?_;refine za ?_;have hcap2:=(b3.DM (s:=0) Z).2;refine Kc ?_;refine Ka ?_;refine b3.seg 5 (
  sc Z (oM Z (zt Z))<|
  sc Z (oM Z (tp Z))<|
  sc Z (nJ Z Cs Z)<|
  sc Z (oM Z (tp Z))<|
  sc Z (RO Z vD (tp Z) (tp Z) (tp Z) (by omega) (by omega) (by omega))<|.nil) [31] Z [(0,0)] Z ⟨λ _ h=>h,trivial⟩ (λ a13 d4 b6=>?_)
 refine b6.Li (sb:=0) (_xs:=#[]) 0 Z Z Z Hx Uc Z (λ _ h=>h) (tp Z) (by omega) [] Z [] Z Z (λ d5 b7=>?_);refine Kb ?_;refine za ?_;refine b7.sq (
  sc Z (oM Z (tp Z))<|
  sc Z (oA Z (tp Z))<|.nil) [] Z [(6,0)] Z ⟨λ _ h=>h,trivial⟩ (λ a15 d6 b8=>?_)
 have b9:=b8.fv (s:=6) 0 [];exact wp_ret (b9.D5 0 Z Z h6)
section
variable{z1 z2:Value}{F1 F2:Nat}
theorem Rn{m:Machine}{q1:C1 eK×Bx fj}(h1:m.known.o=some q1)(h2:m.load.o=some q2){cs:List Value}(h:(Ow.box (eS (Ow.fw z1 F1 b1 o1) (Ow.fw z2 F2 b2 o2) a4 a5 a6 a7)).ro M G w cs ⟨m⟩):∃ G1 G2:Nat->Prop,(∀ k,G1 k->G k)/\(∀ k,G2 k->G k)/\(∀ k,G1 k->¬ G2 k)/\o1.box.ro M G1 w [fm b1] ⟨q1.2⟩/\o2.box.ro M G2 w [fm b2] ⟨q2.2⟩:=by
 obtain⟨b,C,e,Gr,hc,hh,hG,hn,hs,hr⟩:=h;obtain⟨_,H1,_,_,_,s1,_,_,_,r1⟩:=hr;obtain⟨_,H2,_,_,_,s2,_,_,_,r2⟩:=r1;obtain⟨K1,H3,_,_,k1,s3,d3,_,⟨v1,_,_,f1⟩,r3⟩:=r2;obtain⟨K2,_,_,_,k2,_,_,_,⟨v2,_,_,f2⟩,_⟩:=r3;obtain⟨_,_,p1,_⟩:=f1 q1 h1;obtain⟨_,_,p2,_⟩:=f2 q2 h2;exact⟨K1,K2,λ k hk=>hs k (s1 k (s2 k (k1 k hk))),λ k hk=>hs k (s1 k (s2 k (s3 k (k2 k hk)))),λ k hk hk2=>d3 k hk (k2 k hk2),Ow.nt p1,Ow.nt p2⟩
end
section
variable{a4:Ow (List Int)}{ow:Ow ga}
theorem Sr{r:Runner}{cs:List Value}(h:(Ow.box (fa a2 a3 a4 (Ow.kq bw ow))).ro M G w cs ⟨r⟩):∃ G1:Nat->Prop,(∀ k,G1 k->G k)/\ow.box.ro M G1 w [fm bw] ⟨r.warm.x⟩:=by
 obtain⟨b,C,e,Gr,hc,hh,hG,hn,hs,hr⟩:=h;obtain⟨_,H1,_,_,_,s1,_,_,_,r1⟩:=hr;obtain⟨_,H2,_,_,_,s2,_,_,_,r2⟩:=r1;obtain⟨_,H3,_,_,_,s3,_,_,_,r3⟩:=r2;obtain⟨_,H4,_,_,_,s4,_,_,_,r4⟩:=r3;obtain⟨_,H5,_,_,_,s5,_,_,_,r5⟩:=r4;obtain⟨_,H6,_,_,_,s6,_,_,_,r6⟩:=r5;obtain⟨_,H7,_,_,_,s7,_,_,_,r7⟩:=r6;refine⟨H7,λ k hk=>hs k (s1 k (s2 k (s3 k (s4 k (s5 k (s6 k (s7 k hk))))))),?_⟩;have h8:=Ow.nt r7;obtain⟨C',e',Gr',hc',h9⟩:=r7;exact⟨bw,C',e',Gr',Z,h9⟩
theorem Sx.L4{q:Nat}{x:Runner}{y:Bx ga}{cf3:CF}(h:Sx F N M0 M Gs L O a w)(p p2:Nat)(ho:o.op=.store t (.tmp q) vo)(hvo:eC M (λ s=>(L++eB O).lookup s) vo (fk (fm bw)))(hgd:o.guard=none)(hd:o.dst=none)(ht:fM P t false 1=true)
  (hpl:eC M (λ s=>(L++eB O).lookup s) (.tmp q) (fk (.pointer (some ⟨b,7,none⟩)))) (hvl:(L++eB O).lookup tv=some (eJ ow.box G3 y (fm bw) cf3)) (hs:(L++eB O).lookup sb=some (eJ (Ow.box (fa a2 a3 a4 (Ow.eE (α:=Bx ga)))) G ⟨x⟩ (.pointer (some ⟨b,0,none⟩)) cf)) (hG:∀ b,G b->zj Gs p b) (hG3:∀ b,G3 b->zj Gs p2 b)
  (ks:List Nat) (hk:ff ks L=some L2) (qs:List Nat) (hq:fi L O qs p=some O2) (hq2:O2.all (λ q=>q.2.1 != p2)=true) (hsn:L2.lookup sb=none) (hst:(sb == tv)=false)
  (next:∀ G' w',Sx F N M0 M ((Gs.set p G').set p2 (eA none)) ((tv,fk (fm bw))::L2) ((sb,p,eJ (Ow.box (fa a2 a3 a4 (Ow.kq bw ow))) G' ⟨{ x with warm:=y }⟩ (.pointer (some ⟨b,0,none⟩)) [])::O2) a w'->wpList P ops Q rest a w')(hp:p<Gs.length:=by simp)(hp2:p2<Gs.length:=by simp)(hne:p≠p2:=by decide):wpList P ops Q (o::rest) a w:=by
 obtain⟨e1,⟨cy,hy,hyv⟩,_⟩:=h.st.has tv _ hvl;have hcy:cy=[fm bw]:=by
  obtain⟨b',C,e,Gr,hc,_⟩:=hy;rw[hc] at hyv ⊢;have h6:fm bw=fm b':=hyv;rw[h6]
 subst hcy;have hcv:(a.eval vo).cells.toList=[fm bw]:=by
  have h7:=hvo w a λ s y hs=>h.st.has s y hs
  rw[h7];rfl
 refine h.AH (ow2:=fa a2 a3 a4 (Ow.kq bw ow)) (oy:=Ow.kq bw ow) (y':=y) (x2:={ x with warm:=y }) p ho hgd hd ht hp (hpl w a λ s y hs=>h.st.has s y hs) hcv (Ow.pP hy Z) hs hG (λ b hb hb2=>h.ob.apart p p2 b hne hb2 (hG3 b hb)) (by decide) (λ{M G1 G3 w cells} h1 h2 hdj=>?_) ks hk qs hq λ w' st hr=>?_
 .obtain⟨A1,H1,c1,d1,t1,s1,j1,e1,k1,r1⟩:=h1;obtain⟨A2,H2,c2,d2,t2,s2,j2,e2,k2,r2⟩:=r1;obtain⟨A3,H3,c3,d3,t3,s3,j3,e3,k3,r3⟩:=r2;obtain⟨A4,H4,c4,d4,t4,s4,j4,e4,k4,r4⟩:=r3;obtain⟨A5,H5,c5,d5,t5,s5,j5,e5,k5,r5⟩:=r4;obtain⟨A6,H6,c6,d6,t6,s6,j6,e6,k6,r6⟩:=r5;obtain⟨A7,H7,c7,d7,t7,s7,j7,e7,k7,r7⟩:=r6;have l1:c1.length=1:=ey.len k1;have l2:c2.length=1:=ey.len k2;have l3:c3.length=1:=a2.len k3;have l4:c4.length=1:=a3.len k4;have l5:c5.length=1:=a4.len k5;have l6:c6.length=1:=ey.len k6;have l7:c7.length=1:=ey.len k7;have l8:=ey.len r7;have ec:cells=(c1++(c2++(c3++(c4++(c5++(c6++c7))))))++d7:=by rw[e1,e2,e3,e4,e5,e6,e7];simp
  have et:cells.take 7=c1++(c2++(c3++(c4++(c5++(c6++c7))))):=by rw[ec];exact di (by simp[l1,l2,l3,l4,l5,l6,l7])
  have ed:cells.drop (7+ey.size (Bx ga))=[]:=bE (by rw[ec];simp[l1,l2,l3,l4,l5,l6,l7,l8];exact al _);rw[et,ed,aO];have u:=λ k hk=>s2 k (s3 k (s4 k (s5 k (s6 k (s7 k hk)))))
  have g3:∀ {k},A3 k->G1 k:=λ hk=>s1 _ (s2 _ (t3 _ hk))
  have g4:∀ {k},A4 k->G1 k:=λ hk=>s1 _ (s2 _ (s3 _ (t4 _ hk)))
  have g5:∀ {k},A5 k->G1 k:=λ hk=>s1 _ (s2 _ (s3 _ (s4 _ (t5 _ hk))))
  have:=fa.mk (x:={ x with warm:=y }) k1 k2 k3 k4 k5 k6 k7 h2 (λ b hb h'=>h'.elim (λ h'=>j3 b hb (t4 b h')) λ h'=>h'.elim (λ h'=>j3 b hb (s4 b (t5 b h'))) λ h'=>hdj b (g3 hb) h') (λ b hb h'=>h'.elim (λ h'=>j4 b hb (t5 b h')) λ h'=>hdj b (g4 hb) h') (λ b hb h'=>hdj b (g5 hb) h');simp at this;have e9:(c1++(c2++(c3++(c4++(c5++(c6++c7))))))++[fm bw]=c1++(c2++(c3++(c4++(c5++(c6++(c7++[fm bw])))))):=by simp
  rw[e9];exact(fa _ _ _ _).more this λ b hb=>hb.elim (λ h=>.inl (g3 h)) λ hb=>hb.elim (λ h=>.inl (g4 h)) λ hb=>hb.elim (λ h=>.inl (g5 h)) .inr
 .have k1:=(st.lI (y:=fk _) e1).mJ hp hp2 hne hq2;have ej:J3 Gs p p2=(Gs.set p (λ b=>zj Gs p b\/zj Gs p2 b)).set p2 _:=rfl;rw[ej] at k1;refine next _ w' (k1.gu (by simp only[af,hst];exact hsn) ⟨hr.1,?_,λ q hq _=>by cases hq⟩ λ c hc=>?_)
  .obtain⟨cs,h1,h2⟩:=hr.2.1;exact⟨cs,(Ow.box _).more h1 λ k hk=>hk.imp (hG k) (hG3 k),h2⟩
  .rw[zq (br hne),zf hp];exact hc
end
def uE(ops:Array Oper):Bool:=ops.all λ o=>o.guard.isNone&&o.after.all λ e=>decide (e.on+1<ops.size)
section
theorem CM(h:uE ops=true)(ho:ops[i]?=some o):o.guard=none/\∀ e∈o.after,e.on+1<ops.size:=by
 have:=dB.1 h o (Array.mem_of_getElem? ho);simp only[ac,Option.isNone_iff_eq_none] at this;exact⟨this.1,λ e he=>oD (dB.1 this.2 e he)⟩
theorem vQ(x:Bool)(h:i<l.size):(l.push true).getD i x=l.getD i x:=by
 simp[dT,h,Nat.ne_of_lt h]
theorem B7(h:i+1<ops.size):ops.pop[i]?=ops[i]?:=by
 rw[Array.getElem?_pop];simp;omega
theorem Dx(hc:uE ops=true)(hl:l.size+1=ops.size)(i:Nat):i∈Region.ready .any ops (l.push true) ↔ i∈Region.ready .any ops.pop l:=by
 rw[cH,cH];constructor
 .rintro ⟨h1,o,ho,h2⟩
  have hi:i<l.size:=by
   rcases aT i l.size with h | h
   .exact h
   .rcases aT i (l.size+1) with h' | h'
    .have:i=l.size:=by omega
     subst this;simp at h1
    .simp[bQ (show(l.push true).size<=i by simpa using h')] at h1
  refine⟨by rw[<-vQ true hi];exact h1,o,by rw[B7 (by omega)];exact ho,λ e he hb=>?_⟩;rw[<-vQ false (by have:=(CM hc ho).2 e he;omega)];exact h2 e he hb
 .rintro ⟨h1,o,ho,h2⟩
  have hi:i<l.size:=by
   rcases aT i l.size with h | h
   .exact h
   .simp[bQ h] at h1
  rw[B7 (by omega)] at ho;refine⟨by rw[vQ true hi];exact h1,o,ho,λ e he hb=>?_⟩;rw[vQ false (by have:=(CM hc ho).2 e he;omega)];exact h2 e he hb
theorem R5(h:i<l.size):(l.push true).setIfInBounds i true=(l.setIfInBounds i true).push true:=by
 apply Array.ext_getElem?;intro j;rw[dU,dT,dT,dU];by_cases h1:i=j
 .subst h1;simp[h,Nat.ne_of_lt h,Nat.lt_succ_of_lt h]
 .simp[h1]
theorem TY(hc:uE ops=true):∀ (f:Nat) (l:Array Bool) (a:Act) (w:World),l.size+1=ops.size->wpAnyH P .any ops.pop Q S f l a w->wpAnyH P .any ops Q S f (l.push true) a w:=by
 intro f
 induction f with
 |zero=>intro l a w hl h;exact⟨cP.2 λ i hi=>(by have:=(Dx hc hl i).1 hi;rw[h.1] at this;cases this),h.2⟩
 |succ f ih=>
  intro l a w hl h;refine⟨λ h0=>h.1 (cP.2 λ i hi=>(by have:=(Dx hc hl i).2 hi;rw[h0] at this;cases this)),λ i hi=>?_⟩;have hi':=(Dx hc hl i).1 hi;have h2:=h.2 i hi';obtain⟨_,o,ho,_⟩:=cH.1 hi;obtain⟨h3,_,ho',_⟩:=cH.1 hi';have hil:i<l.size:=by
   rcases aT i l.size with h | h
   .exact h
   .simp[bQ h] at h3
  have hp:=B7 (ops:=ops) (i:=i) (by omega);unfold wpOp at h2 ⊢;rw[hp,ho] at h2;rw[ho];have hw:=(CM hc ho).1;simp[Ym hw] at h2 ⊢;refine h2.imp (Oper.wp_mono λ a' w' hK=>⟨hK.1,?_⟩) id;rw[R5 hil];exact ih _ _ _ (by simpa using hl) hK.2
theorem R3{f:Nat}(next:wpAnyH P .any ops.pop Q S f l a w)(hc:uE ops=true:=by decide +kernel)(hl:listed=l.push true:=by decide +kernel)(hn:l.size+1=ops.size:=by decide +kernel):wpAnyH P .any ops Q S f listed a w:=by
 subst hl;exact TY hc _ _ _ _ hn next
end
section
variable{f:Nat}
theorem Sx.Mj(h:Sx F N M0 M Gs L O a w)(ho:ops[i]?=some o)(hh:fH o N=some d)
  (hQ:∀ c a w v,Q (.panic c) (a.put o.dst v) w->Q (.panic c) a w) (hS:S w) (hop:o.op=.move q) (hq:eC M (λ s=>(L++eB O).lookup s) q y) (hn:y.nb=true)
  (next:∀ a',Sx F N M0 M Gs ((d,y)::L) O a' w->wpAnyH P .any ops Q S f (listed.setIfInBounds i true) a' w)(hs:Region.noSelect ops=true:=by decide +kernel)(hf:Region.free .any ops listed i=true:=by decide +kernel)(hr:(Region.ready .any ops listed).contains i=true:=by decide +kernel):wpAnyH P .any ops Q S (f+1) listed a w:=
 h.kX ho hh hs hf hr (λ c a w=>hQ c a w _) hS (vE hop Z) (hq w a λ s y hy=>h.st.has s y hy) hn next
end
theorem Sd{fn:Func}{t u:Tmp}{A:Addr}{x:Value}(h:fn.results=#[.tmp u,.cell t ty])(ha:tmps.getD t undef=.pointer (some A))(hl:(loadVar ty A).run P w=.ok x w):(results fn tmps).run P w=.ok (.tuple #[tmps.getD u undef,x]) w:=by
 simp[results,h];simp at ha;simp[ha,asAddr,hl]
section
variable{fn:Func}
variable{α β γ:Type}[ey α][ey β][ey γ]
theorem Sx.AE{oo:Ow α}{t u:Nat}{x xr:α}{y:β}{y2:γ}{r:β×γ}(h:Sx (eG.ft w0 G) N M0 M Gs L O a w)(p:Nat)(ht:fM P ty (ey.agg β) (ey.size β)=true)
  (hm:some (x,y,y2)=some (xr,r))(hr:fn.results=#[.cell t ty,.tmp u]:=by rfl)(hl:(L++eB O).lookup t=some (eY g 0 y):=by rfl)(hs:(L++eB O).lookup s=some (eJ oo G' x v0 cf):=by rfl)(hl2:(L++eB O).lookup u=some (dt y2):=by rfl)(hG:∀ b,G' b->zj Gs p b:=by exact λ _ h=>h):bodyPost P fn (ko M0 w0 G v0 oo xr (.eE (fZ [dt r.1,dt r.2]))) .ret a w:=by
 injection hm with hm;injection hm with h1 h2;subst h1;subst h2;obtain⟨k1,⟨cs,k2,k3⟩,_⟩:=h.st.has s _ hs;have hM:∀ k,k<w.heap.size->(M0 k\/G' k)\/noB k->M k:=λ k _ hk=>hk.elim (λ hk=>hk.elim (h.ob.sub k) λ hk=>(h.ob.at_ p k (hG k hk)).2.1) λ h=>h.elim
 obtain⟨b,_,hv,C,e,cy,hb,hc,hro⟩:=h.st.has t _ hl;have hc':∀ j u,cy[j]?=some u->w.cell? ⟨b,0+j,none⟩=some u:=λ j u hj=>by
  have:=hc j u hj;simp at this ⊢;simp[World.cell?,hb,this]
 have hld:=yA ht (ey.len hro) ey.one hc';have hvt:=hv;exact⟨h.st.defers,_,vL hr hvt hld,_,G',noB,Z,h.st.fr,λ b hb=>(h.ob.at_ p b (hG b hb)).1,λ _ h=>h.elim,λ _ _ h=>h,λ b hb=>hb.elim (λ hb=>h.st.mok b (h.ob.at_ p b (hG b hb)).2.1) λ h=>h.elim,
  ⟨cs,oo.weak k2 hM,k3⟩,⟨[_,_],Z,.cons ⟨cy,ey.weak hro hM,Z⟩ (.cons ((dt y2).weak (h.st.has u _ hl2) hM) .nil),λ q hq=>by
  simp at hq;rcases hq with rfl | rfl <;> rfl⟩,Z⟩
end
section
variable{β:Type}[ey β]
theorem Sx.L6{oy:Ow β}{x:Np β}{y:Bx β}(h:Sx F N M0 M Gs L O a w)(p p2:Nat)(ho:o.op=.store t (.tmp sb) (.tmp tv))(hgd:o.guard=none)(hd:o.dst=none)(ht:fM P t false 1=true)
  (hs:(L++eB O).lookup sb=some (eJ (Ow.box (Ow.eE (α:=Np β))) G ⟨x⟩ (.pointer (some ⟨b,0,none⟩)) cf)) (hvl:(L++eB O).lookup tv=some (eH oy.box G3 y)) (hG:∀ b,G b->zj Gs p b) (hG3:∀ b,G3 b->zj Gs p2 b)
  (ks:List Nat) (hk:ff ks L=some L2) (qs:List Nat) (hq:fi L O qs p=some O2) (hq2:O2.all (λ q=>q.2.1 != p2)=true) (hsn:L2.lookup sb=none)
  (next:∀ G' w',Sx F N M0 M ((Gs.set p G').set p2 (eA none)) L2 ((sb,p,eJ oy.box.box G' ⟨y⟩ (.pointer (some ⟨b,0,none⟩)) [])::O2) a w'->wpList P ops Q rest a w')(hp:p<Gs.length:=by simp)(hp2:p2<Gs.length:=by simp)(hne:p≠p2:=by decide):wpList P ops Q (o::rest) a w:=by
 obtain⟨h1,⟨cs,⟨b',C,e,Gr,hc,hh,hGb,hn,hsub,hro⟩,h3⟩,_⟩:=h.st.has sb _ hs;have hb:b'=b:=by
  rw[hc] at h3;have h3:=h3;injection h3 with h3;injection h3 with h3;injection h3 with h3;exact h3.symm
 subst hb;have hy:=yy (h.st.has tv _ hvl);have hcl:(Act.at a tv).cells.toList.length=1:=oy.box.len hy;have hCl:C.toList.length=1:=(Ow.eE).len hro;have hCs:C.size=1:=by rw[<-aY];exact hCl
 have hone:=oy.box.one hy;have hob:=hG b' hGb;have hMb:=(h.ob.at_ p b' hob).2.1;have hdj:=λ b h3 hb=>h.ob.apart p p2 b hne hb (hG3 b h3)
 have hrun:=xI (v:=a.eval (.tmp tv)) (cs:=(Act.at a tv).cells.toList) (by rw[hcl];exact ht) Z hh (by rw[hcl,hCs];exact al _) hone;generalize hC':(C.toList.take 0++(Act.at a tv).cells.toList++C.toList.drop _).toArray=C' at hrun;have hw':(w.setRow b' C').heap[b']?=some _:=ck w b' C C' e _ hh;have hsame:∀ k,k≠b'->(w.setRow b' C').heap[k]?=w.heap[k]?:=λ k hk=>cL w b' k _ hk
 have hgr:Grown (zj Gs p) w (w.setRow b' C'):=(Grown.lJ (y8)).mono λ k (hk:some b'=some k)=>by
  injection hk with hk;rw[<-hk];exact hob
 have nb3:=λ h3=>hdj b' h3 hob
 have hL:kA M G3 w _:=λ k _ hm=>hsame k λ e=>hm.elim (λ hm=>hm (e ▸ hMb)) λ h2=>nb3 (e ▸ h2)
 refine av hgd λ K hK=>fb.wp (fb.mS (w':=w.setRow b' C') ?_ ?_)
 .unfold execOp;rw[ho];have hpv':a.eval (.tmp sb)=.pointer _:=h1;simp[Instr.storeAt,Instr.sureAddr,hpv',hrun]
 .rw[hd];have st:=h.kE hp hgr hk hq;have k1:=st.mJ hp hp2 hne hq2;have ej:J3 Gs p p2=(Gs.set p (λ b=>zj Gs p b\/zj Gs p2 b)).set p2 _:=rfl;rw[ej] at k1;refine hK _ _ (next _ _ (k1.gu hsn ⟨h1,⟨_,⟨b',C',e,G3,Z,hw',.inl hob,nb3,λ k hk=>.inr (hG3 k hk),?_⟩,Z⟩,λ q hq _=>by cases hq⟩ λ c hc=>by rw[zq (br hne),zf hp];exact hc));have e1:C'.toList=(Act.at a tv).cells.toList:=by rw[<-hC',cg,ca,bb,bE (by omega),aO]
  show oy.box.ro M _ _ C'.toList y;rw[e1];exact oy.box.stable hy hL
end
theorem Se{fn:Func}{t u v:Tmp}(h:fn.results=#[.tmp t,.tmp u,.tmp v]):(results fn tmps).run P w=.ok (.tuple #[tmps.getD t undef,tmps.getD u undef,tmps.getD v undef]) w:=by
 simp[results,h]
section
variable{α β γ:Type}[ey α][ey β][ey γ]
def Rd.uq(y:Dt)(o:Ow α)(x:α)(z:Dt):Rd where
 rd M G w v:=∃ u1 u2 u3,v=.tuple #[u1,u2,u3]/\(eH o G x).rd M w u2/\(y.rd M w u1/\y.nb=true)/\z.rd M w u3/\z.nb=true
 stable:=λ⟨u1,u2,u3,hv,h1,h2,h3⟩ e=>⟨u1,u2,u3,hv,(eH o _ x).stable h1 e,⟨y.stable h2.1 (λ k hk hm=>e k hk (hm.imp id λ ho=>(y.nob h2.2 k ho).elim)),h2.2⟩,z.stable h3.1 (λ k hk hm=>e k hk (hm.imp id λ ho=>(z.nob h3.2 k ho).elim)),h3.2⟩
 weak:=λ⟨u1,u2,u3,hv,h1,h2,h3⟩ e=>⟨u1,u2,u3,hv,(eH o _ x).weak h1 e,⟨y.weak h2.1 e,h2.2⟩,z.weak h3.1 e,h3.2⟩
 more:=λ⟨u1,u2,u3,hv,⟨cs,h1,h1'⟩,h2,h3⟩ e=>⟨u1,u2,u3,hv,⟨cs,o.more h1 e,h1'⟩,h2,h3⟩
def uF(y z:Dt):Dt where
 rd M w v:=∃ u1 u2 u3,v=.tuple #[u1,u2,u3]/\(y.rd M w u1/\y.nb=true)/\z.rd M w u3/\z.nb=true
 own:=noB
 nb:=true
 nob _ _ h:=h
 stable:=λ⟨u1,u2,u3,hv,h2,h3⟩ e=>⟨u1,u2,u3,hv,⟨y.stable h2.1 (λ k hk hm=>e k hk (hm.elim .inl λ ho=>(y.nob h2.2 k ho).elim)),h2.2⟩,z.stable h3.1 (λ k hk hm=>e k hk (hm.elim .inl λ ho=>(z.nob h3.2 k ho).elim)),h3.2⟩
 weak:=λ⟨u1,u2,u3,hv,h2,h3⟩ e=>⟨u1,u2,u3,hv,⟨y.weak h2.1 e,h2.2⟩,z.weak h3.1 e,h3.2⟩
variable{fn:Func}{T:Prop}{look:Nat->Option Dt}
theorem Sx.D3{ow:Ow α}{t u v:Nat}{x:α}{y:β}{z:γ}{r:β×α×γ}(h:Sx (eG.ft w0 G0) N M0 M Gs L O a w)(p:Nat)(hr:fn.results=#[.tmp t,.tmp u,.tmp v])(hl:(L++eB O).lookup u=some (eH ow G x))(hl2:(L++eB O).lookup t=some (dt y))(hl3:(L++eB O).lookup v=some (dt z))(hm:some (y,x,z)=some r)(hG:∀ b,G b->zj Gs p b:=by exact λ _ h=>h):
  bodyPost P fn (ra M0 w0 G0 (.uq (dt r.1) ow r.2.1 (dt r.2.2))) .ret a w:=by
 injection hm with hm;subst hm;have hM:∀ k,k<w.heap.size->M0 k\/G k->M k:=λ k _ hk=>hk.elim (h.ob.sub k) λ hk=>(h.ob.at_ p k (hG k hk)).2.1
 exact⟨h.st.defers,_,Se hr,_,G,Z,h.st.fr,λ k hk=>(h.ob.at_ p k (hG k hk)).1,λ k hk=>h.st.mok k (h.ob.at_ p k (hG k hk)).2.1,_,_,_,Z,(eH ow G x).weak (h.st.has u _ hl) hM,⟨(dt y).weak (h.st.has t _ hl2) hM,Z⟩,(dt z).weak (h.st.has v _ hl3) hM,Z⟩
end
section
variable{look:Nat->Option Dt}{T:Prop}
variable{α β γ:Type}[ey α][ey β][ey γ]
variable{oy:Ow β}
theorem Sx.re{A B:Dt}(h:Sx F N M0 M Gs L ((s,p,A)::O) a w)(hAB:A.rd M w (Act.at a s)->B.rd M w (Act.at a s))(ho:∀ b,B.own b->zj Gs p b):Sx F N M0 M Gs L ((s,p,B)::O) a w:=by
 refine⟨⟨h.st.fr,h.st.size,h.st.defers,h.st.mok,λ t z hz=>?_⟩,h.ob,h.no,⟨ho,h.ow.2⟩⟩;rcases yw hz with h1 | ⟨h0,h1⟩
 .exact h.st.has t z (yN h1)
 .simp only[eB,af] at h1;cases h2:t == s with
  |true=>
   simp only[h2] at h1;injection h1 with h1;subst h1;have e:t=s:=by simpa using h2
   subst e;exact hAB (h.st.has t A (by rw[yi h0];simp[eB]))
  |false=>simp only[h2] at h1;exact h.st.has t z (by rw[yi h0];simp only[eB,af,h2];exact h1)
theorem Sx.DW{ow:Ow α}{o1:Ow γ}{off2:Nat}{x:α}{y:Bx γ}{upd:Bx γ->α}(h:Sx F N M0 M Gs L O a w)(p p2:Nat)(hP:PH ow x v0 cf (Ow.kq b2 o1) b off y upd)(hm:(true,b,off,fm b2)∈cf)(hm2:(true,b2,off2,u2)∈cf)
  (hu:(L++eB O).lookup s=some (fk (fm b2)))    (hs:(L++eB O).lookup sb=some (eJ ow G x v0 cf)) 
  (ks:List Nat) (hk:ff ks L=some L2) (qs:List Nat) (hq:fi L O qs p=some O2) (hq2:O2.all (λ q=>q.2.1 != p&&q.2.1 != p2)=true) (hsn:L2.lookup sb=none) (hdn:L2.lookup s=none) 
  (next:∀ G2 G1,Sx F N M0 M ((Gs.set p G2).set p2 G1) L2 ((s,p2,eJ o1.box G1 ⟨y.x⟩ (fm b2) [(true,b2,off2,u2)])::(sb,p,nz ow (Ow.kq b2 o1) G2 v0 b off (fm b2) upd)::O2) a w->T)(hp:p<Gs.length:=by simp)(hp2:p2<Gs.length:=by simp)(hne:p≠p2:=by decide)(hG:∀ b,G b->zj Gs p b:=by exact λ _ h=>h)(hss:sb≠s:=by decide):T:=by
 have hf:=(h.st.has sb _ hs).2.2 _ hm2 Z;refine h.tZ p p2 hP hm Z (zR Z Z) Z hu hp hp2 hne hs hG ks hk qs hq hq2 hsn hdn hss λ G2 G1 st=>next G2 G1 (st.re (λ⟨e,⟨cs,k1,k2⟩,_⟩=>?_) λ b hb=>st.ow.1 b hb)
 obtain⟨C,e3,Gr,k3⟩:=id k1;exact⟨e,⟨cs,Ow.nt k1,k2⟩,λ q hq _=>by cases aH.1 hq;exact⟨k3.2.2.1,hf.2.1,hf.2.2⟩⟩
theorem Sx.Ef{o1:Ow γ}{y:Bx γ}(h:Sx F N M0 M Gs L O a w)(p:Nat)(hs:(L++eB O).lookup s=some (eJ o1.box G y (fm b) cf))(hn:L.lookup s=none)(qs:List Nat)(hq:fi L O qs p=some O2)(hG:∀ b,G b->zj Gs p b:=by exact λ _ h=>h):Sx F N M0 M Gs L ((s,p,eJ (Ow.kq b o1) G y (fm b) cf)::O2) a w:=by
 obtain⟨h1,⟨cs,h2,h3⟩,h4⟩:=h.st.has s _ hs;refine(h.drop hq).gu hn ⟨h1,⟨cs,Ow.pP h2 ?_,h3⟩,h4⟩ hG;obtain⟨b',C,e,Gr,hc,_⟩:=h2;rw[hc] at h3 ⊢;have h6:fm b=fm b':=h3;exact(bu (λ z=>[z]) h6).symm
theorem Gy{ow:Ow α}{upd:β->α}(h:look s=some (nz ow oy G v0 b off u upd)):eC M look (.tmp s) (fk v0):=λ _ _ hl=>(hl s _ h).1.1
theorem Hv{ow:Ow α}{upd:β->α}(ho:o.op=.load t q)(ht:fM P t false 1=true)(hq:eC M look q (fk (.pointer (some ⟨b,off,none⟩))))(hs:look sb=some (nz ow oy G v0 b off u upd)):eP P M look o (fk u):=
 zz λ a w _ hl=>⟨u,pC (S:=λ w'=>w'.cell? ⟨b,off,none⟩=some u) ho ht (hq w a hl) (λ _ h=>h) w (hl sb _ hs).2,Z⟩
end
def Bb(ops:Array Oper)(k:Nat):Bool:=(List.range ops.size).all λ i=>if i<k then(ops[i]?).all (λ o=>o.guard.isNone) else(List.range k).all λ j=>((kO ops).getD i []).contains j
def QP(P:Program)(ops:Array Oper)(Q:Exit->Act->World->Prop)(k:Nat):Exit->Act->World->Prop
 | .normal,a,w=>wpAnyH P .any ops Q (λ _=>True) (ops.size - k) (QI ops.size (2 ^ k - 1)) a w
 | e,a,w=>Q e a w
section
variable{k2:Nat}
theorem EJ(h:Bb ops k=true)(ho:ops[i]?=some o):(i<k->o.guard=none)/\(k<=i->∀ j,j<k->j∈(kO ops).getD i []):=by
 have:=am.1 h i (aA.2 (aB.1 ho).1);refine⟨λ hi=>?_,λ hi j hj=>?_⟩
 .rw[Ke hi,ho] at this;simpa using this
 .rw[Kf (by omega)] at this;exact bH.1 (am.1 this j (aA.2 hj))
theorem take_at(h:i<k):(ops.toList.take k).toArray[i]?=ops[i]?:=by
 rw[cw,aw,Ke h];simp
theorem TZ(hc:jA ops k2 (kO ops) []=true)(hp:Bb ops k=true)(hkn:k<=ops.size):∀ (f:Nat) (l L:Array Bool) (a:Act) (w:World),left k l=f->l.size=k->L.size=ops.size->(∀ i,i<k->L.getD i false=l.getD i false)->(∀ i,k<=i->L.getD i false=false)->nO (kO ops) ops.size L->
  wpAnyH P .any (ops.toList.take k).toArray (QP P ops Q k) (λ _=>True) f l a w->wpAnyH P .any ops Q (λ _=>True) (f+(ops.size - k)) L a w:=by
 intro f
 induction f with
 |zero=>
  intro l L a w hf hl hL h1 h2 _ h;have hall:∀ i,i<k->l.getD i false=true:=λ i hi=>by
   have h3:i ∉ (List.range k).filter λ i=>!l.getD i false:=by
    rw[au hf];intro h;cases h
   rw[cQ] at h3;have:=λ hx=>h3 ⟨aA.2 hi,hx⟩
   simpa using this
  have e:L=QI ops.size (2 ^ k - 1):=by
   apply Array.ext
   .simp[QI,hL]
   .intro i hi _;have:L.getD i false=decide (i<k):=by
     by_cases hik:i<k
     .rw[h1 i hik,hall i hik];simp[hik]
     .rw[h2 i (by omega)];simp[hik]
    simp[QI];rw[<-this];simp[hi]
  rw[aD,e];exact h.2
 |succ f ih=>
  intro l L a w hf hl hL h1 h2 hcl h;obtain⟨p,hpk,hup⟩:∃ p,p<k/\l.getD p false=false:=by
   cases hx:(List.range k).filter λ i=>!l.getD i false with
   | nil=>unfold left at hf;rw[hx] at hf;cases hf
   |cons p r=>
    have:p∈(List.range k).filter λ i=>!l.getD i false:=by rw[hx];exact bF ..
    rw[cQ] at this;exact⟨p,aA.1 this.1,by simpa using this.2⟩
  rw[show f+1+_=(f+(ops.size - k))+1 by omega];refine⟨λ hnil=>absurd hnil (IQ hc hL (p:=p) (by omega) (by rw[h1 p hpk];exact hup)),λ i hi=>?_⟩;obtain⟨hilt,hiu,hicl⟩:=I8 hc hcl hi;obtain⟨_,o,ho,hall⟩:=cH.1 hi;have hik:i<k:=by
   rcases aT i k with hx | hx
   .exact hx
   .have:=hicl p ((EJ hp ho).2 hx p hpk);rw[h1 p hpk,hup] at this;cases this
  have hiu':L.getD i false=false:=by rw[Y8 (by omega) false true];exact hiu
  have hiK:i∈Region.ready .any (ops.toList.take k).toArray l:=cH.2 ⟨by rw[Y8 (by omega) true false,<-h1 i hik];exact hiu',o,by rw[take_at hik];exact ho,λ e he hb=>by
   rw[<-h1 e.on (by have:=(vU hc ho).1 e he hb;omega)];exact hall e he hb⟩
  have hst:=h.2 i hiK;unfold wpOp at hst ⊢;rw[take_at hik,ho] at hst;rw[ho];simp only[Ym ((EJ hp ho).1 hik),bv] at hst ⊢;have hn:∀ a' w',(True/\wpAnyH P .any (ops.toList.take k).toArray _ (λ _=>True) f (l.setIfInBounds i true) a' w')->True/\wpAnyH P .any ops Q (λ _=>True) _ _ a' w':=λ a' w' hK=>by
   refine⟨trivial,ih _ _ a' w' ?_ (by simpa using hl) (by simpa using hL) (λ j hj=>?_) (λ j hj=>?_) (CX hc hL hcl hi) hK.2⟩
   .have:=vV hik hl (by rw[<-h1 i hik];exact hiu');omega
   .by_cases hij:i=j
    .subst hij;rw[xk (by omega),xk (by omega)]
    .rw[zZ hij,zZ hij];exact h1 j hj
   .rw[zZ (by omega)];exact h2 j hj
  rcases hst with h5 | h5
  .exact .inl (Oper.AM hn (λ⟨a,w,h⟩=>⟨a,w,h⟩) h5)
  .obtain⟨a1,w1,h6⟩:=h5.2;exact .inr ⟨h5.1,a1,w1,h6⟩
theorem sR{n:Nat}:(Array.replicate n false).getD i false=false:=by
 simp only[ce,Array.getElem?_replicate];split <;> rfl
theorem GG(h:wpAnyH P .any ops Q (λ _=>True) (ops.size - k) (QI ops.size (2 ^ k - 1)) a w):wpList P (ops.toList.take k).toArray (QP P ops Q k) [] a w:=h
end
section
theorem Sx.pre{id:Nat}(h:Sx F N M0 M Gs L O a w)(hm:P.follows .mixedOrders=true)(k k2:Nat)(next:∀ w',Sx F N M0 M Gs L O a w'->wpAnyH P .any (ops.toList.take k).toArray (QP P ops Q k) (λ _=>True) k (Array.replicate k false) a w')(hc:jA ops k2 (kO ops) []=true:=by decide +kernel)(hp:Bb ops k=true:=by decide +kernel)(hkn:k<=ops.size:=by decide):(Code.region id ops true).wp P Q a w:=
 h.held (λ _=>True) hm λ w' st=>by
  have:=TZ hc hp hkn k _ (Array.replicate ops.size false) a w' (by unfold left;rw[List.filter_eq_self.2 (λ i _=>by rw[sR];rfl)];exact bo) (by simp) (by simp) (λ i _=>by rw[sR,sR]) (λ i _=>sR) (λ i _ hl=>by rw[sR] at hl;cases hl) (next w' st);rwa[show k+_=ops.size by omega] at this
end
section
variable{f:Nat}
variable{α β:Type}[ey α][ey β]
variable{oo:Ow α}
theorem Sx.ur{X:Dt}(h:Sx F N M0 M Gs L O a w)(ho:ops[i]?=some o)(hh:fH o N=some d)(hs:Region.noSelect ops=true)(hf:Region.free .any ops listed i=true)(hr:(Region.ready .any ops listed).contains i=true)
  (hQ:∀ c a w v,Q (.panic c) (a.put o.dst v) w->Q (.panic c) a w) (hS:S w) (hy:∀ w,S w->(execOp a.eval o).run P w=.ok (.value v) w) (hX:X.rd M w v) (hG:∀ b,X.own b->zj Gs p b) (hdn:L.lookup d=none)
  (next:∀ a',Sx F N M0 M Gs L ((d,p,X)::O) a' w->wpAnyH P .any ops Q S f (listed.setIfInBounds i true) a' w):wpAnyH P .any ops Q S (f+1) listed a w:=
 wpAnyH_take ho hs hf hr (λ c a w=>hQ c a w _) (.inl ⟨Ym (zK hh).1,hy⟩) hS (by rw[(zK hh).2.1];exact next _ (h.iG (zK hh).2.2 hdn hX hG))
theorem Hy(ho:o.op=.assign q)(hv:a.eval q=v):∀ w,S w->(execOp a.eval o).run P w=.ok (.value v) w:=λ w _=>by
 unfold execOp;rw[ho];simp[hv]
theorem ta{j:Nat}(ho:o.op=.extract q j)(hv:a.eval q=.tuple vs)(hj:vs[j]?=some v):∀ w,S w->(execOp a.eval o).run P w=.ok (.value v) w:=λ w _=>by
 unfold execOp;rw[ho];simp[hv,Instr.extract,hj]
theorem Sx.Ea(h:Sx F N M0 M Gs L O a w)(ho:ops[i]?=some o)(hh:fH o N=some d)
    (hop:o.op=.assign q) (hq:eC M (λ s=>(L++eB O).lookup s) q y) (hn:y.nb=true)
  (next:∀ a',Sx F N M0 M Gs ((d,y)::L) O a' w->wpAnyH P .any ops Q S f (listed.setIfInBounds i true) a' w)(hs:Region.noSelect ops=true:=by decide +kernel)(hf:Region.free .any ops listed i=true:=by decide +kernel)(hr:(Region.ready .any ops listed).contains i=true:=by decide +kernel)(hQ:∀ c a w v,Q (.panic c) (a.put o.dst v) w->Q (.panic c) a w:=by exact λ _ _ _ _ h=>h)(hS:S w:=by trivial):wpAnyH P .any ops Q S (f+1) listed a w:=
 h.kX ho hh hs hf hr (λ c a w=>hQ c a w _) hS (Hy hop Z) (hq w a λ s y hy=>h.st.has s y hy) hn next
theorem Sx.Mg{X:Dt}(h:Sx F N M0 M Gs L O a w)(p:Nat)(ho:ops[i]?=some o)(hh:fH o N=some d)
  (hQ:∀ c a w v,Q (.panic c) (a.put o.dst v) w->Q (.panic c) a w) (hS:S w) (hop:o.op=.assign (.tmp sb)) (hl:(L++eB O).lookup sb=some X) (hG:∀ b,X.own b->zj Gs p b) (qs:List Nat) (hqs:fi L O qs p=some O2) (hdn:L.lookup d=none)
  (next:∀ a',Sx F N M0 M Gs L ((d,p,X)::O2) a' w->wpAnyH P .any ops Q S f (listed.setIfInBounds i true) a' w)(hs:Region.noSelect ops=true:=by decide +kernel)(hf:Region.free .any ops listed i=true:=by decide +kernel)(hr:(Region.ready .any ops listed).contains i=true:=by decide +kernel):wpAnyH P .any ops Q S (f+1) listed a w:=
 (h.drop hqs).ur ho hh hs hf hr hQ hS (Hy hop Z) (h.st.has sb _ hl) hG hdn next
theorem Sx.Ee{X:Dt}(h:Sx F N M0 M Gs L O a w)(p:Nat)(ho:ops[i]?=some o)(hh:fH o N=some d)(hf:Region.free .any ops listed i=true)(hr:(Region.ready .any ops listed).contains i=true)
   (hS:S w) (hop:o.op=.move (.tmp sb)) (hl:(L++eB O).lookup sb=some X)  (qs:List Nat) (hqs:fi L O qs p=some O2) (hdn:L.lookup d=none)
  (next:∀ a',Sx F N M0 M Gs L ((d,p,X)::O2) a' w->wpAnyH P .any ops Q S f (listed.setIfInBounds i true) a' w)(hs:Region.noSelect ops=true:=by decide +kernel)(hQ:∀ c a w v,Q (.panic c) (a.put o.dst v) w->Q (.panic c) a w:=by exact λ _ _ _ _ h=>h)(hG:∀ b,X.own b->zj Gs p b:=by exact λ _ h=>h):wpAnyH P .any ops Q S (f+1) listed a w:=
 (h.drop hqs).ur ho hh hs hf hr hQ hS (vE hop Z) (h.st.has sb _ hl) hG hdn next
theorem Sx.Mc{x:α}{z:Dt}(h:Sx F N M0 M Gs L O a w)(ho:ops[i]?=some o)(hh:fH o N=some d)
  (hQ:∀ c a w v,Q (.panic c) (a.put o.dst v) w->Q (.panic c) a w) (hS:S w) (hop:o.op=.extract (.tmp s) 0) (hl:(L++eB O).lookup s=some (kP (Rd.uq y oo x z) G))
  (next:∀ a',Sx F N M0 M Gs ((d,y)::L) O a' w->wpAnyH P .any ops Q S f (listed.setIfInBounds i true) a' w)(hs:Region.noSelect ops=true:=by decide +kernel)(hf:Region.free .any ops listed i=true:=by decide +kernel)(hr:(Region.ready .any ops listed).contains i=true:=by decide +kernel):wpAnyH P .any ops Q S (f+1) listed a w:=by
 obtain⟨u1,u2,u3,hv,_,h2,_⟩:=h.st.has s _ hl;exact h.kX ho hh hs hf hr (λ c a w=>hQ c a w _) hS (ta hop hv Z) h2.1 h2.2 next
theorem Sx.Md{x:α}{z:Dt}(h:Sx F N M0 M Gs L O a w)(p:Nat)(ho:ops[i]?=some o)(hh:fH o N=some d)
  (hQ:∀ c a w v,Q (.panic c) (a.put o.dst v) w->Q (.panic c) a w) (hS:S w) (hop:o.op=.extract (.tmp s) 1) (hl:(L++eB O).lookup s=some (kP (Rd.uq y oo x z) G)) (hG:∀ b,G b->zj Gs p b) (qs:List Nat) (hqs:fi L O qs p=some O2) (hdn:List.lookup d ((s,uF y z)::L)=none)
  (next:∀ a',Sx F N M0 M Gs ((s,uF y z)::L) ((d,p,eH oo G x)::O2) a' w->wpAnyH P .any ops Q S f (listed.setIfInBounds i true) a' w)(hs:Region.noSelect ops=true:=by decide +kernel)(hf:Region.free .any ops listed i=true:=by decide +kernel)(hr:(Region.ready .any ops listed).contains i=true:=by decide +kernel):wpAnyH P .any ops Q S (f+1) listed a w:=by
 obtain⟨u1,u2,u3,hv,h1,h2,h3⟩:=h.st.has s _ hl;exact((h.drop hqs).lI (y:=uF y z) ⟨u1,u2,u3,hv,h2,h3⟩).ur ho hh hs hf hr hQ hS (ta hop hv Z) h1 hG hdn next
theorem Sx.Me{z:Dt}(h:Sx F N M0 M Gs L O a w)(ho:ops[i]?=some o)(hh:fH o N=some d)
  (hQ:∀ c a w v,Q (.panic c) (a.put o.dst v) w->Q (.panic c) a w) (hS:S w) (hop:o.op=.extract (.tmp s) 2) (hl:(L++eB O).lookup s=some (uF y z))
  (next:∀ a',Sx F N M0 M Gs ((d,z)::L) O a' w->wpAnyH P .any ops Q S f (listed.setIfInBounds i true) a' w)(hs:Region.noSelect ops=true:=by decide +kernel)(hf:Region.free .any ops listed i=true:=by decide +kernel)(hr:(Region.ready .any ops listed).contains i=true:=by decide +kernel):wpAnyH P .any ops Q S (f+1) listed a w:=by
 obtain⟨u1,u2,u3,hv,_,h3⟩:=h.st.has s _ hl;exact h.kX ho hh hs hf hr (λ c a w=>hQ c a w _) hS (ta hop hv Z) h3.1 h3.2 next
end
section
variable{α:Type}[ey α]{look:Nat->Option Dt}
def EO(xs:List α):Dt where
 rd M w v:=(dt xs).rd M w v/\∃ A,v=.slice A xs.length xs.length
 own:=noB
 nb:=true
 nob _ _ h:=h
 stable:=λ h e=>⟨(dt xs).stable h.1 e,h.2⟩
 weak:=λ h e=>⟨(dt xs).weak h.1 e,h.2⟩
theorem RM{n:Nat}{parts:Array (Nat×Operand)}{xs:List α}(ho:o.op=.buildSlice t n parts)(ht':gV P t (ey.size α)=true)(hz':mC P t=true)
  (hp:parts=(opds.zipIdx.map λ p=>(p.2,p.1)).toArray) (hn:n=opds.length)  (hx:OpdsR M look opds xs)(hsz:opds.length*ey.size α<=16777216:=by decide):eP P M look o (EO xs):=
 λ a w hm hl=>by
  obtain⟨e,ht⟩:=jZ ht';obtain⟨ti,z,h1,h2⟩:=DA hz' ht;have hg:=hx.get;have hcell:∀ (i:Nat) (opd:Operand),opds[i]?=some opd->∃ x,xs[i]?=some x/\ey.rdc M w (a.eval opd).cells.toList x:=λ i opd hi=>by
   have hlt:i<xs.length:=by rw[<-hg.1];exact(ai.1 hi).1
   exact⟨_,aa hlt,(hg.2 i opd _ hi (aa hlt)).cells hl⟩
  obtain⟨cells,g1,g2⟩:=Qt (parts:=opds.map a.eval) ht h1 h2 (by simpa using hsz) (λ v hv=>by
   obtain⟨opd,hopd,rfl⟩:=bi.1 hv;obtain⟨i,hi⟩:=aR hopd;obtain⟨x,_,hr⟩:=hcell i opd hi;simpa using ey.len hr) w
  have he:fy w (w.alloc (.cells cells e)):=fy.alloc _ _;refine fb.iw (w':=w.alloc _) (v:=.slice _ xs.length xs.length) ?_ ⟨he,⟨_,⟨_,xs.length,Z,al _,?_,.inr ⟨w.heap.size,0,cells.toList,Z,λ h=>absurd (hm _ h) (cO _),λ j u hj=>?_,?_⟩⟩,Z⟩,_,Z⟩
  .unfold execOp;rw[ho];have e1:(parts.map λ p:Nat×Operand=>(p.1,a.eval p.2))=(((opds.map a.eval).zipIdx).map λ p=>(p.2,p.1)).toArray:=by
    rw[hp];simp[ev]
   simp at g1;rw[hg.1] at g1;simp[e1,hn,g1,hg.1]
  .have:=ey.pos (α:=α);rw[<-hg.1];have h5:opds.length<=opds.length*ey.size α:=dv _ this;exact aS h5 (aS hsz (by decide))
  .rw[aD,dJ];simpa using hj
  .rw[g2];refine Cw (by simp[hg.1]) λ i c x h4 h5=>?_
   simp only[be,dy] at h4;obtain⟨u,⟨opd,hopd,rfl⟩,rfl⟩:=h4;obtain⟨x',hx',hr⟩:=hcell i opd hopd;rw[h5] at hx';injection hx' with hx';subst hx';exact ey.stable hr (kA.kW he)
theorem RF{xs ys r:List α}(ho:o.op=.call { callee:=.builtin .append,args:=#[q,qx],argTypes:=#[t,t] })(hel:iH P t e (ey.size α) bytes=true)
  (hs:eC M look q (EO xs))  (hx:∀ (w:World) (a:Act),(∀ s y,look s=some y->y.rd M w (Act.at a s))->ny M w (a.eval qx) ys) (hm:fE bytes xs ys=some r)(hne:xs≠[]:=by simp):eP P M look o (dt r):=
 λ a w hmok hl=>by
  unfold fE at hm;split at hm
  .rename_i hsz;injection hm with hm;subst hm;obtain⟨h1,A0,hA0⟩:=hs w a hl;obtain⟨A,c,hA,hy3⟩:=hx w a hl;obtain⟨A1,c1,hq1,hx3⟩:=yW M w _ h1;obtain⟨i,z,ht,hi,hz,hs1,hs2,hs3⟩:=Qv hel;have hrun0:∀ {v' w'},(Builtin.append_ #[t,t] o.type #[.slice A0 xs.length xs.length,.slice A ys.length c]).run P w=.ok v' w'->(execOp a.eval o).run P w=.ok (.value v') w':=λ{v' w'} hr=>by
    unfold execOp;simp[ho,resolve,invoke,builtin,hA0,hA,hr]
   by_cases hy:ys=[]
   .subst hy;refine fb.iw (v:=.slice A0 xs.length xs.length) (w':=w) (hrun0 ?_) ⟨fy.refl _,by rw[aO,<-hA0];exact h1⟩;cases A with
    | none=>exact Wk ht hi A0 xs.length xs.length c (al _)
    | some ad=>exact Y9 ht hi A0 ad xs.length xs.length c (al _)
   obtain⟨b,off,ycells,hAe,hyc,hyr⟩:=hy3.resolve_left hy;obtain⟨b0,off0,xcells,hAx,hxc,hxr⟩:=hx3.resolve_left hne;have e0:A0=A1:=by rw[hA0] at hq1;injection hq1
   subst e0 hAe hAx;have hpos:=Nat.pos_of_ne_zero λ h0=>hy (au h0)
   obtain⟨v',w',hrun,hown',hgr⟩:=dR (w:=w) t o.type e i z _ bytes ht hi hz hs1 hs2 hs3 ey.pos ⟨b0,off0,none⟩ xs.length xs.length xcells (JH hxr) (λ j u hj=>by rw[jI];exact hxc j u hj) ⟨b,off,none⟩ ys.length c ycells (JH hyr) (λ j u hj=>by rw[jI];exact hyc j u hj) (by omega) (by unfold maxLen;omega) hsz.1;have hg':v'.ownBlock=none\/∀ k,v'.ownBlock=some k->w.heap.size<=k:=.inr λ k hk=>(hown'.lt k hk).1
   have hex:fy w w':=⟨hgr.os,hgr.tape,hgr.output,hgr.size,λ k hk=>hgr.block k hk (by simp)⟩;have hM:∀ k,gp none M k->M k:=λ k hk=>hk.elim id λ e=>by cases e
   have hv':(eQ v'.ownBlock e _).rd _ w' v':=.inl ⟨xcells++ycells,by rw[ao];exact Cx hown' (aq _),Ze (Xv (wN (λ k _ hk=>hM k hk) hxr) hgr hg') (Xv (wN (λ k _ hk=>hM k hk) hyr) hgr hg'),Z⟩;exact fb.iw (w':=w') (hrun0 hrun) ⟨hex,JJ hv' (λ b _ hb=>.inl hb) λ b hb hm=>by
    have h2:=(hown'.lt b hb).1;have h3:=hmok b hm;omega⟩
  .cases hm
end
def SW(b0 o0:Nat)(u0:Value)(b o1:Nat)(c1:Array Value)(o2:Nat)(c2:Array Value)(w:World):Prop:=w.cell? ⟨b0,o0,none⟩=some u0/\iu w b o1 c1.toList/\iu w b o2 c2.toList
section
variable{α β:Type}[ey α][ey β]
def sE(ow:Ow α)(oy:Ow β)(G:Nat->Prop)(v0:Value)(b off:Nat)(upd:β->α)(o1:Nat)(c1:Array Value)(o2:Nat)(c2:Array Value):Dt where
 rd M w v:=(lS ow oy G v0 b off upd).rd M w v/\iu w b o1 c1.toList/\iu w b o2 c2.toList
 own:=G
 nb:=false
 nob h:=by cases h
 stable:=by
  rintro M w w' v ⟨h1,h2,h3⟩ k
  obtain⟨_,wb,Mb,G2,cs,C,e,h3',hL,hGb,h6,h7,h8,h9,put⟩:=id h1;have e1:w'.heap[b]?=w.heap[b]?:=k b (by
   have:w.heap[b]?=some (.cells C e (0,0)):=by rw[hL.same b (xM h8) (.inr (.inl Z))];exact h8
   exact xM this) (.inr hGb)
  have e2:∀ {o:Nat} {c:List Value},iu w b o c->iu w' b o c:=λ hc j u hj=>by
   have:=hc j u hj;unfold World.cell? at this ⊢;rw[e1];exact this
  exact⟨(lS ow oy G v0 b off upd).stable h1 k,e2 h2,e2 h3⟩
 weak:=λ⟨h1,h2⟩ k=>⟨(lS ow oy G v0 b off upd).weak h1 k,h2⟩
def pk(g:Option Nat)(X:Nat->Dt):Dt where
 rd M w v:=∀ b,g=some b->(X b).rd M w v/\∀ k,(X b).own k->k=b
 own:=eA g
 nb:=false
 nob h:=by cases h
 stable:=λ h k b hb=>⟨(X b).stable (h b hb).1 λ i hi hm=>k i hi (hm.imp id λ ho=>by rw[(h b hb).2 i ho];exact hb),(h b hb).2⟩
 weak:=λ h k b hb=>⟨(X b).weak (h b hb).1 k,(h b hb).2⟩
end
section
variable{f:Nat}
variable{α β γ:Type}[ey α][ey β][ey γ]
variable{oy:Ow β}
theorem Sx.KZ{ow:Ow α}{o1 o2:Nat}{x:α}(h:Sx F N M0 M Gs L O a w)(hs:(L++eB O).lookup s=some (eJ ow G x v0 cf))(m0:(true,b0,o0,u0)∈cf)(h0:u0.oneCell'=true)(m1:(true,b,o1,.agg c1)∈cf)(m2:(true,b,o2,.agg c2)∈cf):SW b0 o0 u0 b o1 c1 o2 c2 w:=
 let k:=(h.st.has s _ hs).2.2;⟨h.kD (hs:=hs) m0 (hu:=h0),(k _ m1 Z).2.2,(k _ m2 Z).2.2⟩
theorem Sx.oV{ow:Ow α}{ow2:Ow γ}{δ:Type}[ey δ]{oz:Ow δ}{t o1 o2:Nat}{upd:β->α}{upd2:δ->γ}(h:Sx F N M0 M Gs L O a w)(hs:(L++eB O).lookup s=some (nz ow oy G v0 b0 o0 u0 upd):=by rfl)(ht:(L++eB O).lookup t=some (sE ow2 oz G2 v1 b off upd2 o1 c1 o2 c2):=by rfl):SW b0 o0 u0 b o1 c1 o2 c2 w:=
 ⟨(h.st.has s _ hs).2,(h.st.has t _ ht).2.1,(h.st.has t _ ht).2.2⟩
theorem Hz{c:Array Value}{n:Nat}(ho:o.op=.load t q)(ht:fM P t true n=true)(hv:a.eval q=.pointer (some ⟨b,off,none⟩))(hn:c.size=n)(hS:∀ w,S w->iu w b off c.toList):∀ w,S w->(execOp a.eval o).run P w=.ok (.value (.agg c)) w:=λ w hw=>by
 have:=yA ht (by simpa using hn) (λ h=>by cases h) (λ j z hj=>hS w hw j z hj);unfold execOp;rw[ho];simp[Instr.loadAt,Instr.sureAddr,hv,this,gI]
theorem Sx.LH{ow:Ow α}{x:α}{z:γ}{upd:γ->α}(h:Sx F N M0 M Gs L O a w)(hP:PH ow x v0 cf (Ow.eE (α:=γ)) b off z upd)(hm:(true,b,off,u)∈cf)(hf:Fits γ u)(hs:(L++eB O).lookup s=some (eJ ow G x v0 cf)):(dt z).rd M w u:=by
 obtain⟨h1,⟨cs,h2,h3⟩,h4⟩:=h.st.has s _ hs;obtain⟨G1,G2,C,e,s1,s2,hGb,n1,n2,hdj,hh',hsz,hr,put⟩:=hP.of h2 h3 h4;exact⟨_,hr,rF hf hh' hsz (h4 _ hm Z).2.2⟩
theorem Sx.Mn{ow:Ow α}{o1 o2:Nat}{upd:β->α}(h:Sx F N M0 M Gs L O a w)(p:Nat)(hs:(L++eB O).lookup s=some (lS ow oy G v0 b off upd))(h1:iu w b o1 c1.toList)(h2:iu w b o2 c2.toList)(hn:L.lookup s=none)(hG:∀ b,G b->zj Gs p b)(qs:List Nat)(hq:fi L O qs p=some O2):Sx F N M0 M Gs L ((s,p,sE ow oy G v0 b off upd o1 c1 o2 c2)::O2) a w:=
 (h.drop hq).gu hn ⟨h.st.has s _ hs,h1,h2⟩ hG
theorem Sx.Lj{ow:Ow α}{o1 o2:Nat}{upd:β->α}(h:Sx F N M0 M Gs L O a w)(p:Nat)(hs:(L++eB O).lookup s=some (sE ow oy G v0 b off upd o1 c1 o2 c2))(hn:L.lookup s=none)(hG:∀ b,G b->zj Gs p b)(qs:List Nat)(hq:fi L O qs p=some O2):Sx F N M0 M Gs L ((s,p,lS ow oy G v0 b off upd)::O2) a w:=
 (h.drop hq).gu hn (h.st.has s _ hs).1 hG
theorem Sx.DX(h:Sx F N M0 M Gs L O a w)(d p:Nat)(hn:L.lookup d=none):Sx F N M0 M Gs L ((d,p,pk none X)::O) a w:=h.gu hn (λ b hb=>by cases hb) λ b hb=>by cases hb
theorem Sx.DY(h:Sx F N M0 M Gs L O a w)(p:Nat)(hs:(L++eB O).lookup s=some (pk (some b) X))(hn:L.lookup s=none)(qs:List Nat)(hq:fi L O qs p=some O2)(hX:∀ k,(X b).own k->zj Gs p k:=by exact λ _ h=>h):Sx F N M0 M Gs L ((s,p,X b)::O2) a w:=
 (h.drop hq).gu hn (h.st.has s _ hs b Z).1 hX
theorem Sx.swp{q1 q2:Nat×Nat×Dt}(h:Sx F N M0 M Gs L (q1::q2::O) a w)(hne:(q1.1 == q2.1)=false):Sx F N M0 M Gs L (q2::q1::O) a w:=by
 refine⟨⟨h.st.fr,h.st.size,h.st.defers,h.st.mok,λ t z hz=>?_⟩,h.ob,h.no,⟨h.ow.2.1,h.ow.1,h.ow.2.2⟩⟩;rcases yw hz with h1 | ⟨h0,h1⟩
 .exact h.st.has t z (yN h1)
 .obtain⟨s1,p1,A⟩:=q1;obtain⟨s2,p2,B⟩:=q2;refine h.st.has t z ?_;rw[yi h0];simp only[eB,af] at h1 ⊢;have hne':s1≠s2:=by simpa using hne
  cases e1:t == s1 with
  |true=>
   have:t=s1:=by simpa using e1
   subst this;have e2:(t == s2)=false:=by simpa using hne'
   simp[e2] at h1 ⊢;exact h1
  | false=>simpa only[e1] using h1
theorem Sx.uf(h:Sx F N M0 M Gs L ((d,p,X b)::O) a w)(hX:∀ k,(X b).own k->k=b)(hG:∀ k,eA (some b) k->zj Gs p k:=by exact λ _ h=>h):Sx F N M0 M Gs L ((d,p,pk (some b) X)::O) a w:=
 h.re (λ k b' hb=>by injection hb with hb;subst hb;exact⟨k,hX⟩) hG
theorem Sx.K3{z:γ}(h:Sx F N M0 M Gs L O a w)(s:Nat)(hs:(L++eB O).lookup s=some (fk u))(hz:(dt z).rd M w u):Sx F N M0 M Gs ((s,dt z)::L) O a w:=
 h.lI (by rw[show Act.at a s=u from h.st.has s _ hs];exact hz)
theorem Sx.L9{oo:Ow α}{x:α}(h:Sx F N M0 M Gs L O a w)(p:Nat)(ho:ops[i]?=some o)(hh:fH o N=some d)(hf:Region.free .any ops listed i=true)(hr:(Region.ready .any ops listed).contains i=true)
  (hQ:∀ c a w v,Q (.panic c) (a.put o.dst v) w->Q (.panic c) a w) (hS:S w) (hop:o.op=.extract (.tmp s) 0) (hl:(L++eB O).lookup s=some (kP (Rd.lx oo x y) G)) (hG:∀ b,G b->zj Gs p b) (qs:List Nat) (hqs:fi L O qs p=some O2) (hdn:List.lookup d ((s,mM y)::L)=none)
  (next:∀ a',Sx F N M0 M Gs ((s,mM y)::L) ((d,p,eH oo G x)::O2) a' w->wpAnyH P .any ops Q S f (listed.setIfInBounds i true) a' w)(hs:Region.noSelect ops=true:=by decide +kernel):wpAnyH P .any ops Q S (f+1) listed a w:=by
 obtain⟨u1,u2,hv,h1,h2⟩:=h.st.has s _ hl;exact((h.drop hqs).lI (y:=mM y) ⟨u1,u2,hv,h2⟩).ur ho hh hs hf hr hQ hS (ta hop hv Z) h1 hG hdn next
theorem Sx.Ma(h:Sx F N M0 M Gs L O a w)(ho:ops[i]?=some o)(hh:fH o N=some d)(hf:Region.free .any ops listed i=true)(hr:(Region.ready .any ops listed).contains i=true)
  (hQ:∀ c a w v,Q (.panic c) (a.put o.dst v) w->Q (.panic c) a w) (hS:S w) (hop:o.op=.extract (.tmp s) 1) (hl:(L++eB O).lookup s=some (mM y))
  (next:∀ a',Sx F N M0 M Gs ((d,y)::L) O a' w->wpAnyH P .any ops Q S f (listed.setIfInBounds i true) a' w)(hs:Region.noSelect ops=true:=by decide +kernel):wpAnyH P .any ops Q S (f+1) listed a w:=by
 obtain⟨u1,u2,hv,h2⟩:=h.st.has s _ hl;exact h.kX ho hh hs hf hr (λ c a w=>hQ c a w _) hS (ta hop hv Z) h2.1 h2.2 next
end
def lf(n m i1 i2:Nat)(c1 c2:Bool):Array Bool:=QI n (m ||| (bif c1 then 1 <<< i1 else 0) ||| (bif c2 then 1 <<< i2 else 0))
def cn(c1 c2:Bool):Nat:=(bif c1 then 0 else 1)+(bif c2 then 0 else 1)
theorem Dy{n:Nat}(_hi:i<n):(QI n m).setIfInBounds i true=QI n (m ||| 1 <<< i):=by
 apply Array.ext
 .simp[QI]
 .intro j h1 h2;have hj:j<n:=by simpa[QI] using h2
  rw[Array.getElem_setIfInBounds]
  .by_cases hij:i=j
   .subst hij;simp[QI,Nat.one_shiftLeft,Nat.testBit_two_pow_self]
   .simp[QI,hij,Nat.one_shiftLeft,Nat.testBit_two_pow_of_ne hij]
  .simpa[QI] using hj
section
variable{f i1 i2:Nat}{c1 c2:Bool}
theorem u6(hi:i<ops.size:=by decide)(hm:m ||| 1 <<< i=m':=by decide):(lf ops.size m i1 i2 c1 c2).setIfInBounds i true=lf ops.size m' i1 i2 c1 c2:=by
 unfold lf;rw[Dy hi,<-hm]
 congr 1
 apply dM;intro j;simp only[dW,Bool.or_assoc,Bool.or_comm,Bool.or_left_comm]
theorem MJ{T:Bool->Bool->Act->World->Prop}{f0:Nat}(n:∀ c1 c2 a w,T c1 c2 a w->wpAnyH P .any ops Q S (cn c1 c2+k) (lf ops.size m i1 i2 c1 c2) a w)(h:T false false a w)(hf:f0=cn false false+k)(hl:l=lf ops.size m i1 i2 false false:=by decide +kernel):wpAnyH P .any ops Q S f0 l a w:=by
 rw[hf,hl];exact n _ _ a w h
def QF(K:Act->World->Prop)(Q:Exit->Act->World->Prop):Exit->Act->World->Prop
 | .normal,a,w=>K a w
 | e,a,w=>Q e a w
theorem vx(ho:ops[i]?=some o)(h:wpList P ops (QF K Q) [o] a w):wpOp P ops Q i K a w:=by
 unfold wpOp;rw[ho];simp only;unfold wpList at h;have hl:LetsOut _->LetsOut Q:=λ⟨a,w,h⟩=>⟨a,w,h⟩
 have hn:∀ a w,wpList P ops (QF K Q) [] a w->K a w:=λ a w h=>h
 split
 .rename_i hw;rw[Ke hw] at h;exact h.imp (Oper.AM hn hl) λ h=>⟨h.1,hl h.2⟩
 .rename_i hw;rw[Kf hw] at h;exact hn _ _ h
theorem Bp{n:Nat}(h:∀ x y,Region.free .any ops (lf n m i1 i2 x y) i=true:=by decide +kernel):Region.free .any ops (lf n m i1 i2 c1 c2) i=true:=h c1 c2
theorem B8{n:Nat}(h:∀ x y,(Region.ready .any ops (lf n m i1 i2 x y)).contains i=true:=by decide +kernel):(Region.ready .any ops (lf n m i1 i2 c1 c2)).contains i=true:=h c1 c2
theorem Es{T:Bool->Bool->Act->World->Prop}{o1 o2:Oper}{f0:Nat}(f m i1 i2:Nat)(r:Bool->Bool->List Nat)(h1:ops[i1]?=some o1)(h2:ops[i2]?=some o2)
  
  
  (ha:∀ c2 a w,T false c2 a w->wpList P ops (QF (λ a w=>S w/\T true c2 a w) Q) [o1] a w)
  (hb:∀ c1 a w,T c1 false a w->wpList P ops (QF (λ a w=>S w/\T c1 true a w) Q) [o2] a w)
  (step:∀ c1 c2 a w,T c1 c2 a w->∀ i∈r c1 c2,wpOp P ops Q i (λ a' w'=>S w'/\wpAnyH P .any ops Q S (cn c1 c2+f) ((lf ops.size m i1 i2 c1 c2).setIfInBounds i true) a' w') a w)
  (next:(∀ c1 c2 a w,T c1 c2 a w->wpAnyH P .any ops Q S (cn c1 c2+(f+1)) (lf ops.size m i1 i2 c1 c2) a w)->wpAnyH P .any ops Q S f0 l0 a0 w0)(hi1:i1<ops.size:=by decide)(hi2:i2<ops.size:=by decide)(hr:∀ c1 c2,((Region.ready .any ops (lf ops.size m i1 i2 c1 c2)).all λ i=>(r c1 c2).contains i||(i == i1&&!c1)||(i == i2&&!c2))=true:=by decide +kernel)(hne:∀ c1 c2,(Region.ready .any ops (lf ops.size m i1 i2 c1 c2)).isEmpty=false:=by decide +kernel):wpAnyH P .any ops Q S f0 l0 a0 w0:=by
 have e1:∀ c2,(lf ops.size m i1 i2 false c2).setIfInBounds i1 true=lf ops.size m i1 i2 true c2:=λ c2=>by
  unfold lf;rw[Dy hi1]
  congr 1
  apply dM;intro j;simp only[cond_true,cond_false,Nat.or_zero,dW,Bool.or_assoc,Bool.or_comm,Bool.or_left_comm]
 have e2:∀ c1,(lf ops.size m i1 i2 c1 false).setIfInBounds i2 true=lf ops.size m i1 i2 c1 true:=λ c1=>by
  unfold lf;rw[Dy hi2]
  congr 1
  apply dM;intro j;simp
 have key:∀ c1 c2 a w,T c1 c2 a w->(c1=false->∀ a w,T true c2 a w->wpAnyH P .any ops Q S (cn true c2+(f+1)) (lf ops.size m i1 i2 true c2) a w)->(c2=false->∀ a w,T c1 true a w->wpAnyH P .any ops Q S (cn c1 true+(f+1)) (lf ops.size m i1 i2 c1 true) a w)->wpAnyH P .any ops Q S (cn c1 c2+(f+1)) (lf ops.size m i1 i2 c1 c2) a w:=by
  intro c1 c2 a w hT k1 k2;show wpAnyH P .any ops Q S _ _ a w;refine⟨λ h0=>(by have:=hne c1 c2;rw[h0] at this;cases this),λ i hi=>?_⟩;have:=am.1 (hr c1 c2) i hi;simp at this;rcases this with(h | ⟨rfl,rfl⟩) | ⟨rfl,rfl⟩
  .exact step c1 c2 a w hT i h
  .refine wpOp_mono (λ a' w' hK=>⟨hK.1,?_⟩) (vx h1 (ha c2 a w hT));rw[e1];have:=k1 Z a' w' hK.2;have e:cn true c2+(f+1)=cn false c2+f:=by cases c2 <;> simp[cn] <;> omega
   rwa[e] at this
  .refine wpOp_mono (λ a' w' hK=>⟨hK.1,?_⟩) (vx h2 (hb c1 a w hT));rw[e2];have:=k2 Z a' w' hK.2;have e:cn c1 true+(f+1)=cn c1 false+f:=by cases c1 <;> simp[cn] <;> omega
   rwa[e] at this
 have a8:∀ a w,T true true a w->wpAnyH P .any ops Q S _ _ a w:=λ a w h=>key _ _ a w h (λ h=>by cases h) (λ h=>by cases h)
 have a9:∀ a w,T true false a w->wpAnyH P .any ops Q S _ _ a w:=λ a w h=>key _ _ a w h (λ h=>by cases h) (λ _=>a8)
 have b3:∀ a w,T false true a w->wpAnyH P .any ops Q S _ _ a w:=λ a w h=>key _ _ a w h (λ _=>a8) (λ h=>by cases h)
 refine next λ c1 c2 a w h=>?_
 cases c1 with
 |true=>cases c2 with
  | true=>exact a8 a w h
  | false=>exact a9 a w h
 |false=>cases c2 with
  | true=>exact b3 a w h
  | false=>exact key _ _ a w h (λ _=>a9) (λ _=>b3)
end
section
variable{fn:Func}{look:Nat->Option Dt}{T:Prop}
variable{α β γ δ:Type}[ey α][ey β][ey γ][ey δ]
theorem Sx.LS{t s1 s2:Nat}{oa:Ow α}{ob:Ow β}{oy:Ow γ}{cf2:CF}{x x':α}{z z':β}{y y':γ}(h:Sx (eG.ft w0 G) N M0 M Gs L O a w)(p1 p2 p3:Nat)(hr:fn.results=#[.tmp t])(hl:(L++eB O).lookup t=some (eH oy G3 y))(hs1:(L++eB O).lookup s1=some (eJ oa.box G1 ⟨x⟩ (fm b1) cf1))(hs2:(L++eB O).lookup s2=some (eJ ob.box G2 ⟨z⟩ (fm b2) cf2))(hG1:∀ b,G1 b->zj Gs p1 b)(hG2:∀ b,G2 b->zj Gs p2 b)(hG3:∀ b,G3 b->zj Gs p3 b)(hne:p1≠p2)(hn1:p1≠p3)(hn2:p2≠p3)
  (hm:some ((x,z),y)=some ((x',z'),y')):bodyPost P fn (El M0 w0 G b1 b2 oa ob x' z' (.ow oy y')) .ret a w:=by
 injection hm with hm;injection hm with h1 h2;injection h1 with h1 h3;subst h1;subst h2;subst h3;have one:∀ {τ:Type} [ey τ] {ow:Ow τ} {s b:Nat} {g:Nat->Prop} {x:τ} {cf:CF},(L++eB O).lookup s=some (eJ ow.box g ⟨x⟩ (fm b) cf)->ow.box.ro M g w [fm b] ⟨x⟩:=λ{τ _ ow s b g x cf} hs=>by
  obtain⟨_,⟨cs,k2,k3⟩,_⟩:=h.st.has s _ hs;obtain⟨b',C,e,Gr,hc,k4⟩:=k2;rw[hc] at k3;have h6:fm b=fm b':=k3;rw[h6];exact⟨b',C,e,Gr,Z,k4⟩
 have hM:∀ k,k<w.heap.size->(M0 k\/(G1 k\/G2 k))\/G3 k->M k:=λ k _ hk=>hk.elim (λ hk=>hk.elim (h.ob.sub k) λ hk=>hk.elim (λ hk=>(h.ob.at_ p1 k (hG1 k hk)).2.1) λ hk=>(h.ob.at_ p2 k (hG2 k hk)).2.1) λ hk=>(h.ob.at_ p3 k (hG3 k hk)).2.1
 exact⟨h.st.defers,_,cV hr a.tmps P w,_,λ k=>G1 k\/G2 k,G3,Z,h.st.fr,λ b hb=>hb.elim (λ hb=>(h.ob.at_ p1 b (hG1 b hb)).1) λ hb=>(h.ob.at_ p2 b (hG2 b hb)).1,λ b hb=>(h.ob.at_ p3 b (hG3 b hb)).1,λ b hb h3=>hb.elim (λ hb=>h.ob.apart p1 p3 b hn1 (hG1 b hb) (hG3 b h3)) λ hb=>h.ob.apart p2 p3 b hn2 (hG2 b hb) (hG3 b h3),λ b hb=>hb.elim (λ hb=>hb.elim (λ hb=>h.st.mok b (h.ob.at_ p1 b (hG1 b hb)).2.1) λ hb=>h.st.mok b (h.ob.at_ p2 b (hG2 b hb)).2.1) λ hb=>h.st.mok b (h.ob.at_ p3 b (hG3 b hb)).2.1,
  ⟨G1,G2,λ _ h=>.inl h,λ _ h=>.inr h,λ b h1 h2=>h.ob.apart p1 p2 b hne (hG1 b h1) (hG2 b h2),oa.box.weak (one hs1) hM,ob.box.weak (one hs2) hM⟩,(eH oy G3 y).weak (h.st.has t _ hl) hM⟩
theorem Sx.La{oy:Ow β}{l:List Operand}{y y':β}{mk:(Nat->Prop)->Dt}(h:Sx F N M0 M Gs L O a w)(p p2:Nat)(bk:nu M w Gs p u (Act.at a sb) oy y y' mk)(hh:fH o N=some d)
  (ho:o.op=.call { callee:=.value q,args:=ag,argTypes:=ts }) (has:ag=l.toArray) (hqv:a.eval q=u) (hp:p<Gs.length) (hp2:p2<Gs.length) (hpp:p≠p2) (hx:ArgsR M (λ s=>(L++eB O).lookup s) l xr) (hfn:kF P oy y xr y' r)
  (ks:List Nat) (hk:ff ks L=some L2) (qs:List Nat) (hq:fi L O qs p=some O2) (hq2:O2.all (λ q=>q.2.1 != p&&q.2.1 != p2)=true) (hsn:L2.lookup sb=none) (hdn:L2.lookup d=none) (_hne:sb≠d)
  (next:∀ G'' Gr M' a' w',Sx F N M0 M' ((Gs.set p G'').set p2 Gr) L2 ((d,p2,kP r Gr)::(sb,p,mk G'')::O2) a' w'->wpList P ops Q rest a' w'):wpList P ops Q (o::rest) a w:=by
 subst hqv;subst has;obtain⟨G1,hG1,hy,back⟩:=bk.ex;have hGM:∀ b,G1 b->M b:=λ b hb=>(h.ob.at_ p b (hG1 b hb)).2.1
 have hM:∀ k,((M k/\¬ G1 k)\/G1 k)->M k:=λ k hk=>hk.elim (λ h=>h.1) (hGM k)
 have hra:=hx.all h.st.has;have key:∀ M1:Nat->Prop,(∀ b,M1 b\/G1 b->b<w.heap.size)->(∀ b,G1 b->¬ M1 b)->(∀ k,M1 k\/G1 k->M k)->∃ (f:FuncId) (caps:List Value),a.eval q=.func (.func f) #[] caps.toArray/\gb P f=true/\Calls P f (l.map a.eval++caps).toArray w (ko M1 w G1 (a.eval q) oy y' r):=λ M1 m1 m2 m3=>
  hfn M1 G1 w _ _ m1 m2 ((eH oy G1 y).weak hy λ k _ hk=>m3 k hk) (hra.weak λ k _ hk=>m3 k hk)
 obtain⟨f,caps,hv,hf,_⟩:=key (λ b=>M b/\¬ G1 b) (λ b hb=>h.st.mok b (hM b hb)) (λ b hb hm=>hm.2 hb) hM;refine h.cE (f:=f) (y':=y') (r:=r) (args:=(l.map a.eval++caps).toArray) p hh ?_ hy hG1 hp (λ M1 m1 m2 m3=>?_) ks hk qs hq λ G' Gr M' v w' st hL hG' hGr hdj hr hres=>?_
 .unfold execOp;rw[ho];simp[resolve,hv,Deferred.ofValue,invoke,xq hf]
 .obtain⟨f',caps',hv',_,hc⟩:=key M1 m1 m2 m3;have e:=hv.symm.trans hv';injection e with e1 _ e2;injection e1 with e1;have e3:caps=caps':=by simpa using bu Array.toList e2
  rw[e1,e3];exact hc
 .have hlt:∀ b,zj Gs p b->b<w.heap.size:=λ b hb=>h.st.mok b (h.ob.at_ p b hb).2.1
  have h0:=st.sn (A:=λ b=>(zj Gs p b/\¬ G1 b)\/G' b) (B:=Gr) (by simpa using hp) (by simpa using hp2) hpp (λ b hb=>by rw[zf hp];exact .inl hb) (λ b hb=>by rw[zf hp];exact .inr hb) (λ b hb hb2=>hb.elim (λ e=>(hGr b hb2).elim e.2 λ e2=>by have:=hlt b e.1;omega) λ e=>hdj b e hb2) hq2;rw[bj] at h0;have h1:=h0.gu (d:=sb) (p:=p) (x:=mk (λ b=>(zj Gs p b/\¬ G1 b)\/G' b)) hsn (back hL hG' hr λ b hb=>hb) λ b hb=>by rw[zq (br hpp),zf hp];exact bk.own _ b hb
  exact next _ _ _ _ _ (h1.iG (zK hh).2.2 hdn (x:=kP r Gr) hres λ b hb=>by rw[zf (by simpa using hp2)];exact hb)
end
section
variable{fn:Func}{look:Nat->Option Dt}{T:Prop}
variable{α β γ:Type}[ey α][ey β][ey γ]
theorem Sx.LQ{oo:Ow α}{oy:Ow γ}{t u:Nat}{x xr:α}{y:β}{y2:γ}{r:β×γ}(h:Sx (eG.ft w0 G) N M0 M Gs L O a w)(p p3:Nat)(hr:fn.results=#[.cell t ty,.tmp u])(ht:fM P ty (ey.agg β) (ey.size β)=true)(hl:(L++eB O).lookup t=some (eY g 0 y))(hs:(L++eB O).lookup s=some (eJ oo G' x v0 cf))(hl2:(L++eB O).lookup u=some (eH oy G3 y2))(hG:∀ b,G' b->zj Gs p b)(hG3:∀ b,G3 b->zj Gs p3 b)
  (hm:some (x,y,y2)=some (xr,r))(hne:p≠p3:=by decide):bodyPost P fn (ko M0 w0 G v0 oo xr (.t2 (dt r.1) oy r.2)) .ret a w:=by
 injection hm with hm;injection hm with h1 h2;subst h1;subst h2;obtain⟨k1,⟨cs,k2,k3⟩,_⟩:=h.st.has s _ hs;have hM:∀ k,k<w.heap.size->(M0 k\/G' k)\/G3 k->M k:=λ k _ hk=>hk.elim (λ hk=>hk.elim (h.ob.sub k) λ hk=>(h.ob.at_ p k (hG k hk)).2.1) λ hk=>(h.ob.at_ p3 k (hG3 k hk)).2.1
 obtain⟨b,_,hv,C,e,cy,hb,hc,hro⟩:=h.st.has t _ hl;have hc':∀ j u,cy[j]?=some u->w.cell? ⟨b,0+j,none⟩=some u:=λ j u hj=>by
  have:=hc j u hj;simp only[aD] at this ⊢;simp[World.cell?,hb,this]
 have hld:=yA ht (ey.len hro) ey.one hc';have hvt:a.tmps.getD t undef=.pointer (some ⟨b,0,none⟩):=hv;exact⟨h.st.defers,_,vL hr hvt hld,_,G',G3,Z,h.st.fr,λ b hb=>(h.ob.at_ p b (hG b hb)).1,λ b hb=>(h.ob.at_ p3 b (hG3 b hb)).1,λ b hb h3=>h.ob.apart p p3 b hne (hG b hb) (hG3 b h3),λ b hb=>hb.elim (λ hb=>h.st.mok b (h.ob.at_ p b (hG b hb)).2.1) λ hb=>h.st.mok b (h.ob.at_ p3 b (hG3 b hb)).2.1,
  ⟨cs,oo.weak k2 hM,k3⟩,_,_,Z,⟨⟨cy,ey.weak hro hM,Z⟩,Z⟩,(eH oy G3 y2).weak (h.st.has u _ hl2) hM⟩
theorem Sx.LK{ow:Ow β}{t u:Nat}{x:α}{y:β}{r:β×α}(h:Sx (eG.of w0) N M0 M Gs L O a w)(p:Nat)(hr:fn.results=#[.tmp u,.cell t ty])(ht:fM P ty (ey.agg α) (ey.size α)=true)(hl:(L++eB O).lookup t=some (eY g 0 x))(hl2:(L++eB O).lookup u=some (eH ow G y))(hG:∀ b,G b->zj Gs p b)(hm:some (y,x)=some r):
  bodyPost P fn (ux M0 w0 (.lx ow r.1 (dt r.2))) .ret a w:=by
 injection hm with hm;subst hm;have hM:∀ k,k<w.heap.size->M0 k\/G k->M k:=λ k _ hk=>hk.elim (h.ob.sub k) λ hk=>(h.ob.at_ p k (hG k hk)).2.1
 obtain⟨b,_,hv,C,e,cs,hb,hc,hrr⟩:=h.st.has t _ hl;have hc':∀ j u,cs[j]?=some u->w.cell? ⟨b,0+j,none⟩=some u:=λ j u hj=>by
  have:=hc j u hj;rw[aD] at this ⊢;simp[World.cell?,hb,this]
 exact⟨h.st.defers,_,Sd hr hv (yA ht (ey.len hrr) ey.one hc'),_,G,Z,h.st.fr,λ b hb=>⟨(h.ob.at_ p b (hG b hb)).1,h.st.mok b (h.ob.at_ p b (hG b hb)).2.1⟩,_,_,Z,(eH ow G y).weak (h.st.has u _ hl2) hM,⟨cs,ey.weak hrr hM,Z⟩,Z⟩
theorem Sx.Lb{oy:Ow β}{l:List Operand}{y y':β}{mk:(Nat->Prop)->Dt}(h:Sx F N M0 M Gs L O a w)(k p p2:Nat)(bk:nu M w Gs p u (Act.at a sb) oy y y' mk)(hh:fH o N=some d)
  (ho:o.op=.call { callee:=.value (.func f),args:=ag,argTypes:=ts }) (has:ag=(l.take k++q::l.drop k).toArray) (hf:gb P f=true) (hqv:a.eval q=u) (hp:p<Gs.length) (hp2:p2<Gs.length) (hpp:p≠p2) (hx:ArgsR M (λ s=>(L++eB O).lookup s) l xr) (hfn:lP k P f oy y xr y' r)
  (ks:List Nat) (hk:ff ks L=some L2) (qs:List Nat) (hq:fi L O qs p=some O2) (hq2:O2.all (λ q=>q.2.1 != p&&q.2.1 != p2)=true) (hsn:L2.lookup sb=none) (hdn:L2.lookup d=none)
  (next:∀ G'' Gr M' a' w',Sx F N M0 M' ((Gs.set p G'').set p2 Gr) L2 ((d,p2,kP r Gr)::(sb,p,mk G'')::O2) a' w'->wpList P ops Q rest a' w'):wpList P ops Q (o::rest) a w:=by
 subst hqv;subst has;obtain⟨G1,hG1,hy,back⟩:=bk.ex;refine h.cE (f:=f) (y':=y') (r:=r) (args:=((l.map a.eval).take k++a.eval q::(l.map a.eval).drop k).toArray) p hh ?_ hy hG1 hp (λ M1 m1 m2 m3=>hfn M1 G1 w _ _ m1 m2 ((eH oy G1 y).weak hy λ k _ hk=>m3 k hk) ((hx.all h.st.has).weak λ k _ hk=>m3 k hk)) ks hk qs hq λ G' Gr M' v w' st hL hG' hGr hdj hr hres=>?_
 .unfold execOp;rw[ho];have e:a.eval (.func f)=.func (.func f) #[] #[]:=rfl;simp[resolve,e,Deferred.ofValue,invoke,xq hf,List.map_take,List.map_drop]
 .have hlt:∀ b,zj Gs p b->b<w.heap.size:=λ b hb=>h.st.mok b (h.ob.at_ p b hb).2.1
  have h0:=st.sn (A:=λ b=>(zj Gs p b/\¬ G1 b)\/G' b) (B:=Gr) (by simpa using hp) (by simpa using hp2) hpp (λ b hb=>by rw[zf hp];exact .inl hb) (λ b hb=>by rw[zf hp];exact .inr hb) (λ b hb hb2=>hb.elim (λ e=>(hGr b hb2).elim e.2 λ e2=>by have:=hlt b e.1;omega) λ e=>hdj b e hb2) hq2;rw[bj] at h0;have h1:=h0.gu (d:=sb) (p:=p) (x:=mk (λ b=>(zj Gs p b/\¬ G1 b)\/G' b)) hsn (back hL hG' hr λ b hb=>hb) λ b hb=>by rw[zq (br hpp),zf hp];exact bk.own _ b hb
  exact next _ _ _ _ _ (h1.iG (zK hh).2.2 hdn (x:=kP r Gr) hres λ b hb=>by rw[zf (by simpa using hp2)];exact hb)
end
