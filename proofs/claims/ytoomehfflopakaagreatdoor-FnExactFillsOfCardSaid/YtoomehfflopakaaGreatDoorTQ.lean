import Derived.Test.YtoomehfflopakaaGreatDoorTO
namespace Go.Proofs.YtoomehfflopakaaGreatDoor
open Go.RowKit
variable{a a0:Act}{K:Act->World->Prop}{l l0 listed:Array Bool}{ops:Array Oper}{ts:Array TypeId}{c1 c2 cur tmps vs:Array Value}{c:Bool}{q2:C1 Int×List Compiled}{cf:CF}{R y:Dt}{L L2:Env}{Q:Exit->Act->World->Prop}{F:Frm}{j:Int}{Gs:List (Nat->Prop)}{xs:List (Nat×Dt)}{O O2:List (Nat×Nat×Dt)}{C:List (Nat×Option Nat)}{D rs xr:List Dt}{x0:List File}{ks qs:List Nat}{rest:List Oper}{opds:List Operand}{cy:List Value}{N b b0 b2 bw bytes d f i k m m' o0 off p p2 s sb sz tv:Nat}{X:Nat->Dt}{G G' G0 G1 G2 G3 G4 Gt M M' M0:Nat->Prop}{o os:Oper}{h q qx vo x:Operand}{A:Option Addr}{g:Option Nat}{hi:Option Operand}{o1:Ow (Bx Finder)}{a4:Ow (List (Bx GMod))}{o2:Ow (List Compiled)}{a3 a6:Ow (List GEvent)}{a2:Ow (List GMod)}{a5:Ow (List Int)}{a7:Ow (List Str)}{P:Program}{r:Rd}{e t ty ty2:TypeId}{u u0 u2 v v0 v1:Value}{w w0 w1:World}{S:World->Prop}
section
variable{α:Type}[Rep α]
theorem Sx.boxD{x:α}(h:Sx F N M0 M Gs L O a w)(p:Nat)(hh:opH o N=some d)(ho:o.op=.box t q)(hx:OpdR M (λ s=>(L++envO O).lookup s) q (dt x))
  (ks:List Nat) (hk:selP ks L=some L2) (qs:List Nat) (hq:selR L O qs p=some O2) (hdn:L2.lookup d=none)
  (next:∀ b M' a' w',Sx F N M0 M' (Gs.set p (oneB (some b))) L2 ((d,p,dbox (some b) 0 x)::O2) a' w'->wpList P ops Q rest a' w')(hp:p<Gs.length:=by simp):wpList P ops Q (o::rest) a w:=by
 obtain⟨hgd,hd,hN⟩:=zQ hh;have hy:=XV (hx w a λ s y hs=>h.st.has s y hs);have he:Ext0 w (w.alloc (.cells (a.eval q).cells t)):=Ext0.alloc _ _;refine av hgd λ K hK=>OpOut.wp (OpOut.of_value (v:=.pointer (some ⟨w.heap.size,0,none⟩)) (w':=w.alloc (.cells (a.eval q).cells t)) ?_ ?_)
 ·unfold execOp;rw[ho];simp[Instr.box,newVar,newRow,newObj,JY]
 ·rw[hd];have h1:=h.eff (G':=oneB _) hp ((Grown.of_ext he).mono λ b hb=>hb.elim) (λ b (hb:some w.heap.size=some b)=>by injection hb with hb;subst hb;exact⟨.inr (ak _),by simp⟩) hk hq;refine hK _ _ (next w.heap.size _ _ _ (h1.putO hN hdn ?_ λ b hb=>by rw[zk hp];exact hb));refine⟨w.heap.size,Z,Z,(a.eval q).cells,t,(a.eval q).cells.toList,cZ w _,λ j u hj=>?_,?_⟩
  ·rw[aB];simpa using hj
  refine Rep.later hy (G:=noB) ⟨λ k hk hm=>?_,λ k hk _=>he.block k hk⟩;rcases hm with hm | hm
  ·exact hm.1
  ·have:w.heap.size=k:=by injection hm
   omega
end
section
variable{α β:Type}[Rep α][Rep β]
def FnT(P:Program)(f:FuncId)(o:Ow α)(x:α)(xs:List Dt)(r:Rd):Prop:=
 ∀
  (M0 G:Nat->Prop) (w:World) (v:Value) (vs:List Value),(∀ b,M0 b\/G b->b<w.heap.size)->(∀ b,G b->¬ M0 b)->(dow o G x).rd (λ b=>M0 b\/G b) w v->RdAll (λ b=>M0 b\/G b) w vs xs->
  Calls P f (v::vs).toArray w (λ en w'=>∃ u Gr,en=.returned u/\Grown G w w'/\(∀ b,Gr b->G b\/w.heap.size<=b)/\(∀ b,Gr b->b<w'.heap.size)/\r.rd (λ b=>M0 b\/Gr b) Gr w' u)
def RetTk(M0:Nat->Prop)(w:World)(G:Nat->Prop)(r:Rd):Ending->World->Prop:=λ en w'=>
 ∃ u Gr,en=.returned u/\Grown G w w'/\(∀ b,Gr b->G b\/w.heap.size<=b)/\(∀ b,Gr b->b<w'.heap.size)/\r.rd (λ b=>M0 b\/Gr b) Gr w' u
variable{fn:Func}
theorem fnT{oo:Ow α}{f:FuncId}{c:Code}{x:α}(p n:Nat)(hf:P.funcs[f]?=some fn)(hb:fn.body=some c)(hnb:Ji (zK 1 rs)=true)
  (h:∀ (M G:Nat->Prop) (w:World) (a:Act),Sx (Frm.chg w G) fn.ntmps M (λ b=>M b\/G b) ((List.replicate n (oneB none)).set p G) (zK 1 rs) [(0,p,dow oo G x)] a w->c.wp P (bodyPost P fn (RetTk M w G r)) a w) (hp:p<n:=by decide)(hn:rs.length+1<=fn.ntmps:=by exact oD Z):FnT P f oo x rs r:=by
 intro M0 G w v vs hm hg hv hr;have hra:RdAll (λ b=>M0 b\/G b) w (v::vs) _:=.cons hv hr;have hl:=hra.len;have hnth:∀ s y,(zK 0 _).lookup s=some y->y.rd (λ b=>M0 b\/G b) w (Act.at { tmps:=(v::vs).toArray++Array.replicate _ undef,defers:=[] } s):=λ s y hs=>by
  obtain⟨j,u,h1,h2,h3⟩:=hra.nth 0 s y hs;have hj:=(ai.1 h2).1;have h5:(v::vs).toArray[j]?=some u:=by simpa using h2
  have hj':j<(v::vs).toArray.size:=by simpa using hj
  have:s=j:=by omega
  subst this;have h4:Act.at { tmps:=(v::vs).toArray++Array.replicate (fn.ntmps - (v::vs).toArray.size) undef,defers:=[] } s=u:=by
   simp[Act.at];rw[aV hj',h5];rfl
  rw[h4];exact h3
 have hlen:p<(List.replicate n (oneB none)).length:=by simpa using hp
 have hown:∀ q b,zj ((List.replicate n _).set p G) q b ↔ q=p/\G b:=λ q b=>by
  by_cases hq:p=q
  ·subst hq;rw[zk hlen];simp
  ·rw[zq hq];exact⟨λ h=>(J4 h).elim,λ h=>(hq h.1.symm).elim⟩
 refine cP hf hb (h M0 G w _ ?_);refine⟨⟨Grown.refl _ _,by simp at hl ⊢;omega,Z,hm,λ s y hy=>?_⟩,⟨λ b hb=>.inl hb,λ q b hb=>?_,λ q r b hne h1 h2=>hne (((hown q b).1 h1).1.trans ((hown r b).1 h2).1.symm)⟩,XU hnb,⟨λ b hb=>(hown p b).2 ⟨Z,hb⟩,trivial⟩⟩
 ·have hk:∀ (i:Nat) (rs:List Dt) (s:Nat) (x:Dt),(zK i rs).lookup s=some x->i<=s:=λ i rs=>by
   induction rs generalizing i with
   | nil=>intro s x h;simp[zK] at h
   |cons y rs ih=>
    intro s x h;simp only[zK,ae] at h;by_cases he:s=i
    ·omega
    ·have hb:(s == i)=false:=by simpa using he
     simp[hb] at h;have:=ih _ s x h;omega
  refine hnth s y ?_;simp only[zK,ae];rcases yq hy with h1 | ⟨_,h1⟩
  ·have:=hk _ _ _ _ h1;have hb:(s == 0)=false:=by simpa using(by omega:¬ s=0)
   simp[hb];exact h1
  ·simp only[envO,ae,d9] at h1;cases hb:s == 0 with
   | true=>simp only[hb] at h1;exact h1
   | false=>simp only[hb] at h1;cases h1
 ·obtain⟨rfl,hb'⟩:=(hown q b).1 hb;exact⟨.inl hb',.inr hb',hg b hb'⟩
theorem Sx.rtC{ow:Ow α}{t:Nat}{x:Bx α}{r:α}(h:Sx (Frm.chg w0 G0) N M0 M Gs L O a w)(p:Nat)(hr:fn.results=#[.cell t ty])(ht:tyB P ty (Rep.agg α) (Rep.size α)=true)(hl:(L++envO O).lookup t=some (dnm ow.box G x v0 cf))(hG:∀ b,G b->zj Gs p b)(hm:some x.x=some r):bodyPost P fn (RetTk M0 w0 G0 (.ow ow r)) .ret a w:=by
 injection hm with hm;subst hm;obtain⟨h1,⟨cs,⟨b,C,e,Gr,hc,hb,hGb,hn,hs,hro⟩,h3⟩,_⟩:=h.st.has t _ hl;have hrr:=ow.toR hro;have hc':∀ j u,C.toList[j]?=some u->w.cell? ⟨b,0+j,none⟩=some u:=λ j u hj=>by
  rw[aB];have:C[j]?=some u:=by simpa using hj
  simp[World.cell?,hb,this]
 have hld:=yH ht (Rep.len hrr) Rep.one hc';have hv:Act.at a t=.pointer (some ⟨b,0,none⟩):=by rw[h1,h3,hc];rfl
 refine⟨h.st.defers,mkv _ C.toList,?_,_,Gr,Z,h.st.fr,λ k hk=>(h.ob.at_ p k (hG k (hs k hk))).1,λ k hk=>h.st.mok k (h.ob.at_ p k (hG k (hs k hk))).2.1,⟨_,ow.weak hro λ k _ hk=>hk.elim (h.ob.sub k) λ hk=>(h.ob.at_ p k (hG k (hs k hk))).2.1,Z⟩⟩;have h2:a.tmps.getD t undef=.pointer _:=hv;simp[results,hr];simp at h2;simp[h2,asAddr,hld]
theorem Sx.cT{oy:Ow β}{f:FuncId}{l:List Operand}{y:β}(h:Sx F N M0 M Gs L O a w)(p:Nat)
       (hx:ArgsR M (λ s=>(L++envO O).lookup s) l xr) (hfn:FnT P f oy y xr r)
  (ks:List Nat)  (qs:List Nat)  
  (next:∀{G' M' a' w'},Sx F N M0 M' (Gs.set p G') L2 ((d,p,drd r G')::O2) a' w'->wpList P ops Q rest a' w')(hh:opH o N=some d:=by rfl)(ho:o.op=.call { callee:=.value (.func f),args:=(.tmp sb::l).toArray,argTypes:=ts }:=by rfl)(hy:(L++envO O).lookup sb=some (dow oy G1 y):=by rfl)(hG1:∀ b,G1 b->zj Gs p b:=by exact λ _ h=>h)(hp:p<Gs.length:=by simp)(hk:selP ks L=some L2:=by rfl)(hq:selR L O qs p=some O2:=by rfl)(hdn:L2.lookup d=none:=by rfl)(hf:fnB P f=true:=by kernel_rfl):wpList P ops Q (o::rest) a w:=by
 obtain⟨hgd,hd,hN⟩:=zQ hh;have hy':=h.st.has sb _ hy;have hGM:=λ b hb=>(h.ob.at_ p b (hG1 b hb)).2.1
 refine av hgd λ K hK=>OpOut.wp (OpOut.of_enter (f:=f) (args:=((.tmp sb::l).map a.eval).toArray) (w':=w) ?_ ?_)
 ·unfold execOp;rw[ho];have e:a.eval (.func f)=.func _ #[] #[]:=rfl;simp[resolve,e,Deferred.ofValue,invoke,xX hf]
 ·have hM:∀ k,((M k/\¬ G1 k)\/G1 k) ↔ M k:=λ k=>by
   refine⟨λ hk=>hk.elim (λ h=>h.1) (hGM k),λ hk=>?_⟩;by_cases e:G1 k
   ·exact .inr e
   ·exact .inl ⟨hk,e⟩
  rw[cH];refine(hfn (λ b=>M b/\¬ G1 b) G1 w _ _ (λ b hb=>h.st.mok b ((hM b).1 hb)) (λ b hb hm=>hm.2 hb) ((dow oy G1 y).weak hy' λ k _ hk=>(hM k).1 hk) ((hx.all h.st.has).weak λ k _ hk=>(hM k).1 hk)).mono λ en w' ⟨u,Gr,he,hgr,i2,i4,hu⟩=>⟨u,he,?_⟩
  rw[hd];have h1:=h.eff (G':=λ b=>(zj Gs p b/\¬ G1 b)\/Gr b) hp (hgr.mono hG1) (λ b hb=>by
   rcases hb with hb | hb
   ·exact⟨.inl hb.1,ax (h.st.mok b (h.ob.at_ p b hb.1).2.1) hgr.size⟩
   ·exact⟨(i2 b hb).imp (hG1 b) id,i4 b hb⟩) hk hq
  have hM':∀ k,(M k/\¬ zj Gs p k)\/((zj Gs p k/\¬ G1 k)\/Gr k)->(M k/\¬ G1 k)\/Gr k:=λ k hk=>by
   rcases hk with hk | hk | hk
   ·exact .inl ⟨hk.1,λ e=>hk.2 (hG1 k e)⟩
   ·exact .inl ⟨(h.ob.at_ p k hk.1).2.1,hk.2⟩
   ·exact .inr hk
  exact hK _ _ (next (h1.putO hN hdn (r.more (r.weak hu λ k _ hk=>hM' k hk) λ b hb=>.inr hb) λ b hb=>by rw[zk hp];exact hb))
end
section
variable{fn:Func}{look:Nat->Option Dt}
variable{α β:Type}[Rep α][Rep β]
variable{oy:Ow β}{ys:List β}
theorem PH.cap{ow:Ow α}{oy:Ow β}{e:TypeId}{x:α}{v0:Value}{cf:CF}{b off n cap:Nat}{A:Option Addr}{ys:List β}{upd:List β->α}{c:Bool}{G:Nat->Prop}{v:Value}(hP:PH ow x v0 cf (Ow.row e oy) b off ys upd)(hm:(c,b,off,.slice A n cap)∈cf)(hc:c=true)(h:(dnm ow G x v0 cf).rd M w v):n=ys.length/\n<=cap:=by
 obtain⟨_,⟨cs,h2,h3⟩,h4⟩:=h;obtain⟨C,e',hh,hsz,_,G1,G2,_,_,_,_,_,hr,_⟩:=(hP.of h2 h3 h4).here;obtain⟨v,hv,h5⟩:=hr;have e1:w.cell? ⟨b,off,none⟩=some (.slice A n cap):=WL Z (h4 _ hm hc).2.2;have e2:w.cell? ⟨b,off,none⟩=some v:=by simp[World.cell?,hh,Xr hv]
 have e3:Value.slice A n cap=v:=bP (e1.symm.trans e2);rcases h5 with⟨g,cap',cur,Gr,hg,_,hcap,_⟩ | ⟨hx,A',hA⟩
 ·rw[hg] at e3;injection e3 with e4 e5 e6;subst e5;subst e6;exact⟨Z,hcap⟩
 ·rw[hA] at e3;injection e3 with e4 e5 e6;subst e5;subst e6;subst hx;exact⟨Z,ak _⟩
theorem xSlH{ow:Ow α}{x:α}{n cap:Nat}{r:List β}{upd:List β->α}{i:Int}(hP:PH ow x v0 cf (Ow.row e oy) b off ys upd)(hm:(c,b,off,.slice A n cap)∈cf)(hc:c=true)(hs:look sb=some (dnm ow G x v0 cf))
  (ho:o.op=.slice t q none (some h) none) (ht:slB P t (Rep.size β)=true) (hq:OpdR M look q (dis (.slice A n cap))) (hh:OpdR M look h (dt i)) (hr:WB ys i=some r):OpRel P M look o (dis (.slice A i.toNat cap)):=
 zC λ a w _ hl=>by
  obtain⟨h1,h2⟩:=hP.cap hm hc (hl sb _ hs);obtain⟨_,ht⟩:=jJ ht;unfold WB at hr;split at hr
  ·rename_i hi;have hrun:=WH ht A n cap none (some i) (by simp;omega) (by simp;omega) w;simp at hrun;have hA:(if cap=0 then A else A.map (·.add 0))=A:=by
    split
    ·rfl
    ·cases A <;> rfl
   rw[hA] at hrun;refine⟨_,?_,Z⟩;have hv:a.eval q=.slice A n cap:=hq w a hl;unfold execOp;rw[ho];simp[hv,yx.1 (hh w a hl),hrun]
  ·cases hr
theorem xSlL{ow:Ow α}{x:α}{n cap:Nat}{r:List β}{upd:List β->α}{l:Operand}(hP:PH ow x v0 cf (Ow.row e oy) b off ys upd)(hm:(c,b,off,.slice A n cap)∈cf)(hc:c=true)(hs:look sb=some (dnm ow G x v0 cf))
  (ho:o.op=.slice t q (some l) none none) (ht:slB P t (Rep.size β)=true) (hq:OpdR M look q (dis (.slice A n cap))) (hh:OpdR M look l (dt j)) (hr:zaZ ys j=some r):OpRel P M look o (dis (.slice (if cap=j.toNat then A else A.map (·.add (j.toNat*Rep.size β))) (n - j.toNat) (cap - j.toNat))):=
 zC λ a w _ hl=>by
  obtain⟨h1,h2⟩:=hP.cap hm hc (hl sb _ hs);obtain⟨_,ht⟩:=jJ ht;unfold zaZ at hr;split at hr
  ·rename_i hi;have hrun:=WH ht A n cap (some j) none (h1:=(by simp;omega)) (by simp;omega) (by simp;omega) w;simp at hrun;refine⟨_,?_,Z⟩;have hv:a.eval q=.slice A n cap:=hq w a hl;unfold execOp;rw[ho];simp[hv,yx.1 (hh w a hl),hrun]
  ·cases hr
def cutL{γ:Type}(ys:List γ)(i j:Nat):List γ:=ys.take i++ys.drop j++ys.drop (i+(ys.length - j))
theorem zdm{γ:Type}{ys:List γ}{j:Nat}(h1:i<=j)(h2:j<=ys.length):(cutL ys i j).length=ys.length:=by
 simp[cutL];omega
theorem cutRow{g cap j:Nat}{q1 q2:Operand}(ho:o.op=.call { callee:=.builtin .append,args:=#[q1,q2],argTypes:=#[t,t] })(hel:elB P t e (Rep.size β) bytes=true)(hhg:w.heap[g]?=some (.cells cur e (0,0)))(hcs:cur.size=cap*Rep.size β)(hcap:ys.length<=cap)
  (hrr:rowR M w (cur.toList.take (ys.length*Rep.size β)) ys) (hMg:M g) (hij:i<j) (hjn:j<=ys.length) (hv1:a.eval q1=.slice (some ⟨g,0,none⟩) i cap) (hv2:a.eval q2=.slice (if cap=j then some ⟨g,0,none⟩ else(some (⟨g,0,none⟩:Addr)).map (·.add (j*Rep.size β))) (ys.length - j) (cap - j)):
  ∃ cur',(execOp a.eval o).run P w=.ok (.value (.slice (some ⟨g,0,none⟩) (i+(ys.length - j)) cap)) (w.setRow g cur')/\cur'.size=cap*Rep.size β/\(w.setRow g cur').heap[g]?=some (.cells cur' e (0,0))/\rowR M (w.setRow g cur') (cur'.toList.take (ys.length*Rep.size β)) (cutL ys i j):=by
 obtain⟨ti,z,ht1,ht2,hz,hs1,hs2,hs3⟩:=J3 hel;have hcl:cur.toList.length=cap*Rep.size β:=by simpa using hcs
 have hjc:j*Rep.size β<=ys.length*Rep.size β:=aG _ (by omega);have hic:i*Rep.size β<=j*Rep.size β:=aG _ (by omega);have hnc:ys.length*Rep.size β<=cap*Rep.size β:=aG _ hcap;have hnews:=WF j (by omega) hrr;have hnl:((cur.toList.take (ys.length*Rep.size β)).drop (j*Rep.size β)).length=(ys.length - j)*ti.size:=by
  rw[dW,aI,hs1,Nat.sub_mul];omega
 have hcell:∀ k u,((cur.toList.take (ys.length*Rep.size β)).drop _)[k]?=some u->w.cell? ⟨g,j*Rep.size β+k,none⟩=some u:=λ k u hu=>by
  rw[bJ,aE] at hu;split at hu
  ·have:cur[j*Rep.size β+k]?=some u:=by simpa using hu
   simp[World.cell?,hhg,this]
  ·cases hu
 obtain⟨ad,had,hadc⟩:∃ ad:Addr,(if cap=j then some _ else(some (⟨g,0,none⟩:Addr)).map (·.add (j*Rep.size β)))=some ad/\∀ k u,((cur.toList.take _).drop _)[k]?=some u->w.cell? (ad.add k)=some u:=by
  by_cases hcj:cap=j
  ·refine⟨⟨g,0,none⟩,by rw[Kc hcj],λ k u hu=>?_⟩;have:ys.length - j=0:=by omega
   rw[this,dF] at hnl;rw[dl.1 hnl] at hu;simp at hu
  ·refine⟨⟨g,j*Rep.size β,none⟩,by rw[Kd hcj,dG,jq,aB],λ k u hu=>?_⟩;rw[jq];exact hcell k u hu
 have hfit:i*ti.size+((cur.toList.take (ys.length*Rep.size β)).drop (j*Rep.size β)).length<=cur.size:=by
  rw[hnl,hs1,hcs,← dq];exact aG _ (by omega)
 have hrun:=run_append_room w t o.type e ti ht1 ht2 g i cap cur hhg ad _ (cap - j) _ hnl hadc (λ u hu=>JF hnews u hu) (by omega) hfit;rw[had] at hv2;generalize hcur':(cur.toList.take _++((cur.toList.take _).drop _)++cur.toList.drop _).toArray=cur' at hrun;have hsame:∀ k,k≠g->(w.setRow g cur').heap[k]?=w.heap[k]?:=λ k hk=>cG w g k _ hk
 have hrr':rowR M _ _ ys:=Z4 (λ k _ hm=>hsame k λ e=>hm.elim (λ hm=>hm (e ▸ hMg)) λ h=>h.elim) hrr;have hw':(w.setRow g cur').heap[g]?=some _:=ce w g cur cur' e _ hhg;have hc'l:cur'.toList=cur.toList.take (i*Rep.size β)++((cur.toList.take (ys.length*Rep.size β)).drop (j*Rep.size β))++cur.toList.drop ((i+(ys.length - j))*Rep.size β):=by
  rw[← hcur',ca,hnl,hs1,← dq]
 have hlen':=zdm (i:=i) (j:=j) (by omega) (by omega);have htk:cur'.toList.take (ys.length*Rep.size β)=(cur.toList.take (ys.length*Rep.size β)).take (i*Rep.size β)++((cur.toList.take (ys.length*Rep.size β)).drop (j*Rep.size β))++(cur.toList.take (ys.length*Rep.size β)).drop ((i+(ys.length - j))*Rep.size β):=by
  rw[hc'l,cm,bq (by omega)];have hl1:(cur.toList.take (i*Rep.size β)).length=i*Rep.size β:=by rw[aI,hcl];omega
  have hl2:((cur.toList.take (ys.length*Rep.size β)).drop (j*Rep.size β)).length=(ys.length - j)*Rep.size β:=by rw[hnl,hs1]
  have hadd:(i+(ys.length - j))*Rep.size β=i*Rep.size β+(ys.length - j)*Rep.size β:=dq ..;have hle:(i+(ys.length - j))*Rep.size β<=ys.length*Rep.size β:=aG _ (by omega);rw[cg,aJ (by rw[ap,hl1,hl2];omega),ap,hl1,hl2,← hadd];simp only[cS]
 refine⟨cur',?_,?_,hw',?_⟩
 ·unfold execOp;rw[ho];simp[resolve,invoke,builtin,hv1,hv2,hrun]
 ·have:cur'.toList.length=cur'.size:=aP;rw[← this,hc'l];simp;have:(i+(ys.length - j))*Rep.size β=i*Rep.size β+(ys.length*Rep.size β - j*Rep.size β):=by rw[dq,Nat.sub_mul]
  have:(i+(ys.length - j))*Rep.size β<=ys.length*Rep.size β:=aG _ (by omega);omega
 ·rw[htk];exact qO (qO (WG i (by omega) hrr') (WF j (by omega) hrr')) (WF _ (by omega) hrr')
theorem Sx.apCut{ow:Ow α}{x:α}{n cap:Nat}{r1 r2:List β}{upd:List β->α}{q1 q2:Operand}{i:Int}(h:Sx F N M0 M Gs L O a w)(p:Nat)(hP:PH ow x v0 cf (Ow.row e (Ow.frz (α:=β))) b off ys upd)(hm:(c,b,off,.slice A n cap)∈cf)(hc:c=true)
  (hh:opH o N=some d) (ho:o.op=.call { callee:=.builtin .append,args:=#[q1,q2],argTypes:=#[t,t] }) (hel:elB P t e (Rep.size β) bytes=true) (hs:(L++envO O).lookup sb=some (dnm ow G x v0 cf)) (hG:∀ b,G b->zj Gs p b) 
  (h1:OpdR M (λ s=>(L++envO O).lookup s) q1 (dis (.slice A i.toNat cap))) (h2:OpdR M (λ s=>(L++envO O).lookup s) q2 (dis (.slice (if cap=j.toNat then A else A.map (·.add (j.toNat*Rep.size β))) (n - j.toNat) (cap - j.toNat))))
  (hr1:WB ys i=some r1) (hr2:zaZ ys j=some r2) (hij:decide (i<j)=true)
  (ks:List Nat) (hk:selP ks L=some L2) (qs:List Nat) (hq:selR L O qs p=some O2) (hsn:L2.lookup sb=none)
  (next:∀ a' w',Sx F N M0 M Gs ((d,dis (.slice A (i.toNat+(n - j.toNat)) cap))::L2) ((sb,p,dnm ow G (upd (cutL ys i.toNat j.toNat)) v0 [(c,b,off,.slice A n cap)])::O2) a' w'->wpList P ops Q rest a' w')(hp:p<Gs.length:=by simp):wpList P ops Q (o::rest) a w:=by
 have hij:=oD hij;obtain⟨hgd,hd,hN⟩:=zQ hh;have hsv:=h.st.has sb _ hs;obtain⟨en,ecap⟩:=hP.cap hm hc hsv;obtain⟨k1,⟨cs,k2,k3⟩,k4⟩:=hsv;obtain⟨C,e',hhb,hsz,hGb,G1,G2,s1,s2,hdj,n1,n2,hr,put⟩:=(hP.of k2 k3 k4).here;have hI:0<=i/\i<=ys.length:=by
  unfold WB at hr1;split at hr1
  ·rename_i hi;exact⟨by omega,by omega⟩
  ·cases hr1
 have hJ:j<=ys.length:=by
  unfold zaZ at hr2;split at hr2
  ·rename_i hi;omega
  ·cases hr2
 obtain⟨v,hv,h5⟩:=hr;have e1:=WL Z (k4 _ hm hc).2.2;have e2:w.cell? ⟨b,off,none⟩=some v:=by simp[World.cell?,hhb,Xr hv]
 have e3:=bP (e1.symm.trans e2);rcases h5 with⟨g,cap',cur,Gr,hg,hhg,hcap,hcm,hcs,hGg,hng,hsub,hrow⟩ | ⟨hx,_⟩
 ·rw[hg] at e3;injection e3 with e4 e5 e6;subst e4;subst e6;obtain⟨ii,hi⟩:∃ ii:Nat,i=ii:=ay hI.1;obtain⟨jj,hj⟩:∃ jj:Nat,j=jj:=ay (by omega);subst hi;subst hj;subst e5;simp only[aj] at*;have hMg:=(h.ob.at_ p g (hG g (s1 g hGg))).2.1;have hlen':=zdm (ys:=ys) (i:=ii) (j:=jj) (by omega) (by omega);obtain⟨cur',hrun,hsz',hw',hrow'⟩:=cutRow ho hel hhg hcs hcap (Jk hrow) hMg (by omega) (by omega) (h1 w a λ s y hs=>h.st.has s y hs) (h2 w a λ s y hs=>h.st.has s y hs);have hgb:g≠b:=λ e=>n1 (e ▸ hGg)
  have hgr:Grown (zj Gs p) w (w.setRow g cur'):=(Grown.of_grownBy (yU)).mono λ k (hk:some g=some k)=>by
   injection hk with hk;rw[← hk];exact hG g (s1 g hGg)
  have hsame:∀ k,k≠g->(w.setRow g cur').heap[k]?=w.heap[k]?:=λ k hk=>cG w g k _ hk
  have hro:(Ow.row e _).ro M G1 _ _ _:=
   ⟨_,hv,.inl ⟨g,cap,cur',Gr,by rw[hlen'];exact hg,hw',by rw[hlen'];exact hcap,hcm,hsz',hGg,hng,hsub,J9 (by rw[hlen'];exact hrow')⟩⟩
  refine av hgd λ K hK=>OpOut.wp (OpOut.of_value (v:=.slice (some ⟨g,0,none⟩) (ii+(ys.length - jj)) cap) (w':=w.setRow g cur') ?_ ?_)
  ·exact hrun
  ·rw[hd];have st:=h.mut hp hgr hk hq;refine hK _ _ (next _ _ ((st.addO (x:=dnm ow G _ v0 [(c,b,off,.slice _ ys.length cap)]) hsn ⟨k1,⟨cs,?_,k3⟩,λ q hq' hcc=>?_⟩ hG).putL hN Z Z))
   ·have hL:Later M G2 w M _:=⟨λ _ _ h=>h,λ k hk hm=>hsame k λ e=>hm.elim (λ hm=>hm (e ▸ hMg)) λ h2=>hdj k (e ▸ hGg) h2⟩;exact put hL hro hdj s1 s2
   ·rcases am.1 hq' with rfl | hq'
    ·refine⟨hGb,?_,?_⟩
     ·show b<(w.setRow g cur').heap.size;have:(w.setRow g cur').heap.size=w.heap.size:=by simp[World.setRow]
      rw[this];exact xG hhb
     ·exact zeE (k4 _ hm hc).2.2 (hsame b (bo hgb))
    ·cases hq'
 ·subst hx;simp at hI hJ;omega
theorem Sx.stSh{ow:Ow α}{x:α}{n cap:Nat}{upd:List β->α}{v:Operand}(h:Sx F N M0 M Gs L O a w)(p:Nat)(hP:PH ow x v0 cf (Ow.row e (Ow.frz (α:=β))) b off ys upd)(hm:(c,b,off,.slice A n cap)∈cf)(hc:c=true)
  (ho:o.op=.store t q v) (hgd:o.guard=none) (hd:o.dst=none) (ht:tyB P t false 1=true) (hs:(L++envO O).lookup sb=some (dnm ow G x v0 cf)) (hG:∀ b,G b->zj Gs p b) 
  (hpl:OpdR M (λ s=>(L++envO O).lookup s) q (dis (.pointer (some ⟨b,off,none⟩)))) (hvl:OpdR M (λ s=>(L++envO O).lookup s) v (dis (.slice A m cap))) (hmn:m<=n)
  (ks:List Nat) (hk:selP ks L=some L2) (qs:List Nat) (hq:selR L O qs p=some O2) (hsn:L2.lookup sb=none)
  (next:∀ w',Sx F N M0 M Gs L2 ((sb,p,dnm ow G (upd (ys.take m)) v0 [])::O2) a w'->wpList P ops Q rest a w')(hp:p<Gs.length:=by simp):wpList P ops Q (o::rest) a w:=by
 have hsv:=h.st.has sb _ hs;obtain⟨en,ecap⟩:=hP.cap hm hc hsv;obtain⟨k1,⟨cs,k2,k3⟩,k4⟩:=hsv;obtain⟨G1,G2,C,e',s1,s2,hGb,n1,n2,hdj,hhb,hsz,hr,put⟩:=hP.of k2 k3 k4;obtain⟨v1,hv,h5⟩:=hr;have e1:=WL Z (k4 _ hm hc).2.2;have e2:w.cell? ⟨b,off,none⟩=some v1:=by simp[World.cell?,hhb,Xr hv]
 have e3:=bP (e1.symm.trans e2);have hpv:a.eval q=.pointer _:=hpl w a λ s y hs=>h.st.has s y hs
 have hvv:a.eval v=.slice A m cap:=hvl w a λ s y hs=>h.st.has s y hs
 have hMb:=(h.ob.at_ p b (hG b hGb)).2.1;have hrun:=xy (v:=a.eval v) (cs:=[a.eval v]) ht (by rw[hvv];rfl) hhb hsz (λ x hx=>by rw[aF.1 hx,hvv];rfl);rw[hvv] at hrun;generalize hC':(C.toList.take off++[Value.slice A m cap]++C.toList.drop _).toArray=C' at hrun;have hw':(w.setRow b C').heap[b]?=some _:=ce w b C C' e' _ hhb;have hsame:∀ k,k≠b->(w.setRow b C').heap[k]?=w.heap[k]?:=λ k hk=>cG w b k _ hk
 have hgr:Grown (zj Gs p) w (w.setRow b C'):=(Grown.of_grownBy (yU)).mono λ k (hk:some b=some k)=>by
  injection hk with hk;rw[← hk];exact hG b hGb
 have hro:(Ow.row e (Ow.frz)).ro M G1 (w.setRow b C') [.slice A m cap] (ys.take m):=by
  have hl:(ys.take m).length=m:=by rw[aI];omega
  rcases h5 with⟨g,cap',cur,Gr,hg,hhg,hcap,hcm,hcs,hGg,hng,hsub,hrow⟩ | ⟨hx,A',hA⟩
  ·rw[hg] at e3;injection e3 with e4 e5 e6;subst e4;subst e6;have hgb:g≠b:=λ e=>n1 (e ▸ hGg)
   have hrr:=WG m (by omega) (Z4 (w':=w.setRow b C') (λ k _ hm=>hsame k λ e=>hm.elim (λ hm=>hm (e ▸ hMb)) λ h=>h.elim) (Jk hrow));refine⟨_,Z,.inl ⟨g,cap,cur,Gr,by rw[hl],(hsame g hgb).trans hhg,by rw[hl];omega,hcm,hcs,hGg,hng,hsub,?_⟩⟩;rw[cm,bq (aG _ (by omega))] at hrr;rw[hl];exact J9 hrr
  ·rw[hA] at e3;injection e3 with e4 e5 e6;subst hx;subst e5;subst e6;have:m=0:=by omega
   subst this;exact⟨_,Z,.inr ⟨Z,A,Z⟩⟩
 refine av hgd λ K hK=>OpOut.wp (OpOut.of_skip (w':=w.setRow b C') ?_ ?_)
 ·unfold execOp;rw[ho];simp[Instr.storeAt,Instr.sureAddr,hpv,hvv,hrun]
 ·rw[hd];have st:=h.mut hp hgr hk hq;refine hK _ _ (next _ (st.addO hsn ⟨k1,⟨cs,?_,k3⟩,λ q hq' _=>by cases hq'⟩ hG));have hL:Later M G2 w M _:=⟨λ _ _ h=>h,λ k hk hm=>hsame k λ e=>hm.elim (λ hm=>hm (e ▸ hMb)) λ h2=>n2 (e ▸ h2)⟩;exact put hL (by rw[hw',← hC'];rfl) hro n1 hdj hGb s1 s2
theorem cut_le{τ:Type}{ys r1 r2:List τ}{i:Int}(h1:WB ys i=some r1)(_h2:zaZ ys j=some r2)(h:decide (i<j)=true):i.toNat+(ys.length - j.toNat)<=ys.length:=by
 have h:=oD h;unfold WB at h1;grind
end
section
variable{α β γ:Type}[Rep α][Rep β][Rep γ]
variable{fn:Func}{look:Nat->Option Dt}
theorem Sx.ownC{ow:Ow α}{t:Nat}{x:Bx α}(h:Sx F N M0 M Gs L O a w)(ht:tyB P ty (Rep.agg α) (Rep.size α)=true)(hl:(L++envO O).lookup t=some (dnm ow.box G x v0 cf)):
  ∃ (A:Addr) (v:Value) (Gr:Nat->Prop),a.tmps.getD t undef=.pointer (some A)/\(loadVar ty A).run P w=.ok v w/\(∀ b,Gr b->G b)/\(dow ow Gr x.x).rd M w v:=by
 obtain⟨h1,⟨cs,⟨b,C,e,Gr,hc,hb,hGb,hn,hs,hro⟩,h3⟩,_⟩:=h.st.has t _ hl;have hrr:=ow.toR hro;have hc':∀ j u,C.toList[j]?=some u->w.cell? ⟨b,0+j,none⟩=some u:=λ j u hj=>by
  rw[aB];have:C[j]?=some u:=by simpa using hj
  simp[World.cell?,hb,this]
 exact⟨_,_,Gr,(by rw[← show Act.at a t=a.tmps.getD t undef from Z,h1,h3,hc];rfl:a.tmps.getD t undef=.pointer _),yH ht (Rep.len hrr) Rep.one hc',hs,_,hro,Z⟩
theorem Sx.boxC{t:Nat}{x:α}(h:Sx F N M0 M Gs L O a w)(ht:tyB P ty (Rep.agg α) (Rep.size α)=true)(hl:(L++envO O).lookup t=some (dbox g 0 x)):∃ (A:Addr) (v:Value),a.tmps.getD t undef=.pointer (some A)/\(loadVar ty A).run P w=.ok v w/\(dt x).rd M w v:=by
 obtain⟨b,_,hv,C,e,cs,hb,hc,hrr⟩:=h.st.has t _ hl;have hc':∀ j u,cs[j]?=some u->w.cell? ⟨b,0+j,none⟩=some u:=λ j u hj=>by
  have:=hc j u hj;rw[aB] at this ⊢;simp[World.cell?,hb,this]
 exact⟨_,_,hv,yH ht (Rep.len hrr) Rep.one hc',cs,hrr,Z⟩
theorem Sx.rtCt{ow:Ow α}{t u:Nat}{x:Bx α}{y:β}{r:α×β}(h:Sx (Frm.chg w0 G0) N M0 M Gs L O a w)(p:Nat)(hr:fn.results=#[.cell t ty,.tmp u])(ht:tyB P ty (Rep.agg α) (Rep.size α)=true)(hl:(L++envO O).lookup t=some (dnm ow.box G x v0 cf))(hl2:(L++envO O).lookup u=some (dt y))(hm:some (x.x,y)=some r)(hG:∀ b,G b->zj Gs p b:=by exact λ _ h=>h):
  bodyPost P fn (RetTk M0 w0 G0 (.t2o ow r.1 (dt r.2))) .ret a w:=by
 injection hm with hm;subst hm;obtain⟨A,v,Gr,h1,h2,hs,h3⟩:=h.ownC ht hl;have hM:∀ k,k<w.heap.size->M0 k\/Gr k->M k:=λ k _ hk=>hk.elim (h.ob.sub k) λ hk=>(h.ob.at_ p k (hG k (hs k hk))).2.1
 exact⟨h.st.defers,_,zcM hr h1 h2,_,Gr,Z,h.st.fr,λ k hk=>(h.ob.at_ p k (hG k (hs k hk))).1,λ k hk=>h.st.mok k (h.ob.at_ p k (hG k (hs k hk))).2.1,_,_,Z,(dow ow Gr x.x).weak h3 hM,(dt y).weak (h.st.has u _ hl2) hM,Z⟩
theorem Sx.rtCC{ow:Ow α}{t u:Nat}{x:Bx α}{y:β}{r:α×β}(h:Sx (Frm.chg w0 G0) N M0 M Gs L O a w)(p:Nat)(ht2:tyB P ty2 (Rep.agg β) (Rep.size β)=true)(hm:some (x.x,y)=some r)(hr:fn.results=#[.cell t ty,.cell u ty2]:=by rfl)(hl:(L++envO O).lookup t=some (dnm ow.box G x v0 cf):=by rfl)(hl2:(L++envO O).lookup u=some (dbox g 0 y):=by rfl)(hG:∀ b,G b->zj Gs p b:=by exact λ _ h=>h)(ht:tyB P ty (Rep.agg α) (Rep.size α)=true:=by kernel_rfl):
  bodyPost P fn (RetTk M0 w0 G0 (.t2o ow r.1 (dt r.2))) .ret a w:=by
 injection hm with hm;subst hm;obtain⟨A,v,Gr,h1,h2,hs,h3⟩:=h.ownC ht hl;obtain⟨A2,v2,k1,k2,k3⟩:=h.boxC ht2 hl2;have hM:∀ k,k<w.heap.size->M0 k\/Gr k->M k:=λ k _ hk=>hk.elim (h.ob.sub k) λ hk=>(h.ob.at_ p k (hG k (hs k hk))).2.1
 exact⟨h.st.defers,_,results_cc hr h1 h2 k1 k2,_,Gr,Z,h.st.fr,λ k hk=>(h.ob.at_ p k (hG k (hs k hk))).1,λ k hk=>h.st.mok k (h.ob.at_ p k (hG k (hs k hk))).2.1,_,_,Z,(dow ow Gr x.x).weak h3 hM,(dt y).weak k3 hM,Z⟩
theorem FnN.thin{f:FuncId}{xs:List Dt}{o1 o2:Ow α}{x:α}(ht:Thin o1 o2)(h:FnN P f xs (.ow o1 x)):FnN P f xs (.ow o2 x):=λ M w vs hm hr=>(h M w vs hm hr).mono λ en w' ⟨v,G,he,hex,hG,⟨cs,h2,h3⟩⟩=>by
 obtain⟨G',s1,h4⟩:=ht h2;refine⟨v,G',he,hex,λ b hb=>hG b (s1 b hb),cs,o2.weak h4 λ k _ hk=>?_,h3⟩;rcases hk with hk | hk
 ·exact⟨.inl hk,.inl λ hg=>by have:=(hG k hg).1;have:=hm k hk;omega⟩
 ·exact⟨.inr (s1 k hk),.inr hk⟩
end
section
variable{fn:Func}{look:Nat->Option Dt}
variable{α β:Type}[Rep α][Rep β]
theorem Sx.stN{ow ow2:Ow α}{oy:Ow β}{q:Nat}{x x2:α}{y':β}(h:Sx F N M0 M Gs L O a w)(p:Nat)(ho:o.op=.store t (.tmp q) vo)(hgd:o.guard=none)(hd:o.dst=none)(ht:tyB P t (Rep.agg β) (Rep.size β)=true)(hp:p<Gs.length)
  (hq':Act.at a q=.pointer (some ⟨b,off,none⟩)) (hcv:(a.eval vo).cells.toList=cy) (hy:oy.ro M G3 w cy y') (hs:(L++envO O).lookup sb=some (dnm ow.box G ⟨x⟩ (.pointer (some ⟨b,0,none⟩)) cf)) (hG:∀ b,G b->zj Gs p b) (hG3:∀ b,G3 b->¬ zj Gs p b) (hoff:off+Rep.size β<=Rep.size α)
  (hnew:∀ {M G1 G3:Nat->Prop} {w:World} {cells:List Value},ow.ro M G1 w cells x->oy.ro M G3 w cy y'->(∀ k,G1 k->¬ G3 k)->ow2.ro M (λ k=>G1 k\/G3 k) w (cells.take off++cy++cells.drop (off+Rep.size β)) x2)
  (ks:List Nat) (hk:selP ks L=some L2) (qs:List Nat) (hq:selR L O qs p=some O2)
  (next:∀ w',Sx F N M0 M Gs L2 O2 a w'->(dnm ow2.box (λ k=>G k\/G3 k) ⟨x2⟩ (.pointer (some ⟨b,0,none⟩)) []).rd M w' (Act.at a sb)->wpList P ops Q rest a w'):wpList P ops Q (o::rest) a w:=by
 obtain⟨h1,⟨cs,⟨b',C,e,Gr,hc,hh,hGb,hn,hsub,hro⟩,h3⟩,_⟩:=h.st.has sb _ hs;have hb:b'=b:=by
  rw[hc] at h3;have h3:=h3;injection h3 with h3;injection h3 with h3;injection h3 with h3;exact h3.symm
 subst hb;have hcl:=oy.len hy;have hCl:=ow.len hro;have hCs:C.size=Rep.size α:=by rw[← aP];exact hCl
 have hone:=oy.one hy;have hob:=hG b' hGb;have hMb:=(h.ob.at_ p b' hob).2.1;have hrun:=xy (by rw[hcl];exact ht) hcv hh (by rw[hcl,hCs];exact hoff) hone;generalize hC':(C.toList.take off++cy++C.toList.drop _).toArray=C' at hrun;have hw':(w.setRow b' C').heap[b']?=some _:=ce w b' C C' e _ hh;have hsame:∀ k,k≠b'->(w.setRow b' C').heap[k]?=w.heap[k]?:=λ k hk=>cG w b' k _ hk
 have hgr:Grown (zj Gs p) w (w.setRow b' C'):=(Grown.of_grownBy (yU)).mono λ k (hk:some b'=some k)=>by
  injection hk with hk;rw[← hk];exact hob
 have hL:∀ G5:Nat->Prop,¬ G5 b'->Same M G5 w _:=λ G5 hn5 k _ hm=>hsame k λ e=>hm.elim (λ hm=>hm (e ▸ hMb)) λ h2=>hn5 (e ▸ h2)
 have nb3:=λ h3=>hG3 b' h3 hob
 refine av hgd λ K hK=>OpOut.wp (OpOut.of_skip (w':=w.setRow b' C') ?_ ?_)
 ·unfold execOp;rw[ho];have hpv':a.eval (.tmp q)=.pointer _:=hq';simp[Instr.storeAt,Instr.sureAddr,hpv',hrun]
 ·rw[hd];refine hK _ _ (next _ (h.mut hp hgr hk hq) ⟨h1,⟨_,⟨b',C',e,λ k=>Gr k\/G3 k,Z,hw',.inl hGb,λ h=>h.elim hn nb3,λ k hk=>hk.imp (hsub k) id,?_⟩,Z⟩,λ q hq _=>by cases hq⟩);have:=hnew (ow.stable hro (hL Gr hn)) (oy.stable hy (hL G3 nb3)) λ k hk hk2=>hG3 k hk2 (hG k (hsub k hk))
  have e1:C'.toList=C.toList.take off++cy++C.toList.drop (off+Rep.size β):=by rw[← hC',ca,hcl]
  show ow2.ro M _ _ C'.toList x2;rw[e1];exact this
theorem Sx.stFz{ow ow2:Ow α}{x y:α}(h:Sx F N M0 M Gs L O a w)(p:Nat)(hz:∀ {M:Nat->Prop} {w:World} {cs:List Value},Rep.rdc M w cs y->ow2.ro M noB w cs y)(ho:o.op=.store t (.tmp sb) vo)(hgd:o.guard=none)(hd:o.dst=none)(ht:tyB P t (Rep.agg α) (Rep.size α)=true)
  (hs:(L++envO O).lookup sb=some (dnm ow.box G ⟨x⟩ (.pointer (some ⟨b,0,none⟩)) cf)) (hvl:OpdR M (λ s=>(L++envO O).lookup s) vo (dt y)) (hG:∀ b,G b->zj Gs p b)
  (ks:List Nat) (hk:selP ks L=some L2) (qs:List Nat) (hq:selR L O qs p=some O2) (hsn:L2.lookup sb=none)
  (next:∀ w',Sx F N M0 M Gs L2 ((sb,p,dnm ow2.box G ⟨y⟩ (.pointer (some ⟨b,0,none⟩)) [])::O2) a w'->wpList P ops Q rest a w')(hp:p<Gs.length:=by simp):wpList P ops Q (o::rest) a w:=by
 have hy:=XV (hvl w a λ s y hs=>h.st.has s y hs);refine h.stN (ow2:=ow2) (oy:=Ow.frz) (G3:=noB) (x2:=y) p ho hgd hd ht hp (h.st.has sb _ hs).1 Z hy hs hG (λ _ h=>h.elim) (by omega) (λ{M G1 G3 w cells} h1 h2 _=>?_) ks hk qs hq λ w' st hr=>next w' (st.addO hsn ?_ hG)
 ·have hl:=ow.len h1;rw[bU,bc,bu (by omega),aM];exact ow2.more (hz h2) λ _ h=>h.elim
 ·have e:(λ k=>G k\/noB k)=G:=by funext k;simp[noB]
  rwa[e] at hr
theorem owDir.ofR{cs:List Value}{y:Dir}(h:Rep.rdc M w cs y):(owDir (Ow.frz (α:=List Str))).ro M noB w cs y:=by
 obtain⟨c0,r0,hc,k0,c1,r1,hc1,k1,c2,c3,hc2,k2,k3⟩:=h;exact⟨noB,noB,c0,r0,λ _ h=>h.elim,λ _ h=>h.elim,λ _ h=>h.elim,hc,k0,noB,noB,c1,r1,λ _ h=>h.elim,λ _ h=>h.elim,λ _ h=>h.elim,hc1,k1,noB,noB,c2,c3,λ _ h=>h.elim,λ _ h=>h.elim,λ _ h=>h.elim,hc2,k2,k3⟩
theorem Sx.stTk{ow ow2:Ow α}{q:Nat}{x x2:α}{r:List β}(h:Sx F N M0 M Gs L O a w)(p p2:Nat)
  (hnew:∀ {M G1 G3:Nat->Prop} {w:World} {cells cy:List Value},ow.ro M G1 w cells x->(Ow.row e (Ow.frz (α:=β))).ro M G3 w cy r->(∀ k,G1 k->¬ G3 k)->ow2.ro M (λ k=>G1 k\/G3 k) w (cells.take off++cy++cells.drop (off+1)) x2)
  (ho:o.op=.store t (.tmp q) (.tmp tv)) (hgd:o.guard=none) (hd:o.dst=none) (ht:tyB P t false 1=true)   
  (hpl:OpdR M (λ s=>(L++envO O).lookup s) (.tmp q) (dis (.pointer (some ⟨b,off,none⟩)))) (hvl:(L++envO O).lookup tv=some (dow (Ow.row e (Ow.frz (α:=β))) G3 r)) (hs:(L++envO O).lookup sb=some (dnm ow.box G ⟨x⟩ (.pointer (some ⟨b,0,none⟩)) cf)) (hG:∀ b,G b->zj Gs p b) (hG3:∀ b,G3 b->zj Gs p2 b)
  (ks:List Nat) (hk:selP ks L=some L2) (qs:List Nat) (hq:selR L O qs p=some O2) (hq2:O2.all (λ q=>q.2.1 != p2)=true) (hsn:L2.lookup sb=none)
  (next:∀ G' w',Sx F N M0 M ((Gs.set p G').set p2 (oneB none)) L2 ((sb,p,dnm ow2.box G' ⟨x2⟩ (.pointer (some ⟨b,0,none⟩)) [])::O2) a w'->wpList P ops Q rest a w')(hoff:off+1<=Rep.size α:=by decide)(hp:p<Gs.length:=by simp)(hp2:p2<Gs.length:=by simp)(hne:p≠p2:=by decide):wpList P ops Q (o::rest) a w:=by
 obtain⟨cy,hy,hyv⟩:=h.st.has tv _ hvl;have hcv:(Act.at a tv).cells.toList=cy:=by rw[hyv];exact Zz ((Ow.row e _).toR hy)
 refine h.stN p ho hgd hd ht hp (hpl w a λ s y hs=>h.st.has s y hs) hcv hy hs hG (λ b hb hb2=>h.ob.apart p p2 b hne hb2 (hG3 b hb)) hoff hnew ks hk qs hq λ w' st hr=>?_
 have k1:=st.mrg hp hp2 hne hq2;have ej:JB Gs p p2=(Gs.set p (λ b=>zj Gs p b\/zj Gs p2 b)).set p2 _:=rfl;rw[ej] at k1;refine next _ w' (k1.addO hsn ⟨hr.1,?_,λ q hq _=>by cases hq⟩ λ c hc=>?_)
 ·obtain⟨cs,h1,h2⟩:=hr.2.1;exact⟨cs,(ow2.box).more h1 λ k hk=>hk.imp (hG k) (hG3 k),h2⟩
 ·rw[zq (bo hne),zk hp];exact hc
theorem owDir.tk{x:Dir}{r:List Str}{cells:List Value}(h1:(owDir (Ow.frz (α:=List Str))).ro M G1 w cells x)(h2:(Ow.row e (Ow.frz (α:=Str))).ro M G3 w cy r)(_:∀ k,G1 k->¬ G3 k):(owDir (Ow.row e (Ow.frz (α:=Str)))).ro M (λ k=>G1 k\/G3 k) w (cells.take 3++cy++cells.drop (3+1)) { x with names:=r }:=by
 obtain⟨_,_,c0,r0,_,_,_,hc,k0,_,_,c1,r1,_,_,_,hc1,k1,_,_,c2,c3,_,_,_,hc2,k2,k3⟩:=h1;have l0:c0.length=1:=Rep.len k0;have l1:c1.length=1:=Rep.len k1;have l2:c2.length=1:=Rep.len k2;have l3:c3.length=1:=Rep.len k3;rw[hc1,hc2] at hc;have e1:cells.take 3=c0++(c1++c2):=by
  rw[hc,← aA,← aA,de (by simp[l0,l1,l2]),aA]
 have e2:cells.drop (3+1)=[]:=by rw[bu];simp[hc,l0,l1,l2,l3]
 rw[e1,e2,aM];have:=owDir.mk (x:={ x with names:=r }) k0 k1 k2 h2;simp at this;rw[aA,aA];exact(owDir _).more this λ _ h=>.inr h
end
structure RInvK(P:Program)(F:Frm)(M:Nat->Prop)(ops:Array Oper)(N k:Nat)(T:List (List Nat))(xs:List (Nat×Dt))(s sb:Nat)(G:Nat->Prop)(Z:Dt)(a0:Act)(w1:World)(listed:Array Bool)(a:Act)(w:World):Prop where
 sz:listed.size=ops.size
 size:a.tmps.size=N
 defers:a.defers=a0.defers
 fr:F.J w
 grown:Grown G w1 w
 ext:listed.getD s false=false->Ext0 w1 w
 tail:∀ i,k<=i->listed.getD i false=false
 clos:zam T ops.size listed
 done:∀ i,i≠s->listed.getD i false=true->∀ x d,xs[i]?=some (d,x)->(listed.getD s false=false\/∀ b,x.own b->¬ G b)->x.rd M w (Act.at a d)
 rest:∀ t,(∀ i,listed.getD i false=true->xA ops i≠some t)->Act.at a t=Act.at a0 t
 z:listed.getD s false=true->Z.rd M w (Act.at a sb)
section
variable{T:List (List Nat)}{S:List (List (Nat×Option Nat))}
theorem draw_lateK(h:jf ops k T S=true)(hk:k<=ops.size){Z:Dt}
  (hsk:s<k) (hos:ops[s]?=some os) (hosd:os.dst=none) (hosg:os.guard=none) (hGM:∀ b,G b->M b) (hGF:∀ b,G b->F.Own b) (hZ:∀ {w w':World} {v:Value},Z.rd M w v->Ext0 w w'->Z.rd M w' v) (hDn:∀ (i:Nat) (x:Dt),D[i]?=some x->∀ b,x.own b->¬ G b) (hl:∀ i,i<k->i≠s->(i∈T.getD s []\/∀ t y,YM (S.getD i []) L D t=some y->∀ b,y.own b->¬ G b)/\xA ops i≠some sb)
  (hst:St F N M L a0 w1) (hreg:RegL P M ops N S L D s 0 (ops.toList.take k) xs)
  (JX:∀ a w,Ext0 w1 w->(∀ t y,YM (S.getD s []) L D t=some y->y.rd M w (Act.at a t))->Act.at a sb=Act.at a0 sb->OpOut P os a w (λ _ w'=>Grown G w w'/\Z.rd M w' (Act.at a sb)))
  (hQ:∀ a' w',F.J w'->Grown G w1 w'->a'.tmps.size=N->a'.defers=a0.defers->(∀ t x,(xs++L).lookup t=some x->x.nb=true->x.rd M w' (Act.at a' t))->(∀ t,(∀ i,i<k->xA ops i≠some t)->Act.at a' t=Act.at a0 t)->Z.rd M w' (Act.at a' sb)->wpList P ops Q (ops.toList.drop k) a' w'):
  ∀ (f:Nat) (listed:Array Bool) (a:Act) (w:World),left ops.size listed=f->RInvK P F M ops N k T xs s sb G Z a0 w1 listed a w->wpAny P .any ops Q f listed a w:=by
 have hlen:xs.length=k:=by rw[← hreg.get.1];simp;omega
 have hget:∀ i o,i<k->i≠s->ops[i]?=some o->∃ x d,xs[i]?=some (d,x)/\o.dst=some d/\d<N/\D[i]?=some x/\OpG P M ops N (YM (S.getD i []) L D) o x:=by
  intro i o hi hne ho;have:=hreg.get.2 i o (by rw[aE,Kc hi];simpa using ho) (by omega);simpa using this
 have hdst:∀ i x d,i≠s->xs[i]?=some (d,x)->i<k/\xA ops i=some d:=by
  intro i x d hne hx;have hi:i<k:=by rw[← hlen];exact(ai.1 hx).1
  obtain⟨o,ho⟩:∃ o,ops[i]?=some o:=⟨_,aq (by omega)⟩;obtain⟨x',d',h1,h2,_⟩:=hget i o hi hne ho;rw[hx] at h1;injection h1 with h1;injection h1 with h1 _;exact⟨hi,by simp[xA,ho,h2,h1]⟩
 have hlate:=hl;have hxsN:∀ t x,(t,x)∈xs->∀ i,xs[i]?=some (t,x)->i=s->x.nb=true->x=dtrue:=by
  intro t x _ i hi hs _;subst hs;have key:∀ {i0:Nat} {l:List Oper} {xs:List _},RegL P M ops N S L D i i0 l xs->∀ n y,i0+n=i->xs[n]?=some y->y=(N,dtrue):=by
   intro i0 l xs hr
   induction hr with
   | nil=>intro n y _ h;simp at h
   |cons hi hd hN hx h hr ih=>
    intro n y hn hy;cases n with
    | zero=>simp at hi;omega
    | succ n=>exact ih n y (by omega) (by simpa using hy)
   |late hi hr ih=>
    intro n y hn hy;cases n with
    | zero=>simp at hy;exact hy.symm
    | succ n=>simp at hi;omega
  have:=key hreg i _ (by omega) hi;injection this
 have finish:∀ (f:Nat) (listed:Array Bool) (a:Act) (w:World),left ops.size listed=f->RInvK P F M ops N k T xs s sb G Z a0 w1 listed a w->(∀ i,i<k->listed.getD i false=true)->wpAny P .any ops Q f listed a w:=by
  intro f listed a w hf inv hall;refine tail_any h f k listed (by rw[← hf];exact Qp hk hall inv.tail) (ak _) inv.sz hall inv.tail a w (hQ a w inv.fr inv.grown inv.size inv.defers (λ t x hs hnb=>?_) (λ t ht=>inv.rest t λ i hi=>?_) (inv.z (hall s hsk)))
  ·rcases ql xs L t x hs with hm | ⟨hno,hl'⟩
   ·obtain⟨i,hi⟩:=aN hm;by_cases hne:i=s
    ·rw[hxsN t x hm i hi hne hnb];trivial
    ·exact inv.done i hne (hall i (hdst i x t hne hi).1) x t hi (.inr λ b hb=>(x.nob hnb b hb).elim)
   ·rw[inv.rest t (λ i hi hd=>?_)]
    ·exact nb_grown hnb (hst.has t x hl') inv.grown hGM
    ·have hik:i<k:=by
      rcases aR i k with hx | hx
      ·exact hx
      ·rw[inv.tail i hx] at hi;cases hi
     by_cases hne:i=s
     ·subst hne;simp[xA,hos,hosd] at hd
     ·obtain⟨o,ho⟩:∃ o,ops[i]?=some o:=⟨_,aq (by omega)⟩;obtain⟨x',d',h1,h2,_⟩:=hget i o hik hne ho;simp[xA,ho,h2] at hd;subst hd;exact hno x' (ac h1)
  ·have hik:i<k:=by
    rcases aR i k with hx | hx
    ·exact hx
    ·rw[inv.tail i hx] at hi;cases hi
   exact ht i hik
 intro f
 induction f with
 |zero=>
  intro listed a w hf inv;refine finish 0 listed a w hf inv (λ i hi=>?_);have h1:i ∉ (List.range ops.size).filter λ i=>!listed.getD i false:=by
   rw[ar hf];intro h;cases h
  rw[dc] at h1;have:=λ hx=>h1 ⟨az.2 (by omega),hx⟩
  simpa using this
 |succ f ih=>
  intro listed a w hf inv;by_cases hall:∀ i,i<k->listed.getD i false=true
  ·exact finish _ listed a w hf inv hall
  ·simp at hall;obtain⟨p,hp,hup⟩:=hall;have hup:listed.getD p false=false:=by simpa using hup
   refine⟨λ hnil=>absurd hnil (zc0 h inv.sz (by omega) hup),λ i hi=>?_⟩;obtain⟨hilt,hiu,hicl⟩:=ze5 h inv.clos hi;have hiu':listed.getD i false=false:=by rw[YN (by rw[inv.sz];exact hilt) false true];exact hiu
   obtain⟨o,ho⟩:∃ o,ops[i]?=some o:=⟨_,aq hilt⟩;have hik:i<k:=by
    rcases aR i k with hx | hx
    ·exact hx
    ·have:=hicl p ((zcY h ho).2.2.2 hx p (by omega));rw[hup] at this;cases this
   obtain⟨hS1,hS2,hdd⟩:=(zcY h ho).2.2.1 hik;have hlook:(listed.getD s false=false\/∀ t y,YM (S.getD i []) L D t=some y->∀ b,y.own b->¬ G b)->∀ t y,YM (S.getD i []) L D t=some y->y.rd M w (Act.at a t):=by
    intro hc t y hy;have hny:=hc.imp id λ hn=>hn t y hy
    unfold YM at hy;split at hy
    ·rename_i j hj;have hmem:=jp _ _ _ hj;obtain⟨hd1,hT,hjk⟩:=hS1 t j hmem;obtain⟨o',ho'⟩:∃ o',ops[j]?=some o':=⟨_,aq (by omega)⟩;have hjs:j≠s:=by
      intro e;subst e;simp[xA,hos,hosd] at hd1
     obtain⟨x',d',g1,g2,_,g4,_⟩:=hget j o' hjk hjs ho';rw[g4] at hy;injection hy with hy;subst hy;have:d'=t:=by simpa[xA,ho',g2] using hd1
     subst this;exact inv.done j hjs (hicl j hT) _ _ g1 (.inr (hDn _ _ g4))
    ·rename_i hj;have hmem:=jp _ _ _ hj;rw[inv.rest t (λ m hm hd=>?_)]
     ·rcases hny with h0 | h0
      ·exact y.ext (hst.has t y hy) (inv.ext h0)
      ·exact y.stable (hst.has t y hy) λ n hn hm=>inv.grown.block n hn λ e=>hm.elim (λ h=>h (hGM n e)) λ h=>h0 n h e
     ·have hmlt:m<ops.size:=by rw[← inv.sz];exact QB hm
      have:=hS2 t hmem m hmlt hd;have:=inv.clos m hmlt hm i this;rw[hiu'] at this;cases this
    ·cases hy
   have hmok:=λ b hb=>ax (hst.mok b hb) inv.grown.size
   unfold wpOp;simp[ho];by_cases hne:i=s
   ·subst hne;have:o=os:=by rw[hos] at ho;injection ho with ho;exact ho.symm
    subst this;rw[Kc (Z3 hosg)];refine .inl (OpOut.wp ((JX a w (inv.ext hiu') (hlook (.inl hiu')) (inv.rest sb λ j hj hd=>?_)).mono λ v w' ⟨hg,hz⟩=>?_))
    ·have hjk:j<k:=by
      rcases aR j k with hx | hx
      ·exact hx
      ·rw[inv.tail j hx] at hj;cases hj
     by_cases hji:j=i
     ·subst hji;rw[hiu'] at hj;cases hj
     ·exact(hlate j hjk hji).2 hd
    ·rw[hosd];have hgr:=inv.grown.trans hg λ _ _ h=>h
     refine ih _ _ _ (by have:=zcZ hilt inv.sz hiu';omega) ⟨by simpa using inv.sz,inv.size,inv.defers,F.own inv.fr hg hGF,hgr,λ hf'=>?_,λ j hj=>?_,zcz h inv.sz inv.clos hi,λ j hjs hj y e hy hny=>?_,λ t ht=>inv.rest t λ j hj=>ht j ?_,λ _=>hz⟩
     ·rw[xg (by rw[inv.sz];exact hilt)] at hf';cases hf'
     ·rw[zY (by omega)];exact inv.tail j hj
     ·rw[zY (λ e=>hjs e.symm)] at hj;rcases hny with h0 | h0
      ·rw[xg (by rw[inv.sz];exact hilt)] at h0;cases h0
      ·exact y.stable (inv.done j hjs hj y e hy (.inr h0)) λ n hn hm=>hg.block n hn λ eg=>hm.elim (λ h=>h (hGM n eg)) λ h=>h0 n h eg
     ·by_cases hij:i=j
      ·subst hij;exact xg (by rw[inv.sz];exact hilt)
      ·rw[zY hij];exact hj
   ·obtain⟨x,d,hx,hod,hdN,hDx,hg⟩:=hget i o hik hne ho;have hcond:listed.getD s false=false\/∀ t y,YM (S.getD i []) L D t=some y->∀ b,y.own b->¬ G b:=by
     cases hs:listed.getD s false with
     | false=>exact .inl rfl
     |true=>
      rcases(hlate i hik hne).1 with hT | hn
      ·have:=inv.clos s (by omega) hs i hT;rw[hiu'] at this;cases this
      ·exact .inr hn
    have hstep':=hg.step hmok (hlook hcond) inv.size;have hnext:∀ v w',Ext0 w w'->x.rd M w' v->wpAny P .any ops Q f (listed.setIfInBounds i true) (a.put o.dst v) w':=by
     intro v w' he hv;refine ih _ _ _ (by have:=zcZ hilt inv.sz hiu';omega) ⟨by simpa using inv.sz,by rw[Act.put_size];exact inv.size,by rw[Act.put_defers];exact inv.defers,F.ext inv.fr he,inv.grown.trans (Grown.of_ext he) λ _ _ h=>h.elim,λ hf'=>?_,λ j hj=>?_,zcz h inv.sz inv.clos hi,λ j hjs hj y e hy hny=>?_,λ t ht=>?_,λ hz=>?_⟩
     ·rw[zY hne] at hf';exact(inv.ext hf').trans he
     ·rw[zY (by omega)];exact inv.tail j hj
     ·rw[zY hne] at hny;rw[hod];by_cases hij:i=j
      ·subst hij;rw[hx] at hy;injection hy with hy;injection hy with hy1 hy2;subst hy1;subst hy2;rw[Act.at_put_self (by rw[inv.size];exact hdN)];exact hv
      ·rw[zY hij] at hj;obtain⟨hjk,hjd⟩:=hdst j y e hjs hy;have hne':(some d:Option Nat)≠some e:=by
        intro he';have h1:xA ops i=some d:=by simp[xA,ho,hod]
        rcases Nat.lt_or_gt_of_ne hij with hlt | hgt
        ·obtain⟨o',ho'⟩:∃ o',ops[j]?=some o':=⟨_,aq (by omega)⟩;exact((zcY h ho').2.2.1 hjk).2.2 i hlt (by rw[h1,hjd,he'])
        ·exact hdd j hgt (by rw[h1,hjd,he'])
       rw[Act.at_put_other hne'];exact y.ext (inv.done j hjs hj y e hy hny) he
     ·rw[hod,Act.at_put_other]
      ·exact inv.rest t (λ j hj=>ht j (by
        by_cases hij:i=j
        ·subst hij;exact xg (by rw[inv.sz];exact hilt)
        ·rw[zY hij];exact hj))
      ·have:=ht i (xg (by rw[inv.sz];exact hilt));simpa[xA,ho,hod] using this
     ·rw[zY hne] at hz;have hsb:(some d:Option Nat)≠some sb:=by
       have:=(hlate i hik hne).2;simpa[xA,ho,hod] using this
      rw[hod,Act.at_put_other hsb];exact hZ (inv.z hz) he
    split
    ·rename_i hw;exact .inl (OpOut.wp ((hstep'.1 hw).mono λ v w' ⟨he,hv⟩=>hnext v w' he hv))
    ·rename_i hw;exact hnext undef w (Ext0.refl w) (hstep'.2 (by simpa using hw))
end
def chkLateK(ops:Array Oper)(k s sb:Nat)(T:List (List Nat))(S:List (List (Nat×Option Nat))):Bool:=
 (List.range k).all λ i=>i == s||(((T.getD s []).contains i||(S.getD i []).all λ q=>q.1 != sb)&&xA ops i != some sb)
def KD(Gs:List (Nat->Prop))(p:Nat):List Dt->Prop
 | []=>True
 | y::l=>(y.nb=true\/∃ p',p'≠p/\∀ b,y.own b->zj Gs p' b)/\KD Gs p l
theorem KD.get{Gs:List (Nat->Prop)}{p:Nat}:∀ {l:List Dt},KD Gs p l->∀ y∈l,y.nb=true\/∃ p',p'≠p/\∀ b,y.own b->zj Gs p' b
 |_::l,h,y,hy=>by
  rcases am.1 hy with rfl | hy
  ·exact h.1
  ·exact KD.get h.2 y hy
theorem lookS_in{t:Nat}(h:YM C L D t=some y):(∃ q∈C,q.1=t)/\((∃ i:Nat,D[i]?=some y)\/L.lookup t=some y):=by
 unfold YM at h;grind
def dcs(b:Nat)(cs:List Value):Dt where
 rd _ w _:=∃ C e,w.heap[b]?=some (.cells C e (0,0))/\C.toList=cs
 own:=oneB (some b)
 nb:=false
 nob h:=by cases h
 stable:=λ⟨C,e,hh,hc⟩ k=>⟨C,e,(k b (xG hh) (.inr Z)).trans hh,hc⟩
 weak h _:=h
section
theorem Sx.lateO{α:Type}[Rep α]{id:Nat}{t q s4 b4:Nat}{ow ow1:Ow α}{x0 x:α}{cs:Array Value}{cf1:CF}(h:Sx F N M0 M Gs L O a w)(p p2:Nat)
  (hm:P.follows .mixedOrders=true) (k s:Nat) (S:List (List (Nat×Option Nat)))     (hs:RegL P M ops N S (L++envO O) D s 0 (ops.toList.take k) xs) (hDn:KD Gs p D)
          
  (hpl:OpdR M (YM (S.getD s []) (L++envO O) D) (.tmp q) (dis (.pointer (some ⟨b,0,none⟩)))) (hvl:OpdR M (YM (S.getD s []) (L++envO O) D) vo (dis (.agg cs))) (hcs:cs.size=Rep.size α)
      (hcf:(true,b4,0,.agg cs)∈cf)
   (ks:List Nat)  (qs:List Nat)    
  (hQ:∀ G' a' w',Sx F N M0 M ((Gs.set p G').set p2 (oneB none)) L2 ((sb,p,dnm ow.box G' ⟨x⟩ (.pointer (some ⟨b,0,none⟩)) [])::O2) a' w'->wpList P ops Q (ops.toList.drop k) a' w')(hc:jf ops k (cloT ops) S=true:=by decide +kernel)(hkn:k<=ops.size:=by decide)(hsk:s<k:=by decide)(hl:chkLateK ops k s sb (cloT ops) S=true:=by rfl)(hso:ops[s]?=some o:=by rfl)(ho:o.op=.store t (.tmp q) vo:=by rfl)(hgd:o.guard=none:=by rfl)(hd:o.dst=none:=by rfl)(hp:p<Gs.length:=by simp)(hp2:p2<Gs.length:=by simp)(hne:p≠p2:=by decide)(hsl:(L++envO O).lookup sb=some (dnm ow1.box Gt ⟨x0⟩ (.pointer (some ⟨b,0,none⟩)) cf1):=by rfl)(hGt:∀ b,Gt b->zj Gs p b:=by exact λ _ h=>h)(hs4:(L++envO O).lookup s4=some (dnm ow.box G4 ⟨x⟩ (.pointer (some ⟨b4,0,none⟩)) cf):=by rfl)(hG4:∀ b,G4 b->zj Gs p2 b:=by exact λ _ h=>h)(hOp:O.all (λ q=>q.2.1 != p||q.1 == sb)=true:=by rfl)(hk:selP ks (xs++(L++envO O))=some L2:=by rfl)(hq:selR L O qs p=some O2:=by rfl)(hq2:O2.all (λ q=>q.2.1 != p2)=true:=by rfl)(hO2:chkO ops k O2=true:=by rfl)(hdn:L2.lookup sb=none:=by rfl)(ht:tyB P t (Rep.agg α) (Rep.size α)=true:=by kernel_rfl)(_hag:Rep.agg α=true:=by rfl):(Code.region id ops true).wp P Q a w:=by
 obtain⟨j1,⟨c1,⟨b',C1,e1,Gr1,hc1,hh1,hGb1,hn1,hs1,hro1⟩,j3⟩,_⟩:=h.st.has sb _ hsl;have hb':b'=b:=by
  rw[hc1] at j3;have j3:=j3;injection j3 with j3;injection j3 with j3;injection j3 with j3;exact j3.symm
 subst hb';have hob:=hGt b' hGb1;have hgM:∀ n,oneB (some b') n->M n:=λ n hn=>by
  have hn:=hn;injection hn with hn;rw[← hn];exact(h.ob.at_ p b' hob).2.1
 have hgF:∀ n,oneB (some b') n->F.Own n:=λ n hn=>by
  have hn:=hn;injection hn with hn;rw[← hn];exact(h.ob.at_ p b' hob).1
 have hC1:C1.size=Rep.size α:=by rw[← aP];exact ow1.len hro1
 have he:Ext0 w { w with drawn:=w.drawn+1 }:=Ext0.drawn w _;have hst':St F N M _ a { w with drawn:=w.drawn+1 }:=⟨F.ext h.st.fr he,h.st.size,h.st.defers,h.st.mok,λ s x hs=>x.ext (h.st.has s x hs) he⟩;obtain⟨i1,⟨c4,⟨b4',C4,e4,Gr4,hc4,hh4,hGb4,hn4,hsub4,hro4⟩,i3⟩,i4⟩:=h.st.has s4 _ hs4;have hb4:b4'=b4:=by
  rw[hc4] at i3;have i3:=i3;injection i3 with i3;injection i3 with i3;injection i3 with i3;exact i3.symm
 subst hb4;have hC4:C4.toList=cs.toList:=by
  have h5:=(i4 _ hcf Z).2.2;have hl4:=ow.len hro4;apply aX;intro j;by_cases hj:j<Rep.size α
  ·have hj':j<cs.size:=by omega
   have h6:=h5 j cs[j] (by simp[hj']);have h7:C4[j]?=some cs[j]:=by simpa[World.cell?,hh4] using h6
   rw[cR,h7];simp[hj']
  ·rw[bp (by omega),bp (by simp;omega)]
 have hnb:b4'≠b':=λ e=>h.ob.apart p p2 b' hne hob (e ▸ hG4 b4' hGb4)
 have hnG:∀ n,Gr4 n->n≠b':=λ n hn e=>h.ob.apart p p2 b' hne hob (e ▸ hG4 n (hsub4 n hn))
 refine wp_region_any hm ?_;have hall:∀ i,(Array.replicate ops.size false).getD i false=false:=λ i=>by
  rcases aR i ops.size with hi | hi <;> simp[hi]
 have hleft:left ops.size (Array.replicate ops.size false)=ops.size:=by
  have:=Qp (n:=ops.size) (by omega) (λ i hi=>absurd hi (Nat.not_lt_zero _)) (λ i _=>hall i);simpa using this
 have hKD:∀ y∈D,∀ n,y.own n->¬ oneB (some b') n:=λ y hy n hn hn2=>by
  have hn2:=hn2;injection hn2 with hn2;subst hn2;rcases hDn.get y hy with h3 | ⟨p',h3,h4⟩
  ·exact y.nob h3 _ hn
  ·exact h.ob.apart p' p b' h3 (h4 b' hn) hob
 refine draw_lateK (sb:=sb) hc hkn hsk hso hd hgd hgM hgF (λ h e=>(dcs b' cs.toList).ext h e) (λ i y hy=>hKD y (ac hy)) (λ i hi hne'=>?_) hst' hs (λ a' w' e hlk hsb=>?_) (λ a' w' hj hgr hsz hdf hnb' hrest hz=>?_) _ _ _ _ hleft
  ⟨by simp,hst'.size,Z,hst'.fr,Grown.refl _ _,λ _=>Ext0.refl _,λ i _=>hall i,λ i _ hl=>(by rw[hall i] at hl;cases hl),λ i _ hl=>(by rw[hall i] at hl;cases hl),λ _ _=>rfl,λ hl=>(by rw[hall] at hl;cases hl)⟩
 ·have h2:=al.1 hl i (az.2 hi);simp only[bB,beq_iff_eq,af,bne_iff_ne,ne_eq,bF] at h2;obtain⟨h3,h4⟩:=h2.resolve_left hne';refine⟨h3.imp (λ h=>h) λ h3 tt y hy n hn hnb2=>?_,h4⟩;obtain⟨⟨q0,hq0,hqt⟩,h5⟩:=lookS_in hy;have htsb:tt≠sb:=by
   have:=al.1 h3 q0 hq0;rw[← hqt];simpa using this
  rcases h5 with⟨m,hm'⟩ | h5
  ·exact hKD y (ac hm') n hn hnb2
  ·rcases yq h5 with h6 | ⟨_,h6⟩
   ·exact y.nob (h.no tt y h6) n hn
   ·obtain⟨p',hp'⟩:=Jh h6;have h7:=al.1 hOp _ hp';simp at h7;have h8:=h.ow.get _ hp' n hn;have hnb2:=hnb2;injection hnb2 with hnb2;subst hnb2;exact h.ob.apart p' p b' (h7.resolve_right htsb) h8 hob
 ·have hpv:a'.eval _=.pointer _:=hpl w' a' hlk;have hvv:=hvl w' a' hlk;have hhb:=(e.block b' (xG hh1)).trans hh1;have hone:∀ u∈cs.toList,u.oneCell'=true:=by rw[← hC4];exact ow.one hro4
  have hrun:=xy (off:=0) (v:=a'.eval vo) (by rw[aP,hcs];exact ht) (by rw[hvv];rfl) hhb (by rw[aP];omega) hone;have hC':C1.toList.take 0++cs.toList++C1.toList.drop (0+cs.toList.length)=cs.toList:=by
   rw[bU,bc,bu (by rw[aP,aP];omega),aM]
  rw[hC'] at hrun;refine OpOut.of_skip (w':=w'.setRow b' cs.toList.toArray) ?_ ⟨Grown.of_grownBy yU,cs.toList.toArray,e1,ce w' b' C1 _ e1 _ hhb,Z⟩;unfold execOp;rw[ho];simp[Instr.storeAt,Instr.sureAddr,hpv,hrun]
 ·obtain⟨C',e',hz1,hz2⟩:=hz;have hgr1:=((Grown.of_ext he).mono λ _ h=>h.elim).trans hgr λ _ _ h=>h
  have hsbv:=hrest sb λ i hi=>by
   by_cases his:i=s
   ·subst his;simp[xA,hso,hd]
   ·have h2:=al.1 hl i (az.2 hi);simp at h2;exact(h2.resolve_left his).2
  have k0:Sx F N M0 M Gs L2 O2 a' w':=by
   refine⟨⟨hj,hsz,by rw[hdf];exact hst'.defers,λ b hb=>ax (hst'.mok b hb) hgr.size,λ t' x' hx'=>?_⟩,h.ob,λ t' x' hx'=>((wc hk).spec t' x' hx').2,AllOw.of λ q' hq' b hb=>h.ow.get _ (ZB hq _ hq').1 b hb⟩;rcases yq hx' with h1 | ⟨h0,h1⟩
   ·obtain⟨h2,h3⟩:=(wc hk).spec t' x' h1;exact hnb' t' x' h2 h3
   ·obtain⟨p',hp'⟩:=Jh h1;obtain⟨g1,g2,g3⟩:=ZB hq _ hp';have hno:=λ i hi=>by
     have:=al.1 (al.1 hO2 _ hp') i (az.2 hi);simpa using this
    rw[hrest t' hno];refine x'.stable (hst'.has t' x' g3) λ n hn hm'=>hgr.block n hn λ(e:some b'=some n)=>?_
    injection e with e;subst e;rcases hm' with hm' | hm'
    ·exact hm' (hgM _ Z)
    ·exact h.ob.apart p' p b' g2 (h.ow.get _ g1 b' hm') hob
  have k1:=k0.mrg hp hp2 hne hq2;have ej:JB Gs p p2=(Gs.set p (λ b=>zj Gs p b\/zj Gs p2 b)).set p2 _:=rfl;rw[ej] at k1;refine hQ (λ b=>zj Gs p b\/zj Gs p2 b) a' w' (k1.addO hdn ⟨hsbv.trans j1,⟨_,⟨b',C',e',Gr4,Z,hz1,.inl hob,λ hn=>hnG b' hn Z,λ n hn=>.inr (hG4 n (hsub4 n hn)),?_⟩,Z⟩,λ q hq _=>by cases hq⟩ λ c hc=>?_)
  ·rw[hz2,← hC4];refine ow.stable hro4 λ n hn hm'=>hgr1.block n hn λ(e:some b'=some n)=>?_
   injection e with e;subst e;exact hm'.elim (λ hm'=>hm' (hgM _ Z)) λ hm'=>hnG _ hm' Z
  ·rw[zq (bo hne),zk hp];exact hc
end
def dbd(G:Nat->Prop)(n:Nat):Dt where
 rd _ w v:=∃ b C e,v=.pointer (some ⟨b,0,none⟩)/\G b/\w.heap[b]?=some (.cells C e (0,0))/\C.size=n
 own:=G
 nb:=false
 nob h:=by cases h
 stable:=λ⟨b,C,e,hv,hG,hh,hn⟩ k=>⟨b,C,e,hv,hG,(k b (xG hh) (.inr hG)).trans hh,hn⟩
 weak h _:=h
section
variable{fn:Func}
variable{α:Type}[Rep α]
theorem Sx.ldK{ow:Ow α}{x:Bx α}(h:Sx F N M0 M Gs L O a w)(p p2:Nat)(ht:tyB P t (Rep.agg α) (Rep.size α)=true)
  (ks:List Nat)  (qs:List Nat)    
  (next:∀ G1 G2 a' w',Sx F N M0 M ((Gs.set p G1).set p2 G2) L2 ((d,p2,dow ow G2 x.x)::(sb,p,dbd G1 (Rep.size α))::O2) a' w'->wpList P ops Q rest a' w')(hh:opH o N=some d:=by rfl)(ho:o.op=.load t (.tmp sb):=by rfl)(hsl:(L++envO O).lookup sb=some (dnm ow.box G x v0 cf):=by rfl)(hp:p<Gs.length:=by simp)(hp2:p2<Gs.length:=by simp)(hne:p≠p2:=by decide)(hG:∀ b,G b->zj Gs p b:=by exact λ _ h=>h)(hk:selP ks L=some L2:=by rfl)(hq:selR L O qs p=some O2:=by rfl)(hq2:O2.all (λ q=>q.2.1 != p&&q.2.1 != p2)=true:=by rfl)(hdn:L2.lookup d=none:=by rfl)(hsn:L2.lookup sb=none:=by rfl):wpList P ops Q (o::rest) a w:=by
 obtain⟨hgd,hd,hN⟩:=zQ hh;obtain⟨h1,⟨cs,⟨b,C,e,Gr,hc,hb,hGb,hn,hs,hro⟩,h3⟩,_⟩:=h.st.has sb _ hsl;have hrr:=ow.toR hro;have hc':∀ j u,C.toList[j]?=some u->w.cell? ⟨b,0+j,none⟩=some u:=λ j u hj=>by
  rw[aB];have:C[j]?=some u:=by simpa using hj
  simp[World.cell?,hb,this]
 have hld:=yH ht (Rep.len hrr) Rep.one hc';have hsv:Act.at a sb=.pointer (some ⟨b,0,none⟩):=by rw[h1,h3,hc];rfl
 refine av hgd λ K hK=>OpOut.wp (OpOut.of_value (v:=mkv (Rep.agg α) C.toList) (w':=w) ?_ ?_)
 ·unfold execOp;rw[ho];have hev:a.eval (.tmp sb)=.pointer _:=hsv;simp[Instr.loadAt,Instr.sureAddr,hev,hld]
 ·rw[hd];have k1:=h.mut hp (Grown.refl _ w) hk hq;have k2:=k1.spl hp hp2 hne (λ k hk=>by rw[show k=b from hk];exact hG b hGb) (λ k hk=>hG k (hs k hk)) (λ k hk hg=>hn ((show k=b from hk) ▸ hg)) hq2;have k3:=k2.addO (x:=dbd (λ k=>k=b) (Rep.size α)) hsn ⟨b,C,e,hsv,Z,hb,by rw[← aP];exact ow.len hro⟩ λ k hk=>by rw[zq (bo hne),zk hp];exact hk
  exact hK _ _ (next _ Gr _ _ (k3.putO hN hdn ⟨_,hro,Z⟩ λ k hk=>by rw[zk (by simpa using hp2)];exact hk))
theorem Sx.stRv{ow:Ow α}{n:Nat}{y:α}(h:Sx F N M0 M Gs L O a w)(p p2:Nat)(ho:o.op=.store t (.tmp sb) (.tmp tv))(hgd:o.guard=none)(hd:o.dst=none)(ht:tyB P t (Rep.agg α) (Rep.size α)=true)
  (hsl:(L++envO O).lookup sb=some (dbd G1 n)) (hn:n=Rep.size α)  (hvl:(L++envO O).lookup tv=some (dow ow G3 y)) 
  (ks:List Nat) (hk:selP ks L=some L2) (qs:List Nat) (hq:selR L O qs p=some O2) (hq2:O2.all (λ q=>q.2.1 != p2)=true) (hsn:L2.lookup sb=none)
  (next:∀ G' w',Sx F N M0 M ((Gs.set p G').set p2 (oneB none)) L2 ((sb,p,dow ow.box G' ⟨y⟩)::O2) a w'->wpList P ops Q rest a w')(hp:p<Gs.length:=by simp)(hp2:p2<Gs.length:=by simp)(hne:p≠p2:=by decide)(hG1:∀ b,G1 b->zj Gs p b:=by exact λ _ h=>h)(hG3:∀ b,G3 b->zj Gs p2 b:=by exact λ _ h=>h):wpList P ops Q (o::rest) a w:=by
 obtain⟨b,C,e,hsv,hGb,hh,hsz⟩:=h.st.has sb _ hsl;obtain⟨cy,hy,hyv⟩:=h.st.has tv _ hvl;have hcl:=ow.len hy;have hone:=ow.one hy;have hcv:(a.eval (.tmp tv)).cells.toList=cy:=by
  have:a.eval (.tmp tv)=mkv _ cy:=hyv;rw[this];exact Zz (ow.toR hy)
 have hob:=hG1 b hGb;have hMb:=(h.ob.at_ p b hob).2.1;have hrun:=xy (off:=0) (by rw[hcl];exact ht) hcv hh (by rw[hcl,hsz,hn];omega) hone;have hC':C.toList.take 0++cy++C.toList.drop (0+cy.length)=cy:=by
  rw[bU,bc,bu (by rw[aP];omega),aM]
 rw[hC'] at hrun;have hw':(w.setRow b cy.toArray).heap[b]?=some _:=ce w b C _ e _ hh;have hgr:Grown (zj Gs p) w (w.setRow b cy.toArray):=(Grown.of_grownBy (yU)).mono λ k (hk:some b=some k)=>by
  injection hk with hk;rw[← hk];exact hob
 have nb3:∀ k,G3 k->k≠b:=λ k hk e=>h.ob.apart p p2 b hne hob (e ▸ hG3 k hk)
 refine av hgd λ K hK=>OpOut.wp (OpOut.of_skip (w':=w.setRow b cy.toArray) ?_ ?_)
 ·unfold execOp;rw[ho];have hpv:a.eval (.tmp sb)=.pointer _:=hsv;simp[Instr.storeAt,Instr.sureAddr,hpv,hrun]
 ·rw[hd];have k1:=(h.mut hp hgr hk hq).mrg hp hp2 hne hq2;have ej:JB Gs p p2=(Gs.set p (λ b=>zj Gs p b\/zj Gs p2 b)).set p2 _:=rfl;rw[ej] at k1;refine hK _ _ (next (λ b=>zj Gs p b\/zj Gs p2 b) _ (k1.addO hsn ⟨_,⟨b,_,e,G3,Z,hw',.inl hob,λ h3=>nb3 b h3 Z,λ k hk=>.inr (hG3 k hk),?_⟩,hsv⟩ λ c hc=>?_))
  ·rw[ca];exact ow.stable hy λ k _ hm=>cG w b k _ λ e=>by
    rw[e] at hm;exact hm.elim (λ hm=>hm hMb) λ h3=>nb3 b h3 Z
  ·rw[zq (bo hne),zk hp];exact hc
end
structure FzC where
 M:Nat->Prop
 w:World
def Fz(c:FzC)(w:World):Prop:=∀ k,k<c.w.heap.size->¬ c.M k->w.heap[k]?=c.w.heap[k]?
theorem Fz.lt{c:FzC}(h:Fz c w)(hk:k<c.w.heap.size)(hm:¬ c.M k):k<w.heap.size:=by
 have h1:=h k hk hm;grind
def dfz(c:FzC):Dt where
 rd M w _:=(∀ k,k<c.w.heap.size->M k->c.M k)/\Fz c w
 own:=noB
 nb:=true
 nob _ _ h:=h
 stable:=λ⟨h2,h3⟩ e=>⟨h2,λ k hk hm=>(e k (h3.lt hk hm) (.inl λ h=>hm (h2 k hk h))).trans (h3 k hk hm)⟩
 weak:=λ⟨h2,h3⟩ e=>⟨λ k hk hm=>Classical.byContradiction λ hc=>hc (h2 k hk (e k (h3.lt hk hc) hm)),h3⟩
section
variable{α:Type}[Rep α]
theorem Sx.heldF(h:Sx F N M0 M Gs L O a w){id:Nat}(hm:P.follows .mixedOrders=true)
  (hQ:∀ (c:FzC) w',(∀ w2,Fz c w2->∀ k,k<w'.heap.size->¬ M k->w2.heap[k]?=w'.heap[k]?)->Sx F N M0 M Gs ((N,dfz c)::L) O a w'->wpAnyH P .any ops Q (Fz c) ops.size (Array.replicate ops.size false) a w'):(Code.region id ops true).wp P Q a w:=
 wp_region_held hm (hQ ⟨M,w⟩ _ (λ _ h=>h) (h.drew.addL ⟨λ _ _ h=>h,λ _ _ _=>Z⟩))
theorem Sx.fzS{g:Nat}{c:FzC}(h:Sx F N M0 M Gs L O a w)(hs:(L++envO O).lookup g=some (dfz c):=by rfl):Fz c w:=(h.st.has g _ hs).2
theorem Sx.tkLp{x:α}(h:Sx F N M0 M Gs L O a w)
   (hS:S w) (hz:∀ w2,S w2->∀ k,k<w.heap.size->¬ M k->w2.heap[k]?=w.heap[k]?)   (hq:OpdR M (λ s=>(L++envO O).lookup s) q (dptr x))
  (next:∀{a'},Sx F N M0 M Gs ((d,dt x)::L) O a' w->wpAnyH P .any ops Q S f (listed.setIfInBounds i true) a' w)(ho:ops[i]?=some o:=by rfl)(hh:opH o N=some d:=by rfl)(hs:Region.noSelect ops=true:=by decide +kernel)(hf:Region.free .any ops listed i=true:=by decide +kernel)(hr:(Region.ready .any ops listed).contains i=true:=by decide +kernel)(hQ:∀ c a w v,Q (.panic c) (a.put o.dst v) w->Q (.panic c) a w:=by exact λ _ _ _ _ h=>h)(hop:o.op=.load t q:=by rfl)(ht:tyB P t (Rep.agg α) (Rep.size α)=true:=by kernel_rfl):wpAnyH P .any ops Q S (f+1) listed a w:=by
 obtain⟨b,off,cs,hv,hb,hc,hr2⟩:=hq w a λ s y hy=>h.st.has s y hy
 have hpos:=Rep.pos (α:=α);have hl:=Rep.len hr2;have hlt:b<w.heap.size:=by
  have h1:=hc 0 _ (aa (by omega:0<cs.length));unfold World.cell? at h1;cases he:w.heap[b]? with
  | none=>simp[he] at h1
  | some v=>exact(aD.1 he).1
 refine h.tkY (y:=dt x) ho hh hs hf hr (λ c a w=>hQ c a w _) hS (λ w' hw'=>?_) ⟨cs,hr2,Z⟩ Z (λ _ h_=>next h_);have hcell:=λ j u hj=>(cell_same (hz w' hw' b hlt hb)).trans (hc j u hj)
 have hld:=yH ht hl Rep.one hcell;unfold execOp;rw[hop];simp[Instr.loadAt,Instr.sureAddr,hv,hld]
theorem xEx2p{look:Nat->Option Dt}{ow:Ow α}{x:α}(ho:o.op=.extract q 1)(hq:q=.tmp s)(hs:look s=some (drd (Rd.t2o ow x y) G)):OpRel P M look o y:=
 zC λ a w _ hl=>by
  obtain⟨u1,u2,hv,_,h2⟩:=hl s _ hs;refine⟨u2,?_,h2.1⟩;have he:a.eval q=.tuple #[u1,u2]:=by rw[hq];exact hv
  unfold execOp;rw[ho];simp[he,Instr.extract]
end
theorem lt_i64{n m:Int}(h:i64 (n+1)=some m):n<m:=by have:=(i64_get h).1;omega
section
variable{α β:Type}[Rep α][Rep β]
variable{fn:Func}
end
section
variable{fn:Func}{look:Nat->Option Dt}
variable{α β:Type}[Rep α][Rep β]
variable{ys:List β}
theorem Sx.capN{n cap:Nat}(h:Sx F N M0 M Gs L O a w)(hs:(L++envO O).lookup s=some (dnm (Ow.row e (Ow.frz (α:=β))) G ys (.slice A n cap) cf)):n=ys.length/\n<=cap:=by
 obtain⟨_,⟨cs,⟨v,hv,h5⟩,h3⟩,_⟩:=h.st.has s _ hs;subst hv;have h3:=h3;rcases h5 with⟨g,cap',cur,Gr,hg,_,hcap,_⟩ | ⟨hx,A',hA⟩
 ·rw[hg] at h3;injection h3 with e4 e5 e6;subst e5;subst e6;exact⟨Z,hcap⟩
 ·rw[hA] at h3;injection h3 with e4 e5 e6;subst e5;subst e6;subst hx;exact⟨Z,ak _⟩
theorem op_sl{n cap:Nat}{lo:Option Operand}{i j:Option Int}(ho:o.op=.slice t q lo hi none)(ht:slB P t sz=true)(hq:OpdR M look q (dis (.slice A n cap)))
  (hl:∀ (w:World) (a:Act),(∀ s y,look s=some y->y.rd M w (Act.at a s))->lo.map a.eval=i.map (Value.int .i64)) (hh:∀ (w:World) (a:Act),(∀ s y,look s=some y->y.rd M w (Act.at a s))->hi.map a.eval=j.map (Value.int .i64))
  (h1:0<=i.getD 0) (h2:i.getD 0<=j.getD n) (h3:j.getD n<=cap):OpRel P M look o (dis (.slice (if cap=(i.getD 0).toNat then A else A.map (·.add ((i.getD 0).toNat*sz))) ((j.getD n).toNat - (i.getD 0).toNat) (cap - (i.getD 0).toNat))):=
 zC λ a w _ hlk=>by
  obtain⟨_,ht⟩:=jJ ht;have hrun:=WH ht A n cap i j (h1:=h1) h2 h3 w;refine⟨_,?_,Z⟩;have hv:a.eval q=.slice A n cap:=hq w a hlk;unfold execOp;rw[ho];simp[hl w a hlk,hh w a hlk,hv,hrun]
theorem op_sl3{n cap:Nat}{x1 x2 x3:Operand}{i m:Int}(ho:o.op=.slice t q (some x1) (some x2) (some x3))(ht:slB P t sz=true)(hq:OpdR M look q (dis (.slice A n cap)))(h1:OpdR M look x1 (dt i))(h2:OpdR M look x2 (dt j))(h3:OpdR M look x3 (dt m))
  (k1:0<=i) (k2:i<=j) (k3:j<=m) (k4:m<=cap):OpRel P M look o dtrue:=
 zC λ a w _ hlk=>by
  obtain⟨_,ht⟩:=jJ ht;obtain⟨ti,ht1,ht2,ht3⟩:=Zy ht;obtain⟨i,rfl⟩:=ay k1;obtain⟨j,rfl⟩:=ay (cr k1 k2);obtain⟨m,rfl⟩:=ay (cr (cr k1 k2) k3);have e1:i<=j:=by omega
  have e2:j<=m:=by omega
  have e3:m<=cap:=by omega
  have hv:a.eval q=.slice A n cap:=hq w a hlk;have hrun:∃ v,(Instr.sliceAt t (.slice A n cap) (some (.int .i64 (i:Int))) (some (.int .i64 (j:Int))) (some (.int .i64 (m:Int)))).run P w=.ok v w:=by
   simp[Instr.sliceAt,Instr.slice,aw ht1,Instr.sliceBounds,Instr.sliceBound,asIntOf,sizeOf,typeInfo,ht2,ht3,e1,e2,e3]
  obtain⟨v,hrun⟩:=hrun;refine⟨v,?_,trivial⟩;unfold execOp;rw[ho];simp[hv,yx.1 (h1 w a hlk),yx.1 (h2 w a hlk),yx.1 (h3 w a hlk),hrun]
theorem Sx.apCutV{n cap j:Nat}{q1 q2:Operand}(h:Sx F N M0 M Gs L O a w)(p:Nat)
  (hh:opH o N=some d) (ho:o.op=.call { callee:=.builtin .append,args:=#[q1,q2],argTypes:=#[t,t] }) (hel:elB P t e (Rep.size β) bytes=true) (hs:(L++envO O).lookup sb=some (dnm (Ow.row e (Ow.frz (α:=β))) G ys (.slice A n cap) [])) (hG:∀ b,G b->zj Gs p b) 
  (h1:OpdR M (λ s=>(L++envO O).lookup s) q1 (dis (.slice A i cap))) (h2:OpdR M (λ s=>(L++envO O).lookup s) q2 (dis (.slice (if cap=j then A else A.map (·.add (j*Rep.size β))) (n - j) (cap - j))))
  (hij:i<j) (hjn:j<=ys.length)
  (ks:List Nat) (hk:selP ks L=some L2) (qs:List Nat) (hq:selR L O qs p=some O2) (hdn:L2.lookup d=none)
  (next:∀ g a' w',Sx F N M0 M Gs L2 ((d,p,dnm (Ow.row e (Ow.frz (α:=β))) G (ys.take i++ys.drop j) (.slice (some ⟨g,0,none⟩) (i+(n - j)) cap) [])::O2) a' w'->wpList P ops Q rest a' w')(hp:p<Gs.length:=by simp):wpList P ops Q (o::rest) a w:=by
 obtain⟨hgd,hd,hN⟩:=zQ hh;obtain⟨_,⟨cs,⟨v,hv,h5⟩,k3⟩,_⟩:=h.st.has sb _ hs;subst hv;have e3:=k3;rcases h5 with⟨g,cap',cur,Gr,hg,hhg,hcap,hcm,hcs,hGg,hng,hsub,hrow⟩ | ⟨hx,_⟩
 ·rw[hg] at e3;injection e3 with e4 e5 e6;subst e4;subst e6;subst e5;have hMg:=(h.ob.at_ p g (hG g hGg)).2.1;obtain⟨cur',hrun,hsz',hw',hrow'⟩:=cutRow ho hel hhg hcs hcap (Jk hrow) hMg hij hjn (h1 w a λ s y hs=>h.st.has s y hs) (h2 w a λ s y hs=>h.st.has s y hs);have hgr:Grown (zj Gs p) w (w.setRow g cur'):=(Grown.of_grownBy (yU)).mono λ k (hk:some g=some k)=>by
   injection hk with hk;rw[← hk];exact hG g hGg
  have hlen':(ys.take i++ys.drop j).length=i+(ys.length - j):=by simp;omega
  have hrow2:=WG (i+(ys.length - j)) (by rw[zdm (by omega) hjn];omega) hrow';rw[cm,bq (aG _ (by omega)),show(cutL ys i j).take _=ys.take i++ys.drop j from de hlen'] at hrow2;have hro:(Ow.row e _).ro M G _ [.slice _ _ cap] _:=
   ⟨_,by rw[hlen'],.inl ⟨g,cap,cur',Gr,Z,hw',by rw[hlen'];omega,hcm,hsz',hGg,hng,hsub,J9 (by rw[hlen'];exact hrow2)⟩⟩
  refine av hgd λ K hK=>OpOut.wp (OpOut.of_value (v:=.slice (some ⟨g,0,none⟩) (i+(ys.length - j)) cap) (w':=w.setRow g cur') ?_ ?_)
  ·exact hrun
  ·rw[hd];have st:=h.mut hp hgr hk hq;exact hK _ _ (next g _ _ (st.putO hN hdn ⟨Z,⟨_,hro,Z⟩,λ q hq' _=>by cases hq'⟩ hG))
 ·subst hx;simp at hjn;omega
def clrB(P:Program)(e:TypeId):Bool:=match P.info? e with
 | some i=>(match i.zero with | some z=>z.cells.toList.all (·.oneCell') | none=>false)
 | none=>false
theorem zeroCells_one{z:Array Value}{n:Nat}(h:z.toList.all (·.oneCell')=true):(∀ v∈(Builtin.zeroCells z n).toList,v.oneCell'=true)/\(Builtin.zeroCells z n).toList.length=n*z.size:=by
 rw[al] at h;unfold Builtin.zeroCells;refine⟨λ v hv=>?_,by simp⟩;simp at hv;obtain⟨k,hk,rfl⟩:=hv;have hz:0<z.size:=by
  rcases dN z.size with h0 | h0
  ·rw[h0,Nat.mul_zero] at hk;omega
  ·exact h0
 have hlt:=Nat.mod_lt k hz;rw[d8 z _ hlt];exact h _ (Array.getElem_mem_toList hlt)
theorem Sx.clrV{cap g:Nat}{_xs:Array TypeId}(h:Sx F N M0 M Gs L O a w)(p:Nat)
  (ho:o.op=.call { callee:=.builtin .clear,args:=#[q],argTypes:=#[ty] }) (hgd:o.guard=none) (hd:o.dst=none) (hel:elB P ty e (Rep.size β) bytes=true) (hz:clrB P e=true) (hs:(L++envO O).lookup sb=some (dnm (Ow.row e (Ow.frz (α:=β))) G ys (.slice (some ⟨g,0,none⟩) m cap) [])) (hG:∀ b,G b->zj Gs p b) 
  (hq1:OpdR M (λ s=>(L++envO O).lookup s) q (dis (.slice (if cap=m then some ⟨g,0,none⟩ else(some (⟨g,0,none⟩:Addr)).map (·.add (m*Rep.size β))) k (cap - m)))) (hk:m+k<=cap)
  (ks:List Nat) (hks:selP ks L=some L2) (qs:List Nat) (hq:selR L O qs p=some O2) (hsn:L2.lookup sb=none)
  (next:∀ w',Sx F N M0 M Gs L2 ((sb,p,dnm (Ow.row e (Ow.frz (α:=β))) G ys (.slice (some ⟨g,0,none⟩) m cap) [])::O2) a w'->wpList P ops Q rest a w')(hp:p<Gs.length:=by simp):wpList P ops Q (o::rest) a w:=by
 obtain⟨k1,⟨cs,⟨v,hv,h5⟩,k3⟩,k4⟩:=h.st.has sb _ hs;subst hv;have e3:=k3;have hqv:a.eval q=.slice _ k _:=hq1 w a λ s y hs=>h.st.has s y hs
 obtain⟨ti,z,ht1,ht2,hz1,hs1,hs2,hs3⟩:=J3 hel;have hzo:z.cells.toList.all (·.oneCell')=true:=by
  unfold clrB at hz;rw[ht2] at hz;simp only[hz1] at hz;exact hz
 have hzero:∀ w,(zeroValue e).run P w=.ok z w:=λ w=>by simp[zeroValue,typeInfo,ht2,hz1]
 obtain⟨z1,z2⟩:=zeroCells_one (n:=k) hzo;rw[hs3] at z2;by_cases hk0:k=0
 ·subst hk0;refine av hgd λ K hK=>OpOut.wp (OpOut.of_value (v:=.tuple #[]) (w':=w) ?_ ?_)
  ·unfold execOp;rw[ho];generalize (if cap=m then some ⟨g,0,none⟩ else(some (⟨g,0,none⟩:Addr)).map (·.add (m*Rep.size β)))=A' at hqv;cases A' <;> simp[resolve,invoke,builtin,hqv,Builtin.clear_,aw ht1]
  ·rw[hd];have st:=h.mut hp (Grown.refl _ _) hks hq;exact hK _ _ (next _ (st.addO hsn (h.st.has sb _ hs) hG))
 ·rcases h5 with⟨g',cap',cur,Gr,hg,hhg,hcap,hcm,hcs,hGg,hng,hsub,hrow⟩ | ⟨hx,A,hA⟩
  ·rw[hg] at e3;injection e3 with e4 e5 e6;injection e4 with e4;injection e4 with e4;subst e4;subst e6;subst e5;have hcl:cur.toList.length=cap*Rep.size β:=by simpa using hcs
   have hne:¬ cap=ys.length:=by omega
   rw[Kd hne,dG,jq,aB] at hqv;have hfit:ys.length*Rep.size β+0+(Builtin.zeroCells z.cells k).toList.length<=cur.size:=by
    rw[z2,hcs,dY,← dq];exact aG _ hk
   have hst:=run_storeCells_at (P:=P) g _ e (Builtin.zeroCells z.cells k).toList 0 cur w hhg hfit z1;generalize hcur':(cur.toList.take _++(Builtin.zeroCells z.cells k).toList++cur.toList.drop _).toArray=cur' at hst;have hMg:=(h.ob.at_ p g (hG g hGg)).2.1;have hgr:Grown (zj Gs p) w (w.setRow g cur'):=(Grown.of_grownBy (yU)).mono λ k (hk:some g=some k)=>by
    injection hk with hk;rw[← hk];exact hG g hGg
   have hsame:∀ k,k≠g->(w.setRow g cur').heap[k]?=w.heap[k]?:=λ k hk=>cG w g k _ hk
   have hw':(w.setRow g cur').heap[g]?=some _:=ce w g cur cur' e _ hhg;have hnc:ys.length*Rep.size β<=cap*Rep.size β:=aG _ hcap;have hrr':rowR M _ _ ys:=Z4 (λ k _ hm=>hsame k λ e=>hm.elim (λ hm=>hm (e ▸ hMg)) λ h=>h.elim) (Jk hrow);have hl1:(cur.toList.take (ys.length*Rep.size β)).length=ys.length*Rep.size β:=by rw[aI,hcl];omega
   have hc'l:cur'.toList=cur.toList.take (ys.length*Rep.size β)++((Builtin.zeroCells z.cells k).toList++cur.toList.drop (ys.length*Rep.size β+k*Rep.size β)):=by
    rw[← hcur',ca,z2,dY,aA]
   have hro:(Ow.row e (Ow.frz)).ro M G (w.setRow g cur') [.slice (some ⟨g,0,none⟩) ys.length cap] ys:=by
    refine⟨_,Z,.inl ⟨g,cap,cur',Gr,Z,hw',hcap,hcm,?_,hGg,hng,hsub,J9 ?_⟩⟩
    ·have:cur'.toList.length=cur'.size:=aP;rw[← this,hc'l];simp[hl1,hcl,z2];have e1:_*Rep.size β=ys.length*Rep.size β+k*Rep.size β:=dq ..;have e2:_*Rep.size β<=cap*Rep.size β:=aG _ hk;omega
    ·rw[hc'l,de hl1];exact hrr'
   obtain⟨k',hkk⟩:∃ k',k=k'+1:=⟨k - 1,by omega⟩;refine av hgd λ K hK=>OpOut.wp (OpOut.of_value (v:=.tuple #[]) (w':=w.setRow g cur') ?_ ?_)
   ·unfold execOp;rw[ho];subst hkk;simp[resolve,invoke,builtin,hqv,Builtin.clear_,aw ht1,hzero,hst]
   ·rw[hd];have st:=h.mut hp hgr hks hq;exact hK _ _ (next _ (st.addO hsn ⟨k1,⟨_,hro,Z⟩,λ q hq' _=>by cases hq'⟩ hG))
  ·rw[hA] at e3;injection e3 with e4 e5 e6;omega
theorem Sx.rtO{ow:Ow α}{t:Nat}{x r:α}(h:Sx (Frm.chg w0 G0) N M0 M Gs L O a w)(p:Nat)(hr:fn.results=#[.tmp t])(hl:(L++envO O).lookup t=some (dow ow G x))(hm:some x=some r)(hG:∀ b,G b->zj Gs p b:=by exact λ _ h=>h):bodyPost P fn (RetTk M0 w0 G0 (.ow ow r)) .ret a w:=by
 injection hm with hm;subst hm;have hM:∀ k,k<w.heap.size->M0 k\/G k->M k:=λ k _ hk=>hk.elim (h.ob.sub k) λ hk=>(h.ob.at_ p k (hG k hk)).2.1
 refine⟨h.st.defers,a.tmps.getD t undef,?_,_,G,Z,h.st.fr,λ k hk=>(h.ob.at_ p k (hG k hk)).1,λ k hk=>h.st.mok k (h.ob.at_ p k (hG k hk)).2.1,(dow ow G x).weak (h.st.has t _ hl) hM⟩;simp only[results,hr];simp
end
section
variable{α β γ:Type}[Rep α][Rep β][Rep γ]
variable{fn:Func}{look:Nat->Option Dt}
end
section
variable{fn:Func}
variable{α β:Type}[Rep α][Rep β]
end
section
variable{α β γ:Type}[Rep α][Rep β][Rep γ]
variable{look:Nat->Option Dt}
end
section
variable{α β γ:Type}[Rep α][Rep β][Rep γ]
variable{look:Nat->Option Dt}
end
set_option maxRecDepth 10000
set_option maxHeartbeats 1600000
section
variable{look:Nat->Option Dt}
theorem add_zero_addr{n:Nat}(hn:n=0:=by simp):A.map (·.add n)=A:=by
 subst hn;cases A with
 | none=>rfl
 | some a=>cases a;rfl
theorem op_slH{n cap:Nat}(ho:o.op=.slice t q none (some x) none)(ht:slB P t sz=true)(hq:OpdR M look q (dis (.slice A n cap)))(hx:OpdR M look x (dt j))(h2:0<=j)(h3:j<=cap):OpRel P M look o (dis (.slice A j.toNat cap)):=by
 have h:=op_sl (i:=none) (j:=some j) ho ht hq (λ _ _ _=>Z) (λ w a hl=>bz some (yx.1 (hx w a hl))) (by simp) h2 h3;have e:(.slice (if cap=((none:Option Int).getD 0).toNat then A else A.map (·.add (((none:Option Int).getD 0).toNat*sz))) (((some j).getD n).toNat - ((none:Option Int).getD 0).toNat) (cap - ((none:Option Int).getD 0).toNat):Value)=.slice A j.toNat cap:=by
  have e2:(if cap=((none:Option Int).getD 0).toNat then A else A.map (·.add (((none:Option Int).getD 0).toNat*sz)))=A:=by
   split
   ·rfl
   ·exact add_zero_addr
  rw[e2];simp
 grind
theorem op_slL{n cap:Nat}{i:Int}(ho:o.op=.slice t q (some x) none none)(ht:slB P t sz=true)(hq:OpdR M look q (dis (.slice A n cap)))(hx:OpdR M look x (dt i))(h1:0<=i)(h2:i<=n)(h3:n<=cap):OpRel P M look o (dis (.slice (if cap=i.toNat then A else A.map (·.add (i.toNat*sz))) (n - i.toNat) (cap - i.toNat))):=by
 have h:=op_sl (i:=some i) (j:=none) ho ht hq (λ w a hl=>bz some (yx.1 (hx w a hl))) (λ _ _ _=>Z) h1 h2 (by simpa using Int.ofNat_le.2 h3);simpa using h
theorem op_slB{n cap:Nat}{y:Operand}{i:Int}(ho:o.op=.slice t q (some x) (some y) none)(ht:slB P t sz=true)(hq:OpdR M look q (dis (.slice A n cap)))(hx:OpdR M look x (dt i))(hy:OpdR M look y (dt j))(h1:0<=i)(h2:i<=j)(h3:j<=cap):OpRel P M look o (dis (.slice (if cap=i.toNat then A else A.map (·.add (i.toNat*sz))) (j.toNat - i.toNat) (cap - i.toNat))):=by
 have h:=op_sl (i:=some i) (j:=some j) ho ht hq (λ w a hl=>bz some (yx.1 (hx w a hl))) (λ w a hl=>bz some (yx.1 (hy w a hl))) h1 h2 h3;simpa using h
end
def ZK(x0:List File)(x1 x2:Int):Option (List File):=
 if 0<=x1/\x1<=x2/\x2<=(x0.length:Int) then some (if x1=x2 then x0 else x0.take x1.toNat++x0.drop x2.toNat) else none
theorem xdS:slB Tryz.prog 63 6=true:=by kernel_rfl
theorem xdL:isSl Tryz.prog 63=true:=by kernel_rfl
theorem xdE:elB Tryz.prog 63 45 6 80=true:=by kernel_rfl
theorem xdM:Tryz.prog.follows .mixedOrders=true:=by kernel_rfl
theorem xdZ:clrB Tryz.prog 45=true:=by kernel_rfl
theorem zef{x1 x2 r}(h:ZK x0 x1 x2=some r):FnT Tryz.prog 199 (Ow.row 45 (Ow.frz (α:=File))) x0 [dt x1,dt x2] (.ow (Ow.row 45 (Ow.frz (α:=File))) r):=by
 unfold ZK at h;have hb:0<=x1/\x1<=x2/\x2<=(x0.length:Int):=by
  by_cases hc:0<=x1/\x1<=x2/\x2<=(x0.length:Int)
  ·exact hc
  ·rw[Kd hc] at h;cases h
 rw[Kc hb] at h;obtain⟨hb1,hb2,hb3⟩:=hb;refine fnT 0 1 Tryz.func199 Z Z (λ M G w0 a0 st0=>?_);refine st0.nmR (s:=0) 0 [] (λ g1 A1 c1 hA1 st1=>?_);have hcap:=(st1.capN (s:=0) Z).2;refine st1.sq (
  sc Z (oA Z (wu (α:=File)))<|.nil) [1,2] Z [(0,0)] Z ⟨λ _ h=>h,trivial⟩ (λ a2 w2 st2=>?_)
 refine st2.sq (
  sc Z (oM Z (zt Z))<|
  sc Z (oM Z (tp Z))<|
  sc Z (oM Z (tp Z))<|
  sc Z (oM Z (tp Z))<|
  sc Z (xLeN Z xdL Z)<|
  sc Z (op_sl3 Z xdS (tp Z) (tp Z) (tp Z) (tp Z) hb1 hb2 hb3 (Int.ofNat_le.2 hcap))<|.nil) [1,2] Z [(0,0)] Z ⟨λ _ h=>h,trivial⟩ (λ a3 w3 st3=>?_)
 refine Ka ?_;refine st3.sq (
  sc Z (oM Z (tp Z))<|
  sc Z (oM Z (tp Z))<|
  sc Z (oCI Z (tp Z) (tp Z))<|.nil) [1,2,16] Z [(0,0)] Z ⟨λ _ h=>h,trivial⟩ (λ a4 w4 st4=>?_)
 have hcnd:(if cmpI .eql x1 x2=true then some x0 else some (x0.take x1.toNat++x0.drop x2.toNat))=some r:=by
  rw[← h];by_cases hc:x1=x2
  ·rw[Kc hc,Kc (show cmpI .eql x1 x2=true from ab hc)]
  ·rw[Kd hc,Kd (show ¬ cmpI .eql x1 x2=true from λ e=>hc (oD e))]
 by_cases hne:x1=x2
 ·have hc:cmpI .eql x1 x2=true:=ab hne;refine st4.cs hcnd (λ c5 h5=>?_) (λ c6 h6=>absurd hc (by rw[c6];decide));refine st4.sq (
   sc Z (oM Z (tp Z))<|
   sc Z (oA Z (tp Z))<|.nil) [] Z [(6,0)] Z ⟨λ _ h=>h,trivial⟩ (λ a7 w7 st7=>?_)
  have st8:=st7.unm (s:=6) 0 [];exact wp_ret (zZ (st8.rtO 0 Z Z h5))
 have hc:cmpI .eql x1 x2=false:=cO hne;refine st4.cs hcnd (λ c5 h5=>absurd hc (by rw[c5];decide)) (λ c6 h6=>?_);refine aC ?_;refine za ?_;obtain⟨i,rfl⟩:=ay hb1;obtain⟨j,rfl⟩:=ay (cr hb1 hb2);have hij:i<j:=by omega
 have hjn:j<=x0.length:=by omega
 have hlen:(x0.take i++x0.drop j).length=i+(x0.length - j):=by simp;omega
 refine st4.sq (
  sc Z (oM Z (tp Z))<|
  sc Z (xLeN Z xdL Z)<|
  sc Z (oA Z (tp Z))<|.nil) [1,2,7] Z [(0,0)] Z ⟨λ _ h=>h,trivial⟩ (λ a9 w9 st9=>?_)
 refine Ka ?_;refine st9.drn (D:=[_,_,_,_,_,_]) xdM 6 [[(0,nS)],[(1,nS)],[(20,0),(21,1)],[(0,nS)],[(2,nS)],[(23,3),(24,4)],[(22,2),(25,5)],[(26,6)]] (by decide +kernel) (by decide) (
  rc Z Z (oM Z (zt Z))<|
  rc Z Z (oM Z (tp Z))<|
  rc Z Z (op_slH Z xdS (tp Z) (tp Z) (by omega) (by omega))<|
  rc Z Z (oM Z (zt Z))<|
  rc Z Z (oM Z (tp Z))<|
  rc Z Z (op_slL Z xdS (tp Z) (tp Z) (by omega) (by omega) hcap)<|.nil) [7,22,25] Z [(0,0)] Z ⟨λ _ h=>h,trivial⟩ (λ a10 c8 b5=>?_)
 refine b5.apCutV (sb:=0) (i:=i) (j:=j) 0 Z Z xdE Z (λ _ h=>h) (tp Z) (tp Z) hij hjn [7] Z [] Z Z (λ d1 a11 d2 a8=>?_);rw[← hlen] at a8;refine a8.seg 1 (
  sc Z (oA Z (tp Z))<|.nil) [7] Z [(0,0)] Z ⟨λ _ h=>h,trivial⟩ (λ a12 d3 b3=>?_)
 refine Wz ?_;refine za ?_;have hcap2:=(b3.capN (s:=0) Z).2;refine Ka ?_;refine QY ?_;refine b3.seg 5 (
  sc Z (oM Z (zt Z))<|
  sc Z (oM Z (tp Z))<|
  sc Z (xLeN Z xdL Z)<|
  sc Z (oM Z (tp Z))<|
  sc Z (op_slB Z xdS (tp Z) (tp Z) (tp Z) (by omega) (by omega) (by omega))<|.nil) [31] Z [(0,0)] Z ⟨λ _ h=>h,trivial⟩ (λ a13 d4 b6=>?_)
 refine b6.clrV (sb:=0) (_xs:=#[]) 0 Z Z Z xdE xdZ Z (λ _ h=>h) (tp Z) (by omega) [] Z [] Z Z (λ d5 b7=>?_);refine Wz ?_;refine za ?_;refine b7.sq (
  sc Z (oM Z (tp Z))<|
  sc Z (oA Z (tp Z))<|.nil) [] Z [(6,0)] Z ⟨λ _ h=>h,trivial⟩ (λ a15 d6 b8=>?_)
 have b9:=b8.unm (s:=6) 0 [];exact wp_ret (b9.rtO 0 Z Z h6)
section
variable{z1 z2:Value}{F1 F2 b1:Nat}
theorem machine_parts{m:Machine}{q1:C1 Disk×Bx Finder}(h1:m.known.o=some q1)(h2:m.load.o=some q2){cs:List Value}(h:(Ow.box (owMachine (Ow.fw z1 F1 b1 o1) (Ow.fw z2 F2 b2 o2) a4 a5 a6 a7)).ro M G w cs ⟨m⟩):∃ G1 G2:Nat->Prop,(∀ k,G1 k->G k)/\(∀ k,G2 k->G k)/\(∀ k,G1 k->¬ G2 k)/\o1.box.ro M G1 w [ptA b1] ⟨q1.2⟩/\o2.box.ro M G2 w [ptA b2] ⟨q2.2⟩:=by
 obtain⟨b,C,e,Gr,hc,hh,hG,hn,hs,hr⟩:=h;obtain⟨_,H1,_,_,_,s1,_,_,_,r1⟩:=hr;obtain⟨_,H2,_,_,_,s2,_,_,_,r2⟩:=r1;obtain⟨K1,H3,_,_,k1,s3,d3,_,⟨v1,_,_,f1⟩,r3⟩:=r2;obtain⟨K2,_,_,_,k2,_,_,_,⟨v2,_,_,f2⟩,_⟩:=r3;obtain⟨_,_,p1,_⟩:=f1 q1 h1;obtain⟨_,_,p2,_⟩:=f2 q2 h2;exact⟨K1,K2,λ k hk=>hs k (s1 k (s2 k (k1 k hk))),λ k hk=>hs k (s1 k (s2 k (s3 k (k2 k hk)))),λ k hk hk2=>d3 k hk (k2 k hk2),Ow.pin_box p1,Ow.pin_box p2⟩
end
section
variable{a4:Ow (List Int)}{ow:Ow Warmth}
theorem runner_part{r:Runner}{cs:List Value}(h:(Ow.box (owRunner a2 a3 a4 (Ow.boxA bw ow))).ro M G w cs ⟨r⟩):∃ G1:Nat->Prop,(∀ k,G1 k->G k)/\ow.box.ro M G1 w [ptA bw] ⟨r.warm.x⟩:=by
 obtain⟨b,C,e,Gr,hc,hh,hG,hn,hs,hr⟩:=h;obtain⟨_,H1,_,_,_,s1,_,_,_,r1⟩:=hr;obtain⟨_,H2,_,_,_,s2,_,_,_,r2⟩:=r1;obtain⟨_,H3,_,_,_,s3,_,_,_,r3⟩:=r2;obtain⟨_,H4,_,_,_,s4,_,_,_,r4⟩:=r3;obtain⟨_,H5,_,_,_,s5,_,_,_,r5⟩:=r4;obtain⟨_,H6,_,_,_,s6,_,_,_,r6⟩:=r5;obtain⟨_,H7,_,_,_,s7,_,_,_,r7⟩:=r6;refine⟨H7,λ k hk=>hs k (s1 k (s2 k (s3 k (s4 k (s5 k (s6 k (s7 k hk))))))),?_⟩;have h8:=Ow.pin_box r7;obtain⟨C',e',Gr',hc',h9⟩:=r7;exact⟨bw,C',e',Gr',Z,h9⟩
theorem Sx.stBA{q:Nat}{x:Runner}{y:Bx Warmth}{cf3:CF}(h:Sx F N M0 M Gs L O a w)(p p2:Nat)(ho:o.op=.store t (.tmp q) vo)(hvo:OpdR M (λ s=>(L++envO O).lookup s) vo (dis (ptA bw)))(hgd:o.guard=none)(hd:o.dst=none)(ht:tyB P t false 1=true)
  (hpl:OpdR M (λ s=>(L++envO O).lookup s) (.tmp q) (dis (.pointer (some ⟨b,7,none⟩)))) (hvl:(L++envO O).lookup tv=some (dnm ow.box G3 y (ptA bw) cf3)) (hs:(L++envO O).lookup sb=some (dnm (Ow.box (owRunner a2 a3 a4 (Ow.frz (α:=Bx Warmth)))) G ⟨x⟩ (.pointer (some ⟨b,0,none⟩)) cf)) (hG:∀ b,G b->zj Gs p b) (hG3:∀ b,G3 b->zj Gs p2 b)
  (ks:List Nat) (hk:selP ks L=some L2) (qs:List Nat) (hq:selR L O qs p=some O2) (hq2:O2.all (λ q=>q.2.1 != p2)=true) (hsn:L2.lookup sb=none) (hst:(sb == tv)=false)
  (next:∀ G' w',Sx F N M0 M ((Gs.set p G').set p2 (oneB none)) ((tv,dis (ptA bw))::L2) ((sb,p,dnm (Ow.box (owRunner a2 a3 a4 (Ow.boxA bw ow))) G' ⟨{ x with warm:=y }⟩ (.pointer (some ⟨b,0,none⟩)) [])::O2) a w'->wpList P ops Q rest a w')(hp:p<Gs.length:=by simp)(hp2:p2<Gs.length:=by simp)(hne:p≠p2:=by decide):wpList P ops Q (o::rest) a w:=by
 obtain⟨e1,⟨cy,hy,hyv⟩,_⟩:=h.st.has tv _ hvl;have hcy:cy=[ptA bw]:=by
  obtain⟨b',C,e,Gr,hc,_⟩:=hy;rw[hc] at hyv ⊢;have h6:ptA bw=ptA b':=hyv;rw[h6]
 subst hcy;have hcv:(a.eval vo).cells.toList=[ptA bw]:=by
  have h7:=hvo w a λ s y hs=>h.st.has s y hs
  rw[h7];rfl
 refine h.stN (ow2:=owRunner a2 a3 a4 (Ow.boxA bw ow)) (oy:=Ow.boxA bw ow) (y':=y) (x2:={ x with warm:=y }) p ho hgd hd ht hp (hpl w a λ s y hs=>h.st.has s y hs) hcv (Ow.box_pin hy Z) hs hG (λ b hb hb2=>h.ob.apart p p2 b hne hb2 (hG3 b hb)) (by decide) (λ{M G1 G3 w cells} h1 h2 hdj=>?_) ks hk qs hq λ w' st hr=>?_
 ·obtain⟨A1,H1,c1,d1,t1,s1,j1,e1,k1,r1⟩:=h1;obtain⟨A2,H2,c2,d2,t2,s2,j2,e2,k2,r2⟩:=r1;obtain⟨A3,H3,c3,d3,t3,s3,j3,e3,k3,r3⟩:=r2;obtain⟨A4,H4,c4,d4,t4,s4,j4,e4,k4,r4⟩:=r3;obtain⟨A5,H5,c5,d5,t5,s5,j5,e5,k5,r5⟩:=r4;obtain⟨A6,H6,c6,d6,t6,s6,j6,e6,k6,r6⟩:=r5;obtain⟨A7,H7,c7,d7,t7,s7,j7,e7,k7,r7⟩:=r6;have l1:c1.length=1:=Rep.len k1;have l2:c2.length=1:=Rep.len k2;have l3:c3.length=1:=a2.len k3;have l4:c4.length=1:=a3.len k4;have l5:c5.length=1:=a4.len k5;have l6:c6.length=1:=Rep.len k6;have l7:c7.length=1:=Rep.len k7;have l8:=Rep.len r7;have ec:cells=(c1++(c2++(c3++(c4++(c5++(c6++c7))))))++d7:=by rw[e1,e2,e3,e4,e5,e6,e7];simp
  have et:cells.take 7=c1++(c2++(c3++(c4++(c5++(c6++c7))))):=by rw[ec];exact de (by simp[l1,l2,l3,l4,l5,l6,l7])
  have ed:cells.drop (7+Rep.size (Bx Warmth))=[]:=bu (by rw[ec];simp[l1,l2,l3,l4,l5,l6,l7,l8];exact ak _);rw[et,ed,aM];have u:=λ k hk=>s2 k (s3 k (s4 k (s5 k (s6 k (s7 k hk)))))
  have g3:∀ {k},A3 k->G1 k:=λ hk=>s1 _ (s2 _ (t3 _ hk))
  have g4:∀ {k},A4 k->G1 k:=λ hk=>s1 _ (s2 _ (s3 _ (t4 _ hk)))
  have g5:∀ {k},A5 k->G1 k:=λ hk=>s1 _ (s2 _ (s3 _ (s4 _ (t5 _ hk))))
  have:=owRunner.mk (x:={ x with warm:=y }) k1 k2 k3 k4 k5 k6 k7 h2 (λ b hb h'=>h'.elim (λ h'=>j3 b hb (t4 b h')) λ h'=>h'.elim (λ h'=>j3 b hb (s4 b (t5 b h'))) λ h'=>hdj b (g3 hb) h') (λ b hb h'=>h'.elim (λ h'=>j4 b hb (t5 b h')) λ h'=>hdj b (g4 hb) h') (λ b hb h'=>hdj b (g5 hb) h');simp at this;have e9:(c1++(c2++(c3++(c4++(c5++(c6++c7))))))++[ptA bw]=c1++(c2++(c3++(c4++(c5++(c6++(c7++[ptA bw])))))):=by simp
  rw[e9];exact(owRunner _ _ _ _).more this λ b hb=>hb.elim (λ h=>.inl (g3 h)) λ hb=>hb.elim (λ h=>.inl (g4 h)) λ hb=>hb.elim (λ h=>.inl (g5 h)) .inr
 ·have k1:=(st.addL (y:=dis _) e1).mrg hp hp2 hne hq2;have ej:JB Gs p p2=(Gs.set p (λ b=>zj Gs p b\/zj Gs p2 b)).set p2 _:=rfl;rw[ej] at k1;refine next _ w' (k1.addO (by simp only[ae,hst];exact hsn) ⟨hr.1,?_,λ q hq _=>by cases hq⟩ λ c hc=>?_)
  ·obtain⟨cs,h1,h2⟩:=hr.2.1;exact⟨cs,(Ow.box _).more h1 λ k hk=>hk.imp (hG k) (hG3 k),h2⟩
  ·rw[zq (bo hne),zk hp];exact hc
end
def chkPop(ops:Array Oper):Bool:=ops.all λ o=>o.guard.isNone&&o.after.all λ e=>decide (e.on+1<ops.size)
section
theorem zbf(h:chkPop ops=true)(ho:ops[i]?=some o):o.guard=none/\∀ e∈o.after,e.on+1<ops.size:=by
 have:=dw.1 h o (Array.mem_of_getElem? ho);simp only[af,Option.isNone_iff_eq_none] at this;exact⟨this.1,λ e he=>oD (dw.1 this.2 e he)⟩
theorem zbM(x:Bool)(h:i<l.size):(l.push true).getD i x=l.getD i x:=by
 simp[Array.getElem?_push,h,Nat.ne_of_lt h]
theorem pop_at(h:i+1<ops.size):ops.pop[i]?=ops[i]?:=by
 grind
theorem zeg(hc:chkPop ops=true)(hl:l.size+1=ops.size)(i:Nat):i∈Region.ready .any ops (l.push true) ↔ i∈Region.ready .any ops.pop l:=by
 rw[cA,cA];constructor
 ·rintro ⟨h1,o,ho,h2⟩
  have hi:i<l.size:=by
   rcases aR i l.size with h | h
   ·exact h
   ·rcases aR i (l.size+1) with h' | h'
    ·have:i=l.size:=by omega
     subst this;simp at h1
    ·simp[cp (show(l.push true).size<=i by simpa using h')] at h1
  refine⟨by rw[← zbM true hi];exact h1,o,by rw[pop_at (by omega)];exact ho,λ e he hb=>?_⟩;rw[← zbM false (by have:=(zbf hc ho).2 e he;omega)];exact h2 e he hb
 ·rintro ⟨h1,o,ho,h2⟩
  have hi:i<l.size:=by
   rcases aR i l.size with h | h
   ·exact h
   ·simp[cp h] at h1
  rw[pop_at (by omega)] at ho;refine⟨by rw[zbM true hi];exact h1,o,ho,λ e he hb=>?_⟩;rw[zbM false (by have:=(zbf hc ho).2 e he;omega)];exact h2 e he hb
theorem push_set(h:i<l.size):(l.push true).setIfInBounds i true=(l.setIfInBounds i true).push true:=by
 grind
theorem wpAnyH_pop(hc:chkPop ops=true):∀ (f:Nat) (l:Array Bool) (a:Act) (w:World),l.size+1=ops.size->wpAnyH P .any ops.pop Q S f l a w->wpAnyH P .any ops Q S f (l.push true) a w:=by
 intro f
 induction f with
 |zero=>intro l a w hl h;exact⟨cK.2 λ i hi=>(by have:=(zeg hc hl i).1 hi;rw[h.1] at this;cases this),h.2⟩
 |succ f ih=>
  intro l a w hl h;refine⟨λ h0=>h.1 (cK.2 λ i hi=>(by have:=(zeg hc hl i).2 hi;rw[h0] at this;cases this)),λ i hi=>?_⟩;have hi':=(zeg hc hl i).1 hi;have h2:=h.2 i hi';obtain⟨_,o,ho,_⟩:=cA.1 hi;obtain⟨h3,_,ho',_⟩:=cA.1 hi';have hil:i<l.size:=by
   rcases aR i l.size with h | h
   ·exact h
   ·simp[cp h] at h3
  have hp:=pop_at (ops:=ops) (i:=i) (by omega);unfold wpOp at h2 ⊢;rw[hp,ho] at h2;rw[ho];have hw:=(zbf hc ho).1;simp[Z3 hw] at h2 ⊢;refine h2.imp (Oper.wp_mono λ a' w' hK=>⟨hK.1,?_⟩) id;rw[push_set hil];exact ih _ _ _ (by simpa using hl) hK.2
theorem pop_h(next:wpAnyH P .any ops.pop Q S f l a w)(hc:chkPop ops=true:=by decide +kernel)(hl:listed=l.push true:=by decide +kernel)(hn:l.size+1=ops.size:=by decide +kernel):wpAnyH P .any ops Q S f listed a w:=by
 subst hl;exact wpAnyH_pop hc _ _ _ _ hn next
end
section
theorem Sx.tkK(h:Sx F N M0 M Gs L O a w)(ho:ops[i]?=some o)(hh:opH o N=some d)
  (hQ:∀ c a w v,Q (.panic c) (a.put o.dst v) w->Q (.panic c) a w) (hS:S w) (hop:o.op=.move q) (hq:OpdR M (λ s=>(L++envO O).lookup s) q y) (hn:y.nb=true)
  (next:∀ a',Sx F N M0 M Gs ((d,y)::L) O a' w->wpAnyH P .any ops Q S f (listed.setIfInBounds i true) a' w)(hs:Region.noSelect ops=true:=by decide +kernel)(hf:Region.free .any ops listed i=true:=by decide +kernel)(hr:(Region.ready .any ops listed).contains i=true:=by decide +kernel):wpAnyH P .any ops Q S (f+1) listed a w:=
 h.tkY ho hh hs hf hr (λ c a w=>hQ c a w _) hS (yMv hop Z) (hq w a λ s y hy=>h.st.has s y hy) hn next
end
theorem results_tc{fn:Func}{t u:Tmp}{A:Addr}{x:Value}(h:fn.results=#[.tmp u,.cell t ty])(ha:tmps.getD t undef=.pointer (some A))(hl:(loadVar ty A).run P w=.ok x w):(results fn tmps).run P w=.ok (.tuple #[tmps.getD u undef,x]) w:=by
 simp[results,h];simp at ha;simp[ha,asAddr,hl]
section
variable{fn:Func}
variable{α β γ:Type}[Rep α][Rep β][Rep γ]
theorem Sx.rs2C{oo:Ow α}{t u:Nat}{x xr:α}{y:β}{y2:γ}{r:β×γ}(h:Sx (Frm.chg w0 G) N M0 M Gs L O a w)(p:Nat)
  (hm:some (x,y,y2)=some (xr,r))(hr:fn.results=#[.cell t ty,.tmp u]:=by rfl)(hl:(L++envO O).lookup t=some (dbox g 0 y):=by rfl)(hs:(L++envO O).lookup s=some (dnm oo G' x v0 cf):=by rfl)(hl2:(L++envO O).lookup u=some (dt y2):=by rfl)(hG:∀ b,G' b->zj Gs p b:=by exact λ _ h=>h)(ht:tyB P ty (Rep.agg β) (Rep.size β)=true:=by kernel_rfl):bodyPost P fn (RetS M0 w0 G v0 oo xr (.frz (dtup [dt r.1,dt r.2]))) .ret a w:=by
 injection hm with hm;injection hm with h1 h2;subst h1;subst h2;obtain⟨k1,⟨cs,k2,k3⟩,_⟩:=h.st.has s _ hs;have hM:∀ k,k<w.heap.size->(M0 k\/G' k)\/noB k->M k:=λ k _ hk=>hk.elim (λ hk=>hk.elim (h.ob.sub k) λ hk=>(h.ob.at_ p k (hG k hk)).2.1) λ h=>h.elim
 obtain⟨b,_,hv,C,e,cy,hb,hc,hro⟩:=h.st.has t _ hl;have hc':∀ j u,cy[j]?=some u->w.cell? ⟨b,0+j,none⟩=some u:=λ j u hj=>by
  have:=hc j u hj;simp at this ⊢;simp[World.cell?,hb,this]
 have hld:=yH ht (Rep.len hro) Rep.one hc';have hvt:=hv;exact⟨h.st.defers,_,zcM hr hvt hld,_,G',noB,Z,h.st.fr,λ b hb=>(h.ob.at_ p b (hG b hb)).1,λ _ h=>h.elim,λ _ _ h=>h,λ b hb=>hb.elim (λ hb=>h.st.mok b (h.ob.at_ p b (hG b hb)).2.1) λ h=>h.elim,
  ⟨cs,oo.weak k2 hM,k3⟩,⟨[_,_],Z,.cons ⟨cy,Rep.weak hro hM,Z⟩ (.cons ((dt y2).weak (h.st.has u _ hl2) hM) .nil),λ q hq=>by
  simp at hq;rcases hq with rfl | rfl <;> rfl⟩,Z⟩
theorem Sx.ret2tc{t u:Nat}{x:α}(h:Sx (Frm.of w0) N M0 M Gs L O a w)(hr:fn.results=#[.tmp u,.cell t ty])(ht:tyB P ty (Rep.agg α) (Rep.size α)=true)(hl:(L++envO O).lookup t=some (dbox g 0 x))(hy:y.rd M0 w (Act.at a u))(hn:y.nb=true)(hR:R=dtup [y,dt x]):bodyPost P fn (RetP M0 w0 R) .ret a w:=by
 subst hR;obtain⟨A,q,h1,h2,h3⟩:=h.frozenC ht hl;exact⟨h.st.defers,_,results_tc hr h1 h2,_,Z,h.st.fr,[_,_],Z,.cons hy (.cons h3 .nil),λ q hq=>by
  simp at hq;rcases hq with rfl | rfl
  ·exact hn
  ·rfl⟩
end
section
variable{β:Type}[Rep β]
theorem Sx.stNB{oy:Ow β}{x:Np β}{y:Bx β}(h:Sx F N M0 M Gs L O a w)(p p2:Nat)(ho:o.op=.store t (.tmp sb) (.tmp tv))(hgd:o.guard=none)(hd:o.dst=none)(ht:tyB P t false 1=true)
  (hs:(L++envO O).lookup sb=some (dnm (Ow.box (Ow.frz (α:=Np β))) G ⟨x⟩ (.pointer (some ⟨b,0,none⟩)) cf)) (hvl:(L++envO O).lookup tv=some (dow oy.box G3 y)) (hG:∀ b,G b->zj Gs p b) (hG3:∀ b,G3 b->zj Gs p2 b)
  (ks:List Nat) (hk:selP ks L=some L2) (qs:List Nat) (hq:selR L O qs p=some O2) (hq2:O2.all (λ q=>q.2.1 != p2)=true) (hsn:L2.lookup sb=none)
  (next:∀ G' w',Sx F N M0 M ((Gs.set p G').set p2 (oneB none)) L2 ((sb,p,dnm oy.box.box G' ⟨y⟩ (.pointer (some ⟨b,0,none⟩)) [])::O2) a w'->wpList P ops Q rest a w')(hp:p<Gs.length:=by simp)(hp2:p2<Gs.length:=by simp)(hne:p≠p2:=by decide):wpList P ops Q (o::rest) a w:=by
 obtain⟨h1,⟨cs,⟨b',C,e,Gr,hc,hh,hGb,hn,hsub,hro⟩,h3⟩,_⟩:=h.st.has sb _ hs;have hb:b'=b:=by
  rw[hc] at h3;have h3:=h3;injection h3 with h3;injection h3 with h3;injection h3 with h3;exact h3.symm
 subst hb;have hy:=yW (h.st.has tv _ hvl);have hcl:(Act.at a tv).cells.toList.length=1:=oy.box.len hy;have hCl:C.toList.length=1:=(Ow.frz).len hro;have hCs:C.size=1:=by rw[← aP];exact hCl
 have hone:=oy.box.one hy;have hob:=hG b' hGb;have hMb:=(h.ob.at_ p b' hob).2.1;have hdj:=λ b h3 hb=>h.ob.apart p p2 b hne hb (hG3 b h3)
 have hrun:=xy (v:=a.eval (.tmp tv)) (cs:=(Act.at a tv).cells.toList) (by rw[hcl];exact ht) Z hh (by rw[hcl,hCs];exact ak _) hone;generalize hC':(C.toList.take 0++(Act.at a tv).cells.toList++C.toList.drop _).toArray=C' at hrun;have hw':(w.setRow b' C').heap[b']?=some _:=ce w b' C C' e _ hh;have hsame:∀ k,k≠b'->(w.setRow b' C').heap[k]?=w.heap[k]?:=λ k hk=>cG w b' k _ hk
 have hgr:Grown (zj Gs p) w (w.setRow b' C'):=(Grown.of_grownBy (yU)).mono λ k (hk:some b'=some k)=>by
  injection hk with hk;rw[← hk];exact hob
 have nb3:=λ h3=>hdj b' h3 hob
 have hL:Same M G3 w _:=λ k _ hm=>hsame k λ e=>hm.elim (λ hm=>hm (e ▸ hMb)) λ h2=>nb3 (e ▸ h2)
 refine av hgd λ K hK=>OpOut.wp (OpOut.of_skip (w':=w.setRow b' C') ?_ ?_)
 ·unfold execOp;rw[ho];have hpv':a.eval (.tmp sb)=.pointer _:=h1;simp[Instr.storeAt,Instr.sureAddr,hpv',hrun]
 ·rw[hd];have st:=h.mut hp hgr hk hq;have k1:=st.mrg hp hp2 hne hq2;have ej:JB Gs p p2=(Gs.set p (λ b=>zj Gs p b\/zj Gs p2 b)).set p2 _:=rfl;rw[ej] at k1;refine hK _ _ (next _ _ (k1.addO hsn ⟨h1,⟨_,⟨b',C',e,G3,Z,hw',.inl hob,nb3,λ k hk=>.inr (hG3 k hk),?_⟩,Z⟩,λ q hq _=>by cases hq⟩ λ c hc=>by rw[zq (bo hne),zk hp];exact hc));have e1:C'.toList=(Act.at a tv).cells.toList:=by rw[← hC',ca,bU,bc,bu (by omega),aM]
  show oy.box.ro M _ _ C'.toList y;rw[e1];exact oy.box.stable hy hL
end
theorem results_ttt{fn:Func}{t u v:Tmp}(h:fn.results=#[.tmp t,.tmp u,.tmp v]):(results fn tmps).run P w=.ok (.tuple #[tmps.getD t undef,tmps.getD u undef,tmps.getD v undef]) w:=by
 simp[results,h]
section
variable{α β γ:Type}[Rep α][Rep β][Rep γ]
def Rd.t3m(y:Dt)(o:Ow α)(x:α)(z:Dt):Rd where
 rd M G w v:=∃ u1 u2 u3,v=.tuple #[u1,u2,u3]/\(dow o G x).rd M w u2/\(y.rd M w u1/\y.nb=true)/\z.rd M w u3/\z.nb=true
 stable:=λ⟨u1,u2,u3,hv,h1,h2,h3⟩ e=>⟨u1,u2,u3,hv,(dow o _ x).stable h1 e,⟨y.stable h2.1 (λ k hk hm=>e k hk (hm.imp id λ ho=>(y.nob h2.2 k ho).elim)),h2.2⟩,z.stable h3.1 (λ k hk hm=>e k hk (hm.imp id λ ho=>(z.nob h3.2 k ho).elim)),h3.2⟩
 weak:=λ⟨u1,u2,u3,hv,h1,h2,h3⟩ e=>⟨u1,u2,u3,hv,(dow o _ x).weak h1 e,⟨y.weak h2.1 e,h2.2⟩,z.weak h3.1 e,h3.2⟩
 more:=λ⟨u1,u2,u3,hv,⟨cs,h1,h1'⟩,h2,h3⟩ e=>⟨u1,u2,u3,hv,⟨cs,o.more h1 e,h1'⟩,h2,h3⟩
def dexm(y z:Dt):Dt where
 rd M w v:=∃ u1 u2 u3,v=.tuple #[u1,u2,u3]/\(y.rd M w u1/\y.nb=true)/\z.rd M w u3/\z.nb=true
 own:=noB
 nb:=true
 nob _ _ h:=h
 stable:=λ⟨u1,u2,u3,hv,h2,h3⟩ e=>⟨u1,u2,u3,hv,⟨y.stable h2.1 (λ k hk hm=>e k hk (hm.elim .inl λ ho=>(y.nob h2.2 k ho).elim)),h2.2⟩,z.stable h3.1 (λ k hk hm=>e k hk (hm.elim .inl λ ho=>(z.nob h3.2 k ho).elim)),h3.2⟩
 weak:=λ⟨u1,u2,u3,hv,h2,h3⟩ e=>⟨u1,u2,u3,hv,⟨y.weak h2.1 e,h2.2⟩,z.weak h3.1 e,h3.2⟩
variable{fn:Func}{T:Prop}{look:Nat->Option Dt}
theorem Sx.rt3m{ow:Ow α}{t u v:Nat}{x:α}{y:β}{z:γ}{r:β×α×γ}(h:Sx (Frm.chg w0 G0) N M0 M Gs L O a w)(p:Nat)(hr:fn.results=#[.tmp t,.tmp u,.tmp v])(hl:(L++envO O).lookup u=some (dow ow G x))(hl2:(L++envO O).lookup t=some (dt y))(hl3:(L++envO O).lookup v=some (dt z))(hm:some (y,x,z)=some r)(hG:∀ b,G b->zj Gs p b:=by exact λ _ h=>h):
  bodyPost P fn (RetTk M0 w0 G0 (.t3m (dt r.1) ow r.2.1 (dt r.2.2))) .ret a w:=by
 injection hm with hm;subst hm;have hM:∀ k,k<w.heap.size->M0 k\/G k->M k:=λ k _ hk=>hk.elim (h.ob.sub k) λ hk=>(h.ob.at_ p k (hG k hk)).2.1
 exact⟨h.st.defers,_,results_ttt hr,_,G,Z,h.st.fr,λ k hk=>(h.ob.at_ p k (hG k hk)).1,λ k hk=>h.st.mok k (h.ob.at_ p k (hG k hk)).2.1,_,_,_,Z,(dow ow G x).weak (h.st.has u _ hl) hM,⟨(dt y).weak (h.st.has t _ hl2) hM,Z⟩,(dt z).weak (h.st.has v _ hl3) hM,Z⟩
end
section
variable{look:Nat->Option Dt}{T:Prop}
variable{α β γ:Type}[Rep α][Rep β][Rep γ]
variable{oy:Ow β}
theorem Sx.re{A B:Dt}(h:Sx F N M0 M Gs L ((s,p,A)::O) a w)(hAB:A.rd M w (Act.at a s)->B.rd M w (Act.at a s))(ho:∀ b,B.own b->zj Gs p b):Sx F N M0 M Gs L ((s,p,B)::O) a w:=by
 refine⟨⟨h.st.fr,h.st.size,h.st.defers,h.st.mok,λ t z hz=>?_⟩,h.ob,h.no,⟨ho,h.ow.2⟩⟩;rcases yq hz with h1 | ⟨h0,h1⟩
 ·exact h.st.has t z (yF h1)
 ·simp only[envO,ae] at h1;cases h2:t == s with
  |true=>
   simp only[h2] at h1;injection h1 with h1;subst h1;have e:t=s:=by simpa using h2
   subst e;exact hAB (h.st.has t A (by rw[yi h0];simp[envO]))
  |false=>simp[h2] at h1;exact h.st.has t z (by rw[yi h0];simp only[envO,ae,h2];exact h1)
theorem Sx.mvNA{ow:Ow α}{o1:Ow γ}{off2:Nat}{x:α}{y:Bx γ}{upd:Bx γ->α}(h:Sx F N M0 M Gs L O a w)(p p2:Nat)(hP:PH ow x v0 cf (Ow.boxA b2 o1) b off y upd)(hm:(true,b,off,ptA b2)∈cf)(hm2:(true,b2,off2,u2)∈cf)
  (hu:(L++envO O).lookup s=some (dis (ptA b2)))    (hs:(L++envO O).lookup sb=some (dnm ow G x v0 cf)) 
  (ks:List Nat) (hk:selP ks L=some L2) (qs:List Nat) (hq:selR L O qs p=some O2) (hq2:O2.all (λ q=>q.2.1 != p&&q.2.1 != p2)=true) (hsn:L2.lookup sb=none) (hdn:L2.lookup s=none) 
  (next:∀ G2 G1,Sx F N M0 M ((Gs.set p G2).set p2 G1) L2 ((s,p2,dnm o1.box G1 ⟨y.x⟩ (ptA b2) [(true,b2,off2,u2)])::(sb,p,dhk ow (Ow.boxA b2 o1) G2 v0 b off (ptA b2) upd)::O2) a w->T)(hp:p<Gs.length:=by simp)(hp2:p2<Gs.length:=by simp)(hne:p≠p2:=by decide)(hG:∀ b,G b->zj Gs p b:=by exact λ _ h=>h)(hss:sb≠s:=by decide):T:=by
 have hf:=(h.st.has sb _ hs).2.2 _ hm2 Z;refine h.mvN p p2 hP hm Z (zT Z Z) Z hu hp hp2 hne hs hG ks hk qs hq hq2 hsn hdn hss λ G2 G1 st=>next G2 G1 (st.re (λ⟨e,⟨cs,k1,k2⟩,_⟩=>?_) λ b hb=>st.ow.1 b hb)
 obtain⟨C,e3,Gr,k3⟩:=id k1;exact⟨e,⟨cs,Ow.pin_box k1,k2⟩,λ q hq _=>by cases aF.1 hq;exact⟨k3.2.2.1,hf.2.1,hf.2.2⟩⟩
theorem Sx.toA{o1:Ow γ}{y:Bx γ}(h:Sx F N M0 M Gs L O a w)(p:Nat)(hs:(L++envO O).lookup s=some (dnm o1.box G y (ptA b) cf))(hn:L.lookup s=none)(qs:List Nat)(hq:selR L O qs p=some O2)(hG:∀ b,G b->zj Gs p b:=by exact λ _ h=>h):Sx F N M0 M Gs L ((s,p,dnm (Ow.boxA b o1) G y (ptA b) cf)::O2) a w:=by
 obtain⟨h1,⟨cs,h2,h3⟩,h4⟩:=h.st.has s _ hs;refine(h.drop hq).addO hn ⟨h1,⟨cs,Ow.box_pin h2 ?_,h3⟩,h4⟩ hG;obtain⟨b',C,e,Gr,hc,_⟩:=h2;rw[hc] at h3 ⊢;have h6:ptA b=ptA b':=h3;grind
theorem opd_hk{ow:Ow α}{upd:β->α}(h:look s=some (dhk ow oy G v0 b off u upd)):OpdR M look (.tmp s) (dis v0):=λ _ _ hl=>(hl s _ h).1.1
theorem xLhk{ow:Ow α}{upd:β->α}(ho:o.op=.load t q)(ht:tyB P t false 1=true)(hq:OpdR M look q (dis (.pointer (some ⟨b,off,none⟩))))(hs:look sb=some (dhk ow oy G v0 b off u upd)):OpRel P M look o (dis u):=
 zC λ a w _ hl=>⟨u,yLd ho ht (hq w a hl) (λ _ h=>h) w (hl sb _ hs).2,Z⟩
end
def chkPre(ops:Array Oper)(k:Nat):Bool:=(List.range ops.size).all λ i=>if i<k then(ops[i]?).all (λ o=>o.guard.isNone) else(List.range k).all λ j=>((cloT ops).getD i []).contains j
def QP(P:Program)(ops:Array Oper)(Q:Exit->Act->World->Prop)(k:Nat):Exit->Act->World->Prop
 | .normal,a,w=>wpAnyH P .any ops Q (λ _=>True) (ops.size - k) (Qd ops.size (2 ^ k - 1)) a w
 | e,a,w=>Q e a w
section
variable{k2:Nat}
theorem chkPre_at(h:chkPre ops k=true)(ho:ops[i]?=some o):(i<k->o.guard=none)/\(k<=i->∀ j,j<k->j∈(cloT ops).getD i []):=by
 have:=al.1 h i (az.2 (aD.1 ho).1);refine⟨λ hi=>?_,λ hi j hj=>?_⟩
 ·rw[Kc hi,ho] at this;simpa using this
 ·rw[Kd (by omega)] at this;simp_all
theorem take_at(h:i<k):(ops.toList.take k).toArray[i]?=ops[i]?:=by
 grind
theorem wpAnyH_pre(hc:jf ops k2 (cloT ops) []=true)(hp:chkPre ops k=true)(hkn:k<=ops.size):∀ (f:Nat) (l L:Array Bool) (a:Act) (w:World),left k l=f->l.size=k->L.size=ops.size->(∀ i,i<k->L.getD i false=l.getD i false)->(∀ i,k<=i->L.getD i false=false)->zam (cloT ops) ops.size L->
  wpAnyH P .any (ops.toList.take k).toArray (QP P ops Q k) (λ _=>True) f l a w->wpAnyH P .any ops Q (λ _=>True) (f+(ops.size - k)) L a w:=by
 intro f
 induction f with
 |zero=>
  intro l L a w hf hl hL h1 h2 _ h;have hall:∀ i,i<k->l.getD i false=true:=λ i hi=>by
   have h3:i ∉ (List.range k).filter λ i=>!l.getD i false:=by
    rw[ar hf];intro h;cases h
   rw[dc] at h3;have:=λ hx=>h3 ⟨az.2 hi,hx⟩
   simpa using this
  have e:L=Qd ops.size (2 ^ k - 1):=by
   apply Array.ext
   ·simp[Qd,hL]
   ·intro i hi _;have:L.getD i false=decide (i<k):=by
     by_cases hik:i<k
     ·rw[h1 i hik,hall i hik];simp[hik]
     ·rw[h2 i (by omega)];simp[hik]
    simp[Qd];rw[← this];simp[hi]
  rw[aB,e];exact h.2
 |succ f ih=>
  intro l L a w hf hl hL h1 h2 hcl h;obtain⟨p,hpk,hup⟩:∃ p,p<k/\l.getD p false=false:=by
   cases hx:(List.range k).filter λ i=>!l.getD i false with
   | nil=>unfold left at hf;rw[hx] at hf;cases hf
   |cons p r=>
    have:p∈(List.range k).filter λ i=>!l.getD i false:=by rw[hx];exact bK ..
    rw[dc] at this;exact⟨p,az.1 this.1,by simpa using this.2⟩
  rw[show f+1+_=(f+(ops.size - k))+1 by omega];refine⟨λ hnil=>absurd hnil (zc0 hc hL (p:=p) (by omega) (by rw[h1 p hpk];exact hup)),λ i hi=>?_⟩;obtain⟨hilt,hiu,hicl⟩:=ze5 hc hcl hi;obtain⟨_,o,ho,hall⟩:=cA.1 hi;have hik:i<k:=by
   rcases aR i k with hx | hx
   ·exact hx
   ·have:=hicl p ((chkPre_at hp ho).2 hx p hpk);rw[h1 p hpk,hup] at this;cases this
  have hiu':L.getD i false=false:=by rw[YN (by omega) false true];exact hiu
  have hiK:i∈Region.ready .any (ops.toList.take k).toArray l:=cA.2 ⟨by rw[YN (by omega) true false,← h1 i hik];exact hiu',o,by rw[take_at hik];exact ho,λ e he hb=>by
   rw[← h1 e.on (by have:=(zcY hc ho).1 e he hb;omega)];exact hall e he hb⟩
  have hst:=h.2 i hiK;unfold wpOp at hst ⊢;rw[take_at hik,ho] at hst;rw[ho];simp only[Z3 ((chkPre_at hp ho).1 hik),bI] at hst ⊢;have hn:∀ a' w',(True/\wpAnyH P .any (ops.toList.take k).toArray _ (λ _=>True) f (l.setIfInBounds i true) a' w')->True/\wpAnyH P .any ops Q (λ _=>True) _ _ a' w':=λ a' w' hK=>by
   refine⟨trivial,ih _ _ a' w' ?_ (by simpa using hl) (by simpa using hL) (λ j hj=>?_) (λ j hj=>?_) (zcz hc hL hcl hi) hK.2⟩
   ·have:=zcZ hik hl (by rw[← h1 i hik];exact hiu');omega
   ·by_cases hij:i=j
    ·subst hij;rw[xg (by omega),xg (by omega)]
    ·rw[zY hij,zY hij];exact h1 j hj
   ·rw[zY (by omega)];exact h2 j hj
  rcases hst with h5 | h5
  ·exact .inl (Oper.wp_mono2 hn (λ⟨a,w,h⟩=>⟨a,w,h⟩) h5)
  ·obtain⟨a1,w1,h6⟩:=h5.2;exact .inr ⟨h5.1,a1,w1,h6⟩
theorem rep_at{n:Nat}:(Array.replicate n false).getD i false=false:=by
 simp only[bX,Array.getElem?_replicate];split <;> rfl
theorem pre_nil(h:wpAnyH P .any ops Q (λ _=>True) (ops.size - k) (Qd ops.size (2 ^ k - 1)) a w):wpList P (ops.toList.take k).toArray (QP P ops Q k) [] a w:=h
end
section
theorem Sx.pre{id:Nat}(h:Sx F N M0 M Gs L O a w)(hm:P.follows .mixedOrders=true)(k k2:Nat)(next:∀ w',Sx F N M0 M Gs L O a w'->wpAnyH P .any (ops.toList.take k).toArray (QP P ops Q k) (λ _=>True) k (Array.replicate k false) a w')(hc:jf ops k2 (cloT ops) []=true:=by decide +kernel)(hp:chkPre ops k=true:=by decide +kernel)(hkn:k<=ops.size:=by decide):(Code.region id ops true).wp P Q a w:=
 h.held (λ _=>True) hm λ w' st=>by
  have:=wpAnyH_pre hc hp hkn k _ (Array.replicate ops.size false) a w' (by unfold left;rw[List.filter_eq_self.2 (λ i _=>by rw[rep_at];rfl)];exact bd) (by simp) (by simp) (λ i _=>by rw[rep_at,rep_at]) (λ i _=>rep_at) (λ i _ hl=>by rw[rep_at] at hl;cases hl) (next w' st);rwa[show k+_=ops.size by omega] at this
end
section
variable{α β:Type}[Rep α][Rep β]
variable{oo:Ow α}
theorem Sx.tkG{X:Dt}(h:Sx F N M0 M Gs L O a w)(ho:ops[i]?=some o)(hh:opH o N=some d)(hs:Region.noSelect ops=true)(hf:Region.free .any ops listed i=true)(hr:(Region.ready .any ops listed).contains i=true)
  (hQ:∀ c a w v,Q (.panic c) (a.put o.dst v) w->Q (.panic c) a w) (hS:S w) (hy:∀ w,S w->(execOp a.eval o).run P w=.ok (.value v) w) (hX:X.rd M w v) (hG:∀ b,X.own b->zj Gs p b) (hdn:L.lookup d=none)
  (next:∀ a',Sx F N M0 M Gs L ((d,p,X)::O) a' w->wpAnyH P .any ops Q S f (listed.setIfInBounds i true) a' w):wpAnyH P .any ops Q S (f+1) listed a w:=
 wpAnyH_take ho hs hf hr (λ c a w=>hQ c a w _) (.inl ⟨Z3 (zQ hh).1,hy⟩) hS (by rw[(zQ hh).2.1];exact next _ (h.putO (zQ hh).2.2 hdn hX hG))
theorem yAs(ho:o.op=.assign q)(hv:a.eval q=v):∀ w,S w->(execOp a.eval o).run P w=.ok (.value v) w:=λ w _=>by
 unfold execOp;rw[ho];simp[hv]
theorem yEx{j:Nat}(ho:o.op=.extract q j)(hv:a.eval q=.tuple vs)(hj:vs[j]?=some v):∀ w,S w->(execOp a.eval o).run P w=.ok (.value v) w:=λ w _=>by
 unfold execOp;rw[ho];simp[hv,Instr.extract,hj]
theorem Sx.tkAs(h:Sx F N M0 M Gs L O a w)(ho:ops[i]?=some o)(hh:opH o N=some d)
    (hop:o.op=.assign q) (hq:OpdR M (λ s=>(L++envO O).lookup s) q y) (hn:y.nb=true)
  (next:∀ a',Sx F N M0 M Gs ((d,y)::L) O a' w->wpAnyH P .any ops Q S f (listed.setIfInBounds i true) a' w)(hs:Region.noSelect ops=true:=by decide +kernel)(hf:Region.free .any ops listed i=true:=by decide +kernel)(hr:(Region.ready .any ops listed).contains i=true:=by decide +kernel)(hQ:∀ c a w v,Q (.panic c) (a.put o.dst v) w->Q (.panic c) a w:=by exact λ _ _ _ _ h=>h)(hS:S w:=by trivial):wpAnyH P .any ops Q S (f+1) listed a w:=
 h.tkY ho hh hs hf hr (λ c a w=>hQ c a w _) hS (yAs hop Z) (hq w a λ s y hy=>h.st.has s y hy) hn next
theorem Sx.tkAo{X:Dt}(h:Sx F N M0 M Gs L O a w)(p:Nat)(ho:ops[i]?=some o)(hh:opH o N=some d)
  (hQ:∀ c a w v,Q (.panic c) (a.put o.dst v) w->Q (.panic c) a w) (hS:S w) (hop:o.op=.assign (.tmp sb)) (hl:(L++envO O).lookup sb=some X) (hG:∀ b,X.own b->zj Gs p b) (qs:List Nat) (hqs:selR L O qs p=some O2) (hdn:L.lookup d=none)
  (next:∀ a',Sx F N M0 M Gs L ((d,p,X)::O2) a' w->wpAnyH P .any ops Q S f (listed.setIfInBounds i true) a' w)(hs:Region.noSelect ops=true:=by decide +kernel)(hf:Region.free .any ops listed i=true:=by decide +kernel)(hr:(Region.ready .any ops listed).contains i=true:=by decide +kernel):wpAnyH P .any ops Q S (f+1) listed a w:=
 (h.drop hqs).tkG ho hh hs hf hr hQ hS (yAs hop Z) (h.st.has sb _ hl) hG hdn next
theorem Sx.tkMo{X:Dt}(h:Sx F N M0 M Gs L O a w)(p:Nat)(ho:ops[i]?=some o)(hh:opH o N=some d)(hf:Region.free .any ops listed i=true)(hr:(Region.ready .any ops listed).contains i=true)
   (hS:S w) (hop:o.op=.move (.tmp sb)) (hl:(L++envO O).lookup sb=some X)  (qs:List Nat) (hqs:selR L O qs p=some O2) (hdn:L.lookup d=none)
  (next:∀ a',Sx F N M0 M Gs L ((d,p,X)::O2) a' w->wpAnyH P .any ops Q S f (listed.setIfInBounds i true) a' w)(hs:Region.noSelect ops=true:=by decide +kernel)(hQ:∀ c a w v,Q (.panic c) (a.put o.dst v) w->Q (.panic c) a w:=by exact λ _ _ _ _ h=>h)(hG:∀ b,X.own b->zj Gs p b:=by exact λ _ h=>h):wpAnyH P .any ops Q S (f+1) listed a w:=
 (h.drop hqs).tkG ho hh hs hf hr hQ hS (yMv hop Z) (h.st.has sb _ hl) hG hdn next
theorem Sx.tk30{x:α}{z:Dt}(h:Sx F N M0 M Gs L O a w)(ho:ops[i]?=some o)(hh:opH o N=some d)
  (hQ:∀ c a w v,Q (.panic c) (a.put o.dst v) w->Q (.panic c) a w) (hS:S w) (hop:o.op=.extract (.tmp s) 0) (hl:(L++envO O).lookup s=some (drd (Rd.t3m y oo x z) G))
  (next:∀ a',Sx F N M0 M Gs ((d,y)::L) O a' w->wpAnyH P .any ops Q S f (listed.setIfInBounds i true) a' w)(hs:Region.noSelect ops=true:=by decide +kernel)(hf:Region.free .any ops listed i=true:=by decide +kernel)(hr:(Region.ready .any ops listed).contains i=true:=by decide +kernel):wpAnyH P .any ops Q S (f+1) listed a w:=by
 obtain⟨u1,u2,u3,hv,_,h2,_⟩:=h.st.has s _ hl;exact h.tkY ho hh hs hf hr (λ c a w=>hQ c a w _) hS (yEx hop hv Z) h2.1 h2.2 next
theorem Sx.tk31{x:α}{z:Dt}(h:Sx F N M0 M Gs L O a w)(p:Nat)(ho:ops[i]?=some o)(hh:opH o N=some d)
  (hQ:∀ c a w v,Q (.panic c) (a.put o.dst v) w->Q (.panic c) a w) (hS:S w) (hop:o.op=.extract (.tmp s) 1) (hl:(L++envO O).lookup s=some (drd (Rd.t3m y oo x z) G)) (hG:∀ b,G b->zj Gs p b) (qs:List Nat) (hqs:selR L O qs p=some O2) (hdn:List.lookup d ((s,dexm y z)::L)=none)
  (next:∀ a',Sx F N M0 M Gs ((s,dexm y z)::L) ((d,p,dow oo G x)::O2) a' w->wpAnyH P .any ops Q S f (listed.setIfInBounds i true) a' w)(hs:Region.noSelect ops=true:=by decide +kernel)(hf:Region.free .any ops listed i=true:=by decide +kernel)(hr:(Region.ready .any ops listed).contains i=true:=by decide +kernel):wpAnyH P .any ops Q S (f+1) listed a w:=by
 obtain⟨u1,u2,u3,hv,h1,h2,h3⟩:=h.st.has s _ hl;exact((h.drop hqs).addL (y:=dexm y z) ⟨u1,u2,u3,hv,h2,h3⟩).tkG ho hh hs hf hr hQ hS (yEx hop hv Z) h1 hG hdn next
theorem Sx.tk32{z:Dt}(h:Sx F N M0 M Gs L O a w)(ho:ops[i]?=some o)(hh:opH o N=some d)
  (hQ:∀ c a w v,Q (.panic c) (a.put o.dst v) w->Q (.panic c) a w) (hS:S w) (hop:o.op=.extract (.tmp s) 2) (hl:(L++envO O).lookup s=some (dexm y z))
  (next:∀ a',Sx F N M0 M Gs ((d,z)::L) O a' w->wpAnyH P .any ops Q S f (listed.setIfInBounds i true) a' w)(hs:Region.noSelect ops=true:=by decide +kernel)(hf:Region.free .any ops listed i=true:=by decide +kernel)(hr:(Region.ready .any ops listed).contains i=true:=by decide +kernel):wpAnyH P .any ops Q S (f+1) listed a w:=by
 obtain⟨u1,u2,u3,hv,_,h3⟩:=h.st.has s _ hl;exact h.tkY ho hh hs hf hr (λ c a w=>hQ c a w _) hS (yEx hop hv Z) h3.1 h3.2 next
end
section
variable{α:Type}[Rep α]{look:Nat->Option Dt}
def dlc(xs:List α):Dt where
 rd M w v:=(dt xs).rd M w v/\∃ A,v=.slice A xs.length xs.length
 own:=noB
 nb:=true
 nob _ _ h:=h
 stable:=λ h e=>⟨(dt xs).stable h.1 e,h.2⟩
 weak:=λ h e=>⟨(dt xs).weak h.1 e,h.2⟩
theorem op_litC{n:Nat}{parts:Array (Nat×Operand)}{xs:List α}(ho:o.op=.buildSlice t n parts)(ht':slB P t (Rep.size α)=true)(hz':zlB P t=true)
  (hp:parts=(opds.zipIdx.map λ p=>(p.2,p.1)).toArray) (hn:n=opds.length)  (hx:OpdsR M look opds xs)(hsz:opds.length*Rep.size α<=16777216:=by decide):OpRel P M look o (dlc xs):=
 λ a w hm hl=>by
  obtain⟨e,ht⟩:=jJ ht';obtain⟨ti,z,h1,h2⟩:=zlB_spec hz' ht;have hg:=hx.get;have hcell:∀ (i:Nat) (opd:Operand),opds[i]?=some opd->∃ x,xs[i]?=some x/\Rep.rdc M w (a.eval opd).cells.toList x:=λ i opd hi=>by
   have hlt:i<xs.length:=by rw[← hg.1];exact(ai.1 hi).1
   exact⟨_,aa hlt,(hg.2 i opd _ hi (aa hlt)).cells hl⟩
  obtain⟨cells,g1,g2⟩:=J1 (parts:=opds.map a.eval) ht h1 h2 (by simpa using hsz) (λ v hv=>by
   obtain⟨opd,hopd,rfl⟩:=bg.1 hv;obtain⟨i,hi⟩:=aN hopd;obtain⟨x,_,hr⟩:=hcell i opd hi;simpa using Rep.len hr) w
  have he:Ext0 w (w.alloc (.cells cells e)):=Ext0.alloc _ _;refine OpOut.of_value (w':=w.alloc _) (v:=.slice _ xs.length xs.length) ?_ ⟨he,⟨_,⟨_,xs.length,Z,ak _,?_,.inr ⟨w.heap.size,0,cells.toList,Z,λ h=>absurd (hm _ h) (cJ _),λ j u hj=>?_,?_⟩⟩,Z⟩,_,Z⟩
  ·unfold execOp;rw[ho];have e1:(parts.map λ p:Nat×Operand=>(p.1,a.eval p.2))=(((opds.map a.eval).zipIdx).map λ p=>(p.2,p.1)).toArray:=by
    rw[hp];simp[eh]
   simp at g1;rw[hg.1] at g1;simp[e1,hn,g1,hg.1]
  ·have:=Rep.pos (α:=α);rw[← hg.1];have h5:opds.length<=opds.length*Rep.size α:=dn _ this;exact aQ h5 (aQ hsz (by decide))
  ·rw[aB,dC];simpa using hj
  ·rw[g2];refine zao (by simp[hg.1]) λ i c x h4 h5=>?_
   simp only[aY,du] at h4;obtain⟨u,⟨opd,hopd,rfl⟩,rfl⟩:=h4;obtain⟨x',hx',hr⟩:=hcell i opd hopd;rw[h5] at hx';injection hx' with hx';subst hx';exact Rep.stable hr (Same.of_ext he)
theorem op_appC{xs ys r:List α}(ho:o.op=.call { callee:=.builtin .append,args:=#[q,qx],argTypes:=#[t,t] })(hel:elB P t e (Rep.size α) bytes=true)
  (hs:OpdR M look q (dlc xs))  (hx:∀ (w:World) (a:Act),(∀ s y,look s=some y->y.rd M w (Act.at a s))->RowAt M w (a.eval qx) ys) (hm:appO bytes xs ys=some r)(hne:xs≠[]:=by simp):OpRel P M look o (dt r):=
 λ a w hmok hl=>by
  unfold appO at hm;split at hm
  ·rename_i hsz;injection hm with hm;subst hm;obtain⟨h1,A0,hA0⟩:=hs w a hl;obtain⟨A,c,hA,hy3⟩:=hx w a hl;obtain⟨A1,c1,hq1,hx3⟩:=yI M w _ h1;obtain⟨i,z,ht,hi,hz,hs1,hs2,hs3⟩:=J3 hel;have hrun0:∀ {v' w'},(Builtin.append_ #[t,t] o.type #[.slice A0 xs.length xs.length,.slice A ys.length c]).run P w=.ok v' w'->(execOp a.eval o).run P w=.ok (.value v') w':=λ{v' w'} hr=>by
    unfold execOp;simp[ho,resolve,invoke,builtin,hA0,hA,hr]
   by_cases hy:ys=[]
   ·subst hy;refine OpOut.of_value (v:=.slice A0 xs.length xs.length) (w':=w) (hrun0 ?_) ⟨Ext0.refl _,by rw[aM,← hA0];exact h1⟩;cases A with
    | none=>exact XT ht hi A0 xs.length xs.length c (ak _)
    | some ad=>exact YO ht hi A0 ad xs.length xs.length c (ak _)
   obtain⟨b,off,ycells,hAe,hyc,hyr⟩:=hy3.resolve_left hy;obtain⟨b0,off0,xcells,hAx,hxc,hxr⟩:=hx3.resolve_left hne;have e0:A0=A1:=by rw[hA0] at hq1;injection hq1
   subst e0 hAe hAx;have hpos:=Nat.pos_of_ne_zero λ h0=>hy (ar h0)
   obtain⟨v',w',hrun,hown',hgr⟩:=dI (w:=w) t o.type e i z _ bytes ht hi hz hs1 hs2 hs3 Rep.pos ⟨b0,off0,none⟩ xs.length xs.length xcells (Je hxr) (λ j u hj=>by rw[jq];exact hxc j u hj) ⟨b,off,none⟩ ys.length c ycells (Je hyr) (λ j u hj=>by rw[jq];exact hyc j u hj) (by omega) (by unfold maxLen;omega) hsz.1;have hg':v'.ownBlock=none\/∀ k,v'.ownBlock=some k->w.heap.size<=k:=.inr λ k hk=>(hown'.lt k hk).1
   have hex:Ext0 w w':=⟨hgr.os,hgr.tape,hgr.output,hgr.size,λ k hk=>hgr.block k hk (by simp)⟩;have hM:∀ k,insO none M k->M k:=λ k hk=>hk.elim id λ e=>by cases e
   have hv':(dtip v'.ownBlock e _).rd _ w' v':=.inl ⟨xcells++ycells,by rw[ap];exact zap hown' (ao _),qO (Y9 (wE (λ k _ hk=>hM k hk) hxr) hgr hg') (Y9 (wE (λ k _ hk=>hM k hk) hyr) hgr hg'),Z⟩;exact OpOut.of_value (w':=w') (hrun0 hrun) ⟨hex,Jg hv' (λ b _ hb=>.inl hb) λ b hb hm=>by
    have h2:=(hown'.lt b hb).1;have h3:=hmok b hm;omega⟩
  ·cases hm
end
def SW(b0 o0:Nat)(u0:Value)(b o1:Nat)(c1:Array Value)(o2:Nat)(c2:Array Value)(w:World):Prop:=w.cell? ⟨b0,o0,none⟩=some u0/\CellsAt w b o1 c1.toList/\CellsAt w b o2 c2.toList
section
variable{α β:Type}[Rep α][Rep β]
def dhb(ow:Ow α)(oy:Ow β)(G:Nat->Prop)(v0:Value)(b off:Nat)(upd:β->α)(o1:Nat)(c1:Array Value)(o2:Nat)(c2:Array Value):Dt where
 rd M w v:=(dhl ow oy G v0 b off upd).rd M w v/\CellsAt w b o1 c1.toList/\CellsAt w b o2 c2.toList
 own:=G
 nb:=false
 nob h:=by cases h
 stable:=by
  rintro M w w' v ⟨h1,h2,h3⟩ k
  obtain⟨_,wb,Mb,G2,cs,C,e,h3',hL,hGb,h6,h7,h8,h9,put⟩:=id h1;have e1:w'.heap[b]?=w.heap[b]?:=k b (by
   have:w.heap[b]?=some (.cells C e (0,0)):=by rw[hL.same b (xG h8) (.inr (.inl Z))];exact h8
   exact xG this) (.inr hGb)
  have e2:∀ {o:Nat} {c:List Value},CellsAt w b o c->CellsAt w' b o c:=λ hc j u hj=>by
   have:=hc j u hj;unfold World.cell? at this ⊢;rw[e1];exact this
  exact⟨(dhl ow oy G v0 b off upd).stable h1 k,e2 h2,e2 h3⟩
 weak:=λ⟨h1,h2⟩ k=>⟨(dhl ow oy G v0 b off upd).weak h1 k,h2⟩
def dopt(g:Option Nat)(X:Nat->Dt):Dt where
 rd M w v:=∀ b,g=some b->(X b).rd M w v/\∀ k,(X b).own k->k=b
 own:=oneB g
 nb:=false
 nob h:=by cases h
 stable:=λ h k b hb=>⟨(X b).stable (h b hb).1 λ i hi hm=>k i hi (hm.imp id λ ho=>by rw[(h b hb).2 i ho];exact hb),(h b hb).2⟩
 weak:=λ h k b hb=>⟨(X b).weak (h b hb).1 k,(h b hb).2⟩
end
section
variable{α β γ:Type}[Rep α][Rep β][Rep γ]
variable{oy:Ow β}
theorem Sx.SWn{ow:Ow α}{o1 o2:Nat}{x:α}(h:Sx F N M0 M Gs L O a w)(hs:(L++envO O).lookup s=some (dnm ow G x v0 cf))(m0:(true,b0,o0,u0)∈cf)(h0:u0.oneCell'=true)(m1:(true,b,o1,.agg c1)∈cf)(m2:(true,b,o2,.agg c2)∈cf):SW b0 o0 u0 b o1 c1 o2 c2 w:=
 let k:=(h.st.has s _ hs).2.2;⟨h.cellS (hs:=hs) m0 (hu:=h0),(k _ m1 Z).2.2,(k _ m2 Z).2.2⟩
theorem Sx.SWh{ow:Ow α}{ow2:Ow γ}{δ:Type}[Rep δ]{oz:Ow δ}{t o1 o2:Nat}{upd:β->α}{upd2:δ->γ}(h:Sx F N M0 M Gs L O a w)(hs:(L++envO O).lookup s=some (dhk ow oy G v0 b0 o0 u0 upd):=by rfl)(ht:(L++envO O).lookup t=some (dhb ow2 oz G2 v1 b off upd2 o1 c1 o2 c2):=by rfl):SW b0 o0 u0 b o1 c1 o2 c2 w:=
 ⟨(h.st.has s _ hs).2,(h.st.has t _ ht).2.1,(h.st.has t _ ht).2.2⟩
theorem yLdA{c:Array Value}{n:Nat}(ho:o.op=.load t q)(ht:tyB P t true n=true)(hv:a.eval q=.pointer (some ⟨b,off,none⟩))(hn:c.size=n)(hS:∀ w,S w->CellsAt w b off c.toList):∀ w,S w->(execOp a.eval o).run P w=.ok (.value (.agg c)) w:=λ w hw=>by
 have:=yH ht (by simpa using hn) (λ h=>by cases h) (λ j z hj=>hS w hw j z hj);unfold execOp;rw[ho];simp[Instr.loadAt,Instr.sureAddr,hv,this,mkv]
theorem Sx.rdW{ow:Ow α}{x:α}{z:γ}{upd:γ->α}(h:Sx F N M0 M Gs L O a w)(hP:PH ow x v0 cf (Ow.frz (α:=γ)) b off z upd)(hm:(true,b,off,u)∈cf)(hf:Fits γ u)(hs:(L++envO O).lookup s=some (dnm ow G x v0 cf)):(dt z).rd M w u:=by
 obtain⟨h1,⟨cs,h2,h3⟩,h4⟩:=h.st.has s _ hs;obtain⟨G1,G2,C,e,s1,s2,hGb,n1,n2,hdj,hh',hsz,hr,put⟩:=hP.of h2 h3 h4;exact⟨_,hr,Q5 hf hh' hsz (h4 _ hm Z).2.2⟩
theorem Sx.upB{ow:Ow α}{o1 o2:Nat}{upd:β->α}(h:Sx F N M0 M Gs L O a w)(p:Nat)(hs:(L++envO O).lookup s=some (dhl ow oy G v0 b off upd))(h1:CellsAt w b o1 c1.toList)(h2:CellsAt w b o2 c2.toList)(hn:L.lookup s=none)(hG:∀ b,G b->zj Gs p b)(qs:List Nat)(hq:selR L O qs p=some O2):Sx F N M0 M Gs L ((s,p,dhb ow oy G v0 b off upd o1 c1 o2 c2)::O2) a w:=
 (h.drop hq).addO hn ⟨h.st.has s _ hs,h1,h2⟩ hG
theorem Sx.dnB{ow:Ow α}{o1 o2:Nat}{upd:β->α}(h:Sx F N M0 M Gs L O a w)(p:Nat)(hs:(L++envO O).lookup s=some (dhb ow oy G v0 b off upd o1 c1 o2 c2))(hn:L.lookup s=none)(hG:∀ b,G b->zj Gs p b)(qs:List Nat)(hq:selR L O qs p=some O2):Sx F N M0 M Gs L ((s,p,dhl ow oy G v0 b off upd)::O2) a w:=
 (h.drop hq).addO hn (h.st.has s _ hs).1 hG
theorem Sx.opt0(h:Sx F N M0 M Gs L O a w)(d p:Nat)(hn:L.lookup d=none):Sx F N M0 M Gs L ((d,p,dopt none X)::O) a w:=h.addO hn (λ b hb=>by cases hb) λ b hb=>by cases hb
theorem Sx.optS(h:Sx F N M0 M Gs L O a w)(p:Nat)(hs:(L++envO O).lookup s=some (dopt (some b) X))(hn:L.lookup s=none)(qs:List Nat)(hq:selR L O qs p=some O2)(hX:∀ k,(X b).own k->zj Gs p k:=by exact λ _ h=>h):Sx F N M0 M Gs L ((s,p,X b)::O2) a w:=
 (h.drop hq).addO hn (h.st.has s _ hs b Z).1 hX
theorem Sx.swp{q1 q2:Nat×Nat×Dt}(h:Sx F N M0 M Gs L (q1::q2::O) a w)(hne:(q1.1 == q2.1)=false):Sx F N M0 M Gs L (q2::q1::O) a w:=by
 refine⟨⟨h.st.fr,h.st.size,h.st.defers,h.st.mok,λ t z hz=>?_⟩,h.ob,h.no,⟨h.ow.2.1,h.ow.1,h.ow.2.2⟩⟩;rcases yq hz with h1 | ⟨h0,h1⟩
 ·exact h.st.has t z (yF h1)
 ·obtain⟨s1,p1,A⟩:=q1;obtain⟨s2,p2,B⟩:=q2;refine h.st.has t z ?_;rw[yi h0];simp only[envO,ae] at h1 ⊢;have hne':s1≠s2:=by simpa using hne
  cases e1:t == s1 with
  |true=>
   have:t=s1:=by simpa using e1
   subst this;have e2:(t == s2)=false:=by simpa using hne'
   simp[e2] at h1 ⊢;exact h1
  | false=>simpa only[e1] using h1
theorem Sx.optI(h:Sx F N M0 M Gs L ((d,p,X b)::O) a w)(hX:∀ k,(X b).own k->k=b)(hG:∀ k,oneB (some b) k->zj Gs p k:=by exact λ _ h=>h):Sx F N M0 M Gs L ((d,p,dopt (some b) X)::O) a w:=
 h.re (λ k b' hb=>by injection hb with hb;subst hb;exact⟨k,hX⟩) hG
theorem Sx.addD{z:γ}(h:Sx F N M0 M Gs L O a w)(s:Nat)(hs:(L++envO O).lookup s=some (dis u))(hz:(dt z).rd M w u):Sx F N M0 M Gs ((s,dt z)::L) O a w:=
 h.addL (by rw[show Act.at a s=u from h.st.has s _ hs];exact hz)
theorem Sx.tk20{oo:Ow α}{x:α}(h:Sx F N M0 M Gs L O a w)(p:Nat)(ho:ops[i]?=some o)(hh:opH o N=some d)(hf:Region.free .any ops listed i=true)(hr:(Region.ready .any ops listed).contains i=true)
  (hQ:∀ c a w v,Q (.panic c) (a.put o.dst v) w->Q (.panic c) a w) (hS:S w) (hop:o.op=.extract (.tmp s) 0) (hl:(L++envO O).lookup s=some (drd (Rd.t2o oo x y) G)) (hG:∀ b,G b->zj Gs p b) (qs:List Nat) (hqs:selR L O qs p=some O2) (hdn:List.lookup d ((s,dex2 y)::L)=none)
  (next:∀ a',Sx F N M0 M Gs ((s,dex2 y)::L) ((d,p,dow oo G x)::O2) a' w->wpAnyH P .any ops Q S f (listed.setIfInBounds i true) a' w)(hs:Region.noSelect ops=true:=by decide +kernel):wpAnyH P .any ops Q S (f+1) listed a w:=by
 obtain⟨u1,u2,hv,h1,h2⟩:=h.st.has s _ hl;exact((h.drop hqs).addL (y:=dex2 y) ⟨u1,u2,hv,h2⟩).tkG ho hh hs hf hr hQ hS (yEx hop hv Z) h1 hG hdn next
theorem Sx.tk21(h:Sx F N M0 M Gs L O a w)(ho:ops[i]?=some o)(hh:opH o N=some d)(hf:Region.free .any ops listed i=true)(hr:(Region.ready .any ops listed).contains i=true)
  (hQ:∀ c a w v,Q (.panic c) (a.put o.dst v) w->Q (.panic c) a w) (hS:S w) (hop:o.op=.extract (.tmp s) 1) (hl:(L++envO O).lookup s=some (dex2 y))
  (next:∀ a',Sx F N M0 M Gs ((d,y)::L) O a' w->wpAnyH P .any ops Q S f (listed.setIfInBounds i true) a' w)(hs:Region.noSelect ops=true:=by decide +kernel):wpAnyH P .any ops Q S (f+1) listed a w:=by
 obtain⟨u1,u2,hv,h2⟩:=h.st.has s _ hl;exact h.tkY ho hh hs hf hr (λ c a w=>hQ c a w _) hS (yEx hop hv Z) h2.1 h2.2 next
end
def lf(n m i1 i2:Nat)(c1 c2:Bool):Array Bool:=Qd n (m ||| (bif c1 then 1 <<< i1 else 0) ||| (bif c2 then 1 <<< i2 else 0))
def cn(c1 c2:Bool):Nat:=(bif c1 then 0 else 1)+(bif c2 then 0 else 1)
theorem zeh{n:Nat}(_hi:i<n):(Qd n m).setIfInBounds i true=Qd n (m ||| 1 <<< i):=by
 apply Array.ext
 ·simp[Qd]
 ·intro j h1 h2;have hj:j<n:=by simpa[Qd] using h2
  rw[Array.getElem_setIfInBounds]
  ·by_cases hij:i=j
   ·subst hij;simp[Qd,Nat.testBit_or,Nat.one_shiftLeft,Nat.testBit_two_pow_self]
   ·simp[Qd,hij,Nat.testBit_or,Nat.one_shiftLeft,Nat.testBit_two_pow_of_ne hij]
  ·simpa[Qd] using hj
section
variable{i1 i2:Nat}{c1 c2:Bool}
theorem lf_set(hi:i<ops.size:=by decide)(hm:m ||| 1 <<< i=m':=by decide):(lf ops.size m i1 i2 c1 c2).setIfInBounds i true=lf ops.size m' i1 i2 c1 c2:=by
 unfold lf;rw[zeh hi,← hm]
 grind
theorem aHin{T:Bool->Bool->Act->World->Prop}{f0:Nat}(n:∀ c1 c2 a w,T c1 c2 a w->wpAnyH P .any ops Q S (cn c1 c2+k) (lf ops.size m i1 i2 c1 c2) a w)(h:T false false a w)(hf:f0=cn false false+k)(hl:l=lf ops.size m i1 i2 false false:=by decide +kernel):wpAnyH P .any ops Q S f0 l a w:=by
 grind
def QF(K:Act->World->Prop)(Q:Exit->Act->World->Prop):Exit->Act->World->Prop
 | .normal,a,w=>K a w
 | e,a,w=>Q e a w
theorem wpOp_K(ho:ops[i]?=some o)(h:wpList P ops (QF K Q) [o] a w):wpOp P ops Q i K a w:=by
 unfold wpOp;rw[ho];simp only;unfold wpList at h;have hl:LetsOut _->LetsOut Q:=λ⟨a,w,h⟩=>⟨a,w,h⟩
 have hn:∀ a w,wpList P ops (QF K Q) [] a w->K a w:=λ a w h=>h
 split
 ·rename_i hw;rw[Kc hw] at h;exact h.imp (Oper.wp_mono2 hn hl) λ h=>⟨h.1,hl h.2⟩
 ·rename_i hw;rw[Kd hw] at h;exact hn _ _ h
theorem frB{n:Nat}(h:∀ x y,Region.free .any ops (lf n m i1 i2 x y) i=true:=by decide +kernel):Region.free .any ops (lf n m i1 i2 c1 c2) i=true:=h c1 c2
theorem rdB{n:Nat}(h:∀ x y,(Region.ready .any ops (lf n m i1 i2 x y)).contains i=true:=by decide +kernel):(Region.ready .any ops (lf n m i1 i2 c1 c2)).contains i=true:=h c1 c2
theorem aHfl{T:Bool->Bool->Act->World->Prop}{o1 o2:Oper}{f0:Nat}(f m i1 i2:Nat)(r:Bool->Bool->List Nat)(h1:ops[i1]?=some o1)(h2:ops[i2]?=some o2)
  
  
  (ha:∀ c2 a w,T false c2 a w->wpList P ops (QF (λ a w=>S w/\T true c2 a w) Q) [o1] a w)
  (hb:∀ c1 a w,T c1 false a w->wpList P ops (QF (λ a w=>S w/\T c1 true a w) Q) [o2] a w)
  (step:∀ c1 c2 a w,T c1 c2 a w->∀ i∈r c1 c2,wpOp P ops Q i (λ a' w'=>S w'/\wpAnyH P .any ops Q S (cn c1 c2+f) ((lf ops.size m i1 i2 c1 c2).setIfInBounds i true) a' w') a w)
  (next:(∀ c1 c2 a w,T c1 c2 a w->wpAnyH P .any ops Q S (cn c1 c2+(f+1)) (lf ops.size m i1 i2 c1 c2) a w)->wpAnyH P .any ops Q S f0 l0 a0 w0)(hi1:i1<ops.size:=by decide)(hi2:i2<ops.size:=by decide)(hr:∀ c1 c2,((Region.ready .any ops (lf ops.size m i1 i2 c1 c2)).all λ i=>(r c1 c2).contains i||(i == i1&&!c1)||(i == i2&&!c2))=true:=by decide +kernel)(hne:∀ c1 c2,(Region.ready .any ops (lf ops.size m i1 i2 c1 c2)).isEmpty=false:=by decide +kernel):wpAnyH P .any ops Q S f0 l0 a0 w0:=by
 have e1:∀ c2,(lf ops.size m i1 i2 false c2).setIfInBounds i1 true=lf ops.size m i1 i2 true c2:=λ c2=>by
  unfold lf;rw[zeh hi1]
  congr 1
  apply Nat.eq_of_testBit_eq;intro j;simp only[cond_true,cond_false,Nat.or_zero,Nat.testBit_or,Bool.or_assoc,Bool.or_comm,Bool.or_left_comm]
 have e2:∀ c1,(lf ops.size m i1 i2 c1 false).setIfInBounds i2 true=lf ops.size m i1 i2 c1 true:=λ c1=>by
  unfold lf;rw[zeh hi2]
  congr 1
  apply Nat.eq_of_testBit_eq;intro j;simp
 have key:∀ c1 c2 a w,T c1 c2 a w->(c1=false->∀ a w,T true c2 a w->wpAnyH P .any ops Q S (cn true c2+(f+1)) (lf ops.size m i1 i2 true c2) a w)->(c2=false->∀ a w,T c1 true a w->wpAnyH P .any ops Q S (cn c1 true+(f+1)) (lf ops.size m i1 i2 c1 true) a w)->wpAnyH P .any ops Q S (cn c1 c2+(f+1)) (lf ops.size m i1 i2 c1 c2) a w:=by
  intro c1 c2 a w hT k1 k2;show wpAnyH P .any ops Q S _ _ a w;refine⟨λ h0=>(by have:=hne c1 c2;rw[h0] at this;cases this),λ i hi=>?_⟩;have:=al.1 (hr c1 c2) i hi;simp at this;rcases this with(h | ⟨rfl,rfl⟩) | ⟨rfl,rfl⟩
  ·exact step c1 c2 a w hT i h
  ·refine wpOp_mono (λ a' w' hK=>⟨hK.1,?_⟩) (wpOp_K h1 (ha c2 a w hT));rw[e1];have:=k1 Z a' w' hK.2;have e:cn true c2+(f+1)=cn false c2+f:=by cases c2 <;> simp[cn] <;> omega
   rwa[e] at this
  ·refine wpOp_mono (λ a' w' hK=>⟨hK.1,?_⟩) (wpOp_K h2 (hb c1 a w hT));rw[e2];have:=k2 Z a' w' hK.2;have e:cn c1 true+(f+1)=cn c1 false+f:=by cases c1 <;> simp[cn] <;> omega
   rwa[e] at this
 have a8:∀ a w,T true true a w->wpAnyH P .any ops Q S _ _ a w:=λ a w h=>key _ _ a w h (λ h=>by cases h) (λ h=>by cases h)
 simp_all
end
