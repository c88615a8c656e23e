import Derived.Test.YtoomehfflopakaaGreatDoorTB
import Derived.Laws.BytesArg
import Derived.OrdersHeld
namespace Go.Proofs.YtoomehfflopakaaGreatDoor
open Go.RowKit
variable{a:Act}{A2:Addr}{listed:Array Bool}{ops:Array Oper}{ts:Array TypeId}{C tmps:Array Value}{c want:Bool}{R X y yd:Dt}{L L' L2:Env}{Q:Exit->Act->World->Prop}{F:Frm}{f:FuncId}{m:Int}{Gs Gs':List (Nat->Prop)}{O O2:List (Nat×Nat×Dt)}{ds rs xr xs:List Dt}{ks ns qs:List Nat}{rest:List Oper}{l opds:List Operand}{c1 c2 cy ycells zs:List Value}{N b bytes d fo i j k off p p2 s sb tv:Nat}{B G G' G1 G2 G3 Gr M M' M0 Mb:Nat->Prop}{o o2:Oper}{q vo:Operand}{A:Option Addr}{g:Option Nat}{P:Program}{dst e e2 src t ty ty2:TypeId}{u v v0 x x2:Value}{w w' w0:World}{S:World->Prop}
section
variable{look:Nat->Option Dt}
end
theorem Same.sub(h:Same M G w w')(hs:∀ b,G' b->G b):Same M G' w w':=λ k hk hm=>h k hk (hm.imp id (hs k))
def dis(u:Value):Dt where
 rd _ _ v:=v=u
 own:=noB
 nb:=true
 nob _ _ h:=h
 stable h _:=h
 weak h _:=h
structure Ow(α:Type)[Rep α] where
 ro:(Nat->Prop)->(Nat->Prop)->World->List Value->α->Prop
 toR:∀ {M G:Nat->Prop} {w:World} {cs:List Value} {x:α},ro M G w cs x->Rep.rdc (λ b=>M b/\¬ G b) w cs x
 stable:∀ {M G:Nat->Prop} {w w':World} {cs:List Value} {x:α},ro M G w cs x->Same M G w w'->ro M G w' cs x
 weak:∀ {M M' G:Nat->Prop} {w:World} {cs:List Value} {x:α},ro M G w cs x->(∀ k,k<w.heap.size->M' k->M k)->ro M' G w cs x
 more:∀ {M G G':Nat->Prop} {w:World} {cs:List Value} {x:α},ro M G w cs x->(∀ b,G b->G' b)->ro M G' w cs x
variable{a1:Ow (File)}{a0 a2:Ow (List Dir)}{a5:Ow (List Stmt)}{a3:Ow (List Str)}
structure Later(M G:Nat->Prop)(w:World)(M':Nat->Prop)(w':World):Prop where
 weak:∀ k,k<w.heap.size->M' k->M k
 same:Same M G w w'
theorem Later.sub{M G G' M':Nat->Prop}{w w':World}(h:Later M G w M' w')(hs:∀ b,G' b->G b):Later M G' w M' w':=⟨h.weak,h.same.sub hs⟩
theorem Later.refl(M G:Nat->Prop)(w:World):Later M G w M w:=⟨λ _ _ h=>h,λ _ _ _=>Z⟩
theorem Rep.later{α:Type}[Rep α]{cs:List Value}{x:α}(h:Rep.rdc M w cs x)(l:Later M G w M' w'):Rep.rdc M' w' cs x:=by
 have h1:Rep.rdc (λ k=>M k\/w.heap.size<=k) w cs x:=Rep.weak h λ k hk hm=>hm.elim id λ e=>by omega
 have h2:=Rep.stable h1 (w':=w') λ k hk hm=>l.same k hk (.inl λ hM=>hm.elim (λ e=>e (.inl hM)) λ e=>e.elim)
 exact Rep.weak h2 λ k _ hm=>if e:k<w.heap.size then .inl (l.weak k e hm) else .inr (by omega)
section
variable{α β:Type}[Rep α][Rep β]
theorem Ow.later(o:Ow α){cs:List Value}{x:α}(h:o.ro M G w cs x)(l:Later M G w M' w'):o.ro M' G w' cs x:=by
 have h1:o.ro (λ k=>M k\/w.heap.size<=k) G w cs x:=o.weak h λ k hk hm=>hm.elim id λ e=>by omega
 have h2:=o.stable h1 (w':=w') λ k hk hm=>l.same k hk (hm.imp (λ e hM=>e (.inl hM)) id)
 exact o.weak h2 λ k _ hm=>if e:k<w.heap.size then .inl (l.weak k e hm) else .inr (by omega)
theorem Ow.len(o:Ow α){M G:Nat->Prop}{w:World}{cs:List Value}{x:α}(h:o.ro M G w cs x):cs.length=Rep.size α:=Rep.len (o.toR h)
theorem Ow.one(o:Ow α){cs:List Value}{x:α}(h:o.ro M G w cs x):∀ c∈cs,c.oneCell'=true:=Rep.oneCell (o.toR h)
def Ow.frz:Ow α where
 ro M _ w cs x:=Rep.rdc M w cs x
 toR h:=Rep.weak h λ _ _ hk=>hk.1
 stable h e:=Rep.stable h e.mono
 weak h e:=Rep.weak h e
 more h _:=h
def Ow.pr(a:Ow α)(b:Ow β):Ow (α×β) where
 ro M G w cs x:=∃ G1 G2 c1 c2,(∀ b,G1 b->G b)/\(∀ b,G2 b->G b)/\(∀ b,G1 b->¬ G2 b)/\cs=c1++c2/\a.ro M G1 w c1 x.1/\b.ro M G2 w c2 x.2
 toR:=λ⟨G1,G2,c1,c2,s1,s2,_,h,h1,h2⟩=>⟨c1,c2,h,Rep.weak (a.toR h1) λ k _ hk=>⟨hk.1,λ h=>hk.2 (s1 k h)⟩,Rep.weak (b.toR h2) λ k _ hk=>⟨hk.1,λ h=>hk.2 (s2 k h)⟩⟩
 stable:=λ⟨G1,G2,c1,c2,s1,s2,hd,h,h1,h2⟩ e=>⟨G1,G2,c1,c2,s1,s2,hd,h,a.stable h1 (e.sub s1),b.stable h2 (e.sub s2)⟩
 weak:=λ⟨G1,G2,c1,c2,s1,s2,hd,h,h1,h2⟩ e=>⟨G1,G2,c1,c2,s1,s2,hd,h,a.weak h1 e,b.weak h2 e⟩
 more:=λ⟨G1,G2,c1,c2,s1,s2,hd,h,h1,h2⟩ e=>⟨G1,G2,c1,c2,λ b hb=>e b (s1 b hb),λ b hb=>e b (s2 b hb),hd,h,h1,h2⟩
end
abbrev Ow.via{α β:Type}[Rep β](f:α->β)(o:Ow β):@Ow α (Rep.iso f):=
 @Ow.mk α (Rep.iso f) (λ M G w cs x=>o.ro M G w cs (f x)) (λ h=>o.toR h) (λ h e=>o.stable h e) (λ h e=>o.weak h e) (λ h e=>o.more h e)
section
variable{α:Type}[Rep α]
def rowW(o:Ow α)(M G:Nat->Prop)(w:World):List Value->List α->Prop
 | cells,[]=>cells=[]
 | cells,x::xs=>∃ (G1 G2:Nat->Prop) (c r:List Value),(∀ b,G1 b->G b)/\(∀ b,G2 b->G b)/\(∀ b,G1 b->¬ G2 b)/\cells=c++r/\o.ro M G1 w c x/\rowW o M G2 w r xs
variable{o:Ow α}
theorem rowW_more:∀ {xs:List α} {G G':Nat->Prop} {cells:List Value},rowW o M G w cells xs->(∀ b,G b->G' b)->rowW o M G' w cells xs
 | [],_,_,_,h,_=>h
 | _::_,_,_,_,⟨G1,G2,c,r,s1,s2,hd,h,h1,h2⟩,e=>⟨_,_,c,r,λ b hb=>e b (s1 b hb),λ b hb=>e b (s2 b hb),hd,h,h1,h2⟩
theorem zba{M:Nat->Prop}{w:World}:∀ {xs:List α} {G:Nat->Prop} {cells:List Value},rowW o M G w cells xs->rowR (λ b=>M b/\¬ G b) w cells xs
 | [],_,_,h=>h
 | _::_,_,_,⟨G1,G2,c,r,s1,s2,_,h,h1,h2⟩=>⟨c,r,h,Rep.weak (o.toR h1) λ k _ hk=>⟨hk.1,λ h=>hk.2 (s1 k h)⟩,wE (λ k _ hk=>⟨hk.1,λ h=>hk.2 (s2 k h)⟩) (zba h2)⟩
theorem zeD{M:Nat->Prop}{w w':World}:∀ {xs:List α} {G:Nat->Prop} {cells:List Value},rowW o M G w cells xs->Same M G w w'->rowW o M G w' cells xs
 | [],_,_,h,_=>h
 | _::_,_,_,⟨G1,G2,c,r,s1,s2,hd,h,h1,h2⟩,e=>⟨G1,G2,c,r,s1,s2,hd,h,o.stable h1 (e.sub s1),zeD h2 (e.sub s2)⟩
theorem rowW_weak{M M':Nat->Prop}{w:World}(e:∀ k,k<w.heap.size->M' k->M k):∀ {xs:List α} {G:Nat->Prop} {cells:List Value},rowW o M G w cells xs->rowW o M' G w cells xs
 | [],_,_,h=>h
 | _::_,_,_,⟨G1,G2,c,r,s1,s2,hd,h,h1,h2⟩=>⟨G1,G2,c,r,s1,s2,hd,h,o.weak h1 e,rowW_weak e h2⟩
theorem J8{M M':Nat->Prop}{w w':World}:∀ {xs:List α} {G:Nat->Prop} {cells:List Value},rowW o M G w cells xs->Later M G w M' w'->rowW o M' G w' cells xs
 | [],_,_,h,_=>h
 | _::_,_,_,⟨G1,G2,c,r,s1,s2,hd,h,h1,h2⟩,e=>⟨G1,G2,c,r,s1,s2,hd,h,o.later h1 (e.sub s1),J8 h2 (e.sub s2)⟩
theorem J9{M G:Nat->Prop}{w:World}:∀ {xs:List α} {cells:List Value},rowR M w cells xs->rowW Ow.frz M G w cells xs
 | [],_,h=>h
 | _::_,_,⟨c,r,h,h1,h2⟩=>⟨noB,noB,c,r,λ _ h=>h.elim,λ _ h=>h.elim,λ _ h=>h.elim,h,h1,J9 h2⟩
theorem Jk{M:Nat->Prop}{w:World}:∀ {xs:List α} {G:Nat->Prop} {cells:List Value},rowW Ow.frz M G w cells xs->rowR M w cells xs
 | [],_,_,h=>h
 | _::_,_,_,⟨_,_,c,r,_,_,_,h,h1,h2⟩=>⟨c,r,h,h1,Jk h2⟩
theorem zdj{xs:List α}{cells:List Value}(h:rowW o M G w cells xs):cells.length=xs.length*Rep.size α:=Je (zba h)
theorem zbb{M:Nat->Prop}{w:World}:∀ {xs ys:List α} {G1 G2 G:Nat->Prop} {c1 c2:List Value},rowW o M G1 w c1 xs->rowW o M G2 w c2 ys->(∀ b,G1 b->G b)->(∀ b,G2 b->G b)->(∀ b,G1 b->¬ G2 b)->rowW o M G w (c1++c2) (xs++ys)
 | [],_,_,_,_,_,_,h,k,_,s2,_=>by rw[h];exact rowW_more k s2
 |x::xs,ys,G1,G2,G,c1,c2,⟨H1,H2,c,r,t1,t2,hd',h,h1,h2⟩,k,s1,s2,hd=>by
  refine⟨H1,λ b=>H2 b\/G2 b,c,r++c2,λ b hb=>s1 b (t1 b hb),λ b hb=>hb.elim (λ h=>s1 b (t2 b h)) (s2 b),λ b hb hb'=>hb'.elim (hd' b hb) (hd b (t1 b hb)),by rw[h,aA],h1,?_⟩;exact zbb h2 k (λ _ h=>.inl h) (λ _ h=>.inr h) λ b hb=>hd b (t2 b hb)
theorem rowW_one{c:List Value}{x:α}(h:o.ro M G w c x):rowW o M G w c [x]:=⟨G,noB,c,[],λ _ h=>h,λ _ h=>h.elim,λ _ _ h=>h,by simp,h,Z⟩
theorem rowW_foc{M:Nat->Prop}{w:World}:∀ {xs:List α} {G:Nat->Prop} {cells:List Value} {i:Nat} {x:α},rowW o M G w cells xs->xs[i]?=some x->
  ∃
   (G1 G2:Nat->Prop),(∀ b,G1 b->G b)/\(∀ b,G2 b->G b)/\(∀ b,G1 b->¬ G2 b)/\o.ro M G1 w ((cells.drop (i*Rep.size α)).take (Rep.size α)) x/\
   (∀ {M' G3 G':Nat->Prop} {w':World} {c':List Value} {y:α},Later M G2 w M' w'->o.ro M' G3 w' c' y->(∀ b,G3 b->¬ G2 b)->(∀ b,G3 b->G' b)->(∀ b,G2 b->G' b)->rowW o M' G' w' (cells.take (i*Rep.size α)++c'++cells.drop ((i+1)*Rep.size α)) (xs.set i y))
 | [],_,_,i,x,_,hi=>by simp at hi
 |y::xs,G,cells,0,x,⟨G1,G2,c,r,s1,s2,hd,h,h1,h2⟩,hi=>by
  simp at hi;subst hi;have hl:c.length=Rep.size α:=o.len h1;have e1:(cells.drop (0*Rep.size α)).take (Rep.size α)=c:=by rw[dF,bN,h,← hl,cY]
  have e2:cells.drop ((0+1)*Rep.size α)=r:=by rw[aB,Nat.one_mul,h,← hl,bT]
  rw[e1];refine⟨G1,G2,s1,s2,hd,h1,λ{M' G3 G' w' c' y'} hL hy h3 h4 h5=>?_⟩;rw[e2,dF,bU,bc];exact⟨G3,G2,c',r,h4,h5,h3,Z,hy,J8 h2 hL⟩
 |y::xs,G,cells,i+1,x,⟨G1,G2,c,r,s1,s2,hd,h,h1,h2⟩,hi=>by
  have hl:c.length=Rep.size α:=o.len h1;obtain⟨H1,H2,t1,t2,hd2,k1,k3⟩:=rowW_foc (i:=i) h2 (by simpa using hi);have e1:cells.drop ((i+1)*Rep.size α)=r.drop (i*Rep.size α):=by
   rw[h,bS,cF,← hl,← bG,bT]
  have e2:cells.drop ((i+1+1)*Rep.size α)=r.drop ((i+1)*Rep.size α):=by
   rw[h,bS,cF,← hl,← bG,bT]
  have e3:cells.take ((i+1)*Rep.size α)=c++r.take (i*Rep.size α):=by
   rw[h,bS,cF,← hl,cg,aJ (by omega)]
   congr 2
   omega
  rw[e1];refine⟨H1,λ b=>G1 b\/H2 b,λ b hb=>s2 b (t1 b hb),λ b hb=>hb.elim (s1 b) λ h=>s2 b (t2 b h),λ b hb hb'=>hb'.elim (λ h=>hd b h (t1 b hb)) (hd2 b hb),k1,λ{M' G3 G' w' c' y'} hL hy h3 h4 h5=>?_⟩;rw[e2,e3];refine⟨G1,λ b=>G3 b\/H2 b,c,_,λ b hb=>h5 b (.inl hb),λ b hb=>hb.elim (h4 b) λ h=>h5 b (.inr h),λ b hb hb'=>hb'.elim (λ h=>h3 b h (.inl hb)) λ h=>hd b hb (t2 b h),by rw[aA,aA,← aA (r.take _)],o.later h1 (hL.sub λ _ h=>.inl h),?_⟩;exact k3 (hL.sub λ _ h=>.inr h) hy (λ b hb hb'=>h3 b hb (.inr hb')) (λ _ h=>.inl h) λ _ h=>.inr h
def Ow.row(e:TypeId)(o:Ow α):Ow (List α) where
 ro M G w cs xs:=∃ v,cs=[v]/\((∃ (g cap:Nat) (cur:Array Value) (Gr:Nat->Prop),v=.slice (some ⟨g,0,none⟩) xs.length cap/\w.heap[g]?=some (.cells cur e (0,0))/\xs.length<=cap/\cap<=maxLen/\cur.size=cap*Rep.size α/\G g/\¬ Gr g/\(∀ b,Gr b->G b)/\rowW o M Gr w (cur.toList.take (xs.length*Rep.size α)) xs)\/(xs=[]/\∃ A,v=.slice A 0 0))
 toR:=λ{M G w cs xs} ⟨v,hv,h⟩=>by
  subst hv;rcases h with⟨g,cap,cur,Gr,rfl,hh,h4,h5,h6,hG,hn,hs,hr⟩ | ⟨rfl,A,rfl⟩
  ·refine⟨some ⟨g,0,none⟩,cap,Z,h4,h5,.inr ⟨g,0,_,Z,λ hf=>hf.2 hG,λ j u hj=>?_,wE (λ k _ hk=>⟨hk.1,λ h=>hk.2 (hs k h)⟩) (zba hr)⟩⟩;rw[aB];rw[aE] at hj;split at hj
   ·have:cur[j]?=some u:=by simpa using hj
    simp[World.cell?,hh,this]
   ·cases hj
  ·exact⟨A,0,Z,ak _,ao _,.inl Z⟩
 stable:=λ{M G w w' cs xs} ⟨v,hv,h⟩ k=>⟨v,hv,h.imp (λ⟨g,cap,cur,Gr,hg,hh,h4,h5,h6,hG,hn,hs,hr⟩=>⟨g,cap,cur,Gr,hg,(k g (xG hh) (.inr hG)).trans hh,h4,h5,h6,hG,hn,hs,zeD hr (k.sub hs)⟩) id⟩
 weak:=λ⟨v,hv,h⟩ k=>⟨v,hv,h.imp (λ⟨g,cap,cur,Gr,hg,hh,h4,h5,h6,hG,hn,hs,hr⟩=>⟨g,cap,cur,Gr,hg,hh,h4,h5,h6,hG,hn,hs,rowW_weak k hr⟩) id⟩
 more:=λ⟨v,hv,h⟩ k=>⟨v,hv,h.imp (λ⟨g,cap,cur,Gr,hg,hh,h4,h5,h6,hG,hn,hs,hr⟩=>⟨g,cap,cur,Gr,hg,hh,h4,h5,h6,k g hG,hn,λ b hb=>k b (hs b hb),hr⟩) id⟩
end
structure Bx(α:Type) where
 x:α
section
variable{α:Type}[Rep α]
instance:Rep (Bx α) where
 size:=1
 agg:=false
 rdc M w cs y:=∃ v,cs=[v]/\(dptr y.x).rd M w v
 len:=λ⟨_,h,_⟩=>by rw[h];rfl
 one _:=rfl
 pos:=Nat.one_pos
 oneCell:=λ⟨v,h,b,o,_,hv,_⟩ c hc=>by
  rw[h] at hc;simp at hc;subst hc;rw[hv];rfl
 stable:=λ⟨v,h,hr⟩ e=>⟨v,h,(dptr _).stable hr e⟩
 weak:=λ⟨v,h,hr⟩ e=>⟨v,h,(dptr _).weak hr e⟩
theorem bx_ptr{x:α}:(dt (⟨x⟩:Bx α)).rd M w v ↔ (dptr x).rd M w v:=
 ⟨λ⟨_,⟨u,h,hr⟩,hv⟩=>by rw[hv,h];exact hr,λ h=>⟨[v],⟨v,Z,h⟩,Z⟩⟩
def Ow.box(o:Ow α):Ow (Bx α) where
 ro M G w cs y:=∃ (b:Nat) (C:Array Value) (e:TypeId) (Gr:Nat->Prop),cs=[.pointer (some ⟨b,0,none⟩)]/\w.heap[b]?=some (.cells C e (0,0))/\G b/\¬ Gr b/\(∀ k,Gr k->G k)/\o.ro M Gr w C.toList y.x
 toR:=λ{M G w cs y} ⟨b,C,e,Gr,hc,hh,hG,hn,hs,hr⟩=>⟨_,hc,b,0,C.toList,Z,λ h=>h.2 hG,λ j u hj=>by
  rw[aB];have:C[j]?=some u:=by simpa using hj
  simp[World.cell?,hh,this],Rep.weak (o.toR hr) λ k _ hk=>⟨hk.1,λ h=>hk.2 (hs k h)⟩⟩
 stable:=λ⟨b,C,e,Gr,hc,hh,hG,hn,hs,hr⟩ k=>⟨b,C,e,Gr,hc,(k b (xG hh) (.inr hG)).trans hh,hG,hn,hs,o.stable hr (k.sub hs)⟩
 weak:=λ⟨b,C,e,Gr,hc,hh,hG,hn,hs,hr⟩ k=>⟨b,C,e,Gr,hc,hh,hG,hn,hs,o.weak hr k⟩
 more:=λ⟨b,C,e,Gr,hc,hh,hG,hn,hs,hr⟩ k=>⟨b,C,e,Gr,hc,hh,k b hG,hn,λ i hi=>k i (hs i hi),hr⟩
end
structure FldW{α β:Type}[Rep α][Rep β](o:Ow α)(oy:Ow β)(get:α->β)(set:β->α->α)(off:Nat):Prop where
 foc:∀ {M G:Nat->Prop} {w:World} {cs:List Value} {x:α},o.ro M G w cs x->∃ (G1 G2:Nat->Prop),(∀ b,G1 b->G b)/\(∀ b,G2 b->G b)/\(∀ b,G1 b->¬ G2 b)/\oy.ro M G1 w ((cs.drop off).take (Rep.size β)) (get x)/\
  (∀ {M' G3 G':Nat->Prop} {w':World} {c':List Value} {y:β},Later M G2 w M' w'->oy.ro M' G3 w' c' y->(∀ b,G3 b->¬ G2 b)->(∀ b,G3 b->G' b)->(∀ b,G2 b->G' b)->o.ro M' G' w' (cs.take off++c'++cs.drop (off+Rep.size β)) (set y x))
section
variable{α β γ:Type}[Rep α][Rep β][Rep γ]
theorem FldW.id{o:Ow α}:FldW o o (λ x:α=>x) (λ y _=>y) 0:=⟨λ{M G w cs x} h=>by
 have hl:=o.len h;have e1:(cs.drop 0).take (Rep.size α)=cs:=by rw[bN,← hl,aL]
 rw[e1];refine⟨G,noB,λ _ h=>h,λ _ h=>h.elim,λ _ _ h=>h,h,λ{M' G3 G' w' c' y} _ hy _ h4 _=>?_⟩;rw[bU,bc,bu (by omega),aM];exact o.more hy h4⟩
theorem FldW.fst{a:Ow α}{b:Ow β}:FldW (a.pr b) a (λ x:α×β=>x.1) (λ y x=>(y,x.2)) 0:=⟨λ{M G w cs x} ⟨G1,G2,c1,c2,s1,s2,hd,h,h1,h2⟩=>by
 have hl:=a.len h1;have e1:(cs.drop 0).take (Rep.size α)=c1:=by rw[bN,h,← hl,cY]
 rw[e1];refine⟨G1,G2,s1,s2,hd,h1,λ{M' G3 G' w' c' y} hL hy h3 h4 h5=>?_⟩;refine⟨G3,G2,c',c2,h4,h5,h3,?_,hy,b.later h2 hL⟩;rw[bU,bc,aB,h,← hl,bT]⟩
theorem FldW.snd{a:Ow α}{b:Ow β}{oy:Ow γ}{get:β->γ}{set:γ->β->β}(f:FldW b oy get set off):FldW (a.pr b) oy (λ x:α×β=>get x.2) (λ y x=>(x.1,set y x.2)) (Rep.size α+off):=⟨λ{M G w cs x} ⟨G1,G2,c1,c2,s1,s2,hd,h,h1,h2⟩=>by
 have hl:=a.len h1;obtain⟨H1,H2,t1,t2,hd2,k1,k3⟩:=f.foc h2;have e1:cs.drop (Rep.size α+off)=c2.drop off:=by rw[h,← hl,← bG,bT]
 have e2:cs.drop (Rep.size α+off+Rep.size γ)=c2.drop (off+Rep.size γ):=by rw[h,← hl,bA,← bG,bT]
 have e3:cs.take (Rep.size α+off)=c1++c2.take off:=by
  rw[h,← hl,cg,aJ (by omega)]
  congr 2
  omega
 rw[e1];refine⟨H1,λ b=>G1 b\/H2 b,λ b hb=>s2 b (t1 b hb),λ b hb=>hb.elim (s1 b) λ h=>s2 b (t2 b h),λ b hb hb'=>hb'.elim (λ h=>hd b h (t1 b hb)) (hd2 b hb),k1,λ{M' G3 G' w' c' y} hL hy h3 h4 h5=>?_⟩;rw[e2,e3];refine⟨G1,λ b=>G3 b\/H2 b,c1,_,λ b hb=>h5 b (.inl hb),λ b hb=>hb.elim (h4 b) λ h=>h5 b (.inr h),λ b hb hb'=>hb'.elim (λ h=>h3 b h (.inl hb)) λ h=>hd b hb (t2 b h),by rw[aA,aA,← aA (c2.take _)],a.later h1 (hL.sub λ _ h=>.inl h),?_⟩;exact k3 (hL.sub λ _ h=>.inr h) hy (λ b hb hb'=>h3 b hb (.inr hb')) (λ _ h=>.inl h) λ _ h=>.inr h⟩
end
def HP{β:Type}[Rep β](oy:Ow β)(M G:Nat->Prop)(w:World)(b off:Nat)(y:β)(R:(Nat->Prop)->(Nat->Prop)->World->β->Prop):Prop:=
 ∃
  (G1 G2:Nat->Prop) (C:Array Value) (e:TypeId),(∀ k,G1 k->G k)/\(∀ k,G2 k->G k)/\G b/\¬ G1 b/\¬ G2 b/\(∀ k,G1 k->¬ G2 k)/\w.heap[b]?=some (.cells C e (0,0))/\off+Rep.size β<=C.size/\oy.ro M G1 w ((C.toList.drop off).take (Rep.size β)) y/\
  ∀
   {M' G1' G'':Nat->Prop} {w':World} {c':List Value} {y':β},Later M G2 w M' w'->w'.heap[b]?=some (.cells (C.toList.take off++c'++C.toList.drop (off+Rep.size β)).toArray e (0,0))->oy.ro M' G1' w' c' y'->¬ G1' b->(∀ k,G1' k->¬ G2 k)->
   G'' b->(∀ k,G1' k->G'' k)->(∀ k,G2 k->G'' k)->R M' G'' w' y'
def VP{β:Type}[Rep β](oy:Ow β)(M G:Nat->Prop)(w:World)(c:List Value)(y:β)(R:(Nat->Prop)->(Nat->Prop)->World->β->Prop):Prop:=
 ∃
  (G1 G2:Nat->Prop),(∀ k,G1 k->G k)/\(∀ k,G2 k->G k)/\(∀ k,G1 k->¬ G2 k)/\oy.ro M G1 w c y/\
  ∀ {M' G1' G'':Nat->Prop} {w':World} {y':β},Later M G2 w M' w'->oy.ro M' G1' w' c y'->(∀ k,G1' k->¬ G2 k)->(∀ k,G1' k->G'' k)->(∀ k,G2 k->G'' k)->R M' G'' w' y'
section
variable{α β:Type}[Rep α][Rep β]
variable{oy:Ow β}
theorem VP.root{o:Ow α}{cs:List Value}{x:α}(h:o.ro M G w cs x):VP o M G w cs x (λ M' G' w' y'=>o.ro M' G' w' cs y'):=
 ⟨G,noB,λ _ h=>h,λ _ h=>h.elim,λ _ _ h=>h,h,λ{M' G1' G'' w' y'} _ hy _ h1 _=>o.more hy h1⟩
theorem part_same{cs:List Value}{n:Nat}:cs.take off++(cs.drop off).take n++cs.drop (off+n)=cs:=by
 rw[aA];have:(cs.drop off).take n++cs.drop (off+n)=cs.drop off:=by rw[← bG,bH]
 simp_all
theorem HP.fld{o:Ow α}{get:α->β}{set:β->α->α}(f:FldW o oy get set fo){x:α}{R:(Nat->Prop)->(Nat->Prop)->World->α->Prop}(h:HP o M G w b off x R):
  HP oy M G w b (off+fo) (get x) (λ M' G' w' y'=>R M' G' w' (set y' x)):=by
 obtain⟨G1,G2,C,e,s1,s2,hb,n1,n2,hd,hh,hsz,hr,put⟩:=h;obtain⟨H1,H2,t1,t2,hd2,k1,k3⟩:=f.foc hr;have hlo:=o.len hr;have hly:=oy.len k1;have hpos:=Rep.pos (α:=β);have hin:fo+Rep.size β<=Rep.size α:=by
  rw[aI,dW,hlo] at hly;omega
 have e0:(C.toList.drop (off+fo)).take (Rep.size β)=((((C.toList.drop off).take (Rep.size α)).drop fo).take (Rep.size β)):=by
  rw[cS,cm,bq (by omega),bG]
 refine⟨H1,λ k=>H2 k\/G2 k,C,e,λ k hk=>s1 k (t1 k hk),λ k hk=>hk.elim (λ h=>s1 k (t2 k h)) (s2 k),hb,λ h=>n1 (t1 b h),λ h=>h.elim (λ h=>n1 (t2 b h)) n2,λ k hk h=>h.elim (hd2 k hk) (hd k (t1 k hk)),hh,by omega,by rw[e0];exact k1,λ{M' G1' G'' w' c' y'} hL hh' hy nb h1 g0 h2 h3=>?_⟩;have e1:=k3 (G':=λ k=>G1' k\/H2 k) (hL.sub λ _ h=>.inl h) hy (λ k hk hk2=>h1 k hk (.inl hk2)) (λ _ h=>.inl h) λ _ h=>.inr h
 refine put (hL.sub λ _ h=>.inr h) ?_ e1 (λ h=>h.elim nb λ h=>n1 (t2 b h)) (λ k hk hk2=>hk.elim (λ h=>h1 k h (.inr hk2)) λ h=>hd k (t2 k h) hk2) g0 (λ k hk=>hk.elim (h2 k) λ h=>h3 k (.inl h)) λ k hk=>h3 k (.inr hk)
 rw[hh']
 congr 3
 have:=part_put' (cells:=C.toList) (c:=c') (A:=off) hin;exact this.symm
where
 part_put' {cells c:List Value} {A S off T:Nat} (h1:off+T<=S):cells.take A++(((cells.drop A).take S).take off++c++((cells.drop A).take S).drop (off+T))++cells.drop (A+S)=cells.take _++c++cells.drop _:=by
  have e1:cells.take (A+off)=cells.take A++(cells.drop A).take off:=by rw[List.take_add]
  have e2:((cells.drop A).take S).take off=(cells.drop A).take off:=by rw[cm,bq (by omega)]
  have e3:cells.drop (A+off+T)=((cells.drop A).take S).drop (off+T)++cells.drop (A+S):=by
   have e4:cells.drop (A+off+T)=(cells.drop A).drop (off+T):=by rw[bG,bA]
   have e5:cells.drop (A+S)=(cells.drop A).drop S:=by rw[bG]
   rw[e4,e5];generalize cells.drop A=l;rw[cS];have e6:l.drop S=(l.drop (off+T)).drop (S - (off+T)):=by rw[bG];congr 1;omega
   rw[e6,bH]
  rw[e1,e2,e3];simp
theorem Ow.box_hp{c:List Value}{y:Bx β}(h:oy.box.ro M G w c y):∃ b,c=[.pointer (some ⟨b,0,none⟩)]/\
  HP oy M G w b 0 y.x (λ M' G' w' y'=>oy.box.ro M' G' w' c ⟨y'⟩):=by
 obtain⟨b,C,e,Gr,hc,hh,hG,hn,hs,hr⟩:=h;have hl:=oy.len hr;have e0:(C.toList.drop 0).take (Rep.size β)=C.toList:=by rw[bN,← hl,aL]
 refine⟨b,hc,Gr,noB,C,e,hs,λ _ h=>h.elim,hG,hn,λ h=>h,λ _ _ h=>h,hh,by rw[← hl];simp,by rw[e0];exact hr,λ{M' G1' G'' w' c' y'} _ hh' hy nb _ g0 h2 _=>?_⟩;have e1:C.toList.take 0++c'++C.toList.drop (0+Rep.size β)=c':=by rw[bU,bc,bu (by omega),aM]
 rw[e1] at hh';exact⟨b,_,e,G1',hc,hh',g0,nb,h2,by simpa using hy⟩
theorem Ow.row_hp{o:Ow α}{c:List Value}{xs:List α}{x:α}(h:(Ow.row e o).ro M G w c xs)(hk:xs[k]?=some x):∃ g cap,c=[.slice (some ⟨g,0,none⟩) xs.length cap]/\
  HP o M G w g (k*Rep.size α) x (λ M' G' w' y'=>(Ow.row e o).ro M' G' w' c (xs.set k y')):=by
 obtain⟨v,hv,h⟩:=h;rcases h with⟨g,cap,cur,Gr,hg,hh,h4,h5,h6,hG,hn,hs,hr⟩ | ⟨hx,_⟩
 ·obtain⟨G1,G2,s1,s2,hd,k1,k3⟩:=rowW_foc hr hk;have hlt:=zJ hk;have hb1:(k+1)*Rep.size α<=xs.length*Rep.size α:=aG _ hlt;have hb2:xs.length*Rep.size α<=cap*Rep.size α:=aG _ h4;have hb3:(k+1)*Rep.size α=k*Rep.size α+Rep.size α:=bS ..;have e0:(cur.toList.drop (k*Rep.size α)).take (Rep.size α)=(((cur.toList.take (xs.length*Rep.size α)).drop (k*Rep.size α)).take (Rep.size α)):=by
   rw[cS,cm,bq (by omega)]
  refine⟨g,cap,by rw[hv,hg],G1,G2,cur,e,λ i hi=>hs i (s1 i hi),λ i hi=>hs i (s2 i hi),hG,λ h=>hn (s1 g h),λ h=>hn (s2 g h),hd,hh,by omega,by rw[e0];exact k1,λ{M' G1' G'' w' c' y'} hL hh' hy nb h1 g0 h2 h3=>?_⟩;have e1:=k3 (G':=λ i=>G1' i\/G2 i) hL hy h1 (λ _ h=>.inl h) λ _ h=>.inr h
  have hcl:=o.len hy;refine⟨v,hv,.inl ⟨g,cap,_,λ i=>G1' i\/G2 i,by rw[bv];exact hg,hh',by rw[bv];exact h4,h5,?_,g0,λ h=>h.elim nb λ h=>hn (s2 g h),λ i hi=>hi.elim (h2 i) (h3 i),?_⟩⟩
  ·simp;omega
  ·rw[bv];have e2:=take_put (l:=cur.toList) (off:=k*Rep.size α) (n:=xs.length*Rep.size α) (by have e1:cur.toList.length=cur.size:=aP;omega) (by rw[hcl];omega);rw[hcl,← hb3] at e2;rw[ca,← hb3,e2];exact e1
 ·rw[hx] at hk;simp at hk
theorem VP.box{oy:Ow β}{c:List Value}{y:Bx β}{R:(Nat->Prop)->(Nat->Prop)->World->Bx β->Prop}(h:VP oy.box M G w c y R):∃ b,c=[.pointer (some ⟨b,0,none⟩)]/\HP oy M G w b 0 y.x (λ M' G' w' y'=>R M' G' w' ⟨y'⟩):=by
 obtain⟨G1,G2,s1,s2,hd,hr,put⟩:=h;obtain⟨b,hc,H1,H2,C,e,t1,t2,hb,n1,n2,hd2,hh,hsz,hr2,put2⟩:=Ow.box_hp hr;refine⟨b,hc,H1,λ k=>H2 k\/G2 k,C,e,λ k hk=>s1 k (t1 k hk),λ k hk=>hk.elim (λ h=>s1 k (t2 k h)) (s2 k),s1 b hb,n1,λ h=>h.elim n2 (hd b hb),λ k hk h=>h.elim (hd2 k hk) (hd k (t1 k hk)),hh,hsz,hr2,λ{M' G1' G'' w' c' y'} hL hh' hy nb h1 g0 h2 h3=>?_⟩;have e1:=put2 (G'':=λ k=>k=b\/G1' k\/H2 k) (hL.sub λ _ h=>.inl h) hh' hy nb (λ k hk hk2=>h1 k hk (.inl hk2)) (.inl Z) (λ _ h=>.inr (.inl h)) λ _ h=>.inr (.inr h)
 exact put (hL.sub λ _ h=>.inr h) e1 (λ k hk hk2=>by
  rcases hk with rfl | hk | hk
  ·exact hd _ hb hk2
  ·exact h1 k hk (.inr hk2)
  ·exact hd k (t2 k hk) hk2) (λ k hk=>by
  rcases hk with rfl | hk | hk
  ·exact g0
  ·exact h2 k hk
  ·exact h3 k (.inl hk)) λ k hk=>h3 k (.inr hk)
theorem VP.row{e:TypeId}{o:Ow α}{c:List Value}{xs:List α}{k:Nat}{x:α}{R:(Nat->Prop)->(Nat->Prop)->World->List α->Prop}(h:VP (Ow.row e o) M G w c xs R)(hk:xs[k]?=some x):∃ g cap,c=[.slice (some ⟨g,0,none⟩) xs.length cap]/\HP o M G w g (k*Rep.size α) x (λ M' G' w' y'=>R M' G' w' (xs.set k y')):=by
 obtain⟨G1,G2,s1,s2,hd,hr,put⟩:=h;obtain⟨b,cap,hc,H1,H2,C,e,t1,t2,hb,n1,n2,hd2,hh,hsz,hr2,put2⟩:=Ow.row_hp hr hk;refine⟨b,cap,hc,H1,λ k=>H2 k\/G2 k,C,e,λ k hk=>s1 k (t1 k hk),λ k hk=>hk.elim (λ h=>s1 k (t2 k h)) (s2 k),s1 b hb,n1,λ h=>h.elim n2 (hd b hb),λ k hk h=>h.elim (hd2 k hk) (hd k (t1 k hk)),hh,hsz,hr2,λ{M' G1' G'' w' c' y'} hL hh' hy nb h1 g0 h2 h3=>?_⟩;have e1:=put2 (G'':=λ k=>k=b\/G1' k\/H2 k) (hL.sub λ _ h=>.inl h) hh' hy nb (λ k hk hk2=>h1 k hk (.inl hk2)) (.inl Z) (λ _ h=>.inr (.inl h)) λ _ h=>.inr (.inr h)
 exact put (hL.sub λ _ h=>.inr h) e1 (λ k hk hk2=>by
  rcases hk with rfl | hk | hk
  ·exact hd _ hb hk2
  ·exact h1 k hk (.inr hk2)
  ·exact hd k (t2 k hk) hk2) (λ k hk=>by
  rcases hk with rfl | hk | hk
  ·exact g0
  ·exact h2 k hk
  ·exact h3 k (.inl hk)) λ k hk=>h3 k (.inr hk)
theorem HP.here{y:β}{R:(Nat->Prop)->(Nat->Prop)->World->β->Prop}(h:HP oy M G w b off y R):∃ (C:Array Value) (e:TypeId),w.heap[b]?=some (.cells C e (0,0))/\off+Rep.size β<=C.size/\G b/\
  ∃ G1 G2,(∀ k,G1 k->G k)/\(∀ k,G2 k->G k)/\(∀ k,G1 k->¬ G2 k)/\¬ G1 b/\G2 b/\oy.ro M G1 w ((C.toList.drop off).take (Rep.size β)) y/\
  ∀ {M' G1' G'':Nat->Prop} {w':World} {y':β},Later M G2 w M' w'->oy.ro M' G1' w' ((C.toList.drop off).take (Rep.size β)) y'->(∀ k,G1' k->¬ G2 k)->(∀ k,G1' k->G'' k)->(∀ k,G2 k->G'' k)->R M' G'' w' y':=by
 obtain⟨G1,G2,C,e,s1,s2,hb,n1,n2,hd,hh,hsz,hr,put⟩:=h;refine⟨C,e,hh,hsz,hb,G1,λ k=>k=b\/G2 k,s1,λ k hk=>hk.elim (λ h=>h ▸ hb) (s2 k),λ k hk h=>h.elim (λ h=>n1 (h ▸ hk)) (hd k hk),n1,.inl Z,hr,λ{M' G1' G'' w' y'} hL hy h1 h2 h3=>?_⟩;refine put (hL.sub λ _ h=>.inr h) ?_ hy (λ h=>h1 b h (.inl Z)) (λ k hk hk2=>h1 k hk (.inr hk2)) (h3 b (.inl Z)) h2 λ k hk=>h3 k (.inr hk)
 rw[part_same];have:=hL.same b (xG hh) (.inr (.inl Z));rw[this,hh]
theorem HP.vp{y:β}{R:(Nat->Prop)->(Nat->Prop)->World->β->Prop}(h:HP oy M G w b off y R):∃ (C:Array Value) (e:TypeId),w.heap[b]?=some (.cells C e (0,0))/\off+Rep.size β<=C.size/\VP oy M G w ((C.toList.drop off).take (Rep.size β)) y R:=by
 obtain⟨C,e,hh,hsz,_,G1,G2,s1,s2,hd,_,_,hr,put⟩:=h.here;exact⟨C,e,hh,hsz,G1,G2,s1,s2,hd,hr,put⟩
theorem Xr(h:(C.toList.drop off).take 1=[u]):C[off]?=some u:=by
 have:((C.toList.drop off).take 1)[0]?=some u:=by rw[h];rfl
 grind
theorem HP.box{oy:Ow β}{y:Bx β}{R:(Nat->Prop)->(Nat->Prop)->World->Bx β->Prop}(h:HP oy.box M G w b off y R):∃ b',w.cell? ⟨b,off,none⟩=some (.pointer (some ⟨b',0,none⟩))/\HP oy M G w b' 0 y.x (λ M' G' w' y'=>R M' G' w' ⟨y'⟩):=by
 obtain⟨C,e,hh,hsz,hv⟩:=h.vp;obtain⟨b',hc,hp⟩:=hv.box;exact⟨b',by simp[World.cell?,hh,Xr hc],hp⟩
theorem HP.row{e:TypeId}{o:Ow α}{xs:List α}{k:Nat}{x:α}{R:(Nat->Prop)->(Nat->Prop)->World->List α->Prop}(h:HP (Ow.row e o) M G w b off xs R)(hk:xs[k]?=some x):∃ g cap,w.cell? ⟨b,off,none⟩=some (.slice (some ⟨g,0,none⟩) xs.length cap)/\HP o M G w g (k*Rep.size α) x (λ M' G' w' y'=>R M' G' w' (xs.set k y')):=by
 obtain⟨C,e,hh,hsz,hv⟩:=h.vp;obtain⟨g,cap,hc,hp⟩:=hv.row hk;exact⟨g,cap,by simp[World.cell?,hh,Xr hc],hp⟩
end
abbrev CF:=List (Bool×Nat×Nat×Value)
variable{cf:CF}
def Qa(w:World)(b off:Nat):Value->Prop
 | .agg cs=>CellsAt w b off cs.toList
 | u=>w.cell? ⟨b,off,none⟩=some u
def CF.at(cf:CF)(G:Nat->Prop)(w:World):Prop:=∀ q∈cf,q.1=true->G q.2.1/\q.2.1<w.heap.size/\Qa w q.2.1 q.2.2.1 q.2.2.2
theorem heap_kept(h:b<w.heap.size)(e:w'.heap[b]?=w.heap[b]?):b<w'.heap.size:=by
 grind
theorem WL(hu:u.oneCell'=true)(h:Qa w b off u):w.cell? ⟨b,off,none⟩=some u:=by
 cases u <;> first
  | exact h
  | (simp[Value.oneCell'] at hu)
theorem zeE(h:Qa w b off u)(e:w'.heap[b]?=w.heap[b]?):Qa w' b off u:=by
 have key:∀ i,w'.cell? ⟨b,i,none⟩=w.cell? ⟨b,i,none⟩:=λ i=>by unfold World.cell?;simp only;rw[e]
 cases u <;> simp[Qa] at h ⊢ <;> first
  | (intro j v hj;rw[key];exact h j v hj)
  | (rw[key];exact h)
section
variable{α β γ:Type}[Rep α][Rep β][Rep γ]
structure PH(o:Ow α)(x:α)(v0:Value)(cf:CF)(oy:Ow β)(b off:Nat)(y:β)(upd:β->α):Prop where
 of:∀ {M G:Nat->Prop} {w:World} {cs:List Value},o.ro M G w cs x->v0=mkv (Rep.agg α) cs->cf.at G w->HP oy M G w b off y (λ M' G' w' y'=>o.ro M' G' w' cs (upd y'))
structure PV(o:Ow α)(x:α)(v0:Value)(cf:CF)(oy:Ow β)(off:Nat)(y:β)(upd:β->α):Prop where
 of:∀ {M G:Nat->Prop} {w:World} {cs:List Value},o.ro M G w cs x->v0=mkv (Rep.agg α) cs->cf.at G w->VP oy M G w ((cs.drop off).take (Rep.size β)) y (λ M' G' w' y'=>o.ro M' G' w' cs (upd y'))/\off+Rep.size β<=Rep.size α
variable{o:Ow α}{x:α}{oy:Ow β}{oz:Ow γ}{y:β}{upd:β->α}
theorem PV.root:PV o x v0 cf o 0 x (λ y=>y):=⟨λ{M G w cs} h _ _=>by
 have hl:=o.len h;have e0:(cs.drop 0).take (Rep.size α)=cs:=by rw[bN,← hl,aL]
 rw[e0];exact⟨VP.root h,by omega⟩⟩
theorem PH.fld{get:β->γ}{set:γ->β->β}{fo:Nat}(h:PH o x v0 cf oy b off y upd)(f:FldW oy oz get set fo):PH o x v0 cf oz b (off+fo) (get y) (λ z=>upd (set z y)):=⟨λ h1 h2 h3=>HP.fld f (h.of h1 h2 h3)⟩
theorem PH.conv{upd':β->α}(h:PH o x v0 cf oy b off y upd)(e:∀ z,upd z=upd' z):PH o x v0 cf oy b off y upd':=by
 have:=funext e;rwa[this] at h
theorem atI_set{γ:Type}{xs:List γ}{v z:γ}(h:atI xs m=some v):atI (xs.set m.toNat z) m=some z:=by
 unfold atI at h ⊢;grind
def vcell(v:Value)(n:Nat):Value:=v.cells.toList.getD n undef
theorem vcell_of{cs:List Value}(h:o.ro M G w cs x)(hv:v0=mkv (Rep.agg α) cs){n:Nat}(hu:(cs.drop n).take 1=[u]):vcell v0 n=u:=by
 have e1:v0.cells.toList=cs:=by rw[hv];exact Zz (o.toR h)
 unfold vcell;rw[e1,cv];have:((cs.drop n).take 1)[0]?=some u:=by rw[hu];rfl
 rw[aE,Kc (by omega),bJ] at this;rw[dY] at this;rw[this];rfl
theorem PV.box{y:Bx β}{upd:Bx β->α}(h:PV o x v0 cf oy.box off y upd)(hb:vcell v0 off=.pointer (some ⟨b,0,none⟩)):PH o x v0 cf oy b 0 y.x (λ z=>upd ⟨z⟩):=⟨λ h1 h2 h3=>by
 obtain⟨b',hc,hp⟩:=(h.of h1 h2 h3).1.box;have e1:=vcell_of h1 h2 hc;rw[hb] at e1;have e2:b'=b:=by injection e1 with e1;injection e1 with e1;injection e1 with e1;exact e1.symm
 subst e2;exact hp⟩
theorem Pb{y:Bx β}{cf:CF}:PH oy.box y (.pointer (some ⟨b,0,none⟩)) cf oy b 0 y.x (λ z=>⟨z⟩):=PV.box PV.root Z
theorem PV.row{e:TypeId}{ob:Ow β}{ys:List β}{upd:List β->α}{g n cap:Nat}{m:Int}(h:PV o x v0 cf (Ow.row e ob) off ys upd){A:Option Addr}(hb:vcell v0 off=.slice A n cap)(hA:n≠0->A=some ⟨g,0,none⟩){z:β}(hm:atI ys m=some z):PH o x v0 cf ob g (m.toNat*Rep.size β) z (λ z'=>upd (ys.set m.toNat z')):=⟨λ h1 h2 h3=>by
 obtain⟨g',cap',hc,hp⟩:=(h.of h1 h2 h3).1.row (yL hm).2;have e1:=vcell_of h1 h2 hc;rw[hb] at e1;injection e1 with e3 e4 e5;have hlt:=zJ (yL hm).2;rw[hA (by omega)] at e3;have e2:g'=g:=by injection e3 with e1;injection e1 with e1;exact e1.symm
 subst e2;exact hp⟩
theorem PH.row{e:TypeId}{ob:Ow β}{ys:List β}{upd:List β->α}{g n cap:Nat}{m:Int}(h:PH o x v0 cf (Ow.row e ob) b off ys upd){k:Bool}{A:Option Addr}(hb:(k,b,off,.slice A n cap)∈cf)(hk:k=true)(hA:n≠0->A=some ⟨g,0,none⟩){z:β}(hm:atI ys m=some z):PH o x v0 cf ob g (m.toNat*Rep.size β) z (λ z'=>upd (ys.set m.toNat z')):=⟨λ{M G w cs} h1 h2 h3=>by
 obtain⟨g',cap',hc,hp⟩:=(h.of h1 h2 h3).row (yL hm).2;have e1:w.cell? _=some _:=(h3 _ hb hk).2.2;simp only at e1;rw[hc] at e1;injection e1 with e1;injection e1 with e3 e4 e5;have hlt:=zJ (yL hm).2;rw[hA (by omega)] at e3;have e2:g'=g:=by injection e3 with e1;injection e1 with e1
 subst e2;exact hp⟩
end
section
variable{α β:Type}[Rep α][Rep β]
def dow(o:Ow α)(G:Nat->Prop)(x:α):Dt where
 rd M w v:=∃ cs,o.ro M G w cs x/\v=mkv (Rep.agg α) cs
 own:=G
 nb:=false
 nob h:=by cases h
 stable:=λ⟨cs,h,hv⟩ k=>⟨cs,o.stable h k,hv⟩
 weak:=λ⟨cs,h,hv⟩ k=>⟨cs,o.weak h k,hv⟩
def dnm(o:Ow α)(G:Nat->Prop)(x:α)(v0:Value)(cf:CF):Dt where
 rd M w v:=v=v0/\(∃ cs,o.ro M G w cs x/\v0=mkv (Rep.agg α) cs)/\cf.at G w
 own:=G
 nb:=false
 nob h:=by cases h
 stable:=λ{M w w' v} ⟨h1,⟨cs,h,hv⟩,hc⟩ k=>⟨h1,⟨cs,o.stable h k,hv⟩,λ q hq hb=>⟨(hc q hq hb).1,heap_kept (hc q hq hb).2.1 (k _ (hc q hq hb).2.1 (.inr (hc q hq hb).1)),zeE (hc q hq hb).2.2 (k _ (hc q hq hb).2.1 (.inr (hc q hq hb).1))⟩⟩
 weak:=λ⟨h1,⟨cs,h,hv⟩,hc⟩ k=>⟨h1,⟨cs,o.weak h k,hv⟩,hc⟩
end
structure Rd where
 rd:(Nat->Prop)->(Nat->Prop)->World->Value->Prop
 stable:∀ {M G:Nat->Prop} {w w':World} {v:Value},rd M G w v->Same M G w w'->rd M G w' v
 weak:∀ {M M' G:Nat->Prop} {w:World} {v:Value},rd M G w v->(∀ k,k<w.heap.size->M' k->M k)->rd M' G w v
 more:∀ {M G G':Nat->Prop} {w:World} {v:Value},rd M G w v->(∀ b,G b->G' b)->rd M G' w v
variable{r:Rd}
def Rd.frz(x:Dt):Rd where
 rd M _ w v:=x.rd M w v/\x.nb=true
 stable h e:=⟨x.stable h.1 (λ k hk hm=>e k hk (hm.imp id λ ho=>(x.nob h.2 k ho).elim)),h.2⟩
 weak h e:=⟨x.weak h.1 e,h.2⟩
 more h _:=h
def Rd.ow{α:Type}[Rep α](o:Ow α)(x:α):Rd where
 rd M G w v:=(dow o G x).rd M w v
 stable h e:=(dow o _ x).stable h e
 weak h e:=(dow o _ x).weak h e
 more:=λ⟨cs,h,hv⟩ e=>⟨cs,o.more h e,hv⟩
def Rd.gone:Rd:=⟨λ _ _ _ _=>True,λ h _=>h,λ h _=>h,λ h _=>h⟩
def drd(r:Rd)(G:Nat->Prop):Dt where
 rd M w v:=r.rd M G w v
 own:=G
 nb:=false
 nob h:=by cases h
 stable h k:=r.stable h k
 weak h k:=r.weak h k
def FnN(P:Program)(f:FuncId)(xs:List Dt)(r:Rd):Prop:=
 ∀
  (M:Nat->Prop) (w:World) (vs:List Value),(∀ b,M b->b<w.heap.size)->RdAll M w vs xs->
  Calls P f vs.toArray w (λ en w'=>∃ v G,en=.returned v/\Ext0 w w'/\(∀ b,G b->w.heap.size<=b/\b<w'.heap.size)/\r.rd (λ b=>M b\/G b) G w' v)
def FnS{α:Type}[Rep α](P:Program)(f:FuncId)(o:Ow α)(x:α)(xs:List Dt)(x':α)(r:Rd):Prop:=
 ∀
  (M0 G:Nat->Prop) (w:World) (v:Value) (vs:List Value),(∀ b,M0 b\/G b->b<w.heap.size)->(∀ b,G b->¬ M0 b)->(dow o G x).rd (λ b=>M0 b\/G b) w v->RdAll (λ b=>M0 b\/G b) w vs xs->
  Calls P f (v::vs).toArray w (λ en w'=>∃ u G' Gr,en=.returned u/\Grown G w w'/\(∀ b,G' b->G b\/w.heap.size<=b)/\(∀ b,Gr b->G b\/w.heap.size<=b)/\(∀ b,G' b->¬ Gr b)/\(∀ b,G' b\/Gr b->b<w'.heap.size)/\
   (dow o G' x').rd (λ b=>(M0 b\/G' b)\/Gr b) w' v/\r.rd (λ b=>(M0 b\/G' b)\/Gr b) Gr w' u)
section
variable{fn:Func}{T:Prop}
variable{α β:Type}[Rep α][Rep β]{look:Nat->Option Dt}
variable{oy:Ow β}{ys:List β}
theorem Sx.drop(h:Sx F N M0 M Gs L O a w)(hq:selR L O qs p=some O2):Sx F N M0 M Gs L O2 a w:=by
 refine⟨h.st.env λ s x hx=>?_,h.ob,h.no,AllOw.of λ q hq' b hb=>h.ow.get q (ZB hq q hq').1 b hb⟩;rcases yq hx with h1 | ⟨h0,h1⟩
 ·exact yF h1
 ·obtain⟨r,hr⟩:=Jh h1;exact(ZB hq _ hr).2.2
theorem Sx.mut(h:Sx F N M0 M Gs L O a w)(hp:p<Gs.length)(hgr:Grown (zj Gs p) w w')(hk:selP ks L=some L2)(hq:selR L O qs p=some O2):Sx F N M0 M Gs L2 O2 a w':=by
 have h1:=h.eff (G':=λ b=>zj Gs p b) hp hgr (λ b hb=>⟨.inl hb,ax (h.st.mok b (h.ob.at_ p b hb).2.1) hgr.size⟩) hk hq;have hGs:Gs.set p (λ b=>zj Gs p b)=Gs:=by
  apply aX;intro n;by_cases hn:p=n
  ·subst hn;rw[aU hp,aa hp]
   congr 1
   funext b
   unfold zj;rw[aa hp]
  ·rw[ba hn]
 have hMM:(λ b=>(M b/\¬ zj Gs p b)\/zj Gs p b)=M:=by
  funext b
  apply propext;constructor
  ·rintro (h2 | h2)
   ·exact h2.1
   ·exact(h.ob.at_ p b h2).2.1
  ·intro h2;by_cases h3:zj Gs p b
   ·exact .inr h3
   ·exact .inl ⟨h2,h3⟩
 grind
theorem Sx.regroup(h:Sx F N M0 M Gs L O a w)(h1:∀ q b,zj Gs' q b->∃ q',zj Gs q' b)(h2:∀ q r b,q≠r->zj Gs' q b->¬ zj Gs' r b)(hO:∀ q∈O,∀ b,q.2.2.own b->zj Gs' q.2.1 b):Sx F N M0 M Gs' L O a w:=
 ⟨h.st,⟨h.ob.sub,λ q b hb=>let⟨q',hq'⟩:=h1 q b hb;h.ob.at_ q' b hq',h2⟩,h.no,AllOw.of hO⟩
def JB(Gs:List (Nat->Prop))(p p2:Nat):List (Nat->Prop):=(Gs.set p (λ b=>zj Gs p b\/zj Gs p2 b)).set p2 (oneB none)
theorem Qb{q:Nat}(hp:p<Gs.length)(hp2:p2<Gs.length)(hne:p≠p2):zj (JB Gs p p2) q b ↔ (q=p/\(zj Gs p b\/zj Gs p2 b))\/(q≠p/\q≠p2/\zj Gs q b):=by
 unfold JB;by_cases h2:p2=q
 ·subst h2;rw[zk (by simpa using hp2)];exact⟨λ h=>absurd h (by simp[oneB]),λ h=>h.elim (λ h=>absurd h.1.symm hne) λ h=>absurd Z h.2.1⟩
 ·rw[zq h2];by_cases h1:p=q
  ·subst h1;rw[zk hp];exact⟨λ h=>.inl ⟨Z,h⟩,λ h=>h.elim (λ h=>h.2) λ h=>absurd Z h.1⟩
  ·rw[zq h1];exact⟨λ h=>.inr ⟨λ e=>h1 e.symm,λ e=>h2 e.symm,h⟩,λ h=>h.elim (λ h=>absurd h.1.symm h1) λ h=>h.2.2⟩
theorem Sx.mrg(h:Sx F N M0 M Gs L O a w)(hp:p<Gs.length)(hp2:p2<Gs.length)(hne:p≠p2)(hO:O.all (λ q=>q.2.1 != p2)=true):Sx F N M0 M (JB Gs p p2) L O a w:=by
 refine h.regroup (λ q b hb=>?_) (λ q r b hqr h1 h2=>?_) λ q hq b hb=>?_
 ·rcases(Qb hp hp2 hne).1 hb with⟨_,h1 | h1⟩ | ⟨_,_,h1⟩
  ·exact⟨_,h1⟩
  ·exact⟨_,h1⟩
  ·exact⟨_,h1⟩
 ·rcases(Qb hp hp2 hne).1 h1 with⟨e1,k1⟩ | ⟨n1,m1,k1⟩
  ·rcases(Qb hp hp2 hne).1 h2 with⟨e2,_⟩ | ⟨n2,m2,k2⟩
   ·exact hqr (e1.trans e2.symm)
   ·exact k1.elim (λ k=>h.ob.apart p r b (bo n2) k k2) λ k=>h.ob.apart p2 r b (bo m2) k k2
  ·rcases(Qb hp hp2 hne).1 h2 with⟨_,k2⟩ | ⟨_,_,k2⟩
   ·exact k2.elim (λ k=>h.ob.apart q p b n1 k1 k) λ k=>h.ob.apart q p2 b m1 k1 k
   ·exact h.ob.apart q r b hqr k1 k2
 ·have h1:=h.ow.get q hq b hb;have h2:q.2.1≠p2:=by simpa using al.1 hO q hq
  refine(Qb hp hp2 hne).2 ?_;by_cases e:q.2.1=p
  ·rw[e] at h1 ⊢;exact .inl ⟨Z,.inl h1⟩
  ·exact .inr ⟨e,h2,h1⟩
theorem Sx.spl{A:Nat->Prop}(h:Sx F N M0 M Gs L O a w)(hp:p<Gs.length)(hp2:p2<Gs.length)(hne:p≠p2)(hA:∀ b,A b->zj Gs p b)(hB:∀ b,B b->zj Gs p b)(hd:∀ b,A b->¬ B b)(hO:O.all (λ q=>q.2.1 != p&&q.2.1 != p2)=true):Sx F N M0 M ((Gs.set p A).set p2 B) L O a w:=by
 have key:∀ q b,zj ((Gs.set p A).set p2 B) q b ↔ (q=p2/\B b)\/(q≠p2/\q=p/\A b)\/(q≠p2/\q≠p/\zj Gs q b):=λ q b=>by
  by_cases h2:p2=q
  ·subst h2;rw[zk (by simpa using hp2)];exact⟨λ h=>.inl ⟨Z,h⟩,λ h=>h.elim (λ h=>h.2) λ h=>h.elim (λ h=>absurd Z h.1) λ h=>absurd Z h.1⟩
  ·rw[zq h2];by_cases h1:p=q
   ·subst h1;rw[zk hp];exact⟨λ h=>.inr (.inl ⟨bo h2,Z,h⟩),λ h=>h.elim (λ h=>absurd h.1.symm h2) λ h=>h.elim (λ h=>h.2.2) λ h=>absurd Z h.2.1⟩
   ·rw[zq h1];exact⟨λ h=>.inr (.inr ⟨bo h2,bo h1,h⟩),λ h=>h.elim (λ h=>absurd h.1.symm h2) λ h=>h.elim (λ h=>absurd h.2.1.symm h1) λ h=>h.2.2⟩
 refine h.regroup (λ q b hb=>?_) (λ q r b hqr h1 h2=>?_) λ q hq b hb=>?_
 ·rcases(key q b).1 hb with⟨_,h1⟩ | ⟨_,_,h1⟩ | ⟨_,_,h1⟩
  ·exact⟨p,hB b h1⟩
  ·exact⟨p,hA b h1⟩
  ·exact⟨q,h1⟩
 ·rcases(key q b).1 h1 with⟨e1,k1⟩ | ⟨n1,e1,k1⟩ | ⟨n1,m1,k1⟩ <;> rcases(key r b).1 h2 with⟨e2,k2⟩ | ⟨n2,e2,k2⟩ | ⟨n2,m2,k2⟩
  ·exact hqr (e1.trans e2.symm)
  ·exact hd b k2 k1
  ·exact h.ob.apart p r b (bo m2) (hB b k1) k2
  ·exact hd b k1 k2
  ·exact hqr (e1.trans e2.symm)
  ·exact h.ob.apart p r b (bo m2) (hA b k1) k2
  ·exact h.ob.apart q p b m1 k1 (hB b k2)
  ·exact h.ob.apart q p b m1 k1 (hA b k2)
  ·exact h.ob.apart q r b hqr k1 k2
 ·have h1:=h.ow.get q hq b hb;have h2:=al.1 hO q hq;simp at h2;exact(key q.2.1 b).2 (.inr (.inr ⟨h2.2,h2.1,h1⟩))
theorem Sx.nmV{ow:Ow α}{x:α}(h:Sx F N M0 M Gs L O a w)(p:Nat)(qs:List Nat)
  (next:∀ v0,Sx F N M0 M Gs L ((s,p,dnm ow G x v0 [])::O2) a w->T)(hs:(L++envO O).lookup s=some (dow ow G x):=by rfl)(hn:L.lookup s=none:=by rfl)(hG:∀ b,G b->zj Gs p b:=by exact λ _ h=>h)(hq:selR L O qs p=some O2:=by rfl):T:=by
 obtain⟨cs,h1,h2⟩:=h.st.has s _ hs;exact next _ ((h.drop hq).addO hn ⟨Z,⟨cs,h1,h2⟩,λ q hq _=>by cases hq⟩ hG)
theorem Sx.nmB{ow:Ow α}{x:Bx α}(h:Sx F N M0 M Gs L O a w)(p:Nat)(qs:List Nat)
  (next:∀ b:Nat,Sx F N M0 M Gs L ((s,p,dnm ow.box G x (.pointer (some ⟨b,0,none⟩)) [])::O2) a w->T)(hs:(L++envO O).lookup s=some (dow ow.box G x):=by rfl)(hn:L.lookup s=none:=by rfl)(hG:∀ b,G b->zj Gs p b:=by exact λ _ h=>h)(hq:selR L O qs p=some O2:=by rfl):T:=by
 obtain⟨cs,h1,h2⟩:=h.st.has s _ hs;obtain⟨b,C,e,Gr,hc,h3⟩:=h1;refine next b ((h.drop hq).addO hn ⟨?_,⟨cs,⟨b,C,e,Gr,hc,h3⟩,by rw[hc];rfl⟩,λ q hq _=>by cases hq⟩ hG);rw[h2,hc];rfl
theorem Sx.nmR{ow:Ow α}{xs:List α}(h:Sx F N M0 M Gs L O a w)(p:Nat)(qs:List Nat)
  (next:∀ (g:Nat) (A:Option Addr) (cap:Nat),(xs.length≠0->A=some ⟨g,0,none⟩)->Sx F N M0 M Gs L ((s,p,dnm (Ow.row e ow) G xs (.slice A xs.length cap) [])::O2) a w->T)(hs:(L++envO O).lookup s=some (dow (Ow.row e ow) G xs):=by rfl)(hn:L.lookup s=none:=by rfl)(hG:∀ b,G b->zj Gs p b:=by exact λ _ h=>h)(hq:selR L O qs p=some O2:=by rfl):T:=by
 obtain⟨cs,h1,h2⟩:=h.st.has s _ hs;obtain⟨v,hv,h3⟩:=h1;have e2:Act.at a s=v:=by rw[h2,hv];rfl
 rcases h3 with⟨g,cap,cur,Gr,hg,h4⟩ | ⟨hx,A,hA⟩
 ·refine next g _ cap (λ _=>Z) ((h.drop hq).addO hn ⟨by rw[e2,hg],⟨cs,⟨v,hv,.inl ⟨g,cap,cur,Gr,hg,h4⟩⟩,by rw[hv,hg];rfl⟩,λ q hq _=>by cases hq⟩ hG)
 ·refine next 0 A 0 (λ hne=>by rw[hx] at hne;exact absurd Z hne) ((h.drop hq).addO hn ⟨by rw[e2,hA,hx];rfl,⟨cs,⟨v,hv,.inr ⟨hx,A,hA⟩⟩,by rw[hv,hA,hx];rfl⟩,λ q hq _=>by cases hq⟩ hG)
theorem Sx.unm{ow:Ow α}{x:α}(h:Sx F N M0 M Gs L O a w)(p:Nat)(qs:List Nat)(hs:(L++envO O).lookup s=some (dnm ow G x v0 cf):=by rfl)(hn:L.lookup s=none:=by rfl)(hG:∀ b,G b->zj Gs p b:=by exact λ _ h=>h)(hq:selR L O qs p=some O2:=by rfl):
  Sx F N M0 M Gs L ((s,p,dow ow G x)::O2) a w:=by
 obtain⟨h1,⟨cs,h2,h3⟩,_⟩:=h.st.has s _ hs;exact(h.drop hq).addO hn ⟨cs,h2,h1.trans h3⟩ hG
theorem Sx.hdB{ow:Ow α}{x:α}{y:Bx β}{upd:Bx β->α}(h:Sx F N M0 M Gs L O a w)(p:Nat)(c:Bool)(hP:c=true->PH ow x v0 cf oy.box b off y upd)(hs:(L++envO O).lookup s=some (dnm ow G x v0 cf))(hn:L.lookup s=none)(hG:∀ b,G b->zj Gs p b)(qs:List Nat)(hq:selR L O qs p=some O2)
  (next:∀ b':Nat,Sx F N M0 M Gs L ((s,p,dnm ow G x v0 ((c,b,off,.pointer (some ⟨b',0,none⟩))::cf))::O2) a w->T):T:=by
 obtain⟨h1,⟨cs,h2,h3⟩,h4⟩:=h.st.has s _ hs;have:∃ b':Nat,c=true->G b/\b<w.heap.size/\Qa w b off (.pointer (some ⟨b',0,none⟩)):=by
  cases c with
  | false=>exact⟨0,λ h=>by cases h⟩
  |true=>have hp:=(hP Z).of h2 h3 h4;obtain⟨_,_,hh,_,hGb,_⟩:=hp.here;obtain⟨b',hc,_⟩:=hp.box;exact⟨b',λ _=>⟨hGb,xG hh,hc⟩⟩
 obtain⟨b',hb'⟩:=this;refine next b' ((h.drop hq).addO hn ⟨h1,⟨cs,h2,h3⟩,λ q hq' hb=>?_⟩ hG);rcases am.1 hq' with rfl | hq'
 ·exact hb' hb
 ·exact h4 q hq' hb
theorem HP.row_cell{R:(Nat->Prop)->(Nat->Prop)->World->List β->Prop}(h:HP (Ow.row e oy) M G w b off ys R):∃ g A cap,(ys.length≠0->A=some ⟨g,0,none⟩)/\w.cell? ⟨b,off,none⟩=some (.slice A ys.length cap):=by
 obtain⟨C,e',hh,hsz,hv⟩:=h.vp;obtain⟨G1,G2,_,_,_,hr,_⟩:=hv;obtain⟨v,hv,h3⟩:=hr;have e1:w.cell? ⟨b,off,none⟩=some v:=by simp[World.cell?,hh,Xr hv]
 rcases h3 with⟨g,cap,cur,Gr,hg,h4⟩ | ⟨hx,A,hA⟩
 ·exact⟨g,_,cap,λ _=>Z,by rw[e1,hg]⟩
 ·exact⟨0,A,0,λ hne=>by rw[hx] at hne;exact absurd Z hne,by rw[e1,hA,hx];rfl⟩
theorem Sx.hdR{ow:Ow α}{x:α}{upd:List β->α}(h:Sx F N M0 M Gs L O a w)(p:Nat)(c:Bool)(hP:c=true->PH ow x v0 cf (Ow.row e oy) b off ys upd)(qs:List Nat)
  (next:∀ (g:Nat) (A:Option Addr) (cap:Nat),(ys.length≠0->c=true->A=some ⟨g,0,none⟩)->Sx F N M0 M Gs L ((s,p,dnm ow G x v0 ((c,b,off,.slice A ys.length cap)::cf))::O2) a w->T)(hs:(L++envO O).lookup s=some (dnm ow G x v0 cf):=by rfl)(hn:L.lookup s=none:=by rfl)(hG:∀ b,G b->zj Gs p b:=by exact λ _ h=>h)(hq:selR L O qs p=some O2:=by rfl):T:=by
 obtain⟨h1,⟨cs,h2,h3⟩,h4⟩:=h.st.has s _ hs;have:∃ (g:Nat) (A:Option Addr) (cap:Nat),(ys.length≠0->c=true->A=some ⟨g,0,none⟩)/\(c=true->G b/\b<w.heap.size/\Qa w b off (.slice A ys.length cap)):=by
  cases c with
  | false=>exact⟨0,none,0,⟨(λ _ h=>nomatch h),(λ h=>nomatch h)⟩⟩
  |true=>have hp:=(hP Z).of h2 h3 h4;obtain⟨_,_,hh,_,hGb,_⟩:=hp.here;obtain⟨g,A,cap,hA,hc⟩:=hp.row_cell;exact⟨g,A,cap,λ h _=>hA h,λ _=>⟨hGb,xG hh,hc⟩⟩
 obtain⟨g,A,cap,hA,hb'⟩:=this;refine next g A cap hA ((h.drop hq).addO hn ⟨h1,⟨cs,h2,h3⟩,λ q hq' hb=>?_⟩ hG);rcases am.1 hq' with rfl | hq'
 ·exact hb' hb
 ·exact h4 q hq' hb
theorem zt{ow:Ow α}{x:α}(h:look s=some (dnm ow G x v0 cf)):OpdR M look (.tmp s) (dis v0):=λ _ _ hl=>(hl s _ h).1
theorem U{ow:Ow α}{x:α}(h:look s=some (dnm ow G x v0 cf):=by rfl):OpdR M look (.tmp s) (dis v0):=zt h
theorem xFa{f:Nat}(ho:o.op=.fieldAddr t q f)(ht:fldB P t f fo=true)(hp:OpdR M look q (dis (.pointer (some ⟨b,off,none⟩)))):OpRel P M look o (dis (.pointer (some ⟨b,off+fo,none⟩))):=
 zC λ a w _ hl=>by
  have hv:a.eval q=_:=hp w a hl;refine⟨_,?_,Z⟩;unfold execOp;rw[ho];simp[hv,Jf ht]
theorem xIa{γ:Type}{s i:Operand}{size g n cap:Nat}{ys:List γ}{y:γ}(ho:o.op=.indexAddr t s i)(ht':slB P t size=true)(hs:OpdR M look s (dis (.slice A n cap)))(hi:OpdR M look i (dt m))(hn:n=ys.length)(hA:ys.length≠0->A=some ⟨g,0,none⟩)(hm:atI ys m=some y):OpRel P M look o (dis (.pointer (some ⟨g,m.toNat*size,none⟩))):=
 zC λ a w _ hl=>by
  obtain⟨hm0,hx⟩:=yL hm;generalize m.toNat=k at*;subst hm0;have hk:=zJ hx;have hA':=hA (by omega);subst hA';obtain⟨e',ht⟩:=jJ ht';obtain⟨ti,ht1,ht2,ht3⟩:=Zy ht;have hsv:a.eval s=_:=hs w a hl;have hiv:=yx.1 (hi w a hl);have hk':k<n:=by omega
  have hadd:(⟨g,0,none⟩:Addr).add (k*size)=⟨g,k*size,none⟩:=by rw[jq];simp
  refine⟨_,?_,Z⟩;unfold execOp;rw[ho];simp[hsv,hiv,Instr.indexAt,asIntOf,aw ht1,sizeOf,typeInfo,ht2,ht3,hk',hadd]
theorem row_nm{ow:Ow α}{s:Nat}{xs:List α}{n cap:Nat}(h:(dnm (Ow.row e ow) G xs (.slice A n cap) cf).rd M w v):n=xs.length:=by
 obtain⟨_,⟨cs,⟨v',hv',h3⟩,h4⟩,_⟩:=h;rw[hv'] at h4;have h5:=h4;rcases h3 with⟨g,cap,cur,Gr,hg,_⟩ | ⟨hx,A',hA⟩
 ·rw[hg] at h5;injection h5
 ·rw[hA] at h5;injection h5 with _ h6 _;rw[h6,hx];rfl
theorem xIaN{ow:Ow α}{i:Operand}{g n cap:Nat}{xs:List α}{x:α}(ho:o.op=.indexAddr t (.tmp s) i)(ht':slB P t (Rep.size α)=true)(hs:look s=some (dnm (Ow.row e ow) G xs (.slice A n cap) cf))(hi:OpdR M look i (dt m))(hA:n≠0->A=some ⟨g,0,none⟩)(hm:atI xs m=some x):OpRel P M look o (dis (.pointer (some ⟨g,m.toNat*Rep.size α,none⟩))):=
 λ a w hm' hl=>by
  have hn:=row_nm (s:=s) (hl s _ hs);exact xIa ho ht' (zt hs) hi hn (by rw[← hn];exact hA) hm a w hm' hl
theorem xLe{n cap:Nat}(ho:o.op=.call { callee:=.builtin .len,args:=#[q],argTypes:=#[t] })(hs:OpdR M look q (dis (.slice A n cap)))(ht:isSl P t=true:=by kernel_rfl):OpRel P M look o (dt (n:Int)):=
 zC λ a w _ hl=>by
  obtain⟨e',ht1⟩:=zd2 ht;have hv:a.eval q=_:=hs w a hl;refine⟨.int .i64 n,?_,yx.2 Z⟩;unfold execOp;rw[ho];simp[resolve,invoke,builtin,Builtin.len_,hv,aw ht1,goInt]
theorem xLeN{ow:Ow α}{n cap:Nat}{xs:List α}(ho:o.op=.call { callee:=.builtin .len,args:=#[.tmp s],argTypes:=#[t] })(ht:isSl P t=true)(hs:look s=some (dnm (Ow.row e ow) G xs (.slice A n cap) cf)):OpRel P M look o (dt (xs.length:Int)):=
 λ a w hm' hl=>by
  have hn:=row_nm (s:=s) (hl s _ hs);rw[← hn];exact xLe ho (ht:=ht) (zt hs) a w hm' hl
theorem xLf{ow:Ow α}{t:Nat}{x:α}{y:β}{upd:β->α}(hP:PH ow x v0 cf Ow.frz b off y upd)(ho:o.op=.load t q)(hq:OpdR M look q (dis (.pointer (some ⟨b,off,none⟩))))(hs:look sb=some (dnm ow G x v0 cf))(ht:tyB P t (Rep.agg β) (Rep.size β)=true:=by kernel_rfl):OpRel P M look o (dt y):=
 zC λ a w _ hl=>by
  obtain⟨h1,⟨cs,h2,h3⟩,h4⟩:=hl sb _ hs;obtain⟨C,e,hh,hsz,_,G1,G2,_,_,_,_,_,hr,_⟩:=(hP.of h2 h3 h4).here;have hr':Rep.rdc M w _ y:=hr;have hv:a.eval q=_:=hq w a hl;refine⟨_,?_,_,hr',Z⟩;have hc':∀ j u,((C.toList.drop off).take (Rep.size β))[j]?=some u->w.cell? ⟨b,off+j,none⟩=some u:=λ j u hj=>by
   rw[aE] at hj;split at hj
   ·rw[bJ] at hj;have:C[off+j]?=some u:=by simpa using hj
    simp[World.cell?,hh,this]
   ·cases hj
  unfold execOp;rw[ho];simp[Instr.loadAt,Instr.sureAddr,hv,yH ht (Rep.len hr') Rep.one hc']
theorem xLc{ow:Ow α}{t:Nat}{x:α}(hm:(c,b,off,u)∈cf)(hc:c=true)(hu:u.oneCell'=true)(ho:o.op=.load t q)(hq:OpdR M look q (dis (.pointer (some ⟨b,off,none⟩))))(hs:look sb=some (dnm ow G x v0 cf))(ht:tyB P t false 1=true:=by kernel_rfl):OpRel P M look o (dis u):=
 zC λ a w _ hl=>by
  obtain⟨h1,⟨cs,h2,h3⟩,h4⟩:=hl sb _ hs;have h5:=WL hu (h4 _ hm hc).2.2;have hv:a.eval q=_:=hq w a hl;refine⟨u,?_,Z⟩;unfold execOp;rw[ho];have:=yH (cs:=[u]) ht Z (λ _=>Z) (λ j z hj=>by
   cases j with
   | zero=>simp at hj;subst hj;simpa using h5
   | succ j=>simp at hj)
  simp[Instr.loadAt,Instr.sureAddr,hv,this,mkv]
theorem Sx.hdW{ow:Ow α}{x:α}{y:β}{upd:β->α}(h:Sx F N M0 M Gs L O a w)(p:Nat)(c:Bool)(hP:c=true->PH ow x v0 cf oy b off y upd)(qs:List Nat)
  (next:∀ cs:Array Value,(c=true->cs.size=Rep.size β)->Sx F N M0 M Gs L ((s,p,dnm ow G x v0 ((c,b,off,.agg cs)::cf))::O2) a w->T)(hs:(L++envO O).lookup s=some (dnm ow G x v0 cf):=by rfl)(hn:L.lookup s=none:=by rfl)(hG:∀ b,G b->zj Gs p b:=by exact λ _ h=>h)(hq:selR L O qs p=some O2:=by rfl):T:=by
 obtain⟨h1,⟨cs,h2,h3⟩,h4⟩:=h.st.has s _ hs;have:∃ cc:Array Value,c=true->cc.size=Rep.size β/\G b/\b<w.heap.size/\Qa w b off (.agg cc):=by
  cases c with
  | false=>exact⟨#[],λ h=>by cases h⟩
  |true=>
   obtain⟨C,e,hh,hsz,hGb,G1,G2,_,_,_,_,_,hr,_⟩:=((hP Z).of h2 h3 h4).here;refine⟨((C.toList.drop off).take _).toArray,λ _=>⟨by rw[dQ];exact oy.len hr,hGb,xG hh,λ j u hj=>?_⟩⟩;rw[ca,aE] at hj;split at hj
   ·rw[bJ] at hj;have:C[off+j]?=some u:=by simpa using hj
    simp[World.cell?,hh,this]
   ·cases hj
 obtain⟨cc,hcc⟩:=this;refine next cc (λ hc=>(hcc hc).1) ((h.drop hq).addO hn ⟨h1,⟨cs,h2,h3⟩,λ q hq' hb=>?_⟩ hG);rcases am.1 hq' with rfl | hq'
 ·exact(hcc hb).2
 ·exact h4 q hq' hb
theorem xLw{ow:Ow α}{t n:Nat}{x:α}{cs:Array Value}(hm:(c,b,off,.agg cs)∈cf)(hc:c=true)(hn:cs.size=n)(ho:o.op=.load t q)(hq:OpdR M look q (dis (.pointer (some ⟨b,off,none⟩))))(hs:look sb=some (dnm ow G x v0 cf))(ht:tyB P t true n=true:=by kernel_rfl):OpRel P M look o (dis (.agg cs)):=
 zC λ a w _ hl=>by
  obtain⟨h1,_,h4⟩:=hl sb _ hs;have h5:=(h4 _ hm hc).2.2;have hv:a.eval q=_:=hq w a hl;refine⟨.agg cs,?_,Z⟩;have:=yH ht (by simpa using hn) (λ h=>by cases h) h5;unfold execOp;rw[ho];simp[Instr.loadAt,Instr.sureAddr,hv,this,mkv]
def Fits(β:Type)[Rep β](u:Value):Prop:=(Rep.agg β=false/\u.oneCell'=true)\/(Rep.agg β=true/\∃ cs,u=.agg cs/\cs.size=Rep.size β)
theorem zT(h:Rep.agg β=false)(hu:u.oneCell'=true):Fits β u:=.inl ⟨h,hu⟩
theorem Qc{cs:Array Value}(h:Rep.agg β=true)(hu:cs.size=Rep.size β):Fits β (.agg cs):=.inr ⟨h,cs,Z,hu⟩
theorem Q5(hf:Fits β u)(hh:w.heap[b]?=some (.cells C e (0,0)))(hsz:off+Rep.size β<=C.size)(h:Qa w b off u):u=mkv (Rep.agg β) ((C.toList.drop off).take (Rep.size β)):=by
 rcases hf with⟨h1,h2⟩ | ⟨h1,cs,rfl,h2⟩
 ·have h3:=WL h2 h;have h4:C[off]?=some u:=by simpa[World.cell?,hh] using h3
  rw[h1,Rep.one h1];have h5:(C.toList.drop off).take 1=[u]:=by
   have hlt:=(aD.1 h4).1;apply aX;intro j;cases j with
   | zero=>rw[aE,Kc (by omega),bJ];simpa using h4
   | succ j=>rw[aE,Kd (by omega)];simp
  rw[h5];rfl
 ·rw[h1];show Value.agg cs=.agg _
  congr 1
  apply Array.ext_getElem?;intro j;have h3:=h;have e2:∀ l:List Value,l.toArray[j]?=l[j]?:=λ l=>by simp
  refine dU ?_ (e2 _).symm;rw[aE];by_cases hj:j<Rep.size β
  ·rw[Kc hj,bJ];have hj':j<cs.size:=by omega
   have h4:=h3 j cs[j] (by simp[hj']);have h5:C[off+j]?=some cs[j]:=by simpa[World.cell?,hh] using h4
   rw[aq hj',cR,h5]
  ·rw[Kd hj,cp (by omega)]
end
def Frm.chg(w0:World)(G:Nat->Prop):Frm where
 J w:=Grown G w0 w
 Own b:=G b\/w0.heap.size<=b
 ext h k:=⟨k.os.trans h.os,k.tape.trans h.tape,k.output.trans h.output,aQ h.size k.size,λ i hi hn=>(k.block i (ax hi h.size)).trans (h.block i hi hn)⟩
 own h hg hb:=⟨hg.os.trans h.os,hg.tape.trans h.tape,hg.output.trans h.output,aQ h.size hg.size,λ i hi hn=>(hg.block i (ax hi h.size) λ e=>(hb i e).elim hn λ h=>by omega).trans (h.block i hi hn)⟩
 fresh h _ hb:=.inr (aQ h.size hb)
def RetN(M:Nat->Prop)(w:World)(r:Rd):Ending->World->Prop:=λ en w'=>
 ∃ v G,en=.returned v/\Ext0 w w'/\(∀ b,G b->w.heap.size<=b/\b<w'.heap.size)/\r.rd (λ b=>M b\/G b) G w' v
def RetS{α:Type}[Rep α](M0:Nat->Prop)(w:World)(G:Nat->Prop)(v:Value)(o:Ow α)(x':α)(r:Rd):Ending->World->Prop:=λ en w'=>
 ∃ u
   G' Gr,en=.returned u/\Grown G w w'/\(∀ b,G' b->G b\/w.heap.size<=b)/\(∀ b,Gr b->G b\/w.heap.size<=b)/\(∀ b,G' b->¬ Gr b)/\(∀ b,G' b\/Gr b->b<w'.heap.size)/\
   (dow o G' x').rd (λ b=>(M0 b\/G' b)\/Gr b) w' v/\r.rd (λ b=>(M0 b\/G' b)\/Gr b) Gr w' u
section
variable{fn:Func}{T:Prop}
variable{α β:Type}[Rep α][Rep β]{look:Nat->Option Dt}
variable{d0:α}{oy:Ow β}{y':β}
theorem Sx.st'{ow:Ow α}{t q:Nat}{x:α}{y:β}{upd:β->α}(h:Sx F N M0 M Gs L O a w)(p:Nat)(hP:PH ow x v0 cf oy b off y upd)(ho:o.op=.store t (.tmp q) vo)(hgd:o.guard=none)(hd:o.dst=none)
  (ht:tyB P t (Rep.agg β) (Rep.size β)=true) (hp:p<Gs.length) (hq':Act.at a q=.pointer (some ⟨b,off,none⟩)) (hcv:(a.eval vo).cells.toList=cy) (hy:oy.ro M G3 w cy y') (hs:(L++envO O).lookup sb=some (dnm ow G x v0 cf)) (hn:L.lookup sb=none) (hG:∀ b,G b->zj Gs p b) (hG3:∀ b,G3 b->¬ zj Gs p b)
  (ks:List Nat) (hk:selP ks L=some L2) (qs:List Nat) (hq:selR L O qs p=some O2)
  (next:∀ w',Sx F N M0 M Gs L2 O2 a w'->(dnm ow (λ k=>G k\/G3 k) (upd y') v0 []).rd M w' (Act.at a sb)->wpList P ops Q rest a w'):wpList P ops Q (o::rest) a w:=by
 obtain⟨h1,⟨cs,h2,h3⟩,h4⟩:=h.st.has sb _ hs;obtain⟨G1,G2,C,e,s1,s2,hGb,n1,n2,hdj,hh,hsz,hr,put⟩:=hP.of h2 h3 h4;have hob:=hG b hGb;have hMb:=(h.ob.at_ p b hob).2.1;have hcl:=oy.len hy;have hone:=oy.one hy;have hrun:=xy (by rw[hcl];exact ht) hcv hh (by rw[hcl];exact hsz) hone;have hgr:w.grownBy (w.setRow b (C.toList.take off++cy++C.toList.drop (off+cy.length)).toArray) _:=yU;have hgr':=Grown.of_grownBy hgr;have hL:∀ G5:Nat->Prop,¬ G5 b->Later M G5 w M _:=λ G5 hn5=>⟨λ _ _ h=>h,λ k _ hm=>hgr'.block k (by assumption) λ(h1:some b=some k)=>by
  injection h1 with h1;subst h1;exact hm.elim (λ hm=>hm hMb) hn5⟩
 have nb3:=λ h3=>hG3 b h3 hob
 refine av hgd λ K hK=>OpOut.wp (OpOut.of_skip (w':=w.setRow b (C.toList.take off++cy++C.toList.drop (off+cy.length)).toArray) ?_ ?_)
 ·unfold execOp;rw[ho];have hpv':a.eval (.tmp q)=.pointer _:=hq';simp[Instr.storeAt,Instr.sureAddr,hpv',an,au,ah,hrun]
 ·rw[hd];have k1:=h.mut hp (hgr'.mono λ i (hi:some b=some i)=>by injection hi with hi;rw[← hi];exact hob) hk hq;refine hK _ _ (next _ k1 ⟨h1,⟨cs,?_,h3⟩,λ q hq _=>by cases hq⟩);have hw':=ce w b C (C.toList.take off++cy++C.toList.drop (off+cy.length)).toArray e _ hh;refine put (hL G2 n2) ?_ (oy.later hy (hL G3 nb3)) nb3 (λ k hk hk2=>hG3 k hk (hG k (s2 k hk2))) (.inl hGb) (λ k hk=>.inr hk) λ k hk=>.inl (s2 k hk)
  rw[hw',hcl]
theorem Sx.stF{ow:Ow α}{t q:Nat}{x:α}{y:β}{upd:β->α}(h:Sx F N M0 M Gs L O a w)(p:Nat)(hP:PH ow x v0 cf Ow.frz b off y upd)
    (hpl:OpdR M (λ s=>(L++envO O).lookup s) (.tmp q) (dis (.pointer (some ⟨b,off,none⟩)))) (hvl:OpdR M (λ s=>(L++envO O).lookup s) vo (dt y'))   
  (ks:List Nat)  (qs:List Nat)  
  (next:∀ w',Sx F N M0 M Gs L2 ((sb,p,dnm ow G (upd y') v0 [])::O2) a w'->wpList P ops Q rest a w')(ho:o.op=.store t (.tmp q) vo:=by rfl)(hgd:o.guard=none:=by rfl)(hd:o.dst=none:=by rfl)(hp:p<Gs.length:=by simp)(hs:(L++envO O).lookup sb=some (dnm ow G x v0 cf):=by rfl)(hn:L.lookup sb=none:=by rfl)(hG:∀ b,G b->zj Gs p b:=by exact λ _ h=>h)(hk:selP ks L=some L2:=by rfl)(hq:selR L O qs p=some O2:=by rfl)(hdn:L2.lookup sb=none:=by rfl)(ht:tyB P t (Rep.agg β) (Rep.size β)=true:=by kernel_rfl):wpList P ops Q (o::rest) a w:=by
 have hy:=XV (hvl w a λ s y hs=>h.st.has s y hs);refine h.st' p hP ho hgd hd ht hp (hpl w a λ s y hs=>h.st.has s y hs) Z (G3:=noB) hy hs hn hG (λ _ h=>h.elim) ks hk qs hq λ w' st hr=>next w' (st.addO hdn ?_ hG)
 have e:(λ k=>G k\/noB k)=G:=by funext k;simp[noB]
 rwa[e] at hr
theorem Sx.stO{ow:Ow α}{t q:Nat}{x:α}{y:β}{upd:β->α}(h:Sx F N M0 M Gs L O a w)(p p2:Nat)(hP:PH ow x v0 cf oy b off y upd)
      (hpl:OpdR M (λ s=>(L++envO O).lookup s) (.tmp q) (dis (.pointer (some ⟨b,off,none⟩))))     
  (ks:List Nat)  (qs:List Nat)   
  (next:∀{G' w'},Sx F N M0 M ((Gs.set p G').set p2 (oneB none)) L2 ((sb,p,dnm ow G' (upd y') v0 [])::O2) a w'->wpList P ops Q rest a w')(ho:o.op=.store t (.tmp q) (.tmp tv):=by rfl)(hgd:o.guard=none:=by rfl)(hd:o.dst=none:=by rfl)(hp:p<Gs.length:=by simp)(hp2:p2<Gs.length:=by simp)(hne:p≠p2:=by decide)(hvl:(L++envO O).lookup tv=some (dow oy G3 y'):=by rfl)(hs:(L++envO O).lookup sb=some (dnm ow G x v0 cf):=by rfl)(hn:L.lookup sb=none:=by rfl)(hG:∀ b,G b->zj Gs p b:=by exact λ _ h=>h)(hG3:∀ b,G3 b->zj Gs p2 b:=by exact λ _ h=>h)(hk:selP ks L=some L2:=by rfl)(hq:selR L O qs p=some O2:=by rfl)(hq2:O2.all (λ q=>q.2.1 != p2)=true:=by rfl)(hdn:L2.lookup sb=none:=by rfl)(ht:tyB P t (Rep.agg β) (Rep.size β)=true:=by kernel_rfl):wpList P ops Q (o::rest) a w:=by
 obtain⟨cy,hy,hyv⟩:=h.st.has tv _ hvl;have hcl:=oy.len hy;have hone:=oy.one hy;have hcv:(Act.at a tv).cells.toList=cy:=by rw[hyv];exact Zz (oy.toR hy)
 refine h.st' p hP ho hgd hd ht hp (hpl w a λ s y hs=>h.st.has s y hs) hcv hy hs hn hG (λ b hb hb2=>h.ob.apart p p2 b hne hb2 (hG3 b hb)) ks hk qs hq λ w' st hr=>?_
 have k1:=st.mrg hp hp2 hne hq2;have e:JB Gs p p2=(Gs.set p (λ b=>zj Gs p b\/zj Gs p2 b)).set p2 _:=rfl;rw[e] at k1;refine next (k1.addO hdn ⟨hr.1,?_,λ q hq _=>by cases hq⟩ λ c hc=>?_)
 ·obtain⟨cs,h1,h2⟩:=hr.2.1;exact⟨cs,ow.more h1 λ k hk=>hk.imp (hG k) (hG3 k),h2⟩
 ·rw[zq (bo hne),zk hp];exact hc
theorem Sx.alcW{ow:Ow α}{t:Nat}(h:Sx F N M0 M Gs L O a w)(p:Nat)(hz:∀ (M:Nat->Prop) (w:World),ow.ro M noB w zs d0)
  (ks:List Nat)  (qs:List Nat)  
  (next:∀ b M' a' w',Sx F N M0 M' (Gs.set p (oneB (some b))) L2 ((d,p,dnm ow.box (oneB (some b)) ⟨d0⟩ (.pointer (some ⟨b,0,none⟩)) [])::O2) a' w'->wpList P ops Q rest a' w')(hh:opH o N=some d:=by rfl)(ho:o.op=.alloc t:=by rfl)(hp:p<Gs.length:=by simp)(hk:selP ks L=some L2:=by rfl)(hq:selR L O qs p=some O2:=by rfl)(hdn:L2.lookup d=none:=by rfl)(hzc:zeroCells P t=some zs:=by kernel_rfl):wpList P ops Q (o::rest) a w:=by
 obtain⟨hgd,hd,hN⟩:=zQ hh;obtain⟨i,z,hi,hzz,hzs⟩:∃ i z,P.info? t=some i/\i.zero=some z/\z.cells.toList=zs:=by
  unfold zeroCells at hzc;cases hi:P.info? t with
  | none=>rw[hi] at hzc;cases hzc
  |some i=>
   rw[hi] at hzc;cases hzz:i.zero with
   | none=>simp[hzz] at hzc
   | some z=>exact⟨i,z,Z,hzz,by simpa[hzz] using hzc⟩
 have he:Ext0 w (w.alloc (.cells z.cells t)):=Ext0.alloc _ _;refine av hgd λ K hK=>OpOut.wp (OpOut.of_value (v:=.pointer (some ⟨w.heap.size,0,none⟩)) (w':=w.alloc (.cells z.cells t)) ?_ ?_)
 ·unfold execOp;rw[ho];simp[Instr.alloc,zeroValue,typeInfo,hi,hzz,newVar,newRow,newObj,JY]
 ·rw[hd];have h1:=h.eff (G':=oneB _) hp ((Grown.of_ext he).mono λ b hb=>hb.elim) (λ b (hb:some w.heap.size=some b)=>by injection hb with hb;subst hb;exact⟨.inr (ak _),by simp⟩) hk hq;refine hK _ _ (next w.heap.size _ _ _ (h1.putO hN hdn ?_ λ b hb=>by rw[zk hp];exact hb));exact⟨Z,⟨_,⟨w.heap.size,z.cells,t,noB,Z,cZ w _,Z,λ h=>h,λ _ h=>h.elim,by rw[hzs];exact hz _ _⟩,Z⟩,λ q hq _=>by cases hq⟩
theorem row_madeW{ow:Ow α}{z:Array Value}{d:α}(hz:∀ (M:Nat->Prop) (w:World),ow.ro M noB w z.toList d)(n:Nat):rowW ow M noB w (madeCells z (n*Rep.size α)).toList (List.replicate n d):=by
 have hsz:z.size=Rep.size α:=by have:=ow.len (hz M w);simpa using this
 induction n with
 | zero=>simp[madeCells,rowW]
 |succ n ih=>rw[← hsz] at ih ⊢;rw[zaY (by rw[hsz];exact Rep.pos),List.replicate_succ'];exact zbb ih (rowW_one (hz M w)) (λ _ h=>h) (λ _ h=>h) λ _ h=>h.elim
theorem Sx.makeW{ow:Ow α}{n:Int}{r:List α}(h:Sx F N M0 M Gs L O a w)(p:Nat)(hh:opH o N=some d)(ho:o.op=.makeSlice t (.tmp s) (.tmp s))
  (hel:elB P t e (Rep.size α) bytes=true) (hzc:zeroCells P e=some zs) (hz:∀ (M:Nat->Prop) (w:World),ow.ro M noB w zs d0) (hs:(L++envO O).lookup s=some (dt n))  (hm:zaK (Rep.size α) bytes n d0=some r)
  (ks:List Nat) (hk:selP ks L=some L2) (qs:List Nat) (hq:selR L O qs p=some O2) (hdn:L2.lookup d=none)
  (next:∀ G' M' a' w',Sx F N M0 M' (Gs.set p G') L2 ((d,p,dow (Ow.row e ow) G' r)::O2) a' w'->wpList P ops Q rest a' w')(hp:p<Gs.length:=by simp):wpList P ops Q (o::rest) a w:=by
 obtain⟨hgd,hd,hN⟩:=zQ hh;unfold zaK at hm;split at hm
 ·rename_i hc;injection hm with hm;subst hm;obtain⟨i,z,ht,hi,hzz,hs1,hs2,hs3⟩:=J3 hel;have hzs:z.cells.toList=zs:=by
   unfold zeroCells at hzc;rw[hi] at hzc;simpa[hzz] using hzc
  obtain⟨w',hrun,hown,hgr⟩:=run_makeSlice_full w 0 t e i z _ ht hi hzz hs1 .i64 .i64 n.toNat hc.2.1 (by rw[hs2];exact hc.2.2.1) (by unfold maxLen;omega) (ao _);have hex:Ext0 w w':=⟨hgr.os,hgr.tape,hgr.output,hgr.size,λ k hk=>hgr.block k hk (by simp)⟩;have hlt:=(hown.lt w.heap.size Z).2;have hsv:Act.at a s=.int .i64 (n.toNat:Int):=by rw[yx.1 (h.st.has s _ hs)];congr 1;omega
  refine av hgd λ K hK=>OpOut.wp (OpOut.of_value (v:=.slice (some ⟨w.heap.size,0,none⟩) n.toNat n.toNat) (w':=w') ?_ ?_)
  ·unfold execOp;rw[ho];simp only[Act.eval_tmp,hsv,an,hrun,ah,au]
  ·rw[hd];have h1:=h.eff (G':=oneB _) hp ((Grown.of_ext hex).mono λ b hb=>hb.elim) (λ b (hb:some w.heap.size=some b)=>by injection hb with hb;subst hb;exact⟨.inr (ak _),hlt⟩) hk hq;refine hK _ _ (next _ _ _ _ (h1.putO hN hdn ?_ λ b hb=>by rw[zk hp];exact hb));rcases hown.2 with⟨h2,_⟩ | ⟨b,cap,cur,h2,_,h3,h4,h5,h6,h7⟩
   ·cases h2
   ·injection h2 with h2 h8 h9;injection h2 with h2;have hb:w.heap.size=b:=by injection h2
    subst hb;refine⟨_,⟨_,Z,.inl ⟨w.heap.size,n.toNat,cur,noB,by rw[cu],h3,by rw[cu];exact ak _,by rw[h9];exact h5,by rw[h9];exact h6,Z,λ h=>h,λ _ h=>h.elim,?_⟩⟩,Z⟩;rw[cu,h7];exact row_madeW (by rw[hzs];exact hz) n.toNat
 ·cases hm
theorem Sx.cN'(h:Sx F N M0 M Gs L O a w)(p:Nat)(hh:opH o N=some d)
  (ho:o.op=.call { callee:=.value (.func f),args:=l.toArray,argTypes:=ts }) (hf:fnB P f=true) (hb:∀ b,Mb b->M b) (hx:ArgsR2 M Mb (λ s=>(L++envO O).lookup s) l xr) (hfn:FnN P f xr r) (hp:p<Gs.length)
  (ks:List Nat) (hk:selP ks L=some L2) (qs:List Nat) (hq:selR L O qs p=some O2)
  (next:∀ G' M' v w',(∀ b,M' b->M b\/G' b)->Sx F N M0 M' (Gs.set p G') L2 O2 a w'->r.rd (λ b=>Mb b\/G' b) G' w' v->wpList P ops Q rest (a.put (some d) v) w'):wpList P ops Q (o::rest) a w:=by
 obtain⟨hgd,hd,hN⟩:=zQ hh;refine av hgd λ K hK=>OpOut.wp (OpOut.of_enter (f:=f) (args:=(l.map a.eval).toArray) (w':=w) ?_ ?_)
 ·unfold execOp;rw[ho];have e:a.eval (.func f)=.func _ #[] #[]:=rfl;simp[resolve,e,Deferred.ofValue,invoke,xX hf]
 ·refine(hfn Mb w _ (λ b h1=>h.st.mok b (hb b h1)) (hx.all h.st.has)).mono λ en w' ⟨v',G',he,hex,hg',hv'⟩=>⟨v',he,?_⟩
  rw[hd];have h1:=h.eff (G':=G') hp ((Grown.of_ext hex).mono λ b hb=>hb.elim) (λ b hb=>⟨.inr (hg' b hb).1,(hg' b hb).2⟩) hk hq;exact hK _ _ (next G' _ _ _ (λ b hb=>hb.imp (λ h=>h.1) id) h1 hv')
theorem ArgsR.two(h:ArgsR M look l xs):ArgsR2 M M look l xs:=by
 induction h with
 | nil=>exact .nil
 | cons h r ih=>exact .cons h ih
theorem Sx.cN{ow:Ow α}{y:α}(h:Sx F N M0 M Gs L O a w)(p:Nat)
    (hx:ArgsR M (λ s=>(L++envO O).lookup s) l xr) (hfn:FnN P f xr (.ow ow y)) 
  (ks:List Nat)  (qs:List Nat)  
  (next:∀{G' M' a' w'},Sx F N M0 M' (Gs.set p G') L2 ((d,p,dow ow G' y)::O2) a' w'->wpList P ops Q rest a' w')(hh:opH o N=some d:=by rfl)(ho:o.op=.call { callee:=.value (.func f),args:=l.toArray,argTypes:=ts }:=by rfl)(hp:p<Gs.length:=by simp)(hk:selP ks L=some L2:=by rfl)(hq:selR L O qs p=some O2:=by rfl)(hdn:L2.lookup d=none:=by rfl)(hf:fnB P f=true:=by kernel_rfl):wpList P ops Q (o::rest) a w:=
 h.cN' p hh ho hf (λ _ h=>h) hx.two hfn hp ks hk qs hq λ G' M' v w' hM st hr=>next (st.putO (zQ hh).2.2 hdn ((Rd.ow ow y).weak hr λ k _ hk=>hM k hk) λ b hb=>by rw[zk hp];exact hb)
theorem lendN{ow:Ow α}{x:α}(ob:Objs F M0 M Gs)(p:Nat)(hG:∀ b,G b->zj Gs p b)(h:OpdR M look q (dnm ow G x v0 cf)):OpdR2 M M0 look q (dt x):=
 λ w a hl=>by
  obtain⟨h0,⟨cs,h1,h2⟩,_⟩:=h w a hl;exact⟨cs,Rep.weak (ow.toR h1) λ b _ hb=>⟨ob.sub b hb,λ hg=>(ob.at_ p b (hG b hg)).2.2 hb⟩,h0.trans h2⟩
theorem Sx.cS'{y:β}(h:Sx F N M0 M Gs L O a w)(p:Nat)(hh:opH o N=some d)
  (ho:o.op=.call { callee:=.value (.func f),args:=(q::l).toArray,argTypes:=ts }) (hf:fnB P f=true) (hy:(dow oy G1 y).rd M w (a.eval q)) (hG1:∀ b,G1 b->zj Gs p b) (hp:p<Gs.length) (hx:ArgsR M (λ s=>(L++envO O).lookup s) l xr) (hfn:FnS P f oy y xr y' r)
  (ks:List Nat) (hk:selP ks L=some L2) (qs:List Nat) (hq:selR L O qs p=some O2)
  (next:∀ G' Gr M' v w',Sx F N M0 M' (Gs.set p (λ b=>((zj Gs p b/\¬ G1 b)\/G' b)\/Gr b)) L2 O2 a w'->(∀ G2:Nat->Prop,(∀ b,G2 b->¬ G1 b)->Later M G2 w M' w')->(∀ b,G' b->G1 b\/w.heap.size<=b)->(∀ b,Gr b->G1 b\/w.heap.size<=b)->(∀ b,G' b->¬ Gr b)->
   (dow oy G' y').rd M' w' (a.eval q)->r.rd M' Gr w' v->wpList P ops Q rest (a.put (some d) v) w'):wpList P ops Q (o::rest) a w:=by
 obtain⟨hgd,hd,hN⟩:=zQ hh;have hGM:=λ b hb=>(h.ob.at_ p b (hG1 b hb)).2.1
 refine av hgd λ K hK=>OpOut.wp (OpOut.of_enter (f:=f) (args:=((q::l).map a.eval).toArray) (w':=w) ?_ ?_)
 ·unfold execOp;rw[ho];have e:a.eval (.func f)=.func _ #[] #[]:=rfl;simp[resolve,e,Deferred.ofValue,invoke,xX hf]
 ·have hM:∀ k,((M k/\¬ G1 k)\/G1 k) ↔ M k:=λ k=>by
   refine⟨λ hk=>hk.elim (λ h=>h.1) (hGM k),λ hk=>?_⟩;by_cases e:G1 k
   ·exact .inr e
   ·exact .inl ⟨hk,e⟩
  rw[cH];refine(hfn (λ b=>M b/\¬ G1 b) G1 w _ _ (λ b hb=>h.st.mok b ((hM b).1 hb)) (λ b hb hm=>hm.2 hb) ((dow oy G1 y).weak hy λ k _ hk=>(hM k).1 hk) ((hx.all h.st.has).weak λ k _ hk=>(hM k).1 hk)).mono λ en w' ⟨u,G',Gr,he,hgr,i1,i2,i3,i4,hv',hu⟩=>⟨u,he,?_⟩
  rw[hd];have h1:=h.eff (G':=λ b=>((zj Gs p b/\¬ G1 b)\/G' b)\/Gr b) hp (hgr.mono hG1) (λ b hb=>by
   rcases hb with(hb | hb) | hb
   ·exact⟨.inl hb.1,ax (h.st.mok b (h.ob.at_ p b hb.1).2.1) hgr.size⟩
   ·exact⟨(i1 b hb).imp (hG1 b) id,i4 b (.inl hb)⟩
   ·exact⟨(i2 b hb).imp (hG1 b) id,i4 b (.inr hb)⟩) hk hq
  have hM':∀ k,(M k/\¬ zj Gs p k)\/((zj Gs p k/\¬ G1 k)\/G' k)\/Gr k->((M k/\¬ G1 k)\/G' k)\/Gr k:=λ k hk=>by
   rcases hk with hk | (hk | hk) | hk
   ·exact .inl (.inl ⟨hk.1,λ e=>hk.2 (hG1 k e)⟩)
   ·exact .inl (.inl ⟨(h.ob.at_ p k hk.1).2.1,hk.2⟩)
   ·exact .inl (.inr hk)
   ·exact .inr hk
  refine hK _ _ (next G' Gr _ _ _ h1 (λ G2 hd2=>⟨λ k hk hm=>?_,λ k hk hm=>hgr.block k hk λ e=>hm.elim (λ hm=>hm (hGM k e)) λ hm=>hd2 k hm e⟩) i1 i2 i3 ((dow oy G' y').weak hv' λ k _ hk=>hM' k hk) (r.weak hu λ k _ hk=>hM' k hk));rcases hM' k hm with(h2 | h2) | h2
  ·exact h2.1
  ·exact(i1 k h2).elim (hGM k) λ h=>by omega
  ·exact(i2 k h2).elim (hGM k) λ h=>by omega
end
section
variable{fn:Func}{T:Prop}
variable{α β γ:Type}[Rep α][Rep β][Rep γ]{look:Nat->Option Dt}
structure Back(M:Nat->Prop)(w:World)(Gs:List (Nat->Prop))(p:Nat)(u:Value)(sv:Value)(oy:Ow β)(y y':β)(mk:(Nat->Prop)->Dt):Prop where
 ex:∃ G1,(∀ b,G1 b->zj Gs p b)/\(dow oy G1 y).rd M w u/\(∀ {G' M':Nat->Prop} {w':World} {G'':Nat->Prop},(∀ G2:Nat->Prop,(∀ b,G2 b->¬ G1 b)->Later M G2 w M' w')->(∀ b,G' b->G1 b\/w.heap.size<=b)->(dow oy G' y').rd M' w' u->(∀ b,(zj Gs p b/\¬ G1 b)\/G' b->G'' b)->(mk G'').rd M' w' sv)
 own:∀ G'' b,(mk G'').own b->G'' b
variable{oo:Ow α}{oy:Ow β}{y':β}
theorem Sx.bkR{y:β}(h:Sx F N M0 M Gs L O a w)(hs:(L++envO O).lookup s=some (dow oy G y))(hG:∀ b,G b->zj Gs p b):Back M w Gs p (Act.at a s) (Act.at a s) oy y y' (λ G''=>dow oy G'' y'):=
 ⟨⟨G,hG,h.st.has s _ hs,λ _ _ hr hs=>(Rd.ow oy y').more hr λ b hb=>hs b (.inr hb)⟩,λ _ _ h=>h⟩
theorem Sx.bkN{y:β}(h:Sx F N M0 M Gs L O a w)(hs:(L++envO O).lookup s=some (dnm oy G y v0 cf):=by rfl)(hG:∀ b,G b->zj Gs p b:=by exact λ _ h=>h):Back M w Gs p (Act.at a s) (Act.at a s) oy y y' (λ G''=>dnm oy G'' y' v0 []):=by
 obtain⟨h1,⟨cs,h2,h3⟩,_⟩:=h.st.has s _ hs;refine⟨⟨G,hG,⟨cs,h2,h1.trans h3⟩,λ _ _ hr hs=>?_⟩,λ _ _ h=>h⟩;obtain⟨c',h4,h5⟩:=hr;exact⟨h1,⟨c',oy.more h4 λ b hb=>hs b (.inr hb),h1.symm.trans h5⟩,λ q hq _=>by cases hq⟩
theorem mkv_one{cs:List Value}{y:β}(h:oy.ro M G w cs y)(ha:Rep.agg β=false):∃ u,cs=[u]/\mkv (Rep.agg β) cs=u:=by
 have hl:=oy.len h;rw[Rep.one ha] at hl
 match cs,hl with
 | [u],_=>exact⟨u,Z,by rw[ha];rfl⟩
theorem Sx.bkH{ow:Ow α}{x:α}{y:β}{upd:β->α}(h:Sx F N M0 M Gs L O a w)(hP:PH ow x v0 cf oy b off y upd)(hm:(c,b,off,u)∈cf)(hc:c=true)(hf:Fits β u)(hs:(L++envO O).lookup sb=some (dnm ow G x v0 cf))(hG:∀ b,G b->zj Gs p b):Back M w Gs p u (Act.at a sb) oy y y' (λ G''=>dnm ow G'' (upd y') v0 []):=by
 obtain⟨h1,⟨cs,h2,h3⟩,h4⟩:=h.st.has sb _ hs;obtain⟨C,e,hh,hsz,_,G1,G2,s1,s2,hd,_,_,hr,put⟩:=(hP.of h2 h3 h4).here;have hu:=Q5 hf hh hsz (h4 _ hm hc).2.2;refine⟨⟨G1,λ b hb=>hG b (s1 b hb),⟨_,hr,hu⟩,λ{G' M' w' G''} hL hG' hr' hs'=>?_⟩,λ _ _ h=>h⟩;obtain⟨c',h5,h6⟩:=hr';have e:c'=(C.toList.drop off).take (Rep.size β):=by
  have e1:=bz (λ v=>v.cells.toList) (h6.symm.trans hu);simp[Zz (oy.toR h5),Zz (oy.toR hr)] at e1;exact e1
 rw[e] at h5;have hlt:=λ b hb=>h.st.mok b (h.ob.at_ p b (hG b hb)).2.1
 exact⟨h1,⟨cs,put (G'':=G'') (hL G2 λ b hb hb1=>hd b hb1 hb) h5 (λ k hk hk2=>(hG' k hk).elim (λ e=>hd k e hk2) λ e=>by have:=hlt k (s2 k hk2);omega) (λ k hk=>hs' k (.inr hk)) (λ k hk=>hs' k (.inl ⟨hG k (s2 k hk),λ e=>hd k e hk⟩)),h3⟩,λ q hq _=>by cases hq⟩
theorem zaL{ow:Ow α}{x:α}{y:β}{upd:β->α}(ob:Objs F M0 M Gs)(p:Nat)(hP:PH ow x v0 cf oy b off y upd)(hm:(c,b,off,u)∈cf)(hc:c=true)(hf:Fits β u)(hq:OpdR M look q (dis u))(hs:look sb=some (dnm ow G x v0 cf))(hG:∀ b,G b->zj Gs p b:=by exact λ _ h=>h):OpdR2 M M0 look q (dt y):=
 λ w a hl=>by
  obtain⟨h1,⟨cs,h2,h3⟩,h4⟩:=hl sb _ hs;obtain⟨C,e,hh,hsz,_,G1,G2,s1,s2,hd,_,_,hr,put⟩:=(hP.of h2 h3 h4).here;have hu:=Q5 hf hh hsz (h4 _ hm hc).2.2;have hv:=hq w a hl;exact⟨_,Rep.weak (oy.toR hr) λ b _ hb=>⟨ob.sub b hb,λ hg=>(ob.at_ p b (hG b (s1 b hg))).2.2 hb⟩,hv.trans hu⟩
theorem Sx.cSF{y:β}{mk:(Nat->Prop)->Dt}(h:Sx F N M0 M Gs L O a w)(p:Nat)(bk:Back M w Gs p u (Act.at a sb) oy y y' mk)(hh:opH o N=some d)
  (ho:o.op=.call { callee:=.value (.func f),args:=(q::l).toArray,argTypes:=ts }) (hf:fnB P f=true) (hqv:a.eval q=u) (hp:p<Gs.length) (hx:ArgsR M (λ s=>(L++envO O).lookup s) l xr) (hfn:FnS P f oy y xr y' (.frz yd))
  (ks:List Nat) (hk:selP ks L=some L2) (qs:List Nat) (hq:selR L O qs p=some O2) (hsn:L2.lookup sb=none) (hne:sb≠d)
  (next:∀{G'' M' a' w'},Sx F N M0 M' (Gs.set p G'') ((d,yd)::L2) ((sb,p,mk G'')::O2) a' w'->wpList P ops Q rest a' w'):wpList P ops Q (o::rest) a w:=by
 subst hqv;obtain⟨G1,hG1,hy,back⟩:=bk.ex;refine h.cS' p hh ho hf hy hG1 hp hx hfn ks hk qs hq λ G' Gr M' v w' st hL hG' _ _ hr hres=>?_
 have h1:=st.addO (x:=mk (λ b=>_\/Gr b)) hsn (back hL hG' hr λ b hb=>.inl hb) λ b hb=>by rw[zk hp];exact bk.own _ b hb
 exact next (h1.putL (zQ hh).2.2 hres.1 hres.2)
theorem fnN{c:Code}(n:Nat)(hf:P.funcs[f]?=some fn)(hb:fn.body=some c)(hnb:Ji (zK 0 xs)=true)
  (h:∀ (M:Nat->Prop) (w:World) (a:Act),Sx (Frm.of w) fn.ntmps M M (List.replicate n (oneB none)) (zK 0 xs) [] a w->c.wp P (bodyPost P fn (RetN M w r)) a w)(hn:xs.length<=fn.ntmps:=by exact oD Z):FnN P f xs r:=by
 intro M w vs hm hr;refine cP hf hb (h M w _ (.start n ?_ hnb));have hl:=hr.len;refine⟨dS _ _,by simp;omega,Z,hm,λ s x hs=>?_⟩;obtain⟨j,u,h1,h2,h3⟩:=hr.nth 0 s x hs;have h4:Act.at { tmps:=vs.toArray++Array.replicate (fn.ntmps - vs.toArray.size) undef,defers:=[] } s=u:=by
  have hj:=(ai.1 h2).1;have h5:vs.toArray[j]?=some u:=by simpa using h2
  have hj':j<vs.toArray.size:=by simpa using hj
  have:s=j:=by omega
  subst this;simp[Act.at];rw[aV hj',h5];rfl
 rw[h4];exact h3
theorem fnS0{c:Code}{x x':α}(p n:Nat)(hf:P.funcs[f]?=some fn)(hb:fn.body=some c)(hn:rs.length+1<=fn.ntmps)(hnb:Ji (zK 1 rs)=true)
  (h:∀ (M G:Nat->Prop) (w:World) (v:Value) (a:Act),Act.at a 0=v->Sx (Frm.chg w G) fn.ntmps M (λ b=>M b\/G b) ((List.replicate n (oneB none)).set p G) (zK 1 rs) [(0,p,dow oo G x)] a w->c.wp P (bodyPost P fn (RetS M w G v oo x' r)) a w) (hp:p<n):FnS P f oo x rs x' r:=by
 intro M0 G w v vs hm hg hv hr;have hra:RdAll (λ b=>M0 b\/G b) w (v::vs) _:=.cons hv hr;have hl:=hra.len;have hnth:∀ s y,(zK 0 _).lookup s=some y->y.rd (λ b=>M0 b\/G b) w (Act.at { tmps:=(v::vs).toArray++Array.replicate _ undef,defers:=[] } s):=λ s y hs=>by
  obtain⟨j,u,h1,h2,h3⟩:=hra.nth 0 s y hs;have hj:=(ai.1 h2).1;have h5:(v::vs).toArray[j]?=some u:=by simpa using h2
  have hj':j<(v::vs).toArray.size:=by simpa using hj
  have:s=j:=by omega
  subst this;have h4:Act.at { tmps:=(v::vs).toArray++Array.replicate (fn.ntmps - (v::vs).toArray.size) undef,defers:=[] } s=u:=by
   simp[Act.at];rw[aV hj',h5];rfl
  rw[h4];exact h3
 have hlen:p<(List.replicate n (oneB none)).length:=by simpa using hp
 have hown:∀ q b,zj ((List.replicate n _).set p G) q b ↔ q=p/\G b:=λ q b=>by
  by_cases hq:p=q
  ·subst hq;rw[zk hlen];simp
  ·rw[zq hq];exact⟨λ h=>(J4 h).elim,λ h=>(hq h.1.symm).elim⟩
 refine cP hf hb (h M0 G w v _ ?_ ?_)
 ·simp[Act.at];rw[aV (by simp)];simp
 ·refine⟨⟨Grown.refl _ _,by simp at hl ⊢;omega,Z,hm,λ s y hy=>?_⟩,⟨λ b hb=>.inl hb,λ q b hb=>?_,λ q r b hne h1 h2=>hne (((hown q b).1 h1).1.trans ((hown r b).1 h2).1.symm)⟩,XU hnb,⟨λ b hb=>(hown p b).2 ⟨Z,hb⟩,trivial⟩⟩
  ·have hk:∀ (i:Nat) (rs:List Dt) (s:Nat) (x:Dt),(zK i rs).lookup s=some x->i<=s:=λ i rs=>by
    induction rs generalizing i with
    | nil=>intro s x h;simp[zK] at h
    |cons y rs ih=>
     intro s x h;simp only[zK,ae] at h;by_cases he:s=i
     ·omega
     ·have hb:(s == i)=false:=by simpa using he
      simp[hb] at h;have:=ih _ s x h;omega
   refine hnth s y ?_;simp only[zK,ae];rcases yq hy with h1 | ⟨_,h1⟩
   ·have:=hk _ _ _ _ h1;have hb:(s == 0)=false:=by simpa using(by omega:¬ s=0)
    simp[hb];exact h1
   ·simp only[envO,ae,d9] at h1;cases hb:s == 0 with
    | true=>simp only[hb] at h1;exact h1
    | false=>simp only[hb] at h1;cases h1
  ·obtain⟨rfl,hb'⟩:=(hown q b).1 hb;exact⟨.inl hb',.inr hb',hg b hb'⟩
theorem zec:∀ {i:Nat} {rs:List Dt},(zK (i+1) rs).lookup 0=none
 | _,[]=>rfl
 |i,_::rs=>by
  simp only[zK,ae];have hb:(0 == i+1)=false:=by simp
  rw[hb];exact zec
theorem zcL{n:Nat}(hp:p<n):∀ b,G b->zj ((List.replicate n (oneB none)).set p G) p b:=λ b hb=>by rw[zk (by simpa using hp)];exact hb
theorem look_self:(zK 1 rs++envO [(0,p,X)]).lookup 0=some X:=by rw[yi zec];simp[envO]
theorem fnSB{c:Code}{x x':Bx α}(p n:Nat)(hf:P.funcs[f]?=some fn)(hb:fn.body=some c)(hnb:Ji (zK 1 rs)=true)
  (h:∀ (M G:Nat->Prop) (w:World) (b:Nat) (a:Act),Sx (Frm.chg w G) fn.ntmps M (λ b=>M b\/G b) ((List.replicate n (oneB none)).set p G) (zK 1 rs) [(0,p,dnm oo.box G x (.pointer (some ⟨b,0,none⟩)) [])] a w->c.wp P (bodyPost P fn (RetS M w G (.pointer (some ⟨b,0,none⟩)) oo.box x' r)) a w) (hp:p<n:=by decide)(hn:rs.length+1<=fn.ntmps:=by exact oD Z):FnS P f oo.box x rs x' r:=
 fnS0 p n hf hb hn hnb (λ M G w v a hv st=>st.nmB p (hs:=look_self) (hn:=zec) (hG:=(zcL hp)) [] λ b st'=>by
  have e:v=.pointer (some ⟨b,0,none⟩):=by rw[← hv];exact(st'.st.has 0 _ look_self).1
  rw[e];exact h M G w b a st') hp
theorem Sx.rnO{ow:Ow α}{t:Nat}{x r:α}(h:Sx (Frm.of w0) N M0 M Gs L O a w)(p:Nat)(hm:some x=some r)(hr:fn.results=#[.tmp t]:=by rfl)(hl:(L++envO O).lookup t=some (dow ow G x):=by rfl)(hG:∀ b,G b->zj Gs p b:=by exact λ _ h=>h):bodyPost P fn (RetN M0 w0 (.ow ow r)) .ret a w:=by
 injection hm with hm;subst hm;exact⟨h.st.defers,_,cQ hr a.tmps P w,_,G,Z,h.st.fr,λ b hb=>⟨(h.ob.at_ p b (hG b hb)).1,h.st.mok b (h.ob.at_ p b (hG b hb)).2.1⟩,(dow ow G x).weak (h.st.has t _ hl) λ k _ hk=>hk.elim (h.ob.sub k) λ hk=>(h.ob.at_ p k (hG k hk)).2.1⟩
theorem Sx.rnC{ow:Ow α}{t:Nat}{x:Bx α}{r:α}(h:Sx (Frm.of w0) N M0 M Gs L O a w)(p:Nat)(hm:some x.x=some r)(hr:fn.results=#[.cell t ty]:=by rfl)(hl:(L++envO O).lookup t=some (dnm ow.box G x v0 cf):=by rfl)(hG:∀ b,G b->zj Gs p b:=by exact λ _ h=>h)(ht:tyB P ty (Rep.agg α) (Rep.size α)=true:=by kernel_rfl):bodyPost P fn (RetN M0 w0 (.ow ow r)) .ret a w:=by
 injection hm with hm;subst hm;obtain⟨h1,⟨cs,⟨b,C,e,Gr,hc,hb,hGb,hn,hs,hro⟩,h3⟩,_⟩:=h.st.has t _ hl;have hrr:=ow.toR hro;have hc':∀ j u,C.toList[j]?=some u->w.cell? ⟨b,0+j,none⟩=some u:=λ j u hj=>by
  rw[aB];have:C[j]?=some u:=by simpa using hj
  simp[World.cell?,hb,this]
 have hld:=yH ht (Rep.len hrr) Rep.one hc';have hv:Act.at a t=.pointer (some ⟨b,0,none⟩):=by rw[h1,h3,hc];rfl
 refine⟨h.st.defers,mkv _ C.toList,?_,_,Gr,Z,h.st.fr,λ k hk=>⟨(h.ob.at_ p k (hG k (hs k hk))).1,h.st.mok k (h.ob.at_ p k (hG k (hs k hk))).2.1⟩,⟨_,ow.weak hro λ k _ hk=>hk.elim (h.ob.sub k) λ hk=>(h.ob.at_ p k (hG k (hs k hk))).2.1,Z⟩⟩;have h2:a.tmps.getD t undef=.pointer _:=hv;simp[results,hr];simp at h2;simp[h2,asAddr,hld]
theorem Sx.rsF{t:Nat}{x xr:α}{y yr:β}(h:Sx (Frm.chg w0 G) N M0 M Gs L O a w)(p:Nat)(hr:fn.results=#[.tmp t])(hl:(L++envO O).lookup t=some (dt y))(hs:(L++envO O).lookup s=some (dnm oo G' x v0 cf))(hG:∀ b,G' b->zj Gs p b)
  (hm:some (x,y)=some (xr,yr)) (hfl:Flat (dt y)):bodyPost P fn (RetS M0 w0 G v0 oo xr (.frz (dt yr))) .ret a w:=by
 injection hm with hm;injection hm with h1 h2;subst h1;subst h2;obtain⟨k1,⟨cs,k2,k3⟩,_⟩:=h.st.has s _ hs;exact⟨h.st.defers,_,cQ hr a.tmps P w,_,G',noB,Z,h.st.fr,λ b hb=>(h.ob.at_ p b (hG b hb)).1,λ _ h=>h.elim,λ _ _ h=>h,λ b hb=>hb.elim (λ hb=>h.st.mok b (h.ob.at_ p b (hG b hb)).2.1) λ h=>h.elim,
  ⟨cs,oo.weak k2 λ k _ hk=>hk.elim (λ hk=>hk.elim (h.ob.sub k) λ hk=>(h.ob.at_ p k (hG k hk)).2.1) λ h=>h.elim,k3⟩,hfl _ _ _ _ (h.st.has t _ hl),Z⟩
theorem Sx.ldW{ow:Ow α}{t:Nat}{x:Bx α}(h:Sx F N M0 M Gs L O a w)(p:Nat)
  (ks:List Nat)  (qs:List Nat)  
  (next:∀{a' w'},Sx F N M0 M Gs L2 ((d,p,dow ow G x.x)::O2) a' w'->wpList P ops Q rest a' w')(hh:opH o N=some d:=by rfl)(ho:o.op=.load t (.tmp sb):=by rfl)(hsl:(L++envO O).lookup sb=some (dnm ow.box G x v0 cf):=by rfl)(hp:p<Gs.length:=by simp)(hG:∀ b,G b->zj Gs p b:=by exact λ _ h=>h)(hk:selP ks L=some L2:=by rfl)(hq:selR L O qs p=some O2:=by rfl)(hdn:L2.lookup d=none:=by rfl)(ht:tyB P t (Rep.agg α) (Rep.size α)=true:=by kernel_rfl):wpList P ops Q (o::rest) a w:=by
 obtain⟨hgd,hd,hN⟩:=zQ hh;obtain⟨h1,⟨cs,⟨b,C,e,Gr,hc,hb,hGb,hn,hs,hro⟩,h3⟩,_⟩:=h.st.has sb _ hsl;have hrr:=ow.toR hro;have hc':∀ j u,C.toList[j]?=some u->w.cell? ⟨b,0+j,none⟩=some u:=λ j u hj=>by
  rw[aB];have:C[j]?=some u:=by simpa using hj
  simp[World.cell?,hb,this]
 have hld:=yH ht (Rep.len hrr) Rep.one hc';refine av hgd λ K hK=>OpOut.wp (OpOut.of_value (v:=mkv (Rep.agg α) C.toList) (w':=w) ?_ ?_)
 ·unfold execOp;rw[ho];have hev:a.eval (.tmp sb)=.pointer (some ⟨b,0,none⟩):=by
   have:Act.at a sb=.pointer (some ⟨b,0,none⟩):=by rw[h1,h3,hc];rfl
   exact this
  simp[Instr.loadAt,Instr.sureAddr,hev,hld]
 ·rw[hd];have h1:=h.mut hp (Grown.refl _ w) hk hq;exact hK _ _ (next (h1.putO hN hdn ⟨_,ow.more hro hs,Z⟩ λ b hb=>hG b hb))
end
variable{α β:Type}
theorem Ow.row_z[Rep α]{o:Ow α}(M:Nat->Prop)(w:World):(Ow.row e o).ro M noB w js []:=⟨_,Z,.inr ⟨Z,none,Z⟩⟩
theorem Ow.pr_z[Rep α][Rep β]{a:Ow α}{b:Ow β}{x:α}{y:β}(h1:a.ro M noB w c1 x)(h2:b.ro M noB w c2 y):(a.pr b).ro M noB w (c1++c2) (x,y):=⟨noB,noB,c1,c2,λ _ h=>h,λ _ h=>h,λ _ h=>h.elim,Z,h1,h2⟩
theorem FldW.zfst[Rep α][Rep β]:FldW (Ow.frz (α:=α×β)) (Ow.frz (α:=α)) (λ x:α×β=>x.1) (λ y x=>(y,x.2)) 0:=⟨λ{M G w cs x} ⟨c1,c2,h,h1,h2⟩=>by
 have hl:=Rep.len h1;have e1:(cs.drop 0).take (Rep.size α)=c1:=by rw[bN,h,← hl,cY]
 rw[e1];refine⟨noB,noB,λ _ h=>h.elim,λ _ h=>h.elim,λ _ _ h=>h,h1,λ{M' G3 G' w' c' y} hL hy _ _ _=>⟨c',c2,?_,hy,Rep.later h2 hL⟩⟩;rw[bU,bc,aB,h,← hl,bT]⟩
theorem FldW.zsnd{γ:Type}[Rep α][Rep β][Rep γ]{get:β->γ}{set:γ->β->β}(f:FldW (Ow.frz (α:=β)) (Ow.frz (α:=γ)) get set off):FldW (Ow.frz (α:=α×β)) (Ow.frz (α:=γ)) (λ x:α×β=>get x.2) (λ y x=>(x.1,set y x.2)) (Rep.size α+off):=⟨λ{M G w cs x} ⟨c1,c2,h,h1,h2⟩=>by
 have hl:=Rep.len h1;obtain⟨H1,H2,t1,t2,hd2,k1,k3⟩:=f.foc h2;have e1:cs.drop (Rep.size α+off)=c2.drop off:=by rw[h,← hl,← bG,bT]
 have e2:cs.drop (Rep.size α+off+Rep.size γ)=c2.drop (off+Rep.size γ):=by rw[h,← hl,bA,← bG,bT]
 have e3:cs.take (Rep.size α+off)=c1++c2.take off:=by
  rw[h,← hl,cg,aJ (by omega)]
  congr 2
  omega
 rw[e1];refine⟨H1,H2,t1,t2,hd2,k1,λ{M' G3 G' w' c' y} hL hy h3 h4 h5=>⟨c1,_,?_,Rep.later h1 hL,k3 hL hy h3 h4 h5⟩⟩;rw[e2,e3];simp⟩
theorem File.z4:FldW (Ow.frz (α:=File)) (Ow.frz (α:=Int)) (λ x:File=>x.stamp) (λ y x=>{ x with stamp:=y }) 4:=⟨λ h=>((FldW.zsnd (FldW.zsnd (FldW.zsnd (FldW.zsnd FldW.zfst))))).foc h⟩
theorem File.z5:FldW (Ow.frz (α:=File)) (Ow.frz (α:=List Stmt)) (λ x:File=>x.body) (λ y x=>{ x with body:=y }) 5:=⟨λ h=>((FldW.zsnd (FldW.zsnd (FldW.zsnd (FldW.zsnd (FldW.zsnd FldW.id)))))).foc h⟩
theorem Tree.z0:FldW (Ow.frz (α:=Tree)) (Ow.frz (α:=List File)) (λ x:Tree=>x.files) (λ y x=>{ x with files:=y }) 0:=⟨λ h=>(FldW.id).foc h⟩
theorem Dir.z2:FldW (Ow.frz (α:=Dir)) (Ow.frz (α:=Int)) (λ x:Dir=>x.stamp) (λ y x=>{ x with stamp:=y }) 2:=⟨λ h=>((FldW.zsnd (FldW.zsnd FldW.zfst))).foc h⟩
theorem Dir.z3:FldW (Ow.frz (α:=Dir)) (Ow.frz (α:=List Str)) (λ x:Dir=>x.names) (λ y x=>{ x with names:=y }) 3:=⟨λ h=>((FldW.zsnd (FldW.zsnd (FldW.zsnd FldW.id)))).foc h⟩
theorem Compiled.z7:FldW (Ow.frz (α:=Compiled)) (Ow.frz (α:=List Stmt)) (λ x:Compiled=>x.body) (λ y x=>{ x with body:=y }) 7:=⟨λ h=>((FldW.zsnd (FldW.zsnd (FldW.zsnd (FldW.zsnd (FldW.zsnd (FldW.zsnd (FldW.zsnd FldW.id)))))))).foc h⟩
theorem GAttr.z0:FldW (Ow.frz (α:=GAttr)) (Ow.frz (α:=Str)) (λ x:GAttr=>x.name) (λ y x=>{ x with name:=y }) 0:=⟨λ h=>(FldW.zfst).foc h⟩
theorem GAttr.z1:FldW (Ow.frz (α:=GAttr)) (Ow.frz (α:=GVal)) (λ x:GAttr=>x.value) (λ y x=>{ x with value:=y }) 1:=⟨λ h=>((FldW.zsnd FldW.id)).foc h⟩
@[reducible] def owFile (a5:Ow (List Stmt)):Ow File:=Ow.via (λ(x:File)=>((x.root,x.pkg,x.name,x.init,x.stamp,x.body):Int×Str×Str×Bool×Int×List Stmt)) (Ow.pr (Ow.frz (α:=Int)) (Ow.pr (Ow.frz (α:=Str)) (Ow.pr (Ow.frz (α:=Str)) (Ow.pr (Ow.frz (α:=Bool)) (Ow.pr (Ow.frz (α:=Int)) a5)))))
theorem owFile.f0:FldW (owFile a5) (Ow.frz (α:=Int)) (λ x:File=>x.root) (λ y x=>{ x with root:=y }) 0:=⟨λ h=>(FldW.fst).foc h⟩
theorem owFile.f1:FldW (owFile a5) (Ow.frz (α:=Str)) (λ x:File=>x.pkg) (λ y x=>{ x with pkg:=y }) 1:=⟨λ h=>((FldW.snd FldW.fst)).foc h⟩
theorem owFile.f2:FldW (owFile a5) (Ow.frz (α:=Str)) (λ x:File=>x.name) (λ y x=>{ x with name:=y }) 2:=⟨λ h=>((FldW.snd (FldW.snd FldW.fst))).foc h⟩
theorem owFile.f3:FldW (owFile a5) (Ow.frz (α:=Bool)) (λ x:File=>x.init) (λ y x=>{ x with init:=y }) 3:=⟨λ h=>((FldW.snd (FldW.snd (FldW.snd FldW.fst)))).foc h⟩
theorem owFile.f4:FldW (owFile a5) (Ow.frz (α:=Int)) (λ x:File=>x.stamp) (λ y x=>{ x with stamp:=y }) 4:=⟨λ h=>((FldW.snd (FldW.snd (FldW.snd (FldW.snd FldW.fst))))).foc h⟩
theorem owFile.f5:FldW (owFile a5) a5 (λ x:File=>x.body) (λ y x=>{ x with body:=y }) 5:=⟨λ h=>((FldW.snd (FldW.snd (FldW.snd (FldW.snd (FldW.snd FldW.id)))))).foc h⟩
theorem owFile.z(h5:∀ (M:Nat->Prop) (w:World),a5.ro M noB w js [])(M:Nat->Prop)(w:World):(owFile a5).ro M noB w zcFile zFile:=(Ow.pr_z (jR M w) (Ow.pr_z (Q1 M w) (Ow.pr_z (Q1 M w) (Ow.pr_z (zrBool M w) (Ow.pr_z (jR M w) (h5 M w))))))
@[reducible] def owTree (a0:Ow (List File)):Ow Tree:=Ow.via (λ(x:Tree)=>(x.files:List File)) a0
theorem owTree.f0{a0:Ow (List File)}:FldW (owTree a0) a0 (λ x:Tree=>x.files) (λ y x=>{ x with files:=y }) 0:=⟨λ h=>(FldW.id).foc h⟩
theorem owTree.z{a0:Ow (List File)}(h0:∀ (M:Nat->Prop) (w:World),a0.ro M noB w js [])(M:Nat->Prop)(w:World):(owTree a0).ro M noB w za5 je:=(h0 M w)
@[reducible] def owDir (a3:Ow (List Str)):Ow Dir:=Ow.via (λ(x:Dir)=>((x.root,x.pkg,x.stamp,x.names):Int×Str×Int×List Str)) (Ow.pr (Ow.frz (α:=Int)) (Ow.pr (Ow.frz (α:=Str)) (Ow.pr (Ow.frz (α:=Int)) a3)))
theorem owDir.f3:FldW (owDir a3) a3 (λ x:Dir=>x.names) (λ y x=>{ x with names:=y }) 3:=⟨λ h=>((FldW.snd (FldW.snd (FldW.snd FldW.id)))).foc h⟩
theorem owDir.z(h3:∀ (M:Nat->Prop) (w:World),a3.ro M noB w js [])(M:Nat->Prop)(w:World):(owDir a3).ro M noB w zcDir zDir:=(Ow.pr_z (jR M w) (Ow.pr_z (Q1 M w) (Ow.pr_z (jR M w) (h3 M w))))
@[reducible] def owDisk (a0:Ow (Tree)) (a2:Ow (List Dir)):Ow Disk:=Ow.via (λ(x:Disk)=>((x.tree,x.clock,x.dirs):Tree×Int×List Dir)) (Ow.pr a0 (Ow.pr (Ow.frz (α:=Int)) a2))
theorem owDisk.f1{a0:Ow (Tree)}:FldW (owDisk a0 a2) (Ow.frz (α:=Int)) (λ x:Disk=>x.clock) (λ y x=>{ x with clock:=y }) 1:=⟨λ h=>((FldW.snd FldW.fst)).foc h⟩
theorem owDisk.f2{a0:Ow (Tree)}:FldW (owDisk a0 a2) a2 (λ x:Disk=>x.dirs) (λ y x=>{ x with dirs:=y }) 2:=⟨λ h=>((FldW.snd (FldW.snd FldW.id))).foc h⟩
theorem owDisk.z{a0:Ow (Tree)}(h0:∀ (M:Nat->Prop) (w:World),a0.ro M noB w za5 je)(h2:∀ (M:Nat->Prop) (w:World),a2.ro M noB w js [])(M:Nat->Prop)(w:World):(owDisk a0 a2).ro M noB w zcDisk xB:=(Ow.pr_z (h0 M w) (Ow.pr_z (jR M w) (h2 M w)))
@[reducible] def owFinder (a0:Ow (List Dir)):Ow Finder:=Ow.via (λ(x:Finder)=>((x.dirs,x.fills,x.hits):List Dir×Int×Int)) (Ow.pr a0 (Ow.pr (Ow.frz (α:=Int)) (Ow.frz (α:=Int))))
theorem owFinder.f0:FldW (owFinder a0) a0 (λ x:Finder=>x.dirs) (λ y x=>{ x with dirs:=y }) 0:=⟨λ h=>(FldW.fst).foc h⟩
theorem owFinder.f1:FldW (owFinder a0) (Ow.frz (α:=Int)) (λ x:Finder=>x.fills) (λ y x=>{ x with fills:=y }) 1:=⟨λ h=>((FldW.snd FldW.fst)).foc h⟩
theorem owFinder.f2:FldW (owFinder a0) (Ow.frz (α:=Int)) (λ x:Finder=>x.hits) (λ y x=>{ x with hits:=y }) 2:=⟨λ h=>((FldW.snd (FldW.snd FldW.id))).foc h⟩
theorem owFinder.z(h0:∀ (M:Nat->Prop) (w:World),a0.ro M noB w js [])(M:Nat->Prop)(w:World):(owFinder a0).ro M noB w zc9 yZ:=(Ow.pr_z (h0 M w) (Ow.pr_z (jR M w) (jR M w)))
@[reducible] def owGAct (a1:Ow (File)):Ow GAct:=Ow.via (λ(x:GAct)=>((x.kind,x.file,x.index,x.name):Int×File×Int×Str)) (Ow.pr (Ow.frz (α:=Int)) (Ow.pr a1 (Ow.pr (Ow.frz (α:=Int)) (Ow.frz (α:=Str)))))
theorem owGAct.f0:FldW (owGAct a1) (Ow.frz (α:=Int)) (λ x:GAct=>x.kind) (λ y x=>{ x with kind:=y }) 0:=⟨λ h=>(FldW.fst).foc h⟩
theorem owGAct.f1:FldW (owGAct a1) a1 (λ x:GAct=>x.file) (λ y x=>{ x with file:=y }) 1:=⟨λ h=>((FldW.snd FldW.fst)).foc h⟩
theorem owGAct.f2:FldW (owGAct a1) (Ow.frz (α:=Int)) (λ x:GAct=>x.index) (λ y x=>{ x with index:=y }) 7:=⟨λ h=>((FldW.snd (FldW.snd FldW.fst))).foc h⟩
theorem owGAct.f3:FldW (owGAct a1) (Ow.frz (α:=Str)) (λ x:GAct=>x.name) (λ y x=>{ x with name:=y }) 8:=⟨λ h=>((FldW.snd (FldW.snd (FldW.snd FldW.id)))).foc h⟩
theorem owGAct.z(h1:∀ (M:Nat->Prop) (w:World),a1.ro M noB w zcFile zFile)(M:Nat->Prop)(w:World):(owGAct a1).ro M noB w zcGAct zGAct:=(Ow.pr_z (jR M w) (Ow.pr_z (h1 M w) (Ow.pr_z (jR M w) (Q1 M w))))
section
variable{T:Prop}
variable{α β γ:Type}[Rep α][Rep β][Rep γ]{look:Nat->Option Dt}
theorem FnN.fn{ow:Ow α}{y:α}(h:FnN P f xs (.ow ow y)):Fn P f xs (dt y):=λ M w vs hm hr=>(h M w vs hm hr).mono λ en w' ⟨v,G,he,hex,hG,⟨cs,h1,h2⟩⟩=>
 ⟨v,he,hex,⟨cs,Rep.weak (ow.toR h1) λ k hk hk2=>⟨.inl hk2,λ hg=>by have:=(hG k hg).1;have:=hm k hk2;omega⟩,h2⟩⟩
theorem tip_dow{xs:List α}(h:(dtip g e xs).rd M w v):(dow (Ow.row e Ow.frz) (oneB g) xs).rd M w v:=by
 rcases h with⟨cells,hown,hrow,hb⟩ | ⟨hg,hx,A,hv⟩
 ·rcases hown.2 with⟨h1,h2⟩ | ⟨b,cap,cur,h1,_,h3,h4,h5,h6,h7⟩
  ·have hx:xs=[]:=ar h2;exact⟨[v],⟨v,Z,.inr ⟨hx,none,h1⟩⟩,Z⟩
  ·have hgb:g=some b:=by rw[← hb,h1];rfl
   exact⟨[v],⟨v,Z,.inl ⟨b,cap,cur,noB,h1,h3,h4,h5,h6,hgb,λ h=>h,λ _ h=>h.elim,by rw[h7];exact J9 hrow⟩⟩,Z⟩
 ·exact⟨[v],⟨v,Z,.inr ⟨hx,A,hv⟩⟩,Z⟩
theorem dow_tip{xs:List α}(h:(dow (Ow.row e Ow.frz) G xs).rd M w v):∃ g,(∀ b,g=some b->G b)/\(dtip g e xs).rd M w v:=by
 obtain⟨cs,⟨u,rfl,h3⟩,h2⟩:=h;have hv:v=u:=h2;subst hv;rcases h3 with⟨g,cap,cur,Gr,hg,hh,h4,h5,h6,hG,hn,hs,hr⟩ | ⟨hx,A,hA⟩
 ·refine⟨some g,λ b hb=>by injection hb with hb;subst hb;exact hG,.inl ⟨_,⟨?_,.inr ⟨g,cap,cur,hg,ao _,hh,h4,h5,h6,Z⟩⟩,Jk hr,by rw[hg];rfl⟩⟩;exact zdj hr
 ·exact⟨none,⟨(λ b hb=>by cases hb),.inr ⟨rfl,hx,A,hA⟩⟩⟩
theorem FnOwn.n{ys:List α}(h:FnOwn P f xs e ys):FnN P f xs (.ow (Ow.row e Ow.frz) ys):=λ M w vs hm hr=>(h M w vs hm hr).mono λ en w' ⟨v,g,he,hex,hg,hv⟩=>
 ⟨v,oneB g,he,hex,λ b hb=>hg b hb,tip_dow ((dtip g e ys).weak hv λ k _ hk=>hk)⟩
theorem Sx.tipW{xs:List α}(h:Sx F N M0 M Gs L O a w)(p:Nat)(qs:List Nat)(hs:(L++envO O).lookup s=some (dtip g e xs):=by rfl)(hn:L.lookup s=none:=by rfl)(hG:∀ b,g=some b->zj Gs p b:=by exact λ _ h=>h)(hq:selR L O qs p=some O2:=by rfl):
  Sx F N M0 M Gs L ((s,p,dow (Ow.row e Ow.frz) (oneB g) xs)::O2) a w:=
 (h.drop hq).addO hn (tip_dow (h.st.has s _ hs)) hG
theorem Sx.shr{A:Nat->Prop}(h:Sx F N M0 M Gs L O a w)(hp:p<Gs.length)(hA:∀ b,A b->zj Gs p b)(hO:O.all (λ q=>q.2.1 != p)=true):Sx F N M0 M (Gs.set p A) L O a w:=by
 have key:∀ q b,zj (Gs.set p A) q b->zj Gs q b:=λ q b hb=>by
  by_cases h1:p=q
  ·subst h1;rw[zk hp] at hb;exact hA b hb
  ·rwa[zq h1] at hb
 refine h.regroup (λ q b hb=>⟨q,key q b hb⟩) (λ q r b hne h1 h2=>h.ob.apart q r b hne (key q b h1) (key r b h2)) λ q hq b hb=>?_
 have h2:q.2.1≠p:=by simpa using al.1 hO q hq
 rw[zq (bo h2)];exact h.ow.get q hq b hb
theorem Sx.tipR{xs:List α}(h:Sx F N M0 M Gs L O a w)(p:Nat)(hp:p<Gs.length)(qs:List Nat)
  (next:∀ g,Sx F N M0 M (Gs.set p (oneB g)) L ((s,p,dtip g e xs)::O2) a w->T)(hs:(L++envO O).lookup s=some (dow (Ow.row e Ow.frz) G xs):=by rfl)(hn:L.lookup s=none:=by rfl)(hG:∀ b,G b->zj Gs p b:=by exact λ _ h=>h)(hq:selR L O qs p=some O2:=by rfl)(hO:O2.all (λ q=>q.2.1 != p)=true:=by rfl):T:=by
 obtain⟨g,h1,h2⟩:=dow_tip (h.st.has s _ hs);exact next g (((h.drop hq).shr (p:=p) hp (λ b hb=>hG b (h1 b hb)) hO).addO hn h2 λ b hb=>by rw[zk hp];exact hb)
theorem Sx.ncf{ow:Ow α}{x:α}(h:Sx F N M0 M Gs L O a w)(p:Nat)(qs:List Nat)(hs:(L++envO O).lookup s=some (dnm ow G x v0 cf):=by rfl)(hn:L.lookup s=none:=by rfl)(hG:∀ b,G b->zj Gs p b:=by exact λ _ h=>h)(hq:selR L O qs p=some O2:=by rfl):
  Sx F N M0 M Gs L ((s,p,dnm ow G x v0 [])::O2) a w:=by
 obtain⟨h1,h2,_⟩:=h.st.has s _ hs;exact(h.drop hq).addO hn ⟨h1,h2,λ q hq _=>by cases hq⟩ hG
theorem Sx.frzW{ow:Ow α}{x:α}(h:Sx F N M0 M Gs L O a w)(p:Nat)(hs:(L++envO O).lookup s=some (dow ow G x))(ks:List Nat)(hk:selP ks L=some L2)(qs:List Nat)(hq:selR L O qs p=some O2)(hO:O2.all (λ q=>q.2.1 != p)=true)(hp:p<Gs.length:=by simp)(hG:∀ b,G b->zj Gs p b:=by exact λ _ h=>h):
  Sx F N M0 (λ b=>M b/\¬ zj Gs p b) (Gs.set p (oneB none)) ((s,dt x)::L2) O2 a w:=by
 have h1:=h.eff (G':=oneB none) hp (Grown.refl _ w) (λ b hb=>by cases hb) hk hq;have e:(λ b=>(M b/\¬ zj Gs p b)\/oneB none b)=λ b=>M b/\¬ zj Gs p b:=by
  funext b
  simp[oneB]
 rw[e] at h1;obtain⟨cs,k1,k2⟩:=h.st.has s _ hs;have hx:(dt x).rd (λ b=>M b/\¬ zj Gs p b) w (Act.at a s):=⟨cs,Rep.weak (ow.toR k1) λ k _ hk=>⟨hk.1,λ hg=>hk.2 (hG k hg)⟩,k2⟩;refine⟨⟨h1.st.fr,h1.st.size,h1.st.defers,h1.st.mok,λ s' y hy=>?_⟩,h1.ob,λ s' y hy=>?_,h1.ow⟩
 ·simp only[bL,ae] at hy;by_cases he:s'=s
  ·subst he;simp only[aW,Option.some.injEq] at hy;subst hy;exact hx
  ·have hb:(s' == s)=false:=by simpa using he
   simp only[hb] at hy;exact h1.st.has s' y hy
 ·simp only[ae] at hy;split at hy
  ·injection hy with hy;subst hy;rfl
  ·exact h1.no s' y hy
end
section
variable{α β γ:Type}[Rep α][Rep β][Rep γ]
def dfn1(P:Program)(g:α->Option β):Dt where
 rd M w v:=∃ (f:FuncId) (caps:List Value) (ds:List Dt),v=.func (.func f) #[] caps.toArray/\fnB P f=true/\RdAll M w caps ds/\(∀ x∈ds,x.nb=true)/\∀ x y,g x=some y->Fn P f (dt x::ds) (dt y)
 own:=noB
 nb:=true
 nob _ _ h:=h
 stable:=by
  rintro M w w' v ⟨f,caps,ds,hv,hf,hr,hn,hg⟩ e
  exact⟨f,caps,ds,hv,hf,hr.stable hn e,hn,hg⟩
 weak:=by
  rintro M M' w v ⟨f,caps,ds,hv,hf,hr,hn,hg⟩ e
  exact⟨f,caps,ds,hv,hf,hr.weak e,hn,hg⟩
def allNb'(ds:List Dt):Bool:=ds.all (λ x=>x.nb)
theorem zeF(h:allNb' ds=true):∀ x∈ds,x.nb=true:=λ x hx=>al.1 h x hx
variable{look:Nat->Option Dt}
theorem xMkF1{g:α->Option β}(ho:o.op=.makeFunc (.func f) #[] l.toArray)(hf:fnB P f=true)(hx:ArgsR M look l ds)(hn:allNb' ds=true)(hg:∀ x y,g x=some y->Fn P f (dt x::ds) (dt y)):OpRel P M look o (dfn1 P g):=
 zC λ a w _ hl=>by
  refine⟨.func (.func f) #[] (l.map a.eval).toArray,?_,f,_,ds,Z,hf,hx.all hl,zeF hn,hg⟩;unfold execOp;rw[ho];simp[Instr.makeFunc]
theorem xCaF1{s:Operand}{g:α->Option β}{x:α}{y:β}(ho:o.op=.call { callee:=.value s,args:=#[q],argTypes:=ts })(hs:OpdR M look s (dfn1 P g))(hq:OpdR M look q (dt x))(hg:g x=some y):OpRel P M look o (dt y):=
 λ a w hm hl=>by
  obtain⟨f,caps,ds,hv,hf,hr,hn,hk⟩:=hs w a hl;refine OpOut.of_enter (f:=f) (args:=(a.eval q::caps).toArray) (w':=w) ?_ ?_
  ·unfold execOp;rw[ho];simp[resolve,hv,Deferred.ofValue,invoke,xX hf]
  ·exact(hk x y hg M w _ hm (.cons (hq w a hl) hr)).mono λ e w' ⟨v,he,hx,hr⟩=>⟨v,he,hx,hr⟩
end
section
def RowV(w:World)(e:TypeId)(size:Nat)(v:Value)(n:Nat)(g:Option Nat)(cells:List Value):Prop:=
 (w.ownsRow 0 e size v n cells/\v.ownBlock=g)\/(g=none/\n=0/\cells=[]/\∃ A,v=.slice A 0 0)
theorem zed{size:Nat}{n m:Nat}{cells:List Value}(hel:elB P t e size bytes=true)(hpos:0<size)(hv:RowV w e size v n g cells)
  (hu:∃ A c,u=.slice A m c/\((m=0/\ycells=[])\/∃ b off,A=some ⟨b,off,none⟩/\CellsAt w b off ycells)) (hyl:ycells.length=m*size) (hyo:∀ c∈ycells,c.oneCell'=true)
  (hsz:(n+m)*bytes<=140737488355328) (hml:n+m<=maxLen):
  ∃ v' w' g',(Builtin.append_ #[t,t] ty #[v,u]).run P w=.ok v' w'/\RowV w' e size v' (n+m) g' (cells++ycells)/\w.grownBy w' g/\(g'=g\/∀ b,g'=some b->w.heap.size<=b)/\(∀ b,g'=some b->b<w'.heap.size):=by
 obtain⟨i,z,ht,hi,hz,hs1,hs2,hs3⟩:=J3 hel;obtain⟨A,c,hu',hc3⟩:=hu;subst hu';have hsl:∃ B cap,v=.slice B n cap/\n<=cap:=by
  rcases hv with⟨hown,_⟩ | ⟨_,h2,_,B,h3⟩
  ·rcases hown.2 with⟨h1,h2⟩ | ⟨b,cap,cur,h1,_,_,h4,_⟩
   ·exact⟨none,0,by rw[h1,h2],by omega⟩
   ·exact⟨_,cap,h1,h4⟩
  ·exact⟨B,0,by rw[h3,h2],by omega⟩
 have hvlt:∀ b,g=some b->b<w.heap.size:=λ b hb=>by
  rcases hv with⟨hown,hg⟩ | ⟨hg,_⟩
  ·exact(hown.lt b (by rw[hg,hb])).2
  ·rw[hg] at hb;cases hb
 by_cases hm0:m=0
 ·subst hm0;have hy:ycells=[]:=ar (by omega);subst hy;obtain⟨B,cap,hB,hcap⟩:=hsl;refine⟨v,w,g,?_,by rw[aM];exact hv,cM w _,.inl Z,hvlt⟩;rw[hB];cases A with
  | none=>exact XT ht hi B n cap c hcap
  | some ad=>exact YO ht hi B ad n cap c hcap
 rcases hc3 with⟨hy,_⟩ | ⟨b,off,hA,hyc⟩
 ·exact absurd hy hm0
 subst hA;have hycells:∀ j u,ycells[j]?=some u->w.cell? ((⟨b,off,none⟩:Addr).add j)=some u:=λ j u hj=>by rw[jq];exact hyc j u hj
 have own:w.ownsRow 0 e size v n cells->v.ownBlock=g->∃ v' w' g',(Builtin.append_ #[t,t] ty #[v,.slice (some ⟨b,off,none⟩) m c]).run P w=.ok v' w'/\RowV w' e size v' (n+m) g' (cells++ycells)/\w.grownBy w' g/\(g'=g\/∀ b,g'=some b->w.heap.size<=b)/\(∀ b,g'=some b->b<w'.heap.size):=by
  intro hown hg;obtain⟨v',w',hrun,hown',hgr,_,hat⟩:=run_append_own_at (w:=w) 0 t ty e i z size bytes ht hi hz hs1 hs2 hs3 hpos v n cells hown ⟨b,off,none⟩ m c ycells hyl hycells hyo hml hsz (ao _);have hg':v'.ownBlock=g\/∀ k,v'.ownBlock=some k->w.heap.size<=k:=hat.imp (λ h=>by rw[h,hg]) (λ h k hk=>by rw[h] at hk;injection hk with hk;omega);rw[hg] at hgr;exact⟨v',w',v'.ownBlock,hrun,.inl ⟨hown',Z⟩,hgr,hg',λ k hk=>(hown'.lt k hk).2⟩
 rcases hv with⟨hown,hg⟩ | ⟨hg0,hn0,hc0,B,hv0⟩
 ·exact own hown hg
 ·subst hg0 hn0 hc0 hv0;cases B with
  | none=>exact own (World.ownsRow_nil w 0 e _) Z
  |some b0=>
   obtain⟨v',w',hrun,hown',hgr⟩:=dI (w:=w) t ty e i z size bytes ht hi hz hs1 hs2 hs3 hpos b0 0 0 [] (by simp) (λ j u h=>by simp at h) ⟨b,off,none⟩ m c ycells hyl hycells (by omega) (by simpa using hml) (by simpa using hsz);have hg':v'.ownBlock=none\/∀ k,v'.ownBlock=some k->w.heap.size<=k:=.inr λ k hk=>(hown'.lt k hk).1
   refine⟨v',w',v'.ownBlock,hrun,.inl ⟨?_,Z⟩,hgr,hg',λ k hk=>(hown'.lt k hk).2⟩;simpa using zap hown' (ao _)
end
section
variable{T:Prop}
variable{α β γ:Type}[Rep α][Rep β][Rep γ]{look:Nat->Option Dt}
variable{oe:Ow α}{ys:List α}
theorem row_owns{xs:List α}(h:(dow (Ow.row e oe) G xs).rd M w v):∃ g cells Gr,RowV w e (Rep.size α) v xs.length g cells/\(∀ b,g=some b->G b/\¬ Gr b)/\(∀ b,Gr b->G b)/\rowW oe M Gr w cells xs:=by
 obtain⟨cs,⟨u,rfl,h3⟩,h2⟩:=h;have hv:=h2;subst hv;rcases h3 with⟨g,cap,cur,Gr,hg,hh,h4,h5,h6,hG,hn,hs,hr⟩ | ⟨hx,A,hA⟩
 ·exact⟨some g,_,Gr,.inl ⟨⟨zdj hr,.inr ⟨g,cap,cur,hg,ao _,hh,h4,h5,h6,Z⟩⟩,by rw[hg];rfl⟩,λ b hb=>by injection hb with hb;subst hb;exact⟨hG,hn⟩,hs,hr⟩
 ·exact⟨none,[],noB,.inr ⟨Z,by rw[hx];rfl,Z,A,hA⟩,λ b hb=>(by cases hb),λ _ h=>h.elim,by rw[hx];rfl⟩
theorem owns_row{xs:List α}{cells:List Value}(hv:RowV w e (Rep.size α) v xs.length g cells)(hg:∀ b,g=some b->G b/\¬ Gr b)(hs:∀ b,Gr b->G b)(hr:rowW oe M Gr w cells xs):(dow (Ow.row e oe) G xs).rd M w v:=by
 rcases hv with⟨hown,hb⟩ | ⟨_,hn,_,A,hA⟩
 ·rcases hown.2 with⟨h1,h2⟩ | ⟨b,cap,cur,h1,_,h3,h4,h5,h6,h7⟩
  ·exact⟨[v],⟨v,Z,.inr ⟨ar h2,none,h1⟩⟩,Z⟩
  ·have hgb:=hg b (by rw[← hb,h1];rfl);exact⟨[v],⟨v,Z,.inl ⟨b,cap,cur,Gr,h1,h3,h4,h5,h6,hgb.1,hgb.2,hs,by rw[h7];exact hr⟩⟩,Z⟩
 ·exact⟨[v],⟨v,Z,.inr ⟨ar hn,A,hA⟩⟩,Z⟩
theorem yW{x:α}(h:(dow oe G x).rd M w v):oe.ro M G w v.cells.toList x:=by
 obtain⟨cs,h1,h2⟩:=h;rw[h2,Zz (oe.toR h1)];exact h1
theorem Sx.appR{x:Nat}{xs r:List α}(h:Sx F N M0 M Gs L O a w)(p p2:Nat)(hh:opH o N=some d)
  (ho:o.op=.call { callee:=.builtin .append,args:=#[.tmp s,.tmp x],argTypes:=#[t,t] }) (hel:elB P t e (Rep.size α) bytes=true)
  (hs:(dow (Ow.row e oe) G1 xs).rd M w (Act.at a s)) (hx:(dow (Ow.row e2 oe) G2 ys).rd M w (Act.at a x)) (hp:p<Gs.length) (hp2:p2<Gs.length) (hne:p≠p2) (hG1:∀ b,G1 b->zj Gs p b) (hG2:∀ b,G2 b->zj Gs p2 b) (hm:appO bytes xs ys=some r)
  (ks:List Nat) (hk:selP ks L=some L2) (qs:List Nat) (hq:selR L O qs p=some O2) (hO:O2.all (λ q=>q.2.1 != p2)=true) (hdn:L2.lookup d=none)
  (next:∀ G' M' a' w',Sx F N M0 M' ((Gs.set p G').set p2 (oneB none)) L2 ((d,p,dow (Ow.row e oe) G' r)::O2) a' w'->wpList P ops Q rest a' w'):wpList P ops Q (o::rest) a w:=by
 obtain⟨hgd,hd,hN⟩:=zQ hh;unfold appO at hm;split at hm
 ·rename_i hsz;injection hm with hm;subst hm;obtain⟨g,cells,Gr,hv,hg,hs1,hr⟩:=row_owns hs;obtain⟨g2,ycells,Gr2,hv2,hg2,hs2,hr2⟩:=row_owns hx;have hu:∃ A c,Act.at a x=.slice A ys.length c/\((ys.length=0/\ycells=[])\/∃ b off,A=some ⟨b,off,none⟩/\CellsAt w b off ycells):=by
   rcases hv2 with⟨hown,hb⟩ | ⟨_,hn,hc,A,hA⟩
   ·rcases hown.2 with⟨h1,h2⟩ | ⟨b,cap,cur,h1,_,h3,h4,h5,h6,h7⟩
    ·exact⟨none,0,by rw[h1,h2],.inl ⟨h2,ar (by rw[hown.1,h2];simp)⟩⟩
    ·refine⟨_,cap,h1,.inr ⟨b,0,Z,λ j u hj=>?_⟩⟩;have:=hown.cells (by rw[h1];rfl) j u hj;rwa[jq] at this
   ·exact⟨A,0,by rw[hA,hn],.inl ⟨hn,hc⟩⟩
  obtain⟨v',w',g',hrun,hv',hgr,hg',hlt⟩:=zed (ty:=o.type) hel Rep.pos hv hu (zdj hr2) (JF (zba hr2)) hsz.1 (by unfold maxLen;omega);have hgr':Grown _ w w':=(Grown.of_grownBy hgr).mono λ b hb=>hG1 b (hg b hb).1
  refine av hgd λ K hK=>OpOut.wp (OpOut.of_value (v:=v') (w':=w') ?_ ?_)
  ·unfold execOp;simp[ho,resolve,invoke,builtin,an,au,ah,Act.eval_tmp,hrun]
  ·rw[hd];have hown:∀ b,g'=some b->zj Gs p b\/w.heap.size<=b:=λ b hb=>hg'.elim (λ e=>.inl (hG1 b (hg b (by rw[← e];exact hb)).1)) λ e=>.inr (e b hb)
   have h1:=h.eff (G':=λ b=>zj Gs p b\/g'=some b) hp hgr' (λ b hb=>⟨hb.elim .inl (hown b),hb.elim (λ hb=>ax (h.st.mok b (h.ob.at_ p b hb).2.1) hgr.size) (hlt b)⟩) hk hq;have h2:=h1.mrg (by simpa using hp) (by simpa using hp2) hne hO;have e1:JB (Gs.set p (λ b=>zj Gs p b\/g'=some b)) p p2=(Gs.set p (λ b=>(zj Gs p b\/g'=some b)\/zj Gs p2 b)).set p2 (oneB none):=by
    unfold JB;rw[dE]
    congr 2
    funext b
    rw[zk hp,zq hne]
   rw[e1] at h2;have hlt1:=λ b hb=>h.st.mok b (h.ob.at_ p b hb).2.1
   have hlt2:=λ b hb=>h.st.mok b (h.ob.at_ p2 b hb).2.1
   have hL:∀ G5:Nat->Prop,(∀ b,G5 b->b<w.heap.size/\g≠some b)->Later M G5 w (λ b=>(M b/\¬ zj Gs p b)\/(zj Gs p b\/g'=some b)) w':=λ G5 h5=>⟨λ k hk hm=>by
    rcases hm with hm | hm | hm
    ·exact hm.1
    ·exact(h.ob.at_ p k hm).2.1
    ·rcases hown k hm with e | e
     ·exact(h.ob.at_ p k e).2.1
     ·omega,λ k hk hm=>hgr.block k hk λ e=>by
    rcases hm with hm | hm
    ·exact hm (h.ob.at_ p k (hG1 k (hg k e.symm).1)).2.1
    ·exact(h5 k hm).2 e.symm⟩
   have hgr1:=λ b hb e=>(hg b e).2 hb
   have hgr2:=λ b hb e=>h.ob.apart p p2 b hne (hG1 b (hg b e).1) (hG2 b (hs2 b hb))
   have hrow:=zbb (G:=λ b=>Gr b\/Gr2 b) (J8 hr (hL Gr λ b hb=>⟨hlt1 b (hG1 b (hs1 b hb)),hgr1 b hb⟩)) (J8 hr2 (hL Gr2 λ b hb=>⟨hlt2 b (hG2 b (hs2 b hb)),hgr2 b hb⟩)) (λ _ h=>.inl h) (λ _ h=>.inr h) λ b hb hb2=>h.ob.apart p p2 b hne (hG1 b (hs1 b hb)) (hG2 b (hs2 b hb2))
   have hfin:=owns_row (G:=λ b=>(zj Gs p b\/g'=some b)\/zj Gs p2 b) (by rw[ap];exact hv') (λ b hb=>⟨.inl (.inr hb),λ h3=>by
    rcases h3 with h3 | h3
    ·rcases hg' with e | e
     ·exact(hg b (by rw[← e];exact hb)).2 h3
     ·have:=e b hb;have:=hlt1 b (hG1 b (hs1 b h3));omega
    ·rcases hg' with e | e
     ·exact hgr2 b h3 (by rw[← e];exact hb)
     ·have:=e b hb;have:=hlt2 b (hG2 b (hs2 b h3));omega⟩) (λ b hb=>hb.elim (λ h=>.inl (.inl (hG1 b (hs1 b h)))) λ h=>.inr (hG2 b (hs2 b h))) hrow
   exact hK _ _ (next _ _ _ _ (h2.putO hN hdn hfin λ b hb=>by rw[zq (bo hne),zk hp];exact hb))
 ·cases hm
theorem Sx.appW{x:Nat}{xs r:List α}(h:Sx F N M0 M Gs L O a w)(p p2:Nat)
   
         (hm:appO bytes xs ys=some r)
  (ks:List Nat)  (qs:List Nat)   
  (next:∀ G' M' a' w',Sx F N M0 M' ((Gs.set p G').set p2 (oneB none)) L2 ((d,p,dow (Ow.row e oe) G' r)::O2) a' w'->wpList P ops Q rest a' w')(hh:opH o N=some d:=by rfl)(ho:o.op=.call { callee:=.builtin .append,args:=#[.tmp s,.tmp x],argTypes:=#[t,t] }:=by rfl)(hs:(L++envO O).lookup s=some (dow (Ow.row e oe) G1 xs):=by rfl)(hx:(L++envO O).lookup x=some (dow (Ow.row e2 oe) G2 ys):=by rfl)(hp:p<Gs.length:=by simp)(hp2:p2<Gs.length:=by simp)(hne:p≠p2:=by decide)(hG1:∀ b,G1 b->zj Gs p b:=by exact λ _ h=>h)(hG2:∀ b,G2 b->zj Gs p2 b:=by exact λ _ h=>h)(hk:selP ks L=some L2:=by rfl)(hq:selR L O qs p=some O2:=by rfl)(hO:O2.all (λ q=>q.2.1 != p2)=true:=by rfl)(hdn:L2.lookup d=none:=by rfl)(hel:elB P t e (Rep.size α) bytes=true:=by kernel_rfl):wpList P ops Q (o::rest) a w:=
 h.appR p p2 hh ho hel (h.st.has s _ hs) (h.st.has x _ hx) hp hp2 hne hG1 hG2 hm ks hk qs hq hO hdn next
def Wd(Gs:List (Nat->Prop)):List Nat->List (Nat->Prop)
 | []=>Gs
 | q::ps=>Wd (Gs.set q (oneB none)) ps
theorem zav:∀ {ps:List Nat} {Gs:List (Nat->Prop)},(Wd Gs ps).length=Gs.length
 | [],_=>rfl
 | q::ps,Gs=>by unfold Wd;rw[zav];simp
theorem zeG:∀ {ps:List Nat} {Gs:List (Nat->Prop)} {q b:Nat},zj (Wd Gs ps) q b->zj Gs q b/\q ∉ ps
 | [],Gs,q,b,h=>⟨h,by simp⟩
 |k::ps,Gs,q,b,h=>by
  unfold Wd at h;obtain⟨h1,h2⟩:=zeG h;by_cases hk:k=q
  ·subst hk
   exfalso
   unfold zj at h1;by_cases hl:k<Gs.length
   ·rw[aU hl] at h1;cases h1
   ·rw[bp (by simp;omega)] at h1;exact h1
  ·rw[zq hk] at h1;exact⟨h1,λ hm=>(am.1 hm).elim (λ e=>hk e.symm) h2⟩
theorem zdk:∀ {ps:List Nat} {Gs:List (Nat->Prop)} {q b:Nat},zj Gs q b->q ∉ ps->zj (Wd Gs ps) q b
 | [],_,_,_,h,_=>h
 |k::ps,Gs,q,b,h,hn=>by
  unfold Wd;refine zdk ?_ λ hm=>hn (bM _ hm)
  rw[zq (show k≠q from λ e=>hn (by rw[← e];exact bK ..))];exact h
theorem Sx.gather(h:Sx F N M0 M Gs L O a w)(p:Nat)(ps:List Nat)(hp:p<Gs.length)(hO:O.all (λ q=>q.2.1 != p&&!(ps.contains q.2.1))=true):Sx F N M0 M ((Wd Gs ps).set p (λ b=>∃ q∈ps,zj Gs q b)) L O a w:=by
 have hp':p<(Wd Gs ps).length:=by rw[zav];exact hp
 have key:∀ q b,zj _ q b->(q=p/\∃ q'∈ps,zj Gs q' b)\/(q≠p/\q ∉ ps/\zj Gs q b):=λ q b hb=>by
  by_cases hq:p=q
  ·subst hq;rw[zk hp'] at hb;exact .inl ⟨Z,hb⟩
  ·rw[zq hq] at hb;obtain⟨h1,h2⟩:=zeG hb;exact .inr ⟨bo hq,h2,h1⟩
 refine h.regroup (λ q b hb=>?_) (λ q r b hqr h1 h2=>?_) λ q hq b hb=>?_
 ·rcases key q b hb with⟨_,q',_,h1⟩ | ⟨_,_,h1⟩
  ·exact⟨q',h1⟩
  ·exact⟨q,h1⟩
 ·rcases key q b h1 with⟨e1,q',m1,k1⟩ | ⟨n1,m1,k1⟩ <;> rcases key r b h2 with⟨e2,r',m2,k2⟩ | ⟨n2,m2,k2⟩
  ·exact hqr (e1.trans e2.symm)
  ·exact h.ob.apart q' r b (λ e=>m2 (e ▸ m1)) k1 k2
  ·exact h.ob.apart q r' b (λ e=>m1 (e ▸ m2)) k1 k2
  ·exact h.ob.apart q r b hqr k1 k2
 ·have h1:=h.ow.get q hq b hb;have h2:=al.1 hO q hq;simp at h2;rw[zq (bo h2.1)];exact zdk h1 h2.2
theorem Sx.bldW{ow:Ow α}{zs:List (List Value)}{parts:List (Nat×Operand)}{x:α}(h:Sx F N M0 M Gs L O a w)(p:Nat)(ps:List Nat)
  (hs:∀ q∈parts,q.1<ns.length/\(a.eval q.2).cells.toList.length=ns.getD q.1 0)
  (hx:ow.ro M (λ b=>∃ q∈ps,zj Gs q b) w ((parts.foldl (λ l q=>l.set q.1 (a.eval q.2).cells.toList) zs).flatten) x) 
  (ks:List Nat)  (qs:List Nat)   
  (next:∀{G' a' w'},Sx F N M0 M ((Wd Gs ps).set p G') L2 ((d,p,dow ow G' x)::O2) a' w'->wpList P ops Q rest a' w')(hh:opH o N=some d:=by rfl)(hagg:Rep.agg α=true:=by rfl)(ho:o.op=.build t parts.toArray:=by rfl)(hp:p<Gs.length:=by simp)(hk:selP ks L=some L2:=by rfl)(hq:selR L O qs p=some O2:=by rfl)(hO:O2.all (λ q=>q.2.1 != p&&!(ps.contains q.2.1))=true:=by rfl)(hdn:L2.lookup d=none:=by rfl)(hb:bldB P t ns=true:=by kernel_rfl)(hz:Zg P t ns=some zs:=by kernel_rfl):wpList P ops Q (o::rest) a w:=by
 obtain⟨hgd,hd,hN⟩:=zQ hh;obtain⟨cells,h1,h2⟩:=zd4 (parts:=parts.map λ p=>(p.1,a.eval p.2)) hb hz (λ q hq=>by
  obtain⟨r,hr,rfl⟩:=bg.1 hq;have:=hs r hr;exact⟨this.1,by simpa using this.2⟩) w
 refine av hgd λ K hK=>OpOut.wp (OpOut.of_value (v:=.agg cells) (w':=w) ?_ ?_)
 ·unfold execOp;rw[ho];have e:(parts.toArray.map λ p:Nat×Operand=>(p.1,a.eval p.2))=(parts.map λ p=>(p.1,a.eval p.2)).toArray:=by simp
  simp[e,an,h1,ah,au]
 ·rw[hd];have k1:=((h.mut hp (Grown.refl _ w) hk hq).gather p ps hp hO);refine hK _ _ (next (k1.putO hN hdn ⟨cells.toList,?_,by rw[hagg];rfl⟩ λ b hb=>by rw[zk (by rw[zav];exact hp)];exact hb));rw[h2,dJ];exact hx
theorem Sx.litW{n:Nat}{parts:Array (Nat×Operand)}{xs:List α}(h:Sx F N M0 M Gs L O a w)(p:Nat)(ps:List Nat)(ht':sliB P t e (Rep.size α)=true)(hz':zlB P t=true)
      
  (hx:rowW oe M (λ b=>∃ q∈ps,zj Gs q b) w ((opds.map λ q=>(a.eval q).cells.toList).flatten) xs) (hlen:∀ q∈opds,(a.eval q).cells.toList.length=Rep.size α) 
  (ks:List Nat)  (qs:List Nat)   
   (next:∀{G' M' a' w'},Sx F N M0 M' ((Wd (Gs.set p (oneB none)) ps).set p G') L2 ((d,p,dow (Ow.row e oe) G' xs)::O2) a' w'->wpList P ops Q rest a' w')(hh:opH o N=some d:=by rfl)(ho:o.op=.buildSlice t n parts:=by rfl)(hpa:parts=(opds.zipIdx.map λ p=>(p.2,p.1)).toArray:=by rfl)(hn:n=opds.length:=by rfl)(hsz:opds.length*Rep.size α<=16777216:=by decide)(hl:opds.length=xs.length:=by rfl)(h0:0<opds.length:=by decide)(hp:p<Gs.length:=by simp)(hk:selP ks L=some L2:=by rfl)(hq:selR L O qs p=some O2:=by rfl)(hO:O2.all (λ q=>q.2.1 != p&&!(ps.contains q.2.1))=true:=by rfl)(hdn:L2.lookup d=none:=by rfl)(hpp:p ∉ ps:=by decide):wpList P ops Q (o::rest) a w:=by
 obtain⟨hgd,hd,hN⟩:=zQ hh;obtain⟨ti,z,h1,h2⟩:=zlB_spec hz' ht';obtain⟨cells,g1,g2⟩:=J1 (parts:=opds.map a.eval) ht' h1 h2 (by simpa using hsz) (λ v hv=>by
  obtain⟨opd,hopd,rfl⟩:=bg.1 hv;simpa using hlen opd hopd) w
 have he:Ext0 w (w.alloc (.cells cells e)):=Ext0.alloc _ _;refine av hgd λ K hK=>OpOut.wp (OpOut.of_value (w':=w.alloc (.cells cells e)) (v:=.slice (some ⟨w.heap.size,0,none⟩) xs.length xs.length) ?_ ?_)
 ·unfold execOp;rw[ho];have e1:(parts.map λ p:Nat×Operand=>(p.1,a.eval p.2))=(((opds.map a.eval).zipIdx).map λ p=>(p.2,p.1)).toArray:=by
   rw[hpa];simp[eh]
  simp at g1;rw[hl] at g1;simp[e1,hn,an,g1,ah,au,hl]
 ·rw[hd];have k1:=h.eff (G':=oneB _) hp ((Grown.of_ext he).mono λ b hb=>hb.elim) (λ b (hb:some w.heap.size=some b)=>by injection hb with hb;subst hb;exact⟨.inr (ak _),by simp⟩) hk hq;have k2:=k1.gather p (p::ps) (by simpa using hp) (by
   rw[al] at hO ⊢;intro q hq;have h3:=hO q hq;simp only[bne_iff_ne,ne_eq,af,cw,List.contains_eq_mem,decide_eq_false_iff_not,am,not_or] at h3 ⊢;exact⟨h3.1,h3.1,h3.2⟩)
  have e2:Wd (Gs.set p (oneB (some w.heap.size))) (p::ps)=Wd (Gs.set p (oneB none)) ps:=by
   show Wd _ ps=_;rw[dE]
  rw[e2] at k2;have hlt:∀ b,(∃ q∈ps,zj Gs q b)->b<w.heap.size:=λ b ⟨q,_,hb⟩=>h.st.mok b (h.ob.at_ q b hb).2.1
  have hup:∀ b,(∃ q∈ps,zj Gs q b)->∃ q∈p::ps,zj (Gs.set p (oneB (some w.heap.size))) q b:=λ b ⟨q,hm,hb⟩=>⟨q,bM _ hm,by rw[zq (show p≠q from λ e=>hpp (by rw[e];exact hm))];exact hb⟩
  have hL:Later M (λ b=>∃ q∈ps,zj Gs q b) w (λ b=>(M b/\¬ zj Gs p b)\/oneB _ b) _:=⟨λ k hk hm=>hm.elim (λ h=>h.1) λ(h:some w.heap.size=some k)=>by injection h with h;omega,λ k hk _=>he.block k hk⟩;have e3:((opds.map a.eval).map λ v=>v.cells.toList)=opds.map λ q=>(a.eval q).cells.toList:=by rw[cV];rfl
  rw[e3] at g2;have hcl:cells.toList.length=xs.length*Rep.size α:=by rw[g2];exact zdj hx
  refine hK _ _ (next (k2.putO hN hdn ?_ λ b hb=>by rw[zk (by rw[zav];simpa using hp)];exact hb));refine⟨_,⟨_,Z,.inl ⟨w.heap.size,xs.length,cells,λ b=>∃ q∈ps,zj Gs q b,Z,cZ w _,ak _,?_,?_,⟨p,bK ..,by rw[zk hp];rfl⟩,λ h3=>cJ _ (hlt _ h3),hup,?_⟩⟩,Z⟩
  ·have:=Rep.pos (α:=α);rw[← hl];have h5:opds.length<=opds.length*Rep.size α:=dn _ this;exact aQ h5 (aQ hsz (by decide))
  ·rw[← hcl];simp
  ·rw[← hcl,aL,g2];exact J8 hx hL
end
theorem Later.in_heap(l:Later M G w M' w')(hk:k<w.heap.size)(h:¬ M k\/G k):k<w'.heap.size:=heap_kept hk (l.same k hk h)
theorem Later.trans{M1 M2 M3 G:Nat->Prop}{w1 w2 w3:World}(l1:Later M1 G w1 M2 w2)(l2:Later M2 G w2 M3 w3):Later M1 G w1 M3 w3:=
 ⟨λ k hk hm=>by
  by_cases h:M1 k
  ·exact h
  ·exact l1.weak k hk (l2.weak k (l1.in_heap hk (.inl h)) hm),
  λ k hk hm=>(l2.same k (l1.in_heap hk hm) (hm.imp (λ h e=>h (l1.weak k hk e)) id)).trans (l1.same k hk hm)⟩
section
variable{α β:Type}[Rep α][Rep β]
def dhl(ow:Ow α)(oy:Ow β)(G:Nat->Prop)(v0:Value)(b off:Nat)(upd:β->α):Dt where
 rd M w v:=v=v0/\∃ (wb:World) (Mb G2:Nat->Prop) (cs:List Value) (C:Array Value) (e:TypeId),v0=mkv (Rep.agg α) cs/\Later Mb (λ k=>k=b\/G2 k) wb M w/\G b/\¬ G2 b/\(∀ k,G2 k->G k)/\wb.heap[b]?=some (.cells C e (0,0))/\off+Rep.size β<=C.size/\
  ∀
   {M' G1' G'':Nat->Prop} {w':World} {c':List Value} {y':β},Later Mb G2 wb M' w'->w'.heap[b]?=some (.cells (C.toList.take off++c'++C.toList.drop (off+Rep.size β)).toArray e (0,0))->oy.ro M' G1' w' c' y'->¬ G1' b->(∀ k,G1' k->¬ G2 k)->
   G'' b->(∀ k,G1' k->G'' k)->(∀ k,G2 k->G'' k)->ow.ro M' G'' w' cs (upd y')
 own:=G
 nb:=false
 nob h:=by cases h
 stable:=by
  rintro M w w1 v ⟨h1,wb,Mb,G2,cs,C,e,h2,hL,h5,h6,h7,h8,h9,put⟩ k
  refine⟨h1,wb,Mb,G2,cs,C,e,h2,hL.trans ⟨λ _ _ h=>h,λ i hi hm=>k i hi (hm.imp id λ hm=>?_)⟩,h5,h6,h7,h8,h9,put⟩;rcases hm with rfl | hm
  ·exact h5
  ·exact h7 i hm
 weak:=by
  rintro M M1 w v ⟨h1,wb,Mb,G2,cs,C,e,h2,hL,h5,h6,h7,h8,h9,put⟩ k
  exact⟨h1,wb,Mb,G2,cs,C,e,h2,hL.trans ⟨λ i hi hm=>k i hi hm,λ _ _ _=>Z⟩,h5,h6,h7,h8,h9,put⟩
end
section
variable{T:Prop}
variable{α β γ:Type}[Rep α][Rep β][Rep γ]{look:Nat->Option Dt}
variable{oy:Ow β}
theorem zbc{ow:Ow α}{upd:β->α}(h:look s=some (dhl ow oy G v0 b off upd)):OpdR M look (.tmp s) (dis v0):=λ _ _ hl=>(hl s _ h).1
theorem Sx.stH{ow:Ow α}{t q:Nat}{y':β}{upd:β->α}(h:Sx F N M0 M Gs L O a w)(p p2:Nat)(ho:o.op=.store t (.tmp q) (.tmp tv))(hgd:o.guard=none)(hd:o.dst=none)
  (ht:tyB P t (Rep.agg β) (Rep.size β)=true) (hp:p<Gs.length) (hp2:p2<Gs.length) (hne:p≠p2) (hpl:OpdR M (λ s=>(L++envO O).lookup s) (.tmp q) (dis (.pointer (some ⟨b,off,none⟩)))) (hvl:(L++envO O).lookup tv=some (dow oy G3 y')) (hs:(L++envO O).lookup sb=some (dhl ow oy G v0 b off upd)) (hG:∀ b,G b->zj Gs p b) (hG3:∀ b,G3 b->zj Gs p2 b)
  (ks:List Nat) (hk:selP ks L=some L2) (qs:List Nat) (hq:selR L O qs p=some O2) (hq2:O2.all (λ q=>q.2.1 != p2)=true) (hdn:L2.lookup sb=none)
  (next:∀ G' w',Sx F N M0 M ((Gs.set p G').set p2 (oneB none)) L2 ((sb,p,dnm ow G' (upd y') v0 [])::O2) a w'->wpList P ops Q rest a w'):wpList P ops Q (o::rest) a w:=by
 obtain⟨cy,hy,hyv⟩:=h.st.has tv _ hvl;have hcl:=oy.len hy;have hone:=oy.one hy;have hcv:(Act.at a tv).cells.toList=cy:=by rw[hyv];exact Zz (oy.toR hy)
 obtain⟨h1,wb,Mb,G2,cs,C,e,h3,hL,hGb,n2,s2,hhb,hsz,put⟩:=h.st.has sb _ hs;have hqv:=hpl w a λ s y hs=>h.st.has s y hs
 have hob:=hG b hGb;have hMb:=(h.ob.at_ p b hob).2.1;have hh':w.heap[b]?=some (.cells C e (0,0)):=by rw[hL.same b (xG hhb) (.inr (.inl Z))];exact hhb
 have hrun:=xy (by rw[hcl];exact ht) hcv hh' (by rw[hcl];exact hsz) hone;have hgr:w.grownBy (w.setRow b (C.toList.take off++cy++C.toList.drop (off+cy.length)).toArray) _:=yU;have hgr':=Grown.of_grownBy hgr;have nb3:=λ h3=>h.ob.apart p p2 b hne hob (hG3 b h3)
 have hL2:∀ G5:Nat->Prop,¬ G5 b->Later M G5 w M _:=λ G5 hn5=>⟨λ _ _ h=>h,λ k _ hm=>hgr'.block k (by assumption) λ(h1:some b=some k)=>by
  injection h1 with h1;subst h1;exact hm.elim (λ hm=>hm hMb) hn5⟩
 refine av hgd λ K hK=>OpOut.wp (OpOut.of_skip (w':=w.setRow b (C.toList.take off++cy++C.toList.drop (off+cy.length)).toArray) ?_ ?_)
 ·unfold execOp;rw[ho];have hpv':a.eval (.tmp q)=.pointer _:=hqv;simp[Instr.storeAt,Instr.sureAddr,hpv',Act.eval_tmp,an,au,ah,hrun]
 ·rw[hd];have k1:=(h.mut hp (hgr'.mono λ i (hi:some b=some i)=>by injection hi with hi;rw[← hi];exact hob) hk hq).mrg hp hp2 hne hq2;have e1:JB Gs p p2=(Gs.set p (λ b=>zj Gs p b\/zj Gs p2 b)).set p2 _:=rfl;rw[e1] at k1;have hw':=ce w b C (C.toList.take off++cy++C.toList.drop (off+cy.length)).toArray e _ hh';refine hK _ _ (next _ _ (k1.addO hdn ⟨h1,⟨cs,?_,h3⟩,λ q hq _=>by cases hq⟩ λ c hc=>?_))
  ·refine put ((hL.sub λ _ h=>.inr h).trans (hL2 G2 n2)) ?_ (oy.later hy (hL2 G3 nb3)) nb3 (λ k hk hk2=>h.ob.apart p p2 k hne (hG k (s2 k hk2)) (hG3 k hk)) (.inl hob) (λ k hk=>.inr (hG3 k hk)) λ k hk=>.inl (hG k (s2 k hk))
   rw[hw',hcl]
  ·rw[zq (bo hne),zk hp];exact hc
def Thin(o o':Ow α):Prop:=∀ {M G:Nat->Prop} {w:World} {cs:List Value} {x:α},o.ro M G w cs x->∃ G',(∀ b,G' b->G b)/\o'.ro (λ k=>M k/\(¬ G k\/G' k)) G' w cs x
theorem thin_row{o:Ow α}:Thin (Ow.row e o) (Ow.row e Ow.frz):=λ{M G w cs x} ⟨v,hv,h⟩=>by
 rcases h with⟨g,cap,cur,Gr,hg,hh,h4,h5,h6,hG,hn,hs,hr⟩ | ⟨hx,A,hA⟩
 ·refine⟨oneB _,λ b (hb:some g=some b)=>by injection hb with hb;exact hb ▸ hG,v,hv,.inl ⟨g,cap,cur,noB,hg,hh,h4,h5,h6,Z,λ h=>h,λ _ h=>h.elim,J9 (wE (λ k _ hk=>⟨hk.1,λ hr=>?_⟩) (zba hr))⟩⟩;rcases hk.2 with h7 | h7
  ·exact h7 (hs k hr)
  ·have:g=k:=by injection h7
   exact hn (this ▸ hr)
 ·exact⟨noB,λ _ h=>h.elim,v,hv,.inr ⟨hx,A,hA⟩⟩
theorem Sx.frzB{ow:Ow α}{x:Bx α}(h:Sx F N M0 M Gs L O a w)(p:Nat)(ks:List Nat)(qs:List Nat)(hs:(L++envO O).lookup s=some (dow ow.box G x):=by rfl)(hp:p<Gs.length:=by simp)(hG:∀ b,G b->zj Gs p b:=by exact λ _ h=>h)(hk:selP ks L=some L2:=by rfl)(hq:selR L O qs p=some O2:=by rfl)(hO:O2.all (λ q=>q.2.1 != p)=true:=by rfl):
  Sx F N M0 (λ b=>M b/\¬ zj Gs p b) (Gs.set p (oneB none)) ((s,dptr x.x)::L2) O2 a w:=by
 have h1:=h.frzW p hs (hp:=hp) (hG:=hG) ks hk qs hq hO;refine⟨⟨h1.st.fr,h1.st.size,h1.st.defers,h1.st.mok,λ s' y hy=>?_⟩,h1.ob,λ s' y hy=>?_,h1.ow⟩
 ·have h2:=h1.st.has s';simp only[bL,ae] at hy h2;cases hb:s' == s with
  |true=>simp only[hb] at hy h2;injection hy with hy;subst hy;exact bx_ptr.1 (h2 _ Z)
  |false=>simp[hb] at hy h2;exact h2 y hy
 ·have h2:=h1.no s';simp only[ae] at hy h2;cases hb:s' == s with
  | true=>simp only[hb] at hy;injection hy with hy;subst hy;rfl
  | false=>simp[hb] at hy h2;exact h2 y hy
theorem xNc{A:Addr}(ho:o.op=.nilCheck q)(hq:OpdR M look q (dis (.pointer (some A)))):OpRel P M look o (dis (.pointer (some A))):=
 zC λ a w _ hl=>by
  have hv:a.eval q=_:=hq w a hl;refine⟨_,?_,Z⟩;unfold execOp;rw[ho];simp[hv]
theorem xNcN{ow:Ow α}{x:α}{A:Addr}(ho:o.op=.nilCheck (.tmp s))(hs:look s=some (dnm ow G x (.pointer (some A)) cf)):OpRel P M look o (dnm ow G x (.pointer (some A)) cf):=
 zC λ a w _ hl=>by
  have h:=hl s _ hs;have hv:a.eval (.tmp s)=.pointer _:=h.1;refine⟨a.eval (.tmp s),?_,h⟩;unfold execOp;rw[ho];simp[hv]
theorem xNcP{x:α}(ho:o.op=.nilCheck q)(hq:OpdR M look q (dptr x)):OpRel P M look o (dptr x):=
 zC λ a w _ hl=>by
  have h:=hq w a hl;refine⟨a.eval q,?_,h⟩;obtain⟨b,off,cs,hv,_⟩:=h;unfold execOp;rw[ho];simp[hv]
def cvI(P:Program)(src dst:TypeId):Bool:=(P.underlying src).isSome&&(match P.underlying dst with | some (.int .i64)=>true | _=>false)
theorem xCvI{x:Operand}{n:UInt8}(ho:o.op=.convert src dst x)(h:cvI P src dst=true)(hx:OpdR M look x (dt n)):OpRel P M look o (dt (n.toNat:Int)):=
 zC λ a w _ hl=>by
  unfold cvI at h;rw[af] at h;have hd:P.underlying dst=some (.int .i64):=by
   have:=h.2;split at this
   ·assumption
   ·cases this
  have hk:P.intKind dst=.i64:=by simp[Program.intKind,hd]
  have h1:=dt_u8.1 (hx w a hl);refine⟨.int .i64 _,?_,yx.2 Z⟩;have hr:=run_convert_int w src dst .u8 (n.toNat:Int) h.1 (by rw[hk];exact hd);have hlt:=UInt8.toNat_lt n;rw[hk,wrap_in _ (by omega)] at hr;unfold execOp;rw[ho];simp[h1,hr]
theorem opd_nilp:OpdR M look (.const (.pointer none)) (dis (.pointer none)):=λ _ _ _=>Z
theorem Sx.gs(h:Sx F N M0 M Gs L O a w)(e:Gs=Gs':=by rfl):Sx F N M0 M Gs' L O a w:=e ▸ h
end
theorem bxr{x:α}{y:β}{r:α×β}(h:some (x,y)=some r):some ((⟨x⟩:Bx α),y)=some (⟨r.1⟩,r.2):=by injection h with h;rw[← h]
theorem bx1{x r:α}(h:some x=some r):some (⟨x⟩:Bx α)=some ⟨r⟩:=by injection h with h;rw[h]
theorem ite_bx(c:Bool)(a b:α):(if c=true then(⟨a⟩:Bx α) else⟨b⟩)=⟨if c=true then a else b⟩:=by cases c <;> rfl
section
variable{fn:Func}
variable{α β γ:Type}[Rep α][Rep β][Rep γ]
theorem Sx.rsD{oo:Ow α}{t:Nat}{x xr:α}{y yr:β}(h:Sx (Frm.chg w0 G) N M0 M Gs L O a w)(p:Nat)(hr:fn.results=#[.tmp t])(hl:(L++envO O).lookup t=some (dt y))(hs:(L++envO O).lookup s=some (dnm oo G' x v0 cf))(hG:∀ b,G' b->zj Gs p b)
  (hm:some (x,y)=some (xr,yr)):bodyPost P fn (RetS M0 w0 G v0 oo xr (.frz (dt yr))) .ret a w:=by
 injection hm with hm;injection hm with h1 h2;subst h1;subst h2;obtain⟨k1,⟨cs,k2,k3⟩,_⟩:=h.st.has s _ hs;have hM:∀ k,k<w.heap.size->(M0 k\/G' k)\/noB k->M k:=λ k _ hk=>hk.elim (λ hk=>hk.elim (h.ob.sub k) λ hk=>(h.ob.at_ p k (hG k hk)).2.1) λ h=>h.elim
 exact⟨h.st.defers,_,cQ hr a.tmps P w,_,G',noB,Z,h.st.fr,λ b hb=>(h.ob.at_ p b (hG b hb)).1,λ _ h=>h.elim,λ _ _ h=>h,λ b hb=>hb.elim (λ hb=>h.st.mok b (h.ob.at_ p b (hG b hb)).2.1) λ h=>h.elim,
  ⟨cs,oo.weak k2 hM,k3⟩,(dt y).weak (h.st.has t _ hl) hM,Z⟩
theorem Sx.rsC{oo:Ow α}{t:Nat}{x xr:α}{y yr:β}(h:Sx (Frm.chg w0 G) N M0 M Gs L O a w)(p:Nat)(ht:tyB P ty (Rep.agg β) (Rep.size β)=true)
  (hm:some (x,y)=some (xr,yr))(hr:fn.results=#[.cell t ty]:=by rfl)(hl:(L++envO O).lookup t=some (dbox g 0 y):=by rfl)(hs:(L++envO O).lookup s=some (dnm oo G' x v0 cf):=by rfl)(hG:∀ b,G' b->zj Gs p b:=by exact λ _ h=>h):bodyPost P fn (RetS M0 w0 G v0 oo xr (.frz (dt yr))) .ret a w:=by
 injection hm with hm;injection hm with h1 h2;subst h1;subst h2;obtain⟨k1,⟨cs,k2,k3⟩,_⟩:=h.st.has s _ hs;have hM:∀ k,k<w.heap.size->(M0 k\/G' k)\/noB k->M k:=λ k _ hk=>hk.elim (λ hk=>hk.elim (h.ob.sub k) λ hk=>(h.ob.at_ p k (hG k hk)).2.1) λ h=>h.elim
 obtain⟨b,_,hv,C,e,cy,hb,hc,hro⟩:=h.st.has t _ hl;have hc':∀ j u,cy[j]?=some u->w.cell? ⟨b,0+j,none⟩=some u:=λ j u hj=>by
  have:=hc j u hj;simp at this ⊢;simp[World.cell?,hb,this]
 have hld:=yH ht (Rep.len hro) Rep.one hc';refine⟨h.st.defers,mkv _ cy,?_,_,G',noB,Z,h.st.fr,λ b hb=>(h.ob.at_ p b (hG b hb)).1,λ _ h=>h.elim,λ _ _ h=>h,λ b hb=>hb.elim (λ hb=>h.st.mok b (h.ob.at_ p b (hG b hb)).2.1) λ h=>h.elim,
  ⟨cs,oo.weak k2 hM,k3⟩,⟨cy,Rep.weak hro hM,Z⟩,Z⟩
 have h2:a.tmps.getD t undef=.pointer _:=hv;simp[results,hr];simp at h2;simp[h2,asAddr,hld]
variable{e:Nat}
theorem zbd(hw:Region.wanted o (yielded ops a.tmps)=true)(h:wpList P ops Q ({ o with guard:=none }::rest) a w):wpList P ops Q (o::rest) a w:=by
 unfold wpList at h ⊢;rw[Kc (Z3 Z)] at h;rw[Kc hw];exact h
theorem wanted_of{b:Bool}(hg:o.guard=some (j,want))(hd:(ops[j]?).bind (·.dst)=some e)(hlt:e<a.tmps.size)(h1:Act.at a e=.bool b):Region.wanted o (yielded ops a.tmps)=(b == want):=by
 have h2:yielded ops a.tmps j=some b:=by
  unfold Act.at at h1;rw[bX,aq hlt] at h1;simp at h1;simp[yielded,hd,hlt,h1]
 simp[Region.wanted,hg,h2]
theorem Sx.cSFg{oy:Ow β}{b:Bool}{y y':β}{r:γ}(h:Sx F N M0 M Gs L O a w)(p:Nat)
  (hs:(L++envO O).lookup sb=some (dnm oy G y v0 cf)) (hG:∀ b,G b->zj Gs p b) (hh:opG o N ops=some (d,e,j,want)) (hb:(L++envO O).lookup e=some (dt b))
  (ho:o.op=.call { callee:=.value (.func f),args:=(q::l).toArray,argTypes:=ts }) (hf:fnB P f=true) (hqv:(b == want)=true->a.eval q=v0) (hp:p<Gs.length) (hx:(b == want)=true->ArgsR M (λ s=>(L++envO O).lookup s) l xr) (hfn:(b == want)=true->FnS P f oy y xr y' (.frz (dt r)))
  (ks:List Nat) (hk:selP ks L=some L2) (qs:List Nat) (hq:selR L O qs p=some O2) (hsn:L2.lookup sb=none) (hne:sb≠d)
  (next:∀ G'' M' a' w',Sx F N M0 M' (Gs.set p G'') ((d,Dt.grd (b == want) (dt r))::L2) ((sb,p,dnm oy G'' (if(b == want)=true then y' else y) v0 [])::O2) a' w'->wpList P ops Q rest a' w'):wpList P ops Q (o::rest) a w:=by
 obtain⟨hg,hd,hj,hN,hE⟩:=xL hh;have h1:=zy (h.st.has e _ hb);have hw:=wanted_of hg hj (by rw[h.st.size];exact hE) h1;have hv0:=(h.st.has sb _ hs).1;cases hc:(b == want) with
 |true=>
  rw[hc] at hw;refine zbd hw ?_;refine h.cSF (yd:=Dt.grd (b == want) (dt r)) p (h.bkN (y':=y') (hs:=hs) (hG:=hG)) ?_ ho hf ((hqv hc).trans hv0.symm) hp (hx hc) ?_ ks hk qs hq hsn hne (@λ G'' M' a' w' st=>next G'' M' a' w' ?_)
  ·simp[opH,hd,hN]
  ·intro M0 G w v vs hm hgm hv hr;refine(hfn hc M0 G w v vs hm hgm hv hr).mono λ en w' ⟨u,G',Gr,k1,k2,k3,k4,k5,k6,k7,k8,k9⟩=>⟨u,G',Gr,k1,k2,k3,k4,k5,k6,k7,⟨λ _=>k8,λ hf=>?_⟩,Z⟩
   rw[hc] at hf;cases hf
  ·rw[hc] at st;rw[hc,Kc Z];exact st
 |false=>
  rw[hc] at hw;obtain⟨k1,k2,_⟩:=h.st.has sb _ hs;unfold wpList;rw[Kd (by rw[hw];decide),hd];have hset:Gs.set p (zj Gs p)=Gs:=by
   apply aX;intro n;by_cases hn:p=n
   ·subst hn;rw[aU hp,aa hp]
    congr 1
    funext b
    unfold zj;rw[aa hp]
   ·rw[ba hn]
  have st0:=(h.mut hp (Grown.refl _ w) hk hq).addO (x:=dnm oy _ y v0 []) hsn ⟨k1,(let⟨cs,k3,k4⟩:=k2;⟨cs,oy.more k3 hG,k4⟩),λ q hq _=>by cases hq⟩ (λ _ h=>h);refine next (zj Gs p) M _ w ?_;rw[hset,hc,Kd (by decide)];exact st0.putL hN ⟨λ h=>(by cases h),λ _=>rfl⟩ rfl
theorem Sx.cSFgB{oy:Ow β}{b:Bool}{y y':β}{r:γ}(h:Sx F N M0 M Gs L O a w)(p:Nat)
  (hs:(L++envO O).lookup sb=some (dnm oy.box G ⟨y⟩ v0 cf)) (hG:∀ b,G b->zj Gs p b) (hh:opG o N ops=some (d,e,j,want)) (hb:(L++envO O).lookup e=some (dt b))
  (ho:o.op=.call { callee:=.value (.func f),args:=(q::l).toArray,argTypes:=ts }) (hf:fnB P f=true) (hqv:(b == want)=true->a.eval q=v0) (hp:p<Gs.length) (hx:(b == want)=true->ArgsR M (λ s=>(L++envO O).lookup s) l xr) (hfn:(b == want)=true->FnS P f oy.box ⟨y⟩ xr ⟨y'⟩ (.frz (dt r)))
  (ks:List Nat) (hk:selP ks L=some L2) (qs:List Nat) (hq:selR L O qs p=some O2) (hsn:L2.lookup sb=none) (hne:sb≠d)
  (next:∀ G'' M' a' w',Sx F N M0 M' (Gs.set p G'') ((d,Dt.grd (b == want) (dt r))::L2) ((sb,p,dnm oy.box G'' ⟨if(b == want)=true then y' else y⟩ v0 [])::O2) a' w'->wpList P ops Q rest a' w'):wpList P ops Q (o::rest) a w:=
 h.cSFg p hs hG hh hb ho hf hqv hp hx hfn ks hk qs hq hsn hne λ G'' M' a' w' st=>next G'' M' a' w' (by rw[ite_bx] at st;exact st)
end
theorem owTree.mk{M:Nat->Prop}{w:World}{x:Tree}{g0:Nat->Prop}{a0:Ow (List File)}{c0:List Value}(h0:a0.ro M g0 w c0 x.files)  : (owTree a0).ro M g0 w [c0].flatten x:=by
 grind
theorem owDir.mk{M:Nat->Prop}{w:World}{x:Dir}{g3:Nat->Prop}{a3:Ow (List Str)}{c0:List Value}{c1:List Value}{c2:List Value}{c3:List Value}(h0:Rep.rdc M w c0 x.root)(h1:Rep.rdc M w c1 x.pkg)(h2:Rep.rdc M w c2 x.stamp)(h3:a3.ro M g3 w c3 x.names)  : (owDir a3).ro M g3 w [c0,c1,c2,c3].flatten x:=by
 simp only[dp,dV,aM];exact⟨noB,g3,c0,_,λ _ h=>h.elim,λ _ h=>h,λ _ h=>h.elim,Z,h0,⟨noB,g3,c1,_,λ _ h=>h.elim,λ _ h=>h,λ _ h=>h.elim,Z,h1,⟨noB,g3,c2,_,λ _ h=>h.elim,λ _ h=>h,λ _ h=>h.elim,Z,h2,h3⟩⟩⟩
theorem owDisk.mk{M:Nat->Prop}{w:World}{x:Disk}{g0:Nat->Prop}{a0:Ow (Tree)}{g2:Nat->Prop}{a2:Ow (List Dir)}{c0:List Value}{c1:List Value}{c2:List Value}(h0:a0.ro M g0 w c0 x.tree)(h1:Rep.rdc M w c1 x.clock)(h2:a2.ro M g2 w c2 x.dirs)(d0:∀ b,g0 b->¬ g2 b):(owDisk a0 a2).ro M (λ b=>g0 b\/g2 b) w [c0,c1,c2].flatten x:=by
 simp only[dp,dV,aM];exact⟨g0,g2,c0,_,λ _ h=>.inl h,λ _ h=>.inr h,d0,Z,h0,⟨noB,g2,c1,_,λ _ h=>h.elim,λ _ h=>h,λ _ h=>h.elim,Z,h1,h2⟩⟩
theorem owFinder.mk{M:Nat->Prop}{w:World}{x:Finder}{g0:Nat->Prop}{a0:Ow (List Dir)}{c0:List Value}{c1:List Value}{c2:List Value}(h0:a0.ro M g0 w c0 x.dirs)(h1:Rep.rdc M w c1 x.fills)(h2:Rep.rdc M w c2 x.hits)  : (owFinder a0).ro M g0 w [c0,c1,c2].flatten x:=by
 simp only[dp,dV,aM];exact⟨g0,noB,c0,_,λ _ h=>h,λ _ h=>h.elim,λ _ _ h=>h,Z,h0,⟨noB,noB,c1,_,λ _ h=>h.elim,λ _ h=>h,λ _ h=>h.elim,Z,h1,h2⟩⟩
theorem Jl[Rep α]{oe:Ow α}{c:List Value}{x:α}(h:oe.ro M G1 w c x)(s:∀ b,G1 b->G b):rowW oe M G w [c].flatten [x]:=⟨G1,noB,c,[],s,λ _ h=>h.elim,λ _ _ h=>h,by simp,h,Z⟩
section
variable{T:Prop}
variable{α β:Type}[Rep α][Rep β]
theorem Sx.mvG{ow:Ow α}{oy:Ow β}{x:α}{y:β}{upd:β->α}(h:Sx F N M0 M Gs L O a w)(p p2:Nat)(hP:PH ow x v0 cf oy b off y upd)(hm:(c,b,off,u)∈cf)(hf:Fits β u)
       
  (ks:List Nat)  (qs:List Nat)    
  (next:∀{G2 G1},Sx F N M0 M ((Gs.set p G2).set p2 G1) L2 ((s,p2,dow oy G1 y)::(sb,p,dhl ow oy G2 v0 b off upd)::O2) a w->T)(hc:c=true:=by rfl)(hu:(L++envO O).lookup s=some (dis u):=by rfl)(hp:p<Gs.length:=by simp)(hp2:p2<Gs.length:=by simp)(hne:p≠p2:=by decide)(hs:(L++envO O).lookup sb=some (dnm ow G x v0 cf):=by rfl)(hG:∀ b,G b->zj Gs p b:=by exact λ _ h=>h)(hk:selP ks L=some L2:=by rfl)(hq:selR L O qs p=some O2:=by rfl)(hq2:O2.all (λ q=>q.2.1 != p&&q.2.1 != p2)=true:=by rfl)(hsn:L2.lookup sb=none:=by rfl)(hdn:L2.lookup s=none:=by rfl):T:=by
 obtain⟨h1,⟨cs,h2,h3⟩,h4⟩:=h.st.has sb _ hs;obtain⟨G1,G2,C,e,s1,s2,hGb,n1,n2,hdj,hh',hsz,hr,put⟩:=hP.of h2 h3 h4;have hval:=Q5 hf hh' hsz (h4 _ hm hc).2.2;have hsv:Act.at a s=u:=h.st.has s _ hu;have k0:=h.mut hp (Grown.refl _ w) hk hq;have k1:=k0.spl (A:=λ k=>k=b\/G2 k) (B:=G1) hp hp2 hne (λ k hk=>hk.elim (λ e=>e ▸ hG b hGb) λ hk=>hG k (s2 k hk)) (λ k hk=>hG k (s1 k hk)) (λ k hk hk2=>hk.elim (λ e=>n1 (e ▸ hk2)) λ hk=>hdj k hk2 hk) hq2;have k2:=k1.addO (d:=sb) (p:=p) (x:=dhl ow oy (λ k=>k=b\/G2 k) v0 b off upd) hsn ⟨h1,w,M,G2,cs,C,e,h3,Later.refl _ _ _,.inl Z,n2,λ _ h=>.inr h,hh',hsz,put⟩ λ k hk=>by rw[zq (bo hne),zk hp];exact hk
 exact next (k2.addO (d:=s) (p:=p2) (x:=dow oy G1 y) hdn ⟨_,hr,hsv.trans hval⟩ λ k hk=>by rw[zk (by simpa using hp2)];exact hk)
end
section
variable{f:Nat}{T:Prop}
def QH(P:Program)(ops:Array Oper)(Q:Exit->Act->World->Prop)(S:World->Prop)(f:Nat)(listed:Array Bool):Exit->Act->World->Prop
 | .normal,a,w=>S w/\wpAnyH P .any ops Q S f listed a w
 | e,a,w=>Q e a w
theorem Yp(ho:ops[i]?=some o)(h:wpList P ops (QH P ops Q S f (listed.setIfInBounds i true)) [o] a w):wpOp P ops Q i (λ a' w'=>S w'/\wpAnyH P .any ops Q S f (listed.setIfInBounds i true) a' w') a w:=by
 unfold wpOp;rw[ho];simp only;unfold wpList at h;have hl:LetsOut _->LetsOut Q:=λ⟨a,w,h⟩=>⟨a,w,h⟩
 have hn:∀ a w,wpList P ops (QH P ops Q S f _) [] a w->S w/\wpAnyH P .any ops Q S f (listed.setIfInBounds i true) a w:=λ a w h=>h
 split
 ·rename_i hw;rw[Kc hw] at h;exact h.imp (Oper.wp_mono2 hn hl) λ h=>⟨h.1,hl h.2⟩
 ·rename_i hw;rw[Kd hw] at h;exact hn _ _ h
theorem aH1(hr:Region.ready .any ops listed=[i])(ho:ops[i]?=some o)(h:wpList P ops (QH P ops Q S f (listed.setIfInBounds i true)) [o] a w):wpAnyH P .any ops Q S (f+1) listed a w:=
 ⟨λ e=>(by rw[hr] at e;cases e),λ j hj=>by
  rw[hr] at hj;simp at hj;subst hj;exact Yp ho h⟩
theorem aH2(hr:Region.ready .any ops listed=[i,j])(ho:ops[i]?=some o)(ho2:ops[j]?=some o2)(h:wpList P ops (QH P ops Q S f (listed.setIfInBounds i true)) [o] a w)(h2:wpList P ops (QH P ops Q S f (listed.setIfInBounds j true)) [o2] a w):wpAnyH P .any ops Q S (f+1) listed a w:=
 ⟨λ e=>(by rw[hr] at e;cases e),λ k hk=>by
  rw[hr] at hk;simp at hk;rcases hk with rfl | rfl
  ·exact Yp ho h
  ·exact Yp ho2 h2⟩
theorem aH0(hr:Region.ready .any ops listed=[])(h:Q .normal a w):wpAnyH P .any ops Q S f listed a w:=wpAnyH_done hr h f
theorem aHN(hS:S w)(h:wpAnyH P .any ops Q S f listed a w):wpList P ops (QH P ops Q S f listed) [] a w:=⟨hS,h⟩
theorem Sx.held(S:World->Prop)(h:Sx F N M0 M Gs L O a w){id:Nat}(hm:P.follows .mixedOrders=true)(hQ:∀ w',Sx F N M0 M Gs L O a w'->wpAnyH P .any ops Q S ops.size (Array.replicate ops.size false) a w'):(Code.region id ops true).wp P Q a w:=
 wp_region_held hm (hQ _ h.drew)
theorem Sx.tk(h:Sx F N M0 M Gs L O a w)(ho:ops[i]?=some o)(hh:opH o N=some d)(hs:Region.noSelect ops=true)(hf:Region.free .any ops listed i=true)(hr:(Region.ready .any ops listed).contains i=true)
  (hQ:∀ c a w,Q (.panic c) (a.put o.dst v) w->Q (.panic c) a w) (hS:S w) (hy:∀ w,S w->(execOp a.eval o).run P w=.ok (.value v) w)
  (next:∀ a',Sx F N M0 M Gs ((d,dis v)::L) O a' w->wpAnyH P .any ops Q S f (listed.setIfInBounds i true) a' w):wpAnyH P .any ops Q S (f+1) listed a w:=
 wpAnyH_take ho hs hf hr hQ (.inl ⟨Z3 (zQ hh).1,hy⟩) hS (by rw[(zQ hh).2.1];exact next _ (h.putL (zQ hh).2.2 Z Z))
theorem yFa{n:Nat}(ho:o.op=.fieldAddr t q n)(ht:fldB P t n fo=true)(hv:a.eval q=.pointer (some ⟨b,off,none⟩)):∀ w,S w->(execOp a.eval o).run P w=.ok (.value (.pointer (some ⟨b,off+fo,none⟩))) w:=λ w _=>by
 unfold execOp;rw[ho];simp[hv,Jf ht]
theorem yLd(ho:o.op=.load t q)(ht:tyB P t false 1=true)(hv:a.eval q=.pointer (some ⟨b,off,none⟩))(hS:∀ w,S w->w.cell? ⟨b,off,none⟩=some u):∀ w,S w->(execOp a.eval o).run P w=.ok (.value u) w:=λ w hw=>by
 have:=yH (cs:=[u]) ht Z (λ _=>Z) (λ j z hj=>by
  cases j with
  | zero=>simp at hj;subst hj;simpa using hS w hw
  | succ j=>simp at hj)
 unfold execOp;rw[ho];simp[Instr.loadAt,Instr.sureAddr,hv,this,mkv]
theorem yMv(ho:o.op=.move q)(hv:a.eval q=v):∀ w,S w->(execOp a.eval o).run P w=.ok (.value v) w:=λ w _=>by
 unfold execOp;rw[ho];simp[hv]
theorem Sx.cellS{α:Type}[Rep α]{ow:Ow α}{x:α}(h:Sx F N M0 M Gs L O a w)(hm:(c,b,off,u)∈cf)(hs:(L++envO O).lookup sb=some (dnm ow G x v0 cf):=by rfl)(hc:c=true:=by rfl)(hu:u.oneCell'=true:=by rfl):w.cell? ⟨b,off,none⟩=some u:=by
 obtain⟨_,_,h4⟩:=h.st.has sb _ hs;exact WL hu (h4 _ hm hc).2.2
section
variable{α β:Type}[Rep α][Rep β]
def dhk(ow:Ow α)(oy:Ow β)(G:Nat->Prop)(v0:Value)(b off:Nat)(u:Value)(upd:β->α):Dt where
 rd M w v:=(dhl ow oy G v0 b off upd).rd M w v/\w.cell? ⟨b,off,none⟩=some u
 own:=G
 nb:=false
 nob h:=by cases h
 stable:=by
  rintro M w w' v ⟨h1,h2⟩ k
  refine⟨(dhl ow oy G v0 b off upd).stable h1 k,?_⟩;obtain⟨_,wb,Mb,G2,cs,C,e,h3,hL,hGb,h6,h7,h8,h9,put⟩:=h1;have hh:w.heap[b]?=some (.cells C e (0,0)):=by rw[hL.same b (xG h8) (.inr (.inl Z))];exact h8
  have hh':w'.heap[b]?=some (.cells C e (0,0)):=by rw[k b (xG hh) (.inr hGb)];exact hh
  have e1:∀ w:World,w.heap[b]?=some (.cells C e (0,0))->w.cell? ⟨b,off,none⟩=C[off]?:=λ w h=>by simp[World.cell?,h]
  rw[e1 _ hh'] ;rw[e1 _ hh] at h2;exact h2
 weak:=λ⟨h1,h2⟩ k=>⟨(dhl ow oy G v0 b off upd).weak h1 k,h2⟩
variable{oy:Ow β}
theorem Sx.hkS{ow:Ow α}{upd:β->α}(h:Sx F N M0 M Gs L O a w)(hs:(L++envO O).lookup sb=some (dhk ow oy G v0 b off u upd):=by rfl):w.cell? ⟨b,off,none⟩=some u:=(h.st.has sb _ hs).2
theorem Sx.mvN{ow:Ow α}{x:α}{y:β}{upd:β->α}(h:Sx F N M0 M Gs L O a w)(p p2:Nat)(hP:PH ow x v0 cf oy b off y upd)(hm:(c,b,off,u)∈cf)(hc:c=true)(hf:Fits β u)(hone:u.oneCell'=true)
  (hu:(L++envO O).lookup s=some (dis u)) (hp:p<Gs.length) (hp2:p2<Gs.length) (hne:p≠p2) (hs:(L++envO O).lookup sb=some (dnm ow G x v0 cf)) (hG:∀ b,G b->zj Gs p b)
  (ks:List Nat) (hk:selP ks L=some L2) (qs:List Nat) (hq:selR L O qs p=some O2) (hq2:O2.all (λ q=>q.2.1 != p&&q.2.1 != p2)=true) (hsn:L2.lookup sb=none) (hdn:L2.lookup s=none) (hss:sb≠s)
  (next:∀ G2 G1,Sx F N M0 M ((Gs.set p G2).set p2 G1) L2 ((s,p2,dnm oy G1 y u [])::(sb,p,dhk ow oy G2 v0 b off u upd)::O2) a w->T):T:=by
 have hcell:=h.cellS (hs:=hs) hm (hc:=hc) (hu:=hone);have hsv:=h.st.has s _ hu;refine h.mvG p p2 hP hm (hc:=hc) hf (hu:=hu) (hp:=hp) (hp2:=hp2) (hne:=hne) (hs:=hs) (hG:=hG) ks (hk:=hk) qs (hq:=hq) (hq2:=hq2) (hsn:=hsn) (hdn:=hdn) @λ G2 G1 st=>next G2 G1 ?_
 refine⟨⟨st.st.fr,st.st.size,st.st.defers,st.st.mok,λ t z hz=>?_⟩,st.ob,st.no,?_⟩
 ·rcases yq hz with h1 | ⟨h0,h1⟩
  ·exact st.st.has t z (yF h1)
  ·simp only[envO,ae] at h1;cases h2:t == s with
   |true=>
    simp only[h2] at h1;injection h1 with h1;subst h1;have e:t=s:=by simpa using h2
    subst e;obtain⟨cs,k1,k2⟩:=st.st.has t (dow oy G1 y) (by rw[yi h0];simp[envO,ae]);exact⟨hsv,⟨cs,k1,hsv.symm.trans k2⟩,λ q hq _=>by cases hq⟩
   |false=>
    simp[h2] at h1;cases h3:t == sb with
    |true=>simp only[h3] at h1;injection h1 with h1;subst h1;exact⟨st.st.has t _ (by rw[yi h0];simp only[envO,ae,h2,h3]),hcell⟩
    |false=>simp[h3] at h1;exact st.st.has t z (by rw[yi h0];simp only[envO,ae,h2,h3];exact h1)
 ·exact⟨st.ow.1,st.ow.2.1,st.ow.2.2⟩
theorem Sx.stG{ow:Ow α}{y':β}{upd:β->α}(h:Sx F N M0 M Gs L O a w)(p p2:Nat)(hag:Rep.agg β=false)(hp:p<Gs.length)(hp2:p2<Gs.length)(hne:p≠p2)
  (hvl:(L++envO O).lookup s=some (dnm oy G3 y' u cf)) (hs:(L++envO O).lookup sb=some (dhk ow oy G v0 b off u upd)) (hG:∀ b,G b->zj Gs p b) (hG3:∀ b,G3 b->zj Gs p2 b)
  (ks:List Nat) (hk:selP ks L=some L2) (qs:List Nat) (hq:selR L O qs p=some O2) (hq2:O2.all (λ q=>q.2.1 != p2)=true) (hdn:L2.lookup sb=none)
  (next:∀ G',Sx F N M0 M ((Gs.set p G').set p2 (oneB none)) L2 ((sb,p,dnm ow G' (upd y') v0 [])::O2) a w->T):T:=by
 obtain⟨hsv,⟨cy,hy,hyv⟩,_⟩:=h.st.has s _ hvl;obtain⟨⟨h1,wb,Mb,G2,cs,C,e,h3,hL,hGb,n2,s2,hhb,hsz,put⟩,hcell⟩:=h.st.has sb _ hs;have hob:=hG b hGb;have hh':w.heap[b]?=some (.cells C e (0,0)):=by rw[hL.same b (xG hhb) (.inr (.inl Z))];exact hhb
 obtain⟨u2,hu1,hu2⟩:=mkv_one hy hag;have hcu:cy=[u]:=by rw[hu1];congr 1;exact hu2.symm.trans hyv.symm
 have hCu:C[off]?=some u:=by simpa[World.cell?,hh'] using hcell
 have hsame:(C.toList.take off++cy++C.toList.drop (off+Rep.size β)).toArray=C:=by
  rw[hcu,Rep.one hag];have h5:=(aD.1 hCu).1;have h6:C.toList[off]?=some u:=by simpa using hCu
  apply Array.ext';have h7:=bH off C.toList;have h8:C.toList.drop off=u::C.toList.drop (off+1):=by
   rw[bh (by simpa using h5)]
   congr 1
   have:=aa (l:=C.toList) (by simpa using h5);rw[h6] at this;injection this with this;exact this.symm
  simp;rw[← h8];exact h7
 have nb3:=λ h3=>h.ob.apart p p2 b hne hob (hG3 b h3)
 have k1:=(h.mut hp (Grown.refl _ w) hk hq).mrg hp hp2 hne hq2;have e1:JB Gs p p2=(Gs.set p (λ b=>zj Gs p b\/zj Gs p2 b)).set p2 _:=rfl;rw[e1] at k1;refine next _ (k1.addO hdn ⟨h1,⟨cs,?_,h3⟩,λ q hq _=>by cases hq⟩ λ c hc=>?_)
 ·refine put (c':=cy) (hL.sub λ _ h=>.inr h) (by rw[hsame];exact hh') hy nb3 (λ k hk hk2=>h.ob.apart p p2 k hne (hG k (s2 k hk2)) (hG3 k hk)) (.inl hob) (λ k hk=>.inr (hG3 k hk)) λ k hk=>.inl (hG k (s2 k hk))
 ·rw[zq (bo hne),zk hp];exact hc
end
end
theorem zcM{fn:Func}{t u:Tmp}{A:Addr}(h:fn.results=#[.cell t ty,.tmp u])(ha:tmps.getD t undef=.pointer (some A))(hl:(loadVar ty A).run P w=.ok x w):(results fn tmps).run P w=.ok (.tuple #[x,tmps.getD u undef]) w:=by
 simp only[results,h];simp at ha;simp[ha,asAddr,hl]
theorem results_cc{fn:Func}{t u:Tmp}{A:Addr}(h:fn.results=#[.cell t ty,.cell u ty2])(ha:tmps.getD t undef=.pointer (some A))(hl:(loadVar ty A).run P w=.ok x w)(ha2:tmps.getD u undef=.pointer (some A2))(hl2:(loadVar ty2 A2).run P w=.ok x2 w):(results fn tmps).run P w=.ok (.tuple #[x,x2]) w:=by
 simp only[results,h];simp at ha ha2;simp[ha,ha2,asAddr,hl,hl2]
section
variable{fn:Func}
variable{α β:Type}[Rep α][Rep β]
theorem Sx.frozenC{t:Nat}{x:α}(h:Sx F N M0 M Gs L O a w)(ht:tyB P ty (Rep.agg α) (Rep.size α)=true)(hl:(L++envO O).lookup t=some (dbox g 0 x)):∃ (A:Addr) (v:Value),a.tmps.getD t undef=.pointer (some A)/\(loadVar ty A).run P w=.ok v w/\(dt x).rd M0 w v:=by
 obtain⟨b,_,hv,C,e,cs,hb,hc,hrr⟩:=h.st.has t _ hl;have hc':∀ j u,cs[j]?=some u->w.cell? ⟨b,0+j,none⟩=some u:=λ j u hj=>by
  have:=hc j u hj;rw[aB] at this ⊢;simp[World.cell?,hb,this]
 exact⟨_,_,hv,yH ht (Rep.len hrr) Rep.one hc',cs,Rep.weak hrr λ k _ hk=>h.ob.sub k hk,Z⟩
theorem Sx.ret2c{t u:Nat}{x:α}(h:Sx (Frm.of w0) N M0 M Gs L O a w)(hr:fn.results=#[.cell t ty,.tmp u])(ht:tyB P ty (Rep.agg α) (Rep.size α)=true)(hl:(L++envO O).lookup t=some (dbox g 0 x))(hy:y.rd M0 w (Act.at a u))(hn:y.nb=true)(hR:R=dtup [dt x,y]):bodyPost P fn (RetP M0 w0 R) .ret a w:=by
 subst hR;obtain⟨A,q,h1,h2,h3⟩:=h.frozenC (P:=P) ht hl;exact⟨h.st.defers,_,zcM hr h1 h2,_,Z,h.st.fr,[_,_],Z,.cons h3 (.cons hy .nil),λ q hq=>by
  simp only[am,aS,ch] at hq;rcases hq with rfl | rfl
  ·rfl
  ·exact hn⟩
end
section
variable{fn:Func}
theorem box_ptr{α:Type}[Rep α]{x:α}(h:(dbox g 0 x).rd M w v)(hs:∀ b,b<w.heap.size->M' b->M b)(hn:∀ b,oneB g b->¬ M' b):(dptr x).rd M' w v:=by
 obtain⟨b,hg,hv,C,e,cs,hb,hc,hr⟩:=h;refine⟨b,0,cs,hv,hn b hg,λ j u hj=>?_,Rep.weak hr hs⟩;have:=hc j u hj;rw[aB] at this ⊢;simp[World.cell?,hb,this]
theorem Sx.frzX{α:Type}[Rep α]{x:α}(h:Sx F N M0 M Gs L O a w)(p:Nat)
  (ks:List Nat)  (qs:List Nat) (hs:(L++envO O).lookup s=some (dbox g 0 x):=by rfl)(hg:Gs[p]?=some (oneB g):=by rfl)(hk:selP ks L=some L2:=by rfl)(hq:selR L O qs p=some O2:=by rfl):Sx F N M0 (λ b=>M b/\¬ zj Gs p b) (Gs.set p (oneB none)) ((s,dptr x)::L2) O2 a w:=by
 have hsub:∀ k,k<w.heap.size->(M k/\¬ zj Gs p k)->M k:=λ k _ hk=>hk.1
 refine⟨⟨h.st.fr,h.st.size,h.st.defers,λ b hb=>h.st.mok b hb.1,λ s' y hx=>?_⟩,⟨λ b hb=>⟨h.ob.sub b hb,λ ho=>(h.ob.at_ p b ho).2.2 hb⟩,λ q b hb=>?_,λ q r b hne h1 h2=>?_⟩,λ s' y hx=>?_,AllOw.of λ q hq' b hb=>?_⟩
 ·simp only[bL,ae] at hx;by_cases he:s'=s
  ·subst he;simp only[aW,Option.some.injEq] at hx;subst hx;exact box_ptr (h.st.has s' _ hs) (λ b _ hb=>hb.1) λ b hb hm=>hm.2 ((yD hg b).2 hb)
  ·have hb:(s' == s)=false:=by simpa using he
   simp only[hb] at hx;rcases yq hx with h1 | ⟨_,h1⟩
   ·exact y.weak (h.st.has s' y (yF ((wc hk).spec s' y h1).1)) hsub
   ·obtain⟨q,hq'⟩:=Jh h1;exact y.weak (h.st.has s' y (ZB hq _ hq').2.2) hsub
 ·by_cases hq':p=q
  ·subst hq';rw[zk (YE hg)] at hb;cases hb
  ·rw[zq hq'] at hb;obtain⟨h1,h2,h3⟩:=h.ob.at_ q b hb;exact⟨h1,⟨h2,λ ho=>h.ob.apart p q b hq' ho hb⟩,h3⟩
 ·by_cases hq':p=q
  ·subst hq';rw[zk (YE hg)] at h1;cases h1
  ·rw[zq hq'] at h1;by_cases hr:p=r
   ·subst hr;rw[zk (YE hg)] at h2;cases h2
   ·rw[zq hr] at h2;exact h.ob.apart q r b hne h1 h2
 ·simp only[ae] at hx;split at hx
  ·injection hx with hx;subst hx;rfl
  ·exact((wc hk).spec s' y hx).2
 ·obtain⟨h2,h3,_⟩:=ZB hq _ hq';rw[zq (bo h3)];exact h.ow.get _ h2 b hb
end
