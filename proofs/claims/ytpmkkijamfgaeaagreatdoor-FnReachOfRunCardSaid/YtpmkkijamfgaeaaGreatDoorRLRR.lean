import Derived.Test.YtpmkkijamfgaeaaGreatDoorRQ
import Derived.Test.YtpmkkijamfgaeaaGreatDoorRB
import Derived.Test.YtpmkkijamfgaeaaGreatDoorRO
import Derived.Test.YtpmkkijamfgaeaaGreatDoorRKc
import Derived.Test.YtpmkkijamfgaeaaGreatDoorRK
namespace Go.Proofs.YtpmkkijamfgaeaaGreatDoor
open Go.RowKit Tryz
variable{t:Tree}{path:List Int}{a b st:RSt}{e:Int}{s:Str}{U:Str->Prop}{R:Nat}{I:RImp}
theorem zbi:∀ (k:Nat) {n:Str},(zh n dot).length=k->ze n=true->(∀ x∈yH n,zv x≠emptyS->zv x∈yH n)/\qH n∈yH n:=by
 intro k
 induction k with
 | zero=>intro n hk;have:=qf n;omega
 |
  succ k ih=>
  intro n hk hn
  by_cases h:zv n=emptyS
  ·
   refine⟨λ x hx hp=>?_,?_⟩
   ·
    rw[above_one hn h] at hx
    simp only[List.mem_singleton] at hx
    rw[hx] at hp
    exact absurd h hp
   ·
    unfold qH
    rw[XS hn h,above_one hn h]
    exact List.mem_singleton.2 rfl
  ·
   obtain⟨e1,e2⟩:=jF hn h
   obtain⟨h1,h2⟩:=ih (by omega) e2
   refine⟨λ x hx hp=>?_,?_⟩
   ·
    rw[above_up hn h] at hx ⊢
    rcases List.mem_append.1 hx with hx | hx
    ·
     exact List.mem_append_left _ (h1 x hx hp)
    ·
     simp only[List.mem_singleton] at hx
     rw[hx]
     exact List.mem_append_left _ (QO _)
   ·
    rw[above_up hn h]
    refine List.mem_append_left _ ?_
    have h3:=qf (zv n)
    unfold qH at h2 ⊢
    rw[zaN hn h]
    cases hl:zh (zv n) dot with
    | nil=>rw[hl] at h3;simp at h3
    | cons x l=>rw[hl] at h2;exact h2
structure Ur(t:Tree)(path:List Int)(U:Str->Prop):Prop where
 valid:∀ x,U x->ze x=true
 up:∀ x,U x->zv x≠emptyS->U (zv x)
 edge:∀ x,U x->∀ y∈wR t.files path x,U y
 simple:∀ x,U x->XO t path x=true
theorem edge_par{x y:Str}(h:y∈wR t.files path x)(hp:zv y≠emptyS):zv y∈wR t.files path x:=by
 unfold wR at h ⊢
 obtain⟨z,hz,hy⟩:=List.mem_flatMap.1 (XM.1 h)
 exact XM.2 (List.mem_flatMap.2 ⟨z,hz,(zbi _ rfl (ZG hz)).1 y hy hp⟩)
theorem ur_reach(hv:zC t=true)(hs:ze s=true)(h:∀ x∈ZS t path s,XO t path x=true):Ur t path (·∈ZS t path s) where
 valid x hx:=zaF hv hs hx
 up x hx hp:=by
  have hi:∀ {y:Str},y∈ZS t path s ↔ Way (wR t.files path) (yH s) y:=Jw hv hs (ZZ hs) λ _ h=>q9 h
  rw[hi] at hx ⊢
  cases hx with
  | here hx=>exact .here ((zbi _ rfl hs).1 x hx hp)
  | step hy hx=>exact .step hy (edge_par hx hp)
 edge x hx y hy:=zcq hv hs (ZZ hs) (λ _ h=>q9 h) hx hy
 simple:=h
theorem mod_edge{n:Str}{x:Stmt}(hf:cmpI .lss (find t.files path n).file 0=false)(hx:x∈(Yf t.files (find t.files path n).file).body)(hk:x.kind=0\/x.kind=2)(hm:ze x.module=true):x.module∈wR t.files path n:=by
 unfold wR
 refine XM.2 (List.mem_flatMap.2 ⟨x.module,?_,QO _⟩)
 unfold Zl QT
 rw[hf,if_neg (by decide)]
 refine XM.2 (List.mem_filter.2 ⟨List.mem_map.2 ⟨x,hx,?_⟩,hm⟩)
 unfold q8
 rw[if_pos (by rcases hk with h | h <;> rw[h] <;> rfl)]
def bl(t:Tree)(path:List Int)(x:Str):Nat:=if cmpI .geq (find t.files path x).file 0=true then(Yf t.files (find t.files path x).file).body.length else 0
def blS(t:Tree)(path:List Int)(l:List Str):Nat:=(l.map (bl t path)).sum
theorem bl_le(hv:zC t=true){x:Str}(hx:ze x=true):bl t path x<=8:=by
 unfold bl
 cases h:cmpI .lss (find t.files path x).file 0 with
 | true=>rw[X9,h,if_neg (by decide)];omega
 |
  false=>
  rw[X9,h,if_pos (by decide)]
  obtain⟨f,h1,h2,_⟩:=ZR hv hx h
  rw[ZY h1]
  exact qD (wu hv h2)
theorem blS_le(hv:zC t=true):∀ l:List Str,(∀ x∈l,ze x=true)->blS t path l<=8*(l.filter λ x=>cmpI .geq (find t.files path x).file 0).length
 | [],_=>Nat.le_refl _
 |
  x::l,h=>by
  have ih:=blS_le hv l λ y hy=>h y (List.mem_cons_of_mem _ hy)
  have hx:=bl_le (path:=path) hv (h x (List.mem_cons_self ..))
  unfold blS at ih ⊢
  rw[List.map_cons,List.sum_cons]
  cases hc:cmpI .geq (find t.files path x).file 0 with
  | true=>rw[List.filter_cons_of_pos (by simpa using hc),List.length_cons];omega
  |
   false=>
   rw[List.filter_cons_of_neg (by simp[hc])]
   have:bl t path x=0:=by unfold bl;rw[hc,if_neg (by decide)]
   omega
theorem blS_96(hv:zC t=true){l:List Str}(hn:l.Nodup)(h:∀ x∈l,ze x=true):blS t path l<=96:=by
 have h1:=blS_le (path:=path) hv l h
 have h2:(l.filter λ x=>cmpI .geq (find t.files path x).file 0).length<=(t.files.map jG).length:=q6 (hn.filter _) λ x hx=>by
  obtain⟨h3,h4⟩:=List.mem_filter.1 hx
  rw[X9] at h4
  obtain⟨f,_,k2,k3,_⟩:=ZR hv (h x h3) (by simpa using h4)
  exact List.mem_map.2 ⟨f,k2,k3⟩
 have h3:=Qh hv
 rw[List.length_map] at h2
 omega
structure J(t:Tree)(path:List Int)(U:Str->Prop)(R:Nat)(st:RSt):Prop where
 wf:Wf st
 up:Upw st
 told:Told st
 fnd:Fnd t path st
 all:∀ m∈st.mods,m.cached=true
 in_:∀ m∈st.mods,U m.name
 pot:(120:Int)+R<=st.left+blS t path (st.mods.map (·.name))
theorem J.apart(j:J t path U R st):(st.mods.map (·.name)).Nodup:=by
 rw[List.Nodup,List.pairwise_iff_getElem]
 intro i k hi hk hik e
 rw[List.length_map] at hi hk
 rw[List.getElem_map,List.getElem_map] at e
 have:=j.wf.dist i k _ _ (List.getElem?_eq_getElem hi) (List.getElem?_eq_getElem hk) (j.all _ (List.getElem_mem hi)) (j.all _ (List.getElem_mem hk)) e
 omega
theorem J.left(hv:zC t=true)(j:J t path U R st):(R:Int)+24<=st.left:=by
 have h:=j.pot
 have h2:=blS_96 (path:=path) hv j.apart λ x hx=>by
  obtain⟨m,h3,rfl⟩:=List.mem_map.1 hx
  obtain⟨i,hi⟩:=List.getElem?_of_mem h3
  exact(j.fnd i m hi).1
 omega
theorem Sm.names(h:Sm a b):b.mods.map (·.name)=a.mods.map (·.name):=by
 refine List.ext_getElem? λ i=>?_
 rw[List.getElem?_map,List.getElem?_map]
 cases hb:b.mods[i]? with
 |
  none=>
  rw[show a.mods[i]?=none from List.getElem?_eq_none (by have:=List.getElem?_eq_none_iff.1 hb;rw[← h.1];exact this)]
 |
  some m'=>
  obtain⟨m,h1,h2⟩:=h.back hb
  rw[h1]
  show some m'.name=some m.name
  rw[h2.name]
theorem zbj{U:Str->Prop}{l m:List GMod}(h:m.map (·.name)=l.map (·.name))(hl:∀ x∈l,U x.name):∀ x∈m,U x.name:=λ x hx=>by
 have h1:x.name∈l.map (·.name):=by rw[← h];exact List.mem_map.2 ⟨x,hx,rfl⟩
 obtain⟨y,hy,e⟩:=List.mem_map.1 h1
 rw[← e]
 exact hl y hy
theorem J.tr(h:Tr t path a b 0)(k:Sm a b){Q:Nat}(hl:(Q:Int)+a.left<=R+b.left)(j:J t path U R a):J t path U Q b where
 wf:=h.wf j.wf
 up:=(h.told j.wf j.up j.told).2 rfl
 told:=(h.told j.wf j.up j.told).1
 fnd:=h.fnd j.fnd
 all m hm:=by
  obtain⟨i,hi⟩:=List.getElem?_of_mem hm
  obtain⟨y,h1,h2⟩:=k.back hi
  rw[h2.cached]
  exact j.all y (List.mem_of_getElem? h1)
 in_:=zbj k.names j.in_
 pot:=by
  have:=j.pot
  rw[k.names]
  omega
theorem J.give(j:J t path U R st)(k:Nat)(s:Str)(v:GVal):J t path U R (st.give k s v):=J.tr (.give st k s v) (give_sm ..) (Int.le_refl _) j
structure Rs(t:Tree)(path:List Int)(U:Str->Prop)(R:Nat)(st:RSt)(e:Int)(b:RSt):Prop where
 out:b.out=st.out
 in_:∀ m∈b.mods,U m.name
 fin:(e=0/\J t path U R b)\/(e=1/\∃ x,U x/\(find t.files path x).kind=0)
theorem J.rs(j:J t path U R b)(h:b.out=st.out):Rs t path U R st 0 b:=⟨h,j.in_,.inl ⟨rfl,j⟩⟩
theorem Rs.ok(h:Rs t path U R st e b)(he:e=0):J t path U R b:=by
 rcases h.fin with⟨_,j⟩ | ⟨h1,_⟩
 ·
  exact j
 ·
  omega
theorem Rs.bad{Q:Nat}(h:Rs t path U R a e b)(he:e≠0)(ho:a.out=st.out):Rs t path U Q st e b:=⟨h.out.trans ho,h.in_,h.fin.elim (λ h=>absurd h.1 he) .inr⟩
def SI(t:Tree)(path:List Int)(U:Str->Prop)(I:RImp):Prop:=∀ (st:RSt) (s:Str) (r:RSt×Int×Int) (R:Nat),J t path U R st->U s->I st s=some r->Rs t path U R st r.2.2 r.1
theorem star_j{k:Nat}:∀ (l:List GAttr) (st:RSt),J t path U R st->J t path U R (JA k l st)/\(JA k l st).out=st.out
 | [],_,j=>⟨j,rfl⟩
 |
  x::l,st,j=>by
  unfold JA
  rw[List.foldl_cons]
  split
  ·
   exact star_j l st j
  ·
   exact star_j l _ (j.give ..)
theorem lss_of_has{s:Str}(h:∃ (i:Nat) (m:GMod),a.mods[i]?=some m/\hits s m=true):cmpI .lss (cix a s) 0=false:=by
 obtain⟨i,m,h1,h2⟩:=h
 rcases Zm a s with⟨_,k2⟩ | ⟨k,m',k1,_⟩
 ·
  rw[k2 m (List.mem_of_getElem? h1)] at h2;cases h2
 ·
  rw[k1];exact lss_nat0 k
theorem simple_stmt(hU:Ur t path U)(hI:SI t path U I)(hT:ImpTr t path I){at_:Nat}{x:Stmt}(hx:jI x=true)(hm:x.kind=0\/x.kind=2->U x.module)(j:J t path U R st){r:RSt×Int}(hr:Yj t path I st at_ x=some r):Rs t path U R st r.2 r.1:=by
 unfold Yj at hr
 by_cases h0:x.kind=0
 ·
  rw[if_pos h0] at hr
  have hmod:=hm (.inl h0)
  obtain⟨q,hq,hr⟩:=bs hr
  have hs:=hI st x.module q R j hmod hq
  by_cases he:q.2.2=0
  ·
   rw[if_neg (by simp[he])] at hr
   have j1:=hs.ok he
   obtain⟨m,m1,m2⟩:=(hT _ _ _ (hU.valid _ hmod) hq).2 he
   have hf:=up_above j1.up _ rfl (hU.valid _ hmod) ⟨_,m,m1,m2⟩ _ (zbi _ rfl (hU.valid _ hmod)).2
   rw[if_neg (by rw[lss_of_has hf];decide)] at hr
   injection hr with hr;subst hr
   exact(j1.give ..).rs hs.out
  ·
   rw[if_pos he] at hr
   injection hr with hr;subst hr
   exact hs.bad he rfl
 ·
  rw[if_neg h0] at hr
  by_cases h2:x.kind=2
  ·
   rw[if_neg (by omega),if_pos h2] at hr
   obtain⟨q,hq,hr⟩:=bs hr
   have hs:=hI st x.module q R j (hm (.inr h2)) hq
   by_cases he:q.2.2=0
   ·
    rw[if_neg (by simp[he])] at hr
    injection hr with hr;subst hr
    obtain⟨k1,k2⟩:=star_j (k:=at_) (q.1.attrsAt q.2.1.toNat) q.1 (hs.ok he)
    exact k1.rs (k2.trans hs.out)
   ·
    rw[if_pos he] at hr
    injection hr with hr;subst hr
    exact hs.bad he rfl
  ·
   have h3:x.kind=3:=by
    unfold jI at hx
    simp only[Bool.or_eq_true,cmpI,beq_iff_eq] at hx
    omega
   rw[if_neg (by omega),if_neg h2,if_pos h3] at hr
   injection hr with hr;subst hr
   exact(j.give ..).rs rfl
theorem zbF(hv:zC t=true)(hU:Ur t path U)(hI:SI t path U I)(hT:ImpTr t path I)(at_:Nat):∀ (l:List Stmt) (st:RSt) (r:RSt×Int),(∀ x∈l,jI x=true/\(x.kind=0\/x.kind=2->U x.module))->J t path U (R+l.length) st->JB t path I at_ l st=some r->Rs t path U R st r.2 r.1
 |
  [],st,r,_,j,hr=>by
  injection hr with hr;subst hr
  exact J.rs j rfl
 |
  x::l,st,r,hl,j,hr=>by
  unfold JB at hr
  have hlf:=j.left hv
  rw[if_neg (by omega)] at hr
  obtain⟨q,hq,hr⟩:=bs hr
  have j1:J t path U (R+l.length) { st with left:=st.left - 1 }:=J.tr (.tick st) ⟨rfl,λ _ m h=>⟨m,h,Kept.refl m⟩⟩ (by rw[List.length_cons];show((R+l.length:Nat):Int)+st.left<=((R+(l.length+1):Nat):Int)+(st.left - 1);omega) j
  have hx:=hl x (List.mem_cons_self ..)
  have hs:=simple_stmt hU hI hT hx.1 hx.2 j1 hq
  by_cases he:q.2=0
  ·
   rw[if_neg (by simp[he])] at hr
   have h2:=zbF hv hU hI hT at_ l q.1 r (λ y hy=>hl y (List.mem_cons_of_mem _ hy)) (hs.ok he) hr
   exact⟨h2.out.trans hs.out,h2.in_,h2.fin⟩
  ·
   rw[if_pos he] at hr
   injection hr with hr;subst hr
   exact hs.bad he rfl
theorem tell_left(a:RSt)(k:Nat)(s:Str):(a.tell k s).left=a.left:=by unfold RSt.tell;split <;> rfl
theorem tell_out'(a:RSt)(k:Nat)(s:Str):(a.tell k s).out=a.out:=by unfold RSt.tell;split <;> rfl
theorem simple_new(hv:zC t=true)(hU:Ur t path U)(hI:SI t path U I)(hT:ImpTr t path I)(n:New t path st s)(hs:U s)(j:J t path U R st){r:RSt×Int×Int}(hr:newF t path I st s (Za t path st s)=some r):Rs t path U R st r.2.2 r.1:=by
 have hlk:=look_find j.fnd n
 unfold newF at hr
 rw[if_neg n.kind] at hr
 obtain⟨q,hq,hr⟩:=bs hr
 have hrt:=run_tr hv hT hq
 have jb:J t path U (R+bl t path s) (st.begin s (Za t path st s)):=⟨j.wf.begin _ n.gone n.up,j.up.bgU n _,j.told.bgT j.up n _,j.fnd.bgF n,
  λ m hm=>(List.mem_append.1 hm).elim (j.all m) λ h=>by rw[List.mem_singleton.1 h],
  λ m hm=>(List.mem_append.1 hm).elim (j.in_ m) λ h=>by rw[List.mem_singleton.1 h];exact hs,by
  have hp:=j.pot
  show(120:Int)+((R+bl t path s:Nat):Int)<=st.left+(blS t path ((st.mods++[_]).map (λ m:GMod=>m.name)):Nat)
  unfold blS at hp ⊢
  rw[List.map_append,List.map_append,List.sum_append]
  show(120:Int)+((R+bl t path s:Nat):Int)<=st.left+(((st.mods.map (·.name)).map (bl t path)).sum+(bl t path s+0):Nat)
  omega⟩
 have hq2:Rs t path U R st q.2 q.1:=by
  unfold runF at hq
  rw[hlk] at hq
  cases hc:cmpI .geq (find t.files path s).file 0 with
  |
   true=>
   rw[hc,if_pos rfl] at hq
   have hsim:=hU.simple s hs
   unfold XO at hsim
   rw[X9] at hc
   have hc':cmpI .lss (find t.files path s).file 0=false:=by simpa using hc
   rw[hc',Bool.false_or,List.all_eq_true] at hsim
   have hbl:bl t path s=(Yf t.files (find t.files path s).file).body.length:=by unfold bl;rw[X9,hc',if_pos (by decide)]
   rw[hbl,hlk] at jb
   have:=zbF hv hU hI hT st.mods.length _ _ q (λ x hx=>⟨hsim x hx,λ hk=>hU.edge s hs _ (mod_edge hc' hx hk (Zb (Xk hv _ x hx) hk))⟩) jb hq
   exact⟨this.out,this.in_,this.fin⟩
  |
   false=>
   rw[hc,if_neg (by decide)] at hq
   injection hq with hq;subst hq
   rw[hlk] at jb
   have hbl:bl t path s=0:=by unfold bl;rw[hc,if_neg (by decide)]
   rw[hbl] at jb
   exact J.rs jb rfl
 by_cases he:q.2=0
 ·
  rw[if_neg (by simp[he])] at hr
  injection hr with hr;subst hr
  have j1:=hq2.ok he
  have sm:Sm q.1 ((q.1.done st.mods.length s).tell st.mods.length s):=by
   have s1:=done_sm q.1 st.mods.length s
   have s2:=tell_sm (q.1.done st.mods.length s) st.mods.length s
   refine⟨s2.1.trans s1.1,λ i m hm=>?_⟩
   obtain⟨m1,k1,k2⟩:=s1.2 i m hm
   obtain⟨m2,k3,k4⟩:=s2.2 i m1 k1
   exact⟨m2,k3,k2.trans k4⟩
  have hg:Tr t path st ((q.1.done st.mods.length s).tell st.mods.length s) 0:=.good n (hrt.to0 he)
  refine⟨(tell_out' ..).trans hq2.out,zbj sm.names j1.in_,.inl ⟨rfl,hg.wf j.wf,(hg.told j.wf j.up j.told).2 rfl,(hg.told j.wf j.up j.told).1,hg.fnd j.fnd,λ m hm=>?_,zbj sm.names j1.in_,?_⟩⟩
  ·
   obtain⟨i,hi⟩:=List.getElem?_of_mem hm
   obtain⟨y,h1,h2⟩:=sm.back hi
   rw[h2.cached]
   exact j1.all y (List.mem_of_getElem? h1)
  ·
   rw[sm.names,tell_left]
   exact j1.pot
 ·
  rw[if_pos he] at hr
  injection hr with hr;subst hr
  refine⟨hq2.out,λ m hm=>?_,hq2.fin.elim (λ h=>absurd h.1 he) .inr⟩
  obtain⟨i,hi⟩:=List.getElem?_of_mem hm
  obtain⟨y,h1,h2⟩:=WE hi
  have h3:=hq2.in_ y (List.mem_of_getElem? h1)
  rcases h2 with⟨rfl,_⟩ | ⟨_,rfl⟩
  ·
   exact h3
  ·
   exact h3
theorem zcD(hv:zC t=true)(hU:Ur t path U):∀ n,SI t path U (imp t path n)
 | 0=>λ _ _ _ _ _ _ h=>by cases h
 |
  n+1=>by
  intro st s r R j hs h
  unfold imp impF at h
  have hhit:∀ {b:RSt},J t path U R b->b.out=st.out->cmpI .geq (cix b s) 0=true->∀ {r:RSt×Int×Int},some (b.hit (cix b s).toNat s,cix b s,(0:Int))=some r->Rs t path U R st r.2.2 r.1:=λ{b} jb ho hc r hr=>by
   injection hr with hr;subst hr
   obtain⟨m,h1,h2⟩:=hit_of _ _ hc
   exact(J.tr (.hit b _ _ h1 h2) ⟨rfl,λ _ m h=>⟨m,h,Kept.refl m⟩⟩ (Int.le_refl _) jb).rs ho
  split at h
  ·
   rename_i hc
   exact hhit j rfl hc h
  ·
   obtain⟨q,hq,hr⟩:=bs h
   have hT:=imp_tr (path:=path) hv n
   have hI:=zcD hv hU n
   have hpar:Rs t path U R st q.2.2 q.1/\(q.2.2=0->zv s=emptyS\/∃ m∈q.1.mods,hits (zv s) m=true):=by
    split at hq
    ·
     rename_i he
     injection hq with hq;subst hq
     exact⟨j.rs rfl,λ _=>.inl he⟩
    ·
     rename_i he
     have hp:=hU.up s hs he
     exact⟨hI _ _ _ _ j hp hq,λ e=>.inr (let⟨m,k1,k2⟩:=(hT _ _ _ (hU.valid _ hp) hq).2 e;⟨m,List.mem_of_getElem? k1,k2⟩)⟩
   obtain⟨h1,h2⟩:=hpar
   by_cases he:q.2.2=0
   ·
    rw[if_neg (by simp[he])] at hr
    have j1:=h1.ok he
    split at hr
    ·
     rename_i hc
     exact hhit j1 h1.out hc hr
    ·
     rename_i hc
     have hup:=h2 he
     by_cases hk:(Za t path q.1 s).kind=0
     ·
      unfold newF at hr
      rw[if_pos hk] at hr
      injection hr with hr;subst hr
      exact⟨h1.out,h1.in_,.inr ⟨rfl,s,hs,by rw[← zcC j1.fnd (hU.valid _ hs) hup];exact hk⟩⟩
     ·
      have hn:New t path q.1 s:=⟨hU.valid _ hs,XQ (by simpa[cix] using hc),hup,hk⟩
      have:=simple_new hv hU hI hT hn hs j1 hr
      exact⟨this.out.trans h1.out,this.in_,this.fin⟩
   ·
    rw[if_pos he] at hr
    injection hr with hr;subst hr
    exact h1.bad he rfl
theorem simple_ran(hp:path.length<=1048576)(h:JS t path s=true):(∀ x∈evs 0 (logV t path s),x∈wk t path s)/\(ranR t path s).1.out=[]/\((ranR t path s).2.2=0\/((ranR t path s).2.2=1/\missingL t path s≠[])):=by
 unfold JS at h
 rw[Bool.and_eq_true,List.all_eq_true] at h
 obtain⟨hok,hsim⟩:=h
 obtain⟨hv,_,hs⟩:=qe hok
 have hU:=ur_reach (path:=path) hv hs λ x hx=>hsim x ((WY hok).2 hx)
 have hsU:s∈ZS t path s:=(Jw hv hs (ZZ hs) λ _ h=>q9 h).2 (.here (QO _))
 have j0:J t path (·∈ZS t path s) 0 st0:=⟨wf0,up0,told0,fnd0,(λ _ h=>by cases h),(λ _ h=>by cases h),Int.le_refl _⟩
 have hr:=zcD hv hU 483 st0 s _ 0 j0 hsU (ran_ok hv hp hs).1
 refine⟨λ x hx=>?_,hr.out,hr.fin.imp (λ h=>h.1) λ⟨h1,x,h2,h3⟩=>⟨h1,λ e=>?_⟩⟩
 ·
  rw[starts_eq hv hp hs] at hx
  obtain⟨m,hm,rfl⟩:=List.mem_map.1 hx
  exact(WY hok).2 (hr.in_ m hm)
 ·
  have:x∈missingL t path s:=List.mem_filter.2 ⟨(WY hok).2 h2,by unfold missing;rw[h3];rfl⟩
  rw[e] at this
  cases this
open Go.RowKit Tryz
attribute [local irreducible] OpRel OpdR
set_option maxRecDepth 10000
set_option maxHeartbeats 1600000
theorem kN10:fnB prog 10=true:=by kernel_rfl
def jN(R:Rec)(x0:List UInt8):Option Bool:=
if(cmpI .gtr (x0.length:Int) (1048576:Int))=true then(some true)
else((ji x0).bind λ v6=>
(qa v6.1 v6.2.1 v6.2.2).bind λ v14=>
(qb v6.1 v6.2.1 v6.2.2).bind λ v17=>
(xN v14 v17).bind λ v18=>
if((!v18)||cmpI .eql (v14.length:Int) (0:Int))=true then((qb v6.1 v6.2.1 v6.2.2).bind λ v24=>
(xN v14 v24).bind λ v25=>
some v25)
else((qr v6.1 v6.2.1 v6.2.2).bind λ v29=>
(gO ((!v29) == false) (jC R v6.1 v6.2.1 v6.2.2)).bind λ v30=>
(gO ((!v29) == false) (xw v30 v14)).bind λ v31=>
some ((!v29)||v31)))
theorem J0{R:Rec}(hR:R.ok){x0:List UInt8}{r:Bool}(h:jN R x0=some r):Fn prog 3 [dt x0] (dt r):=by
 unfold jN at h
 refine fnx (fn:=f3) 1 func3 rfl (oD rfl) rfl (λ M _ _ st0=>?_)
 refine st0.sq1 [0] (λ _ _ st1=>wp_seq ?_)
 refine st1.sq1 [0,9] (λ _ _ st2=>?_)
 refine st2.cs rfl h (λ _ h3=>?_) (λ _ h4=>wp_skip (za (wp_seq (wp_region_list ?_))))
 ·
  refine st2.sq1 [2] (λ _ _ st5=>wp_ret (zd ?_))
  exact st5.ret rfl rfl h3
 obtain⟨v6,p6,h7⟩:=bsW h4 QJ
 refine st2.segA 6 [13,14,15] [] (λ _ _ st8=>?_)
 refine st8.alA 0 zrTree [13,14,15] [] (λ b10 _ _ _ st10=>?_)
 refine st10.stA 3 0 FldS.id (tp rfl) [14,15] [] (λ _ _ st12=>?_)
 refine st12.segA 2 [4,5] [(3,0)] (λ _ _ st13=>wpList_nil (za ?_))
 obtain⟨v14,p14,h15⟩:=bs h7
 refine st13.sqB (sP 3 (r:=by exact sc rfl (zE (l:=[.tmp 16,.tmp 17,.tmp 18]) rfl kN8 (.cons (tp rfl) (.cons (tp rfl) (.cons (tp rfl) .nil))) ((Jp p14)).fn)<|segC)) [4,5,6] [(3,0)] (λ _ _ st16=>wp_seq ?_)
 obtain⟨v17,p17,v18,p18,h20⟩:=bsB h15
 refine st16.sqB (sP 4 (r:=by exact sc rfl (zE (l:=[.tmp 21,.tmp 22,.tmp 23]) rfl kN10 (.cons (tp rfl) (.cons (tp rfl) (.cons (tp rfl) .nil))) ((Jq p17)).fn)<|sc rfl (oK (X6 p18))<|segC)) [4,5,6,31] [(3,0)] (λ _ _ st21=>?_)
 refine st21.cs rfl h20 (λ _ h22=>?_) (λ _ h23=>wp_skip (za ?_))
 ·
  obtain⟨v24,p24,v25,p25,h27⟩:=bsB h22
  refine st21.sq2 (sP 4 (r:=by exact sc rfl (zE (l:=[.tmp 33,.tmp 34,.tmp 35]) rfl kN10 (.cons (tp rfl) (.cons (tp rfl) (.cons (tp rfl) .nil))) ((Jq p24)).fn)<|sc rfl (oK (X6 p25))<|segC)) [2] (λ _ _ st28=>wp_ret (zd ?_))
  exact st28.ret rfl rfl h27
 obtain⟨v29,p29,v30,p30,v31,p31,h34⟩:=bsC h23
 refine st21.sq2 (sP 3 (r:=by exact sc rfl (oK (zbL p29))<|sP 5 (r:=by exact sg rfl rfl (λ hg=>oK (FnN.fn<|zax hR (gh hg p30)))<|sP 1 (r:=by exact sg rfl rfl (λ hg=>oK (QI (gh hg p31)))<|segC)))) [2] (λ _ _ st35=>wp_ret ?_)
 exact st35.ret rfl rfl h34
open Go.RowKit Tryz
theorem J1(c:List UInt8):jN (scc Wb) c=some true:=by
 unfold jN
 refine law_of_draw (zck c) λ t path s ht hp3 hn=>?_
 have hp:path.length<=1048576:=by omega
 have hl0:=evV_len (t:=t) (s:=s) hp 0
 have hlen:=zcr (t:=t) (path:=path) (s:=s)
 have hE:=same_texts (l:=wk t path s) (by omega)
 dsimp only
 rw[zcw ht hp hn,obS,zbU ht hp hn,obS,hE,obS]
 cases hz:cmpI .eql ((wk t path s).length:Int) 0 with
 | true=>rw[if_pos (by decide),obS,hE];rfl
 |
  false=>
  rw[if_neg (by decide),IsSimple_eq ht hp hn,obS]
  cases hsi:JS t path s with
  | false=>rfl
  |
   true=>
   have hok:okG t path s=true:=by
    have h:=hsi
    unfold JS at h
    rw[Bool.and_eq_true] at h
    exact h.1
   have hw:xw (evV 0 t path s) (wk t path s)=some true:=within_all (by omega) (by omega) λ y hy=>(simple_ran hp hsi).1 y (by rw[← evV_ok hok];exact hy)
   rw[show(((!true) == false):Bool)=true from rfl,Xg,StartOrder_eq ht hp hn,obS,Xg,hw]
   rfl
theorem zaO(c:List UInt8):Fn prog 3 [dt c] (dt true):=J0 (Wl Wb) (J1 c)
end Go.Proofs.YtpmkkijamfgaeaaGreatDoor
