import Derived.Test.YtpmkkijamfgaeaaGreatDoorRQ
import Derived.Test.YtpmkkijamfgaeaaGreatDoorRB
import Derived.Test.YtpmkkijamfgaeaaGreatDoorRO
import Derived.Test.YtpmkkijamfgaeaaGreatDoorRKc
import Derived.Test.YtpmkkijamfgaeaaGreatDoorRK
import Derived.Test.YtpmkkijamfgaeaaGreatDoorRT
namespace Go.Proofs.YtpmkkijamfgaeaaGreatDoor
open Go.RowKit Tryz
variable{t:Tree}{path:List Int}{a b st:RSt}{e:Int}{s:Str}{U:Str->Prop}{R:Nat}{I:RImp}
theorem za8:∀ (k:Nat) {n:Str},(zg n dot).length=k->zd n=true->(∀ x∈yK n,zr x≠emptyS->zr x∈yK n)/\qQ n∈yK n:=by
 intro k
 induction k with
 | zero=>intro n hk;have:=qh n;omega
 |
  succ k ih=>
  intro n hk hn
  by_cases h:zr n=emptyS
  ·
   refine⟨λ x hx hp=>?_,?_⟩
   ·
    rw[above_one hn h] at hx
    simp only[List.mem_singleton] at hx
    rw[hx] at hp
    exact absurd h hp
   ·
    unfold qQ
    rw[XK hn h,above_one hn h]
    exact List.mem_singleton.2 rfl
  ·
   obtain⟨e1,e2⟩:=jG hn h
   obtain⟨h1,h2⟩:=ih (by omega) e2
   refine⟨λ x hx hp=>?_,?_⟩
   ·
    rw[above_up hn h] at hx ⊢
    rcases List.mem_append.1 hx with hx | hx
    ·
     exact List.mem_append_left _ (h1 x hx hp)
    ·
     simp only[List.mem_singleton] at hx
     rw[hx]
     exact List.mem_append_left _ (QB _)
   ·
    rw[above_up hn h]
    refine List.mem_append_left _ ?_
    have h3:=qh (zr n)
    unfold qQ at h2 ⊢
    rw[zaw hn h]
    cases hl:zg (zr n) dot with
    | nil=>rw[hl] at h3;simp at h3
    | cons x l=>rw[hl] at h2;exact h2
structure Ur(t:Tree)(path:List Int)(U:Str->Prop):Prop where
 valid:∀ x,U x->zd x=true
 up:∀ x,U x->zr x≠emptyS->U (zr x)
 edge:∀ x,U x->∀ y∈wV t.files path x,U y
 simple:∀ x,U x->Zj t path x=true
theorem edge_par{x y:Str}(h:y∈wV t.files path x)(hp:zr y≠emptyS):zr y∈wV t.files path x:=by
 unfold wV at h ⊢
 obtain⟨z,hz,hy⟩:=List.mem_flatMap.1 (XF.1 h)
 exact XF.2 (List.mem_flatMap.2 ⟨z,hz,(za8 _ rfl (ZE hz)).1 y hy hp⟩)
theorem ur_reach(hv:zw t=true)(hs:zd s=true)(h:∀ x∈ZR t path s,Zj t path x=true):Ur t path (·∈ZR t path s) where
 valid x hx:=WM hv hs hx
 up x hx hp:=by
  have hi:∀ {y:Str},y∈ZR t path s ↔ Way (wV t.files path) (yK s) y:=Jo hv hs (Z1 hs) λ _ h=>Zi h
  rw[hi] at hx ⊢
  cases hx with
  | here hx=>exact .here ((za8 _ rfl hs).1 x hx hp)
  | step hy hx=>exact .step hy (edge_par hx hp)
 edge x hx y hy:=zb9 hv hs (Z1 hs) (λ _ h=>Zi h) hx hy
 simple:=h
theorem mod_edge{n:Str}{x:Stmt}(hf:cmpI .lss (find t.files path n).file 0=false)(hx:x∈(Yi t.files (find t.files path n).file).body)(hk:x.kind=0\/x.kind=2)(hm:zd x.module=true):x.module∈wV t.files path n:=by
 unfold wV
 refine XF.2 (List.mem_flatMap.2 ⟨x.module,?_,QB _⟩)
 unfold Zp QF
 rw[hf,if_neg (by decide)]
 refine XF.2 (List.mem_filter.2 ⟨List.mem_map.2 ⟨x,hx,?_⟩,hm⟩)
 unfold Ze
 rw[if_pos (by rcases hk with h | h <;> rw[h] <;> rfl)]
def bl(t:Tree)(path:List Int)(x:Str):Nat:=if cmpI .geq (find t.files path x).file 0=true then(Yi t.files (find t.files path x).file).body.length else 0
def blS(t:Tree)(path:List Int)(l:List Str):Nat:=(l.map (bl t path)).sum
theorem bl_le(hv:zw t=true){x:Str}(hx:zd x=true):bl t path x<=8:=by
 unfold bl
 cases h:cmpI .lss (find t.files path x).file 0 with
 | true=>rw[Xd,h,if_neg (by decide)];omega
 |
  false=>
  rw[Xd,h,if_pos (by decide)]
  obtain⟨f,h1,h2,_⟩:=Zf hv hx h
  rw[Zg h1]
  exact jJ (xW hv h2)
theorem blS_le(hv:zw t=true):∀ l:List Str,(∀ x∈l,zd x=true)->blS t path l<=8*(l.filter λ x=>cmpI .geq (find t.files path x).file 0).length
 | [],_=>Nat.le_refl _
 |
  x::l,h=>by
  have ih:=blS_le hv l λ y hy=>h y (List.mem_cons_of_mem _ hy)
  have hx:=bl_le (path:=path) hv (h x (List.mem_cons_self ..))
  unfold blS at ih ⊢
  rw[List.map_cons,List.sum_cons]
  cases hc:cmpI .geq (find t.files path x).file 0 with
  | true=>rw[List.filter_cons_of_pos (by simpa using hc),List.length_cons];omega
  |
   false=>
   rw[List.filter_cons_of_neg (by simp[hc])]
   have:bl t path x=0:=by unfold bl;rw[hc,if_neg (by decide)]
   omega
theorem blS_96(hv:zw t=true){l:List Str}(hn:l.Nodup)(h:∀ x∈l,zd x=true):blS t path l<=96:=by
 have h1:=blS_le (path:=path) hv l h
 have h2:(l.filter λ x=>cmpI .geq (find t.files path x).file 0).length<=(t.files.map xf).length:=Zc (hn.filter _) λ x hx=>by
  obtain⟨h3,h4⟩:=List.mem_filter.1 hx
  rw[Xd] at h4
  obtain⟨f,_,k2,k3,_⟩:=Zf hv (h x h3) (by simpa using h4)
  exact List.mem_map.2 ⟨f,k2,k3⟩
 have h3:=J8 hv
 rw[List.length_map] at h2
 omega
structure J(t:Tree)(path:List Int)(U:Str->Prop)(R:Nat)(st:RSt):Prop where
 wf:Wf st
 up:Upw st
 told:Told st
 fnd:Fnd t path st
 all:∀ m∈st.mods,m.cached=true
 in_:∀ m∈st.mods,U m.name
 pot:(120:Int)+R<=st.left+blS t path (st.mods.map (·.name))
theorem J.apart(j:J t path U R st):(st.mods.map (·.name)).Nodup:=by
 rw[List.Nodup,List.pairwise_iff_getElem]
 intro i k hi hk hik e
 rw[List.length_map] at hi hk
 rw[List.getElem_map,List.getElem_map] at e
 have:=j.wf.dist i k _ _ (List.getElem?_eq_getElem hi) (List.getElem?_eq_getElem hk) (j.all _ (List.getElem_mem hi)) (j.all _ (List.getElem_mem hk)) e
 omega
theorem J.left(hv:zw t=true)(j:J t path U R st):(R:Int)+24<=st.left:=by
 have h:=j.pot
 have h2:=blS_96 (path:=path) hv j.apart λ x hx=>by
  obtain⟨m,h3,rfl⟩:=List.mem_map.1 hx
  obtain⟨i,hi⟩:=List.getElem?_of_mem h3
  exact(j.fnd i m hi).1
 omega
theorem Sm.names(h:Sm a b):b.mods.map (·.name)=a.mods.map (·.name):=by
 refine List.ext_getElem? λ i=>?_
 rw[List.getElem?_map,List.getElem?_map]
 cases hb:b.mods[i]? with
 |
  none=>
  rw[show a.mods[i]?=none from List.getElem?_eq_none (by have:=List.getElem?_eq_none_iff.1 hb;rw[← h.1];exact this)]
 |
  some m'=>
  obtain⟨m,h1,h2⟩:=h.back hb
  rw[h1]
  show some m'.name=some m.name
  rw[h2.name]
theorem za9{U:Str->Prop}{l m:List GMod}(h:m.map (·.name)=l.map (·.name))(hl:∀ x∈l,U x.name):∀ x∈m,U x.name:=λ x hx=>by
 have h1:x.name∈l.map (·.name):=by rw[← h];exact List.mem_map.2 ⟨x,hx,rfl⟩
 obtain⟨y,hy,e⟩:=List.mem_map.1 h1
 rw[← e]
 exact hl y hy
theorem J.tr(h:Tr t path a b 0)(k:Sm a b){Q:Nat}(hl:(Q:Int)+a.left<=R+b.left)(j:J t path U R a):J t path U Q b where
 wf:=h.wf j.wf
 up:=(h.told j.wf j.up j.told).2 rfl
 told:=(h.told j.wf j.up j.told).1
 fnd:=h.fnd j.fnd
 all m hm:=by
  obtain⟨i,hi⟩:=List.getElem?_of_mem hm
  obtain⟨y,h1,h2⟩:=k.back hi
  rw[h2.cached]
  exact j.all y (List.mem_of_getElem? h1)
 in_:=za9 k.names j.in_
 pot:=by
  have:=j.pot
  rw[k.names]
  omega
theorem J.give(j:J t path U R st)(k:Nat)(s:Str)(v:GVal):J t path U R (st.give k s v):=J.tr (.give st k s v) (zav ..) (Int.le_refl _) j
structure Rs(t:Tree)(path:List Int)(U:Str->Prop)(R:Nat)(st:RSt)(e:Int)(b:RSt):Prop where
 out:b.out=st.out
 in_:∀ m∈b.mods,U m.name
 fin:(e=0/\J t path U R b)\/(e=1/\∃ x,U x/\(find t.files path x).kind=0)
theorem J.rs(j:J t path U R b)(h:b.out=st.out):Rs t path U R st 0 b:=⟨h,j.in_,.inl ⟨rfl,j⟩⟩
theorem Rs.ok(h:Rs t path U R st e b)(he:e=0):J t path U R b:=by
 rcases h.fin with⟨_,j⟩ | ⟨h1,_⟩
 ·
  exact j
 ·
  omega
theorem Rs.bad{Q:Nat}(h:Rs t path U R a e b)(he:e≠0)(ho:a.out=st.out):Rs t path U Q st e b:=⟨h.out.trans ho,h.in_,h.fin.elim (λ h=>absurd h.1 he) .inr⟩
def SI(t:Tree)(path:List Int)(U:Str->Prop)(I:RImp):Prop:=∀ (st:RSt) (s:Str) (r:RSt×Int×Int) (R:Nat),J t path U R st->U s->I st s=some r->Rs t path U R st r.2.2 r.1
theorem star_j{k:Nat}:∀ (l:List GAttr) (st:RSt),J t path U R st->J t path U R (Jr k l st)/\(Jr k l st).out=st.out
 | [],_,j=>⟨j,rfl⟩
 |
  x::l,st,j=>by
  unfold Jr
  rw[List.foldl_cons]
  split
  ·
   exact star_j l st j
  ·
   exact star_j l _ (j.give ..)
theorem lss_of_has{s:Str}(h:∃ (i:Nat) (m:GMod),a.mods[i]?=some m/\hits s m=true):cmpI .lss (cix a s) 0=false:=by
 obtain⟨i,m,h1,h2⟩:=h
 rcases qj a s with⟨_,k2⟩ | ⟨k,m',k1,_⟩
 ·
  rw[k2 m (List.mem_of_getElem? h1)] at h2;cases h2
 ·
  rw[k1];exact XJ k
theorem simple_stmt(hU:Ur t path U)(hI:SI t path U I)(hT:ImpTr t path I){at_:Nat}{x:Stmt}(hx:xD x=true)(hm:x.kind=0\/x.kind=2->U x.module)(j:J t path U R st){r:RSt×Int}(hr:Yl t path I st at_ x=some r):Rs t path U R st r.2 r.1:=by
 unfold Yl at hr
 by_cases h0:x.kind=0
 ·
  rw[if_pos h0] at hr
  have hmod:=hm (.inl h0)
  obtain⟨q,hq,hr⟩:=bs hr
  have hs:=hI st x.module q R j hmod hq
  by_cases he:q.2.2=0
  ·
   rw[if_neg (by simp[he])] at hr
   have j1:=hs.ok he
   obtain⟨m,m1,m2⟩:=(hT _ _ _ (hU.valid _ hmod) hq).2 he
   have hf:=up_above j1.up _ rfl (hU.valid _ hmod) ⟨_,m,m1,m2⟩ _ (za8 _ rfl (hU.valid _ hmod)).2
   rw[if_neg (by rw[lss_of_has hf];decide)] at hr
   injection hr with hr;subst hr
   exact(j1.give ..).rs hs.out
  ·
   rw[if_pos he] at hr
   injection hr with hr;subst hr
   exact hs.bad he rfl
 ·
  rw[if_neg h0] at hr
  by_cases h2:x.kind=2
  ·
   rw[if_neg (by omega),if_pos h2] at hr
   obtain⟨q,hq,hr⟩:=bs hr
   have hs:=hI st x.module q R j (hm (.inr h2)) hq
   by_cases he:q.2.2=0
   ·
    rw[if_neg (by simp[he])] at hr
    injection hr with hr;subst hr
    obtain⟨k1,k2⟩:=star_j (k:=at_) (q.1.attrsAt q.2.1.toNat) q.1 (hs.ok he)
    exact k1.rs (k2.trans hs.out)
   ·
    rw[if_pos he] at hr
    injection hr with hr;subst hr
    exact hs.bad he rfl
  ·
   have h3:x.kind=3:=by
    unfold xD at hx
    simp only[Bool.or_eq_true,cmpI,beq_iff_eq] at hx
    omega
   rw[if_neg (by omega),if_neg h2,if_pos h3] at hr
   injection hr with hr;subst hr
   exact(j.give ..).rs rfl
theorem zbs(hv:zw t=true)(hU:Ur t path U)(hI:SI t path U I)(hT:ImpTr t path I)(at_:Nat):∀ (l:List Stmt) (st:RSt) (r:RSt×Int),(∀ x∈l,xD x=true/\(x.kind=0\/x.kind=2->U x.module))->J t path U (R+l.length) st->Js t path I at_ l st=some r->Rs t path U R st r.2 r.1
 |
  [],st,r,_,j,hr=>by
  injection hr with hr;subst hr
  exact J.rs j rfl
 |
  x::l,st,r,hl,j,hr=>by
  unfold Js at hr
  have hlf:=j.left hv
  rw[if_neg (by omega)] at hr
  obtain⟨q,hq,hr⟩:=bs hr
  have j1:J t path U (R+l.length) { st with left:=st.left - 1 }:=J.tr (.tick st) ⟨rfl,λ _ m h=>⟨m,h,Kept.refl m⟩⟩ (by rw[List.length_cons];show((R+l.length:Nat):Int)+st.left<=((R+(l.length+1):Nat):Int)+(st.left - 1);omega) j
  have hx:=hl x (List.mem_cons_self ..)
  have hs:=simple_stmt hU hI hT hx.1 hx.2 j1 hq
  by_cases he:q.2=0
  ·
   rw[if_neg (by simp[he])] at hr
   have h2:=zbs hv hU hI hT at_ l q.1 r (λ y hy=>hl y (List.mem_cons_of_mem _ hy)) (hs.ok he) hr
   exact⟨h2.out.trans hs.out,h2.in_,h2.fin⟩
  ·
   rw[if_pos he] at hr
   injection hr with hr;subst hr
   exact hs.bad he rfl
theorem tell_left(a:RSt)(k:Nat)(s:Str):(a.tell k s).left=a.left:=by unfold RSt.tell;split <;> rfl
theorem tell_out'(a:RSt)(k:Nat)(s:Str):(a.tell k s).out=a.out:=by unfold RSt.tell;split <;> rfl
theorem simple_new(hv:zw t=true)(hU:Ur t path U)(hI:SI t path U I)(hT:ImpTr t path I)(n:New t path st s)(hs:U s)(j:J t path U R st){r:RSt×Int×Int}(hr:newF t path I st s (xy t path st s)=some r):Rs t path U R st r.2.2 r.1:=by
 have hlk:=look_find j.fnd n
 unfold newF at hr
 rw[if_neg n.kind] at hr
 obtain⟨q,hq,hr⟩:=bs hr
 have hrt:=run_tr hv hT hq
 have jb:J t path U (R+bl t path s) (st.begin s (xy t path st s)):=⟨j.wf.begin _ n.gone n.up,j.up.bgU n _,j.told.bgT j.up n _,j.fnd.bgF n,
  λ m hm=>(List.mem_append.1 hm).elim (j.all m) λ h=>by rw[List.mem_singleton.1 h],
  λ m hm=>(List.mem_append.1 hm).elim (j.in_ m) λ h=>by rw[List.mem_singleton.1 h];exact hs,by
  have hp:=j.pot
  show(120:Int)+((R+bl t path s:Nat):Int)<=st.left+(blS t path ((st.mods++[_]).map (λ m:GMod=>m.name)):Nat)
  unfold blS at hp ⊢
  rw[List.map_append,List.map_append,List.sum_append]
  show(120:Int)+((R+bl t path s:Nat):Int)<=st.left+(((st.mods.map (·.name)).map (bl t path)).sum+(bl t path s+0):Nat)
  omega⟩
 have hq2:Rs t path U R st q.2 q.1:=by
  unfold runF at hq
  rw[hlk] at hq
  cases hc:cmpI .geq (find t.files path s).file 0 with
  |
   true=>
   rw[hc,if_pos rfl] at hq
   have hsim:=hU.simple s hs
   unfold Zj at hsim
   rw[Xd] at hc
   have hc':cmpI .lss (find t.files path s).file 0=false:=by simpa using hc
   rw[hc',Bool.false_or,List.all_eq_true] at hsim
   have hbl:bl t path s=(Yi t.files (find t.files path s).file).body.length:=by unfold bl;rw[Xd,hc',if_pos (by decide)]
   rw[hbl,hlk] at jb
   have:=zbs hv hU hI hT st.mods.length _ _ q (λ x hx=>⟨hsim x hx,λ hk=>hU.edge s hs _ (mod_edge hc' hx hk (Zl (Xh hv _ x hx) hk))⟩) jb hq
   exact⟨this.out,this.in_,this.fin⟩
  |
   false=>
   rw[hc,if_neg (by decide)] at hq
   injection hq with hq;subst hq
   rw[hlk] at jb
   have hbl:bl t path s=0:=by unfold bl;rw[hc,if_neg (by decide)]
   rw[hbl] at jb
   exact J.rs jb rfl
 by_cases he:q.2=0
 ·
  rw[if_neg (by simp[he])] at hr
  injection hr with hr;subst hr
  have j1:=hq2.ok he
  have sm:Sm q.1 ((q.1.done st.mods.length s).tell st.mods.length s):=by
   have s1:=done_sm q.1 st.mods.length s
   have s2:=tell_sm (q.1.done st.mods.length s) st.mods.length s
   refine⟨s2.1.trans s1.1,λ i m hm=>?_⟩
   obtain⟨m1,k1,k2⟩:=s1.2 i m hm
   obtain⟨m2,k3,k4⟩:=s2.2 i m1 k1
   exact⟨m2,k3,k2.trans k4⟩
  have hg:Tr t path st ((q.1.done st.mods.length s).tell st.mods.length s) 0:=.good n (hrt.to0 he)
  refine⟨(tell_out' ..).trans hq2.out,za9 sm.names j1.in_,.inl ⟨rfl,hg.wf j.wf,(hg.told j.wf j.up j.told).2 rfl,(hg.told j.wf j.up j.told).1,hg.fnd j.fnd,λ m hm=>?_,za9 sm.names j1.in_,?_⟩⟩
  ·
   obtain⟨i,hi⟩:=List.getElem?_of_mem hm
   obtain⟨y,h1,h2⟩:=sm.back hi
   rw[h2.cached]
   exact j1.all y (List.mem_of_getElem? h1)
  ·
   rw[sm.names,tell_left]
   exact j1.pot
 ·
  rw[if_pos he] at hr
  injection hr with hr;subst hr
  refine⟨hq2.out,λ m hm=>?_,hq2.fin.elim (λ h=>absurd h.1 he) .inr⟩
  obtain⟨i,hi⟩:=List.getElem?_of_mem hm
  obtain⟨y,h1,h2⟩:=Wr hi
  have h3:=hq2.in_ y (List.mem_of_getElem? h1)
  rcases h2 with⟨rfl,_⟩ | ⟨_,rfl⟩
  ·
   exact h3
  ·
   exact h3
theorem zcm(hv:zw t=true)(hU:Ur t path U):∀ n,SI t path U (imp t path n)
 | 0=>λ _ _ _ _ _ _ h=>by cases h
 |
  n+1=>by
  intro st s r R j hs h
  unfold imp impF at h
  have hhit:∀ {b:RSt},J t path U R b->b.out=st.out->cmpI .geq (cix b s) 0=true->∀ {r:RSt×Int×Int},some (b.hit (cix b s).toNat s,cix b s,(0:Int))=some r->Rs t path U R st r.2.2 r.1:=λ{b} jb ho hc r hr=>by
   injection hr with hr;subst hr
   obtain⟨m,h1,h2⟩:=hit_of _ _ hc
   exact(J.tr (.hit b _ _ h1 h2) ⟨rfl,λ _ m h=>⟨m,h,Kept.refl m⟩⟩ (Int.le_refl _) jb).rs ho
  split at h
  ·
   rename_i hc
   exact hhit j rfl hc h
  ·
   obtain⟨q,hq,hr⟩:=bs h
   have hT:=imp_tr (path:=path) hv n
   have hI:=zcm hv hU n
   have hpar:Rs t path U R st q.2.2 q.1/\(q.2.2=0->zr s=emptyS\/∃ m∈q.1.mods,hits (zr s) m=true):=by
    split at hq
    ·
     rename_i he
     injection hq with hq;subst hq
     exact⟨j.rs rfl,λ _=>.inl he⟩
    ·
     rename_i he
     have hp:=hU.up s hs he
     exact⟨hI _ _ _ _ j hp hq,λ e=>.inr (let⟨m,k1,k2⟩:=(hT _ _ _ (hU.valid _ hp) hq).2 e;⟨m,List.mem_of_getElem? k1,k2⟩)⟩
   obtain⟨h1,h2⟩:=hpar
   by_cases he:q.2.2=0
   ·
    rw[if_neg (by simp[he])] at hr
    have j1:=h1.ok he
    split at hr
    ·
     rename_i hc
     exact hhit j1 h1.out hc hr
    ·
     rename_i hc
     have hup:=h2 he
     by_cases hk:(xy t path q.1 s).kind=0
     ·
      unfold newF at hr
      rw[if_pos hk] at hr
      injection hr with hr;subst hr
      exact⟨h1.out,h1.in_,.inr ⟨rfl,s,hs,by rw[← zcj j1.fnd (hU.valid _ hs) hup];exact hk⟩⟩
     ·
      have hn:New t path q.1 s:=⟨hU.valid _ hs,XI (by simpa[cix] using hc),hup,hk⟩
      have:=simple_new hv hU hI hT hn hs j1 hr
      exact⟨this.out.trans h1.out,this.in_,this.fin⟩
   ·
    rw[if_pos he] at hr
    injection hr with hr;subst hr
    exact h1.bad he rfl
theorem simple_ran(hp:path.length<=1048576)(h:Xf t path s=true):(∀ x∈evs 0 (logV t path s),x∈qg t path s)/\(ranR t path s).1.out=[]/\((ranR t path s).2.2=0\/((ranR t path s).2.2=1/\Wl t path s≠[])):=by
 unfold Xf at h
 rw[Bool.and_eq_true,List.all_eq_true] at h
 obtain⟨hok,hsim⟩:=h
 obtain⟨hv,_,hs⟩:=Zh hok
 have hU:=ur_reach (path:=path) hv hs λ x hx=>hsim x ((WN hok).2 hx)
 have hsU:s∈ZR t path s:=(Jo hv hs (Z1 hs) λ _ h=>Zi h).2 (.here (QB _))
 have j0:J t path (·∈ZR t path s) 0 st0:=⟨wf0,up0,told0,fnd0,(λ _ h=>by cases h),(λ _ h=>by cases h),Int.le_refl _⟩
 have hr:=zcm hv hU 483 st0 s _ 0 j0 hsU (ran_ok hv hp hs).1
 refine⟨λ x hx=>?_,hr.out,hr.fin.imp (λ h=>h.1) λ⟨h1,x,h2,h3⟩=>⟨h1,λ e=>?_⟩⟩
 ·
  rw[starts_eq hv hp hs] at hx
  obtain⟨m,hm,rfl⟩:=List.mem_map.1 hx
  exact(WN hok).2 (hr.in_ m hm)
 ·
  have:x∈Wl t path s:=List.mem_filter.2 ⟨(WN hok).2 h2,by unfold WL;rw[h3];rfl⟩
  rw[e] at this
  cases this
open Go.RowKit Tryz
attribute [local irreducible] OpRel OpdR
set_option maxRecDepth 10000
set_option maxHeartbeats 1600000
theorem kN17:fnB prog 17=true:=by kernel_rfl
def qR(R:Rec)(x0:List UInt8):Option Bool:=
if(cmpI .gtr (x0.length:Int) (1048576:Int))=true then(some true)
else((wS x0).bind λ v6=>
(qw v6.1 v6.2.1 v6.2.2).bind λ v14=>
(jv v6.1 v6.2.1 v6.2.2).bind λ v17=>
if((v14 != v17)||(!v14))=true then((jv v6.1 v6.2.1 v6.2.2).bind λ v22=>
some (v14 == v22))
else((qE R v6.1 v6.2.1 v6.2.2).bind λ v25=>
(qe v6.1 v6.2.1 v6.2.2).bind λ v32=>
(atI v25.ends (0:Int)).bind λ v35=>
(gO (cmpI .eql v35 (0:Int) == false) (atI v25.ends (0:Int))).bind λ v36=>
some ((cmpI .eql v35 (0:Int)||(cmpI .eql v36 (1:Int)&&cmpI .gtr (v32.length:Int) (0:Int)))&&cmpI .eql (v25.out.length:Int) (0:Int))))
theorem zay{R:Rec}(hR:R.ok){x0:List UInt8}{r:Bool}(h:qR R x0=some r):Fn prog 4 [dt x0] (dt r):=by
 unfold qR at h
 refine fnx (fn:=f4) 2 func4 rfl (oD rfl) rfl (λ M _ _ st0=>?_)
 refine st0.sq1 [0] (λ _ _ st1=>wp_seq ?_)
 refine st1.sq1 [0,11] (λ _ _ st2=>?_)
 refine st2.cs rfl h (λ _ h3=>?_) (λ _ h4=>wp_skip (za (wp_seq (wp_region_list ?_))))
 ·
  refine st2.sq1 [2] (λ _ _ st5=>wp_ret (ze ?_))
  exact st5.ret rfl rfl h3
 obtain⟨v6,p6,h7⟩:=bsW h4 JR
 refine st2.segA 6 [15,16,17] [] (λ _ _ st8=>?_)
 refine st8.alA 0 zrTree [15,16,17] [] (λ b10 _ _ _ st10=>?_)
 refine st10.stA 3 0 FldS.id (tp rfl) [16,17] [] (λ _ _ st12=>?_)
 refine st12.segA 2 [4,5] [(3,0)] (λ _ _ st13=>wpList_nil (za ?_))
 obtain⟨v14,p14,h15⟩:=bsW h7 zbw
 refine st13.sqC [4,5,6] [(3,0)] (λ _ _ st16=>wp_seq ?_)
 obtain⟨v17,p17,h18⟩:=bs h15
 refine st16.sqB (sP 4 (r:=by exact sc rfl (oK (WT p17))<|sc rfl (op_neT rfl kV4 (tp rfl) (tp rfl))<|segC)) [4,5,6,31] [(3,0)] (λ _ _ st19=>?_)
 refine st19.cs rfl h18 (λ _ h20=>?_) (λ _ h21=>wp_skip (za (wp_seq (wp_region_list ?_))))
 ·
  obtain⟨v22,p22,h23⟩:=bs h20
  refine st19.sq2 (sP 4 (r:=by exact sc rfl (oK (WT p22))<|sc rfl (op_eqT rfl kV4 (tp rfl) (tp rfl))<|segC)) [2] (λ _ _ st24=>wp_ret (ze ?_))
  exact st24.ret rfl rfl h23
 obtain⟨v25,p25,h26⟩:=bsW h21 (zbC hR)
 refine st19.segC 4 [4,5,41] [(3,0)] (λ _ _ st27=>?_)
 refine st27.alA 1 JA [4,5,41] [3] (λ b29 _ _ _ st29=>?_)
 refine st29.stA 7 1 FldS.id (tp rfl) [4,5] [3] (λ _ _ st31=>wpList_nil (za ?_))
 obtain⟨v32,p32,h33⟩:=bs h26
 refine st31.sqB (sP 3 (r:=by exact sc rfl (zH (l:=[.tmp 42,.tmp 43,.tmp 44]) rfl kN17 (.cons (tp rfl) (.cons (tp rfl) (.cons (tp rfl) .nil))) ((zaU p32)).fn)<|segC)) [8] [(7,1)] (λ _ _ st34=>?_)
 obtain⟨v35,p35,v36,p36,h38⟩:=bsB h33
 refine st34.sq2 (sP 2 (r:=by exact sc rfl (xIdx rfl kS26 (tp rfl) cI p35)<|sP 5 (r:=by exact sg rfl rfl (λ hg=>xIdx rfl kS26 (zm hg rfl) cI (gh hg p36))<|sP 2 (r:=by exact sg rfl rfl (λ hg=>oM rfl (zm hg rfl))<|sgg rfl rfl (λ hg=>oM rfl (tp rfl))<|sg rfl rfl (λ hg=>yU rfl (zm hg rfl) (X0 hg rfl))<|segC)))) [2] (λ _ _ st39=>wp_ret ?_)
 exact st39.ret rfl rfl h38
open Go.RowKit Tryz
theorem zaz(c:List UInt8):qR (scc YN) c=some true:=by
 unfold qR
 refine law_of_draw (zbD c) λ t path s ht hp3 hn=>?_
 have hp:path.length<=1048576:=by omega
 dsimp only
 rw[IsSimple_eq ht hp hn,obS,za0 ht hp hn,obS]
 cases hsi:Xf t path s with
 | false=>rfl
 |
  true=>
  have hok:okG t path s=true:=by
   have h:=hsi
   unfold Xf at h
   rw[Bool.and_eq_true] at h
   exact h.1
  obtain⟨_,h2,h3⟩:=simple_ran hp hsi
  rw[if_neg (by decide),importOf_eq ht hp hn hok,obS,MissingOf_eq ht hp hn,obS]
  show((atI [(ranR t path s).2.2] (0:Int)).bind λ v35=>(gO (cmpI .eql v35 (0:Int) == false) (atI [(ranR t path s).2.2] (0:Int))).bind λ v36=>some ((cmpI .eql v35 (0:Int)||(cmpI .eql v36 (1:Int)&&cmpI .gtr ((Wl t path s).length:Int) (0:Int)))&&cmpI .eql ((ranR t path s).1.out.length:Int) (0:Int)))=some true
  rw[h2]
  rcases h3 with h3 | ⟨h3,h4⟩
  ·
   rw[h3]
   rfl
  ·
   have hg:cmpI .gtr ((Wl t path s).length:Int) (0:Int)=true:=by
    have:=List.length_pos_iff.2 h4
    simp only[cmpI,decide_eq_true_eq]
    omega
   rw[h3,hg]
   rfl
theorem zbH(c:List UInt8):Fn prog 4 [dt c] (dt true):=zay (scc_ok YN) (zaz c)
end Go.Proofs.YtpmkkijamfgaeaaGreatDoor
