import Derived.Test.YtoomehfflopakaaGreatDoorTPb
import Derived.Test.YtoomehfflopakaaGreatDoorTP
namespace Go.Proofs.YtoomehfflopakaaGreatDoor
open Go.RowKit
variable{i:Bool}{c:eU}{d:eK}{f:File}{m:eZ}{v:fu}{a e mode:Int}{l:List eU}{lg:List im}{o path roots:List Int}{b:List Stmt}{j k:Nat}{R:Rec}{x:Stmt}{nm p s:Str}{t:Tree}
def sT(b:List Stmt):Int:=b.foldl (λ n s=>n+(3+s.module.l.length+s.name.l.length)) 0
def kC(n k:Int):Int:=(131*n+k+1) % 1000003
def ox(n:Int)(s:Str):Int:=kC (s.l.foldl (λ n b=>kC n b.toNat) n) 0
def sI(b:List Stmt):Int:=b.foldl (λ n s=>ox (ox (kC (kC (kC n s.kind) s.level) s.value) s.module) s.name) 1
def pj(f:File)(mode:Int):eU:=⟨f.root,xe f,f.init,mode,f.stamp,sT f.body,sI f.body,f.body⟩
def og(r:Int)(m:Str)(i:Bool)(c:eU):Bool:=decide (c.root=r)&&decide (c.module=m)&&decide (c.init=i)
theorem uB{r:Int}{m:Str}:og r m i c=true ↔ c.root=r/\c.module=m/\c.init=i:=by simp[og,and_assoc]
def pF(c:eU)(f:File):Bool:=if c.mode=0 then decide (c.stamp=f.stamp)&&decide (c.size=sT f.body) else if c.mode=1 then decide (c.hash=sI f.body) else true
def pN(l:List eU)(f:File):Option Nat:=l.findIdx? (og f.root (xe f) f.init)
def QS(l:List eU)(f:File)(mode:Int):List Stmt×List eU×Bool:=match pN l f with
 | some k=>if pF (l.getD k default) f=true then((l.getD k default).body,l,true) else(f.body,l.set k (pj f mode),false)
 | none=>(f.body,if l.length<12 then l++[pj f mode] else l,false)
structure Eh(c:eU):Prop where
 root:eR c.root 0 2=true
 module:zm c.module=true
 mode:eR c.mode 0 2=true
 stamp:eR c.stamp 0 99=true
 body:gG c.body=true
 size:c.size=sT c.body
 hash:c.hash=sI c.body
structure lC(l:List eU):Prop where
 len:l.length<=12
 all:∀ c∈l,Eh c
 apart:∀ (i j:Nat) (c e:eU),l[i]?=some c->l[j]?=some e->c.root=e.root->c.module=e.module->c.init=e.init->i=j
theorem lC.nil:lC []:=⟨aq _,λ _ h=>(by cases h),λ _ _ _ _ h=>by simp at h⟩
theorem CK(h:pN l f=some k):k<l.length/\l[k]?=some (l.getD k default)/\(l.getD k default).root=f.root/\(l.getD k default).module=xe f/\(l.getD k default).init=f.init:=by
 obtain⟨h1,h2,_⟩:=aU.1 h;have e:l.getD k default=l[k]:=by rw[cA,aa h1];rfl
 rw[e];exact⟨h1,aa h1,uB.1 h2⟩
theorem Tb(h:pN l f=none):∀ c∈l,¬ (c.root=f.root/\c.module=xe f/\c.init=f.init):=λ c hc hk=>by
 have:=bC.1 h c hc;rw[uB.2 hk] at this;cases this
theorem YM(h:z9 f=true):eR f.root 0 2=true/\eR f.stamp 0 99=true/\zm (xe f)=true/\gG f.body=true:=by
 unfold z9 at h;cases h1:eR f.root 0 2 <;> cases h2:eR f.stamp 0 99 <;> cases h3:zi f.pkg <;> cases h4:gG f.body <;> simp only[h1,h2,h3,h4,dz,Bool.not_false,ei,Bool.or_false,bv] at h
 all_goals first
  | (cases h;done)
  | skip
 refine⟨Z,Z,?_,Z⟩;rw[Kf (by decide)] at h;unfold xe;cases hi:f.init with
 |true=>
  rw[hi,Ke Z,ac] at h;rw[Ke Z];unfold zi at h3;have:=oD h.1;rcases bK _ _ ▸ h3 with h5 | h5
  .exact absurd (oD h5) this
  .exact h5
 |false=>rw[hi,Kf (by decide),ac] at h;rw[Kf (by decide)];exact h.2
theorem No(h:z9 f=true)(hm:eR mode 0 2=true):Eh (pj f mode):=
 let⟨h1,h2,h3,h4⟩:=YM h;⟨h1,h3,hm,h2,h4,Z,Z⟩
theorem BW(hs:lC l)(h:z9 f=true)(hm:eR mode 0 2=true):lC (QS l f mode).2.1/\gG (QS l f mode).1=true:=by
 have hc:=No h hm;unfold QS;cases hk:pN l f with
 |none=>
  have hno:=Tb hk;simp only;refine⟨?_,hc.body⟩;split
  .rename_i hl;refine⟨by simp;omega,λ c hx=>(bg.1 hx).elim (hs.all c) λ e=>by rw[aH.1 e];exact hc,λ i j c e hi hj h1 h2 h3=>?_⟩;rw[List.getElem?_append] at hi hj;split at hi <;> split at hj
   .exact hs.apart i j c e hi hj h1 h2 h3
   .have e1:e=pj f mode:=by
     rw[dp] at hj;split at hj
     .injection hj with hj;exact hj.symm
     .cases hj
    exact absurd ⟨by rw[h1,e1];rfl,by rw[h2,e1];rfl,by rw[h3,e1];rfl⟩ (hno c (ae hi))
   .have e1:c=pj f mode:=by
     rw[dp] at hi;split at hi
     .injection hi with hi;exact hi.symm
     .cases hi
    exact absurd ⟨by rw[<-h1,e1];rfl,by rw[<-h2,e1];rfl,by rw[<-h3,e1];rfl⟩ (hno e (ae hj))
   .rw[dp] at hi hj;split at hi
    .split at hj
     .omega
     .cases hj
    .cases hi
  .exact hs
 |some k=>
  obtain⟨k1,k2,k3,k4,k5⟩:=CK hk;simp only;split
  .exact⟨hs,(hs.all _ (ae k2)).body⟩
  .refine⟨⟨by simp;exact hs.len,λ c hx=>(cF hx).elim (hs.all c) λ e=>by rw[e];exact hc,λ i j c e hi hj h1 h2 h3=>?_⟩,hc.body⟩;rw[List.getElem?_set] at hi hj;generalize l.getD k default=x at k2 k3 k4 k5;split at hi <;> split at hj
   .omega
   .rename_i e1 e2;subst e1;have ec:=(bV hi).symm;refine hs.apart _ j x e k2 hj ?_ ?_ ?_
    .rw[k3,<-h1,ec];rfl
    .rw[k4,<-h2,ec];rfl
    .rw[k5,<-h3,ec];rfl
   .rename_i e1 e2;subst e2;have ec:=(bV hj).symm;refine hs.apart i _ c x hi k2 ?_ ?_ ?_
    .rw[k3,h1,ec];rfl
    .rw[k4,h2,ec];rfl
    .rw[k5,h3,ec];rfl
   .exact hs.apart i j c e hi hj h1 h2 h3
structure eL where
 mods:List eZ
 log:List im
 out:List Int
 left:Int
 part:List Str
 fin:fj
 sto:List eU
variable{st:eL}{r:eL×Int}
def hits(s:Str)(m:eZ):Bool:=decide (m.name=s)&&m.cached
def iA(st:eL)(s:Str):Int:=xo (hits s) st.mods
def iX(l:List fI)(s:Str):Int:=xo (λ a=>decide (a.name=s)) l
def lh{α:Type}(l:List α)(k:Nat)(f:α->α):List α:=match l[k]? with | some x=>l.set k (f x) | none=>l
theorem Qj{α:Type}{l:List α}{x:α}(f:α->α)(h:l[k]?=some x):lh l k f=l.set k (f x):=by unfold lh;rw[h]
theorem tq{α:Type}(l:List α)(k:Nat)(f:α->α):(lh l k f).length=l.length:=by unfold lh;split <;> simp
theorem TF{α:Type}{l:List α}{f:α->α}(i:Nat):(lh l k f)[i]?=if i=k then l[k]?.map f else l[i]?:=by
 unfold lh;split
 .rename_i x hx;by_cases e:i=k
  .subst e;have:=zJ hx;rw[Ke Z,hx,aI this];rfl
  .rw[Kf e,aG (λ h=>e h.symm)]
 .rename_i hx;by_cases e:i=k
  .subst e;simp[hx]
  .rw[Kf e]
def Yv(l:List fI)(s:Str)(v:fu):List fI:=if ez .geq (iX l s) 0=true then lh l (iX l s).toNat (λ a=>{ a with value:=v }) else l++[⟨s,v⟩]
def eL.note(st:eL)(k:Int)(s:Str):eL:={ st with log:=st.log++[⟨k,s⟩] }
def eL.Ar(st:eL)(k:Nat):Bool:=((st.mods[k]?).map (·.done)).getD false
def eL.hit(st:eL)(k:Nat)(s:Str):eL:={ st with log:=st.log++[⟨3,s⟩],part:=if st.Ar k=false/\s ∉ st.part then st.part++[s] else st.part }
def eL.il(st:eL)(at_:Nat)(s:Str)(v:fu):eL:={ st with mods:=lh st.mods at_ (λ m=>{ m with attrs:=Yv m.attrs s v }) }
def eL.begin(st:eL)(s:Str)(sp:Spec):eL:={ st with mods:=st.mods++[⟨s,sp.kind,sp.roots,true,false,[]⟩],log:=st.log++[⟨0,s⟩] }
def eL.fail(st:eL)(at_:Nat)(s:Str):eL:={ st with mods:=lh st.mods at_ (λ m=>{ m with cached:=false }),log:=st.log++[⟨2,s⟩] }
def eL.done(st:eL)(at_:Nat)(s:Str):eL:={ st with mods:=lh st.mods at_ (λ m=>{ m with done:=true }),log:=st.log++[⟨1,s⟩] }
def eL.tell(st:eL)(at_:Nat)(s:Str):eL:=if ez .geq (iA st (yb s)) 0=true then st.il (iA st (yb s)).toNat (qG s) ⟨1,at_⟩ else st
def eL.rY(st:eL)(k:Nat):Int:=((st.mods[k]?).map (·.kind)).getD 0
def eL.uj(st:eL)(k:Nat):List Int:=((st.mods[k]?).map (·.roots)).getD []
def eL.ma(st:eL)(k:Nat):List fI:=((st.mods[k]?).map (·.attrs)).getD []
def eL.mc(st:eL)(k:Nat):Str:=((st.mods[k]?).map (·.name)).getD fG
def sO(d:eK)(st:eL)(roots:List Int)(p s:Str):eL×Spec:=({ st with fin:=(we d p s st.fin [] roots).1 },(we d p s st.fin [] roots).2)
def X9(d:eK)(path:List Int)(st:eL)(s:Str):eL×Spec:=
 if yb s=fG then sO d st path fG s
 else if ez .lss (iA st (yb s)) 0=true then(st,ot)
 else if st.rY (iA st (yb s)).toNat=1 then(st,ot)
 else sO d st (st.uj (iA st (yb s)).toNat) (yb s) (qG s)
def nC(mode:Int)(st:eL)(f:File):eL×List Stmt:=({ st with sto:=(QS st.sto f mode).2.1 },(QS st.sto f mode).1)
def Wi(s:Str):Str:=(zC s dot).headD fG
section
variable(d:eK)(mode:Int)(path:List Int)
abbrev kR:=eL->Str->Option (eL×Int×Int)
def pA(at_:Nat)(l:List fI)(st:eL):eL:=l.foldl (λ st a=>if(a.name.l.headD 0 == 122)=true then st else st.il at_ a.name a.value) st
def pG(st:eL)(at_:Nat):Str:=if st.rY at_=1 then yb (st.mc at_) else st.mc at_
def oL(I:kR)(st:eL)(k:Nat)(s:Str):Option (eL×fu×Int):=
 if ez .geq (iX (st.ma k) s) 0=true then some (st,(((st.ma k)[(iX (st.ma k) s).toNat]?).map (·.value)).getD ⟨0,0⟩,0)
 else if st.rY k=1\/zm (child (st.mc k) s)=false then some (st,⟨0,0⟩,2)
 else if ez .lss (iA st (child (st.mc k) s)) 0=true then
  if(X9 d path st (child (st.mc k) s)).2.kind=0 then some ((X9 d path st (child (st.mc k) s)).1,⟨0,0⟩,2)
  else(I (X9 d path st (child (st.mc k) s)).1 (child (st.mc k) s)).bind λ r=>some (r.1,⟨1,r.2.1⟩,r.2.2)
 else(I st (child (st.mc k) s)).bind λ r=>some (r.1,⟨1,r.2.1⟩,r.2.2)
def Xt(I:kR)(st:eL)(at_:Nat)(x:Stmt):Option (eL×Int):=
 if x.kind=0 then(I st x.module).bind λ r=>
  if r.2.2≠0 then some (r.1,r.2.2) else if ez .lss (iA r.1 (Wi x.module)) 0=true then some (r.1,1) else some (r.1.il at_ (Wi x.module) ⟨1,iA r.1 (Wi x.module)⟩,0)
 else if x.kind=1 then
  if zm (Xr (pG st at_) x.level x.module)=false then some (st,5) else
  (I st (Xr (pG st at_) x.level x.module)).bind λ r=>if r.2.2≠0 then some (r.1,r.2.2) else
  (oL d path I r.1 r.2.1.toNat x.name).bind λ q=>if q.2.2≠0 then some (q.1,q.2.2) else some (q.1.il at_ x.name q.2.1,0)
 else if x.kind=2 then(I st x.module).bind λ r=>
  if r.2.2≠0 then some (r.1,r.2.2) else some (pA at_ (r.1.ma r.2.1.toNat) r.1,0)
 else if x.kind=3 then some (st.il at_ x.name ⟨0,x.value⟩,0)
 else if x.kind=4 then
  if ez .lss (iX (st.ma at_) x.name) 0=true then some (st,3) else
  some ({ st with out:=st.out++[(let v:=(((st.ma at_)[(iX (st.ma at_) x.name).toNat]?).map (·.value)).getD ⟨0,0⟩;if v.kind=1 then -1 else v.num)] },0)
 else if x.kind=5 then some (st,4)
 else some (st,0)
def mA(I:kR)(at_:Nat):List Stmt->eL->Option (eL×Int)
 | [],st=>some (st,0)
 | x::xs,st=>if st.left=0 then some (st,6) else(Xt d path I { st with left:=st.left - 1 } at_ x).bind λ r=>if r.2≠0 then some r else mA I at_ xs r.1
def ou(I:kR)(st:eL)(at_:Nat)(sp:Spec):Option (eL×Int):=if ez .geq sp.file 0=true then mA d path I at_ (nC mode st (oP d.tree.files sp.file)).2 (nC mode st (oP d.tree.files sp.file)).1 else some (st,0)
def pw(I:kR)(st:eL)(s:Str)(sp:Spec):Option (eL×Int×Int):=
 if sp.kind=0 then some (st,-1,1) else
 (ou d mode path I (st.begin s sp) st.mods.length sp).bind λ r=>
  if r.2≠0 then some (r.1.fail st.mods.length s,-1,r.2) else some ((r.1.done st.mods.length s).tell st.mods.length s,st.mods.length,0)
def rh(I:kR)(st:eL)(s:Str):Option (eL×Int×Int):=
 if ez .geq (iA st s) 0=true then some (st.hit (iA st s).toNat s,iA st s,0) else
 (if yb s=fG then some (st,0,0) else I st (yb s)).bind λ r=>
  if r.2.2≠0 then some (r.1,-1,r.2.2) else
  if ez .geq (iA r.1 s) 0=true then some (r.1.hit (iA r.1 s).toNat s,iA r.1 s,0) else pw d mode path I (X9 d path r.1 s).1 s (X9 d path r.1 s).2
def imp:Nat->kR
 | 0=>λ _ _=>none
 | n+1=>rh d mode path (imp n)
end
variable{I:kR}
theorem Dm{α:Type}{p:α->Bool}{l:List α}(h:ez .geq (xo p l) 0=true):∃ x,l[(xo p l).toNat]?=some x/\p x=true/\0<=xo p l:=by
 rw[BX] at h;have h':ez .lss (xo p l) 0=false:=by simpa using h
 obtain⟨x,h1,h2⟩:=Oe h';exact⟨x,h1,h2,by simpa[ez] using h'⟩
theorem Wu(s:Str):1<=(zC s dot).length:=by have:=rD s dot;omega
theorem qQ(h:zm s=true):(zC s dot).length<=3:=(jX h).2
theorem XG(h:zm s=true)(hp:yb s≠fG):(zC (yb s) dot).length+1=(zC s dot).length/\zm (yb s)=true:=by
 obtain⟨h1,h2⟩:=jX h;have h0:=Wu s;by_cases e:(zC s dot).length=1
 .exfalso
  apply hp;unfold yb;rw[e];rfl
 .have hne:(zC s dot).take ((zC s dot).length - 1)≠[]:=λ e1=>by
   have:=bu List.length e1;rw[aJ,cx] at this;omega
  have hv:∀ x∈(zC s dot).take ((zC s dot).length - 1),fW x=true:=λ x hx=>h1 x (dc hx)
  constructor
  .unfold yb;rw[KK hne hv,aJ];omega
  .exact KL hne (by rw[aJ];omega) hv
theorem Jp(h:zm s=true):fW (qG s)=true:=(jX h).1 _ (ae (FZ s))
theorem NZ(h:zm s=true):fW (Wi s)=true:=by
 unfold Wi;have h1:=(jX h).1;have h0:=Wu s;cases hs:zC s dot with
 | nil=>rw[hs] at h0;simp at h0
 | cons a l=>exact h1 a (by rw[hs];exact bF ..)
theorem Wv(h:zM x=true)(hk:x.kind=0\/x.kind=2):zm x.module=true:=by
 rcases Wh h with h1 | h1 | h1
 .exact h1.2
 .omega
 .omega
theorem th(h:zM x=true)(hk:x.kind=1\/x.kind=3\/x.kind=4):fW x.name=true:=by
 unfold zM at h;rcases hk with hk | hk | hk <;> simp only[hk,ez] at h <;> simp at h <;> first | exact h.1.2 | exact h.2.1 | exact h.1.1.2 | (exact h.1.2.1) | (exact h.2.2.1)
def yu(l:List Int):Prop:=l.length<=1048576/\∀ r∈l,eR r 0 2=true
structure Inv(st:eL):Prop where
 names:∀ m∈st.mods,zm m.name=true
 roots:∀ m∈st.mods,yu m.roots
 parts:∀ m∈st.mods,∀ a∈m.attrs,fW a.name=true
 apart:∀ m∈st.mods,(m.attrs.map (·.name)).Nodup
 left:0<=st.left
 fin:km st.fin
 sto:lC st.sto
structure gz(a b:eL):Prop where
 left:b.left<=a.left
 old:∀ (i:Nat) (m:eZ),a.mods[i]?=some m->∃ m',b.mods[i]?=some m'/\m'.name=m.name
theorem gz.refl(a:eL):gz a a:=⟨cG _,λ _ m h=>⟨m,h,Z⟩⟩
theorem gz.trans{a b c:eL}(h:gz a b)(k:gz b c):gz a c:=⟨cu k.left h.left,λ i m hm=>let⟨m1,h1,h2⟩:=h.old i m hm;let⟨m2,k1,k2⟩:=k.old i m1 h1;⟨m2,k1,k2.trans h2⟩⟩
def eL.size(st:eL):Nat:=st.log.length+st.out.length+st.mods.length+st.part.length+100*st.left.toNat
theorem Al{α:Type}{l:List α}{f:α->α}{x:α}(h:x∈lh l k f):x∈l\/∃ y∈l,x=f y:=by
 unfold lh at h
 grind
theorem TG{l:List eZ}{f:eZ->eZ}(hf:∀ m,(f m).name=m.name){i:Nat}(h:l[i]?=some m):∃ m',(lh l k f)[i]?=some m'/\m'.name=m.name:=by
 rw[TF]
 grind
theorem GH(l:List fI)(s:Str)(v:fu):(Yv l s v).map (·.name)=if ez .geq (iX l s) 0=true then l.map (·.name) else l.map (·.name)++[s]:=by
 unfold Yv;split
 .rename_i h;obtain⟨x,h1,h2,_⟩:=Dm h;have h1':l[(iX l s).toNat]?=some x:=h1;rw[Qj _ h1',el];apply aZ;intro i;by_cases e:(iX l s).toNat=i
  .subst e;have:=zJ h1';rw[aI (by simpa using this),be,h1'];rfl
  .rw[aG e]
 .simp
theorem Db{α:Type}{p:α->Bool}{l:List α}(h:ez .geq (xo p l) 0=false):∀ x∈l,p x=false:=by
 rw[WW] at h
 grind
theorem R6{l:List fI}(h:(l.map (·.name)).Nodup):((Yv l s v).map (·.name)).Nodup:=by
 rw[GH];split
 .exact h
 .rename_i hh;have hn:=Db (by simpa[iX] using hh);refine List.nodup_append.2 ⟨h,by simp,λ a ha b hb e=>?_⟩;simp at hb;subst hb;subst e;obtain⟨x,hx,hxa⟩:=bi.1 ha;have:=hn x hx;simp[hxa] at this
theorem R7{l:List fI}(hs:fW s=true)(h:∀ a∈l,fW a.name=true):∀ a∈Yv l s v,fW a.name=true:=by
 intro a ha;have:a.name∈(Yv l s v).map (·.name):=List.mem_map_of_mem ha;rw[GH] at this
 grind
theorem Inv.upd(h:Inv st){f:eZ->eZ}(h1:∀ m,(f m).name=m.name)(h2:∀ m∈st.mods,yu (f m).roots)(h3:∀ m∈st.mods,∀ a∈(f m).attrs,fW a.name=true)(h4:∀ m∈st.mods,((f m).attrs.map (·.name)).Nodup):Inv { st with mods:=lh st.mods k f,log:=lg,out:=o } where
 names:=λ m hm=>(Al hm).elim (h.names m) λ⟨y,hy,e⟩=>by rw[e,h1];exact h.names y hy
 roots:=λ m hm=>(Al hm).elim (h.roots m) λ⟨y,hy,e⟩=>by rw[e];exact h2 y hy
 parts:=λ m hm=>(Al hm).elim (h.parts m) λ⟨y,hy,e⟩=>by rw[e];exact h3 y hy
 apart:=λ m hm=>(Al hm).elim (h.apart m) λ⟨y,hy,e⟩=>by rw[e];exact h4 y hy
 left:=h.left
 fin:=h.fin
 sto:=h.sto
theorem Inv.hit(h:Inv st)(k:Nat)(s:Str):Inv (st.hit k s):=⟨h.names,h.roots,h.parts,h.apart,h.left,h.fin,h.sto⟩
theorem SF(st:eL)(k:Nat)(s:Str):(st.hit k s).size<=st.size+2:=by
 unfold eL.size eL.hit
 grind
theorem Inv.note(h:Inv st)(k:Int)(s:Str):Inv (st.note k s):=⟨h.names,h.roots,h.parts,h.apart,h.left,h.fin,h.sto⟩
theorem Inv.il(h:Inv st)(k:Nat){s:Str}(v:fu)(hs:fW s=true):Inv (st.il k s v):=
 h.upd (f:=λ m=>{ m with attrs:=Yv m.attrs s v }) (λ _=>Z) h.roots (λ m hm=>R7 hs (h.parts m hm)) λ m hm=>R6 (h.apart m hm)
theorem Inv.fail(h:Inv st)(k:Nat)(s:Str):Inv (st.fail k s):=h.upd (f:=λ m=>{ m with cached:=false }) (λ _=>Z) h.roots h.parts h.apart
theorem Inv.done(h:Inv st)(k:Nat)(s:Str):Inv (st.done k s):=h.upd (f:=λ m=>{ m with done:=true }) (λ _=>Z) h.roots h.parts h.apart
theorem Inv.begin(h:Inv st){s:Str}{sp:Spec}(hs:zm s=true)(hr:yu sp.roots):Inv (st.begin s sp) where
 names:=λ m hm=>(bg.1 hm).elim (h.names m) λ e=>by simp at e;rw[e];exact hs
 roots:=λ m hm=>(bg.1 hm).elim (h.roots m) λ e=>by simp at e;rw[e];exact hr
 parts:=λ m hm=>(bg.1 hm).elim (h.parts m) λ e=>by simp at e;rw[e];intro a ha;simp at ha
 apart:=λ m hm=>(bg.1 hm).elim (h.apart m) λ e=>by simp at e;rw[e];exact List.Pairwise.nil
 left:=h.left
 fin:=h.fin
 sto:=h.sto
theorem gz.upd{f:eZ->eZ}(h1:∀ m,(f m).name=m.name):gz st { st with mods:=lh st.mods k f,log:=lg,out:=o }:=⟨cG _,λ _ _ h=>TG h1 h⟩
theorem gz.il(k:Nat)(s:Str)(v:fu):gz st (st.il k s v):=gz.upd (f:=λ m=>{ m with attrs:=Yv m.attrs s v }) λ _=>Z
theorem gz.begin(s:Str)(sp:Spec):gz st (st.begin s sp):=⟨cG _,λ i m h=>⟨m,by
 show(st.mods++_)[i]?=some m;rw[aN (zJ h)];exact h,Z⟩⟩
theorem tj(k:Nat)(s:Str)(v:fu):(st.il k s v).size=st.size:=by unfold eL.size eL.il;simp[tq]
theorem Inv.tell(h:Inv st)(k:Nat){s:Str}(hs:zm s=true):Inv (st.tell k s):=by
 unfold eL.tell;split
 .exact h.il _ _ (Jp hs)
 .exact h
theorem gz.tell(k:Nat)(s:Str):gz st (st.tell k s):=by
 unfold eL.tell;split
 .exact gz.il ..
 .exact gz.refl _
theorem G9(k:Nat)(s:Str):(st.tell k s).size=st.size:=by
 unfold eL.tell;split
 .exact tj ..
 .rfl
theorem Cj(at_:Nat):∀ (l:List fI) {st:eL},Inv st->(∀ a∈l,fW a.name=true)->Inv (pA at_ l st)/\gz st (pA at_ l st)/\(pA at_ l st).size=st.size
 | [],st,h,_=>⟨h,gz.refl _,Z⟩
 |a::l,st,h,hl=>by
  unfold pA;rw[bP];have hl':=λ b hb=>hl b (bD _ hb)
  split
  .exact Cj at_ l h hl'
  .have h1:=Cj at_ l (h.il at_ a.value (hl a (bF ..))) hl';exact⟨h1.1,(gz.il at_ a.name a.value).trans h1.2.1,h1.2.2.trans (tj ..)⟩
structure su(st:eL)(s:Str)(r:eL×Int×Int):Prop where
 inv:Inv r.1
 grow:gz st r.1
 size:r.1.size<=st.size+4*(zC s dot).length
 good:r.2.2=0->∃ m,r.1.mods[r.2.1.toNat]?=some m/\m.name=s/\0<=r.2.1
 bad:r.2.2≠0->r.2.1=-1
 ends:0<=r.2.2/\r.2.2<=6
def Xu(n:Nat)(I:kR):Prop:=∀ st s,Inv st->zm s=true->4*st.left.toNat+(zC s dot).length<=n->∃ r,I st s=some r/\su st s r
structure pX(st:eL)(c:Nat)(r:eL×Int):Prop where
 inv:Inv r.1
 grow:gz st r.1
 size:r.1.size<=st.size+c
 ends:0<=r.2/\r.2<=6
theorem Inv.attrs(h:Inv st)(k:Nat):(∀ a∈st.ma k,fW a.name=true)/\((st.ma k).map (·.name)).Nodup:=by
 unfold eL.ma;cases hm:st.mods[k]? with
 | none=>exact⟨by simp,by simp⟩
 | some m=>exact⟨h.parts m (ae hm),h.apart m (ae hm)⟩
structure AQ(d:eK)(st:eL)(r:eL×Spec):Prop where
 inv:Inv r.1
 mods:r.1.mods=st.mods
 left:r.1.left=st.left
 size:r.1.size=st.size
 grow:gz st r.1
 roots:yu r.2.roots
 file:r.2.file<0\/∃ f,d.tree.files[r.2.file.toNat]?=some f
theorem Inv.DV(h:Inv st):AQ d st (st,ot):=⟨h,Z,Z,Z,gz.refl _,⟨aq _,λ _ h=>by cases h⟩,.inl (by show ot.file<0;decide)⟩
theorem GA(hd:gg d)(h:Inv st)(hr:yu roots)(hp:zi p=true)(s:Str):AQ d st (sO d st roots p s):=by
 obtain⟨h1,h2⟩:=GV hd hp roots [] st.fin h.fin hr.2 λ x hx=>by cases hx
 have h3:=GW (d:=d) (p:=p) (s:=s) roots [] st.fin;refine⟨⟨h.names,h.roots,h.parts,h.apart,h.left,h1,h.sto⟩,Z,Z,Z,⟨cG _,λ _ m h=>⟨m,h,Z⟩⟩,⟨?_,h2⟩,?_⟩
 .have:=hr.1;show(we d p s st.fin [] roots).2.roots.length<=_;simp at h3;omega
 .rcases KO roots [] st.fin with h4 | ⟨k,f,h4,h5,_⟩
  .exact .inl h4
  .refine .inr ⟨f,?_⟩;show d.tree.files[(we d p s st.fin [] roots).2.file.toNat]?=some f;rw[h4,ak];exact h5
theorem ql(h:zm s=true):zi s=true:=by unfold zi;rw[h,ei]
theorem rM(hd:gg d)(h:Inv st)(hp:yu path)(hs:zm s=true):AQ d st (X9 d path st s):=by
 unfold X9;split
 .exact GA hd h hp (by rfl) s
 .rename_i he;split
  .exact h.DV
  .split
   .exact h.DV
   .refine GA hd h ?_ (ql (XG hs he).2) _;unfold eL.uj;cases hm:st.mods[(iA st _).toNat]? with
    | none=>exact⟨aq _,λ _ h=>by cases h⟩
    | some m=>exact h.roots m (ae hm)
theorem Cr{n:Nat}(hd:gg d)(hpa:yu path)(hI:Xu n I)(h:Inv st)(hn:4*st.left.toNat+3<=n)(k:Nat)(s:Str)(hs:fW s=true):∃ r,oL d path I st k s=some r/\pX st 12 (r.1,r.2.2):=by
 unfold oL;have h0:∀ {v:fu} {e:Int},0<=e->e<=6->∃ r,some (st,v,e)=some r/\pX st 12 (r.1,r.2.2):=λ h1 h2=>⟨_,Z,h,gz.refl _,dH _ _,h1,h2⟩
 split
 .exact h0 (by decide) (by decide)
 .split
  .exact h0 (by decide) (by decide)
  .rename_i hc;have hv:zm (child (st.mc k) s)=true:=by
    cases hv:zm _ with
    | true=>rfl
    | false=>exact absurd (.inr hv) hc
   have hp:=qQ hv;split
   .have hl:=rM hd h hpa hv;have hls:=hl.size;split
    .exact⟨_,Z,hl.inv,hl.grow,by simp only;omega,by simp,by simp⟩
    .obtain⟨r,hr,hk⟩:=hI _ _ hl.inv hv (by rw[hl.left];omega);rw[hr];have:=hk.size;exact⟨_,Z,hk.inv,hl.grow.trans hk.grow,by simp only;omega,hk.ends⟩
   .obtain⟨r,hr,hk⟩:=hI st _ h hv (by omega);rw[hr];have:=hk.size;exact⟨_,Z,hk.inv,hk.grow,by simp only;omega,hk.ends⟩
theorem Ck{n:Nat}(hd:gg d)(hpa:yu path)(hI:Xu n I)(h:Inv st)(hn:4*st.left.toNat+3<=n)(at_:Nat)(hx:zM x=true):∃ r,Xt d path I st at_ x=some r/\pX st 30 r:=by
 have h0:∀ {e:Int},0<=e->e<=6->∃ r,some (st,e)=some r/\pX st 30 r:=λ h1 h2=>⟨_,Z,h,gz.refl _,dH _ _,h1,h2⟩
 have key:∀ {s:Str} (hv:zm s=true),∃ r,I st s=some r/\su st s r/\r.1.size<=st.size+12:=λ hv=>by
  have hp:=qQ hv;obtain⟨r,hr,hk⟩:=hI st _ h hv (by omega);have:=hk.size;exact⟨r,hr,hk,by omega⟩
 unfold Xt;split
 .rename_i hk;have hv:=Wv hx (.inl hk);obtain⟨r,hr,hp,hsz⟩:=key hv;rw[hr];simp only[Kd];split
  .exact⟨_,Z,hp.inv,hp.grow,by simp only;omega,hp.ends⟩
  .split
   .exact⟨_,Z,hp.inv,hp.grow,by simp only;omega,by simp,by simp⟩
   .exact⟨_,Z,hp.inv.il _ _ (NZ hv),hp.grow.trans (gz.il ..),by simp[tj];omega,by simp,by simp⟩
 .rename_i k0;split
  .rename_i k1;split
   .exact h0 (by decide) (by decide)
   .rename_i hv;have hv':zm (Xr (pG st at_) x.level x.module)=true:=by simpa using hv
    obtain⟨r,hr,hp,hsz⟩:=key hv';rw[hr];simp only[Kd];split
    .exact⟨_,Z,hp.inv,hp.grow,by simp only;omega,hp.ends⟩
    .have hl:=hp.grow.left;obtain⟨q,hq,hb⟩:=Cr hd hpa hI hp.inv (by have:=h.left;have:=hp.inv.left;omega) r.2.1.toNat x.name (th hx (.inl k1));have hbs:=hb.size;rw[hq];simp only[Kd];split
     .exact⟨_,Z,hb.inv,hp.grow.trans hb.grow,by simp only at hbs ⊢;omega,hb.ends⟩
     .exact⟨_,Z,hb.inv.il _ _ (th hx (.inl k1)),hp.grow.trans (hb.grow.trans (gz.il ..)),by simp[tj] at hbs ⊢;omega,by simp,by simp⟩
  .rename_i k1;split
   .rename_i k2;obtain⟨r,hr,hp,hsz⟩:=key (Wv hx (.inr k2));rw[hr];simp only[Kd];split
    .exact⟨_,Z,hp.inv,hp.grow,by simp only;omega,hp.ends⟩
    .have h1:=Cj at_ _ hp.inv (hp.inv.attrs r.2.1.toNat).1;exact⟨_,Z,h1.1,hp.grow.trans h1.2.1,by simp;omega,by simp,by simp⟩
   .split
    .rename_i k3;exact⟨_,Z,h.il _ _ (th hx (.inr (.inl k3))),gz.il ..,by simp only[tj];omega,by simp,by simp⟩
    .split
     .split
      .exact h0 (by decide) (by decide)
      .refine⟨_,Z,⟨h.names,h.roots,h.parts,h.apart,h.left,h.fin,h.sto⟩,⟨cG _,λ _ m h=>⟨m,h,Z⟩⟩,?_,by simp,by simp⟩;unfold eL.size;simp;omega
     .split
      .exact h0 (by decide) (by decide)
      .exact h0 (by decide) (by decide)
theorem EC{n:Nat}{I:kR}(hd:gg d)(hpa:yu path)(hI:Xu n I)(at_:Nat):∀ (l:List Stmt) (st:eL),Inv st->4*st.left.toNat<=n+1->(∀ x∈l,zM x=true)->∃ r,mA d path I at_ l st=some r/\pX st 0 r
 | [],st,h,_,_=>⟨_,Z,h,gz.refl _,al _,by simp,by simp⟩
 |x::l,st,h,hn,hl=>by
  unfold mA;split
  .exact⟨_,Z,h,gz.refl _,al _,by simp,by simp⟩
  .rename_i hz;have h1:Inv { st with left:=st.left - 1 }:=⟨h.names,h.roots,h.parts,h.apart,(by have:=h.left;show(0:Int)<=st.left - 1;omega),h.fin,h.sto⟩;have hgr:gz st { st with left:=st.left - 1 }:=⟨by show st.left - 1<=st.left;omega,λ _ m h=>⟨m,h,Z⟩⟩;have hsz:eL.size { st with left:=st.left - 1 }+100=st.size:=by
    unfold eL.size;have:=h.left;simp only;omega
   obtain⟨r,hr,hb⟩:=Ck (d:=d) (path:=path) hd hpa hI h1 (by have:=h.left;show 4*(st.left - 1).toNat+3<=n;omega) at_ (hl x (bF ..));have hbs:=hb.size;rw[hr];simp only[Kd];split
   .exact⟨_,Z,hb.inv,hgr.trans hb.grow,by omega,hb.ends⟩
   .have hle:=hb.grow.left;obtain⟨q,hq,hk⟩:=EC hd hpa hI at_ l r.1 hb.inv (by have:=h.left;have:=hb.inv.left;simp only at hle;omega) λ y hy=>hl y (bD _ hy)
    have hks:=hk.size;exact⟨q,hq,hk.inv,hgr.trans (hb.grow.trans hk.grow),by omega,hk.ends⟩
theorem Dc(h:gG b=true):∀ x∈b,zM x=true:=by
 unfold gG at h
 grind
theorem TB(h:yh t=true)(hf:f∈t.files):z9 f=true:=jO h hf
theorem vq{n:Nat}(hd:gg d)(hm:eR mode 0 2=true)(hpa:yu path)(hI:Xu n I)(h:Inv st)(hn:4*st.left.toNat<=n+1)(at_:Nat)(sp:Spec)(hf:sp.file<0\/∃ f,d.tree.files[sp.file.toNat]?=some f):∃ r,ou d mode path I st at_ sp=some r/\pX st 0 r:=by
 unfold ou;split
 .rename_i hg;have hf':∃ f,d.tree.files[sp.file.toNat]?=some f:=hf.elim (λ e=>by have:=oD hg;omega) id;obtain⟨f,hf⟩:=hf';have hfo:oP d.tree.files sp.file=f:=by unfold oP;rw[hf];rfl
  obtain⟨l1,l2⟩:=BW h.sto (TB hd.tree (ae hf)) hm;rw[hfo];obtain⟨r,hr,hb⟩:=EC hd hpa hI at_ (nC mode st f).2 (nC mode st f).1 ⟨h.names,h.roots,h.parts,h.apart,h.left,h.fin,l1⟩ hn (Dc l2);exact⟨r,hr,hb.inv,⟨hb.grow.left,hb.grow.old⟩,hb.size,hb.ends⟩
 .exact⟨_,Z,h,gz.refl _,al _,by simp,by simp⟩
theorem Ru{n:Nat}(hd:gg d)(hm:eR mode 0 2=true)(hpa:yu path)(hI:Xu n I)(h:Inv st)(hn:4*st.left.toNat<=n+1)(hs:zm s=true){sp:Spec}(hr:yu sp.roots)(hf:sp.file<0\/∃ f,d.tree.files[sp.file.toNat]?=some f):∃ r,pw d mode path I st s sp=some r/\su st s r/\r.1.size<=st.size+3:=by
 unfold pw;have hpp:=Wu s;split
 .exact⟨_,Z,⟨h,gz.refl _,dH _ _,λ e=>absurd e (by simp),λ _=>Z,by simp,by simp⟩,dH _ _⟩
 .have h1:=h.begin hs hr;have hbz:(st.begin s sp).size=st.size+2:=by unfold eL.size eL.begin;simp;omega
  obtain⟨r,hr,hb⟩:=vq hd hm hpa hI h1 (by show 4*st.left.toNat<=n+1;exact hn) st.mods.length sp hf;have hbs:=hb.size;have hg:=(gz.begin s sp).trans hb.grow;obtain⟨m,hm,hmn⟩:=hb.grow.old st.mods.length ⟨s,sp.kind,sp.roots,true,false,[]⟩ (by unfold eL.begin;simp);rw[hr];simp only[Kd];split
  .rename_i he;have hsz:(r.1.fail st.mods.length s).size=r.1.size+1:=by unfold eL.size eL.fail;simp[tq];omega
   exact⟨_,Z,⟨hb.inv.fail _ _,hg.trans (gz.upd (f:=λ m=>{ m with cached:=false }) λ _=>Z),by simp only;omega,λ e=>absurd e he,λ _=>Z,hb.ends⟩,by simp only;omega⟩
  .have hsz:(r.1.done st.mods.length s).size=r.1.size+1:=by unfold eL.size eL.done;simp[tq];omega
   have hgd:gz r.1 (r.1.done st.mods.length s):=gz.upd (f:=λ m=>{ m with done:=true }) λ _=>Z
   have hgt:=gz.tell (st:=r.1.done st.mods.length s) st.mods.length s;refine⟨_,Z,⟨(hb.inv.done _ _).tell _ hs,hg.trans (hgd.trans hgt),by simp[G9];omega,λ _=>?_,λ e=>absurd Z e,by simp,by simp⟩,by simp[G9];omega⟩;obtain⟨m2,hm2,hn2⟩:=(hgd.trans hgt).old _ m hm;exact⟨m2,by simpa using hm2,hn2.trans hmn,by simp only;omega⟩
theorem pO(hd:gg d)(hm:eR mode 0 2=true)(hp:yu path):∀ n,Xu n (imp d mode path n)
 | 0=>λ st s _ _ hn=>absurd (Wu s) (by omega)
 |n+1=>by
  intro st s h hs hn;have hpp:=Wu s;unfold imp rh;have hhit:∀ {st':eL},Inv st'->gz st st'->st'.size+2<=st.size+4*(zC s dot).length->ez .geq (iA st' s) 0=true->∃ r,some (st'.hit (iA st' s).toNat s,iA st' s,(0:Int))=some r/\su st s r:=λ h' hg hsz hc=>by
   obtain⟨m,h1,h2,h3⟩:=Dm hc;refine⟨_,Z,h'.hit _ _,hg.trans ⟨cG _,λ _ m h=>⟨m,h,Z⟩⟩,?_,λ _=>⟨m,h1,?_,h3⟩,λ e=>absurd Z e,by simp,by simp⟩
   .exact aS (SF _ _ s) hsz
   .unfold hits at h2;simp only[ac,bB] at h2;exact h2.1
  split
  .rename_i hc;exact hhit h (gz.refl _) (by omega) hc
  .have hpar:∃ r,(if yb s=fG then some (st,(0:Int),(0:Int)) else imp d mode path n st (yb s))=some r/\Inv r.1/\gz st r.1/\r.1.size+4<=st.size+4*(zC s dot).length/\0<=r.2.2/\r.2.2<=6:=by
    split
    .exact⟨_,Z,h,gz.refl _,by simp only;omega,by simp,by simp⟩
    .rename_i he;obtain⟨e1,e2⟩:=XG hs he;obtain⟨r,hr,hk⟩:=pO hd hm hp n st (yb s) h e2 (by omega);have:=hk.size;exact⟨r,hr,hk.inv,hk.grow,by omega,hk.ends⟩
   obtain⟨r,hr,hi,hg,hsz,he⟩:=hpar;rw[hr];simp only[Kd];split
   .rename_i hne;exact⟨_,Z,hi,hg,by simp only;omega,λ e=>absurd e hne,λ _=>Z,he⟩
   .split
    .rename_i hc;exact hhit hi hg (by omega) hc
    .have hl:=hg.left;have hlk:=rM hd hi hp hs;have hls:=hlk.size;obtain⟨q,hq,hk,hks⟩:=Ru hd hm hp (pO hd hm hp n) hlk.inv (by rw[hlk.left];have:=h.left;have:=hi.left;omega) hs hlk.roots hlk.file;exact⟨q,hq,hk.inv,hg.trans (hlk.grow.trans hk.grow),by omega,hk.good,hk.bad,hk.ends⟩
section
variable{f:fj}{r:Int}
def kn(d:eK)(f:fj):iP:=⟨some (⟨d⟩,⟨f⟩)⟩
theorem PY(hf:km f)(hd:gg d)(ht:ja d.tree)(hp:zi p=true):uD (kn d f) r p=some (kn d (qT f d r p).1,(qT f d r p).2):=by
 show(Wd r p ⟨f⟩ d).bind _=_;unfold Wd;rw[MU hf hd ht hp];rfl
theorem E5(hf:km f)(hd:gg d)(ht:ja d.tree)(hr:roots.length<=1048576)(hin:∀ r∈roots,eR r 0 2=true)(hp:zi p=true)(hs:fW s=true)(hc:zm (child p s)=true):XW d.tree roots p s (kn d f)=some (kn d (we d p s f [] roots).1,(we d p s f [] roots).2):=by
 have hpl:=zX hp;have hsl:=(wB hs).2;have hcl:=yt hc;have hne:=EH hc;have hcp:zi (child p s)=true:=by unfold zi;rw[hc,ei]
 have he:QZ p s=child p s:=by unfold QZ;rw[hp,hs,hc];rfl
 have hg:Good d.tree:=⟨ht,hd.tree⟩;unfold XW;rw[vH (by omega),he,Kd,Kf (by simp;exact hne)];have hl:zE (λ a8=>jq d.tree roots p s (child p s) a8) (kn d f,Wo,[],(0:Int))=some (kU (λ _ σ r=>Q5 d p s (λ z=>Sum.inr (kn d z.1,z.2)) σ r) (λ σ=>Sum.inl (kn d σ.1,Wo,σ.2)) 0 (f,[]) roots):=by
  refine tB (σ:=fj×List Int) roots (λ σ k=>(kn d σ.1,Wo,σ.2,(k:Int))) _ _ (λ k σ=>km σ.1/\σ.2.length<=k) (λ k σ r hx hlt hi=>?_) (λ σ _=>?_) (s0:=(f,[])) ⟨hf,al 0⟩ (by omega)
  .obtain⟨hfo,hal⟩:=hi;have hri:=hin r (ae hx);have hfo2:=Bl hfo hd hri hp;have hnl:=KP hfo hd r p;have hst:jq d.tree roots p s (child p s) (kn d σ.1,Wo,σ.2,(k:Int))=(match Q5 d p s (λ z=>Sum.inr (kn d z.1,z.2)) σ r with
     | .inl σ'=>some (.inl (kn d σ'.1,Wo,σ'.2,((k+1:Nat):Int))) | .inr b=>some (.inr b)):=by
    unfold jq;dsimp only;have hcat:kT s ⟨[47]⟩=some (mark s):=WU (by show s.l.length+1<=_;omega);have happ:fE 8 σ.2 [r]=some _:=yj (by simp;omega) (by simp;omega);have hn2:(qT σ.1 d r p).2.length<=1048576:=by omega
    rw[zx,Ke (ab hlt),zA,hx,Kd,Ke (show(kn d σ.1).o.isSome=true from Z),PY hfo hd ht hp,Kd,hcat,Kd];dsimp only;rw[Fj hn2,Kd,Fj hn2,Kd,Kd,E1 hg.len,Kd,E1 hg.len,Kd,Ob ht hg.pkg hcp (by omega),fF (by omega)];rw[gd,Kd,happ];unfold Q5;generalize jB (qT σ.1 d r p).2 _=b0;generalize jB (qT σ.1 d r p).2 s=b3;generalize ez .geq _ 0=b1;generalize ez .geq _ 0=b2;generalize na d.tree.files r _=b4;cases b0 <;> cases b1 <;> cases b2 <;> cases b3 <;> cases b4 <;> rfl
   rw[hst];have hinv:∀ σ',Q5 d p s (λ z=>Sum.inr (α:=iP×Spec×List Int) (kn d z.1,z.2)) σ r=.inl σ'->km σ'.1/\σ'.2.length<=k+1:=λ σ' h=>by
    unfold Q5 at h;split at h
    .cases h
    .split at h
     .cases h
     .cases h;refine⟨hfo2,?_⟩;dsimp only;split
      .simp;omega
      .omega
   cases hsk:Q5 d p s (λ z=>Sum.inr _) σ r with
   | inl σ'=>exact⟨Z,hinv σ' hsk⟩
   | inr b=>rfl
  .unfold jq;dsimp only;rw[zx,Kf (by simp)]
 rw[hl,Kd];exact GX (λ z=>Sum.inr _) (λ σ=>Sum.inl _) _ (λ z=>some (kn d z.1,z.2)) (λ _=>Z) (λ σ=>by
  simp;split <;> rfl) roots 0 f []
end
theorem rN{s:Stmt}(h:zM s=true):(0<=s.kind/\s.kind<=5)/\(0<=s.level/\s.level<=3)/\(0<=s.value/\s.value<=99)/\s.module.l.length<=1000/\s.name.l.length<=1000:=by
 have hN:∀ {x:Str},zm x=true->x.l.length<=1000:=λ h=>by have:=yt h;omega
 have hP:∀ {x:Str},zi x=true->x.l.length<=1000:=λ h=>by have:=zX h;omega
 have hQ:∀ {x:Str},fW x=true->x.l.length<=1000:=λ h=>by have:=(wB h).2;omega
 have hE:∀ {x:Str},x=⟨[]⟩->x.l.length<=1000:=λ h=>by rw[h];exact aq _
 unfold zM at h;by_cases h0:s.kind=0
 .rw[Ke (by simp[ez,h0])] at h;simp[ez] at h;exact⟨by omega,by omega,by omega,hN h.1.1.1,hE h.1.2⟩
 rw[Kf (by simp[ez,h0])] at h;by_cases h1:s.kind=1
 .rw[Ke (by simp[ez,h1])] at h;simp[ez] at h;have:=nh h.1.1.1.2;exact⟨by omega,by omega,by omega,hP h.1.1.1.1,hQ h.1.2⟩
 rw[Kf (by simp[ez,h1])] at h;by_cases h2:s.kind=2
 .rw[Ke (by simp[ez,h2])] at h;simp[ez] at h;exact⟨by omega,by omega,by omega,hN h.1.1.1,hE h.1.2⟩
 rw[Kf (by simp[ez,h2])] at h;by_cases h3:s.kind=3
 .rw[Ke (by simp[ez,h3])] at h;simp[ez] at h;have:=nh h.2;exact⟨by omega,by omega,by omega,hE h.1.1.1,hQ h.1.2⟩
 rw[Kf (by simp[ez,h3])] at h;by_cases h4:s.kind=4
 .rw[Ke (by simp[ez,h4])] at h;simp[ez] at h;exact⟨by omega,by omega,by omega,hE h.1.1.1,hQ h.1.2⟩
 rw[Kf (by simp[ez,h4])] at h;by_cases h5:s.kind=5
 .rw[Ke (by simp[ez,h5])] at h;have:=oD h;rw[this];exact⟨by decide,by decide,by decide,by decide,by decide⟩
 rw[Kf (by simp[ez,h5])] at h;cases h
theorem tr(h:gG b=true):b.length<=8/\∀ s∈b,zM s=true:=by
 refine⟨YX h,λ s hs=>?_⟩;unfold gG at h
 grind
theorem rO(h:gG b=true):b.length<=1048576/\∀ s∈b,lH s:=by
 obtain⟨h1,h2⟩:=tr h;refine⟨by omega,λ s hs=>?_⟩;have:=rN (h2 s hs);exact⟨by omega,by omega⟩
def MB(n:Int):Prop:=0<=n/\n<=1000003
theorem Yw{n k:Int}(hn:MB n)(hk:0<=k/\k<=1000):MB (kC n k):=by
 unfold MB kC at*;omega
theorem Hn{n k:Int}(hn:MB n)(hk:0<=k/\k<=1000):(131*n+k+1).tmod 1000003=kC n k:=by
 unfold MB at hn;rw[Int.tmod_eq_emod_of_nonneg (by omega)];rfl
theorem Wa{n k:Int}(hn:MB n)(hk:0<=k/\k<=1000):qb n k=some (kC n k):=by
 unfold qb;have h1:=hn;unfold MB at h1;rw[Int.mul_comm n,xa (by omega) (by omega),Kd,xa (by omega) (by omega),Kd,xa (by omega) (by omega),Kd,u9,Kd,Hn hn hk]
def pn(n:Int):Fw Int C0:=⟨some (⟨⟩,n)⟩
def nB(n:Int):Fw (Fw Int C0) C0:=⟨some (⟨⟩,pn n)⟩
theorem tu{n k:Int}(hn:MB n)(hk:0<=k/\k<=1000):oh (pn n) k=some (pn (kC n k)):=by
 show(Wb k n).bind _=_;unfold Wb;have h1:=hn;unfold MB at h1;rw[xa (by omega) (by omega),Kd,xa (by omega) (by omega),Kd,xa (by omega) (by omega),Kd,u9,Kd,Hn hn hk];rfl
theorem pJ(b:UInt8):0<=(b.toNat:Int)/\(b.toNat:Int)<=1000:=by have:=b.toNat_lt;omega
theorem Am{n:Int}(hn:MB n):MB (ox n s):=by
 unfold ox;refine Yw ?_ ⟨by omega,by omega⟩;have:∀ (l:List UInt8) (n:Int),MB n->MB (l.foldl (λ n b=>kC n (b.toNat:Int)) n):=by
  intro l
  induction l with
  | nil=>intro n h;exact h
  | cons b l ih=>intro n h;exact ih _ (Yw h (pJ b))
 grind
theorem IY{n:Int}(hn:MB n)(hs:s.l.length<=1000):qA n s=some (ox n s):=by
 have hl:zE (λ s4=>wW s s4) (n,(0:Int))=some (s.l.foldl (λ n b=>kC n (b.toNat:Int)) n):=by
  refine XC s.l (λ n k=>(n,(k:Int))) (λ n b=>kC n _) id (λ _ n=>MB n) (λ k n b hx hlt h=>?_) (λ n _=>?_) hn (by omega)
  .unfold wW;dsimp only;rw[zx,Ke (ab hlt),zA,hx,Kd,Wa h (pJ b),Kd,fF (by omega)];exact⟨Z,Yw h (pJ b)⟩
  .unfold wW;dsimp only;rw[zx,Kf (by simp)];rfl
 unfold qA;have h2:MB (s.l.foldl (λ n b=>kC n (b.toNat:Int)) n):=by
  have:∀ (l:List UInt8) (n:Int),MB n->MB (l.foldl (λ n b=>kC n (b.toNat:Int)) n):=by
   intro l
   induction l with
   | nil=>intro n h;exact h
   | cons b l ih=>intro n h;exact ih _ (Yw h (pJ b))
  exact this _ _ hn
 rw[hl,Kd,Wa h2 ⟨by omega,by omega⟩];rfl
theorem EF{n:Int}(hn:MB n)(hs:s.l.length<=1000):sD (nB n) s=some (nB (ox n s)):=by
 have hl:zE (λ s3=>jp s s3) (pn n,(0:Int))=some (pn (s.l.foldl (λ n b=>kC n (b.toNat:Int)) n)):=by
  refine XC s.l (λ n k=>(pn n,(k:Int))) (λ n b=>kC n _) pn (λ _ n=>MB n) (λ k n b hx hlt h=>?_) (λ n _=>?_) hn (by omega)
  .unfold jp;dsimp only;rw[zx,Ke (ab hlt),zA,hx,Kd,tu h (pJ b),Kd,fF (by omega)];exact⟨Z,Yw h (pJ b)⟩
  .unfold jp;dsimp only;rw[zx,Kf (by simp)]
 have h2:MB (s.l.foldl (λ n b=>kC n (b.toNat:Int)) n):=by
  have:∀ (l:List UInt8) (n:Int),MB n->MB (l.foldl (λ n b=>kC n (b.toNat:Int)) n):=by
   intro l
   induction l with
   | nil=>intro n h;exact h
   | cons b l ih=>intro n h;exact ih _ (Yw h (pJ b))
  exact this _ _ hn
 show(Wc s _).bind _=_;unfold Wc;rw[hl,Kd,tu h2 ⟨by omega,by omega⟩];rfl
def Qq(n:Int)(s:Stmt):Int:=ox (ox (kC (kC (kC n s.kind) s.level) s.value) s.module) s.name
theorem Fo{n:Int}{s:Stmt}(hn:MB n)(h:zM s=true):MB (Qq n s):=by
 have:=rN h;exact Am (Am (Yw (Yw (Yw hn (by omega)) (by omega)) (by omega)))
theorem HI(h:gG b=true):YS b=some (sI b):=by
 obtain⟨hlen,hall⟩:=tr h;have hl:zE (λ s5=>qB b s5) ((1:Int),(0:Int))=some (b.foldl Qq 1):=by
  refine XC b (λ n k=>(n,(k:Int))) Qq id (λ _ n=>MB n) (λ k n s hx hlt hn=>?_) (λ n _=>?_) ⟨by decide,by decide⟩ (by omega)
  .have hv:=hall s (ae hx);have hb:=rN hv;have m1:=Yw hn (k:=s.kind) (by omega);have m2:=Yw m1 (k:=s.level) (by omega);have m3:=Yw m2 (k:=s.value) (by omega);unfold qB;dsimp only;rw[zx,Ke (ab hlt),zA,hx,Kd,Wa hn (by omega),Kd,Wa m1 (by omega),Kd,Wa m2 (by omega),Kd,IY m3 hb.2.2.2.1,Kd,IY (Am m3) hb.2.2.2.2,Kd,fF (by omega)];exact⟨Z,Fo hn hv⟩
  .unfold qB;dsimp only;rw[zx,Kf (by simp)];rfl
 unfold YS;rw[hl];rfl
theorem Dn(h:gG b=true):Zy b=some (sI b):=by
 obtain⟨hlen,hall⟩:=tr h;have hl:zE (λ a8=>qq b a8) (nB 1,(0:Int))=some (nB (b.foldl Qq 1)):=by
  refine XC b (λ n k=>(nB n,(k:Int))) Qq nB (λ _ n=>MB n) (λ k n s hx hlt hn=>?_) (λ n _=>?_) ⟨by decide,by decide⟩ (by omega)
  .have hv:=hall s (ae hx);have hb:=rN hv;have m1:=Yw hn (k:=s.kind) (by omega);have m2:=Yw m1 (k:=s.level) (by omega);have m3:=Yw m2 (k:=s.value) (by omega);unfold qq;dsimp only;rw[zx,Ke (ab hlt),zA,hx,Kd,show(nB n).o=some _ from Z,Kd,tu hn (by omega),Kd,tu m1 (by omega),Kd,tu m2 (by omega),Kd];rw[show(⟨some _⟩:Fw _ C0)=nB _ from Z,EF m3 hb.2.2.2.1,Kd,EF (Am m3) hb.2.2.2.2,Kd,fF (by omega)];exact⟨Z,Fo hn hv⟩
  .unfold qq;dsimp only;rw[zx,Kf (by simp)]
 unfold Zy;rw[WX (rO h).1 (rO h).2,Kd,h,Kf (by decide)];rw[show(⟨some (_,(⟨some _⟩:Fw Int C0))⟩:Fw _ C0)=nB 1 from Z,hl];rfl
def nF(n:Int)(s:Stmt):Int:=n+(3+s.module.l.length+s.name.l.length)
theorem II(h:gG b=true):YR b=some (sT b):=by
 obtain⟨hlen,hall⟩:=tr h;have hl:zE (λ s5=>qz b s5) ((0:Int),(0:Int))=some (b.foldl nF 0):=by
  refine XC b (λ n k=>(n,(k:Int))) nF id (λ k n=>0<=n/\n<=3000*(k:Int)) (λ k n s hx hlt hn=>?_) (λ n _=>?_) ⟨by decide,by decide⟩ (by omega)
  .have hb:=rN (hall s (ae hx));unfold qz;dsimp only;rw[zx,Ke (ab hlt),xa (by omega) (by omega),Kd,zA,hx,Kd,xa (by omega) (by omega),Kd,Kd,xa (by omega) (by omega),Kd,fF (by omega)];refine⟨?_,by unfold nF;omega,by unfold nF;omega⟩;unfold nF;rw[show n+3+_+_=n+(3+(s.module.l.length:Int)+(s.name.l.length:Int)) by omega];rfl
  .unfold qz;dsimp only;rw[zx,Kf (by simp)];rfl
 unfold YR;rw[hl];rfl
theorem Dp(h:gG b=true):Zz b=some (sT b):=by
 obtain⟨hlen,hall⟩:=tr h;have hl:zE (λ a8=>qr b a8) ((0:Int),(0:Int))=some (b.foldl nF 0):=by
  refine XC b (λ n k=>(n,(k:Int))) nF id (λ k n=>0<=n/\n<=3000*(k:Int)) (λ k n s hx hlt hn=>?_) (λ n _=>?_) ⟨by decide,by decide⟩ (by omega)
  .have hb:=rN (hall s (ae hx));unfold qr;dsimp only;rw[zx,Ke (ab hlt),zA,hx,Kd,xa (by omega) (by omega),Kd,xa (by omega) (by omega),Kd,xa (by omega) (by omega),Kd,fF (by omega)];exact⟨Z,by unfold nF;omega,by unfold nF;omega⟩
  .unfold qr;dsimp only;rw[zx,Kf (by simp)];rfl
 unfold Zz;rw[WX (rO h).1 (rO h).2,Kd,h,Kf (by decide),hl];rfl
theorem uJ(a b:Int):ez .eql a b=decide (a=b):=rfl
theorem VL(h:gG f.body=true):XY c f=some (pF c f):=by
 unfold XY pF;simp only[uJ,bB];split
 .rw[II h,gd,Kd];cases h1:decide (c.stamp=f.stamp) <;> rfl
 .split
  .rw[HI h,Kd]
  .rfl
theorem TH(h:gG f.body=true):XU c f=some (pF c f):=by
 unfold XU pF;simp only[uJ,bB];split
 .rw[Dp h,gd,Kd];cases h1:decide (c.stamp=f.stamp) <;> rfl
 .split
  .rw[Dn h,Kd]
  .rfl
def po(l:List eU)(r:Int)(m:Str)(i:Bool):Int:=match l.findIdx? (og r m i) with | some k=>(k:Int) | none=>-1
theorem UG{r:Int}{m:Str}(hl:l.length<=1048576):Zp l r m i=some (po l r m i):=by
 have h:zE (λ s4=>wx l r m i s4) (0:Int)=some (match l.findIdx? (og r m i) with | some k=>(Sum.inr (k:Int):Unit⊕Int) | none=>Sum.inl ()):=by
  refine YL l _ (λ k=>_) _ (λ k x hx hlt=>?_) ?_ (by omega) Z
  .unfold wx;rw[zx,Ke (ab hlt),zA,hx,Kd,gd,Kd,gd,Kd,fF (by omega),Kd];unfold og;rw[uJ];cases h1:decide (x.root=r) with
   | false=>rfl
   |true=>
    cases h2:decide (x.module=m) with
    | false=>simp[h2]
    |true=>cases h3:x.init <;> cases i <;> simp[h2,h3]
  .unfold wx;rw[zx,Kf (by simp)]
 unfold Zp po
 grind
theorem If{r:Int}{m:Str}(hl:l.length<=1048576):jR l r m i=some (po l r m i):=by
 have h:zE (λ s4=>rz l (λ a0=>j8 a0 r m i) s4) (0:Int)=some (match l.findIdx? (og r m i) with | some k=>(Sum.inr (k:Int):Unit⊕Int) | none=>Sum.inl ()):=by
  refine YL l _ (λ k=>_) _ (λ k x hx hlt=>?_) ?_ (by omega) Z
  .unfold rz j8;rw[zx,Ke (ab hlt),zA,hx,Kd,Kd,fF (by omega),Kd];unfold og;rw[uJ];cases h1:decide (x.root=r) <;> cases h2:decide (x.module=m) <;> cases h3:x.init <;> cases i <;> rfl
  .unfold rz;rw[zx,Kf (by simp)]
 unfold jR yY po
 grind
theorem XH(h:b.length<=1048576):yR b=some b:=by
 unfold yR;rw[yj (by simp;omega) (by simp;omega)];rfl
theorem vS(m:Int):ZA m=some (eR m 0 2):=rfl
theorem Nn(hs:lC l):Y2 l=some l:=by
 have hlen:=hs.len;have h:zE (λ s5=>wu l s5) ([],(0:Int))=some l:=by
  refine YV l.length (λ k=>(l.take k,(k:Int))) (λ k hk=>?_) ?_ (by omega) Z
  .have hx:=aa hk;have hb:=YX (hs.all _ (ae hx)).body;have ht:(l.take k).length<=12:=by rw[aJ];omega
   unfold wu;dsimp only;rw[zx,Ke (ab hk),zA,hx,Kd,XH (by omega),Kd,yj (by simp;omega) (by simp;omega),Kd,fF (by omega),Kd];rw[bp,hx];rfl
  .unfold wu;dsimp only;rw[zx,Kf (by simp),aQ]
 unfold Y2;rw[h];rfl
theorem OJ(hs:lC l)(hk:l[k]?=some c):po l c.root c.module c.init=(k:Int):=by
 unfold po;cases h:l.findIdx? _ with
 |none=>have:=bC.1 h c (ae hk);rw[uB.2 ⟨Z,Z,Z⟩] at this;cases this
 |some j=>obtain⟨h1,h2,_⟩:=aU.1 h;obtain⟨e1,e2,e3⟩:=uB.1 h2;have:=hs.apart j k l[j] c (aa h1) hk e1 e2 e3;rw[this]
theorem MF(hs:lC l):Zi l=some true:=by
 have hlen:=hs.len;have h:zE (λ s4=>wt l s4) (0:Int)=some (.inl ()):=by
  refine YV l.length (λ k=>(k:Int)) (λ k hk=>?_) ?_ (by omega) Z
  .have hx:=aa hk;have hc:=hs.all _ (ae hx);have hn:=yt hc.module;have hsz:=hc.size;have hha:=hc.hash;unfold wt;rw[zx,Ke (ab hk),zA,hx,Kd,Zc,hc.root,Kd,wk (by unfold ia;omega),hc.module,vS,hc.mode,Zc,hc.stamp,WX (rO hc.body).1 (rO hc.body).2,hc.body,Dp hc.body,Dn hc.body,If (by omega),OJ hs hx,fF (by omega)];simp[gd,ez,hsz,hha]
  .unfold wt;rw[zx,Kf (by simp)]
 unfold Zi;rw[h,Kd];simp[ez];omega
section
theorem Fx(l:List eU)(f:File):po l f.root (xe f) f.init=(match pN l f with | some k=>(k:Int) | none=>-1):=rfl
theorem QT(h:iC f):jQ f=some (xe f):=Ke h
theorem HF(hf:z9 f=true)(hsm:iC f):YF f mode=some (pj f mode):=by
 have hb:=(YM hf).2.2.2;have:=YX hb;unfold YF;rw[QT hsm,Kd,II hb,Kd,HI hb,Kd,yj (by simp;omega) (by simp;omega)];rfl
theorem IJ(hf:z9 f=true)(hsm:iC f)(hm:eR mode 0 2=true):qK f mode=some (pj f mode):=by
 have hb:=(YM hf).2.2.2;have:=YX hb;unfold qK;rw[tf hsm,hf,Kd,vS,hm,gd,Kd,Kf (by decide),Kt hsm,Ke hf,Kd,Dp hb,Kd,Dn hb,Kd,XH (by omega)];rfl
theorem Vr(hs:lC l)(hf:z9 f=true)(hsm:iC f):YG l f mode=some (QS l f mode):=by
 have hb:=(YM hf).2.2.2;have hlen:=hs.len;unfold YG;rw[QT hsm,Kd,UG (by omega),Kd,Fx];unfold QS;cases hk:pN l f with
 |none=>
  simp only;rw[show(ez .geq _ 0 == true)=false from Z,Zu,Kd,Zu,Kd,show ez .geq _ 0=false from Z,cp,Kf (by decide),HF hf hsm,Kd,Kf (by decide),show ez .lss _ 12=decide (l.length<12) from by simp[ez];omega];by_cases hl:l.length<12
  .rw[Ke (ab hl),Ke hl,yj (by simp;omega) (by simp;omega)];rfl
  .rw[Kf (by simpa using hl),Kf hl];rfl
 |some k=>
  obtain⟨k1,k2,_⟩:=CK hk;simp only;rw[show ez .geq (k:Int) 0=true from by simp[ez],show((true:Bool) == true)=true from Z,wj,zA,k2,Kd,wj,VL hb,Kd,bA];cases hu:pF _ f with
  | true=>rw[Ke Z,Ke Z,Kd]
  |false=>rw[Kf (by decide),Kf (by decide),HF hf hsm,Kd,Ke Z,Kd,Kd];rfl
theorem Mw(hs:lC l)(hf:z9 f=true)(hsm:iC f)(hm:eR mode 0 2=true):YB l f mode=some (QS l f mode):=by
 have hb:=(YM hf).2.2.2;have hbl:=YX hb;have hlen:=hs.len;unfold YB;rw[MF hs,Kd,tf hsm,hf,gd,Kd,vS,hm,gd,Kd,Kf (by decide),Nn hs,Kd,Kt hsm,Ke hf,Kd,If (by omega),Kd,Fx];unfold QS;cases hk:pN l f with
 |none=>
  simp only;rw[show(ez .geq _ 0 == true)=false from Z,Zu,Kd,Zu,Kd,show ez .geq _ 0=false from Z,cp,Kf (by decide),IJ hf hsm hm,Kd,Kf (by decide),show ez .lss _ 12=decide (l.length<12) from by simp[ez];omega];by_cases hl:l.length<12
  .rw[Ke (ab hl),Ke hl,yj (by simp;omega) (by simp;omega),Kd,Kd,XH (by omega)];rfl
  .rw[Kf (by simpa using hl),Kf hl,Kd,XH (by omega)];rfl
 |some k=>
  obtain⟨k1,k2,_⟩:=CK hk;have hbk:=YX (hs.all _ (ae k2)).body;simp only;rw[show ez .geq (k:Int) 0=true from by simp[ez],show((true:Bool) == true)=true from Z,wj,zA,k2,Kd,wj,TH hb,Kd,bA];cases hu:pF _ f with
  | true=>rw[Ke Z,Ke Z,Kd,XH (by omega)];rfl
  |false=>rw[Kf (by decide),Kf (by decide),IJ hf hsm hm,Kd,Ke Z,Kd,tz k1,Kd,Kd,XH (by omega)];rfl
def ld(mode:Int)(l:List eU):lA:=⟨some (⟨mode⟩,l)⟩
theorem M9(hs:lC l)(hf:z9 f=true)(hsm:iC f)(hm:eR mode 0 2=true):sB (ld mode l) f=some (ld mode (QS l f mode).2.1,(QS l f mode).1):=by
 show(We f l mode).bind _=_;unfold We;rw[Mw hs hf hsm hm];rfl
end
theorem Od{α:Type}(p:α->Bool)(l:List α):(xo p l=-1/\∀ x∈l,p x=false)\/∃ (k:Nat) (x:α),xo p l=(k:Int)/\l[k]?=some x/\p x=true:=by
 cases h:ez .geq _ 0 with
 |true=>obtain⟨x,h1,h2,h3⟩:=Dm h;exact .inr ⟨(xo p l).toNat,x,(bN h3).symm,h1,h2⟩
 |false=>refine .inl ⟨?_,Db h⟩;have hn:=Db h;unfold xo;rw[bC.2 hn]
theorem XI(st:eL)(s:Str):(iA st s=-1/\∀ m∈st.mods,hits s m=false)\/∃ (k:Nat) (m:eZ),iA st s=(k:Int)/\st.mods[k]?=some m/\m.name=s/\m.cached=true:=by
 rcases Od _ st.mods with h | ⟨k,m,h1,h2,h3⟩
 .exact .inl h
 .unfold hits at h3;simp at h3;exact .inr ⟨k,m,h1,h2,h3.1,h3.2⟩
theorem Yx(k:Nat):ez .geq (k:Int) 0=true:=by simp[ez]
theorem Ad(k:Nat):ez .lss (k:Int) 0=false:=by simp[ez]
theorem sH:ez .geq (-1:Int) 0=false:=rfl
theorem u7:ez .lss (-1:Int) 0=true:=rfl
def enc(s:Str):Nat:=match s.l with
 | [a]=>a.toNat
 | [a,b]=>a.toNat+256*b.toNat
 | [a,b,c]=>a.toNat+256*b.toNat+65536*c.toNat
 | _=>0
theorem vM(h:fW s=true):(∃ a,s=⟨[a]⟩/\1<=a.toNat)\/(∃ a b,s=⟨[a,b]⟩/\1<=a.toNat/\1<=b.toNat)\/∃ a b c,s=⟨[a,b,c]⟩/\1<=a.toNat/\1<=b.toNat/\1<=c.toNat:=by
 have hl:∀ {b:UInt8},low b=true->1<=b.toNat:=λ{b} hb=>by
  unfold low at hb;simp[gT] at hb;have h1:=hb.1;rw[UInt8.le_iff_toNat_le] at h1;simp at h1;omega
 unfold fW eR at h;simp at h;obtain⟨h1,h2⟩:=h;cases s with
 | mk l=>
 match l,h1,h2 with
 | [],h1,_=>simp[ez] at h1
 | [a],_,h2=>exact .inl ⟨a,Z,hl (h2 a (by simp))⟩
 | [a,b],_,h2=>exact .inr (.inl ⟨a,b,Z,hl (h2 a (by simp)),hl (h2 b (by simp))⟩)
 | [a,b,c],_,h2=>exact .inr (.inr ⟨a,b,c,Z,hl (h2 a (by simp)),hl (h2 b (by simp)),hl (h2 c (by simp))⟩)
 | a::b::c::d::l,h1,_=>simp[ez] at h1;omega
theorem NM{t:Str}(hs:fW s=true)(ht:fW t=true)(h:enc s=enc t):s=t:=by
 have lt:∀ a:UInt8,a.toNat<256:=λ a=>a.toNat_lt
 have inj:∀ {a b:UInt8},a.toNat=b.toNat->a=b:=λ h=>UInt8.toNat_inj.1 h
 rcases vM hs with⟨a,rfl,h1⟩ | ⟨a,b,rfl,h1,h2⟩ | ⟨a,b,c,rfl,h1,h2,h3⟩ <;> rcases vM ht with⟨x,rfl,k1⟩ | ⟨x,y,rfl,k1,k2⟩ | ⟨x,y,z,rfl,k1,k2,k3⟩ <;> simp[enc] at h
 .rw[inj (a:=a) (by omega)]
 .have:=lt a;have:=lt x;omega
 .have:=lt a;have:=lt x;have:=lt y;omega
 .have:=lt a;have:=lt x;omega
 .have:=lt a;have:=lt x;rw[inj (a:=a) (b:=x) (by omega),inj (a:=b) (b:=y) (by omega)]
 .have:=lt a;have:=lt x;have:=lt b;have:=lt y;omega
 .have:=lt a;have:=lt x;have:=lt b;omega
 .have:=lt a;have:=lt x;have:=lt b;have:=lt y;omega
 .have:=lt a;have:=lt x;have:=lt b;have:=lt y;rw[inj (a:=a) (b:=x) (by omega),inj (a:=b) (b:=y) (by omega),inj (a:=c) (b:=z) (by omega)]
theorem NN(s:Str):enc s<16777216:=by
 unfold enc;have lt:∀ a:UInt8,a.toNat<256:=λ a=>a.toNat_lt
 grind
theorem MX{l:List fI}(h1:∀ a∈l,fW a.name=true)(h2:(l.map (·.name)).Nodup):l.length<=16777216:=by
 have h3:((l.map (·.name)).map enc).Nodup:=by
  unfold List.Nodup;rw[List.pairwise_map];refine List.Pairwise.imp_of_mem (λ{a b} ha hb hne e=>hne (NM ?_ ?_ e)) h2
  .obtain⟨x,hx,rfl⟩:=bi.1 ha;exact h1 x hx
  .obtain⟨x,hx,rfl⟩:=bi.1 hb;exact h1 x hx
 have h4:=Gg h3 (λ x hx=>by
  obtain⟨y,_,rfl⟩:=bi.1 hx;exact aA.2 (NN y))
 grind
variable(d:eK)(mode:Int)(path:List Int)
def gH(l:List eZ):List (Bx eZ):=l.map λ m=>⟨m⟩
def fh(st:eL):Machine:=⟨d.tree,path,kn d st.fin,ld mode st.sto,gH st.mods,st.out,st.log,st.part,st.left⟩
variable{d mode path}
theorem A9(l:List eZ)(k:Nat):(gH l)[k]?=(l[k]?).map λ m=>⟨m⟩:=be ..
theorem Ba(l:List eZ):(gH l).length=l.length:=bU ..
theorem tL(l:List eZ)(k:Nat)(m:eZ):(gH l).set k ⟨m⟩=gH (l.set k m):=(el).symm
theorem M6(l:List eZ)(m:eZ):gH l++[⟨m⟩]=gH (l++[m]):=by unfold gH;rw[eq];rfl
theorem M7(l:List eZ)(s:Str):xo (λ x:Bx eZ=>hits s x.x) (gH l)=xo (hits s) l:=by
 unfold xo gH;rw[List.findIdx?_map];rfl
theorem Qo(h:st.mods.length<=1048576)(s:Str):yk (fh d mode path st) s=some (iA st s):=by
 unfold yk xf;have hl:zE (λ s4=>rA (gH st.mods) (λ a0=>xy a0 s) s4) 0=some (match (gH st.mods).findIdx? (λ x=>hits s x.x) with | some i=>(Sum.inr (i:Int):Unit⊕Int) | none=>Sum.inl ()):=by
  refine YL (gH st.mods) (λ x=>hits s x.x) (λ i=>Sum.inr i) _ (λ k x hx hlt=>?_) ?_ (by rw[Ba];omega) Z
  .unfold rA;have hb:=Ba st.mods;rw[zx,Ke (ab hlt),zA,hx,Kd];show Option.bind (xy x.x s) _=_;rw[show xy x.x s=some (hits s x.x) from bu some (Bool.and_comm ..),Kd,fF (by omega)];cases hits s x.x <;> rfl
  .unfold rA;rw[zx,Kf (by simp)]
 rw[show(fh d mode path st).modules=gH st.mods from Z,hl,show iA st s=xo (λ x:Bx eZ=>hits s x.x) _ from(M7 ..).symm];unfold xo
 grind
theorem Ae(h:st.log.length<=1048576)(k:Int)(s:Str):xB (fh d mode path st) k s=some (fh d mode path (st.note k s)):=by
 unfold xB;rw[yj (by show(st.log.length+1)*24<=_;omega) (by show st.log.length+1<=_;omega),Kd];rfl
theorem Fm(h:st.log.length<=1048576)(hp:st.part.length<=1048576)(hm:st.mods[k]?=some m):qN (fh d mode path st) (k:Int)=some (fh d mode path (st.hit k m.name),(k:Int)):=by
 have hb:(gH st.mods)[k]?=some ⟨m⟩:=by rw[A9,hm];rfl
 have hd:st.Ar k=m.done:=by unfold eL.Ar;rw[hm];rfl
 unfold qN;rw[show(fh d mode path st).modules=gH st.mods from Z,zA,hb,Kd,ak,hb,Kd,Ae h,Kd,
  show(fh d mode path (st.note 3 m.name)).modules=gH st.mods from Z,hb,Kd,gd,Kd,show(fh d mode path (st.note 3 m.name)).part=st.part from Z]
 have hc:∀ x,zQ st.part x=some _:=λ x=>Mq hp
 rw[hc,gd,Kd];cases hdn:m.done with
 |true=>rw[hdn] at hd;rw[Kf (by simp),Kd];unfold eL.hit;rw[Kf (by rw[hd];simp)];rfl
 |false=>
  rw[hdn] at hd;by_cases hi:m.name∈st.part
  .rw[Kf (by simp[hi]),Kd];unfold eL.hit;rw[Kf (by simp[hi])];rfl
  .rw[Ke (by simp[hi]),Kd,yj (by show(st.part.length+1)*16<=_;omega) (by show st.part.length+1<=_;omega),Kd,Kd];unfold eL.hit;rw[Ke ⟨hd,hi⟩];rfl
def mn(l:List fI)(j:Int):fu:=((l[j.toNat]?).map (·.value)).getD ⟨0,0⟩
theorem F9{α β γ:Type}{c:γ}{step:γ×Int->Option ((γ×Int)⊕β)}(xs:List α)(p:α->Bool)(f:Int->β)(e:β)
  (h:∀ k x,xs[k]?=some x->k<xs.length->step (c,(k:Int))=some (if p x=true then .inr (f k) else .inl (c,((k+1:Nat):Int))))
  (hend:step (c,(xs.length:Int))=some (.inr e)) (hlen:xs.length<576460752303423488):zE step (c,(0:Int))=some (match xs.findIdx? p with | some i=>f (i:Int) | none=>e):=by
 have key:=tB xs (λ _ k=>(c,(k:Int))) (λ k _ x=>match (if p x=true then some (f k) else none) with | none=>.inl () | some b=>.inr b) (λ _=>e) (λ _ _=>True) (λ k _ x hx hlt _=>by
  have:=h k x hx hlt;cases hp:p x with
  | true=>rw[hp] at this;exact this
  | false=>rw[hp] at this;exact⟨this,trivial⟩) (λ _ _=>hend) (s0:=()) trivial hlen
 refine key.trans ((bu some (Ca p f e 0 xs)).trans ?_)
 grind
theorem MW(h:m.attrs.length<=16777216)(s:Str):wl m s=some (match (m.attrs.findIdx? (λ a=>decide (a.name=s))) with | some i=>(mn m.attrs (i:Int),true) | none=>(⟨0,0⟩,false)):=by
 unfold wl;have hl:zE (λ s6=>xZ m s s6) (tc,(0:Int))=some (match m.attrs.findIdx? (λ a=>decide (a.name=s)) with | some i=>(Sum.inr (mn m.attrs (i:Int),true):fu⊕_) | none=>Sum.inl tc):=by
  refine F9 m.attrs (λ a=>decide _) (λ j=>Sum.inr (mn m.attrs j,true)) _ (λ k x hx hlt=>?_) ?_ (by omega)
  .unfold xZ;rw[show(_:fu×Int).2=(k:Int) from Z,zx,Ke (ab hlt),zA,hx,Kd,fF (by omega),Kd,show mn m.attrs (k:Int)=x.value by unfold mn;rw[ak,hx];rfl];cases decide (x.name=s) <;> rfl
  .unfold xZ;rw[show(_:fu×Int).2=_ from Z,zx,Kf (by simp)]
 grind
theorem tl(l:List fI)(s:Str):(iX l s=-1/\l.findIdx? (λ a=>decide (a.name=s))=none)\/∃ (k:Nat) (a:fI),iX l s=(k:Int)/\l.findIdx? (λ a=>decide (a.name=s))=some k/\l[k]?=some a/\a.name=s:=by
 unfold iX xo;cases h:l.findIdx? (λ a=>decide (a.name=s)) with
 | none=>exact .inl ⟨Z,Z⟩
 |some k=>obtain⟨h1,h2,_⟩:=aU.1 h;exact .inr ⟨k,l[k],Z,Z,aa h1,by simpa using h2⟩
theorem Ey(h:m.attrs.length<=16777216)(s:Str):wl m s=some (if ez .geq (iX m.attrs s) 0=true then(mn m.attrs (iX m.attrs s),true) else(⟨0,0⟩,false)):=by
 rw[MW h];rcases tl m.attrs s with⟨h1,h2⟩ | ⟨k,a,h1,h2,_⟩
 .rw[h1,h2];rfl
 .rw[h1,h2,Ke (Yx k)]
theorem Ff(h:m.attrs.length<=16777216)(s:Str)(v:fu):yL m s v=some { m with attrs:=Yv m.attrs s v }:=by
 unfold yL;have hl:zE (λ s6=>x8 m s v s6) (m,(0:Int))=some (match m.attrs.findIdx? (λ a=>decide (a.name=s)) with | some i=>(Sum.inr { m with attrs:=lh m.attrs (i:Int).toNat (λ a=>{ a with value:=v }) }:eZ⊕eZ) | none=>Sum.inl m):=by
  refine F9 m.attrs (λ a=>decide (a.name=s)) (λ j=>Sum.inr { m with attrs:=lh m.attrs j.toNat (λ a=>{ a with value:=v }) }) _ (λ k x hx hlt=>?_) ?_ (by omega)
  .unfold x8;rw[show(_:eZ×Int).2=(k:Int) from Z,show(_:eZ×Int).1=m from Z,zx,Ke (ab hlt),zA,hx,Kd,Kd,fF (by omega),Kd,ak,Qj _ hx];cases decide (x.name=s) <;> rfl
  .unfold x8;rw[show(_:eZ×Int).2=_ from Z,zx,Kf (by simp)]
 rw[hl];unfold Yv;rcases tl m.attrs s with⟨h1,h2⟩ | ⟨k,a,h1,h2,_⟩
 .rw[h2,h1,Kf (by decide)];show Option.bind (fE 32 m.attrs [⟨s,v⟩]) _=_;rw[yj (by show(m.attrs.length+1)*32<=_;omega) (by show m.attrs.length+1<=_;omega),Kd]
 .rw[h2,h1,Ke (Yx k),ak];rfl
theorem RZ(h:zm m.name=true):wv m=some (if m.kind=1 then yb m.name else m.name):=by
 unfold wv;by_cases hk:m.kind=1
 .rw[Ke (by simp[ez,hk]),Ke hk,Q3 h];rfl
 .rw[Kf (by simp[ez,hk]),Kf hk]
theorem Mr(hs:s.l.length<=4611686018427387904):∃ a b,qh s ⟨[46]⟩=some (Wi s,a,b):=by
 have hge:=Go.Lib.indexByte_ge s.l 46;have hf:Wi s=((zC s dot)[0]?).getD fG:=by unfold Wi;cases zC s dot <;> rfl
 rw[hf];unfold qh xA;rw[show yQ s ⟨[46]⟩=some _ from Z,Kd,jE];cases hc:ez .geq _ 0 with
 |false=>
  rw[Kf (by decide),Kd];have h0:Lib.indexByte s.l 46<0:=by have:=bM hc;omega
  have h1:fO dot s.l=[s.l]:=X7 46 s.l h0;rw[h1];exact⟨_,_,Z⟩
 |true=>
  have h0:=oD hc;obtain⟨h1,h2⟩:=X8 46 s.l h0;obtain⟨n,hn⟩:∃ n:Nat,Lib.indexByte s.l 46=n:=⟨_,(bN h0).symm⟩;rw[hn] at h1 h2 ⊢;have h3:fO dot s.l=s.l.take n::fO 46 _:=h2;have hl:n+1<=s.l.length:=by omega
  rw[Ke Z,te (by omega),Kd,show((n:Int)+((⟨[46]⟩:Str).l.length:Int))=((n:Int)+1) from Z,xa (by omega) (by omega),Kd,show((n:Int)+1)=((n+1:Nat):Int) from Z,Qm hl,Kd,Kd,h3];exact⟨_,_,Z⟩
structure Small(st:eL):Prop where
 mods:st.mods.length<=1048576
 log:st.log.length<=1048576
 out:st.out.length<=1048576
 part:st.part.length<=1048576
theorem eL.small{n:Nat}(h:st.size<=n)(hn:n<=1048576:=by decide):Small st:=by
 unfold eL.size at h;exact⟨by omega,by omega,by omega,by omega⟩
theorem Inv.Ll(h:Inv st)(hm:m∈st.mods):m.attrs.length<=16777216:=MX (h.parts m hm) (h.apart m hm)
theorem Inv.at_(h:Inv st)(hm:st.mods[k]?=some m):m∈st.mods/\zm m.name=true/\m.attrs.length<=16777216/\yu m.roots:=
 have hi:=ae hm
 ⟨hi,h.names m hi,h.Ll hi,h.roots m hi⟩
theorem Qp(hm:st.mods[k]?=some m):st.rY k=m.kind:=by unfold eL.rY;rw[hm];rfl
theorem KE(hm:st.mods[k]?=some m):st.uj k=m.roots:=by unfold eL.uj;rw[hm];rfl
theorem Jq(hm:st.mods[k]?=some m):st.ma k=m.attrs:=by unfold eL.ma;rw[hm];rfl
theorem vT(hm:st.mods[k]?=some m):st.mc k=m.name:=by unfold eL.mc;rw[hm];rfl
theorem Cf(hm:st.mods[k]?=some m)(s:Str)(v:fu):st.mods.set k { m with attrs:=Yv m.attrs s v }=(st.il k s v).mods:=(Qj (λ m:eZ=>{ m with attrs:=Yv m.attrs s v }) hm).symm
theorem Rm(hm:st.mods[k]?=some m)(s:Str)(v:fu):({ fh d mode path st with modules:=(gH st.mods).set k ⟨{ m with attrs:=Yv m.attrs s v }⟩ }:Machine)=fh d mode path (st.il k s v):=by
 rw[tL,Cf hm];rfl
theorem F7(hd:gg d)(ht:Good d.tree)(hp:yu path)(h:Inv st)(hs:Small st)(hv:zm s=true):xV (fh d mode path st) s=some (fh d mode path (X9 d path st s).1,(X9 d path st s).2):=by
 have hn:=Ge hv;unfold xV X9;rw[Q3 hv,Kd];by_cases he:yb s=fG
 .have hl:qG s=s:=by
   rw[he] at hn;unfold child at hn;rw[Ke Z] at hn;exact hn.symm
  rw[Ke (ab (show yb s=(⟨[]⟩:Str) from he)),Ke he,show(fh d mode path st).t=d.tree from Z,show(fh d mode path st).path=path from Z,show(fh d mode path st).known=kn d st.fin from Z,
   E5 h.fin hd ht.sm hp.1 hp.2 (p:=(⟨[]⟩:Str)) (by rfl) (by rw[<-hl];exact Jp hv) (show zm (child fG s)=true by unfold child;rw[Ke Z];exact hv),Kd]
  rfl
 .have he':¬ yb s=(⟨[]⟩:Str):=he;rw[Kf (by simp[he']),Kf he,Qo hs.mods,Kd];rcases XI st _ with⟨h1,_⟩ | ⟨k,m,h1,h2,h3,_⟩
  .rw[h1,u7];rw[show((true == false):Bool)=false from Z,Zu,Kd,Zu,Kd,Ke (by simp),Ke Z];rfl
  .have hb:(gH st.mods)[k]?=some ⟨m⟩:=by rw[A9,h2];rfl
   rw[h1,Ad,show((false == false):Bool)=true from Z,wj,wj,show(fh d mode path st).modules=gH st.mods from Z,zA,hb,Kd,ak,hb,Kd,dd,Kf (by decide:¬ (false=true)),Qp h2,KE h2];by_cases hk:m.kind=1
   .rw[Ke (by simp[ez,hk]),Ke hk];rfl
   .rw[Kf (by simp[ez,hk]),Kf hk,Kd,Kd,Ej hv,Kd];have hpp:=(XG hv he).2;have hr:=(h.at_ h2).2.2.2;rw[show(fh d mode path st).t=d.tree from Z,show(fh d mode path st).known=kn d st.fin from Z,E5 h.fin hd ht.sm hr.1 hr.2 (ql hpp) (Jp hv) (by rw[<-hn];exact hv),Kd];rfl
variable{n:Nat}
def oT(d:eK)(mode:Int)(path:List Int)(n:Nat)(R:Rec)(I:kR):Prop:=
 ∀ st s r,Inv st->zm s=true->4*st.left.toNat+(zC s dot).length<=n->st.size<=20000->I st s=some r->R.impl_machine_load1 (fh d mode path st) s=some (fh d mode path r.1,r.2.1,r.2.2)
theorem mB(h:¬ e=0):ez .neq e 0=true:=by simp[ez,h]
theorem jY{b:Int}(h:a=b):ez .eql a b=true:=by simp[ez,h]
theorem wm{b:Int}(h:¬ a=b):ez .eql a b=false:=by simp[ez,h]
theorem Yl{l:List eZ}(h:l[k]?=some m):(gH l)[k]?=some ⟨m⟩:=by rw[A9,h];rfl
theorem gz.at_{a b:eL}(h:gz a b)(hm:a.mods[k]?=some m):∃ m',b.mods[k]?=some m':=let⟨m',h1,_⟩:=h.old k m hm;⟨m',h1⟩
theorem uN(h:Inv st)(hm:st.mods[k]?=some m)(s:Str)(v:fu){β:Type}(f:Machine->β):
  (((fh d mode path st).modules[k]?).bind λ a8=>(yL a8.x s v).bind λ a9=>some (f { fh d mode path st with modules:=(fh d mode path st).modules.set k ⟨a9⟩ }))=some (f (fh d mode path (st.il k s v))):=by
 rw[show(fh d mode path st).modules=gH st.mods from Z,Yl hm,Kd,Ff (h.at_ hm).2.2.1,Kd,Rm hm]
theorem NA(hI:Xu n I)(hL:oT d mode path n R I)(h:Inv st)(hn:4*st.left.toNat+3<=n)(hsz:st.size<=19950)(hk:st.mods[k]?=some m)(hx:zM x=true)(hkd:x.kind=0)(hr:Xt d path I st k x=some r):
  yU R (fh d mode path st) (k:Int) x=some (fh d mode path r.1,r.2):=by
 have hv:=Wv hx (.inl hkd);have hpl:=qQ hv;obtain⟨q,hq,hp⟩:=hI st x.module h hv (by omega);have hqs:=hp.size;unfold Xt at hr;rw[Ke hkd,hq,Kd] at hr;have hld:=hL st x.module q h hv (by omega) (by omega) hq;unfold yU;rw[show(fh d mode path st).modules=gH st.mods from Z,zA,Yl hk,Kd,Ke (jY hkd),hld,Kd];by_cases he:q.2.2=0
 .rw[Kf (by simp[he])] at hr;have hc:=Mr (s:=x.module) (by have:=yt hv;omega);obtain⟨a,b,hc⟩:=hc;obtain⟨m',hm'⟩:=hp.grow.at_ hk;simp only;rw[he,Kf (by decide),hc,Kd,Qo (eL.small (by omega) (hn:=(by omega))).mods,Kd];cases hcx:ez .lss _ 0 with
  |true=>rw[Ke hcx] at hr;rw[Ke Z];cases hr;rfl
  |false=>rw[Kf (by simp[hcx])] at hr;cases hr;rw[Kf (by decide),ak];have:=uN (d:=d) (mode:=mode) (path:=path) hp.inv hm' (Wi x.module) ⟨1,iA q.1 (Wi x.module)⟩ (λ mm=>(Sum.inl mm:Machine⊕(Machine×Int)));rw[this];rfl
 .rw[Ke he] at hr;cases hr;simp only;rw[Ke (mB he)];rfl
theorem ND(hk':∃ m,st.mods[k]?=some m)(l:List fI)(h:Inv st)(hl:∀ a∈l,fW a.name=true)(hb:l.length<=16777216):
  zE (λ a8=>xE R (k:Int) l a8) (fh d mode path st,(0:Int))=some (Sum.inl (fh d mode path (pA k l st))):=by
 obtain⟨m0,hm0⟩:=hk';have key:=XC l (λ(s:eL) j=>_) (λ s a=>if _=true then s else s.il k a.name a.value) (λ s=>_) (λ _ s=>Inv s/\∃ m,s.mods[k]?=some m)
  (λ j s a ha hlt ⟨hi,m1,hm1⟩=>by
   have hva:=hl a (ae ha);have hne:a.name.l[0]?=some (a.name.l.headD 0):=by
    rcases vM hva with⟨c,e,_⟩ | ⟨c,d,e,_⟩ | ⟨c,d,e',e,_⟩ <;> rw[e] <;> rfl
   have hat:eN a.name.l (0:Int)=some _:=hne;have hgr:=gz.il (st:=s) k a.name a.value;obtain⟨m2,hm2⟩:=hgr.at_ hm1;have hs:xE R (k:Int) l (fh d mode path s,(j:Int))=some (.inl (fh d mode path (if(a.name.l.headD 0 == 122)=true then s else s.il k a.name a.value),((j+1:Nat):Int))):=by
    unfold xE;simp only;rw[zx,Ke (ab hlt),zA,ha,Kd,hat,Kd,fF (by omega),ak];cases hz:(a.name.l.headD 0 == 122) with
    |true=>rw[Kf (by simp[gT] at hz ⊢;exact hz),Ke Z];rfl
    |false=>have hg:=uN (d:=d) (mode:=mode) (path:=path) hi hm1 a.name a.value (λ mm=>mm);rw[Ke (by simp[gT] at hz ⊢;exact hz),hg,Kf (by decide)];rfl
   refine⟨hs,?_⟩;split
   .exact⟨hi,m1,hm1⟩
   .exact⟨hi.il k _ hva,m2,hm2⟩)
  (λ s _=>by
   unfold xE;simp only;rw[zx,Kf (by simp)]) ⟨h,m0,hm0⟩ (by omega)
 exact key
theorem NC(hI:Xu n I)(hL:oT d mode path n R I)(h:Inv st)(hn:4*st.left.toNat+3<=n)(hsz:st.size<=19950)(hk:st.mods[k]?=some m)(hx:zM x=true)(hkd:x.kind=2)(hr:Xt d path I st k x=some r):
  yU R (fh d mode path st) (k:Int) x=some (fh d mode path r.1,r.2):=by
 have hv:=Wv hx (.inr hkd);have hpl:=qQ hv;obtain⟨q,hq,hp⟩:=hI st x.module h hv (by omega);have hqs:=hp.size;unfold Xt at hr;rw[Kf (by omega),Kf (by omega),Ke hkd,hq,Kd] at hr;have hld:=hL st x.module q h hv (by omega) (by omega) hq;unfold yU;rw[show(fh d mode path st).modules=gH st.mods from Z,zA,Yl hk,Kd,Kf (by rw[wm (by omega)];decide),Kf (by rw[wm (by omega)];decide),Ke (jY hkd),hld,Kd];by_cases he:q.2.2=0
 .rw[Kf (by simp[he])] at hr;obtain⟨m',hm'⟩:=hp.grow.at_ hk;obtain⟨m2,hm2,_,h0⟩:=hp.good he;have hi2:=hp.inv.at_ hm2;obtain⟨j,hj⟩:∃ j:Nat,q.2.1=j:=⟨_,(bN h0).symm⟩;rw[hj,ak] at hm2;rw[hj,ak,Jq hm2] at hr;cases hr;simp only;rw[he,Kf (by decide),hj,show(fh d mode path q.1).modules=gH q.1.mods from Z,zA,Yl hm2,Kd,ak,Yl hm2,Kd,
   yj (by simp;omega) (by simp;omega),Kd,bb,ND ⟨m',hm'⟩ m2.attrs hp.inv (hp.inv.parts m2 hi2.1) hi2.2.2.1]
  rfl
 .rw[Ke he] at hr;cases hr;simp only;rw[Ke (mB he)];rfl
theorem NF(h:Inv st)(hsz:st.size<=19950)(hk:st.mods[k]?=some m)(hkd:x.kind≠0/\x.kind≠1/\x.kind≠2)(hr:Xt d path I st k x=some r):
  yU R (fh d mode path st) (k:Int) x=some (fh d mode path r.1,r.2):=by
 have hi:=h.at_ hk;unfold Xt at hr;rw[Kf hkd.1,Kf hkd.2.1,Kf hkd.2.2] at hr;unfold yU;rw[show(fh d mode path st).modules=gH st.mods from Z,zA,Yl hk,Kd,Kf (by rw[wm hkd.1];decide),Kf (by rw[wm hkd.2.1];decide),Kf (by rw[wm hkd.2.2];decide),ak];by_cases h3:x.kind=3
 .rw[Ke h3] at hr;cases hr;have:=uN (d:=d) (mode:=mode) (path:=path) h hk x.name ⟨0,x.value⟩ (λ mm=>(Sum.inl mm:Machine⊕(Machine×Int)));rw[Ke (jY h3)];refine(bu (λ o=>Option.bind o _) this).trans ?_;rfl
 .rw[Kf h3] at hr;rw[Kf (by rw[wm h3];decide)];by_cases h4:x.kind=4
  .rw[Ke h4,Jq hk] at hr;rw[Ke (jY h4),Yl hk,Kd,Ey hi.2.2.1,Kd];cases hg:ez .geq _ 0 with
   |false=>
    have hl:ez .lss (iX m.attrs x.name) 0=true:=by rw[BX] at hg;simpa using hg
    rw[Ke hl] at hr;cases hr;rw[Kz];rfl
   |true=>
    have hl:ez .lss (iX m.attrs x.name) 0=false:=by rw[BX] at hg;simpa using hg
    rw[hl,Kf (by decide)] at hr;cases hr;have ho:st.out.length<=19950:=by unfold eL.size at hsz;omega
    rw[Ke (show true=true from Z)];show Option.bind (if ez .eql (mn m.attrs _).kind 1=true then _ else _) _=some (fh d mode path { st with out:=st.out++[if(mn m.attrs _).kind=1 then -1 else(mn m.attrs _).num] },0);by_cases hz:(mn m.attrs (iX m.attrs x.name)).kind=1
    .rw[Ke (jY hz),Ke hz,yj (by show(st.out.length+1)*8<=_;omega) (by show st.out.length+1<=_;omega),Kd];rfl
    .rw[Kf (by rw[wm hz];decide),Kf hz,yj (by show(st.out.length+1)*8<=_;omega) (by show st.out.length+1<=_;omega),Kd];rfl
  .rw[Kf h4] at hr;rw[Kf (by rw[wm h4];decide)];by_cases h5:x.kind=5
   .rw[Ke h5] at hr;cases hr;rw[Ke (jY h5)];rfl
   .rw[Kf h5] at hr;cases hr;rw[Kf (by rw[wm h5];decide)];rfl
variable{n:Nat}
theorem Ng(hp:zm p=true)(hs:fW s=true):QZ p s=if zm (child p s)=true then child p s else fG:=by
 unfold QZ;rw[ql hp,hs]
 grind
theorem Hq(h:zm s=true):¬ s=(⟨[]⟩:Str):=λ e=>by rw[e,show zm _=false from Z] at h;cases h
theorem B4(h:fW s=true):s.l.length<=3:=by
 unfold fW eR at h;simp[ez] at h
 grind
theorem TU(hdk:gg d)(ht:Good d.tree)(hp:yu path)(hI:Xu n I)(hL:oT d mode path n R I)(h:Inv st)(hn:4*st.left.toNat+3<=n)(hsz:st.size<=20000)(hj:st.mods[j]?=some m)(hnm:fW nm=true){v:eL×fu×Int}(hv:oL d path I st j nm=some v):
  (if(!(if ez .geq (iX m.attrs nm) 0=true then(mn m.attrs (iX m.attrs nm),true) else((⟨0,0⟩:fu),false)).2)=true then((wE m.name nm).bind λ a9=>
(eN (fh d mode path st).modules (j:Int)).bind λ b7=>
((fh d mode path st).modules[(j:Int).toNat]?).bind λ b3=>
(gO ((ez .eql b3.x.kind (1:Int)||decide (a9=(⟨[]⟩:Str))) == false) (yk (fh d mode path st) a9)).bind λ b5=>
(gO (((ez .eql b3.x.kind (1:Int)||decide (a9=(⟨[]⟩:Str))) == false)&&(ez .lss b5 (0:Int) == true)) (xV (fh d mode path st) a9)).bind λ b6=>
 if((ez .eql b3.x.kind (1:Int)||decide (a9=(⟨[]⟩:Str)))||(ez .lss b5 (0:Int)&&ez .eql b6.2.kind (0:Int)))=true then(some (.inr (.inr ((if(((ez .eql b3.x.kind (1:Int)||decide (a9=(⟨[]⟩:Str))) == false)&&(ez .lss b5 (0:Int) == true))=true then b6.1 else(fh d mode path st)),(2:Int)))))
else((R.impl_machine_load1 (if(((ez .eql b3.x.kind (1:Int)||decide (a9=(⟨[]⟩:Str))) == false)&&(ez .lss b5 (0:Int) == true))=true then b6.1 else(fh d mode path st)) a9).bind λ a8=>
 if(ez .neq a8.2.2 (0:Int))=true then(some (.inr (.inr (a8.1,a8.2.2))))
else(some (.inl (a8.1,(⟨(1:Int),a8.2.1⟩:fu))))))
else(some (.inl ((fh d mode path st),(if ez .geq (iX m.attrs nm) 0=true then(mn m.attrs (iX m.attrs nm),true) else((⟨0,0⟩:fu),false)).1))):Option ((Machine×fu)⊕(Machine⊕(Machine×Int))))=some (if v.2.2=0 then .inl (fh d mode path v.1,v.2.1) else .inr (.inr (fh d mode path v.1,v.2.2))):=by
 have hi:=h.at_ hj;have hnl:=yt hi.2.1;have hnp:=B4 hnm;unfold oL at hv;rw[Jq hj,Qp hj,vT hj] at hv;cases hg:ez .geq (iX m.attrs nm) 0 with
 |true=>rw[Ke hg] at hv;cases hv;rfl
 |false=>
  rw[hg,Kf (by decide)] at hv;rw[Kz,Ke (show(!false)=true from Z),vH (by omega),Kd,Ng hi.2.1 hnm,show(fh d mode path st).modules=gH st.mods from Z,zA,Yl hj,Kd,ak,Yl hj,Kd];by_cases hc:m.kind=1\/zm (child m.name nm)=false
  .rw[Ke hc] at hv;cases hv;have hd:(ez .eql m.kind (1:Int)||decide ((if zm (child m.name nm)=true then child m.name nm else fG)=(⟨[]⟩:Str)))=true:=by
    rcases hc with hc | hc
    .rw[jY hc];rfl
    .rw[hc,bK];exact .inr Z
   simp only;rw[hd,show(true == false)=false from Z,Zu,Kd,cp,Zu,Kd,Bool.true_or,Ke (show true=true from Z),Kf (by decide)];rfl
  .rw[Kf hc] at hv;have hk1:=λ e=>hc (.inl e)
   have hvc:zm (child m.name nm)=true:=by cases e:zm _ with | true=>rfl | false=>exact absurd (.inr e) hc
   have hpl:=qQ hvc;rw[Ke hvc];have hd:(ez .eql m.kind (1:Int)||decide (child m.name nm=(⟨[]⟩:Str)))=false:=by rw[wm hk1,cS (Hq hvc)];rfl
   have sm:=eL.small hsz;have fin:∀ (st1:eL) (q:eL×Int×Int),R.impl_machine_load1 (fh d mode path st1) (child m.name nm)=some (fh d mode path q.1,q.2.1,q.2.2)->(R.impl_machine_load1 _ _).bind (λ a8=>if(ez .neq a8.2.2 (0:Int))=true then(some (.inr (.inr (a8.1,a8.2.2)))) else(some (.inl (a8.1,(⟨(1:Int),a8.2.1⟩:fu)))))=some ((if q.2.2=0 then .inl _ else .inr _):_⊕(Machine⊕_)):=λ st1 q hld=>by
    rw[hld,Kd];by_cases he:q.2.2=0
    .simp only;rw[he,Kf (by decide),Ke Z]
    .simp only;rw[Ke (mB he),Kf he]
   simp only;rw[hd,show(false == false)=true from Z,wj,Qo sm.mods,Kd,bA];simp only[dd];cases hl:ez .lss _ 0 with
   |true=>
    rw[Ke hl] at hv;have hlk:=rM hdk h hp hvc;rw[show(true == true)=true from Z,wj,F7 hdk ht hp h sm hvc,Kd,bA];simp;by_cases hz:(X9 d path st (child m.name nm)).2.kind=0
    .rw[Ke hz] at hv;cases hv;rw[Ke (jY hz)];rfl
    .rw[Kf hz] at hv;obtain⟨q,hq,hqp⟩:=hI _ _ hlk.inv hvc (by rw[hlk.left];omega);have hld:=hL _ _ q hlk.inv hvc (by rw[hlk.left];omega) (by rw[hlk.size];omega) hq;rw[hq,Kd] at hv;cases hv;rw[Kf (by rw[wm hz];decide)];exact fin _ q hld
   |false=>rw[hl,Kf (by decide)] at hv;obtain⟨q,hq,hqp⟩:=hI st _ h hvc (by omega);have hld:=hL st _ q h hvc (by omega) hsz hq;rw[hq,Kd] at hv;cases hv;rw[show(false == true)=false from Z,Zu,Kd,cp,Kf (by decide),Kf (by decide)];exact fin st q hld
theorem NB(hdk:gg d)(ht:Good d.tree)(hp:yu path)(hI:Xu n I)(hL:oT d mode path n R I)(h:Inv st)(hn:4*st.left.toNat+3<=n)(hsz:st.size<=19950)(hk:st.mods[k]?=some m)(hx:zM x=true)(hkd:x.kind=1)(hr:Xt d path I st k x=some r):
  yU R (fh d mode path st) (k:Int) x=some (fh d mode path r.1,r.2):=by
 have hi:=h.at_ hk;have hsx:zi x.module=true/\0<=x.level/\x.level<=3:=by
  rcases Wh hx with h1 | h1 | h1
  .exact absurd h1.1 (by omega)
  .exact⟨h1.2.1,h1.2.2.1,h1.2.2.2⟩
  .exact absurd hkd h1.2.1
 have hnm:=th hx (.inl hkd);unfold Xt at hr;have hpk:pG st k=if m.kind=1 then yb m.name else m.name:=by unfold pG;rw[Qp hk,vT hk]
 rw[Kf (by omega),Ke hkd,hpk] at hr;have hpv:zi (if m.kind=1 then yb m.name else m.name)=true:=by
  split
  .exact QO (ql hi.2.1)
  .exact ql hi.2.1
 unfold yU;rw[show(fh d mode path st).modules=gH st.mods from Z,zA,Yl hk,Kd,Kf (by rw[wm (by omega)];decide),Ke (jY hkd),ak,Yl hk,Kd,RZ hi.2.1,Kd,VJ hpv hsx.1 hsx.2.1 hsx.2.2,Kd];generalize Xr _ x.level x.module=s1 at*;unfold B2;cases hv:zm s1 with
 |false=>rw[Ke hv] at hr;cases hr;rw[Kz,Ke (show decide _=true from Z)];rfl
 |true=>
  rw[Kf (by rw[hv];decide)] at hr;have hpl:=qQ hv;obtain⟨q,hq,hqp⟩:=hI st s1 h hv (by omega);have hqs:=hqp.size;have hld:=hL st s1 q h hv (by omega) (by omega) hq;rw[hq,Kd] at hr;rw[Ke (show true=true from Z),Kf (by rw[cS (Hq hv)];decide),hld,Kd];by_cases he:q.2.2=0
  .rw[Kf (by simp[he])] at hr;obtain⟨m',hm'⟩:=hqp.grow.at_ hk;obtain⟨m2,hm2,hmn,h0⟩:=hqp.good he;have hi2:=hqp.inv.at_ hm2;have hlq:=hqp.grow.left;obtain⟨j,hj⟩:∃ j:Nat,q.2.1=j:=⟨_,(bN h0).symm⟩;rw[hj,ak] at hm2;rw[hj,ak] at hr;have hn':4*q.1.left.toNat+3<=n:=by have:=h.left;have:=hqp.inv.left;omega
   obtain⟨v,hve,hvb⟩:=Cr hdk hp hI hqp.inv hn' j x.name hnm;have hval:=TU hdk ht hp hI hL hqp.inv hn' (by omega) hm2 hnm hve;rw[hmn] at hval;rw[hve,Kd] at hr;obtain⟨m3,hm3⟩:=hvb.grow.at_ hm';simp only;rw[he,Kf (by decide),hj,show(fh d mode path q.1).modules=gH q.1.mods from Z,zA,Yl hm2,Kd,ak,Yl hm2,Kd,Ey hi2.2.2.1,Kd,Kd];rw[show(fh d mode path q.1).modules=gH q.1.mods from Z,zA,ak,Yl hm2] at hval;dsimp only at hval ⊢;rw[hval];by_cases hz:v.2.2=0
   .rw[Ke hz];rw[Kf (by simp[hz])] at hr;cases hr;have:=uN (d:=d) (mode:=mode) (path:=path) hvb.inv hm3 x.name v.2.1 (λ mm=>(Sum.inl mm:Machine⊕(Machine×Int)));simp;refine(bu (λ o=>Option.bind o _) this).trans ?_;rfl
   .rw[Kf hz];rw[Ke hz] at hr;cases hr;rfl
  .rw[Ke he] at hr;cases hr;simp only;rw[Ke (mB he)];rfl
theorem NG(hdk:gg d)(ht:Good d.tree)(hp:yu path)(hI:Xu n I)(hL:oT d mode path n R I)(h:Inv st)(hn:4*st.left.toNat+3<=n)(hsz:st.size<=19950)(hk:st.mods[k]?=some m)(hx:zM x=true)(hr:Xt d path I st k x=some r):
  yU R (fh d mode path st) (k:Int) x=some (fh d mode path r.1,r.2):=by
 by_cases h0:x.kind=0
 .exact NA hI hL h hn hsz hk hx h0 hr
 .by_cases h1:x.kind=1
  .exact NB hdk ht hp hI hL h hn hsz hk hx h1 hr
  .by_cases h2:x.kind=2
   .exact NC hI hL h hn hsz hk hx h2 hr
   .exact NF h hsz hk ⟨h0,h1,h2⟩ hr
variable{n:Nat}
def AO(d:eK)(mode:Int)(path:List Int)(n:Nat)(R:Rec)(I:kR):Prop:=
 ∀ st k m x r,Inv st->st.mods[k]?=some m->zM x=true->4*st.left.toNat+3<=n->st.size<=19950->Xt d path I st k x=some r->R.impl_machine_do (fh d mode path st) k x=some (fh d mode path r.1,r.2)
def eL.tick(st:eL):eL:={ st with left:=st.left - 1 }
theorem Inv.tick(h:Inv st)(hz:¬ st.left=0):Inv st.tick:=⟨h.names,h.roots,h.parts,h.apart,by have:=h.left;show(0:Int)<=st.left - 1;omega,h.fin,h.sto⟩
theorem Ha(h:Inv st)(hz:¬ st.left=0):st.tick.size+100=st.size:=by
 unfold eL.size eL.tick;have:=h.left
 grind
theorem EB(hdk:gg d)(hp:yu path)(hI:Xu n I)(hD:AO d mode path n R I)(k:Nat)(l:List Stmt)(sl:lA)(hl:∀ x∈l,zM x=true)(hlen:l.length<1000000000):∀ (m i:Nat) (st:eL) (r:eL×Int),i+m=l.length->Inv st->(∃ mm,st.mods[k]?=some mm)->4*st.left.toNat<=n+1->st.left<=1000000->st.size<=20050->mA d path I k (l.drop i) st=some r->
  wC (λ a8=>yE R (k:Int) (sl,l) a8) (m+1) (fh d mode path st,(0:Int),(i:Int))=some (fh d mode path r.1,r.2)
 |0,i,st,r,hi,_,_,_,_,_,hr=>by
  have:i=l.length:=by omega
  subst this;rw[bX] at hr;unfold mA at hr;cases hr;refine yD ?_;unfold yE;simp only;rw[zx,Kf (by simp)]
 |m+1,i,st,r,hi,h,⟨mm,hmm⟩,hn,hle,hsz,hr=>by
  have hlt:i<l.length:=by omega
  have hx:l[i]?=some l[i]:=aa hlt;have hv:=hl l[i] (ba hlt);rw[bt hlt] at hr;unfold mA at hr;have hl0:=h.left;by_cases hz:st.left=0
  .rw[Ke hz] at hr;cases hr;refine yD ?_;unfold yE;simp only;rw[zx,Ke (ab hlt),zA,hx,Kd,show(fh d mode path st).left=st.left from Z,Ke (jY hz)]
  .rw[Kf hz] at hr;have ht:=h.tick hz;have hts:=Ha h hz;have htl:st.tick.left=st.left - 1:=rfl;obtain⟨q,hq,hb⟩:=Ck hdk hp hI ht (by rw[htl];omega) k hv;have hbs:=hb.size;have hbl:=hb.grow.left;have hbi:=hb.inv.left;obtain⟨m2,hm2⟩:=hb.grow.at_ (show st.tick.mods[k]?=some mm from hmm);have hd:=hD st.tick k mm l[i] q ht hmm hv (by rw[htl];omega) (by omega) hq;rw[show Xt d path I { st with left:=st.left - 1 } k l[i]=some q from hq,Kd] at hr;have hs:yE R (k:Int) (sl,l) (fh d mode path st,(0:Int),(i:Int))=some (if q.2≠0 then .inr (fh d mode path q.1,q.2) else .inl (fh d mode path q.1,q.2,((i+1:Nat):Int))):=by
    unfold yE;simp only;rw[zx,Ke (ab hlt),zA,hx,Kd,show(fh d mode path st).left=st.left from Z,Kf (by rw[wm hz];decide),xa (by omega) (by omega),Kd,
     show({ fh d mode path st with left:=st.left - 1 }:Machine)=fh d mode path st.tick from Z,hd,Kd,fF (by omega),Kd]
    by_cases he:q.2=0
    .simp only;rw[he,Kf (by decide),Kf (by simp)]
    .simp only;rw[Ke (mB he),Ke he]
   by_cases he:q.2=0
   .rw[Kf (by simp[he])] at hr;rw[Kf (by simp[he]),he] at hs;rw[x9 hs];exact EB hdk hp hI hD k l sl hl hlen m (i+1) q.1 r (by omega) hb.inv ⟨m2,hm2⟩ (by rw[htl] at hbl;omega) (by rw[htl] at hbl;omega) (by omega) hr
   .rw[Ke he] at hr;cases hr;rw[Ke he] at hs;exact yD hs
theorem MZ(hdk:gg d)(ht:Good d.tree)(hm2:eR mode 0 2=true)(hp:yu path)(hI:Xu n I)(hD:AO d mode path n R I)(h:Inv st)(hn:4*st.left.toNat<=n+1)(hle:st.left<=1000000)(hsz:st.size<=20040)(hk:st.mods[k]?=some m){sp:Spec}(hf:sp.file<0\/∃ f,d.tree.files[sp.file.toNat]?=some f)(hr:ou d mode path I (st.note 0 m.name) k sp=some r):
  ZP R (fh d mode path st) (k:Int) sp=some (fh d mode path (r.1.note (if r.2=0 then 1 else 2) m.name),r.2):=by
 have sm:=eL.small hsz;have hi:Inv (st.note 0 m.name):=h.note _ _;have hnz:(st.note 0 m.name).size=st.size+1:=by unfold eL.size eL.note;simp;omega
 obtain⟨q,hq,hb⟩:=vq hdk hm2 hp hI hi (by exact hn) k sp hf;rw[hq] at hr;injection hr with hr;subst hr;have hqs:=hb.size;have smq:=eL.small (st:=q.1) (n:=20050) (by omega);have hrun:(if(ez .geq sp.file (0:Int))=true then((eN d.tree.files sp.file).bind λ a9=>(sB (ld mode st.sto) a9).bind λ a8=>zE (λ b3=>yE R (k:Int) a8 b3) ((⟨d.tree,(fh d mode path (st.note 0 m.name)).path,(fh d mode path (st.note 0 m.name)).known,a8.1,(fh d mode path (st.note 0 m.name)).modules,(fh d mode path (st.note 0 m.name)).out,(fh d mode path (st.note 0 m.name)).log,(fh d mode path (st.note 0 m.name)).part,(fh d mode path (st.note 0 m.name)).left⟩:Machine),(0:Int),(0:Int))) else(some (fh d mode path (st.note 0 m.name),(0:Int))))=some (fh d mode path q.1,q.2):=by
  unfold ou at hq;cases hg:ez .geq sp.file 0 with
  |false=>rw[hg,Kf (by decide)] at hq;cases hq;rw[Kf (by decide)]
  |true=>
   have h0:=oD hg;rw[hg,Ke (show true=true from Z)] at hq;obtain⟨f,hf⟩:=hf.resolve_left (by omega);have hfm:=ae hf;have hfv:=jO ht.ok hfm;have hfs:=ht.sm.2 f hfm;rw[show oP d.tree.files sp.file=f by unfold oP;rw[hf];rfl] at hq;obtain⟨l1,l2⟩:=BW h.sto hfv hm2;have hbv:=Dc l2;have hbl:(QS st.sto f mode).1.length<=8:=by
    unfold gG at l2;simp[ez] at l2;omega
   have hi3:Inv (nC mode (st.note 0 m.name) f).1:=⟨h.names,h.roots,h.parts,h.apart,h.left,h.fin,l1⟩;rw[Ke (show true=true from Z),show eN d.tree.files sp.file=some f by rw[<-bN h0,zA,hf],Kd,M9 h.sto hfv hfs hm2,Kd];exact jN (m:=(QS st.sto f mode).1.length+1) (EB hdk hp hI hD k _ _ hbv (by omega) _ 0 (nC mode _ f).1 q (by omega) hi3 ⟨m,hk⟩ hn hle (by show(st.note 0 m.name).size<=_;omega) (by rw[bR];exact hq)) (by omega)
 unfold ZP;rw[show(fh d mode path st).modules=gH st.mods from Z,zA,Yl hk,Kd,ak,Yl hk,Kd,Ae sm.log,Kd];rw[show(fh d mode path _).t=d.tree from Z,show(fh d mode path (st.note 0 m.name)).load=ld mode st.sto from Z,hrun,Kd];by_cases he:q.2=0
 .simp only;rw[Ke (jY he),Ke he,Ae smq.log];rfl
 .simp only;rw[Kf (by rw[wm he];decide),Kf he,Ae smq.log];rfl
theorem Nl(h:Inv st):iA st fG=-1:=by
 rcases XI st fG with h1 | ⟨k,m,_,h2,h3,_⟩
 .exact h1.1
 .have:=h.names m (ae h2);rw[h3] at this;cases this
theorem SD(hm:st.mods[k]?=some m)(s:Str):({ fh d mode path (st.note 2 s) with modules:=(gH st.mods).set k ⟨{ m with cached:=false }⟩ }:Machine)=fh d mode path (st.fail k s):=by
 rw[tL];unfold eL.fail;rw[Qj _ hm];rfl
theorem SC(hm:st.mods[k]?=some m)(s:Str):({ fh d mode path (st.note 1 s) with modules:=(gH st.mods).set k ⟨{ m with done:=true }⟩ }:Machine)=fh d mode path (st.done k s):=by
 rw[tL];unfold eL.done;rw[Qj _ hm];rfl
variable{n:Nat}
def AN(d:eK)(mode:Int)(path:List Int)(n:Nat)(R:Rec)(I:kR):Prop:=
 ∀
  st k m sp r,Inv st->4*st.left.toNat<=n+1->st.left<=1000000->st.size<=20040->st.mods[k]?=some m->(sp.file<0\/∃ f,d.tree.files[sp.file.toNat]?=some f)->ou d mode path I (st.note 0 m.name) k sp=some r->
  R.impl_machine_body (fh d mode path st) k sp=some (fh d mode path (r.1.note (if r.2=0 then 1 else 2) m.name),r.2)
def eL.grown(st:eL)(s:Str)(sp:Spec):eL:={ st with mods:=st.mods++[⟨s,sp.kind,sp.roots,true,false,[]⟩] }
theorem F6(hdk:gg d)(ht:Good d.tree)(hm2:eR mode 0 2=true)(hp:yu path)(hI:Xu n I)(hB:AN d mode path n R I)(h:Inv st)(hn:4*st.left.toNat<=n+1)(hle:st.left<=1000000)(hsz:st.size<=20020)(hs:zm s=true){r:eL×Int×Int}(hr:pw d mode path I (X9 d path st s).1 s (X9 d path st s).2=some r):
  ((xV (fh d mode path st) s).bind λ a8=>
 if(ez .eql a8.2.kind (0:Int))=true then(some (a8.1,(-1:Int),(1:Int)))
else((fE 8 [] a8.2.roots).bind λ d2=>
(fE 8 a8.1.modules [⟨(⟨s,a8.2.kind,d2,true,false,[]⟩:eZ)⟩]).bind λ d3=>
(R.impl_machine_body ({ a8.1 with modules:=d3 }) (a8.1.modules.length:Int) a8.2).bind λ a9=>
 if(ez .neq a9.2 (0:Int))=true then((a9.1.modules[a8.1.modules.length]?).bind λ b9=>
 some ({ a9.1 with modules:=(a9.1.modules.set a8.1.modules.length ⟨{ b9.x with cached:=false }⟩) },(-1:Int),a9.2))
else((a9.1.modules[a8.1.modules.length]?).bind λ b3=>
 Option.bind (α:=Machine) ((yk ({ a9.1 with modules:=(a9.1.modules.set a8.1.modules.length ⟨{ b3.x with done:=true }⟩) }) (yb s)).bind λ b5=>
 if(decide (yb s≠(⟨[]⟩:Str))&&ez .geq b5 (0:Int))=true then((eN (a9.1.modules.set a8.1.modules.length ⟨{ b3.x with done:=true }⟩) b5).bind λ c8=>
(qg s).bind λ b6=>
((a9.1.modules.set a8.1.modules.length ⟨{ b3.x with done:=true }⟩)[b5.toNat]?).bind λ b7=>
(yL b7.x b6 (⟨(1:Int),(a8.1.modules.length:Int)⟩:fu)).bind λ b8=>
 some ({ a9.1 with modules:=((a9.1.modules.set a8.1.modules.length ⟨{ b3.x with done:=true }⟩).set b5.toNat ⟨b8⟩) }))
else(some ({ a9.1 with modules:=(a9.1.modules.set a8.1.modules.length ⟨{ b3.x with done:=true }⟩) }))) λ d1=>
 some (d1,(a8.1.modules.length:Int),(0:Int)))))=some (fh d mode path r.1,r.2.1,r.2.2):=by
 have sm:=eL.small hsz;obtain⟨li,lm,ll,lz,_,hlr,hlf⟩:=rM hdk h hp hs;rw[F7 hdk ht hp h sm hs,Kd];unfold pw at hr;generalize X9 d path st s=w at*;obtain⟨st,sp⟩:=w;dsimp only at li lm ll lz hlr hlf hr ⊢;rw[<-ll] at hn hle;rw[<-lz] at hsz
 clear h sm lm ll lz
 have h:=li;have sm:=eL.small hsz;by_cases hk:sp.kind=0
 .rw[Ke hk] at hr;cases hr;rw[Ke (jY hk)]
 .rw[Kf hk] at hr;have hgi:Inv (st.grown s sp):=⟨(h.begin hs hlr).names,(h.begin hs hlr).roots,(h.begin hs hlr).parts,(h.begin hs hlr).apart,h.left,h.fin,h.sto⟩;have hgz:(st.grown s sp).size=st.size+1:=by unfold eL.size eL.grown;simp;omega
  have hgm:(st.grown s sp).mods[st.mods.length]?=some ⟨s,sp.kind,sp.roots,true,false,[]⟩:=by unfold eL.grown;simp
  have hbz:(st.begin s sp).size=st.size+2:=by unfold eL.size eL.begin;simp;omega
  obtain⟨q,hq,hb⟩:=vq hdk hm2 hp hI (h.begin hs hlr) (by exact hn) st.mods.length sp hlf;have hqs:=hb.size;rw[hq,Kd] at hr;have hbody:=hB _ st.mods.length _ sp q hgi (by exact hn) hle (by omega) hgm hlf hq;obtain⟨m,hm⟩:=hb.grow.at_ (show(st.begin s sp).mods[st.mods.length]?=some ⟨s,sp.kind,sp.roots,true,false,[]⟩ by unfold eL.begin;simp);have hlen:(gH st.mods).length=st.mods.length:=Ba _;have hrl:=hlr.1;rw[Kf (by rw[wm hk];decide),yj (by simp;omega) (by simp;omega),Kd,bb,show(fh d mode path st).modules=gH st.mods from Z,yj (by rw[hlen];have:=sm.mods;show(st.mods.length+1)*8<=_;omega) (by rw[hlen];have:=sm.mods;show st.mods.length+1<=_;omega),Kd,M6,hlen,
   show({ fh d mode path st with modules:=gH (st.mods++[⟨s,sp.kind,sp.roots,true,false,[]⟩]) }:Machine)=fh d mode path (st.grown s sp) from Z,hbody,Kd]
  by_cases he:q.2=0
  .rw[Kf (by simp[he])] at hr;cases hr;simp only;rw[he,Kf (by decide),Ke Z,show ∀ (z:eL),(fh d mode path z).modules=gH z.mods from λ _=>Z,show(q.1.note 1 s).mods=q.1.mods from Z,Yl hm,Kd];have hsd:=SC (d:=d) (mode:=mode) (path:=path) hm s;have hmd:(gH q.1.mods).set st.mods.length ⟨{ m with done:=true }⟩=gH (q.1.done st.mods.length s).mods:=by
    rw[tL];unfold eL.done;rw[Qj _ hm]
   have hid:=hb.inv.done st.mods.length s;have hdz:(q.1.done st.mods.length s).size=q.1.size+1:=by unfold eL.size eL.done;simp[tq];omega
   rw[hmd,show({ fh d mode path _ with modules:=gH (q.1.done st.mods.length s).mods }:Machine)=fh d mode path _ by rw[<-hmd];exact hsd];rw[Qo (eL.small (n:=20100) (by omega)).mods,Kd];have hfin:((if(decide (yb s≠(⟨[]⟩:Str))&&ez .geq (iA (q.1.done st.mods.length s) (yb s)) (0:Int))=true then((eN (gH (q.1.done st.mods.length s).mods) (iA (q.1.done st.mods.length s) (yb s))).bind λ c8=>
     (qg s).bind λ b6=>
     ((gH (q.1.done st.mods.length s).mods)[(iA (q.1.done st.mods.length s) (yb s)).toNat]?).bind λ b7=>
     (yL b7.x b6 (⟨(1:Int),(st.mods.length:Int)⟩:fu)).bind λ b8=>
     some ({ fh d mode path (q.1.note 1 s) with modules:=((gH (q.1.done st.mods.length s).mods).set (iA (q.1.done st.mods.length s) (yb s)).toNat ⟨b8⟩) }:Machine))
     else(some (fh d mode path (q.1.done st.mods.length s)))):Option Machine)=some (fh d mode path ((q.1.done st.mods.length s).tell st.mods.length s)):=by
    unfold eL.tell;rcases XI _ _ with⟨h1,_⟩ | ⟨k,m2,h1,h2,h3,_⟩
    .rw[h1,sH,Bool.and_false,Kf (by decide),Kf (by decide)]
    .have hne:¬ yb s=(⟨[]⟩:Str):=λ e=>by
      have:=Nl hid;rw[show fG=yb s from e.symm,h1] at this;omega
     rw[h1,Yx,ab hne,bA,Ke (show true=true from Z),Ke (show true=true from Z),zA,Yl h2,Kd,Ej hs,Kd,ak,Yl h2,Kd,Ff (hid.at_ h2).2.2.1,Kd,tL,Cf h2];rfl
   rw[hfin,Kd]
  .rw[Ke he] at hr;cases hr;simp only;rw[Ke (mB he),Kf he,show ∀ (z:eL),(fh d mode path z).modules=gH z.mods from λ _=>Z,show(q.1.note 2 s).mods=q.1.mods from Z,Yl hm,Kd,SD hm s]
theorem Rg(hdk:gg d)(ht:Good d.tree)(hm2:eR mode 0 2=true)(hp:yu path)(hI:Xu n I)(hL:oT d mode path n R I)(hB:AN d mode path n R I)(h:Inv st)(hs:zm s=true)(hn:4*st.left.toNat+(zC s dot).length<=n+1)(hle:st.left<=1000000)(hsz:st.size<=20000){r:eL×Int×Int}(hr:rh d mode path I st s=some r):
  Zl R (fh d mode path st) s=some (fh d mode path r.1,r.2.1,r.2.2):=by
 have sm:=eL.small hsz;have hpp:=Wu s;have hpl:=qQ hs;unfold rh at hr;unfold Zl;rw[Qo sm.mods,Kd];rcases XI st s with⟨h1,_⟩ | ⟨k,m,h1,h2,h3,_⟩
 .rw[h1,Kf (by decide)] at hr;rw[h1,Kf (by decide),Q3 hs,Kd];by_cases he:yb s=fG
  .rw[Ke he,Kd,Kf (by simp)] at hr;simp only at hr;rw[h1,Kf (by decide)] at hr;rw[Kf (by rw[show yb s=_ from he];decide),Kd,dP];exact F6 hdk ht hm2 hp hI hB h (by omega) hle (by omega) hs hr
  .have he':¬ yb s=(⟨[]⟩:Str):=he;obtain⟨e1,e2⟩:=XG hs he;obtain⟨q,hq,hqp⟩:=hI st _ h e2 (by omega);have hqs:=hqp.size;have hql:=hqp.grow.left;have hqi:=hqp.inv.left;have hl0:=h.left;have hld:=hL st _ q h e2 (by omega) hsz hq;rw[Kf he,hq,Kd] at hr;rw[Ke (by rw[ab he']),hld,Kd];by_cases hz:q.2.2=0
   .rw[Kf (by simp[hz])] at hr;simp only;rw[hz,Kf (by decide),Qo (eL.small (n:=20100) (by omega)).mods,Kd];rcases XI q.1 s with⟨k1,_⟩ | ⟨k,m,k1,k2,k3,_⟩
    .rw[k1,Kf (by decide)] at hr;rw[k1,Kf (by decide),Kd,dP];exact F6 hdk ht hm2 hp hI hB hqp.inv (by omega) (by omega) (by omega) hs hr
    .have smq:=eL.small (st:=q.1) (n:=20100) (by omega);rw[k1,Ke (Yx k),ak] at hr;cases hr;rw[k1,Ke (Yx k),Fm smq.log smq.part k2,Kd,k3];rfl
   .rw[Ke hz] at hr;cases hr;simp only;rw[Ke (mB hz)];rfl
 .rw[h1,Ke (Yx k),ak] at hr;cases hr;rw[h1,Ke (Yx k),Fm sm.log sm.part h2,Kd,h3]
theorem F4(h:Inv st){z:Nat}(hz:st.size<=z)(hh:z<=100000:=by decide):st.left<=1000000:=by
 unfold eL.size at hz
 grind
theorem M4(hdk:gg d)(ht:Good d.tree)(hm2:eR mode 0 2=true)(hp:yu path){M:Nat}(hL:oT d mode path k (scc M) (imp d mode path k)):AN d mode path k (scc (M+2)) (imp d mode path k):=
 have hI:=pO hdk hm2 hp k;have hD:AO d mode path k _ _:=λ _ _ _ _ _ h hm hx hn hsz hr=>NG hdk ht hp hI hL h hn hsz hm hx hr
 λ _ _ _ _ _ h hn hle hsz hm hf hr=>MZ hdk ht hm2 hp hI hD h hn hle hsz hm hf hr
theorem Cd(hdk:gg d)(ht:Good d.tree)(hm2:eR mode 0 2=true)(hp:yu path):∀ (k N:Nat),3*k<=N->oT d mode path k (scc N) (imp d mode path k)
 | 0,_,_=>λ _ _ _ _ _ _ _ hr=>by cases hr
 |k+1,N,hN=>λ st s r h hs hn hsz hr=>by
  obtain⟨M,rfl⟩:∃ M,N=M+3:=⟨N - 3,by omega⟩;exact Rg hdk ht hm2 hp (pO hdk hm2 hp k) (Cd hdk ht hm2 hp k (M+2) (by omega)) (M4 hdk ht hm2 hp (Cd hdk ht hm2 hp k M (by omega))) h hs hn (F4 h hsz) hsz hr
