import Derived.Test.YtoomehfflopakaaGreatDoorTA
import Derived.ChangeKeysEq
import Derived.Laws.StructEq
import Derived.Sort.OwnSorted
import Derived.Lib.OwnBridge
import Derived.ProofKit
import Derived.Deep.Slices
namespace Go.Proofs.YtoomehfflopakaaGreatDoor
open Go.RowKit
variable{W:(Nat->Option Nat)->List (Nat×Nat×Dt)}{a:Act}{K K':Act->World->Prop}{listed:Array Bool}{ops:Array Oper}{A:Array Operand}{ts:Array TypeId}{ys:Array Value}{op:BinOp}{b want:Bool}{c:Code}{R x:Dt}{E K0 L L' L1 L2:Env}{Q Q' Q2:Exit->Act->World->Prop}{F:eG}{f:FuncId}{m r:Int}{S:List (List (Nat×Option Nat))}{Gs:List (Nat->Prop)}{qp:List (Nat×Nat)}{O O2:List (Nat×Nat×Dt)}{D rs xr xs:List Dt}{fs:List Field}{ks qs vs:List Nat}{l1 l2 rest:List Oper}{l:List Str}{c0 c1 c2 c3 c4 c5 c6 c7 zs:List Value}{N bytes d i j k off s sb u:Nat}{q0:Nat->Option Nat}{G G' M M' M0 M1 M2 p:Nat->Prop}{o:Oper}{h q vo y:Operand}{g g':Option Nat}{P:Program}{e t t' ty:TypeId}{v v1 v2:Value}{w w' w0:World}
section
variable{α β σ:Type}
def eN(xs:List α)(i:Int):Option α:=if 0<=i then xs[i.toNat]? else none
def i64(n:Int):Option Int:=if -9223372036854775808<=n/\n<=9223372036854775807 then some n else none
def kT(m n:Str):Option Str:=if m.l.length+n.l.length<=9223372036854775807 then some ⟨m.l++n.l⟩ else none
def nk(s:Str)(lo:Int):Option Str:=if 0<=lo/\lo<=s.l.length then some ⟨s.l.drop lo.toNat⟩ else none
def oi(s:Str)(hi:Int):Option Str:=if 0<=hi/\hi<=s.l.length then some ⟨s.l.take hi.toNat⟩ else none
def mQ(xs:List α)(lo:Int):Option (List α):=if 0<=lo/\lo<=xs.length then some (xs.drop lo.toNat) else none
def W1(xs:List α)(hi:Int):Option (List α):=if 0<=hi/\hi<=xs.length then some (xs.take hi.toNat) else none
def gO[Inhabited α](g:Bool)(e:Option α):Option α:=if g=true then e else some default
def fE(b:Nat)(xs ys:List α):Option (List α):=if(xs.length+ys.length)*b<=140737488355328/\xs.length+ys.length<=9223372036854775807 then some (xs++ys) else none
def mi(xs:List α)(i:Int)(y:α):Option (List α):=if 0<=i/\i.toNat<xs.length then some (xs.set i.toNat y) else none
def mv(size bytes:Nat)(n:Int)(z:α):Option (List α):=if 0<=n/\n.toNat*size<=16777216/\bytes*n.toNat<=281474976710656/\n<=9223372036854775807 then some (List.replicate n.toNat z) else none
def wC(step:σ->Option (σ⊕β)):Nat->σ->Option β
 | 0,_=>none
 |n+1,s=>match step s with
  | none=>none
  | some (.inl s')=>wC step n s'
  | some (.inr b)=>some b
@[irreducible] def zE (step:σ->Option (σ⊕β)) (s:σ):Option β:=wC step 1152921504606846976 s
theorem bs{o:Option α}{f:α->Option β}{r:β}(h:o.bind f=some r):∃ x,o=some x/\f x=some r:=by
 cases o with
 | none=>cases h
 | some x=>exact⟨x,Z,h⟩
theorem Kg{α β γ:Type}{o:Option α}{f:α->Option β}{g:α->β->Option γ}{r:γ}(h:(o.bind λ x=>(f x).bind (g x))=some r):∃ x,o=some x/\∃ y,f x=some y/\g x y=some r:=by
 obtain⟨x,h1,h⟩:=bs h
 obtain⟨y,h2,h⟩:=bs h
 exact⟨x,h1,y,h2,h⟩
theorem kB{α β:Type}{o:Option α}{f:α->Option β}{r:β}{P:Prop}(h:o.bind f=some r)(k:∀ x,o=some x->f x=some r->P):P:=have⟨a,b,c⟩:=bs h;k a b c
theorem Kx{α β γ:Type}{o:Option α}{f:α->Option β}{g:α->β->Option γ}{r:γ}{P:Prop}(h:(o.bind λ x=>(f x).bind (g x))=some r)(k:∀ x,o=some x->∀ y,f x=some y->g x y=some r->P):P:=have⟨a,b,c,d,e⟩:=Kg h;k a b c d e
theorem kz{β:Type}{c:Prop}[Decidable c]{a r:β}{P:β->Prop}(h:(if c then some a else none)=some r)(k:c->P a):P r:=by
 split at h
 .rename_i q;injection h with h;subst h;exact k q
 .cases h
theorem gh[Inhabited α]{g:Bool}{e:Option α}{x:α}(hg:g=true)(h:gO g e=some x):e=some x:=by rw[gO,Ke hg] at h;exact h
theorem yS{xs:List α}{i:Int}{x:α}(h:eN xs i=some x):i=(i.toNat:Int)/\xs[i.toNat]?=some x:=by
 unfold eN at h;split at h
 .exact⟨by omega,h⟩
 .cases h
theorem Br(h:i64 m=some r):m=r/\-9223372036854775808<=m/\m<=9223372036854775807:=by
 unfold i64 at h;split at h
 .rename_i hc;exact⟨by injection h,hc⟩
 .cases h
end
section
variable{look:Nat->Option Dt}{α:Type}[ey α]
theorem lX{x:Operand}{n:Int}(ho:o.op=.binOp op t x y t')(hx:eC M look x (dt m))(hy:eC M look y (dt n))(hm:i64 (gY op m n)=some r)(hop:op=.add\/op=.sub\/op=.mul:=by decide):eP P M look o (dt r):=by
 obtain⟨rfl,h⟩:=Br hm;exact Zw ho (hop:=hop) hx hy h
theorem nI{x:Operand}{m n r:Str}(ho:o.op=.binOp .add t x y t')(hx:eC M look x (dt m))(hy:eC M look y (dt n))(hm:kT m n=some r):eP P M look o (dt r):=by
 unfold kT at hm;split at hm
 .rename_i h;injection hm with hm;subst hm;exact pK ho hx hy (by unfold maxLen;omega)
 .cases hm
theorem xIdx{s i:Operand}{xs:List α}{x:α}(ho:o.op=.indexAddr t s i)(hs:eC M look s (dt xs))(hi:eC M look i (dt m))(hm:eN xs m=some x)(ht':gV P t (ey.size α)=true:=by kernel_rfl):eP P M look o (eX x):=
 wO ho (ht':=ht') hs hi (yS hm).1 (yS hm).2
theorem nH{s i:Operand}{x:Str}{b:UInt8}(ho:o.op=.index t s i)(hs:eC M look s (dt x))(hi:eC M look i (dt m))(hm:eN x.l m=some b)(ht:mq P t=true:=by kernel_rfl):eP P M look o (dt b):=by
 obtain⟨h1,h2⟩:=yS hm;rw[h1] at hi;exact vi ho (ht:=ht) hs hi h2
theorem pB{s l:Operand}{x r:Str}{i:Int}(ho:o.op=.slice t s (some l) none none)(hs:eC M look s (dt x))(hl:eC M look l (dt i))(hm:nk x i=some r)(ht:mq P t=true:=by kernel_rfl):eP P M look o (dt r):=by
 unfold nk at hm;split at hm
 .rename_i h;injection hm with hm;subst hm;exact Gv ho ht hs hl h.1 h.2
 .cases hm
theorem oB{s:Operand}{x r:Str}{j:Int}(ho:o.op=.slice t s none (some h) none)(hs:eC M look s (dt x))(hh:eC M look h (dt j))(hm:oi x j=some r)(ht:mq P t=true:=by kernel_rfl):eP P M look o (dt r):=by
 unfold oi at hm;split at hm
 .rename_i h;injection hm with hm;subst hm;exact Gu ho ht hs hh h.1 h.2
 .cases hm
theorem oG{s:Operand}{x r:List α}{j:Int}(ho:o.op=.slice t s none (some h) none)(hs:eC M look s (dt x))(hh:eC M look h (dt j))(hm:W1 x j=some r)(ht:gV P t (ey.size α)=true:=by kernel_rfl):eP P M look o (dt r):=by
 unfold W1 at hm;split at hm
 .rename_i h;injection hm with hm;subst hm;exact vI ho (ht':=ht) hs hh (by omega) (by omega)
 .cases hm
theorem oC{s i:Operand}{xs:List α}{x:α}(ho:o.op=.indexAddr t s i)(ht':gV P t (ey.size α)=true)(hs:eC M look s (eQ g e xs))(hi:eC M look i (dt m))(hm:eN xs m=some x):eP P M look o (eY g (m.toNat*ey.size α) x):=
 IT ho ht' hs hi (yS hm).1 (yS hm).2
end
section
def fH(o:Oper)(N:Nat):Option Nat:=match o.guard with
 |none=>match o.dst with
  | some d=>if d<N then some d else none
  | none=>none
 | some _=>none
theorem zK(h:fH o N=some d):o.guard=none/\o.dst=some d/\d<N:=by
 unfold fH at h;split at h
 .rename_i hg;split at h
  .rename_i e he;split at h
   .injection h with h;subst h;exact⟨hg,he,by assumption⟩
   .cases h
  .cases h
 .cases h
def nE(o:Oper)(N:Nat)(ops:Array Oper):Option (Nat×Nat×Nat×Bool):=match o.guard with
 | none=>none
 |some (j,want)=>match o.dst,(ops[j]?).bind (·.dst) with
  | some d,some e=>if d<N/\e<N then some (d,e,j,want) else none
  | _,_=>none
theorem xR{e:Nat}(h:nE o N ops=some (d,e,j,want)):o.guard=some (j,want)/\o.dst=some d/\(ops[j]?).bind (·.dst)=some e/\d<N/\e<N:=by
 unfold nE at h;split at h
 .cases h
 .rename_i j' want' hg;split at h
  .rename_i d' e' h1 h2;split at h
   .rename_i hlt;injection h with h;injection h with a1 h;injection h with a2 h;injection h with a3 a4;subst a1 a2 a3 a4;exact⟨hg,h1,h2,hlt⟩
   .cases h
  .cases h
theorem sc(hh:fH o N=some d)(h:eP P M (λ s=>L.lookup s) o x)(hr:Seg P M ops N ((d,x)::L) rest L'):Seg P M ops N L (o::rest) L':=
 .cons (zK hh).2.1 (zK hh).2.2 (.plain (zK hh).1 h) hr
theorem sg{e:Nat}(hh:nE o N ops=some (d,e,j,want))(hb:L.lookup e=some (dt b))(h:(b == want)=true->eP P M (λ s=>L.lookup s) o x)(hr:Seg P M ops N ((d,Dt.kt (b == want) x)::L) rest L'):Seg P M ops N L (o::rest) L':=
 .cons (xR hh).2.1 (xR hh).2.2.2.1 (.guarded (xR hh).1 (xR hh).2.2.1 (xR hh).2.2.2.2 hb zB h) hr
theorem lG{e:Nat}{c:Bool}(hh:nE o N ops=some (d,e,j,want))(hb:L.lookup e=some (Dt.kt c (dt b)))(h:(c&&(b == want))=true->eP P M (λ s=>L.lookup s) o x)(hr:Seg P M ops N ((d,Dt.kt (c&&(b == want)) x)::L) rest L'):Seg P M ops N L (o::rest) L':=
 .cons (xR hh).2.1 (xR hh).2.2.2.1 (.guarded2 (xR hh).1 (xR hh).2.2.1 (xR hh).2.2.2.2 hb zB h) hr
section
variable{xs:List (Nat×Dt)}
theorem rc(hh:fH o N=some d)(hx:D[i]?=some x)(h:eP P M (Y7 (S.getD i []) L D) o x)(hr:RegR P M ops N S L D (i+1) rest xs):RegR P M ops N S L D i (o::rest) ((d,x)::xs):=
 .cons (zK hh).2.1 (zK hh).2.2 hx (.plain (zK hh).1 h) hr
theorem rg{e:Nat}(hh:nE o N ops=some (d,e,j,want))(hb:Y7 (S.getD i []) L D e=some (dt b))(hx:D[i]?=some (Dt.kt (b == want) x))(h:(b == want)=true->eP P M (Y7 (S.getD i []) L D) o x)(hr:RegR P M ops N S L D (i+1) rest xs):RegR P M ops N S L D i (o::rest) ((d,Dt.kt (b == want) x)::xs):=
 .cons (xR hh).2.1 (xR hh).2.2.2.1 hx (.guarded (xR hh).1 (xR hh).2.2.1 (xR hh).2.2.2.2 hb zB h) hr
end
def ff:List Nat->Env->Option Env
 | [],_=>some []
 |k::ks,L=>match L.lookup k with
  |some x=>match x.nb with
   |true=>match ff ks L with
    | some r=>some ((k,x)::r)
    | none=>none
   | false=>none
  | none=>none
theorem wn:∀ {ks:List Nat} {L2:Env},ff ks L=some L2->Pick (λ x=>x.nb=true) L L2
 | [],L2,h=>by simp[ff] at h;subst h;exact .nil
 |k::ks,L2,h=>by
  unfold ff at h;split at h
  .rename_i x hx;split at h
   .rename_i hn;split at h
    .rename_i r hr;injection h with h;subst h;exact .cons hx hn (wn hr)
    .cases h
   .cases h
  .cases h
def gy:List (Nat×Nat)->Env->Option (List (Nat×Nat×Dt))
 | [],_=>some []
 |(k,p)::ks,L=>match L.lookup k with
  |some x=>match gy ks L with
   | some r=>some ((k,p,x)::r)
   | none=>none
  | none=>none
def eB:List (Nat×Nat×Dt)->Env
 | []=>[]
 | (s,_,x)::r=>(s,x)::eB r
theorem G7:∀ {ks:List (Nat×Nat)} {O:List (Nat×Nat×Dt)},gy ks L=some O->∀ q∈O,L.lookup q.1=some q.2.2
 | [],O,h=>by simp[gy] at h;subst h;intro q hq;cases hq
 |(k,p)::ks,O,h=>by
  unfold gy at h;split at h
  .rename_i x hx;split at h
   .rename_i r hr;injection h with h;subst h;intro q hq;rcases aj.1 hq with rfl | hq
    .exact hx
    .exact G7 hr q hq
   .cases h
  .cases h
end
def zj(Gs:List (Nat->Prop))(p b:Nat):Prop:=match Gs[p]? with
 | some G=>G b
 | none=>False
structure mg(F:eG)(M0 M:Nat->Prop)(Gs:List (Nat->Prop)):Prop where
 sub:∀ b,M0 b->M b
 at_:∀ p b,zj Gs p b->F.Own b/\M b/\¬ M0 b
 apart:∀ p q b,p≠q->zj Gs p b->¬ zj Gs q b
def gf(Gs:List (Nat->Prop)):List (Nat×Nat×Dt)->Prop
 | []=>True
 | q::r=>(∀ b,q.2.2.own b->zj Gs q.2.1 b)/\gf Gs r
variable{α β:Type}
theorem gf.get{Gs:List (Nat->Prop)}:∀ {O:List (Nat×Nat×Dt)},gf Gs O->∀ q∈O,∀ b,q.2.2.own b->zj Gs q.2.1 b
 |_::_,h,q,hq=>by
  rcases aj.1 hq with rfl | hq
  .exact h.1
  .exact gf.get h.2 q hq
theorem gf.of{Gs:List (Nat->Prop)}:∀ {O:List (Nat×Nat×Dt)},(∀ q∈O,∀ b,q.2.2.own b->zj Gs q.2.1 b)->gf Gs O
 | [],_=>trivial
 | q::_,h=>⟨h q (by simp),gf.of λ r hr=>h r (by simp[hr])⟩
theorem zf{p:Nat}{b:Nat}(hp:p<Gs.length):zj (Gs.set p G) p b=G b:=by simp[zj,hp]
theorem zq{p q:Nat}{b:Nat}(h:p≠q):zj (Gs.set p G) q b=zj Gs q b:=by simp[zj,aG h]
structure Sx(F:eG)(N:Nat)(M0 M:Nat->Prop)(Gs:List (Nat->Prop))(L:Env)(O:List (Nat×Nat×Dt))(a:Act)(w:World):Prop where
 st:St F N M (L++eB O) a w
 ob:mg F M0 M Gs
 no:∀ s x,L.lookup s=some x->x.nb=true
 ow:gf Gs O
theorem yN{l r:List (Nat×α)}{x:α}(h:l.lookup s=some x):(l++r).lookup s=some x:=by
 induction l with
 | nil=>simp at h
 |cons p l ih=>
  obtain⟨k,v⟩:=p;simp only[bG,af] at h ⊢;cases hb:s == k <;> simp[hb] at h ⊢
  .exact ih h
  .exact h
theorem yi{l r:List (Nat×α)}(h:l.lookup s=none):(l++r).lookup s=r.lookup s:=by
 induction l with
 | nil=>rfl
 |cons p l ih=>
  obtain⟨k,v⟩:=p;simp only[bG,af] at h ⊢;cases hb:s == k <;> simp only[hb] at h ⊢
  .exact ih h
  .cases h
theorem yw{l r:List (Nat×α)}{x:α}(h:(l++r).lookup s=some x):l.lookup s=some x\/(l.lookup s=none/\r.lookup s=some x):=by
 cases hl:l.lookup s with
 | none=>exact .inr ⟨Z,by rwa[yi hl] at h⟩
 | some y=>left;rw[yN hl] at h;exact h
theorem Rj{l:List (Nat×α)}{x:α}(h:l.lookup s=some x):(s,x)∈l:=jG l s x h
theorem JK:∀ {O:List (Nat×Nat×Dt)} {s:Nat} {x:Dt},(eB O).lookup s=some x->∃ p,(s,p,x)∈O
 |(k,p,y)::O,s,x,h=>by
  simp only[eB,af] at h;cases hb:s == k with
  |true=>
   simp only[hb] at h;injection h with h;subst h;have:s=k:=by simpa using hb
   subst this;exact⟨p,by simp⟩
  |false=>simp only[hb] at h;obtain⟨q,hq⟩:=JK h;exact⟨q,by simp[hq]⟩
section
variable{fn:Func}{l:List Oper}{p:Nat}
variable{B α β σ:Type}
theorem St.env{E':Env}(h:St F N M E a w)(hs:∀ s x,E'.lookup s=some x->E.lookup s=some x):St F N M E' a w:=
 ⟨h.fr,h.size,h.defers,h.mok,λ s x hx=>h.has s x (hs s x hx)⟩
theorem Bi(hq:gy qp E=some O2):∀ s x,(eB O2).lookup s=some x->E.lookup s=some x:=λ s x hx=>by
 obtain⟨p,hp⟩:=JK hx;exact G7 hq _ hp
theorem Sz(hk:ff ks E=some L2)(hq:gy qp E=some O2):∀ s x,(L2++eB O2).lookup s=some x->E.lookup s=some x:=λ s x hx=>by
 rcases yw hx with h | ⟨_,h⟩
 .exact((wn hk).spec s x h).1
 .exact Bi hq s x h
theorem Sx.nW(h:St F N M E a w)(ob:mg F M0 M Gs)(hk:ff ks E=some L2)(hq:gy qp E=some O2)(hw:gf Gs O2):Sx F N M0 M Gs L2 O2 a w:=
 ⟨h.env (Sz hk hq),ob,λ s x hx=>((wn hk).spec s x hx).2,hw⟩
theorem Sx.um(h:Sx F N M0 M Gs L O a w)(ks:List Nat)(hk:ff ks (L++eB O)=some L2)(qp:List (Nat×Nat))(hq:gy qp (L++eB O)=some O2)(hw:gf Gs O2):Sx F N M0 M Gs L2 O2 a w:=.nW h.st h.ob hk hq hw
theorem Sx.kv(h:Sx F N M0 M Gs L O a w)(ks:List Nat)(hk:ff ks (L++eB O)=some L2:=by rfl):Sx F N M0 M Gs L2 [] a w:=.nW h.st h.ob hk (qp:=[]) Z trivial
theorem Sx.seg(h:Sx F N M0 M Gs L O a w)(n:Nat)(hs:Seg P M ops N (L++eB O) (l.take n) L')(ks:List Nat)(hk:ff ks L'=some L2)(qp:List (Nat×Nat))(hq:gy qp L'=some O2)(hw:gf Gs O2)
  (hQ:∀ a' w',Sx F N M0 M Gs L2 O2 a' w'->wpList P ops Q (l.drop n) a' w'):wpList P ops Q l a w:=by
 have:=pH hs h.st (λ a' w' he hst'=>hQ a' w' (.nW hst' h.ob hk hq hw));rwa[aV] at this
theorem Sx.rg(h:Sx F N M0 M Gs L O a w){id:Nat}(hs:Seg P M ops N (L++eB O) ops.toList L')(ks:List Nat)(hk:ff ks L'=some L2)(qp:List (Nat×Nat))(hq:gy qp L'=some O2)(hw:gf Gs O2)
  (hQ:∀ a' w',Sx F N M0 M Gs L2 O2 a' w'->Q .normal a' w'):(Code.region id ops false).wp P Q a w:=by
 refine Ka ?_;have:=pH hs h.st (λ a' w' he hst'=>Kb (hQ a' w' (.nW hst' h.ob hk hq hw)));simpa using this
theorem Sx.dr(h:Sx F N M0 M Gs L O a w){id:Nat}{xs:List (Nat×Dt)}(hm:P.follows .mixedOrders=true)(S:List (List (Nat×Option Nat)))(hc:jA ops ops.size (kO ops) S=true)
  (hs:RegR P M ops N S (L++eB O) D 0 ops.toList xs) (ks:List Nat) (hk:ff ks (xs++(L++eB O))=some L2) (qp:List (Nat×Nat)) (hq:gy qp (xs++(L++eB O))=some O2) (hw:gf Gs O2)
  (hQ:∀ a' w',Sx F N M0 M Gs L2 O2 a' w'->Q .normal a' w'):(Code.region id ops true).wp P Q a w:=
 QW hm ops.size _ S hc (al _) h.st (by rwa[show ops.size=ops.toList.length from by simp,aQ]) (λ a' w' he hst'=>by
  rw[show ops.size=ops.toList.length from by simp,bX];exact Kb (hQ a' w' (.nW hst' h.ob hk hq hw)))
theorem Sx.DN(h:Sx F N M0 M Gs L O a w){id:Nat}{xs:List (Nat×Dt)}(hm:P.follows .mixedOrders=true)(k:Nat)(S:List (List (Nat×Option Nat)))(hc:jA ops k (kO ops) S=true)(hkn:k<=ops.size)
  (hs:RegR P M ops N S (L++eB O) D 0 (ops.toList.take k) xs) (ks:List Nat) (hk:ff ks (xs++(L++eB O))=some L2) (qp:List (Nat×Nat)) (hq:gy qp (xs++(L++eB O))=some O2) (hw:gf Gs O2)
  (hQ:∀ a' w',Sx F N M0 M Gs L2 O2 a' w'->wpList P ops Q (ops.toList.drop k) a' w'):(Code.region id ops true).wp P Q a w:=
 QW hm k _ S hc hkn h.st hs λ a' w' _he hst'=>hQ a' w' (.nW hst' h.ob hk hq hw)
theorem Sx.cs{c:Nat}{x z:Code}{A B:Option β}{r:β}(h:Sx F N M0 M Gs L O a w)(hm:(if b=true then A else B)=some r)(ht:b=true->A=some r->x.wp P Q a w)(hf:b=false->B=some r->z.wp P Q a w)(hl:L.lookup c=some (dt b):=by rfl):(Code.cond (.tmp c) x z).wp P Q a w:=
 zT h.st (yN hl) (λ hb=>ht hb (by rw[Ke hb] at hm;exact hm)) (λ hb=>hf hb (by rw[Kf (by rw[hb];decide)] at hm;exact hm))
theorem Yo{c1 c2:Code}(I:Act->World->Prop)(h1:c1.wp P (Exit.then I Q) a w)(h2:∀ a' w',I a' w'->c2.wp P Q a' w'):(Code.seq c1 c2).wp P Q a w:=
 Kc (bW (λ e a' w' q=>by
  cases e with
  | normal=>exact h2 a' w' q
  | _=>exact q) h1)
theorem Qw{step:σ->Option (σ⊕β)}{s0:σ}{o:β}(hm:zE step s0=some o)(Inv:σ->Act->World->Prop)(h0:Inv s0 a w)
  (round:∀ s x a w,Inv s a w->step s=some x->(∀ b,x=.inr b->b=o)->c.wp P (Exit.then (λ a' w'=>∃ s',x=.inl s'/\Inv s' a' w') Q) a w):(Code.loop c).wp P Q a w:=by
 unfold zE at hm;refine Y0 (λ i a w=>wC step i.1 i.2=some o/\Inv i.2 a w) (λ i=>i.1) (_,s0) ⟨hm,h0⟩ ?_
 rintro ⟨n,s⟩ a w ⟨hn,hI⟩
 cases n with
 | zero=>simp[wC] at hn
 |succ n=>
  unfold wC at hn;cases hs:step s with
  | none=>rw[hs] at hn;cases hn
  |some x=>
   rw[hs] at hn;refine bW (λ e a' w' q=>?_) (round s x a w hI hs (λ b hb=>by subst hb;exact bV hn));cases e with
   |normal=>obtain⟨s',rfl,hI'⟩:=q;exact⟨(n,s'),⟨hn,hI'⟩,Nat.lt_succ_self n⟩
   | _=>exact q
theorem lo{b o:β}{x:σ⊕β}(h:some (Sum.inr b)=some x)(hx:∀ b,x=.inr b->b=o):some b=some o:=by
 injection h with h;rw[hx b h.symm]
theorem jo{T:Type}{t:T}{o:B⊕T}{K:B->Option T}{r:Option T}(h:some (Sum.inr t)=some o)(hk:Sum.elim K some o=r):some t=r:=by
 injection h with h;subst h;exact hk
theorem Sx.AA(h:Sx F N M0 M Gs L O a w)(hx:x.rd M w v):x.rd M0 w v:=x.weak hx λ k _ hk=>h.ob.sub k hk
theorem Sx.ret{α:Type}[ey α]{t:Nat}{x r:α}(h:Sx (eG.of w0) N M0 M Gs L O a w)(hr:fn.results=#[.tmp t])(hl:(L++eB O).lookup t=some (dt x))(hm:some x=some r):bodyPost P fn (kZ M0 w0 (dt r)) .ret a w:=by
 injection hm with hm;subst hm;exact tJ hr h.st hl λ v hv=>h.AA hv
theorem Tq[ey α]{xs:List α}(h:Sx F N M0 M Gs L O a w)(hv:(eQ g e xs).rd M w v)(hg:∀ b,g=some b->zj Gs p b):(dt xs).rd M0 w v:=
 JJ hv (λ b _ hb=>h.ob.sub b hb) λ b hb=>(h.ob.at_ p b (hg b hb)).2.2
theorem Sx.sh[ey α]{t:Nat}{x r:List α}(h:Sx (eG.of w0) N M0 M Gs L O a w)(p:Nat)(hm:some x=some r)(hr:fn.results=#[.tmp t]:=by rfl)(hl:(L++eB O).lookup t=some (eQ g e x):=by rfl)(hg:∀ b,g=some b->zj Gs p b:=by exact λ _ h=>h):bodyPost P fn (sx e M0 w0 r) .ret a w:=by
 injection hm with hm;subst hm;refine⟨h.st.defers,_,cV hr a.tmps P w,_,g,Z,h.st.fr,λ b hb=>⟨(h.ob.at_ p b (hg b hb)).1,h.st.mok b (h.ob.at_ p b (hg b hb)).2.1⟩,(eQ g e x).weak (h.st.has t _ hl) λ k _ hk=>?_⟩;rcases hk with hk | hk
 .exact h.ob.sub k hk
 .exact(h.ob.at_ p k (hg k hk)).2.1
theorem Sx.ret_take[ey α]{t:Nat}{x r:List α}(h:Sx (eG.take w0 g) N M0 M Gs L O a w)(p:Nat)(hr:fn.results=#[.tmp t])(hl:(L++eB O).lookup t=some (eQ g' e x))(hg:∀ b,g'=some b->zj Gs p b)(hm:some x=some r):bodyPost P fn (uy e M0 w0 g r) .ret a w:=by
 injection hm with hm;subst hm;refine⟨h.st.defers,_,cV hr a.tmps P w,_,g',Z,h.st.fr,?_,λ b hb=>h.st.mok b (h.ob.at_ p b (hg b hb)).2.1,(eQ g' e x).weak (h.st.has t _ hl) λ k _ hk=>?_⟩
 .cases g' with
  | none=>exact .inr λ b hb=>by cases hb
  |some b=>
   rcases(h.ob.at_ p b (hg b rfl)).1 with h1 | h1
   .exact .inl h1.symm
   .exact .inr λ k hk=>by injection hk with hk;omega
 .rcases hk with hk | hk
  .exact h.ob.sub k hk
  .exact(h.ob.at_ p k (hg k hk)).2.1
theorem Sx.ret_box[ey α]{t:Nat}{x r:α}(h:Sx (eG.of w0) N M0 M Gs L O a w)(hr:fn.results=#[.cell t ty])(ht:fM P ty (ey.agg α) (ey.size α)=true)(hl:(L++eB O).lookup t=some (eY g 0 x))(hm:some x=some r):
  bodyPost P fn (kZ M0 w0 (dt r)) .ret a w:=by
 injection hm with hm;subst hm;exact GI hr ht h.st hl λ v hv=>h.AA hv
theorem RdAll.stable{us:List Value}{xs:List Dt}(hr:RdAll M w us xs)(hn:∀ x∈xs,x.nb=true)(e:kA M noB w w'):RdAll M w' us xs:=by
 induction hr with
 | nil=>exact .nil
 |cons h r ih=>rename_i v x vs xs';exact .cons (x.stable h λ k hk hm=>e k hk (hm.elim .inl λ ho=>(x.nob (hn x (by simp)) k ho).elim)) (ih λ y hy=>hn y (by simp[hy]))
theorem RdAll.weak{us:List Value}{xs:List Dt}(hr:RdAll M w us xs)(e:∀ k,k<w.heap.size->M' k->M k):RdAll M' w us xs:=by
 induction hr with
 | nil=>exact .nil
 |cons h r ih=>rename_i v x vs xs';exact .cons (x.weak h e) ih
def fZ(xs:List Dt):Dt where
 rd M w v:=∃ us,v=.tuple us.toArray/\RdAll M w us xs/\∀ x∈xs,x.nb=true
 own:=noB
 nb:=true
 nob _ _ h:=h
 stable:=by
  rintro M w w' v ⟨us,hv,hr,hn⟩ e
  exact⟨us,hv,hr.stable hn e,hn⟩
 weak:=by
  rintro M M' w v ⟨us,hv,hr,hn⟩ e
  exact⟨us,hv,hr.weak e,hn⟩
theorem RdAll.at:∀ {us:List Value} {xs:List Dt},RdAll M w us xs->∀ {i:Nat} {x:Dt},xs[i]?=some x->∃ u,us[i]?=some u/\x.rd M w u
 | _,_,.cons h r,0,x,hi=>by simp at hi;subst hi;exact⟨_,Z,h⟩
 |_,_,.cons h r,i+1,x,hi=>by
  obtain⟨u,h1,h2⟩:=RdAll.at r (i:=i) (by simpa using hi);exact⟨u,by simpa using h1,h2⟩
theorem sW{look:Nat->Option Dt}(ho:o.op=.extract q i)(hp:eC M look q (fZ xs))(hx:xs[i]?=some x):eP P M look o x:=
 zz λ a w _ hl=>by
  obtain⟨us,hv,hr,_⟩:=hp w a hl;obtain⟨u,h1,h2⟩:=hr.at hx;exact⟨u,by unfold execOp;rw[ho];simp[hv,Instr.extract,h1],h2⟩
theorem Sx.D1{t:Nat}{y:Dt}(h:Sx (eG.of w0) N M0 M Gs L O a w)(hr:fn.results=#[.tmp t,.tmp u])(hx:x.rd M0 w (Act.at a t))(hy:y.rd M0 w (Act.at a u))(hn:x.nb=true/\y.nb=true)(hR:R=fZ [x,y]):bodyPost P fn (kZ M0 w0 R) .ret a w:=by
 subst hR;exact⟨h.st.defers,_,results_tmp2 hr a.tmps P w,_,Z,h.st.fr,[_,_],Z,.cons hx (.cons hy .nil),λ z hz=>by
  simp at hz;rcases hz with rfl | rfl
  .exact hn.1
  .exact hn.2⟩
theorem Sx.pR{t v:Nat}{y z:Dt}(h:Sx (eG.of w0) N M0 M Gs L O a w)(hx:x.rd M0 w (Act.at a t))(hy:y.rd M0 w (Act.at a u))(hz:z.rd M0 w (Act.at a v))(hn:x.nb=true/\y.nb=true/\z.nb=true)(hr:fn.results=#[.tmp t,.tmp u,.tmp v]:=by rfl)(hR:R=fZ [x,y,z]:=by rfl):bodyPost P fn (kZ M0 w0 R) .ret a w:=by
 subst hR;exact⟨h.st.defers,_,results_tmp3 hr a.tmps P w,_,Z,h.st.fr,[_,_,_],Z,.cons hx (.cons hy (.cons hz .nil)),λ q hq=>by
  simp at hq;rcases hq with rfl | rfl | rfl
  .exact hn.1
  .exact hn.2.1
  .exact hn.2.2⟩
theorem Sx.frozen(h:Sx F N M0 M Gs L O a w){t:Nat}(hl:(L++eB O).lookup t=some x:=by rfl):x.rd M0 w (Act.at a t):=h.AA (h.st.has t x hl)
theorem Sx.As[ey α]{xs:List α}(h:Sx F N M0 M Gs L O a w){t:Nat}(p:Nat)(hl:(L++eB O).lookup t=some (eQ g e xs))(hg:∀ b,g=some b->zj Gs p b):(dt xs).rd M0 w (Act.at a t):=Tq h (h.st.has t _ hl) hg
def W2:Env->Bool
 | []=>true
 | (_,x)::r=>x.nb&&W2 r
theorem Wl:∀ {E:Env},W2 E=true->∀ s x,E.lookup s=some x->x.nb=true
 |(k,y)::r,h,s,x,hx=>by
  simp only[W2,ac] at h;simp only[af] at hx;split at hx
  .injection hx with hx;subst hx;exact h.1
  .exact Wl h.2 s x hx
theorem Qx:∀ {n p b:Nat},¬ zj (List.replicate n (eA none)) p b:=λ{n p b} h=>by
 unfold zj at h;split at h
 .rename_i G hG;have:=ae hG;rw[List.mem_replicate] at this;rw[this.2] at h;cases h
 .exact h
theorem Sx.start(n:Nat)(h:St F N M L a w)(hn:W2 L=true):Sx F N M M (List.replicate n (eA none)) L [] a w:=
 ⟨by simpa[eB] using h,⟨λ _ h=>h,λ _ _ h=>(Qx h).elim,λ _ _ _ _ h=>(Qx h).elim⟩,Wl hn,trivial⟩
theorem Bo{y:Dt}(n:Nat)(hf:P.funcs[f]?=some fn)(hb:fn.body=some c)(hn:xs.length<=fn.ntmps)(hnb:W2 (zL 0 xs)=true)
  (h:∀ (M:Nat->Prop) (w:World) (a:Act),Sx (eG.of w) fn.ntmps M M (List.replicate n (eA none)) (zL 0 xs) [] a w->c.wp P (bodyPost P fn (kZ M w y)) a w):Fn P f xs y:=
 xg hf hb (hn:=hn) λ M w a _ st=>h M w a (.start n st hnb)
theorem Fb[ey α]{y:List α}(n:Nat)(hf:P.funcs[f]?=some fn)(hb:fn.body=some c)(hn:xs.length<=fn.ntmps)(hnb:W2 (zL 0 xs)=true)
  (h:∀ (M:Nat->Prop) (w:World) (a:Act),Sx (eG.of w) fn.ntmps M M (List.replicate n (eA none)) (zL 0 xs) [] a w->c.wp P (bodyPost P fn (sx e M w y)) a w):kY P f xs e y:=
 RX hf hb hn λ M w a _ st=>h M w a (.start n st hnb)
theorem Sx.sq(h:Sx F N M0 M Gs L O a w){id:Nat}{c2:Code}(hs:Seg P M ops N (L++eB O) ops.toList L')(ks:List Nat)(hk:ff ks L'=some L2)(qp:List (Nat×Nat))(hq:gy qp L'=some O2)(hw:gf Gs O2)
  (hQ:∀ a' w',Sx F N M0 M Gs L2 O2 a' w'->c2.wp P Q a' w'):(Code.seq (Code.region id ops false) c2).wp P Q a w:=
 Kc (h.rg hs ks hk qp hq hw λ a' w' st=>za (hQ a' w' st))
theorem Sx.D8(h:Sx F N M0 M Gs L O a w){id:Nat}{c2:Code}(hs:Seg P M ops N (L++eB O) ops.toList L')(ks:List Nat)(hk:ff ks L'=some L2)
  (hQ:∀ a' w',Sx F N M0 M Gs L2 [] a' w'->c2.wp P Q a' w'):(Code.seq (Code.region id ops false) c2).wp P Q a w:=h.sq hs ks hk [] Z trivial hQ
theorem Sx.LJ(h:Sx F N M0 M Gs L O a w){id:Nat}(hs:Seg P M ops N (L++eB O) ops.toList L')(ks:List Nat)(hk:ff ks L'=some L2)
  (hQ:∀ a' w',Sx F N M0 M Gs L2 [] a' w'->Q .normal a' w'):(Code.region id ops false).wp P Q a w:=h.rg hs ks hk [] Z trivial hQ
theorem jn{T:Type}{b:B}{K:B->Option T}{r:Option T}(hk:Sum.elim K some (Sum.inl b)=r):K b=r:=hk
section
variable{look:Nat->Option Dt}
theorem tp(h:look s=some x):eC M look (.tmp s) x:=zb h
theorem T{look:Nat->Option Dt}(h:look s=some x:=by rfl):eC M look (.tmp s) x:=tp h
theorem V{look:Nat->Option Dt}{c:Bool}(hc:c=true:=by assumption)(h:look s=some (Dt.kt c x):=by rfl):eC M look (.tmp s) x:=zk hc h
theorem cI{n:Int}:eC M look (.const (.int .i64 n)) (dt n):=yl
theorem cB:eC M look (.const (.bool b)) (dt b):=RV
theorem oM(ho:o.op=.move q)(h:eC M look q x):eP P M look o x:=zF ho h
theorem oA(ho:o.op=.assign q)(h:eC M look q x):eP P M look o x:=xw ho h
theorem gU{x:Operand}{n:Int}(ho:o.op=.binOp op t x y t')(hx:eC M look x (dt m))(hy:eC M look y (dt n))(hop:op=.eql\/op=.neq\/op=.lss\/op=.leq\/op=.gtr\/op=.geq:=by decide):eP P M look o (dt (ez op m n)):=qR ho (hop:=hop) hx hy
theorem px{x:Operand}{m n:UInt8}(ho:o.op=.binOp op t x y t')(hx:eC M look x (dt m))(hy:eC M look y (dt n))(hop:op=.eql\/op=.neq\/op=.lss\/op=.leq\/op=.gtr\/op=.geq:=by decide):eP P M look o (dt (gT op m n)):=vj ho (hop:=hop) hx hy
end
def uK(k:Nat):List (Nat×Nat×Dt)->Option (Nat×Dt)
 | []=>none
 |(s,p,x)::r=>match k == s with
  | true=>some (p,x)
  | false=>uK k r
def fi(L:Env)(O:List (Nat×Nat×Dt)):List Nat->Nat->Option (List (Nat×Nat×Dt))
 | [],_=>some []
 |k::ks,p=>match L.lookup k with
  | some _=>none
  |none=>match uK k O with
   | none=>none
   |some (q,x)=>match q == p with
    | true=>none
    |false=>match fi L O ks p with
     | some r=>some ((k,q,x)::r)
     | none=>none
theorem E4:∀ {O:List (Nat×Nat×Dt)} {k p:Nat} {x:Dt},uK k O=some (p,x)->(k,p,x)∈O/\(eB O).lookup k=some x
 |(s,q,y)::O,k,p,x,h=>by
  unfold uK at h;simp only[eB,af];split at h
  .rename_i hk;injection h with h;injection h with h1 h2;subst h1 h2;have hk':k=s:=by simpa using hk
   subst hk';exact⟨by simp,by simp⟩
  .rename_i hk;obtain⟨h1,h2⟩:=E4 h;exact⟨by simp[h1],by simp only[hk];exact h2⟩
theorem ZT:∀ {ks:List Nat} {O2:List (Nat×Nat×Dt)},fi L O ks p=some O2->∀ q∈O2,q∈O/\q.2.1≠p/\(L++eB O).lookup q.1=some q.2.2
 | [],O2,h=>by simp[fi] at h;subst h;intro q hq;cases hq
 |k::ks,O2,h=>by
  unfold fi at h;split at h
  .cases h
  .rename_i hl;split at h
   .cases h
   .rename_i q x hq;split at h
    .cases h
    .rename_i hp;split at h
     .rename_i r hr;injection h with h;subst h;intro q' hq';rcases aj.1 hq' with rfl | hq'
      .obtain⟨h1,h3⟩:=E4 hq;refine⟨h1,by simpa using hp,?_⟩;rw[yi hl];exact h3
      .exact ZT hr q' hq'
     .cases h
theorem mg.upd(ob:mg F M0 M Gs)(hp:p<Gs.length)(hj:F.J w)(hmok:∀ b,M b->b<w.heap.size)(hG:∀ b,G' b->zj Gs p b\/w.heap.size<=b):mg F M0 (λ b=>(M b/\¬ zj Gs p b)\/G' b) (Gs.set p G'):=by
 refine⟨λ b hb=>.inl ⟨ob.sub b hb,λ ho=>(ob.at_ p b ho).2.2 hb⟩,λ q b hb=>?_,λ q r b hne h1 h2=>?_⟩
 .by_cases hq:p=q
  .subst hq;rw[zf hp] at hb;rcases hG b hb with h | h
   .obtain⟨h1,h2,h3⟩:=ob.at_ p b h;exact⟨h1,.inr hb,h3⟩
   .exact⟨F.fresh hj b h,.inr hb,λ hm=>by have:=hmok b (ob.sub b hm);omega⟩
  .rw[zq hq] at hb;obtain⟨h1,h2,h3⟩:=ob.at_ q b hb;exact⟨h1,.inl ⟨h2,λ ho=>ob.apart p q b hq ho hb⟩,h3⟩
 .by_cases hq:p=q
  .subst hq;rw[zf hp] at h1;rw[zq hne] at h2;rcases hG b h1 with h | h
   .exact ob.apart p r b hne h h2
   .have:=hmok b (ob.at_ r b h2).2.1;omega
  .rw[zq hq] at h1;by_cases hr:p=r
   .subst hr;rw[zf hp] at h2;rcases hG b h2 with h | h
    .exact ob.apart q p b hne h1 h
    .have:=hmok b (ob.at_ q b h1).2.1;omega
   .rw[zq hr] at h2;exact ob.apart q r b hne h1 h2
theorem Sx.kr(h:Sx F N M0 M Gs L O a w)(hp:p<Gs.length)(hgr:Grown (zj Gs p) w w')(hG:∀ b,G' b->(zj Gs p b\/w.heap.size<=b)/\b<w'.heap.size)(hk:ff ks L=some L2)(hq:fi L O qs p=some O2):
  Sx F N M0 (λ b=>(M b/\¬ zj Gs p b)\/G' b) (Gs.set p G') L2 O2 a w':=by
 have key:∀ {x:Dt} {v:Value},x.rd M w v->(∀ b,x.own b->¬ zj Gs p b)->x.rd (λ b=>(M b/\¬ zj Gs p b)\/G' b) w' v:=λ{x v} hx ho=>by
  have h1:x.rd (λ b=>M b\/G' b) w v:=x.weak hx λ k hk hm=>by
   rcases hm with hm | hm
   .exact hm
   .rcases(hG k hm).1 with h2 | h2
    .exact(h.ob.at_ p k h2).2.1
    .omega
  have h2:=x.stable h1 λ k hk hm=>hgr.block k hk λ he=>by
   rcases hm with hm | hm
   .exact hm (.inl (h.ob.at_ p k he).2.1)
   .exact ho k hm he
  exact x.weak h2 λ k _ hm=>hm.imp (λ h=>h.1) id
 refine⟨⟨F.own h.st.fr hgr λ b hb=>(h.ob.at_ p b hb).1,h.st.size,h.st.defers,λ b hb=>?_,λ s x hx=>?_⟩,h.ob.upd hp h.st.fr h.st.mok λ b hb=>(hG b hb).1,λ s x hx=>((wn hk).spec s x hx).2,gf.of λ q hq' b hb=>?_⟩
 .rcases hb with hb | hb
  .exact ay (h.st.mok b hb.1) hgr.size
  .exact(hG b hb).2
 .rcases yw hx with h1 | ⟨_,h1⟩
  .obtain⟨h2,h3⟩:=(wn hk).spec s x h1;exact key (h.st.has s x (yN h2)) λ b hb=>(x.nob h3 b hb).elim
  .obtain⟨q,hq'⟩:=JK h1;obtain⟨h2,h3,h4⟩:=ZT hq _ hq';exact key (h.st.has s x h4) λ b hb hb'=>h.ob.apart _ _ b h3 (h.ow.get _ h2 b hb) hb'
 .obtain⟨h2,h3,h4⟩:=ZT hq _ hq';rw[zq (br h3)];exact h.ow.get _ h2 b hb
theorem Sx.oc{α:Type}[ey α]{F:eG}{N:Nat}{M0 M:Nat->Prop}{Gs:List (Nat->Prop)}{L:Env}{O:List (Nat×Nat×Dt)}{a:Act}{w:World}{q:Operand}{x:α}(h:Sx F N M0 M Gs L O a w)(k:eC M (λ s=>(L++eB O).lookup s) q (dt x)):ey.rdc M w (a.eval q).cells.toList x:=eC.cells k (λ s y hs=>h.st.has s y hs)
theorem Sx.iG(h:Sx F N M0 M Gs L O a w)(hN:d<N)(hdn:L.lookup d=none)(hx:x.rd M w v)(ho:∀ b,x.own b->zj Gs p b):Sx F N M0 M Gs L ((d,p,x)::O) (a.put (some d) v) w:=by
 refine⟨⟨h.st.fr,by rw[Act.nZ];exact h.st.size,by rw[Act.put_defers];exact h.st.defers,h.st.mok,λ s y hy=>?_⟩,h.ob,h.no,ho,h.ow⟩;by_cases hs:s=d
 .subst hs;rw[yi hdn] at hy;simp[eB] at hy;subst hy;rw[Act.oX (by rw[h.st.size];exact hN)];exact hx
 .rw[Act.mD (λ e=>hs (by injection e with e;exact e.symm))];refine h.st.has s y ?_;rcases yw hy with h1 | ⟨h0,h1⟩
  .exact yN h1
  .rw[yi h0];have hb:(s == d)=false:=by simpa using hs
   simpa[eB,af,hb] using h1
theorem Sx.nY(h:Sx F N M0 M Gs L O a w)(hN:d<N)(hx:x.rd M w v)(hn:x.nb=true):Sx F N M0 M Gs ((d,x)::L) O (a.put (some d) v) w:=by
 refine⟨⟨h.st.fr,by rw[Act.nZ];exact h.st.size,by rw[Act.put_defers];exact h.st.defers,h.st.mok,λ s y hy=>?_⟩,h.ob,λ s y hy=>?_,h.ow⟩
 .simp only[bG,af] at hy;by_cases hs:s=d
  .subst hs;simp at hy;subst hy;rw[Act.oX (by rw[h.st.size];exact hN)];exact hx
  .have hb:(s == d)=false:=by simpa using hs
   simp[hb] at hy;rw[Act.mD (λ e=>hs (by injection e with e;exact e.symm))];exact h.st.has s y hy
 .simp only[af] at hy;split at hy
  .injection hy with hy;subst hy;exact hn
  .exact h.no s y hy
theorem Sx.gu(h:Sx F N M0 M Gs L O a w)(hdn:L.lookup d=none)(hx:x.rd M w (Act.at a d))(ho:∀ b,x.own b->zj Gs p b):Sx F N M0 M Gs L ((d,p,x)::O) a w:=by
 refine⟨⟨h.st.fr,h.st.size,h.st.defers,h.st.mok,λ s y hy=>?_⟩,h.ob,h.no,ho,h.ow⟩;by_cases hs:s=d
 .subst hs;rw[yi hdn] at hy;simp[eB] at hy;subst hy;exact hx
 .refine h.st.has s y ?_;rcases yw hy with h1 | ⟨h0,h1⟩
  .exact yN h1
  .rw[yi h0];have hb:(s == d)=false:=by simpa using hs
   simpa[eB,af,hb] using h1
theorem yJ(hg:Gs[p]?=some (eA g)):∀ b,zj Gs p b ↔ g=some b:=λ b=>by unfold zj;rw[hg];rfl
theorem YZ(hg:Gs[p]?=some G):p<Gs.length:=(ai.1 hg).1
theorem Grown.own(hg:Gs[p]?=some (eA g))(h:w.grownBy w' g):Grown (zj Gs p) w w':=(Grown.lJ h).mono λ b hb=>(yJ hg b).2 hb
theorem Sx.app[ey α]{x:Nat}{xs ys r:List α}{z:Dt}(h:Sx F N M0 M Gs L O a w)(p:Nat)(hh:fH o N=some d)
  (ho:o.op=.call { callee:=.builtin .append,args:=#[.tmp s,.tmp x],argTypes:=#[t,t] }) (hel:iH P t e (ey.size α) bytes=true)
  (hs:(L++eB O).lookup s=some (eQ g e xs)) (hg:Gs[p]?=some (eA g)) (hx:(L++eB O).lookup x=some z) (hz:pY z ys) (hm:fE bytes xs ys=some r)
  (ks:List Nat) (hk:ff ks L=some L2) (qs:List Nat) (hq:fi L O qs p=some O2) (hdn:L2.lookup d=none)
  (next:∀ g' M' a' w',Sx F N M0 M' (Gs.set p (eA g')) L2 ((d,p,eQ g' e r)::O2) a' w'->wpList P ops Q rest a' w'):wpList P ops Q (o::rest) a w:=by
 obtain⟨hgd,hd,hN⟩:=zK hh;unfold fE at hm;split at hm
 .rename_i hsz;injection hm with hm;subst hm;have hMg:∀ k,gp g M k->M k:=λ k hk=>hk.elim id λ e=>(h.ob.at_ p k ((yJ hg k).2 e)).2.1
  obtain⟨v',w',g',hrun,hv',hgr,hg',hlt⟩:=Ww (ty:=o.type) hel ((eQ g e xs).weak (h.st.has s _ hs) λ k _ hk=>hMg k hk) (hz _ _ _ (z.weak (h.st.has x _ hx) λ k _ hk=>hMg k hk)) hsz.1 (by unfold maxLen;omega);refine av hgd λ K hK=>fb.wp (fb.iw (v:=v') (w':=w') ?_ ?_)
  .unfold execOp;simp[ho,resolve,invoke,builtin,Act.np,hrun]
  .rw[hd];have h1:=h.kr (G':=eA g') (YZ hg) (Grown.own hg hgr) (λ b hb=>⟨(hg'.imp (λ e=>(yJ hg b).2 (by rw[<-e];exact hb)) λ e=>e b hb),hlt b hb⟩) hk hq;exact hK _ _ (next g' _ _ _ (h1.iG hN hdn ((eQ g' e _).weak hv' λ k _ hk=>hk.imp (λ h=>h.1) id) λ b hb=>by rw[zf (YZ hg)];exact hb))
 .cases hm
theorem Sx.make[ey α]{d0:α}{n:Int}{r:List α}(h:Sx F N M0 M Gs L O a w)(p:Nat)(hh:fH o N=some d)(ho:o.op=.makeSlice t (.tmp s) (.tmp s))
  (hel:iH P t e (ey.size α) bytes=true) (hzc:zeroCells P e=some zs) (hz:∀ (M:Nat->Prop) (w:World),ey.rdc M w zs d0) (hs:(L++eB O).lookup s=some (dt n)) (hp:p<Gs.length) (hm:mv (ey.size α) bytes n d0=some r)
  (ks:List Nat) (hk:ff ks L=some L2) (qs:List Nat) (hq:fi L O qs p=some O2) (hdn:L2.lookup d=none)
  (next:∀ g' M' a' w',Sx F N M0 M' (Gs.set p (eA g')) L2 ((d,p,eQ g' e r)::O2) a' w'->wpList P ops Q rest a' w'):wpList P ops Q (o::rest) a w:=by
 obtain⟨hgd,hd,hN⟩:=zK hh;unfold mv at hm;split at hm
 .rename_i hc;injection hm with hm;subst hm;obtain⟨i,z,ht,hi,hzz,hs1,hs2,hs3⟩:=Qv hel;have hzs:z.cells.toList=zs:=by
   unfold zeroCells at hzc;rw[hi] at hzc;simpa[hzz] using hzc
  obtain⟨w',hrun,hown,hgr⟩:=run_makeSlice_full w 0 t e i z _ ht hi hzz hs1 .i64 .i64 n.toNat hc.2.1 (by rw[hs2];exact hc.2.2.1) (by unfold maxLen;omega) (aq _);have hex:fy w w':=⟨hgr.os,hgr.tape,hgr.output,hgr.size,λ k hk=>hgr.block k hk (by simp)⟩;have hlt:=(hown.lt w.heap.size Z).2;have hsv:Act.at a s=.int .i64 (n.toNat:Int):=by rw[yq.1 (h.st.has s _ hs)];congr 1;omega
  refine av hgd λ K hK=>fb.wp (fb.iw (v:=.slice (some ⟨w.heap.size,0,none⟩) n.toNat n.toNat) (w':=w') ?_ ?_)
  .unfold execOp;rw[ho];simp only[Act.np,hsv,ap,hrun,ah,ar]
  .rw[hd];have h1:=h.kr (G':=eA _) hp ((Grown.kW hex).mono λ b hb=>hb.elim) (λ b (hb:some w.heap.size=some b)=>by injection hb with hb;subst hb;exact⟨.inr (al _),hlt⟩) hk hq;refine hK _ _ (next _ _ _ _ (h1.iG hN hdn ?_ λ b hb=>by rw[zf hp];exact hb));exact .inl ⟨_,by rw[cz];exact hown,Sk (by rw[hzs];exact hz) n.toNat,Z⟩
 .cases hm
theorem Sx.alloc{α:Type}[ey α]{t:Nat}{zs:List Value}{d0:α}(h:Sx F N M0 M Gs L O a w)(p:Nat)(hh:fH o N=some d)(ho:o.op=.alloc t)(hzc:zeroCells P t=some zs)(hz:∀ (M:Nat->Prop) (w:World),ey.rdc M w zs d0)(hp:p<Gs.length)
  (ks:List Nat) (hk:ff ks L=some L2) (qs:List Nat) (hq:fi L O qs p=some O2) (hdn:L2.lookup d=none)
  (next:∀ b M' a' w',Sx F N M0 M' (Gs.set p (eA (some b))) L2 ((d,p,eY (some b) 0 d0)::O2) a' w'->wpList P ops Q rest a' w'):wpList P ops Q (o::rest) a w:=by
 obtain⟨hgd,hd,hN⟩:=zK hh;obtain⟨i,z,hi,hzz,hzs⟩:∃ i z,P.info? t=some i/\i.zero=some z/\z.cells.toList=zs:=by
  unfold zeroCells at hzc;cases hi:P.info? t with
  | none=>rw[hi] at hzc;cases hzc
  |some i=>
   rw[hi] at hzc;cases hzz:i.zero with
   | none=>simp[hzz] at hzc
   | some z=>exact⟨i,z,Z,hzz,by simpa[hzz] using hzc⟩
 have he:fy w (w.alloc (.cells z.cells t)):=fy.alloc _ _;refine av hgd λ K hK=>fb.wp (fb.iw (v:=.pointer (some ⟨w.heap.size,0,none⟩)) (w':=w.alloc (.cells z.cells t)) ?_ ?_)
 .unfold execOp;rw[ho];simp[Instr.alloc,zeroValue,typeInfo,hi,hzz,newVar,newRow]
 .rw[hd];have h1:=h.kr (G':=eA _) hp ((Grown.kW he).mono λ b hb=>hb.elim) (λ b (hb:some w.heap.size=some b)=>by injection hb with hb;subst hb;exact⟨.inr (al _),by simp⟩) hk hq;refine hK _ _ (next w.heap.size _ _ _ (h1.iG hN hdn ?_ λ b hb=>by rw[zf hp];exact hb));exact⟨w.heap.size,Z,Z,z.cells,t,zs,db w _,λ j u hj=>by rw[aD,<-cX,hzs];exact hj,hz _ _⟩
theorem Sx.store{α β:Type}[ey α][ey β]{t q sb:Nat}{vo:Operand}{g:Option Nat}{off:Nat}{x:α}{y0 y:β}{set:α->β->α}(h:Sx F N M0 M Gs L O a w)(p:Nat)(fs:eO set off)(ho:o.op=.store t (.tmp q) vo)(hgd:o.guard=none)(hd:o.dst=none)
  (ht:fM P t (ey.agg β) (ey.size β)=true) (hg:Gs[p]?=some (eA g)) (hpl:(L++eB O).lookup q=some (eY g off y0)) (hvl:eC M (λ s=>(L++eB O).lookup s) vo (dt y)) (hsl:(L++eB O).lookup sb=some (eY g 0 x))
  (ks:List Nat) (hk:ff ks L=some L2) (qs:List Nat) (hq:fi L O qs p=some O2) (hdn:L2.lookup sb=none)
  (next:∀ M' w',Sx F N M0 M' Gs L2 ((sb,p,eY g 0 (set x y))::O2) a w'->wpList P ops Q rest a w'):wpList P ops Q (o::rest) a w:=by
 obtain⟨b,rfl,hpv,_⟩:=h.st.has q _ hpl;have hob:=h.ob.at_ p b ((yJ hg b).2 Z);obtain⟨b1,hb1,hsv,C,e,cs,hb,hc,hr⟩:=h.st.has sb _ hsl;injection hb1 with hb1;subst hb1;have hy:=Wn (hvl w a λ s y hs=>h.st.has s y hs);obtain⟨hle,hset⟩:=fs.put hr hy;have hlc:cs.length<=C.size:=by
  rcases d8 cs.length with h0 | h0
  .omega
  .have:=hc (cs.length - 1) _ (aa (by omega));have:=(aB.1 this).1;omega
 have hrun:=xI (off:=off) (by rw[ey.len hy];exact ht) Z hb (by omega) (ey.oneCell hy);generalize hcc:(a.eval vo).cells.toList=c at*;have hgr:w.grownBy (w.setRow b (C.toList.take off++c++C.toList.drop (off+c.length)).toArray) _:=y8;refine av hgd λ K hK=>fb.wp (fb.mS (w':=w.setRow b (C.toList.take off++c++C.toList.drop (off+c.length)).toArray) ?_ ?_)
 .unfold execOp;rw[ho];have hpv':a.eval (.tmp q)=.pointer _:=hpv;simp[Instr.storeAt,Instr.sureAddr,hpv',hrun]
 .rw[hd];have h1:=h.kr (G':=eA _) (YZ hg) (Grown.own hg hgr) (λ k (hk:some b=some k)=>by injection hk with hk;subst hk;exact⟨.inl ((yJ hg b).2 Z),ay (xM hb) hgr.size⟩) hk hq;have hGs:Gs.set p (eA (some b))=Gs:=by
   apply aZ;intro n;by_cases hn:p=n
   .subst hn;rw[aI (YZ hg),hg]
   .rw[aG hn]
  rw[hGs] at h1;refine hK _ _ (next _ _ (h1.gu hdn ?_ λ k (hk:some b=some k)=>(yJ hg k).2 hk));refine⟨b,Z,hsv,_,e,cs.take off++c++cs.drop (off+c.length),ck w b C _ e _ hb,λ j u hj=>?_,?_⟩
  .have hj':j<cs.length:=by
    have:=(ai.1 hj).1;simp at this;omega
   rw[aD];simp only[cw];rw[aE] at hj ⊢;by_cases h1:j<off
   .rw[aN (by simp;omega)] at hj ⊢;rw[aw,Ke h1] at hj ⊢;have:=hc j u hj;simpa using this
   .rw[aL (by simp;omega)] at hj ⊢;simp only[aJ] at hj ⊢;rw[bz (by omega)] at hj;rw[bz (by simp;omega)];by_cases h2:j - off<c.length
    .rw[aN h2] at hj ⊢;exact hj
    .rw[aL (by omega)] at hj ⊢;rw[bL] at hj ⊢;rw[show off+c.length+_=j by omega] at hj ⊢;have:=hc j u hj;simpa using this
  .have hset':ey.rdc (λ k=>(M k/\¬ zj Gs p k)\/eA _ k) w _ _:=ey.weak hset λ k _ hk=>hk.elim (λ h=>h.1) λ(e:some b=some k)=>by injection e with e;subst e;exact hob.2.1
   exact ey.stable hset' λ k hk hm=>hgr.block k hk λ e=>by
    injection e with e;subst e;rcases hm with hm | hm
    .exact hm (.inr Z)
    .exact hm
theorem Sx.eE[ey α]{xs:List α}(h:Sx F N M0 M Gs L O a w)(p:Nat)(hs:(L++eB O).lookup s=some (eQ g e xs))(hg:Gs[p]?=some (eA g))
  (ks:List Nat) (hk:ff ks L=some L2) (qs:List Nat) (hq:fi L O qs p=some O2):Sx F N M0 (λ b=>M b/\¬ zj Gs p b) (Gs.set p (eA none)) ((s,dt xs)::L2) O2 a w:=by
 have hsub:∀ k,k<w.heap.size->(M k/\¬ zj Gs p k)->M k:=λ k _ hk=>hk.1
 refine⟨⟨h.st.fr,h.st.size,h.st.defers,λ b hb=>h.st.mok b hb.1,λ s' x hx=>?_⟩,⟨λ b hb=>⟨h.ob.sub b hb,λ ho=>(h.ob.at_ p b ho).2.2 hb⟩,λ q b hb=>?_,λ q r b hne h1 h2=>?_⟩,λ s' x hx=>?_,gf.of λ q hq' b hb=>?_⟩
 .simp only[bG,af] at hx;by_cases he:s'=s
  .subst he;simp at hx;subst hx;exact JJ (h.st.has s' _ hs) (λ b _ hb=>hb.1) λ b hb hm=>hm.2 ((yJ hg b).2 hb)
  .have hb:(s' == s)=false:=by simpa using he
   simp[hb] at hx;rcases yw hx with h1 | ⟨_,h1⟩
   .exact x.weak (h.st.has s' x (yN ((wn hk).spec s' x h1).1)) hsub
   .obtain⟨q,hq'⟩:=JK h1;exact x.weak (h.st.has s' x (ZT hq _ hq').2.2) hsub
 .by_cases hq':p=q
  .subst hq';rw[zf (YZ hg)] at hb;cases hb
  .rw[zq hq'] at hb;obtain⟨h1,h2,h3⟩:=h.ob.at_ q b hb;exact⟨h1,⟨h2,λ ho=>h.ob.apart p q b hq' ho hb⟩,h3⟩
 .by_cases hq':p=q
  .subst hq';rw[zf (YZ hg)] at h1;cases h1
  .rw[zq hq'] at h1;by_cases hr:p=r
   .subst hr;rw[zf (YZ hg)] at h2;cases h2
   .rw[zq hr] at h2;exact h.ob.apart q r b hne h1 h2
 .simp only[af] at hx;split at hx
  .injection hx with hx;subst hx;rfl
  .exact((wn hk).spec s' x hx).2
 .obtain⟨h2,h3,_⟩:=ZT hq _ hq';rw[zq (br h3)];exact h.ow.get _ h2 b hb
theorem Sx.AF(h:Sx F N M0 M Gs L O a w)(p:Nat)(ks:List Nat)(qs:List Nat)(hp:p<Gs.length:=by simp)(hk:ff ks L=some L2:=by rfl)(hq:fi L O qs p=some O2:=by rfl):Sx F N M0 (λ b=>(M b/\¬ zj Gs p b)\/eA none b) (Gs.set p (eA none)) L2 O2 a w:=
 h.kr (G':=eA none) hp (Grown.refl _ w) (λ b (hb:none=some b)=>by cases hb) hk hq
theorem Sx.own[ey α]{l:List Operand}{ys:List α}(h:Sx F N M0 M Gs L O a w)(p:Nat)(hh:fH o N=some d)
  (ho:o.op=.call { callee:=.value (.func f),args:=l.toArray,argTypes:=ts }) (hf:gb P f=true) (hx:ArgsR M (λ s=>(L++eB O).lookup s) l xr) (hfn:kY P f xr e ys) (hp:p<Gs.length)
  (ks:List Nat) (hk:ff ks L=some L2) (qs:List Nat) (hq:fi L O qs p=some O2) (hdn:L2.lookup d=none)
  (next:∀ g' M' a' w',Sx F N M0 M' (Gs.set p (eA g')) L2 ((d,p,eQ g' e ys)::O2) a' w'->wpList P ops Q rest a' w'):wpList P ops Q (o::rest) a w:=by
 obtain⟨hgd,hd,hN⟩:=zK hh;refine av hgd λ K hK=>fb.wp (fb.mK (f:=f) (args:=(l.map a.eval).toArray) (w':=w) ?_ ?_)
 .unfold execOp;rw[ho];have e:a.eval (.func f)=.func _ #[] #[]:=rfl;simp[resolve,e,Deferred.ofValue,invoke,xq hf]
 .refine(hfn M w _ h.st.mok (hx.all h.st.has)).mono λ en w' ⟨v',g',he,hex,hg',hv'⟩=>⟨v',he,?_⟩
  rw[hd];have h1:=h.kr (G':=eA g') hp ((Grown.kW hex).mono λ b hb=>hb.elim) (λ b hb=>⟨.inr (hg' b hb).1,(hg' b hb).2⟩) hk hq;exact hK _ _ (next g' _ _ _ (h1.iG hN hdn ((eQ g' e ys).weak hv' λ k _ hk=>hk.imp (λ h=>h.1) id) λ b hb=>by rw[zf hp];exact hb))
theorem Sx.take[ey α]{l:List Operand}{xs ys:List α}(h:Sx F N M0 M Gs L O a w)(p:Nat)(hh:fH o N=some d)
  (ho:o.op=.call { callee:=.value (.func f),args:=(.tmp s::l).toArray,argTypes:=ts }) (hf:gb P f=true) (hs:(L++eB O).lookup s=some (eQ g e xs)) (hg:Gs[p]?=some (eA g)) (hx:ArgsR M (λ s=>(L++eB O).lookup s) l xr) (hfn:pL P f e xs xr ys)
  (ks:List Nat) (hk:ff ks L=some L2) (qs:List Nat) (hq:fi L O qs p=some O2) (hdn:L2.lookup d=none)
  (next:∀ g' M' a' w',Sx F N M0 M' (Gs.set p (eA g')) L2 ((d,p,eQ g' e ys)::O2) a' w'->wpList P ops Q rest a' w'):wpList P ops Q (o::rest) a w:=by
 obtain⟨hgd,hd,hN⟩:=zK hh;refine av hgd λ K hK=>fb.wp (fb.mK (f:=f) (args:=((Operand.tmp s::l).map a.eval).toArray) (w':=w) ?_ ?_)
 .unfold execOp;rw[ho];have e:a.eval (.func f)=.func _ #[] #[]:=rfl;simp[resolve,e,Deferred.ofValue,invoke,xq hf]
 .have hM:∀ k,gp g (λ b=>M b/\g≠some b) k ↔ M k:=λ k=>by
   refine⟨λ hk=>hk.elim (λ h=>h.1) λ e=>(h.ob.at_ p k ((yJ hg k).2 e)).2.1,λ hk=>?_⟩;by_cases e:g=some k
   .exact .inr e
   .exact .inl ⟨hk,e⟩
  have hargs:=(hx.all h.st.has).weak λ k _ hk=>(hM k).1 hk
  refine(hfn (λ b=>M b/\g≠some b) g w _ _ (λ b hb=>h.st.mok b ((hM b).1 hb)) (λ b hb hm=>hm.2 hb) ((eQ g e xs).weak (h.st.has s _ hs) λ k _ hk=>(hM k).1 hk) hargs).mono λ en w' ⟨v',g',he,hgr,hg',hlt,hv'⟩=>⟨v',he,?_⟩
  rw[hd];have h1:=h.kr (G':=eA g') (YZ hg) (Grown.own hg hgr) (λ b hb=>⟨hg'.imp (λ e=>(yJ hg b).2 (by rw[<-e];exact hb)) λ e=>e b hb,hlt b hb⟩) hk hq;exact hK _ _ (next g' _ _ _ (h1.iG hN hdn ((eQ g' e ys).weak hv' λ k _ hk=>hk.imp (λ h=>⟨h.1,λ e=>h.2 ((yJ hg k).2 e)⟩) id) λ b hb=>by rw[zf (YZ hg)];exact hb))
end
structure Stmt where
 kind:Int
 module:Str
 level:Int
 name:Str
 value:Int
deriving DecidableEq,Inhabited
instance:ey Stmt:=ey.ku (λ x=>((x.kind,x.module,x.level,x.name,x.value):Int×Str×Int×Str×Int))
theorem Stmt.gD:eM (λ x:Stmt=>x.kind) 0:=⟨λ h=>(eM.fst).sub h⟩
theorem Stmt.LW:eO (λ(x:Stmt) y=>{ x with kind:=y }) 0:=⟨λ h k=>(eO.fst).put h k⟩
theorem Stmt.gA:eM (λ x:Stmt=>x.module) 1:=⟨λ h=>((eM.snd eM.fst)).sub h⟩
theorem Stmt.D6:eO (λ(x:Stmt) y=>{ x with module:=y }) 1:=⟨λ h k=>((eO.snd eO.fst)).put h k⟩
theorem Stmt.iv:eM (λ x:Stmt=>x.level) 2:=⟨λ h=>((eM.snd (eM.snd eM.fst))).sub h⟩
theorem Stmt.LX:eO (λ(x:Stmt) y=>{ x with level:=y }) 2:=⟨λ h k=>((eO.snd (eO.snd eO.fst))).put h k⟩
theorem Stmt.iM:eM (λ x:Stmt=>x.name) 3:=⟨λ h=>((eM.snd (eM.snd (eM.snd eM.fst)))).sub h⟩
theorem Stmt.sj:eO (λ(x:Stmt) y=>{ x with name:=y }) 3:=⟨λ h k=>((eO.snd (eO.snd (eO.snd eO.fst)))).put h k⟩
theorem Stmt.ls:eM (λ x:Stmt=>x.value) 4:=⟨λ h=>((eM.snd (eM.snd (eM.snd (eM.snd eM.id))))).sub h⟩
theorem Stmt.sk:eO (λ(x:Stmt) y=>{ x with value:=y }) 4:=⟨λ h k=>((eO.snd (eO.snd (eO.snd (eO.snd eO.id))))).put h k⟩
theorem Stmt.parts{x:Stmt}(h0:ey.rdc M w c0 x.kind)(h1:ey.rdc M w c1 x.module)(h2:ey.rdc M w c2 x.level)(h3:ey.rdc M w c3 x.name)(h4:ey.rdc M w c4 x.value):ey.rdc M w [c0,c1,c2,c3,c4].flatten x:=by
 simp;exact⟨c0,_,Z,h0,⟨c1,_,Z,h1,⟨c2,_,Z,h2,⟨c3,_,Z,h3,h4⟩⟩⟩⟩
structure File where
 root:Int
 pkg:Str
 name:Str
 init:Bool
 stamp:Int
 body:List Stmt
deriving DecidableEq,Inhabited
instance:ey File:=ey.ku (λ x=>((x.root,x.pkg,x.name,x.init,x.stamp,x.body):Int×Str×Str×Bool×Int×List Stmt))
theorem File.gD:eM (λ x:File=>x.root) 0:=⟨λ h=>(eM.fst).sub h⟩
theorem File.gA:eM (λ x:File=>x.pkg) 1:=⟨λ h=>((eM.snd eM.fst)).sub h⟩
theorem File.iv:eM (λ x:File=>x.name) 2:=⟨λ h=>((eM.snd (eM.snd eM.fst))).sub h⟩
theorem File.iM:eM (λ x:File=>x.init) 3:=⟨λ h=>((eM.snd (eM.snd (eM.snd eM.fst)))).sub h⟩
theorem File.ls:eM (λ x:File=>x.stamp) 4:=⟨λ h=>((eM.snd (eM.snd (eM.snd (eM.snd eM.fst))))).sub h⟩
theorem File.sk:eO (λ(x:File) y=>{ x with stamp:=y }) 4:=⟨λ h k=>((eO.snd (eO.snd (eO.snd (eO.snd eO.fst))))).put h k⟩
theorem File.oY:eM (λ x:File=>x.body) 5:=⟨λ h=>((eM.snd (eM.snd (eM.snd (eM.snd (eM.snd eM.id)))))).sub h⟩
theorem File.D7:eO (λ(x:File) y=>{ x with body:=y }) 5:=⟨λ h k=>((eO.snd (eO.snd (eO.snd (eO.snd (eO.snd eO.id)))))).put h k⟩
theorem File.parts{x:File}(h0:ey.rdc M w c0 x.root)(h1:ey.rdc M w c1 x.pkg)(h2:ey.rdc M w c2 x.name)(h3:ey.rdc M w c3 x.init)(h4:ey.rdc M w c4 x.stamp)(h5:ey.rdc M w c5 x.body):ey.rdc M w [c0,c1,c2,c3,c4,c5].flatten x:=by
 simp;exact⟨c0,_,Z,h0,⟨c1,_,Z,h1,⟨c2,_,Z,h2,⟨c3,_,Z,h3,⟨c4,_,Z,h4,h5⟩⟩⟩⟩⟩
structure Tree where
 files:List File
deriving DecidableEq,Inhabited
instance:ey Tree:=ey.ku (λ x=>(x.files:List File))
theorem Tree.gD:eM (λ x:Tree=>x.files) 0:=⟨λ h=>(eM.id).sub h⟩
theorem Tree.parts{x:Tree}(h0:ey.rdc M w c0 x.files):ey.rdc M w [c0].flatten x:=by
 simp;exact h0
structure Spec where
 kind:Int
 file:Int
 roots:List Int
deriving DecidableEq,Inhabited
instance:ey Spec:=ey.ku (λ x=>((x.kind,x.file,x.roots):Int×Int×List Int))
theorem Spec.gD:eM (λ x:Spec=>x.kind) 0:=⟨λ h=>(eM.fst).sub h⟩
theorem Spec.gA:eM (λ x:Spec=>x.file) 1:=⟨λ h=>((eM.snd eM.fst)).sub h⟩
theorem Spec.iv:eM (λ x:Spec=>x.roots) 2:=⟨λ h=>((eM.snd (eM.snd eM.id))).sub h⟩
theorem Spec.parts{x:Spec}(h0:ey.rdc M w c0 x.kind)(h1:ey.rdc M w c1 x.file)(h2:ey.rdc M w c2 x.roots):ey.rdc M w [c0,c1,c2].flatten x:=by
 simp;exact⟨c0,_,Z,h0,⟨c1,_,Z,h1,h2⟩⟩
structure eT where
 root:Int
 pkg:Str
 stamp:Int
 names:List Str
deriving DecidableEq,Inhabited
instance:ey eT:=ey.ku (λ x=>((x.root,x.pkg,x.stamp,x.names):Int×Str×Int×List Str))
theorem eT.gD:eM (λ x:eT=>x.root) 0:=⟨λ h=>(eM.fst).sub h⟩
theorem eT.gA:eM (λ x:eT=>x.pkg) 1:=⟨λ h=>((eM.snd eM.fst)).sub h⟩
theorem eT.iv:eM (λ x:eT=>x.stamp) 2:=⟨λ h=>((eM.snd (eM.snd eM.fst))).sub h⟩
theorem eT.iM:eM (λ x:eT=>x.names) 3:=⟨λ h=>((eM.snd (eM.snd (eM.snd eM.id)))).sub h⟩
theorem eT.sj:eO (λ(x:eT) y=>{ x with names:=y }) 3:=⟨λ h k=>((eO.snd (eO.snd (eO.snd eO.id)))).put h k⟩
theorem eT.parts{x:eT}(h0:ey.rdc M w c0 x.root)(h1:ey.rdc M w c1 x.pkg)(h2:ey.rdc M w c2 x.stamp)(h3:ey.rdc M w c3 x.names):ey.rdc M w [c0,c1,c2,c3].flatten x:=by
 simp;exact⟨c0,_,Z,h0,⟨c1,_,Z,h1,⟨c2,_,Z,h2,h3⟩⟩⟩
structure eK where
 tree:Tree
 clock:Int
 dirs:List eT
deriving DecidableEq,Inhabited
instance:ey eK:=ey.ku (λ x=>((x.tree,x.clock,x.dirs):Tree×Int×List eT))
theorem eK.gD:eM (λ x:eK=>x.tree) 0:=⟨λ h=>(eM.fst).sub h⟩
theorem eK.gA:eM (λ x:eK=>x.clock) 1:=⟨λ h=>((eM.snd eM.fst)).sub h⟩
theorem eK.iv:eM (λ x:eK=>x.dirs) 2:=⟨λ h=>((eM.snd (eM.snd eM.id))).sub h⟩
theorem eK.parts{x:eK}(h0:ey.rdc M w c0 x.tree)(h1:ey.rdc M w c1 x.clock)(h2:ey.rdc M w c2 x.dirs):ey.rdc M w [c0,c1,c2].flatten x:=by
 simp;exact⟨c0,_,Z,h0,⟨c1,_,Z,h1,h2⟩⟩
structure fj where
 dirs:List eT
 fills:Int
 hits:Int
deriving DecidableEq,Inhabited
instance:ey fj:=ey.ku (λ x=>((x.dirs,x.fills,x.hits):List eT×Int×Int))
theorem fj.parts{x:fj}(h0:ey.rdc M w c0 x.dirs)(h1:ey.rdc M w c1 x.fills)(h2:ey.rdc M w c2 x.hits):ey.rdc M w [c0,c1,c2].flatten x:=by
 simp;exact⟨c0,_,Z,h0,⟨c1,_,Z,h1,h2⟩⟩
structure eU where
 root:Int
 module:Str
 init:Bool
 mode:Int
 stamp:Int
 size:Int
 hash:Int
 body:List Stmt
deriving DecidableEq,Inhabited
instance:ey eU:=ey.ku (λ x=>((x.root,x.module,x.init,x.mode,x.stamp,x.size,x.hash,x.body):Int×Str×Bool×Int×Int×Int×Int×List Stmt))
theorem eU.gD:eM (λ x:eU=>x.root) 0:=⟨λ h=>(eM.fst).sub h⟩
theorem eU.gA:eM (λ x:eU=>x.module) 1:=⟨λ h=>((eM.snd eM.fst)).sub h⟩
theorem eU.iv:eM (λ x:eU=>x.init) 2:=⟨λ h=>((eM.snd (eM.snd eM.fst))).sub h⟩
theorem eU.iM:eM (λ x:eU=>x.mode) 3:=⟨λ h=>((eM.snd (eM.snd (eM.snd eM.fst)))).sub h⟩
theorem eU.ls:eM (λ x:eU=>x.stamp) 4:=⟨λ h=>((eM.snd (eM.snd (eM.snd (eM.snd eM.fst))))).sub h⟩
theorem eU.oY:eM (λ x:eU=>x.size) 5:=⟨λ h=>((eM.snd (eM.snd (eM.snd (eM.snd (eM.snd eM.fst)))))).sub h⟩
theorem eU.Lm:eM (λ x:eU=>x.hash) 6:=⟨λ h=>((eM.snd (eM.snd (eM.snd (eM.snd (eM.snd (eM.snd eM.fst))))))).sub h⟩
theorem eU.Ln:eM (λ x:eU=>x.body) 7:=⟨λ h=>((eM.snd (eM.snd (eM.snd (eM.snd (eM.snd (eM.snd (eM.snd eM.id)))))))).sub h⟩
theorem eU.LY:eO (λ(x:eU) y=>{ x with body:=y }) 7:=⟨λ h k=>((eO.snd (eO.snd (eO.snd (eO.snd (eO.snd (eO.snd (eO.snd eO.id)))))))).put h k⟩
theorem eU.parts{x:eU}(h0:ey.rdc M w c0 x.root)(h1:ey.rdc M w c1 x.module)(h2:ey.rdc M w c2 x.init)(h3:ey.rdc M w c3 x.mode)(h4:ey.rdc M w c4 x.stamp)(h5:ey.rdc M w c5 x.size)(h6:ey.rdc M w c6 x.hash)(h7:ey.rdc M w c7 x.body):ey.rdc M w [c0,c1,c2,c3,c4,c5,c6,c7].flatten x:=by
 simp;exact⟨c0,_,Z,h0,⟨c1,_,Z,h1,⟨c2,_,Z,h2,⟨c3,_,Z,h3,⟨c4,_,Z,h4,⟨c5,_,Z,h5,⟨c6,_,Z,h6,h7⟩⟩⟩⟩⟩⟩⟩
structure fu where
 kind:Int
 num:Int
deriving DecidableEq,Inhabited
instance:ey fu:=ey.ku (λ x=>((x.kind,x.num):Int×Int))
theorem fu.gD:eM (λ x:fu=>x.kind) 0:=⟨λ h=>(eM.fst).sub h⟩
theorem fu.gA:eM (λ x:fu=>x.num) 1:=⟨λ h=>((eM.snd eM.id)).sub h⟩
theorem fu.parts{x:fu}(h0:ey.rdc M w c0 x.kind)(h1:ey.rdc M w c1 x.num):ey.rdc M w [c0,c1].flatten x:=by
 simp;exact⟨c0,_,Z,h0,h1⟩
structure fI where
 name:Str
 value:fu
deriving DecidableEq,Inhabited
instance:ey fI:=ey.ku (λ x=>((x.name,x.value):Str×fu))
theorem fI.gD:eM (λ x:fI=>x.name) 0:=⟨λ h=>(eM.fst).sub h⟩
theorem fI.gA:eM (λ x:fI=>x.value) 1:=⟨λ h=>((eM.snd eM.id)).sub h⟩
theorem fI.parts{x:fI}(h0:ey.rdc M w c0 x.name)(h1:ey.rdc M w c1 x.value):ey.rdc M w [c0,c1].flatten x:=by
 simp;exact⟨c0,_,Z,h0,h1⟩
structure eZ where
 name:Str
 kind:Int
 roots:List Int
 cached:Bool
 done:Bool
 attrs:List fI
deriving DecidableEq,Inhabited
instance:ey eZ:=ey.ku (λ x=>((x.name,x.kind,x.roots,x.cached,x.done,x.attrs):Str×Int×List Int×Bool×Bool×List fI))
theorem eZ.gD:eM (λ x:eZ=>x.name) 0:=⟨λ h=>(eM.fst).sub h⟩
theorem eZ.gA:eM (λ x:eZ=>x.kind) 1:=⟨λ h=>((eM.snd eM.fst)).sub h⟩
theorem eZ.iM:eM (λ x:eZ=>x.cached) 3:=⟨λ h=>((eM.snd (eM.snd (eM.snd eM.fst)))).sub h⟩
theorem eZ.oY:eM (λ x:eZ=>x.attrs) 5:=⟨λ h=>((eM.snd (eM.snd (eM.snd (eM.snd (eM.snd eM.id)))))).sub h⟩
structure im where
 kind:Int
 name:Str
deriving DecidableEq,Inhabited
instance:ey im:=ey.ku (λ x=>((x.kind,x.name):Int×Str))
theorem im.parts{x:im}(h0:ey.rdc M w c0 x.kind)(h1:ey.rdc M w c1 x.name):ey.rdc M w [c0,c1].flatten x:=by
 simp;exact⟨c0,_,Z,h0,h1⟩
structure GAct where
 kind:Int
 file:File
 index:Int
 name:Str
deriving DecidableEq,Inhabited
instance:ey GAct:=ey.ku (λ x=>((x.kind,x.file,x.index,x.name):Int×File×Int×Str))
theorem GAct.gD:eM (λ x:GAct=>x.kind) 0:=⟨λ h=>(eM.fst).sub h⟩
theorem GAct.gA:eM (λ x:GAct=>x.file) 1:=⟨λ h=>((eM.snd eM.fst)).sub h⟩
theorem GAct.iv:eM (λ x:GAct=>x.index) 7:=⟨λ h=>((eM.snd (eM.snd eM.fst))).sub h⟩
theorem GAct.iM:eM (λ x:GAct=>x.name) 8:=⟨λ h=>((eM.snd (eM.snd (eM.snd eM.id)))).sub h⟩
theorem GAct.parts{x:GAct}(h0:ey.rdc M w c0 x.kind)(h1:ey.rdc M w c1 x.file)(h2:ey.rdc M w c2 x.index)(h3:ey.rdc M w c3 x.name):ey.rdc M w [c0,c1,c2,c3].flatten x:=by
 simp;exact⟨c0,_,Z,h0,⟨c1,_,Z,h1,⟨c2,_,Z,h2,h3⟩⟩⟩
set_option maxRecDepth 10000
section
theorem Bj  {xs:Array Value} {f:Field}   {o:Nat} {i j:Int}  (h : (f.name == "_", f.type, f.offset) = (false, t, o)) (hp : P.plainKey t = true) (ht : P.underlying t = some (.int .i64))
  (hx:xs[o]?=some (.int .i64 i)) (hy:ys[o]?=some (.int .i64 j)):(Op.eqFields (d+1) xs ys (f::fs)).run P w=if i=j then(Op.eqFields (d+1) xs ys fs).run P w else .ok false w:=by
 injection h with h1 h;injection h with h2 h3;subst h2 h3;have hn : f.name ≠ "_" := by simpa using h1
 simp only[Op.eqFields,hn,ne_eq,not_false_eq_true,bv,ap,dX w hp hx,dX w hp hy,ah,run_equalIn_int w d f.type .i64 .i64 i j ht];by_cases hij:i=j <;> simp[hij]
theorem EX  {xs:Array Value} {f:Field}   {o:Nat} {i j:Str}  (h : (f.name == "_", f.type, f.offset) = (false, t, o)) (hp : P.plainKey t = true) (ht : P.underlying t = some .string)
  (hx:xs[o]?=some (ik i)) (hy:ys[o]?=some (ik j)):(Op.eqFields (d+1) xs ys (f::fs)).run P w=if i=j then(Op.eqFields (d+1) xs ys fs).run P w else .ok false w:=by
 injection h with h1 h;injection h with h2 h3;subst h2 h3;have hn : f.name ≠ "_" := by simpa using h1
 simp only[Op.eqFields,hn,ne_eq,not_false_eq_true,bv,ap,dX w hp hx,dX w hp hy,ah,ik,run_equalIn_string w d f.type _ _ ht];have e1:(ByteArray.mk ⟨i.l⟩).toList=i.l:=de (⟨⟨i.l⟩⟩:ByteArray);have e2:(ByteArray.mk ⟨j.l⟩).toList=j.l:=de (⟨⟨j.l⟩⟩:ByteArray);by_cases hij:i=j
 .simp[hij]
 .have:¬ i.l=j.l:=λ h=>hij (Str.tS.2 h)
  simp[e1,e2,this,hij]
def vW(P:Program)(t:TypeId):Bool:=
 (match P.underlying t with | some (.struct _)=>true | _=>false)&&!P.stoodInHeld t&&!P.eqGuardType P.depth t&&
 match (P.fieldsOf t).toList.map (fun f => (f.name == "_", f.type, f.offset)) with
 |[(false,a,0),(false,b,1),(false,c,2),(false,d,3),(false,e,4)]=>
  P.plainKey a&&P.plainKey b&&P.plainKey c&&P.plainKey d&&P.plainKey e&&
  (
   match P.underlying a,P.underlying b,P.underlying c,P.underlying d,P.underlying e with
   | some (.int .i64),some .string,some (.int .i64),some .string,some (.int .i64)=>true
   | _,_,_,_,_=>false)
 | _=>false
theorem S8{cs:List Value}{x:Stmt}(h:ey.rdc M w cs x):cs=[.int .i64 x.kind,ik x.module,.int .i64 x.level,ik x.name,.int .i64 x.value]:=by
 obtain⟨c1,r1,rfl,h1,c2,r2,rfl,h2,c3,r3,rfl,h3,c4,c5,rfl,h4,h5⟩:=h;rw[h1.1,h2.1,h3.1,h4.1,h5.1];rfl
theorem Sn(h:vW P t=true)(x y:Stmt)(w:World):
  (Op.equalIn 10000 t (.agg #[.int .i64 x.kind,ik x.module,.int .i64 x.level,ik x.name,.int .i64 x.value]) (.agg #[.int .i64 y.kind,ik y.module,.int .i64 y.level,ik y.name,.int .i64 y.value])).run P w=.ok (decide (x=y)) w:=by
 unfold vW at h;simp only[ac] at h;obtain⟨⟨⟨h1,h2⟩,_⟩,h4⟩:=h;have hS:P.underlying t=some (.struct (P.fieldsOf t)):=by
  unfold Program.fieldsOf;split at h1
  .rename_i heq;simp only[heq]
  .cases h1
 rw[show(10000:Nat)=9999+1 from Z,run_equalIn_agg w 9999 t _ _ hS (by simpa using h2)];generalize (P.fieldsOf t).toList=fs at h4;split at h4
 .rename_i a b c d e hf;simp only[ac] at h4;obtain⟨⟨⟨⟨⟨ka,kb⟩,kc⟩,kd⟩,ke⟩,hu⟩:=h4;split at hu
  .rename_i ua ub uc ud ue;rcases fs with _ | ⟨f1,_ | ⟨f2,_ | ⟨f3,_ | ⟨f4,_ | ⟨f5,_ | ⟨f6,fs⟩⟩⟩⟩⟩⟩ <;> simp only[cM,List.map_nil,List.cons.injEq,and_true,reduceCtorEq,and_false] at hf
   obtain⟨g1,g2,g3,g4,g5⟩:=hf;rw[show(9999:Nat)=9998+1 from Z,Bj g1 ka ua Z Z,EX g2 kb ub Z Z,Bj g3 kc uc Z Z,EX g4 kd ud Z Z,Bj g5 ke ue Z Z];obtain⟨x1,x2,x3,x4,x5⟩:=x;obtain⟨y1,y2,y3,y4,y5⟩:=y;simp only[Op.eqFields,ar,Stmt.mk.injEq];by_cases e1:x1=y1 <;> by_cases e2:x2=y2 <;> by_cases e3:x3=y3 <;> by_cases e4:x4=y4 <;> by_cases e5:x5=y5 <;> simp[e1,e2,e3,e4,e5]
  .cases hu
 .cases h4
theorem He{x:Stmt}(h:(dt x).rd M w v):v=.agg #[.int .i64 x.kind,ik x.module,.int .i64 x.level,ik x.name,.int .i64 x.value]:=by
 obtain⟨cs,hr,hv⟩:=h;rw[hv,S8 hr];rfl
variable{look:Nat->Option Dt}
theorem Qk{x:Operand}{m n:Stmt}(ho:o.op=.binOp .eql t x y t')(hx:eC M look x (dt m))(hy:eC M look y (dt n))(ht:vW P t=true:=by kernel_rfl):eP P M look o (dt (decide (m=n))):=
 zz λ a w _ hl=>⟨.bool (decide (m=n)),by
  have hg:P.eqGuardType P.depth t=false:=by
   unfold vW at ht;simp only[ac] at ht;simpa using ht.1.2
  unfold execOp;rw[ho];simp only[He (hx w a hl),He (hy w a hl),ap,run_eqGuard_agg w _ _ _ _ _ _ hg,ah,run_eql_struct,Sn ht,ar],xL.2 Z⟩
end
section
variable{α β:Type}
theorem AX{l:List α}{x:α}{p:α->Bool}(hx:l[k]?=some x)(h:(l.take k).all p=true)(hp:p x=true):(l.take (k+1)).all p=true:=by
 rw[bp,hx];simp[h,hp]
theorem AV{l:List α}{p:α->Bool}(hk:l.length<=k)(h:(l.take k).all p=true):l.all p=true:=by
 rwa[aM hk] at h
theorem AW{l:List α}{x:α}{p:α->Bool}(hx:l[k]?=some x)(hp:p x=false):l.all p=false:=by
 rw[ea];exact⟨x,ae hx,by simp[hp]⟩
theorem vX{l:List α}{x:α}{p:α->Bool}(hx:l[k]?=some x)(h:(l.take k).any p=false)(hp:p x=false):(l.take (k+1)).any p=false:=by
 rw[bp,hx];simp[h,hp]
theorem Ev{l:List α}{p:α->Bool}(hk:l.length<=k)(h:(l.take k).any p=false):l.any p=false:=by
 rwa[aM hk] at h
theorem MR{l:List α}{x:α}{p:α->Bool}(hx:l[k]?=some x)(hp:p x=true):l.any p=true:=by
 rw[cr];exact⟨x,ae hx,hp⟩
def xo(p:α->Bool)(l:List α):Int:=match l.findIdx? p with | some i=>(i:Int) | none=>-1
theorem Bt{l:List α}{x:α}{p:α->Bool}(h:(l.take k).any p=false)(hx:l[k]?=some x)(hp:p x=true):xo p l=(k:Int):=by
 unfold xo;have:l.findIdx? p=some k:=by
  rw[aU];have hk:=(ai.1 hx).1;refine⟨hk,by rw[(ai.1 hx).2];exact hp,λ j hj=>?_⟩;rw[bS] at h;exact h _ (cm.2 ⟨j,by omega,Z⟩)
 rw[this]
theorem Bs{l:List α}{p:α->Bool}(hk:l.length<=k)(h:(l.take k).any p=false):xo p l=-1:=by
 unfold xo;have h':=Ev hk h;have:l.findIdx? p=none:=by
  rw[bC];intro x hx;rw[bS] at h';simpa using h' x hx
 rw[this]
theorem Kh{l:List α}{x:α}{f:β->α->β}{b:β}(hx:l[k]?=some x):(l.take (k+1)).foldl f b=f ((l.take k).foldl f b) x:=by
 rw[bp,hx];simp
end
def gM(s:Str):Prop:=s.l.length<=1099511627776
def eR(n lo hi:Int):Bool:=ez .leq lo n&&ez .leq n hi
def low(b:UInt8):Bool:=!(gT .lss b (UInt8.ofNat 97)||gT .gtr b (UInt8.ofNat 122))
def dot:UInt8:=UInt8.ofNat 46
def fW(s:Str):Bool:=eR s.l.length 1 3&&s.l.all low
def qV(c:UInt8)(st:List Str×Str)(b:UInt8):List Str×Str:=if b == c then(st.1++[st.2],⟨[]⟩) else(st.1,⟨st.2.l++[b]⟩)
def wc(c:UInt8)(l:List UInt8):List Str×Str:=l.foldl (qV c) ([],⟨[]⟩)
def zC(s:Str)(c:UInt8):List Str:=(wc c s.l).1++[(wc c s.l).2]
theorem Jr{c x:UInt8}{l:List UInt8}(hx:l[k]?=some x):wc c (l.take (k+1))=qV c (wc c (l.take k)) x:=Kh hx
theorem C5{c x:UInt8}{l:List UInt8}{b:Nat}(hx:l[k]?=some x)(ht:gT .eql x c=true)(h2:(wc c (l.take k)).2=⟨(l.take k).drop b⟩):
  (wc c (l.take (k+1))).1=(wc c (l.take k)).1++[⟨(l.take k).drop b⟩]:=by
 rw[Jr hx,qV,Ke (by simpa[gT] using ht),h2]
theorem SX{c x:UInt8}{l:List UInt8}(hx:l[k]?=some x)(ht:gT .eql x c=true)(_hk:k<l.length):
  (wc c (l.take (k+1))).2=⟨(l.take (k+1)).drop (k+1)⟩:=by
 rw[Jr hx,qV,Ke (by simpa[gT] using ht)];simp
theorem CR{c x:UInt8}{l:List UInt8}(hx:l[k]?=some x)(hf:gT .eql x c=false):
  (wc c (l.take (k+1))).1=(wc c (l.take k)).1:=by
 rw[Jr hx,qV,Kf (by simpa[gT] using hf)]
theorem SY{c x:UInt8}{l:List UInt8}{b:Nat}(hx:l[k]?=some x)(hf:gT .eql x c=false)(h2:(wc c (l.take k)).2=⟨(l.take k).drop b⟩)(hb:b<=k)(hk:k<l.length):
  (wc c (l.take (k+1))).2=⟨(l.take (k+1)).drop b⟩:=by
 rw[Jr hx,qV,Kf (by simpa[gT] using hf),h2,bp,hx,List.drop_append_of_le_length (by simp;omega)];rfl
theorem SV{s:Str}{c:UInt8}{b:Nat}(hk:s.l.length<=k)(h2:(wc c (s.l.take k)).2=⟨(s.l.take k).drop b⟩):
  (wc c (s.l.take k)).1++[⟨s.l.drop b⟩]=zC s c:=by
 rw[aM hk] at h2 ⊢;rw[zC,h2]
def zm(s:Str):Bool:=(zC s dot).all fW&&ez .leq (zC s dot).length 3
def fG:Str:=⟨[]⟩
def zi(s:Str):Bool:=decide (s=fG)||zm s
def JL(o:Str×Bool)(p:Str):Str×Bool:=(if o.2 then⟨(o.1.l++[46])++p.l⟩ else⟨o.1.l++p.l⟩,true)
def Xw(l:List Str):Str×Bool:=l.foldl JL (fG,false)
def join(l:List Str):Str:=(Xw l).1
def jV(l:List Str):Nat:=(l.map (λ s=>s.l.length+1)).sum
theorem Cz(l m:List Str):jV (l++m)=jV l+jV m:=by unfold jV;simp
theorem Xa(l:List Str)(k:Nat):jV (l.take k)<=jV l:=by
 conv=>rhs;rw[<-aV k l,Cz]
 omega
theorem CS{x:Str}(hx:l[k]?=some x):jV (l.take (k+1))=jV (l.take k)+(x.l.length+1):=by
 rw[bp,hx,Cz];simp[jV]
theorem Cy{x:Str}(hx:l[k]?=some x):Xw (l.take (k+1))=JL (Xw (l.take k)) x:=Kh hx
theorem IU(hk:k<=l.length):(Xw (l.take k)).2=decide (0<k):=by
 cases k with
 | zero=>rfl
 | succ k=>rw[Cy (aa (by omega))];simp[JL]
theorem Bv{x:Str}(hx:l[k]?=some x)(h:ez .gtr (k:Int) 0=true):(Xw (l.take (k+1))).1=⟨((Xw (l.take k)).1.l++[46])++x.l⟩:=by
 have hk:0<k:=by simpa[ez] using h
 have:=zJ hx;rw[Cy hx,JL,Ke (by rw[IU (by omega)];simpa using hk)]
theorem Du{x:Str}(hx:l[k]?=some x)(h:ez .gtr (k:Int) 0=false):(Xw (l.take (k+1))).1=⟨(Xw (l.take k)).1.l++x.l⟩:=by
 have hk:¬ 0<k:=by simpa[ez] using h
 have:=zJ hx;rw[Cy hx,JL,Kf (by rw[IU (by omega)];simpa using hk)]
theorem Fy(hk:k<=l.length):(Xw (l.take k)).1.l.length<=jV (l.take k):=by
 induction k with
 | zero=>exact aq _
 |succ k ih=>
  have hx:l[k]?=some l[k]:=aa (by omega);have:=ih (by omega);rw[CS hx];cases h:ez .gtr (k:Int) 0
  .rw[Du hx h];simp;omega
  .rw[Bv hx h];simp;omega
theorem OL{x:Str}(hx:l[k]?=some x):(Xw (l.take k)).1.l.length+1+x.l.length<=jV l:=by
 have h1:=Fy (l:=l) (k:=k) (by have:=zJ hx;omega);have h2:=Xa l (k+1);rw[CS hx] at h2;omega
theorem OK(hk:l.length<=k):(Xw (l.take k)).1=join l:=by rw[aM hk];rfl
theorem vY(l:List Str):l.length<=jV l:=by
 induction l with
 | nil=>exact al _
 | cons x l ih=>simp[jV] at ih ⊢;omega
theorem SS(c:UInt8)(l:List UInt8):jV (wc c l).1+(wc c l).2.l.length=l.length:=by
 have key:∀ (l:List UInt8) (st:List Str×Str),jV (l.foldl (qV c) st).1+(l.foldl (qV c) st).2.l.length=jV st.1+st.2.l.length+l.length:=by
  intro l
  induction l with
  | nil=>intro st;rfl
  |cons x l ih=>
   intro st;rw[bP,ih];unfold qV;split
   .simp;simp[jV];omega
   .simp;omega
 have:=key l ([],⟨[]⟩);simpa[jV,wc] using this
theorem Xb(s:Str)(c:UInt8):jV (zC s c)=s.l.length+1:=by
 rw[zC,Cz];have:=SS c s.l;simp[jV] at this ⊢;omega
theorem rD(s:Str)(c:UInt8):0<(zC s c).length:=by simp[zC]
def yb(s:Str):Str:=join ((zC s dot).take ((zC s dot).length - 1))
def qG(s:Str):Str:=((zC s dot)[(zC s dot).length - 1]?).getD fG
theorem FZ(s:Str):(zC s dot)[(zC s dot).length - 1]?=some (qG s):=by
 have:=rD s dot;rw[qG,aa (by omega)];rfl
def child(p s:Str):Str:=if p=fG then s else⟨(p.l++[46])++s.l⟩
def Wx(l:List Str)(k:Nat):List Str:=(List.range k).map λ i=>join (l.take (i+1))
theorem Ih(l:List Str)(k:Nat):Wx l (k+1)=Wx l k++[join (l.take (k+1))]:=by unfold Wx;rw[eu];simp
theorem J8(l:List Str)(k:Nat):(Wx l k).length=k:=by simp[Wx]
def nl(s:Str):List Str:=Wx (zC s dot) (zC s dot).length
def under(s p:Str):Bool:=decide (p=fG)||decide (s=p)||(ez .gtr s.l.length p.l.length&&decide ((⟨s.l.take (p.l.length+1)⟩:Str)=⟨p.l++[46]⟩))
theorem TC{s p:Str}:(decide (p=⟨[]⟩)||decide (s=p)||(ez .gtr s.l.length p.l.length&&decide ((⟨s.l.take (gY .add p.l.length 1).toNat⟩:Str)=⟨p.l++[46]⟩)))=under s p:=rfl
def vu(l:List Str)(s:Str):Int:=xo (λ x=>decide (x=s)) l
def jB(l:List Str)(s:Str):Bool:=ez .geq (vu l s) 0
def ri(l:List Int)(n:Int):Int:=xo (λ x=>x == n) l
def lH(s:Stmt):Prop:=s.module.l.length<=1048576/\s.name.l.length<=1048576
def iC(f:File):Prop:=f.pkg.l.length<=1048576/\f.name.l.length<=1048576/\f.body.length<=1048576/\∀ s∈f.body,lH s
def ja(t:Tree):Prop:=t.files.length<=1048576/\∀ f∈t.files,iC f
def zM(s:Stmt):Bool:=
 if ez .eql s.kind 0=true then zm s.module&&ez .eql s.level 0&&decide (s.name=⟨[]⟩)&&ez .eql s.value 0
 else if ez .eql s.kind 1=true then zi s.module&&eR s.level 0 3&&(decide (s.module≠⟨[]⟩)||ez .gtr s.level 0)&&fW s.name&&ez .eql s.value 0
 else if ez .eql s.kind 2=true then zm s.module&&ez .eql s.level 0&&decide (s.name=⟨[]⟩)&&ez .eql s.value 0
 else if ez .eql s.kind 3=true then decide (s.module=⟨[]⟩)&&ez .eql s.level 0&&fW s.name&&eR s.value 0 99
 else if ez .eql s.kind 4=true then decide (s.module=⟨[]⟩)&&ez .eql s.level 0&&fW s.name&&ez .eql s.value 0
 else if ez .eql s.kind 5=true then decide (s=⟨5,⟨[]⟩,0,⟨[]⟩,0⟩)
 else false
def gG(b:List Stmt):Bool:=b.all zM&&ez .leq b.length 8
def xe(f:File):Str:=if f.init then f.pkg else child f.pkg f.name
def z9(f:File):Bool:=
 if !eR f.root 0 2||!eR f.stamp 0 99||!zi f.pkg||!gG f.body then false
 else if f.init then decide (f.pkg≠fG)&&decide (f.name=fG)
 else fW f.name&&zm (child f.pkg f.name)
def wo(f g:File):Bool:=f.root == g.root&&decide (f.pkg=g.pkg)&&(f.init == g.init)&&decide (f.name=g.name)
def qU(l:List File)(f:File):Int:=xo (λ x=>wo x f) l
theorem Ni{p s:Str}(h:p.l.length+s.l.length<=1099511627775):gM (child p s):=by
 unfold child gM;split
 .omega
 .simp;omega
def oQ(l:List File)(k:Nat):Bool:=match l[k]? with | some f=>!(!z9 f||ez .lss (qU l f) k) | none=>true
def Qy(l:List File)(k:Nat):Bool:=(List.range k).all (oQ l)
theorem TA{l:List File}{x:File}(hx:l[k]?=some x)(h:Qy l k=true)(hf:(!z9 x||ez .lss (qU l x) k)=false):Qy l (k+1)=true:=by
 unfold Qy at*;rw[eu,List.all_append,h];simp only[List.all_cons,List.all_nil,Bool.and_true,bA,oQ,hx,hf];rfl
def yh(t:Tree):Bool:=Qy t.files t.files.length&&ez .leq t.files.length 12
theorem TS{t:Tree}{x:File}(hx:t.files[k]?=some x)(h:(!z9 x||ez .lss (qU t.files x) k)=true):yh t=false:=by
 have:Qy t.files t.files.length=false:=by
  unfold Qy;rw[ea];exact⟨k,aA.2 (zJ hx),by simp only[oQ,hx,h];decide⟩
 rw[yh,this];rfl
theorem TT{t:Tree}(h1:t.files.length<=k)(h2:k<=t.files.length)(h:Qy t.files k=true):ez .leq t.files.length 12=yh t:=by
 rw[yh,ew h1 h2,h];rfl
def rR(root:Int)(p:Str)(f:File):Bool:=f.root == root&&decide (f.pkg≠fG)&&under f.pkg p
def na(l:List File)(root:Int)(p:Str):Bool:=l.any (rR root p)||decide (p=fG)
def oR(l:List Int)(k:Nat):Bool:=match l[k]? with | some n=>!(!eR n 0 2||ez .geq (ri (l.take k) n) 0) | none=>true
def nc(l:List Int)(k:Nat):Bool:=(List.range k).all (oR l)
def xY(l:List Int):Bool:=nc l l.length
theorem R2{l:List Int}{x:Int}(hx:l[k]?=some x)(h:nc l k=true)(hf:(!eR x 0 2||ez .geq (ri (l.take k) x) 0)=false):nc l (k+1)=true:=by
 unfold nc at*;rw[eu,List.all_append,h];simp only[List.all_cons,List.all_nil,Bool.and_true,bA,oR,hx,hf];rfl
theorem TN{l:List Int}{x:Int}(hx:l[k]?=some x)(h:(!eR x 0 2||ez .geq (ri (l.take k) x) 0)=true):xY l=false:=by
 unfold xY nc;rw[ea];exact⟨k,aA.2 (zJ hx),by simp only[oR,hx,h];decide⟩
theorem TO{l:List Int}(h1:l.length<=k)(h2:k<=l.length)(h:nc l k=true):xY l=true:=by
 rw[xY,ew h1 h2,h]
def qH(l:List Str)(s:Str):Nat->Nat
 | 0=>0
 |k+1=>match l[k]? with
  | some y=>if ph .gtr y s=true then qH l s k else k+1
  | none=>k+1
def qa(l:List Str)(s:Str):List Str:=if jB l s=true then l else(l.take (qH l s l.length)++[s])++l.drop (qH l s l.length)
theorem Ov(hk:k<=l.length):∃ y,0<k->l[k - 1]?=some y:=by
 by_cases h:0<k
 .exact⟨l[k - 1]'(by omega),λ _=>aa (by omega)⟩
 .exact⟨default,λ h'=>absurd h' h⟩
theorem Bq(h:(ez .gtr (k:Int) 0&&b)=true):0<k:=by
 have:=oD (MO h);omega
theorem Fi(h:(ez .gtr (k:Int) 0 == true)=true):0<k:=by
 have:=oD (d9 h);omega
theorem Ox{s y:Str}(hy:0<k->l[k - 1]?=some y)(h:(ez .gtr (k:Int) 0&&ph .gtr y s)=true):qH l s (k - 1)=qH l s k:=by
 have hk:=Bq h;obtain⟨j,rfl⟩:∃ j,k=j+1:=⟨k - 1,by omega⟩;have:=hy hk;rw[dj] at this ⊢;rw[qH,this];simp at h;simp[h.2]
theorem Oy{s y:Str}(hy:0<k->l[k - 1]?=some y)(h:(ez .gtr (k:Int) 0&&ph .gtr y s)=false):qH l s k=k:=by
 cases k with
 | zero=>rfl
 |succ j=>have:=hy (by omega);rw[dj] at this;rw[qH,this];have h2:ez .gtr ((j+1:Nat):Int) 0=true:=ab (by omega);rw[h2,bA] at h;simp[h]
theorem OE(l:List Str)(s:Str):(qa l s).length<=l.length+1:=by
 unfold qa;split
 .omega
 .simp;omega
theorem OB(m l:List Str):(m.foldl qa l).length<=l.length+m.length:=by
 induction m generalizing l with
 | nil=>exact al _
 |cons x m ih=>have:=ih (qa l x);have:=OE l x;rw[bP,aW];omega
def ot:Spec:=⟨0,-1,[]⟩
theorem join_le(l:List Str)(k:Nat):(join (l.take k)).l.length<=jV l:=by
 have h:=Fy (l:=l.take k) (al _);rw[aM (al _)] at h;exact aS h (Xa l k)
theorem R0{x:Str}(hx:l[k]?=some x):x.l.length<=jV l:=by
 have h:=Xa l (k+1);rw[CS hx] at h;omega
theorem OF{s x:Str}(h:x∈qa l s):x∈l\/x=s:=by
 unfold qa at h;split at h
 .exact .inl h
 .simp only[bg,aH] at h;rcases h with(h | h) | h
  .exact .inl (dc h)
  .exact .inr h
  .exact .inl (List.mem_of_mem_drop h)
theorem Eu{s x:Str}(h:x∈nl s):x.l.length<=s.l.length+1:=by
 unfold nl Wx at h;rw[bi] at h;obtain⟨i,_,rfl⟩:=h;have:=join_le (zC s dot) (i+1);rwa[Xb] at this
def xx:List Value:=[.int .i64 0]
def iZ:Int:=0
theorem qf(M:Nat->Prop)(w:World):ey.rdc M w xx iZ:=⟨Z,trivial⟩
def oS:List Value:=[.bool false]
def Ct:Bool:=false
theorem DD(M:Nat->Prop)(w:World):ey.rdc M w oS Ct:=⟨Z,trivial⟩
def Wy:List Value:=[.string ⟨⟨[]⟩⟩]
def kl:Str:=⟨[]⟩
theorem lY(M:Nat->Prop)(w:World):ey.rdc M w Wy kl:=Qu
def jJ:List Value:=[.slice none 0 0]
theorem oU[ey α](M:Nat->Prop)(w:World):ey.rdc M w jJ ([]:List α):=yF
def IA:List Value:=[xx,Wy,xx,Wy,xx].flatten
def td:Stmt:=⟨iZ,kl,iZ,kl,iZ⟩
theorem nQ(M:Nat->Prop)(w:World):ey.rdc M w IA td:=Stmt.parts (qf M w) (lY M w) (qf M w) (lY M w) (qf M w)
def VT:List (List Value):=[xx,Wy,xx,Wy,xx]
def tD:List Value:=[xx,Wy,Wy,oS,xx,jJ].flatten
def vF:File:=⟨iZ,kl,kl,Ct,iZ,[]⟩
theorem JU(M:Nat->Prop)(w:World):ey.rdc M w tD vF:=File.parts (qf M w) (lY M w) (lY M w) (DD M w) (qf M w) (oU M w)
def KV:List (List Value):=[xx,Wy,Wy,oS,xx,jJ]
def pI:List Value:=[jJ].flatten
def jz:Tree:=⟨[]⟩
theorem xN(M:Nat->Prop)(w:World):ey.rdc M w pI jz:=Tree.parts (oU M w)
def Qz:List (List Value):=[jJ]
def Iz:List Value:=[xx,xx,jJ].flatten
def Wo:Spec:=⟨iZ,iZ,[]⟩
theorem nd(M:Nat->Prop)(w:World):ey.rdc M w Iz Wo:=Spec.parts (qf M w) (qf M w) (oU M w)
def KW:List (List Value):=[xx,xx,jJ]
def Ii:List Value:=[xx,Wy,xx,jJ].flatten
def HA:eT:=⟨iZ,kl,iZ,[]⟩
theorem Ap(M:Nat->Prop)(w:World):ey.rdc M w Ii HA:=eT.parts (qf M w) (lY M w) (qf M w) (oU M w)
def DB:List (List Value):=[xx,Wy,xx,jJ]
def CT:List Value:=[pI,xx,jJ].flatten
def xc:eK:=⟨jz,iZ,[]⟩
theorem jc(M:Nat->Prop)(w:World):ey.rdc M w CT xc:=eK.parts (xN M w) (qf M w) (oU M w)
def ZU:List (List Value):=[pI,xx,jJ]
def CW:List Value:=[jJ,xx,xx].flatten
def xb:fj:=⟨[],iZ,iZ⟩
theorem DE(M:Nat->Prop)(w:World):ey.rdc M w CW xb:=fj.parts (oU M w) (qf M w) (qf M w)
def VO:List (List Value):=[jJ,xx,xx]
def Uk:List Value:=[xx,Wy,oS,xx,xx,xx,xx,jJ].flatten
def Ud:eU:=⟨iZ,kl,Ct,iZ,iZ,iZ,iZ,[]⟩
theorem Ja(M:Nat->Prop)(w:World):ey.rdc M w Uk Ud:=eU.parts (qf M w) (lY M w) (DD M w) (qf M w) (qf M w) (qf M w) (qf M w) (oU M w)
def IX:List (List Value):=[xx,Wy,oS,xx,xx,xx,xx,jJ]
def CV:List Value:=[xx,xx].flatten
def tc:fu:=⟨iZ,iZ⟩
theorem nR(M:Nat->Prop)(w:World):ey.rdc M w CV tc:=fu.parts (qf M w) (qf M w)
def Ao:List (List Value):=[xx,xx]
def Ul:List Value:=[Wy,CV].flatten
def Ue:fI:=⟨kl,tc⟩
theorem KY(M:Nat->Prop)(w:World):ey.rdc M w Ul Ue:=fI.parts (lY M w) (nR M w)
def An:List (List Value):=[Wy,CV]
def DC:List (List Value):=[Wy,xx,jJ,oS,oS,jJ]
def VQ:List (List Value):=[xx,Wy]
def CU:List Value:=[xx,tD,xx,Wy].flatten
def tb:GAct:=⟨iZ,vF,iZ,kl⟩
theorem DF(M:Nat->Prop)(w:World):ey.rdc M w CU tb:=GAct.parts (qf M w) (JU M w) (qf M w) (lY M w)
section
variable{fn:Func}{p:Nat}
variable{α:Type}
theorem borrow[ey α]{look:Nat->Option Dt}{xs:List α}(ob:mg F M0 M Gs)(p:Nat)(hg:Gs[p]?=some (eA g))(h:eC M look q (eQ g e xs)):nx M M0 look q (dt xs):=
 λ w a hl=>JJ (h w a hl) (λ b _ hb=>ob.sub b hb) λ b hb=>(ob.at_ p b ((yJ hg b).2 hb)).2.2
theorem Sx.storeT[ey α]{t q:Nat}{xs r:List α}{i:Int}{y y0:α}(h:Sx F N M0 M Gs L O a w)(p:Nat)
     (hvl:eC M (λ s=>(L++eB O).lookup s) vo (dt y))  (hm:mi xs i y=some r)
  (ks:List Nat)  (qs:List Nat)  
  (next:∀ M' w',Sx F N M0 M' Gs L2 ((sb,p,eQ g e r)::O2) a w'->wpList P ops Q rest a w')(ho:o.op=.store t (.tmp q) vo:=by rfl)(hgd:o.guard=none:=by rfl)(hd:o.dst=none:=by rfl)(hg:Gs[p]?=some (eA g):=by rfl)(hpl:(L++eB O).lookup q=some (eY g (i.toNat*ey.size α) y0):=by rfl)(hsl:(L++eB O).lookup sb=some (eQ g e xs):=by rfl)(hk:ff ks L=some L2:=by rfl)(hq:fi L O qs p=some O2:=by rfl)(hdn:L2.lookup sb=none:=by rfl)(ht:fM P t (ey.agg α) (ey.size α)=true:=by kernel_rfl):wpList P ops Q (o::rest) a w:=by
 unfold mi at hm;split at hm
 .rename_i hi;injection hm with hm;subst hm;obtain⟨b,rfl,hpv,_⟩:=h.st.has q _ hpl;have hMb:=(h.ob.at_ p b ((yJ hg b).2 Z)).2.1;obtain⟨cells,hown,hrow,hb⟩:=Or.resolve_right (h.st.has sb _ hsl) (λ h=>by cases h.1);rcases hown.2 with⟨h1,h2⟩ | ⟨b',cap,cur,h1,_,h3,h4,h5,h6,h7⟩
  .omega
  have hbb:b'=b:=by rw[h1] at hb;injection hb
  subst hbb;have hy:=Wn (hvl w a λ s y hs=>h.st.has s y hs);have hcl:=ey.len hy;generalize hkk:i.toNat=k at*;have hb1:(k+1)*ey.size α<=xs.length*ey.size α:=aK _ hi.2;have hb2:xs.length*ey.size α<=cap*ey.size α:=aK _ h4;have hb3:(k+1)*ey.size α=k*ey.size α+ey.size α:=bY ..;have hcell:=hown.1;have hrun:=xI (off:=k*ey.size α) (by rw[hcl];exact ht) Z h3 (by omega) (ey.oneCell hy);generalize hcc:(a.eval vo).cells.toList=c at*;have hgr:w.grownBy (w.setRow b' (cur.toList.take (k*ey.size α)++c++cur.toList.drop (k*ey.size α+c.length)).toArray) _:=y8;refine av hgd λ K hK=>fb.wp (fb.mS (w':=w.setRow b' (cur.toList.take (k*ey.size α)++c++cur.toList.drop (k*ey.size α+c.length)).toArray) ?_ ?_)
  .unfold execOp;rw[ho];have hpv':a.eval (.tmp q)=.pointer _:=hpv;simp[Instr.storeAt,Instr.sureAddr,hpv',hrun]
  .rw[hd];have h1':=h.kr (G':=eA _) (YZ hg) (Grown.own hg hgr) (λ k (hk:some b'=some k)=>by injection hk with hk;subst hk;exact⟨.inl ((yJ hg b').2 Z),ay (xM h3) hgr.size⟩) hk hq;have hGs:Gs.set p (eA (some b'))=Gs:=by
    apply aZ;intro n;by_cases hn:p=n
    .subst hn;rw[aI (YZ hg),hg]
    .rw[aG hn]
   rw[hGs] at h1';refine hK _ _ (next _ _ (h1'.gu hdn ?_ λ k (hk:some b'=some k)=>(yJ hg k).2 hk));have hMM:∀ k,gp (some b') M k->M k:=λ k hk=>hk.elim id λ e=>by injection e with e;subst e;exact hMb
   have hrow':gQ (gp (some b') M) w (cells.take (k*ey.size α)++c++cells.drop (k*ey.size α+c.length)) (xs.set k y):=by
    refine wN (λ k _ hk=>hMM k hk) ?_;rw[List.set_eq_take_append_cons_drop,Ke hi.2,show xs.take k++y::xs.drop _=xs.take k++[y]++xs.drop (k+1) by simp,hcl,<-hb3];exact Ze (Ze (W7 k (by omega) hrow) (B9 hy)) (W6 _ hi.2 hrow)
   refine .inl ⟨_,⟨?_,.inr ⟨b',cap,_,by rw[bf];exact h1,aq _,ck w b' cur _ e _ h3,by rw[bf];exact h4,h5,?_,?_⟩⟩,wN (λ k _ hk=>hk.elim (λ h=>.inl h.1) .inr) (Xv hrow' hgr (.inl Z)),hb⟩
   .rw[bf];simp;omega
   .simp;omega
   .rw[bf];rw[<-h7];exact Hj (by have e1:cur.toList.length=cur.size:=aY;omega) (by rw[hcl];omega)
 .cases hm
theorem N5[ey α]{xs:List α}{y:List α}(p n:Nat)(hf:P.funcs[f]?=some fn)(hb:fn.body=some c)(hn:rs.length+1<=fn.ntmps)(hnb:W2 (zL 1 rs)=true)
  (h:∀ (M:Nat->Prop) (g:Option Nat) (w:World) (a:Act),Sx (eG.take w g) fn.ntmps M (gp g M) ((List.replicate n (eA none)).set p (eA g)) (zL 1 rs) [(0,p,eQ g e xs)] a w->c.wp P (bodyPost P fn (uy e M w g y)) a w) (hp:p<n:=by decide):pL P f e xs rs y:=by
 refine J' hf hb hn λ M g w a htip hm st=>h M g w a ?_
 have hlen:p<(List.replicate n (eA none)).length:=by simpa using hp
 have hown:∀ q b,zj ((List.replicate n _).set p (eA g)) q b ↔ q=p/\g=some b:=λ q b=>by
  by_cases hq:p=q
  .subst hq;rw[zf hlen];simp[eA]
  .rw[zq hq];exact⟨λ h=>(Qx h).elim,λ h=>(hq h.1.symm).elim⟩
 refine⟨st.env λ s x hx=>?_,⟨λ b hb=>.inl hb,λ q b hb=>?_,λ q r b hne h1 h2=>hne (((hown q b).1 h1).1.trans ((hown r b).1 h2).1.symm)⟩,Wl hnb,⟨λ b hb=>(hown p b).2 ⟨Z,hb⟩,trivial⟩⟩
 .have hk:∀ (i:Nat) (rs:List Dt) (s:Nat) (x:Dt),(zL i rs).lookup s=some x->i<=s:=λ i rs=>by
   induction rs generalizing i with
   | nil=>intro s x h;simp[zL] at h
   |cons y rs ih=>
    intro s x h;simp only[zL,af] at h;by_cases he:s=i
    .omega
    .have hb:(s == i)=false:=by simpa using he
     simp[hb] at h;have:=ih _ s x h;omega
  simp only[zL,af];rcases yw hx with h1 | ⟨_,h1⟩
  .have:=hk _ _ _ _ h1;have hb:(s == 0)=false:=by simpa using(by omega:¬ s=0)
   simp[hb];exact h1
  .simp only[eB,af,dL] at h1;cases hb:s == 0 with
   | true=>simp only[hb] at h1;exact h1
   | false=>simp only[hb] at h1;cases h1
 .obtain⟨rfl,hb'⟩:=(hown q b).1 hb;exact⟨(htip b hb').1,.inr hb',(htip b hb').2⟩
def uP(P:Program)(t:TypeId):Bool:=match P.underlying t with | some (.func _ _ _)=>true | _=>false
theorem OG(h:uP P t=true):∃ a b c,P.underlying t=some (.func a b c):=by
 unfold uP at h;split at h
 .exact⟨_,_,_,by assumption⟩
 .cases h
def uH(m n:Int):Option Int:=if n=0\/m.tdiv n < -9223372036854775808\/9223372036854775807<m.tdiv n then none else some (m.tdiv n)
def pv(m n:Int):Option Int:=if n=0 then none else some (m.tmod n)
section
variable{look:Nat->Option Dt}
theorem T6{x:Operand}{n:Int}(ho:o.op=.binOp .quo t x y t')(hx:eC M look x (dt m))(hy:eC M look y (dt n))(hm:uH m n=some r):eP P M look o (dt r):=
 zz λ a w _ hl=>⟨.int .i64 r,by
  have h1:=yq.1 (hx w a hl);have h2:=yq.1 (hy w a hl);unfold uH at hm;split at hm
  .cases hm
  .rename_i hc;injection hm with hm;have hw:=vz (m.tdiv n) (by omega);have h0:¬ n=0:=λ e=>hc (.inl e)
   unfold execOp;rw[ho];subst hm;simp[h1,h2,eqGuard,binOp,Op.intDiv,h0,hw],yq.2 Z⟩
theorem vC{x:Operand}{n:Int}(ho:o.op=.binOp .rem t x y t')(hx:eC M look x (dt m))(hy:eC M look y (dt n))(hm:pv m n=some r):eP P M look o (dt r):=
 zz λ a w _ hl=>⟨.int .i64 r,by
  have h1:=yq.1 (hx w a hl);have h2:=yq.1 (hy w a hl);unfold pv at hm;split at hm
  .cases hm
  .rename_i h0;injection hm with hm;unfold execOp;rw[ho];simp[h1,h2,eqGuard,binOp,Op.intDiv,h0,hm],yq.2 Z⟩
theorem oF{x:Operand}{n:Int}(ho:o.op=.call { callee:=.builtin .min,args:=#[x,y],argTypes:=ts })(hx:eC M look x (dt m))(hy:eC M look y (dt n)):eP P M look o (dt (if n<m then n else m)):=
 zz λ a w _ hl=>⟨.int .i64 _,by
  have h1:=yq.1 (hx w a hl);have h2:=yq.1 (hy w a hl);unfold execOp;rw[ho];simp[resolve,invoke,builtin,Builtin.min_,Builtin.min2,h1,h2],yq.2 Z⟩
end
end
def nA:Dt where
 rd _ _ _:=True
 own:=noB
 nb:=true
 nob _ _ h:=h
 stable _ _:=trivial
 weak _ _:=trivial
inductive RegL (P:Program) (M:Nat->Prop) (ops:Array Oper) (N:Nat) (S:List (List (Nat×Option Nat))) (L:Env) (D:List Dt) (s:Nat):Nat->List Oper->List (Nat×Dt)->Prop
 | nil {i:Nat}:RegL P M ops N S L D s i [] []
 | cons {i:Nat} {o:Oper} {rest:List Oper} {x:Dt} {xs:List (Nat×Dt)} {d:Nat} (hi:(i == s)=false) (hd:o.dst=some d) (hN:d<N) (hx:D[i]?=some x) (h:OpG P M ops N (Y7 (S.getD i []) L D) o x)
   (hr:RegL P M ops N S L D s (i+1) rest xs):RegL P M ops N S L D s i (o::rest) ((d,x)::xs)
 | late {i:Nat} {o:Oper} {rest:List Oper} {xs:List (Nat×Dt)} (hi:(i == s)=true) (hr:RegL P M ops N S L D s (i+1) rest xs):RegL P M ops N S L D s i (o::rest) ((N,nA)::xs)
section
variable{T:List (List Nat)}
theorem RegL.get:∀ {i0:Nat} {l:List Oper} {xs:List (Nat×Dt)},RegL P M ops N S L D s i0 l xs->
  l.length=xs.length/\∀ (n:Nat) (o:Oper),l[n]?=some o->i0+n≠s->∃ x d,xs[n]?=some (d,x)/\o.dst=some d/\d<N/\D[i0+n]?=some x/\OpG P M ops N (Y7 (S.getD (i0+n) []) L D) o x:=by
 intro i0 l xs h
 induction h with
 | nil=>exact⟨Z,λ n o h=>by simp at h⟩
 |cons hi hd hN hx h hr ih=>
  rename_i i o rest x xs d;refine⟨by simp[ih.1],λ n o' ho' hne=>?_⟩;cases n with
  |zero=>simp at ho';subst ho';exact⟨x,d,by simp,hd,hN,hx,h⟩
  |succ n=>simp at ho';obtain⟨x',d',h1,h2,h3,h4,h5⟩:=ih.2 n o' ho' (by omega);exact⟨x',d',by simpa using h1,h2,h3,by rw[<-h4];congr 1;omega,by rw[show i+(n+1)=i+1+n by omega];exact h5⟩
 |late hi hr ih=>
  rename_i i o rest xs;refine⟨by simp[ih.1],λ n o' ho' hne=>?_⟩;cases n with
  | zero=>exact absurd (by simpa using hi) hne
  |succ n=>simp at ho';obtain⟨x',d',h1,h2,h3,h4,h5⟩:=ih.2 n o' ho' (by omega);exact⟨x',d',by simpa using h1,h2,h3,by rw[<-h4];congr 1;omega,by rw[show i+(n+1)=i+1+n by omega];exact h5⟩
section
variable{xs:List (Nat×Dt)}
theorem lc(hh:fH o N=some d)(hi:(i == s)=false)(hx:D[i]?=some x)(h:eP P M (Y7 (S.getD i []) L D) o x)(hr:RegL P M ops N S L D s (i+1) rest xs):RegL P M ops N S L D s i (o::rest) ((d,x)::xs):=
 .cons hi (zK hh).2.1 (zK hh).2.2 hx (.plain (zK hh).1 h) hr
theorem ll(hi:(i == s)=true)(hr:RegL P M ops N S L D s (i+1) rest xs):RegL P M ops N S L D s i (o::rest) ((N,nA)::xs):=.late hi hr
end
theorem Rs(hx:x.nb=true)(h:x.rd M w v)(hg:Grown G w w')(hGM:∀ b,G b->M b):x.rd M w' v:=
 x.stable h λ n hn hm=>hg.block n hn λ e=>hm.elim (λ h=>h (hGM n e)) λ h=>x.nob hx n h
end
section
def Nk(ops:Array Oper)(k:Nat)(O:List (Nat×Nat×Dt)):Bool:=O.all λ q=>(List.range k).all λ i=>xK ops i != some q.1
end
section
variable{f:Nat}
theorem Oper.AM(hK:∀ a w,K a w->K' a w)(hL:LetsOut Q->LetsOut Q')(h:o.wp P a w K Q)(hQ:∀ c a w,Q (.panic c) a w->Q' (.panic c) a w:=by exact λ _ _ _ h=>h):o.wp P a w K' Q':=by
 unfold Oper.wp at*;generalize (execOp a.eval o).run P w=r at*;cases r with
 |halt x w'=>cases x <;> simp only[Oper.upon] at h ⊢ <;> first | exact hQ _ _ _ h | exact h
 |ok n w'=>
  cases n <;> simp only[Oper.upon] at h ⊢ <;> first
   | exact hK _ _ h
   | exact h
   | (
     refine Calls.mono h λ e w'' he=>?_
     cases e <;> simp only at he ⊢ <;> first
      | exact hK _ _ he
      | exact hQ _ _ _ he
      | exact hL he)
   | (exact Rows.mono h λ v w'' he=>hK _ _ he)
theorem Sx.drew(h:Sx F N M0 M Gs L O a w){n:Nat}:Sx F N M0 M Gs L O a { w with drawn:=n }:=by
 have he:fy w { w with drawn:=n }:=fy.drawn w _;exact⟨⟨F.ext h.st.fr he,h.st.size,h.st.defers,h.st.mok,λ s x hs=>x.ext (h.st.has s x hs) he⟩,h.ob,h.no,h.ow⟩
end
section
variable{α:Type}[ey α]
def Ei(P:Program)(f:FuncId)(e:TypeId)(xs ys:List α):Prop:=
 ∀
  (M0:Nat->Prop) (g:Option Nat) (w:World) (v:Value),(∀ b,gp g M0 b->b<w.heap.size)->(∀ b,g=some b->¬ M0 b)->(eQ g e xs).rd (gp g M0) w v->
  Calls P f #[v] w (λ en w'=>∃ u,en=.returned u/\w.grownBy w' g/\(xs=[]->w'=w/\ys=[])/\(eQ g e ys).rd (gp g M0) w' v)
theorem Tr{xs:List α}(h1:(eQ g e xs).rd M1 w v1)(h2:(eQ g e xs).rd M2 w v2)(hne:xs≠[]):v1=v2:=by
 have key:∀ {M:Nat->Prop} {v:Value},(eQ g e xs).rd M w v->∃ b cap cur,g=some b/\v=.slice (some ⟨b,0,none⟩) xs.length cap/\w.heap[b]?=some (.cells cur e (0,0))/\cur.size=cap*ey.size α:=by
  intro M v h;rcases h with⟨cells,hown,hrow,hb⟩ | ⟨_,hx,_⟩
  .rcases hown.2 with⟨_,h2⟩ | ⟨b,cap,cur,h1,h2,h3,h4,h5,h6,h7⟩
   .exact absurd (au h2) hne
   .exact⟨b,cap,cur,by rw[<-hb,h1];rfl,h1,h3,h6⟩
  .exact absurd hx hne
 obtain⟨b,cap,cur,hg,hv,hh,hs⟩:=key h1;obtain⟨b2,cap2,cur2,hg2,hv2,hh2,hs2⟩:=key h2;rw[hg] at hg2;injection hg2 with hg2;subst hg2;rw[hh] at hh2;injection hh2 with hh2;injection hh2 with hh2;subst hh2;have hp:=ey.pos (α:=α);have:=Nat.eq_of_mul_eq_mul_right hp (hs.symm.trans hs2);rw[hv,hv2,this]
section
theorem Sx.Lr{xs ys:List α}(h:Sx F N M0 M Gs L O a w)(p:Nat)(hh:fH o N=some d)
  (ho:o.op=.call { callee:=.value (.func f),args:=#[.tmp s],argTypes:=ts }) (hf:gb P f=true) (hs:(L++eB O).lookup s=some (eQ g e xs)) (hsb:(L++eB O).lookup sb=some (eQ g e xs)) (hg:Gs[p]?=some (eA g)) (hfn:Ei P f e xs ys)
  (ks:List Nat) (hk:ff ks L=some L2) (qs:List Nat) (hq:fi L O qs p=some O2) (hdn:L2.lookup sb=none) (hdd:L2.lookup d=none/\(eB O2).lookup d=none/\sb≠d)
  (next:∀ M' a' w',Sx F N M0 M' Gs L2 ((sb,p,eQ g e ys)::O2) a' w'->wpList P ops Q rest a' w'):wpList P ops Q (o::rest) a w:=by
 obtain⟨hgd,hd,hN⟩:=zK hh;have hM:∀ k,gp g (λ b=>M b/\g≠some b) k ↔ M k:=λ k=>by
  refine⟨λ hk=>hk.elim (λ h=>h.1) λ e=>(h.ob.at_ p k ((yJ hg k).2 e)).2.1,λ hk=>?_⟩;by_cases e:g=some k
  .exact .inr e
  .exact .inl ⟨hk,e⟩
 have hGs:Gs.set p (eA g)=Gs:=by
  apply aZ;intro n;by_cases hn:p=n
  .subst hn;rw[aI (YZ hg),hg]
  .rw[aG hn]
 refine av hgd λ K hK=>fb.wp (fb.mK (f:=f) (args:=#[a.eval (.tmp s)]) (w':=w) ?_ ?_)
 .unfold execOp;rw[ho];have e:a.eval (.func f)=.func _ #[] #[]:=rfl;simp[resolve,e,Deferred.ofValue,invoke,xq hf]
 .refine(hfn (λ b=>M b/\g≠some b) g w _ (λ b hb=>h.st.mok b ((hM b).1 hb)) (λ b hb hm=>hm.2 hb) ((eQ g e xs).weak (h.st.has s _ hs) λ k _ hk=>(hM k).1 hk)).mono λ en w' ⟨u,he,hgr,hnil,hv'⟩=>⟨u,he,?_⟩
  rw[hd];have h1:=h.kr (G':=eA g) (YZ hg) (Grown.own hg hgr) (λ b hb=>⟨.inl ((yJ hg b).2 hb),ay (h.st.mok b (h.ob.at_ p b ((yJ hg b).2 hb)).2.1) hgr.size⟩) hk hq;rw[hGs] at h1;have hsbv:(eQ g e ys).rd (λ b=>(M b/\¬ zj Gs p b)\/eA g b) w' (Act.at a sb):=by
   by_cases hx:xs=[]
   .obtain⟨rfl,rfl⟩:=hnil hx;subst hx;exact(eQ g e []).weak (h.st.has sb _ hsb) λ k _ hk=>hk.elim (λ h=>h.1) λ hk=>(h.ob.at_ p k ((yJ hg k).2 hk)).2.1
   .rw[<-Tr (h.st.has s _ hs) (h.st.has sb _ hsb) hx];exact(eQ g e ys).weak hv' λ k _ hk=>hk.imp (λ h=>⟨h.1,λ e=>h.2 ((yJ hg k).2 e)⟩) _root_.id
  have h2:=h1.gu hdn hsbv λ b hb=>(yJ hg b).2 hb
  refine hK _ _ (next _ _ _ ⟨⟨h2.st.fr,by rw[Act.nZ];exact h2.st.size,by rw[Act.put_defers];exact h2.st.defers,h2.st.mok,λ s' x hx=>?_⟩,h2.ob,h2.no,h2.ow⟩);have hne:s'≠d:=by
   intro e;subst e;rcases yw hx with h3 | ⟨_,h3⟩
   .rw[hdd.1] at h3;cases h3
   .simp only[eB,af] at h3;have hb:(s' == sb)=false:=by simpa using λ e:s'=sb=>hdd.2.2 e.symm
    simp[hb] at h3;rw[hdd.2.1] at h3;cases h3
  rw[Act.mD (λ e=>hne (by injection e with e;exact e.symm))];exact h2.st.has s' x hx
end
end
theorem vZ{M:Nat->Prop}{w:World}:∀ {cells:List Value} {xs:List Str},gQ M w cells xs->cells=(xs.map (·.l)).map encStr/\∀ x∈xs,x.l.length<=maxLen
 | cells,[],h=>⟨h,λ _ h=>by cases h⟩
 |cells,x::xs,⟨c,r,h,h1,h2⟩=>by
  obtain⟨e1,e2⟩:=vZ h2;refine⟨by rw[h,h1.1,e1];rfl,λ y hy=>?_⟩;rcases aj.1 hy with rfl | hy
  .exact h1.2
  .exact e2 y hy
theorem Cl{M:Nat->Prop}{w:World}:∀ {xs:List Str},(∀ x∈xs,x.l.length<=maxLen)->gQ M w ((xs.map (·.l)).map encStr) xs
 | [],_=>rfl
 | x::xs,h=>⟨[ik x],((xs.map (·.l)).map encStr),Z,⟨Z,h x (by simp)⟩,Cl λ y hy=>h y (by simp[hy])⟩
def lZ(xs:List Str):List Str:=((xs.map (·.l)).mergeSort λ x y=>decide (x<=y)).map Str.mk
def Xc(xs:List Str):List Str:=(Lib.compact (xs.map (·.l))).map Str.mk
theorem map_mk(l:List (List UInt8)):(l.map Str.mk).map (·.l)=l:=by
 rw[cJ];exact List.map_id l
theorem Dv(xs:List Str):(lZ xs).length=xs.length:=by simp[lZ]
theorem Hb:lZ []=[]:=by simp[lZ]
theorem vr(xs:List Str):(lZ xs).map (·.l)=(xs.map (·.l)).mergeSort λ x y=>decide (x<=y):=map_mk _
theorem SG{xs:List Str}{x:Str}:x∈lZ xs ↔ x∈xs:=by
 unfold lZ;simp;constructor
 .rintro ⟨l,⟨y,hy,rfl⟩,rfl⟩;exact hy
 .intro h;exact⟨x.l,⟨x,h,Z⟩,Z⟩
theorem Nr{l:List (List UInt8)}{x:List UInt8}(h:x∈Lib.compact l):x∈l:=by
 unfold Lib.compact Lib.compactUpTo at h;obtain⟨j,hj,rfl⟩:=bi.1 h;have hj':j<l.length:=by
  have:=(cQ.1 hj).1;simpa using this
 simp[hj']
theorem Nq{xs:List Str}{x:Str}(h:x∈Xc xs):x∈xs:=by
 unfold Xc at h;obtain⟨l,hl,rfl⟩:=bi.1 h;obtain⟨y,hy,rfl⟩:=bi.1 (Nr hl);exact hy
section
variable{T:List (List Nat)}
section
variable{A:List Nat}{xs:List (Nat×Dt)}
end
end
section
end
section
variable{α β γ:Type}[ey α][ey β][ey γ][DecidableEq α][DecidableEq β][DecidableEq γ]
variable{look:Nat->Option Dt}
end
class gE (α:Type) [ey α] (i:Nat) (β:outParam Type) [outParam (ey β)] (get:outParam (α->β)) (off:outParam Nat):Prop where
 h:eM get off
instance:gE Stmt 0 Int (λ x=>x.kind) 0:=⟨Stmt.gD⟩
instance:gE Stmt 1 Str (λ x=>x.module) 1:=⟨Stmt.gA⟩
instance:gE Stmt 2 Int (λ x=>x.level) 2:=⟨Stmt.iv⟩
instance:gE Stmt 3 Str (λ x=>x.name) 3:=⟨Stmt.iM⟩
instance:gE Stmt 4 Int (λ x=>x.value) 4:=⟨Stmt.ls⟩
instance:gE File 0 Int (λ x=>x.root) 0:=⟨File.gD⟩
instance:gE File 1 Str (λ x=>x.pkg) 1:=⟨File.gA⟩
instance:gE File 2 Str (λ x=>x.name) 2:=⟨File.iv⟩
instance:gE File 3 Bool (λ x=>x.init) 3:=⟨File.iM⟩
instance:gE File 4 Int (λ x=>x.stamp) 4:=⟨File.ls⟩
instance:gE File 5 (List Stmt) (λ x=>x.body) 5:=⟨File.oY⟩
instance:gE Tree 0 (List File) (λ x=>x.files) 0:=⟨Tree.gD⟩
instance:gE Spec 0 Int (λ x=>x.kind) 0:=⟨Spec.gD⟩
instance:gE Spec 1 Int (λ x=>x.file) 1:=⟨Spec.gA⟩
instance:gE Spec 2 (List Int) (λ x=>x.roots) 2:=⟨Spec.iv⟩
instance:gE eT 0 Int (λ x=>x.root) 0:=⟨eT.gD⟩
instance:gE eT 1 Str (λ x=>x.pkg) 1:=⟨eT.gA⟩
instance:gE eT 2 Int (λ x=>x.stamp) 2:=⟨eT.iv⟩
instance:gE eT 3 (List Str) (λ x=>x.names) 3:=⟨eT.iM⟩
instance:gE eK 0 Tree (λ x=>x.tree) 0:=⟨eK.gD⟩
instance:gE eK 1 Int (λ x=>x.clock) 1:=⟨eK.gA⟩
instance:gE eK 2 (List eT) (λ x=>x.dirs) 2:=⟨eK.iv⟩
instance:gE eU 0 Int (λ x=>x.root) 0:=⟨eU.gD⟩
instance:gE eU 1 Str (λ x=>x.module) 1:=⟨eU.gA⟩
instance:gE eU 2 Bool (λ x=>x.init) 2:=⟨eU.iv⟩
instance:gE eU 3 Int (λ x=>x.mode) 3:=⟨eU.iM⟩
instance:gE eU 4 Int (λ x=>x.stamp) 4:=⟨eU.ls⟩
instance:gE eU 5 Int (λ x=>x.size) 5:=⟨eU.oY⟩
instance:gE eU 6 Int (λ x=>x.hash) 6:=⟨eU.Lm⟩
instance:gE eU 7 (List Stmt) (λ x=>x.body) 7:=⟨eU.Ln⟩
instance:gE fu 0 Int (λ x=>x.kind) 0:=⟨fu.gD⟩
instance:gE fu 1 Int (λ x=>x.num) 1:=⟨fu.gA⟩
instance:gE fI 0 Str (λ x=>x.name) 0:=⟨fI.gD⟩
instance:gE fI 1 fu (λ x=>x.value) 1:=⟨fI.gA⟩
instance:gE eZ 0 Str (λ x=>x.name) 0:=⟨eZ.gD⟩
instance:gE eZ 1 Int (λ x=>x.kind) 1:=⟨eZ.gA⟩
instance:gE eZ 3 Bool (λ x=>x.cached) 3:=⟨eZ.iM⟩
instance:gE eZ 5 (List fI) (λ x=>x.attrs) 5:=⟨eZ.oY⟩
instance:gE GAct 0 Int (λ x=>x.kind) 0:=⟨GAct.gD⟩
instance:gE GAct 1 File (λ x=>x.file) 1:=⟨GAct.gA⟩
instance:gE GAct 2 Int (λ x=>x.index) 7:=⟨GAct.iv⟩
instance:gE GAct 3 Str (λ x=>x.name) 8:=⟨GAct.iM⟩
section
variable{fn:Func}{l:List Oper}{p:Nat}
variable{α β:Type}
theorem rE{look:Nat->Option Dt}{y:Dt}(ho:o.op=.call { callee:=.value (.func f),args:=A,argTypes:=ts })(hx:ArgsR M look A.toList xs)(h:Fn P f xs y)(hf:gb P f=true:=by kernel_rfl):eP P M look o y:=
 zy (by rw[ho]) (hf:=hf) hx h
theorem Ql{look:Nat->Option Dt}[ey α][ey β]{p:Operand}{f:Nat}{x:α}{get:α->β}(ho:o.op=.fieldAddr t p f)(hp:eC M look p (eX x))[c:gE α f β get off]{z:Dt}(e:z=eX (get x):=by rfl)(ht:fR P t f off=true:=by kernel_rfl):eP P M look o z:=e ▸ zI c.h ho (ht:=ht) hp
theorem uA{look:Nat->Option Dt}{l:List Operand}(h:ArgsR M look l xs:=by repeat (first | exact .nil | apply ArgsR.cons (tp Z) | apply ArgsR.cons cI | apply ArgsR.cons cB | apply ArgsR.cons (yM) | apply ArgsR.cons wg | apply ArgsR.cons (Q8))):ArgsR M look l xs:=h
class ly (α:Type) [ey α] (op:BinOp) (f:outParam (α->α->Bool)):Prop where
 h:∀ {P:Program} {M:Nat->Prop} {look:Nat->Option Dt} {o:Oper} {t t':TypeId} {x y:Operand} {m n:α},o.op=.binOp op t x y t'->eC M look x (dt m)->eC M look y (dt n)->eP P M look o (dt (f m n))
instance:ly Int .eql (ez .eql):=⟨λ a b c=>gU a b c⟩
instance:ly Int .neq (ez .neq):=⟨λ a b c=>gU a b c⟩
instance:ly Int .lss (ez .lss):=⟨λ a b c=>gU a b c⟩
instance:ly Int .leq (ez .leq):=⟨λ a b c=>gU a b c⟩
instance:ly Int .gtr (ez .gtr):=⟨λ a b c=>gU a b c⟩
instance:ly Int .geq (ez .geq):=⟨λ a b c=>gU a b c⟩
instance:ly Str .eql (λ m n=>decide (m=n)):=⟨λ a b c=>YY a b c⟩
instance:ly Str .neq (λ m n=>decide (m≠n)):=⟨λ a b c=>rP a b c⟩
theorem lV{look:Nat->Option Dt}[ey α]{f:α->α->Bool}{r:Operand}{m n:α}(ho:o.op=.binOp op t q r t')(hx:eC M look q (dt m))(hy:eC M look r (dt n))[c:ly α op f]{z:Dt}(e:z=dt (f m n):=by rfl):eP P M look o z:=e ▸ c.h ho hx hy
class AP (α:Type) [ey α] (k:outParam (Program->TypeId->Bool)) (f:outParam (α->Nat)):Prop where
 h:∀ {P:Program} {M:Nat->Prop} {look:Nat->Option Dt} {o:Oper} {t:TypeId} {s:Operand} {x:α},o.op=.call { callee:=.builtin .len,args:=#[s],argTypes:=#[t] }->k P t=true->eC M look s (dt x)->eP P M look o (dt (f x:Int))
instance:AP Str mq (λ x=>x.l.length):=⟨λ a b c=>rG a (ht:=b) c⟩
instance {α:Type} [ey α]:AP (List α) lL (λ x=>x.length):=⟨λ a b c=>RL a b c⟩
theorem rq{look:Nat->Option Dt}[ey α]{k:Program->TypeId->Bool}{f:α->Nat}{m:α}(ho:o.op=.call { callee:=.builtin .len,args:=#[q],argTypes:=#[t] })(hx:eC M look q (dt m))[c:AP α k f](ht:k P t=true:=by kernel_rfl):eP P M look o (dt (f m:Int)):=c.h ho ht hx
theorem Gl{look:Nat->Option Dt}(h:eP P M look o x:=by
  first
   | exact oM Z (tp Z)
   | exact oA Z (tp Z)
   | exact oA Z cI
   | exact ZQ Z (tp Z)
   | exact lV Z (tp Z) (tp Z)
   | exact lV Z (tp Z) cI
   | exact zG Z (tp Z)
   | exact oA Z cB
   | exact oM Z cI
   | exact oM Z cB
   | exact Ql Z (tp Z)
   | exact rE Z uA (by assumption)
   | exact rq Z (tp Z)
   | exact lX Z (tp Z) cI (by assumption)
   | exact lX Z (tp Z) (tp Z) (by assumption)
   | exact lX Z cI (tp Z) (by assumption)
   | exact xIdx Z (tp Z) (tp Z) (by assumption)
   | exact lV Z (tp Z) (yM)
   | exact oA Z (yM)
   | exact oM Z (yM)
   | exact sW Z (tp Z) Z
   | exact nH Z (tp Z) (tp Z) (by assumption)
   | exact nI Z (tp Z) (tp Z) (by assumption)
   | exact pB Z (tp Z) (tp Z) (by assumption)
   | exact oB Z (tp Z) (tp Z) (by assumption)
   | exact JT Z (tp Z)
   | exact xd Z (tp Z) (tp Z)
   | exact qe Z (tp Z) (tp Z)):eP P M look o x:=h
theorem fc{look:Nat->Option Dt}{y:Dt}(h:eC M look q y:=by first | exact tp Z | exact cI | exact zk (by assumption) Z | exact cB | exact yM | exact Q8):eC M look q y:=h
theorem AY{look:Nat->Option Dt}{l:List Operand}(h:ArgsR M look l xs:=by repeat (first | exact .nil | apply ArgsR.cons (tp Z) | apply ArgsR.cons (zk (by assumption) Z) | apply ArgsR.cons cI | apply ArgsR.cons cB | apply ArgsR.cons (yM) | apply ArgsR.cons wg | apply ArgsR.cons (Q8))):ArgsR M look l xs:=h
theorem oK{look:Nat->Option Dt}{y:Dt}(h:Fn P f xs y)(ho:o.op=.call { callee:=.value (.func f),args:=A,argTypes:=ts }:=by rfl)(hf:gb P f=true:=by kernel_rfl)(hx:ArgsR M look A.toList xs:=by exact AY):eP P M look o y:=rE ho (hf:=hf) hx h
theorem Gm{look:Nat->Option Dt}(h:eP P M look o x:=by
  first
   | exact oM Z fc
   | exact zG Z fc
   | exact Ql Z fc
   | exact ZQ Z fc
   | exact gU Z fc fc
   | exact YY Z fc fc
   | exact rP Z fc fc
   | exact rq Z fc
   | exact oA Z fc):eP P M look o x:=h
theorem mh{e:Option α}{f:α->Option β}{r:β}{C:α->Prop}(h:e.bind f=some r)(c:∀ {x:α},e=some x->C x):∃ x,C x/\f x=some r:=by
 have⟨x,h1,h2⟩:=bs h;exact⟨x,c h1,h2⟩
theorem gv(h:Seg P M ops N L l L':=by repeat (first | exact .nil | apply sc rfl Gl | apply sg rfl rfl (λ _=>Gm))):Seg P M ops N L l L':=h
theorem Seg.app(h:Seg P M ops N L l1 L1)(k:Seg P M ops N L1 l2 L2):Seg P M ops N L (l1++l2) L2:=by
 induction h with
 | nil=>exact k
 | cons hd hN h hr ih=>exact .cons hd hN h (ih k)
theorem sp(n:Nat)(h:Seg P M ops N L (l.take n) L1:=by exact gv)(r:Seg P M ops N L1 (l.drop n) L'):Seg P M ops N L l L':=by
 have:=h.app r;rwa[aV] at this
theorem iB(h:gf Gs O:=by repeat (first | exact trivial | refine⟨λ _ h=>h,?_⟩ | refine⟨λ _ h=>(by cases h),?_⟩)):gf Gs O:=h
theorem Sx.fin(h:Sx F N M0 M Gs L O a w)(hk:ff (L2.map (·.1)) (L++eB O)=some L2:=by rfl)(hq:gy (O2.map λ q=>(q.1,q.2.1)) (L++eB O)=some O2:=by rfl)(hw:gf Gs O2:=by exact iB):Sx F N M0 M Gs L2 O2 a w:=h.um _ hk _ hq hw
theorem fx{T:Prop}(h:T:=by(repeat (apply Exists.intro));exact Sx.fin (by assumption)):T:=h
theorem fl{σ:Type}{x:σ⊕β}{s:σ}{T:σ->Prop}(h:some (Sum.inl s)=some x)(k:T s:=by exact fx):∃ s',x=.inl s'/\T s':=⟨s,(bV h).symm,k⟩
theorem Sx.iR(h:Sx F N M0 M Gs L O a w){id:Nat}{c2:Code}(ks:List Nat)(qp:List (Nat×Nat))(hQ:∀{a' w'},Sx F N M0 M Gs L2 O2 a' w'->c2.wp P Q a' w')
  (hs:Seg P M ops N (L++eB O) ops.toList L':=by exact gv) (hk:ff ks L'=some L2:=by rfl) (hq:gy qp L'=some O2:=by rfl) (hw:gf Gs O2:=by exact iB):(Code.seq (Code.region id ops false) c2).wp P Q a w:=
 h.sq hs ks hk qp hq hw (λ _ _ h_=>hQ h_)
theorem Sx.kK(h:Sx F N M0 M Gs L O a w){id:Nat}{c2:Code}(ks:List Nat)(hQ:∀{a' w'},Sx F N M0 M Gs L2 [] a' w'->c2.wp P Q a' w')
  (hs:Seg P M ops N (L++eB O) ops.toList L':=by exact gv) (hk:ff ks L'=some L2:=by rfl):(Code.seq (Code.region id ops false) c2).wp P Q a w:=
 h.D8 hs ks hk (λ _ _ h_=>hQ h_)
theorem Sx.lK(h:Sx F N M0 M Gs L O a w){id:Nat}(ks:List Nat)(qp:List (Nat×Nat))(hQ:∀{a' w'},Sx F N M0 M Gs L2 O2 a' w'->Q .normal a' w')
  (hs:Seg P M ops N (L++eB O) ops.toList L':=by exact gv) (hk:ff ks L'=some L2:=by rfl) (hq:gy qp L'=some O2:=by rfl) (hw:gf Gs O2:=by exact iB):(Code.region id ops false).wp P Q a w:=
 h.rg hs ks hk qp hq hw (λ _ _ h_=>hQ h_)
theorem Sx.segA(h:Sx F N M0 M Gs L O a w)(n:Nat)(ks:List Nat)(qp:List (Nat×Nat))(hQ:∀{a' w'},Sx F N M0 M Gs L2 O2 a' w'->wpList P ops Q (l.drop n) a' w')
  (hs:Seg P M ops N (L++eB O) (l.take n) L':=by exact gv) (hk:ff ks L'=some L2:=by rfl) (hq:gy qp L'=some O2:=by rfl) (hw:gf Gs O2:=by exact iB):wpList P ops Q l a w:=
 h.seg n hs ks hk qp hq hw (λ _ _ h_=>hQ h_)
theorem Sx.kL(h:Sx F N M0 M Gs L O a w){id:Nat}{c2:Code}(hs:Seg P M ops N (L++eB O) ops.toList L')(ks:List Nat)(qp:List (Nat×Nat))(hQ:∀{a' w'},Sx F N M0 M Gs L2 O2 a' w'->c2.wp P Q a' w')
  (hk:ff ks L'=some L2:=by rfl) (hq:gy qp L'=some O2:=by rfl) (hw:gf Gs O2:=by exact iB):(Code.seq (Code.region id ops false) c2).wp P Q a w:=
 h.sq hs ks hk qp hq hw (λ _ _ h_=>hQ h_)
theorem Sx.uo(h:Sx F N M0 M Gs L O a w){id:Nat}{c2:Code}(hs:Seg P M ops N (L++eB O) ops.toList L')(ks:List Nat)(hQ:∀ a' w',Sx F N M0 M Gs L2 [] a' w'->c2.wp P Q a' w')
  (hk:ff ks L'=some L2:=by rfl):(Code.seq (Code.region id ops false) c2).wp P Q a w:=
 h.D8 hs ks hk hQ
theorem Sx.hU(h:Sx F N M0 M Gs L O a w){id:Nat}(hs:Seg P M ops N (L++eB O) ops.toList L')(ks:List Nat)(qp:List (Nat×Nat))(hQ:∀{a' w'},Sx F N M0 M Gs L2 O2 a' w'->Q .normal a' w')
  (hk:ff ks L'=some L2:=by rfl) (hq:gy qp L'=some O2:=by rfl) (hw:gf Gs O2:=by exact iB):(Code.region id ops false).wp P Q a w:=
 h.rg hs ks hk qp hq hw (λ _ _ h_=>hQ h_)
theorem Sx.uh(h:Sx F N M0 M Gs L O a w){id:Nat}(hs:Seg P M ops N (L++eB O) ops.toList L')(ks:List Nat)(hQ:∀ a' w',Sx F N M0 M Gs L2 [] a' w'->Q .normal a' w')
  (hk:ff ks L'=some L2:=by rfl):(Code.region id ops false).wp P Q a w:=
 h.LJ hs ks hk hQ
theorem Sx.fN(h:Sx F N M0 M Gs L O a w)(n:Nat)(hs:Seg P M ops N (L++eB O) (l.take n) L')(ks:List Nat)(qp:List (Nat×Nat))(hQ:∀{a' w'},Sx F N M0 M Gs L2 O2 a' w'->wpList P ops Q (l.drop n) a' w')
  (hk:ff ks L'=some L2:=by rfl) (hq:gy qp L'=some O2:=by rfl) (hw:gf Gs O2:=by exact iB):wpList P ops Q l a w:=
 h.seg n hs ks hk qp hq hw (λ _ _ h_=>hQ h_)
def pz:List Nat->Env->Option Env
 | [],_=>some []
 |k::ks,L=>match L.lookup k with
  |some x=>match pz ks L with
   | some r=>some ((k,x)::r)
   | none=>none
  | none=>none
theorem Af{L:Env}:∀ {ks:List Nat} {L2:Env},pz ks L=some L2->Pick (λ _=>True) L L2
 | [],L2,h=>by simp[pz] at h;subst h;exact .nil
 |k::ks,L2,h=>by
  unfold pz at h;split at h
  .rename_i x hx;split at h
   .rename_i r hr;injection h with h;subst h;exact .cons hx trivial (Af hr)
   .cases h
  .cases h
theorem pT(ks:List Nat)(h:pz ks L=some L2:=by rfl):Pick (λ _=>True) L L2:=Af h
theorem zp(hst:St F N M L a w){id:Nat}(ks:List Nat)(h:∀ a' w',fy w w'->St F N M L2 a' w'->Q .normal a' w')(hs:Seg P M ops N L ops.toList L':=by exact gv)(hp:pz ks L'=some L2:=by rfl):(Code.region id ops false).wp P Q a w:=
 I9 hst hs (Af hp) h
theorem zr(hst:St F N M L a w){id:Nat}(hs:Seg P M ops N L ops.toList L')(ks:List Nat)(h:∀ a' w',fy w w'->St F N M L2 a' w'->Q .normal a' w')(hp:pz ks L'=some L2:=by rfl):(Code.region id ops false).wp P Q a w:=
 I9 hst hs (Af hp) h
end
attribute [local irreducible] eP eC
def wq(P:Program):Code->(Exit->Act->World->Prop)->Act->World->Prop
 | .skip,Q=>Q .normal
 | .exit i,Q=>Q (.exit i)
 | .ret,Q=>Q .ret
 | .seq x y,Q=>wq P x (Exit.then (wq P y Q) Q)
 | .block i c,Q=>wq P c (Exit.inBlock i Q)
 | c,Q=>λ a w=>c.wp P Q a w
theorem gj{P:Program}:∀ {c:Code} {Q:Exit->Act->World->Prop} {a:Act} {w:World},wq P c Q a w->c.wp P Q a w
 | .skip,_,_,_,h=>az h
 | .exit _,_,_,_,h=>ch h
 | .ret,_,_,_,h=>wp_ret h
 |.seq _ _,_,_,_,h=>Kc (bW (λ e a' w' q=>by
  cases e with
  | normal=>exact gj q
  | _=>exact q) (gj h))
 | .block _ _,_,_,_,h=>aX (gj h)
 | .region ..,_,_,_,h=>h
 | .cond ..,_,_,_,h=>h
 | .loop _,_,_,_,h=>h
 | .rangeFunc ..,_,_,_,h=>h
 | .scope _,_,_,_,h=>h
 | .label _,_,_,_,h=>h
 | .goto _,_,_,_,h=>h
 | .refuse _,_,_,_,h=>h
theorem vy{P:Program}:∀ {c:Code} {Q Q':Exit->Act->World->Prop} {a:Act} {w:World},(∀ e a w,Q e a w->Q' e a w)->wq P c Q a w->wq P c Q' a w
 | .skip,_,_,_,_,k,h=>k _ _ _ h
 | .exit _,_,_,_,_,k,h=>k _ _ _ h
 | .ret,_,_,_,_,k,h=>k _ _ _ h
 |.seq x y,Q,Q',_,_,k,h=>vy (c:=x) (Q:=Exit.then (wq P y Q) Q) (Q':=Exit.then (wq P y Q') Q') (λ e a' w' q=>by
  cases e with
  | normal=>exact vy (c:=y) k q
  | _=>exact k _ _ _ q) h
 |.block i x,Q,Q',_,_,k,h=>vy (c:=x) (Q:=Exit.inBlock i Q) (Q':=Exit.inBlock i Q') (λ e a' w' q=>by
  cases e with
  |exit j=>
   unfold Exit.inBlock at q ⊢;simp only at q ⊢;split at q
   .rename_i h;rw[Ke h];exact k _ _ _ q
   .rename_i h;rw[Kf h];exact k _ _ _ q
  | _=>exact k _ _ _ q) h
 | .region ..,_,_,_,_,k,h=>bW k h
 | .cond ..,_,_,_,_,k,h=>bW k h
 | .loop _,_,_,_,_,k,h=>bW k h
 | .rangeFunc ..,_,_,_,_,k,h=>bW k h
 | .scope _,_,_,_,_,k,h=>bW k h
 | .label _,_,_,_,_,k,h=>bW k h
 | .goto _,_,_,_,_,k,h=>bW k h
 | .refuse _,_,_,_,_,k,h=>bW k h
def kp:Env->Env->Option Env
 | [],_=>some []
 |(s,x)::r,seen=>match seen.lookup s with
  | some _=>kp r seen
  |none=>match x.nb with
   |true=>match kp r ((s,x)::seen) with
    | some r'=>some ((s,x)::r')
    | none=>none
   | false=>kp r ((s,x)::seen)
theorem u5:∀ {L seen L2:Env},kp L seen=some L2->∀ s x,L2.lookup s=some x->seen.lookup s=none/\L.lookup s=some x/\x.nb=true
 | [],_,L2,h,s,x,hx=>by simp[kp] at h;subst h;cases hx
 |(t,y)::r,seen,L2,h,s,x,hx=>by
  unfold kp at h;split at h
  .rename_i hs;obtain⟨h1,h2,h3⟩:=u5 h s x hx;have hne:(s == t)=false:=by
    cases e:s == t with
    | false=>rfl
    | true=>rw[d9 e,hs] at h1;cases h1
   exact⟨h1,by rw[af,hne];exact h2,h3⟩
  .rename_i hs;have next:∀ {L3:Env},kp r ((t,y)::seen)=some L3->L3.lookup s=some x->seen.lookup s=none/\List.lookup s ((t,y)::r)=some x/\x.nb=true:=λ h hx=>by
    obtain⟨h1,h2,h3⟩:=u5 h s x hx;rw[af] at h1;rw[af];cases e:s == t with
    | true=>rw[e] at h1;cases h1
    | false=>rw[e] at h1;exact⟨h1,h2,h3⟩
   split at h
   .rename_i hn;split at h
    .rename_i r' hr;injection h with h;subst h;rw[af] at hx;cases e:s == t with
     |true=>rw[e] at hx;injection hx with hx;subst hx;rw[d9 e];exact⟨hs,by rw[af,bd],hn⟩
     | false=>rw[e] at hx;exact next hr hx
    .cases h
   .exact next h hx
section
variable{fn:Func}{l:List Oper}{p id:Nat}
variable{α β σ:Type}{B:Option β}
theorem Sx.sf(h:St F N M E a w)(ob:mg F M0 M Gs)(hk:kp E []=some L2)(hq:gy qp E=some O2)(hw:gf Gs O2):Sx F N M0 M Gs L2 O2 a w:=
 ⟨h.env (λ s x hx=>by
  rcases yw hx with h | ⟨_,h⟩
  .exact(u5 hk s x h).2.1
  .exact Bi hq s x h),ob,λ s x hx=>(u5 hk s x hx).2.2,hw⟩
theorem Sx.go(h:Sx F N M0 M Gs L O a w)(hs:Seg P M ops N (L++eB O) ops.toList L')(hk:kp L' []=some L2)(hq:gy qp L'=some O2)(hw:gf Gs O2)
  (next:∀ a' w',Sx F N M0 M Gs L2 O2 a' w'->Q .normal a' w'):(Code.region id ops false).wp P Q a w:=by
 refine Ka ?_;have:=pH (rest:=[]) (Q:=Q) hs h.st (λ a' w' he hst'=>Kb (next a' w' (.sf hst' h.ob hk hq hw)));simpa using this
instance:ly UInt8 .eql (gT .eql):=⟨λ a b c=>px a b c⟩
instance:ly UInt8 .neq (gT .neq):=⟨λ a b c=>px a b c⟩
instance:ly UInt8 .lss (gT .lss):=⟨λ a b c=>px a b c⟩
instance:ly UInt8 .leq (gT .leq):=⟨λ a b c=>px a b c⟩
instance:ly UInt8 .gtr (gT .gtr):=⟨λ a b c=>px a b c⟩
instance:ly UInt8 .geq (gT .geq):=⟨λ a b c=>px a b c⟩
class uw (P:Program) (f:FuncId) {β:outParam Type} (re:outParam (β->Dt)) (m:outParam (Option β)):Prop where
 h:∀ {r},m=some r->Fn P f [] (re r)
class gC (P:Program) (f:FuncId) {α β:outParam Type} (k:outParam (α->Dt)) (re:outParam (β->Dt)) (m:outParam (α->Option β)):Prop where
 h:∀ {x r},m x=some r->Fn P f [k x] (re r)
class fY (P:Program) (f:FuncId) {α β γ:outParam Type} (k:outParam (α->Dt)) (k2:outParam (β->Dt)) (re:outParam (γ->Dt)) (m:outParam (α->β->Option γ)):Prop where
 h:∀ {x y r},m x y=some r->Fn P f [k x,k2 y] (re r)
class ky (P:Program) (f:FuncId) {α β γ δ:outParam Type} (k:outParam (α->Dt)) (k2:outParam (β->Dt)) (k3:outParam (γ->Dt)) (re:outParam (δ->Dt)) (m:outParam (α->β->γ->Option δ)):Prop where
 h:∀ {x y z r},m x y z=some r->Fn P f [k x,k2 y,k3 z] (re r)
class od (P:Program) (f:FuncId) {α β γ δ ε:outParam Type} (k:outParam (α->Dt)) (k2:outParam (β->Dt)) (k3:outParam (γ->Dt)) (k4:outParam (δ->Dt)) (re:outParam (ε->Dt)) (m:outParam (α->β->γ->δ->Option ε)):Prop where
 h:∀ {x y z u r},m x y z u=some r->Fn P f [k x,k2 y,k3 z,k4 u] (re r)
class uv (op:BinOp) (f:outParam (Int->Int->Int)):Prop where
 h:∀ m n,gY op m n=f m n
 o:op=.add\/op=.sub\/op=.mul
instance:uv .add (λ m n=>m+n):=⟨λ _ _=>Z,by decide⟩
instance:uv .sub (λ m n=>m - n):=⟨λ _ _=>Z,by decide⟩
instance:uv .mul (λ m n=>m*n):=⟨λ _ _=>Z,by decide⟩
theorem mY{look:Nat->Option Dt}{f:Int->Int->Int}{n:Int}(ho:o.op=.binOp op t q y t')(hx:eC M look q (dt m))(hy:eC M look y (dt n))[c:uv op f](hm:i64 (f m n)=some r):eP P M look o (dt r):=lX ho hx hy (by rw[c.h];exact hm) c.o
theorem RE{look:Nat->Option Dt}(h:eP P M look o x:=by
  first
   | exact oM Z (tp Z)
   | exact oA Z (tp Z)
   | exact oA Z cI
   | exact ZQ Z (tp Z)
   | exact lV Z (tp Z) (tp Z)
   | exact lV Z (tp Z) cI
   | exact zG Z (tp Z)
   | exact oA Z cB
   | exact oM Z cI
   | exact oM Z cB
   | exact Ql Z (tp Z)
   | exact rq Z (tp Z)
   | exact mY Z (tp Z) cI (by with_reducible assumption)
   | exact mY Z (tp Z) (tp Z) (by with_reducible assumption)
   | exact mY Z cI (tp Z) (by with_reducible assumption)
   | exact xIdx Z (tp Z) (tp Z) (by with_reducible assumption)
   | exact lV Z (tp Z) (yM)
   | exact oA Z (yM)
   | exact oM Z (yM)
   | exact sW Z (tp Z) Z
   | exact nH Z (tp Z) (tp Z) (by with_reducible assumption)
   | exact nI Z (tp Z) (tp Z) (by with_reducible assumption)
   | exact pB Z (tp Z) (tp Z) (by with_reducible assumption)
   | exact oB Z (tp Z) (tp Z) (by with_reducible assumption)
   | exact JT Z (tp Z)
   | exact xd Z (tp Z) (tp Z)
   | exact qe Z (tp Z) (tp Z)
   | exact oF Z (tp Z) (tp Z)
   | (apply rE Z uA;first | exact gC.h (by with_reducible assumption) | exact fY.h (by with_reducible assumption) | exact ky.h (by with_reducible assumption) | exact od.h (by with_reducible assumption) | exact uw.h (by with_reducible assumption) | with_reducible assumption)
   | exact sN Z (tp Z) fc
   | exact vk Z (tp Z) fc
   | exact oG Z fc fc (by with_reducible assumption)
   | exact mY Z fc fc (by with_reducible assumption)
   | exact lV Z fc fc
   | exact nI Z fc fc (by with_reducible assumption)
   | exact xIdx Z fc fc (by with_reducible assumption)
   | exact nH Z fc fc (by with_reducible assumption)
   | exact pB Z fc fc (by with_reducible assumption)
   | exact oB Z fc fc (by with_reducible assumption)
   | exact xCutLH Z (by kernel_rfl) fc fc fc (by with_reducible assumption)):eP P M look o x:=h
theorem RD{look:Nat->Option Dt}(h:eP P M look o x:=by
  first
   | exact oM Z fc
   | exact zG Z fc
   | exact Ql Z fc
   | exact ZQ Z fc
   | exact lV Z fc fc
   | exact rq Z fc
   | exact oA Z fc
   | exact sN Z fc fc
   | exact vk Z fc fc
   | exact mY Z fc fc (gh (by with_reducible assumption) (by with_reducible assumption))
   | exact xIdx Z fc fc (gh (by with_reducible assumption) (by with_reducible assumption))
   | exact nH Z fc fc (gh (by with_reducible assumption) (by with_reducible assumption))
   | exact nI Z fc fc (gh (by with_reducible assumption) (by with_reducible assumption))
   | exact oB Z fc fc (gh (by with_reducible assumption) (by with_reducible assumption))
   | exact pB Z fc fc (gh (by with_reducible assumption) (by with_reducible assumption))
   | exact oG Z fc fc (gh (by with_reducible assumption) (by with_reducible assumption))
   | (apply rE Z AY;first | exact gC.h (gh (by with_reducible assumption) (by with_reducible assumption)) | exact fY.h (gh (by with_reducible assumption) (by with_reducible assumption)) | exact ky.h (gh (by with_reducible assumption) (by with_reducible assumption)))):eP P M look o x:=h
theorem lW(h:Seg P M ops N L l L':=by repeat (first | exact .nil | apply sc rfl RE | apply sg rfl rfl (λ _=>RD))):Seg P M ops N L l L':=h
theorem sY(n:Nat)(h:Seg P M ops N L (l.take n) L1:=by exact lW)(r:Seg P M ops N L1 (l.drop n) L'):Seg P M ops N L l L':=sp n h r
theorem Sx.q1(h:Sx F N M0 M Gs L O a w)(next:∀{a' w'},Sx F N M0 M Gs L2 [] a' w'->Q .normal a' w')(hs:Seg P M ops N (L++eB O) ops.toList L':=by exact lW)(hk:kp L' []=some L2:=by rfl):(Code.region id ops false).wp P Q a w:=
 h.go (qp:=[]) hs hk Z trivial (λ _ _ h_=>next h_)
theorem Sx.qo(h:Sx F N M0 M Gs L O a w)(qp:List (Nat×Nat))(next:∀ a' w',Sx F N M0 M Gs L2 O2 a' w'->Q .normal a' w')(hs:Seg P M ops N (L++eB O) ops.toList L':=by exact lW)(hk:kp L' []=some L2:=by rfl)(hq:gy qp L'=some O2:=by rfl)(hw:gf Gs O2:=by exact iB):(Code.region id ops false).wp P Q a w:=
 h.go hs hk hq hw next
theorem Sx.tU(h:Sx F N M0 M Gs L O a w)(n:Nat)(hs:Seg P M ops N (L++eB O) (l.take n) L')(hk:kp L' []=some L2)(hq:gy qp L'=some O2)(hw:gf Gs O2)
  (next:∀ a' w',Sx F N M0 M Gs L2 O2 a' w'->wpList P ops Q (l.drop n) a' w'):wpList P ops Q l a w:=by
 have:=pH (rest:=l.drop n) (Q:=Q) hs h.st (λ a' w' he hst'=>next a' w' (.sf hst' h.ob hk hq hw));rwa[aV] at this
theorem Sx.g1(h:Sx F N M0 M Gs L O a w)(n:Nat)(next:∀ a' w',Sx F N M0 M Gs L2 [] a' w'->wpList P ops Q (l.drop n) a' w')(hs:Seg P M ops N (L++eB O) (l.take n) L':=by exact lW)(hk:kp L' []=some L2:=by rfl):wpList P ops Q l a w:=
 h.tU (qp:=[]) n hs hk Z trivial next
theorem Sx.Aw(h:Sx F N M0 M Gs L O a w)(n:Nat)(qp:List (Nat×Nat))(next:∀ a' w',Sx F N M0 M Gs L2 O2 a' w'->wpList P ops Q (l.drop n) a' w')(hs:Seg P M ops N (L++eB O) (l.take n) L':=by exact lW)(hk:kp L' []=some L2:=by rfl)(hq:gy qp L'=some O2:=by rfl)(hw:gf Gs O2:=by exact iB):wpList P ops Q l a w:=
 h.tU n hs hk hq hw next
theorem kQ(h:Q .normal a w):wq P .skip Q a w:=h
theorem T2{x:Code}(h:wq P x (Exit.inBlock i Q) a w):wq P (.block i x) Q a w:=h
theorem Sx.cq{c:Nat}{x z:Code}{A:Option β}{r:β}(h:Sx F N M0 M Gs L O a w)(hm:(if b=true then A else B)=some r)(ht:A=some r->wq P x Q a w)(hf:B=some r->wq P z Q a w)(hl:L.lookup c=some (dt b):=by rfl):(Code.cond (.tmp c) x z).wp P Q a w:=
 h.cs (hl:=hl) hm (λ _ h=>gj (ht h)) (λ _ h=>gj (hf h))
theorem ib{c1 c2:Code}(I:Act->World->Prop)(h1:wq P c1 (Exit.then I Q) a w)(h2:∀ a' w',I a' w'->wq P c2 Q a' w'):wq P (Code.seq c1 c2) Q a w:=vy (c:=c1) (Q:=Exit.then I Q) (Q':=Exit.then (wq P c2 Q) Q) (λ e a' w' q=>by
  cases e with
  | normal=>exact h2 a' w' q
  | _=>exact q) h1
theorem gk{step:σ->Option (σ⊕β)}{s0:σ}{o:β}(hm:zE step s0=some o)(Inv:σ->Act->World->Prop)(h0:Inv s0 a w)
  (round:∀ s x a w,Inv s a w->step s=some x->(∀ b,x=.inr b->b=o)->wq P c (Exit.then (λ a' w'=>∃ s',x=.inl s'/\Inv s' a' w') Q) a w):(Code.loop c).wp P Q a w:=
 Qw hm Inv h0 λ s x a w h1 h2 h3=>gj (round s x a w h1 h2 h3)
def Ho(ops:Array Oper)(o:Oper):List Nat:=(o.op.operands.toList.filterMap λ q=>match q with | .tmp t=>some t | _=>none)++(match o.guard with | some (j,_)=>(xK ops j).toList | none=>[])
def F3(o:Oper):Bool:=match o.op with | .load _ _=>true | .call _=>true | _=>false
def vt(ops:Array Oper)(o:Oper):List Nat:=Ho ops o++if F3 o=true then(List.range 64).filter λ t=>!ops.toList.any λ p=>p.dst == some t else[]
def Gk(ops:Array Oper)(o:Oper)(s:Nat):Bool:=(Ho ops o).contains s||(F3 o&&Nat.blt s 64&&!ops.toList.any λ p=>p.dst == some s)
def mj(ops:Array Oper):List (List (Nat×Option Nat)):=ops.toList.map λ o=>(vt ops o).map λ t=>(t,ops.toList.findIdx? λ p=>p.dst == some t)
def lookW(ops:Array Oper)(o:Oper)(L:Env)(s:Nat):Option Dt:=match Gk ops o s with | true=>L.lookup s | false=>none
inductive SegW (P:Program) (M:Nat->Prop) (ops:Array Oper) (N:Nat):Env->List Oper->Env->Prop
 | nil {L:Env}:SegW P M ops N L [] L
 | cons {L L':Env} {o:Oper} {rest:List Oper} {x:Dt} {d:Nat} (hd:o.dst=some d) (hN:d<N) (h:OpG P M ops N (lookW ops o L) o x) (hr:SegW P M ops N ((d,x)::L) rest L'):SegW P M ops N L (o::rest) L'
theorem eP.look{look look':Nat->Option Dt}(h:eP P M look o x)(hl:∀ s y,look s=some y->look' s=some y):eP P M look' o x:=by
 unfold eP at*;exact λ a w hm h2=>h a w hm λ s y hy=>h2 s y (hl s y hy)
theorem OpG.look{look look':Nat->Option Dt}(h:OpG P M ops N look o x)(hl:∀ s y,look s=some y->look' s=some y):OpG P M ops N look' o x:=by
 cases h with
 | plain hg h=>exact .plain hg (h.look hl)
 | guarded hg hd hN hb hy h=>exact .guarded hg hd hN (hl _ _ hb) hy λ hc=>(h hc).look hl
 | guarded2 hg hd hN hb hy h=>exact .guarded2 hg hd hN (hl _ _ hb) hy λ hc=>(h hc).look hl
theorem C6{l:List (Nat×Dt)}(_hn:∀ (i j d:Nat) (x y:Dt),l[i]?=some (d,x)->l[j]?=some (d,y)->i=j){r:Env}(h:(l.reverse++r).lookup s=some x):(∃ i:Nat,l[i]?=some (s,x))\/((∀ (i:Nat) (y:Dt),l[i]?≠some (s,y))/\r.lookup s=some x):=by
 rcases qF _ _ _ _ h with hm | ⟨hno,hr⟩
 .exact .inl (aR (List.mem_reverse.1 hm))
 .exact .inr ⟨λ i y hi=>hno y (List.mem_reverse.2 (ae hi)),hr⟩
theorem Sy{E:List Nat}{T:List (List Nat)}(hc:XM E ops k T (mj ops)=true)(hE:∀ i,i<k->∀ j∈T.getD i [],j<i):∀ {L L':Env} {l:List Oper},SegW P M ops N L l L'->∀ (done:List (Nat×Dt)) (L0:Env),L=done.reverse++L0->
  (∀ (n:Nat) (o:Oper),l[n]?=some o->ops[done.length+n]?=some o)->(∀ (j d:Nat) (x:Dt),done[j]?=some (d,x)->xK ops j=some d)->done.length+l.length<=k->
  ∃ xs:List (Nat×Dt),L'=xs.reverse++L/\(∀ (j d:Nat) (x:Dt),(done++xs)[j]?=some (d,x)->xK ops j=some d)/\∀ D:List Dt,(∀ (j:Nat) (q:Nat×Dt),(done++xs)[j]?=some q->D[j]?=some q.2)->RegR P M ops N (mj ops) L0 D done.length l xs:=by
 intro L L' l h
 induction h with
 | nil=>intro done L0 _ _ hd _;exact⟨[],Z,by simpa using hd,λ D _=>.nil⟩
 |cons hod hN h hr ih=>
  rename_i L L' o rest x d;intro done L0 hL hops hd hk;have ho:ops[done.length]?=some o:=hops 0 o Z;have hik:done.length<k:=by simp only[aW] at hk;omega
  obtain⟨hS1,hS2,hdd⟩:=(jf hc ho).2.2.1 hik;have hd':∀ (j e:Nat) (y:Dt),(done++[(d,x)])[j]?=some (e,y)->xK ops j=some e:=λ j e y hj=>by
   rcases aT j done.length with hlt | hge
   .rw[aN hlt] at hj;exact hd j e y hj
   .rw[aL hge] at hj;have:j=done.length:=by
     rcases Nat.eq_or_lt_of_le hge with e | e
     .exact e.symm
     .rw[bh (by simp;omega)] at hj;cases hj
    subst this;simp at hj;simp[xK,ho,hod,hj.1]
  obtain⟨xs,e1,e2,e3⟩:=ih (done++[(d,x)]) L0 (by rw[hL];simp) (λ n o' hn=>by rw[ao,bq,bJ,cK 1 n];exact hops (n+1) o' hn) hd' (by simp only[aW,ao,cx] at hk ⊢;omega);refine⟨(d,x)::xs,by rw[e1];simp,by simpa using e2,λ D hD=>?_⟩;have hD':∀ (j:Nat) (q:Nat×Dt),(done++[(d,x)]++xs)[j]?=some q->D[j]?=some q.2:=by simpa using hD
  refine .cons hod hN (hD done.length (d,x) (by simp)) (h.look λ s y hy=>?_) (by have:=e3 D hD';rwa[ao,bq] at this);unfold lookW at hy;split at hy
  .rename_i hs;have hSi:((mj ops).getD done.length []).lookup s=some (ops.toList.findIdx? λ p=>p.dst == some s):=by
    have:(mj ops)[done.length]?=some ((vt ops o).map λ t=>(t,ops.toList.findIdx? λ p=>p.dst == some t)):=by
     unfold mj;rw[be,cX,ho];rfl
    rw[cA,this,dI];have hm:s∈vt ops o:=by
     unfold Gk at hs;simp only[bK] at hs;rcases hs with hs | hs
     .exact List.mem_append_left _ (bH.1 hs)
     .simp only[ac] at hs;refine List.mem_append_right _ ?_;rw[Ke hs.1.1];exact cQ.2 ⟨aA.2 (by simpa using hs.1.2),hs.2⟩
    generalize vt ops o=l at hm
    clear hs hy
    induction l with
    | nil=>cases hm
    |cons t l ih=>
     rw[cM,af];cases e:s == t with
     | true=>rw[d9 e]
     | false=>exact ih ((aj.1 hm).resolve_left λ h=>by rw[h,bd] at e;cases e)
   unfold Y7;have hmem:=jG _ _ _ hSi;rw[hSi];rw[hL] at hy;have hn:∀ (i j d:Nat) (x y:Dt),done[i]?=some (d,x)->done[j]?=some (d,y)->i=j:=λ i j d x y hi hj=>by
    have h1:=hd i d x hi;have h2:=hd j d y hj;have li:i<done.length:=(ai.1 hi).1;have lj:j<done.length:=(ai.1 hj).1;have key:∀ {a b:Nat},a<b->b<done.length->xK ops a=some d->xK ops b=some d->False:=λ{a b} hab hb ha hb'=>by
     have hbs:b<ops.size:=Nat.lt_trans hb (aB.1 ho).1;obtain⟨o',ho'⟩:∃ o',ops[b]?=some o':=⟨_,an hbs⟩;exact((jf hc ho').2.2.1 (by omega)).2.2 a hab (by rw[ha,hb'])
    rcases ee i j with h | h | h
    .exact(key h lj h1 h2).elim
    .exact h
    .exact(key h li h2 h1).elim
   cases hf:ops.toList.findIdx? λ p=>p.dst == some s with
   |some j=>
    rw[hf] at hmem;obtain⟨g1,g2,g3⟩:=hS1 s j hmem;have hjl:=hE _ hik j g2;show D[j]?=some y;rcases C6 hn hy with⟨i,hi⟩ | ⟨hno,_⟩
    .have:i=j:=by
      obtain⟨⟨e,z⟩,hz⟩:∃ q,done[j]?=some q:=⟨_,aa hjl⟩;have:=hd j e z hz;rw[g1] at this;injection this with this;subst this;exact hn i j s y z hi hz
     subst this;exact hD i (s,y) (by rw[aN hjl];exact hi)
    .obtain⟨⟨e,z⟩,hz⟩:∃ q,done[j]?=some q:=⟨_,aa hjl⟩;have:=hd j e z hz;rw[g1] at this;injection this with this;subst this;exact(hno j z hz).elim
   |none=>
    show L0.lookup s=some y;rcases C6 hn hy with⟨i,hi⟩ | ⟨_,hr⟩
    .have h1:=hd i s y hi;have hlt:i<ops.size:=Nat.lt_trans (ai.1 hi).1 (aB.1 ho).1;rw[bC] at hf;have:=hf ops[i] (by rw[<-Array.getElem_toList];exact ba (by simpa using hlt));have h2:ops[i].dst=some s:=by simpa[xK,an hlt] using h1
     rw[h2,bd] at this;cases this
    .exact hr
  .cases hy
theorem Sx.gw(h:Sx F N M0 M Gs L O a w)(hm:P.follows .mixedOrders=true)(k:Nat)(hs:SegW P M ops N (L++eB O) (ops.toList.take k) L')(hc:jA ops k (kO ops) (mj ops)=true)(hkn:k<=ops.size)(hk:kp L' []=some L2)(hq:gy qp L'=some O2)(hw:gf Gs O2)
  (next:∀ a' w',Sx F N M0 M Gs L2 O2 a' w'->wpList P ops Q (ops.toList.drop k) a' w'):(Code.region id ops true).wp P Q a w:=by
 have hlt:∀ i,i<k->∀ j∈(kO ops).getD i [],j<i:=λ i hi=>MA hc i (by omega)
 obtain⟨xs,e1,e2,e3⟩:=Sy hc hlt hs [] (L++eB O) Z (λ n o hn=>by
  rw[aw] at hn;split at hn
  .simpa using hn
  .cases hn) (λ j d x hj=>by simp at hj) (by simp;omega)
 have hn:∀ (i j d:Nat) (x y:Dt),xs[i]?=some (d,x)->xs[j]?=some (d,y)->i=j:=λ i j d x y hi hj=>by
  have hreg:=e3 (xs.map (·.2)) (λ j q hq=>by simp only[bb] at hq;rw[be,hq];rfl);have hlen:xs.length=k:=by rw[<-hreg.get.1];simp;omega
  have h1:=e2 i d x hi;have h2:=e2 j d y hj;have li:i<k:=by rw[<-hlen];exact(ai.1 hi).1
  have lj:j<k:=by rw[<-hlen];exact(ai.1 hj).1
  have key:∀ {a b:Nat},a<b->b<k->xK ops a=some d->xK ops b=some d->False:=λ{a b} hab hb ha hb'=>by
   obtain⟨o',ho'⟩:∃ o',ops[b]?=some o':=⟨_,an (by omega)⟩;exact((jf hc ho').2.2.1 hb).2.2 a hab (by rw[ha,hb'])
  rcases ee i j with h | h | h
  .exact(key h lj h1 h2).elim
  .exact h
  .exact(key h li h2 h1).elim
 refine QW hm k (kO ops) (mj ops) hc hkn h.st (e3 (xs.map (·.2)) λ j q hq=>by simp only[bb] at hq;rw[be,hq];rfl) λ a' w' he hst'=>next a' w' (.sf (hst'.env λ s x hx=>?_) h.ob hk hq hw)
 rw[e1] at hx;rcases C6 hn hx with⟨i,hi⟩ | ⟨hno,hr⟩
 .have hmem:=ae hi;cases hl:(xs++(L++eB O)).lookup s with
  |none=>
   exfalso
   clear hs hk hq
   generalize (L++eB O)=r at*
   clear e1 e2 e3 hi hn hst' hx
   induction xs with
   | nil=>cases hmem
   |cons p xs ih=>
    obtain⟨u,z⟩:=p;rw[bG,af] at hl;cases e:s == u with
    | true=>rw[e] at hl;cases hl
    |false=>
     rw[e] at hl;rcases aj.1 hmem with h | h
     .injection h with h _;rw[h,bd] at e;cases e
     .exact ih h hl
  |some y=>
   rcases qF _ _ _ _ hl with hm | ⟨hno,_⟩
   .obtain⟨j,hj⟩:=aR hm;have:=hn i j s x y hi hj;subst this;rw[hi] at hj;injection hj with hj;injection hj with _ hj;rw[hj]
   .exact(hno x hmem).elim
 .rw[yi]
  .exact hr
  .cases hl:xs.lookup s with
   | none=>rfl
   |some y=>obtain⟨j,hj⟩:=aR (Rj hl);exact(hno j y hj).elim
theorem sw(hh:fH o N=some d)(h:eP P M (lookW ops o L) o x)(hr:SegW P M ops N ((d,x)::L) rest L'):SegW P M ops N L (o::rest) L':=
 .cons (zK hh).2.1 (zK hh).2.2 (.plain (zK hh).1 h) hr
theorem gW{e:Nat}(hh:nE o N ops=some (d,e,j,want))(hb:lookW ops o L e=some (dt b))(h:(b == want)=true->eP P M (lookW ops o L) o x)(hr:SegW P M ops N ((d,Dt.kt (b == want) x)::L) rest L'):SegW P M ops N L (o::rest) L':=
 .cons (xR hh).2.1 (xR hh).2.2.2.1 (.guarded (xR hh).1 (xR hh).2.2.1 (xR hh).2.2.2.2 hb zB h) hr
def gq(n:Nat)(q:Nat->Option Nat):List (Nat->Prop):=(List.range n).map λ i=>eA (q i)
def Be(g:Option Nat)(q:Nat->Option Nat):Nat->Option Nat
 | 0=>g
 | i+1=>q i
class GQ (Gs:List (Nat->Prop)) (n:outParam Nat) (q:outParam (Nat->Option Nat)):Prop where
 h:Gs=gq n q
instance:GQ [] 0 (λ _=>none):=⟨Z⟩
instance {n:Nat} {q:Nat->Option Nat}:GQ (gq n q) n q:=⟨Z⟩
theorem Fg{n:Nat}{q:Nat->Option Nat}:eA g::gq n q=gq (n+1) (Be g q):=by
 unfold gq;rw[List.range_succ_eq_map,cM,cJ];rfl
instance {g:Option Nat} {l:List (Nat->Prop)} {n:Nat} {q:Nat->Option Nat} [k:GQ l n q]:GQ (eA g::l) (n+1) (Be g q):=⟨by rw[k.h,Fg]⟩
instance {g:Option Nat}:GQ (List.replicate 0 (eA g)) 0 (λ _=>none):=⟨Z⟩
instance {g:Option Nat} {m n:Nat} {q:Nat->Option Nat} [k:GQ (List.replicate m (eA g)) n q]:GQ (List.replicate (m+1) (eA g)) (n+1) (Be g q):=⟨by rw[dg,k.h,Fg]⟩
def sU(p:Nat)(g:Option Nat)(q:Nat->Option Nat)(i:Nat):Option Nat:=match Nat.beq i p with | true=>g | false=>q i
theorem Oa{p n:Nat}{q:Nat->Option Nat}:(gq n q).set p (eA g)=gq n (sU p g q):=by
 apply aZ;intro i;unfold gq;rw[List.getElem?_set,bU,bo,be,be];by_cases h:p=i
 .subst h;rw[Ke Z];by_cases hl:p<n
  .rw[Ke hl,co hl];simp[sU]
  .rw[Kf hl,bh (by simpa using hl)];rfl
 .rw[Kf h];have:sU p g q i=q i:=by
   unfold sU;cases e:Nat.beq i p with
   | true=>exact absurd (Nat.eq_of_beq_eq_true e).symm h
   | false=>rfl
  by_cases hl:i<n
  .rw[co hl];simp[this]
  .rw[bh (by simpa using hl)];rfl
instance {g:Option Nat} {l:List (Nat->Prop)} {p n:Nat} {q:Nat->Option Nat} [k:GQ l n q]:GQ (l.set p (eA g)) n (sU p g q):=⟨by rw[k.h,Oa]⟩
theorem Sx.fq{n:Nat}{q:Nat->Option Nat}(h:Sx F N M0 M Gs L O a w)(g:GQ Gs n q:=by infer_instance)(hk:ff (L2.map (·.1)) (L++eB O)=some L2:=by rfl)(hq:gy ((W q).map λ q=>(q.1,q.2.1)) (L++eB O)=some (W q):=by rfl)(hw:gf Gs (W q):=by exact iB):∃ (M1:Nat->Prop) (q:Nat->Option Nat),Sx F N M0 M1 (gq n q) L2 (W q) a w:=
 ⟨M,q,by rw[<-g.h];exact h.um _ hk _ hq hw⟩
theorem fz{T:Prop}(h:T:=by first | exact Sx.fq (by assumption) | ((repeat (apply Exists.intro));exact Sx.fin (by assumption))):T:=h
theorem fU{x:σ⊕β}{s:σ}{T:σ->Prop}(h:some (Sum.inl s)=some x)(k:T s:=by exact fz):∃ s',x=.inl s'/\T s':=⟨s,(bV h).symm,k⟩
theorem gl{a b:Nat}(h:Nat.blt a b=true):a<b:=by simpa[Nat.blt_eq] using h
theorem fe{f:Nat}{y:Dt}(n:Nat)(hf:P.funcs[f]?=some fn)
  (h:∀ (M:Nat->Prop) (w:World) (a:Act),Sx (eG.of w) k M M (List.replicate n (eA none)) E [] a w->wq P c (bodyPost P fn (kZ M w y)) a w) (hb:fn.body=some c:=by rfl) (hk:fn.ntmps=k:=by rfl) (hn:Nat.ble xs.length k=true:=by rfl) (hE:zL 0 xs=E:=by rfl) (hnb:W2 E=true:=by rfl):Fn P f xs y:=by
 subst hk hE;exact Bo n hf hb (Nat.le_of_ble_eq_true hn) hnb λ M w a st=>gj (h M w a st)
theorem om[ey α]{f:Nat}{y:List α}(n:Nat)(hf:P.funcs[f]?=some fn)
  (h:∀ (M:Nat->Prop) (w:World) (a:Act),Sx (eG.of w) k M M (List.replicate n (eA none)) E [] a w->wq P c (bodyPost P fn (sx e M w y)) a w) (hb:fn.body=some c:=by rfl) (hk:fn.ntmps=k:=by rfl) (hn:Nat.ble xs.length k=true:=by rfl) (hE:zL 0 xs=E:=by rfl) (hnb:W2 E=true:=by rfl):kY P f xs e y:=by
 subst hk hE;exact Fb n hf hb (Nat.le_of_ble_eq_true hn) hnb λ M w a st=>gj (h M w a st)
theorem Sx.rW(h:Sx F N M0 M Gs L O a w)(hs:Seg P M ops N (L++eB O) ops.toList L')(next:∀ a' w',St F N M L' a' w'->Q .normal a' w'):(Code.region id ops false).wp P Q a w:=by
 refine Ka ?_;have:=pH (rest:=[]) (Q:=Q) hs h.st (λ a' w' he hst'=>Kb (next a' w' hst'));simpa using this
theorem Sx.e1[ey α]{t:Nat}{x r:α}(h:Sx (eG.of w0) N M0 M Gs L O a w)(hm:some x=some r)(hq:∀ a' w',bodyPost P fn (kZ M0 w0 (dt r)) .ret a' w'->Q .normal a' w':=by exact λ _ _ h=>h)(hr:fn.results=#[.tmp t]:=by rfl)
  (hs:Seg P M ops N (L++eB O) ops.toList L':=by exact lW) (hl:L'.lookup t=some (dt x):=by rfl):(Code.region id ops false).wp P Q a w:=by
 injection hm with hm;subst hm;exact h.rW hs λ a' w' st=>hq a' w' (tJ hr st hl λ v hv=>(dt x).weak hv λ k _ hk=>h.ob.sub k hk)
theorem Sx.n1{x:σ⊕β}{s:σ}{T:σ->Act->World->Prop}(h:Sx F N M0 M Gs L O a w)(qp:List (Nat×Nat))(h2:some (Sum.inl s)=some x)(hq:∀ a' w',(∃ s',x=.inl s'/\T s' a' w')->Q .normal a' w':=by exact λ _ _ h=>h)
  (hs:Seg P M ops N (L++eB O) ops.toList L':=by exact lW) (hk:kp L' []=some L2:=by rfl) (hsq:gy qp L'=some O2:=by rfl) (hw:gf Gs O2:=by exact iB) (k:∀ a' w',Sx F N M0 M Gs L2 O2 a' w'->T s a' w':=by intro _ _ _;exact fz):(Code.region id ops false).wp P Q a w:=
 h.rW hs λ a' w' st=>hq a' w' ⟨s,(bV h2).symm,k a' w' (Sx.sf st h.ob hk hsq hw)⟩
theorem Sx.qc{c:Nat}{x z:Code}{A:Option β}{r:β}(h:Sx F N M0 M Gs L O a w)(hm:(if b=true then A else B)=some r)(ht:∀{a' w'},Sx F N M0 M Gs L2 [] a' w'->A=some r->wq P x Q2 a' w')(hf:∀{a' w'},Sx F N M0 M Gs L2 [] a' w'->B=some r->wq P z Q2 a' w')
  (hq:∀ a' w',(Code.cond (.tmp c) x z).wp P Q2 a' w'->Q .normal a' w':=by exact λ _ _ h=>h) (hs:Seg P M ops N (L++eB O) ops.toList L':=by exact lW) (hk:kp L' []=some L2:=by rfl) (hl:L2.lookup c=some (dt b):=by rfl):(Code.region id ops false).wp P Q a w:=
 h.q1 (@λ a' w' st=>hq a' w' (st.cq hm (ht st) (hf st) hl)) hs hk
theorem Sx.qd{c:Nat}{x z:Code}{A:Option β}{r:β}(h:Sx F N M0 M Gs L O a w)(qp:List (Nat×Nat))(hm:(if b=true then A else B)=some r)(ht:∀ a' w',Sx F N M0 M Gs L2 O2 a' w'->A=some r->wq P x Q2 a' w')(hf:∀ a' w',Sx F N M0 M Gs L2 O2 a' w'->B=some r->wq P z Q2 a' w')
  (hq:∀ a' w',(Code.cond (.tmp c) x z).wp P Q2 a' w'->Q .normal a' w':=by exact λ _ _ h=>h) (hs:Seg P M ops N (L++eB O) ops.toList L':=by exact lW) (hk:kp L' []=some L2:=by rfl) (hsq:gy qp L'=some O2:=by rfl) (hw:gf Gs O2:=by exact iB) (hl:L2.lookup c=some (dt b):=by rfl):(Code.region id ops false).wp P Q a w:=
 h.qo qp (λ a' w' st=>hq a' w' (st.cq hm (ht a' w' st) (hf a' w' st) hl)) hs hk hsq hw
theorem G8{V:Env}(h:Sx F N M0 M Gs L O a w)(hk:ff ks L=some K0)(hv:ff vs (L++eB O)=some V):Sx F N M0 M Gs (K0++V) [] a w:=
 ⟨h.st.env λ s x hx=>by
  rw[show eB []=([]:Env) from Z,aO] at hx;rcases yw hx with h1 | ⟨_,h1⟩
  .exact yN ((wn hk).spec s x h1).1
  .exact((wn hv).spec s x h1).1,h.ob,λ s x hx=>by
  rcases yw hx with h1 | ⟨_,h1⟩
  .exact((wn hk).spec s x h1).2
  .exact((wn hv).spec s x h1).2,trivial⟩
section
variable{B R T:Type}{e:Option (B⊕R)}{e2:Option T}{K:B->Option R}{K2:T->Option R}{r:R}{c1 c2:Code}
variable{β σ:Type}{s0:σ}
theorem Sx.jb(_h:Sx F N M0 M Gs L O a w)(ks:List Nat)(V:B->Env)(hm:(e.bind (Sum.elim K some))=some r)
  (h1:∀ o,e=some o->Sum.elim K some o=some r->wq P c1 (Exit.then (λ a' w'=>∃ b,o=.inl b/\Sx F N M0 M Gs (K0++V b) [] a' w') Q) a w)
  (h2:∀ b a' w',Sx F N M0 M Gs (K0++V b) [] a' w'->K b=some r->wq P c2 Q a' w') (_hk:ff ks L=some K0:=by rfl):wq P (Code.seq c1 c2) Q a w:=by
 have⟨o,p,k⟩:=bs hm;refine ib _ (h1 o p k) ?_
 rintro a' w' ⟨b,rfl,st⟩
 exact h2 b a' w' st k
theorem Sx.jm(_h:Sx F N M0 M Gs L O a w)(ks:List Nat)(V:T->Env)(hm:e2.bind K2=some r)
  (h1:∀ o,e2=some o->wq P c1 (Exit.then (λ a' w'=>Sx F N M0 M Gs (K0++V o) [] a' w') Q) a w)
  (h2:∀ o a' w',Sx F N M0 M Gs (K0++V o) [] a' w'->K2 o=some r->wq P c2 Q a' w') (_hk:ff ks L=some K0:=by rfl):wq P (Code.seq c1 c2) Q a w:=by
 have⟨o,p,k⟩:=bs hm;exact ib _ (h1 o p) λ a' w' st=>h2 o a' w' st k
theorem Sx.lp{step:σ->Option (σ⊕β)}{o:β}(h:Sx F N M0 M Gs L O a w)(ks:List Nat)(V:σ->Env)(hm:zE step s0=some o)
  (round:∀ s x a w,Sx F N M0 M Gs (K0++V s) [] a w->step s=some x->(∀ b,x=.inr b->b=o)->wq P c (Exit.then (λ a' w'=>∃ s',x=.inl s'/\Sx F N M0 M Gs (K0++V s') [] a' w') Q) a w)
  (hk:ff ks L=some K0:=by rfl) (hv:ff ((V s0).map (·.1)) (L++eB O)=some (V s0):=by rfl):(Code.loop c).wp P Q a w:=
 gk hm (λ s a w=>Sx F N M0 M Gs (K0++V s) [] a w) (G8 h hk hv) round
theorem Sx.mH(_h:Sx F N M0 M Gs L O a w)(n:Nat)(ks:List Nat)(V:B->Env)(W:B->(Nat->Option Nat)->List (Nat×Nat×Dt))(hm:(e.bind (Sum.elim K some))=some r)
  (h1:∀ o,e=some o->Sum.elim K some o=some r->wq P c1 (Exit.then (λ a' w'=>∃ b,o=.inl b/\∃ (M1:Nat->Prop) (q:Nat->Option Nat),Sx F N M0 M1 (gq n q) (K0++V b) (W b q) a' w') Q) a w)
  (h2:∀ b q M1 a' w',Sx F N M0 M1 (gq n q) (K0++V b) (W b q) a' w'->K b=some r->wq P c2 Q a' w') (_hk:ff ks L=some K0:=by rfl):wq P (Code.seq c1 c2) Q a w:=by
 have⟨o,p,k⟩:=bs hm;refine ib _ (h1 o p k) ?_
 rintro a' w' ⟨b,rfl,M1,q,st⟩
 exact h2 b q M1 a' w' st k
theorem Sx.kJ(_h:Sx F N M0 M Gs L O a w)(n:Nat)(ks:List Nat)(V:T->Env)(W:T->(Nat->Option Nat)->List (Nat×Nat×Dt))(hm:e2.bind K2=some r)
  (h1:∀ o,e2=some o->wq P c1 (Exit.then (λ a' w'=>∃ (M1:Nat->Prop) (q:Nat->Option Nat),Sx F N M0 M1 (gq n q) (K0++V o) (W o q) a' w') Q) a w)
  (h2:∀ o q M1 a' w',Sx F N M0 M1 (gq n q) (K0++V o) (W o q) a' w'->K2 o=some r->wq P c2 Q a' w') (_hk:ff ks L=some K0:=by rfl):wq P (Code.seq c1 c2) Q a w:=by
 have⟨o,p,k⟩:=bs hm;exact ib _ (h1 o p) λ a' w' ⟨M1,q,st⟩=>h2 o q M1 a' w' st k
theorem Sx.pa{step:σ->Option (σ⊕β)}{o:β}(h:Sx F N M0 M Gs L O a w)(n:Nat)(ks:List Nat)(V:σ->Env)(W:σ->(Nat->Option Nat)->List (Nat×Nat×Dt))(hm:zE step s0=some o)
  (round:∀ s x q M1 a w,Sx F N M0 M1 (gq n q) (K0++V s) (W s q) a w->step s=some x->(∀ b,x=.inr b->b=o)->wq P c (Exit.then (λ a' w'=>∃ s',x=.inl s'/\∃ (M1:Nat->Prop) (q:Nat->Option Nat),Sx F N M0 M1 (gq n q) (K0++V s') (W s' q) a' w') Q) a w)
  (hk:ff ks L=some K0:=by rfl) (hv:ff ((V s0).map (·.1)) (L++eB O)=some (V s0):=by rfl) [g:GQ Gs n q0] (hq:gy ((W s0 q0).map λ q=>(q.1,q.2.1)) (L++eB O)=some (W s0 q0):=by rfl) (hw:gf Gs (W s0 q0):=by exact iB):(Code.loop c).wp P Q a w:=
 gk hm (λ s a w=>∃ (M1:Nat->Prop) (q:Nat->Option Nat),Sx F N M0 M1 (gq n q) (K0++V s) (W s q) a w) ⟨M,q0,by
  rw[<-g.h];have h1:=G8 h hk hv;refine⟨h.st.env λ s x hx=>?_,h.ob,h1.no,hw⟩;rcases yw hx with h2 | ⟨_,h2⟩
  .rcases yw h2 with h3 | ⟨_,h3⟩
   .exact yN ((wn hk).spec s x h3).1
   .exact((wn hv).spec s x h3).1
  .exact Bi hq s x h2⟩ λ s x a w ⟨M1,q,st⟩ h1 h2=>round s x q M1 a w st h1 h2
end
end
open Go.ChangeShapes Go.WideShapes Go.ChangeAt Go.RowKit
structure Opn(P:Program)(t:TypeId)(α:Type)[ey α]:Prop where
 cells:P.cellsOf t=ey.size α
 op:∀ {H:Type} {enc:TypeId×Value->H} {w:World} {spare:Nat->Bool} {held:Bool} {fuel:Nat} {cs:List Value} {x:DataW H×List MemPlace},DataW.trod enc P w 0 spare held fuel t cs=some x->∃ a:α,ey.rdc noB w cs a
theorem Opn.int{P:Program}{t:TypeId}(ht:P.underlying t=some (.int .i64))(hc:P.cellsOf t=1):Opn P t Int:=⟨hc,λ{H enc w spare held fuel cs x} h=>by
 obtain⟨n,rfl,_⟩:=DataW.trod_int ht h;exact⟨n,Z,trivial⟩⟩
theorem Opn.bool{P:Program}{t:TypeId}(ht:P.underlying t=some .bool)(hc:P.cellsOf t=1):Opn P t Bool:=⟨hc,λ{H enc w spare held fuel cs x} h=>by
 obtain⟨b,rfl,_⟩:=DataW.trod_bool ht h;exact⟨b,Z,trivial⟩⟩
theorem Opn.str(ht:P.underlying t=some .string)(hc:P.cellsOf t=1):Opn P t Str:=⟨hc,λ{H enc w spare held fuel cs x} h=>by
 obtain⟨s,rfl,_,hs⟩:=DataW.trod_string ht h;exact⟨⟨s.data.toList⟩,Z,by simpa using hs⟩⟩
theorem Opn.slice{P:Program}{t e:TypeId}{α:Type}[ey α](ht:P.underlying t=some (.slice e))(hc:P.cellsOf t=1)(he:Opn P e α):Opn P t (List α):=⟨hc,λ{H enc w spare held fuel cs x} h=>by
 rcases Deep.open_slice ht h with⟨rfl,_⟩ | ⟨a,len,cap,m,n,D,Pl,rfl,_,hl,hm,hmm,_,hel⟩
 .exact⟨[],none,0,Z,al _,aq _,.inl Z⟩
 .have hlm:len<=m:=by rw[hmm];split <;> omega
  have hpos:0<P.cellsOf e:=by rw[he.cells];exact ey.pos
  have hrow:∀ k,k<=len->∃ (xs:List α) (cells:List Value),xs.length=k/\gQ noB w cells xs/\∀ j u,cells[j]?=some u->w.cell? (a.add j)=some u:=by
   intro k
   induction k with
   | zero=>intro _;exact⟨[],[],Z,Z,λ j u hj=>by simp at hj⟩
   |succ k ih=>
    intro hk;obtain⟨xs,cells,hx,hr,hcl⟩:=ih (by omega);obtain⟨cs',hcs,htr⟩:=hel k (by omega);obtain⟨y,hy⟩:=he.op htr;obtain⟨_,hlen,hat⟩:=World.cells?_some hcs;refine⟨xs++[y],cells++cs',by simp[hx],Ze hr (B9 hy),λ j u hj=>?_⟩;have hcl2:=JH hr;by_cases hjl:j<cells.length
    .rw[aN hjl] at hj;exact hcl j u hj
    .rw[aL (by omega)] at hj;have hj2:=(ai.1 hj).1;have:=hat (j - cells.length) (by omega);rw[hj] at this;rw[<-this]
     congr 1
     have hs:k*P.cellsOf e=cells.length:=by rw[hcl2,hx,he.cells]
     rw[hs];show a.add j=(a.add cells.length).add (j - cells.length);rw[Deep.add_add,show cells.length+(j - cells.length)=j by omega]
  obtain⟨xs,cells,hx,hr,hcl⟩:=hrow len (al _);refine⟨xs,some a,cap,by rw[hx],by omega,hm,?_⟩;by_cases h0:len=0
  .left;exact dq.1 (by omega)
  .right
   obtain⟨cs',hcs,_⟩:=hel 0 (by omega);obtain⟨_,hlen,hat⟩:=World.cells?_some hcs;have a8:=hat 0 hpos;have hsome:∃ u,w.cell? ((a.add (0*P.cellsOf e)).add 0)=some u:=by
    rw[a8];exact⟨cs'[0]'(by omega),aa (by omega)⟩
   obtain⟨u,hu⟩:=hsome;have hspot:a.spot=none:=by simpa[Addr.add] using World.cell?_spot hu
   obtain⟨b,o,sp⟩:=a;subst hspot;exact⟨b,o,cells,Z,λ hf=>hf,λ j u hj=>by rw[<-add_plain];exact hcl j u hj,hr⟩⟩
structure OpnF(P:Program)(fs:List Field)(off:Nat)(β:Type)[ey β]:Prop where
 op:∀ {H:Type} {enc:TypeId×Value->H} {w:World} {spare:Nat->Bool} {held:Bool} {n:Nat} {cs:List Value},cs.length=off+ey.size β->
  (∀ f∈fs,∃ y,DataW.trod enc P w 0 spare held n f.type ((cs.drop f.offset).take (P.cellsOf f.type))=some y)->∃ b:β,ey.rdc noB w (cs.drop off) b
theorem OpnF.last{f:Field}[ey α](ho:f.offset=off)(h:Opn P f.type α):OpnF P [f] off α:=⟨λ{H enc w spare held n cs} hl hf=>by
 obtain⟨y,hy⟩:=hf f (by simp);rw[ho,h.cells,aM (by rw[dF];omega)] at hy;exact h.op hy⟩
theorem OpnF.cons{f:Field}[ey α][ey β](ho:f.offset=off)(h:Opn P f.type α)(k:OpnF P fs (off+ey.size α) β):OpnF P (f::fs) off (α×β):=⟨λ{H enc w spare held n cs} hl hf=>by
 obtain⟨y,hy⟩:=hf f (by simp);rw[ho,h.cells] at hy;obtain⟨a,ha⟩:=h.op hy;have hl':cs.length=off+(ey.size α+ey.size β):=hl;obtain⟨b,hb⟩:=k.op (by omega) λ g hg=>hf g (by simp[hg])
 refine⟨(a,b),_,_,?_,ha,hb⟩;rw[<-bO,aV]⟩
theorem Opn.struct{P:Program}{t:TypeId}{fs:Array Field}{α β:Type}[ey β]{f:α->β}(g:β->α)(hfg:∀ b,f (g b)=b)(ht:P.underlying t=some (.struct fs))(hc:P.cellsOf t=ey.size β)(h:OpnF P fs.toList 0 β):@Opn P t α (ey.ku f):=by
 refine @Opn.mk P t α (ey.ku f) hc λ{H enc w spare held fuel cs x} hx=>?_
 obtain⟨xs,n,_,_,hl,hlen,hf⟩:=DataW.trod_struct ht hx;obtain⟨b,hb⟩:=h.op (enc:=enc) (w:=w) (spare:=spare) (held:=held) (n:=n) (cs:=cs) (by omega) λ fl hfl=>by
  obtain⟨i,hi⟩:=aR hfl;have hi':fs[i]?=some fl:=by simpa using hi
  have hlt:i<fs.size:=(aB.1 hi').1;rw[hf i fl hi',aa (by omega)];exact⟨_,Z⟩
 refine⟨g b,?_⟩;show ey.rdc noB w cs (f (g b));rw[hfg];exact hb
theorem Opn.rd{P:Program}{t:TypeId}{α:Type}[ey α](h:Opn P t α){H:Type}{enc:TypeId×Value->H}{w:World}{spare:Nat->Bool}{held:Bool}{v:Value}{d:DataW H}{ps:List MemPlace}(hd:DataW.Trod enc P w 0 spare held t v d ps)
  (hv:v=gI (ey.agg α) v.cells.toList):∃ a:α,(dt a).rd noB w v:=by
 obtain⟨fuel,hf⟩:=hd;obtain⟨a,ha⟩:=h.op hf;exact⟨a,_,ha,hv⟩
theorem mkv_slice{r:Reach}{b:Nat}(ht:P.underlying t=some (.slice e))(h:Value.okWide P w r b t v):v=gI false v.cells.toList:=by
 obtain⟨a,l,c,rfl⟩:=okWide_slice ht h;simp[gI,Value.cells]
theorem mkv_int{k:IntKind}{r:Reach}{b:Nat}(ht:P.underlying t=some (.int k))(h:Value.okWide P w r b t v):v=gI false v.cells.toList:=by
 obtain⟨a,rfl⟩:=okWide_int ht h;simp[gI,Value.cells]
theorem iI:∀ b,p b->p b:=λ _ h=>h
theorem iE:∀ b,eA none b->p b:=λ _ h=>(by cases h)
theorem kc(s:Nat)(h:L.lookup s=some x)(r:Pick (λ _=>True) L L1):Pick (λ _=>True) L ((s,x)::L1):=.cons h trivial r
theorem iT:(∀ b,p b->p b)/\True:=⟨iI,trivial⟩
theorem obS(a:α)(f:α->Option β):(some a).bind f=f a:=rfl
