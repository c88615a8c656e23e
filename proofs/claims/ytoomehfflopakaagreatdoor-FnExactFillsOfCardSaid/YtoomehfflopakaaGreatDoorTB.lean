import Derived.Test.YtoomehfflopakaaGreatDoorTA
import Derived.ChangeKeysEq
import Derived.Laws.StructEq
import Derived.Sort.OwnSorted
import Derived.Lib.OwnBridge
import Derived.ProofKit
import Derived.Deep.Slices
namespace Go.Proofs.YtoomehfflopakaaGreatDoor
open Go.RowKit
variable{W:(Nat->Option Nat)->List (Nat×Nat×Dt)}{a:Act}{K K':Act->World->Prop}{listed:Array Bool}{ops:Array Oper}{A:Array Operand}{ts:Array TypeId}{ys:Array Value}{op:BinOp}{b want:Bool}{c:Code}{R x:Dt}{E K0 L L' L1 L2:Env}{Q Q' Q2:Exit->Act->World->Prop}{F:Frm}{f:FuncId}{m:Int}{S:List (List (Nat×Option Nat))}{Gs:List (Nat->Prop)}{qp:List (Nat×Nat)}{O O2:List (Nat×Nat×Dt)}{D rs xr xs:List Dt}{fs:List Field}{ks qs vs:List Nat}{l1 l2 rest:List Oper}{l:List Str}{c0 c1 c2 c3 c4 c5 c6 c7 zs:List Value}{N bytes d i j k off s sb u:Nat}{q0:Nat->Option Nat}{G G' M M' M0 M1 M2 p:Nat->Prop}{o:Oper}{h q vo y:Operand}{g g':Option Nat}{P:Program}{r:Reach}{e t t' ty:TypeId}{v v1 v2:Value}{w w' w0:World}
section
variable{α β σ:Type}
def atI(xs:List α)(i:Int):Option α:=if 0<=i then xs[i.toNat]? else none
def i64(n:Int):Option Int:=if -9223372036854775808<=n/\n<=9223372036854775807 then some n else none
def catO(m n:Str):Option Str:=if m.l.length+n.l.length<=9223372036854775807 then some ⟨m.l++n.l⟩ else none
def zb3(s:Str)(lo:Int):Option Str:=if 0<=lo/\lo<=s.l.length then some ⟨s.l.drop lo.toNat⟩ else none
def cutHO(s:Str)(hi:Int):Option Str:=if 0<=hi/\hi<=s.l.length then some ⟨s.l.take hi.toNat⟩ else none
def zaZ(xs:List α)(lo:Int):Option (List α):=if 0<=lo/\lo<=xs.length then some (xs.drop lo.toNat) else none
def WB(xs:List α)(hi:Int):Option (List α):=if 0<=hi/\hi<=xs.length then some (xs.take hi.toNat) else none
def gO[Inhabited α](g:Bool)(e:Option α):Option α:=if g=true then e else some default
def appO(b:Nat)(xs ys:List α):Option (List α):=if(xs.length+ys.length)*b<=140737488355328/\xs.length+ys.length<=9223372036854775807 then some (xs++ys) else none
def setO(xs:List α)(i:Int)(y:α):Option (List α):=if 0<=i/\i.toNat<xs.length then some (xs.set i.toNat y) else none
def zaK(size bytes:Nat)(n:Int)(z:α):Option (List α):=if 0<=n/\n.toNat*size<=16777216/\bytes*n.toNat<=281474976710656/\n<=9223372036854775807 then some (List.replicate n.toNat z) else none
def jr(step:σ->Option (σ⊕β)):Nat->σ->Option β
 | 0,_=>none
 |n+1,s=>match step s with
  | none=>none
  | some (.inl s')=>jr step n s'
  | some (.inr b)=>some b
@[irreducible] def zE (step:σ->Option (σ⊕β)) (s:σ):Option β:=jr step 1152921504606846976 s
theorem bs{o:Option α}{f:α->Option β}{r:β}(h:o.bind f=some r):∃ x,o=some x/\f x=some r:=by
 cases o with
 | none=>cases h
 | some x=>exact⟨x,Z,h⟩
theorem Ke{α β γ:Type}{o:Option α}{f:α->Option β}{g:α->β->Option γ}{r:γ}(h:(o.bind λ x=>(f x).bind (g x))=some r):∃ x,o=some x/\∃ y,f x=some y/\g x y=some r:=by
 obtain⟨x,h1,h⟩:=bs h
 obtain⟨y,h2,h⟩:=bs h
 grind
theorem gh[Inhabited α]{g:Bool}{e:Option α}{x:α}(hg:g=true)(h:gO g e=some x):e=some x:=by rw[gO,Kc hg] at h;exact h
theorem yL{xs:List α}{i:Int}{x:α}(h:atI xs i=some x):i=(i.toNat:Int)/\xs[i.toNat]?=some x:=by
 unfold atI at h;grind
theorem i64_get{r:Int}(h:i64 m=some r):m=r/\-9223372036854775808<=m/\m<=9223372036854775807:=by
 unfold i64 at h;grind
end
section
variable{look:Nat->Option Dt}{α:Type}[Rep α]
theorem xAr{x:Operand}{n r:Int}(ho:o.op=.binOp op t x y t')(hx:OpdR M look x (dt m))(hy:OpdR M look y (dt n))(hm:i64 (arI op m n)=some r)(hop:op=.add\/op=.sub\/op=.mul:=by decide):OpRel P M look o (dt r):=by
 obtain⟨rfl,h⟩:=i64_get hm;exact Zf ho (hop:=hop) hx hy h
theorem xCat{x:Operand}{m n r:Str}(ho:o.op=.binOp .add t x y t')(hx:OpdR M look x (dt m))(hy:OpdR M look y (dt n))(hm:catO m n=some r):OpRel P M look o (dt r):=by
 unfold catO at hm;split at hm
 ·rename_i h;injection hm with hm;subst hm;exact zcA ho hx hy (by unfold maxLen;omega)
 ·cases hm
theorem xIdx{s i:Operand}{xs:List α}{x:α}(ho:o.op=.indexAddr t s i)(hs:OpdR M look s (dt xs))(hi:OpdR M look i (dt m))(hm:atI xs m=some x)(ht':slB P t (Rep.size α)=true:=by kernel_rfl):OpRel P M look o (dptr x):=
 wF ho (ht':=ht') hs hi (yL hm).1 (yL hm).2
theorem xByte{s i:Operand}{x:Str}{b:UInt8}(ho:o.op=.index t s i)(hs:OpdR M look s (dt x))(hi:OpdR M look i (dt m))(hm:atI x.l m=some b)(ht:QZ P t=true:=by kernel_rfl):OpRel P M look o (dt b):=by
 obtain⟨h1,h2⟩:=yL hm;rw[h1] at hi;exact op_byte ho (ht:=ht) hs hi h2
theorem xCutL{s l:Operand}{x r:Str}{i:Int}(ho:o.op=.slice t s (some l) none none)(hs:OpdR M look s (dt x))(hl:OpdR M look l (dt i))(hm:zb3 x i=some r)(ht:QZ P t=true:=by kernel_rfl):OpRel P M look o (dt r):=by
 unfold zb3 at hm;split at hm
 ·rename_i h;injection hm with hm;subst hm;exact op_cutL ho ht hs hl h.1 h.2
 ·cases hm
theorem xCutH{s:Operand}{x r:Str}{j:Int}(ho:o.op=.slice t s none (some h) none)(hs:OpdR M look s (dt x))(hh:OpdR M look h (dt j))(hm:cutHO x j=some r)(ht:QZ P t=true:=by kernel_rfl):OpRel P M look o (dt r):=by
 unfold cutHO at hm;split at hm
 ·rename_i h;injection hm with hm;subst hm;exact op_cutH ho ht hs hh h.1 h.2
 ·cases hm
theorem xSliH{s:Operand}{x r:List α}{j:Int}(ho:o.op=.slice t s none (some h) none)(hs:OpdR M look s (dt x))(hh:OpdR M look h (dt j))(hm:WB x j=some r)(ht:slB P t (Rep.size α)=true:=by kernel_rfl):OpRel P M look o (dt r):=by
 unfold WB at hm;split at hm
 ·rename_i h;injection hm with hm;subst hm;exact zan ho (ht':=ht) hs hh (by omega) (by omega)
 ·cases hm
theorem xIdxT{s i:Operand}{xs:List α}{x:α}(ho:o.op=.indexAddr t s i)(ht':slB P t (Rep.size α)=true)(hs:OpdR M look s (dtip g e xs))(hi:OpdR M look i (dt m))(hm:atI xs m=some x):OpRel P M look o (dbox g (m.toNat*Rep.size α) x):=
 zc4 ho ht' hs hi (yL hm).1 (yL hm).2
end
section
def opH(o:Oper)(N:Nat):Option Nat:=match o.guard with
 |none=>match o.dst with
  | some d=>if d<N then some d else none
  | none=>none
 | some _=>none
theorem zQ(h:opH o N=some d):o.guard=none/\o.dst=some d/\d<N:=by
 unfold opH at h;grind
def opG(o:Oper)(N:Nat)(ops:Array Oper):Option (Nat×Nat×Nat×Bool):=match o.guard with
 | none=>none
 |some (j,want)=>match o.dst,(ops[j]?).bind (·.dst) with
  | some d,some e=>if d<N/\e<N then some (d,e,j,want) else none
  | _,_=>none
theorem xL{e:Nat}(h:opG o N ops=some (d,e,j,want)):o.guard=some (j,want)/\o.dst=some d/\(ops[j]?).bind (·.dst)=some e/\d<N/\e<N:=by
 unfold opG at h;grind
theorem sc(hh:opH o N=some d)(h:OpRel P M (λ s=>L.lookup s) o x)(hr:Seg P M ops N ((d,x)::L) rest L'):Seg P M ops N L (o::rest) L':=
 .cons (zQ hh).2.1 (zQ hh).2.2 (.plain (zQ hh).1 h) hr
theorem sg{e:Nat}(hh:opG o N ops=some (d,e,j,want))(hb:L.lookup e=some (dt b))(h:(b == want)=true->OpRel P M (λ s=>L.lookup s) o x)(hr:Seg P M ops N ((d,Dt.grd (b == want) x)::L) rest L'):Seg P M ops N L (o::rest) L':=
 .cons (xL hh).2.1 (xL hh).2.2.2.1 (.guarded (xL hh).1 (xL hh).2.2.1 (xL hh).2.2.2.2 hb zy h) hr
theorem sgg{e:Nat}{c:Bool}(hh:opG o N ops=some (d,e,j,want))(hb:L.lookup e=some (Dt.grd c (dt b)))(h:(c&&(b == want))=true->OpRel P M (λ s=>L.lookup s) o x)(hr:Seg P M ops N ((d,Dt.grd (c&&(b == want)) x)::L) rest L'):Seg P M ops N L (o::rest) L':=
 .cons (xL hh).2.1 (xL hh).2.2.2.1 (.guarded2 (xL hh).1 (xL hh).2.2.1 (xL hh).2.2.2.2 hb zy h) hr
section
variable{xs:List (Nat×Dt)}
theorem rc(hh:opH o N=some d)(hx:D[i]?=some x)(h:OpRel P M (YM (S.getD i []) L D) o x)(hr:RegR P M ops N S L D (i+1) rest xs):RegR P M ops N S L D i (o::rest) ((d,x)::xs):=
 .cons (zQ hh).2.1 (zQ hh).2.2 hx (.plain (zQ hh).1 h) hr
theorem rg{e:Nat}(hh:opG o N ops=some (d,e,j,want))(hb:YM (S.getD i []) L D e=some (dt b))(hx:D[i]?=some (Dt.grd (b == want) x))(h:(b == want)=true->OpRel P M (YM (S.getD i []) L D) o x)(hr:RegR P M ops N S L D (i+1) rest xs):RegR P M ops N S L D i (o::rest) ((d,Dt.grd (b == want) x)::xs):=
 .cons (xL hh).2.1 (xL hh).2.2.2.1 hx (.guarded (xL hh).1 (xL hh).2.2.1 (xL hh).2.2.2.2 hb zy h) hr
end
def selP:List Nat->Env->Option Env
 | [],_=>some []
 |k::ks,L=>match L.lookup k with
  |some x=>match x.nb with
   |true=>match selP ks L with
    | some r=>some ((k,x)::r)
    | none=>none
   | false=>none
  | none=>none
theorem wc:∀ {ks:List Nat} {L2:Env},selP ks L=some L2->Pick (λ x=>x.nb=true) L L2
 | [],L2,h=>by simp[selP] at h;subst h;exact .nil
 |k::ks,L2,h=>by
  unfold selP at h;split at h
  ·rename_i x hx;split at h
   ·rename_i hn;split at h
    ·rename_i r hr;injection h with h;subst h;exact .cons hx hn (wc hr)
    ·cases h
   ·cases h
  ·cases h
def selQ:List (Nat×Nat)->Env->Option (List (Nat×Nat×Dt))
 | [],_=>some []
 |(k,p)::ks,L=>match L.lookup k with
  |some x=>match selQ ks L with
   | some r=>some ((k,p,x)::r)
   | none=>none
  | none=>none
def envO:List (Nat×Nat×Dt)->Env
 | []=>[]
 | (s,_,x)::r=>(s,x)::envO r
theorem selQ_spec:∀ {ks:List (Nat×Nat)} {O:List (Nat×Nat×Dt)},selQ ks L=some O->∀ q∈O,L.lookup q.1=some q.2.2
 | [],O,h=>by simp[selQ] at h;subst h;intro q hq;cases hq
 |(k,p)::ks,O,h=>by
  unfold selQ at h;split at h
  ·rename_i x hx;split at h
   ·rename_i r hr;injection h with h;subst h;intro q hq;rcases am.1 hq with rfl | hq
    ·exact hx
    ·exact selQ_spec hr q hq
   ·cases h
  ·cases h
end
def zj(Gs:List (Nat->Prop))(p b:Nat):Prop:=match Gs[p]? with
 | some G=>G b
 | none=>False
structure Objs(F:Frm)(M0 M:Nat->Prop)(Gs:List (Nat->Prop)):Prop where
 sub:∀ b,M0 b->M b
 at_:∀ p b,zj Gs p b->F.Own b/\M b/\¬ M0 b
 apart:∀ p q b,p≠q->zj Gs p b->¬ zj Gs q b
def AllOw(Gs:List (Nat->Prop)):List (Nat×Nat×Dt)->Prop
 | []=>True
 | q::r=>(∀ b,q.2.2.own b->zj Gs q.2.1 b)/\AllOw Gs r
variable{α β:Type}
theorem AllOw.get{Gs:List (Nat->Prop)}:∀ {O:List (Nat×Nat×Dt)},AllOw Gs O->∀ q∈O,∀ b,q.2.2.own b->zj Gs q.2.1 b
 |_::_,h,q,hq=>by
  rcases am.1 hq with rfl | hq
  ·exact h.1
  ·exact AllOw.get h.2 q hq
theorem AllOw.of{Gs:List (Nat->Prop)}:∀ {O:List (Nat×Nat×Dt)},(∀ q∈O,∀ b,q.2.2.own b->zj Gs q.2.1 b)->AllOw Gs O
 | [],_=>trivial
 | q::_,h=>⟨h q (by simp),AllOw.of λ r hr=>h r (by simp[hr])⟩
theorem zk{p:Nat}{b:Nat}(hp:p<Gs.length):zj (Gs.set p G) p b=G b:=by simp[zj,hp]
theorem zq{p q:Nat}{b:Nat}(h:p≠q):zj (Gs.set p G) q b=zj Gs q b:=by simp[zj,ba h]
structure Sx(F:Frm)(N:Nat)(M0 M:Nat->Prop)(Gs:List (Nat->Prop))(L:Env)(O:List (Nat×Nat×Dt))(a:Act)(w:World):Prop where
 st:St F N M (L++envO O) a w
 ob:Objs F M0 M Gs
 no:∀ s x,L.lookup s=some x->x.nb=true
 ow:AllOw Gs O
theorem yF{l r:List (Nat×α)}{x:α}(h:l.lookup s=some x):(l++r).lookup s=some x:=by
 grind
theorem yi{l r:List (Nat×α)}(h:l.lookup s=none):(l++r).lookup s=r.lookup s:=by
 grind
theorem yq{l r:List (Nat×α)}{x:α}(h:(l++r).lookup s=some x):l.lookup s=some x\/(l.lookup s=none/\r.lookup s=some x):=by
 cases hl:l.lookup s with
 | none=>exact .inr ⟨Z,by rwa[yi hl] at h⟩
 | some y=>left;grind
theorem lookup_mem{l:List (Nat×α)}{x:α}(h:l.lookup s=some x):(s,x)∈l:=jp l s x h
theorem Jh:∀ {O:List (Nat×Nat×Dt)} {s:Nat} {x:Dt},(envO O).lookup s=some x->∃ p,(s,p,x)∈O
 |(k,p,y)::O,s,x,h=>by
  simp only[envO,ae] at h;cases hb:s == k with
  |true=>
   simp only[hb] at h;injection h with h;subst h;have:s=k:=by simpa using hb
   subst this;exact⟨p,by simp⟩
  |false=>simp only[hb] at h;obtain⟨q,hq⟩:=Jh h;exact⟨q,by simp[hq]⟩
section
variable{fn:Func}{l:List Oper}{p:Nat}
variable{B α β σ:Type}
theorem St.env{E':Env}(h:St F N M E a w)(hs:∀ s x,E'.lookup s=some x->E.lookup s=some x):St F N M E' a w:=
 ⟨h.fr,h.size,h.defers,h.mok,λ s x hx=>h.has s x (hs s x hx)⟩
theorem envO_sel(hq:selQ qp E=some O2):∀ s x,(envO O2).lookup s=some x->E.lookup s=some x:=λ s x hx=>by
 obtain⟨p,hp⟩:=Jh hx;exact selQ_spec hq _ hp
theorem sel_env(hk:selP ks E=some L2)(hq:selQ qp E=some O2):∀ s x,(L2++envO O2).lookup s=some x->E.lookup s=some x:=λ s x hx=>by
 rcases yq hx with h | ⟨_,h⟩
 ·exact((wc hk).spec s x h).1
 ·exact envO_sel hq s x h
theorem Sx.of_st(h:St F N M E a w)(ob:Objs F M0 M Gs)(hk:selP ks E=some L2)(hq:selQ qp E=some O2)(hw:AllOw Gs O2):Sx F N M0 M Gs L2 O2 a w:=
 ⟨h.env (sel_env hk hq),ob,λ s x hx=>((wc hk).spec s x hx).2,hw⟩
theorem Sx.sel(h:Sx F N M0 M Gs L O a w)(ks:List Nat)(hk:selP ks (L++envO O)=some L2)(qp:List (Nat×Nat))(hq:selQ qp (L++envO O)=some O2)(hw:AllOw Gs O2):Sx F N M0 M Gs L2 O2 a w:=.of_st h.st h.ob hk hq hw
theorem Sx.sel0(h:Sx F N M0 M Gs L O a w)(ks:List Nat)(hk:selP ks (L++envO O)=some L2:=by rfl):Sx F N M0 M Gs L2 [] a w:=.of_st h.st h.ob hk (qp:=[]) Z trivial
theorem Sx.seg(h:Sx F N M0 M Gs L O a w)(n:Nat)(hs:Seg P M ops N (L++envO O) (l.take n) L')(ks:List Nat)(hk:selP ks L'=some L2)(qp:List (Nat×Nat))(hq:selQ qp L'=some O2)(hw:AllOw Gs O2)
  (hQ:∀ a' w',Sx F N M0 M Gs L2 O2 a' w'->wpList P ops Q (l.drop n) a' w'):wpList P ops Q l a w:=by
 have:=zal hs h.st (λ a' w' he hst'=>hQ a' w' (.of_st hst' h.ob hk hq hw));simp_all
theorem Sx.rg(h:Sx F N M0 M Gs L O a w){id:Nat}(hs:Seg P M ops N (L++envO O) ops.toList L')(ks:List Nat)(hk:selP ks L'=some L2)(qp:List (Nat×Nat))(hq:selQ qp L'=some O2)(hw:AllOw Gs O2)
  (hQ:∀ a' w',Sx F N M0 M Gs L2 O2 a' w'->Q .normal a' w'):(Code.region id ops false).wp P Q a w:=by
 refine QY ?_;have:=zal hs h.st (λ a' w' he hst'=>Wz (hQ a' w' (.of_st hst' h.ob hk hq hw)));grind
theorem Sx.dr(h:Sx F N M0 M Gs L O a w){id:Nat}{xs:List (Nat×Dt)}(hm:P.follows .mixedOrders=true)(S:List (List (Nat×Option Nat)))(hc:jf ops ops.size (cloT ops) S=true)
  (hs:RegR P M ops N S (L++envO O) D 0 ops.toList xs) (ks:List Nat) (hk:selP ks (xs++(L++envO O))=some L2) (qp:List (Nat×Nat)) (hq:selQ qp (xs++(L++envO O))=some O2) (hw:AllOw Gs O2)
  (hQ:∀ a' w',Sx F N M0 M Gs L2 O2 a' w'->Q .normal a' w'):(Code.region id ops true).wp P Q a w:=
 Qq hm ops.size _ S hc (ak _) h.st (by rwa[show ops.size=ops.toList.length from by simp,aL]) (λ a' w' he hst'=>by
  rw[show ops.size=ops.toList.length from by simp,bR];exact Wz (hQ a' w' (.of_st hst' h.ob hk hq hw)))
theorem Sx.drn(h:Sx F N M0 M Gs L O a w){id:Nat}{xs:List (Nat×Dt)}(hm:P.follows .mixedOrders=true)(k:Nat)(S:List (List (Nat×Option Nat)))(hc:jf ops k (cloT ops) S=true)(hkn:k<=ops.size)
  (hs:RegR P M ops N S (L++envO O) D 0 (ops.toList.take k) xs) (ks:List Nat) (hk:selP ks (xs++(L++envO O))=some L2) (qp:List (Nat×Nat)) (hq:selQ qp (xs++(L++envO O))=some O2) (hw:AllOw Gs O2)
  (hQ:∀ a' w',Sx F N M0 M Gs L2 O2 a' w'->wpList P ops Q (ops.toList.drop k) a' w'):(Code.region id ops true).wp P Q a w:=
 Qq hm k _ S hc hkn h.st hs λ a' w' _he hst'=>hQ a' w' (.of_st hst' h.ob hk hq hw)
theorem Sx.cs{c:Nat}{x z:Code}{A B:Option β}{r:β}(h:Sx F N M0 M Gs L O a w)(hm:(if b=true then A else B)=some r)(ht:b=true->A=some r->x.wp P Q a w)(hf:b=false->B=some r->z.wp P Q a w)(hl:L.lookup c=some (dt b):=by rfl):(Code.cond (.tmp c) x z).wp P Q a w:=
 zR h.st (yF hl) (λ hb=>ht hb (by rw[Kc hb] at hm;exact hm)) (λ hb=>hf hb (by rw[Kd (by rw[hb];decide)] at hm;exact hm))
theorem XW{c1 c2:Code}(I:Act->World->Prop)(h1:c1.wp P (Exit.then I Q) a w)(h2:∀ a' w',I a' w'->c2.wp P Q a' w'):(Code.seq c1 c2).wp P Q a w:=
 Ka (bQ (λ e a' w' q=>by
  cases e with
  | normal=>exact h2 a' w' q
  | _=>exact q) h1)
theorem zaq{step:σ->Option (σ⊕β)}{s0:σ}{o:β}(hm:zE step s0=some o)(Inv:σ->Act->World->Prop)(h0:Inv s0 a w)
  (round:∀ s x a w,Inv s a w->step s=some x->(∀ b,x=.inr b->b=o)->c.wp P (Exit.then (λ a' w'=>∃ s',x=.inl s'/\Inv s' a' w') Q) a w):(Code.loop c).wp P Q a w:=by
 unfold zE at hm;refine YF (λ i a w=>jr step i.1 i.2=some o/\Inv i.2 a w) (λ i=>i.1) (_,s0) ⟨hm,h0⟩ ?_
 rintro ⟨n,s⟩ a w ⟨hn,hI⟩
 cases n with
 | zero=>simp[jr] at hn
 |succ n=>
  unfold jr at hn;cases hs:step s with
  | none=>rw[hs] at hn;cases hn
  |some x=>
   rw[hs] at hn;refine bQ (λ e a' w' q=>?_) (round s x a w hI hs (λ b hb=>by subst hb;exact bP hn));cases e with
   |normal=>obtain⟨s',rfl,hI'⟩:=q;exact⟨(n,s'),⟨hn,hI'⟩,Nat.lt_succ_self n⟩
   | _=>exact q
theorem lo{b o:β}{x:σ⊕β}(h:some (Sum.inr b)=some x)(hx:∀ b,x=.inr b->b=o):some b=some o:=by
 grind
theorem jo{T:Type}{t:T}{o:B⊕T}{K:B->Option T}{r:Option T}(h:some (Sum.inr t)=some o)(hk:Sum.elim K some o=r):some t=r:=by
 grind
theorem Sx.nom(h:Sx F N M0 M Gs L O a w)(hx:x.rd M w v):x.rd M0 w v:=x.weak hx λ k _ hk=>h.ob.sub k hk
theorem Sx.ret{α:Type}[Rep α]{t:Nat}{x r:α}(h:Sx (Frm.of w0) N M0 M Gs L O a w)(hr:fn.results=#[.tmp t])(hl:(L++envO O).lookup t=some (dt x))(hm:some x=some r):bodyPost P fn (RetP M0 w0 (dt r)) .ret a w:=by
 injection hm with hm;subst hm;exact zc3 hr h.st hl λ v hv=>h.nom hv
theorem tip_frz[Rep α]{xs:List α}(h:Sx F N M0 M Gs L O a w)(hv:(dtip g e xs).rd M w v)(hg:∀ b,g=some b->zj Gs p b):(dt xs).rd M0 w v:=
 Jg hv (λ b _ hb=>h.ob.sub b hb) λ b hb=>(h.ob.at_ p b (hg b hb)).2.2
theorem Sx.ret_own[Rep α]{t:Nat}{x r:List α}(h:Sx (Frm.of w0) N M0 M Gs L O a w)(p:Nat)(hr:fn.results=#[.tmp t])(hl:(L++envO O).lookup t=some (dtip g e x))(hg:∀ b,g=some b->zj Gs p b)(hm:some x=some r):bodyPost P fn (RetO e M0 w0 r) .ret a w:=by
 injection hm with hm;subst hm;refine⟨h.st.defers,_,cQ hr a.tmps P w,_,g,Z,h.st.fr,λ b hb=>⟨(h.ob.at_ p b (hg b hb)).1,h.st.mok b (h.ob.at_ p b (hg b hb)).2.1⟩,(dtip g e x).weak (h.st.has t _ hl) λ k _ hk=>?_⟩;rcases hk with hk | hk
 ·exact h.ob.sub k hk
 ·exact(h.ob.at_ p k (hg k hk)).2.1
theorem Sx.ret_take[Rep α]{t:Nat}{x r:List α}(h:Sx (Frm.take w0 g) N M0 M Gs L O a w)(p:Nat)(hr:fn.results=#[.tmp t])(hl:(L++envO O).lookup t=some (dtip g' e x))(hg:∀ b,g'=some b->zj Gs p b)(hm:some x=some r):bodyPost P fn (RetT e M0 w0 g r) .ret a w:=by
 injection hm with hm;subst hm;refine⟨h.st.defers,_,cQ hr a.tmps P w,_,g',Z,h.st.fr,?_,λ b hb=>h.st.mok b (h.ob.at_ p b (hg b hb)).2.1,(dtip g' e x).weak (h.st.has t _ hl) λ k _ hk=>?_⟩
 ·cases g' with
  | none=>exact .inr λ b hb=>by cases hb
  |some b=>
   rcases(h.ob.at_ p b (hg b rfl)).1 with h1 | h1
   ·exact .inl h1.symm
   ·exact .inr λ k hk=>by injection hk with hk;omega
 ·rcases hk with hk | hk
  ·exact h.ob.sub k hk
  ·exact(h.ob.at_ p k (hg k hk)).2.1
theorem Sx.ret_box[Rep α]{t:Nat}{x r:α}(h:Sx (Frm.of w0) N M0 M Gs L O a w)(hr:fn.results=#[.cell t ty])(ht:tyB P ty (Rep.agg α) (Rep.size α)=true)(hl:(L++envO O).lookup t=some (dbox g 0 x))(hm:some x=some r):
  bodyPost P fn (RetP M0 w0 (dt r)) .ret a w:=by
 injection hm with hm;subst hm;exact ret_cell hr ht h.st hl λ v hv=>h.nom hv
theorem RdAll.stable{us:List Value}{xs:List Dt}(hr:RdAll M w us xs)(hn:∀ x∈xs,x.nb=true)(e:Same M noB w w'):RdAll M w' us xs:=by
 induction hr with
 | nil=>exact .nil
 |cons h r ih=>rename_i v x vs xs';exact .cons (x.stable h λ k hk hm=>e k hk (hm.elim .inl λ ho=>(x.nob (hn x (by simp)) k ho).elim)) (ih λ y hy=>hn y (by simp[hy]))
theorem RdAll.weak{us:List Value}{xs:List Dt}(hr:RdAll M w us xs)(e:∀ k,k<w.heap.size->M' k->M k):RdAll M' w us xs:=by
 induction hr with
 | nil=>exact .nil
 |cons h r ih=>rename_i v x vs xs';exact .cons (x.weak h e) ih
def dtup(xs:List Dt):Dt where
 rd M w v:=∃ us,v=.tuple us.toArray/\RdAll M w us xs/\∀ x∈xs,x.nb=true
 own:=noB
 nb:=true
 nob _ _ h:=h
 stable:=by
  rintro M w w' v ⟨us,hv,hr,hn⟩ e
  exact⟨us,hv,hr.stable hn e,hn⟩
 weak:=by
  rintro M M' w v ⟨us,hv,hr,hn⟩ e
  exact⟨us,hv,hr.weak e,hn⟩
theorem RdAll.at:∀ {us:List Value} {xs:List Dt},RdAll M w us xs->∀ {i:Nat} {x:Dt},xs[i]?=some x->∃ u,us[i]?=some u/\x.rd M w u
 | _,_,.cons h r,0,x,hi=>by simp at hi;subst hi;exact⟨_,Z,h⟩
 |_,_,.cons h r,i+1,x,hi=>by
  obtain⟨u,h1,h2⟩:=RdAll.at r (i:=i) (by simpa using hi);exact⟨u,by simpa using h1,h2⟩
theorem xExt{look:Nat->Option Dt}(ho:o.op=.extract q i)(hp:OpdR M look q (dtup xs))(hx:xs[i]?=some x):OpRel P M look o x:=
 zC λ a w _ hl=>by
  obtain⟨us,hv,hr,_⟩:=hp w a hl;obtain⟨u,h1,h2⟩:=hr.at hx;exact⟨u,by unfold execOp;rw[ho];simp[hv,Instr.extract,h1],h2⟩
theorem Sx.ret2{t:Nat}{y:Dt}(h:Sx (Frm.of w0) N M0 M Gs L O a w)(hx:x.rd M0 w (Act.at a t))(hy:y.rd M0 w (Act.at a u))(hn:x.nb=true/\y.nb=true)(hr:fn.results=#[.tmp t,.tmp u]:=by rfl)(hR:R=dtup [x,y]:=by rfl):bodyPost P fn (RetP M0 w0 R) .ret a w:=by
 subst hR;exact⟨h.st.defers,_,results_tmp2 hr a.tmps P w,_,Z,h.st.fr,[_,_],Z,.cons hx (.cons hy .nil),λ z hz=>by
  simp at hz;rcases hz with rfl | rfl
  ·exact hn.1
  ·exact hn.2⟩
theorem Sx.ret3{t v:Nat}{y z:Dt}(h:Sx (Frm.of w0) N M0 M Gs L O a w)(hx:x.rd M0 w (Act.at a t))(hy:y.rd M0 w (Act.at a u))(hz:z.rd M0 w (Act.at a v))(hn:x.nb=true/\y.nb=true/\z.nb=true)(hr:fn.results=#[.tmp t,.tmp u,.tmp v]:=by rfl)(hR:R=dtup [x,y,z]:=by rfl):bodyPost P fn (RetP M0 w0 R) .ret a w:=by
 subst hR;exact⟨h.st.defers,_,results_tmp3 hr a.tmps P w,_,Z,h.st.fr,[_,_,_],Z,.cons hx (.cons hy (.cons hz .nil)),λ q hq=>by
  simp at hq;rcases hq with rfl | rfl | rfl
  ·exact hn.1
  ·exact hn.2.1
  ·exact hn.2.2⟩
theorem Sx.frozen(h:Sx F N M0 M Gs L O a w){t:Nat}(hl:(L++envO O).lookup t=some x:=by rfl):x.rd M0 w (Act.at a t):=h.nom (h.st.has t x hl)
theorem Sx.frozenT[Rep α]{xs:List α}(h:Sx F N M0 M Gs L O a w){t:Nat}(p:Nat)(hl:(L++envO O).lookup t=some (dtip g e xs))(hg:∀ b,g=some b->zj Gs p b):(dt xs).rd M0 w (Act.at a t):=tip_frz h (h.st.has t _ hl) hg
def Ji:Env->Bool
 | []=>true
 | (_,x)::r=>x.nb&&Ji r
theorem XU:∀ {E:Env},Ji E=true->∀ s x,E.lookup s=some x->x.nb=true
 |(k,y)::r,h,s,x,hx=>by
  simp only[Ji,af] at h;simp only[ae] at hx;split at hx
  ·injection hx with hx;subst hx;exact h.1
  ·exact XU h.2 s x hx
theorem J4:∀ {n p b:Nat},¬ zj (List.replicate n (oneB none)) p b:=λ{n p b} h=>by
 unfold zj at h;split at h
 ·rename_i G hG;have:=ac hG;rw[List.mem_replicate] at this;rw[this.2] at h;cases h
 ·exact h
theorem Sx.start(n:Nat)(h:St F N M L a w)(hn:Ji L=true):Sx F N M M (List.replicate n (oneB none)) L [] a w:=
 ⟨by simpa[envO] using h,⟨λ _ h=>h,λ _ _ h=>(J4 h).elim,λ _ _ _ _ h=>(J4 h).elim⟩,XU hn,trivial⟩
theorem fnx{y:Dt}(n:Nat)(hf:P.funcs[f]?=some fn)(hb:fn.body=some c)(hnb:Ji (zK 0 xs)=true)
  (h:∀ (M:Nat->Prop) (w:World) (a:Act),Sx (Frm.of w) fn.ntmps M M (List.replicate n (oneB none)) (zK 0 xs) [] a w->c.wp P (bodyPost P fn (RetP M w y)) a w)(hn:xs.length<=fn.ntmps:=by exact oD Z):Fn P f xs y:=
 xd hf hb (hn:=hn) λ M w a _ st=>h M w a (.start n st hnb)
theorem fnxO[Rep α]{y:List α}(n:Nat)(hf:P.funcs[f]?=some fn)(hb:fn.body=some c)(hn:xs.length<=fn.ntmps)(hnb:Ji (zK 0 xs)=true)
  (h:∀ (M:Nat->Prop) (w:World) (a:Act),Sx (Frm.of w) fn.ntmps M M (List.replicate n (oneB none)) (zK 0 xs) [] a w->c.wp P (bodyPost P fn (RetO e M w y)) a w):FnOwn P f xs e y:=
 own_of_wp hf hb hn λ M w a _ st=>h M w a (.start n st hnb)
theorem Sx.sq(h:Sx F N M0 M Gs L O a w){id:Nat}{c2:Code}(hs:Seg P M ops N (L++envO O) ops.toList L')(ks:List Nat)(hk:selP ks L'=some L2)(qp:List (Nat×Nat))(hq:selQ qp L'=some O2)(hw:AllOw Gs O2)
  (hQ:∀ a' w',Sx F N M0 M Gs L2 O2 a' w'->c2.wp P Q a' w'):(Code.seq (Code.region id ops false) c2).wp P Q a w:=
 Ka (h.rg hs ks hk qp hq hw λ a' w' st=>za (hQ a' w' st))
theorem Sx.sq0(h:Sx F N M0 M Gs L O a w){id:Nat}{c2:Code}(hs:Seg P M ops N (L++envO O) ops.toList L')(ks:List Nat)(hk:selP ks L'=some L2)
  (hQ:∀ a' w',Sx F N M0 M Gs L2 [] a' w'->c2.wp P Q a' w'):(Code.seq (Code.region id ops false) c2).wp P Q a w:=h.sq hs ks hk [] Z trivial hQ
theorem Sx.rg0(h:Sx F N M0 M Gs L O a w){id:Nat}(hs:Seg P M ops N (L++envO O) ops.toList L')(ks:List Nat)(hk:selP ks L'=some L2)
  (hQ:∀ a' w',Sx F N M0 M Gs L2 [] a' w'->Q .normal a' w'):(Code.region id ops false).wp P Q a w:=h.rg hs ks hk [] Z trivial hQ
theorem jn{T:Type}{b:B}{K:B->Option T}{r:Option T}(hk:Sum.elim K some (Sum.inl b)=r):K b=r:=hk
section
variable{look:Nat->Option Dt}
theorem tp(h:look s=some x):OpdR M look (.tmp s) x:=zb h
theorem T{look:Nat->Option Dt}(h:look s=some x:=by rfl):OpdR M look (.tmp s) x:=tp h
theorem V{look:Nat->Option Dt}{c:Bool}(hc:c=true:=by assumption)(h:look s=some (Dt.grd c x):=by rfl):OpdR M look (.tmp s) x:=zi hc h
theorem cI{n:Int}:OpdR M look (.const (.int .i64 n)) (dt n):=yl
theorem cB:OpdR M look (.const (.bool b)) (dt b):=opd_bool
theorem oM(ho:o.op=.move q)(h:OpdR M look q x):OpRel P M look o x:=zD ho h
theorem oA(ho:o.op=.assign q)(h:OpdR M look q x):OpRel P M look o x:=xo ho h
theorem oCI{x:Operand}{n:Int}(ho:o.op=.binOp op t x y t')(hx:OpdR M look x (dt m))(hy:OpdR M look y (dt n))(hop:op=.eql\/op=.neq\/op=.lss\/op=.leq\/op=.gtr\/op=.geq:=by decide):OpRel P M look o (dt (cmpI op m n)):=qC ho (hop:=hop) hx hy
theorem oCB{x:Operand}{m n:UInt8}(ho:o.op=.binOp op t x y t')(hx:OpdR M look x (dt m))(hy:OpdR M look y (dt n))(hop:op=.eql\/op=.neq\/op=.lss\/op=.leq\/op=.gtr\/op=.geq:=by decide):OpRel P M look o (dt (cmpB op m n)):=op_cmpB ho (hop:=hop) hx hy
end
def findO(k:Nat):List (Nat×Nat×Dt)->Option (Nat×Dt)
 | []=>none
 |(s,p,x)::r=>match k == s with
  | true=>some (p,x)
  | false=>findO k r
def selR(L:Env)(O:List (Nat×Nat×Dt)):List Nat->Nat->Option (List (Nat×Nat×Dt))
 | [],_=>some []
 |k::ks,p=>match L.lookup k with
  | some _=>none
  |none=>match findO k O with
   | none=>none
   |some (q,x)=>match q == p with
    | true=>none
    |false=>match selR L O ks p with
     | some r=>some ((k,q,x)::r)
     | none=>none
theorem find_env:∀ {O:List (Nat×Nat×Dt)} {k p:Nat} {x:Dt},findO k O=some (p,x)->(k,p,x)∈O/\(envO O).lookup k=some x
 |(s,q,y)::O,k,p,x,h=>by
  unfold findO at h;simp only[envO,ae];split at h
  ·rename_i hk;injection h with h;injection h with h1 h2;subst h1 h2;have hk':k=s:=by simpa using hk
   subst hk';exact⟨by simp,by simp⟩
  ·rename_i hk;obtain⟨h1,h2⟩:=find_env h;exact⟨by simp[h1],by simp only[hk];exact h2⟩
theorem ZB:∀ {ks:List Nat} {O2:List (Nat×Nat×Dt)},selR L O ks p=some O2->∀ q∈O2,q∈O/\q.2.1≠p/\(L++envO O).lookup q.1=some q.2.2
 | [],O2,h=>by simp[selR] at h;subst h;intro q hq;cases hq
 |k::ks,O2,h=>by
  unfold selR at h;split at h
  ·cases h
  ·rename_i hl;split at h
   ·cases h
   ·rename_i q x hq;split at h
    ·cases h
    ·rename_i hp;split at h
     ·rename_i r hr;injection h with h;subst h;intro q' hq';rcases am.1 hq' with rfl | hq'
      ·obtain⟨h1,h3⟩:=find_env hq;refine⟨h1,by simpa using hp,?_⟩;rw[yi hl];exact h3
      ·exact ZB hr q' hq'
     ·cases h
theorem Objs.upd(ob:Objs F M0 M Gs)(hp:p<Gs.length)(hj:F.J w)(hmok:∀ b,M b->b<w.heap.size)(hG:∀ b,G' b->zj Gs p b\/w.heap.size<=b):Objs F M0 (λ b=>(M b/\¬ zj Gs p b)\/G' b) (Gs.set p G'):=by
 refine⟨λ b hb=>.inl ⟨ob.sub b hb,λ ho=>(ob.at_ p b ho).2.2 hb⟩,λ q b hb=>?_,λ q r b hne h1 h2=>?_⟩
 ·by_cases hq:p=q
  ·subst hq;rw[zk hp] at hb;rcases hG b hb with h | h
   ·obtain⟨h1,h2,h3⟩:=ob.at_ p b h;exact⟨h1,.inr hb,h3⟩
   ·exact⟨F.fresh hj b h,.inr hb,λ hm=>by have:=hmok b (ob.sub b hm);omega⟩
  ·rw[zq hq] at hb;obtain⟨h1,h2,h3⟩:=ob.at_ q b hb;exact⟨h1,.inl ⟨h2,λ ho=>ob.apart p q b hq ho hb⟩,h3⟩
 ·by_cases hq:p=q
  ·subst hq;rw[zk hp] at h1;rw[zq hne] at h2;rcases hG b h1 with h | h
   ·exact ob.apart p r b hne h h2
   ·have:=hmok b (ob.at_ r b h2).2.1;omega
  ·rw[zq hq] at h1;by_cases hr:p=r
   ·subst hr;rw[zk hp] at h2;rcases hG b h2 with h | h
    ·exact ob.apart q p b hne h1 h
    ·have:=hmok b (ob.at_ q b h1).2.1;omega
   ·rw[zq hr] at h2;exact ob.apart q r b hne h1 h2
theorem Sx.eff(h:Sx F N M0 M Gs L O a w)(hp:p<Gs.length)(hgr:Grown (zj Gs p) w w')(hG:∀ b,G' b->(zj Gs p b\/w.heap.size<=b)/\b<w'.heap.size)(hk:selP ks L=some L2)(hq:selR L O qs p=some O2):
  Sx F N M0 (λ b=>(M b/\¬ zj Gs p b)\/G' b) (Gs.set p G') L2 O2 a w':=by
 have key:∀ {x:Dt} {v:Value},x.rd M w v->(∀ b,x.own b->¬ zj Gs p b)->x.rd (λ b=>(M b/\¬ zj Gs p b)\/G' b) w' v:=λ{x v} hx ho=>by
  have h1:x.rd (λ b=>M b\/G' b) w v:=x.weak hx λ k hk hm=>by
   rcases hm with hm | hm
   ·exact hm
   ·rcases(hG k hm).1 with h2 | h2
    ·exact(h.ob.at_ p k h2).2.1
    ·omega
  have h2:=x.stable h1 λ k hk hm=>hgr.block k hk λ he=>by
   rcases hm with hm | hm
   ·exact hm (.inl (h.ob.at_ p k he).2.1)
   ·exact ho k hm he
  exact x.weak h2 λ k _ hm=>hm.imp (λ h=>h.1) id
 refine⟨⟨F.own h.st.fr hgr λ b hb=>(h.ob.at_ p b hb).1,h.st.size,h.st.defers,λ b hb=>?_,λ s x hx=>?_⟩,h.ob.upd hp h.st.fr h.st.mok λ b hb=>(hG b hb).1,λ s x hx=>((wc hk).spec s x hx).2,AllOw.of λ q hq' b hb=>?_⟩
 ·rcases hb with hb | hb
  ·exact ax (h.st.mok b hb.1) hgr.size
  ·exact(hG b hb).2
 ·rcases yq hx with h1 | ⟨_,h1⟩
  ·obtain⟨h2,h3⟩:=(wc hk).spec s x h1;exact key (h.st.has s x (yF h2)) λ b hb=>(x.nob h3 b hb).elim
  ·obtain⟨q,hq'⟩:=Jh h1;obtain⟨h2,h3,h4⟩:=ZB hq _ hq';exact key (h.st.has s x h4) λ b hb hb'=>h.ob.apart _ _ b h3 (h.ow.get _ h2 b hb) hb'
 ·obtain⟨h2,h3,h4⟩:=ZB hq _ hq';rw[zq (bo h3)];exact h.ow.get _ h2 b hb
theorem Sx.oc{α:Type}[Rep α]{F:Frm}{N:Nat}{M0 M:Nat->Prop}{Gs:List (Nat->Prop)}{L:Env}{O:List (Nat×Nat×Dt)}{a:Act}{w:World}{q:Operand}{x:α}(h:Sx F N M0 M Gs L O a w)(k:OpdR M (λ s=>(L++envO O).lookup s) q (dt x)):Rep.rdc M w (a.eval q).cells.toList x:=OpdR.cells k (λ s y hs=>h.st.has s y hs)
theorem Sx.putO(h:Sx F N M0 M Gs L O a w)(hN:d<N)(hdn:L.lookup d=none)(hx:x.rd M w v)(ho:∀ b,x.own b->zj Gs p b):Sx F N M0 M Gs L ((d,p,x)::O) (a.put (some d) v) w:=by
 refine⟨⟨h.st.fr,by rw[Act.put_size];exact h.st.size,by rw[Act.put_defers];exact h.st.defers,h.st.mok,λ s y hy=>?_⟩,h.ob,h.no,ho,h.ow⟩;by_cases hs:s=d
 ·subst hs;rw[yi hdn] at hy;simp[envO] at hy;subst hy;rw[Act.at_put_self (by rw[h.st.size];exact hN)];exact hx
 ·rw[Act.at_put_other (λ e=>hs (by injection e with e;exact e.symm))];refine h.st.has s y ?_;rcases yq hy with h1 | ⟨h0,h1⟩
  ·exact yF h1
  ·rw[yi h0];have hb:(s == d)=false:=by simpa using hs
   simpa[envO,ae,hb] using h1
theorem Sx.putL(h:Sx F N M0 M Gs L O a w)(hN:d<N)(hx:x.rd M w v)(hn:x.nb=true):Sx F N M0 M Gs ((d,x)::L) O (a.put (some d) v) w:=by
 refine⟨⟨h.st.fr,by rw[Act.put_size];exact h.st.size,by rw[Act.put_defers];exact h.st.defers,h.st.mok,λ s y hy=>?_⟩,h.ob,λ s y hy=>?_,h.ow⟩
 ·simp only[bL,ae] at hy;by_cases hs:s=d
  ·subst hs;simp at hy;subst hy;rw[Act.at_put_self (by rw[h.st.size];exact hN)];exact hx
  ·have hb:(s == d)=false:=by simpa using hs
   simp[hb] at hy;rw[Act.at_put_other (λ e=>hs (by injection e with e;exact e.symm))];exact h.st.has s y hy
 ·simp only[ae] at hy;split at hy
  ·injection hy with hy;subst hy;exact hn
  ·exact h.no s y hy
theorem Sx.addO(h:Sx F N M0 M Gs L O a w)(hdn:L.lookup d=none)(hx:x.rd M w (Act.at a d))(ho:∀ b,x.own b->zj Gs p b):Sx F N M0 M Gs L ((d,p,x)::O) a w:=by
 refine⟨⟨h.st.fr,h.st.size,h.st.defers,h.st.mok,λ s y hy=>?_⟩,h.ob,h.no,ho,h.ow⟩;by_cases hs:s=d
 ·subst hs;rw[yi hdn] at hy;simp[envO] at hy;subst hy;exact hx
 ·refine h.st.has s y ?_;rcases yq hy with h1 | ⟨h0,h1⟩
  ·exact yF h1
  ·rw[yi h0];have hb:(s == d)=false:=by simpa using hs
   simpa[envO,ae,hb] using h1
theorem yD(hg:Gs[p]?=some (oneB g)):∀ b,zj Gs p b ↔ g=some b:=λ b=>by unfold zj;rw[hg];rfl
theorem YE(hg:Gs[p]?=some G):p<Gs.length:=(ai.1 hg).1
theorem Grown.own(hg:Gs[p]?=some (oneB g))(h:w.grownBy w' g):Grown (zj Gs p) w w':=(Grown.of_grownBy h).mono λ b hb=>(yD hg b).2 hb
theorem Sx.app[Rep α]{x:Nat}{xs ys r:List α}{z:Dt}(h:Sx F N M0 M Gs L O a w)(p:Nat)(hh:opH o N=some d)
  (ho:o.op=.call { callee:=.builtin .append,args:=#[.tmp s,.tmp x],argTypes:=#[t,t] }) (hel:elB P t e (Rep.size α) bytes=true)
  (hs:(L++envO O).lookup s=some (dtip g e xs)) (hg:Gs[p]?=some (oneB g)) (hx:(L++envO O).lookup x=some z) (hz:IsRow z ys) (hm:appO bytes xs ys=some r)
  (ks:List Nat) (hk:selP ks L=some L2) (qs:List Nat) (hq:selR L O qs p=some O2) (hdn:L2.lookup d=none)
  (next:∀ g' M' a' w',Sx F N M0 M' (Gs.set p (oneB g')) L2 ((d,p,dtip g' e r)::O2) a' w'->wpList P ops Q rest a' w'):wpList P ops Q (o::rest) a w:=by
 obtain⟨hgd,hd,hN⟩:=zQ hh;unfold appO at hm;split at hm
 ·rename_i hsz;injection hm with hm;subst hm;have hMg:∀ k,insO g M k->M k:=λ k hk=>hk.elim id λ e=>(h.ob.at_ p k ((yD hg k).2 e)).2.1
  obtain⟨v',w',g',hrun,hv',hgr,hg',hlt⟩:=X8 (ty:=o.type) hel ((dtip g e xs).weak (h.st.has s _ hs) λ k _ hk=>hMg k hk) (hz _ _ _ (z.weak (h.st.has x _ hx) λ k _ hk=>hMg k hk)) hsz.1 (by unfold maxLen;omega);refine av hgd λ K hK=>OpOut.wp (OpOut.of_value (v:=v') (w':=w') ?_ ?_)
  ·unfold execOp;simp[ho,resolve,invoke,builtin,Act.eval_tmp,hrun]
  ·rw[hd];have h1:=h.eff (G':=oneB g') (YE hg) (Grown.own hg hgr) (λ b hb=>⟨(hg'.imp (λ e=>(yD hg b).2 (by rw[← e];exact hb)) λ e=>e b hb),hlt b hb⟩) hk hq;exact hK _ _ (next g' _ _ _ (h1.putO hN hdn ((dtip g' e _).weak hv' λ k _ hk=>hk.imp (λ h=>h.1) id) λ b hb=>by rw[zk (YE hg)];exact hb))
 ·cases hm
theorem Sx.make[Rep α]{d0:α}{n:Int}{r:List α}(h:Sx F N M0 M Gs L O a w)(p:Nat)(hh:opH o N=some d)(ho:o.op=.makeSlice t (.tmp s) (.tmp s))
  (hel:elB P t e (Rep.size α) bytes=true) (hzc:zeroCells P e=some zs) (hz:∀ (M:Nat->Prop) (w:World),Rep.rdc M w zs d0) (hs:(L++envO O).lookup s=some (dt n)) (hp:p<Gs.length) (hm:zaK (Rep.size α) bytes n d0=some r)
  (ks:List Nat) (hk:selP ks L=some L2) (qs:List Nat) (hq:selR L O qs p=some O2) (hdn:L2.lookup d=none)
  (next:∀ g' M' a' w',Sx F N M0 M' (Gs.set p (oneB g')) L2 ((d,p,dtip g' e r)::O2) a' w'->wpList P ops Q rest a' w'):wpList P ops Q (o::rest) a w:=by
 obtain⟨hgd,hd,hN⟩:=zQ hh;unfold zaK at hm;split at hm
 ·rename_i hc;injection hm with hm;subst hm;obtain⟨i,z,ht,hi,hzz,hs1,hs2,hs3⟩:=J3 hel;have hzs:z.cells.toList=zs:=by
   unfold zeroCells at hzc;rw[hi] at hzc;simpa[hzz] using hzc
  obtain⟨w',hrun,hown,hgr⟩:=run_makeSlice_full w 0 t e i z _ ht hi hzz hs1 .i64 .i64 n.toNat hc.2.1 (by rw[hs2];exact hc.2.2.1) (by unfold maxLen;omega) (ao _);have hex:Ext0 w w':=⟨hgr.os,hgr.tape,hgr.output,hgr.size,λ k hk=>hgr.block k hk (by simp)⟩;have hlt:=(hown.lt w.heap.size Z).2;have hsv:Act.at a s=.int .i64 (n.toNat:Int):=by rw[yx.1 (h.st.has s _ hs)];congr 1;omega
  refine av hgd λ K hK=>OpOut.wp (OpOut.of_value (v:=.slice (some ⟨w.heap.size,0,none⟩) n.toNat n.toNat) (w':=w') ?_ ?_)
  ·unfold execOp;rw[ho];simp only[Act.eval_tmp,hsv,an,hrun,ah,au]
  ·rw[hd];have h1:=h.eff (G':=oneB _) hp ((Grown.of_ext hex).mono λ b hb=>hb.elim) (λ b (hb:some w.heap.size=some b)=>by injection hb with hb;subst hb;exact⟨.inr (ak _),hlt⟩) hk hq;refine hK _ _ (next _ _ _ _ (h1.putO hN hdn ?_ λ b hb=>by rw[zk hp];exact hb));exact .inl ⟨_,by rw[cu];exact hown,row_made (by rw[hzs];exact hz) n.toNat,Z⟩
 ·cases hm
theorem Sx.alloc{α:Type}[Rep α]{t:Nat}{zs:List Value}{d0:α}(h:Sx F N M0 M Gs L O a w)(p:Nat)(hh:opH o N=some d)(ho:o.op=.alloc t)(hzc:zeroCells P t=some zs)(hz:∀ (M:Nat->Prop) (w:World),Rep.rdc M w zs d0)(hp:p<Gs.length)
  (ks:List Nat) (hk:selP ks L=some L2) (qs:List Nat) (hq:selR L O qs p=some O2) (hdn:L2.lookup d=none)
  (next:∀ b M' a' w',Sx F N M0 M' (Gs.set p (oneB (some b))) L2 ((d,p,dbox (some b) 0 d0)::O2) a' w'->wpList P ops Q rest a' w'):wpList P ops Q (o::rest) a w:=by
 obtain⟨hgd,hd,hN⟩:=zQ hh;obtain⟨i,z,hi,hzz,hzs⟩:∃ i z,P.info? t=some i/\i.zero=some z/\z.cells.toList=zs:=by
  unfold zeroCells at hzc;cases hi:P.info? t with
  | none=>rw[hi] at hzc;cases hzc
  |some i=>
   rw[hi] at hzc;cases hzz:i.zero with
   | none=>simp[hzz] at hzc
   | some z=>exact⟨i,z,Z,hzz,by simpa[hzz] using hzc⟩
 have he:Ext0 w (w.alloc (.cells z.cells t)):=Ext0.alloc _ _;refine av hgd λ K hK=>OpOut.wp (OpOut.of_value (v:=.pointer (some ⟨w.heap.size,0,none⟩)) (w':=w.alloc (.cells z.cells t)) ?_ ?_)
 ·unfold execOp;rw[ho];simp[Instr.alloc,zeroValue,typeInfo,hi,hzz,newVar,newRow]
 ·rw[hd];have h1:=h.eff (G':=oneB _) hp ((Grown.of_ext he).mono λ b hb=>hb.elim) (λ b (hb:some w.heap.size=some b)=>by injection hb with hb;subst hb;exact⟨.inr (ak _),by simp⟩) hk hq;refine hK _ _ (next w.heap.size _ _ _ (h1.putO hN hdn ?_ λ b hb=>by rw[zk hp];exact hb));exact⟨w.heap.size,Z,Z,z.cells,t,zs,cZ w _,λ j u hj=>by rw[aB,← cR,hzs];exact hj,hz _ _⟩
theorem Sx.store{α β:Type}[Rep α][Rep β]{t q sb:Nat}{vo:Operand}{g:Option Nat}{off:Nat}{x:α}{y0 y:β}{set:α->β->α}(h:Sx F N M0 M Gs L O a w)(p:Nat)(fs:FldS set off)(ho:o.op=.store t (.tmp q) vo)(hgd:o.guard=none)(hd:o.dst=none)
  (ht:tyB P t (Rep.agg β) (Rep.size β)=true) (hg:Gs[p]?=some (oneB g)) (hpl:(L++envO O).lookup q=some (dbox g off y0)) (hvl:OpdR M (λ s=>(L++envO O).lookup s) vo (dt y)) (hsl:(L++envO O).lookup sb=some (dbox g 0 x))
  (ks:List Nat) (hk:selP ks L=some L2) (qs:List Nat) (hq:selR L O qs p=some O2) (hdn:L2.lookup sb=none)
  (next:∀ M' w',Sx F N M0 M' Gs L2 ((sb,p,dbox g 0 (set x y))::O2) a w'->wpList P ops Q rest a w'):wpList P ops Q (o::rest) a w:=by
 obtain⟨b,rfl,hpv,_⟩:=h.st.has q _ hpl;have hob:=h.ob.at_ p b ((yD hg b).2 Z);obtain⟨b1,hb1,hsv,C,e,cs,hb,hc,hr⟩:=h.st.has sb _ hsl;injection hb1 with hb1;subst hb1;have hy:=XV (hvl w a λ s y hs=>h.st.has s y hs);obtain⟨hle,hset⟩:=fs.put hr hy;have hlc:cs.length<=C.size:=by
  rcases dN cs.length with h0 | h0
  ·omega
  ·have:=hc (cs.length - 1) _ (aa (by omega));have:=(aD.1 this).1;omega
 have hrun:=xy (off:=off) (by rw[Rep.len hy];exact ht) Z hb (by omega) (Rep.oneCell hy);generalize hcc:(a.eval vo).cells.toList=c at*;have hgr:w.grownBy (w.setRow b (C.toList.take off++c++C.toList.drop (off+c.length)).toArray) _:=yU;refine av hgd λ K hK=>OpOut.wp (OpOut.of_skip (w':=w.setRow b (C.toList.take off++c++C.toList.drop (off+c.length)).toArray) ?_ ?_)
 ·unfold execOp;rw[ho];have hpv':a.eval (.tmp q)=.pointer _:=hpv;simp[Instr.storeAt,Instr.sureAddr,hpv',hrun]
 ·rw[hd];have h1:=h.eff (G':=oneB _) (YE hg) (Grown.own hg hgr) (λ k (hk:some b=some k)=>by injection hk with hk;subst hk;exact⟨.inl ((yD hg b).2 Z),ax (xG hb) hgr.size⟩) hk hq;have hGs:Gs.set p (oneB (some b))=Gs:=by
   apply aX;intro n;by_cases hn:p=n
   ·subst hn;rw[aU (YE hg),hg]
   ·rw[ba hn]
  rw[hGs] at h1;refine hK _ _ (next _ _ (h1.addO hdn ?_ λ k (hk:some b=some k)=>(yD hg k).2 hk));refine⟨b,Z,hsv,_,e,cs.take off++c++cs.drop (off+c.length),ce w b C _ e _ hb,λ j u hj=>?_,?_⟩
  ·have hj':j<cs.length:=by
    have:=(ai.1 hj).1;simp at this;omega
   rw[aB];simp only[cU];rw[aA] at hj ⊢;by_cases h1:j<off
   ·rw[aK (by simp;omega)] at hj ⊢;rw[aE,Kc h1] at hj ⊢;have:=hc j u hj;simpa using this
   ·rw[aH (by simp;omega)] at hj ⊢;simp only[aI] at hj ⊢;rw[bq (by omega)] at hj;rw[bq (by simp;omega)];by_cases h2:j - off<c.length
    ·rw[aK h2] at hj ⊢;exact hj
    ·rw[aH (by omega)] at hj ⊢;rw[bJ] at hj ⊢;rw[show off+c.length+_=j by omega] at hj ⊢;have:=hc j u hj;simpa using this
  ·have hset':Rep.rdc (λ k=>(M k/\¬ zj Gs p k)\/oneB _ k) w _ _:=Rep.weak hset λ k _ hk=>hk.elim (λ h=>h.1) λ(e:some b=some k)=>by injection e with e;subst e;exact hob.2.1
   exact Rep.stable hset' λ k hk hm=>hgr.block k hk λ e=>by
    injection e with e;subst e;rcases hm with hm | hm
    ·exact hm (.inr Z)
    ·exact hm
theorem Sx.frz[Rep α]{xs:List α}(h:Sx F N M0 M Gs L O a w)(p:Nat)(hs:(L++envO O).lookup s=some (dtip g e xs))(hg:Gs[p]?=some (oneB g))
  (ks:List Nat) (hk:selP ks L=some L2) (qs:List Nat) (hq:selR L O qs p=some O2):Sx F N M0 (λ b=>M b/\¬ zj Gs p b) (Gs.set p (oneB none)) ((s,dt xs)::L2) O2 a w:=by
 have hsub:∀ k,k<w.heap.size->(M k/\¬ zj Gs p k)->M k:=λ k _ hk=>hk.1
 refine⟨⟨h.st.fr,h.st.size,h.st.defers,λ b hb=>h.st.mok b hb.1,λ s' x hx=>?_⟩,⟨λ b hb=>⟨h.ob.sub b hb,λ ho=>(h.ob.at_ p b ho).2.2 hb⟩,λ q b hb=>?_,λ q r b hne h1 h2=>?_⟩,λ s' x hx=>?_,AllOw.of λ q hq' b hb=>?_⟩
 ·simp only[bL,ae] at hx;by_cases he:s'=s
  ·subst he;simp at hx;subst hx;exact Jg (h.st.has s' _ hs) (λ b _ hb=>hb.1) λ b hb hm=>hm.2 ((yD hg b).2 hb)
  ·have hb:(s' == s)=false:=by simpa using he
   simp[hb] at hx;rcases yq hx with h1 | ⟨_,h1⟩
   ·exact x.weak (h.st.has s' x (yF ((wc hk).spec s' x h1).1)) hsub
   ·obtain⟨q,hq'⟩:=Jh h1;exact x.weak (h.st.has s' x (ZB hq _ hq').2.2) hsub
 ·by_cases hq':p=q
  ·subst hq';rw[zk (YE hg)] at hb;cases hb
  ·rw[zq hq'] at hb;obtain⟨h1,h2,h3⟩:=h.ob.at_ q b hb;exact⟨h1,⟨h2,λ ho=>h.ob.apart p q b hq' ho hb⟩,h3⟩
 ·by_cases hq':p=q
  ·subst hq';rw[zk (YE hg)] at h1;cases h1
  ·rw[zq hq'] at h1;by_cases hr:p=r
   ·subst hr;rw[zk (YE hg)] at h2;cases h2
   ·rw[zq hr] at h2;exact h.ob.apart q r b hne h1 h2
 ·simp only[ae] at hx;split at hx
  ·injection hx with hx;subst hx;rfl
  ·exact((wc hk).spec s' x hx).2
 ·obtain⟨h2,h3,_⟩:=ZB hq _ hq';rw[zq (bo h3)];exact h.ow.get _ h2 b hb
theorem Sx.rst(h:Sx F N M0 M Gs L O a w)(p:Nat)(ks:List Nat)(qs:List Nat)(hp:p<Gs.length:=by simp)(hk:selP ks L=some L2:=by rfl)(hq:selR L O qs p=some O2:=by rfl):Sx F N M0 (λ b=>(M b/\¬ zj Gs p b)\/oneB none b) (Gs.set p (oneB none)) L2 O2 a w:=
 h.eff (G':=oneB none) hp (Grown.refl _ w) (λ b (hb:none=some b)=>by cases hb) hk hq
theorem Sx.own[Rep α]{l:List Operand}{ys:List α}(h:Sx F N M0 M Gs L O a w)(p:Nat)(hh:opH o N=some d)
  (ho:o.op=.call { callee:=.value (.func f),args:=l.toArray,argTypes:=ts }) (hf:fnB P f=true) (hx:ArgsR M (λ s=>(L++envO O).lookup s) l xr) (hfn:FnOwn P f xr e ys) (hp:p<Gs.length)
  (ks:List Nat) (hk:selP ks L=some L2) (qs:List Nat) (hq:selR L O qs p=some O2) (hdn:L2.lookup d=none)
  (next:∀ g' M' a' w',Sx F N M0 M' (Gs.set p (oneB g')) L2 ((d,p,dtip g' e ys)::O2) a' w'->wpList P ops Q rest a' w'):wpList P ops Q (o::rest) a w:=by
 obtain⟨hgd,hd,hN⟩:=zQ hh;refine av hgd λ K hK=>OpOut.wp (OpOut.of_enter (f:=f) (args:=(l.map a.eval).toArray) (w':=w) ?_ ?_)
 ·unfold execOp;rw[ho];have e:a.eval (.func f)=.func _ #[] #[]:=rfl;simp[resolve,e,Deferred.ofValue,invoke,xX hf]
 ·refine(hfn M w _ h.st.mok (hx.all h.st.has)).mono λ en w' ⟨v',g',he,hex,hg',hv'⟩=>⟨v',he,?_⟩
  rw[hd];have h1:=h.eff (G':=oneB g') hp ((Grown.of_ext hex).mono λ b hb=>hb.elim) (λ b hb=>⟨.inr (hg' b hb).1,(hg' b hb).2⟩) hk hq;exact hK _ _ (next g' _ _ _ (h1.putO hN hdn ((dtip g' e ys).weak hv' λ k _ hk=>hk.imp (λ h=>h.1) id) λ b hb=>by rw[zk hp];exact hb))
theorem Sx.take[Rep α]{l:List Operand}{xs ys:List α}(h:Sx F N M0 M Gs L O a w)(p:Nat)(hh:opH o N=some d)
  (ho:o.op=.call { callee:=.value (.func f),args:=(.tmp s::l).toArray,argTypes:=ts }) (hf:fnB P f=true) (hs:(L++envO O).lookup s=some (dtip g e xs)) (hg:Gs[p]?=some (oneB g)) (hx:ArgsR M (λ s=>(L++envO O).lookup s) l xr) (hfn:zcE P f e xs xr ys)
  (ks:List Nat) (hk:selP ks L=some L2) (qs:List Nat) (hq:selR L O qs p=some O2) (hdn:L2.lookup d=none)
  (next:∀ g' M' a' w',Sx F N M0 M' (Gs.set p (oneB g')) L2 ((d,p,dtip g' e ys)::O2) a' w'->wpList P ops Q rest a' w'):wpList P ops Q (o::rest) a w:=by
 obtain⟨hgd,hd,hN⟩:=zQ hh;refine av hgd λ K hK=>OpOut.wp (OpOut.of_enter (f:=f) (args:=((Operand.tmp s::l).map a.eval).toArray) (w':=w) ?_ ?_)
 ·unfold execOp;rw[ho];have e:a.eval (.func f)=.func _ #[] #[]:=rfl;simp[resolve,e,Deferred.ofValue,invoke,xX hf]
 ·have hM:∀ k,insO g (λ b=>M b/\g≠some b) k ↔ M k:=λ k=>by
   refine⟨λ hk=>hk.elim (λ h=>h.1) λ e=>(h.ob.at_ p k ((yD hg k).2 e)).2.1,λ hk=>?_⟩;by_cases e:g=some k
   ·exact .inr e
   ·exact .inl ⟨hk,e⟩
  have hargs:=(hx.all h.st.has).weak λ k _ hk=>(hM k).1 hk
  refine(hfn (λ b=>M b/\g≠some b) g w _ _ (λ b hb=>h.st.mok b ((hM b).1 hb)) (λ b hb hm=>hm.2 hb) ((dtip g e xs).weak (h.st.has s _ hs) λ k _ hk=>(hM k).1 hk) hargs).mono λ en w' ⟨v',g',he,hgr,hg',hlt,hv'⟩=>⟨v',he,?_⟩
  rw[hd];have h1:=h.eff (G':=oneB g') (YE hg) (Grown.own hg hgr) (λ b hb=>⟨hg'.imp (λ e=>(yD hg b).2 (by rw[← e];exact hb)) λ e=>e b hb,hlt b hb⟩) hk hq;exact hK _ _ (next g' _ _ _ (h1.putO hN hdn ((dtip g' e ys).weak hv' λ k _ hk=>hk.imp (λ h=>⟨h.1,λ e=>h.2 ((yD hg k).2 e)⟩) id) λ b hb=>by rw[zk (YE hg)];exact hb))
end
structure Stmt where
 kind:Int
 module:Str
 level:Int
 name:Str
 value:Int
deriving DecidableEq,Inhabited
instance:Rep Stmt:=Rep.iso (λ x=>((x.kind,x.module,x.level,x.name,x.value):Int×Str×Int×Str×Int))
theorem Stmt.fld0:Fld (λ x:Stmt=>x.kind) 0:=⟨λ h=>(Fld.fst).sub h⟩
theorem Stmt.set0:FldS (λ(x:Stmt) y=>{ x with kind:=y }) 0:=⟨λ h k=>(FldS.fst).put h k⟩
theorem Stmt.fld1:Fld (λ x:Stmt=>x.module) 1:=⟨λ h=>((Fld.snd Fld.fst)).sub h⟩
theorem Stmt.set1:FldS (λ(x:Stmt) y=>{ x with module:=y }) 1:=⟨λ h k=>((FldS.snd FldS.fst)).put h k⟩
theorem Stmt.fld2:Fld (λ x:Stmt=>x.level) 2:=⟨λ h=>((Fld.snd (Fld.snd Fld.fst))).sub h⟩
theorem Stmt.set2:FldS (λ(x:Stmt) y=>{ x with level:=y }) 2:=⟨λ h k=>((FldS.snd (FldS.snd FldS.fst))).put h k⟩
theorem Stmt.fld3:Fld (λ x:Stmt=>x.name) 3:=⟨λ h=>((Fld.snd (Fld.snd (Fld.snd Fld.fst)))).sub h⟩
theorem Stmt.set3:FldS (λ(x:Stmt) y=>{ x with name:=y }) 3:=⟨λ h k=>((FldS.snd (FldS.snd (FldS.snd FldS.fst)))).put h k⟩
theorem Stmt.fld4:Fld (λ x:Stmt=>x.value) 4:=⟨λ h=>((Fld.snd (Fld.snd (Fld.snd (Fld.snd Fld.id))))).sub h⟩
theorem Stmt.set4:FldS (λ(x:Stmt) y=>{ x with value:=y }) 4:=⟨λ h k=>((FldS.snd (FldS.snd (FldS.snd (FldS.snd FldS.id))))).put h k⟩
theorem Stmt.parts{x:Stmt}(h0:Rep.rdc M w c0 x.kind)(h1:Rep.rdc M w c1 x.module)(h2:Rep.rdc M w c2 x.level)(h3:Rep.rdc M w c3 x.name)(h4:Rep.rdc M w c4 x.value):Rep.rdc M w [c0,c1,c2,c3,c4].flatten x:=by
 simp;exact⟨c0,_,Z,h0,⟨c1,_,Z,h1,⟨c2,_,Z,h2,⟨c3,_,Z,h3,h4⟩⟩⟩⟩
structure File where
 root:Int
 pkg:Str
 name:Str
 init:Bool
 stamp:Int
 body:List Stmt
deriving DecidableEq,Inhabited
instance:Rep File:=Rep.iso (λ x=>((x.root,x.pkg,x.name,x.init,x.stamp,x.body):Int×Str×Str×Bool×Int×List Stmt))
theorem File.fld0:Fld (λ x:File=>x.root) 0:=⟨λ h=>(Fld.fst).sub h⟩
theorem File.fld1:Fld (λ x:File=>x.pkg) 1:=⟨λ h=>((Fld.snd Fld.fst)).sub h⟩
theorem File.fld2:Fld (λ x:File=>x.name) 2:=⟨λ h=>((Fld.snd (Fld.snd Fld.fst))).sub h⟩
theorem File.fld3:Fld (λ x:File=>x.init) 3:=⟨λ h=>((Fld.snd (Fld.snd (Fld.snd Fld.fst)))).sub h⟩
theorem File.fld4:Fld (λ x:File=>x.stamp) 4:=⟨λ h=>((Fld.snd (Fld.snd (Fld.snd (Fld.snd Fld.fst))))).sub h⟩
theorem File.set4:FldS (λ(x:File) y=>{ x with stamp:=y }) 4:=⟨λ h k=>((FldS.snd (FldS.snd (FldS.snd (FldS.snd FldS.fst))))).put h k⟩
theorem File.fld5:Fld (λ x:File=>x.body) 5:=⟨λ h=>((Fld.snd (Fld.snd (Fld.snd (Fld.snd (Fld.snd Fld.id)))))).sub h⟩
theorem File.set5:FldS (λ(x:File) y=>{ x with body:=y }) 5:=⟨λ h k=>((FldS.snd (FldS.snd (FldS.snd (FldS.snd (FldS.snd FldS.id)))))).put h k⟩
theorem File.parts{x:File}(h0:Rep.rdc M w c0 x.root)(h1:Rep.rdc M w c1 x.pkg)(h2:Rep.rdc M w c2 x.name)(h3:Rep.rdc M w c3 x.init)(h4:Rep.rdc M w c4 x.stamp)(h5:Rep.rdc M w c5 x.body):Rep.rdc M w [c0,c1,c2,c3,c4,c5].flatten x:=by
 simp;exact⟨c0,_,Z,h0,⟨c1,_,Z,h1,⟨c2,_,Z,h2,⟨c3,_,Z,h3,⟨c4,_,Z,h4,h5⟩⟩⟩⟩⟩
structure Tree where
 files:List File
deriving DecidableEq,Inhabited
instance:Rep Tree:=Rep.iso (λ x=>(x.files:List File))
theorem Tree.fld0:Fld (λ x:Tree=>x.files) 0:=⟨λ h=>(Fld.id).sub h⟩
theorem Tree.parts{x:Tree}(h0:Rep.rdc M w c0 x.files):Rep.rdc M w [c0].flatten x:=by
 simp;exact h0
structure Spec where
 kind:Int
 file:Int
 roots:List Int
deriving DecidableEq,Inhabited
instance:Rep Spec:=Rep.iso (λ x=>((x.kind,x.file,x.roots):Int×Int×List Int))
theorem Spec.fld0:Fld (λ x:Spec=>x.kind) 0:=⟨λ h=>(Fld.fst).sub h⟩
theorem Spec.fld1:Fld (λ x:Spec=>x.file) 1:=⟨λ h=>((Fld.snd Fld.fst)).sub h⟩
theorem Spec.fld2:Fld (λ x:Spec=>x.roots) 2:=⟨λ h=>((Fld.snd (Fld.snd Fld.id))).sub h⟩
theorem Spec.parts{x:Spec}(h0:Rep.rdc M w c0 x.kind)(h1:Rep.rdc M w c1 x.file)(h2:Rep.rdc M w c2 x.roots):Rep.rdc M w [c0,c1,c2].flatten x:=by
 simp;exact⟨c0,_,Z,h0,⟨c1,_,Z,h1,h2⟩⟩
structure Dir where
 root:Int
 pkg:Str
 stamp:Int
 names:List Str
deriving DecidableEq,Inhabited
instance:Rep Dir:=Rep.iso (λ x=>((x.root,x.pkg,x.stamp,x.names):Int×Str×Int×List Str))
theorem Dir.fld0:Fld (λ x:Dir=>x.root) 0:=⟨λ h=>(Fld.fst).sub h⟩
theorem Dir.fld1:Fld (λ x:Dir=>x.pkg) 1:=⟨λ h=>((Fld.snd Fld.fst)).sub h⟩
theorem Dir.fld2:Fld (λ x:Dir=>x.stamp) 2:=⟨λ h=>((Fld.snd (Fld.snd Fld.fst))).sub h⟩
theorem Dir.fld3:Fld (λ x:Dir=>x.names) 3:=⟨λ h=>((Fld.snd (Fld.snd (Fld.snd Fld.id)))).sub h⟩
theorem Dir.set3:FldS (λ(x:Dir) y=>{ x with names:=y }) 3:=⟨λ h k=>((FldS.snd (FldS.snd (FldS.snd FldS.id)))).put h k⟩
theorem Dir.parts{x:Dir}(h0:Rep.rdc M w c0 x.root)(h1:Rep.rdc M w c1 x.pkg)(h2:Rep.rdc M w c2 x.stamp)(h3:Rep.rdc M w c3 x.names):Rep.rdc M w [c0,c1,c2,c3].flatten x:=by
 simp;exact⟨c0,_,Z,h0,⟨c1,_,Z,h1,⟨c2,_,Z,h2,h3⟩⟩⟩
structure Disk where
 tree:Tree
 clock:Int
 dirs:List Dir
deriving DecidableEq,Inhabited
instance:Rep Disk:=Rep.iso (λ x=>((x.tree,x.clock,x.dirs):Tree×Int×List Dir))
theorem Disk.fld0:Fld (λ x:Disk=>x.tree) 0:=⟨λ h=>(Fld.fst).sub h⟩
theorem Disk.fld1:Fld (λ x:Disk=>x.clock) 1:=⟨λ h=>((Fld.snd Fld.fst)).sub h⟩
theorem Disk.fld2:Fld (λ x:Disk=>x.dirs) 2:=⟨λ h=>((Fld.snd (Fld.snd Fld.id))).sub h⟩
theorem Disk.parts{x:Disk}(h0:Rep.rdc M w c0 x.tree)(h1:Rep.rdc M w c1 x.clock)(h2:Rep.rdc M w c2 x.dirs):Rep.rdc M w [c0,c1,c2].flatten x:=by
 simp;exact⟨c0,_,Z,h0,⟨c1,_,Z,h1,h2⟩⟩
structure Finder where
 dirs:List Dir
 fills:Int
 hits:Int
deriving DecidableEq,Inhabited
instance:Rep Finder:=Rep.iso (λ x=>((x.dirs,x.fills,x.hits):List Dir×Int×Int))
theorem Finder.fld1:Fld (λ x:Finder=>x.fills) 1:=⟨λ h=>((Fld.snd Fld.fst)).sub h⟩
theorem Finder.fld2:Fld (λ x:Finder=>x.hits) 2:=⟨λ h=>((Fld.snd (Fld.snd Fld.id))).sub h⟩
theorem Finder.parts{x:Finder}(h0:Rep.rdc M w c0 x.dirs)(h1:Rep.rdc M w c1 x.fills)(h2:Rep.rdc M w c2 x.hits):Rep.rdc M w [c0,c1,c2].flatten x:=by
 simp;exact⟨c0,_,Z,h0,⟨c1,_,Z,h1,h2⟩⟩
structure Compiled where
 root:Int
 module:Str
 init:Bool
 mode:Int
 stamp:Int
 size:Int
 hash:Int
 body:List Stmt
deriving DecidableEq,Inhabited
instance:Rep Compiled:=Rep.iso (λ x=>((x.root,x.module,x.init,x.mode,x.stamp,x.size,x.hash,x.body):Int×Str×Bool×Int×Int×Int×Int×List Stmt))
theorem Compiled.fld0:Fld (λ x:Compiled=>x.root) 0:=⟨λ h=>(Fld.fst).sub h⟩
theorem Compiled.fld1:Fld (λ x:Compiled=>x.module) 1:=⟨λ h=>((Fld.snd Fld.fst)).sub h⟩
theorem Compiled.fld2:Fld (λ x:Compiled=>x.init) 2:=⟨λ h=>((Fld.snd (Fld.snd Fld.fst))).sub h⟩
theorem Compiled.fld3:Fld (λ x:Compiled=>x.mode) 3:=⟨λ h=>((Fld.snd (Fld.snd (Fld.snd Fld.fst)))).sub h⟩
theorem Compiled.fld4:Fld (λ x:Compiled=>x.stamp) 4:=⟨λ h=>((Fld.snd (Fld.snd (Fld.snd (Fld.snd Fld.fst))))).sub h⟩
theorem Compiled.fld5:Fld (λ x:Compiled=>x.size) 5:=⟨λ h=>((Fld.snd (Fld.snd (Fld.snd (Fld.snd (Fld.snd Fld.fst)))))).sub h⟩
theorem Compiled.fld6:Fld (λ x:Compiled=>x.hash) 6:=⟨λ h=>((Fld.snd (Fld.snd (Fld.snd (Fld.snd (Fld.snd (Fld.snd Fld.fst))))))).sub h⟩
theorem Compiled.fld7:Fld (λ x:Compiled=>x.body) 7:=⟨λ h=>((Fld.snd (Fld.snd (Fld.snd (Fld.snd (Fld.snd (Fld.snd (Fld.snd Fld.id)))))))).sub h⟩
theorem Compiled.set7:FldS (λ(x:Compiled) y=>{ x with body:=y }) 7:=⟨λ h k=>((FldS.snd (FldS.snd (FldS.snd (FldS.snd (FldS.snd (FldS.snd (FldS.snd FldS.id)))))))).put h k⟩
theorem Compiled.parts{x:Compiled}(h0:Rep.rdc M w c0 x.root)(h1:Rep.rdc M w c1 x.module)(h2:Rep.rdc M w c2 x.init)(h3:Rep.rdc M w c3 x.mode)(h4:Rep.rdc M w c4 x.stamp)(h5:Rep.rdc M w c5 x.size)(h6:Rep.rdc M w c6 x.hash)(h7:Rep.rdc M w c7 x.body):Rep.rdc M w [c0,c1,c2,c3,c4,c5,c6,c7].flatten x:=by
 simp;exact⟨c0,_,Z,h0,⟨c1,_,Z,h1,⟨c2,_,Z,h2,⟨c3,_,Z,h3,⟨c4,_,Z,h4,⟨c5,_,Z,h5,⟨c6,_,Z,h6,h7⟩⟩⟩⟩⟩⟩⟩
structure GVal where
 kind:Int
 num:Int
deriving DecidableEq,Inhabited
instance:Rep GVal:=Rep.iso (λ x=>((x.kind,x.num):Int×Int))
theorem GVal.fld0:Fld (λ x:GVal=>x.kind) 0:=⟨λ h=>(Fld.fst).sub h⟩
theorem GVal.fld1:Fld (λ x:GVal=>x.num) 1:=⟨λ h=>((Fld.snd Fld.id)).sub h⟩
theorem GVal.parts{x:GVal}(h0:Rep.rdc M w c0 x.kind)(h1:Rep.rdc M w c1 x.num):Rep.rdc M w [c0,c1].flatten x:=by
 simp;exact⟨c0,_,Z,h0,h1⟩
structure GAttr where
 name:Str
 value:GVal
deriving DecidableEq,Inhabited
instance:Rep GAttr:=Rep.iso (λ x=>((x.name,x.value):Str×GVal))
theorem GAttr.fld0:Fld (λ x:GAttr=>x.name) 0:=⟨λ h=>(Fld.fst).sub h⟩
theorem GAttr.fld1:Fld (λ x:GAttr=>x.value) 1:=⟨λ h=>((Fld.snd Fld.id)).sub h⟩
theorem GAttr.parts{x:GAttr}(h0:Rep.rdc M w c0 x.name)(h1:Rep.rdc M w c1 x.value):Rep.rdc M w [c0,c1].flatten x:=by
 simp;exact⟨c0,_,Z,h0,h1⟩
structure GMod where
 name:Str
 kind:Int
 roots:List Int
 cached:Bool
 done:Bool
 attrs:List GAttr
deriving DecidableEq,Inhabited
instance:Rep GMod:=Rep.iso (λ x=>((x.name,x.kind,x.roots,x.cached,x.done,x.attrs):Str×Int×List Int×Bool×Bool×List GAttr))
theorem GMod.fld0:Fld (λ x:GMod=>x.name) 0:=⟨λ h=>(Fld.fst).sub h⟩
theorem GMod.fld1:Fld (λ x:GMod=>x.kind) 1:=⟨λ h=>((Fld.snd Fld.fst)).sub h⟩
theorem GMod.fld3:Fld (λ x:GMod=>x.cached) 3:=⟨λ h=>((Fld.snd (Fld.snd (Fld.snd Fld.fst)))).sub h⟩
theorem GMod.fld5:Fld (λ x:GMod=>x.attrs) 5:=⟨λ h=>((Fld.snd (Fld.snd (Fld.snd (Fld.snd (Fld.snd Fld.id)))))).sub h⟩
structure GEvent where
 kind:Int
 name:Str
deriving DecidableEq,Inhabited
instance:Rep GEvent:=Rep.iso (λ x=>((x.kind,x.name):Int×Str))
theorem GEvent.parts{x:GEvent}(h0:Rep.rdc M w c0 x.kind)(h1:Rep.rdc M w c1 x.name):Rep.rdc M w [c0,c1].flatten x:=by
 simp;exact⟨c0,_,Z,h0,h1⟩
structure GAct where
 kind:Int
 file:File
 index:Int
 name:Str
deriving DecidableEq,Inhabited
instance:Rep GAct:=Rep.iso (λ x=>((x.kind,x.file,x.index,x.name):Int×File×Int×Str))
theorem GAct.fld0:Fld (λ x:GAct=>x.kind) 0:=⟨λ h=>(Fld.fst).sub h⟩
theorem GAct.fld1:Fld (λ x:GAct=>x.file) 1:=⟨λ h=>((Fld.snd Fld.fst)).sub h⟩
theorem GAct.fld2:Fld (λ x:GAct=>x.index) 7:=⟨λ h=>((Fld.snd (Fld.snd Fld.fst))).sub h⟩
theorem GAct.fld3:Fld (λ x:GAct=>x.name) 8:=⟨λ h=>((Fld.snd (Fld.snd (Fld.snd Fld.id)))).sub h⟩
theorem GAct.parts{x:GAct}(h0:Rep.rdc M w c0 x.kind)(h1:Rep.rdc M w c1 x.file)(h2:Rep.rdc M w c2 x.index)(h3:Rep.rdc M w c3 x.name):Rep.rdc M w [c0,c1,c2,c3].flatten x:=by
 simp;exact⟨c0,_,Z,h0,⟨c1,_,Z,h1,⟨c2,_,Z,h2,h3⟩⟩⟩
set_option maxRecDepth 10000
section
theorem eqF_int  {xs:Array Value} {f:Field}   {o:Nat} {i j:Int}  (h : (f.name == "_", f.type, f.offset) = (false, t, o)) (hp : P.plainKey t = true) (ht : P.underlying t = some (.int .i64))
  (hx:xs[o]?=some (.int .i64 i)) (hy:ys[o]?=some (.int .i64 j)):(Op.eqFields (d+1) xs ys (f::fs)).run P w=if i=j then(Op.eqFields (d+1) xs ys fs).run P w else .ok false w:=by
 injection h with h1 h;injection h with h2 h3;subst h2 h3;have hn : f.name ≠ "_" := by simpa using h1
 simp only[Op.eqFields,hn,ne_eq,not_false_eq_true,bI,an,dK w hp hx,dK w hp hy,ah,run_equalIn_int w d f.type .i64 .i64 i j ht];simp_all
theorem eqF_str  {xs:Array Value} {f:Field}   {o:Nat} {i j:Str}  (h : (f.name == "_", f.type, f.offset) = (false, t, o)) (hp : P.plainKey t = true) (ht : P.underlying t = some .string)
  (hx:xs[o]?=some (strv i)) (hy:ys[o]?=some (strv j)):(Op.eqFields (d+1) xs ys (f::fs)).run P w=if i=j then(Op.eqFields (d+1) xs ys fs).run P w else .ok false w:=by
 injection h with h1 h;injection h with h2 h3;subst h2 h3;have hn : f.name ≠ "_" := by simpa using h1
 simp[Op.eqFields,hn,dK w hp hx,dK w hp hy,strv,run_equalIn_string w d f.type _ _ ht];have e1:=da (⟨⟨i.l⟩⟩:ByteArray);have e2:=da (⟨⟨j.l⟩⟩:ByteArray);by_cases hij:i=j
 ·simp[hij]
 ·have:¬ i.l=j.l:=λ h=>hij (Str.ext_iff'.2 h)
  simp[this,hij]
def zc5(P:Program)(t:TypeId):Bool:=
 (match P.underlying t with | some (.struct _)=>true | _=>false)&&!P.stoodInHeld t&&!P.eqGuardType P.depth t&&
 match (P.fieldsOf t).toList.map (fun f => (f.name == "_", f.type, f.offset)) with
 |[(false,a,0),(false,b,1),(false,c,2),(false,d,3),(false,e,4)]=>
  P.plainKey a&&P.plainKey b&&P.plainKey c&&P.plainKey d&&P.plainKey e&&
  (
   match P.underlying a,P.underlying b,P.underlying c,P.underlying d,P.underlying e with
   | some (.int .i64),some .string,some (.int .i64),some .string,some (.int .i64)=>true
   | _,_,_,_,_=>false)
 | _=>false
theorem stmt_cells{cs:List Value}{x:Stmt}(h:Rep.rdc M w cs x):cs=[.int .i64 x.kind,strv x.module,.int .i64 x.level,strv x.name,.int .i64 x.value]:=by
 obtain⟨c1,r1,rfl,h1,c2,r2,rfl,h2,c3,r3,rfl,h3,c4,c5,rfl,h4,h5⟩:=h;rw[h1.1,h2.1,h3.1,h4.1,h5.1];rfl
theorem run_eqStmt(h:zc5 P t=true)(x y:Stmt)(w:World):
  (Op.equalIn 10000 t (.agg #[.int .i64 x.kind,strv x.module,.int .i64 x.level,strv x.name,.int .i64 x.value]) (.agg #[.int .i64 y.kind,strv y.module,.int .i64 y.level,strv y.name,.int .i64 y.value])).run P w=.ok (decide (x=y)) w:=by
 unfold zc5 at h;simp at h;obtain⟨⟨⟨h1,h2⟩,_⟩,h4⟩:=h;have hS:P.underlying t=some (.struct (P.fieldsOf t)):=by
  unfold Program.fieldsOf;split at h1
  ·rename_i heq;simp only[heq]
  ·cases h1
 rw[show(10000:Nat)=9999+1 from Z,run_equalIn_agg w 9999 t _ _ hS (by simpa using h2)];generalize (P.fieldsOf t).toList=fs at h4;split at h4
 ·rename_i a b c d e hf;simp at h4;obtain⟨⟨⟨⟨⟨ka,kb⟩,kc⟩,kd⟩,ke⟩,hu⟩:=h4;split at hu
  ·rename_i ua ub uc ud ue;rcases fs with _ | ⟨f1,_ | ⟨f2,_ | ⟨f3,_ | ⟨f4,_ | ⟨f5,_ | ⟨f6,fs⟩⟩⟩⟩⟩⟩ <;> simp only[cH,List.map_nil,List.cons.injEq,and_true,reduceCtorEq,and_false] at hf
   obtain⟨g1,g2,g3,g4,g5⟩:=hf;rw[show(9999:Nat)=9998+1 from Z,eqF_int g1 ka ua Z Z,eqF_str g2 kb ub Z Z,eqF_int g3 kc uc Z Z,eqF_str g4 kd ud Z Z,eqF_int g5 ke ue Z Z];obtain⟨x1,x2,x3,x4,x5⟩:=x;obtain⟨y1,y2,y3,y4,y5⟩:=y;simp[Op.eqFields,Stmt.mk.injEq];by_cases e1:x1=y1 <;> by_cases e2:x2=y2 <;> by_cases e3:x3=y3 <;> by_cases e4:x4=y4 <;> by_cases e5:x5=y5 <;> simp[e1,e2,e3,e4,e5]
  ·cases hu
 ·cases h4
theorem stmt_val{x:Stmt}(h:(dt x).rd M w v):v=.agg #[.int .i64 x.kind,strv x.module,.int .i64 x.level,strv x.name,.int .i64 x.value]:=by
 obtain⟨cs,hr,hv⟩:=h;rw[hv,stmt_cells hr];rfl
variable{look:Nat->Option Dt}
theorem JS{x:Operand}{m n:Stmt}(ho:o.op=.binOp .eql t x y t')(hx:OpdR M look x (dt m))(hy:OpdR M look y (dt n))(ht:zc5 P t=true:=by kernel_rfl):OpRel P M look o (dt (decide (m=n))):=
 zC λ a w _ hl=>⟨.bool _,by
  have hg:P.eqGuardType P.depth t=false:=by
   unfold zc5 at ht;simp at ht;simpa using ht.1.2
  unfold execOp;rw[ho];simp[stmt_val (hx w a hl),stmt_val (hy w a hl),run_eqGuard_agg w _ _ _ _ _ _ hg,run_eql_struct,run_eqStmt ht],xE.2 Z⟩
end
section
variable{α β:Type}
theorem all_next{l:List α}{x:α}{p:α->Bool}(hx:l[k]?=some x)(h:(l.take k).all p=true)(hp:p x=true):(l.take (k+1)).all p=true:=by
 rw[be,hx];simp[h,hp]
theorem all_end{l:List α}{p:α->Bool}(hk:l.length<=k)(h:(l.take k).all p=true):l.all p=true:=by
 rwa[aJ hk] at h
theorem all_fail{l:List α}{x:α}{p:α->Bool}(hx:l[k]?=some x)(hp:p x=false):l.all p=false:=by
 grind
theorem zc6{l:List α}{x:α}{p:α->Bool}(hx:l[k]?=some x)(h:(l.take k).any p=false)(hp:p x=false):(l.take (k+1)).any p=false:=by
 rw[be,hx];simp[h,hp]
theorem any_end{l:List α}{p:α->Bool}(hk:l.length<=k)(h:(l.take k).any p=false):l.any p=false:=by
 rwa[aJ hk] at h
theorem any_hit{l:List α}{x:α}{p:α->Bool}(hx:l[k]?=some x)(hp:p x=true):l.any p=true:=by
 grind
def xk(p:α->Bool)(l:List α):Int:=match l.findIdx? p with | some i=>(i:Int) | none=>-1
theorem idx_hit{l:List α}{x:α}{p:α->Bool}(h:(l.take k).any p=false)(hx:l[k]?=some x)(hp:p x=true):xk p l=(k:Int):=by
 unfold xk;have:l.findIdx? p=some k:=by
  rw[aO];have hk:=(ai.1 hx).1;refine⟨hk,by rw[(ai.1 hx).2];exact hp,λ j hj=>?_⟩;rw[bW] at h;exact h _ (ci.2 ⟨j,by omega,Z⟩)
 rw[this]
theorem idx_end{l:List α}{p:α->Bool}(hk:l.length<=k)(h:(l.take k).any p=false):xk p l=-1:=by
 unfold xk;have h':=any_end hk h;grind
theorem ze9{l:List α}{x:α}{f:β->α->β}{b:β}(hx:l[k]?=some x):(l.take (k+1)).foldl f b=f ((l.take k).foldl f b) x:=by
 rw[be,hx];simp
end
def mid(s:Str):Prop:=s.l.length<=1099511627776
def inR(n lo hi:Int):Bool:=cmpI .leq lo n&&cmpI .leq n hi
def low(b:UInt8):Bool:=!(cmpB .lss b (UInt8.ofNat 97)||cmpB .gtr b (UInt8.ofNat 122))
def dot:UInt8:=UInt8.ofNat 46
def zF(s:Str):Bool:=inR s.l.length 1 3&&s.l.all low
def qG(c:UInt8)(st:List Str×Str)(b:UInt8):List Str×Str:=if b == c then(st.1++[st.2],⟨[]⟩) else(st.1,⟨st.2.l++[b]⟩)
def xU(c:UInt8)(l:List UInt8):List Str×Str:=l.foldl (qG c) ([],⟨[]⟩)
def zB(s:Str)(c:UInt8):List Str:=(xU c s.l).1++[(xU c s.l).2]
theorem WY{c x:UInt8}{l:List UInt8}(hx:l[k]?=some x):xU c (l.take (k+1))=qG c (xU c (l.take k)) x:=ze9 hx
theorem zcF{c x:UInt8}{l:List UInt8}{b:Nat}(hx:l[k]?=some x)(ht:cmpB .eql x c=true)(h2:(xU c (l.take k)).2=⟨(l.take k).drop b⟩):
  (xU c (l.take (k+1))).1=(xU c (l.take k)).1++[⟨(l.take k).drop b⟩]:=by
 rw[WY hx,qG,Kc (by simpa[cmpB] using ht),h2]
theorem split_hit2{c x:UInt8}{l:List UInt8}(hx:l[k]?=some x)(ht:cmpB .eql x c=true)(_hk:k<l.length):
  (xU c (l.take (k+1))).2=⟨(l.take (k+1)).drop (k+1)⟩:=by
 rw[WY hx,qG,Kc (by simpa[cmpB] using ht)];simp
theorem za0{c x:UInt8}{l:List UInt8}(hx:l[k]?=some x)(hf:cmpB .eql x c=false):
  (xU c (l.take (k+1))).1=(xU c (l.take k)).1:=by
 rw[WY hx,qG,Kd (by simpa[cmpB] using hf)]
theorem split_miss2{c x:UInt8}{l:List UInt8}{b:Nat}(hx:l[k]?=some x)(hf:cmpB .eql x c=false)(h2:(xU c (l.take k)).2=⟨(l.take k).drop b⟩)(hb:b<=k)(hk:k<l.length):
  (xU c (l.take (k+1))).2=⟨(l.take (k+1)).drop b⟩:=by
 rw[WY hx,qG,Kd (by simpa[cmpB] using hf),h2,be,hx,List.drop_append_of_le_length (by simp;omega)];rfl
theorem split_end{s:Str}{c:UInt8}{b:Nat}(hk:s.l.length<=k)(h2:(xU c (s.l.take k)).2=⟨(s.l.take k).drop b⟩):
  (xU c (s.l.take k)).1++[⟨s.l.drop b⟩]=zB s c:=by
 rw[aJ hk] at h2 ⊢;rw[zB,h2]
def zm(s:Str):Bool:=(zB s dot).all zF&&cmpI .leq (zB s dot).length 3
def emptyS:Str:=⟨[]⟩
def zf(s:Str):Bool:=decide (s=emptyS)||zm s
def Jj(o:Str×Bool)(p:Str):Str×Bool:=(if o.2 then⟨(o.1.l++[46])++p.l⟩ else⟨o.1.l++p.l⟩,true)
def Xa(l:List Str):Str×Bool:=l.foldl Jj (emptyS,false)
def join(l:List Str):Str:=(Xa l).1
def jF(l:List Str):Nat:=(l.map (λ s=>s.l.length+1)).sum
theorem QG(l m:List Str):jF (l++m)=jF l+jF m:=by unfold jF;simp
theorem YP(l:List Str)(k:Nat):jF (l.take k)<=jF l:=by
 conv=>rhs;rw[← bH k l,QG]
 omega
theorem za1{x:Str}(hx:l[k]?=some x):jF (l.take (k+1))=jF (l.take k)+(x.l.length+1):=by
 rw[be,hx,QG];simp[jF]
theorem zar{x:Str}(hx:l[k]?=some x):Xa (l.take (k+1))=Jj (Xa (l.take k)) x:=ze9 hx
theorem zc7(hk:k<=l.length):(Xa (l.take k)).2=decide (0<k):=by
 cases k with
 | zero=>rfl
 | succ k=>rw[zar (aa (by omega))];simp[Jj]
theorem join_hit{x:Str}(hx:l[k]?=some x)(h:cmpI .gtr (k:Int) 0=true):(Xa (l.take (k+1))).1=⟨((Xa (l.take k)).1.l++[46])++x.l⟩:=by
 have hk:0<k:=by simpa[cmpI] using h
 have:=zJ hx;rw[zar hx,Jj,Kc (by rw[zc7 (by omega)];simpa using hk)]
theorem zd6{x:Str}(hx:l[k]?=some x)(h:cmpI .gtr (k:Int) 0=false):(Xa (l.take (k+1))).1=⟨(Xa (l.take k)).1.l++x.l⟩:=by
 have hk:¬ 0<k:=by simpa[cmpI] using h
 have:=zJ hx;rw[zar hx,Jj,Kd (by rw[zc7 (by omega)];simpa using hk)]
theorem join_len(hk:k<=l.length):(Xa (l.take k)).1.l.length<=jF (l.take k):=by
 induction k with
 | zero=>exact ao _
 |succ k ih=>
  have hx:l[k]?=some l[k]:=aa (by omega);have:=ih (by omega);rw[za1 hx];cases h:cmpI .gtr (k:Int) 0
  ·rw[zd6 hx h];simp;omega
  ·rw[join_hit hx h];simp;omega
theorem join_room{x:Str}(hx:l[k]?=some x):(Xa (l.take k)).1.l.length+1+x.l.length<=jF l:=by
 have h1:=join_len (l:=l) (k:=k) (by have:=zJ hx;omega);have h2:=YP l (k+1);rw[za1 hx] at h2;omega
theorem join_end(hk:l.length<=k):(Xa (l.take k)).1=join l:=by rw[aJ hk];rfl
theorem zc8(l:List Str):l.length<=jF l:=by
 induction l with
 | nil=>exact ak _
 | cons x l ih=>simp[jF] at ih ⊢;omega
theorem splitRun_room(c:UInt8)(l:List UInt8):jF (xU c l).1+(xU c l).2.l.length=l.length:=by
 have key:∀ (l:List UInt8) (st:List Str×Str),jF (l.foldl (qG c) st).1+(l.foldl (qG c) st).2.l.length=jF st.1+st.2.l.length+l.length:=by
  intro l
  induction l with
  | nil=>intro st;rfl
  |cons x l ih=>
   intro st;rw[bY,ih];unfold qG;split
   ·simp;simp[jF];omega
   ·simp;omega
 have:=key l ([],⟨[]⟩);simpa[jF,xU] using this
theorem YQ(s:Str)(c:UInt8):jF (zB s c)=s.l.length+1:=by
 rw[zB,QG];have:=splitRun_room c s.l;simp[jF] at this ⊢;omega
theorem Q0(s:Str)(c:UInt8):0<(zB s c).length:=by simp[zB]
def yb(s:Str):Str:=join ((zB s dot).take ((zB s dot).length - 1))
def qn(s:Str):Str:=((zB s dot)[(zB s dot).length - 1]?).getD emptyS
theorem last_get(s:Str):(zB s dot)[(zB s dot).length - 1]?=some (qn s):=by
 have:=Q0 s dot;rw[qn,aa (by omega)];rfl
def child(p s:Str):Str:=if p=emptyS then s else⟨(p.l++[46])++s.l⟩
def X9(l:List Str)(k:Nat):List Str:=(List.range k).map λ i=>join (l.take (i+1))
theorem zb4(l:List Str)(k:Nat):X9 l (k+1)=X9 l k++[join (l.take (k+1))]:=by unfold X9;rw[ee];simp
theorem JG(l:List Str)(k:Nat):(X9 l k).length=k:=by simp[X9]
def zb5(s:Str):List Str:=X9 (zB s dot) (zB s dot).length
def under(s p:Str):Bool:=decide (p=emptyS)||decide (s=p)||(cmpI .gtr s.l.length p.l.length&&decide ((⟨s.l.take (p.l.length+1)⟩:Str)=⟨p.l++[46]⟩))
theorem under_of{s p:Str}:(decide (p=⟨[]⟩)||decide (s=p)||(cmpI .gtr s.l.length p.l.length&&decide ((⟨s.l.take (arI .add p.l.length 1).toNat⟩:Str)=⟨p.l++[46]⟩)))=under s p:=rfl
def textAt(l:List Str)(s:Str):Int:=xk (λ x=>decide (x=s)) l
def jg(l:List Str)(s:Str):Bool:=cmpI .geq (textAt l s) 0
def intAt(l:List Int)(n:Int):Int:=xk (λ x=>x == n) l
def smStmt(s:Stmt):Prop:=s.module.l.length<=1048576/\s.name.l.length<=1048576
def smFile(f:File):Prop:=f.pkg.l.length<=1048576/\f.name.l.length<=1048576/\f.body.length<=1048576/\∀ s∈f.body,smStmt s
def wR(t:Tree):Prop:=t.files.length<=1048576/\∀ f∈t.files,smFile f
def zL(s:Stmt):Bool:=
 if cmpI .eql s.kind 0=true then zm s.module&&cmpI .eql s.level 0&&decide (s.name=⟨[]⟩)&&cmpI .eql s.value 0
 else if cmpI .eql s.kind 1=true then zf s.module&&inR s.level 0 3&&(decide (s.module≠⟨[]⟩)||cmpI .gtr s.level 0)&&zF s.name&&cmpI .eql s.value 0
 else if cmpI .eql s.kind 2=true then zm s.module&&cmpI .eql s.level 0&&decide (s.name=⟨[]⟩)&&cmpI .eql s.value 0
 else if cmpI .eql s.kind 3=true then decide (s.module=⟨[]⟩)&&cmpI .eql s.level 0&&zF s.name&&inR s.value 0 99
 else if cmpI .eql s.kind 4=true then decide (s.module=⟨[]⟩)&&cmpI .eql s.level 0&&zF s.name&&cmpI .eql s.value 0
 else if cmpI .eql s.kind 5=true then decide (s=⟨5,⟨[]⟩,0,⟨[]⟩,0⟩)
 else false
def zO(b:List Stmt):Bool:=b.all zL&&cmpI .leq b.length 8
def y9(f:File):Str:=if f.init then f.pkg else child f.pkg f.name
def z9(f:File):Bool:=
 if !inR f.root 0 2||!inR f.stamp 0 99||!zf f.pkg||!zO f.body then false
 else if f.init then decide (f.pkg≠emptyS)&&decide (f.name=emptyS)
 else zF f.name&&zm (child f.pkg f.name)
def wd(f g:File):Bool:=f.root == g.root&&decide (f.pkg=g.pkg)&&(f.init == g.init)&&decide (f.name=g.name)
def qF(l:List File)(f:File):Int:=xk (λ x=>wd x f) l
theorem child_mid{p s:Str}(h:p.l.length+s.l.length<=1099511627775):mid (child p s):=by
 unfold child mid;grind
def za2(l:List File)(k:Nat):Bool:=match l[k]? with | some f=>!(!z9 f||cmpI .lss (qF l f) k) | none=>true
def J5(l:List File)(k:Nat):Bool:=(List.range k).all (za2 l)
theorem treeTo_next{l:List File}{x:File}(hx:l[k]?=some x)(h:J5 l k=true)(hf:(!z9 x||cmpI .lss (qF l x) k)=false):J5 l (k+1)=true:=by
 unfold J5 at*;rw[ee,List.all_append,h];simp only[List.all_cons,List.all_nil,Bool.and_true,br,za2,hx,hf];rfl
def yh(t:Tree):Bool:=J5 t.files t.files.length&&cmpI .leq t.files.length 12
theorem validTree_bad{t:Tree}{x:File}(hx:t.files[k]?=some x)(h:(!z9 x||cmpI .lss (qF t.files x) k)=true):yh t=false:=by
 have:J5 t.files t.files.length=false:=by
  unfold J5;rw[List.all_eq_false];exact⟨k,az.2 (zJ hx),by simp only[za2,hx,h];decide⟩
 rw[yh,this];rfl
theorem validTree_end{t:Tree}(h1:t.files.length<=k)(h2:k<=t.files.length)(h:J5 t.files k=true):cmpI .leq t.files.length 12=yh t:=by
 rw[yh,ei h1 h2,h];rfl
def zd7(root:Int)(p:Str)(f:File):Bool:=f.root == root&&decide (f.pkg≠emptyS)&&under f.pkg p
def QI(l:List File)(root:Int)(p:Str):Bool:=l.any (zd7 root p)||decide (p=emptyS)
def za3(l:List Int)(k:Nat):Bool:=match l[k]? with | some n=>!(!inR n 0 2||cmpI .geq (intAt (l.take k) n) 0) | none=>true
def QJ(l:List Int)(k:Nat):Bool:=(List.range k).all (za3 l)
def we(l:List Int):Bool:=QJ l l.length
theorem pathTo_next{l:List Int}{x:Int}(hx:l[k]?=some x)(h:QJ l k=true)(hf:(!inR x 0 2||cmpI .geq (intAt (l.take k) x) 0)=false):QJ l (k+1)=true:=by
 unfold QJ at*;rw[ee,List.all_append,h];simp only[List.all_cons,List.all_nil,Bool.and_true,br,za3,hx,hf];rfl
theorem validPath_bad{l:List Int}{x:Int}(hx:l[k]?=some x)(h:(!inR x 0 2||cmpI .geq (intAt (l.take k) x) 0)=true):we l=false:=by
 unfold we QJ;rw[List.all_eq_false];exact⟨k,az.2 (zJ hx),by simp only[za3,hx,h];decide⟩
theorem validPath_end{l:List Int}(h1:l.length<=k)(h2:k<=l.length)(h:QJ l k=true):we l=true:=by
 rw[we,ei h1 h2,h]
def qq(l:List Str)(s:Str):Nat->Nat
 | 0=>0
 |k+1=>match l[k]? with
  | some y=>if cmpS .gtr y s=true then qq l s k else k+1
  | none=>k+1
def jO(l:List Str)(s:Str):List Str:=if jg l s=true then l else(l.take (qq l s l.length)++[s])++l.drop (qq l s l.length)
theorem insGet(hk:k<=l.length):∃ y,0<k->l[k - 1]?=some y:=by
 by_cases h:0<k
 ·exact⟨l[k - 1]'(by omega),λ _=>aa (by omega)⟩
 simp_all
theorem gtz(h:(cmpI .gtr (k:Int) 0&&b)=true):0<k:=by
 have:=oD (and_l h);omega
theorem gtz'(h:(cmpI .gtr (k:Int) 0 == true)=true):0<k:=by
 have:=oD (dO h);omega
theorem insPos_down{s y:Str}(hy:0<k->l[k - 1]?=some y)(h:(cmpI .gtr (k:Int) 0&&cmpS .gtr y s)=true):qq l s (k - 1)=qq l s k:=by
 have hk:=gtz h;obtain⟨j,rfl⟩:∃ j,k=j+1:=⟨k - 1,by omega⟩;have:=hy hk;rw[df] at this ⊢;rw[qq,this];grind
theorem insPos_stop{s y:Str}(hy:0<k->l[k - 1]?=some y)(h:(cmpI .gtr (k:Int) 0&&cmpS .gtr y s)=false):qq l s k=k:=by
 cases k with
 | zero=>rfl
 |succ j=>have:=hy (by omega);rw[df] at this;rw[qq,this];have h2:cmpI .gtr ((j+1:Nat):Int) 0=true:=ab (by omega);rw[h2,br] at h;simp[h]
theorem insertT_len(l:List Str)(s:Str):(jO l s).length<=l.length+1:=by
 unfold jO;grind
theorem insertAll_len(m l:List Str):(m.foldl jO l).length<=l.length+m.length:=by
 induction m generalizing l with
 | nil=>exact ak _
 |cons x m ih=>have:=ih (jO l x);have:=insertT_len l x;grind
def noSpec:Spec:=⟨0,-1,[]⟩
theorem join_le(l:List Str)(k:Nat):(join (l.take k)).l.length<=jF l:=by
 have h:=join_len (l:=l.take k) (ak _);rw[aJ (ak _)] at h;exact aQ h (YP l k)
theorem part_le{x:Str}(hx:l[k]?=some x):x.l.length<=jF l:=by
 have h:=YP l (k+1);rw[za1 hx] at h;omega
theorem insertT_mem{s x:Str}(h:x∈jO l s):x∈l\/x=s:=by
 unfold jO at h;grind
theorem above_mem{s x:Str}(h:x∈zb5 s):x.l.length<=s.l.length+1:=by
 unfold zb5 X9 at h;rw[bg] at h;obtain⟨i,_,rfl⟩:=h;have:=join_le (zB s dot) (i+1);rwa[YQ] at this
def xp:List Value:=[.int .i64 0]
def zInt:Int:=0
theorem jR(M:Nat->Prop)(w:World):Rep.rdc M w xp zInt:=⟨Z,trivial⟩
def za4:List Value:=[.bool false]
def zBool:Bool:=false
theorem zrBool(M:Nat->Prop)(w:World):Rep.rdc M w za4 zBool:=⟨Z,trivial⟩
def Wa:List Value:=[.string ⟨⟨[]⟩⟩]
def zStr:Str:=⟨[]⟩
theorem Q1(M:Nat->Prop)(w:World):Rep.rdc M w Wa zStr:=J2
def js:List Value:=[.slice none 0 0]
theorem zrLst[Rep α](M:Nat->Prop)(w:World):Rep.rdc M w js ([]:List α):=yA
def zcStmt:List Value:=[xp,Wa,xp,Wa,xp].flatten
def zStmt:Stmt:=⟨zInt,zStr,zInt,zStr,zInt⟩
theorem zas(M:Nat->Prop)(w:World):Rep.rdc M w zcStmt zStmt:=Stmt.parts (jR M w) (Q1 M w) (jR M w) (Q1 M w) (jR M w)
def zpStmt:List (List Value):=[xp,Wa,xp,Wa,xp]
def zcFile:List Value:=[xp,Wa,Wa,za4,xp,js].flatten
def zFile:File:=⟨zInt,zStr,zStr,zBool,zInt,[]⟩
theorem Js(M:Nat->Prop)(w:World):Rep.rdc M w zcFile zFile:=File.parts (jR M w) (Q1 M w) (Q1 M w) (zrBool M w) (jR M w) (zrLst M w)
def zpFile:List (List Value):=[xp,Wa,Wa,za4,xp,js]
def za5:List Value:=[js].flatten
def je:Tree:=⟨[]⟩
theorem xI(M:Nat->Prop)(w:World):Rep.rdc M w za5 je:=Tree.parts (zrLst M w)
def J6:List (List Value):=[js]
def zcSpec:List Value:=[xp,xp,js].flatten
def XX:Spec:=⟨zInt,zInt,[]⟩
theorem QK(M:Nat->Prop)(w:World):Rep.rdc M w zcSpec XX:=Spec.parts (jR M w) (jR M w) (zrLst M w)
def zpSpec:List (List Value):=[xp,xp,js]
def zcDir:List Value:=[xp,Wa,xp,js].flatten
def zDir:Dir:=⟨zInt,zStr,zInt,[]⟩
theorem zrDir(M:Nat->Prop)(w:World):Rep.rdc M w zcDir zDir:=Dir.parts (jR M w) (Q1 M w) (jR M w) (zrLst M w)
def zpDir:List (List Value):=[xp,Wa,xp,js]
def zcDisk:List Value:=[za5,xp,js].flatten
def xB:Disk:=⟨je,zInt,[]⟩
theorem Zh(M:Nat->Prop)(w:World):Rep.rdc M w zcDisk xB:=Disk.parts (xI M w) (jR M w) (zrLst M w)
def ZC:List (List Value):=[za5,xp,js]
def zc9:List Value:=[js,xp,xp].flatten
def yZ:Finder:=⟨[],zInt,zInt⟩
theorem zrFinder(M:Nat->Prop)(w:World):Rep.rdc M w zc9 yZ:=Finder.parts (zrLst M w) (jR M w) (jR M w)
def zpFinder:List (List Value):=[js,xp,xp]
def zcCompiled:List Value:=[xp,Wa,za4,xp,xp,xp,xp,js].flatten
def zCompiled:Compiled:=⟨zInt,zStr,zBool,zInt,zInt,zInt,zInt,[]⟩
theorem WJ(M:Nat->Prop)(w:World):Rep.rdc M w zcCompiled zCompiled:=Compiled.parts (jR M w) (Q1 M w) (zrBool M w) (jR M w) (jR M w) (jR M w) (jR M w) (zrLst M w)
def zcG:List (List Value):=[xp,Wa,za4,xp,xp,xp,xp,js]
def zcGVal:List Value:=[xp,xp].flatten
def zGVal:GVal:=⟨zInt,zInt⟩
theorem zat(M:Nat->Prop)(w:World):Rep.rdc M w zcGVal zGVal:=GVal.parts (jR M w) (jR M w)
def zpGVal:List (List Value):=[xp,xp]
def zcGAttr:List Value:=[Wa,zcGVal].flatten
def zGAttr:GAttr:=⟨zStr,zGVal⟩
theorem zrGAttr(M:Nat->Prop)(w:World):Rep.rdc M w zcGAttr zGAttr:=GAttr.parts (Q1 M w) (zat M w)
def zpGAttr:List (List Value):=[Wa,zcGVal]
def zpGMod:List (List Value):=[Wa,xp,js,za4,za4,js]
def zpGEvent:List (List Value):=[xp,Wa]
def zcGAct:List Value:=[xp,zcFile,xp,Wa].flatten
def zGAct:GAct:=⟨zInt,zFile,zInt,zStr⟩
theorem zrGAct(M:Nat->Prop)(w:World):Rep.rdc M w zcGAct zGAct:=GAct.parts (jR M w) (Js M w) (jR M w) (Q1 M w)
section
variable{fn:Func}{p:Nat}
variable{α:Type}
theorem borrow[Rep α]{look:Nat->Option Dt}{xs:List α}(ob:Objs F M0 M Gs)(p:Nat)(hg:Gs[p]?=some (oneB g))(h:OpdR M look q (dtip g e xs)):OpdR2 M M0 look q (dt xs):=
 λ w a hl=>Jg (h w a hl) (λ b _ hb=>ob.sub b hb) λ b hb=>(ob.at_ p b ((yD hg b).2 hb)).2.2
theorem Sx.storeT[Rep α]{t q:Nat}{xs r:List α}{i:Int}{y y0:α}(h:Sx F N M0 M Gs L O a w)(p:Nat)
     (hvl:OpdR M (λ s=>(L++envO O).lookup s) vo (dt y))  (hm:setO xs i y=some r)
  (ks:List Nat)  (qs:List Nat)  
  (next:∀ M' w',Sx F N M0 M' Gs L2 ((sb,p,dtip g e r)::O2) a w'->wpList P ops Q rest a w')(ho:o.op=.store t (.tmp q) vo:=by rfl)(hgd:o.guard=none:=by rfl)(hd:o.dst=none:=by rfl)(hg:Gs[p]?=some (oneB g):=by rfl)(hpl:(L++envO O).lookup q=some (dbox g (i.toNat*Rep.size α) y0):=by rfl)(hsl:(L++envO O).lookup sb=some (dtip g e xs):=by rfl)(hk:selP ks L=some L2:=by rfl)(hq:selR L O qs p=some O2:=by rfl)(hdn:L2.lookup sb=none:=by rfl)(ht:tyB P t (Rep.agg α) (Rep.size α)=true:=by kernel_rfl):wpList P ops Q (o::rest) a w:=by
 unfold setO at hm;split at hm
 ·rename_i hi;injection hm with hm;subst hm;obtain⟨b,rfl,hpv,_⟩:=h.st.has q _ hpl;have hMb:=(h.ob.at_ p b ((yD hg b).2 Z)).2.1;obtain⟨cells,hown,hrow,hb⟩:=Or.resolve_right (h.st.has sb _ hsl) (λ h=>by cases h.1);rcases hown.2 with⟨h1,h2⟩ | ⟨b',cap,cur,h1,_,h3,h4,h5,h6,h7⟩
  ·omega
  have hbb:b'=b:=by rw[h1] at hb;injection hb
  subst hbb;have hy:=XV (hvl w a λ s y hs=>h.st.has s y hs);have hcl:=Rep.len hy;generalize hkk:i.toNat=k at*;have hb1:(k+1)*Rep.size α<=xs.length*Rep.size α:=aG _ hi.2;have hb2:xs.length*Rep.size α<=cap*Rep.size α:=aG _ h4;have hb3:(k+1)*Rep.size α=k*Rep.size α+Rep.size α:=bS ..;have hcell:=hown.1;have hrun:=xy (off:=k*Rep.size α) (by rw[hcl];exact ht) Z h3 (by omega) (Rep.oneCell hy);generalize hcc:(a.eval vo).cells.toList=c at*;have hgr:w.grownBy (w.setRow b' (cur.toList.take (k*Rep.size α)++c++cur.toList.drop (k*Rep.size α+c.length)).toArray) _:=yU;refine av hgd λ K hK=>OpOut.wp (OpOut.of_skip (w':=w.setRow b' (cur.toList.take (k*Rep.size α)++c++cur.toList.drop (k*Rep.size α+c.length)).toArray) ?_ ?_)
  ·unfold execOp;rw[ho];have hpv':a.eval (.tmp q)=.pointer _:=hpv;simp[Instr.storeAt,Instr.sureAddr,hpv',hrun]
  ·rw[hd];have h1':=h.eff (G':=oneB _) (YE hg) (Grown.own hg hgr) (λ k (hk:some b'=some k)=>by injection hk with hk;subst hk;exact⟨.inl ((yD hg b').2 Z),ax (xG h3) hgr.size⟩) hk hq;have hGs:Gs.set p (oneB (some b'))=Gs:=by
    apply aX;intro n;by_cases hn:p=n
    ·subst hn;rw[aU (YE hg),hg]
    ·rw[ba hn]
   rw[hGs] at h1';refine hK _ _ (next _ _ (h1'.addO hdn ?_ λ k (hk:some b'=some k)=>(yD hg k).2 hk));have hMM:∀ k,insO (some b') M k->M k:=λ k hk=>hk.elim id λ e=>by injection e with e;subst e;exact hMb
   have hrow':rowR (insO (some b') M) w (cells.take (k*Rep.size α)++c++cells.drop (k*Rep.size α+c.length)) (xs.set k y):=by
    refine wE (λ k _ hk=>hMM k hk) ?_;rw[List.set_eq_take_append_cons_drop,Kc hi.2,show xs.take k++y::xs.drop _=xs.take k++[y]++xs.drop (k+1) by simp,hcl,← hb3];exact qO (qO (WG k (by omega) hrow) (rowR_one hy)) (WF _ hi.2 hrow)
   refine .inl ⟨_,⟨?_,.inr ⟨b',cap,_,by rw[bv];exact h1,ao _,ce w b' cur _ e _ h3,by rw[bv];exact h4,h5,?_,?_⟩⟩,wE (λ k _ hk=>hk.elim (λ h=>.inl h.1) .inr) (Y9 hrow' hgr (.inl Z)),hb⟩
   ·rw[bv];simp;omega
   ·simp;omega
   ·rw[bv];rw[← h7];exact take_put (by have e1:cur.toList.length=cur.size:=aP;omega) (by rw[hcl];omega)
 ·cases hm
theorem fnxT[Rep α]{xs:List α}{y:List α}(p n:Nat)(hf:P.funcs[f]?=some fn)(hb:fn.body=some c)(hn:rs.length+1<=fn.ntmps)(hnb:Ji (zK 1 rs)=true)
  (h:∀ (M:Nat->Prop) (g:Option Nat) (w:World) (a:Act),Sx (Frm.take w g) fn.ntmps M (insO g M) ((List.replicate n (oneB none)).set p (oneB g)) (zK 1 rs) [(0,p,dtip g e xs)] a w->c.wp P (bodyPost P fn (RetT e M w g y)) a w) (hp:p<n:=by decide):zcE P f e xs rs y:=by
 refine ze8 hf hb hn λ M g w a htip hm st=>h M g w a ?_
 have hlen:p<(List.replicate n (oneB none)).length:=by simpa using hp
 have hown:∀ q b,zj ((List.replicate n _).set p (oneB g)) q b ↔ q=p/\g=some b:=λ q b=>by
  by_cases hq:p=q
  ·subst hq;rw[zk hlen];simp[oneB]
  ·rw[zq hq];exact⟨λ h=>(J4 h).elim,λ h=>(hq h.1.symm).elim⟩
 refine⟨st.env λ s x hx=>?_,⟨λ b hb=>.inl hb,λ q b hb=>?_,λ q r b hne h1 h2=>hne (((hown q b).1 h1).1.trans ((hown r b).1 h2).1.symm)⟩,XU hnb,⟨λ b hb=>(hown p b).2 ⟨Z,hb⟩,trivial⟩⟩
 ·have hk:∀ (i:Nat) (rs:List Dt) (s:Nat) (x:Dt),(zK i rs).lookup s=some x->i<=s:=λ i rs=>by
   induction rs generalizing i with
   | nil=>intro s x h;simp[zK] at h
   |cons y rs ih=>
    intro s x h;simp only[zK,ae] at h;by_cases he:s=i
    ·omega
    ·have hb:(s == i)=false:=by simpa using he
     simp[hb] at h;have:=ih _ s x h;omega
  simp only[zK,ae];rcases yq hx with h1 | ⟨_,h1⟩
  ·have:=hk _ _ _ _ h1;have hb:(s == 0)=false:=by simpa using(by omega:¬ s=0)
   simp[hb];exact h1
  ·simp only[envO,ae,d9] at h1;cases hb:s == 0 with
   | true=>simp only[hb] at h1;exact h1
   | false=>simp only[hb] at h1;cases h1
 ·obtain⟨rfl,hb'⟩:=(hown q b).1 hb;exact⟨(htip b hb').1,.inr hb',(htip b hb').2⟩
def isFn(P:Program)(t:TypeId):Bool:=match P.underlying t with | some (.func _ _ _)=>true | _=>false
theorem isFn_spec(h:isFn P t=true):∃ a b c,P.underlying t=some (.func a b c):=by
 unfold isFn at h;grind
def modO(m n:Int):Option Int:=if n=0 then none else some (m.tmod n)
section
variable{look:Nat->Option Dt}
theorem xMod{x:Operand}{n r:Int}(ho:o.op=.binOp .rem t x y t')(hx:OpdR M look x (dt m))(hy:OpdR M look y (dt n))(hm:modO m n=some r):OpRel P M look o (dt r):=
 zC λ a w _ hl=>⟨.int .i64 r,by
  have h1:=yx.1 (hx w a hl);have h2:=yx.1 (hy w a hl);unfold modO at hm;split at hm
  ·cases hm
  ·rename_i h0;injection hm with hm;unfold execOp;rw[ho];simp[h1,h2,eqGuard,binOp,Op.intDiv,h0,hm],yx.2 Z⟩
theorem xMin{x:Operand}{n:Int}(ho:o.op=.call { callee:=.builtin .min,args:=#[x,y],argTypes:=ts })(hx:OpdR M look x (dt m))(hy:OpdR M look y (dt n)):OpRel P M look o (dt (if n<m then n else m)):=
 zC λ a w _ hl=>⟨.int .i64 _,by
  have h1:=yx.1 (hx w a hl);have h2:=yx.1 (hy w a hl);unfold execOp;rw[ho];simp[resolve,invoke,builtin,Builtin.min_,Builtin.min2,h1,h2],yx.2 Z⟩
end
end
def dtrue:Dt where
 rd _ _ _:=True
 own:=noB
 nb:=true
 nob _ _ h:=h
 stable _ _:=trivial
 weak _ _:=trivial
inductive RegL (P:Program) (M:Nat->Prop) (ops:Array Oper) (N:Nat) (S:List (List (Nat×Option Nat))) (L:Env) (D:List Dt) (s:Nat):Nat->List Oper->List (Nat×Dt)->Prop
 | nil {i:Nat}:RegL P M ops N S L D s i [] []
 | cons {i:Nat} {o:Oper} {rest:List Oper} {x:Dt} {xs:List (Nat×Dt)} {d:Nat} (hi:(i == s)=false) (hd:o.dst=some d) (hN:d<N) (hx:D[i]?=some x) (h:OpG P M ops N (YM (S.getD i []) L D) o x)
   (hr:RegL P M ops N S L D s (i+1) rest xs):RegL P M ops N S L D s i (o::rest) ((d,x)::xs)
 | late {i:Nat} {o:Oper} {rest:List Oper} {xs:List (Nat×Dt)} (hi:(i == s)=true) (hr:RegL P M ops N S L D s (i+1) rest xs):RegL P M ops N S L D s i (o::rest) ((N,dtrue)::xs)
section
variable{T:List (List Nat)}
theorem RegL.get:∀ {i0:Nat} {l:List Oper} {xs:List (Nat×Dt)},RegL P M ops N S L D s i0 l xs->
  l.length=xs.length/\∀ (n:Nat) (o:Oper),l[n]?=some o->i0+n≠s->∃ x d,xs[n]?=some (d,x)/\o.dst=some d/\d<N/\D[i0+n]?=some x/\OpG P M ops N (YM (S.getD (i0+n) []) L D) o x:=by
 intro i0 l xs h
 induction h with
 | nil=>exact⟨Z,λ n o h=>by simp at h⟩
 |cons hi hd hN hx h hr ih=>
  rename_i i o rest x xs d;refine⟨by simp[ih.1],λ n o' ho' hne=>?_⟩;cases n with
  |zero=>simp at ho';subst ho';exact⟨x,d,by simp,hd,hN,hx,h⟩
  |succ n=>simp at ho';obtain⟨x',d',h1,h2,h3,h4,h5⟩:=ih.2 n o' ho' (by omega);exact⟨x',d',by simpa using h1,h2,h3,by rw[← h4];congr 1;omega,by rw[show i+(n+1)=i+1+n by omega];exact h5⟩
 |late hi hr ih=>
  rename_i i o rest xs;refine⟨by simp[ih.1],λ n o' ho' hne=>?_⟩;cases n with
  | zero=>exact absurd (by simpa using hi) hne
  |succ n=>simp at ho';obtain⟨x',d',h1,h2,h3,h4,h5⟩:=ih.2 n o' ho' (by omega);exact⟨x',d',by simpa using h1,h2,h3,by rw[← h4];congr 1;omega,by rw[show i+(n+1)=i+1+n by omega];exact h5⟩
section
variable{xs:List (Nat×Dt)}
theorem lc(hh:opH o N=some d)(hi:(i == s)=false)(hx:D[i]?=some x)(h:OpRel P M (YM (S.getD i []) L D) o x)(hr:RegL P M ops N S L D s (i+1) rest xs):RegL P M ops N S L D s i (o::rest) ((d,x)::xs):=
 .cons hi (zQ hh).2.1 (zQ hh).2.2 hx (.plain (zQ hh).1 h) hr
theorem ll(hi:(i == s)=true)(hr:RegL P M ops N S L D s (i+1) rest xs):RegL P M ops N S L D s i (o::rest) ((N,dtrue)::xs):=.late hi hr
end
theorem nb_grown(hx:x.nb=true)(h:x.rd M w v)(hg:Grown G w w')(hGM:∀ b,G b->M b):x.rd M w' v:=
 x.stable h λ n hn hm=>hg.block n hn λ e=>hm.elim (λ h=>h (hGM n e)) λ h=>x.nob hx n h
end
section
def chkO(ops:Array Oper)(k:Nat)(O:List (Nat×Nat×Dt)):Bool:=O.all λ q=>(List.range k).all λ i=>xA ops i != some q.1
end
section
variable{f:Nat}
theorem Oper.wp_mono2(hK:∀ a w,K a w->K' a w)(hL:LetsOut Q->LetsOut Q')(h:o.wp P a w K Q)(hQ:∀ c a w,Q (.panic c) a w->Q' (.panic c) a w:=by exact λ _ _ _ h=>h):o.wp P a w K' Q':=by
 unfold Oper.wp at*;generalize (execOp a.eval o).run P w=r at*;cases r with
 |halt x w'=>cases x <;> simp[Oper.upon] at h ⊢ <;> first | exact hQ _ _ _ h | exact h
 |ok n w'=>
  cases n <;> simp[Oper.upon] at h ⊢ <;> first
   | exact hK _ _ h
   | exact h
   | (
     refine Calls.mono h λ e w'' he=>?_
     cases e <;> simp only at he ⊢ <;> first
      | exact hK _ _ he
      | exact hQ _ _ _ he
      | exact hL he)
   | (exact Rows.mono h λ v w'' he=>hK _ _ he)
theorem Sx.drew(h:Sx F N M0 M Gs L O a w){n:Nat}:Sx F N M0 M Gs L O a { w with drawn:=n }:=by
 have he:Ext0 w { w with drawn:=n }:=Ext0.drawn w _;exact⟨⟨F.ext h.st.fr he,h.st.size,h.st.defers,h.st.mok,λ s x hs=>x.ext (h.st.has s x hs) he⟩,h.ob,h.no,h.ow⟩
end
section
variable{α:Type}[Rep α]
def FnIn(P:Program)(f:FuncId)(e:TypeId)(xs ys:List α):Prop:=
 ∀
  (M0:Nat->Prop) (g:Option Nat) (w:World) (v:Value),(∀ b,insO g M0 b->b<w.heap.size)->(∀ b,g=some b->¬ M0 b)->(dtip g e xs).rd (insO g M0) w v->
  Calls P f #[v] w (λ en w'=>∃ u,en=.returned u/\w.grownBy w' g/\(xs=[]->w'=w/\ys=[])/\(dtip g e ys).rd (insO g M0) w' v)
theorem tip_same{xs:List α}(h1:(dtip g e xs).rd M1 w v1)(h2:(dtip g e xs).rd M2 w v2)(hne:xs≠[]):v1=v2:=by
 have key:∀ {M:Nat->Prop} {v:Value},(dtip g e xs).rd M w v->∃ b cap cur,g=some b/\v=.slice (some ⟨b,0,none⟩) xs.length cap/\w.heap[b]?=some (.cells cur e (0,0))/\cur.size=cap*Rep.size α:=by
  intro M v h;rcases h with⟨cells,hown,hrow,hb⟩ | ⟨_,hx,_⟩
  ·rcases hown.2 with⟨_,h2⟩ | ⟨b,cap,cur,h1,h2,h3,h4,h5,h6,h7⟩
   ·exact absurd (ar h2) hne
   ·exact⟨b,cap,cur,by rw[← hb,h1];rfl,h1,h3,h6⟩
  ·exact absurd hx hne
 obtain⟨b,cap,cur,hg,hv,hh,hs⟩:=key h1;obtain⟨b2,cap2,cur2,hg2,hv2,hh2,hs2⟩:=key h2;rw[hg] at hg2;injection hg2 with hg2;subst hg2;rw[hh] at hh2;injection hh2 with hh2;injection hh2 with hh2;subst hh2;have hp:=Rep.pos (α:=α);have:=Nat.eq_of_mul_eq_mul_right hp (hs.symm.trans hs2);rw[hv,hv2,this]
section
theorem Sx.inpl{xs ys:List α}(h:Sx F N M0 M Gs L O a w)(p:Nat)(hh:opH o N=some d)
  (ho:o.op=.call { callee:=.value (.func f),args:=#[.tmp s],argTypes:=ts }) (hf:fnB P f=true) (hs:(L++envO O).lookup s=some (dtip g e xs)) (hsb:(L++envO O).lookup sb=some (dtip g e xs)) (hg:Gs[p]?=some (oneB g)) (hfn:FnIn P f e xs ys)
  (ks:List Nat) (hk:selP ks L=some L2) (qs:List Nat) (hq:selR L O qs p=some O2) (hdn:L2.lookup sb=none) (hdd:L2.lookup d=none/\(envO O2).lookup d=none/\sb≠d)
  (next:∀ M' a' w',Sx F N M0 M' Gs L2 ((sb,p,dtip g e ys)::O2) a' w'->wpList P ops Q rest a' w'):wpList P ops Q (o::rest) a w:=by
 obtain⟨hgd,hd,hN⟩:=zQ hh;have hM:∀ k,insO g (λ b=>M b/\g≠some b) k ↔ M k:=λ k=>by
  refine⟨λ hk=>hk.elim (λ h=>h.1) λ e=>(h.ob.at_ p k ((yD hg k).2 e)).2.1,λ hk=>?_⟩;by_cases e:g=some k
  ·exact .inr e
  ·exact .inl ⟨hk,e⟩
 have hGs:Gs.set p (oneB g)=Gs:=by
  apply aX;intro n;by_cases hn:p=n
  ·subst hn;rw[aU (YE hg),hg]
  ·rw[ba hn]
 refine av hgd λ K hK=>OpOut.wp (OpOut.of_enter (f:=f) (args:=#[a.eval (.tmp s)]) (w':=w) ?_ ?_)
 ·unfold execOp;rw[ho];have e:a.eval (.func f)=.func _ #[] #[]:=rfl;simp[resolve,e,Deferred.ofValue,invoke,xX hf]
 ·refine(hfn (λ b=>M b/\g≠some b) g w _ (λ b hb=>h.st.mok b ((hM b).1 hb)) (λ b hb hm=>hm.2 hb) ((dtip g e xs).weak (h.st.has s _ hs) λ k _ hk=>(hM k).1 hk)).mono λ en w' ⟨u,he,hgr,hnil,hv'⟩=>⟨u,he,?_⟩
  rw[hd];have h1:=h.eff (G':=oneB g) (YE hg) (Grown.own hg hgr) (λ b hb=>⟨.inl ((yD hg b).2 hb),ax (h.st.mok b (h.ob.at_ p b ((yD hg b).2 hb)).2.1) hgr.size⟩) hk hq;rw[hGs] at h1;have hsbv:(dtip g e ys).rd (λ b=>(M b/\¬ zj Gs p b)\/oneB g b) w' (Act.at a sb):=by
   by_cases hx:xs=[]
   ·obtain⟨rfl,rfl⟩:=hnil hx;subst hx;exact(dtip g e []).weak (h.st.has sb _ hsb) λ k _ hk=>hk.elim (λ h=>h.1) λ hk=>(h.ob.at_ p k ((yD hg k).2 hk)).2.1
   ·rw[← tip_same (h.st.has s _ hs) (h.st.has sb _ hsb) hx];exact(dtip g e ys).weak hv' λ k _ hk=>hk.imp (λ h=>⟨h.1,λ e=>h.2 ((yD hg k).2 e)⟩) _root_.id
  have h2:=h1.addO hdn hsbv λ b hb=>(yD hg b).2 hb
  refine hK _ _ (next _ _ _ ⟨⟨h2.st.fr,by rw[Act.put_size];exact h2.st.size,by rw[Act.put_defers];exact h2.st.defers,h2.st.mok,λ s' x hx=>?_⟩,h2.ob,h2.no,h2.ow⟩);have hne:s'≠d:=by
   intro e;subst e;rcases yq hx with h3 | ⟨_,h3⟩
   ·rw[hdd.1] at h3;cases h3
   ·simp only[envO,ae] at h3;have hb:(s' == sb)=false:=by simpa using λ e:s'=sb=>hdd.2.2 e.symm
    simp[hb] at h3;rw[hdd.2.1] at h3;cases h3
  rw[Act.at_put_other (λ e=>hne (by injection e with e;exact e.symm))];exact h2.st.has s' x hx
end
end
theorem zda{M:Nat->Prop}{w:World}:∀ {cells:List Value} {xs:List Str},rowR M w cells xs->cells=(xs.map (·.l)).map encStr/\∀ x∈xs,x.l.length<=maxLen
 | cells,[],h=>⟨h,λ _ h=>by cases h⟩
 |cells,x::xs,⟨c,r,h,h1,h2⟩=>by
  obtain⟨e1,e2⟩:=zda h2;refine⟨by rw[h,h1.1,e1];rfl,λ y hy=>?_⟩;rcases am.1 hy with rfl | hy
  ·exact h1.2
  ·exact e2 y hy
theorem str_rowR{M:Nat->Prop}{w:World}:∀ {xs:List Str},(∀ x∈xs,x.l.length<=maxLen)->rowR M w ((xs.map (·.l)).map encStr) xs
 | [],_=>rfl
 | x::xs,h=>⟨[strv x],((xs.map (·.l)).map encStr),Z,⟨Z,h x (by simp)⟩,str_rowR λ y hy=>h y (by simp[hy])⟩
def Q3(xs:List Str):List Str:=((xs.map (·.l)).mergeSort λ x y=>decide (x<=y)).map Str.mk
def YR(xs:List Str):List Str:=(Lib.compact (xs.map (·.l))).map Str.mk
theorem map_mk(l:List (List UInt8)):(l.map Str.mk).map (·.l)=l:=by
 rw[cV];exact List.map_id l
theorem zd8(xs:List Str):(Q3 xs).length=xs.length:=by simp[Q3]
theorem sortS_nil:Q3 []=[]:=by simp[Q3]
theorem sortS_l(xs:List Str):(Q3 xs).map (·.l)=(xs.map (·.l)).mergeSort λ x y=>decide (x<=y):=map_mk _
theorem sortS_mem{xs:List Str}{x:Str}:x∈Q3 xs ↔ x∈xs:=by
 unfold Q3;simp;constructor
 ·rintro ⟨l,⟨y,hy,rfl⟩,rfl⟩;exact hy
 grind
theorem compact_mem{l:List (List UInt8)}{x:List UInt8}(h:x∈Lib.compact l):x∈l:=by
 unfold Lib.compact Lib.compactUpTo at h;grind
theorem compactS_mem{xs:List Str}{x:Str}(h:x∈YR xs):x∈xs:=by
 unfold YR at h;obtain⟨l,hl,rfl⟩:=bg.1 h;obtain⟨y,hy,rfl⟩:=bg.1 (compact_mem hl);exact hy
section
variable{T:List (List Nat)}
section
variable{A:List Nat}{xs:List (Nat×Dt)}
end
end
section
end
section
variable{α β γ:Type}[Rep α][Rep β][Rep γ][DecidableEq α][DecidableEq β][DecidableEq γ]
variable{look:Nat->Option Dt}
end
class FldC (α:Type) [Rep α] (i:Nat) (β:outParam Type) [outParam (Rep β)] (get:outParam (α->β)) (off:outParam Nat):Prop where
 h:Fld get off
instance:FldC Stmt 0 Int (λ x=>x.kind) 0:=⟨Stmt.fld0⟩
instance:FldC Stmt 1 Str (λ x=>x.module) 1:=⟨Stmt.fld1⟩
instance:FldC Stmt 2 Int (λ x=>x.level) 2:=⟨Stmt.fld2⟩
instance:FldC Stmt 3 Str (λ x=>x.name) 3:=⟨Stmt.fld3⟩
instance:FldC Stmt 4 Int (λ x=>x.value) 4:=⟨Stmt.fld4⟩
instance:FldC File 0 Int (λ x=>x.root) 0:=⟨File.fld0⟩
instance:FldC File 1 Str (λ x=>x.pkg) 1:=⟨File.fld1⟩
instance:FldC File 2 Str (λ x=>x.name) 2:=⟨File.fld2⟩
instance:FldC File 3 Bool (λ x=>x.init) 3:=⟨File.fld3⟩
instance:FldC File 4 Int (λ x=>x.stamp) 4:=⟨File.fld4⟩
instance:FldC File 5 (List Stmt) (λ x=>x.body) 5:=⟨File.fld5⟩
instance:FldC Tree 0 (List File) (λ x=>x.files) 0:=⟨Tree.fld0⟩
instance:FldC Spec 0 Int (λ x=>x.kind) 0:=⟨Spec.fld0⟩
instance:FldC Spec 1 Int (λ x=>x.file) 1:=⟨Spec.fld1⟩
instance:FldC Spec 2 (List Int) (λ x=>x.roots) 2:=⟨Spec.fld2⟩
instance:FldC Dir 0 Int (λ x=>x.root) 0:=⟨Dir.fld0⟩
instance:FldC Dir 1 Str (λ x=>x.pkg) 1:=⟨Dir.fld1⟩
instance:FldC Dir 2 Int (λ x=>x.stamp) 2:=⟨Dir.fld2⟩
instance:FldC Dir 3 (List Str) (λ x=>x.names) 3:=⟨Dir.fld3⟩
instance:FldC Disk 0 Tree (λ x=>x.tree) 0:=⟨Disk.fld0⟩
instance:FldC Disk 1 Int (λ x=>x.clock) 1:=⟨Disk.fld1⟩
instance:FldC Disk 2 (List Dir) (λ x=>x.dirs) 2:=⟨Disk.fld2⟩
instance:FldC Finder 1 Int (λ x=>x.fills) 1:=⟨Finder.fld1⟩
instance:FldC Finder 2 Int (λ x=>x.hits) 2:=⟨Finder.fld2⟩
instance:FldC Compiled 0 Int (λ x=>x.root) 0:=⟨Compiled.fld0⟩
instance:FldC Compiled 1 Str (λ x=>x.module) 1:=⟨Compiled.fld1⟩
instance:FldC Compiled 2 Bool (λ x=>x.init) 2:=⟨Compiled.fld2⟩
instance:FldC Compiled 3 Int (λ x=>x.mode) 3:=⟨Compiled.fld3⟩
instance:FldC Compiled 4 Int (λ x=>x.stamp) 4:=⟨Compiled.fld4⟩
instance:FldC Compiled 5 Int (λ x=>x.size) 5:=⟨Compiled.fld5⟩
instance:FldC Compiled 6 Int (λ x=>x.hash) 6:=⟨Compiled.fld6⟩
instance:FldC Compiled 7 (List Stmt) (λ x=>x.body) 7:=⟨Compiled.fld7⟩
instance:FldC GVal 0 Int (λ x=>x.kind) 0:=⟨GVal.fld0⟩
instance:FldC GVal 1 Int (λ x=>x.num) 1:=⟨GVal.fld1⟩
instance:FldC GAttr 0 Str (λ x=>x.name) 0:=⟨GAttr.fld0⟩
instance:FldC GAttr 1 GVal (λ x=>x.value) 1:=⟨GAttr.fld1⟩
instance:FldC GMod 0 Str (λ x=>x.name) 0:=⟨GMod.fld0⟩
instance:FldC GMod 1 Int (λ x=>x.kind) 1:=⟨GMod.fld1⟩
instance:FldC GMod 3 Bool (λ x=>x.cached) 3:=⟨GMod.fld3⟩
instance:FldC GMod 5 (List GAttr) (λ x=>x.attrs) 5:=⟨GMod.fld5⟩
instance:FldC GAct 0 Int (λ x=>x.kind) 0:=⟨GAct.fld0⟩
instance:FldC GAct 1 File (λ x=>x.file) 1:=⟨GAct.fld1⟩
instance:FldC GAct 2 Int (λ x=>x.index) 7:=⟨GAct.fld2⟩
instance:FldC GAct 3 Str (λ x=>x.name) 8:=⟨GAct.fld3⟩
section
variable{fn:Func}{l:List Oper}{p:Nat}
variable{α β:Type}
theorem zdb{look:Nat->Option Dt}{y:Dt}(ho:o.op=.call { callee:=.value (.func f),args:=A,argTypes:=ts })(hx:ArgsR M look A.toList xs)(h:Fn P f xs y)(hf:fnB P f=true:=by kernel_rfl):OpRel P M look o y:=
 zA (by rw[ho]) (hf:=hf) hx h
theorem zbK{look:Nat->Option Dt}[Rep α][Rep β]{p:Operand}{f:Nat}{x:α}{get:α->β}(ho:o.op=.fieldAddr t p f)(hp:OpdR M look p (dptr x))[c:FldC α f β get off]{z:Dt}(e:z=dptr (get x):=by rfl)(ht:fldB P t f off=true:=by kernel_rfl):OpRel P M look o z:=e ▸ zI c.h ho (ht:=ht) hp
theorem argsA{look:Nat->Option Dt}{l:List Operand}(h:ArgsR M look l xs:=by repeat (first | exact .nil | apply ArgsR.cons (tp Z) | apply ArgsR.cons cI | apply ArgsR.cons cB | apply ArgsR.cons (yS) | apply ArgsR.cons wu | apply ArgsR.cons (QC))):ArgsR M look l xs:=h
class CmpD (α:Type) [Rep α] (op:BinOp) (f:outParam (α->α->Bool)):Prop where
 h:∀ {P:Program} {M:Nat->Prop} {look:Nat->Option Dt} {o:Oper} {t t':TypeId} {x y:Operand} {m n:α},o.op=.binOp op t x y t'->OpdR M look x (dt m)->OpdR M look y (dt n)->OpRel P M look o (dt (f m n))
instance:CmpD Int .eql (cmpI .eql):=⟨λ a b c=>oCI a b c⟩
instance:CmpD Int .neq (cmpI .neq):=⟨λ a b c=>oCI a b c⟩
instance:CmpD Int .lss (cmpI .lss):=⟨λ a b c=>oCI a b c⟩
instance:CmpD Int .leq (cmpI .leq):=⟨λ a b c=>oCI a b c⟩
instance:CmpD Int .gtr (cmpI .gtr):=⟨λ a b c=>oCI a b c⟩
instance:CmpD Int .geq (cmpI .geq):=⟨λ a b c=>oCI a b c⟩
instance:CmpD Str .eql (λ m n=>decide (m=n)):=⟨λ a b c=>YD a b c⟩
instance:CmpD Str .neq (λ m n=>decide (m≠n)):=⟨λ a b c=>zd1 a b c⟩
theorem oCA{look:Nat->Option Dt}[Rep α]{f:α->α->Bool}{r:Operand}{m n:α}(ho:o.op=.binOp op t q r t')(hx:OpdR M look q (dt m))(hy:OpdR M look r (dt n))[c:CmpD α op f]{z:Dt}(e:z=dt (f m n):=by rfl):OpRel P M look o z:=e ▸ c.h ho hx hy
class LenD (α:Type) [Rep α] (k:outParam (Program->TypeId->Bool)) (f:outParam (α->Nat)):Prop where
 h:∀ {P:Program} {M:Nat->Prop} {look:Nat->Option Dt} {o:Oper} {t:TypeId} {s:Operand} {x:α},o.op=.call { callee:=.builtin .len,args:=#[s],argTypes:=#[t] }->k P t=true->OpdR M look s (dt x)->OpRel P M look o (dt (f x:Int))
instance:LenD Str QZ (λ x=>x.l.length):=⟨λ a b c=>zbI a (ht:=b) c⟩
instance {α:Type} [Rep α]:LenD (List α) isSl (λ x=>x.length):=⟨λ a b c=>op_lenL a b c⟩
theorem oLA{look:Nat->Option Dt}[Rep α]{k:Program->TypeId->Bool}{f:α->Nat}{m:α}(ho:o.op=.call { callee:=.builtin .len,args:=#[q],argTypes:=#[t] })(hx:OpdR M look q (dt m))[c:LenD α k f](ht:k P t=true:=by kernel_rfl):OpRel P M look o (dt (f m:Int)):=c.h ho ht hx
theorem opA{look:Nat->Option Dt}(h:OpRel P M look o x:=by
  first
   | exact oM Z (tp Z)
   | exact oA Z (tp Z)
   | exact oA Z cI
   | exact XR Z (tp Z)
   | exact oCA Z (tp Z) (tp Z)
   | exact oCA Z (tp Z) cI
   | exact zH Z (tp Z)
   | exact oA Z cB
   | exact oM Z cI
   | exact oM Z cB
   | exact zbK Z (tp Z)
   | exact zdb Z argsA (by assumption)
   | exact oLA Z (tp Z)
   | exact xAr Z (tp Z) cI (by assumption)
   | exact xAr Z (tp Z) (tp Z) (by assumption)
   | exact xAr Z cI (tp Z) (by assumption)
   | exact xIdx Z (tp Z) (tp Z) (by assumption)
   | exact oCA Z (tp Z) (yS)
   | exact oA Z (yS)
   | exact oM Z (yS)
   | exact xExt Z (tp Z) Z
   | exact xByte Z (tp Z) (tp Z) (by assumption)
   | exact xCat Z (tp Z) (tp Z) (by assumption)
   | exact xCutL Z (tp Z) (tp Z) (by assumption)
   | exact xCutH Z (tp Z) (tp Z) (by assumption)
   | exact JZ Z (tp Z)
   | exact xc Z (tp Z) (tp Z)
   | exact qm Z (tp Z) (tp Z)):OpRel P M look o x:=h
theorem opdB{look:Nat->Option Dt}{y:Dt}(h:OpdR M look q y:=by first | exact tp Z | exact cI | exact zi (by assumption) Z | exact cB | exact yS | exact QC):OpdR M look q y:=h
theorem argsB{look:Nat->Option Dt}{l:List Operand}(h:ArgsR M look l xs:=by repeat (first | exact .nil | apply ArgsR.cons (tp Z) | apply ArgsR.cons (zi (by assumption) Z) | apply ArgsR.cons cI | apply ArgsR.cons cB | apply ArgsR.cons (yS) | apply ArgsR.cons wu | apply ArgsR.cons (QC))):ArgsR M look l xs:=h
theorem oK{look:Nat->Option Dt}{y:Dt}(h:Fn P f xs y)(ho:o.op=.call { callee:=.value (.func f),args:=A,argTypes:=ts }:=by rfl)(hf:fnB P f=true:=by kernel_rfl)(hx:ArgsR M look A.toList xs:=by exact argsB):OpRel P M look o y:=zdb ho (hf:=hf) hx h
theorem opGA{look:Nat->Option Dt}(h:OpRel P M look o x:=by
  first
   | exact oM Z opdB
   | exact zH Z opdB
   | exact zbK Z opdB
   | exact XR Z opdB
   | exact oCI Z opdB opdB
   | exact YD Z opdB opdB
   | exact zd1 Z opdB opdB
   | exact oLA Z opdB
   | exact oA Z opdB):OpRel P M look o x:=h
theorem bsW{e:Option α}{f:α->Option β}{r:β}{C:α->Prop}(h:e.bind f=some r)(c:∀ {x:α},e=some x->C x):∃ x,C x/\f x=some r:=by
 have⟨x,h1,h2⟩:=bs h;grind
theorem segA(h:Seg P M ops N L l L':=by repeat (first | exact .nil | apply sc rfl opA | apply sg rfl rfl (λ _=>opGA))):Seg P M ops N L l L':=h
theorem Seg.app(h:Seg P M ops N L l1 L1)(k:Seg P M ops N L1 l2 L2):Seg P M ops N L (l1++l2) L2:=by
 induction h with
 | nil=>exact k
 | cons hd hN h hr ih=>exact .cons hd hN h (ih k)
theorem sp(n:Nat)(h:Seg P M ops N L (l.take n) L1:=by exact segA)(r:Seg P M ops N L1 (l.drop n) L'):Seg P M ops N L l L':=by
 have:=h.app r;simp_all
theorem owA(h:AllOw Gs O:=by repeat (first | exact trivial | refine⟨λ _ h=>h,?_⟩ | refine⟨λ _ h=>(by cases h),?_⟩)):AllOw Gs O:=h
theorem Sx.fin(h:Sx F N M0 M Gs L O a w)(hk:selP (L2.map (·.1)) (L++envO O)=some L2:=by rfl)(hq:selQ (O2.map λ q=>(q.1,q.2.1)) (L++envO O)=some O2:=by rfl)(hw:AllOw Gs O2:=by exact owA):Sx F N M0 M Gs L2 O2 a w:=h.sel _ hk _ hq hw
theorem fx{T:Prop}(h:T:=by(repeat (apply Exists.intro));exact Sx.fin (by assumption)):T:=h
theorem fl{σ:Type}{x:σ⊕β}{s:σ}{T:σ->Prop}(h:some (Sum.inl s)=some x)(k:T s:=by exact fx):∃ s',x=.inl s'/\T s':=⟨s,(bP h).symm,k⟩
theorem Sx.sqA(h:Sx F N M0 M Gs L O a w){id:Nat}{c2:Code}(ks:List Nat)(qp:List (Nat×Nat))(hQ:∀{a' w'},Sx F N M0 M Gs L2 O2 a' w'->c2.wp P Q a' w')
  (hs:Seg P M ops N (L++envO O) ops.toList L':=by exact segA) (hk:selP ks L'=some L2:=by rfl) (hq:selQ qp L'=some O2:=by rfl) (hw:AllOw Gs O2:=by exact owA):(Code.seq (Code.region id ops false) c2).wp P Q a w:=
 h.sq hs ks hk qp hq hw (λ _ _ h_=>hQ h_)
theorem Sx.sq1(h:Sx F N M0 M Gs L O a w){id:Nat}{c2:Code}(ks:List Nat)(hQ:∀{a' w'},Sx F N M0 M Gs L2 [] a' w'->c2.wp P Q a' w')
  (hs:Seg P M ops N (L++envO O) ops.toList L':=by exact segA) (hk:selP ks L'=some L2:=by rfl):(Code.seq (Code.region id ops false) c2).wp P Q a w:=
 h.sq0 hs ks hk (λ _ _ h_=>hQ h_)
theorem Sx.rgA(h:Sx F N M0 M Gs L O a w){id:Nat}(ks:List Nat)(qp:List (Nat×Nat))(hQ:∀{a' w'},Sx F N M0 M Gs L2 O2 a' w'->Q .normal a' w')
  (hs:Seg P M ops N (L++envO O) ops.toList L':=by exact segA) (hk:selP ks L'=some L2:=by rfl) (hq:selQ qp L'=some O2:=by rfl) (hw:AllOw Gs O2:=by exact owA):(Code.region id ops false).wp P Q a w:=
 h.rg hs ks hk qp hq hw (λ _ _ h_=>hQ h_)
theorem Sx.segA(h:Sx F N M0 M Gs L O a w)(n:Nat)(ks:List Nat)(qp:List (Nat×Nat))(hQ:∀{a' w'},Sx F N M0 M Gs L2 O2 a' w'->wpList P ops Q (l.drop n) a' w')
  (hs:Seg P M ops N (L++envO O) (l.take n) L':=by exact segA) (hk:selP ks L'=some L2:=by rfl) (hq:selQ qp L'=some O2:=by rfl) (hw:AllOw Gs O2:=by exact owA):wpList P ops Q l a w:=
 h.seg n hs ks hk qp hq hw (λ _ _ h_=>hQ h_)
theorem Sx.sqB(h:Sx F N M0 M Gs L O a w){id:Nat}{c2:Code}(hs:Seg P M ops N (L++envO O) ops.toList L')(ks:List Nat)(qp:List (Nat×Nat))(hQ:∀{a' w'},Sx F N M0 M Gs L2 O2 a' w'->c2.wp P Q a' w')
  (hk:selP ks L'=some L2:=by rfl) (hq:selQ qp L'=some O2:=by rfl) (hw:AllOw Gs O2:=by exact owA):(Code.seq (Code.region id ops false) c2).wp P Q a w:=
 h.sq hs ks hk qp hq hw (λ _ _ h_=>hQ h_)
theorem Sx.sq2(h:Sx F N M0 M Gs L O a w){id:Nat}{c2:Code}(hs:Seg P M ops N (L++envO O) ops.toList L')(ks:List Nat)(hQ:∀{a' w'},Sx F N M0 M Gs L2 [] a' w'->c2.wp P Q a' w')
  (hk:selP ks L'=some L2:=by rfl):(Code.seq (Code.region id ops false) c2).wp P Q a w:=
 h.sq0 hs ks hk (λ _ _ h_=>hQ h_)
theorem Sx.rgB(h:Sx F N M0 M Gs L O a w){id:Nat}(hs:Seg P M ops N (L++envO O) ops.toList L')(ks:List Nat)(qp:List (Nat×Nat))(hQ:∀{a' w'},Sx F N M0 M Gs L2 O2 a' w'->Q .normal a' w')
  (hk:selP ks L'=some L2:=by rfl) (hq:selQ qp L'=some O2:=by rfl) (hw:AllOw Gs O2:=by exact owA):(Code.region id ops false).wp P Q a w:=
 h.rg hs ks hk qp hq hw (λ _ _ h_=>hQ h_)
theorem Sx.rg2(h:Sx F N M0 M Gs L O a w){id:Nat}(hs:Seg P M ops N (L++envO O) ops.toList L')(ks:List Nat)(hQ:∀ a' w',Sx F N M0 M Gs L2 [] a' w'->Q .normal a' w')
  (hk:selP ks L'=some L2:=by rfl):(Code.region id ops false).wp P Q a w:=
 h.rg0 hs ks hk hQ
theorem Sx.segB(h:Sx F N M0 M Gs L O a w)(n:Nat)(hs:Seg P M ops N (L++envO O) (l.take n) L')(ks:List Nat)(qp:List (Nat×Nat))(hQ:∀{a' w'},Sx F N M0 M Gs L2 O2 a' w'->wpList P ops Q (l.drop n) a' w')
  (hk:selP ks L'=some L2:=by rfl) (hq:selQ qp L'=some O2:=by rfl) (hw:AllOw Gs O2:=by exact owA):wpList P ops Q l a w:=
 h.seg n hs ks hk qp hq hw (λ _ _ h_=>hQ h_)
def selT:List Nat->Env->Option Env
 | [],_=>some []
 |k::ks,L=>match L.lookup k with
  |some x=>match selT ks L with
   | some r=>some ((k,x)::r)
   | none=>none
  | none=>none
theorem zd9{L:Env}:∀ {ks:List Nat} {L2:Env},selT ks L=some L2->Pick (λ _=>True) L L2
 | [],L2,h=>by simp[selT] at h;subst h;exact .nil
 |k::ks,L2,h=>by
  unfold selT at h;split at h
  ·rename_i x hx;split at h
   ·rename_i r hr;injection h with h;subst h;exact .cons hx trivial (zd9 hr)
   ·cases h
  ·cases h
theorem pT(ks:List Nat)(h:selT ks L=some L2:=by rfl):Pick (λ _=>True) L L2:=zd9 h
theorem zp(hst:St F N M L a w){id:Nat}(ks:List Nat)(h:∀ a' w',Ext0 w w'->St F N M L2 a' w'->Q .normal a' w')(hs:Seg P M ops N L ops.toList L':=by exact segA)(hp:selT ks L'=some L2:=by rfl):(Code.region id ops false).wp P Q a w:=
 ze6 hst hs (zd9 hp) h
theorem zr(hst:St F N M L a w){id:Nat}(hs:Seg P M ops N L ops.toList L')(ks:List Nat)(h:∀ a' w',Ext0 w w'->St F N M L2 a' w'->Q .normal a' w')(hp:selT ks L'=some L2:=by rfl):(Code.region id ops false).wp P Q a w:=
 ze6 hst hs (zd9 hp) h
end
attribute [local irreducible] OpRel OpdR
def wq(P:Program):Code->(Exit->Act->World->Prop)->Act->World->Prop
 | .skip,Q=>Q .normal
 | .exit i,Q=>Q (.exit i)
 | .ret,Q=>Q .ret
 | .seq x y,Q=>wq P x (Exit.then (wq P y Q) Q)
 | .block i c,Q=>wq P c (Exit.inBlock i Q)
 | c,Q=>λ a w=>c.wp P Q a w
theorem wqw{P:Program}:∀ {c:Code} {Q:Exit->Act->World->Prop} {a:Act} {w:World},wq P c Q a w->c.wp P Q a w
 | .skip,_,_,_,h=>aC h
 | .exit _,_,_,_,h=>cj h
 | .ret,_,_,_,h=>wp_ret h
 |.seq _ _,_,_,_,h=>Ka (bQ (λ e a' w' q=>by
  cases e with
  | normal=>exact wqw q
  | _=>exact q) (wqw h))
 | .block _ _,_,_,_,h=>aT (wqw h)
 | .region ..,_,_,_,h=>h
 | .cond ..,_,_,_,h=>h
 | .loop _,_,_,_,h=>h
 | .rangeFunc ..,_,_,_,h=>h
 | .scope _,_,_,_,h=>h
 | .label _,_,_,_,h=>h
 | .goto _,_,_,_,h=>h
 | .refuse _,_,_,_,h=>h
theorem wq_mono{P:Program}:∀ {c:Code} {Q Q':Exit->Act->World->Prop} {a:Act} {w:World},(∀ e a w,Q e a w->Q' e a w)->wq P c Q a w->wq P c Q' a w
 | .skip,_,_,_,_,k,h=>k _ _ _ h
 | .exit _,_,_,_,_,k,h=>k _ _ _ h
 | .ret,_,_,_,_,k,h=>k _ _ _ h
 |.seq x y,Q,Q',_,_,k,h=>wq_mono (c:=x) (Q:=Exit.then (wq P y Q) Q) (Q':=Exit.then (wq P y Q') Q') (λ e a' w' q=>by
  cases e with
  | normal=>exact wq_mono (c:=y) k q
  | _=>exact k _ _ _ q) h
 |.block i x,Q,Q',_,_,k,h=>wq_mono (c:=x) (Q:=Exit.inBlock i Q) (Q':=Exit.inBlock i Q') (λ e a' w' q=>by
  cases e with
  |exit j=>
   unfold Exit.inBlock at q ⊢;simp only at q ⊢;split at q
   ·rename_i h;rw[Kc h];exact k _ _ _ q
   ·rename_i h;rw[Kd h];exact k _ _ _ q
  | _=>exact k _ _ _ q) h
 | .region ..,_,_,_,_,k,h=>bQ k h
 | .cond ..,_,_,_,_,k,h=>bQ k h
 | .loop _,_,_,_,_,k,h=>bQ k h
 | .rangeFunc ..,_,_,_,_,k,h=>bQ k h
 | .scope _,_,_,_,_,k,h=>bQ k h
 | .label _,_,_,_,_,k,h=>bQ k h
 | .goto _,_,_,_,_,k,h=>bQ k h
 | .refuse _,_,_,_,_,k,h=>bQ k h
def kp:Env->Env->Option Env
 | [],_=>some []
 |(s,x)::r,seen=>match seen.lookup s with
  | some _=>kp r seen
  |none=>match x.nb with
   |true=>match kp r ((s,x)::seen) with
    | some r'=>some ((s,x)::r')
    | none=>none
   | false=>kp r ((s,x)::seen)
theorem kp_spec:∀ {L seen L2:Env},kp L seen=some L2->∀ s x,L2.lookup s=some x->seen.lookup s=none/\L.lookup s=some x/\x.nb=true
 | [],_,L2,h,s,x,hx=>by simp[kp] at h;subst h;cases hx
 |(t,y)::r,seen,L2,h,s,x,hx=>by
  unfold kp at h;split at h
  ·rename_i hs;obtain⟨h1,h2,h3⟩:=kp_spec h s x hx;have hne:(s == t)=false:=by
    cases e:s == t with
    | false=>rfl
    | true=>rw[dO e,hs] at h1;cases h1
   exact⟨h1,by rw[ae,hne];exact h2,h3⟩
  ·rename_i hs;have next:∀ {L3:Env},kp r ((t,y)::seen)=some L3->L3.lookup s=some x->seen.lookup s=none/\List.lookup s ((t,y)::r)=some x/\x.nb=true:=λ h hx=>by
    obtain⟨h1,h2,h3⟩:=kp_spec h s x hx;rw[ae] at h1;rw[ae];cases e:s == t with
    | true=>rw[e] at h1;cases h1
    | false=>rw[e] at h1;exact⟨h1,h2,h3⟩
   split at h
   ·rename_i hn;split at h
    ·rename_i r' hr;injection h with h;subst h;rw[ae] at hx;cases e:s == t with
     |true=>rw[e] at hx;injection hx with hx;subst hx;rw[dO e];exact⟨hs,by rw[ae,aW],hn⟩
     | false=>rw[e] at hx;exact next hr hx
    ·cases h
   ·exact next h hx
section
variable{fn:Func}{l:List Oper}{p id:Nat}
variable{α β σ:Type}{B:Option β}
theorem Sx.of_kp(h:St F N M E a w)(ob:Objs F M0 M Gs)(hk:kp E []=some L2)(hq:selQ qp E=some O2)(hw:AllOw Gs O2):Sx F N M0 M Gs L2 O2 a w:=
 ⟨h.env (λ s x hx=>by
  rcases yq hx with h | ⟨_,h⟩
  ·exact(kp_spec hk s x h).2.1
  ·exact envO_sel hq s x h),ob,λ s x hx=>(kp_spec hk s x hx).2.2,hw⟩
theorem Sx.go(h:Sx F N M0 M Gs L O a w)(hs:Seg P M ops N (L++envO O) ops.toList L')(hk:kp L' []=some L2)(hq:selQ qp L'=some O2)(hw:AllOw Gs O2)
  (next:∀ a' w',Sx F N M0 M Gs L2 O2 a' w'->Q .normal a' w'):(Code.region id ops false).wp P Q a w:=by
 refine QY ?_;have:=zal hs h.st (λ a' w' he hst'=>Wz (next a' w' (.of_kp hst' h.ob hk hq hw)));grind
instance:CmpD UInt8 .eql (cmpB .eql):=⟨λ a b c=>oCB a b c⟩
instance:CmpD UInt8 .neq (cmpB .neq):=⟨λ a b c=>oCB a b c⟩
instance:CmpD UInt8 .lss (cmpB .lss):=⟨λ a b c=>oCB a b c⟩
instance:CmpD UInt8 .leq (cmpB .leq):=⟨λ a b c=>oCB a b c⟩
instance:CmpD UInt8 .gtr (cmpB .gtr):=⟨λ a b c=>oCB a b c⟩
instance:CmpD UInt8 .geq (cmpB .geq):=⟨λ a b c=>oCB a b c⟩
class Ct0 (P:Program) (f:FuncId) {β:outParam Type} (re:outParam (β->Dt)) (m:outParam (Option β)):Prop where
 h:∀ {r},m=some r->Fn P f [] (re r)
class Ct1 (P:Program) (f:FuncId) {α β:outParam Type} (k:outParam (α->Dt)) (re:outParam (β->Dt)) (m:outParam (α->Option β)):Prop where
 h:∀ {x r},m x=some r->Fn P f [k x] (re r)
class Ct2 (P:Program) (f:FuncId) {α β γ:outParam Type} (k:outParam (α->Dt)) (k2:outParam (β->Dt)) (re:outParam (γ->Dt)) (m:outParam (α->β->Option γ)):Prop where
 h:∀ {x y r},m x y=some r->Fn P f [k x,k2 y] (re r)
class Ct3 (P:Program) (f:FuncId) {α β γ δ:outParam Type} (k:outParam (α->Dt)) (k2:outParam (β->Dt)) (k3:outParam (γ->Dt)) (re:outParam (δ->Dt)) (m:outParam (α->β->γ->Option δ)):Prop where
 h:∀ {x y z r},m x y z=some r->Fn P f [k x,k2 y,k3 z] (re r)
class Ct4 (P:Program) (f:FuncId) {α β γ δ ε:outParam Type} (k:outParam (α->Dt)) (k2:outParam (β->Dt)) (k3:outParam (γ->Dt)) (k4:outParam (δ->Dt)) (re:outParam (ε->Dt)) (m:outParam (α->β->γ->δ->Option ε)):Prop where
 h:∀ {x y z u r},m x y z u=some r->Fn P f [k x,k2 y,k3 z,k4 u] (re r)
class ArC (op:BinOp) (f:outParam (Int->Int->Int)):Prop where
 h:∀ m n,arI op m n=f m n
 o:op=.add\/op=.sub\/op=.mul
instance:ArC .add (λ m n=>m+n):=⟨λ _ _=>Z,by decide⟩
instance:ArC .sub (λ m n=>m - n):=⟨λ _ _=>Z,by decide⟩
instance:ArC .mul (λ m n=>m*n):=⟨λ _ _=>Z,by decide⟩
theorem xArC{look:Nat->Option Dt}{f:Int->Int->Int}{n r:Int}(ho:o.op=.binOp op t q y t')(hx:OpdR M look q (dt m))(hy:OpdR M look y (dt n))[c:ArC op f](hm:i64 (f m n)=some r):OpRel P M look o (dt r):=xAr ho hx hy (by rw[c.h];exact hm) c.o
theorem opY{look:Nat->Option Dt}(h:OpRel P M look o x:=by
  first
   | exact oM Z (tp Z)
   | exact oA Z (tp Z)
   | exact oA Z cI
   | exact XR Z (tp Z)
   | exact oCA Z (tp Z) (tp Z)
   | exact oCA Z (tp Z) cI
   | exact zH Z (tp Z)
   | exact oA Z cB
   | exact oM Z cI
   | exact oM Z cB
   | exact zbK Z (tp Z)
   | exact oLA Z (tp Z)
   | exact xArC Z (tp Z) cI (by with_reducible assumption)
   | exact xArC Z (tp Z) (tp Z) (by with_reducible assumption)
   | exact xArC Z cI (tp Z) (by with_reducible assumption)
   | exact xIdx Z (tp Z) (tp Z) (by with_reducible assumption)
   | exact oCA Z (tp Z) (yS)
   | exact oA Z (yS)
   | exact oM Z (yS)
   | exact xExt Z (tp Z) Z
   | exact xByte Z (tp Z) (tp Z) (by with_reducible assumption)
   | exact xCat Z (tp Z) (tp Z) (by with_reducible assumption)
   | exact xCutL Z (tp Z) (tp Z) (by with_reducible assumption)
   | exact xCutH Z (tp Z) (tp Z) (by with_reducible assumption)
   | exact JZ Z (tp Z)
   | exact xc Z (tp Z) (tp Z)
   | exact qm Z (tp Z) (tp Z)
   | exact xMin Z (tp Z) (tp Z)
   | (apply zdb Z argsA;first | exact Ct1.h (by with_reducible assumption) | exact Ct2.h (by with_reducible assumption) | exact Ct3.h (by with_reducible assumption) | exact Ct4.h (by with_reducible assumption) | exact Ct0.h (by with_reducible assumption) | with_reducible assumption)
   | exact op_eqT Z (tp Z) opdB
   | exact op_neT Z (tp Z) opdB
   | exact xSliH Z opdB opdB (by with_reducible assumption)
   | exact xArC Z opdB opdB (by with_reducible assumption)
   | exact oCA Z opdB opdB
   | exact xCat Z opdB opdB (by with_reducible assumption)
   | exact xIdx Z opdB opdB (by with_reducible assumption)
   | exact xByte Z opdB opdB (by with_reducible assumption)
   | exact xCutL Z opdB opdB (by with_reducible assumption)
   | exact xCutH Z opdB opdB (by with_reducible assumption)
   | exact xCutLH Z (by kernel_rfl) opdB opdB opdB (by with_reducible assumption)):OpRel P M look o x:=h
theorem opGY{look:Nat->Option Dt}(h:OpRel P M look o x:=by
  first
   | exact oM Z opdB
   | exact zH Z opdB
   | exact zbK Z opdB
   | exact XR Z opdB
   | exact oCA Z opdB opdB
   | exact oLA Z opdB
   | exact oA Z opdB
   | exact op_eqT Z opdB opdB
   | exact op_neT Z opdB opdB
   | exact xArC Z opdB opdB (gh (by with_reducible assumption) (by with_reducible assumption))
   | exact xIdx Z opdB opdB (gh (by with_reducible assumption) (by with_reducible assumption))
   | exact xByte Z opdB opdB (gh (by with_reducible assumption) (by with_reducible assumption))
   | exact xCat Z opdB opdB (gh (by with_reducible assumption) (by with_reducible assumption))
   | exact xCutH Z opdB opdB (gh (by with_reducible assumption) (by with_reducible assumption))
   | exact xCutL Z opdB opdB (gh (by with_reducible assumption) (by with_reducible assumption))
   | exact xSliH Z opdB opdB (gh (by with_reducible assumption) (by with_reducible assumption))
   | (apply zdb Z argsB;first | exact Ct1.h (gh (by with_reducible assumption) (by with_reducible assumption)) | exact Ct2.h (gh (by with_reducible assumption) (by with_reducible assumption)) | exact Ct3.h (gh (by with_reducible assumption) (by with_reducible assumption)))):OpRel P M look o x:=h
theorem segY(h:Seg P M ops N L l L':=by repeat (first | exact .nil | apply sc rfl opY | apply sg rfl rfl (λ _=>opGY))):Seg P M ops N L l L':=h
theorem sY(n:Nat)(h:Seg P M ops N L (l.take n) L1:=by exact segY)(r:Seg P M ops N L1 (l.drop n) L'):Seg P M ops N L l L':=sp n h r
theorem Sx.q1(h:Sx F N M0 M Gs L O a w)(next:∀{a' w'},Sx F N M0 M Gs L2 [] a' w'->Q .normal a' w')(hs:Seg P M ops N (L++envO O) ops.toList L':=by exact segY)(hk:kp L' []=some L2:=by rfl):(Code.region id ops false).wp P Q a w:=
 h.go (qp:=[]) hs hk Z trivial (λ _ _ h_=>next h_)
theorem Sx.qo(h:Sx F N M0 M Gs L O a w)(qp:List (Nat×Nat))(next:∀ a' w',Sx F N M0 M Gs L2 O2 a' w'->Q .normal a' w')(hs:Seg P M ops N (L++envO O) ops.toList L':=by exact segY)(hk:kp L' []=some L2:=by rfl)(hq:selQ qp L'=some O2:=by rfl)(hw:AllOw Gs O2:=by exact owA):(Code.region id ops false).wp P Q a w:=
 h.go hs hk hq hw next
theorem Sx.go2(h:Sx F N M0 M Gs L O a w)(n:Nat)(hs:Seg P M ops N (L++envO O) (l.take n) L')(hk:kp L' []=some L2)(hq:selQ qp L'=some O2)(hw:AllOw Gs O2)
  (next:∀ a' w',Sx F N M0 M Gs L2 O2 a' w'->wpList P ops Q (l.drop n) a' w'):wpList P ops Q l a w:=by
 have:=zal hs h.st (λ a' w' he hst'=>next a' w' (.of_kp hst' h.ob hk hq hw));simp_all
theorem Sx.g1(h:Sx F N M0 M Gs L O a w)(n:Nat)(next:∀ a' w',Sx F N M0 M Gs L2 [] a' w'->wpList P ops Q (l.drop n) a' w')(hs:Seg P M ops N (L++envO O) (l.take n) L':=by exact segY)(hk:kp L' []=some L2:=by rfl):wpList P ops Q l a w:=
 h.go2 (qp:=[]) n hs hk Z trivial next
theorem Sx.go_(h:Sx F N M0 M Gs L O a w)(n:Nat)(qp:List (Nat×Nat))(next:∀ a' w',Sx F N M0 M Gs L2 O2 a' w'->wpList P ops Q (l.drop n) a' w')(hs:Seg P M ops N (L++envO O) (l.take n) L':=by exact segY)(hk:kp L' []=some L2:=by rfl)(hq:selQ qp L'=some O2:=by rfl)(hw:AllOw Gs O2:=by exact owA):wpList P ops Q l a w:=
 h.go2 n hs hk hq hw next
theorem wqk(h:Q .normal a w):wq P .skip Q a w:=h
theorem wqb{x:Code}(h:wq P x (Exit.inBlock i Q) a w):wq P (.block i x) Q a w:=h
theorem Sx.cq{c:Nat}{x z:Code}{A:Option β}{r:β}(h:Sx F N M0 M Gs L O a w)(hm:(if b=true then A else B)=some r)(ht:A=some r->wq P x Q a w)(hf:B=some r->wq P z Q a w)(hl:L.lookup c=some (dt b):=by rfl):(Code.cond (.tmp c) x z).wp P Q a w:=
 h.cs (hl:=hl) hm (λ _ h=>wqw (ht h)) (λ _ h=>wqw (hf h))
theorem wqj{c1 c2:Code}(I:Act->World->Prop)(h1:wq P c1 (Exit.then I Q) a w)(h2:∀ a' w',I a' w'->wq P c2 Q a' w'):wq P (Code.seq c1 c2) Q a w:=wq_mono (Q':=Exit.then _ Q) (λ e a' w' q=>by
  cases e with
  | normal=>exact h2 a' w' q
  | _=>exact q) h1
theorem wql{step:σ->Option (σ⊕β)}{s0:σ}{o:β}(hm:zE step s0=some o)(Inv:σ->Act->World->Prop)(h0:Inv s0 a w)
  (round:∀ s x a w,Inv s a w->step s=some x->(∀ b,x=.inr b->b=o)->wq P c (Exit.then (λ a' w'=>∃ s',x=.inl s'/\Inv s' a' w') Q) a w):(Code.loop c).wp P Q a w:=
 zaq hm Inv h0 λ s x a w h1 h2 h3=>wqw (round s x a w h1 h2 h3)
def tmpsO(ops:Array Oper)(o:Oper):List Nat:=(o.op.operands.toList.filterMap λ q=>match q with | .tmp t=>some t | _=>none)++(match o.guard with | some (j,_)=>(xA ops j).toList | none=>[])
def ldC(o:Oper):Bool:=match o.op with | .load _ _=>true | .call _=>true | _=>false
def srcT(ops:Array Oper)(o:Oper):List Nat:=tmpsO ops o++if ldC o=true then(List.range 64).filter λ t=>!ops.toList.any λ p=>p.dst == some t else[]
def okW(ops:Array Oper)(o:Oper)(s:Nat):Bool:=(tmpsO ops o).contains s||(ldC o&&Nat.blt s 64&&!ops.toList.any λ p=>p.dst == some s)
def srcW(ops:Array Oper):List (List (Nat×Option Nat)):=ops.toList.map λ o=>(srcT ops o).map λ t=>(t,ops.toList.findIdx? λ p=>p.dst == some t)
def lookW(ops:Array Oper)(o:Oper)(L:Env)(s:Nat):Option Dt:=match okW ops o s with | true=>L.lookup s | false=>none
inductive SegW (P:Program) (M:Nat->Prop) (ops:Array Oper) (N:Nat):Env->List Oper->Env->Prop
 | nil {L:Env}:SegW P M ops N L [] L
 | cons {L L':Env} {o:Oper} {rest:List Oper} {x:Dt} {d:Nat} (hd:o.dst=some d) (hN:d<N) (h:OpG P M ops N (lookW ops o L) o x) (hr:SegW P M ops N ((d,x)::L) rest L'):SegW P M ops N L (o::rest) L'
theorem OpRel.look{look look':Nat->Option Dt}(h:OpRel P M look o x)(hl:∀ s y,look s=some y->look' s=some y):OpRel P M look' o x:=by
 unfold OpRel at*;grind
theorem OpG.look{look look':Nat->Option Dt}(h:OpG P M ops N look o x)(hl:∀ s y,look s=some y->look' s=some y):OpG P M ops N look' o x:=by
 cases h with
 | plain hg h=>exact .plain hg (h.look hl)
 | guarded hg hd hN hb hy h=>exact .guarded hg hd hN (hl _ _ hb) hy λ hc=>(h hc).look hl
 | guarded2 hg hd hN hb hy h=>exact .guarded2 hg hd hN (hl _ _ hb) hy λ hc=>(h hc).look hl
theorem zcH{l:List (Nat×Dt)}(_hn:∀ (i j d:Nat) (x y:Dt),l[i]?=some (d,x)->l[j]?=some (d,y)->i=j){r:Env}(h:(l.reverse++r).lookup s=some x):(∃ i:Nat,l[i]?=some (s,x))\/((∀ (i:Nat) (y:Dt),l[i]?≠some (s,y))/\r.lookup s=some x):=by
 rcases ql _ _ _ _ h with hm | ⟨hno,hr⟩
 ·exact .inl (aN (List.mem_reverse.1 hm))
 grind
theorem segW_reg{E:List Nat}{T:List (List Nat)}(hc:Xp E ops k T (srcW ops)=true)(hE:∀ i,i<k->∀ j∈T.getD i [],j<i):∀ {L L':Env} {l:List Oper},SegW P M ops N L l L'->∀ (done:List (Nat×Dt)) (L0:Env),L=done.reverse++L0->
  (∀ (n:Nat) (o:Oper),l[n]?=some o->ops[done.length+n]?=some o)->(∀ (j d:Nat) (x:Dt),done[j]?=some (d,x)->xA ops j=some d)->done.length+l.length<=k->
  ∃ xs:List (Nat×Dt),L'=xs.reverse++L/\(∀ (j d:Nat) (x:Dt),(done++xs)[j]?=some (d,x)->xA ops j=some d)/\∀ D:List Dt,(∀ (j:Nat) (q:Nat×Dt),(done++xs)[j]?=some q->D[j]?=some q.2)->RegR P M ops N (srcW ops) L0 D done.length l xs:=by
 intro L L' l h
 induction h with
 | nil=>intro done L0 _ _ hd _;exact⟨[],Z,by simpa using hd,λ D _=>.nil⟩
 |cons hod hN h hr ih=>
  rename_i L L' o rest x d;intro done L0 hL hops hd hk;have ho:ops[done.length]?=some o:=hops 0 o Z;have hik:done.length<k:=by simp at hk;omega
  obtain⟨hS1,hS2,hdd⟩:=(wU hc ho).2.2.1 hik;have hd':∀ (j e:Nat) (y:Dt),(done++[(d,x)])[j]?=some _->xA ops j=some e:=λ j e y hj=>by
   rcases aR j done.length with hlt | hge
   ·rw[aK hlt] at hj;exact hd j e y hj
   ·rw[aH hge] at hj;have:j=done.length:=by
     rcases Nat.eq_or_lt_of_le hge with e | e
     ·exact e.symm
     ·rw[bp (by simp;omega)] at hj;cases hj
    subst this;simp at hj;simp[xA,ho,hod,hj.1]
  obtain⟨xs,e1,e2,e3⟩:=ih _ L0 (by rw[hL];simp) (λ n o' hn=>by rw[ap,bf,bA,cF 1 n];exact hops _ o' hn) hd' (by simp at hk ⊢;omega);refine⟨(d,x)::xs,by rw[e1];simp,by simpa using e2,λ D hD=>?_⟩;have hD':∀ (j:Nat) (q:Nat×Dt),(done++[(d,x)]++xs)[j]?=some q->D[j]?=some q.2:=by simpa using hD
  refine .cons hod hN (hD done.length (d,x) (by simp)) (h.look λ s y hy=>?_) (by have:=e3 D hD';rwa[ap,bf] at this);unfold lookW at hy;split at hy
  ·rename_i hs;have hSi:((srcW ops).getD done.length []).lookup s=some (ops.toList.findIdx? λ p=>p.dst == some s):=by
    have:(srcW ops)[done.length]?=some ((srcT ops o).map λ t=>(t,ops.toList.findIdx? λ p=>p.dst == some t)):=by
     unfold srcW;rw[aY,cR,ho];rfl
    rw[cv,this,dB];have hm:s∈srcT ops o:=by
     unfold okW at hs;simp only[bB] at hs;rcases hs with hs | hs
     ·exact List.mem_append_left _ (bF.1 hs)
     ·simp only[af] at hs;refine List.mem_append_right _ ?_;rw[Kc hs.1.1];exact dc.2 ⟨az.2 (by simpa using hs.1.2),hs.2⟩
    generalize srcT ops o=l at hm
    clear hs hy
    induction l with
    | nil=>cases hm
    |cons t l ih=>
     rw[cH,ae];cases e:s == t with
     | true=>rw[dO e]
     | false=>exact ih ((am.1 hm).resolve_left λ h=>by rw[h,aW] at e;cases e)
   unfold YM;have hmem:=jp _ _ _ hSi;rw[hSi];rw[hL] at hy;have hn:∀ (i j d:Nat) (x y:Dt),done[i]?=some _->done[j]?=some _->i=j:=λ i j d x y hi hj=>by
    have h1:=hd i d x hi;have h2:=hd j d y hj;have li:=(ai.1 hi).1;have lj:=(ai.1 hj).1;have key:∀ {a b:Nat},a<b->b<done.length->xA ops a=some d->xA ops b=some d->False:=λ{a b} hab hb ha hb'=>by
     have hbs:=Nat.lt_trans hb (aD.1 ho).1;obtain⟨o',ho'⟩:∃ o',ops[b]?=some o':=⟨_,aq hbs⟩;exact((wU hc ho').2.2.1 (by omega)).2.2 a hab (by rw[ha,hb'])
    rcases dR i j with h | h | h
    ·exact(key h lj h1 h2).elim
    ·exact h
    ·exact(key h li h2 h1).elim
   cases hf:ops.toList.findIdx? λ p=>p.dst == some s with
   |some j=>
    rw[hf] at hmem;obtain⟨g1,g2,g3⟩:=hS1 s j hmem;have hjl:=hE _ hik j g2;show D[j]?=some y;rcases zcH hn hy with⟨i,hi⟩ | ⟨hno,_⟩
    ·have:i=j:=by
      obtain⟨⟨e,z⟩,hz⟩:∃ q,done[j]?=some q:=⟨_,aa hjl⟩;have:=hd j e z hz;rw[g1] at this;injection this with this;subst this;exact hn i j s y z hi hz
     subst this;exact hD i _ (by rw[aK hjl];exact hi)
    ·obtain⟨⟨e,z⟩,hz⟩:∃ q,done[j]?=some q:=⟨_,aa hjl⟩;have:=hd j e z hz;rw[g1] at this;injection this with this;subst this;exact(hno j z hz).elim
   |none=>
    show L0.lookup s=some y;rcases zcH hn hy with⟨i,hi⟩ | ⟨_,hr⟩
    ·have h1:=hd i s y hi;have hlt:=Nat.lt_trans (ai.1 hi).1 (aD.1 ho).1;rw[bD] at hf;have:=hf ops[i] (by rw[← Array.getElem_toList];exact bi (by simpa using hlt));have h2:ops[i].dst=some s:=by simpa[xA,aq hlt] using h1
     rw[h2,aW] at this;cases this
    ·exact hr
  ·cases hy
theorem Sx.gw(h:Sx F N M0 M Gs L O a w)(hm:P.follows .mixedOrders=true)(k:Nat)(hs:SegW P M ops N (L++envO O) (ops.toList.take k) L')(hc:jf ops k (cloT ops) (srcW ops)=true)(hkn:k<=ops.size)(hk:kp L' []=some L2)(hq:selQ qp L'=some O2)(hw:AllOw Gs O2)
  (next:∀ a' w',Sx F N M0 M Gs L2 O2 a' w'->wpList P ops Q (ops.toList.drop k) a' w'):(Code.region id ops true).wp P Q a w:=by
 have hlt:∀ i,i<k->∀ j∈(cloT ops).getD i [],j<i:=λ i hi=>T_lt hc i (by omega)
 obtain⟨xs,e1,e2,e3⟩:=segW_reg hc hlt hs [] _ Z (λ n o hn=>by
  rw[aE] at hn;split at hn
  ·simpa using hn
  ·cases hn) (λ j d x hj=>by simp at hj) (by simp;omega)
 have hn:∀ (i j d:Nat) (x y:Dt),xs[i]?=some _->xs[j]?=some _->i=j:=λ i j d x y hi hj=>by
  have hreg:=e3 _ (λ j q hq=>by simp at hq;rw[aY,hq];rfl);have hlen:xs.length=k:=by rw[← hreg.get.1];simp;omega
  have h1:=e2 i d x hi;have h2:=e2 j d y hj;have li:i<k:=by rw[← hlen];exact(ai.1 hi).1
  have lj:j<k:=by rw[← hlen];exact(ai.1 hj).1
  have key:∀ {a b:Nat},a<b->b<k->xA ops a=some d->xA ops b=some d->False:=λ{a b} hab hb ha hb'=>by
   obtain⟨o',ho'⟩:∃ o',ops[b]?=some o':=⟨_,aq (by omega)⟩;exact((wU hc ho').2.2.1 hb).2.2 a hab (by rw[ha,hb'])
  rcases dR i j with h | h | h
  ·exact(key h lj h1 h2).elim
  ·exact h
  ·exact(key h li h2 h1).elim
 refine Qq hm k _ _ hc hkn h.st (e3 _ λ j q hq=>by simp at hq;rw[aY,hq];rfl) λ a' w' he hst'=>next a' w' (.of_kp (hst'.env λ s x hx=>?_) h.ob hk hq hw)
 rw[e1] at hx;rcases zcH hn hx with⟨i,hi⟩ | ⟨hno,hr⟩
 ·have hmem:=ac hi;cases hl:(xs++(L++envO O)).lookup s with
  |none=>
   exfalso
   clear hs hk hq
   generalize (L++envO O)=r at*
   clear e1 e2 e3 hi hn hst' hx
   induction xs with
   | nil=>cases hmem
   |cons p xs ih=>
    obtain⟨u,z⟩:=p;rw[bL,ae] at hl;cases e:s == u with
    | true=>rw[e] at hl;cases hl
    |false=>
     rw[e] at hl;rcases am.1 hmem with h | h
     ·injection h with h _;rw[h,aW] at e;cases e
     ·exact ih h hl
  |some y=>
   rcases ql _ _ _ _ hl with hm | ⟨hno,_⟩
   ·obtain⟨j,hj⟩:=aN hm;have:=hn i j s x y hi hj;subst this;rw[hi] at hj;injection hj with hj;injection hj with _ hj;rw[hj]
   ·exact(hno x hmem).elim
 ·rw[yi]
  ·exact hr
  ·cases hl:xs.lookup s with
   | none=>rfl
   |some y=>obtain⟨j,hj⟩:=aN (lookup_mem hl);exact(hno j y hj).elim
theorem sw(hh:opH o N=some d)(h:OpRel P M (lookW ops o L) o x)(hr:SegW P M ops N ((d,x)::L) rest L'):SegW P M ops N L (o::rest) L':=
 .cons (zQ hh).2.1 (zQ hh).2.2 (.plain (zQ hh).1 h) hr
theorem swg{e:Nat}(hh:opG o N ops=some (d,e,j,want))(hb:lookW ops o L e=some (dt b))(h:(b == want)=true->OpRel P M (lookW ops o L) o x)(hr:SegW P M ops N ((d,Dt.grd (b == want) x)::L) rest L'):SegW P M ops N L (o::rest) L':=
 .cons (xL hh).2.1 (xL hh).2.2.2.1 (.guarded (xL hh).1 (xL hh).2.2.1 (xL hh).2.2.2.2 hb zy h) hr
def gq(n:Nat)(q:Nat->Option Nat):List (Nat->Prop):=(List.range n).map λ i=>oneB (q i)
def cq_(g:Option Nat)(q:Nat->Option Nat):Nat->Option Nat
 | 0=>g
 | i+1=>q i
class GQ (Gs:List (Nat->Prop)) (n:outParam Nat) (q:outParam (Nat->Option Nat)):Prop where
 h:Gs=gq n q
instance:GQ [] 0 (λ _=>none):=⟨Z⟩
instance {n:Nat} {q:Nat->Option Nat}:GQ (gq n q) n q:=⟨Z⟩
theorem gq_cons{n:Nat}{q:Nat->Option Nat}:oneB g::gq n q=gq (n+1) (cq_ g q):=by
 unfold gq;rw[List.range_succ_eq_map,cH,cV];rfl
instance {g:Option Nat} {l:List (Nat->Prop)} {n:Nat} {q:Nat->Option Nat} [k:GQ l n q]:GQ (oneB g::l) (n+1) (cq_ g q):=⟨by rw[k.h,gq_cons]⟩
instance {g:Option Nat}:GQ (List.replicate 0 (oneB g)) 0 (λ _=>none):=⟨Z⟩
instance {g:Option Nat} {m n:Nat} {q:Nat->Option Nat} [k:GQ (List.replicate m (oneB g)) n q]:GQ (List.replicate (m+1) (oneB g)) (n+1) (cq_ g q):=⟨by rw[db,k.h,gq_cons]⟩
def sq_(p:Nat)(g:Option Nat)(q:Nat->Option Nat)(i:Nat):Option Nat:=match Nat.beq i p with | true=>g | false=>q i
theorem gq_set{p n:Nat}{q:Nat->Option Nat}:(gq n q).set p (oneB g)=gq n (sq_ p g q):=by
 apply aX;intro i;unfold gq;rw[List.getElem?_set,bZ,bd,aY,aY];by_cases h:p=i
 ·subst h;rw[Kc Z];by_cases hl:p<n
  ·rw[Kc hl,ck hl];simp[sq_]
  ·rw[Kd hl,bp (by simpa using hl)];rfl
 ·rw[Kd h];have:sq_ p g q i=q i:=by
   unfold sq_;cases e:Nat.beq i p with
   | true=>exact absurd (Nat.eq_of_beq_eq_true e).symm h
   | false=>rfl
  by_cases hl:i<n
  ·rw[ck hl];simp[this]
  ·rw[bp (by simpa using hl)];rfl
instance {g:Option Nat} {l:List (Nat->Prop)} {p n:Nat} {q:Nat->Option Nat} [k:GQ l n q]:GQ (l.set p (oneB g)) n (sq_ p g q):=⟨by rw[k.h,gq_set]⟩
theorem Sx.fq{n:Nat}{q:Nat->Option Nat}(h:Sx F N M0 M Gs L O a w)(g:GQ Gs n q:=by infer_instance)(hk:selP (L2.map (·.1)) (L++envO O)=some L2:=by rfl)(hq:selQ ((W q).map λ q=>(q.1,q.2.1)) (L++envO O)=some (W q):=by rfl)(hw:AllOw Gs (W q):=by exact owA):∃ (M1:Nat->Prop) (q:Nat->Option Nat),Sx F N M0 M1 (gq n q) L2 (W q) a w:=
 ⟨M,q,by rw[← g.h];exact h.sel _ hk _ hq hw⟩
theorem fz{T:Prop}(h:T:=by first | exact Sx.fq (by assumption) | ((repeat (apply Exists.intro));exact Sx.fin (by assumption))):T:=h
theorem flz{x:σ⊕β}{s:σ}{T:σ->Prop}(h:some (Sum.inl s)=some x)(k:T s:=by exact fz):∃ s',x=.inl s'/\T s':=⟨s,(bP h).symm,k⟩
theorem gl{a b:Nat}(h:Nat.blt a b=true):a<b:=by simpa[Nat.blt_eq] using h
theorem fq1{f:Nat}{y:Dt}(n:Nat)(hf:P.funcs[f]?=some fn)
  (h:∀ (M:Nat->Prop) (w:World) (a:Act),Sx (Frm.of w) k M M (List.replicate n (oneB none)) E [] a w->wq P c (bodyPost P fn (RetP M w y)) a w) (hb:fn.body=some c:=by rfl) (hk:fn.ntmps=k:=by rfl) (hn:Nat.ble xs.length k=true:=by rfl) (hE:zK 0 xs=E:=by rfl) (hnb:Ji E=true:=by rfl):Fn P f xs y:=by
 subst hk hE;exact fnx n hf hb (hn:=(Nat.le_of_ble_eq_true hn)) hnb λ M w a st=>wqw (h M w a st)
theorem fqO[Rep α]{f:Nat}{y:List α}(n:Nat)(hf:P.funcs[f]?=some fn)
  (h:∀ (M:Nat->Prop) (w:World) (a:Act),Sx (Frm.of w) k M M (List.replicate n (oneB none)) E [] a w->wq P c (bodyPost P fn (RetO e M w y)) a w) (hb:fn.body=some c:=by rfl) (hk:fn.ntmps=k:=by rfl) (hn:Nat.ble xs.length k=true:=by rfl) (hE:zK 0 xs=E:=by rfl) (hnb:Ji E=true:=by rfl):FnOwn P f xs e y:=by
 subst hk hE;exact fnxO n hf hb (Nat.le_of_ble_eq_true hn) hnb λ M w a st=>wqw (h M w a st)
theorem Sx.gs_(h:Sx F N M0 M Gs L O a w)(hs:Seg P M ops N (L++envO O) ops.toList L')(next:∀ a' w',St F N M L' a' w'->Q .normal a' w'):(Code.region id ops false).wp P Q a w:=by
 refine QY ?_;have:=zal hs h.st (λ a' w' he hst'=>Wz (next a' w' hst'));grind
theorem Sx.e1[Rep α]{t:Nat}{x r:α}(h:Sx (Frm.of w0) N M0 M Gs L O a w)(hm:some x=some r)(hq:∀ a' w',bodyPost P fn (RetP M0 w0 (dt r)) .ret a' w'->Q .normal a' w':=by exact λ _ _ h=>h)(hr:fn.results=#[.tmp t]:=by rfl)
  (hs:Seg P M ops N (L++envO O) ops.toList L':=by exact segY) (hl:L'.lookup t=some (dt x):=by rfl):(Code.region id ops false).wp P Q a w:=by
 injection hm with hm;subst hm;exact h.gs_ hs λ a' w' st=>hq a' w' (zc3 hr st hl λ v hv=>(dt x).weak hv λ k _ hk=>h.ob.sub k hk)
theorem Sx.n1{x:σ⊕β}{s:σ}{T:σ->Act->World->Prop}(h:Sx F N M0 M Gs L O a w)(qp:List (Nat×Nat))(h2:some (Sum.inl s)=some x)(hq:∀ a' w',(∃ s',x=.inl s'/\T s' a' w')->Q .normal a' w':=by exact λ _ _ h=>h)
  (hs:Seg P M ops N (L++envO O) ops.toList L':=by exact segY) (hk:kp L' []=some L2:=by rfl) (hsq:selQ qp L'=some O2:=by rfl) (hw:AllOw Gs O2:=by exact owA) (k:∀ a' w',Sx F N M0 M Gs L2 O2 a' w'->T s a' w':=by intro _ _ _;exact fz):(Code.region id ops false).wp P Q a w:=
 h.gs_ hs λ a' w' st=>hq a' w' ⟨s,(bP h2).symm,k a' w' (Sx.of_kp st h.ob hk hsq hw)⟩
theorem Sx.qc{c:Nat}{x z:Code}{A:Option β}{r:β}(h:Sx F N M0 M Gs L O a w)(hm:(if b=true then A else B)=some r)(ht:∀{a' w'},Sx F N M0 M Gs L2 [] a' w'->A=some r->wq P x Q2 a' w')(hf:∀{a' w'},Sx F N M0 M Gs L2 [] a' w'->B=some r->wq P z Q2 a' w')
  (hq:∀ a' w',(Code.cond (.tmp c) x z).wp P Q2 a' w'->Q .normal a' w':=by exact λ _ _ h=>h) (hs:Seg P M ops N (L++envO O) ops.toList L':=by exact segY) (hk:kp L' []=some L2:=by rfl) (hl:L2.lookup c=some (dt b):=by rfl):(Code.region id ops false).wp P Q a w:=
 h.q1 (@λ a' w' st=>hq a' w' (st.cq hm (ht st) (hf st) hl)) hs hk
theorem Sx.qd{c:Nat}{x z:Code}{A:Option β}{r:β}(h:Sx F N M0 M Gs L O a w)(qp:List (Nat×Nat))(hm:(if b=true then A else B)=some r)(ht:∀ a' w',Sx F N M0 M Gs L2 O2 a' w'->A=some r->wq P x Q2 a' w')(hf:∀ a' w',Sx F N M0 M Gs L2 O2 a' w'->B=some r->wq P z Q2 a' w')
  (hq:∀ a' w',(Code.cond (.tmp c) x z).wp P Q2 a' w'->Q .normal a' w':=by exact λ _ _ h=>h) (hs:Seg P M ops N (L++envO O) ops.toList L':=by exact segY) (hk:kp L' []=some L2:=by rfl) (hsq:selQ qp L'=some O2:=by rfl) (hw:AllOw Gs O2:=by exact owA) (hl:L2.lookup c=some (dt b):=by rfl):(Code.region id ops false).wp P Q a w:=
 h.qo qp (λ a' w' st=>hq a' w' (st.cq hm (ht a' w' st) (hf a' w' st) hl)) hs hk hsq hw
theorem sel_app{V:Env}(h:Sx F N M0 M Gs L O a w)(hk:selP ks L=some K0)(hv:selP vs (L++envO O)=some V):Sx F N M0 M Gs (K0++V) [] a w:=
 ⟨h.st.env λ s x hx=>by
  rw[show envO []=([]:Env) from Z,aM] at hx;rcases yq hx with h1 | ⟨_,h1⟩
  ·exact yF ((wc hk).spec s x h1).1
  ·exact((wc hv).spec s x h1).1,h.ob,λ s x hx=>by
  rcases yq hx with h1 | ⟨_,h1⟩
  ·exact((wc hk).spec s x h1).2
  ·exact((wc hv).spec s x h1).2,trivial⟩
section
variable{B R T:Type}{e:Option (B⊕R)}{e2:Option T}{K:B->Option R}{K2:T->Option R}{r:R}{c1 c2:Code}
variable{β σ:Type}{s0:σ}
theorem Sx.jb(_h:Sx F N M0 M Gs L O a w)(ks:List Nat)(V:B->Env)(hm:(e.bind (Sum.elim K some))=some r)
  (h1:∀ o,e=some o->Sum.elim K some o=some r->wq P c1 (Exit.then (λ a' w'=>∃ b,o=.inl b/\Sx F N M0 M Gs (K0++V b) [] a' w') Q) a w)
  (h2:∀ b a' w',Sx F N M0 M Gs (K0++V b) [] a' w'->K b=some r->wq P c2 Q a' w') (_hk:selP ks L=some K0:=by rfl):wq P (Code.seq c1 c2) Q a w:=by
 have⟨o,p,k⟩:=bs hm;refine wqj _ (h1 o p k) ?_
 grind
theorem Sx.jm(_h:Sx F N M0 M Gs L O a w)(ks:List Nat)(V:T->Env)(hm:e2.bind K2=some r)
  (h1:∀ o,e2=some o->wq P c1 (Exit.then (λ a' w'=>Sx F N M0 M Gs (K0++V o) [] a' w') Q) a w)
  (h2:∀ o a' w',Sx F N M0 M Gs (K0++V o) [] a' w'->K2 o=some r->wq P c2 Q a' w') (_hk:selP ks L=some K0:=by rfl):wq P (Code.seq c1 c2) Q a w:=by
 have⟨o,p,k⟩:=bs hm;exact wqj _ (h1 o p) λ a' w' st=>h2 o a' w' st k
theorem Sx.lp{step:σ->Option (σ⊕β)}{o:β}(h:Sx F N M0 M Gs L O a w)(ks:List Nat)(V:σ->Env)(hm:zE step s0=some o)
  (round:∀ s x a w,Sx F N M0 M Gs (K0++V s) [] a w->step s=some x->(∀ b,x=.inr b->b=o)->wq P c (Exit.then (λ a' w'=>∃ s',x=.inl s'/\Sx F N M0 M Gs (K0++V s') [] a' w') Q) a w)
  (hk:selP ks L=some K0:=by rfl) (hv:selP ((V s0).map (·.1)) (L++envO O)=some (V s0):=by rfl):(Code.loop c).wp P Q a w:=
 wql hm (λ s a w=>Sx F N M0 M Gs (K0++V s) [] a w) (sel_app h hk hv) round
theorem Sx.jbq(_h:Sx F N M0 M Gs L O a w)(n:Nat)(ks:List Nat)(V:B->Env)(W:B->(Nat->Option Nat)->List (Nat×Nat×Dt))(hm:(e.bind (Sum.elim K some))=some r)
  (h1:∀ o,e=some o->Sum.elim K some o=some r->wq P c1 (Exit.then (λ a' w'=>∃ b,o=.inl b/\∃ (M1:Nat->Prop) (q:Nat->Option Nat),Sx F N M0 M1 (gq n q) (K0++V b) (W b q) a' w') Q) a w)
  (h2:∀ b q M1 a' w',Sx F N M0 M1 (gq n q) (K0++V b) (W b q) a' w'->K b=some r->wq P c2 Q a' w') (_hk:selP ks L=some K0:=by rfl):wq P (Code.seq c1 c2) Q a w:=by
 have⟨o,p,k⟩:=bs hm;refine wqj _ (h1 o p k) ?_
 grind
theorem Sx.jmq(_h:Sx F N M0 M Gs L O a w)(n:Nat)(ks:List Nat)(V:T->Env)(W:T->(Nat->Option Nat)->List (Nat×Nat×Dt))(hm:e2.bind K2=some r)
  (h1:∀ o,e2=some o->wq P c1 (Exit.then (λ a' w'=>∃ (M1:Nat->Prop) (q:Nat->Option Nat),Sx F N M0 M1 (gq n q) (K0++V o) (W o q) a' w') Q) a w)
  (h2:∀ o q M1 a' w',Sx F N M0 M1 (gq n q) (K0++V o) (W o q) a' w'->K2 o=some r->wq P c2 Q a' w') (_hk:selP ks L=some K0:=by rfl):wq P (Code.seq c1 c2) Q a w:=by
 have⟨o,p,k⟩:=bs hm;exact wqj _ (h1 o p) λ a' w' ⟨M1,q,st⟩=>h2 o q M1 a' w' st k
theorem Sx.lpq{step:σ->Option (σ⊕β)}{o:β}(h:Sx F N M0 M Gs L O a w)(n:Nat)(ks:List Nat)(V:σ->Env)(W:σ->(Nat->Option Nat)->List (Nat×Nat×Dt))(hm:zE step s0=some o)
  (round:∀ s x q M1 a w,Sx F N M0 M1 (gq n q) (K0++V s) (W s q) a w->step s=some x->(∀ b,x=.inr b->b=o)->wq P c (Exit.then (λ a' w'=>∃ s',x=.inl s'/\∃ (M1:Nat->Prop) (q:Nat->Option Nat),Sx F N M0 M1 (gq n q) (K0++V s') (W s' q) a' w') Q) a w)
  (hk:selP ks L=some K0:=by rfl) (hv:selP ((V s0).map (·.1)) (L++envO O)=some (V s0):=by rfl) [g:GQ Gs n q0] (hq:selQ ((W s0 q0).map λ q=>(q.1,q.2.1)) (L++envO O)=some (W s0 q0):=by rfl) (hw:AllOw Gs (W s0 q0):=by exact owA):(Code.loop c).wp P Q a w:=
 wql hm (λ s a w=>∃ (M1:Nat->Prop) (q:Nat->Option Nat),Sx F N M0 M1 _ _ _ a w) ⟨M,q0,by
  rw[← g.h];have h1:=sel_app h hk hv;refine⟨h.st.env λ s x hx=>?_,h.ob,h1.no,hw⟩;rcases yq hx with h2 | ⟨_,h2⟩
  ·rcases yq h2 with h3 | ⟨_,h3⟩
   ·exact yF ((wc hk).spec s x h3).1
   ·exact((wc hv).spec s x h3).1
  ·exact envO_sel hq s x h2⟩ λ s x a w ⟨M1,q,st⟩ h1 h2=>round s x q M1 a w st h1 h2
end
end
open Go.ChangeShapes Go.WideShapes Go.ChangeAt Go.RowKit
structure Opn(P:Program)(t:TypeId)(α:Type)[Rep α]:Prop where
 cells:P.cellsOf t=Rep.size α
 op:∀ {H:Type} {enc:TypeId×Value->H} {w:World} {spare:Nat->Bool} {held:Bool} {fuel:Nat} {cs:List Value} {x:DataW H×List MemPlace},DataW.trod enc P w 0 spare held fuel t cs=some x->∃ a:α,Rep.rdc noB w cs a
theorem Opn.int{P:Program}{t:TypeId}(ht:P.underlying t=some (.int .i64))(hc:P.cellsOf t=1):Opn P t Int:=⟨hc,λ{H enc w spare held fuel cs x} h=>by
 obtain⟨n,rfl,_⟩:=DataW.trod_int ht h;exact⟨n,Z,trivial⟩⟩
theorem Opn.bool{P:Program}{t:TypeId}(ht:P.underlying t=some .bool)(hc:P.cellsOf t=1):Opn P t Bool:=⟨hc,λ{H enc w spare held fuel cs x} h=>by
 obtain⟨b,rfl,_⟩:=DataW.trod_bool ht h;exact⟨b,Z,trivial⟩⟩
theorem Opn.str(ht:P.underlying t=some .string)(hc:P.cellsOf t=1):Opn P t Str:=⟨hc,λ{H enc w spare held fuel cs x} h=>by
 obtain⟨s,rfl,_,hs⟩:=DataW.trod_string ht h;exact⟨⟨s.data.toList⟩,Z,by simpa using hs⟩⟩
theorem Opn.slice{P:Program}{t e:TypeId}{α:Type}[Rep α](ht:P.underlying t=some (.slice e))(hc:P.cellsOf t=1)(he:Opn P e α):Opn P t (List α):=⟨hc,λ{H enc w spare held fuel cs x} h=>by
 rcases Deep.open_slice ht h with⟨rfl,_⟩ | ⟨a,len,cap,m,n,D,Pl,rfl,_,hl,hm,hmm,_,hel⟩
 ·exact⟨[],none,0,Z,ak _,ao _,.inl Z⟩
 ·have hlm:len<=m:=by rw[hmm];split <;> omega
  have hpos:0<P.cellsOf e:=by rw[he.cells];exact Rep.pos
  have hrow:∀ k,k<=len->∃ (xs:List α) (cells:List Value),xs.length=k/\rowR noB w cells xs/\∀ j u,cells[j]?=some u->w.cell? (a.add j)=some u:=by
   intro k
   induction k with
   | zero=>intro _;exact⟨[],[],Z,Z,λ j u hj=>by simp at hj⟩
   |succ k ih=>
    intro hk;obtain⟨xs,cells,hx,hr,hcl⟩:=ih (by omega);obtain⟨cs',hcs,htr⟩:=hel k (by omega);obtain⟨y,hy⟩:=he.op htr;obtain⟨_,hlen,hat⟩:=World.cells?_some hcs;refine⟨xs++[y],cells++cs',by simp[hx],qO hr (rowR_one hy),λ j u hj=>?_⟩;have hcl2:=Je hr;by_cases hjl:j<cells.length
    ·rw[aK hjl] at hj;exact hcl j u hj
    ·rw[aH (by omega)] at hj;have hj2:=(ai.1 hj).1;have:=hat (j - cells.length) (by omega);rw[hj] at this;rw[← this]
     congr 1
     have hs:k*P.cellsOf e=cells.length:=by rw[hcl2,hx,he.cells]
     rw[hs];show a.add j=(a.add cells.length).add _;rw[Deep.add_add,show cells.length+(j - cells.length)=j by omega]
  obtain⟨xs,cells,hx,hr,hcl⟩:=hrow len (ak _);refine⟨xs,some a,cap,by rw[hx],by omega,hm,?_⟩;by_cases h0:len=0
  ·left;exact dl.1 (by omega)
  ·right
   obtain⟨cs',hcs,_⟩:=hel 0 (by omega);obtain⟨_,hlen,hat⟩:=World.cells?_some hcs;have a8:=hat 0 hpos;have hsome:∃ u,w.cell? ((a.add (0*P.cellsOf e)).add 0)=some u:=by
    rw[a8];exact⟨cs'[0]'(by omega),aa (by omega)⟩
   obtain⟨u,hu⟩:=hsome;have hspot:a.spot=none:=by simpa[Addr.add] using World.cell?_spot hu
   obtain⟨b,o,sp⟩:=a;subst hspot;exact⟨b,o,cells,Z,λ hf=>hf,λ j u hj=>by rw[← add_plain];exact hcl j u hj,hr⟩⟩
structure OpnF(P:Program)(fs:List Field)(off:Nat)(β:Type)[Rep β]:Prop where
 op:∀ {H:Type} {enc:TypeId×Value->H} {w:World} {spare:Nat->Bool} {held:Bool} {n:Nat} {cs:List Value},cs.length=off+Rep.size β->
  (∀ f∈fs,∃ y,DataW.trod enc P w 0 spare held n f.type ((cs.drop f.offset).take (P.cellsOf f.type))=some y)->∃ b:β,Rep.rdc noB w (cs.drop off) b
theorem OpnF.last{f:Field}[Rep α](ho:f.offset=off)(h:Opn P f.type α):OpnF P [f] off α:=⟨λ{H enc w spare held n cs} hl hf=>by
 obtain⟨y,hy⟩:=hf f (by simp);rw[ho,h.cells,aJ (by rw[dW];omega)] at hy;exact h.op hy⟩
theorem OpnF.cons{f:Field}[Rep α][Rep β](ho:f.offset=off)(h:Opn P f.type α)(k:OpnF P fs (off+Rep.size α) β):OpnF P (f::fs) off (α×β):=⟨λ{H enc w spare held n cs} hl hf=>by
 obtain⟨y,hy⟩:=hf f (by simp);rw[ho,h.cells] at hy;obtain⟨a,ha⟩:=h.op hy;have hl':cs.length=off+(Rep.size α+Rep.size β):=hl;obtain⟨b,hb⟩:=k.op (by omega) λ g hg=>hf g (by simp[hg])
 refine⟨(a,b),_,_,?_,ha,hb⟩;rw[← bG,bH]⟩
theorem Opn.struct{P:Program}{t:TypeId}{fs:Array Field}{α β:Type}[Rep β]{f:α->β}(g:β->α)(hfg:∀ b,f (g b)=b)(ht:P.underlying t=some (.struct fs))(hc:P.cellsOf t=Rep.size β)(h:OpnF P fs.toList 0 β):@Opn P t α (Rep.iso f):=by
 refine @Opn.mk P t α (Rep.iso f) hc λ{H enc w spare held fuel cs x} hx=>?_
 obtain⟨xs,n,_,_,hl,hlen,hf⟩:=DataW.trod_struct ht hx;obtain⟨b,hb⟩:=h.op (cs:=cs) (by omega) λ fl hfl=>by
  obtain⟨i,hi⟩:=aN hfl;have hi':fs[i]?=some fl:=by simpa using hi
  have hlt:=(aD.1 hi').1;rw[hf i fl hi',aa (by omega)];exact⟨_,Z⟩
 refine⟨g b,?_⟩;grind
theorem Opn.rd{P:Program}{t:TypeId}{α:Type}[Rep α](h:Opn P t α){H:Type}{enc:TypeId×Value->H}{w:World}{spare:Nat->Bool}{held:Bool}{v:Value}{d:DataW H}{ps:List MemPlace}(hd:DataW.Trod enc P w 0 spare held t v d ps)
  (hv:v=mkv (Rep.agg α) v.cells.toList):∃ a:α,(dt a).rd noB w v:=by
 obtain⟨fuel,hf⟩:=hd;obtain⟨a,ha⟩:=h.op hf;exact⟨a,_,ha,hv⟩
theorem mkv_slice{b:Nat}(ht:P.underlying t=some (.slice e))(h:Value.okWide P w r b t v):v=mkv false v.cells.toList:=by
 obtain⟨a,l,c,rfl⟩:=okWide_slice ht h;simp[mkv,Value.cells]
theorem mkv_int{k:IntKind}{b:Nat}(ht:P.underlying t=some (.int k))(h:Value.okWide P w r b t v):v=mkv false v.cells.toList:=by
 obtain⟨a,rfl⟩:=okWide_int ht h;simp[mkv,Value.cells]
theorem iI:∀ b,p b->p b:=λ _ h=>h
theorem iE:∀ b,oneB none b->p b:=λ _ h=>(by cases h)
theorem kc(s:Nat)(h:L.lookup s=some x)(r:Pick (λ _=>True) L L1):Pick (λ _=>True) L ((s,x)::L1):=.cons h trivial r
theorem iT:(∀ b,p b->p b)/\True:=⟨iI,trivial⟩
theorem obS(a:α)(f:α->Option β):(some a).bind f=f a:=rfl
