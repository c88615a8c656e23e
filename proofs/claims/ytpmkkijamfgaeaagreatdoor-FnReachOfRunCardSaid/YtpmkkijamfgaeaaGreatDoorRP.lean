import Derived.Test.YtpmkkijamfgaeaaGreatDoorRI
import Derived.Test.YtpmkkijamfgaeaaGreatDoorRKc
import Derived.Test.YtpmkkijamfgaeaaGreatDoorRJ
import Derived.Test.YtpmkkijamfgaeaaGreatDoorRK
namespace Go.Proofs.YtpmkkijamfgaeaaGreatDoor
open Go.RowKit
def Rok(k:Int)(r:Reader):Prop:=r.b.length<=2000/\0<=r.p/\r.p<=k
def Dr{α:Type}(k:Int)(x:Option (Reader×α))(P:α->Prop):Prop:=∃ r v,x=some (r,v)/\Rok k r/\P v
theorem Dr.bind{α β:Type}{k k':Int}{x:Option (Reader×α)}{P:α->Prop}{f:Reader×α->Option (Reader×β)}{Q:β->Prop}(h:Dr k x P)(hf:∀ r v,Rok k r->P v->Dr k' (f (r,v)) Q):Dr k' (x.bind f) Q:=by
 obtain⟨r,v,h1,h2,h3⟩:=h;rw[h1];exact hf r v h2 h3
theorem Dr.pure{α:Type}{k:Int}{r:Reader}{v:α}{P:α->Prop}(h:Rok k r)(hp:P v):Dr k (some (r,v)) P:=⟨r,v,rfl,h,hp⟩
theorem Rok.le{k k':Int}{r:Reader}(h:Rok k r)(hk:k<=k'):Rok k' r:=⟨h.1,h.2.1,Int.le_trans h.2.2 hk⟩
theorem Dr.mono{α:Type}{k k':Int}{x:Option (Reader×α)}{P Q:α->Prop}(h:Dr k x P)(hk:k<=k')(hp:∀ v,P v->Q v):Dr k' x Q:=by
 obtain⟨r,v,h1,h2,h3⟩:=h;exact⟨r,v,h1,h2.le hk,hp v h3⟩
theorem Jt{α:Type}{l:List α}{i:Int}(h0:0<=i)(h:i<l.length):∃ x,atI l i=some x/\x∈l:=by
 obtain⟨n,rfl⟩:=Int.eq_ofNat_of_zero_le h0;obtain⟨x,hx,hm⟩:=get_some (l:=l) (k:=n) (by omega);exact⟨x,by rw[zR,hx],hm⟩
theorem xorI_nn{m n:Int}(hm:0<=m)(hm2:m<4611686018427387904)(hn:0<=n)(hn2:n<4611686018427387904):0<=xorI m n:=by
 obtain⟨a,rfl⟩:=Int.eq_ofNat_of_zero_le hm;obtain⟨b,rfl⟩:=Int.eq_ofNat_of_zero_le hn;have h1:∀ c:Nat,c<4611686018427387904->(BitVec.ofInt 64 (c:Int)).toNat=c:=λ c hc=>by
  rw[BitVec.toNat_ofInt];omega
 have h2:(BitVec.ofInt 64 (a:Int) ^^^ BitVec.ofInt 64 (b:Int)).toNat=a ^^^ b:=by
  rw[BitVec.toNat_xor,h1 a (by omega),h1 b (by omega)]
 have h3:a ^^^ b<2 ^ 62:=Nat.xor_lt_two_pow (by omega) (by omega);have h4:(2:Nat) ^ 62=4611686018427387904:=by decide
 unfold xorI;show 0<=IntKind.i64.wrap ((BitVec.ofInt 64 (a:Int) ^^^ BitVec.ofInt 64 (b:Int)).toNat:Int);rw[h2,wrap_in _ (by omega)];omega
theorem wQ{k:Int}{r:Reader}(n:Int)(h:Rok k r)(hk:k<=1000000):Dr (k+1) (zD r n) (λ v=>0<=v/\(1<=n->v<n)):=by
 obtain⟨h1,h2,h3⟩:=h;unfold zD;rw[wG (by omega) (by omega),obS];have hr:Rok (k+1) { r with p:=r.p+1 }:=⟨h1,by show 0<=r.p+1;omega,by show r.p+1<=k+1;omega⟩;cases hc:cmpI .lss n 1||cmpI .eql (r.b.length:Int) 0 with
 |
  true=>
  rw[if_pos rfl];refine .pure hr ⟨Int.le_refl _,λ h=>by omega⟩
 |
  false=>
  rw[Bool.or_eq_false_iff] at hc;have hn:¬ n<1:=of_decide_eq_false hc.1;have hl:¬ (r.b.length:Int)=0:=by simpa[cmpI] using hc.2
  have hres:∀ x:Int,0<=x->Dr (k+1) ((modO x n).bind λ v=>some ({ r with p:=r.p+1 },v)) (λ v=>0<=v/\(1<=n->v<n)):=λ x hx=>by
   rw[modO_of (by omega),obS];exact .pure hr ⟨Int.tmod_nonneg _ hx,λ _=>Int.tmod_lt_of_pos _ (by omega)⟩
  rw[if_neg (by decide),show r.p+1 - 1=r.p by omega,wG (by omega) (by omega),obS];cases hlt:cmpI .lss r.p (r.b.length:Int) with
  |
   true=>
   obtain⟨x,hx,_⟩:=Jt h2 (oD hlt);rw[if_pos rfl,hx,obS];exact hres _ (by omega)
  |
   false=>
   have hm:∀ x:Int,0<=x->∃ y,modO x (r.b.length:Int)=some y/\0<=y/\y<(r.b.length:Int):=λ x hx=>⟨_,modO_of (by omega),Int.tmod_nonneg _ hx,Int.tmod_lt_of_pos _ (by omega)⟩
   obtain⟨y1,e1,a1,b1⟩:=hm r.p h2;obtain⟨x1,f1,_⟩:=Jt a1 b1;obtain⟨y2,e2,a2,b2⟩:=hm (r.p*7+3) (by omega);obtain⟨x2,f2,_⟩:=Jt a2 b2;have u1:=x1.toNat_lt;have u2:=x2.toNat_lt;have hd1:0<=r.p.tdiv (r.b.length:Int):=Int.tdiv_nonneg h2 (by omega);have hd2:r.p.tdiv (r.b.length:Int)<=r.p:=Int.tdiv_le_self _ h2;rw[if_neg (by decide),e1,obS,f1,obS,wG (by omega) (by omega),obS,wG (by omega) (by omega),obS,wG (by omega) (by omega),obS,e2,obS,f2,obS,wG (by omega) (by omega),obS,wG (by omega) (by omega),obS,wG (by omega) (by omega),obS,wG (by omega) (by omega),obS,divO_of (by omega) (by omega) (by omega),obS,wG (by omega) (by omega),obS,wG (by omega) (by omega),obS];generalize hz:(x1.toNat:Int)*131+(x2.toNat:Int)*1117+r.p*29+r.p.tdiv (r.b.length:Int)*53=z;have hz0:0<=z/\z<4611686018427387904:=by omega
   have hz1:0<=z.tdiv 64:=Int.tdiv_nonneg hz0.1 (by omega);have hz2:z.tdiv 64<=z:=Int.tdiv_le_self _ hz0.1;rw[divO_of (by decide) (by omega) (by omega),obS];exact hres _ (xorI_nn hz0.1 hz0.2 hz1 (by omega))
theorem Dr.ite{α:Type}{k:Int}{c:Prop}[Decidable c]{x y:Option (Reader×α)}{P:α->Prop}(h1:c->Dr k x P)(h2:¬ c->Dr k y P):Dr k (if c then x else y) P:=by
 split
 ·
  exact h1 (by assumption)
 ·
  exact h2 (by assumption)
theorem Dr.any{α γ:Type}{k:Int}{x:Option γ}{f:γ->Option (Reader×α)}{P:α->Prop}(hx:∃ o,x=some o)(hf:∀ o,Dr k (f o) P):Dr k (x.bind f) P:=by
 obtain⟨o,rfl⟩:=hx;exact hf o
theorem Dr.some{α γ:Type}{k:Int}{x:Option γ}{o:γ}{f:γ->Option (Reader×α)}{P:α->Prop}(hx:x=some o)(hf:Dr k (f o) P):Dr k (x.bind f) P:=by
 rw[hx];exact hf
theorem QP{k:Int}{r:Reader}{l:List Int}(P:Int->Prop)(h:Rok k r)(hk:k<=1000000)(h0:0<l.length)(hP:∀ x∈l,P x):Dr (k+1) (yp r l) P:=by
 unfold yp;refine .bind (wQ _ h hk) λ r1 v h1 hv=>?_
 obtain⟨x,hx,hm⟩:=Jt hv.1 (hv.2 (by omega));exact .some hx (.pure h1 (hP x hm))
theorem of_ok{k:Int}{r:Reader}{l:List Str}(P:Str->Prop)(h:Rok k r)(hk:k<=1000000)(h0:0<l.length)(hP:∀ x∈l,P x):Dr (k+1) (xz r l) P:=by
 unfold xz;refine .bind (wQ _ h hk) λ r1 v h1 hv=>?_
 obtain⟨x,hx,hm⟩:=Jt hv.1 (hv.2 (by omega));exact .some hx (.pure h1 (hP x hm))
theorem ZE{k:Int}{r:Reader}(h:Rok k r)(hk:k<=1000000):Dr (k+1) (yL r) (λ s=>s.l.length<=1):=by
 unfold yL;refine .bind (of_ok (λ s=>s.l.length<=1) h hk (by decide) (by decide)) λ r1 v h1 hv=>.pure h1 hv
theorem za9{σ:Type}{step:Reader×σ×Int->Option ((Reader×σ×Int)⊕(Reader×σ))}(K:Nat->Int)(P:Nat->σ->Prop)(m:Nat)(hK:∀ i j,i<=j->K i<=K j)
  (h:∀ j r x n,j<m->Rok (K j) r->P j x->0<n->n+(j:Int)<=m->∃ r' x',step (r,x,n)=some (.inl (r',x',n - 1))/\Rok (K (j+1)) r'/\P (j+1) x')
  (hend:∀ r x n,n<=0->step (r,x,n)=some (.inr (r,x))) (hm:m<=1000) {r:Reader} {x:σ} {n:Int} (h0:Rok (K 0) r) (hx:P 0 x) (hn:n<=m):Dr (K m) (zL step (r,x,n)) (λ y=>∃ j,j<=m/\P j y):=by
 have key:∀ q j r x n,j+q=m->Rok (K j) r->P j x->n<=(q:Int)->∃ r' y,jK step (q+1) (r,x,n)=some (r',y)/\Rok (K m) r'/\∃ j',j'<=m/\P j' y:=by
  intro q
  induction q with
  | zero=>intro j r x n hj hr hx hn;exact⟨r,x,xA (hend r x n (by omega)),hr.le (hK _ _ (by omega)),j,by omega,hx⟩
  |
   succ q ih=>
   intro j r x n hj hr hx hn;by_cases hn0:n<=0
   ·
    exact⟨r,x,xA (hend r x n hn0),hr.le (hK _ _ (by omega)),j,by omega,hx⟩
   ·
    obtain⟨r',x',h1,h2,h3⟩:=h j r x n (by omega) hr hx (by omega) (by omega);rw[Zk h1];exact ih (j+1) r' x' (n - 1) (by omega) h2 h3 (by omega)
 obtain⟨r',y,h1,h2,h3⟩:=key m 0 r x n (by omega) h0 hx hn;exact⟨r',y,ZC h1 (by omega),h2,h3⟩
theorem zaC{k:Int}{r:Reader}(h:Rok k r)(hk:k<=900000):Dr (k+10) (jD r) (λ s=>s.l.length<=8):=by
 unfold jD;refine .bind (ZE h (by omega)) λ r1 s h1 hs=>?_
 refine .bind (k:=k+10) (P:=λ s=>s.l.length<=8) ?_ λ r3 s3 h3 hs3=>.pure h3 hs3
 refine .bind (QP (λ n=>n<=2) h1 (by omega) (by decide) (by decide)) λ r2 n h2 hn=>?_
 refine(za9 (λ j=>k+2+j) (λ j (s:Str)=>s.l.length<=1+2*j) 2 (λ i j hij=>by omega) (λ j r x n hj hr hx hn hb=>?_) (λ r x n hn=>?_) (by omega) (h2.le (by show k+1+1<=k+2+((0:Nat):Int);omega)) (by show s.l.length<=1+2*0;omega) (by exact hn)).mono (by show k+2+((2:Nat):Int)<=k+10;omega) (λ y ⟨j,hj,hy⟩=>by omega)
 ·
  obtain⟨r',v,e1,e2,e3⟩:=ZE hr (by omega);have e3':v.l.length<=1:=e3;refine⟨r',⟨(x.l++[46])++v.l⟩,?_,e2.le (by show k+2+(j:Int)+1<=k+2+((j+1:Nat):Int);omega),?_⟩
  ·
   unfold qt;dsimp only;rw[if_pos (by simp[cmpI];omega),YG (by show x.l.length+1<=_;omega),obS,e1,obS,YG (by rw[List.length_append];show x.l.length+1+v.l.length<=_;omega),obS,wG (by omega) (by omega),obS]
  ·
   show(x.l++[46]++v.l).length<=_;simp only[List.length_append,List.length_singleton];omega
 ·
  unfold qt;dsimp only;rw[if_neg (by simp[cmpI];omega)]
theorem Dr.step{α β:Type}{k:Int}{x:Option (Reader×α)}{P:α->Prop}{f:Reader×α->Option β}{Q:β->Prop}(hx:Dr k x P)(hf:∀ r v,Rok k r->P v->∃ y,f (r,v)=Option.some y/\Q y):∃ y,x.bind f=Option.some y/\Q y:=by
 obtain⟨r,v,h1,h2,h3⟩:=hx;rw[h1];exact hf r v h2 h3
theorem zcj{k:Int}{r:Reader}(h:Rok k r)(hk:k<=900000):Dr (k+12) (qY r) (λ s=>s.l.length<=16):=by
 unfold qY;refine .bind (zaC h hk) λ r1 s h1 hs=>.bind (wQ 20 h1 (by omega)) λ r2 v h2 _=>?_
 have hs':s.l.length<=8:=hs;refine .ite (λ _=>.some (YG (m:=s) (by show s.l.length+1<=_;omega)) (.pure (h2.le (by omega)) (by show(s.l++[46]).length<=16;rw[List.length_append];show s.l.length+1<=16;omega))) λ _=>?_
 exact .ite (λ _=>.bind (of_ok (λ s=>s.l.length<=16) h2 (by omega) (by decide) (by decide)) λ r3 v h3 hv=>.pure (h3.le (by omega)) hv) λ _=>.pure (h2.le (by omega)) (by show s.l.length<=16;omega)
def smS(s:Stmt):Prop:=s.module.l.length<=16/\s.name.l.length<=16
theorem someStmt_ok{k:Int}{r:Reader}(h:Rok k r)(hk:k<=800000):Dr (k+30) (qu r) smS:=by
 unfold qu;refine .bind (wQ 9 h (by omega)) λ r1 v1 h1 _=>?_
 refine .any (by split <;> exact⟨_,rfl⟩) λ o7=>?_
 refine .ite (λ _=>.bind (zaC h1 (by omega)) λ r2 s h2 hs=>.pure (h2.le (by omega)) ⟨Nat.le_trans hs (by decide),Nat.zero_le _⟩) λ _=>?_
 refine .ite (λ _=>?_) λ _=>?_
 ·
  refine .bind (QP (λ _=>True) h1 (by omega) (by decide) (λ _ _=>trivial)) λ r2 n h2 _=>.bind (zaC h2 (by omega)) λ r3 s h3 hs=>?_
  refine .bind (k:=k+13) (P:=λ s=>s.l.length<=16) ?_ λ r4 m h4 hm=>.bind (ZE h4 (by omega)) λ r5 q h5 hq=>.pure (h5.le (by omega)) ⟨hm,Nat.le_trans hq (by decide)⟩
  dsimp only;cases cmpI .gtr n 0 with
  |
   true=>
   refine .bind (wQ 2 h3 (by omega)) λ r4 v h4 _=>.ite (λ _=>.pure (h4.le (by omega)) (Nat.zero_le _)) λ _=>.pure (h4.le (by omega)) (Nat.le_trans hs (by decide))
  | false=>exact .pure (h3.le (by omega)) (Nat.le_trans hs (by decide))
 refine .ite (λ _=>.bind (zaC h1 (by omega)) λ r2 s h2 hs=>.pure (h2.le (by omega)) ⟨Nat.le_trans hs (by decide),Nat.zero_le _⟩) λ _=>?_
 refine .any (by split;exact⟨_,rfl⟩;split <;> exact⟨_,rfl⟩) λ o62=>?_
 refine .ite (λ _=>.bind (of_ok (λ s=>s.l.length<=16) h1 (by omega) (by decide) (by decide)) λ r2 s h2 hs=>.bind (wQ 100 h2 (by omega)) λ r3 v h3 _=>.pure (h3.le (by omega)) ⟨Nat.zero_le _,hs⟩) λ _=>?_
 refine .ite (λ _=>.bind (of_ok (λ s=>s.l.length<=16) h1 (by omega) (by decide) (by decide)) λ r2 s h2 hs=>.pure (h2.le (by omega)) ⟨Nat.zero_le _,hs⟩) λ _=>?_
 refine .bind (wQ 3 h1 (by omega)) λ r2 v h2 _=>.ite (λ _=>.pure (h2.le (by omega)) ⟨Nat.zero_le _,Nat.zero_le _⟩) λ _=>.bind (wQ 100 h2 (by omega)) λ r3 v h3 _=>.pure (h3.le (by omega)) ⟨Nat.zero_le _,(by show 1<=16;omega)⟩
def smB(n:Nat)(b:List Stmt):Prop:=b.length<=n/\∀ s∈b,smS s
theorem smB.app{n:Nat}{b:List Stmt}{s:Stmt}(h:smB n b)(hs:smS s):smB (n+1) (b++[s]):=⟨by have:=h.1;simp;omega,λ x hx=>(List.mem_append.1 hx).elim (h.2 x) λ hx=>by rw[List.mem_singleton.1 hx];exact hs⟩
theorem smB.le{n m:Nat}{b:List Stmt}(h:smB n b)(hm:n<=m):smB m b:=⟨Nat.le_trans h.1 hm,h.2⟩
theorem someBody_ok{k:Int}{r:Reader}(h:Rok k r)(hk:k<=700000):Dr (k+170) (qv r) (smB 4):=by
 unfold qv;refine .bind (wQ 2 h (by omega)) λ r1 v1 h1 _=>?_
 refine .bind (k:=k+170) (P:=smB 4) ?_ λ r3 s3 h3 hs3=>.pure h3 hs3
 refine .bind (QP (λ n=>n<=4) h1 (by omega) (by decide) (by decide)) λ r2 n h2 hn=>?_
 refine(za9 (λ j=>k+2+40*j) (λ j x=>smB j x) 4 (λ i j hij=>by omega) (λ j r x n hj hr hx hn hb=>?_) (λ r x n hn=>?_) (by omega) (h2.le (by show k+1+1<=k+2+40*((0:Nat):Int);omega)) ⟨Nat.le_refl _,λ s hs=>by cases hs⟩ (by exact hn)).mono (by show k+2+40*((4:Nat):Int)<=k+170;omega) (λ y ⟨j,hj,hy⟩=>hy.le hj)
 ·
  have key:∃ y,wh (r1,v1) (r,x,n)=Option.some y/\∃ r' x',y=.inl (r',x',n - 1)/\Rok (k+2+40*((j+1:Nat):Int)) r'/\smB (j+1) x':=by
   unfold wh;rw[if_pos (by simp[cmpI];omega)];refine Dr.step (someStmt_ok hr (by omega)) λ r3 s h3 hs=>?_
   refine Dr.step (k:=k+2+40*j+31) (P:=smS) (.ite (λ _=>.bind (wQ 100 h3 (by omega)) λ r4 v h4 _=>.pure (h4.le (by omega)) ⟨Nat.zero_le _,(by show 1<=16;omega)⟩) λ _=>.pure (h3.le (by omega)) hs) λ r4 s2 h4 hs2=>?_
   have hl:=hx.1;refine⟨_,by dsimp only;rw[xO (by simp;omega) (by simp;omega),obS,wG (by omega) (by omega),obS],r4,_,rfl,h4.le (by omega),hx.app hs2⟩
  obtain⟨y,e,r',x',rfl,e2,e3⟩:=key;exact⟨r',x',e,e2,e3⟩
 ·
  unfold wh;dsimp only;rw[if_neg (by simp[cmpI];omega)]
def smF(n:Nat)(f:File):Prop:=f.pkg.l.length<=16/\f.name.l.length<=16/\smB n f.body
theorem someFile_ok{k:Int}{r:Reader}(h:Rok k r)(hk:k<=600000):Dr (k+200) (qy r) (smF 4):=by
 unfold qy;refine .bind (QP (λ _=>True) h (by omega) (by decide) (λ _ _=>trivial)) λ r1 v1 h1 _=>.bind (wQ 100 h1 (by omega)) λ r2 v2 h2 _=>.bind (someBody_ok h2 (by omega)) λ r3 b h3 hb=>?_
 refine .bind (k:=k+200) (P:=smF 4) ?_ λ r4 f h4 hf=>.pure h4 hf
 refine .bind (wQ 6 h3 (by omega)) λ r4 v4 h4 _=>?_
 refine .any (by split <;> exact⟨_,rfl⟩) λ o30=>?_
 refine .ite (λ _=>.bind (ZE h4 (by omega)) λ r5 s h5 hs=>.pure (h5.le (by omega)) ⟨Nat.zero_le _,Nat.le_trans hs (by decide),hb⟩) λ _=>?_
 refine .any (by split <;> exact⟨_,rfl⟩) λ o51=>?_
 refine .ite (λ _=>.bind (ZE h4 (by omega)) λ r5 s h5 hs=>.bind (ZE h5 (by omega)) λ r6 s2 h6 hs2=>.pure (h6.le (by omega)) ⟨Nat.le_trans hs (by decide),Nat.le_trans hs2 (by decide),hb⟩) λ _=>?_
 refine .ite (λ _=>.bind (ZE h4 (by omega)) λ r5 s h5 hs=>.pure (h5.le (by omega)) ⟨Nat.le_trans hs (by decide),Nat.zero_le _,hb⟩) λ _=>?_
 refine .bind (ZE h4 (by omega)) λ r5 s h5 hs=>?_
 have hs':s.l.length<=1:=hs;refine .some (YG (m:=s) (by show s.l.length+1<=_;omega)) (.bind (ZE h5 (by omega)) λ r6 s2 h6 hs2=>?_);have hs2':s2.l.length<=1:=hs2;have hlen:(s.l++[46]++s2.l).length<=16:=by simp only[List.length_append,List.length_singleton];omega
 refine .some (YG (by simp only[List.length_append];show s.l.length+1+s2.l.length<=_;omega)) (.bind (wQ 2 h6 (by omega)) λ r7 v7 h7 _=>?_);exact .ite (λ _=>.pure (h7.le (by omega)) ⟨hlen,Nat.zero_le _,hb⟩) λ _=>.bind (ZE h7 (by omega)) λ r8 s3 h8 hs3=>.pure (h8.le (by omega)) ⟨hlen,Nat.le_trans hs3 (by decide),hb⟩
def smT(n m:Nat)(t:Tree):Prop:=t.files.length<=n/\∀ f∈t.files,smF m f
theorem smF.le{n m:Nat}{f:File}(h:smF n f)(hm:n<=m):smF m f:=⟨h.1,h.2.1,h.2.2.le hm⟩
theorem smT.le{n m n' m':Nat}{t:Tree}(h:smT n m t)(hn:n<=n')(hm:m<=m'):smT n' m' t:=⟨Nat.le_trans h.1 hn,λ f hf=>(h.2 f hf).le hm⟩
theorem smT.app{n m:Nat}{t:Tree}{f:File}(h:smT n m t)(hf:smF m f):smT (n+1) m ⟨t.files++[f]⟩:=⟨by have:=h.1;simp;omega,λ x hx=>(List.mem_append.1 hx).elim (h.2 x) λ hx=>by rw[List.mem_singleton.1 hx];exact hf⟩
theorem smT.set{n m i:Nat}{t:Tree}{f:File}(h:smT n m t)(hf:smF m f):smT n m ⟨t.files.set i f⟩:=⟨by have:=h.1;simp;omega,λ x hx=>(List.mem_or_eq_of_mem_set hx).elim (h.2 x) λ hx=>by rw[hx];exact hf⟩
theorem someTree_ok{k:Int}{r:Reader}(h:Rok k r)(hk:k<=500000):Dr (k+2100) (qz r) (smT 10 4):=by
 unfold qz;refine .bind (k:=k+2100) (P:=smT 10 4) ?_ λ r3 s3 h3 hs3=>.pure h3 hs3
 refine .bind (QP (λ n=>n<=10) h (by omega) (by decide) (by decide)) λ r2 n h2 hn=>?_
 refine(za9 (λ j=>k+1+200*j) (λ j x=>smT j 4 x) 10 (λ i j hij=>by omega) (λ j r x n hj hr hx hn hb=>?_) (λ r x n hn=>?_) (by omega) (h2.le (by show k+1<=k+1+200*((0:Nat):Int);omega)) ⟨Nat.le_refl _,λ s hs=>by cases hs⟩ (by exact hn)).mono (by show k+1+200*((10:Nat):Int)<=k+2100;omega) (λ y ⟨j,hj,hy⟩=>hy.le hj (Nat.le_refl _))
 ·
  have key:∃ y,wi (r,x,n)=Option.some y/\∃ r' x',y=.inl (r',x',n - 1)/\Rok (k+1+200*((j+1:Nat):Int)) r'/\smT (j+1) 4 x':=by
   unfold wi;rw[if_pos (by simp[cmpI];omega)];have hl:=hx.1;refine Dr.step (k:=k+1+200*j+200) (P:=smT (j+1) 4) ?_ λ r4 t h4 ht=>?_
   ·
    refine .bind (someFile_ok hr (by omega)) λ r3 f h3 hf=>.some (if_pos trivial) (.ite (λ _=>?_) λ _=>.pure h3 (hx.le (by omega) (Nat.le_refl _)))
    exact .some (xO (by simp;omega) (by simp;omega)) (.pure h3 (hx.app hf))
   ·
    exact⟨_,by dsimp only;rw[wG (by omega) (by omega),obS],r4,t,rfl,h4.le (by omega),ht⟩
  obtain⟨y,e,r',x',rfl,e2,e3⟩:=key;exact⟨r',x',e,e2,e3⟩
 ·
  unfold wi;dsimp only;rw[if_neg (by simp[cmpI];omega)]
theorem anyTree_ok{k:Int}{r:Reader}(h:Rok k r)(hk:k<=400000):Dr (k+2200) (q5 r) (smT 11 5):=by
 unfold q5;refine .bind (someTree_ok h (by omega)) λ r1 t h1 ht=>?_
 have ht5:smT 11 5 t:=ht.le (by omega) (by omega);refine .bind (k:=k+2200) (P:=smT 11 5) ?_ λ r4 f h4 hf=>.pure h4 hf
 refine .ite (λ hpos=>?_) λ _=>.pure (h1.le (by omega)) ht5
 have hpos':0<(t.files.length:Int):=oD hpos;obtain⟨f,hf,hm⟩:=Jt (l:=t.files) (i:=0) (Int.le_refl _) hpos';have hsf:=ht.2 f hm;have hl:=ht.1;refine .bind (wQ 24 h1 (by omega)) λ r2 v2 h2 _=>?_
 refine .ite (λ _=>.some hf (.some (xO (by simp;omega) (by simp;omega)) (.pure (h2.le (by omega)) ((ht.app hsf).le (by omega) (by omega))))) λ _=>?_
 refine .ite (λ _=>.bind (QP (λ _=>True) h2 (by omega) (by decide) (λ _ _=>trivial)) λ r3 v3 h3 _=>.some hf (.pure (h3.le (by omega)) (ht5.set ⟨hsf.1,hsf.2.1,hsf.2.2.le (by omega)⟩))) λ _=>?_
 refine .ite (λ _=>.bind (QP (λ _=>True) h2 (by omega) (by decide) (λ _ _=>trivial)) λ r3 v3 h3 _=>.some hf (.pure (h3.le (by omega)) (ht5.set ⟨hsf.1,hsf.2.1,hsf.2.2.le (by omega)⟩))) λ _=>?_
 refine .ite (λ _=>?_) λ _=>.pure (h2.le (by omega)) ht5
 have hbl:=hsf.2.2.1;exact .some hf (.some (xO (by simp;omega) (by simp;omega)) (.some hf (.pure (h2.le (by omega)) (ht5.set ⟨hsf.1,hsf.2.1,hsf.2.2.app ⟨Nat.zero_le _,Nat.zero_le _⟩⟩))))
theorem somePath_ok{k:Int}{r:Reader}(h:Rok k r)(hk:k<=900000):Dr (k+1) (qw r) (λ p=>p.length<=3):=by
 unfold qw;refine .bind (wQ 8 h (by omega)) λ r2 v2 h2 _=>?_
 have d:∀ {l:List Int} {c:Prop} [Decidable c] {y:Option (Reader×List Int)},l.length<=3->Dr (k+1) y (λ p=>p.length<=3)->Dr (k+1) (if c then some (r2,l) else y) (λ p=>p.length<=3):=λ hl hy=>.ite (λ _=>.pure h2 hl) λ _=>hy
 exact d (by decide) (d (by decide) (d (by decide) (d (by decide) (d (by decide) (.pure h2 (by decide))))))
theorem anyPath_ok{k:Int}{r:Reader}(h:Rok k r)(hk:k<=800000):Dr (k+2) (qZ r) (λ p=>p.length<=3):=by
 unfold qZ;refine .bind (wQ 20 h (by omega)) λ r2 v2 h2 _=>.ite (λ _=>?_) λ _=>.bind (somePath_ok h2 (by omega)) λ r3 p h3 hp=>.pure (h3.le (by omega)) hp
 refine .bind (wQ 3 h2 (by omega)) λ r3 v3 h3 hv=>?_
 obtain⟨x,hx,hm⟩:=Jt (l:=([[],[0,0],[3]]:List (List Int))) hv.1 (hv.2 (by decide));exact .some hx (.pure (h3.le (by omega)) ((by decide:∀ x∈([[],[0,0],[3]]:List (List Int)),x.length<=3) x hm))
theorem newReader_ok(c:List UInt8):∃ r,qc c=some r/\Rok 0 r:=by
 unfold qc;by_cases h:(c.length:Int) > 2000
 ·
  rw[if_pos (by simpa[cmpI] using h),show(2000:Int)=((2000:Nat):Int) from rfl,JO (by omega),obS,obS];exact⟨_,rfl,by show(c.take 2000).length<=2000;simp;omega,Int.le_refl _,Int.le_refl _⟩
 ·
  rw[if_neg (by simpa[cmpI] using h),obS];exact⟨_,rfl,by show c.length<=2000;omega,Int.le_refl _,Int.le_refl _⟩
theorem smT.sm{t:Tree}(h:smT 11 5 t):wN t:=by
 refine⟨by have:=h.1;omega,λ f hf=>?_⟩;obtain⟨h1,h2,h3,h4⟩:=h.2 f hf;exact⟨by omega,by omega,by omega,λ s hs=>⟨by have:=(h4 s hs).1;omega,by have:=(h4 s hs).2;omega⟩⟩
theorem modName_len{f:File}{n:Nat}(h:smF n f):(jG f).l.length<=64:=by
 obtain⟨h1,h2,_⟩:=h;unfold jG child;split
 ·
  omega
 ·
  split
  ·
   omega
  ·
   simp only[List.length_append,List.length_singleton];omega
theorem nameOf_ok{k:Int}{r:Reader}(h:Rok k r)(hk:k<=300000):Dr (k+2300) (ZB r) (λ v=>smT 11 5 v.1/\v.2.1.length<=3/\v.2.2.l.length<=64):=by
 unfold ZB;refine .bind (anyTree_ok h (by omega)) λ r1 t h1 ht=>.bind (anyPath_ok h1 (by omega)) λ r2 q h2 hq=>?_
 dsimp only;cases hc:cmpI .gtr (t.files.length:Int) 0 with
 |
  false=>
  rw[show((false:Bool) == true)=false from rfl,Ww,obS];refine .ite (λ h=>by simp at h) λ _=>?_
  rw[if_neg (by decide)];exact .bind (zcj h2 (by omega)) λ r3 s h3 hs=>.pure (h3.le (by omega)) ⟨ht,hq,Nat.le_trans hs (by decide)⟩
 |
  true=>
  have hl:0<(t.files.length:Int):=oD hc;rw[show((true:Bool) == true)=true from rfl,Xg];refine .bind (wQ 4 h2 (by omega)) λ r3 v h3 _=>?_
  rw[if_pos rfl];refine .ite (λ _=>?_) λ _=>.bind (zcj h3 (by omega)) λ r4 s h4 hs=>.pure (h4.le (by omega)) ⟨ht,hq,Nat.le_trans hs (by decide)⟩
  refine .bind (wQ _ h3 (by omega)) λ r4 i h4 hi=>?_
  obtain⟨f,hf,hm⟩:=Jt (l:=t.files) hi.1 (hi.2 (by omega));exact .some hf (.some (if_pos (ht.sm.2 f hm)) (.pure (h4.le (by omega)) ⟨ht,hq,modName_len (ht.2 f hm)⟩))
def smC(n:Nat)(l:List GCmd):Prop:=l.length<=n/\∀ x∈l,x.name.l.length<=64
theorem smC.app{n:Nat}{b:List GCmd}{s:GCmd}(h:smC n b)(hs:s.name.l.length<=64):smC (n+1) (b++[s]):=⟨by have:=h.1;simp;omega,λ x hx=>(List.mem_append.1 hx).elim (h.2 x) λ hx=>by rw[List.mem_singleton.1 hx];exact hs⟩
theorem smC.le{n m:Nat}{b:List GCmd}(h:smC n b)(hm:n<=m):smC m b:=⟨Nat.le_trans h.1 hm,h.2⟩
theorem smB.one{s:Stmt}(h:smS s):smB 1 [s]:=⟨Nat.le_refl _,λ x hx=>by rw[List.mem_singleton.1 hx];exact h⟩
theorem zck(c:List UInt8):∃ t path s,ji c=some (t,path,s)/\smT 11 5 t/\path.length<=3/\s.l.length<=64:=by
 obtain⟨r,h1,h2⟩:=newReader_ok c;obtain⟨r1,⟨t,q,s⟩,e1,k1,p1,p2,p3⟩:=nameOf_ok h2 (by omega);refine⟨t,q,s,?_,p1,p2,p3⟩;unfold ji;rw[h1,obS,e1,obS]
open Go.RowKit
theorem zaD(s:Str)(c:UInt8)(hs:s.l.length<=1000000):(∃ pre post,s.l=pre++c::post/\c ∉ post/\zP s c=some (pre.length:Int))\/(c ∉ s.l/\zP s c=some (-1)):=by
 have key:∀ k,k<=s.l.length->c ∉ s.l.drop k->∃ r,jK (λ s6=>zJ s c s6) (k+1) ((k:Int) - 1)=some r/\((∃ pre post,s.l=pre++c::post/\c ∉ post/\r=.inr (pre.length:Int))\/(c ∉ s.l/\r=.inl ())):=by
  intro k
  induction k with
  |
   zero=>
   intro _ hc;refine⟨.inl (),xA ?_,.inr ⟨by simpa using hc,rfl⟩⟩;unfold zJ;rw[if_neg (by simp[cmpI])]
  |
   succ k ih=>
   intro hk hc;have hb:s.l[k]?=some s.l[k]:=List.getElem?_eq_getElem (by omega);have hd:s.l.drop k=s.l[k]::s.l.drop (k+1):=List.drop_eq_getElem_cons (by omega);have e1:((k+1:Nat):Int) - 1=(k:Int):=by omega
   rw[e1];by_cases h:s.l[k]=c
   ·
    refine⟨.inr (k:Int),xA ?_,.inl ⟨s.l.take k,s.l.drop (k+1),?_,hc,by simp;omega⟩⟩
    ·
     unfold zJ;rw[if_pos (by simp[cmpI]),zR,hb,obS,if_pos (by simp[cmpB,h])]
    ·
     rw[← h,← hd,List.take_append_drop]
   ·
    have hs1:zJ s c (k:Int)=some (.inl ((k:Int) - 1)):=by
     unfold zJ;rw[if_pos (by simp[cmpI]),zR,hb,obS,if_neg (by simp[cmpB,h]),wG (by omega) (by omega),obS]
    rw[Zk hs1];exact ih (by omega) (by rw[hd];simp only[List.mem_cons,not_or];exact⟨λ e=>h e.symm,hc⟩)
 obtain⟨r,h1,h2⟩:=key s.l.length (Nat.le_refl _) (by simp);have hl:zP s c=Option.bind (some r) (Sum.elim (λ _=>some (-1)) some):=by
  unfold zP yo;rw[wG (by omega) (by omega),obS,ZC h1 (by omega)];cases r <;> rfl
 rcases h2 with⟨pre,post,e1,e2,rfl⟩ | ⟨e1,rfl⟩
 ·
  exact .inl ⟨pre,post,e1,e2,hl⟩
 ·
  exact .inr ⟨e1,hl⟩
theorem zcl{s:Str}{pre post:List UInt8}(h:s.l=pre++46::post)(hp:(46:UInt8) ∉ post):zh s dot=zh ⟨pre⟩ dot++[⟨post⟩]:=by
 have e:s=⟨((⟨pre⟩:Str).l++[46])++(⟨post⟩:Str).l⟩:=by
  cases s;simp only at h ⊢;rw[h];simp
 have e2:zh ⟨post⟩ dot=[⟨post⟩]:=by
  rw[wP];show(cutF 46 post).map Str.mk=_;rw[zaA 46 post hp];rfl
 rw[e,split_append,e2]
theorem split_none{s:Str}(h:(46:UInt8) ∉ s.l):zh s dot=[s]:=by
 rw[wP];show(cutF 46 s.l).map Str.mk=_;rw[zaA 46 s.l h];rfl
theorem JQ{s:Str}{pre post:List UInt8}(h:s.l=pre++46::post)(hp:(46:UInt8) ∉ post):zv s=⟨pre⟩/\xY s=⟨post⟩:=by
 unfold zv xY;rw[zcl h hp];constructor
 ·
  rw[List.length_append,List.length_singleton,Nat.add_sub_cancel,List.take_left];exact ql ⟨pre⟩
 ·
  simp
theorem YX{s:Str}(h:(46:UInt8) ∉ s.l):zv s=emptyS/\xY s=s:=by
 unfold zv xY;rw[split_none h];exact⟨rfl,rfl⟩
theorem YY{s:Str}(hv:ze s=true):yT s=some (zv s):=by
 have hl:=xk hv;unfold yT;rcases zaD s 46 (by omega) with⟨pre,post,e1,e2,e3⟩ | ⟨e1,e3⟩
 ·
  rw[show zP s (UInt8.ofNat 46)=some (pre.length:Int) from e3,obS,y6 (wo hv),obS,hv,if_neg (by simp[cmpI]),JM (by rw[e1,List.length_append];omega),obS,(JQ e1 e2).1,e1,List.take_left]
 ·
  rw[show zP s (UInt8.ofNat 46)=some (-1) from e3,obS,y6 (wo hv),obS,hv,if_pos (by simp[cmpI]),(YX e1).1];rfl
theorem LastOf_eq{s:Str}(hv:ze s=true):wS s=some (xY s):=by
 have hl:=xk hv;unfold wS;rw[y6 (wo hv),obS,hv,if_neg (by decide)];rcases zaD s 46 (by omega) with⟨pre,post,e1,e2,e3⟩ | ⟨e1,e3⟩
 ·
  have hlen:pre.length+1<=s.l.length:=by rw[e1,List.length_append,List.length_cons];omega
  rw[show zP s (UInt8.ofNat 46)=some (pre.length:Int) from e3,obS,zU (by omega),obS,JN hlen,obS,(JQ e1 e2).2,e1]
  congr 2
  rw[show pre++46::post=(pre++[46])++post by simp,List.drop_left' (by simp)]
 ·
  rw[show zP s (UInt8.ofNat 46)=some (-1) from e3,obS,show((-1:Int)+1)=((0:Nat):Int) from rfl,wG (by omega) (by omega),obS,JN (by omega),obS,(YX e1).2];rfl
open Go.RowKit
theorem name_of{s:Str}(hv:ze s=true):s=child (zv s) (xY s):=by
 have hl:=xk hv;rcases zaD s 46 (by omega) with⟨pre,post,e1,e2,_⟩ | ⟨e1,_⟩
 ·
  obtain⟨h1,h2⟩:=JQ e1 e2;rw[h1,h2];unfold child;by_cases he:(⟨pre⟩:Str)=emptyS
  ·
   have hpre:pre=[]:=by injection he
   subst hpre;have hs:=zcl e1 e2;have h3:=(yh hv).1 ⟨[]⟩ (by rw[hs];exact List.mem_append_left _ (by decide));exact absurd (YK h3).1 (by simp)
  ·
   rw[if_neg he];cases s;simp only at e1;rw[e1];simp
 ·
  obtain⟨h1,h2⟩:=YX e1;rw[h1,h2];rfl
open Go.RowKit
section
variable{α:Type}[DecidableEq α]
def addU(out:List α)(x:α):List α:=if x∈out then out else out++[x]
def xE(out l:List α):List α:=l.foldl addU out
theorem addU_mem{out:List α}{x y:α}:y∈addU out x ↔ y∈out\/y=x:=by
 unfold addU;split
 ·
  rename_i h;constructor
  ·
   exact Or.inl
  ·
   rintro (h1 | rfl)
   ·
    exact h1
   ·
    exact h
 ·
  rw[List.mem_append,List.mem_singleton]
theorem qm:∀ {l out:List α} {y:α},y∈xE out l ↔ y∈out\/y∈l
 | [],out,y=>by simp[xE]
 |
  x::l,out,y=>by
  show y∈xE (addU out x) l ↔ _;rw[qm,addU_mem,List.mem_cons,or_assoc]
theorem addU_nodup{out:List α}{x:α}(h:out.Nodup):(addU out x).Nodup:=by
 unfold addU;split
 ·
  exact h
 ·
  rename_i hx;rw[List.nodup_append];refine⟨h,by simp,?_⟩;intro a ha b hb e;rw[List.mem_singleton] at hb;subst hb;subst e;exact hx ha
theorem Xi:∀ {l out:List α},out.Nodup->(xE out l).Nodup
 | [],_,h=>h
 | x::l,out,h=>Xi (l:=l) (out:=addU out x) (addU_nodup h)
theorem addU_pre(out:List α)(x:α):∃ t,addU out x=out++t:=by
 unfold addU;split
 ·
  exact⟨[],by simp⟩
 ·
  exact⟨[x],rfl⟩
theorem QQ:∀ (l out:List α),∃ t,xE out l=out++t
 | [],out=>⟨[],by simp[xE]⟩
 |
  x::l,out=>by
  obtain⟨t,ht⟩:=addU_pre out x;obtain⟨u,hu⟩:=QQ l (addU out x);exact⟨t++u,by show xE (addU out x) l=_;rw[hu,ht,List.append_assoc]⟩
theorem zcm(out l m:List α):xE out (l++m)=xE (xE out l) m:=by
 unfold xE;rw[List.foldl_append]
theorem zbB:∀ (l out:List α),(out++l).Nodup->xE out l=out++l
 | [],out,_=>by simp[xE]
 |
  x::l,out,h=>by
  show xE (addU out x) l=_;have hx:x ∉ out:=by
   rw[List.nodup_append] at h;exact λ hx=>h.2.2 x hx x (List.mem_cons_self ..) rfl
  rw[show addU out x=out++[x] from if_neg hx,zbB l (out++[x]) (by simpa using h)];simp
theorem zcn{l:List α}(h:l.Nodup):xE [] l=l:=by rw[zbB l [] (by simpa using h)];rfl
def uniq(l:List α):List α:=xE [] l
theorem uniq_app{out l:List α}(h:out.Nodup):uniq (out++l)=xE out l:=by
 unfold uniq;rw[zcm,zcn h]
theorem XM{l:List α}{x:α}:x∈uniq l ↔ x∈l:=by unfold uniq;rw[qm];simp
theorem addU_len(out:List α)(x:α):(addU out x).length<=out.length+1:=by
 unfold addU;split
 ·
  omega
 ·
  simp
theorem QR:∀ (l out:List α),(xE out l).length<=out.length+l.length
 | [],out=>by simp[xE]
 |
  x::l,out=>by
  have h1:=QR l (addU out x);have h2:=addU_len out x;show(xE (addU out x) l).length<=_;rw[List.length_cons];omega
theorem uniq_len(l:List α):(uniq l).length<=l.length:=by
 have:=QR l [];unfold uniq;simpa using this
theorem q6:∀ {l m:List α},l.Nodup->(∀ x∈l,x∈m)->l.length<=m.length
 | [],_,_,_=>Nat.zero_le _
 |
  x::l,m,hn,hs=>by
  rw[List.nodup_cons] at hn;have hx:=hs x (List.mem_cons_self ..);have h1:=q6 (l:=l) (m:=m.erase x) hn.2 λ y hy=>(List.mem_erase_of_ne (by intro e;subst e;exact hn.1 hy)).2 (hs y (List.mem_cons_of_mem _ hy))
  have h2:=List.length_erase_of_mem hx;have h3:=List.length_pos_of_mem hx;rw[List.length_cons];omega
def q7(E:α->List α):Nat->Nat->List α->List α
 | 0,_,out=>out
 |
  m+1,k,out=>match out[k]? with
  | none=>out
  | some x=>q7 E m (k+1) (xE out (E x))
inductive Way (E:α->List α) (l:List α):α->Prop
 | here {x}:x∈l->Way E l x
 | step {x y}:Way E l x->y∈E x->Way E l y
omit [DecidableEq α] in
theorem Way.mono{E:α->List α}{l m:List α}(h:∀ x∈l,Way E m x){x:α}(hw:Way E l x):Way E m x:=by
 induction hw with
 | here hx=>exact h _ hx
 | step _ hy ih=>exact .step ih hy
theorem zco{E:α->List α}{from_:List α}:∀ (m k:Nat) (out:List α),(∀ x∈out,Way E from_ x)->∀ x∈q7 E m k out,Way E from_ x
 | 0,_,_,h,x,hx=>h x hx
 |
  m+1,k,out,h,x,hx=>by
  unfold q7 at hx;split at hx
  ·
   exact h x hx
  ·
   rename_i y hy;refine zco m (k+1) _ (λ z hz=>?_) x hx;rcases qm.1 hz with h1 | h1
   ·
    exact h z h1
   ·
    exact .step (h y (List.mem_of_getElem? hy)) h1
theorem zaE{E:α->List α}:∀ (m k:Nat) (out:List α),out.Nodup->(q7 E m k out).Nodup
 | 0,_,_,h=>h
 |
  m+1,k,out,h=>by
  unfold q7;split
  ·
   exact h
  ·
   exact zaE m (k+1) _ (Xi h)
theorem QS{E:α->List α}{U:List α}(hE:∀ x∈U,∀ y∈E x,y∈U):∀ (m k:Nat) (out:List α),(∀ x∈out,x∈U)->∀ x∈q7 E m k out,x∈U
 | 0,_,_,h,x,hx=>h x hx
 |
  m+1,k,out,h,x,hx=>by
  unfold q7 at hx;split at hx
  ·
   exact h x hx
  ·
   rename_i y hy;refine QS hE m (k+1) _ (λ z hz=>?_) x hx;rcases qm.1 hz with h1 | h1
   ·
    exact h z h1
   ·
    exact hE y (h y (List.mem_of_getElem? hy)) z h1
theorem Qi{E:α->List α}{U:List α}(hE:∀ x∈U,∀ y∈E x,y∈U):∀ (m k:Nat) (out:List α),out.Nodup->(∀ x∈out,x∈U)->U.length<=m+k->(∀ j x,j<k->out[j]?=some x->∀ y∈E x,y∈out)->∀ x∈q7 E m k out,∀ y∈E x,y∈q7 E m k out
 |
  0,k,out,hn,hs,hm,hc,x,hx,y,hy=>by
  have hl:=q6 hn hs;obtain⟨j,hj,e⟩:=List.getElem_of_mem (show x∈out from hx);exact hc j x (by omega) (by rw[List.getElem?_eq_getElem hj,e]) y hy
 |
  m+1,k,out,hn,hs,hm,hc,x,hx,y,hy=>by
  have hl:=q6 hn hs;unfold q7 at hx ⊢;split at hx
  ·
   rename_i hk;rw[List.getElem?_eq_none_iff] at hk;obtain⟨j,hj,e⟩:=List.getElem_of_mem hx;exact hc j x (by omega) (by rw[List.getElem?_eq_getElem hj,e]) y hy
  ·
   rename_i z hz;refine Qi hE m (k+1) _ (Xi hn) (λ w hw=>?_) (by omega) (λ j w hj hw v hv=>?_) x hx y hy
   ·
    rcases qm.1 hw with h1 | h1
    ·
     exact hs w h1
    ·
     exact hE z (hs z (List.mem_of_getElem? hz)) w h1
   ·
    obtain⟨t,ht⟩:=QQ (E z) out;have hkl:k<out.length:=(List.getElem?_eq_some_iff.1 hz).1;rw[ht,List.getElem?_append_left (by omega)] at hw;rcases Nat.lt_succ_iff_lt_or_eq.1 hj with h1 | h1
    ·
     exact qm.2 (.inl (hc j w h1 hw v hv))
    ·
     subst h1;rw[hz] at hw;cases hw;exact qm.2 (.inr hv)
theorem zcp{E:α->List α}:∀ (m k:Nat) (out:List α),∀ x∈out,x∈q7 E m k out
 | 0,_,_,_,hx=>hx
 |
  m+1,k,out,x,hx=>by
  unfold q7;split
  ·
   exact hx
  ·
   exact zcp m (k+1) _ x (qm.2 (.inl hx))
theorem reachR_iff{E:α->List α}{U:List α}(hE:∀ x∈U,∀ y∈E x,y∈U){m:Nat}{out:List α}(hn:out.Nodup)(hs:∀ x∈out,x∈U)(hm:U.length<=m){x:α}:x∈q7 E m 0 out ↔ Way E out x:=by
 constructor
 ·
  exact λ h=>zco m 0 out (λ y hy=>.here hy) x h
 ·
  intro h
  induction h with
  | here hx=>exact zcp m 0 out _ hx
  | step _ hy ih=>exact Qi hE m 0 out hn hs (by omega) (λ j _ hj=>absurd hj (by omega)) _ ih _ hy
end
theorem loop_grow{α β S:Type}[DecidableEq α]{step:S->Option (S⊕β)}(mk:List α->Nat->S)(E:α->List α)(U:List α)(hE:∀ x∈U,∀ y∈E x,y∈U)(fin:List α->β)
  (h:∀ k out x,out[k]?=some x->out.Nodup->(∀ y∈out,y∈U)->step (mk out k)=some (.inl (mk (xE out (E x)) (k+1))))
  (hend:∀ out,out.Nodup->(∀ y∈out,y∈U)->step (mk out out.length)=some (.inr (fin out)))
  {out:List α} (hn:out.Nodup) (hs:∀ y∈out,y∈U) (hU:U.length<576460752303423488) {s:S} (h0:s=mk out 0):zL step s=some (fin (q7 E U.length 0 out)):=by
 subst h0;have key:∀ m k out,out.Nodup->(∀ y∈out,y∈U)->U.length<=m+k->k<=out.length->jK step (m+1) (mk out k)=some (fin (q7 E m k out)):=by
  intro m
  induction m with
  |
   zero=>
   intro k out hn hs hm hk;have hl:=q6 hn hs;have:k=out.length:=by omega
   subst this;exact xA (hend out hn hs)
  |
   succ m ih=>
   intro k out hn hs hm hk;unfold q7;cases hx:out[k]? with
   |
    none=>
    rw[List.getElem?_eq_none_iff] at hx;have:k=out.length:=by omega
    subst this;exact xA (hend out hn hs)
   |
    some x=>
    have hkl:k<out.length:=(List.getElem?_eq_some_iff.1 hx).1;rw[Zk (h k out x hx hn hs)];refine ih (k+1) _ (Xi hn) (λ w hw=>?_) (by omega) ?_
    ·
     rcases qm.1 hw with h1 | h1
     ·
      exact hs w h1
     ·
      exact hE x (hs x (List.mem_of_getElem? hx)) w h1
    ·
     obtain⟨t,ht⟩:=QQ (E x) out;rw[ht,List.length_append];omega
 exact ZC (key U.length 0 out hn hs (by omega) (Nat.zero_le _)) (by omega)
open Go.RowKit
def upN:Nat->Str->Str
 | 0,p=>p
 | n+1,p=>upN n (zv p)
def ZF(p:Str)(lv:Int)(m:Str):Str:=if cmpI .eql lv 0=true then m else if upN (lv - 1).toNat p=emptyS then emptyS else if m=emptyS then upN (lv - 1).toNat p else child (upN (lv - 1).toNat p) m
def q8(p:Str)(s:Stmt):Str:=if(cmpI .eql s.kind 0||cmpI .eql s.kind 2)=true then s.module else if cmpI .eql s.kind 1=true then ZF p s.level s.module else emptyS
def xB(p:Str)(b:List Stmt):List Str:=(b.map (q8 p)).filter ze
def YZ(n:Str)(s:Spec):Str:=if cmpI .eql s.kind 1=true then zv n else n
def Yf(t:List File)(k:Int):File:=(t[k.toNat]?).getD default
def QT(t:List File)(n:Str)(s:Spec):List Str:=if cmpI .lss s.file 0=true then[] else uniq (xB (YZ n s) (Yf t s.file).body)
def Zl(t:List File)(path:List Int)(n:Str):List Str:=QT t n (find t path n)
def wR(t:List File)(path:List Int)(n:Str):List Str:=uniq ((Zl t path n).flatMap yH)
def JR(f:File):List Str:=(xB f.pkg f.body).flatMap yH
def wz(t:List File)(s:Str):List Str:=yH s++t.flatMap JR
theorem QU{α:Type}{p:α->Bool}{l:List α}(h:cmpI .lss (yQ p l) 0=false):∃ x,l[(yQ p l).toNat]?=some x/\p x=true:=by
 unfold yQ at h ⊢;cases e:l.findIdx? p with
 | none=>rw[e] at h;exact absurd h (by decide)
 |
  some i=>
  rw[List.findIdx?_eq_some_iff_getElem] at e;obtain⟨hi,h1,_⟩:=e;exact⟨l[i],by simp only[Int.toNat_natCast];exact List.getElem?_eq_getElem hi,h1⟩
theorem X9(n:Int):cmpI .geq n 0=!cmpI .lss n 0:=by
 unfold cmpI;by_cases h:n<0
 ·
  have:¬ n>=0:=by omega
  simp[h,this]
 ·
  have:n>=0:=by omega
  simp[h,this]
theorem Qj{t:List File}{p s:Str}:∀ (rs acc:List Int),cmpI .lss (yM t p s acc rs).file 0=false->∃ f,t[(yM t p s acc rs).file.toNat]?=some f/\(((yM t p s acc rs).kind=2/\f.init=true/\f.pkg=child p s)\/((yM t p s acc rs).kind=1/\f.init=false/\f.pkg=p/\f.name=s))
 |
  [],acc,h=>by
  unfold yM at h;split at h
  ·
   exact absurd (show cmpI .lss (-1:Int) 0=false from h) (by decide)
  ·
   exact absurd (show cmpI .lss (-1:Int) 0=false from h) (by decide)
 |
  r::rs,acc,h=>by
  unfold yM at h ⊢;split at h
  ·
   rename_i hc;rw[if_pos hc];obtain⟨f,h1,h2⟩:=QU h;refine⟨f,h1,.inl ⟨rfl,?_⟩⟩;unfold xh at h2;simp only[Bool.and_eq_true,beq_iff_eq,decide_eq_true_eq] at h2;exact⟨h2.1.2,h2.1.1.2⟩
  ·
   rename_i hc;rw[if_neg hc];split at h
   ·
    rename_i hc2;rw[if_pos hc2];obtain⟨f,h1,h2⟩:=QU h;refine⟨f,h1,.inr ⟨rfl,?_⟩⟩;unfold xh at h2;simp only[Bool.and_eq_true,beq_iff_eq,decide_eq_true_eq] at h2;exact⟨h2.1.2,h2.1.1.2,h2.2⟩
   ·
    rename_i hc2;rw[if_neg hc2];exact Qj rs _ h
theorem parent_child{p s:Str}(hs:zA s=true):zv (child p s)=p:=by
 unfold child;split
 ·
  rename_i h;rw[(YX (Wm hs)).1,h]
 ·
  have h:(⟨(p.l++[46])++s.l⟩:Str).l=p.l++46::s.l:=by simp
  rw[(JQ h (Wm hs)).1]
theorem ZR{t:Tree}(hv:zC t=true){path:List Int}{n:Str}(hn:ze n=true)(h:cmpI .lss (find t.files path n).file 0=false):∃ f,t.files[(find t.files path n).file.toNat]?=some f/\f∈t.files/\jG f=n/\YZ n (find t.files path n)=f.pkg:=by
 rcases find_last (t:=t.files) (path:=path) hn with e | ⟨r,p,s,e,hc⟩
 ·
  rw[e] at h;exact absurd h (by decide)
 ·
  rw[e] at h ⊢;obtain⟨f,h1,h2⟩:=Qj _ _ h;have hm:=List.mem_of_getElem? h1;refine⟨f,h1,hm,?_⟩;unfold jG YZ xZ;rcases h2 with⟨h3,h4,h5⟩ | ⟨h3,h4,h5,h6⟩
  ·
   rw[h3,h4,h5,hc];exact⟨rfl,rfl⟩
  ·
   have hf:=XL hv hm;have hp:zA f.name=true:=by
    unfold xx at hf;split at hf
    ·
     cases hf
    ·
     rw[h4,if_neg (by decide),Bool.and_eq_true] at hf;exact hf.1
   have hpn:zv n=p:=by rw[← hc];exact parent_child (by rw[← h6];exact hp)
   rw[h3,h4,h5,h6,if_neg (by decide),hc];exact⟨rfl,hpn⟩
theorem wu{t:Tree}(hv:zC t=true){f:File}(hf:f∈t.files):xb f.body=true:=by
 have h:=XL hv hf;unfold xx at h;cases hb:xb f.body with
 | true=>rfl
 | false=>rw[hb,if_pos (by simp)] at h;cases h
theorem ZY{t:List File}{k:Int}{f:File}(h:t[k.toNat]?=some f):Yf t k=f:=by unfold Yf;rw[h];rfl
theorem Y7{p:Str}{b:List Stmt}{x:Str}(h:x∈xB p b):ze x=true:=(List.mem_filter.1 h).2
theorem YL(p:Str)(b:List Stmt):(xB p b).length<=b.length:=by
 unfold xB;refine Nat.le_trans (List.length_filter_le _ _) ?_;rw[List.length_map];omega
theorem ZG{t:List File}{path:List Int}{n x:Str}(h:x∈Zl t path n):ze x=true:=by
 unfold Zl QT at h;split at h
 ·
  cases h
 ·
  exact Y7 (XM.1 h)
theorem Yx{s:Str}(h:ze s=true):(yH s).length<=3:=by
 have:=(yh h).2;rw[above_len];omega
theorem XN(l:List Str)(h:∀ x∈l,ze x=true):(l.flatMap yH).length<=3*l.length:=by
 induction l with
 | nil=>simp
 |
  cons x l ih=>
  have h1:=Yx (h x (List.mem_cons_self ..));have h2:=ih λ y hy=>h y (List.mem_cons_of_mem _ hy)
  rw[List.flatMap_cons,List.length_append,List.length_cons];omega
theorem zba{l:List Str}(h:∀ x∈l,ze x=true){y:Str}(hy:y∈l.flatMap yH):ze y=true:=by
 obtain⟨x,hx,hxy⟩:=List.mem_flatMap.1 hy;exact zbA (h x hx) hxy
theorem Ju{t:Tree}(hv:zC t=true){path:List Int}{n:Str}(hn:ze n=true):(Zl t.files path n).length<=8:=by
 unfold Zl QT;cases hf:cmpI .lss (find t.files path n).file 0 with
 | true=>rw[if_pos rfl];exact Nat.zero_le _
 |
  false=>
  obtain⟨f,h1,h2,_,_⟩:=ZR hv hn hf;have hb:=wu hv h2;unfold xb at hb;have hl:f.body.length<=8:=by
   rw[Bool.and_eq_true] at hb;have:=hb.2;unfold cmpI at this;simp only[decide_eq_true_eq] at this;omega
  rw[if_neg (by decide),ZY h1];exact Nat.le_trans (uniq_len _) (Nat.le_trans (YL _ _) hl)
theorem zbC{t:Tree}(hv:zC t=true){path:List Int}{n:Str}(hn:ze n=true):(wR t.files path n).length<=24:=by
 have h1:=Ju hv (path:=path) hn;have h2:=XN (Zl t.files path n) λ _ hy=>ZG hy
 exact Nat.le_trans (uniq_len _) (by omega)
theorem ZH{t:List File}{s x:Str}(hs:ze s=true)(h:x∈wz t s):ze x=true:=by
 unfold wz at h;rcases List.mem_append.1 h with h | h
 ·
  exact zbA hs h
 ·
  obtain⟨f,_,hx⟩:=List.mem_flatMap.1 h;exact zba (λ _ hy=>Y7 hy) hx
theorem Qk{t:Tree}(hv:zC t=true){path:List Int}{s n x:Str}(hn:ze n=true)(h:x∈wR t.files path n):x∈wz t.files s:=by
 unfold wz;refine List.mem_append.2 (.inr ?_);have h0:=XM.1 h;obtain⟨y,hy,hxy⟩:=List.mem_flatMap.1 h0;unfold Zl QT at hy;cases hf:cmpI .lss (find t.files path n).file 0 with
 | true=>rw[hf,if_pos rfl] at hy;cases hy
 |
  false=>
  obtain⟨f,h1,h2,_,h4⟩:=ZR hv hn hf;rw[hf,if_neg (by decide),ZY h1,h4] at hy;exact List.mem_flatMap.2 ⟨f,h2,List.mem_flatMap.2 ⟨y,XM.1 hy,hxy⟩⟩
theorem fileLeads_len{f:File}(h:f.body.length<=8):(JR f).length<=24:=by
 have h1:=XN (xB f.pkg f.body) λ _ hy=>Y7 hy
 have h2:=YL f.pkg f.body;unfold JR;omega
theorem qD{b:List Stmt}(h:xb b=true):b.length<=8:=by
 unfold xb at h;rw[Bool.and_eq_true] at h;have:=h.2;unfold cmpI at this;simp only[decide_eq_true_eq] at this;omega
theorem Jv{t:Tree}(hv:zC t=true){s:Str}(hs:ze s=true):(wz t.files s).length<=300:=by
 have key:∀ (l:List File),(∀ f∈l,f∈t.files)->(l.flatMap JR).length<=24*l.length:=by
  intro l
  induction l with
  | nil=>intro _;simp
  |
   cons f l ih=>
   intro hl;have h1:=fileLeads_len (qD (wu hv (hl f (List.mem_cons_self ..))));have h2:=ih λ g hg=>hl g (List.mem_cons_of_mem _ hg)
   rw[List.flatMap_cons,List.length_append,List.length_cons];omega
 have h1:=key t.files λ _ h=>h
 have h2:=Qh hv;have h3:=Yx hs;unfold wz;rw[List.length_append];omega
theorem ZZ{s:Str}(h:ze s=true):(yH s).Nodup:=by
 have hparts:=(yh h).1;unfold yH jT;refine List.pairwise_map.2 (List.Pairwise.imp_of_mem (λ{a b} ha hb hne e=>hne ?_) List.nodup_range);rw[List.mem_range] at ha hb;have h1:=Yw (l:=(zh s dot).take (a+1)) (by intro e0;have:=congrArg List.length e0;rw[List.length_take,List.length_nil] at this;omega) λ x hx=>hparts x (List.mem_of_mem_take hx)
 have h2:=Yw (l:=(zh s dot).take (b+1)) (by intro e0;have:=congrArg List.length e0;rw[List.length_take,List.length_nil] at this;omega) λ x hx=>hparts x (List.mem_of_mem_take hx)
 rw[e,h2] at h1;have:=congrArg List.length h1;rw[List.length_take,List.length_take] at this;omega
def ZN(t:List File)(path:List Int)(s:Str)(l:List Str):List Str:=q7 (wR t path) (wz t s).length 0 l
theorem reachOf_len{t:Tree}(hv:zC t=true){path:List Int}{s:Str}(hs:ze s=true){l:List Str}(hn:l.Nodup)(hl:∀ x∈l,x∈wz t.files s):(ZN t.files path s l).length<=300:=
 Nat.le_trans (q6 (zaE _ _ _ hn) (QS (λ _x hx _y hy=>Qk hv (ZH hs hx) hy) _ _ _ hl)) (Jv hv hs)
open Go.RowKit
def okG(t:Tree)(path:List Int)(s:Str):Bool:=zC t&&xP path&&ze s
theorem qe{t:Tree}{path:List Int}{s:Str}(h:okG t path s=true):zC t=true/\xP path=true/\ze s=true:=by
 unfold okG at h;simp only[Bool.and_eq_true] at h;exact⟨h.1.1,h.1.2,h.2⟩
section
variable{t:Tree}{path:List Int}{s:Str}
theorem Xj(hv:zC t=true)(hs:ze s=true):∀ x∈wz t.files s,∀ y∈wR t.files path x,y∈wz t.files s:=
 λ _ hx _ hy=>Qk hv (ZH hs hx) hy
theorem q9{l:List File}{x:Str}(h:x∈yH s):x∈wz l s:=List.mem_append.2 (.inl h)
theorem Jw(hv:zC t=true)(hs:ze s=true){l:List Str}(hn:l.Nodup)(hl:∀ x∈l,x∈wz t.files s){x:Str}:x∈ZN t.files path s l ↔ Way (wR t.files path) l x:=
 reachR_iff (Xj hv hs) hn hl (Nat.le_refl _)
theorem reachOf_world(hv:zC t=true)(hs:ze s=true){l:List Str}(hl:∀ x∈l,x∈wz t.files s){x:Str}(h:x∈ZN t.files path s l):x∈wz t.files s:=
 QS (Xj hv hs) _ _ _ hl x h
theorem reachOf_valid(hv:zC t=true)(hs:ze s=true){l:List Str}(hl:∀ x∈l,x∈wz t.files s){x:Str}(h:x∈ZN t.files path s l):ze x=true:=
 ZH hs (reachOf_world hv hs hl h)
theorem zcq(hv:zC t=true)(hs:ze s=true){l:List Str}(hn:l.Nodup)(hl:∀ x∈l,x∈wz t.files s){x y:Str}(hx:x∈ZN t.files path s l)(hy:y∈wR t.files path x):y∈ZN t.files path s l:=by
 rw[Jw hv hs hn hl] at hx ⊢;exact .step hx hy
end
def ZS(t:Tree)(path:List Int)(s:Str):List Str:=ZN t.files path s (yH s)
def missing(t:Tree)(path:List Int)(n:Str):Bool:=cmpI .eql (find t.files path n).kind 0
def jI(st:Stmt):Bool:=cmpI .eql st.kind 0||cmpI .eql st.kind 2||cmpI .eql st.kind 3
def XO(t:Tree)(path:List Int)(n:Str):Bool:=cmpI .lss (find t.files path n).file 0||(Yf t.files (find t.files path n).file).body.all jI
def wk(t:Tree)(path:List Int)(s:Str):List Str:=if okG t path s=true then X8 (ZS t path s) else[]
def missingL(t:Tree)(path:List Int)(s:Str):List Str:=(wk t path s).filter (missing t path)
def JS(t:Tree)(path:List Int)(s:Str):Bool:=okG t path s&&(wk t path s).all (XO t path)
section
variable{t:Tree}{path:List Int}{s:Str}
theorem QV(hv:zC t=true)(hs:ze s=true):(ZS t path s).length<=300:=reachOf_len hv hs (ZZ hs) λ _ h=>q9 h
theorem zaF(hv:zC t=true)(hs:ze s=true){x:Str}(h:x∈ZS t path s):ze x=true:=reachOf_valid hv hs (λ _ h=>q9 h) h
theorem WY(h:okG t path s=true){x:Str}:x∈wk t path s ↔ x∈ZS t path s:=by
 unfold wk;rw[if_pos h,(WX _).2]
theorem reachL_asc:Asc (wk t path s):=by
 unfold wk;split
 ·
  exact(WX _).1
 ·
  exact List.Pairwise.nil
theorem zcr:(wk t path s).length<=300:=by
 unfold wk;split
 ·
  rename_i h;obtain⟨h1,_,h2⟩:=qe h;exact Nat.le_trans (zby _) (QV h1 h2)
 ·
  exact Nat.zero_le _
theorem reachL_valid{x:Str}(h:x∈wk t path s):ze x=true/\okG t path s=true:=by
 unfold wk at h;split at h
 ·
  rename_i h0;obtain⟨h1,_,h2⟩:=qe h0;exact⟨zaF h1 h2 (((WX _).2 x).1 h),h0⟩
 ·
  cases h
theorem gather_all(h:okG t path s=true):(ZS t path s).foldl xC []=wk t path s:=by
 refine asc_ext (insertAll_asc List.Pairwise.nil) reachL_asc λ x=>?_
 rw[insertAll_iff,WY h];simp
end
open Go.RowKit
open Go.RowKit
theorem any_mem{l:List Str}{x:Str}:l.any (λ y=>decide (y=x))=decide (x∈l):=by
 rw[Bool.eq_iff_iff,List.any_eq_true];simp
theorem any_mem'{l:List Str}{x:Str}:l.any (λ y=>decide (x=y))=decide (x∈l):=by
 rw[Bool.eq_iff_iff,List.any_eq_true];simp
theorem W5{l:List Str}{x:Str}(h:l.length<=1048576):wZ l x=some (decide (x∈l)):=by
 unfold wZ YC;have hl:zL (λ s4=>x8 l x s4) 0=some (match l.findIdx? (λ y=>decide (y=x)) with | some i=>(Sum.inr (i:Int):Unit⊕Int) | none=>Sum.inl ()):=by
  refine Wx l (λ y=>decide (y=x)) (λ i=>Sum.inr i) _ (λ k y hx hlt=>?_) ?_ (by omega) rfl
  ·
   unfold x8;rw[zI,if_pos (decide_eq_true hlt),zR,hx,obS,zU (by omega)];cases decide (y=x) <;> rfl
  ·
   unfold x8;rw[zI,if_neg (by simp)]
 have e:Option.bind (α:=Unit⊕Int) (zL (λ s4=>x8 l x s4) 0) (Sum.elim (λ _=>some (-1)) some)=some (yQ (λ y=>decide (y=x)) l):=by
  rw[hl];unfold yQ;cases l.findIdx? (λ y=>decide (y=x)) <;> rfl
 rw[e,obS,YW,any_mem]
theorem zaG{l:List Str}{x:Str}(h:l.length<=1048576):zX l x=some (decide (x∈l)):=by
 unfold zX xp;have hl:zL (λ s4=>zW l x s4) 0=some (match l.findIdx? (λ y=>decide (x=y)) with | some i=>(Sum.inr (i:Int):Unit⊕Int) | none=>Sum.inl ()):=by
  refine Wx l (λ y=>decide (x=y)) (λ i=>Sum.inr i) _ (λ k y hx hlt=>?_) ?_ (by omega) rfl
  ·
   unfold zW;rw[zI,if_pos (decide_eq_true hlt),zR,hx,obS,zU (by omega)];cases decide (x=y) <;> rfl
  ·
   unfold zW;rw[zI,if_neg (by simp)]
 have e:Option.bind (α:=Unit⊕Int) (zL (λ s4=>zW l x s4) 0) (Sum.elim (λ _=>some (-1)) some)=some (yQ (λ y=>decide (x=y)) l):=by
  rw[hl];unfold yQ;cases l.findIdx? (λ y=>decide (x=y)) <;> rfl
 rw[e,obS,YW,any_mem']
theorem Wz{β γ:Type}{step:List Str×Int->Option ((List Str×Int)⊕β)}(l:List γ)(g:List Str->γ->List Str)(fin:List Str->β)(c B:Nat)
  (hlen:∀ out x,x∈l->(g out x).length<=out.length+c)
  (h:∀ k out x,l[k]?=some x->x∈l->k<l.length->out.length<=B->step (out,(k:Int))=some (.inl (g out x,((k+1:Nat):Int))))
  (hend:∀ out,step (out,(l.length:Int))=some (.inr (fin out))) {out:List Str} (hb:out.length+c*l.length<=B) (hl:l.length<=1048576):zL step (out,(0:Int))=some (fin (l.foldl g out)):=by
 have:=za7 (step:=step) l (λ(s:List Str) k=>(s,(k:Int))) g fin (λ k s=>k<=l.length/\s.length<=out.length+c*k) (λ k s x hx hk hI=>?_) (λ s _=>hend s) (s0:=out) ⟨Nat.zero_le _,by omega⟩ (by omega)
 ·
  exact this
 ·
  have hm:=List.mem_of_getElem? hx;have h1:c*k<=c*l.length:=Nat.mul_le_mul_left c (by omega);have h2:=hlen s x hm;refine⟨h k s x hx hm hk (by omega),by omega,?_⟩;rw[Nat.mul_succ];omega
theorem fold_add{γ:Type}(f:γ->List Str):∀ (l:List γ) (out:List Str),l.foldl (λ o x=>xE o (f x)) out=xE out (l.flatMap f)
 | [],_=>rfl
 |
  x::l,out=>by
  rw[List.foldl_cons,List.flatMap_cons,zcm];exact fold_add f l _
theorem fold_app{γ:Type}(f:γ->List Str):∀ (l:List γ) (out:List Str),l.foldl (λ o x=>o++f x) out=out++l.flatMap f
 | [],_=>by simp
 |
  x::l,out=>by
  rw[List.foldl_cons,List.flatMap_cons,fold_app f l];simp
theorem fold_if{γ:Type}(p:γ->Bool)(f:List Str->γ->List Str):∀ (l:List γ) (out:List Str),l.foldl (λ o x=>if p x=true then f o x else o) out=(l.filter p).foldl f out
 | [],_=>rfl
 |
  x::l,out=>by
  rw[List.foldl_cons,List.filter_cons];cases h:p x with
  | true=>rw[if_pos rfl,if_pos rfl,List.foldl_cons];exact fold_if p f l _
  | false=>rw[if_neg (by decide),if_neg (by decide)];exact fold_if p f l _
theorem add_loop{step:List Str×Int->Option ((List Str×Int)⊕List Str)}(l:List Str)
  (h:∀ k out x,l[k]?=some x->x∈l->k<l.length->out.length<=1000->step (out,(k:Int))=some (.inl (addU out x,((k+1:Nat):Int))))
  (hend:∀ out,step (out,(l.length:Int))=some (.inr out)) {out:List Str} (hb:out.length+l.length<=1000):zL step (out,(0:Int))=some (xE out l):=
 Wz l addU (λ o=>o) 1 1000 (λ out x _=>addU_len out x) h hend (by omega) (by omega)
theorem Ql{s:Str}(h:ze s=true):Z6 s=some (yH s):=if_pos (wo h).mid
theorem zaH{p:Str}(h:zr p=true):mid p:=by have:=yG h;unfold mid;omega
theorem WZ:zv emptyS=emptyS:=by
 have:(46:UInt8) ∉ emptyS.l:=by decide
 exact(YX this).1
theorem XP{p:Str}(h:zr p=true):zr (zv p)=true:=by
 unfold zr at h;rw[Bool.or_eq_true,decide_eq_true_eq] at h;rcases h with h | h
 ·
  rw[h,WZ];rfl
 ·
  exact pre_valid h _
theorem zbb:∀ n,upN n emptyS=emptyS
 | 0=>rfl
 |
  n+1=>by
  unfold upN;rw[WZ];exact zbb n
theorem upN_pkg:∀ n {p:Str},zr p=true->zr (upN n p)=true
 | 0,_,h=>h
 | n+1,_,h=>upN_pkg n (XP h)
theorem spec_base_eq{p:Str}(hp:zr p=true){n:Nat}(hn:n<=10):YU p ((n:Int)+1)=some (upN n p,decide (upN n p≠(⟨[]⟩:Str))):=by
 have key:∀ (k i:Nat) (q:Str),zr q=true->i+k=n->∃ r,jK (λ s4=>ws ((n:Int)+1) s4) (k+1) (q,((i+1:Nat):Int))=some r/\(r=.inl (upN k q)\/(r=.inr ((⟨[]⟩:Str),false)/\upN k q=emptyS)):=by
  intro k
  induction k with
  |
   zero=>
   intro i q hq hi;refine⟨.inl q,xA ?_,.inl rfl⟩;unfold ws;simp only;rw[show((n:Int)+1)=((n+1:Nat):Int) by omega,zI,if_neg (by simp;omega)]
  |
   succ k ih=>
   intro i q hq hi;have hlt:cmpI .lss ((i+1:Nat):Int) ((n:Int)+1)=true:=by unfold cmpI;exact decide_eq_true (by omega)
   by_cases he:q=(⟨[]⟩:Str)
   ·
    refine⟨.inr ((⟨[]⟩:Str),false),xA ?_,.inr ⟨rfl,?_⟩⟩
    ·
     unfold ws;simp only;rw[if_pos hlt,if_pos (decide_eq_true he)]
    ·
     rw[he];exact zbb _
   ·
    have hs:ws ((n:Int)+1) (q,((i+1:Nat):Int))=some (.inl (zv q,((i+1+1:Nat):Int))):=by
     unfold ws;simp only;rw[if_pos hlt,if_neg (by simpa using he),show xj q=some (zv q) from if_pos (zaH hq),obS,zU (by omega)];rfl
    obtain⟨r,h1,h2⟩:=ih (i+1) (zv q) (XP hq) (by omega);exact⟨r,by rw[Zk hs];exact h1,h2⟩
 obtain⟨r,h1,h2⟩:=key n 0 p hp (by omega);unfold YU;rw[show(1:Int)=((0+1:Nat):Int) from rfl,ZC (by simpa using h1) (by omega)];rcases h2 with rfl | ⟨rfl,h3⟩
 ·
  rfl
 ·
  rw[h3];rfl
theorem Jx{p m:Str}{lv:Int}:ZF p lv m=if lv=0 then m else if upN (lv - 1).toNat p=emptyS then emptyS else if m=emptyS then upN (lv - 1).toNat p else child (upN (lv - 1).toNat p) m:=by
 unfold ZF;by_cases h:lv=0
 ·
  rw[if_pos h,if_pos (by simp[cmpI,h])]
 ·
  rw[if_neg h,if_neg (by simp[cmpI,h])]
theorem zbR{p m:Str}{lv:Int}(hp:zr p=true)(h0:0<=lv)(h1:lv<=4)(hm:sho m):jh p lv m=some (ZF p lv m):=by
 rw[Jx];unfold jh;by_cases h:lv=0
 ·
  rw[if_pos h,if_pos (by simp[cmpI,h])]
 ·
  rw[if_neg h,if_neg (by simp[cmpI,h])];obtain⟨n,hn⟩:∃ n:Nat,lv=(n:Int)+1:=⟨(lv - 1).toNat,by omega⟩;have hu:=upN_pkg n hp;rw[show(lv - 1).toNat=n by omega,hn,spec_base_eq hp (by omega),obS];by_cases he:upN n p=emptyS
  ·
   rw[if_pos he];simp only[he];rfl
  ·
   rw[if_neg he];have he':decide (upN n p≠(⟨[]⟩:Str))=true:=decide_eq_true he;simp only[he'];rw[if_neg (by decide)];by_cases hm0:m=emptyS
   ·
    rw[if_pos hm0,if_pos (decide_eq_true (show m=(⟨[]⟩:Str) from hm0))]
   ·
    have hlu:=yG hu;unfold sho at hm;rw[if_neg hm0,if_neg (by simpa using(show ¬ m=(⟨[]⟩:Str) from hm0)),show Z7 (upN n p) m=some (child (upN n p) m) from if_pos (by omega),obS]
theorem qA{st:Stmt}(h:zV st=true):((st.kind=0\/st.kind=2)/\ze st.module=true)\/(st.kind=1/\zr st.module=true/\0<=st.level/\st.level<=3)\/(st.kind≠0/\st.kind≠1/\st.kind≠2):=by
 unfold zV at h;by_cases h0:st.kind=0
 ·
  rw[if_pos (by simp[cmpI,h0])] at h;simp only[Bool.and_eq_true] at h;exact .inl ⟨.inl h0,h.1.1.1⟩
 ·
  rw[if_neg (by simp[cmpI,h0])] at h;by_cases h1:st.kind=1
  ·
   rw[if_pos (by simp[cmpI,h1])] at h;simp only[Bool.and_eq_true,inR] at h;have h2:=h.1.1.1.2;simp[cmpI] at h2;exact .inr (.inl ⟨h1,h.1.1.1.1,by omega,by omega⟩)
  ·
   rw[if_neg (by simp[cmpI,h1])] at h;by_cases h2:st.kind=2
   ·
    rw[if_pos (by simp[cmpI,h2])] at h;simp only[Bool.and_eq_true] at h;exact .inl ⟨.inr h2,h.1.1.1⟩
   ·
    exact .inr (.inr ⟨h0,h1,h2⟩)
theorem child_len(p s:Str):(child p s).l.length<=p.l.length+s.l.length+1:=by
 unfold child;split
 ·
  omega
 ·
  simp only[List.length_append,List.length_singleton];omega
theorem stName_sho{p:Str}{st:Stmt}(hp:zr p=true)(h:zV st=true):sho (q8 p st):=by
 unfold q8 sho;rcases qA h with⟨h1,h2⟩ | ⟨h1,h2,h3,h4⟩ | ⟨h1,h2,h3⟩
 ·
  have:=xk h2;rw[if_pos (by rcases h1 with h1 | h1 <;> simp[cmpI,h1])];omega
 ·
  rw[if_neg (by simp[cmpI,h1]),if_pos (by simp[cmpI,h1]),Jx];have h5:=yG h2;have h6:=yG (upN_pkg (st.level - 1).toNat hp);have h7:=child_len (upN (st.level - 1).toNat p) st.module;split
  ·
   omega
  ·
   split
   ·
    exact Nat.zero_le _
   ·
    split <;> omega
 ·
  rw[if_neg (by simp[cmpI,h1,h3]),if_neg (by simp[cmpI,h2])];exact Nat.zero_le _
section
variable{t:Tree}{path:List Int}
theorem atI_some{α:Type}{l:List α}{k:Int}{x:α}(h0:cmpI .lss k 0=false)(h:l[k.toNat]?=some x):atI l k=some x:=by
 have hk:0<=k:=by
  have:=of_decide_eq_false h0;omega
 unfold atI;rw[if_pos hk];exact h
theorem zbD{n:Str}(hn:ze n=true)(s:Spec):zr (YZ n s)=true:=by
 have h:zr n=true:=by unfold zr;rw[hn,Bool.or_true]
 unfold YZ;split
 ·
  exact XP h
 ·
  exact h
end
open Go.RowKit
theorem full_s1(l out:List Str)(hb:out.length+l.length<=1000):zL (λ s=>jZ l s) (out,(0:Int))=some (xE out l):=by
 refine add_loop l (λ k out x hx _ hk ho=>?_) (λ out=>?_) hb
 ·
  unfold jZ addU;simp only;rw[zI,if_pos (decide_eq_true hk),zR,hx,obS,W5 (by omega),obS,zU (by omega)];by_cases hm:x∈out
  ·
   rw[decide_eq_true hm,if_neg (by decide),if_pos hm];rfl
  ·
   rw[decide_eq_false hm,if_pos (by decide),obS,xO (by simp;omega) (by simp;omega),if_neg hm];rfl
 ·
  unfold jZ;simp only;rw[zI,if_neg (by simp)]
theorem reach_s1(l out:List Str)(hb:out.length+l.length<=1000):zL (λ s=>ZL l s) (out,(0:Int))=some (xE out l):=by
 rw[← full_s1 l out hb];rfl
theorem spec_full_eq{l:List Str}(hv:∀ x∈l,ze x=true)(hl:l.length<=100):YV l=some (uniq (l.flatMap yH)):=by
 unfold YV;have h:zL (λ s=>j6 l s) (([]:List Str),(0:Int))=some (uniq (l.flatMap yH)):=by
  rw[show uniq (l.flatMap yH)=l.foldl (λ o x=>xE o (yH x)) [] from(fold_add yH l []).symm];refine Wz l (λ o x=>xE o (yH x)) (λ o=>o) 3 300 (λ out x hx=>?_) (λ k out x hx hm hk ho=>?_) (λ out=>?_) (by simp;omega) (by omega)
  ·
   have h1:=QR (yH x) out;have h2:=Yx (hv x hx);omega
  ·
   have h2:=Yx (hv x hm);unfold j6;simp only;rw[zI,if_pos (decide_eq_true hk),zR,hx,obS,Ql (hv x hm),obS,full_s1 _ _ (by omega),zU (by omega)];rfl
  ·
   unfold j6;simp only;rw[zI,if_neg (by simp)]
 rw[h];rfl
theorem zbS{p:Str}{f:File}(hp:zr p=true)(hb:xb f.body=true):zL (λ s=>wF p f s) (([]:List Str),(0:Int))=some (uniq (xB p f.body)):=by
 have hlen:=qD hb;have hst:∀ st∈f.body,zV st=true:=by
  unfold xb at hb;rw[Bool.and_eq_true] at hb;exact λ st h=>List.all_eq_true.1 hb.1 st h
 have e:uniq (xB p f.body)=f.body.foldl (λ o st=>if ze (q8 p st)=true then addU o (q8 p st) else o) []:=by
  rw[fold_if (λ st=>ze (q8 p st)) (λ o st=>addU o (q8 p st))];unfold uniq xE xB;rw[List.filter_map,List.foldl_map];rfl
 rw[e];refine Wz f.body _ (λ o=>o) 1 1000 (λ out st hm=>?_) (λ k out st hx hm hk ho=>?_) (λ out=>?_) (by simp;omega) (by omega)
 ·
  split
  ·
   exact addU_len _ _
  ·
   omega
 ·
  have hs:=hst st hm;have hsho:=stName_sho hp hs;have hname:((atI f.body (k:Int)).bind λ v29=>Option.bind (α:=Bool) (if(cmpI .eql v29.kind (0:Int))=true then(some (cmpI .eql v29.kind (0:Int))) else(some (cmpI .eql v29.kind (2:Int)))) λ o32=>if o32=true then((atI f.body (k:Int)).bind λ v40=>some v40.module) else(if(cmpI .eql v29.kind (1:Int))=true then((atI f.body (k:Int)).bind λ v46=>(atI f.body (k:Int)).bind λ v47=>(jh p v46.level v47.module).bind λ v48=>some v48) else(some (⟨[]⟩:Str))))=some (q8 p st):=by
   rw[zR,hx];simp only[obS];unfold q8;rcases qA hs with⟨h1,h2⟩ | ⟨h1,h2,h3,h4⟩ | ⟨h1,h2,h3⟩
   ·
    rcases h1 with h1 | h1 <;> simp[cmpI,h1]
   ·
    have hm2:sho st.module:=by have:=yG h2;unfold sho;omega
    rw[zbR hp h3 (by omega) hm2];simp[cmpI,h1]
   ·
    simp[cmpI,h1,h2,h3];rfl
  unfold wF;simp only;rw[zI,if_pos (decide_eq_true hk),hname,obS,show yZ (q8 p st)=some (ze (q8 p st)) from if_pos hsho.mid,obS,W5 (by omega),zU (by omega)];cases ze (q8 p st) with
  | false=>rfl
  |
   true=>
   rw[show((true:Bool) == true)=true from rfl,Xg,obS,if_pos rfl];unfold addU;by_cases hmem:q8 p st∈out
   ·
    rw[decide_eq_true hmem,if_neg (by decide),if_pos hmem];rfl
   ·
    rw[decide_eq_false hmem,if_pos (by decide),xO (by simp;omega) (by simp;omega),if_neg hmem];rfl
 ·
  unfold wF;simp only;rw[zI,if_neg (by simp)]
section
variable{t:Tree}{path:List Int}
theorem zbT(hv:zC t=true)(hp:path.length<=1048576){n:Str}(hn:ze n=true):qW t path n=some (Zl t.files path n):=by
 unfold qW;rw[show X3 t path n=some (find t.files path n) from if_pos ⟨by omega,(wo hn).mid⟩,obS];unfold Xe Zl QT;cases hf:cmpI .lss (find t.files path n).file 0 with
 | true=>rfl
 |
  false=>
  obtain⟨f,h1,h2,_,h4⟩:=ZR hv hn hf;have hpk:=zbD hn (find t.files path n);have hl:=zbS hpk (wu hv h2);have hk:(Option.bind (α:=Str) (if(cmpI .eql (find t.files path n).kind (1:Int))=true then((xj n).bind λ v12=>some v12) else(some n)) λ o8=>(atI t.files (find t.files path n).file).bind λ v16=>Option.bind (α:=(List Str)) (zL (λ s21=>wF o8 v16 s21) ([],(0:Int))) λ o19=>some o19)=some (uniq (xB (YZ n (find t.files path n)) f.body)):=by
   rw[show(if(cmpI .eql (find t.files path n).kind (1:Int))=true then((xj n).bind λ v12=>some v12) else(some n))=some (YZ n (find t.files path n)) by
    unfold YZ;cases cmpI .eql (find t.files path n).kind (1:Int) with
    | false=>rfl
    | true=>rw[if_pos rfl,if_pos rfl,show xj n=some (zv n) from if_pos (wo hn).mid];rfl,obS,atI_some hf h1,obS,hl,obS]
  simp only[Bool.false_eq_true,if_false];rw[ZY h1,hk];rfl
theorem spec_edges_eq(hv:zC t=true)(hp:path.length<=1048576){n:Str}(hn:ze n=true):Yc t path n=some (wR t.files path n):=by
 unfold Yc;have h1:=Ju hv (path:=path) hn;rw[zbT hv hp hn,obS,spec_full_eq (λ _ h=>ZG h) (by omega),obS];rfl
theorem spec_reach_eq(hv:zC t=true)(hp:path.length<=1048576){s:Str}(hs:ze s=true){l:List Str}(hn:l.Nodup)(hl:∀ x∈l,x∈wz t.files s):Zi t path l=some (ZN t.files path s l):=by
 have hw:=Jv hv hs;have hll:=q6 hn hl;unfold Zi;rw[xO (by simp;omega) (by simp;omega),obS,List.nil_append];have h:zL (λ s10=>jt t path s10) (l,(0:Int))=some (ZN t.files path s l):=by
  refine loop_grow (λ(o:List Str) k=>(o,(k:Int))) (wR t.files path) (wz t.files s) (Xj hv hs) (λ o=>o) (λ k out x hx ho hs'=>?_) (λ out ho hs'=>?_) hn hl (by omega) rfl
  ·
   have hxv:=ZH hs (hs' x (List.mem_of_getElem? hx));have hk:=(List.getElem?_eq_some_iff.1 hx).1;have hol:=q6 ho hs';have hel:=zbC hv (path:=path) hxv;unfold jt;simp only;rw[zI,if_pos (decide_eq_true hk),zR,hx,obS,spec_edges_eq hv hp hxv,obS,reach_s1 _ _ (by omega),zU (by omega)];rfl
  ·
   unfold jt;simp only;rw[zI,if_neg (by simp)]
 rw[h];rfl
theorem zcs(hv:zC t=true)(hp:path.length<=1048576){s:Str}(hs:ze s=true):Zi t path (yH s)=some (ZS t path s):=
 spec_reach_eq hv hp hs (ZZ hs) λ _ h=>q9 h
theorem okG_cases(t:Tree)(path:List Int)(s:Str){α:Type}[Inhabited α]{b:α}{K:Option α}(ht:wN t)(hn:sho s){r:α}(h0:okG t path s=false->r=b)(h1:okG t path s=true->K=some r):((jX t).bind λ v2=>(gO ((!v2) == false) (jY path)).bind λ v3=>(gO (((!v2)||(!v3)) == false) (yZ s)).bind λ v4=>if(((!v2)||(!v3))||(!v4))=true then(some b) else K)=some r:=by
 rw[show jX t=some (zC t) from if_pos ht,obS,show jY path=some (xP path) from if_pos trivial,show yZ s=some (ze s) from if_pos hn.mid];cases hv:zC t with
 | false=>rw[h0 (by unfold okG;rw[hv];rfl)];rfl
 |
  true=>
  cases hp:xP path with
  | false=>rw[h0 (by unfold okG;rw[hv,hp];rfl)];rfl
  |
   true=>
   cases hs:ze s with
   | false=>rw[h0 (by unfold okG;rw[hv,hp,hs];rfl)];rfl
   | true=>exact h1 (by unfold okG;rw[hv,hp,hs];rfl)
theorem ins_loop{step:List Str×Int->Option ((List Str×Int)⊕List Str)}(l:List Str)(p:Str->Bool)(hl:l.length<=1000)
  (h:∀ k out x,l[k]?=some x->x∈l->k<l.length->out.length<=1000->step (out,(k:Int))=some (.inl (if p x=true then xC out x else out,((k+1:Nat):Int))))
  (hend:∀ out,step (out,(l.length:Int))=some (.inr out)):zL step (([]:List Str),(0:Int))=some ((l.filter p).foldl xC []):=by
 rw[← fold_if p xC l []];refine Wz l (λ o x=>if p x=true then xC o x else o) (λ o=>o) 1 1000 (λ out x _=>?_) h hend (by simp;omega) (by omega);show(if p x=true then xC out x else out).length<=out.length+1;split
 ·
  have:=insertAll_len [x] out;simpa using this
 ·
  omega
theorem spec_ins_eq{out:List Str}{x:Str}(h:out.length<=1000):qG out x=some (xC out x):=if_pos (by omega)
variable{s:Str}
theorem zbU(ht:wN t)(hp:path.length<=1048576)(hn:sho s):qb t path s=some (wk t path s):=by
 unfold qb;refine okG_cases t path s ht hn (λ h=>by unfold wk;rw[h];rfl) λ h=>?_
 obtain⟨hv,_,hs⟩:=qe h;have hlen:=QV hv (path:=path) hs;have hl:zL (λ s20=>xL (ZS t path s) s20) (([]:List Str),(0:Int))=some (wk t path s):=by
  rw[← gather_all h];have:=ins_loop (step:=λ s20=>xL (ZS t path s) s20) (ZS t path s) (λ _=>true) (by omega) (λ k out x hx hm hk ho=>?_) (λ out=>?_)
  ·
   rw[this,List.filter_eq_self.2 (λ _ _=>rfl)]
  ·
   unfold xL;simp only;rw[zI,if_pos (decide_eq_true hk),zR,hx,obS,spec_ins_eq ho,obS,zU (by omega)];rfl
  ·
   unfold xL;simp only;rw[zI,if_neg (by simp)]
 rw[Ql hs,obS,zcs hv hp hs,obS,hl];rfl
end
open Go.RowKit
theorem WA{l:List Str}(h:l.length<=1000):wT l=some (uniq l):=by
 unfold wT;have hl:zL (λ s5=>wX l s5) (([]:List Str),(0:Int))=some (uniq l):=by
  refine add_loop l (λ k out x hx _ hk ho=>?_) (λ out=>?_) (by simpa using h)
  ·
   unfold wX addU;simp only;rw[zI,if_pos (decide_eq_true hk),zR,hx,obS,zaG (by omega),obS,zU (by omega)];by_cases hm:x∈out
   ·
    rw[decide_eq_true hm,if_neg (by decide),if_pos hm];rfl
   ·
    rw[decide_eq_false hm,if_pos (by decide),xO (by simp;omega) (by simp;omega),if_neg hm];rfl
  ·
   unfold wX;simp only;rw[zI,if_neg (by simp)]
 rw[hl];rfl
def orE(s:Str):Str:=if ze s=true then s else emptyS
theorem ParentOf_any{p:Str}(h:zr p=true):yT p=some (zv p):=by
 unfold zr at h;rw[Bool.or_eq_true,decide_eq_true_eq] at h;rcases h with h | h
 ·
  rw[h,WZ];unfold yT;rcases zaD emptyS 46 (by decide) with⟨pre,post,e1,_,_⟩ | ⟨_,e3⟩
  ·
   have:=congrArg List.length e1;simp[emptyS] at this
  ·
   rw[show zP emptyS (UInt8.ofNat 46)=some (-1) from e3,obS,y6 (show sho emptyS from Nat.zero_le _),obS];rfl
 ·
  exact YY h
theorem resolve_loop{p:Str}(hp:zr p=true){n:Nat}(hn:n<=10):zL (λ s17=>yk s17) (p,(n:Int)+1)=some (upN n p):=by
 have key:∀ (k:Nat) (q:Str),k<=10->zr q=true->jK (λ s17=>yk s17) (k+1) (q,((k:Int)+1))=some (upN k q):=by
  intro k
  induction k with
  |
   zero=>
   intro q _ hq;refine xA ?_;unfold yk;rw[if_neg (by simp[cmpI])];rfl
  |
   succ k ih=>
   intro q hk hq;have hgt:cmpI .gtr (((k+1:Nat):Int)+1) 1=true:=by unfold cmpI;exact decide_eq_true (by omega)
   by_cases he:q=(⟨[]⟩:Str)
   ·
    refine xA ?_;unfold yk;simp only;rw[he,if_neg (by simp),show upN (k+1) (⟨[]⟩:Str)=emptyS from zbb _];rfl
   ·
    have hs:yk (q,(((k+1:Nat):Int)+1))=some (.inl (zv q,((k:Int)+1))):=by
     unfold yk;simp only;rw[hgt,if_pos (by simpa using he),ParentOf_any hq,obS,show(((k+1:Nat):Int)+1 - 1)=((k:Int)+1) by omega,wG (by omega) (by omega)];rfl
    rw[Zk hs];exact ih (zv q) (by omega) (XP hq)
 exact ZC (key n p hn hp) (by omega)
theorem pkg_sho{p:Str}(h:zr p=true):sho p:=by have:=yG h;unfold sho;omega
theorem Jy{p m:Str}{lv:Int}(hp:zr p=true)(hm:zr m=true)(h0:0<=lv)(h1:lv<=3):wc p lv m=some (orE (ZF p lv m)):=by
 rw[Jx];unfold wc;have hw:yE lv 0 4=some true:=by
  unfold yE cmpI;simp only[ge_iff_le];rw[decide_eq_true h0,decide_eq_true (show lv<=4 by omega)];rfl
 rw[Ye (pkg_sho hp),obS,Ye (pkg_sho hm),hw,hp,hm];simp only[Bool.not_true,beq_self_eq_true,Xg,obS,Bool.or_self,Bool.false_eq_true,if_false];unfold orE;by_cases h:lv=0
 ·
  rw[if_pos h,if_pos (by simp[cmpI,h])];unfold zr at hm;rw[Bool.or_eq_true,decide_eq_true_eq] at hm;rcases hm with hm | hm
  ·
   rw[hm,wH];rfl
  ·
   rw[if_pos hm]
 ·
  rw[if_neg h,if_neg (by simp[cmpI,h])];obtain⟨n,hn⟩:∃ n:Nat,lv=(n:Int)+1:=⟨(lv - 1).toNat,by omega⟩;have hu:=upN_pkg n hp;have hul:=yG hu;have hml:=yG hm;rw[show(lv - 1).toNat=n by omega,hn,resolve_loop hp (by omega),obS];by_cases he:upN n p=emptyS
  ·
   rw[if_pos he,if_pos (decide_eq_true (show upN n p=(⟨[]⟩:Str) from he)),wH];rfl
  ·
   rw[if_neg he,if_neg (by simpa using(show ¬ upN n p=(⟨[]⟩:Str) from he))];have hend:∀ q:Str,sho q->((zS q).bind λ v44=>if(!v44)=true then(some (⟨[]⟩:Str)) else(some q))=some (if ze q=true then q else emptyS):=λ q hq=>by
    rw[y6 hq,obS];cases ze q <;> rfl
   by_cases hm0:m=emptyS
   ·
    rw[if_pos hm0,if_neg (by simpa using(show m=(⟨[]⟩:Str) from hm0)),obS];exact hend _ (pkg_sho hu)
   ·
    rw[if_neg hm0,if_pos (by simpa using(show ¬ m=(⟨[]⟩:Str) from hm0)),YG (by simp;omega),obS,YG (by simp;omega),obS,obS];have e:(⟨(upN n p).l++([46]++m.l)⟩:Str)=child (upN n p) m:=by
     unfold child;rw[if_neg he];simp
    simp only[e];refine hend _ ?_;have:=child_len (upN n p) m;unfold sho;omega
theorem packageOf_eq{n:Str}(hn:ze n=true)(s:Spec):yl (⟨n,s.kind,[],false,false,[]⟩:GMod)=some (YZ n s):=by
 unfold yl YZ;simp only;cases cmpI .eql s.kind 1 with
 | false=>rfl
 | true=>rw[if_pos rfl,if_pos rfl,YY hn];rfl
theorem zct{p:Str}{b:List Stmt}{k:Nat}{st:Stmt}(hx:b[k]?=some st):xB p (b.take (k+1))=xB p (b.take k)++(if ze (q8 p st)=true then[q8 p st] else[]):=by
 unfold xB;rw[List.take_add_one,hx,Option.toList_some,List.map_append,List.filter_append,List.map_singleton,List.filter_cons,List.filter_nil]
theorem needs_loop{n:Str}(hn:ze n=true){sp:Spec}{f:File}(hb:xb f.body=true):zL (λ s25=>wx n sp f s25) (([]:List Str),(0:Int))=some (xB (YZ n sp) f.body):=by
 have hp:=zbD hn sp;have hlen:=qD hb;have hst:∀ st∈f.body,zV st=true:=by
  unfold xb at hb;rw[Bool.and_eq_true] at hb;exact λ st h=>List.all_eq_true.1 hb.1 st h
 refine za8 (b:=xB (YZ n sp) f.body) f.body.length (λ k=>(xB (YZ n sp) (f.body.take k),(k:Int))) (λ k hk=>?_) ?_ (by omega) rfl
 ·
  obtain⟨st,hx,hm⟩:=get_some hk;have hs:=hst st hm;have hol:=YL (YZ n sp) (f.body.take k);rw[List.length_take] at hol;unfold wx;simp only;rw[zI,if_pos (decide_eq_true hk),zR,hx,obS,zU (by omega),zct hx,packageOf_eq hn];generalize xB (YZ n sp) (f.body.take k)=out at hol ⊢;have ha:∀ x:Str,appO 16 out [x]=some (out++[x]):=λ x=>xO (by simp;omega) (by simp;omega)
  unfold q8;rcases qA hs with⟨h1,h2⟩ | ⟨h1,h2,h3,h4⟩ | ⟨h1,h2,h3⟩
  ·
   rcases h1 with h1 | h1
   ·
    simp[cmpI,h1,h2,ha]
   ·
    simp[cmpI,h1,h2,ha]
  ·
   rw[obS,Jy hp h2 h3 h4,obS];generalize ZF (YZ n sp) st.level st.module=q;unfold orE;by_cases hq:ze q=true
   ·
    have hne:q≠emptyS:=by intro e;rw[e,wH] at hq;cases hq
    have hne':¬ q=(⟨[]⟩:Str):=hne;simp[cmpI,h1,hq,hne',ha]
   ·
    have he:decide (emptyS≠(⟨[]⟩:Str))=false:=by decide
    simp[cmpI,h1,hq,he]
  ·
   simp[cmpI,h1,h2,h3,wH]
 ·
  unfold wx;simp only;rw[zI,if_neg (by simp),List.take_length]
section
variable{t:Tree}{path:List Int}
theorem zbE(ht:wN t)(hp:path.length<=1048576){n:Str}(hn:sho n)(h:okG t path n=true):xX t path n=some (find t.files path n):=by
 rw[zbv ht hp hn];unfold findOf;rw[if_pos (by unfold okG at h;exact h)]
theorem FindSpec_bad(ht:wN t)(hp:path.length<=1048576){n:Str}(hn:sho n)(h:okG t path n=false):xX t path n=some Zo:=by
 rw[zbv ht hp hn];unfold findOf;rw[if_neg (by unfold okG at h;rw[h];decide)]
theorem NeedsOf_eq(ht:wN t)(hp:path.length<=1048576){n:Str}(hn:sho n):qX t path n=some (if okG t path n=true then Zl t.files path n else[]):=by
 unfold qX;cases hok:okG t path n with
 |
  false=>
  rw[FindSpec_bad ht hp hn hok,obS,if_pos (by decide),if_neg (by decide)]
 |
  true=>
  obtain⟨hv,_,hnv⟩:=qe hok;rw[zbE ht hp hn hok,obS,if_pos rfl];unfold Zl QT;cases hf:cmpI .lss (find t.files path n).file 0 with
  | true=>rfl
  |
   false=>
   obtain⟨f,h1,h2,_,h4⟩:=ZR hv hnv hf;have hb:=wu hv h2;have hl:=needs_loop hnv (sp:=find t.files path n) hb;have hbl:=YL (YZ n (find t.files path n)) f.body;have hfl:=qD hb;simp only[Bool.false_eq_true,if_false];rw[atI_some hf h1,obS,hl,obS,WA (by omega),obS,ZY h1]
def edgesG(t:Tree)(path:List Int)(n:Str):List Str:=if okG t path n=true then wR t.files path n else[]
theorem Qm{s:Str}(h:ze s=true):xJ s=some (yH s):=by
 rw[NamesAbove_eq (wo h),if_pos h]
theorem zcu{l:List Str}(hv:∀ x∈l,ze x=true)(hl:l.length<=100):zL (λ s7=>wy l s7) (([]:List Str),(0:Int))=some (l.flatMap yH):=by
 have e:=fold_app yH l [];rw[List.nil_append] at e;rw[← e];refine Wz l (λ o x=>o++yH x) (λ o=>o) 3 300 (λ out x hx=>?_) (λ k out x hx hm hk ho=>?_) (λ out=>?_) (by simp;omega) (by omega)
 ·
  have h2:=Yx (hv x hx);simp only[List.length_append];omega
 ·
  have h2:=Yx (hv x hm);unfold wy;simp only;rw[zI,if_pos (decide_eq_true hk),zR,hx,obS,Qm (hv x hm),obS,xO (by omega) (by omega),zU (by omega)];rfl
 ·
  unfold wy;simp only;rw[zI,if_neg (by simp)]
theorem EdgesOf_eq(ht:wN t)(hp:path.length<=1048576){n:Str}(hn:sho n):j8 t path n=some (edgesG t path n):=by
 unfold j8 edgesG;rw[NeedsOf_eq ht hp hn,obS];cases hok:okG t path n with
 | false=>rw[if_neg (by decide),if_neg (by decide),zcu (λ _ h=>by cases h) (Nat.zero_le _),obS,List.flatMap_nil,WA (Nat.zero_le _)];rfl
 |
  true=>
  obtain⟨hv,_,hnv⟩:=qe hok;have h1:=Ju hv (path:=path) hnv;have h2:=XN (Zl t.files path n) λ _ hy=>ZG hy
  rw[if_pos rfl,if_pos rfl,zcu (λ _ h=>ZG h) (by omega),obS,WA (by omega),obS];rfl
theorem okG_name{s n:Str}(h:okG t path s=true)(hn:ze n=true):okG t path n=true:=by
 obtain⟨h1,h2,_⟩:=qe h;unfold okG;rw[h1,h2,hn];rfl
theorem EdgesOf_ok(ht:wN t)(hp:path.length<=1048576){s n:Str}(h:okG t path s=true)(hn:ze n=true):j8 t path n=some (wR t.files path n):=by
 rw[EdgesOf_eq ht hp (wo hn)];unfold edgesG;rw[if_pos (okG_name h hn)]
theorem reach_eq(_ht:wN t){s:Str}(h:okG t path s=true){f:Str->Option (List Str)}(hf:∀ x,ze x=true->f x=some (wR t.files path x)){l:List Str}(hn:l.Nodup)(hl:∀ x∈l,x∈wz t.files s):Yd l f=some (ZN t.files path s l):=by
 obtain⟨hv,_,hs⟩:=qe h;have hw:=Jv hv hs;have hll:=q6 hn hl;unfold Yd;rw[WA (by omega),show uniq l=l from zcn hn,obS];have h:zL (λ s10=>ju f s10) (l,(0:Int))=some (ZN t.files path s l):=by
  refine loop_grow (λ(o:List Str) k=>(o,(k:Int))) (wR t.files path) (wz t.files s) (Xj hv hs) (λ o=>o) (λ k out x hx ho hs'=>?_) (λ out ho hs'=>?_) hn hl (by omega) rfl
  ·
   have hxv:=ZH hs (hs' x (List.mem_of_getElem? hx));have hk:=(List.getElem?_eq_some_iff.1 hx).1;have hol:=q6 ho hs';have hel:=zbC hv (path:=path) hxv;unfold ju;simp only;rw[zI,if_pos (decide_eq_true hk),zR,hx,obS,hf x hxv,obS,xO (by omega) (by omega),obS,WA (by rw[List.length_append];omega),obS,uniq_app ho,zU (by omega)];rfl
  ·
   unfold ju;simp only;rw[zI,if_neg (by simp)]
 rw[h];rfl
theorem zcv(ht:wN t)(hp:path.length<=1048576){n:Str}(hn:sho n):j7 t path n=some (okG t path n):=by
 unfold j7 okG;rw[WT ht,obS,WU hp,y6 hn];cases zC t with
 | false=>rfl
 | true=>cases xP path <;> rfl
variable{s:Str}
theorem zcw(ht:wN t)(hp:path.length<=1048576)(hn:sho s):qa t path s=some (wk t path s):=by
 unfold qa;rw[zcv ht hp hn,obS];cases hok:okG t path s with
 | false=>unfold wk;rw[hok];rfl
 |
  true=>
  obtain⟨hv,_,hs⟩:=qe hok;have hlen:=QV hv (path:=path) hs;rw[if_neg (by decide),Qm hs,obS,reach_eq (s:=s) ht hok (λ x hx=>?_) (ZZ hs) (λ _ h=>q9 h),obS,show ZN t.files path s (yH s)=ZS t path s from rfl,sorted_eq (Nat.le_trans hlen (by decide)),obS]
  ·
   unfold wk;rw[if_pos hok]
  ·
   unfold j9;rw[EdgesOf_ok ht hp hok hx];rfl
theorem neq3(st:Stmt):((cmpI .neq st.kind (0:Int)&&cmpI .neq st.kind (2:Int))&&cmpI .neq st.kind (3:Int))=!jI st:=by
 show((!(st.kind == 0)&&!(st.kind == 2))&&!(st.kind == 3))=!((st.kind == 0||st.kind == 2)||st.kind == 3);cases st.kind == 0 <;> cases st.kind == 2 <;> cases st.kind == 3 <;> rfl
theorem simple_s1{f:File}(h:f.body.length<=1000):zL (λ s24=>xv f s24) (0:Int)=some (if f.body.all jI=true then .inl () else .inr (.inr (.inr false))):=by
 have hl:zL (λ s24=>xv f s24) 0=some (if f.body.any (λ st=>!jI st)=true then .inr (.inr (.inr false)) else .inl ()):=by
  refine ZD f.body _ _ _ (λ k x hx hlt=>?_) ?_ (by omega) rfl
  ·
   unfold xv;rw[zI,if_pos (decide_eq_true hlt),zR,hx,obS,neq3,zU (by omega)];cases jI x <;> rfl
  ·
   unfold xv;rw[zI,if_neg (by simp)]
 rw[hl,WR];cases f.body.all jI <;> rfl
theorem IsSimple_eq(ht:wN t)(hp:path.length<=1048576)(hn:sho s):qr t path s=some (JS t path s):=by
 have hlen:=zcr (t:=t) (path:=path) (s:=s);unfold qr;rw[zcw ht hp hn,obS];have hl:zL (λ s6=>wg t path (wk t path s) s6) 0=some (if(wk t path s).any (λ n=>!XO t path n)=true then .inr false else .inl ()):=by
  refine ZD (wk t path s) _ _ _ (λ k x hx hlt=>?_) ?_ (by omega) rfl
  ·
   obtain⟨hxv,hok⟩:=reachL_valid (List.mem_of_getElem? hx);obtain⟨hv,_,_⟩:=qe hok;unfold wg;rw[zI,if_pos (decide_eq_true hlt),zR,hx,obS,zbE ht hp (wo hxv) (okG_name hok hxv),obS,zU (by omega)];unfold XO;cases hf:cmpI .lss (find t.files path x).file 0 with
   | true=>rfl
   |
    false=>
    obtain⟨f,h1,h2,_,_⟩:=ZR hv hxv hf;have hfl:=qD (wu hv h2);rw[ZY h1,atI_some hf h1,if_neg (by decide),obS,simple_s1 (by omega)];cases f.body.all jI <;> rfl
  ·
   unfold wg;rw[zI,if_neg (by simp)]
 rw[hl,WR,zcv ht hp hn];unfold JS;cases hok:okG t path s with
 | true=>cases(wk t path s).all (XO t path) <;> rfl
 |
  false=>
  have:wk t path s=[]:=by unfold wk;rw[hok];rfl
  rw[this];rfl
end
open Go.RowKit
theorem equalTexts_eq{x y:List Str}(h:x.length<=288230376151711744):xN x y=some (decide (x=y)):=by
 unfold xN;refine eqS_list (λ k hk hk2=>?_) ?_ (by omega)
 ·
  unfold wt;simp only[lss_at hk,if_true,atI_at hk,atI_at hk2,obS,zU (show k<4611686018427387904 by omega)];by_cases e:x[k]=y[k] <;> simp[e]
 ·
  unfold wt;rw[lss_end];rfl
theorem zbV{l:List Str}{x:Str}(h:l.length<=1048576):qd l x=some (l.any λ y=>decide (y=x)):=by
 unfold qd YF;have hl:zL (λ s4=>wj l x s4) 0=some (match l.findIdx? (λ y=>decide (y=x)) with | some i=>(Sum.inr (i:Int):Unit⊕Int) | none=>Sum.inl ()):=by
  refine Wx l (λ y=>decide (y=x)) (λ i=>Sum.inr i) _ (λ k y hx hlt=>?_) ?_ (by omega) rfl
  ·
   unfold wj;rw[zI,if_pos (decide_eq_true hlt),zR,hx,obS,zU (by omega)];cases decide (y=x) <;> rfl
  ·
   unfold wj;rw[zI,if_neg (by simp)]
 have e:Option.bind (α:=Unit⊕Int) (zL (λ s4=>wj l x s4) 0) (Sum.elim (λ _=>some (-1)) some)=some (yQ (λ y=>decide (y=x)) l):=by
  rw[hl];unfold yQ;cases l.findIdx? (λ y=>decide (y=x)) <;> rfl
 rw[e,obS,YW]
open Go.RowKit
theorem zbc{l:List Str}{x:Str}(h:l.length<=1048576):qd l x=some (decide (x∈l)):=by
 rw[zbV h,any_mem]
theorem zcx{a b:List Str}(ha:a.length<=1048576)(hb:b.length<=1048576):xw a b=some (a.all λ x=>decide (x∈b)):=by
 unfold xw;have hl:zL (λ s4=>xf a b s4) 0=some (if a.any (λ x=>!decide (x∈b))=true then .inr false else .inl ()):=by
  refine ZD a _ _ _ (λ k x hx hlt=>?_) ?_ (by omega) rfl
  ·
   unfold xf;rw[zI,if_pos (decide_eq_true hlt),zR,hx,obS,zbc hb,obS,zU (by omega)];cases decide (x∈b) <;> rfl
  ·
   unfold xf;rw[zI,if_neg (by simp)]
 rw[hl,WR];cases a.all (λ x=>decide (x∈b)) <;> rfl
theorem within_all{a b:List Str}(ha:a.length<=1048576)(hb:b.length<=1048576)(h:∀ x∈a,x∈b):xw a b=some true:=by
 rw[zcx ha hb]
 congr 1
 rw[List.all_eq_true];exact λ x hx=>decide_eq_true (h x hx)
end Go.Proofs.YtpmkkijamfgaeaaGreatDoor
