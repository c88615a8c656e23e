import Derived.Test.YtobplpdjkfbfoaaGreatDoorRI
import Derived.Test.YtobplpdjkfbfoaaGreatDoorRKc
import Derived.Test.YtobplpdjkfbfoaaGreatDoorRP
namespace Go.Proofs.YtobplpdjkfbfoaaGreatDoor
open Go.RowKit
def Rok(k:Int)(r:Reader):Prop:=r.b.length<=2000/\0<=r.p/\r.p<=k
def Dr{α:Type}(k:Int)(x:Option (Reader×α))(P:α->Prop):Prop:=∃ r v,x=some (r,v)/\Rok k r/\P v
theorem Dr.bind{α β:Type}{k k':Int}{x:Option (Reader×α)}{P:α->Prop}{f:Reader×α->Option (Reader×β)}{Q:β->Prop}(h:Dr k x P)(hf:∀ r v,Rok k r->P v->Dr k' (f (r,v)) Q):Dr k' (x.bind f) Q:=by
 obtain⟨r,v,h1,h2,h3⟩:=h;rw[h1];exact hf r v h2 h3
theorem Dr.pure{α:Type}{k:Int}{r:Reader}{v:α}{P:α->Prop}(h:Rok k r)(hp:P v):Dr k (some (r,v)) P:=⟨r,v,rfl,h,hp⟩
theorem Rok.le{k k':Int}{r:Reader}(h:Rok k r)(hk:k<=k'):Rok k' r:=⟨h.1,h.2.1,Int.le_trans h.2.2 hk⟩
theorem Dr.mono{α:Type}{k k':Int}{x:Option (Reader×α)}{P Q:α->Prop}(h:Dr k x P)(hk:k<=k')(hp:∀ v,P v->Q v):Dr k' x Q:=by
 obtain⟨r,v,h1,h2,h3⟩:=h;exact⟨r,v,h1,h2.le hk,hp v h3⟩
theorem WI{α:Type}{l:List α}{i:Int}(h0:0<=i)(h:i<l.length):∃ x,atI l i=some x/\x∈l:=by
 obtain⟨n,rfl⟩:=Int.eq_ofNat_of_zero_le h0;obtain⟨x,hx,hm⟩:=Xt (l:=l) (k:=n) (by omega);exact⟨x,by rw[zQ,hx],hm⟩
theorem xorI_nn{m n:Int}(hm:0<=m)(hm2:m<4611686018427387904)(hn:0<=n)(hn2:n<4611686018427387904):0<=xorI m n:=by
 obtain⟨a,rfl⟩:=Int.eq_ofNat_of_zero_le hm;obtain⟨b,rfl⟩:=Int.eq_ofNat_of_zero_le hn;have h1:∀ c:Nat,c<4611686018427387904->(BitVec.ofInt 64 (c:Int)).toNat=c:=λ c hc=>by
  rw[BitVec.toNat_ofInt];omega
 have h2:(BitVec.ofInt 64 (a:Int) ^^^ BitVec.ofInt 64 (b:Int)).toNat=a ^^^ b:=by
  rw[BitVec.toNat_xor,h1 a (by omega),h1 b (by omega)]
 have h3:a ^^^ b<2 ^ 62:=Nat.xor_lt_two_pow (by omega) (by omega);have h4:(2:Nat) ^ 62=4611686018427387904:=by decide
 unfold xorI;show 0<=IntKind.i64.wrap ((BitVec.ofInt 64 (a:Int) ^^^ BitVec.ofInt 64 (b:Int)).toNat:Int);rw[h2,wrap_in _ (by omega)];omega
theorem xU{k:Int}{r:Reader}(n:Int)(h:Rok k r)(hk:k<=1000000):Dr (k+1) (zA r n) (λ v=>0<=v/\(1<=n->v<n)):=by
 obtain⟨h1,h2,h3⟩:=h;unfold zA;rw[wL (by omega) (by omega),obS];have hr:Rok (k+1) { r with p:=r.p+1 }:=⟨h1,by show 0<=r.p+1;omega,by show r.p+1<=k+1;omega⟩;cases hc:cmpI .lss n 1||cmpI .eql (r.b.length:Int) 0 with
 |
  true=>
  rw[if_pos rfl];refine .pure hr ⟨Int.le_refl _,λ h=>by omega⟩
 |
  false=>
  rw[Bool.or_eq_false_iff] at hc;have hn:¬ n<1:=of_decide_eq_false hc.1;have hl:¬ (r.b.length:Int)=0:=by simpa[cmpI] using hc.2
  have hres:∀ x:Int,0<=x->Dr (k+1) ((modO x n).bind λ v=>some ({ r with p:=r.p+1 },v)) (λ v=>0<=v/\(1<=n->v<n)):=λ x hx=>by
   rw[modO_of (by omega),obS];exact .pure hr ⟨Int.tmod_nonneg _ hx,λ _=>Int.tmod_lt_of_pos _ (by omega)⟩
  rw[if_neg (by decide),show r.p+1 - 1=r.p by omega,wL (by omega) (by omega),obS];cases hlt:cmpI .lss r.p (r.b.length:Int) with
  |
   true=>
   obtain⟨x,hx,_⟩:=WI h2 (oD hlt);rw[if_pos rfl,hx,obS];exact hres _ (by omega)
  |
   false=>
   have hm:∀ x:Int,0<=x->∃ y,modO x (r.b.length:Int)=some y/\0<=y/\y<(r.b.length:Int):=λ x hx=>⟨_,modO_of (by omega),Int.tmod_nonneg _ hx,Int.tmod_lt_of_pos _ (by omega)⟩
   obtain⟨y1,e1,a1,b1⟩:=hm r.p h2;obtain⟨x1,f1,_⟩:=WI a1 b1;obtain⟨y2,e2,a2,b2⟩:=hm (r.p*7+3) (by omega);obtain⟨x2,f2,_⟩:=WI a2 b2;have u1:=x1.toNat_lt;have u2:=x2.toNat_lt;have hd1:0<=r.p.tdiv (r.b.length:Int):=Int.tdiv_nonneg h2 (by omega);have hd2:r.p.tdiv (r.b.length:Int)<=r.p:=Int.tdiv_le_self _ h2;rw[if_neg (by decide),e1,obS,f1,obS,wL (by omega) (by omega),obS,wL (by omega) (by omega),obS,wL (by omega) (by omega),obS,e2,obS,f2,obS,wL (by omega) (by omega),obS,wL (by omega) (by omega),obS,wL (by omega) (by omega),obS,wL (by omega) (by omega),obS,divO_of (by omega) (by omega) (by omega),obS,wL (by omega) (by omega),obS,wL (by omega) (by omega),obS];generalize hz:(x1.toNat:Int)*131+(x2.toNat:Int)*1117+r.p*29+r.p.tdiv (r.b.length:Int)*53=z;have hz0:0<=z/\z<4611686018427387904:=by omega
   have hz1:0<=z.tdiv 64:=Int.tdiv_nonneg hz0.1 (by omega);have hz2:z.tdiv 64<=z:=Int.tdiv_le_self _ hz0.1;rw[divO_of (by decide) (by omega) (by omega),obS];exact hres _ (xorI_nn hz0.1 hz0.2 hz1 (by omega))
theorem Dr.ite{α:Type}{k:Int}{c:Prop}[Decidable c]{x y:Option (Reader×α)}{P:α->Prop}(h1:c->Dr k x P)(h2:¬ c->Dr k y P):Dr k (if c then x else y) P:=by
 split
 ·
  exact h1 (by assumption)
 ·
  exact h2 (by assumption)
theorem Dr.any{α γ:Type}{k:Int}{x:Option γ}{f:γ->Option (Reader×α)}{P:α->Prop}(hx:∃ o,x=some o)(hf:∀ o,Dr k (f o) P):Dr k (x.bind f) P:=by
 obtain⟨o,rfl⟩:=hx;exact hf o
theorem Dr.some{α γ:Type}{k:Int}{x:Option γ}{o:γ}{f:γ->Option (Reader×α)}{P:α->Prop}(hx:x=some o)(hf:Dr k (f o) P):Dr k (x.bind f) P:=by
 rw[hx];exact hf
theorem Jt{k:Int}{r:Reader}{l:List Int}(P:Int->Prop)(h:Rok k r)(hk:k<=1000000)(h0:0<l.length)(hP:∀ x∈l,P x):Dr (k+1) (ya r l) P:=by
 unfold ya;refine .bind (xU _ h hk) λ r1 v h1 hv=>?_
 obtain⟨x,hx,hm⟩:=WI hv.1 (hv.2 (by omega));exact .some hx (.pure h1 (hP x hm))
theorem of_ok{k:Int}{r:Reader}{l:List Str}(P:Str->Prop)(h:Rok k r)(hk:k<=1000000)(h0:0<l.length)(hP:∀ x∈l,P x):Dr (k+1) (xF r l) P:=by
 unfold xF;refine .bind (xU _ h hk) λ r1 v h1 hv=>?_
 obtain⟨x,hx,hm⟩:=WI hv.1 (hv.2 (by omega));exact .some hx (.pure h1 (hP x hm))
theorem Zs{k:Int}{r:Reader}(h:Rok k r)(hk:k<=1000000):Dr (k+1) (yN r) (λ s=>s.l.length<=1):=by
 unfold yN;refine .bind (of_ok (λ s=>s.l.length<=1) h hk (by decide) (by decide)) λ r1 v h1 hv=>.pure h1 hv
theorem JF{σ:Type}{step:Reader×σ×Int->Option ((Reader×σ×Int)⊕(Reader×σ))}(K:Nat->Int)(P:Nat->σ->Prop)(m:Nat)(hK:∀ i j,i<=j->K i<=K j)
  (h:∀ j r x n,j<m->Rok (K j) r->P j x->0<n->n+(j:Int)<=m->∃ r' x',step (r,x,n)=some (.inl (r',x',n - 1))/\Rok (K (j+1)) r'/\P (j+1) x')
  (hend:∀ r x n,n<=0->step (r,x,n)=some (.inr (r,x))) (hm:m<=1000) {r:Reader} {x:σ} {n:Int} (h0:Rok (K 0) r) (hx:P 0 x) (hn:n<=m):Dr (K m) (zF step (r,x,n)) (λ y=>∃ j,j<=m/\P j y):=by
 have key:∀ q j r x n,j+q=m->Rok (K j) r->P j x->n<=(q:Int)->∃ r' y,js step (q+1) (r,x,n)=some (r',y)/\Rok (K m) r'/\∃ j',j'<=m/\P j' y:=by
  intro q
  induction q with
  | zero=>intro j r x n hj hr hx hn;exact⟨r,x,yQ (hend r x n (by omega)),hr.le (hK _ _ (by omega)),j,by omega,hx⟩
  |
   succ q ih=>
   intro j r x n hj hr hx hn;by_cases hn0:n<=0
   ·
    exact⟨r,x,yQ (hend r x n hn0),hr.le (hK _ _ (by omega)),j,by omega,hx⟩
   ·
    obtain⟨r',x',h1,h2,h3⟩:=h j r x n (by omega) hr hx (by omega) (by omega);rw[qj h1];exact ih (j+1) r' x' (n - 1) (by omega) h2 h3 (by omega)
 obtain⟨r',y,h1,h2,h3⟩:=key m 0 r x n (by omega) h0 hx hn;exact⟨r',y,jK h1 (by omega),h2,h3⟩
theorem Q9{k:Int}{r:Reader}(h:Rok k r)(hk:k<=900000):Dr (k+10) (jJ r) (λ s=>s.l.length<=8):=by
 unfold jJ;refine .bind (Zs h (by omega)) λ r1 s h1 hs=>?_
 refine .bind (k:=k+10) (P:=λ s=>s.l.length<=8) ?_ λ r3 s3 h3 hs3=>.pure h3 hs3
 refine .bind (Jt (λ n=>n<=2) h1 (by omega) (by decide) (by decide)) λ r2 n h2 hn=>?_
 refine(JF (λ j=>k+2+j) (λ j (s:Str)=>s.l.length<=1+2*j) 2 (λ i j hij=>by omega) (λ j r x n hj hr hx hn hb=>?_) (λ r x n hn=>?_) (by omega) (h2.le (by show k+1+1<=k+2+((0:Nat):Int);omega)) (by show s.l.length<=1+2*0;omega) (by exact hn)).mono (by show k+2+((2:Nat):Int)<=k+10;omega) (λ y ⟨j,hj,hy⟩=>by omega)
 ·
  obtain⟨r',v,e1,e2,e3⟩:=Zs hr (by omega);have e3':v.l.length<=1:=e3;refine⟨r',⟨(x.l++[46])++v.l⟩,?_,e2.le (by show k+2+(j:Int)+1<=k+2+((j+1:Nat):Int);omega),?_⟩
  ·
   unfold qy;dsimp only;rw[if_pos (by simp[cmpI];omega),Yq (by show x.l.length+1<=_;omega),obS,e1,obS,Yq (by rw[List.length_append];show x.l.length+1+v.l.length<=_;omega),obS,wL (by omega) (by omega),obS]
  ·
   show(x.l++[46]++v.l).length<=_;simp only[List.length_append,List.length_singleton];omega
 ·
  unfold qy;dsimp only;rw[if_neg (by simp[cmpI];omega)]
theorem Dr.step{α β:Type}{k:Int}{x:Option (Reader×α)}{P:α->Prop}{f:Reader×α->Option β}{Q:β->Prop}(hx:Dr k x P)(hf:∀ r v,Rok k r->P v->∃ y,f (r,v)=Option.some y/\Q y):∃ y,x.bind f=Option.some y/\Q y:=by
 obtain⟨r,v,h1,h2,h3⟩:=hx;rw[h1];exact hf r v h2 h3
theorem zbT{k:Int}{r:Reader}(h:Rok k r)(hk:k<=900000):Dr (k+12) (qV r) (λ s=>s.l.length<=16):=by
 unfold qV;refine .bind (Q9 h hk) λ r1 s h1 hs=>.bind (xU 20 h1 (by omega)) λ r2 v h2 _=>?_
 have hs':s.l.length<=8:=hs;refine .ite (λ _=>.some (Yq (m:=s) (by show s.l.length+1<=_;omega)) (.pure (h2.le (by omega)) (by show(s.l++[46]).length<=16;rw[List.length_append];show s.l.length+1<=16;omega))) λ _=>?_
 exact .ite (λ _=>.bind (of_ok (λ s=>s.l.length<=16) h2 (by omega) (by decide) (by decide)) λ r3 v h3 hv=>.pure (h3.le (by omega)) hv) λ _=>.pure (h2.le (by omega)) (by show s.l.length<=16;omega)
def smS(s:Stmt):Prop:=s.module.l.length<=16/\s.name.l.length<=16
theorem someStmt_ok{k:Int}{r:Reader}(h:Rok k r)(hk:k<=800000):Dr (k+30) (qz r) smS:=by
 unfold qz;refine .bind (xU 9 h (by omega)) λ r1 v1 h1 _=>?_
 refine .any (by split <;> exact⟨_,rfl⟩) λ o7=>?_
 refine .ite (λ _=>.bind (Q9 h1 (by omega)) λ r2 s h2 hs=>.pure (h2.le (by omega)) ⟨Nat.le_trans hs (by decide),Nat.zero_le _⟩) λ _=>?_
 refine .ite (λ _=>?_) λ _=>?_
 ·
  refine .bind (Jt (λ _=>True) h1 (by omega) (by decide) (λ _ _=>trivial)) λ r2 n h2 _=>.bind (Q9 h2 (by omega)) λ r3 s h3 hs=>?_
  refine .bind (k:=k+13) (P:=λ s=>s.l.length<=16) ?_ λ r4 m h4 hm=>.bind (Zs h4 (by omega)) λ r5 q h5 hq=>.pure (h5.le (by omega)) ⟨hm,Nat.le_trans hq (by decide)⟩
  dsimp only;cases cmpI .gtr n 0 with
  |
   true=>
   refine .bind (xU 2 h3 (by omega)) λ r4 v h4 _=>.ite (λ _=>.pure (h4.le (by omega)) (Nat.zero_le _)) λ _=>.pure (h4.le (by omega)) (Nat.le_trans hs (by decide))
  | false=>exact .pure (h3.le (by omega)) (Nat.le_trans hs (by decide))
 refine .ite (λ _=>.bind (Q9 h1 (by omega)) λ r2 s h2 hs=>.pure (h2.le (by omega)) ⟨Nat.le_trans hs (by decide),Nat.zero_le _⟩) λ _=>?_
 refine .any (by split;exact⟨_,rfl⟩;split <;> exact⟨_,rfl⟩) λ o62=>?_
 refine .ite (λ _=>.bind (of_ok (λ s=>s.l.length<=16) h1 (by omega) (by decide) (by decide)) λ r2 s h2 hs=>.bind (xU 100 h2 (by omega)) λ r3 v h3 _=>.pure (h3.le (by omega)) ⟨Nat.zero_le _,hs⟩) λ _=>?_
 refine .ite (λ _=>.bind (of_ok (λ s=>s.l.length<=16) h1 (by omega) (by decide) (by decide)) λ r2 s h2 hs=>.pure (h2.le (by omega)) ⟨Nat.zero_le _,hs⟩) λ _=>?_
 refine .bind (xU 3 h1 (by omega)) λ r2 v h2 _=>.ite (λ _=>.pure (h2.le (by omega)) ⟨Nat.zero_le _,Nat.zero_le _⟩) λ _=>.bind (xU 100 h2 (by omega)) λ r3 v h3 _=>.pure (h3.le (by omega)) ⟨Nat.zero_le _,(by show 1<=16;omega)⟩
def smB(n:Nat)(b:List Stmt):Prop:=b.length<=n/\∀ s∈b,smS s
theorem smB.app{n:Nat}{b:List Stmt}{s:Stmt}(h:smB n b)(hs:smS s):smB (n+1) (b++[s]):=⟨by have:=h.1;simp;omega,λ x hx=>(List.mem_append.1 hx).elim (h.2 x) λ hx=>by rw[List.mem_singleton.1 hx];exact hs⟩
theorem smB.le{n m:Nat}{b:List Stmt}(h:smB n b)(hm:n<=m):smB m b:=⟨Nat.le_trans h.1 hm,h.2⟩
theorem someBody_ok{k:Int}{r:Reader}(h:Rok k r)(hk:k<=700000):Dr (k+170) (qA r) (smB 4):=by
 unfold qA;refine .bind (xU 2 h (by omega)) λ r1 v1 h1 _=>?_
 refine .bind (k:=k+170) (P:=smB 4) ?_ λ r3 s3 h3 hs3=>.pure h3 hs3
 refine .bind (Jt (λ n=>n<=4) h1 (by omega) (by decide) (by decide)) λ r2 n h2 hn=>?_
 refine(JF (λ j=>k+2+40*j) (λ j x=>smB j x) 4 (λ i j hij=>by omega) (λ j r x n hj hr hx hn hb=>?_) (λ r x n hn=>?_) (by omega) (h2.le (by show k+1+1<=k+2+40*((0:Nat):Int);omega)) ⟨Nat.le_refl _,λ s hs=>by cases hs⟩ (by exact hn)).mono (by show k+2+40*((4:Nat):Int)<=k+170;omega) (λ y ⟨j,hj,hy⟩=>hy.le hj)
 ·
  have key:∃ y,wt (r1,v1) (r,x,n)=Option.some y/\∃ r' x',y=.inl (r',x',n - 1)/\Rok (k+2+40*((j+1:Nat):Int)) r'/\smB (j+1) x':=by
   unfold wt;rw[if_pos (by simp[cmpI];omega)];refine Dr.step (someStmt_ok hr (by omega)) λ r3 s h3 hs=>?_
   refine Dr.step (k:=k+2+40*j+31) (P:=smS) (.ite (λ _=>.bind (xU 100 h3 (by omega)) λ r4 v h4 _=>.pure (h4.le (by omega)) ⟨Nat.zero_le _,(by show 1<=16;omega)⟩) λ _=>.pure (h3.le (by omega)) hs) λ r4 s2 h4 hs2=>?_
   have hl:=hx.1;refine⟨_,by dsimp only;rw[xd (by simp;omega) (by simp;omega),obS,wL (by omega) (by omega),obS],r4,_,rfl,h4.le (by omega),hx.app hs2⟩
  obtain⟨y,e,r',x',rfl,e2,e3⟩:=key;exact⟨r',x',e,e2,e3⟩
 ·
  unfold wt;dsimp only;rw[if_neg (by simp[cmpI];omega)]
def smF(n:Nat)(f:File):Prop:=f.pkg.l.length<=16/\f.name.l.length<=16/\smB n f.body
theorem someFile_ok{k:Int}{r:Reader}(h:Rok k r)(hk:k<=600000):Dr (k+200) (qC r) (smF 4):=by
 unfold qC;refine .bind (Jt (λ _=>True) h (by omega) (by decide) (λ _ _=>trivial)) λ r1 v1 h1 _=>.bind (xU 100 h1 (by omega)) λ r2 v2 h2 _=>.bind (someBody_ok h2 (by omega)) λ r3 b h3 hb=>?_
 refine .bind (k:=k+200) (P:=smF 4) ?_ λ r4 f h4 hf=>.pure h4 hf
 refine .bind (xU 6 h3 (by omega)) λ r4 v4 h4 _=>?_
 refine .any (by split <;> exact⟨_,rfl⟩) λ o30=>?_
 refine .ite (λ _=>.bind (Zs h4 (by omega)) λ r5 s h5 hs=>.pure (h5.le (by omega)) ⟨Nat.zero_le _,Nat.le_trans hs (by decide),hb⟩) λ _=>?_
 refine .any (by split <;> exact⟨_,rfl⟩) λ o51=>?_
 refine .ite (λ _=>.bind (Zs h4 (by omega)) λ r5 s h5 hs=>.bind (Zs h5 (by omega)) λ r6 s2 h6 hs2=>.pure (h6.le (by omega)) ⟨Nat.le_trans hs (by decide),Nat.le_trans hs2 (by decide),hb⟩) λ _=>?_
 refine .ite (λ _=>.bind (Zs h4 (by omega)) λ r5 s h5 hs=>.pure (h5.le (by omega)) ⟨Nat.le_trans hs (by decide),Nat.zero_le _,hb⟩) λ _=>?_
 refine .bind (Zs h4 (by omega)) λ r5 s h5 hs=>?_
 have hs':s.l.length<=1:=hs;refine .some (Yq (m:=s) (by show s.l.length+1<=_;omega)) (.bind (Zs h5 (by omega)) λ r6 s2 h6 hs2=>?_);have hs2':s2.l.length<=1:=hs2;have hlen:(s.l++[46]++s2.l).length<=16:=by simp only[List.length_append,List.length_singleton];omega
 refine .some (Yq (by simp only[List.length_append];show s.l.length+1+s2.l.length<=_;omega)) (.bind (xU 2 h6 (by omega)) λ r7 v7 h7 _=>?_);exact .ite (λ _=>.pure (h7.le (by omega)) ⟨hlen,Nat.zero_le _,hb⟩) λ _=>.bind (Zs h7 (by omega)) λ r8 s3 h8 hs3=>.pure (h8.le (by omega)) ⟨hlen,Nat.le_trans hs3 (by decide),hb⟩
def smT(n m:Nat)(t:Tree):Prop:=t.files.length<=n/\∀ f∈t.files,smF m f
theorem smF.le{n m:Nat}{f:File}(h:smF n f)(hm:n<=m):smF m f:=⟨h.1,h.2.1,h.2.2.le hm⟩
theorem smT.le{n m n' m':Nat}{t:Tree}(h:smT n m t)(hn:n<=n')(hm:m<=m'):smT n' m' t:=⟨Nat.le_trans h.1 hn,λ f hf=>(h.2 f hf).le hm⟩
theorem smT.app{n m:Nat}{t:Tree}{f:File}(h:smT n m t)(hf:smF m f):smT (n+1) m ⟨t.files++[f]⟩:=⟨by have:=h.1;simp;omega,λ x hx=>(List.mem_append.1 hx).elim (h.2 x) λ hx=>by rw[List.mem_singleton.1 hx];exact hf⟩
theorem smT.set{n m i:Nat}{t:Tree}{f:File}(h:smT n m t)(hf:smF m f):smT n m ⟨t.files.set i f⟩:=⟨by have:=h.1;simp;omega,λ x hx=>(List.mem_or_eq_of_mem_set hx).elim (h.2 x) λ hx=>by rw[hx];exact hf⟩
theorem someTree_ok{k:Int}{r:Reader}(h:Rok k r)(hk:k<=500000):Dr (k+2100) (qD r) (smT 10 4):=by
 unfold qD;refine .bind (k:=k+2100) (P:=smT 10 4) ?_ λ r3 s3 h3 hs3=>.pure h3 hs3
 refine .bind (Jt (λ n=>n<=10) h (by omega) (by decide) (by decide)) λ r2 n h2 hn=>?_
 refine(JF (λ j=>k+1+200*j) (λ j x=>smT j 4 x) 10 (λ i j hij=>by omega) (λ j r x n hj hr hx hn hb=>?_) (λ r x n hn=>?_) (by omega) (h2.le (by show k+1<=k+1+200*((0:Nat):Int);omega)) ⟨Nat.le_refl _,λ s hs=>by cases hs⟩ (by exact hn)).mono (by show k+1+200*((10:Nat):Int)<=k+2100;omega) (λ y ⟨j,hj,hy⟩=>hy.le hj (Nat.le_refl _))
 ·
  have key:∃ y,wu (r,x,n)=Option.some y/\∃ r' x',y=.inl (r',x',n - 1)/\Rok (k+1+200*((j+1:Nat):Int)) r'/\smT (j+1) 4 x':=by
   unfold wu;rw[if_pos (by simp[cmpI];omega)];have hl:=hx.1;refine Dr.step (k:=k+1+200*j+200) (P:=smT (j+1) 4) ?_ λ r4 t h4 ht=>?_
   ·
    refine .bind (someFile_ok hr (by omega)) λ r3 f h3 hf=>.some (if_pos trivial) (.ite (λ _=>?_) λ _=>.pure h3 (hx.le (by omega) (Nat.le_refl _)))
    exact .some (xd (by simp;omega) (by simp;omega)) (.pure h3 (hx.app hf))
   ·
    exact⟨_,by dsimp only;rw[wL (by omega) (by omega),obS],r4,t,rfl,h4.le (by omega),ht⟩
  obtain⟨y,e,r',x',rfl,e2,e3⟩:=key;exact⟨r',x',e,e2,e3⟩
 ·
  unfold wu;dsimp only;rw[if_neg (by simp[cmpI];omega)]
theorem anyTree_ok{k:Int}{r:Reader}(h:Rok k r)(hk:k<=400000):Dr (k+2200) (qX r) (smT 11 5):=by
 unfold qX;refine .bind (someTree_ok h (by omega)) λ r1 t h1 ht=>?_
 have ht5:smT 11 5 t:=ht.le (by omega) (by omega);refine .bind (k:=k+2200) (P:=smT 11 5) ?_ λ r4 f h4 hf=>.pure h4 hf
 refine .ite (λ hpos=>?_) λ _=>.pure (h1.le (by omega)) ht5
 have hpos':0<(t.files.length:Int):=oD hpos;obtain⟨f,hf,hm⟩:=WI (l:=t.files) (i:=0) (Int.le_refl _) hpos';have hsf:=ht.2 f hm;have hl:=ht.1;refine .bind (xU 24 h1 (by omega)) λ r2 v2 h2 _=>?_
 refine .ite (λ _=>.some hf (.some (xd (by simp;omega) (by simp;omega)) (.pure (h2.le (by omega)) ((ht.app hsf).le (by omega) (by omega))))) λ _=>?_
 refine .ite (λ _=>.bind (Jt (λ _=>True) h2 (by omega) (by decide) (λ _ _=>trivial)) λ r3 v3 h3 _=>.some hf (.pure (h3.le (by omega)) (ht5.set ⟨hsf.1,hsf.2.1,hsf.2.2.le (by omega)⟩))) λ _=>?_
 refine .ite (λ _=>.bind (Jt (λ _=>True) h2 (by omega) (by decide) (λ _ _=>trivial)) λ r3 v3 h3 _=>.some hf (.pure (h3.le (by omega)) (ht5.set ⟨hsf.1,hsf.2.1,hsf.2.2.le (by omega)⟩))) λ _=>?_
 refine .ite (λ _=>?_) λ _=>.pure (h2.le (by omega)) ht5
 have hbl:=hsf.2.2.1;exact .some hf (.some (xd (by simp;omega) (by simp;omega)) (.some hf (.pure (h2.le (by omega)) (ht5.set ⟨hsf.1,hsf.2.1,hsf.2.2.app ⟨Nat.zero_le _,Nat.zero_le _⟩⟩))))
theorem somePath_ok{k:Int}{r:Reader}(h:Rok k r)(hk:k<=900000):Dr (k+1) (qB r) (λ p=>p.length<=3):=by
 unfold qB;refine .bind (xU 8 h (by omega)) λ r2 v2 h2 _=>?_
 have d:∀ {l:List Int} {c:Prop} [Decidable c] {y:Option (Reader×List Int)},l.length<=3->Dr (k+1) y (λ p=>p.length<=3)->Dr (k+1) (if c then some (r2,l) else y) (λ p=>p.length<=3):=λ hl hy=>.ite (λ _=>.pure h2 hl) λ _=>hy
 exact d (by decide) (d (by decide) (d (by decide) (d (by decide) (d (by decide) (.pure h2 (by decide))))))
theorem anyPath_ok{k:Int}{r:Reader}(h:Rok k r)(hk:k<=800000):Dr (k+2) (qW r) (λ p=>p.length<=3):=by
 unfold qW;refine .bind (xU 20 h (by omega)) λ r2 v2 h2 _=>.ite (λ _=>?_) λ _=>.bind (somePath_ok h2 (by omega)) λ r3 p h3 hp=>.pure (h3.le (by omega)) hp
 refine .bind (xU 3 h2 (by omega)) λ r3 v3 h3 hv=>?_
 obtain⟨x,hx,hm⟩:=WI (l:=([[],[0,0],[3]]:List (List Int))) hv.1 (hv.2 (by decide));exact .some hx (.pure (h3.le (by omega)) ((by decide:∀ x∈([[],[0,0],[3]]:List (List Int)),x.length<=3) x hm))
theorem zaa(c:List UInt8):∃ r,jd c=some r/\Rok 0 r:=by
 unfold jd;by_cases h:(c.length:Int) > 2000
 ·
  rw[if_pos (by simpa[cmpI] using h),show(2000:Int)=((2000:Nat):Int) from rfl,JB (by omega),obS,obS];exact⟨_,rfl,by show(c.take 2000).length<=2000;simp;omega,Int.le_refl _,Int.le_refl _⟩
 ·
  rw[if_neg (by simpa[cmpI] using h),obS];exact⟨_,rfl,by show c.length<=2000;omega,Int.le_refl _,Int.le_refl _⟩
theorem smT.sm{t:Tree}(h:smT 11 5 t):y6 t:=by
 refine⟨by have:=h.1;omega,λ f hf=>?_⟩;obtain⟨h1,h2,h3,h4⟩:=h.2 f hf;exact⟨by omega,by omega,by omega,λ s hs=>⟨by have:=(h4 s hs).1;omega,by have:=(h4 s hs).2;omega⟩⟩
theorem za1{f:File}{n:Nat}(h:smF n f):(xx f).l.length<=64:=by
 obtain⟨h1,h2,_⟩:=h;unfold xx child;split
 ·
  omega
 ·
  split
  ·
   omega
  ·
   simp only[List.length_append,List.length_singleton];omega
theorem nameOf_ok{k:Int}{r:Reader}(h:Rok k r)(hk:k<=300000):Dr (k+2300) (Zp r) (λ v=>smT 11 5 v.1/\v.2.1.length<=3/\v.2.2.l.length<=64):=by
 unfold Zp;refine .bind (anyTree_ok h (by omega)) λ r1 t h1 ht=>.bind (anyPath_ok h1 (by omega)) λ r2 q h2 hq=>?_
 dsimp only;cases hc:cmpI .gtr (t.files.length:Int) 0 with
 |
  false=>
  rw[show((false:Bool) == true)=false from rfl,gO_false,obS];refine .ite (λ h=>by simp at h) λ _=>?_
  rw[if_neg (by decide)];exact .bind (zbT h2 (by omega)) λ r3 s h3 hs=>.pure (h3.le (by omega)) ⟨ht,hq,Nat.le_trans hs (by decide)⟩
 |
  true=>
  have hl:0<(t.files.length:Int):=oD hc;rw[show((true:Bool) == true)=true from rfl,wF];refine .bind (xU 4 h2 (by omega)) λ r3 v h3 _=>?_
  rw[if_pos rfl];refine .ite (λ _=>?_) λ _=>.bind (zbT h3 (by omega)) λ r4 s h4 hs=>.pure (h4.le (by omega)) ⟨ht,hq,Nat.le_trans hs (by decide)⟩
  refine .bind (xU _ h3 (by omega)) λ r4 i h4 hi=>?_
  obtain⟨f,hf,hm⟩:=WI (l:=t.files) hi.1 (hi.2 (by omega));exact .some hf (.some (if_pos (ht.sm.2 f hm)) (.pure (h4.le (by omega)) ⟨ht,hq,za1 (ht.2 f hm)⟩))
def smC(n:Nat)(l:List GCmd):Prop:=l.length<=n/\∀ x∈l,x.name.l.length<=64
theorem smC.app{n:Nat}{b:List GCmd}{s:GCmd}(h:smC n b)(hs:s.name.l.length<=64):smC (n+1) (b++[s]):=⟨by have:=h.1;simp;omega,λ x hx=>(List.mem_append.1 hx).elim (h.2 x) λ hx=>by rw[List.mem_singleton.1 hx];exact hs⟩
theorem smC.le{n m:Nat}{b:List GCmd}(h:smC n b)(hm:n<=m):smC m b:=⟨Nat.le_trans h.1 hm,h.2⟩
theorem smB.one{s:Stmt}(h:smS s):smB 1 [s]:=⟨Nat.le_refl _,λ x hx=>by rw[List.mem_singleton.1 hx];exact h⟩
theorem plainS1{k i n:Int}{r0 r:Reader}{t:Tree}{x:List Stmt}{j:Nat}(ht:smT 11 5 t)(h:Rok k r)(hk:k<=300000)(hi:0<i)(hil:i<=t.files.length)(hn:0<n)(hn2:n<=1000)(hj:j<=100)(hx:smB (j+1) x):∃ r' x',yO (r0,t,i) (r,x,n)=some (.inl (r',x',n - 1))/\Rok (k+3) r'/\smB (j+2) x':=by
 have key:∃ y,yO (r0,t,i) (r,x,n)=Option.some y/\∃ r' x',y=.inl (r',x',n - 1)/\Rok (k+3) r'/\smB (j+2) x':=by
  unfold yO;dsimp only;rw[if_pos (by simp[cmpI];omega)];refine Dr.step (k:=k+3) (P:=smB (j+2)) ?_ λ r4 x4 h4 hx4=>⟨_,by dsimp only;rw[wL (by omega) (by omega),obS],r4,x4,rfl,h4,hx4⟩
  refine .bind (xU i h (by omega)) λ r1 v h1 hv=>?_
  have hvi:=hv.2 (by omega);obtain⟨f,hf,hm⟩:=WI (l:=t.files) hv.1 (by omega);have hml:=za1 (ht.2 f hm);have hmid:mid (xx f):=by unfold mid;omega
  have hxl:=hx.1;refine .some hf (.some (if_pos (ht.sm.2 f hm)) (.some (if_pos hmid) ?_));have hone:∀ {r2:Reader},Rok (k+2) r2->zg (xx f)=true->Dr (k+3) ((ya r2 ([(0:Int),(0:Int),(2:Int)]:List Int)).bind λ v110=>(appO 56 x ([(⟨v110.2,xx f,0,⟨[]⟩,0⟩:Stmt)]:List Stmt)).bind λ v118=>Option.some (v110.1,v118)) (smB (j+2)):=λ h2 hval=>
   .bind (Jt (λ _=>True) h2 (by omega) (by decide) (λ _ _=>trivial)) λ r3 a h3 _=>.some (xd (by simp;omega) (by simp;omega)) (.pure (h3.le (by omega)) (hx.app ⟨by have:=wV hval;show(xx f).l.length<=16;omega,Nat.zero_le _⟩))
  cases hval:zg (xx f) with
  | false=>exact .any ⟨_,rfl⟩ λ o=>.any ⟨_,rfl⟩ λ o2=>.ite (λ _=>by rw[if_neg (by simp)];exact .pure (h1.le (by omega)) (hx.le (by omega))) λ h=>absurd rfl h
  |
   true=>
   rw[show((!true:Bool) == false)=true from rfl,wF];refine .some (if_pos hmid) ?_;cases hd:decide (zC (xx f)≠(⟨[]⟩:Str)) with
   |
    false=>
    refine .any ⟨_,rfl⟩ λ o=>.ite (λ h=>by simp at h) λ _=>?_
    rw[if_neg (by simp)];exact hone (h1.le (by omega)) hval
   |
    true=>
    rw[show((true:Bool)&&((true:Bool) == true))=true from rfl,wF];refine .bind (xU 2 h1 (by omega)) λ r2 v2 h2 _=>?_
    rw[if_pos rfl];exact .ite (λ _=>.pure (h2.le (by omega)) (hx.le (by omega))) λ _=>hone (h2.le (by omega)) hval
 obtain⟨y,e,r',x',rfl,e2,e3⟩:=key;exact⟨r',x',e,e2,e3⟩
theorem plainL1{k i n:Int}{r0 r:Reader}{t:Tree}{s:Stmt}(ht:smT 11 5 t)(h:Rok k r)(hk:k<=200000)(_hi:0<=i)(hil:i<=t.files.length)(hn:n<=2)(hs:smS s):Dr (k+6) (zF (λ s58=>yO (r0,t,i) s58) (r,[s],n)) (smB 3):=by
 have hend:∀ (r:Reader) (x:List Stmt) (n:Int),n<=0\/i<=0->yO (r0,t,i) (r,x,n)=some (.inr (r,x)):=λ r x n hn=>by
  unfold yO;dsimp only;rw[if_neg (by simp[cmpI];omega)]
 by_cases hi0:i<=0
 ·
  exact⟨r,[s],jK (m:=1) (yQ (hend r [s] n (.inr hi0))) (by omega),h.le (by omega),(smB.one hs).le (by omega)⟩
 ·
  refine(JF (λ j=>k+3*j) (λ j x=>smB (j+1) x) 2 (λ i j hij=>by omega) (λ j r x n hj hr hx hn hb=>?_) (λ r x n hn=>hend r x n (.inl hn)) (by omega) (h.le (by show k<=k+3*((0:Nat):Int);omega)) (smB.one hs) (by exact hn)).mono (by show k+3*((2:Nat):Int)<=k+6;omega) (λ y ⟨j,hj,hy⟩=>hy.le (by omega));obtain⟨r',x',e,e2,e3⟩:=plainS1 (r0:=r0) ht hr (by omega) (by omega) hil hn (by omega) (by omega) hx;exact⟨r',x',e,e2.le (by show k+3*(j:Int)+3<=k+3*((j+1:Nat):Int);omega),e3⟩
theorem plainL0{t0:Tree}(h0:smT 11 5 t0){k:Int}(hk:k<=100000){r:Reader}(h:Rok k r):Dr (k+110) (zF (λ s35=>xm s35) (r,t0,(0:Int))) (smT 11 5):=by
 have hlen0:=h0.1;have key:∀ q j (r:Reader) (t:Tree),j+q=t.files.length->t.files.length<=11->Rok (k+10*j) r->smT 11 5 t->∃ r' y,js (λ s35=>xm s35) (q+1) (r,t,(j:Int))=some (r',y)/\Rok (k+110) r'/\smT 11 5 y:=by
  intro q
  induction q with
  |
   zero=>
   intro j r t hj hl hr ht;refine⟨r,t,yQ ?_,hr.le (by omega),ht⟩;unfold xm;dsimp only;rw[zz,if_neg (by simp;omega)]
  |
   succ q ih=>
   intro j r t hj hl hr ht;obtain⟨f,hf,hm⟩:=Xt (l:=t.files) (k:=j) (by omega);have key2:∃ y,xm (r,t,(j:Int))=Option.some y/\∃ r' t',y=.inl (r',t',((j+1:Nat):Int))/\Rok (k+10*((j+1:Nat):Int)) r'/\smT 11 5 t'/\t'.files.length=t.files.length:=by
    unfold xm;dsimp only;rw[zz,if_pos (decide_eq_true (by omega))];refine Dr.step (k:=k+10*j+9) (P:=λ t'=>smT 11 5 t'/\t'.files.length=t.files.length) ?_ λ r4 t4 h4 ht4=>⟨_,by dsimp only;rw[zM (by omega),obS],r4,t4,rfl,h4.le (by omega),ht4.1,ht4.2⟩
    refine .bind (k:=k+10*j+8) (P:=smB 3) ?_ λ r3 b h3 hb=>?_
    ·
     refine .bind (xU 3 hr (by omega)) λ r1 v h1 hv=>?_
     have hv3:=hv.2 (by omega);exact(plainL1 (k:=k+10*j+1) ht h1 (by omega) (by omega) (by omega) (by omega) ⟨Nat.zero_le _,by show 1<=16;omega⟩).mono (by omega) λ _ h=>h
    ·
     refine .some (x:=atI t.files (j:Int)) (by rw[zQ];exact hf) (.pure (h3.le (by omega)) ⟨ht.set ⟨(ht.2 f hm).1,(ht.2 f hm).2.1,hb.le (by omega)⟩,?_⟩);show(t.files.set _ _).length=_;rw[List.length_set]
   obtain⟨y,e,r',t',rfl,e2,e3,e4⟩:=key2;rw[qj e];exact ih (j+1) r' t' (by omega) (by omega) e2 e3
 obtain⟨r',y,e,e2,e3⟩:=key t0.files.length 0 r t0 (by omega) hlen0 (h.le (by omega)) h0;exact⟨r',y,jK e (by omega),e2,e3⟩
theorem zbU{k:Int}{r:Reader}(h:Rok k r)(hk:k<=50000):Dr (k+2500) (qh r) (λ v=>smT 11 5 v.1/\v.2.1.length<=3/\v.2.2.l.length<=64):=by
 unfold qh;refine .bind (nameOf_ok h (by omega)) λ r1 v h1 hv=>.bind (xU 3 h1 (by omega)) λ r2 p h2 _=>?_
 obtain⟨t,q,s⟩:=v;refine .ite (λ _=>.pure (h2.le (by omega)) hv) λ _=>?_
 exact .bind (plainL0 hv.1 (by omega) h2) λ r3 t3 h3 ht3=>.pure (h3.le (by omega)) ⟨ht3,hv.2⟩
theorem zbg(c:List UInt8):∃ t path s,wP c=some (t,path,s)/\smT 11 5 t/\path.length<=3/\s.l.length<=64:=by
 obtain⟨r,h1,h2⟩:=zaa c;obtain⟨r1,⟨t,q,s⟩,e1,k1,p1,p2,p3⟩:=zbU h2 (by omega);refine⟨t,q,s,?_,p1,p2,p3⟩;unfold wP;rw[h1,obS,e1,obS]
theorem zab(c:List UInt8):∃ t path s,wl c=some (t,path,s)/\smT 11 5 t/\path.length<=3/\s.l.length<=64:=by
 obtain⟨r,h1,h2⟩:=zaa c;obtain⟨r1,⟨t,q,s⟩,e1,k1,p1,p2,p3⟩:=zbU h2 (by omega);refine⟨t,q,s,?_,p1,p2,p3⟩;unfold wl;rw[h1,obS,e1,obS]
open Go.RowKit
theorem J0{x y:List Str}(h:x.length<=288230376151711744):xl x y=some (decide (x=y)):=by
 unfold xl;refine eqS_list (λ k hk hk2=>?_) ?_ (by omega)
 ·
  unfold wz;simp only[lss_at hk,if_true,atI_at hk,atI_at hk2,obS,zM (show k<4611686018427387904 by omega)];by_cases e:x[k]=y[k] <;> simp[e]
 ·
  unfold wz;rw[lss_end];rfl
theorem zbh{l:List Str}{x:Str}(h:l.length<=1048576):jq l x=some (l.any λ y=>decide (y=x)):=by
 unfold jq wU;have hl:zF (λ s4=>yF l x s4) 0=some (match l.findIdx? (λ y=>decide (y=x)) with | some i=>(Sum.inr (i:Int):Unit⊕Int) | none=>Sum.inl ()):=by
  refine Wf l (λ y=>decide (y=x)) (λ i=>Sum.inr i) _ (λ k y hx hlt=>?_) ?_ (by omega) rfl
  ·
   unfold yF;rw[zz,if_pos (decide_eq_true hlt),zQ,hx,obS,zM (by omega)];cases decide (y=x) <;> rfl
  ·
   unfold yF;rw[zz,if_neg (by simp)]
 have e:Option.bind (α:=Unit⊕Int) (zF (λ s4=>yF l x s4) 0) (Sum.elim (λ _=>some (-1)) some)=some (jY (λ y=>decide (y=x)) l):=by
  rw[hl];unfold jY;cases l.findIdx? (λ y=>decide (y=x)) <;> rfl
 rw[e,obS,Xr]
theorem rises_eq{l:List Str}(ha:Asc l)(h:l.length<=1048576):Z1 l=some true:=by
 unfold Z1;have hl:zF (λ s4=>jA l s4) (1:Int)=some (.inl ()):=by
  refine Zd (l.length - 1) (λ k=>((k+1:Nat):Int)) (λ k hk=>?_) ?_ (by omega) rfl
  ·
   unfold jA;have h1:l[k+1]?=some l[k+1]:=List.getElem?_eq_getElem (by omega);have h2:l[k]?=some l[k]:=List.getElem?_eq_getElem (by omega);have h3:l[k].l<l[k+1].l:=List.pairwise_iff_getElem.1 ha k (k+1) (by omega) (by omega) (by omega);rw[zz,if_pos (decide_eq_true (by omega)),zQ,h1,obS,show((k+1:Nat):Int) - 1=(k:Int) by omega,wL (by omega) (by omega),obS,zQ,h2,obS,if_neg,zM (by omega)]
   ·
    rfl
   ·
    intro hc;have h4:=gtr_lt (x:=l[k+1]) (y:=l[k]);rw[show cmpS .gtr l[k+1] l[k]=!cmpS .leq l[k+1] l[k] from rfl,hc,decide_eq_true h3] at h4;cases h4
  ·
   unfold jA;rw[zz,if_neg (by simp;omega)]
 rw[hl];rfl
open Go.RowKit
theorem Wo{l:List Str}{x:Str}(h:l.length<=1048576):jq l x=some (decide (x∈l)):=by
 rw[zbh h,any_mem]
theorem zbV{a b:List Str}(ha:a.length<=1048576)(hb:b.length<=1048576):zW a b=some (a.all λ x=>decide (x∈b)):=by
 unfold zW;have hl:zF (λ s4=>xn a b s4) 0=some (if a.any (λ x=>!decide (x∈b))=true then .inr false else .inl ()):=by
  refine Z2 a _ _ _ (λ k x hx hlt=>?_) ?_ (by omega) rfl
  ·
   unfold xn;rw[zz,if_pos (decide_eq_true hlt),zQ,hx,obS,Wo hb,obS,zM (by omega)];cases decide (x∈b) <;> rfl
  ·
   unfold xn;rw[zz,if_neg (by simp)]
 rw[hl,QW];cases a.all (λ x=>decide (x∈b)) <;> rfl
theorem WJ{a b:List Str}(ha:a.length<=1048576)(hb:b.length<=1048576)(h:∀ x∈a,x∈b):zW a b=some true:=by
 rw[zbV ha hb]
 congr 1
 rw[List.all_eq_true];exact λ x hx=>decide_eq_true (h x hx)
open Go.RowKit
theorem Ju{l:List Str}{x:Str}(h:l.length<=1048576):wU l x=some (jY (λ y=>decide (y=x)) l):=by
 unfold wU;have hl:zF (λ s4=>yF l x s4) 0=some (match l.findIdx? (λ y=>decide (y=x)) with | some i=>(Sum.inr (i:Int):Unit⊕Int) | none=>Sum.inl ()):=by
  refine Wf l (λ y=>decide (y=x)) (λ i=>Sum.inr i) _ (λ k y hx hlt=>?_) ?_ (by omega) rfl
  ·
   unfold yF;rw[zz,if_pos (decide_eq_true hlt),zQ,hx,obS,zM (by omega)];cases decide (y=x) <;> rfl
  ·
   unfold yF;rw[zz,if_neg (by simp)]
 rw[hl];unfold jY;cases l.findIdx? (λ y=>decide (y=x)) <;> rfl
theorem idxOf_upto{l:List Str}{x:Str}{j:Nat}(h:l[j]?=some x):∃ k:Nat,jY (λ y=>decide (y=x)) l=(k:Int)/\k<=j:=by
 unfold jY;cases hf:l.findIdx? (λ y=>decide (y=x)) with
 |
  none=>
  rw[List.findIdx?_eq_none_iff] at hf;have:=hf x (List.mem_of_getElem? h);simp at this
 |
  some i=>
  refine⟨i,rfl,?_⟩;obtain⟨_,_,h3⟩:=List.findIdx?_eq_some_iff_getElem.1 hf;obtain⟨hj,he⟩:=List.getElem?_eq_some_iff.1 h;rcases Nat.lt_or_ge j i with hlt | hge
  ·
   have:=h3 j hlt;rw[he] at this;simp at this
  ·
   exact hge
theorem za2{c:List UInt8}{D:Option (Tree×List Int×Str)}{F:Tree×List Int×Str->Option Bool}(hD:∃ t path s,D=some (t,path,s)/\smT 11 5 t/\path.length<=3/\s.l.length<=64)(h:∀ t path s,y6 t->path.length<=3->sho s->F (t,path,s)=some true):(if cmpI .gtr (c.length:Int) 1048576=true then some true else D.bind F)=some true:=by
 cases cmpI .gtr (c.length:Int) 1048576 with
 | true=>rw[if_pos rfl]
 |
  false=>
  obtain⟨t,path,s,e1,h1,h2,h3⟩:=hD;rw[if_neg (by decide),e1,obS];exact h t path s h1.sm h2 (by unfold sho;omega)
theorem same_texts{l:List Str}(h:l.length<=1048576):xl l l=some true:=by rw[J0 (by omega)];simp
open Go.RowKit
section
variable{t:Tree}{path:List Int}{s:Str}{o:List Str}
theorem above_at{need:Str->List Str}(h:Ahd need o):∀ (k:Nat) {z:Str},(zm z dot).length=k->zg z=true->∀ (j:Nat),o[j]?=some z->∀ y∈yT z,∃ i:Nat,i<=j/\o[i]?=some y:=by
 intro k
 induction k with
 | zero=>intro z hk;have:=Wj z;omega
 |
  succ k ih=>
  intro z hk hz j hj y hy;by_cases hp:zC z=emptyS
  ·
   rw[above_one hz hp,List.mem_singleton] at hy;exact⟨j,Nat.le_refl _,hy ▸ hj⟩
  ·
   obtain⟨e1,e2⟩:=Ze hz hp;rw[above_up hz hp] at hy;rcases List.mem_append.1 hy with hy | hy
   ·
    obtain⟨j',h1,h2⟩:=h.up j z hj hp;obtain⟨i,h3,h4⟩:=ih (by omega) e2 j' h2 y hy;exact⟨i,by omega,h4⟩
   ·
    rw[List.mem_singleton] at hy;exact⟨j,Nat.le_refl _,hy ▸ hj⟩
theorem edge_at(h:Ahd (yv t.files path) o){i:Nat}{x y:Str}(hx:o[i]?=some x)(hy:y∈zZ t.files path x):∃ j:Nat,j<=i/\o[j]?=some y:=by
 obtain⟨z,hz,hyz⟩:=List.mem_flatMap.1 (Xu.1 hy);obtain⟨j,h1,h2⟩:=h.need i x hx z hz;obtain⟨k,h3,h4⟩:=above_at h _ rfl (qH hz) j h2 y hyz;exact⟨k,by omega,h4⟩
theorem plain_ahd(h:yz t path s=true):Ahd (yv t.files path) (wh t path s):=(q7 h).2.1.ahd
theorem plain_all(h:yz t path s=true):∀ x∈yt t path s,x∈wh t path s:=by
 obtain⟨hok,_,_⟩:=jO h;obtain⟨hv,_,hs⟩:=yA hok;have ha:=plain_ahd h;intro x hx;have hw:=(ZM hv hs (qk hs) λ _ h=>jM h).1 hx
 clear hx
 induction hw with
 |
  here hx=>
  obtain⟨j,hj⟩:=List.getElem?_of_mem (q7 h).2.2.1;obtain⟨i,_,hi⟩:=above_at ha _ rfl hs j hj _ hx;exact List.mem_of_getElem? hi
 |
  step _ hy ih=>
  obtain⟨j,hj⟩:=List.getElem?_of_mem ih;obtain⟨i,_,hi⟩:=edge_at ha hj hy;exact List.mem_of_getElem? hi
theorem plain_last(h:yz t path s=true):∃ l,wh t path s=l++[s]:=by
 obtain⟨hok,hr,_⟩:=jO h;obtain⟨hv,_,hs⟩:=yA hok;have hlen:=qt (path:=path) hv hs;have K:=rk_reach (path:=path) hv hs hr;have hsU:=XL (path:=path) hv hs;have h1:=(q7 h).1;rw[Jq,if_neg (by simp)] at h1;obtain⟨o1,e1,h1⟩:=bs h1;have hn:s ∉ o1:=by
  by_cases hp:zC s=emptyS
  ·
   rw[if_pos hp] at e1;injection e1 with e1;rw[← e1];simp
  ·
   rw[if_neg hp] at e1;obtain⟨u1,u2⟩:=K.up s hsU hp;have hle:=rank_le (t:=t) (path:=path) (yt t path s) s;obtain⟨o2,e2,v2,_⟩:=visit_ok K 300 (zC s) [] u1 (by omega) ahd_nil;rw[e2] at e1;injection e1 with e1;rw[← e1];exact v2.not (by simp) u2
 rw[if_neg hn] at h1;obtain⟨o2,_,h1⟩:=bs h1;injection h1 with h1;exact⟨o2,h1.symm⟩
end
end Go.Proofs.YtobplpdjkfbfoaaGreatDoor
