import Derived.Test.YtnlhpkbphdbknaaGreatDoorRI
import Derived.Test.YtnlhpkbphdbknaaGreatDoorRKc
import Derived.Test.YtnlhpkbphdbknaaGreatDoorRJ
import Derived.Test.YtnlhpkbphdbknaaGreatDoorRK
namespace Go.Proofs.YtnlhpkbphdbknaaGreatDoor
open Go.RowKit
def Rok(k:Int)(r:Reader):Prop:=r.b.length<=2000/\0<=r.p/\r.p<=k
def Dr{α:Type}(k:Int)(x:Option (Reader×α))(P:α->Prop):Prop:=∃ r v,x=some (r,v)/\Rok k r/\P v
theorem Dr.bind{α β:Type}{k k':Int}{x:Option (Reader×α)}{P:α->Prop}{f:Reader×α->Option (Reader×β)}{Q:β->Prop}(h:Dr k x P)(hf:∀ r v,Rok k r->P v->Dr k' (f (r,v)) Q):Dr k' (x.bind f) Q:=by
 obtain⟨r,v,h1,h2,h3⟩:=h;rw[h1];exact hf r v h2 h3
theorem Dr.pure{α:Type}{k:Int}{r:Reader}{v:α}{P:α->Prop}(h:Rok k r)(hp:P v):Dr k (some (r,v)) P:=⟨r,v,rfl,h,hp⟩
theorem Rok.le{k k':Int}{r:Reader}(h:Rok k r)(hk:k<=k'):Rok k' r:=⟨h.1,h.2.1,Int.le_trans h.2.2 hk⟩
theorem Dr.mono{α:Type}{k k':Int}{x:Option (Reader×α)}{P Q:α->Prop}(h:Dr k x P)(hk:k<=k')(hp:∀ v,P v->Q v):Dr k' x Q:=by
 obtain⟨r,v,h1,h2,h3⟩:=h;exact⟨r,v,h1,h2.le hk,hp v h3⟩
theorem XQ{α:Type}{l:List α}{i:Int}(h0:0<=i)(h:i<l.length):∃ x,atI l i=some x/\x∈l:=by
 obtain⟨n,rfl⟩:=Int.eq_ofNat_of_zero_le h0;obtain⟨x,hx,hm⟩:=Xh (l:=l) (k:=n) (by omega);exact⟨x,by rw[zG,hx],hm⟩
theorem xorI_nn{m n:Int}(hm:0<=m)(hm2:m<4611686018427387904)(hn:0<=n)(hn2:n<4611686018427387904):0<=xorI m n:=by
 obtain⟨a,rfl⟩:=Int.eq_ofNat_of_zero_le hm;obtain⟨b,rfl⟩:=Int.eq_ofNat_of_zero_le hn;have h1:∀ c:Nat,c<4611686018427387904->(BitVec.ofInt 64 (c:Int)).toNat=c:=λ c hc=>by
  rw[BitVec.toNat_ofInt];omega
 have h2:(BitVec.ofInt 64 (a:Int) ^^^ BitVec.ofInt 64 (b:Int)).toNat=a ^^^ b:=by
  rw[BitVec.toNat_xor,h1 a (by omega),h1 b (by omega)]
 have h3:a ^^^ b<2 ^ 62:=Nat.xor_lt_two_pow (by omega) (by omega);have h4:(2:Nat) ^ 62=4611686018427387904:=by decide
 unfold xorI;show 0<=IntKind.i64.wrap ((BitVec.ofInt 64 (a:Int) ^^^ BitVec.ofInt 64 (b:Int)).toNat:Int);rw[h2,Ql _ (by omega)];omega
theorem wi{k:Int}{r:Reader}(n:Int)(h:Rok k r)(hk:k<=1000000):Dr (k+1) (zA r n) (λ v=>0<=v/\(1<=n->v<n)):=by
 obtain⟨h1,h2,h3⟩:=h;unfold zA;rw[xU (by omega) (by omega),obS];have hr:Rok (k+1) { r with p:=r.p+1 }:=⟨h1,by show 0<=r.p+1;omega,by show r.p+1<=k+1;omega⟩;cases hc:cmpI .lss n 1||cmpI .eql (r.b.length:Int) 0 with
 |
  true=>
  rw[if_pos rfl];refine .pure hr ⟨Int.le_refl _,λ h=>by omega⟩
 |
  false=>
  rw[Bool.or_eq_false_iff] at hc;have hn:¬ n<1:=of_decide_eq_false hc.1;have hl:¬ (r.b.length:Int)=0:=by simpa[cmpI] using hc.2
  have hres:∀ x:Int,0<=x->Dr (k+1) ((modO x n).bind λ v=>some ({ r with p:=r.p+1 },v)) (λ v=>0<=v/\(1<=n->v<n)):=λ x hx=>by
   rw[modO_of (by omega),obS];exact .pure hr ⟨Int.tmod_nonneg _ hx,λ _=>Int.tmod_lt_of_pos _ (by omega)⟩
  rw[if_neg (by decide),show r.p+1 - 1=r.p by omega,xU (by omega) (by omega),obS];cases hlt:cmpI .lss r.p (r.b.length:Int) with
  |
   true=>
   obtain⟨x,hx,_⟩:=XQ h2 (oD hlt);rw[if_pos rfl,hx,obS];exact hres _ (by omega)
  |
   false=>
   have hm:∀ x:Int,0<=x->∃ y,modO x (r.b.length:Int)=some y/\0<=y/\y<(r.b.length:Int):=λ x hx=>⟨_,modO_of (by omega),Int.tmod_nonneg _ hx,Int.tmod_lt_of_pos _ (by omega)⟩
   obtain⟨y1,e1,a1,b1⟩:=hm r.p h2;obtain⟨x1,f1,_⟩:=XQ a1 b1;obtain⟨y2,e2,a2,b2⟩:=hm (r.p*7+3) (by omega);obtain⟨x2,f2,_⟩:=XQ a2 b2;have u1:=x1.toNat_lt;have u2:=x2.toNat_lt;have hd1:0<=r.p.tdiv (r.b.length:Int):=Int.tdiv_nonneg h2 (by omega);have hd2:r.p.tdiv (r.b.length:Int)<=r.p:=Int.tdiv_le_self _ h2;rw[if_neg (by decide),e1,obS,f1,obS,xU (by omega) (by omega),obS,xU (by omega) (by omega),obS,xU (by omega) (by omega),obS,e2,obS,f2,obS,xU (by omega) (by omega),obS,xU (by omega) (by omega),obS,xU (by omega) (by omega),obS,xU (by omega) (by omega),obS,divO_of (by omega) (by omega) (by omega),obS,xU (by omega) (by omega),obS,xU (by omega) (by omega),obS];generalize hz:(x1.toNat:Int)*131+(x2.toNat:Int)*1117+r.p*29+r.p.tdiv (r.b.length:Int)*53=z;have hz0:0<=z/\z<4611686018427387904:=by omega
   have hz1:0<=z.tdiv 64:=Int.tdiv_nonneg hz0.1 (by omega);have hz2:z.tdiv 64<=z:=Int.tdiv_le_self _ hz0.1;rw[divO_of (by decide) (by omega) (by omega),obS];exact hres _ (xorI_nn hz0.1 hz0.2 hz1 (by omega))
theorem Dr.ite{α:Type}{k:Int}{c:Prop}[Decidable c]{x y:Option (Reader×α)}{P:α->Prop}(h1:c->Dr k x P)(h2:¬ c->Dr k y P):Dr k (if c then x else y) P:=by
 split
 ·
  exact h1 (by assumption)
 ·
  exact h2 (by assumption)
theorem Dr.any{α γ:Type}{k:Int}{x:Option γ}{f:γ->Option (Reader×α)}{P:α->Prop}(hx:∃ o,x=some o)(hf:∀ o,Dr k (f o) P):Dr k (x.bind f) P:=by
 obtain⟨o,rfl⟩:=hx;exact hf o
theorem Dr.some{α γ:Type}{k:Int}{x:Option γ}{o:γ}{f:γ->Option (Reader×α)}{P:α->Prop}(hx:x=some o)(hf:Dr k (f o) P):Dr k (x.bind f) P:=by
 rw[hx];exact hf
theorem Xi{k:Int}{r:Reader}{l:List Int}(P:Int->Prop)(h:Rok k r)(hk:k<=1000000)(h0:0<l.length)(hP:∀ x∈l,P x):Dr (k+1) (yc r l) P:=by
 unfold yc;refine .bind (wi _ h hk) λ r1 v h1 hv=>?_
 obtain⟨x,hx,hm⟩:=XQ hv.1 (hv.2 (by omega));exact .some hx (.pure h1 (hP x hm))
theorem of_ok{k:Int}{r:Reader}{l:List Str}(P:Str->Prop)(h:Rok k r)(hk:k<=1000000)(h0:0<l.length)(hP:∀ x∈l,P x):Dr (k+1) (x8 r l) P:=by
 unfold x8;refine .bind (wi _ h hk) λ r1 v h1 hv=>?_
 obtain⟨x,hx,hm⟩:=XQ hv.1 (hv.2 (by omega));exact .some hx (.pure h1 (hP x hm))
theorem ZJ{k:Int}{r:Reader}(h:Rok k r)(hk:k<=1000000):Dr (k+1) (xd r) (λ s=>s.l.length<=1):=by
 unfold xd;refine .bind (of_ok (λ s=>s.l.length<=1) h hk (by decide) (by decide)) λ r1 v h1 hv=>.pure h1 hv
theorem Jo{σ:Type}{step:Reader×σ×Int->Option ((Reader×σ×Int)⊕(Reader×σ))}(K:Nat->Int)(P:Nat->σ->Prop)(m:Nat)(hK:∀ i j,i<=j->K i<=K j)
  (h:∀ j r x n,j<m->Rok (K j) r->P j x->0<n->n+(j:Int)<=m->∃ r' x',step (r,x,n)=some (.inl (r',x',n - 1))/\Rok (K (j+1)) r'/\P (j+1) x')
  (hend:∀ r x n,n<=0->step (r,x,n)=some (.inr (r,x))) (hm:m<=1000) {r:Reader} {x:σ} {n:Int} (h0:Rok (K 0) r) (hx:P 0 x) (hn:n<=m):Dr (K m) (zW step (r,x,n)) (λ y=>∃ j,j<=m/\P j y):=by
 have key:∀ q j r x n,j+q=m->Rok (K j) r->P j x->n<=(q:Int)->∃ r' y,jU step (q+1) (r,x,n)=some (r',y)/\Rok (K m) r'/\∃ j',j'<=m/\P j' y:=by
  intro q
  induction q with
  | zero=>intro j r x n hj hr hx hn;exact⟨r,x,xw (hend r x n (by omega)),hr.le (hK _ _ (by omega)),j,by omega,hx⟩
  |
   succ q ih=>
   intro j r x n hj hr hx hn;by_cases hn0:n<=0
   ·
    exact⟨r,x,xw (hend r x n hn0),hr.le (hK _ _ (by omega)),j,by omega,hx⟩
   ·
    obtain⟨r',x',h1,h2,h3⟩:=h j r x n (by omega) hr hx (by omega) (by omega);rw[qV h1];exact ih (j+1) r' x' (n - 1) (by omega) h2 h3 (by omega)
 obtain⟨r',y,h1,h2,h3⟩:=key m 0 r x n (by omega) h0 hx hn;exact⟨r',y,qO h1 (by omega),h2,h3⟩
theorem Jb{k:Int}{r:Reader}(h:Rok k r)(hk:k<=900000):Dr (k+10) (jj r) (λ s=>s.l.length<=8):=by
 unfold jj;refine .bind (ZJ h (by omega)) λ r1 s h1 hs=>?_
 refine .bind (k:=k+10) (P:=λ s=>s.l.length<=8) ?_ λ r3 s3 h3 hs3=>.pure h3 hs3
 refine .bind (Xi (λ n=>n<=2) h1 (by omega) (by decide) (by decide)) λ r2 n h2 hn=>?_
 refine(Jo (λ j=>k+2+j) (λ j (s:Str)=>s.l.length<=1+2*j) 2 (λ i j hij=>by omega) (λ j r x n hj hr hx hn hb=>?_) (λ r x n hn=>?_) (by omega) (h2.le (by show k+1+1<=k+2+((0:Nat):Int);omega)) (by show s.l.length<=1+2*0;omega) (by exact hn)).mono (by show k+2+((2:Nat):Int)<=k+10;omega) (λ y ⟨j,hj,hy⟩=>by omega)
 ·
  obtain⟨r',v,e1,e2,e3⟩:=ZJ hr (by omega);have e3':v.l.length<=1:=e3;refine⟨r',⟨(x.l++[46])++v.l⟩,?_,e2.le (by show k+2+(j:Int)+1<=k+2+((j+1:Nat):Int);omega),?_⟩
  ·
   unfold qI;dsimp only;rw[if_pos (by simp[cmpI];omega),Yy (by show x.l.length+1<=_;omega),obS,e1,obS,Yy (by rw[List.length_append];show x.l.length+1+v.l.length<=_;omega),obS,xU (by omega) (by omega),obS]
  ·
   show(x.l++[46]++v.l).length<=_;simp only[List.length_append,List.length_singleton];omega
 ·
  unfold qI;dsimp only;rw[if_neg (by simp[cmpI];omega)]
theorem Dr.step{α β:Type}{k:Int}{x:Option (Reader×α)}{P:α->Prop}{f:Reader×α->Option β}{Q:β->Prop}(hx:Dr k x P)(hf:∀ r v,Rok k r->P v->∃ y,f (r,v)=Option.some y/\Q y):∃ y,x.bind f=Option.some y/\Q y:=by
 obtain⟨r,v,h1,h2,h3⟩:=hx;rw[h1];exact hf r v h2 h3
theorem zbt{k:Int}{r:Reader}(h:Rok k r)(hk:k<=900000):Dr (k+12) (Zj r) (λ s=>s.l.length<=16):=by
 unfold Zj;refine .bind (Jb h hk) λ r1 s h1 hs=>.bind (wi 20 h1 (by omega)) λ r2 v h2 _=>?_
 have hs':s.l.length<=8:=hs;refine .ite (λ _=>.some (Yy (m:=s) (by show s.l.length+1<=_;omega)) (.pure (h2.le (by omega)) (by show(s.l++[46]).length<=16;rw[List.length_append];show s.l.length+1<=16;omega))) λ _=>?_
 exact .ite (λ _=>.bind (of_ok (λ s=>s.l.length<=16) h2 (by omega) (by decide) (by decide)) λ r3 v h3 hv=>.pure (h3.le (by omega)) hv) λ _=>.pure (h2.le (by omega)) (by show s.l.length<=16;omega)
def smS(s:Stmt):Prop:=s.module.l.length<=16/\s.name.l.length<=16
theorem someStmt_ok{k:Int}{r:Reader}(h:Rok k r)(hk:k<=800000):Dr (k+30) (qJ r) smS:=by
 unfold qJ;refine .bind (wi 9 h (by omega)) λ r1 v1 h1 _=>?_
 refine .any (by split <;> exact⟨_,rfl⟩) λ o7=>?_
 refine .ite (λ _=>.bind (Jb h1 (by omega)) λ r2 s h2 hs=>.pure (h2.le (by omega)) ⟨Nat.le_trans hs (by decide),Nat.zero_le _⟩) λ _=>?_
 refine .ite (λ _=>?_) λ _=>?_
 ·
  refine .bind (Xi (λ _=>True) h1 (by omega) (by decide) (λ _ _=>trivial)) λ r2 n h2 _=>.bind (Jb h2 (by omega)) λ r3 s h3 hs=>?_
  refine .bind (k:=k+13) (P:=λ s=>s.l.length<=16) ?_ λ r4 m h4 hm=>.bind (ZJ h4 (by omega)) λ r5 q h5 hq=>.pure (h5.le (by omega)) ⟨hm,Nat.le_trans hq (by decide)⟩
  dsimp only;cases cmpI .gtr n 0 with
  |
   true=>
   refine .bind (wi 2 h3 (by omega)) λ r4 v h4 _=>.ite (λ _=>.pure (h4.le (by omega)) (Nat.zero_le _)) λ _=>.pure (h4.le (by omega)) (Nat.le_trans hs (by decide))
  | false=>exact .pure (h3.le (by omega)) (Nat.le_trans hs (by decide))
 refine .ite (λ _=>.bind (Jb h1 (by omega)) λ r2 s h2 hs=>.pure (h2.le (by omega)) ⟨Nat.le_trans hs (by decide),Nat.zero_le _⟩) λ _=>?_
 refine .any (by split;exact⟨_,rfl⟩;split <;> exact⟨_,rfl⟩) λ o62=>?_
 refine .ite (λ _=>.bind (of_ok (λ s=>s.l.length<=16) h1 (by omega) (by decide) (by decide)) λ r2 s h2 hs=>.bind (wi 100 h2 (by omega)) λ r3 v h3 _=>.pure (h3.le (by omega)) ⟨Nat.zero_le _,hs⟩) λ _=>?_
 refine .ite (λ _=>.bind (of_ok (λ s=>s.l.length<=16) h1 (by omega) (by decide) (by decide)) λ r2 s h2 hs=>.pure (h2.le (by omega)) ⟨Nat.zero_le _,hs⟩) λ _=>?_
 refine .bind (wi 3 h1 (by omega)) λ r2 v h2 _=>.ite (λ _=>.pure (h2.le (by omega)) ⟨Nat.zero_le _,Nat.zero_le _⟩) λ _=>.bind (wi 100 h2 (by omega)) λ r3 v h3 _=>.pure (h3.le (by omega)) ⟨Nat.zero_le _,(by show 1<=16;omega)⟩
def smB(n:Nat)(b:List Stmt):Prop:=b.length<=n/\∀ s∈b,smS s
theorem smB.app{n:Nat}{b:List Stmt}{s:Stmt}(h:smB n b)(hs:smS s):smB (n+1) (b++[s]):=⟨by have:=h.1;simp;omega,λ x hx=>(List.mem_append.1 hx).elim (h.2 x) λ hx=>by rw[List.mem_singleton.1 hx];exact hs⟩
theorem smB.le{n m:Nat}{b:List Stmt}(h:smB n b)(hm:n<=m):smB m b:=⟨Nat.le_trans h.1 hm,h.2⟩
theorem someBody_ok{k:Int}{r:Reader}(h:Rok k r)(hk:k<=700000):Dr (k+170) (qK r) (smB 4):=by
 unfold qK;refine .bind (wi 2 h (by omega)) λ r1 v1 h1 _=>?_
 refine .bind (k:=k+170) (P:=smB 4) ?_ λ r3 s3 h3 hs3=>.pure h3 hs3
 refine .bind (Xi (λ n=>n<=4) h1 (by omega) (by decide) (by decide)) λ r2 n h2 hn=>?_
 refine(Jo (λ j=>k+2+40*j) (λ j x=>smB j x) 4 (λ i j hij=>by omega) (λ j r x n hj hr hx hn hb=>?_) (λ r x n hn=>?_) (by omega) (h2.le (by show k+1+1<=k+2+40*((0:Nat):Int);omega)) ⟨Nat.le_refl _,λ s hs=>by cases hs⟩ (by exact hn)).mono (by show k+2+40*((4:Nat):Int)<=k+170;omega) (λ y ⟨j,hj,hy⟩=>hy.le hj)
 ·
  have key:∃ y,wF (r1,v1) (r,x,n)=Option.some y/\∃ r' x',y=.inl (r',x',n - 1)/\Rok (k+2+40*((j+1:Nat):Int)) r'/\smB (j+1) x':=by
   unfold wF;rw[if_pos (by simp[cmpI];omega)];refine Dr.step (someStmt_ok hr (by omega)) λ r3 s h3 hs=>?_
   refine Dr.step (k:=k+2+40*j+31) (P:=smS) (.ite (λ _=>.bind (wi 100 h3 (by omega)) λ r4 v h4 _=>.pure (h4.le (by omega)) ⟨Nat.zero_le _,(by show 1<=16;omega)⟩) λ _=>.pure (h3.le (by omega)) hs) λ r4 s2 h4 hs2=>?_
   have hl:=hx.1;refine⟨_,by dsimp only;rw[yE (by simp;omega) (by simp;omega),obS,xU (by omega) (by omega),obS],r4,_,rfl,h4.le (by omega),hx.app hs2⟩
  obtain⟨y,e,r',x',rfl,e2,e3⟩:=key;exact⟨r',x',e,e2,e3⟩
 ·
  unfold wF;dsimp only;rw[if_neg (by simp[cmpI];omega)]
def smF(n:Nat)(f:File):Prop:=f.pkg.l.length<=16/\f.name.l.length<=16/\smB n f.body
theorem someFile_ok{k:Int}{r:Reader}(h:Rok k r)(hk:k<=600000):Dr (k+200) (qM r) (smF 4):=by
 unfold qM;refine .bind (Xi (λ _=>True) h (by omega) (by decide) (λ _ _=>trivial)) λ r1 v1 h1 _=>.bind (wi 100 h1 (by omega)) λ r2 v2 h2 _=>.bind (someBody_ok h2 (by omega)) λ r3 b h3 hb=>?_
 refine .bind (k:=k+200) (P:=smF 4) ?_ λ r4 f h4 hf=>.pure h4 hf
 refine .bind (wi 6 h3 (by omega)) λ r4 v4 h4 _=>?_
 refine .any (by split <;> exact⟨_,rfl⟩) λ o30=>?_
 refine .ite (λ _=>.bind (ZJ h4 (by omega)) λ r5 s h5 hs=>.pure (h5.le (by omega)) ⟨Nat.zero_le _,Nat.le_trans hs (by decide),hb⟩) λ _=>?_
 refine .any (by split <;> exact⟨_,rfl⟩) λ o51=>?_
 refine .ite (λ _=>.bind (ZJ h4 (by omega)) λ r5 s h5 hs=>.bind (ZJ h5 (by omega)) λ r6 s2 h6 hs2=>.pure (h6.le (by omega)) ⟨Nat.le_trans hs (by decide),Nat.le_trans hs2 (by decide),hb⟩) λ _=>?_
 refine .ite (λ _=>.bind (ZJ h4 (by omega)) λ r5 s h5 hs=>.pure (h5.le (by omega)) ⟨Nat.le_trans hs (by decide),Nat.zero_le _,hb⟩) λ _=>?_
 refine .bind (ZJ h4 (by omega)) λ r5 s h5 hs=>?_
 have hs':s.l.length<=1:=hs;refine .some (Yy (m:=s) (by show s.l.length+1<=_;omega)) (.bind (ZJ h5 (by omega)) λ r6 s2 h6 hs2=>?_);have hs2':s2.l.length<=1:=hs2;have hlen:(s.l++[46]++s2.l).length<=16:=by simp only[List.length_append,List.length_singleton];omega
 refine .some (Yy (by simp only[List.length_append];show s.l.length+1+s2.l.length<=_;omega)) (.bind (wi 2 h6 (by omega)) λ r7 v7 h7 _=>?_);exact .ite (λ _=>.pure (h7.le (by omega)) ⟨hlen,Nat.zero_le _,hb⟩) λ _=>.bind (ZJ h7 (by omega)) λ r8 s3 h8 hs3=>.pure (h8.le (by omega)) ⟨hlen,Nat.le_trans hs3 (by decide),hb⟩
def smT(n m:Nat)(t:Tree):Prop:=t.files.length<=n/\∀ f∈t.files,smF m f
theorem smF.le{n m:Nat}{f:File}(h:smF n f)(hm:n<=m):smF m f:=⟨h.1,h.2.1,h.2.2.le hm⟩
theorem smT.le{n m n' m':Nat}{t:Tree}(h:smT n m t)(hn:n<=n')(hm:m<=m'):smT n' m' t:=⟨Nat.le_trans h.1 hn,λ f hf=>(h.2 f hf).le hm⟩
theorem smT.app{n m:Nat}{t:Tree}{f:File}(h:smT n m t)(hf:smF m f):smT (n+1) m ⟨t.files++[f]⟩:=⟨by have:=h.1;simp;omega,λ x hx=>(List.mem_append.1 hx).elim (h.2 x) λ hx=>by rw[List.mem_singleton.1 hx];exact hf⟩
theorem smT.set{n m i:Nat}{t:Tree}{f:File}(h:smT n m t)(hf:smF m f):smT n m ⟨t.files.set i f⟩:=⟨by have:=h.1;simp;omega,λ x hx=>(List.mem_or_eq_of_mem_set hx).elim (h.2 x) λ hx=>by rw[hx];exact hf⟩
theorem someTree_ok{k:Int}{r:Reader}(h:Rok k r)(hk:k<=500000):Dr (k+2100) (qN r) (smT 10 4):=by
 unfold qN;refine .bind (k:=k+2100) (P:=smT 10 4) ?_ λ r3 s3 h3 hs3=>.pure h3 hs3
 refine .bind (Xi (λ n=>n<=10) h (by omega) (by decide) (by decide)) λ r2 n h2 hn=>?_
 refine(Jo (λ j=>k+1+200*j) (λ j x=>smT j 4 x) 10 (λ i j hij=>by omega) (λ j r x n hj hr hx hn hb=>?_) (λ r x n hn=>?_) (by omega) (h2.le (by show k+1<=k+1+200*((0:Nat):Int);omega)) ⟨Nat.le_refl _,λ s hs=>by cases hs⟩ (by exact hn)).mono (by show k+1+200*((10:Nat):Int)<=k+2100;omega) (λ y ⟨j,hj,hy⟩=>hy.le hj (Nat.le_refl _))
 ·
  have key:∃ y,wG (r,x,n)=Option.some y/\∃ r' x',y=.inl (r',x',n - 1)/\Rok (k+1+200*((j+1:Nat):Int)) r'/\smT (j+1) 4 x':=by
   unfold wG;rw[if_pos (by simp[cmpI];omega)];have hl:=hx.1;refine Dr.step (k:=k+1+200*j+200) (P:=smT (j+1) 4) ?_ λ r4 t h4 ht=>?_
   ·
    refine .bind (someFile_ok hr (by omega)) λ r3 f h3 hf=>.some (if_pos trivial) (.ite (λ _=>?_) λ _=>.pure h3 (hx.le (by omega) (Nat.le_refl _)))
    exact .some (yE (by simp;omega) (by simp;omega)) (.pure h3 (hx.app hf))
   ·
    exact⟨_,by dsimp only;rw[xU (by omega) (by omega),obS],r4,t,rfl,h4.le (by omega),ht⟩
  obtain⟨y,e,r',x',rfl,e2,e3⟩:=key;exact⟨r',x',e,e2,e3⟩
 ·
  unfold wG;dsimp only;rw[if_neg (by simp[cmpI];omega)]
theorem anyTree_ok{k:Int}{r:Reader}(h:Rok k r)(hk:k<=400000):Dr (k+2200) (Zl r) (smT 11 5):=by
 unfold Zl;refine .bind (someTree_ok h (by omega)) λ r1 t h1 ht=>?_
 have ht5:smT 11 5 t:=ht.le (by omega) (by omega);refine .bind (k:=k+2200) (P:=smT 11 5) ?_ λ r4 f h4 hf=>.pure h4 hf
 refine .ite (λ hpos=>?_) λ _=>.pure (h1.le (by omega)) ht5
 have hpos':0<(t.files.length:Int):=oD hpos;obtain⟨f,hf,hm⟩:=XQ (l:=t.files) (i:=0) (Int.le_refl _) hpos';have hsf:=ht.2 f hm;have hl:=ht.1;refine .bind (wi 24 h1 (by omega)) λ r2 v2 h2 _=>?_
 refine .ite (λ _=>.some hf (.some (yE (by simp;omega) (by simp;omega)) (.pure (h2.le (by omega)) ((ht.app hsf).le (by omega) (by omega))))) λ _=>?_
 refine .ite (λ _=>.bind (Xi (λ _=>True) h2 (by omega) (by decide) (λ _ _=>trivial)) λ r3 v3 h3 _=>.some hf (.pure (h3.le (by omega)) (ht5.set ⟨hsf.1,hsf.2.1,hsf.2.2.le (by omega)⟩))) λ _=>?_
 refine .ite (λ _=>.bind (Xi (λ _=>True) h2 (by omega) (by decide) (λ _ _=>trivial)) λ r3 v3 h3 _=>.some hf (.pure (h3.le (by omega)) (ht5.set ⟨hsf.1,hsf.2.1,hsf.2.2.le (by omega)⟩))) λ _=>?_
 refine .ite (λ _=>?_) λ _=>.pure (h2.le (by omega)) ht5
 have hbl:=hsf.2.2.1;exact .some hf (.some (yE (by simp;omega) (by simp;omega)) (.some hf (.pure (h2.le (by omega)) (ht5.set ⟨hsf.1,hsf.2.1,hsf.2.2.app ⟨Nat.zero_le _,Nat.zero_le _⟩⟩))))
theorem somePath_ok{k:Int}{r:Reader}(h:Rok k r)(hk:k<=900000):Dr (k+1) (qL r) (λ p=>p.length<=3):=by
 unfold qL;refine .bind (wi 8 h (by omega)) λ r2 v2 h2 _=>?_
 have d:∀ {l:List Int} {c:Prop} [Decidable c] {y:Option (Reader×List Int)},l.length<=3->Dr (k+1) y (λ p=>p.length<=3)->Dr (k+1) (if c then some (r2,l) else y) (λ p=>p.length<=3):=λ hl hy=>.ite (λ _=>.pure h2 hl) λ _=>hy
 exact d (by decide) (d (by decide) (d (by decide) (d (by decide) (d (by decide) (.pure h2 (by decide))))))
theorem anyPath_ok{k:Int}{r:Reader}(h:Rok k r)(hk:k<=800000):Dr (k+2) (Zk r) (λ p=>p.length<=3):=by
 unfold Zk;refine .bind (wi 20 h (by omega)) λ r2 v2 h2 _=>.ite (λ _=>?_) λ _=>.bind (somePath_ok h2 (by omega)) λ r3 p h3 hp=>.pure (h3.le (by omega)) hp
 refine .bind (wi 3 h2 (by omega)) λ r3 v3 h3 hv=>?_
 obtain⟨x,hx,hm⟩:=XQ (l:=([[],[0,0],[3]]:List (List Int))) hv.1 (hv.2 (by decide));exact .some hx (.pure (h3.le (by omega)) ((by decide:∀ x∈([[],[0,0],[3]]:List (List Int)),x.length<=3) x hm))
theorem newReader_ok(c:List UInt8):∃ r,qr c=some r/\Rok 0 r:=by
 unfold qr;by_cases h:(c.length:Int) > 2000
 ·
  rw[if_pos (by simpa[cmpI] using h),show(2000:Int)=((2000:Nat):Int) from rfl,zap (by omega),obS,obS];exact⟨_,rfl,by show(c.take 2000).length<=2000;simp;omega,Int.le_refl _,Int.le_refl _⟩
 ·
  rw[if_neg (by simpa[cmpI] using h),obS];exact⟨_,rfl,by show c.length<=2000;omega,Int.le_refl _,Int.le_refl _⟩
theorem smT.sm{t:Tree}(h:smT 11 5 t):YN t:=by
 refine⟨by have:=h.1;omega,λ f hf=>?_⟩;obtain⟨h1,h2,h3,h4⟩:=h.2 f hf;exact⟨by omega,by omega,by omega,λ s hs=>⟨by have:=(h4 s hs).1;omega,by have:=(h4 s hs).2;omega⟩⟩
theorem zaR{f:File}{n:Nat}(h:smF n f):(ZT f).l.length<=64:=by
 obtain⟨h1,h2,_⟩:=h;unfold ZT child;split
 ·
  omega
 ·
  split
  ·
   omega
  ·
   simp only[List.length_append,List.length_singleton];omega
theorem nameOf_ok{k:Int}{r:Reader}(h:Rok k r)(hk:k<=300000):Dr (k+2300) (ZI r) (λ v=>smT 11 5 v.1/\v.2.1.length<=3/\v.2.2.l.length<=64):=by
 unfold ZI;refine .bind (anyTree_ok h (by omega)) λ r1 t h1 ht=>.bind (anyPath_ok h1 (by omega)) λ r2 q h2 hq=>?_
 dsimp only;cases hc:cmpI .gtr (t.files.length:Int) 0 with
 |
  false=>
  rw[show((false:Bool) == true)=false from rfl,jB,obS];refine .ite (λ h=>by simp at h) λ _=>?_
  rw[if_neg (by decide)];exact .bind (zbt h2 (by omega)) λ r3 s h3 hs=>.pure (h3.le (by omega)) ⟨ht,hq,Nat.le_trans hs (by decide)⟩
 |
  true=>
  have hl:0<(t.files.length:Int):=oD hc;rw[show((true:Bool) == true)=true from rfl,yZ];refine .bind (wi 4 h2 (by omega)) λ r3 v h3 _=>?_
  rw[if_pos rfl];refine .ite (λ _=>?_) λ _=>.bind (zbt h3 (by omega)) λ r4 s h4 hs=>.pure (h4.le (by omega)) ⟨ht,hq,Nat.le_trans hs (by decide)⟩
  refine .bind (wi _ h3 (by omega)) λ r4 i h4 hi=>?_
  obtain⟨f,hf,hm⟩:=XQ (l:=t.files) hi.1 (hi.2 (by omega));exact .some hf (.some (if_pos (ht.sm.2 f hm)) (.pure (h4.le (by omega)) ⟨ht,hq,zaR (ht.2 f hm)⟩))
def smC(n:Nat)(l:List GCmd):Prop:=l.length<=n/\∀ x∈l,x.name.l.length<=64
theorem smC.app{n:Nat}{b:List GCmd}{s:GCmd}(h:smC n b)(hs:s.name.l.length<=64):smC (n+1) (b++[s]):=⟨by have:=h.1;simp;omega,λ x hx=>(List.mem_append.1 hx).elim (h.2 x) λ hx=>by rw[List.mem_singleton.1 hx];exact hs⟩
theorem smC.le{n m:Nat}{b:List GCmd}(h:smC n b)(hm:n<=m):smC m b:=⟨Nat.le_trans h.1 hm,h.2⟩
theorem commandsS_ok{k:Int}{r0 r:Reader}{t:Tree}{p:List Int}{s:Str}{x:List GCmd}{n:Int}{j:Nat}(ht:smT 11 5 t)(h:Rok k r)(hk:k<=300000)(hx:smC j x)(hj:j<=100)(hn:0<n)(hn2:n<=1000):∃ r' x',xl (r0,t,p,s) (r,x,n)=some (.inl (r',x',n - 1))/\Rok (k+13) r'/\smC (j+1) x':=by
 have key:∃ y,xl (r0,t,p,s) (r,x,n)=Option.some y/\∃ r' x',y=.inl (r',x',n - 1)/\Rok (k+13) r'/\smC (j+1) x':=by
  unfold xl;dsimp only;rw[if_pos (by simp[cmpI];omega)];refine Dr.step (Xi (λ _=>True) h (by omega) (by decide) (λ _ _=>trivial)) λ r1 kd h1 _=>Dr.step (Jb h1 (by omega)) λ r2 s h2 hs=>Dr.step (k:=k+13) (P:=λ(c:GCmd)=>c.name.l.length<=64) ?_ λ r3 c h3 hc=>?_
  ·
   have hs2:s.l.length<=64:=Nat.le_trans hs (by decide);dsimp only;cases hc:cmpI .gtr (t.files.length:Int) 0 with
   |
    false=>
    rw[show((false:Bool) == true)=false from rfl,jB,obS];refine .ite (λ h=>by simp at h) λ _=>?_
    rw[if_neg (by decide)];exact .pure (h2.le (by omega)) hs2
   |
    true=>
    have hl:0<(t.files.length:Int):=oD hc;rw[show((true:Bool) == true)=true from rfl,yZ];refine .bind (wi 4 h2 (by omega)) λ r3 v h3 _=>?_
    rw[if_pos rfl];refine .ite (λ _=>?_) λ _=>.pure (h3.le (by omega)) hs2
    refine .bind (wi _ h3 (by omega)) λ r4 i h4 hi=>?_
    obtain⟨f,hf,hm⟩:=XQ (l:=t.files) hi.1 (hi.2 (by omega));exact .some hf (.some (if_pos (ht.sm.2 f hm)) (.pure (h4.le (by omega)) (zaR (ht.2 f hm))))
  ·
   have hxl:=hx.1;refine⟨_,?_,r3,x++[c],rfl,h3,hx.app hc⟩;dsimp only;rw[yE (by simp;omega) (by simp;omega),obS,xU (by omega) (by omega),obS]
 obtain⟨y,e,r',x',rfl,e2,e3⟩:=key;exact⟨r',x',e,e2,e3⟩
theorem commandsOf_ok{k:Int}{r:Reader}(h:Rok k r)(hk:k<=200000):Dr (k+2500) (j6 r) (λ v=>smT 11 5 v.1/\v.2.1.length<=3/\smC 6 v.2.2):=by
 unfold j6;refine .bind (nameOf_ok h (by omega)) λ r1 v h1 hv=>?_
 obtain⟨t,p,s⟩:=v;obtain⟨ht,hp,_⟩:=hv;refine .bind (k:=k+2450) (P:=smC 6) ?_ λ r2 l h2 hl=>?_
 ·
  refine .bind (Xi (λ n=>n<=6) h1 (by omega) (by decide) (by decide)) λ r2 n h2 hn=>?_
  refine(Jo (λ j=>k+2301+20*j) (λ j x=>smC j x) 6 (λ i j hij=>by omega) (λ j r x n hj hr hx hn hb=>?_) (λ r x n hn=>?_) (by omega) (h2.le (by show k+2300+1<=k+2301+20*((0:Nat):Int);omega)) ⟨Nat.le_refl _,λ s hs=>by cases hs⟩ (by exact hn)).mono (by show k+2301+20*((6:Nat):Int)<=k+2450;omega) (λ y ⟨j,hj,hy⟩=>hy.le hj)
  ·
   obtain⟨r',x',e,e2,e3⟩:=commandsS_ok (r0:=r1) (p:=p) (s:=s) ht hr (by omega) hx (by omega) hn (by omega);exact⟨r',x',e,e2.le (by show k+2301+20*(j:Int)+13<=k+2301+20*((j+1:Nat):Int);omega),e3⟩
  ·
   unfold xl;dsimp only;rw[if_neg (by simp[cmpI];omega)]
 ·
  refine .bind (k:=k+2460) (P:=smC 6) ?_ λ r3 l3 h3 hl3=>.pure (h3.le (by omega)) ⟨ht,hp,hl3⟩
  dsimp only;cases hc:cmpI .gtr (l.length:Int) 0 with
  |
   false=>
   rw[show((false:Bool) == true)=false from rfl,jB,obS];refine .ite (λ h=>by simp at h) λ _=>?_
   rw[if_neg (by decide)];exact .pure (h2.le (by omega)) hl
  |
   true=>
   have hlen:0<(l.length:Int):=oD hc;rw[show((true:Bool) == true)=true from rfl,yZ];refine .bind (wi 20 h2 (by omega)) λ r3 v h3 _=>?_
   rw[if_pos rfl];refine .ite (λ _=>?_) λ _=>.pure (h3.le (by omega)) hl
   refine .bind (Xi (λ _=>True) h3 (by omega) (by decide) (λ _ _=>trivial)) λ r4 q h4 _=>?_
   obtain⟨f,hf,hm⟩:=XQ (l:=l) (i:=0) (Int.le_refl _) hlen;exact .some hf (.pure (h4.le (by omega)) ⟨by rw[List.length_set];exact hl.1,λ x hx=>(List.mem_or_eq_of_mem_set hx).elim (hl.2 x) λ hx=>by rw[hx];exact hl.2 f hm⟩)
theorem Qg(c:List UInt8):∃ t path l f,yN c=some (t,path,l,f)/\smT 11 5 t/\path.length<=3/\l.length<=6/\∀ x∈l,x.name.l.length<=64:=by
 obtain⟨r,h1,h2⟩:=newReader_ok c;obtain⟨r1,v,e1,k1,p1,p2,p3⟩:=commandsOf_ok h2 (by omega);obtain⟨r2,q,e2,k2,_⟩:=wi 20 k1 (by omega);obtain⟨r3,f,e3,k3,_⟩:=Xi (l:=[120,120,q,0,121,-1]) (λ _=>True) k2 (by omega) (by simp) (λ _ _=>trivial);refine⟨v.1,v.2.1,v.2.2,f,?_,p1,p2,p3.1,p3.2⟩;unfold yN;rw[h1,obS,e1,obS,e2,obS,e3,obS]
theorem smB.one{s:Stmt}(h:smS s):smB 1 [s]:=⟨Nat.le_refl _,λ x hx=>by rw[List.mem_singleton.1 hx];exact h⟩
open Go.RowKit
theorem QV(s:Str)(c:UInt8)(hs:s.l.length<=1000000):(∃ pre post,s.l=pre++c::post/\c ∉ post/\zS s c=some (pre.length:Int))\/(c ∉ s.l/\zS s c=some (-1)):=by
 have key:∀ k,k<=s.l.length->c ∉ s.l.drop k->∃ r,jU (λ s6=>zI s c s6) (k+1) ((k:Int) - 1)=some r/\((∃ pre post,s.l=pre++c::post/\c ∉ post/\r=.inr (pre.length:Int))\/(c ∉ s.l/\r=.inl ())):=by
  intro k
  induction k with
  |
   zero=>
   intro _ hc;refine⟨.inl (),xw ?_,.inr ⟨by simpa using hc,rfl⟩⟩;unfold zI;rw[if_neg (by simp[cmpI])]
  |
   succ k ih=>
   intro hk hc;have hb:s.l[k]?=some s.l[k]:=List.getElem?_eq_getElem (by omega);have hd:s.l.drop k=s.l[k]::s.l.drop (k+1):=List.drop_eq_getElem_cons (by omega);have e1:((k+1:Nat):Int) - 1=(k:Int):=by omega
   rw[e1];by_cases h:s.l[k]=c
   ·
    refine⟨.inr (k:Int),xw ?_,.inl ⟨s.l.take k,s.l.drop (k+1),?_,hc,by simp;omega⟩⟩
    ·
     unfold zI;rw[if_pos (by simp[cmpI]),zG,hb,obS,if_pos (by simp[cmpB,h])]
    ·
     rw[← h,← hd,List.take_append_drop]
   ·
    have hs1:zI s c (k:Int)=some (.inl ((k:Int) - 1)):=by
     unfold zI;rw[if_pos (by simp[cmpI]),zG,hb,obS,if_neg (by simp[cmpB,h]),xU (by omega) (by omega),obS]
    rw[qV hs1];exact ih (by omega) (by rw[hd];simp only[List.mem_cons,not_or];exact⟨λ e=>h e.symm,hc⟩)
 obtain⟨r,h1,h2⟩:=key s.l.length (Nat.le_refl _) (by simp);have hl:zS s c=Option.bind (some r) (Sum.elim (λ _=>some (-1)) some):=by
  unfold zS yL;rw[xU (by omega) (by omega),obS,qO h1 (by omega)];cases r <;> rfl
 rcases h2 with⟨pre,post,e1,e2,rfl⟩ | ⟨e1,rfl⟩
 ·
  exact .inl ⟨pre,post,e1,e2,hl⟩
 ·
  exact .inr ⟨e1,hl⟩
theorem zbu{s:Str}{pre post:List UInt8}(h:s.l=pre++46::post)(hp:(46:UInt8) ∉ post):zq s dot=zq ⟨pre⟩ dot++[⟨post⟩]:=by
 have e:s=⟨((⟨pre⟩:Str).l++[46])++(⟨post⟩:Str).l⟩:=by
  cases s;simp only at h ⊢;rw[h];simp
 have e2:zq ⟨post⟩ dot=[⟨post⟩]:=by
  rw[jk];show(cutF 46 post).map Str.mk=_;rw[QT 46 post hp];rfl
 rw[e,split_append,e2]
theorem split_none{s:Str}(h:(46:UInt8) ∉ s.l):zq s dot=[s]:=by
 rw[jk];show(cutF 46 s.l).map Str.mk=_;rw[QT 46 s.l h];rfl
theorem zar{s:Str}{pre post:List UInt8}(h:s.l=pre++46::post)(hp:(46:UInt8) ∉ post):zj s=⟨pre⟩/\xX s=⟨post⟩:=by
 unfold zj xX;rw[zbu h hp];constructor
 ·
  rw[List.length_append,List.length_singleton,Nat.add_sub_cancel,List.take_left];exact Wx ⟨pre⟩
 ·
  simp
theorem XC{s:Str}(h:(46:UInt8) ∉ s.l):zj s=emptyS/\xX s=s:=by
 unfold zj xX;rw[split_none h];exact⟨rfl,rfl⟩
theorem Zm{s:Str}(hv:zg s=true):yJ s=some (zj s):=by
 have hl:=xm hv;unfold yJ;rcases QV s 46 (by omega) with⟨pre,post,e1,e2,e3⟩ | ⟨e1,e3⟩
 ·
  rw[show zS s (UInt8.ofNat 46)=some (pre.length:Int) from e3,obS,wP (wa hv),obS,hv,if_neg (by simp[cmpI]),Jj (by rw[e1,List.length_append];omega),obS,(zar e1 e2).1,e1,List.take_left]
 ·
  rw[show zS s (UInt8.ofNat 46)=some (-1) from e3,obS,wP (wa hv),obS,hv,if_pos (by simp[cmpI]),(XC e1).1];rfl
theorem LastOf_eq{s:Str}(hv:zg s=true):jl s=some (xX s):=by
 have hl:=xm hv;unfold jl;rw[wP (wa hv),obS,hv,if_neg (by decide)];rcases QV s 46 (by omega) with⟨pre,post,e1,e2,e3⟩ | ⟨e1,e3⟩
 ·
  have hlen:pre.length+1<=s.l.length:=by rw[e1,List.length_append,List.length_cons];omega
  rw[show zS s (UInt8.ofNat 46)=some (pre.length:Int) from e3,obS,z7 (by omega),obS,Jk hlen,obS,(zar e1 e2).2,e1]
  congr 2
  rw[show pre++46::post=(pre++[46])++post by simp,List.drop_left' (by simp)]
 ·
  rw[show zS s (UInt8.ofNat 46)=some (-1) from e3,obS,show((-1:Int)+1)=((0:Nat):Int) from rfl,xU (by omega) (by omega),obS,Jk (by omega),obS,(XC e1).2];rfl
open Go.RowKit
theorem name_of{s:Str}(hv:zg s=true):s=child (zj s) (xX s):=by
 have hl:=xm hv;rcases QV s 46 (by omega) with⟨pre,post,e1,e2,_⟩ | ⟨e1,_⟩
 ·
  obtain⟨h1,h2⟩:=zar e1 e2;rw[h1,h2];unfold child;by_cases he:(⟨pre⟩:Str)=emptyS
  ·
   have hpre:pre=[]:=by injection he
   subst hpre;have hs:=zbu e1 e2;have h3:=(xR hv).1 ⟨[]⟩ (by rw[hs];exact List.mem_append_left _ (by decide));exact absurd (XP h3).1 (by simp)
  ·
   rw[if_neg he];cases s;simp only at e1;rw[e1];simp
 ·
  obtain⟨h1,h2⟩:=XC e1;rw[h1,h2];rfl
open Go.RowKit
section
variable{α:Type}[DecidableEq α]
def addU(out:List α)(x:α):List α:=if x∈out then out else out++[x]
def addAll(out l:List α):List α:=l.foldl addU out
def uniq(l:List α):List α:=addAll [] l
theorem nodupLen:∀ {l m:List α},l.Nodup->(∀ x∈l,x∈m)->l.length<=m.length
 | [],_,_,_=>Nat.zero_le _
 |
  x::l,m,hn,hs=>by
  rw[List.nodup_cons] at hn;have hx:=hs x (List.mem_cons_self ..);have h1:=nodupLen (l:=l) (m:=m.erase x) hn.2 λ y hy=>(List.mem_erase_of_ne (by intro e;subst e;exact hn.1 hy)).2 (hs y (List.mem_cons_of_mem _ hy))
  have h2:=List.length_erase_of_mem hx;have h3:=List.length_pos_of_mem hx;rw[List.length_cons];omega
inductive Way (E:α->List α) (l:List α):α->Prop
 | here {x}:x∈l->Way E l x
 | step {x y}:Way E l x->y∈E x->Way E l y
omit [DecidableEq α] in
theorem Way.mono{E:α->List α}{l m:List α}(h:∀ x∈l,Way E m x){x:α}(hw:Way E l x):Way E m x:=by
 induction hw with
 | here hx=>exact h _ hx
 | step _ hy ih=>exact .step ih hy
end
open Go.RowKit
def upN:Nat->Str->Str
 | 0,p=>p
 | n+1,p=>upN n (zj p)
def Zn(p:Str)(lv:Int)(m:Str):Str:=if cmpI .eql lv 0=true then m else if upN (lv - 1).toNat p=emptyS then emptyS else if m=emptyS then upN (lv - 1).toNat p else child (upN (lv - 1).toNat p) m
def stName(p:Str)(s:Stmt):Str:=if(cmpI .eql s.kind 0||cmpI .eql s.kind 2)=true then s.module else if cmpI .eql s.kind 1=true then Zn p s.level s.module else emptyS
def XR(t:List File)(k:Int):File:=(t[k.toNat]?).getD default
theorem idxOf_some{α:Type}{p:α->Bool}{l:List α}(h:cmpI .lss (xA p l) 0=false):∃ x,l[(xA p l).toNat]?=some x/\p x=true:=by
 unfold xA at h ⊢;cases e:l.findIdx? p with
 | none=>rw[e] at h;exact absurd h (by decide)
 |
  some i=>
  rw[List.findIdx?_eq_some_iff_getElem] at e;obtain⟨hi,h1,_⟩:=e;exact⟨l[i],by simp only[Int.toNat_natCast];exact List.getElem?_eq_getElem hi,h1⟩
theorem lss_geq(n:Int):cmpI .geq n 0=!cmpI .lss n 0:=by
 unfold cmpI;by_cases h:n<0
 ·
  have:¬ n>=0:=by omega
  simp[h,this]
 ·
  have:n>=0:=by omega
  simp[h,this]
theorem Xj{t:Tree}(hv:zR t=true){f:File}(hf:f∈t.files):jK f.body=true:=by
 have h:=Ja hv hf;unfold wm at h;cases hb:jK f.body with
 | true=>rfl
 | false=>rw[hb,if_pos (by simp)] at h;cases h
open Go.RowKit
section
variable{t:Tree}{path:List Int}{s:Str}
end
section
variable{t:Tree}{path:List Int}{s:Str}
end
open Go.RowKit
open Go.RowKit
theorem any_mem'{l:List Str}{x:Str}:l.any (λ y=>decide (x=y))=decide (x∈l):=by
 rw[Bool.eq_iff_iff,List.any_eq_true];simp
theorem ContainsS_eq{l:List Str}{x:Str}(h:l.length<=1048576):yv l x=some (decide (x∈l)):=by
 unfold yv xQ;have hl:zW (λ s4=>ye l x s4) 0=some (match l.findIdx? (λ y=>decide (x=y)) with | some i=>(Sum.inr (i:Int):Unit⊕Int) | none=>Sum.inl ()):=by
  refine Wa l (λ y=>decide (x=y)) (λ i=>Sum.inr i) _ (λ k y hx hlt=>?_) ?_ (by omega) rfl
  ·
   unfold ye;rw[zM,if_pos (decide_eq_true hlt),zG,hx,obS,z7 (by omega)];cases decide (x=y) <;> rfl
  ·
   unfold ye;rw[zM,if_neg (by simp)]
 have e:Option.bind (α:=Unit⊕Int) (zW (λ s4=>ye l x s4) 0) (Sum.elim (λ _=>some (-1)) some)=some (xA (λ y=>decide (x=y)) l):=by
  rw[hl];unfold xA;cases l.findIdx? (λ y=>decide (x=y)) <;> rfl
 rw[e,obS,W9,any_mem']
theorem QW{p:Str}(h:zu p=true):mid p:=by have:=x9 h;unfold mid;omega
theorem Wz:zj emptyS=emptyS:=by
 have:(46:UInt8) ∉ emptyS.l:=by decide
 exact(XC this).1
theorem Xk{p:Str}(h:zu p=true):zu (zj p)=true:=by
 unfold zu at h;rw[Bool.or_eq_true,decide_eq_true_eq] at h;rcases h with h | h
 ·
  rw[h,Wz];rfl
 ·
  exact pre_valid h _
theorem zas:∀ n,upN n emptyS=emptyS
 | 0=>rfl
 |
  n+1=>by
  unfold upN;rw[Wz];exact zas n
theorem upN_pkg:∀ n {p:Str},zu p=true->zu (upN n p)=true
 | 0,_,h=>h
 | n+1,_,h=>upN_pkg n (Xk h)
theorem spec_base_eq{p:Str}(hp:zu p=true){n:Nat}(hn:n<=10):YJ p ((n:Int)+1)=some (upN n p,decide (upN n p≠(⟨[]⟩:Str))):=by
 have key:∀ (k i:Nat) (q:Str),zu q=true->i+k=n->∃ r,jU (λ s4=>wT ((n:Int)+1) s4) (k+1) (q,((i+1:Nat):Int))=some r/\(r=.inl (upN k q)\/(r=.inr ((⟨[]⟩:Str),false)/\upN k q=emptyS)):=by
  intro k
  induction k with
  |
   zero=>
   intro i q hq hi;refine⟨.inl q,xw ?_,.inl rfl⟩;unfold wT;simp only;rw[show((n:Int)+1)=((n+1:Nat):Int) by omega,zM,if_neg (by simp;omega)]
  |
   succ k ih=>
   intro i q hq hi;have hlt:cmpI .lss ((i+1:Nat):Int) ((n:Int)+1)=true:=by unfold cmpI;exact decide_eq_true (by omega)
   by_cases he:q=(⟨[]⟩:Str)
   ·
    refine⟨.inr ((⟨[]⟩:Str),false),xw ?_,.inr ⟨rfl,?_⟩⟩
    ·
     unfold wT;simp only;rw[if_pos hlt,if_pos (decide_eq_true he)]
    ·
     rw[he];exact zas _
   ·
    have hs:wT ((n:Int)+1) (q,((i+1:Nat):Int))=some (.inl (zj q,((i+1+1:Nat):Int))):=by
     unfold wT;simp only;rw[if_pos hlt,if_neg (by simpa using he),show y9 q=some (zj q) from if_pos (QW hq),obS,z7 (by omega)];rfl
    obtain⟨r,h1,h2⟩:=ih (i+1) (zj q) (Xk hq) (by omega);exact⟨r,by rw[qV hs];exact h1,h2⟩
 obtain⟨r,h1,h2⟩:=key n 0 p hp (by omega);unfold YJ;rw[show(1:Int)=((0+1:Nat):Int) from rfl,qO (by simpa using h1) (by omega)];rcases h2 with rfl | ⟨rfl,h3⟩
 ·
  rfl
 ·
  rw[h3];rfl
theorem Jc{p m:Str}{lv:Int}:Zn p lv m=if lv=0 then m else if upN (lv - 1).toNat p=emptyS then emptyS else if m=emptyS then upN (lv - 1).toNat p else child (upN (lv - 1).toNat p) m:=by
 unfold Zn;by_cases h:lv=0
 ·
  rw[if_pos h,if_pos (by simp[cmpI,h])]
 ·
  rw[if_neg h,if_neg (by simp[cmpI,h])]
theorem za5{p m:Str}{lv:Int}(hp:zu p=true)(h0:0<=lv)(h1:lv<=4)(hm:sho m):Zf p lv m=some (Zn p lv m):=by
 rw[Jc];unfold Zf;by_cases h:lv=0
 ·
  rw[if_pos h,if_pos (by simp[cmpI,h])]
 ·
  rw[if_neg h,if_neg (by simp[cmpI,h])];obtain⟨n,hn⟩:∃ n:Nat,lv=(n:Int)+1:=⟨(lv - 1).toNat,by omega⟩;have hu:=upN_pkg n hp;rw[show(lv - 1).toNat=n by omega,hn,spec_base_eq hp (by omega),obS];by_cases he:upN n p=emptyS
  ·
   rw[if_pos he];simp only[he];rfl
  ·
   rw[if_neg he];have he':decide (upN n p≠(⟨[]⟩:Str))=true:=decide_eq_true he;simp only[he'];rw[if_neg (by decide)];by_cases hm0:m=emptyS
   ·
    rw[if_pos hm0,if_pos (decide_eq_true (show m=(⟨[]⟩:Str) from hm0))]
   ·
    have hlu:=x9 hu;unfold sho at hm;rw[if_neg hm0,if_neg (by simpa using(show ¬ m=(⟨[]⟩:Str) from hm0)),show Zw (upN n p) m=some (child (upN n p) m) from if_pos (by omega),obS]
theorem ZR{st:Stmt}(h:zU st=true):((st.kind=0\/st.kind=2)/\zg st.module=true)\/(st.kind=1/\zu st.module=true/\0<=st.level/\st.level<=3)\/(st.kind≠0/\st.kind≠1/\st.kind≠2):=by
 unfold zU at h;by_cases h0:st.kind=0
 ·
  rw[if_pos (by simp[cmpI,h0])] at h;simp only[Bool.and_eq_true] at h;exact .inl ⟨.inl h0,h.1.1.1⟩
 ·
  rw[if_neg (by simp[cmpI,h0])] at h;by_cases h1:st.kind=1
  ·
   rw[if_pos (by simp[cmpI,h1])] at h;simp only[Bool.and_eq_true,inR] at h;have h2:=h.1.1.1.2;simp[cmpI] at h2;exact .inr (.inl ⟨h1,h.1.1.1.1,by omega,by omega⟩)
  ·
   rw[if_neg (by simp[cmpI,h1])] at h;by_cases h2:st.kind=2
   ·
    rw[if_pos (by simp[cmpI,h2])] at h;simp only[Bool.and_eq_true] at h;exact .inl ⟨.inr h2,h.1.1.1⟩
   ·
    exact .inr (.inr ⟨h0,h1,h2⟩)
theorem zat(p s:Str):(child p s).l.length<=p.l.length+s.l.length+1:=by
 unfold child;split
 ·
  omega
 ·
  simp only[List.length_append,List.length_singleton];omega
theorem stName_sho{p:Str}{st:Stmt}(hp:zu p=true)(h:zU st=true):sho (stName p st):=by
 unfold stName sho;rcases ZR h with⟨h1,h2⟩ | ⟨h1,h2,h3,h4⟩ | ⟨h1,h2,h3⟩
 ·
  have:=xm h2;rw[if_pos (by rcases h1 with h1 | h1 <;> simp[cmpI,h1])];omega
 ·
  rw[if_neg (by simp[cmpI,h1]),if_pos (by simp[cmpI,h1]),Jc];have h5:=x9 h2;have h6:=x9 (upN_pkg (st.level - 1).toNat hp);have h7:=zat (upN (st.level - 1).toNat p) st.module;split
  ·
   omega
  ·
   split
   ·
    exact Nat.zero_le _
   ·
    split <;> omega
 ·
  rw[if_neg (by simp[cmpI,h1,h3]),if_neg (by simp[cmpI,h2])];exact Nat.zero_le _
section
variable{t:Tree}{path:List Int}
end
open Go.RowKit
section
variable{t:Tree}{path:List Int}
variable{s:Str}
end
open Go.RowKit
def orE(s:Str):Str:=if zg s=true then s else emptyS
theorem ParentOf_any{p:Str}(h:zu p=true):yJ p=some (zj p):=by
 unfold zu at h;rw[Bool.or_eq_true,decide_eq_true_eq] at h;rcases h with h | h
 ·
  rw[h,Wz];unfold yJ;rcases QV emptyS 46 (by decide) with⟨pre,post,e1,_,_⟩ | ⟨_,e3⟩
  ·
   have:=congrArg List.length e1;simp[emptyS] at this
  ·
   rw[show zS emptyS (UInt8.ofNat 46)=some (-1) from e3,obS,wP (show sho emptyS from Nat.zero_le _),obS];rfl
 ·
  exact Zm h
theorem resolve_loop{p:Str}(hp:zu p=true){n:Nat}(hn:n<=10):zW (λ s17=>yD s17) (p,(n:Int)+1)=some (upN n p):=by
 have key:∀ (k:Nat) (q:Str),k<=10->zu q=true->jU (λ s17=>yD s17) (k+1) (q,((k:Int)+1))=some (upN k q):=by
  intro k
  induction k with
  |
   zero=>
   intro q _ hq;refine xw ?_;unfold yD;rw[if_neg (by simp[cmpI])];rfl
  |
   succ k ih=>
   intro q hk hq;have hgt:cmpI .gtr (((k+1:Nat):Int)+1) 1=true:=by unfold cmpI;exact decide_eq_true (by omega)
   by_cases he:q=(⟨[]⟩:Str)
   ·
    refine xw ?_;unfold yD;simp only;rw[he,if_neg (by simp),show upN (k+1) (⟨[]⟩:Str)=emptyS from zas _];rfl
   ·
    have hs:yD (q,(((k+1:Nat):Int)+1))=some (.inl (zj q,((k:Int)+1))):=by
     unfold yD;simp only;rw[hgt,if_pos (by simpa using he),ParentOf_any hq,obS,show(((k+1:Nat):Int)+1 - 1)=((k:Int)+1) by omega,xU (by omega) (by omega)];rfl
    rw[qV hs];exact ih (zj q) (by omega) (Xk hq)
 exact qO (key n p hn hp) (by omega)
theorem pkg_sho{p:Str}(h:zu p=true):sho p:=by have:=x9 h;unfold sho;omega
theorem zbv{p m:Str}{lv:Int}(hp:zu p=true)(hm:zu m=true)(h0:0<=lv)(h1:lv<=3):jx p lv m=some (orE (Zn p lv m)):=by
 rw[Jc];unfold jx;have hw:yy lv 0 4=some true:=by
  unfold yy cmpI;simp only[ge_iff_le];rw[decide_eq_true h0,decide_eq_true (show lv<=4 by omega)];rfl
 rw[Ye (pkg_sho hp),obS,Ye (pkg_sho hm),hw,hp,hm];simp only[Bool.not_true,beq_self_eq_true,yZ,obS,Bool.or_self,Bool.false_eq_true,if_false];unfold orE;by_cases h:lv=0
 ·
  rw[if_pos h,if_pos (by simp[cmpI,h])];unfold zu at hm;rw[Bool.or_eq_true,decide_eq_true_eq] at hm;rcases hm with hm | hm
  ·
   rw[hm,qP];rfl
  ·
   rw[if_pos hm]
 ·
  rw[if_neg h,if_neg (by simp[cmpI,h])];obtain⟨n,hn⟩:∃ n:Nat,lv=(n:Int)+1:=⟨(lv - 1).toNat,by omega⟩;have hu:=upN_pkg n hp;have hul:=x9 hu;have hml:=x9 hm;rw[show(lv - 1).toNat=n by omega,hn,resolve_loop hp (by omega),obS];by_cases he:upN n p=emptyS
  ·
   rw[if_pos he,if_pos (decide_eq_true (show upN n p=(⟨[]⟩:Str) from he)),qP];rfl
  ·
   rw[if_neg he,if_neg (by simpa using(show ¬ upN n p=(⟨[]⟩:Str) from he))];have hend:∀ q:Str,sho q->((yl q).bind λ v44=>if(!v44)=true then(some (⟨[]⟩:Str)) else(some q))=some (if zg q=true then q else emptyS):=λ q hq=>by
    rw[wP hq,obS];cases zg q <;> rfl
   by_cases hm0:m=emptyS
   ·
    rw[if_pos hm0,if_neg (by simpa using(show m=(⟨[]⟩:Str) from hm0)),obS];exact hend _ (pkg_sho hu)
   ·
    rw[if_neg hm0,if_pos (by simpa using(show ¬ m=(⟨[]⟩:Str) from hm0)),Yy (by simp;omega),obS,Yy (by simp;omega),obS,obS];have e:(⟨(upN n p).l++([46]++m.l)⟩:Str)=child (upN n p) m:=by
     unfold child;rw[if_neg he];simp
    simp only[e];refine hend _ ?_;have:=zat (upN n p) m;unfold sho;omega
section
variable{t:Tree}{path:List Int}
variable{s:Str}
end
open Go.RowKit
open Go.RowKit
end Go.Proofs.YtnlhpkbphdbknaaGreatDoor
