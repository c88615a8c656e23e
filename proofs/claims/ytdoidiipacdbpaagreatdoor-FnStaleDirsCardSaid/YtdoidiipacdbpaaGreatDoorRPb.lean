import Derived.Test.YtdoidiipacdbpaaGreatDoorRI
import Derived.Test.YtdoidiipacdbpaaGreatDoorRKc
import Derived.Test.YtdoidiipacdbpaaGreatDoorRP
namespace Go.Proofs.YtdoidiipacdbpaaGreatDoor
open Go.RowKit
def Rok(k:Int)(r:Reader):Prop:=r.b.length<=2000/\0<=r.p/\r.p<=k
def Dr{α:Type}(k:Int)(x:Option (Reader×α))(P:α->Prop):Prop:=∃ r v,x=some (r,v)/\Rok k r/\P v
theorem Dr.bind{α β:Type}{k k':Int}{x:Option (Reader×α)}{P:α->Prop}{f:Reader×α->Option (Reader×β)}{Q:β->Prop}(h:Dr k x P)(hf:∀ r v,Rok k r->P v->Dr k' (f (r,v)) Q):Dr k' (x.bind f) Q:=by
 obtain⟨r,v,h1,h2,h3⟩:=h;rw[h1];exact hf r v h2 h3
theorem Dr.pure{α:Type}{k:Int}{r:Reader}{v:α}{P:α->Prop}(h:Rok k r)(hp:P v):Dr k (some (r,v)) P:=⟨r,v,rfl,h,hp⟩
theorem Rok.le{k k':Int}{r:Reader}(h:Rok k r)(hk:k<=k'):Rok k' r:=⟨h.1,h.2.1,Int.le_trans h.2.2 hk⟩
theorem Dr.mono{α:Type}{k k':Int}{x:Option (Reader×α)}{P Q:α->Prop}(h:Dr k x P)(hk:k<=k')(hp:∀ v,P v->Q v):Dr k' x Q:=by
 obtain⟨r,v,h1,h2,h3⟩:=h;exact⟨r,v,h1,h2.le hk,hp v h3⟩
theorem JA{α:Type}{l:List α}{i:Int}(h0:0<=i)(h:i<l.length):∃ x,atI l i=some x/\x∈l:=by
 obtain⟨n,rfl⟩:=Int.eq_ofNat_of_zero_le h0;obtain⟨x,hx,hm⟩:=xM (l:=l) (k:=n) (by omega);exact⟨x,by rw[yb,hx],hm⟩
theorem xorI_nn{m n:Int}(hm:0<=m)(hm2:m<4611686018427387904)(hn:0<=n)(hn2:n<4611686018427387904):0<=xorI m n:=by
 obtain⟨a,rfl⟩:=Int.eq_ofNat_of_zero_le hm;obtain⟨b,rfl⟩:=Int.eq_ofNat_of_zero_le hn;have h1:∀ c:Nat,c<4611686018427387904->(BitVec.ofInt 64 (c:Int)).toNat=c:=λ c hc=>by
  rw[BitVec.toNat_ofInt];omega
 have h2:(BitVec.ofInt 64 (a:Int) ^^^ BitVec.ofInt 64 (b:Int)).toNat=a ^^^ b:=by
  rw[BitVec.toNat_xor,h1 a (by omega),h1 b (by omega)]
 have h3:a ^^^ b<2 ^ 62:=Nat.xor_lt_two_pow (by omega) (by omega);have h4:(2:Nat) ^ 62=4611686018427387904:=by decide
 unfold xorI;show 0<=IntKind.i64.wrap ((BitVec.ofInt 64 (a:Int) ^^^ BitVec.ofInt 64 (b:Int)).toNat:Int);rw[h2,QA _ (by omega)];omega
theorem xZ{k:Int}{r:Reader}(n:Int)(h:Rok k r)(hk:k<=1000000):Dr (k+1) (zz r n) (λ v=>0<=v/\(1<=n->v<n)):=by
 obtain⟨h1,h2,h3⟩:=h;unfold zz;rw[wn (by omega) (by omega),obS];have hr:Rok (k+1) { r with p:=r.p+1 }:=⟨h1,by show 0<=r.p+1;omega,by show r.p+1<=k+1;omega⟩;cases hc:cmpI .lss n 1||cmpI .eql (r.b.length:Int) 0 with
 |
  true=>
  rw[if_pos rfl];refine .pure hr ⟨Int.le_refl _,λ h=>by omega⟩
 |
  false=>
  rw[Bool.or_eq_false_iff] at hc;have hn:¬ n<1:=of_decide_eq_false hc.1;have hl:¬ (r.b.length:Int)=0:=by simpa[cmpI] using hc.2
  have hres:∀ x:Int,0<=x->Dr (k+1) ((modO x n).bind λ v=>some ({ r with p:=r.p+1 },v)) (λ v=>0<=v/\(1<=n->v<n)):=λ x hx=>by
   rw[modO_of (by omega),obS];exact .pure hr ⟨Int.tmod_nonneg _ hx,λ _=>Int.tmod_lt_of_pos _ (by omega)⟩
  rw[if_neg (by decide),show r.p+1 - 1=r.p by omega,wn (by omega) (by omega),obS];cases hlt:cmpI .lss r.p (r.b.length:Int) with
  |
   true=>
   obtain⟨x,hx,_⟩:=JA h2 (oD hlt);rw[if_pos rfl,hx,obS];exact hres _ (by omega)
  |
   false=>
   have hm:∀ x:Int,0<=x->∃ y,modO x (r.b.length:Int)=some y/\0<=y/\y<(r.b.length:Int):=λ x hx=>⟨_,modO_of (by omega),Int.tmod_nonneg _ hx,Int.tmod_lt_of_pos _ (by omega)⟩
   obtain⟨y1,e1,a1,b1⟩:=hm r.p h2;obtain⟨x1,f1,_⟩:=JA a1 b1;obtain⟨y2,e2,a2,b2⟩:=hm (r.p*7+3) (by omega);obtain⟨x2,f2,_⟩:=JA a2 b2;have u1:=x1.toNat_lt;have u2:=x2.toNat_lt;have hd1:0<=r.p.tdiv (r.b.length:Int):=Int.tdiv_nonneg h2 (by omega);have hd2:r.p.tdiv (r.b.length:Int)<=r.p:=Int.tdiv_le_self _ h2;rw[if_neg (by decide),e1,obS,f1,obS,wn (by omega) (by omega),obS,wn (by omega) (by omega),obS,wn (by omega) (by omega),obS,e2,obS,f2,obS,wn (by omega) (by omega),obS,wn (by omega) (by omega),obS,wn (by omega) (by omega),obS,wn (by omega) (by omega),obS,divO_of (by omega) (by omega) (by omega),obS,wn (by omega) (by omega),obS,wn (by omega) (by omega),obS];generalize hz:(x1.toNat:Int)*131+(x2.toNat:Int)*1117+r.p*29+r.p.tdiv (r.b.length:Int)*53=z;have hz0:0<=z/\z<4611686018427387904:=by omega
   have hz1:0<=z.tdiv 64:=Int.tdiv_nonneg hz0.1 (by omega);have hz2:z.tdiv 64<=z:=Int.tdiv_le_self _ hz0.1;rw[divO_of (by decide) (by omega) (by omega),obS];exact hres _ (xorI_nn hz0.1 hz0.2 hz1 (by omega))
theorem Dr.ite{α:Type}{k:Int}{c:Prop}[Decidable c]{x y:Option (Reader×α)}{P:α->Prop}(h1:c->Dr k x P)(h2:¬ c->Dr k y P):Dr k (if c then x else y) P:=by
 split
 ·
  exact h1 (by assumption)
 ·
  exact h2 (by assumption)
theorem Dr.any{α γ:Type}{k:Int}{x:Option γ}{f:γ->Option (Reader×α)}{P:α->Prop}(hx:∃ o,x=some o)(hf:∀ o,Dr k (f o) P):Dr k (x.bind f) P:=by
 obtain⟨o,rfl⟩:=hx;exact hf o
theorem Dr.some{α γ:Type}{k:Int}{x:Option γ}{o:γ}{f:γ->Option (Reader×α)}{P:α->Prop}(hx:x=some o)(hf:Dr k (f o) P):Dr k (x.bind f) P:=by
 rw[hx];exact hf
theorem JB{k:Int}{r:Reader}{l:List Int}(P:Int->Prop)(h:Rok k r)(hk:k<=1000000)(h0:0<l.length)(hP:∀ x∈l,P x):Dr (k+1) (yF r l) P:=by
 unfold yF;refine .bind (xZ _ h hk) λ r1 v h1 hv=>?_
 obtain⟨x,hx,hm⟩:=JA hv.1 (hv.2 (by omega));exact .some hx (.pure h1 (hP x hm))
theorem of_ok{k:Int}{r:Reader}{l:List Str}(P:Str->Prop)(h:Rok k r)(hk:k<=1000000)(h0:0<l.length)(hP:∀ x∈l,P x):Dr (k+1) (xK r l) P:=by
 unfold xK;refine .bind (xZ _ h hk) λ r1 v h1 hv=>?_
 obtain⟨x,hx,hm⟩:=JA hv.1 (hv.2 (by omega));exact .some hx (.pure h1 (hP x hm))
theorem ZZ{k:Int}{r:Reader}(h:Rok k r)(hk:k<=1000000):Dr (k+1) (yJ r) (λ s=>s.l.length<=1):=by
 unfold yJ;refine .bind (of_ok (λ s=>s.l.length<=1) h hk (by decide) (by decide)) λ r1 v h1 hv=>.pure h1 hv
theorem zaT{σ:Type}{step:Reader×σ×Int->Option ((Reader×σ×Int)⊕(Reader×σ))}(K:Nat->Int)(P:Nat->σ->Prop)(m:Nat)(hK:∀ i j,i<=j->K i<=K j)
  (h:∀ j r x n,j<m->Rok (K j) r->P j x->0<n->n+(j:Int)<=m->∃ r' x',step (r,x,n)=some (.inl (r',x',n - 1))/\Rok (K (j+1)) r'/\P (j+1) x')
  (hend:∀ r x n,n<=0->step (r,x,n)=some (.inr (r,x))) (hm:m<=1000) {r:Reader} {x:σ} {n:Int} (h0:Rok (K 0) r) (hx:P 0 x) (hn:n<=m):Dr (K m) (zS step (r,x,n)) (λ y=>∃ j,j<=m/\P j y):=by
 have key:∀ q j r x n,j+q=m->Rok (K j) r->P j x->n<=(q:Int)->∃ r' y,qL step (q+1) (r,x,n)=some (r',y)/\Rok (K m) r'/\∃ j',j'<=m/\P j' y:=by
  intro q
  induction q with
  | zero=>intro j r x n hj hr hx hn;exact⟨r,x,qF (hend r x n (by omega)),hr.le (hK _ _ (by omega)),j,by omega,hx⟩
  |
   succ q ih=>
   intro j r x n hj hr hx hn;by_cases hn0:n<=0
   ·
    exact⟨r,x,qF (hend r x n hn0),hr.le (hK _ _ (by omega)),j,by omega,hx⟩
   ·
    obtain⟨r',x',h1,h2,h3⟩:=h j r x n (by omega) hr hx (by omega) (by omega);rw[YL h1];exact ih (j+1) r' x' (n - 1) (by omega) h2 h3 (by omega)
 obtain⟨r',y,h1,h2,h3⟩:=key m 0 r x n (by omega) h0 hx hn;exact⟨r',y,Yn h1 (by omega),h2,h3⟩
theorem zam{k:Int}{r:Reader}(h:Rok k r)(hk:k<=900000):Dr (k+10) (xY r) (λ s=>s.l.length<=8):=by
 unfold xY;refine .bind (ZZ h (by omega)) λ r1 s h1 hs=>?_
 refine .bind (k:=k+10) (P:=λ s=>s.l.length<=8) ?_ λ r3 s3 h3 hs3=>.pure h3 hs3
 refine .bind (JB (λ n=>n<=2) h1 (by omega) (by decide) (by decide)) λ r2 n h2 hn=>?_
 refine(zaT (λ j=>k+2+j) (λ j (s:Str)=>s.l.length<=1+2*j) 2 (λ i j hij=>by omega) (λ j r x n hj hr hx hn hb=>?_) (λ r x n hn=>?_) (by omega) (h2.le (by show k+1+1<=k+2+((0:Nat):Int);omega)) (by show s.l.length<=1+2*0;omega) (by exact hn)).mono (by show k+2+((2:Nat):Int)<=k+10;omega) (λ y ⟨j,hj,hy⟩=>by omega)
 ·
  obtain⟨r',v,e1,e2,e3⟩:=ZZ hr (by omega);have e3':v.l.length<=1:=e3;refine⟨r',⟨(x.l++[46])++v.l⟩,?_,e2.le (by show k+2+(j:Int)+1<=k+2+((j+1:Nat):Int);omega),?_⟩
  ·
   unfold jb;dsimp only;rw[if_pos (by simp[cmpI];omega),Zh (by show x.l.length+1<=_;omega),obS,e1,obS,Zh (by rw[List.length_append];show x.l.length+1+v.l.length<=_;omega),obS,wn (by omega) (by omega),obS]
  ·
   show(x.l++[46]++v.l).length<=_;simp only[List.length_append,List.length_singleton];omega
 ·
  unfold jb;dsimp only;rw[if_neg (by simp[cmpI];omega)]
theorem Dr.step{α β:Type}{k:Int}{x:Option (Reader×α)}{P:α->Prop}{f:Reader×α->Option β}{Q:β->Prop}(hx:Dr k x P)(hf:∀ r v,Rok k r->P v->∃ y,f (r,v)=Option.some y/\Q y):∃ y,x.bind f=Option.some y/\Q y:=by
 obtain⟨r,v,h1,h2,h3⟩:=hx;rw[h1];exact hf r v h2 h3
theorem zb8{k:Int}{r:Reader}(h:Rok k r)(hk:k<=900000):Dr (k+12) (jH r) (λ s=>s.l.length<=16):=by
 unfold jH;refine .bind (zam h hk) λ r1 s h1 hs=>.bind (xZ 20 h1 (by omega)) λ r2 v h2 _=>?_
 have hs':s.l.length<=8:=hs;refine .ite (λ _=>.some (Zh (m:=s) (by show s.l.length+1<=_;omega)) (.pure (h2.le (by omega)) (by show(s.l++[46]).length<=16;rw[List.length_append];show s.l.length+1<=16;omega))) λ _=>?_
 exact .ite (λ _=>.bind (of_ok (λ s=>s.l.length<=16) h2 (by omega) (by decide) (by decide)) λ r3 v h3 hv=>.pure (h3.le (by omega)) hv) λ _=>.pure (h2.le (by omega)) (by show s.l.length<=16;omega)
def smS(s:Stmt):Prop:=s.module.l.length<=16/\s.name.l.length<=16
theorem someStmt_ok{k:Int}{r:Reader}(h:Rok k r)(hk:k<=800000):Dr (k+30) (qX r) smS:=by
 unfold qX;refine .bind (xZ 9 h (by omega)) λ r1 v1 h1 _=>?_
 refine .any (by split <;> exact⟨_,rfl⟩) λ o7=>?_
 refine .ite (λ _=>.bind (zam h1 (by omega)) λ r2 s h2 hs=>.pure (h2.le (by omega)) ⟨Nat.le_trans hs (by decide),Nat.zero_le _⟩) λ _=>?_
 refine .ite (λ _=>?_) λ _=>?_
 ·
  refine .bind (JB (λ _=>True) h1 (by omega) (by decide) (λ _ _=>trivial)) λ r2 n h2 _=>.bind (zam h2 (by omega)) λ r3 s h3 hs=>?_
  refine .bind (k:=k+13) (P:=λ s=>s.l.length<=16) ?_ λ r4 m h4 hm=>.bind (ZZ h4 (by omega)) λ r5 q h5 hq=>.pure (h5.le (by omega)) ⟨hm,Nat.le_trans hq (by decide)⟩
  dsimp only;cases cmpI .gtr n 0 with
  |
   true=>
   refine .bind (xZ 2 h3 (by omega)) λ r4 v h4 _=>.ite (λ _=>.pure (h4.le (by omega)) (Nat.zero_le _)) λ _=>.pure (h4.le (by omega)) (Nat.le_trans hs (by decide))
  | false=>exact .pure (h3.le (by omega)) (Nat.le_trans hs (by decide))
 refine .ite (λ _=>.bind (zam h1 (by omega)) λ r2 s h2 hs=>.pure (h2.le (by omega)) ⟨Nat.le_trans hs (by decide),Nat.zero_le _⟩) λ _=>?_
 refine .any (by split;exact⟨_,rfl⟩;split <;> exact⟨_,rfl⟩) λ o62=>?_
 refine .ite (λ _=>.bind (of_ok (λ s=>s.l.length<=16) h1 (by omega) (by decide) (by decide)) λ r2 s h2 hs=>.bind (xZ 100 h2 (by omega)) λ r3 v h3 _=>.pure (h3.le (by omega)) ⟨Nat.zero_le _,hs⟩) λ _=>?_
 refine .ite (λ _=>.bind (of_ok (λ s=>s.l.length<=16) h1 (by omega) (by decide) (by decide)) λ r2 s h2 hs=>.pure (h2.le (by omega)) ⟨Nat.zero_le _,hs⟩) λ _=>?_
 refine .bind (xZ 3 h1 (by omega)) λ r2 v h2 _=>.ite (λ _=>.pure (h2.le (by omega)) ⟨Nat.zero_le _,Nat.zero_le _⟩) λ _=>.bind (xZ 100 h2 (by omega)) λ r3 v h3 _=>.pure (h3.le (by omega)) ⟨Nat.zero_le _,(by show 1<=16;omega)⟩
def smB(n:Nat)(b:List Stmt):Prop:=b.length<=n/\∀ s∈b,smS s
theorem smB.app{n:Nat}{b:List Stmt}{s:Stmt}(h:smB n b)(hs:smS s):smB (n+1) (b++[s]):=⟨by have:=h.1;simp;omega,λ x hx=>(List.mem_append.1 hx).elim (h.2 x) λ hx=>by rw[List.mem_singleton.1 hx];exact hs⟩
theorem smB.le{n m:Nat}{b:List Stmt}(h:smB n b)(hm:n<=m):smB m b:=⟨Nat.le_trans h.1 hm,h.2⟩
theorem someBody_ok{k:Int}{r:Reader}(h:Rok k r)(hk:k<=700000):Dr (k+170) (qY r) (smB 4):=by
 unfold qY;refine .bind (xZ 2 h (by omega)) λ r1 v1 h1 _=>?_
 refine .bind (k:=k+170) (P:=smB 4) ?_ λ r3 s3 h3 hs3=>.pure h3 hs3
 refine .bind (JB (λ n=>n<=4) h1 (by omega) (by decide) (by decide)) λ r2 n h2 hn=>?_
 refine(zaT (λ j=>k+2+40*j) (λ j x=>smB j x) 4 (λ i j hij=>by omega) (λ j r x n hj hr hx hn hb=>?_) (λ r x n hn=>?_) (by omega) (h2.le (by show k+1+1<=k+2+40*((0:Nat):Int);omega)) ⟨Nat.le_refl _,λ s hs=>by cases hs⟩ (by exact hn)).mono (by show k+2+40*((4:Nat):Int)<=k+170;omega) (λ y ⟨j,hj,hy⟩=>hy.le hj)
 ·
  have key:∃ y,wG (r1,v1) (r,x,n)=Option.some y/\∃ r' x',y=.inl (r',x',n - 1)/\Rok (k+2+40*((j+1:Nat):Int)) r'/\smB (j+1) x':=by
   unfold wG;rw[if_pos (by simp[cmpI];omega)];refine Dr.step (someStmt_ok hr (by omega)) λ r3 s h3 hs=>?_
   refine Dr.step (k:=k+2+40*j+31) (P:=smS) (.ite (λ _=>.bind (xZ 100 h3 (by omega)) λ r4 v h4 _=>.pure (h4.le (by omega)) ⟨Nat.zero_le _,(by show 1<=16;omega)⟩) λ _=>.pure (h3.le (by omega)) hs) λ r4 s2 h4 hs2=>?_
   have hl:=hx.1;refine⟨_,by dsimp only;rw[wq (by simp;omega) (by simp;omega),obS,wn (by omega) (by omega),obS],r4,_,rfl,h4.le (by omega),hx.app hs2⟩
  obtain⟨y,e,r',x',rfl,e2,e3⟩:=key;exact⟨r',x',e,e2,e3⟩
 ·
  unfold wG;dsimp only;rw[if_neg (by simp[cmpI];omega)]
def smF(n:Nat)(f:File):Prop:=f.pkg.l.length<=16/\f.name.l.length<=16/\smB n f.body
theorem someFile_ok{k:Int}{r:Reader}(h:Rok k r)(hk:k<=600000):Dr (k+200) (q5 r) (smF 4):=by
 unfold q5;refine .bind (JB (λ _=>True) h (by omega) (by decide) (λ _ _=>trivial)) λ r1 v1 h1 _=>.bind (xZ 100 h1 (by omega)) λ r2 v2 h2 _=>.bind (someBody_ok h2 (by omega)) λ r3 b h3 hb=>?_
 refine .bind (k:=k+200) (P:=smF 4) ?_ λ r4 f h4 hf=>.pure h4 hf
 refine .bind (xZ 6 h3 (by omega)) λ r4 v4 h4 _=>?_
 refine .any (by split <;> exact⟨_,rfl⟩) λ o30=>?_
 refine .ite (λ _=>.bind (ZZ h4 (by omega)) λ r5 s h5 hs=>.pure (h5.le (by omega)) ⟨Nat.zero_le _,Nat.le_trans hs (by decide),hb⟩) λ _=>?_
 refine .any (by split <;> exact⟨_,rfl⟩) λ o51=>?_
 refine .ite (λ _=>.bind (ZZ h4 (by omega)) λ r5 s h5 hs=>.bind (ZZ h5 (by omega)) λ r6 s2 h6 hs2=>.pure (h6.le (by omega)) ⟨Nat.le_trans hs (by decide),Nat.le_trans hs2 (by decide),hb⟩) λ _=>?_
 refine .ite (λ _=>.bind (ZZ h4 (by omega)) λ r5 s h5 hs=>.pure (h5.le (by omega)) ⟨Nat.le_trans hs (by decide),Nat.zero_le _,hb⟩) λ _=>?_
 refine .bind (ZZ h4 (by omega)) λ r5 s h5 hs=>?_
 have hs':s.l.length<=1:=hs;refine .some (Zh (m:=s) (by show s.l.length+1<=_;omega)) (.bind (ZZ h5 (by omega)) λ r6 s2 h6 hs2=>?_);have hs2':s2.l.length<=1:=hs2;have hlen:(s.l++[46]++s2.l).length<=16:=by simp only[List.length_append,List.length_singleton];omega
 refine .some (Zh (by simp only[List.length_append];show s.l.length+1+s2.l.length<=_;omega)) (.bind (xZ 2 h6 (by omega)) λ r7 v7 h7 _=>?_);exact .ite (λ _=>.pure (h7.le (by omega)) ⟨hlen,Nat.zero_le _,hb⟩) λ _=>.bind (ZZ h7 (by omega)) λ r8 s3 h8 hs3=>.pure (h8.le (by omega)) ⟨hlen,Nat.le_trans hs3 (by decide),hb⟩
def smT(n m:Nat)(t:Tree):Prop:=t.files.length<=n/\∀ f∈t.files,smF m f
theorem smF.le{n m:Nat}{f:File}(h:smF n f)(hm:n<=m):smF m f:=⟨h.1,h.2.1,h.2.2.le hm⟩
theorem smT.le{n m n' m':Nat}{t:Tree}(h:smT n m t)(hn:n<=n')(hm:m<=m'):smT n' m' t:=⟨Nat.le_trans h.1 hn,λ f hf=>(h.2 f hf).le hm⟩
theorem smT.app{n m:Nat}{t:Tree}{f:File}(h:smT n m t)(hf:smF m f):smT (n+1) m ⟨t.files++[f]⟩:=⟨by have:=h.1;simp;omega,λ x hx=>(List.mem_append.1 hx).elim (h.2 x) λ hx=>by rw[List.mem_singleton.1 hx];exact hf⟩
theorem smT.set{n m i:Nat}{t:Tree}{f:File}(h:smT n m t)(hf:smF m f):smT n m ⟨t.files.set i f⟩:=⟨by have:=h.1;simp;omega,λ x hx=>(List.mem_or_eq_of_mem_set hx).elim (h.2 x) λ hx=>by rw[hx];exact hf⟩
theorem somePath_ok{k:Int}{r:Reader}(h:Rok k r)(hk:k<=900000):Dr (k+1) (wm r) (λ p=>p.length<=3):=by
 unfold wm;refine .bind (xZ 8 h (by omega)) λ r2 v2 h2 _=>?_
 have d:∀ {l:List Int} {c:Prop} [Decidable c] {y:Option (Reader×List Int)},l.length<=3->Dr (k+1) y (λ p=>p.length<=3)->Dr (k+1) (if c then some (r2,l) else y) (λ p=>p.length<=3):=λ hl hy=>.ite (λ _=>.pure h2 hl) λ _=>hy
 exact d (by decide) (d (by decide) (d (by decide) (d (by decide) (d (by decide) (.pure h2 (by decide))))))
theorem anyPath_ok{k:Int}{r:Reader}(h:Rok k r)(hk:k<=800000):Dr (k+2) (Zs r) (λ p=>p.length<=3):=by
 unfold Zs;refine .bind (xZ 20 h (by omega)) λ r2 v2 h2 _=>.ite (λ _=>?_) λ _=>.bind (somePath_ok h2 (by omega)) λ r3 p h3 hp=>.pure (h3.le (by omega)) hp
 refine .bind (xZ 3 h2 (by omega)) λ r3 v3 h3 hv=>?_
 obtain⟨x,hx,hm⟩:=JA (l:=([[],[0,0],[3]]:List (List Int))) hv.1 (hv.2 (by decide));exact .some hx (.pure (h3.le (by omega)) ((by decide:∀ x∈([[],[0,0],[3]]:List (List Int)),x.length<=3) x hm))
theorem zan(c:List UInt8):∃ r,jx c=some r/\Rok 0 r:=by
 unfold jx;by_cases h:(c.length:Int) > 2000
 ·
  rw[if_pos (by simpa[cmpI] using h),show(2000:Int)=((2000:Nat):Int) from rfl,Xp (by omega),obS,obS];exact⟨_,rfl,by show(c.take 2000).length<=2000;simp;omega,Int.le_refl _,Int.le_refl _⟩
 ·
  rw[if_neg (by simpa[cmpI] using h),obS];exact⟨_,rfl,by show c.length<=2000;omega,Int.le_refl _,Int.le_refl _⟩
theorem smT.sm{t:Tree}(h:smT 11 5 t):xc t:=by
 refine⟨by have:=h.1;omega,λ f hf=>?_⟩;obtain⟨h1,h2,h3,h4⟩:=h.2 f hf;exact⟨by omega,by omega,by omega,λ s hs=>⟨by have:=(h4 s hs).1;omega,by have:=(h4 s hs).2;omega⟩⟩
def smC(n:Nat)(l:List GCmd):Prop:=l.length<=n/\∀ x∈l,x.name.l.length<=64
theorem smC.app{n:Nat}{b:List GCmd}{s:GCmd}(h:smC n b)(hs:s.name.l.length<=64):smC (n+1) (b++[s]):=⟨by have:=h.1;simp;omega,λ x hx=>(List.mem_append.1 hx).elim (h.2 x) λ hx=>by rw[List.mem_singleton.1 hx];exact hs⟩
theorem smC.le{n m:Nat}{b:List GCmd}(h:smC n b)(hm:n<=m):smC m b:=⟨Nat.le_trans h.1 hm,h.2⟩
theorem smB.one{s:Stmt}(h:smS s):smB 1 [s]:=⟨Nat.le_refl _,λ x hx=>by rw[List.mem_singleton.1 hx];exact h⟩
open Go.RowKit
theorem validStmt_sm{s:Stmt}(h:xJ s=true):smStmt s:=by
 have e0:∀ x:Str,decide (x=(⟨[]⟩:Str))=true->x.l.length<=3:=λ x h=>by rw[oD h];exact Nat.zero_le _
 have key:s.module.l.length<=11/\s.name.l.length<=3:=by
  unfold xJ at h;split at h
  ·
   simp only[Bool.and_eq_true] at h;exact⟨y8 h.1.1.1,e0 _ h.1.2⟩
  ·
   split at h
   ·
    simp only[Bool.and_eq_true] at h;exact⟨yn h.1.1.1.1,(xl h.1.2).2⟩
   ·
    split at h
    ·
     simp only[Bool.and_eq_true] at h;exact⟨y8 h.1.1.1,e0 _ h.1.2⟩
    ·
     split at h
     ·
      simp only[Bool.and_eq_true] at h;exact⟨Nat.le_trans (e0 _ h.1.1.1) (by decide),(xl h.1.2).2⟩
     ·
      split at h
      ·
       simp only[Bool.and_eq_true] at h;exact⟨Nat.le_trans (e0 _ h.1.1.1) (by decide),(xl h.1.2).2⟩
      ·
       split at h
       ·
        rw[oD h];exact⟨Nat.zero_le _,Nat.zero_le _⟩
       ·
        cases h
 exact⟨by omega,by omega⟩
theorem validFile_sm{f:File}(h:yC f=true):smFile f:=by
 have h1:=yn (qf h);unfold yC at h;split at h
 ·
  cases h
 ·
  rename_i hc;have hc:(!inR f.root 0 2||!inR f.stamp 0 99||!zy f.pkg||!ZB f.body)=false:=by simpa using hc
  simp only[Bool.or_eq_false_iff,Bool.not_eq_false'] at hc;have hb:=hc.2;unfold ZB at hb;rw[Bool.and_eq_true,List.all_eq_true] at hb;have hbl:f.body.length<=8:=by have:=hb.2;simp[cmpI] at this;omega
  have hn:f.name.l.length<=3:=by
   split at h
   ·
    rw[Bool.and_eq_true] at h;rw[oD h.2];exact Nat.zero_le _
   ·
    rw[Bool.and_eq_true] at h;exact(xl h.1).2
  exact⟨by omega,by omega,by omega,λ s hs=>validStmt_sm (hb.1 s hs)⟩
theorem Yt{t:Tree}(h:zR t=true):xc t:=⟨by have:=ZY h;omega,λ _ hf=>validFile_sm (qH h hf)⟩
theorem JC{a:Str}(h:zM a=true):zu a dot=[a]:=by
 rw[ji,show dot=(46:UInt8) from rfl,zad 46 a.l (X1 h)];rfl
theorem aPart_v{k:Int}{r:Reader}(h:Rok k r)(hk:k<=1000000):Dr (k+1) (yJ r) (λ s=>zM s=true/\s.l.length<=1):=by
 unfold yJ;refine .bind (of_ok (λ s=>zM s=true/\s.l.length<=1) h hk (by decide) (by decide)) λ r1 v h1 hv=>.pure h1 hv
theorem aName_v{k:Int}{r:Reader}(h:Rok k r)(hk:k<=900000):Dr (k+10) (xY r) (λ s=>zF s=true):=by
 unfold xY;refine .bind (aPart_v h (by omega)) λ r1 s h1 hs=>?_
 refine .bind (k:=k+10) (P:=λ s=>zF s=true) ?_ λ r3 s3 h3 hs3=>.pure h3 hs3
 refine .bind (JB (λ n=>n<=2) h1 (by omega) (by decide) (by decide)) λ r2 n h2 hn=>?_
 refine(zaT (λ j=>k+2+j) (λ j (s:Str)=>s.l.length<=1+2*j/\(∀ x∈zu s dot,zM x=true)/\(zu s dot).length<=1+j) 2 (λ i j hij=>by omega) (λ j r x n hj hr hx hn hb=>?_) (λ r x n hn=>?_) (by omega) (h2.le (by show k+1+1<=k+2+((0:Nat):Int);omega)) ⟨hs.2,?_,?_⟩ (by exact hn)).mono (by show k+2+((2:Nat):Int)<=k+10;omega) (λ y ⟨j,hj,_,hy,hl⟩=>?_)
 ·
  obtain⟨r',v,e1,e2,e3,e4⟩:=aPart_v hr (by omega);have e4':v.l.length<=1:=e4;have hl:=hx.1;refine⟨r',⟨(x.l++[46])++v.l⟩,?_,e2.le (by show k+2+(j:Int)+1<=k+2+((j+1:Nat):Int);omega),?_⟩
  ·
   unfold jb;dsimp only;rw[if_pos (by simp[cmpI];omega),Zh (by show x.l.length+1<=_;omega),obS,e1,obS,Zh (by rw[List.length_append];show x.l.length+1+v.l.length<=_;omega),obS,wn (by omega) (by omega),obS]
  ·
   rw[split_append,JC e3];refine⟨?_,λ y hy=>?_,?_⟩
   ·
    show(x.l++[46]++v.l).length<=_;simp only[List.length_append,List.length_singleton];omega
   ·
    rcases List.mem_append.1 hy with hy | hy
    ·
     exact hx.2.1 y hy
    ·
     rw[List.mem_singleton.1 hy];exact e3
   ·
    have:=hx.2.2;simp only[List.length_append,List.length_singleton];omega
 ·
  unfold jb;dsimp only;rw[if_neg (by simp[cmpI];omega)]
 ·
  rw[JC hs.1];intro x hx;rw[List.mem_singleton.1 hx];exact hs.1
 ·
  rw[JC hs.1];simp
 ·
  unfold zF;rw[Bool.and_eq_true];exact⟨List.all_eq_true.2 hy,by simp[cmpI];omega⟩
theorem somePath_v{k:Int}{r:Reader}(h:Rok k r)(hk:k<=900000):Dr (k+1) (wm r) (λ p=>ym p=true/\p.length<=3):=by
 unfold wm;refine .bind (xZ 8 h (by omega)) λ r2 v2 h2 _=>?_
 have d:∀ {l:List Int} {c:Prop} [Decidable c] {y:Option (Reader×List Int)},(ym l=true/\l.length<=3)->Dr (k+1) y (λ p=>ym p=true/\p.length<=3)->Dr (k+1) (if c then some (r2,l) else y) (λ p=>ym p=true/\p.length<=3):=λ hl hy=>.ite (λ _=>.pure h2 hl) λ _=>hy
 exact d (by decide) (d (by decide) (d (by decide) (d (by decide) (d (by decide) (.pure h2 (by decide))))))
theorem zbj{f:File}(h:f.body.length<=1048576):jS f=some f:=by
 unfold jS;rw[wq (by simp;omega) (by simp;omega),obS];rfl
theorem zbk{t:Tree}(h:xc t):jT t=some t:=by
 have hlen:=h.1;unfold jT;have hl:zS (λ s15=>wH t s15) ((⟨[]⟩:Tree),(0:Int))=some t:=by
  refine Yb (b:=t) t.files.length (λ k=>((⟨t.files.take k⟩:Tree),(k:Int))) (λ k hk=>?_) (by unfold wH;dsimp only;rw[zK,if_neg (by simp),List.take_length]) (by omega) rfl;obtain⟨x,hx,hm⟩:=xM hk;have hb:=(h.2 x hm).2.2.1;have htk:(t.files.take k).length<=k:=by simp;omega
  unfold wH;dsimp only;rw[zK,if_pos (decide_eq_true hk),yb,hx,obS,zbj hb,obS,wq (by simp;omega) (by simp;omega),obS,zV (by omega),obS,List.take_add_one,hx];rfl
 rw[hl,obS]
theorem AddFile_ok{t:Tree}{f:File}(h:xc t)(hf:smFile f)(hl:t.files.length<=1000):∃ t' b,Zt t f=some (t',b)/\(b=true->zR t'=true):=by
 have h2:xc ⟨t.files++[f]⟩:=⟨by simp;omega,λ x hx=>(List.mem_append.1 hx).elim (h.2 x) λ hx=>by rw[List.mem_singleton.1 hx];exact hf⟩;unfold Zt;rw[zbk h,obS,zbj hf.2.2.1,obS,wq (by simp;omega) (by simp;omega),obS,show y7 t=some (zR t) from if_pos h,obS,show y7 ⟨t.files++[f]⟩=some (zR ⟨t.files++[f]⟩) from if_pos h2,zU,obS];cases h3:zR t with
 | false=>exact⟨_,_,rfl,λ h=>by cases h⟩
 |
  true=>
  cases h4:zR ⟨t.files++[f]⟩ with
  | false=>exact⟨_,_,rfl,λ h=>by cases h⟩
  | true=>exact⟨_,_,rfl,λ _=>h4⟩
theorem cut_sub{γ:Type}{ys:List γ}{i j n:Nat}{x:γ}(h:x∈(cutL ys i j).take n):x∈ys:=by
 have h:=List.mem_of_mem_take h;unfold cutL at h;rcases List.mem_append.1 h with h | h
 ·
  rcases List.mem_append.1 h with h | h
  ·
   exact List.mem_of_mem_take h
  ·
   exact List.mem_of_mem_drop h
 ·
  exact List.mem_of_mem_drop h
theorem RemoveFile_ok{t:Tree}{i:Int}(h:xc t):∃ t' b,j8 t i=some (t',b)/\(b=true->xc t'/\0<=i/\i<t.files.length):=by
 have hlen:=h.1;unfold j8;rw[show y7 t=some (zR t) from if_pos h,obS,wn (by omega) (by omega),zU,obS,qR,zU,obS];cases h3:zR t with
 | false=>exact⟨_,_,rfl,λ h=>by cases h⟩
 |
  true=>
  show ∃ t' b,(if((!true)||(!inR i 0 ((t.files.length:Int) - 1)))=true then _ else _)=some (t',b)/\_;cases h4:inR i 0 ((t.files.length:Int) - 1) with
  | false=>exact⟨_,_,rfl,λ h=>by cases h⟩
  |
   true=>
   obtain⟨h5,h6⟩:=Jy h4;obtain⟨n,rfl⟩:=Int.eq_ofNat_of_zero_le h5;have hsl:sliLO t.files ((n+1:Nat):Int)=some (t.files.drop (n+1)):=by unfold sliLO;rw[if_pos ⟨by omega,by omega⟩];rfl
   rw[if_neg (by decide),zbk h,obS,Xp (by omega),obS,zV (by omega),obS,hsl,obS];refine⟨_,_,rfl,λ _=>⟨⟨?_,λ x hx=>h.2 x (cut_sub hx)⟩,h5,by omega⟩⟩;show((cutL t.files _ _).take _).length<=_;rw[List.length_take,cutL_len (by simp) (by simp;omega)];omega
theorem zb9{l:List Dir}{x:Dir}(h:yW l)(hl:l.length<=1000)(h1:x.pkg.l.length<=1048576)(h2:x.names.length<=1048576):yW (l++[x]):=
 ⟨by simp;omega,λ y hy=>(List.mem_append.1 hy).elim (h.2 y) λ hy=>by rw[List.mem_singleton.1 hy];exact⟨h1,h2⟩⟩
theorem stamped_ok{d:Disk}{r:Int}{p:Str}(h:yW d.dirs)(hl:d.dirs.length<=900)(hp:p.l.length<=16):∃ l,Zu d r p=some ⟨d.tree,d.clock,l⟩/\yW l:=by
 obtain⟨o,ho,h1,h2⟩:∃ o:List Str,(if(decide (p≠(⟨[]⟩:Str)))=true then((Yj p).bind λ v13=>(appO 16 [(⟨[]⟩:Str)] v13).bind λ v20=>some v20) else(some [(⟨[]⟩:Str)]))=some o/\o.length<=20/\∀ x∈o,x.l.length<=20:=by
  have ha:=above_len p;have hs:=split_len p dot;have h2:∀ x∈((⟨[]⟩:Str)::above p),x.l.length<=20:=λ x hx=>by
   rcases List.mem_cons.1 hx with rfl | hx
   ·
    exact Nat.zero_le _
   ·
    have:=above_mem hx;omega
  split
  ·
   rw[show Yj p=some (above p) from if_pos (by unfold mid;omega),obS,wq (by simp;omega) (by simp;omega),obS];exact⟨_,rfl,by simp;omega,h2⟩
  ·
   exact⟨_,rfl,by simp,λ x hx=>by rw[List.mem_singleton.1 hx];exact Nat.zero_le _⟩
 unfold Zu;rw[ho,obS];have key:∀ m k (e:Disk),k+m=o.length->e.tree=d.tree->e.clock=d.clock->yW e.dirs->e.dirs.length<=900+k->∃ l,qL (λ s33=>xx r o s33) (m+1) (e,(k:Int))=some ⟨d.tree,d.clock,l⟩/\yW l:=by
  intro m
  induction m with
  |
   zero=>
   intro k e hk h3 h4 h5 _;refine⟨e.dirs,qF ?_,h5⟩;unfold xx;dsimp only;rw[zK,if_neg (by simp;omega),← h3,← h4]
  |
   succ m ih=>
   intro k e hk h3 h4 h5 h6;have hlt:k<o.length:=by omega
   obtain⟨x,hx,hm⟩:=xM hlt;have hxl:=h2 x hm
   suffices hs:∃ e',xx r o (e,(k:Int))=some (.inl (e',((k+1:Nat):Int)))/\e'.tree=d.tree/\e'.clock=d.clock/\yW e'.dirs/\e'.dirs.length<=900+(k+1) by
    obtain⟨e',s1,s2,s3,s4,s5⟩:=hs;rw[YL s1];exact ih (k+1) e' (by omega) s2 s3 s4 s5
   unfold xx;dsimp only;rw[zK,if_pos (decide_eq_true hlt),yb,hx,obS,Wq h5.1,obS,obS,zV (by omega),zal];cases hk2:dirK e.dirs r x with
   |
    none=>
    dsimp only;rw[if_pos (by decide),wq (by simp;omega) (by simp;omega),obS];refine⟨{ e with dirs:=e.dirs++[⟨r,x,e.clock,[]⟩] },rfl,h3,h4,zb9 h5 (by omega) (by show x.l.length<=_;omega) (Nat.zero_le _),?_⟩;simp only[List.length_append,List.length_singleton];omega
   |
    some j=>
    obtain⟨g1,g2,_,_⟩:=qJ hk2;have gm:=List.mem_of_getElem? g2;dsimp only;rw[if_neg (by simp[cmpI]),yb,g2,obS];refine⟨{ e with dirs:=e.dirs.set j { (e.dirs.getD j default) with stamp:=e.clock } },rfl,h3,h4,⟨by rw[List.length_set];exact h5.1,λ y hy=>?_⟩,by rw[List.length_set];omega⟩;rcases List.mem_or_eq_of_mem_set hy with hy | rfl
    ·
     exact h5.2 y hy
    ·
     have:=h5.2 (e.dirs.getD j default) gm;exact this
 obtain⟨l,e1,e2⟩:=key o.length 0 d (by omega) rfl rfl h (by omega);have hl2:zS (λ s33=>xx r o s33) (d,(0:Int))=some ⟨d.tree,d.clock,l⟩:=Yn e1 (by omega);rw[hl2];exact⟨l,rfl,e2⟩
theorem zca{d:Disk}{t:Tree}{r ticks:Int}{p:Str}(h:DiskOk d)(ht:xc t)(hp:p.l.length<=16)(h0:0<=ticks)(h1:ticks<=200):∃ d' b,qC d t r p ticks=some (d',b)/\(b=true->DiskOk d'):=by
 have hc:=h.clock;have hl:=h.ok.1;unfold qC;rw[wn (by omega) (by omega),obS,zbi h.ok.smd,obS];obtain⟨l,e1,e2⟩:=stamped_ok (d:=⟨t,d.clock+ticks,d.dirs⟩) (r:=r) (p:=p) h.ok.smd (by show d.dirs.length<=_;omega) hp;rw[e1,obS,Yq ht e2,obS];cases h3:wZ ⟨t,d.clock+ticks,l⟩ with
 | false=>exact⟨_,_,rfl,λ h=>by cases h⟩
 | true=>exact⟨_,_,rfl,λ _=>YO h3⟩
theorem DiskOk.fit{d:Disk}(h:DiskOk d):wZ d=true:=by
 have h1:inR d.clock 0 200=true:=by unfold inR;simp[cmpI];exact h.clock
 unfold wZ;rw[h.tree,h1,h.dirs];rfl
theorem DiskAdd_ok{d:Disk}{f:File}{ticks:Int}(h:DiskOk d)(hf:smF 4 f):∃ d' b,Zv d f ticks=some (d',b)/\(b=true->DiskOk d'):=by
 have ht:=Yt h.tree;have hl:=ZY h.tree;obtain⟨f1,f2,f3,f4⟩:=hf;have hsf:smFile f:=⟨by omega,by omega,by omega,λ s hs=>⟨by have:=(f4 s hs).1;omega,by have:=(f4 s hs).2;omega⟩⟩;unfold Zv;rw[Yq ht h.ok.smd,h.fit,obS,qR,zU,obS];cases h3:inR ticks 0 200 with
 | false=>exact⟨_,_,rfl,λ h=>by cases h⟩
 |
  true=>
  obtain⟨g1,g2⟩:=Jy h3;obtain⟨t',b,e1,e2⟩:=AddFile_ok ht hsf (by omega);rw[if_neg (by decide),e1,obS];cases b with
  | false=>exact⟨_,_,rfl,λ h=>by cases h⟩
  |
   true=>
   obtain⟨d',b,j1,j2⟩:=zca (r:=f.root) (p:=f.pkg) h (Yt (e2 rfl)) f1 g1 g2;rw[if_neg (show ¬ (!true)=true by decide)];dsimp only;rw[j1];exact⟨d',b,rfl,j2⟩
theorem DiskRemove_ok{d:Disk}{i ticks:Int}(h:DiskOk d):∃ d' b,j9 d i ticks=some (d',b)/\(b=true->DiskOk d'):=by
 have ht:=Yt h.tree;unfold j9;rw[Yq ht h.ok.smd,h.fit,obS,qR,zU,obS];cases h3:inR ticks 0 200 with
 | false=>exact⟨_,_,rfl,λ h=>by cases h⟩
 |
  true=>
  obtain⟨g1,g2⟩:=Jy h3;obtain⟨t',b,e1,e2⟩:=RemoveFile_ok (i:=i) ht;rw[if_neg (by decide),e1,obS];cases b with
  | false=>exact⟨_,_,rfl,λ h=>by cases h⟩
  |
   true=>
   obtain⟨k1,k2,k3⟩:=e2 rfl;obtain⟨x,hx,hm⟩:=JA (l:=d.tree.files) k2 k3;have hp:=yn (qf (qH h.tree hm));obtain⟨d',b,j1,j2⟩:=zca (r:=x.root) (p:=x.pkg) h k1 (by omega) g1 g2;rw[if_neg (show ¬ (!true)=true by decide),hx,obS,obS];dsimp only;rw[j1];exact⟨d',b,rfl,j2⟩
theorem loop_down2{σ τ:Type}{step:Reader×σ×τ×Int->Option ((Reader×σ×τ×Int)⊕(Reader×σ×τ))}(K:Nat->Int)(P:Nat->σ×τ->Prop)(m:Nat)(hK:∀ i j,i<=j->K i<=K j)
  (h:∀ j r x y n,j<m->Rok (K j) r->P j (x,y)->0<n->n+(j:Int)<=m->∃ r' x' y',step (r,x,y,n)=some (.inl (r',x',y',n - 1))/\Rok (K (j+1)) r'/\P (j+1) (x',y'))
  (hend:∀ r x y n,n<=0->step (r,x,y,n)=some (.inr (r,x,y))) (hm:m<=1000) {r:Reader} {x:σ} {y:τ} {n:Int} (h0:Rok (K 0) r) (hx:P 0 (x,y)) (hn:n<=m):Dr (K m) (zS step (r,x,y,n)) (λ z=>∃ j,j<=m/\P j z):=by
 have key:∀ q j r x y n,j+q=m->Rok (K j) r->P j (x,y)->n<=(q:Int)->∃ r' z,qL step (q+1) (r,x,y,n)=some (r',z)/\Rok (K m) r'/\∃ j',j'<=m/\P j' z:=by
  intro q
  induction q with
  | zero=>intro j r x y n hj hr hx hn;exact⟨r,(x,y),qF (hend r x y n (by omega)),hr.le (hK _ _ (by omega)),j,by omega,hx⟩
  |
   succ q ih=>
   intro j r x y n hj hr hx hn;by_cases hn0:n<=0
   ·
    exact⟨r,(x,y),qF (hend r x y n hn0),hr.le (hK _ _ (by omega)),j,by omega,hx⟩
   ·
    obtain⟨r',x',y',h1,h2,h3⟩:=h j r x y n (by omega) hr hx (by omega) (by omega);rw[YL h1];exact ih (j+1) r' x' y' (n - 1) (by omega) h2 h3 (by omega)
 obtain⟨r',z,h1,h2,h3⟩:=key m 0 r x y n (by omega) h0 hx hn;exact⟨r',z,Yn h1 (by omega),h2,h3⟩
def emptyD:Disk:=⟨⟨[]⟩,0,[]⟩
theorem emptyD_ok:DiskOk emptyD:=⟨by decide,by decide,by decide⟩
theorem emptyF_ok:FindOk ⟨[],0,0⟩:=xE.1 (by decide)
theorem finderOf_ok{k:Int}{r:Reader}(h:Rok k r)(hk:k<=400000):Dr (k+2500) (q6 r) (λ v=>FindOk v.1/\DiskOk v.2):=by
 unfold q6;refine .some (o:=emptyD) rfl ?_;refine .bind (k:=k+2500) (P:=λ v=>FindOk v.1/\DiskOk v.2) ?_ λ r3 v h3 hv=>.some (J8 hv.1.1.smd) (.pure h3 hv)
 refine .bind (JB (λ n=>n<=8) h (by omega) (by decide) (by decide)) λ r2 n h2 hn=>?_
 refine(loop_down2 (λ j=>k+1+300*j) (λ _ v=>FindOk v.1/\DiskOk v.2) 8 (λ i j hij=>by omega) (λ j r x y n hj hr hx hn hb=>?_) (λ r x y n hn=>?_) (by omega) (h2.le (by show k+1<=k+1+300*((0:Nat):Int);omega)) ⟨emptyF_ok,emptyD_ok⟩ (by exact hn)).mono (by show k+1+300*((8:Nat):Int)<=k+2500;omega) (λ y ⟨j,hj,hy⟩=>hy)
 ·
  obtain⟨hf,hd⟩:=hx;have hd:DiskOk y:=hd;have hf:FindOk x:=hf;have ht:=Yt hd.tree
  suffices hs:∃ z,wI (r,x,y,n)=Option.some z/\∃ r' x' y',z=.inl (r',x',y',n - 1)/\Rok (k+1+300*((j+1:Nat):Int)) r'/\FindOk x'/\DiskOk y' by
   obtain⟨z,e,r',x',y',rfl,e2,e3⟩:=hs;exact⟨r',x',y',e,e2,e3⟩
  unfold wI;rw[if_pos (by simp[cmpI];omega)];refine Dr.step (k:=k+1+300*j+300) (P:=λ v=>FindOk v.1/\DiskOk v.2) ?_ λ r4 v h4 hv=>?_
  ·
   dsimp only;refine .bind (JB (λ _=>True) hr (by omega) (by decide) (λ _ _=>trivial)) λ r5 ticks h5 _=>.bind (xZ 2 h5 (by omega)) λ r6 v6 h6 _=>.ite (λ _=>?_) λ _=>?_
   ·
    refine .bind (somePath_v h6 (by omega)) λ r7 q h7 hq=>.bind (aName_v h7 (by omega)) λ r8 s h8 hs=>?_
    exact .some (seen_eq hf hd ht (by have:=hq.2;dsimp only;omega) hq.1 hs) (.pure (h8.le (by omega)) ⟨zak hf hd hq.1 hs,hd⟩)
   ·
    refine .bind (someFile_ok h6 (by omega)) λ r7 fl h7 hfl=>?_
    obtain⟨d1,b1,e1,e2⟩:=DiskAdd_ok (ticks:=ticks) hd hfl;refine .some e1 ?_;refine .bind (k:=k+1+300*j+299) (P:=λ v=>v.2=true->DiskOk v.1) ?_ λ r9 v9 h9 hv9=>.ite (λ hc=>.pure (h9.le (by omega)) ⟨hf,hv9 hc⟩) λ _=>.pure (h9.le (by omega)) ⟨hf,hd⟩
    refine .bind (xZ 6 h7 (by omega)) λ r8 v8 h8 _=>.ite (λ _=>?_) λ _=>.pure (h8.le (by omega)) e2
    refine .bind (xZ _ h8 (by omega)) λ r9 i h9 _=>?_
    obtain⟨d2,b2,e3,e4⟩:=DiskRemove_ok (i:=i) (ticks:=ticks) hd;exact .some e3 (.pure (h9.le (by omega)) e4)
  ·
   exact⟨_,by dsimp only;rw[wn (by omega) (by omega),obS],r4,v.1,v.2,rfl,h4.le (by omega),hv⟩
 ·
  unfold wI;dsimp only;rw[if_neg (by simp[cmpI];omega)]
theorem zao{k:Int}{r:Reader}(h:Rok k r)(hk:k<=400000):Dr (k+2600) (jy r) (λ v=>yW v.1.dirs/\xc v.2.tree/\yW v.2.dirs):=by
 unfold jy;refine .bind (finderOf_ok h hk) λ r1 v h1 hv=>?_
 obtain⟨hf,hd⟩:=hv;have hf:FindOk v.1:=hf;have hd:DiskOk v.2:=hd;have ht:=Yt hd.tree;have hl:=hf.1.1;have base:yW v.1.dirs/\xc v.2.tree/\yW v.2.dirs:=⟨hf.1.smd,ht,hd.ok.smd⟩;refine .bind (k:=k+2600) (P:=λ v=>yW v.1.dirs/\xc v.2.tree/\yW v.2.dirs) ?_ λ r4 w h4 hw=>.pure h4 hw
 refine .bind (xZ 20 h1 (by omega)) λ r2 v2 h2 _=>.ite (λ _=>?_) λ _=>.ite (λ _=>?_) λ _=>.ite (λ _=>.pure (h2.le (by omega)) base) λ _=>.pure (h2.le (by omega)) base
 ·
  exact .bind (JB (λ _=>True) h2 (by omega) (by decide) (λ _ _=>trivial)) λ r3 v3 h3 _=>.pure (h3.le (by omega)) base
 ·
  exact .some (wq (xs:=v.1.dirs) (by simp;omega) (by simp;omega)) (.pure (h2.le (by omega)) ⟨zb9 base.1 (by omega) (Nat.zero_le _) (Nat.zero_le _),base.2⟩)
theorem zaU(c:List UInt8):∃ f d,wR c=some (f,d)/\yW f.dirs/\xc d.tree/\yW d.dirs:=by
 obtain⟨r,h1,h2⟩:=zan c;obtain⟨r1,v,e1,k1,p1⟩:=zao h2 (by omega);refine⟨v.1,v.2,?_,p1⟩;unfold wR;rw[h1,obS,e1,obS]
theorem zap(c:List UInt8):∃ f d path s,yH c=some (f,d,path,s)/\yW f.dirs/\xc d.tree/\yW d.dirs/\path.length<=3/\sho s:=by
 obtain⟨r,h1,h2⟩:=zan c;obtain⟨r1,v,e1,k1,p1⟩:=zao h2 (by omega);obtain⟨r2,q,e2,k2,p2⟩:=anyPath_ok k1 (by omega);obtain⟨f,d⟩:=v;have key:Dr 3000 (Option.bind (gO (cmpI .gtr (d.tree.files.length:Int) (0:Int) == true) (zz r2 (3:Int))) λ v43=>
   if(cmpI .gtr (d.tree.files.length:Int) (0:Int)&&cmpI .gtr v43.2 (0:Int))=true then((zz (if(cmpI .gtr (d.tree.files.length:Int) (0:Int) == true)=true then v43.1 else r2) (d.tree.files.length:Int)).bind λ v62=>
   (atI d.tree.files v62.2).bind λ v65=>
   (jZ v65).bind λ v68=>
   some (v62.1,v68))
   else((jH (if(cmpI .gtr (d.tree.files.length:Int) (0:Int) == true)=true then v43.1 else r2)).bind λ v111=>
   some (v111.1,v111.2))) (λ s=>sho s):=by
  cases hc:cmpI .gtr (d.tree.files.length:Int) 0 with
  |
   false=>
   rw[show((false:Bool) == true)=false from rfl,gO_false,obS];refine .ite (λ h=>by simp at h) λ _=>?_
   rw[if_neg (by decide)];exact .bind (zb8 k2 (by omega)) λ r3 s h3 hs=>.pure (h3.le (by omega)) (by have hs':s.l.length<=16:=hs;show s.l.length<=8388608;omega)
  |
   true=>
   have hl:0<(d.tree.files.length:Int):=oD hc;rw[show((true:Bool) == true)=true from rfl,qa];refine .bind (xZ 3 k2 (by omega)) λ r3 v h3 _=>?_
   rw[if_pos rfl];refine .ite (λ _=>?_) λ _=>.bind (zb8 h3 (by omega)) λ r4 s h4 hs=>.pure (h4.le (by omega)) (by have hs':s.l.length<=16:=hs;show s.l.length<=8388608;omega)
   refine .bind (xZ _ h3 (by omega)) λ r4 i h4 hi=>?_
   obtain⟨fl,hf,hm⟩:=JA (l:=d.tree.files) hi.1 (hi.2 (by omega));have hsf:=p1.2.1.2 fl hm;exact .some hf (.some (if_pos hsf) (.pure (h4.le (by omega)) (by have:=module_len hsf;unfold sho;omega)))
 obtain⟨r5,s,e5,_,p5⟩:=key;refine⟨f,d,q,s,?_,p1.1,p1.2.1,p1.2.2,p2,p5⟩;unfold yH;rw[h1,obS,e1,obS,e2,obS];dsimp only
 revert e5
 cases(gO (cmpI .gtr (d.tree.files.length:Int) (0:Int) == true) (zz r2 (3:Int))) with
 | none=>intro h;cases h
 |
  some v43=>
  rw[obS,obS];split
  ·
   cases(zz (if(cmpI .gtr (d.tree.files.length:Int) (0:Int) == true)=true then v43.1 else r2) (d.tree.files.length:Int)) with
   | none=>intro h;cases h
   |
    some v62=>
    rw[obS,obS];cases atI d.tree.files v62.2 with
    | none=>intro h;cases h
    |
     some v65=>
     rw[obS,obS];cases jZ v65 with
     | none=>intro h;cases h
     | some v68=>intro h;injection h with h;injection h with _ h;rw[← h];rfl
  ·
   cases(jH (if(cmpI .gtr (d.tree.files.length:Int) (0:Int) == true)=true then v43.1 else r2)) with
   | none=>intro h;cases h
   | some v111=>intro h;injection h with h;injection h with _ h;rw[← h];rfl
open Go.RowKit
theorem JD{x y:List Str}(h:x.length<=288230376151711744):wX x y=some (decide (x=y)):=by
 unfold wX;refine zag (λ k hk hk2=>?_) ?_ (by omega)
 ·
  unfold wS;simp only[lss_at hk,if_true,Jv hk,Jv hk2,obS,zV (show k<4611686018427387904 by omega)];by_cases e:x[k]=y[k] <;> simp[e]
 ·
  unfold wS;rw[lss_end];rfl
theorem J9{x y:List Int}(h:x.length<=288230376151711744):xL x y=some (decide (x=y)):=by
 unfold xL;refine zag (λ k hk hk2=>?_) ?_ (by omega)
 ·
  unfold jf;simp only[lss_at hk,if_true,Jv hk,Jv hk2,obS,zV (show k<4611686018427387904 by omega)];by_cases e:x[k]=y[k] <;> simp[e,cmpI]
 ·
  unfold jf;rw[lss_end];rfl
theorem Qa{x y:List Dir}(h:x.length<=288230376151711744)(hx:∀ d∈x,d.names.length<=1048576):jz x y=some (decide (x=y)):=by
 unfold jz;refine zag (λ k hk hk2=>?_) ?_ (by omega)
 ·
  have hn:=hx x[k] (List.getElem_mem hk);have e:(x[k]=y[k]) ↔ (((x[k].root=y[k].root/\x[k].pkg=y[k].pkg)/\x[k].stamp=y[k].stamp)/\x[k].names=y[k].names):=by
   generalize x[k]=a;generalize y[k]=b;cases a;cases b;simp[and_assoc]
  unfold jg;simp only[lss_at hk,if_true,Jv hk,Jv hk2,obS,zV (show k<4611686018427387904 by omega),zU];generalize x[k]=a at e hn;generalize y[k]=b at e;have he:=JD (x:=a.names) (y:=b.names) (by omega);by_cases h1:a.root=b.root
  ·
   by_cases h2:a.pkg=b.pkg
   ·
    by_cases h3:a.stamp=b.stamp
    ·
     by_cases h4:a.names=b.names
     ·
      rw[h4] at he;simp[e,h1,h2,h3,h4,cmpI,gO,he]
     ·
      simp[e,h1,h2,h3,h4,cmpI,gO,he]
    ·
     simp[e,h1,h2,h3,cmpI,gO]
   ·
    simp[e,h1,h2,cmpI,gO]
  ·
   simp[e,h1,cmpI,gO]
 ·
  unfold jg;rw[lss_end];rfl
theorem same_finder{x:Finder}(h:yW x.dirs):yo x x=some true:=by
 unfold yo;rw[Qa (by have:=h.1;omega) λ d hd=>(h.2 d hd).2];simp[cmpI]
theorem JL{x:Spec}(h:x.roots.length<=1048576):ye x x=some true:=by
 unfold ye;rw[J9 (by omega)];simp[cmpI,gO]
theorem cached_sm{f:Finder}{d:Disk}{path:List Int}{n:Str}:yW (ql f d path n).1.dirs:=by
 unfold ql;split
 ·
  rename_i h;obtain⟨h1,h2,h3,h4⟩:=cached_ok h;exact(zak h1 h2 h3 h4).1.smd
 ·
  exact⟨Nat.zero_le _,λ x hx=>by cases hx⟩
theorem cached_roots{f:Finder}{d:Disk}{path:List Int}{n:Str}:(ql f d path n).2.roots.length<=path.length:=by
 unfold ql;split
 ·
  exact Xq ..
 ·
  exact Nat.zero_le _
theorem zcb{f:Finder}{d:Disk}(hd:d.dirs.length<=1048576):jk f d f.dirs.length=[] ↔ Jx f d:=by
 have hst:∀ x:Dir,stamp d x=ZO d x.root x.pkg:=λ x=>by unfold stamp;rw[(Ws hd).2];rfl
 unfold jk Jx;rw[List.map_eq_nil_iff,List.filter_eq_nil_iff];constructor
 ·
  intro h x hx hs;obtain⟨k,hk⟩:=List.getElem?_of_mem hx;have:=h k (List.mem_range.2 (yg hk));unfold ZL at this;rw[hk] at this;simp only[hst,hs,cmpI] at this;unfold Xd;simpa using this
 ·
  intro h k hk;obtain⟨x,hx,hm⟩:=xM (List.mem_range.1 hk);unfold ZL;rw[hx];simp only[hst];by_cases hs:x.stamp=ZO d x.root x.pkg
  ·
   have:=h x hm hs;unfold Xd at this;rw[this];simp
  ·
   simp[cmpI,hs]
theorem Qv{c:List UInt8}{K:Finder×Disk×List Int×Str->Finder×Spec->Option Bool}
  (hK:∀ f d path s,FindOk f->DiskOk d->xc d.tree->ym path=true->zF s=true->K (f,d,path,s) (qd f d path s)=some true):
  (if(cmpI .gtr (c.length:Int) (1048576:Int))=true then(some true)
  else((yH c).bind λ v6=>
  (yO v6.1 v6.2.1 v6.2.2.1 v6.2.2.2).bind λ v20=>
  (xw v6.1 v6.2.1 v6.2.2.1 v6.2.2.2).bind λ v33=>
  (yo v20.1 v33.1).bind λ v46=>
  (gO ((!v46) == false) (ye v20.2 v33.2)).bind λ v47=>
  (gO (((!v46)||(!v47)) == false) (ya v6.1)).bind λ v48=>
  (gO ((((!v46)||(!v47))||(!v48)) == false) (yD v6.2.1)).bind λ v49=>
  (gO (((((!v46)||(!v47))||(!v48))||(!v49)) == false) (y6 v6.2.2.1)).bind λ v50=>
  (gO ((((((!v46)||(!v47))||(!v48))||(!v49))||(!v50)) == false) (yc v6.2.2.2)).bind λ v51=>
  if((((((!v46)||(!v47))||(!v48))||(!v49))||(!v50))||(!v51))=true then((yo v20.1 v33.1).bind λ v61=>
  (gO (v61 == true) (ye v20.2 v33.2)).bind λ v62=>
  some (v61&&v62))
  else K v6 v20))=some true:=by
 cases cmpI .gtr (c.length:Int) 1048576 with
 | true=>rw[if_pos rfl]
 |
  false=>
  obtain⟨f,d,path,s,e,h1,h2,h3,h4,h5⟩:=zap c;have e1:=same_finder (cached_sm (f:=f) (d:=d) (path:=path) (n:=s));have e2:ye (ql f d path s).2 (ql f d path s).2=some true:=JL (by have:=cached_roots (f:=f) (d:=d) (path:=path) (n:=s);omega);rw[if_neg (by decide),e,obS];dsimp only;rw[X3 h1 h2 h3 (by omega) h5,obS,Qu h1 h2 h3 (by omega) h5,obS,e1,obS,e2,zU,obS,qI h1,zU,obS,Yp h2 h3,zU,obS,WI (by omega),zU,obS,qb h5,zU,obS];cases k1:xN f with
  | false=>rfl
  |
   true=>
   cases k2:wZ d with
   | false=>rfl
   |
    true=>
    cases k3:ym path with
    | false=>rfl
    |
     true=>
     cases k4:zF s with
     | false=>rfl
     |
      true=>
      have he:ql f d path s=qd f d path s:=by unfold ql;rw[k1,k2,k3,k4];rfl
      rw[if_neg (by decide),he];exact hK f d path s (xE.1 k1) (YO k2) h2 k3 k4
theorem WO{f:Finder}{d:Disk}(hf:FindOk f)(hd:DiskOk d):Zc f d=jk f d f.dirs.length:=by
 unfold Zc;rw[xE.2 hf,hd.fit];rfl
theorem findOf_eq{d:Disk}{path:List Int}{s:Str}(hd:DiskOk d)(hp:ym path=true)(hs:zF s=true):findOf d.tree path s=find d.tree.files path s:=by
 unfold findOf;rw[hd.tree,hp,hs];rfl
end Go.Proofs.YtdoidiipacdbpaaGreatDoor
