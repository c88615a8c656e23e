import Derived.Test.YtpmkkijamfgaeaaGreatDoorRI
import Derived.Test.YtpmkkijamfgaeaaGreatDoorRKc
import Derived.Test.YtpmkkijamfgaeaaGreatDoorRJ
import Derived.Test.YtpmkkijamfgaeaaGreatDoorRK
namespace Go.Proofs.YtpmkkijamfgaeaaGreatDoor
open Go.RowKit
def Rok(k:Int)(r:Reader):Prop:=r.b.length<=2000/\0<=r.p/\r.p<=k
def Dr{α:Type}(k:Int)(x:Option (Reader×α))(P:α->Prop):Prop:=∃ r v,x=some (r,v)/\Rok k r/\P v
theorem Dr.bind{α β:Type}{k k':Int}{x:Option (Reader×α)}{P:α->Prop}{f:Reader×α->Option (Reader×β)}{Q:β->Prop}(h:Dr k x P)(hf:∀ r v,Rok k r->P v->Dr k' (f (r,v)) Q):Dr k' (x.bind f) Q:=by
 obtain⟨r,v,h1,h2,h3⟩:=h;rw[h1];exact hf r v h2 h3
theorem Dr.pure{α:Type}{k:Int}{r:Reader}{v:α}{P:α->Prop}(h:Rok k r)(hp:P v):Dr k (some (r,v)) P:=⟨r,v,rfl,h,hp⟩
theorem Rok.le{k k':Int}{r:Reader}(h:Rok k r)(hk:k<=k'):Rok k' r:=⟨h.1,h.2.1,Int.le_trans h.2.2 hk⟩
theorem Dr.mono{α:Type}{k k':Int}{x:Option (Reader×α)}{P Q:α->Prop}(h:Dr k x P)(hk:k<=k')(hp:∀ v,P v->Q v):Dr k' x Q:=by
 obtain⟨r,v,h1,h2,h3⟩:=h;exact⟨r,v,h1,h2.le hk,hp v h3⟩
theorem WK{α:Type}{l:List α}{i:Int}(h0:0<=i)(h:i<l.length):∃ x,atI l i=some x/\x∈l:=by
 obtain⟨n,rfl⟩:=Int.eq_ofNat_of_zero_le h0;obtain⟨x,hx,hm⟩:=get_some (l:=l) (k:=n) (by omega);exact⟨x,by rw[zT,hx],hm⟩
theorem xorI_nn{m n:Int}(hm:0<=m)(hm2:m<4611686018427387904)(hn:0<=n)(hn2:n<4611686018427387904):0<=xorI m n:=by
 obtain⟨a,rfl⟩:=Int.eq_ofNat_of_zero_le hm;obtain⟨b,rfl⟩:=Int.eq_ofNat_of_zero_le hn;have h1:∀ c:Nat,c<4611686018427387904->(BitVec.ofInt 64 (c:Int)).toNat=c:=λ c hc=>by
  rw[BitVec.toNat_ofInt];omega
 have h2:(BitVec.ofInt 64 (a:Int) ^^^ BitVec.ofInt 64 (b:Int)).toNat=a ^^^ b:=by
  rw[BitVec.toNat_xor,h1 a (by omega),h1 b (by omega)]
 have h3:a ^^^ b<2 ^ 62:=Nat.xor_lt_two_pow (by omega) (by omega);have h4:(2:Nat) ^ 62=4611686018427387904:=by decide
 unfold xorI;show 0<=IntKind.i64.wrap ((BitVec.ofInt 64 (a:Int) ^^^ BitVec.ofInt 64 (b:Int)).toNat:Int);rw[h2,wrap_in _ (by omega)];omega
theorem xV{k:Int}{r:Reader}(n:Int)(h:Rok k r)(hk:k<=1000000):Dr (k+1) (zz r n) (λ v=>0<=v/\(1<=n->v<n)):=by
 obtain⟨h1,h2,h3⟩:=h;unfold zz;rw[wC (by omega) (by omega),obS];have hr:Rok (k+1) { r with p:=r.p+1 }:=⟨h1,by show 0<=r.p+1;omega,by show r.p+1<=k+1;omega⟩;cases hc:cmpI .lss n 1||cmpI .eql (r.b.length:Int) 0 with
 |
  true=>
  rw[if_pos rfl];refine .pure hr ⟨Int.le_refl _,λ h=>by omega⟩
 |
  false=>
  rw[Bool.or_eq_false_iff] at hc;have hn:¬ n<1:=of_decide_eq_false hc.1;have hl:¬ (r.b.length:Int)=0:=by simpa[cmpI] using hc.2
  have hres:∀ x:Int,0<=x->Dr (k+1) ((modO x n).bind λ v=>some ({ r with p:=r.p+1 },v)) (λ v=>0<=v/\(1<=n->v<n)):=λ x hx=>by
   rw[modO_of (by omega),obS];exact .pure hr ⟨Int.tmod_nonneg _ hx,λ _=>Int.tmod_lt_of_pos _ (by omega)⟩
  rw[if_neg (by decide),show r.p+1 - 1=r.p by omega,wC (by omega) (by omega),obS];cases hlt:cmpI .lss r.p (r.b.length:Int) with
  |
   true=>
   obtain⟨x,hx,_⟩:=WK h2 (oD hlt);rw[if_pos rfl,hx,obS];exact hres _ (by omega)
  |
   false=>
   have hm:∀ x:Int,0<=x->∃ y,modO x (r.b.length:Int)=some y/\0<=y/\y<(r.b.length:Int):=λ x hx=>⟨_,modO_of (by omega),Int.tmod_nonneg _ hx,Int.tmod_lt_of_pos _ (by omega)⟩
   obtain⟨y1,e1,a1,b1⟩:=hm r.p h2;obtain⟨x1,f1,_⟩:=WK a1 b1;obtain⟨y2,e2,a2,b2⟩:=hm (r.p*7+3) (by omega);obtain⟨x2,f2,_⟩:=WK a2 b2;have u1:=x1.toNat_lt;have u2:=x2.toNat_lt;have hd1:0<=r.p.tdiv (r.b.length:Int):=Int.tdiv_nonneg h2 (by omega);have hd2:r.p.tdiv (r.b.length:Int)<=r.p:=Int.tdiv_le_self _ h2;rw[if_neg (by decide),e1,obS,f1,obS,wC (by omega) (by omega),obS,wC (by omega) (by omega),obS,wC (by omega) (by omega),obS,e2,obS,f2,obS,wC (by omega) (by omega),obS,wC (by omega) (by omega),obS,wC (by omega) (by omega),obS,wC (by omega) (by omega),obS,divO_of (by omega) (by omega) (by omega),obS,wC (by omega) (by omega),obS,wC (by omega) (by omega),obS];generalize hz:(x1.toNat:Int)*131+(x2.toNat:Int)*1117+r.p*29+r.p.tdiv (r.b.length:Int)*53=z;have hz0:0<=z/\z<4611686018427387904:=by omega
   have hz1:0<=z.tdiv 64:=Int.tdiv_nonneg hz0.1 (by omega);have hz2:z.tdiv 64<=z:=Int.tdiv_le_self _ hz0.1;rw[divO_of (by decide) (by omega) (by omega),obS];exact hres _ (xorI_nn hz0.1 hz0.2 hz1 (by omega))
theorem Dr.ite{α:Type}{k:Int}{c:Prop}[Decidable c]{x y:Option (Reader×α)}{P:α->Prop}(h1:c->Dr k x P)(h2:¬ c->Dr k y P):Dr k (if c then x else y) P:=by
 split
 ·
  exact h1 (by assumption)
 ·
  exact h2 (by assumption)
theorem Dr.any{α γ:Type}{k:Int}{x:Option γ}{f:γ->Option (Reader×α)}{P:α->Prop}(hx:∃ o,x=some o)(hf:∀ o,Dr k (f o) P):Dr k (x.bind f) P:=by
 obtain⟨o,rfl⟩:=hx;exact hf o
theorem Dr.some{α γ:Type}{k:Int}{x:Option γ}{o:γ}{f:γ->Option (Reader×α)}{P:α->Prop}(hx:x=some o)(hf:Dr k (f o) P):Dr k (x.bind f) P:=by
 rw[hx];exact hf
theorem Jl{k:Int}{r:Reader}{l:List Int}(P:Int->Prop)(h:Rok k r)(hk:k<=1000000)(h0:0<l.length)(hP:∀ x∈l,P x):Dr (k+1) (ya r l) P:=by
 unfold ya;refine .bind (xV _ h hk) λ r1 v h1 hv=>?_
 obtain⟨x,hx,hm⟩:=WK hv.1 (hv.2 (by omega));exact .some hx (.pure h1 (hP x hm))
theorem of_ok{k:Int}{r:Reader}{l:List Str}(P:Str->Prop)(h:Rok k r)(hk:k<=1000000)(h0:0<l.length)(hP:∀ x∈l,P x):Dr (k+1) (xH r l) P:=by
 unfold xH;refine .bind (xV _ h hk) λ r1 v h1 hv=>?_
 obtain⟨x,hx,hm⟩:=WK hv.1 (hv.2 (by omega));exact .some hx (.pure h1 (hP x hm))
theorem ZC{k:Int}{r:Reader}(h:Rok k r)(hk:k<=1000000):Dr (k+1) (yO r) (λ s=>s.l.length<=1):=by
 unfold yO;refine .bind (of_ok (λ s=>s.l.length<=1) h hk (by decide) (by decide)) λ r1 v h1 hv=>.pure h1 hv
theorem JI{σ:Type}{step:Reader×σ×Int->Option ((Reader×σ×Int)⊕(Reader×σ))}(K:Nat->Int)(P:Nat->σ->Prop)(m:Nat)(hK:∀ i j,i<=j->K i<=K j)
  (h:∀ j r x n,j<m->Rok (K j) r->P j x->0<n->n+(j:Int)<=m->∃ r' x',step (r,x,n)=some (.inl (r',x',n - 1))/\Rok (K (j+1)) r'/\P (j+1) x')
  (hend:∀ r x n,n<=0->step (r,x,n)=some (.inr (r,x))) (hm:m<=1000) {r:Reader} {x:σ} {n:Int} (h0:Rok (K 0) r) (hx:P 0 x) (hn:n<=m):Dr (K m) (zM step (r,x,n)) (λ y=>∃ j,j<=m/\P j y):=by
 have key:∀ q j r x n,j+q=m->Rok (K j) r->P j x->n<=(q:Int)->∃ r' y,jL step (q+1) (r,x,n)=some (r',y)/\Rok (K m) r'/\∃ j',j'<=m/\P j' y:=by
  intro q
  induction q with
  | zero=>intro j r x n hj hr hx hn;exact⟨r,x,xo (hend r x n (by omega)),hr.le (hK _ _ (by omega)),j,by omega,hx⟩
  |
   succ q ih=>
   intro j r x n hj hr hx hn;by_cases hn0:n<=0
   ·
    exact⟨r,x,xo (hend r x n hn0),hr.le (hK _ _ (by omega)),j,by omega,hx⟩
   ·
    obtain⟨r',x',h1,h2,h3⟩:=h j r x n (by omega) hr hx (by omega) (by omega);rw[qK h1];exact ih (j+1) r' x' (n - 1) (by omega) h2 h3 (by omega)
 obtain⟨r',y,h1,h2,h3⟩:=key m 0 r x n (by omega) h0 hx hn;exact⟨r',y,qF h1 (by omega),h2,h3⟩
theorem zaj{k:Int}{r:Reader}(h:Rok k r)(hk:k<=900000):Dr (k+10) (jE r) (λ s=>s.l.length<=8):=by
 unfold jE;refine .bind (ZC h (by omega)) λ r1 s h1 hs=>?_
 refine .bind (k:=k+10) (P:=λ s=>s.l.length<=8) ?_ λ r3 s3 h3 hs3=>.pure h3 hs3
 refine .bind (Jl (λ n=>n<=2) h1 (by omega) (by decide) (by decide)) λ r2 n h2 hn=>?_
 refine(JI (λ j=>k+2+j) (λ j (s:Str)=>s.l.length<=1+2*j) 2 (λ i j hij=>by omega) (λ j r x n hj hr hx hn hb=>?_) (λ r x n hn=>?_) (by omega) (h2.le (by show k+1+1<=k+2+((0:Nat):Int);omega)) (by show s.l.length<=1+2*0;omega) (by exact hn)).mono (by show k+2+((2:Nat):Int)<=k+10;omega) (λ y ⟨j,hj,hy⟩=>by omega)
 ·
  obtain⟨r',v,e1,e2,e3⟩:=ZC hr (by omega);have e3':v.l.length<=1:=e3;refine⟨r',⟨(x.l++[46])++v.l⟩,?_,e2.le (by show k+2+(j:Int)+1<=k+2+((j+1:Nat):Int);omega),?_⟩
  ·
   unfold qy;dsimp only;rw[if_pos (by simp[cmpI];omega),YG (by show x.l.length+1<=_;omega),obS,e1,obS,YG (by rw[List.length_append];show x.l.length+1+v.l.length<=_;omega),obS,wC (by omega) (by omega),obS]
  ·
   show(x.l++[46]++v.l).length<=_;simp only[List.length_append,List.length_singleton];omega
 ·
  unfold qy;dsimp only;rw[if_neg (by simp[cmpI];omega)]
theorem Dr.step{α β:Type}{k:Int}{x:Option (Reader×α)}{P:α->Prop}{f:Reader×α->Option β}{Q:β->Prop}(hx:Dr k x P)(hf:∀ r v,Rok k r->P v->∃ y,f (r,v)=Option.some y/\Q y):∃ y,x.bind f=Option.some y/\Q y:=by
 obtain⟨r,v,h1,h2,h3⟩:=hx;rw[h1];exact hf r v h2 h3
theorem zb3{k:Int}{r:Reader}(h:Rok k r)(hk:k<=900000):Dr (k+12) (q8 r) (λ s=>s.l.length<=16):=by
 unfold q8;refine .bind (zaj h hk) λ r1 s h1 hs=>.bind (xV 20 h1 (by omega)) λ r2 v h2 _=>?_
 have hs':s.l.length<=8:=hs;refine .ite (λ _=>.some (YG (m:=s) (by show s.l.length+1<=_;omega)) (.pure (h2.le (by omega)) (by show(s.l++[46]).length<=16;rw[List.length_append];show s.l.length+1<=16;omega))) λ _=>?_
 exact .ite (λ _=>.bind (of_ok (λ s=>s.l.length<=16) h2 (by omega) (by decide) (by decide)) λ r3 v h3 hv=>.pure (h3.le (by omega)) hv) λ _=>.pure (h2.le (by omega)) (by show s.l.length<=16;omega)
def smS(s:Stmt):Prop:=s.module.l.length<=16/\s.name.l.length<=16
theorem someStmt_ok{k:Int}{r:Reader}(h:Rok k r)(hk:k<=800000):Dr (k+30) (qz r) smS:=by
 unfold qz;refine .bind (xV 9 h (by omega)) λ r1 v1 h1 _=>?_
 refine .any (by split <;> exact⟨_,rfl⟩) λ o7=>?_
 refine .ite (λ _=>.bind (zaj h1 (by omega)) λ r2 s h2 hs=>.pure (h2.le (by omega)) ⟨Nat.le_trans hs (by decide),Nat.zero_le _⟩) λ _=>?_
 refine .ite (λ _=>?_) λ _=>?_
 ·
  refine .bind (Jl (λ _=>True) h1 (by omega) (by decide) (λ _ _=>trivial)) λ r2 n h2 _=>.bind (zaj h2 (by omega)) λ r3 s h3 hs=>?_
  refine .bind (k:=k+13) (P:=λ s=>s.l.length<=16) ?_ λ r4 m h4 hm=>.bind (ZC h4 (by omega)) λ r5 q h5 hq=>.pure (h5.le (by omega)) ⟨hm,Nat.le_trans hq (by decide)⟩
  dsimp only;cases cmpI .gtr n 0 with
  |
   true=>
   refine .bind (xV 2 h3 (by omega)) λ r4 v h4 _=>.ite (λ _=>.pure (h4.le (by omega)) (Nat.zero_le _)) λ _=>.pure (h4.le (by omega)) (Nat.le_trans hs (by decide))
  | false=>exact .pure (h3.le (by omega)) (Nat.le_trans hs (by decide))
 refine .ite (λ _=>.bind (zaj h1 (by omega)) λ r2 s h2 hs=>.pure (h2.le (by omega)) ⟨Nat.le_trans hs (by decide),Nat.zero_le _⟩) λ _=>?_
 refine .any (by split;exact⟨_,rfl⟩;split <;> exact⟨_,rfl⟩) λ o62=>?_
 refine .ite (λ _=>.bind (of_ok (λ s=>s.l.length<=16) h1 (by omega) (by decide) (by decide)) λ r2 s h2 hs=>.bind (xV 100 h2 (by omega)) λ r3 v h3 _=>.pure (h3.le (by omega)) ⟨Nat.zero_le _,hs⟩) λ _=>?_
 refine .ite (λ _=>.bind (of_ok (λ s=>s.l.length<=16) h1 (by omega) (by decide) (by decide)) λ r2 s h2 hs=>.pure (h2.le (by omega)) ⟨Nat.zero_le _,hs⟩) λ _=>?_
 refine .bind (xV 3 h1 (by omega)) λ r2 v h2 _=>.ite (λ _=>.pure (h2.le (by omega)) ⟨Nat.zero_le _,Nat.zero_le _⟩) λ _=>.bind (xV 100 h2 (by omega)) λ r3 v h3 _=>.pure (h3.le (by omega)) ⟨Nat.zero_le _,(by show 1<=16;omega)⟩
def smB(n:Nat)(b:List Stmt):Prop:=b.length<=n/\∀ s∈b,smS s
theorem smB.app{n:Nat}{b:List Stmt}{s:Stmt}(h:smB n b)(hs:smS s):smB (n+1) (b++[s]):=⟨by have:=h.1;simp;omega,λ x hx=>(List.mem_append.1 hx).elim (h.2 x) λ hx=>by rw[List.mem_singleton.1 hx];exact hs⟩
theorem smB.le{n m:Nat}{b:List Stmt}(h:smB n b)(hm:n<=m):smB m b:=⟨Nat.le_trans h.1 hm,h.2⟩
theorem someBody_ok{k:Int}{r:Reader}(h:Rok k r)(hk:k<=700000):Dr (k+170) (qA r) (smB 4):=by
 unfold qA;refine .bind (xV 2 h (by omega)) λ r1 v1 h1 _=>?_
 refine .bind (k:=k+170) (P:=smB 4) ?_ λ r3 s3 h3 hs3=>.pure h3 hs3
 refine .bind (Jl (λ n=>n<=4) h1 (by omega) (by decide) (by decide)) λ r2 n h2 hn=>?_
 refine(JI (λ j=>k+2+40*j) (λ j x=>smB j x) 4 (λ i j hij=>by omega) (λ j r x n hj hr hx hn hb=>?_) (λ r x n hn=>?_) (by omega) (h2.le (by show k+1+1<=k+2+40*((0:Nat):Int);omega)) ⟨Nat.le_refl _,λ s hs=>by cases hs⟩ (by exact hn)).mono (by show k+2+40*((4:Nat):Int)<=k+170;omega) (λ y ⟨j,hj,hy⟩=>hy.le hj)
 ·
  have key:∃ y,ws (r1,v1) (r,x,n)=Option.some y/\∃ r' x',y=.inl (r',x',n - 1)/\Rok (k+2+40*((j+1:Nat):Int)) r'/\smB (j+1) x':=by
   unfold ws;rw[if_pos (by simp[cmpI];omega)];refine Dr.step (someStmt_ok hr (by omega)) λ r3 s h3 hs=>?_
   refine Dr.step (k:=k+2+40*j+31) (P:=smS) (.ite (λ _=>.bind (xV 100 h3 (by omega)) λ r4 v h4 _=>.pure (h4.le (by omega)) ⟨Nat.zero_le _,(by show 1<=16;omega)⟩) λ _=>.pure (h3.le (by omega)) hs) λ r4 s2 h4 hs2=>?_
   have hl:=hx.1;refine⟨_,by dsimp only;rw[yF (by simp;omega) (by simp;omega),obS,wC (by omega) (by omega),obS],r4,_,rfl,h4.le (by omega),hx.app hs2⟩
  obtain⟨y,e,r',x',rfl,e2,e3⟩:=key;exact⟨r',x',e,e2,e3⟩
 ·
  unfold ws;dsimp only;rw[if_neg (by simp[cmpI];omega)]
def smF(n:Nat)(f:File):Prop:=f.pkg.l.length<=16/\f.name.l.length<=16/\smB n f.body
theorem someFile_ok{k:Int}{r:Reader}(h:Rok k r)(hk:k<=600000):Dr (k+200) (qC r) (smF 4):=by
 unfold qC;refine .bind (Jl (λ _=>True) h (by omega) (by decide) (λ _ _=>trivial)) λ r1 v1 h1 _=>.bind (xV 100 h1 (by omega)) λ r2 v2 h2 _=>.bind (someBody_ok h2 (by omega)) λ r3 b h3 hb=>?_
 refine .bind (k:=k+200) (P:=smF 4) ?_ λ r4 f h4 hf=>.pure h4 hf
 refine .bind (xV 6 h3 (by omega)) λ r4 v4 h4 _=>?_
 refine .any (by split <;> exact⟨_,rfl⟩) λ o30=>?_
 refine .ite (λ _=>.bind (ZC h4 (by omega)) λ r5 s h5 hs=>.pure (h5.le (by omega)) ⟨Nat.zero_le _,Nat.le_trans hs (by decide),hb⟩) λ _=>?_
 refine .any (by split <;> exact⟨_,rfl⟩) λ o51=>?_
 refine .ite (λ _=>.bind (ZC h4 (by omega)) λ r5 s h5 hs=>.bind (ZC h5 (by omega)) λ r6 s2 h6 hs2=>.pure (h6.le (by omega)) ⟨Nat.le_trans hs (by decide),Nat.le_trans hs2 (by decide),hb⟩) λ _=>?_
 refine .ite (λ _=>.bind (ZC h4 (by omega)) λ r5 s h5 hs=>.pure (h5.le (by omega)) ⟨Nat.le_trans hs (by decide),Nat.zero_le _,hb⟩) λ _=>?_
 refine .bind (ZC h4 (by omega)) λ r5 s h5 hs=>?_
 have hs':s.l.length<=1:=hs;refine .some (YG (m:=s) (by show s.l.length+1<=_;omega)) (.bind (ZC h5 (by omega)) λ r6 s2 h6 hs2=>?_);have hs2':s2.l.length<=1:=hs2;have hlen:(s.l++[46]++s2.l).length<=16:=by simp only[List.length_append,List.length_singleton];omega
 refine .some (YG (by simp only[List.length_append];show s.l.length+1+s2.l.length<=_;omega)) (.bind (xV 2 h6 (by omega)) λ r7 v7 h7 _=>?_);exact .ite (λ _=>.pure (h7.le (by omega)) ⟨hlen,Nat.zero_le _,hb⟩) λ _=>.bind (ZC h7 (by omega)) λ r8 s3 h8 hs3=>.pure (h8.le (by omega)) ⟨hlen,Nat.le_trans hs3 (by decide),hb⟩
def smT(n m:Nat)(t:Tree):Prop:=t.files.length<=n/\∀ f∈t.files,smF m f
theorem smF.le{n m:Nat}{f:File}(h:smF n f)(hm:n<=m):smF m f:=⟨h.1,h.2.1,h.2.2.le hm⟩
theorem smT.le{n m n' m':Nat}{t:Tree}(h:smT n m t)(hn:n<=n')(hm:m<=m'):smT n' m' t:=⟨Nat.le_trans h.1 hn,λ f hf=>(h.2 f hf).le hm⟩
theorem smT.app{n m:Nat}{t:Tree}{f:File}(h:smT n m t)(hf:smF m f):smT (n+1) m ⟨t.files++[f]⟩:=⟨by have:=h.1;simp;omega,λ x hx=>(List.mem_append.1 hx).elim (h.2 x) λ hx=>by rw[List.mem_singleton.1 hx];exact hf⟩
theorem smT.set{n m i:Nat}{t:Tree}{f:File}(h:smT n m t)(hf:smF m f):smT n m ⟨t.files.set i f⟩:=⟨by have:=h.1;simp;omega,λ x hx=>(List.mem_or_eq_of_mem_set hx).elim (h.2 x) λ hx=>by rw[hx];exact hf⟩
theorem someTree_ok{k:Int}{r:Reader}(h:Rok k r)(hk:k<=500000):Dr (k+2100) (qD r) (smT 10 4):=by
 unfold qD;refine .bind (k:=k+2100) (P:=smT 10 4) ?_ λ r3 s3 h3 hs3=>.pure h3 hs3
 refine .bind (Jl (λ n=>n<=10) h (by omega) (by decide) (by decide)) λ r2 n h2 hn=>?_
 refine(JI (λ j=>k+1+200*j) (λ j x=>smT j 4 x) 10 (λ i j hij=>by omega) (λ j r x n hj hr hx hn hb=>?_) (λ r x n hn=>?_) (by omega) (h2.le (by show k+1<=k+1+200*((0:Nat):Int);omega)) ⟨Nat.le_refl _,λ s hs=>by cases hs⟩ (by exact hn)).mono (by show k+1+200*((10:Nat):Int)<=k+2100;omega) (λ y ⟨j,hj,hy⟩=>hy.le hj (Nat.le_refl _))
 ·
  have key:∃ y,wt (r,x,n)=Option.some y/\∃ r' x',y=.inl (r',x',n - 1)/\Rok (k+1+200*((j+1:Nat):Int)) r'/\smT (j+1) 4 x':=by
   unfold wt;rw[if_pos (by simp[cmpI];omega)];have hl:=hx.1;refine Dr.step (k:=k+1+200*j+200) (P:=smT (j+1) 4) ?_ λ r4 t h4 ht=>?_
   ·
    refine .bind (someFile_ok hr (by omega)) λ r3 f h3 hf=>.some (if_pos trivial) (.ite (λ _=>?_) λ _=>.pure h3 (hx.le (by omega) (Nat.le_refl _)))
    exact .some (yF (by simp;omega) (by simp;omega)) (.pure h3 (hx.app hf))
   ·
    exact⟨_,by dsimp only;rw[wC (by omega) (by omega),obS],r4,t,rfl,h4.le (by omega),ht⟩
  obtain⟨y,e,r',x',rfl,e2,e3⟩:=key;exact⟨r',x',e,e2,e3⟩
 ·
  unfold wt;dsimp only;rw[if_neg (by simp[cmpI];omega)]
theorem anyTree_ok{k:Int}{r:Reader}(h:Rok k r)(hk:k<=400000):Dr (k+2200) (Za r) (smT 11 5):=by
 unfold Za;refine .bind (someTree_ok h (by omega)) λ r1 t h1 ht=>?_
 have ht5:smT 11 5 t:=ht.le (by omega) (by omega);refine .bind (k:=k+2200) (P:=smT 11 5) ?_ λ r4 f h4 hf=>.pure h4 hf
 refine .ite (λ hpos=>?_) λ _=>.pure (h1.le (by omega)) ht5
 have hpos':0<(t.files.length:Int):=oD hpos;obtain⟨f,hf,hm⟩:=WK (l:=t.files) (i:=0) (Int.le_refl _) hpos';have hsf:=ht.2 f hm;have hl:=ht.1;refine .bind (xV 24 h1 (by omega)) λ r2 v2 h2 _=>?_
 refine .ite (λ _=>.some hf (.some (yF (by simp;omega) (by simp;omega)) (.pure (h2.le (by omega)) ((ht.app hsf).le (by omega) (by omega))))) λ _=>?_
 refine .ite (λ _=>.bind (Jl (λ _=>True) h2 (by omega) (by decide) (λ _ _=>trivial)) λ r3 v3 h3 _=>.some hf (.pure (h3.le (by omega)) (ht5.set ⟨hsf.1,hsf.2.1,hsf.2.2.le (by omega)⟩))) λ _=>?_
 refine .ite (λ _=>.bind (Jl (λ _=>True) h2 (by omega) (by decide) (λ _ _=>trivial)) λ r3 v3 h3 _=>.some hf (.pure (h3.le (by omega)) (ht5.set ⟨hsf.1,hsf.2.1,hsf.2.2.le (by omega)⟩))) λ _=>?_
 refine .ite (λ _=>?_) λ _=>.pure (h2.le (by omega)) ht5
 have hbl:=hsf.2.2.1;exact .some hf (.some (yF (by simp;omega) (by simp;omega)) (.some hf (.pure (h2.le (by omega)) (ht5.set ⟨hsf.1,hsf.2.1,hsf.2.2.app ⟨Nat.zero_le _,Nat.zero_le _⟩⟩))))
theorem somePath_ok{k:Int}{r:Reader}(h:Rok k r)(hk:k<=900000):Dr (k+1) (qB r) (λ p=>p.length<=3):=by
 unfold qB;refine .bind (xV 8 h (by omega)) λ r2 v2 h2 _=>?_
 have d:∀ {l:List Int} {c:Prop} [Decidable c] {y:Option (Reader×List Int)},l.length<=3->Dr (k+1) y (λ p=>p.length<=3)->Dr (k+1) (if c then some (r2,l) else y) (λ p=>p.length<=3):=λ hl hy=>.ite (λ _=>.pure h2 hl) λ _=>hy
 exact d (by decide) (d (by decide) (d (by decide) (d (by decide) (d (by decide) (.pure h2 (by decide))))))
theorem anyPath_ok{k:Int}{r:Reader}(h:Rok k r)(hk:k<=800000):Dr (k+2) (q9 r) (λ p=>p.length<=3):=by
 unfold q9;refine .bind (xV 20 h (by omega)) λ r2 v2 h2 _=>.ite (λ _=>?_) λ _=>.bind (somePath_ok h2 (by omega)) λ r3 p h3 hp=>.pure (h3.le (by omega)) hp
 refine .bind (xV 3 h2 (by omega)) λ r3 v3 h3 hv=>?_
 obtain⟨x,hx,hm⟩:=WK (l:=([[],[0,0],[3]]:List (List Int))) hv.1 (hv.2 (by decide));exact .some hx (.pure (h3.le (by omega)) ((by decide:∀ x∈([[],[0,0],[3]]:List (List Int)),x.length<=3) x hm))
theorem newReader_ok(c:List UInt8):∃ r,qf c=some r/\Rok 0 r:=by
 unfold qf;by_cases h:(c.length:Int) > 2000
 ·
  rw[if_pos (by simpa[cmpI] using h),show(2000:Int)=((2000:Nat):Int) from rfl,JG (by omega),obS,obS];exact⟨_,rfl,by show(c.take 2000).length<=2000;simp;omega,Int.le_refl _,Int.le_refl _⟩
 ·
  rw[if_neg (by simpa[cmpI] using h),obS];exact⟨_,rfl,by show c.length<=2000;omega,Int.le_refl _,Int.le_refl _⟩
theorem smT.sm{t:Tree}(h:smT 11 5 t):wL t:=by
 refine⟨by have:=h.1;omega,λ f hf=>?_⟩;obtain⟨h1,h2,h3,h4⟩:=h.2 f hf;exact⟨by omega,by omega,by omega,λ s hs=>⟨by have:=(h4 s hs).1;omega,by have:=(h4 s hs).2;omega⟩⟩
theorem zbn{f:File}{n:Nat}(h:smF n f):(xf f).l.length<=64:=by
 obtain⟨h1,h2,_⟩:=h;unfold xf child;split
 ·
  omega
 ·
  split
  ·
   omega
  ·
   simp only[List.length_append,List.length_singleton];omega
theorem nameOf_ok{k:Int}{r:Reader}(h:Rok k r)(hk:k<=300000):Dr (k+2300) (ZB r) (λ v=>smT 11 5 v.1/\v.2.1.length<=3/\v.2.2.l.length<=64):=by
 unfold ZB;refine .bind (anyTree_ok h (by omega)) λ r1 t h1 ht=>.bind (anyPath_ok h1 (by omega)) λ r2 q h2 hq=>?_
 dsimp only;cases hc:cmpI .gtr (t.files.length:Int) 0 with
 |
  false=>
  rw[show((false:Bool) == true)=false from rfl,YV,obS];refine .ite (λ h=>by simp at h) λ _=>?_
  rw[if_neg (by decide)];exact .bind (zb3 h2 (by omega)) λ r3 s h3 hs=>.pure (h3.le (by omega)) ⟨ht,hq,Nat.le_trans hs (by decide)⟩
 |
  true=>
  have hl:0<(t.files.length:Int):=oD hc;rw[show((true:Bool) == true)=true from rfl,ZK];refine .bind (xV 4 h2 (by omega)) λ r3 v h3 _=>?_
  rw[if_pos rfl];refine .ite (λ _=>?_) λ _=>.bind (zb3 h3 (by omega)) λ r4 s h4 hs=>.pure (h4.le (by omega)) ⟨ht,hq,Nat.le_trans hs (by decide)⟩
  refine .bind (xV _ h3 (by omega)) λ r4 i h4 hi=>?_
  obtain⟨f,hf,hm⟩:=WK (l:=t.files) hi.1 (hi.2 (by omega));exact .some hf (.some (if_pos (ht.sm.2 f hm)) (.pure (h4.le (by omega)) ⟨ht,hq,zbn (ht.2 f hm)⟩))
def smC(n:Nat)(l:List GCmd):Prop:=l.length<=n/\∀ x∈l,x.name.l.length<=64
theorem smC.app{n:Nat}{b:List GCmd}{s:GCmd}(h:smC n b)(hs:s.name.l.length<=64):smC (n+1) (b++[s]):=⟨by have:=h.1;simp;omega,λ x hx=>(List.mem_append.1 hx).elim (h.2 x) λ hx=>by rw[List.mem_singleton.1 hx];exact hs⟩
theorem smC.le{n m:Nat}{b:List GCmd}(h:smC n b)(hm:n<=m):smC m b:=⟨Nat.le_trans h.1 hm,h.2⟩
theorem smB.one{s:Stmt}(h:smS s):smB 1 [s]:=⟨Nat.le_refl _,λ x hx=>by rw[List.mem_singleton.1 hx];exact h⟩
theorem plainS1{k i n:Int}{r0 r:Reader}{t:Tree}{x:List Stmt}{j:Nat}(ht:smT 11 5 t)(h:Rok k r)(hk:k<=300000)(hi:0<i)(hil:i<=t.files.length)(hn:0<n)(hn2:n<=1000)(hj:j<=100)(hx:smB (j+1) x):∃ r' x',yP (r0,t,i) (r,x,n)=some (.inl (r',x',n - 1))/\Rok (k+3) r'/\smB (j+2) x':=by
 have key:∃ y,yP (r0,t,i) (r,x,n)=Option.some y/\∃ r' x',y=.inl (r',x',n - 1)/\Rok (k+3) r'/\smB (j+2) x':=by
  unfold yP;dsimp only;rw[if_pos (by simp[cmpI];omega)];refine Dr.step (k:=k+3) (P:=smB (j+2)) ?_ λ r4 x4 h4 hx4=>⟨_,by dsimp only;rw[wC (by omega) (by omega),obS],r4,x4,rfl,h4,hx4⟩
  refine .bind (xV i h (by omega)) λ r1 v h1 hv=>?_
  have hvi:=hv.2 (by omega);obtain⟨f,hf,hm⟩:=WK (l:=t.files) hv.1 (by omega);have hml:=zbn (ht.2 f hm);have hmid:mid (xf f):=by unfold mid;omega
  have hxl:=hx.1;refine .some hf (.some (if_pos (ht.sm.2 f hm)) (.some (if_pos hmid) ?_));have hone:∀ {r2:Reader},Rok (k+2) r2->zd (xf f)=true->Dr (k+3) ((ya r2 ([(0:Int),(0:Int),(2:Int)]:List Int)).bind λ v110=>(appO 56 x ([(⟨v110.2,xf f,0,⟨[]⟩,0⟩:Stmt)]:List Stmt)).bind λ v118=>Option.some (v110.1,v118)) (smB (j+2)):=λ h2 hval=>
   .bind (Jl (λ _=>True) h2 (by omega) (by decide) (λ _ _=>trivial)) λ r3 a h3 _=>.some (yF (by simp;omega) (by simp;omega)) (.pure (h3.le (by omega)) (hx.app ⟨by have:=yX hval;show(xf f).l.length<=16;omega,Nat.zero_le _⟩))
  cases hval:zd (xf f) with
  | false=>exact .any ⟨_,rfl⟩ λ o=>.any ⟨_,rfl⟩ λ o2=>.ite (λ _=>by rw[if_neg (by simp)];exact .pure (h1.le (by omega)) (hx.le (by omega))) λ h=>absurd rfl h
  |
   true=>
   rw[show((!true:Bool) == false)=true from rfl,ZK];refine .some (if_pos hmid) ?_;cases hd:decide (zr (xf f)≠(⟨[]⟩:Str)) with
   |
    false=>
    refine .any ⟨_,rfl⟩ λ o=>.ite (λ h=>by simp at h) λ _=>?_
    rw[if_neg (by simp)];exact hone (h1.le (by omega)) hval
   |
    true=>
    rw[show((true:Bool)&&((true:Bool) == true))=true from rfl,ZK];refine .bind (xV 2 h1 (by omega)) λ r2 v2 h2 _=>?_
    rw[if_pos rfl];exact .ite (λ _=>.pure (h2.le (by omega)) (hx.le (by omega))) λ _=>hone (h2.le (by omega)) hval
 obtain⟨y,e,r',x',rfl,e2,e3⟩:=key;exact⟨r',x',e,e2,e3⟩
theorem plainL1{k i n:Int}{r0 r:Reader}{t:Tree}{s:Stmt}(ht:smT 11 5 t)(h:Rok k r)(hk:k<=200000)(_hi:0<=i)(hil:i<=t.files.length)(hn:n<=2)(hs:smS s):Dr (k+6) (zM (λ s58=>yP (r0,t,i) s58) (r,[s],n)) (smB 3):=by
 have hend:∀ (r:Reader) (x:List Stmt) (n:Int),n<=0\/i<=0->yP (r0,t,i) (r,x,n)=some (.inr (r,x)):=λ r x n hn=>by
  unfold yP;dsimp only;rw[if_neg (by simp[cmpI];omega)]
 by_cases hi0:i<=0
 ·
  exact⟨r,[s],qF (m:=1) (xo (hend r [s] n (.inr hi0))) (by omega),h.le (by omega),(smB.one hs).le (by omega)⟩
 ·
  refine(JI (λ j=>k+3*j) (λ j x=>smB (j+1) x) 2 (λ i j hij=>by omega) (λ j r x n hj hr hx hn hb=>?_) (λ r x n hn=>hend r x n (.inl hn)) (by omega) (h.le (by show k<=k+3*((0:Nat):Int);omega)) (smB.one hs) (by exact hn)).mono (by show k+3*((2:Nat):Int)<=k+6;omega) (λ y ⟨j,hj,hy⟩=>hy.le (by omega));obtain⟨r',x',e,e2,e3⟩:=plainS1 (r0:=r0) ht hr (by omega) (by omega) hil hn (by omega) (by omega) hx;exact⟨r',x',e,e2.le (by show k+3*(j:Int)+3<=k+3*((j+1:Nat):Int);omega),e3⟩
theorem plainL0{t0:Tree}(h0:smT 11 5 t0){k:Int}(hk:k<=100000){r:Reader}(h:Rok k r):Dr (k+110) (zM (λ s35=>xj s35) (r,t0,(0:Int))) (smT 11 5):=by
 have hlen0:=h0.1;have key:∀ q j (r:Reader) (t:Tree),j+q=t.files.length->t.files.length<=11->Rok (k+10*j) r->smT 11 5 t->∃ r' y,jL (λ s35=>xj s35) (q+1) (r,t,(j:Int))=some (r',y)/\Rok (k+110) r'/\smT 11 5 y:=by
  intro q
  induction q with
  |
   zero=>
   intro j r t hj hl hr ht;refine⟨r,t,xo ?_,hr.le (by omega),ht⟩;unfold xj;dsimp only;rw[zF,if_neg (by simp;omega)]
  |
   succ q ih=>
   intro j r t hj hl hr ht;obtain⟨f,hf,hm⟩:=get_some (l:=t.files) (k:=j) (by omega);have key2:∃ y,xj (r,t,(j:Int))=Option.some y/\∃ r' t',y=.inl (r',t',((j+1:Nat):Int))/\Rok (k+10*((j+1:Nat):Int)) r'/\smT 11 5 t'/\t'.files.length=t.files.length:=by
    unfold xj;dsimp only;rw[zF,if_pos (decide_eq_true (by omega))];refine Dr.step (k:=k+10*j+9) (P:=λ t'=>smT 11 5 t'/\t'.files.length=t.files.length) ?_ λ r4 t4 h4 ht4=>⟨_,by dsimp only;rw[zU (by omega),obS],r4,t4,rfl,h4.le (by omega),ht4.1,ht4.2⟩
    refine .bind (k:=k+10*j+8) (P:=smB 3) ?_ λ r3 b h3 hb=>?_
    ·
     refine .bind (xV 3 hr (by omega)) λ r1 v h1 hv=>?_
     have hv3:=hv.2 (by omega);exact(plainL1 (k:=k+10*j+1) ht h1 (by omega) (by omega) (by omega) (by omega) ⟨Nat.zero_le _,by show 1<=16;omega⟩).mono (by omega) λ _ h=>h
    ·
     refine .some (x:=atI t.files (j:Int)) (by rw[zT];exact hf) (.pure (h3.le (by omega)) ⟨ht.set ⟨(ht.2 f hm).1,(ht.2 f hm).2.1,hb.le (by omega)⟩,?_⟩);show(t.files.set _ _).length=_;rw[List.length_set]
   obtain⟨y,e,r',t',rfl,e2,e3,e4⟩:=key2;rw[qK e];exact ih (j+1) r' t' (by omega) (by omega) e2 e3
 obtain⟨r',y,e,e2,e3⟩:=key t0.files.length 0 r t0 (by omega) hlen0 (h.le (by omega)) h0;exact⟨r',y,qF e (by omega),e2,e3⟩
theorem plainOf_ok{k:Int}{r:Reader}(h:Rok k r)(hk:k<=50000):Dr (k+2500) (Zb r) (λ v=>smT 11 5 v.1/\v.2.1.length<=3/\v.2.2.l.length<=64):=by
 unfold Zb;refine .bind (nameOf_ok h (by omega)) λ r1 v h1 hv=>.bind (xV 3 h1 (by omega)) λ r2 p h2 _=>?_
 obtain⟨t,q,s⟩:=v;refine .ite (λ _=>.pure (h2.le (by omega)) hv) λ _=>?_
 exact .bind (plainL0 hv.1 (by omega) h2) λ r3 t3 h3 ht3=>.pure (h3.le (by omega)) ⟨ht3,hv.2⟩
theorem zbD(c:List UInt8):∃ t path s,wS c=some (t,path,s)/\smT 11 5 t/\path.length<=3/\s.l.length<=64:=by
 obtain⟨r,h1,h2⟩:=newReader_ok c;obtain⟨r1,⟨t,q,s⟩,e1,k1,p1,p2,p3⟩:=plainOf_ok h2 (by omega);refine⟨t,q,s,?_,p1,p2,p3⟩;unfold wS;rw[h1,obS,e1,obS]
open Go.RowKit
theorem zak(s:Str)(c:UInt8)(hs:s.l.length<=1000000):(∃ pre post,s.l=pre++c::post/\c ∉ post/\zP s c=some (pre.length:Int))\/(c ∉ s.l/\zP s c=some (-1)):=by
 have key:∀ k,k<=s.l.length->c ∉ s.l.drop k->∃ r,jL (λ s6=>zI s c s6) (k+1) ((k:Int) - 1)=some r/\((∃ pre post,s.l=pre++c::post/\c ∉ post/\r=.inr (pre.length:Int))\/(c ∉ s.l/\r=.inl ())):=by
  intro k
  induction k with
  |
   zero=>
   intro _ hc;refine⟨.inl (),xo ?_,.inr ⟨by simpa using hc,rfl⟩⟩;unfold zI;rw[if_neg (by simp[cmpI])]
  |
   succ k ih=>
   intro hk hc;have hb:s.l[k]?=some s.l[k]:=List.getElem?_eq_getElem (by omega);have hd:s.l.drop k=s.l[k]::s.l.drop (k+1):=List.drop_eq_getElem_cons (by omega);have e1:((k+1:Nat):Int) - 1=(k:Int):=by omega
   rw[e1];by_cases h:s.l[k]=c
   ·
    refine⟨.inr (k:Int),xo ?_,.inl ⟨s.l.take k,s.l.drop (k+1),?_,hc,by simp;omega⟩⟩
    ·
     unfold zI;rw[if_pos (by simp[cmpI]),zT,hb,obS,if_pos (by simp[cmpB,h])]
    ·
     rw[← h,← hd,List.take_append_drop]
   ·
    have hs1:zI s c (k:Int)=some (.inl ((k:Int) - 1)):=by
     unfold zI;rw[if_pos (by simp[cmpI]),zT,hb,obS,if_neg (by simp[cmpB,h]),wC (by omega) (by omega),obS]
    rw[qK hs1];exact ih (by omega) (by rw[hd];simp only[List.mem_cons,not_or];exact⟨λ e=>h e.symm,hc⟩)
 obtain⟨r,h1,h2⟩:=key s.l.length (Nat.le_refl _) (by simp);have hl:zP s c=Option.bind (some r) (Sum.elim (λ _=>some (-1)) some):=by
  unfold zP yt;rw[wC (by omega) (by omega),obS,qF h1 (by omega)];cases r <;> rfl
 rcases h2 with⟨pre,post,e1,e2,rfl⟩ | ⟨e1,rfl⟩
 ·
  exact .inl ⟨pre,post,e1,e2,hl⟩
 ·
  exact .inr ⟨e1,hl⟩
theorem zb4{s:Str}{pre post:List UInt8}(h:s.l=pre++46::post)(hp:(46:UInt8) ∉ post):zg s dot=zg ⟨pre⟩ dot++[⟨post⟩]:=by
 have e:s=⟨((⟨pre⟩:Str).l++[46])++(⟨post⟩:Str).l⟩:=by
  cases s;simp only at h ⊢;rw[h];simp
 have e2:zg ⟨post⟩ dot=[⟨post⟩]:=by
  rw[wU];show(cutF 46 post).map Str.mk=_;rw[zag 46 post hp];rfl
 rw[e,split_append,e2]
theorem split_none{s:Str}(h:(46:UInt8) ∉ s.l):zg s dot=[s]:=by
 rw[wU];show(cutF 46 s.l).map Str.mk=_;rw[zag 46 s.l h];rfl
theorem JJ{s:Str}{pre post:List UInt8}(h:s.l=pre++46::post)(hp:(46:UInt8) ∉ post):zr s=⟨pre⟩/\wP s=⟨post⟩:=by
 unfold zr wP;rw[zb4 h hp];constructor
 ·
  rw[List.length_append,List.length_singleton,Nat.add_sub_cancel,List.take_left];exact qq ⟨pre⟩
 ·
  simp
theorem YW{s:Str}(h:(46:UInt8) ∉ s.l):zr s=emptyS/\wP s=s:=by
 unfold zr wP;rw[split_none h];exact⟨rfl,rfl⟩
theorem Z0{s:Str}(hv:zd s=true):yG s=some (zr s):=by
 have hl:=yX hv;unfold yG;rcases zak s 46 (by omega) with⟨pre,post,e1,e2,e3⟩ | ⟨e1,e3⟩
 ·
  rw[show zP s (UInt8.ofNat 46)=some (pre.length:Int) from e3,obS,xa (xt hv),obS,hv,if_neg (by simp[cmpI]),JE (by rw[e1,List.length_append];omega),obS,(JJ e1 e2).1,e1,List.take_left]
 ·
  rw[show zP s (UInt8.ofNat 46)=some (-1) from e3,obS,xa (xt hv),obS,hv,if_pos (by simp[cmpI]),(YW e1).1];rfl
theorem LastOf_eq{s:Str}(hv:zd s=true):wW s=some (wP s):=by
 have hl:=yX hv;unfold wW;rw[xa (xt hv),obS,hv,if_neg (by decide)];rcases zak s 46 (by omega) with⟨pre,post,e1,e2,e3⟩ | ⟨e1,e3⟩
 ·
  have hlen:pre.length+1<=s.l.length:=by rw[e1,List.length_append,List.length_cons];omega
  rw[show zP s (UInt8.ofNat 46)=some (pre.length:Int) from e3,obS,zU (by omega),obS,JF hlen,obS,(JJ e1 e2).2,e1]
  congr 2
  rw[show pre++46::post=(pre++[46])++post by simp,List.drop_left' (by simp)]
 ·
  rw[show zP s (UInt8.ofNat 46)=some (-1) from e3,obS,show((-1:Int)+1)=((0:Nat):Int) from rfl,wC (by omega) (by omega),obS,JF (by omega),obS,(YW e1).2];rfl
open Go.RowKit
theorem name_of{s:Str}(hv:zd s=true):s=child (zr s) (wP s):=by
 have hl:=yX hv;rcases zak s 46 (by omega) with⟨pre,post,e1,e2,_⟩ | ⟨e1,_⟩
 ·
  obtain⟨h1,h2⟩:=JJ e1 e2;rw[h1,h2];unfold child;by_cases he:(⟨pre⟩:Str)=emptyS
  ·
   have hpre:pre=[]:=by injection he
   subst hpre;have hs:=zb4 e1 e2;have h3:=(yj hv).1 ⟨[]⟩ (by rw[hs];exact List.mem_append_left _ (by decide));exact absurd (YK h3).1 (by simp)
  ·
   rw[if_neg he];cases s;simp only at e1;rw[e1];simp
 ·
  obtain⟨h1,h2⟩:=YW e1;rw[h1,h2];rfl
open Go.RowKit
section
variable{α:Type}[DecidableEq α]
def addU(out:List α)(x:α):List α:=if x∈out then out else out++[x]
def xL(out l:List α):List α:=l.foldl addU out
theorem addU_mem{out:List α}{x y:α}:y∈addU out x ↔ y∈out\/y=x:=by
 unfold addU;split
 ·
  rename_i h;constructor
  ·
   exact Or.inl
  ·
   rintro (h1 | rfl)
   ·
    exact h1
   ·
    exact h
 ·
  rw[List.mem_append,List.mem_singleton]
theorem qr:∀ {l out:List α} {y:α},y∈xL out l ↔ y∈out\/y∈l
 | [],out,y=>by simp[xL]
 |
  x::l,out,y=>by
  show y∈xL (addU out x) l ↔ _;rw[qr,addU_mem,List.mem_cons,or_assoc]
theorem addU_nodup{out:List α}{x:α}(h:out.Nodup):(addU out x).Nodup:=by
 unfold addU;split
 ·
  exact h
 ·
  rename_i hx;rw[List.nodup_append];refine⟨h,by simp,?_⟩;intro a ha b hb e;rw[List.mem_singleton] at hb;subst hb;subst e;exact hx ha
theorem Xc:∀ {l out:List α},out.Nodup->(xL out l).Nodup
 | [],_,h=>h
 | x::l,out,h=>Xc (l:=l) (out:=addU out x) (addU_nodup h)
theorem addU_pre(out:List α)(x:α):∃ t,addU out x=out++t:=by
 unfold addU;split
 ·
  exact⟨[],by simp⟩
 ·
  exact⟨[x],rfl⟩
theorem QC:∀ (l out:List α),∃ t,xL out l=out++t
 | [],out=>⟨[],by simp[xL]⟩
 |
  x::l,out=>by
  obtain⟨t,ht⟩:=addU_pre out x;obtain⟨u,hu⟩:=QC l (addU out x);exact⟨t++u,by show xL (addU out x) l=_;rw[hu,ht,List.append_assoc]⟩
theorem zb5(out l m:List α):xL out (l++m)=xL (xL out l) m:=by
 unfold xL;rw[List.foldl_append]
theorem zbo:∀ (l out:List α),(out++l).Nodup->xL out l=out++l
 | [],out,_=>by simp[xL]
 |
  x::l,out,h=>by
  show xL (addU out x) l=_;have hx:x ∉ out:=by
   rw[List.nodup_append] at h;exact λ hx=>h.2.2 x hx x (List.mem_cons_self ..) rfl
  rw[show addU out x=out++[x] from if_neg hx,zbo l (out++[x]) (by simpa using h)];simp
theorem zb6{l:List α}(h:l.Nodup):xL [] l=l:=by rw[zbo l [] (by simpa using h)];rfl
def uniq(l:List α):List α:=xL [] l
theorem uniq_app{out l:List α}(h:out.Nodup):uniq (out++l)=xL out l:=by
 unfold uniq;rw[zb5,zb6 h]
theorem XF{l:List α}{x:α}:x∈uniq l ↔ x∈l:=by unfold uniq;rw[qr];simp
theorem addU_len(out:List α)(x:α):(addU out x).length<=out.length+1:=by
 unfold addU;split
 ·
  omega
 ·
  simp
theorem QD:∀ (l out:List α),(xL out l).length<=out.length+l.length
 | [],out=>by simp[xL]
 |
  x::l,out=>by
  have h1:=QD l (addU out x);have h2:=addU_len out x;show(xL (addU out x) l).length<=_;rw[List.length_cons];omega
theorem uniq_len(l:List α):(uniq l).length<=l.length:=by
 have:=QD l [];unfold uniq;simpa using this
theorem Zc:∀ {l m:List α},l.Nodup->(∀ x∈l,x∈m)->l.length<=m.length
 | [],_,_,_=>Nat.zero_le _
 |
  x::l,m,hn,hs=>by
  rw[List.nodup_cons] at hn;have hx:=hs x (List.mem_cons_self ..);have h1:=Zc (l:=l) (m:=m.erase x) hn.2 λ y hy=>(List.mem_erase_of_ne (by intro e;subst e;exact hn.1 hy)).2 (hs y (List.mem_cons_of_mem _ hy))
  have h2:=List.length_erase_of_mem hx;have h3:=List.length_pos_of_mem hx;rw[List.length_cons];omega
def Zd(E:α->List α):Nat->Nat->List α->List α
 | 0,_,out=>out
 |
  m+1,k,out=>match out[k]? with
  | none=>out
  | some x=>Zd E m (k+1) (xL out (E x))
inductive Way (E:α->List α) (l:List α):α->Prop
 | here {x}:x∈l->Way E l x
 | step {x y}:Way E l x->y∈E x->Way E l y
omit [DecidableEq α] in
theorem Way.mono{E:α->List α}{l m:List α}(h:∀ x∈l,Way E m x){x:α}(hw:Way E l x):Way E m x:=by
 induction hw with
 | here hx=>exact h _ hx
 | step _ hy ih=>exact .step ih hy
theorem zb7{E:α->List α}{from_:List α}:∀ (m k:Nat) (out:List α),(∀ x∈out,Way E from_ x)->∀ x∈Zd E m k out,Way E from_ x
 | 0,_,_,h,x,hx=>h x hx
 |
  m+1,k,out,h,x,hx=>by
  unfold Zd at hx;split at hx
  ·
   exact h x hx
  ·
   rename_i y hy;refine zb7 m (k+1) _ (λ z hz=>?_) x hx;rcases qr.1 hz with h1 | h1
   ·
    exact h z h1
   ·
    exact .step (h y (List.mem_of_getElem? hy)) h1
theorem zal{E:α->List α}:∀ (m k:Nat) (out:List α),out.Nodup->(Zd E m k out).Nodup
 | 0,_,_,h=>h
 |
  m+1,k,out,h=>by
  unfold Zd;split
  ·
   exact h
  ·
   exact zal m (k+1) _ (Xc h)
theorem QE{E:α->List α}{U:List α}(hE:∀ x∈U,∀ y∈E x,y∈U):∀ (m k:Nat) (out:List α),(∀ x∈out,x∈U)->∀ x∈Zd E m k out,x∈U
 | 0,_,_,h,x,hx=>h x hx
 |
  m+1,k,out,h,x,hx=>by
  unfold Zd at hx;split at hx
  ·
   exact h x hx
  ·
   rename_i y hy;refine QE hE m (k+1) _ (λ z hz=>?_) x hx;rcases qr.1 hz with h1 | h1
   ·
    exact h z h1
   ·
    exact hE y (h y (List.mem_of_getElem? hy)) z h1
theorem J9{E:α->List α}{U:List α}(hE:∀ x∈U,∀ y∈E x,y∈U):∀ (m k:Nat) (out:List α),out.Nodup->(∀ x∈out,x∈U)->U.length<=m+k->(∀ j x,j<k->out[j]?=some x->∀ y∈E x,y∈out)->∀ x∈Zd E m k out,∀ y∈E x,y∈Zd E m k out
 |
  0,k,out,hn,hs,hm,hc,x,hx,y,hy=>by
  have hl:=Zc hn hs;obtain⟨j,hj,e⟩:=List.getElem_of_mem (show x∈out from hx);exact hc j x (by omega) (by rw[List.getElem?_eq_getElem hj,e]) y hy
 |
  m+1,k,out,hn,hs,hm,hc,x,hx,y,hy=>by
  have hl:=Zc hn hs;unfold Zd at hx ⊢;split at hx
  ·
   rename_i hk;rw[List.getElem?_eq_none_iff] at hk;obtain⟨j,hj,e⟩:=List.getElem_of_mem hx;exact hc j x (by omega) (by rw[List.getElem?_eq_getElem hj,e]) y hy
  ·
   rename_i z hz;refine J9 hE m (k+1) _ (Xc hn) (λ w hw=>?_) (by omega) (λ j w hj hw v hv=>?_) x hx y hy
   ·
    rcases qr.1 hw with h1 | h1
    ·
     exact hs w h1
    ·
     exact hE z (hs z (List.mem_of_getElem? hz)) w h1
   ·
    obtain⟨t,ht⟩:=QC (E z) out;have hkl:k<out.length:=(List.getElem?_eq_some_iff.1 hz).1;rw[ht,List.getElem?_append_left (by omega)] at hw;rcases Nat.lt_succ_iff_lt_or_eq.1 hj with h1 | h1
    ·
     exact qr.2 (.inl (hc j w h1 hw v hv))
    ·
     subst h1;rw[hz] at hw;cases hw;exact qr.2 (.inr hv)
theorem zb8{E:α->List α}:∀ (m k:Nat) (out:List α),∀ x∈out,x∈Zd E m k out
 | 0,_,_,_,hx=>hx
 |
  m+1,k,out,x,hx=>by
  unfold Zd;split
  ·
   exact hx
  ·
   exact zb8 m (k+1) _ x (qr.2 (.inl hx))
theorem reachR_iff{E:α->List α}{U:List α}(hE:∀ x∈U,∀ y∈E x,y∈U){m:Nat}{out:List α}(hn:out.Nodup)(hs:∀ x∈out,x∈U)(hm:U.length<=m){x:α}:x∈Zd E m 0 out ↔ Way E out x:=by
 constructor
 ·
  exact λ h=>zb7 m 0 out (λ y hy=>.here hy) x h
 ·
  intro h
  induction h with
  | here hx=>exact zb8 m 0 out _ hx
  | step _ hy ih=>exact J9 hE m 0 out hn hs (by omega) (λ j _ hj=>absurd hj (by omega)) _ ih _ hy
end
theorem loop_grow{α β S:Type}[DecidableEq α]{step:S->Option (S⊕β)}(mk:List α->Nat->S)(E:α->List α)(U:List α)(hE:∀ x∈U,∀ y∈E x,y∈U)(fin:List α->β)
  (h:∀ k out x,out[k]?=some x->out.Nodup->(∀ y∈out,y∈U)->step (mk out k)=some (.inl (mk (xL out (E x)) (k+1))))
  (hend:∀ out,out.Nodup->(∀ y∈out,y∈U)->step (mk out out.length)=some (.inr (fin out)))
  {out:List α} (hn:out.Nodup) (hs:∀ y∈out,y∈U) (hU:U.length<576460752303423488) {s:S} (h0:s=mk out 0):zM step s=some (fin (Zd E U.length 0 out)):=by
 subst h0;have key:∀ m k out,out.Nodup->(∀ y∈out,y∈U)->U.length<=m+k->k<=out.length->jL step (m+1) (mk out k)=some (fin (Zd E m k out)):=by
  intro m
  induction m with
  |
   zero=>
   intro k out hn hs hm hk;have hl:=Zc hn hs;have:k=out.length:=by omega
   subst this;exact xo (hend out hn hs)
  |
   succ m ih=>
   intro k out hn hs hm hk;unfold Zd;cases hx:out[k]? with
   |
    none=>
    rw[List.getElem?_eq_none_iff] at hx;have:k=out.length:=by omega
    subst this;exact xo (hend out hn hs)
   |
    some x=>
    have hkl:k<out.length:=(List.getElem?_eq_some_iff.1 hx).1;rw[qK (h k out x hx hn hs)];refine ih (k+1) _ (Xc hn) (λ w hw=>?_) (by omega) ?_
    ·
     rcases qr.1 hw with h1 | h1
     ·
      exact hs w h1
     ·
      exact hE x (hs x (List.mem_of_getElem? hx)) w h1
    ·
     obtain⟨t,ht⟩:=QC (E x) out;rw[ht,List.length_append];omega
 exact qF (key U.length 0 out hn hs (by omega) (Nat.zero_le _)) (by omega)
open Go.RowKit
def upN:Nat->Str->Str
 | 0,p=>p
 | n+1,p=>upN n (zr p)
def ZD(p:Str)(lv:Int)(m:Str):Str:=if cmpI .eql lv 0=true then m else if upN (lv - 1).toNat p=emptyS then emptyS else if m=emptyS then upN (lv - 1).toNat p else child (upN (lv - 1).toNat p) m
def Ze(p:Str)(s:Stmt):Str:=if(cmpI .eql s.kind 0||cmpI .eql s.kind 2)=true then s.module else if cmpI .eql s.kind 1=true then ZD p s.level s.module else emptyS
def xI(p:Str)(b:List Stmt):List Str:=(b.map (Ze p)).filter zd
def YX(n:Str)(s:Spec):Str:=if cmpI .eql s.kind 1=true then zr n else n
def Yi(t:List File)(k:Int):File:=(t[k.toNat]?).getD default
def QF(t:List File)(n:Str)(s:Spec):List Str:=if cmpI .lss s.file 0=true then[] else uniq (xI (YX n s) (Yi t s.file).body)
def Zp(t:List File)(path:List Int)(n:Str):List Str:=QF t n (find t path n)
def wV(t:List File)(path:List Int)(n:Str):List Str:=uniq ((Zp t path n).flatMap yK)
def JK(f:File):List Str:=(xI f.pkg f.body).flatMap yK
def wG(t:List File)(s:Str):List Str:=yK s++t.flatMap JK
theorem QG{α:Type}{p:α->Bool}{l:List α}(h:cmpI .lss (xc p l) 0=false):∃ x,l[(xc p l).toNat]?=some x/\p x=true:=by
 unfold xc at h ⊢;cases e:l.findIdx? p with
 | none=>rw[e] at h;exact absurd h (by decide)
 |
  some i=>
  rw[List.findIdx?_eq_some_iff_getElem] at e;obtain⟨hi,h1,_⟩:=e;exact⟨l[i],by simp only[Int.toNat_natCast];exact List.getElem?_eq_getElem hi,h1⟩
theorem Xd(n:Int):cmpI .geq n 0=!cmpI .lss n 0:=by
 unfold cmpI;by_cases h:n<0
 ·
  have:¬ n>=0:=by omega
  simp[h,this]
 ·
  have:n>=0:=by omega
  simp[h,this]
theorem Qa{t:List File}{p s:Str}:∀ (rs acc:List Int),cmpI .lss (yT t p s acc rs).file 0=false->∃ f,t[(yT t p s acc rs).file.toNat]?=some f/\(((yT t p s acc rs).kind=2/\f.init=true/\f.pkg=child p s)\/((yT t p s acc rs).kind=1/\f.init=false/\f.pkg=p/\f.name=s))
 |
  [],acc,h=>by
  unfold yT at h;split at h
  ·
   exact absurd (show cmpI .lss (-1:Int) 0=false from h) (by decide)
  ·
   exact absurd (show cmpI .lss (-1:Int) 0=false from h) (by decide)
 |
  r::rs,acc,h=>by
  unfold yT at h ⊢;split at h
  ·
   rename_i hc;rw[if_pos hc];obtain⟨f,h1,h2⟩:=QG h;refine⟨f,h1,.inl ⟨rfl,?_⟩⟩;unfold xp at h2;simp only[Bool.and_eq_true,beq_iff_eq,decide_eq_true_eq] at h2;exact⟨h2.1.2,h2.1.1.2⟩
  ·
   rename_i hc;rw[if_neg hc];split at h
   ·
    rename_i hc2;rw[if_pos hc2];obtain⟨f,h1,h2⟩:=QG h;refine⟨f,h1,.inr ⟨rfl,?_⟩⟩;unfold xp at h2;simp only[Bool.and_eq_true,beq_iff_eq,decide_eq_true_eq] at h2;exact⟨h2.1.2,h2.1.1.2,h2.2⟩
   ·
    rename_i hc2;rw[if_neg hc2];exact Qa rs _ h
theorem parent_child{p s:Str}(hs:zB s=true):zr (child p s)=p:=by
 unfold child;split
 ·
  rename_i h;rw[(YW (X6 hs)).1,h]
 ·
  have h:(⟨(p.l++[46])++s.l⟩:Str).l=p.l++46::s.l:=by simp
  rw[(JJ h (X6 hs)).1]
theorem Zf{t:Tree}(hv:zw t=true){path:List Int}{n:Str}(hn:zd n=true)(h:cmpI .lss (find t.files path n).file 0=false):∃ f,t.files[(find t.files path n).file.toNat]?=some f/\f∈t.files/\xf f=n/\YX n (find t.files path n)=f.pkg:=by
 rcases find_last (t:=t.files) (path:=path) hn with e | ⟨r,p,s,e,hc⟩
 ·
  rw[e] at h;exact absurd h (by decide)
 ·
  rw[e] at h ⊢;obtain⟨f,h1,h2⟩:=Qa _ _ h;have hm:=List.mem_of_getElem? h1;refine⟨f,h1,hm,?_⟩;unfold xf YX wx;rcases h2 with⟨h3,h4,h5⟩ | ⟨h3,h4,h5,h6⟩
  ·
   rw[h3,h4,h5,hc];exact⟨rfl,rfl⟩
  ·
   have hf:=XE hv hm;have hp:zB f.name=true:=by
    unfold xF at hf;split at hf
    ·
     cases hf
    ·
     rw[h4,if_neg (by decide),Bool.and_eq_true] at hf;exact hf.1
   have hpn:zr n=p:=by rw[← hc];exact parent_child (by rw[← h6];exact hp)
   rw[h3,h4,h5,h6,if_neg (by decide),hc];exact⟨rfl,hpn⟩
theorem xW{t:Tree}(hv:zw t=true){f:File}(hf:f∈t.files):xk f.body=true:=by
 have h:=XE hv hf;unfold xF at h;cases hb:xk f.body with
 | true=>rfl
 | false=>rw[hb,if_pos (by simp)] at h;cases h
theorem Zg{t:List File}{k:Int}{f:File}(h:t[k.toNat]?=some f):Yi t k=f:=by unfold Yi;rw[h];rfl
theorem Y3{p:Str}{b:List Stmt}{x:Str}(h:x∈xI p b):zd x=true:=(List.mem_filter.1 h).2
theorem YL(p:Str)(b:List Stmt):(xI p b).length<=b.length:=by
 unfold xI;refine Nat.le_trans (List.length_filter_le _ _) ?_;rw[List.length_map];omega
theorem ZE{t:List File}{path:List Int}{n x:Str}(h:x∈Zp t path n):zd x=true:=by
 unfold Zp QF at h;split at h
 ·
  cases h
 ·
  exact Y3 (XF.1 h)
theorem YA{s:Str}(h:zd s=true):(yK s).length<=3:=by
 have:=(yj h).2;rw[above_len];omega
theorem XG(l:List Str)(h:∀ x∈l,zd x=true):(l.flatMap yK).length<=3*l.length:=by
 induction l with
 | nil=>simp
 |
  cons x l ih=>
  have h1:=YA (h x (List.mem_cons_self ..));have h2:=ih λ y hy=>h y (List.mem_cons_of_mem _ hy)
  rw[List.flatMap_cons,List.length_append,List.length_cons];omega
theorem zaY{l:List Str}(h:∀ x∈l,zd x=true){y:Str}(hy:y∈l.flatMap yK):zd y=true:=by
 obtain⟨x,hx,hxy⟩:=List.mem_flatMap.1 hy;exact zbm (h x hx) hxy
theorem Jm{t:Tree}(hv:zw t=true){path:List Int}{n:Str}(hn:zd n=true):(Zp t.files path n).length<=8:=by
 unfold Zp QF;cases hf:cmpI .lss (find t.files path n).file 0 with
 | true=>rw[if_pos rfl];exact Nat.zero_le _
 |
  false=>
  obtain⟨f,h1,h2,_,_⟩:=Zf hv hn hf;have hb:=xW hv h2;unfold xk at hb;have hl:f.body.length<=8:=by
   rw[Bool.and_eq_true] at hb;have:=hb.2;unfold cmpI at this;simp only[decide_eq_true_eq] at this;omega
  rw[if_neg (by decide),Zg h1];exact Nat.le_trans (uniq_len _) (Nat.le_trans (YL _ _) hl)
theorem zbp{t:Tree}(hv:zw t=true){path:List Int}{n:Str}(hn:zd n=true):(wV t.files path n).length<=24:=by
 have h1:=Jm hv (path:=path) hn;have h2:=XG (Zp t.files path n) λ _ hy=>ZE hy
 exact Nat.le_trans (uniq_len _) (by omega)
theorem ZF{t:List File}{s x:Str}(hs:zd s=true)(h:x∈wG t s):zd x=true:=by
 unfold wG at h;rcases List.mem_append.1 h with h | h
 ·
  exact zbm hs h
 ·
  obtain⟨f,_,hx⟩:=List.mem_flatMap.1 h;exact zaY (λ _ hy=>Y3 hy) hx
theorem Qb{t:Tree}(hv:zw t=true){path:List Int}{s n x:Str}(hn:zd n=true)(h:x∈wV t.files path n):x∈wG t.files s:=by
 unfold wG;refine List.mem_append.2 (.inr ?_);have h0:=XF.1 h;obtain⟨y,hy,hxy⟩:=List.mem_flatMap.1 h0;unfold Zp QF at hy;cases hf:cmpI .lss (find t.files path n).file 0 with
 | true=>rw[hf,if_pos rfl] at hy;cases hy
 |
  false=>
  obtain⟨f,h1,h2,_,h4⟩:=Zf hv hn hf;rw[hf,if_neg (by decide),Zg h1,h4] at hy;exact List.mem_flatMap.2 ⟨f,h2,List.mem_flatMap.2 ⟨y,XF.1 hy,hxy⟩⟩
theorem fileLeads_len{f:File}(h:f.body.length<=8):(JK f).length<=24:=by
 have h1:=XG (xI f.pkg f.body) λ _ hy=>Y3 hy
 have h2:=YL f.pkg f.body;unfold JK;omega
theorem jJ{b:List Stmt}(h:xk b=true):b.length<=8:=by
 unfold xk at h;rw[Bool.and_eq_true] at h;have:=h.2;unfold cmpI at this;simp only[decide_eq_true_eq] at this;omega
theorem Jn{t:Tree}(hv:zw t=true){s:Str}(hs:zd s=true):(wG t.files s).length<=300:=by
 have key:∀ (l:List File),(∀ f∈l,f∈t.files)->(l.flatMap JK).length<=24*l.length:=by
  intro l
  induction l with
  | nil=>intro _;simp
  |
   cons f l ih=>
   intro hl;have h1:=fileLeads_len (jJ (xW hv (hl f (List.mem_cons_self ..))));have h2:=ih λ g hg=>hl g (List.mem_cons_of_mem _ hg)
   rw[List.flatMap_cons,List.length_append,List.length_cons];omega
 have h1:=key t.files λ _ h=>h
 have h2:=J8 hv;have h3:=YA hs;unfold wG;rw[List.length_append];omega
theorem Z1{s:Str}(h:zd s=true):(yK s).Nodup:=by
 have hparts:=(yj h).1;unfold yK jU;refine List.pairwise_map.2 (List.Pairwise.imp_of_mem (λ{a b} ha hb hne e=>hne ?_) List.nodup_range);rw[List.mem_range] at ha hb;have h1:=Yz (l:=(zg s dot).take (a+1)) (by intro e0;have:=congrArg List.length e0;rw[List.length_take,List.length_nil] at this;omega) λ x hx=>hparts x (List.mem_of_mem_take hx)
 have h2:=Yz (l:=(zg s dot).take (b+1)) (by intro e0;have:=congrArg List.length e0;rw[List.length_take,List.length_nil] at this;omega) λ x hx=>hparts x (List.mem_of_mem_take hx)
 rw[e,h2] at h1;have:=congrArg List.length h1;rw[List.length_take,List.length_take] at this;omega
def ZM(t:List File)(path:List Int)(s:Str)(l:List Str):List Str:=Zd (wV t path) (wG t s).length 0 l
theorem reachOf_len{t:Tree}(hv:zw t=true){path:List Int}{s:Str}(hs:zd s=true){l:List Str}(hn:l.Nodup)(hl:∀ x∈l,x∈wG t.files s):(ZM t.files path s l).length<=300:=
 Nat.le_trans (Zc (zal _ _ _ hn) (QE (λ _x hx _y hy=>Qb hv (ZF hs hx) hy) _ _ _ hl)) (Jn hv hs)
open Go.RowKit
def okG(t:Tree)(path:List Int)(s:Str):Bool:=zw t&&yR path&&zd s
theorem Zh{t:Tree}{path:List Int}{s:Str}(h:okG t path s=true):zw t=true/\yR path=true/\zd s=true:=by
 unfold okG at h;simp only[Bool.and_eq_true] at h;exact⟨h.1.1,h.1.2,h.2⟩
section
variable{t:Tree}{path:List Int}{s:Str}
theorem Xe(hv:zw t=true)(hs:zd s=true):∀ x∈wG t.files s,∀ y∈wV t.files path x,y∈wG t.files s:=
 λ _ hx _ hy=>Qb hv (ZF hs hx) hy
theorem Zi{l:List File}{x:Str}(h:x∈yK s):x∈wG l s:=List.mem_append.2 (.inl h)
theorem Jo(hv:zw t=true)(hs:zd s=true){l:List Str}(hn:l.Nodup)(hl:∀ x∈l,x∈wG t.files s){x:Str}:x∈ZM t.files path s l ↔ Way (wV t.files path) l x:=
 reachR_iff (Xe hv hs) hn hl (Nat.le_refl _)
theorem reachOf_world(hv:zw t=true)(hs:zd s=true){l:List Str}(hl:∀ x∈l,x∈wG t.files s){x:Str}(h:x∈ZM t.files path s l):x∈wG t.files s:=
 QE (Xe hv hs) _ _ _ hl x h
theorem reachOf_valid(hv:zw t=true)(hs:zd s=true){l:List Str}(hl:∀ x∈l,x∈wG t.files s){x:Str}(h:x∈ZM t.files path s l):zd x=true:=
 ZF hs (reachOf_world hv hs hl h)
theorem zb9(hv:zw t=true)(hs:zd s=true){l:List Str}(hn:l.Nodup)(hl:∀ x∈l,x∈wG t.files s){x y:Str}(hx:x∈ZM t.files path s l)(hy:y∈wV t.files path x):y∈ZM t.files path s l:=by
 rw[Jo hv hs hn hl] at hx ⊢;exact .step hx hy
end
def ZR(t:Tree)(path:List Int)(s:Str):List Str:=ZM t.files path s (yK s)
def WL(t:Tree)(path:List Int)(n:Str):Bool:=cmpI .eql (find t.files path n).kind 0
def xD(st:Stmt):Bool:=cmpI .eql st.kind 0||cmpI .eql st.kind 2||cmpI .eql st.kind 3
def Zj(t:Tree)(path:List Int)(n:Str):Bool:=cmpI .lss (find t.files path n).file 0||(Yi t.files (find t.files path n).file).body.all xD
def qg(t:Tree)(path:List Int)(s:Str):List Str:=if okG t path s=true then XW (ZR t path s) else[]
def Wl(t:Tree)(path:List Int)(s:Str):List Str:=(qg t path s).filter (WL t path)
def Xf(t:Tree)(path:List Int)(s:Str):Bool:=okG t path s&&(qg t path s).all (Zj t path)
section
variable{t:Tree}{path:List Int}{s:Str}
theorem QI(hv:zw t=true)(hs:zd s=true):(ZR t path s).length<=300:=reachOf_len hv hs (Z1 hs) λ _ h=>Zi h
theorem WM(hv:zw t=true)(hs:zd s=true){x:Str}(h:x∈ZR t path s):zd x=true:=reachOf_valid hv hs (λ _ h=>Zi h) h
theorem WN(h:okG t path s=true){x:Str}:x∈qg t path s ↔ x∈ZR t path s:=by
 unfold qg;rw[if_pos h,(zai _).2]
theorem zca:(qg t path s).length<=300:=by
 unfold qg;split
 ·
  rename_i h;obtain⟨h1,_,h2⟩:=Zh h;exact Nat.le_trans (zbl _) (QI h1 h2)
 ·
  exact Nat.zero_le _
theorem zam{x:Str}(h:x∈qg t path s):zd x=true/\okG t path s=true:=by
 unfold qg at h;split at h
 ·
  rename_i h0;obtain⟨h1,_,h2⟩:=Zh h0;exact⟨WM h1 h2 (((zai _).2 x).1 h),h0⟩
 ·
  cases h
end
open Go.RowKit
open Go.RowKit
theorem any_mem{l:List Str}{x:Str}:l.any (λ y=>decide (y=x))=decide (x∈l):=by
 rw[Bool.eq_iff_iff,List.any_eq_true];simp
theorem any_mem'{l:List Str}{x:Str}:l.any (λ y=>decide (x=y))=decide (x∈l):=by
 rw[Bool.eq_iff_iff,List.any_eq_true];simp
theorem WU{l:List Str}{x:Str}(h:l.length<=1048576):jf l x=some (decide (x∈l)):=by
 unfold jf YE;have hl:zM (λ s4=>wj l x s4) 0=some (match l.findIdx? (λ y=>decide (y=x)) with | some i=>(Sum.inr (i:Int):Unit⊕Int) | none=>Sum.inl ()):=by
  refine Ji l (λ y=>decide (y=x)) (λ i=>Sum.inr i) _ (λ k y hx hlt=>?_) ?_ (by omega) rfl
  ·
   unfold wj;rw[zF,if_pos (decide_eq_true hlt),zT,hx,obS,zU (by omega)];cases decide (y=x) <;> rfl
  ·
   unfold wj;rw[zF,if_neg (by simp)]
 have e:Option.bind (α:=Unit⊕Int) (zM (λ s4=>wj l x s4) 0) (Sum.elim (λ _=>some (-1)) some)=some (xc (λ y=>decide (y=x)) l):=by
  rw[hl];unfold xc;cases l.findIdx? (λ y=>decide (y=x)) <;> rfl
 rw[e,obS,Wj,any_mem]
theorem zan{l:List Str}{x:Str}(h:l.length<=1048576):zZ l x=some (decide (x∈l)):=by
 unfold zZ xw;have hl:zM (λ s4=>zY l x s4) 0=some (match l.findIdx? (λ y=>decide (x=y)) with | some i=>(Sum.inr (i:Int):Unit⊕Int) | none=>Sum.inl ()):=by
  refine Ji l (λ y=>decide (x=y)) (λ i=>Sum.inr i) _ (λ k y hx hlt=>?_) ?_ (by omega) rfl
  ·
   unfold zY;rw[zF,if_pos (decide_eq_true hlt),zT,hx,obS,zU (by omega)];cases decide (x=y) <;> rfl
  ·
   unfold zY;rw[zF,if_neg (by simp)]
 have e:Option.bind (α:=Unit⊕Int) (zM (λ s4=>zY l x s4) 0) (Sum.elim (λ _=>some (-1)) some)=some (xc (λ y=>decide (x=y)) l):=by
  rw[hl];unfold xc;cases l.findIdx? (λ y=>decide (x=y)) <;> rfl
 rw[e,obS,Wj,any_mem']
theorem Wm{β γ:Type}{step:List Str×Int->Option ((List Str×Int)⊕β)}(l:List γ)(g:List Str->γ->List Str)(fin:List Str->β)(c B:Nat)
  (hlen:∀ out x,x∈l->(g out x).length<=out.length+c)
  (h:∀ k out x,l[k]?=some x->x∈l->k<l.length->out.length<=B->step (out,(k:Int))=some (.inl (g out x,((k+1:Nat):Int))))
  (hend:∀ out,step (out,(l.length:Int))=some (.inr (fin out))) {out:List Str} (hb:out.length+c*l.length<=B) (hl:l.length<=1048576):zM step (out,(0:Int))=some (fin (l.foldl g out)):=by
 have:=zaW (step:=step) l (λ(s:List Str) k=>(s,(k:Int))) g fin (λ k s=>k<=l.length/\s.length<=out.length+c*k) (λ k s x hx hk hI=>?_) (λ s _=>hend s) (s0:=out) ⟨Nat.zero_le _,by omega⟩ (by omega)
 ·
  exact this
 ·
  have hm:=List.mem_of_getElem? hx;have h1:c*k<=c*l.length:=Nat.mul_le_mul_left c (by omega);have h2:=hlen s x hm;refine⟨h k s x hx hm hk (by omega),by omega,?_⟩;rw[Nat.mul_succ];omega
theorem fold_add{γ:Type}(f:γ->List Str):∀ (l:List γ) (out:List Str),l.foldl (λ o x=>xL o (f x)) out=xL out (l.flatMap f)
 | [],_=>rfl
 |
  x::l,out=>by
  rw[List.foldl_cons,List.flatMap_cons,zb5];exact fold_add f l _
theorem fold_app{γ:Type}(f:γ->List Str):∀ (l:List γ) (out:List Str),l.foldl (λ o x=>o++f x) out=out++l.flatMap f
 | [],_=>by simp
 |
  x::l,out=>by
  rw[List.foldl_cons,List.flatMap_cons,fold_app f l];simp
theorem fold_if{γ:Type}(p:γ->Bool)(f:List Str->γ->List Str):∀ (l:List γ) (out:List Str),l.foldl (λ o x=>if p x=true then f o x else o) out=(l.filter p).foldl f out
 | [],_=>rfl
 |
  x::l,out=>by
  rw[List.foldl_cons,List.filter_cons];cases h:p x with
  | true=>rw[if_pos rfl,if_pos rfl,List.foldl_cons];exact fold_if p f l _
  | false=>rw[if_neg (by decide),if_neg (by decide)];exact fold_if p f l _
theorem add_loop{step:List Str×Int->Option ((List Str×Int)⊕List Str)}(l:List Str)
  (h:∀ k out x,l[k]?=some x->x∈l->k<l.length->out.length<=1000->step (out,(k:Int))=some (.inl (addU out x,((k+1:Nat):Int))))
  (hend:∀ out,step (out,(l.length:Int))=some (.inr out)) {out:List Str} (hb:out.length+l.length<=1000):zM step (out,(0:Int))=some (xL out l):=
 Wm l addU (λ o=>o) 1 1000 (λ out x _=>addU_len out x) h hend (by omega) (by omega)
theorem Qc{s:Str}(h:zd s=true):Yd s=some (yK s):=if_pos (xt h).mid
theorem zao{p:Str}(h:zt p=true):mid p:=by have:=yJ h;unfold mid;omega
theorem WO:zr emptyS=emptyS:=by
 have:(46:UInt8) ∉ emptyS.l:=by decide
 exact(YW this).1
theorem XH{p:Str}(h:zt p=true):zt (zr p)=true:=by
 unfold zt at h;rw[Bool.or_eq_true,decide_eq_true_eq] at h;rcases h with h | h
 ·
  rw[h,WO];rfl
 ·
  exact pre_valid h _
theorem zaZ:∀ n,upN n emptyS=emptyS
 | 0=>rfl
 |
  n+1=>by
  unfold upN;rw[WO];exact zaZ n
theorem upN_pkg:∀ n {p:Str},zt p=true->zt (upN n p)=true
 | 0,_,h=>h
 | n+1,_,h=>upN_pkg n (XH h)
theorem spec_base_eq{p:Str}(hp:zt p=true){n:Nat}(hn:n<=10):YT p ((n:Int)+1)=some (upN n p,decide (upN n p≠(⟨[]⟩:Str))):=by
 have key:∀ (k i:Nat) (q:Str),zt q=true->i+k=n->∃ r,jL (λ s4=>wB ((n:Int)+1) s4) (k+1) (q,((i+1:Nat):Int))=some r/\(r=.inl (upN k q)\/(r=.inr ((⟨[]⟩:Str),false)/\upN k q=emptyS)):=by
  intro k
  induction k with
  |
   zero=>
   intro i q hq hi;refine⟨.inl q,xo ?_,.inl rfl⟩;unfold wB;simp only;rw[show((n:Int)+1)=((n+1:Nat):Int) by omega,zF,if_neg (by simp;omega)]
  |
   succ k ih=>
   intro i q hq hi;have hlt:cmpI .lss ((i+1:Nat):Int) ((n:Int)+1)=true:=by unfold cmpI;exact decide_eq_true (by omega)
   by_cases he:q=(⟨[]⟩:Str)
   ·
    refine⟨.inr ((⟨[]⟩:Str),false),xo ?_,.inr ⟨rfl,?_⟩⟩
    ·
     unfold wB;simp only;rw[if_pos hlt,if_pos (decide_eq_true he)]
    ·
     rw[he];exact zaZ _
   ·
    have hs:wB ((n:Int)+1) (q,((i+1:Nat):Int))=some (.inl (zr q,((i+1+1:Nat):Int))):=by
     unfold wB;simp only;rw[if_pos hlt,if_neg (by simpa using he),show wv q=some (zr q) from if_pos (zao hq),obS,zU (by omega)];rfl
    obtain⟨r,h1,h2⟩:=ih (i+1) (zr q) (XH hq) (by omega);exact⟨r,by rw[qK hs];exact h1,h2⟩
 obtain⟨r,h1,h2⟩:=key n 0 p hp (by omega);unfold YT;rw[show(1:Int)=((0+1:Nat):Int) from rfl,qF (by simpa using h1) (by omega)];rcases h2 with rfl | ⟨rfl,h3⟩
 ·
  rfl
 ·
  rw[h3];rfl
theorem Jp{p m:Str}{lv:Int}:ZD p lv m=if lv=0 then m else if upN (lv - 1).toNat p=emptyS then emptyS else if m=emptyS then upN (lv - 1).toNat p else child (upN (lv - 1).toNat p) m:=by
 unfold ZD;by_cases h:lv=0
 ·
  rw[if_pos h,if_pos (by simp[cmpI,h])]
 ·
  rw[if_neg h,if_neg (by simp[cmpI,h])]
theorem zbE{p m:Str}{lv:Int}(hp:zt p=true)(h0:0<=lv)(h1:lv<=4)(hm:sho m):j7 p lv m=some (ZD p lv m):=by
 rw[Jp];unfold j7;by_cases h:lv=0
 ·
  rw[if_pos h,if_pos (by simp[cmpI,h])]
 ·
  rw[if_neg h,if_neg (by simp[cmpI,h])];obtain⟨n,hn⟩:∃ n:Nat,lv=(n:Int)+1:=⟨(lv - 1).toNat,by omega⟩;have hu:=upN_pkg n hp;rw[show(lv - 1).toNat=n by omega,hn,spec_base_eq hp (by omega),obS];by_cases he:upN n p=emptyS
  ·
   rw[if_pos he];simp only[he];rfl
  ·
   rw[if_neg he];have he':decide (upN n p≠(⟨[]⟩:Str))=true:=decide_eq_true he;simp only[he'];rw[if_neg (by decide)];by_cases hm0:m=emptyS
   ·
    rw[if_pos hm0,if_pos (decide_eq_true (show m=(⟨[]⟩:Str) from hm0))]
   ·
    have hlu:=yJ hu;unfold sho at hm;rw[if_neg hm0,if_neg (by simpa using(show ¬ m=(⟨[]⟩:Str) from hm0)),show Y8 (upN n p) m=some (child (upN n p) m) from if_pos (by omega),obS]
theorem qH{st:Stmt}(h:zW st=true):((st.kind=0\/st.kind=2)/\zd st.module=true)\/(st.kind=1/\zt st.module=true/\0<=st.level/\st.level<=3)\/(st.kind≠0/\st.kind≠1/\st.kind≠2):=by
 unfold zW at h;by_cases h0:st.kind=0
 ·
  rw[if_pos (by simp[cmpI,h0])] at h;simp only[Bool.and_eq_true] at h;exact .inl ⟨.inl h0,h.1.1.1⟩
 ·
  rw[if_neg (by simp[cmpI,h0])] at h;by_cases h1:st.kind=1
  ·
   rw[if_pos (by simp[cmpI,h1])] at h;simp only[Bool.and_eq_true,inR] at h;have h2:=h.1.1.1.2;simp[cmpI] at h2;exact .inr (.inl ⟨h1,h.1.1.1.1,by omega,by omega⟩)
  ·
   rw[if_neg (by simp[cmpI,h1])] at h;by_cases h2:st.kind=2
   ·
    rw[if_pos (by simp[cmpI,h2])] at h;simp only[Bool.and_eq_true] at h;exact .inl ⟨.inr h2,h.1.1.1⟩
   ·
    exact .inr (.inr ⟨h0,h1,h2⟩)
theorem child_len(p s:Str):(child p s).l.length<=p.l.length+s.l.length+1:=by
 unfold child;split
 ·
  omega
 ·
  simp only[List.length_append,List.length_singleton];omega
theorem stName_sho{p:Str}{st:Stmt}(hp:zt p=true)(h:zW st=true):sho (Ze p st):=by
 unfold Ze sho;rcases qH h with⟨h1,h2⟩ | ⟨h1,h2,h3,h4⟩ | ⟨h1,h2,h3⟩
 ·
  have:=yX h2;rw[if_pos (by rcases h1 with h1 | h1 <;> simp[cmpI,h1])];omega
 ·
  rw[if_neg (by simp[cmpI,h1]),if_pos (by simp[cmpI,h1]),Jp];have h5:=yJ h2;have h6:=yJ (upN_pkg (st.level - 1).toNat hp);have h7:=child_len (upN (st.level - 1).toNat p) st.module;split
  ·
   omega
  ·
   split
   ·
    exact Nat.zero_le _
   ·
    split <;> omega
 ·
  rw[if_neg (by simp[cmpI,h1,h3]),if_neg (by simp[cmpI,h2])];exact Nat.zero_le _
section
variable{t:Tree}{path:List Int}
theorem zap{α:Type}{l:List α}{k:Int}{x:α}(h0:cmpI .lss k 0=false)(h:l[k.toNat]?=some x):atI l k=some x:=by
 have hk:0<=k:=by
  have:=of_decide_eq_false h0;omega
 unfold atI;rw[if_pos hk];exact h
theorem zbq{n:Str}(hn:zd n=true)(s:Spec):zt (YX n s)=true:=by
 have h:zt n=true:=by unfold zt;rw[hn,Bool.or_true]
 unfold YX;split
 ·
  exact XH h
 ·
  exact h
end
open Go.RowKit
theorem full_s1(l out:List Str)(hb:out.length+l.length<=1000):zM (λ s=>j8 l s) (out,(0:Int))=some (xL out l):=by
 refine add_loop l (λ k out x hx _ hk ho=>?_) (λ out=>?_) hb
 ·
  unfold j8 addU;simp only;rw[zF,if_pos (decide_eq_true hk),zT,hx,obS,WU (by omega),obS,zU (by omega)];by_cases hm:x∈out
  ·
   rw[decide_eq_true hm,if_neg (by decide),if_pos hm];rfl
  ·
   rw[decide_eq_false hm,if_pos (by decide),obS,yF (by simp;omega) (by simp;omega),if_neg hm];rfl
 ·
  unfold j8;simp only;rw[zF,if_neg (by simp)]
theorem reach_s1(l out:List Str)(hb:out.length+l.length<=1000):zM (λ s=>ZJ l s) (out,(0:Int))=some (xL out l):=by
 rw[← full_s1 l out hb];rfl
theorem spec_full_eq{l:List Str}(hv:∀ x∈l,zd x=true)(hl:l.length<=100):YU l=some (uniq (l.flatMap yK)):=by
 unfold YU;have h:zM (λ s=>j9 l s) (([]:List Str),(0:Int))=some (uniq (l.flatMap yK)):=by
  rw[show uniq (l.flatMap yK)=l.foldl (λ o x=>xL o (yK x)) [] from(fold_add yK l []).symm];refine Wm l (λ o x=>xL o (yK x)) (λ o=>o) 3 300 (λ out x hx=>?_) (λ k out x hx hm hk ho=>?_) (λ out=>?_) (by simp;omega) (by omega)
  ·
   have h1:=QD (yK x) out;have h2:=YA (hv x hx);omega
  ·
   have h2:=YA (hv x hm);unfold j9;simp only;rw[zF,if_pos (decide_eq_true hk),zT,hx,obS,Qc (hv x hm),obS,full_s1 _ _ (by omega),zU (by omega)];rfl
  ·
   unfold j9;simp only;rw[zF,if_neg (by simp)]
 rw[h];rfl
theorem zbF{p:Str}{f:File}(hp:zt p=true)(hb:xk f.body=true):zM (λ s=>wN p f s) (([]:List Str),(0:Int))=some (uniq (xI p f.body)):=by
 have hlen:=jJ hb;have hst:∀ st∈f.body,zW st=true:=by
  unfold xk at hb;rw[Bool.and_eq_true] at hb;exact λ st h=>List.all_eq_true.1 hb.1 st h
 have e:uniq (xI p f.body)=f.body.foldl (λ o st=>if zd (Ze p st)=true then addU o (Ze p st) else o) []:=by
  rw[fold_if (λ st=>zd (Ze p st)) (λ o st=>addU o (Ze p st))];unfold uniq xL xI;rw[List.filter_map,List.foldl_map];rfl
 rw[e];refine Wm f.body _ (λ o=>o) 1 1000 (λ out st hm=>?_) (λ k out st hx hm hk ho=>?_) (λ out=>?_) (by simp;omega) (by omega)
 ·
  split
  ·
   exact addU_len _ _
  ·
   omega
 ·
  have hs:=hst st hm;have hsho:=stName_sho hp hs;have hname:((atI f.body (k:Int)).bind λ v29=>Option.bind (α:=Bool) (if(cmpI .eql v29.kind (0:Int))=true then(some (cmpI .eql v29.kind (0:Int))) else(some (cmpI .eql v29.kind (2:Int)))) λ o32=>if o32=true then((atI f.body (k:Int)).bind λ v40=>some v40.module) else(if(cmpI .eql v29.kind (1:Int))=true then((atI f.body (k:Int)).bind λ v46=>(atI f.body (k:Int)).bind λ v47=>(j7 p v46.level v47.module).bind λ v48=>some v48) else(some (⟨[]⟩:Str))))=some (Ze p st):=by
   rw[zT,hx];simp only[obS];unfold Ze;rcases qH hs with⟨h1,h2⟩ | ⟨h1,h2,h3,h4⟩ | ⟨h1,h2,h3⟩
   ·
    rcases h1 with h1 | h1 <;> simp[cmpI,h1]
   ·
    have hm2:sho st.module:=by have:=yJ h2;unfold sho;omega
    rw[zbE hp h3 (by omega) hm2];simp[cmpI,h1]
   ·
    simp[cmpI,h1,h2,h3];rfl
  unfold wN;simp only;rw[zF,if_pos (decide_eq_true hk),hname,obS,show xG (Ze p st)=some (zd (Ze p st)) from if_pos hsho.mid,obS,WU (by omega),zU (by omega)];cases zd (Ze p st) with
  | false=>rfl
  |
   true=>
   rw[show((true:Bool) == true)=true from rfl,ZK,obS,if_pos rfl];unfold addU;by_cases hmem:Ze p st∈out
   ·
    rw[decide_eq_true hmem,if_neg (by decide),if_pos hmem];rfl
   ·
    rw[decide_eq_false hmem,if_pos (by decide),yF (by simp;omega) (by simp;omega),if_neg hmem];rfl
 ·
  unfold wN;simp only;rw[zF,if_neg (by simp)]
section
variable{t:Tree}{path:List Int}
theorem zbG(hv:zw t=true)(hp:path.length<=1048576){n:Str}(hn:zd n=true):q6 t path n=some (Zp t.files path n):=by
 unfold q6;rw[show ZY t path n=some (find t.files path n) from if_pos ⟨by omega,(xt hn).mid⟩,obS];unfold Y9 Zp QF;cases hf:cmpI .lss (find t.files path n).file 0 with
 | true=>rfl
 |
  false=>
  obtain⟨f,h1,h2,_,h4⟩:=Zf hv hn hf;have hpk:=zbq hn (find t.files path n);have hl:=zbF hpk (xW hv h2);have hk:(Option.bind (α:=Str) (if(cmpI .eql (find t.files path n).kind (1:Int))=true then((wv n).bind λ v12=>some v12) else(some n)) λ o8=>(atI t.files (find t.files path n).file).bind λ v16=>Option.bind (α:=(List Str)) (zM (λ s21=>wN o8 v16 s21) ([],(0:Int))) λ o19=>some o19)=some (uniq (xI (YX n (find t.files path n)) f.body)):=by
   rw[show(if(cmpI .eql (find t.files path n).kind (1:Int))=true then((wv n).bind λ v12=>some v12) else(some n))=some (YX n (find t.files path n)) by
    unfold YX;cases cmpI .eql (find t.files path n).kind (1:Int) with
    | false=>rfl
    | true=>rw[if_pos rfl,if_pos rfl,show wv n=some (zr n) from if_pos (xt hn).mid];rfl,obS,zap hf h1,obS,hl,obS]
  simp only[Bool.false_eq_true,if_false];rw[Zg h1,hk];rfl
theorem spec_edges_eq(hv:zw t=true)(hp:path.length<=1048576){n:Str}(hn:zd n=true):Yf t path n=some (wV t.files path n):=by
 unfold Yf;have h1:=Jm hv (path:=path) hn;rw[zbG hv hp hn,obS,spec_full_eq (λ _ h=>ZE h) (by omega),obS];rfl
theorem spec_reach_eq(hv:zw t=true)(hp:path.length<=1048576){s:Str}(hs:zd s=true){l:List Str}(hn:l.Nodup)(hl:∀ x∈l,x∈wG t.files s):Zn t path l=some (ZM t.files path s l):=by
 have hw:=Jn hv hs;have hll:=Zc hn hl;unfold Zn;rw[yF (by simp;omega) (by simp;omega),obS,List.nil_append];have h:zM (λ s10=>ju t path s10) (l,(0:Int))=some (ZM t.files path s l):=by
  refine loop_grow (λ(o:List Str) k=>(o,(k:Int))) (wV t.files path) (wG t.files s) (Xe hv hs) (λ o=>o) (λ k out x hx ho hs'=>?_) (λ out ho hs'=>?_) hn hl (by omega) rfl
  ·
   have hxv:=ZF hs (hs' x (List.mem_of_getElem? hx));have hk:=(List.getElem?_eq_some_iff.1 hx).1;have hol:=Zc ho hs';have hel:=zbp hv (path:=path) hxv;unfold ju;simp only;rw[zF,if_pos (decide_eq_true hk),zT,hx,obS,spec_edges_eq hv hp hxv,obS,reach_s1 _ _ (by omega),zU (by omega)];rfl
  ·
   unfold ju;simp only;rw[zF,if_neg (by simp)]
 rw[h];rfl
theorem zcb(hv:zw t=true)(hp:path.length<=1048576){s:Str}(hs:zd s=true):Zn t path (yK s)=some (ZR t path s):=
 spec_reach_eq hv hp hs (Z1 hs) λ _ h=>Zi h
theorem okG_cases(t:Tree)(path:List Int)(s:Str){α:Type}[Inhabited α]{b:α}{K:Option α}(ht:wL t)(hn:sho s){r:α}(h0:okG t path s=false->r=b)(h1:okG t path s=true->K=some r):((jZ t).bind λ v2=>(gO ((!v2) == false) (j6 path)).bind λ v3=>(gO (((!v2)||(!v3)) == false) (xG s)).bind λ v4=>if(((!v2)||(!v3))||(!v4))=true then(some b) else K)=some r:=by
 rw[show jZ t=some (zw t) from if_pos ht,obS,show j6 path=some (yR path) from if_pos trivial,show xG s=some (zd s) from if_pos hn.mid];cases hv:zw t with
 | false=>rw[h0 (by unfold okG;rw[hv];rfl)];rfl
 |
  true=>
  cases hp:yR path with
  | false=>rw[h0 (by unfold okG;rw[hv,hp];rfl)];rfl
  |
   true=>
   cases hs:zd s with
   | false=>rw[h0 (by unfold okG;rw[hv,hp,hs];rfl)];rfl
   | true=>exact h1 (by unfold okG;rw[hv,hp,hs];rfl)
variable{s:Str}
end
open Go.RowKit
theorem Wn{l:List Str}(h:l.length<=1000):wX l=some (uniq l):=by
 unfold wX;have hl:zM (λ s5=>je l s5) (([]:List Str),(0:Int))=some (uniq l):=by
  refine add_loop l (λ k out x hx _ hk ho=>?_) (λ out=>?_) (by simpa using h)
  ·
   unfold je addU;simp only;rw[zF,if_pos (decide_eq_true hk),zT,hx,obS,zan (by omega),obS,zU (by omega)];by_cases hm:x∈out
   ·
    rw[decide_eq_true hm,if_neg (by decide),if_pos hm];rfl
   ·
    rw[decide_eq_false hm,if_pos (by decide),yF (by simp;omega) (by simp;omega),if_neg hm];rfl
  ·
   unfold je;simp only;rw[zF,if_neg (by simp)]
 rw[hl];rfl
def orE(s:Str):Str:=if zd s=true then s else emptyS
theorem ParentOf_any{p:Str}(h:zt p=true):yG p=some (zr p):=by
 unfold zt at h;rw[Bool.or_eq_true,decide_eq_true_eq] at h;rcases h with h | h
 ·
  rw[h,WO];unfold yG;rcases zak emptyS 46 (by decide) with⟨pre,post,e1,_,_⟩ | ⟨_,e3⟩
  ·
   have:=congrArg List.length e1;simp[emptyS] at this
  ·
   rw[show zP emptyS (UInt8.ofNat 46)=some (-1) from e3,obS,xa (show sho emptyS from Nat.zero_le _),obS];rfl
 ·
  exact Z0 h
theorem resolve_loop{p:Str}(hp:zt p=true){n:Nat}(hn:n<=10):zM (λ s17=>yn s17) (p,(n:Int)+1)=some (upN n p):=by
 have key:∀ (k:Nat) (q:Str),k<=10->zt q=true->jL (λ s17=>yn s17) (k+1) (q,((k:Int)+1))=some (upN k q):=by
  intro k
  induction k with
  |
   zero=>
   intro q _ hq;refine xo ?_;unfold yn;rw[if_neg (by simp[cmpI])];rfl
  |
   succ k ih=>
   intro q hk hq;have hgt:cmpI .gtr (((k+1:Nat):Int)+1) 1=true:=by unfold cmpI;exact decide_eq_true (by omega)
   by_cases he:q=(⟨[]⟩:Str)
   ·
    refine xo ?_;unfold yn;simp only;rw[he,if_neg (by simp),show upN (k+1) (⟨[]⟩:Str)=emptyS from zaZ _];rfl
   ·
    have hs:yn (q,(((k+1:Nat):Int)+1))=some (.inl (zr q,((k:Int)+1))):=by
     unfold yn;simp only;rw[hgt,if_pos (by simpa using he),ParentOf_any hq,obS,show(((k+1:Nat):Int)+1 - 1)=((k:Int)+1) by omega,wC (by omega) (by omega)];rfl
    rw[qK hs];exact ih (zr q) (by omega) (XH hq)
 exact qF (key n p hn hp) (by omega)
theorem pkg_sho{p:Str}(h:zt p=true):sho p:=by have:=yJ h;unfold sho;omega
theorem Jq{p m:Str}{lv:Int}(hp:zt p=true)(hm:zt m=true)(h0:0<=lv)(h1:lv<=3):wm p lv m=some (orE (ZD p lv m)):=by
 rw[Jp];unfold wm;have hw:yg lv 0 4=some true:=by
  unfold yg cmpI;simp only[ge_iff_le];rw[decide_eq_true h0,decide_eq_true (show lv<=4 by omega)];rfl
 rw[Yh (pkg_sho hp),obS,Yh (pkg_sho hm),hw,hp,hm];simp only[Bool.not_true,beq_self_eq_true,ZK,obS,Bool.or_self,Bool.false_eq_true,if_false];unfold orE;by_cases h:lv=0
 ·
  rw[if_pos h,if_pos (by simp[cmpI,h])];unfold zt at hm;rw[Bool.or_eq_true,decide_eq_true_eq] at hm;rcases hm with hm | hm
  ·
   rw[hm,wO];rfl
  ·
   rw[if_pos hm]
 ·
  rw[if_neg h,if_neg (by simp[cmpI,h])];obtain⟨n,hn⟩:∃ n:Nat,lv=(n:Int)+1:=⟨(lv - 1).toNat,by omega⟩;have hu:=upN_pkg n hp;have hul:=yJ hu;have hml:=yJ hm;rw[show(lv - 1).toNat=n by omega,hn,resolve_loop hp (by omega),obS];by_cases he:upN n p=emptyS
  ·
   rw[if_pos he,if_pos (decide_eq_true (show upN n p=(⟨[]⟩:Str) from he)),wO];rfl
  ·
   rw[if_neg he,if_neg (by simpa using(show ¬ upN n p=(⟨[]⟩:Str) from he))];have hend:∀ q:Str,sho q->((zV q).bind λ v44=>if(!v44)=true then(some (⟨[]⟩:Str)) else(some q))=some (if zd q=true then q else emptyS):=λ q hq=>by
    rw[xa hq,obS];cases zd q <;> rfl
   by_cases hm0:m=emptyS
   ·
    rw[if_pos hm0,if_neg (by simpa using(show m=(⟨[]⟩:Str) from hm0)),obS];exact hend _ (pkg_sho hu)
   ·
    rw[if_neg hm0,if_pos (by simpa using(show ¬ m=(⟨[]⟩:Str) from hm0)),YG (by simp;omega),obS,YG (by simp;omega),obS,obS];have e:(⟨(upN n p).l++([46]++m.l)⟩:Str)=child (upN n p) m:=by
     unfold child;rw[if_neg he];simp
    simp only[e];refine hend _ ?_;have:=child_len (upN n p) m;unfold sho;omega
theorem packageOf_eq{n:Str}(hn:zd n=true)(s:Spec):yo (⟨n,s.kind,[],false,false,[]⟩:GMod)=some (YX n s):=by
 unfold yo YX;simp only;cases cmpI .eql s.kind 1 with
 | false=>rfl
 | true=>rw[if_pos rfl,if_pos rfl,Z0 hn];rfl
theorem zcc{p:Str}{b:List Stmt}{k:Nat}{st:Stmt}(hx:b[k]?=some st):xI p (b.take (k+1))=xI p (b.take k)++(if zd (Ze p st)=true then[Ze p st] else[]):=by
 unfold xI;rw[List.take_add_one,hx,Option.toList_some,List.map_append,List.filter_append,List.map_singleton,List.filter_cons,List.filter_nil]
theorem needs_loop{n:Str}(hn:zd n=true){sp:Spec}{f:File}(hb:xk f.body=true):zM (λ s25=>wE n sp f s25) (([]:List Str),(0:Int))=some (xI (YX n sp) f.body):=by
 have hp:=zbq hn sp;have hlen:=jJ hb;have hst:∀ st∈f.body,zW st=true:=by
  unfold xk at hb;rw[Bool.and_eq_true] at hb;exact λ st h=>List.all_eq_true.1 hb.1 st h
 refine zaX (b:=xI (YX n sp) f.body) f.body.length (λ k=>(xI (YX n sp) (f.body.take k),(k:Int))) (λ k hk=>?_) ?_ (by omega) rfl
 ·
  obtain⟨st,hx,hm⟩:=get_some hk;have hs:=hst st hm;have hol:=YL (YX n sp) (f.body.take k);rw[List.length_take] at hol;unfold wE;simp only;rw[zF,if_pos (decide_eq_true hk),zT,hx,obS,zU (by omega),zcc hx,packageOf_eq hn];generalize xI (YX n sp) (f.body.take k)=out at hol ⊢;have ha:∀ x:Str,appO 16 out [x]=some (out++[x]):=λ x=>yF (by simp;omega) (by simp;omega)
  unfold Ze;rcases qH hs with⟨h1,h2⟩ | ⟨h1,h2,h3,h4⟩ | ⟨h1,h2,h3⟩
  ·
   rcases h1 with h1 | h1
   ·
    simp[cmpI,h1,h2,ha]
   ·
    simp[cmpI,h1,h2,ha]
  ·
   rw[obS,Jq hp h2 h3 h4,obS];generalize ZD (YX n sp) st.level st.module=q;unfold orE;by_cases hq:zd q=true
   ·
    have hne:q≠emptyS:=by intro e;rw[e,wO] at hq;cases hq
    have hne':¬ q=(⟨[]⟩:Str):=hne;simp[cmpI,h1,hq,hne',ha]
   ·
    have he:decide (emptyS≠(⟨[]⟩:Str))=false:=by decide
    simp[cmpI,h1,hq,he]
  ·
   simp[cmpI,h1,h2,h3,wO]
 ·
  unfold wE;simp only;rw[zF,if_neg (by simp),List.take_length]
section
variable{t:Tree}{path:List Int}
theorem zbr(ht:wL t)(hp:path.length<=1048576){n:Str}(hn:sho n)(h:okG t path n=true):xx t path n=some (find t.files path n):=by
 rw[Jk ht hp hn];unfold QA;rw[if_pos (by unfold okG at h;exact h)]
theorem FindSpec_bad(ht:wL t)(hp:path.length<=1048576){n:Str}(hn:sho n)(h:okG t path n=false):xx t path n=some ZP:=by
 rw[Jk ht hp hn];unfold QA;rw[if_neg (by unfold okG at h;rw[h];decide)]
theorem NeedsOf_eq(ht:wL t)(hp:path.length<=1048576){n:Str}(hn:sho n):q7 t path n=some (if okG t path n=true then Zp t.files path n else[]):=by
 unfold q7;cases hok:okG t path n with
 |
  false=>
  rw[FindSpec_bad ht hp hn hok,obS,if_pos (by decide),if_neg (by decide)]
 |
  true=>
  obtain⟨hv,_,hnv⟩:=Zh hok;rw[zbr ht hp hn hok,obS,if_pos rfl];unfold Zp QF;cases hf:cmpI .lss (find t.files path n).file 0 with
  | true=>rfl
  |
   false=>
   obtain⟨f,h1,h2,_,h4⟩:=Zf hv hnv hf;have hb:=xW hv h2;have hl:=needs_loop hnv (sp:=find t.files path n) hb;have hbl:=YL (YX n (find t.files path n)) f.body;have hfl:=jJ hb;simp only[Bool.false_eq_true,if_false];rw[zap hf h1,obS,hl,obS,Wn (by omega),obS,Zg h1]
def edgesG(t:Tree)(path:List Int)(n:Str):List Str:=if okG t path n=true then wV t.files path n else[]
theorem Qd{s:Str}(h:zd s=true):xS s=some (yK s):=by
 rw[NamesAbove_eq (xt h),if_pos h]
theorem zcd{l:List Str}(hv:∀ x∈l,zd x=true)(hl:l.length<=100):zM (λ s7=>wF l s7) (([]:List Str),(0:Int))=some (l.flatMap yK):=by
 have e:=fold_app yK l [];rw[List.nil_append] at e;rw[← e];refine Wm l (λ o x=>o++yK x) (λ o=>o) 3 300 (λ out x hx=>?_) (λ k out x hx hm hk ho=>?_) (λ out=>?_) (by simp;omega) (by omega)
 ·
  have h2:=YA (hv x hx);simp only[List.length_append];omega
 ·
  have h2:=YA (hv x hm);unfold wF;simp only;rw[zF,if_pos (decide_eq_true hk),zT,hx,obS,Qd (hv x hm),obS,yF (by omega) (by omega),zU (by omega)];rfl
 ·
  unfold wF;simp only;rw[zF,if_neg (by simp)]
theorem EdgesOf_eq(ht:wL t)(hp:path.length<=1048576){n:Str}(hn:sho n):qb t path n=some (edgesG t path n):=by
 unfold qb edgesG;rw[NeedsOf_eq ht hp hn,obS];cases hok:okG t path n with
 | false=>rw[if_neg (by decide),if_neg (by decide),zcd (λ _ h=>by cases h) (Nat.zero_le _),obS,List.flatMap_nil,Wn (Nat.zero_le _)];rfl
 |
  true=>
  obtain⟨hv,_,hnv⟩:=Zh hok;have h1:=Jm hv (path:=path) hnv;have h2:=XG (Zp t.files path n) λ _ hy=>ZE hy
  rw[if_pos rfl,if_pos rfl,zcd (λ _ h=>ZE h) (by omega),obS,Wn (by omega),obS];rfl
theorem okG_name{s n:Str}(h:okG t path s=true)(hn:zd n=true):okG t path n=true:=by
 obtain⟨h1,h2,_⟩:=Zh h;unfold okG;rw[h1,h2,hn];rfl
theorem EdgesOf_ok(ht:wL t)(hp:path.length<=1048576){s n:Str}(h:okG t path s=true)(hn:zd n=true):qb t path n=some (wV t.files path n):=by
 rw[EdgesOf_eq ht hp (xt hn)];unfold edgesG;rw[if_pos (okG_name h hn)]
theorem reach_eq(_ht:wL t){s:Str}(h:okG t path s=true){f:Str->Option (List Str)}(hf:∀ x,zd x=true->f x=some (wV t.files path x)){l:List Str}(hn:l.Nodup)(hl:∀ x∈l,x∈wG t.files s):Yg l f=some (ZM t.files path s l):=by
 obtain⟨hv,_,hs⟩:=Zh h;have hw:=Jn hv hs;have hll:=Zc hn hl;unfold Yg;rw[Wn (by omega),show uniq l=l from zb6 hn,obS];have h:zM (λ s10=>jw f s10) (l,(0:Int))=some (ZM t.files path s l):=by
  refine loop_grow (λ(o:List Str) k=>(o,(k:Int))) (wV t.files path) (wG t.files s) (Xe hv hs) (λ o=>o) (λ k out x hx ho hs'=>?_) (λ out ho hs'=>?_) hn hl (by omega) rfl
  ·
   have hxv:=ZF hs (hs' x (List.mem_of_getElem? hx));have hk:=(List.getElem?_eq_some_iff.1 hx).1;have hol:=Zc ho hs';have hel:=zbp hv (path:=path) hxv;unfold jw;simp only;rw[zF,if_pos (decide_eq_true hk),zT,hx,obS,hf x hxv,obS,yF (by omega) (by omega),obS,Wn (by rw[List.length_append];omega),obS,uniq_app ho,zU (by omega)];rfl
  ·
   unfold jw;simp only;rw[zF,if_neg (by simp)]
 rw[h];rfl
theorem zce(ht:wL t)(hp:path.length<=1048576){n:Str}(hn:sho n):qa t path n=some (okG t path n):=by
 unfold qa okG;rw[WG ht,obS,WH hp,xa hn];cases zw t with
 | false=>rfl
 | true=>cases yR path <;> rfl
variable{s:Str}
theorem zcf(ht:wL t)(hp:path.length<=1048576)(hn:sho s):qd t path s=some (qg t path s):=by
 unfold qd;rw[zce ht hp hn,obS];cases hok:okG t path s with
 | false=>unfold qg;rw[hok];rfl
 |
  true=>
  obtain⟨hv,_,hs⟩:=Zh hok;have hlen:=QI hv (path:=path) hs;rw[if_neg (by decide),Qd hs,obS,reach_eq (s:=s) ht hok (λ x hx=>?_) (Z1 hs) (λ _ h=>Zi h),obS,show ZM t.files path s (yK s)=ZR t path s from rfl,sorted_eq (Nat.le_trans hlen (by decide)),obS]
  ·
   unfold qg;rw[if_pos hok]
  ·
   unfold qc;rw[EdgesOf_ok ht hp hok hx];rfl
theorem keep_loop{step:List Str×Int->Option ((List Str×Int)⊕List Str)}(l:List Str)(p:Str->Bool)(hl:l.length<=1000)
  (h:∀ k out x,l[k]?=some x->x∈l->k<l.length->out.length<=1000->step (out,(k:Int))=some (.inl (if p x=true then out++[x] else out,((k+1:Nat):Int))))
  (hend:∀ out,step (out,(l.length:Int))=some (.inr out)):zM step (([]:List Str),(0:Int))=some (l.filter p):=by
 have e:l.filter p=l.foldl (λ o x=>if p x=true then o++[x] else o) []:=by
  rw[fold_if p (λ o x=>o++[x]) l [],fold_app (λ x=>[x])];simp
 rw[e];refine Wm l (λ o x=>if p x=true then o++[x] else o) (λ o=>o) 1 1000 (λ out x _=>?_) h hend (by simp;omega) (by omega);show(if p x=true then out++[x] else out).length<=out.length+1;split
 ·
  simp
 ·
  omega
theorem MissingOf_eq(ht:wL t)(hp:path.length<=1048576)(hn:sho s):qe t path s=some (Wl t path s):=by
 have hlen:=zca (t:=t) (path:=path) (s:=s);unfold qe;rw[zcf ht hp hn,obS];have hl:zM (λ s7=>we t path (qg t path s) s7) (([]:List Str),(0:Int))=some (Wl t path s):=by
  refine keep_loop (qg t path s) (WL t path) (by omega) (λ k out x hx hm hk ho=>?_) (λ out=>?_)
  ·
   obtain⟨hxv,hok⟩:=zam hm;unfold we;simp only;rw[zF,if_pos (decide_eq_true hk),zT,hx,obS,CanFind_eq ht hp (xt hxv),obS,zU (by omega),show(!cmpI .neq (QA t path x).kind 0)=WL t path x by
    unfold QA WL;rw[if_pos (by have:=okG_name hok hxv;unfold okG at this;exact this)];show(!!((find t.files path x).kind == 0))=_;rw[Bool.not_not];rfl]
   cases WL t path x with
   | false=>rfl
   | true=>rw[if_pos rfl,if_pos rfl,yF (by simp;omega) (by simp;omega)];rfl
  ·
   unfold we;simp only;rw[zF,if_neg (by simp)]
 rw[hl];rfl
theorem neq3(st:Stmt):((cmpI .neq st.kind (0:Int)&&cmpI .neq st.kind (2:Int))&&cmpI .neq st.kind (3:Int))=!xD st:=by
 show((!(st.kind == 0)&&!(st.kind == 2))&&!(st.kind == 3))=!((st.kind == 0||st.kind == 2)||st.kind == 3);cases st.kind == 0 <;> cases st.kind == 2 <;> cases st.kind == 3 <;> rfl
theorem zcg{b:List Stmt}(h:b.length<=1000):ZA b=some (b.all xD):=by
 unfold ZA;have hl:zM (λ s4=>jd b s4) 0=some (if b.any (λ st=>!xD st)=true then .inr false else .inl ()):=by
  refine qG b _ _ _ (λ k x hx hlt=>?_) ?_ (by omega) rfl
  ·
   unfold jd;rw[zF,if_pos (decide_eq_true hlt),zT,hx,obS,neq3,zU (by omega)];cases xD x <;> rfl
  ·
   unfold jd;rw[zF,if_neg (by simp)]
 rw[hl,XV];cases b.all xD <;> rfl
theorem simple_s1{f:File}(h:f.body.length<=1000):zM (λ s24=>xC f s24) (0:Int)=some (if f.body.all xD=true then .inl () else .inr (.inr (.inr false))):=by
 have hl:zM (λ s24=>xC f s24) 0=some (if f.body.any (λ st=>!xD st)=true then .inr (.inr (.inr false)) else .inl ()):=by
  refine qG f.body _ _ _ (λ k x hx hlt=>?_) ?_ (by omega) rfl
  ·
   unfold xC;rw[zF,if_pos (decide_eq_true hlt),zT,hx,obS,neq3,zU (by omega)];cases xD x <;> rfl
  ·
   unfold xC;rw[zF,if_neg (by simp)]
 rw[hl,XV];cases f.body.all xD <;> rfl
theorem all_same{l m:List Str}(p:Str->Bool)(h:∀ x,x∈l ↔ x∈m):l.all p=m.all p:=by
 rw[Bool.eq_iff_iff,List.all_eq_true,List.all_eq_true];exact⟨λ k x hx=>k x ((h x).2 hx),λ k x hx=>k x ((h x).1 hx)⟩
theorem za0(ht:wL t)(hp:path.length<=1048576)(hn:sho s):jv t path s=some (Xf t path s):=by
 unfold jv;refine okG_cases t path s ht hn (λ h=>by unfold Xf;rw[h];rfl) λ hok=>?_
 obtain⟨hv,_,hs⟩:=Zh hok;have hlen:=QI hv (path:=path) hs;have hl:zM (λ s19=>wq t path (ZR t path s) s19) 0=some (if(ZR t path s).any (λ n=>!Zj t path n)=true then .inr false else .inl ()):=by
  refine qG (ZR t path s) _ _ _ (λ k x hx hlt=>?_) ?_ (by omega) rfl
  ·
   have hxv:=WM hv hs (List.mem_of_getElem? hx);unfold wq;rw[zF,if_pos (decide_eq_true hlt),zT,hx,obS,show ZY t path x=some (find t.files path x) from if_pos ⟨by omega,(xt hxv).mid⟩,obS,Xd,zU (by omega)];unfold Zj;cases hf:cmpI .lss (find t.files path x).file 0 with
   | true=>rfl
   |
    false=>
    obtain⟨f,h1,h2,_,_⟩:=Zf hv hxv hf;have hfl:=jJ (xW hv h2);rw[Zg h1,zap hf h1,show((!false:Bool) == true)=true from rfl,ZK,obS,ZK,zcg (by omega),obS];cases f.body.all xD <;> rfl
  ·
   unfold wq;rw[zF,if_neg (by simp)]
 rw[Qc hs,obS,zcb hv hp hs,obS,hl,XV];unfold Xf;rw[hok,all_same (Zj t path) (λ x=>WN hok)];cases(ZR t path s).all (Zj t path) <;> rfl
theorem IsSimple_eq(ht:wL t)(hp:path.length<=1048576)(hn:sho s):qw t path s=some (Xf t path s):=by
 have hlen:=zca (t:=t) (path:=path) (s:=s);unfold qw;rw[zcf ht hp hn,obS];have hl:zM (λ s6=>wr t path (qg t path s) s6) 0=some (if(qg t path s).any (λ n=>!Zj t path n)=true then .inr false else .inl ()):=by
  refine qG (qg t path s) _ _ _ (λ k x hx hlt=>?_) ?_ (by omega) rfl
  ·
   obtain⟨hxv,hok⟩:=zam (List.mem_of_getElem? hx);obtain⟨hv,_,_⟩:=Zh hok;unfold wr;rw[zF,if_pos (decide_eq_true hlt),zT,hx,obS,zbr ht hp (xt hxv) (okG_name hok hxv),obS,zU (by omega)];unfold Zj;cases hf:cmpI .lss (find t.files path x).file 0 with
   | true=>rfl
   |
    false=>
    obtain⟨f,h1,h2,_,_⟩:=Zf hv hxv hf;have hfl:=jJ (xW hv h2);rw[Zg h1,zap hf h1,if_neg (by decide),obS,simple_s1 (by omega)];cases f.body.all xD <;> rfl
  ·
   unfold wr;rw[zF,if_neg (by simp)]
 rw[hl,XV,zce ht hp hn];unfold Xf;cases hok:okG t path s with
 | true=>cases(qg t path s).all (Zj t path) <;> rfl
 |
  false=>
  have:qg t path s=[]:=by unfold qg;rw[hok];rfl
  rw[this];rfl
end
open Go.RowKit
open Go.RowKit
end Go.Proofs.YtpmkkijamfgaeaaGreatDoor
