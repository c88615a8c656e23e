import Derived.Test.YtpmkkijamfgaeaaGreatDoorRI
import Derived.Test.YtpmkkijamfgaeaaGreatDoorRKc
import Derived.Test.YtpmkkijamfgaeaaGreatDoorRJ
import Derived.Test.YtpmkkijamfgaeaaGreatDoorRK
namespace Go.Proofs.YtpmkkijamfgaeaaGreatDoor
open Go.RowKit
def Rok(k:Int)(r:Reader):Prop:=r.b.length<=2000/\0<=r.p/\r.p<=k
def Dr{α:Type}(k:Int)(x:Option (Reader×α))(P:α->Prop):Prop:=∃ r v,x=some (r,v)/\Rok k r/\P v
theorem Dr.bind{α β:Type}{k k':Int}{x:Option (Reader×α)}{P:α->Prop}{f:Reader×α->Option (Reader×β)}{Q:β->Prop}(h:Dr k x P)(hf:∀ r v,Rok k r->P v->Dr k' (f (r,v)) Q):Dr k' (x.bind f) Q:=by
 obtain⟨r,v,h1,h2,h3⟩:=h;rw[h1];exact hf r v h2 h3
theorem Dr.pure{α:Type}{k:Int}{r:Reader}{v:α}{P:α->Prop}(h:Rok k r)(hp:P v):Dr k (some (r,v)) P:=⟨r,v,rfl,h,hp⟩
theorem Rok.le{k k':Int}{r:Reader}(h:Rok k r)(hk:k<=k'):Rok k' r:=⟨h.1,h.2.1,Int.le_trans h.2.2 hk⟩
theorem Dr.mono{α:Type}{k k':Int}{x:Option (Reader×α)}{P Q:α->Prop}(h:Dr k x P)(hk:k<=k')(hp:∀ v,P v->Q v):Dr k' x Q:=by
 obtain⟨r,v,h1,h2,h3⟩:=h;exact⟨r,v,h1,h2.le hk,hp v h3⟩
theorem Jy{α:Type}{l:List α}{i:Int}(h0:0<=i)(h:i<l.length):∃ x,atI l i=some x/\x∈l:=by
 obtain⟨n,rfl⟩:=Int.eq_ofNat_of_zero_le h0;obtain⟨x,hx,hm⟩:=get_some (l:=l) (k:=n) (by omega);exact⟨x,by rw[zQ,hx],hm⟩
theorem xorI_nn{m n:Int}(hm:0<=m)(hm2:m<4611686018427387904)(hn:0<=n)(hn2:n<4611686018427387904):0<=xorI m n:=by
 obtain⟨a,rfl⟩:=Int.eq_ofNat_of_zero_le hm;obtain⟨b,rfl⟩:=Int.eq_ofNat_of_zero_le hn;have h1:∀ c:Nat,c<4611686018427387904->(BitVec.ofInt 64 (c:Int)).toNat=c:=λ c hc=>by
  rw[BitVec.toNat_ofInt];omega
 have h2:(BitVec.ofInt 64 (a:Int) ^^^ BitVec.ofInt 64 (b:Int)).toNat=a ^^^ b:=by
  rw[BitVec.toNat_xor,h1 a (by omega),h1 b (by omega)]
 have h3:a ^^^ b<2 ^ 62:=Nat.xor_lt_two_pow (by omega) (by omega);have h4:(2:Nat) ^ 62=4611686018427387904:=by decide
 unfold xorI;show 0<=IntKind.i64.wrap ((BitVec.ofInt 64 (a:Int) ^^^ BitVec.ofInt 64 (b:Int)).toNat:Int);rw[h2,wrap_in _ (by omega)];omega
theorem wl{k:Int}{r:Reader}(n:Int)(h:Rok k r)(hk:k<=1000000):Dr (k+1) (zC r n) (λ v=>0<=v/\(1<=n->v<n)):=by
 obtain⟨h1,h2,h3⟩:=h;unfold zC;rw[wV (by omega) (by omega),obS];have hr:Rok (k+1) { r with p:=r.p+1 }:=⟨h1,by show 0<=r.p+1;omega,by show r.p+1<=k+1;omega⟩;cases hc:cmpI .lss n 1||cmpI .eql (r.b.length:Int) 0 with
 |
  true=>
  rw[if_pos rfl];refine .pure hr ⟨Int.le_refl _,λ h=>by omega⟩
 |
  false=>
  rw[Bool.or_eq_false_iff] at hc;have hn:¬ n<1:=of_decide_eq_false hc.1;have hl:¬ (r.b.length:Int)=0:=by simpa[cmpI] using hc.2
  have hres:∀ x:Int,0<=x->Dr (k+1) ((modO x n).bind λ v=>some ({ r with p:=r.p+1 },v)) (λ v=>0<=v/\(1<=n->v<n)):=λ x hx=>by
   rw[modO_of (by omega),obS];exact .pure hr ⟨Int.tmod_nonneg _ hx,λ _=>Int.tmod_lt_of_pos _ (by omega)⟩
  rw[if_neg (by decide),show r.p+1 - 1=r.p by omega,wV (by omega) (by omega),obS];cases hlt:cmpI .lss r.p (r.b.length:Int) with
  |
   true=>
   obtain⟨x,hx,_⟩:=Jy h2 (oD hlt);rw[if_pos rfl,hx,obS];exact hres _ (by omega)
  |
   false=>
   have hm:∀ x:Int,0<=x->∃ y,modO x (r.b.length:Int)=some y/\0<=y/\y<(r.b.length:Int):=λ x hx=>⟨_,modO_of (by omega),Int.tmod_nonneg _ hx,Int.tmod_lt_of_pos _ (by omega)⟩
   obtain⟨y1,e1,a1,b1⟩:=hm r.p h2;obtain⟨x1,f1,_⟩:=Jy a1 b1;obtain⟨y2,e2,a2,b2⟩:=hm (r.p*7+3) (by omega);obtain⟨x2,f2,_⟩:=Jy a2 b2;have u1:=x1.toNat_lt;have u2:=x2.toNat_lt;have hd1:0<=r.p.tdiv (r.b.length:Int):=Int.tdiv_nonneg h2 (by omega);have hd2:r.p.tdiv (r.b.length:Int)<=r.p:=Int.tdiv_le_self _ h2;rw[if_neg (by decide),e1,obS,f1,obS,wV (by omega) (by omega),obS,wV (by omega) (by omega),obS,wV (by omega) (by omega),obS,e2,obS,f2,obS,wV (by omega) (by omega),obS,wV (by omega) (by omega),obS,wV (by omega) (by omega),obS,wV (by omega) (by omega),obS,divO_of (by omega) (by omega) (by omega),obS,wV (by omega) (by omega),obS,wV (by omega) (by omega),obS];generalize hz:(x1.toNat:Int)*131+(x2.toNat:Int)*1117+r.p*29+r.p.tdiv (r.b.length:Int)*53=z;have hz0:0<=z/\z<4611686018427387904:=by omega
   have hz1:0<=z.tdiv 64:=Int.tdiv_nonneg hz0.1 (by omega);have hz2:z.tdiv 64<=z:=Int.tdiv_le_self _ hz0.1;rw[divO_of (by decide) (by omega) (by omega),obS];exact hres _ (xorI_nn hz0.1 hz0.2 hz1 (by omega))
theorem Dr.ite{α:Type}{k:Int}{c:Prop}[Decidable c]{x y:Option (Reader×α)}{P:α->Prop}(h1:c->Dr k x P)(h2:¬ c->Dr k y P):Dr k (if c then x else y) P:=by
 split
 ·
  exact h1 (by assumption)
 ·
  exact h2 (by assumption)
theorem Dr.any{α γ:Type}{k:Int}{x:Option γ}{f:γ->Option (Reader×α)}{P:α->Prop}(hx:∃ o,x=some o)(hf:∀ o,Dr k (f o) P):Dr k (x.bind f) P:=by
 obtain⟨o,rfl⟩:=hx;exact hf o
theorem Dr.some{α γ:Type}{k:Int}{x:Option γ}{o:γ}{f:γ->Option (Reader×α)}{P:α->Prop}(hx:x=some o)(hf:Dr k (f o) P):Dr k (x.bind f) P:=by
 rw[hx];exact hf
theorem Qb{k:Int}{r:Reader}{l:List Int}(P:Int->Prop)(h:Rok k r)(hk:k<=1000000)(h0:0<l.length)(hP:∀ x∈l,P x):Dr (k+1) (yb r l) P:=by
 unfold yb;refine .bind (wl _ h hk) λ r1 v h1 hv=>?_
 obtain⟨x,hx,hm⟩:=Jy hv.1 (hv.2 (by omega));exact .some hx (.pure h1 (hP x hm))
theorem of_ok{k:Int}{r:Reader}{l:List Str}(P:Str->Prop)(h:Rok k r)(hk:k<=1000000)(h0:0<l.length)(hP:∀ x∈l,P x):Dr (k+1) (xZ r l) P:=by
 unfold xZ;refine .bind (wl _ h hk) λ r1 v h1 hv=>?_
 obtain⟨x,hx,hm⟩:=Jy hv.1 (hv.2 (by omega));exact .some hx (.pure h1 (hP x hm))
theorem Z3{k:Int}{r:Reader}(h:Rok k r)(hk:k<=1000000):Dr (k+1) (yV r) (λ s=>s.l.length<=1):=by
 unfold yV;refine .bind (of_ok (λ s=>s.l.length<=1) h hk (by decide) (by decide)) λ r1 v h1 hv=>.pure h1 hv
theorem QC{σ:Type}{step:Reader×σ×Int->Option ((Reader×σ×Int)⊕(Reader×σ))}(K:Nat->Int)(P:Nat->σ->Prop)(m:Nat)(hK:∀ i j,i<=j->K i<=K j)
  (h:∀ j r x n,j<m->Rok (K j) r->P j x->0<n->n+(j:Int)<=m->∃ r' x',step (r,x,n)=some (.inl (r',x',n - 1))/\Rok (K (j+1)) r'/\P (j+1) x')
  (hend:∀ r x n,n<=0->step (r,x,n)=some (.inr (r,x))) (hm:m<=1000) {r:Reader} {x:σ} {n:Int} (h0:Rok (K 0) r) (hx:P 0 x) (hn:n<=m):Dr (K m) (zK step (r,x,n)) (λ y=>∃ j,j<=m/\P j y):=by
 have key:∀ q j r x n,j+q=m->Rok (K j) r->P j x->n<=(q:Int)->∃ r' y,jM step (q+1) (r,x,n)=some (r',y)/\Rok (K m) r'/\∃ j',j'<=m/\P j' y:=by
  intro q
  induction q with
  | zero=>intro j r x n hj hr hx hn;exact⟨r,x,yX (hend r x n (by omega)),hr.le (hK _ _ (by omega)),j,by omega,hx⟩
  |
   succ q ih=>
   intro j r x n hj hr hx hn;by_cases hn0:n<=0
   ·
    exact⟨r,x,yX (hend r x n hn0),hr.le (hK _ _ (by omega)),j,by omega,hx⟩
   ·
    obtain⟨r',x',h1,h2,h3⟩:=h j r x n (by omega) hr hx (by omega) (by omega);rw[qL h1];exact ih (j+1) r' x' (n - 1) (by omega) h2 h3 (by omega)
 obtain⟨r',y,h1,h2,h3⟩:=key m 0 r x n (by omega) h0 hx hn;exact⟨r',y,qM h1 (by omega),h2,h3⟩
theorem zbn{k:Int}{r:Reader}(h:Rok k r)(hk:k<=900000):Dr (k+10) (j8 r) (λ s=>s.l.length<=8):=by
 unfold j8;refine .bind (Z3 h (by omega)) λ r1 s h1 hs=>?_
 refine .bind (k:=k+10) (P:=λ s=>s.l.length<=8) ?_ λ r3 s3 h3 hs3=>.pure h3 hs3
 refine .bind (Qb (λ n=>n<=2) h1 (by omega) (by decide) (by decide)) λ r2 n h2 hn=>?_
 refine(QC (λ j=>k+2+j) (λ j (s:Str)=>s.l.length<=1+2*j) 2 (λ i j hij=>by omega) (λ j r x n hj hr hx hn hb=>?_) (λ r x n hn=>?_) (by omega) (h2.le (by show k+1+1<=k+2+((0:Nat):Int);omega)) (by show s.l.length<=1+2*0;omega) (by exact hn)).mono (by show k+2+((2:Nat):Int)<=k+10;omega) (λ y ⟨j,hj,hy⟩=>by omega)
 ·
  obtain⟨r',v,e1,e2,e3⟩:=Z3 hr (by omega);have e3':v.l.length<=1:=e3;refine⟨r',⟨(x.l++[46])++v.l⟩,?_,e2.le (by show k+2+(j:Int)+1<=k+2+((j+1:Nat):Int);omega),?_⟩
  ·
   unfold q7;dsimp only;rw[if_pos (by simp[cmpI];omega),Xn (by show x.l.length+1<=_;omega),obS,e1,obS,Xn (by rw[List.length_append];show x.l.length+1+v.l.length<=_;omega),obS,wV (by omega) (by omega),obS]
  ·
   show(x.l++[46]++v.l).length<=_;simp only[List.length_append,List.length_singleton];omega
 ·
  unfold q7;dsimp only;rw[if_neg (by simp[cmpI];omega)]
theorem Dr.step{α β:Type}{k:Int}{x:Option (Reader×α)}{P:α->Prop}{f:Reader×α->Option β}{Q:β->Prop}(hx:Dr k x P)(hf:∀ r v,Rok k r->P v->∃ y,f (r,v)=Option.some y/\Q y):∃ y,x.bind f=Option.some y/\Q y:=by
 obtain⟨r,v,h1,h2,h3⟩:=hx;rw[h1];exact hf r v h2 h3
theorem zdb{k:Int}{r:Reader}(h:Rok k r)(hk:k<=900000):Dr (k+12) (ZA r) (λ s=>s.l.length<=16):=by
 unfold ZA;refine .bind (zbn h hk) λ r1 s h1 hs=>.bind (wl 20 h1 (by omega)) λ r2 v h2 _=>?_
 have hs':s.l.length<=8:=hs;refine .ite (λ _=>.some (Xn (m:=s) (by show s.l.length+1<=_;omega)) (.pure (h2.le (by omega)) (by show(s.l++[46]).length<=16;rw[List.length_append];show s.l.length+1<=16;omega))) λ _=>?_
 exact .ite (λ _=>.bind (of_ok (λ s=>s.l.length<=16) h2 (by omega) (by decide) (by decide)) λ r3 v h3 hv=>.pure (h3.le (by omega)) hv) λ _=>.pure (h2.le (by omega)) (by show s.l.length<=16;omega)
def smS(s:Stmt):Prop:=s.module.l.length<=16/\s.name.l.length<=16
theorem someStmt_ok{k:Int}{r:Reader}(h:Rok k r)(hk:k<=800000):Dr (k+30) (q8 r) smS:=by
 unfold q8;refine .bind (wl 9 h (by omega)) λ r1 v1 h1 _=>?_
 refine .any (by split <;> exact⟨_,rfl⟩) λ o7=>?_
 refine .ite (λ _=>.bind (zbn h1 (by omega)) λ r2 s h2 hs=>.pure (h2.le (by omega)) ⟨Nat.le_trans hs (by decide),Nat.zero_le _⟩) λ _=>?_
 refine .ite (λ _=>?_) λ _=>?_
 ·
  refine .bind (Qb (λ _=>True) h1 (by omega) (by decide) (λ _ _=>trivial)) λ r2 n h2 _=>.bind (zbn h2 (by omega)) λ r3 s h3 hs=>?_
  refine .bind (k:=k+13) (P:=λ s=>s.l.length<=16) ?_ λ r4 m h4 hm=>.bind (Z3 h4 (by omega)) λ r5 q h5 hq=>.pure (h5.le (by omega)) ⟨hm,Nat.le_trans hq (by decide)⟩
  dsimp only;cases cmpI .gtr n 0 with
  |
   true=>
   refine .bind (wl 2 h3 (by omega)) λ r4 v h4 _=>.ite (λ _=>.pure (h4.le (by omega)) (Nat.zero_le _)) λ _=>.pure (h4.le (by omega)) (Nat.le_trans hs (by decide))
  | false=>exact .pure (h3.le (by omega)) (Nat.le_trans hs (by decide))
 refine .ite (λ _=>.bind (zbn h1 (by omega)) λ r2 s h2 hs=>.pure (h2.le (by omega)) ⟨Nat.le_trans hs (by decide),Nat.zero_le _⟩) λ _=>?_
 refine .any (by split;exact⟨_,rfl⟩;split <;> exact⟨_,rfl⟩) λ o62=>?_
 refine .ite (λ _=>.bind (of_ok (λ s=>s.l.length<=16) h1 (by omega) (by decide) (by decide)) λ r2 s h2 hs=>.bind (wl 100 h2 (by omega)) λ r3 v h3 _=>.pure (h3.le (by omega)) ⟨Nat.zero_le _,hs⟩) λ _=>?_
 refine .ite (λ _=>.bind (of_ok (λ s=>s.l.length<=16) h1 (by omega) (by decide) (by decide)) λ r2 s h2 hs=>.pure (h2.le (by omega)) ⟨Nat.zero_le _,hs⟩) λ _=>?_
 refine .bind (wl 3 h1 (by omega)) λ r2 v h2 _=>.ite (λ _=>.pure (h2.le (by omega)) ⟨Nat.zero_le _,Nat.zero_le _⟩) λ _=>.bind (wl 100 h2 (by omega)) λ r3 v h3 _=>.pure (h3.le (by omega)) ⟨Nat.zero_le _,(by show 1<=16;omega)⟩
def smB(n:Nat)(b:List Stmt):Prop:=b.length<=n/\∀ s∈b,smS s
theorem smB.app{n:Nat}{b:List Stmt}{s:Stmt}(h:smB n b)(hs:smS s):smB (n+1) (b++[s]):=⟨by have:=h.1;simp;omega,λ x hx=>(List.mem_append.1 hx).elim (h.2 x) λ hx=>by rw[List.mem_singleton.1 hx];exact hs⟩
theorem smB.le{n m:Nat}{b:List Stmt}(h:smB n b)(hm:n<=m):smB m b:=⟨Nat.le_trans h.1 hm,h.2⟩
theorem someBody_ok{k:Int}{r:Reader}(h:Rok k r)(hk:k<=700000):Dr (k+170) (q9 r) (smB 4):=by
 unfold q9;refine .bind (wl 2 h (by omega)) λ r1 v1 h1 _=>?_
 refine .bind (k:=k+170) (P:=smB 4) ?_ λ r3 s3 h3 hs3=>.pure h3 hs3
 refine .bind (Qb (λ n=>n<=4) h1 (by omega) (by decide) (by decide)) λ r2 n h2 hn=>?_
 refine(QC (λ j=>k+2+40*j) (λ j x=>smB j x) 4 (λ i j hij=>by omega) (λ j r x n hj hr hx hn hb=>?_) (λ r x n hn=>?_) (by omega) (h2.le (by show k+1+1<=k+2+40*((0:Nat):Int);omega)) ⟨Nat.le_refl _,λ s hs=>by cases hs⟩ (by exact hn)).mono (by show k+2+40*((4:Nat):Int)<=k+170;omega) (λ y ⟨j,hj,hy⟩=>hy.le hj)
 ·
  have key:∃ y,wK (r1,v1) (r,x,n)=Option.some y/\∃ r' x',y=.inl (r',x',n - 1)/\Rok (k+2+40*((j+1:Nat):Int)) r'/\smB (j+1) x':=by
   unfold wK;rw[if_pos (by simp[cmpI];omega)];refine Dr.step (someStmt_ok hr (by omega)) λ r3 s h3 hs=>?_
   refine Dr.step (k:=k+2+40*j+31) (P:=smS) (.ite (λ _=>.bind (wl 100 h3 (by omega)) λ r4 v h4 _=>.pure (h4.le (by omega)) ⟨Nat.zero_le _,(by show 1<=16;omega)⟩) λ _=>.pure (h3.le (by omega)) hs) λ r4 s2 h4 hs2=>?_
   have hl:=hx.1;refine⟨_,by dsimp only;rw[yH (by simp;omega) (by simp;omega),obS,wV (by omega) (by omega),obS],r4,_,rfl,h4.le (by omega),hx.app hs2⟩
  obtain⟨y,e,r',x',rfl,e2,e3⟩:=key;exact⟨r',x',e,e2,e3⟩
 ·
  unfold wK;dsimp only;rw[if_neg (by simp[cmpI];omega)]
def smF(n:Nat)(f:File):Prop:=f.pkg.l.length<=16/\f.name.l.length<=16/\smB n f.body
theorem someFile_ok{k:Int}{r:Reader}(h:Rok k r)(hk:k<=600000):Dr (k+200) (Zb r) (smF 4):=by
 unfold Zb;refine .bind (Qb (λ _=>True) h (by omega) (by decide) (λ _ _=>trivial)) λ r1 v1 h1 _=>.bind (wl 100 h1 (by omega)) λ r2 v2 h2 _=>.bind (someBody_ok h2 (by omega)) λ r3 b h3 hb=>?_
 refine .bind (k:=k+200) (P:=smF 4) ?_ λ r4 f h4 hf=>.pure h4 hf
 refine .bind (wl 6 h3 (by omega)) λ r4 v4 h4 _=>?_
 refine .any (by split <;> exact⟨_,rfl⟩) λ o30=>?_
 refine .ite (λ _=>.bind (Z3 h4 (by omega)) λ r5 s h5 hs=>.pure (h5.le (by omega)) ⟨Nat.zero_le _,Nat.le_trans hs (by decide),hb⟩) λ _=>?_
 refine .any (by split <;> exact⟨_,rfl⟩) λ o51=>?_
 refine .ite (λ _=>.bind (Z3 h4 (by omega)) λ r5 s h5 hs=>.bind (Z3 h5 (by omega)) λ r6 s2 h6 hs2=>.pure (h6.le (by omega)) ⟨Nat.le_trans hs (by decide),Nat.le_trans hs2 (by decide),hb⟩) λ _=>?_
 refine .ite (λ _=>.bind (Z3 h4 (by omega)) λ r5 s h5 hs=>.pure (h5.le (by omega)) ⟨Nat.le_trans hs (by decide),Nat.zero_le _,hb⟩) λ _=>?_
 refine .bind (Z3 h4 (by omega)) λ r5 s h5 hs=>?_
 have hs':s.l.length<=1:=hs;refine .some (Xn (m:=s) (by show s.l.length+1<=_;omega)) (.bind (Z3 h5 (by omega)) λ r6 s2 h6 hs2=>?_);have hs2':s2.l.length<=1:=hs2;have hlen:(s.l++[46]++s2.l).length<=16:=by simp only[List.length_append,List.length_singleton];omega
 refine .some (Xn (by simp only[List.length_append];show s.l.length+1+s2.l.length<=_;omega)) (.bind (wl 2 h6 (by omega)) λ r7 v7 h7 _=>?_);exact .ite (λ _=>.pure (h7.le (by omega)) ⟨hlen,Nat.zero_le _,hb⟩) λ _=>.bind (Z3 h7 (by omega)) λ r8 s3 h8 hs3=>.pure (h8.le (by omega)) ⟨hlen,Nat.le_trans hs3 (by decide),hb⟩
def smT(n m:Nat)(t:Tree):Prop:=t.files.length<=n/\∀ f∈t.files,smF m f
theorem smF.le{n m:Nat}{f:File}(h:smF n f)(hm:n<=m):smF m f:=⟨h.1,h.2.1,h.2.2.le hm⟩
theorem smT.le{n m n' m':Nat}{t:Tree}(h:smT n m t)(hn:n<=n')(hm:m<=m'):smT n' m' t:=⟨Nat.le_trans h.1 hn,λ f hf=>(h.2 f hf).le hm⟩
theorem smT.app{n m:Nat}{t:Tree}{f:File}(h:smT n m t)(hf:smF m f):smT (n+1) m ⟨t.files++[f]⟩:=⟨by have:=h.1;simp;omega,λ x hx=>(List.mem_append.1 hx).elim (h.2 x) λ hx=>by rw[List.mem_singleton.1 hx];exact hf⟩
theorem smT.set{n m i:Nat}{t:Tree}{f:File}(h:smT n m t)(hf:smF m f):smT n m ⟨t.files.set i f⟩:=⟨by have:=h.1;simp;omega,λ x hx=>(List.mem_or_eq_of_mem_set hx).elim (h.2 x) λ hx=>by rw[hx];exact hf⟩
theorem someTree_ok{k:Int}{r:Reader}(h:Rok k r)(hk:k<=500000):Dr (k+2100) (Zc r) (smT 10 4):=by
 unfold Zc;refine .bind (k:=k+2100) (P:=smT 10 4) ?_ λ r3 s3 h3 hs3=>.pure h3 hs3
 refine .bind (Qb (λ n=>n<=10) h (by omega) (by decide) (by decide)) λ r2 n h2 hn=>?_
 refine(QC (λ j=>k+1+200*j) (λ j x=>smT j 4 x) 10 (λ i j hij=>by omega) (λ j r x n hj hr hx hn hb=>?_) (λ r x n hn=>?_) (by omega) (h2.le (by show k+1<=k+1+200*((0:Nat):Int);omega)) ⟨Nat.le_refl _,λ s hs=>by cases hs⟩ (by exact hn)).mono (by show k+1+200*((10:Nat):Int)<=k+2100;omega) (λ y ⟨j,hj,hy⟩=>hy.le hj (Nat.le_refl _))
 ·
  have key:∃ y,wL (r,x,n)=Option.some y/\∃ r' x',y=.inl (r',x',n - 1)/\Rok (k+1+200*((j+1:Nat):Int)) r'/\smT (j+1) 4 x':=by
   unfold wL;rw[if_pos (by simp[cmpI];omega)];have hl:=hx.1;refine Dr.step (k:=k+1+200*j+200) (P:=smT (j+1) 4) ?_ λ r4 t h4 ht=>?_
   ·
    refine .bind (someFile_ok hr (by omega)) λ r3 f h3 hf=>.some (if_pos trivial) (.ite (λ _=>?_) λ _=>.pure h3 (hx.le (by omega) (Nat.le_refl _)))
    exact .some (yH (by simp;omega) (by simp;omega)) (.pure h3 (hx.app hf))
   ·
    exact⟨_,by dsimp only;rw[wV (by omega) (by omega),obS],r4,t,rfl,h4.le (by omega),ht⟩
  obtain⟨y,e,r',x',rfl,e2,e3⟩:=key;exact⟨r',x',e,e2,e3⟩
 ·
  unfold wL;dsimp only;rw[if_neg (by simp[cmpI];omega)]
theorem anyTree_ok{k:Int}{r:Reader}(h:Rok k r)(hk:k<=400000):Dr (k+2200) (ZC r) (smT 11 5):=by
 unfold ZC;refine .bind (someTree_ok h (by omega)) λ r1 t h1 ht=>?_
 have ht5:smT 11 5 t:=ht.le (by omega) (by omega);refine .bind (k:=k+2200) (P:=smT 11 5) ?_ λ r4 f h4 hf=>.pure h4 hf
 refine .ite (λ hpos=>?_) λ _=>.pure (h1.le (by omega)) ht5
 have hpos':0<(t.files.length:Int):=oD hpos;obtain⟨f,hf,hm⟩:=Jy (l:=t.files) (i:=0) (Int.le_refl _) hpos';have hsf:=ht.2 f hm;have hl:=ht.1;refine .bind (wl 24 h1 (by omega)) λ r2 v2 h2 _=>?_
 refine .ite (λ _=>.some hf (.some (yH (by simp;omega) (by simp;omega)) (.pure (h2.le (by omega)) ((ht.app hsf).le (by omega) (by omega))))) λ _=>?_
 refine .ite (λ _=>.bind (Qb (λ _=>True) h2 (by omega) (by decide) (λ _ _=>trivial)) λ r3 v3 h3 _=>.some hf (.pure (h3.le (by omega)) (ht5.set ⟨hsf.1,hsf.2.1,hsf.2.2.le (by omega)⟩))) λ _=>?_
 refine .ite (λ _=>.bind (Qb (λ _=>True) h2 (by omega) (by decide) (λ _ _=>trivial)) λ r3 v3 h3 _=>.some hf (.pure (h3.le (by omega)) (ht5.set ⟨hsf.1,hsf.2.1,hsf.2.2.le (by omega)⟩))) λ _=>?_
 refine .ite (λ _=>?_) λ _=>.pure (h2.le (by omega)) ht5
 have hbl:=hsf.2.2.1;exact .some hf (.some (yH (by simp;omega) (by simp;omega)) (.some hf (.pure (h2.le (by omega)) (ht5.set ⟨hsf.1,hsf.2.1,hsf.2.2.app ⟨Nat.zero_le _,Nat.zero_le _⟩⟩))))
theorem somePath_ok{k:Int}{r:Reader}(h:Rok k r)(hk:k<=900000):Dr (k+1) (Za r) (λ p=>p.length<=3):=by
 unfold Za;refine .bind (wl 8 h (by omega)) λ r2 v2 h2 _=>?_
 have d:∀ {l:List Int} {c:Prop} [Decidable c] {y:Option (Reader×List Int)},l.length<=3->Dr (k+1) y (λ p=>p.length<=3)->Dr (k+1) (if c then some (r2,l) else y) (λ p=>p.length<=3):=λ hl hy=>.ite (λ _=>.pure h2 hl) λ _=>hy
 exact d (by decide) (d (by decide) (d (by decide) (d (by decide) (d (by decide) (.pure h2 (by decide))))))
theorem anyPath_ok{k:Int}{r:Reader}(h:Rok k r)(hk:k<=800000):Dr (k+2) (ZB r) (λ p=>p.length<=3):=by
 unfold ZB;refine .bind (wl 20 h (by omega)) λ r2 v2 h2 _=>.ite (λ _=>?_) λ _=>.bind (somePath_ok h2 (by omega)) λ r3 p h3 hp=>.pure (h3.le (by omega)) hp
 refine .bind (wl 3 h2 (by omega)) λ r3 v3 h3 hv=>?_
 obtain⟨x,hx,hm⟩:=Jy (l:=([[],[0,0],[3]]:List (List Int))) hv.1 (hv.2 (by decide));exact .some hx (.pure (h3.le (by omega)) ((by decide:∀ x∈([[],[0,0],[3]]:List (List Int)),x.length<=3) x hm))
theorem newReader_ok(c:List UInt8):∃ r,qK c=some r/\Rok 0 r:=by
 unfold qK;by_cases h:(c.length:Int) > 2000
 ·
  rw[if_pos (by simpa[cmpI] using h),show(2000:Int)=((2000:Nat):Int) from rfl,Qy (by omega),obS,obS];exact⟨_,rfl,by show(c.take 2000).length<=2000;simp;omega,Int.le_refl _,Int.le_refl _⟩
 ·
  rw[if_neg (by simpa[cmpI] using h),obS];exact⟨_,rfl,by show c.length<=2000;omega,Int.le_refl _,Int.le_refl _⟩
theorem smT.sm{t:Tree}(h:smT 11 5 t):xg t:=by
 refine⟨by have:=h.1;omega,λ f hf=>?_⟩;obtain⟨h1,h2,h3,h4⟩:=h.2 f hf;exact⟨by omega,by omega,by omega,λ s hs=>⟨by have:=(h4 s hs).1;omega,by have:=(h4 s hs).2;omega⟩⟩
theorem zcv{f:File}{n:Nat}(h:smF n f):(xt f).l.length<=64:=by
 obtain⟨h1,h2,_⟩:=h;unfold xt child;split
 ·
  omega
 ·
  split
  ·
   omega
  ·
   simp only[List.length_append,List.length_singleton];omega
theorem nameOf_ok{k:Int}{r:Reader}(h:Rok k r)(hk:k<=300000):Dr (k+2300) (Z2 r) (λ v=>smT 11 5 v.1/\v.2.1.length<=3/\v.2.2.l.length<=64):=by
 unfold Z2;refine .bind (anyTree_ok h (by omega)) λ r1 t h1 ht=>.bind (anyPath_ok h1 (by omega)) λ r2 q h2 hq=>?_
 dsimp only;cases hc:cmpI .gtr (t.files.length:Int) 0 with
 |
  false=>
  rw[show((false:Bool) == true)=false from rfl,W2,obS];refine .ite (λ h=>by simp at h) λ _=>?_
  rw[if_neg (by decide)];exact .bind (zdb h2 (by omega)) λ r3 s h3 hs=>.pure (h3.le (by omega)) ⟨ht,hq,Nat.le_trans hs (by decide)⟩
 |
  true=>
  have hl:0<(t.files.length:Int):=oD hc;rw[show((true:Bool) == true)=true from rfl,YJ];refine .bind (wl 4 h2 (by omega)) λ r3 v h3 _=>?_
  rw[if_pos rfl];refine .ite (λ _=>?_) λ _=>.bind (zdb h3 (by omega)) λ r4 s h4 hs=>.pure (h4.le (by omega)) ⟨ht,hq,Nat.le_trans hs (by decide)⟩
  refine .bind (wl _ h3 (by omega)) λ r4 i h4 hi=>?_
  obtain⟨f,hf,hm⟩:=Jy (l:=t.files) hi.1 (hi.2 (by omega));exact .some hf (.some (if_pos (ht.sm.2 f hm)) (.pure (h4.le (by omega)) ⟨ht,hq,zcv (ht.2 f hm)⟩))
def smC(n:Nat)(l:List GCmd):Prop:=l.length<=n/\∀ x∈l,x.name.l.length<=64
theorem smC.app{n:Nat}{b:List GCmd}{s:GCmd}(h:smC n b)(hs:s.name.l.length<=64):smC (n+1) (b++[s]):=⟨by have:=h.1;simp;omega,λ x hx=>(List.mem_append.1 hx).elim (h.2 x) λ hx=>by rw[List.mem_singleton.1 hx];exact hs⟩
theorem smC.le{n m:Nat}{b:List GCmd}(h:smC n b)(hm:n<=m):smC m b:=⟨Nat.le_trans h.1 hm,h.2⟩
theorem smB.one{s:Stmt}(h:smS s):smB 1 [s]:=⟨Nat.le_refl _,λ x hx=>by rw[List.mem_singleton.1 hx];exact h⟩
theorem plainS1{k i n:Int}{r0 r:Reader}{t:Tree}{x:List Stmt}{j:Nat}(ht:smT 11 5 t)(h:Rok k r)(hk:k<=300000)(hi:0<i)(hil:i<=t.files.length)(hn:0<n)(hn2:n<=1000)(hj:j<=100)(hx:smB (j+1) x):∃ r' x',yW (r0,t,i) (r,x,n)=some (.inl (r',x',n - 1))/\Rok (k+3) r'/\smB (j+2) x':=by
 have key:∃ y,yW (r0,t,i) (r,x,n)=Option.some y/\∃ r' x',y=.inl (r',x',n - 1)/\Rok (k+3) r'/\smB (j+2) x':=by
  unfold yW;dsimp only;rw[if_pos (by simp[cmpI];omega)];refine Dr.step (k:=k+3) (P:=smB (j+2)) ?_ λ r4 x4 h4 hx4=>⟨_,by dsimp only;rw[wV (by omega) (by omega),obS],r4,x4,rfl,h4,hx4⟩
  refine .bind (wl i h (by omega)) λ r1 v h1 hv=>?_
  have hvi:=hv.2 (by omega);obtain⟨f,hf,hm⟩:=Jy (l:=t.files) hv.1 (by omega);have hml:=zcv (ht.2 f hm);have hmid:mid (xt f):=by unfold mid;omega
  have hxl:=hx.1;refine .some hf (.some (if_pos (ht.sm.2 f hm)) (.some (if_pos hmid) ?_));have hone:∀ {r2:Reader},Rok (k+2) r2->zd (xt f)=true->Dr (k+3) ((yb r2 ([(0:Int),(0:Int),(2:Int)]:List Int)).bind λ v110=>(appO 56 x ([(⟨v110.2,xt f,0,⟨[]⟩,0⟩:Stmt)]:List Stmt)).bind λ v118=>Option.some (v110.1,v118)) (smB (j+2)):=λ h2 hval=>
   .bind (Qb (λ _=>True) h2 (by omega) (by decide) (λ _ _=>trivial)) λ r3 a h3 _=>.some (yH (by simp;omega) (by simp;omega)) (.pure (h3.le (by omega)) (hx.app ⟨by have:=xc hval;show(xt f).l.length<=16;omega,Nat.zero_le _⟩))
  cases hval:zd (xt f) with
  | false=>exact .any ⟨_,rfl⟩ λ o=>.any ⟨_,rfl⟩ λ o2=>.ite (λ _=>by rw[if_neg (by simp)];exact .pure (h1.le (by omega)) (hx.le (by omega))) λ h=>absurd rfl h
  |
   true=>
   rw[show((!true:Bool) == false)=true from rfl,YJ];refine .some (if_pos hmid) ?_;cases hd:decide (zk (xt f)≠(⟨[]⟩:Str)) with
   |
    false=>
    refine .any ⟨_,rfl⟩ λ o=>.ite (λ h=>by simp at h) λ _=>?_
    rw[if_neg (by simp)];exact hone (h1.le (by omega)) hval
   |
    true=>
    rw[show((true:Bool)&&((true:Bool) == true))=true from rfl,YJ];refine .bind (wl 2 h1 (by omega)) λ r2 v2 h2 _=>?_
    rw[if_pos rfl];exact .ite (λ _=>.pure (h2.le (by omega)) (hx.le (by omega))) λ _=>hone (h2.le (by omega)) hval
 obtain⟨y,e,r',x',rfl,e2,e3⟩:=key;exact⟨r',x',e,e2,e3⟩
theorem plainL1{k i n:Int}{r0 r:Reader}{t:Tree}{s:Stmt}(ht:smT 11 5 t)(h:Rok k r)(hk:k<=200000)(_hi:0<=i)(hil:i<=t.files.length)(hn:n<=2)(hs:smS s):Dr (k+6) (zK (λ s58=>yW (r0,t,i) s58) (r,[s],n)) (smB 3):=by
 have hend:∀ (r:Reader) (x:List Stmt) (n:Int),n<=0\/i<=0->yW (r0,t,i) (r,x,n)=some (.inr (r,x)):=λ r x n hn=>by
  unfold yW;dsimp only;rw[if_neg (by simp[cmpI];omega)]
 by_cases hi0:i<=0
 ·
  exact⟨r,[s],qM (m:=1) (yX (hend r [s] n (.inr hi0))) (by omega),h.le (by omega),(smB.one hs).le (by omega)⟩
 ·
  refine(QC (λ j=>k+3*j) (λ j x=>smB (j+1) x) 2 (λ i j hij=>by omega) (λ j r x n hj hr hx hn hb=>?_) (λ r x n hn=>hend r x n (.inl hn)) (by omega) (h.le (by show k<=k+3*((0:Nat):Int);omega)) (smB.one hs) (by exact hn)).mono (by show k+3*((2:Nat):Int)<=k+6;omega) (λ y ⟨j,hj,hy⟩=>hy.le (by omega));obtain⟨r',x',e,e2,e3⟩:=plainS1 (r0:=r0) ht hr (by omega) (by omega) hil hn (by omega) (by omega) hx;exact⟨r',x',e,e2.le (by show k+3*(j:Int)+3<=k+3*((j+1:Nat):Int);omega),e3⟩
theorem plainL0{t0:Tree}(h0:smT 11 5 t0){k:Int}(hk:k<=100000){r:Reader}(h:Rok k r):Dr (k+110) (zK (λ s35=>xy s35) (r,t0,(0:Int))) (smT 11 5):=by
 have hlen0:=h0.1;have key:∀ q j (r:Reader) (t:Tree),j+q=t.files.length->t.files.length<=11->Rok (k+10*j) r->smT 11 5 t->∃ r' y,jM (λ s35=>xy s35) (q+1) (r,t,(j:Int))=some (r',y)/\Rok (k+110) r'/\smT 11 5 y:=by
  intro q
  induction q with
  |
   zero=>
   intro j r t hj hl hr ht;refine⟨r,t,yX ?_,hr.le (by omega),ht⟩;unfold xy;dsimp only;rw[zE,if_neg (by simp;omega)]
  |
   succ q ih=>
   intro j r t hj hl hr ht;obtain⟨f,hf,hm⟩:=get_some (l:=t.files) (k:=j) (by omega);have key2:∃ y,xy (r,t,(j:Int))=Option.some y/\∃ r' t',y=.inl (r',t',((j+1:Nat):Int))/\Rok (k+10*((j+1:Nat):Int)) r'/\smT 11 5 t'/\t'.files.length=t.files.length:=by
    unfold xy;dsimp only;rw[zE,if_pos (decide_eq_true (by omega))];refine Dr.step (k:=k+10*j+9) (P:=λ t'=>smT 11 5 t'/\t'.files.length=t.files.length) ?_ λ r4 t4 h4 ht4=>⟨_,by dsimp only;rw[zS (by omega),obS],r4,t4,rfl,h4.le (by omega),ht4.1,ht4.2⟩
    refine .bind (k:=k+10*j+8) (P:=smB 3) ?_ λ r3 b h3 hb=>?_
    ·
     refine .bind (wl 3 hr (by omega)) λ r1 v h1 hv=>?_
     have hv3:=hv.2 (by omega);exact(plainL1 (k:=k+10*j+1) ht h1 (by omega) (by omega) (by omega) (by omega) ⟨Nat.zero_le _,by show 1<=16;omega⟩).mono (by omega) λ _ h=>h
    ·
     refine .some (x:=atI t.files (j:Int)) (by rw[zQ];exact hf) (.pure (h3.le (by omega)) ⟨ht.set ⟨(ht.2 f hm).1,(ht.2 f hm).2.1,hb.le (by omega)⟩,?_⟩);show(t.files.set _ _).length=_;rw[List.length_set]
   obtain⟨y,e,r',t',rfl,e2,e3,e4⟩:=key2;rw[qL e];exact ih (j+1) r' t' (by omega) (by omega) e2 e3
 obtain⟨r',y,e,e2,e3⟩:=key t0.files.length 0 r t0 (by omega) hlen0 (h.le (by omega)) h0;exact⟨r',y,qM e (by omega),e2,e3⟩
theorem plainOf_ok{k:Int}{r:Reader}(h:Rok k r)(hk:k<=50000):Dr (k+2500) (ZD r) (λ v=>smT 11 5 v.1/\v.2.1.length<=3/\v.2.2.l.length<=64):=by
 unfold ZD;refine .bind (nameOf_ok h (by omega)) λ r1 v h1 hv=>.bind (wl 3 h1 (by omega)) λ r2 p h2 _=>?_
 obtain⟨t,q,s⟩:=v;refine .ite (λ _=>.pure (h2.le (by omega)) hv) λ _=>?_
 exact .bind (plainL0 hv.1 (by omega) h2) λ r3 t3 h3 ht3=>.pure (h3.le (by omega)) ⟨ht3,hv.2⟩
theorem zbo(c:List UInt8):∃ t path s,wC c=some (t,path,s)/\smT 11 5 t/\path.length<=3/\s.l.length<=64:=by
 obtain⟨r,h1,h2⟩:=newReader_ok c;obtain⟨r1,⟨t,q,s⟩,e1,k1,p1,p2,p3⟩:=plainOf_ok h2 (by omega);refine⟨t,q,s,?_,p1,p2,p3⟩;unfold wC;rw[h1,obS,e1,obS]
open Go.RowKit
theorem zbp(s:Str)(c:UInt8)(hs:s.l.length<=1000000):(∃ pre post,s.l=pre++c::post/\c ∉ post/\zP s c=some (pre.length:Int))\/(c ∉ s.l/\zP s c=some (-1)):=by
 have key:∀ k,k<=s.l.length->c ∉ s.l.drop k->∃ r,jM (λ s6=>zL s c s6) (k+1) ((k:Int) - 1)=some r/\((∃ pre post,s.l=pre++c::post/\c ∉ post/\r=.inr (pre.length:Int))\/(c ∉ s.l/\r=.inl ())):=by
  intro k
  induction k with
  |
   zero=>
   intro _ hc;refine⟨.inl (),yX ?_,.inr ⟨by simpa using hc,rfl⟩⟩;unfold zL;rw[if_neg (by simp[cmpI])]
  |
   succ k ih=>
   intro hk hc;have hb:s.l[k]?=some s.l[k]:=List.getElem?_eq_getElem (by omega);have hd:s.l.drop k=s.l[k]::s.l.drop (k+1):=List.drop_eq_getElem_cons (by omega);have e1:((k+1:Nat):Int) - 1=(k:Int):=by omega
   rw[e1];by_cases h:s.l[k]=c
   ·
    refine⟨.inr (k:Int),yX ?_,.inl ⟨s.l.take k,s.l.drop (k+1),?_,hc,by simp;omega⟩⟩
    ·
     unfold zL;rw[if_pos (by simp[cmpI]),zQ,hb,obS,if_pos (by simp[cmpB,h])]
    ·
     rw[← h,← hd,List.take_append_drop]
   ·
    have hs1:zL s c (k:Int)=some (.inl ((k:Int) - 1)):=by
     unfold zL;rw[if_pos (by simp[cmpI]),zQ,hb,obS,if_neg (by simp[cmpB,h]),wV (by omega) (by omega),obS]
    rw[qL hs1];exact ih (by omega) (by rw[hd];simp only[List.mem_cons,not_or];exact⟨λ e=>h e.symm,hc⟩)
 obtain⟨r,h1,h2⟩:=key s.l.length (Nat.le_refl _) (by simp);have hl:zP s c=Option.bind (some r) (Sum.elim (λ _=>some (-1)) some):=by
  unfold zP yp;rw[wV (by omega) (by omega),obS,qM h1 (by omega)];cases r <;> rfl
 rcases h2 with⟨pre,post,e1,e2,rfl⟩ | ⟨e1,rfl⟩
 ·
  exact .inl ⟨pre,post,e1,e2,hl⟩
 ·
  exact .inr ⟨e1,hl⟩
theorem zdc{s:Str}{pre post:List UInt8}(h:s.l=pre++46::post)(hp:(46:UInt8) ∉ post):zj s dot=zj ⟨pre⟩ dot++[⟨post⟩]:=by
 have e:s=⟨((⟨pre⟩:Str).l++[46])++(⟨post⟩:Str).l⟩:=by
  cases s;simp only at h ⊢;rw[h];simp
 have e2:zj ⟨post⟩ dot=[⟨post⟩]:=by
  rw[jq];show(cutF 46 post).map Str.mk=_;rw[zbl 46 post hp];rfl
 rw[e,split_append,e2]
theorem split_none{s:Str}(h:(46:UInt8) ∉ s.l):zj s dot=[s]:=by
 rw[jq];show(cutF 46 s.l).map Str.mk=_;rw[zbl 46 s.l h];rfl
theorem QD{s:Str}{pre post:List UInt8}(h:s.l=pre++46::post)(hp:(46:UInt8) ∉ post):zk s=⟨pre⟩/\jk s=⟨post⟩:=by
 unfold zk jk;rw[zdc h hp];constructor
 ·
  rw[List.length_append,List.length_singleton,Nat.add_sub_cancel,List.take_left];exact qT ⟨pre⟩
 ·
  simp
theorem XD{s:Str}(h:(46:UInt8) ∉ s.l):zk s=emptyS/\jk s=s:=by
 unfold zk jk;rw[split_none h];exact⟨rfl,rfl⟩
theorem Yq{s:Str}(hv:zd s=true):yK s=some (zk s):=by
 have hl:=xc hv;unfold yK;rcases zbp s 46 (by omega) with⟨pre,post,e1,e2,e3⟩ | ⟨e1,e3⟩
 ·
  rw[show zP s (UInt8.ofNat 46)=some (pre.length:Int) from e3,obS,xl (yP hv),obS,hv,if_neg (by simp[cmpI]),Qw (by rw[e1,List.length_append];omega),obS,(QD e1 e2).1,e1,List.take_left]
 ·
  rw[show zP s (UInt8.ofNat 46)=some (-1) from e3,obS,xl (yP hv),obS,hv,if_pos (by simp[cmpI]),(XD e1).1];rfl
theorem LastOf_eq{s:Str}(hv:zd s=true):jr s=some (jk s):=by
 have hl:=xc hv;unfold jr;rw[xl (yP hv),obS,hv,if_neg (by decide)];rcases zbp s 46 (by omega) with⟨pre,post,e1,e2,e3⟩ | ⟨e1,e3⟩
 ·
  have hlen:pre.length+1<=s.l.length:=by rw[e1,List.length_append,List.length_cons];omega
  rw[show zP s (UInt8.ofNat 46)=some (pre.length:Int) from e3,obS,zS (by omega),obS,Qx hlen,obS,(QD e1 e2).2,e1]
  congr 2
  rw[show pre++46::post=(pre++[46])++post by simp,List.drop_left' (by simp)]
 ·
  rw[show zP s (UInt8.ofNat 46)=some (-1) from e3,obS,show((-1:Int)+1)=((0:Nat):Int) from rfl,wV (by omega) (by omega),obS,Qx (by omega),obS,(XD e1).2];rfl
open Go.RowKit
theorem name_of{s:Str}(hv:zd s=true):s=child (zk s) (jk s):=by
 have hl:=xc hv;rcases zbp s 46 (by omega) with⟨pre,post,e1,e2,_⟩ | ⟨e1,_⟩
 ·
  obtain⟨h1,h2⟩:=QD e1 e2;rw[h1,h2];unfold child;by_cases he:(⟨pre⟩:Str)=emptyS
  ·
   have hpre:pre=[]:=by injection he
   subst hpre;have hs:=zdc e1 e2;have h3:=(yk hv).1 ⟨[]⟩ (by rw[hs];exact List.mem_append_left _ (by decide));exact absurd (Xr h3).1 (by simp)
  ·
   rw[if_neg he];cases s;simp only at e1;rw[e1];simp
 ·
  obtain⟨h1,h2⟩:=XD e1;rw[h1,h2];rfl
open Go.RowKit
section
variable{α:Type}[DecidableEq α]
def addU(out:List α)(x:α):List α:=if x∈out then out else out++[x]
def xH(out l:List α):List α:=l.foldl addU out
theorem addU_mem{out:List α}{x y:α}:y∈addU out x ↔ y∈out\/y=x:=by
 unfold addU;split
 ·
  rename_i h;constructor
  ·
   exact Or.inl
  ·
   rintro (h1 | rfl)
   ·
    exact h1
   ·
    exact h
 ·
  rw[List.mem_append,List.mem_singleton]
theorem qU:∀ {l out:List α} {y:α},y∈xH out l ↔ y∈out\/y∈l
 | [],out,y=>by simp[xH]
 |
  x::l,out,y=>by
  show y∈xH (addU out x) l ↔ _;rw[qU,addU_mem,List.mem_cons,or_assoc]
theorem addU_nodup{out:List α}{x:α}(h:out.Nodup):(addU out x).Nodup:=by
 unfold addU;split
 ·
  exact h
 ·
  rename_i hx;rw[List.nodup_append];refine⟨h,by simp,?_⟩;intro a ha b hb e;rw[List.mem_singleton] at hb;subst hb;subst e;exact hx ha
theorem YM:∀ {l out:List α},out.Nodup->(xH out l).Nodup
 | [],_,h=>h
 | x::l,out,h=>YM (l:=l) (out:=addU out x) (addU_nodup h)
theorem addU_pre(out:List α)(x:α):∃ t,addU out x=out++t:=by
 unfold addU;split
 ·
  exact⟨[],by simp⟩
 ·
  exact⟨[x],rfl⟩
theorem zaB:∀ (l out:List α),∃ t,xH out l=out++t
 | [],out=>⟨[],by simp[xH]⟩
 |
  x::l,out=>by
  obtain⟨t,ht⟩:=addU_pre out x;obtain⟨u,hu⟩:=zaB l (addU out x);exact⟨t++u,by show xH (addU out x) l=_;rw[hu,ht,List.append_assoc]⟩
theorem zdd(out l m:List α):xH out (l++m)=xH (xH out l) m:=by
 unfold xH;rw[List.foldl_append]
theorem zcw:∀ (l out:List α),(out++l).Nodup->xH out l=out++l
 | [],out,_=>by simp[xH]
 |
  x::l,out,h=>by
  show xH (addU out x) l=_;have hx:x ∉ out:=by
   rw[List.nodup_append] at h;exact λ hx=>h.2.2 x hx x (List.mem_cons_self ..) rfl
  rw[show addU out x=out++[x] from if_neg hx,zcw l (out++[x]) (by simpa using h)];simp
theorem zde{l:List α}(h:l.Nodup):xH [] l=l:=by rw[zcw l [] (by simpa using h)];rfl
def uniq(l:List α):List α:=xH [] l
theorem uniq_app{out l:List α}(h:out.Nodup):uniq (out++l)=xH out l:=by
 unfold uniq;rw[zdd,zde h]
theorem zdf(l:List α):(uniq l).Nodup:=YM List.Pairwise.nil
theorem YN{l:List α}{x:α}:x∈uniq l ↔ x∈l:=by unfold uniq;rw[qU];simp
theorem addU_len(out:List α)(x:α):(addU out x).length<=out.length+1:=by
 unfold addU;split
 ·
  omega
 ·
  simp
theorem zaC:∀ (l out:List α),(xH out l).length<=out.length+l.length
 | [],out=>by simp[xH]
 |
  x::l,out=>by
  have h1:=zaC l (addU out x);have h2:=addU_len out x;show(xH (addU out x) l).length<=_;rw[List.length_cons];omega
theorem uniq_len(l:List α):(uniq l).length<=l.length:=by
 have:=zaC l [];unfold uniq;simpa using this
theorem jJ:∀ {l m:List α},l.Nodup->(∀ x∈l,x∈m)->l.length<=m.length
 | [],_,_,_=>Nat.zero_le _
 |
  x::l,m,hn,hs=>by
  rw[List.nodup_cons] at hn;have hx:=hs x (List.mem_cons_self ..);have h1:=jJ (l:=l) (m:=m.erase x) hn.2 λ y hy=>(List.mem_erase_of_ne (by intro e;subst e;exact hn.1 hy)).2 (hs y (List.mem_cons_of_mem _ hy))
  have h2:=List.length_erase_of_mem hx;have h3:=List.length_pos_of_mem hx;rw[List.length_cons];omega
def ZE(E:α->List α):Nat->Nat->List α->List α
 | 0,_,out=>out
 |
  m+1,k,out=>match out[k]? with
  | none=>out
  | some x=>ZE E m (k+1) (xH out (E x))
inductive Way (E:α->List α) (l:List α):α->Prop
 | here {x}:x∈l->Way E l x
 | step {x y}:Way E l x->y∈E x->Way E l y
omit [DecidableEq α] in
theorem Way.mono{E:α->List α}{l m:List α}(h:∀ x∈l,Way E m x){x:α}(hw:Way E l x):Way E m x:=by
 induction hw with
 | here hx=>exact h _ hx
 | step _ hy ih=>exact .step ih hy
theorem zdg{E:α->List α}{from_:List α}:∀ (m k:Nat) (out:List α),(∀ x∈out,Way E from_ x)->∀ x∈ZE E m k out,Way E from_ x
 | 0,_,_,h,x,hx=>h x hx
 |
  m+1,k,out,h,x,hx=>by
  unfold ZE at hx;split at hx
  ·
   exact h x hx
  ·
   rename_i y hy;refine zdg m (k+1) _ (λ z hz=>?_) x hx;rcases qU.1 hz with h1 | h1
   ·
    exact h z h1
   ·
    exact .step (h y (List.mem_of_getElem? hy)) h1
theorem zbq{E:α->List α}:∀ (m k:Nat) (out:List α),out.Nodup->(ZE E m k out).Nodup
 | 0,_,_,h=>h
 |
  m+1,k,out,h=>by
  unfold ZE;split
  ·
   exact h
  ·
   exact zbq m (k+1) _ (YM h)
theorem zaD{E:α->List α}{U:List α}(hE:∀ x∈U,∀ y∈E x,y∈U):∀ (m k:Nat) (out:List α),(∀ x∈out,x∈U)->∀ x∈ZE E m k out,x∈U
 | 0,_,_,h,x,hx=>h x hx
 |
  m+1,k,out,h,x,hx=>by
  unfold ZE at hx;split at hx
  ·
   exact h x hx
  ·
   rename_i y hy;refine zaD hE m (k+1) _ (λ z hz=>?_) x hx;rcases qU.1 hz with h1 | h1
   ·
    exact h z h1
   ·
    exact hE y (h y (List.mem_of_getElem? hy)) z h1
theorem Q5{E:α->List α}{U:List α}(hE:∀ x∈U,∀ y∈E x,y∈U):∀ (m k:Nat) (out:List α),out.Nodup->(∀ x∈out,x∈U)->U.length<=m+k->(∀ j x,j<k->out[j]?=some x->∀ y∈E x,y∈out)->∀ x∈ZE E m k out,∀ y∈E x,y∈ZE E m k out
 |
  0,k,out,hn,hs,hm,hc,x,hx,y,hy=>by
  have hl:=jJ hn hs;obtain⟨j,hj,e⟩:=List.getElem_of_mem (show x∈out from hx);exact hc j x (by omega) (by rw[List.getElem?_eq_getElem hj,e]) y hy
 |
  m+1,k,out,hn,hs,hm,hc,x,hx,y,hy=>by
  have hl:=jJ hn hs;unfold ZE at hx ⊢;split at hx
  ·
   rename_i hk;rw[List.getElem?_eq_none_iff] at hk;obtain⟨j,hj,e⟩:=List.getElem_of_mem hx;exact hc j x (by omega) (by rw[List.getElem?_eq_getElem hj,e]) y hy
  ·
   rename_i z hz;refine Q5 hE m (k+1) _ (YM hn) (λ w hw=>?_) (by omega) (λ j w hj hw v hv=>?_) x hx y hy
   ·
    rcases qU.1 hw with h1 | h1
    ·
     exact hs w h1
    ·
     exact hE z (hs z (List.mem_of_getElem? hz)) w h1
   ·
    obtain⟨t,ht⟩:=zaB (E z) out;have hkl:k<out.length:=(List.getElem?_eq_some_iff.1 hz).1;rw[ht,List.getElem?_append_left (by omega)] at hw;rcases Nat.lt_succ_iff_lt_or_eq.1 hj with h1 | h1
    ·
     exact qU.2 (.inl (hc j w h1 hw v hv))
    ·
     subst h1;rw[hz] at hw;cases hw;exact qU.2 (.inr hv)
theorem zdh{E:α->List α}:∀ (m k:Nat) (out:List α),∀ x∈out,x∈ZE E m k out
 | 0,_,_,_,hx=>hx
 |
  m+1,k,out,x,hx=>by
  unfold ZE;split
  ·
   exact hx
  ·
   exact zdh m (k+1) _ x (qU.2 (.inl hx))
theorem reachR_iff{E:α->List α}{U:List α}(hE:∀ x∈U,∀ y∈E x,y∈U){m:Nat}{out:List α}(hn:out.Nodup)(hs:∀ x∈out,x∈U)(hm:U.length<=m){x:α}:x∈ZE E m 0 out ↔ Way E out x:=by
 constructor
 ·
  exact λ h=>zdg m 0 out (λ y hy=>.here hy) x h
 ·
  intro h
  induction h with
  | here hx=>exact zdh m 0 out _ hx
  | step _ hy ih=>exact Q5 hE m 0 out hn hs (by omega) (λ j _ hj=>absurd hj (by omega)) _ ih _ hy
end
theorem loop_grow{α β S:Type}[DecidableEq α]{step:S->Option (S⊕β)}(mk:List α->Nat->S)(E:α->List α)(U:List α)(hE:∀ x∈U,∀ y∈E x,y∈U)(fin:List α->β)
  (h:∀ k out x,out[k]?=some x->out.Nodup->(∀ y∈out,y∈U)->step (mk out k)=some (.inl (mk (xH out (E x)) (k+1))))
  (hend:∀ out,out.Nodup->(∀ y∈out,y∈U)->step (mk out out.length)=some (.inr (fin out)))
  {out:List α} (hn:out.Nodup) (hs:∀ y∈out,y∈U) (hU:U.length<576460752303423488) {s:S} (h0:s=mk out 0):zK step s=some (fin (ZE E U.length 0 out)):=by
 subst h0;have key:∀ m k out,out.Nodup->(∀ y∈out,y∈U)->U.length<=m+k->k<=out.length->jM step (m+1) (mk out k)=some (fin (ZE E m k out)):=by
  intro m
  induction m with
  |
   zero=>
   intro k out hn hs hm hk;have hl:=jJ hn hs;have:k=out.length:=by omega
   subst this;exact yX (hend out hn hs)
  |
   succ m ih=>
   intro k out hn hs hm hk;unfold ZE;cases hx:out[k]? with
   |
    none=>
    rw[List.getElem?_eq_none_iff] at hx;have:k=out.length:=by omega
    subst this;exact yX (hend out hn hs)
   |
    some x=>
    have hkl:k<out.length:=(List.getElem?_eq_some_iff.1 hx).1;rw[qL (h k out x hx hn hs)];refine ih (k+1) _ (YM hn) (λ w hw=>?_) (by omega) ?_
    ·
     rcases qU.1 hw with h1 | h1
     ·
      exact hs w h1
     ·
      exact hE x (hs x (List.mem_of_getElem? hx)) w h1
    ·
     obtain⟨t,ht⟩:=zaB (E x) out;rw[ht,List.length_append];omega
 exact qM (key U.length 0 out hn hs (by omega) (Nat.zero_le _)) (by omega)
open Go.RowKit
def upN:Nat->Str->Str
 | 0,p=>p
 | n+1,p=>upN n (zk p)
def Z4(p:Str)(lv:Int)(m:Str):Str:=if cmpI .eql lv 0=true then m else if upN (lv - 1).toNat p=emptyS then emptyS else if m=emptyS then upN (lv - 1).toNat p else child (upN (lv - 1).toNat p) m
def qV(p:Str)(s:Stmt):Str:=if(cmpI .eql s.kind 0||cmpI .eql s.kind 2)=true then s.module else if cmpI .eql s.kind 1=true then Z4 p s.level s.module else emptyS
def yY(p:Str)(b:List Stmt):List Str:=(b.map (qV p)).filter zd
def YO(n:Str)(s:Spec):Str:=if cmpI .eql s.kind 1=true then zk n else n
def Zj(t:List File)(k:Int):File:=(t[k.toNat]?).getD default
def WS(t:List File)(n:Str)(s:Spec):List Str:=if cmpI .lss s.file 0=true then[] else uniq (yY (YO n s) (Zj t s.file).body)
def zT(t:List File)(path:List Int)(n:Str):List Str:=WS t n (find t path n)
def yl(t:List File)(path:List Int)(n:Str):List Str:=uniq ((zT t path n).flatMap yJ)
def QE(f:File):List Str:=(yY f.pkg f.body).flatMap yJ
def wB(t:List File)(s:Str):List Str:=yJ s++t.flatMap QE
theorem zaE{α:Type}{p:α->Bool}{l:List α}(h:cmpI .lss (xo p l) 0=false):∃ x,l[(xo p l).toNat]?=some x/\p x=true:=by
 unfold xo at h ⊢;cases e:l.findIdx? p with
 | none=>rw[e] at h;exact absurd h (by decide)
 |
  some i=>
  rw[List.findIdx?_eq_some_iff_getElem] at e;obtain⟨hi,h1,_⟩:=e;exact⟨l[i],by simp only[Int.toNat_natCast];exact List.getElem?_eq_getElem hi,h1⟩
theorem YP(n:Int):cmpI .geq n 0=!cmpI .lss n 0:=by
 unfold cmpI;by_cases h:n<0
 ·
  have:¬ n>=0:=by omega
  simp[h,this]
 ·
  have:n>=0:=by omega
  simp[h,this]
theorem Q6{t:List File}{p s:Str}:∀ (rs acc:List Int),cmpI .lss (y6 t p s acc rs).file 0=false->∃ f,t[(y6 t p s acc rs).file.toNat]?=some f/\(((y6 t p s acc rs).kind=2/\f.init=true/\f.pkg=child p s)\/((y6 t p s acc rs).kind=1/\f.init=false/\f.pkg=p/\f.name=s))
 |
  [],acc,h=>by
  unfold y6 at h;split at h
  ·
   exact absurd (show cmpI .lss (-1:Int) 0=false from h) (by decide)
  ·
   exact absurd (show cmpI .lss (-1:Int) 0=false from h) (by decide)
 |
  r::rs,acc,h=>by
  unfold y6 at h ⊢;split at h
  ·
   rename_i hc;rw[if_pos hc];obtain⟨f,h1,h2⟩:=zaE h;refine⟨f,h1,.inl ⟨rfl,?_⟩⟩;unfold xE at h2;simp only[Bool.and_eq_true,beq_iff_eq,decide_eq_true_eq] at h2;exact⟨h2.1.2,h2.1.1.2⟩
  ·
   rename_i hc;rw[if_neg hc];split at h
   ·
    rename_i hc2;rw[if_pos hc2];obtain⟨f,h1,h2⟩:=zaE h;refine⟨f,h1,.inr ⟨rfl,?_⟩⟩;unfold xE at h2;simp only[Bool.and_eq_true,beq_iff_eq,decide_eq_true_eq] at h2;exact⟨h2.1.2,h2.1.1.2,h2.2⟩
   ·
    rename_i hc2;rw[if_neg hc2];exact Q6 rs _ h
theorem parent_child{p s:Str}(hs:zD s=true):zk (child p s)=p:=by
 unfold child;split
 ·
  rename_i h;rw[(XD (WR hs)).1,h]
 ·
  have h:(⟨(p.l++[46])++s.l⟩:Str).l=p.l++46::s.l:=by simp
  rw[(QD h (WR hs)).1]
theorem Yg{t:Tree}(hv:zw t=true){path:List Int}{n:Str}(hn:zd n=true)(h:cmpI .lss (find t.files path n).file 0=false):∃ f,t.files[(find t.files path n).file.toNat]?=some f/\f∈t.files/\xt f=n/\YO n (find t.files path n)=f.pkg:=by
 rcases find_last (t:=t.files) (path:=path) hn with e | ⟨r,p,s,e,hc⟩
 ·
  rw[e] at h;exact absurd h (by decide)
 ·
  rw[e] at h ⊢;obtain⟨f,h1,h2⟩:=Q6 _ _ h;have hm:=List.mem_of_getElem? h1;refine⟨f,h1,hm,?_⟩;unfold xt YO wQ;rcases h2 with⟨h3,h4,h5⟩ | ⟨h3,h4,h5,h6⟩
  ·
   rw[h3,h4,h5,hc];exact⟨rfl,rfl⟩
  ·
   have hf:=Wr hv hm;have hp:zD f.name=true:=by
    unfold xV at hf;split at hf
    ·
     cases hf
    ·
     rw[h4,if_neg (by decide),Bool.and_eq_true] at hf;exact hf.1
   have hpn:zk n=p:=by rw[← hc];exact parent_child (by rw[← h6];exact hp)
   rw[h3,h4,h5,h6,if_neg (by decide),hc];exact⟨rfl,hpn⟩
theorem wW{t:Tree}(hv:zw t=true){f:File}(hf:f∈t.files):xz f.body=true:=by
 have h:=Wr hv hf;unfold xV at h;cases hb:xz f.body with
 | true=>rfl
 | false=>rw[hb,if_pos (by simp)] at h;cases h
theorem Yr{t:List File}{k:Int}{f:File}(h:t[k.toNat]?=some f):Zj t k=f:=by unfold Zj;rw[h];rfl
theorem XN{p:Str}{b:List Stmt}{x:Str}(h:x∈yY p b):zd x=true:=(List.mem_filter.1 h).2
theorem Xs(p:Str)(b:List Stmt):(yY p b).length<=b.length:=by
 unfold yY;refine Nat.le_trans (List.length_filter_le _ _) ?_;rw[List.length_map];omega
theorem Z5{t:List File}{path:List Int}{n x:Str}(h:x∈zT t path n):zd x=true:=by
 unfold zT WS at h;split at h
 ·
  cases h
 ·
  exact XN (YN.1 h)
theorem Xf{s:Str}(h:zd s=true):(yJ s).length<=3:=by
 have:=(yk h).2;rw[above_len];omega
theorem Ws(l:List Str)(h:∀ x∈l,zd x=true):(l.flatMap yJ).length<=3*l.length:=by
 induction l with
 | nil=>simp
 |
  cons x l ih=>
  have h1:=Xf (h x (List.mem_cons_self ..));have h2:=ih λ y hy=>h y (List.mem_cons_of_mem _ hy)
  rw[List.flatMap_cons,List.length_append,List.length_cons];omega
theorem zb4{l:List Str}(h:∀ x∈l,zd x=true){y:Str}(hy:y∈l.flatMap yJ):zd y=true:=by
 obtain⟨x,hx,hxy⟩:=List.mem_flatMap.1 hy;exact zcu (h x hx) hxy
theorem XE{t:Tree}(hv:zw t=true){path:List Int}{n:Str}(hn:zd n=true):(zT t.files path n).length<=8:=by
 unfold zT WS;cases hf:cmpI .lss (find t.files path n).file 0 with
 | true=>rw[if_pos rfl];exact Nat.zero_le _
 |
  false=>
  obtain⟨f,h1,h2,_,_⟩:=Yg hv hn hf;have hb:=wW hv h2;unfold xz at hb;have hl:f.body.length<=8:=by
   rw[Bool.and_eq_true] at hb;have:=hb.2;unfold cmpI at this;simp only[decide_eq_true_eq] at this;omega
  rw[if_neg (by decide),Yr h1];exact Nat.le_trans (uniq_len _) (Nat.le_trans (Xs _ _) hl)
theorem zcx{t:Tree}(hv:zw t=true){path:List Int}{n:Str}(hn:zd n=true):(yl t.files path n).length<=24:=by
 have h1:=XE hv (path:=path) hn;have h2:=Ws (zT t.files path n) λ _ hy=>Z5 hy
 exact Nat.le_trans (uniq_len _) (by omega)
theorem Z6{t:List File}{s x:Str}(hs:zd s=true)(h:x∈wB t s):zd x=true:=by
 unfold wB at h;rcases List.mem_append.1 h with h | h
 ·
  exact zcu hs h
 ·
  obtain⟨f,_,hx⟩:=List.mem_flatMap.1 h;exact zb4 (λ _ hy=>XN hy) hx
theorem Xt{t:Tree}(hv:zw t=true){path:List Int}{s n x:Str}(hn:zd n=true)(h:x∈yl t.files path n):x∈wB t.files s:=by
 unfold wB;refine List.mem_append.2 (.inr ?_);have h0:=YN.1 h;obtain⟨y,hy,hxy⟩:=List.mem_flatMap.1 h0;unfold zT WS at hy;cases hf:cmpI .lss (find t.files path n).file 0 with
 | true=>rw[hf,if_pos rfl] at hy;cases hy
 |
  false=>
  obtain⟨f,h1,h2,_,h4⟩:=Yg hv hn hf;rw[hf,if_neg (by decide),Yr h1,h4] at hy;exact List.mem_flatMap.2 ⟨f,h2,List.mem_flatMap.2 ⟨y,YN.1 hy,hxy⟩⟩
theorem fileLeads_len{f:File}(h:f.body.length<=8):(QE f).length<=24:=by
 have h1:=Ws (yY f.pkg f.body) λ _ hy=>XN hy
 have h2:=Xs f.pkg f.body;unfold QE;omega
theorem Zh{b:List Stmt}(h:xz b=true):b.length<=8:=by
 unfold xz at h;rw[Bool.and_eq_true] at h;have:=h.2;unfold cmpI at this;simp only[decide_eq_true_eq] at this;omega
theorem Qc{t:Tree}(hv:zw t=true){s:Str}(hs:zd s=true):(wB t.files s).length<=300:=by
 have key:∀ (l:List File),(∀ f∈l,f∈t.files)->(l.flatMap QE).length<=24*l.length:=by
  intro l
  induction l with
  | nil=>intro _;simp
  |
   cons f l ih=>
   intro hl;have h1:=fileLeads_len (Zh (wW hv (hl f (List.mem_cons_self ..))));have h2:=ih λ g hg=>hl g (List.mem_cons_of_mem _ hg)
   rw[List.flatMap_cons,List.length_append,List.length_cons];omega
 have h1:=key t.files λ _ h=>h
 have h2:=Q4 hv;have h3:=Xf hs;unfold wB;rw[List.length_append];omega
theorem qO{s:Str}(h:zd s=true):(yJ s).Nodup:=by
 have hparts:=(yk h).1;unfold yJ qt;refine List.pairwise_map.2 (List.Pairwise.imp_of_mem (λ{a b} ha hb hne e=>hne ?_) List.nodup_range);rw[List.mem_range] at ha hb;have h1:=Xe (l:=(zj s dot).take (a+1)) (by intro e0;have:=congrArg List.length e0;rw[List.length_take,List.length_nil] at this;omega) λ x hx=>hparts x (List.mem_of_mem_take hx)
 have h2:=Xe (l:=(zj s dot).take (b+1)) (by intro e0;have:=congrArg List.length e0;rw[List.length_take,List.length_nil] at this;omega) λ x hx=>hparts x (List.mem_of_mem_take hx)
 rw[e,h2] at h1;have:=congrArg List.length h1;rw[List.length_take,List.length_take] at this;omega
def Zl(t:List File)(path:List Int)(s:Str)(l:List Str):List Str:=ZE (yl t path) (wB t s).length 0 l
theorem Qd{t:Tree}(hv:zw t=true){path:List Int}{s:Str}(hs:zd s=true){l:List Str}(hn:l.Nodup)(hl:∀ x∈l,x∈wB t.files s):(Zl t.files path s l).length<=300:=
 Nat.le_trans (jJ (zbq _ _ _ hn) (zaD (λ _x hx _y hy=>Xt hv (Z6 hs hx) hy) _ _ _ hl)) (Qc hv hs)
open Go.RowKit
def okG(t:Tree)(path:List Int)(s:Str):Bool:=zw t&&xA path&&zd s
theorem xI{t:Tree}{path:List Int}{s:Str}(h:okG t path s=true):zw t=true/\xA path=true/\zd s=true:=by
 unfold okG at h;simp only[Bool.and_eq_true] at h;exact⟨h.1.1,h.1.2,h.2⟩
section
variable{t:Tree}{path:List Int}{s:Str}
theorem YQ(hv:zw t=true)(hs:zd s=true):∀ x∈wB t.files s,∀ y∈yl t.files path x,y∈wB t.files s:=
 λ _ hx _ hy=>Xt hv (Z6 hs hx) hy
theorem jt{l:List File}{x:Str}(h:x∈yJ s):x∈wB l s:=List.mem_append.2 (.inl h)
theorem Ys(hv:zw t=true)(hs:zd s=true){l:List Str}(hn:l.Nodup)(hl:∀ x∈l,x∈wB t.files s){x:Str}:x∈Zl t.files path s l ↔ Way (yl t.files path) l x:=
 reachR_iff (YQ hv hs) hn hl (Nat.le_refl _)
theorem Q7(hv:zw t=true)(hs:zd s=true){l:List Str}(hl:∀ x∈l,x∈wB t.files s){x:Str}(h:x∈Zl t.files path s l):x∈wB t.files s:=
 zaD (YQ hv hs) _ _ _ hl x h
theorem reachOf_valid(hv:zw t=true)(hs:zd s=true){l:List Str}(hl:∀ x∈l,x∈wB t.files s){x:Str}(h:x∈Zl t.files path s l):zd x=true:=
 Z6 hs (Q7 hv hs hl h)
theorem zdi(hv:zw t=true)(hs:zd s=true){l:List Str}(hn:l.Nodup)(hl:∀ x∈l,x∈wB t.files s){x y:Str}(hx:x∈Zl t.files path s l)(hy:y∈yl t.files path x):y∈Zl t.files path s l:=by
 rw[Ys hv hs hn hl] at hx ⊢;exact .step hx hy
end
def yI(t:Tree)(path:List Int)(s:Str):List Str:=Zl t.files path s (yJ s)
def XO(t:Tree)(path:List Int)(s n:Str):Bool:=decide (n∈Zl t.files path s (yl t.files path n))
def YR(t:Tree)(path:List Int)(n:Str):Bool:=cmpI .eql (find t.files path n).kind 0
def xu(st:Stmt):Bool:=cmpI .eql st.kind 0||cmpI .eql st.kind 2||cmpI .eql st.kind 3
def XF(t:Tree)(path:List Int)(n:Str):Bool:=cmpI .lss (find t.files path n).file 0||(Zj t.files (find t.files path n).file).body.all xu
def wM(t:Tree)(path:List Int)(s:Str):List Str:=if okG t path s=true then WK (yI t path s) else[]
def j9(t:Tree)(path:List Int)(s:Str):List Str:=(wM t path s).filter (YR t path)
def YS(t:Tree)(path:List Int)(s:Str):List Str:=(wM t path s).filter (XO t path s)
def zbr(t:Tree)(path:List Int)(s:Str):Bool:=okG t path s&&(wM t path s).all (XF t path)
section
variable{t:Tree}{path:List Int}{s:Str}
theorem Yh(hv:zw t=true)(hs:zd s=true):(yI t path s).length<=300:=Qd hv hs (qO hs) λ _ h=>jt h
theorem qW(hv:zw t=true)(hs:zd s=true){x:Str}(h:x∈yI t path s):zd x=true:=reachOf_valid hv hs (λ _ h=>jt h) h
theorem Jz(h:okG t path s=true){x:Str}:x∈wM t path s ↔ x∈yI t path s:=by
 unfold wM;rw[if_pos h,(Jx _).2]
theorem reachL_asc:Asc (wM t path s):=by
 unfold wM;split
 ·
  exact(Jx _).1
 ·
  exact List.Pairwise.nil
theorem zaF:(wM t path s).length<=300:=by
 unfold wM;split
 ·
  rename_i h;obtain⟨h1,_,h2⟩:=xI h;exact Nat.le_trans (zcs _) (Yh h1 h2)
 ·
  exact Nat.zero_le _
theorem JA{x:Str}(h:x∈wM t path s):zd x=true/\okG t path s=true:=by
 unfold wM at h;split at h
 ·
  rename_i h0;obtain⟨h1,_,h2⟩:=xI h0;exact⟨qW h1 h2 (((Jx _).2 x).1 h),h0⟩
 ·
  cases h
theorem gather_eq(h:okG t path s=true)(p:Str->Bool):((yI t path s).filter p).foldl x9 []=(wM t path s).filter p:=by
 refine asc_ext (insertAll_asc List.Pairwise.nil) (asc_filter _ reachL_asc) λ x=>?_
 rw[insertAll_iff,List.mem_filter,List.mem_filter,Jz h];simp
end
open Go.RowKit
open Go.RowKit
theorem any_mem{l:List Str}{x:Str}:l.any (λ y=>decide (y=x))=decide (x∈l):=by
 rw[Bool.eq_iff_iff,List.any_eq_true];simp
theorem any_mem'{l:List Str}{x:Str}:l.any (λ y=>decide (x=y))=decide (x∈l):=by
 rw[Bool.eq_iff_iff,List.any_eq_true];simp
theorem Zd{l:List Str}{x:Str}(h:l.length<=1048576):xG l x=some (decide (x∈l)):=by
 unfold xG Xl;have hl:zK (λ s4=>wE l x s4) 0=some (match l.findIdx? (λ y=>decide (y=x)) with | some i=>(Sum.inr (i:Int):Unit⊕Int) | none=>Sum.inl ()):=by
  refine J8 l (λ y=>decide (y=x)) (λ i=>Sum.inr i) _ (λ k y hx hlt=>?_) ?_ (by omega) rfl
  ·
   unfold wE;rw[zE,if_pos (decide_eq_true hlt),zQ,hx,obS,zS (by omega)];cases decide (y=x) <;> rfl
  ·
   unfold wE;rw[zE,if_neg (by simp)]
 have e:Option.bind (α:=Unit⊕Int) (zK (λ s4=>wE l x s4) 0) (Sum.elim (λ _=>some (-1)) some)=some (xo (λ y=>decide (y=x)) l):=by
  rw[hl];unfold xo;cases l.findIdx? (λ y=>decide (y=x)) <;> rfl
 rw[e,obS,Wq,any_mem]
theorem JB{l:List Str}{x:Str}(h:l.length<=1048576):zU l x=some (decide (x∈l)):=by
 unfold zU xN;have hl:zK (λ s4=>zZ l x s4) 0=some (match l.findIdx? (λ y=>decide (x=y)) with | some i=>(Sum.inr (i:Int):Unit⊕Int) | none=>Sum.inl ()):=by
  refine J8 l (λ y=>decide (x=y)) (λ i=>Sum.inr i) _ (λ k y hx hlt=>?_) ?_ (by omega) rfl
  ·
   unfold zZ;rw[zE,if_pos (decide_eq_true hlt),zQ,hx,obS,zS (by omega)];cases decide (x=y) <;> rfl
  ·
   unfold zZ;rw[zE,if_neg (by simp)]
 have e:Option.bind (α:=Unit⊕Int) (zK (λ s4=>zZ l x s4) 0) (Sum.elim (λ _=>some (-1)) some)=some (xo (λ y=>decide (x=y)) l):=by
  rw[hl];unfold xo;cases l.findIdx? (λ y=>decide (x=y)) <;> rfl
 rw[e,obS,Wq,any_mem']
theorem X2{β γ:Type}{step:List Str×Int->Option ((List Str×Int)⊕β)}(l:List γ)(g:List Str->γ->List Str)(fin:List Str->β)(c B:Nat)
  (hlen:∀ out x,x∈l->(g out x).length<=out.length+c)
  (h:∀ k out x,l[k]?=some x->x∈l->k<l.length->out.length<=B->step (out,(k:Int))=some (.inl (g out x,((k+1:Nat):Int))))
  (hend:∀ out,step (out,(l.length:Int))=some (.inr (fin out))) {out:List Str} (hb:out.length+c*l.length<=B) (hl:l.length<=1048576):zK step (out,(0:Int))=some (fin (l.foldl g out)):=by
 have:=Qz (step:=step) l (λ(s:List Str) k=>(s,(k:Int))) g fin (λ k s=>k<=l.length/\s.length<=out.length+c*k) (λ k s x hx hk hI=>?_) (λ s _=>hend s) (s0:=out) ⟨Nat.zero_le _,by omega⟩ (by omega)
 ·
  exact this
 ·
  have hm:=List.mem_of_getElem? hx;have h1:c*k<=c*l.length:=Nat.mul_le_mul_left c (by omega);have h2:=hlen s x hm;refine⟨h k s x hx hm hk (by omega),by omega,?_⟩;rw[Nat.mul_succ];omega
theorem fold_add{γ:Type}(f:γ->List Str):∀ (l:List γ) (out:List Str),l.foldl (λ o x=>xH o (f x)) out=xH out (l.flatMap f)
 | [],_=>rfl
 |
  x::l,out=>by
  rw[List.foldl_cons,List.flatMap_cons,zdd];exact fold_add f l _
theorem fold_app{γ:Type}(f:γ->List Str):∀ (l:List γ) (out:List Str),l.foldl (λ o x=>o++f x) out=out++l.flatMap f
 | [],_=>by simp
 |
  x::l,out=>by
  rw[List.foldl_cons,List.flatMap_cons,fold_app f l];simp
theorem zbs{γ:Type}(p:γ->Bool)(f:List Str->γ->List Str):∀ (l:List γ) (out:List Str),l.foldl (λ o x=>if p x=true then f o x else o) out=(l.filter p).foldl f out
 | [],_=>rfl
 |
  x::l,out=>by
  rw[List.foldl_cons,List.filter_cons];cases h:p x with
  | true=>rw[if_pos rfl,if_pos rfl,List.foldl_cons];exact zbs p f l _
  | false=>rw[if_neg (by decide),if_neg (by decide)];exact zbs p f l _
theorem add_loop{step:List Str×Int->Option ((List Str×Int)⊕List Str)}(l:List Str)
  (h:∀ k out x,l[k]?=some x->x∈l->k<l.length->out.length<=1000->step (out,(k:Int))=some (.inl (addU out x,((k+1:Nat):Int))))
  (hend:∀ out,step (out,(l.length:Int))=some (.inr out)) {out:List Str} (hb:out.length+l.length<=1000):zK step (out,(0:Int))=some (xH out l):=
 X2 l addU (λ o=>o) 1 1000 (λ out x _=>addU_len out x) h hend (by omega) (by omega)
theorem WT{s:Str}(h:zd s=true):ZJ s=some (yJ s):=if_pos (yP h).mid
theorem zbt{p:Str}(h:zu p=true):mid p:=by have:=yO h;unfold mid;omega
theorem JC:zk emptyS=emptyS:=by
 have:(46:UInt8) ∉ emptyS.l:=by decide
 exact(XD this).1
theorem Wt{p:Str}(h:zu p=true):zu (zk p)=true:=by
 unfold zu at h;rw[Bool.or_eq_true,decide_eq_true_eq] at h;rcases h with h | h
 ·
  rw[h,JC];rfl
 ·
  exact pre_valid h _
theorem zb5:∀ n,upN n emptyS=emptyS
 | 0=>rfl
 |
  n+1=>by
  unfold upN;rw[JC];exact zb5 n
theorem upN_pkg:∀ n {p:Str},zu p=true->zu (upN n p)=true
 | 0,_,h=>h
 | n+1,_,h=>upN_pkg n (Wt h)
theorem spec_base_eq{p:Str}(hp:zu p=true){n:Nat}(hn:n<=10):XB p ((n:Int)+1)=some (upN n p,decide (upN n p≠(⟨[]⟩:Str))):=by
 have key:∀ (k i:Nat) (q:Str),zu q=true->i+k=n->∃ r,jM (λ s4=>wT ((n:Int)+1) s4) (k+1) (q,((i+1:Nat):Int))=some r/\(r=.inl (upN k q)\/(r=.inr ((⟨[]⟩:Str),false)/\upN k q=emptyS)):=by
  intro k
  induction k with
  |
   zero=>
   intro i q hq hi;refine⟨.inl q,yX ?_,.inl rfl⟩;unfold wT;simp only;rw[show((n:Int)+1)=((n+1:Nat):Int) by omega,zE,if_neg (by simp;omega)]
  |
   succ k ih=>
   intro i q hq hi;have hlt:cmpI .lss ((i+1:Nat):Int) ((n:Int)+1)=true:=by unfold cmpI;exact decide_eq_true (by omega)
   by_cases he:q=(⟨[]⟩:Str)
   ·
    refine⟨.inr ((⟨[]⟩:Str),false),yX ?_,.inr ⟨rfl,?_⟩⟩
    ·
     unfold wT;simp only;rw[if_pos hlt,if_pos (decide_eq_true he)]
    ·
     rw[he];exact zb5 _
   ·
    have hs:wT ((n:Int)+1) (q,((i+1:Nat):Int))=some (.inl (zk q,((i+1+1:Nat):Int))):=by
     unfold wT;simp only;rw[if_pos hlt,if_neg (by simpa using he),show yz q=some (zk q) from if_pos (zbt hq),obS,zS (by omega)];rfl
    obtain⟨r,h1,h2⟩:=ih (i+1) (zk q) (Wt hq) (by omega);exact⟨r,by rw[qL hs];exact h1,h2⟩
 obtain⟨r,h1,h2⟩:=key n 0 p hp (by omega);unfold XB;rw[show(1:Int)=((0+1:Nat):Int) from rfl,qM (by simpa using h1) (by omega)];rcases h2 with rfl | ⟨rfl,h3⟩
 ·
  rfl
 ·
  rw[h3];rfl
theorem Qe{p m:Str}{lv:Int}:Z4 p lv m=if lv=0 then m else if upN (lv - 1).toNat p=emptyS then emptyS else if m=emptyS then upN (lv - 1).toNat p else child (upN (lv - 1).toNat p) m:=by
 unfold Z4;by_cases h:lv=0
 ·
  rw[if_pos h,if_pos (by simp[cmpI,h])]
 ·
  rw[if_neg h,if_neg (by simp[cmpI,h])]
theorem zcN{p m:Str}{lv:Int}(hp:zu p=true)(h0:0<=lv)(h1:lv<=4)(hm:sho m):qC p lv m=some (Z4 p lv m):=by
 rw[Qe];unfold qC;by_cases h:lv=0
 ·
  rw[if_pos h,if_pos (by simp[cmpI,h])]
 ·
  rw[if_neg h,if_neg (by simp[cmpI,h])];obtain⟨n,hn⟩:∃ n:Nat,lv=(n:Int)+1:=⟨(lv - 1).toNat,by omega⟩;have hu:=upN_pkg n hp;rw[show(lv - 1).toNat=n by omega,hn,spec_base_eq hp (by omega),obS];by_cases he:upN n p=emptyS
  ·
   rw[if_pos he];simp only[he];rfl
  ·
   rw[if_neg he];have he':decide (upN n p≠(⟨[]⟩:Str))=true:=decide_eq_true he;simp only[he'];rw[if_neg (by decide)];by_cases hm0:m=emptyS
   ·
    rw[if_pos hm0,if_pos (decide_eq_true (show m=(⟨[]⟩:Str) from hm0))]
   ·
    have hlu:=yO hu;unfold sho at hm;rw[if_neg hm0,if_neg (by simpa using(show ¬ m=(⟨[]⟩:Str) from hm0)),show XW (upN n p) m=some (child (upN n p) m) from if_pos (by omega),obS]
theorem Ze{st:Stmt}(h:zX st=true):((st.kind=0\/st.kind=2)/\zd st.module=true)\/(st.kind=1/\zu st.module=true/\0<=st.level/\st.level<=3)\/(st.kind≠0/\st.kind≠1/\st.kind≠2):=by
 unfold zX at h;by_cases h0:st.kind=0
 ·
  rw[if_pos (by simp[cmpI,h0])] at h;simp only[Bool.and_eq_true] at h;exact .inl ⟨.inl h0,h.1.1.1⟩
 ·
  rw[if_neg (by simp[cmpI,h0])] at h;by_cases h1:st.kind=1
  ·
   rw[if_pos (by simp[cmpI,h1])] at h;simp only[Bool.and_eq_true,inR] at h;have h2:=h.1.1.1.2;simp[cmpI] at h2;exact .inr (.inl ⟨h1,h.1.1.1.1,by omega,by omega⟩)
  ·
   rw[if_neg (by simp[cmpI,h1])] at h;by_cases h2:st.kind=2
   ·
    rw[if_pos (by simp[cmpI,h2])] at h;simp only[Bool.and_eq_true] at h;exact .inl ⟨.inr h2,h.1.1.1⟩
   ·
    exact .inr (.inr ⟨h0,h1,h2⟩)
theorem child_len(p s:Str):(child p s).l.length<=p.l.length+s.l.length+1:=by
 unfold child;split
 ·
  omega
 ·
  simp only[List.length_append,List.length_singleton];omega
theorem stName_sho{p:Str}{st:Stmt}(hp:zu p=true)(h:zX st=true):sho (qV p st):=by
 unfold qV sho;rcases Ze h with⟨h1,h2⟩ | ⟨h1,h2,h3,h4⟩ | ⟨h1,h2,h3⟩
 ·
  have:=xc h2;rw[if_pos (by rcases h1 with h1 | h1 <;> simp[cmpI,h1])];omega
 ·
  rw[if_neg (by simp[cmpI,h1]),if_pos (by simp[cmpI,h1]),Qe];have h5:=yO h2;have h6:=yO (upN_pkg (st.level - 1).toNat hp);have h7:=child_len (upN (st.level - 1).toNat p) st.module;split
  ·
   omega
  ·
   split
   ·
    exact Nat.zero_le _
   ·
    split <;> omega
 ·
  rw[if_neg (by simp[cmpI,h1,h3]),if_neg (by simp[cmpI,h2])];exact Nat.zero_le _
section
variable{t:Tree}{path:List Int}
theorem atI_some{α:Type}{l:List α}{k:Int}{x:α}(h0:cmpI .lss k 0=false)(h:l[k.toNat]?=some x):atI l k=some x:=by
 have hk:0<=k:=by
  have:=of_decide_eq_false h0;omega
 unfold atI;rw[if_pos hk];exact h
theorem zcy{n:Str}(hn:zd n=true)(s:Spec):zu (YO n s)=true:=by
 have h:zu n=true:=by unfold zu;rw[hn,Bool.or_true]
 unfold YO;split
 ·
  exact Wt h
 ·
  exact h
end
open Go.RowKit
theorem full_s1(l out:List Str)(hb:out.length+l.length<=1000):zK (λ s=>qD l s) (out,(0:Int))=some (xH out l):=by
 refine add_loop l (λ k out x hx _ hk ho=>?_) (λ out=>?_) hb
 ·
  unfold qD addU;simp only;rw[zE,if_pos (decide_eq_true hk),zQ,hx,obS,Zd (by omega),obS,zS (by omega)];by_cases hm:x∈out
  ·
   rw[decide_eq_true hm,if_neg (by decide),if_pos hm];rfl
  ·
   rw[decide_eq_false hm,if_pos (by decide),obS,yH (by simp;omega) (by simp;omega),if_neg hm];rfl
 ·
  unfold qD;simp only;rw[zE,if_neg (by simp)]
theorem reach_s1(l out:List Str)(hb:out.length+l.length<=1000):zK (λ s=>Z9 l s) (out,(0:Int))=some (xH out l):=by
 rw[← full_s1 l out hb];rfl
theorem spec_full_eq{l:List Str}(hv:∀ x∈l,zd x=true)(hl:l.length<=100):XC l=some (uniq (l.flatMap yJ)):=by
 unfold XC;have h:zK (λ s=>qE l s) (([]:List Str),(0:Int))=some (uniq (l.flatMap yJ)):=by
  rw[show uniq (l.flatMap yJ)=l.foldl (λ o x=>xH o (yJ x)) [] from(fold_add yJ l []).symm];refine X2 l (λ o x=>xH o (yJ x)) (λ o=>o) 3 300 (λ out x hx=>?_) (λ k out x hx hm hk ho=>?_) (λ out=>?_) (by simp;omega) (by omega)
  ·
   have h1:=zaC (yJ x) out;have h2:=Xf (hv x hx);omega
  ·
   have h2:=Xf (hv x hm);unfold qE;simp only;rw[zE,if_pos (decide_eq_true hk),zQ,hx,obS,WT (hv x hm),obS,full_s1 _ _ (by omega),zS (by omega)];rfl
  ·
   unfold qE;simp only;rw[zE,if_neg (by simp)]
 rw[h];rfl
theorem zcO{p:Str}{f:File}(hp:zu p=true)(hb:xz f.body=true):zK (λ s=>ji p f s) (([]:List Str),(0:Int))=some (uniq (yY p f.body)):=by
 have hlen:=Zh hb;have hst:∀ st∈f.body,zX st=true:=by
  unfold xz at hb;rw[Bool.and_eq_true] at hb;exact λ st h=>List.all_eq_true.1 hb.1 st h
 have e:uniq (yY p f.body)=f.body.foldl (λ o st=>if zd (qV p st)=true then addU o (qV p st) else o) []:=by
  rw[zbs (λ st=>zd (qV p st)) (λ o st=>addU o (qV p st))];unfold uniq xH yY;rw[List.filter_map,List.foldl_map];rfl
 rw[e];refine X2 f.body _ (λ o=>o) 1 1000 (λ out st hm=>?_) (λ k out st hx hm hk ho=>?_) (λ out=>?_) (by simp;omega) (by omega)
 ·
  split
  ·
   exact addU_len _ _
  ·
   omega
 ·
  have hs:=hst st hm;have hsho:=stName_sho hp hs;have hname:((atI f.body (k:Int)).bind λ v29=>Option.bind (α:=Bool) (if(cmpI .eql v29.kind (0:Int))=true then(some (cmpI .eql v29.kind (0:Int))) else(some (cmpI .eql v29.kind (2:Int)))) λ o32=>if o32=true then((atI f.body (k:Int)).bind λ v40=>some v40.module) else(if(cmpI .eql v29.kind (1:Int))=true then((atI f.body (k:Int)).bind λ v46=>(atI f.body (k:Int)).bind λ v47=>(qC p v46.level v47.module).bind λ v48=>some v48) else(some (⟨[]⟩:Str))))=some (qV p st):=by
   rw[zQ,hx];simp only[obS];unfold qV;rcases Ze hs with⟨h1,h2⟩ | ⟨h1,h2,h3,h4⟩ | ⟨h1,h2,h3⟩
   ·
    rcases h1 with h1 | h1 <;> simp[cmpI,h1]
   ·
    have hm2:sho st.module:=by have:=yO h2;unfold sho;omega
    rw[zcN hp h3 (by omega) hm2];simp[cmpI,h1]
   ·
    simp[cmpI,h1,h2,h3];rfl
  unfold ji;simp only;rw[zE,if_pos (decide_eq_true hk),hname,obS,show yx (qV p st)=some (zd (qV p st)) from if_pos hsho.mid,obS,Zd (by omega),zS (by omega)];cases zd (qV p st) with
  | false=>rfl
  |
   true=>
   rw[show((true:Bool) == true)=true from rfl,YJ,obS,if_pos rfl];unfold addU;by_cases hmem:qV p st∈out
   ·
    rw[decide_eq_true hmem,if_neg (by decide),if_pos hmem];rfl
   ·
    rw[decide_eq_false hmem,if_pos (by decide),yH (by simp;omega) (by simp;omega),if_neg hmem];rfl
 ·
  unfold ji;simp only;rw[zE,if_neg (by simp)]
section
variable{t:Tree}{path:List Int}
theorem JK(hv:zw t=true)(hp:path.length<=1048576){n:Str}(hn:zd n=true):qF t path n=some (zT t.files path n):=by
 unfold qF;rw[show Yo t path n=some (find t.files path n) from if_pos ⟨by omega,(yP hn).mid⟩,obS];unfold XX zT WS;cases hf:cmpI .lss (find t.files path n).file 0 with
 | true=>rfl
 |
  false=>
  obtain⟨f,h1,h2,_,h4⟩:=Yg hv hn hf;have hpk:=zcy hn (find t.files path n);have hl:=zcO hpk (wW hv h2);have hk:(Option.bind (α:=Str) (if(cmpI .eql (find t.files path n).kind (1:Int))=true then((yz n).bind λ v12=>some v12) else(some n)) λ o8=>(atI t.files (find t.files path n).file).bind λ v16=>Option.bind (α:=(List Str)) (zK (λ s21=>ji o8 v16 s21) ([],(0:Int))) λ o19=>some o19)=some (uniq (yY (YO n (find t.files path n)) f.body)):=by
   rw[show(if(cmpI .eql (find t.files path n).kind (1:Int))=true then((yz n).bind λ v12=>some v12) else(some n))=some (YO n (find t.files path n)) by
    unfold YO;cases cmpI .eql (find t.files path n).kind (1:Int) with
    | false=>rfl
    | true=>rw[if_pos rfl,if_pos rfl,show yz n=some (zk n) from if_pos (yP hn).mid];rfl,obS,atI_some hf h1,obS,hl,obS]
  simp only[Bool.false_eq_true,if_false];rw[Yr h1,hk];rfl
theorem Q8(hv:zw t=true)(hp:path.length<=1048576){n:Str}(hn:zd n=true):ZK t path n=some (yl t.files path n):=by
 unfold ZK;have h1:=XE hv (path:=path) hn;rw[JK hv hp hn,obS,spec_full_eq (λ _ h=>Z5 h) (by omega),obS];rfl
theorem Q9(hv:zw t=true)(hp:path.length<=1048576){s:Str}(hs:zd s=true){l:List Str}(hn:l.Nodup)(hl:∀ x∈l,x∈wB t.files s):j7 t path l=some (Zl t.files path s l):=by
 have hw:=Qc hv hs;have hll:=jJ hn hl;unfold j7;rw[yH (by simp;omega) (by simp;omega),obS,List.nil_append];have h:zK (λ s10=>jP t path s10) (l,(0:Int))=some (Zl t.files path s l):=by
  refine loop_grow (λ(o:List Str) k=>(o,(k:Int))) (yl t.files path) (wB t.files s) (YQ hv hs) (λ o=>o) (λ k out x hx ho hs'=>?_) (λ out ho hs'=>?_) hn hl (by omega) rfl
  ·
   have hxv:=Z6 hs (hs' x (List.mem_of_getElem? hx));have hk:=(List.getElem?_eq_some_iff.1 hx).1;have hol:=jJ ho hs';have hel:=zcx hv (path:=path) hxv;unfold jP;simp only;rw[zE,if_pos (decide_eq_true hk),zQ,hx,obS,Q8 hv hp hxv,obS,reach_s1 _ _ (by omega),zS (by omega)];rfl
  ·
   unfold jP;simp only;rw[zE,if_neg (by simp)]
 rw[h];rfl
theorem WL(n:Str):(yl t.files path n).Nodup:=zdf _
theorem Qf(hv:zw t=true)(hp:path.length<=1048576){s:Str}(hs:zd s=true):j7 t path (yJ s)=some (yI t path s):=
 Q9 hv hp hs (qO hs) λ _ h=>jt h
theorem zdj(hv:zw t=true)(hp:path.length<=1048576){s n:Str}(hs:zd s=true)(hn:zd n=true):Z1 t path n=some (XO t path s n):=by
 have hsub:∀ x∈yl t.files path n,x∈wB t.files s:=λ _ h=>Xt hv hn h
 have hl:=Qd hv hs (path:=path) (WL n) hsub;unfold Z1 XO;rw[Q8 hv hp hn,obS,Q9 hv hp hs (WL n) hsub,obS,Zd (by omega),obS]
theorem okG_cases(t:Tree)(path:List Int)(s:Str){α:Type}[Inhabited α]{b:α}{K:Option α}(ht:xg t)(hn:sho s){r:α}(h0:okG t path s=false->r=b)(h1:okG t path s=true->K=some r):((xW t).bind λ v2=>(gO ((!v2) == false) (xX path)).bind λ v3=>(gO (((!v2)||(!v3)) == false) (yx s)).bind λ v4=>if(((!v2)||(!v3))||(!v4))=true then(some b) else K)=some r:=by
 rw[show xW t=some (zw t) from if_pos ht,obS,show xX path=some (xA path) from if_pos trivial,show yx s=some (zd s) from if_pos hn.mid];cases hv:zw t with
 | false=>rw[h0 (by unfold okG;rw[hv];rfl)];rfl
 |
  true=>
  cases hp:xA path with
  | false=>rw[h0 (by unfold okG;rw[hv,hp];rfl)];rfl
  |
   true=>
   cases hs:zd s with
   | false=>rw[h0 (by unfold okG;rw[hv,hp,hs];rfl)];rfl
   | true=>exact h1 (by unfold okG;rw[hv,hp,hs];rfl)
theorem ins_loop{step:List Str×Int->Option ((List Str×Int)⊕List Str)}(l:List Str)(p:Str->Bool)(hl:l.length<=1000)
  (h:∀ k out x,l[k]?=some x->x∈l->k<l.length->out.length<=1000->step (out,(k:Int))=some (.inl (if p x=true then x9 out x else out,((k+1:Nat):Int))))
  (hend:∀ out,step (out,(l.length:Int))=some (.inr out)):zK step (([]:List Str),(0:Int))=some ((l.filter p).foldl x9 []):=by
 rw[← zbs p x9 l []];refine X2 l (λ o x=>if p x=true then x9 o x else o) (λ o=>o) 1 1000 (λ out x _=>?_) h hend (by simp;omega) (by omega);show(if p x=true then x9 out x else out).length<=out.length+1;split
 ·
  have:=insertAll_len [x] out;simpa using this
 ·
  omega
theorem zcz{out:List Str}{x:Str}(h:out.length<=1000):jX out x=some (x9 out x):=if_pos (by omega)
variable{s:Str}
theorem zbu(ht:xg t)(hp:path.length<=1048576)(hn:sho s):qJ t path s=some (j9 t path s):=by
 unfold qJ;refine okG_cases t path s ht hn (λ h=>by unfold j9 wM;rw[h];rfl) λ h=>?_
 obtain⟨hv,_,hs⟩:=xI h;have hlen:=Yh hv (path:=path) hs;have hl:zK (λ s20=>ww t path (yI t path s) s20) (([]:List Str),(0:Int))=some (j9 t path s):=by
  unfold j9;rw[← gather_eq h];refine ins_loop (yI t path s) (YR t path) (by omega) (λ k out x hx hm hk ho=>?_) (λ out=>?_)
  ·
   have hxv:=qW hv hs hm;unfold ww;simp only;rw[zE,if_pos (decide_eq_true hk),zQ,hx,obS,show Yo t path x=some (find t.files path x) from if_pos ⟨by omega,(yP hxv).mid⟩,obS,zS (by omega),show cmpI .eql (find t.files path x).kind 0=YR t path x from rfl];cases YR t path x with
   | false=>rfl
   | true=>rw[if_pos rfl,if_pos rfl,obS,zcz ho];rfl
  ·
   unfold ww;simp only;rw[zE,if_neg (by simp)]
 rw[WT hs,obS,Qf hv hp hs,obS,hl];rfl
theorem zcP(ht:xg t)(hp:path.length<=1048576)(hn:sho s):Zz t path s=some (YS t path s):=by
 unfold Zz;refine okG_cases t path s ht hn (λ h=>by unfold YS wM;rw[h];rfl) λ h=>?_
 obtain⟨hv,_,hs⟩:=xI h;have hlen:=Yh hv (path:=path) hs;have hl:zK (λ s20=>jd t path (yI t path s) s20) (([]:List Str),(0:Int))=some (YS t path s):=by
  unfold YS;rw[← gather_eq h];refine ins_loop (yI t path s) (XO t path s) (by omega) (λ k out x hx hm hk ho=>?_) (λ out=>?_)
  ·
   have hxv:=qW hv hs hm;unfold jd;simp only;rw[zE,if_pos (decide_eq_true hk),zQ,hx,obS,zdj hv hp hs hxv,obS,zS (by omega)];cases XO t path s x with
   | false=>rfl
   | true=>rw[if_pos rfl,if_pos rfl,obS,zcz ho];rfl
  ·
   unfold jd;simp only;rw[zE,if_neg (by simp)]
 rw[WT hs,obS,Qf hv hp hs,obS,hl];rfl
end
open Go.RowKit
theorem W4{l:List Str}(h:l.length<=1000):js l=some (uniq l):=by
 unfold js;have hl:zK (λ s5=>jx l s5) (([]:List Str),(0:Int))=some (uniq l):=by
  refine add_loop l (λ k out x hx _ hk ho=>?_) (λ out=>?_) (by simpa using h)
  ·
   unfold jx addU;simp only;rw[zE,if_pos (decide_eq_true hk),zQ,hx,obS,JB (by omega),obS,zS (by omega)];by_cases hm:x∈out
   ·
    rw[decide_eq_true hm,if_neg (by decide),if_pos hm];rfl
   ·
    rw[decide_eq_false hm,if_pos (by decide),yH (by simp;omega) (by simp;omega),if_neg hm];rfl
  ·
   unfold jx;simp only;rw[zE,if_neg (by simp)]
 rw[hl];rfl
def orE(s:Str):Str:=if zd s=true then s else emptyS
theorem ParentOf_any{p:Str}(h:zu p=true):yK p=some (zk p):=by
 unfold zu at h;rw[Bool.or_eq_true,decide_eq_true_eq] at h;rcases h with h | h
 ·
  rw[h,JC];unfold yK;rcases zbp emptyS 46 (by decide) with⟨pre,post,e1,_,_⟩ | ⟨_,e3⟩
  ·
   have:=congrArg List.length e1;simp[emptyS] at this
  ·
   rw[show zP emptyS (UInt8.ofNat 46)=some (-1) from e3,obS,xl (show sho emptyS from Nat.zero_le _),obS];rfl
 ·
  exact Yq h
theorem resolve_loop{p:Str}(hp:zu p=true){n:Nat}(hn:n<=10):zK (λ s17=>ym s17) (p,(n:Int)+1)=some (upN n p):=by
 have key:∀ (k:Nat) (q:Str),k<=10->zu q=true->jM (λ s17=>ym s17) (k+1) (q,((k:Int)+1))=some (upN k q):=by
  intro k
  induction k with
  |
   zero=>
   intro q _ hq;refine yX ?_;unfold ym;rw[if_neg (by simp[cmpI])];rfl
  |
   succ k ih=>
   intro q hk hq;have hgt:cmpI .gtr (((k+1:Nat):Int)+1) 1=true:=by unfold cmpI;exact decide_eq_true (by omega)
   by_cases he:q=(⟨[]⟩:Str)
   ·
    refine yX ?_;unfold ym;simp only;rw[he,if_neg (by simp),show upN (k+1) (⟨[]⟩:Str)=emptyS from zb5 _];rfl
   ·
    have hs:ym (q,(((k+1:Nat):Int)+1))=some (.inl (zk q,((k:Int)+1))):=by
     unfold ym;simp only;rw[hgt,if_pos (by simpa using he),ParentOf_any hq,obS,show(((k+1:Nat):Int)+1 - 1)=((k:Int)+1) by omega,wV (by omega) (by omega)];rfl
    rw[qL hs];exact ih (zk q) (by omega) (Wt hq)
 exact qM (key n p hn hp) (by omega)
theorem pkg_sho{p:Str}(h:zu p=true):sho p:=by have:=yO h;unfold sho;omega
theorem Qg{p m:Str}{lv:Int}(hp:zu p=true)(hm:zu m=true)(h0:0<=lv)(h1:lv<=3):wH p lv m=some (orE (Z4 p lv m)):=by
 rw[Qe];unfold wH;have hw:yM lv 0 4=some true:=by
  unfold yM cmpI;simp only[ge_iff_le];rw[decide_eq_true h0,decide_eq_true (show lv<=4 by omega)];rfl
 rw[YL (pkg_sho hp),obS,YL (pkg_sho hm),hw,hp,hm];simp only[Bool.not_true,beq_self_eq_true,YJ,obS,Bool.or_self,Bool.false_eq_true,if_false];unfold orE;by_cases h:lv=0
 ·
  rw[if_pos h,if_pos (by simp[cmpI,h])];unfold zu at hm;rw[Bool.or_eq_true,decide_eq_true_eq] at hm;rcases hm with hm | hm
  ·
   rw[hm,jj];rfl
  ·
   rw[if_pos hm]
 ·
  rw[if_neg h,if_neg (by simp[cmpI,h])];obtain⟨n,hn⟩:∃ n:Nat,lv=(n:Int)+1:=⟨(lv - 1).toNat,by omega⟩;have hu:=upN_pkg n hp;have hul:=yO hu;have hml:=yO hm;rw[show(lv - 1).toNat=n by omega,hn,resolve_loop hp (by omega),obS];by_cases he:upN n p=emptyS
  ·
   rw[if_pos he,if_pos (decide_eq_true (show upN n p=(⟨[]⟩:Str) from he)),jj];rfl
  ·
   rw[if_neg he,if_neg (by simpa using(show ¬ upN n p=(⟨[]⟩:Str) from he))];have hend:∀ q:Str,sho q->((zV q).bind λ v44=>if(!v44)=true then(some (⟨[]⟩:Str)) else(some q))=some (if zd q=true then q else emptyS):=λ q hq=>by
    rw[xl hq,obS];cases zd q <;> rfl
   by_cases hm0:m=emptyS
   ·
    rw[if_pos hm0,if_neg (by simpa using(show m=(⟨[]⟩:Str) from hm0)),obS];exact hend _ (pkg_sho hu)
   ·
    rw[if_neg hm0,if_pos (by simpa using(show ¬ m=(⟨[]⟩:Str) from hm0)),Xn (by simp;omega),obS,Xn (by simp;omega),obS,obS];have e:(⟨(upN n p).l++([46]++m.l)⟩:Str)=child (upN n p) m:=by
     unfold child;rw[if_neg he];simp
    simp only[e];refine hend _ ?_;have:=child_len (upN n p) m;unfold sho;omega
theorem packageOf_eq{n:Str}(hn:zd n=true)(s:Spec):yn (⟨n,s.kind,[],false,false,[]⟩:GMod)=some (YO n s):=by
 unfold yn YO;simp only;cases cmpI .eql s.kind 1 with
 | false=>rfl
 | true=>rw[if_pos rfl,if_pos rfl,Yq hn];rfl
theorem zdk{p:Str}{b:List Stmt}{k:Nat}{st:Stmt}(hx:b[k]?=some st):yY p (b.take (k+1))=yY p (b.take k)++(if zd (qV p st)=true then[qV p st] else[]):=by
 unfold yY;rw[List.take_add_one,hx,Option.toList_some,List.map_append,List.filter_append,List.map_singleton,List.filter_cons,List.filter_nil]
theorem needs_loop{n:Str}(hn:zd n=true){sp:Spec}{f:File}(hb:xz f.body=true):zK (λ s25=>wZ n sp f s25) (([]:List Str),(0:Int))=some (yY (YO n sp) f.body):=by
 have hp:=zcy hn sp;have hlen:=Zh hb;have hst:∀ st∈f.body,zX st=true:=by
  unfold xz at hb;rw[Bool.and_eq_true] at hb;exact λ st h=>List.all_eq_true.1 hb.1 st h
 refine zb3 (b:=yY (YO n sp) f.body) f.body.length (λ k=>(yY (YO n sp) (f.body.take k),(k:Int))) (λ k hk=>?_) ?_ (by omega) rfl
 ·
  obtain⟨st,hx,hm⟩:=get_some hk;have hs:=hst st hm;have hol:=Xs (YO n sp) (f.body.take k);rw[List.length_take] at hol;unfold wZ;simp only;rw[zE,if_pos (decide_eq_true hk),zQ,hx,obS,zS (by omega),zdk hx,packageOf_eq hn];generalize yY (YO n sp) (f.body.take k)=out at hol ⊢;have ha:∀ x:Str,appO 16 out [x]=some (out++[x]):=λ x=>yH (by simp;omega) (by simp;omega)
  unfold qV;rcases Ze hs with⟨h1,h2⟩ | ⟨h1,h2,h3,h4⟩ | ⟨h1,h2,h3⟩
  ·
   rcases h1 with h1 | h1
   ·
    simp[cmpI,h1,h2,ha]
   ·
    simp[cmpI,h1,h2,ha]
  ·
   rw[obS,Qg hp h2 h3 h4,obS];generalize Z4 (YO n sp) st.level st.module=q;unfold orE;by_cases hq:zd q=true
   ·
    have hne:q≠emptyS:=by intro e;rw[e,jj] at hq;cases hq
    have hne':¬ q=(⟨[]⟩:Str):=hne;simp[cmpI,h1,hq,hne',ha]
   ·
    have he:decide (emptyS≠(⟨[]⟩:Str))=false:=by decide
    simp[cmpI,h1,hq,he]
  ·
   simp[cmpI,h1,h2,h3,jj]
 ·
  unfold wZ;simp only;rw[zE,if_neg (by simp),List.take_length]
section
variable{t:Tree}{path:List Int}
theorem zcA(ht:xg t)(hp:path.length<=1048576){n:Str}(hn:sho n)(h:okG t path n=true):xP t path n=some (find t.files path n):=by
 rw[Qa ht hp hn];unfold zaA;rw[if_pos (by unfold okG at h;exact h)]
theorem FindSpec_bad(ht:xg t)(hp:path.length<=1048576){n:Str}(hn:sho n)(h:okG t path n=false):xP t path n=some Yd:=by
 rw[Qa ht hp hn];unfold zaA;rw[if_neg (by unfold okG at h;rw[h];decide)]
theorem zdl(ht:xg t)(hp:path.length<=1048576){n:Str}(hn:sho n):qG t path n=some (if okG t path n=true then zT t.files path n else[]):=by
 unfold qG;cases hok:okG t path n with
 |
  false=>
  rw[FindSpec_bad ht hp hn hok,obS,if_pos (by decide),if_neg (by decide)]
 |
  true=>
  obtain⟨hv,_,hnv⟩:=xI hok;rw[zcA ht hp hn hok,obS,if_pos rfl];unfold zT WS;cases hf:cmpI .lss (find t.files path n).file 0 with
  | true=>rfl
  |
   false=>
   obtain⟨f,h1,h2,_,h4⟩:=Yg hv hnv hf;have hb:=wW hv h2;have hl:=needs_loop hnv (sp:=find t.files path n) hb;have hbl:=Xs (YO n (find t.files path n)) f.body;have hfl:=Zh hb;simp only[Bool.false_eq_true,if_false];rw[atI_some hf h1,obS,hl,obS,W4 (by omega),obS,Yr h1]
def edgesG(t:Tree)(path:List Int)(n:Str):List Str:=if okG t path n=true then yl t.files path n else[]
theorem zaa{s:Str}(h:zd s=true):wj s=some (yJ s):=by
 rw[NamesAbove_eq (yP h),if_pos h]
theorem zdm{l:List Str}(hv:∀ x∈l,zd x=true)(hl:l.length<=100):zK (λ s7=>ja l s7) (([]:List Str),(0:Int))=some (l.flatMap yJ):=by
 have e:=fold_app yJ l [];rw[List.nil_append] at e;rw[← e];refine X2 l (λ o x=>o++yJ x) (λ o=>o) 3 300 (λ out x hx=>?_) (λ k out x hx hm hk ho=>?_) (λ out=>?_) (by simp;omega) (by omega)
 ·
  have h2:=Xf (hv x hx);simp only[List.length_append];omega
 ·
  have h2:=Xf (hv x hm);unfold ja;simp only;rw[zE,if_pos (decide_eq_true hk),zQ,hx,obS,zaa (hv x hm),obS,yH (by omega) (by omega),zS (by omega)];rfl
 ·
  unfold ja;simp only;rw[zE,if_neg (by simp)]
theorem EdgesOf_eq(ht:xg t)(hp:path.length<=1048576){n:Str}(hn:sho n):jH t path n=some (edgesG t path n):=by
 unfold jH edgesG;rw[zdl ht hp hn,obS];cases hok:okG t path n with
 | false=>rw[if_neg (by decide),if_neg (by decide),zdm (λ _ h=>by cases h) (Nat.zero_le _),obS,List.flatMap_nil,W4 (Nat.zero_le _)];rfl
 |
  true=>
  obtain⟨hv,_,hnv⟩:=xI hok;have h1:=XE hv (path:=path) hnv;have h2:=Ws (zT t.files path n) λ _ hy=>Z5 hy
  rw[if_pos rfl,if_pos rfl,zdm (λ _ h=>Z5 h) (by omega),obS,W4 (by omega),obS];rfl
theorem zbv{s n:Str}(h:okG t path s=true)(hn:zd n=true):okG t path n=true:=by
 obtain⟨h1,h2,_⟩:=xI h;unfold okG;rw[h1,h2,hn];rfl
theorem zdn(ht:xg t)(hp:path.length<=1048576){s n:Str}(h:okG t path s=true)(hn:zd n=true):jH t path n=some (yl t.files path n):=by
 rw[EdgesOf_eq ht hp (yP hn)];unfold edgesG;rw[if_pos (zbv h hn)]
theorem reach_eq(_ht:xg t){s:Str}(h:okG t path s=true){f:Str->Option (List Str)}(hf:∀ x,zd x=true->f x=some (yl t.files path x)){l:List Str}(hn:l.Nodup)(hl:∀ x∈l,x∈wB t.files s):ZL l f=some (Zl t.files path s l):=by
 obtain⟨hv,_,hs⟩:=xI h;have hw:=Qc hv hs;have hll:=jJ hn hl;unfold ZL;rw[W4 (by omega),show uniq l=l from zde hn,obS];have h:zK (λ s10=>jQ f s10) (l,(0:Int))=some (Zl t.files path s l):=by
  refine loop_grow (λ(o:List Str) k=>(o,(k:Int))) (yl t.files path) (wB t.files s) (YQ hv hs) (λ o=>o) (λ k out x hx ho hs'=>?_) (λ out ho hs'=>?_) hn hl (by omega) rfl
  ·
   have hxv:=Z6 hs (hs' x (List.mem_of_getElem? hx));have hk:=(List.getElem?_eq_some_iff.1 hx).1;have hol:=jJ ho hs';have hel:=zcx hv (path:=path) hxv;unfold jQ;simp only;rw[zE,if_pos (decide_eq_true hk),zQ,hx,obS,hf x hxv,obS,yH (by omega) (by omega),obS,W4 (by rw[List.length_append];omega),obS,uniq_app ho,zS (by omega)];rfl
  ·
   unfold jQ;simp only;rw[zE,if_neg (by simp)]
 rw[h];rfl
theorem zaG(ht:xg t)(hp:path.length<=1048576){n:Str}(hn:sho n):jG t path n=some (okG t path n):=by
 unfold jG okG;rw[Js ht,obS,Jt hp,xl hn];cases zw t with
 | false=>rfl
 | true=>cases xA path <;> rfl
variable{s:Str}
theorem zaH(ht:xg t)(hp:path.length<=1048576)(hn:sho s):jI t path s=some (wM t path s):=by
 unfold jI;rw[zaG ht hp hn,obS];cases hok:okG t path s with
 | false=>unfold wM;rw[hok];rfl
 |
  true=>
  obtain⟨hv,_,hs⟩:=xI hok;have hlen:=Yh hv (path:=path) hs;rw[if_neg (by decide),zaa hs,obS,reach_eq (s:=s) ht hok (λ x hx=>?_) (qO hs) (λ _ h=>jt h),obS,show Zl t.files path s (yJ s)=yI t path s from rfl,sorted_eq (Nat.le_trans hlen (by decide)),obS]
  ·
   unfold wM;rw[if_pos hok]
  ·
   unfold qH;rw[zdn ht hp hok hx];rfl
theorem keep_loop{step:List Str×Int->Option ((List Str×Int)⊕List Str)}(l:List Str)(p:Str->Bool)(hl:l.length<=1000)
  (h:∀ k out x,l[k]?=some x->x∈l->k<l.length->out.length<=1000->step (out,(k:Int))=some (.inl (if p x=true then out++[x] else out,((k+1:Nat):Int))))
  (hend:∀ out,step (out,(l.length:Int))=some (.inr out)):zK step (([]:List Str),(0:Int))=some (l.filter p):=by
 have e:l.filter p=l.foldl (λ o x=>if p x=true then o++[x] else o) []:=by
  rw[zbs p (λ o x=>o++[x]) l [],fold_app (λ x=>[x])];simp
 rw[e];refine X2 l (λ o x=>if p x=true then o++[x] else o) (λ o=>o) 1 1000 (λ out x _=>?_) h hend (by simp;omega) (by omega);show(if p x=true then out++[x] else out).length<=out.length+1;split
 ·
  simp
 ·
  omega
theorem MissingOf_eq(ht:xg t)(hp:path.length<=1048576)(hn:sho s):qI t path s=some (j9 t path s):=by
 have hlen:=zaF (t:=t) (path:=path) (s:=s);unfold qI;rw[zaH ht hp hn,obS];have hl:zK (λ s7=>wv t path (wM t path s) s7) (([]:List Str),(0:Int))=some (j9 t path s):=by
  refine keep_loop (wM t path s) (YR t path) (by omega) (λ k out x hx hm hk ho=>?_) (λ out=>?_)
  ·
   obtain⟨hxv,hok⟩:=JA hm;unfold wv;simp only;rw[zE,if_pos (decide_eq_true hk),zQ,hx,obS,CanFind_eq ht hp (yP hxv),obS,zS (by omega),show(!cmpI .neq (zaA t path x).kind 0)=YR t path x by
    unfold zaA YR;rw[if_pos (by have:=zbv hok hxv;unfold okG at this;exact this)];show(!!((find t.files path x).kind == 0))=_;rw[Bool.not_not];rfl]
   cases YR t path x with
   | false=>rfl
   | true=>rw[if_pos rfl,if_pos rfl,yH (by simp;omega) (by simp;omega)];rfl
  ·
   unfold wv;simp only;rw[zE,if_neg (by simp)]
 rw[hl];rfl
theorem RingsOf_eq(ht:xg t)(hp:path.length<=1048576)(hn:sho s):Zy t path s=some (YS t path s):=by
 have hlen:=zaF (t:=t) (path:=path) (s:=s);unfold Zy;rw[zaH ht hp hn,obS];have hl:zK (λ s8=>jc t path (wM t path s) s8) (([]:List Str),(0:Int))=some (YS t path s):=by
  refine keep_loop (wM t path s) (XO t path s) (by omega) (λ k out x hx hm hk ho=>?_) (λ out=>?_)
  ·
   obtain⟨hxv,hok⟩:=JA hm;obtain⟨hv,_,hs⟩:=xI hok;have hsub:∀ y∈yl t.files path x,y∈wB t.files s:=λ _ h=>Xt hv hxv h
   have hrl:=Qd hv hs (path:=path) (WL x) hsub;have hf:∀ y,zd y=true->xj y t path=some (yl t.files path y):=λ y hy=>by
    unfold xj;rw[zdn ht hp hok hy];rfl
   unfold jc;simp only;rw[zE,if_pos (decide_eq_true hk),zQ,hx,obS,hf x hxv,obS,reach_eq (s:=s) ht hok hf (WL x) hsub,obS,JB (by omega),obS,zS (by omega),show decide (x∈Zl t.files path s (yl t.files path x))=XO t path s x from rfl];cases XO t path s x with
   | false=>rfl
   | true=>rw[if_pos rfl,if_pos rfl,yH (by simp;omega) (by simp;omega)];rfl
  ·
   unfold jc;simp only;rw[zE,if_neg (by simp)]
 rw[hl];rfl
theorem neq3(st:Stmt):((cmpI .neq st.kind (0:Int)&&cmpI .neq st.kind (2:Int))&&cmpI .neq st.kind (3:Int))=!xu st:=by
 show((!(st.kind == 0)&&!(st.kind == 2))&&!(st.kind == 3))=!((st.kind == 0||st.kind == 2)||st.kind == 3);cases st.kind == 0 <;> cases st.kind == 2 <;> cases st.kind == 3 <;> rfl
theorem simple_s1{f:File}(h:f.body.length<=1000):zK (λ s24=>xT f s24) (0:Int)=some (if f.body.all xu=true then .inl () else .inr (.inr (.inr false))):=by
 have hl:zK (λ s24=>xT f s24) 0=some (if f.body.any (λ st=>!xu st)=true then .inr (.inr (.inr false)) else .inl ()):=by
  refine YK f.body _ _ _ (λ k x hx hlt=>?_) ?_ (by omega) rfl
  ·
   unfold xT;rw[zE,if_pos (decide_eq_true hlt),zQ,hx,obS,neq3,zS (by omega)];cases xu x <;> rfl
  ·
   unfold xT;rw[zE,if_neg (by simp)]
 rw[hl,QA];cases f.body.all xu <;> rfl
theorem IsSimple_eq(ht:xg t)(hp:path.length<=1048576)(hn:sho s):q6 t path s=some (zbr t path s):=by
 have hlen:=zaF (t:=t) (path:=path) (s:=s);unfold q6;rw[zaH ht hp hn,obS];have hl:zK (λ s6=>wJ t path (wM t path s) s6) 0=some (if(wM t path s).any (λ n=>!XF t path n)=true then .inr false else .inl ()):=by
  refine YK (wM t path s) _ _ _ (λ k x hx hlt=>?_) ?_ (by omega) rfl
  ·
   obtain⟨hxv,hok⟩:=JA (List.mem_of_getElem? hx);obtain⟨hv,_,_⟩:=xI hok;unfold wJ;rw[zE,if_pos (decide_eq_true hlt),zQ,hx,obS,zcA ht hp (yP hxv) (zbv hok hxv),obS,zS (by omega)];unfold XF;cases hf:cmpI .lss (find t.files path x).file 0 with
   | true=>rfl
   |
    false=>
    obtain⟨f,h1,h2,_,_⟩:=Yg hv hxv hf;have hfl:=Zh (wW hv h2);rw[Yr h1,atI_some hf h1,if_neg (by decide),obS,simple_s1 (by omega)];cases f.body.all xu <;> rfl
  ·
   unfold wJ;rw[zE,if_neg (by simp)]
 rw[hl,QA,zaG ht hp hn];unfold zbr;cases hok:okG t path s with
 | true=>cases(wM t path s).all (XF t path) <;> rfl
 |
  false=>
  have:wM t path s=[]:=by unfold wM;rw[hok];rfl
  rw[this];rfl
end
open Go.RowKit
theorem equalTexts_eq{x y:List Str}(h:x.length<=288230376151711744):xx x y=some (decide (x=y)):=by
 unfold xx;refine eqS_list (λ k hk hk2=>?_) ?_ (by omega)
 ·
  unfold wU;simp only[lss_at hk,if_true,atI_at hk,atI_at hk2,obS,zS (show k<4611686018427387904 by omega)];by_cases e:x[k]=y[k] <;> simp[e]
 ·
  unfold wU;rw[lss_end];rfl
open Go.RowKit
end Go.Proofs.YtpmkkijamfgaeaaGreatDoor
