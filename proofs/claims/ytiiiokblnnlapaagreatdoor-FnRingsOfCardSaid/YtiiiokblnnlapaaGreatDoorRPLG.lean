/-
  Plain laws: the draws come to something, and that is small.
  Plain laws: parents and last parts.
  Plain laws: the law of KidsOf.
-/
import Derived.Test.YtiiiokblnnlapaaGreatDoorRILG
import Derived.Test.YtiiiokblnnlapaaGreatDoorRLLG
import Derived.Test.YtiiiokblnnlapaaGreatDoorRJLG
import Derived.Test.YtiiiokblnnlapaaGreatDoorRKLG
namespace Go.Proofs.YtiiiokblnnlapaaGreatDoor
open Go.RowKit
def Rok(k:Int)(r:Reader):Prop:=r.b.length<=2000/\0<=r.p/\r.p<=k
def Dr{α:Type}(k:Int)(x:Option (Reader×α))(P:α->Prop):Prop:=∃ r v,x=some (r,v)/\Rok k r/\P v
theorem Dr.bind{α β:Type}{k k':Int}{x:Option (Reader×α)}{P:α->Prop}{f:Reader×α->Option (Reader×β)}{Q:β->Prop}(h:Dr k x P)(hf:∀ r v,Rok k r->P v->Dr k' (f (r,v)) Q):Dr k' (x.bind f) Q:=by
 obtain⟨r,v,h1,h2,h3⟩:=h
 rw[h1]
 exact hf r v h2 h3
theorem Dr.pure{α:Type}{k:Int}{r:Reader}{v:α}{P:α->Prop}(h:Rok k r)(hp:P v):Dr k (some (r,v)) P:=⟨r,v,rfl,h,hp⟩
theorem Rok.le{k k':Int}{r:Reader}(h:Rok k r)(hk:k<=k'):Rok k' r:=⟨h.1,h.2.1,Int.le_trans h.2.2 hk⟩
theorem Dr.mono{α:Type}{k k':Int}{x:Option (Reader×α)}{P Q:α->Prop}(h:Dr k x P)(hk:k<=k')(hp:∀ v,P v->Q v):Dr k' x Q:=by
 obtain⟨r,v,h1,h2,h3⟩:=h
 exact⟨r,v,h1,h2.le hk,hp v h3⟩
theorem Xc{α:Type}{l:List α}{i:Int}(h0:0<=i)(h:i<l.length):∃ x,atI l i=some x/\x∈l:=by
 obtain⟨n,rfl⟩:=Int.eq_ofNat_of_zero_le h0
 obtain⟨x,hx,hm⟩:=XO (l:=l) (k:=n) (by omega)
 exact⟨x,by rw[yg,hx],hm⟩
theorem xorI_nn{m n:Int}(hm:0<=m)(hm2:m<4611686018427387904)(hn:0<=n)(hn2:n<4611686018427387904):0<=xorI m n:=by
 obtain⟨a,rfl⟩:=Int.eq_ofNat_of_zero_le hm
 obtain⟨b,rfl⟩:=Int.eq_ofNat_of_zero_le hn
 have h1:∀ c:Nat,c<4611686018427387904->(BitVec.ofInt 64 (c:Int)).toNat=c:=λ c hc=>by
  rw[BitVec.toNat_ofInt]
  omega
 have h2:(BitVec.ofInt 64 (a:Int) ^^^ BitVec.ofInt 64 (b:Int)).toNat=a ^^^ b:=by
  rw[BitVec.toNat_xor,h1 a (by omega),h1 b (by omega)]
 have h3:a ^^^ b<2 ^ 62:=Nat.xor_lt_two_pow (by omega) (by omega)
 have h4:(2:Nat) ^ 62=4611686018427387904:=by decide
 unfold xorI
 show 0<=IntKind.i64.wrap ((BitVec.ofInt 64 (a:Int) ^^^ BitVec.ofInt 64 (b:Int)).toNat:Int)
 rw[h2,wrap_in _ (by omega)]
 omega
theorem xm{k:Int}{r:Reader}(n:Int)(h:Rok k r)(hk:k<=1000000):Dr (k+1) (zz r n) (λ v=>0<=v/\(1<=n->v<n)):=by
 obtain⟨h1,h2,h3⟩:=h
 unfold zz
 rw[wj (by omega) (by omega),Option.bind_some]
 have hr:Rok (k+1) { r with p:=r.p+1 }:=⟨h1,by show 0<=r.p+1;omega,by show r.p+1<=k+1;omega⟩
 cases hc:cmpI .lss n 1||cmpI .eql (r.b.length:Int) 0 with
 |
  true=>
  rw[if_pos rfl]
  refine .pure hr ⟨Int.le_refl _,λ h=>by omega⟩
 |
  false=>
  rw[Bool.or_eq_false_iff] at hc
  have hn:¬ n<1:=of_decide_eq_false hc.1
  have hl:¬ (r.b.length:Int)=0:=by simpa[cmpI] using hc.2
  have hres:∀ x:Int,0<=x->Dr (k+1) ((modO x n).bind λ v=>some ({ r with p:=r.p+1 },v)) (λ v=>0<=v/\(1<=n->v<n)):=λ x hx=>by
   rw[modO_of (by omega),Option.bind_some]
   exact .pure hr ⟨Int.tmod_nonneg _ hx,λ _=>Int.tmod_lt_of_pos _ (by omega)⟩
  rw[if_neg (by decide),show r.p+1 - 1=r.p by omega,wj (by omega) (by omega),Option.bind_some]
  cases hlt:cmpI .lss r.p (r.b.length:Int) with
  |
   true=>
   obtain⟨x,hx,_⟩:=Xc h2 (of_decide_eq_true hlt)
   rw[if_pos rfl,hx,Option.bind_some]
   exact hres _ (by omega)
  |
   false=>
   have hm:∀ x:Int,0<=x->∃ y,modO x (r.b.length:Int)=some y/\0<=y/\y<(r.b.length:Int):=λ x hx=>⟨_,modO_of (by omega),Int.tmod_nonneg _ hx,Int.tmod_lt_of_pos _ (by omega)⟩
   obtain⟨y1,e1,a1,b1⟩:=hm r.p h2
   obtain⟨x1,f1,_⟩:=Xc a1 b1
   obtain⟨y2,e2,a2,b2⟩:=hm (r.p*7+3) (by omega)
   obtain⟨x2,f2,_⟩:=Xc a2 b2
   have u1:=x1.toNat_lt
   have u2:=x2.toNat_lt
   have hd1:0<=r.p.tdiv (r.b.length:Int):=Int.tdiv_nonneg h2 (by omega)
   have hd2:r.p.tdiv (r.b.length:Int)<=r.p:=Int.tdiv_le_self _ h2
   rw[if_neg (by decide),e1,Option.bind_some,f1,Option.bind_some,wj (by omega) (by omega),Option.bind_some,wj (by omega) (by omega),Option.bind_some,wj (by omega) (by omega),Option.bind_some,e2,Option.bind_some,f2,Option.bind_some,wj (by omega) (by omega),Option.bind_some,wj (by omega) (by omega),Option.bind_some,wj (by omega) (by omega),Option.bind_some,wj (by omega) (by omega),Option.bind_some,divO_of (by omega) (by omega) (by omega),Option.bind_some,wj (by omega) (by omega),Option.bind_some,wj (by omega) (by omega),Option.bind_some]
   generalize hz:(x1.toNat:Int)*131+(x2.toNat:Int)*1117+r.p*29+r.p.tdiv (r.b.length:Int)*53=z
   have hz0:0<=z/\z<4611686018427387904:=by omega
   have hz1:0<=z.tdiv 64:=Int.tdiv_nonneg hz0.1 (by omega)
   have hz2:z.tdiv 64<=z:=Int.tdiv_le_self _ hz0.1
   rw[divO_of (by decide) (by omega) (by omega),Option.bind_some]
   exact hres _ (xorI_nn hz0.1 hz0.2 hz1 (by omega))
theorem Dr.ite{α:Type}{k:Int}{c:Prop}[Decidable c]{x y:Option (Reader×α)}{P:α->Prop}(h1:c->Dr k x P)(h2:¬ c->Dr k y P):Dr k (if c then x else y) P:=by
 split
 ·
  exact h1 (by assumption)
 ·
  exact h2 (by assumption)
theorem Dr.any{α γ:Type}{k:Int}{x:Option γ}{f:γ->Option (Reader×α)}{P:α->Prop}(hx:∃ o,x=some o)(hf:∀ o,Dr k (f o) P):Dr k (x.bind f) P:=by
 obtain⟨o,rfl⟩:=hx
 exact hf o
theorem Dr.some{α γ:Type}{k:Int}{x:Option γ}{o:γ}{f:γ->Option (Reader×α)}{P:α->Prop}(hx:x=some o)(hf:Dr k (f o) P):Dr k (x.bind f) P:=by
 rw[hx]
 exact hf
theorem XP{k:Int}{r:Reader}{l:List Int}(P:Int->Prop)(h:Rok k r)(hk:k<=1000000)(h0:0<l.length)(hP:∀ x∈l,P x):Dr (k+1) (zX r l) P:=by
 unfold zX
 refine .bind (xm _ h hk) λ r1 v h1 hv=>?_
 obtain⟨x,hx,hm⟩:=Xc hv.1 (hv.2 (by omega))
 exact .some hx (.pure h1 (hP x hm))
theorem of_ok{k:Int}{r:Reader}{l:List Str}(P:Str->Prop)(h:Rok k r)(hk:k<=1000000)(h0:0<l.length)(hP:∀ x∈l,P x):Dr (k+1) (xa r l) P:=by
 unfold xa
 refine .bind (xm _ h hk) λ r1 v h1 hv=>?_
 obtain⟨x,hx,hm⟩:=Xc hv.1 (hv.2 (by omega))
 exact .some hx (.pure h1 (hP x hm))
theorem qB{k:Int}{r:Reader}(h:Rok k r)(hk:k<=1000000):Dr (k+1) (yA r) (λ s=>s.l.length<=1):=by
 unfold yA
 refine .bind (of_ok (λ s=>s.l.length<=1) h hk (by decide) (by decide)) λ r1 v h1 hv=>.pure h1 hv
theorem X5{σ:Type}{step:Reader×σ×Int->Option ((Reader×σ×Int)⊕(Reader×σ))}(K:Nat->Int)(P:Nat->σ->Prop)(m:Nat)(hK:∀ i j,i<=j->K i<=K j)
  (h:∀ j r x n,j<m->Rok (K j) r->P j x->0<n->n+(j:Int)<=m->∃ r' x',step (r,x,n)=some (.inl (r',x',n - 1))/\Rok (K (j+1)) r'/\P (j+1) x')
  (hend:∀ r x n,n<=0->step (r,x,n)=some (.inr (r,x))) (hm:m<=1000) {r:Reader} {x:σ} {n:Int} (h0:Rok (K 0) r) (hx:P 0 x) (hn:n<=m):Dr (K m) (zL step (r,x,n)) (λ y=>∃ j,j<=m/\P j y):=by
 have key:∀ q j r x n,j+q=m->Rok (K j) r->P j x->n<=(q:Int)->∃ r' y,ja step (q+1) (r,x,n)=some (r',y)/\Rok (K m) r'/\∃ j',j'<=m/\P j' y:=by
  intro q
  induction q with
  | zero=>intro j r x n hj hr hx hn;exact⟨r,x,xz (hend r x n (by omega)),hr.le (hK _ _ (by omega)),j,by omega,hx⟩
  |
   succ q ih=>
   intro j r x n hj hr hx hn
   by_cases hn0:n<=0
   ·
    exact⟨r,x,xz (hend r x n hn0),hr.le (hK _ _ (by omega)),j,by omega,hx⟩
   ·
    obtain⟨r',x',h1,h2,h3⟩:=h j r x n (by omega) hr hx (by omega) (by omega)
    rw[qj h1]
    exact ih (j+1) r' x' (n - 1) (by omega) h2 h3 (by omega)
 obtain⟨r',y,h1,h2,h3⟩:=key m 0 r x n (by omega) h0 hx hn
 exact⟨r',y,qa h1 (by omega),h2,h3⟩
theorem Jv{k:Int}{r:Reader}(h:Rok k r)(hk:k<=900000):Dr (k+10) (wU r) (λ s=>s.l.length<=8):=by
 unfold wU
 refine .bind (qB h (by omega)) λ r1 s h1 hs=>?_
 refine .bind (k:=k+10) (P:=λ s=>s.l.length<=8) ?_ λ r3 s3 h3 hs3=>.pure h3 hs3
 refine .bind (XP (λ n=>n<=2) h1 (by omega) (by decide) (by decide)) λ r2 n h2 hn=>?_
 refine(X5 (λ j=>k+2+j) (λ j (s:Str)=>s.l.length<=1+2*j) 2 (λ i j hij=>by omega) (λ j r x n hj hr hx hn hb=>?_) (λ r x n hn=>?_) (by omega) (h2.le (by show k+1+1<=k+2+((0:Nat):Int);omega)) (by show s.l.length<=1+2*0;omega) (by exact hn)).mono (by show k+2+((2:Nat):Int)<=k+10;omega) (λ y ⟨j,hj,hy⟩=>by omega)
 ·
  obtain⟨r',v,e1,e2,e3⟩:=qB hr (by omega)
  have e3':v.l.length<=1:=e3
  refine⟨r',⟨(x.l++[46])++v.l⟩,?_,e2.le (by show k+2+(j:Int)+1<=k+2+((j+1:Nat):Int);omega),?_⟩
  ·
   unfold jE
   dsimp only
   rw[if_pos (by simp[cmpI];omega),Zr (by show x.l.length+1<=_;omega),Option.bind_some,e1,Option.bind_some,Zr (by rw[List.length_append];show x.l.length+1+v.l.length<=_;omega),Option.bind_some,wj (by omega) (by omega),Option.bind_some]
  ·
   show(x.l++[46]++v.l).length<=_
   simp only[List.length_append,List.length_singleton]
   omega
 ·
  unfold jE
  dsimp only
  rw[if_neg (by simp[cmpI];omega)]
theorem Dr.step{α β:Type}{k:Int}{x:Option (Reader×α)}{P:α->Prop}{f:Reader×α->Option β}{Q:β->Prop}(hx:Dr k x P)(hf:∀ r v,Rok k r->P v->∃ y,f (r,v)=Option.some y/\Q y):∃ y,x.bind f=Option.some y/\Q y:=by
 obtain⟨r,v,h1,h2,h3⟩:=hx
 rw[h1]
 exact hf r v h2 h3
theorem QP{k:Int}{r:Reader}(h:Rok k r)(hk:k<=900000):Dr (k+12) (j6 r) (λ s=>s.l.length<=16):=by
 unfold j6
 refine .bind (Jv h hk) λ r1 s h1 hs=>.bind (xm 20 h1 (by omega)) λ r2 v h2 _=>?_
 have hs':s.l.length<=8:=hs
 refine .ite (λ _=>.some (Zr (m:=s) (by show s.l.length+1<=_;omega)) (.pure (h2.le (by omega)) (by show(s.l++[46]).length<=16;rw[List.length_append];show s.l.length+1<=16;omega))) λ _=>?_
 exact .ite (λ _=>.bind (of_ok (λ s=>s.l.length<=16) h2 (by omega) (by decide) (by decide)) λ r3 v h3 hv=>.pure (h3.le (by omega)) hv) λ _=>.pure (h2.le (by omega)) (by show s.l.length<=16;omega)
def smS(s:Stmt):Prop:=s.module.l.length<=16/\s.name.l.length<=16
theorem someStmt_ok{k:Int}{r:Reader}(h:Rok k r)(hk:k<=800000):Dr (k+30) (jF r) smS:=by
 unfold jF
 refine .bind (xm 9 h (by omega)) λ r1 v1 h1 _=>?_
 refine .any (by split <;> exact⟨_,rfl⟩) λ o7=>?_
 refine .ite (λ _=>.bind (Jv h1 (by omega)) λ r2 s h2 hs=>.pure (h2.le (by omega)) ⟨Nat.le_trans hs (by decide),Nat.zero_le _⟩) λ _=>?_
 refine .ite (λ _=>?_) λ _=>?_
 ·
  refine .bind (XP (λ _=>True) h1 (by omega) (by decide) (λ _ _=>trivial)) λ r2 n h2 _=>.bind (Jv h2 (by omega)) λ r3 s h3 hs=>?_
  refine .bind (k:=k+13) (P:=λ s=>s.l.length<=16) ?_ λ r4 m h4 hm=>.bind (qB h4 (by omega)) λ r5 q h5 hq=>.pure (h5.le (by omega)) ⟨hm,Nat.le_trans hq (by decide)⟩
  dsimp only
  cases cmpI .gtr n 0 with
  |
   true=>
   refine .bind (xm 2 h3 (by omega)) λ r4 v h4 _=>.ite (λ _=>.pure (h4.le (by omega)) (Nat.zero_le _)) λ _=>.pure (h4.le (by omega)) (Nat.le_trans hs (by decide))
  | false=>exact .pure (h3.le (by omega)) (Nat.le_trans hs (by decide))
 refine .ite (λ _=>.bind (Jv h1 (by omega)) λ r2 s h2 hs=>.pure (h2.le (by omega)) ⟨Nat.le_trans hs (by decide),Nat.zero_le _⟩) λ _=>?_
 refine .any (by split;exact⟨_,rfl⟩;split <;> exact⟨_,rfl⟩) λ o62=>?_
 refine .ite (λ _=>.bind (of_ok (λ s=>s.l.length<=16) h1 (by omega) (by decide) (by decide)) λ r2 s h2 hs=>.bind (xm 100 h2 (by omega)) λ r3 v h3 _=>.pure (h3.le (by omega)) ⟨Nat.zero_le _,hs⟩) λ _=>?_
 refine .ite (λ _=>.bind (of_ok (λ s=>s.l.length<=16) h1 (by omega) (by decide) (by decide)) λ r2 s h2 hs=>.pure (h2.le (by omega)) ⟨Nat.zero_le _,hs⟩) λ _=>?_
 refine .bind (xm 3 h1 (by omega)) λ r2 v h2 _=>.ite (λ _=>.pure (h2.le (by omega)) ⟨Nat.zero_le _,Nat.zero_le _⟩) λ _=>.bind (xm 100 h2 (by omega)) λ r3 v h3 _=>.pure (h3.le (by omega)) ⟨Nat.zero_le _,(by show 1<=16;omega)⟩
def smB(n:Nat)(b:List Stmt):Prop:=b.length<=n/\∀ s∈b,smS s
theorem smB.app{n:Nat}{b:List Stmt}{s:Stmt}(h:smB n b)(hs:smS s):smB (n+1) (b++[s]):=⟨by have:=h.1;simp;omega,λ x hx=>(List.mem_append.1 hx).elim (h.2 x) λ hx=>by rw[List.mem_singleton.1 hx];exact hs⟩
theorem smB.le{n m:Nat}{b:List Stmt}(h:smB n b)(hm:n<=m):smB m b:=⟨Nat.le_trans h.1 hm,h.2⟩
theorem someBody_ok{k:Int}{r:Reader}(h:Rok k r)(hk:k<=700000):Dr (k+170) (jG r) (smB 4):=by
 unfold jG
 refine .bind (xm 2 h (by omega)) λ r1 v1 h1 _=>?_
 refine .bind (k:=k+170) (P:=smB 4) ?_ λ r3 s3 h3 hs3=>.pure h3 hs3
 refine .bind (XP (λ n=>n<=4) h1 (by omega) (by decide) (by decide)) λ r2 n h2 hn=>?_
 refine(X5 (λ j=>k+2+40*j) (λ j x=>smB j x) 4 (λ i j hij=>by omega) (λ j r x n hj hr hx hn hb=>?_) (λ r x n hn=>?_) (by omega) (h2.le (by show k+1+1<=k+2+40*((0:Nat):Int);omega)) ⟨Nat.le_refl _,λ s hs=>by cases hs⟩ (by exact hn)).mono (by show k+2+40*((4:Nat):Int)<=k+170;omega) (λ y ⟨j,hj,hy⟩=>hy.le hj)
 ·
  have key:∃ y,xK (r1,v1) (r,x,n)=Option.some y/\∃ r' x',y=.inl (r',x',n - 1)/\Rok (k+2+40*((j+1:Nat):Int)) r'/\smB (j+1) x':=by
   unfold xK
   rw[if_pos (by simp[cmpI];omega)]
   refine Dr.step (someStmt_ok hr (by omega)) λ r3 s h3 hs=>?_
   refine Dr.step (k:=k+2+40*j+31) (P:=smS) (.ite (λ _=>.bind (xm 100 h3 (by omega)) λ r4 v h4 _=>.pure (h4.le (by omega)) ⟨Nat.zero_le _,(by show 1<=16;omega)⟩) λ _=>.pure (h3.le (by omega)) hs) λ r4 s2 h4 hs2=>?_
   have hl:=hx.1
   refine⟨_,by dsimp only;rw[jf (by simp;omega) (by simp;omega),Option.bind_some,wj (by omega) (by omega),Option.bind_some],r4,_,rfl,h4.le (by omega),hx.app hs2⟩
  obtain⟨y,e,r',x',rfl,e2,e3⟩:=key
  exact⟨r',x',e,e2,e3⟩
 ·
  unfold xK
  dsimp only
  rw[if_neg (by simp[cmpI];omega)]
def smF(n:Nat)(f:File):Prop:=f.pkg.l.length<=16/\f.name.l.length<=16/\smB n f.body
theorem someFile_ok{k:Int}{r:Reader}(h:Rok k r)(hk:k<=600000):Dr (k+200) (jI r) (smF 4):=by
 unfold jI
 refine .bind (XP (λ _=>True) h (by omega) (by decide) (λ _ _=>trivial)) λ r1 v1 h1 _=>.bind (xm 100 h1 (by omega)) λ r2 v2 h2 _=>.bind (someBody_ok h2 (by omega)) λ r3 b h3 hb=>?_
 refine .bind (k:=k+200) (P:=smF 4) ?_ λ r4 f h4 hf=>.pure h4 hf
 refine .bind (xm 6 h3 (by omega)) λ r4 v4 h4 _=>?_
 refine .any (by split <;> exact⟨_,rfl⟩) λ o30=>?_
 refine .ite (λ _=>.bind (qB h4 (by omega)) λ r5 s h5 hs=>.pure (h5.le (by omega)) ⟨Nat.zero_le _,Nat.le_trans hs (by decide),hb⟩) λ _=>?_
 refine .any (by split <;> exact⟨_,rfl⟩) λ o51=>?_
 refine .ite (λ _=>.bind (qB h4 (by omega)) λ r5 s h5 hs=>.bind (qB h5 (by omega)) λ r6 s2 h6 hs2=>.pure (h6.le (by omega)) ⟨Nat.le_trans hs (by decide),Nat.le_trans hs2 (by decide),hb⟩) λ _=>?_
 refine .ite (λ _=>.bind (qB h4 (by omega)) λ r5 s h5 hs=>.pure (h5.le (by omega)) ⟨Nat.le_trans hs (by decide),Nat.zero_le _,hb⟩) λ _=>?_
 refine .bind (qB h4 (by omega)) λ r5 s h5 hs=>?_
 have hs':s.l.length<=1:=hs
 refine .some (Zr (m:=s) (by show s.l.length+1<=_;omega)) (.bind (qB h5 (by omega)) λ r6 s2 h6 hs2=>?_)
 have hs2':s2.l.length<=1:=hs2
 have hlen:(s.l++[46]++s2.l).length<=16:=by simp only[List.length_append,List.length_singleton];omega
 refine .some (Zr (by simp only[List.length_append];show s.l.length+1+s2.l.length<=_;omega)) (.bind (xm 2 h6 (by omega)) λ r7 v7 h7 _=>?_)
 exact .ite (λ _=>.pure (h7.le (by omega)) ⟨hlen,Nat.zero_le _,hb⟩) λ _=>.bind (qB h7 (by omega)) λ r8 s3 h8 hs3=>.pure (h8.le (by omega)) ⟨hlen,Nat.le_trans hs3 (by decide),hb⟩
def smT(n m:Nat)(t:Tree):Prop:=t.files.length<=n/\∀ f∈t.files,smF m f
theorem smF.le{n m:Nat}{f:File}(h:smF n f)(hm:n<=m):smF m f:=⟨h.1,h.2.1,h.2.2.le hm⟩
theorem smT.le{n m n' m':Nat}{t:Tree}(h:smT n m t)(hn:n<=n')(hm:m<=m'):smT n' m' t:=⟨Nat.le_trans h.1 hn,λ f hf=>(h.2 f hf).le hm⟩
theorem smT.app{n m:Nat}{t:Tree}{f:File}(h:smT n m t)(hf:smF m f):smT (n+1) m ⟨t.files++[f]⟩:=⟨by have:=h.1;simp;omega,λ x hx=>(List.mem_append.1 hx).elim (h.2 x) λ hx=>by rw[List.mem_singleton.1 hx];exact hf⟩
theorem smT.set{n m i:Nat}{t:Tree}{f:File}(h:smT n m t)(hf:smF m f):smT n m ⟨t.files.set i f⟩:=⟨by have:=h.1;simp;omega,λ x hx=>(List.mem_or_eq_of_mem_set hx).elim (h.2 x) λ hx=>by rw[hx];exact hf⟩
theorem someTree_ok{k:Int}{r:Reader}(h:Rok k r)(hk:k<=500000):Dr (k+2100) (jJ r) (smT 10 4):=by
 unfold jJ
 refine .bind (k:=k+2100) (P:=smT 10 4) ?_ λ r3 s3 h3 hs3=>.pure h3 hs3
 refine .bind (XP (λ n=>n<=10) h (by omega) (by decide) (by decide)) λ r2 n h2 hn=>?_
 refine(X5 (λ j=>k+1+200*j) (λ j x=>smT j 4 x) 10 (λ i j hij=>by omega) (λ j r x n hj hr hx hn hb=>?_) (λ r x n hn=>?_) (by omega) (h2.le (by show k+1<=k+1+200*((0:Nat):Int);omega)) ⟨Nat.le_refl _,λ s hs=>by cases hs⟩ (by exact hn)).mono (by show k+1+200*((10:Nat):Int)<=k+2100;omega) (λ y ⟨j,hj,hy⟩=>hy.le hj (Nat.le_refl _))
 ·
  have key:∃ y,xL (r,x,n)=Option.some y/\∃ r' x',y=.inl (r',x',n - 1)/\Rok (k+1+200*((j+1:Nat):Int)) r'/\smT (j+1) 4 x':=by
   unfold xL
   rw[if_pos (by simp[cmpI];omega)]
   have hl:=hx.1
   refine Dr.step (k:=k+1+200*j+200) (P:=smT (j+1) 4) ?_ λ r4 t h4 ht=>?_
   ·
    refine .bind (someFile_ok hr (by omega)) λ r3 f h3 hf=>.some (if_pos trivial) (.ite (λ _=>?_) λ _=>.pure h3 (hx.le (by omega) (Nat.le_refl _)))
    exact .some (jf (by simp;omega) (by simp;omega)) (.pure h3 (hx.app hf))
   ·
    exact⟨_,by dsimp only;rw[wj (by omega) (by omega),Option.bind_some],r4,t,rfl,h4.le (by omega),ht⟩
  obtain⟨y,e,r',x',rfl,e2,e3⟩:=key
  exact⟨r',x',e,e2,e3⟩
 ·
  unfold xL
  dsimp only
  rw[if_neg (by simp[cmpI];omega)]
theorem anyTree_ok{k:Int}{r:Reader}(h:Rok k r)(hk:k<=400000):Dr (k+2200) (j8 r) (smT 11 5):=by
 unfold j8
 refine .bind (someTree_ok h (by omega)) λ r1 t h1 ht=>?_
 have ht5:smT 11 5 t:=ht.le (by omega) (by omega)
 refine .bind (k:=k+2200) (P:=smT 11 5) ?_ λ r4 f h4 hf=>.pure h4 hf
 refine .ite (λ hpos=>?_) λ _=>.pure (h1.le (by omega)) ht5
 have hpos':0<(t.files.length:Int):=of_decide_eq_true hpos
 obtain⟨f,hf,hm⟩:=Xc (l:=t.files) (i:=0) (Int.le_refl _) hpos'
 have hsf:=ht.2 f hm
 have hl:=ht.1
 refine .bind (xm 24 h1 (by omega)) λ r2 v2 h2 _=>?_
 refine .ite (λ _=>.some hf (.some (jf (by simp;omega) (by simp;omega)) (.pure (h2.le (by omega)) ((ht.app hsf).le (by omega) (by omega))))) λ _=>?_
 refine .ite (λ _=>.bind (XP (λ _=>True) h2 (by omega) (by decide) (λ _ _=>trivial)) λ r3 v3 h3 _=>.some hf (.pure (h3.le (by omega)) (ht5.set ⟨hsf.1,hsf.2.1,hsf.2.2.le (by omega)⟩))) λ _=>?_
 refine .ite (λ _=>.bind (XP (λ _=>True) h2 (by omega) (by decide) (λ _ _=>trivial)) λ r3 v3 h3 _=>.some hf (.pure (h3.le (by omega)) (ht5.set ⟨hsf.1,hsf.2.1,hsf.2.2.le (by omega)⟩))) λ _=>?_
 refine .ite (λ _=>?_) λ _=>.pure (h2.le (by omega)) ht5
 have hbl:=hsf.2.2.1
 exact .some hf (.some (jf (by simp;omega) (by simp;omega)) (.some hf (.pure (h2.le (by omega)) (ht5.set ⟨hsf.1,hsf.2.1,hsf.2.2.app ⟨Nat.zero_le _,Nat.zero_le _⟩⟩))))
theorem somePath_ok{k:Int}{r:Reader}(h:Rok k r)(hk:k<=900000):Dr (k+1) (jH r) (λ p=>p.length<=3):=by
 unfold jH
 refine .bind (xm 8 h (by omega)) λ r2 v2 h2 _=>?_
 have d:∀ {l:List Int} {c:Prop} [Decidable c] {y:Option (Reader×List Int)},l.length<=3->Dr (k+1) y (λ p=>p.length<=3)->Dr (k+1) (if c then some (r2,l) else y) (λ p=>p.length<=3):=λ hl hy=>.ite (λ _=>.pure h2 hl) λ _=>hy
 exact d (by decide) (d (by decide) (d (by decide) (d (by decide) (d (by decide) (.pure h2 (by decide))))))
theorem anyPath_ok{k:Int}{r:Reader}(h:Rok k r)(hk:k<=800000):Dr (k+2) (j7 r) (λ p=>p.length<=3):=by
 unfold j7
 refine .bind (xm 20 h (by omega)) λ r2 v2 h2 _=>.ite (λ _=>?_) λ _=>.bind (somePath_ok h2 (by omega)) λ r3 p h3 hp=>.pure (h3.le (by omega)) hp
 refine .bind (xm 3 h2 (by omega)) λ r3 v3 h3 hv=>?_
 obtain⟨x,hx,hm⟩:=Xc (l:=([[],[0,0],[3]]:List (List Int))) hv.1 (hv.2 (by decide))
 exact .some hx (.pure (h3.le (by omega)) ((by decide:∀ x∈([[],[0,0],[3]]:List (List Int)),x.length<=3) x hm))
theorem newReader_ok(c:List UInt8):∃ r,ju c=some r/\Rok 0 r:=by
 unfold ju
 by_cases h:(c.length:Int) > 2000
 ·
  rw[if_pos (by simpa[cmpI] using h),show(2000:Int)=((2000:Nat):Int) from rfl,X3 (by omega),Option.bind_some,Option.bind_some]
  exact⟨_,rfl,by show(c.take 2000).length<=2000;simp;omega,Int.le_refl _,Int.le_refl _⟩
 ·
  rw[if_neg (by simpa[cmpI] using h),Option.bind_some]
  exact⟨_,rfl,by show c.length<=2000;omega,Int.le_refl _,Int.le_refl _⟩
theorem smT.sm{t:Tree}(h:smT 11 5 t):wY t:=by
 refine⟨by have:=h.1;omega,λ f hf=>?_⟩
 obtain⟨h1,h2,h3,h4⟩:=h.2 f hf
 exact⟨by omega,by omega,by omega,λ s hs=>⟨by have:=(h4 s hs).1;omega,by have:=(h4 s hs).2;omega⟩⟩
theorem J7{f:File}{n:Nat}(h:smF n f):(yX f).l.length<=64:=by
 obtain⟨h1,h2,_⟩:=h
 unfold yX child
 split
 ·
  omega
 ·
  split
  ·
   omega
  ·
   simp only[List.length_append,List.length_singleton];omega
theorem nameOf_ok{k:Int}{r:Reader}(h:Rok k r)(hk:k<=300000):Dr (k+2300) (qA r) (λ v=>smT 11 5 v.1/\v.2.1.length<=3/\v.2.2.l.length<=64):=by
 unfold qA
 refine .bind (anyTree_ok h (by omega)) λ r1 t h1 ht=>.bind (anyPath_ok h1 (by omega)) λ r2 q h2 hq=>?_
 dsimp only
 cases hc:cmpI .gtr (t.files.length:Int) 0 with
 |
  false=>
  rw[show((false:Bool) == true)=false from rfl,gO_false,Option.bind_some]
  refine .ite (λ h=>by simp at h) λ _=>?_
  rw[if_neg (by decide)]
  exact .bind (QP h2 (by omega)) λ r3 s h3 hs=>.pure (h3.le (by omega)) ⟨ht,hq,Nat.le_trans hs (by decide)⟩
 |
  true=>
  have hl:0<(t.files.length:Int):=of_decide_eq_true hc
  rw[show((true:Bool) == true)=true from rfl,qi]
  refine .bind (xm 4 h2 (by omega)) λ r3 v h3 _=>?_
  rw[if_pos rfl]
  refine .ite (λ _=>?_) λ _=>.bind (QP h3 (by omega)) λ r4 s h4 hs=>.pure (h4.le (by omega)) ⟨ht,hq,Nat.le_trans hs (by decide)⟩
  refine .bind (xm _ h3 (by omega)) λ r4 i h4 hi=>?_
  obtain⟨f,hf,hm⟩:=Xc (l:=t.files) hi.1 (hi.2 (by omega))
  exact .some hf (.some (if_pos (ht.sm.2 f hm)) (.pure (h4.le (by omega)) ⟨ht,hq,J7 (ht.2 f hm)⟩))
theorem smB.one{s:Stmt}(h:smS s):smB 1 [s]:=⟨Nat.le_refl _,λ x hx=>by rw[List.mem_singleton.1 hx];exact h⟩
theorem plainS1{k i n:Int}{r0 r:Reader}{t:Tree}{x:List Stmt}{j:Nat}(ht:smT 11 5 t)(h:Rok k r)(hk:k<=300000)(hi:0<i)(hil:i<=t.files.length)(hn:0<n)(hn2:n<=1000)(hj:j<=100)(hx:smB (j+1) x):∃ r' x',yB (r0,t,i) (r,x,n)=some (.inl (r',x',n - 1))/\Rok (k+3) r'/\smB (j+2) x':=by
 have key:∃ y,yB (r0,t,i) (r,x,n)=Option.some y/\∃ r' x',y=.inl (r',x',n - 1)/\Rok (k+3) r'/\smB (j+2) x':=by
  unfold yB
  dsimp only
  rw[if_pos (by simp[cmpI];omega)]
  refine Dr.step (k:=k+3) (P:=smB (j+2)) ?_ λ r4 x4 h4 hx4=>⟨_,by dsimp only;rw[wj (by omega) (by omega),Option.bind_some],r4,x4,rfl,h4,hx4⟩
  refine .bind (xm i h (by omega)) λ r1 v h1 hv=>?_
  have hvi:=hv.2 (by omega)
  obtain⟨f,hf,hm⟩:=Xc (l:=t.files) hv.1 (by omega)
  have hml:=J7 (ht.2 f hm)
  have hmid:mid (yX f):=by unfold mid;omega
  have hxl:=hx.1
  refine .some hf (.some (if_pos (ht.sm.2 f hm)) (.some (if_pos hmid) ?_))
  have hone:∀ {r2:Reader},Rok (k+2) r2->zl (yX f)=true->Dr (k+3) ((zX r2 ([(0:Int),(0:Int),(2:Int)]:List Int)).bind λ v110=>(appO 56 x ([(⟨v110.2,yX f,0,⟨[]⟩,0⟩:Stmt)]:List Stmt)).bind λ v118=>Option.some (v110.1,v118)) (smB (j+2)):=λ h2 hval=>
   .bind (XP (λ _=>True) h2 (by omega) (by decide) (λ _ _=>trivial)) λ r3 a h3 _=>.some (jf (by simp;omega) (by simp;omega)) (.pure (h3.le (by omega)) (hx.app ⟨by have:=wl hval;show(yX f).l.length<=16;omega,Nat.zero_le _⟩))
  cases hval:zl (yX f) with
  | false=>exact .any ⟨_,rfl⟩ λ o=>.any ⟨_,rfl⟩ λ o2=>.ite (λ _=>by rw[if_neg (by simp)];exact .pure (h1.le (by omega)) (hx.le (by omega))) λ h=>absurd rfl h
  |
   true=>
   rw[show((!true:Bool) == false)=true from rfl,qi]
   refine .some (if_pos hmid) ?_
   cases hd:decide (wX (yX f)≠(⟨[]⟩:Str)) with
   |
    false=>
    refine .any ⟨_,rfl⟩ λ o=>.ite (λ h=>by simp at h) λ _=>?_
    rw[if_neg (by simp)]
    exact hone (h1.le (by omega)) hval
   |
    true=>
    rw[show((true:Bool)&&((true:Bool) == true))=true from rfl,qi]
    refine .bind (xm 2 h1 (by omega)) λ r2 v2 h2 _=>?_
    rw[if_pos rfl]
    exact .ite (λ _=>.pure (h2.le (by omega)) (hx.le (by omega))) λ _=>hone (h2.le (by omega)) hval
 obtain⟨y,e,r',x',rfl,e2,e3⟩:=key
 exact⟨r',x',e,e2,e3⟩
theorem plainL1{k i n:Int}{r0 r:Reader}{t:Tree}{s:Stmt}(ht:smT 11 5 t)(h:Rok k r)(hk:k<=200000)(_hi:0<=i)(hil:i<=t.files.length)(hn:n<=2)(hs:smS s):Dr (k+6) (zL (λ s58=>yB (r0,t,i) s58) (r,[s],n)) (smB 3):=by
 have hend:∀ (r:Reader) (x:List Stmt) (n:Int),n<=0\/i<=0->yB (r0,t,i) (r,x,n)=some (.inr (r,x)):=λ r x n hn=>by
  unfold yB
  dsimp only
  rw[if_neg (by simp[cmpI];omega)]
 by_cases hi0:i<=0
 ·
  exact⟨r,[s],qa (m:=1) (xz (hend r [s] n (.inr hi0))) (by omega),h.le (by omega),(smB.one hs).le (by omega)⟩
 ·
  refine(X5 (λ j=>k+3*j) (λ j x=>smB (j+1) x) 2 (λ i j hij=>by omega) (λ j r x n hj hr hx hn hb=>?_) (λ r x n hn=>hend r x n (.inl hn)) (by omega) (h.le (by show k<=k+3*((0:Nat):Int);omega)) (smB.one hs) (by exact hn)).mono (by show k+3*((2:Nat):Int)<=k+6;omega) (λ y ⟨j,hj,hy⟩=>hy.le (by omega))
  obtain⟨r',x',e,e2,e3⟩:=plainS1 (r0:=r0) ht hr (by omega) (by omega) hil hn (by omega) (by omega) hx
  exact⟨r',x',e,e2.le (by show k+3*(j:Int)+3<=k+3*((j+1:Nat):Int);omega),e3⟩
theorem plainL0{t0:Tree}(h0:smT 11 5 t0){k:Int}(hk:k<=100000){r:Reader}(h:Rok k r):Dr (k+110) (zL (λ s35=>yO s35) (r,t0,(0:Int))) (smT 11 5):=by
 have hlen0:=h0.1
 have key:∀ q j (r:Reader) (t:Tree),j+q=t.files.length->t.files.length<=11->Rok (k+10*j) r->smT 11 5 t->∃ r' y,ja (λ s35=>yO s35) (q+1) (r,t,(j:Int))=some (r',y)/\Rok (k+110) r'/\smT 11 5 y:=by
  intro q
  induction q with
  |
   zero=>
   intro j r t hj hl hr ht
   refine⟨r,t,xz ?_,hr.le (by omega),ht⟩
   unfold yO
   dsimp only
   rw[zJ,if_neg (by simp;omega)]
  |
   succ q ih=>
   intro j r t hj hl hr ht
   obtain⟨f,hf,hm⟩:=XO (l:=t.files) (k:=j) (by omega)
   have key2:∃ y,yO (r,t,(j:Int))=Option.some y/\∃ r' t',y=.inl (r',t',((j+1:Nat):Int))/\Rok (k+10*((j+1:Nat):Int)) r'/\smT 11 5 t'/\t'.files.length=t.files.length:=by
    unfold yO
    dsimp only
    rw[zJ,if_pos (decide_eq_true (by omega))]
    refine Dr.step (k:=k+10*j+9) (P:=λ t'=>smT 11 5 t'/\t'.files.length=t.files.length) ?_ λ r4 t4 h4 ht4=>⟨_,by dsimp only;rw[zW (by omega),Option.bind_some],r4,t4,rfl,h4.le (by omega),ht4.1,ht4.2⟩
    refine .bind (k:=k+10*j+8) (P:=smB 3) ?_ λ r3 b h3 hb=>?_
    ·
     refine .bind (xm 3 hr (by omega)) λ r1 v h1 hv=>?_
     have hv3:=hv.2 (by omega)
     exact(plainL1 (k:=k+10*j+1) ht h1 (by omega) (by omega) (by omega) (by omega) ⟨Nat.zero_le _,by show 1<=16;omega⟩).mono (by omega) λ _ h=>h
    ·
     refine .some (x:=atI t.files (j:Int)) (by rw[yg];exact hf) (.pure (h3.le (by omega)) ⟨ht.set ⟨(ht.2 f hm).1,(ht.2 f hm).2.1,hb.le (by omega)⟩,?_⟩)
     show(t.files.set _ _).length=_
     rw[List.length_set]
   obtain⟨y,e,r',t',rfl,e2,e3,e4⟩:=key2
   rw[qj e]
   exact ih (j+1) r' t' (by omega) (by omega) e2 e3
 obtain⟨r',y,e,e2,e3⟩:=key t0.files.length 0 r t0 (by omega) hlen0 (h.le (by omega)) h0
 exact⟨r',y,qa e (by omega),e2,e3⟩
theorem plainOf_ok{k:Int}{r:Reader}(h:Rok k r)(hk:k<=50000):Dr (k+2500) (j9 r) (λ v=>smT 11 5 v.1/\v.2.1.length<=3/\v.2.2.l.length<=64):=by
 unfold j9
 refine .bind (nameOf_ok h (by omega)) λ r1 v h1 hv=>.bind (xm 3 h1 (by omega)) λ r2 p h2 _=>?_
 obtain⟨t,q,s⟩:=v
 refine .ite (λ _=>.pure (h2.le (by omega)) hv) λ _=>?_
 exact .bind (plainL0 hv.1 (by omega) h2) λ r3 t3 h3 ht3=>.pure (h3.le (by omega)) ⟨ht3,hv.2⟩
theorem QQ(c:List UInt8):∃ t path s,wH c=some (t,path,s)/\smT 11 5 t/\path.length<=3/\s.l.length<=64:=by
 obtain⟨r,h1,h2⟩:=newReader_ok c
 obtain⟨r1,⟨t,q,s⟩,e1,k1,p1,p2,p3⟩:=plainOf_ok h2 (by omega)
 refine⟨t,q,s,?_,p1,p2,p3⟩
 unfold wH
 rw[h1,Option.bind_some,e1,Option.bind_some]
open Go.RowKit
theorem lastByte(s:Str)(c:UInt8)(hs:s.l.length<=1000000):(∃ pre post,s.l=pre++c::post/\c ∉ post/\zT s c=some (pre.length:Int))\/(c ∉ s.l/\zT s c=some (-1)):=by
 have key:∀ k,k<=s.l.length->c ∉ s.l.drop k->∃ r,ja (λ s6=>zG s c s6) (k+1) ((k:Int) - 1)=some r/\((∃ pre post,s.l=pre++c::post/\c ∉ post/\r=.inr (pre.length:Int))\/(c ∉ s.l/\r=.inl ())):=by
  intro k
  induction k with
  |
   zero=>
   intro _ hc
   refine⟨.inl (),xz ?_,.inr ⟨by simpa using hc,rfl⟩⟩
   unfold zG
   rw[if_neg (by simp[cmpI])]
  |
   succ k ih=>
   intro hk hc
   have hb:s.l[k]?=some s.l[k]:=List.getElem?_eq_getElem (by omega)
   have hd:s.l.drop k=s.l[k]::s.l.drop (k+1):=List.drop_eq_getElem_cons (by omega)
   have e1:((k+1:Nat):Int) - 1=(k:Int):=by omega
   rw[e1]
   by_cases h:s.l[k]=c
   ·
    refine⟨.inr (k:Int),xz ?_,.inl ⟨s.l.take k,s.l.drop (k+1),?_,hc,by simp;omega⟩⟩
    ·
     unfold zG
     rw[if_pos (by simp[cmpI]),yg,hb,Option.bind_some,if_pos (by simp[cmpB,h])]
    ·
     rw[← h,← hd,List.take_append_drop]
   ·
    have hs1:zG s c (k:Int)=some (.inl ((k:Int) - 1)):=by
     unfold zG
     rw[if_pos (by simp[cmpI]),yg,hb,Option.bind_some,if_neg (by simp[cmpB,h]),wj (by omega) (by omega),Option.bind_some]
    rw[qj hs1]
    exact ih (by omega) (by rw[hd];simp only[List.mem_cons,not_or];exact⟨λ e=>h e.symm,hc⟩)
 obtain⟨r,h1,h2⟩:=key s.l.length (Nat.le_refl _) (by simp)
 have hl:zT s c=Option.bind (some r) (Sum.elim (λ _=>some (-1)) some):=by
  unfold zT yh
  rw[wj (by omega) (by omega),Option.bind_some,qa h1 (by omega)]
  cases r <;> rfl
 rcases h2 with⟨pre,post,e1,e2,rfl⟩ | ⟨e1,rfl⟩
 ·
  exact .inl ⟨pre,post,e1,e2,hl⟩
 ·
  exact .inr ⟨e1,hl⟩
theorem split_last{s:Str}{pre post:List UInt8}(h:s.l=pre++46::post)(hp:(46:UInt8) ∉ post):zr s dot=zr ⟨pre⟩ dot++[⟨post⟩]:=by
 have e:s=⟨((⟨pre⟩:Str).l++[46])++(⟨post⟩:Str).l⟩:=by
  cases s
  simp only at h ⊢
  rw[h]
  simp
 have e2:zr ⟨post⟩ dot=[⟨post⟩]:=by
  rw[wW]
  show(cutF 46 post).map Str.mk=_
  rw[Jr 46 post hp]
  rfl
 rw[e,split_append,e2]
theorem split_none{s:Str}(h:(46:UInt8) ∉ s.l):zr s dot=[s]:=by
 rw[wW]
 show(cutF 46 s.l).map Str.mk=_
 rw[Jr 46 s.l h]
 rfl
theorem parent_of{s:Str}{pre post:List UInt8}(h:s.l=pre++46::post)(hp:(46:UInt8) ∉ post):wX s=⟨pre⟩/\W6 s=⟨post⟩:=by
 unfold wX W6
 rw[split_last h hp]
 constructor
 ·
  rw[List.length_append,List.length_singleton,Nat.add_sub_cancel,List.take_left]
  exact QK ⟨pre⟩
 ·
  simp
theorem XQ{s:Str}(h:(46:UInt8) ∉ s.l):wX s=emptyS/\W6 s=s:=by
 unfold wX W6
 rw[split_none h]
 exact⟨rfl,rfl⟩
theorem J8{s:Str}(hv:zl s=true):xC s=some (wX s):=by
 have hl:=wl hv
 unfold xC
 rcases lastByte s 46 (by omega) with⟨pre,post,e1,e2,e3⟩ | ⟨e1,e3⟩
 ·
  rw[show zT s (UInt8.ofNat 46)=some (pre.length:Int) from e3,Option.bind_some,yV (wm hv),Option.bind_some,hv,if_neg (by simp[cmpI]),JT (by rw[e1,List.length_append];omega),Option.bind_some,(parent_of e1 e2).1,e1,List.take_left]
 ·
  rw[show zT s (UInt8.ofNat 46)=some (-1) from e3,Option.bind_some,yV (wm hv),Option.bind_some,hv,if_pos (by simp[cmpI]),(XQ e1).1]
  rfl
open Go.RowKit
open Go.RowKit
section
variable{α:Type}[DecidableEq α]
def addU(out:List α)(x:α):List α:=if x∈out then out else out++[x]
def xg(out l:List α):List α:=l.foldl addU out
theorem addU_mem{out:List α}{x y:α}:y∈addU out x ↔ y∈out\/y=x:=by
 unfold addU
 split
 ·
  rename_i h
  constructor
  ·
   exact Or.inl
  ·
   rintro (h1 | rfl)
   ·
    exact h1
   ·
    exact h
 ·
  rw[List.mem_append,List.mem_singleton]
theorem jA:∀ {l out:List α} {y:α},y∈xg out l ↔ y∈out\/y∈l
 | [],out,y=>by simp[xg]
 |
  x::l,out,y=>by
  show y∈xg (addU out x) l ↔ _
  rw[jA,addU_mem,List.mem_cons,or_assoc]
theorem addU_nodup{out:List α}{x:α}(h:out.Nodup):(addU out x).Nodup:=by
 unfold addU
 split
 ·
  exact h
 ·
  rename_i hx
  rw[List.nodup_append]
  refine⟨h,by simp,?_⟩
  intro a ha b hb e
  rw[List.mem_singleton] at hb
  subst hb;subst e
  exact hx ha
theorem q6:∀ {l out:List α},out.Nodup->(xg out l).Nodup
 | [],_,h=>h
 | x::l,out,h=>q6 (l:=l) (out:=addU out x) (addU_nodup h)
theorem addU_pre(out:List α)(x:α):∃ t,addU out x=out++t:=by
 unfold addU
 split
 ·
  exact⟨[],by simp⟩
 ·
  exact⟨[x],rfl⟩
theorem WM:∀ (l out:List α),∃ t,xg out l=out++t
 | [],out=>⟨[],by simp[xg]⟩
 |
  x::l,out=>by
  obtain⟨t,ht⟩:=addU_pre out x
  obtain⟨u,hu⟩:=WM l (addU out x)
  exact⟨t++u,by show xg (addU out x) l=_;rw[hu,ht,List.append_assoc]⟩
theorem QR(out l m:List α):xg out (l++m)=xg (xg out l) m:=by
 unfold xg
 rw[List.foldl_append]
theorem J9:∀ (l out:List α),(out++l).Nodup->xg out l=out++l
 | [],out,_=>by simp[xg]
 |
  x::l,out,h=>by
  show xg (addU out x) l=_
  have hx:x ∉ out:=by
   rw[List.nodup_append] at h
   exact λ hx=>h.2.2 x hx x (List.mem_cons_self ..) rfl
  rw[show addU out x=out++[x] from if_neg hx,J9 l (out++[x]) (by simpa using h)]
  simp
theorem QS{l:List α}(h:l.Nodup):xg [] l=l:=by rw[J9 l [] (by simpa using h)];rfl
def uniq(l:List α):List α:=xg [] l
theorem uniq_app{out l:List α}(h:out.Nodup):uniq (out++l)=xg out l:=by
 unfold uniq
 rw[QR,QS h]
theorem uniq_nodup(l:List α):(uniq l).Nodup:=q6 List.Pairwise.nil
theorem uniq_mem{l:List α}{x:α}:x∈uniq l ↔ x∈l:=by unfold uniq;rw[jA];simp
theorem addU_len(out:List α)(x:α):(addU out x).length<=out.length+1:=by
 unfold addU
 split
 ·
  omega
 ·
  simp
theorem WN:∀ (l out:List α),(xg out l).length<=out.length+l.length
 | [],out=>by simp[xg]
 |
  x::l,out=>by
  have h1:=WN l (addU out x)
  have h2:=addU_len out x
  show(xg (addU out x) l).length<=_
  rw[List.length_cons]
  omega
theorem uniq_len(l:List α):(uniq l).length<=l.length:=by
 have:=WN l []
 unfold uniq
 simpa using this
theorem q7:∀ {l m:List α},l.Nodup->(∀ x∈l,x∈m)->l.length<=m.length
 | [],_,_,_=>Nat.zero_le _
 |
  x::l,m,hn,hs=>by
  rw[List.nodup_cons] at hn
  have hx:=hs x (List.mem_cons_self ..)
  have h1:=q7 (l:=l) (m:=m.erase x) hn.2 λ y hy=>(List.mem_erase_of_ne (by intro e;subst e;exact hn.1 hy)).2 (hs y (List.mem_cons_of_mem _ hy))
  have h2:=List.length_erase_of_mem hx
  have h3:=List.length_pos_of_mem hx
  rw[List.length_cons]
  omega
def qb(E:α->List α):Nat->Nat->List α->List α
 | 0,_,out=>out
 |
  m+1,k,out=>match out[k]? with
  | none=>out
  | some x=>qb E m (k+1) (xg out (E x))
inductive Way (E:α->List α) (l:List α):α->Prop
 | here {x}:x∈l->Way E l x
 | step {x y}:Way E l x->y∈E x->Way E l y
omit [DecidableEq α] in
theorem Way.mono{E:α->List α}{l m:List α}(h:∀ x∈l,Way E m x){x:α}(hw:Way E l x):Way E m x:=by
 induction hw with
 | here hx=>exact h _ hx
 | step _ hy ih=>exact .step ih hy
theorem QT{E:α->List α}{from_:List α}:∀ (m k:Nat) (out:List α),(∀ x∈out,Way E from_ x)->∀ x∈qb E m k out,Way E from_ x
 | 0,_,_,h,x,hx=>h x hx
 |
  m+1,k,out,h,x,hx=>by
  unfold qb at hx
  split at hx
  ·
   exact h x hx
  ·
   rename_i y hy
   refine QT m (k+1) _ (λ z hz=>?_) x hx
   rcases jA.1 hz with h1 | h1
   ·
    exact h z h1
   ·
    exact .step (h y (List.mem_of_getElem? hy)) h1
theorem Jw{E:α->List α}:∀ (m k:Nat) (out:List α),out.Nodup->(qb E m k out).Nodup
 | 0,_,_,h=>h
 |
  m+1,k,out,h=>by
  unfold qb
  split
  ·
   exact h
  ·
   exact Jw m (k+1) _ (q6 h)
theorem WO{E:α->List α}{U:List α}(hE:∀ x∈U,∀ y∈E x,y∈U):∀ (m k:Nat) (out:List α),(∀ x∈out,x∈U)->∀ x∈qb E m k out,x∈U
 | 0,_,_,h,x,hx=>h x hx
 |
  m+1,k,out,h,x,hx=>by
  unfold qb at hx
  split at hx
  ·
   exact h x hx
  ·
   rename_i y hy
   refine WO hE m (k+1) _ (λ z hz=>?_) x hx
   rcases jA.1 hz with h1 | h1
   ·
    exact h z h1
   ·
    exact hE y (h y (List.mem_of_getElem? hy)) z h1
theorem Wm{E:α->List α}{U:List α}(hE:∀ x∈U,∀ y∈E x,y∈U):∀ (m k:Nat) (out:List α),out.Nodup->(∀ x∈out,x∈U)->U.length<=m+k->(∀ j x,j<k->out[j]?=some x->∀ y∈E x,y∈out)->∀ x∈qb E m k out,∀ y∈E x,y∈qb E m k out
 |
  0,k,out,hn,hs,hm,hc,x,hx,y,hy=>by
  have hl:=q7 hn hs
  obtain⟨j,hj,e⟩:=List.getElem_of_mem (show x∈out from hx)
  exact hc j x (by omega) (by rw[List.getElem?_eq_getElem hj,e]) y hy
 |
  m+1,k,out,hn,hs,hm,hc,x,hx,y,hy=>by
  have hl:=q7 hn hs
  unfold qb at hx ⊢
  split at hx
  ·
   rename_i hk
   rw[List.getElem?_eq_none_iff] at hk
   obtain⟨j,hj,e⟩:=List.getElem_of_mem hx
   exact hc j x (by omega) (by rw[List.getElem?_eq_getElem hj,e]) y hy
  ·
   rename_i z hz
   refine Wm hE m (k+1) _ (q6 hn) (λ w hw=>?_) (by omega) (λ j w hj hw v hv=>?_) x hx y hy
   ·
    rcases jA.1 hw with h1 | h1
    ·
     exact hs w h1
    ·
     exact hE z (hs z (List.mem_of_getElem? hz)) w h1
   ·
    obtain⟨t,ht⟩:=WM (E z) out
    have hkl:k<out.length:=(List.getElem?_eq_some_iff.1 hz).1
    rw[ht,List.getElem?_append_left (by omega)] at hw
    rcases Nat.lt_succ_iff_lt_or_eq.1 hj with h1 | h1
    ·
     exact jA.2 (.inl (hc j w h1 hw v hv))
    ·
     subst h1
     rw[hz] at hw
     cases hw
     exact jA.2 (.inr hv)
theorem QU{E:α->List α}:∀ (m k:Nat) (out:List α),∀ x∈out,x∈qb E m k out
 | 0,_,_,_,hx=>hx
 |
  m+1,k,out,x,hx=>by
  unfold qb
  split
  ·
   exact hx
  ·
   exact QU m (k+1) _ x (jA.2 (.inl hx))
theorem reachR_iff{E:α->List α}{U:List α}(hE:∀ x∈U,∀ y∈E x,y∈U){m:Nat}{out:List α}(hn:out.Nodup)(hs:∀ x∈out,x∈U)(hm:U.length<=m){x:α}:x∈qb E m 0 out ↔ Way E out x:=by
 constructor
 ·
  exact λ h=>QT m 0 out (λ y hy=>.here hy) x h
 ·
  intro h
  induction h with
  | here hx=>exact QU m 0 out _ hx
  | step _ hy ih=>exact Wm hE m 0 out hn hs (by omega) (λ j _ hj=>absurd hj (by omega)) _ ih _ hy
end
theorem loop_grow{α β S:Type}[DecidableEq α]{step:S->Option (S⊕β)}(mk:List α->Nat->S)(E:α->List α)(U:List α)(hE:∀ x∈U,∀ y∈E x,y∈U)(fin:List α->β)
  (h:∀ k out x,out[k]?=some x->out.Nodup->(∀ y∈out,y∈U)->step (mk out k)=some (.inl (mk (xg out (E x)) (k+1))))
  (hend:∀ out,out.Nodup->(∀ y∈out,y∈U)->step (mk out out.length)=some (.inr (fin out)))
  {out:List α} (hn:out.Nodup) (hs:∀ y∈out,y∈U) (hU:U.length<576460752303423488) {s:S} (h0:s=mk out 0):zL step s=some (fin (qb E U.length 0 out)):=by
 subst h0
 have key:∀ m k out,out.Nodup->(∀ y∈out,y∈U)->U.length<=m+k->k<=out.length->ja step (m+1) (mk out k)=some (fin (qb E m k out)):=by
  intro m
  induction m with
  |
   zero=>
   intro k out hn hs hm hk
   have hl:=q7 hn hs
   have:k=out.length:=by omega
   subst this
   exact xz (hend out hn hs)
  |
   succ m ih=>
   intro k out hn hs hm hk
   unfold qb
   cases hx:out[k]? with
   |
    none=>
    rw[List.getElem?_eq_none_iff] at hx
    have:k=out.length:=by omega
    subst this
    exact xz (hend out hn hs)
   |
    some x=>
    have hkl:k<out.length:=(List.getElem?_eq_some_iff.1 hx).1
    rw[qj (h k out x hx hn hs)]
    refine ih (k+1) _ (q6 hn) (λ w hw=>?_) (by omega) ?_
    ·
     rcases jA.1 hw with h1 | h1
     ·
      exact hs w h1
     ·
      exact hE x (hs x (List.mem_of_getElem? hx)) w h1
    ·
     obtain⟨t,ht⟩:=WM (E x) out
     rw[ht,List.length_append]
     omega
 exact qa (key U.length 0 out hn hs (by omega) (Nat.zero_le _)) (by omega)
open Go.RowKit
def upN:Nat->Str->Str
 | 0,p=>p
 | n+1,p=>upN n (wX p)
def YS(p:Str)(lv:Int)(m:Str):Str:=if cmpI .eql lv 0=true then m else if upN (lv - 1).toNat p=emptyS then emptyS else if m=emptyS then upN (lv - 1).toNat p else child (upN (lv - 1).toNat p) m
def qn(p:Str)(s:Stmt):Str:=if(cmpI .eql s.kind 0||cmpI .eql s.kind 2)=true then s.module else if cmpI .eql s.kind 1=true then YS p s.level s.module else emptyS
def xb(p:Str)(b:List Stmt):List Str:=(b.map (qn p)).filter zl
def ZF(n:Str)(s:Spec):Str:=if cmpI .eql s.kind 1=true then wX n else n
def fileOf(t:List File)(k:Int):File:=(t[k.toNat]?).getD default
def WP(t:List File)(n:Str)(s:Spec):List Str:=if cmpI .lss s.file 0=true then[] else uniq (xb (ZF n s) (fileOf t s.file).body)
def qk(t:List File)(path:List Int)(n:Str):List Str:=WP t n (find t path n)
def yP(t:List File)(path:List Int)(n:Str):List Str:=uniq ((qk t path n).flatMap xX)
def X6(f:File):List Str:=(xb f.pkg f.body).flatMap xX
def xR(t:List File)(s:Str):List Str:=xX s++t.flatMap X6
theorem QV{α:Type}{p:α->Bool}{l:List α}(h:cmpI .lss (jU p l) 0=false):∃ x,l[(jU p l).toNat]?=some x/\p x=true:=by
 unfold jU at h ⊢
 cases e:l.findIdx? p with
 | none=>rw[e] at h;exact absurd h (by decide)
 |
  some i=>
  rw[List.findIdx?_eq_some_iff_getElem] at e
  obtain⟨hi,h1,_⟩:=e
  exact⟨l[i],by simp only[Int.toNat_natCast];exact List.getElem?_eq_getElem hi,h1⟩
theorem Wn{t:List File}{p s:Str}:∀ (rs acc:List Int),cmpI .lss (yy t p s acc rs).file 0=false->∃ f,t[(yy t p s acc rs).file.toNat]?=some f/\(((yy t p s acc rs).kind=2/\f.init=true/\f.pkg=child p s)\/((yy t p s acc rs).kind=1/\f.init=false/\f.pkg=p/\f.name=s))
 |
  [],acc,h=>by
  unfold yy at h
  split at h
  ·
   exact absurd (show cmpI .lss (-1:Int) 0=false from h) (by decide)
  ·
   exact absurd (show cmpI .lss (-1:Int) 0=false from h) (by decide)
 |
  r::rs,acc,h=>by
  unfold yy at h ⊢
  split at h
  ·
   rename_i hc
   rw[if_pos hc]
   obtain⟨f,h1,h2⟩:=QV h
   refine⟨f,h1,.inl ⟨rfl,?_⟩⟩
   unfold yT at h2
   simp only[Bool.and_eq_true,beq_iff_eq,decide_eq_true_eq] at h2
   exact⟨h2.1.2,h2.1.1.2⟩
  ·
   rename_i hc
   rw[if_neg hc]
   split at h
   ·
    rename_i hc2
    rw[if_pos hc2]
    obtain⟨f,h1,h2⟩:=QV h
    refine⟨f,h1,.inr ⟨rfl,?_⟩⟩
    unfold yT at h2
    simp only[Bool.and_eq_true,beq_iff_eq,decide_eq_true_eq] at h2
    exact⟨h2.1.2,h2.1.1.2,h2.2⟩
   ·
    rename_i hc2
    rw[if_neg hc2]
    exact Wn rs _ h
theorem parent_child{p s:Str}(hs:zN s=true):wX (child p s)=p:=by
 unfold child
 split
 ·
  rename_i h
  rw[(XQ (YF hs)).1,h]
 ·
  have h:(⟨(p.l++[46])++s.l⟩:Str).l=p.l++46::s.l:=by simp
  rw[(parent_of h (YF hs)).1]
theorem Xd{t:Tree}(hv:zM t=true){path:List Int}{n:Str}(hn:zl n=true)(h:cmpI .lss (find t.files path n).file 0=false):∃ f,t.files[(find t.files path n).file.toNat]?=some f/\f∈t.files/\yX f=n/\ZF n (find t.files path n)=f.pkg:=by
 rcases find_last (t:=t.files) (path:=path) hn with e | ⟨r,p,s,e,hc⟩
 ·
  rw[e] at h;exact absurd h (by decide)
 ·
  rw[e] at h ⊢
  obtain⟨f,h1,h2⟩:=Wn _ _ h
  have hm:=List.mem_of_getElem? h1
  refine⟨f,h1,hm,?_⟩
  unfold yX ZF jV
  rcases h2 with⟨h3,h4,h5⟩ | ⟨h3,h4,h5,h6⟩
  ·
   rw[h3,h4,h5,hc];exact⟨rfl,rfl⟩
  ·
   have hf:=Yi hv hm
   have hp:zN f.name=true:=by
    unfold y7 at hf
    split at hf
    ·
     cases hf
    ·
     rw[h4,if_neg (by decide),Bool.and_eq_true] at hf
     exact hf.1
   have hpn:wX n=p:=by rw[← hc];exact parent_child (by rw[← h6];exact hp)
   rw[h3,h4,h5,h6,if_neg (by decide),hc]
   exact⟨rfl,hpn⟩
theorem q8{t:Tree}(hv:zM t=true){f:File}(hf:f∈t.files):xo f.body=true:=by
 have h:=Yi hv hf
 unfold y7 at h
 cases hb:xo f.body with
 | true=>rfl
 | false=>rw[hb,if_pos (by simp)] at h;cases h
theorem Yw{t:List File}{k:Int}{f:File}(h:t[k.toNat]?=some f):fileOf t k=f:=by unfold fileOf;rw[h];rfl
theorem ZO{p:Str}{b:List Stmt}{x:Str}(h:x∈xb p b):zl x=true:=(List.mem_filter.1 h).2
theorem Zs(p:Str)(b:List Stmt):(xb p b).length<=b.length:=by
 unfold xb
 refine Nat.le_trans (List.length_filter_le _ _) ?_
 rw[List.length_map];omega
theorem Zt{t:List File}{path:List Int}{n x:Str}(h:x∈qk t path n):zl x=true:=by
 unfold qk WP at h
 split at h
 ·
  cases h
 ·
  exact ZO (uniq_mem.1 h)
theorem Zk{s:Str}(h:zl s=true):(xX s).length<=3:=by
 have:=(wg h).2
 rw[above_len];omega
theorem Yj(l:List Str)(h:∀ x∈l,zl x=true):(l.flatMap xX).length<=3*l.length:=by
 induction l with
 | nil=>simp
 |
  cons x l ih=>
  have h1:=Zk (h x (List.mem_cons_self ..))
  have h2:=ih λ y hy=>h y (List.mem_cons_of_mem _ hy)
  rw[List.flatMap_cons,List.length_append,List.length_cons]
  omega
theorem JU{l:List Str}(h:∀ x∈l,zl x=true){y:Str}(hy:y∈l.flatMap xX):zl y=true:=by
 obtain⟨x,hx,hxy⟩:=List.mem_flatMap.1 hy
 exact J6 (h x hx) hxy
theorem XR{t:Tree}(hv:zM t=true){path:List Int}{n:Str}(hn:zl n=true):(qk t.files path n).length<=8:=by
 unfold qk WP
 cases hf:cmpI .lss (find t.files path n).file 0 with
 | true=>rw[if_pos rfl];exact Nat.zero_le _
 |
  false=>
  obtain⟨f,h1,h2,_,_⟩:=Xd hv hn hf
  have hb:=q8 hv h2
  unfold xo at hb
  have hl:f.body.length<=8:=by
   rw[Bool.and_eq_true] at hb
   have:=hb.2
   unfold cmpI at this
   simp only[decide_eq_true_eq] at this
   omega
  rw[if_neg (by decide),Yw h1]
  exact Nat.le_trans (uniq_len _) (Nat.le_trans (Zs _ _) hl)
theorem XS{t:Tree}(hv:zM t=true){path:List Int}{n:Str}(hn:zl n=true):(yP t.files path n).length<=24:=by
 have h1:=XR hv (path:=path) hn
 have h2:=Yj (qk t.files path n) λ _ hy=>Zt hy
 exact Nat.le_trans (uniq_len _) (by omega)
theorem qC{t:List File}{s x:Str}(hs:zl s=true)(h:x∈xR t s):zl x=true:=by
 unfold xR at h
 rcases List.mem_append.1 h with h | h
 ·
  exact J6 hs h
 ·
  obtain⟨f,_,hx⟩:=List.mem_flatMap.1 h
  exact JU (λ _ hy=>ZO hy) hx
theorem qD{t:Tree}(hv:zM t=true){path:List Int}{s n x:Str}(hn:zl n=true)(h:x∈yP t.files path n):x∈xR t.files s:=by
 unfold xR
 refine List.mem_append.2 (.inr ?_)
 have h0:=uniq_mem.1 h
 obtain⟨y,hy,hxy⟩:=List.mem_flatMap.1 h0
 unfold qk WP at hy
 cases hf:cmpI .lss (find t.files path n).file 0 with
 | true=>rw[hf,if_pos rfl] at hy;cases hy
 |
  false=>
  obtain⟨f,h1,h2,_,h4⟩:=Xd hv hn hf
  rw[hf,if_neg (by decide),Yw h1,h4] at hy
  exact List.mem_flatMap.2 ⟨f,h2,List.mem_flatMap.2 ⟨y,uniq_mem.1 hy,hxy⟩⟩
theorem fileLeads_len{f:File}(h:f.body.length<=8):(X6 f).length<=24:=by
 have h1:=Yj (xb f.pkg f.body) λ _ hy=>ZO hy
 have h2:=Zs f.pkg f.body
 unfold X6
 omega
theorem Zu{b:List Stmt}(h:xo b=true):b.length<=8:=by
 unfold xo at h
 rw[Bool.and_eq_true] at h
 have:=h.2
 unfold cmpI at this
 simp only[decide_eq_true_eq] at this
 omega
theorem XT{t:Tree}(hv:zM t=true){s:Str}(hs:zl s=true):(xR t.files s).length<=300:=by
 have key:∀ (l:List File),(∀ f∈l,f∈t.files)->(l.flatMap X6).length<=24*l.length:=by
  intro l
  induction l with
  | nil=>intro _;simp
  |
   cons f l ih=>
   intro hl
   have h1:=fileLeads_len (Zu (q8 hv (hl f (List.mem_cons_self ..))))
   have h2:=ih λ g hg=>hl g (List.mem_cons_of_mem _ hg)
   rw[List.flatMap_cons,List.length_append,List.length_cons]
   omega
 have h1:=key t.files λ _ h=>h
 have h2:=validTree_len hv
 have h3:=Zk hs
 unfold xR
 rw[List.length_append]
 omega
theorem ZG{s:Str}(h:zl s=true):(xX s).Nodup:=by
 have hparts:=(wg h).1
 unfold xX qr
 refine List.pairwise_map.2 (List.Pairwise.imp_of_mem (λ{a b} ha hb hne e=>hne ?_) List.nodup_range)
 rw[List.mem_range] at ha hb
 have h1:=Xa (l:=(zr s dot).take (a+1)) (by intro e0;have:=congrArg List.length e0;rw[List.length_take,List.length_nil] at this;omega) λ x hx=>hparts x (List.mem_of_mem_take hx)
 have h2:=Xa (l:=(zr s dot).take (b+1)) (by intro e0;have:=congrArg List.length e0;rw[List.length_take,List.length_nil] at this;omega) λ x hx=>hparts x (List.mem_of_mem_take hx)
 rw[e,h2] at h1
 have:=congrArg List.length h1
 rw[List.length_take,List.length_take] at this
 omega
def qI(t:List File)(path:List Int)(s:Str)(l:List Str):List Str:=qb (yP t path) (xR t s).length 0 l
theorem XU{t:Tree}(hv:zM t=true){path:List Int}{s:Str}(hs:zl s=true){l:List Str}(hn:l.Nodup)(hl:∀ x∈l,x∈xR t.files s):(qI t.files path s l).length<=300:=
 Nat.le_trans (q7 (Jw _ _ _ hn) (WO (λ _x hx _y hy=>qD hv (qC hs hx) hy) _ _ _ hl)) (XT hv hs)
open Go.RowKit
def okG(t:Tree)(path:List Int)(s:Str):Bool:=zM t&&xp path&&zl s
theorem jK{t:Tree}{path:List Int}{s:Str}(h:okG t path s=true):zM t=true/\xp path=true/\zl s=true:=by
 unfold okG at h
 simp only[Bool.and_eq_true] at h
 exact⟨h.1.1,h.1.2,h.2⟩
section
variable{t:Tree}{path:List Int}{s:Str}
theorem Z0(hv:zM t=true)(hs:zl s=true):∀ x∈xR t.files s,∀ y∈yP t.files path x,y∈xR t.files s:=
 λ _ hx _ hy=>qD hv (qC hs hx) hy
theorem qP{l:List File}{x:Str}(h:x∈xX s):x∈xR l s:=List.mem_append.2 (.inl h)
theorem XV(hv:zM t=true)(hs:zl s=true){l:List Str}(hn:l.Nodup)(hl:∀ x∈l,x∈xR t.files s){x:Str}:x∈qI t.files path s l ↔ Way (yP t.files path) l x:=
 reachR_iff (Z0 hv hs) hn hl (Nat.le_refl _)
theorem reachOf_world(hv:zM t=true)(hs:zl s=true){l:List Str}(hl:∀ x∈l,x∈xR t.files s){x:Str}(h:x∈qI t.files path s l):x∈xR t.files s:=
 WO (Z0 hv hs) _ _ _ hl x h
theorem reachOf_valid(hv:zM t=true)(hs:zl s=true){l:List Str}(hl:∀ x∈l,x∈xR t.files s){x:Str}(h:x∈qI t.files path s l):zl x=true:=
 qC hs (reachOf_world hv hs hl h)
end
def Xe(t:Tree)(path:List Int)(s:Str):List Str:=qI t.files path s (xX s)
def YG(t:Tree)(path:List Int)(s n:Str):Bool:=decide (n∈qI t.files path s (yP t.files path n))
def jB(t:Tree)(path:List Int)(s:Str):List Str:=if okG t path s=true then Yv (Xe t path s) else[]
def xn(t:Tree)(path:List Int)(s:Str):List Str:=(jB t path s).filter (YG t path s)
section
variable{t:Tree}{path:List Int}{s:Str}
theorem WQ(hv:zM t=true)(hs:zl s=true):(Xe t path s).length<=300:=XU hv hs (ZG hs) λ _ h=>qP h
theorem Jx(hv:zM t=true)(hs:zl s=true){x:Str}(h:x∈Xe t path s):zl x=true:=reachOf_valid hv hs (λ _ h=>qP h) h
theorem QW(h:okG t path s=true){x:Str}:x∈jB t path s ↔ x∈Xe t path s:=by
 unfold jB
 rw[if_pos h,(Xb _).2]
theorem QX:Asc (jB t path s):=by
 unfold jB
 split
 ·
  exact(Xb _).1
 ·
  exact List.Pairwise.nil
theorem WR:(jB t path s).length<=300:=by
 unfold jB
 split
 ·
  rename_i h
  obtain⟨h1,_,h2⟩:=jK h
  exact Nat.le_trans (J4 _) (WQ h1 h2)
 ·
  exact Nat.zero_le _
theorem ql{x:Str}(h:x∈jB t path s):zl x=true/\okG t path s=true:=by
 unfold jB at h
 split at h
 ·
  rename_i h0
  obtain⟨h1,_,h2⟩:=jK h0
  exact⟨Jx h1 h2 (((Xb _).2 x).1 h),h0⟩
 ·
  cases h
theorem gather_eq(h:okG t path s=true)(p:Str->Bool):((Xe t path s).filter p).foldl xd []=(jB t path s).filter p:=by
 refine asc_ext (insertAll_asc List.Pairwise.nil) (QO _ QX) λ x=>?_
 rw[insertAll_iff,List.mem_filter,List.mem_filter,QW h]
 simp
end
open Go.RowKit
open Go.RowKit
theorem any_mem{l:List Str}{x:Str}:l.any (λ y=>decide (y=x))=decide (x∈l):=by
 rw[Bool.eq_iff_iff,List.any_eq_true]
 simp
theorem any_mem'{l:List Str}{x:Str}:l.any (λ y=>decide (x=y))=decide (x∈l):=by
 rw[Bool.eq_iff_iff,List.any_eq_true]
 simp
theorem ZP{l:List Str}{x:Str}(h:l.length<=1048576):xT l x=some (decide (x∈l)):=by
 unfold xT Zo
 have hl:zL (λ s4=>xH l x s4) 0=some (match l.findIdx? (λ y=>decide (y=x)) with | some i=>(Sum.inr (i:Int):Unit⊕Int) | none=>Sum.inl ()):=by
  refine XK l (λ y=>decide (y=x)) (λ i=>Sum.inr i) _ (λ k y hx hlt=>?_) ?_ (by omega) rfl
  ·
   unfold xH
   rw[zJ,if_pos (decide_eq_true hlt),yg,hx,Option.bind_some,zW (by omega)]
   cases decide (y=x) <;> rfl
  ·
   unfold xH
   rw[zJ,if_neg (by simp)]
 have e:Option.bind (α:=Unit⊕Int) (zL (λ s4=>xH l x s4) 0) (Sum.elim (λ _=>some (-1)) some)=some (jU (λ y=>decide (y=x)) l):=by
  rw[hl]
  unfold jU
  cases l.findIdx? (λ y=>decide (y=x)) <;> rfl
 rw[e,Option.bind_some,Yh,any_mem]
theorem Jy{l:List Str}{x:Str}(h:l.length<=1048576):yb l x=some (decide (x∈l)):=by
 unfold yb yU
 have hl:zL (λ s4=>zS l x s4) 0=some (match l.findIdx? (λ y=>decide (x=y)) with | some i=>(Sum.inr (i:Int):Unit⊕Int) | none=>Sum.inl ()):=by
  refine XK l (λ y=>decide (x=y)) (λ i=>Sum.inr i) _ (λ k y hx hlt=>?_) ?_ (by omega) rfl
  ·
   unfold zS
   rw[zJ,if_pos (decide_eq_true hlt),yg,hx,Option.bind_some,zW (by omega)]
   cases decide (x=y) <;> rfl
  ·
   unfold zS
   rw[zJ,if_neg (by simp)]
 have e:Option.bind (α:=Unit⊕Int) (zL (λ s4=>zS l x s4) 0) (Sum.elim (λ _=>some (-1)) some)=some (jU (λ y=>decide (x=y)) l):=by
  rw[hl]
  unfold jU
  cases l.findIdx? (λ y=>decide (x=y)) <;> rfl
 rw[e,Option.bind_some,Yh,any_mem']
theorem Z3{β γ:Type}{step:List Str×Int->Option ((List Str×Int)⊕β)}(l:List γ)(g:List Str->γ->List Str)(fin:List Str->β)(c B:Nat)
  (hlen:∀ out x,x∈l->(g out x).length<=out.length+c)
  (h:∀ k out x,l[k]?=some x->x∈l->k<l.length->out.length<=B->step (out,(k:Int))=some (.inl (g out x,((k+1:Nat):Int))))
  (hend:∀ out,step (out,(l.length:Int))=some (.inr (fin out))) {out:List Str} (hb:out.length+c*l.length<=B) (hl:l.length<=1048576):zL step (out,(0:Int))=some (fin (l.foldl g out)):=by
 have:=loop_fold (step:=step) l (λ(s:List Str) k=>(s,(k:Int))) g fin (λ k s=>k<=l.length/\s.length<=out.length+c*k) (λ k s x hx hk hI=>?_) (λ s _=>hend s) (s0:=out) ⟨Nat.zero_le _,by omega⟩ (by omega)
 ·
  exact this
 ·
  have hm:=List.mem_of_getElem? hx
  have h1:c*k<=c*l.length:=Nat.mul_le_mul_left c (by omega)
  have h2:=hlen s x hm
  refine⟨h k s x hx hm hk (by omega),by omega,?_⟩
  rw[Nat.mul_succ]
  omega
theorem fold_add{γ:Type}(f:γ->List Str):∀ (l:List γ) (out:List Str),l.foldl (λ o x=>xg o (f x)) out=xg out (l.flatMap f)
 | [],_=>rfl
 |
  x::l,out=>by
  rw[List.foldl_cons,List.flatMap_cons,QR]
  exact fold_add f l _
theorem fold_app{γ:Type}(f:γ->List Str):∀ (l:List γ) (out:List Str),l.foldl (λ o x=>o++f x) out=out++l.flatMap f
 | [],_=>by simp
 |
  x::l,out=>by
  rw[List.foldl_cons,List.flatMap_cons,fold_app f l]
  simp
theorem Jz{γ:Type}(p:γ->Bool)(f:List Str->γ->List Str):∀ (l:List γ) (out:List Str),l.foldl (λ o x=>if p x=true then f o x else o) out=(l.filter p).foldl f out
 | [],_=>rfl
 |
  x::l,out=>by
  rw[List.foldl_cons,List.filter_cons]
  cases h:p x with
  | true=>rw[if_pos rfl,if_pos rfl,List.foldl_cons];exact Jz p f l _
  | false=>rw[if_neg (by decide),if_neg (by decide)];exact Jz p f l _
theorem add_loop{step:List Str×Int->Option ((List Str×Int)⊕List Str)}(l:List Str)
  (h:∀ k out x,l[k]?=some x->x∈l->k<l.length->out.length<=1000->step (out,(k:Int))=some (.inl (addU out x,((k+1:Nat):Int))))
  (hend:∀ out,step (out,(l.length:Int))=some (.inr out)) {out:List Str} (hb:out.length+l.length<=1000):zL step (out,(0:Int))=some (xg out l):=
 Z3 l addU (λ o=>o) 1 1000 (λ out x _=>addU_len out x) h hend (by omega) (by omega)
theorem Wo{s:Str}(h:zl s=true):qY s=some (xX s):=if_pos (wm h).mid
theorem JA{p:Str}(h:zu p=true):mid p:=by have:=yv h;unfold mid;omega
theorem Xf:wX emptyS=emptyS:=by
 have:(46:UInt8) ∉ emptyS.l:=by decide
 exact(XQ this).1
theorem Xg{p:Str}(h:zu p=true):zu (wX p)=true:=by
 unfold zu at h
 rw[Bool.or_eq_true,decide_eq_true_eq] at h
 rcases h with h | h
 ·
  rw[h,Xf];rfl
 ·
  exact pre_valid h _
theorem JV:∀ n,upN n emptyS=emptyS
 | 0=>rfl
 |
  n+1=>by
  unfold upN
  rw[Xf]
  exact JV n
theorem upN_pkg:∀ n {p:Str},zu p=true->zu (upN n p)=true
 | 0,_,h=>h
 | n+1,_,h=>upN_pkg n (Xg h)
theorem spec_base_eq{p:Str}(hp:zu p=true){n:Nat}(hn:n<=10):ZC p ((n:Int)+1)=some (upN n p,decide (upN n p≠(⟨[]⟩:Str))):=by
 have key:∀ (k i:Nat) (q:Str),zu q=true->i+k=n->∃ r,ja (λ s4=>xU ((n:Int)+1) s4) (k+1) (q,((i+1:Nat):Int))=some r/\(r=.inl (upN k q)\/(r=.inr ((⟨[]⟩:Str),false)/\upN k q=emptyS)):=by
  intro k
  induction k with
  |
   zero=>
   intro i q hq hi
   refine⟨.inl q,xz ?_,.inl rfl⟩
   unfold xU
   simp only
   rw[show((n:Int)+1)=((n+1:Nat):Int) by omega,zJ,if_neg (by simp;omega)]
  |
   succ k ih=>
   intro i q hq hi
   have hlt:cmpI .lss ((i+1:Nat):Int) ((n:Int)+1)=true:=by unfold cmpI;exact decide_eq_true (by omega)
   by_cases he:q=(⟨[]⟩:Str)
   ·
    refine⟨.inr ((⟨[]⟩:Str),false),xz ?_,.inr ⟨rfl,?_⟩⟩
    ·
     unfold xU
     simp only
     rw[if_pos hlt,if_pos (decide_eq_true he)]
    ·
     rw[he];exact JV _
   ·
    have hs:xU ((n:Int)+1) (q,((i+1:Nat):Int))=some (.inl (wX q,((i+1+1:Nat):Int))):=by
     unfold xU
     simp only
     rw[if_pos hlt,if_neg (by simpa using he),show xP q=some (wX q) from if_pos (JA hq),Option.bind_some,zW (by omega)]
     rfl
    obtain⟨r,h1,h2⟩:=ih (i+1) (wX q) (Xg hq) (by omega)
    exact⟨r,by rw[qj hs];exact h1,h2⟩
 obtain⟨r,h1,h2⟩:=key n 0 p hp (by omega)
 unfold ZC
 rw[show(1:Int)=((0+1:Nat):Int) from rfl,qa (by simpa using h1) (by omega)]
 rcases h2 with rfl | ⟨rfl,h3⟩
 ·
  rfl
 ·
  rw[h3];rfl
theorem XW{p m:Str}{lv:Int}:YS p lv m=if lv=0 then m else if upN (lv - 1).toNat p=emptyS then emptyS else if m=emptyS then upN (lv - 1).toNat p else child (upN (lv - 1).toNat p) m:=by
 unfold YS
 by_cases h:lv=0
 ·
  rw[if_pos h,if_pos (by simp[cmpI,h])]
 ·
  rw[if_neg h,if_neg (by simp[cmpI,h])]
theorem Qk{p m:Str}{lv:Int}(hp:zu p=true)(h0:0<=lv)(h1:lv<=4)(hm:sho m):jp p lv m=some (YS p lv m):=by
 rw[XW]
 unfold jp
 by_cases h:lv=0
 ·
  rw[if_pos h,if_pos (by simp[cmpI,h])]
 ·
  rw[if_neg h,if_neg (by simp[cmpI,h])]
  obtain⟨n,hn⟩:∃ n:Nat,lv=(n:Int)+1:=⟨(lv - 1).toNat,by omega⟩
  have hu:=upN_pkg n hp
  rw[show(lv - 1).toNat=n by omega,hn,spec_base_eq hp (by omega),Option.bind_some]
  by_cases he:upN n p=emptyS
  ·
   rw[if_pos he]
   simp only[he]
   rfl
  ·
   rw[if_neg he]
   have he':decide (upN n p≠(⟨[]⟩:Str))=true:=decide_eq_true he
   simp only[he']
   rw[if_neg (by decide)]
   by_cases hm0:m=emptyS
   ·
    rw[if_pos hm0,if_pos (decide_eq_true (show m=(⟨[]⟩:Str) from hm0))]
   ·
    have hlu:=yv hu
    unfold sho at hm
    rw[if_neg hm0,if_neg (by simpa using(show ¬ m=(⟨[]⟩:Str) from hm0)),show ZW (upN n p) m=some (child (upN n p) m) from if_pos (by omega),Option.bind_some]
theorem ZQ{st:Stmt}(h:yC st=true):((st.kind=0\/st.kind=2)/\zl st.module=true)\/(st.kind=1/\zu st.module=true/\0<=st.level/\st.level<=3)\/(st.kind≠0/\st.kind≠1/\st.kind≠2):=by
 unfold yC at h
 by_cases h0:st.kind=0
 ·
  rw[if_pos (by simp[cmpI,h0])] at h
  simp only[Bool.and_eq_true] at h
  exact .inl ⟨.inl h0,h.1.1.1⟩
 ·
  rw[if_neg (by simp[cmpI,h0])] at h
  by_cases h1:st.kind=1
  ·
   rw[if_pos (by simp[cmpI,h1])] at h
   simp only[Bool.and_eq_true,inR] at h
   have h2:=h.1.1.1.2
   simp[cmpI] at h2
   exact .inr (.inl ⟨h1,h.1.1.1.1,by omega,by omega⟩)
  ·
   rw[if_neg (by simp[cmpI,h1])] at h
   by_cases h2:st.kind=2
   ·
    rw[if_pos (by simp[cmpI,h2])] at h
    simp only[Bool.and_eq_true] at h
    exact .inl ⟨.inr h2,h.1.1.1⟩
   ·
    exact .inr (.inr ⟨h0,h1,h2⟩)
theorem child_len(p s:Str):(child p s).l.length<=p.l.length+s.l.length+1:=by
 unfold child
 split
 ·
  omega
 ·
  simp only[List.length_append,List.length_singleton];omega
theorem stName_sho{p:Str}{st:Stmt}(hp:zu p=true)(h:yC st=true):sho (qn p st):=by
 unfold qn sho
 rcases ZQ h with⟨h1,h2⟩ | ⟨h1,h2,h3,h4⟩ | ⟨h1,h2,h3⟩
 ·
  have:=wl h2
  rw[if_pos (by rcases h1 with h1 | h1 <;> simp[cmpI,h1])]
  omega
 ·
  rw[if_neg (by simp[cmpI,h1]),if_pos (by simp[cmpI,h1]),XW]
  have h5:=yv h2
  have h6:=yv (upN_pkg (st.level - 1).toNat hp)
  have h7:=child_len (upN (st.level - 1).toNat p) st.module
  split
  ·
   omega
  ·
   split
   ·
    exact Nat.zero_le _
   ·
    split <;> omega
 ·
  rw[if_neg (by simp[cmpI,h1,h3]),if_neg (by simp[cmpI,h2])]
  exact Nat.zero_le _
section
variable{t:Tree}{path:List Int}
theorem atI_some{α:Type}{l:List α}{k:Int}{x:α}(h0:cmpI .lss k 0=false)(h:l[k.toNat]?=some x):atI l k=some x:=by
 have hk:0<=k:=by
  have:=of_decide_eq_false h0
  omega
 unfold atI
 rw[if_pos hk]
 exact h
theorem Qa{n:Str}(hn:zl n=true)(s:Spec):zu (ZF n s)=true:=by
 have h:zu n=true:=by unfold zu;rw[hn,Bool.or_true]
 unfold ZF
 split
 ·
  exact Xg h
 ·
  exact h
end
open Go.RowKit
theorem full_s1(l out:List Str)(hb:out.length+l.length<=1000):zL (λ s=>jq l s) (out,(0:Int))=some (xg out l):=by
 refine add_loop l (λ k out x hx _ hk ho=>?_) (λ out=>?_) hb
 ·
  unfold jq addU
  simp only
  rw[zJ,if_pos (decide_eq_true hk),yg,hx,Option.bind_some,ZP (by omega),Option.bind_some,zW (by omega)]
  by_cases hm:x∈out
  ·
   rw[decide_eq_true hm,if_neg (by decide),if_pos hm];rfl
  ·
   rw[decide_eq_false hm,if_pos (by decide),Option.bind_some,jf (by simp;omega) (by simp;omega),if_neg hm];rfl
 ·
  unfold jq
  simp only
  rw[zJ,if_neg (by simp)]
theorem reach_s1(l out:List Str)(hb:out.length+l.length<=1000):zL (λ s=>qG l s) (out,(0:Int))=some (xg out l):=by
 rw[← full_s1 l out hb]
 rfl
theorem spec_full_eq{l:List Str}(hv:∀ x∈l,zl x=true)(hl:l.length<=100):ZD l=some (uniq (l.flatMap xX)):=by
 unfold ZD
 have h:zL (λ s=>jr l s) (([]:List Str),(0:Int))=some (uniq (l.flatMap xX)):=by
  rw[show uniq (l.flatMap xX)=l.foldl (λ o x=>xg o (xX x)) [] from(fold_add xX l []).symm]
  refine Z3 l (λ o x=>xg o (xX x)) (λ o=>o) 3 300 (λ out x hx=>?_) (λ k out x hx hm hk ho=>?_) (λ out=>?_) (by simp;omega) (by omega)
  ·
   have h1:=WN (xX x) out
   have h2:=Zk (hv x hx)
   omega
  ·
   have h2:=Zk (hv x hm)
   unfold jr
   simp only
   rw[zJ,if_pos (decide_eq_true hk),yg,hx,Option.bind_some,Wo (hv x hm),Option.bind_some,full_s1 _ _ (by omega),zW (by omega)]
   rfl
  ·
   unfold jr
   simp only
   rw[zJ,if_neg (by simp)]
 rw[h]
 rfl
theorem Ql{p:Str}{f:File}(hp:zu p=true)(hb:xo f.body=true):zL (λ s=>wd p f s) (([]:List Str),(0:Int))=some (uniq (xb p f.body)):=by
 have hlen:=Zu hb
 have hst:∀ st∈f.body,yC st=true:=by
  unfold xo at hb
  rw[Bool.and_eq_true] at hb
  exact λ st h=>List.all_eq_true.1 hb.1 st h
 have e:uniq (xb p f.body)=f.body.foldl (λ o st=>if zl (qn p st)=true then addU o (qn p st) else o) []:=by
  rw[Jz (λ st=>zl (qn p st)) (λ o st=>addU o (qn p st))]
  unfold uniq xg xb
  rw[List.filter_map,List.foldl_map]
  rfl
 rw[e]
 refine Z3 f.body _ (λ o=>o) 1 1000 (λ out st hm=>?_) (λ k out st hx hm hk ho=>?_) (λ out=>?_) (by simp;omega) (by omega)
 ·
  split
  ·
   exact addU_len _ _
  ·
   omega
 ·
  have hs:=hst st hm
  have hsho:=stName_sho hp hs
  have hname:((atI f.body (k:Int)).bind λ v29=>Option.bind (α:=Bool) (if(cmpI .eql v29.kind (0:Int))=true then(some (cmpI .eql v29.kind (0:Int))) else(some (cmpI .eql v29.kind (2:Int)))) λ o32=>if o32=true then((atI f.body (k:Int)).bind λ v40=>some v40.module) else(if(cmpI .eql v29.kind (1:Int))=true then((atI f.body (k:Int)).bind λ v46=>(atI f.body (k:Int)).bind λ v47=>(jp p v46.level v47.module).bind λ v48=>some v48) else(some (⟨[]⟩:Str))))=some (qn p st):=by
   rw[yg,hx]
   simp only[Option.bind_some]
   unfold qn
   rcases ZQ hs with⟨h1,h2⟩ | ⟨h1,h2,h3,h4⟩ | ⟨h1,h2,h3⟩
   ·
    rcases h1 with h1 | h1 <;> simp[cmpI,h1]
   ·
    have hm2:sho st.module:=by have:=yv h2;unfold sho;omega
    rw[Qk hp h3 (by omega) hm2]
    simp[cmpI,h1]
   ·
    simp[cmpI,h1,h2,h3]
    rfl
  unfold wd
  simp only
  rw[zJ,if_pos (decide_eq_true hk),hname,Option.bind_some,show y8 (qn p st)=some (zl (qn p st)) from if_pos hsho.mid,Option.bind_some,ZP (by omega),zW (by omega)]
  cases zl (qn p st) with
  | false=>rfl
  |
   true=>
   rw[show((true:Bool) == true)=true from rfl,qi,Option.bind_some,if_pos rfl]
   unfold addU
   by_cases hmem:qn p st∈out
   ·
    rw[decide_eq_true hmem,if_neg (by decide),if_pos hmem];rfl
   ·
    rw[decide_eq_false hmem,if_pos (by decide),jf (by simp;omega) (by simp;omega),if_neg hmem];rfl
 ·
  unfold wd
  simp only
  rw[zJ,if_neg (by simp)]
section
variable{t:Tree}{path:List Int}
theorem Qm(hv:zM t=true)(hp:path.length<=1048576){n:Str}(hn:zl n=true):j2 t path n=some (qk t.files path n):=by
 unfold j2
 rw[show Yq t path n=some (find t.files path n) from if_pos ⟨by omega,(wm hn).mid⟩,Option.bind_some]
 unfold ZX qk WP
 cases hf:cmpI .lss (find t.files path n).file 0 with
 | true=>rfl
 |
  false=>
  obtain⟨f,h1,h2,_,h4⟩:=Xd hv hn hf
  have hpk:=Qa hn (find t.files path n)
  have hl:=Ql hpk (q8 hv h2)
  have hk:(Option.bind (α:=Str) (if(cmpI .eql (find t.files path n).kind (1:Int))=true then((xP n).bind λ v12=>some v12) else(some n)) λ o8=>(atI t.files (find t.files path n).file).bind λ v16=>Option.bind (α:=(List Str)) (zL (λ s21=>wd o8 v16 s21) ([],(0:Int))) λ o19=>some o19)=some (uniq (xb (ZF n (find t.files path n)) f.body)):=by
   rw[show(if(cmpI .eql (find t.files path n).kind (1:Int))=true then((xP n).bind λ v12=>some v12) else(some n))=some (ZF n (find t.files path n)) by
    unfold ZF
    cases cmpI .eql (find t.files path n).kind (1:Int) with
    | false=>rfl
    | true=>rw[if_pos rfl,if_pos rfl,show xP n=some (wX n) from if_pos (wm hn).mid];rfl,Option.bind_some,atI_some hf h1,Option.bind_some,hl,Option.bind_some]
  simp only[Bool.false_eq_true,if_false]
  rw[Yw h1,hk]
  rfl
theorem Wp(hv:zM t=true)(hp:path.length<=1048576){n:Str}(hn:zl n=true):qe t path n=some (yP t.files path n):=by
 unfold qe
 have h1:=XR hv (path:=path) hn
 rw[Qm hv hp hn,Option.bind_some,spec_full_eq (λ _ h=>Zt h) (by omega),Option.bind_some]
 rfl
theorem Wq(hv:zM t=true)(hp:path.length<=1048576){s:Str}(hs:zl s=true){l:List Str}(hn:l.Nodup)(hl:∀ x∈l,x∈xR t.files s):jy t path l=some (qI t.files path s l):=by
 have hw:=XT hv hs
 have hll:=q7 hn hl
 unfold jy
 rw[jf (by simp;omega) (by simp;omega),Option.bind_some,List.nil_append]
 have h:zL (λ s10=>wL t path s10) (l,(0:Int))=some (qI t.files path s l):=by
  refine loop_grow (λ(o:List Str) k=>(o,(k:Int))) (yP t.files path) (xR t.files s) (Z0 hv hs) (λ o=>o) (λ k out x hx ho hs'=>?_) (λ out ho hs'=>?_) hn hl (by omega) rfl
  ·
   have hxv:=qC hs (hs' x (List.mem_of_getElem? hx))
   have hk:=(List.getElem?_eq_some_iff.1 hx).1
   have hol:=q7 ho hs'
   have hel:=XS hv (path:=path) hxv
   unfold wL
   simp only
   rw[zJ,if_pos (decide_eq_true hk),yg,hx,Option.bind_some,Wp hv hp hxv,Option.bind_some,reach_s1 _ _ (by omega),zW (by omega)]
   rfl
  ·
   unfold wL
   simp only
   rw[zJ,if_neg (by simp)]
 rw[h]
 rfl
theorem ZH(n:Str):(yP t.files path n).Nodup:=uniq_nodup _
theorem QY(hv:zM t=true)(hp:path.length<=1048576){s:Str}(hs:zl s=true):jy t path (xX s)=some (Xe t path s):=
 Wq hv hp hs (ZG hs) λ _ h=>qP h
theorem QZ(hv:zM t=true)(hp:path.length<=1048576){s n:Str}(hs:zl s=true)(hn:zl n=true):qz t path n=some (YG t path s n):=by
 have hsub:∀ x∈yP t.files path n,x∈xR t.files s:=λ _ h=>qD hv hn h
 have hl:=XU hv hs (path:=path) (ZH n) hsub
 unfold qz YG
 rw[Wp hv hp hn,Option.bind_some,Wq hv hp hs (ZH n) hsub,Option.bind_some,ZP (by omega),Option.bind_some]
theorem okG_cases(t:Tree)(path:List Int)(s:Str){α:Type}[Inhabited α]{b:α}{K:Option α}(ht:wY t)(hn:sho s){r:α}(h0:okG t path s=false->r=b)(h1:okG t path s=true->K=some r):((jl t).bind λ v2=>(gO ((!v2) == false) (jm path)).bind λ v3=>(gO (((!v2)||(!v3)) == false) (y8 s)).bind λ v4=>if(((!v2)||(!v3))||(!v4))=true then(some b) else K)=some r:=by
 rw[show jl t=some (zM t) from if_pos ht,Option.bind_some,show jm path=some (xp path) from if_pos trivial,show y8 s=some (zl s) from if_pos hn.mid]
 cases hv:zM t with
 | false=>rw[h0 (by unfold okG;rw[hv];rfl)];rfl
 |
  true=>
  cases hp:xp path with
  | false=>rw[h0 (by unfold okG;rw[hv,hp];rfl)];rfl
  |
   true=>
   cases hs:zl s with
   | false=>rw[h0 (by unfold okG;rw[hv,hp,hs];rfl)];rfl
   | true=>exact h1 (by unfold okG;rw[hv,hp,hs];rfl)
theorem ins_loop{step:List Str×Int->Option ((List Str×Int)⊕List Str)}(l:List Str)(p:Str->Bool)(hl:l.length<=1000)
  (h:∀ k out x,l[k]?=some x->x∈l->k<l.length->out.length<=1000->step (out,(k:Int))=some (.inl (if p x=true then xd out x else out,((k+1:Nat):Int))))
  (hend:∀ out,step (out,(l.length:Int))=some (.inr out)):zL step (([]:List Str),(0:Int))=some ((l.filter p).foldl xd []):=by
 rw[← Jz p xd l []]
 refine Z3 l (λ o x=>if p x=true then xd o x else o) (λ o=>o) 1 1000 (λ out x _=>?_) h hend (by simp;omega) (by omega)
 show(if p x=true then xd out x else out).length<=out.length+1
 split
 ·
  have:=insertAll_len [x] out
  simpa using this
 ·
  omega
theorem spec_ins_eq{out:List Str}{x:Str}(h:out.length<=1000):jO out x=some (xd out x):=if_pos (by omega)
variable{s:Str}
theorem Qn(ht:wY t)(hp:path.length<=1048576)(hn:sho s):jt t path s=some (xn t path s):=by
 unfold jt
 refine okG_cases t path s ht hn (λ h=>by unfold xn jB;rw[h];rfl) λ h=>?_
 obtain⟨hv,_,hs⟩:=jK h
 have hlen:=WQ hv (path:=path) hs
 have hl:zL (λ s20=>x9 t path (Xe t path s) s20) (([]:List Str),(0:Int))=some (xn t path s):=by
  unfold xn
  rw[← gather_eq h]
  refine ins_loop (Xe t path s) (YG t path s) (by omega) (λ k out x hx hm hk ho=>?_) (λ out=>?_)
  ·
   have hxv:=Jx hv hs hm
   unfold x9
   simp only
   rw[zJ,if_pos (decide_eq_true hk),yg,hx,Option.bind_some,QZ hv hp hs hxv,Option.bind_some,zW (by omega)]
   cases YG t path s x with
   | false=>rfl
   | true=>rw[if_pos rfl,if_pos rfl,Option.bind_some,spec_ins_eq ho];rfl
  ·
   unfold x9
   simp only
   rw[zJ,if_neg (by simp)]
 rw[Wo hs,Option.bind_some,QY hv hp hs,Option.bind_some,hl]
 rfl
end
open Go.RowKit
theorem YT{l:List Str}(h:l.length<=1000):wk l=some (uniq l):=by
 unfold wk
 have hl:zL (λ s5=>wt l s5) (([]:List Str),(0:Int))=some (uniq l):=by
  refine add_loop l (λ k out x hx _ hk ho=>?_) (λ out=>?_) (by simpa using h)
  ·
   unfold wt addU
   simp only
   rw[zJ,if_pos (decide_eq_true hk),yg,hx,Option.bind_some,Jy (by omega),Option.bind_some,zW (by omega)]
   by_cases hm:x∈out
   ·
    rw[decide_eq_true hm,if_neg (by decide),if_pos hm];rfl
   ·
    rw[decide_eq_false hm,if_pos (by decide),jf (by simp;omega) (by simp;omega),if_neg hm];rfl
  ·
   unfold wt
   simp only
   rw[zJ,if_neg (by simp)]
 rw[hl]
 rfl
def orE(s:Str):Str:=if zl s=true then s else emptyS
theorem ParentOf_any{p:Str}(h:zu p=true):xC p=some (wX p):=by
 unfold zu at h
 rw[Bool.or_eq_true,decide_eq_true_eq] at h
 rcases h with h | h
 ·
  rw[h,Xf]
  unfold xC
  rcases lastByte emptyS 46 (by decide) with⟨pre,post,e1,_,_⟩ | ⟨_,e3⟩
  ·
   have:=congrArg List.length e1
   simp[emptyS] at this
  ·
   rw[show zT emptyS (UInt8.ofNat 46)=some (-1) from e3,Option.bind_some,yV (show sho emptyS from Nat.zero_le _),Option.bind_some]
   rfl
 ·
  exact J8 h
theorem resolve_loop{p:Str}(hp:zu p=true){n:Nat}(hn:n<=10):zL (λ s17=>yf s17) (p,(n:Int)+1)=some (upN n p):=by
 have key:∀ (k:Nat) (q:Str),k<=10->zu q=true->ja (λ s17=>yf s17) (k+1) (q,((k:Int)+1))=some (upN k q):=by
  intro k
  induction k with
  |
   zero=>
   intro q _ hq
   refine xz ?_
   unfold yf
   rw[if_neg (by simp[cmpI])]
   rfl
  |
   succ k ih=>
   intro q hk hq
   have hgt:cmpI .gtr (((k+1:Nat):Int)+1) 1=true:=by unfold cmpI;exact decide_eq_true (by omega)
   by_cases he:q=(⟨[]⟩:Str)
   ·
    refine xz ?_
    unfold yf
    simp only
    rw[he,if_neg (by simp),show upN (k+1) (⟨[]⟩:Str)=emptyS from JV _]
    rfl
   ·
    have hs:yf (q,(((k+1:Nat):Int)+1))=some (.inl (wX q,((k:Int)+1))):=by
     unfold yf
     simp only
     rw[hgt,if_pos (by simpa using he),ParentOf_any hq,Option.bind_some,show(((k+1:Nat):Int)+1 - 1)=((k:Int)+1) by omega,wj (by omega) (by omega)]
     rfl
    rw[qj hs]
    exact ih (wX q) (by omega) (Xg hq)
 exact qa (key n p hn hp) (by omega)
theorem pkg_sho{p:Str}(h:zu p=true):sho p:=by have:=yv h;unfold sho;omega
theorem Q0{p m:Str}{lv:Int}(hp:zu p=true)(hm:zu m=true)(h0:0<=lv)(h1:lv<=3):wE p lv m=some (orE (YS p lv m)):=by
 rw[XW]
 unfold wE
 have hw:yt lv 0 4=some true:=by
  unfold yt cmpI
  simp only[ge_iff_le]
  rw[decide_eq_true h0,decide_eq_true (show lv<=4 by omega)]
  rfl
 rw[q5 (pkg_sho hp),Option.bind_some,q5 (pkg_sho hm),hw,hp,hm]
 simp only[Bool.not_true,beq_self_eq_true,qi,Option.bind_some,Bool.or_self,Bool.false_eq_true,if_false]
 unfold orE
 by_cases h:lv=0
 ·
  rw[if_pos h,if_pos (by simp[cmpI,h])]
  unfold zu at hm
  rw[Bool.or_eq_true,decide_eq_true_eq] at hm
  rcases hm with hm | hm
  ·
   rw[hm,we];rfl
  ·
   rw[if_pos hm]
 ·
  rw[if_neg h,if_neg (by simp[cmpI,h])]
  obtain⟨n,hn⟩:∃ n:Nat,lv=(n:Int)+1:=⟨(lv - 1).toNat,by omega⟩
  have hu:=upN_pkg n hp
  have hul:=yv hu
  have hml:=yv hm
  rw[show(lv - 1).toNat=n by omega,hn,resolve_loop hp (by omega),Option.bind_some]
  by_cases he:upN n p=emptyS
  ·
   rw[if_pos he,if_pos (decide_eq_true (show upN n p=(⟨[]⟩:Str) from he)),we];rfl
  ·
   rw[if_neg he,if_neg (by simpa using(show ¬ upN n p=(⟨[]⟩:Str) from he))]
   have hend:∀ q:Str,sho q->((zP q).bind λ v44=>if(!v44)=true then(some (⟨[]⟩:Str)) else(some q))=some (if zl q=true then q else emptyS):=λ q hq=>by
    rw[yV hq,Option.bind_some]
    cases zl q <;> rfl
   by_cases hm0:m=emptyS
   ·
    rw[if_pos hm0,if_neg (by simpa using(show m=(⟨[]⟩:Str) from hm0)),Option.bind_some]
    exact hend _ (pkg_sho hu)
   ·
    rw[if_neg hm0,if_pos (by simpa using(show ¬ m=(⟨[]⟩:Str) from hm0)),Zr (by simp;omega),Option.bind_some,Zr (by simp;omega),Option.bind_some,Option.bind_some]
    have e:(⟨(upN n p).l++([46]++m.l)⟩:Str)=child (upN n p) m:=by
     unfold child
     rw[if_neg he]
     simp
    simp only[e]
    refine hend _ ?_
    have:=child_len (upN n p) m
    unfold sho
    omega
theorem packageOf_eq{n:Str}(hn:zl n=true)(s:Spec):y9 (⟨n,s.kind,[],false,false,[]⟩:GMod)=some (ZF n s):=by
 unfold y9 ZF
 simp only
 cases cmpI .eql s.kind 1 with
 | false=>rfl
 | true=>rw[if_pos rfl,if_pos rfl,J8 hn];rfl
theorem Q1{p:Str}{b:List Stmt}{k:Nat}{st:Stmt}(hx:b[k]?=some st):xb p (b.take (k+1))=xb p (b.take k)++(if zl (qn p st)=true then[qn p st] else[]):=by
 unfold xb
 rw[List.take_add_one,hx,Option.toList_some,List.map_append,List.filter_append,List.map_singleton,List.filter_cons,List.filter_nil]
theorem needs_loop{n:Str}(hn:zl n=true){sp:Spec}{f:File}(hb:xo f.body=true):zL (λ s25=>xY n sp f s25) (([]:List Str),(0:Int))=some (xb (ZF n sp) f.body):=by
 have hp:=Qa hn sp
 have hlen:=Zu hb
 have hst:∀ st∈f.body,yC st=true:=by
  unfold xo at hb
  rw[Bool.and_eq_true] at hb
  exact λ st h=>List.all_eq_true.1 hb.1 st h
 refine Z2 (b:=xb (ZF n sp) f.body) f.body.length (λ k=>(xb (ZF n sp) (f.body.take k),(k:Int))) (λ k hk=>?_) ?_ (by omega) rfl
 ·
  obtain⟨st,hx,hm⟩:=XO hk
  have hs:=hst st hm
  have hol:=Zs (ZF n sp) (f.body.take k)
  rw[List.length_take] at hol
  unfold xY
  simp only
  rw[zJ,if_pos (decide_eq_true hk),yg,hx,Option.bind_some,zW (by omega),Q1 hx,packageOf_eq hn]
  generalize xb (ZF n sp) (f.body.take k)=out at hol ⊢
  have ha:∀ x:Str,appO 16 out [x]=some (out++[x]):=λ x=>jf (by simp;omega) (by simp;omega)
  unfold qn
  rcases ZQ hs with⟨h1,h2⟩ | ⟨h1,h2,h3,h4⟩ | ⟨h1,h2,h3⟩
  ·
   rcases h1 with h1 | h1
   ·
    simp[cmpI,h1,h2,ha]
   ·
    simp[cmpI,h1,h2,ha]
  ·
   rw[Option.bind_some,Q0 hp h2 h3 h4,Option.bind_some]
   generalize YS (ZF n sp) st.level st.module=q
   unfold orE
   by_cases hq:zl q=true
   ·
    have hne:q≠emptyS:=by intro e;rw[e,we] at hq;cases hq
    have hne':¬ q=(⟨[]⟩:Str):=hne
    simp[cmpI,h1,hq,hne',ha]
   ·
    have he:decide (emptyS≠(⟨[]⟩:Str))=false:=by decide
    simp[cmpI,h1,hq,he]
  ·
   simp[cmpI,h1,h2,h3,we]
 ·
  unfold xY
  simp only
  rw[zJ,if_neg (by simp),List.take_length]
section
variable{t:Tree}{path:List Int}
theorem FindSpec_ok(ht:wY t)(hp:path.length<=1048576){n:Str}(hn:sho n)(h:okG t path n=true):xD t path n=some (find t.files path n):=by
 rw[XN ht hp hn]
 unfold XM
 rw[if_pos (by unfold okG at h;exact h)]
theorem FindSpec_bad(ht:wY t)(hp:path.length<=1048576){n:Str}(hn:sho n)(h:okG t path n=false):xD t path n=some ZM:=by
 rw[XN ht hp hn]
 unfold XM
 rw[if_neg (by unfold okG at h;rw[h];decide)]
theorem NeedsOf_eq(ht:wY t)(hp:path.length<=1048576){n:Str}(hn:sho n):j4 t path n=some (if okG t path n=true then qk t.files path n else[]):=by
 unfold j4
 cases hok:okG t path n with
 |
  false=>
  rw[FindSpec_bad ht hp hn hok,Option.bind_some,if_pos (by decide),if_neg (by decide)]
 |
  true=>
  obtain⟨hv,_,hnv⟩:=jK hok
  rw[FindSpec_ok ht hp hn hok,Option.bind_some,if_pos rfl]
  unfold qk WP
  cases hf:cmpI .lss (find t.files path n).file 0 with
  | true=>rfl
  |
   false=>
   obtain⟨f,h1,h2,_,h4⟩:=Xd hv hnv hf
   have hb:=q8 hv h2
   have hl:=needs_loop hnv (sp:=find t.files path n) hb
   have hbl:=Zs (ZF n (find t.files path n)) f.body
   have hfl:=Zu hb
   simp only[Bool.false_eq_true,if_false]
   rw[atI_some hf h1,Option.bind_some,hl,Option.bind_some,YT (by omega),Option.bind_some,Yw h1]
def edgesG(t:Tree)(path:List Int)(n:Str):List Str:=if okG t path n=true then yP t.files path n else[]
theorem Wr{s:Str}(h:zl s=true):xl s=some (xX s):=by
 rw[NamesAbove_eq (wm h),if_pos h]
theorem Q2{l:List Str}(hv:∀ x∈l,zl x=true)(hl:l.length<=100):zL (λ s7=>xZ l s7) (([]:List Str),(0:Int))=some (l.flatMap xX):=by
 have e:=fold_app xX l []
 rw[List.nil_append] at e
 rw[← e]
 refine Z3 l (λ o x=>o++xX x) (λ o=>o) 3 300 (λ out x hx=>?_) (λ k out x hx hm hk ho=>?_) (λ out=>?_) (by simp;omega) (by omega)
 ·
  have h2:=Zk (hv x hx)
  simp only[List.length_append]
  omega
 ·
  have h2:=Zk (hv x hm)
  unfold xZ
  simp only
  rw[zJ,if_pos (decide_eq_true hk),yg,hx,Option.bind_some,Wr (hv x hm),Option.bind_some,jf (by omega) (by omega),zW (by omega)]
  rfl
 ·
  unfold xZ
  simp only
  rw[zJ,if_neg (by simp)]
theorem EdgesOf_eq(ht:wY t)(hp:path.length<=1048576){n:Str}(hn:sho n):xV t path n=some (edgesG t path n):=by
 unfold xV edgesG
 rw[NeedsOf_eq ht hp hn,Option.bind_some]
 cases hok:okG t path n with
 | false=>rw[if_neg (by decide),if_neg (by decide),Q2 (λ _ h=>by cases h) (Nat.zero_le _),Option.bind_some,List.flatMap_nil,YT (Nat.zero_le _)];rfl
 |
  true=>
  obtain⟨hv,_,hnv⟩:=jK hok
  have h1:=XR hv (path:=path) hnv
  have h2:=Yj (qk t.files path n) λ _ hy=>Zt hy
  rw[if_pos rfl,if_pos rfl,Q2 (λ _ h=>Zt h) (by omega),Option.bind_some,YT (by omega),Option.bind_some]
  rfl
theorem okG_name{s n:Str}(h:okG t path s=true)(hn:zl n=true):okG t path n=true:=by
 obtain⟨h1,h2,_⟩:=jK h
 unfold okG
 rw[h1,h2,hn]
 rfl
theorem WS(ht:wY t)(hp:path.length<=1048576){s n:Str}(h:okG t path s=true)(hn:zl n=true):xV t path n=some (yP t.files path n):=by
 rw[EdgesOf_eq ht hp (wm hn)]
 unfold edgesG
 rw[if_pos (okG_name h hn)]
theorem reach_eq(_ht:wY t){s:Str}(h:okG t path s=true){f:Str->Option (List Str)}(hf:∀ x,zl x=true->f x=some (yP t.files path x)){l:List Str}(hn:l.Nodup)(hl:∀ x∈l,x∈xR t.files s):qf l f=some (qI t.files path s l):=by
 obtain⟨hv,_,hs⟩:=jK h
 have hw:=XT hv hs
 have hll:=q7 hn hl
 unfold qf
 rw[YT (by omega),show uniq l=l from QS hn,Option.bind_some]
 have h:zL (λ s10=>wM f s10) (l,(0:Int))=some (qI t.files path s l):=by
  refine loop_grow (λ(o:List Str) k=>(o,(k:Int))) (yP t.files path) (xR t.files s) (Z0 hv hs) (λ o=>o) (λ k out x hx ho hs'=>?_) (λ out ho hs'=>?_) hn hl (by omega) rfl
  ·
   have hxv:=qC hs (hs' x (List.mem_of_getElem? hx))
   have hk:=(List.getElem?_eq_some_iff.1 hx).1
   have hol:=q7 ho hs'
   have hel:=XS hv (path:=path) hxv
   unfold wM
   simp only
   rw[zJ,if_pos (decide_eq_true hk),yg,hx,Option.bind_some,hf x hxv,Option.bind_some,jf (by omega) (by omega),Option.bind_some,YT (by rw[List.length_append];omega),Option.bind_some,uniq_app ho,zW (by omega)]
   rfl
  ·
   unfold wM
   simp only
   rw[zJ,if_neg (by simp)]
 rw[h]
 rfl
theorem graphOk_eq(ht:wY t)(hp:path.length<=1048576){n:Str}(hn:sho n):j3 t path n=some (okG t path n):=by
 unfold j3 okG
 rw[Y8 ht,Option.bind_some,Y9 hp,yV hn]
 cases zM t with
 | false=>rfl
 | true=>cases xp path <;> rfl
variable{s:Str}
theorem Q3(ht:wY t)(hp:path.length<=1048576)(hn:sho s):wF t path s=some (jB t path s):=by
 unfold wF
 rw[graphOk_eq ht hp hn,Option.bind_some]
 cases hok:okG t path s with
 | false=>unfold jB;rw[hok];rfl
 |
  true=>
  obtain⟨hv,_,hs⟩:=jK hok
  have hlen:=WQ hv (path:=path) hs
  rw[if_neg (by decide),Wr hs,Option.bind_some,reach_eq (s:=s) ht hok (λ x hx=>?_) (ZG hs) (λ _ h=>qP h),Option.bind_some,show qI t.files path s (xX s)=Xe t path s from rfl,sorted_eq (Nat.le_trans hlen (by decide)),Option.bind_some]
  ·
   unfold jB
   rw[if_pos hok]
  ·
   unfold js
   rw[WS ht hp hok hx]
   rfl
theorem keep_loop{step:List Str×Int->Option ((List Str×Int)⊕List Str)}(l:List Str)(p:Str->Bool)(hl:l.length<=1000)
  (h:∀ k out x,l[k]?=some x->x∈l->k<l.length->out.length<=1000->step (out,(k:Int))=some (.inl (if p x=true then out++[x] else out,((k+1:Nat):Int))))
  (hend:∀ out,step (out,(l.length:Int))=some (.inr out)):zL step (([]:List Str),(0:Int))=some (l.filter p):=by
 have e:l.filter p=l.foldl (λ o x=>if p x=true then o++[x] else o) []:=by
  rw[Jz p (λ o x=>o++[x]) l [],fold_app (λ x=>[x])]
  simp
 rw[e]
 refine Z3 l (λ o x=>if p x=true then o++[x] else o) (λ o=>o) 1 1000 (λ out x _=>?_) h hend (by simp;omega) (by omega)
 show(if p x=true then out++[x] else out).length<=out.length+1
 split
 ·
  simp
 ·
  omega
theorem RingsOf_eq(ht:wY t)(hp:path.length<=1048576)(hn:sho s):j5 t path s=some (xn t path s):=by
 have hlen:=WR (t:=t) (path:=path) (s:=s)
 unfold j5
 rw[Q3 ht hp hn,Option.bind_some]
 have hl:zL (λ s8=>x8 t path (jB t path s) s8) (([]:List Str),(0:Int))=some (xn t path s):=by
  refine keep_loop (jB t path s) (YG t path s) (by omega) (λ k out x hx hm hk ho=>?_) (λ out=>?_)
  ·
   obtain⟨hxv,hok⟩:=ql hm
   obtain⟨hv,_,hs⟩:=jK hok
   have hsub:∀ y∈yP t.files path x,y∈xR t.files s:=λ _ h=>qD hv hxv h
   have hrl:=XU hv hs (path:=path) (ZH x) hsub
   have hf:∀ y,zl y=true->yI y t path=some (yP t.files path y):=λ y hy=>by
    unfold yI
    rw[WS ht hp hok hy]
    rfl
   unfold x8
   simp only
   rw[zJ,if_pos (decide_eq_true hk),yg,hx,Option.bind_some,hf x hxv,Option.bind_some,reach_eq (s:=s) ht hok hf (ZH x) hsub,Option.bind_some,Jy (by omega),Option.bind_some,zW (by omega),show decide (x∈qI t.files path s (yP t.files path x))=YG t path s x from rfl]
   cases YG t path s x with
   | false=>rfl
   | true=>rw[if_pos rfl,if_pos rfl,jf (by simp;omega) (by simp;omega)];rfl
  ·
   unfold x8
   simp only
   rw[zJ,if_neg (by simp)]
 rw[hl]
 rfl
theorem reachL_size(t:Tree)(path:List Int)(s:Str):(jB t path s).length<=1000:=Nat.le_trans WR (by decide)
theorem ringsL_size(t:Tree)(path:List Int)(s:Str):(xn t path s).length<=1000:=Nat.le_trans (List.length_filter_le _ _) (reachL_size t path s)
end
open Go.RowKit
theorem equalTexts_eq{x y:List Str}(h:x.length<=288230376151711744):yN x y=some (decide (x=y)):=by
 unfold yN
 refine eqS_list (λ k hk hk2=>?_) ?_ (by omega)
 ·
  unfold xW
  simp only[lss_at hk,if_true,atI_at hk,atI_at hk2,Option.bind_some,zW (show k<4611686018427387904 by omega)]
  by_cases e:x[k]=y[k] <;> simp[e]
 ·
  unfold xW
  rw[lss_end];rfl
theorem Qo{l:List Str}{x:Str}(h:l.length<=1048576):wG l x=some (l.any λ y=>decide (y=x)):=by
 unfold wG Zq
 have hl:zL (λ s4=>xM l x s4) 0=some (match l.findIdx? (λ y=>decide (y=x)) with | some i=>(Sum.inr (i:Int):Unit⊕Int) | none=>Sum.inl ()):=by
  refine XK l (λ y=>decide (y=x)) (λ i=>Sum.inr i) _ (λ k y hx hlt=>?_) ?_ (by omega) rfl
  ·
   unfold xM
   rw[zJ,if_pos (decide_eq_true hlt),yg,hx,Option.bind_some,zW (by omega)]
   cases decide (y=x) <;> rfl
  ·
   unfold xM
   rw[zJ,if_neg (by simp)]
 have e:Option.bind (α:=Unit⊕Int) (zL (λ s4=>xM l x s4) 0) (Sum.elim (λ _=>some (-1)) some)=some (jU (λ y=>decide (y=x)) l):=by
  rw[hl]
  unfold jU
  cases l.findIdx? (λ y=>decide (y=x)) <;> rfl
 rw[e,Option.bind_some,Yh]
theorem rises_eq{l:List Str}(ha:Asc l)(h:l.length<=1048576):jz l=some true:=by
 unfold jz
 have hl:zL (λ s4=>wN l s4) (1:Int)=some (.inl ()):=by
  refine Z2 (l.length - 1) (λ k=>((k+1:Nat):Int)) (λ k hk=>?_) ?_ (by omega) rfl
  ·
   unfold wN
   have h1:l[k+1]?=some l[k+1]:=List.getElem?_eq_getElem (by omega)
   have h2:l[k]?=some l[k]:=List.getElem?_eq_getElem (by omega)
   have h3:l[k].l<l[k+1].l:=List.pairwise_iff_getElem.1 ha k (k+1) (by omega) (by omega) (by omega)
   rw[zJ,if_pos (decide_eq_true (by omega)),yg,h1,Option.bind_some,show((k+1:Nat):Int) - 1=(k:Int) by omega,wj (by omega) (by omega),Option.bind_some,yg,h2,Option.bind_some,if_neg,zW (by omega)]
   ·
    rfl
   ·
    intro hc
    have h4:=gtr_lt (x:=l[k+1]) (y:=l[k])
    rw[show cmpS .gtr l[k+1] l[k]=!cmpS .leq l[k+1] l[k] from rfl,hc,decide_eq_true h3] at h4
    cases h4
  ·
   unfold wN
   rw[zJ,if_neg (by simp;omega)]
 rw[hl]
 rfl
open Go.RowKit
theorem YU{l:List Str}{x:Str}(h:l.length<=1048576):wG l x=some (decide (x∈l)):=by
 rw[Qo h,any_mem]
theorem Q4{a b:List Str}(ha:a.length<=1048576)(hb:b.length<=1048576):yE a b=some (a.all λ x=>decide (x∈b)):=by
 unfold yE
 have hl:zL (λ s4=>yQ a b s4) 0=some (if a.any (λ x=>!decide (x∈b))=true then .inr false else .inl ()):=by
  refine ZE a _ _ _ (λ k x hx hlt=>?_) ?_ (by omega) rfl
  ·
   unfold yQ
   rw[zJ,if_pos (decide_eq_true hlt),yg,hx,Option.bind_some,YU hb,Option.bind_some,zW (by omega)]
   cases decide (x∈b) <;> rfl
  ·
   unfold yQ
   rw[zJ,if_neg (by simp)]
 rw[hl,Jp]
 cases a.all (λ x=>decide (x∈b)) <;> rfl
theorem within_all{a b:List Str}(ha:a.length<=1048576)(hb:b.length<=1048576)(h:∀ x∈a,x∈b):yE a b=some true:=by
 rw[Q4 ha hb]
 congr 1
 rw[List.all_eq_true]
 exact λ x hx=>decide_eq_true (h x hx)
open Go.RowKit
theorem no_way{α:Type}{E:α->List α}{x:α}(h:Way E [] x):False:=by
 induction h with
 | here h=>cases h
 | step _ _ ih=>exact ih
section
variable{t:Tree}{path:List Int}{s:Str}
theorem ring_way(hok:okG t path s=true){n:Str}(hn:zl n=true):YG t path s n=true ↔ Way (yP t.files path) (yP t.files path n) n:=by
 obtain⟨hv,_,hs⟩:=jK hok
 unfold YG
 rw[decide_eq_true_eq,XV hv hs (ZH n) λ _ h=>qD hv hn h]
theorem ring_pred{n:Str}(h:n∈xn t path s):∃ m∈xn t path s,n∈yP t.files path m:=by
 obtain⟨h1,h2⟩:=List.mem_filter.1 h
 obtain⟨hnv,hok⟩:=ql h1
 obtain⟨hv,_,hs⟩:=jK hok
 have hw:=(ring_way hok hnv).1 h2
 cases hw with
 | here hx=>exact⟨n,h,hx⟩
 |
  @step m _ hm he=>
  have hmr:m∈jB t path s:=by
   rw[QW hok] at h1 ⊢
   have h3:=(XV hv hs (ZG hs) (λ _ h=>qP h)).1 h1
   refine(XV hv hs (ZG hs) (λ _ h=>qP h)).2 ?_
   exact Way.mono (λ x hx=>.step h3 hx) hm
  have hmv:=(ql hmr).1
  refine⟨m,List.mem_filter.2 ⟨hmr,(ring_way hok hmv).2 ?_⟩,he⟩
  exact Way.mono (λ x hx=>.step (.here he) hx) hm
theorem ring_found{n:Str}(h:n∈xn t path s):cmpI .neq (XM t path n).kind 0=true:=by
 obtain⟨h1,h2⟩:=List.mem_filter.1 h
 obtain⟨hnv,hok⟩:=ql h1
 have hw:=(ring_way hok hnv).1 h2
 have hf:XM t path n=find t.files path n:=by
  unfold XM
  rw[if_pos (by have:=okG_name hok hnv;unfold okG at this;exact this)]
 rw[hf]
 by_cases hk:(find t.files path n).kind=0
 ·
  have e:=find_none hnv hk
  have e2:yP t.files path n=[]:=by
   unfold yP qk WP
   rw[e,if_pos (by decide)]
   rfl
  rw[e2] at hw
  exact(no_way hw).elim
 ·
  simp[cmpI,hk]
end
theorem law_RingsOf'(c:List UInt8):qh c=some true:=by
 unfold qh
 cases cmpI .gtr (c.length:Int) 1048576 with
 | true=>rw[if_pos rfl]
 |
  false=>
  obtain⟨t,path,s,e1,h1,h2,h3⟩:=QQ c
  have ht:=h1.sm
  have hp:path.length<=1048576:=by omega
  have hn:sho s:=by unfold sho;omega
  have hlen:=ringsL_size t path s
  have hrl:=WR (t:=t) (path:=path) (s:=s)
  have hE:yN (xn t path s) (xn t path s)=some true:=by rw[equalTexts_eq (by omega)];simp
  rw[if_neg (by decide),e1,Option.bind_some]
  dsimp only
  rw[RingsOf_eq ht hp hn,Option.bind_some,Qn ht hp hn,Option.bind_some,hE,Option.bind_some,Y8 ht,Y9 hp,yV hn]
  have hbad:((some (xn t path s)).bind λ v30=>(yN (xn t path s) v30).bind λ v31=>some v31)=some true:=by rw[Option.bind_some,hE,Option.bind_some]
  have hin:∀ (i:Nat) (x:Str),(xn t path s)[i]?=some x->x∈xn t path s->zL (λ s46=>xy (t,path,s) (xn t path s) (i:Int) s46) (false,(0:Int))=some true:=λ i x hix hxm=>by
   have e0:(xn t path s).any (λ m=>decide (x∈yP t.files path m))=true:=by
    obtain⟨m,hm,hxm⟩:=ring_pred hxm
    rw[List.any_eq_true]
    exact⟨m,hm,decide_eq_true hxm⟩
   rw[← e0]
   refine Z2 (b:=(xn t path s).any (λ m=>decide (x∈yP t.files path m))) (xn t path s).length (λ k=>(((xn t path s).take k).any (λ m=>decide (x∈yP t.files path m)),(k:Int))) (λ k hk=>?_) ?_ (by omega) rfl
   ·
    obtain⟨m,hmk,hmm⟩:=XO hk
    obtain⟨hmv,hok⟩:=ql (List.mem_filter.1 hmm).1
    obtain⟨hv,_,_⟩:=jK hok
    have hel:=XS hv (path:=path) hmv
    unfold xy
    dsimp only
    rw[zJ,if_pos (decide_eq_true hk),zW (by omega),List.take_add_one,hmk,Option.toList_some,List.any_append]
    cases((xn t path s).take k).any (λ m=>decide (x∈yP t.files path m)) with
    | true=>rfl
    |
     false=>
     rw[show((false:Bool) == false)=true from rfl,qi,yg,hmk,Option.bind_some,qi,WS ht hp hok hmv,Option.bind_some,qi,yg,hix,Option.bind_some,qi,YU (by omega),Option.bind_some,Option.bind_some]
     simp
   ·
    unfold xy
    dsimp only
    rw[zJ,if_neg (by simp),List.take_length]
  cases hv:zM t with
  | false=>exact hbad
  |
   true=>
   cases hvp:xp path with
   | false=>exact hbad
   |
    true=>
    cases hs:zl s with
    | false=>exact hbad
    |
     true=>
     have hl:zL (λ s37=>yL (t,path,s) (xn t path s) s37) (0:Int)=some (.inl ()):=by
      refine Z2 (xn t path s).length (λ k=>(k:Int)) (λ k hk=>?_) ?_ (by omega) rfl
      ·
       obtain⟨x,hx,hm⟩:=XO hk
       obtain⟨hxv,hok⟩:=ql (List.mem_filter.1 hm).1
       unfold yL
       rw[zJ,if_pos (decide_eq_true hk),hin k x hx hm,Option.bind_some,show((!true:Bool) == false)=true from rfl,qi,yg,hx,Option.bind_some,qi]
       dsimp only
       rw[CanFind_eq ht hp (wm hxv),ring_found hm,Option.bind_some,zW (by omega)]
       rfl
      ·
       unfold yL
       rw[zJ,if_neg (by simp)]
     have hw:yE (xn t path s) (jB t path s)=some true:=within_all (by omega) (by omega) λ y hy=>(List.mem_filter.1 hy).1
     have hr:jz (xn t path s)=some true:=rises_eq (QO _ QX) (by omega)
     have hgood:(Option.bind (α:=Unit⊕Bool) (zL (λ s37=>yL (t,path,s) (xn t path s) s37) (0:Int)) (Sum.elim (λ b35=>(jz (xn t path s)).bind λ v82=>(gO (v82 == true) (wF t path s)).bind λ v83=>(gO (v82 == true) (yE (xn t path s) v83)).bind λ v84=>some (v82&&v84)) some))=some true:=by
      rw[hl,Option.bind_some,Sum.elim_inl,hr,Option.bind_some,show((true:Bool) == true)=true from rfl,qi,Q3 ht hp hn,Option.bind_some,qi,hw]
      rfl
     exact hgood
theorem Q5(c:List UInt8):Fn Tryz.prog 5 [dt c] (dt true):=JS (law_RingsOf' c)
end Go.Proofs.YtiiiokblnnlapaaGreatDoor
