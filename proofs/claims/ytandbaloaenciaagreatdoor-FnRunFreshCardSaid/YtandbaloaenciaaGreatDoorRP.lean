import Derived.Test.YtandbaloaenciaaGreatDoorRI
import Derived.Test.YtandbaloaenciaaGreatDoorRKc
import Derived.Test.YtandbaloaenciaaGreatDoorRJ
import Derived.Test.YtandbaloaenciaaGreatDoorRN
namespace Go.Proofs.YtandbaloaenciaaGreatDoor
open Go.RowKit
variable{f:File}{i k k' lv:Int}{path:List Int}{b:List Stmt}{l:List Str}{post pre:List UInt8}{m:Nat}{c:Prop}{r:Reader}{st:Stmt}{p s:Str}{t:Tree}
def Rok(k:Int)(r:Reader):Prop:=r.b.length<=2000/\0<=r.p/\r.p<=k
def Dr{α:Type}(k:Int)(x:Option (Reader×α))(P:α->Prop):Prop:=∃ r v,x=some (r,v)/\Rok k r/\P v
variable{α:Type}{P:α->Prop}
theorem Dr.bind{α β:Type}{k k':Int}{x:Option (Reader×α)}{P:α->Prop}{f:Reader×α->Option (Reader×β)}{Q:β->Prop}(h:Dr k x P)(hf:∀ r v,Rok k r->P v->Dr k' (f (r,v)) Q):Dr k' (x.bind f) Q:=by
 obtain⟨r,v,h1,h2,h3⟩:=h;rw[h1];exact hf r v h2 h3
theorem Dr.pure{v:α}(h:Rok k r)(hp:P v):Dr k (some (r,v)) P:=⟨r,v,Z,h,hp⟩
theorem Rok.le(h:Rok k r)(hk:k<=k'):Rok k' r:=⟨h.1,h.2.1,Int.le_trans h.2.2 hk⟩
theorem Dr.mono{x:Option (Reader×α)}{Q:α->Prop}(h:Dr k x P)(hk:k<=k')(hp:∀ v,P v->Q v):Dr k' x Q:=by
 obtain⟨r,v,h1,h2,h3⟩:=h;exact⟨r,v,h1,h2.le hk,hp v h3⟩
theorem Qa{l:List α}(h0:0<=i)(h:i<l.length):∃ x,atI l i=some x/\x∈l:=by
 obtain⟨n,rfl⟩:=Int.eq_ofNat_of_zero_le h0;obtain⟨x,hx,hm⟩:=Zl (l:=l) (k:=n) (by omega);exact⟨x,by rw[zG,hx],hm⟩
theorem xorI_nn{m n:Int}(hm:0<=m)(hm2:m<4611686018427387904)(hn:0<=n)(hn2:n<4611686018427387904):0<=xorI m n:=by
 obtain⟨a,rfl⟩:=Int.eq_ofNat_of_zero_le hm;obtain⟨b,rfl⟩:=Int.eq_ofNat_of_zero_le hn;have h1:∀ c:Nat,c<4611686018427387904->(BitVec.ofInt 64 (c:Int)).toNat=c:=λ c hc=>by
  rw[BitVec.toNat_ofInt];omega
 have h2:(BitVec.ofInt 64 (a:Int) ^^^ BitVec.ofInt 64 (b:Int)).toNat=a ^^^ b:=by
  rw[BitVec.toNat_xor,h1 a (by omega),h1 b (by omega)]
 have h3:a ^^^ b<2 ^ 62:=Nat.xor_lt_two_pow (by omega) (by omega);have h4:(2:Nat) ^ 62=4611686018427387904:=by decide
 unfold xorI;show 0<=IntKind.i64.wrap ((BitVec.ofInt 64 (a:Int) ^^^ BitVec.ofInt 64 (b:Int)).toNat:Int);rw[h2,za9 _ (by omega)];omega
theorem jk(n:Int)(h:Rok k r)(hk:k<=1000000):Dr (k+1) (zE r n) (λ v=>0<=v/\(1<=n->v<n)):=by
 obtain⟨h1,h2,h3⟩:=h;unfold zE;rw[xb (by omega) (by omega),obS];have hr:Rok (k+1) { r with p:=r.p+1 }:=⟨h1,by show 0<=r.p+1;omega,by show r.p+1<=k+1;omega⟩;cases hc:cmpI .lss n 1||cmpI .eql (r.b.length:Int) 0 with
 |true=>rw[Ke Z];refine .pure hr ⟨Int.le_refl _,λ h=>by omega⟩
 |false=>
  rw[Bool.or_eq_false_iff] at hc;have hn:¬ n<1:=of_decide_eq_false hc.1;have hl:¬ (r.b.length:Int)=0:=by simpa[cmpI] using hc.2
  have hres:∀ x:Int,0<=x->Dr (k+1) ((modO x n).bind λ v=>some ({ r with p:=r.p+1 },v)) (λ v=>0<=v/\(1<=n->v<n)):=λ x hx=>by
   rw[modO_of (by omega),obS];exact .pure hr ⟨Int.tmod_nonneg _ hx,λ _=>Int.tmod_lt_of_pos _ (by omega)⟩
  rw[Kf (by decide),show r.p+1 - 1=r.p by omega,xb (by omega) (by omega),obS];cases hlt:cmpI .lss r.p (r.b.length:Int) with
  |true=>obtain⟨x,hx,_⟩:=Qa h2 (oD hlt);rw[Ke Z,hx,obS];exact hres _ (by omega)
  |false=>
   have hm:∀ x:Int,0<=x->∃ y,modO x (r.b.length:Int)=some y/\0<=y/\y<(r.b.length:Int):=λ x hx=>⟨_,modO_of (by omega),Int.tmod_nonneg _ hx,Int.tmod_lt_of_pos _ (by omega)⟩
   obtain⟨y1,e1,a1,b1⟩:=hm r.p h2;obtain⟨x1,f1,_⟩:=Qa a1 b1;obtain⟨y2,e2,a2,b2⟩:=hm (r.p*7+3) (by omega);obtain⟨x2,f2,_⟩:=Qa a2 b2;have u1:=x1.toNat_lt;have u2:=x2.toNat_lt;have hd1:0<=r.p.tdiv (r.b.length:Int):=Int.tdiv_nonneg h2 (by omega);have hd2:r.p.tdiv (r.b.length:Int)<=r.p:=Int.tdiv_le_self _ h2;rw[Kf (by decide),e1,obS,f1,obS,xb (by omega) (by omega),obS,xb (by omega) (by omega),obS,xb (by omega) (by omega),obS,e2,obS,f2,obS,xb (by omega) (by omega),obS,xb (by omega) (by omega),obS,xb (by omega) (by omega),obS,xb (by omega) (by omega),obS,divO_of (by omega) (by omega) (by omega),obS,xb (by omega) (by omega),obS,xb (by omega) (by omega),obS];generalize hz:(x1.toNat:Int)*131+(x2.toNat:Int)*1117+r.p*29+r.p.tdiv (r.b.length:Int)*53=z;have hz0:0<=z/\z<4611686018427387904:=by omega
   have hz1:0<=z.tdiv 64:=Int.tdiv_nonneg hz0.1 (by omega);have hz2:z.tdiv 64<=z:=Int.tdiv_le_self _ hz0.1;rw[divO_of (by decide) (by omega) (by omega),obS];exact hres _ (xorI_nn hz0.1 hz0.2 hz1 (by omega))
theorem Dr.ite[Decidable c]{x y:Option (Reader×α)}(h1:c->Dr k x P)(h2:¬ c->Dr k y P):Dr k (if c then x else y) P:=by
 split
 ·exact h1 (by assumption)
 ·exact h2 (by assumption)
theorem Dr.any{γ:Type}{x:Option γ}{f:γ->Option (Reader×α)}(hx:∃ o,x=some o)(hf:∀ o,Dr k (f o) P):Dr k (x.bind f) P:=by
 obtain⟨o,rfl⟩:=hx;exact hf o
theorem Dr.some{α γ:Type}{k:Int}{x:Option γ}{o:γ}{f:γ->Option (Reader×α)}{P:α->Prop}(hx:x=some o)(hf:Dr k (f o) P):Dr k (x.bind f) P:=by
 rw[hx];exact hf
theorem za0{l:List Int}(P:Int->Prop)(h:Rok k r)(hk:k<=1000000)(h0:0<l.length:=by decide)(hP:∀ x∈l,P x:=by decide):Dr (k+1) (yX r l) P:=by
 unfold yX;refine .bind (jk _ h hk) λ r1 v h1 hv=>?_
 obtain⟨x,hx,hm⟩:=Qa hv.1 (hv.2 (by omega));exact .some hx (.pure h1 (hP x hm))
theorem of_ok(P:Str->Prop)(h:Rok k r)(hk:k<=1000000)(h0:0<l.length:=by decide)(hP:∀ x∈l,P x:=by decide):Dr (k+1) (jS r l) P:=by
 unfold jS;refine .bind (jk _ h hk) λ r1 v h1 hv=>?_
 obtain⟨x,hx,hm⟩:=Qa hv.1 (hv.2 (by omega));exact .some hx (.pure h1 (hP x hm))
theorem YO(h:Rok k r)(hk:k<=1000000):Dr (k+1) (xw r) (λ s=>s.l.length<=1):=by
 unfold xw;refine .bind (of_ok (λ s=>s.l.length<=1) h hk) λ r1 v h1 hv=>.pure h1 hv
theorem loop_down{σ:Type}{step:Reader×σ×Int->Option ((Reader×σ×Int)⊕(Reader×σ))}(K:Nat->Int)(P:Nat->σ->Prop)(m:Nat)(hK:∀ i j,i<=j->K i<=K j)
  (h:∀ j r x n,j<m->Rok (K j) r->P j x->0<n->n+(j:Int)<=m->∃ r' x',step (r,x,n)=some (.inl (r',x',n - 1))/\Rok (K (j+1)) r'/\P (j+1) x')
  (hend:∀ r x n,n<=0->step (r,x,n)=some (.inr (r,x))) (hm:m<=1000)  {x:σ} {n:Int} (h0:Rok (K 0) r) (hx:P 0 x) (hn:n<=m):Dr (K m) (zI step (r,x,n)) (λ y=>∃ j,j<=m/\P j y):=by
 have key:∀ q j r x n,j+q=m->Rok (K j) r->P j x->n<=(q:Int)->∃ r' y,jt step (q+1) (r,x,n)=some (r',y)/\Rok (K m) r'/\∃ j',j'<=m/\P j' y:=by
  intro q
  induction q with
  | zero=>intro j r x n hj hr hx hn;exact⟨r,x,yD (hend r x n (by omega)),hr.le (hK _ _ (by omega)),j,by omega,hx⟩
  |succ q ih=>
   intro j r x n hj hr hx hn;by_cases hn0:n<=0
   ·exact⟨r,x,yD (hend r x n hn0),hr.le (hK _ _ (by omega)),j,by omega,hx⟩
   ·obtain⟨r',x',h1,h2,h3⟩:=h j r x n (by omega) hr hx (by omega) (by omega);rw[wX h1];exact ih (j+1) r' x' (n - 1) (by omega) h2 h3 (by omega)
 obtain⟨r',y,h1,h2,h3⟩:=key m 0 r x n (by omega) h0 hx hn;exact⟨r',y,qt h1 (by omega),h2,h3⟩
theorem zbM(h:Rok k r)(hk:k<=900000):Dr (k+10) (Zx r) (λ s=>s.l.length<=8):=by
 unfold Zx;refine .bind (YO h (by omega)) λ r1 s h1 hs=>?_
 refine .bind (k:=k+10) (P:=λ s=>s.l.length<=8) ?_ λ r3 s3 h3 hs3=>.pure h3 hs3
 refine .bind (za0 (λ n=>n<=2) h1 (by omega)) λ r2 n h2 hn=>?_
 refine(loop_down (λ j=>k+2+j) (λ j (s:Str)=>s.l.length<=1+2*j) 2 (λ i j hij=>by omega) (λ j r x n hj hr hx hn hb=>?_) (λ r x n hn=>?_) (by omega) (h2.le (by show k+1+1<=k+2+((0:Nat):Int);omega)) (by show s.l.length<=1+2*0;omega) (by exact hn)).mono (by show k+2+((2:Nat):Int)<=k+10;omega) (λ y ⟨j,hj,hy⟩=>by omega)
 ·obtain⟨r',v,e1,e2,e3⟩:=YO hr (by omega);have e3':v.l.length<=1:=e3;refine⟨r',⟨(x.l++[46])++v.l⟩,?_,e2.le (by show k+2+(j:Int)+1<=k+2+((j+1:Nat):Int);omega),?_⟩
  ·unfold ZM;dsimp only;rw[Ke (by simp[cmpI];omega),Ww (by show x.l.length+1<=_;omega),obS,e1,obS,Ww (by rw[List.length_append];show x.l.length+1+v.l.length<=_;omega),obS,xb (by omega) (by omega),obS]
  ·show(x.l++[46]++v.l).length<=_;simp only[List.length_append,List.length_singleton];omega
 ·unfold ZM;dsimp only;rw[Kf (by simp[cmpI];omega)]
theorem Dr.step{β:Type}{x:Option (Reader×α)}{f:Reader×α->Option β}{Q:β->Prop}(hx:Dr k x P)(hf:∀ r v,Rok k r->P v->∃ y,f (r,v)=Option.some y/\Q y):∃ y,x.bind f=Option.some y/\Q y:=by
 obtain⟨r,v,h1,h2,h3⟩:=hx;rw[h1];exact hf r v h2 h3
def smS(s:Stmt):Prop:=s.module.l.length<=16/\s.name.l.length<=16
theorem someStmt_ok(h:Rok k r)(hk:k<=800000):Dr (k+30) (YR r) smS:=by
 unfold YR;refine .bind (jk 9 h (by omega)) λ r1 v1 h1 _=>?_
 refine .any (by split <;> exact⟨_,Z⟩) λ o7=>?_
 refine .ite (λ _=>.bind (zbM h1 (by omega)) λ r2 s h2 hs=>.pure (h2.le (by omega)) ⟨Nat.le_trans hs (by decide),Nat.zero_le _⟩) λ _=>?_
 refine .ite (λ _=>?_) λ _=>?_
 ·refine .bind (za0 (λ _=>True) h1 (by omega) (hP:=(λ _ _=>trivial))) λ r2 n h2 _=>.bind (zbM h2 (by omega)) λ r3 s h3 hs=>?_
  refine .bind (k:=k+13) (P:=λ s=>s.l.length<=16) ?_ λ r4 m h4 hm=>.bind (YO h4 (by omega)) λ r5 q h5 hq=>.pure (h5.le (by omega)) ⟨hm,Nat.le_trans hq (by decide)⟩
  dsimp only;cases cmpI .gtr n 0 with
  |true=>refine .bind (jk 2 h3 (by omega)) λ r4 v h4 _=>.ite (λ _=>.pure (h4.le (by omega)) (Nat.zero_le _)) λ _=>.pure (h4.le (by omega)) (Nat.le_trans hs (by decide))
  | false=>exact .pure (h3.le (by omega)) (Nat.le_trans hs (by decide))
 refine .ite (λ _=>.bind (zbM h1 (by omega)) λ r2 s h2 hs=>.pure (h2.le (by omega)) ⟨Nat.le_trans hs (by decide),Nat.zero_le _⟩) λ _=>?_
 refine .any (by split;exact⟨_,Z⟩;split <;> exact⟨_,Z⟩) λ o62=>?_
 refine .ite (λ _=>.bind (of_ok (λ s=>s.l.length<=16) h1 (by omega)) λ r2 s h2 hs=>.bind (jk 100 h2 (by omega)) λ r3 v h3 _=>.pure (h3.le (by omega)) ⟨Nat.zero_le _,hs⟩) λ _=>?_
 refine .ite (λ _=>.bind (of_ok (λ s=>s.l.length<=16) h1 (by omega)) λ r2 s h2 hs=>.pure (h2.le (by omega)) ⟨Nat.zero_le _,hs⟩) λ _=>?_
 refine .bind (jk 3 h1 (by omega)) λ r2 v h2 _=>.ite (λ _=>.pure (h2.le (by omega)) ⟨Nat.zero_le _,Nat.zero_le _⟩) λ _=>.bind (jk 100 h2 (by omega)) λ r3 v h3 _=>.pure (h3.le (by omega)) ⟨Nat.zero_le _,(by show 1<=16;omega)⟩
def smB(n:Nat)(b:List Stmt):Prop:=b.length<=n/\∀ s∈b,smS s
theorem smB.app{n:Nat}{s:Stmt}(h:smB n b)(hs:smS s):smB (n+1) (b++[s]):=⟨by have:=h.1;simp;omega,λ x hx=>(List.mem_append.1 hx).elim (h.2 x) λ hx=>by rw[List.mem_singleton.1 hx];exact hs⟩
theorem smB.le{n:Nat}(h:smB n b)(hm:n<=m):smB m b:=⟨Nat.le_trans h.1 hm,h.2⟩
theorem zcJ(h:Rok k r)(hk:k<=700000):Dr (k+170) (ZN r) (smB 4):=by
 unfold ZN;refine .bind (jk 2 h (by omega)) λ r1 v1 h1 _=>?_
 refine .bind (k:=k+170) (P:=smB 4) ?_ λ r3 s3 h3 hs3=>.pure h3 hs3
 refine .bind (za0 (λ n=>n<=4) h1 (by omega)) λ r2 n h2 hn=>?_
 refine(loop_down (λ j=>k+2+40*j) (λ j x=>smB j x) 4 (λ i j hij=>by omega) (λ j r x n hj hr hx hn hb=>?_) (λ r x n hn=>?_) (by omega) (h2.le (by show k+1+1<=k+2+40*((0:Nat):Int);omega)) ⟨Nat.le_refl _,λ s hs=>by cases hs⟩ (by exact hn)).mono (by show k+2+40*((4:Nat):Int)<=k+170;omega) (λ y ⟨j,hj,hy⟩=>hy.le hj)
 ·have key:∃ y,wU (r1,v1) (r,x,n)=Option.some y/\∃ r' x',y=.inl (r',x',n - 1)/\Rok (k+2+40*((j+1:Nat):Int)) r'/\smB (j+1) x':=by
   unfold wU;rw[Ke (by simp[cmpI];omega)];refine Dr.step (someStmt_ok hr (by omega)) λ r3 s h3 hs=>?_
   refine Dr.step (k:=k+2+40*j+31) (P:=smS) (.ite (λ _=>.bind (jk 100 h3 (by omega)) λ r4 v h4 _=>.pure (h4.le (by omega)) ⟨Nat.zero_le _,(by show 1<=16;omega)⟩) λ _=>.pure (h3.le (by omega)) hs) λ r4 s2 h4 hs2=>?_
   have hl:=hx.1;refine⟨_,by dsimp only;rw[yg (by simp;omega) (by simp;omega),obS,xb (by omega) (by omega),obS],r4,_,Z,h4.le (by omega),hx.app hs2⟩
  obtain⟨y,e,r',x',rfl,e2,e3⟩:=key;exact⟨r',x',e,e2,e3⟩
 ·unfold wU;dsimp only;rw[Kf (by simp[cmpI];omega)]
def smF(n:Nat)(f:File):Prop:=f.pkg.l.length<=16/\f.name.l.length<=16/\smB n f.body
theorem someFile_ok(h:Rok k r)(hk:k<=600000):Dr (k+200) (YT r) (smF 4):=by
 unfold YT;refine .bind (za0 (λ _=>True) h (by omega) (hP:=(λ _ _=>trivial))) λ r1 v1 h1 _=>.bind (jk 100 h1 (by omega)) λ r2 v2 h2 _=>.bind (zcJ h2 (by omega)) λ r3 b h3 hb=>?_
 refine .bind (k:=k+200) (P:=smF 4) ?_ λ r4 f h4 hf=>.pure h4 hf
 refine .bind (jk 6 h3 (by omega)) λ r4 v4 h4 _=>?_
 refine .any (by split <;> exact⟨_,Z⟩) λ o30=>?_
 refine .ite (λ _=>.bind (YO h4 (by omega)) λ r5 s h5 hs=>.pure (h5.le (by omega)) ⟨Nat.zero_le _,Nat.le_trans hs (by decide),hb⟩) λ _=>?_
 refine .any (by split <;> exact⟨_,Z⟩) λ o51=>?_
 refine .ite (λ _=>.bind (YO h4 (by omega)) λ r5 s h5 hs=>.bind (YO h5 (by omega)) λ r6 s2 h6 hs2=>.pure (h6.le (by omega)) ⟨Nat.le_trans hs (by decide),Nat.le_trans hs2 (by decide),hb⟩) λ _=>?_
 refine .ite (λ _=>.bind (YO h4 (by omega)) λ r5 s h5 hs=>.pure (h5.le (by omega)) ⟨Nat.le_trans hs (by decide),Nat.zero_le _,hb⟩) λ _=>?_
 refine .bind (YO h4 (by omega)) λ r5 s h5 hs=>?_
 have hs':s.l.length<=1:=hs;refine .some (Ww (m:=s) (by show s.l.length+1<=_;omega)) (.bind (YO h5 (by omega)) λ r6 s2 h6 hs2=>?_);have hs2':s2.l.length<=1:=hs2;have hlen:(s.l++[46]++s2.l).length<=16:=by simp only[List.length_append,List.length_singleton];omega
 refine .some (Ww (by simp only[List.length_append];show s.l.length+1+s2.l.length<=_;omega)) (.bind (jk 2 h6 (by omega)) λ r7 v7 h7 _=>?_);exact .ite (λ _=>.pure (h7.le (by omega)) ⟨hlen,Nat.zero_le _,hb⟩) λ _=>.bind (YO h7 (by omega)) λ r8 s3 h8 hs3=>.pure (h8.le (by omega)) ⟨hlen,Nat.le_trans hs3 (by decide),hb⟩
def smT(n m:Nat)(t:Tree):Prop:=t.files.length<=n/\∀ f∈t.files,smF m f
theorem smF.le{n m:Nat}{f:File}(h:smF n f)(hm:n<=m):smF m f:=⟨h.1,h.2.1,h.2.2.le hm⟩
theorem smT.le{n m n' m':Nat}{t:Tree}(h:smT n m t)(hn:n<=n')(hm:m<=m'):smT n' m' t:=⟨Nat.le_trans h.1 hn,λ f hf=>(h.2 f hf).le hm⟩
theorem smT.app{n:Nat}(h:smT n m t)(hf:smF m f):smT (n+1) m ⟨t.files++[f]⟩:=⟨by have:=h.1;simp;omega,λ x hx=>(List.mem_append.1 hx).elim (h.2 x) λ hx=>by rw[List.mem_singleton.1 hx];exact hf⟩
theorem smT.set{n m i:Nat}{t:Tree}{f:File}(h:smT n m t)(hf:smF m f):smT n m ⟨t.files.set i f⟩:=⟨by have:=h.1;simp;omega,λ x hx=>(List.mem_or_eq_of_mem_set hx).elim (h.2 x) λ hx=>by rw[hx];exact hf⟩
theorem somePath_ok(h:Rok k r)(hk:k<=900000):Dr (k+1) (YS r) (λ p=>p.length<=3):=by
 unfold YS;refine .bind (jk 8 h (by omega)) λ r2 v2 h2 _=>?_
 have d:∀ {l:List Int} {c:Prop} [Decidable c] {y:Option (Reader×List Int)},l.length<=3->Dr (k+1) y (λ p=>p.length<=3)->Dr (k+1) (if c then some (r2,l) else y) (λ p=>p.length<=3):=λ hl hy=>.ite (λ _=>.pure h2 hl) λ _=>hy
 exact d (by decide) (d (by decide) (d (by decide) (d (by decide) (d (by decide) (.pure h2 (by decide))))))
theorem anyPath_ok(h:Rok k r)(hk:k<=800000):Dr (k+2) (Xr r) (λ p=>p.length<=3):=by
 unfold Xr;refine .bind (jk 20 h (by omega)) λ r2 v2 h2 _=>.ite (λ _=>?_) λ _=>.bind (somePath_ok h2 (by omega)) λ r3 p h3 hp=>.pure (h3.le (by omega)) hp
 refine .bind (jk 3 h2 (by omega)) λ r3 v3 h3 hv=>?_
 obtain⟨x,hx,hm⟩:=Qa (l:=([[],[0,0],[3]]:List (List Int))) hv.1 (hv.2 (by decide));exact .some hx (.pure (h3.le (by omega)) ((by decide:∀ x∈([[],[0,0],[3]]:List (List Int)),x.length<=3) x hm))
theorem newReader_ok(c:List UInt8):∃ r,Zj c=some r/\Rok 0 r:=by
 unfold Zj;by_cases h:(c.length:Int) > 2000
 ·rw[Ke (by simpa[cmpI] using h),show(2000:Int)=((2000:Nat):Int) from Z,XM (by omega),obS,obS];exact⟨_,Z,by show(c.take 2000).length<=2000;simp;omega,Int.le_refl _,Int.le_refl _⟩
 ·rw[Kf (by simpa[cmpI] using h),obS];exact⟨_,Z,by show c.length<=2000;omega,Int.le_refl _,Int.le_refl _⟩
theorem smT.sm(h:smT 11 5 t):jl t:=by
 refine⟨by have:=h.1;omega,λ f hf=>?_⟩;obtain⟨h1,h2,h3,h4⟩:=h.2 f hf;exact⟨by omega,by omega,by omega,λ s hs=>⟨by have:=(h4 s hs).1;omega,by have:=(h4 s hs).2;omega⟩⟩
def smC(n:Nat)(l:List GCmd):Prop:=l.length<=n/\∀ x∈l,x.name.l.length<=64
theorem smC.app{n:Nat}{b:List GCmd}{s:GCmd}(h:smC n b)(hs:s.name.l.length<=64):smC (n+1) (b++[s]):=⟨by have:=h.1;simp;omega,λ x hx=>(List.mem_append.1 hx).elim (h.2 x) λ hx=>by rw[List.mem_singleton.1 hx];exact hs⟩
theorem smC.le{n:Nat}{b:List GCmd}(h:smC n b)(hm:n<=m):smC m b:=⟨Nat.le_trans h.1 hm,h.2⟩
theorem smB.one{s:Stmt}(h:smS s):smB 1 [s]:=⟨Nat.le_refl _,λ x hx=>by rw[List.mem_singleton.1 hx];exact h⟩
theorem zbN(s:Str)(c:UInt8)(hs:s.l.length<=1000000):(∃ pre post,s.l=pre++c::post/\c ∉ post/\zU s c=some (pre.length:Int))\/(c ∉ s.l/\zU s c=some (-1)):=by
 have key:∀ k,k<=s.l.length->c ∉ s.l.drop k->∃ r,jt (λ s6=>zW s c s6) (k+1) ((k:Int) - 1)=some r/\((∃ pre post,s.l=pre++c::post/\c ∉ post/\r=.inr (pre.length:Int))\/(c ∉ s.l/\r=.inl ())):=by
  intro k
  induction k with
  |zero=>intro _ hc;refine⟨.inl (),yD ?_,.inr ⟨by simpa using hc,Z⟩⟩;unfold zW;rw[Kf (by simp[cmpI])]
  |succ k ih=>
   intro hk hc;have hb:s.l[k]?=some s.l[k]:=List.getElem?_eq_getElem (by omega);have hd:s.l.drop k=s.l[k]::s.l.drop (k+1):=List.drop_eq_getElem_cons (by omega);have e1:((k+1:Nat):Int) - 1=(k:Int):=by omega
   rw[e1];by_cases h:s.l[k]=c
   ·refine⟨.inr (k:Int),yD ?_,.inl ⟨s.l.take k,s.l.drop (k+1),?_,hc,by simp;omega⟩⟩
    ·unfold zW;rw[Ke (by simp[cmpI]),zG,hb,obS,Ke (by simp[cmpB,h])]
    ·rw[← h,← hd,List.take_append_drop]
   ·have hs1:zW s c (k:Int)=some (.inl ((k:Int) - 1)):=by
     unfold zW;rw[Ke (by simp[cmpI]),zG,hb,obS,Kf (by simp[cmpB,h]),xb (by omega) (by omega),obS]
    rw[wX hs1];exact ih (by omega) (by rw[hd];simp only[List.mem_cons,not_or];exact⟨λ e=>h e.symm,hc⟩)
 obtain⟨r,h1,h2⟩:=key s.l.length (Nat.le_refl _) (by simp);have hl:zU s c=Option.bind (some r) (Sum.elim (λ _=>some (-1)) some):=by
  unfold zU yF;rw[xb (by omega) (by omega),obS,qt h1 (by omega)];cases r <;> rfl
 rcases h2 with⟨pre,post,e1,e2,rfl⟩ | ⟨e1,rfl⟩
 ·exact .inl ⟨pre,post,e1,e2,hl⟩
 ·exact .inr ⟨e1,hl⟩
theorem zdv(h:s.l=pre++46::post)(hp:(46:UInt8) ∉ post):zx s dot=zx ⟨pre⟩ dot++[⟨post⟩]:=by
 have e:s=⟨((⟨pre⟩:Str).l++[46])++(⟨post⟩:Str).l⟩:=by
  cases s;simp only at h ⊢;rw[h];simp
 have e2:zx ⟨post⟩ dot=[⟨post⟩]:=by
  rw[jE];show(cutF 46 post).map Str.mk=_;rw[zbL 46 post hp];rfl
 rw[e,split_append,e2]
theorem split_none(h:(46:UInt8) ∉ s.l):zx s dot=[s]:=by
 rw[jE];show(cutF 46 s.l).map Str.mk=_;rw[zbL 46 s.l h];rfl
theorem zcp(h:s.l=pre++46::post)(hp:(46:UInt8) ∉ post):zP s=⟨pre⟩/\ju s=⟨post⟩:=by
 unfold zP ju;rw[zdv h hp];constructor
 ·rw[List.length_append,List.length_singleton,Nat.add_sub_cancel,List.take_left];exact join_split ⟨pre⟩
 ·simp
theorem Jb(h:(46:UInt8) ∉ s.l):zP s=emptyS/\ju s=s:=by
 unfold zP ju;rw[split_none h];exact⟨Z,Z⟩
theorem Jc(hv:zi s=true):xt s=some (zP s):=by
 have hl:=yJ hv;unfold xt;rcases zbN s 46 (by omega) with⟨pre,post,e1,e2,e3⟩ | ⟨e1,e3⟩
 ·rw[show zU s (UInt8.ofNat 46)=some (pre.length:Int) from e3,obS,xR (w6 hv),obS,hv,Kf (by simp[cmpI]),zah (by rw[e1,List.length_append];omega),obS,(zcp e1 e2).1,e1,List.take_left]
 ·rw[show zU s (UInt8.ofNat 46)=some (-1) from e3,obS,xR (w6 hv),obS,hv,Ke (by simp[cmpI]),(Jb e1).1];rfl
theorem LastOf_eq(hv:zi s=true):jG s=some (ju s):=by
 have hl:=yJ hv;unfold jG;rw[xR (w6 hv),obS,hv,Kf (by decide)];rcases zbN s 46 (by omega) with⟨pre,post,e1,e2,e3⟩ | ⟨e1,e3⟩
 ·have hlen:pre.length+1<=s.l.length:=by rw[e1,List.length_append,List.length_cons];omega
  rw[show zU s (UInt8.ofNat 46)=some (pre.length:Int) from e3,obS,zQ (by omega),obS,zai hlen,obS,(zcp e1 e2).2,e1]
  congr 2
  rw[show pre++46::post=(pre++[46])++post by simp,List.drop_left' (by simp)]
 ·rw[show zU s (UInt8.ofNat 46)=some (-1) from e3,obS,show((-1:Int)+1)=((0:Nat):Int) from Z,xb (by omega) (by omega),obS,zai (by omega),obS,(Jb e1).2];rfl
theorem name_of(hv:zi s=true):s=child (zP s) (ju s):=by
 have hl:=yJ hv;rcases zbN s 46 (by omega) with⟨pre,post,e1,e2,_⟩ | ⟨e1,_⟩
 ·obtain⟨h1,h2⟩:=zcp e1 e2;rw[h1,h2];unfold child;by_cases he:(⟨pre⟩:Str)=emptyS
  ·have hpre:pre=[]:=by injection he
   subst hpre;have hs:=zdv e1 e2;have h3:=(jq hv).1 ⟨[]⟩ (by rw[hs];exact List.mem_append_left _ (by decide));exact absurd (qB h3).1 (by simp)
  ·rw[Kf he];cases s;simp only at e1;rw[e1];simp
 ·obtain⟨h1,h2⟩:=Jb e1;rw[h1,h2];rfl
section
variable{α:Type}[DecidableEq α]
theorem nodupLen:∀ {l m:List α},l.Nodup->(∀ x∈l,x∈m)->l.length<=m.length
 | [],_,_,_=>Nat.zero_le _
 |x::l,m,hn,hs=>by
  rw[List.nodup_cons] at hn;have hx:=hs x (List.mem_cons_self ..);have h1:=nodupLen (l:=l) (m:=m.erase x) hn.2 λ y hy=>(List.mem_erase_of_ne (by intro e;subst e;exact hn.1 hy)).2 (hs y (List.mem_cons_of_mem _ hy))
  have h2:=List.length_erase_of_mem hx;have h3:=List.length_pos_of_mem hx;rw[List.length_cons];omega
inductive Way (E:α->List α) (l:List α):α->Prop
 | here {x}:x∈l->Way E l x
 | step {x y}:Way E l x->y∈E x->Way E l y
omit [DecidableEq α] in
theorem Way.mono{E:α->List α}{l m:List α}(h:∀ x∈l,Way E m x){x:α}(hw:Way E l x):Way E m x:=by
 induction hw with
 | here hx=>exact h _ hx
 | step _ hy ih=>exact .step ih hy
end
def upN:Nat->Str->Str
 | 0,p=>p
 | n+1,p=>upN n (zP p)
def Yj(p:Str)(lv:Int)(m:Str):Str:=if cmpI .eql lv 0=true then m else if upN (lv - 1).toNat p=emptyS then emptyS else if m=emptyS then upN (lv - 1).toNat p else child (upN (lv - 1).toNat p) m
def stName(p:Str)(s:Stmt):Str:=if(cmpI .eql s.kind 0||cmpI .eql s.kind 2)=true then s.module else if cmpI .eql s.kind 1=true then Yj p s.level s.module else emptyS
def Js(t:List File)(k:Int):File:=(t[k.toNat]?).getD default
theorem idxOf_some{p:α->Bool}{l:List α}(h:cmpI .lss (xu p l) 0=false):∃ x,l[(xu p l).toNat]?=some x/\p x=true:=by
 unfold xu at h ⊢;cases e:l.findIdx? p with
 | none=>rw[e] at h;exact absurd h (by decide)
 |some i=>rw[List.findIdx?_eq_some_iff_getElem] at e;obtain⟨hi,h1,_⟩:=e;exact⟨l[i],by simp only[Int.toNat_natCast];exact List.getElem?_eq_getElem hi,h1⟩
theorem lss_geq(n:Int):cmpI .geq n 0=!cmpI .lss n 0:=by
 unfold cmpI;by_cases h:n<0
 ·have:¬ n>=0:=by omega
  simp[h,this]
 ·have:n>=0:=by omega
  simp[h,this]
theorem WZ(hv:zF t=true)(hf:f∈t.files):yk f.body=true:=by
 have h:=Yi hv hf;unfold yC at h;cases hb:yk f.body with
 | true=>rfl
 | false=>rw[hb,Ke (by simp)] at h;cases h
def okG(t:Tree)(path:List Int)(s:Str):Bool:=zF t&&wM path&&zi s
theorem okG_spec(h:okG t path s=true):zF t=true/\wM path=true/\zi s=true:=by
 unfold okG at h;simp only[Bool.and_eq_true] at h;exact⟨h.1.1,h.1.2,h.2⟩
section
end
section
end
theorem any_mem'{x:Str}:l.any (λ y=>decide (x=y))=decide (x∈l):=by
 rw[Bool.eq_iff_iff,List.any_eq_true];simp
theorem ContainsS_eq{x:Str}(h:l.length<=1048576):yu l x=some (decide (x∈l)):=by
 unfold yu xP;have hl:zI (λ s4=>yL l x s4) 0=some (match l.findIdx? (λ y=>decide (x=y)) with | some i=>(Sum.inr (i:Int):Unit⊕Int) | none=>Sum.inl ()):=by
  refine Wc l (λ y=>decide (x=y)) (λ i=>Sum.inr i) _ (λ k y hx hlt=>?_) ?_ (by omega) Z
  ·unfold yL;rw[zD,Ke (decide_eq_true hlt),zG,hx,obS,zQ (by omega)];cases decide (x=y) <;> rfl
  ·unfold yL;rw[zD,Kf (by simp)]
 have e:Option.bind (α:=Unit⊕Int) (zI (λ s4=>yL l x s4) 0) (Sum.elim (λ _=>some (-1)) some)=some (xu (λ y=>decide (x=y)) l):=by
  rw[hl];unfold xu;cases l.findIdx? (λ y=>decide (x=y)) <;> rfl
 rw[e,obS,JR,any_mem']
theorem zbO(h:zj p=true):mid p:=by have:=ym h;unfold mid;omega
theorem Qb:zP emptyS=emptyS:=by
 have:(46:UInt8) ∉ emptyS.l:=by decide
 exact(Jb this).1
theorem W0(h:zj p=true):zj (zP p)=true:=by
 unfold zj at h;rw[Bool.or_eq_true,decide_eq_true_eq] at h;rcases h with h | h
 ·rw[h,Qb];rfl
 ·exact pre_valid h _
theorem zcq:∀ n,upN n emptyS=emptyS
 | 0=>rfl
 |n+1=>by
  unfold upN;rw[Qb];exact zcq n
theorem upN_pkg:∀ n {p:Str},zj p=true->zj (upN n p)=true
 | 0,_,h=>h
 | n+1,_,h=>upN_pkg n (W0 h)
theorem spec_base_eq(hp:zj p=true){n:Nat}(hn:n<=10):Wa p ((n:Int)+1)=some (upN n p,decide (upN n p≠(⟨[]⟩:Str))):=by
 have key:∀ (k i:Nat) (q:Str),zj q=true->i+k=n->∃ r,jt (λ s4=>jf ((n:Int)+1) s4) (k+1) (q,((i+1:Nat):Int))=some r/\(r=.inl (upN k q)\/(r=.inr ((⟨[]⟩:Str),false)/\upN k q=emptyS)):=by
  intro k
  induction k with
  |zero=>intro i q hq hi;refine⟨.inl q,yD ?_,.inl Z⟩;unfold jf;simp only;rw[show((n:Int)+1)=((n+1:Nat):Int) by omega,zD,Kf (by simp;omega)]
  |succ k ih=>
   intro i q hq hi;have hlt:cmpI .lss ((i+1:Nat):Int) ((n:Int)+1)=true:=by unfold cmpI;exact decide_eq_true (by omega)
   by_cases he:q=(⟨[]⟩:Str)
   ·refine⟨.inr ((⟨[]⟩:Str),false),yD ?_,.inr ⟨Z,?_⟩⟩
    ·unfold jf;simp only;rw[Ke hlt,Ke (decide_eq_true he)]
    ·rw[he];exact zcq _
   ·have hs:jf ((n:Int)+1) (q,((i+1:Nat):Int))=some (.inl (zP q,((i+1+1:Nat):Int))):=by
     unfold jf;simp only;rw[Ke hlt,Kf (by simpa using he),show xN q=some (zP q) from Ke (zbO hq),obS,zQ (by omega)];rfl
    obtain⟨r,h1,h2⟩:=ih (i+1) (zP q) (W0 hq) (by omega);exact⟨r,by rw[wX hs];exact h1,h2⟩
 obtain⟨r,h1,h2⟩:=key n 0 p hp (by omega);unfold Wa;rw[show(1:Int)=((0+1:Nat):Int) from Z,qt (by simpa using h1) (by omega)];rcases h2 with rfl | ⟨rfl,h3⟩
 ·rfl
 ·rw[h3];rfl
theorem Q7{m:Str}:Yj p lv m=if lv=0 then m else if upN (lv - 1).toNat p=emptyS then emptyS else if m=emptyS then upN (lv - 1).toNat p else child (upN (lv - 1).toNat p) m:=by
 unfold Yj;by_cases h:lv=0
 ·rw[Ke h,Ke (by simp[cmpI,h])]
 ·rw[Kf h,Kf (by simp[cmpI,h])]
theorem zc0{m:Str}(hp:zj p=true)(h0:0<=lv)(h1:lv<=4)(hm:sho m):Yd p lv m=some (Yj p lv m):=by
 rw[Q7];unfold Yd;by_cases h:lv=0
 ·rw[Ke h,Ke (by simp[cmpI,h])]
 ·rw[Kf h,Kf (by simp[cmpI,h])];obtain⟨n,hn⟩:∃ n:Nat,lv=(n:Int)+1:=⟨(lv - 1).toNat,by omega⟩;have hu:=upN_pkg n hp;rw[show(lv - 1).toNat=n by omega,hn,spec_base_eq hp (by omega),obS];by_cases he:upN n p=emptyS
  ·rw[Ke he];simp only[he];rfl
  ·rw[Kf he];have he':decide (upN n p≠(⟨[]⟩:Str))=true:=decide_eq_true he;simp only[he'];rw[Kf (by decide)];by_cases hm0:m=emptyS
   ·rw[Ke hm0,Ke (decide_eq_true (show m=(⟨[]⟩:Str) from hm0))]
   ·have hlu:=ym hu;unfold sho at hm;rw[Kf hm0,Kf (by simpa using(show ¬ m=(⟨[]⟩:Str) from hm0)),show jC (upN n p) m=some (child (upN n p) m) from Ke (by omega),obS]
theorem YX(h:zS st=true):((st.kind=0\/st.kind=2)/\zi st.module=true)\/(st.kind=1/\zj st.module=true/\0<=st.level/\st.level<=3)\/(st.kind≠0/\st.kind≠1/\st.kind≠2):=by
 unfold zS at h;by_cases h0:st.kind=0
 ·rw[Ke (by simp[cmpI,h0])] at h;simp only[Bool.and_eq_true] at h;exact .inl ⟨.inl h0,h.1.1.1⟩
 ·rw[Kf (by simp[cmpI,h0])] at h;by_cases h1:st.kind=1
  ·rw[Ke (by simp[cmpI,h1])] at h;simp only[Bool.and_eq_true,inR] at h;have h2:=h.1.1.1.2;simp[cmpI] at h2;exact .inr (.inl ⟨h1,h.1.1.1.1,by omega,by omega⟩)
  ·rw[Kf (by simp[cmpI,h1])] at h;by_cases h2:st.kind=2
   ·rw[Ke (by simp[cmpI,h2])] at h;simp only[Bool.and_eq_true] at h;exact .inl ⟨.inr h2,h.1.1.1⟩
   ·exact .inr (.inr ⟨h0,h1,h2⟩)
theorem zcr(p s:Str):(child p s).l.length<=p.l.length+s.l.length+1:=by
 unfold child;split
 ·omega
 ·simp only[List.length_append,List.length_singleton];omega
theorem stName_sho(hp:zj p=true)(h:zS st=true):sho (stName p st):=by
 unfold stName sho;rcases YX h with⟨h1,h2⟩ | ⟨h1,h2,h3,h4⟩ | ⟨h1,h2,h3⟩
 ·have:=yJ h2;rw[Ke (by rcases h1 with h1 | h1 <;> simp[cmpI,h1])];omega
 ·rw[Kf (by simp[cmpI,h1]),Ke (by simp[cmpI,h1]),Q7];have h5:=ym h2;have h6:=ym (upN_pkg (st.level - 1).toNat hp);have h7:=zcr (upN (st.level - 1).toNat p) st.module;split
  ·omega
  ·split
   ·exact Nat.zero_le _
   ·split <;> omega
 ·rw[Kf (by simp[cmpI,h1,h3]),Kf (by simp[cmpI,h2])];exact Nat.zero_le _
section
end
section
end
def orE(s:Str):Str:=if zi s=true then s else emptyS
theorem ParentOf_any(h:zj p=true):xt p=some (zP p):=by
 unfold zj at h;rw[Bool.or_eq_true,decide_eq_true_eq] at h;rcases h with h | h
 ·rw[h,Qb];unfold xt;rcases zbN emptyS 46 (by decide) with⟨pre,post,e1,_,_⟩ | ⟨_,e3⟩
  ·have:=congrArg List.length e1;simp[emptyS] at this
  ·rw[show zU emptyS (UInt8.ofNat 46)=some (-1) from e3,obS,xR (show sho emptyS from Nat.zero_le _),obS];rfl
 ·exact Jc h
theorem resolve_loop(hp:zj p=true){n:Nat}(hn:n<=10):zI (λ s17=>yz s17) (p,(n:Int)+1)=some (upN n p):=by
 have key:∀ (k:Nat) (q:Str),k<=10->zj q=true->jt (λ s17=>yz s17) (k+1) (q,((k:Int)+1))=some (upN k q):=by
  intro k
  induction k with
  |zero=>intro q _ hq;refine yD ?_;unfold yz;rw[Kf (by simp[cmpI])];rfl
  |succ k ih=>
   intro q hk hq;have hgt:cmpI .gtr (((k+1:Nat):Int)+1) 1=true:=by unfold cmpI;exact decide_eq_true (by omega)
   by_cases he:q=(⟨[]⟩:Str)
   ·refine yD ?_;unfold yz;simp only;rw[he,Kf (by simp),show upN (k+1) (⟨[]⟩:Str)=emptyS from zcq _];rfl
   ·have hs:yz (q,(((k+1:Nat):Int)+1))=some (.inl (zP q,((k:Int)+1))):=by
     unfold yz;simp only;rw[hgt,Ke (by simpa using he),ParentOf_any hq,obS,show(((k+1:Nat):Int)+1 - 1)=((k:Int)+1) by omega,xb (by omega) (by omega)];rfl
    rw[wX hs];exact ih (zP q) (by omega) (W0 hq)
 exact qt (key n p hn hp) (by omega)
theorem pkg_sho(h:zj p=true):sho p:=by have:=ym h;unfold sho;omega
theorem zdw{m:Str}(hp:zj p=true)(hm:zj m=true)(h0:0<=lv)(h1:lv<=3):jW p lv m=some (orE (Yj p lv m)):=by
 rw[Q7];unfold jW;have hw:zY lv 0 4=some true:=by
  unfold zY cmpI;simp only[ge_iff_le];rw[decide_eq_true h0,decide_eq_true (show lv<=4 by omega)];rfl
 rw[Yw (pkg_sho hp),obS,Yw (pkg_sho hm),hw,hp,hm];simp only[Bool.not_true,beq_self_eq_true,jD,obS,Bool.or_self,Bool.false_eq_true,if_false];unfold orE;by_cases h:lv=0
 ·rw[Ke h,Ke (by simp[cmpI,h])];unfold zj at hm;rw[Bool.or_eq_true,decide_eq_true_eq] at hm;rcases hm with hm | hm
  ·rw[hm,ZO];rfl
  ·rw[Ke hm]
 ·rw[Kf h,Kf (by simp[cmpI,h])];obtain⟨n,hn⟩:∃ n:Nat,lv=(n:Int)+1:=⟨(lv - 1).toNat,by omega⟩;have hu:=upN_pkg n hp;have hul:=ym hu;have hml:=ym hm;rw[show(lv - 1).toNat=n by omega,hn,resolve_loop hp (by omega),obS];by_cases he:upN n p=emptyS
  ·rw[Ke he,Ke (decide_eq_true (show upN n p=(⟨[]⟩:Str) from he)),ZO];rfl
  ·rw[Kf he,Kf (by simpa using(show ¬ upN n p=(⟨[]⟩:Str) from he))];have hend:∀ q:Str,sho q->((yh q).bind λ v44=>if(!v44)=true then(some (⟨[]⟩:Str)) else(some q))=some (if zi q=true then q else emptyS):=λ q hq=>by
    rw[xR hq,obS];cases zi q <;> rfl
   by_cases hm0:m=emptyS
   ·rw[Ke hm0,Kf (by simpa using(show m=(⟨[]⟩:Str) from hm0)),obS];exact hend _ (pkg_sho hu)
   ·rw[Kf hm0,Ke (by simpa using(show ¬ m=(⟨[]⟩:Str) from hm0)),Ww (by simp;omega),obS,Ww (by simp;omega),obS,obS];have e:(⟨(upN n p).l++([46]++m.l)⟩:Str)=child (upN n p) m:=by
     unfold child;rw[Kf he];simp
    simp only[e];refine hend _ ?_;have:=zcr (upN n p) m;unfold sho;omega
section
end
end Go.Proofs.YtandbaloaenciaaGreatDoor
