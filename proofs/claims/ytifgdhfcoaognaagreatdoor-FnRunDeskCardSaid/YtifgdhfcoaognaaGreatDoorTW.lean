import Derived.Test.YtifgdhfcoaognaaGreatDoorTI
import Derived.Test.YtifgdhfcoaognaaGreatDoorTKb
import Derived.Test.YtifgdhfcoaognaaGreatDoorTV
namespace Go.Proofs.YtifgdhfcoaognaaGreatDoor
open Go.RowKit
variable{i k k':Int}{l:List Int}{b:List Stmt}{m:Nat}{c:Prop}{r:Reader}{s:Stmt}{t:Tree}
def Rok(k:Int)(r:Reader):Prop:=r.b.length<=2000/\0<=r.p/\r.p<=k
def Dr{α:Type}(k:Int)(x:Option (Reader×α))(P:α->Prop):Prop:=∃ r v,x=some (r,v)/\Rok k r/\P v
variable{α σ:Type}{P:α->Prop}{x:Option (Reader×α)}
theorem Dr.bind{α β:Type}{k k':Int}{x:Option (Reader×α)}{P:α->Prop}{f:Reader×α->Option (Reader×β)}{Q:β->Prop}(h:Dr k x P)(hf:∀ r v,Rok k r->P v->Dr k' (f (r,v)) Q):Dr k' (x.bind f) Q:=by
 obtain⟨r,v,h1,h2,h3⟩:=h;rw[h1];exact hf r v h2 h3
theorem Dr.pure{v:α}(h:Rok k r)(hp:P v):Dr k (some (r,v)) P:=⟨r,v,Z,h,hp⟩
theorem Rok.le(h:Rok k r)(hk:k<=k'):Rok k' r:=⟨h.1,h.2.1,Int.le_trans h.2.2 hk⟩
theorem Dr.mono{Q:α->Prop}(h:Dr k x P)(hk:k<=k')(hp:∀ v,P v->Q v):Dr k' x Q:=by
 obtain⟨r,v,h1,h2,h3⟩:=h;exact⟨r,v,h1,h2.le hk,hp v h3⟩
theorem zdr{l:List α}(h0:0<=i)(h:i<l.length):∃ x,atI l i=some x/\x∈l:=by
 obtain⟨n,rfl⟩:=Int.eq_ofNat_of_zero_le h0;obtain⟨x,hx,hm⟩:=zcv (l:=l) (k:=n) (by omega);exact⟨x,by rw[zL,hx],hm⟩
theorem xorI_nn{m n:Int}(hm:0<=m)(hm2:m<4611686018427387904)(hn:0<=n)(hn2:n<4611686018427387904):0<=xorI m n:=by
 obtain⟨a,rfl⟩:=Int.eq_ofNat_of_zero_le hm;obtain⟨b,rfl⟩:=Int.eq_ofNat_of_zero_le hn;have h1:∀ c:Nat,c<4611686018427387904->(BitVec.ofInt 64 (c:Int)).toNat=c:=λ c hc=>by
  rw[BitVec.toNat_ofInt];omega
 have h2:(BitVec.ofInt 64 (a:Int) ^^^ BitVec.ofInt 64 (b:Int)).toNat=a ^^^ b:=by
  rw[BitVec.toNat_xor,h1 a (by omega),h1 b (by omega)]
 have h3:a ^^^ b<2 ^ 62:=Nat.xor_lt_two_pow (by omega) (by omega);have h4:(2:Nat) ^ 62=4611686018427387904:=by decide
 unfold xorI;show 0<=IntKind.i64.wrap ((BitVec.ofInt 64 (a:Int) ^^^ BitVec.ofInt 64 (b:Int)).toNat:Int);rw[h2,zbR _ (by omega)];omega
theorem qa(n:Int)(h:Rok k r)(hk:k<=1000000):Dr (k+1) (zO r n) (λ v=>0<=v/\(1<=n->v<n)):=by
 obtain⟨h1,h2,h3⟩:=h;unfold zO;rw[xx (by omega) (by omega),Kd];have hr:Rok (k+1) { r with p:=r.p+1 }:=⟨h1,by show 0<=r.p+1;omega,by show r.p+1<=k+1;omega⟩;cases hc:cmpI .lss n 1||cmpI .eql (r.b.length:Int) 0 with
 |true=>rw[Ke Z];refine .pure hr ⟨Int.le_refl _,λ h=>by omega⟩
 |false=>
  rw[Bool.or_eq_false_iff] at hc;have hn:¬ n<1:=of_decide_eq_false hc.1;have hl:¬ (r.b.length:Int)=0:=by simpa[cmpI] using hc.2
  have hres:∀ x:Int,0<=x->Dr (k+1) ((modO x n).bind λ v=>some ({ r with p:=r.p+1 },v)) (λ v=>0<=v/\(1<=n->v<n)):=λ x hx=>by
   rw[modO_of (by omega),Kd];exact .pure hr ⟨Int.tmod_nonneg _ hx,λ _=>Int.tmod_lt_of_pos _ (by omega)⟩
  rw[Kf (by decide),show r.p+1 - 1=r.p by omega,xx (by omega) (by omega),Kd];cases hlt:cmpI .lss r.p (r.b.length:Int) with
  |true=>obtain⟨x,hx,_⟩:=zdr h2 (oD hlt);rw[Ke Z,hx,Kd];exact hres _ (by omega)
  |false=>
   have hm:∀ x:Int,0<=x->∃ y,modO x (r.b.length:Int)=some y/\0<=y/\y<(r.b.length:Int):=λ x hx=>⟨_,modO_of (by omega),Int.tmod_nonneg _ hx,Int.tmod_lt_of_pos _ (by omega)⟩
   obtain⟨y1,e1,a1,b1⟩:=hm r.p h2;obtain⟨x1,f1,_⟩:=zdr a1 b1;obtain⟨y2,e2,a2,b2⟩:=hm (r.p*7+3) (by omega);obtain⟨x2,f2,_⟩:=zdr a2 b2;have u1:=x1.toNat_lt;have u2:=x2.toNat_lt;have hd1:0<=r.p.tdiv (r.b.length:Int):=Int.tdiv_nonneg h2 (by omega);have hd2:r.p.tdiv (r.b.length:Int)<=r.p:=Int.tdiv_le_self _ h2;rw[Kf (by decide),e1,Kd,f1,Kd,xx (by omega) (by omega),Kd,xx (by omega) (by omega),Kd,xx (by omega) (by omega),Kd,e2,Kd,f2,Kd,xx (by omega) (by omega),Kd,xx (by omega) (by omega),Kd,xx (by omega) (by omega),Kd,xx (by omega) (by omega),Kd,divO_of (by omega) (by omega) (by omega),Kd,xx (by omega) (by omega),Kd,xx (by omega) (by omega),Kd];generalize hz:(x1.toNat:Int)*131+(x2.toNat:Int)*1117+r.p*29+r.p.tdiv (r.b.length:Int)*53=z;have hz0:0<=z/\z<4611686018427387904:=by omega
   have hz1:0<=z.tdiv 64:=Int.tdiv_nonneg hz0.1 (by omega);have hz2:z.tdiv 64<=z:=Int.tdiv_le_self _ hz0.1;rw[divO_of (by decide) (by omega) (by omega),Kd];exact hres _ (xorI_nn hz0.1 hz0.2 hz1 (by omega))
theorem Dr.ite[Decidable c]{y:Option (Reader×α)}(h1:c->Dr k x P)(h2:¬ c->Dr k y P):Dr k (if c then x else y) P:=by
 split
 ·exact h1 (by assumption)
 ·exact h2 (by assumption)
theorem Dr.any{γ:Type}{x:Option γ}{f:γ->Option (Reader×α)}(hx:∃ o,x=some o)(hf:∀ o,Dr k (f o) P):Dr k (x.bind f) P:=by
 obtain⟨o,rfl⟩:=hx;exact hf o
theorem Dr.some{α γ:Type}{k:Int}{x:Option γ}{o:γ}{f:γ->Option (Reader×α)}{P:α->Prop}(hx:x=some o)(hf:Dr k (f o) P):Dr k (x.bind f) P:=by
 rw[hx];exact hf
theorem zds(P:Int->Prop)(h:Rok k r)(hk:k<=1000000)(h0:0<l.length:=by decide)(hP:∀ x∈l,P x:=by decide):Dr (k+1) (xt r l) P:=by
 unfold xt;refine .bind (qa _ h hk) λ r1 v h1 hv=>?_
 obtain⟨x,hx,hm⟩:=zdr hv.1 (hv.2 (by omega));exact .some hx (.pure h1 (hP x hm))
theorem of_ok{l:List Str}(P:Str->Prop)(h:Rok k r)(hk:k<=1000000)(h0:0<l.length:=by decide)(hP:∀ x∈l,P x:=by decide):Dr (k+1) (xQ r l) P:=by
 unfold xQ;refine .bind (qa _ h hk) λ r1 v h1 hv=>?_
 obtain⟨x,hx,hm⟩:=zdr hv.1 (hv.2 (by omega));exact .some hx (.pure h1 (hP x hm))
theorem YM(h:Rok k r)(hk:k<=1000000):Dr (k+1) (xR r) (λ s=>s.l.length<=1):=by
 unfold xR;refine .bind (of_ok (λ s=>s.l.length<=1) h hk) λ r1 v h1 hv=>.pure h1 hv
theorem zdt{step:Reader×σ×Int->Option ((Reader×σ×Int)⊕(Reader×σ))}(K:Nat->Int)(P:Nat->σ->Prop)(m:Nat)(hK:∀ i j,i<=j->K i<=K j)
  (h:∀ j r x n,j<m->Rok (K j) r->P j x->0<n->n+(j:Int)<=m->∃ r' x',step (r,x,n)=some (.inl (r',x',n - 1))/\Rok (K (j+1)) r'/\P (j+1) x')
  (hend:∀ r x n,n<=0->step (r,x,n)=some (.inr (r,x))) (hm:m<=1000)  {x:σ} {n:Int} (h0:Rok (K 0) r) (hx:P 0 x) (hn:n<=m):Dr (K m) (zP step (r,x,n)) (λ y=>∃ j,j<=m/\P j y):=by
 have key:∀ q j r x n,j+q=m->Rok (K j) r->P j x->n<=(q:Int)->∃ r' y,qb step (q+1) (r,x,n)=some (r',y)/\Rok (K m) r'/\∃ j',j'<=m/\P j' y:=by
  intro q
  induction q with
  | zero=>intro j r x n hj hr hx hn;exact⟨r,x,xS (hend r x n (by omega)),hr.le (hK _ _ (by omega)),j,by omega,hx⟩
  |succ q ih=>
   intro j r x n hj hr hx hn;by_cases hn0:n<=0
   ·exact⟨r,x,xS (hend r x n hn0),hr.le (hK _ _ (by omega)),j,by omega,hx⟩
   ·obtain⟨r',x',h1,h2,h3⟩:=h j r x n (by omega) hr hx (by omega) (by omega);rw[ZR h1];exact ih (j+1) r' x' (n - 1) (by omega) h2 h3 (by omega)
 obtain⟨r',y,h1,h2,h3⟩:=key m 0 r x n (by omega) h0 hx hn;exact⟨r',y,Yg h1 (by omega),h2,h3⟩
theorem aName_ok(h:Rok k r)(hk:k<=900000):Dr (k+10) (Yp r) (λ s=>s.l.length<=8):=by
 unfold Yp;refine .bind (YM h (by omega)) λ r1 s h1 hs=>?_
 refine .bind (k:=k+10) (P:=λ s=>s.l.length<=8) ?_ λ r3 s3 h3 hs3=>.pure h3 hs3
 refine .bind (zds (λ n=>n<=2) h1 (by omega)) λ r2 n h2 hn=>?_
 refine(zdt (λ j=>k+2+j) (λ j (s:Str)=>s.l.length<=1+2*j) 2 (λ i j hij=>by omega) (λ j r x n hj hr hx hn hb=>?_) (λ r x n hn=>?_) (by omega) (h2.le (by show k+1+1<=k+2+((0:Nat):Int);omega)) (by show s.l.length<=1+2*0;omega) (by exact hn)).mono (by show k+2+((2:Nat):Int)<=k+10;omega) (λ y ⟨j,hj,hy⟩=>by omega)
 ·obtain⟨r',v,e1,e2,e3⟩:=YM hr (by omega);have e3':v.l.length<=1:=e3;refine⟨r',⟨(x.l++[46])++v.l⟩,?_,e2.le (by show k+2+(j:Int)+1<=k+2+((j+1:Nat):Int);omega),?_⟩
  ·unfold ZG;dsimp only;rw[Ke (by simp[cmpI];omega),zR (by show x.l.length+1<=_;omega),Kd,e1,Kd,zR (by rw[List.length_append];show x.l.length+1+v.l.length<=_;omega),Kd,xx (by omega) (by omega),Kd]
  ·show(x.l++[46]++v.l).length<=_;simp only[List.length_append,List.length_singleton];omega
 ·unfold ZG;dsimp only;rw[Kf (by simp[cmpI];omega)]
theorem Dr.step{β:Type}{f:Reader×α->Option β}{Q:β->Prop}(hx:Dr k x P)(hf:∀ r v,Rok k r->P v->∃ y,f (r,v)=Option.some y/\Q y):∃ y,x.bind f=Option.some y/\Q y:=by
 obtain⟨r,v,h1,h2,h3⟩:=hx;rw[h1];exact hf r v h2 h3
def smS(s:Stmt):Prop:=s.module.l.length<=16/\s.name.l.length<=16
def smB(n:Nat)(b:List Stmt):Prop:=b.length<=n/\∀ s∈b,smS s
theorem smB.app{n:Nat}(h:smB n b)(hs:smS s):smB (n+1) (b++[s]):=⟨by have:=h.1;simp;omega,λ x hx=>(List.mem_append.1 hx).elim (h.2 x) λ hx=>by rw[List.mem_singleton.1 hx];exact hs⟩
theorem smB.le{n:Nat}(h:smB n b)(hm:n<=m):smB m b:=⟨Nat.le_trans h.1 hm,h.2⟩
def smF(n:Nat)(f:File):Prop:=f.pkg.l.length<=16/\f.name.l.length<=16/\smB n f.body
def smT(n m:Nat)(t:Tree):Prop:=t.files.length<=n/\∀ f∈t.files,smF m f
theorem smF.le{n m:Nat}{f:File}(h:smF n f)(hm:n<=m):smF m f:=⟨h.1,h.2.1,h.2.2.le hm⟩
theorem smT.le{n m n' m':Nat}{t:Tree}(h:smT n m t)(hn:n<=n')(hm:m<=m'):smT n' m' t:=⟨Nat.le_trans h.1 hn,λ f hf=>(h.2 f hf).le hm⟩
theorem smT.app{n:Nat}{f:File}(h:smT n m t)(hf:smF m f):smT (n+1) m ⟨t.files++[f]⟩:=⟨by have:=h.1;simp;omega,λ x hx=>(List.mem_append.1 hx).elim (h.2 x) λ hx=>by rw[List.mem_singleton.1 hx];exact hf⟩
theorem smT.set{n m i:Nat}{t:Tree}{f:File}(h:smT n m t)(hf:smF m f):smT n m ⟨t.files.set i f⟩:=⟨by have:=h.1;simp;omega,λ x hx=>(List.mem_or_eq_of_mem_set hx).elim (h.2 x) λ hx=>by rw[hx];exact hf⟩
theorem somePath_ok(h:Rok k r)(hk:k<=900000):Dr (k+1) (YS r) (λ p=>p.length<=3):=by
 unfold YS;refine .bind (qa 8 h (by omega)) λ r2 v2 h2 _=>?_
 have d:∀ {l:List Int} {c:Prop} [Decidable c] {y:Option (Reader×List Int)},l.length<=3->Dr (k+1) y (λ p=>p.length<=3)->Dr (k+1) (if c then some (r2,l) else y) (λ p=>p.length<=3):=λ hl hy=>.ite (λ _=>.pure h2 hl) λ _=>hy
 exact d (by decide) (d (by decide) (d (by decide) (d (by decide) (d (by decide) (.pure h2 (by decide))))))
theorem anyPath_ok(h:Rok k r)(hk:k<=800000):Dr (k+2) (XA r) (λ p=>p.length<=3):=by
 unfold XA;refine .bind (qa 20 h (by omega)) λ r2 v2 h2 _=>.ite (λ _=>?_) λ _=>.bind (somePath_ok h2 (by omega)) λ r3 p h3 hp=>.pure (h3.le (by omega)) hp
 refine .bind (qa 3 h2 (by omega)) λ r3 v3 h3 hv=>?_
 obtain⟨x,hx,hm⟩:=zdr (l:=([[],[0,0],[3]]:List (List Int))) hv.1 (hv.2 (by decide));exact .some hx (.pure (h3.le (by omega)) ((by decide:∀ x∈([[],[0,0],[3]]:List (List Int)),x.length<=3) x hm))
theorem newReader_ok(c:List UInt8):∃ r,Zm c=some r/\Rok 0 r:=by
 unfold Zm;by_cases h:(c.length:Int) > 2000
 ·rw[Ke (by simpa[cmpI] using h),show(2000:Int)=((2000:Nat):Int) from Z,WD (by omega),Kd,Kd];exact⟨_,Z,by show(c.take 2000).length<=2000;simp;omega,Int.le_refl _,Int.le_refl _⟩
 ·rw[Kf (by simpa[cmpI] using h),Kd];exact⟨_,Z,by show c.length<=2000;omega,Int.le_refl _,Int.le_refl _⟩
theorem smT.sm(h:smT 11 5 t):xw t:=by
 refine⟨by have:=h.1;omega,λ f hf=>?_⟩;obtain⟨h1,h2,h3,h4⟩:=h.2 f hf;exact⟨by omega,by omega,by omega,λ s hs=>⟨by have:=(h4 s hs).1;omega,by have:=(h4 s hs).2;omega⟩⟩
def smC(n:Nat)(l:List GCmd):Prop:=l.length<=n/\∀ x∈l,x.name.l.length<=64
theorem smC.app{n:Nat}{b:List GCmd}{s:GCmd}(h:smC n b)(hs:s.name.l.length<=64):smC (n+1) (b++[s]):=⟨by have:=h.1;simp;omega,λ x hx=>(List.mem_append.1 hx).elim (h.2 x) λ hx=>by rw[List.mem_singleton.1 hx];exact hs⟩
theorem smC.le{n:Nat}{b:List GCmd}(h:smC n b)(hm:n<=m):smC m b:=⟨Nat.le_trans h.1 hm,h.2⟩
theorem smB.one(h:smS s):smB 1 [s]:=⟨Nat.le_refl _,λ x hx=>by rw[List.mem_singleton.1 hx];exact h⟩
theorem zcM{n v:Int}(h:0<=v/\(1<=n->v<n))(hn:1<=n:=by decide)(h99:n<=100:=by decide):two v:=⟨h.1,by have:=h.2 hn;omega⟩
theorem two0:two 0:=by decide
theorem someStmt_n(h:Rok k r)(hk:k<=800000):Dr (k+30) (YQ r) nuS:=by
 unfold YQ;refine .bind (qa 9 h (by omega)) λ r1 v1 h1 _=>?_
 refine .any (by split <;> exact⟨_,Z⟩) λ o7=>?_
 refine .ite (λ _=>.bind (aName_ok h1 (by omega)) λ r2 s h2 hs=>.pure (h2.le (by omega)) ⟨⟨Nat.le_trans hs (by decide),Nat.zero_le _⟩,two0,two0⟩) λ _=>?_
 refine .ite (λ _=>?_) λ _=>?_
 ·refine .bind (zds two h1 (by omega)) λ r2 n h2 hn=>.bind (aName_ok h2 (by omega)) λ r3 s h3 hs=>?_
  refine .bind (k:=k+13) (P:=λ s=>s.l.length<=16) ?_ λ r4 m h4 hm=>.bind (YM h4 (by omega)) λ r5 q h5 hq=>.pure (h5.le (by omega)) ⟨⟨hm,Nat.le_trans hq (by decide)⟩,hn,two0⟩
  dsimp only;cases cmpI .gtr n 0 with
  |true=>refine .bind (qa 2 h3 (by omega)) λ r4 v h4 _=>.ite (λ _=>.pure (h4.le (by omega)) (Nat.zero_le _)) λ _=>.pure (h4.le (by omega)) (Nat.le_trans hs (by decide))
  | false=>exact .pure (h3.le (by omega)) (Nat.le_trans hs (by decide))
 refine .ite (λ _=>.bind (aName_ok h1 (by omega)) λ r2 s h2 hs=>.pure (h2.le (by omega)) ⟨⟨Nat.le_trans hs (by decide),Nat.zero_le _⟩,two0,two0⟩) λ _=>?_
 refine .any (by split;exact⟨_,Z⟩;split <;> exact⟨_,Z⟩) λ o62=>?_
 refine .ite (λ _=>.bind (of_ok (λ s=>s.l.length<=16) h1 (by omega)) λ r2 s h2 hs=>.bind (qa 100 h2 (by omega)) λ r3 v h3 hv=>.pure (h3.le (by omega)) ⟨⟨Nat.zero_le _,hs⟩,two0,zcM hv⟩) λ _=>?_
 refine .ite (λ _=>.bind (of_ok (λ s=>s.l.length<=16) h1 (by omega)) λ r2 s h2 hs=>.pure (h2.le (by omega)) ⟨⟨Nat.zero_le _,hs⟩,two0,two0⟩) λ _=>?_
 refine .bind (qa 3 h1 (by omega)) λ r2 v h2 _=>.ite (λ _=>.pure (h2.le (by omega)) ⟨⟨Nat.zero_le _,Nat.zero_le _⟩,two0,two0⟩) λ _=>.bind (qa 100 h2 (by omega)) λ r3 v h3 hv=>.pure (h3.le (by omega)) ⟨⟨Nat.zero_le _,(by show 1<=16;omega)⟩,two0,zcM hv⟩
theorem nuB.app{n:Nat}(h:nuB n b)(hs:nuS s):nuB (n+1) (b++[s]):=⟨by have:=h.1;simp;omega,λ x hx=>(List.mem_append.1 hx).elim (h.2 x) λ hx=>by rw[List.mem_singleton.1 hx];exact hs⟩
theorem nuB.le{n:Nat}(h:nuB n b)(hm:n<=m):nuB m b:=⟨Nat.le_trans h.1 hm,h.2⟩
theorem someBody_n(h:Rok k r)(hk:k<=700000):Dr (k+170) (YR r) (nuB 4):=by
 unfold YR;refine .bind (qa 2 h (by omega)) λ r1 v1 h1 _=>?_
 refine .bind (k:=k+170) (P:=nuB 4) ?_ λ r3 s3 h3 hs3=>.pure h3 hs3
 refine .bind (zds (λ n=>n<=4) h1 (by omega)) λ r2 n h2 hn=>?_
 refine(zdt (λ j=>k+2+40*j) (λ j x=>nuB j x) 4 (λ i j hij=>by omega) (λ j r x n hj hr hx hn hb=>?_) (λ r x n hn=>?_) (by omega) (h2.le (by show k+1+1<=k+2+40*((0:Nat):Int);omega)) ⟨Nat.le_refl _,λ s hs=>by cases hs⟩ (by exact hn)).mono (by show k+2+40*((4:Nat):Int)<=k+170;omega) (λ y ⟨j,hj,hy⟩=>hy.le hj)
 ·have key:∃ y,w6 (r1,v1) (r,x,n)=Option.some y/\∃ r' x',y=.inl (r',x',n - 1)/\Rok (k+2+40*((j+1:Nat):Int)) r'/\nuB (j+1) x':=by
   unfold w6;rw[Ke (by simp[cmpI];omega)];refine Dr.step (someStmt_n hr (by omega)) λ r3 s h3 hs=>?_
   refine Dr.step (k:=k+2+40*j+31) (P:=nuS) (.ite (λ _=>.bind (qa 100 h3 (by omega)) λ r4 v h4 hv=>.pure (h4.le (by omega)) ⟨⟨Nat.zero_le _,(by show 1<=16;omega)⟩,two0,zcM hv⟩) λ _=>.pure (h3.le (by omega)) hs) λ r4 s2 h4 hs2=>?_
   have hl:=hx.1;refine⟨_,by dsimp only;rw[xb (by simp;omega) (by simp;omega),Kd,xx (by omega) (by omega),Kd],r4,_,Z,h4.le (by omega),hx.app hs2⟩
  obtain⟨y,e,r',x',rfl,e2,e3⟩:=key;exact⟨r',x',e,e2,e3⟩
 ·unfold w6;dsimp only;rw[Kf (by simp[cmpI];omega)]
theorem someFile_n(h:Rok k r)(hk:k<=600000):Dr (k+200) (YT r) (nuF 4):=by
 unfold YT;refine .bind (zds two h (by omega)) λ r1 v1 h1 w1=>.bind (qa 100 h1 (by omega)) λ r2 v2 h2 w2=>.bind (someBody_n h2 (by omega)) λ r3 b h3 hb=>?_
 have w3:=zcM w2;refine .bind (k:=k+200) (P:=nuF 4) ?_ λ r4 f h4 hf=>.pure h4 hf
 refine .bind (qa 6 h3 (by omega)) λ r4 v4 h4 _=>?_
 refine .any (by split <;> exact⟨_,Z⟩) λ o30=>?_
 refine .ite (λ _=>.bind (YM h4 (by omega)) λ r5 s h5 hs=>.pure (h5.le (by omega)) ⟨Nat.zero_le _,Nat.le_trans hs (by decide),hb,w1,w3⟩) λ _=>?_
 refine .any (by split <;> exact⟨_,Z⟩) λ o51=>?_
 refine .ite (λ _=>.bind (YM h4 (by omega)) λ r5 s h5 hs=>.bind (YM h5 (by omega)) λ r6 s2 h6 hs2=>.pure (h6.le (by omega)) ⟨Nat.le_trans hs (by decide),Nat.le_trans hs2 (by decide),hb,w1,w3⟩) λ _=>?_
 refine .ite (λ _=>.bind (YM h4 (by omega)) λ r5 s h5 hs=>.pure (h5.le (by omega)) ⟨Nat.le_trans hs (by decide),Nat.zero_le _,hb,w1,w3⟩) λ _=>?_
 refine .bind (YM h4 (by omega)) λ r5 s h5 hs=>?_
 have hs':s.l.length<=1:=hs;refine .some (zR (m:=s) (by show s.l.length+1<=_;omega)) (.bind (YM h5 (by omega)) λ r6 s2 h6 hs2=>?_);have hs2':s2.l.length<=1:=hs2;have hlen:(s.l++[46]++s2.l).length<=16:=by simp only[List.length_append,List.length_singleton];omega
 refine .some (zR (by simp only[List.length_append];show s.l.length+1+s2.l.length<=_;omega)) (.bind (qa 2 h6 (by omega)) λ r7 v7 h7 _=>?_);exact .ite (λ _=>.pure (h7.le (by omega)) ⟨hlen,Nat.zero_le _,hb,w1,w3⟩) λ _=>.bind (YM h7 (by omega)) λ r8 s3 h8 hs3=>.pure (h8.le (by omega)) ⟨hlen,Nat.le_trans hs3 (by decide),hb,w1,w3⟩
theorem nuT.le{n n':Nat}(h:nuT n m t)(hn:n<=n'):nuT n' m t:=⟨Nat.le_trans h.1 hn,h.2⟩
theorem nuT.app{n:Nat}{f:File}(h:nuT n m t)(hf:nuF m f):nuT (n+1) m ⟨t.files++[f]⟩:=⟨by have:=h.1;simp;omega,λ x hx=>(List.mem_append.1 hx).elim (h.2 x) λ hx=>by rw[List.mem_singleton.1 hx];exact hf⟩
theorem someTree_n(h:Rok k r)(hk:k<=500000):Dr (k+2100) (YU r) (nuT 10 4):=by
 unfold YU;refine .bind (k:=k+2100) (P:=nuT 10 4) ?_ λ r3 s3 h3 hs3=>.pure h3 hs3
 refine .bind (zds (λ n=>n<=10) h (by omega)) λ r2 n h2 hn=>?_
 refine(zdt (λ j=>k+1+200*j) (λ j x=>nuT j 4 x) 10 (λ i j hij=>by omega) (λ j r x n hj hr hx hn hb=>?_) (λ r x n hn=>?_) (by omega) (h2.le (by show k+1<=k+1+200*((0:Nat):Int);omega)) ⟨Nat.le_refl _,λ s hs=>by cases hs⟩ (by exact hn)).mono (by show k+1+200*((10:Nat):Int)<=k+2100;omega) (λ y ⟨j,hj,hy⟩=>hy.le hj)
 ·have key:∃ y,w9 (r,x,n)=Option.some y/\∃ r' x',y=.inl (r',x',n - 1)/\Rok (k+1+200*((j+1:Nat):Int)) r'/\nuT (j+1) 4 x':=by
   unfold w9;rw[Ke (by simp[cmpI];omega)];have hl:=hx.1;refine Dr.step (k:=k+1+200*j+200) (P:=nuT (j+1) 4) ?_ λ r4 t h4 ht=>?_
   ·refine .bind (someFile_n hr (by omega)) λ r3 f h3 hf=>.some (Ke trivial) (.ite (λ _=>?_) λ _=>.pure h3 (hx.le (by omega)))
    exact .some (xb (by simp;omega) (by simp;omega)) (.pure h3 (hx.app hf))
   ·exact⟨_,by dsimp only;rw[xx (by omega) (by omega),Kd],r4,t,Z,h4.le (by omega),ht⟩
  obtain⟨y,e,r',x',rfl,e2,e3⟩:=key;exact⟨r',x',e,e2,e3⟩
 ·unfold w9;dsimp only;rw[Kf (by simp[cmpI];omega)]
theorem mutate_ok{s:Str}(h:Rok k r)(hk:k<=900000)(hs:s.l.length<=20000):Dr (k+3) (XX r s) (λ x=>x.l.length<=20001):=by
 unfold XX;refine .some (xx (by omega) (by omega)) (.bind (qa _ h (by omega)) λ r1 n h1 hn=>?_);have hn2:=hn.2 (by omega);obtain⟨j,rfl⟩:=Int.eq_ofNat_of_zero_le hn.1;have hj:j<=s.l.length:=by omega
 obtain⟨r2,v,e2,k2,_⟩:=qa 5 h1 (by omega);dsimp only;rw[e2,Kd];dsimp only;obtain⟨o,ho⟩:∃ o,(if(cmpI .eql v (0:Int))=true then(some (cmpI .eql v (0:Int))) else(some (cmpI .eql v (1:Int))))=some o:=by split <;> exact⟨_,Z⟩
 rw[ho,Kd];have key:∀ {X:Option (Reader⊕(Reader×Str))},(∃ y,X=some y/\match y with | .inl b=>Rok (k+3) b | .inr z=>Rok (k+3) z.1/\z.2.l.length<=20001)->Dr (k+3) (X.bind (Sum.elim (λ b=>some (b,s)) some)) (λ x=>x.l.length<=20001):=λ⟨y,hy,hp⟩=>by
  rw[hy,Kd];cases y with
  | inl b=>exact .pure hp (by omega)
  | inr z=>exact⟨z.1,z.2,Z,hp.1,hp.2⟩
 refine key ?_;split
 ·split
  ·rename_i hlt;have hlt:(j:Int)<(s.l.length:Int):=oD hlt;rw[Xd hj,Kd,zS (by omega),Kd,WC (by omega),Kd];obtain⟨r3,q,e3,k3,hq⟩:=of_ok (λ x=>x.l.length<=1) (l:=[(⟨[48]⟩:Str),(⟨[97]⟩:Str),(⟨[32]⟩:Str),(⟨[45]⟩:Str),(⟨[46]⟩:Str),(⟨[10]⟩:Str),(⟨[42]⟩:Str)]) k2 (by omega);have hq:q.l.length<=1:=hq;rw[e3,Kd];dsimp only;rw[zR (by simp;omega),Kd,zR (by simp;omega),Kd];exact⟨_,Z,k3.le (by omega),by simp;omega⟩
  ·exact⟨_,Z,k2.le (by omega)⟩
 split
 ·rw[Xd hj,Kd];exact⟨_,Z,k2.le (by omega),by simp;omega⟩
 split
 ·obtain⟨r3,q,e3,k3,hq⟩:=of_ok (λ x=>x.l.length<=1) (l:=[(⟨[48]⟩:Str),(⟨[32]⟩:Str),(⟨[10]⟩:Str),(⟨[120]⟩:Str)]) k2 (by omega);have hq:q.l.length<=1:=hq;rw[e3,Kd];dsimp only;rw[zR (by omega),Kd];exact⟨_,Z,k3.le (by omega),by simp;omega⟩
 ·exact⟨_,Z,k2.le (by omega)⟩
theorem someText_ok(h:Rok k r)(hk:k<=500000):Dr (k+2200) (YV r) (λ x=>x.l.length<=20001):=by
 unfold YV;refine .bind (someTree_n h hk) λ r1 t h1 ht=>?_
 obtain⟨s,hs,hl⟩:=format_n ht (by omega) (by omega);refine .some hs ?_;refine .bind (k:=k+2200) (P:=λ x=>x.l.length<=20001) ?_ λ r3 s3 h3 hs3=>.pure h3 hs3
 exact .bind (qa 3 h1 (by omega)) λ r2 v h2 _=>.ite (λ _=>.bind (mutate_ok h2 (by omega) hl) λ r3 x h3 hx=>.pure (h3.le (by omega)) hx) λ _=>.pure (h2.le (by omega)) (Nat.le_trans hl (by decide))
theorem loop_downL{step:Reader×σ×Int->Option ((Reader×σ×Int)⊕σ)}(K:Nat->Int)(P:Nat->σ->Prop)(m:Nat)
  (h:∀ j r x n,j<m->Rok (K j) r->P j x->0<n->n+(j:Int)<=m->∃ r' x',step (r,x,n)=some (.inl (r',x',n - 1))/\Rok (K (j+1)) r'/\P (j+1) x')
  (hend:∀ r x n,n<=0->step (r,x,n)=some (.inr x)) (hm:m<=1000)  {x:σ} {n:Int} (h0:Rok (K 0) r) (hx:P 0 x) (hn:n<=m):∃ y,zP step (r,x,n)=some y/\∃ j,j<=m/\P j y:=by
 have key:∀ q j r x n,j+q=m->Rok (K j) r->P j x->n<=(q:Int)->∃ y,qb step (q+1) (r,x,n)=some y/\∃ j',j'<=m/\P j' y:=by
  intro q
  induction q with
  | zero=>intro j r x n hj hr hx hn;exact⟨x,xS (hend r x n (by omega)),j,by omega,hx⟩
  |succ q ih=>
   intro j r x n hj hr hx hn;by_cases hn0:n<=0
   ·exact⟨x,xS (hend r x n hn0),j,by omega,hx⟩
   ·obtain⟨r',x',h1,h2,h3⟩:=h j r x n (by omega) hr hx (by omega) (by omega);rw[ZR h1];exact ih (j+1) r' x' (n - 1) (by omega) h2 h3 (by omega)
 obtain⟨y,h1,h3⟩:=key m 0 r x n (by omega) h0 hx hn;exact⟨y,Yg h1 (by omega),h3⟩
theorem zeK(c:List UInt8):∃ s p l,j0 c=some (s,p,l)/\s.l.length<=20001/\p.length<=3/\l.length<=6/\∀ x∈l,x.l.length<=16:=by
 obtain⟨r,h1,h2⟩:=newReader_ok c;obtain⟨r1,s,e1,k1,p1⟩:=someText_ok h2 (by omega);obtain⟨r2,q,e2,k2,p2⟩:=anyPath_ok k1 (by omega);obtain⟨r3,n,e3,k3,p3⟩:=zds (λ n=>n<=6) (l:=[(4:Int),(6:Int),(2:Int),(0:Int)]) k2 (by omega);obtain⟨l,e4,j,hj,hl,hx⟩:=loop_downL (step:=λ s26=>yW s26) (λ j=>10000+j) (λ j (x:List Str)=>x.length<=j/\∀ y∈x,y.l.length<=16) 6 (λ j r x n hj hr hx hn hb=>by
   obtain⟨r',v,f1,f2,f3⟩:=of_ok (λ s=>s.l.length<=16) (l:=[(⟨[102,105,110,100,32,97]⟩:Str),(⟨[102,105,110,100,32,97,46,98]⟩:Str),(⟨[105,109,112,111,114,116,32,97]⟩:Str),(⟨[105,109,112,111,114,116,32,98,46,99]⟩:Str),(⟨[111,114,100,101,114,32,97,46,98]⟩:Str),(⟨[111,114,100,101,114,32,99]⟩:Str),(⟨[110,97,109,101,115]⟩:Str),(⟨[102,105,108,101,115]⟩:Str),(⟨[102,105,110,100,32,65]⟩:Str),(⟨[104,101,108,112]⟩:Str),(⟨[]⟩:Str)]) hr (by omega);have hxl:=hx.1;refine⟨r',x++[v],?_,f2.le (by omega),by simp;omega,λ y hy=>(List.mem_append.1 hy).elim (hx.2 y) λ hy=>by rw[List.mem_singleton.1 hy];exact f3⟩;show yW (r,x,n)=_;unfold yW;dsimp only;rw[Ke (by simp[cmpI];omega),f1,Kd,xb (by simp;omega) (by simp;omega),Kd,xx (by omega) (by omega),Kd]) (λ r x n hn=>by
   show yW (r,x,n)=_;unfold yW;dsimp only;rw[Kf (by simp[cmpI];omega)]) (by omega) (k3.le (by show 0+2200+2+1<=10000+((0:Nat):Int);omega)) (x:=[]) ⟨Nat.le_refl _,λ y hy=>by cases hy⟩ p3
 refine⟨s,q,l,?_,p1,p2,by omega,hx⟩;unfold j0;rw[h1,Kd,e1,Kd,e2,Kd,e3,Kd,e4,Kd]
end Go.Proofs.YtifgdhfcoaognaaGreatDoor
