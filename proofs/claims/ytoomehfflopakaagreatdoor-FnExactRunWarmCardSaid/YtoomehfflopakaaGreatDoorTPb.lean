import Derived.Test.YtoomehfflopakaaGreatDoorTI
import Derived.Test.YtoomehfflopakaaGreatDoorTKb
namespace Go.Proofs.YtoomehfflopakaaGreatDoor
open Go.RowKit
variable{d e:eK}{f:File}{a:GAct}{c i k r st ticks:Int}{g y:List (List Int)}{l:List eT}{path roots:List Int}{b x:List Stmt}{o:List Str}{j:Nat}{H:Option (List (List Int))}{p s:Str}{t:Tree}
def Hp(k:Int):Str:=(xi k).getD ⟨[]⟩
variable{α β γ:Type}{ys:List γ}
theorem Gf(n:Int):ez .neq n n=false:=by simp[ez]
theorem Rr(h1:0<=k)(h2:k<=4611686018427387904):∃ s,xi k=some s:=by
 unfold xi;by_cases hk:k<=0
 .rw[Ke (by simp[ez,hk])];exact⟨_,Z⟩
 .rw[Kf (by simp[ez];omega)];have key:∀ (m:Nat) (n:Int) (s:Str),0<=n->n<10 ^ m->n<=4611686018427387904->m<=20->(s.l.length:Int)<=40 - m->∃ o,wC (λ s8=>xG s8) (m+1) (n,s)=some o/\o.l.length<=40:=by
   intro m
   induction m with
   |zero=>
    intro n s h1 h2 _ _ h4;have hn:n=0:=by simp at h2;omega
    subst hn;refine⟨s,yD ?_,by omega⟩;unfold xG;rfl
   |succ m ih=>
    intro n s h1 h2 hb h3 h4;have h5:n.tdiv 10=n / 10:=Int.tdiv_eq_ediv_of_nonneg h1;have h6:n.tmod 10=n % 10:=Int.tmod_eq_emod_of_nonneg h1;by_cases hn:n<=0
    .refine⟨s,yD ?_,by omega⟩;unfold xG;rw[Kf (by simp[ez];omega)]
    .have hs:xG (n,s)=some (.inl (n / 10,⟨[rv (48+n % 10)]++s.l⟩)):=by
      unfold xG;simp only;rw[Ke (by simp[ez];omega),u9,Kd,h6,xa (by omega) (by omega),Kd,WU (by simp;omega),Kd,Nz (by omega) (by omega),h5];rfl
     rw[x9 hs];refine ih (n / 10) _ (by omega) ?_ (by omega) (by omega) (by simp;omega);have:(10:Int) ^ (m+1)=10*10 ^ m:=by rw[Int.pow_succ];omega
     omega
  have e:(10:Int) ^ 19=10000000000000000000:=by decide
  obtain⟨o,ho,hl⟩:=key 19 k ⟨[]⟩ h1 (by omega) h2 (by omega) (by simp);rw[jN ho (by decide),Kd,WU (by simp;omega)];exact⟨_,Z⟩
theorem JP(h1:0<=k)(h2:k<=4611686018427387904):xi k=some (Hp k):=by
 obtain⟨s,hs⟩:=Rr h1 h2;rw[Hp,hs];rfl
def rL(x:Stmt):Nat:=x.module.l.length+(x.name.l.length+(0))
theorem Tj{x:Stmt}{l:Int}(h0:kN x)(hl:0<=l)(h2:l<=1048576):XZ x l=some (gR (rL x) l):=by
 unfold XZ rL;exact tP hl h2 ((h0.eD Stmt.gA)).str (λ v1 l1 u1=>tP l1 u1 ((h0.eD Stmt.iM)).str (λ v2 l2 u2=>Cn l2))
def WY(xs:List Stmt):Nat:=xs.length+ml rL xs
theorem CJ{n:Nat}(h:WY x<=n):x.length<=n:=by unfold WY at h;omega
theorem Ti{l:Int}(h0:kN x)(hl:0<=l)(h2:l<=1048576):Xo x l=some (gR (WY x) l):=by
 unfold Xo WY;refine Hg h0.len (λ k hk l hn h3 h4=>?_) (λ l=>?_) hl h2
 .unfold Zr;simp only[Jn hk,bv,Xq hk,Kd,Tj (h0.mem (ba hk)) h3 h4];by_cases e:gR (rL x[k]) l<0
  .rw[Ke (by simp[ez,e]),Ke e]
  .rw[Kf (by simp[ez];omega),Kf e,fF (by omega)];rfl
 .unfold Zr;rw[Qh];rfl
def Q4(x:File):Nat:=x.pkg.l.length+(x.name.l.length+(WY x.body+(0)))
theorem Th{x:File}{l:Int}(h0:kN x)(hl:0<=l)(h2:l<=1048576):X2 x l=some (gR (Q4 x) l):=by
 unfold X2 Q4;exact tP hl h2 ((h0.eD File.gA)).str (λ v1 l1 u1=>tP l1 u1 ((h0.eD File.iv)).str (λ v2 l2 u2=>Hh l2 u2 (Ti (h0.eD File.oY) l2 u2) (λ v3 l3 u3=>Cn l3)))
def Wm(x:GAct):Nat:=Q4 x.file+(x.name.l.length+(0))
theorem Tg{x:GAct}{l:Int}(h0:kN x)(hl:0<=l)(h2:l<=1048576):WQ x l=some (gR (Wm x) l):=by
 unfold WQ Wm;exact Hh hl h2 (Th (h0.eD GAct.gA) hl h2) (λ v1 l1 u1=>tP l1 u1 ((h0.eD GAct.iM)).str (λ v2 l2 u2=>Cn l2))
def Yt(xs:List GAct):Nat:=xs.length+ml Wm xs
theorem P9{x:List GAct}{n:Nat}(h:Yt x<=n):x.length<=n:=by unfold Yt at h;omega
theorem Tf{x:List GAct}{l:Int}(h0:kN x)(hl:0<=l)(h2:l<=1048576):X3 x l=some (gR (Yt x) l):=by
 unfold X3 Yt;refine Hg h0.len (λ k hk l hn h3 h4=>?_) (λ l=>?_) hl h2
 .unfold Yh;simp only[Jn hk,bv,Xq hk,Kd,Tg (h0.mem (ba hk)) h3 h4];by_cases e:gR (Wm x[k]) l<0
  .rw[Ke (by simp[ez,e]),Ke e]
  .rw[Kf (by simp[ez];omega),Kf e,fF (by omega)];rfl
 .unfold Yh;rw[Qh];rfl
theorem NT{x y:Stmt}:X5 x y=some (decide (x=y)):=by
 have e:(x=y)=(x.kind=y.kind/\x.module=y.module/\x.level=y.level/\x.name=y.name/\x.value=y.value/\True):=by cases x;cases y;simp
 unfold X5;simp only[e];exact pE (tQ (pE (tQ (pE (Bk)))))
theorem NS{y:List Stmt}(h:x.length<=288230376151711744):Xp x y=some (decide (x=y)):=by
 unfold Xp;refine Ah (λ k hk hk2=>?_) ?_ (by omega)
 .unfold Zs;simp only[Jn hk,bv,Xq hk,Xq hk2,Kd,NT,fF (show k<4611686018427387904 by omega)];by_cases e:x[k]=y[k] <;> simp[e]
 .unfold Zs;rw[Qh];rfl
theorem NQ{x y:File}(h:Q4 x<=288230376151711744):X6 x y=some (decide (x=y)):=by
 have e:(x=y)=(x.root=y.root/\x.pkg=y.pkg/\x.name=y.name/\x.init=y.init/\x.stamp=y.stamp/\x.body=y.body/\True):=by cases x;cases y;simp
 unfold Q4 at h;unfold X6;simp only[e];exact pE (tQ (tQ (NR (pE (E0 (NS (CJ (by omega))) (Bk))))))
theorem NP{x y:GAct}(h:Wm x<=288230376151711744):WS x y=some (decide (x=y)):=by
 have e:(x=y)=(x.kind=y.kind/\x.file=y.file/\x.index=y.index/\x.name=y.name/\True):=by cases x;cases y;simp
 unfold Wm at h;unfold WS;simp only[e];exact pE (E0 (NQ (by omega)) (pE (tQ (Bk))))
theorem NO{x y:List GAct}(h:Yt x<=288230376151711744):YU x y=some (decide (x=y)):=by
 unfold Yt at h;unfold YU;refine Ah (λ k hk hk2=>?_) ?_ (by omega)
 .unfold Yj;simp only[Jn hk,bv,Xq hk,Xq hk2,Kd,NP (x:=x[k]) (y:=y[k]) (by have:=rB (f:=Wm) (ba hk);omega),fF (show k<4611686018427387904 by omega)];by_cases e:x[k]=y[k] <;> simp[e]
 .unfold Yj;rw[Qh];rfl
def Co(xs:List Int):Nat:=xs.length
theorem EZ{x y:List Int}(h:x.length<=288230376151711744):ZF x y=some (decide (x=y)):=by
 unfold ZF;refine Ah (λ k hk hk2=>?_) ?_ (by omega)
 .unfold Yi;simp only[Jn hk,bv,Xq hk,Xq hk2,Kd,fF (show k<4611686018427387904 by omega)];by_cases e:x[k]=y[k] <;> simp[e,ez]
 .unfold Yi;rw[Qh];rfl
theorem Ty{x:Stmt}:X4 x=some x:=by
 unfold X4;cases x;rfl
theorem Tx(h:WY x<=1048576):WR x=some x:=by
 unfold WY at h;unfold WR;rw[BY (by omega) (by omega) (by omega),Kd];have hl:zE (λ s=>jU x s) (List.replicate x.length td,0)=some x:=by
  refine Dh x td (λ k hk=>?_) (λ ys=>?_) (by omega) Z
  .unfold jU;simp only[Jn hk,bv,Xq hk,Kd,Ty,zA,AZ hk,tz (BV hk),fF (show k<4611686018427387904 by omega),Jo]
  .unfold jU;rw[Qh];rfl
 rw[hl];rfl
theorem Tv{x:File}(h:Q4 x<=1048576):JC x=some x:=by
 unfold Q4 at h;unfold JC;rw[Tx (x:=x.body) (by omega),Kd]
theorem Tt{x:GAct}(h:Wm x<=1048576):Qf x=some x:=by
 unfold Wm at h;unfold Qf;rw[Tv (x:=x.file) (by omega),Kd]
theorem Ts{x:List GAct}(h:Yt x<=1048576):ZE x=some x:=by
 unfold Yt at h;unfold ZE;rw[BY (by omega) (by omega) (by omega),Kd];have hl:zE (λ s=>qE x s) (List.replicate x.length tb,0)=some x:=by
  refine Dh x tb (λ k hk=>?_) (λ ys=>?_) (by omega) Z
  .unfold qE;simp only[Jn hk,bv,Xq hk,Kd,Tt (x:=x[k]) (by have:=rB (f:=Wm) (ba hk);omega),zA,AZ hk,tz (BV hk),fF (show k<4611686018427387904 by omega),Jo]
  .unfold qE;rw[Qh];rfl
 rw[hl];rfl
theorem Tw{x:List Int}(h:Co x<=1048576):qj x=some x:=by
 unfold Co at h;unfold qj;rw[BY (by omega) (by omega) (by omega),Kd];have hl:zE (λ s=>qD x s) (List.replicate x.length iZ,0)=some x:=by
  refine Dh x iZ (λ k hk=>?_) (λ ys=>?_) (by omega) Z
  .unfold qD;simp only[Jn hk,bv,Xq hk,Kd,zA,AZ hk,tz (BV hk),fF (show k<4611686018427387904 by omega),Jo]
  .unfold qD;rw[Qh];rfl
 rw[hl];rfl
theorem Rq(h:x.length<=1125899906842624)(h0:0<=k)(hB:k<=1152921504606846976):∃ y k',XB x k=some (y,k')/\k<=k'/\k'<=k+5*(x.length:Int):=by
 have hl:=Gd (step:=λ s=>wX s) (λ ys k=>(ys,k)) x 5 1170935903116328960 (λ ys k i hi hn hm h1 h2=>?_) (λ ys k hn=>?_) (by omega) h0 (by omega)
 .obtain⟨ys,k',r1,r2,r3,r4⟩:=hl;refine⟨ys,k',?_,r3,by omega⟩
  .unfold XB;rw[r1];rfl
 .unfold wX;refine⟨_,_,by simp only[Jn hi,bv,Xq hi,Kd,Jo,i64_in (n:=k+1) (by omega) (by omega),JP (k:=k+1) (by omega) (by omega),i64_in (n:=k+1+1) (by omega) (by omega),i64_in (n:=k+1+1+1) (by omega) (by omega),JP (k:=k+1+1+1) (by omega) (by omega),i64_in (n:=k+1+1+1+1) (by omega) (by omega),i64_in (n:=k+1+1+1+1+1) (by omega) (by omega),fF (show i<4611686018427387904 by omega)];rfl,by omega,by omega⟩
 .unfold wX;simp only[rC hn];rfl
theorem KA{x:List Int}(h:x.length<=1125899906842624)(h0:0<=k)(hB:k<=1152921504606846976):∃ y k',YJ x k=some (y,k')/\k<=k'/\k'<=k+1*(x.length:Int)/\YK y k=some k':=by
 have hl:=Gc (held:=λ y s=>jy y s) (step:=λ s=>jw s) (λ ys k=>(ys,k)) x 1 1170935903116328960 (λ ys k i hi hn hm h1 h2=>?_) (λ ys k hn=>?_) (λ ys k hn=>?_) (by omega) h0 (by omega)
 .obtain⟨ys,k',r1,r2,r3,r4,r5⟩:=hl;refine⟨ys,k',?_,r3,by omega,?_⟩
  .unfold YJ;rw[r1];rfl
  .unfold YK;rw[r5];rfl
 .unfold jw;refine⟨_,_,by simp only[Jn hi,bv,Xq hi,Kd,Jo,i64_in (n:=k+1) (by omega) (by omega),fF (show i<4611686018427387904 by omega)];rfl,by omega,by omega,λ zs hz hzi=>?_⟩;unfold jy;simp only[Ga hz (show i<x.length by omega),bv,zA,hzi,Kd,Gf,ne_eq,not_true,decide_false,cd,aP,bne_self_eq_false,not_true_eq_false,decide_not,i64_in (n:=k+1) (by omega) (by omega),fF (show i<4611686018427387904 by omega)]
  first | done | rfl | (simp[ez];omega) | simp
 .unfold jw;simp only[rC hn];rfl
 .unfold jy;simp only[rC hn];rfl
theorem Ro{x:List GAct}(h:Yt x<=1048576)(h0:0<=k)(hB:k<=576460752303423488):∃ y k',Wg x k=some (y,k')/\k<=k'/\k'<=k+5497566527488:=by
 unfold Yt at h;have hl:=Gd (step:=λ s=>jx s) (λ ys k=>(ys,k)) x 5242888 594475150812905472 (λ ys k i hi hn hm h1 h2=>?_) (λ ys k hn=>?_) (by omega) h0 (by omega)
 .obtain⟨ys,k',r1,r2,r3,r4⟩:=hl;refine⟨ys,k',?_,r3,by omega⟩
  .unfold Wg;rw[r1];rfl
 .unfold jx;have hm5:=rB (f:=Wm) hm;have hu5:Wm ys[i]=(ys[i].file.pkg.l.length+(ys[i].file.name.l.length+(WY ys[i].file.body+(0))))+(ys[i].name.l.length+(0)):=rfl;have hl5:ys[i].file.body.length<=1048576:=CJ (by omega);obtain⟨y5,k5,e5,a5,b5⟩:=Rq (x:=ys[i].file.body) (k:=k+1+1+1+1+1+1) (CJ (n:=1125899906842624) (by omega)) (by omega) (by omega);refine⟨_,_,by simp only[Jn hi,bv,Xq hi,Kd,Jo,i64_in (n:=k+1) (by omega) (by omega),JP (k:=k+1+1) (by omega) (by omega),i64_in (n:=k+1+1) (by omega) (by omega),JP (k:=k+1+1+1) (by omega) (by omega),i64_in (n:=k+1+1+1) (by omega) (by omega),u9 (m:=k+1+1+1+1) (n:=3),i64_in (n:=k+1+1+1+1) (by omega) (by omega),i64_in (n:=k+1+1+1+1+1) (by omega) (by omega),i64_in (n:=k+1+1+1+1+1+1) (by omega) (by omega),e5,i64_in (n:=k5+1) (by omega) (by omega),JP (k:=k5+1) (by omega) (by omega),i64_in (n:=k5+1+1) (by omega) (by omega),fF (show i<4611686018427387904 by omega)];rfl,by omega,by omega⟩
 .unfold jx;simp only[rC hn];rfl
theorem EY{x:List (List Int)}(h:x.length<=1048576)(he:∀ l∈x,l.length<=1048576):wL x y=some (decide (x=y)):=by
 unfold wL;refine Ah (λ k hk hk2=>?_) ?_ (by omega)
 .unfold Zt;have h1:=he x[k] (ba hk);simp only[Jn hk,bv,Xq hk,Xq hk2,Kd,EZ (x:=x[k]) (y:=y[k]) (by omega),fF (show k<4611686018427387904 by omega)];by_cases e:x[k]=y[k] <;> simp[e]
 .unfold Zt;rw[Qh];rfl
theorem Rp{x:List (List Int)}(h:x.length<=1048576)(he:∀ l∈x,l.length<=1048576)(h0:0<=k)(hB:k<=576460752303423488):∃ y k',Yk x k=some (y,k')/\k<=k'/\wy y k=some k':=by
 have hl:=Gc (held:=λ y s=>wZ y s) (step:=λ s=>wY s) (λ ys k=>(ys,k)) x 1048576 594475150812905472 (λ ys k i hi hn hm h1 h2=>?_) (λ ys k hn=>?_) (λ ys k hn=>?_) (by omega) h0 (by omega)
 .obtain⟨ys,k',r1,r2,r3,r4,r5⟩:=hl;refine⟨ys,k',?_,r3,?_⟩
  .unfold Yk;rw[r1];rfl
  .unfold wy;rw[r5];rfl
 .unfold wY;have hl0:=he _ hm;obtain⟨y0,k0,e0,a0,b0,c0⟩:=KA (x:=ys[i]) (k:=k) (by omega) (by omega) (by omega);refine⟨_,_,by simp only[Jn hi,bv,Xq hi,Kd,Jo,e0,fF (show i<4611686018427387904 by omega)];rfl,by omega,by omega,λ zs hz hzi=>?_⟩;unfold wZ;have hk0:ez .lss k0 (0:Int)=false:=by simp only[ez,dw];omega
  simp only[Ga hz (show i<x.length by omega),bv,zA,hzi,Kd,c0,hk0,aP,cd,fF (show i<4611686018427387904 by omega)]
 .unfold wY;simp only[rC hn];rfl
 .unfold wZ;simp only[rC hn];rfl
theorem Tm(hg:g.length<=1048576)(he:∀ l∈g,l.length<=1048576)(hH:H=some g):
  ((
   Yk g (1:Int)).bind λ a9=>
   (wy a9.1 (1:Int)).bind λ b6=>
   if(ez .lss b6 (0:Int))=true then(some false)
   else(if(ez .neq b6 a9.2)=true then(some false)
   else(H.bind λ b3=>
   (wL b3 g).bind λ b5=>
   if(!b5)=true then(some false)
   else((wy a9.1 (1:Int)).bind λ a8=>
   if(ez .lss a8 (0:Int))=true then(some false)
   else(if(ez .neq a8 a9.2)=true then(some false)
   else(some true))))))=some true:=by
 obtain⟨y,k',h1,h2,h4⟩:=Rp (x:=g) (k:=1) hg he (by omega) (by omega);have h5:ez .lss k' 0=false:=by simp[ez];omega
 simp only[h1,Kd,h4,h5,Gf,hH,EY (x:=g) (y:=g) hg he,aP,cd,decide_true,dz]
def Xs(l:List eT):Prop:=l.length<=1048576/\∀ d∈l,d.pkg.l.length<=1048576/\d.names.length<=1048576
theorem xH(a b c:Int):yo a b c=some (eR a b c):=rfl
def J6(r:Int)(p:Str)(d:eT):Bool:=ez .eql d.root r&&decide (d.pkg=p)
theorem MV(d:eT):J6 d.root d.pkg d=true:=by simp[J6,ez]
theorem Aj(h:l.length<=1048576):Zj l r p=some (xo (J6 r p) l):=by
 unfold Zj xU;have hl:zE (λ s4=>ye l (λ a0=>WH a0 r p) s4) 0=some (match l.findIdx? (J6 r p) with | some i=>(Sum.inr (i:Int):Unit⊕Int) | none=>Sum.inl ()):=by
  refine YL l _ (λ i=>Sum.inr i) _ (λ k x hx hlt=>?_) ?_ (by omega) Z
  .unfold ye;rw[zx,Ke (ab hlt),zA,hx,Kd];show Option.bind (some (J6 r p x)) _=_;rw[Kd,fF (by omega)];cases J6 r p x <;> rfl
  .unfold ye;rw[zx,Kf (by simp)]
 rw[hl];unfold xo
 grind
theorem tg(h:l.length<=1048576):Zo l r p=some (xo (J6 r p) l):=by
 unfold Zo;have hl:zE (λ s4=>qY l r p s4) 0=some (match l.findIdx? (J6 r p) with | some i=>(Sum.inr (i:Int):Unit⊕Int) | none=>Sum.inl ()):=by
  refine YL l _ (λ i=>Sum.inr i) _ (λ k x hx hlt=>?_) ?_ (by omega) Z
  .unfold qY;rw[zx,Ke (ab hlt),zA,hx,Kd,gd,Kd,fF (by omega)];unfold J6;cases ez .eql x.root r with
   | false=>rfl
   | true=>simp only[bd,bv,bA];cases decide (x.pkg=p) <;> rfl
  .unfold qY;rw[zx,Kf (by simp)]
 rw[hl];exact Bu _ _
def J1(S n:Int)(l:List eT)(k:Nat):Bool:=match l[k]? with
 | some d=>!((((!eR d.root 0 2||!zi d.pkg)||!eR d.stamp 0 S)||ez .gtr (d.names.length:Int) n)||(l.take k).any (J6 d.root d.pkg))
 | none=>true
def Yu(S n:Int)(l:List eT):Bool:=(List.range l.length).all (J1 S n l)&&ez .leq l.length 20
theorem Nx{S n:Int}(h:Xs l):XV l S n=some (Yu S n l):=by
 have hlen:=h.1;unfold XV;have hl:zE (λ s4=>qu l S n s4) 0=some (if(List.range l.length).any (λ k=>!J1 S n l k)=true then .inr false else .inl ()):=by
  refine Zv _ _ _ _ (λ k x hx hlt=>?_) ?_ (by rw[bo];omega) Z
  .rw[bo] at hlt;rw[co hlt] at hx;injection hx with hx;subst hx;obtain⟨d,hd,hm⟩:=j9 hlt;have hpk:ia d.pkg:=by have:=(h.2 d hm).1;unfold ia;omega
   have htl:(l.take k).length<=1048576:=by simp;omega
   have ht:J1 S n l k=!((((!eR d.root 0 2||!zi d.pkg)||!eR d.stamp 0 S)||ez .gtr (d.names.length:Int) n)||(l.take k).any (J6 d.root d.pkg)):=by unfold J1;rw[hd]
   unfold qu;rw[zx,Ke (ab hlt),zA,hd,Kd,Zc,Kd,XD hpk,Zc,Qn (by omega),fF (by omega),ht];cases eR d.root 0 2 with
   | false=>rfl
   |true=>
    cases zi d.pkg with
    | false=>rfl
    |true=>
     cases eR d.stamp 0 S with
     | false=>rfl
     |true=>
      cases ez .gtr _ n with
      | true=>rfl
      |false=>simp only[dz,bd,Bool.or_self,dd,wj,Kd];rw[Aj htl,Kd,WW];cases(l.take k).any _ <;> rfl
  .unfold qu;rw[bo,zx,Kf (by simp)]
 rw[hl,Kd,JE];unfold Yu
 grind
theorem I3(h:Xs l):Yd l=some (Yu 200 12 l):=by
 have hlen:=h.1;unfold Yd;have hl:zE (λ s4=>wU l s4) 0=some (if(List.range l.length).any (λ k=>!J1 200 12 l k)=true then .inr false else .inl ()):=by
  refine Zv _ _ _ _ (λ k x hx hlt=>?_) ?_ (by rw[bo];omega) Z
  .rw[bo] at hlt;rw[co hlt] at hx;injection hx with hx;subst hx;obtain⟨d,hd,hm⟩:=j9 hlt;have hpk:yZ d.pkg=some _:=Ke (by have:=(h.2 d hm).1;unfold gM;omega);have ht:J1 200 12 l k=!((((!eR d.root 0 2||!zi d.pkg)||!eR d.stamp 0 200)||ez .gtr (d.names.length:Int) 12)||(l.take k).any (J6 d.root d.pkg)):=by unfold J1;rw[hd]
   unfold wU;rw[zx,Ke (ab hlt),zA,hd,Kd,xH,Kd,fF (by omega),ht];cases eR d.root 0 2 with
   | false=>rfl
   |true=>
    rw[show(_ == false)=true from Z,wj,Kd,wj,hpk,Kd];cases zi d.pkg with
    | false=>rfl
    |true=>
     rw[show(_ == false)=true from Z,wj,Kd,wj,xH,Kd];cases eR d.stamp 0 200 with
     | false=>rfl
     |true=>
      rw[show(_ == false)=true from Z,wj,Kd,Kd,wj,tg hlen,Kd,Fq hd (MV d)];cases(l.take k).any _ with
      | true=>cases ez .gtr _ 12 <;> rfl
      |false=>rw[show(_ == false)=true from Z,wj,Kd];cases ez .gtr _ 12 <;> rfl
  .unfold wU;rw[bo,zx,Kf (by simp)]
 rw[hl,Kd,JE];unfold Yu
 grind
def E6(x:fj):Bool:=(Yu 200 12 x.dirs&&eR x.fills 0 1000)&&eR x.hits 0 1000
def WZ(x:eK):Bool:=(yh x.tree&&eR x.clock 0 200)&&Yu x.clock 0 x.dirs
theorem Qi{x:eK}(ht:ja x.tree)(h:Xs x.dirs):ww x=some (WZ x):=by
 unfold ww WZ;rw[XE ht,Kd,Zc,Nx h,gd,Kd,gd,Kd]
 grind
def plain(c:Int)(d:eT):Bool:=ez .gtr d.stamp c||ez .gtr d.names.length 0
theorem JG(hc:eR c 0 200=true)(l:List eT):Yu c 0 l=(!l.any (plain c)&&Yu 200 12 l):=by
 unfold eR at hc;rw[ac] at hc;have h1:=oD hc.1;have h2:=oD hc.2;unfold Yu;rw[<-Bool.and_assoc]
 congr 1
 rw[bT,am,ac,am,cC,bS];have key:∀ (k:Nat) (d:eT),l[k]?=some d->(J1 c 0 l k=true ↔ plain c d=false/\J1 200 12 l k=true):=by
  intro k d hd;unfold J1 plain eR;rw[hd];simp only[ez,cC,Bool.or_eq_false_iff,dY,ac,bB,dw];constructor
  .rintro ⟨⟨⟨⟨⟨a1,a2⟩,a3⟩,a4,a5⟩,a6⟩,a7⟩
   and_intros <;> first | assumption | omega
  .rintro ⟨⟨b1,b2⟩,⟨⟨⟨⟨a1,a2⟩,a3⟩,a4,a5⟩,a6⟩,a7⟩
   and_intros <;> first | assumption | omega
 constructor
 .intro h;refine⟨λ d hd=>?_,λ k hk=>?_⟩
  .obtain⟨k,hk⟩:=aR hd;rw[((key k d hk).1 (h k (aA.2 (zJ hk)))).1]
   decide
  .obtain⟨d,hd,_⟩:=j9 (aA.1 hk);exact((key k d hd).1 (h k hk)).2
 .rintro ⟨ha,hb⟩ k hk
  obtain⟨d,hd,hm⟩:=j9 (aA.1 hk);exact(key k d hd).2 ⟨by simpa using ha d hm,hb k hk⟩
theorem XF{x:eK}(ht:ja x.tree)(h:Xs x.dirs):js x=some (WZ x):=by
 have hlen:=h.1;unfold js;have hl:zE (λ s4=>wV x s4) 0=some (if x.dirs.any (plain x.clock)=true then(Sum.inr false:Unit⊕Bool) else .inl ()):=by
  refine Zv x.dirs _ _ _ (λ k d hd hlt=>?_) ?_ (by omega) Z
  .unfold wV plain;rw[zx,Ke (ab hlt),zA,hd,Kd,gd,Kd,fF (by omega)];cases ez .gtr d.stamp x.clock with
   | true=>rfl
   | false=>simp;cases ez .gtr _ 0 <;> rfl
  .unfold wV;rw[zx,Kf (by simp)]
 have e1:yn x.tree=some _:=Ke ht;rw[hl,Kd];unfold WZ;cases hc:eR x.clock 0 200 with
 |true=>
  rw[JG hc];cases x.dirs.any _ with
  | true=>cases yh x.tree <;> rfl
  |false=>
   rw[Kf (by decide),dP,e1,Kd,xH,hc,I3 h,gd,Kd,gd,Kd];cases yh x.tree with
   | false=>rfl
   | true=>cases Yu 200 12 x.dirs <;> rfl
 |false=>
  cases x.dirs.any _ with
  | true=>cases yh x.tree <;> rfl
  |false=>rw[Kf (by decide),dP,e1,Kd,xH,hc,I3 h,gd,Kd,gd,Kd];cases yh x.tree <;> rfl
theorem Ms(hs:s.l.length<=4611686018427387904):∃ a b,qh s ⟨[46]⟩=some ((((zC s dot)[0]?).getD fG),a,b):=by
 have hge:=Go.Lib.indexByte_ge s.l 46;unfold qh xA;rw[show yQ s ⟨[46]⟩=some _ from Z,Kd,jE];cases hc:ez .geq _ 0 with
 |false=>
  rw[Kf (by decide),Kd];have h0:Lib.indexByte s.l 46<0:=by have:=bM hc;omega
  have h1:fO dot s.l=[s.l]:=X7 46 s.l h0;rw[h1];exact⟨_,_,Z⟩
 |true=>
  have h0:=oD hc;obtain⟨h1,h2⟩:=X8 46 s.l h0;obtain⟨n,hn⟩:∃ n:Nat,Lib.indexByte s.l 46=n:=⟨_,(bN h0).symm⟩;rw[hn] at h1 h2 ⊢;have h3:fO dot s.l=s.l.take n::fO 46 _:=h2;have hl:n+1<=s.l.length:=by omega
  rw[Ke Z,te (by omega),Kd,show((n:Int)+((⟨[46]⟩:Str).l.length:Int))=((n:Int)+1) from Z,xa (by omega) (by omega),Kd,show((n:Int)+1)=((n+1:Nat):Int) from Z,Qm hl,Kd,Kd,h3];exact⟨_,_,Z⟩
def below(s p:Str):Str:=if p=fG then s else⟨s.l.drop (p.l.length+1)⟩
def oI(s p:Str):Str:=((zC (below s p) dot)[0]?).getD fG
theorem Dl(s p:Str):(below s p).l.length<=s.l.length:=by
 unfold below
 grind
theorem Da(s p:Str):(zC (below s p) dot)[0]?=some (oI s p)/\(oI s p).l.length<=s.l.length+1:=by
 obtain⟨x,hx,hm⟩:=j9 (rD _ dot);have h1:oI s p=x:=by unfold oI;rw[hx];rfl
 have h2:=KG hm;have h3:=Dl s p
 grind
theorem Ez(h:p=fG\/p.l.length+1<=s.l.length)(hs:s.l.length<=1048576):
  (if(decide (p≠(⟨[]⟩:Str)))=true then((i64 ((p.l.length:Int)+(1:Int))).bind λ a8=>(nk s a8).bind λ a9=>some a9) else(some s))=some (below s p):=by
 unfold below fG;by_cases he:p=⟨[]⟩
 .rw[Kf (by simp[he]),Ke he]
 .have h2:=h.resolve_left he;rw[Ke (by simp[he]),Kf he,fF (by omega),Kd,Qm h2];rfl
theorem KN(hu:under s p=true)(hne:s≠p):p=fG\/p.l.length+1<=s.l.length:=by
 unfold under at hu;rw[bK,bK,ac] at hu;rcases hu with(h | h) | h
 .exact .inl (oD h)
 .exact absurd (oD h) hne
 .have:=oD h.1;exact .inr (by omega)
theorem NX(h:p=fG\/p.l.length+1<=s.l.length)(hs:s.l.length<=1048576):Zq s p=some (oI s p):=by
 unfold Zq;have hl:=Dl s p;rw[Ez h hs,Kd,show qJ _ (UInt8.ofNat 46)=some (zC _ dot) from Ke (by unfold gM;omega),Kd];rw[show eN _ (0:Int)=some _ from(zA _ 0).trans (Da s p).1];rfl
def star:Str:=⟨[42]⟩
def QQ(r:Int)(p:Str)(f:File):List Str:=
 if ez .neq f.root r=true then[] else if f.pkg=p then[if f.init=true then star else f.name] else if(zm f.pkg&&under f.pkg p)=true then[⟨(oI f.pkg p).l++[47]⟩] else[]
theorem OH(r:Int)(p:Str)(f:File):(QQ r p f).length<=1:=by
 unfold QQ
 grind
theorem Ak(r:Int)(p:Str)(l:List File):(l.flatMap (QQ r p)).length<=l.length:=by
 induction l with
 | nil=>exact al _
 | cons f l ih=>have:=OH r p f;grind
theorem GU{l:List File}{k:Nat}(hf:l[k]?=some f):(l.take (k+1)).flatMap (QQ r p)=(l.take k).flatMap (QQ r p)++QQ r p f:=by
 rw[bp,hf,List.flatMap_append];simp
theorem Re(ht:ja t)(hv:yh t=true)(hp:zi p=true):WI t r p=some (JF (t.files.flatMap (QQ r p))):=by
 unfold WI;have hlen:=YW hv;have hpl:=zX hp;have hrl:=Ak r p t.files;have hl:zE (λ s5=>jS t r p s5) ([],(0:Int))=some (t.files.flatMap (QQ r p)):=by
  refine YV t.files.length (λ k=>((t.files.take k).flatMap _,(k:Int))) (λ k hk=>?_) (by unfold jS;simp only;rw[zx,Kf (by simp),aQ]) (by omega) Z;obtain⟨f,hf,hm⟩:=j9 hk;have h1:=Ak r p (t.files.take k);rw[aJ] at h1;have hsm:=ht.2 f hm;rw[GU hf];unfold jS;simp only;rw[zx,Ke (ab hk),zA,hf,Kd,fF (k:=k) (by omega)];generalize (t.files.take k).flatMap _=out at h1 ⊢;have happ:∀ x:Str,fE 16 out [x]=some _:=λ x=>yj (by simp;omega) (by simp;omega)
  have nf:¬ (false=true):=by decide
  have pt:(true=true):=rfl;unfold QQ;cases ez .neq f.root r with
  | true=>rw[Ke pt,Ke pt,aO];rfl
  |false=>
   rw[Kf nf,Kf nf];by_cases hpk:f.pkg=p
   .rw[Ke (ab hpk),Ke hpk,happ,happ];cases f.init <;> rfl
   .rw[Kf (by simp[hpk]),Kf hpk,KI hsm.AG (by omega),Kd,hp,Bool.and_true];cases hu:zm f.pkg&&under f.pkg p with
    | false=>rw[Kf nf,Kf nf,aO];rfl
    |true=>rw[ac] at hu;have hnl:=yt hu.1;have hbl:=Dl f.pkg p;obtain⟨a,b,hc⟩:=Ms (s:=below f.pkg p) (by omega);have hfl:=(Da f.pkg p).2;rw[Ke pt,Ke pt,Ez (KN hu.2 hpk) (by omega),Kd,hc,Kd];show Option.bind _ _=_;rw[WU (by show(oI f.pkg p).l.length+1<=_;omega),Kd,happ];rfl
 rw[hl,Kd,SH (by omega),Kd]
theorem U0(h:zi s=true):zm s=decide (s≠(⟨[]⟩:Str)):=by
 unfold zi at h;by_cases he:s=fG
 .rw[he,Zd];rfl
 .have:zm s=true:=by simpa[he] using h
  rw[this];exact(ab he).symm
theorem VK(h:z9 f=true)(hi:f.init=false):f.name≠⟨[]⟩:=by
 unfold z9 at h;split at h
 .cases h
 .rw[hi,Kf (by decide),ac] at h;have:=(wB h.1).1;intro e;rw[e] at this;simp at this
theorem Rf(ht:ja t)(hv:yh t=true)(hp:zi p=true):WL t r p=some (JF (t.files.flatMap (QQ r p))):=by
 unfold WL;have hlen:=YW hv;have hpl:=zX hp;have hl:zE (λ s5=>jT t r p s5) ([],(0:Int))=some ((t.files.flatMap (QQ r p)).foldl qa []):=by
  refine YV t.files.length (λ k=>(((t.files.take k).flatMap _).foldl qa [],(k:Int))) (λ k hk=>?_) (by unfold jT;simp only;rw[zx,Kf (by simp),aQ]) (by omega) Z;obtain⟨f,hf,hm⟩:=j9 hk;have h1:=Ak r p (t.files.take k);have h2:=OB ((t.files.take k).flatMap (QQ r p)) [];rw[aJ] at h1;rw[cx] at h2;have hsm:=ht.2 f hm;have hvf:=jO hv hm;have hvp:=qk hvf;rw[GU hf,List.foldl_append];unfold jT;simp only;rw[zx,Ke (ab hk),zA,hf,Kd,fF (by omega)];generalize ((t.files.take k).flatMap _).foldl qa []=out at h2 ⊢;have hins:∀ x:Str,Y1 out x=some _:=λ x=>Ke (by omega)
  have nf:¬ (false=true):=by decide
  have pt:(true=true):=rfl;unfold QQ;cases ez .neq f.root r with
  | true=>rw[Ke pt,Ke pt];rfl
  |false=>
   rw[Kf nf,Kf nf];by_cases hpk:f.pkg=p
   .rw[ab hpk,Ke hpk];cases hi:f.init with
    | true=>rw[show(true&&true)=true from Z,Ke pt,Ke pt,Kd,Ke (show decide _=true from Z),hins];rfl
    |false=>rw[show(true&&false)=false from Z,Kf nf,Kf nf,Ke pt,Kd,Ke (ab (VK hvf hi)),hins];rfl
   .rw[cS hpk,Kf hpk,show(false&&f.init)=false from Z,Kf nf,Kf nf,U0 hvp,show WC f.pkg p=some _ from Ke (by omega)];cases he:decide (f.pkg≠_) with
    | false=>rfl
    |true=>
     rw[show((true:Bool) == true)=true from Z,wj,Kd,bA];cases hu:under f.pkg p with
     | false=>rfl
     |true=>have hnl:=zX hvp;have hfl:=(Da f.pkg p).2;rw[Ke pt,Ke pt,NX (KN hu hpk) (by omega),Kd,WU (by show(oI f.pkg p).l.length+1<=_;omega),Kd,Kd,Ke (by simp),hins];rfl
 rw[hl];show some _=_
 congr 1
 refine Ew (Oz List.Pairwise.nil) (I2 _).1 λ x=>?_
 rw[OA,(I2 _).2];simp
def lT(l:List eT)(r:Int)(p:Str):Option Nat:=l.findIdx? (J6 r p)
theorem vR{d:eT}:J6 r p d=true ↔ d.root=r/\d.pkg=p:=by simp[J6,ez]
theorem Wt{k:Nat}(h:lT l r p=some k):k<l.length/\l[k]?=some (l.getD k default)/\(l.getD k default).root=r/\(l.getD k default).pkg=p:=by
 obtain⟨hk,h1,_⟩:=aU.1 h;have e:l.getD k default=l[k]:=by simp[cA,aa hk]
 rw[e];exact⟨hk,aa hk,vR.1 h1⟩
theorem Nw(h:lT l r p=none):∀ x∈l,¬ (x.root=r/\x.pkg=p):=λ x hx hk=>by
 have:=bC.1 h x hx;rw[vR.2 hk] at this;cases this
def nL(d:eK)(r:Int)(p:Str):Int:=match lT d.dirs r p with | some k=>(d.dirs.getD k default).stamp | none=>0
def sM(t:Tree)(r:Int)(p:Str):List Str:=JF (t.files.flatMap (QQ r p))
def nG(n:Int):Int:=if n+1<=1000 then n+1 else 1000
def oJ(d:eK)(r:Int)(p:Str):eT:=⟨r,p,nL d r p,sM d.tree r p⟩
def qT(f:fj)(d:eK)(r:Int)(p:Str):fj×List Str:=
 match lT f.dirs r p with
 |some k=>if(f.dirs.getD k default).stamp=nL d r p then(⟨f.dirs,f.fills,nG f.hits⟩,(f.dirs.getD k default).names)
  else(⟨f.dirs.set k (oJ d r p),nG f.fills,f.hits⟩,sM d.tree r p)
 | none=>(⟨if f.dirs.length<20 then f.dirs++[oJ d r p] else f.dirs,nG f.fills,f.hits⟩,sM d.tree r p)
def mark(s:Str):Str:=⟨s.l++[47]⟩
def we(d:eK)(p s:Str):fj->List Int->List Int->fj×Spec
 | f,acc,[]=>(f,if ez .gtr acc.length 0=true then⟨3,-1,acc⟩ else ot)
 |f,acc,r::rs=>
  if(jB (qT f d r p).2 (mark s)&&ez .geq (qU d.tree.files ⟨r,child p s,⟨[]⟩,true,0,[]⟩) 0)=true then((qT f d r p).1,⟨2,qU d.tree.files ⟨r,child p s,⟨[]⟩,true,0,[]⟩,[r]⟩)
  else if(jB (qT f d r p).2 s&&ez .geq (qU d.tree.files ⟨r,p,s,false,0,[]⟩) 0)=true then((qT f d r p).1,⟨1,qU d.tree.files ⟨r,p,s,false,0,[]⟩,[]⟩)
  else we d p s (qT f d r p).1 (if(jB (qT f d r p).2 (mark s)&&na d.tree.files r (child p s))=true then acc++[r] else acc) rs
def nv(l:List eT):Prop:=l.length<=20/\(∀ x∈l,eR x.root 0 2=true/\zi x.pkg=true/\eR x.stamp 0 200=true/\x.names.length<=12)/\(∀ (i j:Nat) (x y),l[i]?=some x->l[j]?=some y->i<j->¬ (x.root=y.root/\x.pkg=y.pkg))
theorem KB:Yu 200 12 l=true ↔ nv l:=by
 have key:∀ (k:Nat) (d:eT),l[k]?=some d->(J1 200 12 l k=true ↔ (eR d.root 0 2=true/\zi d.pkg=true/\eR d.stamp 0 200=true/\d.names.length<=12)/\∀ (i:Nat) (x:eT),l[i]?=some x->i<k->¬ (x.root=d.root/\x.pkg=d.pkg)):=by
  intro k d hd;unfold J1;rw[hd];simp only[cC,Bool.or_eq_false_iff,dY,bS];constructor
  .rintro ⟨⟨⟨⟨a1,a2⟩,a3⟩,a4⟩,a5⟩
   refine⟨⟨a1,a2,a3,?_⟩,λ i x hx hi he=>?_⟩
   .simp[ez] at a4;omega
   .refine a5 x ?_ (vR.2 he);have:(l.take k)[i]?=some x:=by rw[aw,Ke hi,hx]
    exact ae this
  .rintro ⟨⟨a1,a2,a3,a4⟩,a5⟩
   refine⟨⟨⟨⟨a1,a2⟩,a3⟩,by simp[ez];omega⟩,λ x hx he=>?_⟩;obtain⟨i,hi⟩:=aR hx;have hik:i<k:=by have:=zJ hi;simp at this;omega
   rw[aw,Ke hik] at hi;exact a5 i x hi hik (vR.1 he)
 unfold Yu nv;rw[ac,am];constructor
 .rintro ⟨h1,h2⟩
  refine⟨by simp[ez] at h2;omega,λ x hx=>?_,λ i j x y hx hy hij=>?_⟩
  .obtain⟨k,hk⟩:=aR hx;exact((key k x hk).1 (h1 k (aA.2 (zJ hk)))).1
  .exact((key j y hy).1 (h1 j (aA.2 (zJ hy)))).2 i x hx hij
 .rintro ⟨h1,h2,h3⟩
  refine⟨λ k hk=>?_,by simp[ez];omega⟩;obtain⟨d,hd,hm⟩:=j9 (aA.1 hk);exact(key k d hd).2 ⟨h2 d hm,λ i x hx hi=>h3 i k x d hx hd hi⟩
def km(f:fj):Prop:=nv f.dirs/\eR f.fills 0 1000=true/\eR f.hits 0 1000=true
theorem NW{f:fj}:E6 f=true ↔ km f:=by
 unfold E6 km;rw[ac,ac,KB,and_assoc]
structure gg(d:eK):Prop where
 tree:yh d.tree=true
 clock:0<=d.clock/\d.clock<=200
 dirs:Yu d.clock 0 d.dirs=true
theorem Ny(h:WZ d=true):gg d:=by
 unfold WZ at h;rw[ac,ac] at h;have:=h.1.2;unfold eR at this;rw[ac] at this;exact⟨h.1.1,⟨oD this.1,oD this.2⟩,h.2⟩
theorem gg.ok(h:gg d):nv d.dirs:=by
 have h1:=h.dirs;rw[JG (by unfold eR;simp[ez];exact h.clock),ac] at h1;exact KB.1 h1.2
theorem Cq{n:Int}(h:eR n 0 1000=true):eR (nG n) 0 1000=true:=by
 unfold eR nG at*;rw[ac] at*;have h1:=oD h.1;split
 .exact⟨ab (by omega),ab (by assumption)⟩
 .exact⟨by decide,by decide⟩
theorem S3(h:gg d)(r:Int)(p:Str):eR (nL d r p) 0 200=true:=by
 unfold nL;cases hk:lT d.dirs r p with
 | none=>exact(by decide:eR 0 0 200=true)
 |some k=>obtain⟨_,h2,_⟩:=Wt hk;exact(h.ok.2.1 _ (ae h2)).2.2.1
theorem F5(h:yh t=true)(r:Int)(p:Str):(sM t r p).length<=12:=by
 have h1:=Kw (t.files.flatMap (QQ r p));have h2:=Ak r p t.files;have h3:=YW h;unfold sM;omega
theorem Bl{f:fj}(hf:km f)(hd:gg d)(hr:eR r 0 2=true)(hp:zi p=true):km (qT f d r p).1:=by
 obtain⟨⟨h1,h2,h3⟩,h4,h5⟩:=hf;have hx:eR (oJ d r p).root 0 2=true/\zi (oJ d r p).pkg=true/\eR (oJ d r p).stamp 0 200=true/\(oJ d r p).names.length<=12:=⟨hr,hp,S3 hd r p,F5 hd.tree r p⟩;unfold qT;cases hk:lT f.dirs r p with
 |some k=>
  obtain⟨k1,k2,k3,k4⟩:=Wt hk;simp only;split
  .exact⟨⟨h1,h2,h3⟩,h4,Cq h5⟩
  .have hget:∀ (i:Nat) (x:eT),(f.dirs.set k (oJ d r p))[i]?=some x->∃ y:eT,f.dirs[i]?=some y/\x.root=y.root/\x.pkg=y.pkg:=λ i x hi=>by
    by_cases e:k=i
    .subst e;rw[aI k1] at hi;injection hi with hi;subst hi;exact⟨_,k2,k3.symm,k4.symm⟩
    .rw[aG e] at hi;exact⟨x,hi,Z,Z⟩
   refine⟨⟨by simpa using h1,λ x hm=>?_,λ i j x y hi hj hij he=>?_⟩,Cq h4,h5⟩
   .rcases cF hm with hm | rfl
    .exact h2 x hm
    .exact hx
   .obtain⟨x',a1,a2,a3⟩:=hget i x hi;obtain⟨y',b1,b2,b3⟩:=hget j y hj;exact h3 i j x' y' a1 b1 hij ⟨by rw[<-a2,<-b2];exact he.1,by rw[<-a3,<-b3];exact he.2⟩
 |none=>
  have hno:=Nw hk;refine⟨?_,Cq h4,h5⟩;show nv (if f.dirs.length<20 then f.dirs++[oJ d r p] else f.dirs);split
  .refine⟨by simp;omega,λ x hm=>?_,λ i j x y hi hj hij he=>?_⟩
   .rcases bg.1 hm with hm | hm
    .exact h2 x hm
    .rw[aH.1 hm];exact hx
   .have hjl:=zJ hj;simp at hjl;rw[aN (by omega)] at hi;by_cases e:j<f.dirs.length
    .rw[aN e] at hj;exact h3 i j x y hi hj hij he
    .have e2:j=f.dirs.length:=by omega
     subst e2;rw[aL (al _)] at hj;simp only[cv,List.getElem?_cons_zero] at hj;injection hj with hj;subst hj;exact hno x (ae hi) he
  .exact⟨h1,h2,h3⟩
theorem GV{d:eK}(hd:gg d){p s:Str}(hp:zi p=true):∀ (rs acc:List Int) (f:fj),km f->(∀ r∈rs,eR r 0 2=true)->(∀ r∈acc,eR r 0 2=true)->km (we d p s f acc rs).1/\∀ r∈(we d p s f acc rs).2.roots,eR r 0 2=true
 |[],acc,f,h,_,ha=>by
  unfold we;refine⟨h,?_⟩;simp only;split
  .exact ha
  .intro r hr;cases hr
 |r::rs,acc,f,h,hr,ha=>by
  have h1:=Bl h hd (hr r (by simp)) hp;unfold we;split
  .exact⟨h1,λ x hx=>by rw[aH.1 hx];exact hr r (by simp)⟩
  .split
   .exact⟨h1,λ x hx=>by cases hx⟩
   .refine GV hd hp rs _ _ h1 (λ x hx=>hr x (by simp[hx])) λ x hx=>?_
    split at hx
    .rcases bg.1 hx with hx | hx
     .exact ha x hx
     .rw[aH.1 hx];exact hr r (by simp)
    .exact ha x hx
theorem GB(h:xY path=true):∀ r∈path,eR r 0 2=true:=λ r hr=>by
 unfold xY nc at h;rw[am] at h;obtain⟨k,hk⟩:=aR hr;have:=h k (aA.2 (zJ hk));unfold oR at this;rw[hk] at this;simp only at this;cases hi:eR r 0 2 with
 | true=>rfl
 | false=>rw[hi] at this;simp at this
theorem Fp{p:α->Bool}{l:List α}(h:ez .geq (xo p l) 0=true):∃ k x,xo p l=((k:Nat):Int)/\l[k]?=some x/\p x=true:=by
 unfold xo at h ⊢;cases hk:l.findIdx? p with
 | none=>rw[hk] at h;exact absurd h (by decide:¬ ez .geq _ 0=true)
 |some k=>obtain⟨h1,h2,_⟩:=aU.1 hk;exact⟨k,l[k],Z,aa h1,h2⟩
def Tn(t:Tree)(n:Str)(out:Spec):Prop:=out.file<0\/∃ k f,out.file=(k:Nat)/\t.files[k]?=some f/\xe f=n
theorem KO{d:eK}{p s:Str}:∀ (rs acc:List Int) (f:fj),Tn d.tree (child p s) (we d p s f acc rs).2
 |[],acc,f=>by
  unfold we;simp only;split
  .exact .inl (by show(-1:Int)<0;decide)
  .exact .inl (by decide)
 |r::rs,acc,f=>by
  unfold we;split
  .rename_i hc;rw[ac] at hc;obtain⟨k,x,h1,h2,h3⟩:=Fp hc.2;unfold wo at h3;simp only[ac,beq_iff_eq,bB] at h3;refine .inr ⟨k,x,h1,h2,?_⟩;unfold xe;rw[h3.1.2];exact h3.1.1.2
  .split
   .rename_i hc;rw[ac] at hc;obtain⟨k,x,h1,h2,h3⟩:=Fp hc.2;unfold wo at h3;simp only[ac,beq_iff_eq,bB] at h3;refine .inr ⟨k,x,h1,h2,?_⟩;unfold xe;rw[h3.1.2,h3.1.1.2,h3.2];rfl
   .exact KO rs _ _
theorem Oc(l:List Str)(x:Str):jB l x=l.any λ y=>decide (y=x):=by
 unfold jB vu;rw[WW]
theorem Fk{l:List Str}{x:Str}(h:l.length<=1048576):ZY l x=some (jB l x):=by
 unfold ZY Js;have hl:zE (λ s4=>ZX l x s4) 0=some (match l.findIdx? (λ y=>decide (y=x)) with | some i=>(Sum.inr (i:Int):Unit⊕Int) | none=>Sum.inl ()):=by
  refine YL l (λ y=>decide _) (λ i=>Sum.inr i) _ (λ k y hx hlt=>?_) ?_ (by omega) Z
  .unfold ZX;rw[zx,Ke (ab hlt),zA,hx,Kd,fF (by omega)];cases decide (y=x) <;> rfl
  .unfold ZX;rw[zx,Kf (by simp)]
 have e:Option.bind (zE (λ s4=>ZX l x s4) 0) (Sum.elim (λ _=>some (-1)) some)=some (xo (λ y=>decide (y=x)) l):=by
  rw[hl];unfold xo;cases l.findIdx? (λ y=>decide (y=x)) <;> rfl
 rw[e,Kd];rfl
theorem Fj{l:List Str}{x:Str}(h:l.length<=1048576):zQ l x=some (jB l x):=by
 unfold zQ xh;have hl:zE (λ s4=>zY l x s4) 0=some (match l.findIdx? (λ y=>decide (x=y)) with | some i=>(Sum.inr (i:Int):Unit⊕Int) | none=>Sum.inl ()):=by
  refine YL l (λ y=>decide _) (λ i=>Sum.inr i) _ (λ k y hx hlt=>?_) ?_ (by omega) Z
  .unfold zY;rw[zx,Ke (ab hlt),zA,hx,Kd,fF (by omega)];cases decide (x=y) <;> rfl
  .unfold zY;rw[zx,Kf (by simp)]
 have e:Option.bind (zE (λ s4=>zY l x s4) 0) (Sum.elim (λ _=>some (-1)) some)=some (xo (λ y=>decide (x=y)) l):=by
  rw[hl];unfold xo;cases l.findIdx? (λ y=>decide (x=y)) <;> rfl
 rw[e,Kd,WW,Oc]
 grind
theorem tn(l:List eT)(r:Int)(p:Str):xo (J6 r p) l=match lT l r p with | some i=>((i:Nat):Int) | none=>-1:=rfl
theorem nv.sm(h:nv l):l.length<=1048576:=by have:=h.1;omega
theorem km.sm{f:fj}(h:km f):f.dirs.length<=1048576:=h.1.sm
theorem gg.sm{d:eK}(h:gg d):d.dirs.length<=1048576:=h.ok.sm
theorem nh{n a b:Int}(h:eR n a b=true):a<=n/\n<=b:=by
 unfold eR at h;rw[ac] at h;exact⟨oD h.1,oD h.2⟩
theorem Hd(h:d.dirs.length<=1048576):Xh d r p=some (nL d r p)/\Xk d r p=some (nL d r p):=by
 unfold Xh Xk;rw[Aj h,tg h,Kd,tn];unfold nL;cases hk:lT d.dirs r p with
 | none=>exact⟨Z,Z⟩
 |some k=>
  obtain⟨_,h2,_⟩:=Wt hk;have hc:ez .lss ((k:Nat):Int) 0=false:=by simp[ez]
  simp only;rw[hc,Kf (by decide),zA,h2];exact⟨Z,Z⟩
theorem TD{n:Int}:(if(1000:Int)<n+1 then(1000:Int) else n+1)=nG n:=by unfold nG;split <;> split <;> omega
theorem TE{n:Int}:(if n+1<(1000:Int) then n+1 else(1000:Int))=nG n:=by unfold nG;split <;> split <;> omega
theorem KP{f:fj}(hf:km f)(hd:gg d)(r:Int)(p:Str):(qT f d r p).2.length<=12:=by
 have hl:=F5 hd.tree r p;unfold qT;cases hk:lT f.dirs r p with
 | none=>exact hl
 |some k=>
  obtain⟨_,h2,_⟩:=Wt hk;simp only;split
  .exact(hf.1.2.1 _ (ae h2)).2.2.2
  .exact hl
section
variable{f:fj}
theorem MU(hf:km f)(hd:gg d)(ht:ja d.tree)(hp:zi p=true):Y3 f d r p=some (qT f d r p):=by
 have hfl:=hf.1.1;have hfi:=nh hf.2.1;have hhi:=nh hf.2.2;unfold Y3;rw[(Hd hd.sm).1,Kd,Aj hf.sm,Kd,tn,xa (by omega) (by omega),xa (by omega) (by omega),Re ht hd.tree hp];simp only[Kd,TD];unfold qT;cases hk:lT f.dirs r p with
 |none=>
  simp only;rw[show ez .geq _ 0=false from Z,show((false:Bool) == true)=false from Z,Zu,Kd,cp,Kf (by decide),Kf (by decide)];by_cases hl:f.dirs.length<20
  .rw[Ke (by simp[ez];omega),yj (by simp;omega) (by simp;omega),Ke hl];rfl
  .rw[Kf (by simp[ez];omega),Kf hl];rfl
 |some k=>
  obtain⟨h1,h2,h3,h4⟩:=Wt hk;have hc:ez .geq ((k:Nat):Int) 0=true:=by simp[ez]
  simp only;rw[hc,show((true:Bool) == true)=true from Z,wj,zA,h2,Kd,bA];generalize f.dirs.getD k default=x at h2 h3 h4 ⊢;by_cases hs:x.stamp=nL d r p
  .rw[Ke (by simp[ez,hs]),Ke hs,Kd]
  .rw[Kf (by simp[ez,hs]),Kf hs,Ke Z];rfl
theorem NV(hf:km f)(hd:gg d)(ht:ja d.tree)(hp:zi p=true):Jz f d r p=some (qT f d r p):=by
 have hfl:=hf.1.1;have hfi:=nh hf.2.1;have hhi:=nh hf.2.2;unfold Jz;rw[(Hd hd.sm).2,tg hf.sm,Kd,tn,Kd,xa (by omega) (by omega),xa (by omega) (by omega),Rf ht hd.tree hp];simp only[Kd,TE];unfold qT;cases hk:lT f.dirs r p with
 |none=>
  simp only;rw[show ez .geq _ 0=false from Z,show((false:Bool) == true)=false from Z,Zu,Kd,cp,Kf (by decide),Kf (by decide)];by_cases hl:f.dirs.length<20
  .rw[Ke (by simp[ez];omega),yj (by simp;omega) (by simp;omega),Ke hl];rfl
  .rw[Kf (by simp[ez];omega),Kf hl];rfl
 |some k=>
  obtain⟨h1,h2,h3,h4⟩:=Wt hk;have hc:ez .geq ((k:Nat):Int) 0=true:=by simp[ez]
  simp only;rw[hc,show((true:Bool) == true)=true from Z,wj,zA,h2,Kd,bA];generalize f.dirs.getD k default=x at h2 h3 h4 ⊢;by_cases hs:x.stamp=nL d r p
  .rw[Ke (by simp[ez,hs]),Ke hs,Kd]
  .rw[Kf (by simp[ez,hs]),Kf hs,Ke Z];rfl
end
def Q5(d:eK)(p s:Str){β:Type}(out:fj×Spec->β)(σ:fj×List Int)(r:Int):(fj×List Int)⊕β:=
 if(jB (qT σ.1 d r p).2 (mark s)&&ez .geq (qU d.tree.files ⟨r,child p s,⟨[]⟩,true,0,[]⟩) 0)=true then .inr (out ((qT σ.1 d r p).1,⟨2,qU d.tree.files ⟨r,child p s,⟨[]⟩,true,0,[]⟩,[r]⟩))
 else if(jB (qT σ.1 d r p).2 s&&ez .geq (qU d.tree.files ⟨r,p,s,false,0,[]⟩) 0)=true then .inr (out ((qT σ.1 d r p).1,⟨1,qU d.tree.files ⟨r,p,s,false,0,[]⟩,[]⟩))
 else .inl ((qT σ.1 d r p).1,if(jB (qT σ.1 d r p).2 (mark s)&&na d.tree.files r (child p s))=true then σ.2++[r] else σ.2)
theorem GX(out:fj×Spec->β)(fin:fj×List Int->β)(E:β->γ)(F:fj×Spec->γ)(h1:∀ q,E (out q)=F q)(h2:∀ σ:fj×List Int,E (fin σ)=F (σ.1,if ez .gtr σ.2.length 0=true then⟨3,-1,σ.2⟩ else ot)):
  ∀ (rs:List Int) (k:Nat) (f:fj) (acc:List Int),E (kU (λ _ σ r=>Q5 d p s out σ r) fin k (f,acc) rs)=F (we d p s f acc rs):=by
 intro rs
 induction rs with
 | nil=>intro k f acc;unfold we;rw[kU];exact h2 _
 |cons r rs ih=>
  intro k f acc;unfold we;rw[kU];unfold Q5;simp only;cases(jB (qT f d r p).2 _&&ez .geq _ 0) with
  | true=>exact h1 _
  |false=>
   cases(jB (qT f d r p).2 s&&ez .geq _ 0) with
   | true=>exact h1 _
   | false=>exact ih _ _ _
section
variable{f:fj}
theorem Sw(hf:km f)(hd:gg d)(ht:ja d.tree)(hr:roots.length<=1048576)(hin:∀ r∈roots,eR r 0 2=true)(hp:zi p=true)(hs:fW s=true)(hc:zm (child p s)=true):JA f d roots p s=some (we d p s f [] roots):=by
 have hpl:=zX hp;have hsl:=(wB hs).2;have hcl:=yt hc;have hch:wi p s=some _:=Ke (by omega);have hfa:∀ g,YP d.tree g=some _:=λ g=>Ke trivial
 have hhd:∀ r,XS d.tree r (child p s)=some _:=λ r=>Ke (by omega)
 unfold JA;have hl:zE (λ a8=>jv d roots p s a8) (f,xb,Wo,[],(0:Int))=some (kU (λ _ σ r=>Q5 d p s (Sum.inr) σ r) (λ σ=>Sum.inl (σ.1,xb,Wo,σ.2)) 0 (f,[]) roots):=by
  refine tB (σ:=fj×List Int) roots (λ σ k=>(σ.1,xb,Wo,σ.2,(k:Int))) _ _ (λ k σ=>km σ.1/\σ.2.length<=k) (λ k σ r hx hlt hi=>?_) (λ σ _=>?_) (s0:=(f,[])) ⟨hf,al 0⟩ (by omega)
  .obtain⟨hfo,hal⟩:=hi;have hri:=hin r (ae hx);have hfo2:=Bl hfo hd hri hp;have hnl:=KP hfo hd r p;have hst:jv d roots p s (σ.1,xb,Wo,σ.2,(k:Int))=(match Q5 d p s (Sum.inr) σ r with
     | .inl σ'=>some (.inl (σ'.1,xb,Wo,σ'.2,((k+1:Nat):Int))) | .inr b=>some (.inr b)):=by
    unfold jv;dsimp only;have hcat:kT s ⟨[47]⟩=some (mark s):=WU (by show s.l.length+1<=_;omega);have happ:fE 8 σ.2 [r]=some _:=yj (by simp;omega) (by simp;omega);have hn2:(qT σ.1 d r p).2.length<=1048576:=by omega
    rw[zx,Ke (ab hlt),zA,hx,Kd,NV hfo hd ht hp,Kd,hcat,Kd,Fk hn2,Kd,Kd,hch,Kd,hfa,Kd,Kd,Kd,hfa,Kd,Fk hn2,Kd,fF (by omega)];unfold Q5;generalize jB (qT σ.1 d r p).2 _=b0;generalize jB (qT σ.1 d r p).2 s=b3;generalize ez .geq _ 0=b1;generalize ez .geq _ 0=b2;cases b0
    .cases b1 <;> cases b2 <;> cases b3 <;> rfl
    .simp[wj,hhd,happ];generalize na d.tree.files r _=b4;cases b1 <;> cases b2 <;> cases b3 <;> cases b4 <;> rfl
   rw[hst];have hinv:∀ σ',Q5 d p s (Sum.inr (α:=fj×fj×Spec×List Int)) σ r=.inl σ'->km σ'.1/\σ'.2.length<=k+1:=λ σ' h=>by
    unfold Q5 at h;split at h
    .cases h
    .split at h
     .cases h
     .injection h with h;subst h;refine⟨hfo2,?_⟩;dsimp only;split
      .simp;omega
      .omega
   cases hsk:Q5 d p s _ σ r with
   | inl σ'=>exact⟨Z,hinv σ' hsk⟩
   | inr b=>rfl
  .unfold jv;dsimp only;rw[zx,Kf (by simp)]
 rw[hl,Kd];exact GX _ (λ σ=>Sum.inl _) _ some (λ _=>Z) (λ σ=>by
  simp;split <;> rfl) roots 0 f []
end
theorem GW{d:eK}{p s:Str}:∀ (rs acc:List Int) (f:fj),(we d p s f acc rs).2.roots.length<=acc.length+rs.length
 |[],acc,f=>by
  unfold we;dsimp only;split
  .exact al _
  .exact aq _
 |r::rs,acc,f=>by
  unfold we;split
  .show 1<=acc.length+(rs.length+1);omega
  .split
   .exact aq _
   .refine aS (GW rs _ _) ?_;split
    .simp only[ao,aW,cx];omega
    .simp only[aW];omega
section
variable{f:fj}{n:Str}
end
theorem I4(h:Xs l):Z7 l=some l:=by
 have hlen:=h.1;unfold Z7;have hl:zE (λ s6=>wR l s6) ([],(0:Int))=some l:=by
  refine YV l.length (λ k=>(l.take k,(k:Int))) (λ k hk=>?_) (by unfold wR;dsimp only;rw[zx,Kf (by simp),aQ]) (by omega) Z;obtain⟨x,hx,hm⟩:=j9 hk;have hnl:=(h.2 x hm).2;have htk:(l.take k).length<=k:=by simp;omega
  unfold wR;dsimp only;rw[zx,Ke (ab hk),zA,hx,Kd,yj (by simp;omega) (by simp;omega),Kd,yj (by simp;omega) (by simp;omega),Kd,fF (by omega),Kd,bp,hx];rfl
 grind
theorem Q6(h:Xs l):YD l=some l:=by
 have hlen:=h.1;unfold YD;have hl:zE (λ s6=>ju l s6) ([],(0:Int))=some l:=by
  refine YV l.length (λ k=>(l.take k,(k:Int))) (λ k hk=>?_) (by unfold ju;dsimp only;rw[zx,Kf (by simp),aQ]) (by omega) Z;obtain⟨x,hx,hm⟩:=j9 hk;have hnl:=(h.2 x hm).2;have htk:(l.take k).length<=k:=by simp;omega
  unfold ju;dsimp only;rw[zx,Ke (ab hk),zA,hx,Kd,yj (by simp;omega) (by simp;omega),Kd,yj (by simp;omega) (by simp;omega),Kd,fF (by omega),Kd,bp,hx];rfl
 grind
theorem nv.ln(h:nv l):Xs l:=⟨h.sm,λ x hx=>by
 obtain⟨_,h2,_,h4⟩:=h.2.1 x hx;have:=zX h2;exact⟨by omega,by omega⟩⟩
theorem Gh{α:Type}[DecidableEq α]:∀ {l m:List α},l.Nodup->(∀ x∈l,x∈m)->l.length<=m.length
 | [],_,_,_=>aq _
 |x::l,m,hn,hs=>by
  rw[er] at hn;have hx:=hs x (bF ..);have h1:=Gh (l:=l) (m:=m.erase x) hn.2 λ y hy=>(List.mem_erase_of_ne (by intro e;subst e;exact hn.1 hy)).2 (hs y (bD _ hy))
  have h2:=List.length_erase_of_mem hx;have h3:=List.length_pos_of_mem hx;rw[aW];omega
theorem TP(h:xY path=true):path.length<=3:=by
 have h1:=GB h;have hnd:path.Nodup:=by
  refine dh.2 λ i j hi hj hij=>?_
  unfold xY nc at h;rw[am] at h;have:=h j (aA.2 hj);unfold oR at this;rw[aa hj] at this;simp at this;have h3:=this.2;unfold ri at h3;rw[WW,bS] at h3;intro e;refine h3 path[j] ?_ (by simp);rw[<-e];exact cm.2 ⟨i,by omega,Z⟩
 have hsub:∀ x∈path,x∈([0,1,2]:List Int):=λ x hx=>by
  have:=nh (h1 x hx);have:x=0\/x=1\/x=2:=by omega
  rcases this with rfl | rfl | rfl <;> simp
 have:=Gh hnd hsub
 grind
section
variable{f:fj}{n:Str}
end
theorem Ex{l:List α}(h0:0<=i)(h:i<l.length):∃ x,eN l i=some x/\x∈l:=by
 obtain⟨n,rfl⟩:=aC h0;obtain⟨x,hx,hm⟩:=j9 (l:=l) (k:=n) (by omega);exact⟨x,by rw[zA,hx],hm⟩
theorem TR{s:Stmt}(h:zM s=true):lH s:=by
 have e0:∀ x:Str,decide (x=(⟨[]⟩:Str))=true->x.l.length<=3:=λ x h=>by rw[oD h];exact aq _
 have key:s.module.l.length<=11/\s.name.l.length<=3:=by
  unfold zM at h;split at h
  .simp only[ac] at h;exact⟨yt h.1.1.1,e0 _ h.1.2⟩
  .split at h
   .simp at h;exact⟨zX h.1.1.1.1,(wB h.1.2).2⟩
   .split at h
    .simp only[ac] at h;exact⟨yt h.1.1.1,e0 _ h.1.2⟩
    .split at h
     .simp only[ac] at h;exact⟨aS (e0 _ h.1.1.1) (by decide),(wB h.1.2).2⟩
     .split at h
      .simp only[ac] at h;exact⟨aS (e0 _ h.1.1.1) (by decide),(wB h.1.2).2⟩
      .split at h
       .rw[oD h];exact⟨aq _,aq _⟩
       .cases h
 exact⟨by omega,by omega⟩
theorem I5(h:z9 f=true):iC f:=by
 have h1:=zX (qk h);unfold z9 at h;split at h
 .cases h
 .rename_i hc;have hc:(!eR f.root 0 2||!eR f.stamp 0 99||!zi f.pkg||!gG f.body)=false:=by simpa using hc
  simp at hc;have hb:=hc.2;unfold gG at hb;rw[ac,am] at hb;have hbl:f.body.length<=8:=by have:=hb.2;simp[ez] at this;omega
  have hn:f.name.l.length<=3:=by
   split at h
   .rw[ac] at h;rw[oD h.2];exact aq _
   .rw[ac] at h;exact(wB h.1).2
  exact⟨by omega,by omega,by omega,λ s hs=>TR (hb.1 s hs)⟩
theorem wM(h:yh t=true):ja t:=⟨by have:=YW h;omega,λ _ hf=>I5 (jO h hf)⟩
theorem JQ(h:f.body.length<=1048576):jW f=some f:=by
 unfold jW;rw[yj (by simp;omega) (by simp;omega),Kd];rfl
theorem JR(h:ja t):qZ t=some t:=by
 have hlen:=h.1;unfold qZ;have hl:zE (λ a8=>jt t a8) ((⟨[]⟩:Tree),(0:Int))=some t:=by
  refine YV t.files.length (λ k=>((⟨t.files.take k⟩:Tree),(k:Int))) (λ k hk=>?_) (by unfold jt;dsimp only;rw[zx,Kf (by simp),aQ]) (by omega) Z;obtain⟨x,hx,hm⟩:=j9 hk;have hb:=(h.2 x hm).2.2.1;have htk:(t.files.take k).length<=k:=by simp;omega
  unfold jt;dsimp only;rw[zx,Ke (ab hk),zA,hx,Kd,JQ hb,Kd,yj (by simp;omega) (by simp;omega),Kd,fF (by omega),Kd,bp,hx];rfl
 grind
theorem KQ(h:ja t)(hf:iC f)(hl:t.files.length<=1000):∃ t' b,qO t f=some (t',b)/\(b=true->yh t'=true):=by
 have h2:ja ⟨t.files++[f]⟩:=⟨by simp;omega,λ x hx=>(bg.1 hx).elim (h.2 x) λ hx=>by rw[aH.1 hx];exact hf⟩;unfold qO;rw[JR h,Kd,JQ hf.2.2.1,Kd,yj (by simp;omega) (by simp;omega),Kd,show yn t=some _ from Ke h,Kd,show yn ⟨t.files++[f]⟩=some _ from Ke h2,gd,Kd];cases h3:yh t with
 | false=>exact⟨_,_,Z,λ h=>by cases h⟩
 |true=>
  cases h4:yh ⟨t.files++[f]⟩ with
  | false=>exact⟨_,_,Z,λ h=>by cases h⟩
  | true=>exact⟨_,_,Z,λ _=>h4⟩
theorem Nu{i n:Nat}{x:γ}(h:x∈(mL ys i j).take n):x∈ys:=by
 have h:=dc h;unfold mL at h
 grind
theorem Ia(h:ja t):∃ t' b,wF t i=some (t',b)/\(b=true->ja t'/\0<=i/\i<t.files.length):=by
 have hlen:=h.1;unfold wF;rw[show yn t=some _ from Ke h,Kd,xa (by omega) (by omega),gd,Kd,xH,gd,Kd];cases h3:yh t with
 | false=>exact⟨_,_,Z,λ h=>by cases h⟩
 |true=>
  show ∃ t' b,(if(_||(!eR i 0 (_ - 1)))=true then _ else _)=some _/\_;cases h4:eR i 0 _ with
  | false=>exact⟨_,_,Z,λ h=>by cases h⟩
  |true=>
   obtain⟨h5,h6⟩:=nh h4;obtain⟨n,rfl⟩:=aC h5;have hsl:mQ t.files ((n+1:Nat):Int)=some (t.files.drop (n+1)):=by unfold mQ;rw[Ke ⟨by omega,by omega⟩];rfl
   rw[Kf (by decide),JR h,Kd,Qn (by omega),Kd,fF (by omega),Kd,hsl,Kd];refine⟨_,_,Z,λ _=>⟨⟨?_,λ x hx=>h.2 x (Nu hx)⟩,h5,by omega⟩⟩;show((mL t.files _ _).take _).length<=_;rw[aJ,Ac (by simp) (by simp;omega)];omega
theorem KR{x:eT}(h:Xs l)(hl:l.length<=1000)(h1:x.pkg.l.length<=1048576)(h2:x.names.length<=1048576):Xs (l++[x]):=
 ⟨by simp;omega,λ y hy=>(bg.1 hy).elim (h.2 y) λ hy=>by rw[aH.1 hy];exact⟨h1,h2⟩⟩
theorem KS(h:Xs d.dirs)(hl:d.dirs.length<=900)(hp:p.l.length<=16):∃ l,Ye d r p=some ⟨d.tree,d.clock,l⟩/\Xs l:=by
 obtain⟨o,ho,h1,h2⟩:∃ o:List Str,(if(decide (p≠(⟨[]⟩:Str)))=true then((Zh p).bind λ a9=>(fE 16 [(⟨[]⟩:Str)] a9).bind λ b3=>some b3) else(some [(⟨[]⟩:Str)]))=some o/\o.length<=20/\∀ x∈o,x.l.length<=20:=by
  have ha:=Et p;have hs:=Dg p dot;have h2:∀ x∈((⟨[]⟩:Str)::nl p),x.l.length<=20:=λ x hx=>by
   rcases aj.1 hx with rfl | hx
   .exact aq _
   .have:=Eu hx;omega
  split
  .rw[show Zh p=some _ from Ke (by unfold gM;omega),Kd,yj (by simp;omega) (by simp;omega),Kd];exact⟨_,Z,by simp;omega,h2⟩
  .exact⟨_,Z,by simp,λ x hx=>by rw[aH.1 hx];exact aq _⟩
 unfold Ye;rw[ho,Kd];have key:∀ m k (e:eK),k+m=o.length->e.tree=d.tree->e.clock=d.clock->Xs e.dirs->e.dirs.length<=900+k->∃ l,wC (λ a8=>yH r o a8) (m+1) (e,(k:Int))=some ⟨d.tree,d.clock,l⟩/\Xs l:=by
  intro m
  induction m with
  |zero=>intro k e hk h3 h4 h5 _;refine⟨e.dirs,yD ?_,h5⟩;unfold yH;dsimp only;rw[zx,Kf (by simp;omega),<-h3,<-h4]
  |succ m ih=>
   intro k e hk h3 h4 h5 h6;have hlt:k<o.length:=by omega
   obtain⟨x,hx,hm⟩:=j9 hlt;have hxl:=h2 x hm
   suffices hs:∃ e',yH r o _=some (.inl (e',_))/\e'.tree=d.tree/\e'.clock=d.clock/\Xs e'.dirs/\e'.dirs.length<=900+_ by
    obtain⟨e',s1,s2,s3,s4,s5⟩:=hs;rw[x9 s1];exact ih (k+1) e' (by omega) s2 s3 s4 s5
   unfold yH;dsimp only;rw[zx,Ke (ab hlt),zA,hx,Kd,tg h5.1,Kd,Kd,fF (by omega),tn];cases hk2:lT e.dirs r x with
   |none=>dsimp only;rw[Ke (by decide),yj (by simp;omega) (by simp;omega),Kd];refine⟨{ e with dirs:=e.dirs++[⟨r,x,e.clock,[]⟩] },Z,h3,h4,KR h5 (by omega) (by show x.l.length<=_;omega) (aq _),?_⟩;simp;omega
   |some j=>
    obtain⟨g1,g2,_,_⟩:=Wt hk2;have gm:=ae g2;dsimp only;rw[Kf (by simp[ez]),zA,g2,Kd];refine⟨{ e with dirs:=e.dirs.set j { (e.dirs.getD j default) with stamp:=e.clock } },Z,h3,h4,⟨by rw[bf];exact h5.1,λ y hy=>?_⟩,by rw[bf];omega⟩;rcases cF hy with hy | rfl
    .exact h5.2 y hy
    .have:=h5.2 _ gm;exact this
 obtain⟨l,e1,e2⟩:=key o.length 0 d (by omega) Z Z h (by omega);have hl2:zE (λ a8=>yH r o a8) (d,(0:Int))=some ⟨d.tree,d.clock,l⟩:=jN e1 (by omega)
 grind
theorem gg.fit(h:gg d):WZ d=true:=by
 have h1:eR d.clock 0 200=true:=by unfold eR;simp[ez];exact h.clock
 unfold WZ;rw[h.tree,h1,h.dirs];rfl
def uI:eK:=⟨⟨[]⟩,0,[]⟩
theorem NK:gg uI:=⟨by decide,by decide,by decide⟩
theorem NL:km ⟨[],0,0⟩:=NW.1 (by decide)
theorem Rk{S:Type}{f g:S->Option (S⊕β)}(P:S->Prop)(h:∀ s,P s->f s=g s)(hs:∀ s s',P s->f s=some (.inl s')->P s'){s:S}(h0:P s):zE f s=zE g s:=by
 have key:∀ n s,P s->wC f n s=wC g n s:=by
  intro n
  induction n with
  | zero=>intro s _;rfl
  |succ n ih=>
   intro s hp;have e:=h s hp;cases hf:f s with
   | none=>rw[hf] at e;simp only[wC,hf,<-e]
   |some z=>
    rw[hf] at e;cases z with
    | inl s'=>rw[x9 hf,x9 e.symm];exact ih s' (hs s s' hp hf)
    | inr r=>rw[yD hf,yD e.symm]
 unfold zE
 grind
theorem I6(h:f.body.length<=1048576):qv f=some f:=by
 unfold qv yR;rw[yj (by simp;omega) (by simp;omega),Kd,Kd];rfl
theorem Cv(h:ja t):qw t=some t:=by
 have hlen:=h.1;unfold qw;have hl:zE (λ a8=>wQ t a8) ((⟨[]⟩:Tree),(0:Int))=some t:=by
  refine YV t.files.length (λ k=>((⟨t.files.take k⟩:Tree),(k:Int))) (λ k hk=>?_) (by unfold wQ;dsimp only;rw[zx,Kf (by simp),aQ]) (by omega) Z;obtain⟨x,hx,hm⟩:=j9 hk;have hb:=(h.2 x hm).2.2.1;have htk:(t.files.take k).length<=k:=by simp;omega
  unfold wQ;dsimp only;rw[zx,Ke (ab hk),zA,hx,Kd,I6 hb,Kd,yj (by simp;omega) (by simp;omega),Kd,fF (by omega),Kd,bp,hx];rfl
 grind
theorem Mo(h:ja t)(hf:iC f)(hl:t.files.length<=1000):Xi t f=qO t f:=by
 have h2:ja ⟨t.files++[f]⟩:=⟨by simp;omega,λ x hx=>(bg.1 hx).elim (h.2 x) λ hx=>by rw[aH.1 hx];exact hf⟩;unfold Xi qO;rw[JR h,Cv h,Kd,Kd,JQ hf.2.2.1,I6 hf.2.2.1,Kd,Kd,yj (by simp;omega) (by simp;omega),Kd,Kd,XE h,show yn t=some _ from Ke h,XE h2,show yn ⟨t.files++[f]⟩=some _ from Ke h2]
theorem Ns{i:Nat}(h1:i<=j)(h2:j<=ys.length):(mL ys i j).take (i+(ys.length - j))=ys.take i++ys.drop j:=by
 unfold mL
 grind
theorem Vh(h:ja t):Zm t i=wF t i:=by
 have hlen:=h.1;unfold Zm wF;rw[XE h,show yn t=some _ from Ke h,Kd,Kd,xa (by omega) (by omega),gd,Kd,Kd,xH,Zc,gd,Kd,Kd];cases h3:yh t with
 | false=>simp
 |true=>
  simp;cases h4:eR i 0 _ with
  | false=>rfl
  |true=>
   obtain⟨h5,h6⟩:=nh h4;obtain⟨n,rfl⟩:=aC h5;have hsl:mQ t.files ((n+1:Nat):Int)=some (t.files.drop (n+1)):=by unfold mQ;rw[Ke ⟨by omega,by omega⟩];rfl
   have hd:Z3 t.files (n:Int) ((n+1:Nat):Int)=some (t.files.take n++t.files.drop (n+1)):=by
    unfold Z3;rw[Ke ⟨by omega,by omega,by omega⟩,Kf (by omega)];rfl
   rw[Kf (by decide),Kf (by decide),JR h,Cv h,Kd,Kd,Qn (by omega),fF (by omega),Kd,Kd,Kd,hsl,hd,Kd,Kd,yj (by simp;omega) (by simp;omega),Kd];show some _=some _;rw[Ns (by omega) (by omega)];rfl
theorem KT(ho:∀ x∈o,x.l.length<=20){k:Nat}(hlt:k<o.length)(hk:o.length<=20)(h5:Xs e.dirs)(h6:e.dirs.length<=900+k):
  ∃ e',xv f o (e,(k:Int))=some (.inl (e',((k+1:Nat):Int)))/\yH f.root o (e,(k:Int))=some (.inl (e',((k+1:Nat):Int)))/\Xs e'.dirs/\e'.dirs.length<=900+(k+1):=by
 obtain⟨x,hx,hm⟩:=j9 hlt;have hxl:=ho x hm;unfold xv yH;dsimp only;rw[zx,Ke (ab hlt),Ke (ab hlt),zA,hx,Kd,Kd,Aj h5.1,tg h5.1,Kd,Kd,Kd,fF (by omega),tn];cases hk2:lT e.dirs f.root x with
 |none=>
  dsimp only;rw[Ke (by decide),Ke (by decide),yj (by simp;omega) (by simp;omega),Kd,yj (by simp;omega) (by simp;omega),Kd];refine⟨{ e with dirs:=e.dirs++[⟨f.root,x,e.clock,[]⟩] },?_,Z,KR h5 (by omega) (by show x.l.length<=_;omega) (aq _),?_⟩
  .dsimp only;rw[zA,aL (al _),cv];simp
  .simp;omega
 |some j=>
  obtain⟨g1,g2,_,_⟩:=Wt hk2;have gm:=ae g2;dsimp only;rw[Kf (by simp[ez]),Kf (by simp[ez]),Kd];dsimp only;rw[zA,g2,Kd,Kd];refine⟨{ e with dirs:=e.dirs.set j { (e.dirs.getD j default) with stamp:=e.clock } },Z,Z,⟨by rw[bf];exact h5.1,λ y hy=>?_⟩,by rw[bf];omega⟩;rcases cF hy with hy | rfl
  .exact h5.2 y hy
  .have:=h5.2 _ gm;exact this
theorem S4(hp:zi p=true):∃ o:List Str,((jP p).bind λ a8=>fE 16 [(⟨[]⟩:Str)] a8)=some o/\(if(decide (p≠(⟨[]⟩:Str)))=true then((Zh p).bind λ a9=>(fE 16 [(⟨[]⟩:Str)] a9).bind λ b3=>some b3) else(some [(⟨[]⟩:Str)]))=some o/\o.length<=20/\∀ x∈o,x.l.length<=20:=by
 have hl:=zX hp;have ha:=Et p;have hs:=Dg p dot;have h2:∀ x∈((⟨[]⟩:Str)::nl p),x.l.length<=20:=λ x hx=>by
  rcases aj.1 hx with rfl | hx
  .exact aq _
  .have:=Eu hx;omega
 rw[Mx (by unfold ia;omega),Kd];by_cases h0:p=⟨[]⟩
 .subst h0;rw[Kf (by decide),Kf (by decide)];exact⟨[⟨[]⟩],by rw[yj (by simp) (by simp)];rfl,Z,by decide,λ x hx=>by rw[aH.1 hx];exact aq _⟩
 .have hv:zm p=true:=by
   unfold zi at hp;rw[bK] at hp;exact hp.resolve_left λ h=>h0 (oD h)
  rw[Ke hv,Ke (ab h0),show Zh p=some _ from Ke (by unfold gM;omega),Kd,yj (by simp;omega) (by simp;omega),Kd];exact⟨_,Z,Z,by simp;omega,h2⟩
theorem I7(h:gg d)(ht:ja t)(hp:zi f.pkg=true)(h0:0<=ticks)(h1:ticks<=200):Z8 d t f ticks=qP d t f.root f.pkg ticks:=by
 have hc:=h.clock;have hl:=h.ok.1;obtain⟨o,o1,o2,o3,o4⟩:=S4 hp;obtain⟨l,e1,e2⟩:=KS (d:=⟨t,d.clock+ticks,d.dirs⟩) (p:=f.pkg) h.ok.ln (by show d.dirs.length<=_;omega) (by have:=zX hp;omega);have hloop:zE (λ a8=>xv f o a8) ((⟨t,d.clock+ticks,d.dirs⟩:eK),(0:Int))=some ⟨t,d.clock+ticks,l⟩:=by
  unfold Ye at e1;rw[o2,Kd] at e1;have hs:=Rk (λ s=>∃ k:Nat,s.2=(k:Int)/\k<=o.length/\Xs s.1.dirs/\s.1.dirs.length<=900+k) (λ s ⟨k,k1,k2,k3,k4⟩=>by
   obtain⟨e,i⟩:=s;subst k1;rcases aT k o.length with hlt | hge
   .obtain⟨e',s1,s2,_⟩:=KT (f:=f) o4 hlt o3 k3 k4;exact s1.trans s2.symm
   .unfold xv yH;dsimp only;rw[zx,Kf (by simp;omega),Kf (by simp;omega)]) (λ s s' ⟨k,k1,k2,k3,k4⟩ hs=>by
   obtain⟨e,i⟩:=s;subst k1;rcases aT k o.length with hlt | hge
   .obtain⟨e',s1,s2,s3,s4⟩:=KT o4 hlt o3 k3 k4;have:=s1.symm.trans hs;injection this with this;injection this with this;subst this;exact⟨k+1,Z,hlt,s3,s4⟩
   .unfold xv at hs;dsimp only at hs;rw[zx,Kf (by simp;omega)] at hs;cases hs) (s:=((⟨t,d.clock+ticks,d.dirs⟩:eK),(0:Int))) ⟨0,rfl,aq _,h.ok.ln,by show d.dirs.length<=_;omega⟩
  rw[hs]
  revert e1
  cases zE (λ a9=>yH f.root o a9) _ with
  | none=>intro e1;cases e1
  | some z=>intro e1;exact e1
 unfold Z8 qP;rw[Kf (by simp[ez];omega),xa (by omega) (by omega),Kd,Kd,I4 h.ok.ln,Q6 h.ok.ln,Kd,Kd,e1,Kd];have hb:((jP f.pkg).bind λ b3=>(fE 16 [(⟨[]⟩:Str)] b3).bind λ b5=>zE (λ a8=>xv f b5 a8) ((⟨t,d.clock+ticks,d.dirs⟩:eK),(0:Int)))=some ⟨t,d.clock+ticks,l⟩:=by
  rw[<-hloop,<-Option.bind_assoc,o1];rfl
 rw[hb,Kd,XF ht e2,Qi ht e2]
theorem Mt(h:gg d)(hf:iC f)(hp:zi f.pkg=true)(h0:0<=ticks)(h1:ticks<=200):Xj d f ticks=jK d f ticks:=by
 have ht:=wM h.tree;have hl:=YW h.tree;have h3:eR ticks 0 200=true:=by unfold eR;simp[ez];omega
 unfold Xj jK;obtain⟨t',b,e1,e2⟩:=KQ ht hf (by omega);rw[XF ht h.ok.ln,Qi ht h.ok.ln,h.fit,Kd,Kd,xH,gd,Kd,h3,Mo ht hf (by omega),e1,Kf (by simp[ez];omega),Kf (by decide),Kd,Kd];cases b with
 | false=>rfl
 |true=>
  have hn:¬ (!(t',true).snd)=true:=by simp
  rw[Kf hn,Kf hn];dsimp only;rw[I7 h (wM (e2 Z)) hp h0 h1]
theorem Vi(h:gg d)(h0:0<=ticks)(h1:ticks<=200):Zn d i ticks=wG d i ticks:=by
 have ht:=wM h.tree;have h3:eR ticks 0 200=true:=by unfold eR;simp[ez];omega
 unfold Zn wG;obtain⟨t',b,e1,e2⟩:=Ia ht;rw[XF ht h.ok.ln,Qi ht h.ok.ln,h.fit,Kd,Kd,xH,gd,Kd,h3,Vh ht,e1,Kf (by simp[ez];omega),Kf (by decide),Kd,Kd];cases b with
 | false=>rfl
 |true=>
  obtain⟨k1,k2,k3⟩:=e2 Z;obtain⟨x,hx,hm⟩:=Ex k2 k3;have hn:¬ (!(t',true).snd)=true:=by simp
  rw[Kf hn,Kf hn,hx];simp;rw[I7 h k1 (qk (jO h.tree hm)) h0 h1]
def k2(f:File):File:={ f with stamp:=0,body:=[] }
theorem E2(l:List File)(f:File):qU l f=qU (l.map k2) f:=by
 unfold qU xo;rw[List.findIdx?_map];rfl
theorem Ib{n:Nat}{x:File}(h:yh t=true)(hx:t.files[n]?=some x)(hs:eR st 0 99=true)(hb:gG b=true):yh ⟨t.files.set n { x with stamp:=st,body:=b }⟩=true:=by
 have hm:(t.files.set n { x with stamp:=st,body:=b }).map k2=t.files.map k2:=by
  apply aZ;intro i;rw[be,be];by_cases hi:n=i
  .subst hi;rw[aI (zJ hx),hx];rfl
  .rw[aG hi]
 have ef:∀ f,qU (t.files.set n { x with stamp:=st,body:=b }) f=qU t.files f:=λ f=>by rw[E2,hm,<-E2]
 unfold yh at h ⊢;rw[ac] at h ⊢;dsimp only;rw[bf];refine⟨?_,h.2⟩;have h1:=h.1;unfold Qy at h1 ⊢;rw[am] at h1 ⊢;intro k hk;have h2:=h1 k hk;unfold oQ at h2 ⊢;by_cases hkn:n=k
 .subst hkn;rw[aI (zJ hx)];rw[hx] at h2;dsimp only at h2 ⊢;rw[ef];show _=true;rw[Bool.not_or,Bool.not_not,ac] at h2 ⊢;refine⟨?_,h2.2⟩;have h3:=h2.1;unfold z9 at h3 ⊢;dsimp only;rw[hs,hb];split at h3
  .cases h3
  .rename_i h4;rw[Kf (by
    intro h5;apply h4;simp at h5 ⊢;rcases h5 with h5 | h5
    .exact .inl (.inl (.inl h5))
    .exact .inl (.inr h5))]
   exact h3
 .rw[aG hkn]
  revert h2
  cases t.files[k]? with
  | none=>exact λ h=>h
  | some g=>intro h2;dsimp only at h2 ⊢;rw[ef];exact h2
def ni(t:Tree)(i st:Int)(b:List Stmt):Tree×Bool:=
 match (if eR i 0 ((t.files.length:Int) - 1)=true then t.files[i.toNat]? else none) with
 | some x=>(⟨t.files.set i.toNat { x with stamp:=st,body:=b }⟩,true)
 | none=>(⟨[]⟩,false)
theorem EV(hv:yh t=true)(hs:eR st 0 99=true)(hb:gG b=true)(hsb:y9 b=some (gG b)):YC t i st b=some (ni t i st b)/\YE t i st b=some (ni t i st b):=by
 have ht:=wM hv;have hlen:=ht.1;have hbl:b.length<=8:=by
  have hb2:=hb;unfold gG at hb2;rw[ac] at hb2;have:=hb2.2;simp[ez] at this;omega
 unfold YC YE ni;rw[XE ht,show yn t=some _ from Ke ht,Kd,Kd,xa (by omega) (by omega),gd,Kd,Kd,xH,Zc,gd,Kd,Kd,xH,gd,Kd,hsb,gd,Kd,hv,hs,hb];simp;cases h4:eR i 0 _ with
 | false=>exact⟨Z,Z⟩
 |true=>
  obtain⟨h5,h6⟩:=nh h4;obtain⟨n,rfl⟩:=aC h5;have hlt:n<t.files.length:=by omega
  obtain⟨x,hx,hm⟩:=j9 hlt;have hset:=Ib hv hx hs hb;have hcb:yR b=some b:=by
   unfold yR;rw[yj (by simp;omega) (by simp;omega),Kd];rfl
  rw[Kf (by decide),Ke Z,ak,hx,Cv ht,JR ht,Kd,Kd,zA,hx,Kd,Kd,hcb,Kd,yj (by simp;omega) (by simp;omega),Kd,XE (wM hset),hset,Kd,Kf (by decide)];exact⟨Z,Z⟩
theorem KU{c':Int}(h:Yu c 0 l=true)(hc:eR c 0 200=true)(hc':eR c' 0 200=true)(hle:c<=c'):Yu c' 0 l=true:=by
 rw[JG hc] at h;rw[JG hc'];rw[ac] at h ⊢;refine⟨?_,h.2⟩;have h1:=h.1;rw[cC,bS] at h1 ⊢;intro x hx hp;apply h1 x hx;unfold plain at hp ⊢;rw[bK] at hp ⊢;exact hp.imp (λ hp=>ab (by have:=oD hp;omega)) id
theorem EU(hv:yh t=true)(hs:eR st 0 99=true)(hb:gG b=true)(h:(ni t i st b).2=true):yh (ni t i st b).1=true:=by
 unfold ni at h ⊢;split at h
 .rename_i x hx;split at hx
  .exact Ib hv hx hs hb
  .cases hx
 .cases h
theorem Nf(h:gg d)(hc:d.clock<=95)(h0:0<=ticks)(h1:ticks<=4)(hf:a.kind=0->iC a.file/\zi a.file.pkg=true)(hb:a.kind≠0->a.kind≠1->gG a.file.body=true/\y9 a.file.body=some (gG a.file.body)):YQ d a ticks=jD d a ticks:=by
 have hcl:=h.clock;have hmin:(if d.clock+ticks<(99:Int) then d.clock+ticks else(99:Int))=d.clock+ticks:=by split <;> omega
 unfold YQ jD;by_cases k0:a.kind=0
 .obtain⟨f1,f2⟩:=hf k0;rw[k0,Ke (by rfl),Ke (by rfl),JQ f1.2.2.1,xa (by omega) (by omega)];simp;rw[hmin,Mt h (f:={ a.file with stamp:=d.clock+ticks }) f1 f2 h0 (by omega)]
 .have e0:¬ ez .eql a.kind 0=true:=λ e=>k0 (oD e)
  rw[Kf e0,Kf e0];by_cases k1:a.kind=1
  .rw[k1,Ke (by rfl),Ke (by rfl),Vi h h0 (by omega)]
  .have e1:¬ ez .eql a.kind 1=true:=λ e=>k1 (oD e)
   obtain⟨b1,b2⟩:=hb k0 k1;have hs:eR (d.clock+ticks) 0 99=true:=by unfold eR;simp[ez];omega
   have hs2:eR (d.clock+ticks) 0 200=true:=by unfold eR;simp[ez];omega
   have hs3:eR d.clock 0 200=true:=by unfold eR;simp[ez];omega
   obtain⟨q1,q2⟩:=EV h.tree hs b1 b2;rw[Kf e1,Kf e1,xa (by omega) (by omega)];simp;rw[hmin,q1,q2,I4 h.ok.ln,Q6 h.ok.ln];simp;cases hr:(ni d.tree a.index _ a.file.body).2 with
   | false=>simp[gO]
   |true=>
    have ht:=EU h.tree hs b1 hr;have hfit:WZ ⟨(ni d.tree a.index (d.clock+ticks) a.file.body).1,d.clock+ticks,d.dirs⟩=true:=by
     unfold WZ;dsimp only;rw[ht,hs2,KU h.dirs hs3 hs2 (by omega)];rfl
    rw[Qi (x:=⟨(ni d.tree a.index _ a.file.body).1,d.clock+ticks,d.dirs⟩) (wM ht) h.ok.ln,hfit,gd];rfl
def uu(d:eK)(ticks:Int)(r:eK×Bool):Prop:=r.2=true->gg r.1/\r.1.clock=d.clock+ticks
theorem Ic(h:gg d)(ht:ja t)(hp:p.l.length<=16)(h0:0<=ticks)(h1:ticks<=200):∃ z,qP d t r p ticks=some z/\uu d ticks z:=by
 have hc:=h.clock;have hl:=h.ok.1;unfold qP;rw[xa (by omega) (by omega),Kd,Q6 h.ok.ln,Kd];obtain⟨l,e1,e2⟩:=KS (d:=⟨t,d.clock+ticks,d.dirs⟩) h.ok.ln (by show d.dirs.length<=_;omega) hp;rw[e1,Kd,XF ht e2,Kd];cases h3:WZ ⟨t,d.clock+ticks,l⟩ with
 | false=>exact⟨_,Z,λ h=>by cases h⟩
 | true=>exact⟨_,Z,λ _=>⟨Ny h3,Z⟩⟩
theorem MK(h:gg d)(hf:iC f)(hp:zi f.pkg=true)(h0:0<=ticks)(h1:ticks<=200):∃ z,jK d f ticks=some z/\uu d ticks z:=by
 have ht:=wM h.tree;have hl:=YW h.tree;have h3:eR ticks 0 200=true:=by unfold eR;simp[ez];omega
 have hpl:=zX hp;unfold jK;obtain⟨t',b,e1,e2⟩:=KQ ht hf (by omega);rw[XF ht h.ok.ln,h.fit,Kd,xH,gd,Kd,h3,Kf (by decide),e1,Kd];cases b with
 | false=>exact⟨_,Z,λ h=>by cases h⟩
 |true=>obtain⟨z,j1,j2⟩:=Ic (p:=f.pkg) h (wM (e2 Z)) (by omega) h0 h1;rw[Kf (show ¬ (!true)=true by decide)];dsimp only;rw[j1];exact⟨_,Z,j2⟩
theorem Sa(h:gg d)(h0:0<=ticks)(h1:ticks<=200):∃ z,wG d i ticks=some z/\uu d ticks z:=by
 have ht:=wM h.tree;have h3:eR ticks 0 200=true:=by unfold eR;simp[ez];omega
 unfold wG;obtain⟨t',b,e1,e2⟩:=Ia ht;rw[XF ht h.ok.ln,h.fit,Kd,xH,gd,Kd,h3,Kf (by decide),e1,Kd];cases b with
 | false=>exact⟨_,Z,λ h=>by cases h⟩
 |true=>obtain⟨k1,k2,k3⟩:=e2 Z;obtain⟨x,hx,hm⟩:=Ex k2 k3;have hp:=zX (qk (jO h.tree hm));obtain⟨z,j1,j2⟩:=Ic (p:=x.pkg) h k1 (by omega) h0 h1;rw[Kf (show ¬ (!true)=true by decide),hx,Kd,Kd];dsimp only;rw[j1];exact⟨_,Z,j2⟩
theorem Nd(h:gg d)(hc:d.clock<=95)(h0:0<=ticks)(h1:ticks<=4)(hf:a.kind=0->iC a.file/\zi a.file.pkg=true)(hb:a.kind≠0->a.kind≠1->gG a.file.body=true/\y9 a.file.body=some (gG a.file.body)):∃ z,jD d a ticks=some z/\uu d ticks z:=by
 have hcl:=h.clock;have hmin:(if d.clock+ticks<(99:Int) then d.clock+ticks else(99:Int))=d.clock+ticks:=by split <;> omega
 unfold jD;by_cases k0:a.kind=0
 .obtain⟨f1,f2⟩:=hf k0;rw[k0,Ke (by rfl),JQ f1.2.2.1,xa (by omega) (by omega)];simp only[Kd];rw[hmin];obtain⟨z,j1,j2⟩:=MK h (f:={ a.file with stamp:=d.clock+ticks }) f1 f2 h0 (by omega);exact⟨_,by rw[j1,Kd],j2⟩
 .have e0:¬ ez .eql a.kind 0=true:=λ e=>k0 (oD e)
  rw[Kf e0];by_cases k1:a.kind=1
  .rw[k1,Ke (by rfl)];obtain⟨z,j1,j2⟩:=Sa h h0 (by omega);exact⟨_,by rw[j1,Kd],j2⟩
  .have e1:¬ ez .eql a.kind 1=true:=λ e=>k1 (oD e)
   obtain⟨b1,b2⟩:=hb k0 k1;have hs:eR (d.clock+ticks) 0 99=true:=by unfold eR;simp[ez];omega
   have hs2:eR (d.clock+ticks) 0 200=true:=by unfold eR;simp[ez];omega
   have hs3:eR d.clock 0 200=true:=by unfold eR;simp[ez];omega
   obtain⟨_,q2⟩:=EV h.tree hs b1 b2;rw[Kf e1,xa (by omega) (by omega)];simp only[Kd];rw[hmin,q2,Q6 h.ok.ln];simp only[Kd];cases hr:(ni d.tree a.index _ a.file.body).2 with
   | false=>exact⟨_,Z,λ h=>by cases h⟩
   | true=>exact⟨_,Z,λ _=>⟨⟨EU h.tree hs b1 hr,⟨by show 0<=d.clock+ticks;omega,by show d.clock+ticks<=200;omega⟩,KU (c':=d.clock+ticks) h.dirs hs3 hs2 (by omega)⟩,Z⟩⟩
theorem Ie(h:s.l.length<=1048576):wr s=some (fW s):=by
 unfold wr;have hl:zE (λ a8=>ZH s a8) 0=some (if s.l.any (λ b=>!low b)=true then .inr false else .inl ()):=by
  refine Zv _ _ _ _ (λ k x hx hlt=>?_) ?_ (by omega) Z
  .unfold ZH;rw[zx,Ke (ab hlt),zA,hx,Kd,gd,Kd,fF (by omega)];have e1:UInt8.ofNat 97=97:=rfl;have e2:UInt8.ofNat 122=122:=rfl;rw[e1,e2];have e3:low x=!(gT .lss x 97||gT .gtr x 122):=by unfold low;simp[gT]
   rw[e3];cases h1:gT .lss x 97 with
   | true=>rfl
   | false=>cases h2:gT .gtr x 122 <;> simp[h2]
  .unfold ZH;rw[zx,Kf (by simp)]
 rw[xH,Kd,hl,JE];unfold fW
 grind
theorem TQ{s:Stmt}(h:lH s):Ya s=some (zM s):=by
 have h1:=h.1;have h2:=h.2;unfold Ya zM;rw[show yz s.module=some _ from Ke (by unfold gM;omega),show yZ s.module=some _ from Ke (by unfold gM;omega),Ie h2];simp only[Kd,gd,xH]
 grind
theorem CI(hlen:b.length<=1048576)(h:∀ s∈b,lH s):y9 b=some (gG b):=by
 unfold y9;have hl:zE (λ s4=>wS b s4) 0=some (if b.any (λ x=>!zM x)=true then .inr false else .inl ()):=by
  refine Zv _ _ _ _ (λ k x hx hlt=>?_) ?_ (by omega) Z
  .unfold wS;rw[zx,Ke (ab hlt),zA,hx,Kd,TQ (h x (ae hx)),Kd,fF (by omega)];cases zM x <;> rfl
  .unfold wS;rw[zx,Kf (by simp)]
 rw[hl,Kd,JE];unfold gG
 grind
theorem Nh(p s:Str):(child p s).l.length<=p.l.length+s.l.length+1:=by
 unfold child
 grind
theorem TK(h:iC f):Yb f=some (z9 f):=by
 obtain⟨h1,h2,h3,h4⟩:=h;unfold Yb z9;rw[show yZ f.pkg=some _ from Ke (by unfold gM;omega),CI h3 h4,Ie h2,show wi f.pkg f.name=some _ from Ke (by omega)];simp only[Kd,gd,xH];generalize eR f.root 0 2=a;generalize eR f.stamp 0 99=b;generalize zi f.pkg=c;generalize gG f.body=d;cases a <;> cases b <;> cases c <;> cases d <;> (try rfl);simp;split
 .rfl
 .cases hp:fW f.name with
  | false=>rfl
  |true=>simp;rw[show yz _=some _ from Ke (by have:=Nh f.pkg f.name;unfold gM;omega),gd];rfl
def XK(a:GAct):Bool:=
 if ez .eql a.kind 0=true then z9 a.file else if ez .eql a.kind 1=true then true else if ez .eql a.kind 2=true then gG a.file.body else if ez .eql a.kind 3=true then zm a.name else false
def nM(l:List GAct):Bool:=l.all XK&&ez .leq l.length 20
def QR(a:GAct):Prop:=iC a.file/\ia a.name
theorem MD{l:List GAct}(hlen:l.length<=1048576)(h:∀ a∈l,QR a):Z6 l=some (nM l):=by
 unfold Z6;have hl:zE (λ s4=>wP l s4) 0=some (if l.any (λ x=>!XK x)=true then .inr false else .inl ()):=by
  refine Zv _ _ _ _ (λ k x hx hlt=>?_) ?_ (by omega) Z
  .obtain⟨f1,f2⟩:=h x (ae hx);unfold wP;rw[zx,Ke (ab hlt),zA,hx,Kd,tf f1,WX f1.2.2.1 f1.2.2.2,wk f2,fF (by omega)];simp;unfold XK;generalize z9 x.file=a;generalize gG x.file.body=b;generalize zm x.name=c;split
   .cases a <;> rfl
   split
   .rfl
   split
   .cases b <;> rfl
   split
   .cases c <;> rfl
   rfl
  .unfold wP;rw[zx,Kf (by simp)]
 rw[hl,Kd,JE];unfold nM
 grind
theorem TJ{l:List GAct}(hlen:l.length<=1048576)(h:∀ a∈l,QR a):Yc l=some (nM l):=by
 unfold Yc;have hl:zE (λ s4=>wT l s4) 0=some (if l.any (λ x=>!XK x)=true then .inr false else .inl ()):=by
  refine Zv _ _ _ _ (λ k x hx hlt=>?_) ?_ (by omega) Z
  .obtain⟨f1,f2⟩:=h x (ae hx);unfold wT;rw[zx,Ke (ab hlt),zA,hx,Kd,TK f1,CI f1.2.2.1 f1.2.2.2,show yz x.name=some _ from Ke (by have:=f2;unfold ia at this;unfold gM;omega),fF (by omega)];simp;unfold XK;generalize z9 x.file=a;generalize gG x.file.body=b;generalize zm x.name=c;split
   .cases a <;> rfl
   split
   .rfl
   split
   .cases b <;> rfl
   split
   .cases c <;> rfl
   rfl
  .unfold wT;rw[zx,Kf (by simp)]
 rw[hl,Kd,JE];unfold nM
 grind
