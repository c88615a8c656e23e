import Derived.Test.YtoomehfflopakaaGreatDoorTFb
namespace Go.Proofs.YtoomehfflopakaaGreatDoor
variable{f:File}{l0 r:Int}{K:Int->Option Int}{xs:List Int}{b:List Stmt}{l:List Str}{a:List UInt8}{vs:List Value}{k off:Nat}{M:Nat->Prop}{m:Option Bool}{q:Prop}{p s x:Str}{t:Tree}{c:UInt8}{w:World}
section
variable{α β σ S:Type}
theorem zz(xs:List α)(k:Nat):atI xs (k:Int)=xs[k]?:=by simp[atI]
theorem xb{n:Int}(h1:-9223372036854775808<=n)(h2:n<=9223372036854775807):i64 n=some n:=Kc ⟨h1,h2⟩
theorem zG(h:k<4611686018427387904):i64 ((k:Int)+1)=some ((k+1:Nat):Int):=by rw[xb (by omega) (by omega)];rfl
theorem zX[Inhabited α](g:Bool)(x:α):gO g (some x)=some (if g=true then x else default):=by unfold gO;split <;> rfl
theorem wr[Inhabited α](e:Option α):gO true e=e:=rfl
theorem Zd[Inhabited α](e:Option α):gO false e=some default:=rfl
theorem zx(k n:Nat):cmpI .lss (k:Int) (n:Int)=decide (k<n):=by simp[cmpI]
theorem yk{b:Nat}{xs ys:List α}(h:(xs.length+ys.length)*b<=140737488355328)(h2:xs.length+ys.length<=9223372036854775807):appO b xs ys=some (xs++ys):=Kc ⟨h,h2⟩
theorem zae(h:k<=s.l.length):cutHO s (k:Int)=some ⟨s.l.take k⟩:=by unfold cutHO;rw[Kc ⟨by omega,by omega⟩];rfl
theorem JT(h:k<=s.l.length):zb3 s (k:Int)=some ⟨s.l.drop k⟩:=by unfold zb3;rw[Kc ⟨by omega,by omega⟩];rfl
theorem JU{xs:List α}(h:k<=xs.length):WB xs (k:Int)=some (xs.take k):=by unfold WB;rw[Kc ⟨by omega,by omega⟩];rfl
theorem zbp{xs:List α}{y:α}(h:k<xs.length):setO xs (k:Int) y=some (xs.set k y):=by unfold setO;rw[Kc ⟨by omega,by omega⟩];rfl
theorem JO{m n:Str}(h:m.l.length+n.l.length<=9223372036854775807):catO m n=some ⟨m.l++n.l⟩:=Kc h
theorem jD{step:S->Option (S⊕β)}{s s':S}{n:Nat}(h:step s=some (.inl s')):jr step (n+1) s=jr step n s':=by rw[jr,h]
theorem yY{step:S->Option (S⊕β)}{s:S}{b:β}{n:Nat}(h:step s=some (.inr b)):jr step (n+1) s=some b:=by rw[jr,h]
theorem iterM_mono{step:S->Option (S⊕β)}{r:β}:∀ (m j:Nat) (s:S),jr step m s=some r->jr step (m+j) s=some r:=by
 intro m
 induction m with
 | zero=>intro j s h;simp[jr] at h
 |succ m ih=>
  intro j s h;rw[show m+1+j=(m+j)+1 by omega];unfold jr at h ⊢;split at h
  ·cases h
  ·exact ih j _ h
  ·exact h
theorem Z1{step:S->Option (S⊕β)}{r:β}{m:Nat}{s:S}(h:jr step m s=some r)(hm:m<=1152921504606846976):zE step s=some r:=by
 unfold zE;have:=iterM_mono m (1152921504606846976 - m) s h
 grind
def runL(R:Nat->σ->α->σ⊕β)(fin:σ->β):Nat->σ->List α->β
 | _,s,[]=>fin s
 |k,s,x::xs=>match R k s x with
  | .inl s'=>runL R fin (k+1) s' xs
  | .inr b=>b
theorem zbq{step:S->Option (S⊕β)}(xs:List α)(mk:σ->Nat->S)(R:Nat->σ->α->σ⊕β)(fin:σ->β)(Inv:Nat->σ->Prop)
  (h:∀ k s x,xs[k]?=some x->k<xs.length->Inv k s->match R k s x with
   | .inl s'=>step (mk s k)=some (.inl (mk s' (k+1)))/\Inv (k+1) s'
   | .inr b=>step (mk s k)=some (.inr b))
  (hend:∀ s,Inv xs.length s->step (mk s xs.length)=some (.inr (fin s))) {s0:σ} (h0:Inv 0 s0) (hlen:xs.length<576460752303423488):zE step (mk s0 0)=some (runL R fin 0 s0 xs):=by
 have key:∀ m k s,k+m=xs.length->Inv k s->jr step (m+1) (mk s k)=some (runL R fin k s (xs.drop k)):=by
  intro m
  induction m with
  |zero=>
   intro k s hk hi;have:k=xs.length:=by omega
   subst this;rw[bR,runL,jr,hend s hi]
  |succ m ih=>
   intro k s hk hi;have hlt:k<xs.length:=by omega
   have hx:=aa hlt;rw[bh hlt,runL,jr];have hr:=h k s xs[k] hx hlt hi;cases e:R k s xs[k] with
   |inl s'=>rw[e] at hr;simp only at hr;rw[hr.1];exact ih _ s' (by omega) hr.2
   |inr b=>rw[e] at hr;simp only at hr;rw[hr]
 exact Z1 (key xs.length 0 s0 (by omega) h0) (by omega)
theorem loop_find{step:Int->Option (Int⊕β)}(xs:List α)(R:Nat->α->Option β)(e:β)
  (h:∀ k x,xs[k]?=some x->k<xs.length->step (k:Int)=some (match R k x with | none=>.inl ((k+1:Nat):Int) | some b=>.inr b))
  (hend:step (xs.length:Int)=some (.inr e)) (hlen:xs.length<576460752303423488) {s:Int} (hs:s=0):
  zE step s=some (runL (λ k (_:Unit) x=>match R k x with | none=>.inl () | some b=>.inr b) (λ _=>e) 0 () xs):=by
 subst hs;refine zbq xs (λ _ k=>(k:Int)) _ _ (λ _ _=>True) (λ k s x hx hlt _=>?_) (λ _ _=>hend) trivial hlen
 grind
theorem runL_any(p:α->Bool)(b e:β):∀ (k:Nat) (xs:List α),runL (λ _ (_:Unit) x=>match (if p x=true then some b else none) with | none=>.inl () | some b=>.inr b) (λ _=>e) k () xs=if xs.any p=true then b else e
 | _,[]=>rfl
 |k,x::xs=>by
  cases h:p x with
  | true=>simp[runL,h]
  | false=>simp only[runL,h];rw[List.any_cons,h,c9];exact runL_any p b e (k+1) xs
theorem Ze{step:Int->Option (Int⊕β)}(xs:List α)(p:α->Bool)(b e:β)
  (h:∀ k x,xs[k]?=some x->k<xs.length->step (k:Int)=some (if p x=true then .inr b else .inl ((k+1:Nat):Int)))
  (hend:step (xs.length:Int)=some (.inr e)) (hlen:xs.length<576460752303423488) {s:Int} (hs:s=0):
  zE step s=some (if xs.any p=true then b else e):=by
 rw[loop_find xs (λ _ x=>if p x=true then some b else none) e (λ k x hx hlt=>?_) hend hlen hs,runL_any]
 grind
theorem runL_idx(p:α->Bool)(f:Int->β)(e:β):∀ (k:Nat) (xs:List α),runL (λ k (_:Unit) x=>match (if p x=true then some (f k) else none) with | none=>.inl () | some b=>.inr b) (λ _=>e) k () xs=(match xs.findIdx? p with | some i=>f ((k+i:Nat):Int) | none=>e)
 | _,[]=>rfl
 |k,x::xs=>by
  cases h:p x with
  | true=>simp[runL,h,List.findIdx?_cons]
  |false=>
   simp only[runL,h,List.findIdx?_cons,aZ,co];rw[runL_idx p f e (k+1) xs];cases xs.findIdx? p with
   | none=>rfl
   | some i=>simp only[dG];congr 1;omega
theorem Yn{step:Int->Option (Int⊕β)}(xs:List α)(p:α->Bool)(f:Int->β)(e:β)
  (h:∀ k x,xs[k]?=some x->k<xs.length->step (k:Int)=some (if p x=true then .inr (f k) else .inl ((k+1:Nat):Int)))
  (hend:step (xs.length:Int)=some (.inr e)) (hlen:xs.length<576460752303423488) {s:Int} (hs:s=0):
  zE step s=some (match xs.findIdx? p with | some i=>f (i:Int) | none=>e):=by
 rw[loop_find xs (λ k x=>if p x=true then some (f k) else none) e (λ k x hx hlt=>?_) hend hlen hs,runL_idx]
 ·cases xs.findIdx? p <;> simp
 grind
theorem runL_fold(g:σ->α->σ)(fin:σ->β):∀ (k:Nat) (s:σ) (xs:List α),runL (λ _ s x=>(.inl (g s x):σ⊕β)) fin k s xs=fin (xs.foldl g s)
 | _,_,[]=>rfl
 | k,s,x::xs=>runL_fold g fin (k+1) (g s x) xs
theorem Xf{step:S->Option (S⊕β)}(xs:List α)(mk:σ->Nat->S)(g:σ->α->σ)(fin:σ->β)(Inv:Nat->σ->Prop)
  (h:∀ k s x,xs[k]?=some x->k<xs.length->Inv k s->step (mk s k)=some (.inl (mk (g s x) (k+1)))/\Inv (k+1) (g s x))
  (hend:∀ s,Inv xs.length s->step (mk s xs.length)=some (.inr (fin s))) {s0:σ} (h0:Inv 0 s0) (hlen:xs.length<576460752303423488):zE step (mk s0 0)=some (fin (xs.foldl g s0)):=by
 rw[zbq xs mk (λ _ s x=>.inl _) fin Inv h hend h0 hlen,runL_fold]
end
variable{α:Type}
theorem JP(hs:mid s):xh s=some (zF s):=by
 unfold mid at hs;have hl:zE (λ s4=>Zq s s4) 0=some (if s.l.any (λ b=>!low b)=true then .inr false else .inl ()):=by
  refine Ze s.l _ _ _ (λ k x hx hlt=>?_) ?_ (by omega) Z
  ·unfold Zq;rw[zx,Kc (ab hlt),zz,hx,Kb,zX,Kb,zG (by omega)];unfold low;generalize cmpB .lss x _=c1;cases c1 with
   | true=>rfl
   |false=>rw[Kc (show(false == false)=true from Z)];generalize cmpB .gtr x _=c2;cases c2 <;> rfl
  ·unfold Zq;rw[zx,Kd (by simp)]
 unfold xh;rw[hl,Kb];unfold zF;cases h:s.l.any (λ b=>!low b) with
 |true=>
  have:s.l.all low=false:=by
   rw[Bool.eq_false_iff];intro h2;rw[cC] at h;obtain⟨b,hb,hb2⟩:=h;rw[al.1 h2 b hb] at hb2;cases hb2
  simp[this]
 |false=>
  have:s.l.all low=true:=by
   rw[al];intro b hb;have:=bW.1 h b hb;simpa using this
  simp[yg,this,inR];simp[cmpI]
def cutF(c:UInt8):List UInt8->List (List UInt8)
 | []=>[[]]
 |b::l=>if b == c then[]::cutF c l else match cutF c l with
  | h::t=>(b::h)::t
  | []=>[[b]]
theorem WU(c b:UInt8)(l:List UInt8):cutF c (b::l)=if b == c then[]::cutF c l else match cutF c l with
  | h::t=>(b::h)::t
  | []=>[[b]]:=rfl
theorem Wv(c:UInt8):∀ l,cutF c l≠[]
 | []=>by simp[cutF]
 |b::l=>by
  unfold cutF;split
  ·simp
  ·split <;> simp
theorem zbr(c:UInt8):∀ l,(cutF c l).length=l.count c+1
 | []=>by simp[cutF]
 |b::l=>by
  unfold cutF;cases h:b == c with
  |true=>simp only[bI,bj,zbr c l];rw[List.count_cons,h];simp
  |false=>
   simp only[aZ,co];rw[List.count_cons,h];simp only[aZ,co,dY];rw[← zbr c l];cases hc:cutF c l with
   | nil=>exact absurd hc (Wv c l)
   | cons h t=>rfl
theorem zcq(c:UInt8):∀ (l:List UInt8) (st:List Str×Str),(let r:=l.foldl (qG c) st;r.1++[r.2])=st.1++(match cutF c l with | h::t=>(⟨st.2.l++h⟩:Str)::t.map Str.mk | []=>[])
 | [],st=>by simp[cutF]
 |b::l,st=>by
  rw[bY];have ih:=zcq c l (qG c st b);simp only at ih ⊢;rw[ih];unfold qG;rw[WU];cases h:b == c with
  |true=>
   simp only[bI,aA];cases hc:cutF c l with
   | nil=>exact absurd hc (Wv c l)
   | cons h t=>simp
  |false=>
   simp only[aZ,co];cases hc:cutF c l with
   | nil=>exact absurd hc (Wv c l)
   | cons h t=>simp
theorem jk(s:Str)(c:UInt8):zB s c=(cutF c s.l).map Str.mk:=by
 have:=zcq c s.l ([],⟨[]⟩);simp only at this;unfold zB xU
 grind
theorem XG(c:UInt8):∀ l,Lib.indexByte l c<0->cutF c l=[l]
 | [],_=>rfl
 |b::l,h=>by
  unfold Lib.indexByte at h;unfold cutF;cases hb:b == c with
  | true=>rw[hb] at h;simp at h
  |false=>
   rw[hb] at h;simp only[aZ,co] at h ⊢;have hge:=Lib.indexByte_ge l c;have:Lib.indexByte l c<0:=by
    split at h
    ·rename_i e;have:=dO e;omega
    ·omega
   rw[XG c l this]
theorem XH(c:UInt8):∀ l,0<=Lib.indexByte l c->Lib.indexByte l c<l.length/\cutF c l=l.take (Lib.indexByte l c).toNat::cutF c (l.drop ((Lib.indexByte l c).toNat+1))
 | [],h=>by simp[Lib.indexByte] at h
 |b::l,h=>by
  unfold Lib.indexByte at h ⊢;cases hb:b == c with
  | true=>simp[cutF,hb]
  |false=>
   rw[hb] at h;simp only[aZ,co] at h ⊢;cases he:Lib.indexByte l c == -1 with
   | true=>rw[he] at h;simp at h
   |false=>
    rw[he] at h;simp only[aZ,co] at h ⊢;have hge:=Lib.indexByte_ge l c;have hne:Lib.indexByte l c≠-1:=by simpa using he
    obtain⟨h1,h2⟩:=XH c l (by omega);refine⟨by simp;omega,?_⟩;have e1:(Lib.indexByte l c+1).toNat=(Lib.indexByte l c).toNat+1:=by omega
    rw[e1];rw[WU,hb,h2];simp only[aZ,co,List.take_succ_cons,List.drop_succ_cons]
theorem genSplit_loop(c:UInt8)(n:Nat)(hn:n<1099511627777):∀ (l:List UInt8) (done:List Str),l.length<=1099511627776->done.length+(cutF c l).length=n->
  ∀
   m,(cutF c l).length<=m->jr (λ a8=>wT ⟨[c]⟩ 0 ((n:Int) - 1) a8) m ((⟨l⟩:Str),done++List.replicate (n - done.length) zStr,(done.length:Int))=
   some (⟨(cutF c l).getLast (Wv c l)⟩,done++((cutF c l).dropLast.map Str.mk++[zStr]),(n:Int) - 1):=by
 intro l
 induction hlen:l.length using Nat.strongRecOn generalizing l with
 |_ k ih=>
  intro done hl hd m hm;have hne:=Wv c l;have hpos:=List.length_pos_iff.2 hne;obtain⟨m,rfl⟩:∃ m',m=m'+1:=⟨m - 1,by omega⟩;by_cases hlast:(cutF c l).length=1
  ·rw[yY (by unfold wT;exact Kd (by simp[cmpI];omega))];obtain⟨x,hx⟩:=List.length_eq_one_iff.1 hlast;have e1:n - done.length=1:=by omega
   simp only[hx,List.getLast_singleton,List.dropLast_singleton,List.map_nil,bc,e1,List.replicate_one];have hxl:x=l:=by
    rcases Int.lt_or_le _ 0 with h | h
    ·rw[XG c l h] at hx;injection hx with hx;exact hx.symm
    ·obtain⟨_,h2⟩:=XH c l h;rw[h2] at hx;have:=bz List.length hx;simp at this;exact absurd this (Wv _ _)
   rw[hxl]
   congr 2
   congr 1
   omega
  ·have hidx:0<=Lib.indexByte l c:=by
    rcases Int.lt_or_le _ 0 with h | h
    ·rw[XG c l h] at hlast;simp at hlast
    ·exact h
   obtain⟨h1,h2⟩:=XH c l hidx;obtain⟨j,hi⟩:=ay hidx;rw[hi] at h1 h2;rw[aj] at h2;have hj:j<l.length:=by omega
   have e2:wP ⟨l⟩ ⟨[c]⟩=some (j:Int):=by simp[wP,hi]
   have hrep:done.length<(done++List.replicate (n - done.length) zStr).length:=by simp;omega
   have e4:atI (done++List.replicate (n - done.length) zStr) (done.length:Int)=some zStr:=by
    rw[zz,aH (ak _),ct,List.getElem?_replicate,Kc (by omega)]
   have e5:setO (done++List.replicate (n - done.length) zStr) (done.length:Int) (⟨l.take j⟩:Str)=some ((done++[⟨l.take j⟩])++List.replicate (n - (done.length+1)) zStr):=by
    rw[zbp hrep]
    congr 1
    rw[cW _ _ (ak _),ct];obtain⟨q,hq⟩:∃ q,n - done.length=q+1:=⟨n - done.length - 1,by omega⟩;rw[hq,db,dM,aA,show n - _=q by omega];rfl
   have JX:wT ⟨[c]⟩ 0 ((n:Int) - 1) ((⟨l⟩:Str),done++List.replicate (n - done.length) zStr,(done.length:Int))=some (.inl ((⟨l.drop (j+1)⟩:Str),(done++[⟨l.take j⟩])++List.replicate (n - (done.length+1)) zStr,((done.length+1:Nat):Int))):=by
    unfold wT;rw[Kc (by simp[cmpI];omega)];simp only;rw[e2,Kb,Kd (by simp[cmpI]),show((j:Int)+0)=(j:Int) by omega,xb (by omega) (by omega),Kb,zae (by show j<=l.length;omega),Kb,e4,Kb,e5,Kb];rw[show((j:Int)+_)=((j+1:Nat):Int) from Z,xb (by omega) (by omega),Kb,JT (by show j+1<=l.length;omega),Kb,zG (by omega),Kb]
   rw[jD JX];have hlen2:(cutF c (l.drop (j+1))).length+1=(cutF c l).length:=by rw[h2];rfl
   have hrec:=ih (l.drop (j+1)).length (by simp;omega) _ Z (done++[⟨l.take j⟩]) (by simp;omega) (by simp;omega) m (by omega);rw[ap,bf] at hrec;rw[hrec];have hne2:=Wv c (l.drop (j+1));have e7:(cutF c l).getLast hne=(cutF c _).getLast hne2:=by
    have:∀ (L:List _) (hL:L≠[]),L=l.take j::cutF c (l.drop (j+1))->L.getLast hL=(cutF c _).getLast hne2:=by
     intro L hL e;subst e;exact List.getLast_cons hne2
    exact this _ hne h2
   have e8:(cutF c l).dropLast=l.take j::(cutF c (l.drop (j+1))).dropLast:=by
    have:∀ (L:List _),L=l.take j::cutF c (l.drop (j+1))->L.dropLast=l.take j::(cutF c (l.drop (j+1))).dropLast:=by
     intro L e;subst e;rw[List.dropLast_cons_of_ne_nil hne2]
    exact this _ h2
   rw[e7,e8];simp
theorem Split_eq(hs:s.l.length<=8388608)(c:UInt8):wQ s ⟨[c]⟩=some (zB s c):=by
 unfold wQ Z6;have hcount:s.l.count c<=s.l.length:=List.count_le_length;rw[Kd (by simp[cmpI]),Kd (by simp)];have e1:Yd s ⟨[c]⟩=some (s.l.count c:Int):=rfl;rw[Kc (by simp[cmpI]),e1,Kb,zG (by omega),Kb,Kb,zG (by omega),Kb];have hmin:(if((s.l.length+1:Nat):Int)<((s.l.count c+1:Nat):Int) then((s.l.length+1:Nat):Int) else _)=((s.l.count c+1:Nat):Int):=Kd (by omega);rw[hmin];have hbig:s.l.count c+1<=16777216:=by omega
 have e2:zaK 1 16 ((s.l.count c+1:Nat):Int) zStr=some (List.replicate (s.l.count c+1) zStr):=by
  unfold zaK;rw[Kc ⟨by omega,by simp;omega,by simp;omega,by omega⟩];rfl
 rw[e2,Kb,xb (by omega) (by omega),Kb];have hl:=Z1 (genSplit_loop c (s.l.count c+1) (by omega) s.l [] (by omega) (by simp[zbr]) _ (by rw[zbr];omega)) (by omega);simp only[bc,cL,Nat.sub_zero] at hl;rw[show((0:Nat):Int)=0 from Z] at hl;rw[hl,Kb];have hne:=Wv c s.l;have hlen:=zbr c s.l;have hz:((cutF c s.l).dropLast.map Str.mk).length=s.l.count c:=by simp[hlen]
 have e3:(((s.l.count c+1:Nat):Int) - 1)=(s.l.count c:Int):=by omega
 simp only[e3];have e4:atI ((cutF c s.l).dropLast.map Str.mk++[zStr]) (s.l.count c:Int)=some zStr:=by
  rw[zz,aH (by omega),hz,ct];rfl
 have e5:setO ((cutF c s.l).dropLast.map Str.mk++[zStr]) (s.l.count c:Int) (⟨(cutF c s.l).getLast hne⟩:Str)=some ((cutF c s.l).map Str.mk):=by
  unfold setO;rw[Kc ⟨by omega,by simp[hlen]⟩]
  congr 1
  rw[aj,cW _ _ (by omega),hz,ct,dM];have:=List.dropLast_concat_getLast hne
  conv=>rhs;rw[← this]
  simp
 rw[e4,Kb,e5,Kb,zG (by omega),Kb];have e6:WB ((cutF c s.l).map Str.mk) ((s.l.count c+1:Nat):Int)=some ((cutF c s.l).map Str.mk):=by
  unfold WB;rw[Kc ⟨by omega,by simp[hlen]⟩]
  congr 1
  rw[aj];exact aJ (by simp[hlen])
 rw[e6,jk];rfl
def sho(s:Str):Prop:=s.l.length<=8388608
theorem sho.mid{s:Str}(h:sho s):mid s:=by unfold sho at h;unfold Go.Proofs.YtoomehfflopakaaGreatDoor.mid;omega
theorem zel(s:Str)(c:UInt8):(zB s c).length<=s.l.length+1:=by have:=zc8 (zB s c);rwa[YQ] at this
theorem zfE(h:x∈zB s c):x.l.length<=s.l.length+1:=by
 obtain⟨k,hk⟩:=aN h;have:=part_le hk;rwa[YQ] at this
theorem Jb(p:α->Bool)(l:List α):l.any (λ x=>!p x)=!l.all p:=by
 grind
theorem x8(hs:sho s):ym s=some (zm s):=by
 unfold sho at hs;have hlen:=zel s dot;unfold ym;rw[show wQ s (⟨[46]⟩:Str)=some _ from Split_eq hs dot,Kb];have hl:zE (λ s7=>Zr (zB s dot) s7) 0=some (if(zB s dot).any (λ x=>!zF x)=true then .inr false else .inl ()):=by
  refine Ze _ _ _ _ (λ k x hx hlt=>?_) ?_ (by omega) Z
  ·unfold Zr;have hm:mid x:=by have:=zfE (ac hx);unfold mid;omega
   rw[zx,Kc (ab hlt),zz,hx,Kb,JP hm,Kb,zG (by omega)];cases zF x <;> rfl
  ·unfold Zr;rw[zx,Kd (by simp)]
 rw[hl,Kb,Jb];unfold zm
 grind
theorem Xg(hs:sho s):xi s=some (zf s):=by
 unfold xi;rw[x8 hs,zX,Kb];unfold zf emptyS
 grind
theorem zfF(hs:sho s):ZI s=some (if zm s=true then zB s dot else[]):=by
 unfold ZI;rw[x8 hs,Kb,show wQ s (⟨[46]⟩:Str)=some _ from Split_eq hs dot]
 grind
def Qt(p s:Str):Str:=if(zf p&&zF s&&zm (child p s))=true then child p s else emptyS
theorem zay(h:p.l.length+s.l.length+1<=8388608):ww p s=some (Qt p s):=by
 have hp:sho p:=by unfold sho;omega
 have hs:mid s:=by unfold mid;omega
 unfold ww Qt;rw[Xg hp,Kb,JP hs,zX,Kb];cases zf p with
 | false=>simp[emptyS]
 |true=>
  cases zF s with
  | false=>simp[emptyS]
  |true=>
   have hc:(if(decide (p≠(⟨[]⟩:Str)))=true then((catO p (⟨[46]⟩:Str)).bind λ a8=>(catO a8 s).bind λ a9=>some a9) else(some s))=some (child p s):=by
    unfold child emptyS;by_cases he:p=⟨[]⟩
    ·rw[Kd (by simp[he]),Kc he]
    ·rw[Kc (by simp[he]),Kd he,JO (by show p.l.length+1<=_;omega),Kb,JO (by rw[ap];show p.l.length+1+s.l.length<=_;omega),Kb]
   have hsc:sho (child p s):=by
    unfold sho child;split
    ·omega
    ·rw[ap,ap];show p.l.length+1+s.l.length<=_;omega
   rw[hc,Kd (by decide),Kb,x8 hsc,Kb];generalize child p s=q;cases zm q <;> rfl
theorem HasPrefix_eq:jL s p=some (decide (p.l.length<=s.l.length)&&decide ((⟨s.l.take p.l.length⟩:Str)=p)):=by
 unfold jL xm;by_cases h:p.l.length<=s.l.length
 ·have e:cmpI .geq (s.l.length:Int) (p.l.length:Int)=true:=by simp[cmpI,h]
  rw[e,zae h];simp[gO,h]
 ·have e:cmpI .geq (s.l.length:Int) (p.l.length:Int)=false:=by simp[cmpI];omega
  rw[e];simp[gO,h]
theorem zfG(hs:sho s)(hp:p.l.length+1<=8388608):ZJ s p=some (zm s&&zf p&&under s p):=by
 have hp':sho p:=by unfold sho;omega
 unfold ZJ;rw[x8 hs,Kb,Xg hp',zX,Kb,JO (by show p.l.length+1<=_;omega),zX];unfold under emptyS;cases zm s with
 | false=>rfl
 |true=>
  cases zf p with
  | false=>rfl
  |true=>
   cases he:decide (p=_) with
   | true=>rfl
   |false=>
    cases hq:decide (s=p) with
    | true=>rfl
    |false=>
     simp[HasPrefix_eq,zX]
     congr 2
     simp[];omega
theorem qM(a b c:Int):yg a b c=some (inR a b c):=rfl
theorem qN:zm emptyS=false:=rfl
theorem idx_join(p:α->Bool)(xs:List α):Option.bind (some (match xs.findIdx? p with | some i=>(Sum.inr (i:Int):Unit⊕Int) | none=>Sum.inl ())) (Sum.elim (λ _=>some (-1)) some)=some (xk p xs):=by
 unfold xk
 grind
theorem Ww(p:α->Bool)(xs:List α):cmpI .geq (xk p xs) 0=xs.any p:=by
 unfold xk;cases h:xs.findIdx? p with
 |none=>
  rw[bD] at h;have:xs.any p=false:=by rw[bW];intro x hx;simp[h x hx]
  rw[this];rfl
 |some i=>
  obtain⟨hi,hp,_⟩:=aO.1 h;have:xs.any p=true:=by rw[cC];exact⟨_,bi hi,hp⟩
  rw[this];simp[cmpI]
theorem idxOf_lss{p:α->Bool}{xs:List α}{x:α}(hx:xs[k]?=some x)(hp:p x=true):cmpI .lss (xk p xs) k=(xs.take k).any p:=by
 have hk:=zJ hx;have hxk:xs[k]=x:=by rw[aa hk] at hx;injection hx
 unfold xk;cases h:xs.findIdx? p with
 |none=>rw[bD] at h;have:=h x (ac hx);rw[hp] at this;cases this
 |some i=>
  obtain⟨hi,hpi,hmin⟩:=aO.1 h;by_cases hik:i<k
  ·have:(xs.take k).any p=true:=by
    rw[cC];exact⟨xs[i],ci.2 ⟨i,by omega,Z⟩,hpi⟩
   rw[this];simp[cmpI,hik]
  ·have:(xs.take k).any p=false:=by
    rw[bW];intro y hy;obtain⟨j,hj,rfl⟩:=ci.1 hy;exact hmin j (by omega)
   rw[this];simp[cmpI];omega
theorem IndexI_eq{n:Int}(h:xs.length<=1152921504606846):wv xs n=some (xk (λ x=>n == x) xs):=by
 unfold wv;have hl:zE (λ s4=>wS xs n s4) 0=some (match xs.findIdx? (λ x=>n == x) with | some i=>(Sum.inr (i:Int):Unit⊕Int) | none=>Sum.inl ()):=by
  refine Yn xs (λ x=>n == x) (λ i=>Sum.inr i) _ (λ k x hx hlt=>?_) ?_ (by omega) Z
  ·unfold wS;rw[zx,Kc (ab hlt),zz,hx,Kb,zG (by omega),show cmpI .eql n x=(n == x) from Z];cases n == x <;> rfl
  ·unfold wS;rw[zx,Kd (by simp)]
 rw[hl];exact idx_join _ _
theorem ContainsI_eq{n:Int}(h:xs.length<=1152921504606846):xM xs n=some (xs.any (λ x=>n == x)):=by
 unfold xM;rw[IndexI_eq h,Kb,Ww]
theorem stmt_mod(s:Stmt):decide (s={ (⟨s.kind,⟨[]⟩,0,⟨[]⟩,0⟩:Stmt) with module:=s.module })=(cmpI .eql s.level 0&&decide (s.name=⟨[]⟩)&&cmpI .eql s.value 0):=by
 cases s;rw[bO];simp[cmpI,and_assoc]
theorem stmt_nv(s:Stmt):decide (s={ { (⟨s.kind,⟨[]⟩,0,⟨[]⟩,0⟩:Stmt) with name:=s.name } with value:=s.value })=(decide (s.module=⟨[]⟩)&&cmpI .eql s.level 0):=by
 cases s;rw[bO];simp[cmpI]
theorem stmt_n(s:Stmt):decide (s={ (⟨s.kind,⟨[]⟩,0,⟨[]⟩,0⟩:Stmt) with name:=s.name })=(decide (s.module=⟨[]⟩)&&cmpI .eql s.level 0&&cmpI .eql s.value 0):=by
 cases s;rw[bO];simp[cmpI,and_assoc]
theorem smStmt.sho{s:Stmt}(h:smStmt s):sho s.module:=by have:=h.1;unfold Go.Proofs.YtoomehfflopakaaGreatDoor.sho;omega
theorem smStmt.midn{s:Stmt}(h:smStmt s):mid s.name:=by have:=h.2;unfold mid;omega
theorem stmtOk_eq{s:Stmt}(h:smStmt s):Xt s=some (zL s):=by
 have hm:=x8 h.sho;have hn:=JP h.midn;unfold Xt;rw[hm,hn,stmt_mod,stmt_nv,stmt_n];simp only[qM,zX,Kb];unfold zL;rcases s with⟨kind,m,level,name,value⟩;simp only[show ∀ x y:Int,cmpI .eql x y=(x == y) from λ _ _=>Z];by_cases h0:kind=0
 ·subst h0;simp only[aW,bI,Kb];generalize zm m=a;generalize (level == 0)=b;generalize decide (name=⟨[]⟩)=c;generalize (value == 0)=d;cases a <;> cases b <;> cases c <;> cases d <;> rfl
 ·by_cases h2:kind=2
  ·subst h2;simp only[aW,bI];generalize zm m=a;generalize (level == 0)=b;generalize decide (name=⟨[]⟩)=c;generalize (value == 0)=d;cases a <;> cases b <;> cases c <;> cases d <;> rfl
  ·have e0:(kind == 0)=false:=by simpa using h0
   have e2:(kind == 2)=false:=by simpa using h2
   simp only[e0,e2,aZ,co,Kb];by_cases h1:kind=1
   ·subst h1;simp only[aW,bI];have hl:cmpI .geq level 1=cmpI .gtr level 0:=by simp[cmpI];omega
    rw[hl];unfold zf;by_cases hme:m=emptyS
    ·subst hme;rw[qN];simp only[emptyS,decide_true,ne_eq,not_true_eq_false,decide_false];generalize (value == 0)=a;generalize inR level 0 3=b;generalize cmpI .gtr level 0=c;generalize zF name=d;cases a <;> cases b <;> cases c <;> cases d <;> rfl
    ·have e1:=cO hme;have e3:decide (m=⟨[]⟩)=false:=cO hme;have e4:decide (m≠⟨[]⟩)=true:=ab hme;rw[e1,e3,e4];generalize (value == 0)=a;generalize inR level 0 3=b;generalize cmpI .gtr level 0=c;generalize zF name=d;generalize zm m=e;cases a <;> cases b <;> cases c <;> cases d <;> cases e <;> rfl
   ·have e1:(kind == 1)=false:=by simpa using h1
    simp only[e1,aZ,co];by_cases h3:kind=3
    ·subst h3;simp only[aW,bI];generalize decide (m=⟨[]⟩)=a;generalize (level == 0)=b;generalize inR value 0 99=c;generalize zF name=d;cases a <;> cases b <;> cases c <;> cases d <;> rfl
    ·have e3:(kind == 3)=false:=by simpa using h3
     simp only[e3,aZ,co];by_cases h4:kind=4
     ·subst h4;simp only[aW,bI];generalize decide (m=⟨[]⟩)=a;generalize (level == 0)=b;generalize (value == 0)=c;generalize zF name=d;cases a <;> cases b <;> cases c <;> cases d <;> rfl
     ·have e4:(kind == 4)=false:=by simpa using h4
      simp only[e4,aZ,co];by_cases h5:kind=5
      ·subst h5;rfl
      ·have e5:(kind == 5)=false:=by simpa using h5
       simp[e5]
theorem Wx(hlen:b.length<=1048576)(h:∀ s∈b,smStmt s):xK b=some (zO b):=by
 unfold xK;have hl:zE (λ s4=>Zs b s4) 0=some (if b.any (λ x=>!zL x)=true then .inr false else .inl ()):=by
  refine Ze _ _ _ _ (λ k x hx hlt=>?_) ?_ (by omega) Z
  ·unfold Zs;rw[zx,Kc (ab hlt),zz,hx,Kb,stmtOk_eq (h x (ac hx)),Kb,zG (by omega)];cases zL x <;> rfl
  ·unfold Zs;rw[zx,Kd (by simp)]
 rw[hl,Kb,Jb];unfold zO
 grind
theorem child_ne(h:zm (child p s)=true):child p s≠emptyS:=by
 intro e;rw[e,qN] at h;cases h
theorem smFile.shop(h:smFile f):sho f.pkg:=by have:=h.1;unfold sho;omega
theorem smFile.midn(h:smFile f):mid f.name:=by have:=h.2.1;unfold mid;omega
theorem smFile.child(h:smFile f):f.pkg.l.length+f.name.l.length+1<=8388608:=by have:=h.1;have:=h.2.1;omega
theorem zaf(h:smFile f):jh f=some (z9 f):=by
 unfold jh;rw[qM,Kb,Xg h.shop,zX,Kb,qM,zX,Kb,Wx h.2.2.1 h.2.2.2,zX,Kb,JP h.midn,Kb,zay h.child,zX,Kb];unfold z9;cases inR f.root 0 2 with
 | false=>rfl
 |true=>
  cases hp:zf f.pkg with
  | false=>cases inR f.stamp 0 99 <;> rfl
  |true=>
   cases inR f.stamp 0 99 with
   | false=>rfl
   |true=>
    cases zO f.body with
    | false=>rfl
    |true=>
     cases f.init with
     | true=>rfl
     |false=>
      show some _=some (zF f.name&&zm _);cases hn:zF f.name with
      | false=>rfl
      |true=>
       unfold Qt;rw[hp,hn];cases hc:zm _ with
       | false=>simp[emptyS]
       |true=>have:=child_ne hc;simp only[Bool.and_self,bI,aW,br];rw[ab (show Go.Proofs.YtoomehfflopakaaGreatDoor.child f.pkg f.name≠⟨[]⟩ from this)]
theorem zdE(f g:File):ZE f g=some (wd f g):=rfl
theorem zcr(f g:File):wd f g=wd g f:=by
 unfold wd
 grind
theorem sameFile_refl(f:File):wd f f=true:=by simp[wd]
theorem Xh(h:wR t):xj t=some (yh t):=by
 have hlen:=h.1;unfold xj;have hl:zE (λ s4=>Zu t s4) 0=some (if(List.range t.files.length).any (λ k=>!za2 t.files k)=true then .inr false else .inl ()):=by
  refine Ze _ _ _ _ (λ k x hx hlt=>?_) ?_ (by rw[bd];omega) Z
  ·rw[bd] at hlt;rw[ck hlt] at hx;injection hx with hx;subst hx;unfold Zu;obtain⟨f,hf⟩:∃ f,t.files[k]?=some f:=⟨_,aa hlt⟩;have ht:za2 t.files k=!(!z9 f||cmpI .lss (qF t.files f) k):=by unfold za2;rw[hf]
   rw[zx,Kc (ab hlt),zz,hf,Kb,zaf (h.2 _ (ac hf)),Kb,JU (by omega),Kb,ht];cases z9 f with
   | false=>rfl
   |true=>
    rw[Kd (by decide)];have hin:zE (λ a8=>Zt f (t.files.take k) a8) 0=some (if(t.files.take k).any (λ x=>wd f x)=true then .inr (.inr (.inr false)) else .inl ()):=by
     have htl:(t.files.take k).length<=k:=by simp;omega
     refine Ze _ _ _ _ (λ j y hy hjt=>?_) ?_ (by omega) Z
     ·unfold Zt;rw[zx,Kc (ab hjt),zz,hy,Kb,zdE,Kb,zG (by omega)];cases wd f y <;> rfl
     ·unfold Zt;rw[zx,Kd (by simp)]
    rw[hin];have hfa:cmpI .lss (qF t.files f) k=(t.files.take k).any (λ x=>wd f x):=by
     unfold qF;rw[idxOf_lss (p:=λ x=>wd x f) hf (sameFile_refl _)]
     congr 1
     funext x
     exact zcr _ _
    rw[hfa];cases(t.files.take k).any (λ x=>wd f x) with
    | true=>rfl
    |false=>rw[Kd (by decide),Kb,dH,zG (by omega)];rfl
  ·unfold Zu;rw[bd,zx,Kd (by simp)]
 rw[hl,Kb,Jb];unfold yh J5
 grind
theorem fileAt_eq(h:t.files.length<=1048576):Yq t f=some (qF t.files f):=by
 unfold Yq;have hl:zE (λ s4=>Xc t f s4) 0=some (match t.files.findIdx? (λ x=>wd x f) with | some i=>(Sum.inr (i:Int):Unit⊕Int) | none=>Sum.inl ()):=by
  refine Yn t.files (λ x=>wd x f) (λ i=>Sum.inr i) _ (λ k x hx hlt=>?_) ?_ (by omega) Z
  ·unfold Xc;rw[zx,Kc (ab hlt),zz,hx,Kb,zdE,Kb,zG (by omega),zcr];cases wd x f <;> rfl
  ·unfold Xc;rw[zx,Kd (by simp)]
 rw[hl];exact idx_join _ _
theorem jw(h:yh t=true)(hf:f∈t.files):z9 f=true:=by
 obtain⟨k,hk⟩:=aN hf;unfold yh J5 at h;rw[af] at h;have:=al.1 h.1 k (az.2 (zJ hk));unfold za2 at this
 grind
theorem jU(h:z9 f=true):zf f.pkg=true:=by
 unfold z9 at h
 grind
theorem validFile_mod(h:z9 f=true):zm (y9 f)=true:=by
 have hp:=jU h;unfold z9 at h;unfold y9;split at h
 ·cases h
 ·cases hi:f.init with
  |true=>rw[hi] at h;simp at h ⊢;unfold zf at hp;simpa[h.1] using hp
  |false=>rw[hi] at h;simp at h ⊢;exact h.2
theorem zeH(h:smFile f):qI f=some (if z9 f=true then y9 f else emptyS):=by
 unfold qI;rw[zaf h,Kb,zay h.child,Kb];cases hv:z9 f with
 | false=>rfl
 |true=>
  rw[Kd (by decide),Kc Z];have hp:=jU hv;have hm:=validFile_mod hv;unfold y9 at hm ⊢;unfold z9 at hv;split at hv
  ·cases hv
  ·cases hi:f.init with
   | true=>rfl
   |false=>rw[hi] at hv hm;simp at hv hm ⊢;unfold Qt;rw[hp,hv.1,hm];rfl
theorem hasDir_eq(h:wR t)(hv:∀ f∈t.files,zf f.pkg=true)(hp:zf p=true)(hpl:p.l.length+1<=8388608):Xu t r p=some (QI t.files r p):=by
 have hlen:=h.1;unfold Xu;have hl:zE (λ s4=>Xb t r p s4) 0=some (if t.files.any (zd7 r p)=true then .inr true else .inl ()):=by
  refine Ze _ _ _ _ (λ k x hx hlt=>?_) ?_ (by omega) Z
  ·unfold Xb;have hm:=ac hx;rw[zx,Kc (ab hlt),zz,hx,Kb,zfG (h.2 x hm).shop hpl,zX,Kb,zG (by omega),hp];unfold zd7;have hvx:=hv x hm;unfold zf at hvx;rw[show cmpI .eql x.root r=(x.root == r) from Z];by_cases he:x.pkg=emptyS
   ·rw[he,qN];simp
   ·have e1:zm x.pkg=true:=by simpa[he] using hvx
    rw[e1,ab (show x.pkg≠emptyS from he)];cases x.root == r <;> cases under x.pkg p <;> rfl
  ·unfold Xb;rw[zx,Kd (by simp)]
 rw[hl,Kb];unfold QI emptyS
 grind
theorem ValidPath_eq{l:List Int}(h:l.length<=1048576):ZL l=some (we l):=by
 unfold ZL;have hl:zE (λ s4=>Zv l s4) 0=some (if(List.range l.length).any (λ k=>!za3 l k)=true then .inr false else .inl ()):=by
  refine Ze _ _ _ _ (λ k x hx hlt=>?_) ?_ (by rw[bd];omega) Z
  ·rw[bd] at hlt;rw[ck hlt] at hx;injection hx with hx;subst hx;unfold Zv;obtain⟨n,hf⟩:∃ n,l[k]?=some n:=⟨_,aa hlt⟩;have htl:(l.take k).length<=1152921504606846:=by simp;omega
   have ht:za3 l k=!(!inR n 0 2||(l.take k).any (λ x=>n == x)):=by
    unfold za3;rw[hf];simp only;unfold intAt;rw[Ww,show(λ x=>x == n)=(λ x=>n == x) from by funext x;exact BEq.comm]
   rw[zx,Kc (ab hlt),zz,hf,Kb,qM,Kb,JU (by omega),zX,Kb,ht,zG (by omega)];cases inR n 0 2 with
   | false=>rfl
   |true=>simp only[dP,aW,bI];rw[ContainsI_eq htl,zX,Kb];cases(l.take k).any (λ x=>n == x) <;> rfl
  ·unfold Zv;rw[bd,zx,Kd (by simp)]
 rw[hl,Kb,Jb];unfold we QJ
 grind
structure Good(t:Tree):Prop where
 sm:wR t
 ok:yh t=true
theorem Good.pkg{t:Tree}(h:Good t):∀ f∈t.files,zf f.pkg=true:=λ _ hf=>jU (jw h.ok hf)
theorem Good.len(h:Good t):t.files.length<=1048576:=h.sm.1
theorem wt(h:zF s=true):1<=s.l.length/\s.l.length<=3:=by
 unfold zF inR at h;simp[cmpI] at h;omega
theorem lenSum_le(l:List Str)(h:∀ x∈l,x.l.length<=3):jF l<=4*l.length:=by
 induction l with
 | nil=>exact ak _
 |cons x l ih=>
  have h1:=h x (by simp);have h2:=ih λ y hy=>h y (by simp[hy])
  unfold jF at h2 ⊢;simp;omega
theorem yp(h:zm s=true):s.l.length<=11:=by
 unfold zm at h;rw[af] at h;have h1:=lenSum_le _ λ x hx=>(wt (al.1 h.1 x hx)).2
 rw[YQ] at h1;have h2:=h.2;simp[cmpI] at h2;omega
theorem zV(h:zf s=true):s.l.length<=11:=by
 unfold zf at h;rw[bB] at h;rcases h with h | h
 ·rw[oD h];exact ao _
 ·exact yp h
def zaS:List (List UInt8)->List UInt8
 | []=>[]
 | [a]=>a
 | a::b::l=>a++46::zaS (b::l)
theorem zcs:∀ (l:List Str) (acc:List UInt8),(l.foldl Jj (⟨acc⟩,true)).1=⟨acc++(l.map λ x=>46::x.l).flatten⟩
 | [],acc=>by simp
 |x::l,acc=>by
  rw[bY];show(l.foldl Jj (⟨(acc++[46])++x.l⟩,true)).1=_;rw[zcs l];simp
theorem zcO(a:List UInt8)(l:List (List UInt8)):zaS (a::l)=a++(l.map λ x=>46::x).flatten:=by
 induction l generalizing a with
 | nil=>simp[zaS]
 | cons b l ih=>rw[zaS,ih];simp
theorem zcP(l:List Str):join l=⟨zaS (l.map (·.l))⟩:=by
 cases l with
 | nil=>rfl
 |cons x l=>unfold join Xa;rw[bY];show(l.foldl Jj (⟨[]++x.l⟩,true)).1=_;rw[zcs,cH,zcO];simp[Function.comp_def]
theorem cutF_pre(c:UInt8):∀ (a l:List UInt8),c ∉ a->cutF c (a++c::l)=a::cutF c l
 | [],l,_=>by simp[cutF]
 |b::a,l,h=>by
  have hb:(b == c)=false:=by
   have:b≠c:=λ e=>h (by simp[e])
   simpa using this
  rw[bL,WU,hb,cutF_pre c a l (λ e=>h (by simp[e]))];rfl
theorem zdF(c:UInt8):∀ (a:List UInt8),c ∉ a->cutF c a=[a]
 | [],_=>rfl
 |b::a,h=>by
  have hb:(b == c)=false:=by
   have:b≠c:=λ e=>h (by simp[e])
   simpa using this
  rw[WU,hb,zdF c a (λ e=>h (by simp[e]))];rfl
theorem zfH:∀ (l:List (List UInt8)),l≠[]->(∀ x∈l,(46:UInt8) ∉ x)->cutF 46 (zaS l)=l
 | [],h,_=>absurd Z h
 | [a],_,h=>zdF 46 a (h a (by simp))
 |a::b::l,_,h=>by
  rw[zaS,cutF_pre 46 a _ (h a (by simp)),zfH (b::l) (by simp) λ x hx=>h x (by simp[hx])]
theorem zcQ:∀ (l:List UInt8),zaS (cutF 46 l)=l
 | []=>rfl
 |b::l=>by
  rw[WU];cases hb:b == 46 with
  |true=>
   have ih:=zcQ l;have hb:=dO hb;rw[Kc Z];cases hc:cutF 46 l with
   | nil=>exact absurd hc (Wv 46 l)
   | cons h t=>rw[zaS,← hc,ih,hb];rfl
  |false=>
   have ih:=zcQ l;rw[Kd (by decide)];cases hc:cutF 46 l with
   | nil=>exact absurd hc (Wv 46 l)
   |cons h t=>rw[hc] at ih;show zaS ((b::h)::t)=b::l;rw[zcO] at ih ⊢;rw[← ih];rfl
theorem join_split(s:Str):join (zB s dot)=s:=by
 rw[zcP,jk,cV];show(⟨zaS ((cutF 46 s.l).map λ x=>x)⟩:Str)=s;rw[List.map_id',zcQ]
theorem low_ne{b:UInt8}(h:low b=true):b≠46:=by
 intro e;subst e;revert h;decide
theorem validPart_dot(h:zF s=true):(46:UInt8) ∉ s.l:=by
 unfold zF at h;rw[af] at h;intro hm;exact low_ne (al.1 h.2 _ hm) Z
theorem zfI(hne:l≠[])(h:∀ x∈l,zF x=true):zB (join l) dot=l:=by
 rw[zcP,jk];show(cutF 46 _).map Str.mk=l;rw[zfH _ (by simpa using hne) (by
  intro x hx;obtain⟨y,hy,rfl⟩:=bg.1 hx;exact validPart_dot (h y hy)),cV]
 show l.map (λ x=>x)=l
 simp_all
theorem zfJ(hne:l≠[])(hlen:l.length<=3)(h:∀ x∈l,zF x=true):zm (join l)=true:=by
 unfold zm;rw[zfI hne h,af];exact⟨al.2 h,by simp[cmpI];omega⟩
theorem jH(h:zm s=true):(∀ x∈zB s dot,zF x=true)/\(zB s dot).length<=3:=by
 unfold zm at h;rw[af] at h;have:=h.2;simp[cmpI] at this
 grind
theorem pre_valid(h:zm s=true)(k:Nat):zf (join ((zB s dot).take k))=true:=by
 obtain⟨h1,h2⟩:=jH h;unfold zf;cases k with
 | zero=>rfl
 |succ k=>have hne:=Q0 s dot;rw[zfJ (by intro e;have:=bz List.length e;simp at this;rw[this] at hne;simp at hne) (by simp;omega) λ x hx=>h1 x (dD hx),dT]
theorem zeI(c:UInt8):∀ (a l:List UInt8),cutF c (a++c::l)=cutF c a++cutF c l
 | [],l=>by simp[cutF]
 |b::a,l=>by
  rw[bL,WU,zeI c a l,WU];cases b == c with
  | true=>rfl
  |false=>
   rw[Kd (by decide),Kd (by decide)];cases hc:cutF c a with
   | nil=>exact absurd hc (Wv c a)
   | cons h t=>rfl
theorem split_append(p s:Str):zB ⟨(p.l++[46])++s.l⟩ dot=zB p dot++zB s dot:=by
 rw[jk,jk,jk,← ea];show(cutF 46 _).map Str.mk=(cutF 46 p.l++cutF 46 s.l).map Str.mk;rw[aA,cX,zeI]
theorem zeJ:jg l s=true ↔ s∈l:=by
 unfold jg textAt;rw[Ww,cC]
 grind
theorem insertT_iff:x∈jO l s ↔ x∈l\/x=s:=by
 refine⟨insertT_mem,λ h=>?_⟩;unfold jO;split
 ·rename_i hc;rcases h with h | h
  ·exact h
  ·rw[h];exact zeJ.1 hc
 ·rcases h with h | h
  ·simp only[bb,aF];have:=bH (qq l s l.length) l;rw[← this,bb] at h;rcases h with h | h
   ·exact .inl (.inl h)
   ·exact .inr h
  ·simp[h]
theorem insertAll_iff{m:List Str}:x∈m.foldl jO l ↔ x∈l\/x∈m:=by
 induction m generalizing l with
 | nil=>simp
 | cons y m ih=>rw[bY,ih,insertT_iff,am,or_assoc]
theorem bytesLt:∀ (x y:List UInt8),Op.bytesLess x y=decide (x<y)
 | [],[]=>by simp[Op.bytesLess]
 | _::_,[]=>by simp[Op.bytesLess]
 | [],_::_=>by simp[Op.bytesLess]
 |a::x,b::y=>by
  rw[Op.bytesLess,bytesLt x y];simp only[List.cons_lt_cons_iff];by_cases h1:a<b <;> by_cases h2:a=b <;> by_cases h3:x<y <;> simp[h1,h2,h3]
def Asc(l:List Str):Prop:=l.Pairwise λ x y=>x.l<y.l
theorem asc_ext:∀ {l m:List Str},Asc l->Asc m->(∀ x,x∈l ↔ x∈m)->l=m
 | [],[],_,_,_=>rfl
 | [],b::m,_,_,h=>absurd ((h b).2 (by simp)) (by simp)
 | a::l,[],_,_,h=>absurd ((h a).1 (by simp)) (by simp)
 |a::l,b::m,hl,hm,h=>by
  rw[Asc,List.pairwise_cons] at hl hm;have hab:a=b:=by
   rcases am.1 ((h a).1 (by simp)) with e | e
   ·exact e
   ·rcases am.1 ((h b).2 (by simp)) with e2 | e2
    ·exact e2.symm
    ·exact absurd (dv (hm.1 a e) (hl.1 b e2)) (dh _)
  subst hab;rw[asc_ext hl.2 hm.2 λ x=>?_];constructor
  ·intro hx;rcases am.1 ((h x).1 (by simp[hx])) with e | e
   ·rw[e] at hx;exact absurd (hl.1 a hx) (dh _)
   ·exact e
  ·intro hx;rcases am.1 ((h x).2 (by simp[hx])) with e | e
   ·rw[e] at hx;exact absurd (hm.1 a hx) (dh _)
   ·exact e
theorem Qu{b:List UInt8}(h:a<=b)(hne:a≠b):a<b:=by
 grind
theorem zdG(d:Array (List UInt8))(hd:∀ i j,i<=j->j<d.size->d[i]! <= d[j]!):∀ m,m<=d.size->
  (Lib.compactUpTo d m).Pairwise (·<·)/\(∀ x,x∈Lib.compactUpTo d m ↔ ∃ j,j<m/\d[j]! = x)
 | 0,_=>⟨by simp[Lib.compactUpTo],λ x=>by simp[Lib.compactUpTo]⟩
 |m+1,hm=>by
  obtain⟨h1,h2⟩:=zdG d hd m (by omega);rw[Lib.compactUpTo_succ];cases hk:Lib.keeps d m with
  |true=>
   rw[Kc Z];refine⟨List.pairwise_append.2 ⟨h1,by simp,λ a ha b hb=>?_⟩,λ x=>?_⟩
   ·rw[aF] at hb;subst hb;obtain⟨j,hj,rfl⟩:=(h2 a).1 ha;have hk':m=0\/d[m]! ≠ d[m - 1]! := oD hk;rcases hk' with e | e
    ·omega
    ·have hlt:=Qu (hd (m - 1) m (by omega) (by omega)) (bo e);rcases Decidable.em (d[j]! = d[m - 1]!) with e2 | e2
     ·rw[e2];exact hlt
     ·exact dv (Qu (hd j (m - 1) (by omega) (by omega)) e2) hlt
   ·rw[bb,h2,aF];constructor
    ·rintro (⟨j,hj,h⟩ | h)
     ·exact⟨j,by omega,h⟩
     ·exact⟨m,by omega,h.symm⟩
    ·rintro ⟨j,hj,h⟩
     by_cases hjm:j=m
     ·subst hjm;exact .inr h.symm
     ·exact .inl ⟨j,by omega,h⟩
  |false=>
   rw[Kd (by decide),aM];refine⟨h1,λ x=>?_⟩;rw[h2];have hk':¬ (m=0\/d[m]! ≠ d[m - 1]!):=bC hk;constructor
   ·rintro ⟨j,hj,h⟩;exact⟨j,by omega,h⟩
   ·rintro ⟨j,hj,h⟩
    by_cases hjm:j=m
    ·subst hjm;refine⟨j - 1,by omega,?_⟩;rw[← h];exact(Decidable.byContradiction λ e=>hk' (.inr (bo e)))
    ·exact⟨j,by omega,h⟩
def Jc(xs:List Str):List Str:=YR (Q3 xs)
theorem le_dec_trans(a b c:List UInt8)(h1:decide (a<=b)=true)(h2:decide (b<=c)=true):decide (a<=c)=true:=
 ab (List.le_trans (oD h1) (oD h2))
theorem le_dec_total(a b:List UInt8):(decide (a<=b)||decide (b<=a))=true:=by
 grind
theorem zdH(xs:List Str):Asc (Jc xs)/\∀ x,x∈Jc xs ↔ x∈xs:=by
 have hs:=List.pairwise_mergeSort le_dec_trans le_dec_total (xs.map (·.l));have hm:∀ y,y∈(xs.map (·.l)).mergeSort (λ x y=>decide (x<=y)) ↔ y∈xs.map (·.l):=λ y=>List.mem_mergeSort
 unfold Jc YR;rw[sortS_l];generalize (xs.map (·.l)).mergeSort (λ x y=>decide (x<=y))=zs at hs hm;have hd:∀ i j,i<=j->j<zs.toArray.size->zs.toArray[i]! <= zs.toArray[j]! := by
  intro i j hij hj;have hj':j<zs.length:=by simpa using hj
  by_cases e:i=j
  ·subst e;exact List.le_refl _
  ·have:=dd.1 hs i j (by omega) hj' (by omega);simpa[d8,hj',show i<zs.length by omega] using this
 obtain⟨h1,h2⟩:=zdG zs.toArray hd zs.length (by simp);refine⟨?_,λ x=>?_⟩
 ·unfold Asc Lib.compact;rw[List.pairwise_map];exact h1
 ·have hmem:∀ y,y∈Lib.compact zs ↔ y∈xs.map (·.l):=by
   intro y;rw[← hm];unfold Lib.compact;rw[h2];constructor
   ·rintro ⟨j,hj,rfl⟩
    rw[show zs.toArray[j]! = zs[j] from by simp[hj]];exact bi hj
   ·intro hy;obtain⟨j,hj,rfl⟩:=List.mem_iff_getElem.1 hy;exact⟨j,hj,by simp[hj]⟩
  rw[bg];constructor
  ·rintro ⟨y,hy,rfl⟩
   obtain⟨z,hz,rfl⟩:=bg.1 ((hmem y).1 hy);exact hz
  ·intro hx;exact⟨x.l,(hmem _).2 (bg.2 ⟨x,hx,Z⟩),Z⟩
theorem zeK(xs:List Str):(Jc xs).length<=xs.length:=by
 unfold Jc YR;rw[bZ,sortS_l];refine aQ (Lib.compact_length_le _) ?_;simp
theorem sorted_eq{xs:List Str}(h:xs.length<=1099511627776):W0 xs=some (Jc xs):=by
 have h2:=zeK xs;unfold W0 wo;rw[Kc (by omega),Kb];unfold xJ;rw[Kc (by rw[zd8];omega),Kb];show(appO 16 [] (Jc xs)).bind (λ a8=>some a8)=_;rw[yk (by simp;omega) (by simp;omega)];rfl
theorem gtr_lt{y:Str}:cmpS .gtr x y=decide (y.l<x.l):=by
 show(!(Op.bytesLess x.l y.l||decide _))=_;rw[bytesLt];by_cases h:x=y
 ·subst h;simp[dh]
 ·have hne:x.l≠y.l:=λ e=>h (by cases x;cases y;simp_all)
  by_cases h2:x.l<y.l
  ·have:¬ y.l<x.l:=λ h3=>dh _ (dv h2 h3)
   simp[h2,this]
  ·have:=Qu (List.not_lt.1 h2) (bo hne);simp[h,h2,this]
theorem insPos_le(l:List Str)(s:Str):∀ k,qq l s k<=k
 | 0=>ak _
 |k+1=>by
  unfold qq;split
  ·split
   ·have:=insPos_le l s k;omega
   ·exact ak _
  ·exact ak _
theorem zeL{l:List Str}{s:Str}:∀ k,k<=l.length->(∀ j y,l[j]?=some y->qq l s k<=j->j<k->s.l<y.l)/\(∀ y,0<qq l s k->l[qq l s k - 1]?=some y->¬ s.l<y.l)
 | 0,_=>⟨λ j _ _ _ h=>absurd h (by omega),λ _ h=>absurd h (by simp[qq])⟩
 |k+1,hk=>by
  have hx:l[k]?=some l[k]:=aa (by omega);by_cases h:s.l<l[k].l
  ·have e:qq l s (k+1)=qq l s k:=by
    conv=>lhs;unfold qq
    rw[hx];simp only;rw[gtr_lt,Kc (ab h)]
   rw[e];obtain⟨h1,h2⟩:=zeL (l:=l) (s:=s) k (by omega);refine⟨λ j y hj hj1 hj2=>?_,h2⟩;by_cases e:j=k
   ·subst e;rw[hx] at hj;injection hj with hj;rw[← hj];exact h
   ·exact h1 j y hj hj1 (by omega)
  ·have e:qq l s (k+1)=k+1:=by
    unfold qq;rw[hx];simp only;rw[gtr_lt,Kd (by simpa using h)]
   rw[e];refine⟨λ j _ _ h1 h2=>by omega,λ y _ hy=>?_⟩;rw[df,hx] at hy;injection hy with hy;rw[← hy];exact h
theorem insertT_asc(hl:Asc l):Asc (jO l s):=by
 unfold jO;cases hc:jg l s with
 | true=>exact hl
 |false=>
  rw[Kd (by decide)];have hns:s ∉ l:=λ h=>by rw[zeJ.2 h] at hc;cases hc
  obtain⟨h1,h2⟩:=zeL l.length (ak _);have hle:=insPos_le l s l.length;generalize qq l s l.length=p at*;have hpw:=dd.1 hl;have hlow:∀ a∈l.take p,a.l<s.l:=by
   intro a ha;obtain⟨i,hi,rfl⟩:=ci.1 ha;have hp:=h2 l[p - 1] (by omega) (aa (by omega));have hlt:=Qu (List.not_lt.1 hp) λ e=>hns (by
    have:l[p - 1]=s:=by
     cases hq:l[p - 1] with
     | mk q=>rw[hq] at e;cases s;simp_all
    rw[← this];exact bi _)
   by_cases e:i=p - 1
   ·subst e;exact hlt
   ·exact dv (hpw i _ (by omega) (by omega) (by omega)) hlt
  have hhigh:∀ b∈l.drop p,s.l<b.l:=by
   intro b hb;obtain⟨i,hi,rfl⟩:=List.mem_drop_iff_getElem.1 hb;exact h1 _ _ (aa _) (by omega) (by omega)
  unfold Asc;rw[aA,List.pairwise_append];refine⟨hl.sublist (List.take_sublist _ _),?_,λ a ha b hb=>?_⟩
  ·rw[cX,List.pairwise_cons];exact⟨hhigh,hl.sublist (List.drop_sublist _ _)⟩
  ·rw[cX,am] at hb;rcases hb with rfl | hb
   ·exact hlow a ha
   ·exact dv (hlow a ha) (hhigh b hb)
theorem insertAll_asc{m:List Str}(hl:Asc l):Asc (m.foldl jO l):=by
 induction m generalizing l with
 | nil=>exact hl
 | cons x m ih=>rw[bY];exact ih (insertT_asc hl)
section
variable{S β:Type}
theorem YA{step:S->Option (S⊕β)}(n:Nat)(mk:Nat->S){b:β}(h:∀ k,k<n->step (mk k)=some (.inl (mk (k+1))))(hend:step (mk n)=some (.inr b))(hn:n<576460752303423488){s:S}(hs:s=mk 0):zE step s=some b:=by
 subst hs;have key:∀ m k,k+m=n->jr step (m+1) (mk k)=some b:=by
  intro m
  induction m with
  | zero=>intro k hk;rw[show k=n by omega];exact yY hend
  | succ m ih=>intro k hk;rw[jD (h k (by omega))];exact ih _ (by omega)
 exact Z1 (key n 0 (by omega)) (by omega)
end
theorem jN{l:List α}(h:k<l.length):∃ x,l[k]?=some x/\x∈l:=⟨l[k],aa h,bi h⟩
theorem libJoin(l:List (List UInt8)):Lib.join l [46]=zaS l:=by
 cases l with
 | nil=>rfl
 |cons a l=>rw[zcO];rw[Lib.join_cons];rfl
theorem NamesAbove_eq(hs:sho s):jx s=some (if zm s=true then zb5 s else[]):=by
 unfold jx;rw[zfF hs,Kb];cases hv:zm s with
 |false=>rw[Kd (by decide),Kd (by decide),show zE (λ s7=>wh s [] s7) ([],(0:Int))=some [] from YA 0 (λ k=>_) (λ k hk=>absurd hk (by omega)) (by unfold wh;simp only;rw[Kd (by decide)]) (by omega) Z];rfl
 |true=>
  obtain⟨hparts,hlen⟩:=jH hv;have hnl:=yp hv;have hl:zE (λ s7=>wh s (zB s dot) s7) ([],(0:Int))=some (zb5 s):=by
   refine YA (zB s dot).length (λ k=>(X9 _ k,(k:Int))) (λ k hk=>?_) (by unfold wh;simp only;rw[zx,Kd (by simp)];rfl) (by omega) Z;unfold wh;simp only;have hj:ZD ((zB s dot).take (k+1)) (⟨[46]⟩:Str)=some (join ((zB s dot).take (k+1))):=by
    have hb:=join_le (zB s dot) (k+1);rw[YQ] at hb;have e:(⟨Lib.join (((zB s dot).take (k+1)).map (·.l)) [46]⟩:Str)=join ((zB s dot).take (k+1)):=by rw[libJoin,zcP]
    unfold ZD;rw[Kc ⟨by simp;omega,by
     have:=bz (λ x:Str=>x.l.length) e;simp only at this;rw[this];omega⟩]
    exact bz some e
   rw[zx,Kc (ab hk),zfF hs,hv,Kc Z,Kb,zG (by omega),Kb,JU (by omega),Kb,hj,Kb,yk (by simp[JG];omega) (by simp[JG];omega),Kb,Kb,zb4]
  rw[Kc Z,Kc Z,hl];rfl
theorem YB(h:yh t=true):t.files.length<=12:=by
 unfold yh at h;rw[af] at h;have:=h.2;simp[cmpI] at this;omega
theorem above_len(s:Str):(zb5 s).length=(zB s dot).length:=JG _ _
theorem jl(h:zm x=true):sho x:=by have:=yp h;unfold sho;omega
open Go.RowKit
def Okd{α:Type}[Rep α](x:α):Prop:=∃ M w cs,Rep.rdc M w cs x
section
variable{α β:Type}[Rep α][Rep β]
theorem Okd.fld{get:α->β}(f:Fld get off){x:α}(h:Okd x):Okd (get x):=by
 obtain⟨M,w,cs,hr⟩:=h;obtain⟨c,_,h2⟩:=f.sub hr;exact⟨M,w,c,h2⟩
theorem Okd.str(h:Okd s):s.l.length<=9223372036854775807:=by
 obtain⟨M,w,cs,hr⟩:=h;exact hr.2
theorem Okd.len{xs:List α}(h:Okd xs):xs.length<=9223372036854775807:=by
 obtain⟨M,w,cs,A,c,_,h1,h2,_⟩:=h;exact aQ h1 h2
theorem rowR_okd{M:Nat->Prop}{w:World}:∀ {cells:List Value} {xs:List α},rowR M w cells xs->∀ x∈xs,Okd x
 | _,_::_,⟨c,_r,_,h1,h2⟩,x,hx=>(am.1 hx).elim (λ e=>e ▸ ⟨M,w,c,h1⟩) (rowR_okd h2 x)
theorem Okd.mem{xs:List α}(h:Okd xs){x:α}(hx:x∈xs):Okd x:=by
 obtain⟨M,w,cs,A,c,_,_,_,h3⟩:=h;rcases h3 with h3 | ⟨b,o,cells,_,_,_,hr⟩
 ·rw[h3] at hx;cases hx
 ·exact rowR_okd hr x hx
theorem RdAll.okd{xs:List Dt}(hr:RdAll M w vs xs){x:α}(hx:dt x∈xs):Okd x:=by
 induction hr with
 | nil=>cases hx
 |cons h r ih=>
  rcases am.1 hx with e | hx
  ·rw[← e] at h;obtain⟨cs,h1,_⟩:=h;exact⟨M,w,cs,h1⟩
  ·exact ih hx
theorem Fn.okd{P:Program}{f:FuncId}{xs:List Dt}{y:Dt}{x:α}(hx:dt x∈xs)(h:Okd x->Fn P f xs y):Fn P f xs y:=λ M w vs hm hr=>h (hr.okd hx) M w vs hm hr
end
section
variable{α β σ S:Type}
theorem neq_len{m n:Nat}:cmpI .neq (m:Int) (n:Int)=!decide (m=n):=by
 by_cases h:m=n
 ·simp[cmpI,h]
 ·simp[cmpI,h];omega
theorem set_at{xs:List α}{z:α}(hk:k<xs.length):(xs.take k++List.replicate (xs.length - k) z).set k xs[k]=xs.take (k+1)++List.replicate (xs.length - (k+1)) z:=by
 rw[cW _ _ (by rw[aI];omega),aI,bq (by omega),ct,show xs.length - k=(xs.length - (k+1))+1 by omega,db,dM,be,aa hk];simp only[Option.toList_some,aA,cX]
theorem at_at{xs:List α}{z:α}(hk:k<xs.length):(xs.take k++List.replicate (xs.length - k) z)[k]?=some z:=by
 rw[aH (by rw[aI];omega),aI,bq (by omega),ct,List.getElem?_replicate,Kc (by omega)]
theorem len_at{xs:List α}{z:α}(hk:k<xs.length):k<(xs.take k++List.replicate (xs.length - k) z).length:=by
 rw[ap,aI,cu];omega
theorem zem{step:List α×Int->Option ((List α×Int)⊕List α)}(xs:List α)(z:α)
  (h:∀ k (hk:k<xs.length),step (xs.take k++List.replicate (xs.length - k) z,(k:Int))=some (.inl ((xs.take k++List.replicate (xs.length - k) z).set k xs[k],((k+1:Nat):Int))))
  (hend:∀ ys,step (ys,(xs.length:Int))=some (.inr ys)) (hlen:xs.length<576460752303423488) {s0:List α×Int} (h0:s0=(List.replicate xs.length z,0)):zE step s0=some xs:=by
 have key:∀ m k,k+m=xs.length->jr step (m+1) (xs.take k++List.replicate (xs.length - k) z,(k:Int))=some xs:=by
  intro m
  induction m with
  |zero=>
   intro k hk;have:k=xs.length:=by omega
   subst this;rw[yY (hend _)];simp
  |succ m ih=>
   intro k hk;have hlt:k<xs.length:=by omega
   rw[jD (h k hlt),set_at hlt];exact ih (k+1) (by omega)
 have h1:=key xs.length 0 (by omega);subst h0;exact Z1 (by simpa using h1) (by omega)
theorem makeO_of{size bytes n:Nat}{z:α}(h1:n*size<=16777216)(h2:bytes*n<=281474976710656)(h3:n<=9223372036854775807):zaK size bytes (n:Int) z=some (List.replicate n z):=by
 unfold zaK;rw[Kc ⟨by omega,by simpa using h1,by simpa using h2,by omega⟩];simp
theorem eq_loop[DecidableEq α]{step:Int->Option (Int⊕(Unit⊕Bool))}(xs ys:List α)(hxy:xs.length=ys.length)
  (h:∀ k (hk:k<xs.length) (hk2:k<ys.length),step (k:Int)=some (if xs[k]=ys[k] then .inl ((k+1:Nat):Int) else .inr (.inr false)))
  (hend:step (xs.length:Int)=some (.inr (.inl ()))) (hlen:xs.length<576460752303423488):Option.bind (α:=Unit⊕Bool) (zE step 0) (Sum.elim (λ _=>some true) some)=some (decide (xs=ys)):=by
 have key:∀ m k,k+m=xs.length->xs.take k=ys.take k->∃ r,jr step (m+1) (k:Int)=some r/\(Sum.elim (λ _=>some true) some r:Option Bool)=some (decide (xs=ys)):=by
  intro m
  induction m with
  |zero=>
   intro k hk he;have:k=xs.length:=by omega
   subst this;refine⟨_,yY hend,?_⟩;rw[aL,hxy,aL] at he;simp[he]
  |succ m ih=>
   intro k hk he;have hlt:k<xs.length:=by omega
   have hlt2:k<ys.length:=by omega
   have hs:=h k hlt hlt2;by_cases e:xs[k]=ys[k]
   ·rw[Kc e] at hs;rw[jD hs];refine ih (k+1) (by omega) ?_;rw[be,be,he,aa hlt,aa hlt2,e]
   ·rw[Kd e] at hs;refine⟨_,yY hs,?_⟩;have:xs≠ys:=λ h=>by subst h;exact e Z
    simp[this]
 obtain⟨r,h1,h2⟩:=key xs.length 0 (by omega) Z;have h1':jr step (xs.length+1) (0:Int)=some r:=h1;rw[Z1 h1' (by omega),Kb];exact h2
def szR(t:Nat)(left:Int):Int:=if(t:Int)<=left then left - t else -1
theorem szR_neg{t:Nat}{left:Int}:szR t left<0 ↔ left<t:=by unfold szR;split <;> omega
theorem szR_nn{t:Nat}{left:Int}(h:0<=szR t left):(t:Int)<=left/\szR t left=left - t:=by
 unfold szR at h ⊢;split at h
 ·rename_i h1;rw[Kc h1];exact⟨h1,Z⟩
 ·omega
def sumL(f:α->Nat):List α->Nat
 | []=>0
 | x::xs=>f x+sumL f xs
theorem zbs{f:α->Nat}:∀ {xs:List α} {x:α},x∈xs->f x<=sumL f xs
 |y::ys,x,hx=>by
  unfold sumL;rcases am.1 hx with rfl | hx
  ·omega
  ·have:=zbs (f:=f) hx;omega
theorem sumL_drop{f:α->Nat}{xs:List α}(hk:k<xs.length):sumL f (xs.drop k)=f xs[k]+sumL f (xs.drop (k+1)):=by
 rw[bh hk];rfl
theorem sz_loop{step:Int×Int->Option ((Int×Int)⊕(Int⊕Int))}(xs:List α)(f:α->Nat)
  (h:∀ k (hk:k<xs.length) (l:Int),0<=l->l<=1048576->step (l,(k:Int))=some (if szR (f xs[k]) l<0 then .inr (.inr (-1)) else .inl (szR (f xs[k]) l,((k+1:Nat):Int))))
  (hend:∀ l,step (l,(xs.length:Int))=some (.inr (.inl l))) (hlen:xs.length<576460752303423488)  (h0:0<=l0) (h1:l0<=1048576):
  Option.bind (α:=Int⊕Int) (zE step (l0,0)) (Sum.elim (λ l=>some l) some)=some (szR (sumL f xs) l0):=by
 have key:∀ m k l,k+m=xs.length->0<=l->l<=1048576->∃ r,jr step (m+1) (l,(k:Int))=some r/\(Sum.elim (λ l=>some l) some r:Option Int)=some (szR (sumL f (xs.drop k)) l):=by
  intro m
  induction m with
  |zero=>
   intro k l hk hl hl2;have:k=xs.length:=by omega
   subst this;refine⟨_,yY (hend l),?_⟩;rw[bR];show some l=some (szR 0 l)
   congr 1
   unfold szR;rw[Kc (by omega)];simp
  |succ m ih=>
   intro k l hk hl hl2;have hlt:k<xs.length:=by omega
   have hs:=h k hlt l hl hl2;rw[sumL_drop hlt];by_cases e:szR (f xs[k]) l<0
   ·rw[Kc e] at hs;refine⟨_,yY hs,?_⟩;show some (-1:Int)=_
    congr 1
    rw[szR_neg] at e;unfold szR;rw[Kd (by omega)]
   ·rw[Kd e] at hs;obtain⟨e1,e2⟩:=szR_nn (t:=f xs[k]) (left:=l) (by omega);obtain⟨r,r1,r2⟩:=ih (k+1) (szR (f xs[k]) l) (by omega) (by omega) (by omega);refine⟨r,by rw[jD hs];exact r1,?_⟩;rw[r2]
    congr 1
    rw[e2];unfold szR;by_cases e3:(sumL f (xs.drop (k+1)):Int)<=l - f xs[k]
    ·rw[Kc e3,Kc (by omega)];omega
    ·rw[Kd e3,Kd (by omega)]
 obtain⟨r,r1,r2⟩:=key xs.length 0 l0 (by omega) h0 h1;have r1':jr step (xs.length+1) (l0,(0:Int))=some r:=r1;rw[Z1 r1' (by omega),Kb];simpa using r2
end
section
variable{α:Type}
theorem zdI{len:Nat}{l:Int}(hl:0<=l)(h2:l<=1048576)(hlen:len<=9223372036854775807){K:Int->Option Int}{t:Nat}(hK:∀ l',0<=l'->l'<=1048576->K l'=some (szR t l')):
  ((i64 (l - (len:Int))).bind λ v=>if cmpI .lss v (0:Int)=true then some (-1:Int) else K v)=some (szR (len+t) l):=by
 rw[xb (by omega) (by omega),Kb];cases h:cmpI .lss (l - (len:Int)) 0 with
 |true=>have h':l - (len:Int)<0:=oD h;rw[Kc Z];unfold szR;rw[Kd (by omega)]
 |false=>
  have h':¬ l - (len:Int)<0:=bC h;rw[Kd (by decide),hK _ (by omega) (by omega)]
  congr 1
  unfold szR;by_cases e:(t:Int)<=l - len
  ·rw[Kc e,Kc (by omega)];omega
  ·rw[Kd e,Kd (by omega)]
theorem szS_sub{t1 t:Nat}{l:Int}{m:Option Int}(hl:0<=l)(h2:l<=1048576)(hm:m=some (szR t1 l)){K:Int->Option Int}(hK:∀ l',0<=l'->l'<=1048576->K l'=some (szR t l')):
  (m.bind λ v=>if cmpI .lss v (0:Int)=true then some (-1:Int) else K v)=some (szR (t1+t) l):=by
 rw[hm,Kb];cases h:cmpI .lss (szR t1 l) 0 with
 |true=>have h':szR t1 l<0:=oD h;rw[szR_neg] at h';rw[Kc Z];unfold szR;rw[Kd (by omega)]
 |false=>
  have h':¬ szR t1 l<0:=bC h;obtain⟨e1,e2⟩:=szR_nn (t:=t1) (left:=l) (by omega);rw[Kd (by decide),hK _ (by omega) (by omega),e2]
  congr 1
  unfold szR;by_cases e:(t:Int)<=l - t1
  ·rw[Kc e,Kc (by omega)];omega
  ·rw[Kd e,Kd (by omega)]
theorem szS_end{l:Int}(h:0<=l):some l=some (szR 0 l):=by
 congr 1
 unfold szR;rw[Kc (by omega)];simp
theorem szS_list{step:Int×Int->Option ((Int×Int)⊕(Int⊕Int))}{xs:List α}{f:α->Nat}{l:Int}(hlen:xs.length<=9223372036854775807)
  (h:∀ k (hk:k<xs.length) (l:Int),xs.length<=1048576->0<=l->l<=1048576->step (l,(k:Int))=some (if szR (f xs[k]) l<0 then .inr (.inr (-1)) else .inl (szR (f xs[k]) l,((k+1:Nat):Int))))
  (hend:∀ l,step (l,(xs.length:Int))=some (.inr (.inl l))) (hl:0<=l) (h2:l<=1048576):
  ((i64 (l - (xs.length:Int))).bind λ v=>if cmpI .lss v (0:Int)=true then some (-1:Int) else Option.bind (α:=Int⊕Int) (zE step (v,(0:Int))) (Sum.elim (λ b=>some b) some))=some (szR (xs.length+sumL f xs) l):=by
 rw[xb (by omega) (by omega),Kb];cases hc:cmpI .lss (l - (xs.length:Int)) 0 with
 |true=>have h':l - (xs.length:Int)<0:=oD hc;rw[Kc Z];unfold szR;rw[Kd (by omega)]
 |false=>
  have h':¬ l - (xs.length:Int)<0:=bC hc;rw[Kd (by decide),sz_loop xs f (λ k hk l h3 h4=>h k hk l (by omega) h3 h4) hend (by omega) (by omega) (by omega)]
  congr 1
  unfold szR;by_cases e:(sumL f xs:Int)<=l - xs.length
  ·rw[Kc e,Kc (by omega)];omega
  ·rw[Kd e,Kd (by omega)]
variable[Decidable q]{K:Option Bool}
theorem zaz{a b:Int}(hK:K=some (decide q)):(if cmpI .neq a b=true then some false else K)=some (decide (a=b/\q)):=by
 rw[hK];by_cases h:a=b
 ·simp[cmpI,h]
 ·simp[cmpI,h]
theorem zdJ{a b:Str}(hK:K=some (decide q)):(if decide (a≠b)=true then some false else K)=some (decide (a=b/\q)):=by
 rw[hK];by_cases h:a=b
 ·simp[h]
 ·simp[h]
theorem eqS_bool{a b:Bool}(hK:K=some (decide q)):(if(a != b)=true then some false else K)=some (decide (a=b/\q)):=by
 rw[hK];by_cases h:a=b
 ·simp[h]
 ·simp[h]
theorem eqS_sub[DecidableEq α]{a b:α}(hm:m=some (decide (a=b)))(hK:K=some (decide q)):(m.bind λ v=>if(!v)=true then some false else K)=some (decide (a=b/\q)):=by
 rw[hm,hK,Kb];by_cases h:a=b
 ·simp[h]
 ·simp[h]
theorem eqS_end:some true=some (decide True):=by simp
theorem eqS_list[DecidableEq α]{step:Int->Option (Int⊕(Unit⊕Bool))}{xs ys:List α}
  (h:∀ k (hk:k<xs.length) (hk2:k<ys.length),step (k:Int)=some (if xs[k]=ys[k] then .inl ((k+1:Nat):Int) else .inr (.inr false)))
  (hend:step (xs.length:Int)=some (.inr (.inl ()))) (hlen:xs.length<576460752303423488):
  (if cmpI .neq (xs.length:Int) (ys.length:Int)=true then some false else Option.bind (α:=Unit⊕Bool) (zE step 0) (Sum.elim (λ _=>some true) some))=some (decide (xs=ys)):=by
 rw[neq_len];by_cases e:xs.length=ys.length
 ·rw[Kd (by simp[e]),eq_loop xs ys e h hend hlen]
 ·rw[Kc (by simp[e])];have:xs≠ys:=λ h=>e (by rw[h])
  simp[this]
end
theorem modO_of{m n:Int}(h:n≠0:=by decide):modO m n=some (m.tmod n):=Kd h
theorem zbt{xs:List α}(hk:k<xs.length):cmpI .lss (k:Int) (xs.length:Int)=true:=by rw[zx];exact ab hk
theorem Qv{xs:List α}:cmpI .lss (xs.length:Int) (xs.length:Int)=false:=by rw[zx];simp
theorem Qj{xs:List α}(hk:k<xs.length):atI xs (k:Int)=some xs[k]:=by rw[zz,aa hk]
theorem zen(k:Nat):(k:Int).toNat=k:=rfl
