import Derived.Test.YtoomehfflopakaaGreatDoorTFb
namespace Go.Proofs.YtoomehfflopakaaGreatDoor
variable{f:File}{k0 l0 r:Int}{K:Int->Option Int}{xs:List Int}{b:List Stmt}{l:List Str}{a:List UInt8}{vs:List Value}{k off:Nat}{M:Nat->Prop}{m:Option Bool}{q:Prop}{p s x:Str}{t:Tree}{c:UInt8}{w:World}
section
variable{α β σ S:Type}
theorem zA(xs:List α)(k:Nat):eN xs (k:Int)=xs[k]?:=by simp[eN]
theorem xa{n:Int}(h1:-9223372036854775808<=n)(h2:n<=9223372036854775807):i64 n=some n:=Ke ⟨h1,h2⟩
theorem fF(h:k<4611686018427387904):i64 ((k:Int)+1)=some ((k+1:Nat):Int):=by rw[xa (by omega) (by omega)];rfl
theorem gd[Inhabited α](g:Bool)(x:α):gO g (some x)=some (if g=true then x else default):=by unfold gO;split <;> rfl
theorem wj[Inhabited α](e:Option α):gO true e=e:=rfl
theorem Zu[Inhabited α](e:Option α):gO false e=some default:=rfl
theorem zx(k n:Nat):ez .lss (k:Int) (n:Int)=decide (k<n):=by simp[ez]
theorem yj{b:Nat}{xs ys:List α}(h:(xs.length+ys.length)*b<=140737488355328)(h2:xs.length+ys.length<=9223372036854775807):fE b xs ys=some (xs++ys):=Ke ⟨h,h2⟩
theorem te(h:k<=s.l.length):oi s (k:Int)=some ⟨s.l.take k⟩:=by unfold oi;rw[Ke ⟨by omega,by omega⟩];rfl
theorem Qm(h:k<=s.l.length):nk s (k:Int)=some ⟨s.l.drop k⟩:=by unfold nk;rw[Ke ⟨by omega,by omega⟩];rfl
theorem Qn{xs:List α}(h:k<=xs.length):W1 xs (k:Int)=some (xs.take k):=by unfold W1;rw[Ke ⟨by omega,by omega⟩];rfl
theorem tz{xs:List α}{y:α}(h:k<xs.length):mi xs (k:Int) y=some (xs.set k y):=by unfold mi;rw[Ke ⟨by omega,by omega⟩];rfl
theorem WU{m n:Str}(h:m.l.length+n.l.length<=9223372036854775807):kT m n=some ⟨m.l++n.l⟩:=Ke h
theorem x9{step:S->Option (S⊕β)}{s s':S}{n:Nat}(h:step s=some (.inl s')):wC step (n+1) s=wC step n s':=by rw[wC,h]
theorem yD{step:S->Option (S⊕β)}{s:S}{b:β}{n:Nat}(h:step s=some (.inr b)):wC step (n+1) s=some b:=by rw[wC,h]
theorem OI{step:S->Option (S⊕β)}{r:β}:∀ (m j:Nat) (s:S),wC step m s=some r->wC step (m+j) s=some r:=by
 intro m
 induction m with
 | zero=>intro j s h;simp[wC] at h
 |succ m ih=>
  intro j s h;rw[show m+1+j=(m+j)+1 by omega];unfold wC at h ⊢;split at h
  .cases h
  .exact ih j _ h
  .exact h
theorem jN{step:S->Option (S⊕β)}{r:β}{m:Nat}{s:S}(h:wC step m s=some r)(hm:m<=1152921504606846976):zE step s=some r:=by
 unfold zE;have:=OI m (1152921504606846976 - m) s h
 grind
def kU(R:Nat->σ->α->σ⊕β)(fin:σ->β):Nat->σ->List α->β
 | _,s,[]=>fin s
 |k,s,x::xs=>match R k s x with
  | .inl s'=>kU R fin (k+1) s' xs
  | .inr b=>b
theorem tB{step:S->Option (S⊕β)}(xs:List α)(mk:σ->Nat->S)(R:Nat->σ->α->σ⊕β)(fin:σ->β)(Inv:Nat->σ->Prop)
  (h:∀ k s x,xs[k]?=some x->k<xs.length->Inv k s->match R k s x with
   | .inl s'=>step (mk s k)=some (.inl (mk s' (k+1)))/\Inv (k+1) s'
   | .inr b=>step (mk s k)=some (.inr b))
  (hend:∀ s,Inv xs.length s->step (mk s xs.length)=some (.inr (fin s))) {s0:σ} (h0:Inv 0 s0) (hlen:xs.length<576460752303423488):zE step (mk s0 0)=some (kU R fin 0 s0 xs):=by
 have key:∀ m k s,k+m=xs.length->Inv k s->wC step (m+1) (mk s k)=some (kU R fin k s (xs.drop k)):=by
  intro m
  induction m with
  |zero=>
   intro k s hk hi;have:k=xs.length:=by omega
   subst this;rw[bX,kU,wC,hend s hi]
  |succ m ih=>
   intro k s hk hi;have hlt:k<xs.length:=by omega
   have hx:=aa hlt;rw[bt hlt,kU,wC];have hr:=h k s xs[k] hx hlt hi;cases e:R k s xs[k] with
   |inl s'=>rw[e] at hr;simp only at hr;rw[hr.1];exact ih _ s' (by omega) hr.2
   |inr b=>rw[e] at hr;simp only at hr;rw[hr]
 exact jN (key xs.length 0 s0 (by omega) h0) (by omega)
theorem F8{step:Int->Option (Int⊕β)}(xs:List α)(R:Nat->α->Option β)(e:β)
  (h:∀ k x,xs[k]?=some x->k<xs.length->step (k:Int)=some (match R k x with | none=>.inl ((k+1:Nat):Int) | some b=>.inr b))
  (hend:step (xs.length:Int)=some (.inr e)) (hlen:xs.length<576460752303423488) {s:Int} (hs:s=0):
  zE step s=some (kU (λ k (_:Unit) x=>match R k x with | none=>.inl () | some b=>.inr b) (λ _=>e) 0 () xs):=by
 subst hs;refine tB xs (λ _ k=>(k:Int)) _ _ (λ _ _=>True) (λ k s x hx hlt _=>?_) (λ _ _=>hend) trivial hlen
 grind
theorem GY(p:α->Bool)(b e:β):∀ (k:Nat) (xs:List α),kU (λ _ (_:Unit) x=>match (if p x=true then some b else none) with | none=>.inl () | some b=>.inr b) (λ _=>e) k () xs=if xs.any p=true then b else e
 | _,[]=>rfl
 |k,x::xs=>by
  cases h:p x with
  | true=>simp[kU,h]
  | false=>simp only[kU,h];rw[List.any_cons,h,dd];exact GY p b e (k+1) xs
theorem Zv{step:Int->Option (Int⊕β)}(xs:List α)(p:α->Bool)(b e:β)
  (h:∀ k x,xs[k]?=some x->k<xs.length->step (k:Int)=some (if p x=true then .inr b else .inl ((k+1:Nat):Int)))
  (hend:step (xs.length:Int)=some (.inr e)) (hlen:xs.length<576460752303423488) {s:Int} (hs:s=0):
  zE step s=some (if xs.any p=true then b else e):=by
 rw[F8 xs (λ _ x=>if p x=true then some b else none) e (λ k x hx hlt=>?_) hend hlen hs,GY]
 grind
theorem Ca(p:α->Bool)(f:Int->β)(e:β):∀ (k:Nat) (xs:List α),kU (λ k (_:Unit) x=>match (if p x=true then some (f k) else none) with | none=>.inl () | some b=>.inr b) (λ _=>e) k () xs=(match xs.findIdx? p with | some i=>f ((k+i:Nat):Int) | none=>e)
 | _,[]=>rfl
 |k,x::xs=>by
  cases h:p x with
  | true=>simp[kU,h,List.findIdx?_cons]
  |false=>
   simp only[kU,h,List.findIdx?_cons,aP,cd];rw[Ca p f e (k+1) xs];cases xs.findIdx? p with
   | none=>rfl
   | some i=>simp only[dO];congr 1;omega
theorem YL{step:Int->Option (Int⊕β)}(xs:List α)(p:α->Bool)(f:Int->β)(e:β)
  (h:∀ k x,xs[k]?=some x->k<xs.length->step (k:Int)=some (if p x=true then .inr (f k) else .inl ((k+1:Nat):Int)))
  (hend:step (xs.length:Int)=some (.inr e)) (hlen:xs.length<576460752303423488) {s:Int} (hs:s=0):
  zE step s=some (match xs.findIdx? p with | some i=>f (i:Int) | none=>e):=by
 rw[F8 xs (λ k x=>if p x=true then some (f k) else none) e (λ k x hx hlt=>?_) hend hlen hs,Ca]
 .cases xs.findIdx? p <;> simp
 grind
theorem GZ(g:σ->α->σ)(fin:σ->β):∀ (k:Nat) (s:σ) (xs:List α),kU (λ _ s x=>(.inl (g s x):σ⊕β)) fin k s xs=fin (xs.foldl g s)
 | _,_,[]=>rfl
 | k,s,x::xs=>GZ g fin (k+1) (g s x) xs
theorem XC{step:S->Option (S⊕β)}(xs:List α)(mk:σ->Nat->S)(g:σ->α->σ)(fin:σ->β)(Inv:Nat->σ->Prop)
  (h:∀ k s x,xs[k]?=some x->k<xs.length->Inv k s->step (mk s k)=some (.inl (mk (g s x) (k+1)))/\Inv (k+1) (g s x))
  (hend:∀ s,Inv xs.length s->step (mk s xs.length)=some (.inr (fin s))) {s0:σ} (h0:Inv 0 s0) (hlen:xs.length<576460752303423488):zE step (mk s0 0)=some (fin (xs.foldl g s0)):=by
 rw[tB xs mk (λ _ s x=>.inl _) fin Inv h hend h0 hlen,GZ]
end
variable{α:Type}
theorem Qg(hs:gM s):xl s=some (fW s):=by
 unfold gM at hs;have hl:zE (λ s4=>ZI s s4) 0=some (if s.l.any (λ b=>!low b)=true then .inr false else .inl ()):=by
  refine Zv s.l _ _ _ (λ k x hx hlt=>?_) ?_ (by omega) Z
  .unfold ZI;rw[zx,Ke (ab hlt),zA,hx,Kd,gd,Kd,fF (by omega)];unfold low;generalize gT .lss x _=c1;cases c1 with
   | true=>rfl
   |false=>rw[Ke (show(false == false)=true from Z)];generalize gT .gtr x _=c2;cases c2 <;> rfl
  .unfold ZI;rw[zx,Kf (by simp)]
 unfold xl;rw[hl,Kd];unfold fW;cases h:s.l.any (λ b=>!low b) with
 |true=>
  have:s.l.all low=false:=by
   rw[Bool.eq_false_iff];intro h2;rw[cr] at h;obtain⟨b,hb,hb2⟩:=h;rw[am.1 h2 b hb] at hb2;cases hb2
  simp[this]
 |false=>
  have:s.l.all low=true:=by
   rw[am];intro b hb;have:=bS.1 h b hb;simpa using this
  simp[yg,this,eR];simp[ez]
def fO(c:UInt8):List UInt8->List (List UInt8)
 | []=>[[]]
 |b::l=>if b == c then[]::fO c l else match fO c l with
  | h::t=>(b::h)::t
  | []=>[[b]]
theorem Jm(c b:UInt8)(l:List UInt8):fO c (b::l)=if b == c then[]::fO c l else match fO c l with
  | h::t=>(b::h)::t
  | []=>[[b]]:=rfl
theorem WV(c:UInt8):∀ l,fO c l≠[]
 | []=>by simp[fO]
 |b::l=>by
  unfold fO;split
  .simp
  .split <;> simp
theorem tC(c:UInt8):∀ l,(fO c l).length=l.count c+1
 | []=>by simp[fO]
 |b::l=>by
  unfold fO;cases h:b == c with
  |true=>simp only[bv,aW,tC c l];rw[List.count_cons,h];simp
  |false=>
   simp only[aP,cd];rw[List.count_cons,h];simp only[aP,cd,eo];rw[<-tC c l];cases hc:fO c l with
   | nil=>exact absurd hc (WV c l)
   | cons h t=>rfl
theorem H8(c:UInt8):∀ (l:List UInt8) (st:List Str×Str),(let r:=l.foldl (qV c) st;r.1++[r.2])=st.1++(match fO c l with | h::t=>(⟨st.2.l++h⟩:Str)::t.map Str.mk | []=>[])
 | [],st=>by simp[fO]
 |b::l,st=>by
  rw[bP];have ih:=H8 c l (qV c st b);simp only at ih ⊢;rw[ih];unfold qV;rw[Jm];cases h:b == c with
  |true=>
   simp only[bv,aE];cases hc:fO c l with
   | nil=>exact absurd hc (WV c l)
   | cons h t=>simp
  |false=>
   simp only[aP,cd];cases hc:fO c l with
   | nil=>exact absurd hc (WV c l)
   | cons h t=>simp
theorem jE(s:Str)(c:UInt8):zC s c=(fO c s.l).map Str.mk:=by
 have:=H8 c s.l ([],⟨[]⟩);simp only at this;unfold zC wc
 grind
theorem X7(c:UInt8):∀ l,Lib.indexByte l c<0->fO c l=[l]
 | [],_=>rfl
 |b::l,h=>by
  unfold Lib.indexByte at h;unfold fO;cases hb:b == c with
  | true=>rw[hb] at h;simp at h
  |false=>
   rw[hb] at h;simp only[aP,cd] at h ⊢;have hge:=Go.Lib.indexByte_ge l c;have:Lib.indexByte l c<0:=by
    split at h
    .rename_i e;have:=d9 e;omega
    .omega
   rw[X7 c l this]
theorem X8(c:UInt8):∀ l,0<=Lib.indexByte l c->Lib.indexByte l c<l.length/\fO c l=l.take (Lib.indexByte l c).toNat::fO c (l.drop ((Lib.indexByte l c).toNat+1))
 | [],h=>by simp[Lib.indexByte] at h
 |b::l,h=>by
  unfold Lib.indexByte at h ⊢;cases hb:b == c with
  | true=>simp[fO,hb]
  |false=>
   rw[hb] at h;simp only[aP,cd] at h ⊢;cases he:Lib.indexByte l c == -1 with
   | true=>rw[he] at h;simp at h
   |false=>
    rw[he] at h;simp only[aP,cd] at h ⊢;have hge:=Go.Lib.indexByte_ge l c;have hne:Lib.indexByte l c≠-1:=by simpa using he
    obtain⟨h1,h2⟩:=X8 c l (by omega);refine⟨by simp;omega,?_⟩;have e1:(Lib.indexByte l c+1).toNat=(Lib.indexByte l c).toNat+1:=by omega
    rw[e1];rw[Jm,hb,h2];simp only[aP,cd,List.take_succ_cons,List.drop_succ_cons]
theorem N'(c:UInt8)(n:Nat)(hn:n<1099511627777):∀ (l:List UInt8) (done:List Str),l.length<=1099511627776->done.length+(fO c l).length=n->
  ∀
   m,(fO c l).length<=m->wC (λ a8=>je ⟨[c]⟩ 0 ((n:Int) - 1) a8) m ((⟨l⟩:Str),done++List.replicate (n - done.length) kl,(done.length:Int))=
   some (⟨(fO c l).getLast (WV c l)⟩,done++((fO c l).dropLast.map Str.mk++[kl]),(n:Int) - 1):=by
 intro l
 induction hlen:l.length using Nat.strongRecOn generalizing l with
 |_ k ih=>
  intro done hl hd m hm;have hne:=WV c l;have hpos:=List.length_pos_iff.2 hne;obtain⟨m,rfl⟩:∃ m',m=m'+1:=⟨m - 1,by omega⟩;by_cases hlast:(fO c l).length=1
  .rw[yD (by unfold je;exact Kf (by simp[ez];omega))];obtain⟨x,hx⟩:=List.length_eq_one_iff.1 hlast;have e1:n - done.length=1:=by omega
   simp only[hx,List.getLast_singleton,List.dropLast_singleton,List.map_nil,bb,e1,List.replicate_one];have hxl:x=l:=by
    rcases Int.lt_or_le _ 0 with h | h
    .rw[X7 c l h] at hx;injection hx with hx;exact hx.symm
    .obtain⟨_,h2⟩:=X8 c l h;rw[h2] at hx;have:=bu List.length hx;simp at this;exact absurd this (WV _ _)
   rw[hxl]
   congr 2
   congr 1
   omega
  .have hidx:0<=Lib.indexByte l c:=by
    rcases Int.lt_or_le _ 0 with h | h
    .rw[X7 c l h] at hlast;simp at hlast
    .exact h
   obtain⟨h1,h2⟩:=X8 c l hidx;obtain⟨j,hi⟩:=aC hidx;rw[hi] at h1 h2;rw[ak] at h2;have hj:j<l.length:=by omega
   have e2:w6 ⟨l⟩ ⟨[c]⟩=some (j:Int):=by simp[w6,hi]
   have hrep:done.length<(done++List.replicate (n - done.length) kl).length:=by simp;omega
   have e4:eN (done++List.replicate (n - done.length) kl) (done.length:Int)=some kl:=by
    rw[zA,aL (al _),cv,List.getElem?_replicate,Ke (by omega)]
   have e5:mi (done++List.replicate (n - done.length) kl) (done.length:Int) (⟨l.take j⟩:Str)=some ((done++[⟨l.take j⟩])++List.replicate (n - (done.length+1)) kl):=by
    rw[tz hrep]
    congr 1
    rw[cZ _ _ (al _),cv];obtain⟨q,hq⟩:∃ q,n - done.length=q+1:=⟨n - done.length - 1,by omega⟩;rw[hq,dg,dZ,aE,show n - _=q by omega];rfl
   have Qq:je ⟨[c]⟩ 0 ((n:Int) - 1) ((⟨l⟩:Str),done++List.replicate (n - done.length) kl,(done.length:Int))=some (.inl ((⟨l.drop (j+1)⟩:Str),(done++[⟨l.take j⟩])++List.replicate (n - (done.length+1)) kl,((done.length+1:Nat):Int))):=by
    unfold je;rw[Ke (by simp[ez];omega)];simp only;rw[e2,Kd,Kf (by simp[ez]),show((j:Int)+0)=(j:Int) by omega,xa (by omega) (by omega),Kd,te (by show j<=l.length;omega),Kd,e4,Kd,e5,Kd];rw[show((j:Int)+_)=((j+1:Nat):Int) from Z,xa (by omega) (by omega),Kd,Qm (by show j+1<=l.length;omega),Kd,fF (by omega),Kd]
   rw[x9 Qq];have hlen2:(fO c (l.drop (j+1))).length+1=(fO c l).length:=by rw[h2];rfl
   have hrec:=ih (l.drop (j+1)).length (by simp;omega) _ Z (done++[⟨l.take j⟩]) (by simp;omega) (by simp;omega) m (by omega);rw[ao,bq] at hrec;rw[hrec];have hne2:=WV c (l.drop (j+1));have e7:(fO c l).getLast hne=(fO c _).getLast hne2:=by
    have:∀ (L:List _) (hL:L≠[]),L=l.take j::fO c (l.drop (j+1))->L.getLast hL=(fO c _).getLast hne2:=by
     intro L hL e;subst e;exact List.getLast_cons hne2
    exact this _ hne h2
   have e8:(fO c l).dropLast=l.take j::(fO c (l.drop (j+1))).dropLast:=by
    have:∀ (L:List _),L=l.take j::fO c (l.drop (j+1))->L.dropLast=l.take j::(fO c (l.drop (j+1))).dropLast:=by
     intro L e;subst e;rw[List.dropLast_cons_of_ne_nil hne2]
    exact this _ h2
   rw[e7,e8];simp
theorem Em(hs:s.l.length<=8388608)(c:UInt8):w8 s ⟨[c]⟩=some (zC s c):=by
 unfold w8 Yq;have hcount:s.l.count c<=s.l.length:=List.count_le_length;rw[Kf (by simp[ez]),Kf (by simp)];have e1:Yz s ⟨[c]⟩=some (s.l.count c:Int):=rfl;rw[Ke (by simp[ez]),e1,Kd,fF (by omega),Kd,Kd,fF (by omega),Kd];have hmin:(if((s.l.length+1:Nat):Int)<((s.l.count c+1:Nat):Int) then((s.l.length+1:Nat):Int) else _)=((s.l.count c+1:Nat):Int):=Kf (by omega);rw[hmin];have hbig:s.l.count c+1<=16777216:=by omega
 have e2:mv 1 16 ((s.l.count c+1:Nat):Int) kl=some (List.replicate (s.l.count c+1) kl):=by
  unfold mv;rw[Ke ⟨by omega,by simp;omega,by simp;omega,by omega⟩];rfl
 rw[e2,Kd,xa (by omega) (by omega),Kd];have hl:=jN (N' c (s.l.count c+1) (by omega) s.l [] (by omega) (by simp[tC]) _ (by rw[tC];omega)) (by omega);simp only[bb,cx,Nat.sub_zero] at hl;rw[show((0:Nat):Int)=0 from Z] at hl;rw[hl,Kd];have hne:=WV c s.l;have hlen:=tC c s.l;have hz:((fO c s.l).dropLast.map Str.mk).length=s.l.count c:=by simp[hlen]
 have e3:(((s.l.count c+1:Nat):Int) - 1)=(s.l.count c:Int):=by omega
 simp only[e3];have e4:eN ((fO c s.l).dropLast.map Str.mk++[kl]) (s.l.count c:Int)=some kl:=by
  rw[zA,aL (by omega),hz,cv];rfl
 have e5:mi ((fO c s.l).dropLast.map Str.mk++[kl]) (s.l.count c:Int) (⟨(fO c s.l).getLast hne⟩:Str)=some ((fO c s.l).map Str.mk):=by
  unfold mi;rw[Ke ⟨by omega,by simp[hlen]⟩]
  congr 1
  rw[ak,cZ _ _ (by omega),hz,cv,dZ];have:=List.dropLast_concat_getLast hne
  conv=>rhs;rw[<-this]
  simp
 rw[e4,Kd,e5,Kd,fF (by omega),Kd];have e6:W1 ((fO c s.l).map Str.mk) ((s.l.count c+1:Nat):Int)=some ((fO c s.l).map Str.mk):=by
  unfold W1;rw[Ke ⟨by omega,by simp[hlen]⟩]
  congr 1
  rw[ak];exact aM (by simp[hlen])
 rw[e6,jE];rfl
def ia(s:Str):Prop:=s.l.length<=8388608
theorem ia.mid{s:Str}(h:ia s):gM s:=by unfold ia at h;unfold Go.Proofs.YtoomehfflopakaaGreatDoor.gM;omega
theorem Dg(s:Str)(c:UInt8):(zC s c).length<=s.l.length+1:=by have:=vY (zC s c);rwa[Xb] at this
theorem KG(h:x∈zC s c):x.l.length<=s.l.length+1:=by
 obtain⟨k,hk⟩:=aR h;have:=R0 hk;rwa[Xb] at this
theorem JE(p:α->Bool)(l:List α):l.any (λ x=>!p x)=!l.all p:=by
 grind
theorem wk(hs:ia s):ym s=some (zm s):=by
 unfold ia at hs;have hlen:=Dg s dot;unfold ym;rw[show w8 s (⟨[46]⟩:Str)=some _ from Em hs dot,Kd];have hl:zE (λ s7=>ZJ (zC s dot) s7) 0=some (if(zC s dot).any (λ x=>!fW x)=true then .inr false else .inl ()):=by
  refine Zv _ _ _ _ (λ k x hx hlt=>?_) ?_ (by omega) Z
  .unfold ZJ;have hm:gM x:=by have:=KG (ae hx);unfold gM;omega
   rw[zx,Ke (ab hlt),zA,hx,Kd,Qg hm,Kd,fF (by omega)];cases fW x <;> rfl
  .unfold ZJ;rw[zx,Kf (by simp)]
 rw[hl,Kd,JE];unfold zm
 grind
theorem XD(hs:ia s):xm s=some (zi s):=by
 unfold xm;rw[wk hs,gd,Kd];unfold zi fG
 grind
theorem KH(hs:ia s):Z0 s=some (if zm s=true then zC s dot else[]):=by
 unfold Z0;rw[wk hs,Kd,show w8 s (⟨[46]⟩:Str)=some _ from Em hs dot]
 grind
def QZ(p s:Str):Str:=if(zi p&&fW s&&zm (child p s))=true then child p s else fG
theorem vH(h:p.l.length+s.l.length+1<=8388608):wE p s=some (QZ p s):=by
 have hp:ia p:=by unfold ia;omega
 have hs:gM s:=by unfold gM;omega
 unfold wE QZ;rw[XD hp,Kd,Qg hs,gd,Kd];cases zi p with
 | false=>simp[fG]
 |true=>
  cases fW s with
  | false=>simp[fG]
  |true=>
   have hc:(if(decide (p≠(⟨[]⟩:Str)))=true then((kT p (⟨[46]⟩:Str)).bind λ a8=>(kT a8 s).bind λ a9=>some a9) else(some s))=some (child p s):=by
    unfold child fG;by_cases he:p=⟨[]⟩
    .rw[Kf (by simp[he]),Ke he]
    .rw[Ke (by simp[he]),Kf he,WU (by show p.l.length+1<=_;omega),Kd,WU (by rw[ao];show p.l.length+1+s.l.length<=_;omega),Kd]
   have hsc:ia (child p s):=by
    unfold ia child;split
    .omega
    .rw[ao,ao];show p.l.length+1+s.l.length<=_;omega
   rw[hc,Kf (by decide),Kd,wk hsc,Kd];generalize child p s=q;cases zm q <;> rfl
theorem Mu:j0 s p=some (decide (p.l.length<=s.l.length)&&decide ((⟨s.l.take p.l.length⟩:Str)=p)):=by
 unfold j0 xt;by_cases h:p.l.length<=s.l.length
 .have e:ez .geq (s.l.length:Int) (p.l.length:Int)=true:=by simp[ez,h]
  rw[e,te h];simp[gO,h]
 .have e:ez .geq (s.l.length:Int) (p.l.length:Int)=false:=by simp[ez];omega
  rw[e];simp[gO,h]
theorem KI(hs:ia s)(hp:p.l.length+1<=8388608):Z1 s p=some (zm s&&zi p&&under s p):=by
 have hp':ia p:=by unfold ia;omega
 unfold Z1;rw[wk hs,Kd,XD hp',gd,Kd,WU (by show p.l.length+1<=_;omega),gd];unfold under fG;cases zm s with
 | false=>rfl
 |true=>
  cases zi p with
  | false=>rfl
  |true=>
   cases he:decide (p=_) with
   | true=>rfl
   |false=>
    cases hq:decide (s=p) with
    | true=>rfl
    |false=>
     simp[Mu,gd]
     congr 2
     simp[];omega
theorem Zc(a b c:Int):yg a b c=some (eR a b c):=rfl
theorem Zd:zm fG=false:=rfl
theorem Bu(p:α->Bool)(xs:List α):Option.bind (some (match xs.findIdx? p with | some i=>(Sum.inr (i:Int):Unit⊕Int) | none=>Sum.inl ())) (Sum.elim (λ _=>some (-1)) some)=some (xo p xs):=by
 unfold xo
 grind
theorem WW(p:α->Bool)(xs:List α):ez .geq (xo p xs) 0=xs.any p:=by
 unfold xo;cases h:xs.findIdx? p with
 |none=>
  rw[bC] at h;have:xs.any p=false:=by rw[bS];intro x hx;simp[h x hx]
  rw[this];rfl
 |some i=>
  obtain⟨hi,hp,_⟩:=aU.1 h;have:xs.any p=true:=by rw[cr];exact⟨_,ba hi,hp⟩
  rw[this];simp[ez]
theorem Fq{p:α->Bool}{xs:List α}{x:α}(hx:xs[k]?=some x)(hp:p x=true):ez .lss (xo p xs) k=(xs.take k).any p:=by
 have hk:=zJ hx;have hxk:xs[k]=x:=by rw[aa hk] at hx;injection hx
 unfold xo;cases h:xs.findIdx? p with
 |none=>rw[bC] at h;have:=h x (ae hx);rw[hp] at this;cases this
 |some i=>
  obtain⟨hi,hpi,hmin⟩:=aU.1 h;by_cases hik:i<k
  .have:(xs.take k).any p=true:=by
    rw[cr];exact⟨xs[i],cm.2 ⟨i,by omega,Z⟩,hpi⟩
   rw[this];simp[ez,hik]
  .have:(xs.take k).any p=false:=by
    rw[bS];intro y hy;obtain⟨j,hj,rfl⟩:=cm.1 hy;exact hmin j (by omega)
   rw[this];simp[ez];omega
theorem Mv{n:Int}(h:xs.length<=1152921504606846):wD xs n=some (xo (λ x=>n == x) xs):=by
 unfold wD;have hl:zE (λ s4=>jd xs n s4) 0=some (match xs.findIdx? (λ x=>n == x) with | some i=>(Sum.inr (i:Int):Unit⊕Int) | none=>Sum.inl ()):=by
  refine YL xs (λ x=>n == x) (λ i=>Sum.inr i) _ (λ k x hx hlt=>?_) ?_ (by omega) Z
  .unfold jd;rw[zx,Ke (ab hlt),zA,hx,Kd,fF (by omega),show ez .eql n x=(n == x) from Z];cases n == x <;> rfl
  .unfold jd;rw[zx,Kf (by simp)]
 rw[hl];exact Bu _ _
theorem Mp{n:Int}(h:xs.length<=1152921504606846):xS xs n=some (xs.any (λ x=>n == x)):=by
 unfold xS;rw[Mv h,Kd,WW]
theorem S9(s:Stmt):decide (s={ (⟨s.kind,⟨[]⟩,0,⟨[]⟩,0⟩:Stmt) with module:=s.module })=(ez .eql s.level 0&&decide (s.name=⟨[]⟩)&&ez .eql s.value 0):=by
 cases s;rw[bT];simp[ez,and_assoc]
theorem Ta(s:Stmt):decide (s={ { (⟨s.kind,⟨[]⟩,0,⟨[]⟩,0⟩:Stmt) with name:=s.name } with value:=s.value })=(decide (s.module=⟨[]⟩)&&ez .eql s.level 0):=by
 cases s;rw[bT];simp[ez]
theorem S'(s:Stmt):decide (s={ (⟨s.kind,⟨[]⟩,0,⟨[]⟩,0⟩:Stmt) with name:=s.name })=(decide (s.module=⟨[]⟩)&&ez .eql s.level 0&&ez .eql s.value 0):=by
 cases s;rw[bT];simp[ez,and_assoc]
theorem lH.sho{s:Stmt}(h:lH s):ia s.module:=by have:=h.1;unfold Go.Proofs.YtoomehfflopakaaGreatDoor.ia;omega
theorem lH.Az{s:Stmt}(h:lH s):gM s.name:=by have:=h.2;unfold gM;omega
theorem S7{s:Stmt}(h:lH s):XQ s=some (zM s):=by
 have hm:=wk h.sho;have hn:=Qg h.Az;unfold XQ;rw[hm,hn,S9,Ta,S'];simp only[Zc,gd,Kd];unfold zM;rcases s with⟨kind,m,level,name,value⟩;simp only[show ∀ x y:Int,ez .eql x y=(x == y) from λ _ _=>Z];by_cases h0:kind=0
 .subst h0;simp only[bd,bv,Kd];generalize zm m=a;generalize (level == 0)=b;generalize decide (name=⟨[]⟩)=c;generalize (value == 0)=d;cases a <;> cases b <;> cases c <;> cases d <;> rfl
 .by_cases h2:kind=2
  .subst h2;simp only[bd,bv];generalize zm m=a;generalize (level == 0)=b;generalize decide (name=⟨[]⟩)=c;generalize (value == 0)=d;cases a <;> cases b <;> cases c <;> cases d <;> rfl
  .have e0:(kind == 0)=false:=by simpa using h0
   have e2:(kind == 2)=false:=by simpa using h2
   simp only[e0,e2,aP,cd,Kd];by_cases h1:kind=1
   .subst h1;simp only[bd,bv];have hl:ez .geq level 1=ez .gtr level 0:=by simp[ez];omega
    rw[hl];unfold zi;by_cases hme:m=fG
    .subst hme;rw[Zd];simp only[fG,decide_true,ne_eq,not_true_eq_false,decide_false];generalize (value == 0)=a;generalize eR level 0 3=b;generalize ez .gtr level 0=c;generalize fW name=d;cases a <;> cases b <;> cases c <;> cases d <;> rfl
    .have e1:=cS hme;have e3:decide (m=⟨[]⟩)=false:=cS hme;have e4:decide (m≠⟨[]⟩)=true:=ab hme;rw[e1,e3,e4];generalize (value == 0)=a;generalize eR level 0 3=b;generalize ez .gtr level 0=c;generalize fW name=d;generalize zm m=e;cases a <;> cases b <;> cases c <;> cases d <;> cases e <;> rfl
   .have e1:(kind == 1)=false:=by simpa using h1
    simp only[e1,aP,cd];by_cases h3:kind=3
    .subst h3;simp only[bd,bv];generalize decide (m=⟨[]⟩)=a;generalize (level == 0)=b;generalize eR value 0 99=c;generalize fW name=d;cases a <;> cases b <;> cases c <;> cases d <;> rfl
    .have e3:(kind == 3)=false:=by simpa using h3
     simp only[e3,aP,cd];by_cases h4:kind=4
     .subst h4;simp only[bd,bv];generalize decide (m=⟨[]⟩)=a;generalize (level == 0)=b;generalize (value == 0)=c;generalize fW name=d;cases a <;> cases b <;> cases c <;> cases d <;> rfl
     .have e4:(kind == 4)=false:=by simpa using h4
      simp only[e4,aP,cd];by_cases h5:kind=5
      .subst h5;rfl
      .have e5:(kind == 5)=false:=by simpa using h5
       simp[e5]
theorem WX(hlen:b.length<=1048576)(h:∀ s∈b,lH s):xP b=some (gG b):=by
 unfold xP;have hl:zE (λ s4=>ZK b s4) 0=some (if b.any (λ x=>!zM x)=true then .inr false else .inl ()):=by
  refine Zv _ _ _ _ (λ k x hx hlt=>?_) ?_ (by omega) Z
  .unfold ZK;rw[zx,Ke (ab hlt),zA,hx,Kd,S7 (h x (ae hx)),Kd,fF (by omega)];cases zM x <;> rfl
  .unfold ZK;rw[zx,Kf (by simp)]
 rw[hl,Kd,JE];unfold gG
 grind
theorem EH(h:zm (child p s)=true):child p s≠fG:=by
 intro e;rw[e,Zd] at h;cases h
theorem iC.AG(h:iC f):ia f.pkg:=by have:=h.1;unfold ia;omega
theorem iC.Az(h:iC f):gM f.name:=by have:=h.2.1;unfold gM;omega
theorem iC.child(h:iC f):f.pkg.l.length+f.name.l.length+1<=8388608:=by have:=h.1;have:=h.2.1;omega
theorem tf(h:iC f):jC f=some (z9 f):=by
 unfold jC;rw[Zc,Kd,XD h.AG,gd,Kd,Zc,gd,Kd,WX h.2.2.1 h.2.2.2,gd,Kd,Qg h.Az,Kd,vH h.child,gd,Kd];unfold z9;cases eR f.root 0 2 with
 | false=>rfl
 |true=>
  cases hp:zi f.pkg with
  | false=>cases eR f.stamp 0 99 <;> rfl
  |true=>
   cases eR f.stamp 0 99 with
   | false=>rfl
   |true=>
    cases gG f.body with
    | false=>rfl
    |true=>
     cases f.init with
     | true=>rfl
     |false=>
      show some _=some (fW f.name&&zm _);cases hn:fW f.name with
      | false=>rfl
      |true=>
       unfold QZ;rw[hp,hn];cases hc:zm _ with
       | false=>simp[fG]
       |true=>have:=EH hc;simp only[Bool.and_self,bv,bd,bA];rw[ab (show Go.Proofs.YtoomehfflopakaaGreatDoor.child f.pkg f.name≠⟨[]⟩ from this)]
theorem I0(f g:File):ZW f g=some (wo f g):=rfl
theorem H9(f g:File):wo f g=wo g f:=by
 unfold wo
 grind
theorem Ss(f:File):wo f f=true:=by simp[wo]
theorem XE(h:ja t):xn t=some (yh t):=by
 have hlen:=h.1;unfold xn;have hl:zE (λ s4=>ZM t s4) 0=some (if(List.range t.files.length).any (λ k=>!oQ t.files k)=true then .inr false else .inl ()):=by
  refine Zv _ _ _ _ (λ k x hx hlt=>?_) ?_ (by rw[bo];omega) Z
  .rw[bo] at hlt;rw[co hlt] at hx;injection hx with hx;subst hx;unfold ZM;obtain⟨f,hf⟩:∃ f,t.files[k]?=some f:=⟨_,aa hlt⟩;have ht:oQ t.files k=!(!z9 f||ez .lss (qU t.files f) k):=by unfold oQ;rw[hf]
   rw[zx,Ke (ab hlt),zA,hf,Kd,tf (h.2 _ (ae hf)),Kd,Qn (by omega),Kd,ht];cases z9 f with
   | false=>rfl
   |true=>
    rw[Kf (by decide)];have hin:zE (λ a8=>ZL f (t.files.take k) a8) 0=some (if(t.files.take k).any (λ x=>wo f x)=true then .inr (.inr (.inr false)) else .inl ()):=by
     have htl:(t.files.take k).length<=k:=by simp;omega
     refine Zv _ _ _ _ (λ j y hy hjt=>?_) ?_ (by omega) Z
     .unfold ZL;rw[zx,Ke (ab hjt),zA,hy,Kd,I0,Kd,fF (by omega)];cases wo f y <;> rfl
     .unfold ZL;rw[zx,Kf (by simp)]
    rw[hin];have hfa:ez .lss (qU t.files f) k=(t.files.take k).any (λ x=>wo f x):=by
     unfold qU;rw[Fq (p:=λ x=>wo x f) hf (Ss _)]
     congr 1
     funext x
     exact H9 _ _
    rw[hfa];cases(t.files.take k).any (λ x=>wo f x) with
    | true=>rfl
    |false=>rw[Kf (by decide),Kd,dP,fF (by omega)];rfl
  .unfold ZM;rw[bo,zx,Kf (by simp)]
 rw[hl,Kd,JE];unfold yh Qy
 grind
theorem E1(h:t.files.length<=1048576):YO t f=some (qU t.files f):=by
 unfold YO;have hl:zE (λ s4=>Xy t f s4) 0=some (match t.files.findIdx? (λ x=>wo x f) with | some i=>(Sum.inr (i:Int):Unit⊕Int) | none=>Sum.inl ()):=by
  refine YL t.files (λ x=>wo x f) (λ i=>Sum.inr i) _ (λ k x hx hlt=>?_) ?_ (by omega) Z
  .unfold Xy;rw[zx,Ke (ab hlt),zA,hx,Kd,I0,Kd,fF (by omega),H9];cases wo x f <;> rfl
  .unfold Xy;rw[zx,Kf (by simp)]
 rw[hl];exact Bu _ _
theorem jO(h:yh t=true)(hf:f∈t.files):z9 f=true:=by
 obtain⟨k,hk⟩:=aR hf;unfold yh Qy at h;rw[ac] at h;have:=am.1 h.1 k (aA.2 (zJ hk));unfold oQ at this
 grind
theorem qk(h:z9 f=true):zi f.pkg=true:=by
 unfold z9 at h
 grind
theorem TL(h:z9 f=true):zm (xe f)=true:=by
 have hp:=qk h;unfold z9 at h;unfold xe;split at h
 .cases h
 .cases hi:f.init with
  |true=>rw[hi] at h;simp at h ⊢;unfold zi at hp;simpa[h.1] using hp
  |false=>rw[hi] at h;simp at h ⊢;exact h.2
theorem Kt(h:iC f):qX f=some (if z9 f=true then xe f else fG):=by
 unfold qX;rw[tf h,Kd,vH h.child,Kd];cases hv:z9 f with
 | false=>rfl
 |true=>
  rw[Kf (by decide),Ke Z];have hp:=qk hv;have hm:=TL hv;unfold xe at hm ⊢;unfold z9 at hv;split at hv
  .cases hv
  .cases hi:f.init with
   | true=>rfl
   |false=>rw[hi] at hv hm;simp at hv hm ⊢;unfold QZ;rw[hp,hv.1,hm];rfl
theorem Ob(h:ja t)(hv:∀ f∈t.files,zi f.pkg=true)(hp:zi p=true)(hpl:p.l.length+1<=8388608):XR t r p=some (na t.files r p):=by
 have hlen:=h.1;unfold XR;have hl:zE (λ s4=>Xx t r p s4) 0=some (if t.files.any (rR r p)=true then .inr true else .inl ()):=by
  refine Zv _ _ _ _ (λ k x hx hlt=>?_) ?_ (by omega) Z
  .unfold Xx;have hm:=ae hx;rw[zx,Ke (ab hlt),zA,hx,Kd,KI (h.2 x hm).AG hpl,gd,Kd,fF (by omega),hp];unfold rR;have hvx:=hv x hm;unfold zi at hvx;rw[show ez .eql x.root r=(x.root == r) from Z];by_cases he:x.pkg=fG
   .rw[he,Zd];simp
   .have e1:zm x.pkg=true:=by simpa[he] using hvx
    rw[e1,ab (show x.pkg≠fG from he)];cases x.root == r <;> cases under x.pkg p <;> rfl
  .unfold Xx;rw[zx,Kf (by simp)]
 rw[hl,Kd];unfold na fG
 grind
theorem ME{l:List Int}(h:l.length<=1048576):Z4 l=some (xY l):=by
 unfold Z4;have hl:zE (λ s4=>ZN l s4) 0=some (if(List.range l.length).any (λ k=>!oR l k)=true then .inr false else .inl ()):=by
  refine Zv _ _ _ _ (λ k x hx hlt=>?_) ?_ (by rw[bo];omega) Z
  .rw[bo] at hlt;rw[co hlt] at hx;injection hx with hx;subst hx;unfold ZN;obtain⟨n,hf⟩:∃ n,l[k]?=some n:=⟨_,aa hlt⟩;have htl:(l.take k).length<=1152921504606846:=by simp;omega
   have ht:oR l k=!(!eR n 0 2||(l.take k).any (λ x=>n == x)):=by
    unfold oR
    rw[hf];simp only;unfold ri;rw[WW,show(λ x=>x == n)=(λ x=>n == x) from by funext x;exact BEq.comm]
   rw[zx,Ke (ab hlt),zA,hf,Kd,Zc,Kd,Qn (by omega),gd,Kd,ht,fF (by omega)];cases eR n 0 2 with
   | false=>rfl
   |true=>simp only[dz,bd,bv];rw[Mp htl,gd,Kd];cases(l.take k).any (λ x=>n == x) <;> rfl
  .unfold ZN;rw[bo,zx,Kf (by simp)]
 rw[hl,Kd,JE];unfold xY nc
 grind
structure Good(t:Tree):Prop where
 sm:ja t
 ok:yh t=true
theorem Good.pkg{t:Tree}(h:Good t):∀ f∈t.files,zi f.pkg=true:=λ _ hf=>qk (jO h.ok hf)
theorem Good.len(h:Good t):t.files.length<=1048576:=h.sm.1
theorem wB(h:fW s=true):1<=s.l.length/\s.l.length<=3:=by
 unfold fW eR at h;simp[ez] at h;omega
theorem P'(l:List Str)(h:∀ x∈l,x.l.length<=3):jV l<=4*l.length:=by
 induction l with
 | nil=>exact al _
 |cons x l ih=>
  have h1:=h x (by simp);have h2:=ih λ y hy=>h y (by simp[hy])
  unfold jV at h2 ⊢;simp;omega
theorem yt(h:zm s=true):s.l.length<=11:=by
 unfold zm at h;rw[ac] at h;have h1:=P' _ λ x hx=>(wB (am.1 h.1 x hx)).2
 rw[Xb] at h1;have h2:=h.2;simp[ez] at h2;omega
theorem zX(h:zi s=true):s.l.length<=11:=by
 unfold zi at h;rw[bK] at h;rcases h with h | h
 .rw[oD h];exact aq _
 .exact yt h
def mz:List (List UInt8)->List UInt8
 | []=>[]
 | [a]=>a
 | a::b::l=>a++46::mz (b::l)
theorem H':∀ (l:List Str) (acc:List UInt8),(l.foldl JL (⟨acc⟩,true)).1=⟨acc++(l.map λ x=>46::x.l).flatten⟩
 | [],acc=>by simp
 |x::l,acc=>by
  rw[bP];show(l.foldl JL (⟨(acc++[46])++x.l⟩,true)).1=_;rw[H' l];simp
theorem C7(a:List UInt8)(l:List (List UInt8)):mz (a::l)=a++(l.map λ x=>46::x).flatten:=by
 induction l generalizing a with
 | nil=>simp[mz]
 | cons b l ih=>rw[mz,ih];simp
theorem C8(l:List Str):join l=⟨mz (l.map (·.l))⟩:=by
 cases l with
 | nil=>rfl
 |cons x l=>unfold join Xw;rw[bP];show(l.foldl JL (⟨[]++x.l⟩,true)).1=_;rw[H',cM,C7];simp[Function.comp_def]
theorem EL(c:UInt8):∀ (a l:List UInt8),c ∉ a->fO c (a++c::l)=a::fO c l
 | [],l,_=>by simp[fO]
 |b::a,l,h=>by
  have hb:(b == c)=false:=by
   have:b≠c:=λ e=>h (by simp[e])
   simpa using this
  rw[bG,Jm,hb,EL c a l (λ e=>h (by simp[e]))];rfl
theorem Ag(c:UInt8):∀ (a:List UInt8),c ∉ a->fO c a=[a]
 | [],_=>rfl
 |b::a,h=>by
  have hb:(b == c)=false:=by
   have:b≠c:=λ e=>h (by simp[e])
   simpa using this
  rw[Jm,hb,Ag c a (λ e=>h (by simp[e]))];rfl
theorem KJ:∀ (l:List (List UInt8)),l≠[]->(∀ x∈l,(46:UInt8) ∉ x)->fO 46 (mz l)=l
 | [],h,_=>absurd Z h
 | [a],_,h=>Ag 46 a (h a (by simp))
 |a::b::l,_,h=>by
  rw[mz,EL 46 a _ (h a (by simp)),KJ (b::l) (by simp) λ x hx=>h x (by simp[hx])]
theorem C9:∀ (l:List UInt8),mz (fO 46 l)=l
 | []=>rfl
 |b::l=>by
  rw[Jm];cases hb:b == 46 with
  |true=>
   have ih:=C9 l;have hb:=d9 hb;rw[Ke Z];cases hc:fO 46 l with
   | nil=>exact absurd hc (WV 46 l)
   | cons h t=>rw[mz,<-hc,ih,hb];rfl
  |false=>
   have ih:=C9 l;rw[Kf (by decide)];cases hc:fO 46 l with
   | nil=>exact absurd hc (WV 46 l)
   |cons h t=>rw[hc] at ih;show mz ((b::h)::t)=b::l;rw[C7] at ih ⊢;rw[<-ih];rfl
theorem OM(s:Str):join (zC s dot)=s:=by
 rw[C8,jE,cJ];show(⟨mz ((fO 46 s.l).map λ x=>x)⟩:Str)=s;rw[List.map_id',C9]
theorem Rl{b:UInt8}(h:low b=true):b≠46:=by
 intro e;subst e;revert h;decide
theorem TM(h:fW s=true):(46:UInt8) ∉ s.l:=by
 unfold fW at h;rw[ac] at h;intro hm;exact Rl (am.1 h.2 _ hm) Z
theorem KK(hne:l≠[])(h:∀ x∈l,fW x=true):zC (join l) dot=l:=by
 rw[C8,jE];show(fO 46 _).map Str.mk=l;rw[KJ _ (by simpa using hne) (by
  intro x hx;obtain⟨y,hy,rfl⟩:=bi.1 hx;exact TM (h y hy)),cJ]
 show l.map (λ x=>x)=l
 simp_all
theorem KL(hne:l≠[])(hlen:l.length<=3)(h:∀ x∈l,fW x=true):zm (join l)=true:=by
 unfold zm;rw[KK hne h,ac];exact⟨am.2 h,by simp[ez];omega⟩
theorem jX(h:zm s=true):(∀ x∈zC s dot,fW x=true)/\(zC s dot).length<=3:=by
 unfold zm at h;rw[ac] at h;have:=h.2;simp[ez] at this
 grind
theorem R4(h:zm s=true)(k:Nat):zi (join ((zC s dot).take k))=true:=by
 obtain⟨h1,h2⟩:=jX h;unfold zi;cases k with
 | zero=>rfl
 |succ k=>have hne:=rD s dot;rw[KL (by intro e;have:=bu List.length e;simp at this;rw[this] at hne;simp at hne) (by simp;omega) λ x hx=>h1 x (dc hx),ei]
theorem Ku(c:UInt8):∀ (a l:List UInt8),fO c (a++c::l)=fO c a++fO c l
 | [],l=>by simp[fO]
 |b::a,l=>by
  rw[bG,Jm,Ku c a l,Jm];cases b == c with
  | true=>rfl
  |false=>
   rw[Kf (by decide),Kf (by decide)];cases hc:fO c a with
   | nil=>exact absurd hc (WV c a)
   | cons h t=>rfl
theorem SU(p s:Str):zC ⟨(p.l++[46])++s.l⟩ dot=zC p dot++zC s dot:=by
 rw[jE,jE,jE,<-eq];show(fO 46 _).map Str.mk=(fO 46 p.l++fO 46 s.l).map Str.mk;rw[aE,c9,Ku]
theorem Kv:jB l s=true ↔ s∈l:=by
 unfold jB vu;rw[WW,cr]
 grind
theorem OD:x∈qa l s ↔ x∈l\/x=s:=by
 refine⟨OF,λ h=>?_⟩;unfold qa;split
 .rename_i hc;rcases h with h | h
  .exact h
  .rw[h];exact Kv.1 hc
 .rcases h with h | h
  .simp only[bg,aH];have:=aV (qH l s l.length) l;rw[<-this,bg] at h;rcases h with h | h
   .exact .inl (.inl h)
   .exact .inr h
  .simp[h]
theorem OA{m:List Str}:x∈m.foldl qa l ↔ x∈l\/x∈m:=by
 induction m generalizing l with
 | nil=>simp
 | cons y m ih=>rw[bP,ih,OD,aj,or_assoc]
theorem EE:∀ (x y:List UInt8),Op.bytesLess x y=decide (x<y)
 | [],[]=>by simp[Op.bytesLess]
 | _::_,[]=>by simp[Op.bytesLess]
 | [],_::_=>by simp[Op.bytesLess]
 |a::x,b::y=>by
  rw[Op.bytesLess,EE x y];simp only[List.cons_lt_cons_iff];by_cases h1:a<b <;> by_cases h2:a=b <;> by_cases h3:x<y <;> simp[h1,h2,h3]
def mT(l:List Str):Prop:=l.Pairwise λ x y=>x.l<y.l
theorem Ew:∀ {l m:List Str},mT l->mT m->(∀ x,x∈l ↔ x∈m)->l=m
 | [],[],_,_,_=>rfl
 | [],b::m,_,_,h=>absurd ((h b).2 (by simp)) (by simp)
 | a::l,[],_,_,h=>absurd ((h a).1 (by simp)) (by simp)
 |a::l,b::m,hl,hm,h=>by
  rw[mT,List.pairwise_cons] at hl hm;have hab:a=b:=by
   rcases aj.1 ((h a).1 (by simp)) with e | e
   .exact e
   .rcases aj.1 ((h b).2 (by simp)) with e2 | e2
    .exact e2.symm
    .exact absurd (dA (hm.1 a e) (hl.1 b e2)) (dl _)
  subst hab;rw[Ew hl.2 hm.2 λ x=>?_];constructor
  .intro hx;rcases aj.1 ((h x).1 (by simp[hx])) with e | e
   .rw[e] at hx;exact absurd (hl.1 a hx) (dl _)
   .exact e
  .intro hx;rcases aj.1 ((h x).2 (by simp[hx])) with e | e
   .rw[e] at hx;exact absurd (hm.1 a hx) (dl _)
   .exact e
theorem Q0{b:List UInt8}(h:a<=b)(hne:a≠b):a<b:=by
 grind
theorem I1(d:Array (List UInt8))(hd:∀ i j,i<=j->j<d.size->d[i]! <= d[j]!):∀ m,m<=d.size->
  (Lib.compactUpTo d m).Pairwise (·<·)/\(∀ x,x∈Lib.compactUpTo d m ↔ ∃ j,j<m/\d[j]! = x)
 | 0,_=>⟨by simp[Lib.compactUpTo],λ x=>by simp[Lib.compactUpTo]⟩
 |m+1,hm=>by
  obtain⟨h1,h2⟩:=I1 d hd m (by omega);rw[Lib.compactUpTo_succ];cases hk:Lib.keeps d m with
  |true=>
   rw[Ke Z];refine⟨List.pairwise_append.2 ⟨h1,by simp,λ a ha b hb=>?_⟩,λ x=>?_⟩
   .rw[aH] at hb;subst hb;obtain⟨j,hj,rfl⟩:=(h2 a).1 ha;have hk':m=0\/d[m]! ≠ d[m - 1]! := oD hk;rcases hk' with e | e
    .omega
    .have hlt:=Q0 (hd (m - 1) m (by omega) (by omega)) (br e);rcases Decidable.em (d[j]! = d[m - 1]!) with e2 | e2
     .rw[e2];exact hlt
     .exact dA (Q0 (hd j (m - 1) (by omega) (by omega)) e2) hlt
   .rw[bg,h2,aH];constructor
    .rintro (⟨j,hj,h⟩ | h)
     .exact⟨j,by omega,h⟩
     .exact⟨m,by omega,h.symm⟩
    .rintro ⟨j,hj,h⟩
     by_cases hjm:j=m
     .subst hjm;exact .inr h.symm
     .exact .inl ⟨j,by omega,h⟩
  |false=>
   rw[Kf (by decide),aO];refine⟨h1,λ x=>?_⟩;rw[h2];have hk':¬ (m=0\/d[m]! ≠ d[m - 1]!):=bM hk;constructor
   .rintro ⟨j,hj,h⟩;exact⟨j,by omega,h⟩
   .rintro ⟨j,hj,h⟩
    by_cases hjm:j=m
    .subst hjm;refine⟨j - 1,by omega,?_⟩;rw[<-h];exact(Decidable.byContradiction λ e=>hk' (.inr (br e)))
    .exact⟨j,by omega,h⟩
def JF(xs:List Str):List Str:=Xc (lZ xs)
theorem P8(a b c:List UInt8)(h1:decide (a<=b)=true)(h2:decide (b<=c)=true):decide (a<=c)=true:=
 ab (List.le_trans (oD h1) (oD h2))
theorem P7(a b:List UInt8):(decide (a<=b)||decide (b<=a))=true:=by
 grind
theorem I2(xs:List Str):mT (JF xs)/\∀ x,x∈JF xs ↔ x∈xs:=by
 have hs:=List.pairwise_mergeSort P8 P7 (xs.map (·.l));have hm:∀ y,y∈(xs.map (·.l)).mergeSort (λ x y=>decide (x<=y)) ↔ y∈xs.map (·.l):=λ y=>List.mem_mergeSort
 unfold JF Xc;rw[vr];generalize (xs.map (·.l)).mergeSort (λ x y=>decide (x<=y))=zs at hs hm;have hd:∀ i j,i<=j->j<zs.toArray.size->zs.toArray[i]! <= zs.toArray[j]! := by
  intro i j hij hj;have hj':j<zs.length:=by simpa using hj
  by_cases e:i=j
  .subst e;exact List.le_refl _
  .have:=dh.1 hs i j (by omega) hj' (by omega);simpa[dQ,hj',show i<zs.length by omega] using this
 obtain⟨h1,h2⟩:=I1 zs.toArray hd zs.length (by simp);refine⟨?_,λ x=>?_⟩
 .unfold mT Lib.compact;rw[List.pairwise_map];exact h1
 .have hmem:∀ y,y∈Lib.compact zs ↔ y∈xs.map (·.l):=by
   intro y;rw[<-hm];unfold Lib.compact;rw[h2];constructor
   .rintro ⟨j,hj,rfl⟩
    rw[show zs.toArray[j]! = zs[j] from by simp[hj]];exact ba hj
   .intro hy;obtain⟨j,hj,rfl⟩:=List.mem_iff_getElem.1 hy;exact⟨j,hj,by simp[hj]⟩
  rw[bi];constructor
  .rintro ⟨y,hy,rfl⟩
   obtain⟨z,hz,rfl⟩:=bi.1 ((hmem y).1 hy);exact hz
  .intro hx;exact⟨x.l,(hmem _).2 (bi.2 ⟨x,hx,Z⟩),Z⟩
theorem Kw(xs:List Str):(JF xs).length<=xs.length:=by
 unfold JF Xc;rw[bU,vr];refine aS (Lib.compact_length_le _) ?_;simp
theorem SH{xs:List Str}(h:xs.length<=1099511627776):Jt xs=some (JF xs):=by
 have h2:=Kw xs;unfold Jt wA;rw[Ke (by omega),Kd];unfold xO;rw[Ke (by rw[Dv];omega),Kd];show(fE 16 [] (JF xs)).bind (λ a8=>some a8)=_;rw[yj (by simp;omega) (by simp;omega)];rfl
theorem Fh{y:Str}:ph .gtr x y=decide (y.l<x.l):=by
 show(!(Op.bytesLess x.l y.l||decide _))=_;rw[EE];by_cases h:x=y
 .subst h;simp[dl]
 .have hne:x.l≠y.l:=λ e=>h (by cases x;cases y;simp_all)
  by_cases h2:x.l<y.l
  .have:¬ y.l<x.l:=λ h3=>dl _ (dA h2 h3)
   simp[h2,this]
  .have:=Q0 (List.not_lt.1 h2) (br hne);simp[h,h2,this]
theorem Fu(l:List Str)(s:Str):∀ k,qH l s k<=k
 | 0=>al _
 |k+1=>by
  unfold qH;split
  .split
   .have:=Fu l s k;omega
   .exact al _
  .exact al _
theorem Ky{l:List Str}{s:Str}:∀ k,k<=l.length->(∀ j y,l[j]?=some y->qH l s k<=j->j<k->s.l<y.l)/\(∀ y,0<qH l s k->l[qH l s k - 1]?=some y->¬ s.l<y.l)
 | 0,_=>⟨λ j _ _ _ h=>absurd h (by omega),λ _ h=>absurd h (by simp[qH])⟩
 |k+1,hk=>by
  have hx:l[k]?=some l[k]:=aa (by omega);by_cases h:s.l<l[k].l
  .have e:qH l s (k+1)=qH l s k:=by
    conv=>lhs;unfold qH
    rw[hx];simp only;rw[Fh,Ke (ab h)]
   rw[e];obtain⟨h1,h2⟩:=Ky (l:=l) (s:=s) k (by omega);refine⟨λ j y hj hj1 hj2=>?_,h2⟩;by_cases e:j=k
   .subst e;rw[hx] at hj;injection hj with hj;rw[<-hj];exact h
   .exact h1 j y hj hj1 (by omega)
  .have e:qH l s (k+1)=k+1:=by
    unfold qH;rw[hx];simp only;rw[Fh,Kf (by simpa using h)]
   rw[e];refine⟨λ j _ _ h1 h2=>by omega,λ y _ hy=>?_⟩;rw[dj,hx] at hy;injection hy with hy;rw[<-hy];exact h
theorem OC(hl:mT l):mT (qa l s):=by
 unfold qa;cases hc:jB l s with
 | true=>exact hl
 |false=>
  rw[Kf (by decide)];have hns:s ∉ l:=λ h=>by rw[Kv.2 h] at hc;cases hc
  obtain⟨h1,h2⟩:=Ky l.length (al _);have hle:=Fu l s l.length;generalize qH l s l.length=p at*;have hpw:=dh.1 hl;have hlow:∀ a∈l.take p,a.l<s.l:=by
   intro a ha;obtain⟨i,hi,rfl⟩:=cm.1 ha;have hp:=h2 l[p - 1] (by omega) (aa (by omega));have hlt:=Q0 (List.not_lt.1 hp) λ e=>hns (by
    have:l[p - 1]=s:=by
     cases hq:l[p - 1] with
     | mk q=>rw[hq] at e;cases s;simp_all
    rw[<-this];exact ba _)
   by_cases e:i=p - 1
   .subst e;exact hlt
   .exact dA (hpw i _ (by omega) (by omega) (by omega)) hlt
  have hhigh:∀ b∈l.drop p,s.l<b.l:=by
   intro b hb;obtain⟨i,hi,rfl⟩:=List.mem_drop_iff_getElem.1 hb;exact h1 _ _ (aa _) (by omega) (by omega)
  unfold mT;rw[aE,List.pairwise_append];refine⟨hl.sublist (List.take_sublist _ _),?_,λ a ha b hb=>?_⟩
  .rw[c9,List.pairwise_cons];exact⟨hhigh,hl.sublist (List.drop_sublist _ _)⟩
  .rw[c9,aj] at hb;rcases hb with rfl | hb
   .exact hlow a ha
   .exact dA (hlow a ha) (hhigh b hb)
theorem Oz{m:List Str}(hl:mT l):mT (m.foldl qa l):=by
 induction m generalizing l with
 | nil=>exact hl
 | cons x m ih=>rw[bP];exact ih (OC hl)
section
variable{S β:Type}
theorem YV{step:S->Option (S⊕β)}(n:Nat)(mk:Nat->S){b:β}(h:∀ k,k<n->step (mk k)=some (.inl (mk (k+1))))(hend:step (mk n)=some (.inr b))(hn:n<576460752303423488){s:S}(hs:s=mk 0):zE step s=some b:=by
 subst hs;have key:∀ m k,k+m=n->wC step (m+1) (mk k)=some b:=by
  intro m
  induction m with
  | zero=>intro k hk;rw[show k=n by omega];exact yD hend
  | succ m ih=>intro k hk;rw[x9 (h k (by omega))];exact ih _ (by omega)
 exact jN (key n 0 (by omega)) (by omega)
end
theorem j9{l:List α}(h:k<l.length):∃ x,l[k]?=some x/\x∈l:=⟨l[k],aa h,ba h⟩
theorem Rc(l:List (List UInt8)):Lib.join l [46]=mz l:=by
 cases l with
 | nil=>rfl
 |cons a l=>rw[C7];rw[Lib.join_cons];rfl
theorem Mx(hs:ia s):jP s=some (if zm s=true then nl s else[]):=by
 unfold jP;rw[KH hs,Kd];cases hv:zm s with
 |false=>rw[Kf (by decide),Kf (by decide),show zE (λ s7=>ws s [] s7) ([],(0:Int))=some [] from YV 0 (λ k=>_) (λ k hk=>absurd hk (by omega)) (by unfold ws;simp only;rw[Kf (by decide)]) (by omega) Z];rfl
 |true=>
  obtain⟨hparts,hlen⟩:=jX hv;have hnl:=yt hv;have hl:zE (λ s7=>ws s (zC s dot) s7) ([],(0:Int))=some (nl s):=by
   refine YV (zC s dot).length (λ k=>(Wx _ k,(k:Int))) (λ k hk=>?_) (by unfold ws;simp only;rw[zx,Kf (by simp)];rfl) (by omega) Z;unfold ws;simp only;have hj:ZV ((zC s dot).take (k+1)) (⟨[46]⟩:Str)=some (join ((zC s dot).take (k+1))):=by
    have hb:=join_le (zC s dot) (k+1);rw[Xb] at hb;have e:(⟨Lib.join (((zC s dot).take (k+1)).map (·.l)) [46]⟩:Str)=join ((zC s dot).take (k+1)):=by rw[Rc,C8]
    unfold ZV;rw[Ke ⟨by simp;omega,by
     have:=bu (λ x:Str=>x.l.length) e;simp only at this;rw[this];omega⟩]
    exact bu some e
   rw[zx,Ke (ab hk),KH hs,hv,Ke Z,Kd,fF (by omega),Kd,Qn (by omega),Kd,hj,Kd,yj (by simp[J8];omega) (by simp[J8];omega),Kd,Kd,Ih]
  rw[Ke Z,Ke Z,hl];rfl
theorem YW(h:yh t=true):t.files.length<=12:=by
 unfold yh at h;rw[ac] at h;have:=h.2;simp[ez] at this;omega
theorem Et(s:Str):(nl s).length=(zC s dot).length:=J8 _ _
theorem jF(h:zm x=true):ia x:=by have:=yt h;unfold ia;omega
open Go.RowKit
def kN{α:Type}[ey α](x:α):Prop:=∃ M w cs,ey.rdc M w cs x
section
variable{α β:Type}[ey α][ey β]
theorem kN.eD{get:α->β}(f:eM get off){x:α}(h:kN x):kN (get x):=by
 obtain⟨M,w,cs,hr⟩:=h;obtain⟨c,_,h2⟩:=f.sub hr;exact⟨M,w,c,h2⟩
theorem kN.str(h:kN s):s.l.length<=9223372036854775807:=by
 obtain⟨M,w,cs,hr⟩:=h;exact hr.2
theorem kN.len{xs:List α}(h:kN xs):xs.length<=9223372036854775807:=by
 obtain⟨M,w,cs,A,c,_,h1,h2,_⟩:=h;exact aS h1 h2
theorem GL{M:Nat->Prop}{w:World}:∀ {cells:List Value} {xs:List α},gQ M w cells xs->∀ x∈xs,kN x
 | _,_::_,⟨c,_r,_,h1,h2⟩,x,hx=>(aj.1 hx).elim (λ e=>e ▸ ⟨M,w,c,h1⟩) (GL h2 x)
theorem kN.mem{xs:List α}(h:kN xs){x:α}(hx:x∈xs):kN x:=by
 obtain⟨M,w,cs,A,c,_,_,_,h3⟩:=h;rcases h3 with h3 | ⟨b,o,cells,_,_,_,hr⟩
 .rw[h3] at hx;cases hx
 .exact GL hr x hx
theorem RdAll.AB{xs:List Dt}(hr:RdAll M w vs xs){x:α}(hx:dt x∈xs):kN x:=by
 induction hr with
 | nil=>cases hx
 |cons h r ih=>
  rcases aj.1 hx with e | hx
  .rw[<-e] at h;obtain⟨cs,h1,_⟩:=h;exact⟨M,w,cs,h1⟩
  .exact ih hx
theorem Fn.AB{P:Program}{f:FuncId}{xs:List Dt}{y:Dt}{x:α}(hx:dt x∈xs)(h:kN x->Fn P f xs y):Fn P f xs y:=λ M w vs hm hr=>h (hr.AB hx) M w vs hm hr
end
section
variable{α β σ S:Type}
theorem Rt{m n:Nat}:ez .neq (m:Int) (n:Int)=!decide (m=n):=by
 by_cases h:m=n
 .simp[ez,h]
 .simp[ez,h];omega
theorem SB{xs:List α}{z:α}(hk:k<xs.length):(xs.take k++List.replicate (xs.length - k) z).set k xs[k]=xs.take (k+1)++List.replicate (xs.length - (k+1)) z:=by
 rw[cZ _ _ (by rw[aJ];omega),aJ,bz (by omega),cv,show xs.length - k=(xs.length - (k+1))+1 by omega,dg,dZ,bp,aa hk];simp only[Option.toList_some,aE,c9]
theorem AZ{xs:List α}{z:α}(hk:k<xs.length):(xs.take k++List.replicate (xs.length - k) z)[k]?=some z:=by
 rw[aL (by rw[aJ];omega),aJ,bz (by omega),cv,List.getElem?_replicate,Ke (by omega)]
theorem BV{xs:List α}{z:α}(hk:k<xs.length):k<(xs.take k++List.replicate (xs.length - k) z).length:=by
 rw[ao,aJ,cz];omega
theorem Dh{step:List α×Int->Option ((List α×Int)⊕List α)}(xs:List α)(z:α)
  (h:∀ k (hk:k<xs.length),step (xs.take k++List.replicate (xs.length - k) z,(k:Int))=some (.inl ((xs.take k++List.replicate (xs.length - k) z).set k xs[k],((k+1:Nat):Int))))
  (hend:∀ ys,step (ys,(xs.length:Int))=some (.inr ys)) (hlen:xs.length<576460752303423488) {s0:List α×Int} (h0:s0=(List.replicate xs.length z,0)):zE step s0=some xs:=by
 have key:∀ m k,k+m=xs.length->wC step (m+1) (xs.take k++List.replicate (xs.length - k) z,(k:Int))=some xs:=by
  intro m
  induction m with
  |zero=>
   intro k hk;have:k=xs.length:=by omega
   subst this;rw[yD (hend _)];simp
  |succ m ih=>
   intro k hk;have hlt:k<xs.length:=by omega
   rw[x9 (h k hlt),SB hlt];exact ih (k+1) (by omega)
 have h1:=key xs.length 0 (by omega);subst h0;exact jN (by simpa using h1) (by omega)
theorem BY{size bytes n:Nat}{z:α}(h1:n*size<=16777216)(h2:bytes*n<=281474976710656)(h3:n<=9223372036854775807):mv size bytes (n:Int) z=some (List.replicate n z):=by
 unfold mv;rw[Ke ⟨by omega,by simpa using h1,by simpa using h2,by omega⟩];simp
theorem NU[DecidableEq α]{step:Int->Option (Int⊕(Unit⊕Bool))}(xs ys:List α)(hxy:xs.length=ys.length)
  (h:∀ k (hk:k<xs.length) (hk2:k<ys.length),step (k:Int)=some (if xs[k]=ys[k] then .inl ((k+1:Nat):Int) else .inr (.inr false)))
  (hend:step (xs.length:Int)=some (.inr (.inl ()))) (hlen:xs.length<576460752303423488):Option.bind (α:=Unit⊕Bool) (zE step 0) (Sum.elim (λ _=>some true) some)=some (decide (xs=ys)):=by
 have key:∀ m k,k+m=xs.length->xs.take k=ys.take k->∃ r,wC step (m+1) (k:Int)=some r/\(Sum.elim (λ _=>some true) some r:Option Bool)=some (decide (xs=ys)):=by
  intro m
  induction m with
  |zero=>
   intro k hk he;have:k=xs.length:=by omega
   subst this;refine⟨_,yD hend,?_⟩;rw[aQ,hxy,aQ] at he;simp[he]
  |succ m ih=>
   intro k hk he;have hlt:k<xs.length:=by omega
   have hlt2:k<ys.length:=by omega
   have hs:=h k hlt hlt2;by_cases e:xs[k]=ys[k]
   .rw[Ke e] at hs;rw[x9 hs];refine ih (k+1) (by omega) ?_;rw[bp,bp,he,aa hlt,aa hlt2,e]
   .rw[Kf e] at hs;refine⟨_,yD hs,?_⟩;have:xs≠ys:=λ h=>by subst h;exact e Z
    simp[this]
 obtain⟨r,h1,h2⟩:=key xs.length 0 (by omega) Z;have h1':wC step (xs.length+1) (0:Int)=some r:=h1;rw[jN h1' (by omega),Kd];exact h2
def gR(t:Nat)(left:Int):Int:=if(t:Int)<=left then left - t else -1
theorem Hf{t:Nat}{left:Int}:gR t left<0 ↔ left<t:=by unfold gR;split <;> omega
theorem Cm{t:Nat}{left:Int}(h:0<=gR t left):(t:Int)<=left/\gR t left=left - t:=by
 unfold gR at h ⊢;split at h
 .rename_i h1;rw[Ke h1];exact⟨h1,Z⟩
 .omega
def ml(f:α->Nat):List α->Nat
 | []=>0
 | x::xs=>f x+ml f xs
theorem rB{f:α->Nat}:∀ {xs:List α} {x:α},x∈xs->f x<=ml f xs
 |y::ys,x,hx=>by
  unfold ml;rcases aj.1 hx with rfl | hx
  .omega
  .have:=rB (f:=f) hx;omega
theorem Td{f:α->Nat}{xs:List α}(hk:k<xs.length):ml f (xs.drop k)=f xs[k]+ml f (xs.drop (k+1)):=by
 rw[bt hk];rfl
theorem Tk{step:Int×Int->Option ((Int×Int)⊕(Int⊕Int))}(xs:List α)(f:α->Nat)
  (h:∀ k (hk:k<xs.length) (l:Int),0<=l->l<=1048576->step (l,(k:Int))=some (if gR (f xs[k]) l<0 then .inr (.inr (-1)) else .inl (gR (f xs[k]) l,((k+1:Nat):Int))))
  (hend:∀ l,step (l,(xs.length:Int))=some (.inr (.inl l))) (hlen:xs.length<576460752303423488)  (h0:0<=l0) (h1:l0<=1048576):
  Option.bind (α:=Int⊕Int) (zE step (l0,0)) (Sum.elim (λ l=>some l) some)=some (gR (ml f xs) l0):=by
 have key:∀ m k l,k+m=xs.length->0<=l->l<=1048576->∃ r,wC step (m+1) (l,(k:Int))=some r/\(Sum.elim (λ l=>some l) some r:Option Int)=some (gR (ml f (xs.drop k)) l):=by
  intro m
  induction m with
  |zero=>
   intro k l hk hl hl2;have:k=xs.length:=by omega
   subst this;refine⟨_,yD (hend l),?_⟩;rw[bX];show some l=some (gR 0 l)
   congr 1
   unfold gR;rw[Ke (by omega)];simp
  |succ m ih=>
   intro k l hk hl hl2;have hlt:k<xs.length:=by omega
   have hs:=h k hlt l hl hl2;rw[Td hlt];by_cases e:gR (f xs[k]) l<0
   .rw[Ke e] at hs;refine⟨_,yD hs,?_⟩;show some (-1:Int)=_
    congr 1
    rw[Hf] at e;unfold gR;rw[Kf (by omega)]
   .rw[Kf e] at hs;obtain⟨e1,e2⟩:=Cm (t:=f xs[k]) (left:=l) (by omega);obtain⟨r,r1,r2⟩:=ih (k+1) (gR (f xs[k]) l) (by omega) (by omega) (by omega);refine⟨r,by rw[x9 hs];exact r1,?_⟩;rw[r2]
    congr 1
    rw[e2];unfold gR;by_cases e3:(ml f (xs.drop (k+1)):Int)<=l - f xs[k]
    .rw[Ke e3,Ke (by omega)];omega
    .rw[Kf e3,Kf (by omega)]
 obtain⟨r,r1,r2⟩:=key xs.length 0 l0 (by omega) h0 h1;have r1':wC step (xs.length+1) (l0,(0:Int))=some r:=r1;rw[jN r1' (by omega),Kd];simpa using r2
theorem Gc{T:Type}{step:List α×Int×Int->Option ((List α×Int×Int)⊕T)}(fin:List α->Int->T){held:List α->Int×Int->Option ((Int×Int)⊕(Int⊕Int))}(xs:List α)(B:Nat)(C:Int)
  (h:∀ (ys:List α) (k:Int) (i:Nat) (hi:i<ys.length),ys.length=xs.length->ys[i]∈xs->0<=k->k<=C->∃ y k',step (ys,k,(i:Int))=some (.inl (ys.set i y,k',((i+1:Nat):Int)))/\k<=k'/\k'<=k+B/\
   ∀ zs:List α,zs.length=xs.length->zs[i]?=some y->held zs (k,(i:Int))=some (.inl (k',((i+1:Nat):Int))))
  (hend:∀ (ys:List α) (k:Int),ys.length=xs.length->step (ys,k,(xs.length:Int))=some (.inr (fin ys k)))
  (hend2:∀ (ys:List α) (k:Int),ys.length=xs.length->held ys (k,(xs.length:Int))=some (.inr (.inl k)))
  (hlen:xs.length<576460752303423488)  (h0:0<=k0) (hB:k0+B*xs.length<=C):
  ∃ ys k',zE step (xs,k0,0)=some (fin ys k')/\ys.length=xs.length/\k0<=k'/\k'<=k0+B*xs.length/\zE (held ys) (k0,0)=some (.inl k'):=by
 have key:∀ m i (ys:List α) (k:Int),i+m=xs.length->ys.length=xs.length->(∀ j,i<=j->ys[j]?=xs[j]?)->0<=k->k+B*m<=C->
   ∃ ys' k',wC step (m+1) (ys,k,(i:Int))=some (fin ys' k')/\ys'.length=xs.length/\ys'.take i=ys.take i/\k<=k'/\k'<=k+B*m/\wC (held ys') (m+1) (k,(i:Int))=some (.inl k'):=by
  intro m
  induction m with
  |zero=>
   intro i ys k hi hl hd hk hB;have:i=xs.length:=by omega
   subst this;exact⟨ys,k,yD (hend ys k hl),hl,Z,by omega,by omega,yD (hend2 ys k hl)⟩
  |succ m ih=>
   intro i ys k hi hl hd hk hB;have hlt:i<ys.length:=by omega
   have hlt2:i<xs.length:=by omega
   have hm:ys[i]∈xs:=by
    have h1:=hd i (al _);rw[aa hlt,aa hlt2] at h1;injection h1 with h1;rw[h1];exact ba hlt2
   have hBm:(B:Int)*((m+1:Nat):Int)=B*m+B:=by
    rw[Int.natCast_add,Int.mul_add];simp
   have hBm0:(0:Int)<=B*m:=Int.mul_nonneg (by omega) (by omega);obtain⟨y,k',h1,h2,h3,h4⟩:=h ys k i hlt hl hm hk (by omega);obtain⟨ys',k2,r1,r2,r3,r4,r5,r6⟩:=ih (i+1) (ys.set i y) k' (by omega) (by rw[bf];exact hl) (λ j hj=>by rw[aG (by omega)];exact hd j (by omega)) (by omega) (by omega);have hy:ys'[i]?=some y:=by
    have e1:=bu (λ l=>l[i]?) r3;simp only[aw,Ke (Nat.lt_succ_self i)] at e1;rw[e1,aI hlt]
   refine⟨ys',k2,by rw[x9 h1];exact r1,r2,?_,by omega,by omega,by rw[x9 (h4 ys' r2 hy)];exact r6⟩;apply aZ;intro j;rw[aw,aw];by_cases hj:j<i
   .rw[Ke hj,Ke hj];have e1:=bu (λ l=>l[j]?) r3;simp only[aw,Ke (show j<i+1 by omega)] at e1;rw[e1,aG (by omega)]
   .rw[Kf hj,Kf hj]
 obtain⟨ys',k',r1,r2,_,r4,r5,r6⟩:=key xs.length 0 xs k0 (by omega) Z (λ _ _=>Z) h0 hB;exact⟨ys',k',jN r1 (by omega),r2,r4,r5,jN r6 (by omega)⟩
theorem Gd{T:Type}{step:List α×Int×Int->Option ((List α×Int×Int)⊕T)}(fin:List α->Int->T)(xs:List α)(B:Nat)(C:Int)
  (h:∀ (ys:List α) (k:Int) (i:Nat) (hi:i<ys.length),ys.length=xs.length->ys[i]∈xs->0<=k->k<=C->∃ y k',step (ys,k,(i:Int))=some (.inl (ys.set i y,k',((i+1:Nat):Int)))/\k<=k'/\k'<=k+B)
  (hend:∀ (ys:List α) (k:Int),ys.length=xs.length->step (ys,k,(xs.length:Int))=some (.inr (fin ys k)))
  (hlen:xs.length<576460752303423488)  (h0:0<=k0) (hB:k0+B*xs.length<=C):
  ∃ ys k',zE step (xs,k0,0)=some (fin ys k')/\ys.length=xs.length/\k0<=k'/\k'<=k0+B*xs.length:=by
 have key:∀ m i (ys:List α) (k:Int),i+m=xs.length->ys.length=xs.length->(∀ j,i<=j->ys[j]?=xs[j]?)->0<=k->k+B*m<=C->
   ∃ ys' k',wC step (m+1) (ys,k,(i:Int))=some (fin ys' k')/\ys'.length=xs.length/\k<=k'/\k'<=k+B*m:=by
  intro m
  induction m with
  |zero=>
   intro i ys k hi hl hd hk hB;have:i=xs.length:=by omega
   subst this;exact⟨ys,k,yD (hend ys k hl),hl,by omega,by omega⟩
  |succ m ih=>
   intro i ys k hi hl hd hk hB;have hlt:i<ys.length:=by omega
   have hlt2:i<xs.length:=by omega
   have hm:ys[i]∈xs:=by
    have h1:=hd i (al _);rw[aa hlt,aa hlt2] at h1;injection h1 with h1;rw[h1];exact ba hlt2
   have hBm:(B:Int)*((m+1:Nat):Int)=B*m+B:=by
    rw[Int.natCast_add,Int.mul_add];simp
   have hBm0:(0:Int)<=B*m:=Int.mul_nonneg (by omega) (by omega);obtain⟨y,k',h1,h2,h3⟩:=h ys k i hlt hl hm hk (by omega);obtain⟨ys',k2,r1,r2,r4,r5⟩:=ih (i+1) (ys.set i y) k' (by omega) (by rw[bf];exact hl) (λ j hj=>by rw[aG (by omega)];exact hd j (by omega)) (by omega) (by omega);exact⟨ys',k2,by rw[x9 h1];exact r1,r2,by omega,by omega⟩
 obtain⟨ys',k',r1,r2,r4,r5⟩:=key xs.length 0 xs k0 (by omega) Z (λ _ _=>Z) h0 hB;exact⟨ys',k',jN r1 (by omega),r2,r4,r5⟩
end
section
variable{α:Type}
theorem tP{len:Nat}{l:Int}(hl:0<=l)(h2:l<=1048576)(hlen:len<=9223372036854775807){K:Int->Option Int}{t:Nat}(hK:∀ l',0<=l'->l'<=1048576->K l'=some (gR t l')):
  ((i64 (l - (len:Int))).bind λ v=>if ez .lss v (0:Int)=true then some (-1:Int) else K v)=some (gR (len+t) l):=by
 rw[xa (by omega) (by omega),Kd];cases h:ez .lss (l - (len:Int)) 0 with
 |true=>have h':l - (len:Int)<0:=oD h;rw[Ke Z];unfold gR;rw[Kf (by omega)]
 |false=>
  have h':¬ l - (len:Int)<0:=bM h;rw[Kf (by decide),hK _ (by omega) (by omega)]
  congr 1
  unfold gR;by_cases e:(t:Int)<=l - len
  .rw[Ke e,Ke (by omega)];omega
  .rw[Kf e,Kf (by omega)]
theorem Hh{t1 t:Nat}{l:Int}{m:Option Int}(hl:0<=l)(h2:l<=1048576)(hm:m=some (gR t1 l)){K:Int->Option Int}(hK:∀ l',0<=l'->l'<=1048576->K l'=some (gR t l')):
  (m.bind λ v=>if ez .lss v (0:Int)=true then some (-1:Int) else K v)=some (gR (t1+t) l):=by
 rw[hm,Kd];cases h:ez .lss (gR t1 l) 0 with
 |true=>have h':gR t1 l<0:=oD h;rw[Hf] at h';rw[Ke Z];unfold gR;rw[Kf (by omega)]
 |false=>
  have h':¬ gR t1 l<0:=bM h;obtain⟨e1,e2⟩:=Cm (t:=t1) (left:=l) (by omega);rw[Kf (by decide),hK _ (by omega) (by omega),e2]
  congr 1
  unfold gR;by_cases e:(t:Int)<=l - t1
  .rw[Ke e,Ke (by omega)];omega
  .rw[Kf e,Kf (by omega)]
theorem Cn{l:Int}(h:0<=l):some l=some (gR 0 l):=by
 congr 1
 unfold gR;rw[Ke (by omega)];simp
theorem Hg{step:Int×Int->Option ((Int×Int)⊕(Int⊕Int))}{xs:List α}{f:α->Nat}{l:Int}(hlen:xs.length<=9223372036854775807)
  (h:∀ k (hk:k<xs.length) (l:Int),xs.length<=1048576->0<=l->l<=1048576->step (l,(k:Int))=some (if gR (f xs[k]) l<0 then .inr (.inr (-1)) else .inl (gR (f xs[k]) l,((k+1:Nat):Int))))
  (hend:∀ l,step (l,(xs.length:Int))=some (.inr (.inl l))) (hl:0<=l) (h2:l<=1048576):
  ((i64 (l - (xs.length:Int))).bind λ v=>if ez .lss v (0:Int)=true then some (-1:Int) else Option.bind (α:=Int⊕Int) (zE step (v,(0:Int))) (Sum.elim (λ b=>some b) some))=some (gR (xs.length+ml f xs) l):=by
 rw[xa (by omega) (by omega),Kd];cases hc:ez .lss (l - (xs.length:Int)) 0 with
 |true=>have h':l - (xs.length:Int)<0:=oD hc;rw[Ke Z];unfold gR;rw[Kf (by omega)]
 |false=>
  have h':¬ l - (xs.length:Int)<0:=bM hc;rw[Kf (by decide),Tk xs f (λ k hk l h3 h4=>h k hk l (by omega) h3 h4) hend (by omega) (by omega) (by omega)]
  congr 1
  unfold gR;by_cases e:(ml f xs:Int)<=l - xs.length
  .rw[Ke e,Ke (by omega)];omega
  .rw[Kf e,Kf (by omega)]
variable[Decidable q]{K:Option Bool}
theorem pE{a b:Int}(hK:K=some (decide q)):(if ez .neq a b=true then some false else K)=some (decide (a=b/\q)):=by
 rw[hK];by_cases h:a=b
 .simp[ez,h]
 .simp[ez,h]
theorem tQ{a b:Str}(hK:K=some (decide q)):(if decide (a≠b)=true then some false else K)=some (decide (a=b/\q)):=by
 rw[hK];by_cases h:a=b
 .simp[h]
 .simp[h]
theorem NR{a b:Bool}(hK:K=some (decide q)):(if(a != b)=true then some false else K)=some (decide (a=b/\q)):=by
 rw[hK];by_cases h:a=b
 .simp[h]
 .simp[h]
theorem E0[DecidableEq α]{a b:α}(hm:m=some (decide (a=b)))(hK:K=some (decide q)):(m.bind λ v=>if(!v)=true then some false else K)=some (decide (a=b/\q)):=by
 rw[hm,hK,Kd];by_cases h:a=b
 .simp[h]
 .simp[h]
theorem Bk:some true=some (decide True):=by simp
theorem Ah[DecidableEq α]{step:Int->Option (Int⊕(Unit⊕Bool))}{xs ys:List α}
  (h:∀ k (hk:k<xs.length) (hk2:k<ys.length),step (k:Int)=some (if xs[k]=ys[k] then .inl ((k+1:Nat):Int) else .inr (.inr false)))
  (hend:step (xs.length:Int)=some (.inr (.inl ()))) (hlen:xs.length<576460752303423488):
  (if ez .neq (xs.length:Int) (ys.length:Int)=true then some false else Option.bind (α:=Unit⊕Bool) (zE step 0) (Sum.elim (λ _=>some true) some))=some (decide (xs=ys)):=by
 rw[Rt];by_cases e:xs.length=ys.length
 .rw[Kf (by simp[e]),NU xs ys e h hend hlen]
 .rw[Ke (by simp[e])];have:xs≠ys:=λ h=>e (by rw[h])
  simp[this]
end
theorem i64_in{n:Int}(h1:0<=n)(h2:n<=4611686018427387904):i64 n=some n:=xa (by omega) (by omega)
theorem u9{m n:Int}(h:n≠0:=by decide):pv m n=some (m.tmod n):=Kf h
theorem Nz{m n:Int}(h2:0<=m.tdiv n)(h3:m.tdiv n<=9223372036854775807)(h:n≠0:=by decide):uH m n=some (m.tdiv n):=Kf (by omega)
theorem Jn{xs:List α}(hk:k<xs.length):ez .lss (k:Int) (xs.length:Int)=true:=by rw[zx];exact ab hk
theorem Qh{xs:List α}:ez .lss (xs.length:Int) (xs.length:Int)=false:=by rw[zx];simp
theorem Ga{xs:List α}{n:Nat}(h:xs.length=n)(hk:k<n):ez .lss (k:Int) (xs.length:Int)=true:=by rw[zx];exact ab (by omega)
theorem rC{xs:List α}{n:Nat}(h:xs.length=n):ez .lss (n:Int) (xs.length:Int)=false:=by rw[zx,h];simp
theorem Xq{xs:List α}(hk:k<xs.length):eN xs (k:Int)=some xs[k]:=by rw[zA,aa hk]
theorem Jo(k:Nat):(k:Int).toNat=k:=rfl
