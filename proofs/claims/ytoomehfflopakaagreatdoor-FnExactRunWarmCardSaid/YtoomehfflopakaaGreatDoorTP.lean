import Derived.Test.YtoomehfflopakaaGreatDoorTI
import Derived.Test.YtoomehfflopakaaGreatDoorTKb
namespace Go.Proofs.YtoomehfflopakaaGreatDoor
open Go.RowKit
variable{lv:Int}{path:List Int}{b:List Stmt}{l:List Str}{post:List UInt8}{st:Stmt}{m p s x:Str}{t:Tree}
theorem Ai(s:Str)(c:UInt8)(hs:s.l.length<=1000000):(∃ pre post,s.l=pre++c::post/\c ∉ post/\zW s c=some (pre.length:Int))\/(c ∉ s.l/\zW s c=some (-1)):=by
 have key:∀ k,k<=s.l.length->c ∉ s.l.drop k->∃ r,wC (λ s6=>ya s c s6) (k+1) ((k:Int) - 1)=some r/\((∃ pre post,s.l=pre++c::post/\c ∉ post/\r=.inr (pre.length:Int))\/(c ∉ s.l/\r=.inl ())):=by
  intro k
  induction k with
  |zero=>intro _ hc;refine⟨.inl (),yD ?_,.inr ⟨by simpa using hc,Z⟩⟩;unfold ya;rw[Kf (by simp[ez])]
  |succ k ih=>
   intro hk hc;have hb:s.l[k]?=some s.l[k]:=aa (by omega);have hd:s.l.drop k=s.l[k]::s.l.drop (k+1):=bt (by omega);have e1:((k+1:Nat):Int) - 1=(k:Int):=by omega
   rw[e1];by_cases h:s.l[k]=c
   .refine⟨.inr (k:Int),yD ?_,.inl ⟨s.l.take k,s.l.drop (k+1),?_,hc,by simp;omega⟩⟩
    .unfold ya;rw[Ke (by simp[ez]),zA,hb,Kd,Ke (by simp[gT,h])]
    .rw[<-h,<-hd,aV]
   .have hs1:ya s c (k:Int)=some (.inl ((k:Int) - 1)):=by
     unfold ya;rw[Ke (by simp[ez]),zA,hb,Kd,Kf (by simp[gT,h]),xa (by omega) (by omega),Kd]
    rw[x9 hs1];exact ih (by omega) (by rw[hd];simp only[aj,not_or];exact⟨λ e=>h e.symm,hc⟩)
 obtain⟨r,h1,h2⟩:=key s.l.length (al _) (by simp);have hl:zW s c=Option.bind (some r) (Sum.elim (λ _=>some (-1)) some):=by
  unfold zW yT;rw[xa (by omega) (by omega),Kd,jN h1 (by omega)];cases r <;> rfl
 rcases h2 with⟨pre,post,e1,e2,rfl⟩ | ⟨e1,rfl⟩
 .exact .inl ⟨pre,post,e1,e2,hl⟩
 .exact .inr ⟨e1,hl⟩
theorem KM{pre:List UInt8}(h:s.l=pre++46::post)(hp:(46:UInt8) ∉ post):zC s dot=zC ⟨pre⟩ dot++[⟨post⟩]:=by
 have e:s=⟨((⟨pre⟩:Str).l++[46])++(⟨post⟩:Str).l⟩:=by
  cases s;simp only at h ⊢;rw[h];simp
 have e2:zC ⟨post⟩ dot=[⟨post⟩]:=by
  rw[jE];show(fO 46 post).map Str.mk=_;rw[Ag 46 post hp];rfl
 rw[e,SU,e2]
theorem SZ(h:(46:UInt8) ∉ s.l):zC s dot=[s]:=by
 rw[jE];show(fO 46 s.l).map Str.mk=_;rw[Ag 46 s.l h];rfl
theorem Di{pre:List UInt8}(h:s.l=pre++46::post)(hp:(46:UInt8) ∉ post):yb s=⟨pre⟩/\qG s=⟨post⟩:=by
 unfold yb qG;rw[KM h hp];constructor
 .rw[ao,bq,dj,da];exact OM ⟨pre⟩
 .simp
theorem Q1(h:(46:UInt8) ∉ s.l):yb s=fG/\qG s=s:=by
 unfold yb qG;rw[SZ h];exact⟨Z,Z⟩
theorem Q3(hv:zm s=true):xJ s=some (yb s):=by
 have hl:=yt hv;unfold xJ;rcases Ai s 46 (by omega) with⟨pre,post,e1,e2,e3⟩ | ⟨e1,e3⟩
 .rw[show zW s (UInt8.ofNat 46)=some (pre.length:Int) from e3,Kd,wk (jF hv),Kd,hv,Kf (by simp[ez]),te (by rw[e1,ao];omega),Kd,(Di e1 e2).1,e1,da]
 .rw[show zW s (UInt8.ofNat 46)=some (-1) from e3,Kd,wk (jF hv),Kd,hv,Ke (by simp[ez]),(Q1 e1).1];rfl
theorem Ej(hv:zm s=true):qg s=some (qG s):=by
 have hl:=yt hv;unfold qg;rw[wk (jF hv),Kd,hv,Kf (by decide)];rcases Ai s 46 (by omega) with⟨pre,post,e1,e2,e3⟩ | ⟨e1,e3⟩
 .have hlen:pre.length+1<=s.l.length:=by rw[e1,ao,aW];omega
  rw[show zW s (UInt8.ofNat 46)=some (pre.length:Int) from e3,Kd,fF (by omega),Kd,Qm hlen,Kd,(Di e1 e2).2,e1]
  congr 2
  rw[show pre++46::post=(pre++[46])++post by simp,List.drop_left' (by simp)]
 .rw[show zW s (UInt8.ofNat 46)=some (-1) from e3,Kd,show((-1:Int)+1)=((0:Nat):Int) from Z,xa (by omega) (by omega),Kd,Qm (by omega),Kd,(Q1 e1).2];rfl
theorem Ge(hv:zm s=true):s=child (yb s) (qG s):=by
 have hl:=yt hv;rcases Ai s 46 (by omega) with⟨pre,post,e1,e2,_⟩ | ⟨e1,_⟩
 .obtain⟨h1,h2⟩:=Di e1 e2;rw[h1,h2];unfold child;by_cases he:(⟨pre⟩:Str)=fG
  .have hpre:pre=[]:=by injection he
   subst hpre;have hs:=KM e1 e2;have h3:=(jX hv).1 ⟨[]⟩ (by rw[hs];exact List.mem_append_left _ (by decide));exact absurd (wB h3).1 (by simp)
  .rw[Kf he];cases s;simp only at e1;rw[e1];simp
 .obtain⟨h1,h2⟩:=Q1 e1;rw[h1,h2];rfl
section
variable{α:Type}[DecidableEq α]
theorem Gg:∀ {l m:List α},l.Nodup->(∀ x∈l,x∈m)->l.length<=m.length
 | [],_,_,_=>aq _
 |x::l,m,hn,hs=>by
  rw[er] at hn;have hx:=hs x (bF ..);have h1:=Gg (l:=l) (m:=m.erase x) hn.2 λ y hy=>(List.mem_erase_of_ne (by intro e;subst e;exact hn.1 hy)).2 (hs y (bD _ hy))
  have h2:=List.length_erase_of_mem hx;have h3:=List.length_pos_of_mem hx;rw[aW];omega
omit [DecidableEq α] in
end
def iL:Nat->Str->Str
 | 0,p=>p
 | n+1,p=>iL n (yb p)
def Xr(p:Str)(lv:Int)(m:Str):Str:=if ez .eql lv 0=true then m else if iL (lv - 1).toNat p=fG then fG else if m=fG then iL (lv - 1).toNat p else child (iL (lv - 1).toNat p) m
def Ci(p:Str)(s:Stmt):Str:=if(ez .eql s.kind 0||ez .eql s.kind 2)=true then s.module else if ez .eql s.kind 1=true then Xr p s.level s.module else fG
def oP(t:List File)(k:Int):File:=(t[k.toNat]?).getD default
theorem Oe{α:Type}{p:α->Bool}{l:List α}(h:ez .lss (xo p l) 0=false):∃ x,l[(xo p l).toNat]?=some x/\p x=true:=by
 unfold xo at h ⊢;cases e:l.findIdx? p with
 | none=>rw[e] at h;exact absurd h (by decide)
 |some i=>rw[aU] at e;obtain⟨hi,h1,_⟩:=e;exact⟨l[i],by simp only[ak];exact aa hi,h1⟩
theorem BX(n:Int):ez .geq n 0=!ez .lss n 0:=by
 unfold ez;by_cases h:n<0
 .have:¬ n>=0:=by omega
  simp[h,this]
 .have:n>=0:=by omega
  simp[h,this]
theorem YX(h:gG b=true):b.length<=8:=by
 unfold gG at h;rw[ac] at h;have:=h.2;unfold ez at this;simp only[bB] at this;omega
section
end
section
end
theorem MS:l.any (λ y=>decide (x=y))=decide (x∈l):=by
 rw[bT,cr];simp
theorem Mq(h:l.length<=1048576):zQ l x=some (decide (x∈l)):=by
 unfold zQ xh;have hl:zE (λ s4=>zY l x s4) 0=some (match l.findIdx? (λ y=>decide (x=y)) with | some i=>(Sum.inr (i:Int):Unit⊕Int) | none=>Sum.inl ()):=by
  refine YL l (λ y=>decide (x=y)) (λ i=>Sum.inr i) _ (λ k y hx hlt=>?_) ?_ (by omega) Z
  .unfold zY;rw[zx,Ke (ab hlt),zA,hx,Kd,fF (by omega)];cases decide (x=y) <;> rfl
  .unfold zY;rw[zx,Kf (by simp)]
 have e:Option.bind (α:=Unit⊕Int) (zE (λ s4=>zY l x s4) 0) (Sum.elim (λ _=>some (-1)) some)=some (xo (λ y=>decide (x=y)) l):=by
  rw[hl];unfold xo;cases l.findIdx? (λ y=>decide (x=y)) <;> rfl
 rw[e,Kd,WW,MS]
theorem UX(h:zi p=true):gM p:=by have:=zX h;unfold gM;omega
theorem Cu:yb fG=fG:=by
 have:(46:UInt8) ∉ fG.l:=by decide
 exact(Q1 this).1
theorem QO(h:zi p=true):zi (yb p)=true:=by
 unfold zi at h;rw[bK,bB] at h;rcases h with h | h
 .rw[h,Cu];rfl
 .exact R4 h _
theorem Dj:∀ n,iL n fG=fG
 | 0=>rfl
 |n+1=>by
  unfold iL;rw[Cu];exact Dj n
theorem vv:∀ n {p:Str},zi p=true->zi (iL n p)=true
 | 0,_,h=>h
 | n+1,_,h=>vv n (QO h)
theorem SK(hp:zi p=true){n:Nat}(hn:n<=10):JO p ((n:Int)+1)=some (iL n p,decide (iL n p≠(⟨[]⟩:Str))):=by
 have key:∀ (k i:Nat) (q:Str),zi q=true->i+k=n->∃ r,wC (λ s4=>jM ((n:Int)+1) s4) (k+1) (q,((i+1:Nat):Int))=some r/\(r=.inl (iL k q)\/(r=.inr ((⟨[]⟩:Str),false)/\iL k q=fG)):=by
  intro k
  induction k with
  |zero=>intro i q hq hi;refine⟨.inl q,yD ?_,.inl Z⟩;unfold jM;simp only;rw[show((n:Int)+1)=((n+1:Nat):Int) by omega,zx,Kf (by simp;omega)]
  |succ k ih=>
   intro i q hq hi;have hlt:ez .lss ((i+1:Nat):Int) ((n:Int)+1)=true:=by unfold ez;exact ab (by omega)
   by_cases he:q=(⟨[]⟩:Str)
   .refine⟨.inr ((⟨[]⟩:Str),false),yD ?_,.inr ⟨Z,?_⟩⟩
    .unfold jM;simp only;rw[Ke hlt,Ke (ab he)]
    .rw[he];exact Dj _
   .have hs:jM ((n:Int)+1) (q,((i+1:Nat):Int))=some (.inl (yb q,((i+1+1:Nat):Int))):=by
     unfold jM;simp only;rw[Ke hlt,Kf (by simpa using he),show wd q=some (yb q) from Ke (UX hq),Kd,fF (by omega)];rfl
    obtain⟨r,h1,h2⟩:=ih (i+1) (yb q) (QO hq) (by omega);exact⟨r,by rw[x9 hs];exact h1,h2⟩
 obtain⟨r,h1,h2⟩:=key n 0 p hp (by omega);unfold JO;rw[show(1:Int)=((0+1:Nat):Int) from Z,jN (by simpa using h1) (by omega)];rcases h2 with rfl | ⟨rfl,h3⟩
 .rfl
 .rw[h3];rfl
theorem CP:Xr p lv m=if lv=0 then m else if iL (lv - 1).toNat p=fG then fG else if m=fG then iL (lv - 1).toNat p else child (iL (lv - 1).toNat p) m:=by
 unfold Xr;by_cases h:lv=0
 .rw[Ke h,Ke (by simp[ez,h])]
 .rw[Kf h,Kf (by simp[ez,h])]
theorem Vg(hp:zi p=true)(h0:0<=lv)(h1:lv<=4)(hm:ia m):Xm p lv m=some (Xr p lv m):=by
 rw[CP];unfold Xm;by_cases h:lv=0
 .rw[Ke h,Ke (by simp[ez,h])]
 .rw[Kf h,Kf (by simp[ez,h])];obtain⟨n,hn⟩:∃ n:Nat,lv=(n:Int)+1:=⟨(lv - 1).toNat,by omega⟩;have hu:=vv n hp;rw[show(lv - 1).toNat=n by omega,hn,SK hp (by omega),Kd];by_cases he:iL n p=fG
  .rw[Ke he];simp only[he];rfl
  .rw[Kf he];have he':decide (iL n p≠(⟨[]⟩:Str))=true:=ab he;simp only[he'];rw[Kf (by decide)];by_cases hm0:m=fG
   .rw[Ke hm0,Ke (ab (show m=(⟨[]⟩:Str) from hm0))]
   .have hlu:=zX hu;unfold ia at hm;rw[Kf hm0,Kf (by simpa using(show ¬ m=(⟨[]⟩:Str) from hm0)),show wi (iL n p) m=some (child (iL n p) m) from Ke (by omega),Kd]
theorem Wh(h:zM st=true):((st.kind=0\/st.kind=2)/\zm st.module=true)\/(st.kind=1/\zi st.module=true/\0<=st.level/\st.level<=3)\/(st.kind≠0/\st.kind≠1/\st.kind≠2):=by
 unfold zM at h;by_cases h0:st.kind=0
 .rw[Ke (by simp[ez,h0])] at h;simp only[ac] at h;exact .inl ⟨.inl h0,h.1.1.1⟩
 .rw[Kf (by simp[ez,h0])] at h;by_cases h1:st.kind=1
  .rw[Ke (by simp[ez,h1])] at h;simp only[ac,eR] at h;have h2:=h.1.1.1.2;simp[ez] at h2;exact .inr (.inl ⟨h1,h.1.1.1.1,by omega,by omega⟩)
  .rw[Kf (by simp[ez,h1])] at h;by_cases h2:st.kind=2
   .rw[Ke (by simp[ez,h2])] at h;simp only[ac] at h;exact .inl ⟨.inr h2,h.1.1.1⟩
   .exact .inr (.inr ⟨h0,h1,h2⟩)
theorem Dk(p s:Str):(child p s).l.length<=p.l.length+s.l.length+1:=by
 unfold child;split
 .omega
 .simp only[ao,bq];omega
theorem S2(hp:zi p=true)(h:zM st=true):ia (Ci p st):=by
 unfold Ci ia;rcases Wh h with⟨h1,h2⟩ | ⟨h1,h2,h3,h4⟩ | ⟨h1,h2,h3⟩
 .have:=yt h2;rw[Ke (by rcases h1 with h1 | h1 <;> simp[ez,h1])];omega
 .rw[Kf (by simp[ez,h1]),Ke (by simp[ez,h1]),CP];have h5:=zX h2;have h6:=zX (vv (st.level - 1).toNat hp);have h7:=Dk (iL (st.level - 1).toNat p) st.module;split
  .omega
  .split
   .exact aq _
   .split <;> omega
 .rw[Kf (by simp[ez,h1,h3]),Kf (by simp[ez,h2])];exact aq _
section
end
section
end
def B2(s:Str):Str:=if zm s=true then s else fG
theorem My(h:zi p=true):xJ p=some (yb p):=by
 unfold zi at h;rw[bK,bB] at h;rcases h with h | h
 .rw[h,Cu];unfold xJ;rcases Ai fG 46 (by decide) with⟨pre,post,e1,_,_⟩ | ⟨_,e3⟩
  .have:=bu List.length e1;simp[fG] at this
  .rw[show zW fG (UInt8.ofNat 46)=some (-1) from e3,Kd,wk (show ia fG from aq _),Kd];rfl
 .exact Q3 h
theorem Sb(hp:zi p=true){n:Nat}(hn:n<=10):zE (λ a8=>yO a8) (p,(n:Int)+1)=some (iL n p):=by
 have key:∀ (k:Nat) (q:Str),k<=10->zi q=true->wC (λ a8=>yO a8) (k+1) (q,((k:Int)+1))=some (iL k q):=by
  intro k
  induction k with
  |zero=>intro q _ hq;refine yD ?_;unfold yO;rw[Kf (by simp[ez])];rfl
  |succ k ih=>
   intro q hk hq;have hgt:ez .gtr (((k+1:Nat):Int)+1) 1=true:=by unfold ez;exact ab (by omega)
   by_cases he:q=(⟨[]⟩:Str)
   .refine yD ?_;unfold yO;simp only;rw[he,Kf (by simp),show iL (k+1) (⟨[]⟩:Str)=fG from Dj _];rfl
   .have hs:yO (q,(((k+1:Nat):Int)+1))=some (.inl (yb q,((k:Int)+1))):=by
     unfold yO;simp only;rw[hgt,Ke (by simpa using he),My hq,Kd,show(((k+1:Nat):Int)+1 - 1)=((k:Int)+1) by omega,xa (by omega) (by omega)];rfl
    rw[x9 hs];exact ih (yb q) (by omega) (QO hq)
 exact jN (key n p hn hp) (by omega)
theorem vl(h:zi p=true):ia p:=by have:=zX h;unfold ia;omega
theorem VJ(hp:zi p=true)(hm:zi m=true)(h0:0<=lv)(h1:lv<=3):qL p lv m=some (B2 (Xr p lv m)):=by
 rw[CP];unfold qL;have hw:yg lv 0 4=some true:=by
  unfold yg ez;simp only[ge_iff_le];rw[ab h0,ab (show lv<=4 by omega)];rfl
 rw[XD (vl hp),Kd,XD (vl hm),hw,hp,hm];simp only[dz,bd,wj,Kd,Bool.or_self,aP,cd];unfold B2;by_cases h:lv=0
 .rw[Ke h,Ke (by simp[ez,h])];unfold zi at hm;rw[bK,bB] at hm;rcases hm with hm | hm
  .rw[hm,Zd];rfl
  .rw[Ke hm]
 .rw[Kf h,Kf (by simp[ez,h])];obtain⟨n,hn⟩:∃ n:Nat,lv=(n:Int)+1:=⟨(lv - 1).toNat,by omega⟩;have hu:=vv n hp;have hul:=zX hu;have hml:=zX hm;rw[show(lv - 1).toNat=n by omega,hn,Sb hp (by omega),Kd];by_cases he:iL n p=fG
  .rw[Ke he,Ke (ab (show iL n p=(⟨[]⟩:Str) from he)),Zd];rfl
  .rw[Kf he,Kf (by simpa using(show ¬ iL n p=(⟨[]⟩:Str) from he))];have hend:∀ q:Str,ia q->((ym q).bind λ a8=>if(!a8)=true then(some (⟨[]⟩:Str)) else(some q))=some (if zm q=true then q else fG):=λ q hq=>by
    rw[wk hq,Kd];cases zm q <;> rfl
   by_cases hm0:m=fG
   .rw[Ke hm0,Kf (by simpa using(show m=(⟨[]⟩:Str) from hm0)),Kd];exact hend _ (vl hu)
   .rw[Kf hm0,Ke (by simpa using(show ¬ m=(⟨[]⟩:Str) from hm0)),WU (by simp;omega),Kd,WU (by simp;omega),Kd,Kd];have e:(⟨(iL n p).l++([46]++m.l)⟩:Str)=child (iL n p) m:=by
     unfold child;rw[Kf he];simp
    simp only[e];refine hend _ ?_;have:=Dk (iL n p) m;unfold ia;omega
section
end
