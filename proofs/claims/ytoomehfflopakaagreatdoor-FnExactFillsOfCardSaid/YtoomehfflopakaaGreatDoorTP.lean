import Derived.Test.YtoomehfflopakaaGreatDoorTI
import Derived.Test.YtoomehfflopakaaGreatDoorTKb
namespace Go.Proofs.YtoomehfflopakaaGreatDoor
open Go.RowKit
variable{lv:Int}{path:List Int}{b:List Stmt}{l:List Str}{post:List UInt8}{st:Stmt}{m p s x:Str}{t:Tree}
theorem zdK(s:Str)(c:UInt8)(hs:s.l.length<=1000000):(∃ pre post,s.l=pre++c::post/\c ∉ post/\zU s c=some (pre.length:Int))\/(c ∉ s.l/\zU s c=some (-1)):=by
 have key:∀ k,k<=s.l.length->c ∉ s.l.drop k->∃ r,jr (λ s6=>ya s c s6) (k+1) ((k:Int) - 1)=some r/\((∃ pre post,s.l=pre++c::post/\c ∉ post/\r=.inr (pre.length:Int))\/(c ∉ s.l/\r=.inl ())):=by
  intro k
  induction k with
  |zero=>intro _ hc;refine⟨.inl (),yY ?_,.inr ⟨by simpa using hc,Z⟩⟩;unfold ya;rw[Kd (by simp[cmpI])]
  |succ k ih=>
   intro hk hc;have hb:s.l[k]?=some s.l[k]:=aa (by omega);have hd:s.l.drop k=s.l[k]::s.l.drop (k+1):=bh (by omega);have e1:((k+1:Nat):Int) - 1=(k:Int):=by omega
   rw[e1];by_cases h:s.l[k]=c
   ·refine⟨.inr (k:Int),yY ?_,.inl ⟨s.l.take k,s.l.drop (k+1),?_,hc,by simp;omega⟩⟩
    ·unfold ya;rw[Kc (by simp[cmpI]),zz,hb,Kb,Kc (by simp[cmpB,h])]
    ·rw[← h,← hd,bH]
   ·have hs1:ya s c (k:Int)=some (.inl ((k:Int) - 1)):=by
     unfold ya;rw[Kc (by simp[cmpI]),zz,hb,Kb,Kd (by simp[cmpB,h]),xb (by omega) (by omega),Kb]
    rw[jD hs1];exact ih (by omega) (by rw[hd];simp only[am,not_or];exact⟨λ e=>h e.symm,hc⟩)
 obtain⟨r,h1,h2⟩:=key s.l.length (ak _) (by simp);have hl:zU s c=Option.bind (some r) (Sum.elim (λ _=>some (-1)) some):=by
  unfold zU yN;rw[xb (by omega) (by omega),Kb,Z1 h1 (by omega)];cases r <;> rfl
 rcases h2 with⟨pre,post,e1,e2,rfl⟩ | ⟨e1,rfl⟩
 ·exact .inl ⟨pre,post,e1,e2,hl⟩
 ·exact .inr ⟨e1,hl⟩
theorem zfK{pre:List UInt8}(h:s.l=pre++46::post)(hp:(46:UInt8) ∉ post):zB s dot=zB ⟨pre⟩ dot++[⟨post⟩]:=by
 have e:s=⟨((⟨pre⟩:Str).l++[46])++(⟨post⟩:Str).l⟩:=by
  cases s;simp only at h ⊢;rw[h];simp
 have e2:zB ⟨post⟩ dot=[⟨post⟩]:=by
  rw[jk];show(cutF 46 post).map Str.mk=_;rw[zdF 46 post hp];rfl
 rw[e,split_append,e2]
theorem split_none(h:(46:UInt8) ∉ s.l):zB s dot=[s]:=by
 rw[jk];show(cutF 46 s.l).map Str.mk=_;rw[zdF 46 s.l h];rfl
theorem zeo{pre:List UInt8}(h:s.l=pre++46::post)(hp:(46:UInt8) ∉ post):yb s=⟨pre⟩/\qn s=⟨post⟩:=by
 unfold yb qn;rw[zfK h hp];constructor
 ·rw[ap,bf,df,cY];exact join_split ⟨pre⟩
 ·simp
theorem Qw(h:(46:UInt8) ∉ s.l):yb s=emptyS/\qn s=s:=by
 unfold yb qn;rw[split_none h];exact⟨Z,Z⟩
theorem Qx(hv:zm s=true):xz s=some (yb s):=by
 have hl:=yp hv;unfold xz;rcases zdK s 46 (by omega) with⟨pre,post,e1,e2,e3⟩ | ⟨e1,e3⟩
 ·rw[show zU s (UInt8.ofNat 46)=some (pre.length:Int) from e3,Kb,x8 (jl hv),Kb,hv,Kd (by simp[cmpI]),zae (by rw[e1,ap];omega),Kb,(zeo e1 e2).1,e1,cY]
 ·rw[show zU s (UInt8.ofNat 46)=some (-1) from e3,Kb,x8 (jl hv),Kb,hv,Kc (by simp[cmpI]),(Qw e1).1];rfl
theorem LastOf_eq(hv:zm s=true):jS s=some (qn s):=by
 have hl:=yp hv;unfold jS;rw[x8 (jl hv),Kb,hv,Kd (by decide)];rcases zdK s 46 (by omega) with⟨pre,post,e1,e2,e3⟩ | ⟨e1,e3⟩
 ·have hlen:pre.length+1<=s.l.length:=by rw[e1,ap,bj];omega
  rw[show zU s (UInt8.ofNat 46)=some (pre.length:Int) from e3,Kb,zG (by omega),Kb,JT hlen,Kb,(zeo e1 e2).2,e1]
  congr 2
  rw[show pre++46::post=(pre++[46])++post by simp,List.drop_left' (by simp)]
 ·rw[show zU s (UInt8.ofNat 46)=some (-1) from e3,Kb,show((-1:Int)+1)=((0:Nat):Int) from Z,xb (by omega) (by omega),Kb,JT (by omega),Kb,(Qw e1).2];rfl
theorem name_of(hv:zm s=true):s=child (yb s) (qn s):=by
 have hl:=yp hv;rcases zdK s 46 (by omega) with⟨pre,post,e1,e2,_⟩ | ⟨e1,_⟩
 ·obtain⟨h1,h2⟩:=zeo e1 e2;rw[h1,h2];unfold child;by_cases he:(⟨pre⟩:Str)=emptyS
  ·have hpre:pre=[]:=by injection he
   subst hpre;have hs:=zfK e1 e2;have h3:=(jH hv).1 ⟨[]⟩ (by rw[hs];exact List.mem_append_left _ (by decide));exact absurd (wt h3).1 (by simp)
  ·rw[Kd he];cases s;simp only at e1;rw[e1];simp
 ·obtain⟨h1,h2⟩:=Qw e1;rw[h1,h2];rfl
section
variable{α:Type}[DecidableEq α]
theorem nodupLen:∀ {l m:List α},l.Nodup->(∀ x∈l,x∈m)->l.length<=m.length
 | [],_,_,_=>ao _
 |x::l,m,hn,hs=>by
  rw[eb] at hn;have hx:=hs x (bK ..);have h1:=nodupLen (l:=l) (m:=m.erase x) hn.2 λ y hy=>(List.mem_erase_of_ne (by intro e;subst e;exact hn.1 hy)).2 (hs y (bM _ hy))
  have h2:=List.length_erase_of_mem hx;have h3:=List.length_pos_of_mem hx;rw[bj];omega
omit [DecidableEq α] in
end
def upN:Nat->Str->Str
 | 0,p=>p
 | n+1,p=>upN n (yb p)
def Y5(p:Str)(lv:Int)(m:Str):Str:=if cmpI .eql lv 0=true then m else if upN (lv - 1).toNat p=emptyS then emptyS else if m=emptyS then upN (lv - 1).toNat p else child (upN (lv - 1).toNat p) m
def stName(p:Str)(s:Stmt):Str:=if(cmpI .eql s.kind 0||cmpI .eql s.kind 2)=true then s.module else if cmpI .eql s.kind 1=true then Y5 p s.level s.module else emptyS
def zbu(t:List File)(k:Int):File:=(t[k.toNat]?).getD default
theorem idxOf_some{α:Type}{p:α->Bool}{l:List α}(h:cmpI .lss (xk p l) 0=false):∃ x,l[(xk p l).toNat]?=some x/\p x=true:=by
 unfold xk at h ⊢;cases e:l.findIdx? p with
 | none=>rw[e] at h;exact absurd h (by decide)
 |some i=>rw[aO] at e;obtain⟨hi,h1,_⟩:=e;exact⟨l[i],by simp only[aj];exact aa hi,h1⟩
theorem lss_geq(n:Int):cmpI .geq n 0=!cmpI .lss n 0:=by
 unfold cmpI;by_cases h:n<0
 ·have:¬ n>=0:=by omega
  simp[h,this]
 ·have:n>=0:=by omega
  simp[h,this]
theorem YC(h:zO b=true):b.length<=8:=by
 unfold zO at h;rw[af] at h;have:=h.2;unfold cmpI at this;simp only[bt] at this;omega
section
end
section
end
theorem any_mem':l.any (λ y=>decide (x=y))=decide (x∈l):=by
 rw[bO,cC];simp
theorem ContainsS_eq(h:l.length<=1048576):zP l x=some (decide (x∈l)):=by
 unfold zP xe;have hl:zE (λ s4=>zW l x s4) 0=some (match l.findIdx? (λ y=>decide (x=y)) with | some i=>(Sum.inr (i:Int):Unit⊕Int) | none=>Sum.inl ()):=by
  refine Yn l (λ y=>decide (x=y)) (λ i=>Sum.inr i) _ (λ k y hx hlt=>?_) ?_ (by omega) Z
  ·unfold zW;rw[zx,Kc (ab hlt),zz,hx,Kb,zG (by omega)];cases decide (x=y) <;> rfl
  ·unfold zW;rw[zx,Kd (by simp)]
 have e:Option.bind (α:=Unit⊕Int) (zE (λ s4=>zW l x s4) 0) (Sum.elim (λ _=>some (-1)) some)=some (xk (λ y=>decide (x=y)) l):=by
  rw[hl];unfold xk;cases l.findIdx? (λ y=>decide (x=y)) <;> rfl
 rw[e,Kb,Ww,any_mem']
theorem zdL(h:zf p=true):mid p:=by have:=zV h;unfold mid;omega
theorem zaA:yb emptyS=emptyS:=by
 have:(46:UInt8) ∉ emptyS.l:=by decide
 exact(Qw this).1
theorem Qk(h:zf p=true):zf (yb p)=true:=by
 unfold zf at h;rw[bB,bt] at h;rcases h with h | h
 ·rw[h,zaA];rfl
 ·exact pre_valid h _
theorem zep:∀ n,upN n emptyS=emptyS
 | 0=>rfl
 |n+1=>by
  unfold upN;rw[zaA];exact zep n
theorem upN_pkg:∀ n {p:Str},zf p=true->zf (upN n p)=true
 | 0,_,h=>h
 | n+1,_,h=>upN_pkg n (Qk h)
theorem spec_base_eq(hp:zf p=true){n:Nat}(hn:n<=10):Jn p ((n:Int)+1)=some (upN n p,decide (upN n p≠(⟨[]⟩:Str))):=by
 have key:∀ (k i:Nat) (q:Str),zf q=true->i+k=n->∃ r,jr (λ s4=>jv ((n:Int)+1) s4) (k+1) (q,((i+1:Nat):Int))=some r/\(r=.inl (upN k q)\/(r=.inr ((⟨[]⟩:Str),false)/\upN k q=emptyS)):=by
  intro k
  induction k with
  |zero=>intro i q hq hi;refine⟨.inl q,yY ?_,.inl Z⟩;unfold jv;simp only;rw[show((n:Int)+1)=((n+1:Nat):Int) by omega,zx,Kd (by simp;omega)]
  |succ k ih=>
   intro i q hq hi;have hlt:cmpI .lss ((i+1:Nat):Int) ((n:Int)+1)=true:=by unfold cmpI;exact ab (by omega)
   by_cases he:q=(⟨[]⟩:Str)
   ·refine⟨.inr ((⟨[]⟩:Str),false),yY ?_,.inr ⟨Z,?_⟩⟩
    ·unfold jv;simp only;rw[Kc hlt,Kc (ab he)]
    ·rw[he];exact zep _
   ·have hs:jv ((n:Int)+1) (q,((i+1:Nat):Int))=some (.inl (yb q,((i+1+1:Nat):Int))):=by
     unfold jv;simp only;rw[Kc hlt,Kd (by simpa using he),show xV q=some (yb q) from Kc (zdL hq),Kb,zG (by omega)];rfl
    obtain⟨r,h1,h2⟩:=ih (i+1) (yb q) (Qk hq) (by omega);exact⟨r,by rw[jD hs];exact h1,h2⟩
 obtain⟨r,h1,h2⟩:=key n 0 p hp (by omega);unfold Jn;rw[show(1:Int)=((0+1:Nat):Int) from Z,Z1 (by simpa using h1) (by omega)];rcases h2 with rfl | ⟨rfl,h3⟩
 ·rfl
 ·rw[h3];rfl
theorem zbv:Y5 p lv m=if lv=0 then m else if upN (lv - 1).toNat p=emptyS then emptyS else if m=emptyS then upN (lv - 1).toNat p else child (upN (lv - 1).toNat p) m:=by
 unfold Y5;by_cases h:lv=0
 ·rw[Kc h,Kc (by simp[cmpI,h])]
 ·rw[Kd h,Kd (by simp[cmpI,h])]
theorem ze1(hp:zf p=true)(h0:0<=lv)(h1:lv<=4)(hm:sho m):Y1 p lv m=some (Y5 p lv m):=by
 rw[zbv];unfold Y1;by_cases h:lv=0
 ·rw[Kc h,Kc (by simp[cmpI,h])]
 ·rw[Kd h,Kd (by simp[cmpI,h])];obtain⟨n,hn⟩:∃ n:Nat,lv=(n:Int)+1:=⟨(lv - 1).toNat,by omega⟩;have hu:=upN_pkg n hp;rw[show(lv - 1).toNat=n by omega,hn,spec_base_eq hp (by omega),Kb];by_cases he:upN n p=emptyS
  ·rw[Kc he];simp only[he];rfl
  ·rw[Kd he];have he':decide (upN n p≠(⟨[]⟩:Str))=true:=ab he;simp only[he'];rw[Kd (by decide)];by_cases hm0:m=emptyS
   ·rw[Kc hm0,Kc (ab (show m=(⟨[]⟩:Str) from hm0))]
   ·have hlu:=zV hu;unfold sho at hm;rw[Kd hm0,Kd (by simpa using(show ¬ m=(⟨[]⟩:Str) from hm0)),show xZ (upN n p) m=some (child (upN n p) m) from Kc (by omega),Kb]
theorem XP(h:zL st=true):((st.kind=0\/st.kind=2)/\zm st.module=true)\/(st.kind=1/\zf st.module=true/\0<=st.level/\st.level<=3)\/(st.kind≠0/\st.kind≠1/\st.kind≠2):=by
 unfold zL at h;by_cases h0:st.kind=0
 ·rw[Kc (by simp[cmpI,h0])] at h;simp only[af] at h;exact .inl ⟨.inl h0,h.1.1.1⟩
 ·rw[Kd (by simp[cmpI,h0])] at h;by_cases h1:st.kind=1
  ·rw[Kc (by simp[cmpI,h1])] at h;simp only[af,inR] at h;have h2:=h.1.1.1.2;simp[cmpI] at h2;exact .inr (.inl ⟨h1,h.1.1.1.1,by omega,by omega⟩)
  ·rw[Kd (by simp[cmpI,h1])] at h;by_cases h2:st.kind=2
   ·rw[Kc (by simp[cmpI,h2])] at h;simp only[af] at h;exact .inl ⟨.inr h2,h.1.1.1⟩
   ·exact .inr (.inr ⟨h0,h1,h2⟩)
theorem zeq(p s:Str):(child p s).l.length<=p.l.length+s.l.length+1:=by
 unfold child;split
 ·omega
 ·simp only[ap,bf];omega
theorem stName_sho(hp:zf p=true)(h:zL st=true):sho (stName p st):=by
 unfold stName sho;rcases XP h with⟨h1,h2⟩ | ⟨h1,h2,h3,h4⟩ | ⟨h1,h2,h3⟩
 ·have:=yp h2;rw[Kc (by rcases h1 with h1 | h1 <;> simp[cmpI,h1])];omega
 ·rw[Kd (by simp[cmpI,h1]),Kc (by simp[cmpI,h1]),zbv];have h5:=zV h2;have h6:=zV (upN_pkg (st.level - 1).toNat hp);have h7:=zeq (upN (st.level - 1).toNat p) st.module;split
  ·omega
  ·split
   ·exact ao _
   ·split <;> omega
 ·rw[Kd (by simp[cmpI,h1,h3]),Kd (by simp[cmpI,h2])];exact ao _
section
end
section
end
def orE(s:Str):Str:=if zm s=true then s else emptyS
theorem ParentOf_any(h:zf p=true):xz p=some (yb p):=by
 unfold zf at h;rw[bB,bt] at h;rcases h with h | h
 ·rw[h,zaA];unfold xz;rcases zdK emptyS 46 (by decide) with⟨pre,post,e1,_,_⟩ | ⟨_,e3⟩
  ·have:=bz List.length e1;simp[emptyS] at this
  ·rw[show zU emptyS (UInt8.ofNat 46)=some (-1) from e3,Kb,x8 (show sho emptyS from ao _),Kb];rfl
 ·exact Qx h
theorem resolve_loop(hp:zf p=true){n:Nat}(hn:n<=10):zE (λ a8=>yG a8) (p,(n:Int)+1)=some (upN n p):=by
 have key:∀ (k:Nat) (q:Str),k<=10->zf q=true->jr (λ a8=>yG a8) (k+1) (q,((k:Int)+1))=some (upN k q):=by
  intro k
  induction k with
  |zero=>intro q _ hq;refine yY ?_;unfold yG;rw[Kd (by simp[cmpI])];rfl
  |succ k ih=>
   intro q hk hq;have hgt:cmpI .gtr (((k+1:Nat):Int)+1) 1=true:=by unfold cmpI;exact ab (by omega)
   by_cases he:q=(⟨[]⟩:Str)
   ·refine yY ?_;unfold yG;simp only;rw[he,Kd (by simp),show upN (k+1) (⟨[]⟩:Str)=emptyS from zep _];rfl
   ·have hs:yG (q,(((k+1:Nat):Int)+1))=some (.inl (yb q,((k:Int)+1))):=by
     unfold yG;simp only;rw[hgt,Kc (by simpa using he),ParentOf_any hq,Kb,show(((k+1:Nat):Int)+1 - 1)=((k:Int)+1) by omega,xb (by omega) (by omega)];rfl
    rw[jD hs];exact ih (yb q) (by omega) (Qk hq)
 exact Z1 (key n p hn hp) (by omega)
theorem pkg_sho(h:zf p=true):sho p:=by have:=zV h;unfold sho;omega
theorem zfL(hp:zf p=true)(hm:zf m=true)(h0:0<=lv)(h1:lv<=3):qv p lv m=some (orE (Y5 p lv m)):=by
 rw[zbv];unfold qv;have hw:yg lv 0 4=some true:=by
  unfold yg cmpI;simp only[ge_iff_le];rw[ab h0,ab (show lv<=4 by omega)];rfl
 rw[Xg (pkg_sho hp),Kb,Xg (pkg_sho hm),hw,hp,hm];simp only[dP,aW,wr,Kb,Bool.or_self,aZ,co];unfold orE;by_cases h:lv=0
 ·rw[Kc h,Kc (by simp[cmpI,h])];unfold zf at hm;rw[bB,bt] at hm;rcases hm with hm | hm
  ·rw[hm,qN];rfl
  ·rw[Kc hm]
 ·rw[Kd h,Kd (by simp[cmpI,h])];obtain⟨n,hn⟩:∃ n:Nat,lv=(n:Int)+1:=⟨(lv - 1).toNat,by omega⟩;have hu:=upN_pkg n hp;have hul:=zV hu;have hml:=zV hm;rw[show(lv - 1).toNat=n by omega,hn,resolve_loop hp (by omega),Kb];by_cases he:upN n p=emptyS
  ·rw[Kc he,Kc (ab (show upN n p=(⟨[]⟩:Str) from he)),qN];rfl
  ·rw[Kd he,Kd (by simpa using(show ¬ upN n p=(⟨[]⟩:Str) from he))];have hend:∀ q:Str,sho q->((ym q).bind λ a8=>if(!a8)=true then(some (⟨[]⟩:Str)) else(some q))=some (if zm q=true then q else emptyS):=λ q hq=>by
    rw[x8 hq,Kb];cases zm q <;> rfl
   by_cases hm0:m=emptyS
   ·rw[Kc hm0,Kd (by simpa using(show m=(⟨[]⟩:Str) from hm0)),Kb];exact hend _ (pkg_sho hu)
   ·rw[Kd hm0,Kc (by simpa using(show ¬ m=(⟨[]⟩:Str) from hm0)),JO (by simp;omega),Kb,JO (by simp;omega),Kb,Kb];have e:(⟨(upN n p).l++([46]++m.l)⟩:Str)=child (upN n p) m:=by
     unfold child;rw[Kd he];simp
    simp only[e];refine hend _ ?_;have:=zeq (upN n p) m;unfold sho;omega
section
end
