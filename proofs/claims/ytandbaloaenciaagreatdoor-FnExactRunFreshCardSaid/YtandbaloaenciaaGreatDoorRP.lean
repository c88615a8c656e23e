import Derived.Test.YtandbaloaenciaaGreatDoorRI
import Derived.Test.YtandbaloaenciaaGreatDoorRJ
import Derived.Test.YtandbaloaenciaaGreatDoorRN
namespace Go.Proofs.YtandbaloaenciaaGreatDoor
open Go.RowKit
variable{f:File}{i k k' lv:Int}{path:List Int}{b:List Stmt}{l:List Str}{post pre:List UInt8}{m:Nat}{r:Reader}{st:Stmt}{p s:Str}{t:Tree}
def Rok(k:Int)(r:Reader):Prop:=r.b.length<=2000/\0<=r.p/\r.p<=k
def Dr{α:Type}(k:Int)(x:Option (Reader×α))(P:α->Prop):Prop:=∃ r v,x=some (r,v)/\Rok k r/\P v
variable{α:Type}{P:α->Prop}
theorem Dr.bind{α β:Type}{k k':Int}{x:Option (Reader×α)}{P:α->Prop}{f:Reader×α->Option (Reader×β)}{Q:β->Prop}(h:Dr k x P)(hf:∀ r v,Rok k r->P v->Dr k' (f (r,v)) Q):Dr k' (x.bind f) Q:=by
 obtain⟨r,v,h1,h2,h3⟩:=h;rw[h1];exact hf r v h2 h3
theorem Rok.le(h:Rok k r)(hk:k<=k'):Rok k' r:=⟨h.1,h.2.1,Int.le_trans h.2.2 hk⟩
theorem Dr.mono{x:Option (Reader×α)}{Q:α->Prop}(h:Dr k x P)(hk:k<=k')(hp:∀ v,P v->Q v):Dr k' x Q:=by
 obtain⟨r,v,h1,h2,h3⟩:=h;exact⟨r,v,h1,h2.le hk,hp v h3⟩
theorem atI_ok{l:List α}(h0:0<=i)(h:i<l.length):∃ x,atI l i=some x/\x∈l:=by
 obtain⟨n,rfl⟩:=Int.eq_ofNat_of_zero_le h0;obtain⟨x,hx,hm⟩:=Zq (l:=l) (k:=n) (by omega);exact⟨x,by rw[zH,hx],hm⟩
theorem Dr.any{γ:Type}{x:Option γ}{f:γ->Option (Reader×α)}(hx:∃ o,x=some o)(hf:∀ o,Dr k (f o) P):Dr k (x.bind f) P:=by
 obtain⟨o,rfl⟩:=hx;exact hf o
theorem Dr.some{α γ:Type}{k:Int}{x:Option γ}{o:γ}{f:γ->Option (Reader×α)}{P:α->Prop}(hx:x=some o)(hf:Dr k (f o) P):Dr k (x.bind f) P:=by
 rw[hx];exact hf
theorem Dr.step{β:Type}{x:Option (Reader×α)}{f:Reader×α->Option β}{Q:β->Prop}(hx:Dr k x P)(hf:∀ r v,Rok k r->P v->∃ y,f (r,v)=Option.some y/\Q y):∃ y,x.bind f=Option.some y/\Q y:=by
 obtain⟨r,v,h1,h2,h3⟩:=hx;rw[h1];exact hf r v h2 h3
def smS(s:Stmt):Prop:=s.module.l.length<=16/\s.name.l.length<=16
def smB(n:Nat)(b:List Stmt):Prop:=b.length<=n/\∀ s∈b,smS s
theorem smB.app{n:Nat}{s:Stmt}(h:smB n b)(hs:smS s):smB (n+1) (b++[s]):=⟨by have:=h.1;simp;omega,λ x hx=>(List.mem_append.1 hx).elim (h.2 x) λ hx=>by rw[List.mem_singleton.1 hx];exact hs⟩
theorem smB.le{n:Nat}(h:smB n b)(hm:n<=m):smB m b:=⟨Nat.le_trans h.1 hm,h.2⟩
def smF(n:Nat)(f:File):Prop:=f.pkg.l.length<=16/\f.name.l.length<=16/\smB n f.body
def smT(n m:Nat)(t:Tree):Prop:=t.files.length<=n/\∀ f∈t.files,smF m f
theorem smF.le{n m:Nat}{f:File}(h:smF n f)(hm:n<=m):smF m f:=⟨h.1,h.2.1,h.2.2.le hm⟩
theorem smT.le{n m n' m':Nat}{t:Tree}(h:smT n m t)(hn:n<=n')(hm:m<=m'):smT n' m' t:=⟨Nat.le_trans h.1 hn,λ f hf=>(h.2 f hf).le hm⟩
theorem smT.app{n:Nat}(h:smT n m t)(hf:smF m f):smT (n+1) m ⟨t.files++[f]⟩:=⟨by have:=h.1;simp;omega,λ x hx=>(List.mem_append.1 hx).elim (h.2 x) λ hx=>by rw[List.mem_singleton.1 hx];exact hf⟩
theorem smT.set{n m i:Nat}{t:Tree}{f:File}(h:smT n m t)(hf:smF m f):smT n m ⟨t.files.set i f⟩:=⟨by have:=h.1;simp;omega,λ x hx=>(List.mem_or_eq_of_mem_set hx).elim (h.2 x) λ hx=>by rw[hx];exact hf⟩
theorem smT.sm(h:smT 11 5 t):jZ t:=by
 refine⟨by have:=h.1;omega,λ f hf=>?_⟩;obtain⟨h1,h2,h3,h4⟩:=h.2 f hf;exact⟨by omega,by omega,by omega,λ s hs=>⟨by have:=(h4 s hs).1;omega,by have:=(h4 s hs).2;omega⟩⟩
def smC(n:Nat)(l:List GCmd):Prop:=l.length<=n/\∀ x∈l,x.name.l.length<=64
theorem smC.app{n:Nat}{b:List GCmd}{s:GCmd}(h:smC n b)(hs:s.name.l.length<=64):smC (n+1) (b++[s]):=⟨by have:=h.1;simp;omega,λ x hx=>(List.mem_append.1 hx).elim (h.2 x) λ hx=>by rw[List.mem_singleton.1 hx];exact hs⟩
theorem smC.le{n:Nat}{b:List GCmd}(h:smC n b)(hm:n<=m):smC m b:=⟨Nat.le_trans h.1 hm,h.2⟩
theorem smB.one{s:Stmt}(h:smS s):smB 1 [s]:=⟨Nat.le_refl _,λ x hx=>by rw[List.mem_singleton.1 hx];exact h⟩
theorem zcm(s:Str)(c:UInt8)(hs:s.l.length<=1000000):(∃ pre post,s.l=pre++c::post/\c ∉ post/\zS s c=some (pre.length:Int))\/(c ∉ s.l/\zS s c=some (-1)):=by
 have key:∀ k,k<=s.l.length->c ∉ s.l.drop k->∃ r,wy (λ s6=>zU s c s6) (k+1) ((k:Int) - 1)=some r/\((∃ pre post,s.l=pre++c::post/\c ∉ post/\r=.inr (pre.length:Int))\/(c ∉ s.l/\r=.inl ())):=by
  intro k
  induction k with
  |zero=>intro _ hc;refine⟨.inl (),yq ?_,.inr ⟨by simpa using hc,Z⟩⟩;unfold zU;rw[Kf (by simp[cmpI])]
  |succ k ih=>
   intro hk hc;have hb:s.l[k]?=some s.l[k]:=List.getElem?_eq_getElem (by omega);have hd:s.l.drop k=s.l[k]::s.l.drop (k+1):=List.drop_eq_getElem_cons (by omega);have e1:((k+1:Nat):Int) - 1=(k:Int):=by omega
   rw[e1];by_cases h:s.l[k]=c
   ·refine⟨.inr (k:Int),yq ?_,.inl ⟨s.l.take k,s.l.drop (k+1),?_,hc,by simp;omega⟩⟩
    ·unfold zU;rw[Ke (by simp[cmpI]),zH,hb,obS,Ke (by simp[cmpB,h])]
    ·rw[← h,← hd,List.take_append_drop]
   ·have hs1:zU s c (k:Int)=some (.inl ((k:Int) - 1)):=by
     unfold zU;rw[Ke (by simp[cmpI]),zH,hb,obS,Kf (by simp[cmpB,h]),js (by omega) (by omega),obS]
    rw[x8 hs1];exact ih (by omega) (by rw[hd];simp only[List.mem_cons,not_or];exact⟨λ e=>h e.symm,hc⟩)
 obtain⟨r,h1,h2⟩:=key s.l.length (Nat.le_refl _) (by simp);have hl:zS s c=Option.bind (some r) (Sum.elim (λ _=>some (-1)) some):=by
  unfold zS yD;rw[js (by omega) (by omega),obS,jk h1 (by omega)];cases r <;> rfl
 rcases h2 with⟨pre,post,e1,e2,rfl⟩ | ⟨e1,rfl⟩
 ·exact .inl ⟨pre,post,e1,e2,hl⟩
 ·exact .inr ⟨e1,hl⟩
theorem zdW(h:s.l=pre++46::post)(hp:(46:UInt8) ∉ post):zx s dot=zx ⟨pre⟩ dot++[⟨post⟩]:=by
 have e:s=⟨((⟨pre⟩:Str).l++[46])++(⟨post⟩:Str).l⟩:=by
  cases s;simp only at h ⊢;rw[h];simp
 have e2:zx ⟨post⟩ dot=[⟨post⟩]:=by
  rw[jt];show(cutF 46 post).map Str.mk=_;rw[zci 46 post hp];rfl
 rw[e,split_append,e2]
theorem split_none(h:(46:UInt8) ∉ s.l):zx s dot=[s]:=by
 rw[jt];show(cutF 46 s.l).map Str.mk=_;rw[zci 46 s.l h];rfl
theorem zcU(h:s.l=pre++46::post)(hp:(46:UInt8) ∉ post):zN s=⟨pre⟩/\jh s=⟨post⟩:=by
 unfold zN jh;rw[zdW h hp];constructor
 ·rw[List.length_append,List.length_singleton,Nat.add_sub_cancel,List.take_left];exact join_split ⟨pre⟩
 ·simp
theorem Jv(h:(46:UInt8) ∉ s.l):zN s=emptyS/\jh s=s:=by
 unfold zN jh;rw[split_none h];exact⟨Z,Z⟩
theorem Jw(hv:zj s=true):xl s=some (zN s):=by
 have hl:=yF hv;unfold xl;rcases zcm s 46 (by omega) with⟨pre,post,e1,e2,e3⟩ | ⟨e1,e3⟩
 ·rw[show zS s (UInt8.ofNat 46)=some (pre.length:Int) from e3,obS,wl (wU hv),obS,hv,Kf (by simp[cmpI]),zaG (by rw[e1,List.length_append];omega),obS,(zcU e1 e2).1,e1,List.take_left]
 ·rw[show zS s (UInt8.ofNat 46)=some (-1) from e3,obS,wl (wU hv),obS,hv,Ke (by simp[cmpI]),(Jv e1).1];rfl
theorem LastOf_eq(hv:zj s=true):jv s=some (jh s):=by
 have hl:=yF hv;unfold jv;rw[wl (wU hv),obS,hv,Kf (by decide)];rcases zcm s 46 (by omega) with⟨pre,post,e1,e2,e3⟩ | ⟨e1,e3⟩
 ·have hlen:pre.length+1<=s.l.length:=by rw[e1,List.length_append,List.length_cons];omega
  rw[show zS s (UInt8.ofNat 46)=some (pre.length:Int) from e3,obS,zG (by omega),obS,zaH hlen,obS,(zcU e1 e2).2,e1]
  congr 2
  rw[show pre++46::post=(pre++[46])++post by simp,List.drop_left' (by simp)]
 ·rw[show zS s (UInt8.ofNat 46)=some (-1) from e3,obS,show((-1:Int)+1)=((0:Nat):Int) from Z,js (by omega) (by omega),obS,zaH (by omega),obS,(Jv e1).2];rfl
theorem name_of(hv:zj s=true):s=child (zN s) (jh s):=by
 have hl:=yF hv;rcases zcm s 46 (by omega) with⟨pre,post,e1,e2,_⟩ | ⟨e1,_⟩
 ·obtain⟨h1,h2⟩:=zcU e1 e2;rw[h1,h2];unfold child;by_cases he:(⟨pre⟩:Str)=emptyS
  ·have hpre:pre=[]:=by injection he
   subst hpre;have hs:=zdW e1 e2;have h3:=(jf hv).1 ⟨[]⟩ (by rw[hs];exact List.mem_append_left _ (by decide));exact absurd (qF h3).1 (by simp)
  ·rw[Kf he];cases s;simp only at e1;rw[e1];simp
 ·obtain⟨h1,h2⟩:=Jv e1;rw[h1,h2];rfl
section
variable{α:Type}[DecidableEq α]
theorem nodupLen:∀ {l m:List α},l.Nodup->(∀ x∈l,x∈m)->l.length<=m.length
 | [],_,_,_=>Nat.zero_le _
 |x::l,m,hn,hs=>by
  rw[List.nodup_cons] at hn;have hx:=hs x (List.mem_cons_self ..);have h1:=nodupLen (l:=l) (m:=m.erase x) hn.2 λ y hy=>(List.mem_erase_of_ne (by intro e;subst e;exact hn.1 hy)).2 (hs y (List.mem_cons_of_mem _ hy))
  have h2:=List.length_erase_of_mem hx;have h3:=List.length_pos_of_mem hx;rw[List.length_cons];omega
inductive Way (E:α->List α) (l:List α):α->Prop
 | here {x}:x∈l->Way E l x
 | step {x y}:Way E l x->y∈E x->Way E l y
omit [DecidableEq α] in
theorem Way.mono{E:α->List α}{l m:List α}(h:∀ x∈l,Way E m x){x:α}(hw:Way E l x):Way E m x:=by
 induction hw with
 | here hx=>exact h _ hx
 | step _ hy ih=>exact .step ih hy
end
def upN:Nat->Str->Str
 | 0,p=>p
 | n+1,p=>upN n (zN p)
def Yk(p:Str)(lv:Int)(m:Str):Str:=if cmpI .eql lv 0=true then m else if upN (lv - 1).toNat p=emptyS then emptyS else if m=emptyS then upN (lv - 1).toNat p else child (upN (lv - 1).toNat p) m
def stName(p:Str)(s:Stmt):Str:=if(cmpI .eql s.kind 0||cmpI .eql s.kind 2)=true then s.module else if cmpI .eql s.kind 1=true then Yk p s.level s.module else emptyS
def JN(t:List File)(k:Int):File:=(t[k.toNat]?).getD default
theorem idxOf_some{p:α->Bool}{l:List α}(h:cmpI .lss (xm p l) 0=false):∃ x,l[(xm p l).toNat]?=some x/\p x=true:=by
 unfold xm at h ⊢;cases e:l.findIdx? p with
 | none=>rw[e] at h;exact absurd h (by decide)
 |some i=>rw[List.findIdx?_eq_some_iff_getElem] at e;obtain⟨hi,h1,_⟩:=e;exact⟨l[i],by simp only[Int.toNat_natCast];exact List.getElem?_eq_getElem hi,h1⟩
theorem lss_geq(n:Int):cmpI .geq n 0=!cmpI .lss n 0:=by
 unfold cmpI;by_cases h:n<0
 ·have:¬ n>=0:=by omega
  simp[h,this]
 ·have:n>=0:=by omega
  simp[h,this]
theorem Jf(hv:zI t=true)(hf:f∈t.files):yc f.body=true:=by
 have h:=Yi hv hf;unfold yy at h;cases hb:yc f.body with
 | true=>rfl
 | false=>rw[hb,Ke (by simp)] at h;cases h
section
end
section
end
theorem any_mem'{x:Str}:l.any (λ y=>decide (x=y))=decide (x∈l):=by
 rw[Bool.eq_iff_iff,List.any_eq_true];simp
theorem ContainsS_eq{x:Str}(h:l.length<=1048576):yn l x=some (decide (x∈l)):=by
 unfold yn xM;have hl:zE (λ s4=>yI l x s4) 0=some (match l.findIdx? (λ y=>decide (x=y)) with | some i=>(Sum.inr (i:Int):Unit⊕Int) | none=>Sum.inl ()):=by
  refine Wo l (λ y=>decide (x=y)) (λ i=>Sum.inr i) _ (λ k y hx hlt=>?_) ?_ (by omega) Z
  ·unfold yI;rw[zC,Ke (decide_eq_true hlt),zH,hx,obS,zG (by omega)];cases decide (x=y) <;> rfl
  ·unfold yI;rw[zC,Kf (by simp)]
 have e:Option.bind (α:=Unit⊕Int) (zE (λ s4=>yI l x s4) 0) (Sum.elim (λ _=>some (-1)) some)=some (xm (λ y=>decide (x=y)) l):=by
  rw[hl];unfold xm;cases l.findIdx? (λ y=>decide (x=y)) <;> rfl
 rw[e,obS,J6,any_mem']
theorem zcn(h:zi p=true):mid p:=by have:=yf h;unfold mid;omega
theorem Qu:zN emptyS=emptyS:=by
 have:(46:UInt8) ∉ emptyS.l:=by decide
 exact(Jv this).1
theorem Jg(h:zi p=true):zi (zN p)=true:=by
 unfold zi at h;rw[Bool.or_eq_true,decide_eq_true_eq] at h;rcases h with h | h
 ·rw[h,Qu];rfl
 ·exact pre_valid h _
theorem zcV:∀ n,upN n emptyS=emptyS
 | 0=>rfl
 |n+1=>by
  unfold upN;rw[Qu];exact zcV n
theorem upN_pkg:∀ n {p:Str},zi p=true->zi (upN n p)=true
 | 0,_,h=>h
 | n+1,_,h=>upN_pkg n (Jg h)
theorem spec_base_eq(hp:zi p=true){n:Nat}(hn:n<=10):Wl p ((n:Int)+1)=some (upN n p,decide (upN n p≠(⟨[]⟩:Str))):=by
 have key:∀ (k i:Nat) (q:Str),zi q=true->i+k=n->∃ r,wy (λ s4=>wZ ((n:Int)+1) s4) (k+1) (q,((i+1:Nat):Int))=some r/\(r=.inl (upN k q)\/(r=.inr ((⟨[]⟩:Str),false)/\upN k q=emptyS)):=by
  intro k
  induction k with
  |zero=>intro i q hq hi;refine⟨.inl q,yq ?_,.inl Z⟩;unfold wZ;simp only;rw[show((n:Int)+1)=((n+1:Nat):Int) by omega,zC,Kf (by simp;omega)]
  |succ k ih=>
   intro i q hq hi;have hlt:cmpI .lss ((i+1:Nat):Int) ((n:Int)+1)=true:=by unfold cmpI;exact decide_eq_true (by omega)
   by_cases he:q=(⟨[]⟩:Str)
   ·refine⟨.inr ((⟨[]⟩:Str),false),yq ?_,.inr ⟨Z,?_⟩⟩
    ·unfold wZ;simp only;rw[Ke hlt,Ke (decide_eq_true he)]
    ·rw[he];exact zcV _
   ·have hs:wZ ((n:Int)+1) (q,((i+1:Nat):Int))=some (.inl (zN q,((i+1+1:Nat):Int))):=by
     unfold wZ;simp only;rw[Ke hlt,Kf (by simpa using he),show xJ q=some (zN q) from Ke (zcn hq),obS,zG (by omega)];rfl
    obtain⟨r,h1,h2⟩:=ih (i+1) (zN q) (Jg hq) (by omega);exact⟨r,by rw[x8 hs];exact h1,h2⟩
 obtain⟨r,h1,h2⟩:=key n 0 p hp (by omega);unfold Wl;rw[show(1:Int)=((0+1:Nat):Int) from Z,jk (by simpa using h1) (by omega)];rcases h2 with rfl | ⟨rfl,h3⟩
 ·rfl
 ·rw[h3];rfl
theorem zau{m:Str}:Yk p lv m=if lv=0 then m else if upN (lv - 1).toNat p=emptyS then emptyS else if m=emptyS then upN (lv - 1).toNat p else child (upN (lv - 1).toNat p) m:=by
 unfold Yk;by_cases h:lv=0
 ·rw[Ke h,Ke (by simp[cmpI,h])]
 ·rw[Kf h,Kf (by simp[cmpI,h])]
theorem zdp{m:Str}(hp:zi p=true)(h0:0<=lv)(h1:lv<=4)(hm:sho m):Yb p lv m=some (Yk p lv m):=by
 rw[zau];unfold Yb;by_cases h:lv=0
 ·rw[Ke h,Ke (by simp[cmpI,h])]
 ·rw[Kf h,Kf (by simp[cmpI,h])];obtain⟨n,hn⟩:∃ n:Nat,lv=(n:Int)+1:=⟨(lv - 1).toNat,by omega⟩;have hu:=upN_pkg n hp;rw[show(lv - 1).toNat=n by omega,hn,spec_base_eq hp (by omega),obS];by_cases he:upN n p=emptyS
  ·rw[Ke he];simp only[he];rfl
  ·rw[Kf he];have he':decide (upN n p≠(⟨[]⟩:Str))=true:=decide_eq_true he;simp only[he'];rw[Kf (by decide)];by_cases hm0:m=emptyS
   ·rw[Ke hm0,Ke (decide_eq_true (show m=(⟨[]⟩:Str) from hm0))]
   ·have hlu:=yf hu;unfold sho at hm;rw[Kf hm0,Kf (by simpa using(show ¬ m=(⟨[]⟩:Str) from hm0)),show jr (upN n p) m=some (child (upN n p) m) from Ke (by omega),obS]
theorem YW(h:zP st=true):((st.kind=0\/st.kind=2)/\zj st.module=true)\/(st.kind=1/\zi st.module=true/\0<=st.level/\st.level<=3)\/(st.kind≠0/\st.kind≠1/\st.kind≠2):=by
 unfold zP at h;by_cases h0:st.kind=0
 ·rw[Ke (by simp[cmpI,h0])] at h;simp only[Bool.and_eq_true] at h;exact .inl ⟨.inl h0,h.1.1.1⟩
 ·rw[Kf (by simp[cmpI,h0])] at h;by_cases h1:st.kind=1
  ·rw[Ke (by simp[cmpI,h1])] at h;simp only[Bool.and_eq_true,inR] at h;have h2:=h.1.1.1.2;simp[cmpI] at h2;exact .inr (.inl ⟨h1,h.1.1.1.1,by omega,by omega⟩)
  ·rw[Kf (by simp[cmpI,h1])] at h;by_cases h2:st.kind=2
   ·rw[Ke (by simp[cmpI,h2])] at h;simp only[Bool.and_eq_true] at h;exact .inl ⟨.inr h2,h.1.1.1⟩
   ·exact .inr (.inr ⟨h0,h1,h2⟩)
theorem zcW(p s:Str):(child p s).l.length<=p.l.length+s.l.length+1:=by
 unfold child;split
 ·omega
 ·simp only[List.length_append,List.length_singleton];omega
theorem stName_sho(hp:zi p=true)(h:zP st=true):sho (stName p st):=by
 unfold stName sho;rcases YW h with⟨h1,h2⟩ | ⟨h1,h2,h3,h4⟩ | ⟨h1,h2,h3⟩
 ·have:=yF h2;rw[Ke (by rcases h1 with h1 | h1 <;> simp[cmpI,h1])];omega
 ·rw[Kf (by simp[cmpI,h1]),Ke (by simp[cmpI,h1]),zau];have h5:=yf h2;have h6:=yf (upN_pkg (st.level - 1).toNat hp);have h7:=zcW (upN (st.level - 1).toNat p) st.module;split
  ·omega
  ·split
   ·exact Nat.zero_le _
   ·split <;> omega
 ·rw[Kf (by simp[cmpI,h1,h3]),Kf (by simp[cmpI,h2])];exact Nat.zero_le _
section
end
section
end
def orE(s:Str):Str:=if zj s=true then s else emptyS
theorem ParentOf_any(h:zi p=true):xl p=some (zN p):=by
 unfold zi at h;rw[Bool.or_eq_true,decide_eq_true_eq] at h;rcases h with h | h
 ·rw[h,Qu];unfold xl;rcases zcm emptyS 46 (by decide) with⟨pre,post,e1,_,_⟩ | ⟨_,e3⟩
  ·have:=congrArg List.length e1;simp[emptyS] at this
  ·rw[show zS emptyS (UInt8.ofNat 46)=some (-1) from e3,obS,wl (show sho emptyS from Nat.zero_le _),obS];rfl
 ·exact Jw h
theorem resolve_loop(hp:zi p=true){n:Nat}(hn:n<=10):zE (λ s17=>yw s17) (p,(n:Int)+1)=some (upN n p):=by
 have key:∀ (k:Nat) (q:Str),k<=10->zi q=true->wy (λ s17=>yw s17) (k+1) (q,((k:Int)+1))=some (upN k q):=by
  intro k
  induction k with
  |zero=>intro q _ hq;refine yq ?_;unfold yw;rw[Kf (by simp[cmpI])];rfl
  |succ k ih=>
   intro q hk hq;have hgt:cmpI .gtr (((k+1:Nat):Int)+1) 1=true:=by unfold cmpI;exact decide_eq_true (by omega)
   by_cases he:q=(⟨[]⟩:Str)
   ·refine yq ?_;unfold yw;simp only;rw[he,Kf (by simp),show upN (k+1) (⟨[]⟩:Str)=emptyS from zcV _];rfl
   ·have hs:yw (q,(((k+1:Nat):Int)+1))=some (.inl (zN q,((k:Int)+1))):=by
     unfold yw;simp only;rw[hgt,Ke (by simpa using he),ParentOf_any hq,obS,show(((k+1:Nat):Int)+1 - 1)=((k:Int)+1) by omega,js (by omega) (by omega)];rfl
    rw[x8 hs];exact ih (zN q) (by omega) (Jg hq)
 exact jk (key n p hn hp) (by omega)
theorem pkg_sho(h:zi p=true):sho p:=by have:=yf h;unfold sho;omega
theorem zdX{m:Str}(hp:zi p=true)(hm:zi m=true)(h0:0<=lv)(h1:lv<=3):jN p lv m=some (orE (Yk p lv m)):=by
 rw[zau];unfold jN;have hw:yb lv 0 4=some true:=by
  unfold yb cmpI;simp only[ge_iff_le];rw[decide_eq_true h0,decide_eq_true (show lv<=4 by omega)];rfl
 rw[Yx (pkg_sho hp),obS,Yx (pkg_sho hm),hw,hp,hm];simp only[Bool.not_true,beq_self_eq_true,qt,obS,Bool.or_self,Bool.false_eq_true,if_false];unfold orE;by_cases h:lv=0
 ·rw[Ke h,Ke (by simp[cmpI,h])];unfold zi at hm;rw[Bool.or_eq_true,decide_eq_true_eq] at hm;rcases hm with hm | hm
  ·rw[hm,ZM];rfl
  ·rw[Ke hm]
 ·rw[Kf h,Kf (by simp[cmpI,h])];obtain⟨n,hn⟩:∃ n:Nat,lv=(n:Int)+1:=⟨(lv - 1).toNat,by omega⟩;have hu:=upN_pkg n hp;have hul:=yf hu;have hml:=yf hm;rw[show(lv - 1).toNat=n by omega,hn,resolve_loop hp (by omega),obS];by_cases he:upN n p=emptyS
  ·rw[Ke he,Ke (decide_eq_true (show upN n p=(⟨[]⟩:Str) from he)),ZM];rfl
  ·rw[Kf he,Kf (by simpa using(show ¬ upN n p=(⟨[]⟩:Str) from he))];have hend:∀ q:Str,sho q->((ya q).bind λ v44=>if(!v44)=true then(some (⟨[]⟩:Str)) else(some q))=some (if zj q=true then q else emptyS):=λ q hq=>by
    rw[wl hq,obS];cases zj q <;> rfl
   by_cases hm0:m=emptyS
   ·rw[Ke hm0,Kf (by simpa using(show m=(⟨[]⟩:Str) from hm0)),obS];exact hend _ (pkg_sho hu)
   ·rw[Kf hm0,Ke (by simpa using(show ¬ m=(⟨[]⟩:Str) from hm0)),Qs (by simp;omega),obS,Qs (by simp;omega),obS,obS];have e:(⟨(upN n p).l++([46]++m.l)⟩:Str)=child (upN n p) m:=by
     unfold child;rw[Kf he];simp
    simp only[e];refine hend _ ?_;have:=zcW (upN n p) m;unfold sho;omega
section
end
end Go.Proofs.YtandbaloaenciaaGreatDoor
