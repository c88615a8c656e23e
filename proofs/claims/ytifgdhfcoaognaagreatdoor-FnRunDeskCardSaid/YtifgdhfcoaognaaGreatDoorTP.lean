import Derived.Test.YtifgdhfcoaognaaGreatDoorTI
import Derived.Test.YtifgdhfcoaognaaGreatDoorTJ
import Derived.Test.YtifgdhfcoaognaaGreatDoorTN
namespace Go.Proofs.YtifgdhfcoaognaaGreatDoor
open Go.RowKit
variable{lv:Int}{path:List Int}{l:List Str}{post pre:List UInt8}{st:Stmt}{m p s:Str}{t:Tree}
theorem zcw(s:Str)(c:UInt8)(hs:s.l.length<=1000000):(∃ pre post,s.l=pre++c::post/\c ∉ post/\zY s c=some (pre.length:Int))\/(c ∉ s.l/\zY s c=some (-1)):=by
 have key:∀ k,k<=s.l.length->c ∉ s.l.drop k->∃ r,qb (λ s6=>z8 s c s6) (k+1) ((k:Int) - 1)=some r/\((∃ pre post,s.l=pre++c::post/\c ∉ post/\r=.inr (pre.length:Int))\/(c ∉ s.l/\r=.inl ())):=by
  intro k
  induction k with
  |zero=>intro _ hc;refine⟨.inl (),xS ?_,.inr ⟨by simpa using hc,Z⟩⟩;unfold z8;rw[Kf (by simp[cmpI])]
  |succ k ih=>
   intro hk hc;have hb:s.l[k]?=some s.l[k]:=List.getElem?_eq_getElem (by omega);have hd:s.l.drop k=s.l[k]::s.l.drop (k+1):=List.drop_eq_getElem_cons (by omega);have e1:((k+1:Nat):Int) - 1=(k:Int):=by omega
   rw[e1];by_cases h:s.l[k]=c
   ·refine⟨.inr (k:Int),xS ?_,.inl ⟨s.l.take k,s.l.drop (k+1),?_,hc,by simp;omega⟩⟩
    ·unfold z8;rw[Ke (by simp[cmpI]),zL,hb,Kd,Ke (by simp[cmpB,h])]
    ·rw[← h,← hd,List.take_append_drop]
   ·have hs1:z8 s c (k:Int)=some (.inl ((k:Int) - 1)):=by
     unfold z8;rw[Ke (by simp[cmpI]),zL,hb,Kd,Kf (by simp[cmpB,h]),xx (by omega) (by omega),Kd]
    rw[ZR hs1];exact ih (by omega) (by rw[hd];simp only[List.mem_cons,not_or];exact⟨λ e=>h e.symm,hc⟩)
 obtain⟨r,h1,h2⟩:=key s.l.length (Nat.le_refl _) (by simp);have hl:zY s c=Option.bind (some r) (Sum.elim (λ _=>some (-1)) some):=by
  unfold zY yN;rw[xx (by omega) (by omega),Kd,Yg h1 (by omega)];cases r <;> rfl
 rcases h2 with⟨pre,post,e1,e2,rfl⟩ | ⟨e1,rfl⟩
 ·exact .inl ⟨pre,post,e1,e2,hl⟩
 ·exact .inr ⟨e1,hl⟩
theorem zez(h:s.l=pre++46::post)(hp:(46:UInt8) ∉ post):zi s dot=zi ⟨pre⟩ dot++[⟨post⟩]:=by
 have e:s=⟨((⟨pre⟩:Str).l++[46])++(⟨post⟩:Str).l⟩:=by
  cases s;simp only at h ⊢;rw[h];simp
 have e2:zi ⟨post⟩ dot=[⟨post⟩]:=by
  rw[yI];show(cutF 46 post).map Str.mk=_;rw[zam 46 post hp];rfl
 rw[e,Qq,e2]
theorem split_none(h:(46:UInt8) ∉ s.l):zi s dot=[s]:=by
 rw[yI];show(cutF 46 s.l).map Str.mk=_;rw[zam 46 s.l h];rfl
theorem zde(h:s.l=pre++46::post)(hp:(46:UInt8) ∉ post):zM s=⟨pre⟩/\ji s=⟨post⟩:=by
 unfold zM ji;rw[zez h hp];constructor
 ·rw[List.length_append,List.length_singleton,Nat.add_sub_cancel,List.take_left];exact Qo ⟨pre⟩
 ·simp
theorem Jl(h:(46:UInt8) ∉ s.l):zM s=emptyS/\ji s=s:=by
 unfold zM ji;rw[split_none h];exact⟨Z,Z⟩
theorem Jm(hv:zf s=true):xK s=some (zM s):=by
 have hl:=yu hv;unfold xK;rcases zcw s 46 (by omega) with⟨pre,post,e1,e2,e3⟩ | ⟨e1,e3⟩
 ·rw[show zY s (UInt8.ofNat 46)=some (pre.length:Int) from e3,Kd,xu (wk hv),Kd,hv,Kf (by simp[cmpI]),Xd (by rw[e1,List.length_append];omega),Kd,(zde e1 e2).1,e1,List.take_left]
 ·rw[show zY s (UInt8.ofNat 46)=some (-1) from e3,Kd,xu (wk hv),Kd,hv,Ke (by simp[cmpI]),(Jl e1).1];rfl
theorem LastOf_eq(hv:zf s=true):jH s=some (ji s):=by
 have hl:=yu hv;unfold jH;rw[xu (wk hv),Kd,hv,Kf (by decide)];rcases zcw s 46 (by omega) with⟨pre,post,e1,e2,e3⟩ | ⟨e1,e3⟩
 ·have hlen:pre.length+1<=s.l.length:=by rw[e1,List.length_append,List.length_cons];omega
  rw[show zY s (UInt8.ofNat 46)=some (pre.length:Int) from e3,Kd,zS (by omega),Kd,WC hlen,Kd,(zde e1 e2).2,e1]
  congr 2
  rw[show pre++46::post=(pre++[46])++post by simp,List.drop_left' (by simp)]
 ·rw[show zY s (UInt8.ofNat 46)=some (-1) from e3,Kd,show((-1:Int)+1)=((0:Nat):Int) from Z,xx (by omega) (by omega),Kd,WC (by omega),Kd,(Jl e1).2];rfl
theorem name_of(hv:zf s=true):s=child (zM s) (ji s):=by
 have hl:=yu hv;rcases zcw s 46 (by omega) with⟨pre,post,e1,e2,_⟩ | ⟨e1,_⟩
 ·obtain⟨h1,h2⟩:=zde e1 e2;rw[h1,h2];unfold child;by_cases he:(⟨pre⟩:Str)=emptyS
  ·have hpre:pre=[]:=by injection he
   subst hpre;have hs:=zez e1 e2;have h3:=(xd hv).1 ⟨[]⟩ (by rw[hs];exact List.mem_append_left _ (by decide));exact absurd (XZ h3).1 (by simp)
  ·rw[Kf he];cases s;simp only at e1;rw[e1];simp
 ·obtain⟨h1,h2⟩:=Jl e1;rw[h1,h2];rfl
section
variable{α:Type}[DecidableEq α]
def addU(out:List α)(x:α):List α:=if x∈out then out else out++[x]
def addAll(out l:List α):List α:=l.foldl addU out
def uniq(l:List α):List α:=addAll [] l
theorem nodupLen:∀ {l m:List α},l.Nodup->(∀ x∈l,x∈m)->l.length<=m.length
 | [],_,_,_=>Nat.zero_le _
 |x::l,m,hn,hs=>by
  rw[List.nodup_cons] at hn;have hx:=hs x (List.mem_cons_self ..);have h1:=nodupLen (l:=l) (m:=m.erase x) hn.2 λ y hy=>(List.mem_erase_of_ne (by intro e;subst e;exact hn.1 hy)).2 (hs y (List.mem_cons_of_mem _ hy))
  have h2:=List.length_erase_of_mem hx;have h3:=List.length_pos_of_mem hx;rw[List.length_cons];omega
inductive Way (E:α->List α) (l:List α):α->Prop
 | here {x}:x∈l->Way E l x
 | step {x y}:Way E l x->y∈E x->Way E l y
omit [DecidableEq α] in
theorem Way.mono{E:α->List α}{l m:List α}(h:∀ x∈l,Way E m x){x:α}(hw:Way E l x):Way E m x:=by
 induction hw with
 | here hx=>exact h _ hx
 | step _ hy ih=>exact .step ih hy
end
def upN:Nat->Str->Str
 | 0,p=>p
 | n+1,p=>upN n (zM p)
def Yh(p:Str)(lv:Int)(m:Str):Str:=if cmpI .eql lv 0=true then m else if upN (lv - 1).toNat p=emptyS then emptyS else if m=emptyS then upN (lv - 1).toNat p else child (upN (lv - 1).toNat p) m
def stName(p:Str)(s:Stmt):Str:=if(cmpI .eql s.kind 0||cmpI .eql s.kind 2)=true then s.module else if cmpI .eql s.kind 1=true then Yh p s.level s.module else emptyS
def JF(t:List File)(k:Int):File:=(t[k.toNat]?).getD default
theorem idxOf_some{α:Type}{p:α->Bool}{l:List α}(h:cmpI .lss (xU p l) 0=false):∃ x,l[(xU p l).toNat]?=some x/\p x=true:=by
 unfold xU at h ⊢;cases e:l.findIdx? p with
 | none=>rw[e] at h;exact absurd h (by decide)
 |some i=>rw[List.findIdx?_eq_some_iff_getElem] at e;obtain⟨hi,h1,_⟩:=e;exact⟨l[i],by simp only[Int.toNat_natCast];exact List.getElem?_eq_getElem hi,h1⟩
theorem lss_geq(n:Int):cmpI .geq n 0=!cmpI .lss n 0:=by
 unfold cmpI;by_cases h:n<0
 ·have:¬ n>=0:=by omega
  simp[h,this]
 ·have:n>=0:=by omega
  simp[h,this]
theorem W7(hv:zB t=true){f:File}(hf:f∈t.files):jr f.body=true:=by
 have h:=j6 hv hf;unfold yC at h;cases hb:jr f.body with
 | true=>rfl
 | false=>rw[hb,Ke (by simp)] at h;cases h
def okG(t:Tree)(path:List Int)(s:Str):Bool:=zB t&&yk path&&zf s
theorem zar(h:okG t path s=true):zB t=true/\yk path=true/\zf s=true:=by
 unfold okG at h;simp only[Bool.and_eq_true] at h;exact⟨h.1.1,h.1.2,h.2⟩
section
end
section
end
theorem any_mem'{x:Str}:l.any (λ y=>decide (x=y))=decide (x∈l):=by
 rw[Bool.eq_iff_iff,List.any_eq_true];simp
theorem ContainsS_eq{x:Str}(h:l.length<=1048576):yw l x=some (decide (x∈l)):=by
 unfold yw wl;have hl:zP (λ s4=>yV l x s4) 0=some (match l.findIdx? (λ y=>decide (x=y)) with | some i=>(Sum.inr (i:Int):Unit⊕Int) | none=>Sum.inl ()):=by
  refine J0 l (λ y=>decide (x=y)) (λ i=>Sum.inr i) _ (λ k y hx hlt=>?_) ?_ (by omega) Z
  ·unfold yV;rw[zI,Ke (decide_eq_true hlt),zL,hx,Kd,zS (by omega)];cases decide (x=y) <;> rfl
  ·unfold yV;rw[zI,Kf (by simp)]
 have e:Option.bind (α:=Unit⊕Int) (zP (λ s4=>yV l x s4) 0) (Sum.elim (λ _=>some (-1)) some)=some (xU (λ y=>decide (x=y)) l):=by
  rw[hl];unfold xU;cases l.findIdx? (λ y=>decide (x=y)) <;> rfl
 rw[e,Kd,J1,any_mem']
theorem zcx(h:zx p=true):mid p:=by have:=xT h;unfold mid;omega
theorem Qs:zM emptyS=emptyS:=by
 have:(46:UInt8) ∉ emptyS.l:=by decide
 exact(Jl this).1
theorem W8(h:zx p=true):zx (zM p)=true:=by
 unfold zx at h;rw[Bool.or_eq_true,decide_eq_true_eq] at h;rcases h with h | h
 ·rw[h,Qs];rfl
 ·exact pre_valid h _
theorem zdf:∀ n,upN n emptyS=emptyS
 | 0=>rfl
 |n+1=>by
  unfold upN;rw[Qs];exact zdf n
theorem upN_pkg:∀ n {p:Str},zx p=true->zx (upN n p)=true
 | 0,_,h=>h
 | n+1,_,h=>upN_pkg n (W8 h)
theorem spec_base_eq(hp:zx p=true){n:Nat}(hn:n<=10):X8 p ((n:Int)+1)=some (upN n p,decide (upN n p≠(⟨[]⟩:Str))):=by
 have key:∀ (k i:Nat) (q:Str),zx q=true->i+k=n->∃ r,qb (λ s4=>jk ((n:Int)+1) s4) (k+1) (q,((i+1:Nat):Int))=some r/\(r=.inl (upN k q)\/(r=.inr ((⟨[]⟩:Str),false)/\upN k q=emptyS)):=by
  intro k
  induction k with
  |zero=>intro i q hq hi;refine⟨.inl q,xS ?_,.inl Z⟩;unfold jk;simp only;rw[show((n:Int)+1)=((n+1:Nat):Int) by omega,zI,Kf (by simp;omega)]
  |succ k ih=>
   intro i q hq hi;have hlt:cmpI .lss ((i+1:Nat):Int) ((n:Int)+1)=true:=by unfold cmpI;exact decide_eq_true (by omega)
   by_cases he:q=(⟨[]⟩:Str)
   ·refine⟨.inr ((⟨[]⟩:Str),false),xS ?_,.inr ⟨Z,?_⟩⟩
    ·unfold jk;simp only;rw[Ke hlt,Ke (decide_eq_true he)]
    ·rw[he];exact zdf _
   ·have hs:jk ((n:Int)+1) (q,((i+1:Nat):Int))=some (.inl (zM q,((i+1+1:Nat):Int))):=by
     unfold jk;simp only;rw[Ke hlt,Kf (by simpa using he),show xi q=some (zM q) from Ke (zcx hq),Kd,zS (by omega)];rfl
    obtain⟨r,h1,h2⟩:=ih (i+1) (zM q) (W8 hq) (by omega);exact⟨r,by rw[ZR hs];exact h1,h2⟩
 obtain⟨r,h1,h2⟩:=key n 0 p hp (by omega);unfold X8;rw[show(1:Int)=((0+1:Nat):Int) from Z,Yg (by simpa using h1) (by omega)];rcases h2 with rfl | ⟨rfl,h3⟩
 ·rfl
 ·rw[h3];rfl
theorem zas:Yh p lv m=if lv=0 then m else if upN (lv - 1).toNat p=emptyS then emptyS else if m=emptyS then upN (lv - 1).toNat p else child (upN (lv - 1).toNat p) m:=by
 unfold Yh;by_cases h:lv=0
 ·rw[Ke h,Ke (by simp[cmpI,h])]
 ·rw[Kf h,Kf (by simp[cmpI,h])]
theorem zd8(hp:zx p=true)(h0:0<=lv)(h1:lv<=4)(hm:sho m):Ye p lv m=some (Yh p lv m):=by
 rw[zas];unfold Ye;by_cases h:lv=0
 ·rw[Ke h,Ke (by simp[cmpI,h])]
 ·rw[Kf h,Kf (by simp[cmpI,h])];obtain⟨n,hn⟩:∃ n:Nat,lv=(n:Int)+1:=⟨(lv - 1).toNat,by omega⟩;have hu:=upN_pkg n hp;rw[show(lv - 1).toNat=n by omega,hn,spec_base_eq hp (by omega),Kd];by_cases he:upN n p=emptyS
  ·rw[Ke he];simp only[he];rfl
  ·rw[Kf he];have he':decide (upN n p≠(⟨[]⟩:Str))=true:=decide_eq_true he;simp only[he'];rw[Kf (by decide)];by_cases hm0:m=emptyS
   ·rw[Ke hm0,Ke (decide_eq_true (show m=(⟨[]⟩:Str) from hm0))]
   ·have hlu:=xT hu;unfold sho at hm;rw[Kf hm0,Kf (by simpa using(show ¬ m=(⟨[]⟩:Str) from hm0)),show Zs (upN n p) m=some (child (upN n p) m) from Ke (by omega),Kd]
theorem YW(h:zX st=true):((st.kind=0\/st.kind=2)/\zf st.module=true)\/(st.kind=1/\zx st.module=true/\0<=st.level/\st.level<=3)\/(st.kind≠0/\st.kind≠1/\st.kind≠2):=by
 unfold zX at h;by_cases h0:st.kind=0
 ·rw[Ke (by simp[cmpI,h0])] at h;simp only[Bool.and_eq_true] at h;exact .inl ⟨.inl h0,h.1.1.1⟩
 ·rw[Kf (by simp[cmpI,h0])] at h;by_cases h1:st.kind=1
  ·rw[Ke (by simp[cmpI,h1])] at h;simp only[Bool.and_eq_true,inR] at h;have h2:=h.1.1.1.2;simp[cmpI] at h2;exact .inr (.inl ⟨h1,h.1.1.1.1,by omega,by omega⟩)
  ·rw[Kf (by simp[cmpI,h1])] at h;by_cases h2:st.kind=2
   ·rw[Ke (by simp[cmpI,h2])] at h;simp only[Bool.and_eq_true] at h;exact .inl ⟨.inr h2,h.1.1.1⟩
   ·exact .inr (.inr ⟨h0,h1,h2⟩)
theorem zdg(p s:Str):(child p s).l.length<=p.l.length+s.l.length+1:=by
 unfold child;split
 ·omega
 ·simp only[List.length_append,List.length_singleton];omega
theorem stName_sho(hp:zx p=true)(h:zX st=true):sho (stName p st):=by
 unfold stName sho;rcases YW h with⟨h1,h2⟩ | ⟨h1,h2,h3,h4⟩ | ⟨h1,h2,h3⟩
 ·have:=yu h2;rw[Ke (by rcases h1 with h1 | h1 <;> simp[cmpI,h1])];omega
 ·rw[Kf (by simp[cmpI,h1]),Ke (by simp[cmpI,h1]),zas];have h5:=xT h2;have h6:=xT (upN_pkg (st.level - 1).toNat hp);have h7:=zdg (upN (st.level - 1).toNat p) st.module;split
  ·omega
  ·split
   ·exact Nat.zero_le _
   ·split <;> omega
 ·rw[Kf (by simp[cmpI,h1,h3]),Kf (by simp[cmpI,h2])];exact Nat.zero_le _
section
end
section
theorem okG_cases(t:Tree)(path:List Int)(s:Str){α:Type}[Inhabited α]{b:α}{K:Option α}(ht:xw t)(hn:sho s){r:α}(h0:okG t path s=false->r=b)(h1:okG t path s=true->K=some r):((xP t).bind λ v2=>(gO ((!v2) == false) (xh path)).bind λ v3=>(gO (((!v2)||(!v3)) == false) (yL s)).bind λ v4=>if(((!v2)||(!v3))||(!v4))=true then(some b) else K)=some r:=by
 rw[show xP t=some (zB t) from Ke ht,Kd,show xh path=some (yk path) from Ke trivial,show yL s=some (zf s) from Ke hn.mid];cases hv:zB t with
 | false=>rw[h0 (by unfold okG;rw[hv];rfl)];rfl
 |true=>
  cases hp:yk path with
  | false=>rw[h0 (by unfold okG;rw[hv,hp];rfl)];rfl
  |true=>
   cases hs:zf s with
   | false=>rw[h0 (by unfold okG;rw[hv,hp,hs];rfl)];rfl
   | true=>exact h1 (by unfold okG;rw[hv,hp,hs];rfl)
end
def orE(s:Str):Str:=if zf s=true then s else emptyS
theorem ParentOf_any(h:zx p=true):xK p=some (zM p):=by
 unfold zx at h;rw[Bool.or_eq_true,decide_eq_true_eq] at h;rcases h with h | h
 ·rw[h,Qs];unfold xK;rcases zcw emptyS 46 (by decide) with⟨pre,post,e1,_,_⟩ | ⟨_,e3⟩
  ·have:=congrArg List.length e1;simp[emptyS] at this
  ·rw[show zY emptyS (UInt8.ofNat 46)=some (-1) from e3,Kd,xu (show sho emptyS from Nat.zero_le _),Kd];rfl
 ·exact Jm h
theorem resolve_loop(hp:zx p=true){n:Nat}(hn:n<=10):zP (λ s17=>yH s17) (p,(n:Int)+1)=some (upN n p):=by
 have key:∀ (k:Nat) (q:Str),k<=10->zx q=true->qb (λ s17=>yH s17) (k+1) (q,((k:Int)+1))=some (upN k q):=by
  intro k
  induction k with
  |zero=>intro q _ hq;refine xS ?_;unfold yH;rw[Kf (by simp[cmpI])];rfl
  |succ k ih=>
   intro q hk hq;have hgt:cmpI .gtr (((k+1:Nat):Int)+1) 1=true:=by unfold cmpI;exact decide_eq_true (by omega)
   by_cases he:q=(⟨[]⟩:Str)
   ·refine xS ?_;unfold yH;simp only;rw[he,Kf (by simp),show upN (k+1) (⟨[]⟩:Str)=emptyS from zdf _];rfl
   ·have hs:yH (q,(((k+1:Nat):Int)+1))=some (.inl (zM q,((k:Int)+1))):=by
     unfold yH;simp only;rw[hgt,Ke (by simpa using he),ParentOf_any hq,Kd,show(((k+1:Nat):Int)+1 - 1)=((k:Int)+1) by omega,xx (by omega) (by omega)];rfl
    rw[ZR hs];exact ih (zM q) (by omega) (W8 hq)
 exact Yg (key n p hn hp) (by omega)
theorem pkg_sho(h:zx p=true):sho p:=by have:=xT h;unfold sho;omega
theorem zeA(hp:zx p=true)(hm:zx m=true)(h0:0<=lv)(h1:lv<=3):jW p lv m=some (orE (Yh p lv m)):=by
 rw[zas];unfold jW;have hw:xe lv 0 4=some true:=by
  unfold xe cmpI;simp only[ge_iff_le];rw[decide_eq_true h0,decide_eq_true (show lv<=4 by omega)];rfl
 rw[XB (pkg_sho hp),Kd,XB (pkg_sho hm),hw,hp,hm];simp only[Bool.not_true,beq_self_eq_true,q6,Kd,Bool.or_self,Bool.false_eq_true,if_false];unfold orE;by_cases h:lv=0
 ·rw[Ke h,Ke (by simp[cmpI,h])];unfold zx at hm;rw[Bool.or_eq_true,decide_eq_true_eq] at hm;rcases hm with hm | hm
  ·rw[hm,qq];rfl
  ·rw[Ke hm]
 ·rw[Kf h,Kf (by simp[cmpI,h])];obtain⟨n,hn⟩:∃ n:Nat,lv=(n:Int)+1:=⟨(lv - 1).toNat,by omega⟩;have hu:=upN_pkg n hp;have hul:=xT hu;have hml:=xT hm;rw[show(lv - 1).toNat=n by omega,hn,resolve_loop hp (by omega),Kd];by_cases he:upN n p=emptyS
  ·rw[Ke he,Ke (decide_eq_true (show upN n p=(⟨[]⟩:Str) from he)),qq];rfl
  ·rw[Kf he,Kf (by simpa using(show ¬ upN n p=(⟨[]⟩:Str) from he))];have hend:∀ q:Str,sho q->((z7 q).bind λ v44=>if(!v44)=true then(some (⟨[]⟩:Str)) else(some q))=some (if zf q=true then q else emptyS):=λ q hq=>by
    rw[xu hq,Kd];cases zf q <;> rfl
   by_cases hm0:m=emptyS
   ·rw[Ke hm0,Kf (by simpa using(show m=(⟨[]⟩:Str) from hm0)),Kd];exact hend _ (pkg_sho hu)
   ·rw[Kf hm0,Ke (by simpa using(show ¬ m=(⟨[]⟩:Str) from hm0)),zR (by simp;omega),Kd,zR (by simp;omega),Kd,Kd];have e:(⟨(upN n p).l++([46]++m.l)⟩:Str)=child (upN n p) m:=by
     unfold child;rw[Kf he];simp
    simp only[e];refine hend _ ?_;have:=zdg (upN n p) m;unfold sho;omega
section
end
end Go.Proofs.YtifgdhfcoaognaaGreatDoor
