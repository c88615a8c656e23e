import Derived.Test.YtobplpdjkfbfoaaGreatDoorRI
import Derived.Test.YtobplpdjkfbfoaaGreatDoorRK
import Derived.Test.YtobplpdjkfbfoaaGreatDoorRKb
namespace Go.Proofs.YtobplpdjkfbfoaaGreatDoor
open Go.RowKit
theorem lastByte(s:Str)(c:UInt8)(hs:s.l.length<=1000000):(∃ pre post,s.l=pre++c::post/\c ∉ post/\zN s c=some (pre.length:Int))\/(c ∉ s.l/\zN s c=some (-1)):=by
 have key:∀ k,k<=s.l.length->c ∉ s.l.drop k->∃ r,wi (λ s6=>zE s c s6) (k+1) ((k:Int) - 1)=some r/\((∃ pre post,s.l=pre++c::post/\c ∉ post/\r=.inr (pre.length:Int))\/(c ∉ s.l/\r=.inl ())):=by
  intro k
  induction k with
  |
   zero=>
   intro _ hc;refine⟨.inl (),yf ?_,.inr ⟨by simpa using hc,rfl⟩⟩;unfold zE;rw[if_neg (by simp[cmpI])]
  |
   succ k ih=>
   intro hk hc;have hb:s.l[k]?=some s.l[k]:=List.getElem?_eq_getElem (by omega);have hd:s.l.drop k=s.l[k]::s.l.drop (k+1):=List.drop_eq_getElem_cons (by omega);have e1:((k+1:Nat):Int) - 1=(k:Int):=by omega
   rw[e1];by_cases h:s.l[k]=c
   ·
    refine⟨.inr (k:Int),yf ?_,.inl ⟨s.l.take k,s.l.drop (k+1),?_,hc,by simp;omega⟩⟩
    ·
     unfold zE;rw[if_pos (by simp[cmpI]),zR,hb,obS,if_pos (by simp[cmpB,h])]
    ·
     rw[← h,← hd,List.take_append_drop]
   ·
    have hs1:zE s c (k:Int)=some (.inl ((k:Int) - 1)):=by
     unfold zE;rw[if_pos (by simp[cmpI]),zR,hb,obS,if_neg (by simp[cmpB,h]),Xp (by omega) (by omega),obS]
    rw[wc hs1];exact ih (by omega) (by rw[hd];simp only[List.mem_cons,not_or];exact⟨λ e=>h e.symm,hc⟩)
 obtain⟨r,h1,h2⟩:=key s.l.length (Nat.le_refl _) (by simp);have hl:zN s c=Option.bind (some r) (Sum.elim (λ _=>some (-1)) some):=by
  unfold zN yb;rw[Xp (by omega) (by omega),obS,wm h1 (by omega)];cases r <;> rfl
 rcases h2 with⟨pre,post,e1,e2,rfl⟩ | ⟨e1,rfl⟩
 ·
  exact .inl ⟨pre,post,e1,e2,hl⟩
 ·
  exact .inr ⟨e1,hl⟩
theorem split_last{s:Str}{pre post:List UInt8}(h:s.l=pre++46::post)(hp:(46:UInt8) ∉ post):zl s dot=zl ⟨pre⟩ dot++[⟨post⟩]:=by
 have e:s=⟨((⟨pre⟩:Str).l++[46])++(⟨post⟩:Str).l⟩:=by
  cases s;simp only at h ⊢;rw[h];simp
 have e2:zl ⟨post⟩ dot=[⟨post⟩]:=by
  rw[jG];show(cutF 46 post).map Str.mk=_;rw[QU 46 post hp];rfl
 rw[e,split_append,e2]
theorem split_none{s:Str}(h:(46:UInt8) ∉ s.l):zl s dot=[s]:=by
 rw[jG];show(cutF 46 s.l).map Str.mk=_;rw[QU 46 s.l h];rfl
theorem parent_of{s:Str}{pre post:List UInt8}(h:s.l=pre++46::post)(hp:(46:UInt8) ∉ post):zA s=⟨pre⟩/\Xe s=⟨post⟩:=by
 unfold zA Xe;rw[split_last h hp];constructor
 ·
  rw[List.length_append,List.length_singleton,Nat.add_sub_cancel,List.take_left];exact Z6 ⟨pre⟩
 ·
  simp
theorem Jd{s:Str}(h:(46:UInt8) ∉ s.l):zA s=emptyS/\Xe s=s:=by
 unfold zA Xe;rw[split_none h];exact⟨rfl,rfl⟩
theorem XF{s:Str}(hv:zg s=true):yL s=some (zA s):=by
 have hl:=jM hv;unfold yL;rcases lastByte s 46 (by omega) with⟨pre,post,e1,e2,e3⟩ | ⟨e1,e3⟩
 ·
  rw[show zN s (UInt8.ofNat 46)=some (pre.length:Int) from e3,obS,xE (yO hv),obS,hv,if_neg (by simp[cmpI]),zan (by rw[e1,List.length_append];omega),obS,(parent_of e1 e2).1,e1,List.take_left]
 ·
  rw[show zN s (UInt8.ofNat 46)=some (-1) from e3,obS,xE (yO hv),obS,hv,if_pos (by simp[cmpI]),(Jd e1).1];rfl
open Go.RowKit
theorem asc_nodup{l:List Str}(h:Asc l):l.Nodup:=List.Pairwise.imp (S:=λ a b=>a≠b) (λ{a b} hlt e=>by subst e;exact List.lt_irrefl _ hlt) h
open Go.RowKit
section
variable{α:Type}[DecidableEq α]
def addU(out:List α)(x:α):List α:=if x∈out then out else out++[x]
def xv(out l:List α):List α:=l.foldl addU out
theorem addU_mem{out:List α}{x y:α}:y∈addU out x ↔ y∈out\/y=x:=by
 unfold addU;split
 ·
  rename_i h;constructor
  ·
   exact Or.inl
  ·
   rintro (h1 | rfl)
   ·
    exact h1
   ·
    exact h
 ·
  rw[List.mem_append,List.mem_singleton]
theorem qq:∀ {l out:List α} {y:α},y∈xv out l ↔ y∈out\/y∈l
 | [],out,y=>by simp[xv]
 |
  x::l,out,y=>by
  show y∈xv (addU out x) l ↔ _;rw[qq,addU_mem,List.mem_cons,or_assoc]
theorem addU_nodup{out:List α}{x:α}(h:out.Nodup):(addU out x).Nodup:=by
 unfold addU;split
 ·
  exact h
 ·
  rename_i hx;rw[List.nodup_append];refine⟨h,by simp,?_⟩;intro a ha b hb e;rw[List.mem_singleton] at hb;subst hb;subst e;exact hx ha
theorem ZP:∀ {l out:List α},out.Nodup->(xv out l).Nodup
 | [],_,h=>h
 | x::l,out,h=>ZP (l:=l) (out:=addU out x) (addU_nodup h)
theorem addU_pre(out:List α)(x:α):∃ t,addU out x=out++t:=by
 unfold addU;split
 ·
  exact⟨[],by simp⟩
 ·
  exact⟨[x],rfl⟩
theorem Qd:∀ (l out:List α),∃ t,xv out l=out++t
 | [],out=>⟨[],by simp[xv]⟩
 |
  x::l,out=>by
  obtain⟨t,ht⟩:=addU_pre out x;obtain⟨u,hu⟩:=Qd l (addU out x);exact⟨t++u,by show xv (addU out x) l=_;rw[hu,ht,List.append_assoc]⟩
theorem zbu(out l m:List α):xv out (l++m)=xv (xv out l) m:=by
 unfold xv;rw[List.foldl_append]
theorem zaS:∀ (l out:List α),(out++l).Nodup->xv out l=out++l
 | [],out,_=>by simp[xv]
 |
  x::l,out,h=>by
  show xv (addU out x) l=_;have hx:x ∉ out:=by
   rw[List.nodup_append] at h;exact λ hx=>h.2.2 x hx x (List.mem_cons_self ..) rfl
  rw[show addU out x=out++[x] from if_neg hx,zaS l (out++[x]) (by simpa using h)];simp
theorem zbv{l:List α}(h:l.Nodup):xv [] l=l:=by rw[zaS l [] (by simpa using h)];rfl
def uniq(l:List α):List α:=xv [] l
theorem uniq_app{out l:List α}(h:out.Nodup):uniq (out++l)=xv out l:=by
 unfold uniq;rw[zbu,zbv h]
theorem Qe(l:List α):(uniq l).Nodup:=ZP List.Pairwise.nil
theorem Wa{l:List α}{x:α}:x∈uniq l ↔ x∈l:=by unfold uniq;rw[qq];simp
theorem addU_len(out:List α)(x:α):(addU out x).length<=out.length+1:=by
 unfold addU;split
 ·
  omega
 ·
  simp
theorem Qf:∀ (l out:List α),(xv out l).length<=out.length+l.length
 | [],out=>by simp[xv]
 |
  x::l,out=>by
  have h1:=Qf l (addU out x);have h2:=addU_len out x;show(xv (addU out x) l).length<=_;rw[List.length_cons];omega
theorem uniq_len(l:List α):(uniq l).length<=l.length:=by
 have:=Qf l [];unfold uniq;simpa using this
theorem jj:∀ {l m:List α},l.Nodup->(∀ x∈l,x∈m)->l.length<=m.length
 | [],_,_,_=>Nat.zero_le _
 |
  x::l,m,hn,hs=>by
  rw[List.nodup_cons] at hn;have hx:=hs x (List.mem_cons_self ..);have h1:=jj (l:=l) (m:=m.erase x) hn.2 λ y hy=>(List.mem_erase_of_ne (by intro e;subst e;exact hn.1 hy)).2 (hs y (List.mem_cons_of_mem _ hy))
  have h2:=List.length_erase_of_mem hx;have h3:=List.length_pos_of_mem hx;rw[List.length_cons];omega
def qQ(E:α->List α):Nat->Nat->List α->List α
 | 0,_,out=>out
 |
  m+1,k,out=>match out[k]? with
  | none=>out
  | some x=>qQ E m (k+1) (xv out (E x))
inductive Way (E:α->List α) (l:List α):α->Prop
 | here {x}:x∈l->Way E l x
 | step {x y}:Way E l x->y∈E x->Way E l y
omit [DecidableEq α] in
theorem Way.mono{E:α->List α}{l m:List α}(h:∀ x∈l,Way E m x){x:α}(hw:Way E l x):Way E m x:=by
 induction hw with
 | here hx=>exact h _ hx
 | step _ hy ih=>exact .step ih hy
theorem zbw{E:α->List α}{from_:List α}:∀ (m k:Nat) (out:List α),(∀ x∈out,Way E from_ x)->∀ x∈qQ E m k out,Way E from_ x
 | 0,_,_,h,x,hx=>h x hx
 |
  m+1,k,out,h,x,hx=>by
  unfold qQ at hx;split at hx
  ·
   exact h x hx
  ·
   rename_i y hy;refine zbw m (k+1) _ (λ z hz=>?_) x hx;rcases qq.1 hz with h1 | h1
   ·
    exact h z h1
   ·
    exact .step (h y (List.mem_of_getElem? hy)) h1
theorem Wt{E:α->List α}:∀ (m k:Nat) (out:List α),out.Nodup->(qQ E m k out).Nodup
 | 0,_,_,h=>h
 |
  m+1,k,out,h=>by
  unfold qQ;split
  ·
   exact h
  ·
   exact Wt m (k+1) _ (ZP h)
theorem Qg{E:α->List α}{U:List α}(hE:∀ x∈U,∀ y∈E x,y∈U):∀ (m k:Nat) (out:List α),(∀ x∈out,x∈U)->∀ x∈qQ E m k out,x∈U
 | 0,_,_,h,x,hx=>h x hx
 |
  m+1,k,out,h,x,hx=>by
  unfold qQ at hx;split at hx
  ·
   exact h x hx
  ·
   rename_i y hy;refine Qg hE m (k+1) _ (λ z hz=>?_) x hx;rcases qq.1 hz with h1 | h1
   ·
    exact h z h1
   ·
    exact hE y (h y (List.mem_of_getElem? hy)) z h1
theorem JM{E:α->List α}{U:List α}(hE:∀ x∈U,∀ y∈E x,y∈U):∀ (m k:Nat) (out:List α),out.Nodup->(∀ x∈out,x∈U)->U.length<=m+k->(∀ j x,j<k->out[j]?=some x->∀ y∈E x,y∈out)->∀ x∈qQ E m k out,∀ y∈E x,y∈qQ E m k out
 |
  0,k,out,hn,hs,hm,hc,x,hx,y,hy=>by
  have hl:=jj hn hs;obtain⟨j,hj,e⟩:=List.getElem_of_mem (show x∈out from hx);exact hc j x (by omega) (by rw[List.getElem?_eq_getElem hj,e]) y hy
 |
  m+1,k,out,hn,hs,hm,hc,x,hx,y,hy=>by
  have hl:=jj hn hs;unfold qQ at hx ⊢;split at hx
  ·
   rename_i hk;rw[List.getElem?_eq_none_iff] at hk;obtain⟨j,hj,e⟩:=List.getElem_of_mem hx;exact hc j x (by omega) (by rw[List.getElem?_eq_getElem hj,e]) y hy
  ·
   rename_i z hz;refine JM hE m (k+1) _ (ZP hn) (λ w hw=>?_) (by omega) (λ j w hj hw v hv=>?_) x hx y hy
   ·
    rcases qq.1 hw with h1 | h1
    ·
     exact hs w h1
    ·
     exact hE z (hs z (List.mem_of_getElem? hz)) w h1
   ·
    obtain⟨t,ht⟩:=Qd (E z) out;have hkl:k<out.length:=(List.getElem?_eq_some_iff.1 hz).1;rw[ht,List.getElem?_append_left (by omega)] at hw;rcases Nat.lt_succ_iff_lt_or_eq.1 hj with h1 | h1
    ·
     exact qq.2 (.inl (hc j w h1 hw v hv))
    ·
     subst h1;rw[hz] at hw;cases hw;exact qq.2 (.inr hv)
theorem zbx{E:α->List α}:∀ (m k:Nat) (out:List α),∀ x∈out,x∈qQ E m k out
 | 0,_,_,_,hx=>hx
 |
  m+1,k,out,x,hx=>by
  unfold qQ;split
  ·
   exact hx
  ·
   exact zbx m (k+1) _ x (qq.2 (.inl hx))
theorem reachR_iff{E:α->List α}{U:List α}(hE:∀ x∈U,∀ y∈E x,y∈U){m:Nat}{out:List α}(hn:out.Nodup)(hs:∀ x∈out,x∈U)(hm:U.length<=m){x:α}:x∈qQ E m 0 out ↔ Way E out x:=by
 constructor
 ·
  exact λ h=>zbw m 0 out (λ y hy=>.here hy) x h
 ·
  intro h
  induction h with
  | here hx=>exact zbx m 0 out _ hx
  | step _ hy ih=>exact JM hE m 0 out hn hs (by omega) (λ j _ hj=>absurd hj (by omega)) _ ih _ hy
end
theorem loop_grow{α β S:Type}[DecidableEq α]{step:S->Option (S⊕β)}(mk:List α->Nat->S)(E:α->List α)(U:List α)(hE:∀ x∈U,∀ y∈E x,y∈U)(fin:List α->β)
  (h:∀ k out x,out[k]?=some x->out.Nodup->(∀ y∈out,y∈U)->step (mk out k)=some (.inl (mk (xv out (E x)) (k+1))))
  (hend:∀ out,out.Nodup->(∀ y∈out,y∈U)->step (mk out out.length)=some (.inr (fin out)))
  {out:List α} (hn:out.Nodup) (hs:∀ y∈out,y∈U) (hU:U.length<576460752303423488) {s:S} (h0:s=mk out 0):zB step s=some (fin (qQ E U.length 0 out)):=by
 subst h0;have key:∀ m k out,out.Nodup->(∀ y∈out,y∈U)->U.length<=m+k->k<=out.length->wi step (m+1) (mk out k)=some (fin (qQ E m k out)):=by
  intro m
  induction m with
  |
   zero=>
   intro k out hn hs hm hk;have hl:=jj hn hs;have:k=out.length:=by omega
   subst this;exact yf (hend out hn hs)
  |
   succ m ih=>
   intro k out hn hs hm hk;unfold qQ;cases hx:out[k]? with
   |
    none=>
    rw[List.getElem?_eq_none_iff] at hx;have:k=out.length:=by omega
    subst this;exact yf (hend out hn hs)
   |
    some x=>
    have hkl:k<out.length:=(List.getElem?_eq_some_iff.1 hx).1;rw[wc (h k out x hx hn hs)];refine ih (k+1) _ (ZP hn) (λ w hw=>?_) (by omega) ?_
    ·
     rcases qq.1 hw with h1 | h1
     ·
      exact hs w h1
     ·
      exact hE x (hs x (List.mem_of_getElem? hx)) w h1
    ·
     obtain⟨t,ht⟩:=Qd (E x) out;rw[ht,List.length_append];omega
 exact wm (key U.length 0 out hn hs (by omega) (Nat.zero_le _)) (by omega)
open Go.RowKit
def upN:Nat->Str->Str
 | 0,p=>p
 | n+1,p=>upN n (zA p)
def Wb(p:Str)(lv:Int)(m:Str):Str:=if cmpI .eql lv 0=true then m else if upN (lv - 1).toNat p=emptyS then emptyS else if m=emptyS then upN (lv - 1).toNat p else child (upN (lv - 1).toNat p) m
def q6(p:Str)(s:Stmt):Str:=if(cmpI .eql s.kind 0||cmpI .eql s.kind 2)=true then s.module else if cmpI .eql s.kind 1=true then Wb p s.level s.module else emptyS
def xn(p:Str)(b:List Stmt):List Str:=(b.map (q6 p)).filter zg
def YC(n:Str)(s:Spec):Str:=if cmpI .eql s.kind 1=true then zA n else n
def fileOf(t:List File)(k:Int):File:=(t[k.toNat]?).getD default
def zar(t:List File)(n:Str)(s:Spec):List Str:=if cmpI .lss s.file 0=true then[] else uniq (xn (YC n s) (fileOf t s.file).body)
def yq(t:List File)(path:List Int)(n:Str):List Str:=zar t n (find t path n)
def zS(t:List File)(path:List Int)(n:Str):List Str:=uniq ((yq t path n).flatMap y6)
def Jv(f:File):List Str:=(xn f.pkg f.body).flatMap y6
def xV(t:List File)(s:Str):List Str:=y6 s++t.flatMap Jv
theorem zby{α:Type}{p:α->Bool}{l:List α}(h:cmpI .lss (Zb p l) 0=false):∃ x,l[(Zb p l).toNat]?=some x/\p x=true:=by
 unfold Zb at h ⊢;cases e:l.findIdx? p with
 | none=>rw[e] at h;exact absurd h (by decide)
 |
  some i=>
  rw[List.findIdx?_eq_some_iff_getElem] at e;obtain⟨hi,h1,_⟩:=e;exact⟨l[i],by simp only[Int.toNat_natCast];exact List.getElem?_eq_getElem hi,h1⟩
theorem JN{t:List File}{p s:Str}:∀ (rs acc:List Int),cmpI .lss (xf t p s acc rs).file 0=false->∃ f,t[(xf t p s acc rs).file.toNat]?=some f/\(((xf t p s acc rs).kind=2/\f.init=true/\f.pkg=child p s)\/((xf t p s acc rs).kind=1/\f.init=false/\f.pkg=p/\f.name=s))
 |
  [],acc,h=>by
  unfold xf at h;split at h
  ·
   exact absurd (show cmpI .lss (-1:Int) 0=false from h) (by decide)
  ·
   exact absurd (show cmpI .lss (-1:Int) 0=false from h) (by decide)
 |
  r::rs,acc,h=>by
  unfold xf at h ⊢;split at h
  ·
   rename_i hc;rw[if_pos hc];obtain⟨f,h1,h2⟩:=zby h;refine⟨f,h1,.inl ⟨rfl,?_⟩⟩;unfold xd at h2;simp only[Bool.and_eq_true,beq_iff_eq,decide_eq_true_eq] at h2;exact⟨h2.1.2,h2.1.1.2⟩
  ·
   rename_i hc;rw[if_neg hc];split at h
   ·
    rename_i hc2;rw[if_pos hc2];obtain⟨f,h1,h2⟩:=zby h;refine⟨f,h1,.inr ⟨rfl,?_⟩⟩;unfold xd at h2;simp only[Bool.and_eq_true,beq_iff_eq,decide_eq_true_eq] at h2;exact⟨h2.1.2,h2.1.1.2,h2.2⟩
   ·
    rename_i hc2;rw[if_neg hc2];exact JN rs _ h
theorem parent_child{p s:Str}(hs:zJ s=true):zA (child p s)=p:=by
 unfold child;split
 ·
  rename_i h;rw[(Jd (XR hs)).1,h]
 ·
  have h:(⟨(p.l++[46])++s.l⟩:Str).l=p.l++46::s.l:=by simp
  rw[(parent_of h (XR hs)).1]
theorem Wu{t:Tree}(hv:zH t=true){path:List Int}{n:Str}(hn:zg n=true)(h:cmpI .lss (find t.files path n).file 0=false):∃ f,t.files[(find t.files path n).file.toNat]?=some f/\f∈t.files/\JY f=n/\YC n (find t.files path n)=f.pkg:=by
 rcases find_last (t:=t.files) (path:=path) hn with e | ⟨r,p,s,e,hc⟩
 ·
  rw[e] at h;exact absurd h (by decide)
 ·
  rw[e] at h ⊢;obtain⟨f,h1,h2⟩:=JN _ _ h;have hm:=List.mem_of_getElem? h1;refine⟨f,h1,hm,?_⟩;unfold JY YC qC;rcases h2 with⟨h3,h4,h5⟩ | ⟨h3,h4,h5,h6⟩
  ·
   rw[h3,h4,h5,hc];exact⟨rfl,rfl⟩
  ·
   have hf:=Xq hv hm;have hp:zJ f.name=true:=by
    unfold xk at hf;split at hf
    ·
     cases hf
    ·
     rw[h4,if_neg (by decide),Bool.and_eq_true] at hf;exact hf.1
   have hpn:zA n=p:=by rw[← hc];exact parent_child (by rw[← h6];exact hp)
   rw[h3,h4,h5,h6,if_neg (by decide),hc];exact⟨rfl,hpn⟩
theorem ZQ{t:Tree}(hv:zH t=true){f:File}(hf:f∈t.files):xG f.body=true:=by
 have h:=Xq hv hf;unfold xk at h;cases hb:xG f.body with
 | true=>rfl
 | false=>rw[hb,if_pos (by simp)] at h;cases h
theorem XG{t:List File}{k:Int}{f:File}(h:t[k.toNat]?=some f):fileOf t k=f:=by unfold fileOf;rw[h];rfl
theorem YJ{p:Str}{b:List Stmt}{x:Str}(h:x∈xn p b):zg x=true:=(List.mem_filter.1 h).2
theorem Ym(p:Str)(b:List Stmt):(xn p b).length<=b.length:=by
 unfold xn;refine Nat.le_trans (List.length_filter_le _ _) ?_;rw[List.length_map];omega
theorem Zo{t:List File}{path:List Int}{n x:Str}(h:x∈yq t path n):zg x=true:=by
 unfold yq zar at h;split at h
 ·
  cases h
 ·
  exact YJ (Wa.1 h)
theorem Z8{s:Str}(h:zg s=true):(y6 s).length<=3:=by
 have:=(yN h).2;rw[above_len];omega
theorem Xs(l:List Str)(h:∀ x∈l,zg x=true):(l.flatMap y6).length<=3*l.length:=by
 induction l with
 | nil=>simp
 |
  cons x l ih=>
  have h1:=Z8 (h x (List.mem_cons_self ..));have h2:=ih λ y hy=>h y (List.mem_cons_of_mem _ hy)
  rw[List.flatMap_cons,List.length_append,List.length_cons];omega
theorem zas{l:List Str}(h:∀ x∈l,zg x=true){y:Str}(hy:y∈l.flatMap y6):zg y=true:=by
 obtain⟨x,hx,hxy⟩:=List.mem_flatMap.1 hy;exact zaP (h x hx) hxy
theorem YD{t:Tree}(hv:zH t=true){path:List Int}{n:Str}(hn:zg n=true):(yq t.files path n).length<=8:=by
 unfold yq zar;cases hf:cmpI .lss (find t.files path n).file 0 with
 | true=>rw[if_pos rfl];exact Nat.zero_le _
 |
  false=>
  obtain⟨f,h1,h2,_,_⟩:=Wu hv hn hf;have hb:=ZQ hv h2;unfold xG at hb;have hl:f.body.length<=8:=by
   rw[Bool.and_eq_true] at hb;have:=hb.2;unfold cmpI at this;simp only[decide_eq_true_eq] at this;omega
  rw[if_neg (by decide),XG h1];exact Nat.le_trans (uniq_len _) (Nat.le_trans (Ym _ _) hl)
theorem XH{t:Tree}(hv:zH t=true){path:List Int}{n:Str}(hn:zg n=true):(zS t.files path n).length<=24:=by
 have h1:=YD hv (path:=path) hn;have h2:=Xs (yq t.files path n) λ _ hy=>Zo hy
 exact Nat.le_trans (uniq_len _) (by omega)
theorem Zp{t:List File}{s x:Str}(hs:zg s=true)(h:x∈xV t s):zg x=true:=by
 unfold xV at h;rcases List.mem_append.1 h with h | h
 ·
  exact zaP hs h
 ·
  obtain⟨f,_,hx⟩:=List.mem_flatMap.1 h;exact zas (λ _ hy=>YJ hy) hx
theorem Zq{t:Tree}(hv:zH t=true){path:List Int}{s n x:Str}(hn:zg n=true)(h:x∈zS t.files path n):x∈xV t.files s:=by
 unfold xV;refine List.mem_append.2 (.inr ?_);have h0:=Wa.1 h;obtain⟨y,hy,hxy⟩:=List.mem_flatMap.1 h0;unfold yq zar at hy;cases hf:cmpI .lss (find t.files path n).file 0 with
 | true=>rw[hf,if_pos rfl] at hy;cases hy
 |
  false=>
  obtain⟨f,h1,h2,_,h4⟩:=Wu hv hn hf;rw[hf,if_neg (by decide),XG h1,h4] at hy;exact List.mem_flatMap.2 ⟨f,h2,List.mem_flatMap.2 ⟨y,Wa.1 hy,hxy⟩⟩
theorem fileLeads_len{f:File}(h:f.body.length<=8):(Jv f).length<=24:=by
 have h1:=Xs (xn f.pkg f.body) λ _ hy=>YJ hy
 have h2:=Ym f.pkg f.body;unfold Jv;omega
theorem Yn{b:List Stmt}(h:xG b=true):b.length<=8:=by
 unfold xG at h;rw[Bool.and_eq_true] at h;have:=h.2;unfold cmpI at this;simp only[decide_eq_true_eq] at this;omega
theorem Je{t:Tree}(hv:zH t=true){s:Str}(hs:zg s=true):(xV t.files s).length<=300:=by
 have key:∀ (l:List File),(∀ f∈l,f∈t.files)->(l.flatMap Jv).length<=24*l.length:=by
  intro l
  induction l with
  | nil=>intro _;simp
  |
   cons f l ih=>
   intro hl;have h1:=fileLeads_len (Yn (ZQ hv (hl f (List.mem_cons_self ..))));have h2:=ih λ g hg=>hl g (List.mem_cons_of_mem _ hg)
   rw[List.flatMap_cons,List.length_append,List.length_cons];omega
 have h1:=key t.files λ _ h=>h
 have h2:=validTree_len hv;have h3:=Z8 hs;unfold xV;rw[List.length_append];omega
theorem qR{s:Str}(h:zg s=true):(y6 s).Nodup:=by
 have hparts:=(yN h).1;unfold y6 qr;refine List.pairwise_map.2 (List.Pairwise.imp_of_mem (λ{a b} ha hb hne e=>hne ?_) List.nodup_range);rw[List.mem_range] at ha hb;have h1:=Z7 (l:=(zl s dot).take (a+1)) (by intro e0;have:=congrArg List.length e0;rw[List.length_take,List.length_nil] at this;omega) λ x hx=>hparts x (List.mem_of_mem_take hx)
 have h2:=Z7 (l:=(zl s dot).take (b+1)) (by intro e0;have:=congrArg List.length e0;rw[List.length_take,List.length_nil] at this;omega) λ x hx=>hparts x (List.mem_of_mem_take hx)
 rw[e,h2] at h1;have:=congrArg List.length h1;rw[List.length_take,List.length_take] at this;omega
def Zw(t:List File)(path:List Int)(s:Str)(l:List Str):List Str:=qQ (zS t path) (xV t s).length 0 l
theorem Jf{t:Tree}(hv:zH t=true){path:List Int}{s:Str}(hs:zg s=true){l:List Str}(hn:l.Nodup)(hl:∀ x∈l,x∈xV t.files s):(Zw t.files path s l).length<=300:=
 Nat.le_trans (jj (Wt _ _ _ hn) (Qg (λ _x hx _y hy=>Zq hv (Zp hs hx) hy) _ _ _ hl)) (Je hv hs)
open Go.RowKit
def okG(t:Tree)(path:List Int)(s:Str):Bool:=zH t&&xl path&&zg s
theorem xo{t:Tree}{path:List Int}{s:Str}(h:okG t path s=true):zH t=true/\xl path=true/\zg s=true:=by
 unfold okG at h;simp only[Bool.and_eq_true] at h;exact⟨h.1.1,h.1.2,h.2⟩
section
variable{t:Tree}{path:List Int}{s:Str}
theorem ZR(hv:zH t=true)(hs:zg s=true):∀ x∈xV t.files s,∀ y∈zS t.files path x,y∈xV t.files s:=
 λ _ hx _ hy=>Zq hv (Zp hs hx) hy
theorem qg{l:List File}{x:Str}(h:x∈y6 s):x∈xV l s:=List.mem_append.2 (.inl h)
theorem YE(hv:zH t=true)(hs:zg s=true){l:List Str}(hn:l.Nodup)(hl:∀ x∈l,x∈xV t.files s){x:Str}:x∈Zw t.files path s l ↔ Way (zS t.files path) l x:=
 reachR_iff (ZR hv hs) hn hl (Nat.le_refl _)
theorem JO(hv:zH t=true)(hs:zg s=true){l:List Str}(hl:∀ x∈l,x∈xV t.files s){x:Str}(h:x∈Zw t.files path s l):x∈xV t.files s:=
 Qg (ZR hv hs) _ _ _ hl x h
theorem reachOf_valid(hv:zH t=true)(hs:zg s=true){l:List Str}(hl:∀ x∈l,x∈xV t.files s){x:Str}(h:x∈Zw t.files path s l):zg x=true:=
 Zp hs (JO hv hs hl h)
end
def yn(t:Tree)(path:List Int)(s:Str):List Str:=Zw t.files path s (y6 s)
def Z9(t:Tree)(path:List Int)(s n:Str):Bool:=decide (n∈Zw t.files path s (zS t.files path n))
def Yo(t:Tree)(path:List Int)(n:Str):Bool:=cmpI .eql (find t.files path n).kind 0
def yc(t:Tree)(path:List Int)(s:Str):List Str:=if okG t path s=true then XE (yn t path s) else[]
def jH(t:Tree)(path:List Int)(s:Str):List Str:=(yc t path s).filter (Yo t path)
def qz(t:Tree)(path:List Int)(s:Str):List Str:=(yc t path s).filter (Z9 t path s)
section
variable{t:Tree}{path:List Int}{s:Str}
theorem qS(hv:zH t=true)(hs:zg s=true):(yn t path s).length<=300:=Jf hv hs (qR hs) λ _ h=>qg h
theorem reachA_nodup(hs:zg s=true):(yn t path s).Nodup:=Wt _ _ _ (qR hs)
theorem jI(hv:zH t=true)(hs:zg s=true){x:Str}(h:x∈yn t path s):zg x=true:=reachOf_valid hv hs (λ _ h=>qg h) h
theorem Ya(h:okG t path s=true){x:Str}:x∈yc t path s ↔ x∈yn t path s:=by
 unfold yc;rw[if_pos h,(Wq _).2]
theorem Qh:Asc (yc t path s):=by
 unfold yc;split
 ·
  exact(Wq _).1
 ·
  exact List.Pairwise.nil
theorem Yb:(yc t path s).length<=300:=by
 unfold yc;split
 ·
  rename_i h;obtain⟨h1,_,h2⟩:=xo h;exact Nat.le_trans (zaN _) (qS h1 h2)
 ·
  exact Nat.zero_le _
theorem Wv{x:Str}(h:x∈yc t path s):zg x=true/\okG t path s=true:=by
 unfold yc at h;split at h
 ·
  rename_i h0;obtain⟨h1,_,h2⟩:=xo h0;exact⟨jI h1 h2 (((Wq _).2 x).1 h),h0⟩
 ·
  cases h
theorem zat(h:okG t path s=true)(p:Str->Bool):((yn t path s).filter p).foldl xp []=(yc t path s).filter p:=by
 refine asc_ext (insertAll_asc List.Pairwise.nil) (zbt _ Qh) λ x=>?_
 rw[insertAll_iff,List.mem_filter,List.mem_filter,Ya h];simp
end
open Go.RowKit
open Go.RowKit
theorem any_mem{l:List Str}{x:Str}:l.any (λ y=>decide (y=x))=decide (x∈l):=by
 rw[Bool.eq_iff_iff,List.any_eq_true];simp
theorem any_mem'{l:List Str}{x:Str}:l.any (λ y=>decide (x=y))=decide (x∈l):=by
 rw[Bool.eq_iff_iff,List.any_eq_true];simp
theorem xU{l:List Str}{x:Str}(h:l.length<=1048576):ya l x=some (decide (x∈l)):=by
 unfold ya Yi;have hl:zB (λ s4=>xW l x s4) 0=some (match l.findIdx? (λ y=>decide (y=x)) with | some i=>(Sum.inr (i:Int):Unit⊕Int) | none=>Sum.inl ()):=by
  refine QQ l (λ y=>decide (y=x)) (λ i=>Sum.inr i) _ (λ k y hx hlt=>?_) ?_ (by omega) rfl
  ·
   unfold xW;rw[zC,if_pos (decide_eq_true hlt),zR,hx,obS,zF (by omega)];cases decide (y=x) <;> rfl
  ·
   unfold xW;rw[zC,if_neg (by simp)]
 have e:Option.bind (α:=Unit⊕Int) (zB (λ s4=>xW l x s4) 0) (Sum.elim (λ _=>some (-1)) some)=some (Zb (λ y=>decide (y=x)) l):=by
  rw[hl];unfold Zb;cases l.findIdx? (λ y=>decide (y=x)) <;> rfl
 rw[e,obS,X7,any_mem]
theorem QY{l:List Str}{x:Str}(h:l.length<=1048576):zT l x=some (decide (x∈l)):=by
 unfold zT xg;have hl:zB (λ s4=>zM l x s4) 0=some (match l.findIdx? (λ y=>decide (x=y)) with | some i=>(Sum.inr (i:Int):Unit⊕Int) | none=>Sum.inl ()):=by
  refine QQ l (λ y=>decide (x=y)) (λ i=>Sum.inr i) _ (λ k y hx hlt=>?_) ?_ (by omega) rfl
  ·
   unfold zM;rw[zC,if_pos (decide_eq_true hlt),zR,hx,obS,zF (by omega)];cases decide (x=y) <;> rfl
  ·
   unfold zM;rw[zC,if_neg (by simp)]
 have e:Option.bind (α:=Unit⊕Int) (zB (λ s4=>zM l x s4) 0) (Sum.elim (λ _=>some (-1)) some)=some (Zb (λ y=>decide (x=y)) l):=by
  rw[hl];unfold Zb;cases l.findIdx? (λ y=>decide (x=y)) <;> rfl
 rw[e,obS,X7,any_mem']
theorem YY{β γ:Type}{step:List Str×Int->Option ((List Str×Int)⊕β)}(l:List γ)(g:List Str->γ->List Str)(fin:List Str->β)(c B:Nat)
  (hlen:∀ out x,x∈l->(g out x).length<=out.length+c)
  (h:∀ k out x,l[k]?=some x->x∈l->k<l.length->out.length<=B->step (out,(k:Int))=some (.inl (g out x,((k+1:Nat):Int))))
  (hend:∀ out,step (out,(l.length:Int))=some (.inr (fin out))) {out:List Str} (hb:out.length+c*l.length<=B) (hl:l.length<=1048576):zB step (out,(0:Int))=some (fin (l.foldl g out)):=by
 have:=loop_fold (step:=step) l (λ(s:List Str) k=>(s,(k:Int))) g fin (λ k s=>k<=l.length/\s.length<=out.length+c*k) (λ k s x hx hk hI=>?_) (λ s _=>hend s) (s0:=out) ⟨Nat.zero_le _,by omega⟩ (by omega)
 ·
  exact this
 ·
  have hm:=List.mem_of_getElem? hx;have h1:c*k<=c*l.length:=Nat.mul_le_mul_left c (by omega);have h2:=hlen s x hm;refine⟨h k s x hx hm hk (by omega),by omega,?_⟩;rw[Nat.mul_succ];omega
theorem fold_add{γ:Type}(f:γ->List Str):∀ (l:List γ) (out:List Str),l.foldl (λ o x=>xv o (f x)) out=xv out (l.flatMap f)
 | [],_=>rfl
 |
  x::l,out=>by
  rw[List.foldl_cons,List.flatMap_cons,zbu];exact fold_add f l _
theorem fold_app{γ:Type}(f:γ->List Str):∀ (l:List γ) (out:List Str),l.foldl (λ o x=>o++f x) out=out++l.flatMap f
 | [],_=>by simp
 |
  x::l,out=>by
  rw[List.foldl_cons,List.flatMap_cons,fold_app f l];simp
theorem QZ{γ:Type}(p:γ->Bool)(f:List Str->γ->List Str):∀ (l:List γ) (out:List Str),l.foldl (λ o x=>if p x=true then f o x else o) out=(l.filter p).foldl f out
 | [],_=>rfl
 |
  x::l,out=>by
  rw[List.foldl_cons,List.filter_cons];cases h:p x with
  | true=>rw[if_pos rfl,if_pos rfl,List.foldl_cons];exact QZ p f l _
  | false=>rw[if_neg (by decide),if_neg (by decide)];exact QZ p f l _
theorem add_loop{step:List Str×Int->Option ((List Str×Int)⊕List Str)}(l:List Str)
  (h:∀ k out x,l[k]?=some x->x∈l->k<l.length->out.length<=1000->step (out,(k:Int))=some (.inl (addU out x,((k+1:Nat):Int))))
  (hend:∀ out,step (out,(l.length:Int))=some (.inr out)) {out:List Str} (hb:out.length+l.length<=1000):zB step (out,(0:Int))=some (xv out l):=
 YY l addU (λ o=>o) 1 1000 (λ out x _=>addU_len out x) h hend (by omega) (by omega)
theorem Yp{s:Str}(h:zg s=true):qm s=some (y6 s):=if_pos (yO h).mid
theorem Q0{p:Str}(h:zu p=true):mid p:=by have:=yy h;unfold mid;omega
theorem Ww:zA emptyS=emptyS:=by
 have:(46:UInt8) ∉ emptyS.l:=by decide
 exact(Jd this).1
theorem Wx{p:Str}(h:zu p=true):zu (zA p)=true:=by
 unfold zu at h;rw[Bool.or_eq_true,decide_eq_true_eq] at h;rcases h with h | h
 ·
  rw[h,Ww];rfl
 ·
  exact pre_valid h _
theorem zau:∀ n,upN n emptyS=emptyS
 | 0=>rfl
 |
  n+1=>by
  unfold upN;rw[Ww];exact zau n
theorem upN_pkg:∀ n {p:Str},zu p=true->zu (upN n p)=true
 | 0,_,h=>h
 | n+1,_,h=>upN_pkg n (Wx h)
theorem spec_base_eq{p:Str}(hp:zu p=true){n:Nat}(hn:n<=10):YA p ((n:Int)+1)=some (upN n p,decide (upN n p≠(⟨[]⟩:Str))):=by
 have key:∀ (k i:Nat) (q:Str),zu q=true->i+k=n->∃ r,wi (λ s4=>wk ((n:Int)+1) s4) (k+1) (q,((i+1:Nat):Int))=some r/\(r=.inl (upN k q)\/(r=.inr ((⟨[]⟩:Str),false)/\upN k q=emptyS)):=by
  intro k
  induction k with
  |
   zero=>
   intro i q hq hi;refine⟨.inl q,yf ?_,.inl rfl⟩;unfold wk;simp only;rw[show((n:Int)+1)=((n+1:Nat):Int) by omega,zC,if_neg (by simp;omega)]
  |
   succ k ih=>
   intro i q hq hi;have hlt:cmpI .lss ((i+1:Nat):Int) ((n:Int)+1)=true:=by unfold cmpI;exact decide_eq_true (by omega)
   by_cases he:q=(⟨[]⟩:Str)
   ·
    refine⟨.inr ((⟨[]⟩:Str),false),yf ?_,.inr ⟨rfl,?_⟩⟩
    ·
     unfold wk;simp only;rw[if_pos hlt,if_pos (decide_eq_true he)]
    ·
     rw[he];exact zau _
   ·
    have hs:wk ((n:Int)+1) (q,((i+1:Nat):Int))=some (.inl (zA q,((i+1+1:Nat):Int))):=by
     unfold wk;simp only;rw[if_pos hlt,if_neg (by simpa using he),show zU q=some (zA q) from if_pos (Q0 hq),obS,zF (by omega)];rfl
    obtain⟨r,h1,h2⟩:=ih (i+1) (zA q) (Wx hq) (by omega);exact⟨r,by rw[wc hs];exact h1,h2⟩
 obtain⟨r,h1,h2⟩:=key n 0 p hp (by omega);unfold YA;rw[show(1:Int)=((0+1:Nat):Int) from rfl,wm (by simpa using h1) (by omega)];rcases h2 with rfl | ⟨rfl,h3⟩
 ·
  rfl
 ·
  rw[h3];rfl
theorem Jg{p m:Str}{lv:Int}:Wb p lv m=if lv=0 then m else if upN (lv - 1).toNat p=emptyS then emptyS else if m=emptyS then upN (lv - 1).toNat p else child (upN (lv - 1).toNat p) m:=by
 unfold Wb;by_cases h:lv=0
 ·
  rw[if_pos h,if_pos (by simp[cmpI,h])]
 ·
  rw[if_neg h,if_neg (by simp[cmpI,h])]
theorem zaZ{p m:Str}{lv:Int}(hp:zu p=true)(h0:0<=lv)(h1:lv<=4)(hm:sho m):j7 p lv m=some (Wb p lv m):=by
 rw[Jg];unfold j7;by_cases h:lv=0
 ·
  rw[if_pos h,if_pos (by simp[cmpI,h])]
 ·
  rw[if_neg h,if_neg (by simp[cmpI,h])];obtain⟨n,hn⟩:∃ n:Nat,lv=(n:Int)+1:=⟨(lv - 1).toNat,by omega⟩;have hu:=upN_pkg n hp;rw[show(lv - 1).toNat=n by omega,hn,spec_base_eq hp (by omega),obS];by_cases he:upN n p=emptyS
  ·
   rw[if_pos he];simp only[he];rfl
  ·
   rw[if_neg he];have he':decide (upN n p≠(⟨[]⟩:Str))=true:=decide_eq_true he;simp only[he'];rw[if_neg (by decide)];by_cases hm0:m=emptyS
   ·
    rw[if_pos hm0,if_pos (decide_eq_true (show m=(⟨[]⟩:Str) from hm0))]
   ·
    have hlu:=yy hu;unfold sho at hm;rw[if_neg hm0,if_neg (by simpa using(show ¬ m=(⟨[]⟩:Str) from hm0)),show YS (upN n p) m=some (child (upN n p) m) from if_pos (by omega),obS]
theorem YK{st:Stmt}(h:yH st=true):((st.kind=0\/st.kind=2)/\zg st.module=true)\/(st.kind=1/\zu st.module=true/\0<=st.level/\st.level<=3)\/(st.kind≠0/\st.kind≠1/\st.kind≠2):=by
 unfold yH at h;by_cases h0:st.kind=0
 ·
  rw[if_pos (by simp[cmpI,h0])] at h;simp only[Bool.and_eq_true] at h;exact .inl ⟨.inl h0,h.1.1.1⟩
 ·
  rw[if_neg (by simp[cmpI,h0])] at h;by_cases h1:st.kind=1
  ·
   rw[if_pos (by simp[cmpI,h1])] at h;simp only[Bool.and_eq_true,inR] at h;have h2:=h.1.1.1.2;simp[cmpI] at h2;exact .inr (.inl ⟨h1,h.1.1.1.1,by omega,by omega⟩)
  ·
   rw[if_neg (by simp[cmpI,h1])] at h;by_cases h2:st.kind=2
   ·
    rw[if_pos (by simp[cmpI,h2])] at h;simp only[Bool.and_eq_true] at h;exact .inl ⟨.inr h2,h.1.1.1⟩
   ·
    exact .inr (.inr ⟨h0,h1,h2⟩)
theorem child_len(p s:Str):(child p s).l.length<=p.l.length+s.l.length+1:=by
 unfold child;split
 ·
  omega
 ·
  simp only[List.length_append,List.length_singleton];omega
theorem stName_sho{p:Str}{st:Stmt}(hp:zu p=true)(h:yH st=true):sho (q6 p st):=by
 unfold q6 sho;rcases YK h with⟨h1,h2⟩ | ⟨h1,h2,h3,h4⟩ | ⟨h1,h2,h3⟩
 ·
  have:=jM h2;rw[if_pos (by rcases h1 with h1 | h1 <;> simp[cmpI,h1])];omega
 ·
  rw[if_neg (by simp[cmpI,h1]),if_pos (by simp[cmpI,h1]),Jg];have h5:=yy h2;have h6:=yy (upN_pkg (st.level - 1).toNat hp);have h7:=child_len (upN (st.level - 1).toNat p) st.module;split
  ·
   omega
  ·
   split
   ·
    exact Nat.zero_le _
   ·
    split <;> omega
 ·
  rw[if_neg (by simp[cmpI,h1,h3]),if_neg (by simp[cmpI,h2])];exact Nat.zero_le _
section
variable{t:Tree}{path:List Int}
theorem atI_some{α:Type}{l:List α}{k:Int}{x:α}(h0:cmpI .lss k 0=false)(h:l[k.toNat]?=some x):atI l k=some x:=by
 have hk:0<=k:=by
  have:=of_decide_eq_false h0;omega
 unfold atI;rw[if_pos hk];exact h
theorem zaT{n:Str}(hn:zg n=true)(s:Spec):zu (YC n s)=true:=by
 have h:zu n=true:=by unfold zu;rw[hn,Bool.or_true]
 unfold YC;split
 ·
  exact Wx h
 ·
  exact h
end
open Go.RowKit
theorem full_s1(l out:List Str)(hb:out.length+l.length<=1000):zB (λ s=>j5 l s) (out,(0:Int))=some (xv out l):=by
 refine add_loop l (λ k out x hx _ hk ho=>?_) (λ out=>?_) hb
 ·
  unfold j5 addU;simp only;rw[zC,if_pos (decide_eq_true hk),zR,hx,obS,xU (by omega),obS,zF (by omega)];by_cases hm:x∈out
  ·
   rw[decide_eq_true hm,if_neg (by decide),if_pos hm];rfl
  ·
   rw[decide_eq_false hm,if_pos (by decide),obS,wv (by simp;omega) (by simp;omega),if_neg hm];rfl
 ·
  unfold j5;simp only;rw[zC,if_neg (by simp)]
theorem reach_s1(l out:List Str)(hb:out.length+l.length<=1000):zB (λ s=>Zu l s) (out,(0:Int))=some (xv out l):=by
 rw[← full_s1 l out hb];rfl
theorem spec_full_eq{l:List Str}(hv:∀ x∈l,zg x=true)(hl:l.length<=100):Yz l=some (uniq (l.flatMap y6)):=by
 unfold Yz;have h:zB (λ s=>j6 l s) (([]:List Str),(0:Int))=some (uniq (l.flatMap y6)):=by
  rw[show uniq (l.flatMap y6)=l.foldl (λ o x=>xv o (y6 x)) [] from(fold_add y6 l []).symm];refine YY l (λ o x=>xv o (y6 x)) (λ o=>o) 3 300 (λ out x hx=>?_) (λ k out x hx hm hk ho=>?_) (λ out=>?_) (by simp;omega) (by omega)
  ·
   have h1:=Qf (y6 x) out;have h2:=Z8 (hv x hx);omega
  ·
   have h2:=Z8 (hv x hm);unfold j6;simp only;rw[zC,if_pos (decide_eq_true hk),zR,hx,obS,Yp (hv x hm),obS,full_s1 _ _ (by omega),zF (by omega)];rfl
  ·
   unfold j6;simp only;rw[zC,if_neg (by simp)]
 rw[h];rfl
theorem za0{p:Str}{f:File}(hp:zu p=true)(hb:xG f.body=true):zB (λ s=>wy p f s) (([]:List Str),(0:Int))=some (uniq (xn p f.body)):=by
 have hlen:=Yn hb;have hst:∀ st∈f.body,yH st=true:=by
  unfold xG at hb;rw[Bool.and_eq_true] at hb;exact λ st h=>List.all_eq_true.1 hb.1 st h
 have e:uniq (xn p f.body)=f.body.foldl (λ o st=>if zg (q6 p st)=true then addU o (q6 p st) else o) []:=by
  rw[QZ (λ st=>zg (q6 p st)) (λ o st=>addU o (q6 p st))];unfold uniq xv xn;rw[List.filter_map,List.foldl_map];rfl
 rw[e];refine YY f.body _ (λ o=>o) 1 1000 (λ out st hm=>?_) (λ k out st hx hm hk ho=>?_) (λ out=>?_) (by simp;omega) (by omega)
 ·
  split
  ·
   exact addU_len _ _
  ·
   omega
 ·
  have hs:=hst st hm;have hsho:=stName_sho hp hs;have hname:((atI f.body (k:Int)).bind λ v29=>Option.bind (α:=Bool) (if(cmpI .eql v29.kind (0:Int))=true then(some (cmpI .eql v29.kind (0:Int))) else(some (cmpI .eql v29.kind (2:Int)))) λ o32=>if o32=true then((atI f.body (k:Int)).bind λ v40=>some v40.module) else(if(cmpI .eql v29.kind (1:Int))=true then((atI f.body (k:Int)).bind λ v46=>(atI f.body (k:Int)).bind λ v47=>(j7 p v46.level v47.module).bind λ v48=>some v48) else(some (⟨[]⟩:Str))))=some (q6 p st):=by
   rw[zR,hx];simp only[obS];unfold q6;rcases YK hs with⟨h1,h2⟩ | ⟨h1,h2,h3,h4⟩ | ⟨h1,h2,h3⟩
   ·
    rcases h1 with h1 | h1 <;> simp[cmpI,h1]
   ·
    have hm2:sho st.module:=by have:=yy h2;unfold sho;omega
    rw[zaZ hp h3 (by omega) hm2];simp[cmpI,h1]
   ·
    simp[cmpI,h1,h2,h3];rfl
  unfold wy;simp only;rw[zC,if_pos (decide_eq_true hk),hname,obS,show yh (q6 p st)=some (zg (q6 p st)) from if_pos hsho.mid,obS,xU (by omega),zF (by omega)];cases zg (q6 p st) with
  | false=>rfl
  |
   true=>
   rw[show((true:Bool) == true)=true from rfl,gO_true,obS,if_pos rfl];unfold addU;by_cases hmem:q6 p st∈out
   ·
    rw[decide_eq_true hmem,if_neg (by decide),if_pos hmem];rfl
   ·
    rw[decide_eq_false hmem,if_pos (by decide),wv (by simp;omega) (by simp;omega),if_neg hmem];rfl
 ·
  unfold wy;simp only;rw[zC,if_neg (by simp)]
section
variable{t:Tree}{path:List Int}
theorem WM(hv:zH t=true)(hp:path.length<=1048576){n:Str}(hn:zg n=true):j8 t path n=some (yq t.files path n):=by
 unfold j8;rw[show ZD t path n=some (find t.files path n) from if_pos ⟨by omega,(yO hn).mid⟩,obS];unfold YT yq zar;cases hf:cmpI .lss (find t.files path n).file 0 with
 | true=>rfl
 |
  false=>
  obtain⟨f,h1,h2,_,h4⟩:=Wu hv hn hf;have hpk:=zaT hn (find t.files path n);have hl:=za0 hpk (ZQ hv h2);have hk:(Option.bind (α:=Str) (if(cmpI .eql (find t.files path n).kind (1:Int))=true then((zU n).bind λ v12=>some v12) else(some n)) λ o8=>(atI t.files (find t.files path n).file).bind λ v16=>Option.bind (α:=(List Str)) (zB (λ s21=>wy o8 v16 s21) ([],(0:Int))) λ o19=>some o19)=some (uniq (xn (YC n (find t.files path n)) f.body)):=by
   rw[show(if(cmpI .eql (find t.files path n).kind (1:Int))=true then((zU n).bind λ v12=>some v12) else(some n))=some (YC n (find t.files path n)) by
    unfold YC;cases cmpI .eql (find t.files path n).kind (1:Int) with
    | false=>rfl
    | true=>rw[if_pos rfl,if_pos rfl,show zU n=some (zA n) from if_pos (yO hn).mid];rfl,obS,atI_some hf h1,obS,hl,obS]
  simp only[Bool.false_eq_true,if_false];rw[XG h1,hk];rfl
theorem XS(hv:zH t=true)(hp:path.length<=1048576){n:Str}(hn:zg n=true):qn t path n=some (zS t.files path n):=by
 unfold qn;have h1:=YD hv (path:=path) hn;rw[WM hv hp hn,obS,spec_full_eq (λ _ h=>Zo h) (by omega),obS];rfl
theorem JP(hv:zH t=true)(hp:path.length<=1048576){s:Str}(hs:zg s=true){l:List Str}(hn:l.Nodup)(hl:∀ x∈l,x∈xV t.files s):wH t path l=some (Zw t.files path s l):=by
 have hw:=Je hv hs;have hll:=jj hn hl;unfold wH;rw[wv (by simp;omega) (by simp;omega),obS,List.nil_append];have h:zB (λ s10=>jt t path s10) (l,(0:Int))=some (Zw t.files path s l):=by
  refine loop_grow (λ(o:List Str) k=>(o,(k:Int))) (zS t.files path) (xV t.files s) (ZR hv hs) (λ o=>o) (λ k out x hx ho hs'=>?_) (λ out ho hs'=>?_) hn hl (by omega) rfl
  ·
   have hxv:=Zp hs (hs' x (List.mem_of_getElem? hx));have hk:=(List.getElem?_eq_some_iff.1 hx).1;have hol:=jj ho hs';have hel:=XH hv (path:=path) hxv;unfold jt;simp only;rw[zC,if_pos (decide_eq_true hk),zR,hx,obS,XS hv hp hxv,obS,reach_s1 _ _ (by omega),zF (by omega)];rfl
  ·
   unfold jt;simp only;rw[zC,if_neg (by simp)]
 rw[h];rfl
theorem XI(n:Str):(zS t.files path n).Nodup:=Qe _
theorem Xt(hv:zH t=true)(hp:path.length<=1048576){s:Str}(hs:zg s=true):wH t path (y6 s)=some (yn t path s):=
 JP hv hp hs (qR hs) λ _ h=>qg h
theorem zbz(hv:zH t=true)(hp:path.length<=1048576){s n:Str}(hs:zg s=true)(hn:zg n=true):Zm t path n=some (Z9 t path s n):=by
 have hsub:∀ x∈zS t.files path n,x∈xV t.files s:=λ _ h=>Zq hv hn h
 have hl:=Jf hv hs (path:=path) (XI n) hsub;unfold Zm Z9;rw[XS hv hp hn,obS,JP hv hp hs (XI n) hsub,obS,xU (by omega),obS]
theorem zav(t:Tree)(path:List Int)(s:Str){α:Type}[Inhabited α]{b:α}{K:Option α}(ht:xu t)(hn:sho s){r:α}(h0:okG t path s=false->r=b)(h1:okG t path s=true->K=some r):((yT t).bind λ v2=>(gO ((!v2) == false) (yU path)).bind λ v3=>(gO (((!v2)||(!v3)) == false) (yh s)).bind λ v4=>if(((!v2)||(!v3))||(!v4))=true then(some b) else K)=some r:=by
 rw[show yT t=some (zH t) from if_pos ht,obS,show yU path=some (xl path) from if_pos trivial,show yh s=some (zg s) from if_pos hn.mid];cases hv:zH t with
 | false=>rw[h0 (by unfold okG;rw[hv];rfl)];rfl
 |
  true=>
  cases hp:xl path with
  | false=>rw[h0 (by unfold okG;rw[hv,hp];rfl)];rfl
  |
   true=>
   cases hs:zg s with
   | false=>rw[h0 (by unfold okG;rw[hv,hp,hs];rfl)];rfl
   | true=>exact h1 (by unfold okG;rw[hv,hp,hs];rfl)
theorem ins_loop{step:List Str×Int->Option ((List Str×Int)⊕List Str)}(l:List Str)(p:Str->Bool)(hl:l.length<=1000)
  (h:∀ k out x,l[k]?=some x->x∈l->k<l.length->out.length<=1000->step (out,(k:Int))=some (.inl (if p x=true then xp out x else out,((k+1:Nat):Int))))
  (hend:∀ out,step (out,(l.length:Int))=some (.inr out)):zB step (([]:List Str),(0:Int))=some ((l.filter p).foldl xp []):=by
 rw[← QZ p xp l []];refine YY l (λ o x=>if p x=true then xp o x else o) (λ o=>o) 1 1000 (λ out x _=>?_) h hend (by simp;omega) (by omega);show(if p x=true then xp out x else out).length<=out.length+1;split
 ·
  have:=insertAll_len [x] out;simpa using this
 ·
  omega
theorem Jh{out:List Str}{x:Str}(h:out.length<=1000):xB out x=some (xp out x):=if_pos (by omega)
variable{s:Str}
theorem Q1(ht:xu t)(hp:path.length<=1048576)(hn:sho s):qd t path s=some (jH t path s):=by
 unfold qd;refine zav t path s ht hn (λ h=>by unfold jH yc;rw[h];rfl) λ h=>?_
 obtain⟨hv,_,hs⟩:=xo h;have hlen:=qS hv (path:=path) hs;have hl:zB (λ s20=>xR t path (yn t path s) s20) (([]:List Str),(0:Int))=some (jH t path s):=by
  unfold jH;rw[← zat h];refine ins_loop (yn t path s) (Yo t path) (by omega) (λ k out x hx hm hk ho=>?_) (λ out=>?_)
  ·
   have hxv:=jI hv hs hm;unfold xR;simp only;rw[zC,if_pos (decide_eq_true hk),zR,hx,obS,show ZD t path x=some (find t.files path x) from if_pos ⟨by omega,(yO hxv).mid⟩,obS,zF (by omega),show cmpI .eql (find t.files path x).kind 0=Yo t path x from rfl];cases Yo t path x with
   | false=>rfl
   | true=>rw[if_pos rfl,if_pos rfl,obS,Jh ho];rfl
  ·
   unfold xR;simp only;rw[zC,if_neg (by simp)]
 rw[Yp hs,obS,Xt hv hp hs,obS,hl];rfl
theorem za1(ht:xu t)(hp:path.length<=1048576)(hn:sho s):qO t path s=some (qz t path s):=by
 unfold qO;refine zav t path s ht hn (λ h=>by unfold qz yc;rw[h];rfl) λ h=>?_
 obtain⟨hv,_,hs⟩:=xo h;have hlen:=qS hv (path:=path) hs;have hl:zB (λ s20=>wt t path (yn t path s) s20) (([]:List Str),(0:Int))=some (qz t path s):=by
  unfold qz;rw[← zat h];refine ins_loop (yn t path s) (Z9 t path s) (by omega) (λ k out x hx hm hk ho=>?_) (λ out=>?_)
  ·
   have hxv:=jI hv hs hm;unfold wt;simp only;rw[zC,if_pos (decide_eq_true hk),zR,hx,obS,zbz hv hp hs hxv,obS,zF (by omega)];cases Z9 t path s x with
   | false=>rfl
   | true=>rw[if_pos rfl,if_pos rfl,obS,Jh ho];rfl
  ·
   unfold wt;simp only;rw[zC,if_neg (by simp)]
 rw[Yp hs,obS,Xt hv hp hs,obS,hl];rfl
end
open Go.RowKit
theorem Wc{l:List Str}(h:l.length<=1000):wP l=some (uniq l):=by
 unfold wP;have hl:zB (λ s5=>wW l s5) (([]:List Str),(0:Int))=some (uniq l):=by
  refine add_loop l (λ k out x hx _ hk ho=>?_) (λ out=>?_) (by simpa using h)
  ·
   unfold wW addU;simp only;rw[zC,if_pos (decide_eq_true hk),zR,hx,obS,QY (by omega),obS,zF (by omega)];by_cases hm:x∈out
   ·
    rw[decide_eq_true hm,if_neg (by decide),if_pos hm];rfl
   ·
    rw[decide_eq_false hm,if_pos (by decide),wv (by simp;omega) (by simp;omega),if_neg hm];rfl
  ·
   unfold wW;simp only;rw[zC,if_neg (by simp)]
 rw[hl];rfl
def orE(s:Str):Str:=if zg s=true then s else emptyS
theorem ParentOf_any{p:Str}(h:zu p=true):yL p=some (zA p):=by
 unfold zu at h;rw[Bool.or_eq_true,decide_eq_true_eq] at h;rcases h with h | h
 ·
  rw[h,Ww];unfold yL;rcases lastByte emptyS 46 (by decide) with⟨pre,post,e1,_,_⟩ | ⟨_,e3⟩
  ·
   have:=congrArg List.length e1;simp[emptyS] at this
  ·
   rw[show zN emptyS (UInt8.ofNat 46)=some (-1) from e3,obS,xE (show sho emptyS from Nat.zero_le _),obS];rfl
 ·
  exact XF h
theorem resolve_loop{p:Str}(hp:zu p=true){n:Nat}(hn:n<=10):zB (λ s17=>zY s17) (p,(n:Int)+1)=some (upN n p):=by
 have key:∀ (k:Nat) (q:Str),k<=10->zu q=true->wi (λ s17=>zY s17) (k+1) (q,((k:Int)+1))=some (upN k q):=by
  intro k
  induction k with
  |
   zero=>
   intro q _ hq;refine yf ?_;unfold zY;rw[if_neg (by simp[cmpI])];rfl
  |
   succ k ih=>
   intro q hk hq;have hgt:cmpI .gtr (((k+1:Nat):Int)+1) 1=true:=by unfold cmpI;exact decide_eq_true (by omega)
   by_cases he:q=(⟨[]⟩:Str)
   ·
    refine yf ?_;unfold zY;simp only;rw[he,if_neg (by simp),show upN (k+1) (⟨[]⟩:Str)=emptyS from zau _];rfl
   ·
    have hs:zY (q,(((k+1:Nat):Int)+1))=some (.inl (zA q,((k:Int)+1))):=by
     unfold zY;simp only;rw[hgt,if_pos (by simpa using he),ParentOf_any hq,obS,show(((k+1:Nat):Int)+1 - 1)=((k:Int)+1) by omega,Xp (by omega) (by omega)];rfl
    rw[wc hs];exact ih (zA q) (by omega) (Wx hq)
 exact wm (key n p hn hp) (by omega)
theorem pkg_sho{p:Str}(h:zu p=true):sho p:=by have:=yy h;unfold sho;omega
theorem zbA{p m:Str}{lv:Int}(hp:zu p=true)(hm:zu m=true)(h0:0<=lv)(h1:lv<=3):jh p lv m=some (orE (Wb p lv m)):=by
 rw[Jg];unfold jh;have hw:yu lv 0 4=some true:=by
  unfold yu cmpI;simp only[ge_iff_le];rw[decide_eq_true h0,decide_eq_true (show lv<=4 by omega)];rfl
 rw[ZO (pkg_sho hp),obS,ZO (pkg_sho hm),hw,hp,hm];simp only[Bool.not_true,beq_self_eq_true,gO_true,obS,Bool.or_self,Bool.false_eq_true,if_false];unfold orE;by_cases h:lv=0
 ·
  rw[if_pos h,if_pos (by simp[cmpI,h])];unfold zu at hm;rw[Bool.or_eq_true,decide_eq_true_eq] at hm;rcases hm with hm | hm
  ·
   rw[hm,wA];rfl
  ·
   rw[if_pos hm]
 ·
  rw[if_neg h,if_neg (by simp[cmpI,h])];obtain⟨n,hn⟩:∃ n:Nat,lv=(n:Int)+1:=⟨(lv - 1).toNat,by omega⟩;have hu:=upN_pkg n hp;have hul:=yy hu;have hml:=yy hm;rw[show(lv - 1).toNat=n by omega,hn,resolve_loop hp (by omega),obS];by_cases he:upN n p=emptyS
  ·
   rw[if_pos he,if_pos (decide_eq_true (show upN n p=(⟨[]⟩:Str) from he)),wA];rfl
  ·
   rw[if_neg he,if_neg (by simpa using(show ¬ upN n p=(⟨[]⟩:Str) from he))];have hend:∀ q:Str,sho q->((zO q).bind λ v44=>if(!v44)=true then(some (⟨[]⟩:Str)) else(some q))=some (if zg q=true then q else emptyS):=λ q hq=>by
    rw[xE hq,obS];cases zg q <;> rfl
   by_cases hm0:m=emptyS
   ·
    rw[if_pos hm0,if_neg (by simpa using(show m=(⟨[]⟩:Str) from hm0)),obS];exact hend _ (pkg_sho hu)
   ·
    rw[if_neg hm0,if_pos (by simpa using(show ¬ m=(⟨[]⟩:Str) from hm0)),Wo (by simp;omega),obS,Wo (by simp;omega),obS,obS];have e:(⟨(upN n p).l++([46]++m.l)⟩:Str)=child (upN n p) m:=by
     unfold child;rw[if_neg he];simp
    simp only[e];refine hend _ ?_;have:=child_len (upN n p) m;unfold sho;omega
theorem packageOf_eq{n:Str}(hn:zg n=true)(s:Spec):xm (⟨n,s.kind,[],false,false,[]⟩:GMod)=some (YC n s):=by
 unfold xm YC;simp only;cases cmpI .eql s.kind 1 with
 | false=>rfl
 | true=>rw[if_pos rfl,if_pos rfl,XF hn];rfl
theorem zbB{p:Str}{b:List Stmt}{k:Nat}{st:Stmt}(hx:b[k]?=some st):xn p (b.take (k+1))=xn p (b.take k)++(if zg (q6 p st)=true then[q6 p st] else[]):=by
 unfold xn;rw[List.take_add_one,hx,Option.toList_some,List.map_append,List.filter_append,List.map_singleton,List.filter_cons,List.filter_nil]
theorem needs_loop{n:Str}(hn:zg n=true){sp:Spec}{f:File}(hb:xG f.body=true):zB (λ s25=>wq n sp f s25) (([]:List Str),(0:Int))=some (xn (YC n sp) f.body):=by
 have hp:=zaT hn sp;have hlen:=Yn hb;have hst:∀ st∈f.body,yH st=true:=by
  unfold xG at hb;rw[Bool.and_eq_true] at hb;exact λ st h=>List.all_eq_true.1 hb.1 st h
 refine Ju (b:=xn (YC n sp) f.body) f.body.length (λ k=>(xn (YC n sp) (f.body.take k),(k:Int))) (λ k hk=>?_) ?_ (by omega) rfl
 ·
  obtain⟨st,hx,hm⟩:=get_some hk;have hs:=hst st hm;have hol:=Ym (YC n sp) (f.body.take k);rw[List.length_take] at hol;unfold wq;simp only;rw[zC,if_pos (decide_eq_true hk),zR,hx,obS,zF (by omega),zbB hx,packageOf_eq hn];generalize xn (YC n sp) (f.body.take k)=out at hol ⊢;have ha:∀ x:Str,appO 16 out [x]=some (out++[x]):=λ x=>wv (by simp;omega) (by simp;omega)
  unfold q6;rcases YK hs with⟨h1,h2⟩ | ⟨h1,h2,h3,h4⟩ | ⟨h1,h2,h3⟩
  ·
   rcases h1 with h1 | h1
   ·
    simp[cmpI,h1,h2,ha]
   ·
    simp[cmpI,h1,h2,ha]
  ·
   rw[obS,zbA hp h2 h3 h4,obS];generalize Wb (YC n sp) st.level st.module=q;unfold orE;by_cases hq:zg q=true
   ·
    have hne:q≠emptyS:=by intro e;rw[e,wA] at hq;cases hq
    have hne':¬ q=(⟨[]⟩:Str):=hne;simp[cmpI,h1,hq,hne',ha]
   ·
    have he:decide (emptyS≠(⟨[]⟩:Str))=false:=by decide
    simp[cmpI,h1,hq,he]
  ·
   simp[cmpI,h1,h2,h3,wA]
 ·
  unfold wq;simp only;rw[zC,if_neg (by simp),List.take_length]
section
variable{t:Tree}{path:List Int}
theorem FindSpec_ok(ht:xu t)(hp:path.length<=1048576){n:Str}(hn:sho n)(h:okG t path n=true):xT t path n=some (find t.files path n):=by
 rw[W9 ht hp hn];unfold Qb;rw[if_pos (by unfold okG at h;exact h)]
theorem FindSpec_bad(ht:xu t)(hp:path.length<=1048576){n:Str}(hn:sho n)(h:okG t path n=false):xT t path n=some XN:=by
 rw[W9 ht hp hn];unfold Qb;rw[if_neg (by unfold okG at h;rw[h];decide)]
theorem zbC(ht:xu t)(hp:path.length<=1048576){n:Str}(hn:sho n):qa t path n=some (if okG t path n=true then yq t.files path n else[]):=by
 unfold qa;cases hok:okG t path n with
 |
  false=>
  rw[FindSpec_bad ht hp hn hok,obS,if_pos (by decide),if_neg (by decide)]
 |
  true=>
  obtain⟨hv,_,hnv⟩:=xo hok;rw[FindSpec_ok ht hp hn hok,obS,if_pos rfl];unfold yq zar;cases hf:cmpI .lss (find t.files path n).file 0 with
  | true=>rfl
  |
   false=>
   obtain⟨f,h1,h2,_,h4⟩:=Wu hv hnv hf;have hb:=ZQ hv h2;have hl:=needs_loop hnv (sp:=find t.files path n) hb;have hbl:=Ym (YC n (find t.files path n)) f.body;have hfl:=Yn hb;simp only[Bool.false_eq_true,if_false];rw[atI_some hf h1,obS,hl,obS,Wc (by omega),obS,XG h1]
def edgesG(t:Tree)(path:List Int)(n:Str):List Str:=if okG t path n=true then zS t.files path n else[]
theorem JQ{s:Str}(h:zg s=true):xA s=some (y6 s):=by
 rw[NamesAbove_eq (yO h),if_pos h]
theorem zbD{l:List Str}(hv:∀ x∈l,zg x=true)(hl:l.length<=100):zB (λ s7=>wr l s7) (([]:List Str),(0:Int))=some (l.flatMap y6):=by
 have e:=fold_app y6 l [];rw[List.nil_append] at e;rw[← e];refine YY l (λ o x=>o++y6 x) (λ o=>o) 3 300 (λ out x hx=>?_) (λ k out x hx hm hk ho=>?_) (λ out=>?_) (by simp;omega) (by omega)
 ·
  have h2:=Z8 (hv x hx);simp only[List.length_append];omega
 ·
  have h2:=Z8 (hv x hm);unfold wr;simp only;rw[zC,if_pos (decide_eq_true hk),zR,hx,obS,JQ (hv x hm),obS,wv (by omega) (by omega),zF (by omega)];rfl
 ·
  unfold wr;simp only;rw[zC,if_neg (by simp)]
theorem EdgesOf_eq(ht:xu t)(hp:path.length<=1048576){n:Str}(hn:sho n):wl t path n=some (edgesG t path n):=by
 unfold wl edgesG;rw[zbC ht hp hn,obS];cases hok:okG t path n with
 | false=>rw[if_neg (by decide),if_neg (by decide),zbD (λ _ h=>by cases h) (Nat.zero_le _),obS,List.flatMap_nil,Wc (Nat.zero_le _)];rfl
 |
  true=>
  obtain⟨hv,_,hnv⟩:=xo hok;have h1:=YD hv (path:=path) hnv;have h2:=Xs (yq t.files path n) λ _ hy=>Zo hy
  rw[if_pos rfl,if_pos rfl,zbD (λ _ h=>Zo h) (by omega),obS,Wc (by omega),obS];rfl
theorem okG_name{s n:Str}(h:okG t path s=true)(hn:zg n=true):okG t path n=true:=by
 obtain⟨h1,h2,_⟩:=xo h;unfold okG;rw[h1,h2,hn];rfl
theorem Qi(ht:xu t)(hp:path.length<=1048576){s n:Str}(h:okG t path s=true)(hn:zg n=true):wl t path n=some (zS t.files path n):=by
 rw[EdgesOf_eq ht hp (yO hn)];unfold edgesG;rw[if_pos (okG_name h hn)]
theorem reach_eq(_ht:xu t){s:Str}(h:okG t path s=true){f:Str->Option (List Str)}(hf:∀ x,zg x=true->f x=some (zS t.files path x)){l:List Str}(hn:l.Nodup)(hl:∀ x∈l,x∈xV t.files s):qZ l f=some (Zw t.files path s l):=by
 obtain⟨hv,_,hs⟩:=xo h;have hw:=Je hv hs;have hll:=jj hn hl;unfold qZ;rw[Wc (by omega),show uniq l=l from zbv hn,obS];have h:zB (λ s10=>ju f s10) (l,(0:Int))=some (Zw t.files path s l):=by
  refine loop_grow (λ(o:List Str) k=>(o,(k:Int))) (zS t.files path) (xV t.files s) (ZR hv hs) (λ o=>o) (λ k out x hx ho hs'=>?_) (λ out ho hs'=>?_) hn hl (by omega) rfl
  ·
   have hxv:=Zp hs (hs' x (List.mem_of_getElem? hx));have hk:=(List.getElem?_eq_some_iff.1 hx).1;have hol:=jj ho hs';have hel:=XH hv (path:=path) hxv;unfold ju;simp only;rw[zC,if_pos (decide_eq_true hk),zR,hx,obS,hf x hxv,obS,wv (by omega) (by omega),obS,Wc (by rw[List.length_append];omega),obS,uniq_app ho,zF (by omega)];rfl
  ·
   unfold ju;simp only;rw[zC,if_neg (by simp)]
 rw[h];rfl
theorem zbE(ht:xu t)(hp:path.length<=1048576){n:Str}(hn:sho n):j9 t path n=some (okG t path n):=by
 unfold j9 okG;rw[QS ht,obS,QT hp,xE hn];cases zH t with
 | false=>rfl
 | true=>cases xl path <;> rfl
variable{s:Str}
theorem Qj(ht:xu t)(hp:path.length<=1048576)(hn:sho s):ji t path s=some (yc t path s):=by
 unfold ji;rw[zbE ht hp hn,obS];cases hok:okG t path s with
 | false=>unfold yc;rw[hok];rfl
 |
  true=>
  obtain⟨hv,_,hs⟩:=xo hok;have hlen:=qS hv (path:=path) hs;rw[if_neg (by decide),JQ hs,obS,reach_eq (s:=s) ht hok (λ x hx=>?_) (qR hs) (λ _ h=>qg h),obS,show Zw t.files path s (y6 s)=yn t path s from rfl,sorted_eq (Nat.le_trans hlen (by decide)),obS]
  ·
   unfold yc;rw[if_pos hok]
  ·
   unfold qb;rw[Qi ht hp hok hx];rfl
theorem zaw{step:List Str×Int->Option ((List Str×Int)⊕List Str)}(l:List Str)(p:Str->Bool)(hl:l.length<=1000)
  (h:∀ k out x,l[k]?=some x->x∈l->k<l.length->out.length<=1000->step (out,(k:Int))=some (.inl (if p x=true then out++[x] else out,((k+1:Nat):Int))))
  (hend:∀ out,step (out,(l.length:Int))=some (.inr out)):zB step (([]:List Str),(0:Int))=some (l.filter p):=by
 have e:l.filter p=l.foldl (λ o x=>if p x=true then o++[x] else o) []:=by
  rw[QZ p (λ o x=>o++[x]) l [],fold_app (λ x=>[x])];simp
 rw[e];refine YY l (λ o x=>if p x=true then o++[x] else o) (λ o=>o) 1 1000 (λ out x _=>?_) h hend (by simp;omega) (by omega);show(if p x=true then out++[x] else out).length<=out.length+1;split
 ·
  simp
 ·
  omega
theorem MissingOf_eq(ht:xu t)(hp:path.length<=1048576)(hn:sho s):qc t path s=some (jH t path s):=by
 have hlen:=Yb (t:=t) (path:=path) (s:=s);unfold qc;rw[Qj ht hp hn,obS];have hl:zB (λ s7=>xQ t path (yc t path s) s7) (([]:List Str),(0:Int))=some (jH t path s):=by
  refine zaw (yc t path s) (Yo t path) (by omega) (λ k out x hx hm hk ho=>?_) (λ out=>?_)
  ·
   obtain⟨hxv,hok⟩:=Wv hm;unfold xQ;simp only;rw[zC,if_pos (decide_eq_true hk),zR,hx,obS,CanFind_eq ht hp (yO hxv),obS,zF (by omega),show(!cmpI .neq (Qb t path x).kind 0)=Yo t path x by
    unfold Qb Yo;rw[if_pos (by have:=okG_name hok hxv;unfold okG at this;exact this)];show(!!((find t.files path x).kind == 0))=_;rw[Bool.not_not];rfl]
   cases Yo t path x with
   | false=>rfl
   | true=>rw[if_pos rfl,if_pos rfl,wv (by simp;omega) (by simp;omega)];rfl
  ·
   unfold xQ;simp only;rw[zC,if_neg (by simp)]
 rw[hl];rfl
theorem zbF(ht:xu t)(hp:path.length<=1048576)(hn:sho s):qe t path s=some (qz t path s):=by
 have hlen:=Yb (t:=t) (path:=path) (s:=s);unfold qe;rw[Qj ht hp hn,obS];have hl:zB (λ s8=>ws t path (yc t path s) s8) (([]:List Str),(0:Int))=some (qz t path s):=by
  refine zaw (yc t path s) (Z9 t path s) (by omega) (λ k out x hx hm hk ho=>?_) (λ out=>?_)
  ·
   obtain⟨hxv,hok⟩:=Wv hm;obtain⟨hv,_,hs⟩:=xo hok;have hsub:∀ y∈zS t.files path x,y∈xV t.files s:=λ _ h=>Zq hv hxv h
   have hrl:=Jf hv hs (path:=path) (XI x) hsub;have hf:∀ y,zg y=true->yX y t path=some (zS t.files path y):=λ y hy=>by
    unfold yX;rw[Qi ht hp hok hy];rfl
   unfold ws;simp only;rw[zC,if_pos (decide_eq_true hk),zR,hx,obS,hf x hxv,obS,reach_eq (s:=s) ht hok hf (XI x) hsub,obS,QY (by omega),obS,zF (by omega),show decide (x∈Zw t.files path s (zS t.files path x))=Z9 t path s x from rfl];cases Z9 t path s x with
   | false=>rfl
   | true=>rw[if_pos rfl,if_pos rfl,wv (by simp;omega) (by simp;omega)];rfl
  ·
   unfold ws;simp only;rw[zC,if_neg (by simp)]
 rw[hl];rfl
end
theorem sm_tree{t:Tree}(h:jl t<=1048576):xu t:=by
 have h1:jl t=qP t.files+0:=rfl;have h2:qP t.files=t.files.length+sumL qo t.files:=rfl;refine⟨by omega,λ f hf=>?_⟩;have h3:=X9 (f:=qo) hf;have h4:qo f=f.pkg.l.length+(f.name.l.length+(Zn f.body+(0))):=rfl;have h5:Zn f.body=f.body.length+sumL Wr f.body:=rfl;refine⟨by omega,by omega,by omega,λ s hs=>?_⟩;have h6:=X9 (f:=Wr) hs;have h7:Wr s=s.module.l.length+(s.name.l.length+(0)):=rfl;exact⟨by omega,by omega⟩
open Go.RowKit
variable{t:Tree}{path:List Int}{s:Str}
def Yq(t:Tree)(path:List Int)(P:List Str)(n:Str):Bool:=(zS t.files path n).all (λ k=>decide (k∈P))&&(decide (zA n=emptyS)||decide (zA n∈P))
def XT(t:Tree)(path:List Int)(P:List Str)(n:Str):Bool:=!decide (n∈P)&&Yq t path P n
def qT(t:Tree)(path:List Int)(s:Str)(P:List Str):List Str:=(yc t path s).filter (XT t path P)
def layF(t:Tree)(path:List Int)(s:Str):Nat->List Str->List (List Str)->List (List Str)
 | 0,_,_=>[]
 | m+1,P,acc=>if P.length<(yc t path s).length then(if qT t path s P=[] then[] else layF t path s m (P++qT t path s P) (acc++[qT t path s P])) else acc
def jP(t:Tree)(path:List Int)(s:Str):List (List Str):=if okG t path s=true then layF t path s 301 [] [] else[]
structure Lay(t:Tree)(path:List Int)(s:Str)(P:List Str)(acc:List (List Str)):Prop where
 nodup:P.Nodup
 sub:∀ x∈P,x∈yc t path s
 flat:P=acc.flatten
 down:∀ (i:Nat) (n:Str),P[i]?=some n->∀ k∈zS t.files path n,∃ j,j<i/\P[j]?=some k
 lay:∀ (i:Nat) (L:List Str),acc[i]?=some L->L≠[]/\Asc L/\∀ n∈L,n ∉ (acc.take i).flatten/\Yq t path (acc.take i).flatten n=true
theorem reachL_nodup:(yc t path s).Nodup:=asc_nodup Qh
theorem lay_nil:Lay t path s [] []:=⟨List.Pairwise.nil,(λ _ h=>by cases h),rfl,(λ _ _ h=>by cases h),(λ _ _ h=>by cases h)⟩
theorem YZ{P:List Str}{n:Str}:n∈qT t path s P ↔ n∈yc t path s/\n ∉ P/\Yq t path P n=true:=by
 unfold qT XT;rw[List.mem_filter,Bool.and_eq_true];simp
theorem leadsIn_edge{P:List Str}{n k:Str}(h:Yq t path P n=true)(hk:k∈zS t.files path n):k∈P:=by
 unfold Yq at h;rw[Bool.and_eq_true] at h;exact oD (List.all_eq_true.1 h.1 k hk)
theorem Lay.next{P:List Str}{acc:List (List Str)}(h:Lay t path s P acc)(hne:qT t path s P≠[]):Lay t path s (P++qT t path s P) (acc++[qT t path s P]) where
 nodup:=by
  rw[List.nodup_append];exact⟨h.nodup,reachL_nodup.filter _,λ a ha b hb e=>(YZ.1 hb).2.1 (e ▸ ha)⟩
 sub x hx:=(List.mem_append.1 hx).elim (h.sub x) λ hx=>(YZ.1 hx).1
 flat:=by rw[List.flatten_append,← h.flat];simp
 down i n hi k hk:=by
  rcases Nat.lt_or_ge i P.length with hlt | hge
  ·
   rw[List.getElem?_append_left hlt] at hi;obtain⟨j,hj,e⟩:=h.down i n hi k hk;exact⟨j,hj,by rw[List.getElem?_append_left (by omega)];exact e⟩
  ·
   rw[List.getElem?_append_right hge] at hi;obtain⟨j,e⟩:=List.getElem?_of_mem (leadsIn_edge (YZ.1 (List.mem_of_getElem? hi)).2.2 hk);have:=zL e;exact⟨j,by omega,by rw[List.getElem?_append_left this];exact e⟩
 lay i L hi:=by
  rcases Nat.lt_or_ge i acc.length with hlt | hge
  ·
   rw[List.getElem?_append_left hlt] at hi;rw[List.take_append_of_le_length (Nat.le_of_lt hlt)];exact h.lay i L hi
  ·
   rw[List.getElem?_append_right hge] at hi;have h0:i - acc.length=0:=by
    have:=zL hi;simp at this;omega
   have hi2:i=acc.length:=by omega
   subst hi2;rw[Nat.sub_self] at hi;injection hi with hi;subst hi;rw[List.take_left,← h.flat];exact⟨hne,zbt _ Qh,λ n hn=>⟨(YZ.1 hn).2.1,(YZ.1 hn).2.2⟩⟩
theorem zbG:∀ (m:Nat) (P:List Str) (acc:List (List Str)),Lay t path s P acc->layF t path s m P acc=[]\/∃ Q,Lay t path s Q (layF t path s m P acc)/\(yc t path s).length<=Q.length:=by
 intro m
 induction m with
 | zero=>intro P acc _;exact .inl rfl
 |
  succ m ih=>
  intro P acc h;unfold layF;split
  ·
   split
   ·
    exact .inl rfl
   ·
    rename_i hne;exact ih _ _ (h.next hne)
  ·
   rename_i hge;exact .inr ⟨P,h,by omega⟩
theorem Lay.all{P:List Str}{acc:List (List Str)}(h:Lay t path s P acc)(hl:(yc t path s).length<=P.length):∀ x∈yc t path s,x∈P:=λ x hx=>by
 refine Classical.byContradiction λ hn=>?_
 have:=jj (l:=x::P) (m:=yc t path s) (List.nodup_cons.2 ⟨hn,h.nodup⟩) λ y hy=>(List.mem_cons.1 hy).elim (λ e=>e ▸ hx) (h.sub y)
 simp at this;omega
theorem Lay.length{P:List Str}{acc:List (List Str)}(h:Lay t path s P acc):P.length<=(yc t path s).length:=jj h.nodup h.sub
theorem Lay.noRing{P:List Str}{acc:List (List Str)}(h:Lay t path s P acc)(hok:okG t path s=true)(hl:(yc t path s).length<=P.length):qz t path s=[]:=by
 obtain⟨hv,_,hs⟩:=xo hok;unfold qz;rw[List.filter_eq_nil_iff];intro n hn hr;obtain⟨i,hi⟩:=List.getElem?_of_mem (h.all hl n hn);have hna:=(Ya hok).1 hn;have hE:∀ x∈zS t.files path n,x∈xV t.files s:=λ x hx=>Zq hv (jI hv hs hna) hx
 unfold Z9 at hr;have hw:=(YE (path:=path) hv hs (Qe _) hE).1 (oD hr);have key:∀ x,Way (zS t.files path) (zS t.files path n) x->∃ j,j<i/\P[j]?=some x:=by
  intro x hx
  induction hx with
  | here hx=>exact h.down i n hi _ hx
  |
   step _ hy ih=>
   obtain⟨j,hj,e⟩:=ih;obtain⟨j2,hj2,e2⟩:=h.down j _ e _ hy;exact⟨j2,by omega,e2⟩
 obtain⟨j,hj,e⟩:=key n hw;obtain⟨a1,a2⟩:=List.getElem?_eq_some_iff.1 e;obtain⟨b1,b2⟩:=List.getElem?_eq_some_iff.1 hi;have:=(List.getElem_inj h.nodup).1 (a2.trans b2.symm);omega
theorem layers_ring(h:qz t path s≠[]):jP t path s=[]:=by
 unfold jP;split
 ·
  rename_i hok;rcases zbG (t:=t) (path:=path) (s:=s) 301 [] [] lay_nil with e | ⟨Q,hQ,hl⟩
  ·
   exact e
  ·
   exact absurd (hQ.noRing hok hl) h
 ·
  rfl
open Go.RowKit
theorem eqSS_eq{x y:List (List Str)}(h:x.length<=1048576)(he:∀ l∈x,l.length<=1048576):yE x y=some (decide (x=y)):=by
 unfold yE;refine Ja (λ k hk hk2=>?_) ?_ (by omega)
 ·
  unfold wj;have h1:=he x[k] (List.getElem_mem hk);simp only[ZA hk,if_true,qf hk,qf hk2,obS,Ws (x:=x[k]) (y:=y[k]) (by omega),zF (show k<4611686018427387904 by omega)];by_cases e:x[k]=y[k] <;> simp[e]
 ·
  unfold wj;rw[Yl];rfl
theorem markSS_ok{x:List (List Str)}{k:Int}(h:x.length<=1048576)(he:∀ l∈x,l.length<=1048576)(h0:0<=k)(hB:k<=576460752303423488):∃ y k',xP x k=some (y,k')/\k<=k'/\yz y k=some k':=by
 have hl:=mark_loop (held:=λ y s=>yW y s) (step:=λ s=>yV s) (λ ys k=>(ys,k)) x 1048576 594475150812905472 (λ ys k i hi hn hm h1 h2=>?_) (λ ys k hn=>?_) (λ ys k hn=>?_) (by omega) h0 (by omega)
 ·
  obtain⟨ys,k',r1,r2,r3,r4,r5⟩:=hl;refine⟨ys,k',?_,r3,?_⟩
  ·
   unfold xP;rw[r1];rfl
  ·
   unfold yz;rw[r5];rfl
 ·
  unfold yV;have hl0:=he _ hm;obtain⟨y0,k0,e0,a0,b0,c0⟩:=Jc (x:=ys[i]) (k:=k) (by omega) (by omega) (by omega);refine⟨_,_,by simp only[ZA hi,if_true,qf hi,obS,ZE,e0,zF (show i<4611686018427387904 by omega)];rfl,by omega,by omega,λ zs hz hzi=>?_⟩;unfold yW;have hk0:cmpI .lss k0 (0:Int)=false:=by simp only[cmpI,decide_eq_false_iff_not];omega
  simp only[lss_at' hz (show i<x.length by omega),if_true,zR,hzi,obS,c0,hk0,Bool.false_eq_true,if_false,zF (show i<4611686018427387904 by omega)]
 ·
  unfold yV;simp only[Xr hn];rfl
 ·
  unfold yW;simp only[Xr hn];rfl
theorem tail_rows{g:List (List Str)}(hg:g.length<=1048576)(he:∀ l∈g,l.length<=1048576){H:Option (List (List Str))}(hH:H=some g):
  ((
   xP g (1:Int)).bind λ v86=>
   (yz v86.1 (1:Int)).bind λ v90=>
   if(cmpI .lss v90 (0:Int))=true then(some false)
   else(if(cmpI .neq v90 v86.2)=true then(some false)
   else(H.bind λ v103=>
   (yE v103 g).bind λ v108=>
   if(!v108)=true then(some false)
   else((yz v86.1 (1:Int)).bind λ v115=>
   if(cmpI .lss v115 (0:Int))=true then(some false)
   else(if(cmpI .neq v115 v86.2)=true then(some false)
   else(some true))))))=some true:=by
 obtain⟨y,k',h1,h2,h4⟩:=markSS_ok (x:=g) (k:=1) hg he (by omega) (by omega);have h5:cmpI .lss k' 0=false:=by simp[cmpI];omega
 simp only[h1,obS,h4,h5,neq_self,hH,eqSS_eq (x:=g) (y:=g) hg he,Bool.false_eq_true,if_false,decide_true,Bool.not_true]
theorem tail_ob{g:List Str×Bool}(hg:g.1.length<=1125899906842624){H:Option (List Str×Bool)}(hH:H=some g):
  ((
   xi g.1 (1:Int)).bind λ v86=>
   (ym v86.1 (1:Int)).bind λ v90=>
   if(cmpI .lss v90 (0:Int))=true then(some false)
   else(if(cmpI .neq v90 v86.2)=true then(some false)
   else(H.bind λ v103=>
   (yx v103.1 g.1).bind λ v108=>
   if((!v108)||(v103.2 != g.2))=true then(some false)
   else((ym v86.1 (1:Int)).bind λ v115=>
   if(cmpI .lss v115 (0:Int))=true then(some false)
   else(if(cmpI .neq v115 v86.2)=true then(some false)
   else(some true))))))=some true:=by
 obtain⟨y,k',h1,h2,h3,h4⟩:=Jc (x:=g.1) (k:=1) hg (by omega) (by omega);have h5:cmpI .lss k' 0=false:=by simp[cmpI];omega
 simp only[h1,obS,h4,h5,neq_self,hH,Ws (x:=g.1) (y:=g.1) (by omega),Bool.false_eq_true,if_false,decide_true,Bool.not_true,bne_self_eq_false,Bool.or_self]
open Go.RowKit
variable{t:Tree}{path:List Int}{s:Str}
theorem layFlat{l:List (List Str)}(h:∀ x∈l,x≠[]):l.length<=l.flatten.length:=by
 induction l with
 | nil=>exact Nat.le_refl _
 |
  cons x l ih=>
  have h1:=ih λ y hy=>h y (List.mem_cons_of_mem _ hy)
  have h2:=List.length_pos_iff.2 (h x (List.mem_cons_self ..));rw[List.flatten_cons,List.length_append,List.length_cons];omega
theorem Lay.ne{P:List Str}{acc:List (List Str)}(h:Lay t path s P acc):∀ x∈acc,x≠[]:=λ x hx=>by
 obtain⟨i,hi⟩:=List.getElem?_of_mem hx;exact(h.lay i x hi).1
theorem Lay.accLen{P:List Str}{acc:List (List Str)}(h:Lay t path s P acc):acc.length<=P.length:=by
 have:=layFlat h.ne;rw[← h.flat] at this;exact this
theorem Lay.small{P:List Str}{acc:List (List Str)}(h:Lay t path s P acc):P.length<=300:=Nat.le_trans h.length Yb
theorem nextL_len(P:List Str):(qT t path s P).length<=300:=Nat.le_trans (List.length_filter_le _ _) Yb
theorem JR(h:okG t path s=true):(yn t path s).length=(yc t path s).length:=by
 obtain⟨_,_,hs⟩:=xo h;exact Nat.le_antisymm (jj (reachA_nodup hs) λ x hx=>(Ya h).2 hx) (jj reachL_nodup λ x hx=>(Ya h).1 hx)
theorem lay_iter{S:Type}{step:S->Option (S⊕(List (List Str)⊕List (List Str)))}(mk:List Str->List (List Str)->S)
  (h1:∀ P acc,Lay t path s P acc->P.length<(yc t path s).length->step (mk P acc)=if qT t path s P=[] then some (.inr (.inr [])) else some (.inl (mk (P++qT t path s P) (acc++[qT t path s P]))))
  (h2:∀ P acc,Lay t path s P acc->(yc t path s).length<=P.length->step (mk P acc)=some (.inr (.inl acc))):
  ∀ (m:Nat) (P:List Str) (acc:List (List Str)),Lay t path s P acc->(yc t path s).length<m+P.length->∃ r,wi step m (mk P acc)=some r/\Sum.elim (λ b=>some b) some r=some (layF t path s m P acc)
 | 0,P,acc,hL,hm=>by have:=hL.length;omega
 |
  m+1,P,acc,hL,hm=>by
  unfold layF;by_cases hlt:P.length<(yc t path s).length
  ·
   rw[if_pos hlt];have h3:=h1 P acc hL hlt;by_cases hn:qT t path s P=[]
   ·
    rw[if_pos hn] at h3 ⊢;exact⟨_,yf h3,rfl⟩
   ·
    rw[if_neg hn] at h3 ⊢;rw[wc h3];refine lay_iter mk h1 h2 m _ _ (hL.next hn) ?_;have:=List.length_pos_iff.2 hn;rw[List.length_append];omega
  ·
   rw[if_neg hlt];exact⟨_,yf (h2 P acc hL (by omega)),rfl⟩
theorem lay_loop{S:Type}{step:S->Option (S⊕(List (List Str)⊕List (List Str)))}(mk:List Str->List (List Str)->S)(hok:okG t path s=true)
  (h1:∀ P acc,Lay t path s P acc->P.length<(yc t path s).length->step (mk P acc)=if qT t path s P=[] then some (.inr (.inr [])) else some (.inl (mk (P++qT t path s P) (acc++[qT t path s P]))))
  (h2:∀ P acc,Lay t path s P acc->(yc t path s).length<=P.length->step (mk P acc)=some (.inr (.inl acc))):
  Option.bind (zB step (mk [] [])) (Sum.elim (λ b=>some b) some)=some (jP t path s):=by
 have hl:(yc t path s).length<=300:=Yb;obtain⟨r,e1,e2⟩:=lay_iter mk h1 h2 301 [] [] lay_nil (by simp;omega);rw[wm e1 (by decide),obS,e2];unfold jP;rw[if_pos hok]
theorem hasAll_loop{l P:List Str}(hl:l.length<=1000)(hP:P.length<=1000):zB (λ s7=>yC P l s7) (0:Int)=some (if l.all (λ k=>decide (k∈P))=true then .inl () else .inr false):=by
 have:=YB (step:=λ s7=>yC P l s7) l (λ k=>!decide (k∈P)) (Sum.inr false:Unit⊕Bool) (.inl ()) (λ k x hx hk=>?_) ?_ (by omega) rfl
 ·
  rw[this]
  congr 1
  rw[← List.not_all_eq_any_not];cases l.all (λ k=>decide (k∈P)) <;> rfl
 ·
  unfold yC;rw[zC,if_pos (decide_eq_true hk),zR,hx,obS,xU (by omega),obS,zF (by omega)];cases decide (x∈P) <;> rfl
 ·
  unfold yC;rw[zC,if_neg (by simp)]
theorem zbH(hv:zH t=true)(hp:path.length<=1048576){n:Str}(hn:zg n=true){P:List Str}(hP:P.length<=1000):xY t path n P=some (Yq t path P n):=by
 unfold xY;have hpar:zU n=some (zA n):=if_pos (yO hn).mid;have hlen:=XH (path:=path) hv hn;rw[XS hv hp hn,obS,hasAll_loop (by omega) hP,obS];unfold Yq;cases(zS t.files path n).all (λ k=>decide (k∈P)) with
 | false=>rfl
 |
  true=>
  rw[if_pos rfl];show((zU n).bind λ v27=>_)=_;rw[hpar,obS,Bool.true_and];by_cases he:zA n=emptyS
  ·
   have h1:decide (zA n=(⟨[]⟩:Str))=true:=decide_eq_true he;rw[h1];rw[show decide (zA n=emptyS)=true from h1];rfl
  ·
   have h1:decide (zA n=(⟨[]⟩:Str))=false:=decide_eq_false he;rw[h1,show decide (zA n=emptyS)=false from h1];show((some (zA n)).bind λ v28=>(ya P v28).bind λ v29=>some (false||v29))=_;rw[obS,xU (by omega),obS]
theorem spec_layer_eq(hp:path.length<=1048576)(hok:okG t path s=true){P:List Str}{acc:List (List Str)}(hL:Lay t path s P acc):zB (λ s29=>xZ t path (yn t path s) (P,acc) s29) (([]:List Str),(0:Int))=some (qT t path s P):=by
 obtain⟨hv,_,hs⟩:=xo hok;have hP:=hL.small;have hlen:=qS hv (path:=path) hs;unfold qT;rw[← zat hok];refine ins_loop (yn t path s) (XT t path P) (by omega) (λ k out x hx hm hk ho=>?_) λ out=>?_
 ·
  have hxv:zg x=true:=jI hv hs hm;unfold xZ XT;simp only;rw[zC,if_pos (decide_eq_true hk),zR,hx,obS,xU (by omega),obS,zF (by omega)];by_cases hin:x∈P
  ·
   rw[decide_eq_true hin];rfl
  ·
   rw[decide_eq_false hin];show(Option.bind ((some x).bind λ v37=>(xY t path v37 P).bind λ v38=>if(true&&v38)=true then((some x).bind λ v46=>(xB out v46).bind λ v51=>some v51) else some out) λ o34=>_)=_;rw[obS,zbH hv hp hxv (by omega),obS];cases Yq t path P x with
   | false=>rfl
   |
    true=>
    rw[if_pos (show(true&&true)=true from rfl),obS,Jh ho];rfl
 ·
  unfold xZ;simp only;rw[zC,if_neg (by simp)]
theorem zax(ht:xu t)(hp:path.length<=1048576)(hn:sho s):jv t path s=some (jP t path s):=by
 unfold jv;refine zav t path s ht hn (λ h=>by unfold jP;rw[if_neg (by simp[h])]) λ h=>?_
 obtain⟨hv,_,hs⟩:=xo h;rw[Yp hs,obS,Xt hv hp hs,obS];refine lay_loop (step:=λ s20=>x8 t path (yn t path s) s20) (λ P acc=>(P,acc)) h (λ P acc hL hlt=>?_) λ P acc hL hge=>?_
 ·
  have hP:=hL.small;have hA:=hL.accLen;have hN:=nextL_len (t:=t) (path:=path) (s:=s) P;unfold x8;simp only;rw[zC,if_pos (decide_eq_true (by rw[JR h];exact hlt)),spec_layer_eq hp h hL,obS];by_cases hne:qT t path s P=[]
  ·
   rw[if_pos hne,hne];rfl
  ·
   rw[if_neg hne,if_neg (by
    have:=List.length_pos_iff.2 hne;simp only[cmpI,beq_iff_eq];omega),wv (by omega) (by omega),obS,wv (by simp;omega) (by simp;omega),obS]
 ·
  unfold x8;simp only;rw[zC,if_neg (by rw[JR h];simpa using hge)]
theorem ready_loop{acc:List (List Str)}{M l:List Str}(b:Bool)(hl:l.length<=1000):zB (λ s63=>yK (acc,M) l s63) (b,(0:Int))=some (b&&l.all (λ k=>decide (k∈M))):=by
 have:=loop_fold (step:=λ s63=>yK (acc,M) l s63) l (λ(b:Bool) k=>(b,(k:Int))) (λ b k=>b&&decide (k∈M)) (λ b=>b) (λ _ _=>True) (λ k b x hx hk _=>?_) (λ b _=>?_) (s0:=b) trivial (by omega)
 ·
  rw[show(b,(0:Int))=(b,((0:Nat):Int)) from rfl,this]
  congr 1
  clear this
  induction l generalizing b with
  | nil=>simp
  | cons x l ih=>rw[List.foldl_cons,ih _ (by simp at hl;omega),List.all_cons,Bool.and_assoc]
 ·
  refine⟨?_,trivial⟩;unfold yK;simp only;rw[zC,if_pos (decide_eq_true hk),zR,hx,obS,zF (by omega)];rfl
 ·
  unfold yK;simp only;rw[zC,if_neg (by simp)]
theorem lay_put{l M:List Str}(hn:l.Nodup)(hM:∀ x∈l,x ∉ M)(hl:l.length<=1000)(hm:M.length<=1000):zB (λ s103=>wa l s103) (M,(0:Int))=some (l.reverse++M):=by
 refine Ju l.length (λ k=>((l.take k).reverse++M,(k:Int))) (λ k hk=>?_) ?_ (by omega) (by simp)
 ·
  unfold wa;simp only;have hx:=List.getElem?_eq_getElem hk;have hnot:l[k] ∉ (l.take k).reverse++M:=λ h=>by
   rcases List.mem_append.1 h with h | h
   ·
    rw[List.mem_reverse] at h;obtain⟨j,hj⟩:=List.getElem?_of_mem h;rw[List.getElem?_take] at hj;split at hj
    ·
     rename_i hjk;obtain⟨h1,h2⟩:=List.getElem?_eq_some_iff.1 hj;have:=(List.getElem_inj hn).1 h2;omega
    ·
     cases hj
   ·
    exact hM _ (List.getElem_mem hk) h
  rw[zC,if_pos (decide_eq_true hk),zR,hx,obS];have hput:Yj ((l.take k).reverse++M) l[k]=some (l[k]::((l.take k).reverse++M)):=by
   unfold Yj;rw[if_neg hnot,if_pos (by simp;omega)]
  rw[hput,obS,zF (by omega),List.take_succ_eq_append_getElem hk,List.reverse_append];rfl
 ·
  unfold wa;simp only;rw[zC,if_neg (by simp),List.take_length]
theorem impl_layer_eq(ht:xu t)(hp:path.length<=1048576)(hok:okG t path s=true){P:List Str}{acc:List (List Str)}(hL:Lay t path s P acc):zB (λ s28=>x9 t path (yc t path s) (acc,P.reverse) s28) (([]:List Str),(0:Int))=some (qT t path s P):=by
 obtain⟨hv,_,hs⟩:=xo hok;have hP:=hL.small;have hlen:=Yb (t:=t) (path:=path) (s:=s);unfold qT;refine zaw (yc t path s) (XT t path P) (by omega) (λ k out x hx hm hk ho=>?_) λ out=>?_
 ·
  obtain⟨hxv,hok2⟩:=Wv hm;have he:=XH (path:=path) hv hxv;unfold x9;simp only;rw[zC,if_pos (decide_eq_true hk),zR,hx,obS,Qi ht hp hok2 hxv,obS,XF hxv,obS,zF (by omega)];have hmem:∀ y:Str,decide (y∈P.reverse)=decide (y∈P):=λ y=>by simp
  have hall:∀ l:List Str,l.all (λ k=>decide (k∈P.reverse))=l.all (λ k=>decide (k∈P)):=λ l=>by simp
  have fin:∀ l:List Str,l.length<=1000->(!decide (x∈P)&&l.all (λ k=>decide (k∈P)))=XT t path P x->(Option.bind (α:=List Str) (Option.bind (α:=Bool) (zB (λ s63=>yK (acc,P.reverse) l s63) ((!decide (x∈P.reverse)),(0:Int))) λ o61=>if o61=true then((appO 16 out ([x]:List Str)).bind λ v83=>some v83) else(some out)) λ o33=>(some ((k+1:Nat):Int)).bind λ v88=>some (Sum.inl (o33,v88):(List Str×Int)⊕List Str))=some (.inl (if XT t path P x=true then out++[x] else out,((k+1:Nat):Int))):=λ l hl e=>by
   rw[ready_loop _ hl,obS,hmem,hall,e];cases XT t path P x with
   | false=>rfl
   | true=>rw[if_pos rfl,if_pos rfl,wv (by simp;omega) (by simp;omega)];rfl
  by_cases hpe:zA x=emptyS
  ·
   rw[if_neg (by simp[show zA x=(⟨[]⟩:Str) from hpe]),obS];refine fin _ (by omega) ?_;unfold XT Yq;rw[decide_eq_true hpe,Bool.true_or,Bool.and_true]
  ·
   rw[if_pos (decide_eq_true (show zA x≠(⟨[]⟩:Str) from hpe)),wv (by simp;omega) (by simp;omega),obS,obS];refine fin _ (by simp;omega) ?_;unfold XT Yq;rw[decide_eq_false hpe,Bool.false_or,List.all_append,List.all_cons,List.all_nil,Bool.and_true]
 ·
  unfold x9;simp only;rw[zC,if_neg (by simp)]
theorem LayersOf_eq(ht:xu t)(hp:path.length<=1048576)(hn:sho s):wz t path s=some (jP t path s):=by
 unfold wz;rw[Qj ht hp hn,obS,zbF ht hp hn,obS];by_cases hr:qz t path s=[]
 ·
  rw[hr,if_neg (by decide)];cases hok:okG t path s with
  |
   false=>
   have e:yc t path s=[]:=by unfold yc;rw[hok];rfl
   have e2:jP t path s=[]:=by unfold jP;rw[hok];rfl
   have e3:xj t path [] ([],[])=some (.inr (.inl [])):=rfl;rw[e,e2,wm (m:=1) (yf e3) (by decide)];rfl
  |
   true=>
   refine lay_loop (step:=λ s19=>xj t path (yc t path s) s19) (λ P acc=>(acc,P.reverse)) hok (λ P acc hL hlt=>?_) λ P acc hL hge=>?_
   ·
    have hP:=hL.small;have hA:=hL.accLen;have hN:=nextL_len (t:=t) (path:=path) (s:=s) P;unfold xj;simp only;rw[zC,List.length_reverse,if_pos (decide_eq_true hlt),impl_layer_eq ht hp hok hL,obS];by_cases hne:qT t path s P=[]
    ·
     rw[if_pos hne,hne];rfl
    ·
     rw[if_neg hne,if_neg (by
      have:=List.length_pos_iff.2 hne;simp only[cmpI,beq_iff_eq];omega),lay_put (l:=qT t path s P) (reachL_nodup.filter _) (λ x hx=>by rw[List.mem_reverse];exact(YZ.1 hx).2.1) (by omega) (by simp;omega),obS,wv (by simp;omega) (by simp;omega),obS,List.reverse_append]
   ·
    unfold xj;simp only;rw[zC,List.length_reverse,if_neg (by simpa using hge)]
 ·
  rw[if_pos (by
   have:=List.length_pos_iff.2 hr;simp only[cmpI,decide_eq_true_eq];omega),layers_ring hr]
theorem layersL_size(t:Tree)(path:List Int)(s:Str):(jP t path s).length<=1000/\∀ l∈jP t path s,l.length<=1000:=by
 unfold jP;split
 ·
  rcases zbG (t:=t) (path:=path) (s:=s) 301 [] [] lay_nil with e | ⟨Q,hQ,_⟩
  ·
   rw[e];exact⟨by simp,λ _ h=>by cases h⟩
  ·
   have h1:=hQ.accLen;have h2:=hQ.small;refine⟨by omega,λ l hl=>?_⟩;have h3:=hQ.flat;have h4:l.length<=(layF t path s 301 [] []).flatten.length:=by
    have:∀ (a:List (List Str)),l∈a->l.length<=a.flatten.length:=λ a=>by
     induction a with
     | nil=>intro h;cases h
     |
      cons x a ih=>
      intro h;rw[List.flatten_cons,List.length_append];rcases List.mem_cons.1 h with rfl | h
      ·
       omega
      ·
       have:=ih h;omega
    exact this _ hl
   rw[← h3] at h4;omega
 ·
  exact⟨by simp,λ _ h=>by cases h⟩
open Go.RowKit
variable{t:Tree}{path:List Int}{s:Str}
theorem Jw(s:Str):1<=(zl s dot).length:=by have:=Xd s dot;omega
theorem ZS{s:Str}(h:zg s=true)(hp:zA s≠emptyS):(zl (zA s) dot).length+1=(zl s dot).length/\zg (zA s)=true:=by
 obtain⟨h1,h2⟩:=yN h;have h0:=Jw s;by_cases e:(zl s dot).length=1
 ·
  exfalso
  apply hp;unfold zA;rw[e];rfl
 ·
  have hne:(zl s dot).take ((zl s dot).length - 1)≠[]:=λ e1=>by
   have:=congrArg List.length e1;rw[List.length_take,List.length_nil] at this;omega
  have hv:∀ x∈(zl s dot).take ((zl s dot).length - 1),zJ x=true:=λ x hx=>h1 x (List.mem_of_mem_take hx)
  constructor
  ·
   unfold zA;rw[Z7 hne hv,List.length_take];omega
  ·
   exact Wp hne (by rw[List.length_take];omega) hv
theorem get_snoc{α:Type}{l:List α}{x y:α}{i:Nat}(h:(l++[x])[i]?=some y):l[i]?=some y\/(i=l.length/\y=x):=by
 by_cases h1:i<l.length
 ·
  rw[List.getElem?_append_left h1] at h;exact .inl h
 ·
  rw[List.getElem?_append_right (by omega)] at h;have h2:i - l.length=0:=by have:=zL h;simp at this;omega
  rw[h2] at h;injection h with h;exact .inr ⟨by omega,h.symm⟩
theorem valid_ne{s:Str}(h:zg s=true):¬ s=(⟨[]⟩:Str):=λ e=>by rw[e,show zg (⟨[]⟩:Str)=false from rfl] at h;cases h
theorem parent_one(hs:zg s=true)(h:zA s=emptyS):zl s dot=[s]:=by
 obtain⟨h1,h2⟩:=yN hs;have h0:=Jw s;have hj:=Z6 s;by_cases e:(zl s dot).length=1
 ·
  cases hl:zl s dot with
  | nil=>rw[hl] at e;cases e
  |
   cons x l=>
   rw[hl] at e hj;have:l=[]:=List.eq_nil_of_length_eq_zero (by simpa using e);subst this;rw[← hj];cases x;rfl
 ·
  exfalso
  have hv:=Wp (l:=(zl s dot).take ((zl s dot).length - 1)) (λ e1=>by
   have:=congrArg List.length e1;rw[List.length_take,List.length_nil] at this;omega) (by rw[List.length_take];omega) λ x hx=>h1 x (List.mem_of_mem_take hx)
  have h':join ((zl s dot).take ((zl s dot).length - 1))=emptyS:=h;rw[h'] at hv;cases hv
theorem split_up(hs:zg s=true)(h:zA s≠emptyS):zl s dot=zl (zA s) dot++[Xe s]:=by
 obtain⟨h1,_⟩:=yN hs;obtain⟨h2,_⟩:=ZS hs h;have h0:=Jw (zA s);have e:zl (zA s) dot=(zl s dot).take ((zl s dot).length - 1):=by
  unfold zA;exact Z7 (λ e1=>by
   have:=congrArg List.length e1;rw[List.length_take,List.length_nil] at this;omega) λ x hx=>h1 x (List.mem_of_mem_take hx)
 rw[e];have hg:=last_get s;have:=List.take_append_getElem (l:=zl s dot) (i:=(zl s dot).length - 1) (by omega);rw[show(zl s dot).length - 1+1=(zl s dot).length by omega,List.take_length] at this;rw[List.getElem?_eq_getElem (by omega)] at hg;injection hg with hg;rw[hg] at this;exact this.symm
theorem above_one(hs:zg s=true)(h:zA s=emptyS):y6 s=[s]:=by
 unfold y6;have hj:=Z6 s;rw[parent_one hs h] at hj ⊢;show[join [s]]=[s];rw[hj]
theorem above_up(hs:zg s=true)(h:zA s≠emptyS):y6 s=y6 (zA s)++[s]:=by
 obtain⟨e1,_⟩:=ZS hs h;unfold y6;have hsp:=split_up hs h;rw[show(zl s dot).length=(zl (zA s) dot).length+1 by omega,XL]
 congr 1
 ·
  unfold qr;refine List.map_congr_left λ j hj=>?_
  have:=List.mem_range.1 hj;rw[hsp,List.take_append_of_le_length (by omega)]
 ·
  rw[show(zl (zA s) dot).length+1=(zl s dot).length by omega,List.take_length,Z6]
theorem zay:∀ (k:Nat) {n:Str},(zl n dot).length=k->zg n=true->(∀ x∈y6 n,zA x≠emptyS->zA x∈y6 n)/\True:=by
 intro k
 induction k with
 | zero=>intro n hk;have:=Jw n;omega
 |
  succ k ih=>
  intro n hk hn;refine⟨λ x hx hp=>?_,trivial⟩;by_cases h:zA n=emptyS
  ·
   rw[above_one hn h] at hx;simp only[List.mem_singleton] at hx;rw[hx] at hp;exact absurd h hp
  ·
   obtain⟨e1,e2⟩:=ZS hn h;obtain⟨h1,_⟩:=ih (by omega) e2;rw[above_up hn h] at hx ⊢;rcases List.mem_append.1 hx with hx | hx
   ·
    exact List.mem_append_left _ (h1 x hx hp)
   ·
    simp only[List.mem_singleton] at hx;rw[hx];exact List.mem_append_left _ (Qc _)
theorem edge_par{x y:Str}(h:y∈zS t.files path x)(hp:zA y≠emptyS):zA y∈zS t.files path x:=by
 unfold zS at h ⊢;obtain⟨z,hz,hy⟩:=List.mem_flatMap.1 (Wa.1 h);exact Wa.2 (List.mem_flatMap.2 ⟨z,hz,(zay _ rfl (Zo hz)).1 y hy hp⟩)
open Go.RowKit
def ZT(need:Str->List Str):Nat->List Str->Str->Option (List Str)
 | 0,_,_=>none
 | n+1,out,s=>if s∈out then some out else(if zA s=emptyS then some out else ZT need n out (zA s)).bind λ o=>if s∈o then some o else((need s).foldlM (ZT need n) o).bind λ o=>some (o++[s])
def ZB(need:Str->List Str):Nat->List Str×List Str->Str->Option (List Str×List Str)
 | 0,_,_=>none
 | n+1,p,s=>if s=emptyS\/s∈p.1 then some p else(ZB need n (s::p.1,p.2) (zA s)).bind λ p=>((need s).foldlM (ZB need n) p).bind λ q=>some (q.1,q.2++[s])
section
variable{need:Str->List Str}{U:Str->Prop}{rk:Str->Nat}
theorem Q2(n:Nat)(out:List Str)(s:Str):ZT need (n+1) out s=if s∈out then some out else(if zA s=emptyS then some out else ZT need n out (zA s)).bind λ o=>if s∈o then some o else((need s).foldlM (ZT need n) o).bind λ o=>some (o++[s]):=rfl
theorem Wd(n:Nat)(p:List Str×List Str)(s:Str):ZB need (n+1) p s=if s=emptyS\/s∈p.1 then some p else(ZB need n (s::p.1,p.2) (zA s)).bind λ p=>((need s).foldlM (ZB need n) p).bind λ q=>some (q.1,q.2++[s]):=rfl
structure Rk(need:Str->List Str)(U:Str->Prop)(rk:Str->Nat):Prop where
 ne:∀ x,U x->x≠emptyS
 up:∀ x,U x->zA x≠emptyS->U (zA x)/\rk (zA x)<rk x
 need:∀ x,U x->∀ y∈need x,U y/\rk y<rk x
structure Ahd(need:Str->List Str)(o:List Str):Prop where
 nodup:o.Nodup
 up:∀ (i:Nat) (x:Str),o[i]?=some x->zA x≠emptyS->∃ j:Nat,j<i/\o[j]?=some (zA x)
 need:∀ (i:Nat) (x:Str),o[i]?=some x->∀ y∈need x,∃ j:Nat,j<i/\o[j]?=some y
theorem ahd_nil:Ahd need []:=⟨List.Pairwise.nil,(λ _ _ h=>by cases h),(λ _ _ h=>by cases h)⟩
theorem Ahd.snoc{o:List Str}{s:Str}(h:Ahd need o)(hs:s ∉ o)(hp:zA s≠emptyS->zA s∈o)(hn:∀ y∈need s,y∈o):Ahd need (o++[s]):=by
 have old:∀ {j i:Nat} {y:Str},j<i->o[j]?=some y->(o++[s])[j]?=some y:=λ _ h=>by rw[List.getElem?_append_left (zL h)];exact h
 have at_:∀ {y:Str},y∈o->∃ j:Nat,j<o.length/\(o++[s])[j]?=some y:=λ hy=>by
  obtain⟨j,hj⟩:=List.getElem?_of_mem hy;exact⟨j,zL hj,old (zL hj) hj⟩
 refine⟨List.nodup_append.2 ⟨h.nodup,by simp,λ a ha b hb e=>?_⟩,λ i x hx hpx=>?_,λ i x hx y hy=>?_⟩
 ·
  rw[List.mem_singleton.1 hb] at e;exact hs (e ▸ ha)
 ·
  rcases get_snoc hx with hx | ⟨hi,hx⟩
  ·
   obtain⟨j,h1,h2⟩:=h.up i x hx hpx;exact⟨j,h1,old h1 h2⟩
  ·
   subst hx;obtain⟨j,h1,h2⟩:=at_ (hp hpx);exact⟨j,by omega,h2⟩
 ·
  rcases get_snoc hx with hx | ⟨hi,hx⟩
  ·
   obtain⟨j,h1,h2⟩:=h.need i x hx y hy;exact⟨j,h1,old h1 h2⟩
  ·
   subst hx;obtain⟨j,h1,h2⟩:=at_ (hn y hy);exact⟨j,by omega,h2⟩
structure Vis(need:Str->List Str)(U:Str->Prop)(rk:Str->Nat)(out:List Str)(m:Nat)(o:List Str):Prop where
 ahd:Ahd need o
 new:∃ l,o=out++l/\∀ x∈l,U x/\rk x<m
theorem Vis.old{out o:List Str}{m:Nat}(h:Vis need U rk out m o){x:Str}(hx:x∈out):x∈o:=let⟨_l,e,_⟩:=h.new;e ▸ List.mem_append_left _ hx
theorem Vis.not{out o:List Str}{m:Nat}(h:Vis need U rk out m o){x:Str}(hx:x ∉ out)(hm:m<=rk x):x ∉ o:=λ hy=>by
 obtain⟨l,rfl,h2⟩:=h.new;rcases List.mem_append.1 hy with hy | hy
 ·
  exact hx hy
 ·
  have:=(h2 x hy).2;omega
theorem Vis.trans{out o o':List Str}{m m':Nat}(h:Vis need U rk out m o)(k:Vis need U rk o m' o')(hm:m<=m'):Vis need U rk out m' o':=by
 obtain⟨l,rfl,h2⟩:=h.new;obtain⟨l',rfl,k2⟩:=k.new;refine⟨k.ahd,l++l',by rw[List.append_assoc],λ x hx=>?_⟩;rcases List.mem_append.1 hx with hx | hx
 ·
  exact⟨(h2 x hx).1,by have:=(h2 x hx).2;omega⟩
 ·
  exact k2 x hx
theorem Ji{out:List Str}{m:Nat}(h:Ahd need out):Vis need U rk out m out:=⟨h,[],by rw[List.append_nil],λ _ h=>by cases h⟩
def Sn(sn out opn:List Str):Prop:=∀ x,x∈sn ↔ x∈out\/x∈opn
def VisOk(need:Str->List Str)(U:Str->Prop)(rk:Str->Nat)(n:Nat):Prop:=∀ (s:Str) (out:List Str),U s->rk s<n->Ahd need out->∃ o,ZT need n out s=some o/\Vis need U rk out (rk s+1) o/\s∈o/\∀ sn opn,Sn sn out opn->(∀ x∈opn,rk s<rk x)->∃ sn',ZB need (n+1) (sn,out) s=some (sn',o)/\Sn sn' o opn
theorem zbI{n:Nat}(h:VisOk need U rk n){m:Nat}(hm:m<=n):∀ (l out:List Str),(∀ y∈l,U y/\rk y<m)->Ahd need out->∃ o,l.foldlM (ZT need n) out=some o/\Vis need U rk out m o/\(∀ y∈l,y∈o)/\∀ sn opn,Sn sn out opn->(∀ x∈opn,m<=rk x)->∃ sn',l.foldlM (ZB need (n+1)) (sn,out)=some (sn',o)/\Sn sn' o opn
 | [],out,_,ho=>⟨out,rfl,Ji ho,(λ _ h=>by cases h),λ sn _ hs _=>⟨sn,rfl,hs⟩⟩
 |
  y::l,out,hl,ho=>by
  obtain⟨hy,hyl⟩:=hl y (List.mem_cons_self ..);obtain⟨o1,h1,v1,m1,p1⟩:=h y out hy (by omega) ho;obtain⟨o2,h2,v2,m2,p2⟩:=zbI h hm l o1 (λ z hz=>hl z (List.mem_cons_of_mem _ hz)) v1.ahd;have v1':Vis need U rk out m o1:=v1.trans (Ji v1.ahd) (by omega);refine⟨o2,?_,v1'.trans v2 (Nat.le_refl _),λ z hz=>?_,λ sn opn hs hop=>?_⟩
  ·
   rw[List.foldlM_cons];show(ZT need n out y).bind _=_;rw[h1,obS];exact h2
  ·
   rcases List.mem_cons.1 hz with rfl | hz
   ·
    exact v2.old m1
   ·
    exact m2 z hz
  ·
   obtain⟨sn1,e1,k1⟩:=p1 sn opn hs λ x hx=>by have:=hop x hx;omega
   obtain⟨sn2,e2,k2⟩:=p2 sn1 opn k1 hop;refine⟨sn2,?_,k2⟩;rw[List.foldlM_cons];show(ZB need (n+1) (sn,out) y).bind _=_;rw[e1,obS];exact e2
theorem visit_ok(k:Rk need U rk):∀ n,VisOk need U rk n
 | 0=>λ _ _ _ h=>by omega
 |
  n+1=>by
  intro s out hs hn ho;have ih:=visit_ok k n;by_cases hin:s∈out
  ·
   refine⟨out,by rw[Q2,if_pos hin],Ji ho,hin,λ sn opn h _=>⟨sn,?_,h⟩⟩;rw[Wd,if_pos (.inr ((h s).2 (.inl hin)))]
  ·
   have hup:∃ o1,(if zA s=emptyS then some out else ZT need n out (zA s))=some o1/\Vis need U rk out (rk s) o1/\(zA s≠emptyS->zA s∈o1)/\∀ sn opn,Sn sn out opn->(∀ x∈opn,rk s<=rk x)->∃ sn',ZB need (n+1) (sn,out) (zA s)=some (sn',o1)/\Sn sn' o1 opn:=by
    by_cases hp:zA s=emptyS
    ·
     refine⟨out,if_pos hp,Ji ho,λ h=>absurd hp h,λ sn opn h _=>⟨sn,?_,h⟩⟩;rw[Wd,if_pos (.inl hp)]
    ·
     obtain⟨u1,u2⟩:=k.up s hs hp;obtain⟨o1,h1,v1,m1,p1⟩:=ih (zA s) out u1 (by omega) ho;refine⟨o1,by rw[if_neg hp];exact h1,v1.trans (Ji v1.ahd) (by omega),λ _=>m1,λ sn opn h hop=>p1 sn opn h λ x hx=>by have:=hop x hx;omega⟩
   obtain⟨o1,e1,v1,m1,p1⟩:=hup;have n1:s ∉ o1:=v1.not hin (Nat.le_refl _);obtain⟨o2,e2,v2,m2,p2⟩:=zbI ih (m:=rk s) (by omega) (need s) o1 (λ y hy=>k.need s hs y hy) v1.ahd;have n2:s ∉ o2:=v2.not n1 (Nat.le_refl _);have v12:=v1.trans v2 (Nat.le_refl _);refine⟨o2++[s],?_,⟨v2.ahd.snoc n2 (λ hp=>v2.old (m1 hp)) m2,?_⟩,by simp,λ sn opn h hop=>?_⟩
   ·
    rw[Q2,if_neg hin,e1,obS,if_neg n1,e2,obS]
   ·
    obtain⟨l,rfl,hl⟩:=v12.new;refine⟨l++[s],by rw[List.append_assoc],λ x hx=>?_⟩;rcases List.mem_append.1 hx with hx | hx
    ·
     exact⟨(hl x hx).1,by have:=(hl x hx).2;omega⟩
    ·
     rw[List.mem_singleton.1 hx];exact⟨hs,by omega⟩
   ·
    have hns:¬ (s=emptyS\/s∈sn):=by
     rintro (h1 | h1)
     ·
      exact k.ne s hs h1
     ·
      rcases(h s).1 h1 with h1 | h1
      ·
       exact hin h1
      ·
       have:=hop s h1;omega
    have hs1:Sn (s::sn) out (s::opn):=λ x=>by
     rw[List.mem_cons,List.mem_cons,h x];constructor
     ·
      rintro (h | h | h)
      ·
       exact .inr (.inl h)
      ·
       exact .inl h
      ·
       exact .inr (.inr h)
     ·
      rintro (h | h | h)
      ·
       exact .inr (.inl h)
      ·
       exact .inl h
      ·
       exact .inr (.inr h)
    have hop1:∀ x∈s::opn,rk s<=rk x:=λ x hx=>by
     rcases List.mem_cons.1 hx with rfl | hx
     ·
      exact Nat.le_refl _
     ·
      have:=hop x hx;omega
    obtain⟨sn1,f1,k1⟩:=p1 (s::sn) (s::opn) hs1 hop1;obtain⟨sn2,f2,k2⟩:=p2 sn1 (s::opn) k1 hop1;refine⟨sn2,?_,λ x=>?_⟩
    ·
     rw[Wd,if_neg hns,f1,obS,f2,obS]
    ·
     rw[k2 x,List.mem_append,List.mem_cons,List.mem_singleton];constructor
     ·
      rintro (h | h | h)
      ·
       exact .inl (.inl h)
      ·
       exact .inl (.inr h)
      ·
       exact .inr h
     ·
      rintro ((h | h) | h)
      ·
       exact .inl h
      ·
       exact .inr (.inl h)
      ·
       exact .inr (.inr h)
end
section
variable{t:Tree}{path:List Int}{s:Str}
def xt(t:Tree)(path:List Int)(x:Str):List Str:=(if zA x=emptyS then[] else[zA x])++yq t.files path x
theorem We{x y:Str}:y∈xt t path x ↔ (zA x≠emptyS/\y=zA x)\/y∈yq t.files path x:=by
 unfold xt;rw[List.mem_append];by_cases h:zA x=emptyS
 ·
  rw[if_pos h];simp[h]
 ·
  rw[if_neg h];simp[h]
theorem Wf{x y:Str}(h:y∈yq t.files path x):y∈zS t.files path x:=Wa.2 (List.mem_flatMap.2 ⟨y,h,Qc _⟩)
theorem Q3{l:List Str}(hl:∀ y∈l,zA y≠emptyS->zA y∈l){y:Str}(h:Way (zS t.files path) l y)(hp:zA y≠emptyS):Way (zS t.files path) l (zA y):=by
 cases h with
 | here h=>exact .here (hl y h hp)
 | step hy h=>exact .step hy (edge_par h hp)
inductive Anc:Str->Str->Prop
 | one {x:Str} (h:zA x≠emptyS):Anc x (zA x)
 | more {x y:Str} (h:Anc x y) (hp:zA y≠emptyS):Anc x (zA y)
theorem Anc.less{x y:Str}(h:Anc x y)(hx:zg x=true):(zl y dot).length<(zl x dot).length/\zg y=true:=by
 induction h with
 | one hp=>obtain⟨e1,e2⟩:=ZS hx hp;exact⟨by omega,e2⟩
 | more h hp ih=>obtain⟨e1,e2⟩:=ZS ih.2 hp;exact⟨by have:=ih.1;omega,e2⟩
theorem Anc.way{l:List Str}(hl:∀ y∈l,zA y≠emptyS->zA y∈l){x y:Str}(h:Anc x y)(hw:Way (zS t.files path) l x):Way (zS t.files path) l y:=by
 induction h with
 | one hp=>exact Q3 hl hw hp
 | more h hp ih=>exact Q3 hl ih hp
theorem lead_way{x y:Str}(h:Way (xt t path) (xt t path x) y):Anc x y\/∃ u,(u=x\/Anc x u)/\Way (zS t.files path) (zS t.files path u) y:=by
 induction h with
 |
  here h=>
  rcases We.1 h with⟨h1,rfl⟩ | h
  ·
   exact .inl (.one h1)
  ·
   exact .inr ⟨x,.inl rfl,.here (Wf h)⟩
 |
  step hy h ih=>
  rcases ih with ih | ⟨u,hu,ih⟩
  ·
   rcases We.1 h with⟨h1,rfl⟩ | h
   ·
    exact .inl (.more ih h1)
   ·
    exact .inr ⟨_,.inr ih,.here (Wf h)⟩
  ·
   rcases We.1 h with⟨h1,rfl⟩ | h
   ·
    exact .inr ⟨u,hu,Q3 (λ y h hp=>edge_par h hp) ih h1⟩
   ·
    exact .inr ⟨u,hu,.step ih (Wf h)⟩
theorem no_ring{U:Str->Prop}(hU:∀ x,U x->zg x=true/\(zA x≠emptyS->U (zA x)))(hr:∀ u,U u->¬ Way (zS t.files path) (zS t.files path u) u){x:Str}(hx:U x):¬ Way (xt t path) (xt t path x) x:=λ h=>by
 rcases lead_way h with h | ⟨u,hu,h⟩
 ·
  have:=(h.less (hU x hx).1).1;omega
 ·
  rcases hu with rfl | hu
  ·
   exact hr u hx h
  ·
   have hUu:U u:=by
    clear h
    induction hu with
    | one hp=>exact(hU _ hx).2 hp
    | more _ hp ih=>exact(hU _ ih).2 hp
   exact hr u hUu (hu.way (λ y h hp=>edge_par h hp) h)
open Classical in
noncomputable def rankOf (t:Tree) (path:List Int) (W:List Str) (x:Str):Nat:=(W.filter λ y=>decide (Way (xt t path) (xt t path x) y)).length
theorem rank_lt{W:List Str}{x y:Str}(hy:y∈xt t path x)(hW:y∈W)(hn:¬ Way (xt t path) (xt t path y) y):rankOf t path W y<rankOf t path W x:=by
 classical
 unfold rankOf;have sub:∀ z,Way (xt t path) (xt t path y) z->Way (xt t path) (xt t path x) z:=λ z h=>h.mono λ w hw=>.step (.here hy) hw
 have h1:∀ l:List Str,(l.filter λ z=>decide (Way (xt t path) (xt t path y) z)).length<=(l.filter λ z=>decide (Way (xt t path) (xt t path x) z)).length:=λ l=>by
  induction l with
  | nil=>exact Nat.le_refl _
  |
   cons a l ih=>
   rw[List.filter_cons,List.filter_cons];by_cases h:Way (xt t path) (xt t path y) a
   ·
    rw[if_pos (by simpa using h),if_pos (by simpa using sub a h)];simpa using ih
   ·
    rw[if_neg (by simpa using h)];split
    ·
     rw[List.length_cons];omega
    ·
     exact ih
 obtain⟨a,b,rfl⟩:=List.append_of_mem hW;rw[List.filter_append,List.filter_append,List.filter_cons,List.filter_cons,if_neg (by simpa using hn),if_pos (by simpa using(Way.here hy:Way (xt t path) _ y)),List.length_append,List.length_append,List.length_cons];have:=h1 a;have:=h1 b;omega
theorem rank_le(W:List Str)(x:Str):rankOf t path W x<=W.length:=by
 classical
 exact List.length_filter_le ..
theorem rk_reach(hv:zH t=true)(hs:zg s=true)(hr:∀ u∈yn t path s,Z9 t path s u=false):Rk (yq t.files path) (·∈yn t path s) (rankOf t path (yn t path s)):=by
 have hi:∀ {y:Str},y∈yn t path s ↔ Way (zS t.files path) (y6 s) y:=YE hv hs (qR hs) λ _ h=>qg h
 have par:∀ x,x∈yn t path s->zA x≠emptyS->zA x∈yn t path s:=λ x hx hp=>hi.2 (Q3 (λ y h hp=>(zay _ rfl hs).1 y h hp) (hi.1 hx) hp)
 have nd:∀ x,x∈yn t path s->∀ y∈yq t.files path x,y∈yn t path s:=λ x hx y hy=>hi.2 (.step (hi.1 hx) (Wf hy))
 have hring:∀ u,u∈yn t path s->¬ Way (zS t.files path) (zS t.files path u) u:=λ u hu h=>by
  have h1:=hr u hu;unfold Z9 at h1;rw[decide_eq_false_iff_not] at h1;exact h1 ((YE hv hs (Qe _) λ y hy=>ZR hv hs u (JO hv hs (λ _ h=>qg h) hu) y hy).2 h)
 have hno:∀ u,u∈yn t path s->¬ Way (xt t path) (xt t path u) u:=λ u hu=>no_ring (U:=(·∈yn t path s)) (λ x hx=>⟨jI hv hs hx,par x hx⟩) hring hu
 exact⟨λ x hx=>valid_ne (jI hv hs hx),λ x hx hp=>⟨par x hx hp,rank_lt (We.2 (.inl ⟨hp,rfl⟩)) (par x hx hp) (hno _ (par x hx hp))⟩,
  λ x hx y hy=>⟨nd x hx y hy,rank_lt (We.2 (.inr hy)) (nd x hx y hy) (hno _ (nd x hx y hy))⟩⟩
def y9(t:Tree)(path:List Int)(s:Str):Bool:=okG t path s&&decide (qz t path s=[])&&decide (jH t path s=[])
def q7(t:Tree)(path:List Int)(s:Str):List Str:=if y9 t path s=true then(ZT (yq t.files path) 301 [] s).getD [] else[]
theorem YW(h:y9 t path s=true):okG t path s=true/\(∀ u∈yn t path s,Z9 t path s u=false)/\∀ u∈yn t path s,Yo t path u=false:=by
 unfold y9 at h;simp only[Bool.and_eq_true,decide_eq_true_eq] at h;obtain⟨⟨h1,h2⟩,h3⟩:=h;refine⟨h1,λ u hu=>?_,λ u hu=>?_⟩
 ·
  cases hc:Z9 t path s u with
  | false=>rfl
  |
   true=>
   have:u∈qz t path s:=List.mem_filter.2 ⟨(Ya h1).2 hu,hc⟩;rw[h2] at this;cases this
 ·
  cases hc:Yo t path u with
  | false=>rfl
  |
   true=>
   have:u∈jH t path s:=List.mem_filter.2 ⟨(Ya h1).2 hu,hc⟩;rw[h3] at this;cases this
theorem Jj(hv:zH t=true)(hs:zg s=true):s∈yn t path s:=(YE hv hs (qR hs) λ _ h=>qg h).2 (.here (Qc _))
theorem XJ(h:y9 t path s=true):ZT (yq t.files path) 301 [] s=some (q7 t path s)/\Vis (yq t.files path) (·∈yn t path s) (rankOf t path (yn t path s)) [] (rankOf t path (yn t path s) s+1) (q7 t path s)/\s∈q7 t path s/\∃ sn,ZB (yq t.files path) 302 ([],[]) s=some (sn,q7 t path s)/\∀ x∈sn,x∈q7 t path s:=by
 obtain⟨hok,hr,_⟩:=YW h;obtain⟨hv,_,hs⟩:=xo hok;have hlen:=qS (path:=path) hv hs;obtain⟨o,h1,h2,h3,h4⟩:=visit_ok (rk_reach hv hs hr) 301 s [] (Jj hv hs) (by have:=rank_le (t:=t) (path:=path) (yn t path s) s;omega) ahd_nil;have e:q7 t path s=o:=by unfold q7;rw[if_pos h,h1];rfl
 rw[e];obtain⟨sn,h5,h6⟩:=h4 [] [] (λ x=>by simp) (λ _ h=>by cases h);exact⟨h1,h2,h3,sn,h5,λ x hx=>((h6 x).1 hx).elim id λ h=>by cases h⟩
end
open Go.RowKit
theorem Yc{α σ:Type}{f:σ->α->Option σ}{m:σ->Nat}(hm:∀ s x o,f s x=some o->m s<=m o):∀ (l:List α) (s o:σ),l.foldlM f s=some o->m s<=m o
 | [],s,o,h=>by injection h with h;rw[h];exact Nat.le_refl _
 |
  x::l,s,o,h=>by
  rw[List.foldlM_cons] at h;obtain⟨s1,h1,h2⟩:=bs h;exact Nat.le_trans (hm _ _ _ h1) (Yc hm l s1 o h2)
theorem zbJ{S σ α β:Type}{step:S->Option (S⊕β)}(l:List α)(f:σ->α->Option σ)(mk:σ->Nat->S)(fin:σ->β)(m:σ->Nat)(B:Nat)(hm:∀ s x o,f s x=some o->m s<=m o)
  (h:∀ k s x o,l[k]?=some x->k<l.length->f s x=some o->m o<=B->step (mk s k)=some (.inl (mk o (k+1)))) (hend:∀ s,step (mk s l.length)=some (.inr (fin s))) (hl:l.length<576460752303423488) {s o:σ} (he:l.foldlM f s=some o) (hB:m o<=B):zB step (mk s 0)=some (fin o):=by
 have key:∀ j k s,k+j=l.length->(l.drop k).foldlM f s=some o->wi step (j+1) (mk s k)=some (fin o):=by
  intro j
  induction j with
  |
   zero=>
   intro k s hk he;have:k=l.length:=by omega
   subst this;rw[List.drop_length] at he;injection he with he;rw[← he];exact yf (hend s)
  |
   succ j ih=>
   intro k s hk he;have hlt:k<l.length:=by omega
   rw[List.drop_eq_getElem_cons hlt,List.foldlM_cons] at he;obtain⟨s1,h1,h2⟩:=bs he;have hg:=Yc hm _ _ _ h2;rw[wc (h k s l[k] s1 (List.getElem?_eq_getElem hlt) hlt h1 (by omega))];exact ih (k+1) s1 (by omega) h2
 exact wm (key l.length 0 s (by omega) (by rw[List.drop_zero];exact he)) (by omega)
section
variable{need:Str->List Str}
theorem YF:∀ (n:Nat) (out:List Str) (s:Str) (o:List Str),ZT need n out s=some o->out.length<=o.length
 | 0,_,_,_,h=>by cases h
 |
  n+1,out,s,o,h=>by
  rw[Q2] at h;by_cases hs:s∈out
  ·
   rw[if_pos hs] at h;injection h with h;rw[h];exact Nat.le_refl _
  ·
   rw[if_neg hs] at h;obtain⟨o1,h1,h⟩:=bs h;have g1:out.length<=o1.length:=by
    by_cases hp:zA s=emptyS
    ·
     rw[if_pos hp] at h1;injection h1 with h1;rw[h1];exact Nat.le_refl _
    ·
     rw[if_neg hp] at h1;exact YF n _ _ _ h1
   by_cases hs1:s∈o1
   ·
    rw[if_pos hs1] at h;injection h with h;rw[← h];exact g1
   ·
    rw[if_neg hs1] at h;obtain⟨o2,h2,h⟩:=bs h;have g2:=Yc (m:=List.length) (YF n) _ _ _ h2;injection h with h;rw[← h,List.length_append];omega
def psz(p:List Str×List Str):Nat:=p.1.length+p.2.length
theorem ZG:∀ (n:Nat) (p:List Str×List Str) (s:Str) (o:List Str×List Str),ZB need n p s=some o->psz p<=psz o
 | 0,_,_,_,h=>by cases h
 |
  n+1,p,s,o,h=>by
  rw[Wd] at h;by_cases hs:s=emptyS\/s∈p.1
  ·
   rw[if_pos hs] at h;injection h with h;rw[h];exact Nat.le_refl _
  ·
   rw[if_neg hs] at h;obtain⟨o1,h1,h⟩:=bs h;obtain⟨o2,h2,h⟩:=bs h;have g1:=ZG n _ _ _ h1;have g2:=Yc (m:=psz) (ZG n) _ _ _ h2;injection h with h;rw[← h];unfold psz at*;simp only[List.length_cons,List.length_append] at*;omega
theorem Wy:∀ (n:Nat) (p:List Str×List Str) (s:Str) (o:List Str×List Str),p.1.Nodup->ZB need n p s=some o->o.1.Nodup
 | 0,_,_,_,_,h=>by cases h
 |
  n+1,p,s,o,hn,h=>by
  rw[Wd] at h;by_cases hs:s=emptyS\/s∈p.1
  ·
   rw[if_pos hs] at h;injection h with h;rw[← h];exact hn
  ·
   rw[if_neg hs] at h;obtain⟨o1,h1,h⟩:=bs h;obtain⟨o2,h2,h⟩:=bs h;have n1:=Wy n (s::p.1,p.2) _ _ (List.nodup_cons.2 ⟨λ h=>hs (.inr h),hn⟩) h1;have key:∀ (l:List Str) (q r:List Str×List Str),q.1.Nodup->l.foldlM (ZB need n) q=some r->r.1.Nodup:=λ l=>by
    induction l with
    | nil=>intro q r hq hr;injection hr with hr;rw[← hr];exact hq
    |
     cons x l ih=>
     intro q r hq hr;rw[List.foldlM_cons] at hr;obtain⟨q1,k1,k2⟩:=bs hr;exact ih q1 r (Wy n _ _ _ hq k1) k2
   injection h with h;rw[← h];show o2.1.Nodup;exact key _ _ _ n1 h2
end
structure Cl(t:Tree)(path:List Int)(U:Str->Prop):Prop where
 valid:∀ x,U x->zg x=true
 up:∀ x,U x->zA x≠emptyS->U (zA x)
 need:∀ x,U x->∀ y∈yq t.files path x,U y
section
variable{t:Tree}{path:List Int}{s:Str}{U:Str->Prop}
theorem Wz(hv:zH t=true)(hp:path.length<=1048576)(hU:Cl t path U):∀ (n:Nat) (s:Str) (out o:List Str),U s->ZT (yq t.files path) n out s=some o->o.length<=1000->jF n t path s out=some o
 | 0,_,_,_,_,h,_=>by cases h
 |
  n+1,s,out,o,hs,h,ho=>by
  have g0:=YF _ _ _ _ h;have hpar:zU s=some (zA s):=if_pos (yO (hU.valid s hs)).mid;rw[Q2] at h;show ZN (jF n) t path s out=some o;unfold ZN;rw[xU (by omega),obS];by_cases h1:s∈out
  ·
   rw[if_pos h1] at h;rw[decide_eq_true h1,if_pos rfl,h]
  ·
   rw[if_neg h1] at h;obtain⟨o1,e1,h⟩:=bs h;rw[decide_eq_false h1,if_neg (by decide)];have g1:o1.length<=o.length:=by
    by_cases h2:s∈o1
    ·
     rw[if_pos h2] at h;injection h with h;rw[h];exact Nat.le_refl _
    ·
     rw[if_neg h2] at h;obtain⟨o2,e2,h⟩:=bs h;have:=Yc (m:=List.length) (YF n) _ _ _ e2;injection h with h;rw[← h,List.length_append];omega
   have e1':((zU s).bind λ v9=>if(decide (v9≠(⟨[]⟩:Str)))=true then((zU s).bind λ v14=>(jF n t path v14 out).bind λ v15=>some v15) else(some out))=some o1:=by
    rw[hpar,obS,obS];by_cases he:zA s=emptyS
    ·
     rw[if_pos he] at e1;rw[if_neg (by simp[show zA s=(⟨[]⟩:Str) from he])];exact e1
    ·
     rw[if_neg he] at e1;rw[if_pos (decide_eq_true (show zA s≠(⟨[]⟩:Str) from he)),Wz hv hp hU n _ _ _ (hU.up s hs he) e1 (by omega),obS]
   rw[e1',obS,xU (by omega),obS];by_cases h2:s∈o1
   ·
    rw[if_pos h2] at h;rw[decide_eq_true h2,if_pos rfl,h]
   ·
    rw[if_neg h2] at h;obtain⟨o2,e2,h⟩:=bs h;injection h with h;subst h;rw[List.length_append] at ho;rw[decide_eq_false h2,if_neg (by decide),WM hv hp (hU.valid s hs),obS];have hn8:=YD (path:=path) hv (hU.valid s hs);have hl:zB (λ s31=>jw (jF n) t path (yq t.files path s) s31) (o1,(0:Int))=some o2:=by
     refine zbJ (yq t.files path s) (ZT (yq t.files path) n) (λ o k=>(o,(k:Int))) (λ o=>o) List.length 1000 (YF n) (λ k s' x o' hx hk hf hB=>?_) (λ s'=>?_) (by omega) e2 (by omega)
     ·
      unfold jw;simp only;rw[zC,if_pos (decide_eq_true hk),zR,hx,obS,Wz hv hp hU n x s' o' (hU.need s hs x (List.mem_of_getElem? hx)) hf hB,obS,zF (by omega)];rfl
     ·
      unfold jw;simp only;rw[zC,if_neg (by simp)]
    rw[hl,obS,wv (by simp;omega) (by simp;omega),obS,List.nil_append,wv (by simp;omega) (by simp;omega),obS]
theorem visit_eq(ht:xu t)(hok:okG t path s=true)(hp:path.length<=1048576)(hU:Cl t path U):∀ (n:Nat) (s:Str) (p o:List Str×List Str),(s=emptyS\/U s)->ZB (yq t.files path) n p s=some o->psz o<=2000->Wn t path n s p=some o
 | 0,_,_,_,_,h,_=>by cases h
 |
  n+1,s,p,o,hs,h,ho=>by
  have g0:=ZG _ _ _ _ h;rw[Wd] at h;show wD (Wn t path n) s p.1 t path p.2=some o;unfold wD;have hc:(decide (s=(⟨[]⟩:Str))||decide (s∈p.1))=decide (s=emptyS\/s∈p.1):=by
   by_cases h1:s=emptyS <;> by_cases h2:s∈p.1 <;> simp[h1,h2,show((⟨[]⟩:Str))=emptyS from rfl]
  rw[hc];by_cases h1:s=emptyS\/s∈p.1
  ·
   rw[if_pos h1] at h;rw[decide_eq_true h1,if_pos rfl];exact h
  ·
   rw[if_neg h1] at h;obtain⟨o1,e1,h⟩:=bs h;obtain⟨o2,e2,h⟩:=bs h;injection h with h;subst h;have hs':U s:=hs.elim (λ e=>absurd (.inl e) h1) id;have hsv:=hU.valid s hs';obtain⟨hv,_,_⟩:=xo hok;have g2:=Yc (m:=psz) (ZG n) _ _ _ e2;have g1:=ZG n _ _ _ e1;unfold psz at ho g0 g1 g2;simp only[List.length_append,List.length_cons,List.length_nil] at ho g0 g1 g2;have hput:Yj p.1 s=some (s::p.1):=by
    unfold Yj;rw[if_neg (λ h=>h1 (.inr h)),if_pos (by omega)]
   have hn8:=YD (path:=path) hv hsv;have hpar:zA s=emptyS\/U (zA s):=by
    by_cases he:zA s=emptyS
    ·
     exact .inl he
    ·
     exact .inr (hU.up s hs' he)
   rw[decide_eq_false h1,if_neg (by decide),hput,obS,XF hsv,obS,visit_eq ht hok hp hU n _ _ _ hpar e1 (by unfold psz;omega),obS,zbC ht hp (yO hsv),if_pos (okG_name hok hsv),obS];have hl:zB (λ s18=>yY (Wn t path n) (yq t.files path s) s18) (o1.2,(0:Int),o1.1)=some (o2.2,o2.1):=by
    refine zbJ (yq t.files path s) (ZB (yq t.files path) n) (λ q k=>(q.2,(k:Int),q.1)) (λ q=>(q.2,q.1)) psz 2000 (ZG n) (λ k s' x o' hx hk hf hB=>?_) (λ s'=>?_) (by omega) e2 (by unfold psz;omega)
    ·
     unfold yY;simp only;rw[zC,if_pos (decide_eq_true hk),zR,hx,obS,visit_eq ht hok hp hU n x s' o' (.inr (hU.need s hs' x (List.mem_of_getElem? hx))) hf hB,obS,zF (by omega)];rfl
    ·
     unfold yY;simp only;rw[zC,if_neg (by simp)]
   rw[hl,obS,wv (by simp;omega) (by simp;omega),obS]
theorem cl_reach(hv:zH t=true)(hs:zg s=true):Cl t path (·∈yn t path s):=by
 have hi:∀ {y:Str},y∈yn t path s ↔ Way (zS t.files path) (y6 s) y:=YE hv hs (qR hs) λ _ h=>qg h
 exact⟨λ x hx=>jI hv hs hx,λ x hx hp=>hi.2 (Q3 (λ y h hp=>(zay _ rfl hs).1 y h hp) (hi.1 hx) hp),λ x hx y hy=>hi.2 (.step (hi.1 hx) (Wf hy))⟩
theorem plain_sub(h:y9 t path s=true):∀ x∈q7 t path s,x∈yn t path s:=λ x hx=>by
 obtain⟨_,⟨_,l,e,hl⟩,_⟩:=XJ h;rw[e] at hx;rw[List.nil_append] at hx;exact(hl x hx).1
theorem plain_nodup(h:y9 t path s=true):(q7 t path s).Nodup:=(XJ h).2.1.ahd.nodup
theorem Jk(t:Tree)(path:List Int)(s:Str):(q7 t path s).length<=1000:=by
 cases h:y9 t path s with
 | false=>unfold q7;rw[if_neg (by simp[h])];simp
 |
  true=>
  obtain⟨hok,_,_⟩:=YW h;obtain⟨hv,_,hs⟩:=xo hok;have h1:=jj (plain_nodup h) (plain_sub h);have h2:=qS hv (path:=path) hs;omega
def YL(t:Tree)(path:List Int)(s:Str):List Str×Bool:=(q7 t path s,y9 t path s)
theorem Wg(h:y9 t path s=false):YL t path s=([],false):=by
 unfold YL q7;rw[h];rfl
theorem gt_nil(l:List Str):cmpI .gtr (l.length:Int) (0:Int)=!decide (l=[]):=by
 cases l with
 | nil=>rfl
 |
  cons x l=>
  have:cmpI .gtr ((x::l).length:Int) (0:Int)=true:=by simp only[cmpI,decide_eq_true_eq,List.length_cons];omega
  rw[this];rfl
theorem zaz(hp:path.length<=1048576)(h:y9 t path s=true):jF 301 t path s []=some (q7 t path s):=by
 obtain⟨hok,_,_⟩:=YW h;obtain⟨hv,_,hs⟩:=xo hok;exact Wz hv hp (cl_reach hv hs) 301 s [] _ (Jj hv hs) (XJ h).1 (Jk ..)
theorem zaA(ht:xu t)(hp:path.length<=1048576)(h:y9 t path s=true):∃ sn,Wn t path 302 s ([],[])=some (sn,q7 t path s):=by
 obtain⟨hok,_,_⟩:=YW h;obtain⟨hv,_,hs⟩:=xo hok;obtain⟨h1,h2,h3,sn,h4,h5⟩:=XJ h;have hn:sn.Nodup:=Wy 302 ([],[]) s (sn,q7 t path s) List.Pairwise.nil h4;have hlen:=qS hv (path:=path) hs;have hsub:∀ x∈sn,x∈yn t path s:=λ x hx=>plain_sub h x (h5 x hx)
 have hl:sn.length<=(yn t path s).length:=jj hn hsub;have hl2:=Jk t path s;exact⟨sn,visit_eq ht hok hp (cl_reach hv hs) 302 s _ _ (.inr (Jj hv hs)) h4 (by unfold psz;simp only;omega)⟩
theorem PlainOrder_eq(ht:xu t)(hp:path.length<=1048576)(hn:sho s):xC t path s=some (YL t path s):=by
 unfold xC;rw[zbE ht hp hn,obS,zbF ht hp hn,MissingOf_eq ht hp hn,xD,obS,xD,obS];cases hok:okG t path s with
 |
  false=>
  have e:y9 t path s=false:=by unfold y9;rw[hok];rfl
  rw[Wg e];rfl
 |
  true=>
  show(if((false||cmpI .gtr ((qz t path s).length:Int) 0)||cmpI .gtr (((if((false||cmpI .gtr ((qz t path s).length:Int) 0) == false)=true then jH t path s else default):List Str).length:Int) 0)=true then _ else _)=_;rw[gt_nil];by_cases hr:qz t path s=[]
  ·
   rw[decide_eq_true hr];show(if((false||!true)||cmpI .gtr ((jH t path s).length:Int) 0)=true then _ else _)=_;rw[gt_nil];by_cases hm:jH t path s=[]
   ·
    have e:y9 t path s=true:=by unfold y9;rw[hok,decide_eq_true hr,decide_eq_true hm];rfl
    obtain⟨sn,h1⟩:=zaA ht hp e;rw[decide_eq_true hm,if_neg (by decide),h1,obS];unfold YL;rw[e]
   ·
    have e:y9 t path s=false:=by unfold y9;rw[decide_eq_false hm,Bool.and_false]
    rw[decide_eq_false hm,Wg e];rfl
  ·
   have e:y9 t path s=false:=by unfold y9;rw[decide_eq_false hr,Bool.and_false,Bool.false_and]
   rw[decide_eq_false hr,Wg e];rfl
theorem Qk(ht:xu t)(hp:path.length<=1048576)(hn:sho s):wu t path s=some (YL t path s):=by
 unfold wu;rw[show yT t=some (zH t) from if_pos ht,obS,show yU path=some (xl path) from if_pos trivial,xD,obS,show yh s=some (zg s) from if_pos hn.mid,xD,obS,za1 ht hp hn,xD,obS,Q1 ht hp hn,xD,obS];have no:okG t path s=false->YL t path s=([],false):=λ h=>Wg (by unfold y9;rw[h];rfl)
 cases hv:zH t with
 | false=>rw[no (by unfold okG;rw[hv];rfl)];rfl
 |
  true=>
  cases hpp:xl path with
  | false=>rw[no (by unfold okG;rw[hv,hpp];rfl)];rfl
  |
   true=>
   cases hs:zg s with
   | false=>rw[no (by unfold okG;rw[hv,hpp,hs];rfl)];rfl
   |
    true=>
    have hok:okG t path s=true:=by unfold okG;rw[hv,hpp,hs];rfl
    show(if((false||cmpI .gtr ((qz t path s).length:Int) 0)||cmpI .gtr (((if((false||cmpI .gtr ((qz t path s).length:Int) 0) == false)=true then jH t path s else default):List Str).length:Int) 0)=true then _ else _)=_;rw[gt_nil];by_cases hr:qz t path s=[]
    ·
     rw[decide_eq_true hr];show(if((false||!true)||cmpI .gtr ((jH t path s).length:Int) 0)=true then _ else _)=_;rw[gt_nil];by_cases hm:jH t path s=[]
     ·
      have e:y9 t path s=true:=by unfold y9;rw[hok,decide_eq_true hr,decide_eq_true hm];rfl
      rw[decide_eq_true hm,if_neg (by decide),zaz hp e,obS];unfold YL;rw[e]
     ·
      have e:y9 t path s=false:=by unfold y9;rw[decide_eq_false hm,Bool.and_false]
      rw[decide_eq_false hm,Wg e];rfl
    ·
     have e:y9 t path s=false:=by unfold y9;rw[decide_eq_false hr,Bool.and_false,Bool.false_and]
     rw[decide_eq_false hr,Wg e];rfl
end
end Go.Proofs.YtobplpdjkfbfoaaGreatDoor
