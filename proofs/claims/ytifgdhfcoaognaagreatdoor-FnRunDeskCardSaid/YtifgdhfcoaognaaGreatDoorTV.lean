import Derived.Test.YtifgdhfcoaognaaGreatDoorTI
import Derived.Test.YtifgdhfcoaognaaGreatDoorTK
import Derived.Test.YtifgdhfcoaognaaGreatDoorTU
namespace Go.Proofs.YtifgdhfcoaognaaGreatDoor
variable{b:Bool}{Q:Int->Prop}{p:List Int}{l w:List Str}{a:List UInt8}{k:Nat}{o out s x:Str}{t u:Tree}{st:Tree->List Str->Option Tree}{c:UInt8}
theorem zdn{c:UInt8}:∀ {l:List UInt8},c ∉ l->cutF c l=[l]
 | [],_=>rfl
 |b::l,h=>by
  have hb:¬ (b == c)=true:=λ e=>h (by rw[eq_of_beq e];exact List.mem_cons_self ..)
  rw[qn,Kf hb,zdn λ hm=>h (List.mem_cons_of_mem _ hm)]
theorem cutF_at{c:UInt8}{r:List UInt8}:∀ {l:List UInt8},c ∉ l->cutF c (l++c::r)=l::cutF c r
 | [],_=>by rw[List.nil_append,qn,Ke (by simp)]
 |b::l,h=>by
  have hb:¬ (b == c)=true:=λ e=>h (by rw[eq_of_beq e];exact List.mem_cons_self ..)
  rw[List.cons_append,qn,Kf hb,cutF_at λ hm=>h (List.mem_cons_of_mem _ hm)]
def spc(w:List (List UInt8)):List UInt8:=Lib.join w [32]
theorem YX(a:List UInt8):spc [a]=a:=by unfold spc;rw[Lib.join_cons];simp[Lib.joinTail]
theorem YY(a b:List UInt8)(l:List (List UInt8)):spc (a::b::l)=a++32::spc (b::l):=by
 unfold spc;rw[Lib.join_cons,Lib.join_cons];simp[Lib.joinTail]
theorem cut_spc:∀ (l:List (List UInt8)) (a:List UInt8),(∀ x∈a::l,(32:UInt8) ∉ x)->cutF 32 (spc (a::l))=a::l
 | [],a,h=>by rw[YX,zdn (h a (List.mem_cons_self ..))]
 | b::l,a,h=>by rw[YY,cutF_at (h a (List.mem_cons_self ..)),cut_spc l b λ x hx=>h x (List.mem_cons_of_mem _ hx)]
theorem spc_len:∀ (l:List (List UInt8)),(spc l).length<=(l.map λ x=>x.length+1).sum
 | []=>by simp[spc,Lib.join]
 | [a]=>by rw[YX];simp
 |a::b::l=>by
  rw[YY];have:=spc_len (b::l);simp only[List.map_cons,List.sum_cons,List.length_append,List.length_cons] at this ⊢;omega
theorem spc_mem{c:UInt8}(hc:c≠32:=by decide):∀ {l:List (List UInt8)},c∈spc l->∃ x∈l,c∈x
 | [],h=>by simp[spc,Lib.join] at h
 | [a],h=>by rw[YX] at h;exact⟨a,by simp,h⟩
 |a::b::l,h=>by
  rw[YY] at h;rcases List.mem_append.1 h with h | h
  ·exact⟨a,by simp,h⟩
  ·rcases List.mem_cons.1 h with h | h
   ·exact absurd h hc
   ·obtain⟨x,hx,h⟩:=spc_mem (hc:=hc) (l:=b::l) h;exact⟨x,List.mem_cons_of_mem _ hx,h⟩
def txL(ws:List (List UInt8)):List UInt8:=(ws.map (·++[10])).flatten
theorem zcG(w:List UInt8)(ws:List (List UInt8)):txL (w::ws)=w++10::txL ws:=by simp[txL]
theorem txt_app(a b:List (List UInt8)):txL (a++b)=txL a++txL b:=by simp[txL]
theorem cut_txt:∀ (ws:List (List UInt8)),(∀ w∈ws,(10:UInt8) ∉ w)->cutF 10 (txL ws)=ws++[[]]
 | [],_=>rfl
 | w::ws,h=>by rw[zcG,cutF_at (h w (List.mem_cons_self ..)),cut_txt ws λ x hx=>h x (List.mem_cons_of_mem _ hx),List.cons_append]
def dig(n:Int):List UInt8:=if n<10 then[UInt8.ofNat (48+n.toNat)] else[UInt8.ofNat (48+n.toNat / 10),UInt8.ofNat (48+n.toNat % 10)]
theorem fin100{n:Int}(h0:0<=n)(h1:n<=99)(h:∀ k:Fin 100,Q (k.val:Int):=by decide +kernel):Q n:=by
 have:=h ⟨n.toNat,by omega⟩;rwa[show((n.toNat:Nat):Int)=n from by omega] at this
theorem ZU{n:Int}:0<=n->n<=99->wy 4 n=some ⟨dig n⟩:=fin100 (Q:=λ n=>wy 4 n=some ⟨dig n⟩)
theorem zcH{n:Int}(h0:0<=n)(h1:n<=99):yO n=some ⟨dig n⟩:=by
 unfold yO dig;rw[Ke ⟨h0,by omega⟩,dec_small (by omega)];by_cases h:n<10
 ·rw[Ke h,Ke (by omega)]
 ·rw[Kf h,Kf (by omega)]
theorem zcI{n:Int}:0<=n->n<=99->JT (dig n)=n:=fin100 (Q:=λ n=>JT (dig n)=n)
theorem dig_read{n:Int}:0<=n->n<=99->yD ⟨dig n⟩=some n:=fin100 (Q:=λ n=>yD ⟨dig n⟩=some n)
theorem qr{n:Int}:0<=n->n<=99->(dig n).length<=2/\(32:UInt8) ∉ dig n/\(10:UInt8) ∉ dig n:=fin100 (Q:=λ n=>(dig n).length<=2/\(32:UInt8) ∉ dig n/\(10:UInt8) ∉ dig n)
theorem mem_cut{c b:UInt8}:∀ {l:List UInt8},b∈l->b=c\/∃ p∈cutF c l,b∈p
 |x::l,h=>by
  rw[qn];cases e:x == c with
  |true=>
   rw[Ke Z];rcases List.mem_cons.1 h with h | h
   ·exact .inl (h.trans (eq_of_beq e))
   ·exact(mem_cut h).imp id λ⟨p,hp,hb⟩=>⟨p,List.mem_cons_of_mem _ hp,hb⟩
  |false=>
   rw[Kf (by simp)];obtain⟨y,ys,hc⟩:=List.exists_cons_of_ne_nil (Zv c l);rw[hc];rcases List.mem_cons.1 h with h | h
   ·exact .inr ⟨x::y,by simp,by simp[h]⟩
   ·rcases mem_cut (c:=c) h with h | ⟨p,hp,hb⟩
    ·exact .inl h
    ·rw[hc] at hp;rcases List.mem_cons.1 hp with rfl | hp
     ·exact .inr ⟨x::p,by simp,List.mem_cons_of_mem _ hb⟩
     ·exact .inr ⟨p,by simp[hp],hb⟩
theorem zcJ(h:zD s=true):∀ b∈s.l,low b=true:=by
 unfold zD at h;rw[Bool.and_eq_true] at h;exact List.all_eq_true.1 h.2
theorem zaz(h:zf s=true):∀ b∈s.l,low b=true\/b=46:=λ b hb=>by
 unfold zf at h;rw[Bool.and_eq_true] at h;rcases mem_cut (c:=dot) hb with h1 | ⟨p,hp,h1⟩
 ·exact .inr h1
 ·refine .inl (zcJ (s:=⟨p⟩) (List.all_eq_true.1 h.1 ⟨p⟩ ?_) b h1);rw[yI];exact List.mem_map.2 ⟨p,hp,Z⟩
theorem Jo{b:UInt8}(h:low b=true\/b=46):b≠32/\b≠10/\b≠45/\b≠42:=by
 rcases h with h | rfl
 ·refine⟨?_,?_,?_,?_⟩ <;> (rintro rfl;exact absurd h (by decide))
 ·decide
theorem zaN(h:zD s=true):s.l.length<=3:=by
 unfold zD inR at h;simp[cmpI] at h;omega
def Xg(s:Str):List UInt8:=if s=emptyS then[45] else s.l
theorem Qx(h:zx s=true):(Xg s).length<=11/\(32:UInt8) ∉ Xg s/\(10:UInt8) ∉ Xg s:=by
 unfold Xg;by_cases e:s=emptyS
 ·rw[Ke e];decide
 ·rw[Kf e];unfold zx at h;have hn:zf s=true:=by simpa[e] using h
  exact⟨yu hn,λ hb=>(Jo (zaz hn _ hb)).1 Z,λ hb=>(Jo (zaz hn _ hb)).2.1 Z⟩
theorem dash_back(h:zx s=true):(if(⟨Xg s⟩:Str)=⟨[45]⟩ then(⟨[]⟩:Str) else⟨Xg s⟩)=s:=by
 unfold Xg;by_cases e:s=emptyS
 ·rw[Ke e,Ke Z,e];rfl
 ·rw[Kf e,Kf];intro h1;unfold zx at h;have hn:zf s=true:=by simpa[e] using h
  have h2:s.l=[45]:=by injection h1
  exact(Jo (zaz hn 45 (by rw[h2];simp))).2.2.1 Z
abbrev Qy:List UInt8:=[105,109,112,111,114,116]
abbrev wFrom:List UInt8:=[102,114,111,109]
abbrev wStar:List UInt8:=[115,116,97,114]
abbrev wSet:List UInt8:=[115,101,116]
abbrev zbM:List UInt8:=[112,114,105,110,116]
abbrev wFail:List UInt8:=[102,97,105,108]
abbrev wFile:List UInt8:=[102,105,108,101]
def ww(s:Stmt):List (List UInt8):=
 if s.kind=0 then[Qy,s.module.l] else if s.kind=1 then[wFrom,dig s.level,Xg s.module,s.name.l] else if s.kind=2 then[wStar,s.module.l]
 else if s.kind=3 then[wSet,s.name.l,dig s.value] else if s.kind=4 then[zbM,s.name.l] else[wFail]
def Wc(f:File):List UInt8:=if f.init=true then[42] else f.name.l
def ZJ(f:File):List (List UInt8):=[wFile,dig f.root,Xg f.pkg,Wc f,dig f.stamp]
def Jp(t:Tree):List (List (List UInt8)):=t.files.flatMap λ f=>ZJ f::f.body.map ww
def fmt(t:Tree):Str:=⟨txL ((Jp t).map spc)⟩
inductive Sv:Stmt->Prop
 | imp {m:Str} (h:zf m=true):Sv ⟨0,m,0,⟨[]⟩,0⟩
 | frm {m n:Str} {l:Int} (hm:zx m=true) (h0:0<=l) (h1:l<=3) (hn:zD n=true):Sv ⟨1,m,l,n,0⟩
 | star {m:Str} (h:zf m=true):Sv ⟨2,m,0,⟨[]⟩,0⟩
 | set {n:Str} {v:Int} (hn:zD n=true) (h0:0<=v) (h1:v<=99):Sv ⟨3,⟨[]⟩,0,n,v⟩
 | print {n:Str} (hn:zD n=true):Sv ⟨4,⟨[]⟩,0,n,0⟩
 | fail:Sv ⟨5,⟨[]⟩,0,⟨[]⟩,0⟩
theorem sv_of:∀ {s:Stmt},zX s=true->Sv s
 |⟨k,m,l,n,v⟩,h=>by
  unfold zX at h;simp only at h;by_cases h0:k=0
  ·subst h0;rw[Ke (by rfl)] at h;simp[cmpI] at h;obtain⟨⟨⟨h1,rfl⟩,rfl⟩,rfl⟩:=h;exact .imp h1
  ·rw[Kf (by simp[cmpI,h0])] at h;by_cases h1:k=1
   ·subst h1;rw[Ke (by rfl)] at h;simp[cmpI,inR] at h;obtain⟨⟨⟨⟨h2,h3⟩,_⟩,h5⟩,rfl⟩:=h;exact .frm h2 h3.1 h3.2 h5
   ·rw[Kf (by simp[cmpI,h1])] at h;by_cases h2:k=2
    ·subst h2;rw[Ke (by rfl)] at h;simp[cmpI] at h;obtain⟨⟨⟨h1,rfl⟩,rfl⟩,rfl⟩:=h;exact .star h1
    ·rw[Kf (by simp[cmpI,h2])] at h;by_cases h3:k=3
     ·subst h3;rw[Ke (by rfl)] at h;simp[cmpI,inR] at h;obtain⟨⟨⟨rfl,rfl⟩,h1⟩,h2⟩:=h;exact .set h1 h2.1 h2.2
     ·rw[Kf (by simp[cmpI,h3])] at h;by_cases h4:k=4
      ·subst h4;rw[Ke (by rfl)] at h;simp[cmpI] at h;obtain⟨⟨⟨rfl,rfl⟩,h1⟩,rfl⟩:=h;exact .print h1
      ·rw[Kf (by simp[cmpI,h4])] at h;split at h
       ·have:=oD h;rw[this];exact .fail
       ·cases h
structure Fv(f:File):Prop where
 r0:0<=f.root
 r1:f.root<=2
 s0:0<=f.stamp
 s1:f.stamp<=99
 pkg:zx f.pkg=true
 body:∀ s∈f.body,Sv s
 len:f.body.length<=8
 name:if f.init=true then f.name=emptyS else zD f.name=true
theorem fv_of{f:File}(h:yC f=true):Fv f:=by
 unfold yC at h;by_cases hc:(!inR f.root 0 2||!inR f.stamp 0 99||!zx f.pkg||!jr f.body)=true
 ·rw[Ke hc] at h;cases h
 ·rw[Kf hc] at h;simp only[Bool.or_eq_true,Bool.not_eq_true',not_or,Bool.not_eq_false] at hc;obtain⟨⟨⟨h1,h2⟩,h3⟩,h4⟩:=hc;unfold inR at h1 h2;simp[cmpI] at h1 h2;unfold jr at h4;rw[Bool.and_eq_true] at h4;have h5:f.body.length<=8:=by have:=h4.2;simp[cmpI] at this;omega
  refine⟨h1.1,h1.2,h2.1,h2.2,h3,λ s hs=>sv_of (List.all_eq_true.1 h4.1 s hs),h5,?_⟩;by_cases hi:f.init=true
  ·rw[Ke hi];rw[Ke hi] at h;simp at h;exact h.2
  ·rw[Kf hi];rw[Kf hi,Bool.and_eq_true] at h;exact h.1
theorem Qz{w:List UInt8}:(w=Qy\/w=wFrom\/w=wStar\/w=wSet\/w=zbM\/w=wFail\/w=wFile)->w.length<=11/\(32:UInt8) ∉ w/\(10:UInt8) ∉ w:=by
 rintro (rfl | rfl | rfl | rfl | rfl | rfl | rfl) <;> decide
theorem zcK(h:zf s=true):s.l.length<=11/\(32:UInt8) ∉ s.l/\(10:UInt8) ∉ s.l:=⟨yu h,λ hb=>(Jo (zaz h _ hb)).1 Z,λ hb=>(Jo (zaz h _ hb)).2.1 Z⟩
theorem part_ok(h:zD s=true):s.l.length<=11/\(32:UInt8) ∉ s.l/\(10:UInt8) ∉ s.l:=⟨by have:=zaN h;omega,λ hb=>(Jo (.inl (zcJ h _ hb))).1 Z,λ hb=>(Jo (.inl (zcJ h _ hb))).2.1 Z⟩
theorem dig_ok{n:Int}(h0:0<=n)(h1:n<=99):(dig n).length<=11/\(32:UInt8) ∉ dig n/\(10:UInt8) ∉ dig n:=⟨by have:=(qr h0 h1).1;omega,(qr h0 h1).2⟩
theorem sv_ok{s:Stmt}(h:Sv s):∀ w∈ww s,w.length<=11/\(32:UInt8) ∉ w/\(10:UInt8) ∉ w:=by
 intro w hw;cases h with
 |imp h=>
  simp[ww] at hw;rcases hw with rfl | rfl
  ·exact Qz (by simp)
  ·exact zcK h
 |frm hm h0 h1 hn=>
  simp[ww] at hw;rcases hw with rfl | rfl | rfl | rfl
  ·exact Qz (by simp)
  ·exact dig_ok h0 (by omega)
  ·exact Qx hm
  ·exact part_ok hn
 |star h=>
  simp[ww] at hw;rcases hw with rfl | rfl
  ·exact Qz (by simp)
  ·exact zcK h
 |set hn h0 h1=>
  simp[ww] at hw;rcases hw with rfl | rfl | rfl
  ·exact Qz (by simp)
  ·exact part_ok hn
  ·exact dig_ok h0 h1
 |print hn=>
  simp[ww] at hw;rcases hw with rfl | rfl
  ·exact Qz (by simp)
  ·exact part_ok hn
 | fail=>simp[ww] at hw;subst hw;exact Qz (by simp)
theorem nameL_ok{f:File}(h:Fv f):(Wc f).length<=11/\(32:UInt8) ∉ Wc f/\(10:UInt8) ∉ Wc f:=by
 have:=h.name;unfold Wc;split
 ·decide
 ·rename_i hi;rw[Kf hi] at this;exact part_ok this
theorem file_ok{f:File}(h:Fv f):∀ w∈ZJ f,w.length<=11/\(32:UInt8) ∉ w/\(10:UInt8) ∉ w:=by
 intro w hw;simp[ZJ] at hw;rcases hw with rfl | rfl | rfl | rfl | rfl
 ·exact Qz (by simp)
 ·exact dig_ok h.r0 (by have:=h.r1;omega)
 ·exact Qx h.pkg
 ·exact nameL_ok h
 ·exact dig_ok h.s0 h.s1
theorem stmtW_len(s:Stmt):(ww s).length<=4:=by unfold ww;split <;> (try split) <;> (try split) <;> (try split) <;> (try split) <;> simp
theorem room_le:∀ {l:List (List UInt8)},(∀ w∈l,w.length<=11)->(l.map λ x=>x.length+1).sum<=12*l.length
 | [],_=>by simp
 |a::l,h=>by
  have h1:=h a (by simp);have h2:=room_le λ w hw=>h w (List.mem_cons_of_mem _ hw)
  simp only[List.map_cons,List.sum_cons,List.length_cons];omega
theorem zdo{l:List (List UInt8)}(h:∀ w∈l,w.length<=11):(spc l).length<=12*l.length:=by
 exact Nat.le_trans (spc_len l) (room_le h)
theorem line_s{s:Stmt}(h:Sv s):(spc (ww s)).length<=60:=by
 have h1:=zdo λ w hw=>(sv_ok h w hw).1
 have:=stmtW_len s;omega
theorem line_f{f:File}(h:Fv f):(spc (ZJ f)).length<=60:=zdo λ w hw=>(file_ok h w hw).1
theorem zaA{b:List UInt8}(h:a=b):(⟨a⟩:Str)=⟨b⟩:=by rw[h]
theorem zaO(s:Str):ZQ s=some ⟨Xg s⟩:=by
 unfold ZQ Xg;by_cases e:s=(⟨[]⟩:Str)
 ·rw[Ke (decide_eq_true e),Ke (show s=emptyS from e)]
 ·rw[Kf (by simpa using e),Kf (show ¬ s=emptyS from e)]
theorem zeF(s:Str):ZO s=some ⟨Xg s⟩:=by
 unfold ZO Xg;by_cases e:s=(⟨[]⟩:Str)
 ·rw[Ke (decide_eq_true e),Ke (show s=emptyS from e)]
 ·rw[Kf (by simpa using e),Kf (show ¬ s=emptyS from e)]
theorem showStmt_eq{s:Stmt}(h:Sv s):yZ s=some ⟨spc (ww s)⟩:=by
 cases h with
 |imp h=>have:=yu h;unfold yZ;rw[Ke (by rfl),zR (by simp;omega),Kd];exact congrArg some (zaA (by simp[ww,YY,YX,Qy]))
 |frm hm h0 h1 hn=>have h2:=(Qx hm).1;have h3:=zaN hn;have h4:=(qr h0 (by omega)).1;unfold yZ;rw[Kf (by simp[cmpI]),Ke (by rfl),ZU h0 (by omega),Kd,zR (by simp;omega),Kd,zR (by simp;omega),Kd,zaO,Kd,zR (by simp;omega),Kd,zR (by simp;omega),Kd,zR (by simp;omega),Kd];exact congrArg some (zaA (by simp[ww,YY,YX,wFrom]))
 |star h=>have:=yu h;unfold yZ;rw[Kf (by simp[cmpI]),Kf (by simp[cmpI]),Ke (by rfl),zR (by simp;omega),Kd];exact congrArg some (zaA (by simp[ww,YY,YX,wStar]))
 |set hn h0 h1=>have h3:=zaN hn;have h4:=(qr h0 h1).1;unfold yZ;rw[Kf (by simp[cmpI]),Kf (by simp[cmpI]),Kf (by simp[cmpI]),Ke (by rfl),zR (by simp;omega),Kd,zR (by simp;omega),Kd,ZU h0 h1,Kd,zR (by simp;omega),Kd];exact congrArg some (zaA (by simp[ww,YY,YX,wSet]))
 |print hn=>have h3:=zaN hn;unfold yZ;rw[Kf (by simp[cmpI]),Kf (by simp[cmpI]),Kf (by simp[cmpI]),Kf (by simp[cmpI]),Ke (by rfl),zR (by simp;omega),Kd];exact congrArg some (zaA (by simp[ww,YY,YX,zbM]))
 | fail=>rfl
theorem showFile_eq{f:File}(h:Fv f):wL f=some ⟨spc (ZJ f)⟩:=by
 have h1:=(qr h.r0 (by have:=h.r1;omega)).1;have h2:=(qr h.s0 h.s1).1;have h3:=(Qx h.pkg).1;have h4:=(nameL_ok h).1;unfold wL;have e:(if f.init=true then(some (⟨[42]⟩:Str)) else some f.name)=some ⟨Wc f⟩:=by unfold Wc;split <;> rfl
 rw[e,Kd,ZU h.r0 (by have:=h.r1;omega),Kd,zR (by simp;omega),Kd,zR (by simp;omega),Kd,zaO,Kd,zR (by simp;omega),Kd,zR (by simp;omega),Kd,zR (by simp;omega),Kd,zR (by simp;omega),Kd,ZU h.s0 h.s1,Kd,zR (by simp;omega),Kd];exact congrArg some (zaA (by simp[ZJ,YY,YX,wFile]))
theorem line_eq(hw:(spc (w.map (·.l))).length<=100)(ho:out.l.length<=1000000)(hl:w.length<=100):yv w out=some ⟨out.l++(spc (w.map (·.l))++[10])⟩:=by
 unfold yv y7;rw[Ke ⟨by omega,by show(spc (w.map (·.l))).length<=_;omega⟩,Kd,zR (by show(spc (w.map (·.l))).length+_<=_;simp;omega),Kd,zR (by
  show out.l.length+(spc (w.map (λ x:Str=>x.l))++[10]).length<=_;rw[List.length_append];simp;omega),Kd]
 rfl
def addB(out:Str)(b:List Stmt):Str:=⟨out.l++txL ((b.map ww).map spc)⟩
theorem zaP:∀ (b:List Stmt) (out:Str),b.foldl (λ o s=>(⟨o.l++(spc (ww s)++[10])⟩:Str)) out=addB out b
 | [],out=>by cases out;simp[addB,txL]
 |s::b,out=>by
  rw[List.foldl_cons,zaP b];unfold addB;simp[zcG]
theorem bodyT_eq{f:File}(h:Fv f)(ho:out.l.length<=500000):zP (λ s=>yQ f s) (out,(0:Int))=some (addB out f.body):=by
 have:=ju (step:=λ s=>yQ f s) f.body (λ o k=>(o,(k:Int))) (λ o s=>(⟨o.l++(spc (ww s)++[10])⟩:Str)) id (λ k o=>o.l.length<=500000+61*k) (λ k o s hx hlt hi=>?_) (λ o _=>?_) (s0:=out) (by omega) (by have:=h.len;omega)
 ·rw[zaP] at this;exact this
 ·have hs:=h.body s (List.mem_of_getElem? hx);have hl:=line_s hs;have hb:=h.len;have hw:∀ w∈ww s,w.length<=11:=λ w hw=>(sv_ok hs w hw).1
  refine⟨?_,by simp;omega⟩;show yQ f (o,(k:Int))=_;unfold yQ;simp only;rw[zI,Ke (decide_eq_true hlt),zL,hx,Kd];have key:∀ {w:List Str},ww s=w.map (·.l)->w.length<=4->yv w o=some ⟨o.l++(spc (ww s)++[10])⟩:=λ{w} e hn=>by
   rw[e];rw[e] at hl;exact line_eq (by omega) (by omega) (by omega)
  clear hl hw
  cases hs with
  | imp h=>rw[Ke (by rfl),key (by rfl) (by simp),Kd,Kd,zS (by omega),Kd]
  | frm hm h0 h1 hn=>rw[Kf (by simp[cmpI]),Ke (by rfl),zcH h0 (by omega),Kd,zeF,Kd,key (by rfl) (by simp),Kd,Kd,zS (by omega),Kd]
  | star h=>rw[Kf (by simp[cmpI]),Kf (by simp[cmpI]),Ke (by rfl),key (by rfl) (by simp),Kd,Kd,zS (by omega),Kd]
  | set hn h0 h1=>rw[Kf (by simp[cmpI]),Kf (by simp[cmpI]),Kf (by simp[cmpI]),Ke (by rfl),zcH h0 h1,Kd,key (by rfl) (by simp),Kd,Kd,zS (by omega),Kd]
  | print hn=>rw[Kf (by simp[cmpI]),Kf (by simp[cmpI]),Kf (by simp[cmpI]),Kf (by simp[cmpI]),Ke (by rfl),key (by rfl) (by simp),Kd,Kd,zS (by omega),Kd]
  | fail=>rw[Kf (by simp[cmpI]),Kf (by simp[cmpI]),Kf (by simp[cmpI]),Kf (by simp[cmpI]),Kf (by simp[cmpI]),key (by rfl) (by simp),Kd,Kd,zS (by omega),Kd]
 ·show yQ f (o,(f.body.length:Int))=_;unfold yQ;rw[zI,Kf (by simp)];rfl
def addF(out:Str)(f:File):Str:=addB ⟨out.l++(spc (ZJ f)++[10])⟩ f.body
theorem addF_eq(out:Str)(f:File):addF out f=⟨out.l++txL ((ZJ f::f.body.map ww).map spc)⟩:=by
 unfold addF addB;simp[zcG]
theorem zdp:∀ (l:List File) (out:Str),l.foldl addF out=⟨out.l++txL ((Jp ⟨l⟩).map spc)⟩
 | [],out=>by cases out;simp[Jp,txL]
 |f::l,out=>by
  rw[List.foldl_cons,zdp l,addF_eq];simp[Jp,txt_app,zcG]
theorem addB_len{b:List Stmt}(h:∀ s∈b,Sv s):∀ {out:Str},(addB out b).l.length<=out.l.length+61*b.length:=λ{out}=>by
 rw[← zaP]
 induction b generalizing out with
 | nil=>simp
 |cons s b ih=>rw[List.foldl_cons];have h1:=ih (λ x hx=>h x (by simp[hx])) (out:=⟨out.l++(spc (ww s)++[10])⟩);have h2:=line_s (h s (by simp));simp only[List.length_append,List.length_cons,List.length_nil] at h1 ⊢;omega
theorem addF_len{f:File}(h:Fv f):(addF out f).l.length<=out.l.length+549:=by
 have h1:=addB_len h.body (out:=⟨out.l++(spc (ZJ f)++[10])⟩);have h2:=line_f h;have h3:=h.len;unfold addF;simp only[List.length_append,List.length_cons,List.length_nil] at h1 ⊢;omega
structure Tv(t:Tree):Prop where
 files:∀ f∈t.files,Fv f
 len:t.files.length<=12
theorem tv_of(h:zB t=true):Tv t:=⟨λ _f hf=>fv_of (j6 h hf),YL h⟩
theorem FormatTree_eq(hs:xw t)(h:zB t=true):qE t=some (fmt t):=by
 have tv:=tv_of h;unfold qE;rw[Yq hs,h,Kd,Kf (by decide)];have:=ju (step:=λ s=>yR t s) t.files (λ o k=>(o,(k:Int))) addF id (λ k o=>o.l.length<=549*k) (λ k o f hx hlt hi=>?_) (λ o _=>?_) (s0:=(⟨[]⟩:Str)) (by simp) (by have:=tv.len;omega)
 ·rw[show zP (λ s=>yR t s) ((⟨[]⟩:Str),(0:Int))=_ from this,Kd];rw[zdp];exact congrArg some (zaA (by simp))
 ·have fv:=tv.files f (List.mem_of_getElem? hx);have hl:=line_f fv;have:=addF_len fv (out:=o);have:=tv.len;refine⟨?_,by omega⟩;show yR t (o,(k:Int))=_;unfold yR;simp only;have e:(if f.init=true then(some (⟨[42]⟩:Str)) else some f.name)=some ⟨Wc f⟩:=by unfold Wc;split <;> rfl
  rw[zI,Ke (decide_eq_true hlt),zL,hx,Kd,e,Kd,zcH fv.r0 (by have:=fv.r1;omega),Kd,zeF,Kd,zcH fv.s0 fv.s1,Kd,line_eq (by show(spc (ZJ f)).length<=100;omega) (by omega) (by simp),Kd];rw[bodyT_eq fv (by show(o.l++(spc (ZJ f)++[10])).length<=_;simp;omega),Kd,zS (by omega),Kd];rfl
 ·show yR t (o,(t.files.length:Int))=_;unfold yR;rw[zI,Kf (by simp)];rfl
theorem bodyT_eq'{f:File}(hf:t.files[k]?=some f)(h:Fv f)(o0:Str)(ho:out.l.length<=500000):zP (λ s=>yg t (o0,(k:Int)) s) (out,(0:Int))=some (addB out f.body):=by
 have:=ju (step:=λ s=>yg t (o0,(k:Int)) s) f.body (λ o k=>(o,(k:Int))) (λ o s=>(⟨o.l++(spc (ww s)++[10])⟩:Str)) id (λ k o=>o.l.length<=500000+61*k) (λ j o s hx hlt hi=>?_) (λ o _=>?_) (s0:=out) (by omega) (by have:=h.len;omega)
 ·rw[zaP] at this;exact this
 ·have hs:=h.body s (List.mem_of_getElem? hx);have hl:=line_s hs;have hb:=h.len;refine⟨?_,by simp;omega⟩;show yg t (o0,(k:Int)) (o,(j:Int))=_;unfold yg;simp only;rw[zL,hf,Kd,zI,Ke (decide_eq_true hlt),Kd,zL,hx,Kd,showStmt_eq hs,Kd,zR (by simp only;omega),Kd,zR (by simp;omega),Kd,zS (by omega),Kd];simp
 ·show yg t (o0,(k:Int)) (o,(f.body.length:Int))=_;unfold yg;rw[zL,hf,Kd,zI,Kf (by simp)];rfl
theorem format_eq(h:zB t=true):je t=some (fmt t):=by
 have tv:=tv_of h;unfold je;have:=ju (step:=λ s=>yh t s) t.files (λ o k=>(o,(k:Int))) addF id (λ k o=>o.l.length<=549*k) (λ k o f hx hlt hi=>?_) (λ o _=>?_) (s0:=(⟨[]⟩:Str)) (by simp) (by have:=tv.len;omega)
 ·rw[show zP (λ s=>yh t s) ((⟨[]⟩:Str),(0:Int))=_ from this,Kd];rw[zdp];exact congrArg some (zaA (by simp))
 ·have fv:=tv.files f (List.mem_of_getElem? hx);have hl:=line_f fv;have:=addF_len fv (out:=o);have:=tv.len;refine⟨?_,by omega⟩;show yh t (o,(k:Int))=_;unfold yh;simp only;rw[zI,Ke (decide_eq_true hlt),zL,hx,Kd,showFile_eq fv,Kd,zR (by simp only;omega),Kd,zR (by simp;omega),Kd];rw[bodyT_eq' hx fv o (by simp;omega),Kd,zS (by omega),Kd];simp[addF]
 ·show yh t (o,(t.files.length:Int))=_;unfold yh;rw[zI,Kf (by simp)];rfl
theorem cutp_le{c:UInt8}:∀ {l p:List UInt8},p∈cutF c l->p.length<=l.length
 | [],p,h=>by simp[cutF] at h;simp[h]
 |b::l,p,h=>by
  rw[qn] at h;split at h
  ·rcases List.mem_cons.1 h with rfl | h
   ·simp
   ·have:=cutp_le h;simp only[List.length_cons];omega
  ·obtain⟨y,ys,hc⟩:=List.exists_cons_of_ne_nil (Zv c l);rw[hc] at h;rcases List.mem_cons.1 h with rfl | h
   ·have:=cutp_le (c:=c) (l:=l) (p:=y) (by rw[hc];simp);simp only[List.length_cons];omega
   ·have:=cutp_le (c:=c) (l:=l) (p:=p) (by rw[hc];simp[h]);simp only[List.length_cons];omega
theorem word_le(h:x∈zi s c):x.l.length<=s.l.length:=by
 rw[yI] at h;obtain⟨p,hp,rfl⟩:=List.mem_map.1 h;exact cutp_le hp
theorem cuts_ne(s:Str)(c:UInt8):zi s c≠[]:=by
 rw[yI];intro h;exact Zv c s.l (List.map_eq_nil_iff.1 h)
def atW(w:List Str)(k:Nat):Str:=(w[k]?).getD ⟨[]⟩
theorem zbn(w:List Str)(k:Nat):zm (k:Int) w=some (atW w k):=by
 unfold zm atW;rw[zI];by_cases h:k<w.length
 ·rw[Ke (decide_eq_true h),zL,List.getElem?_eq_getElem h];rfl
 ·rw[Kf (by simpa using h),List.getElem?_eq_none (by omega)];rfl
theorem atW_get(h:k<w.length):w[k]?=some (atW w k):=by unfold atW;rw[List.getElem?_eq_getElem h];rfl
theorem Ja{n:Nat}(h:∀ x∈w,x.l.length<=n)(k:Nat):(atW w k).l.length<=n:=by
 unfold atW;cases e:w[k]? with
 | none=>exact Nat.zero_le _
 | some x=>exact h x (List.mem_of_getElem? e)
theorem num_eq(k:Nat)(h:(atW w k).l.length<=1048576):yb (k:Int) (λ a0=>zm a0 w)=some (JT (atW w k).l):=by
 unfold yb Xs;dsimp only;rw[zbn,Kd,Ke h,Kd]
def Wd(s:Str):Str:=if s=(⟨[45]⟩:Str) then⟨[]⟩ else s
theorem noDash_eq(s:Str):ZP s=some (Wd s):=by
 unfold ZP Wd;by_cases e:s=(⟨[45]⟩:Str)
 ·rw[Ke (decide_eq_true e),Ke e]
 ·rw[Kf (by simpa using e),Kf e]
theorem zdM(s:Str):qk s=some (Wd s):=by
 unfold qk Wd;by_cases e:s=(⟨[45]⟩:Str)
 ·rw[Ke (decide_eq_true e),Ke e]
 ·rw[Kf (by simpa using e),Kf e]
theorem readNumber_ok(s:Str)(hs:s.l.length<=1048576):∃ n,yD s=some n:=by
 unfold yD;obtain⟨b,hb,hq⟩:=loopM_ex (step:=λ s5=>jl s s5) (λ x=>s.l.length - x.2.toNat) (λ x=>0<=x.1/\x.1<=99/\0<=x.2/\x.2<=s.l.length) (λ b=>∀ n,b=.inl n->0<=n/\n<=99) (s:=((0:Int),(0:Int))) (λ x ⟨h1,h2,h3,h4⟩=>by
  obtain⟨n,k⟩:=x;simp only at h1 h2 h3 h4;obtain⟨j,rfl⟩:∃ j:Nat,k=(j:Int):=⟨k.toNat,by omega⟩;unfold jl;simp only;rw[zI];by_cases hj:j<s.l.length
  ·rw[Ke (decide_eq_true hj),zL,List.getElem?_eq_getElem hj,Kd,xA,Kd];generalize hv:s.l[j]=v;generalize hc:((cmpB .lss v (UInt8.ofNat 48)||cmpB .gtr (if(cmpB .lss v (UInt8.ofNat 48) == false)=true then v else default) (UInt8.ofNat 57))||cmpI .gtr n (9:Int))=c;cases c with
   | true=>rw[Ke Z];exact .inr ⟨_,Z,λ _ h=>by cases h⟩
   |false=>
    rw[Kf (by decide)];rw[Bool.or_eq_false_iff,Bool.or_eq_false_iff] at hc;obtain⟨⟨k1,k2⟩,k3⟩:=hc;rw[k1] at k2;simp[cmpB,cmpI] at k1 k2 k3;have e1:48<=v.toNat:=by simpa using UInt8.le_iff_toNat_le.1 k1
    have e2:v.toNat<=57:=by simpa using UInt8.le_iff_toNat_le.1 k2
    have e3:(v - UInt8.ofNat 48).toNat<=9:=by
     rw[UInt8.toNat_sub];simp;omega
    rw[xx (by omega) (by omega),Kd,Kd,xx (by omega) (by omega),Kd,zS (by omega),Kd];exact .inl ⟨_,Z,⟨by simp only;omega,by simp only;omega,by simp only;omega,by simp only;omega⟩,by simp only;omega⟩
  ·rw[Kf (by simpa using hj)];exact .inr ⟨_,Z,λ _ h=>by cases h;exact⟨h1,h2⟩⟩) ⟨by decide,by decide,by decide,by simp⟩ (by simp only;omega)
 rw[hb,Kd];cases b with
 | inr b=>exact⟨b,Z⟩
 |inl n=>obtain⟨h0,h1⟩:=hq n Z;simp only[Sum.elim_inl];rw[ZU h0 h1,xA,Kd];generalize (decide (s=(⟨[]⟩:Str))||_)=c;cases c <;> exact⟨_,Z⟩
def rnV(s:Str):Int:=(yD s).getD 0
theorem X0(hs:s.l.length<=1048576):yD s=some (rnV s):=by
 obtain⟨n,h⟩:=readNumber_ok s hs;unfold rnV;rw[h];rfl
def stI(w:List Str):Stmt:=
 if atW w 0=(⟨Qy⟩:Str) then⟨0,atW w 1,0,⟨[]⟩,0⟩ else if atW w 0=(⟨wFrom⟩:Str) then⟨1,Wd (atW w 2),JT (atW w 1).l,atW w 3,0⟩
 else if atW w 0=(⟨wStar⟩:Str) then⟨2,atW w 1,0,⟨[]⟩,0⟩ else if atW w 0=(⟨wSet⟩:Str) then⟨3,⟨[]⟩,0,atW w 1,JT (atW w 2).l⟩
 else if atW w 0=(⟨zbM⟩:Str) then⟨4,⟨[]⟩,0,atW w 1,0⟩ else if atW w 0=(⟨wFail⟩:Str) then⟨5,⟨[]⟩,0,⟨[]⟩,0⟩ else⟨-1,⟨[]⟩,0,⟨[]⟩,0⟩
def fiI(w:List Str):File:=if atW w 3=(⟨[42]⟩:Str) then⟨JT (atW w 1).l,Wd (atW w 2),⟨[]⟩,true,JT (atW w 4).l,[]⟩ else⟨JT (atW w 1).l,Wd (atW w 2),atW w 3,false,JT (atW w 4).l,[]⟩
def addS(t:Tree)(s:Stmt):Tree:=match t.files[t.files.length - 1]? with
 | none=>t
 | some f=>⟨t.files.set (t.files.length - 1) { f with body:=f.body++[s] }⟩
def rdI(t:Tree)(w:List Str):Tree:=if atW w 0=(⟨wFile⟩:Str) then⟨t.files++[fiI w]⟩ else addS t (stI w)
def stS(w:List Str):Stmt:=
 if(decide (atW w 0=(⟨Qy⟩:Str))&&cmpI .eql (w.length:Int) 2)=true then⟨0,atW w 1,0,⟨[]⟩,0⟩
 else if(decide (atW w 0=(⟨wFrom⟩:Str))&&cmpI .eql (w.length:Int) 4)=true then⟨1,Wd (atW w 2),rnV (atW w 1),atW w 3,0⟩
 else if(decide (atW w 0=(⟨wStar⟩:Str))&&cmpI .eql (w.length:Int) 2)=true then⟨2,atW w 1,0,⟨[]⟩,0⟩
 else if(decide (atW w 0=(⟨wSet⟩:Str))&&cmpI .eql (w.length:Int) 3)=true then⟨3,⟨[]⟩,0,atW w 1,rnV (atW w 2)⟩
 else if(decide (atW w 0=(⟨zbM⟩:Str))&&cmpI .eql (w.length:Int) 2)=true then⟨4,⟨[]⟩,0,atW w 1,0⟩
 else if(decide (atW w 0=(⟨wFail⟩:Str))&&cmpI .eql (w.length:Int) 1)=true then⟨5,⟨[]⟩,0,⟨[]⟩,0⟩ else⟨-1,⟨[]⟩,0,⟨[]⟩,0⟩
def fiS(w:List Str):File:=if atW w 3=(⟨[42]⟩:Str) then⟨rnV (atW w 1),Wd (atW w 2),⟨[]⟩,true,rnV (atW w 4),[]⟩ else⟨rnV (atW w 1),Wd (atW w 2),atW w 3,false,rnV (atW w 4),[]⟩
def rdS(t:Tree)(w:List Str):Option Tree:=if(decide (atW w 0=(⟨wFile⟩:Str))&&cmpI .eql (w.length:Int) 5)=true then some ⟨t.files++[fiS w]⟩ else if t.files.length=0 then none else some (addS t (stS w))
structure Bd(k:Nat)(t:Tree):Prop where
 len:t.files.length<=k
 files:∀ f∈t.files,f.pkg.l.length<=1048576/\f.name.l.length<=1048576/\f.body.length<=k/\∀ s∈f.body,smStmt s
theorem Bd.sm(h:Bd k t)(hk:k<=1048576):xw t:=⟨by have:=h.len;omega,λ f hf=>⟨(h.files f hf).1,(h.files f hf).2.1,by have:=(h.files f hf).2.2.1;omega,(h.files f hf).2.2.2⟩⟩
theorem Bd.file(h:Bd k t){f:File}(h1:f.pkg.l.length<=1048576)(h2:f.name.l.length<=1048576)(h3:f.body=[]):Bd (k+1) ⟨t.files++[f]⟩:=by
 refine⟨by have:=h.len;simp;omega,λ g hg=>?_⟩;rcases List.mem_append.1 hg with hg | hg
 ·have:=h.files g hg;exact⟨this.1,this.2.1,by omega,this.2.2.2⟩
 ·have:g=f:=by simpa using hg
  subst this;rw[h3];exact⟨h1,h2,by simp,λ _ hs=>by cases hs⟩
theorem Bd.stmt(h:Bd k t){s:Stmt}(hs:smStmt s):Bd (k+1) (addS t s):=by
 unfold addS;cases e:t.files[t.files.length - 1]? with
 |none=>show Bd (k+1) t;exact⟨by have:=h.len;omega,λ f hf=>by have:=h.files f hf;exact⟨this.1,this.2.1,by omega,this.2.2.2⟩⟩
 |some f=>
  have hf:=h.files f (List.mem_of_getElem? e);show Bd (k+1) ⟨t.files.set (t.files.length - 1) { f with body:=f.body++[s] }⟩;refine⟨by have:=h.len;simp;omega,λ g hg=>?_⟩;rcases List.mem_or_eq_of_mem_set hg with hg | rfl
  ·have:=h.files g hg;exact⟨this.1,this.2.1,by omega,this.2.2.2⟩
  ·refine⟨hf.1,hf.2.1,by simp;omega,λ x hx=>?_⟩;rcases List.mem_append.1 hx with hx | hx
   ·exact hf.2.2.2 x hx
   ·have:x=s:=by simpa using hx
    rw[this];exact hs
theorem J6{n:Nat}(h:s.l.length<=n):(Wd s).l.length<=n:=by
 unfold Wd;split
 ·exact Nat.zero_le _
 ·exact h
theorem stI_sm(h:∀ x∈w,x.l.length<=1048576):smStmt (stI w):=by
 have h1:=Ja h;have h2:∀ k,(Wd (atW w k)).l.length<=1048576:=λ k=>J6 (h1 k)
 have h0:(⟨[]⟩:Str).l.length<=1048576:=Nat.zero_le _;unfold stI
 repeat' split
 all_goals first | exact⟨h1 _,h0⟩ | exact⟨h2 _,h1 _⟩ | exact⟨h0,h1 _⟩ | exact⟨h0,h0⟩
theorem stS_sm(h:∀ x∈w,x.l.length<=1048576):smStmt (stS w):=by
 have h1:=Ja h;have h2:∀ k,(Wd (atW w k)).l.length<=1048576:=λ k=>J6 (h1 k)
 have h0:(⟨[]⟩:Str).l.length<=1048576:=Nat.zero_le _;unfold stS
 repeat' split
 all_goals first | exact⟨h1 _,h0⟩ | exact⟨h2 _,h1 _⟩ | exact⟨h0,h1 _⟩ | exact⟨h0,h0⟩
theorem rdI_bd(hb:Bd k t)(h:∀ x∈w,x.l.length<=1048576):Bd (k+1) (rdI t w):=by
 unfold rdI;split
 ·unfold fiI;split
  ·exact hb.file (J6 (Ja h _)) (Nat.zero_le _) Z
  ·exact hb.file (J6 (Ja h _)) (Ja h _) Z
 ·exact hb.stmt (stI_sm h)
theorem rdS_bd(hb:Bd k t)(h:∀ x∈w,x.l.length<=1048576)(hu:rdS t w=some u):Bd (k+1) u:=by
 unfold rdS at hu;split at hu
 ·cases hu;unfold fiS;split
  ·exact hb.file (J6 (Ja h _)) (Nat.zero_le _) Z
  ·exact hb.file (J6 (Ja h _)) (Ja h _) Z
 ·split at hu
  ·cases hu
  ·cases hu;exact hb.stmt (stS_sm h)
theorem addS_eq(hb:Bd k t)(hk:k<=1048576)(s:Stmt)(hne:t.files.length≠0):((atI t.files ((t.files.length:Int) - (1:Int))).bind λ v140=>
  (appO 56 v140.body ([s]:List Stmt)).bind λ v153=>(atI t.files ((t.files.length:Int) - (1:Int))).bind λ _=>
  some (⟨t.files.set ((t.files.length:Int) - (1:Int)).toNat { v140 with body:=v153 }⟩:Tree))=some (addS t s):=by
 have hl:((t.files.length:Int) - (1:Int))=((t.files.length - 1:Nat):Int):=by omega
 have hlt:t.files.length - 1<t.files.length:=by omega
 rw[hl,zL];have e:t.files[t.files.length - 1]?=some t.files[t.files.length - 1]:=List.getElem?_eq_getElem hlt;have hf:=(hb.files _ (List.mem_of_getElem? e)).2.2.1;unfold addS;rw[e,Kd,xb (by simp;omega) (by simp;omega),Kd,Kd];rfl
theorem readLine_eq(hb:Bd k t)(hk:k<=1048576)(h:∀ x∈w,x.l.length<=1048576):qF t w=some (rdI t w):=by
 have hl:=Ja h;have hlen:=hb.len;have tail:∀ s:Stmt,((i64 ((t.files.length:Int) - (1:Int))).bind λ v120=>
   if(cmpI .geq v120 (0:Int))=true then((atI t.files v120).bind λ v140=>
   (appO 56 v140.body ([s]:List Stmt)).bind λ v153=>
   (atI t.files v120).bind λ _=>
   some (⟨(t.files.set v120.toNat ({ v140 with body:=v153 }))⟩:Tree))
   else(some t))=some (addS t s):=λ s=>by
  rw[xx (by omega) (by omega),Kd];by_cases h0:t.files.length=0
  ·rw[Kf (by simp[cmpI];omega)];unfold addS;rw[List.getElem?_eq_none (by omega)]
  ·rw[Ke (by simp[cmpI];omega)];exact addS_eq hb hk s h0
 unfold qF rdI;dsimp only;rw[show zm (0:Int) w=some (atW w 0) from zbn w 0,Kd];by_cases h0:atW w 0=(⟨wFile⟩:Str)
 ·rw[Ke (decide_eq_true h0),Ke h0,show yb (1:Int) (λ a0=>zm a0 w)=_ from num_eq 1 (hl 1),Kd,show zm (2:Int) w=some (atW w 2) from zbn w 2,Kd,noDash_eq,Kd,show zm (3:Int) w=some (atW w 3) from zbn w 3,Kd,Kd,show yb (4:Int) (λ a0=>zm a0 w)=_ from num_eq 4 (hl 4),Kd];by_cases h3:atW w 3=(⟨[42]⟩:Str)
  ·rw[Ke (decide_eq_true h3),Kd,xb (by simp;omega) (by simp;omega),Kd,Kd];unfold fiI;rw[Ke h3,decide_eq_true h3];rfl
  ·rw[Kf (by simpa using h3),Kd,xb (by simp;omega) (by simp;omega),Kd,Kd];unfold fiI;rw[Kf h3,decide_eq_false h3];rfl
 ·rw[Kf (by simpa using h0),Kf h0];unfold stI;by_cases h1:atW w 0=(⟨Qy⟩:Str)
  ·rw[Ke (decide_eq_true h1),Ke h1,show zm (1:Int) w=some (atW w 1) from zbn w 1,Kd,Kd];exact tail _
  rw[Kf (by simpa using h1),Kf h1];by_cases h1:atW w 0=(⟨wFrom⟩:Str)
  ·rw[Ke (decide_eq_true h1),Ke h1,show yb (1:Int) (λ a0=>zm a0 w)=_ from num_eq 1 (hl 1),Kd,show zm (2:Int) w=some (atW w 2) from zbn w 2,Kd,noDash_eq,Kd,show zm (3:Int) w=some (atW w 3) from zbn w 3,Kd,Kd];exact tail _
  rw[Kf (by simpa using h1),Kf h1];by_cases h1:atW w 0=(⟨wStar⟩:Str)
  ·rw[Ke (decide_eq_true h1),Ke h1,show zm (1:Int) w=some (atW w 1) from zbn w 1,Kd,Kd];exact tail _
  rw[Kf (by simpa using h1),Kf h1];by_cases h1:atW w 0=(⟨wSet⟩:Str)
  ·rw[Ke (decide_eq_true h1),Ke h1,show zm (1:Int) w=some (atW w 1) from zbn w 1,Kd,show yb (2:Int) (λ a0=>zm a0 w)=_ from num_eq 2 (hl 2),Kd,Kd];exact tail _
  rw[Kf (by simpa using h1),Kf h1];by_cases h1:atW w 0=(⟨zbM⟩:Str)
  ·rw[Ke (decide_eq_true h1),Ke h1,show zm (1:Int) w=some (atW w 1) from zbn w 1,Kd,Kd];exact tail _
  rw[Kf (by simpa using h1),Kf h1];by_cases h1:atW w 0=(⟨wFail⟩:Str)
  ·rw[Ke (decide_eq_true h1),Ke h1,Kd];exact tail _
  rw[Kf (by simpa using h1),Kf h1,Kd];exact tail _
theorem get0(hw:w≠[]):atI w (0:Int)=some (atW w 0):=(zL w 0).trans (atW_get (by cases w with | nil=>exact absurd rfl hw | cons _ _=>simp))
theorem getK{n:Nat}(hn:cmpI .eql (w.length:Int) (n:Int)=true)(hk:k<n):atI w (k:Int)=some (atW w k):=(zL w k).trans (atW_get (by simp[cmpI] at hn;omega))
theorem readStmt_eq(hw:w≠[])(h:∀ x∈w,x.l.length<=1048576):ZE w=some (stS w):=by
 have hl:=Ja h;unfold ZE stS;rw[get0 hw,Kd];by_cases h1:(decide (atW w 0=(⟨Qy⟩:Str))&&cmpI .eql (w.length:Int) 2)=true
 ·rw[Ke h1,Ke h1,show atI w (1:Int)=_ from getK (Bool.and_eq_true .. ▸ h1).2 (by decide:1<2),Kd]
 rw[Kf h1,Kf h1,Kd];by_cases h1:(decide (atW w 0=(⟨wFrom⟩:Str))&&cmpI .eql (w.length:Int) 4)=true
 ·have h2:=(Bool.and_eq_true .. ▸ h1).2;rw[Ke h1,Ke h1,show atI w (1:Int)=_ from getK h2 (by decide:1<4),Kd,X0 (hl 1),Kd,show atI w (2:Int)=_ from getK h2 (by decide:2<4),Kd,zdM,Kd,show atI w (3:Int)=_ from getK h2 (by decide:3<4),Kd]
 rw[Kf h1,Kf h1,Kd];by_cases h1:(decide (atW w 0=(⟨wStar⟩:Str))&&cmpI .eql (w.length:Int) 2)=true
 ·rw[Ke h1,Ke h1,show atI w (1:Int)=_ from getK (Bool.and_eq_true .. ▸ h1).2 (by decide:1<2),Kd]
 rw[Kf h1,Kf h1,Kd];by_cases h1:(decide (atW w 0=(⟨wSet⟩:Str))&&cmpI .eql (w.length:Int) 3)=true
 ·have h2:=(Bool.and_eq_true .. ▸ h1).2;rw[Ke h1,Ke h1,show atI w (1:Int)=_ from getK h2 (by decide:1<3),Kd,show atI w (2:Int)=_ from getK h2 (by decide:2<3),Kd,X0 (hl 2),Kd]
 rw[Kf h1,Kf h1,Kd];by_cases h1:(decide (atW w 0=(⟨zbM⟩:Str))&&cmpI .eql (w.length:Int) 2)=true
 ·rw[Ke h1,Ke h1,show atI w (1:Int)=_ from getK (Bool.and_eq_true .. ▸ h1).2 (by decide:1<2),Kd]
 rw[Kf h1,Kf h1,Kd];by_cases h1:(decide (atW w 0=(⟨wFail⟩:Str))&&cmpI .eql (w.length:Int) 1)=true
 ·rw[Ke h1,Ke h1]
 ·rw[Kf h1,Kf h1]
theorem readFile_eq(hn:cmpI .eql (w.length:Int) 5=true)(h:∀ x∈w,x.l.length<=1048576):∃ g:File0,ql w=some g/\g.f=fiS w:=by
 have hl:=Ja h;unfold ql fiS;rw[show atI w (1:Int)=_ from getK hn (by decide:1<5),Kd,X0 (hl 1),Kd,show atI w (2:Int)=_ from getK hn (by decide:2<5),Kd,zdM,Kd,show atI w (3:Int)=_ from getK hn (by decide:3<5),Kd,show atI w (4:Int)=_ from getK hn (by decide:4<5),Kd,X0 (hl 4),Kd];by_cases h3:atW w 3=(⟨[42]⟩:Str)
 ·rw[Ke (decide_eq_true h3),Ke h3];exact⟨_,Z,Z⟩
 ·rw[Kf (by simpa using h3),Kf h3];exact⟨_,Z,Z⟩
def runO(st:Tree->List Str->Option Tree):Tree->List Str->Option Tree
 | t,[]=>some t
 | t,l::ls=>(st t (zi l 32)).bind λ t'=>runO st t' ls
theorem runO_fold:∀ (ls:List Str) (t:Tree),runO (λ t w=>some (rdI t w)) t ls=some (ls.foldl (λ t l=>rdI t (zi l 32)) t)
 | [],_=>rfl
 | _::ls,_=>runO_fold ls _
theorem zeG{w:List (List UInt8)}(hw:w≠[])(h:∀ x∈w,(32:UInt8) ∉ x):zi ⟨spc w⟩ 32=w.map Str.mk:=by
 rw[yI];obtain⟨a,l,rfl⟩:=List.exists_cons_of_ne_nil hw;exact congrArg _ (cut_spc l a h)
theorem stmtW_ne(s:Stmt):ww s≠[]:=by
 unfold ww
 repeat' split
 all_goals simp
section
variable(hs:∀ (pre:List File) (f:File) (s:Stmt),Sv s->st ⟨pre++[f]⟩ ((ww s).map Str.mk)=some ⟨pre++[{ f with body:=f.body++[s] }]⟩)
include hs
theorem runO_body:∀ (b:List Stmt) (pre:List File) (f:File) (ls:List Str),(∀ s∈b,Sv s)->runO st ⟨pre++[f]⟩ ((b.map ww).map (λ w=>(⟨spc w⟩:Str))++ls)=runO st ⟨pre++[{ f with body:=f.body++b }]⟩ ls
 | [],pre,f,ls,_=>by simp
 |s::b,pre,f,ls,h=>by
  rw[List.map_cons,List.map_cons,List.cons_append,runO,zeG (stmtW_ne s) (λ x hx=>(sv_ok (h s (by simp)) x hx).2.1),hs pre f s (h s (by simp)),Kd,runO_body b pre _ ls λ x hx=>h x (by simp[hx])];simp
variable(hf:∀ (t:Tree) (f:File),Fv f->st t ((ZJ f).map Str.mk)=some ⟨t.files++[{ f with body:=[] }]⟩)
include hf
theorem zeH:∀ (l:List File) (pre:List File),(∀ f∈l,Fv f)->runO st ⟨pre⟩ ((Jp ⟨l⟩).map (λ w=>(⟨spc w⟩:Str)))=some ⟨pre++l⟩
 | [],pre,_=>by simp[Jp,runO]
 |f::l,pre,h=>by
  have e:Jp ⟨f::l⟩=ZJ f::(f.body.map ww++Jp ⟨l⟩):=by simp[Jp]
  rw[e,List.map_cons,List.map_append,runO,zeG (by simp[ZJ]) (λ x hx=>(file_ok (h f (by simp)) x hx).2.1),hf _ f (h f (by simp)),Kd];rw[runO_body hs f.body pre { f with body:=[] } _ (h f (by simp)).body,zeH l _ λ x hx=>h x (by simp[hx])];simp
end
theorem addS_snoc(pre:List File)(f:File)(s:Stmt):addS ⟨pre++[f]⟩ s=⟨pre++[{ f with body:=f.body++[s] }]⟩:=by
 unfold addS;simp
theorem QA(h:zx s=true):Wd ⟨Xg s⟩=s:=dash_back h
theorem rnV_dig{n:Int}(h0:0<=n)(h1:n<=99):rnV ⟨dig n⟩=n:=by unfold rnV;rw[dig_read h0 h1];rfl
theorem zaQ{f:File}(h:Fv f):((⟨Wc f⟩:Str)=⟨[42]⟩) ↔ f.init=true:=by
 have h1:=h.name;unfold Wc;by_cases hi:f.init=true
 ·rw[Ke hi];simp[hi]
 ·rw[Kf hi];rw[Kf hi] at h1;refine⟨λ e=>?_,λ e=>absurd e hi⟩;have h2:f.name.l=[42]:=by injection e
  exact absurd Z (Jo (.inl (zcJ h1 42 (by rw[h2];simp)))).2.2.2
theorem file_I(t:Tree)(f:File)(h:Fv f):rdI t ((ZJ f).map Str.mk)=⟨t.files++[{ f with body:=[] }]⟩:=by
 have h1:=h.name;unfold rdI;rw[Ke (by rfl)];unfold fiI;have e3:atW ((ZJ f).map Str.mk) 3=⟨Wc f⟩:=rfl;have e1:(atW ((ZJ f).map Str.mk) 1).l=dig f.root:=rfl;have e2:atW ((ZJ f).map Str.mk) 2=⟨Xg f.pkg⟩:=rfl;have e4:(atW ((ZJ f).map Str.mk) 4).l=dig f.stamp:=rfl;rw[e1,e2,e3,e4,zcI h.r0 (by have:=h.r1;omega),zcI h.s0 h.s1,QA h.pkg];by_cases hi:f.init=true
 ·rw[Ke hi] at h1;rw[Ke ((zaQ h).2 hi)];obtain⟨r,p,n,i,s,b⟩:=f;simp only at hi h1;rw[hi,h1];rfl
 ·rw[Kf λ e=>hi ((zaQ h).1 e)];obtain⟨r,p,n,i,s,b⟩:=f;simp only[Bool.not_eq_true] at hi;rw[hi];rfl
theorem file_S(t:Tree)(f:File)(h:Fv f):rdS t ((ZJ f).map Str.mk)=some ⟨t.files++[{ f with body:=[] }]⟩:=by
 have h1:=h.name;unfold rdS;rw[Ke (by rfl)];unfold fiS;have e3:atW ((ZJ f).map Str.mk) 3=⟨Wc f⟩:=rfl;have e1:atW ((ZJ f).map Str.mk) 1=⟨dig f.root⟩:=rfl;have e2:atW ((ZJ f).map Str.mk) 2=⟨Xg f.pkg⟩:=rfl;have e4:atW ((ZJ f).map Str.mk) 4=⟨dig f.stamp⟩:=rfl;rw[e1,e2,e3,e4,rnV_dig h.r0 (by have:=h.r1;omega),rnV_dig h.s0 h.s1,QA h.pkg];by_cases hi:f.init=true
 ·rw[Ke hi] at h1;rw[Ke ((zaQ h).2 hi)];obtain⟨r,p,n,i,s,b⟩:=f;simp only at hi h1;rw[hi,h1];rfl
 ·rw[Kf λ e=>hi ((zaQ h).1 e)];obtain⟨r,p,n,i,s,b⟩:=f;simp only[Bool.not_eq_true] at hi;rw[hi];rfl
theorem stmt_stI{s:Stmt}(h:Sv s):stI ((ww s).map Str.mk)=s:=by
 cases h with
 | imp h=>rfl
 |@frm m n l hm h0 h1 hn=>have:stI ((ww ⟨1,m,l,n,0⟩).map Str.mk)=⟨1,Wd ⟨Xg m⟩,JT (dig l),n,0⟩:=rfl;rw[this,QA hm,zcI h0 (by omega)]
 | star h=>rfl
 |@set n v hn h0 h1=>have:stI ((ww ⟨3,⟨[]⟩,0,n,v⟩).map Str.mk)=⟨3,⟨[]⟩,0,n,JT (dig v)⟩:=rfl;rw[this,zcI h0 h1]
 | print hn=>rfl
 | fail=>rfl
theorem stmt_stS{s:Stmt}(h:Sv s):stS ((ww s).map Str.mk)=s:=by
 cases h with
 | imp h=>rfl
 |@frm m n l hm h0 h1 hn=>have:stS ((ww ⟨1,m,l,n,0⟩).map Str.mk)=⟨1,Wd ⟨Xg m⟩,rnV ⟨dig l⟩,n,0⟩:=rfl;rw[this,QA hm,rnV_dig h0 (by omega)]
 | star h=>rfl
 |@set n v hn h0 h1=>have:stS ((ww ⟨3,⟨[]⟩,0,n,v⟩).map Str.mk)=⟨3,⟨[]⟩,0,n,rnV ⟨dig v⟩⟩:=rfl;rw[this,rnV_dig h0 h1]
 | print hn=>rfl
 | fail=>rfl
theorem not_file{s:Stmt}(h:Sv s):¬ atW ((ww s).map Str.mk) 0=(⟨wFile⟩:Str):=by
 cases h <;> (intro e;exact absurd (show _=wFile from by injection e) (by decide))
theorem stmt_I(pre:List File)(f:File)(s:Stmt)(h:Sv s):rdI ⟨pre++[f]⟩ ((ww s).map Str.mk)=⟨pre++[{ f with body:=f.body++[s] }]⟩:=by
 unfold rdI;rw[Kf (not_file h),stmt_stI h,addS_snoc]
theorem stmt_S(pre:List File)(f:File)(s:Stmt)(h:Sv s):rdS ⟨pre++[f]⟩ ((ww s).map Str.mk)=some ⟨pre++[{ f with body:=f.body++[s] }]⟩:=by
 unfold rdS;rw[Kf (by rw[decide_eq_false (not_file h)];simp),Kf (by simp),stmt_stS h,addS_snoc]
def yT(s:Str):List Str:=(zi s 10).dropLast
theorem lines_fmt(hu:zB u=true):zi (fmt u) 10=(Jp u).map (λ w=>(⟨spc w⟩:Str))++[⟨[]⟩]:=by
 have tv:=tv_of hu;have hno:∀ w∈(Jp u).map spc,(10:UInt8) ∉ w:=λ w hw hm=>by
  obtain⟨l,hl,rfl⟩:=List.mem_map.1 hw;obtain⟨x,hx,hb⟩:=spc_mem (by decide) hm;unfold Jp at hl;obtain⟨f,hf,hl⟩:=List.mem_flatMap.1 hl;rcases List.mem_cons.1 hl with rfl | hl
  ·exact(file_ok (tv.files f hf) x hx).2.2 hb
  ·obtain⟨s,hs,rfl⟩:=List.mem_map.1 hl;exact(sv_ok ((tv.files f hf).body s hs) x hx).2.2 hb
 rw[yI,show(fmt u).l=txL ((Jp u).map spc) from Z,show cutF 10 _=_ from cut_txt _ hno];simp
theorem zeI(hu:zB u=true)(hf:∀ (t:Tree) (f:File),Fv f->st t ((ZJ f).map Str.mk)=some ⟨t.files++[{ f with body:=[] }]⟩)
  (hs:∀ (pre:List File) (f:File) (s:Stmt),Sv s->st ⟨pre++[f]⟩ ((ww s).map Str.mk)=some ⟨pre++[{ f with body:=f.body++[s] }]⟩):runO st ⟨[]⟩ (yT (fmt u))=some u:=by
 unfold yT;rw[lines_fmt hu,List.dropLast_concat];have:=zeH hs hf u.files [] (tv_of hu).files;rw[List.nil_append] at this;exact this
theorem zcL(h:x∈yT s):x.l.length<=s.l.length:=word_le (List.dropLast_subset _ h)
theorem lines_len(s:Str):(yT s).length<=s.l.length:=by
 unfold yT;rw[List.length_dropLast];have:=split_len s 10;omega
theorem zaB{y:Str}(hx:x.l.length<=1048576)(h:y∈zi x 32):y.l.length<=1048576:=Nat.le_trans (word_le h) hx
theorem bd0:Bd 0 ⟨[]⟩:=⟨Nat.le_refl _,λ _ h=>by cases h⟩
structure Told1(s:Str)(t:Tree)(b:Bool):Prop where
 good:b=true->zB t=true/\fmt t=s/\xw t
 all:∀ u,zB u=true->fmt u=s->b=true/\t=u
theorem ParseTree_eq(hs:s.l.length<=1048576):∃ t b,Zl s=some (t,b)/\Told1 s t b:=by
 have hll:=lines_len s;have hne:=cuts_ne s 10;have hlen:(zi s 10).length=(yT s).length+1:=by
  unfold yT;rw[List.length_dropLast];have:=List.length_pos_iff.2 hne;omega
 have hloop:=ju (step:=λ s25=>yX (yT s) s25) (yT s) (λ t k=>(t,(k:Int))) (λ t l=>rdI t (zi l 32)) id (λ k t=>Bd k t) (λ k t l hx hlt hi=>?_) (λ t _=>?_) (s0:=(⟨[]⟩:Tree)) bd0 (by omega)
 ·have hbd:∀ (ls:List Str) (k:Nat) (t:Tree),Bd k t->(∀ x∈ls,x.l.length<=1048576)->Bd (k+ls.length) (ls.foldl (λ t l=>rdI t (zi l 32)) t):=by
   intro ls
   induction ls with
   | nil=>intro k t h _;exact h
   |cons l ls ih=>
    intro k t h hx;have:=ih (k+1) _ (rdI_bd h λ y hy=>zaB (hx l (by simp)) hy) λ x hx'=>hx x (by simp[hx'])
    simp only[List.foldl_cons,List.length_cons];rwa[show k+(ls.length+1)=k+1+ls.length from by omega]
  have hT:=hbd (yT s) 0 ⟨[]⟩ bd0 λ x hx=>Nat.le_trans (zcL hx) hs
  have hsm:=hT.sm (by omega);have hback:∀ u,zB u=true->fmt u=s->(yT s).foldl (λ t l=>rdI t (zi l 32)) ⟨[]⟩=u:=λ u hu he=>by
   have:=zeI hu (st:=λ t w=>some (rdI t w)) (λ t f h=>congrArg some (file_I t f h)) (λ pre f x h=>congrArg some (stmt_I pre f x h));rw[he,runO_fold] at this;exact Option.some.inj this
  generalize (yT s).foldl (λ t l=>rdI t (zi l 32)) ⟨[]⟩=T at*;have e1:Zl s=some (if(zB T&&decide (fmt T=s))=true then(T,true) else(⟨[]⟩,false)):=by
   unfold Zl;rw[show yY s (⟨[10]⟩:Str)=some (zi s 10) from zcs (by omega) 10,Kd,xx (by omega) (by omega),Kd,show((zi s 10).length:Int) - 1=((yT s).length:Int) from by omega,WD (by omega),Kd];rw[show(zi s 10).take (yT s).length=yT s from by unfold yT;rw[List.length_dropLast,List.dropLast_eq_take]];rw[show zP (λ s25=>yX (yT s) s25) ((⟨[]⟩:Tree),(0:Int))=some T from hloop,Kd,Yq hsm,Kd];cases hv:zB T with
   | false=>rfl
   |true=>
    rw[FormatTree_eq hsm hv,show((!true) == false)=true from Z,q6,Kd];by_cases he:fmt T=s
    ·rw[Kf (by simp[he]),Ke (by simp[he])]
    ·rw[Ke (by simp[he]),Kf (by simp[he])]
  by_cases hc:(zB T&&decide (fmt T=s))=true
  ·rw[Ke hc] at e1;rw[Bool.and_eq_true,decide_eq_true_eq] at hc;exact⟨T,true,e1,λ _=>⟨hc.1,hc.2,hsm⟩,λ u hu he=>⟨Z,hback u hu he⟩⟩
  ·rw[Kf hc] at e1;refine⟨_,_,e1,(λ h=>by cases h),λ u hu he=>absurd ?_ hc⟩;rw[hback u hu he,hu,he];simp
 ·have hlx:=Nat.le_trans (zcL (List.mem_of_getElem? hx)) hs;refine⟨?_,rdI_bd hi λ y hy=>zaB hlx hy⟩;show yX (yT s) (t,(k:Int))=_;unfold yX;simp only;rw[zI,Ke (decide_eq_true hlt),zL,hx,Kd,show yY l (⟨[32]⟩:Str)=some (zi l 32) from zcs (by omega) 32,Kd,readLine_eq hi (by omega) λ y hy=>zaB hlx hy,Kd,zS (by omega),Kd]
 ·show yX (yT s) (t,((yT s).length:Int))=_;unfold yX;rw[zI,Kf (by simp)];rfl
theorem runL_O:∀ (ls:List Str) (k:Nat) (t:Tree),runL (λ _ t l=>match rdS t (zi l 32) with | some u=>.inl u | none=>.inr (.inr ((⟨[]⟩:Tree),false))) (λ t=>(.inl (XE,t):(Tree×Tree)⊕(Tree×Bool))) k t ls=(match runO rdS t ls with | some u=>.inl (XE,u) | none=>.inr (⟨[]⟩,false))
 | [],_,_=>rfl
 |l::ls,k,t=>by
  rw[runL,runO];cases e:rdS t (zi l 32) with
  | none=>rfl
  | some u=>exact runL_O ls (k+1) u
theorem runO_bd:∀ (ls:List Str) (k:Nat) (t u:Tree),Bd k t->(∀ x∈ls,x.l.length<=1048576)->runO rdS t ls=some u->Bd (k+ls.length) u
 | [],_,_,_,h,_,e=>by cases e;exact h
 |l::ls,k,t,u,h,hx,e=>by
  rw[runO] at e;have⟨v,hv,e⟩:=bs e;have:=runO_bd ls (k+1) v u (rdS_bd h (λ y hy=>zaB (hx l (by simp)) hy) hv) (λ x hx'=>hx x (by simp[hx'])) e;rwa[List.length_cons,show k+(ls.length+1)=k+1+ls.length from by omega]
theorem parse_eq(hs:s.l.length<=1048576):∃ t b,qH s=some (t,b)/\Told1 s t b:=by
 have hll:=lines_len s;have hne:=cuts_ne s 10;have hlen:(zi s 10).length=(yT s).length+1:=by
  unfold yT;rw[List.length_dropLast];have:=List.length_pos_iff.2 hne;omega
 have hget:∀ k l,(yT s)[k]?=some l->(zi s 10)[k]?=some l:=λ k l h=>by
  unfold yT at h;rw[List.dropLast_eq_take,List.getElem?_take] at h;split at h
  ·exact h
  ·cases h
 have hloop:=JZ (step:=λ s18=>wM (zi s 10) s18) (yT s) (λ t k=>(XE,t,(k:Int))) (λ _ t l=>match rdS t (zi l 32) with | some u=>.inl u | none=>.inr (.inr ((⟨[]⟩:Tree),false))) (λ t=>(.inl (XE,t):(Tree×Tree)⊕(Tree×Bool))) (λ k t=>Bd k t) (λ k t l hx hlt hi=>?_) (λ t hi=>?_) (s0:=(⟨[]⟩:Tree)) bd0 (by omega)
 ·rw[runL_O] at hloop;have hback:∀ u,zB u=true->fmt u=s->runO rdS ⟨[]⟩ (yT s)=some u:=λ u hu he=>by
   have:=zeI hu file_S stmt_S;rwa[he] at this
  have e0:qH s=Option.bind (α:=(Tree×Tree)⊕(Tree×Bool)) (some (match runO rdS ⟨[]⟩ (yT s) with | some u=>.inl (XE,u) | none=>.inr (⟨[]⟩,false))) (Sum.elim (λ b15=>
    (i64 (((zi s 10).length:Int) - (1:Int))).bind λ v173=>
    (atI (zi s 10) v173).bind λ v174=>
    (gO (decide (v174=(⟨[]⟩:Str)) == true) (xP b15.2)).bind λ v175=>
    (gO ((decide (v174=(⟨[]⟩:Str))&&v175) == true) (je b15.2)).bind λ v176=>
    some (b15.2,((decide (v174=(⟨[]⟩:Str))&&v175)&&decide (v176=s)))) some):=by
   unfold qH;rw[show xG s (UInt8.ofNat 10)=some (zi s 10) from Ke (by show s.l.length<=_;omega),Kd];rw[← hloop];rfl
  cases hr:runO rdS ⟨[]⟩ (yT s) with
  |none=>rw[hr,Kd] at e0;exact⟨_,_,e0,(λ h=>by cases h),λ u hu he=>by rw[hback u hu he] at hr;cases hr⟩
  |some T=>
   have hT:=runO_bd (yT s) 0 ⟨[]⟩ T bd0 (λ x hx=>Nat.le_trans (zcL hx) hs) hr;have hsm:=hT.sm (by omega);obtain⟨z,hz⟩:∃ z,(zi s 10)[(yT s).length]?=some z:=⟨_,List.getElem?_eq_getElem (by omega)⟩;rw[hr,Kd,Sum.elim_inl,xx (by omega) (by omega),Kd,show((zi s 10).length:Int) - 1=((yT s).length:Int) from by omega,zL,hz,Kd,show xP T=some (zB T) from Ke hsm] at e0;have hlast:∀ u,zB u=true->fmt u=s->z=⟨[]⟩:=λ u hu he=>by
    have h1:=lines_fmt hu;rw[he] at h1;have h2:(yT s).length=((Jp u).map (λ w=>(⟨spc w⟩:Str))).length:=by unfold yT;rw[h1,List.dropLast_concat]
    rw[h1,h2,List.getElem?_append_right (Nat.le_refl _),Nat.sub_self] at hz;simpa using hz.symm
   have hz2:decide (z=(⟨[]⟩:Str))=true\/decide (z=(⟨[]⟩:Str))=false:=by cases decide (z=(⟨[]⟩:Str)) <;> simp
   have hv2:zB T=true\/zB T=false:=by cases zB T <;> simp
   have bad:(decide (z=(⟨[]⟩:Str))&&zB T)=false->∃ t b,qH s=some (t,b)/\Told1 s t b:=λ hc=>by
    have e1:qH s=some (T,false):=by
     rw[e0];rcases hz2 with h1 | h1
     ·rw[h1,Bool.true_and] at hc;rw[h1,hc];rfl
     ·rw[h1];rfl
    refine⟨T,false,e1,(λ h=>by cases h),λ u hu he=>?_⟩;have h1:=hback u hu he;rw[hr] at h1;injection h1 with h1;rw[h1,hu,decide_eq_true (hlast u hu he)] at hc;cases hc
   rcases hz2 with h1 | h1
   ·rcases hv2 with h2 | h2
    ·rw[h1,h2,show(true == true)=true from Z,q6,Kd,show((true&&true) == true)=true from Z,q6,format_eq h2,Kd] at e0;refine⟨T,_,e0,λ hb=>?_,λ u hu he=>?_⟩
     ·refine⟨h2,?_,hsm⟩;simpa using hb
     ·have h3:=hback u hu he;rw[hr] at h3;injection h3 with h3;exact⟨by rw[h3,he];simp,h3⟩
    ·exact bad (by rw[h2,Bool.and_false])
   ·exact bad (by rw[h1,Bool.false_and])
 ·have hlx:=Nat.le_trans (zcL (List.mem_of_getElem? hx)) hs;have hw:∀ y∈zi l 32,y.l.length<=1048576:=λ y hy=>zaB hlx hy
  have hwn:=cuts_ne l 32;have hlen1:=hi.len;have e:wM (zi s 10) (XE,t,(k:Int))=(match rdS t (zi l 32) with | some u=>some (.inl (XE,u,((k+1:Nat):Int))) | none=>some (.inr (.inr (⟨[]⟩,false)))):=by
   unfold wM;simp only;rw[zS (by omega),Kd,zI,Ke (decide_eq_true (by omega)),zL,hget k l hx,Kd,show xG l (UInt8.ofNat 32)=some (zi l 32) from Ke (by show l.l.length<=_;omega),Kd,get0 hwn,Kd];unfold rdS;by_cases hc:(decide (atW (zi l 32) 0=(⟨wFile⟩:Str))&&cmpI .eql ((zi l 32).length:Int) 5)=true
   ·obtain⟨g,hg,hgf⟩:=readFile_eq (Bool.and_eq_true .. ▸ hc).2 hw;rw[Ke hc,Ke hc,hg,Kd,xb (by simp;omega) (by simp;omega),Kd,Kd,Sum.elim_inl,Kd];rw[List.map_cons,List.map_nil,hgf]
   ·rw[Kf hc,Kf hc,xx (by omega) (by omega),Kd];by_cases h0:t.files.length=0
    ·rw[Ke (by simp[cmpI];omega),Ke h0];rfl
    ·rw[Kf (by simp[cmpI];omega),Kf h0];have h1:=addS_eq hi (by omega) (stS (zi l 32)) h0;have hl:((t.files.length:Int) - (1:Int))=((t.files.length - 1:Nat):Int):=by omega
     obtain⟨f,hf⟩:∃ f,atI t.files ((t.files.length:Int) - (1:Int))=some f:=⟨_,by rw[hl,zL];exact List.getElem?_eq_getElem (by omega)⟩;rw[hf,Kd] at h1;have⟨b,hb,h1⟩:=bs h1;rw[Kd] at h1;rw[hf,Kd,readStmt_eq hwn hw,Kd,hb,Kd,Kd,Kd,Sum.elim_inl,Kd];injection h1 with h1;rw[h1]
  cases hr:rdS t (zi l 32) with
  | none=>rw[hr] at e;exact e
  | some u=>rw[hr] at e;exact⟨e,rdS_bd hi hw hr⟩
 ·show wM (zi s 10) (XE,t,((yT s).length:Int))=_;unfold wM;simp only;rw[zS (by omega),Kd,zI,Kf (by simp;omega)]
theorem spc_snoc:∀ (w:List (List UInt8)) (x:List UInt8),spc (w++[x])=if w=[] then x else spc w++32::x
 | [],x=>YX x
 | [a],x=>by rw[List.cons_append,List.nil_append,YY,YX,YX,Kf (by simp)]
 |a::b::l,x=>by
  have:=spc_snoc (b::l) x;rw[List.cons_append,List.cons_append] at*;rw[YY,this,YY,Kf (by simp),Kf (by simp)];simp
theorem words_eq(hh:∀ x∈l,x.l.length<=11/\(10:UInt8) ∉ x.l)(hl:l.length<=4397727744000):Zu l=some ⟨spc (l.map (·.l))⟩/\y7 l ⟨[32]⟩=some ⟨spc (l.map (·.l))⟩/\(spc (l.map (·.l))).length<=52772732928000/\(10:UInt8) ∉ spc (l.map (·.l)):=by
 have h:∀ x∈l,x.l.length<=11:=λ x hx=>(hh x hx).1
 have small:∀ k,(spc ((l.take k).map (·.l))).length<=52772732928000:=λ k=>by
  have:=zdo (l:=(l.take k).map (·.l)) λ w hw=>by
   obtain⟨x,hx,rfl⟩:=List.mem_map.1 hw;exact h x (List.mem_of_mem_take hx)
  rw[List.length_map,List.length_take] at this;omega
 have hs:(spc (l.map (·.l))).length<=52772732928000:=by have:=small l.length;rwa[List.take_length] at this
 have h10:(10:UInt8) ∉ spc (l.map (·.l)):=λ hm=>by
  obtain⟨w,hw,hb⟩:=spc_mem (by decide) hm;obtain⟨x,hx,rfl⟩:=List.mem_map.1 hw;exact(hh x hx).2 hb
 refine⟨?_,?_,hs,h10⟩
 ·have hloop:zP (λ s5=>qm l s5) ((⟨[]⟩:Str),(0:Int))=some ⟨spc (l.map (·.l))⟩:=by
   refine Xe (b:=(⟨spc (l.map (·.l))⟩:Str)) l.length (λ k=>((⟨spc ((l.take k).map (·.l))⟩:Str),(k:Int))) (λ k hk=>?_) ?_ (by omega) (by rfl)
   ·obtain⟨x,hx⟩:∃ x,l[k]?=some x:=⟨_,List.getElem?_eq_getElem hk⟩;have h1:=small k;have hxl:=h x (List.mem_of_getElem? hx);have h2:(l.take (k+1)).map (·.l)=(l.take k).map (·.l)++[x.l]:=by
     rw[List.take_add_one,hx];simp
    unfold qm;simp only;rw[zI,Ke (decide_eq_true hk),h2,spc_snoc,zL,hx,zS (by omega)];generalize hw:(l.take k).map (·.l)=w at h1;by_cases h0:k=0
    ·subst h0;have hz:w=[]:=hw.symm;subst hz;rw[Kf (by decide),Ke Z,Kd,Kd,show spc []=[] from Z,zR (by simp only[List.length_nil];omega),Kd,Kd];rfl
    ·have hne:w≠[]:=λ e=>by
      have:=congrArg List.length (hw.trans e);simp only[List.length_map,List.length_take,List.length_nil] at this;omega
     rw[Ke (show cmpI .gtr (k:Int) (0:Int)=true from decide_eq_true (by omega)),Kf hne,zR (by simp only[List.length_cons,List.length_nil];omega),Kd,Kd,Kd,zR (by simp only[List.length_append,List.length_cons,List.length_nil];omega),Kd,Kd];simp
   ·unfold qm;simp only;rw[zI,Kf (by simp),List.take_length]
  unfold Zu;rw[hloop,Kd]
 ·unfold y7;exact Ke ⟨by omega,by show(spc (l.map (·.l))).length<=_;omega⟩
theorem cut_two(hx:x.l.length<=1048576):(jc x ⟨[32]⟩=some (x,⟨[]⟩,false)/\zi x 32=[x])\/∃ a b:Str,jc x ⟨[32]⟩=some (a,b,true)/\zi x 32=a::zi b 32/\b.l.length<=1048576:=by
 have hge:=Lib.indexByte_ge x.l 32;unfold jc xH;rw[show yK x ⟨[32]⟩=some (Lib.indexByte x.l 32) from Z,Kd,yI];cases hc:cmpI .geq (Lib.indexByte x.l 32) 0 with
 |false=>
  rw[Kf (by decide),Kd];have h0:Lib.indexByte x.l 32<0:=by have:=of_decide_eq_false hc;omega
  have h1:cutF 32 x.l=[x.l]:=YJ 32 x.l h0;rw[h1];exact .inl ⟨Z,Z⟩
 |true=>
  have h0:0<=Lib.indexByte x.l 32:=oD hc;obtain⟨h1,h2⟩:=YK 32 x.l h0;obtain⟨n,hn⟩:∃ n:Nat,Lib.indexByte x.l 32=n:=⟨_,(Int.toNat_of_nonneg h0).symm⟩;rw[hn] at h1 h2 ⊢;have h3:cutF 32 x.l=x.l.take n::cutF 32 (x.l.drop (n+1)):=h2;have hl:n+1<=x.l.length:=by omega
  rw[Ke Z,Xd (by omega),Kd,show((n:Int)+((⟨[32]⟩:Str).l.length:Int))=((n:Int)+1) from Z,xx (by omega) (by omega),Kd,show((n:Int)+1)=((n+1:Nat):Int) from Z,WC hl,Kd,Kd,h3];exact .inr ⟨_,_,Z,by rw[yI];rfl,by simp;omega⟩
theorem split_one(h:(32:UInt8) ∉ s.l):zi s 32=[s]:=by rw[yI,zdn h];rfl
theorem kind_word{k:Int}(h:k=0\/k=1\/k=2\/k=3):∃ r:Str,atI gkinds k=some r/\ZF k=some r/\r.l.length<=11/\(10:UInt8) ∉ r.l:=by
 rcases h with rfl | rfl | rfl | rfl <;> exact⟨_,Z,Z,by decide,by decide⟩
theorem end_word{k:Int}(h0:0<=k)(h1:k<=6):∃ r:Str,atI gends k=some r/\(m_spec_endWords.bind λ v=>atI v k)=some r/\r.l.length<=11/\(10:UInt8) ∉ r.l:=by
 have:k=0\/k=1\/k=2\/k=3\/k=4\/k=5\/k=6:=by omega
 rcases this with rfl | rfl | rfl | rfl | rfl | rfl | rfl <;> exact⟨_,Z,Z,by decide,by decide⟩
section
theorem done_names(hv:zB t=true)(hl:p.length<=1048576)(hs:zf s=true):∀ x∈evs 1 (logV t p s),x.l.length<=11/\(10:UInt8) ∉ x.l:=λ x hx=>by
 have h1:=(ran_bal hv hl hs).1.sub x (.inl hx);rw[show evs 0 (logV t p s)=(ranR t p s).1.mods.map (·.name) from(ran_wf hv hl hs).starts] at h1;obtain⟨m,hm,rfl⟩:=List.mem_map.1 h1;have hn:=zcK ((zbL hv hl hs).2.1.inv.names m hm);exact⟨hn.1,hn.2.2⟩
theorem asked(ht:xw t)(hv:zB t=true)(hp:yk p=true)(hl:p.length<=1048576)(a b:Str)(hb:zf b=true):∃ r:Str,
  (if(decide (a=(⟨[102,105,110,100]⟩:Str)))=true then((jA t p b).bind λ v36=>
(atI gkinds v36.kind).bind λ v39=>
some v39)
else(if(decide (a=(⟨[105,109,112,111,114,116]⟩:Str)))=true then((jO (scc yE) t p b).bind λ v53=>
(atI gends v53.1).bind λ v56=>
some v56)
else(if(decide (a=(⟨[111,114,100,101,114]⟩:Str)))=true then((Zi (scc yE) t p b).bind λ v62=>
(y7 v62 (⟨[32]⟩:Str)).bind λ v63=>
some v63)
else(some (⟨[119,104,97,116]⟩:Str)))))=some r/\
  (if(decide (a=(⟨[102,105,110,100]⟩:Str)))=true then((Xa t p b).bind λ v33=>
(ZF v33.kind).bind λ v34=>
some v34)
else(if(decide (a=(⟨[105,109,112,111,114,116]⟩:Str)))=true then((m_spec_endWords).bind λ v44=>
(XP (scc yE) t p ([b]:List Str)).bind λ v46=>
(atI v44 v46.fin).bind λ v47=>
some v47)
else(if(decide (a=(⟨[111,114,100,101,114]⟩:Str)))=true then((Zk (scc yE) t p b).bind λ v59=>
(Zu v59).bind λ v60=>
some v60)
else(some (⟨[119,104,97,116]⟩:Str)))))=some r/\r.l.length<=52772732928000/\(10:UInt8) ∉ r.l:=by
 have hn:=wk hb;have ho:okG t p b=true:=by unfold okG;rw[hv,hp,hb];rfl
 by_cases h1:a=(⟨[102,105,110,100]⟩:Str)
 ·obtain⟨r,e1,e2,e3⟩:=kind_word (find_kind (t:=t) (path:=p) hb);rw[Ke (decide_eq_true h1),Ke (decide_eq_true h1),zdG ht hl hn,Kd,show Wl t p b=find t.files p b from by unfold Wl;rw[hv,hp,hb];rfl,e1,Kd,show Xa t p b=some (find t.files p b) from Ke ⟨by omega,hn.mid⟩,Kd,e2];exact⟨r,Z,Z,by omega,e3.2⟩
 ·have n1:=mt oD h1;rw[Kf n1,Kf n1];by_cases h2:a=(⟨[105,109,112,111,114,116]⟩:Str)
  ·obtain⟨hr,hq,_⟩:=zbL hv hl hb;obtain⟨r,e1,e2,e3⟩:=end_word hq.ends.1 hq.ends.2;rw[Ke (decide_eq_true h2),Ke (decide_eq_true h2),ImportOne_eq ht hl hn,Kd,show endV t p b=(ranR t p b).2.2 from by unfold endV;rw[Ke ho],e1,zdL hv hl hb];refine⟨r,Z,?_,by omega,e3.2⟩;obtain⟨v,hw⟩:∃ v,m_spec_endWords=some v:=⟨_,Z⟩;rw[hw,Kd] at e2 ⊢;rw[Kd,show(rnr t p YA (ranR t p b).1 (ranR t p b).2.2).fin=(ranR t p b).2.2 from Z,e2,Kd]
  ·have n2:=mt oD h2;rw[Kf n2,Kf n2];by_cases h3:a=(⟨[111,114,100,101,114]⟩:Str)
   ·have hw:=words_eq (l:=evV 1 t p b) (by unfold evV;rw[Ke ho];exact done_names hv hl hb) (by have:=evV_len (t:=t) (s:=b) hl 1;omega);rw[Ke (decide_eq_true h3),Ke (decide_eq_true h3),DoneOrder_eq ht hl hn,zcE ht hl hn,Kd,Kd,hw.1,hw.2.1];exact⟨_,Z,Z,hw.2.2⟩
   ·have n3:=mt oD h3;rw[Kf n3,Kf n3];exact⟨_,Z,Z,by decide,by decide⟩
theorem answer_eq(ht:xw t)(hv:zB t=true)(hp:yk p=true)(hl:p.length<=1048576)(hx:x.l.length<=1048576):∃ r:Str,qN (scc yE) t p x=some r/\YI (scc yE) t p x=some r/\r.l.length<=52772732928000/\(10:UInt8) ∉ r.l:=by
 unfold qN YI;rw[show xG x (UInt8.ofNat 32)=some (zi x 32) from Ke (by show x.l.length<=_;omega),Kd];by_cases h1:x=(⟨[110,97,109,101,115]⟩:Str)
 ·have hn:=zcT ht;have hf:qJ t p=(names t).filter (Xm t.files p):=by unfold qJ;rw[hv,hp];rfl
  have hw:=words_eq (l:=qJ t p) (λ y hy=>by rw[hf] at hy;have hn:=zcK (zaq hv (List.mem_filter.1 hy).1);exact⟨hn.1,hn.2.2⟩) (by rw[hf];exact Nat.le_trans (List.length_filter_le _ _) hn);rw[Ke (decide_eq_true h1),Ke (decide_eq_true h1),FoundNames_eq ht hl,Kd,show qA t p=some (qJ t p) from Ke ⟨ht,by omega⟩,Kd,hw.1,hw.2.1];exact⟨_,Z,Z,hw.2.2⟩
 ·have n1:=mt oD h1;rw[Kf n1,Kf n1];by_cases h2:x=(⟨[102,105,108,101,115]⟩:Str)
  ·have h12:=YL hv;rw[Ke (decide_eq_true h2),Ke (decide_eq_true h2),ZU (by omega) (by omega),zcH (by omega) (by omega)];exact⟨_,Z,Z,Nat.le_trans (qr (n:=(t.files.length:Int)) (by omega) (by omega)).1 (by decide),(qr (n:=(t.files.length:Int)) (by omega) (by omega)).2.2⟩
  ·have n2:=mt oD h2;rw[Kf n2,Kf n2];have what:∃ r:Str,some (⟨[119,104,97,116]⟩:Str)=some r/\some (⟨[119,104,97,116]⟩:Str)=some r/\r.l.length<=52772732928000/\(10:UInt8) ∉ r.l:=⟨_,Z,Z,by decide,by decide⟩;rcases cut_two hx with⟨e1,e2⟩ | ⟨a,b,e1,e2,hb⟩
   ·rw[e1,e2,Kd,show z7 (x,(⟨[]⟩:Str),false).2.1=some false from xu (s:=⟨[]⟩) (show(0:Nat)<=8388608 by decide)];exact what
   ·have hvn:z7 b=some (zf b):=xu (by unfold sho;omega);have hsn:yL b=some (zf b):=Ke (sho.mid (by unfold sho;omega));rw[e1,e2,Kd,hvn,Kd];rcases cut_two hb with⟨_,e3⟩ | ⟨c,d,_,e3,_⟩
    ·rw[e3,show((cmpI .neq (([a,b]:List Str).length:Int) (2:Int) == false):Bool)=true from Z,q6,show atI [a,b] (1:Int)=some b from Z,Kd,q6,hsn,Kd,show(cmpI .neq (([a,b]:List Str).length:Int) (2:Int)||!zf b)=(!zf b) from Z];cases hvb:zf b with
     | false=>exact what
     |true=>simp only[show atI [a,b] (0:Int)=some a from Z,Kd];exact asked ht hv hp hl a b hvb
    ·have hne:=cuts_ne d 32;have hnb:zf b=false:=by
      cases hvb:zf b with
      | false=>rfl
      |true=>rw[split_one (zcK hvb).2.1] at e3;have h5:=congrArg List.length e3;have h6:=List.length_pos_iff.2 hne;simp only[List.length_cons,List.length_nil] at h5;omega
     have hlen:cmpI .neq (((a::zi b 32).length:Nat):Int) (2:Int)=true:=by
      have h6:=List.length_pos_iff.2 hne;obtain⟨m,hm⟩:∃ m,(zi d 32).length=m+1:=⟨(zi d 32).length - 1,by omega⟩;rw[e3,List.length_cons,List.length_cons,hm];unfold cmpI;simp;omega
     rw[hnb,hlen];exact what
def ansV(t:Tree)(p:List Int)(x:Str):Str:=(qN (scc yE) t p x).getD ⟨[]⟩
theorem ans_eq(ht:xw t)(hv:zB t=true)(hp:yk p=true)(hl:p.length<=1048576)(hx:x.l.length<=1048576):qN (scc yE) t p x=some (ansV t p x)/\YI (scc yE) t p x=some (ansV t p x)/\(ansV t p x).l.length<=52772732928000/\(10:UInt8) ∉ (ansV t p x).l:=by
 obtain⟨r,e1,e2,e3⟩:=answer_eq ht hv hp hl hx;have:ansV t p x=r:=by unfold ansV;rw[e1];rfl
 rw[this];exact⟨e1,e2,e3⟩
def Jb(t:Tree)(b:Bool)(p:List Int)(o x:Str):Str:=if b=true then⟨o.l++((ansV t p x).l++[10])⟩ else⟨o.l++[119,114,111,110,103,10]⟩
def ZK(t:Tree)(b:Bool)(p:List Int)(l:List Str):Str:=l.foldl (Jb t b p) ⟨[]⟩
theorem desk_loops(hb:b=true->xw t/\zB t=true)(hp:yk p=true)(hl:p.length<=1048576)(h20:l.length<=20)(hx:∀ x∈l,x.l.length<=1048576)(hu:b=true->u=t):
  zP (λ s20=>xp (scc yE) p l (t,b) s20) ((⟨[]⟩:Str),(0:Int))=some (ZK t b p l)/\zP (λ s19=>xq (scc yE) p l (u,b) s19) ((⟨[]⟩:Str),(0:Int))=some (ZK t b p l):=by
 have hg:∀ (k:Nat) (o x:Str),x∈l->o.l.length<=k*60000000000000->(Jb t b p o x).l.length<=(k+1)*60000000000000:=λ k o x hm ho=>by
  unfold Jb;cases e:b with
  | false=>rw[Kf (by decide)];simp only[List.length_append,List.length_cons,List.length_nil];omega
  |true=>obtain⟨ht,hv⟩:=hb e;have:=(ans_eq ht hv hp hl (hx x hm)).2.2.1;rw[Ke Z];simp only[List.length_append,List.length_cons,List.length_nil];omega
 constructor
 ·refine ju (step:=λ s=>xp (scc yE) p l (t,b) s) l (λ o k=>(o,(k:Int))) (Jb t b p) id (λ k o=>o.l.length<=k*60000000000000) (λ k o x hk hlt ho=>⟨?_,hg k o x (List.mem_of_getElem? hk) ho⟩) (λ o _=>?_) (s0:=(⟨[]⟩:Str)) (Nat.zero_le _) (by omega)
  ·have hm:=hx x (List.mem_of_getElem? hk);show xp (scc yE) p l (t,b) (o,(k:Int))=_;unfold xp Jb;simp only;rw[zI,Ke (decide_eq_true hlt),zL,hk,Kd,zS (by omega)];cases e:b with
   | false=>rw[Kf (by decide),Kf (by decide),zR (by simp only[List.length_cons,List.length_nil];omega)];rfl
   |true=>obtain⟨ht,hv⟩:=hb e;obtain⟨e1,_,e3,_⟩:=ans_eq ht hv hp hl hm;rw[Ke Z,Ke Z,e1,Kd,zR (by simp only[List.length_cons,List.length_nil];omega),Kd,zR (by simp only[List.length_append,List.length_cons,List.length_nil];omega)];rfl
  ·show xp (scc yE) p l (t,b) (o,(l.length:Int))=_;unfold xp;simp only;rw[zI,Kf (by simp)];rfl
 ·refine ju (step:=λ s=>xq (scc yE) p l (u,b) s) l (λ o k=>(o,(k:Int))) (Jb t b p) id (λ k o=>o.l.length<=k*60000000000000) (λ k o x hk hlt ho=>⟨?_,hg k o x (List.mem_of_getElem? hk) ho⟩) (λ o _=>?_) (s0:=(⟨[]⟩:Str)) (Nat.zero_le _) (by omega)
  ·have hm:=hx x (List.mem_of_getElem? hk);show xq (scc yE) p l (u,b) (o,(k:Int))=_;unfold xq Jb;simp only;rw[zI,Ke (decide_eq_true hlt),zL,hk,Kd,zS (by omega)];cases e:b with
   | false=>rw[Kf (by decide),Kf (by decide),zR (by simp only[List.length_cons,List.length_nil];omega)];rfl
   |true=>obtain⟨ht,hv⟩:=hb e;obtain⟨_,e2,e3,_⟩:=ans_eq ht hv hp hl hm;rw[Ke Z,Ke Z,hu e,e2,Kd,zR (by omega),Kd,zR (by simp only[List.length_append,List.length_cons,List.length_nil];omega),Kd,Kd,Kd,List.append_assoc]
  ·show xq (scc yE) p l (u,b) (o,(l.length:Int))=_;unfold xq;simp only;rw[zI,Kf (by simp)];rfl
theorem zdN(hs:s.l.length<=1048576)(hl:p.length<=1048576)(hp:yk p=true):∃ t b,(b=true->xw t/\zB t=true)/\∀ l:List Str,l.length<=20->(∀ x∈l,x.l.length<=1048576)->jp (scc yE) s p l=some (ZK t b p l)/\jq (scc yE) s p l=some (ZK t b p l):=by
 obtain⟨t,b,e1,q1⟩:=ParseTree_eq hs;obtain⟨u,c,e2,q2⟩:=parse_eq hs;have hbc:c=b:=by
  cases hb:b with
  | true=>obtain⟨hv,hf,_⟩:=q1.good hb;exact(q2.all t hv hf).1
  |false=>
   cases hc:c with
   | false=>rfl
   |true=>obtain⟨hv,hf,_⟩:=q2.good hc;rw[(q1.all u hv hf).1] at hb;cases hb
 subst hbc;refine⟨t,c,λ h=>⟨(q1.good h).2.2,(q1.good h).1⟩,λ l h20 hx=>?_⟩;have hg:cmpI .gtr (l.length:Int) (20:Int)=false:=decide_eq_false (by omega);obtain⟨k1,k2⟩:=desk_loops (t:=t) (b:=c) (p:=p) (l:=l) (u:=u) (λ h=>⟨(q1.good h).2.2,(q1.good h).1⟩) hp hl h20 hx (λ h=>by obtain⟨hv,hf,_⟩:=q1.good h;exact(q2.all t hv hf).2);unfold jp jq;rw[Zw hl,show xh p=some (yk p) from Ke trivial,xA,Kd,Kd,hg,show((false == false):Bool)=true from Z,Ke Z,hp,Kf (by decide),Kf (by decide),e1,e2,Kd,Kd,k1,k2];exact⟨Z,Z⟩
theorem RunDesk_eq(hs:s.l.length<=1048576)(hl:p.length<=1048576)(hx:∀ x∈l,x.l.length<=1048576):∃ r,jp (scc yE) s p l=some r/\jq (scc yE) s p l=some r:=by
 cases h20:cmpI .gtr (l.length:Int) (20:Int) with
 |false=>
  cases hp:yk p with
  |true=>obtain⟨t,b,_,h⟩:=zdN hs hl hp;exact⟨_,h l (by have:=of_decide_eq_false h20;omega) hx⟩
  |false=>unfold jp jq;rw[Zw hl,show xh p=some (yk p) from Ke trivial,xA,Kd,Kd,h20,show((false == false):Bool)=true from Z,Ke Z,hp];exact⟨_,Z,Z⟩
 |true=>unfold jp jq;rw[Zw hl,show xh p=some (yk p) from Ke trivial,xA,Kd,Kd,h20];exact⟨_,Z,Z⟩
end
theorem zdq(o x:Str):∃ w:List UInt8,(Jb t b p o x).l=o.l++w/\(b=true->w=(ansV t p x).l++[10])/\(b=false->w=[119,114,111,110,103,10]):=by
 unfold Jb;cases b with
 | true=>exact⟨_,Z,(λ _=>Z),(λ h=>by cases h)⟩
 | false=>exact⟨_,Z,(λ h=>by cases h),(λ _=>rfl)⟩
theorem desk_fold:∀ (l:List Str) (o:Str),∃ w:List UInt8,(l.foldl (Jb t b p) o).l=o.l++w
 | [],o=>⟨[],by simp⟩
 |x::l,o=>by
  obtain⟨w,hw,_⟩:=zdq (t:=t) (b:=b) (p:=p) o x;obtain⟨v,hv⟩:=desk_fold l (Jb t b p o x);exact⟨w++v,by rw[List.foldl_cons,hv,hw,List.append_assoc]⟩
theorem desk_early(l:List Str)(k:Nat):∃ w:List UInt8,(ZK t b p l).l=(ZK t b p (l.take k)).l++w:=by
 have:ZK t b p l=(l.drop k).foldl (Jb t b p) (ZK t b p (l.take k)):=by
  unfold ZK;rw[← List.foldl_append,List.take_append_drop]
 rw[this];exact desk_fold _ _
theorem zeJ(hb:b=true->xw t/\zB t=true)(hp:yk p=true)(hl:p.length<=1048576):∀ (l:List Str) (o:Str),(∀ x∈l,x.l.length<=1048576)->(l.foldl (Jb t b p) o).l.count 10=o.l.count 10+l.length
 | [],o,_=>by simp
 |x::l,o,hx=>by
  rw[List.foldl_cons,zeJ hb hp hl l _ λ y hy=>hx y (by simp[hy])];obtain⟨w,hw,h1,h2⟩:=zdq (t:=t) (b:=b) (p:=p) o x;have hc:w.count 10=1:=by
   cases e:b with
   |true=>obtain⟨ht,hv⟩:=hb e;have hn:=(ans_eq ht hv hp hl (hx x (by simp))).2.2.2;rw[h1 e,List.count_append,List.count_eq_zero.2 hn];rfl
   | false=>rw[h2 e];decide
  rw[hw,List.count_append,hc,List.length_cons];omega
theorem desk_lines(hb:b=true->xw t/\zB t=true)(hp:yk p=true)(hl:p.length<=1048576)(hx:∀ x∈l,x.l.length<=1048576):(ZK t b p l).l.count 10=l.length:=by
 have:=zeJ hb hp hl l ⟨[]⟩ hx;simpa[ZK] using this
theorem desk_len(hb:b=true->xw t/\zB t=true)(hp:yk p=true)(hl:p.length<=1048576):∀ (l:List Str) (o:Str),(∀ x∈l,x.l.length<=1048576)->(l.foldl (Jb t b p) o).l.length<=o.l.length+l.length*60000000000000
 | [],o,_=>by simp
 |x::l,o,hx=>by
  have ih:=desk_len hb hp hl l (Jb t b p o x) λ y hy=>hx y (by simp[hy])
  obtain⟨w,hw,h1,h2⟩:=zdq (t:=t) (b:=b) (p:=p) o x;have hc:w.length<=60000000000000:=by
   cases e:b with
   |true=>obtain⟨ht,hv⟩:=hb e;have hn:=(ans_eq ht hv hp hl (hx x (by simp))).2.2.1;rw[h1 e,List.length_append];simp only[List.length_cons,List.length_nil];omega
   | false=>rw[h2 e];decide
  rw[hw,List.length_append] at ih;rw[List.foldl_cons,List.length_cons];omega
def two(n:Int):Prop:=0<=n/\n<=99
instance (n:Int):Decidable (two n):=by unfold two;infer_instance
def nuS(s:Stmt):Prop:=(s.module.l.length<=16/\s.name.l.length<=16)/\two s.level/\two s.value
def nuB(n:Nat)(b:List Stmt):Prop:=b.length<=n/\∀ s∈b,nuS s
def nuF(n:Nat)(f:File):Prop:=f.pkg.l.length<=16/\f.name.l.length<=16/\nuB n f.body/\two f.root/\two f.stamp
def nuT(n m:Nat)(t:Tree):Prop:=t.files.length<=n/\∀ f∈t.files,nuF m f
theorem dashL_len{n:Nat}(h:s.l.length<=n):(Xg s).length<=n+1:=by
 unfold Xg;split
 ·simp
 ·omega
def stV(s:Stmt):Str:=(yZ s).getD ⟨[]⟩
def flV(f:File):Str:=(wL f).getD ⟨[]⟩
theorem got{α:Type}{x:Option α}{d:α}{P:α->Prop}(h:∃ r,x=some r/\P r):x=some (x.getD d)/\P (x.getD d):=by
 obtain⟨r,rfl,hp⟩:=h;exact⟨Z,hp⟩
theorem stV_eq{s:Stmt}(h:nuS s):yZ s=some (stV s)/\(stV s).l.length<=80:=by
 refine got (P:=λ r:Str=>r.l.length<=80) ?_;obtain⟨⟨hm,hn⟩,⟨l0,l1⟩,⟨v0,v1⟩⟩:=h;have d1:=(qr l0 l1).1;have d2:=(qr v0 v1).1;have d3:=dashL_len hm;unfold yZ;split
 ·rw[zR (by simp;omega),Kd];exact⟨_,Z,by simp;omega⟩
 split
 ·rw[ZU l0 l1,Kd,zR (by simp;omega),Kd,zR (by simp;omega),Kd,zaO,Kd,zR (by simp;omega),Kd,zR (by simp;omega),Kd,zR (by simp;omega),Kd];exact⟨_,Z,by simp;omega⟩
 split
 ·rw[zR (by simp;omega),Kd];exact⟨_,Z,by simp;omega⟩
 split
 ·rw[zR (by simp;omega),Kd,zR (by simp;omega),Kd,ZU v0 v1,Kd,zR (by simp;omega),Kd];exact⟨_,Z,by simp;omega⟩
 split
 ·rw[zR (by simp;omega),Kd];exact⟨_,Z,by simp;omega⟩
 ·exact⟨_,Z,by decide⟩
theorem flV_eq{n:Nat}{f:File}(h:nuF n f):wL f=some (flV f)/\(flV f).l.length<=80:=by
 refine got (P:=λ r:Str=>r.l.length<=80) ?_;obtain⟨hp,hn,_,⟨l0,l1⟩,⟨v0,v1⟩⟩:=h;have d1:=(qr l0 l1).1;have d2:=(qr v0 v1).1;have d3:=dashL_len hp;have d4:(Wc f).length<=17:=by
  unfold Wc;split
  ·simp
  ·omega
 unfold wL;have e:(if f.init=true then(some (⟨[42]⟩:Str)) else some f.name)=some ⟨Wc f⟩:=by unfold Wc;split <;> rfl
 rw[e,Kd,ZU l0 l1,Kd,zR (by simp;omega),Kd,zR (by simp;omega),Kd,zaO,Kd,zR (by simp;omega),Kd,zR (by simp;omega),Kd,zR (by simp;omega),Kd,zR (by simp;omega),Kd,ZU v0 v1,Kd,zR (by simp;omega),Kd];exact⟨_,Z,by simp;omega⟩
def addS'(o:Str)(s:Stmt):Str:=⟨(o.l++(stV s).l)++[10]⟩
def addF'(o:Str)(f:File):Str:=f.body.foldl addS' ⟨(o.l++(flV f).l)++[10]⟩
theorem addS_len:∀ {b:List Stmt} {o:Str},(∀ s∈b,nuS s)->(b.foldl addS' o).l.length<=o.l.length+81*b.length
 | [],o,_=>by simp
 |s::b,o,h=>by
  have h1:=(stV_eq (h s (by simp))).2;have h2:=addS_len (b:=b) (o:=addS' o s) λ x hx=>h x (by simp[hx])
  have h3:(addS' o s).l.length<=o.l.length+81:=by unfold addS';simp;omega
  rw[List.foldl_cons,List.length_cons];omega
theorem addF'_len{n:Nat}{f:File}(h:nuF n f):(addF' o f).l.length<=o.l.length+81*(n+1):=by
 have h1:=(flV_eq h).2;have h2:=h.2.2.1;have h3:=addS_len (b:=f.body) (o:=⟨(o.l++(flV f).l)++[10]⟩) h2.2;have h4:=h2.1;unfold addF';simp only[List.length_append,List.length_cons,List.length_nil] at h3;omega
theorem fmt_body{n:Nat}{f:File}(hf:t.files[k]?=some f)(h:nuF n f)(hn:n<=10)(o0:Str)(ho:out.l.length<=500000):zP (λ s=>yg t (o0,(k:Int)) s) (out,(0:Int))=some (f.body.foldl addS' out):=by
 have hb:=h.2.2.1;have hb1:=hb.1;refine ju (step:=λ s=>yg t (o0,(k:Int)) s) f.body (λ o k=>(o,(k:Int))) addS' id (λ k o=>o.l.length<=500000+81*k) (λ j o s hx hlt hi=>?_) (λ o _=>?_) (s0:=out) (by omega) (by omega)
 ·obtain⟨e1,e2⟩:=stV_eq (hb.2 s (List.mem_of_getElem? hx));refine⟨?_,by unfold addS';simp;omega⟩;show yg t (o0,(k:Int)) (o,(j:Int))=_;unfold yg;simp only;rw[zL,hf,Kd,zI,Ke (decide_eq_true hlt),Kd,zL,hx,Kd,e1,Kd,zR (by omega),Kd,zR (by simp;omega),Kd,zS (by omega),Kd];rfl
 ·show yg t (o0,(k:Int)) (o,(f.body.length:Int))=_;unfold yg;simp only;rw[zL,hf,Kd,zI,Kf (by simp)];rfl
theorem format_n{n m:Nat}(h:nuT n m t)(hn:n<=20)(hm:m<=10):∃ r:Str,je t=some r/\r.l.length<=20000:=by
 have hl:=h.1;have key:=ju (step:=λ s=>yh t s) t.files (λ o k=>(o,(k:Int))) addF' id (λ k o=>o.l.length<=900*k) (λ k o f hx hlt hi=>?_) (λ o _=>?_) (s0:=(⟨[]⟩:Str)) (by simp) (by omega)
 ·have hlen:∀ (l:List File) (o:Str),(∀ f∈l,nuF m f)->(l.foldl addF' o).l.length<=o.l.length+900*l.length:=by
   intro l
   induction l with
   | nil=>intro o _;simp
   |cons f l ih=>
    intro o hf;have h1:=addF'_len (o:=o) (hf f (by simp));have h2:=ih (addF' o f) λ x hx=>hf x (by simp[hx])
    rw[List.foldl_cons,List.length_cons];have:81*(m+1)<=891:=by omega
    omega
  have h3:=hlen t.files ⟨[]⟩ h.2;simp only[List.length_nil] at h3;unfold je;rw[show zP (λ s=>yh t s) ((⟨[]⟩:Str),(0:Int))=_ from key,Kd];exact⟨_,Z,by show(t.files.foldl addF' ⟨[]⟩).l.length<=_;omega⟩
 ·have hf:=h.2 f (List.mem_of_getElem? hx);obtain⟨e1,e2⟩:=flV_eq hf;have h1:=addF'_len (o:=o) hf;have:81*(m+1)<=891:=by omega
  refine⟨?_,by omega⟩;show yh t (o,(k:Int))=_;unfold yh;simp only;rw[zI,Ke (decide_eq_true hlt),zL,hx,Kd,e1,Kd,zR (by omega),Kd,zR (by simp;omega),Kd];rw[fmt_body hx hf hm o (by simp;omega),Kd,zS (by omega),Kd];rfl
 ·show yh t (o,(t.files.length:Int))=_;unfold yh;rw[zI,Kf (by simp)];rfl
end Go.Proofs.YtifgdhfcoaognaaGreatDoor
