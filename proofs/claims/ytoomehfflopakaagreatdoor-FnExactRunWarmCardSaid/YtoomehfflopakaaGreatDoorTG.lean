import Derived.Test.YtoomehfflopakaaGreatDoorTB
import Derived.Laws.BytesArg
import Derived.OrdersHeld
namespace Go.Proofs.YtoomehfflopakaaGreatDoor
open Go.RowKit
variable{a:Act}{A2:Addr}{listed:Array Bool}{ops:Array Oper}{ts:Array TypeId}{C tmps:Array Value}{c want:Bool}{R X y yd:Dt}{L L' L2:Env}{Q:Exit->Act->World->Prop}{F:eG}{f:FuncId}{m:Int}{Gs Gs':List (Nat->Prop)}{O O2:List (Nat×Nat×Dt)}{ds rs xr xs:List Dt}{ks ns qs:List Nat}{rest:List Oper}{l opds:List Operand}{c1 c2 cy ycells zs:List Value}{N b bytes d fo i j k off p p2 s sb tv:Nat}{B G G' G1 G2 G3 Gr M M' M0 Mb:Nat->Prop}{o o2:Oper}{q vo x:Operand}{A:Option Addr}{g:Option Nat}{P:Program}{dst e e2 src t ty ty2:TypeId}{u v v0 x2:Value}{w w' w0:World}{S:World->Prop}
def rv(n:Int):UInt8:=UInt8.ofNat (n % 256).toNat
def Bf(P:Program)(src dst:TypeId):Bool:=(P.underlying src).isSome&&(match P.underlying dst with | some (.int .u8)=>true | _=>false)
def Bh(P:Program)(src dst:TypeId):Bool:=(match P.underlying src with | some (.slice e)=>(match P.underlying e with | some (.int .u8)=>true | _=>false) | _=>false)&&(match P.underlying dst with | some .string=>true | _=>false)
section
variable{look:Nat->Option Dt}
theorem Tu(n:Int):IntKind.u8.wrap n=((rv n).toNat:Int):=by
 unfold rv;have h1:0<=n % 256:=Int.emod_nonneg _ (by decide);have h2:n % 256<256:=Int.emod_lt_of_pos _ (by decide);have h3:(UInt8.ofNat (n % 256).toNat).toNat=(n % 256).toNat:=by
  rw[UInt8.toNat_ofNat'];omega
 rw[h3];simp[IntKind.wrap,IntKind.bits,IntKind.signed];omega
theorem T4{n:Int}(ho:o.op=.convert src dst x)(h:Bf P src dst=true)(hx:eC M look x (dt n)):eP P M look o (dt (rv n)):=
 zz λ a w _ hl=>by
  unfold Bf at h;rw[ac] at h;have hd:P.underlying dst=some (.int .u8):=by
   have:=h.2;split at this
   .assumption
   .cases this
  have hk:P.intKind dst=.u8:=by simp[Program.intKind,hd]
  have h1:=yq.1 (hx w a hl);refine⟨.int .u8 (rv n).toNat,?_,rf.2 Z⟩;have hr:=run_convert_int (P:=P) w src dst .i64 n h.1 (by rw[hk];exact hd);rw[hk,Tu] at hr;unfold execOp;rw[ho];simp[h1,hr]
theorem Rx(l:List UInt8):strOfNums (l.map λ b=>(b.toNat:Int))=⟨⟨l⟩⟩:=by
 unfold strOfNums;rw[cJ];have:((λ n:Int=>UInt8.ofNat n.toNat) ∘ λ b:UInt8=>(b.toNat:Int))=id:=by
  funext b
  simp
 rw[this,List.map_id]
theorem T5{l:List UInt8}(ho:o.op=.convert src dst x)(h:Bh P src dst=true)(hx:eC M look x (dt l)):eP P M look o (dt (⟨l⟩:Str)):=
 zz λ a w _ hl=>by
  unfold Bh at h;rw[ac] at h;obtain⟨e,hs,he⟩:∃ e,P.underlying src=some (.slice e)/\P.underlying e=some (.int .u8):=by
   have:=h.1;split at this
   .rename_i e hs;refine⟨e,hs,?_⟩;split at this
    .assumption
    .cases this
   .cases this
  have hd:P.underlying dst=some .string:=by
   have:=h.2;split at this
   .assumption
   .cases this
  obtain⟨cs,⟨A,c,hcs,h1,h2,h3⟩,hv⟩:=hx w a hl;have hv':a.eval x=.slice A l.length c:=by rw[hv,hcs];rfl
  refine⟨.string ⟨⟨l⟩⟩,?_,xT.2 ⟨Z,aS h1 h2⟩⟩;have hrun:(convert src dst (.slice A l.length c)).run P w=.ok (.string ⟨⟨l⟩⟩) w:=by
   rcases h3 with h3 | ⟨b,o',cells,hA,_,hc,hr⟩
   .subst h3;cases A with
    | none=>exact run_convert_bytes_nil w src e hs he _ _ dst hd
    |some A=>rw[run_convert_bytes_string w src dst e _ _ c hs he hd,run_bytesToString w A _ c [] (by simp[loadCells,loadCellsFrom])];rfl
   .rw[hA];have:=run_convert_bytes_arg w src e hs he b o' l.length c (l.map λ b=>(b.toNat:Int)) (by simp) (λ i hi=>?_) dst hd
    .rw[Rx] at this;exact this
    .obtain⟨c',hcc,hr'⟩:=tH hr (aa hi);have e1:c'=[.int .u8 (l[i].toNat:Int)]:=hr'.1;have e2:=hcc 0 (.int .u8 (l[i].toNat:Int)) (by rw[e1];rfl);have e3:=hc _ _ e2;have e4:i*ey.size UInt8+0=i:=by show i*1+0=i;omega
     rw[e4] at e3;rw[e3];simp[List.getD,hi]
  unfold execOp;rw[ho];simp[hv',hrun]
end
theorem kA.sub(h:kA M G w w')(hs:∀ b,G' b->G b):kA M G' w w':=λ k hk hm=>h k hk (hm.imp id (hs k))
def fk(u:Value):Dt where
 rd _ _ v:=v=u
 own:=noB
 nb:=true
 nob _ _ h:=h
 stable h _:=h
 weak h _:=h
structure Ow(α:Type)[ey α] where
 ro:(Nat->Prop)->(Nat->Prop)->World->List Value->α->Prop
 toR:∀ {M G:Nat->Prop} {w:World} {cs:List Value} {x:α},ro M G w cs x->ey.rdc (λ b=>M b/\¬ G b) w cs x
 stable:∀ {M G:Nat->Prop} {w w':World} {cs:List Value} {x:α},ro M G w cs x->kA M G w w'->ro M G w' cs x
 weak:∀ {M M' G:Nat->Prop} {w:World} {cs:List Value} {x:α},ro M G w cs x->(∀ k,k<w.heap.size->M' k->M k)->ro M' G w cs x
 more:∀ {M G G':Nat->Prop} {w:World} {cs:List Value} {x:α},ro M G w cs x->(∀ b,G b->G' b)->ro M G' w cs x
variable{a1:Ow (File)}{a0 a2:Ow (List eT)}{a5:Ow (List Stmt)}{a3:Ow (List Str)}
structure iq(M G:Nat->Prop)(w:World)(M':Nat->Prop)(w':World):Prop where
 weak:∀ k,k<w.heap.size->M' k->M k
 same:kA M G w w'
theorem iq.sub{M G G' M':Nat->Prop}{w w':World}(h:iq M G w M' w')(hs:∀ b,G' b->G b):iq M G' w M' w':=⟨h.weak,h.same.sub hs⟩
theorem iq.refl(M G:Nat->Prop)(w:World):iq M G w M w:=⟨λ _ _ h=>h,λ _ _ _=>Z⟩
theorem ey.later{α:Type}[ey α]{cs:List Value}{x:α}(h:ey.rdc M w cs x)(l:iq M G w M' w'):ey.rdc M' w' cs x:=by
 have h1:ey.rdc (λ k=>M k\/w.heap.size<=k) w cs x:=ey.weak h λ k hk hm=>hm.elim id λ e=>by omega
 have h2:=ey.stable h1 (w':=w') λ k hk hm=>l.same k hk (.inl λ hM=>hm.elim (λ e=>e (.inl hM)) λ e=>e.elim)
 exact ey.weak h2 λ k _ hm=>if e:k<w.heap.size then .inl (l.weak k e hm) else .inr (by omega)
section
variable{α β:Type}[ey α][ey β]
theorem Ow.later(o:Ow α){cs:List Value}{x:α}(h:o.ro M G w cs x)(l:iq M G w M' w'):o.ro M' G w' cs x:=by
 have h1:o.ro (λ k=>M k\/w.heap.size<=k) G w cs x:=o.weak h λ k hk hm=>hm.elim id λ e=>by omega
 have h2:=o.stable h1 (w':=w') λ k hk hm=>l.same k hk (hm.imp (λ e hM=>e (.inl hM)) id)
 exact o.weak h2 λ k _ hm=>if e:k<w.heap.size then .inl (l.weak k e hm) else .inr (by omega)
theorem Ow.len(o:Ow α){M G:Nat->Prop}{w:World}{cs:List Value}{x:α}(h:o.ro M G w cs x):cs.length=ey.size α:=ey.len (o.toR h)
theorem Ow.one(o:Ow α){cs:List Value}{x:α}(h:o.ro M G w cs x):∀ c∈cs,c.oneCell'=true:=ey.oneCell (o.toR h)
def Ow.eE:Ow α where
 ro M _ w cs x:=ey.rdc M w cs x
 toR h:=ey.weak h λ _ _ hk=>hk.1
 stable h e:=ey.stable h e.mono
 weak h e:=ey.weak h e
 more h _:=h
def Ow.pr(a:Ow α)(b:Ow β):Ow (α×β) where
 ro M G w cs x:=∃ G1 G2 c1 c2,(∀ b,G1 b->G b)/\(∀ b,G2 b->G b)/\(∀ b,G1 b->¬ G2 b)/\cs=c1++c2/\a.ro M G1 w c1 x.1/\b.ro M G2 w c2 x.2
 toR:=λ⟨G1,G2,c1,c2,s1,s2,_,h,h1,h2⟩=>⟨c1,c2,h,ey.weak (a.toR h1) λ k _ hk=>⟨hk.1,λ h=>hk.2 (s1 k h)⟩,ey.weak (b.toR h2) λ k _ hk=>⟨hk.1,λ h=>hk.2 (s2 k h)⟩⟩
 stable:=λ⟨G1,G2,c1,c2,s1,s2,hd,h,h1,h2⟩ e=>⟨G1,G2,c1,c2,s1,s2,hd,h,a.stable h1 (e.sub s1),b.stable h2 (e.sub s2)⟩
 weak:=λ⟨G1,G2,c1,c2,s1,s2,hd,h,h1,h2⟩ e=>⟨G1,G2,c1,c2,s1,s2,hd,h,a.weak h1 e,b.weak h2 e⟩
 more:=λ⟨G1,G2,c1,c2,s1,s2,hd,h,h1,h2⟩ e=>⟨G1,G2,c1,c2,λ b hb=>e b (s1 b hb),λ b hb=>e b (s2 b hb),hd,h,h1,h2⟩
end
abbrev Ow.via{α β:Type}[ey β](f:α->β)(o:Ow β):@Ow α (ey.ku f):=
 @Ow.mk α (ey.ku f) (λ M G w cs x=>o.ro M G w cs (f x)) (λ h=>o.toR h) (λ h e=>o.stable h e) (λ h e=>o.weak h e) (λ h e=>o.more h e)
section
variable{α:Type}[ey α]
def iK(o:Ow α)(M G:Nat->Prop)(w:World):List Value->List α->Prop
 | cells,[]=>cells=[]
 | cells,x::xs=>∃ (G1 G2:Nat->Prop) (c r:List Value),(∀ b,G1 b->G b)/\(∀ b,G2 b->G b)/\(∀ b,G1 b->¬ G2 b)/\cells=c++r/\o.ro M G1 w c x/\iK o M G2 w r xs
variable{o:Ow α}
theorem Si:∀ {xs:List α} {G G':Nat->Prop} {cells:List Value},iK o M G w cells xs->(∀ b,G b->G' b)->iK o M G' w cells xs
 | [],_,_,_,h,_=>h
 | _::_,_,_,_,⟨G1,G2,c,r,s1,s2,hd,h,h1,h2⟩,e=>⟨_,_,c,r,λ b hb=>e b (s1 b hb),λ b hb=>e b (s2 b hb),hd,h,h1,h2⟩
theorem tw{M:Nat->Prop}{w:World}:∀ {xs:List α} {G:Nat->Prop} {cells:List Value},iK o M G w cells xs->gQ (λ b=>M b/\¬ G b) w cells xs
 | [],_,_,h=>h
 | _::_,_,_,⟨G1,G2,c,r,s1,s2,_,h,h1,h2⟩=>⟨c,r,h,ey.weak (o.toR h1) λ k _ hk=>⟨hk.1,λ h=>hk.2 (s1 k h)⟩,wN (λ k _ hk=>⟨hk.1,λ h=>hk.2 (s2 k h)⟩) (tw h2)⟩
theorem Kp{M:Nat->Prop}{w w':World}:∀ {xs:List α} {G:Nat->Prop} {cells:List Value},iK o M G w cells xs->kA M G w w'->iK o M G w' cells xs
 | [],_,_,h,_=>h
 | _::_,_,_,⟨G1,G2,c,r,s1,s2,hd,h,h1,h2⟩,e=>⟨G1,G2,c,r,s1,s2,hd,h,o.stable h1 (e.sub s1),Kp h2 (e.sub s2)⟩
theorem GO{M M':Nat->Prop}{w:World}(e:∀ k,k<w.heap.size->M' k->M k):∀ {xs:List α} {G:Nat->Prop} {cells:List Value},iK o M G w cells xs->iK o M' G w cells xs
 | [],_,_,h=>h
 | _::_,_,_,⟨G1,G2,c,r,s1,s2,hd,h,h1,h2⟩=>⟨G1,G2,c,r,s1,s2,hd,h,o.weak h1 e,GO e h2⟩
theorem QB{M M':Nat->Prop}{w w':World}:∀ {xs:List α} {G:Nat->Prop} {cells:List Value},iK o M G w cells xs->iq M G w M' w'->iK o M' G w' cells xs
 | [],_,_,h,_=>h
 | _::_,_,_,⟨G1,G2,c,r,s1,s2,hd,h,h1,h2⟩,e=>⟨G1,G2,c,r,s1,s2,hd,h,o.later h1 (e.sub s1),QB h2 (e.sub s2)⟩
theorem QC{M G:Nat->Prop}{w:World}:∀ {xs:List α} {cells:List Value},gQ M w cells xs->iK Ow.eE M G w cells xs
 | [],_,h=>h
 | _::_,_,⟨c,r,h,h1,h2⟩=>⟨noB,noB,c,r,λ _ h=>h.elim,λ _ h=>h.elim,λ _ h=>h.elim,h,h1,QC h2⟩
theorem JM{M:Nat->Prop}{w:World}:∀ {xs:List α} {G:Nat->Prop} {cells:List Value},iK Ow.eE M G w cells xs->gQ M w cells xs
 | [],_,_,h=>h
 | _::_,_,_,⟨_,_,c,r,_,_,_,h,h1,h2⟩=>⟨c,r,h,h1,JM h2⟩
theorem Aa{xs:List α}{cells:List Value}(h:iK o M G w cells xs):cells.length=xs.length*ey.size α:=JH (tw h)
theorem CL{M:Nat->Prop}{w:World}:∀ {xs ys:List α} {G1 G2 G:Nat->Prop} {c1 c2:List Value},iK o M G1 w c1 xs->iK o M G2 w c2 ys->(∀ b,G1 b->G b)->(∀ b,G2 b->G b)->(∀ b,G1 b->¬ G2 b)->iK o M G w (c1++c2) (xs++ys)
 | [],_,_,_,_,_,_,h,k,_,s2,_=>by rw[h];exact Si k s2
 |x::xs,ys,G1,G2,G,c1,c2,⟨H1,H2,c,r,t1,t2,hd',h,h1,h2⟩,k,s1,s2,hd=>by
  refine⟨H1,λ b=>H2 b\/G2 b,c,r++c2,λ b hb=>s1 b (t1 b hb),λ b hb=>hb.elim (λ h=>s1 b (t2 b h)) (s2 b),λ b hb hb'=>hb'.elim (hd' b hb) (hd b (t1 b hb)),by rw[h,aE],h1,?_⟩;exact CL h2 k (λ _ h=>.inl h) (λ _ h=>.inr h) λ b hb=>hd b (t2 b hb)
theorem Sj{c:List Value}{x:α}(h:o.ro M G w c x):iK o M G w c [x]:=⟨G,noB,c,[],λ _ h=>h,λ _ h=>h.elim,λ _ _ h=>h,by simp,h,Z⟩
theorem GN{M:Nat->Prop}{w:World}:∀ {xs:List α} {G:Nat->Prop} {cells:List Value} {i:Nat} {x:α},iK o M G w cells xs->xs[i]?=some x->
  ∃
   (G1 G2:Nat->Prop),(∀ b,G1 b->G b)/\(∀ b,G2 b->G b)/\(∀ b,G1 b->¬ G2 b)/\o.ro M G1 w ((cells.drop (i*ey.size α)).take (ey.size α)) x/\
   (∀ {M' G3 G':Nat->Prop} {w':World} {c':List Value} {y:α},iq M G2 w M' w'->o.ro M' G3 w' c' y->(∀ b,G3 b->¬ G2 b)->(∀ b,G3 b->G' b)->(∀ b,G2 b->G' b)->iK o M' G' w' (cells.take (i*ey.size α)++c'++cells.drop ((i+1)*ey.size α)) (xs.set i y))
 | [],_,_,i,x,_,hi=>by simp at hi
 |y::xs,G,cells,0,x,⟨G1,G2,c,r,s1,s2,hd,h,h1,h2⟩,hi=>by
  simp at hi;subst hi;have hl:c.length=ey.size α:=o.len h1;have e1:(cells.drop (0*ey.size α)).take (ey.size α)=c:=by rw[dN,bR,h,<-hl,da]
  have e2:cells.drop ((0+1)*ey.size α)=r:=by rw[aD,Nat.one_mul,h,<-hl,bZ]
  rw[e1];refine⟨G1,G2,s1,s2,hd,h1,λ{M' G3 G' w' c' y'} hL hy h3 h4 h5=>?_⟩;rw[e2,dN,ca,bb];exact⟨G3,G2,c',r,h4,h5,h3,Z,hy,QB h2 hL⟩
 |y::xs,G,cells,i+1,x,⟨G1,G2,c,r,s1,s2,hd,h,h1,h2⟩,hi=>by
  have hl:c.length=ey.size α:=o.len h1;obtain⟨H1,H2,t1,t2,hd2,k1,k3⟩:=GN (i:=i) h2 (by simpa using hi);have e1:cells.drop ((i+1)*ey.size α)=r.drop (i*ey.size α):=by
   rw[h,bY,cK,<-hl,<-bO,bZ]
  have e2:cells.drop ((i+1+1)*ey.size α)=r.drop ((i+1)*ey.size α):=by
   rw[h,bY,cK,<-hl,<-bO,bZ]
  have e3:cells.take ((i+1)*ey.size α)=c++r.take (i*ey.size α):=by
   rw[h,bY,cK,<-hl,cl,aM (by omega)]
   congr 2
   omega
  rw[e1];refine⟨H1,λ b=>G1 b\/H2 b,λ b hb=>s2 b (t1 b hb),λ b hb=>hb.elim (s1 b) λ h=>s2 b (t2 b h),λ b hb hb'=>hb'.elim (λ h=>hd b h (t1 b hb)) (hd2 b hb),k1,λ{M' G3 G' w' c' y'} hL hy h3 h4 h5=>?_⟩;rw[e2,e3];refine⟨G1,λ b=>G3 b\/H2 b,c,_,λ b hb=>h5 b (.inl hb),λ b hb=>hb.elim (h4 b) λ h=>h5 b (.inr h),λ b hb hb'=>hb'.elim (λ h=>h3 b h (.inl hb)) λ h=>hd b hb (t2 b h),by rw[aE,aE,<-aE (r.take _)],o.later h1 (hL.sub λ _ h=>.inl h),?_⟩;exact k3 (hL.sub λ _ h=>.inr h) hy (λ b hb hb'=>h3 b hb (.inr hb')) (λ _ h=>.inl h) λ _ h=>.inr h
def Ow.row(e:TypeId)(o:Ow α):Ow (List α) where
 ro M G w cs xs:=∃ v,cs=[v]/\((∃ (g cap:Nat) (cur:Array Value) (Gr:Nat->Prop),v=.slice (some ⟨g,0,none⟩) xs.length cap/\w.heap[g]?=some (.cells cur e (0,0))/\xs.length<=cap/\cap<=maxLen/\cur.size=cap*ey.size α/\G g/\¬ Gr g/\(∀ b,Gr b->G b)/\iK o M Gr w (cur.toList.take (xs.length*ey.size α)) xs)\/(xs=[]/\∃ A,v=.slice A 0 0))
 toR:=λ{M G w cs xs} ⟨v,hv,h⟩=>by
  subst hv;rcases h with⟨g,cap,cur,Gr,rfl,hh,h4,h5,h6,hG,hn,hs,hr⟩ | ⟨rfl,A,rfl⟩
  .refine⟨some ⟨g,0,none⟩,cap,Z,h4,h5,.inr ⟨g,0,_,Z,λ hf=>hf.2 hG,λ j u hj=>?_,wN (λ k _ hk=>⟨hk.1,λ h=>hk.2 (hs k h)⟩) (tw hr)⟩⟩;rw[aD];rw[aw] at hj;split at hj
   .have:cur[j]?=some u:=by simpa using hj
    simp[World.cell?,hh,this]
   .cases hj
  .exact⟨A,0,Z,al _,aq _,.inl Z⟩
 stable:=λ{M G w w' cs xs} ⟨v,hv,h⟩ k=>⟨v,hv,h.imp (λ⟨g,cap,cur,Gr,hg,hh,h4,h5,h6,hG,hn,hs,hr⟩=>⟨g,cap,cur,Gr,hg,(k g (xM hh) (.inr hG)).trans hh,h4,h5,h6,hG,hn,hs,Kp hr (k.sub hs)⟩) id⟩
 weak:=λ⟨v,hv,h⟩ k=>⟨v,hv,h.imp (λ⟨g,cap,cur,Gr,hg,hh,h4,h5,h6,hG,hn,hs,hr⟩=>⟨g,cap,cur,Gr,hg,hh,h4,h5,h6,hG,hn,hs,GO k hr⟩) id⟩
 more:=λ⟨v,hv,h⟩ k=>⟨v,hv,h.imp (λ⟨g,cap,cur,Gr,hg,hh,h4,h5,h6,hG,hn,hs,hr⟩=>⟨g,cap,cur,Gr,hg,hh,h4,h5,h6,k g hG,hn,λ b hb=>k b (hs b hb),hr⟩) id⟩
end
structure Bx(α:Type) where
 x:α
section
variable{α:Type}[ey α]
instance:ey (Bx α) where
 size:=1
 agg:=false
 rdc M w cs y:=∃ v,cs=[v]/\(eX y.x).rd M w v
 len:=λ⟨_,h,_⟩=>by rw[h];rfl
 one _:=rfl
 pos:=Nat.one_pos
 oneCell:=λ⟨v,h,b,o,_,hv,_⟩ c hc=>by
  rw[h] at hc;simp at hc;subst hc;rw[hv];rfl
 stable:=λ⟨v,h,hr⟩ e=>⟨v,h,(eX _).stable hr e⟩
 weak:=λ⟨v,h,hr⟩ e=>⟨v,h,(eX _).weak hr e⟩
theorem uC{x:α}:(dt (⟨x⟩:Bx α)).rd M w v ↔ (eX x).rd M w v:=
 ⟨λ⟨_,⟨u,h,hr⟩,hv⟩=>by rw[hv,h];exact hr,λ h=>⟨[v],⟨v,Z,h⟩,Z⟩⟩
def Ow.box(o:Ow α):Ow (Bx α) where
 ro M G w cs y:=∃ (b:Nat) (C:Array Value) (e:TypeId) (Gr:Nat->Prop),cs=[.pointer (some ⟨b,0,none⟩)]/\w.heap[b]?=some (.cells C e (0,0))/\G b/\¬ Gr b/\(∀ k,Gr k->G k)/\o.ro M Gr w C.toList y.x
 toR:=λ{M G w cs y} ⟨b,C,e,Gr,hc,hh,hG,hn,hs,hr⟩=>⟨_,hc,b,0,C.toList,Z,λ h=>h.2 hG,λ j u hj=>by
  rw[aD];have:C[j]?=some u:=by simpa using hj
  simp[World.cell?,hh,this],ey.weak (o.toR hr) λ k _ hk=>⟨hk.1,λ h=>hk.2 (hs k h)⟩⟩
 stable:=λ⟨b,C,e,Gr,hc,hh,hG,hn,hs,hr⟩ k=>⟨b,C,e,Gr,hc,(k b (xM hh) (.inr hG)).trans hh,hG,hn,hs,o.stable hr (k.sub hs)⟩
 weak:=λ⟨b,C,e,Gr,hc,hh,hG,hn,hs,hr⟩ k=>⟨b,C,e,Gr,hc,hh,hG,hn,hs,o.weak hr k⟩
 more:=λ⟨b,C,e,Gr,hc,hh,hG,hn,hs,hr⟩ k=>⟨b,C,e,Gr,hc,hh,k b hG,hn,λ i hi=>k i (hs i hi),hr⟩
end
structure eF{α β:Type}[ey α][ey β](o:Ow α)(oy:Ow β)(get:α->β)(set:β->α->α)(off:Nat):Prop where
 foc:∀ {M G:Nat->Prop} {w:World} {cs:List Value} {x:α},o.ro M G w cs x->∃ (G1 G2:Nat->Prop),(∀ b,G1 b->G b)/\(∀ b,G2 b->G b)/\(∀ b,G1 b->¬ G2 b)/\oy.ro M G1 w ((cs.drop off).take (ey.size β)) (get x)/\
  (∀ {M' G3 G':Nat->Prop} {w':World} {c':List Value} {y:β},iq M G2 w M' w'->oy.ro M' G3 w' c' y->(∀ b,G3 b->¬ G2 b)->(∀ b,G3 b->G' b)->(∀ b,G2 b->G' b)->o.ro M' G' w' (cs.take off++c'++cs.drop (off+ey.size β)) (set y x))
section
variable{α β γ:Type}[ey α][ey β][ey γ]
theorem eF.id{o:Ow α}:eF o o (λ x:α=>x) (λ y _=>y) 0:=⟨λ{M G w cs x} h=>by
 have hl:=o.len h;have e1:(cs.drop 0).take (ey.size α)=cs:=by rw[bR,<-hl,aQ]
 rw[e1];refine⟨G,noB,λ _ h=>h,λ _ h=>h.elim,λ _ _ h=>h,h,λ{M' G3 G' w' c' y} _ hy _ h4 _=>?_⟩;rw[ca,bb,bE (by omega),aO];exact o.more hy h4⟩
theorem eF.fst{a:Ow α}{b:Ow β}:eF (a.pr b) a (λ x:α×β=>x.1) (λ y x=>(y,x.2)) 0:=⟨λ{M G w cs x} ⟨G1,G2,c1,c2,s1,s2,hd,h,h1,h2⟩=>by
 have hl:=a.len h1;have e1:(cs.drop 0).take (ey.size α)=c1:=by rw[bR,h,<-hl,da]
 rw[e1];refine⟨G1,G2,s1,s2,hd,h1,λ{M' G3 G' w' c' y} hL hy h3 h4 h5=>?_⟩;refine⟨G3,G2,c',c2,h4,h5,h3,?_,hy,b.later h2 hL⟩;rw[ca,bb,aD,h,<-hl,bZ]⟩
theorem eF.snd{a:Ow α}{b:Ow β}{oy:Ow γ}{get:β->γ}{set:γ->β->β}(f:eF b oy get set off):eF (a.pr b) oy (λ x:α×β=>get x.2) (λ y x=>(x.1,set y x.2)) (ey.size α+off):=⟨λ{M G w cs x} ⟨G1,G2,c1,c2,s1,s2,hd,h,h1,h2⟩=>by
 have hl:=a.len h1;obtain⟨H1,H2,t1,t2,hd2,k1,k3⟩:=f.foc h2;have e1:cs.drop (ey.size α+off)=c2.drop off:=by rw[h,<-hl,<-bO,bZ]
 have e2:cs.drop (ey.size α+off+ey.size γ)=c2.drop (off+ey.size γ):=by rw[h,<-hl,bJ,<-bO,bZ]
 have e3:cs.take (ey.size α+off)=c1++c2.take off:=by
  rw[h,<-hl,cl,aM (by omega)]
  congr 2
  omega
 rw[e1];refine⟨H1,λ b=>G1 b\/H2 b,λ b hb=>s2 b (t1 b hb),λ b hb=>hb.elim (s1 b) λ h=>s2 b (t2 b h),λ b hb hb'=>hb'.elim (λ h=>hd b h (t1 b hb)) (hd2 b hb),k1,λ{M' G3 G' w' c' y} hL hy h3 h4 h5=>?_⟩;rw[e2,e3];refine⟨G1,λ b=>G3 b\/H2 b,c1,_,λ b hb=>h5 b (.inl hb),λ b hb=>hb.elim (h4 b) λ h=>h5 b (.inr h),λ b hb hb'=>hb'.elim (λ h=>h3 b h (.inl hb)) λ h=>hd b hb (t2 b h),by rw[aE,aE,<-aE (c2.take _)],a.later h1 (hL.sub λ _ h=>.inl h),?_⟩;exact k3 (hL.sub λ _ h=>.inr h) hy (λ b hb hb'=>h3 b hb (.inr hb')) (λ _ h=>.inl h) λ _ h=>.inr h⟩
end
def HP{β:Type}[ey β](oy:Ow β)(M G:Nat->Prop)(w:World)(b off:Nat)(y:β)(R:(Nat->Prop)->(Nat->Prop)->World->β->Prop):Prop:=
 ∃
  (G1 G2:Nat->Prop) (C:Array Value) (e:TypeId),(∀ k,G1 k->G k)/\(∀ k,G2 k->G k)/\G b/\¬ G1 b/\¬ G2 b/\(∀ k,G1 k->¬ G2 k)/\w.heap[b]?=some (.cells C e (0,0))/\off+ey.size β<=C.size/\oy.ro M G1 w ((C.toList.drop off).take (ey.size β)) y/\
  ∀
   {M' G1' G'':Nat->Prop} {w':World} {c':List Value} {y':β},iq M G2 w M' w'->w'.heap[b]?=some (.cells (C.toList.take off++c'++C.toList.drop (off+ey.size β)).toArray e (0,0))->oy.ro M' G1' w' c' y'->¬ G1' b->(∀ k,G1' k->¬ G2 k)->
   G'' b->(∀ k,G1' k->G'' k)->(∀ k,G2 k->G'' k)->R M' G'' w' y'
def VP{β:Type}[ey β](oy:Ow β)(M G:Nat->Prop)(w:World)(c:List Value)(y:β)(R:(Nat->Prop)->(Nat->Prop)->World->β->Prop):Prop:=
 ∃
  (G1 G2:Nat->Prop),(∀ k,G1 k->G k)/\(∀ k,G2 k->G k)/\(∀ k,G1 k->¬ G2 k)/\oy.ro M G1 w c y/\
  ∀ {M' G1' G'':Nat->Prop} {w':World} {y':β},iq M G2 w M' w'->oy.ro M' G1' w' c y'->(∀ k,G1' k->¬ G2 k)->(∀ k,G1' k->G'' k)->(∀ k,G2 k->G'' k)->R M' G'' w' y'
section
variable{α β:Type}[ey α][ey β]
variable{oy:Ow β}
theorem VP.root{o:Ow α}{cs:List Value}{x:α}(h:o.ro M G w cs x):VP o M G w cs x (λ M' G' w' y'=>o.ro M' G' w' cs y'):=
 ⟨G,noB,λ _ h=>h,λ _ h=>h.elim,λ _ _ h=>h,h,λ{M' G1' G'' w' y'} _ hy _ h1 _=>o.more hy h1⟩
theorem R1{cs:List Value}{n:Nat}:cs.take off++(cs.drop off).take n++cs.drop (off+n)=cs:=by
 rw[aE];have:(cs.drop off).take n++cs.drop (off+n)=cs.drop off:=by rw[<-bO,aV]
 rw[this,aV]
theorem HP.eD{o:Ow α}{get:α->β}{set:β->α->α}(f:eF o oy get set fo){x:α}{R:(Nat->Prop)->(Nat->Prop)->World->α->Prop}(h:HP o M G w b off x R):
  HP oy M G w b (off+fo) (get x) (λ M' G' w' y'=>R M' G' w' (set y' x)):=by
 obtain⟨G1,G2,C,e,s1,s2,hb,n1,n2,hd,hh,hsz,hr,put⟩:=h;obtain⟨H1,H2,t1,t2,hd2,k1,k3⟩:=f.foc hr;have hlo:=o.len hr;have hly:=oy.len k1;have hpos:=ey.pos (α:=β);have hin:fo+ey.size β<=ey.size α:=by
  rw[aJ,dF,hlo] at hly;omega
 have e0:(C.toList.drop (off+fo)).take (ey.size β)=((((C.toList.drop off).take (ey.size α)).drop fo).take (ey.size β)):=by
  rw[cY,ct,bz (by omega),bO]
 refine⟨H1,λ k=>H2 k\/G2 k,C,e,λ k hk=>s1 k (t1 k hk),λ k hk=>hk.elim (λ h=>s1 k (t2 k h)) (s2 k),hb,λ h=>n1 (t1 b h),λ h=>h.elim (λ h=>n1 (t2 b h)) n2,λ k hk h=>h.elim (hd2 k hk) (hd k (t1 k hk)),hh,by omega,by rw[e0];exact k1,λ{M' G1' G'' w' c' y'} hL hh' hy nb h1 g0 h2 h3=>?_⟩;have e1:=k3 (G':=λ k=>G1' k\/H2 k) (hL.sub λ _ h=>.inl h) hy (λ k hk hk2=>h1 k hk (.inl hk2)) (λ _ h=>.inl h) λ _ h=>.inr h
 refine put (hL.sub λ _ h=>.inr h) ?_ e1 (λ h=>h.elim nb λ h=>n1 (t2 b h)) (λ k hk hk2=>hk.elim (λ h=>h1 k h (.inr hk2)) λ h=>hd k (t2 k h) hk2) g0 (λ k hk=>hk.elim (h2 k) λ h=>h3 k (.inl h)) λ k hk=>h3 k (.inr hk)
 rw[hh']
 congr 3
 have:=part_put' (cells:=C.toList) (c:=c') (A:=off) hin;exact this.symm
where
 part_put' {cells c:List Value} {A S off T:Nat} (h1:off+T<=S):cells.take A++(((cells.drop A).take S).take off++c++((cells.drop A).take S).drop (off+T))++cells.drop (A+S)=cells.take _++c++cells.drop _:=by
  have e1:cells.take (A+off)=cells.take A++(cells.drop A).take off:=by rw[List.take_add]
  have e2:((cells.drop A).take S).take off=(cells.drop A).take off:=by rw[ct,bz (by omega)]
  have e3:cells.drop (A+off+T)=((cells.drop A).take S).drop (off+T)++cells.drop (A+S):=by
   have e4:cells.drop (A+off+T)=(cells.drop A).drop (off+T):=by rw[bO,bJ]
   have e5:cells.drop (A+S)=(cells.drop A).drop S:=by rw[bO]
   rw[e4,e5];generalize cells.drop A=l;rw[cY];have e6:l.drop S=(l.drop (off+T)).drop (S - (off+T)):=by rw[bO];congr 1;omega
   rw[e6,aV]
  rw[e1,e2,e3];simp
theorem Ow.K9{c:List Value}{y:Bx β}(h:oy.box.ro M G w c y):∃ b,c=[.pointer (some ⟨b,0,none⟩)]/\
  HP oy M G w b 0 y.x (λ M' G' w' y'=>oy.box.ro M' G' w' c ⟨y'⟩):=by
 obtain⟨b,C,e,Gr,hc,hh,hG,hn,hs,hr⟩:=h;have hl:=oy.len hr;have e0:(C.toList.drop 0).take (ey.size β)=C.toList:=by rw[bR,<-hl,aQ]
 refine⟨b,hc,Gr,noB,C,e,hs,λ _ h=>h.elim,hG,hn,λ h=>h,λ _ _ h=>h,hh,by rw[<-hl];simp,by rw[e0];exact hr,λ{M' G1' G'' w' c' y'} _ hh' hy nb _ g0 h2 _=>?_⟩;have e1:C.toList.take 0++c'++C.toList.drop (0+ey.size β)=c':=by rw[ca,bb,bE (by omega),aO]
 rw[e1] at hh';exact⟨b,_,e,G1',hc,hh',g0,nb,h2,by simpa using hy⟩
theorem Ow.LO{o:Ow α}{c:List Value}{xs:List α}{x:α}(h:(Ow.row e o).ro M G w c xs)(hk:xs[k]?=some x):∃ g cap,c=[.slice (some ⟨g,0,none⟩) xs.length cap]/\
  HP o M G w g (k*ey.size α) x (λ M' G' w' y'=>(Ow.row e o).ro M' G' w' c (xs.set k y')):=by
 obtain⟨v,hv,h⟩:=h;rcases h with⟨g,cap,cur,Gr,hg,hh,h4,h5,h6,hG,hn,hs,hr⟩ | ⟨hx,_⟩
 .obtain⟨G1,G2,s1,s2,hd,k1,k3⟩:=GN hr hk;have hlt:=zJ hk;have hb1:(k+1)*ey.size α<=xs.length*ey.size α:=aK _ hlt;have hb2:xs.length*ey.size α<=cap*ey.size α:=aK _ h4;have hb3:(k+1)*ey.size α=k*ey.size α+ey.size α:=bY ..;have e0:(cur.toList.drop (k*ey.size α)).take (ey.size α)=(((cur.toList.take (xs.length*ey.size α)).drop (k*ey.size α)).take (ey.size α)):=by
   rw[cY,ct,bz (by omega)]
  refine⟨g,cap,by rw[hv,hg],G1,G2,cur,e,λ i hi=>hs i (s1 i hi),λ i hi=>hs i (s2 i hi),hG,λ h=>hn (s1 g h),λ h=>hn (s2 g h),hd,hh,by omega,by rw[e0];exact k1,λ{M' G1' G'' w' c' y'} hL hh' hy nb h1 g0 h2 h3=>?_⟩;have e1:=k3 (G':=λ i=>G1' i\/G2 i) hL hy h1 (λ _ h=>.inl h) λ _ h=>.inr h
  have hcl:=o.len hy;refine⟨v,hv,.inl ⟨g,cap,_,λ i=>G1' i\/G2 i,by rw[bf];exact hg,hh',by rw[bf];exact h4,h5,?_,g0,λ h=>h.elim nb λ h=>hn (s2 g h),λ i hi=>hi.elim (h2 i) (h3 i),?_⟩⟩
  .simp;omega
  .rw[bf];have e2:=Hj (l:=cur.toList) (off:=k*ey.size α) (n:=xs.length*ey.size α) (by have e1:cur.toList.length=cur.size:=aY;omega) (by rw[hcl];omega);rw[hcl,<-hb3] at e2;rw[cg,<-hb3,e2];exact e1
 .rw[hx] at hk;simp at hk
theorem VP.box{oy:Ow β}{c:List Value}{y:Bx β}{R:(Nat->Prop)->(Nat->Prop)->World->Bx β->Prop}(h:VP oy.box M G w c y R):∃ b,c=[.pointer (some ⟨b,0,none⟩)]/\HP oy M G w b 0 y.x (λ M' G' w' y'=>R M' G' w' ⟨y'⟩):=by
 obtain⟨G1,G2,s1,s2,hd,hr,put⟩:=h;obtain⟨b,hc,H1,H2,C,e,t1,t2,hb,n1,n2,hd2,hh,hsz,hr2,put2⟩:=Ow.K9 hr;refine⟨b,hc,H1,λ k=>H2 k\/G2 k,C,e,λ k hk=>s1 k (t1 k hk),λ k hk=>hk.elim (λ h=>s1 k (t2 k h)) (s2 k),s1 b hb,n1,λ h=>h.elim n2 (hd b hb),λ k hk h=>h.elim (hd2 k hk) (hd k (t1 k hk)),hh,hsz,hr2,λ{M' G1' G'' w' c' y'} hL hh' hy nb h1 g0 h2 h3=>?_⟩;have e1:=put2 (G'':=λ k=>k=b\/G1' k\/H2 k) (hL.sub λ _ h=>.inl h) hh' hy nb (λ k hk hk2=>h1 k hk (.inl hk2)) (.inl Z) (λ _ h=>.inr (.inl h)) λ _ h=>.inr (.inr h)
 exact put (hL.sub λ _ h=>.inr h) e1 (λ k hk hk2=>by
  rcases hk with rfl | hk | hk
  .exact hd _ hb hk2
  .exact h1 k hk (.inr hk2)
  .exact hd k (t2 k hk) hk2) (λ k hk=>by
  rcases hk with rfl | hk | hk
  .exact g0
  .exact h2 k hk
  .exact h3 k (.inl hk)) λ k hk=>h3 k (.inr hk)
theorem VP.row{e:TypeId}{o:Ow α}{c:List Value}{xs:List α}{k:Nat}{x:α}{R:(Nat->Prop)->(Nat->Prop)->World->List α->Prop}(h:VP (Ow.row e o) M G w c xs R)(hk:xs[k]?=some x):∃ g cap,c=[.slice (some ⟨g,0,none⟩) xs.length cap]/\HP o M G w g (k*ey.size α) x (λ M' G' w' y'=>R M' G' w' (xs.set k y')):=by
 obtain⟨G1,G2,s1,s2,hd,hr,put⟩:=h;obtain⟨b,cap,hc,H1,H2,C,e,t1,t2,hb,n1,n2,hd2,hh,hsz,hr2,put2⟩:=Ow.LO hr hk;refine⟨b,cap,hc,H1,λ k=>H2 k\/G2 k,C,e,λ k hk=>s1 k (t1 k hk),λ k hk=>hk.elim (λ h=>s1 k (t2 k h)) (s2 k),s1 b hb,n1,λ h=>h.elim n2 (hd b hb),λ k hk h=>h.elim (hd2 k hk) (hd k (t1 k hk)),hh,hsz,hr2,λ{M' G1' G'' w' c' y'} hL hh' hy nb h1 g0 h2 h3=>?_⟩;have e1:=put2 (G'':=λ k=>k=b\/G1' k\/H2 k) (hL.sub λ _ h=>.inl h) hh' hy nb (λ k hk hk2=>h1 k hk (.inl hk2)) (.inl Z) (λ _ h=>.inr (.inl h)) λ _ h=>.inr (.inr h)
 exact put (hL.sub λ _ h=>.inr h) e1 (λ k hk hk2=>by
  rcases hk with rfl | hk | hk
  .exact hd _ hb hk2
  .exact h1 k hk (.inr hk2)
  .exact hd k (t2 k hk) hk2) (λ k hk=>by
  rcases hk with rfl | hk | hk
  .exact g0
  .exact h2 k hk
  .exact h3 k (.inl hk)) λ k hk=>h3 k (.inr hk)
theorem HP.here{y:β}{R:(Nat->Prop)->(Nat->Prop)->World->β->Prop}(h:HP oy M G w b off y R):∃ (C:Array Value) (e:TypeId),w.heap[b]?=some (.cells C e (0,0))/\off+ey.size β<=C.size/\G b/\
  ∃ G1 G2,(∀ k,G1 k->G k)/\(∀ k,G2 k->G k)/\(∀ k,G1 k->¬ G2 k)/\¬ G1 b/\G2 b/\oy.ro M G1 w ((C.toList.drop off).take (ey.size β)) y/\
  ∀ {M' G1' G'':Nat->Prop} {w':World} {y':β},iq M G2 w M' w'->oy.ro M' G1' w' ((C.toList.drop off).take (ey.size β)) y'->(∀ k,G1' k->¬ G2 k)->(∀ k,G1' k->G'' k)->(∀ k,G2 k->G'' k)->R M' G'' w' y':=by
 obtain⟨G1,G2,C,e,s1,s2,hb,n1,n2,hd,hh,hsz,hr,put⟩:=h;refine⟨C,e,hh,hsz,hb,G1,λ k=>k=b\/G2 k,s1,λ k hk=>hk.elim (λ h=>h ▸ hb) (s2 k),λ k hk h=>h.elim (λ h=>n1 (h ▸ hk)) (hd k hk),n1,.inl Z,hr,λ{M' G1' G'' w' y'} hL hy h1 h2 h3=>?_⟩;refine put (hL.sub λ _ h=>.inr h) ?_ hy (λ h=>h1 b h (.inl Z)) (λ k hk hk2=>h1 k hk (.inr hk2)) (h3 b (.inl Z)) h2 λ k hk=>h3 k (.inr hk)
 rw[R1];have:=hL.same b (xM hh) (.inr (.inl Z));rw[this,hh]
theorem HP.vp{y:β}{R:(Nat->Prop)->(Nat->Prop)->World->β->Prop}(h:HP oy M G w b off y R):∃ (C:Array Value) (e:TypeId),w.heap[b]?=some (.cells C e (0,0))/\off+ey.size β<=C.size/\VP oy M G w ((C.toList.drop off).take (ey.size β)) y R:=by
 obtain⟨C,e,hh,hsz,_,G1,G2,s1,s2,hd,_,_,hr,put⟩:=h.here;exact⟨C,e,hh,hsz,G1,G2,s1,s2,hd,hr,put⟩
theorem XO(h:(C.toList.drop off).take 1=[u]):C[off]?=some u:=by
 have:((C.toList.drop off).take 1)[0]?=some u:=by rw[h];rfl
 rw[aw,Ke (by omega),bL] at this;simpa using this
theorem HP.box{oy:Ow β}{y:Bx β}{R:(Nat->Prop)->(Nat->Prop)->World->Bx β->Prop}(h:HP oy.box M G w b off y R):∃ b',w.cell? ⟨b,off,none⟩=some (.pointer (some ⟨b',0,none⟩))/\HP oy M G w b' 0 y.x (λ M' G' w' y'=>R M' G' w' ⟨y'⟩):=by
 obtain⟨C,e,hh,hsz,hv⟩:=h.vp;obtain⟨b',hc,hp⟩:=hv.box;exact⟨b',by simp[World.cell?,hh,XO hc],hp⟩
theorem HP.row{e:TypeId}{o:Ow α}{xs:List α}{k:Nat}{x:α}{R:(Nat->Prop)->(Nat->Prop)->World->List α->Prop}(h:HP (Ow.row e o) M G w b off xs R)(hk:xs[k]?=some x):∃ g cap,w.cell? ⟨b,off,none⟩=some (.slice (some ⟨g,0,none⟩) xs.length cap)/\HP o M G w g (k*ey.size α) x (λ M' G' w' y'=>R M' G' w' (xs.set k y')):=by
 obtain⟨C,e,hh,hsz,hv⟩:=h.vp;obtain⟨g,cap,hc,hp⟩:=hv.row hk;exact⟨g,cap,by simp[World.cell?,hh,XO hc],hp⟩
end
abbrev CF:=List (Bool×Nat×Nat×Value)
variable{cf:CF}
def QD(w:World)(b off:Nat):Value->Prop
 | .agg cs=>iu w b off cs.toList
 | u=>w.cell? ⟨b,off,none⟩=some u
def CF.at(cf:CF)(G:Nat->Prop)(w:World):Prop:=∀ q∈cf,q.1=true->G q.2.1/\q.2.1<w.heap.size/\QD w q.2.1 q.2.2.1 q.2.2.2
theorem Fl(h:b<w.heap.size)(e:w'.heap[b]?=w.heap[b]?):b<w'.heap.size:=by
 rw[an h] at e;exact(aB.1 e).1
theorem Jc(hu:u.oneCell'=true)(h:QD w b off u):w.cell? ⟨b,off,none⟩=some u:=by
 cases u <;> first
  | exact h
  | (simp[Value.oneCell'] at hu)
theorem Kq(h:QD w b off u)(e:w'.heap[b]?=w.heap[b]?):QD w' b off u:=by
 have key:∀ i,w'.cell? ⟨b,i,none⟩=w.cell? ⟨b,i,none⟩:=λ i=>by unfold World.cell?;simp only;rw[e]
 cases u <;> simp[QD] at h ⊢ <;> first
  | (intro j v hj;rw[key];exact h j v hj)
  | (rw[key];exact h)
section
variable{α β γ:Type}[ey α][ey β][ey γ]
structure PH(o:Ow α)(x:α)(v0:Value)(cf:CF)(oy:Ow β)(b off:Nat)(y:β)(upd:β->α):Prop where
 of:∀ {M G:Nat->Prop} {w:World} {cs:List Value},o.ro M G w cs x->v0=gI (ey.agg α) cs->cf.at G w->HP oy M G w b off y (λ M' G' w' y'=>o.ro M' G' w' cs (upd y'))
structure PV(o:Ow α)(x:α)(v0:Value)(cf:CF)(oy:Ow β)(off:Nat)(y:β)(upd:β->α):Prop where
 of:∀ {M G:Nat->Prop} {w:World} {cs:List Value},o.ro M G w cs x->v0=gI (ey.agg α) cs->cf.at G w->VP oy M G w ((cs.drop off).take (ey.size β)) y (λ M' G' w' y'=>o.ro M' G' w' cs (upd y'))/\off+ey.size β<=ey.size α
variable{o:Ow α}{x:α}{oy:Ow β}{oz:Ow γ}{y:β}{upd:β->α}
theorem PV.root:PV o x v0 cf o 0 x (λ y=>y):=⟨λ{M G w cs} h _ _=>by
 have hl:=o.len h;have e0:(cs.drop 0).take (ey.size α)=cs:=by rw[bR,<-hl,aQ]
 rw[e0];exact⟨VP.root h,by omega⟩⟩
theorem PH.eD{get:β->γ}{set:γ->β->β}{fo:Nat}(h:PH o x v0 cf oy b off y upd)(f:eF oy oz get set fo):PH o x v0 cf oz b (off+fo) (get y) (λ z=>upd (set z y)):=⟨λ h1 h2 h3=>HP.eD f (h.of h1 h2 h3)⟩
theorem PH.conv{upd':β->α}(h:PH o x v0 cf oy b off y upd)(e:∀ z,upd z=upd' z):PH o x v0 cf oy b off y upd':=by
 have:=funext e;rwa[this] at h
theorem xu{γ:Type}{xs:List γ}{v z:γ}(h:eN xs m=some v):eN (xs.set m.toNat z) m=some z:=by
 unfold eN at h ⊢;split at h
 .rename_i hm;rw[Ke hm];have:=zJ h;simp[this]
 .cases h
def vw(v:Value)(n:Nat):Value:=v.cells.toList.getD n undef
theorem Hr{cs:List Value}(h:o.ro M G w cs x)(hv:v0=gI (ey.agg α) cs){n:Nat}(hu:(cs.drop n).take 1=[u]):vw v0 n=u:=by
 have e1:v0.cells.toList=cs:=by rw[hv];exact ZS (o.toR h)
 unfold vw;rw[e1,cA];have:((cs.drop n).take 1)[0]?=some u:=by rw[hu];rfl
 rw[aw,Ke (by omega),bL] at this;rw[eo] at this;rw[this];rfl
theorem PV.box{y:Bx β}{upd:Bx β->α}(h:PV o x v0 cf oy.box off y upd)(hb:vw v0 off=.pointer (some ⟨b,0,none⟩)):PH o x v0 cf oy b 0 y.x (λ z=>upd ⟨z⟩):=⟨λ h1 h2 h3=>by
 obtain⟨b',hc,hp⟩:=(h.of h1 h2 h3).1.box;have e1:=Hr h1 h2 hc;rw[hb] at e1;have e2:b'=b:=by injection e1 with e1;injection e1 with e1;injection e1 with e1;exact e1.symm
 subst e2;exact hp⟩
theorem Pb{y:Bx β}{cf:CF}:PH oy.box y (.pointer (some ⟨b,0,none⟩)) cf oy b 0 y.x (λ z=>⟨z⟩):=PV.box PV.root Z
theorem PV.row{e:TypeId}{ob:Ow β}{ys:List β}{upd:List β->α}{g n cap:Nat}{m:Int}(h:PV o x v0 cf (Ow.row e ob) off ys upd){A:Option Addr}(hb:vw v0 off=.slice A n cap)(hA:n≠0->A=some ⟨g,0,none⟩){z:β}(hm:eN ys m=some z):PH o x v0 cf ob g (m.toNat*ey.size β) z (λ z'=>upd (ys.set m.toNat z')):=⟨λ h1 h2 h3=>by
 obtain⟨g',cap',hc,hp⟩:=(h.of h1 h2 h3).1.row (yS hm).2;have e1:=Hr h1 h2 hc;rw[hb] at e1;injection e1 with e3 e4 e5;have hlt:=zJ (yS hm).2;rw[hA (by omega)] at e3;have e2:g'=g:=by injection e3 with e1;injection e1 with e1;exact e1.symm
 subst e2;exact hp⟩
theorem PH.row{e:TypeId}{ob:Ow β}{ys:List β}{upd:List β->α}{g n cap:Nat}{m:Int}(h:PH o x v0 cf (Ow.row e ob) b off ys upd){k:Bool}{A:Option Addr}(hb:(k,b,off,.slice A n cap)∈cf)(hk:k=true)(hA:n≠0->A=some ⟨g,0,none⟩){z:β}(hm:eN ys m=some z):PH o x v0 cf ob g (m.toNat*ey.size β) z (λ z'=>upd (ys.set m.toNat z')):=⟨λ{M G w cs} h1 h2 h3=>by
 obtain⟨g',cap',hc,hp⟩:=(h.of h1 h2 h3).row (yS hm).2;have e1:w.cell? _=some _:=(h3 _ hb hk).2.2;simp only at e1;rw[hc] at e1;injection e1 with e1;injection e1 with e3 e4 e5;have hlt:=zJ (yS hm).2;rw[hA (by omega)] at e3;have e2:g'=g:=by injection e3 with e1;injection e1 with e1
 subst e2;exact hp⟩
end
section
variable{α β:Type}[ey α][ey β]
def eH(o:Ow α)(G:Nat->Prop)(x:α):Dt where
 rd M w v:=∃ cs,o.ro M G w cs x/\v=gI (ey.agg α) cs
 own:=G
 nb:=false
 nob h:=by cases h
 stable:=λ⟨cs,h,hv⟩ k=>⟨cs,o.stable h k,hv⟩
 weak:=λ⟨cs,h,hv⟩ k=>⟨cs,o.weak h k,hv⟩
def eJ(o:Ow α)(G:Nat->Prop)(x:α)(v0:Value)(cf:CF):Dt where
 rd M w v:=v=v0/\(∃ cs,o.ro M G w cs x/\v0=gI (ey.agg α) cs)/\cf.at G w
 own:=G
 nb:=false
 nob h:=by cases h
 stable:=λ{M w w' v} ⟨h1,⟨cs,h,hv⟩,hc⟩ k=>⟨h1,⟨cs,o.stable h k,hv⟩,λ q hq hb=>⟨(hc q hq hb).1,Fl (hc q hq hb).2.1 (k _ (hc q hq hb).2.1 (.inr (hc q hq hb).1)),Kq (hc q hq hb).2.2 (k _ (hc q hq hb).2.1 (.inr (hc q hq hb).1))⟩⟩
 weak:=λ⟨h1,⟨cs,h,hv⟩,hc⟩ k=>⟨h1,⟨cs,o.weak h k,hv⟩,hc⟩
end
structure Rd where
 rd:(Nat->Prop)->(Nat->Prop)->World->Value->Prop
 stable:∀ {M G:Nat->Prop} {w w':World} {v:Value},rd M G w v->kA M G w w'->rd M G w' v
 weak:∀ {M M' G:Nat->Prop} {w:World} {v:Value},rd M G w v->(∀ k,k<w.heap.size->M' k->M k)->rd M' G w v
 more:∀ {M G G':Nat->Prop} {w:World} {v:Value},rd M G w v->(∀ b,G b->G' b)->rd M G' w v
variable{r:Rd}
def Rd.eE(x:Dt):Rd where
 rd M _ w v:=x.rd M w v/\x.nb=true
 stable h e:=⟨x.stable h.1 (λ k hk hm=>e k hk (hm.imp id λ ho=>(x.nob h.2 k ho).elim)),h.2⟩
 weak h e:=⟨x.weak h.1 e,h.2⟩
 more h _:=h
def Rd.ow{α:Type}[ey α](o:Ow α)(x:α):Rd where
 rd M G w v:=(eH o G x).rd M w v
 stable h e:=(eH o _ x).stable h e
 weak h e:=(eH o _ x).weak h e
 more:=λ⟨cs,h,hv⟩ e=>⟨cs,o.more h e,hv⟩
def Rd.gone:Rd:=⟨λ _ _ _ _=>True,λ h _=>h,λ h _=>h,λ h _=>h⟩
def kP(r:Rd)(G:Nat->Prop):Dt where
 rd M w v:=r.rd M G w v
 own:=G
 nb:=false
 nob h:=by cases h
 stable h k:=r.stable h k
 weak h k:=r.weak h k
def iF(P:Program)(f:FuncId)(xs:List Dt)(r:Rd):Prop:=
 ∀
  (M:Nat->Prop) (w:World) (vs:List Value),(∀ b,M b->b<w.heap.size)->RdAll M w vs xs->
  Calls P f vs.toArray w (λ en w'=>∃ v G,en=.returned v/\fy w w'/\(∀ b,G b->w.heap.size<=b/\b<w'.heap.size)/\r.rd (λ b=>M b\/G b) G w' v)
def fP{α:Type}[ey α](P:Program)(f:FuncId)(o:Ow α)(x:α)(xs:List Dt)(x':α)(r:Rd):Prop:=
 ∀
  (M0 G:Nat->Prop) (w:World) (v:Value) (vs:List Value),(∀ b,M0 b\/G b->b<w.heap.size)->(∀ b,G b->¬ M0 b)->(eH o G x).rd (λ b=>M0 b\/G b) w v->RdAll (λ b=>M0 b\/G b) w vs xs->
  Calls P f (v::vs).toArray w (λ en w'=>∃ u G' Gr,en=.returned u/\Grown G w w'/\(∀ b,G' b->G b\/w.heap.size<=b)/\(∀ b,Gr b->G b\/w.heap.size<=b)/\(∀ b,G' b->¬ Gr b)/\(∀ b,G' b\/Gr b->b<w'.heap.size)/\
   (eH o G' x').rd (λ b=>(M0 b\/G' b)\/Gr b) w' v/\r.rd (λ b=>(M0 b\/G' b)\/Gr b) Gr w' u)
section
variable{fn:Func}{T:Prop}
variable{α β:Type}[ey α][ey β]{look:Nat->Option Dt}
variable{oy:Ow β}{ys:List β}
theorem Sx.drop(h:Sx F N M0 M Gs L O a w)(hq:fi L O qs p=some O2):Sx F N M0 M Gs L O2 a w:=by
 refine⟨h.st.env λ s x hx=>?_,h.ob,h.no,gf.of λ q hq' b hb=>h.ow.get q (ZT hq q hq').1 b hb⟩;rcases yw hx with h1 | ⟨h0,h1⟩
 .exact yN h1
 .obtain⟨r,hr⟩:=JK h1;exact(ZT hq _ hr).2.2
theorem Sx.kE(h:Sx F N M0 M Gs L O a w)(hp:p<Gs.length)(hgr:Grown (zj Gs p) w w')(hk:ff ks L=some L2)(hq:fi L O qs p=some O2):Sx F N M0 M Gs L2 O2 a w':=by
 have h1:=h.kr (G':=λ b=>zj Gs p b) hp hgr (λ b hb=>⟨.inl hb,ay (h.st.mok b (h.ob.at_ p b hb).2.1) hgr.size⟩) hk hq;have hGs:Gs.set p (λ b=>zj Gs p b)=Gs:=by
  apply aZ;intro n;by_cases hn:p=n
  .subst hn;rw[aI hp,aa hp]
   congr 1
   funext b
   unfold zj;rw[aa hp]
  .rw[aG hn]
 have hMM:(λ b=>(M b/\¬ zj Gs p b)\/zj Gs p b)=M:=by
  funext b
  apply propext;constructor
  .rintro (h2 | h2)
   .exact h2.1
   .exact(h.ob.at_ p b h2).2.1
  .intro h2;by_cases h3:zj Gs p b
   .exact .inr h3
   .exact .inl ⟨h2,h3⟩
 rw[hGs,hMM] at h1;exact h1
theorem Sx.ug(h:Sx F N M0 M Gs L O a w)(h1:∀ q b,zj Gs' q b->∃ q',zj Gs q' b)(h2:∀ q r b,q≠r->zj Gs' q b->¬ zj Gs' r b)(hO:∀ q∈O,∀ b,q.2.2.own b->zj Gs' q.2.1 b):Sx F N M0 M Gs' L O a w:=
 ⟨h.st,⟨h.ob.sub,λ q b hb=>let⟨q',hq'⟩:=h1 q b hb;h.ob.at_ q' b hq',h2⟩,h.no,gf.of hO⟩
def J3(Gs:List (Nat->Prop))(p p2:Nat):List (Nat->Prop):=(Gs.set p (λ b=>zj Gs p b\/zj Gs p2 b)).set p2 (eA none)
theorem QE{q:Nat}(hp:p<Gs.length)(hp2:p2<Gs.length)(hne:p≠p2):zj (J3 Gs p p2) q b ↔ (q=p/\(zj Gs p b\/zj Gs p2 b))\/(q≠p/\q≠p2/\zj Gs q b):=by
 unfold J3;by_cases h2:p2=q
 .subst h2;rw[zf (by simpa using hp2)];exact⟨λ h=>absurd h (by simp[eA]),λ h=>h.elim (λ h=>absurd h.1.symm hne) λ h=>absurd Z h.2.1⟩
 .rw[zq h2];by_cases h1:p=q
  .subst h1;rw[zf hp];exact⟨λ h=>.inl ⟨Z,h⟩,λ h=>h.elim (λ h=>h.2) λ h=>absurd Z h.1⟩
  .rw[zq h1];exact⟨λ h=>.inr ⟨λ e=>h1 e.symm,λ e=>h2 e.symm,h⟩,λ h=>h.elim (λ h=>absurd h.1.symm h1) λ h=>h.2.2⟩
theorem Sx.mJ(h:Sx F N M0 M Gs L O a w)(hp:p<Gs.length)(hp2:p2<Gs.length)(hne:p≠p2)(hO:O.all (λ q=>q.2.1 != p2)=true):Sx F N M0 M (J3 Gs p p2) L O a w:=by
 refine h.ug (λ q b hb=>?_) (λ q r b hqr h1 h2=>?_) λ q hq b hb=>?_
 .rcases(QE hp hp2 hne).1 hb with⟨_,h1 | h1⟩ | ⟨_,_,h1⟩
  .exact⟨_,h1⟩
  .exact⟨_,h1⟩
  .exact⟨_,h1⟩
 .rcases(QE hp hp2 hne).1 h1 with⟨e1,k1⟩ | ⟨n1,m1,k1⟩
  .rcases(QE hp hp2 hne).1 h2 with⟨e2,_⟩ | ⟨n2,m2,k2⟩
   .exact hqr (e1.trans e2.symm)
   .exact k1.elim (λ k=>h.ob.apart p r b (br n2) k k2) λ k=>h.ob.apart p2 r b (br m2) k k2
  .rcases(QE hp hp2 hne).1 h2 with⟨_,k2⟩ | ⟨_,_,k2⟩
   .exact k2.elim (λ k=>h.ob.apart q p b n1 k1 k) λ k=>h.ob.apart q p2 b m1 k1 k
   .exact h.ob.apart q r b hqr k1 k2
 .have h1:=h.ow.get q hq b hb;have h2:q.2.1≠p2:=by simpa using am.1 hO q hq
  refine(QE hp hp2 hne).2 ?_;by_cases e:q.2.1=p
  .rw[e] at h1 ⊢;exact .inl ⟨Z,.inl h1⟩
  .exact .inr ⟨e,h2,h1⟩
theorem Sx.sn{A:Nat->Prop}(h:Sx F N M0 M Gs L O a w)(hp:p<Gs.length)(hp2:p2<Gs.length)(hne:p≠p2)(hA:∀ b,A b->zj Gs p b)(hB:∀ b,B b->zj Gs p b)(hd:∀ b,A b->¬ B b)(hO:O.all (λ q=>q.2.1 != p&&q.2.1 != p2)=true):Sx F N M0 M ((Gs.set p A).set p2 B) L O a w:=by
 have key:∀ q b,zj ((Gs.set p A).set p2 B) q b ↔ (q=p2/\B b)\/(q≠p2/\q=p/\A b)\/(q≠p2/\q≠p/\zj Gs q b):=λ q b=>by
  by_cases h2:p2=q
  .subst h2;rw[zf (by simpa using hp2)];exact⟨λ h=>.inl ⟨Z,h⟩,λ h=>h.elim (λ h=>h.2) λ h=>h.elim (λ h=>absurd Z h.1) λ h=>absurd Z h.1⟩
  .rw[zq h2];by_cases h1:p=q
   .subst h1;rw[zf hp];exact⟨λ h=>.inr (.inl ⟨br h2,Z,h⟩),λ h=>h.elim (λ h=>absurd h.1.symm h2) λ h=>h.elim (λ h=>h.2.2) λ h=>absurd Z h.2.1⟩
   .rw[zq h1];exact⟨λ h=>.inr (.inr ⟨br h2,br h1,h⟩),λ h=>h.elim (λ h=>absurd h.1.symm h2) λ h=>h.elim (λ h=>absurd h.2.1.symm h1) λ h=>h.2.2⟩
 refine h.ug (λ q b hb=>?_) (λ q r b hqr h1 h2=>?_) λ q hq b hb=>?_
 .rcases(key q b).1 hb with⟨_,h1⟩ | ⟨_,_,h1⟩ | ⟨_,_,h1⟩
  .exact⟨p,hB b h1⟩
  .exact⟨p,hA b h1⟩
  .exact⟨q,h1⟩
 .rcases(key q b).1 h1 with⟨e1,k1⟩ | ⟨n1,e1,k1⟩ | ⟨n1,m1,k1⟩ <;> rcases(key r b).1 h2 with⟨e2,k2⟩ | ⟨n2,e2,k2⟩ | ⟨n2,m2,k2⟩
  .exact hqr (e1.trans e2.symm)
  .exact hd b k2 k1
  .exact h.ob.apart p r b (br m2) (hB b k1) k2
  .exact hd b k1 k2
  .exact hqr (e1.trans e2.symm)
  .exact h.ob.apart p r b (br m2) (hA b k1) k2
  .exact h.ob.apart q p b m1 k1 (hB b k2)
  .exact h.ob.apart q p b m1 k1 (hA b k2)
  .exact h.ob.apart q r b hqr k1 k2
 .have h1:=h.ow.get q hq b hb;have h2:=am.1 hO q hq;simp at h2;exact(key q.2.1 b).2 (.inr (.inr ⟨h2.2,h2.1,h1⟩))
theorem Sx.se{ow:Ow α}{x:α}(h:Sx F N M0 M Gs L O a w)(p:Nat)(qs:List Nat)
  (next:∀ v0,Sx F N M0 M Gs L ((s,p,eJ ow G x v0 [])::O2) a w->T)(hs:(L++eB O).lookup s=some (eH ow G x):=by rfl)(hn:L.lookup s=none:=by rfl)(hG:∀ b,G b->zj Gs p b:=by exact λ _ h=>h)(hq:fi L O qs p=some O2:=by rfl):T:=by
 obtain⟨cs,h1,h2⟩:=h.st.has s _ hs;exact next _ ((h.drop hq).gu hn ⟨Z,⟨cs,h1,h2⟩,λ q hq _=>by cases hq⟩ hG)
theorem Sx.ie{ow:Ow α}{x:Bx α}(h:Sx F N M0 M Gs L O a w)(p:Nat)(qs:List Nat)
  (next:∀ b:Nat,Sx F N M0 M Gs L ((s,p,eJ ow.box G x (.pointer (some ⟨b,0,none⟩)) [])::O2) a w->T)(hs:(L++eB O).lookup s=some (eH ow.box G x):=by rfl)(hn:L.lookup s=none:=by rfl)(hG:∀ b,G b->zj Gs p b:=by exact λ _ h=>h)(hq:fi L O qs p=some O2:=by rfl):T:=by
 obtain⟨cs,h1,h2⟩:=h.st.has s _ hs;obtain⟨b,C,e,Gr,hc,h3⟩:=h1;refine next b ((h.drop hq).gu hn ⟨?_,⟨cs,⟨b,C,e,Gr,hc,h3⟩,by rw[hc];rfl⟩,λ q hq _=>by cases hq⟩ hG);rw[h2,hc];rfl
theorem Sx.iQ{ow:Ow α}{xs:List α}(h:Sx F N M0 M Gs L O a w)(p:Nat)(qs:List Nat)
  (next:∀ (g:Nat) (A:Option Addr) (cap:Nat),(xs.length≠0->A=some ⟨g,0,none⟩)->Sx F N M0 M Gs L ((s,p,eJ (Ow.row e ow) G xs (.slice A xs.length cap) [])::O2) a w->T)(hs:(L++eB O).lookup s=some (eH (Ow.row e ow) G xs):=by rfl)(hn:L.lookup s=none:=by rfl)(hG:∀ b,G b->zj Gs p b:=by exact λ _ h=>h)(hq:fi L O qs p=some O2:=by rfl):T:=by
 obtain⟨cs,h1,h2⟩:=h.st.has s _ hs;obtain⟨v,hv,h3⟩:=h1;have e2:Act.at a s=v:=by rw[h2,hv];rfl
 rcases h3 with⟨g,cap,cur,Gr,hg,h4⟩ | ⟨hx,A,hA⟩
 .refine next g _ cap (λ _=>Z) ((h.drop hq).gu hn ⟨by rw[e2,hg],⟨cs,⟨v,hv,.inl ⟨g,cap,cur,Gr,hg,h4⟩⟩,by rw[hv,hg];rfl⟩,λ q hq _=>by cases hq⟩ hG)
 .refine next 0 A 0 (λ hne=>by rw[hx] at hne;exact absurd Z hne) ((h.drop hq).gu hn ⟨by rw[e2,hA,hx];rfl,⟨cs,⟨v,hv,.inr ⟨hx,A,hA⟩⟩,by rw[hv,hA,hx];rfl⟩,λ q hq _=>by cases hq⟩ hG)
theorem Sx.fv{ow:Ow α}{x:α}(h:Sx F N M0 M Gs L O a w)(p:Nat)(qs:List Nat)(hs:(L++eB O).lookup s=some (eJ ow G x v0 cf):=by rfl)(hn:L.lookup s=none:=by rfl)(hG:∀ b,G b->zj Gs p b:=by exact λ _ h=>h)(hq:fi L O qs p=some O2:=by rfl):
  Sx F N M0 M Gs L ((s,p,eH ow G x)::O2) a w:=by
 obtain⟨h1,⟨cs,h2,h3⟩,_⟩:=h.st.has s _ hs;exact(h.drop hq).gu hn ⟨cs,h2,h1.trans h3⟩ hG
theorem Sx.Lp{ow:Ow α}{x:α}{y:Bx β}{upd:Bx β->α}(h:Sx F N M0 M Gs L O a w)(p:Nat)(c:Bool)(hP:c=true->PH ow x v0 cf oy.box b off y upd)(hs:(L++eB O).lookup s=some (eJ ow G x v0 cf))(hn:L.lookup s=none)(hG:∀ b,G b->zj Gs p b)(qs:List Nat)(hq:fi L O qs p=some O2)
  (next:∀ b':Nat,Sx F N M0 M Gs L ((s,p,eJ ow G x v0 ((c,b,off,.pointer (some ⟨b',0,none⟩))::cf))::O2) a w->T):T:=by
 obtain⟨h1,⟨cs,h2,h3⟩,h4⟩:=h.st.has s _ hs;have:∃ b':Nat,c=true->G b/\b<w.heap.size/\QD w b off (.pointer (some ⟨b',0,none⟩)):=by
  cases c with
  | false=>exact⟨0,λ h=>by cases h⟩
  |true=>have hp:=(hP Z).of h2 h3 h4;obtain⟨_,_,hh,_,hGb,_⟩:=hp.here;obtain⟨b',hc,_⟩:=hp.box;exact⟨b',λ _=>⟨hGb,xM hh,hc⟩⟩
 obtain⟨b',hb'⟩:=this;refine next b' ((h.drop hq).gu hn ⟨h1,⟨cs,h2,h3⟩,λ q hq' hb=>?_⟩ hG);rcases aj.1 hq' with rfl | hq'
 .exact hb' hb
 .exact h4 q hq' hb
theorem HP.LN{R:(Nat->Prop)->(Nat->Prop)->World->List β->Prop}(h:HP (Ow.row e oy) M G w b off ys R):∃ g A cap,(ys.length≠0->A=some ⟨g,0,none⟩)/\w.cell? ⟨b,off,none⟩=some (.slice A ys.length cap):=by
 obtain⟨C,e',hh,hsz,hv⟩:=h.vp;obtain⟨G1,G2,_,_,_,hr,_⟩:=hv;obtain⟨v,hv,h3⟩:=hr;have e1:w.cell? ⟨b,off,none⟩=some v:=by simp[World.cell?,hh,XO hv]
 rcases h3 with⟨g,cap,cur,Gr,hg,h4⟩ | ⟨hx,A,hA⟩
 .exact⟨g,_,cap,λ _=>Z,by rw[e1,hg]⟩
 .exact⟨0,A,0,λ hne=>by rw[hx] at hne;exact absurd Z hne,by rw[e1,hA,hx];rfl⟩
theorem Sx.oZ{ow:Ow α}{x:α}{upd:List β->α}(h:Sx F N M0 M Gs L O a w)(p:Nat)(c:Bool)(hP:c=true->PH ow x v0 cf (Ow.row e oy) b off ys upd)(qs:List Nat)
  (next:∀ (g:Nat) (A:Option Addr) (cap:Nat),(ys.length≠0->c=true->A=some ⟨g,0,none⟩)->Sx F N M0 M Gs L ((s,p,eJ ow G x v0 ((c,b,off,.slice A ys.length cap)::cf))::O2) a w->T)(hs:(L++eB O).lookup s=some (eJ ow G x v0 cf):=by rfl)(hn:L.lookup s=none:=by rfl)(hG:∀ b,G b->zj Gs p b:=by exact λ _ h=>h)(hq:fi L O qs p=some O2:=by rfl):T:=by
 obtain⟨h1,⟨cs,h2,h3⟩,h4⟩:=h.st.has s _ hs;have:∃ (g:Nat) (A:Option Addr) (cap:Nat),(ys.length≠0->c=true->A=some ⟨g,0,none⟩)/\(c=true->G b/\b<w.heap.size/\QD w b off (.slice A ys.length cap)):=by
  cases c with
  | false=>exact⟨0,none,0,⟨(λ _ h=>by cases h),(λ h=>by cases h)⟩⟩
  |true=>have hp:=(hP Z).of h2 h3 h4;obtain⟨_,_,hh,_,hGb,_⟩:=hp.here;obtain⟨g,A,cap,hA,hc⟩:=hp.LN;exact⟨g,A,cap,λ h _=>hA h,λ _=>⟨hGb,xM hh,hc⟩⟩
 obtain⟨g,A,cap,hA,hb'⟩:=this;refine next g A cap hA ((h.drop hq).gu hn ⟨h1,⟨cs,h2,h3⟩,λ q hq' hb=>?_⟩ hG);rcases aj.1 hq' with rfl | hq'
 .exact hb' hb
 .exact h4 q hq' hb
theorem zt{ow:Ow α}{x:α}(h:look s=some (eJ ow G x v0 cf)):eC M look (.tmp s) (fk v0):=λ _ _ hl=>(hl s _ h).1
theorem U{ow:Ow α}{x:α}(h:look s=some (eJ ow G x v0 cf):=by rfl):eC M look (.tmp s) (fk v0):=zt h
theorem eV{f:Nat}(ho:o.op=.fieldAddr t q f)(ht:fR P t f fo=true)(hp:eC M look q (fk (.pointer (some ⟨b,off,none⟩)))):eP P M look o (fk (.pointer (some ⟨b,off+fo,none⟩))):=
 zz λ a w _ hl=>by
  have hv:a.eval q=_:=hp w a hl;refine⟨_,?_,Z⟩;unfold execOp;rw[ho];simp[hv,JI ht]
theorem gJ{γ:Type}{s i:Operand}{size g n cap:Nat}{ys:List γ}{y:γ}(ho:o.op=.indexAddr t s i)(ht':gV P t size=true)(hs:eC M look s (fk (.slice A n cap)))(hi:eC M look i (dt m))(hn:n=ys.length)(hA:ys.length≠0->A=some ⟨g,0,none⟩)(hm:eN ys m=some y):eP P M look o (fk (.pointer (some ⟨g,m.toNat*size,none⟩))):=
 zz λ a w _ hl=>by
  obtain⟨hm0,hx⟩:=yS hm;generalize m.toNat=k at*;subst hm0;have hk:=zJ hx;have hA':=hA (by omega);subst hA';obtain⟨e',ht⟩:=jZ ht';obtain⟨ti,ht1,ht2,ht3⟩:=ZR ht;have hsv:a.eval s=_:=hs w a hl;have hiv:=yq.1 (hi w a hl);have hk':k<n:=by omega
  have hadd:(⟨g,0,none⟩:Addr).add (k*size)=⟨g,k*size,none⟩:=by rw[jI];simp
  refine⟨_,?_,Z⟩;unfold execOp;rw[ho];simp[hsv,hiv,Instr.indexAt,asIntOf,ax ht1,sizeOf,typeInfo,ht2,ht3,hk',hadd]
theorem B'{ow:Ow α}{s:Nat}{xs:List α}{n cap:Nat}(h:(eJ (Ow.row e ow) G xs (.slice A n cap) cf).rd M w v):n=xs.length:=by
 obtain⟨_,⟨cs,⟨v',hv',h3⟩,h4⟩,_⟩:=h;rw[hv'] at h4;have h5:=h4;rcases h3 with⟨g,cap,cur,Gr,hg,_⟩ | ⟨hx,A',hA⟩
 .rw[hg] at h5;injection h5
 .rw[hA] at h5;injection h5 with _ h6 _;rw[h6,hx];rfl
theorem kk{ow:Ow α}{i:Operand}{g n cap:Nat}{xs:List α}{x:α}(ho:o.op=.indexAddr t (.tmp s) i)(ht':gV P t (ey.size α)=true)(hs:look s=some (eJ (Ow.row e ow) G xs (.slice A n cap) cf))(hi:eC M look i (dt m))(hA:n≠0->A=some ⟨g,0,none⟩)(hm:eN xs m=some x):eP P M look o (fk (.pointer (some ⟨g,m.toNat*ey.size α,none⟩))):=
 λ a w hm' hl=>by
  have hn:=B' (s:=s) (hl s _ hs);exact gJ ho ht' (zt hs) hi hn (by rw[<-hn];exact hA) hm a w hm' hl
theorem oE{n cap:Nat}(ho:o.op=.call { callee:=.builtin .len,args:=#[q],argTypes:=#[t] })(hs:eC M look q (fk (.slice A n cap)))(ht:lL P t=true:=by kernel_rfl):eP P M look o (dt (n:Int)):=
 zz λ a w _ hl=>by
  obtain⟨e',ht1⟩:=Dq ht;have hv:a.eval q=_:=hs w a hl;refine⟨.int .i64 n,?_,yq.2 Z⟩;unfold execOp;rw[ho];simp[resolve,invoke,builtin,Builtin.len_,hv,ax ht1,goInt]
theorem nJ{ow:Ow α}{n cap:Nat}{xs:List α}(ho:o.op=.call { callee:=.builtin .len,args:=#[.tmp s],argTypes:=#[t] })(ht:lL P t=true)(hs:look s=some (eJ (Ow.row e ow) G xs (.slice A n cap) cf)):eP P M look o (dt (xs.length:Int)):=
 λ a w hm' hl=>by
  have hn:=B' (s:=s) (hl s _ hs);rw[<-hn];exact oE ho (ht:=ht) (zt hs) a w hm' hl
theorem gi{ow:Ow α}{t:Nat}{x:α}{y:β}{upd:β->α}(hP:PH ow x v0 cf Ow.eE b off y upd)(ho:o.op=.load t q)(hq:eC M look q (fk (.pointer (some ⟨b,off,none⟩))))(hs:look sb=some (eJ ow G x v0 cf))(ht:fM P t (ey.agg β) (ey.size β)=true:=by kernel_rfl):eP P M look o (dt y):=
 zz λ a w _ hl=>by
  obtain⟨h1,⟨cs,h2,h3⟩,h4⟩:=hl sb _ hs;obtain⟨C,e,hh,hsz,_,G1,G2,_,_,_,_,_,hr,_⟩:=(hP.of h2 h3 h4).here;have hr':ey.rdc M w _ y:=hr;have hv:a.eval q=_:=hq w a hl;refine⟨_,?_,_,hr',Z⟩;have hc':∀ j u,((C.toList.drop off).take (ey.size β))[j]?=some u->w.cell? ⟨b,off+j,none⟩=some u:=λ j u hj=>by
   rw[aw] at hj;split at hj
   .rw[bL] at hj;have:C[off+j]?=some u:=by simpa using hj
    simp[World.cell?,hh,this]
   .cases hj
  unfold execOp;rw[ho];simp[Instr.loadAt,Instr.sureAddr,hv,yA ht (ey.len hr') ey.one hc']
theorem fS{ow:Ow α}{t:Nat}{x:α}(hm:(c,b,off,u)∈cf)(hc:c=true)(hu:u.oneCell'=true)(ho:o.op=.load t q)(hq:eC M look q (fk (.pointer (some ⟨b,off,none⟩))))(hs:look sb=some (eJ ow G x v0 cf))(ht:fM P t false 1=true:=by kernel_rfl):eP P M look o (fk u):=
 zz λ a w _ hl=>by
  obtain⟨h1,⟨cs,h2,h3⟩,h4⟩:=hl sb _ hs;have h5:=Jc hu (h4 _ hm hc).2.2;have hv:a.eval q=_:=hq w a hl;refine⟨u,?_,Z⟩;unfold execOp;rw[ho];have:=yA (cs:=[u]) ht Z (λ _=>Z) (λ j z hj=>by
   cases j with
   | zero=>simp at hj;subst hj;simpa using h5
   | succ j=>simp at hj)
  simp[Instr.loadAt,Instr.sureAddr,hv,this,gI]
theorem Sx.mF{ow:Ow α}{x:α}{y:β}{upd:β->α}(h:Sx F N M0 M Gs L O a w)(p:Nat)(c:Bool)(hP:c=true->PH ow x v0 cf oy b off y upd)(qs:List Nat)
  (next:∀ cs:Array Value,(c=true->cs.size=ey.size β)->Sx F N M0 M Gs L ((s,p,eJ ow G x v0 ((c,b,off,.agg cs)::cf))::O2) a w->T)(hs:(L++eB O).lookup s=some (eJ ow G x v0 cf):=by rfl)(hn:L.lookup s=none:=by rfl)(hG:∀ b,G b->zj Gs p b:=by exact λ _ h=>h)(hq:fi L O qs p=some O2:=by rfl):T:=by
 obtain⟨h1,⟨cs,h2,h3⟩,h4⟩:=h.st.has s _ hs;have:∃ cc:Array Value,c=true->cc.size=ey.size β/\G b/\b<w.heap.size/\QD w b off (.agg cc):=by
  cases c with
  | false=>exact⟨#[],λ h=>by cases h⟩
  |true=>
   obtain⟨C,e,hh,hsz,hGb,G1,G2,_,_,_,_,_,hr,_⟩:=((hP Z).of h2 h3 h4).here;refine⟨((C.toList.drop off).take _).toArray,λ _=>⟨by rw[eb];exact oy.len hr,hGb,xM hh,λ j u hj=>?_⟩⟩;rw[cg,aw] at hj;split at hj
   .rw[bL] at hj;have:C[off+j]?=some u:=by simpa using hj
    simp[World.cell?,hh,this]
   .cases hj
 obtain⟨cc,hcc⟩:=this;refine next cc (λ hc=>(hcc hc).1) ((h.drop hq).gu hn ⟨h1,⟨cs,h2,h3⟩,λ q hq' hb=>?_⟩ hG);rcases aj.1 hq' with rfl | hq'
 .exact(hcc hb).2
 .exact h4 q hq' hb
theorem nK{ow:Ow α}{t n:Nat}{x:α}{cs:Array Value}(hm:(c,b,off,.agg cs)∈cf)(hc:c=true)(hn:cs.size=n)(ho:o.op=.load t q)(hq:eC M look q (fk (.pointer (some ⟨b,off,none⟩))))(hs:look sb=some (eJ ow G x v0 cf))(ht:fM P t true n=true:=by kernel_rfl):eP P M look o (fk (.agg cs)):=
 zz λ a w _ hl=>by
  obtain⟨h1,_,h4⟩:=hl sb _ hs;have h5:=(h4 _ hm hc).2.2;have hv:a.eval q=_:=hq w a hl;refine⟨.agg cs,?_,Z⟩;have:=yA ht (by simpa using hn) (λ h=>by cases h) h5;unfold execOp;rw[ho];simp[Instr.loadAt,Instr.sureAddr,hv,this,gI]
def Fits(β:Type)[ey β](u:Value):Prop:=(ey.agg β=false/\u.oneCell'=true)\/(ey.agg β=true/\∃ cs,u=.agg cs/\cs.size=ey.size β)
theorem zR(h:ey.agg β=false)(hu:u.oneCell'=true):Fits β u:=.inl ⟨h,hu⟩
theorem QG{cs:Array Value}(h:ey.agg β=true)(hu:cs.size=ey.size β):Fits β (.agg cs):=.inr ⟨h,cs,Z,hu⟩
theorem rF(hf:Fits β u)(hh:w.heap[b]?=some (.cells C e (0,0)))(hsz:off+ey.size β<=C.size)(h:QD w b off u):u=gI (ey.agg β) ((C.toList.drop off).take (ey.size β)):=by
 rcases hf with⟨h1,h2⟩ | ⟨h1,cs,rfl,h2⟩
 .have h3:=Jc h2 h;have h4:C[off]?=some u:=by simpa[World.cell?,hh] using h3
  rw[h1,ey.one h1];have h5:(C.toList.drop off).take 1=[u]:=by
   have hlt:=(aB.1 h4).1;apply aZ;intro j;cases j with
   | zero=>rw[aw,Ke (by omega),bL];simpa using h4
   | succ j=>rw[aw,Kf (by omega)];simp
  rw[h5];rfl
 .rw[h1];show Value.agg cs=.agg _
  congr 1
  apply Array.ext_getElem?;intro j;have h3:=h;have e2:∀ l:List Value,l.toArray[j]?=l[j]?:=λ l=>by simp
  refine ek ?_ (e2 _).symm;rw[aw];by_cases hj:j<ey.size β
  .rw[Ke hj,bL];have hj':j<cs.size:=by omega
   have h4:=h3 j cs[j] (by simp[hj']);have h5:C[off+j]?=some cs[j]:=by simpa[World.cell?,hh] using h4
   rw[an hj',cX,h5]
  .rw[Kf hj,bQ (by omega)]
end
def eG.ft(w0:World)(G:Nat->Prop):eG where
 J w:=Grown G w0 w
 Own b:=G b\/w0.heap.size<=b
 ext h k:=⟨k.os.trans h.os,k.tape.trans h.tape,k.output.trans h.output,aS h.size k.size,λ i hi hn=>(k.block i (ay hi h.size)).trans (h.block i hi hn)⟩
 own h hg hb:=⟨hg.os.trans h.os,hg.tape.trans h.tape,hg.output.trans h.output,aS h.size hg.size,λ i hi hn=>(hg.block i (ay hi h.size) λ e=>(hb i e).elim hn λ h=>by omega).trans (h.block i hi hn)⟩
 fresh h _ hb:=.inr (aS h.size hb)
def ux(M:Nat->Prop)(w:World)(r:Rd):Ending->World->Prop:=λ en w'=>
 ∃ v G,en=.returned v/\fy w w'/\(∀ b,G b->w.heap.size<=b/\b<w'.heap.size)/\r.rd (λ b=>M b\/G b) G w' v
def ko{α:Type}[ey α](M0:Nat->Prop)(w:World)(G:Nat->Prop)(v:Value)(o:Ow α)(x':α)(r:Rd):Ending->World->Prop:=λ en w'=>
 ∃ u
   G' Gr,en=.returned u/\Grown G w w'/\(∀ b,G' b->G b\/w.heap.size<=b)/\(∀ b,Gr b->G b\/w.heap.size<=b)/\(∀ b,G' b->¬ Gr b)/\(∀ b,G' b\/Gr b->b<w'.heap.size)/\
   (eH o G' x').rd (λ b=>(M0 b\/G' b)\/Gr b) w' v/\r.rd (λ b=>(M0 b\/G' b)\/Gr b) Gr w' u
section
variable{fn:Func}{T:Prop}
variable{α β:Type}[ey α][ey β]{look:Nat->Option Dt}
variable{d0:α}{oy:Ow β}{y':β}
theorem Sx.st'{ow:Ow α}{t q:Nat}{x:α}{y:β}{upd:β->α}(h:Sx F N M0 M Gs L O a w)(p:Nat)(hP:PH ow x v0 cf oy b off y upd)(ho:o.op=.store t (.tmp q) vo)(hgd:o.guard=none)(hd:o.dst=none)
  (ht:fM P t (ey.agg β) (ey.size β)=true) (hp:p<Gs.length) (hq':Act.at a q=.pointer (some ⟨b,off,none⟩)) (hcv:(a.eval vo).cells.toList=cy) (hy:oy.ro M G3 w cy y') (hs:(L++eB O).lookup sb=some (eJ ow G x v0 cf)) (hn:L.lookup sb=none) (hG:∀ b,G b->zj Gs p b) (hG3:∀ b,G3 b->¬ zj Gs p b)
  (ks:List Nat) (hk:ff ks L=some L2) (qs:List Nat) (hq:fi L O qs p=some O2)
  (next:∀ w',Sx F N M0 M Gs L2 O2 a w'->(eJ ow (λ k=>G k\/G3 k) (upd y') v0 []).rd M w' (Act.at a sb)->wpList P ops Q rest a w'):wpList P ops Q (o::rest) a w:=by
 obtain⟨h1,⟨cs,h2,h3⟩,h4⟩:=h.st.has sb _ hs;obtain⟨G1,G2,C,e,s1,s2,hGb,n1,n2,hdj,hh,hsz,hr,put⟩:=hP.of h2 h3 h4;have hob:=hG b hGb;have hMb:=(h.ob.at_ p b hob).2.1;have hcl:=oy.len hy;have hone:=oy.one hy;have hrun:=xI (by rw[hcl];exact ht) hcv hh (by rw[hcl];exact hsz) hone;have hgr:w.grownBy (w.setRow b (C.toList.take off++cy++C.toList.drop (off+cy.length)).toArray) _:=y8;have hgr':=Grown.lJ hgr;have hL:∀ G5:Nat->Prop,¬ G5 b->iq M G5 w M _:=λ G5 hn5=>⟨λ _ _ h=>h,λ k _ hm=>hgr'.block k (by assumption) λ(h1:some b=some k)=>by
  injection h1 with h1;subst h1;exact hm.elim (λ hm=>hm hMb) hn5⟩
 have nb3:=λ h3=>hG3 b h3 hob
 refine av hgd λ K hK=>fb.wp (fb.mS (w':=w.setRow b (C.toList.take off++cy++C.toList.drop (off+cy.length)).toArray) ?_ ?_)
 .unfold execOp;rw[ho];have hpv':a.eval (.tmp q)=.pointer _:=hq';simp[Instr.storeAt,Instr.sureAddr,hpv',ap,ar,ah,hrun]
 .rw[hd];have k1:=h.kE hp (hgr'.mono λ i (hi:some b=some i)=>by injection hi with hi;rw[<-hi];exact hob) hk hq;refine hK _ _ (next _ k1 ⟨h1,⟨cs,?_,h3⟩,λ q hq _=>by cases hq⟩);have hw':=ck w b C (C.toList.take off++cy++C.toList.drop (off+cy.length)).toArray e _ hh;refine put (hL G2 n2) ?_ (oy.later hy (hL G3 nb3)) nb3 (λ k hk hk2=>hG3 k hk (hG k (s2 k hk2))) (.inl hGb) (λ k hk=>.inr hk) λ k hk=>.inl (s2 k hk)
  rw[hw',hcl]
theorem Sx.kM{ow:Ow α}{t q:Nat}{x:α}{y:β}{upd:β->α}(h:Sx F N M0 M Gs L O a w)(p:Nat)(hP:PH ow x v0 cf Ow.eE b off y upd)
    (hpl:eC M (λ s=>(L++eB O).lookup s) (.tmp q) (fk (.pointer (some ⟨b,off,none⟩)))) (hvl:eC M (λ s=>(L++eB O).lookup s) vo (dt y'))   
  (ks:List Nat)  (qs:List Nat)  
  (next:∀{w'},Sx F N M0 M Gs L2 ((sb,p,eJ ow G (upd y') v0 [])::O2) a w'->wpList P ops Q rest a w')(ho:o.op=.store t (.tmp q) vo:=by rfl)(hgd:o.guard=none:=by rfl)(hd:o.dst=none:=by rfl)(hp:p<Gs.length:=by simp)(hs:(L++eB O).lookup sb=some (eJ ow G x v0 cf):=by rfl)(hn:L.lookup sb=none:=by rfl)(hG:∀ b,G b->zj Gs p b:=by exact λ _ h=>h)(hk:ff ks L=some L2:=by rfl)(hq:fi L O qs p=some O2:=by rfl)(hdn:L2.lookup sb=none:=by rfl)(ht:fM P t (ey.agg β) (ey.size β)=true:=by kernel_rfl):wpList P ops Q (o::rest) a w:=by
 have hy:=Wn (hvl w a λ s y hs=>h.st.has s y hs);refine h.st' p hP ho hgd hd ht hp (hpl w a λ s y hs=>h.st.has s y hs) Z (G3:=noB) hy hs hn hG (λ _ h=>h.elim) ks hk qs hq λ w' st hr=>next (st.gu hdn ?_ hG)
 have e:(λ k=>G k\/noB k)=G:=by funext k;simp[noB]
 rwa[e] at hr
theorem Sx.iS{ow:Ow α}{t q:Nat}{x:α}{y:β}{upd:β->α}(h:Sx F N M0 M Gs L O a w)(p p2:Nat)(hP:PH ow x v0 cf oy b off y upd)
      (hpl:eC M (λ s=>(L++eB O).lookup s) (.tmp q) (fk (.pointer (some ⟨b,off,none⟩))))     
  (ks:List Nat)  (qs:List Nat)   
  (next:∀{G' w'},Sx F N M0 M ((Gs.set p G').set p2 (eA none)) L2 ((sb,p,eJ ow G' (upd y') v0 [])::O2) a w'->wpList P ops Q rest a w')(ho:o.op=.store t (.tmp q) (.tmp tv):=by rfl)(hgd:o.guard=none:=by rfl)(hd:o.dst=none:=by rfl)(hp:p<Gs.length:=by simp)(hp2:p2<Gs.length:=by simp)(hne:p≠p2:=by decide)(hvl:(L++eB O).lookup tv=some (eH oy G3 y'):=by rfl)(hs:(L++eB O).lookup sb=some (eJ ow G x v0 cf):=by rfl)(hn:L.lookup sb=none:=by rfl)(hG:∀ b,G b->zj Gs p b:=by exact λ _ h=>h)(hG3:∀ b,G3 b->zj Gs p2 b:=by exact λ _ h=>h)(hk:ff ks L=some L2:=by rfl)(hq:fi L O qs p=some O2:=by rfl)(hq2:O2.all (λ q=>q.2.1 != p2)=true:=by rfl)(hdn:L2.lookup sb=none:=by rfl)(ht:fM P t (ey.agg β) (ey.size β)=true:=by kernel_rfl):wpList P ops Q (o::rest) a w:=by
 obtain⟨cy,hy,hyv⟩:=h.st.has tv _ hvl;have hcl:=oy.len hy;have hone:=oy.one hy;have hcv:(Act.at a tv).cells.toList=cy:=by rw[hyv];exact ZS (oy.toR hy)
 refine h.st' p hP ho hgd hd ht hp (hpl w a λ s y hs=>h.st.has s y hs) hcv hy hs hn hG (λ b hb hb2=>h.ob.apart p p2 b hne hb2 (hG3 b hb)) ks hk qs hq λ w' st hr=>?_
 have k1:=st.mJ hp hp2 hne hq2;have e:J3 Gs p p2=(Gs.set p (λ b=>zj Gs p b\/zj Gs p2 b)).set p2 _:=rfl;rw[e] at k1;refine next (k1.gu hdn ⟨hr.1,?_,λ q hq _=>by cases hq⟩ λ c hc=>?_)
 .obtain⟨cs,h1,h2⟩:=hr.2.1;exact⟨cs,ow.more h1 λ k hk=>hk.imp (hG k) (hG3 k),h2⟩
 .rw[zq (br hne),zf hp];exact hc
theorem Sx.gZ{ow:Ow α}{t:Nat}(h:Sx F N M0 M Gs L O a w)(p:Nat)(hz:∀ (M:Nat->Prop) (w:World),ow.ro M noB w zs d0)
  (ks:List Nat)  (qs:List Nat)  
  (next:∀ b M' a' w',Sx F N M0 M' (Gs.set p (eA (some b))) L2 ((d,p,eJ ow.box (eA (some b)) ⟨d0⟩ (.pointer (some ⟨b,0,none⟩)) [])::O2) a' w'->wpList P ops Q rest a' w')(hh:fH o N=some d:=by rfl)(ho:o.op=.alloc t:=by rfl)(hp:p<Gs.length:=by simp)(hk:ff ks L=some L2:=by rfl)(hq:fi L O qs p=some O2:=by rfl)(hdn:L2.lookup d=none:=by rfl)(hzc:zeroCells P t=some zs:=by kernel_rfl):wpList P ops Q (o::rest) a w:=by
 obtain⟨hgd,hd,hN⟩:=zK hh;obtain⟨i,z,hi,hzz,hzs⟩:∃ i z,P.info? t=some i/\i.zero=some z/\z.cells.toList=zs:=by
  unfold zeroCells at hzc;cases hi:P.info? t with
  | none=>rw[hi] at hzc;cases hzc
  |some i=>
   rw[hi] at hzc;cases hzz:i.zero with
   | none=>simp[hzz] at hzc
   | some z=>exact⟨i,z,Z,hzz,by simpa[hzz] using hzc⟩
 have he:fy w (w.alloc (.cells z.cells t)):=fy.alloc _ _;refine av hgd λ K hK=>fb.wp (fb.iw (v:=.pointer (some ⟨w.heap.size,0,none⟩)) (w':=w.alloc (.cells z.cells t)) ?_ ?_)
 .unfold execOp;rw[ho];simp[Instr.alloc,zeroValue,typeInfo,hi,hzz,newVar,newRow,newObj,Qr]
 .rw[hd];have h1:=h.kr (G':=eA _) hp ((Grown.kW he).mono λ b hb=>hb.elim) (λ b (hb:some w.heap.size=some b)=>by injection hb with hb;subst hb;exact⟨.inr (al _),by simp⟩) hk hq;refine hK _ _ (next w.heap.size _ _ _ (h1.iG hN hdn ?_ λ b hb=>by rw[zf hp];exact hb));exact⟨Z,⟨_,⟨w.heap.size,z.cells,t,noB,Z,db w _,Z,λ h=>h,λ _ h=>h.elim,by rw[hzs];exact hz _ _⟩,Z⟩,λ q hq _=>by cases hq⟩
theorem Sl{ow:Ow α}{z:Array Value}{d:α}(hz:∀ (M:Nat->Prop) (w:World),ow.ro M noB w z.toList d)(n:Nat):iK ow M noB w (madeCells z (n*ey.size α)).toList (List.replicate n d):=by
 have hsz:z.size=ey.size α:=by have:=ow.len (hz M w);simpa using this
 induction n with
 | zero=>simp[madeCells,iK]
 |succ n ih=>rw[<-hsz] at ih ⊢;rw[H0 (by rw[hsz];exact ey.pos),List.replicate_succ'];exact CL ih (Sj (hz M w)) (λ _ h=>h) (λ _ h=>h) λ _ h=>h.elim
theorem Sx.LB{ow:Ow α}{n:Int}{r:List α}(h:Sx F N M0 M Gs L O a w)(p:Nat)(hh:fH o N=some d)(ho:o.op=.makeSlice t (.tmp s) (.tmp s))
  (hel:iH P t e (ey.size α) bytes=true) (hzc:zeroCells P e=some zs) (hz:∀ (M:Nat->Prop) (w:World),ow.ro M noB w zs d0) (hs:(L++eB O).lookup s=some (dt n))  (hm:mv (ey.size α) bytes n d0=some r)
  (ks:List Nat) (hk:ff ks L=some L2) (qs:List Nat) (hq:fi L O qs p=some O2) (hdn:L2.lookup d=none)
  (next:∀ G' M' a' w',Sx F N M0 M' (Gs.set p G') L2 ((d,p,eH (Ow.row e ow) G' r)::O2) a' w'->wpList P ops Q rest a' w')(hp:p<Gs.length:=by simp):wpList P ops Q (o::rest) a w:=by
 obtain⟨hgd,hd,hN⟩:=zK hh;unfold mv at hm;split at hm
 .rename_i hc;injection hm with hm;subst hm;obtain⟨i,z,ht,hi,hzz,hs1,hs2,hs3⟩:=Qv hel;have hzs:z.cells.toList=zs:=by
   unfold zeroCells at hzc;rw[hi] at hzc;simpa[hzz] using hzc
  obtain⟨w',hrun,hown,hgr⟩:=run_makeSlice_full w 0 t e i z _ ht hi hzz hs1 .i64 .i64 n.toNat hc.2.1 (by rw[hs2];exact hc.2.2.1) (by unfold maxLen;omega) (aq _);have hex:fy w w':=⟨hgr.os,hgr.tape,hgr.output,hgr.size,λ k hk=>hgr.block k hk (by simp)⟩;have hlt:=(hown.lt w.heap.size Z).2;have hsv:Act.at a s=.int .i64 (n.toNat:Int):=by rw[yq.1 (h.st.has s _ hs)];congr 1;omega
  refine av hgd λ K hK=>fb.wp (fb.iw (v:=.slice (some ⟨w.heap.size,0,none⟩) n.toNat n.toNat) (w':=w') ?_ ?_)
  .unfold execOp;rw[ho];simp only[Act.np,hsv,ap,hrun,ah,ar]
  .rw[hd];have h1:=h.kr (G':=eA _) hp ((Grown.kW hex).mono λ b hb=>hb.elim) (λ b (hb:some w.heap.size=some b)=>by injection hb with hb;subst hb;exact⟨.inr (al _),hlt⟩) hk hq;refine hK _ _ (next _ _ _ _ (h1.iG hN hdn ?_ λ b hb=>by rw[zf hp];exact hb));rcases hown.2 with⟨h2,_⟩ | ⟨b,cap,cur,h2,_,h3,h4,h5,h6,h7⟩
   .cases h2
   .injection h2 with h2 h8 h9;injection h2 with h2;have hb:w.heap.size=b:=by injection h2
    subst hb;refine⟨_,⟨_,Z,.inl ⟨w.heap.size,n.toNat,cur,noB,by rw[cz],h3,by rw[cz];exact al _,by rw[h9];exact h5,by rw[h9];exact h6,Z,λ h=>h,λ _ h=>h.elim,?_⟩⟩,Z⟩;rw[cz,h7];exact Sl (by rw[hzs];exact hz) n.toNat
 .cases hm
theorem Sx.Aq(h:Sx F N M0 M Gs L O a w)(p:Nat)(hh:fH o N=some d)
  (ho:o.op=.call { callee:=.value (.func f),args:=l.toArray,argTypes:=ts }) (hf:gb P f=true) (hb:∀ b,Mb b->M b) (hx:ArgsR2 M Mb (λ s=>(L++eB O).lookup s) l xr) (hfn:iF P f xr r) (hp:p<Gs.length)
  (ks:List Nat) (hk:ff ks L=some L2) (qs:List Nat) (hq:fi L O qs p=some O2)
  (next:∀ G' M' v w',(∀ b,M' b->M b\/G' b)->Sx F N M0 M' (Gs.set p G') L2 O2 a w'->r.rd (λ b=>Mb b\/G' b) G' w' v->wpList P ops Q rest (a.put (some d) v) w'):wpList P ops Q (o::rest) a w:=by
 obtain⟨hgd,hd,hN⟩:=zK hh;refine av hgd λ K hK=>fb.wp (fb.mK (f:=f) (args:=(l.map a.eval).toArray) (w':=w) ?_ ?_)
 .unfold execOp;rw[ho];have e:a.eval (.func f)=.func _ #[] #[]:=rfl;simp[resolve,e,Deferred.ofValue,invoke,xq hf]
 .refine(hfn Mb w _ (λ b h1=>h.st.mok b (hb b h1)) (hx.all h.st.has)).mono λ en w' ⟨v',G',he,hex,hg',hv'⟩=>⟨v',he,?_⟩
  rw[hd];have h1:=h.kr (G':=G') hp ((Grown.kW hex).mono λ b hb=>hb.elim) (λ b hb=>⟨.inr (hg' b hb).1,(hg' b hb).2⟩) hk hq;exact hK _ _ (next G' _ _ _ (λ b hb=>hb.imp (λ h=>h.1) id) h1 hv')
theorem ArgsR.two(h:ArgsR M look l xs):ArgsR2 M M look l xs:=by
 induction h with
 | nil=>exact .nil
 | cons h r ih=>exact .cons h ih
theorem Sx.cN{ow:Ow α}{y:α}(h:Sx F N M0 M Gs L O a w)(p:Nat)
    (hx:ArgsR M (λ s=>(L++eB O).lookup s) l xr) (hfn:iF P f xr (.ow ow y)) 
  (ks:List Nat)  (qs:List Nat)  
  (next:∀{G' M' a' w'},Sx F N M0 M' (Gs.set p G') L2 ((d,p,eH ow G' y)::O2) a' w'->wpList P ops Q rest a' w')(hh:fH o N=some d:=by rfl)(ho:o.op=.call { callee:=.value (.func f),args:=l.toArray,argTypes:=ts }:=by rfl)(hp:p<Gs.length:=by simp)(hk:ff ks L=some L2:=by rfl)(hq:fi L O qs p=some O2:=by rfl)(hdn:L2.lookup d=none:=by rfl)(hf:gb P f=true:=by kernel_rfl):wpList P ops Q (o::rest) a w:=
 h.Aq p hh ho hf (λ _ h=>h) hx.two hfn hp ks hk qs hq λ G' M' v w' hM st hr=>next (st.iG (zK hh).2.2 hdn ((Rd.ow ow y).weak hr λ k _ hk=>hM k hk) λ b hb=>by rw[zf hp];exact hb)
def Full(o:Ow α):Prop:=∀ {M M' G:Nat->Prop} {w:World} {cs:List Value} {x:α},o.ro M G w cs x->o.ro M' G w cs x
theorem Sx.Lc{ow:Ow α}{y:α}(h:Sx F N M0 M Gs L O a w)(p:Nat)(hh:fH o N=some d)
  (ho:o.op=.call { callee:=.value (.func f),args:=l.toArray,argTypes:=ts }) (hf:gb P f=true) (hb:∀ b,Mb b->M b) (hx:ArgsR2 M Mb (λ s=>(L++eB O).lookup s) l xr) (hfn:iF P f xr (.ow ow y)) (hfu:Full ow) 
  (ks:List Nat) (hk:ff ks L=some L2) (qs:List Nat) (hq:fi L O qs p=some O2) (hdn:L2.lookup d=none)
  (next:∀ G' M' a' w',Sx F N M0 M' (Gs.set p G') L2 ((d,p,eH ow G' y)::O2) a' w'->wpList P ops Q rest a' w')(hp:p<Gs.length:=by simp):wpList P ops Q (o::rest) a w:=
 h.Aq p hh ho hf hb hx hfn hp ks hk qs hq λ G' M' v w' _ st hr=>next G' M' _ w' (st.iG (zK hh).2.2 hdn (let⟨cs,h1,h2⟩:=hr;⟨cs,hfu h1,h2⟩) λ b hb=>by rw[zf hp];exact hb)
theorem nn{ow:Ow α}{x:α}(ob:mg F M0 M Gs)(p:Nat)(h:eC M look q (eJ ow G x v0 cf))(hG:∀ b,G b->zj Gs p b:=by exact λ _ h=>h):nx M M0 look q (dt x):=
 λ w a hl=>by
  obtain⟨h0,⟨cs,h1,h2⟩,_⟩:=h w a hl;exact⟨cs,ey.weak (ow.toR h1) λ b _ hb=>⟨ob.sub b hb,λ hg=>(ob.at_ p b (hG b hg)).2.2 hb⟩,h0.trans h2⟩
theorem Sx.Le{y:β}(h:Sx F N M0 M Gs L O a w)(p:Nat)(hh:fH o N=some d)
  (ho:o.op=.call { callee:=.value (.func f),args:=(q::l).toArray,argTypes:=ts }) (hf:gb P f=true) (hy:(eH oy G1 y).rd M w (a.eval q)) (hG1:∀ b,G1 b->zj Gs p b) (hp:p<Gs.length) (hx:ArgsR M (λ s=>(L++eB O).lookup s) l xr) (hfn:fP P f oy y xr y' r)
  (ks:List Nat) (hk:ff ks L=some L2) (qs:List Nat) (hq:fi L O qs p=some O2)
  (next:∀ G' Gr M' v w',Sx F N M0 M' (Gs.set p (λ b=>((zj Gs p b/\¬ G1 b)\/G' b)\/Gr b)) L2 O2 a w'->(∀ G2:Nat->Prop,(∀ b,G2 b->¬ G1 b)->iq M G2 w M' w')->(∀ b,G' b->G1 b\/w.heap.size<=b)->(∀ b,Gr b->G1 b\/w.heap.size<=b)->(∀ b,G' b->¬ Gr b)->
   (eH oy G' y').rd M' w' (a.eval q)->r.rd M' Gr w' v->wpList P ops Q rest (a.put (some d) v) w'):wpList P ops Q (o::rest) a w:=by
 obtain⟨hgd,hd,hN⟩:=zK hh;have hGM:=λ b hb=>(h.ob.at_ p b (hG1 b hb)).2.1
 refine av hgd λ K hK=>fb.wp (fb.mK (f:=f) (args:=((q::l).map a.eval).toArray) (w':=w) ?_ ?_)
 .unfold execOp;rw[ho];have e:a.eval (.func f)=.func _ #[] #[]:=rfl;simp[resolve,e,Deferred.ofValue,invoke,xq hf]
 .have hM:∀ k,((M k/\¬ G1 k)\/G1 k) ↔ M k:=λ k=>by
   refine⟨λ hk=>hk.elim (λ h=>h.1) (hGM k),λ hk=>?_⟩;by_cases e:G1 k
   .exact .inr e
   .exact .inl ⟨hk,e⟩
  rw[cM];refine(hfn (λ b=>M b/\¬ G1 b) G1 w _ _ (λ b hb=>h.st.mok b ((hM b).1 hb)) (λ b hb hm=>hm.2 hb) ((eH oy G1 y).weak hy λ k _ hk=>(hM k).1 hk) ((hx.all h.st.has).weak λ k _ hk=>(hM k).1 hk)).mono λ en w' ⟨u,G',Gr,he,hgr,i1,i2,i3,i4,hv',hu⟩=>⟨u,he,?_⟩
  rw[hd];have h1:=h.kr (G':=λ b=>((zj Gs p b/\¬ G1 b)\/G' b)\/Gr b) hp (hgr.mono hG1) (λ b hb=>by
   rcases hb with(hb | hb) | hb
   .exact⟨.inl hb.1,ay (h.st.mok b (h.ob.at_ p b hb.1).2.1) hgr.size⟩
   .exact⟨(i1 b hb).imp (hG1 b) id,i4 b (.inl hb)⟩
   .exact⟨(i2 b hb).imp (hG1 b) id,i4 b (.inr hb)⟩) hk hq
  have hM':∀ k,(M k/\¬ zj Gs p k)\/((zj Gs p k/\¬ G1 k)\/G' k)\/Gr k->((M k/\¬ G1 k)\/G' k)\/Gr k:=λ k hk=>by
   rcases hk with hk | (hk | hk) | hk
   .exact .inl (.inl ⟨hk.1,λ e=>hk.2 (hG1 k e)⟩)
   .exact .inl (.inl ⟨(h.ob.at_ p k hk.1).2.1,hk.2⟩)
   .exact .inl (.inr hk)
   .exact .inr hk
  refine hK _ _ (next G' Gr _ _ _ h1 (λ G2 hd2=>⟨λ k hk hm=>?_,λ k hk hm=>hgr.block k hk λ e=>hm.elim (λ hm=>hm (hGM k e)) λ hm=>hd2 k hm e⟩) i1 i2 i3 ((eH oy G' y').weak hv' λ k _ hk=>hM' k hk) (r.weak hu λ k _ hk=>hM' k hk));rcases hM' k hm with(h2 | h2) | h2
  .exact h2.1
  .exact(i1 k h2).elim (hGM k) λ h=>by omega
  .exact(i2 k h2).elim (hGM k) λ h=>by omega
end
section
variable{fn:Func}{T:Prop}
variable{α β γ:Type}[ey α][ey β][ey γ]{look:Nat->Option Dt}
structure nu(M:Nat->Prop)(w:World)(Gs:List (Nat->Prop))(p:Nat)(u:Value)(sv:Value)(oy:Ow β)(y y':β)(mk:(Nat->Prop)->Dt):Prop where
 ex:∃ G1,(∀ b,G1 b->zj Gs p b)/\(eH oy G1 y).rd M w u/\(∀ {G' M':Nat->Prop} {w':World} {G'':Nat->Prop},(∀ G2:Nat->Prop,(∀ b,G2 b->¬ G1 b)->iq M G2 w M' w')->(∀ b,G' b->G1 b\/w.heap.size<=b)->(eH oy G' y').rd M' w' u->(∀ b,(zj Gs p b/\¬ G1 b)\/G' b->G'' b)->(mk G'').rd M' w' sv)
 own:∀ G'' b,(mk G'').own b->G'' b
variable{oo:Ow α}{oy:Ow β}{y':β}
theorem Sx.K7{y:β}(h:Sx F N M0 M Gs L O a w)(hs:(L++eB O).lookup s=some (eH oy G y))(hG:∀ b,G b->zj Gs p b):nu M w Gs p (Act.at a s) (Act.at a s) oy y y' (λ G''=>eH oy G'' y'):=
 ⟨⟨G,hG,h.st.has s _ hs,λ _ _ hr hs=>(Rd.ow oy y').more hr λ b hb=>hs b (.inr hb)⟩,λ _ _ h=>h⟩
theorem Sx.lr{y:β}(h:Sx F N M0 M Gs L O a w)(hs:(L++eB O).lookup s=some (eJ oy G y v0 cf):=by rfl)(hG:∀ b,G b->zj Gs p b:=by exact λ _ h=>h):nu M w Gs p (Act.at a s) (Act.at a s) oy y y' (λ G''=>eJ oy G'' y' v0 []):=by
 obtain⟨h1,⟨cs,h2,h3⟩,_⟩:=h.st.has s _ hs;refine⟨⟨G,hG,⟨cs,h2,h1.trans h3⟩,λ _ _ hr hs=>?_⟩,λ _ _ h=>h⟩;obtain⟨c',h4,h5⟩:=hr;exact⟨h1,⟨c',oy.more h4 λ b hb=>hs b (.inr hb),h1.symm.trans h5⟩,λ q hq _=>by cases hq⟩
theorem BZ{cs:List Value}{y:β}(h:oy.ro M G w cs y)(ha:ey.agg β=false):∃ u,cs=[u]/\gI (ey.agg β) cs=u:=by
 have hl:=oy.len h;rw[ey.one ha] at hl
 match cs,hl with
 | [u],_=>exact⟨u,Z,by rw[ha];rfl⟩
theorem Sx.mE{ow:Ow α}{x:α}{y:β}{upd:β->α}(h:Sx F N M0 M Gs L O a w)(hP:PH ow x v0 cf oy b off y upd)(hm:(c,b,off,u)∈cf)(hc:c=true)(hf:Fits β u)(hs:(L++eB O).lookup sb=some (eJ ow G x v0 cf))(hG:∀ b,G b->zj Gs p b):nu M w Gs p u (Act.at a sb) oy y y' (λ G''=>eJ ow G'' (upd y') v0 []):=by
 obtain⟨h1,⟨cs,h2,h3⟩,h4⟩:=h.st.has sb _ hs;obtain⟨C,e,hh,hsz,_,G1,G2,s1,s2,hd,_,_,hr,put⟩:=(hP.of h2 h3 h4).here;have hu:=rF hf hh hsz (h4 _ hm hc).2.2;refine⟨⟨G1,λ b hb=>hG b (s1 b hb),⟨_,hr,hu⟩,λ{G' M' w' G''} hL hG' hr' hs'=>?_⟩,λ _ _ h=>h⟩;obtain⟨c',h5,h6⟩:=hr';have e:c'=(C.toList.drop off).take (ey.size β):=by
  have e1:=bu (λ v=>v.cells.toList) (h6.symm.trans hu);simp[ZS (oy.toR h5),ZS (oy.toR hr)] at e1;exact e1
 rw[e] at h5;have hlt:=λ b hb=>h.st.mok b (h.ob.at_ p b (hG b hb)).2.1
 exact⟨h1,⟨cs,put (G'':=G'') (hL G2 λ b hb hb1=>hd b hb1 hb) h5 (λ k hk hk2=>(hG' k hk).elim (λ e=>hd k e hk2) λ e=>by have:=hlt k (s2 k hk2);omega) (λ k hk=>hs' k (.inr hk)) (λ k hk=>hs' k (.inl ⟨hG k (s2 k hk),λ e=>hd k e hk⟩)),h3⟩,λ q hq _=>by cases hq⟩
theorem mw{ow:Ow α}{x:α}{y:β}{upd:β->α}(ob:mg F M0 M Gs)(p:Nat)(hP:PH ow x v0 cf oy b off y upd)(hm:(c,b,off,u)∈cf)(hc:c=true)(hf:Fits β u)(hq:eC M look q (fk u))(hs:look sb=some (eJ ow G x v0 cf))(hG:∀ b,G b->zj Gs p b:=by exact λ _ h=>h):nx M M0 look q (dt y):=
 λ w a hl=>by
  obtain⟨h1,⟨cs,h2,h3⟩,h4⟩:=hl sb _ hs;obtain⟨C,e,hh,hsz,_,G1,G2,s1,s2,hd,_,_,hr,put⟩:=(hP.of h2 h3 h4).here;have hu:=rF hf hh hsz (h4 _ hm hc).2.2;have hv:=hq w a hl;exact⟨_,ey.weak (oy.toR hr) λ b _ hb=>⟨ob.sub b hb,λ hg=>(ob.at_ p b (hG b (s1 b hg))).2.2 hb⟩,hv.trans hu⟩
theorem Sx.kV{y:β}{mk:(Nat->Prop)->Dt}(h:Sx F N M0 M Gs L O a w)(p:Nat)(bk:nu M w Gs p u (Act.at a sb) oy y y' mk)(hh:fH o N=some d)
  (ho:o.op=.call { callee:=.value (.func f),args:=(q::l).toArray,argTypes:=ts }) (hf:gb P f=true) (hqv:a.eval q=u) (hp:p<Gs.length) (hx:ArgsR M (λ s=>(L++eB O).lookup s) l xr) (hfn:fP P f oy y xr y' (.eE yd))
  (ks:List Nat) (hk:ff ks L=some L2) (qs:List Nat) (hq:fi L O qs p=some O2) (hsn:L2.lookup sb=none) (hne:sb≠d)
  (next:∀{G'' M' a' w'},Sx F N M0 M' (Gs.set p G'') ((d,yd)::L2) ((sb,p,mk G'')::O2) a' w'->wpList P ops Q rest a' w'):wpList P ops Q (o::rest) a w:=by
 subst hqv;obtain⟨G1,hG1,hy,back⟩:=bk.ex;refine h.Le p hh ho hf hy hG1 hp hx hfn ks hk qs hq λ G' Gr M' v w' st hL hG' _ _ hr hres=>?_
 have h1:=st.gu (x:=mk (λ b=>_\/Gr b)) hsn (back hL hG' hr λ b hb=>.inl hb) λ b hb=>by rw[zf hp];exact bk.own _ b hb
 exact next (h1.nY (zK hh).2.2 hres.1 hres.2)
theorem mW{c:Code}(n:Nat)(hf:P.funcs[f]?=some fn)(hb:fn.body=some c)(hnb:W2 (zL 0 xs)=true)
  (h:∀ (M:Nat->Prop) (w:World) (a:Act),Sx (eG.of w) fn.ntmps M M (List.replicate n (eA none)) (zL 0 xs) [] a w->c.wp P (bodyPost P fn (ux M w r)) a w)(hn:xs.length<=fn.ntmps:=by exact oD Z):iF P f xs r:=by
 intro M w vs hm hr;refine cU hf hb (h M w _ (.start n ?_ hnb));have hl:=hr.len;refine⟨eh _ _,by simp;omega,Z,hm,λ s x hs=>?_⟩;obtain⟨j,u,h1,h2,h3⟩:=hr.nth 0 s x hs;have h4:Act.at { tmps:=vs.toArray++Array.replicate (fn.ntmps - vs.toArray.size) undef,defers:=[] } s=u:=by
  have hj:=(ai.1 h2).1;have h5:vs.toArray[j]?=some u:=by simpa using h2
  have hj':j<vs.toArray.size:=by simpa using hj
  have:s=j:=by omega
  subst this;simp[Act.at];rw[bc hj',h5];rfl
 rw[h4];exact h3
theorem Fa{c:Code}{x x':α}(p n:Nat)(hf:P.funcs[f]?=some fn)(hb:fn.body=some c)(hn:rs.length+1<=fn.ntmps)(hnb:W2 (zL 1 rs)=true)
  (h:∀ (M G:Nat->Prop) (w:World) (v:Value) (a:Act),Act.at a 0=v->Sx (eG.ft w G) fn.ntmps M (λ b=>M b\/G b) ((List.replicate n (eA none)).set p G) (zL 1 rs) [(0,p,eH oo G x)] a w->c.wp P (bodyPost P fn (ko M w G v oo x' r)) a w) (hp:p<n):fP P f oo x rs x' r:=by
 intro M0 G w v vs hm hg hv hr;have hra:RdAll (λ b=>M0 b\/G b) w (v::vs) _:=.cons hv hr;have hl:=hra.len;have hnth:∀ s y,(zL 0 _).lookup s=some y->y.rd (λ b=>M0 b\/G b) w (Act.at { tmps:=(v::vs).toArray++Array.replicate _ undef,defers:=[] } s):=λ s y hs=>by
  obtain⟨j,u,h1,h2,h3⟩:=hra.nth 0 s y hs;have hj:=(ai.1 h2).1;have h5:(v::vs).toArray[j]?=some u:=by simpa using h2
  have hj':j<(v::vs).toArray.size:=by simpa using hj
  have:s=j:=by omega
  subst this;have h4:Act.at { tmps:=(v::vs).toArray++Array.replicate (fn.ntmps - (v::vs).toArray.size) undef,defers:=[] } s=u:=by
   simp[Act.at];rw[bc hj',h5];rfl
  rw[h4];exact h3
 have hlen:p<(List.replicate n (eA none)).length:=by simpa using hp
 have hown:∀ q b,zj ((List.replicate n _).set p G) q b ↔ q=p/\G b:=λ q b=>by
  by_cases hq:p=q
  .subst hq;rw[zf hlen];simp
  .rw[zq hq];exact⟨λ h=>(Qx h).elim,λ h=>(hq h.1.symm).elim⟩
 refine cU hf hb (h M0 G w v _ ?_ ?_)
 .simp[Act.at];rw[bc (by simp)];simp
 .refine⟨⟨Grown.refl _ _,by simp at hl ⊢;omega,Z,hm,λ s y hy=>?_⟩,⟨λ b hb=>.inl hb,λ q b hb=>?_,λ q r b hne h1 h2=>hne (((hown q b).1 h1).1.trans ((hown r b).1 h2).1.symm)⟩,Wl hnb,⟨λ b hb=>(hown p b).2 ⟨Z,hb⟩,trivial⟩⟩
  .have hk:∀ (i:Nat) (rs:List Dt) (s:Nat) (x:Dt),(zL i rs).lookup s=some x->i<=s:=λ i rs=>by
    induction rs generalizing i with
    | nil=>intro s x h;simp[zL] at h
    |cons y rs ih=>
     intro s x h;simp only[zL,af] at h;by_cases he:s=i
     .omega
     .have hb:(s == i)=false:=by simpa using he
      simp[hb] at h;have:=ih _ s x h;omega
   refine hnth s y ?_;simp only[zL,af];rcases yw hy with h1 | ⟨_,h1⟩
   .have:=hk _ _ _ _ h1;have hb:(s == 0)=false:=by simpa using(by omega:¬ s=0)
    simp[hb];exact h1
   .simp only[eB,af,dL] at h1;cases hb:s == 0 with
    | true=>simp only[hb] at h1;exact h1
    | false=>simp only[hb] at h1;cases h1
  .obtain⟨rfl,hb'⟩:=(hown q b).1 hb;exact⟨.inl hb',.inr hb',hg b hb'⟩
theorem vO:∀ {i:Nat} {rs:List Dt},(zL (i+1) rs).lookup 0=none
 | _,[]=>rfl
 |i,_::rs=>by
  simp only[zL,af];have hb:(0 == i+1)=false:=by simp
  rw[hb];exact vO
theorem vJ{n:Nat}(hp:p<n):∀ b,G b->zj ((List.replicate n (eA none)).set p G) p b:=λ b hb=>by rw[zf (by simpa using hp)];exact hb
theorem vP:(zL 1 rs++eB [(0,p,X)]).lookup 0=some X:=by rw[yi vO];simp[eB]
theorem kI{c:Code}{x x':Bx α}(p n:Nat)(hf:P.funcs[f]?=some fn)(hb:fn.body=some c)(hnb:W2 (zL 1 rs)=true)
  (h:∀ (M G:Nat->Prop) (w:World) (b:Nat) (a:Act),Sx (eG.ft w G) fn.ntmps M (λ b=>M b\/G b) ((List.replicate n (eA none)).set p G) (zL 1 rs) [(0,p,eJ oo.box G x (.pointer (some ⟨b,0,none⟩)) [])] a w->c.wp P (bodyPost P fn (ko M w G (.pointer (some ⟨b,0,none⟩)) oo.box x' r)) a w) (hp:p<n:=by decide)(hn:rs.length+1<=fn.ntmps:=by exact oD Z):fP P f oo.box x rs x' r:=
 Fa p n hf hb hn hnb (λ M G w v a hv st=>st.ie p (hs:=vP) (hn:=vO) (hG:=(vJ hp)) [] λ b st'=>by
  have e:v=.pointer (some ⟨b,0,none⟩):=by rw[<-hv];exact(st'.st.has 0 _ vP).1
  rw[e];exact h M G w b a st') hp
theorem uL{c:Code}{x x':List α}(p n:Nat)(hf:P.funcs[f]?=some fn)(hb:fn.body=some c)(hnb:W2 (zL 1 rs)=true)
  (h:∀ (M G:Nat->Prop) (w:World) (g:Nat) (A:Option Addr) (cap:Nat) (a:Act),(x.length≠0->A=some ⟨g,0,none⟩)->Sx (eG.ft w G) fn.ntmps M (λ b=>M b\/G b) ((List.replicate n (eA none)).set p G) (zL 1 rs) [(0,p,eJ (Ow.row e oo) G x (.slice A x.length cap) [])] a w->c.wp P (bodyPost P fn (ko M w G (.slice A x.length cap) (Ow.row e oo) x' r)) a w) (hp:p<n:=by decide)(hn:rs.length+1<=fn.ntmps:=by exact oD Z):fP P f (Ow.row e oo) x rs x' r:=
 Fa p n hf hb hn hnb (λ M G w v a hv st=>st.iQ p (hs:=vP) (hn:=vO) (hG:=(vJ hp)) [] λ g A cap hA st'=>by
  have e:v=.slice A x.length cap:=by rw[<-hv];exact(st'.st.has 0 _ vP).1
  rw[e];exact h M G w g A cap a hA st') hp
theorem Sx.pS{ow:Ow α}{t:Nat}{x r:α}(h:Sx (eG.of w0) N M0 M Gs L O a w)(p:Nat)(hm:some x=some r)(hr:fn.results=#[.tmp t]:=by rfl)(hl:(L++eB O).lookup t=some (eH ow G x):=by rfl)(hG:∀ b,G b->zj Gs p b:=by exact λ _ h=>h):bodyPost P fn (ux M0 w0 (.ow ow r)) .ret a w:=by
 injection hm with hm;subst hm;exact⟨h.st.defers,_,cV hr a.tmps P w,_,G,Z,h.st.fr,λ b hb=>⟨(h.ob.at_ p b (hG b hb)).1,h.st.mok b (h.ob.at_ p b (hG b hb)).2.1⟩,(eH ow G x).weak (h.st.has t _ hl) λ k _ hk=>hk.elim (h.ob.sub k) λ hk=>(h.ob.at_ p k (hG k hk)).2.1⟩
theorem Sx.ui{ow:Ow α}{t:Nat}{x:Bx α}{r:α}(h:Sx (eG.of w0) N M0 M Gs L O a w)(p:Nat)(hm:some x.x=some r)(hr:fn.results=#[.cell t ty]:=by rfl)(hl:(L++eB O).lookup t=some (eJ ow.box G x v0 cf):=by rfl)(hG:∀ b,G b->zj Gs p b:=by exact λ _ h=>h)(ht:fM P ty (ey.agg α) (ey.size α)=true:=by kernel_rfl):bodyPost P fn (ux M0 w0 (.ow ow r)) .ret a w:=by
 injection hm with hm;subst hm;obtain⟨h1,⟨cs,⟨b,C,e,Gr,hc,hb,hGb,hn,hs,hro⟩,h3⟩,_⟩:=h.st.has t _ hl;have hrr:=ow.toR hro;have hc':∀ j u,C.toList[j]?=some u->w.cell? ⟨b,0+j,none⟩=some u:=λ j u hj=>by
  rw[aD];have:C[j]?=some u:=by simpa using hj
  simp[World.cell?,hb,this]
 have hld:=yA ht (ey.len hrr) ey.one hc';have hv:Act.at a t=.pointer (some ⟨b,0,none⟩):=by rw[h1,h3,hc];rfl
 refine⟨h.st.defers,gI _ C.toList,?_,_,Gr,Z,h.st.fr,λ k hk=>⟨(h.ob.at_ p k (hG k (hs k hk))).1,h.st.mok k (h.ob.at_ p k (hG k (hs k hk))).2.1⟩,⟨_,ow.weak hro λ k _ hk=>hk.elim (h.ob.sub k) λ hk=>(h.ob.at_ p k (hG k (hs k hk))).2.1,Z⟩⟩;have h2:a.tmps.getD t undef=.pointer _:=hv;simp[results,hr];simp at h2;simp[h2,asAddr,hld]
theorem Sx.si{t:Nat}{x xr:α}{y yr:β}(h:Sx (eG.ft w0 G) N M0 M Gs L O a w)(p:Nat)
  (hm:some (x,y)=some (xr,yr)) (hfl:Flat (dt y))(hr:fn.results=#[.tmp t]:=by rfl)(hl:(L++eB O).lookup t=some (dt y):=by rfl)(hs:(L++eB O).lookup s=some (eJ oo G' x v0 cf):=by rfl)(hG:∀ b,G' b->zj Gs p b:=by exact λ _ h=>h):bodyPost P fn (ko M0 w0 G v0 oo xr (.eE (dt yr))) .ret a w:=by
 injection hm with hm;injection hm with h1 h2;subst h1;subst h2;obtain⟨k1,⟨cs,k2,k3⟩,_⟩:=h.st.has s _ hs;exact⟨h.st.defers,_,cV hr a.tmps P w,_,G',noB,Z,h.st.fr,λ b hb=>(h.ob.at_ p b (hG b hb)).1,λ _ h=>h.elim,λ _ _ h=>h,λ b hb=>hb.elim (λ hb=>h.st.mok b (h.ob.at_ p b (hG b hb)).2.1) λ h=>h.elim,
  ⟨cs,oo.weak k2 λ k _ hk=>hk.elim (λ hk=>hk.elim (h.ob.sub k) λ hk=>(h.ob.at_ p k (hG k hk)).2.1) λ h=>h.elim,k3⟩,hfl _ _ _ _ (h.st.has t _ hl),Z⟩
theorem Sx.nr{ow:Ow α}{t:Nat}{x:Bx α}(h:Sx F N M0 M Gs L O a w)(p:Nat)
  (ks:List Nat)  (qs:List Nat)  
  (next:∀{a' w'},Sx F N M0 M Gs L2 ((d,p,eH ow G x.x)::O2) a' w'->wpList P ops Q rest a' w')(hh:fH o N=some d:=by rfl)(ho:o.op=.load t (.tmp sb):=by rfl)(hsl:(L++eB O).lookup sb=some (eJ ow.box G x v0 cf):=by rfl)(hp:p<Gs.length:=by simp)(hG:∀ b,G b->zj Gs p b:=by exact λ _ h=>h)(hk:ff ks L=some L2:=by rfl)(hq:fi L O qs p=some O2:=by rfl)(hdn:L2.lookup d=none:=by rfl)(ht:fM P t (ey.agg α) (ey.size α)=true:=by kernel_rfl):wpList P ops Q (o::rest) a w:=by
 obtain⟨hgd,hd,hN⟩:=zK hh;obtain⟨h1,⟨cs,⟨b,C,e,Gr,hc,hb,hGb,hn,hs,hro⟩,h3⟩,_⟩:=h.st.has sb _ hsl;have hrr:=ow.toR hro;have hc':∀ j u,C.toList[j]?=some u->w.cell? ⟨b,0+j,none⟩=some u:=λ j u hj=>by
  rw[aD];have:C[j]?=some u:=by simpa using hj
  simp[World.cell?,hb,this]
 have hld:=yA ht (ey.len hrr) ey.one hc';refine av hgd λ K hK=>fb.wp (fb.iw (v:=gI (ey.agg α) C.toList) (w':=w) ?_ ?_)
 .unfold execOp;rw[ho];have hev:a.eval (.tmp sb)=.pointer (some ⟨b,0,none⟩):=by
   have:Act.at a sb=.pointer (some ⟨b,0,none⟩):=by rw[h1,h3,hc];rfl
   exact this
  simp[Instr.loadAt,Instr.sureAddr,hev,hld]
 .rw[hd];have h1:=h.kE hp (Grown.refl _ w) hk hq;exact hK _ _ (next (h1.iG hN hdn ⟨_,ow.more hro hs,Z⟩ λ b hb=>hG b hb))
end
variable{α β:Type}
theorem Ow.gB[ey α]{o:Ow α}(M:Nat->Prop)(w:World):(Ow.row e o).ro M noB w jJ []:=⟨_,Z,.inr ⟨Z,none,Z⟩⟩
theorem Ow.lu[ey α][ey β]{a:Ow α}{b:Ow β}{x:α}{y:β}(h1:a.ro M noB w c1 x)(h2:b.ro M noB w c2 y):(a.pr b).ro M noB w (c1++c2) (x,y):=⟨noB,noB,c1,c2,λ _ h=>h,λ _ h=>h,λ _ h=>h.elim,Z,h1,h2⟩
theorem N8:Full (Ow.eE (α:=Int)):=λ h=>h
theorem Fe{α:Type}[ey α]{o:Ow α}(h1:Full o){M M':Nat->Prop}{w:World}:∀ {xs:List α} {G:Nat->Prop} {cells:List Value},iK o M G w cells xs->iK o M' G w cells xs
 | [],_,_,h=>h
 | _::_,_,_,⟨G1,G2,c,r,s1,s2,hd,h,k1,k2⟩=>⟨G1,G2,c,r,s1,s2,hd,h,h1 k1,Fe h1 k2⟩
theorem Fc[ey α]{o:Ow α}(h1:Full o):Full (Ow.row e o):=λ⟨v,hv,h⟩=>⟨v,hv,h.imp (λ⟨g,cap,cur,Gr,hg,hh,h4,h5,h6,hG,hn,hs,hr⟩=>⟨g,cap,cur,Gr,hg,hh,h4,h5,h6,hG,hn,hs,Fe h1 hr⟩) id⟩
theorem eF.pc[ey α][ey β]:eF (Ow.eE (α:=α×β)) (Ow.eE (α:=α)) (λ x:α×β=>x.1) (λ y x=>(y,x.2)) 0:=⟨λ{M G w cs x} ⟨c1,c2,h,h1,h2⟩=>by
 have hl:=ey.len h1;have e1:(cs.drop 0).take (ey.size α)=c1:=by rw[bR,h,<-hl,da]
 rw[e1];refine⟨noB,noB,λ _ h=>h.elim,λ _ h=>h.elim,λ _ _ h=>h,h1,λ{M' G3 G' w' c' y} hL hy _ _ _=>⟨c',c2,?_,hy,ey.later h2 hL⟩⟩;rw[ca,bb,aD,h,<-hl,bZ]⟩
theorem eF.ix{γ:Type}[ey α][ey β][ey γ]{get:β->γ}{set:γ->β->β}(f:eF (Ow.eE (α:=β)) (Ow.eE (α:=γ)) get set off):eF (Ow.eE (α:=α×β)) (Ow.eE (α:=γ)) (λ x:α×β=>get x.2) (λ y x=>(x.1,set y x.2)) (ey.size α+off):=⟨λ{M G w cs x} ⟨c1,c2,h,h1,h2⟩=>by
 have hl:=ey.len h1;obtain⟨H1,H2,t1,t2,hd2,k1,k3⟩:=f.foc h2;have e1:cs.drop (ey.size α+off)=c2.drop off:=by rw[h,<-hl,<-bO,bZ]
 have e2:cs.drop (ey.size α+off+ey.size γ)=c2.drop (off+ey.size γ):=by rw[h,<-hl,bJ,<-bO,bZ]
 have e3:cs.take (ey.size α+off)=c1++c2.take off:=by
  rw[h,<-hl,cl,aM (by omega)]
  congr 2
  omega
 rw[e1];refine⟨H1,H2,t1,t2,hd2,k1,λ{M' G3 G' w' c' y} hL hy h3 h4 h5=>⟨c1,_,?_,ey.later h1 hL,k3 hL hy h3 h4 h5⟩⟩;rw[e2,e3];simp⟩
theorem Stmt.z0:eF (Ow.eE (α:=Stmt)) (Ow.eE (α:=Int)) (λ x:Stmt=>x.kind) (λ y x=>{ x with kind:=y }) 0:=⟨λ h=>(eF.pc).foc h⟩
theorem Stmt.z1:eF (Ow.eE (α:=Stmt)) (Ow.eE (α:=Str)) (λ x:Stmt=>x.module) (λ y x=>{ x with module:=y }) 1:=⟨λ h=>((eF.ix eF.pc)).foc h⟩
theorem Stmt.z2:eF (Ow.eE (α:=Stmt)) (Ow.eE (α:=Int)) (λ x:Stmt=>x.level) (λ y x=>{ x with level:=y }) 2:=⟨λ h=>((eF.ix (eF.ix eF.pc))).foc h⟩
theorem Stmt.z3:eF (Ow.eE (α:=Stmt)) (Ow.eE (α:=Str)) (λ x:Stmt=>x.name) (λ y x=>{ x with name:=y }) 3:=⟨λ h=>((eF.ix (eF.ix (eF.ix eF.pc)))).foc h⟩
theorem Stmt.z4:eF (Ow.eE (α:=Stmt)) (Ow.eE (α:=Int)) (λ x:Stmt=>x.value) (λ y x=>{ x with value:=y }) 4:=⟨λ h=>((eF.ix (eF.ix (eF.ix (eF.ix eF.id))))).foc h⟩
theorem File.z4:eF (Ow.eE (α:=File)) (Ow.eE (α:=Int)) (λ x:File=>x.stamp) (λ y x=>{ x with stamp:=y }) 4:=⟨λ h=>((eF.ix (eF.ix (eF.ix (eF.ix eF.pc))))).foc h⟩
theorem File.z5:eF (Ow.eE (α:=File)) (Ow.eE (α:=List Stmt)) (λ x:File=>x.body) (λ y x=>{ x with body:=y }) 5:=⟨λ h=>((eF.ix (eF.ix (eF.ix (eF.ix (eF.ix eF.id)))))).foc h⟩
theorem Tree.z0:eF (Ow.eE (α:=Tree)) (Ow.eE (α:=List File)) (λ x:Tree=>x.files) (λ y x=>{ x with files:=y }) 0:=⟨λ h=>(eF.id).foc h⟩
theorem eT.z2:eF (Ow.eE (α:=eT)) (Ow.eE (α:=Int)) (λ x:eT=>x.stamp) (λ y x=>{ x with stamp:=y }) 2:=⟨λ h=>((eF.ix (eF.ix eF.pc))).foc h⟩
theorem eT.z3:eF (Ow.eE (α:=eT)) (Ow.eE (α:=List Str)) (λ x:eT=>x.names) (λ y x=>{ x with names:=y }) 3:=⟨λ h=>((eF.ix (eF.ix (eF.ix eF.id)))).foc h⟩
theorem eU.z7:eF (Ow.eE (α:=eU)) (Ow.eE (α:=List Stmt)) (λ x:eU=>x.body) (λ y x=>{ x with body:=y }) 7:=⟨λ h=>((eF.ix (eF.ix (eF.ix (eF.ix (eF.ix (eF.ix (eF.ix eF.id)))))))).foc h⟩
theorem fI.z0:eF (Ow.eE (α:=fI)) (Ow.eE (α:=Str)) (λ x:fI=>x.name) (λ y x=>{ x with name:=y }) 0:=⟨λ h=>(eF.pc).foc h⟩
theorem fI.z1:eF (Ow.eE (α:=fI)) (Ow.eE (α:=fu)) (λ x:fI=>x.value) (λ y x=>{ x with value:=y }) 1:=⟨λ h=>((eF.ix eF.id)).foc h⟩
abbrev gF (a5:Ow (List Stmt)):Ow File:=Ow.via (λ(x:File)=>((x.root,x.pkg,x.name,x.init,x.stamp,x.body):Int×Str×Str×Bool×Int×List Stmt)) (Ow.pr (Ow.eE (α:=Int)) (Ow.pr (Ow.eE (α:=Str)) (Ow.pr (Ow.eE (α:=Str)) (Ow.pr (Ow.eE (α:=Bool)) (Ow.pr (Ow.eE (α:=Int)) a5)))))
theorem gF.f0:eF (gF a5) (Ow.eE (α:=Int)) (λ x:File=>x.root) (λ y x=>{ x with root:=y }) 0:=⟨λ h=>(eF.fst).foc h⟩
theorem gF.f1:eF (gF a5) (Ow.eE (α:=Str)) (λ x:File=>x.pkg) (λ y x=>{ x with pkg:=y }) 1:=⟨λ h=>((eF.snd eF.fst)).foc h⟩
theorem gF.f2:eF (gF a5) (Ow.eE (α:=Str)) (λ x:File=>x.name) (λ y x=>{ x with name:=y }) 2:=⟨λ h=>((eF.snd (eF.snd eF.fst))).foc h⟩
theorem gF.f3:eF (gF a5) (Ow.eE (α:=Bool)) (λ x:File=>x.init) (λ y x=>{ x with init:=y }) 3:=⟨λ h=>((eF.snd (eF.snd (eF.snd eF.fst)))).foc h⟩
theorem gF.f4:eF (gF a5) (Ow.eE (α:=Int)) (λ x:File=>x.stamp) (λ y x=>{ x with stamp:=y }) 4:=⟨λ h=>((eF.snd (eF.snd (eF.snd (eF.snd eF.fst))))).foc h⟩
theorem gF.f5:eF (gF a5) a5 (λ x:File=>x.body) (λ y x=>{ x with body:=y }) 5:=⟨λ h=>((eF.snd (eF.snd (eF.snd (eF.snd (eF.snd eF.id)))))).foc h⟩
theorem gF.z(h5:∀ (M:Nat->Prop) (w:World),a5.ro M noB w jJ [])(M:Nat->Prop)(w:World):(gF a5).ro M noB w tD vF:=(Ow.lu (qf M w) (Ow.lu (lY M w) (Ow.lu (lY M w) (Ow.lu (DD M w) (Ow.lu (qf M w) (h5 M w))))))
abbrev fV (a0:Ow (List File)):Ow Tree:=Ow.via (λ(x:Tree)=>(x.files:List File)) a0
theorem fV.f0{a0:Ow (List File)}:eF (fV a0) a0 (λ x:Tree=>x.files) (λ y x=>{ x with files:=y }) 0:=⟨λ h=>(eF.id).foc h⟩
theorem fV.z{a0:Ow (List File)}(h0:∀ (M:Nat->Prop) (w:World),a0.ro M noB w jJ [])(M:Nat->Prop)(w:World):(fV a0).ro M noB w pI jz:=(h0 M w)
abbrev iY (a3:Ow (List Str)):Ow eT:=Ow.via (λ(x:eT)=>((x.root,x.pkg,x.stamp,x.names):Int×Str×Int×List Str)) (Ow.pr (Ow.eE (α:=Int)) (Ow.pr (Ow.eE (α:=Str)) (Ow.pr (Ow.eE (α:=Int)) a3)))
theorem iY.f3:eF (iY a3) a3 (λ x:eT=>x.names) (λ y x=>{ x with names:=y }) 3:=⟨λ h=>((eF.snd (eF.snd (eF.snd eF.id)))).foc h⟩
theorem iY.z(h3:∀ (M:Nat->Prop) (w:World),a3.ro M noB w jJ [])(M:Nat->Prop)(w:World):(iY a3).ro M noB w Ii HA:=(Ow.lu (qf M w) (Ow.lu (lY M w) (Ow.lu (qf M w) (h3 M w))))
abbrev fJ (a0:Ow (Tree)) (a2:Ow (List eT)):Ow eK:=Ow.via (λ(x:eK)=>((x.tree,x.clock,x.dirs):Tree×Int×List eT)) (Ow.pr a0 (Ow.pr (Ow.eE (α:=Int)) a2))
theorem fJ.f1{a0:Ow (Tree)}:eF (fJ a0 a2) (Ow.eE (α:=Int)) (λ x:eK=>x.clock) (λ y x=>{ x with clock:=y }) 1:=⟨λ h=>((eF.snd eF.fst)).foc h⟩
theorem fJ.f2{a0:Ow (Tree)}:eF (fJ a0 a2) a2 (λ x:eK=>x.dirs) (λ y x=>{ x with dirs:=y }) 2:=⟨λ h=>((eF.snd (eF.snd eF.id))).foc h⟩
theorem fJ.z{a0:Ow (Tree)}(h0:∀ (M:Nat->Prop) (w:World),a0.ro M noB w pI jz)(h2:∀ (M:Nat->Prop) (w:World),a2.ro M noB w jJ [])(M:Nat->Prop)(w:World):(fJ a0 a2).ro M noB w CT xc:=(Ow.lu (h0 M w) (Ow.lu (qf M w) (h2 M w)))
abbrev gr (a0:Ow (List eT)):Ow fj:=Ow.via (λ(x:fj)=>((x.dirs,x.fills,x.hits):List eT×Int×Int)) (Ow.pr a0 (Ow.pr (Ow.eE (α:=Int)) (Ow.eE (α:=Int))))
theorem gr.f0:eF (gr a0) a0 (λ x:fj=>x.dirs) (λ y x=>{ x with dirs:=y }) 0:=⟨λ h=>(eF.fst).foc h⟩
theorem gr.f1:eF (gr a0) (Ow.eE (α:=Int)) (λ x:fj=>x.fills) (λ y x=>{ x with fills:=y }) 1:=⟨λ h=>((eF.snd eF.fst)).foc h⟩
theorem gr.f2:eF (gr a0) (Ow.eE (α:=Int)) (λ x:fj=>x.hits) (λ y x=>{ x with hits:=y }) 2:=⟨λ h=>((eF.snd (eF.snd eF.id))).foc h⟩
theorem gr.z(h0:∀ (M:Nat->Prop) (w:World),a0.ro M noB w jJ [])(M:Nat->Prop)(w:World):(gr a0).ro M noB w CW xb:=(Ow.lu (h0 M w) (Ow.lu (qf M w) (qf M w)))
abbrev hY (a1:Ow (File)):Ow GAct:=Ow.via (λ(x:GAct)=>((x.kind,x.file,x.index,x.name):Int×File×Int×Str)) (Ow.pr (Ow.eE (α:=Int)) (Ow.pr a1 (Ow.pr (Ow.eE (α:=Int)) (Ow.eE (α:=Str)))))
theorem hY.f0:eF (hY a1) (Ow.eE (α:=Int)) (λ x:GAct=>x.kind) (λ y x=>{ x with kind:=y }) 0:=⟨λ h=>(eF.fst).foc h⟩
theorem hY.f1:eF (hY a1) a1 (λ x:GAct=>x.file) (λ y x=>{ x with file:=y }) 1:=⟨λ h=>((eF.snd eF.fst)).foc h⟩
theorem hY.f2:eF (hY a1) (Ow.eE (α:=Int)) (λ x:GAct=>x.index) (λ y x=>{ x with index:=y }) 7:=⟨λ h=>((eF.snd (eF.snd eF.fst))).foc h⟩
theorem hY.f3:eF (hY a1) (Ow.eE (α:=Str)) (λ x:GAct=>x.name) (λ y x=>{ x with name:=y }) 8:=⟨λ h=>((eF.snd (eF.snd (eF.snd eF.id)))).foc h⟩
theorem hY.z(h1:∀ (M:Nat->Prop) (w:World),a1.ro M noB w tD vF)(M:Nat->Prop)(w:World):(hY a1).ro M noB w CU tb:=(Ow.lu (qf M w) (Ow.lu (h1 M w) (Ow.lu (qf M w) (lY M w))))
section
variable{T:Prop}
variable{α β γ:Type}[ey α][ey β][ey γ]{look:Nat->Option Dt}
theorem iF.fn{ow:Ow α}{y:α}(h:iF P f xs (.ow ow y)):Fn P f xs (dt y):=λ M w vs hm hr=>(h M w vs hm hr).mono λ en w' ⟨v,G,he,hex,hG,⟨cs,h1,h2⟩⟩=>
 ⟨v,he,hex,⟨cs,ey.weak (ow.toR h1) λ k hk hk2=>⟨.inl hk2,λ hg=>by have:=(hG k hg).1;have:=hm k hk2;omega⟩,h2⟩⟩
theorem Hl{xs:List α}(h:(eQ g e xs).rd M w v):(eH (Ow.row e Ow.eE) (eA g) xs).rd M w v:=by
 rcases h with⟨cells,hown,hrow,hb⟩ | ⟨hg,hx,A,hv⟩
 .rcases hown.2 with⟨h1,h2⟩ | ⟨b,cap,cur,h1,_,h3,h4,h5,h6,h7⟩
  .have hx:xs=[]:=au h2;exact⟨[v],⟨v,Z,.inr ⟨hx,none,h1⟩⟩,Z⟩
  .have hgb:g=some b:=by rw[<-hb,h1];rfl
   exact⟨[v],⟨v,Z,.inl ⟨b,cap,cur,noB,h1,h3,h4,h5,h6,hgb,λ h=>h,λ _ h=>h.elim,by rw[h7];exact QC hrow⟩⟩,Z⟩
 .exact⟨[v],⟨v,Z,.inr ⟨hx,A,hv⟩⟩,Z⟩
theorem NH{xs:List α}(h:(eH (Ow.row e Ow.eE) G xs).rd M w v):∃ g,(∀ b,g=some b->G b)/\(eQ g e xs).rd M w v:=by
 obtain⟨cs,⟨u,rfl,h3⟩,h2⟩:=h;have hv:v=u:=h2;subst hv;rcases h3 with⟨g,cap,cur,Gr,hg,hh,h4,h5,h6,hG,hn,hs,hr⟩ | ⟨hx,A,hA⟩
 .refine⟨some g,λ b hb=>by injection hb with hb;subst hb;exact hG,.inl ⟨_,⟨?_,.inr ⟨g,cap,cur,hg,aq _,hh,h4,h5,h6,Z⟩⟩,JM hr,by rw[hg];rfl⟩⟩;exact Aa hr
 .exact⟨none,⟨(λ b hb=>by cases hb),.inr ⟨rfl,hx,A,hA⟩⟩⟩
theorem kY.n{ys:List α}(h:kY P f xs e ys):iF P f xs (.ow (Ow.row e Ow.eE) ys):=λ M w vs hm hr=>(h M w vs hm hr).mono λ en w' ⟨v,g,he,hex,hg,hv⟩=>
 ⟨v,eA g,he,hex,λ b hb=>hg b hb,Hl ((eQ g e ys).weak hv λ k _ hk=>hk)⟩
theorem Sx.iO{xs:List α}(h:Sx F N M0 M Gs L O a w)(p:Nat)(qs:List Nat)(hs:(L++eB O).lookup s=some (eQ g e xs):=by rfl)(hn:L.lookup s=none:=by rfl)(hG:∀ b,g=some b->zj Gs p b:=by exact λ _ h=>h)(hq:fi L O qs p=some O2:=by rfl):
  Sx F N M0 M Gs L ((s,p,eH (Ow.row e Ow.eE) (eA g) xs)::O2) a w:=
 (h.drop hq).gu hn (Hl (h.st.has s _ hs)) hG
theorem Sx.shr{A:Nat->Prop}(h:Sx F N M0 M Gs L O a w)(hp:p<Gs.length)(hA:∀ b,A b->zj Gs p b)(hO:O.all (λ q=>q.2.1 != p)=true):Sx F N M0 M (Gs.set p A) L O a w:=by
 have key:∀ q b,zj (Gs.set p A) q b->zj Gs q b:=λ q b hb=>by
  by_cases h1:p=q
  .subst h1;rw[zf hp] at hb;exact hA b hb
  .rwa[zq h1] at hb
 refine h.ug (λ q b hb=>⟨q,key q b hb⟩) (λ q r b hne h1 h2=>h.ob.apart q r b hne (key q b h1) (key r b h2)) λ q hq b hb=>?_
 have h2:q.2.1≠p:=by simpa using am.1 hO q hq
 rw[zq (br h2)];exact h.ow.get q hq b hb
theorem Sx.kx{xs:List α}(h:Sx F N M0 M Gs L O a w)(p:Nat)(hp:p<Gs.length)(qs:List Nat)
  (next:∀ g,Sx F N M0 M (Gs.set p (eA g)) L ((s,p,eQ g e xs)::O2) a w->T)(hs:(L++eB O).lookup s=some (eH (Ow.row e Ow.eE) G xs):=by rfl)(hn:L.lookup s=none:=by rfl)(hG:∀ b,G b->zj Gs p b:=by exact λ _ h=>h)(hq:fi L O qs p=some O2:=by rfl)(hO:O2.all (λ q=>q.2.1 != p)=true:=by rfl):T:=by
 obtain⟨g,h1,h2⟩:=NH (h.st.has s _ hs);exact next g (((h.drop hq).shr (p:=p) hp (λ b hb=>hG b (h1 b hb)) hO).gu hn h2 λ b hb=>by rw[zf hp];exact hb)
theorem Sx.gS{ow:Ow α}{x:α}(h:Sx F N M0 M Gs L O a w)(p:Nat)(qs:List Nat)(hs:(L++eB O).lookup s=some (eJ ow G x v0 cf):=by rfl)(hn:L.lookup s=none:=by rfl)(hG:∀ b,G b->zj Gs p b:=by exact λ _ h=>h)(hq:fi L O qs p=some O2:=by rfl):
  Sx F N M0 M Gs L ((s,p,eJ ow G x v0 [])::O2) a w:=by
 obtain⟨h1,h2,_⟩:=h.st.has s _ hs;exact(h.drop hq).gu hn ⟨h1,h2,λ q hq _=>by cases hq⟩ hG
theorem Sx.Au{ow:Ow α}{x:α}(h:Sx F N M0 M Gs L O a w)(p:Nat)(hs:(L++eB O).lookup s=some (eH ow G x))(hG:∀ b,G b->zj Gs p b)(ks:List Nat)(hk:ff ks L=some L2)(qs:List Nat)(hq:fi L O qs p=some O2)(hO:O2.all (λ q=>q.2.1 != p)=true)(hp:p<Gs.length:=by simp):
  Sx F N M0 (λ b=>M b/\¬ zj Gs p b) (Gs.set p (eA none)) ((s,dt x)::L2) O2 a w:=by
 have h1:=h.kr (G':=eA none) hp (Grown.refl _ w) (λ b hb=>by cases hb) hk hq;have e:(λ b=>(M b/\¬ zj Gs p b)\/eA none b)=λ b=>M b/\¬ zj Gs p b:=by
  funext b
  simp[eA]
 rw[e] at h1;obtain⟨cs,k1,k2⟩:=h.st.has s _ hs;have hx:(dt x).rd (λ b=>M b/\¬ zj Gs p b) w (Act.at a s):=⟨cs,ey.weak (ow.toR k1) λ k _ hk=>⟨hk.1,λ hg=>hk.2 (hG k hg)⟩,k2⟩;refine⟨⟨h1.st.fr,h1.st.size,h1.st.defers,h1.st.mok,λ s' y hy=>?_⟩,h1.ob,λ s' y hy=>?_,h1.ow⟩
 .simp only[bG,af] at hy;by_cases he:s'=s
  .subst he;simp only[bd,Option.some.injEq] at hy;subst hy;exact hx
  .have hb:(s' == s)=false:=by simpa using he
   simp only[hb] at hy;exact h1.st.has s' y hy
 .simp only[af] at hy;split at hy
  .injection hy with hy;subst hy;rfl
  .exact h1.no s' y hy
end
section
variable{α β γ:Type}[ey α][ey β][ey γ]
def rb(P:Program)(g:α->Option β):Dt where
 rd M w v:=∃ (f:FuncId) (caps:List Value) (ds:List Dt),v=.func (.func f) #[] caps.toArray/\gb P f=true/\RdAll M w caps ds/\(∀ x∈ds,x.nb=true)/\∀ x y,g x=some y->Fn P f (dt x::ds) (dt y)
 own:=noB
 nb:=true
 nob _ _ h:=h
 stable:=by
  rintro M w w' v ⟨f,caps,ds,hv,hf,hr,hn,hg⟩ e
  exact⟨f,caps,ds,hv,hf,hr.stable hn e,hn,hg⟩
 weak:=by
  rintro M M' w v ⟨f,caps,ds,hv,hf,hr,hn,hg⟩ e
  exact⟨f,caps,ds,hv,hf,hr.weak e,hn,hg⟩
def AU(ds:List Dt):Bool:=ds.all (λ x=>x.nb)
theorem Kr(h:AU ds=true):∀ x∈ds,x.nb=true:=λ x hx=>am.1 h x hx
variable{look:Nat->Option Dt}
theorem Hw{g:α->Option β}(ho:o.op=.makeFunc (.func f) #[] l.toArray)(hf:gb P f=true)(hx:ArgsR M look l ds)(hn:AU ds=true)(hg:∀ x y,g x=some y->Fn P f (dt x::ds) (dt y)):eP P M look o (rb P g):=
 zz λ a w _ hl=>by
  refine⟨.func (.func f) #[] (l.map a.eval).toArray,?_,f,_,ds,Z,hf,hx.all hl,Kr hn,hg⟩;unfold execOp;rw[ho];simp[Instr.makeFunc]
theorem Hs{s:Operand}{g:α->Option β}{x:α}{y:β}(ho:o.op=.call { callee:=.value s,args:=#[q],argTypes:=ts })(hs:eC M look s (rb P g))(hq:eC M look q (dt x))(hg:g x=some y):eP P M look o (dt y):=
 λ a w hm hl=>by
  obtain⟨f,caps,ds,hv,hf,hr,hn,hk⟩:=hs w a hl;refine fb.mK (f:=f) (args:=(a.eval q::caps).toArray) (w':=w) ?_ ?_
  .unfold execOp;rw[ho];simp[resolve,hv,Deferred.ofValue,invoke,xq hf]
  .exact(hk x y hg M w _ hm (.cons (hq w a hl) hr)).mono λ e w' ⟨v,he,hx,hr⟩=>⟨v,he,hx,hr⟩
end
section
def sy(w:World)(e:TypeId)(size:Nat)(v:Value)(n:Nat)(g:Option Nat)(cells:List Value):Prop:=
 (w.ownsRow 0 e size v n cells/\v.ownBlock=g)\/(g=none/\n=0/\cells=[]/\∃ A,v=.slice A 0 0)
theorem UK{size:Nat}{n m:Nat}{cells:List Value}(hel:iH P t e size bytes=true)(hpos:0<size)(hv:sy w e size v n g cells)
  (hu:∃ A c,u=.slice A m c/\((m=0/\ycells=[])\/∃ b off,A=some ⟨b,off,none⟩/\iu w b off ycells)) (hyl:ycells.length=m*size) (hyo:∀ c∈ycells,c.oneCell'=true)
  (hsz:(n+m)*bytes<=140737488355328) (hml:n+m<=maxLen):
  ∃ v' w' g',(Builtin.append_ #[t,t] ty #[v,u]).run P w=.ok v' w'/\sy w' e size v' (n+m) g' (cells++ycells)/\w.grownBy w' g/\(g'=g\/∀ b,g'=some b->w.heap.size<=b)/\(∀ b,g'=some b->b<w'.heap.size):=by
 obtain⟨i,z,ht,hi,hz,hs1,hs2,hs3⟩:=Qv hel;obtain⟨A,c,hu',hc3⟩:=hu;subst hu';have hsl:∃ B cap,v=.slice B n cap/\n<=cap:=by
  rcases hv with⟨hown,_⟩ | ⟨_,h2,_,B,h3⟩
  .rcases hown.2 with⟨h1,h2⟩ | ⟨b,cap,cur,h1,_,_,h4,_⟩
   .exact⟨none,0,by rw[h1,h2],by omega⟩
   .exact⟨_,cap,h1,h4⟩
  .exact⟨B,0,by rw[h3,h2],by omega⟩
 have hvlt:∀ b,g=some b->b<w.heap.size:=λ b hb=>by
  rcases hv with⟨hown,hg⟩ | ⟨hg,_⟩
  .exact(hown.lt b (by rw[hg,hb])).2
  .rw[hg] at hb;cases hb
 by_cases hm0:m=0
 .subst hm0;have hy:ycells=[]:=au (by omega);subst hy;obtain⟨B,cap,hB,hcap⟩:=hsl;refine⟨v,w,g,?_,by rw[aO];exact hv,cR w _,.inl Z,hvlt⟩;rw[hB];cases A with
  | none=>exact Wk ht hi B n cap c hcap
  | some ad=>exact Y9 ht hi B ad n cap c hcap
 rcases hc3 with⟨hy,_⟩ | ⟨b,off,hA,hyc⟩
 .exact absurd hy hm0
 subst hA;have hycells:∀ j u,ycells[j]?=some u->w.cell? ((⟨b,off,none⟩:Addr).add j)=some u:=λ j u hj=>by rw[jI];exact hyc j u hj
 have own:w.ownsRow 0 e size v n cells->v.ownBlock=g->∃ v' w' g',(Builtin.append_ #[t,t] ty #[v,.slice (some ⟨b,off,none⟩) m c]).run P w=.ok v' w'/\sy w' e size v' (n+m) g' (cells++ycells)/\w.grownBy w' g/\(g'=g\/∀ b,g'=some b->w.heap.size<=b)/\(∀ b,g'=some b->b<w'.heap.size):=by
  intro hown hg;obtain⟨v',w',hrun,hown',hgr,_,hat⟩:=run_append_own_at (w:=w) 0 t ty e i z size bytes ht hi hz hs1 hs2 hs3 hpos v n cells hown ⟨b,off,none⟩ m c ycells hyl hycells hyo hml hsz (aq _);have hg':v'.ownBlock=g\/∀ k,v'.ownBlock=some k->w.heap.size<=k:=hat.imp (λ h=>by rw[h,hg]) (λ h k hk=>by rw[h] at hk;injection hk with hk;omega);rw[hg] at hgr;exact⟨v',w',v'.ownBlock,hrun,.inl ⟨hown',Z⟩,hgr,hg',λ k hk=>(hown'.lt k hk).2⟩
 rcases hv with⟨hown,hg⟩ | ⟨hg0,hn0,hc0,B,hv0⟩
 .exact own hown hg
 .subst hg0 hn0 hc0 hv0;cases B with
  | none=>exact own (World.ownsRow_nil w 0 e _) Z
  |some b0=>
   obtain⟨v',w',hrun,hown',hgr⟩:=dR (w:=w) t ty e i z size bytes ht hi hz hs1 hs2 hs3 hpos b0 0 0 [] (by simp) (λ j u h=>by simp at h) ⟨b,off,none⟩ m c ycells hyl hycells (by omega) (by simpa using hml) (by simpa using hsz);have hg':v'.ownBlock=none\/∀ k,v'.ownBlock=some k->w.heap.size<=k:=.inr λ k hk=>(hown'.lt k hk).1
   refine⟨v',w',v'.ownBlock,hrun,.inl ⟨?_,Z⟩,hgr,hg',λ k hk=>(hown'.lt k hk).2⟩;simpa using Cx hown' (aq _)
end
section
variable{T:Prop}
variable{α β γ:Type}[ey α][ey β][ey γ]{look:Nat->Option Dt}
variable{oe:Ow α}{ys:List α}
theorem GR{xs:List α}(h:(eH (Ow.row e oe) G xs).rd M w v):∃ g cells Gr,sy w e (ey.size α) v xs.length g cells/\(∀ b,g=some b->G b/\¬ Gr b)/\(∀ b,Gr b->G b)/\iK oe M Gr w cells xs:=by
 obtain⟨cs,⟨u,rfl,h3⟩,h2⟩:=h;have hv:=h2;subst hv;rcases h3 with⟨g,cap,cur,Gr,hg,hh,h4,h5,h6,hG,hn,hs,hr⟩ | ⟨hx,A,hA⟩
 .exact⟨some g,_,Gr,.inl ⟨⟨Aa hr,.inr ⟨g,cap,cur,hg,aq _,hh,h4,h5,h6,Z⟩⟩,by rw[hg];rfl⟩,λ b hb=>by injection hb with hb;subst hb;exact⟨hG,hn⟩,hs,hr⟩
 .exact⟨none,[],noB,.inr ⟨Z,by rw[hx];rfl,Z,A,hA⟩,λ b hb=>(by cases hb),λ _ h=>h.elim,by rw[hx];rfl⟩
theorem RY{xs:List α}{cells:List Value}(hv:sy w e (ey.size α) v xs.length g cells)(hg:∀ b,g=some b->G b/\¬ Gr b)(hs:∀ b,Gr b->G b)(hr:iK oe M Gr w cells xs):(eH (Ow.row e oe) G xs).rd M w v:=by
 rcases hv with⟨hown,hb⟩ | ⟨_,hn,_,A,hA⟩
 .rcases hown.2 with⟨h1,h2⟩ | ⟨b,cap,cur,h1,_,h3,h4,h5,h6,h7⟩
  .exact⟨[v],⟨v,Z,.inr ⟨au h2,none,h1⟩⟩,Z⟩
  .have hgb:=hg b (by rw[<-hb,h1];rfl);exact⟨[v],⟨v,Z,.inl ⟨b,cap,cur,Gr,h1,h3,h4,h5,h6,hgb.1,hgb.2,hs,by rw[h7];exact hr⟩⟩,Z⟩
 .exact⟨[v],⟨v,Z,.inr ⟨au hn,A,hA⟩⟩,Z⟩
theorem yy{x:α}(h:(eH oe G x).rd M w v):oe.ro M G w v.cells.toList x:=by
 obtain⟨cs,h1,h2⟩:=h;rw[h2,ZS (oe.toR h1)];exact h1
theorem Sx.DI{x:Nat}{xs r:List α}(h:Sx F N M0 M Gs L O a w)(p p2:Nat)(hh:fH o N=some d)
  (ho:o.op=.call { callee:=.builtin .append,args:=#[.tmp s,.tmp x],argTypes:=#[t,t] }) (hel:iH P t e (ey.size α) bytes=true)
  (hs:(eH (Ow.row e oe) G1 xs).rd M w (Act.at a s)) (hx:(eH (Ow.row e2 oe) G2 ys).rd M w (Act.at a x)) (hp:p<Gs.length) (hp2:p2<Gs.length) (hne:p≠p2) (hG1:∀ b,G1 b->zj Gs p b) (hG2:∀ b,G2 b->zj Gs p2 b) (hm:fE bytes xs ys=some r)
  (ks:List Nat) (hk:ff ks L=some L2) (qs:List Nat) (hq:fi L O qs p=some O2) (hO:O2.all (λ q=>q.2.1 != p2)=true) (hdn:L2.lookup d=none)
  (next:∀ G' M' a' w',Sx F N M0 M' ((Gs.set p G').set p2 (eA none)) L2 ((d,p,eH (Ow.row e oe) G' r)::O2) a' w'->wpList P ops Q rest a' w'):wpList P ops Q (o::rest) a w:=by
 obtain⟨hgd,hd,hN⟩:=zK hh;unfold fE at hm;split at hm
 .rename_i hsz;injection hm with hm;subst hm;obtain⟨g,cells,Gr,hv,hg,hs1,hr⟩:=GR hs;obtain⟨g2,ycells,Gr2,hv2,hg2,hs2,hr2⟩:=GR hx;have hu:∃ A c,Act.at a x=.slice A ys.length c/\((ys.length=0/\ycells=[])\/∃ b off,A=some ⟨b,off,none⟩/\iu w b off ycells):=by
   rcases hv2 with⟨hown,hb⟩ | ⟨_,hn,hc,A,hA⟩
   .rcases hown.2 with⟨h1,h2⟩ | ⟨b,cap,cur,h1,_,h3,h4,h5,h6,h7⟩
    .exact⟨none,0,by rw[h1,h2],.inl ⟨h2,au (by rw[hown.1,h2];simp)⟩⟩
    .refine⟨_,cap,h1,.inr ⟨b,0,Z,λ j u hj=>?_⟩⟩;have:=hown.cells (by rw[h1];rfl) j u hj;rwa[jI] at this
   .exact⟨A,0,by rw[hA,hn],.inl ⟨hn,hc⟩⟩
  obtain⟨v',w',g',hrun,hv',hgr,hg',hlt⟩:=UK (ty:=o.type) hel ey.pos hv hu (Aa hr2) (J7 (tw hr2)) hsz.1 (by unfold maxLen;omega);have hgr':Grown _ w w':=(Grown.lJ hgr).mono λ b hb=>hG1 b (hg b hb).1
  refine av hgd λ K hK=>fb.wp (fb.iw (v:=v') (w':=w') ?_ ?_)
  .unfold execOp;simp[ho,resolve,invoke,builtin,ap,ar,ah,Act.np,hrun]
  .rw[hd];have hown:∀ b,g'=some b->zj Gs p b\/w.heap.size<=b:=λ b hb=>hg'.elim (λ e=>.inl (hG1 b (hg b (by rw[<-e];exact hb)).1)) λ e=>.inr (e b hb)
   have h1:=h.kr (G':=λ b=>zj Gs p b\/g'=some b) hp hgr' (λ b hb=>⟨hb.elim .inl (hown b),hb.elim (λ hb=>ay (h.st.mok b (h.ob.at_ p b hb).2.1) hgr.size) (hlt b)⟩) hk hq;have h2:=h1.mJ (by simpa using hp) (by simpa using hp2) hne hO;have e1:J3 (Gs.set p (λ b=>zj Gs p b\/g'=some b)) p p2=(Gs.set p (λ b=>(zj Gs p b\/g'=some b)\/zj Gs p2 b)).set p2 (eA none):=by
    unfold J3;rw[bj]
    congr 2
    funext b
    rw[zf hp,zq hne]
   rw[e1] at h2;have hlt1:=λ b hb=>h.st.mok b (h.ob.at_ p b hb).2.1
   have hlt2:=λ b hb=>h.st.mok b (h.ob.at_ p2 b hb).2.1
   have hL:∀ G5:Nat->Prop,(∀ b,G5 b->b<w.heap.size/\g≠some b)->iq M G5 w (λ b=>(M b/\¬ zj Gs p b)\/(zj Gs p b\/g'=some b)) w':=λ G5 h5=>⟨λ k hk hm=>by
    rcases hm with hm | hm | hm
    .exact hm.1
    .exact(h.ob.at_ p k hm).2.1
    .rcases hown k hm with e | e
     .exact(h.ob.at_ p k e).2.1
     .omega,λ k hk hm=>hgr.block k hk λ e=>by
    rcases hm with hm | hm
    .exact hm (h.ob.at_ p k (hG1 k (hg k e.symm).1)).2.1
    .exact(h5 k hm).2 e.symm⟩
   have hgr1:=λ b hb e=>(hg b e).2 hb
   have hgr2:=λ b hb e=>h.ob.apart p p2 b hne (hG1 b (hg b e).1) (hG2 b (hs2 b hb))
   have hrow:=CL (G:=λ b=>Gr b\/Gr2 b) (QB hr (hL Gr λ b hb=>⟨hlt1 b (hG1 b (hs1 b hb)),hgr1 b hb⟩)) (QB hr2 (hL Gr2 λ b hb=>⟨hlt2 b (hG2 b (hs2 b hb)),hgr2 b hb⟩)) (λ _ h=>.inl h) (λ _ h=>.inr h) λ b hb hb2=>h.ob.apart p p2 b hne (hG1 b (hs1 b hb)) (hG2 b (hs2 b hb2))
   have hfin:=RY (G:=λ b=>(zj Gs p b\/g'=some b)\/zj Gs p2 b) (by rw[ao];exact hv') (λ b hb=>⟨.inl (.inr hb),λ h3=>by
    rcases h3 with h3 | h3
    .rcases hg' with e | e
     .exact(hg b (by rw[<-e];exact hb)).2 h3
     .have:=e b hb;have:=hlt1 b (hG1 b (hs1 b h3));omega
    .rcases hg' with e | e
     .exact hgr2 b h3 (by rw[<-e];exact hb)
     .have:=e b hb;have:=hlt2 b (hG2 b (hs2 b h3));omega⟩) (λ b hb=>hb.elim (λ h=>.inl (.inl (hG1 b (hs1 b h)))) λ h=>.inr (hG2 b (hs2 b h))) hrow
   exact hK _ _ (next _ _ _ _ (h2.iG hN hdn hfin λ b hb=>by rw[zq (br hne),zf hp];exact hb))
 .cases hm
theorem Sx.oW{x:Nat}{xs r:List α}(h:Sx F N M0 M Gs L O a w)(p p2:Nat)
   
         (hm:fE bytes xs ys=some r)
  (ks:List Nat)  (qs:List Nat)   
  (next:∀{G' M' a' w'},Sx F N M0 M' ((Gs.set p G').set p2 (eA none)) L2 ((d,p,eH (Ow.row e oe) G' r)::O2) a' w'->wpList P ops Q rest a' w')(hh:fH o N=some d:=by rfl)(ho:o.op=.call { callee:=.builtin .append,args:=#[.tmp s,.tmp x],argTypes:=#[t,t] }:=by rfl)(hs:(L++eB O).lookup s=some (eH (Ow.row e oe) G1 xs):=by rfl)(hx:(L++eB O).lookup x=some (eH (Ow.row e2 oe) G2 ys):=by rfl)(hp:p<Gs.length:=by simp)(hp2:p2<Gs.length:=by simp)(hne:p≠p2:=by decide)(hG1:∀ b,G1 b->zj Gs p b:=by exact λ _ h=>h)(hG2:∀ b,G2 b->zj Gs p2 b:=by exact λ _ h=>h)(hk:ff ks L=some L2:=by rfl)(hq:fi L O qs p=some O2:=by rfl)(hO:O2.all (λ q=>q.2.1 != p2)=true:=by rfl)(hdn:L2.lookup d=none:=by rfl)(hel:iH P t e (ey.size α) bytes=true:=by kernel_rfl):wpList P ops Q (o::rest) a w:=
 h.DI p p2 hh ho hel (h.st.has s _ hs) (h.st.has x _ hx) hp hp2 hne hG1 hG2 hm ks hk qs hq hO hdn (λ _ _ _ _ h_=>next h_)
def WB(Gs:List (Nat->Prop)):List Nat->List (Nat->Prop)
 | []=>Gs
 | q::ps=>WB (Gs.set q (eA none)) ps
theorem vK:∀ {ps:List Nat} {Gs:List (Nat->Prop)},(WB Gs ps).length=Gs.length
 | [],_=>rfl
 | q::ps,Gs=>by unfold WB;rw[vK];simp
theorem Ks:∀ {ps:List Nat} {Gs:List (Nat->Prop)} {q b:Nat},zj (WB Gs ps) q b->zj Gs q b/\q ∉ ps
 | [],Gs,q,b,h=>⟨h,by simp⟩
 |k::ps,Gs,q,b,h=>by
  unfold WB at h;obtain⟨h1,h2⟩:=Ks h;by_cases hk:k=q
  .subst hk
   exfalso
   unfold zj at h1;by_cases hl:k<Gs.length
   .rw[aI hl] at h1;cases h1
   .rw[bh (by simp;omega)] at h1;exact h1
  .rw[zq hk] at h1;exact⟨h1,λ hm=>(aj.1 hm).elim (λ e=>hk e.symm) h2⟩
theorem IW:∀ {ps:List Nat} {Gs:List (Nat->Prop)} {q b:Nat},zj Gs q b->q ∉ ps->zj (WB Gs ps) q b
 | [],_,_,_,h,_=>h
 |k::ps,Gs,q,b,h,hn=>by
  unfold WB;refine IW ?_ λ hm=>hn (bD _ hm)
  rw[zq (show k≠q from λ e=>hn (by rw[<-e];exact bF ..))];exact h
theorem Sx.DP(h:Sx F N M0 M Gs L O a w)(p:Nat)(ps:List Nat)(hp:p<Gs.length)(hO:O.all (λ q=>q.2.1 != p&&!(ps.contains q.2.1))=true):Sx F N M0 M ((WB Gs ps).set p (λ b=>∃ q∈ps,zj Gs q b)) L O a w:=by
 have hp':p<(WB Gs ps).length:=by rw[vK];exact hp
 have key:∀ q b,zj _ q b->(q=p/\∃ q'∈ps,zj Gs q' b)\/(q≠p/\q ∉ ps/\zj Gs q b):=λ q b hb=>by
  by_cases hq:p=q
  .subst hq;rw[zf hp'] at hb;exact .inl ⟨Z,hb⟩
  .rw[zq hq] at hb;obtain⟨h1,h2⟩:=Ks hb;exact .inr ⟨br hq,h2,h1⟩
 refine h.ug (λ q b hb=>?_) (λ q r b hqr h1 h2=>?_) λ q hq b hb=>?_
 .rcases key q b hb with⟨_,q',_,h1⟩ | ⟨_,_,h1⟩
  .exact⟨q',h1⟩
  .exact⟨q,h1⟩
 .rcases key q b h1 with⟨e1,q',m1,k1⟩ | ⟨n1,m1,k1⟩ <;> rcases key r b h2 with⟨e2,r',m2,k2⟩ | ⟨n2,m2,k2⟩
  .exact hqr (e1.trans e2.symm)
  .exact h.ob.apart q' r b (λ e=>m2 (e ▸ m1)) k1 k2
  .exact h.ob.apart q r' b (λ e=>m1 (e ▸ m2)) k1 k2
  .exact h.ob.apart q r b hqr k1 k2
 .have h1:=h.ow.get q hq b hb;have h2:=am.1 hO q hq;simp at h2;rw[zq (br h2.1)];exact IW h1 h2.2
theorem Sx.lN{ow:Ow α}{zs:List (List Value)}{parts:List (Nat×Operand)}{x:α}(h:Sx F N M0 M Gs L O a w)(p:Nat)(ps:List Nat)
  (hs:∀ q∈parts,q.1<ns.length/\(a.eval q.2).cells.toList.length=ns.getD q.1 0)
  (hx:ow.ro M (λ b=>∃ q∈ps,zj Gs q b) w ((parts.foldl (λ l q=>l.set q.1 (a.eval q.2).cells.toList) zs).flatten) x) 
  (ks:List Nat)  (qs:List Nat)   
  (next:∀{G' a' w'},Sx F N M0 M ((WB Gs ps).set p G') L2 ((d,p,eH ow G' x)::O2) a' w'->wpList P ops Q rest a' w')(hh:fH o N=some d:=by rfl)(hagg:ey.agg α=true:=by rfl)(ho:o.op=.build t parts.toArray:=by rfl)(hp:p<Gs.length:=by simp)(hk:ff ks L=some L2:=by rfl)(hq:fi L O qs p=some O2:=by rfl)(hO:O2.all (λ q=>q.2.1 != p&&!(ps.contains q.2.1))=true:=by rfl)(hdn:L2.lookup d=none:=by rfl)(hb:pf P t ns=true:=by kernel_rfl)(hz:Zx P t ns=some zs:=by kernel_rfl):wpList P ops Q (o::rest) a w:=by
 obtain⟨hgd,hd,hN⟩:=zK hh;obtain⟨cells,h1,h2⟩:=Ds (parts:=parts.map λ p=>(p.1,a.eval p.2)) hb hz (λ q hq=>by
  obtain⟨r,hr,rfl⟩:=bi.1 hq;have:=hs r hr;exact⟨this.1,by simpa using this.2⟩) w
 refine av hgd λ K hK=>fb.wp (fb.iw (v:=.agg cells) (w':=w) ?_ ?_)
 .unfold execOp;rw[ho];have e:(parts.toArray.map λ p:Nat×Operand=>(p.1,a.eval p.2))=(parts.map λ p=>(p.1,a.eval p.2)).toArray:=by simp
  simp[e,ap,h1,ah,ar]
 .rw[hd];have k1:=((h.kE hp (Grown.refl _ w) hk hq).DP p ps hp hO);refine hK _ _ (next (k1.iG hN hdn ⟨cells.toList,?_,by rw[hagg];rfl⟩ λ b hb=>by rw[zf (by rw[vK];exact hp)];exact hb));rw[h2,dV];exact hx
theorem Sx.lO{n:Nat}{parts:Array (Nat×Operand)}{xs:List α}(h:Sx F N M0 M Gs L O a w)(p:Nat)(ps:List Nat)(ht':lM P t e (ey.size α)=true)(hz':mC P t=true)
      
  (hx:iK oe M (λ b=>∃ q∈ps,zj Gs q b) w ((opds.map λ q=>(a.eval q).cells.toList).flatten) xs) (hlen:∀ q∈opds,(a.eval q).cells.toList.length=ey.size α) 
  (ks:List Nat)  (qs:List Nat)   
   (next:∀{G' M' a' w'},Sx F N M0 M' ((WB (Gs.set p (eA none)) ps).set p G') L2 ((d,p,eH (Ow.row e oe) G' xs)::O2) a' w'->wpList P ops Q rest a' w')(hh:fH o N=some d:=by rfl)(ho:o.op=.buildSlice t n parts:=by rfl)(hpa:parts=(opds.zipIdx.map λ p=>(p.2,p.1)).toArray:=by rfl)(hn:n=opds.length:=by rfl)(hsz:opds.length*ey.size α<=16777216:=by decide)(hl:opds.length=xs.length:=by rfl)(h0:0<opds.length:=by decide)(hp:p<Gs.length:=by simp)(hk:ff ks L=some L2:=by rfl)(hq:fi L O qs p=some O2:=by rfl)(hO:O2.all (λ q=>q.2.1 != p&&!(ps.contains q.2.1))=true:=by rfl)(hdn:L2.lookup d=none:=by rfl)(hpp:p ∉ ps:=by decide):wpList P ops Q (o::rest) a w:=by
 obtain⟨hgd,hd,hN⟩:=zK hh;obtain⟨ti,z,h1,h2⟩:=DA hz' ht';obtain⟨cells,g1,g2⟩:=Qt (parts:=opds.map a.eval) ht' h1 h2 (by simpa using hsz) (λ v hv=>by
  obtain⟨opd,hopd,rfl⟩:=bi.1 hv;simpa using hlen opd hopd) w
 have he:fy w (w.alloc (.cells cells e)):=fy.alloc _ _;refine av hgd λ K hK=>fb.wp (fb.iw (w':=w.alloc (.cells cells e)) (v:=.slice (some ⟨w.heap.size,0,none⟩) xs.length xs.length) ?_ ?_)
 .unfold execOp;rw[ho];have e1:(parts.map λ p:Nat×Operand=>(p.1,a.eval p.2))=(((opds.map a.eval).zipIdx).map λ p=>(p.2,p.1)).toArray:=by
   rw[hpa];simp[ev]
  simp at g1;rw[hl] at g1;simp[e1,hn,ap,g1,ah,ar,hl]
 .rw[hd];have k1:=h.kr (G':=eA _) hp ((Grown.kW he).mono λ b hb=>hb.elim) (λ b (hb:some w.heap.size=some b)=>by injection hb with hb;subst hb;exact⟨.inr (al _),by simp⟩) hk hq;have k2:=k1.DP p (p::ps) (by simpa using hp) (by
   rw[am] at hO ⊢;intro q hq;have h3:=hO q hq;simp only[bne_iff_ne,ne_eq,ac,cC,List.contains_eq_mem,dw,aj,not_or] at h3 ⊢;exact⟨h3.1,h3.1,h3.2⟩)
  have e2:WB (Gs.set p (eA (some w.heap.size))) (p::ps)=WB (Gs.set p (eA none)) ps:=by
   show WB _ ps=_;rw[bj]
  rw[e2] at k2;have hlt:∀ b,(∃ q∈ps,zj Gs q b)->b<w.heap.size:=λ b ⟨q,_,hb⟩=>h.st.mok b (h.ob.at_ q b hb).2.1
  have hup:∀ b,(∃ q∈ps,zj Gs q b)->∃ q∈p::ps,zj (Gs.set p (eA (some w.heap.size))) q b:=λ b ⟨q,hm,hb⟩=>⟨q,bD _ hm,by rw[zq (show p≠q from λ e=>hpp (by rw[e];exact hm))];exact hb⟩
  have hL:iq M (λ b=>∃ q∈ps,zj Gs q b) w (λ b=>(M b/\¬ zj Gs p b)\/eA _ b) _:=⟨λ k hk hm=>hm.elim (λ h=>h.1) λ(h:some w.heap.size=some k)=>by injection h with h;omega,λ k hk _=>he.block k hk⟩;have e3:((opds.map a.eval).map λ v=>v.cells.toList)=opds.map λ q=>(a.eval q).cells.toList:=by rw[cJ];rfl
  rw[e3] at g2;have hcl:cells.toList.length=xs.length*ey.size α:=by rw[g2];exact Aa hx
  refine hK _ _ (next (k2.iG hN hdn ?_ λ b hb=>by rw[zf (by rw[vK];simpa using hp)];exact hb));refine⟨_,⟨_,Z,.inl ⟨w.heap.size,xs.length,cells,λ b=>∃ q∈ps,zj Gs q b,Z,db w _,al _,?_,?_,⟨p,bF ..,by rw[zf hp];rfl⟩,λ h3=>cO _ (hlt _ h3),hup,?_⟩⟩,Z⟩
  .have:=ey.pos (α:=α);rw[<-hl];have h5:opds.length<=opds.length*ey.size α:=dv _ this;exact aS h5 (aS hsz (by decide))
  .rw[<-hcl];simp
  .rw[<-hcl,aQ,g2];exact QB hx hL
end
theorem iq.DQ(l:iq M G w M' w')(hk:k<w.heap.size)(h:¬ M k\/G k):k<w'.heap.size:=Fl hk (l.same k hk h)
theorem iq.trans{M1 M2 M3 G:Nat->Prop}{w1 w2 w3:World}(l1:iq M1 G w1 M2 w2)(l2:iq M2 G w2 M3 w3):iq M1 G w1 M3 w3:=
 ⟨λ k hk hm=>by
  by_cases h:M1 k
  .exact h
  .exact l1.weak k hk (l2.weak k (l1.DQ hk (.inl h)) hm),
  λ k hk hm=>(l2.same k (l1.DQ hk hm) (hm.imp (λ h e=>h (l1.weak k hk e)) id)).trans (l1.same k hk hm)⟩
section
variable{α β:Type}[ey α][ey β]
def lS(ow:Ow α)(oy:Ow β)(G:Nat->Prop)(v0:Value)(b off:Nat)(upd:β->α):Dt where
 rd M w v:=v=v0/\∃ (wb:World) (Mb G2:Nat->Prop) (cs:List Value) (C:Array Value) (e:TypeId),v0=gI (ey.agg α) cs/\iq Mb (λ k=>k=b\/G2 k) wb M w/\G b/\¬ G2 b/\(∀ k,G2 k->G k)/\wb.heap[b]?=some (.cells C e (0,0))/\off+ey.size β<=C.size/\
  ∀
   {M' G1' G'':Nat->Prop} {w':World} {c':List Value} {y':β},iq Mb G2 wb M' w'->w'.heap[b]?=some (.cells (C.toList.take off++c'++C.toList.drop (off+ey.size β)).toArray e (0,0))->oy.ro M' G1' w' c' y'->¬ G1' b->(∀ k,G1' k->¬ G2 k)->
   G'' b->(∀ k,G1' k->G'' k)->(∀ k,G2 k->G'' k)->ow.ro M' G'' w' cs (upd y')
 own:=G
 nb:=false
 nob h:=by cases h
 stable:=by
  rintro M w w1 v ⟨h1,wb,Mb,G2,cs,C,e,h2,hL,h5,h6,h7,h8,h9,put⟩ k
  refine⟨h1,wb,Mb,G2,cs,C,e,h2,hL.trans ⟨λ _ _ h=>h,λ i hi hm=>k i hi (hm.imp id λ hm=>?_)⟩,h5,h6,h7,h8,h9,put⟩;rcases hm with rfl | hm
  .exact h5
  .exact h7 i hm
 weak:=by
  rintro M M1 w v ⟨h1,wb,Mb,G2,cs,C,e,h2,hL,h5,h6,h7,h8,h9,put⟩ k
  exact⟨h1,wb,Mb,G2,cs,C,e,h2,hL.trans ⟨λ i hi hm=>k i hi hm,λ _ _ _=>Z⟩,h5,h6,h7,h8,h9,put⟩
end
section
variable{T:Prop}
variable{α β γ:Type}[ey α][ey β][ey γ]{look:Nat->Option Dt}
variable{oy:Ow β}
theorem oN{ow:Ow α}{upd:β->α}(h:look s=some (lS ow oy G v0 b off upd)):eC M look (.tmp s) (fk v0):=λ _ _ hl=>(hl s _ h).1
theorem Sx.D9{ow:Ow α}{t q:Nat}{y':β}{upd:β->α}(h:Sx F N M0 M Gs L O a w)(p p2:Nat)(ho:o.op=.store t (.tmp q) (.tmp tv))(hgd:o.guard=none)(hd:o.dst=none)
  (ht:fM P t (ey.agg β) (ey.size β)=true) (hp:p<Gs.length) (hp2:p2<Gs.length) (hne:p≠p2) (hpl:eC M (λ s=>(L++eB O).lookup s) (.tmp q) (fk (.pointer (some ⟨b,off,none⟩)))) (hvl:(L++eB O).lookup tv=some (eH oy G3 y')) (hs:(L++eB O).lookup sb=some (lS ow oy G v0 b off upd)) (hG:∀ b,G b->zj Gs p b) (hG3:∀ b,G3 b->zj Gs p2 b)
  (ks:List Nat) (hk:ff ks L=some L2) (qs:List Nat) (hq:fi L O qs p=some O2) (hq2:O2.all (λ q=>q.2.1 != p2)=true) (hdn:L2.lookup sb=none)
  (next:∀ G' w',Sx F N M0 M ((Gs.set p G').set p2 (eA none)) L2 ((sb,p,eJ ow G' (upd y') v0 [])::O2) a w'->wpList P ops Q rest a w'):wpList P ops Q (o::rest) a w:=by
 obtain⟨cy,hy,hyv⟩:=h.st.has tv _ hvl;have hcl:=oy.len hy;have hone:=oy.one hy;have hcv:(Act.at a tv).cells.toList=cy:=by rw[hyv];exact ZS (oy.toR hy)
 obtain⟨h1,wb,Mb,G2,cs,C,e,h3,hL,hGb,n2,s2,hhb,hsz,put⟩:=h.st.has sb _ hs;have hqv:=hpl w a λ s y hs=>h.st.has s y hs
 have hob:=hG b hGb;have hMb:=(h.ob.at_ p b hob).2.1;have hh':w.heap[b]?=some (.cells C e (0,0)):=by rw[hL.same b (xM hhb) (.inr (.inl Z))];exact hhb
 have hrun:=xI (by rw[hcl];exact ht) hcv hh' (by rw[hcl];exact hsz) hone;have hgr:w.grownBy (w.setRow b (C.toList.take off++cy++C.toList.drop (off+cy.length)).toArray) _:=y8;have hgr':=Grown.lJ hgr;have nb3:=λ h3=>h.ob.apart p p2 b hne hob (hG3 b h3)
 have hL2:∀ G5:Nat->Prop,¬ G5 b->iq M G5 w M _:=λ G5 hn5=>⟨λ _ _ h=>h,λ k _ hm=>hgr'.block k (by assumption) λ(h1:some b=some k)=>by
  injection h1 with h1;subst h1;exact hm.elim (λ hm=>hm hMb) hn5⟩
 refine av hgd λ K hK=>fb.wp (fb.mS (w':=w.setRow b (C.toList.take off++cy++C.toList.drop (off+cy.length)).toArray) ?_ ?_)
 .unfold execOp;rw[ho];have hpv':a.eval (.tmp q)=.pointer _:=hqv;simp[Instr.storeAt,Instr.sureAddr,hpv',Act.np,ap,ar,ah,hrun]
 .rw[hd];have k1:=(h.kE hp (hgr'.mono λ i (hi:some b=some i)=>by injection hi with hi;rw[<-hi];exact hob) hk hq).mJ hp hp2 hne hq2;have e1:J3 Gs p p2=(Gs.set p (λ b=>zj Gs p b\/zj Gs p2 b)).set p2 _:=rfl;rw[e1] at k1;have hw':=ck w b C (C.toList.take off++cy++C.toList.drop (off+cy.length)).toArray e _ hh';refine hK _ _ (next _ _ (k1.gu hdn ⟨h1,⟨cs,?_,h3⟩,λ q hq _=>by cases hq⟩ λ c hc=>?_))
  .refine put ((hL.sub λ _ h=>.inr h).trans (hL2 G2 n2)) ?_ (oy.later hy (hL2 G3 nb3)) nb3 (λ k hk hk2=>h.ob.apart p p2 k hne (hG k (s2 k hk2)) (hG3 k hk)) (.inl hob) (λ k hk=>.inr (hG3 k hk)) λ k hk=>.inl (hG k (s2 k hk))
   rw[hw',hcl]
  .rw[zq (br hne),zf hp];exact hc
def Eo(o o':Ow α):Prop:=∀ {M G:Nat->Prop} {w:World} {cs:List Value} {x:α},o.ro M G w cs x->∃ G',(∀ b,G' b->G b)/\o'.ro (λ k=>M k/\(¬ G k\/G' k)) G' w cs x
theorem Hk{o:Ow α}:Eo (Ow.row e o) (Ow.row e Ow.eE):=λ{M G w cs x} ⟨v,hv,h⟩=>by
 rcases h with⟨g,cap,cur,Gr,hg,hh,h4,h5,h6,hG,hn,hs,hr⟩ | ⟨hx,A,hA⟩
 .refine⟨eA _,λ b (hb:some g=some b)=>by injection hb with hb;exact hb ▸ hG,v,hv,.inl ⟨g,cap,cur,noB,hg,hh,h4,h5,h6,Z,λ h=>h,λ _ h=>h.elim,QC (wN (λ k _ hk=>⟨hk.1,λ hr=>?_⟩) (tw hr))⟩⟩;rcases hk.2 with h7 | h7
  .exact h7 (hs k hr)
  .have:g=k:=by injection h7
   exact hn (this ▸ hr)
 .exact⟨noB,λ _ h=>h.elim,v,hv,.inr ⟨hx,A,hA⟩⟩
theorem Sx.nq{ow:Ow α}{x:Bx α}(h:Sx F N M0 M Gs L O a w)(p:Nat)(ks:List Nat)(qs:List Nat)(hs:(L++eB O).lookup s=some (eH ow.box G x):=by rfl)(hp:p<Gs.length:=by simp)(hG:∀ b,G b->zj Gs p b:=by exact λ _ h=>h)(hk:ff ks L=some L2:=by rfl)(hq:fi L O qs p=some O2:=by rfl)(hO:O2.all (λ q=>q.2.1 != p)=true:=by rfl):
  Sx F N M0 (λ b=>M b/\¬ zj Gs p b) (Gs.set p (eA none)) ((s,eX x.x)::L2) O2 a w:=by
 have h1:=h.Au p hs (hp:=hp) hG ks hk qs hq hO;refine⟨⟨h1.st.fr,h1.st.size,h1.st.defers,h1.st.mok,λ s' y hy=>?_⟩,h1.ob,λ s' y hy=>?_,h1.ow⟩
 .have h2:=h1.st.has s';simp only[bG,af] at hy h2;cases hb:s' == s with
  |true=>simp only[hb] at hy h2;injection hy with hy;subst hy;exact uC.1 (h2 _ Z)
  |false=>simp[hb] at hy h2;exact h2 y hy
 .have h2:=h1.no s';simp only[af] at hy h2;cases hb:s' == s with
  | true=>simp only[hb] at hy;injection hy with hy;subst hy;rfl
  | false=>simp[hb] at hy h2;exact h2 y hy
theorem gK{A:Addr}(ho:o.op=.nilCheck q)(hq:eC M look q (fk (.pointer (some A)))):eP P M look o (fk (.pointer (some A))):=
 zz λ a w _ hl=>by
  have hv:a.eval q=_:=hq w a hl;refine⟨_,?_,Z⟩;unfold execOp;rw[ho];simp[hv]
theorem ry{ow:Ow α}{x:α}{A:Addr}(ho:o.op=.nilCheck (.tmp s))(hs:look s=some (eJ ow G x (.pointer (some A)) cf)):eP P M look o (eJ ow G x (.pointer (some A)) cf):=
 zz λ a w _ hl=>by
  have h:=hl s _ hs;have hv:a.eval (.tmp s)=.pointer _:=h.1;refine⟨a.eval (.tmp s),?_,h⟩;unfold execOp;rw[ho];simp[hv]
theorem sX{x:α}(ho:o.op=.nilCheck q)(hq:eC M look q (eX x)):eP P M look o (eX x):=
 zz λ a w _ hl=>by
  have h:=hq w a hl;refine⟨a.eval q,?_,h⟩;obtain⟨b,off,cs,hv,_⟩:=h;unfold execOp;rw[ho];simp[hv]
def Bg(P:Program)(src dst:TypeId):Bool:=(P.underlying src).isSome&&(match P.underlying dst with | some (.int .i64)=>true | _=>false)
theorem Ht{n:UInt8}(ho:o.op=.convert src dst x)(h:Bg P src dst=true)(hx:eC M look x (dt n)):eP P M look o (dt (n.toNat:Int)):=
 zz λ a w _ hl=>by
  unfold Bg at h;rw[ac] at h;have hd:P.underlying dst=some (.int .i64):=by
   have:=h.2;split at this
   .assumption
   .cases this
  have hk:P.intKind dst=.i64:=by simp[Program.intKind,hd]
  have h1:=rf.1 (hx w a hl);refine⟨.int .i64 _,?_,yq.2 Z⟩;have hr:=run_convert_int w src dst .u8 (n.toNat:Int) h.1 (by rw[hk];exact hd);have hlt:=UInt8.toNat_lt n;rw[hk,vz _ (by omega)] at hr;unfold execOp;rw[ho];simp[h1,hr]
theorem Gz:eC M look (.const (.pointer none)) (fk (.pointer none)):=λ _ _ _=>Z
theorem Sx.gs(h:Sx F N M0 M Gs L O a w)(e:Gs=Gs':=by rfl):Sx F N M0 M Gs' L O a w:=e ▸ h
end
theorem pg{x:α}{y:β}{r:α×β}(h:some (x,y)=some r):some ((⟨x⟩:Bx α),y)=some (⟨r.1⟩,r.2):=by injection h with h;rw[<-h]
theorem iy{x r:α}(h:some x=some r):some (⟨x⟩:Bx α)=some ⟨r⟩:=by injection h with h;rw[h]
theorem Fv(c:Bool)(a b:α):(if c=true then(⟨a⟩:Bx α) else⟨b⟩)=⟨if c=true then a else b⟩:=by cases c <;> rfl
section
variable{fn:Func}
variable{α β γ:Type}[ey α][ey β][ey γ]
theorem Sx.LR{oo:Ow α}{t:Nat}{x xr:α}{y yr:β}(h:Sx (eG.ft w0 G) N M0 M Gs L O a w)(p:Nat)(hr:fn.results=#[.tmp t])(hl:(L++eB O).lookup t=some (dt y))(hs:(L++eB O).lookup s=some (eJ oo G' x v0 cf))(hG:∀ b,G' b->zj Gs p b)
  (hm:some (x,y)=some (xr,yr)):bodyPost P fn (ko M0 w0 G v0 oo xr (.eE (dt yr))) .ret a w:=by
 injection hm with hm;injection hm with h1 h2;subst h1;subst h2;obtain⟨k1,⟨cs,k2,k3⟩,_⟩:=h.st.has s _ hs;have hM:∀ k,k<w.heap.size->(M0 k\/G' k)\/noB k->M k:=λ k _ hk=>hk.elim (λ hk=>hk.elim (h.ob.sub k) λ hk=>(h.ob.at_ p k (hG k hk)).2.1) λ h=>h.elim
 exact⟨h.st.defers,_,cV hr a.tmps P w,_,G',noB,Z,h.st.fr,λ b hb=>(h.ob.at_ p b (hG b hb)).1,λ _ h=>h.elim,λ _ _ h=>h,λ b hb=>hb.elim (λ hb=>h.st.mok b (h.ob.at_ p b (hG b hb)).2.1) λ h=>h.elim,
  ⟨cs,oo.weak k2 hM,k3⟩,(dt y).weak (h.st.has t _ hl) hM,Z⟩
theorem Sx.pU{oo:Ow α}{t:Nat}{x xr:α}{y yr:β}(h:Sx (eG.ft w0 G) N M0 M Gs L O a w)(p:Nat)(ht:fM P ty (ey.agg β) (ey.size β)=true)
  (hm:some (x,y)=some (xr,yr))(hr:fn.results=#[.cell t ty]:=by rfl)(hl:(L++eB O).lookup t=some (eY g 0 y):=by rfl)(hs:(L++eB O).lookup s=some (eJ oo G' x v0 cf):=by rfl)(hG:∀ b,G' b->zj Gs p b:=by exact λ _ h=>h):bodyPost P fn (ko M0 w0 G v0 oo xr (.eE (dt yr))) .ret a w:=by
 injection hm with hm;injection hm with h1 h2;subst h1;subst h2;obtain⟨k1,⟨cs,k2,k3⟩,_⟩:=h.st.has s _ hs;have hM:∀ k,k<w.heap.size->(M0 k\/G' k)\/noB k->M k:=λ k _ hk=>hk.elim (λ hk=>hk.elim (h.ob.sub k) λ hk=>(h.ob.at_ p k (hG k hk)).2.1) λ h=>h.elim
 obtain⟨b,_,hv,C,e,cy,hb,hc,hro⟩:=h.st.has t _ hl;have hc':∀ j u,cy[j]?=some u->w.cell? ⟨b,0+j,none⟩=some u:=λ j u hj=>by
  have:=hc j u hj;simp at this ⊢;simp[World.cell?,hb,this]
 have hld:=yA ht (ey.len hro) ey.one hc';refine⟨h.st.defers,gI _ cy,?_,_,G',noB,Z,h.st.fr,λ b hb=>(h.ob.at_ p b (hG b hb)).1,λ _ h=>h.elim,λ _ _ h=>h,λ b hb=>hb.elim (λ hb=>h.st.mok b (h.ob.at_ p b (hG b hb)).2.1) λ h=>h.elim,
  ⟨cs,oo.weak k2 hM,k3⟩,⟨cy,ey.weak hro hM,Z⟩,Z⟩
 have h2:a.tmps.getD t undef=.pointer _:=hv;simp[results,hr];simp at h2;simp[h2,asAddr,hld]
variable{e:Nat}
theorem HN(hw:Region.wanted o (yielded ops a.tmps)=true)(h:wpList P ops Q ({ o with guard:=none }::rest) a w):wpList P ops Q (o::rest) a w:=by
 unfold wpList at h ⊢;rw[Ke (Ym Z)] at h;rw[Ke hw];exact h
theorem TW{b:Bool}(hg:o.guard=some (j,want))(hd:(ops[j]?).bind (·.dst)=some e)(hlt:e<a.tmps.size)(h1:Act.at a e=.bool b):Region.wanted o (yielded ops a.tmps)=(b == want):=by
 have h2:yielded ops a.tmps j=some b:=by
  unfold Act.at at h1;rw[ce,an hlt] at h1;simp at h1;simp[yielded,hd,hlt,h1]
 simp[Region.wanted,hg,h2]
theorem Sx.Lf{oy:Ow β}{b:Bool}{y y':β}{r:γ}(h:Sx F N M0 M Gs L O a w)(p:Nat)
  (hs:(L++eB O).lookup sb=some (eJ oy G y v0 cf)) (hG:∀ b,G b->zj Gs p b) (hh:nE o N ops=some (d,e,j,want)) (hb:(L++eB O).lookup e=some (dt b))
  (ho:o.op=.call { callee:=.value (.func f),args:=(q::l).toArray,argTypes:=ts }) (hf:gb P f=true) (hqv:(b == want)=true->a.eval q=v0) (hp:p<Gs.length) (hx:(b == want)=true->ArgsR M (λ s=>(L++eB O).lookup s) l xr) (hfn:(b == want)=true->fP P f oy y xr y' (.eE (dt r)))
  (ks:List Nat) (hk:ff ks L=some L2) (qs:List Nat) (hq:fi L O qs p=some O2) (hsn:L2.lookup sb=none) (hne:sb≠d)
  (next:∀ G'' M' a' w',Sx F N M0 M' (Gs.set p G'') ((d,Dt.kt (b == want) (dt r))::L2) ((sb,p,eJ oy G'' (if(b == want)=true then y' else y) v0 [])::O2) a' w'->wpList P ops Q rest a' w'):wpList P ops Q (o::rest) a w:=by
 obtain⟨hg,hd,hj,hN,hE⟩:=xR hh;have h1:=zB (h.st.has e _ hb);have hw:=TW hg hj (by rw[h.st.size];exact hE) h1;have hv0:=(h.st.has sb _ hs).1;cases hc:(b == want) with
 |true=>
  rw[hc] at hw;refine HN hw ?_;refine h.kV (yd:=Dt.kt (b == want) (dt r)) p (h.lr (y':=y') (hs:=hs) (hG:=hG)) ?_ ho hf ((hqv hc).trans hv0.symm) hp (hx hc) ?_ ks hk qs hq hsn hne (@λ G'' M' a' w' st=>next G'' M' a' w' ?_)
  .simp[fH,hd,hN]
  .intro M0 G w v vs hm hgm hv hr;refine(hfn hc M0 G w v vs hm hgm hv hr).mono λ en w' ⟨u,G',Gr,k1,k2,k3,k4,k5,k6,k7,k8,k9⟩=>⟨u,G',Gr,k1,k2,k3,k4,k5,k6,k7,⟨λ _=>k8,λ hf=>?_⟩,Z⟩
   rw[hc] at hf;cases hf
  .rw[hc] at st;rw[hc,Ke Z];exact st
 |false=>
  rw[hc] at hw;obtain⟨k1,k2,_⟩:=h.st.has sb _ hs;unfold wpList;rw[Kf (by rw[hw];decide),hd];have hset:Gs.set p (zj Gs p)=Gs:=by
   apply aZ;intro n;by_cases hn:p=n
   .subst hn;rw[aI hp,aa hp]
    congr 1
    funext b
    unfold zj;rw[aa hp]
   .rw[aG hn]
  have fK:=(h.kE hp (Grown.refl _ w) hk hq).gu (x:=eJ oy _ y v0 []) hsn ⟨k1,(let⟨cs,k3,k4⟩:=k2;⟨cs,oy.more k3 hG,k4⟩),λ q hq _=>by cases hq⟩ (λ _ h=>h);refine next (zj Gs p) M _ w ?_;rw[hset,hc,Kf (by decide)];exact fK.nY hN ⟨λ h=>(by cases h),λ _=>rfl⟩ rfl
theorem Sx.DL{oy:Ow β}{b:Bool}{y y':β}{r:γ}(h:Sx F N M0 M Gs L O a w)(p:Nat)
  (hs:(L++eB O).lookup sb=some (eJ oy.box G ⟨y⟩ v0 cf)) (hG:∀ b,G b->zj Gs p b) (hh:nE o N ops=some (d,e,j,want)) (hb:(L++eB O).lookup e=some (dt b))
  (ho:o.op=.call { callee:=.value (.func f),args:=(q::l).toArray,argTypes:=ts }) (hf:gb P f=true) (hqv:(b == want)=true->a.eval q=v0) (hp:p<Gs.length) (hx:(b == want)=true->ArgsR M (λ s=>(L++eB O).lookup s) l xr) (hfn:(b == want)=true->fP P f oy.box ⟨y⟩ xr ⟨y'⟩ (.eE (dt r)))
  (ks:List Nat) (hk:ff ks L=some L2) (qs:List Nat) (hq:fi L O qs p=some O2) (hsn:L2.lookup sb=none) (hne:sb≠d)
  (next:∀ G'' M' a' w',Sx F N M0 M' (Gs.set p G'') ((d,Dt.kt (b == want) (dt r))::L2) ((sb,p,eJ oy.box G'' ⟨if(b == want)=true then y' else y⟩ v0 [])::O2) a' w'->wpList P ops Q rest a' w'):wpList P ops Q (o::rest) a w:=
 h.Lf p hs hG hh hb ho hf hqv hp hx hfn ks hk qs hq hsn hne λ G'' M' a' w' st=>next G'' M' a' w' (by rw[Fv] at st;exact st)
end
theorem fV.mk{M:Nat->Prop}{w:World}{x:Tree}{g0:Nat->Prop}{a0:Ow (List File)}{c0:List Value}(h0:a0.ro M g0 w c0 x.files)  : (fV a0).ro M g0 w [c0].flatten x:=by
 simp only[cW,dE,aO];exact h0
theorem iY.mk{M:Nat->Prop}{w:World}{x:eT}{g3:Nat->Prop}{a3:Ow (List Str)}{c0:List Value}{c1:List Value}{c2:List Value}{c3:List Value}(h0:ey.rdc M w c0 x.root)(h1:ey.rdc M w c1 x.pkg)(h2:ey.rdc M w c2 x.stamp)(h3:a3.ro M g3 w c3 x.names)  : (iY a3).ro M g3 w [c0,c1,c2,c3].flatten x:=by
 simp only[cW,dE,aO];exact⟨noB,g3,c0,_,λ _ h=>h.elim,λ _ h=>h,λ _ h=>h.elim,Z,h0,⟨noB,g3,c1,_,λ _ h=>h.elim,λ _ h=>h,λ _ h=>h.elim,Z,h1,⟨noB,g3,c2,_,λ _ h=>h.elim,λ _ h=>h,λ _ h=>h.elim,Z,h2,h3⟩⟩⟩
theorem fJ.mk{M:Nat->Prop}{w:World}{x:eK}{g0:Nat->Prop}{a0:Ow (Tree)}{g2:Nat->Prop}{a2:Ow (List eT)}{c0:List Value}{c1:List Value}{c2:List Value}(h0:a0.ro M g0 w c0 x.tree)(h1:ey.rdc M w c1 x.clock)(h2:a2.ro M g2 w c2 x.dirs)(d0:∀ b,g0 b->¬ g2 b):(fJ a0 a2).ro M (λ b=>g0 b\/g2 b) w [c0,c1,c2].flatten x:=by
 simp only[cW,dE,aO];exact⟨g0,g2,c0,_,λ _ h=>.inl h,λ _ h=>.inr h,d0,Z,h0,⟨noB,g2,c1,_,λ _ h=>h.elim,λ _ h=>h,λ _ h=>h.elim,Z,h1,h2⟩⟩
theorem gr.mk{M:Nat->Prop}{w:World}{x:fj}{g0:Nat->Prop}{a0:Ow (List eT)}{c0:List Value}{c1:List Value}{c2:List Value}(h0:a0.ro M g0 w c0 x.dirs)(h1:ey.rdc M w c1 x.fills)(h2:ey.rdc M w c2 x.hits)  : (gr a0).ro M g0 w [c0,c1,c2].flatten x:=by
 simp only[cW,dE,aO];exact⟨g0,noB,c0,_,λ _ h=>h,λ _ h=>h.elim,λ _ _ h=>h,Z,h0,⟨noB,noB,c1,_,λ _ h=>h.elim,λ _ h=>h,λ _ h=>h.elim,Z,h1,h2⟩⟩
theorem Z2[ey α]{oe:Ow α}{c:List Value}{x:α}(h:oe.ro M G1 w c x)(s:∀ b,G1 b->G b):iK oe M G w [c].flatten [x]:=⟨G1,noB,c,[],s,λ _ h=>h.elim,λ _ _ h=>h,by simp,h,Z⟩
section
variable{T:Prop}
variable{α β:Type}[ey α][ey β]
theorem Sx.iN{ow:Ow α}{oy:Ow β}{x:α}{y:β}{upd:β->α}(h:Sx F N M0 M Gs L O a w)(p p2:Nat)(hP:PH ow x v0 cf oy b off y upd)(hm:(c,b,off,u)∈cf)(hf:Fits β u)
       
  (ks:List Nat)  (qs:List Nat)    
  (next:∀{G2 G1},Sx F N M0 M ((Gs.set p G2).set p2 G1) L2 ((s,p2,eH oy G1 y)::(sb,p,lS ow oy G2 v0 b off upd)::O2) a w->T)(hc:c=true:=by rfl)(hu:(L++eB O).lookup s=some (fk u):=by rfl)(hp:p<Gs.length:=by simp)(hp2:p2<Gs.length:=by simp)(hne:p≠p2:=by decide)(hs:(L++eB O).lookup sb=some (eJ ow G x v0 cf):=by rfl)(hG:∀ b,G b->zj Gs p b:=by exact λ _ h=>h)(hk:ff ks L=some L2:=by rfl)(hq:fi L O qs p=some O2:=by rfl)(hq2:O2.all (λ q=>q.2.1 != p&&q.2.1 != p2)=true:=by rfl)(hsn:L2.lookup sb=none:=by rfl)(hdn:L2.lookup s=none:=by rfl):T:=by
 obtain⟨h1,⟨cs,h2,h3⟩,h4⟩:=h.st.has sb _ hs;obtain⟨G1,G2,C,e,s1,s2,hGb,n1,n2,hdj,hh',hsz,hr,put⟩:=hP.of h2 h3 h4;have hval:=rF hf hh' hsz (h4 _ hm hc).2.2;have hsv:Act.at a s=u:=h.st.has s _ hu;have k0:=h.kE hp (Grown.refl _ w) hk hq;have k1:=k0.sn (A:=λ k=>k=b\/G2 k) (B:=G1) hp hp2 hne (λ k hk=>hk.elim (λ e=>e ▸ hG b hGb) λ hk=>hG k (s2 k hk)) (λ k hk=>hG k (s1 k hk)) (λ k hk hk2=>hk.elim (λ e=>n1 (e ▸ hk2)) λ hk=>hdj k hk2 hk) hq2;have k2:=k1.gu (d:=sb) (p:=p) (x:=lS ow oy (λ k=>k=b\/G2 k) v0 b off upd) hsn ⟨h1,w,M,G2,cs,C,e,h3,iq.refl _ _ _,.inl Z,n2,λ _ h=>.inr h,hh',hsz,put⟩ λ k hk=>by rw[zq (br hne),zf hp];exact hk
 exact next (k2.gu (d:=s) (p:=p2) (x:=eH oy G1 y) hdn ⟨_,hr,hsv.trans hval⟩ λ k hk=>by rw[zf (by simpa using hp2)];exact hk)
end
section
variable{f:Nat}{T:Prop}
def QH(P:Program)(ops:Array Oper)(Q:Exit->Act->World->Prop)(S:World->Prop)(f:Nat)(listed:Array Bool):Exit->Act->World->Prop
 | .normal,a,w=>S w/\wpAnyH P .any ops Q S f listed a w
 | e,a,w=>Q e a w
theorem YN(ho:ops[i]?=some o)(h:wpList P ops (QH P ops Q S f (listed.setIfInBounds i true)) [o] a w):wpOp P ops Q i (λ a' w'=>S w'/\wpAnyH P .any ops Q S f (listed.setIfInBounds i true) a' w') a w:=by
 unfold wpOp;rw[ho];simp only;unfold wpList at h;have hl:LetsOut _->LetsOut Q:=λ⟨a,w,h⟩=>⟨a,w,h⟩
 have hn:∀ a w,wpList P ops (QH P ops Q S f _) [] a w->S w/\wpAnyH P .any ops Q S f (listed.setIfInBounds i true) a w:=λ a w h=>h
 split
 .rename_i hw;rw[Ke hw] at h;exact h.imp (Oper.AM hn hl) λ h=>⟨h.1,hl h.2⟩
 .rename_i hw;rw[Kf hw] at h;exact hn _ _ h
theorem MH(hr:Region.ready .any ops listed=[i])(ho:ops[i]?=some o)(h:wpList P ops (QH P ops Q S f (listed.setIfInBounds i true)) [o] a w):wpAnyH P .any ops Q S (f+1) listed a w:=
 ⟨λ e=>(by rw[hr] at e;cases e),λ j hj=>by
  rw[hr] at hj;simp at hj;subst hj;exact YN ho h⟩
theorem Ep(hr:Region.ready .any ops listed=[i,j])(ho:ops[i]?=some o)(ho2:ops[j]?=some o2)(h:wpList P ops (QH P ops Q S f (listed.setIfInBounds i true)) [o] a w)(h2:wpList P ops (QH P ops Q S f (listed.setIfInBounds j true)) [o2] a w):wpAnyH P .any ops Q S (f+1) listed a w:=
 ⟨λ e=>(by rw[hr] at e;cases e),λ k hk=>by
  rw[hr] at hk;simp at hk;rcases hk with rfl | rfl
  .exact YN ho h
  .exact YN ho2 h2⟩
theorem MG(hr:Region.ready .any ops listed=[])(h:Q .normal a w):wpAnyH P .any ops Q S f listed a w:=wpAnyH_done hr h f
theorem fC(hS:S w)(h:wpAnyH P .any ops Q S f listed a w):wpList P ops (QH P ops Q S f listed) [] a w:=⟨hS,h⟩
theorem Sx.held(S:World->Prop)(h:Sx F N M0 M Gs L O a w){id:Nat}(hm:P.follows .mixedOrders=true)(hQ:∀ w',Sx F N M0 M Gs L O a w'->wpAnyH P .any ops Q S ops.size (Array.replicate ops.size false) a w'):(Code.region id ops true).wp P Q a w:=
 wp_region_held hm (hQ _ h.drew)
theorem Sx.tk(h:Sx F N M0 M Gs L O a w)(ho:ops[i]?=some o)(hh:fH o N=some d)(hs:Region.noSelect ops=true)(hf:Region.free .any ops listed i=true)(hr:(Region.ready .any ops listed).contains i=true)
  (hQ:∀ c a w,Q (.panic c) (a.put o.dst v) w->Q (.panic c) a w) (hS:S w) (hy:∀ w,S w->(execOp a.eval o).run P w=.ok (.value v) w)
  (next:∀ a',Sx F N M0 M Gs ((d,fk v)::L) O a' w->wpAnyH P .any ops Q S f (listed.setIfInBounds i true) a' w):wpAnyH P .any ops Q S (f+1) listed a w:=
 wpAnyH_take ho hs hf hr hQ (.inl ⟨Ym (zK hh).1,hy⟩) hS (by rw[(zK hh).2.1];exact next _ (h.nY (zK hh).2.2 Z Z))
theorem mo{n:Nat}(ho:o.op=.fieldAddr t q n)(ht:fR P t n fo=true)(hv:a.eval q=.pointer (some ⟨b,off,none⟩)):∀ w,S w->(execOp a.eval o).run P w=.ok (.value (.pointer (some ⟨b,off+fo,none⟩))) w:=λ w _=>by
 unfold execOp;rw[ho];simp[hv,JI ht]
theorem pC(ho:o.op=.load t q)(ht:fM P t false 1=true)(hv:a.eval q=.pointer (some ⟨b,off,none⟩))(hS:∀ w,S w->w.cell? ⟨b,off,none⟩=some u):∀ w,S w->(execOp a.eval o).run P w=.ok (.value u) w:=λ w hw=>by
 have:=yA (cs:=[u]) ht Z (λ _=>Z) (λ j z hj=>by
  cases j with
  | zero=>simp at hj;subst hj;simpa using hS w hw
  | succ j=>simp at hj)
 unfold execOp;rw[ho];simp[Instr.loadAt,Instr.sureAddr,hv,this,gI]
theorem vE(ho:o.op=.move q)(hv:a.eval q=v):∀ w,S w->(execOp a.eval o).run P w=.ok (.value v) w:=λ w _=>by
 unfold execOp;rw[ho];simp[hv]
theorem Sx.kD{α:Type}[ey α]{ow:Ow α}{x:α}(h:Sx F N M0 M Gs L O a w)(hm:(c,b,off,u)∈cf)(hs:(L++eB O).lookup sb=some (eJ ow G x v0 cf):=by rfl)(hc:c=true:=by rfl)(hu:u.oneCell'=true:=by rfl):w.cell? ⟨b,off,none⟩=some u:=by
 obtain⟨_,_,h4⟩:=h.st.has sb _ hs;exact Jc hu (h4 _ hm hc).2.2
section
variable{α β:Type}[ey α][ey β]
def nz(ow:Ow α)(oy:Ow β)(G:Nat->Prop)(v0:Value)(b off:Nat)(u:Value)(upd:β->α):Dt where
 rd M w v:=(lS ow oy G v0 b off upd).rd M w v/\w.cell? ⟨b,off,none⟩=some u
 own:=G
 nb:=false
 nob h:=by cases h
 stable:=by
  rintro M w w' v ⟨h1,h2⟩ k
  refine⟨(lS ow oy G v0 b off upd).stable h1 k,?_⟩;obtain⟨_,wb,Mb,G2,cs,C,e,h3,hL,hGb,h6,h7,h8,h9,put⟩:=h1;have hh:w.heap[b]?=some (.cells C e (0,0)):=by rw[hL.same b (xM h8) (.inr (.inl Z))];exact h8
  have hh':w'.heap[b]?=some (.cells C e (0,0)):=by rw[k b (xM hh) (.inr hGb)];exact hh
  have e1:∀ w:World,w.heap[b]?=some (.cells C e (0,0))->w.cell? ⟨b,off,none⟩=C[off]?:=λ w h=>by simp[World.cell?,h]
  rw[e1 _ hh'] ;rw[e1 _ hh] at h2;exact h2
 weak:=λ⟨h1,h2⟩ k=>⟨(lS ow oy G v0 b off upd).weak h1 k,h2⟩
variable{oy:Ow β}
theorem Sx.ir{ow:Ow α}{upd:β->α}(h:Sx F N M0 M Gs L O a w)(hs:(L++eB O).lookup sb=some (nz ow oy G v0 b off u upd):=by rfl):w.cell? ⟨b,off,none⟩=some u:=(h.st.has sb _ hs).2
theorem Sx.tZ{ow:Ow α}{x:α}{y:β}{upd:β->α}(h:Sx F N M0 M Gs L O a w)(p p2:Nat)(hP:PH ow x v0 cf oy b off y upd)(hm:(c,b,off,u)∈cf)(hc:c=true)(hf:Fits β u)(hone:u.oneCell'=true)
  (hu:(L++eB O).lookup s=some (fk u)) (hp:p<Gs.length) (hp2:p2<Gs.length) (hne:p≠p2) (hs:(L++eB O).lookup sb=some (eJ ow G x v0 cf)) (hG:∀ b,G b->zj Gs p b)
  (ks:List Nat) (hk:ff ks L=some L2) (qs:List Nat) (hq:fi L O qs p=some O2) (hq2:O2.all (λ q=>q.2.1 != p&&q.2.1 != p2)=true) (hsn:L2.lookup sb=none) (hdn:L2.lookup s=none) (hss:sb≠s)
  (next:∀ G2 G1,Sx F N M0 M ((Gs.set p G2).set p2 G1) L2 ((s,p2,eJ oy G1 y u [])::(sb,p,nz ow oy G2 v0 b off u upd)::O2) a w->T):T:=by
 have hcell:=h.kD (hs:=hs) hm (hc:=hc) (hu:=hone);have hsv:=h.st.has s _ hu;refine h.iN p p2 hP hm (hc:=hc) hf (hu:=hu) (hp:=hp) (hp2:=hp2) (hne:=hne) (hs:=hs) (hG:=hG) ks (hk:=hk) qs (hq:=hq) (hq2:=hq2) (hsn:=hsn) (hdn:=hdn) @λ G2 G1 st=>next G2 G1 ?_
 refine⟨⟨st.st.fr,st.st.size,st.st.defers,st.st.mok,λ t z hz=>?_⟩,st.ob,st.no,?_⟩
 .rcases yw hz with h1 | ⟨h0,h1⟩
  .exact st.st.has t z (yN h1)
  .simp only[eB,af] at h1;cases h2:t == s with
   |true=>
    simp only[h2] at h1;injection h1 with h1;subst h1;have e:t=s:=by simpa using h2
    subst e;obtain⟨cs,k1,k2⟩:=st.st.has t (eH oy G1 y) (by rw[yi h0];simp[eB,af]);exact⟨hsv,⟨cs,k1,hsv.symm.trans k2⟩,λ q hq _=>by cases hq⟩
   |false=>
    simp[h2] at h1;cases h3:t == sb with
    |true=>simp only[h3] at h1;injection h1 with h1;subst h1;exact⟨st.st.has t _ (by rw[yi h0];simp only[eB,af,h2,h3]),hcell⟩
    |false=>simp[h3] at h1;exact st.st.has t z (by rw[yi h0];simp only[eB,af,h2,h3];exact h1)
 .exact⟨st.ow.1,st.ow.2.1,st.ow.2.2⟩
theorem Sx.pb{ow:Ow α}{y':β}{upd:β->α}(h:Sx F N M0 M Gs L O a w)(p p2:Nat)(hag:ey.agg β=false)(hp:p<Gs.length)(hp2:p2<Gs.length)(hne:p≠p2)
  (hvl:(L++eB O).lookup s=some (eJ oy G3 y' u cf)) (hs:(L++eB O).lookup sb=some (nz ow oy G v0 b off u upd)) (hG:∀ b,G b->zj Gs p b) (hG3:∀ b,G3 b->zj Gs p2 b)
  (ks:List Nat) (hk:ff ks L=some L2) (qs:List Nat) (hq:fi L O qs p=some O2) (hq2:O2.all (λ q=>q.2.1 != p2)=true) (hdn:L2.lookup sb=none)
  (next:∀ G',Sx F N M0 M ((Gs.set p G').set p2 (eA none)) L2 ((sb,p,eJ ow G' (upd y') v0 [])::O2) a w->T):T:=by
 obtain⟨hsv,⟨cy,hy,hyv⟩,_⟩:=h.st.has s _ hvl;obtain⟨⟨h1,wb,Mb,G2,cs,C,e,h3,hL,hGb,n2,s2,hhb,hsz,put⟩,hcell⟩:=h.st.has sb _ hs;have hob:=hG b hGb;have hh':w.heap[b]?=some (.cells C e (0,0)):=by rw[hL.same b (xM hhb) (.inr (.inl Z))];exact hhb
 obtain⟨u2,hu1,hu2⟩:=BZ hy hag;have hcu:cy=[u]:=by rw[hu1];congr 1;exact hu2.symm.trans hyv.symm
 have hCu:C[off]?=some u:=by simpa[World.cell?,hh'] using hcell
 have hsame:(C.toList.take off++cy++C.toList.drop (off+ey.size β)).toArray=C:=by
  rw[hcu,ey.one hag];have h5:=(aB.1 hCu).1;have h6:C.toList[off]?=some u:=by simpa using hCu
  apply Array.ext';have h7:=aV off C.toList;have h8:C.toList.drop off=u::C.toList.drop (off+1):=by
   rw[bt (by simpa using h5)]
   congr 1
   have:=aa (l:=C.toList) (by simpa using h5);rw[h6] at this;injection this with this;exact this.symm
  simp;rw[<-h8];exact h7
 have nb3:=λ h3=>h.ob.apart p p2 b hne hob (hG3 b h3)
 have k1:=(h.kE hp (Grown.refl _ w) hk hq).mJ hp hp2 hne hq2;have e1:J3 Gs p p2=(Gs.set p (λ b=>zj Gs p b\/zj Gs p2 b)).set p2 _:=rfl;rw[e1] at k1;refine next _ (k1.gu hdn ⟨h1,⟨cs,?_,h3⟩,λ q hq _=>by cases hq⟩ λ c hc=>?_)
 .refine put (c':=cy) (hL.sub λ _ h=>.inr h) (by rw[hsame];exact hh') hy nb3 (λ k hk hk2=>h.ob.apart p p2 k hne (hG k (s2 k hk2)) (hG3 k hk)) (.inl hob) (λ k hk=>.inr (hG3 k hk)) λ k hk=>.inl (hG k (s2 k hk))
 .rw[zq (br hne),zf hp];exact hc
end
end
theorem vL{fn:Func}{t u:Tmp}{A:Addr}{x:Value}(h:fn.results=#[.cell t ty,.tmp u])(ha:tmps.getD t undef=.pointer (some A))(hl:(loadVar ty A).run P w=.ok x w):(results fn tmps).run P w=.ok (.tuple #[x,tmps.getD u undef]) w:=by
 simp only[results,h];simp at ha;simp[ha,asAddr,hl]
theorem Sc{fn:Func}{t u:Tmp}{A:Addr}{x:Value}(h:fn.results=#[.cell t ty,.cell u ty2])(ha:tmps.getD t undef=.pointer (some A))(hl:(loadVar ty A).run P w=.ok x w)(ha2:tmps.getD u undef=.pointer (some A2))(hl2:(loadVar ty2 A2).run P w=.ok x2 w):(results fn tmps).run P w=.ok (.tuple #[x,x2]) w:=by
 simp only[results,h];simp at ha ha2;simp[ha,ha2,asAddr,hl,hl2]
section
variable{fn:Func}
variable{α β:Type}[ey α][ey β]
theorem Sx.Lo{t:Nat}{x:α}(h:Sx F N M0 M Gs L O a w)(ht:fM P ty (ey.agg α) (ey.size α)=true)(hl:(L++eB O).lookup t=some (eY g 0 x)):∃ (A:Addr) (v:Value),a.tmps.getD t undef=.pointer (some A)/\(loadVar ty A).run P w=.ok v w/\(dt x).rd M0 w v:=by
 obtain⟨b,_,hv,C,e,cs,hb,hc,hrr⟩:=h.st.has t _ hl;have hc':∀ j u,cs[j]?=some u->w.cell? ⟨b,0+j,none⟩=some u:=λ j u hj=>by
  have:=hc j u hj;rw[aD] at this ⊢;simp[World.cell?,hb,this]
 exact⟨_,_,hv,yA ht (ey.len hrr) ey.one hc',cs,ey.weak hrr λ k _ hk=>h.ob.sub k hk,Z⟩
theorem Sx.LI{t u:Nat}{x:α}(h:Sx (eG.of w0) N M0 M Gs L O a w)(hr:fn.results=#[.cell t ty,.tmp u])(ht:fM P ty (ey.agg α) (ey.size α)=true)(hl:(L++eB O).lookup t=some (eY g 0 x))(hy:y.rd M0 w (Act.at a u))(hn:y.nb=true)(hR:R=fZ [dt x,y]):bodyPost P fn (kZ M0 w0 R) .ret a w:=by
 subst hR;obtain⟨A,q,h1,h2,h3⟩:=h.Lo (P:=P) ht hl;exact⟨h.st.defers,_,vL hr h1 h2,_,Z,h.st.fr,[_,_],Z,.cons h3 (.cons hy .nil),λ q hq=>by
  simp only[aj,aF,bI] at hq;rcases hq with rfl | rfl
  .rfl
  .exact hn⟩
end
section
variable{fn:Func}
theorem M5{α:Type}[ey α]{x:α}(h:(eY g 0 x).rd M w v)(hs:∀ b,b<w.heap.size->M' b->M b)(hn:∀ b,eA g b->¬ M' b):(eX x).rd M' w v:=by
 obtain⟨b,hg,hv,C,e,cs,hb,hc,hr⟩:=h;refine⟨b,0,cs,hv,hn b hg,λ j u hj=>?_,ey.weak hr hs⟩;have:=hc j u hj;rw[aD] at this ⊢;simp[World.cell?,hb,this]
theorem Sx.Av{α:Type}[ey α]{x:α}(h:Sx F N M0 M Gs L O a w)(p:Nat)
  (ks:List Nat)  (qs:List Nat) (hs:(L++eB O).lookup s=some (eY g 0 x):=by rfl)(hg:Gs[p]?=some (eA g):=by rfl)(hk:ff ks L=some L2:=by rfl)(hq:fi L O qs p=some O2:=by rfl):Sx F N M0 (λ b=>M b/\¬ zj Gs p b) (Gs.set p (eA none)) ((s,eX x)::L2) O2 a w:=by
 have hsub:∀ k,k<w.heap.size->(M k/\¬ zj Gs p k)->M k:=λ k _ hk=>hk.1
 refine⟨⟨h.st.fr,h.st.size,h.st.defers,λ b hb=>h.st.mok b hb.1,λ s' y hx=>?_⟩,⟨λ b hb=>⟨h.ob.sub b hb,λ ho=>(h.ob.at_ p b ho).2.2 hb⟩,λ q b hb=>?_,λ q r b hne h1 h2=>?_⟩,λ s' y hx=>?_,gf.of λ q hq' b hb=>?_⟩
 .simp only[bG,af] at hx;by_cases he:s'=s
  .subst he;simp only[bd,Option.some.injEq] at hx;subst hx;exact M5 (h.st.has s' _ hs) (λ b _ hb=>hb.1) λ b hb hm=>hm.2 ((yJ hg b).2 hb)
  .have hb:(s' == s)=false:=by simpa using he
   simp only[hb] at hx;rcases yw hx with h1 | ⟨_,h1⟩
   .exact y.weak (h.st.has s' y (yN ((wn hk).spec s' y h1).1)) hsub
   .obtain⟨q,hq'⟩:=JK h1;exact y.weak (h.st.has s' y (ZT hq _ hq').2.2) hsub
 .by_cases hq':p=q
  .subst hq';rw[zf (YZ hg)] at hb;cases hb
  .rw[zq hq'] at hb;obtain⟨h1,h2,h3⟩:=h.ob.at_ q b hb;exact⟨h1,⟨h2,λ ho=>h.ob.apart p q b hq' ho hb⟩,h3⟩
 .by_cases hq':p=q
  .subst hq';rw[zf (YZ hg)] at h1;cases h1
  .rw[zq hq'] at h1;by_cases hr:p=r
   .subst hr;rw[zf (YZ hg)] at h2;cases h2
   .rw[zq hr] at h2;exact h.ob.apart q r b hne h1 h2
 .simp only[af] at hx;split at hx
  .injection hx with hx;subst hx;rfl
  .exact((wn hk).spec s' y hx).2
 .obtain⟨h2,h3,_⟩:=ZT hq _ hq';rw[zq (br h3)];exact h.ow.get _ h2 b hb
end
