import Derived.Test.YtoomehfflopakaaGreatDoorTH
namespace Go.Proofs.YtoomehfflopakaaGreatDoor
open Go.RowKit Tryz
attribute [local irreducible] eP eC
set_option maxRecDepth 10000
set_option maxHeartbeats 1600000
variable{f:File}{x:lA}{x2:Int}{ps:List (Nat×Nat)}{x0:Machine}{r:Machine×Int}{bk bl:Nat}{x1:Str}
theorem Pq:gb prog 117=true:=by kernel_rfl
theorem PQ:fM prog 73 false 1=true:=by kernel_rfl
theorem PI:gb prog 81=true:=by kernel_rfl
def YB(x0:List eU)(x1:File)(x2:Int):Option ((List Stmt)×(List eU)×Bool):=
(Zi x0).bind λ v2=>
(gO ((!v2) == false) (jC x1)).bind λ v3=>
(gO (((!v2)||(!v3)) == false) (ZA x2)).bind λ v4=>
 ite ((((!v2)||(!v3))||(!v4))=true) (some ([],[],false))<|(Y2 x0).bind λ a8=>
(qX x1).bind λ b5=>
(jR a8 x1.root b5 x1.init).bind λ a9=>
(gO (ez .geq a9 0 == true) (eN a8 a9)).bind λ b6=>
(gO (ez .geq a9 0 == true) (XU b6 x1)).bind λ b7=>
 ite ((ez .geq a9 0&&b7)=true) ((eN a8 a9).bind λ b8=>
(yR b8.body).bind λ b9=>
 some (b9,a8,true))<|(qK x1 x2).bind λ b3=>
 Option.bind (ite (ez .geq a9 0) ((eN a8 a9).bind λ d4=>
(mi a8 a9 b3).bind λ c8=>
 some c8)<|ite ((ez .lss a8.length 12)=true) ((fE 88 a8 [b3]).bind λ d1=>
 some d1)<|some a8) λ d2=>
(yR x1.body).bind λ d3=>
 some (d3,d2,false)
instance HU:ky prog 73 dt dt dt (λ r=>fZ [dt r.1,dt r.2.1,dt r.2.2]) YB:=⟨@λ x0 x1 x2 r h=>by
 refine fe 2 func73 λ M w0 _ j=>?_;refine j.z1 (λ j=>?_) (hs:=sZ 1 (r:=by exact sc Z (oA Z (wg (α:=Stmt)))<|sc Z (oA Z (jg (α:=eU) (e:=174)))<|eI));refine Kx h λ v2 p2 v3 p3 h=>kB h λ v4 p4 h=>j.zc h (λ j h=>?_) (λ j h=>?_) (hs:=sZ 1 (r:=by exact sc Z (oK (QX.1 p2))<|sZ 3 (r:=by exact sg Z Z (λ hg=>oK (CC.1 (gh hg p3)))<|sZ 4 (r:=by exact sg Z Z (λ hg=>oK (XT.1 (gh hg p4)))<|eI))))
 .refine j.zo [(7,0)] (λ j=>?_) (hs:=sc Z (wa (opds:=[]) (α:=Stmt) Z Z Z .nil)<|sc Z (xj (α:=eU) (e:=174) Z)<|eI)
  cases h;exact j.pR (j.frozen (t:=6)) (j.As (t:=7) 0 Z (λ _ h=>(by cases h))) (j.frozen (t:=8)) ⟨rfl,rfl,rfl⟩
 refine Ka<|j.zg 1 λ j=>?_;refine kB h λ d5 a9 h=>j.own (l:=[.tmp 27]) 0 Z Z Pq (.cons T .nil) (Us a9) (gl Z) [2,4] Z [] Z Z λ d6 _ _ _ j=>?_;refine j.zh 1 [(9,0)] (λ j=>Kb ?_);refine Kx h λ d7 b3 e0 b5 h=>j.zv [(9,0)] (λ j=>?_) (hs:=sV 4 (r:=by exact sw Z (zy (l:=[.tmp 32]) Z (.cons T .nil) (JX.1 b3))<|sV 2 (r:=by exact sw Z (yC (l:=[.tmp 29,.tmp 31,.tmp 33,.tmp 35]) j.ob.sub Z (.cons (borrow j.ob 0 Z T) (.cons (yG j.ob.sub T) (.cons (yG j.ob.sub T) (.cons (yG j.ob.sub T) .nil)))) (WF.1 b5) xQ)<|sw Z (oA Z T)<|.nil)));refine Kx h λ e3 b6 e4 b7 h=>j.zv [(9,0)] (λ j=>?_) (hs:=sV 1 (r:=by exact sw Z (gU Z T cI)<|sV 3 (r:=by exact gW Z Z (λ hg=>oC Z rl V V (gh hg b6))<|sV 2 (r:=by exact gW Z Z (λ hg=>zy (l:=[.tmp 43,.tmp 44]) Z (.cons V (.cons V .nil)) (Iq.1 (gh hg b7)))<|sw Z (xd Z T T)<|.nil))));refine j.cq h (λ h=>?_) λ h=>?_
 .have⟨e5,b8,h⟩:=bs h
  refine kB h λ e6 b9 h=>j.zo [(7,0)] (λ j=>?_) (hs:=sZ 2 (r:=by exact sc Z (oC Z rl T T b8)<|sZ 2 (r:=by exact sc Z (zy (l:=[.tmp 51]) Z (.cons T .nil) ((qt b9)).fn)<|eI)));cases h;exact j.pR (j.frozen (t:=6)) (j.As (t:=7) 0 Z (λ _ h=>h)) (j.frozen (t:=8)) ⟨Z,Z,Z⟩
 refine Ka<|kB h λ e7 e8 h=>j.zh 3 [(9,0)] λ j=>?_;refine j.fB 1 Ja [4,10,56] [9] λ e9 j=>?_;refine j.eW 11 1 eO.id (tp Z) [4,10] [9] (λ j=>Kb ?_);refine za<|j.kJ 2 [4] (λ _=>[]) (λ a8 q=>[(9,0,eQ (q 0) 174 a8)]) h (λ a8 c8=>?_) λ a8 f9 _ _ _ j h=>?_
 .refine j.zd [(9,0),(11,1)] c8 (λ j h=>?_) λ j h=>?_
  .refine Ka ?_
   refine kB h λ g0 d1 h=>j.zh 4 [(9,0),(63,0)] (λ j=>?_) (hs:=sZ 3 (r:=by exact sc Z (oC Z rl T T d1)<|.nil));refine kB h λ g3 d2 h=>j.storeT (sb:=9) 0 (tp Z) d2 [4] [] (λ _ _ j=>Kb ?_);cases h;exact fz
  refine j.zd [(9,0),(11,1)] h (λ j h=>?_) (λ j h=>?_) (hs:=sZ 1 (r:=by exact sc Z (rH Z T)<|eI))
  .refine Ka ?_
   refine j.zh 3 [(9,0),(68,0)] λ j=>?_;refine kB h λ g4 d3 h=>j.ic 0 yW d3 [4] [] λ g5 j=>?_;refine j.zh 1 [(9,0)] (λ j=>Kb ?_);cases h;exact fz
  cases h;exact fz
 refine kB h λ g6 d4 h=>j.zo [(7,0)] (λ j=>?_) (hs:=sZ 2 (r:=by exact sc Z (zy (l:=[.tmp 73]) Z (.cons T .nil) ((qt d4)).fn)<|eI));cases h;exact j.pR (j.frozen (t:=6)) (j.As (t:=7) 0 Z (λ _ h=>h)) (j.frozen (t:=8)) ⟨Z,Z,Z⟩⟩
def J4(x0:File):Option (List Stmt):=
 some x0.body
theorem Uo{x0 r}(h:J4 x0=some r):Fn prog 81 [dt x0] (dt r):=by
 refine fe 0 func81 λ M _ _ j=>?_;refine j.z1 (λ j=>?_) (hs:=sZ 1 (r:=by exact sc Z (oA Z (wg (α:=Stmt)))<|.nil));exact j.ze h
def We(x0:File)(x1:List eU)(x2:Int):Option ((List eU)×(List Stmt)):=
(YB x1 x0 x2).bind λ v2=>
 some (v2.2.1,v2.1)
abbrev vf:Ow (List eU):=Ow.eE (α:=List eU)
theorem Va{x0 x1 r}(h:We x0 x1 x2=some r):lP 1 prog 72 (Ow.box vf) ⟨x1⟩ [dt x0,eX x2] ⟨r.1⟩ (.eE (dt r.2)):=by
 refine sF (fn:=f72) 1 1 2 func72 Z Z Z (λ M G _ b0 _ j=>gj ?_);refine j.zo [(1,1)] (λ j=>?_) (hs:=sZ 1 (r:=by exact sc Z (oA Z (wg (α:=Stmt)))<|.nil));refine kB h λ v2 p2 h=>j.zo [(1,1)] (λ j=>?_) (hs:=sc Z (gi (sb:=1) Pb Z U Z)<|sZ 2 (r:=by exact sc Z (oK (HU.1 p2))<|eI));refine Ka<|j.zh 1 [(1,1)] λ j=>?_;refine j.gX 1 1 Pb (zt Z) (tp Z) [5] [] (λ j=>Kb ?_);refine j.zo [(1,1)] λ j=>?_;exact j.xD 1 1 h
def sB(x:lA)(f:File):Option (lA×List Stmt):=match x.o with
 | none=>(J4 f).bind λ r=>some (x,r)
 | some q=>(We f q.2 q.1.x).bind λ r=>some (⟨some (q.1,r.1)⟩,r.2)
abbrev vg(b:Nat):Ow (lA):=Ow.fw (δ:=C1 Int) (.func (.func 81) #[] #[]) 72 b vf
theorem Na{r}(h:sB x f=some r):kF prog (vg bl) x [dt f] r.1 (.eE (dt r.2)):=by
 obtain⟨o⟩:=x;unfold sB at h;cases o with
 |none=>
  obtain⟨r1,h1,h2⟩:=cb.1 h;injection h2 with h2
  subst h2;exact N9 PI (Uo h1) Z
 |some q=>
  obtain⟨r1,h1,h2⟩:=cb.1 h;injection h2 with h2
  subst h2;exact uM (d:=q.1) (Va h1)
theorem mX:gV prog 99 1=true:=by kernel_rfl
theorem mx:fM prog 139 false 1=true:=by kernel_rfl
theorem BE:fR prog 142 3 3=true:=by kernel_rfl
theorem rK:fR prog 142 0 0=true:=by kernel_rfl
theorem pD:fR prog 103 4 4=true:=by kernel_rfl
theorem Pr:gb prog 132=true:=by kernel_rfl
theorem uS:fR prog 142 1 1=true:=by kernel_rfl
theorem Qc:fR prog 142 5 5=true:=by kernel_rfl
theorem my:gV prog 140 3=true:=by kernel_rfl
theorem O':fR prog 188 0 0=true:=by kernel_rfl
theorem tG:fR prog 188 1 1=true:=by kernel_rfl
theorem OX:fR prog 103 6 6=true:=by kernel_rfl
theorem FF:∀ {M:Nat->Prop} {look:Nat->Option Dt} {o:Oper} {q0 q1:Operand} {y0:Int} {y1:Str},o.op=.build 197 #[(0,q0),(1,q1)]->eC M look q0 (dt y0)->eC M look q1 (dt y1)->eP prog M look o (dt (⟨y0,y1⟩:im)):=@λ _ _ _ q0 q1 y0 y1 ho h0 h1=>yf (parts:=[(0,q0),(1,q1)]) (ns:=[1,1]) (zs:=VQ) Z ho (λ w a hl=>FA ⟨(by decide:0<2),ey.len (α:=Int) (eC.cells h0 hl)⟩ (FA ⟨(by decide:1<2),ey.len (α:=Str) (eC.cells h1 hl)⟩ FN)) (λ w a hl=>im.parts (x:=(⟨y0,y1⟩:im)) (eC.cells h0 hl) (eC.cells h1 hl))
instance VZ:fT prog 103 6 6:=⟨OX⟩
def rA(x0:List (Bx eZ))(x1:(eZ->Option Bool))(s4:Int):Option (Int⊕(Unit⊕Int)):=
 ite ((ez .lss s4 x0.length)=true) ((eN x0 s4).bind λ a8=>
(x1 a8.x).bind λ a9=>
 ite (a9=true) (some (.inr (.inr s4)))<|(i64 (s4+1)).bind λ b3=>
 some (.inl b3))<|some (.inr (.inl ()))
def xf(x0:List (Bx eZ))(x1:(eZ->Option Bool)):Option Int:=
 Option.bind (zE (λ s4=>rA x0 x1 s4) 0) (Sum.elim (λ b2=>
 some (-1)) some)
theorem Yr{x0 x1 r}(h:xf x0 x1=some r):Fn prog 131 [dt x0,uG prog x1] (dt r):=by
 refine fe 0 func131 λ M w0 _ j=>?_;refine j.z1 (λ j=>za ?_);refine j.jb [] (λ _=>[]) h (λ o2 p2 k2=>?_) λ b2 _ _ j h=>?_
 .refine j.z1 λ j=>?_
  refine gk p2 (λ s4 a w=>Sx (eG.of w0) 19 M M [] [(0,dt x0),(7,dt (x0.length:Int)),(8,dt s4),(1,uG prog x1)] [] a w) (j.kv [0,7,8,1]) ?_;rintro s4 z4 _ _ j h hx4;refine j.zc h (λ j h=>?_) λ j h=>?_
  .refine j.z1 λ j=>?_
   refine Kx h λ a9 b3 b5 a8 h=>j.zc h (λ j h=>?_) (λ j h=>?_) (hs:=sZ 4 (r:=by exact sc Z (eP.bx (zG Z (ht:=mx) T))<|sc Z (T3 Z T T a8)<|.nil))
   .exact j.ze (jo (lo h hx4) k2)
   exact kB h λ b6 b7 h=>j.zn [] h
  exact fU (lo h hx4)
 exact j.ze h
def xy(x0:eZ)(x1:Str):Option Bool:=
 some (x0.cached&&decide (x0.name=x1))
theorem Uf{x0 r}(h:xy x0 x1=some r):Fn prog 132 [eX x0,eX x1] (dt r):=by
 refine fe 0 func132 λ M _ _ j=>?_;refine j.z1 λ j=>?_;refine j.zw λ j=>?_;exact j.ret Z Z h
def yk(x0:Machine)(x1:Str):Option Int:=
(xf x0.modules (λ a0=>xy a0 x1)).bind λ v2=>
 some v2
instance xp:fY prog 82 eX dt dt yk:=⟨@λ x0 x1 r h=>by
 refine fe 0 func82 λ M _ a0 j=>?_;refine j.z1 λ j=>?_;exact kB h λ v2 p2 h=>j.ze h (hs:=sZ 4 (r:=by exact sc Z (T7 (l:=[.tmp 3]) (g:=(λ a0=>xy a0 x1)) Z Pr (.cons T .nil) Z (λ _ _ h=>Uf h))<|sc Z (oK (Yr p2))<|eI))⟩
def yO(a8:Str×Int):Option ((Str×Int)⊕Str):=
 ite ((ez .gtr a8.2 1&&decide (a8.1≠⟨[]⟩))=true) ((xJ a8.1).bind λ a9=>
(i64 (a8.2 - 1)).bind λ b3=>
 some (.inl (a9,b3)))<|some (.inr a8.1)
def qL(x0:Str)(x1:Int)(x2:Str):Option Str:=
(xm x0).bind λ v2=>
(gO ((!v2) == false) (xm x2)).bind λ v3=>
(gO (((!v2)||(!v3)) == false) (yg x1 0 4)).bind λ v4=>
 ite ((((!v2)||(!v3))||(!v4))=true) (some ⟨[]⟩)<|ite (ez .eql x1 0) (some x2)<|Option.bind (zE (λ b3=>yO b3) (x0,x1)) λ a8=>
 ite ((decide (a8=⟨[]⟩))=true) (some ⟨[]⟩)<|Option.bind (ite ((decide (x2≠⟨[]⟩))=true) ((kT ⟨[46]⟩ x2).bind λ b5=>
(kT a8 b5).bind λ b6=>
 some b6)<|some a8) λ a9=>
(ym a9).bind λ b7=>
 ite ((!b7)=true) (some ⟨[]⟩)<|some a9
instance QL:ky prog 177 dt dt dt dt qL:=⟨@λ x0 x1 x2 r h=>by
 refine fe 0 func177 λ M w0 _ j=>?_;refine j.z1 λ j=>?_;refine Kx h λ v2 p2 v3 p3 h=>kB h λ v4 p4 h=>j.zc h (λ j h=>?_) (λ j h=>?_) (hs:=sZ 1 (r:=by exact sc Z (oK (jk.1 p2))<|sZ 3 (r:=by exact sg Z Z (λ hg=>oK (jk.1 (gh hg p3)))<|sZ 4 (r:=by exact sg Z Z (λ hg=>oK (yX.1 (gh hg p4)))<|eI))))
 .exact j.ze h
 refine j.zc h (λ j h=>?_) λ j h=>?_
 .exact j.ze h
 refine kQ<|za<|j.jm [2] (λ a9=>[(0,dt a9)]) h (λ a9 b7=>?_) λ a9 _ _ j h=>?_
 .refine gk b7 (λ a8 a w=>Sx (eG.of w0) 45 M M [] [(0,dt a8.1),(1,dt a8.2),(2,dt x2)] [] a w) (j.kv [0,1,2]) ?_
  rintro a8 b8 _ _ j h b5;refine j.zc h (λ j h=>?_) λ j h=>?_
  .have⟨c8,d1,h⟩:=bs h
   refine j.z1 λ j=>?_;exact kB h λ d2 d3 h=>j.zn [] h
  cases lo h b5;exact fz
 refine j.zc h (λ j h=>?_) λ j h=>?_
 .exact j.ze h
 refine kQ<|za<|j.jm [] (λ b6=>[(0,dt b6)]) h (λ b6 b9=>?_) λ b6 _ _ j h=>?_
 .refine j.zc b9 (λ j h=>?_) λ j h=>?_
  .have⟨d4,d5,h⟩:=bs h
   refine kB h λ d6 d7 h=>j.z1 λ j=>?_;cases h;exact fz
  cases h;exact fz
 refine kB h λ e0 e3 h=>j.zc h (λ j h=>?_) λ j h=>?_
 .exact j.ze h
 exact j.ze h⟩
def wv(x0:eZ):Option Str:=
 ite (ez .eql x0.kind 1) ((xJ x0.name).bind λ v5=>
 some v5)<|some x0.name
instance Wq:gC prog 178 eX dt wv:=⟨@λ x0 r h=>by
 refine fe 0 func178 λ M _ _ j=>?_;refine j.z1 λ j=>?_;refine j.zc h (λ j h=>?_) λ j h=>?_
 .have⟨v5,p5,h⟩:=bs h
  exact j.ze h
 exact j.ze h⟩
def xZ(x0:eZ)(x1:Str)(s6:fu×Int):Option ((fu×Int)⊕(fu⊕(fu×Bool))):=
 ite ((ez .lss s6.2 x0.attrs.length)=true) ((eN x0.attrs s6.2).bind λ a8=>
 ite ((decide (a8.name=x1))=true) (some (.inr (.inr (a8.value,true))))<|(i64 (s6.2+1)).bind λ a9=>
 some (.inl (s6.1,a9)))<|some (.inr (.inl s6.1))
def wl(x0:eZ)(x1:Str):Option (fu×Bool):=
 Option.bind (zE (λ s6=>xZ x0 x1 s6) (tc,0)) (Sum.elim (λ b4=>
 some (⟨0,0⟩,false)) some)
instance jr:fY prog 179 eX dt (λ r=>fZ [dt r.1,dt r.2]) wl:=⟨@λ x0 x1 r h=>by
 refine fe 2 func179 λ M w0 _ j=>?_;refine Ka<|j.fB 0 nR [0,1] [] λ b2 j=>?_;refine j.zh 1 [(4,0)] (λ j=>Kb ?_);refine za<|j.mH 2 [] (λ _=>[]) (λ b4 q=>[(4,0,eY (q 0) 0 b4)]) h (λ o4 p4 k4=>?_) λ b4 q4 _ _ _ j h=>?_
 .refine j.zo [(4,0)] λ j=>?_
  refine gk p4 (λ s6 a w=>∃ M1 Q R,Sx (eG.of w0) 25 M M1 [eA Q,eA R] [(1,dt x1),(11,dt x0.attrs),(12,dt (x0.attrs.length:Int)),(13,dt s6.2)] [(4,0,eY Q 0 s6.1)] a w) fx ?_;rintro s6 z6 _ _ ⟨_,Q,R,j⟩ h hx6;refine j.zd [(4,0)] h (λ j h=>?_) λ j h=>?_
  .refine Ka ?_
   refine kB h λ a8 a9 h=>j.zh 2 [(4,0)] λ j=>?_;refine j.fB 1 KY [1,11,12,13,16] [4] λ b3 j=>?_;refine j.eW 7 1 eO.id (tp Z) [1,11,12,13] [4] (λ j=>Kb ?_);refine j.zd [(4,0),(7,1)] h (λ j h=>?_) λ j h=>?_
   .refine Ka ?_
    refine j.zh 2 [(4,0)] λ j=>?_;refine j.eW 4 0 eO.id (tp Z) [] [] λ j=>?_;refine j.zh 1 [(4,0)] (λ j=>Kb ?_);have h:=lo h hx6;cases jo h k4;exact j.y2
   exact kB h λ b5 b6 h=>j.zn [(4,0)] h
  exact fU (lo h hx6)
 refine Ka<|j.zh 1 [(4,0)] (λ j=>?_) (hs:=sc Z (yf (parts:=[]) (ns:=[1,1]) (zs:=Ao) Z Z (λ w a hl=>by simp) (λ w a hl=>fu.parts (x:=(⟨0,0⟩:fu)) ⟨Z,trivial⟩ ⟨Z,trivial⟩))<|.nil);refine j.eW 4 0 eO.id (tp Z) [] [] λ j=>?_;refine j.zh 1 [(4,0)] (λ j=>Kb ?_);cases h;exact j.y2⟩
def Y4(x0:Tree)(x1:List Int)(x2:Int):Option Machine:=
 some ⟨x0,x1,⟨none⟩,⟨none⟩,[],[],[],[],x2⟩
abbrev iV:Ow (List Int):=Ow.row 3 (Ow.eE (α:=Int))
abbrev py:Ow (List im):=Ow.row 197 (Ow.eE (α:=im))
abbrev lE:Ow (List Str):=Ow.row 9 (Ow.eE (α:=Str))
abbrev kH(b c:Nat)(ps:List (Nat×Nat)):Ow (Bx Machine):=Ow.box (eS (nD b) (vg c) (Ow.ig ps 139 (fD lb)) iV py lE)
theorem Uu{x0 x1 r}(h:Y4 x0 x1 x2=some r):iF prog 52 [dt x0,dt x1,dt x2] (.ow (kH bk bl []) ⟨r⟩):=by
 refine mW (fn:=f52) 4 func52 Z Z (λ M _ _ j=>gj ?_);refine j.z1 (λ j=>?_) (hs:=sZ 1 (r:=by exact sc Z (oA Z Gz)<|.nil));refine Ka<|j.zg 3 λ j=>?_;refine j.lN (ow:=(eS (nD bk) (vg bl) (Ow.ig [] 139 (fD lb)) iV py lE)) (parts:=[(0,.tmp 7),(1,.tmp 8),(8,.tmp 9),(3,.func 81)]) (ns:=[1,1,1,1,1,1,1,1,1]) (zs:=VR) (x:=(⟨x0,x1,⟨none⟩,⟨none⟩,[],[],[],[],x2⟩:Machine)) 3 [] (FA ⟨by decide,ey.len (α:=Tree) (j.oc T)⟩ (FA ⟨by decide,ey.len (α:=List Int) (j.oc T)⟩ (FA ⟨by decide,ey.len (α:=Int) (j.oc T)⟩ (FA ⟨by decide,Z⟩ FN)))) (((eS (nD bk) (vg bl) (Ow.ig [] 139 (fD lb)) iV py lE)).more (eS.mk (x:=(⟨x0,x1,⟨none⟩,⟨none⟩,[],[],[],[],x2⟩:Machine)) (j.oc T) (j.oc T) ((Ow.tT Z) _ _) ((Ow.tT Z) _ _) (Sh _ _) (Ow.gB _ _) (Ow.gB _ _) (Ow.gB _ _) (j.oc T) (λ b h1=>(λ h2=>h2.elim (λ h2=>h2.elim) (λ h2=>h2.elim (λ h2=>h2.elim) (λ h2=>h2.elim (λ h2=>h2.elim) (λ h2=>h2.elim (λ h2=>h2.elim) (λ h2=>h2.elim)))))) (λ b h1=>(λ h2=>h2.elim (λ h2=>h2.elim) (λ h2=>h2.elim (λ h2=>h2.elim) (λ h2=>h2.elim (λ h2=>h2.elim) (λ h2=>h2.elim))))) (λ b h1=>(λ h2=>h2.elim (λ h2=>h2.elim) (λ h2=>h2.elim (λ h2=>h2.elim) (λ h2=>h2.elim)))) (λ b h1=>(λ h2=>h2.elim (λ h2=>h2.elim) (λ h2=>h2.elim))) (λ b h1=>(λ h2=>h2.elim))) (λ b=>(λ hb=>hb.elim (λ hb=>hb.elim) (λ hb=>hb.elim (λ hb=>hb.elim) (λ hb=>hb.elim (λ hb=>hb.elim) (λ hb=>hb.elim (λ hb=>hb.elim) (λ hb=>hb.elim (λ hb=>hb.elim) (λ hb=>hb.elim)))))))) [] [] (@λ G3 _ _ j=>?_);have j:=j.gs (Gs':=[eA none,eA none,eA none,G3]);have j:=j.gs (Gs':=[eA none,eA none,eA none,G3]);refine j.nT 0 3 [] [] λ b6 _ _ _ _ j=>?_;have j:=j.gn;refine j.zh 1 [(6,0)] (λ j=>Kb ?_);have j:=j.fv (s:=6) 0 [];exact j.pS 0 (iy h)
def xB(x0:Machine)(x1:Int)(x2:Str):Option Machine:=
(fE 24 x0.log [(⟨x1,x2⟩:im)]).bind λ v8=>
 some {x0 with log:=v8}
theorem Zk{x1 x2 r}(h:xB x0 x1 x2=some r):fP prog 133 (kH bk bl ps) ⟨x0⟩ [dt x1,dt x2] ⟨r⟩ .gone:=by
 refine kI (fn:=f133) 0 2 func133 Z Z (λ M G _ b0 _ j=>gj ?_);refine Ka<|j.fL 0 0 (Pb.eD eS.f6) [] λ g1 A1 _ hA1 j=>?_;refine j.zh 9 [(0,0)] (λ j=>?_) (hs:=sZ 7 (r:=by exact sc Z (FF Z T T)<|eI));refine j.iN (s:=10) (sb:=0) 0 1 (Pb.eD eS.f6) (.head _) (zR Z Z) [6,14] [] λ j=>?_;refine j.kx (s:=10) 1 (by first | (simp;done) | exact oD rfl) [0] λ g5 j=>?_;refine kB h λ v8 p8 h=>j.ic 1 yW p8 [6] [0] λ g7 j=>?_;refine j.zh 2 [(0,0),(15,1)] λ j=>?_;have j:=j.iO (s:=15) 1 [0];refine j.kg 0 15 0 1 (tp Z) [] [] (λ j=>Kb ?_);exact(j.iD (s:=0) 0 (iy h)).2
theorem FB:pf prog 188 [1,2]=true:=by kernel_rfl
theorem FC:Zx prog 188 [1,2]=some An:=by kernel_rfl
theorem OR:∀ {M:Nat->Prop} {look:Nat->Option Dt} {o:Oper} {q0 q1:Operand} {y0:Str} {y1:fu},o.op=.build 188 #[(0,q0),(1,q1)]->eC M look q0 (dt y0)->eC M look q1 (dt y1)->eP prog M look o (dt (⟨y0,y1⟩:fI)):=@λ _ _ _ q0 q1 y0 y1 ho h0 h1=>yf (parts:=[(0,q0),(1,q1)]) (ns:=[1,2]) (zs:=An) Z ho (λ w a hl=>FA ⟨(by decide:0<2),ey.len (α:=Str) (eC.cells h0 hl)⟩ (FA ⟨(by decide:1<2),ey.len (α:=fu) (eC.cells h1 hl)⟩ FN)) (λ w a hl=>fI.parts (x:=(⟨y0,y1⟩:fI)) (eC.cells h0 hl) (eC.cells h1 hl))
theorem FG:iH prog 140 188 3 32=true:=by kernel_rfl
theorem BF:fR prog 142 4 4=true:=by kernel_rfl
theorem BC:fR prog 103 7 7=true:=by kernel_rfl
theorem Bz:fR prog 103 0 0=true:=by kernel_rfl
theorem OW:fR prog 103 1 1=true:=by kernel_rfl
theorem uR:fR prog 103 2 2=true:=by kernel_rfl
theorem FQ:gb prog 136=true:=by kernel_rfl
theorem FJ:fR prog 142 2 2=true:=by kernel_rfl
instance VW:fT prog 103 4 4:=⟨pD⟩
instance V0:fT prog 103 7 7:=⟨BC⟩
instance X':fT prog 142 0 0:=⟨rK⟩
instance aaf:fT prog 142 5 5:=⟨Qc⟩
instance aao:fT prog 188 0 0:=⟨O'⟩
def x8(x0:eZ)(x1:Str)(x2:fu)(s6:eZ×Int):Option ((eZ×Int)⊕(eZ⊕eZ)):=
 ite ((ez .lss s6.2 x0.attrs.length)=true) ((eN s6.1.attrs s6.2).bind λ a8=>
 ite ((decide (a8.name=x1))=true) ((eN s6.1.attrs s6.2).bind λ a9=>
 some (.inr (.inr ({ s6.1 with attrs:=(s6.1.attrs.set s6.2.toNat {a9 with value:=x2}) }))))<|(i64 (s6.2+1)).bind λ b3=>
 some (.inl (s6.1,b3)))<|some (.inr (.inl s6.1))
def yL(x0:eZ)(x1:Str)(x2:fu):Option eZ:=
 Option.bind (zE (λ s6=>x8 x0 x1 x2 s6) (x0,0)) (Sum.elim (λ b2=>
(fE 32 b2.attrs [(⟨x1,x2⟩:fI)]).bind λ a8=>
 some {b2 with attrs:=a8}) some)
theorem qM{x0 x2 r}(h:yL x0 x1 x2=some r):fP prog 87 (Ow.box (fD lb)) ⟨x0⟩ [dt x1,dt x2] ⟨r⟩ .gone:=by
 refine kI (fn:=f87) 0 2 func87 Z Z (λ M G w0 b0 _ j=>gj ?_);refine j.zo [(0,0)] (λ j=>za ?_);have⟨o2,p2,k2⟩:=bs h;refine ib (λ a w=>∃ b2,o2=.inl b2/\(∃ M1 Q R,Sx (eG.ft w0 G) 46 M M1 [Q,R] [(1,dt x1),(5,eX x2)] [(0,0,eJ (Ow.box (fD lb)) Q ⟨b2⟩ (.pointer (some ⟨b0,0,none⟩)) [])] a w)) ?_ ?_
 .refine j.fL 0 0 (Pb.eD fD.f5) [] λ g3 A3 _ hA3 j=>?_
  refine j.zo [(0,0)] (λ j=>?_) (hs:=sZ 4 (r:=by exact sc Z (oE Z T)<|eI));have j:=j.gS (s:=0) 0 [];refine gk p2 (λ s6 a w=>∃ M1 Q R,Sx (eG.ft w0 G) 46 M M1 [Q,R] [(1,dt x1),(5,eX x2),(11,dt (x0.attrs.length:Int)),(12,dt s6.2)] [(0,0,eJ (Ow.box (fD lb)) Q ⟨s6.1⟩ (.pointer (some ⟨b0,0,none⟩)) [])] a w) fx ?_;rintro s6 z6 _ _ ⟨_,Q,R,j⟩ h hx6;refine j.zd [(0,0)] h (λ j h=>?_) λ j h=>?_
  .refine j.zo [(0,0)] λ j=>?_
   refine kB h λ c8 b3 h=>j.fL 0 0 (Pb.eD fD.f5) [] λ b6 d1 _ a8 j=>?_;refine j.zo [(0,0)] (λ j=>?_) (hs:=sZ 5 (r:=by exact sc Z (gJ (g:=b6) Z my T T Z (λ h=>a8 h Z) b3)<|sZ 1 (r:=by exact sc Z (gi (sb:=0) (((Pb.eD fD.f5).row (.head _) Z (λ h=>a8 h Z) b3).eD fI.z0) Z T Z)<|eI)));have j:=j.gS (s:=0) 0 [];refine j.cq h (λ h=>?_) λ h=>?_
   .have⟨d2,b5,h⟩:=bs h
    refine j.fL 0 0 (Pb.eD fD.f5) [] λ b7 d3 _ a9 j=>?_;refine j.zu 8 [(0,0)] (λ j=>?_) (hs:=sw Z (oM Z U)<|sw Z (gK Z T)<|sw Z (eV Z Qc T)<|sw Z (fS (sb:=0) (.head _) Z Z Z T Z)<|sw Z (oM Z T)<|sw Z (zG Z T)<|sw Z (gJ (g:=b7) Z my T T Z (λ h=>a9 h Z) b5)<|sw Z (eV Z tG T)<|.nil);refine j.kM (sb:=0) 0 (((Pb.eD fD.f5).row (.head _) Z (λ h=>a9 h Z) b5).eD fI.z1) (tp Z) (tp Z) [] [] (λ j=>Kb ?_);exact(j.iD (s:=0) 0 (iy (jo (lo h hx6) k2))).1
   exact kB h λ d4 d5 h=>j.zn [(0,0)] h
  exact fU (lo h hx6)
 rintro _ _ ⟨b2,rfl,⟨_,Q,R,j⟩⟩;have h:=jn k2;refine j.held (λ _=>True) zP λ _ j=>?_;refine j.tN 0 0 trivial λ _ j=>?_;refine j.fL 0 0 (Pb.eD fD.f5) [] λ d6 d7 _ b8 j=>?_;refine j.nV (D:=[_,_,_,_,_,_,_,_,_]) 9 [0] [[(0,nS)],[(0,nS)],[(35,1)],[(36,2)],[(37,3),(0,nS)],[(1,nS)],[(5,nS)],[(39,5),(40,6)],[(41,7)],[(38,4),(42,8)],[(34,0)],[(44,10)],[(45,11),(43,9)]] (
  rc Z Z (oM Z U)<|
  rc Z Z (oM Z U)<|
  rc Z Z (gK Z T)<|
  rc Z Z (eV Z Qc T)<|
  rc Z Z (fS (sb:=0) (.head _) Z Z Z T Z)<|
  rc Z Z (oM Z T)<|
  rc Z Z (zG Z T)<|
  rc Z Z (OR Z T T)<|
  rc Z Z (wa (opds:=[.tmp 41]) Z (ht':=my) Z Z (.cons T .nil))<|.nil) (by
 intro i hi x d hx
 simp only[aj,aF,bI] at hi
 rcases hi with rfl
 all_goals (injection hx with hx;injection hx with h1 h2;subst h1;subst h2;rfl)) [34,38,42] [(0,0)] Z ⟨λ _ h=>h,trivial⟩ (λ j=>?_)
 refine j.iN (s:=38) (sb:=0) 0 1 (Pb.eD fD.f5) (.head _) (zR Z Z) [34,42] [] λ j=>?_;refine j.kx (s:=38) 1 (by first | (simp;done) | exact oD rfl) [0] λ e0 j=>?_;refine kB h λ e3 b9 h=>j.ic 1 yW b9 [34] [0] λ e4 j=>?_;refine j.zh 2 [(0,0),(43,1)] λ j=>?_;have j:=j.iO (s:=43) 1 [0];refine j.kg 0 43 0 1 (tp Z) [] [] (λ j=>Kb ?_);exact(j.iD (s:=0) 0 (iy h)).2
def qN(x0:Machine)(x1:Int):Option (Machine×Int):=
(eN x0.modules x1).bind λ v3=>
(x0.modules[x1.toNat]?).bind λ v8=>
(xB x0 3 v8.x.name).bind λ a8=>
 Option.bind ((a8.modules[x1.toNat]?).bind λ a9=>
(gO ((!a9.x.done) == true) (a8.modules[x1.toNat]?)).bind λ b3=>
(gO ((!a9.x.done) == true) (zQ a8.part b3.x.name)).bind λ b5=>
 ite (((!a9.x.done)&&(!b5))=true) ((a8.modules[x1.toNat]?).bind λ b6=>
(fE 16 a8.part [b6.x.name]).bind λ b7=>
 some {a8 with part:=b7})<|some a8) λ b8=>
 some (b8,x1)
theorem QM{x1}(h:qN x0 x1=some r):fP prog 83 (kH bk bl ps) ⟨x0⟩ [dt x1] ⟨r.1⟩ (.eE (dt r.2)):=by
 refine kI (fn:=f83) 0 2 func83 Z Z (λ M G w0 b0 _ j=>gj ?_);refine j.zo [(0,0)] λ j=>?_;refine kB h λ v3 p3 h=>j.mb (s:=0) 0 true (λ _=>(Pb.eD eS.f4)) [] λ g2 A2 _ hA2 j=>?_;refine j.mI (s:=0) 0 (Xf (eS.mG (XP (zJ (yS p3).2)))) [] λ b4 j=>?_;refine j.zo [(0,0)] (λ j=>?_) (hs:=sZ 5 (r:=by exact sc Z (gJ (g:=g2) Z mX T T Z (λ h=>hA2 h Z) p3)<|sc Z (mO (sb:=0) (Pb.eD eS.f4) (.head _) Z (λ h=>hA2 h Z) (.head _) (yS p3).2 (cj _) Z mx T Z)<|eI));have j:=j.gS (s:=0) 0 [];refine Ka<|kB h λ v8 p8 h=>j.zh 5 [(0,0)] (λ j=>?_) (hs:=sZ 4 (r:=by exact sc Z (gi (sb:=0) (((Pb.eD eS.f4).ig (.head _) p8).eD fD.f0) Z T Z)<|.nil));refine kB h λ d4 a8 h=>j.gL 0 0 (fP.any (Zk a8)) [1,5] [] (λ j=>Kb ?_);refine za ?_;have⟨a9,b3,b5⟩:=bs h;refine ib (λ a w=>∃ M1 Q R,Sx (eG.ft w0 G) 50 M M1 [Q,R] [(1,dt x1)] [(0,0,eJ (kH bk bl ((x1.toNat,b4)::ps)) Q ⟨a9⟩ (.pointer (some ⟨b0,0,none⟩)) [])] a w) ?_ ?_
 .have⟨b6,b7,h⟩:=bs b3
  refine Kx h λ d5 b8 d6 b9 h=>j.oZ (s:=0) 0 ((!b6.x.done) == true) (λ hg=>(Pb.eD eS.f7)) [] λ d7 e0 _ c8 j=>?_;refine j.zv [(0,0)] (λ j=>?_) (hs:=sw Z (oM Z T)<|sw Z (gK Z T)<|sw Z (eV Z BF T)<|sw Z (gi (sb:=0) (((Pb.eD eS.f4).ig (.head _) b7).eD fD.f4) Z T Z)<|sw Z (ZQ Z T)<|sw Z (oM Z T)<|gW Z Z (λ hg=>oM Z U)<|gW Z Z (λ hg=>gK Z V)<|gW Z Z (λ hg=>eV Z BC V)<|gW Z Z (λ hg=>fS (sb:=0) (.head _) hg Z Z V Z)<|gW Z Z (λ hg=>oM Z T)<|gW Z Z (λ hg=>gK Z V)<|gW Z Z (λ hg=>eV Z rK V)<|gW Z Z (λ hg=>gi (sb:=0) (((Pb.eD eS.f4).ig (.head _) (gh hg b8)).eD fD.f0) Z V Z)<|gW Z Z (λ hg=>yC (l:=[.tmp 28,.tmp 32]) j.ob.sub Z (.cons (mw (sb:=0) j.ob 0 (Pb.eD eS.f7) (.head _) hg (zR Z Z) V Z) (.cons (yG j.ob.sub V) .nil)) (ZG.1 (gh hg b9)) jh)<|gW Z Z (λ hg=>ZQ Z V)<|sw Z (xd Z T T)<|.nil);have j:=j.gS (s:=0) 0 [];refine j.cq h (λ h=>?_) λ h=>?_
  .refine j.held (λ _=>True) zP λ _ j=>?_
   refine j.tN 0 0 trivial λ _ j=>?_;refine kB h λ e3 d1 h=>j.fL 0 0 (Pb.eD eS.f7) [] λ e4 e5 _ d2 j=>?_;refine j.nV (D:=[_,_,_,_,_,_,_,_,_,_]) 10 [0] [[(0,nS)],[(0,nS)],[(37,1)],[(38,2)],[(39,3),(0,nS)],[(5,nS)],[(41,5)],[(42,6),(0,nS)],[(43,7),(0,nS)],[(44,8)],[(40,4),(45,9)],[(36,0)],[(47,11)],[(48,12),(46,10)]] (
    rc Z Z (oM Z U)<|
    rc Z Z (oM Z U)<|
    rc Z Z (gK Z T)<|
    rc Z Z (eV Z BC T)<|
    rc Z Z (fS (sb:=0) (.head _) Z Z Z T Z)<|
    rc Z Z (oM Z T)<|
    rc Z Z (gK Z T)<|
    rc Z Z (eV Z rK T)<|
    rc Z Z (gi (sb:=0) (((Pb.eD eS.f4).ig (.head _) d1).eD fD.f0) Z T Z)<|
    rc Z Z (wa (opds:=[.tmp 44]) Z (ht':=W3) Z Z (.cons T .nil))<|.nil) (by
 intro i hi x d hx
 simp only[aj,aF,bI] at hi
 rcases hi with rfl
 all_goals (injection hx with hx;injection hx with h1 h2;subst h1;subst h2;rfl)) [1,36,40,45] [(0,0)] Z ⟨λ _ h=>h,trivial⟩ (λ j=>?_)
   refine j.iN (s:=40) (sb:=0) 0 1 (Pb.eD eS.f7) (.head _) (zR Z Z) [1,36,45] [] λ j=>?_;refine j.kx (s:=40) 1 (by first | (simp;done) | exact oD rfl) [0] λ e6 j=>?_;refine kB h λ e7 d3 h=>j.ic 1 yW d3 [1,36] [0] λ e8 j=>?_;refine j.zh 2 [(0,0),(46,1)] λ j=>?_;have j:=j.iO (s:=46) 1 [0];refine j.kg 0 46 0 1 (tp Z) [1] [] (λ j=>Kb ?_);cases h;exact fz
  cases h;exact fz
 rintro _ _ ⟨_,Q,R,j⟩;have h:=b5;refine j.zo [(0,0)] λ j=>?_;have j:=j.kf 0 0 (wh (eS.iW (xz (λ _ h=>(.tail _ h))))) [];exact j.xF 0 0 h
def xV(x0:Machine)(x1:Str):Option (Machine×Spec):=
(xJ x1).bind λ v3=>
 ite ((decide (v3=⟨[]⟩))=true) ((XW x0.t x0.path ⟨[]⟩ x1 x0.known).bind λ a9=>
 some ({ x0 with known:=a9.1 },a9.2))<|(yk x0 v3).bind λ a8=>
(gO (ez .lss a8 0 == false) (eN x0.modules a8)).bind λ b9=>
(gO (ez .lss a8 0 == false) (x0.modules[a8.toNat]?)).bind λ b5=>
 ite ((ez .lss a8 0||ez .eql b5.x.kind 1)=true) ((Xg).bind λ b6=>
 some (x0,b6))<|(eN x0.modules a8).bind λ c8=>
(x0.modules[a8.toNat]?).bind λ b7=>
(qg x1).bind λ b8=>
(XW x0.t b7.x.roots v3 b8 x0.known).bind λ b3=>
 some ({ x0 with known:=b3.1 },b3.2)
theorem J5{r}(h:xV x0 x1=some r):fP prog 85 (kH bk bl ps) ⟨x0⟩ [dt x1] ⟨r.1⟩ (.eE (dt r.2)):=by
 refine kI (fn:=f85) 0 2 func85 Z Z (λ M G _ b0 _ j=>gj ?_);refine Ka<|j.fB 1 nd [1] [0] (λ b2 j=>Kb ?_);refine kB h λ v3 p3 h=>j.zo [(0,0),(4,1)] λ j=>?_;refine j.zd [(0,0),(4,1)] h (λ j h=>?_) λ j h=>?_
 .refine j.hd1 (s:=0) 0 true (λ _=>(Pb.eD eS.f2)) Z Z Z (λ _ h=>h) [4] Z λ b9 hb9 j=>?_
  refine j.zu 13 [(0,0),(4,1)] (λ j=>?_) (hs:=sw Z (oM Z U)<|sw Z (gK Z T)<|sw Z (eV Z Bz T)<|sw Z (gi (sb:=0) (Pb.eD eS.f0) Z T Z)<|sw Z (oM Z U)<|sw Z (gK Z T)<|sw Z (eV Z OW T)<|sw Z (gi (sb:=0) (Pb.eD eS.f1) Z T Z)<|sw Z (oM Z T)<|sw Z (oM Z U)<|sw Z (gK Z T)<|sw Z (eV Z uR T)<|sw Z (fS (sb:=0) (.head _) Z hb9 Z T Z)<|.nil);refine kB h λ d6 b7 h=>j.tR (l:=[.tmp 14,.tmp 18,_,.tmp 19]) 4 0 (j.mE (sb:=0) (Pb.eD eS.f2) (.head _) Z (zR Z hb9) Z (λ _ h=>h)) Z Z Z FQ (j.st.has 23 _ Z) (by simp) (.cons T (.cons T (.cons (yM) (.cons T .nil)))) (Iu b7) [] Z [4] Z Z (by decide) λ _ _ _ _ j=>?_;refine j.eW 4 1 eO.id (tp Z) [] [0] (λ j=>Kb ?_);exact j.xC 0 0 h
 refine kB h λ b6 b8 h=>j.zo [(0,0),(4,1)] (λ j=>?_) (hs:=sZ 2 (r:=by exact sc Z (yC (l:=[.tmp 25,.tmp 26]) j.ob.sub Z (.cons (rn (sb:=0) j.ob 0 T Z) (.cons (yG j.ob.sub T) .nil)) (xp.1 b8) xQ)<|eI));refine Kx h λ d7 b3 e0 c8 h=>j.mb (s:=0) 0 (ez .lss b6 (0:Int) == false) (λ hg=>(Pb.eD eS.f4)) [4] λ d1 e3 _ a8 j=>?_;refine j.mI (s:=0) 0 (Xf (eS.mG (Og (c:=(ez .lss b6 (0:Int) == false)) (λ hg=>zJ (yS (gh hg b3)).2)))) [4] λ e4 j=>?_;refine j.zo [(0,0),(4,1)] (λ j=>?_) (hs:=sc Z (oM Z T)<|
  sc Z (gU Z T cI)<|
  sc Z (oM Z T)<|
  sg Z Z (λ hg=>oM Z U)<|
  sg Z Z (λ hg=>gK Z V)<|
  sg Z Z (λ hg=>eV Z pD V)<|
  sg Z Z (λ hg=>fS (sb:=0) (.head _) hg Z Z V Z)<|
  sg Z Z (λ hg=>oM Z T)<|
  sg Z Z (λ hg=>gJ (g:=d1) Z mX V V Z (λ h=>a8 h hg) (gh hg b3))<|
  sg Z Z (λ hg=>mO (sb:=0) (Pb.eD eS.f4) (.head _) hg (λ h=>a8 h hg) (GC hg) (yS (gh hg b3)).2 (cj _) Z mx V Z)<|
  sg Z Z (λ hg=>gK Z V)<|
  sg Z Z (λ hg=>eV Z uS V)<|
  sg Z Z (λ hg=>gi (sb:=0) (((Pb.eD eS.f4).ig (GC hg) (gh hg c8)).eD fD.f1) Z V Z)<|
  sg Z Z (λ hg=>gU Z V cI)<|
  sc Z (qe Z T T)<|.nil)
 have j:=j.gS (s:=0) 0 [4];refine j.cq h (λ h=>?_) λ h=>?_
 .refine Ka ?_
  refine kB h λ e5 e6 h=>j.zh 1 [(0,0),(4,1)] λ j=>?_;refine j.eW 4 1 eO.id (tp Z) [] [0] (λ j=>Kb ?_);have j:=j.kf 0 0 (wh (eS.iW (xz (λ _ h=>(GD h))))) [4];exact j.xC 0 0 h
 refine Kx h λ e7 b5 e8 d2 h=>kB h λ e9 d3 h=>j.mb (s:=0) 0 true (λ _=>(Pb.eD eS.f4)) [4] λ d4 f9 _ a9 j=>?_;refine j.mI (s:=0) 0 (Xf (eS.mG (XP (zJ (yS b5).2)))) [4] λ g0 j=>?_;refine j.hd1 (s:=0) 0 true (λ _=>(Pb.eD eS.f2)) Z Z Z (λ _ h=>h) [4] Z λ g3 hb40 j=>?_;refine j.zu 21 [(0,0),(4,1)] (λ j=>?_) (hs:=sw Z (oM Z U)<|sw Z (gK Z T)<|sw Z (eV Z Bz T)<|sw Z (gi (sb:=0) (Pb.eD eS.f0) Z T Z)<|sw Z (oM Z U)<|sw Z (gK Z T)<|sw Z (eV Z pD T)<|sw Z (fS (sb:=0) (.tail _ (.head _)) Z Z Z T Z)<|sw Z (oM Z T)<|sw Z (gJ (g:=d4) Z mX T T Z (λ h=>a9 h Z) b5)<|sw Z (mO (sb:=0) (Pb.eD eS.f4) (.tail _ (.head _)) Z (λ h=>a9 h Z) (.head _) (yS b5).2 (cj _) Z mx T Z)<|sw Z (gK Z T)<|sw Z (eV Z FJ T)<|sw Z (gi (sb:=0) (((Pb.eD eS.f4).ig (.head _) d2).eD fD.f2) Z T Z)<|sw Z (oM Z T)<|sw Z (oM Z T)<|sw Z (zy (l:=[.tmp 59]) Z (.cons T .nil) (CA.1 d3))<|sw Z (oM Z U)<|sw Z (gK Z T)<|sw Z (eV Z uR T)<|sw Z (fS (sb:=0) (.head _) Z hb40 Z T Z)<|.nil);refine kB h λ g4 d5 h=>j.tR (l:=[.tmp 47,.tmp 57,.tmp 58,.tmp 60]) 4 0 (j.mE (sb:=0) (Pb.eD eS.f2) (.head _) Z (zR Z hb40) Z (λ _ h=>h)) Z Z Z FQ (j.st.has 64 _ Z) (by simp) (.cons T (.cons T (.cons T (.cons T .nil)))) (Iu d5) [] Z [4] Z Z (by decide) λ _ _ _ _ j=>?_;refine j.eW 4 1 eO.id (tp Z) [] [0] (λ j=>Kb ?_);have j:=j.kf 0 0 (wh (eS.iW (xz (λ _ h=>(.tail _ (GD h)))))) [4];exact j.xC 0 0 h
theorem BA:fR prog 103 3 3=true:=by kernel_rfl
theorem OY:fR prog 103 8 8=true:=by kernel_rfl
theorem PE:gb prog 53=true:=by kernel_rfl
theorem PJ:gb prog 85=true:=by kernel_rfl
theorem O7:fR prog 137 0 0=true:=by kernel_rfl
theorem O8:fR prog 137 2 2=true:=by kernel_rfl
theorem Pe:lM prog 99 139 1=true:=by kernel_rfl
theorem PT:mC prog 99=true:=by kernel_rfl
theorem OV:iH prog 99 139 1 8=true:=by kernel_rfl
theorem Wr:∀ {M:Nat->Prop} {look:Nat->Option Dt} {o:Oper} {q0 q1:Operand} {y0:Int} {y1:Int},o.op=.build 146 #[(0,q0),(1,q1)]->eC M look q0 (dt y0)->eC M look q1 (dt y1)->eP prog M look o (dt (⟨y0,y1⟩:fu)):=@λ _ _ _ q0 q1 y0 y1 ho h0 h1=>yf (parts:=[(0,q0),(1,q1)]) (ns:=[1,1]) (zs:=Ao) Z ho (λ w a hl=>FA ⟨(by decide:0<2),ey.len (α:=Int) (eC.cells h0 hl)⟩ (FA ⟨(by decide:1<2),ey.len (α:=Int) (eC.cells h1 hl)⟩ FN)) (λ w a hl=>fu.parts (x:=(⟨y0,y1⟩:fu)) (eC.cells h0 hl) (eC.cells h1 hl))
theorem sK:gb prog 87=true:=by kernel_rfl
theorem BB:fR prog 103 5 5=true:=by kernel_rfl
instance VX:fT prog 103 4 4:=⟨pD⟩
instance VY:fT prog 103 5 5:=⟨BB⟩
instance V1:fT prog 103 8 8:=⟨OY⟩
instance Y':fT prog 142 0 0:=⟨rK⟩
instance aab:fT prog 142 3 3:=⟨BE⟩
instance aad:fT prog 142 4 4:=⟨BF⟩
instance aag:fT prog 142 5 5:=⟨Qc⟩
structure Rec where
 spec_importName:Runner->Str->Option (Runner×Int)
 spec_fromName:Runner->Int->Str->Option (Runner×fu)
 spec_runFrom:Runner->Int->Stmt->Option Runner
 spec_runStar:Runner->Int->Stmt->Option Runner
 spec_runStmt:Runner->Int->Stmt->Option Runner
 spec_runBody:Runner->Int->(List Stmt)->Option Runner
 impl_machine_load1:Machine->Str->Option (Machine×Int×Int)
 impl_machine_body:Machine->Int->Spec->Option (Machine×Int)
 impl_machine_do:Machine->Int->Stmt->Option (Machine×Int)
variable{R:Rec}
def Rec.no:Rec:=⟨λ _ _=>none,λ _ _ _=>none,λ _ _ _=>none,λ _ _ _=>none,λ _ _ _=>none,λ _ _ _=>none,λ _ _=>none,λ _ _ _=>none,λ _ _ _=>none⟩
abbrev ve:Ow (List eU):=Ow.row 174 (Ow.eE (α:=eU))
abbrev kh:Ow ga:=ki ij ve
abbrev vh:Ow (List eZ):=Ow.row 142 (fD lb)
abbrev iJ(b:Nat):Ow (Bx Runner):=Ow.box (fa vh py iV (Ow.kq b kh))
structure Rec.ok(R:Rec):Prop where
 spec_importName:∀ {x0:Runner} {x1:Str} {r:Runner×Int},R.spec_importName x0 x1=some r->∀ {bw:Nat},fP prog 64 (iJ bw) ⟨x0⟩ [dt x1] ⟨r.1⟩ (.eE (dt r.2))
 spec_fromName:∀ {x0:Runner} {x1:Int} {x2:Str} {r:Runner×fu},R.spec_fromName x0 x1 x2=some r->∀ {bw:Nat},fP prog 209 (iJ bw) ⟨x0⟩ [dt x1,dt x2] ⟨r.1⟩ (.eE (dt r.2))
 spec_runFrom:∀ {x0:Runner} {x1:Int} {x2:Stmt} {r:Runner},R.spec_runFrom x0 x1 x2=some r->∀ {bw:Nat},fP prog 185 (iJ bw) ⟨x0⟩ [dt x1,dt x2] ⟨r⟩ .gone
 spec_runStar:∀ {x0:Runner} {x1:Int} {x2:Stmt} {r:Runner},R.spec_runStar x0 x1 x2=some r->∀ {bw:Nat},fP prog 186 (iJ bw) ⟨x0⟩ [dt x1,dt x2] ⟨r⟩ .gone
 spec_runStmt:∀ {x0:Runner} {x1:Int} {x2:Stmt} {r:Runner},R.spec_runStmt x0 x1 x2=some r->∀ {bw:Nat},fP prog 150 (iJ bw) ⟨x0⟩ [dt x1,dt x2] ⟨r⟩ .gone
 spec_runBody:∀ {x0:Runner} {x1:Int} {x2:List Stmt} {r:Runner},R.spec_runBody x0 x1 x2=some r->∀ {bw:Nat},fP prog 105 (iJ bw) ⟨x0⟩ [dt x1,dt x2] ⟨r⟩ .gone
 impl_machine_load1:∀ {x0:Machine} {x1:Str} {r:Machine×Int×Int},R.impl_machine_load1 x0 x1=some r->∀ {bk bl:Nat},∀ {ps:List (Nat×Nat)},fP prog 53 (kH bk bl ps) ⟨x0⟩ [dt x1] ⟨r.1⟩ (.eE (fZ [dt r.2.1,dt r.2.2]))
 impl_machine_body:∀ {x0:Machine} {x1:Int} {x2:Spec} {r:Machine×Int},R.impl_machine_body x0 x1 x2=some r->∀ {bk bl:Nat},∀ {ps:List (Nat×Nat)},fP prog 86 (kH bk bl ps) ⟨x0⟩ [dt x1,dt x2] ⟨r.1⟩ (.eE (dt r.2))
 impl_machine_do:∀ {x0:Machine} {x1:Int} {x2:Stmt} {r:Machine×Int},R.impl_machine_do x0 x1 x2=some r->∀ {bk bl:Nat},∀ {ps:List (Nat×Nat)},fP prog 138 (kH bk bl ps) ⟨x0⟩ [dt x1,dt x2] ⟨r.1⟩ (.eE (dt r.2))
theorem Rec.LD:Rec.no.ok:=⟨(λ h=>by cases h),(λ h=>by cases h),(λ h=>by cases h),(λ h=>by cases h),(λ h=>by cases h),(λ h=>by cases h),(λ h=>by cases h),(λ h=>by cases h),(λ h=>by cases h)⟩
def yE(R:Rec)(x1:Int)(b3:(lA)×(List Stmt))(a8:Machine×Int×Int):Option ((Machine×Int×Int)⊕(Machine×Int)):=
 ite ((ez .lss a8.2.2 b3.2.length)=true) ((eN b3.2 a8.2.2).bind λ b5=>
 ite (ez .eql a8.1.left 0) (some (.inr (a8.1,6)))<|(i64 (a8.1.left - 1)).bind λ b6=>
(R.impl_machine_do {a8.1 with left:=b6} x1 b5).bind λ a9=>
 ite (ez .neq a9.2 0) (some (.inr (a9.1,a9.2)))<|(i64 (a8.2.2+1)).bind λ b7=>
 some (.inl (a9.1,a9.2,b7)))<|some (.inr (a8.1,a8.2.1))
def ZP(R:Rec)(x0:Machine)(x1:Int)(x2:Spec):Option (Machine×Int):=
(eN x0.modules x1).bind λ v3=>
(x0.modules[x1.toNat]?).bind λ v5=>
(xB x0 0 v5.x.name).bind λ a8=>
 Option.bind (ite (ez .geq x2.file 0) ((eN a8.t.files x2.file).bind λ b5=>
(sB a8.load b5).bind λ b3=>
 zE (λ b6=>yE R x1 b3 b6) ({ a8 with load:=b3.1 },0,0))<|some (a8,0)) λ a9=>
 Option.bind (ite (ez .eql a9.2 0) ((xB a9.1 1 v5.x.name).bind λ b7=>
 some b7)<|(xB a9.1 2 v5.x.name).bind λ b8=>
 some b8) λ b9=>
 some (b9,a9.2)
theorem Up(hR:R.ok){x1 x2}(h:ZP R x0 x1 x2=some r):fP prog 86 (kH bk bl ps) ⟨x0⟩ [dt x1,dt x2] ⟨r.1⟩ (.eE (dt r.2)):=by
 refine kI (fn:=f86) 0 2 func86 Z Z (λ M G w0 b0 _ j=>gj ?_);refine j.zo [(0,0)] λ j=>?_;refine Kx h λ v3 p3 v5 p5 h=>j.mb (s:=0) 0 true (λ _=>(Pb.eD eS.f4)) [] λ g2 A2 _ hA2 j=>?_;refine j.mI (s:=0) 0 (Xf (eS.mG (XP (zJ (yS p3).2)))) [] λ b4 j=>?_;refine j.zo [(0,0)] (λ j=>?_) (hs:=sZ 5 (r:=by exact sc Z (gJ (g:=g2) Z mX T T Z (λ h=>hA2 h Z) p3)<|sc Z (mO (sb:=0) (Pb.eD eS.f4) (.head _) Z (λ h=>hA2 h Z) (.head _) (yS p3).2 (cj _) Z mx T Z)<|sZ 2 (r:=by exact sc Z (gi (sb:=0) (((Pb.eD eS.f4).ig (.head _) p5).eD fD.f0) Z T Z)<|eI)));have j:=j.gS (s:=0) 0 [];refine Ka<|j.zh 2 [(0,0)] λ j=>?_;refine kB h λ e3 b7 h=>j.gL 0 0 (fP.any (Zk b7)) [1,5,7] [] (λ j=>Kb ?_);refine j.zo [(0,0)] (λ j=>za ?_);have⟨b3,b8,b9⟩:=bs h;refine ib (λ a w=>∃ M1 Q W,Sx (eG.ft w0 G) 74 M M1 [Q,eA W] [(7,dt v5.x.name),(8,dt b3.2)] [(0,0,eJ (kH bk bl ((x1.toNat,b4)::ps)) Q ⟨b3.1⟩ (.pointer (some ⟨b0,0,none⟩)) [])] a w) ?_ ?_
 .refine j.zd [(0,0)] b8 (λ j h=>?_) λ j h=>?_
  .refine j.held (λ _=>True) zP λ _ j=>?_
   refine j.Mj (i:=15) Z Z (λ _ _ _ _ h=>h) trivial Z cI Z λ _ j=>?_;refine R3 (l:=Array.replicate 15 false) ?_;refine kB h λ e4 c8 h=>j.hd1 (s:=0) 0 true (λ _=>(Pb.eD eS.f3)) Z Z Z (λ _ h=>h) [] Z λ e5 hb21 j=>?_;refine j.nV (D:=[_,_,_,_,_,_,_,_,_,_,_,_,_]) 13 [] [[(0,nS)],[(27,0)],[(28,1)],[(29,2),(0,nS)],[(0,nS)],[(31,4)],[(32,5)],[(33,6)],[(34,7),(0,nS)],[(5,nS)],[(36,9)],[(35,8),(37,10)],[(38,11)],[(30,3),(39,12)],[(40,13)]] (
    rc Z Z (oM Z U)<|
    rc Z Z (gK Z T)<|
    rc Z Z (eV Z BA T)<|
    rc Z Z (fS (sb:=0) (.head _) Z hb21 Z T Z)<|
    rc Z Z (oM Z U)<|
    rc Z Z (gK Z T)<|
    rc Z Z (eV Z Bz T)<|
    rc Z Z (eV Z qI T)<|
    rc Z Z (gi (sb:=0) ((Pb.eD eS.f0).eD Tree.z0) Z T Z)<|
    rc Z Z (zI Spec.gA Z T)<|
    rc Z Z (zG Z T)<|
    rc Z Z (xIdx Z T T c8)<|
    rc Z Z (zG Z T)<|.nil) (λ _ h=>by cases h) [1,7,8,30,39,42] [(0,0)] rfl ⟨λ _ h=>h,trivial⟩ (λ j=>?_)
   refine kB h λ b5 d1 h=>j.cD (l:=[.tmp 39]) 0 (j.mE (sb:=0) (Pb.eD eS.f3) (.head _) Z (zR Z hb21) Z (λ _ h=>h)) Z Z Z (j.st.has 30 _ Z) (by simp) (.cons T .nil) (Na d1) [1,7,8,42] Z [] Z Z (by decide) λ j=>?_;refine j.zh 1 [(0,0)] (λ j=>Kb ?_);refine gk h (λ a9 a w=>∃ M1 Q W,Sx (eG.ft w0 G) 74 M M1 [Q,eA W] [(1,dt x1),(7,dt v5.x.name),(8,dt a9.2.1),(40,dt b5.2),(41,dt (b5.2.length:Int)),(42,dt a9.2.2)] [(0,0,eJ (kH bk bl ((x1.toNat,b4)::ps)) Q ⟨a9.1⟩ (.pointer (some ⟨b0,0,none⟩)) [])] a w) fx ?_;rintro a9 d2 _ _ ⟨_,Q,W,j⟩ h a8;refine j.zd [(0,0)] h (λ j h=>?_) λ j h=>?_
   .refine Ka ?_
    refine kB h λ e6 e7 h=>j.zh 2 [(0,0)] λ j=>?_;refine j.fB 1 nQ [1,7,40,41,42,45] [0] λ e8 j=>?_;refine j.eW 10 1 eO.id (tp Z) [1,7,40,41,42] [0] (λ j=>Kb ?_);refine j.zd [(0,0),(10,1)] h (λ j h=>?_) (λ j h=>?_) (hs:=sZ 3 (r:=by exact sc Z (gi (sb:=0) (Pb.eD eS.f8) Z T Z)<|eI))
    .refine j.zo [(0,0)] λ j=>?_
     cases lo h a8;exact fz
    refine Ka<|kB h λ e9 f9 h=>j.zh 7 [(0,0),(10,1)] (λ j=>?_) (hs:=sZ 3 (r:=by exact sc Z (gi (sb:=0) (Pb.eD eS.f8) Z T Z)<|eI));refine j.gX 0 0 (Pb.eD eS.f8) (tp Z) (tp Z) [1,7,40,41,42] [10] (λ j=>Kb ?_);refine Ka<|j.zh 3 [(0,0)] λ j=>?_;refine kB h λ g0 d3 h=>j.gL 0 0 (hR.impl_machine_do d3) [1,7,40,41,42] [] λ j=>?_;refine j.zh 1 [(0,0)] (λ j=>Kb ?_);refine j.zd [(0,0)] h (λ j h=>?_) λ j h=>?_
    .have h:=lo h a8
     cases h;exact fz
    exact kB h λ g3 g4 h=>j.zn [(0,0)] h
   cases lo h a8;exact fz
  cases h;exact fz
 rintro _ _ ⟨_,Q,W,j⟩;have h:=b9;have⟨d4,d5,d6⟩:=bs h;refine ib (λ a w=>∃ M1 Q W,Sx (eG.ft w0 G) 74 M M1 [Q,eA W] [(8,dt b3.2)] [(0,0,eJ (kH bk bl ((x1.toNat,b4)::ps)) Q ⟨d4⟩ (.pointer (some ⟨b0,0,none⟩)) [])] a w) ?_ ?_
 .refine j.zd [(0,0)] d5 (λ j h=>?_) λ j h=>?_
  .refine Ka ?_
   refine j.zh 2 [(0,0)] λ j=>?_;refine kB h λ g5 d7 h=>j.gL 0 0 (fP.any (Zk d7)) [8] [] (λ j=>Kb ?_);cases h;exact fz
  refine Ka<|j.zh 2 [(0,0)] λ j=>?_;refine kB h λ g6 e0 h=>j.gL 0 0 (fP.any (Zk e0)) [8] [] (λ j=>Kb ?_);cases h;exact fz
 rintro _ _ ⟨_,Q,W,j⟩;have h:=d6;refine j.zo [(0,0)] λ j=>?_;have j:=j.kf 0 0 (wh (eS.iW (xz (λ _ h=>(.tail _ h))))) [];exact j.xF 0 0 h
def Zl(R:Rec)(x0:Machine)(x1:Str):Option (Machine×Int×Int):=
(yk x0 x1).bind λ v2=>
 ite (ez .geq v2 0) ((qN x0 v2).bind λ d3=>
 some (d3.1,d3.2,0))<|(xJ x1).bind λ b7=>
 Option.bind (ite ((decide (b7≠⟨[]⟩))=true) ((R.impl_machine_load1 x0 b7).bind λ b6=>
 ite (ez .neq b6.2.2 0) (some (.inr (b6.1,(-1),b6.2.2)))<|(yk b6.1 x1).bind λ d4=>
 ite (ez .geq d4 0) ((qN b6.1 d4).bind λ d5=>
 some (.inr (d5.1,d5.2,0)))<|some (.inl b6.1))<|some (.inl x0)) (Sum.elim (λ d6=>
(xV d6 x1).bind λ a8=>
 ite (ez .eql a8.2.kind 0) (some (a8.1,(-1),1))<|(fE 8 [] a8.2.roots).bind λ d7=>
(fE 8 a8.1.modules [⟨⟨x1,a8.2.kind,d7,true,false,[]⟩⟩]).bind λ e0=>
(R.impl_machine_body {a8.1 with modules:=e0} a8.1.modules.length a8.2).bind λ a9=>
 ite (ez .neq a9.2 0) ((a9.1.modules[a8.1.modules.length]?).bind λ b8=>
 some ({ a9.1 with modules:=(a9.1.modules.set a8.1.modules.length ⟨{ b8.x with cached:=false }⟩) },(-1),a9.2))<|(a9.1.modules[a8.1.modules.length]?).bind λ b3=>
 Option.bind ((yk ({ a9.1 with modules:=(a9.1.modules.set a8.1.modules.length ⟨{ b3.x with done:=true }⟩) }) b7).bind λ b5=>
 ite ((decide (b7≠⟨[]⟩)&&ez .geq b5 0)=true) ((eN (a9.1.modules.set a8.1.modules.length ⟨{ b3.x with done:=true }⟩) b5).bind λ e3=>
(qg x1).bind λ b9=>
((a9.1.modules.set a8.1.modules.length ⟨{ b3.x with done:=true }⟩)[b5.toNat]?).bind λ c8=>
(yL c8.x b9 (⟨1,a8.1.modules.length⟩:fu)).bind λ d1=>
 some ({ a9.1 with modules:=((a9.1.modules.set a8.1.modules.length ⟨{ b3.x with done:=true }⟩).set b5.toNat ⟨d1⟩) }))<|some ({ a9.1 with modules:=(a9.1.modules.set a8.1.modules.length ⟨{ b3.x with done:=true }⟩) })) λ d2=>
 some (d2,a8.1.modules.length,0)) some)
theorem Ui(hR:R.ok){r}(h:Zl R x0 x1=some r):fP prog 53 (kH bk bl ps) ⟨x0⟩ [dt x1] ⟨r.1⟩ (.eE (fZ [dt r.2.1,dt r.2.2])):=by
 refine kI (fn:=f53) 5 7 func53 Z Z (λ M G w0 b0 _ j=>gj ?_);refine j.hU eI [1] [(0,5)] λ j=>?_;refine kB h λ v2 p2 h=>j.hU (sZ 2 (r:=by exact sc Z (yC (l:=[.tmp 16,.tmp 17]) j.ob.sub Z (.cons (rn (sb:=0) j.ob 5 T Z) (.cons (yG j.ob.sub T) .nil)) (xp.1 p2) xQ)<|eI)) [1,6] [(0,5)] λ j=>?_;refine j.hU eI [1,6,20] [(0,5)] λ j=>?_;refine j.cq h (λ h=>?_) λ h=>?_
 .refine Ka ?_
  refine j.fN 2 eI [21,22] [(0,5)] λ j=>?_;refine kB h λ h9 e5 h=>j.gL 5 0 (QM e5) [] [] λ j=>?_;refine j.fN 2 eI [4,5] [(0,5)] (λ j=>Kb ?_);exact j.pW 0 5 h
 refine kB h λ e6 i0 h=>j.hU eI [1,7] [(0,5)] (λ j=>za ?_);have⟨e7,e8,b6⟩:=bs h;refine ib (λ a w=>∃ b7,e7=.inl b7/\(∃ M1 Q W X Y A B C,Sx (eG.ft w0 G) 111 M M1 [eA Q,W,X,Y,A,B,eA C] [(1,dt x1),(7,dt e6)] [(0,5,eJ (kH bk bl ps) B ⟨b7⟩ (.pointer (some ⟨b0,0,none⟩)) [])] a w)) ?_ ?_
 .refine j.hU eI [1,7,27] [(0,5)] λ j=>?_
  refine j.cq e8 (λ h=>?_) λ h=>?_
  .refine Ka ?_
   refine j.fN 2 eI [1,7,29,30] [(0,5)] λ j=>?_;refine kB h λ i3 e9 h=>j.gL 5 0 (hR.impl_machine_load1 e9) [1,7] [] λ j=>?_;refine j.fN 5 eI [1,7,9] [(0,5)] (λ j=>Kb ?_);refine j.hU eI [1,7,9,35] [(0,5)] λ j=>?_;refine j.cq h (λ h=>?_) λ h=>?_
   .refine j.hU eI [4,5] [(0,5)] λ j=>?_
    exact j.pW 0 5 (jo h b6)
   refine kB h λ i4 f9 h=>j.hU (sZ 2 (r:=by exact sc Z (yC (l:=[.tmp 37,.tmp 38]) j.ob.sub Z (.cons (rn (sb:=0) j.ob 5 T Z) (.cons (yG j.ob.sub T) .nil)) (xp.1 f9) xQ)<|eI)) [1,7,10] [(0,5)] λ j=>?_;refine j.hU eI [1,7,10,41] [(0,5)] λ j=>?_;refine j.cq h (λ h=>?_) λ h=>?_
   .refine Ka ?_
    refine j.fN 2 eI [42,43] [(0,5)] λ j=>?_;refine kB h λ i5 g0 h=>j.gL 5 0 (QM g0) [] [] λ j=>?_;refine j.fN 2 eI [4,5] [(0,5)] (λ j=>Kb ?_);exact j.pW 0 5 (jo h b6)
   exact fU h
  exact fU h
 rintro _ _ ⟨b7,rfl,⟨_,Q,W,X,Y,A,B,C,j⟩⟩;have h:=jn b6;refine Ka<|j.fN 2 eI [1,7,45,46] [(0,5)] λ j=>?_;refine kB h λ b3 g3 h=>j.gL 5 0 (J5 g3) [1,7] [] @λ b8 _ _ _ j=>?_;refine j.fB 6 nd [1,7,47] [0] λ i6 j=>?_;have j:=j.gn;refine j.eW 11 6 eO.id (tp Z) [1,7] [0] λ j=>?_;have j:=j.Av 6 (s:=11) [1,7] [0];have j:=j.gn;refine Kb<|j.hU eI [1,7,11,50] [(0,5)] λ j=>?_;refine j.cq h (λ h=>?_) λ h=>?_
 .refine j.hU eI [4,5] [(0,5)] λ j=>?_
  exact j.pW 0 5 h
 have j:=j.AF 0 [1,7,11,50] [0];refine kB h λ b9 g4 h=>j.zu 8 [(0,5),(58,0)] (λ j=>?_) (hs:=sV 3 (r:=by exact sw Z (xj (α:=Int) (e:=3) Z)<|sV 2 (r:=by exact sw Z (B0 Z uQ T T g4)<|sw Z (xj (α:=fI) (e:=188) Z (ht':=my))<|.nil)));have j:=j.iO (s:=58) 0 (hG:=(λ _ h=>(by cases h))) [0];refine j.lN (ow:=(fD lb)) (parts:=[(0,.tmp 51),(1,.tmp 53),(2,.tmp 57),(3,.const (.bool true)),(5,.tmp 58)]) (ns:=[1,1,1,1,1,1]) (zs:=DC) (x:=(⟨x1,b3.2.kind,b9,true,false,[]⟩:eZ)) 1 [0] (FA ⟨by decide,ey.len (α:=Str) (j.oc T)⟩ (FA ⟨by decide,ey.len (α:=Int) (j.oc T)⟩ (FA ⟨by decide,ey.len (α:=List Int) (j.oc T)⟩ (FA ⟨by decide,Z⟩ (FA ⟨by decide,Ow.len _ (yy (j.st.has 58 _ Z))⟩ FN))))) (((fD lb)).more (fD.mk (x:=(⟨x1,b3.2.kind,b9,true,false,[]⟩:eZ)) (j.oc T) (j.oc T) (j.oc T) (eC.cells cB (λ s y hs=>j.st.has s y hs)) ⟨Z,trivial⟩ (yy (j.st.has 58 _ Z))) (λ b=>(λ hb=>⟨0,by simp,hb⟩))) [1,7,11] [0] (@λ e4 _ _ j=>?_);have j:=j.gs (Gs':=[eA none,e4,X,Y,A,b8,eA none]);have j:=j.gs (Gs':=[eA none,e4,X,Y,A,b8,eA none]);refine j.nT 4 1 [1,7,11] [0] λ b5 _ _ _ _ j=>?_;have j:=j.gn;refine j.fN 1 eI [1,7,11] [(0,5),(12,4)] (λ j=>Kb ?_);refine j.mb (s:=0) 5 true (λ _=>(Pb.eD eS.f4)) [12] λ i7 i8 _ g5 j=>?_;refine j.hU (sZ 4 (r:=by exact sc Z (oE Z T)<|eI)) [1,7,11,13] [(0,5),(12,4)] λ j=>?_;have j:=j.gS (s:=0) 5 [12];refine Ka<|j.mb (s:=0) 5 true (λ _=>(Pb.eD eS.f4)) [12] λ i9 j1 _ g6 j=>?_;refine j.fN 6 (sc Z (oM Z U)<|
  sc Z (oM Z U)<|
  sc Z (gK Z T)<|
  sc Z (eV Z pD T)<|
  sc Z (fS (sb:=0) (.head _) Z Z Z T Z)<|
  sc Z (oM Z T)<|.nil) [1,7,11,13,66,70] [(0,5),(12,4),(71,4)] (λ j=>?_)
 have j:=j.lI (s:=12) (y:=fk (.pointer (some ⟨b5,0,none⟩))) (j.st.has 12 _ Z).1;have j:=j.Mm (s:=71) 182 4 Z (λ _ h=>h) Z [0] Z;refine j.lO (oe:=(Ow.iz (fD lb))) (opds:=[.tmp 71]) (xs:=[⟨b5,(⟨x1,b3.2.kind,b9,true,false,[]⟩:eZ)⟩]) 2 [4] Pe PT (Z2 (GF (j.st.has 71 _ Z) (j.st.has 182 _ Z)) (λ b hb=>⟨4,by simp,hb⟩)) (λ q hq=>by
 simp only[aj,aF,bI] at hq
 subst hq
 exact Ow.len _ (GF (j.st.has 71 _ Z) (j.st.has 182 _ Z))) [1,7,11,12,13,66,70,71] [0] (@λ g7 _ _ _ j=>?_)
 have j:=j.gs (Gs':=[eA none,eA none,g7,Y,eA none,b8,eA none]);have j:=j.DJ (s:=0) 5 Z Z (λ _ h=>h) (wh (eS.iW (Oj (b:=b5)))) [72] Z;refine j.iN (s:=70) (sb:=0) 5 3 (Pb.eD eS.f4) (.head _) (zR Z Z) [1,7,11,12,13,66,71] [72] λ j=>?_;refine kB h λ j2 g8 h=>j.K6 3 2 Z Z OV Z Z Z (λ _ h=>h) (λ _ h=>h) g8 [1,7,11,12,13,66,71] Z [0] Z Z Z λ _ _ _ _ hn82 j=>?_;have j:=j.gn;refine j.fN 2 eI [1,7,11,12,13,75] [(0,5),(73,3)] λ j=>?_;refine j.kg 0 73 5 3 (tp Z) [1,7,11,12,13] [] λ j=>?_;have j:=j.kf 0 5 (wh (eS.iW (Ol hn82))) [];have j:=j.gn;refine Kb<|Ka<|j.fN 3 eI [1,7,12,13,76,77,78] [(0,5)] λ j=>?_;refine kB h λ j3 g9 h=>j.gL 5 0 (hR.impl_machine_body g9) [1,7,12,13] [] λ j=>?_;refine j.fN 1 eI [1,7,12,13,14] [(0,5)] (λ j=>Kb ?_);refine j.hU eI [1,7,12,13,14,81] [(0,5)] λ j=>?_;refine j.cq h (λ h=>?_) λ h=>?_
 .refine Ka ?_
  refine kB h λ h0 c8 h=>j.fN 3 eI [14,84] [(0,5)] λ j=>?_;refine j.gX 0 5 (((Pb.eD eS.f4).ig (.head _) c8).eD fD.f3) (tp Z) cB [14] [] (λ j=>Kb ?_);refine j.hU eI [4,5] [(0,5)] λ j=>?_;have j:=j.kf 0 5 (wh (eS.iW (xz (λ _ h=>(.tail _ h))))) [];exact j.pW 0 5 h
 refine Ka<|kB h λ h1 d1 h=>j.fN 3 eI [1,7,13,88] [(0,5)] λ j=>?_;refine j.gX 0 5 (((Pb.eD eS.f4).ig (.head _) d1).eD fD.f4) (tp Z) cB [1,7,13] [] (λ j=>Kb ?_);refine za ?_;have⟨d2,d3,d4⟩:=bs h;refine ib (λ a w=>∃ M1 Q W X Y A B C,Sx (eG.ft w0 G) 111 M M1 [eA Q,W,X,Y,A,B,eA C] [(13,dt (b3.1.modules.length:Int))] [(0,5,eJ (kH bk bl ((b3.1.modules.length,b5)::ps)) B ⟨d2⟩ (.pointer (some ⟨b0,0,none⟩)) [])] a w) ?_ ?_
 .have⟨h2,d5,h⟩:=bs d3
  refine j.hU (sZ 2 (r:=by exact sc Z (yC (l:=[.tmp 89,.tmp 90]) j.ob.sub Z (.cons (rn (sb:=0) j.ob 5 T Z) (.cons (yG j.ob.sub T) .nil)) (xp.1 d5) xQ)<|eI)) [1,7,13,15] [(0,5)] λ j=>?_;refine j.hU eI [1,13,15,97] [(0,5)] λ j=>?_;refine j.cq h (λ h=>?_) λ h=>?_
  .have⟨h3,a9,h⟩:=bs h
   refine kB h λ h4 d6 h=>j.mb (s:=0) 5 true (λ _=>(Pb.eD eS.f4)) [] λ d7 h5 _ a8 j=>?_;refine j.mI (s:=0) 5 (Xf (eS.mG (XP (zJ (yS a9).2)))) [] λ h6 j=>?_;refine j.zu 11 [(0,5)] (λ j=>?_) (hs:=sV 5 (r:=by exact sw Z (gJ (g:=d7) Z mX T T Z (λ h=>a8 h Z) a9)<|sw Z (mO (sb:=0) (Pb.eD eS.f4) (.head _) Z (λ h=>a8 h Z) (.head _) (yS a9).2 (cj _) Z mx T Z)<|sV 1 (r:=by exact sw Z (zy (l:=[.tmp 105]) Z (.cons T .nil) (CA.1 d6))<|sV 1 (r:=by exact sw Z (Wr Z cI T)<|.nil))));refine Kx h λ h7 e0 h8 e3 h=>j.kV (l:=[.tmp 106,.tmp 108]) 5 (j.rT (sb:=0) (Pb.eD eS.f4) (.head _) e0) Z Z sK (j.st.has 104 _ Z) (by simp) (.cons T (.cons T .nil)) (fP.any (qM e3)) [13] Z [] Z Z (by decide) λ j=>?_;have j:=j.gn;refine Kb ?_;have j:=j.kf 0 5 (wh (eS.iW (xz (λ _ h=>(.tail _ h))))) [];cases h;exact fz
  cases h;exact fz
 rintro _ _ ⟨_,Q,W,X,Y,A,B,C,j⟩;have h:=d4;refine j.hU eI [4,5] [(0,5)] λ j=>?_;have j:=j.kf 0 5 (wh (eS.iW (xz (λ _ h=>(.tail _ h))))) [];exact j.pW 0 5 h
def xE(R:Rec)(x1:Int)(b3:List fI)(a8:Machine×Int):Option ((Machine×Int)⊕(Machine⊕(Machine×Int))):=
 ite ((ez .lss a8.2 b3.length)=true) (Option.bind ((eN b3 a8.2).bind λ a9=>
(eN a9.name.l 0).bind λ b5=>
 ite ((gT .neq b5 (UInt8.ofNat 122))=true) ((a8.1.modules[x1.toNat]?).bind λ b6=>
(yL b6.x a9.name a9.value).bind λ b7=>
 some {a8.1 with modules:=(a8.1.modules.set x1.toNat ⟨b7⟩)})<|some a8.1) λ b8=>
(i64 (a8.2+1)).bind λ b9=>
 some (.inl (b8,b9)))<|some (.inr (.inl a8.1))
def yU(R:Rec)(x0:Machine)(x1:Int)(x2:Stmt):Option (Machine×Int):=
(eN x0.modules x1).bind λ v3=>
 Option.bind (ite (ez .eql x2.kind 0) ((R.impl_machine_load1 x0 x2.module).bind λ c8=>
 ite (ez .neq c8.2.2 0) (some (.inr (c8.1,c8.2.2)))<|(qh x2.module ⟨[46]⟩).bind λ e8=>
(yk c8.1 e8.1).bind λ e9=>
 ite (ez .lss e9 0) (some (.inr (c8.1,1)))<|(c8.1.modules[x1.toNat]?).bind λ g3=>
(yL g3.x e8.1 (⟨1,e9⟩:fu)).bind λ g4=>
 some (.inl {c8.1 with modules:=(c8.1.modules.set x1.toNat ⟨g4⟩)}))<|ite (ez .eql x2.kind 1) ((x0.modules[x1.toNat]?).bind λ g5=>
(wv g5.x).bind λ g6=>
(qL g6 x2.level x2.module).bind λ d3=>
 ite ((decide (d3=⟨[]⟩))=true) (some (.inr (x0,5)))<|(R.impl_machine_load1 x0 d3).bind λ b3=>
 ite (ez .neq b3.2.2 0) (some (.inr (b3.1,b3.2.2)))<|Option.bind ((eN b3.1.modules b3.2.1).bind λ h0=>
(b3.1.modules[b3.2.1.toNat]?).bind λ g7=>
(wl g7.x x2.name).bind λ f9=>
 some (f9.1,f9.2)) λ g0=>
 Option.bind (ite ((!g0.2)=true) ((wE d3 x2.name).bind λ a8=>
(eN b3.1.modules b3.2.1).bind λ g8=>
(b3.1.modules[b3.2.1.toNat]?).bind λ b5=>
(gO ((ez .eql b5.x.kind 1||decide (a8=⟨[]⟩)) == false) (yk b3.1 a8)).bind λ b7=>
(gO (((ez .eql b5.x.kind 1||decide (a8=⟨[]⟩)) == false)&&(ez .lss b7 0 == true)) (xV b3.1 a8)).bind λ d1=>
 ite (((ez .eql b5.x.kind 1||decide (a8=⟨[]⟩))||(ez .lss b7 0&&ez .eql d1.2.kind 0))=true) (some (.inr (.inr ((if(((ez .eql b5.x.kind 1||decide (a8=⟨[]⟩)) == false)&&(ez .lss b7 0 == true))=true then d1.1 else b3.1),2))))<|(R.impl_machine_load1 (if(((ez .eql b5.x.kind 1||decide (a8=⟨[]⟩)) == false)&&(ez .lss b7 0 == true))=true then d1.1 else b3.1) a8).bind λ b6=>
 ite (ez .neq b6.2.2 0) (some (.inr (.inr (b6.1,b6.2.2))))<|some (.inl (b6.1,(⟨1,b6.2.1⟩:fu))))<|some (.inl (b3.1,g0.1))) (Sum.elim (λ b9=>
(b9.1.modules[x1.toNat]?).bind λ d4=>
(yL d4.x x2.name b9.2).bind λ d5=>
 some (.inl {b9.1 with modules:=(b9.1.modules.set x1.toNat ⟨d5⟩)})) some))<|ite (ez .eql x2.kind 2) ((R.impl_machine_load1 x0 x2.module).bind λ a9=>
 ite (ez .neq a9.2.2 0) (some (.inr (a9.1,a9.2.2)))<|(eN a9.1.modules a9.2.1).bind λ g9=>
(a9.1.modules[a9.2.1.toNat]?).bind λ d6=>
(fE 32 [] d6.x.attrs).bind λ d7=>
 zE (λ e0=>xE R x1 d7 e0) (a9.1,0))<|ite (ez .eql x2.kind 3) ((x0.modules[x1.toNat]?).bind λ e3=>
(yL e3.x x2.name (⟨0,x2.value⟩:fu)).bind λ e4=>
 some (.inl {x0 with modules:=(x0.modules.set x1.toNat ⟨e4⟩)}))<|ite (ez .eql x2.kind 4) ((x0.modules[x1.toNat]?).bind λ e5=>
(wl e5.x x2.name).bind λ d2=>
 ite ((!d2.2)=true) (some (.inr (x0,3)))<|ite (ez .eql d2.1.kind 1) ((fE 8 x0.out [(-1:Int)]).bind λ e6=>
 some (.inl {x0 with out:=e6}))<|(fE 8 x0.out [d2.1.num]).bind λ e7=>
 some (.inl {x0 with out:=e7}))<|ite (ez .eql x2.kind 5) (some (.inr (x0,4)))<|some (.inl x0)) (Sum.elim (λ b8=>
 some (b8,0)) some)
theorem Uv(hR:R.ok){x1 x2}(h:yU R x0 x1 x2=some r):fP prog 138 (kH bk bl ps) ⟨x0⟩ [dt x1,dt x2] ⟨r.1⟩ (.eE (dt r.2)):=by
 refine kI (fn:=f138) 1 7 func138 Z Z (λ M G w0 b0 _ j=>gj ?_);refine j.zo [(0,1)] λ j=>?_;refine kB h λ v3 p3 h=>j.mb (s:=0) 1 true (λ _=>(Pb.eD eS.f4)) [] λ g2 A2 _ hA2 j=>?_;refine j.mI (s:=0) 1 (Xf (eS.mG (XP (zJ (yS p3).2)))) [] λ b4 j=>?_;refine j.zo [(0,1)] (λ j=>?_) (hs:=sZ 5 (r:=by exact sc Z (gJ (g:=g2) Z mX T T Z (λ h=>hA2 h Z) p3)<|sc Z (mO (sb:=0) (Pb.eD eS.f4) (.head _) Z (λ h=>hA2 h Z) (.head _) (yS p3).2 (cj _) Z mx T Z)<|eI));refine za ?_;have j:=j.gS (s:=0) 1 [];have⟨o8,p8,k8⟩:=bs h;refine ib (λ a w=>∃ b8,o8=.inl b8/\(∃ M1 Q W X Y A B C,Sx (eG.ft w0 G) 236 M M1 [eA Q,W,X,Y,eA A,eA B,eA C] [] [(0,1,eJ (kH bk bl ((x1.toNat,b4)::ps)) W ⟨b8⟩ (.pointer (some ⟨b0,0,none⟩)) [])] a w)) ?_ ?_
 .refine j.zo [(0,1)] λ j=>?_
  refine j.zd [(0,1)] p8 (λ j h=>?_) λ j h=>?_
  .refine Ka ?_
   refine j.zh 3 [(0,1)] λ j=>?_;refine kB h λ r8 j6 h=>j.gL 1 0 (hR.impl_machine_load1 j6) [5,7] [] λ j=>?_;refine j.zh 5 [(0,1)] (λ j=>Kb ?_);refine j.zd [(0,1)] h (λ j h=>?_) λ j h=>?_
   .refine j.zo [(0,1)] λ j=>?_
    have j:=j.kf 0 1 (wh (eS.iW (xz (λ _ h=>(.tail _ h))))) [];exact j.xF 0 1 (jo h k8)
   refine kB h λ r9 s1 h=>j.zo [(0,1)] λ j=>?_;refine kB h λ s3 j7 h=>j.zo [(0,1)] (λ j=>?_) (hs:=sZ 2 (r:=by exact sc Z (yC (l:=[.tmp 56,.tmp 57]) j.ob.sub Z (.cons (rn (sb:=0) j.ob 1 T Z) (.cons (yG j.ob.sub T) .nil)) (xp.1 j7) xQ)<|eI));refine j.zd [(0,1)] h (λ j h=>?_) λ j h=>?_
   .refine j.zo [(0,1)] λ j=>?_
    have j:=j.kf 0 1 (wh (eS.iW (xz (λ _ h=>(.tail _ h))))) [];exact j.xF 0 1 (jo h k8)
   refine Ka<|j.zh 4 [(0,1)] (λ j=>?_) (hs:=sZ 3 (r:=by exact sc Z (Wr Z cI T)<|.nil));refine Kx h λ s4 k1 s5 k3 h=>j.kV (l:=[.tmp 62,.tmp 64]) 1 (j.rT (sb:=0) (Pb.eD eS.f4) (.head _) k1) Z Z sK (j.st.has 61 _ Z) (by simp) (.cons T (.cons T .nil)) (fP.any (qM k3)) [] Z [] Z Z (by decide) λ j=>?_;have j:=j.gn;exact Kb<|fU h
  refine j.zd [(0,1)] h (λ j h=>?_) λ j h=>?_
  .have⟨s6,k4,h⟩:=bs h
   refine Kx h λ s7 k5 k6 k7 h=>j.zv [(0,1)] (λ j=>?_) (hs:=sV 1 (r:=by exact sw Z (yC (l:=[.tmp 68]) j.ob.sub Z (.cons (rp (sb:=0) j.ob 1 ((Pb.eD eS.f4).ig (.head _) k4) T Z) .nil) (Wq.1 k5) Bm)<|sV 4 (r:=by exact sw Z (zy (l:=[.tmp 69,.tmp 71,.tmp 73]) Z (.cons T (.cons T (.cons T .nil))) (QL.1 k7))<|sw Z (oA Z T)<|.nil)));refine j.zd [(0,1)] h (λ j h=>?_) λ j h=>?_
   .refine j.zo [(0,1)] λ j=>?_
    have j:=j.kf 0 1 (wh (eS.iW (xz (λ _ h=>(.tail _ h))))) [];exact j.xF 0 1 (jo h k8)
   refine Ka<|j.zh 2 [(0,1)] λ j=>?_;refine kB h λ j1 k9 h=>j.gL 1 0 (hR.impl_machine_load1 k9) [5,7,14] [] λ j=>?_;refine j.zh 5 [(0,1)] (λ j=>Kb ?_);refine j.zd [(0,1)] h (λ j h=>?_) λ j h=>?_
   .refine j.zo [(0,1)] λ j=>?_
    have j:=j.kf 0 1 (wh (eS.iW (xz (λ _ h=>(.tail _ h))))) [];exact j.xF 0 1 (jo h k8)
   refine kQ<|za ?_;have⟨j2,l3,l4⟩:=bs h;refine ib (λ a w=>∃ M1 Q W X Y A B C,Sx (eG.ft w0 G) 236 M M1 [eA Q,W,X,Y,eA A,eA B,eA C] [(5,eX x2),(14,dt k6),(15,dt j1.2.1),(18,dt j2.2),(7,fk (.pointer (some ⟨b4,0,none⟩)))] [(17,4,eY A 0 j2.1),(0,1,eJ (kH bk bl ((x1.toNat,b4)::ps)) W ⟨j1.1⟩ (.pointer (some ⟨b0,0,none⟩)) [])] a w) ?_ ?_
   .refine j.AD (s:=5) λ l5 l6 l7 j=>?_
    refine j.held (λ w=>iu w l5 l6 l7) zP λ _ j=>?_;refine j.tN 0 0 (j.fX 5) λ _ j=>?_;refine j.tk (i:=1) Z Z (by decide +kernel) (by decide +kernel) (by decide +kernel) (λ _ _ _ h=>h) (j.nX (s:=5)) (oH Z (j.st.has 87 _ Z)) λ _ j=>?_;refine j.tk (i:=2) Z Z (by decide +kernel) (by decide +kernel) (by decide +kernel) (λ _ _ _ h=>h) (j.nX (s:=5)) (mo Z pD (j.st.has 88 _ Z)) λ _ j=>?_;refine j.tM 4 15 (j.fX 5) λ _ j=>?_;refine j.tA 7 5 (λ _ j=>?_) (ht:=tK);refine j.tF 8 5 94 Stmt.iM λ _ j=>?_;have⟨s8,b6,h⟩:=bs l3;refine Kx h λ s9 e4 t0 e5 h=>iU 3 13 ?_ ?_
    .refine j.mb (s:=0) 1 true (λ _=>(Pb.eD eS.f4)) [] λ e6 l8 _ a8 j=>?_
     refine j.zh 1 [(0,1)] λ j=>?_;refine fC (j.fX 5) ?_;refine j.Ec (i:=5) (s2:=90) (g:=e6) Z Z (j.fX 5) Z mX Z Z (tp Z) Z (λ h=>a8 h Z) b6 λ _ j=>?_;refine iU 6 13 ?_ ?_
     .refine j.mI (s:=0) 1 (Xf (eS.mG (XP (zJ (yS b6).2)))) [] λ l9 j=>?_
      refine j.zh 1 [(0,1)] (λ j=>?_) (hs:=sc Z (mO (sb:=0) (Pb.eD eS.f4) (.head _) Z (λ h=>a8 h Z) (.head _) (yS b6).2 (cj _) Z mx T Z)<|.nil);refine fC (j.fX 5) ?_;refine iU 9 13 ?_ ?_
      .refine j.zh 1 [(0,1)] (λ j=>?_) (hs:=sc Z (yC (l:=[.tmp 93,.tmp 95]) j.ob.sub Z (.cons (rp (sb:=0) j.ob 1 ((Pb.eD eS.f4).ig (.head _) e4) T Z) (.cons (yG j.ob.sub T) .nil)) (jr.1 e5) (tm tx jh))<|.nil)
       refine fC (j.fX 5) ?_;refine j.tM 10 96 (j.fX 5) λ _ j=>?_;refine j.n' (i:=11) (s2:=86) (j.fX 5) λ j=>?_;refine j.n' (i:=12) (s2:=86) (j.fX 5) (λ j=>fp 13 ?_);refine j.fB 4 nR [5,7,14,15,97,98] [0] λ m0 j=>?_;have j:=j.gn;refine fC (j.fX 5) ?_;refine fp 14 ?_;refine j.eW 17 4 eO.id (tp Z) [5,7,14,15,98] [0] λ j=>?_;refine fC (j.fX 5) ?_;refine fp 15 ?_;refine j.zh 1 [(0,1),(17,4)] λ j=>?_;refine fC (j.fX 5) ?_;refine kG ?_;have j:=j.gS (s:=0) 1 [17];have j:=j.nU (s:=5);have j:=j.kf 0 1 (wh (eS.iW (xz (λ _ h=>(.tail _ h))))) [17];cases h;exact fz
      .refine j.fB 4 nR [5,7,14,15,93,95] [0] λ m1 j=>?_
       have j:=j.gn;refine fC (j.fX 5) ?_;refine fp 9 ?_;refine j.zh 1 [(0,1),(17,4)] (λ j=>?_) (hs:=sc Z (yC (l:=[.tmp 93,.tmp 95]) j.ob.sub Z (.cons (rp (sb:=0) j.ob 1 ((Pb.eD eS.f4).ig (.head _) e4) T Z) (.cons (yG j.ob.sub T) .nil)) (jr.1 e5) (tm tx jh))<|.nil);refine fC (j.fX 5) ?_;refine j.tM 10 96 (j.fX 5) λ _ j=>?_;refine j.n' (i:=11) (s2:=86) (j.fX 5) λ j=>?_;refine j.n' (i:=12) (s2:=86) (j.fX 5) (λ j=>fp 14 ?_);refine j.eW 17 4 eO.id (tp Z) [5,7,14,15,98] [0] λ j=>?_;refine fC (j.fX 5) ?_;refine fp 15 ?_;refine j.zh 1 [(0,1),(17,4)] λ j=>?_;refine fC (j.fX 5) ?_;refine kG ?_;have j:=j.gS (s:=0) 1 [17];have j:=j.nU (s:=5);have j:=j.kf 0 1 (wh (eS.iW (xz (λ _ h=>(.tail _ h))))) [17];cases h;exact fz
     .refine j.fB 4 nR [5,7,14,15,92,95] [0] λ m2 j=>?_
      have j:=j.gn;refine fC (j.fX 5) ?_;refine fp 6 ?_;refine j.mI (s:=0) 1 (Xf (eS.mG (XP (zJ (yS b6).2)))) [17] λ m3 j=>?_;refine j.zh 1 [(0,1),(17,4)] (λ j=>?_) (hs:=sc Z (mO (sb:=0) (Pb.eD eS.f4) (.head _) Z (λ h=>a8 h Z) (.head _) (yS b6).2 (cj _) Z mx T Z)<|.nil);refine fC (j.fX 5) ?_;refine fp 9 ?_;refine j.zh 1 [(0,1),(17,4)] (λ j=>?_) (hs:=sc Z (yC (l:=[.tmp 93,.tmp 95]) j.ob.sub Z (.cons (rp (sb:=0) j.ob 1 ((Pb.eD eS.f4).ig (.head _) e4) T Z) (.cons (yG j.ob.sub T) .nil)) (jr.1 e5) (tm tx jh))<|.nil);refine fC (j.fX 5) ?_;refine j.tM 10 96 (j.fX 5) λ _ j=>?_;refine j.n' (i:=11) (s2:=86) (j.fX 5) λ j=>?_;refine j.n' (i:=12) (s2:=86) (j.fX 5) (λ j=>fp 14 ?_);refine j.eW 17 4 eO.id (tp Z) [5,7,14,15,98] [0] λ j=>?_;refine fC (j.fX 5) ?_;refine fp 15 ?_;refine j.zh 1 [(0,1),(17,4)] λ j=>?_;refine fC (j.fX 5) ?_;refine kG ?_;have j:=j.gS (s:=0) 1 [17];have j:=j.nU (s:=5);have j:=j.kf 0 1 (wh (eS.iW (xz (λ _ h=>(.tail _ h))))) [17];cases h;exact fz
    .refine j.fB 4 nR [5,7,14,15,89,91,95] [0] λ m4 j=>?_
     have j:=j.gn;refine fC (j.fX 5) ?_;refine fp 3 ?_;refine j.mb (s:=0) 1 true (λ _=>(Pb.eD eS.f4)) [17] λ e7 m5 _ b7 j=>?_;refine j.zh 1 [(0,1),(17,4)] λ j=>?_;refine fC (j.fX 5) ?_;refine j.Ec (i:=5) (s2:=90) (g:=e7) Z Z (j.fX 5) Z mX Z Z (tp Z) Z (λ h=>b7 h Z) b6 (λ _ j=>fp 6 ?_);refine j.mI (s:=0) 1 (Xf (eS.mG (XP (zJ (yS b6).2)))) [17] λ m6 j=>?_;refine j.zh 1 [(0,1),(17,4)] (λ j=>?_) (hs:=sc Z (mO (sb:=0) (Pb.eD eS.f4) (.head _) Z (λ h=>b7 h Z) (.head _) (yS b6).2 (cj _) Z mx T Z)<|.nil);refine fC (j.fX 5) ?_;refine fp 9 ?_;refine j.zh 1 [(0,1),(17,4)] (λ j=>?_) (hs:=sc Z (yC (l:=[.tmp 93,.tmp 95]) j.ob.sub Z (.cons (rp (sb:=0) j.ob 1 ((Pb.eD eS.f4).ig (.head _) e4) T Z) (.cons (yG j.ob.sub T) .nil)) (jr.1 e5) (tm tx jh))<|.nil);refine fC (j.fX 5) ?_;refine j.tM 10 96 (j.fX 5) λ _ j=>?_;refine j.n' (i:=11) (s2:=86) (j.fX 5) λ j=>?_;refine j.n' (i:=12) (s2:=86) (j.fX 5) (λ j=>fp 14 ?_);refine j.eW 17 4 eO.id (tp Z) [5,7,14,15,98] [0] λ j=>?_;refine fC (j.fX 5) ?_;refine fp 15 ?_;refine j.zh 1 [(0,1),(17,4)] λ j=>?_;refine fC (j.fX 5) ?_;refine kG ?_;have j:=j.gS (s:=0) 1 [17];have j:=j.nU (s:=5);have j:=j.kf 0 1 (wh (eS.iW (xz (λ _ h=>(.tail _ h))))) [17];cases h;exact fz
   rintro _ _ ⟨_,Q,W,X,Y,A,B,C,j⟩;have h:=l4;have⟨e8,e9,d1⟩:=bs h;refine ib (λ a w=>∃ b5,e8=.inl b5/\(∃ M1 Q W X Y A B C,Sx (eG.ft w0 G) 236 M M1 [eA Q,W,X,Y,eA A,eA B,eA C] [(5,eX x2),(7,fk (.pointer (some ⟨b4,0,none⟩)))] [(17,4,eY A 0 b5.2),(0,1,eJ (kH bk bl ((x1.toNat,b4)::ps)) W ⟨b5.1⟩ (.pointer (some ⟨b0,0,none⟩)) [])] a w)) ?_ ?_
   .refine j.zd [(0,1),(17,4)] e9 (λ j h=>?_) λ j h=>?_
    .have⟨m7,m8,h⟩:=bs h
     refine j.zo [(0,1),(17,4)] (λ j=>Ka ?_);refine Kx h λ m9 d2 n0 f9 h=>kB h λ n2 g0 h=>j.mb (s:=0) 1 true (λ _=>(Pb.eD eS.f4)) [17] λ g3 n3 _ b9 j=>?_;refine j.mI (s:=0) 1 (Xf (eS.mG (XP (zJ (yS d2).2)))) [17] λ n4 j=>?_;refine j.zh 23 [(0,1),(17,4)] (λ j=>?_) (hs:=sc Z (oM Z U)<|
      sc Z (gK Z T)<|
      sc Z (eV Z pD T)<|
      sc Z (fS (sb:=0) (.head _) Z Z Z T Z)<|
      sc Z (oM Z T)<|
      sc Z (gJ (g:=g3) Z mX T T Z (λ h=>b9 h Z) d2)<|
      sc Z (mO (sb:=0) (Pb.eD eS.f4) (.head _) Z (λ h=>b9 h Z) (.head _) (yS d2).2 (cj _) Z mx T Z)<|
      sc Z (gK Z T)<|
      sc Z (eV Z uS T)<|
      sc Z (gi (sb:=0) (((Pb.eD eS.f4).ig (.head _) f9).eD fD.f1) Z T Z)<|
      sc Z (gU Z T cI)<|
      sc Z (oM Z T)<|
      sg Z Z (λ hg=>oM Z T)<|
      sg Z Z (λ hg=>YY Z V (yM))<|
      sc Z (qe Z T T)<|
      sc Z (oM Z T)<|
      sg Z Z (λ hg=>oM Z U)<|
      sg Z Z (λ hg=>oM Z T)<|
      sg Z Z (λ hg=>yC (l:=[.tmp 121,.tmp 122]) j.ob.sub Z (.cons (rn (sb:=0) j.ob 1 V Z) (.cons (yG j.ob.sub V) .nil)) (xp.1 (gh hg g0)) xQ)<|
      sg Z Z (λ hg=>gU Z V cI)<|
      sg Z Z (λ hg=>oM Z V)<|
      lG Z Z (λ hg=>oM Z U)<|
      lG Z Z (λ hg=>oM Z T)<|.nil)
     refine kB h λ n5 g4 h=>j.Lg (sb:=0) (l:=[.tmp 127]) 1 Z (λ _ h=>h) Z Z Z PJ (λ hg=>(j.st.has 126 _ Z).1 hg) (by simp) (λ hg=>(.cons V .nil)) (λ hg=>J5 (gh hg g4)) [5,7,19,120,125] Z [17] Z Z (by decide) λ _ _ _ _ j=>?_;have j:=j.gn;refine j.zh 4 [(0,1),(17,4)] (λ j=>?_) (hs:=lG Z Z (λ hg=>Gw Spec.gD Z Z V)<|lG Z Z (λ hg=>gU Z V cI)<|sg Z Z (λ hg=>xd Z V (rQ hg Z))<|eI);refine Kb<|j.cq h (λ h=>?_) λ h=>?_
     .refine j.zo [(0,1)] λ j=>?_
      have j:=j.kf 0 1 (wh (eS.iW (xz (λ _ h=>(.tail _ (.tail _ h)))))) [];exact j.xF 0 1 (jo (jo h d1) k8)
     refine Ka<|j.zh 2 [(0,1),(17,4)] λ j=>?_;refine kB h λ n6 g5 h=>j.gL 1 0 (hR.impl_machine_load1 g5) [5,7] [17] λ j=>?_;refine j.zh 5 [(0,1),(17,4)] (λ j=>Kb ?_);refine j.zd [(0,1),(17,4)] h (λ j h=>?_) λ j h=>?_
     .refine j.zo [(0,1)] λ j=>?_
      have j:=j.kf 0 1 (wh (eS.iW (xz (λ _ h=>(.tail _ (.tail _ h)))))) [];exact j.xF 0 1 (jo (jo h d1) k8)
     refine Ka<|j.zh 2 [(0,1),(17,4)] (λ j=>?_) (hs:=sZ 1 (r:=by exact sc Z (Wr Z cI T)<|.nil));refine j.eW 17 4 eO.id (tp Z) [5,7] [0] (λ j=>Kb ?_);have j:=j.kf 0 1 (wh (eS.iW (xz (λ _ h=>(.tail _ h))))) [17];exact fU h
    exact fU h
   rintro _ _ ⟨b5,rfl,⟨_,Q,W,X,Y,A,B,C,j⟩⟩;have h:=jn d1;refine Ka<|j.zh 4 [(0,1)] λ j=>?_;refine Kx h λ n7 g6 n8 g7 h=>j.kV (l:=[.tmp 146,.tmp 147]) 1 (j.rT (sb:=0) (Pb.eD eS.f4) (.head _) g6) Z Z sK (j.st.has 144 _ Z) (by simp) (.cons T (.cons T .nil)) (fP.any (qM g7)) [] Z [] Z Z (by decide) λ j=>?_;have j:=j.gn;exact Kb<|fU h
  refine j.zd [(0,1)] h (λ j h=>?_) λ j h=>?_
  .refine Ka ?_
   refine j.zh 3 [(0,1)] λ j=>?_;refine kB h λ d4 g8 h=>j.gL 1 0 (hR.impl_machine_load1 g8) [7] [] λ j=>?_;refine j.zh 5 [(0,1)] (λ j=>Kb ?_);refine j.zd [(0,1)] h (λ j h=>?_) λ j h=>?_
   .refine j.zo [(0,1)] λ j=>?_
    have j:=j.kf 0 1 (wh (eS.iW (xz (λ _ h=>(.tail _ h))))) [];exact j.xF 0 1 (jo h k8)
   refine Ka<|Kx h λ n9 d3 o4 d5 h=>j.mb (s:=0) 1 true (λ _=>(Pb.eD eS.f4)) [] λ g9 o5 _ c8 j=>?_;refine j.mI (s:=0) 1 (Xf (eS.mG (XP (zJ (yS d3).2)))) [] λ d6 j=>?_;refine j.fL 0 1 (((Pb.eD eS.f4).ig (.head _) d5).eD fD.f5) [] λ o6 o7 _ j3 j=>?_;refine j.zh 11 [(0,1),(161,0)] (λ j=>?_) (hs:=sc Z (xj (α:=fI) (e:=188) Z (ht':=my))<|sZ 5 (r:=by exact sc Z (gJ (g:=g9) Z mX T T Z (λ h=>c8 h Z) d3)<|sc Z (mO (sb:=0) (Pb.eD eS.f4) (.tail _ (.head _)) Z (λ h=>c8 h Z) (.head _) (yS d3).2 (cj _) Z mx T Z)<|eI));refine kB h λ a9 h0 h=>j.DH 0 Z Z FG Z Z (j.D2 (sb:=0) (((Pb.eD eS.f4).ig (.head _) d5).eD fD.f5) (.head _) Z (zR Z Z) Z Z) h0 [7] Z [0] Z Z λ o9 _ _ _ j=>?_;have j:=j.gn;refine j.zh 2 [(0,1),(172,0)] (λ j=>?_) (hs:=sc Z (rH Z T)<|eI);refine Kb ?_;have j:=j.gS (s:=0) 1 [172];refine gk h (λ b3 a w=>∃ M1 Q W X Y A B C,Sx (eG.ft w0 G) 236 M M1 [eA Q,W,X,Y,eA A,eA B,eA C] [(173,dt (a9.length:Int)),(174,dt b3.2),(7,fk (.pointer (some ⟨b4,0,none⟩)))] [(172,0,eQ Q 188 a9),(0,1,eJ (kH bk bl ((d4.2.1.toNat,d6)::((x1.toNat,b4)::ps))) W ⟨b3.1⟩ (.pointer (some ⟨b0,0,none⟩)) [])] a w) fx ?_;rintro b3 h3 _ _ ⟨_,Q,W,X,Y,A,B,C,j⟩ h e0;refine j.zd [(0,1),(172,0)] h (λ j h=>?_) λ j h=>?_
   .refine kQ ?_
    refine za ?_;have⟨h4,h5,h6⟩:=bs h;refine ib (λ a w=>∃ M1 Q W X Y A B C,Sx (eG.ft w0 G) 236 M M1 [eA Q,W,X,Y,eA A,eA B,eA C] [(173,dt (a9.length:Int)),(174,dt b3.2),(7,fk (.pointer (some ⟨b4,0,none⟩)))] [(172,0,eQ Q 188 a9),(0,1,eJ (kH bk bl ((d4.2.1.toNat,d6)::((x1.toNat,b4)::ps))) W ⟨h4⟩ (.pointer (some ⟨b0,0,none⟩)) [])] a w) ?_ ?_
    .refine Ka ?_
     have⟨p0,h7,h⟩:=bs h5;refine j.zh 2 [(0,1),(172,0)] (λ j=>?_) (hs:=sc Z (oC Z my T T h7)<|eI);refine j.fB 5 KY [7,173,174,177] [0,172] λ p1 j=>?_;have j:=j.gn;refine j.eW 25 5 eO.id (tp Z) [7,173,174] [0,172] (λ j=>Kb ?_);refine kB h λ p4 p5 h=>j.zd [(0,1),(25,5),(172,0)] h (λ j h=>?_) λ j h=>?_
     .refine Ka ?_
      refine j.zh 5 [(0,1),(172,0)] λ j=>?_;refine Kx h λ p6 h8 p7 h9 h=>j.kV (l:=[.tmp 184,.tmp 186]) 1 (j.rT (sb:=0) (Pb.eD eS.f4) (.tail _ (.head _)) h8) Z Z sK (j.st.has 182 _ Z) (by simp) (.cons T (.cons T .nil)) (fP.any (qM h9)) [7,173,174] Z [172] Z Z (by decide) λ j=>?_;have j:=j.gn;refine Kb ?_;cases h;exact fz
     cases h;exact fz
    rintro _ _ ⟨_,Q,W,X,Y,A,B,C,j⟩;have h:=h6;exact kB h λ p9 q3 h=>j.zn [(0,1),(172,0)] h
   have j:=j.kf 0 1 (wh (eS.iW (xz (λ _ h=>(.tail _ h))))) [172];exact fU (lo h e0)
  refine j.zd [(0,1)] h (λ j h=>?_) λ j h=>?_
  .refine Ka ?_
   refine j.zh 6 [(0,1)] (λ j=>?_) (hs:=sZ 5 (r:=by exact sc Z (Wr Z cI T)<|.nil));refine Kx h λ q4 i0 q5 i3 h=>j.kV (l:=[.tmp 193,.tmp 196]) 1 (j.rT (sb:=0) (Pb.eD eS.f4) (.head _) i0) Z Z sK (j.st.has 191 _ Z) (by simp) (.cons T (.cons T .nil)) (fP.any (qM i3)) [] Z [] Z Z (by decide) λ j=>?_;have j:=j.gn;exact Kb<|fU h
  refine j.zd [(0,1)] h (λ j h=>?_) λ j h=>?_
  .refine Ka ?_
   refine Kx h λ q6 i4 q7 i5 h=>j.zh 7 [(0,1)] (λ j=>?_) (hs:=sZ 3 (r:=by exact sc Z (yC (l:=[.tmp 201,.tmp 203]) j.ob.sub Z (.cons (rp (sb:=0) j.ob 1 ((Pb.eD eS.f4).ig (.head _) i4) T Z) (.cons (yG j.ob.sub T) .nil)) (jr.1 i5) (tm tx jh))<|eI));refine j.fB 6 nR [205,206] [0] λ e3 j=>?_;have j:=j.gn;refine j.eW 26 6 eO.id (tp Z) [206] [0] λ j=>?_;refine j.zh 1 [(0,1),(26,6)] (λ j=>Kb ?_);refine j.zd [(0,1),(26,6)] h (λ j h=>?_) λ j h=>?_
   .refine j.zo [(0,1)] λ j=>?_
    have j:=j.kf 0 1 (wh (eS.iW (xz (λ _ h=>(.tail _ h))))) [];exact j.xF 0 1 (jo h k8)
   refine j.zd [(0,1),(26,6)] h (λ j h=>?_) λ j h=>?_
   .refine Ka ?_
    refine j.fL 0 1 (Pb.eD eS.f5) [26] λ q8 q9 _ j4 j=>?_;refine j.zh 6 [(0,1)] (λ j=>?_) (hs:=sZ 5 (r:=by exact sc Z (wa (opds:=[.const (.int .i64 (-1))]) Z Z Z (.cons cI .nil))<|.nil));refine j.iN (s:=229) (sb:=0) 1 3 (Pb.eD eS.f5) (.head _) (zR Z Z) [225,230] [] @λ i6 H316 j=>?_;have j:=j.gs (Gs':=[eA none,i6,eA none,H316,eA none,eA none,eA (some e3)]);refine j.kx (s:=229) 3 (by first | (simp;done) | exact oD rfl) [0] λ r0 j=>?_;refine kB h λ r1 i7 h=>j.ic 3 yW i7 [225] [0] λ r2 j=>?_;have j:=j.gn;refine j.zh 2 [(0,1),(231,3)] λ j=>?_;have j:=j.iO (s:=231) 3 [0];refine j.kg 0 231 1 3 (tp Z) [] [] λ j=>?_;have j:=j.gn;exact Kb<|fU h
   refine j.held (λ _=>True) zP λ _ j=>?_;refine j.tN 0 0 trivial λ _ j=>?_;refine j.fL 0 1 (Pb.eD eS.f5) [26] λ r3 r4 _ j5 j=>?_;refine j.nV (D:=[_,_,_,_,_,_,_,_]) 8 [0] [[(0,nS)],[(0,nS)],[(208,1)],[(209,2)],[(210,3),(0,nS)],[(26,nS)],[(212,5)],[(213,6)],[(211,4),(214,7)],[(207,0)],[(216,9)],[(217,10),(215,8)]] (
    rc Z Z (oM Z U)<|
    rc Z Z (oM Z U)<|
    rc Z Z (gK Z T)<|
    rc Z Z (eV Z BB T)<|
    rc Z Z (fS (sb:=0) (.head _) Z Z Z T Z)<|
    rc Z Z (jH fu.gA Z T)<|
    rc Z Z (yV Z T)<|
    rc Z Z (wa (opds:=[.tmp 213]) Z Z Z (.cons T .nil))<|.nil) (by
 intro i hi x d hx
 simp only[aj,aF,bI] at hi
 rcases hi with rfl
 all_goals (injection hx with hx;injection hx with h1 h2;subst h1;subst h2;rfl)) [207,211,214] [(0,1)] Z ⟨λ _ h=>h,trivial⟩ (λ j=>?_)
   refine j.iN (s:=211) (sb:=0) 1 2 (Pb.eD eS.f5) (.head _) (zR Z Z) [207,214] [] @λ i8 H334 j=>?_;have j:=j.gs (Gs':=[eA none,i8,H334,eA none,eA none,eA none,eA (some e3)]);refine j.kx (s:=211) 2 (by first | (simp;done) | exact oD rfl) [0] λ r5 j=>?_;refine kB h λ r6 i9 h=>j.ic 2 yW i9 [207] [0] λ r7 j=>?_;have j:=j.gn;refine j.zh 2 [(0,1),(215,2)] λ j=>?_;have j:=j.iO (s:=215) 2 [0];refine j.kg 0 215 1 2 (tp Z) [] [] λ j=>?_;have j:=j.gn;exact Kb<|fU h
  refine j.zd [(0,1)] h (λ j h=>?_) λ j h=>?_
  .refine j.zo [(0,1)] λ j=>?_
   have j:=j.kf 0 1 (wh (eS.iW (xz (λ _ h=>(.tail _ h))))) [];exact j.xF 0 1 (jo h k8)
  exact fU h
 rintro _ _ ⟨b8,rfl,⟨_,Q,W,X,Y,A,B,C,j⟩⟩;have h:=jn k8;refine j.zo [(0,1)] λ j=>?_;have j:=j.kf 0 1 (wh (eS.iW (xz (λ _ h=>(.tail _ h))))) [];exact j.xF 0 1 h
