import Derived.Test.YtoomehfflopakaaGreatDoorTD
import Derived.Test.YtoomehfflopakaaGreatDoorTFb
import Derived.Test.YtoomehfflopakaaGreatDoorTQ
namespace Go.Proofs.YtoomehfflopakaaGreatDoor
open Go.RowKit Tryz
variable{r x3:Bool}{f:File}{x x4:iP}{a k x1:Int}{x0:List eU}{l:List Str}{bk bn:Nat}{p s x2:Str}{t:Tree}{c:UInt8}
instance (s:Str):Decidable (gM s):=by unfold gM;infer_instance
instance (s:Stmt):Decidable (lH s):=by unfold lH;infer_instance
instance (f:File):Decidable (iC f):=by unfold iC;infer_instance
instance (t:Tree):Decidable (ja t):=by unfold ja;infer_instance
abbrev lb:Ow (List fI):=Ow.row 188 (Ow.eE (α:=fI))
def yn(t:Tree):Option Bool:=if ja t then some (yh t) else none
theorem qn(h:yn t=some r):Fn prog 145 [dt t] (dt r):=by
 unfold yn at h;split at h
 .rename_i hc
  injection h with h
  subst h;exact UB _ hc
 .cases h
def yZ(s:Str):Option Bool:=if gM s then some (zi s) else none
theorem ZO(h:yZ s=some r):Fn prog 91 [dt s] (dt r):=by
 unfold yZ at h;split at h
 .rename_i hc
  injection h with h
  subst h;exact Xe _ hc
 .cases h
def yz(s:Str):Option Bool:=if gM s then some (zm s) else none
theorem Je(h:yz s=some r):Fn prog 60 [dt s] (dt r):=by
 unfold yz at h;split at h
 .rename_i hc
  injection h with h
  subst h;exact Zg _ hc
 .cases h
def WC(s:Str)(p:Str):Option Bool:=if p.l.length<=1152921504606846976 then some (under s p) else none
theorem IN(h:WC s p=some r):Fn prog 221 [dt s,dt p] (dt r):=by
 unfold WC at h;split at h
 .rename_i hc
  injection h with h
  subst h;exact Ij _ _ hc
 .cases h
def qJ(s:Str)(c:UInt8):Option (List Str):=if gM s then some (zC s c) else none
theorem Vq{r}(h:qJ s c=some r):Fn prog 95 [dt s,dt c] (dt r):=by
 unfold qJ at h;split at h
 .rename_i hc
  injection h with h
  subst h;exact YA _ _ hc
 .cases h
def Y1(l:List Str)(s:Str):Option (List Str):=if l.length<=8796093022200 then some (qa l s) else none
theorem Ur{r:List Str}(h:Y1 l s=some r):pL prog 250 9 l [dt s] r:=by
 unfold Y1 at h;split at h
 .rename_i hc
  injection h with h
  subst h;exact UE _ _ hc
 .cases h
def Z5(p:List Int):Option Bool:=if True then some (xY p) else none
theorem HH{p}(h:Z5 p=some r):Fn prog 31 [dt p] (dt r):=by
 unfold Z5 at h;split at h
 .rename_i hc
  injection h with h
  subst h;exact UA _
 .cases h
def wd(s:Str):Option Str:=if gM s then some (yb s) else none
theorem Im{r}(h:wd s=some r):Fn prog 103 [dt s] (dt r):=by
 unfold wd at h;split at h
 .rename_i hc
  injection h with h
  subst h;exact Vm _ hc
 .cases h
def Yp(s:Str):Option Str:=if gM s then some (qG s) else none
theorem CN{r}(h:Yp s=some r):Fn prog 108 [dt s] (dt r):=by
 unfold Yp at h;split at h
 .rename_i hc
  injection h with h
  subst h;exact SO _ hc
 .cases h
def Zh(s:Str):Option (List Str):=if gM s then some (nl s) else none
theorem IP{r}(h:Zh s=some r):Fn prog 202 [dt s] (dt r):=by
 unfold Zh at h;split at h
 .rename_i hc
  injection h with h
  subst h;exact SJ _ hc
 .cases h
def wi(p:Str)(s:Str):Option Str:=if p.l.length+s.l.length<=1152921504606846976 then some (child p s) else none
theorem WD{r}(h:wi p s=some r):Fn prog 93 [dt p,dt s] (dt r):=by
 unfold wi at h;split at h
 .rename_i hc
  injection h with h
  subst h;exact CB _ _ hc
 .cases h
def jQ(f:File):Option Str:=if iC f then some (xe f) else none
theorem WE{r}(h:jQ f=some r):Fn prog 189 [dt f] (dt r):=by
 unfold jQ at h;split at h
 .rename_i hc
  injection h with h
  subst h;exact UD _ hc
 .cases h
def YP(t:Tree)(f:File):Option Int:=if True then some (qU t.files f) else none
theorem CE{r}(h:YP t f=some r):Fn prog 182 [dt t,dt f] (dt r):=by
 unfold YP at h;split at h
 .rename_i hc
  injection h with h
  subst h;exact HM _ _
 .cases h
def Ju  : Option Spec:=if True then some (ot) else none
theorem Io {r:Spec}(h:Ju  = some r):Fn prog 149 [] (dt r):=by
 unfold Ju at h;split at h
 .rename_i hc
  injection h with h
  subst h;exact Vn
 .cases h
def XS(t:Tree)(n:Int)(p:Str):Option Bool:=if p.l.length<=1152921504606846976 then some (na t.files n p) else none
theorem Ip{n}(h:XS t n p=some r):Fn prog 204 [dt t,dt n,dt p] (dt r):=by
 unfold XS at h;split at h
 .rename_i hc
  injection h with h
  subst h;exact Vo _ _ _ hc
 .cases h
instance:gC prog 145 dt dt yn:=⟨λ h=>qn h⟩
instance:gC prog 91 dt dt yZ:=⟨λ h=>ZO h⟩
instance:gC prog 60 dt dt yz:=⟨λ h=>Je h⟩
instance:fY prog 221 dt dt dt WC:=⟨λ h=>IN h⟩
instance:fY prog 95 dt dt dt qJ:=⟨λ h=>Vq h⟩
instance:gC prog 31 dt dt Z5:=⟨λ h=>HH h⟩
instance:gC prog 103 dt dt wd:=⟨λ h=>Im h⟩
instance:gC prog 108 dt dt Yp:=⟨λ h=>CN h⟩
instance:gC prog 202 dt dt Zh:=⟨λ h=>IP h⟩
instance:fY prog 93 dt dt dt wi:=⟨λ h=>WD h⟩
instance:gC prog 189 dt dt jQ:=⟨λ h=>WE h⟩
instance:fY prog 182 dt dt dt YP:=⟨λ h=>CE h⟩
instance:ky prog 204 dt dt dt dt XS:=⟨λ h=>Ip h⟩
instance:fY prog 216 dt dt dt yQ:=⟨λ h=>JV h⟩
attribute [local irreducible] eP eC
set_option maxRecDepth 10000
set_option maxHeartbeats 1600000
theorem FD:Bg prog 5 3=true:=by kernel_rfl
theorem PU:zeroCells prog 3=some xx:=by kernel_rfl
theorem Pm:lL prog 73=true:=by kernel_rfl
theorem rl:gV prog 73 8=true:=by kernel_rfl
theorem FW:fM prog 174 true 8=true:=by kernel_rfl
theorem Pu:gb prog 164=true:=by kernel_rfl
theorem O9:fR prog 174 7 7=true:=by kernel_rfl
theorem By:iH prog 43 109 5 56=true:=by kernel_rfl
theorem W4:∀ {M:Nat->Prop} {look:Nat->Option Dt} {o:Oper} {q0 q1 q2 q3 q4 q5 q6 q7:Operand} {y0:Int} {y1:Str} {y2:Bool} {y3:Int} {y4:Int} {y5:Int} {y6:Int} {y7:List Stmt},o.op=.build 174 #[(0,q0),(1,q1),(2,q2),(3,q3),(4,q4),(5,q5),(6,q6),(7,q7)]->eC M look q0 (dt y0)->eC M look q1 (dt y1)->eC M look q2 (dt y2)->eC M look q3 (dt y3)->eC M look q4 (dt y4)->eC M look q5 (dt y5)->eC M look q6 (dt y6)->eC M look q7 (dt y7)->eP prog M look o (dt (⟨y0,y1,y2,y3,y4,y5,y6,y7⟩:eU)):=@λ _ _ _ q0 q1 q2 q3 q4 q5 q6 q7 y0 y1 y2 y3 y4 y5 y6 y7 ho h0 h1 h2 h3 h4 h5 h6 h7=>yf (parts:=[(0,q0),(1,q1),(2,q2),(3,q3),(4,q4),(5,q5),(6,q6),(7,q7)]) (ns:=[1,1,1,1,1,1,1,1]) (zs:=IX) Z ho (λ w a hl=>FA ⟨(by decide:0<8),ey.len (α:=Int) (eC.cells h0 hl)⟩ (FA ⟨(by decide:1<8),ey.len (α:=Str) (eC.cells h1 hl)⟩ (FA ⟨(by decide:2<8),ey.len (α:=Bool) (eC.cells h2 hl)⟩ (FA ⟨(by decide:3<8),ey.len (α:=Int) (eC.cells h3 hl)⟩ (FA ⟨(by decide:4<8),ey.len (α:=Int) (eC.cells h4 hl)⟩ (FA ⟨(by decide:5<8),ey.len (α:=Int) (eC.cells h5 hl)⟩ (FA ⟨(by decide:6<8),ey.len (α:=Int) (eC.cells h6 hl)⟩ (FA ⟨(by decide:7<8),ey.len (α:=List Stmt) (eC.cells h7 hl)⟩ FN)))))))) (λ w a hl=>eU.parts (x:=(⟨y0,y1,y2,y3,y4,y5,y6,y7⟩:eU)) (eC.cells h0 hl) (eC.cells h1 hl) (eC.cells h2 hl) (eC.cells h3 hl) (eC.cells h4 hl) (eC.cells h5 hl) (eC.cells h6 hl) (eC.cells h7 hl))
def Wb(x0:Int)(x1:Int):Option Int:=
(i64 (131*x1)).bind λ v1=>
(i64 (v1+x0)).bind λ v2=>
(i64 (v2+1)).bind λ v3=>
(pv v3 1000003).bind λ v4=>
 some v4
theorem Vx{x0 r}(h:Wb x0 x1=some r):lP 1 prog 55 (Ow.box (Ow.eE (α:=Int))) ⟨x1⟩ [dt x0] ⟨r⟩ .gone:=by
 refine sF (fn:=f55) 1 0 2 func55 Z Z Z (λ M G _ b0 _ j=>gj ?_);refine Ka<|Kx h λ v1 p1 v2 p2 h=>Kx h λ v3 p3 v4 p4 h=>j.zh 6 [(1,0)] (λ j=>?_) (hs:=sc Z (gi (sb:=1) Pb Z U Z)<|sZ 4 (r:=by exact sc Z (vC Z T cI p4)<|.nil));refine j.gX 1 0 Pb (zt Z) (tp Z) [] [] (λ j=>Kb ?_);exact(j.iD (s:=1) 0 (iy h)).2
def oh(x:Fw Int C0)(k:Int):Option (Fw Int C0):=match x.o with
 | none=>none
 | some q=>(Wb k q.2).bind λ r=>some ⟨some (q.1,r)⟩
theorem tE{x r}(h:oh x k=some r):kF prog (Ow.fw .nilFunc 55 bn (Ow.eE (α:=Int))) x [dt k] r .gone:=by
 obtain⟨o⟩:=x;unfold oh at h;cases o with
 | none=>cases h
 |some q=>
  obtain⟨r1,h1,h2⟩:=cb.1 h;injection h2 with h2
  subst h2;exact uM (d:=q.1) (Vx h1)
def jp(x0:Str)(s3:(Fw Int C0)×Int):Option (((Fw Int C0)×Int)⊕(Fw Int C0)):=
 ite ((ez .lss s3.2 x0.l.length)=true) ((eN x0.l s3.2).bind λ a8=>
(oh s3.1 a8.toNat).bind λ a9=>
(i64 (s3.2+1)).bind λ b3=>
 some (.inl (a9,b3)))<|some (.inr s3.1)
def Wc(x0:Str)(x1:Fw Int C0):Option (Fw Int C0):=
 Option.bind (zE (λ s3=>jp x0 s3) (x1,0)) λ o1=>
(oh o1 0).bind λ a8=>
 some a8
theorem Vy{x0 x1 r}(h:Wc x0 x1=some r):lP 1 prog 56 (Ow.box (Ow.fw (δ:=C0) .nilFunc 55 bn (Ow.eE (α:=Int)))) ⟨x1⟩ [dt x0] ⟨r⟩ .gone:=by
 refine sF (fn:=f56) 1 0 2 func56 Z Z Z (λ M G w0 b0 _ j=>gj ?_);have⟨o1,p1,k1⟩:=bs h;refine ib (λ a w=>∃ M1 Q R,Sx (eG.ft w0 G) 18 M M1 [Q,eA R] [] [(1,0,eJ (Ow.box (Ow.fw (δ:=C0) .nilFunc 55 bn (Ow.eE (α:=Int)))) Q ⟨o1⟩ (.pointer (some ⟨b0,0,none⟩)) [])] a w) ?_ ?_
 .refine j.zo [(1,0)] λ j=>?_
  refine gk p1 (λ s3 a w=>∃ M1 Q R,Sx (eG.ft w0 G) 18 M M1 [Q,eA R] [(0,dt x0),(5,dt (x0.l.length:Int)),(6,dt s3.2)] [(1,0,eJ (Ow.box (Ow.fw (δ:=C0) .nilFunc 55 bn (Ow.eE (α:=Int)))) Q ⟨s3.1⟩ (.pointer (some ⟨b0,0,none⟩)) [])] a w) fx ?_;rintro s3 z3 _ _ ⟨_,Q,R,j⟩ h hx3;refine j.zd [(1,0)] h (λ j h=>?_) λ j h=>?_
  .refine j.zo [(1,0)] λ j=>?_
   refine kB h λ b5 a8 h=>j.hd1 (s:=1) 0 true (λ _=>Pb) Z Z Z (λ _ h=>h) [] Z λ b9 hb9 j=>?_;refine j.zu 5 [(1,0)] (λ j=>?_) (hs:=sw Z (fS (sb:=1) (.head _) Z hb9 Z U Z)<|sV 2 (r:=by exact sw Z (nH Z T T a8)<|sw Z (Ht Z FD T)<|.nil));refine kB h λ b6 a9 h=>j.cD (l:=[.tmp 13]) 0 (j.mE (sb:=1) Pb (.head _) Z (zR Z hb9) Z (λ _ h=>h)) Z Z Z (j.st.has 9 _ Z) (by simp) (.cons T .nil) (kF.any (tE a9)) [0,5,6] Z [] Z Z (by decide) (λ j=>Kb ?_);exact kB h λ b7 b8 h=>j.zn [(1,0)] h
  cases lo h hx3;exact fz
 rintro _ _ ⟨M1,Q,R,j⟩;have h:=k1;refine Ka<|j.hd1 (s:=1) 0 true (λ _=>Pb) Z Z Z (λ _ h=>h) [] Z λ c8 hb21 j=>?_;refine j.zh 1 [(1,0)] (λ j=>?_) (hs:=sc Z (fS (sb:=1) (.head _) Z hb21 Z U Z)<|.nil);refine kB h λ d1 b3 h=>j.cD (l:=[.const (.int .i64 0)]) 0 (j.mE (sb:=1) Pb (.head _) Z (zR Z hb21) Z (λ _ h=>h)) Z Z Z (j.st.has 16 _ Z) (by simp) (.cons cI .nil) (kF.any (tE b3)) [] Z [] Z Z (by decide) (λ j=>Kb ?_);exact(j.iD (s:=1) 0 (iy h)).2
def sD(x:Fw (Fw Int C0) C0)(k:Str):Option (Fw (Fw Int C0) C0):=match x.o with
 | none=>none
 | some q=>(Wc k q.2).bind λ r=>some ⟨some (q.1,r)⟩
theorem EG{bm:Nat}{x k r}(h:sD x k=some r):kF prog (Ow.fw .nilFunc 56 bm (Ow.fw .nilFunc 55 bn (Ow.eE (α:=Int)))) x [dt k] r .gone:=by
 obtain⟨o⟩:=x;unfold sD at h;cases o with
 | none=>cases h
 |some q=>
  obtain⟨r1,h1,h2⟩:=cb.1 h;injection h2 with h2
  subst h2;exact uM (d:=q.1) (Vy h1)
def qq(x0:List Stmt)(a8:(Fw (Fw Int C0) C0)×Int):Option (((Fw (Fw Int C0) C0)×Int)⊕(Fw (Fw Int C0) C0)):=
 ite ((ez .lss a8.2 x0.length)=true) ((eN x0 a8.2).bind λ a9=>
(a8.1.o).bind λ b3=>
(oh b3.2 a9.kind).bind λ b5=>
(oh b5 a9.level).bind λ b6=>
(oh b6 a9.value).bind λ b7=>
(sD ⟨some (b3.1,b7)⟩ a9.module).bind λ b8=>
(sD b8 a9.name).bind λ b9=>
(i64 (a8.2+1)).bind λ c8=>
 some (.inl (b9,c8)))<|some (.inr a8.1)
def Zy(x0:List Stmt):Option Int:=
(xP x0).bind λ v2=>
 ite ((!v2)=true) (some (-1))<|Option.bind (zE (λ a8=>qq x0 a8) (⟨some ((⟨⟩:C0),(⟨some ((⟨⟩:C0),(1:Int))⟩:Fw Int C0))⟩,0)) λ a9=>
(a9.o).bind λ b3=>
(b3.2.o).bind λ b5=>
 some b5.2
instance CG:gC prog 27 dt dt Zy:=⟨@λ x0 r h=>by
 refine fe 5 func27 λ M w0 _ j=>?_;refine j.z1 λ j=>?_;refine kB h λ v2 p2 h=>j.zc h (λ j h=>?_) λ j h=>?_
 .exact j.ze h
 refine Ka<|j.gZ (ow:=(Ow.eE (α:=Int))) 2 qf [0] [] λ b8 _ _ _ j=>?_;have j:=j.gn;refine j.gX 3 2 Pb (zt Z) cI [0] [] (λ j=>Kb ?_);refine Ka<|j.tX (z:=.nilFunc) (so:=3) (l:=[]) (y:=(⟨⟩:C0)) 2 .nil [0] [] λ _ j=>?_;refine j.gZ (ow:=(Ow.fw (δ:=C0) .nilFunc 55 b8 (Ow.eE (α:=Int)))) 3 (Ow.tT Z) [0,3] [11] λ a9 _ _ _ j=>?_;have j:=j.gn;refine j.iS (sb:=4) (tv:=11) 3 2 Pb (zt Z) [0,3] [] λ j=>?_;have j:=j.gn;refine Kb<|Ka<|j.tX (z:=.nilFunc) (so:=4) (l:=[]) (y:=(⟨⟩:C0)) 3 .nil [0,3] [] λ _ j=>?_;refine j.se (s:=12) 3 [] λ u17 j=>?_;refine j.zh 1 [(5,3)] (λ j=>Kb ?_);refine za ?_;have⟨b7,b9,c8⟩:=bs h;refine ib (λ a w=>∃ M1 Q R W X Y,Sx (eG.of w0) 41 M M1 [Q,R,W,X,eA Y] [(3,fk (fm b8))] [(5,3,eH (Ow.fw (δ:=C0) .nilFunc 56 a9 (Ow.fw (δ:=C0) .nilFunc 55 b8 (Ow.eE (α:=Int)))) X b7)] a w) ?_ ?_
 .refine j.zo [(5,3)] λ j=>?_
  have j:=j.fv (s:=5) 3 [];refine gk b9 (λ a8 a w=>∃ M1 Q R W X Y,Sx (eG.of w0) 41 M M1 [Q,R,W,X,eA Y] [(13,dt x0),(14,dt (x0.length:Int)),(15,dt a8.2),(3,fk (fm b8)),(4,fk (fm a9))] [(5,3,eH (Ow.fw (δ:=C0) .nilFunc 56 a9 (Ow.fw (δ:=C0) .nilFunc 55 b8 (Ow.eE (α:=Int)))) X a8.1)] a w) fx ?_;rintro a8 d1 _ _ ⟨_,Q,R,W,X,Y,j⟩ h b5;refine j.zd [(5,3)] h (λ j h=>?_) λ j h=>?_
  .refine Ka ?_
   refine kB h λ e3 e4 h=>j.zh 2 [(5,3)] λ j=>?_;refine j.fB 4 nQ [3,4,13,14,15,18] [5] λ e5 j=>?_;have j:=j.gn;refine j.eW 7 4 eO.id (tp Z) [3,4,13,14,15] [5] (λ j=>Kb ?_);refine Ka<|kB h λ e6 b6 h=>j.se (s:=5) 3 [7] λ u35 j=>?_;refine j.hd1 (s:=5) 3 true (λ _=>(PV.root.fw b6)) Z Z Z (λ _ h=>h) [7] Z λ e7 hb37 j=>?_;refine j.zh 3 [(5,3),(7,4)] (λ j=>?_) (hs:=sc Z (fS (sb:=5) (.head _) Z hb37 Z T Z)<|eI);refine kB h λ e8 d2 h=>j.cD (l:=[.tmp 21]) 3 (j.mE (sb:=5) (PV.root.fw b6) (.head _) Z (zR Z hb37) Z (λ _ h=>h)) Z Z Z (j.st.has 19 _ Z) (by simp) (.cons T .nil) (kF.any (tE d2)) [3,4,13,14,15] Z [7] Z Z (by decide) λ j=>?_;have j:=j.gn;refine Kb<|Ka<|j.hd1 (s:=5) 3 true (λ _=>(PV.root.fw Z)) Z Z Z (λ _ h=>h) [7] Z λ e9 hb44 j=>?_;refine j.zh 3 [(5,3),(7,4)] (λ j=>?_) (hs:=sc Z (fS (sb:=5) (.head _) Z hb44 Z T Z)<|eI);refine kB h λ f9 d3 h=>j.cD (l:=[.tmp 25]) 3 (j.mE (sb:=5) (PV.root.fw Z) (.head _) Z (zR Z hb44) Z (λ _ h=>h)) Z Z Z (j.st.has 23 _ Z) (by simp) (.cons T .nil) (kF.any (tE d3)) [3,4,13,14,15] Z [7] Z Z (by decide) λ j=>?_;have j:=j.gn;refine Kb<|Ka<|j.hd1 (s:=5) 3 true (λ _=>(PV.root.fw Z)) Z Z Z (λ _ h=>h) [7] Z λ g0 hb50 j=>?_;refine j.zh 3 [(5,3),(7,4)] (λ j=>?_) (hs:=sc Z (fS (sb:=5) (.head _) Z hb50 Z T Z)<|eI);refine kB h λ g3 d4 h=>j.cD (l:=[.tmp 29]) 3 (j.mE (sb:=5) (PV.root.fw Z) (.head _) Z (zR Z hb50) Z (λ _ h=>h)) Z Z Z (j.st.has 27 _ Z) (by simp) (.cons T .nil) (kF.any (tE d4)) [3,4,13,14,15] Z [7] Z Z (by decide) λ j=>?_;have j:=j.gn;refine Kb<|Ka<|j.zh 3 [(5,3),(7,4)] λ j=>?_;refine kB h λ g4 d5 h=>j.cD (l:=[.tmp 33]) 3 (j.lr (s:=5)) Z Z Z ((j.st.has 31 _ Z).trans (j.st.has 5 _ Z).1.symm) (by simp) (.cons T .nil) (kF.any (EG d5)) [3,4,13,14,15] Z [7] Z Z (by decide) λ j=>?_;have j:=j.gn;refine Kb<|Ka<|j.zh 3 [(5,3)] λ j=>?_;refine kB h λ g5 d6 h=>j.cD (l:=[.tmp 37]) 3 (j.lr (s:=5)) Z Z Z ((j.st.has 35 _ Z).trans (j.st.has 5 _ Z).1.symm) (by simp) (.cons T .nil) (kF.any (EG d6)) [3,4,13,14,15] Z [] Z Z (by decide) λ j=>?_;have j:=j.gn;refine Kb<|kB h λ g6 g7 h=>j.zo [(5,3)] λ j=>?_;have j:=j.fv (s:=5) 3 [];exact fU h
  cases lo h b5;exact fz
 rintro _ _ ⟨_,Q,R,W,X,Y,j⟩;have h:=c8;refine Kx h λ g8 d7 g9 e0 h=>j.se (s:=5) 3 [] λ u72 j=>?_;exact j.ze h (hs:=sc Z (gi (sb:=5) ((PV.root.fw d7).fw e0) Z T Z)<|eI)⟩
def qr(x0:List Stmt)(a8:Int×Int):Option ((Int×Int)⊕Int):=
 ite ((ez .lss a8.2 x0.length)=true) ((eN x0 a8.2).bind λ a9=>
(i64 (3+a9.module.l.length)).bind λ b3=>
(i64 (b3+a9.name.l.length)).bind λ b5=>
(i64 (a8.1+b5)).bind λ b6=>
(i64 (a8.2+1)).bind λ b7=>
 some (.inl (b6,b7)))<|some (.inr a8.1)
def Zz(x0:List Stmt):Option Int:=
(xP x0).bind λ v2=>
 ite ((!v2)=true) (some (-1))<|Option.bind (zE (λ a8=>qr x0 a8) (0,0)) λ o9=>
 some o9
instance Jv:gC prog 162 dt dt Zz:=⟨@λ x0 r h=>by
 refine fe 1 func162 λ M w0 _ j=>?_;refine j.z1 λ j=>?_;refine kB h λ v2 p2 h=>j.zc h (λ j h=>?_) λ j h=>?_
 .exact j.ze h
 refine j.z1 (λ j=>za ?_);refine j.kJ 1 [] (λ o9=>[(3,dt o9)]) (λ _ _=>[]) h (λ o9 p9=>?_) λ o9 q9 _ _ _ j h=>?_
 .refine j.z1 λ j=>?_
  refine gk p9 (λ a8 a w=>∃ M1 Q,Sx (eG.of w0) 27 M M1 [eA Q] [(3,dt a8.1),(9,dt x0),(10,dt (x0.length:Int)),(11,dt a8.2)] [] a w) fx ?_;rintro a8 b5 _ _ ⟨_,Q,j⟩ h b3;refine j.zc h (λ j h=>?_) λ j h=>?_
  .refine Ka ?_
   refine kB h λ b6 b7 h=>j.zg 2 λ j=>?_;refine j.fB 0 nQ [3,9,10,11,14] [] λ b8 j=>?_;refine j.eW 5 0 eO.id (tp Z) [3,9,10,11] [] (λ j=>Kb ?_);refine Kx h λ b9 c8 d1 d2 h=>kB h λ d3 d4 h=>j.z1 λ j=>?_;exact kB h λ d5 d6 h=>j.zn [] h
  cases lo h b3;exact fz
 exact j.ze h⟩
def ZA(x0:Int):Option Bool:=
(yg x0 0 2).bind λ v2=>
 some v2
instance XT:gC prog 40 dt dt ZA:=⟨@λ x0 r h=>by
 refine fe 0 func40 λ M _ _ j=>?_;refine j.z1 λ j=>?_;exact kB h λ v2 p2 h=>j.ze h⟩
def j8(x0:eU)(x1:Int)(x2:Str)(x3:Bool):Option Bool:=
 some ((ez .eql x0.root x1&&decide (x0.module=x2))&&(x0.init == x3))
theorem Un{x0}(h:j8 x0 x1 x2 x3=some r):Fn prog 164 [dt x0,eX x1,eX x2,eX x3] (dt r):=by
 refine fe 0 func164 λ M _ _ j=>?_;refine j.z1 λ j=>?_;exact j.ze h
def rz(x0:List eU)(x1:(eU->Option Bool))(s4:Int):Option (Int⊕(Unit⊕Int)):=
 ite ((ez .lss s4 x0.length)=true) ((eN x0 s4).bind λ a8=>
(x1 a8).bind λ a9=>
 ite (a9=true) (some (.inr (.inr s4)))<|(i64 (s4+1)).bind λ b3=>
 some (.inl b3))<|some (.inr (.inl ()))
def yY(x0:List eU)(x1:(eU->Option Bool)):Option Int:=
 Option.bind (zE (λ s4=>rz x0 x1 s4) 0) (Sum.elim (λ b2=>
 some (-1)) some)
theorem ZB{x1 r}(h:yY x0 x1=some r):Fn prog 163 [dt x0,rb prog x1] (dt r):=by
 refine fe 0 func163 λ M w0 _ j=>?_;refine j.z1 (λ j=>za ?_);refine j.jb [] (λ _=>[]) h (λ o2 p2 k2=>?_) λ b2 _ _ j h=>?_
 .refine j.z1 λ j=>?_
  refine gk p2 (λ s4 a w=>Sx (eG.of w0) 19 M M [] [(0,dt x0),(7,dt (x0.length:Int)),(8,dt s4),(1,rb prog x1)] [] a w) (j.kv [0,7,8,1]) ?_;rintro s4 z4 _ _ j h hx4;refine j.zc h (λ j h=>?_) λ j h=>?_
  .refine j.z1 λ j=>?_
   refine Kx h λ a9 b3 b5 a8 h=>j.zc h (λ j h=>?_) (λ j h=>?_) (hs:=sZ 5 (r:=by exact sc Z (Hs Z T T a8)<|.nil))
   .exact j.ze (jo (lo h hx4) k2)
   exact kB h λ b6 b7 h=>j.zn [] h
  exact fU (lo h hx4)
 exact j.ze h
def jR(x0:List eU)(x1:Int)(x2:Str)(x3:Bool):Option Int:=
(yY x0 (λ a0=>j8 a0 x1 x2 x3)).bind λ v2=>
 some v2
instance WF:od prog 118 dt dt dt dt dt jR:=⟨@λ x0 x1 x2 x3 r h=>by
 refine fe 0 func118 λ M _ a0 j=>?_;refine j.z1 λ j=>?_;exact kB h λ v2 p2 h=>j.ze h (hs:=sZ 1 (r:=by exact sc Z (Hw (l:=[.tmp 5,.tmp 6,.tmp 7]) (g:=(λ a0=>j8 a0 x1 x2 x3)) Z Pu (.cons T (.cons T (.cons T .nil))) Z (λ _ _ h=>Un h))<|sc Z (oK (ZB p2))<|eI))⟩
def wt(x0:List eU)(s4:Int):Option (Int⊕(Unit⊕Bool)):=
 ite ((ez .lss s4 x0.length)=true) ((eN x0 s4).bind λ v9=>
(yg v9.root 0 2).bind λ a8=>
(gO ((!a8) == false) (ym v9.module)).bind λ a9=>
(gO (((!a8)||(!a9)) == false) (ZA v9.mode)).bind λ b3=>
(gO ((((!a8)||(!a9))||(!b3)) == false) (yg v9.stamp 0 99)).bind λ b6=>
(gO (((((!a8)||(!a9))||(!b3))||(!b6)) == false) (xP v9.body)).bind λ b8=>
 ite ((((((!a8)||(!a9))||(!b3))||(!b6))||(!b8))=true) (some (.inr (.inr false)))<|(Zz v9.body).bind λ b5=>
(gO (ez .neq v9.size b5 == false) (Zy v9.body)).bind λ b7=>
(gO ((ez .neq v9.size b5||ez .neq v9.hash b7) == false) (jR x0 v9.root v9.module v9.init)).bind λ b9=>
 ite (((ez .neq v9.size b5||ez .neq v9.hash b7)||ez .neq b9 s4)=true) (some (.inr (.inr false)))<|(i64 (s4+1)).bind λ c8=>
 some (.inl c8))<|some (.inr (.inl ()))
def Zi(x0:List eU):Option Bool:=
 Option.bind (zE (λ s4=>wt x0 s4) 0) (Sum.elim (λ b2=>
 some (ez .leq x0.length 12)) some)
instance QX:gC prog 116 dt dt Zi:=⟨@λ x0 r h=>by
 refine fe 1 func116 λ M w0 _ j=>?_;refine j.z1 (λ j=>za ?_);refine j.mH 1 [0] (λ _=>[]) (λ _ _=>[]) h (λ o2 p2 k2=>?_) λ b2 q2 _ _ _ j h=>?_
 .refine j.z1 λ j=>?_
  refine gk p2 (λ s4 a w=>∃ M1 Q,Sx (eG.of w0) 70 M M1 [eA Q] [(0,dt x0),(5,dt x0),(6,dt (x0.length:Int)),(7,dt s4)] [] a w) fx ?_;rintro s4 z4 _ _ ⟨_,Q,j⟩ h hx4;refine j.zc h (λ j h=>?_) λ j h=>?_
  .refine Ka ?_
   refine kB h λ v9 p9 h=>j.zg 3 λ j=>?_;refine j.fB 0 Ja [0,5,6,7,9,11] [] λ c8 j=>?_;refine j.zh 1 [(4,0)] λ j=>?_;refine j.eW 4 0 eO.id (tp Z) [0,3,5,6,7] [] (λ j=>Kb ?_);refine Kx h λ d1 a8 d2 a9 h=>Kx h λ d3 b3 d4 b5 h=>kB h λ d5 b6 h=>j.zd [(4,0)] h (λ j h=>?_) (λ j h=>?_) (hs:=sZ 2 (r:=by exact sc Z (oK (yX.1 a8))<|sZ 4 (r:=by exact sg Z Z (λ hg=>oK (ji.1 (gh hg a9)))<|sZ 5 (r:=by exact sg Z Z (λ hg=>oK (XT.1 (gh hg b3)))<|sZ 5 (r:=by exact sg Z Z (λ hg=>oK (yX.1 (gh hg b5)))<|sZ 5 (r:=by exact sg Z Z (λ hg=>oK (Jd.1 (gh hg b6)))<|eI))))))
   .exact j.ze (jo (lo h hx4) k2)
   refine Kx h λ d6 b7 d7 b8 h=>kB h λ e0 b9 h=>j.zw (λ j=>?_) (hs:=sV 4 (r:=by exact sw Z (zy (l:=[.tmp 43]) Z (.cons T .nil) (Jv.1 b7))<|sw Z (gU Z T T)<|sV 5 (r:=by exact gW Z Z (λ hg=>zy (l:=[.tmp 50]) Z (.cons V .nil) (CG.1 (gh hg b8)))<|gW Z Z (λ hg=>gU Z V V)<|sw Z (qe Z T T)<|sV 8 (r:=by exact gW Z Z (λ hg=>zy (l:=[.tmp 55,.tmp 57,.tmp 59,.tmp 61]) Z (.cons V (.cons V (.cons V (.cons V .nil)))) (WF.1 (gh hg b9)))<|sV 1 (r:=by exact gW Z Z (λ hg=>gU Z V V)<|sw Z (qe Z T T)<|.nil)))));refine j.cq h (λ h=>?_) λ h=>?_
   .exact j.ze (jo (lo h hx4) k2)
   exact kB h λ e3 e4 h=>j.zn [] h
  exact fU (lo h hx4)
 exact j.ze h⟩
def yR(x0:List Stmt):Option (List Stmt):=
(fE 56 [] x0).bind λ v5=>
 some v5
theorem qt{x0 r}(h:yR x0=some r):kY prog 121 [dt x0] 109 r:=by
 refine om 1 func121 λ M _ _ j=>?_;refine j.z1 (λ j=>?_) (hs:=sc Z (oA Z (jg (α:=Stmt) (e:=109)))<|.nil);refine Ka<|j.zh 2 [(3,0)] (λ j=>?_) (hs:=sc Z (xj (α:=Stmt) (e:=109) Z)<|eI);refine kB h λ v5 p5 h=>j.ic 0 yW p5 [] [] λ g4 j=>?_;refine j.zh 1 [(2,0)] (λ j=>Kb ?_);exact j.sh 0 h
def wu(x0:List eU)(s5:(List eU)×Int):Option (((List eU)×Int)⊕(List eU)):=
 ite ((ez .lss s5.2 x0.length)=true) ((eN x0 s5.2).bind λ a8=>
(yR a8.body).bind λ a9=>
(fE 88 s5.1 [{ a8 with body:=a9 }]).bind λ b3=>
(i64 (s5.2+1)).bind λ b5=>
 some (.inl (b3,b5)))<|some (.inr s5.1)
def Y2(x0:List eU):Option (List eU):=
 Option.bind (zE (λ s5=>wu x0 s5) ([],0)) λ o3=>
 some o3
theorem Us{r}(h:Y2 x0=some r):kY prog 117 [dt x0] 174 r:=by
 refine om 2 func117 λ M w0 _ j=>?_;refine j.z1 (λ j=>?_) (hs:=sc Z (oA Z (jg (α:=eU) (e:=174)))<|.nil);refine j.zo [(3,0)] (λ j=>?_) (hs:=sc Z (xj (α:=eU) (e:=174) Z)<|eI);refine za<|j.kJ 2 [] (λ _=>[]) (λ o3 q=>[(3,0,eQ (q 0) 174 o3)]) h (λ o3 p3=>?_) λ o3 q3 _ _ _ j h=>?_
 .refine j.zo [(3,0)] λ j=>?_
  refine gk p3 (λ s5 a w=>∃ M1 Q R,Sx (eG.of w0) 23 M M1 [eA Q,eA R] [(7,dt x0),(8,dt (x0.length:Int)),(9,dt s5.2)] [(3,0,eQ Q 174 s5.1)] a w) fx ?_;rintro s5 z5 _ _ ⟨_,Q,R,j⟩ h hx5;refine j.zd [(3,0)] h (λ j h=>?_) λ j h=>?_
  .refine Ka ?_
   refine kB h λ b3 b5 h=>j.zh 2 [(3,0)] λ j=>?_;refine j.fB 1 Ja [7,8,9,12] [3] λ b6 j=>?_;refine j.eW 5 1 eO.id (tp Z) [7,8,9] [3] (λ j=>Kb ?_);refine Ka<|kB h λ b7 a8 h=>j.zh 4 [(3,0),(5,1),(16,1)] (λ j=>?_) (hs:=sZ 2 (r:=by exact sc Z (zy (l:=[.tmp 14]) Z (.cons T .nil) ((qt a8)).fn)<|eI));refine j.eW 5 1 eU.LY (tp Z) [7,8,9] [3] (λ j=>Kb ?_);refine Ka<|j.zh 3 [(3,0),(17,0)] λ j=>?_;refine kB h λ b8 a9 h=>j.ic 0 yW a9 [7,8,9] [] λ b9 j=>?_;refine j.zh 1 [(3,0)] (λ j=>Kb ?_);exact kB h λ c8 d1 h=>j.zn [(3,0)] h
  cases lo h hx5;exact fz
 exact j.zl 0 h
def XU(x0:eU)(x1:File):Option Bool:=
 ite (ez .eql x0.mode 0) ((gO (ez .eql x0.stamp x1.stamp == true) (Zz x1.body)).bind λ v6=>
 some (ez .eql x0.stamp x1.stamp&&ez .eql x0.size v6))<|ite (ez .eql x0.mode 1) ((Zy x1.body).bind λ a8=>
 some (ez .eql x0.hash a8))<|some true
instance Iq:fY prog 120 dt dt dt XU:=⟨@λ x0 x1 r h=>by
 refine fe 0 func120 λ M _ _ j=>?_;refine j.z1 λ j=>?_;refine j.z1 λ j=>?_;refine j.zc h (λ j h=>?_) λ j h=>?_
 .have⟨v6,p6,h⟩:=bs h
  refine j.zw (λ j=>?_) (hs:=sV 4 (r:=by exact sw Z (gU Z T T)<|sV 5 (r:=by exact gW Z Z (λ hg=>zy (l:=[.tmp 18]) Z (.cons V .nil) (Jv.1 (gh hg p6)))<|gW Z Z (λ hg=>gU Z V V)<|sw Z (xd Z T T)<|sw Z (oA Z T)<|.nil)));exact j.ret Z Z h
 refine j.zc h (λ j h=>?_) λ j h=>?_
 .have⟨a8,a9,h⟩:=bs h
  refine j.zw λ j=>?_;exact j.ret Z Z h
 exact j.ze h⟩
def qK(x0:File)(x1:Int):Option eU:=
(jC x0).bind λ v4=>
(gO ((!v4) == false) (ZA x1)).bind λ v5=>
 ite (((!v4)||(!v5))=true) (some ⟨0,⟨[]⟩,false,0,0,0,0,[]⟩)<|(qX x0).bind λ a8=>
(Zz x0.body).bind λ a9=>
(Zy x0.body).bind λ b3=>
(yR x0.body).bind λ b5=>
 some ⟨x0.root,a8,x0.init,x1,x0.stamp,a9,b3,b5⟩
instance:fY prog 122 dt dt dt qK:=⟨@λ x0 x1 r h=>by
 refine fe 1 func122 λ M _ _ j=>?_;refine Ka<|j.zg 1 λ j=>?_;refine j.fB 0 Ja [1,2] [] (λ b3 j=>Kb ?_);refine Kx h λ v4 p4 v5 p5 h=>j.zd [(4,0)] h (λ j h=>?_) (λ j h=>?_) (hs:=sZ 1 (r:=by exact sc Z (oK (CC.1 p4))<|sZ 3 (r:=by exact sg Z Z (λ hg=>oK (XT.1 (gh hg p5)))<|eI)))
 .refine Ka ?_
  refine j.zh 1 [(4,0)] (λ j=>?_) (hs:=sc Z (yf (parts:=[]) (ns:=[1,1,1,1,1,1,1,1]) (zs:=IX) Z Z (λ w a hl=>by simp) (λ w a hl=>eU.parts (x:=(⟨0,⟨[]⟩,false,0,0,0,0,[]⟩:eU)) ⟨Z,trivial⟩ Qu ⟨Z,trivial⟩ ⟨Z,trivial⟩ ⟨Z,trivial⟩ ⟨Z,trivial⟩ ⟨Z,trivial⟩ yF))<|.nil);refine j.eW 4 0 eO.id (tp Z) [] [] (λ j=>Kb ?_);exact j.yB h
 refine Kx h λ b7 a8 b8 a9 h=>Kx h λ b9 b5 c8 b6 h=>j.zu 19 [(4,0)] (λ j=>?_) (hs:=sV 3 (r:=by exact sw Z (zy (l:=[.tmp 16]) Z (.cons T .nil) (JX.1 a8))<|sV 7 (r:=by exact sw Z (zy (l:=[.tmp 24]) Z (.cons T .nil) (Jv.1 a9))<|sV 2 (r:=by exact sw Z (zy (l:=[.tmp 27]) Z (.cons T .nil) (CG.1 b5))<|sV 2 (r:=by exact sw Z (zy (l:=[.tmp 30]) Z (.cons T .nil) ((qt b6)).fn)<|sw Z (W4 Z T T T T T T T T)<|.nil)))));refine j.store (sb:=4) 0 eO.id Z Z Z FW Z Z (tp Z) Z [] Z [] Z Z (λ _ _ j=>Kb ?_);exact j.yB h⟩
theorem oq:gV prog 66 4=true:=by kernel_rfl
theorem PO:fM prog 166 true 4=true:=by kernel_rfl
theorem Ps:gb prog 158=true:=by kernel_rfl
theorem uT:fR prog 166 2 2=true:=by kernel_rfl
theorem rJ:fR prog 166 3 3=true:=by kernel_rfl
theorem PL:fM prog 101 false 1=true:=by kernel_rfl
theorem WG:fR prog 68 2 2=true:=by kernel_rfl
theorem Pt:gb prog 161=true:=by kernel_rfl
theorem lU:fM prog 68 true 3=true:=by kernel_rfl
theorem QJ:fR prog 72 0 0=true:=by kernel_rfl
theorem uW:fR prog 72 2 2=true:=by kernel_rfl
theorem uV:fR prog 72 1 1=true:=by kernel_rfl
theorem Ir:∀ {M:Nat->Prop} {look:Nat->Option Dt} {o:Oper} {q0 q1 q2 q3:Operand} {y0:Int} {y1:Str} {y2:Int} {y3:List Str},o.op=.build 166 #[(0,q0),(1,q1),(2,q2),(3,q3)]->eC M look q0 (dt y0)->eC M look q1 (dt y1)->eC M look q2 (dt y2)->eC M look q3 (dt y3)->eP prog M look o (dt (⟨y0,y1,y2,y3⟩:eT)):=@λ _ _ _ q0 q1 q2 q3 y0 y1 y2 y3 ho h0 h1 h2 h3=>yf (parts:=[(0,q0),(1,q1),(2,q2),(3,q3)]) (ns:=[1,1,1,1]) (zs:=DB) Z ho (λ w a hl=>FA ⟨(by decide:0<4),ey.len (α:=Int) (eC.cells h0 hl)⟩ (FA ⟨(by decide:1<4),ey.len (α:=Str) (eC.cells h1 hl)⟩ (FA ⟨(by decide:2<4),ey.len (α:=Int) (eC.cells h2 hl)⟩ (FA ⟨(by decide:3<4),ey.len (α:=List Str) (eC.cells h3 hl)⟩ FN)))) (λ w a hl=>eT.parts (x:=(⟨y0,y1,y2,y3⟩:eT)) (eC.cells h0 hl) (eC.cells h1 hl) (eC.cells h2 hl) (eC.cells h3 hl))
theorem PS:mC prog 66=true:=by kernel_rfl
theorem PN:fM prog 123 false 1=true:=by kernel_rfl
theorem PG:gb prog 71=true:=by kernel_rfl
theorem Kk:∀ {M:Nat->Prop} {look:Nat->Option Dt} {o:Oper} {q0 q1 q3:Operand} {y0:Int} {y1:Str} {y3:Bool},o.op=.build 45 #[(0,q0),(1,q1),(3,q3)]->eC M look q0 (dt y0)->eC M look q1 (dt y1)->eC M look q3 (dt y3)->eP prog M look o (dt (⟨y0,y1,⟨[]⟩,y3,0,[]⟩:File)):=@λ _ _ _ q0 q1 q3 y0 y1 y3 ho h0 h1 h3=>yf (parts:=[(0,q0),(1,q1),(3,q3)]) (ns:=[1,1,1,1,1,1]) (zs:=KV) Z ho (λ w a hl=>FA ⟨(by decide:0<6),ey.len (α:=Int) (eC.cells h0 hl)⟩ (FA ⟨(by decide:1<6),ey.len (α:=Str) (eC.cells h1 hl)⟩ (FA ⟨(by decide:3<6),ey.len (α:=Bool) (eC.cells h3 hl)⟩ FN))) (λ w a hl=>File.parts (x:=(⟨y0,y1,⟨[]⟩,y3,0,[]⟩:File)) (eC.cells h0 hl) (eC.cells h1 hl) Qu (eC.cells h3 hl) ⟨Z,trivial⟩ yF)
theorem Wp:∀ {M:Nat->Prop} {look:Nat->Option Dt} {o:Oper} {q0 q1 q2:Operand} {y0:Int} {y1:Int} {y2:List Int},o.op=.build 137 #[(0,q0),(1,q1),(2,q2)]->eC M look q0 (dt y0)->eC M look q1 (dt y1)->eC M look q2 (dt y2)->eP prog M look o (dt (⟨y0,y1,y2⟩:Spec)):=@λ _ _ _ q0 q1 q2 y0 y1 y2 ho h0 h1 h2=>yf (parts:=[(0,q0),(1,q1),(2,q2)]) (ns:=[1,1,1]) (zs:=KW) Z ho (λ w a hl=>FA ⟨(by decide:0<3),ey.len (α:=Int) (eC.cells h0 hl)⟩ (FA ⟨(by decide:1<3),ey.len (α:=Int) (eC.cells h1 hl)⟩ (FA ⟨(by decide:2<3),ey.len (α:=List Int) (eC.cells h2 hl)⟩ FN))) (λ w a hl=>Spec.parts (x:=(⟨y0,y1,y2⟩:Spec)) (eC.cells h0 hl) (eC.cells h1 hl) (eC.cells h2 hl))
theorem Kl:∀ {M:Nat->Prop} {look:Nat->Option Dt} {o:Oper} {q0 q1 q2:Operand} {y0:Int} {y1:Str} {y2:Str},o.op=.build 45 #[(0,q0),(1,q1),(2,q2)]->eC M look q0 (dt y0)->eC M look q1 (dt y1)->eC M look q2 (dt y2)->eP prog M look o (dt (⟨y0,y1,y2,false,0,[]⟩:File)):=@λ _ _ _ q0 q1 q2 y0 y1 y2 ho h0 h1 h2=>yf (parts:=[(0,q0),(1,q1),(2,q2)]) (ns:=[1,1,1,1,1,1]) (zs:=KV) Z ho (λ w a hl=>FA ⟨(by decide:0<6),ey.len (α:=Int) (eC.cells h0 hl)⟩ (FA ⟨(by decide:1<6),ey.len (α:=Str) (eC.cells h1 hl)⟩ (FA ⟨(by decide:2<6),ey.len (α:=Str) (eC.cells h2 hl)⟩ FN))) (λ w a hl=>File.parts (x:=(⟨y0,y1,y2,false,0,[]⟩:File)) (eC.cells h0 hl) (eC.cells h1 hl) (eC.cells h2 hl) ⟨Z,trivial⟩ ⟨Z,trivial⟩ yF)
instance aam:fT prog 166 3 3:=⟨rJ⟩
instance aaI:fT prog 72 0 0:=⟨QJ⟩
instance aaK:fT prog 72 1 1:=⟨uV⟩
instance aaM:fT prog 72 2 2:=⟨uW⟩
def ye(x0:List eT)(x1:(eT->Option Bool))(s4:Int):Option (Int⊕(Unit⊕Int)):=
 ite ((ez .lss s4 x0.length)=true) ((eN x0 s4).bind λ a8=>
(x1 a8).bind λ a9=>
 ite (a9=true) (some (.inr (.inr s4)))<|(i64 (s4+1)).bind λ b3=>
 some (.inl b3))<|some (.inr (.inl ()))
def xU(x0:List eT)(x1:(eT->Option Bool)):Option Int:=
 Option.bind (zE (λ s4=>ye x0 x1 s4) 0) (Sum.elim (λ b2=>
 some (-1)) some)
theorem XL{x0 x1 r}(h:xU x0 x1=some r):Fn prog 157 [dt x0,rb prog x1] (dt r):=by
 refine fe 0 func157 λ M w0 _ j=>?_;refine j.z1 (λ j=>za ?_);refine j.jb [] (λ _=>[]) h (λ o2 p2 k2=>?_) λ b2 _ _ j h=>?_
 .refine j.z1 λ j=>?_
  refine gk p2 (λ s4 a w=>Sx (eG.of w0) 19 M M [] [(0,dt x0),(7,dt (x0.length:Int)),(8,dt s4),(1,rb prog x1)] [] a w) (j.kv [0,7,8,1]) ?_;rintro s4 z4 _ _ j h hx4;refine j.zc h (λ j h=>?_) λ j h=>?_
  .refine j.z1 λ j=>?_
   refine Kx h λ a9 b3 b5 a8 h=>j.zc h (λ j h=>?_) (λ j h=>?_) (hs:=sZ 5 (r:=by exact sc Z (Hs Z T T a8)<|.nil))
   .exact j.ze (jo (lo h hx4) k2)
   exact kB h λ b6 b7 h=>j.zn [] h
  exact fU (lo h hx4)
 exact j.ze h
def WH(x0:eT)(x1:Int)(x2:Str):Option Bool:=
 some (ez .eql x0.root x1&&decide (x0.pkg=x2))
theorem U1{x0}(h:WH x0 x1 x2=some r):Fn prog 158 [dt x0,eX x1,eX x2] (dt r):=by
 refine fe 0 func158 λ M _ _ j=>?_;refine j.z1 λ j=>?_;exact j.ze h
def Zj(x0:List eT)(x1:Int)(x2:Str):Option Int:=
(xU x0 (λ a0=>WH a0 x1 x2)).bind λ v2=>
 some v2
instance Qb:ky prog 114 dt dt dt dt Zj:=⟨@λ x0 x1 x2 r h=>by
 refine fe 0 func114 λ M _ a0 j=>?_;refine j.z1 λ j=>?_;exact kB h λ v2 p2 h=>j.ze h (hs:=sZ 1 (r:=by exact sc Z (Hw (l:=[.tmp 4,.tmp 5]) (g:=(λ a0=>WH a0 x1 x2)) Z Ps (.cons T (.cons T .nil)) Z (λ _ _ h=>U1 h))<|sc Z (oK (XL p2))<|eI))⟩
def qu(x0:List eT)(x1:Int)(x2:Int)(s4:Int):Option (Int⊕(Unit⊕Bool)):=
 ite ((ez .lss s4 x0.length)=true) ((eN x0 s4).bind λ v9=>
(yg v9.root 0 2).bind λ a8=>
(gO ((!a8) == false) (xm v9.pkg)).bind λ a9=>
(gO (((!a8)||(!a9)) == false) (yg v9.stamp 0 x1)).bind λ b3=>
(gO (((((!a8)||(!a9))||(!b3))||ez .gtr v9.names.length x2) == false) (W1 x0 s4)).bind λ b5=>
(gO (((((!a8)||(!a9))||(!b3))||ez .gtr v9.names.length x2) == false) (Zj b5 v9.root v9.pkg)).bind λ b6=>
 ite ((((((!a8)||(!a9))||(!b3))||ez .gtr v9.names.length x2)||ez .geq b6 0)=true) (some (.inr (.inr false)))<|(i64 (s4+1)).bind λ b7=>
 some (.inl b7))<|some (.inr (.inl ()))
def XV(x0:List eT)(x1:Int)(x2:Int):Option Bool:=
 Option.bind (zE (λ s4=>qu x0 x1 x2 s4) 0) (Sum.elim (λ b2=>
 some (ez .leq x0.length 20)) some)
instance Is:ky prog 172 dt dt dt dt XV:=⟨@λ x0 x1 x2 r h=>by
 refine fe 1 func172 λ M w0 _ j=>?_;refine j.z1 (λ j=>za ?_);refine j.mH 1 [0] (λ _=>[]) (λ _ _=>[]) h (λ o2 p2 k2=>?_) λ b2 q2 _ _ _ j h=>?_
 .refine j.z1 λ j=>?_
  refine gk p2 (λ s4 a w=>∃ M1 Q,Sx (eG.of w0) 55 M M1 [eA Q] [(0,dt x0),(1,dt x1),(2,dt x2),(9,dt x0),(10,dt (x0.length:Int)),(11,dt s4)] [] a w) fx ?_;rintro s4 z4 _ _ ⟨_,Q,j⟩ h hx4;refine j.zc h (λ j h=>?_) λ j h=>?_
  .refine Ka ?_
   refine kB h λ v9 p9 h=>j.zg 3 λ j=>?_;refine j.fB 0 Ap [0,1,2,9,10,11,13,15] [] λ b7 j=>?_;refine j.zh 1 [(8,0)] λ j=>?_;refine j.eW 8 0 eO.id (tp Z) [0,1,2,7,9,10,11] [] (λ j=>Kb ?_);refine Kx h λ b8 a8 b9 a9 h=>Kx h λ c8 b3 d1 b5 h=>kB h λ d2 b6 h=>j.zw (λ j=>?_) (hs:=sV 2 (r:=by exact sw Z (zy (l:=[.tmp 17,.const (.int .i64 0),.const (.int .i64 2)]) Z (.cons T (.cons cI (.cons cI .nil))) (yX.1 a8))<|sV 4 (r:=by exact gW Z Z (λ hg=>zy (l:=[.tmp 22]) Z (.cons V .nil) (jk.1 (gh hg a9)))<|sV 1 (r:=by exact sw Z (qe Z T T)<|sV 4 (r:=by exact gW Z Z (λ hg=>zy (l:=[.tmp 28,.const (.int .i64 0),.tmp 29]) Z (.cons V (.cons cI (.cons V .nil))) (yX.1 (gh hg b3)))<|sV 1 (r:=by exact sw Z (qe Z T T)<|sV 5 (r:=by exact gW Z Z (λ hg=>gU Z V V)<|sw Z (qe Z T T)<|sV 3 (r:=by exact gW Z Z (λ hg=>oG Z V V (gh hg b5))<|sV 4 (r:=by exact gW Z Z (λ hg=>zy (l:=[.tmp 43,.tmp 45,.tmp 47]) Z (.cons V (.cons V (.cons V .nil))) (Qb.1 (gh hg b6)))<|gW Z Z (λ hg=>gU Z V cI)<|sw Z (qe Z T T)<|.nil)))))))));refine j.cq h (λ h=>?_) λ h=>?_
   .exact j.ze (jo (lo h hx4) k2)
   exact kB h λ d3 d4 h=>j.zn [] h
  exact fU (lo h hx4)
 exact j.ze h⟩
def Xh(x0:eK)(x1:Int)(x2:Str):Option Int:=
(Zj x0.dirs x1 x2).bind λ v2=>
 ite (ez .lss v2 0) (some 0)<|(eN x0.dirs v2).bind λ v9=>
 some v9.stamp
instance:ky prog 113 dt dt dt dt Xh:=⟨@λ x0 x1 x2 r h=>by
 refine fe 0 func113 λ M _ _ j=>?_;refine j.z1 λ j=>?_;refine kB h λ v2 p2 h=>j.z1 λ j=>?_;refine j.zc h (λ j h=>?_) λ j h=>?_
 .exact j.ze h
 exact kB h λ v9 p9 h=>j.ze h⟩
def xA(x0:Str)(x1:Str):Option (Str×Str×Bool):=
(yQ x0 x1).bind λ v2=>
 ite (ez .geq v2 0) ((oi x0 v2).bind λ v8=>
(i64 (v2+x1.l.length)).bind λ v9=>
(nk x0 v9).bind λ a8=>
 some (v8,a8,true))<|some (x0,⟨[]⟩,false)
instance:fY prog 194 dt dt (λ r=>fZ [dt r.1,dt r.2.1,dt r.2.2]) xA:=⟨@λ x0 x1 r h=>by
 refine fe 0 func194 λ M _ _ j=>?_;refine j.z1 λ j=>?_;refine kB h λ v2 p2 h=>j.z1 λ j=>?_;refine j.zc h (λ j h=>?_) λ j h=>?_
 .have⟨v8,p8,h⟩:=bs h
  refine Kx h λ v9 p9 a8 a9 h=>j.zw λ j=>?_;cases h;exact j.pR (j.frozen (t:=4)) (j.frozen (t:=5)) (j.frozen (t:=6)) ⟨Z,Z,Z⟩
 refine j.z1 λ j=>?_;cases h;exact j.pR (j.frozen (t:=4)) (j.frozen (t:=5)) (j.frozen (t:=6)) ⟨Z,Z,Z⟩⟩
def qh(x0:Str)(x1:Str):Option (Str×Str×Bool):=
(xA x0 x1).bind λ v2=>
 some (v2.1,v2.2.1,v2.2.2)
instance:fY prog 160 dt dt (λ r=>fZ [dt r.1,dt r.2.1,dt r.2.2]) qh:=⟨@λ x0 x1 r h=>by
 refine fe 0 func160 λ M _ _ j=>?_;refine j.z1 λ j=>?_;refine kB h λ v2 p2 h=>j.z1 λ j=>?_;cases h;exact j.pR (j.frozen (t:=4)) (j.frozen (t:=5)) (j.frozen (t:=6)) ⟨Z,Z,Z⟩⟩
def jS(x0:Tree)(x1:Int)(x2:Str)(s5:(List Str)×Int):Option (((List Str)×Int)⊕(List Str)):=
 ite ((ez .lss s5.2 x0.files.length)=true) (Option.bind ((eN x0.files s5.2).bind λ a8=>
 ite (ez .neq a8.root x1) (some s5.1)<|ite ((decide (a8.pkg=x2))=true) (Option.bind (ite (a8.init=true) ((fE 16 s5.1 [(⟨[42]⟩:Str)]).bind λ a9=>
 some a9)<|(fE 16 s5.1 [a8.name]).bind λ b3=>
 some b3) λ b5=>
 some b5)<|(Z1 a8.pkg x2).bind λ b6=>
 ite (b6=true) (Option.bind (ite ((decide (x2≠⟨[]⟩))=true) ((i64 (x2.l.length+1)).bind λ b7=>
(nk a8.pkg b7).bind λ b8=>
 some b8)<|some a8.pkg) λ b9=>
(qh b9 ⟨[46]⟩).bind λ c8=>
(kT c8.1 ⟨[47]⟩).bind λ d1=>
(fE 16 s5.1 [d1]).bind λ d2=>
 some d2)<|some s5.1) λ d3=>
(i64 (s5.2+1)).bind λ d4=>
 some (.inl (d3,d4)))<|some (.inr s5.1)
def WI(x0:Tree)(x1:Int)(x2:Str):Option (List Str):=
 Option.bind (zE (λ s5=>jS x0 x1 x2 s5) ([],0)) λ o3=>
(Jt o3).bind λ a8=>
 some a8
theorem U3{x0 r}(h:WI x0 x1 x2=some r):kY prog 115 [dt x0,dt x1,dt x2] 9 r:=by
 refine om 2 func115 λ M w0 _ j=>?_;refine j.z1 (λ j=>?_) (hs:=sZ 1 (r:=by exact sc Z (oA Z (jg (α:=Str) (e:=9)))<|.nil));refine j.zo [(7,0)] (λ j=>?_) (hs:=sc Z (xj (α:=Str) (e:=9) Z (ht':=W3))<|eI);refine za<|j.kJ 2 [] (λ _=>[]) (λ o3 q=>[(7,0,eQ (q 0) 9 o3)]) h (λ o3 p3=>?_) λ o3 q3 _ _ _ j h=>?_
 .refine j.zo [(7,0)] λ j=>?_
  refine gk p3 (λ s5 a w=>∃ M1 Q R,Sx (eG.of w0) 68 M M1 [eA Q,eA R] [(1,dt x1),(2,dt x2),(16,dt x0.files),(17,dt (x0.files.length:Int)),(18,dt s5.2)] [(7,0,eQ Q 9 s5.1)] a w) fx ?_;rintro s5 z5 _ _ ⟨_,Q,R,j⟩ h hx5;refine j.zd [(7,0)] h (λ j h=>?_) λ j h=>?_
  .refine kQ ?_
   refine za<|j.kJ 2 [1,2,16,17,18] (λ _=>[]) (λ a8 q=>[(7,0,eQ (q 0) 9 a8)]) h (λ a8 b5=>?_) λ a8 d3 _ _ _ j h=>?_
   .refine Ka ?_
    have⟨d4,d5,h⟩:=bs b5;refine j.zh 2 [(7,0)] λ j=>?_;refine j.fB 1 JU [1,2,16,17,18,21] [7] λ d6 j=>?_;refine j.eW 9 1 eO.id (tp Z) [1,2,16,17,18] [7] (λ j=>Kb ?_);refine j.zd [(7,0),(9,1)] h (λ j h=>?_) λ j h=>?_
    .cases h
     exact fz
    refine j.zd [(7,0),(9,1)] h (λ j h=>?_) λ j h=>?_
    .refine j.kJ 2 [1,2,16,17,18] (λ _=>[]) (λ a9 q=>[(7,0,eQ (q 0) 9 a9)]) h (λ a9 b6=>?_) λ a9 d7 _ _ _ j h=>?_
     .refine j.zd [(7,0),(9,1)] b6 (λ j h=>?_) λ j h=>?_
      .refine Ka ?_
       refine j.zh 2 [(7,0),(32,0)] (λ j=>?_) (hs:=sZ 1 (r:=by exact sc Z (wa (opds:=[_]) Z (ht':=W3) Z Z (.cons (yM) .nil))<|.nil));refine kB h λ e0 b7 h=>j.ic 0 yW b7 [1,2,16,17,18] [] λ e3 j=>?_;refine j.zh 1 [(7,0)] (λ j=>Kb ?_);cases h;exact fz
      refine Ka<|j.zh 4 [(7,0),(35,0)] λ j=>?_;refine kB h λ e4 b8 h=>j.ic 0 yW b8 [1,2,16,17,18] [] λ e5 j=>?_;refine j.zh 1 [(7,0)] (λ j=>Kb ?_);cases h;exact fz
     cases h;exact fz
    refine kB h λ e6 e7 h=>j.zd [(7,0),(9,1)] h (λ j h=>?_) λ j h=>?_
    .refine j.zo [(7,0),(9,1)] (λ j=>za ?_)
     refine j.kJ 2 [1,2,16,17,18] (λ b3=>[(10,dt b3)]) (λ _ q=>[(7,0,eQ (q 0) 9 s5.1)]) h (λ b3 b9=>?_) λ b3 e8 _ _ _ j h=>?_
     .refine j.zd [(7,0),(9,1)] b9 (λ j h=>?_) λ j h=>?_
      .have⟨e9,f9,h⟩:=bs h
       refine kB h λ g0 g3 h=>j.zo [(7,0)] λ j=>?_;cases h;exact fz
      cases h;exact fz
     refine kB h λ g4 g5 h=>j.zo [(7,0)] (λ j=>Ka ?_);refine kB h λ g6 c8 h=>j.zh 4 [(7,0),(60,0)] (λ j=>?_) (hs:=sZ 2 (r:=by exact sc Z (nI Z T (yM) c8)<|eI));refine kB h λ g7 d1 h=>j.ic 0 yW d1 [1,2,16,17,18] [] λ g8 j=>?_;refine j.zh 1 [(7,0)] (λ j=>Kb ?_);cases h;exact fz
    cases h;exact fz
   exact kB h λ g9 h0 h=>j.zn [(7,0)] h
  cases lo h hx5;exact fz
 refine Ka<|j.zh 1 [(66,0)] λ j=>?_;refine kB h λ h1 d2 h=>j.take (l:=[]) 0 Z Z Pt Z Z .nil (On d2) [] Z [] Z Z λ h2 _ _ _ j=>?_;refine j.zh 1 [(6,0)] (λ j=>Kb ?_);exact j.sh 0 h
def Y3(x0:fj)(x1:eK)(x2:Int)(x3:Str):Option (fj×(List Str)):=
(Xh x1 x2 x3).bind λ v2=>
(Zj x0.dirs x2 x3).bind λ v6=>
(gO (ez .geq v6 0 == true) (eN x0.dirs v6)).bind λ b5=>
 ite ((ez .geq v6 0&&ez .eql b5.stamp v2)=true) ((i64 (x0.hits+1)).bind λ b3=>
(eN x0.dirs v6).bind λ b6=>
 some ({ x0 with hits:=(if(1000:Int)<b3 then(1000:Int) else b3) },b6.names))<|(i64 (x0.fills+1)).bind λ a8=>
(WI x1.tree x2 x3).bind λ a9=>
 Option.bind (ite (ez .geq v6 0) ((eN x0.dirs v6).bind λ b9=>
 some ({ x0 with dirs:=(x0.dirs.set v6.toNat ⟨x2,x3,v2,a9⟩),fills:=(if(1000:Int)<a8 then(1000:Int) else a8) }))<|ite ((ez .lss x0.dirs.length 20)=true) ((fE 56 x0.dirs [(⟨x2,x3,v2,a9⟩:eT)]).bind λ b7=>
 some ({ x0 with dirs:=b7,fills:=(if(1000:Int)<a8 then(1000:Int) else a8) }))<|some ({ x0 with fills:=(if(1000:Int)<a8 then(1000:Int) else a8) })) λ b8=>
 some (b8,a9)
abbrev gP:Ow (List eT):=Ow.row 166 (Ow.eE (α:=eT))
abbrev ij:Ow fj:=gr gP
abbrev gN:Ow (Bx fj):=Ow.box ij
theorem Ut{x0 x1 x2 x3 r}(h:Y3 x0 x1 x2 x3=some r):fP prog 71 gN ⟨x0⟩ [dt x1,dt x2,dt x3] ⟨r.1⟩ (.eE (dt r.2)):=by
 refine kI (fn:=f71) 0 3 func71 Z Z (λ M G w0 b0 _ j=>gj ?_);refine j.zo [(0,0)] (λ j=>?_) (hs:=sZ 1 (r:=by exact sc Z (oA Z (wg (α:=Str)))<|.nil));refine kB h λ v2 p2 h=>j.zo [(0,0)] λ j=>?_;refine kB h λ v6 p6 h=>j.fL 0 0 (Pb.eD gr.f0) [] λ g5 A5 _ hA5 j=>?_;refine j.zo [(0,0)] (λ j=>?_) (hs:=sZ 6 (r:=by exact sc Z (yC (l:=[.tmp 20,.tmp 21,.tmp 22]) j.ob.sub Z (.cons (mw (sb:=0) j.ob 0 (Pb.eD gr.f0) (.head _) Z (zR Z Z) T Z) (.cons (yG j.ob.sub T) (.cons (yG j.ob.sub T) .nil))) (Qb.1 p6) xQ)<|eI));have j:=j.gS (s:=0) 0 [];refine kB h λ e5 b5 h=>j.oZ (s:=0) 0 (ez .geq v6 (0:Int) == true) (λ hg=>(Pb.eD gr.f0)) [] λ c8 e6 _ a8 j=>?_;refine j.zo [(0,0)] (λ j=>?_) (hs:=sc Z (oM Z T)<|
  sc Z (gU Z T cI)<|
  sc Z (oM Z T)<|
  sg Z Z (λ hg=>oM Z U)<|
  sg Z Z (λ hg=>gK Z V)<|
  sg Z Z (λ hg=>eV Z QJ V)<|
  sg Z Z (λ hg=>fS (sb:=0) (.head _) hg Z Z V Z)<|
  sg Z Z (λ hg=>oM Z T)<|
  sg Z Z (λ hg=>gJ (g:=c8) Z oq V V Z (λ h=>a8 h hg) (gh hg b5))<|
  sg Z Z (λ hg=>eV Z uT V)<|
  sg Z Z (λ hg=>gi (sb:=0) (((Pb.eD gr.f0).row (.head _) hg (λ h=>a8 h hg) (gh hg b5)).eD eT.z2) Z V Z)<|
  sg Z Z (λ hg=>oM Z T)<|
  sg Z Z (λ hg=>gU Z V V)<|
  sc Z (xd Z T T)<|.nil)
 have j:=j.gS (s:=0) 0 [];refine j.cq h (λ h=>?_) λ h=>?_
 .refine Ka ?_
  refine kB h λ b6 e7 h=>j.zh 9 [(0,0)] (λ j=>?_) (hs:=sZ 4 (r:=by exact sc Z (gi (sb:=0) (Pb.eD gr.f2) Z T Z)<|sZ 1 (r:=by exact sc Z (oF Z T cI)<|eI)));refine j.gX 0 0 (Pb.eD gr.f2) (tp Z) (tp Z) [10] [] (λ j=>Kb ?_);refine kB h λ e8 b7 h=>j.fL 0 0 (Pb.eD gr.f0) [] λ d1 e9 _ a9 j=>?_;refine j.zo [(0,0)] (λ j=>?_) (hs:=sZ 5 (r:=by exact sc Z (gJ (g:=d1) Z oq T T Z (λ h=>a9 h Z) b7)<|sZ 1 (r:=by exact sc Z (gi (sb:=0) (((((PV.root (x:=(⟨{ x0 with hits:=(if(1000:Int)<b6 then(1000:Int) else b6) }⟩:Bx fj))).box Z).eD gr.f0).row (.head _) Z (λ h=>a9 h Z) b7).eD eT.z3) Z T Z)<|eI)));have j:=j.gS (s:=0) 0 [];exact j.xD 0 0 h
 refine Ka<|kB h λ b8 f9 h=>j.zh 9 [(0,0)] (λ j=>?_) (hs:=sZ 4 (r:=by exact sc Z (gi (sb:=0) (Pb.eD gr.f1) Z T Z)<|sZ 1 (r:=by exact sc Z (oF Z T cI)<|eI)));refine j.gX 0 0 (Pb.eD gr.f1) (tp Z) (tp Z) [2,3,5,9,10] [] (λ j=>Kb ?_);refine kB h λ d2 d3 h=>j.zo [(0,0)] (λ j=>?_) (hs:=sZ 4 (r:=by exact sc Z (zy (l:=[.tmp 65,.tmp 66,.tmp 67]) Z (.cons T (.cons T (.cons T .nil))) ((U3 d3)).fn)<|eI));refine Ka<|j.zh 5 [(0,0)] (λ j=>?_) (hs:=sZ 4 (r:=by exact sc Z (Ir Z T T T T)<|.nil));refine j.fB 2 Ap [10,11,73] [0] λ g0 j=>?_;refine j.eW 12 2 eO.id (tp Z) [10,11] [0] (λ j=>Kb ?_);refine za ?_;have⟨d4,d5,d6⟩:=bs h;refine ib (λ a w=>∃ M1 Q R W,Sx (eG.ft w0 G) 102 M M1 [Q,R,eA W] [(11,dt d2)] [(0,0,eJ gN Q ⟨d4⟩ (.pointer (some ⟨b0,0,none⟩)) [])] a w) ?_ ?_
 .refine j.zd [(0,0),(12,2)] d5 (λ j h=>?_) λ j h=>?_
  .have⟨g3,b9,h⟩:=bs h
   refine j.fL 0 0 (Pb.eD gr.f0) [12] λ d7 g4 _ b3 j=>?_;refine j.zu 7 [(0,0)] (λ j=>?_) (hs:=sV 6 (r:=by exact sw Z (gJ (g:=d7) Z oq T T Z (λ h=>b3 h Z) b9)<|.nil));refine j.kM (sb:=0) 0 ((((PV.root (x:=(⟨{ x0 with fills:=(if(1000:Int)<b8 then(1000:Int) else b8) }⟩:Bx fj))).box Z).eD gr.f0).row (.head _) Z (λ h=>b3 h Z) b9) (tp Z) (tp Z) [11] [] (λ j=>Kb ?_);cases h;exact fz
  refine j.fL 0 0 (Pb.eD gr.f0) [12] λ g6 g7 _ e0 j=>?_;refine j.zo [(0,0),(12,2)] (λ j=>?_) (hs:=sZ 4 (r:=by exact sc Z (oE Z T)<|eI));have j:=j.gS (s:=0) 0 [12];refine j.cq h (λ h=>?_) λ h=>?_
  .refine j.held (λ _=>True) zP λ _ j=>?_
   refine j.tN 0 0 trivial λ _ j=>?_;refine j.fL 0 0 (Pb.eD gr.f0) [12] λ g8 g9 _ e3 j=>?_;refine j.nV (D:=[_,_,_,_,_,_,_]) 7 [0] [[(0,nS)],[(0,nS)],[(92,1)],[(93,2)],[(94,3),(0,nS)],[(12,nS)],[(96,5)],[(95,4),(97,6)],[(91,0)],[(99,8)],[(100,9),(98,7)]] (
    rc Z Z (oM Z U)<|
    rc Z Z (oM Z U)<|
    rc Z Z (gK Z T)<|
    rc Z Z (eV Z QJ T)<|
    rc Z Z (fS (sb:=0) (.head _) Z Z Z T Z)<|
    rc Z Z (yV Z T)<|
    rc Z Z (wa (opds:=[.tmp 96]) Z Z Z (.cons T .nil))<|.nil) (by
 intro i hi x d hx
 simp only[aj,aF,bI] at hi
 rcases hi with rfl
 all_goals (injection hx with hx;injection hx with h1 h2;subst h1;subst h2;rfl)) [11,91,95,97] [(0,0)] Z ⟨λ _ h=>h,trivial⟩ (λ j=>?_)
   refine j.iN (s:=95) (sb:=0) 0 1 (Pb.eD gr.f0) (.head _) (zR Z Z) [11,91,97] [] λ j=>?_;refine j.kx (s:=95) 1 (by first | (simp;done) | exact oD rfl) [0] λ h0 j=>?_;refine kB h λ h3 e4 h=>j.ic 1 yW e4 [11,91] [0] λ h4 j=>?_;refine j.zh 2 [(0,0),(98,1)] λ j=>?_;have j:=j.iO (s:=98) 1 [0];refine j.kg 0 98 0 1 (tp Z) [11] [] (λ j=>Kb ?_);cases h;exact fz
  cases h;exact fz
 rintro _ _ ⟨_,Q,R,W,j⟩;have h:=d6;refine j.zo [(0,0)] λ j=>?_;exact j.xD 0 0 h
def Wd(x0:Int)(x1:Str)(x2:Bx fj)(x3:eK):Option ((Bx fj)×(List Str)):=
(Y3 x2.x x3 x0 x1).bind λ v5=>
 some (⟨v5.1⟩,v5.2)
theorem Vz{x0 x1 x2 x3 r}(h:Wd x0 x1 x2 x3=some r):lP 2 prog 70 (Ow.box gN) ⟨x2⟩ [dt x0,dt x1,eX x3] ⟨r.1⟩ (.eE (dt r.2)):=by
 refine sF (fn:=f70) 2 0 2 func70 Z Z Z (λ M G _ b0 _ j=>gj ?_);refine j.zo [(2,0)] (λ j=>?_) (hs:=sc Z (oA Z (wg (α:=Str)))<|.nil);refine Ka<|j.Lp (s:=2) 0 true (λ _=>Pb) Z Z (λ _ h=>h) [] Z λ b2 j=>?_;refine j.zh 4 [(2,0)] (λ j=>?_) (hs:=sc Z (fS (sb:=2) (.head _) Z Z Z U Z)<|eI);refine kB h λ v5 p5 h=>j.kV (l:=[.tmp 8,.tmp 9,.tmp 10]) 0 (j.mE (sb:=2) Pb (.head _) Z (zR Z Z) Z (λ _ h=>h)) Z Z PG (j.st.has 7 _ Z) (by simp) (.cons T (.cons T (.cons T .nil))) (Ut p5) [] Z [] Z Z (by decide) λ j=>?_;refine j.zh 1 [(2,0)] (λ j=>Kb ?_);exact j.xD 2 0 h
def uD(x:iP)(a:Int)(p:Str):Option (iP×List Str):=match x.o with
 | none=>none
 | some q=>(Wd a p q.2 q.1.x).bind λ r=>some (⟨some (q.1,r.1)⟩,r.2)
abbrev nD(b:Nat):Ow (iP):=Ow.fw (δ:=C1 eK) .nilFunc 70 b gN
theorem M8{r}(h:uD x a p=some r):kF prog (nD bk) x [dt a,dt p] r.1 (.eE (dt r.2)):=by
 obtain⟨o⟩:=x;unfold uD at h;cases o with
 | none=>cases h
 |some q=>
  obtain⟨r1,h1,h2⟩:=cb.1 h;injection h2 with h2
  subst h2;exact uM (d:=q.1) (Vz h1)
def jq(x0:Tree)(x1:List Int)(x2:Str)(x3:Str)(v5:Str)(a8:(iP)×Spec×(List Int)×Int):Option (((iP)×Spec×(List Int)×Int)⊕(((iP)×Spec×(List Int))⊕((iP)×Spec))):=
 ite ((ez .lss a8.2.2.2 x1.length)=true) (Option.bind ((eN x1 a8.2.2.2).bind λ b3=>
 Option.bind (ite (a8.1.o.isSome=true) ((uD a8.1 b3 x2).bind λ b5=>
(kT x3 ⟨[47]⟩).bind λ b9=>
(zQ b5.2 b9).bind λ c8=>
(zQ b5.2 x3).bind λ d1=>
 some (b5.1,c8,d1))<|some (a8.1,true,true)) λ a9=>
(YO x0 ⟨b3,v5,⟨[]⟩,true,0,[]⟩).bind λ b7=>
 ite ((a9.2.1&&ez .geq b7 0)=true) (some (.inr (.inr (.inr (a9.1,(⟨2,b7,[b3]⟩:Spec))))))<|(YO x0 ⟨b3,x2,x3,false,0,[]⟩).bind λ b8=>
 ite ((a9.2.2&&ez .geq b8 0)=true) (some (.inr (.inr (.inr (a9.1,(⟨1,b8,[]⟩:Spec))))))<|(gO (a9.2.1 == true) (XR x0 b3 v5)).bind λ d2=>
 ite ((a9.2.1&&d2)=true) ((fE 8 a8.2.2.1 [b3]).bind λ d3=>
 some (.inl (a9.1,a8.2.1,d3)))<|some (.inl (a9.1,a8.2.1,a8.2.2.1))) (Sum.elim (λ b6=>
(i64 (a8.2.2.2+1)).bind λ d4=>
 some (.inl (b6.1,b6.2.1,b6.2.2,d4))) some))<|some (.inr (.inl (a8.1,a8.2.1,a8.2.2.1)))
def XW(x0:Tree)(x1:List Int)(x2:Str)(x3:Str)(x4:iP):Option ((iP)×Spec):=
(wE x2 x3).bind λ v5=>
 ite ((decide (v5=⟨[]⟩))=true) ((Xg).bind λ a9=>
 some (x4,a9))<|Option.bind (zE (λ b3=>jq x0 x1 x2 x3 v5 b3) (x4,Wo,[],0)) (Sum.elim (λ a8=>
 ite ((ez .gtr a8.2.2.length 0)=true) (some (a8.1,⟨(3:Int),(-1:Int),a8.2.2⟩))<|(Xg).bind λ b5=>
 some (a8.1,b5)) some)
theorem Iu{x0 x1 x3 r}(h:XW x0 x1 x2 x3 x4=some r):lP 4 prog 136 (nD bk) x4 [dt x0,dt x1,dt x2,dt x3] r.1 (.eE (dt r.2)):=by
 refine E9 (fn:=f136) 4 1 4 func136 Z Z Z (λ M G w0 u0 _ j=>gj ?_);refine Ka<|j.zh 1 [(4,1)] λ j=>?_;refine j.fB 3 nd [1,2,3,5] [4] λ b3 j=>?_;have j:=j.gn;refine Kb<|kB h λ v5 p5 h=>j.zo [(4,1),(10,3)] λ j=>?_;refine j.zd [(4,1),(10,3)] h (λ j h=>?_) λ j h=>?_
 .refine Ka ?_
  refine kB h λ e8 e9 h=>j.zh 1 [(4,1),(10,3)] λ j=>?_;refine j.eW 10 3 eO.id (tp Z) [] [4] (λ j=>Kb ?_);exact j.pU (s:=4) 1 mP h
 refine j.zo [(4,1),(10,3),(12,2)] (λ j=>?_) (hs:=sc Z (xj (α:=Int) (e:=3) Z)<|eI);refine za ?_;have⟨d1,d2,b7⟩:=bs h;refine ib (λ a w=>∃ b5,d1=.inl b5/\(∃ M1 Q R W X,Sx (eG.ft w0 G) 92 M M1 [eA Q,R,eA W,eA X] [] [(10,3,eY X 0 b5.2.1),(12,2,eQ W 3 b5.2.2),(4,1,eJ (nD bk) R b5.1 u0 [])] a w)) ?_ ?_
 .refine j.zo [(4,1),(10,3),(12,2)] λ j=>?_
  refine gk d2 (λ a8 a w=>∃ M1 Q R W X,Sx (eG.ft w0 G) 92 M M1 [eA Q,R,eA W,eA X] [(2,dt x2),(3,dt x3),(5,eX x0),(11,dt v5),(27,dt x1),(28,dt (x1.length:Int)),(29,dt a8.2.2.2)] [(10,3,eY X 0 a8.2.1),(12,2,eQ W 3 a8.2.2.1),(4,1,eJ (nD bk) R a8.1 u0 [])] a w) fx ?_;rintro a8 d3 _ _ ⟨_,Q,R,W,X,j⟩ h a9;refine j.zd [(4,1),(10,3),(12,2)] h (λ j h=>?_) λ j h=>?_
  .refine kQ ?_
   refine za ?_;have⟨d4,d5,b9⟩:=bs h;refine ib (λ a w=>∃ b6,d4=.inl b6/\(∃ M1 Q R W X,Sx (eG.ft w0 G) 92 M M1 [eA Q,R,eA W,eA X] [(2,dt x2),(3,dt x3),(5,eX x0),(11,dt v5),(27,dt x1),(28,dt (x1.length:Int)),(29,dt a8.2.2.2)] [(10,3,eY X 0 b6.2.1),(12,2,eQ W 3 b6.2.2),(4,1,eJ (nD bk) R b6.1 u0 [])] a w)) ?_ ?_
   .have⟨d6,f9,h⟩:=bs d5
    refine j.zo [(4,1),(10,3),(12,2)] λ j=>?_;refine j.zo [(4,1),(10,3),(12,2)] (λ j=>za ?_);have⟨c8,d7,e0⟩:=bs h;refine ib (λ a w=>∃ M1 Q R W X,Sx (eG.ft w0 G) 92 M M1 [eA Q,R,eA W,eA X] [(2,dt x2),(3,dt x3),(5,eX x0),(11,dt v5),(14,dt d6),(15,dt c8.2.1),(16,dt c8.2.2),(27,dt x1),(28,dt (x1.length:Int)),(29,dt a8.2.2.2)] [(10,3,eY X 0 a8.2.1),(12,2,eQ W 3 a8.2.2.1),(4,1,eJ (nD bk) R c8.1 u0 [])] a w) ?_ ?_
    .refine j.zd [(4,1),(10,3),(12,2)] d7 (λ j h=>?_) (λ j h=>?_) (hs:=sZ 1 (r:=by exact sc Z (T8 (sb:=4) Z PR T Z)<|.nil))
     .refine Ka ?_
      refine j.zh 3 [(4,1),(10,3),(12,2)] λ j=>?_;refine kB h λ g0 e3 h=>j.cD (l:=[.tmp 36,.tmp 37]) 1 (j.lr (s:=4)) Z Z Z ((j.st.has 35 _ Z).trans (j.st.has 4 _ Z).1.symm) (by simp) (.cons T (.cons T .nil)) (M8 e3) [2,3,5,11,14,27,28,29] Z [10,12] Z Z (by decide) λ j=>?_;have j:=j.gn;refine j.zh 1 [(4,1),(10,3),(12,2)] (λ j=>Kb ?_);refine Kx h λ g3 g4 g5 g6 h=>kB h λ g7 g8 h=>j.zo [(4,1),(10,3),(12,2)] λ j=>?_;cases h;exact fz
     cases h;exact fz
    rintro _ _ ⟨_,Q,R,W,X,j⟩;have h:=e0;refine kB h λ g9 e4 h=>j.zo [(4,1),(10,3),(12,2)] (λ j=>?_) (hs:=sZ 3 (r:=by exact sc Z (Kk Z T T cB)<|sc Z (oK (CD.1 e4))<|eI));refine j.zd [(4,1),(10,3),(12,2)] h (λ j h=>?_) λ j h=>?_
    .refine Ka ?_
     refine j.zh 4 [(4,1),(10,3)] (λ j=>?_) (hs:=sZ 3 (r:=by exact sc Z (Wp Z cI T T)<|.nil));refine j.eW 10 3 eO.id (tp Z) [] [4] (λ j=>Kb ?_);exact j.pU (s:=4) 1 mP (jo (lo (jo h b9) a9) b7)
    refine kB h λ h0 e5 h=>j.zo [(4,1),(10,3),(12,2)] (λ j=>?_) (hs:=sZ 4 (r:=by exact sc Z (Kl Z T T T)<|sc Z (oK (CD.1 e5))<|eI));refine j.zd [(4,1),(10,3),(12,2)] h (λ j h=>?_) λ j h=>?_
    .refine Ka ?_
     refine j.zh 3 [(4,1),(10,3)] (λ j=>?_) (hs:=sZ 1 (r:=by exact sc Z (wa (opds:=[]) (α:=Int) Z Z Z .nil)<|sc Z (Wp Z cI T T)<|.nil));refine j.eW 10 3 eO.id (tp Z) [] [4] (λ j=>Kb ?_);exact j.pU (s:=4) 1 mP (jo (lo (jo h b9) a9) b7)
    refine kB h λ h1 e6 h=>j.zd [(4,1),(10,3),(12,2)] h (λ j h=>?_) (λ j h=>?_) (hs:=sZ 5 (r:=by exact sg Z Z (λ hg=>oK (Il.1 (gh hg e6)))<|eI))
    .refine Ka ?_
     refine j.zh 3 [(4,1),(10,3),(12,2),(81,2)] λ j=>?_;refine kB h λ h2 e7 h=>j.ic 2 yW e7 [2,3,5,11,27,28,29] [4,10] λ h3 j=>?_;have j:=j.gn;refine j.zh 1 [(4,1),(10,3),(12,2)] (λ j=>Kb ?_);exact fU h
    exact fU h
   rintro _ _ ⟨b6,rfl,⟨_,Q,R,W,X,j⟩⟩;have h:=jn b9;exact kB h λ h4 h5 h=>j.zn [(4,1),(10,3),(12,2)] h
  exact fU (lo h a9)
 rintro _ _ ⟨b5,rfl,⟨_,Q,R,W,X,j⟩⟩;have h:=jn b7;refine j.zd [(4,1),(10,3),(12,2)] h (λ j h=>?_) (λ j h=>?_) (hs:=sZ 1 (r:=by exact sc Z (rH Z T)<|eI))
 .have j:=j.eE 2 (s:=12) Z Z [88] Z [4,10] Z
  refine Ka<|j.zh 2 [(4,1),(10,3)] (λ j=>?_) (hs:=sZ 1 (r:=by exact sc Z (Wp Z cI cI T)<|.nil));refine j.eW 10 3 eO.id (tp Z) [] [4] (λ j=>Kb ?_);exact j.pU (s:=4) 1 mP h
 refine Ka<|kB h λ h6 h7 h=>j.zh 1 [(4,1),(10,3)] λ j=>?_;refine j.eW 10 3 eO.id (tp Z) [] [4] (λ j=>Kb ?_);exact j.pU (s:=4) 1 mP h
