import Derived.Test.YtoomehfflopakaaGreatDoorTM
namespace Go.Proofs.YtoomehfflopakaaGreatDoor
open Go.RowKit Tryz
attribute [local irreducible] eP eC
set_option maxRecDepth 10000
set_option maxHeartbeats 1600000
abbrev lq:=Rw (Bx fj) (List eU) (List Int) Int
variable{r:(lq)×eK×(List (List Int))}{d:eK}{x1 x2 x3 x5:Int}{x4:List eU}{x0:List GAct}{bk bl:Nat}{R:Rec}{x:lq}{s:Str}
theorem Ph:lL prog 27=true:=by kernel_rfl
theorem mN:gV prog 27 9=true:=by kernel_rfl
theorem PW:zeroCells prog 47=some CU:=by kernel_rfl
theorem BJ:fR prog 47 0 0=true:=by kernel_rfl
theorem pM:fR prog 47 1 1=true:=by kernel_rfl
theorem BL:fR prog 47 3 8=true:=by kernel_rfl
theorem oO:fR prog 68 1 1=true:=by kernel_rfl
theorem OU:iH prog 63 45 6 80=true:=by kernel_rfl
theorem Pd:lM prog 66 166 4=true:=by kernel_rfl
theorem FP:lM prog 101 9 1=true:=by kernel_rfl
theorem OQ:∀ {M:Nat->Prop} {look:Nat->Option Dt} {o:Oper} {q0 q1 q3:Operand} {y0:Int} {y1:Str} {y3:List Str},o.op=.build 166 #[(0,q0),(1,q1),(3,q3)]->eC M look q0 (dt y0)->eC M look q1 (dt y1)->eC M look q3 (dt y3)->eP prog M look o (dt (⟨y0,y1,0,y3⟩:eT)):=@λ _ _ _ q0 q1 q3 y0 y1 y3 ho h0 h1 h3=>yf (parts:=[(0,q0),(1,q1),(3,q3)]) (ns:=[1,1,1,1]) (zs:=DB) Z ho (λ w a hl=>FA ⟨(by decide:0<4),ey.len (α:=Int) (eC.cells h0 hl)⟩ (FA ⟨(by decide:1<4),ey.len (α:=Str) (eC.cells h1 hl)⟩ (FA ⟨(by decide:3<4),ey.len (α:=List Str) (eC.cells h3 hl)⟩ FN))) (λ w a hl=>eT.parts (x:=(⟨y0,y1,0,y3⟩:eT)) (eC.cells h0 hl) (eC.cells h1 hl) ⟨Z,trivial⟩ (eC.cells h3 hl))
theorem BK:fR prog 47 2 7=true:=by kernel_rfl
theorem vG:∀ {M:Nat->Prop} {look:Nat->Option Dt} {o:Oper} {q0 q1 q2:Operand} {y0:Tree} {y1:Int} {y2:List eT},o.op=.build 68 #[(0,q0),(1,q1),(2,q2)]->eC M look q0 (dt y0)->eC M look q1 (dt y1)->eC M look q2 (dt y2)->eP prog M look o (dt (⟨y0,y1,y2⟩:eK)):=@λ _ _ _ q0 q1 q2 y0 y1 y2 ho h0 h1 h2=>yf (parts:=[(0,q0),(1,q1),(2,q2)]) (ns:=[1,1,1]) (zs:=ZU) Z ho (λ w a hl=>FA ⟨(by decide:0<3),ey.len (α:=Tree) (eC.cells h0 hl)⟩ (FA ⟨(by decide:1<3),ey.len (α:=Int) (eC.cells h1 hl)⟩ (FA ⟨(by decide:2<3),ey.len (α:=List eT) (eC.cells h2 hl)⟩ FN))) (λ w a hl=>eK.parts (x:=(⟨y0,y1,y2⟩:eK)) (eC.cells h0 hl) (eC.cells h1 hl) (eC.cells h2 hl))
instance aaj:fT prog 166 2 2:=⟨uT⟩
instance aan:fT prog 166 3 3:=⟨rJ⟩
instance aau:fT prog 45 4 4:=⟨sJ⟩
instance aax:fT prog 45 5 5:=⟨uU⟩
instance aaC:fT prog 65 0 0:=⟨qI⟩
instance aaE:fT prog 68 1 1:=⟨oO⟩
instance aaG:fT prog 68 2 2:=⟨WG⟩
def wP(x0:List GAct)(s4:Int):Option (Int⊕(Unit⊕Bool)):=
 ite ((ez .lss s4 x0.length)=true) ((eN x0 s4).bind λ v9=>
 Option.bind (ite (ez .eql v9.kind 0) ((jC v9.file).bind λ a8=>
 some a8)<|ite (ez .eql v9.kind 1) (some true)<|ite (ez .eql v9.kind 2) ((xP v9.file.body).bind λ a9=>
 some a9)<|ite (ez .eql v9.kind 3) ((ym v9.name).bind λ b3=>
 some b3)<|some false) λ b5=>
 ite ((!b5)=true) (some (.inr (.inr false)))<|(i64 (s4+1)).bind λ b6=>
 some (.inl b6))<|some (.inr (.inl ()))
def Z6(x0:List GAct):Option Bool:=
 Option.bind (zE (λ s4=>wP x0 s4) 0) (Sum.elim (λ b2=>
 some (ez .leq x0.length 20)) some)
instance HB:gC prog 66 dt dt Z6:=⟨@λ x0 r h=>by
 refine fe 1 func66 λ M w0 _ j=>?_;refine j.z1 (λ j=>za ?_);refine j.mH 1 [0] (λ _=>[]) (λ _ _=>[]) h (λ o2 p2 k2=>?_) λ b2 q2 _ _ _ j h=>?_
 .refine j.z1 λ j=>?_
  refine gk p2 (λ s4 a w=>∃ M1 Q,Sx (eG.of w0) 38 M M1 [eA Q] [(0,dt x0),(6,dt x0),(7,dt (x0.length:Int)),(8,dt s4)] [] a w) fx ?_;rintro s4 z4 _ _ ⟨_,Q,j⟩ h hx4;refine j.zc h (λ j h=>?_) λ j h=>?_
  .refine Ka ?_
   refine kB h λ v9 p9 h=>j.zg 2 λ j=>?_;refine j.fB 0 DF [0,6,7,8,11] [] λ b3 j=>?_;refine j.eW 4 0 eO.id (tp Z) [0,6,7,8] [] (λ j=>Kb ?_);refine j.zo [(4,0)] (λ j=>za ?_);refine j.kJ 1 [0,6,7,8] (λ a8=>[(5,dt a8)]) (λ _ _=>[]) h (λ a8 a9=>?_) λ a8 b5 _ _ _ j h=>?_
   .refine j.zo [(4,0)] λ j=>?_
    refine j.zd [(4,0)] a9 (λ j h=>?_) λ j h=>?_
    .have⟨b6,b7,h⟩:=bs h
     refine j.z1 λ j=>?_;cases h;exact fz
    refine j.zd [(4,0)] h (λ j h=>?_) λ j h=>?_
    .refine j.z1 λ j=>?_
     cases h;exact fz
    refine j.zd [(4,0)] h (λ j h=>?_) λ j h=>?_
    .have⟨b8,b9,h⟩:=bs h
     refine j.z1 λ j=>?_;cases h;exact fz
    refine j.zd [(4,0)] h (λ j h=>?_) λ j h=>?_
    .have⟨c8,d1,h⟩:=bs h
     refine j.z1 λ j=>?_;cases h;exact fz
    cases h;exact fz
   refine j.zc h (λ j h=>?_) λ j h=>?_
   .exact j.ze (jo (lo h hx4) k2)
   exact kB h λ d2 d3 h=>j.zn [] h
  exact fU (lo h hx4)
 exact j.ze h⟩
def Jw(x0:List GAct)(x1:Int):Option Bool:=
(Z6 x0).bind λ v2=>
(gO (v2 == true) (yg x1 0 4)).bind λ v3=>
 some (v2&&v3)
instance Iv:fY prog 36 dt dt dt Jw:=⟨@λ x0 x1 r h=>by
 refine fe 0 func36 λ M _ _ j=>?_;refine j.z1 λ j=>?_;exact Kx h λ v2 p2 v3 p3 h=>j.ze h (hs:=sZ 1 (r:=by exact sc Z (oK (HB.1 p2))<|sZ 2 (r:=by exact sg Z Z (λ hg=>oK (yX.1 (gh hg p3)))<|eI)))⟩
def ww(x0:eK):Option Bool:=
(xn x0.tree).bind λ v2=>
(gO (v2 == true) (yg x0.clock 0 200)).bind λ v3=>
(gO ((v2&&v3) == true) (XV x0.dirs x0.clock 0)).bind λ v4=>
 some ((v2&&v3)&&v4)
instance Jf:gC prog 130 dt dt ww:=⟨@λ x0 r h=>by
 refine fe 0 func130 λ M _ _ j=>?_;refine j.z1 λ j=>?_;exact Kx h λ v2 p2 v3 p3 h=>kB h λ v4 p4 h=>j.ze h (hs:=sZ 2 (r:=by exact sc Z (oK (jl.1 p2))<|sZ 3 (r:=by exact sg Z Z (λ hg=>oK (yX.1 (gh hg p3)))<|sZ 6 (r:=by exact sg Z Z (λ hg=>oK (Is.1 (gh hg p4)))<|eI))))⟩
def qv(x0:File):Option File:=
(yR x0.body).bind λ v4=>
 some {x0 with body:=v4}
instance Jg:gC prog 197 dt dt qv:=⟨@λ x0 r h=>by
 refine fe 2 func197 λ M _ _ j=>?_;refine Ka<|j.DK 0 Z Z T [] Z [] Z Z λ b1 _ _ _ j=>?_;refine j.fB 1 JU [] [1] (λ b3 j=>Kb ?_);refine Ka<|kB h λ v4 p4 h=>j.zh 4 [(1,0),(2,1),(6,0)] (λ j=>?_) (hs:=sZ 2 (r:=by exact sc Z (zy (l:=[.tmp 4]) Z (.cons T .nil) ((qt p4)).fn)<|eI));refine j.eW 1 0 File.D7 (tp Z) [] [2] (λ j=>Kb ?_);refine Ka<|j.zh 1 [(2,1)] λ j=>?_;refine j.eW 2 1 eO.id (tp Z) [] [] (λ j=>Kb ?_);exact j.yB h⟩
def wQ(x0:Tree)(a8:Tree×Int):Option ((Tree×Int)⊕Tree):=
 ite ((ez .lss a8.2 x0.files.length)=true) ((eN x0.files a8.2).bind λ a9=>
(qv a9).bind λ b3=>
(fE 80 a8.1.files [b3]).bind λ b5=>
(i64 (a8.2+1)).bind λ b6=>
 some (.inl (⟨b5⟩,b6)))<|some (.inr a8.1)
def qw(x0:Tree):Option Tree:=
 Option.bind (zE (λ a8=>wQ x0 a8) (⟨[]⟩,0)) λ a9=>
 some a9
theorem Jh{x0 r}(h:qw x0=some r):iF prog 171 [dt x0] (.ow (fV (Ow.row 45 (Ow.eE (α:=File)))) r):=by
 refine mW (fn:=f171) 6 func171 Z Z (λ M w0 _ j=>gj ?_);refine Ka<|j.zg 1 λ j=>?_;refine j.gZ (ow:=(fV (Ow.row 45 (Ow.eE (α:=File))))) 3 (fV.z Ow.gB) [1] [] λ b2 _ _ _ j=>?_;have j:=j.gn;refine Kb<|Ka<|j.zh 1 [(2,3),(6,0)] (λ j=>?_) (hs:=sc Z (xj (α:=File) (e:=45) Z)<|.nil);have j:=j.iO (s:=6) 0 (hG:=(λ _ h=>(by cases h))) [2];refine j.lN (ow:=(fV (Ow.row 45 (Ow.eE (α:=File))))) (parts:=[(0,.tmp 6)]) (ns:=[1]) (zs:=Qz) (x:=(⟨[]⟩:Tree)) 1 [0] (FA ⟨by decide,Ow.len _ (yy (j.st.has 6 _ Z))⟩ FN) (((fV (Ow.row 45 (Ow.eE (α:=File))))).more (fV.mk (x:=(⟨[]⟩:Tree)) (yy (j.st.has 6 _ Z))) (λ b=>(λ hb=>⟨0,by simp,hb⟩))) [1] [2] (@λ G5 _ _ j=>?_);have j:=j.gs (Gs':=[eA none,G5,eA none,(eA (some b2)),eA none,eA none]);have j:=j.gs (Gs':=[eA none,G5,eA none,(eA (some b2)),eA none,eA none]);refine j.gZ (ow:=(fV (Ow.row 45 (Ow.eE (α:=File))))) 4 (fV.z Ow.gB) [1] [2,7] λ b9 _ _ _ j=>?_;have j:=j.gn;refine j.iS (sb:=3) (tv:=7) 4 1 Pb (zt Z) [1] [2] λ j=>?_;have j:=j.gn;refine Kb<|za ?_;have⟨b5,b6,b7⟩:=bs h;refine ib (λ a w=>∃ M1 Q R W X Y A,Sx (eG.of w0) 24 M M1 [Q,R,W,X,Y,eA A] [] [(2,3,eH (Ow.box (fV (Ow.row 45 (Ow.eE (α:=File))))) X ⟨jz⟩),(3,4,eH (Ow.box (fV (Ow.row 45 (Ow.eE (α:=File))))) Y ⟨b5⟩)] a w) ?_ ?_
 .refine j.zo [(2,3),(3,4)] λ j=>?_
  have j:=j.fv (s:=2) 3 [3];have j:=j.fv (s:=3) 4 [2];refine gk b6 (λ a8 a w=>∃ M1 Q R W X Y A,Sx (eG.of w0) 24 M M1 [Q,R,W,X,Y,eA A] [(9,dt x0.files),(10,dt (x0.files.length:Int)),(11,dt a8.2)] [(2,3,eH (Ow.box (fV (Ow.row 45 (Ow.eE (α:=File))))) X ⟨jz⟩),(3,4,eH (Ow.box (fV (Ow.row 45 (Ow.eE (α:=File))))) Y ⟨a8.1⟩)] a w) fx ?_;rintro a8 b8 _ _ ⟨_,Q,R,W,X,Y,A,j⟩ h b3;refine j.zd [(2,3),(3,4)] h (λ j h=>?_) λ j h=>?_
  .refine Ka ?_
   refine kB h λ d3 d4 h=>j.zh 2 [(2,3),(3,4)] λ j=>?_;refine j.fB 5 JU [9,10,11,14] [2,3] λ d5 j=>?_;have j:=j.gn;refine j.eW 5 5 eO.id (tp Z) [9,10,11] [2,3] (λ j=>Kb ?_);refine kB h λ d6 c8 h=>j.ie (s:=3) 4 [2,5] λ d7 j=>?_;refine j.fL 3 4 (Pb.eD fV.f0) [2,5] λ e0 e3 _ d1 j=>?_;refine j.zu 5 [(2,3),(3,4)] (λ j=>?_) (hs:=sw Z (eV Z qI U)<|sw Z (fS (sb:=3) (.head _) Z Z Z T Z)<|sV 1 (r:=by exact sw Z (zy (l:=[.tmp 17]) Z (.cons T .nil) (Jg.1 c8))<|sw Z (wa (opds:=[.tmp 18]) Z Z Z (.cons T .nil))<|.nil));refine j.iN (s:=16) (sb:=3) 4 2 (Pb.eD fV.f0) (.head _) (zR Z Z) [9,10,11,19] [2] λ j=>?_;have j:=j.gn;refine j.kx (s:=16) 2 (by first | (simp;done) | exact oD rfl) [2,3] λ e4 j=>?_;refine kB h λ e5 d2 h=>j.ic 2 yW d2 [9,10,11] [2,3] λ e6 j=>?_;have j:=j.gn;refine j.zh 1 [(2,3),(3,4),(20,2)] (λ j=>?_) (hs:=sc Z (eV Z qI (oN Z))<|.nil);have j:=j.iO (s:=20) 2 [2,3];refine j.kg 3 20 4 2 (tp Z) [9,10,11] [2] λ j=>?_;have j:=j.gn;refine Kb<|kB h λ e7 e8 h=>j.zo [(2,3),(3,4)] λ j=>?_;have j:=j.fv (s:=3) 4 [2];exact fU h
  cases lo h b3;exact fz
 rintro _ _ ⟨_,Q,R,W,X,Y,A,j⟩;have h:=b7;refine Ka<|j.ie (s:=3) 4 [2] λ e9 j=>?_;refine j.nr (sb:=3) 4 [] [2] λ j=>?_;refine j.ie (s:=2) 3 [23] λ f9 j=>?_;refine j.iS (sb:=2) (tv:=23) 3 4 Pb (zt Z) [] [] λ j=>?_;have j:=j.gn;exact Kb<|j.ui 3 h
def Xi(x0:Tree)(x1:File):Option (Tree×Bool):=
(qw x0).bind λ v8=>
(qv x1).bind λ b3=>
(fE 80 v8.files [b3]).bind λ a8=>
(xn x0).bind λ a9=>
(gO ((!a9) == false) (xn ⟨a8⟩)).bind λ b5=>
 ite (((!a9)||(!b5))=true) (some (⟨[]⟩,false))<|some (⟨a8⟩,true)
instance:fY prog 167 dt dt (λ r=>fZ [dt r.1,dt r.2]) Xi:=⟨@λ x0 x1 r h=>by
 refine fe 4 func167 λ M _ _ j=>?_;refine Ka<|j.zg 2 λ j=>?_;refine j.fB 2 xN [2,3] [] λ b3 j=>?_;have j:=j.gn;refine j.zh 1 [(4,2)] (λ j=>Kb ?_);refine Ka<|j.zh 1 [(4,2)] λ j=>?_;refine kB h λ v8 p8 h=>j.cN (l:=[.tmp 7]) 0 (.cons T .nil) (Jh p8) [2,3] [4] λ j=>?_;have j:=j.gn;refine j.gZ (ow:=(fV (Ow.row 45 (Ow.eE (α:=File))))) 3 (fV.z Ow.gB) [2,3] [4,8] λ b8 _ _ _ j=>?_;have j:=j.gn;refine j.iS (sb:=6) (tv:=8) 3 0 Pb (zt Z) [2,3] [4] λ j=>?_;have j:=j.gn;refine Kb<|kB h λ b9 a8 h=>j.fL 6 3 (Pb.eD fV.f0) [4] λ c8 d1 _ a9 j=>?_;refine j.zu 5 [(4,2),(6,3)] (λ j=>?_) (hs:=sw Z (eV Z qI U)<|sw Z (fS (sb:=6) (.head _) Z Z Z T Z)<|sV 1 (r:=by exact sw Z (zy (l:=[.tmp 11]) Z (.cons T .nil) (Jg.1 a8))<|sw Z (wa (opds:=[.tmp 12]) Z Z Z (.cons T .nil))<|.nil));refine j.iN (s:=10) (sb:=6) 3 1 (Pb.eD fV.f0) (.head _) (zR Z Z) [2,13] [4] λ j=>?_;have j:=j.gn;refine j.kx (s:=10) 1 (by first | (simp;done) | exact oD rfl) [4,6] λ d2 j=>?_;refine kB h λ d3 b5 h=>j.ic 1 yW b5 [2] [4,6] λ d4 j=>?_;have j:=j.gn;refine j.zh 1 [(4,2),(6,3),(14,1)] (λ j=>?_) (hs:=sc Z (eV Z qI (oN Z))<|.nil);have j:=j.iO (s:=14) 1 [4,6];refine j.kg 6 14 3 1 (tp Z) [2] [4] λ j=>?_;have j:=j.gn;refine Kb ?_;have j:=j.fv (s:=6) 3 [4];have j:=j.nq (s:=6) 3 [2] [4];refine Kx h λ d5 b6 d6 b7 h=>j.zd [(4,2)] h (λ j h=>?_) (λ j h=>?_) (hs:=sZ 1 (r:=by exact sc Z (oK (jl.1 b6))<|sZ 3 (r:=by exact sg Z Z (λ hg=>oK (jl.1 (gh hg b7)))<|eI)))
 .refine Ka ?_
  refine j.zh 1 [(4,2)] (λ j=>?_) (hs:=sc Z (yf (parts:=[]) (ns:=[1]) (zs:=Qz) Z Z (λ w a hl=>by simp) (λ w a hl=>Tree.parts (x:=(⟨[]⟩:Tree)) yF))<|.nil);refine j.eW 4 2 eO.id (tp Z) [] [] λ j=>?_;refine j.zh 1 [(4,2)] (λ j=>Kb ?_);cases h;exact j.y2
 refine Ka<|j.zh 1 [(4,2)] λ j=>?_;refine j.eW 4 2 eO.id (tp Z) [] [] λ j=>?_;refine j.zh 1 [(4,2)] (λ j=>Kb ?_);cases h;exact j.y2⟩
def wR(x0:List eT)(s6:(List eT)×Int):Option (((List eT)×Int)⊕(List eT)):=
 ite ((ez .lss s6.2 x0.length)=true) ((eN x0 s6.2).bind λ a8=>
(fE 16 [] a8.names).bind λ a9=>
(fE 56 s6.1 [{ a8 with names:=a9 }]).bind λ b3=>
(i64 (s6.2+1)).bind λ b5=>
 some (.inl (b3,b5)))<|some (.inr s6.1)
def Z7(x0:List eT):Option (List eT):=
 Option.bind (zE (λ s6=>wR x0 s6) ([],0)) λ o3=>
 some o3
theorem Xz{x0 r}(h:Z7 x0=some r):iF prog 129 [dt x0] (.ow (Ow.row 166 (iY lE)) r):=by
 refine mW (fn:=f129) 5 func129 Z Z (λ M w0 _ j=>gj ?_);refine j.uh (sc Z (oA Z (wg (α:=eT)))<|.nil) [0] λ _ _ j=>?_;refine j.hU (sc Z (xj (α:=eT) (e:=166) Z)<|eI) [0] [(3,0)] (λ j=>za ?_);have⟨o3,p3,k3⟩:=bs h;refine ib (λ a w=>∃ M1 Q R W X Y,Sx (eG.of w0) 24 M M1 [Q,R,W,X,Y] [] [(3,0,eH (Ow.row 166 (iY lE)) Q o3)] a w) ?_ ?_
 .have j:=j.AI (s:=3) (e':=166) (oy:=(iY lE)) 0 []
  refine j.lK [7,8,9] [(3,0)] λ j=>?_;refine gk p3 (λ s6 a w=>∃ M1 Q R W X Y,Sx (eG.of w0) 24 M M1 [Q,R,W,X,Y] [(7,dt x0),(8,dt (x0.length:Int)),(9,dt s6.2)] [(3,0,eH (Ow.row 166 (iY lE)) Q s6.1)] a w) fx ?_;rintro s6 z6 _ _ ⟨_,Q,R,W,X,Y,j⟩ h hx6;refine j.lK [7,8,9,10] [(3,0)] λ j=>?_;refine j.cq h (λ h=>?_) λ h=>?_
  .refine Ka ?_
   refine kB h λ a8 c8 h=>j.segA 2 [7,8,9,12] [(3,0)] λ j=>?_;refine j.gZ (ow:=(iY lE)) 4 (iY.z Ow.gB) [7,8,9,12] [3] λ d1 _ _ _ j=>?_;have j:=j.gn;refine j.L5 (ow2:=(iY (Ow.eE (α:=List Str)))) (sb:=5) 4 iY.LF Z Z Z PO Z (tp Z) (λ _ h=>h) [7,8,9] Z [3] Z Z (λ _ j=>Kb ?_);have j:=j.AF 1 [7,8,9] [3,5];refine Ka<|j.fN 3 (sc Z (xj (α:=Str) (e:=9) Z (ht':=W3))<|sc Z (eV Z rJ U)<|sc Z (gi (sb:=5) (Pb.eD iY.f3) Z T Z)<|.nil) [7,8,9,15] [(3,0),(5,4),(13,1)] λ j=>?_;refine kB h λ a9 b3 h=>j.ic 1 yW b3 [7,8,9] [3,5] λ d2 j=>?_;have j:=j.gn;refine j.fN 1 (sc Z (eV Z rJ U)<|.nil) [7,8,9,17] [(3,0),(5,4),(16,1)] λ j=>?_;have j:=j.iO (s:=16) 1 [3,5];refine j.L8 (off:=3) (ow2:=(iY lE)) (x2:={ a8 with names:=a9 }) (sb:=5) (tv:=16) 4 1 iY.tk Z Z Z PL (tp Z) Z Z (λ _ h=>h) (λ _ h=>h) [7,8,9] Z [3] Z Z Z λ _ _ j=>?_;have j:=j.gn;refine Kb<|Ka<|j.iQ (s:=3) 0 [5] λ d3 d4 _ b5 j=>?_;refine j.segA 1 [7,8,9] [(3,0),(5,4),(18,0)] λ j=>?_;refine j.nr (sb:=5) 4 [7,8,9] [3,18] λ j=>?_;refine j.lO (oe:=(iY lE)) (opds:=[.tmp 19]) (xs:=[{ a8 with names:=a9 }]) 3 [4] Pd PS (Z2 (yy (j.st.has 19 _ Z)) (λ b hb=>⟨4,by simp,hb⟩)) (λ q hq=>by
 simp only[aj,aF,bI] at hq
 subst hq
 exact Ow.len _ (yy (j.st.has 19 _ Z))) [7,8,9] [3,18] (@λ b6 _ _ _ j=>?_)
   have j:=j.gs (Gs':=[Q,eA none,W,b6,eA none]);have j:=j.fv (s:=18) 0 [20];refine kB h λ d5 b7 h=>j.oW 0 3 b7 [7,8,9] [] λ j=>?_;have j:=j.gn;refine j.iQ (s:=21) 0 [] λ d6 d7 _ b8 j=>?_;refine j.segA 1 [7,8,9] [(3,0)] (λ j=>Kb ?_);refine kB h λ e0 e3 h=>j.lK [7,8,9] [(3,0)] λ j=>?_;have j:=j.fv (s:=3) 0 [];exact fU h
  cases lo h hx6;exact fz
 rintro _ _ ⟨_,Q,R,W,X,Y,j⟩;have h:=k3;refine j.iQ (s:=3) 0 [] λ e4 e5 _ b9 j=>?_;refine j.lK [] [(2,0)] λ j=>?_;have j:=j.fv (s:=2) 0 [];exact j.pS 0 h
def xv(x2:File)(b7:List Str)(a8:eK×Int):Option ((eK×Int)⊕eK):=
 ite ((ez .lss a8.2 b7.length)=true) ((eN b7 a8.2).bind λ b8=>
(Zj a8.1.dirs x2.root b8).bind λ b9=>
 Option.bind (ite (ez .lss b9 0) ((fE 56 a8.1.dirs ([(⟨x2.root,b8,0,[]⟩:eT)]:List eT)).bind λ b3=>
 some ({ a8.1 with dirs:=b3 },(a8.1.dirs.length:Int)))<|some (a8.1,b9)) λ a9=>
(eN a9.1.dirs a9.2).bind λ b5=>
(i64 (a8.2+1)).bind λ b6=>
 some (.inl ({ a9.1 with dirs:=(a9.1.dirs.set a9.2.toNat {b5 with stamp:=a9.1.clock}) },b6)))<|some (.inr a8.1)
def Z8(x0:eK)(x1:Tree)(x2:File)(x3:Int):Option (eK×Bool):=
 ite (ez .gtr x3 200) (some (⟨jz,0,[]⟩,false))<|(i64 (x0.clock+x3)).bind λ b3=>
(Z7 x0.dirs).bind λ b5=>
 Option.bind ((jP x2.pkg).bind λ b6=>
(fE 16 [⟨[]⟩] b6).bind λ b7=>
 zE (λ b8=>xv x2 b7 b8) (⟨x1,b3,b5⟩,0)) λ a9=>
(ww a9).bind λ a8=>
 ite ((!a8)=true) (some (⟨jz,0,[]⟩,false))<|some (a9,true)
instance:od prog 168 dt dt dt dt (λ r=>fZ [dt r.1,dt r.2]) Z8:=⟨@λ x0 x1 x2 x3 r h=>by
 refine fe 6 func168 λ M w0 _ j=>?_;refine Ka<|j.zg 3 λ j=>?_;refine j.fB 4 jc [3,4,5,6] [] λ b3 j=>?_;have j:=j.gn;refine j.zh 1 [(8,4)] (λ j=>Kb ?_);refine j.zd [(8,4)] h (λ j h=>?_) λ j h=>?_
 .refine Ka ?_
  refine j.zh 1 [(8,4)] (λ j=>?_) (hs:=sc Z (yf (parts:=[]) (ns:=[1,1,1]) (zs:=ZU) Z Z (λ w a hl=>by simp) (λ w a hl=>eK.parts (x:=(⟨jz,0,[]⟩:eK)) (xN _ _) ⟨Z,trivial⟩ yF))<|.nil);refine j.eW 8 4 eO.id (tp Z) [] [] λ j=>?_;refine j.zh 1 [(8,4)] (λ j=>Kb ?_);cases h;exact j.y2
 refine j.rX zP λ b6 _ hz13 j=>?_;refine j.me (i:=0) (j.fg (g:=70)) hz13 (tp Z) λ j=>?_;refine j.pV (i:=1) (j.fg (g:=70)) eK.gA oO (tp Z) (next:=@λ a15 j=>?_);refine j.me (i:=2) (j.fg (g:=70)) hz13 (tp Z) λ j=>?_;refine j.tM 3 3 (j.fg (g:=70)) λ _ j=>?_;refine kB h λ a8 e8 h=>j.AJ (op:=.add) (i:=4) (j.fg (g:=70)) (tp Z) (tp Z) e8 (next:=@λ a19 j=>?_);refine j.pV (i:=5) (j.fg (g:=70)) eK.iv WG (tp Z) (next:=@λ a21 j=>?_);refine j.me (i:=6) (j.fg (g:=70)) hz13 (tp Z) λ j=>?_;refine kB h λ a9 e3 h=>yP 1 1023 (λ a w=>∃ M1 R Y A,Sx (eG.of w0) 70 M M1 [eA none,R,eA none,eA none,eA Y,A] [(6,eX x2),(70,gx b6)] [(8,4,eY Y 0 xc),(10,5,eH (Ow.box (fJ (Ow.eE (α:=Tree)) gP)) A ⟨xc⟩),(25,1,eH (fJ (Ow.eE (α:=Tree)) gP) R (⟨x1,a8,a9⟩:eK))] a w) ?_ λ n55=>?_
 .rintro _ _ ⟨_,R,Y,A,j⟩
  refine fp 10 ?_;refine j.ie (s:=10) 5 [8,25] λ j5 j=>?_;refine j.iS (sb:=10) (tv:=25) 5 1 Pb (zt Z) [6,70] [8] @λ e9 _ j=>?_;have j:=j.gn;have j:=j.fv (s:=10) 5 [8];refine fC (j.fg (g:=70)) ?_;refine kG ?_;refine za ?_;have⟨f9,g3,g4⟩:=bs h;refine ib (λ a w=>∃ M1 Q R W X Y A,Sx (eG.of w0) 70 M M1 [Q,R,W,X,eA Y,A] [] [(8,4,eY Y 0 xc),(10,5,eH (Ow.box (fJ (Ow.eE (α:=Tree)) gP)) A ⟨f9⟩)] a w) ?_ ?_
  .refine Ka ?_
   refine j.lO (oe:=(Ow.eE (α:=Str))) (opds:=[_]) (xs:=[(⟨[]⟩:Str)]) 2 [] FP FX (Z2 (oe:=(Ow.eE (α:=Str))) (G1:=noB) (eC.cells (yM) (λ s y hs=>j.st.has s y hs)) (λ _ h=>h.elim)) (λ q hq=>by
 simp only[aj,aF,bI] at hq
 subst hq
 exact ey.len (eC.cells (yM) (λ s y hs=>j.st.has s y hs))) [6] [8,10] (@λ g5 _ _ _ j=>?_)
   have j:=j.gs (Gs':=[eA none,eA none,g5,eA none,eA Y,e9]);have⟨j6,g6,h⟩:=bs g3;refine j.zh 3 [(8,4),(10,5),(26,2)] (λ j=>?_) (hs:=sZ 2 (r:=by exact sc Z (zy (l:=[.tmp 28]) Z (.cons T .nil) ((Uq g6)).fn)<|.nil));refine j.kx (s:=26) 2 (by first | (simp;done) | exact oD rfl) [8,10] λ j7 j=>?_;refine kB h λ b7 g7 h=>j.ic 2 yW g7 [6] [8,10] λ k1 j=>?_;have j:=j.gn;refine j.zh 2 [(8,4),(10,5),(30,2)] (λ j=>?_) (hs:=sc Z (rH Z T)<|eI);refine Kb ?_;have j:=j.iO (s:=30) 2 [8,10];refine gk h (λ b8 a w=>∃ M1 Q R W X Y A,Sx (eG.of w0) 70 M M1 [Q,R,W,X,eA Y,A] [(6,eX x2),(31,dt (b7.length:Int)),(32,dt b8.2)] [(8,4,eY Y 0 xc),(10,5,eH (Ow.box (fJ (Ow.eE (α:=Tree)) gP)) A ⟨b8.1⟩),(30,2,eH lE W b7)] a w) fx ?_;rintro b8 g8 _ _ ⟨_,Q,R,W,X,Y,A,j⟩ h d4;refine j.zd [(8,4),(10,5),(30,2)] h (λ j h=>?_) λ j h=>?_
   .have⟨k3,e4,h⟩:=bs h
    refine j.iQ (s:=30) 2 [8,10] λ k4 k5 _ b9 j=>?_;refine j.zo [(8,4),(10,5),(30,2)] (λ j=>?_) (hs:=sc Z (kk Z W3 Z T b9 e4)<|sc Z (gi (sb:=30) (PV.root.row Z b9 e4) Z T Z)<|eI);refine kB h λ k6 g9 h=>j.ie (s:=10) 5 [8,30] λ k7 j=>?_;refine j.fL 10 5 (Pb.eD fJ.f2) [8,30] λ k8 k9 _ h0 j=>?_;refine j.zo [(8,4),(10,5),(30,2)] (λ j=>?_) (hs:=sc Z (eV Z WG U)<|sc Z (fS (sb:=10) (.head _) Z Z Z T Z)<|sZ 3 (r:=by exact sc Z (yC (l:=[.tmp 37,.tmp 39,.tmp 40]) j.ob.sub Z (.cons (mw (sb:=10) j.ob 5 (Pb.eD fJ.f2) (.head _) Z (zR Z Z) T Z) (.cons (yG j.ob.sub T) (.cons (yG j.ob.sub T) .nil))) (Qb.1 g9) xQ)<|eI));refine za ?_;have j:=j.gS (s:=10) 5 [8,30];have⟨e5,h3,h4⟩:=bs h;refine ib (λ a w=>∃ M1 Q R W X Y A,Sx (eG.of w0) 70 M M1 [Q,R,W,X,eA Y,A] [(6,eX x2),(13,dt e5.2),(31,dt (b7.length:Int)),(32,dt b8.2)] [(8,4,eY Y 0 xc),(10,5,eH (Ow.box (fJ (Ow.eE (α:=Tree)) gP)) A ⟨e5.1⟩),(30,2,eH lE W b7)] a w) ?_ ?_
    .refine j.zd [(8,4),(10,5),(30,2)] h3 (λ j h=>?_) λ j h=>?_
     .refine j.fL 10 5 (Pb.eD fJ.f2) [8,30] λ h5 h6 _ e6 j=>?_
      refine j.zo [(8,4),(10,5),(30,2)] (λ j=>?_) (hs:=sc Z (eV Z WG U)<|sc Z (fS (sb:=10) (.head _) Z Z Z T Z)<|sc Z (oE Z T)<|eI);have j:=j.gS (s:=10) 5 [8,30];refine Ka<|j.fL 10 5 (Pb.eD fJ.f2) [8,30] λ h7 h8 _ e7 j=>?_;refine j.zh 8 [(8,4),(10,5),(30,2)] (λ j=>?_) (hs:=sc Z (eV Z WG U)<|sc Z (fS (sb:=10) (.head _) Z Z Z T Z)<|sZ 3 (r:=by exact sc Z (wa (opds:=[]) (α:=Str) Z (ht':=W3) Z Z .nil)<|sc Z (OQ Z T T T)<|eI));refine j.iN (s:=48) (sb:=10) 5 3 (Pb.eD fJ.f2) (.head _) (zR Z Z) [6,13,31,32,54] [8,30] @λ d5 H108 j=>?_;have j:=j.gs (Gs':=[Q,R,W,H108,eA Y,d5]);refine j.kx (s:=48) 3 (by first | (simp;done) | exact oD rfl) [8,10,30] λ h9 j=>?_;refine kB h λ i0 d6 h=>j.ic 3 yW d6 [6,13,31,32] [8,10,30] λ i3 j=>?_;have j:=j.gn;refine j.zh 1 [(8,4),(10,5),(30,2),(55,3)] (λ j=>?_) (hs:=sc Z (eV Z WG (oN Z))<|.nil);have j:=j.iO (s:=55) 3 [8,10,30];refine j.kg 10 55 5 3 (tp Z) [6,13,31,32] [8,30] λ j=>?_;have j:=j.gn;refine Kb ?_;have j:=j.fv (s:=10) 5 [8,30];have j:=j.fv (s:=30) 2 [8,10];cases h;exact fz
     have j:=j.fv (s:=10) 5 [8,30];have j:=j.fv (s:=30) 2 [8,10];cases h;exact fz
    rintro _ _ ⟨_,Q,R,W,X,Y,A,j⟩;have h:=h4;refine Ka<|kB h λ i4 c8 h=>j.ie (s:=10) 5 [8,30] λ i5 j=>?_;refine j.fL 10 5 (Pb.eD fJ.f2) [8,30] λ d7 i6 _ b5 j=>?_;refine j.zh 7 [(8,4),(10,5),(30,2)] (λ j=>?_) (hs:=sc Z (eV Z WG U)<|sc Z (fS (sb:=10) (.head _) Z Z Z T Z)<|sZ 1 (r:=by exact sc Z (eV Z oO U)<|sc Z (gi (sb:=10) (Pb.eD fJ.f1) Z T Z)<|sc Z (gJ (g:=d7) Z oq T T Z (λ h=>b5 h Z) c8)<|eI));refine j.gX 10 5 (((Pb.eD fJ.f2).row (.head _) Z (λ h=>b5 h Z) c8).eD eT.z2) (tp Z) (tp Z) [6,31,32] [8,30] (λ j=>Kb ?_);refine kB h λ i7 i8 h=>j.zo [(8,4),(10,5),(30,2)] λ j=>?_;have j:=j.fv (s:=10) 5 [8,30];exact fU h
   cases lo h d4;exact fz
  rintro _ _ ⟨_,Q,R,W,X,Y,A,j⟩;have h:=g4;refine kB h λ i9 e0 h=>j.ie (s:=10) 5 [8] λ j1 j=>?_;refine j.mF (s:=10) 5 true (λ _=>Pb) [8] λ cs139 hS139 j=>?_;refine j.zo [(8,4),(10,5)] (λ j=>?_) (hs:=sc Z (nK (sb:=10) (.head _) Z (hS139 Z) Z U Z)<|sc Z (yC (l:=[.tmp 65]) j.ob.sub Z (.cons (mw (sb:=10) j.ob 5 Pb (.head _) Z (QG Z (hS139 Z)) T Z) .nil) (Jf.1 e0) jh)<|eI);have j:=j.gS (s:=10) 5 [8];refine j.cq h (λ h=>?_) λ h=>?_
  .refine Ka ?_
   refine j.zh 1 [(8,4)] (λ j=>?_) (hs:=sc Z (yf (parts:=[]) (ns:=[1,1,1]) (zs:=ZU) Z Z (λ w a hl=>by simp) (λ w a hl=>eK.parts (x:=(⟨jz,0,[]⟩:eK)) (xN _ _) ⟨Z,trivial⟩ yF))<|.nil);refine j.eW 8 4 eO.id (tp Z) [] [] λ j=>?_;refine j.zh 1 [(8,4)] (λ j=>Kb ?_);cases h;exact j.y2
  have j:=j.fv (s:=10) 5 [8];have j:=j.nq (s:=10) 5 [67] [8];refine Ka<|j.zh 1 [(8,4)] λ j=>?_;refine j.eW 8 4 eO.id (tp Z) [] [] λ j=>?_;refine j.zh 1 [(8,4)] (λ j=>Kb ?_);cases h;exact j.y2
 refine yP 2 511 (λ a w=>∃ M1 R Y,Sx (eG.of w0) 70 M M1 [eA none,R,eA none,eA none,eA Y,eA none] [(6,eX x2),(70,gx b6)] [(8,4,eY Y 0 xc),(25,1,eH (fJ (Ow.eE (α:=Tree)) gP) R (⟨x1,a8,a9⟩:eK))] a w) ?_ λ n45=>?_
 .rintro _ _ ⟨_,R,Y,j⟩
  refine fp 9 ?_;refine j.gZ (ow:=(fJ (Ow.eE (α:=Tree)) gP)) 5 (fJ.z xN Ow.gB) [6,70] [8,25] λ j2 _ _ _ j=>?_;have j:=j.gn;have j:=j.fv (s:=10) 5 [8,25];exact fQ n55 (j.fg (g:=70))
 refine yP 2 767 (λ a w=>∃ M1 Q Y A,Sx (eG.of w0) 70 M M1 [Q,eA none,eA none,eA none,eA Y,A] [(6,eX x2),(17,dt x1),(21,dt a8),(70,gx b6)] [(8,4,eY Y 0 xc),(10,5,eH (Ow.box (fJ (Ow.eE (α:=Tree)) gP)) A ⟨xc⟩),(24,0,eH gP Q a9)] a w) ?_ λ n49=>?_
 .rintro _ _ ⟨_,Q,Y,A,j⟩
  refine fp 8 ?_;refine j.lN (ow:=(fJ (Ow.eE (α:=Tree)) gP)) (parts:=[(0,.tmp 17),(1,.tmp 21),(2,.tmp 24)]) (ns:=[1,1,1]) (zs:=ZU) (x:=(⟨x1,a8,a9⟩:eK)) 1 [0] (FA ⟨by decide,ey.len (α:=Tree) (j.oc T)⟩ (FA ⟨by decide,ey.len (α:=Int) (j.oc T)⟩ (FA ⟨by decide,Ow.len _ (yy (j.st.has 24 _ Z))⟩ FN))) (((fJ (Ow.eE (α:=Tree)) gP)).more (fJ.mk (x:=(⟨x1,a8,a9⟩:eK)) (g0:=noB) (j.oc T) (j.oc T) (yy (j.st.has 24 _ Z)) (λ b h1=>(λ h2=>h1.elim))) (λ b=>(λ hb=>hb.elim (λ hb=>hb.elim) (λ hb=>⟨0,by simp,hb⟩)))) [6,70] [8,10] (@λ d1 _ _ j=>?_);have j:=j.gs (Gs':=[eA none,d1,eA none,eA none,eA Y,A]);have j:=j.gs (Gs':=[eA none,d1,eA none,eA none,eA Y,A]);exact fQ n55 (j.fg (g:=70))
 refine yP 3 255 (λ a w=>∃ M1 Q Y,Sx (eG.of w0) 70 M M1 [Q,eA none,eA none,eA none,eA Y,eA none] [(6,eX x2),(17,dt x1),(21,dt a8),(70,gx b6)] [(8,4,eY Y 0 xc),(24,0,eH gP Q a9)] a w) ?_ λ n37=>?_
 .rintro _ _ ⟨_,Q,Y,j⟩
  refine iU 8 9 ?_ ?_
  .refine j.lN (ow:=(fJ (Ow.eE (α:=Tree)) gP)) (parts:=[(0,.tmp 17),(1,.tmp 21),(2,.tmp 24)]) (ns:=[1,1,1]) (zs:=ZU) (x:=(⟨x1,a8,a9⟩:eK)) 1 [0] (FA ⟨by decide,ey.len (α:=Tree) (j.oc T)⟩ (FA ⟨by decide,ey.len (α:=Int) (j.oc T)⟩ (FA ⟨by decide,Ow.len _ (yy (j.st.has 24 _ Z))⟩ FN))) (((fJ (Ow.eE (α:=Tree)) gP)).more (fJ.mk (x:=(⟨x1,a8,a9⟩:eK)) (g0:=noB) (j.oc T) (j.oc T) (yy (j.st.has 24 _ Z)) (λ b h1=>(λ h2=>h1.elim))) (λ b=>(λ hb=>hb.elim (λ hb=>hb.elim) (λ hb=>⟨0,by simp,hb⟩)))) [6,70] [8] (@λ d2 _ _ j=>?_)
   have j:=j.gs (Gs':=[eA none,d2,eA none,eA none,eA Y,eA none]);have j:=j.gs (Gs':=[eA none,d2,eA none,eA none,eA Y,eA none]);exact fQ n45 (j.fg (g:=70))
  .refine j.gZ (ow:=(fJ (Ow.eE (α:=Tree)) gP)) 5 (fJ.z xN Ow.gB) [6,17,21,70] [8,24] λ j3 _ _ _ j=>?_
   have j:=j.gn;have j:=j.fv (s:=10) 5 [8,24];exact fQ n49 (j.fg (g:=70))
 refine yP 3 639 (λ a w=>∃ M1 Y A,Sx (eG.of w0) 70 M M1 [eA none,eA none,eA none,eA none,eA Y,A] [(6,eX x2),(17,dt x1),(21,dt a8),(23,dt x0.dirs),(70,gx b6)] [(8,4,eY Y 0 xc),(10,5,eH (Ow.box (fJ (Ow.eE (α:=Tree)) gP)) A ⟨xc⟩)] a w) ?_ λ n41=>?_
 .rintro _ _ ⟨_,Y,A,j⟩
  refine fp 7 ?_;refine j.cN (l:=[.tmp 23]) 0 (.cons T .nil) (iF.thin Hk (Xz e3)) [6,17,21,70] [8,10] λ j=>?_;have j:=j.gn;exact fQ n49 (j.fg (g:=70))
 refine iU 7 9 ?_ ?_
 .refine j.cN (l:=[.tmp 23]) 0 (.cons T .nil) (iF.thin Hk (Xz e3)) [6,17,21,70] [8] λ j=>?_
  have j:=j.gn;exact fQ n37 (j.fg (g:=70))
 .refine j.gZ (ow:=(fJ (Ow.eE (α:=Tree)) gP)) 5 (fJ.z xN Ow.gB) [6,17,21,23,70] [8] λ j4 _ _ _ j=>?_
  have j:=j.gn;have j:=j.fv (s:=10) 5 [8];exact fQ n41 (j.fg (g:=70))⟩
def Xj(x0:eK)(x1:File)(x2:Int):Option (eK×Bool):=
(ww x0).bind λ v5=>
 ite (((!v5)||ez .lss x2 0)=true) (some (⟨jz,0,[]⟩,false))<|(Xi x0.tree x1).bind λ a8=>
 ite ((!a8.2)=true) (some (⟨jz,0,[]⟩,false))<|(Z8 x0 a8.1 x1 x2).bind λ a9=>
 some (a9.1,a9.2)
instance:ky prog 126 dt dt dt (λ r=>fZ [dt r.1,dt r.2]) Xj:=⟨@λ x0 x1 x2 r h=>by
 refine fe 2 func126 λ M _ _ j=>?_;refine Ka<|j.zg 2 λ j=>?_;refine j.fB 0 jc [2,3,4] [] λ b3 j=>?_;refine j.zh 1 [(6,0)] (λ j=>Kb ?_);refine kB h λ v5 p5 h=>j.zd [(6,0)] h (λ j h=>?_) λ j h=>?_
 .refine Ka ?_
  refine j.zh 1 [(6,0)] (λ j=>?_) (hs:=sc Z (yf (parts:=[]) (ns:=[1,1,1]) (zs:=ZU) Z Z (λ w a hl=>by simp) (λ w a hl=>eK.parts (x:=(⟨jz,0,[]⟩:eK)) (xN _ _) ⟨Z,trivial⟩ yF))<|.nil);refine j.eW 6 0 eO.id (tp Z) [] [] λ j=>?_;refine j.zh 1 [(6,0)] (λ j=>Kb ?_);cases h;exact j.y2
 refine Ka<|kB h λ a8 a9 h=>j.zh 7 [(6,0)] λ j=>?_;refine j.fB 1 xN [2,3,4,23,24] [6] λ b5 j=>?_;refine j.eW 8 1 eO.id (tp Z) [2,3,4,24] [6] λ j=>?_;refine j.zh 1 [(6,0),(8,1)] (λ j=>Kb ?_);refine j.zd [(6,0),(8,1)] h (λ j h=>?_) λ j h=>?_
 .refine Ka ?_
  refine j.zh 1 [(6,0)] (λ j=>?_) (hs:=sc Z (yf (parts:=[]) (ns:=[1,1,1]) (zs:=ZU) Z Z (λ w a hl=>by simp) (λ w a hl=>eK.parts (x:=(⟨jz,0,[]⟩:eK)) (xN _ _) ⟨Z,trivial⟩ yF))<|.nil);refine j.eW 6 0 eO.id (tp Z) [] [] λ j=>?_;refine j.zh 1 [(6,0)] (λ j=>Kb ?_);cases h;exact j.y2
 refine Ka<|kB h λ b6 b7 h=>j.zh 7 [(6,0)] λ j=>?_;refine j.eW 6 0 eO.id (tp Z) [34] [] λ j=>?_;refine j.zh 1 [(6,0)] (λ j=>Kb ?_);cases h;exact j.y2⟩
def Zm(x0:Tree)(x1:Int):Option (Tree×Bool):=
(xn x0).bind λ v6=>
(gO ((!v6) == false) (i64 (x0.files.length - 1))).bind λ v7=>
(gO ((!v6) == false) (yg x1 0 v7)).bind λ v8=>
 ite (((!v6)||(!v8))=true) (some (⟨[]⟩,false))<|(qw x0).bind λ a8=>
(i64 (x1+1)).bind λ a9=>
(Z3 a8.files x1 a9).bind λ b3=>
(fE 80 [] b3).bind λ b5=>
 some (⟨b5⟩,true)
instance:fY prog 169 dt dt (λ r=>fZ [dt r.1,dt r.2]) Zm:=⟨@λ x0 x1 r h=>by
 refine fe 5 func169 λ M _ _ j=>?_;refine Ka<|j.zg 1 λ j=>?_;refine j.fB 3 xN [1,2] [] λ b3 j=>?_;have j:=j.gn;refine j.zh 1 [(4,3)] (λ j=>Kb ?_);refine Kx h λ v6 p6 v7 p7 h=>kB h λ v8 p8 h=>j.zd [(4,3)] h (λ j h=>?_) (λ j h=>?_) (hs:=sZ 1 (r:=by exact sc Z (oK (jl.1 p6))<|sZ 6 (r:=by exact sg Z Z (λ hg=>lX Z V cI (gh hg p7))<|sg Z Z (λ hg=>oK (yX.1 (gh hg p8)))<|eI)))
 .refine Ka ?_
  refine j.zh 1 [(4,3)] (λ j=>?_) (hs:=sc Z (yf (parts:=[]) (ns:=[1]) (zs:=Qz) Z Z (λ w a hl=>by simp) (λ w a hl=>Tree.parts (x:=(⟨[]⟩:Tree)) yF))<|.nil);refine j.eW 4 3 eO.id (tp Z) [] [] λ j=>?_;refine j.zh 1 [(4,3)] (λ j=>Kb ?_);cases h;exact j.y2
 refine Ka<|j.zh 1 [(4,3)] λ j=>?_;refine kB h λ b8 a8 h=>j.cN (l:=[.tmp 20]) 0 (.cons T .nil) (Jh a8) [1] [4] λ j=>?_;have j:=j.gn;refine j.gZ (ow:=(fV (Ow.row 45 (Ow.eE (α:=File))))) 4 (fV.z Ow.gB) [1] [4,21] λ b9 _ _ _ j=>?_;have j:=j.gn;refine j.iS (sb:=6) (tv:=21) 4 0 Pb (zt Z) [1] [4] λ j=>?_;have j:=j.gn;refine Kb<|Ka<|kB h λ c8 d1 h=>j.fL 6 4 (Pb.eD fV.f0) [4] λ d2 d3 _ a9 j=>?_;refine j.zh 6 [(4,3),(6,4),(22,2)] (λ j=>?_) (hs:=sc Z (xj (α:=File) (e:=45) Z)<|sc Z (eV Z qI U)<|sc Z (fS (sb:=6) (.head _) Z Z Z T Z)<|eI);refine j.iN (s:=24) (sb:=6) 4 1 (Pb.eD fV.f0) (.head _) (zR Z Z) [25,27] [4,22] @λ b5 H33 j=>?_;have j:=j.gs (Gs':=[eA none,H33,eA none,eA (some b3),b5]);refine kB h λ d4 b6 h=>j.cT (sb:=24) (l:=[.tmp 25,.tmp 27]) 1 (.cons T (.cons T .nil)) (UL b6) [] [4,6,22] λ j=>?_;have j:=j.Au (s:=28) 1 Z (λ _ h=>h) [] Z [4,6,22] Z Z;have j:=j.gn;refine kB h λ d5 b7 h=>j.ic 2 yW b7 [] [4,6] λ d6 j=>?_;have j:=j.gn;refine j.zh 1 [(4,3),(6,4),(29,2)] (λ j=>?_) (hs:=sc Z (eV Z qI (oN Z))<|.nil);have j:=j.iO (s:=29) 2 [4,6];refine j.kg 6 29 4 2 (tp Z) [] [4] λ j=>?_;have j:=j.gn;refine Kb ?_;have j:=j.fv (s:=6) 4 [4];have j:=j.nq (s:=6) 4 [] [4];refine Ka<|j.zh 1 [(4,3)] λ j=>?_;refine j.eW 4 3 eO.id (tp Z) [] [] λ j=>?_;refine j.zh 1 [(4,3)] (λ j=>Kb ?_);cases h;exact j.y2⟩
def Zn(x0:eK)(x1:Int)(x2:Int):Option (eK×Bool):=
(ww x0).bind λ v5=>
 ite (((!v5)||ez .lss x2 0)=true) (some (⟨jz,0,[]⟩,false))<|(Zm x0.tree x1).bind λ a8=>
 ite ((!a8.2)=true) (some (⟨jz,0,[]⟩,false))<|(eN x0.tree.files x1).bind λ b3=>
(Z8 x0 a8.1 b3 x2).bind λ a9=>
 some (a9.1,a9.2)
instance:ky prog 127 dt dt dt (λ r=>fZ [dt r.1,dt r.2]) Zn:=⟨@λ x0 x1 x2 r h=>by
 refine fe 2 func127 λ M _ _ j=>?_;refine Ka<|j.zg 1 λ j=>?_;refine j.fB 0 jc [1,2,3] [] λ b3 j=>?_;refine j.zh 1 [(6,0)] (λ j=>Kb ?_);refine kB h λ v5 p5 h=>j.zd [(6,0)] h (λ j h=>?_) λ j h=>?_
 .refine Ka ?_
  refine j.zh 1 [(6,0)] (λ j=>?_) (hs:=sc Z (yf (parts:=[]) (ns:=[1,1,1]) (zs:=ZU) Z Z (λ w a hl=>by simp) (λ w a hl=>eK.parts (x:=(⟨jz,0,[]⟩:eK)) (xN _ _) ⟨Z,trivial⟩ yF))<|.nil);refine j.eW 6 0 eO.id (tp Z) [] [] λ j=>?_;refine j.zh 1 [(6,0)] (λ j=>Kb ?_);cases h;exact j.y2
 refine Ka<|kB h λ a8 a9 h=>j.zh 7 [(6,0)] λ j=>?_;refine j.fB 1 xN [1,2,3,23,24] [6] λ b5 j=>?_;refine j.eW 8 1 eO.id (tp Z) [1,2,3,24] [6] λ j=>?_;refine j.zh 1 [(6,0),(8,1)] (λ j=>Kb ?_);refine j.zd [(6,0),(8,1)] h (λ j h=>?_) λ j h=>?_
 .refine Ka ?_
  refine j.zh 1 [(6,0)] (λ j=>?_) (hs:=sc Z (yf (parts:=[]) (ns:=[1,1,1]) (zs:=ZU) Z Z (λ w a hl=>by simp) (λ w a hl=>eK.parts (x:=(⟨jz,0,[]⟩:eK)) (xN _ _) ⟨Z,trivial⟩ yF))<|.nil);refine j.eW 6 0 eO.id (tp Z) [] [] λ j=>?_;refine j.zh 1 [(6,0)] (λ j=>Kb ?_);cases h;exact j.y2
 refine Kx h λ b6 b7 b8 b9 h=>j.zu 12 [(6,0)] λ j=>?_;refine j.store (sb:=6) 0 eO.id Z Z Z lU Z Z (tp Z) Z [39] Z [] Z Z λ _ _ j=>?_;refine j.zh 1 [(6,0)] (λ j=>Kb ?_);cases h;exact j.y2⟩
def YC(x0:Tree)(x1:Int)(x2:Int)(x3:List Stmt):Option (Tree×Bool):=
(xn x0).bind λ v6=>
(gO ((!v6) == false) (i64 (x0.files.length - 1))).bind λ v7=>
(gO ((!v6) == false) (yg x1 0 v7)).bind λ v8=>
 ite (((!v6)||(!v8))=true) (some (⟨[]⟩,false))<|(qw x0).bind λ a8=>
(eN a8.files x1).bind λ a9=>
(yR x3).bind λ b3=>
(xn ⟨(a8.files.set x1.toNat {a9 with stamp:=x2,body:=b3})⟩).bind λ b5=>
 ite ((!b5)=true) (some (⟨[]⟩,false))<|some (⟨(a8.files.set x1.toNat {a9 with stamp:=x2,body:=b3})⟩,true)
instance:od prog 128 dt dt dt dt (λ r=>fZ [dt r.1,dt r.2]) YC:=⟨@λ x0 x1 x2 x3 r h=>by
 refine fe 6 func128 λ M _ _ j=>?_;refine Ka<|j.zg 1 λ j=>?_;refine j.fB 4 xN [1,2,3,4] [] λ b3 j=>?_;have j:=j.gn;refine j.zh 1 [(8,4)] (λ j=>Kb ?_);refine Kx h λ v6 p6 v7 p7 h=>kB h λ v8 p8 h=>j.zd [(8,4)] h (λ j h=>?_) (λ j h=>?_) (hs:=sZ 1 (r:=by exact sc Z (oK (jl.1 p6))<|sZ 6 (r:=by exact sg Z Z (λ hg=>lX Z V cI (gh hg p7))<|sg Z Z (λ hg=>oK (yX.1 (gh hg p8)))<|eI)))
 .refine Ka ?_
  refine j.zh 1 [(8,4)] (λ j=>?_) (hs:=sc Z (yf (parts:=[]) (ns:=[1]) (zs:=Qz) Z Z (λ w a hl=>by simp) (λ w a hl=>Tree.parts (x:=(⟨[]⟩:Tree)) yF))<|.nil);refine j.eW 8 4 eO.id (tp Z) [] [] λ j=>?_;refine j.zh 1 [(8,4)] (λ j=>Kb ?_);cases h;exact j.y2
 refine Ka<|j.zh 1 [(8,4)] λ j=>?_;refine kB h λ b6 b7 h=>j.cN (l:=[.tmp 24]) 0 (.cons T .nil) (Jh b7) [1,2,3] [8] λ j=>?_;have j:=j.gn;refine j.gZ (ow:=(fV (Ow.row 45 (Ow.eE (α:=File))))) 5 (fV.z Ow.gB) [1,2,3] [8,25] λ b8 _ _ _ j=>?_;have j:=j.gn;refine j.iS (sb:=10) (tv:=25) 5 0 Pb (zt Z) [1,2,3] [8] λ j=>?_;have j:=j.gn;refine Kb<|Ka<|kB h λ b9 b5 h=>j.fL 10 5 (Pb.eD fV.f0) [8] λ c8 d5 _ a8 j=>?_;refine j.zh 6 [(8,4),(10,5)] (λ j=>?_) (hs:=sc Z (eV Z qI U)<|sc Z (fS (sb:=10) (.head _) Z Z Z T Z)<|sZ 2 (r:=by exact sc Z (gJ (g:=c8) Z rk T T Z (λ h=>a8 h Z) b5)<|eI));refine j.gX 10 5 (((Pb.eD fV.f0).row (.head _) Z (λ h=>a8 h Z) b5).eD File.z4) (tp Z) (tp Z) [1,3] [8] (λ j=>Kb ?_);refine j.fL 10 5 (Pb.eD fV.f0) [8] λ d6 d1 d2 a9 j=>?_;refine j.held (λ w=>w.cell? ⟨b8,0,none⟩=some (.slice d1 ((b6.files.set x1.toNat {b9 with stamp:=x2}).length) d2)) zP λ _ j=>?_;refine j.tk (i:=0) Z Z (by decide +kernel) (by decide +kernel) (by decide +kernel) (λ _ _ _ h=>h) (j.kD (sb:=10) (.head _)) (mo Z qI (j.st.has 10 _ Z).1) λ _ j=>?_;refine j.tk (i:=1) Z Z (by decide +kernel) (by decide +kernel) (by decide +kernel) (λ _ _ _ h=>h) (j.kD (sb:=10) (.head _)) (pC Z BP (j.st.has 32 _ Z) (λ _ h=>h)) λ _ j=>?_;refine j.tM 2 1 (j.kD (sb:=10) (.head _)) λ _ j=>?_;refine j.tM 3 3 (j.kD (sb:=10) (.head _)) λ _ j=>?_;refine j.tZ (s:=33) (sb:=10) 5 2 (Pb.eD fV.f0) (.head _) Z (zR Z Z) Z Z (by simp) (by simp) (by decide) Z (λ _ h=>h) [1,3,32,34,35] Z [8] Z Z Z Z (by decide) λ _ H39 j=>?_;refine kB h λ d7 d3 h=>fp 4 ?_;refine j.cN (l:=[.tmp 35]) 3 (.cons T .nil) (qt d3).n [34] [8,10,33] λ j=>?_;have j:=j.gn;refine fC (j.ir (sb:=10)) ?_;refine fp 5 ?_;refine j.zh 1 [(8,4),(10,5),(33,2),(36,3)] (λ j=>?_) (hs:=sc Z (kk Z rk Z T (λ h=>a9 h Z) (xu b5))<|.nil);refine fC (j.ir (sb:=10)) ?_;refine fp 6 ?_;refine j.zh 1 [(8,4),(10,5),(33,2),(36,3)] λ j=>?_;refine fC (j.ir (sb:=10)) ?_;refine fp 7 ?_;have j:=j.Au (s:=36) 3 Z (λ _ h=>h) [38] Z [8,10,33] Z Z;refine j.gX 33 2 (((PV.root.row Z (λ h=>a9 h Z) (xu b5)).conv (upd':=λ z=>(b6.files.set x1.toNat z)) (λ _=>by simp only[bj])).eD File.z5) (tp Z) (tp Z) [] [8,10] λ j=>?_;have j:=j.gn;refine fC (j.ir (sb:=10)) ?_;refine kG ?_;refine j.pb (s:=33) (sb:=10) 5 2 Z (by simp) (by simp) (by decide) Z Z (λ _ h=>h) (λ _ h=>h) [] Z [8] Z Z Z λ _ j=>?_;have j:=j.gn;refine kB h λ e0 d4 h=>j.mF (s:=10) 5 true (λ _=>Pb) [8] λ cs61 hS61 j=>?_;refine j.zo [(8,4),(10,5)] (λ j=>?_) (hs:=sc Z (nK (sb:=10) (.head _) Z (hS61 Z) Z U Z)<|sc Z (yC (l:=[.tmp 39]) j.ob.sub Z (.cons (mw (sb:=10) j.ob 5 Pb (.head _) Z (QG Z (hS61 Z)) T Z) .nil) (jl.1 d4) jh)<|eI);have j:=j.gS (s:=10) 5 [8];refine j.cq h (λ h=>?_) λ h=>?_
 .refine Ka ?_
  refine j.zh 1 [(8,4)] (λ j=>?_) (hs:=sc Z (yf (parts:=[]) (ns:=[1]) (zs:=Qz) Z Z (λ w a hl=>by simp) (λ w a hl=>Tree.parts (x:=(⟨[]⟩:Tree)) yF))<|.nil);refine j.eW 8 4 eO.id (tp Z) [] [] λ j=>?_;refine j.zh 1 [(8,4)] (λ j=>Kb ?_);cases h;exact j.y2
 have j:=j.fv (s:=10) 5 [8];have j:=j.nq (s:=10) 5 [41] [8];refine Ka<|j.zh 1 [(8,4)] λ j=>?_;refine j.eW 8 4 eO.id (tp Z) [] [] λ j=>?_;refine j.zh 1 [(8,4)] (λ j=>Kb ?_);cases h;exact j.y2⟩
def YQ(x0:eK)(x1:GAct)(x2:Int):Option (eK×Bool):=
 ite (ez .eql x1.kind 0) ((i64 (x0.clock+x2)).bind λ b7=>
(Xj x0 {x1.file with stamp:=b7} x2).bind λ a9=>
 some (a9.1,a9.2))<|ite (ez .eql x1.kind 1) ((Zn x0 x1.index x2).bind λ b3=>
 some (b3.1,b3.2))<|(i64 (x0.clock+x2)).bind λ b8=>
(YC x0.tree x1.index b8 x1.file.body).bind λ a8=>
(i64 (x0.clock+x2)).bind λ b5=>
(Z7 x0.dirs).bind λ b6=>
(gO ((!a8.2) == false) (ww ⟨a8.1,b5,b6⟩)).bind λ b9=>
 ite (((!a8.2)||(!b9))=true) (some (⟨jz,0,[]⟩,false))<|some (⟨a8.1,b5,b6⟩,true)
instance Iw:ky prog 80 dt dt dt (λ r=>fZ [dt r.1,dt r.2]) YQ:=⟨@λ x0 x1 x2 r h=>by
 refine fe 4 func80 λ M w0 _ j=>?_;refine Ka<|j.zg 2 λ j=>?_;refine j.fB 0 jc [2,3,4] [] λ b3 j=>?_;have j:=j.gn;refine j.zh 1 [(6,0)] (λ j=>Kb ?_);refine j.zo [(6,0)] λ j=>?_;refine j.zd [(6,0)] h (λ j h=>?_) λ j h=>?_
 .refine Ka ?_
  refine j.zh 2 [(6,0)] λ j=>?_;refine j.fB 1 JU [2,3,17] [6] λ d3 j=>?_;have j:=j.gn;refine j.eW 8 1 eO.id (tp Z) [2,3] [6] (λ j=>Kb ?_);refine Ka<|kB h λ d4 d5 h=>j.zh 5 [(6,0),(8,1),(22,1)] λ j=>?_;refine j.eW 8 1 File.sk (tp Z) [2,3] [6] (λ j=>Kb ?_);refine Ka<|kB h λ d6 d7 h=>j.zh 6 [(6,0)] λ j=>?_;refine j.eW 6 0 eO.id (tp Z) [28] [] λ j=>?_;refine j.zh 1 [(6,0)] (λ j=>Kb ?_);cases h;exact j.y2
 refine j.zd [(6,0)] h (λ j h=>?_) λ j h=>?_
 .refine Ka ?_
  refine kB h λ e0 e3 h=>j.zh 7 [(6,0)] λ j=>?_;refine j.eW 6 0 eO.id (tp Z) [37] [] λ j=>?_;refine j.zh 1 [(6,0)] (λ j=>Kb ?_);cases h;exact j.y2
 refine Ka<|Kx h λ e4 e5 a8 e6 h=>j.zh 15 [(6,0)] λ j=>?_;refine j.fB 2 xN [2,3,51,52] [6] λ e7 j=>?_;have j:=j.gn;refine j.eW 9 2 eO.id (tp Z) [2,3,52] [6] λ j=>?_;have j:=j.Av 2 (s:=9) [2,3,52] [6];have j:=j.gn;refine j.zh 1 [(6,0)] (λ j=>Kb ?_);refine j.rX zP λ a9 _ hz49 j=>?_;refine j.me (i:=0) (j.fg (g:=71)) hz49 (tp Z) λ j=>?_;refine j.pV (i:=1) (j.fg (g:=71)) eK.gA oO (tp Z) (next:=@λ a51 j=>?_);refine j.me (i:=2) (j.fg (g:=71)) hz49 (tp Z) λ j=>?_;refine j.tM 3 2 (j.fg (g:=71)) λ _ j=>?_;refine kB h λ b5 b8 h=>j.AJ (op:=.add) (i:=4) (j.fg (g:=71)) (tp Z) (tp Z) b8 (next:=@λ a55 j=>?_);refine j.pV (i:=5) (j.fg (g:=71)) eK.iv WG (tp Z) (next:=@λ a57 j=>?_);refine j.me (i:=6) (j.fg (g:=71)) hz49 (tp Z) λ j=>?_;refine kB h λ b6 b7 h=>yP 1 1023 (λ a w=>∃ M1 Q R,Sx (eG.of w0) 71 M M1 [eA Q,eA none,eA none,eA R] [(10,dt a8.2),(61,dt (⟨a8.1,b5,b6⟩:eK)),(71,gx a9)] [(6,0,eY Q 0 xc),(11,3,eY R 0 xc)] a w) ?_ λ n84=>?_
 .rintro _ _ ⟨_,Q,R,j⟩
  refine fp 10 ?_;refine j.eW 11 3 eO.id (tp Z) [10,71] [6] λ j=>?_;refine fC (j.fg (g:=71)) ?_;refine kG ?_;refine kB h λ e8 b9 h=>j.zd [(6,0),(11,3)] h (λ j h=>?_) (λ j h=>?_) (hs:=sZ 4 (r:=by exact sg Z Z (λ hg=>oK (Jf.1 (gh hg b9)))<|eI))
  .refine Ka ?_
   refine j.zh 1 [(6,0)] (λ j=>?_) (hs:=sc Z (yf (parts:=[]) (ns:=[1,1,1]) (zs:=ZU) Z Z (λ w a hl=>by simp) (λ w a hl=>eK.parts (x:=(⟨jz,0,[]⟩:eK)) (xN _ _) ⟨Z,trivial⟩ yF))<|.nil);refine j.eW 6 0 eO.id (tp Z) [] [] λ j=>?_;refine j.zh 1 [(6,0)] (λ j=>Kb ?_);cases h;exact j.y2
  refine Ka<|j.zh 1 [(6,0)] λ j=>?_;refine j.eW 6 0 eO.id (tp Z) [] [] λ j=>?_;refine j.zh 1 [(6,0)] (λ j=>Kb ?_);cases h;exact j.y2
 refine yP 2 511 (λ a w=>∃ M1 Q,Sx (eG.of w0) 71 M M1 [eA Q,eA none,eA none,eA none] [(10,dt a8.2),(61,dt (⟨a8.1,b5,b6⟩:eK)),(71,gx a9)] [(6,0,eY Q 0 xc)] a w) ?_ λ n75=>?_
 .rintro _ _ ⟨_,Q,j⟩
  refine fp 9 ?_;refine j.fB 3 jc [10,61,71] [6] λ c8 j=>?_;have j:=j.gn;exact fQ n84 (j.fg (g:=71))
 refine yP 2 767 (λ a w=>∃ M1 Q R,Sx (eG.of w0) 71 M M1 [eA Q,eA none,eA none,eA R] [(10,dt a8.2),(53,dt a8.1),(57,dt b5),(60,dt b6),(71,gx a9)] [(6,0,eY Q 0 xc),(11,3,eY R 0 xc)] a w) ?_ λ n79=>?_
 .rintro _ _ ⟨_,Q,R,j⟩
  refine fp 8 ?_;refine j.zh 1 [(6,0),(11,3)] (λ j=>?_) (hs:=sc Z (vG Z T T T)<|.nil);exact fQ n84 (j.fg (g:=71))
 refine yP 3 255 (λ a w=>∃ M1 Q,Sx (eG.of w0) 71 M M1 [eA Q,eA none,eA none,eA none] [(10,dt a8.2),(53,dt a8.1),(57,dt b5),(60,dt b6),(71,gx a9)] [(6,0,eY Q 0 xc)] a w) ?_ λ n69=>?_
 .rintro _ _ ⟨_,Q,j⟩
  refine iU 8 9 ?_ ?_
  .refine j.zh 1 [(6,0)] (λ j=>?_) (hs:=sc Z (vG Z T T T)<|.nil)
   exact fQ n75 (j.fg (g:=71))
  .refine j.fB 3 jc [10,53,57,60,71] [6] λ d1 j=>?_
   have j:=j.gn;exact fQ n79 (j.fg (g:=71))
 refine yP 3 639 (λ a w=>∃ M1 Q R,Sx (eG.of w0) 71 M M1 [eA Q,eA none,eA none,eA R] [(10,dt a8.2),(53,dt a8.1),(57,dt b5),(59,dt x0.dirs),(71,gx a9)] [(6,0,eY Q 0 xc),(11,3,eY R 0 xc)] a w) ?_ λ n73=>?_
 .rintro _ _ ⟨_,Q,R,j⟩
  refine fp 7 ?_;refine j.zh 1 [(6,0),(11,3)] (λ j=>?_) (hs:=sc Z (oK (iF.fn<|Xz b7))<|.nil);exact fQ n79 (j.fg (g:=71))
 refine iU 7 9 ?_ ?_
 .refine j.zh 1 [(6,0)] (λ j=>?_) (hs:=sc Z (oK (iF.fn<|Xz b7))<|.nil)
  exact fQ n69 (j.fg (g:=71))
 .refine j.fB 3 jc [10,53,57,59,71] [6] λ d2 j=>?_
  have j:=j.gn;exact fQ n73 (j.fg (g:=71))⟩
theorem BN:lM prog 23 3 1=true:=by kernel_rfl
theorem PF:gb prog 69=true:=by kernel_rfl
instance VU:fT prog 103 2 2:=⟨uR⟩
instance VV:fT prog 103 3 3:=⟨BA⟩
def Jx(R:Rec)(x0:eK)(x1:Str)(x2:List Int)(x3:Bx fj)(x4:List eU)(x5:Int):Option (((Bx fj)×(List eU))×(List Int)):=
(Y4 x0.tree x2 120).bind λ v4=>
(R.impl_machine_load1 ({ v4 with known:=(⟨some (⟨x0⟩,x3)⟩:iP),load:=(⟨some (⟨x5⟩,x4)⟩:lA) }) x1).bind λ a8=>
(fE 8 [a8.2.2] a8.1.out).bind λ a9=>
(a8.1.known.o).bind λ b3=>
(a8.1.load.o).bind λ b5=>
 some ((b3.2,b5.2),a9)
abbrev rr(b c:Nat):Ow (lq):=Ow.rw 69 b c gN vf
theorem Ot(hR:R.ok){x0 x1 x2 x3 r}(h:Jx R x0 x1 x2 x3 x4 x5=some r):kF prog (rr bk bl) (⟨x2,x3,x4,x5⟩:lq) [dt x0,dt x1] ⟨x2,r.1.1,r.1.2,x5⟩ (.ow iV r.2):=by
 unfold Jx at h;refine N3 (fn:=f69) 1 2 7 func69 Z (oD Z) PF Z Z λ M G G1 _ _ _ j=>?_;refine j.kL (sP 1 (r:=by exact sc Z (oA Z (wg (α:=Int)))<|.nil)) [1,2,5,6] [(3,1),(4,2)] (λ j=>Kc ?_);refine Ka<|j.segA 3 [1,5,6,13,14] [(3,1),(4,2)] λ j=>?_;refine kB h λ v4 p4 h=>j.cN (l:=[.tmp 13,.tmp 14,.const (.int .i64 120)]) 6 (.cons T (.cons T (.cons cI .nil))) (Uu (bk:=bk) (bl:=bl) p4) [1,5,6] [3,4] λ j=>?_;have j:=j.gn;refine j.ie (s:=15) 6 [3,4] λ b7 j=>?_;refine j.segA 1 [1,5,6] [(3,1),(4,2),(9,6)] (λ j=>Kb ?_);refine za<|Kc<|Ka<|j.segA 1 [1,5,6] [(3,1),(4,2),(9,6),(16,6)] λ j=>?_;refine j.tX (z:=.nilFunc) (so:=3) (l:=[.tmp 6]) (y:=(⟨x0⟩:C1 eK)) 1 (.cons T .nil) [1,5] [4,9,16] λ _ j=>?_;refine j.fN 2 (sc Z (ry Z Z)<|sc Z (eV Z uR U)<|.nil) [1,3,5,19] [(4,2),(9,6),(17,1)] λ j=>?_;refine j.iS (sb:=9) (tv:=17) 6 1 (Pb.eD eS.f2) (tp Z) [1,3,5] [4] λ j=>?_;have j:=j.gn;refine Kb<|za<|Kc<|Ka<|j.segA 1 [1,3,5] [(4,2),(9,6),(20,6)] λ j=>?_;refine j.tX (z:=(.func (.func 81) #[] #[])) (so:=4) (l:=[.tmp 5]) (y:=(⟨x5⟩:C1 Int)) 2 (.cons T .nil) [1,3] [9,20] λ _ j=>?_;refine j.fN 2 (sc Z (ry Z Z)<|sc Z (eV Z BA U)<|.nil) [1,3,4,23] [(9,6),(21,2)] λ j=>?_;refine j.iS (sb:=9) (tv:=21) 6 2 (Pb.eD eS.f3) (tp Z) [1,3,4] [] λ j=>?_;have j:=j.gn;refine Kb<|za<|Kc<|Ka<|j.segA 2 [3,4,26] [(9,6),(25,6)] λ j=>?_;refine kB h λ a8 a9 h=>j.kV (l:=[.tmp 26]) 6 (j.lr (s:=9)) Z Z PE ((j.st.has 25 _ Z).1.trans (j.st.has 9 _ Z).1.symm) (by simp) (.cons T .nil) (hR.impl_machine_load1 a9) [3,4] Z [] Z Z (by decide) @λ b3 _ _ _ j=>?_;have j:=j.gn;refine j.segA 5 [3,4,11] [(9,6)] (λ j=>Kb ?_);refine za<|Kc<|Ka<|j.segA 1 [3,4,30] [(9,6)] λ j=>?_;refine j.lO (oe:=(Ow.eE (α:=Int))) (opds:=[.tmp 30]) (xs:=[a8.2.2]) 3 [] BN uZ (Z2 (oe:=(Ow.eE (α:=Int))) (G1:=noB) (Wn (j.st.has 30 _ Z)) (λ _ h=>h.elim)) (λ q hq=>by
 simp only[aj,aF,bI] at hq
 subst hq
 exact ey.len (Wn (j.st.has 30 _ Z))) [3,4] [9] (@λ b5 _ _ _ j=>?_)
 have j:=j.gs (Gs':=[eA none,eA none,eA none,b5,eA none,eA none,b3]);refine j.oZ (s:=9) 6 true (λ _=>(Pb.eD eS.f5)) [31] λ d1 d2 _ b6 j=>?_;refine j.fN 4 (sc Z (oM Z T)<|
  sc Z (ry Z Z)<|
  sc Z (eV Z BB U)<|
  sc Z (fS (sb:=9) (.head _) Z Z Z T Z)<|.nil) [3,4,35] [(9,6),(31,3)] (λ j=>?_)
 refine j.kx (s:=31) 3 (by first | (simp;done) | exact oD rfl) [9] λ d3 j=>?_;refine kB h λ d4 b8 h=>j.DH 3 Z Z uQ Z Z (j.D2 (sb:=9) (Pb.eD eS.f5) (.head _) Z (zR Z Z) Z Z) b8 [3,4] Z [9] Z Z λ d5 _ _ _ j=>?_;have j:=j.gn;refine j.segA 1 [3,4] [(8,3),(9,6)] (λ j=>Kb ?_);have j:=j.gS (s:=9) 6 [8];refine za<|wp_ret ?_;have j:=j.iO (s:=8) 3 [9];refine Kx h λ d6 b9 d7 c8 h=>j.D0 (s:=9) (sb:=3) (sc:=4) 6 2 Z Z Z (λ hm=>Rn b9 c8 hm) [] Z [8] Z Z Z Z λ _ H44 j=>?_;exact j.LS (t:=8) (s1:=3) (s2:=4) 6 2 3 Z Z Z Z (λ _ h=>h) (λ _ h=>h) (λ _ h=>h) (by decide) (by decide) (by decide) h
def sC(R:Rec)(x:lq)(d:eK)(s:Str):Option (lq×List Int):=(Jx R d s x.c x.a x.b x.d).bind λ r=>some (⟨x.c,r.1.1,r.1.2,x.d⟩,r.2)
theorem Nb(hR:R.ok){r}(h:sC R x d s=some r):kF prog (rr bk bl) x [dt d,dt s] r.1 (.ow iV r.2):=by
 unfold sC at h;obtain⟨r1,h1,h2⟩:=cb.1 h;injection h2 with h2
 subst h2;exact Ot hR h1
theorem OS:∀ {M:Nat->Prop} {look:Nat->Option Dt} {o:Oper} {q0:Operand} {y0:List File},o.op=.build 65 #[(0,q0)]->eC M look q0 (dt y0)->eP prog M look o (dt (⟨y0⟩:Tree)):=@λ _ _ _ q0 y0 ho h0=>yf (parts:=[(0,q0)]) (ns:=[1]) (zs:=Qz) Z ho (λ w a hl=>FA ⟨(by decide:0<1),ey.len (α:=List File) (eC.cells h0 hl)⟩ FN) (λ w a hl=>Tree.parts (x:=(⟨y0⟩:Tree)) (eC.cells h0 hl))
theorem PK:gV prog 33 1=true:=by kernel_rfl
theorem BO:lM prog 33 23 1=true:=by kernel_rfl
theorem BR:mC prog 33=true:=by kernel_rfl
def qy(R:Rec)(x0:List GAct)(x1:Int)(a8:(lq)×eK×(List (List Int))×Int):Option (((lq)×eK×(List (List Int))×Int)⊕((lq)×eK×(List (List Int)))):=
 ite ((ez .lss a8.2.2.2 x0.length)=true) (Option.bind ((eN x0 a8.2.2.2).bind λ a9=>
 ite (ez .eql a9.kind 3) ((sC R a8.1 a8.2.1 a9.name).bind λ b5=>
(fE 24 a8.2.2.1 [b5.2]).bind λ b7=>
 some (b5.1,a8.2.1,b7))<|(YQ a8.2.1 a9 x1).bind λ b6=>
 ite (b6.2=true) ((fE 24 a8.2.2.1 [[1]]).bind λ b8=>
 some (a8.1,b6.1,b8))<|(fE 24 a8.2.2.1 [[0]]).bind λ b9=>
 some (a8.1,a8.2.1,b9)) λ b3=>
(i64 (a8.2.2.2+1)).bind λ c8=>
 some (.inl (b3.1,b3.2.1,b3.2.2,c8)))<|some (.inr (a8.1,a8.2.1,a8.2.2.1))
def XX(R:Rec)(x0:List GAct)(x1:Int)(x2:lq):Option ((lq)×eK×(List (List Int))):=
 Option.bind (zE (λ a9=>qy R x0 x1 a9) (x2,(⟨(⟨[]⟩:Tree),0,[]⟩:eK),[],0)) λ a8=>
 some (a8.1,a8.2.1,a8.2.2)
theorem Oq(hR:R.ok){x2}(h:XX R x0 x1 x2=some r):lP 2 prog 50 (rr bk bl) x2 [dt x0,dt x1] r.1 (.t2 (dt r.2.1) (Ow.row 23 iV) r.2.2):=by
 unfold XX at h;refine E9 (fn:=f50) 2 2 13 func50 Z Z Z (λ M G w0 u0 _ j=>Kc ?_);refine Ka<|j.fB 9 jc [0,1] [2] λ b2 j=>?_;have j:=j.gn;refine j.fN 1 (sc Z (oA Z (wg (α:=List Int)))<|.nil) [0,1] [(2,2),(6,9)] (λ j=>Kb ?_);refine za<|Kc<|Ka<|j.fN 4 (sc Z (wa (opds:=[]) (α:=File) Z Z Z .nil)<|sc Z (OS Z T)<|sc Z (wa (opds:=[]) (α:=eT) Z Z Z .nil)<|sc Z (vG Z T cI T)<|.nil) [0,1,17] [(2,2),(6,9)] λ j=>?_;refine j.fB 10 jc [0,1,17] [2,6] λ b7 j=>?_;have j:=j.gn;refine j.eW 8 10 eO.id (tp Z) [0,1] [2,6] (λ j=>Kb ?_);refine za<|j.kL (sc Z (xj (α:=List Int) (e:=23) Z)<|lF) [0,1] [(2,2),(6,9),(8,10),(9,0)] λ j=>?_;have⟨b5,d1,d2⟩:=bs h;refine Yo (λ a w=>∃ M1 Q W X Y A B C D E F H I J,Sx (eG.ft w0 G) 56 M M1 [Q,eA W,X,Y,A,B,C,D,E,eA F,eA H,eA I,eA J] [] [(6,9,eY F 0 xc),(8,10,eY H 0 b5.2.1),(2,2,eJ (rr bk bl) X b5.1 u0 []),(9,0,eH (Ow.row 23 iV) Q b5.2.2)] a w) ?_ ?_
 .have j:=j.AI (s:=9) (e':=23) (oy:=iV) 0 [2,6,8]
  refine j.iR [1,19,20,21] [(2,2),(6,9),(8,10),(9,0)] (λ j=>aX ?_);refine Qw d1 (λ a8 a w=>∃ M1 Q W X Y A B C D E F H I J,Sx (eG.ft w0 G) 56 M M1 [Q,eA W,X,Y,A,B,C,D,E,eA F,eA H,eA I,eA J] [(1,dt x1),(19,dt x0),(20,dt (x0.length:Int)),(21,dt a8.2.2.2)] [(6,9,eY F 0 xc),(8,10,eY H 0 a8.2.1),(2,2,eJ (rr bk bl) X a8.1 u0 []),(9,0,eH (Ow.row 23 iV) Q a8.2.2.1)] a w) fx ?_;rintro a8 d3 _ _ ⟨_,Q,W,X,Y,A,B,C,D,E,F,H,I,J,j⟩ h b8;refine j.iR [1,19,20,21,22] [(2,2),(6,9),(8,10),(9,0)] (λ j=>Kc ?_);refine j.cs h (λ _ h=>?_) λ _ h=>?_
  .refine az ?_
   refine za ?_;have⟨b9,d4,d5⟩:=bs h;refine Yo (λ a w=>∃ M1 Q W X Y A B C D E F H I J,Sx (eG.ft w0 G) 56 M M1 [Q,eA W,X,Y,A,B,C,D,E,eA F,eA H,eA I,eA J] [(1,dt x1),(19,dt x0),(20,dt (x0.length:Int)),(21,dt a8.2.2.2)] [(6,9,eY F 0 xc),(8,10,eY H 0 b9.2.1),(2,2,eJ (rr bk bl) X b9.1 u0 []),(9,0,eH (Ow.row 23 iV) Q b9.2.2)] a w) ?_ ?_
   .refine aX ?_
    refine Kc<|Ka ?_;have⟨g8,g9,h⟩:=bs d4;refine j.segA 2 [1,19,20,21,24] [(2,2),(6,9),(8,10),(9,0)] λ j=>?_;refine j.fB 11 DF [1,19,20,21,24] [2,6,8,9] λ a9 j=>?_;have j:=j.gn;refine j.eW 11 11 eO.id (tp Z) [1,19,20,21] [2,6,8,9] (λ j=>Kb ?_);refine za<|Kc<|j.LZ [1,19,20,21,27] [(2,2),(6,9),(8,10),(9,0),(11,11)] λ _ _ j=>?_;refine j.cs h (λ _ h=>?_) λ _ h=>?_
    .refine Kc ?_
     refine Ka<|j.iQ (s:=9) 0 [2,6,8,11] λ h0 h1 _ d6 j=>?_;refine j.fN 5 (sc Z (oM Z T)<|
       sc Z (oM Z U)<|
       sc Z (yV Z T)<|
       sc Z (jH GAct.iM Z T)<|
       sc Z (yV Z T)<|.nil) [1,19,20,21,29,30,32] [(2,2),(6,9),(8,10),(9,0),(28,0)] (λ j=>?_)
     refine kB h λ d7 e0 h=>j.La (l:=[.tmp 30,.tmp 32]) 2 3 (j.lr (s:=2)) Z Z Z ((j.st.has 29 _ Z).trans (j.st.has 2 _ Z).1.symm) (by simp) (by simp) (by decide) (.cons T (.cons T .nil)) (Nb hR e0) [1,19,20,21] Z [6,8,9,28] Z Z Z Z (by decide) λ c8 H34 _ _ _ j=>?_;have j:=j.gs (Gs':=[Q,eA W,c8,H34,A,B,C,D,E,eA F,eA H,eA (some a9),eA J]);refine j.lO (oe:=iV) (opds:=[.tmp 33]) (xs:=[d7.2]) 4 [3] BO BR (Z2 (yy (j.st.has 33 _ Z)) (λ b hb=>⟨3,by simp,hb⟩)) (λ q hq=>by
 simp only[aj,aF,bI] at hq
 subst hq
 exact Ow.len _ (yy (j.st.has 33 _ Z))) [1,19,20,21] [2,6,8,9,28] (@λ e3 _ _ _ j=>?_)
     have j:=j.gs (Gs':=[Q,eA W,c8,eA none,e3,B,C,D,E,eA F,eA H,eA (some a9),eA J]);have j:=j.fv (s:=28) 0 [2,6,8,34];refine kB h λ h2 e4 h=>j.oW 0 4 e4 [1,19,20,21] [2,6,8] λ j=>?_;have j:=j.gn;refine j.iQ (s:=35) 0 [2,6,8] λ h3 h4 _ e5 j=>?_;refine j.segA 1 [1,19,20,21] [(2,2),(6,9),(8,10),(9,0)] (λ j=>Kb ?_);refine za<|ch (yv (xX ?_));have j:=j.fv (s:=9) 0 [2,6,8];refine za ?_;cases h;exact fx
    refine az ?_;refine za<|Kc<|Ka ?_;obtain⟨h5,h6,h⟩:=mh h Iw.1;refine j.segC 7 [1,19,20,21,41,42] [(2,2),(6,9),(8,10),(9,0)] λ j=>?_;refine j.fB 12 jc [1,19,20,21,41,42] [2,6,8,9] λ b3 j=>?_;have j:=j.gn;refine j.eW 12 12 eO.id (tp Z) [1,19,20,21,42] [2,6,8,9] λ j=>?_;refine j.segA 1 [1,13,19,20,21] [(2,2),(6,9),(8,10),(9,0),(12,12)] (λ j=>Kb ?_);refine za<|j.iR [1,19,20,21,43] [(2,2),(6,9),(8,10),(9,0),(12,12)] λ j=>?_;refine j.cs h (λ _ h=>?_) λ _ h=>?_
    .refine Kc ?_
     refine Ka<|j.segC 1 [1,19,20,21,44] [(2,2),(6,9),(8,10),(9,0)] λ j=>?_;refine j.eW 8 10 eO.id (tp Z) [1,19,20,21] [2,6,9] (λ j=>Kb ?_);refine za<|Ka<|j.iQ (s:=9) 0 [2,6,8] λ h7 h8 _ e6 j=>?_;refine j.segA 1 [1,19,20,21] [(2,2),(6,9),(8,10),(9,0),(45,0)] λ j=>?_;refine j.lO (oe:=(Ow.eE (α:=Int))) (opds:=[.const (.int .i64 1)]) (xs:=[(1:Int)]) 5 [] BN uZ (Z2 (oe:=(Ow.eE (α:=Int))) (G1:=noB) (eC.cells cI (λ s y hs=>j.st.has s y hs)) (λ _ h=>h.elim)) (λ q hq=>by
 simp only[aj,aF,bI] at hq
 subst hq
 exact ey.len (eC.cells cI (λ s y hs=>j.st.has s y hs))) [1,19,20,21] [2,6,8,9,45] (@λ e7 _ _ _ j=>?_)
     have j:=j.gs (Gs':=[Q,eA W,X,Y,A,e7,C,D,E,eA F,eA H,eA (some a9),eA (some b3)]);refine j.lO (oe:=iV) (opds:=[.tmp 46]) (xs:=[[(1:Int)]]) 6 [5] BO BR (Z2 (yy (j.st.has 46 _ Z)) (λ b hb=>⟨5,by simp,hb⟩)) (λ q hq=>by
 simp only[aj,aF,bI] at hq
 subst hq
 exact Ow.len _ (yy (j.st.has 46 _ Z))) [1,19,20,21] [2,6,8,9,45] (@λ e8 _ _ _ j=>?_)
     have j:=j.gs (Gs':=[Q,eA W,X,Y,A,eA none,e8,D,E,eA F,eA H,eA (some a9),eA (some b3)]);have j:=j.fv (s:=45) 0 [2,6,8,47];refine kB h λ h9 e9 h=>j.oW 0 6 e9 [1,19,20,21] [2,6,8] λ j=>?_;have j:=j.gn;refine j.iQ (s:=48) 0 [2,6,8] λ i0 i3 _ f9 j=>?_;refine j.segA 1 [1,19,20,21] [(2,2),(6,9),(8,10),(9,0)] (λ j=>Kb ?_);refine yI ?_;have j:=j.fv (s:=9) 0 [2,6,8];refine za ?_;cases h;exact fx
    refine Ka<|j.iQ (s:=9) 0 [2,6,8,12] λ i4 i5 _ g0 j=>?_;refine j.segA 1 [1,19,20,21] [(2,2),(6,9),(8,10),(9,0),(49,0)] λ j=>?_;refine j.lO (oe:=(Ow.eE (α:=Int))) (opds:=[.const (.int .i64 0)]) (xs:=[(0:Int)]) 7 [] BN uZ (Z2 (oe:=(Ow.eE (α:=Int))) (G1:=noB) (eC.cells cI (λ s y hs=>j.st.has s y hs)) (λ _ h=>h.elim)) (λ q hq=>by
 simp only[aj,aF,bI] at hq
 subst hq
 exact ey.len (eC.cells cI (λ s y hs=>j.st.has s y hs))) [1,19,20,21] [2,6,8,9,49] (@λ g3 _ _ _ j=>?_)
    have j:=j.gs (Gs':=[Q,eA W,X,Y,A,B,C,g3,E,eA F,eA H,eA (some a9),eA (some b3)]);refine j.lO (oe:=iV) (opds:=[.tmp 50]) (xs:=[[(0:Int)]]) 8 [7] BO BR (Z2 (yy (j.st.has 50 _ Z)) (λ b hb=>⟨7,by simp,hb⟩)) (λ q hq=>by
 simp only[aj,aF,bI] at hq
 subst hq
 exact Ow.len _ (yy (j.st.has 50 _ Z))) [1,19,20,21] [2,6,8,9,49] (@λ g4 _ _ _ j=>?_)
    have j:=j.gs (Gs':=[Q,eA W,X,Y,A,B,C,eA none,g4,eA F,eA H,eA (some a9),eA (some b3)]);have j:=j.fv (s:=49) 0 [2,6,8,51];refine kB h λ i6 g5 h=>j.oW 0 8 g5 [1,19,20,21] [2,6,8] λ j=>?_;have j:=j.gn;refine j.iQ (s:=52) 0 [2,6,8] λ i7 i8 _ g6 j=>?_;refine j.segA 1 [1,19,20,21] [(2,2),(6,9),(8,10),(9,0)] (λ j=>Kb ?_);refine yI ?_;have j:=j.fv (s:=9) 0 [2,6,8];refine za ?_;cases h;exact fx
   rintro _ _ ⟨_,Q,W,X,Y,A,B,C,D,E,F,H,I,J,j⟩;have h:=d5;refine kB h λ i9 j1 h=>j.lK [1,19,20,21] [(2,2),(6,9),(8,10),(9,0)] (λ j=>za ?_);exact fl h
  refine ch (yv (yv (xX ?_)));refine za ?_;cases lo h b8;exact fx
 rintro _ _ ⟨_,Q,W,X,Y,A,B,C,D,E,F,H,I,J,j⟩;have h:=d2;refine Kc<|Ka<|j.iQ (s:=9) 0 [2,6,8] λ j2 j3 _ g7 j=>?_;refine j.fN 2 (sc Z (yV Z T)<|
  sc Z (oM Z T)<|.nil) [54] [(2,2),(6,9),(55,0)] (λ j=>?_)
 refine j.store (sb:=6) 9 eO.id Z Z Z lU Z Z (tp Z) Z [] Z [2,55] Z Z λ _ _ j=>?_;refine j.seg 1 (
  sc Z (oA Z T)<|.nil) [] Z [(2,2),(6,9),(7,0)] Z ⟨λ _ h=>h,⟨λ _ h=>h,⟨λ _ h=>h,trivial⟩⟩⟩ (λ _ _ j=>?_)
 refine Kb<|za<|wp_ret ?_;have j:=j.fv (s:=7) 0 [2,6];exact j.LQ (s:=2) 2 0 Z lU Z Z Z (λ _ h=>h) (λ _ h=>h) h
theorem PD:gb prog 50=true:=by kernel_rfl
theorem pq:fM prog 72 true 3=true:=by kernel_rfl
theorem PB:gb prog 38=true:=by kernel_rfl
def CO(R:Rec)(x0:List GAct)(x1:List Int)(x2:Int)(x3:Int):Option ((List (List Int))×fj):=
(XX R x0 x2 (⟨x1,⟨(⟨[],0,0⟩:fj)⟩,[],x3⟩:lq)).bind λ a8=>
 some (a8.2.2,a8.1.a.x)
theorem Ou(hR:R.ok){x1 r}(h:CO R x0 x1 x2 x3=some r):iF prog 38 [dt x0,dt x1,dt x2,dt x3] (.lx (Ow.row 23 iV) r.1 (dt r.2)):=by
 refine mW (fn:=f38) 11 func38 Z Z (λ M _ _ j=>gj ?_);refine Ka<|j.zg 3 (λ j=>?_) (hs:=sZ 2 (r:=by exact sc Z (oA Z (wg (α:=List Int)))<|.nil));refine j.fB 7 DE [0,2,5,7] [] λ b3 j=>?_;have j:=j.gn;refine Kb<|Ka<|j.zh 1 [(9,7),(14,1)] (λ j=>?_) (hs:=sc Z (xj (α:=eT) (e:=166) Z)<|.nil);have j:=j.iO (s:=14) 1 (hG:=(λ _ h=>(by cases h))) [9];refine j.lN (ow:=ij) (parts:=[(0,.tmp 14)]) (ns:=[1,1,1]) (zs:=VO) (x:=(⟨[],0,0⟩:fj)) 2 [1] (FA ⟨by decide,Ow.len _ (yy (j.st.has 14 _ Z))⟩ FN) ((ij).more (gr.mk (x:=(⟨[],0,0⟩:fj)) (yy (j.st.has 14 _ Z)) ⟨Z,trivial⟩ ⟨Z,trivial⟩) (λ b=>(λ hb=>⟨1,by simp,hb⟩))) [0,2,5,7] [9] (@λ G6 _ _ j=>?_);have j:=j.gs (Gs':=[eA none,eA none,G6,eA none,eA none,eA none,eA none,eA (some b3),eA none,eA none,eA none]);have j:=j.gs (Gs':=[eA none,eA none,G6,eA none,eA none,eA none,eA none,eA (some b3),eA none,eA none,eA none]);refine j.nT 3 2 [0,2,5,7] [9] λ b7 _ _ _ _ j=>?_;have j:=j.gn;refine j.gZ (zs:=[.pointer none]) (ow:=(Ow.eE (α:=Np fj))) (d0:=(⟨none⟩:Np fj)) 8 (λ _ _=>Z) [0,2,5,7] [9,16] λ b8 _ _ _ j=>?_;have j:=j.gn;have j:=j.fv (s:=16) 3 [9,10];refine j.L6 (sb:=10) (tv:=16) 8 3 Z Z Z PN Z Z (λ _ h=>h) (λ _ h=>h) [0,2,5,7] Z [9] Z Z Z λ _ _ j=>?_;have j:=j.gn;refine Kb<|Ka<|j.zh 1 [(9,7),(10,8)] (λ j=>?_) (hs:=sc Z (wa (opds:=[]) (α:=eU) Z Z Z .nil)<|.nil);refine j.gZ (ow:=vf) 9 oU [0,2,5,7,17] [9,10] λ b9 _ _ _ j=>?_;have j:=j.gn;refine j.gX 11 9 Pb (zt Z) (tp Z) [0,2,5,7] [9,10] (λ j=>Kb ?_);refine Ka<|j.zh 2 [(9,7),(10,8),(11,9)] λ j=>?_;refine j.LC (sc:=5) (sa:=10) (sb:=11) (sd:=7) 8 9 Z Z Z Z Z Z (λ _ h=>h) (λ _ h=>h) [19,20] Z [9] Z Z Z Z Z λ _ _ j=>?_;have j:=j.gn;refine kB h λ c8 a8 h=>j.Lb (l:=[.tmp 19,.tmp 20]) 2 8 5 (j.K7 (s:=21) Z (λ _ h=>h)) Z Z Z PD Z (by simp) (by simp) (by decide) (.cons T (.cons T .nil)) (Oq hR a8) [10,11] Z [9] Z Z Z Z λ _ H26 _ _ _ j=>?_;have j:=j.gn;refine j.tY (s:=22) 5 [9,21] λ _ j=>?_;refine j.zh 1 [(9,7),(18,5),(21,8)] (λ j=>?_) (hs:=sc Z (Ua Z Z Z)<|.nil);refine j.Lk (s:=18) 5 Z Z Z Z (λ _ h=>h) Z [9,21] Z λ _ j=>?_;refine j.fB 10 jc [10,11,23] [9,21,24] λ a9 j=>?_;have j:=j.gn;refine j.eW 12 10 eO.id (tp Z) [10,11] [9,21,24] λ j=>?_;refine j.iQ (s:=24) 5 [9,12,21] λ d1 d2 _ b5 j=>?_;refine j.zh 1 [(9,7),(13,5),(21,8)] (λ j=>Kb ?_);refine j.se (s:=21) 8 [9,13] λ u40 j=>?_;refine j.D0 (s:=21) (sb:=10) (sc:=11) 8 9 Z Z Z (λ hm=>Ow.LV hm) [] Z [9,13] Z Z Z Z λ b6 H41 j=>?_;have j:=j.gs (Gs':=[eA none,eA none,eA none,eA none,eA none,H26,eA none,eA (some b3),b6,H41,eA (some a9)]);have j:=j.fv (s:=10) 8 [9,11,13];have j:=j.nq (s:=10) 8 [] [9,11,13];refine j.pre zP 5 5 λ _ j=>?_;refine j.nV (D:=[_,_,_,_,_]) 5 [] [[(13,nS)],[(10,nS)],[(26,1)],[(27,2)],[(25,0)]] (
  rc Z Z (oM Z T)<|
  rc Z Z (eP.bx (zG Z T))<|
  rc Z Z (sX Z T)<|
  rc Z Z (zG Z T)<|
  rc Z Z (oA Z T)<|.nil) (λ _ h=>by cases h) [10,28] [(8,5),(9,7),(11,9)] rfl ⟨λ _ h=>h,⟨λ _ h=>h,⟨λ _ h=>h,trivial⟩⟩⟩ (λ j=>?_)
 refine GG<|fp 5 ?_;refine j.eW 9 7 eO.id (tp Z) [10] [8,11] (λ j=>fC trivial ?_);refine kG ?_;have j:=j.fv (s:=8) 5 [9,11];exact j.LK 5 Z pq Z Z (λ _ h=>h) h
def Z9(R:Rec)(x0:List GAct)(x1:List Int)(x2:Int)(x3:Int):Option (List (List Int)):=
(Jw x0 x2).bind λ v2=>
(gO ((!v2) == false) (Z4 x1)).bind λ v3=>
(gO (((!v2)||(!v3)) == false) (ZA x3)).bind λ v4=>
 ite ((((!v2)||(!v3))||(!v4))=true) (some [])<|(CO R x0 x1 x2 x3).bind λ a8=>
 some a8.1
theorem HO(hR:R.ok){x1 r}(h:Z9 R x0 x1 x2 x3=some r):iF prog 17 [dt x0,dt x1,dt x2,dt x3] (.ow (Ow.row 23 iV) r):=by
 refine mW (fn:=f17) 3 func17 Z Z (λ M _ _ j=>gj ?_);refine j.uh (sc Z (oA Z (wg (α:=List Int)))<|.nil) [0,1,2,3] λ _ _ j=>?_;refine Kx h λ v2 p2 v3 p3 h=>kB h λ v4 p4 h=>j.uh (sZ 2 (r:=by exact sc Z (oK (Iv.1 p2))<|sZ 3 (r:=by exact sg Z Z (λ hg=>oK (HG.1 (gh hg p3)))<|sZ 4 (r:=by exact sg Z Z (λ hg=>oK (XT.1 (gh hg p4)))<|eI)))) [0,1,2,3,24] λ _ _ j=>?_;refine j.cq h (λ h=>?_) λ h=>?_
 .refine j.hU (sc Z (xj (α:=List Int) (e:=23) Z)<|eI) [] [(8,0)] λ j=>?_
  have j:=j.AI (s:=8) (e':=23) (oy:=iV) 0 [];exact j.pS 0 h
 refine Ka<|j.segA 4 [27,28,29,30] [] λ j=>?_;refine kB h λ b3 a8 h=>j.Ld (l:=[.tmp 27,.tmp 28,.tmp 29,.tmp 30]) 1 Z Z PB (.cons T (.cons T (.cons T (.cons T .nil)))) (Ou hR a8) [] Z [] Z Z λ _ _ _ _ j=>?_;refine j.tY (s:=31) 1 [] λ _ j=>?_;refine j.rV (s:=26) 1 [] λ _ j=>?_;refine j.fN 1 (sc Z (vA Z T)<|.nil) [33] [(32,1)] λ j=>?_;refine j.fB 2 DE [33] [32] λ b5 j=>?_;refine j.iQ (s:=32) 1 [10] λ b6 b7 _ a9 j=>?_;refine j.segA 1 [33] [(9,1),(10,2)] λ j=>?_;refine j.eW 10 2 eO.id (tp Z) [] [9] (λ j=>Kb ?_);refine j.lK [] [(8,1)] λ j=>?_;have j:=j.fv (s:=8) 1 [];exact j.pS 1 h
