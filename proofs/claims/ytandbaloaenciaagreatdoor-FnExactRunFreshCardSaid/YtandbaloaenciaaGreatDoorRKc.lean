import Derived.Test.YtandbaloaenciaaGreatDoorRH
import Derived.Test.YtandbaloaenciaaGreatDoorRB
import Derived.Test.YtandbaloaenciaaGreatDoorRO
import Derived.Test.YtandbaloaenciaaGreatDoorRKb
import Derived.Test.YtandbaloaenciaaGreatDoorRQ
import Derived.Test.YtandbaloaenciaaGreatDoorRG
namespace Go.Proofs.YtandbaloaenciaaGreatDoor
open Go.RowKit Tryz
attribute [local irreducible] OpRel OpdR
set_option maxRecDepth 10000
set_option maxHeartbeats 1600000
variable{x2:(Disk->Str->Option (List Int))}{r:Bool}{x1:Int}{x0:List GAct}{R:Rec}
theorem kI54:sliB prog 54 25 1=true:=by kernel_rfl
def XV(x0:List GAct)(x1:Int)(x2:(Disk->Str->Option (List Int)))(s15:Disk×(List (List Int))×Int):Option ((Disk×(List (List Int))×Int)⊕(Disk×(List (List Int)))):=
if(cmpI .lss s15.2.2 (x0.length:Int))=true then(Option.bind (α:=Disk×(List (List Int))) ((atI x0 s15.2.2).bind λ v21=>
if cmpI .eql v21.kind 3 then((x2 s15.1 v21.name).bind λ v35=>
(appO 24 s15.2.1 [v35]).bind λ v42=>
some (s15.1,v42))
else((qC s15.1 v21 x1).bind λ v48=>
if v48.2=true then((appO 24 s15.2.1 [[(1:Int)]]).bind λ v71=>
some (v48.1,v71))
else((appO 24 s15.2.1 [[(0:Int)]]).bind λ v85=>
some (s15.1,v85)))) λ o20=>
(i64 (s15.2.2+(1:Int))).bind λ v92=>
some (.inl (o20.1,o20.2,v92)))
else(some (.inr (s15.1,s15.2.1)))
def JL(x0:List GAct)(x1:Int)(x2:(Disk->Str->Option (List Int))):Option (Disk×(List (List Int))):=
Option.bind (α:=Disk×(List (List Int))) (zE (λ s15=>XV x0 x1 x2 s15) ((⟨(⟨([]:List File)⟩:Tree),(0:Int),([]:List Dir)⟩:Disk),[],(0:Int))) λ o12=>
some (o12.1,o12.2)
theorem impl_walk_n_w{r:Disk×(List (List Int))}(h:JL x0 x1 x2=some r):FnN prog 67 [dt x0,dt x1,dfnN2 prog (Ow.row 3 (Ow.frz (α:=Int))) x2] (.t2 (dt r.1) (Ow.row 25 (Ow.row 3 (Ow.frz (α:=Int)))) r.2):=by
 unfold JL at h
 refine fnN (fn:=f67) 11 func67 Z Z (λ M w0 _ j=>Kc (Ka ?_))
 refine j.alA 7 xv [0,1,2] [] λ b2 _ _ _ j=>?_
 have j:=j.gn
 refine j.segB 1 (sc Z (oA Z (jl (α:=List Int)))<|.nil) [0,1,2] [(6,7)] (λ _ _ j=>Kb (za (Kc (Ka ?_))))
 refine j.segB 4 (sc Z (xt (opds:=[]) (α:=File) Z Z Z .nil)<|sc Z (kD36_0 Z (tp Z))<|sc Z (xt (opds:=[]) (α:=Dir) Z Z Z .nil)<|sc Z (Qp Z (tp Z) cI (tp Z))<|.nil) [0,1,2,17] [(6,7)] λ _ _ j=>?_
 refine j.alA 8 xv [0,1,2,17] [6] λ b7 _ _ _ j=>?_
 have j:=j.gn
 refine j.stA 8 8 FldS.id (tp Z) [0,1,2] [6] (λ _ _ j=>Kb (za ?_))
 refine j.sqB (sc Z (xn (α:=List Int) (e:=25) Z)<|segC) [0,1,2] [(6,7),(8,8),(9,0)] λ _ _ j=>?_
 have⟨o12,p12,k12⟩:=bs h
 refine qa (λ a w=>∃ M1 Q R T U V W X Y ZQ A B,Sx (Frm.of w0) 56 M M1 [Q,R,T,U,V,W,X,oneB Y,oneB ZQ,oneB A,oneB B] [] [(6,7,dbox Y 0 yC),(8,8,dbox ZQ 0 o12.1),(9,0,dow (Ow.row 25 (Ow.row 3 (Ow.frz (α:=Int)))) Q o12.2)] a w) ?_ ?_
 ·have j:=j.tip0 (s:=9) (e':=25) (oy:=(Ow.row 3 (Ow.frz (α:=Int)))) 0 [6,8]
  refine j.sqA [1,2,19,20,21] [(6,7),(8,8),(9,0)] (λ _ _ j=>wp_block ?_)
  refine WY p12 (λ s15 a w=>∃ M1 Q R T U V W X Y ZQ A B,Sx (Frm.of w0) 56 M M1 [Q,R,T,U,V,W,X,oneB Y,oneB ZQ,oneB A,oneB B] [(1,dt x1),(19,dt x0),(20,dt (x0.length:Int)),(21,dt s15.2.2),(2,dfnN2 prog (Ow.row 3 (Ow.frz (α:=Int))) x2)] [(6,7,dbox Y 0 yC),(8,8,dbox ZQ 0 s15.1),(9,0,dow (Ow.row 25 (Ow.row 3 (Ow.frz (α:=Int)))) Q s15.2.1)] a w) fx ?_
  rintro s15 z15 _ _ ⟨_,Q,R,T,U,V,W,X,Y,ZQ,A,B,j⟩ hs15 hx15
  have h:XV x0 x1 x2 s15=some z15:=hs15
  unfold XV at h
  refine j.sqA [1,2,19,20,21,22] [(6,7),(8,8),(9,0)] (λ _ _ j=>Kc ?_)
  refine j.cs h (λ _ h=>?_) λ _ h=>?_
  ·refine wp_skip (za ?_)
   have⟨o20,p20,k20⟩:=bs h
   refine qa (λ a w=>∃ M1 Q R T U V W X Y ZQ A B,Sx (Frm.of w0) 56 M M1 [Q,R,T,U,V,W,X,oneB Y,oneB ZQ,oneB A,oneB B] [(1,dt x1),(19,dt x0),(20,dt (x0.length:Int)),(21,dt s15.2.2),(2,dfnN2 prog (Ow.row 3 (Ow.frz (α:=Int))) x2)] [(6,7,dbox Y 0 yC),(8,8,dbox ZQ 0 o20.1),(9,0,dow (Ow.row 25 (Ow.row 3 (Ow.frz (α:=Int)))) Q o20.2)] a w) ?_ ?_
   ·refine wp_block (Kc (Ka ?_))
    have⟨v21,p21,h⟩:=bs p20
    refine j.segA 2 [1,2,19,20,21,24] [(6,7),(8,8),(9,0)] λ _ _ j=>?_
    refine j.alA 9 zrGAct [1,2,19,20,21,24] [6,8,9] λ b25 _ _ _ j=>?_
    have j:=j.gn
    refine j.stA 11 9 FldS.id (tp Z) [1,2,19,20,21] [6,8,9] (λ _ _ j=>Kb (za (Kc ?_)))
    refine j.sqC [1,2,19,20,21,27] [(6,7),(8,8),(9,0),(11,9)] λ _ _ j=>?_
    refine j.cs h (λ _ h=>?_) λ _ h=>?_
    ·refine Kc (Ka ?_)
     refine j.nmR (s:=9) 0 [6,8,11] λ g32 A32 _ hA32 j=>?_
     refine j.segB 5 (sc Z (oM Z (tp Z))<|sc Z (oM Z (tp Z))<|sc Z (wH Z (tp Z))<|sc Z (We GAct.fld3 Z (tp Z))<|sc Z (wH Z (tp Z))<|.nil) [1,2,19,20,21,29,30,32] [(6,7),(8,8),(9,0),(28,0)] λ _ _ j=>?_
     have⟨v35,p35,h⟩:=bs h
     refine j.cF2 (ow:=(Ow.row 3 (Ow.frz (α:=Int)))) 1 Z Z (tp Z) (tp Z) (tp Z) p35 [1,2,19,20,21] Z [6,8,9,28] Z Z λ G34 _ _ _ j=>?_
     have j:=j.gs (Gs':=[Q,G34,T,U,V,W,X,oneB Y,oneB ZQ,oneB (some b25),oneB B])
     refine j.litW (oe:=(Ow.row 3 (Ow.frz (α:=Int)))) (opds:=[.tmp 33]) (xs:=[v35]) 2 [1] kI54 kY54 (qf (yx (j.st.has 33 _ Z)) (λ b hb=>⟨1,by simp,hb⟩)) (λ q hq=>by
 simp only[List.mem_cons,List.not_mem_nil,or_false] at hq
 subst hq
 exact Ow.len _ (yx (j.st.has 33 _ Z))) [1,2,19,20,21] [6,8,9,28] (λ G38 _ _ _ j=>?_)
     have j:=j.gs (Gs':=[Q,oneB none,G38,U,V,W,X,oneB Y,oneB ZQ,oneB (some b25),oneB B])
     have j:=j.unm (s:=28) 0 [6,8,34]
     have⟨v42,p42,h⟩:=bs h
     refine j.appW 0 2 p42 [1,2,19,20,21] [6,8] λ _ _ _ _ j=>?_
     have j:=j.gn
     refine j.nmR (s:=35) 0 [6,8] λ g45 A45 _ hA45 j=>?_
     refine j.segA 1 [1,2,19,20,21] [(6,7),(8,8),(9,0)] (λ _ _ j=>Kb (za ?_))
     refine wp_exit (yl (xS ?_))
     have j:=j.unm (s:=9) 0 [6,8]
     refine za ?_
     cases h
     exact fx
    refine wp_skip (za (Kc (Ka ?_)))
    obtain⟨v48,p48,h⟩:=bsW h za2
    refine j.segC 7 [1,2,19,20,21,41,42] [(6,7),(8,8),(9,0)] λ _ _ j=>?_
    refine j.alA 10 xv [1,2,19,20,21,41,42] [6,8,9] λ b52 _ _ _ j=>?_
    have j:=j.gn
    refine j.stA 12 10 FldS.id (tp Z) [1,2,19,20,21,42] [6,8,9] λ _ _ j=>?_
    refine j.segA 1 [1,2,13,19,20,21] [(6,7),(8,8),(9,0),(12,10)] (λ _ _ j=>Kb (za ?_))
    refine j.sqA [1,2,19,20,21,43] [(6,7),(8,8),(9,0),(12,10)] λ _ _ j=>?_
    refine j.cs h (λ _ h=>?_) λ _ h=>?_
    ·refine Kc (Ka ?_)
     refine j.segC 1 [1,2,19,20,21,44] [(6,7),(8,8),(9,0)] λ _ _ j=>?_
     refine j.stA 8 8 FldS.id (tp Z) [1,2,19,20,21] [6,9] (λ _ _ j=>Kb (za (Ka ?_)))
     refine j.nmR (s:=9) 0 [6,8] λ g63 A63 _ hA63 j=>?_
     refine j.segA 1 [1,2,19,20,21] [(6,7),(8,8),(9,0),(45,0)] λ _ _ j=>?_
     refine j.litW (oe:=(Ow.frz (α:=Int))) (opds:=[.const (.int .i64 1)]) (xs:=[(1:Int)]) 3 [] kI25 kY25 (qf (oe:=(Ow.frz (α:=Int))) (G1:=noB) (OpdR.cells cI (λ s y hs=>j.st.has s y hs)) (λ _ h=>h.elim)) (λ q hq=>by
 simp only[List.mem_cons,List.not_mem_nil,or_false] at hq
 subst hq
 exact Rep.len (OpdR.cells cI (λ s y hs=>j.st.has s y hs))) [1,2,19,20,21] [6,8,9,45] (λ G65 _ _ _ j=>?_)
     have j:=j.gs (Gs':=[Q,R,T,G65,V,W,X,oneB Y,oneB ZQ,oneB (some b25),oneB (some b52)])
     refine j.litW (oe:=(Ow.row 3 (Ow.frz (α:=Int)))) (opds:=[.tmp 46]) (xs:=[[(1:Int)]]) 4 [3] kI54 kY54 (qf (yx (j.st.has 46 _ Z)) (λ b hb=>⟨3,by simp,hb⟩)) (λ q hq=>by
 simp only[List.mem_cons,List.not_mem_nil,or_false] at hq
 subst hq
 exact Ow.len _ (yx (j.st.has 46 _ Z))) [1,2,19,20,21] [6,8,9,45] (λ G67 _ _ _ j=>?_)
     have j:=j.gs (Gs':=[Q,R,T,oneB none,G67,W,X,oneB Y,oneB ZQ,oneB (some b25),oneB (some b52)])
     have j:=j.unm (s:=45) 0 [6,8,47]
     have⟨v71,p71,h⟩:=bs h
     refine j.appW 0 4 p71 [1,2,19,20,21] [6,8] λ _ _ _ _ j=>?_
     have j:=j.gn
     refine j.nmR (s:=48) 0 [6,8] λ g74 A74 _ hA74 j=>?_
     refine j.segA 1 [1,2,19,20,21] [(6,7),(8,8),(9,0)] (λ _ _ j=>Kb (yo ?_))
     have j:=j.unm (s:=9) 0 [6,8]
     refine za ?_
     cases h
     exact fx
    refine Ka ?_
    refine j.nmR (s:=9) 0 [6,8,12] λ g77 A77 _ hA77 j=>?_
    refine j.segA 1 [1,2,19,20,21] [(6,7),(8,8),(9,0),(49,0)] λ _ _ j=>?_
    refine j.litW (oe:=(Ow.frz (α:=Int))) (opds:=[.const (.int .i64 0)]) (xs:=[(0:Int)]) 5 [] kI25 kY25 (qf (oe:=(Ow.frz (α:=Int))) (G1:=noB) (OpdR.cells cI (λ s y hs=>j.st.has s y hs)) (λ _ h=>h.elim)) (λ q hq=>by
 simp only[List.mem_cons,List.not_mem_nil,or_false] at hq
 subst hq
 exact Rep.len (OpdR.cells cI (λ s y hs=>j.st.has s y hs))) [1,2,19,20,21] [6,8,9,49] (λ G79 _ _ _ j=>?_)
    have j:=j.gs (Gs':=[Q,R,T,U,V,G79,X,oneB Y,oneB ZQ,oneB (some b25),oneB (some b52)])
    refine j.litW (oe:=(Ow.row 3 (Ow.frz (α:=Int)))) (opds:=[.tmp 50]) (xs:=[[(0:Int)]]) 6 [5] kI54 kY54 (qf (yx (j.st.has 50 _ Z)) (λ b hb=>⟨5,by simp,hb⟩)) (λ q hq=>by
 simp only[List.mem_cons,List.not_mem_nil,or_false] at hq
 subst hq
 exact Ow.len _ (yx (j.st.has 50 _ Z))) [1,2,19,20,21] [6,8,9,49] (λ G81 _ _ _ j=>?_)
    have j:=j.gs (Gs':=[Q,R,T,U,V,oneB none,G81,oneB Y,oneB ZQ,oneB (some b25),oneB (some b52)])
    have j:=j.unm (s:=49) 0 [6,8,51]
    have⟨v85,p85,h⟩:=bs h
    refine j.appW 0 6 p85 [1,2,19,20,21] [6,8] λ _ _ _ _ j=>?_
    have j:=j.gn
    refine j.nmR (s:=52) 0 [6,8] λ g88 A88 _ hA88 j=>?_
    refine j.segA 1 [1,2,19,20,21] [(6,7),(8,8),(9,0)] (λ _ _ j=>Kb (yo ?_))
    have j:=j.unm (s:=9) 0 [6,8]
    refine za ?_
    cases h
    exact fx
   rintro _ _ ⟨_,Q,R,T,U,V,W,X,Y,ZQ,A,B,j⟩
   have h:=k20
   have⟨v92,p92,h⟩:=bs h
   refine j.rgA [1,2,19,20,21] [(6,7),(8,8),(9,0)] (λ _ _ j=>za ?_)
   exact fl h
  refine wp_exit (yl (yl (xS ?_)))
  refine za ?_
  have h:=lo h hx15
  cases h
  exact fx
 rintro _ _ ⟨_,Q,R,T,U,V,W,X,Y,ZQ,A,B,j⟩
 have h:=k12
 refine Kc (Ka ?_)
 refine j.nmR (s:=9) 0 [6,8] λ g97 A97 _ hA97 j=>?_
 refine j.segB 2 (sc Z (wH Z (tp Z))<|sc Z (oM Z (tp Z))<|.nil) [54] [(6,7),(55,0)] λ _ _ j=>?_
 refine j.store (sb:=6) 7 FldS.id Z Z Z kT64 Z Z (tp Z) Z [] Z [55] Z Z λ _ _ j=>?_
 refine j.seg 1 (
  sc Z (oA Z (tp Z))<|.nil) [] Z [(6,7),(7,0)] Z ⟨iI,iT⟩ (λ _ _ j=>?_)
 refine Kb (za (wp_ret ?_))
 have j:=j.unm (s:=7) 0 [6]
 exact j.rn2c 0 Z kT64 Z Z iI h
def qm(R:Rec)(x0:List GAct)(x1:List Int)(x2:Int):Option (List (List Int)):=
(ZR x0 x2).bind λ v2=>
(gO ((!v2) == false) (jB x1)).bind λ v3=>
if((!v2)||(!v3))=true then(some [])
else((JL x0 x2 (λ a0 a1=>jc R a0 a1 x1)).bind λ v13=>
some v13.2)
theorem Js(hR:R.ok){x1:List Int}{x2:Int}{r:List (List Int)}(h:qm R x0 x1 x2=some r):FnN prog 23 [dt x0,dt x1,dt x2] (.ow (Ow.row 25 (Ow.row 3 (Ow.frz (α:=Int)))) r):=by
 refine fnN (fn:=f23) 3 func23 Z Z (λ M _ a0 j=>wqw ?_)
 refine j.rg2 (sZ 1 (r:=by exact sc Z (oA Z (jl (α:=List Int)))<|.nil)) [0,2,4] λ _ _ j=>?_
 have⟨v2,p2,v3,p3,h⟩:=Kg h
 refine j.rg2 (sZ 2 (r:=by exact sc Z (oK (za0 p2))<|sZ 3 (r:=by exact sg Z Z (λ hg=>oK (JX (gh hg p3)))<|segZ))) [0,2,4,17] λ _ _ j=>?_
 refine j.cq h (λ h=>?_) λ h=>?_
 ·refine j.rgB (sc Z (xn (α:=List Int) (e:=25) Z)<|segZ) [] [(6,0)] λ _ _ j=>?_
  have j:=j.tip0 (s:=6) (e':=25) (oy:=(Ow.row 3 (Ow.frz (α:=Int)))) 0 []
  exact j.rnO 0 h
 refine Ka ?_
 refine j.segB 3 (sZ 2 (r:=by exact sc Z (xMkN2 (l:=[.tmp 4]) (g:=(λ a0 a1=>jc R a0 a1 x1)) Z kN68 (.cons (tp Z) .nil) Z (λ _ _ _ h=>(zcb hR h).n))<|.nil)) [20,21,22] [] λ _ _ j=>?_
 have⟨v13,p13,h⟩:=bs h
 refine j.cNr (l:=[.tmp 20,.tmp 21,.tmp 22]) 1 Z Z kN67 (.cons (tp Z) (.cons (tp Z) (.cons (tp Z) .nil))) (impl_walk_n_w p13) [] Z [] Z Z λ _ _ _ _ j=>?_
 refine j.mvD (s:=23) 1 Z Z Z Z iI Z [] Z λ _ j=>?_
 refine j.segB 1 (sc Z (xT20 Z Z Z)<|.nil) [24] [(19,1)] λ _ _ j=>?_
 refine j.ex2 (s:=19) 1 Z Z Z Z iI Z [] Z λ _ j=>?_
 refine j.alA 2 xv [24] [25] λ b19 _ _ _ j=>?_
 refine j.stA 7 2 FldS.id (tp Z) [] [25] λ _ _ j=>?_
 refine j.nmR (s:=25) 1 [7] λ g22 A22 _ hA22 j=>?_
 refine j.segA 1 [] [(8,1)] (λ _ _ j=>Kb ?_)
 refine j.rgA [] [(6,1)] λ _ _ j=>?_
 have j:=j.unm (s:=6) 1 []
 exact j.rnO 1 h
theorem kZ3:zeroCells prog 3=some x9:=by kernel_rfl
theorem kCv3_5:cvB prog 3 5=true:=by kernel_rfl
theorem kCv50_9:cvS prog 50 9=true:=by kernel_rfl
theorem kN79:fnB prog 79=true:=by kernel_rfl
theorem kE51:elB prog 51 61 9 112=true:=by kernel_rfl
theorem kL54:isSl prog 54=true:=by kernel_rfl
theorem kN18:fnB prog 18=true:=by kernel_rfl
instance iF59_0RfL:FldO prog 59 0 0:=⟨kF59_0⟩
instance iF59_1RfL:FldO prog 59 1 1:=⟨kF59_1⟩
instance iF59_2RfL:FldO prog 59 2 2:=⟨kF59_2⟩
instance iF59_3RfL:FldO prog 59 3 3:=⟨kF59_3⟩
instance iF59_4RfL:FldO prog 59 4 4:=⟨kF59_4⟩
instance iF61_0RfL:FldO prog 61 0 0:=⟨kF61_0⟩
instance iF61_2RfL:FldO prog 61 2 7:=⟨kF61_2⟩
instance iF61_3RfL:FldO prog 61 3 8:=⟨kF61_3⟩
def YN(x0:Stmt)(x1:Int):Option Int:=
(i64 (x1 - (x0.module.l.length:Int))).bind λ v2=>
if cmpI .lss v2 0 then(some (-1:Int))
else((i64 (v2 - (x0.name.l.length:Int))).bind λ v9=>
if cmpI .lss v9 0 then(some (-1:Int))
else(some v9))
theorem laws_szStmt_w{x0:Stmt}{r:Int}(h:YN x0 x1=some r):Fn prog 159 [dt x0,dt x1] (dt r):=by
 refine fq1 0 func159 λ M _ _ j=>?_
 refine j.z1 λ _ _ j=>?_
 have⟨v2,p2,h⟩:=bs h
 refine j.z1 λ _ _ j=>?_
 refine j.zc h (λ _ _ j h=>?_) λ _ _ j h=>?_
 ·exact j.ze h
 have⟨v9,p9,h⟩:=bs h
 refine j.z1 λ _ _ j=>?_
 refine j.zc h (λ _ _ j h=>?_) λ _ _ j h=>?_
 ·exact j.ze h
 exact j.ze h
instance:Ct2 prog 159 dt dt dt YN:=⟨λ h=>laws_szStmt_w h⟩
def qn(x0:List Stmt)(s11:Int×Int):Option ((Int×Int)⊕(Int⊕Int)):=
if(cmpI .lss s11.2 (x0.length:Int))=true then((atI x0 s11.2).bind λ v16=>
(YN v16 s11.1).bind λ v17=>
if cmpI .lss v17 0 then(some (.inr (.inr (-1:Int))))
else((i64 (s11.2+(1:Int))).bind λ v27=>
some (.inl (v17,v27))))
else(some (.inr (.inl s11.1)))
def Yg(x0:List Stmt)(x1:Int):Option Int:=
(i64 (x1 - (x0.length:Int))).bind λ v2=>
if cmpI .lss v2 0 then(some (-1:Int))
else(Option.bind (α:=Int⊕Int) (zE (λ s11=>qn x0 s11) (v2,(0:Int))) (Sum.elim (λ b9=>
some b9) some))
theorem zdN{x0:List Stmt}{r:Int}(h:Yg x0 x1=some r):Fn prog 116 [dt x0,dt x1] (dt r):=by
 refine fq1 0 func116 λ M w0 _ j=>?_
 refine j.z1 λ _ _ j=>?_
 have⟨v2,p2,h⟩:=bs h
 refine j.z1 λ _ _ j=>?_
 refine j.zc h (λ _ _ j h=>?_) λ _ _ j h=>?_
 ·exact j.ze h
 refine wqk (za ?_)
 refine j.jb [] (λ b9=>[(1,dt b9)]) h (λ o9 p9 k9=>?_) λ b9 _ _ j h=>?_
 ·refine j.z1 λ _ _ j=>?_
  refine wql p9 (λ s11 a w=>Sx (Frm.of w0) 27 M M [] [(0,dt x0),(1,dt s11.1),(5,dt s11.2)] [] a w) (j.sel0 [0,1,5]) ?_
  rintro s11 z11 _ _ j hs11 hx11
  have h:qn x0 s11=some z11:=hs11
  unfold qn at h
  refine j.zc h (λ _ _ j h=>?_) λ _ _ j h=>?_
  ·have⟨v16,p16,h⟩:=bs h
   have⟨v17,p17,h⟩:=bs h
   refine j.z1 λ _ _ j=>?_
   refine j.zc h (λ _ _ j h=>?_) λ _ _ j h=>?_
   ·exact j.ze (jo (lo h hx11) k9)
   have⟨v27,p27,h⟩:=bs h
   exact j.zn [] h
  have h:=lo h hx11
  exact flz h
 exact j.ze h
instance:Ct2 prog 116 dt dt dt Yg:=⟨λ h=>zdN h⟩
def ZS(x0:File)(x1:Int):Option Int:=
(i64 (x1 - (x0.pkg.l.length:Int))).bind λ v2=>
if cmpI .lss v2 0 then(some (-1:Int))
else((i64 (v2 - (x0.name.l.length:Int))).bind λ v9=>
if cmpI .lss v9 0 then(some (-1:Int))
else((Yg x0.body v9).bind λ v16=>
if cmpI .lss v16 0 then(some (-1:Int))
else(some v16)))
theorem laws_szFile_w{x0:File}{r:Int}(h:ZS x0 x1=some r):Fn prog 80 [dt x0,dt x1] (dt r):=by
 refine fq1 0 func80 λ M _ _ j=>?_
 refine j.z1 λ _ _ j=>?_
 have⟨v2,p2,h⟩:=bs h
 refine j.z1 λ _ _ j=>?_
 refine j.zc h (λ _ _ j h=>?_) λ _ _ j h=>?_
 ·exact j.ze h
 have⟨v9,p9,h⟩:=bs h
 refine j.z1 λ _ _ j=>?_
 refine j.zc h (λ _ _ j h=>?_) λ _ _ j h=>?_
 ·exact j.ze h
 have⟨v16,p16,h⟩:=bs h
 refine j.z1 λ _ _ j=>?_
 refine j.zc h (λ _ _ j h=>?_) λ _ _ j h=>?_
 ·exact j.ze h
 exact j.ze h
instance:Ct2 prog 80 dt dt dt ZS:=⟨λ h=>laws_szFile_w h⟩
def Xu(x0:List File)(s11:Int×Int):Option ((Int×Int)⊕(Int⊕Int)):=
if(cmpI .lss s11.2 (x0.length:Int))=true then((atI x0 s11.2).bind λ v16=>
(ZS v16 s11.1).bind λ v17=>
if cmpI .lss v17 0 then(some (.inr (.inr (-1:Int))))
else((i64 (s11.2+(1:Int))).bind λ v27=>
some (.inl (v17,v27))))
else(some (.inr (.inl s11.1)))
def zaq(x0:List File)(x1:Int):Option Int:=
(i64 (x1 - (x0.length:Int))).bind λ v2=>
if cmpI .lss v2 0 then(some (-1:Int))
else(Option.bind (α:=Int⊕Int) (zE (λ s11=>Xu x0 s11) (v2,(0:Int))) (Sum.elim (λ b9=>
some b9) some))
theorem zdO{x0:List File}{r:Int}(h:zaq x0 x1=some r):Fn prog 36 [dt x0,dt x1] (dt r):=by
 refine fq1 0 func36 λ M w0 _ j=>?_
 refine j.z1 λ _ _ j=>?_
 have⟨v2,p2,h⟩:=bs h
 refine j.z1 λ _ _ j=>?_
 refine j.zc h (λ _ _ j h=>?_) λ _ _ j h=>?_
 ·exact j.ze h
 refine wqk (za ?_)
 refine j.jb [] (λ b9=>[(1,dt b9)]) h (λ o9 p9 k9=>?_) λ b9 _ _ j h=>?_
 ·refine j.z1 λ _ _ j=>?_
  refine wql p9 (λ s11 a w=>Sx (Frm.of w0) 27 M M [] [(0,dt x0),(1,dt s11.1),(5,dt s11.2)] [] a w) (j.sel0 [0,1,5]) ?_
  rintro s11 z11 _ _ j hs11 hx11
  have h:Xu x0 s11=some z11:=hs11
  unfold Xu at h
  refine j.zc h (λ _ _ j h=>?_) λ _ _ j h=>?_
  ·have⟨v16,p16,h⟩:=bs h
   have⟨v17,p17,h⟩:=bs h
   refine j.z1 λ _ _ j=>?_
   refine j.zc h (λ _ _ j h=>?_) λ _ _ j h=>?_
   ·exact j.ze (jo (lo h hx11) k9)
   have⟨v27,p27,h⟩:=bs h
   exact j.zn [] h
  have h:=lo h hx11
  exact flz h
 exact j.ze h
instance:Ct2 prog 36 dt dt dt zaq:=⟨λ h=>zdO h⟩
def YO(x0:Stmt):Option Stmt:=
some ({ { { { { zStmt with kind:=x0.kind } with module:=x0.module } with level:=x0.level } with name:=x0.name } with value:=x0.value })
theorem za4{x0:Stmt}{r:Stmt}(h:YO x0=some r):Fn prog 167 [dt x0] (dt r):=by
 refine fq1 2 func167 λ M _ _ j=>?_
 refine Ka ?_
 refine j.zg 1 λ _ _ j=>?_
 refine j.alA 0 zcF [1] [] (λ b3 _ _ _ j=>Kb (Ka ?_))
 refine j.alA 1 zcF [1] [2] (λ b5 _ _ _ j=>Kb (Ka ?_))
 refine j.zh 3 [(2,0),(3,1),(6,1)] λ _ _ j=>?_
 refine j.stA 3 1 Stmt.set0 (tp Z) [1] [2] (λ _ _ j=>Kb (Ka ?_))
 refine j.zh 3 [(2,0),(3,1),(9,1)] λ _ _ j=>?_
 refine j.stA 3 1 Stmt.set1 (tp Z) [1] [2] (λ _ _ j=>Kb (Ka ?_))
 refine j.zh 3 [(2,0),(3,1),(12,1)] λ _ _ j=>?_
 refine j.stA 3 1 Stmt.set2 (tp Z) [1] [2] (λ _ _ j=>Kb (Ka ?_))
 refine j.zh 3 [(2,0),(3,1),(15,1)] λ _ _ j=>?_
 refine j.stA 3 1 Stmt.set3 (tp Z) [1] [2] (λ _ _ j=>Kb (Ka ?_))
 refine j.zh 3 [(2,0),(3,1),(18,1)] λ _ _ j=>?_
 refine j.stA 3 1 Stmt.set4 (tp Z) [] [2] (λ _ _ j=>Kb (Ka ?_))
 refine j.zh 1 [(2,0)] λ _ _ j=>?_
 refine j.stA 2 0 FldS.id (tp Z) [] [] (λ _ _ j=>Kb ?_)
 exact j.yB h
instance:Ct1 prog 167 dt dt YO:=⟨λ h=>za4 h⟩
def jd(x0:List Stmt)(s10:(List Stmt)×Int):Option (((List Stmt)×Int)⊕(List Stmt)):=
if(cmpI .lss s10.2 (x0.length:Int))=true then((atI x0 s10.2).bind λ v15=>
(YO v15).bind λ v16=>
(atI s10.1 s10.2).bind λ _v17=>
(setO s10.1 s10.2 v16).bind λ v24=>
(i64 (s10.2+(1:Int))).bind λ v26=>
some (.inl (v24,v26)))
else(some (.inr s10.1))
def Xv(x0:List Stmt):Option (List Stmt):=
(QC 5 56 (x0.length:Int) zStmt).bind λ v5=>
Option.bind (α:=(List Stmt)) (zE (λ s10=>jd x0 s10) (v5,(0:Int))) λ o8=>
some o8
theorem zdP{x0:List Stmt}{r:List Stmt}(h:Xv x0=some r):FnOwn prog 125 [dt x0] 177 r:=by
 refine fqO 1 func125 λ M w0 _ j=>?_
 refine j.z1 (λ _ _ j=>?_) (hs:=sc Z (oA Z (Z1 (α:=Stmt) (e:=177)))<|.nil)
 refine Ka ?_
 refine j.zg 2 λ _ _ j=>?_
 have⟨v5,p5,h⟩:=bs h
 refine j.make 0 kZ177 zcF (gl Z) p5 [0] [] λ g4 _ _ _ j=>?_
 refine j.zh 1 [(3,0)] (λ _ _ j=>Kb (za ?_))
 refine j.jmq 1 [] (λ _=>[]) (λ o8 q=>[(3,0,dtip (q 0) 177 o8)]) h (λ o8 p8=>?_) λ o8 q8 _ _ _ j h=>?_
 ·refine j.zo [(3,0)] λ _ _ j=>?_
  refine wql p8 (λ s10 a w=>∃ M1 Q,Sx (Frm.of w0) 23 M M1 [oneB Q] [(0,dt x0),(4,dt s10.2)] [(3,0,dtip Q 177 s10.1)] a w) fx ?_
  rintro s10 z10 _ _ ⟨_,Q,j⟩ hs10 hx10
  have h:jd x0 s10=some z10:=hs10
  unfold jd at h
  refine j.zd [(3,0)] h (λ _ _ j h=>?_) λ _ _ j h=>?_
  ·refine Ka ?_
   have⟨v15,p15,v16,p16,h⟩:=Kg h
   have⟨v17,p17,h⟩:=bs h
   refine j.zh 8 [(3,0),(21,0)] (λ _ _ j=>?_) (hs:=sZ 6 (r:=by exact sc Z (oK (za4 p16))<|sc Z (xIdxT Z kS57 (tp Z) (tp Z) p17)<|.nil))
   have⟨v24,p24,h⟩:=bs h
   refine j.storeT (sb:=3) 0 (tp Z) p24 [0,4] [] (λ _ _ j=>Kb ?_)
   have⟨v26,p26,h⟩:=bs h
   exact j.zn [(3,0)] h
  have h:=lo h hx10
  cases h
  exact fz
 exact j.zl 0 h
def jI(x0:List Int)(s10:(List Int)×Int):Option (((List Int)×Int)⊕(List Int)):=
if(cmpI .lss s10.2 (x0.length:Int))=true then((atI x0 s10.2).bind λ v15=>
(atI s10.1 s10.2).bind λ _v16=>
(setO s10.1 s10.2 v15).bind λ v22=>
(i64 (s10.2+(1:Int))).bind λ v24=>
some (.inl (v22,v24)))
else(some (.inr s10.1))
def jw(x0:List Int):Option (List Int):=
(QC 1 8 (x0.length:Int) zInt).bind λ v5=>
Option.bind (α:=(List Int)) (zE (λ s10=>jI x0 s10) (v5,(0:Int))) λ o8=>
some o8
theorem X5{x0:List Int}{r:List Int}(h:jw x0=some r):FnOwn prog 10 [dt x0] 3 r:=by
 refine fqO 1 func10 λ M w0 _ j=>?_
 refine j.z1 (λ _ _ j=>?_) (hs:=sc Z (oA Z (Z1 (α:=Int) (e:=3)))<|.nil)
 refine Ka ?_
 refine j.zg 2 λ _ _ j=>?_
 have⟨v5,p5,h⟩:=bs h
 refine j.make 0 kZ3 qG (gl Z) p5 [0] [] λ g4 _ _ _ j=>?_
 refine j.zh 1 [(3,0)] (λ _ _ j=>Kb (za ?_))
 refine j.jmq 1 [] (λ _=>[]) (λ o8 q=>[(3,0,dtip (q 0) 3 o8)]) h (λ o8 p8=>?_) λ o8 q8 _ _ _ j h=>?_
 ·refine j.zo [(3,0)] λ _ _ j=>?_
  refine wql p8 (λ s10 a w=>∃ M1 Q,Sx (Frm.of w0) 22 M M1 [oneB Q] [(0,dt x0),(4,dt s10.2)] [(3,0,dtip Q 3 s10.1)] a w) fx ?_
  rintro s10 z10 _ _ ⟨_,Q,j⟩ hs10 hx10
  have h:jI x0 s10=some z10:=hs10
  unfold jI at h
  refine j.zd [(3,0)] h (λ _ _ j h=>?_) λ _ _ j h=>?_
  ·refine Ka ?_
   have⟨v15,p15,v16,p16,h⟩:=Kg h
   refine j.zh 7 [(3,0),(20,0)] (λ _ _ j=>?_) (hs:=sZ 6 (r:=by exact sc Z (xIdxT Z kS25 (tp Z) (tp Z) p16)<|.nil))
   have⟨v22,p22,h⟩:=bs h
   refine j.storeT (sb:=3) 0 (tp Z) p22 [0,4] [] (λ _ _ j=>Kb ?_)
   have⟨v24,p24,h⟩:=bs h
   exact j.zn [(3,0)] h
  have h:=lo h hx10
  cases h
  exact fz
 exact j.zl 0 h
def X6(x0:File):Option File:=
(Xv x0.body).bind λ v16=>
some (⟨x0.root,x0.pkg,x0.name,x0.init,x0.stamp,v16⟩:File)
theorem laws_toFile_w{x0:File}{r:File}(h:X6 x0=some r):FnN prog 86 [dt x0] (.ow (owFile (Ow.row 177 (Ow.frz (α:=Stmt)))) r):=by
 refine fnN (fn:=f86) 3 func86 Z Z (λ M _ _ j=>wqw (Ka ?_))
 refine j.zg 1 λ _ _ j=>?_
 refine j.alcW (ow:=(owFile (Ow.row 177 (Ow.frz (α:=Stmt))))) 1 (owFile.z Ow.row_z) [1] [] (λ b2 _ _ _ j=>Kb (Ka ?_))
 refine j.alcW (ow:=(owFile (Ow.row 177 (Ow.frz (α:=Stmt))))) 2 (owFile.z Ow.row_z) [1] [2] (λ b3 _ _ _ j=>Kb (Ka ?_))
 refine j.zh 3 [(2,1),(3,2)] (λ _ _ j=>?_) (hs:=sZ 2 (r:=by exact sc Z (xFa Z kF59_0 (zD Z))<|.nil))
 refine j.sfA 3 2 ((PV.root.box Z).fld owFile.f0) (tp Z) (tp Z) [1] [2] (λ _ j=>Kb (Ka ?_))
 refine j.zh 3 [(2,1),(3,2)] (λ _ _ j=>?_) (hs:=sZ 2 (r:=by exact sc Z (xFa Z kF59_1 (zD Z))<|.nil))
 refine j.sfA 3 2 ((PV.root.box Z).fld owFile.f1) (tp Z) (tp Z) [1] [2] (λ _ j=>Kb (Ka ?_))
 refine j.zh 3 [(2,1),(3,2)] (λ _ _ j=>?_) (hs:=sZ 2 (r:=by exact sc Z (xFa Z kF59_2 (zD Z))<|.nil))
 refine j.sfA 3 2 ((PV.root.box Z).fld owFile.f2) (tp Z) (tp Z) [1] [2] (λ _ j=>Kb (Ka ?_))
 refine j.zh 3 [(2,1),(3,2)] (λ _ _ j=>?_) (hs:=sZ 2 (r:=by exact sc Z (xFa Z kF59_3 (zD Z))<|.nil))
 refine j.sfA 3 2 ((PV.root.box Z).fld owFile.f3) (tp Z) (tp Z) [1] [2] (λ _ j=>Kb (Ka ?_))
 refine j.zh 3 [(2,1),(3,2)] (λ _ _ j=>?_) (hs:=sZ 2 (r:=by exact sc Z (xFa Z kF59_4 (zD Z))<|.nil))
 refine j.sfA 3 2 ((PV.root.box Z).fld owFile.f4) (tp Z) (tp Z) [1] [2] (λ _ j=>Kb (Ka ?_))
 refine j.zh 2 [(2,1),(3,2)] λ _ _ j=>?_
 have⟨v16,p16,h⟩:=bs h
 refine j.cN (l:=[.tmp 20]) 0 (.cons (tp Z) .nil) (zdP p16).n [] [2,3] λ _ _ _ _ j=>?_
 refine j.zh 1 [(2,1),(3,2),(21,0)] (λ _ _ j=>?_) (hs:=sc Z (xFa Z kF59_5 (zD Z))<|.nil)
 refine j.stO (sb:=3) (tv:=21) 2 0 ((PV.root.box Z).fld owFile.f5) (tp Z) [] [2] (λ _ _ j=>Kb (Ka ?_))
 refine j.ldW (sb:=3) 2 [] [2] λ _ _ j=>?_
 refine j.stO (sb:=2) (tv:=23) 1 2 (PV.root.box Z) (zD Z) [] [] (λ _ _ j=>Kb ?_)
 exact j.rnC 1 iI h
def YP(x0:Stmt)(x1:Stmt):Option Bool:=
if cmpI .neq x0.kind x1.kind then(some false)
else(if(decide (x0.module≠x1.module))=true then(some false)
else(if cmpI .neq x0.level x1.level then(some false)
else(if(decide (x0.name≠x1.name))=true then(some false)
else(if cmpI .neq x0.value x1.value then(some false)
else(some true)))))
theorem laws_eqStmt_w{x0:Stmt}{x1:Stmt}(h:YP x0 x1=some r):Fn prog 178 [dt x0,dt x1] (dt r):=by
 refine fq1 0 func178 λ M _ _ j=>?_
 refine j.z1 λ _ _ j=>?_
 refine j.zc h (λ _ _ j h=>?_) λ _ _ j h=>?_
 ·exact j.ze h
 refine j.zc h (λ _ _ j h=>?_) λ _ _ j h=>?_
 ·exact j.ze h
 refine j.zc h (λ _ _ j h=>?_) λ _ _ j h=>?_
 ·exact j.ze h
 refine j.zc h (λ _ _ j h=>?_) λ _ _ j h=>?_
 ·exact j.ze h
 refine j.zc h (λ _ _ j h=>?_) λ _ _ j h=>?_
 ·exact j.ze h
 exact j.ze h
instance:Ct2 prog 178 dt dt dt YP:=⟨λ h=>laws_eqStmt_w h⟩
def qq(x0:List Stmt)(x1:List Stmt)(s8:Int):Option (Int⊕(Unit⊕Bool)):=
if(cmpI .lss s8 (x0.length:Int))=true then((atI x0 s8).bind λ v13=>
(atI x1 s8).bind λ v14=>
(YP v13 v14).bind λ v15=>
if(!v15)=true then(some (.inr (.inr false)))
else((i64 (s8+(1:Int))).bind λ v25=>
some (.inl v25)))
else(some (.inr (.inl ())))
def Yh(x0:List Stmt)(x1:List Stmt):Option Bool:=
if(cmpI .neq (x0.length:Int) (x1.length:Int))=true then(some false)
else(Option.bind (α:=Unit⊕Bool) (zE (λ s8=>qq x0 x1 s8) (0:Int)) (Sum.elim (λ _b6=>
some true) some))
theorem zdQ{x0:List Stmt}{x1:List Stmt}(h:Yh x0 x1=some r):Fn prog 140 [dt x0,dt x1] (dt r):=by
 refine fq1 0 func140 λ M w0 _ j=>?_
 refine j.z1 λ _ _ j=>?_
 refine j.zc h (λ _ _ j h=>?_) λ _ _ j h=>?_
 ·exact j.ze h
 refine wqk (za ?_)
 refine j.jb [] (λ _=>[]) h (λ o6 p6 k6=>?_) λ b6 _ _ j h=>?_
 ·refine j.z1 λ _ _ j=>?_
  refine wql p6 (λ s8 a w=>Sx (Frm.of w0) 27 M M [] [(0,dt x0),(1,dt x1),(5,dt s8)] [] a w) (j.sel0 [0,1,5]) ?_
  rintro s8 z8 _ _ j hs8 hx8
  have h:qq x0 x1 s8=some z8:=hs8
  unfold qq at h
  refine j.zc h (λ _ _ j h=>?_) λ _ _ j h=>?_
  ·have⟨v13,p13,h⟩:=bs h
   have⟨v14,p14,v15,p15,h⟩:=Kg h
   refine j.zw λ _ _ j=>?_
   refine j.cq h (λ h=>?_) λ h=>?_
   ·exact j.ze (jo (lo h hx8) k6)
   have⟨v25,p25,h⟩:=bs h
   exact j.zn [] h
  have h:=lo h hx8
  exact flz h
 exact j.ze h
instance:Ct2 prog 140 dt dt dt Yh:=⟨λ h=>zdQ h⟩
def ZT(x0:File)(x1:File):Option Bool:=
if cmpI .neq x0.root x1.root then(some false)
else(if(decide (x0.pkg≠x1.pkg))=true then(some false)
else(if(decide (x0.name≠x1.name))=true then(some false)
else(if(x0.init != x1.init)=true then(some false)
else(if cmpI .neq x0.stamp x1.stamp then(some false)
else((Yh x0.body x1.body).bind λ v22=>
if(!v22)=true then(some false)
else(some true))))))
theorem laws_eqFile_w{x0:File}{x1:File}(h:ZT x0 x1=some r):Fn prog 98 [dt x0,dt x1] (dt r):=by
 refine fq1 0 func98 λ M _ _ j=>?_
 refine j.z1 λ _ _ j=>?_
 refine j.zc h (λ _ _ j h=>?_) λ _ _ j h=>?_
 ·exact j.ze h
 refine j.zc h (λ _ _ j h=>?_) λ _ _ j h=>?_
 ·exact j.ze h
 refine j.zc h (λ _ _ j h=>?_) λ _ _ j h=>?_
 ·exact j.ze h
 refine j.zc h (λ _ _ j h=>?_) λ _ _ j h=>?_
 ·exact j.ze h
 refine j.zc h (λ _ _ j h=>?_) λ _ _ j h=>?_
 ·exact j.ze h
 have⟨v22,p22,h⟩:=bs h
 refine j.zc h (λ _ _ j h=>?_) λ _ _ j h=>?_
 ·exact j.ze h
 exact j.ze h
instance:Ct2 prog 98 dt dt dt ZT:=⟨λ h=>laws_eqFile_w h⟩
def Xw(x0:List File)(x1:List File)(s8:Int):Option (Int⊕(Unit⊕Bool)):=
if(cmpI .lss s8 (x0.length:Int))=true then((atI x0 s8).bind λ v13=>
(atI x1 s8).bind λ v14=>
(ZT v13 v14).bind λ v15=>
if(!v15)=true then(some (.inr (.inr false)))
else((i64 (s8+(1:Int))).bind λ v25=>
some (.inl v25)))
else(some (.inr (.inl ())))
def zar(x0:List File)(x1:List File):Option Bool:=
if(cmpI .neq (x0.length:Int) (x1.length:Int))=true then(some false)
else(Option.bind (α:=Unit⊕Bool) (zE (λ s8=>Xw x0 x1 s8) (0:Int)) (Sum.elim (λ _b6=>
some true) some))
theorem zdR{x0:List File}{x1:List File}(h:zar x0 x1=some r):Fn prog 53 [dt x0,dt x1] (dt r):=by
 refine fq1 0 func53 λ M w0 _ j=>?_
 refine j.z1 λ _ _ j=>?_
 refine j.zc h (λ _ _ j h=>?_) λ _ _ j h=>?_
 ·exact j.ze h
 refine wqk (za ?_)
 refine j.jb [] (λ _=>[]) h (λ o6 p6 k6=>?_) λ b6 _ _ j h=>?_
 ·refine j.z1 λ _ _ j=>?_
  refine wql p6 (λ s8 a w=>Sx (Frm.of w0) 27 M M [] [(0,dt x0),(1,dt x1),(5,dt s8)] [] a w) (j.sel0 [0,1,5]) ?_
  rintro s8 z8 _ _ j hs8 hx8
  have h:Xw x0 x1 s8=some z8:=hs8
  unfold Xw at h
  refine j.zc h (λ _ _ j h=>?_) λ _ _ j h=>?_
  ·have⟨v13,p13,h⟩:=bs h
   have⟨v14,p14,v15,p15,h⟩:=Kg h
   refine j.zw λ _ _ j=>?_
   refine j.cq h (λ h=>?_) λ h=>?_
   ·exact j.ze (jo (lo h hx8) k6)
   have⟨v25,p25,h⟩:=bs h
   exact j.zn [] h
  have h:=lo h hx8
  exact flz h
 exact j.ze h
instance:Ct2 prog 53 dt dt dt zar:=⟨λ h=>zdR h⟩
def Zm(x0:List Int)(x1:List Int)(s8:Int):Option (Int⊕(Unit⊕Bool)):=
if(cmpI .lss s8 (x0.length:Int))=true then((atI x0 s8).bind λ v13=>
(atI x1 s8).bind λ v14=>
if cmpI .neq v13 v14 then(some (.inr (.inr false)))
else((i64 (s8+(1:Int))).bind λ v23=>
some (.inl v23)))
else(some (.inr (.inl ())))
def qD(x0:List Int)(x1:List Int):Option Bool:=
if(cmpI .neq (x0.length:Int) (x1.length:Int))=true then(some false)
else(Option.bind (α:=Unit⊕Bool) (zE (λ s8=>Zm x0 x1 s8) (0:Int)) (Sum.elim (λ _b6=>
some true) some))
theorem za5{x0:List Int}{x1:List Int}(h:qD x0 x1=some r):Fn prog 15 [dt x0,dt x1] (dt r):=by
 refine fq1 0 func15 λ M w0 _ j=>?_
 refine j.z1 λ _ _ j=>?_
 refine j.zc h (λ _ _ j h=>?_) λ _ _ j h=>?_
 ·exact j.ze h
 refine wqk (za ?_)
 refine j.jb [] (λ _=>[]) h (λ o6 p6 k6=>?_) λ b6 _ _ j h=>?_
 ·refine j.z1 λ _ _ j=>?_
  refine wql p6 (λ s8 a w=>Sx (Frm.of w0) 26 M M [] [(0,dt x0),(1,dt x1),(5,dt s8)] [] a w) (j.sel0 [0,1,5]) ?_
  rintro s8 z8 _ _ j hs8 hx8
  have h:Zm x0 x1 s8=some z8:=hs8
  unfold Zm at h
  refine j.zc h (λ _ _ j h=>?_) λ _ _ j h=>?_
  ·have⟨v13,p13,h⟩:=bs h
   have⟨v14,p14,h⟩:=bs h
   refine j.zw λ _ _ j=>?_
   refine j.cq h (λ h=>?_) λ h=>?_
   ·exact j.ze (jo (lo h hx8) k6)
   have⟨v23,p23,h⟩:=bs h
   exact j.zn [] h
  have h:=lo h hx8
  exact flz h
 exact j.ze h
instance:Ct2 prog 15 dt dt dt qD:=⟨λ h=>za5 h⟩
def xk(s8:Int×Str):Option ((Int×Str)⊕Str):=
if cmpI .gtr s8.1 0 then((modO s8.1 (10:Int)).bind λ v13=>
(i64 ((48:Int)+v13)).bind λ v14=>
(catO (⟨([toB v14]:List UInt8)⟩:Str) s8.2).bind λ v15=>
(divO s8.1 (10:Int)).bind λ v20=>
some (.inl (v20,v15)))
else(some (.inr s8.2))
def yY(x0:Int):Option Str:=
if cmpI .leq x0 0 then(some (⟨[109,48]⟩:Str))
else(Option.bind (α:=Str) (zE (λ s8=>xk s8) (x0,(⟨[]⟩:Str))) λ o7=>
(catO (⟨[109]⟩:Str) o7).bind λ v25=>
some v25)
theorem j7{x0:Int}{r:Str}(h:yY x0=some r):Fn prog 56 [dt x0] (dt r):=by
 refine fq1 0 func56 λ M w0 _ j=>?_
 refine j.z1 λ _ _ j=>?_
 refine j.zc h (λ _ _ j h=>?_) λ _ _ j h=>?_
 ·exact j.ze h
 refine j.z1 (λ _ _ j=>za ?_)
 refine j.jm [] (λ o7=>[(3,dt o7)]) h (λ o7 p7=>?_) λ o7 _ _ j h=>?_
 ·refine wql p7 (λ s8 a w=>Sx (Frm.of w0) 20 M M [] [(0,dt s8.1),(3,dt s8.2)] [] a w) (j.sel0 [0,3]) ?_
  rintro s8 z8 _ _ j hs8 hx8
  have h:xk s8=some z8:=hs8
  unfold xk at h
  refine j.zc h (λ _ _ j h=>?_) λ _ _ j h=>?_
  ·have⟨v13,p13,h⟩:=bs h
   have⟨v14,p14,v15,p15,h⟩:=Kg h
   refine j.z1 (λ _ _ j=>?_) (hs:=sZ 1 (r:=by exact sc Z (xMod Z (tp Z) cI p13)<|sZ 1 (r:=by exact sc Z (xCvB Z kCv3_5 (tp Z))<|sZ 1 (r:=by exact sc Z (xCvS Z kCv50_9 (tp Z))<|segZ))))
   have⟨v20,p20,h⟩:=bs h
   exact j.zn [] h (hs:=sZ 1 (r:=by exact sc Z (xDiv Z (tp Z) cI p20)<|segZ))
  have h:=lo h hx8
  obtain rfl:=Option.some.inj h
  exact fz
 have⟨v25,p25,h⟩:=bs h
 exact j.ze h
instance:Ct1 prog 56 dt dt yY:=⟨λ h=>j7 h⟩
def wv(s4:(List Stmt)×Int×Int):Option (((List Stmt)×Int×Int)⊕((List Stmt)×Int)):=
if(cmpI .lss s4.2.2 (s4.1.length:Int))=true then((atI s4.1 s4.2.2).bind λ _v9=>
(i64 (s4.2.1+(1:Int))).bind λ v13=>
(yY v13).bind λ v16=>
(i64 (v13+(1:Int))).bind λ v20=>
(i64 (v20+(1:Int))).bind λ v25=>
(yY v25).bind λ v28=>
(i64 (v25+(1:Int))).bind λ v32=>
(i64 (v32+(1:Int))).bind λ v37=>
(i64 (s4.2.2+(1:Int))).bind λ v40=>
some (.inl ((s4.1.set s4.2.2.toNat (⟨s4.2.1,v16,v20,v28,v32⟩:Stmt)),v37,v40)))
else(some (.inr (s4.1,s4.2.1)))
def Yw(x0:List Stmt)(x1:Int):Option ((List Stmt)×Int):=
Option.bind (α:=(List Stmt)×Int) (zE (λ s4=>wv s4) (x0,x1,(0:Int))) λ o2=>
some (o2.1,o2.2)
theorem zcQ{x0:List Stmt}{r:(List Stmt)×Int}(h:Yw x0 x1=some r):FnS prog 79 (Ow.row 177 (Ow.frz (α:=Stmt))) x0 [dt x1] r.1 (.frz (dt r.2)):=by
 refine fnSR (fn:=f79) 0 1 func79 Z Z (λ M G w0 g0 A0 c0 _ hA0 j=>wqw ?_)
 refine j.zo [(0,0)] (λ _ _ j=>za ?_)
 have⟨o2,p2,k2⟩:=bs h
 refine wqj (λ a w=>∃ M1 Q,Sx (Frm.chg w0 G) 50 M M1 [Q] [(1,dt o2.2)] [(0,0,dnm (Ow.row 177 (Ow.frz (α:=Stmt))) Q o2.1 (.slice A0 x0.length c0) [])] a w) ?_ ?_
 ·refine j.zo [(0,0)] λ _ _ j=>?_
  refine wql p2 (λ s4 a w=>∃ M1 Q,Sx (Frm.chg w0 G) 50 M M1 [Q] [(1,dt s4.2.1),(5,dt s4.2.2)] [(0,0,dnm (Ow.row 177 (Ow.frz (α:=Stmt))) Q s4.1 (.slice A0 x0.length c0) [])] a w) fx ?_
  rintro s4 z4 _ _ ⟨_,Q,j⟩ hs4 hx4
  have h:wv s4=some z4:=hs4
  unfold wv at h
  refine j.zd [(0,0)] h (λ _ _ j h=>?_) (λ _ _ j h=>?_) (hs:=sc Z (oM Z (tp Z))<|sc Z (oM Z (tp Z))<|sc Z (xLeN Z kL57 Z)<|sc Z (oCI Z (tp Z) (tp Z))<|.nil)
  ·refine Ka ?_
   have⟨v9,p9,h⟩:=bs h
   refine j.zh 5 [(0,0)] (λ _ _ j=>?_) (hs:=sc Z (oM Z (tp Z))<|sc Z (oM Z (tp Z))<|sc Z (oM Z (tp Z))<|sc Z (xIaN Z kS57 Z (tp Z) hA0 p9)<|sc Z (xFa Z kF177_0 (tp Z))<|.nil)
   refine j.stF (sb:=0) 0 ((PV.root.row Z hA0 p9).fld Stmt.z0) (tp Z) (tp Z) [1,5] [] (λ _ j=>Kb ?_)
   have⟨v13,p13,h⟩:=bs h
   refine j.zo [(0,0)] (λ _ _ j=>Ka ?_)
   have⟨v16,p16,h⟩:=bs h
   refine j.zh 6 [(0,0)] (λ _ _ j=>?_) (hs:=sc Z (oM Z (tp Z))<|sc Z (oM Z (tp Z))<|sc Z (oM Z (tp Z))<|sc Z (zF (l:=[.tmp 21]) Z (.cons (tp Z) .nil) (j7 p16))<|sc Z (xIaN Z kS57 Z (tp Z) hA0 (xf p9))<|sc Z (xFa Z kF177_1 (tp Z))<|.nil)
   refine j.stF (sb:=0) 0 (((PV.root.row Z hA0 (xf p9)).conv (upd':=λ z=>(s4.1.set s4.2.2.toNat z)) (λ _=>by simp only[List.set_set])).fld Stmt.z1) (tp Z) (tp Z) [1,5] [] (λ _ j=>Kb ?_)
   have⟨v20,p20,h⟩:=bs h
   refine j.zo [(0,0)] (λ _ _ j=>Ka ?_)
   refine j.zh 5 [(0,0)] (λ _ _ j=>?_) (hs:=sc Z (oM Z (tp Z))<|sc Z (oM Z (tp Z))<|sc Z (oM Z (tp Z))<|sc Z (xIaN Z kS57 Z (tp Z) hA0 (xf p9))<|sc Z (xFa Z zbZ (tp Z))<|.nil)
   refine j.stF (sb:=0) 0 (((PV.root.row Z hA0 (xf p9)).conv (upd':=λ z=>(s4.1.set s4.2.2.toNat z)) (λ _=>by simp only[List.set_set])).fld Stmt.z2) (tp Z) (tp Z) [1,5] [] (λ _ j=>Kb ?_)
   have⟨v25,p25,h⟩:=bs h
   refine j.zo [(0,0)] (λ _ _ j=>Ka ?_)
   have⟨v28,p28,h⟩:=bs h
   refine j.zh 6 [(0,0)] (λ _ _ j=>?_) (hs:=sc Z (oM Z (tp Z))<|sc Z (oM Z (tp Z))<|sc Z (oM Z (tp Z))<|sc Z (zF (l:=[.tmp 36]) Z (.cons (tp Z) .nil) (j7 p28))<|sc Z (xIaN Z kS57 Z (tp Z) hA0 (xf p9))<|sc Z (xFa Z kF177_3 (tp Z))<|.nil)
   refine j.stF (sb:=0) 0 (((PV.root.row Z hA0 (xf p9)).conv (upd':=λ z=>(s4.1.set s4.2.2.toNat z)) (λ _=>by simp only[List.set_set])).fld Stmt.z3) (tp Z) (tp Z) [1,5] [] (λ _ j=>Kb ?_)
   have⟨v32,p32,h⟩:=bs h
   refine j.zo [(0,0)] (λ _ _ j=>Ka ?_)
   refine j.zh 5 [(0,0)] (λ _ _ j=>?_) (hs:=sc Z (oM Z (tp Z))<|sc Z (oM Z (tp Z))<|sc Z (oM Z (tp Z))<|sc Z (xIaN Z kS57 Z (tp Z) hA0 (xf p9))<|sc Z (xFa Z kF177_4 (tp Z))<|.nil)
   refine j.stF (sb:=0) 0 (((PV.root.row Z hA0 (xf p9)).conv (upd':=λ z=>(s4.1.set s4.2.2.toNat z)) (λ _=>by simp only[List.set_set])).fld Stmt.z4) (tp Z) (tp Z) [1,5] [] (λ _ j=>Kb ?_)
   have⟨v37,p37,h⟩:=bs h
   refine j.zo [(0,0)] λ _ _ j=>?_
   have⟨v40,p40,h⟩:=bs h
   exact j.zn [(0,0)] h
  have h:=lo h hx4
  cases h
  exact fz
 rintro _ _ ⟨_,Q,j⟩
 have h:=k2
 refine j.zo [(0,0)] λ _ _ j=>?_
 exact j.rsF (s:=0) 0 iI h wE
def wQ(s4:(List Int)×Int×Int):Option (((List Int)×Int×Int)⊕((List Int)×Int)):=
if(cmpI .lss s4.2.2 (s4.1.length:Int))=true then((atI s4.1 s4.2.2).bind λ _v9=>
(i64 (s4.2.1+(1:Int))).bind λ v13=>
(i64 (s4.2.2+(1:Int))).bind λ v16=>
some (.inl ((s4.1.set s4.2.2.toNat s4.2.1),v13,v16)))
else(some (.inr (s4.1,s4.2.1)))
def ZK(x0:List Int)(x1:Int):Option ((List Int)×Int):=
Option.bind (α:=(List Int)×Int) (zE (λ s4=>wQ s4) (x0,x1,(0:Int))) λ o2=>
some (o2.1,o2.2)
theorem QM{x0:List Int}{r:(List Int)×Int}(h:ZK x0 x1=some r):FnS prog 18 (Ow.row 3 (Ow.frz (α:=Int))) x0 [dt x1] r.1 (.frz (dt r.2)):=by
 refine fnSR (fn:=f18) 0 1 func18 Z Z (λ M G w0 g0 A0 c0 _ hA0 j=>wqw ?_)
 refine j.zo [(0,0)] (λ _ _ j=>za ?_)
 have⟨o2,p2,k2⟩:=bs h
 refine wqj (λ a w=>∃ M1 Q,Sx (Frm.chg w0 G) 19 M M1 [Q] [(1,dt o2.2)] [(0,0,dnm (Ow.row 3 (Ow.frz (α:=Int))) Q o2.1 (.slice A0 x0.length c0) [])] a w) ?_ ?_
 ·refine j.zo [(0,0)] λ _ _ j=>?_
  refine wql p2 (λ s4 a w=>∃ M1 Q,Sx (Frm.chg w0 G) 19 M M1 [Q] [(1,dt s4.2.1),(5,dt s4.2.2)] [(0,0,dnm (Ow.row 3 (Ow.frz (α:=Int))) Q s4.1 (.slice A0 x0.length c0) [])] a w) fx ?_
  rintro s4 z4 _ _ ⟨_,Q,j⟩ hs4 hx4
  have h:wQ s4=some z4:=hs4
  unfold wQ at h
  refine j.zd [(0,0)] h (λ _ _ j h=>?_) (λ _ _ j h=>?_) (hs:=sc Z (oM Z (tp Z))<|sc Z (oM Z (tp Z))<|sc Z (xLeN Z kL25 Z)<|sc Z (oCI Z (tp Z) (tp Z))<|.nil)
  ·refine Ka ?_
   have⟨v9,p9,h⟩:=bs h
   refine j.zh 4 [(0,0)] (λ _ _ j=>?_) (hs:=sc Z (oM Z (tp Z))<|sc Z (oM Z (tp Z))<|sc Z (oM Z (tp Z))<|sc Z (xIaN Z kS25 Z (tp Z) hA0 p9)<|.nil)
   refine j.stF (sb:=0) 0 (PV.root.row Z hA0 p9) (tp Z) (tp Z) [1,5] [] (λ _ j=>Kb ?_)
   have⟨v13,p13,h⟩:=bs h
   refine j.zo [(0,0)] λ _ _ j=>?_
   have⟨v16,p16,h⟩:=bs h
   exact j.zn [(0,0)] h
  have h:=lo h hx4
  cases h
  exact fz
 rintro _ _ ⟨_,Q,j⟩
 have h:=k2
 refine j.zo [(0,0)] λ _ _ j=>?_
 exact j.rsF (s:=0) 0 iI h wE
def wR(x0:List Int)(s4:Int×Int):Option ((Int×Int)⊕(Int⊕Int)):=
if(cmpI .lss s4.2 (x0.length:Int))=true then((atI x0 s4.2).bind λ v9=>
if cmpI .neq v9 s4.1 then(some (.inr (.inr (-1:Int))))
else((i64 (s4.1+(1:Int))).bind λ v17=>
(i64 (s4.2+(1:Int))).bind λ v20=>
some (.inl (v17,v20))))
else(some (.inr (.inl s4.1)))
def ZL(x0:List Int)(x1:Int):Option Int:=
Option.bind (α:=Int⊕Int) (zE (λ s4=>wR x0 s4) (x1,(0:Int))) (Sum.elim (λ b2=>
some b2) some)
theorem zdn{x0:List Int}{r:Int}(h:ZL x0 x1=some r):Fn prog 59 [dt x0,dt x1] (dt r):=by
 refine fq1 0 func59 λ M w0 _ j=>?_
 refine j.z1 (λ _ _ j=>za ?_)
 refine j.jb [] (λ b2=>[(1,dt b2)]) h (λ o2 p2 k2=>?_) λ b2 _ _ j h=>?_
 ·refine j.z1 λ _ _ j=>?_
  refine wql p2 (λ s4 a w=>Sx (Frm.of w0) 21 M M [] [(0,dt x0),(1,dt s4.1),(5,dt s4.2)] [] a w) (j.sel0 [0,1,5]) ?_
  rintro s4 z4 _ _ j hs4 hx4
  have h:wR x0 s4=some z4:=hs4
  unfold wR at h
  refine j.zc h (λ _ _ j h=>?_) λ _ _ j h=>?_
  ·have⟨v9,p9,h⟩:=bs h
   refine j.zc h (λ _ _ j h=>?_) λ _ _ j h=>?_
   ·exact j.ze (jo (lo h hx4) k2)
   have⟨v17,p17,h⟩:=bs h
   refine j.z1 λ _ _ j=>?_
   have⟨v20,p20,h⟩:=bs h
   exact j.zn [] h
  have h:=lo h hx4
  exact flz h
 exact j.ze h
instance:Ct2 prog 59 dt dt dt ZL:=⟨λ h=>zdn h⟩
def Xx(x0:GAct)(x1:Int):Option Int:=
(ZS x0.file x1).bind λ v2=>
if cmpI .lss v2 0 then(some (-1:Int))
else((i64 (v2 - (x0.name.l.length:Int))).bind λ v9=>
if cmpI .lss v9 0 then(some (-1:Int))
else(some v9))
theorem laws_szAct_w{x0:GAct}{r:Int}(h:Xx x0 x1=some r):Fn prog 76 [dt x0,dt x1] (dt r):=by
 refine fq1 0 func76 λ M _ _ j=>?_
 refine j.z1 λ _ _ j=>?_
 have⟨v2,p2,h⟩:=bs h
 refine j.z1 λ _ _ j=>?_
 refine j.zc h (λ _ _ j h=>?_) λ _ _ j h=>?_
 ·exact j.ze h
 have⟨v9,p9,h⟩:=bs h
 refine j.z1 λ _ _ j=>?_
 refine j.zc h (λ _ _ j h=>?_) λ _ _ j h=>?_
 ·exact j.ze h
 exact j.ze h
instance:Ct2 prog 76 dt dt dt Xx:=⟨λ h=>laws_szAct_w h⟩
def Zn(x0:List GAct)(s11:Int×Int):Option ((Int×Int)⊕(Int⊕Int)):=
if(cmpI .lss s11.2 (x0.length:Int))=true then((atI x0 s11.2).bind λ v16=>
(Xx v16 s11.1).bind λ v17=>
if cmpI .lss v17 0 then(some (.inr (.inr (-1:Int))))
else((i64 (s11.2+(1:Int))).bind λ v27=>
some (.inl (v17,v27))))
else(some (.inr (.inl s11.1)))
def YQ(x0:List GAct)(x1:Int):Option Int:=
(i64 (x1 - (x0.length:Int))).bind λ v2=>
if cmpI .lss v2 0 then(some (-1:Int))
else(Option.bind (α:=Int⊕Int) (zE (λ s11=>Zn x0 s11) (v2,(0:Int))) (Sum.elim (λ b9=>
some b9) some))
theorem za6{r:Int}(h:YQ x0 x1=some r):Fn prog 29 [dt x0,dt x1] (dt r):=by
 refine fq1 0 func29 λ M w0 _ j=>?_
 refine j.z1 λ _ _ j=>?_
 have⟨v2,p2,h⟩:=bs h
 refine j.z1 λ _ _ j=>?_
 refine j.zc h (λ _ _ j h=>?_) λ _ _ j h=>?_
 ·exact j.ze h
 refine wqk (za ?_)
 refine j.jb [] (λ b9=>[(1,dt b9)]) h (λ o9 p9 k9=>?_) λ b9 _ _ j h=>?_
 ·refine j.z1 λ _ _ j=>?_
  refine wql p9 (λ s11 a w=>Sx (Frm.of w0) 27 M M [] [(0,dt x0),(1,dt s11.1),(5,dt s11.2)] [] a w) (j.sel0 [0,1,5]) ?_
  rintro s11 z11 _ _ j hs11 hx11
  have h:Zn x0 s11=some z11:=hs11
  unfold Zn at h
  refine j.zc h (λ _ _ j h=>?_) λ _ _ j h=>?_
  ·have⟨v16,p16,h⟩:=bs h
   have⟨v17,p17,h⟩:=bs h
   refine j.z1 λ _ _ j=>?_
   refine j.zc h (λ _ _ j h=>?_) λ _ _ j h=>?_
   ·exact j.ze (jo (lo h hx11) k9)
   have⟨v27,p27,h⟩:=bs h
   exact j.zn [] h
  have h:=lo h hx11
  exact flz h
 exact j.ze h
instance:Ct2 prog 29 dt dt dt YQ:=⟨λ h=>za6 h⟩
def WH(x0:GAct):Option GAct:=
(X6 x0.file).bind λ v8=>
some (⟨x0.kind,v8,x0.index,x0.name⟩:GAct)
theorem laws_toAct_w{x0:GAct}{r:GAct}(h:WH x0=some r):FnN prog 77 [dt x0] (.ow (owGAct (owFile (Ow.row 177 (Ow.frz (α:=Stmt))))) r):=by
 refine fnN (fn:=f77) 3 func77 Z Z (λ M _ _ j=>wqw (Ka ?_))
 refine j.zg 1 λ _ _ j=>?_
 refine j.alcW (ow:=(owGAct (owFile (Ow.row 177 (Ow.frz (α:=Stmt)))))) 1 (owGAct.z (owFile.z Ow.row_z)) [1] [] (λ b2 _ _ _ j=>Kb (Ka ?_))
 refine j.alcW (ow:=(owGAct (owFile (Ow.row 177 (Ow.frz (α:=Stmt)))))) 2 (owGAct.z (owFile.z Ow.row_z)) [1] [2] (λ b3 _ _ _ j=>Kb (Ka ?_))
 refine j.zh 3 [(2,1),(3,2)] (λ _ _ j=>?_) (hs:=sZ 2 (r:=by exact sc Z (xFa Z kF61_0 (zD Z))<|.nil))
 refine j.sfA 3 2 ((PV.root.box Z).fld owGAct.f0) (tp Z) (tp Z) [1] [2] (λ _ j=>Kb (Ka ?_))
 refine j.zh 2 [(2,1),(3,2)] λ _ _ j=>?_
 have⟨v8,p8,h⟩:=bs h
 refine j.cN (l:=[.tmp 8]) 0 (.cons (tp Z) .nil) (laws_toFile_w p8) [1] [2,3] λ _ _ _ _ j=>?_
 refine j.zh 1 [(2,1),(3,2),(9,0)] (λ _ _ j=>?_) (hs:=sc Z (xFa Z zbr (zD Z))<|.nil)
 refine j.stO (sb:=3) (tv:=9) 2 0 ((PV.root.box Z).fld owGAct.f1) (tp Z) [1] [2] (λ _ _ j=>Kb (Ka ?_))
 refine j.zh 3 [(2,1),(3,2)] (λ _ _ j=>?_) (hs:=sZ 2 (r:=by exact sc Z (xFa Z kF61_2 (zD Z))<|.nil))
 refine j.sfA 3 2 ((PV.root.box Z).fld owGAct.f2) (tp Z) (tp Z) [1] [2] (λ _ j=>Kb (Ka ?_))
 refine j.zh 3 [(2,1),(3,2)] (λ _ _ j=>?_) (hs:=sZ 2 (r:=by exact sc Z (xFa Z kF61_3 (zD Z))<|.nil))
 refine j.sfA 3 2 ((PV.root.box Z).fld owGAct.f3) (tp Z) (tp Z) [] [2] (λ _ j=>Kb (Ka ?_))
 refine j.ldW (sb:=3) 2 [] [2] λ _ _ j=>?_
 refine j.stO (sb:=2) (tv:=17) 1 2 (PV.root.box Z) (zD Z) [] [] (λ _ _ j=>Kb ?_)
 exact j.rnC 1 iI h
def jJ(x0:List GAct)(s11:(List GAct)×Int):Option (((List GAct)×Int)⊕(List GAct)):=
if(cmpI .lss s11.2 (x0.length:Int))=true then((atI x0 s11.2).bind λ v17=>
(WH v17).bind λ v21=>
(atI s11.1 s11.2).bind λ _v23=>
(i64 (s11.2+(1:Int))).bind λ v27=>
some (.inl ((s11.1.set s11.2.toNat v21),v27)))
else(some (.inr s11.1))
def qE(x0:List GAct):Option (List GAct):=
(QC 9 112 (x0.length:Int) zGAct).bind λ v4=>
Option.bind (α:=(List GAct)) (zE (λ s11=>jJ x0 s11) (v4,(0:Int))) λ o8=>
some o8
theorem X7{r:List GAct}(h:qE x0=some r):FnN prog 30 [dt x0] (.ow (Ow.row 61 (owGAct (owFile (Ow.row 177 (Ow.frz (α:=Stmt)))))) r):=by
 refine fnN (fn:=f30) 2 func30 Z Z (λ M w0 _ j=>wqw ?_)
 refine j.rg2 (sc Z (oA Z (jl (α:=GAct)))<|.nil) [0] (λ _ _ j=>Ka ?_)
 refine j.segA 2 [0,6] [] λ _ _ j=>?_
 have⟨v4,p4,h⟩:=bs h
 refine j.makeW (ow:=(owGAct (owFile (Ow.row 177 (Ow.frz (α:=Stmt)))))) 0 Z Z kE51 kZ61 (owGAct.z (owFile.z Ow.row_z)) Z p4 [0] Z [] Z Z λ _ _ _ _ j=>?_
 refine j.nmR (s:=7) 0 [] λ g6 A6 _ hA6 j=>?_
 refine j.segA 1 [0] [(3,0)] (λ _ _ j=>Kb (za ?_))
 have⟨o8,p8,k8⟩:=bs h
 refine wqj (λ a w=>∃ M1 Q R,Sx (Frm.of w0) 23 M M1 [Q,R] [] [(3,0,dow (Ow.row 61 (owGAct (owFile (Ow.row 177 (Ow.frz (α:=Stmt)))))) Q o8)] a w) ?_ ?_
 ·refine j.rgA [0,4] [(3,0)] λ _ _ j=>?_
  have j:=j.unm (s:=3) 0 []
  refine wql p8 (λ s11 a w=>∃ M1 Q R,Sx (Frm.of w0) 23 M M1 [Q,R] [(0,dt x0),(4,dt s11.2)] [(3,0,dow (Ow.row 61 (owGAct (owFile (Ow.row 177 (Ow.frz (α:=Stmt)))))) Q s11.1)] a w) fx ?_
  rintro s11 z11 _ _ ⟨_,Q,R,j⟩ hs11 hx11
  have h:jJ x0 s11=some z11:=hs11
  unfold jJ at h
  refine j.rgA [0,4,11] [(3,0)] λ _ _ j=>?_
  refine j.cq h (λ h=>?_) λ h=>?_
  ·refine Ka ?_
   have⟨v17,p17,h⟩:=bs h
   refine j.nmR (s:=3) 0 [] λ g16 A16 _ hA16 j=>?_
   refine j.segA 6 [0,4,15,19] [(3,0),(14,0)] λ _ _ j=>?_
   have⟨v21,p21,h⟩:=bs h
   refine j.cN (l:=[.tmp 19]) 1 (.cons (tp Z) .nil) (laws_toAct_w p21) [0,4,15] [3,14] λ _ _ _ _ j=>?_
   have⟨v23,p23,h⟩:=bs h
   refine j.segB 1 (sc Z (xIaN Z kS51 Z (tp Z) hA16 p23)<|.nil) [0,4,21] [(3,0),(14,0),(20,1)] λ _ _ j=>?_
   refine j.stO (sb:=3) (tv:=20) 0 1 (PV.root.row Z hA16 p23) (tp Z) [0,4] [] (λ _ _ j=>Kb ?_)
   have⟨v27,p27,h⟩:=bs h
   refine j.rgA [0,4] [(3,0)] λ _ _ j=>?_
   have j:=j.unm (s:=3) 0 []
   exact flz h
  have h:=lo h hx11
  cases h
  exact fz
 rintro _ _ ⟨_,Q,R,j⟩
 have h:=k8
 refine j.nmR (s:=3) 0 [] λ g33 A33 _ hA33 j=>?_
 refine j.rgA [] [(2,0)] λ _ _ j=>?_
 have j:=j.unm (s:=2) 0 []
 exact j.rnO 0 h
def Xy(x0:GAct)(x1:GAct):Option Bool:=
if cmpI .neq x0.kind x1.kind then(some false)
else((ZT x0.file x1.file).bind λ v6=>
if(!v6)=true then(some false)
else(if cmpI .neq x0.index x1.index then(some false)
else(if(decide (x0.name≠x1.name))=true then(some false)
else(some true))))
theorem laws_eqAct_w{x0:GAct}{x1:GAct}(h:Xy x0 x1=some r):Fn prog 78 [dt x0,dt x1] (dt r):=by
 refine fq1 0 func78 λ M _ _ j=>?_
 refine j.z1 λ _ _ j=>?_
 refine j.zc h (λ _ _ j h=>?_) λ _ _ j h=>?_
 ·exact j.ze h
 have⟨v6,p6,h⟩:=bs h
 refine j.zc h (λ _ _ j h=>?_) λ _ _ j h=>?_
 ·exact j.ze h
 refine j.zc h (λ _ _ j h=>?_) λ _ _ j h=>?_
 ·exact j.ze h
 refine j.zc h (λ _ _ j h=>?_) λ _ _ j h=>?_
 ·exact j.ze h
 exact j.ze h
instance:Ct2 prog 78 dt dt dt Xy:=⟨λ h=>laws_eqAct_w h⟩
def Zo(x0:List GAct)(x1:List GAct)(s8:Int):Option (Int⊕(Unit⊕Bool)):=
if(cmpI .lss s8 (x0.length:Int))=true then((atI x0 s8).bind λ v13=>
(atI x1 s8).bind λ v14=>
(Xy v13 v14).bind λ v15=>
if(!v15)=true then(some (.inr (.inr false)))
else((i64 (s8+(1:Int))).bind λ v25=>
some (.inl v25)))
else(some (.inr (.inl ())))
def ZU(x0:List GAct)(x1:List GAct):Option Bool:=
if(cmpI .neq (x0.length:Int) (x1.length:Int))=true then(some false)
else(Option.bind (α:=Unit⊕Bool) (zE (λ s8=>Zo x0 x1 s8) (0:Int)) (Sum.elim (λ _b6=>
some true) some))
theorem za7{x1:List GAct}(h:ZU x0 x1=some r):Fn prog 32 [dt x0,dt x1] (dt r):=by
 refine fq1 0 func32 λ M w0 _ j=>?_
 refine j.z1 λ _ _ j=>?_
 refine j.zc h (λ _ _ j h=>?_) λ _ _ j h=>?_
 ·exact j.ze h
 refine wqk (za ?_)
 refine j.jb [] (λ _=>[]) h (λ o6 p6 k6=>?_) λ b6 _ _ j h=>?_
 ·refine j.z1 λ _ _ j=>?_
  refine wql p6 (λ s8 a w=>Sx (Frm.of w0) 27 M M [] [(0,dt x0),(1,dt x1),(5,dt s8)] [] a w) (j.sel0 [0,1,5]) ?_
  rintro s8 z8 _ _ j hs8 hx8
  have h:Zo x0 x1 s8=some z8:=hs8
  unfold Zo at h
  refine j.zc h (λ _ _ j h=>?_) λ _ _ j h=>?_
  ·have⟨v13,p13,h⟩:=bs h
   have⟨v14,p14,v15,p15,h⟩:=Kg h
   refine j.zw λ _ _ j=>?_
   refine j.cq h (λ h=>?_) λ h=>?_
   ·exact j.ze (jo (lo h hx8) k6)
   have⟨v25,p25,h⟩:=bs h
   exact j.zn [] h
  have h:=lo h hx8
  exact flz h
 exact j.ze h
instance:Ct2 prog 32 dt dt dt ZU:=⟨λ h=>za7 h⟩
def wS(s4:(List GAct)×Int×Int):Option (((List GAct)×Int×Int)⊕((List GAct)×Int)):=
if(cmpI .lss s4.2.2 (s4.1.length:Int))=true then((atI s4.1 s4.2.2).bind λ v9=>
(i64 (s4.2.1+(1:Int))).bind λ v13=>
(i64 (v13+(1:Int))).bind λ v18=>
(yY v18).bind λ v21=>
(i64 (v18+(1:Int))).bind λ v25=>
(yY v25).bind λ v28=>
(i64 (v25+(1:Int))).bind λ v32=>
(modO v32 (3:Int)).bind λ v35=>
(i64 (v32+(1:Int))).bind λ v39=>
(i64 (v39+(1:Int))).bind λ v44=>
(Yw v9.file.body v44).bind λ v50=>
(i64 (v50.2+(1:Int))).bind λ v55=>
(yY v55).bind λ v58=>
(i64 (v55+(1:Int))).bind λ v62=>
(i64 (s4.2.2+(1:Int))).bind λ v65=>
some (.inl ((s4.1.set s4.2.2.toNat (⟨s4.2.1,{ ({ ({ ({ ({ ({ v9.file with root:=v13 }) with pkg:=v21 }) with name:=v28 }) with init:=cmpI .eql v35 0 }) with stamp:=v39 }) with body:=v50.1 },v50.2,v58⟩:GAct)),v62,v65)))
else(some (.inr (s4.1,s4.2.1)))
def YU(x0:List GAct)(x1:Int):Option ((List GAct)×Int):=
Option.bind (α:=(List GAct)×Int) (zE (λ s4=>wS s4) (x0,x1,(0:Int))) λ o2=>
some (o2.1,o2.2)
theorem zdo{r:(List GAct)×Int}(h:YU x0 x1=some r):FnS prog 33 (Ow.row 61 (owGAct (owFile (Ow.row 177 (Ow.frz (α:=Stmt)))))) x0 [dt x1] r.1 (.frz (dt r.2)):=by
 refine fnSR (fn:=f33) 0 1 func33 Z Z (λ M G w0 g0 A0 c0 _ hA0 j=>wqw ?_)
 refine j.zo [(0,0)] (λ _ _ j=>za ?_)
 have⟨o2,p2,k2⟩:=bs h
 refine wqj (λ a w=>∃ M1 Q,Sx (Frm.chg w0 G) 87 M M1 [Q] [(1,dt o2.2)] [(0,0,dnm (Ow.row 61 (owGAct (owFile (Ow.row 177 (Ow.frz (α:=Stmt)))))) Q o2.1 (.slice A0 x0.length c0) [])] a w) ?_ ?_
 ·refine j.zo [(0,0)] λ _ _ j=>?_
  refine wql p2 (λ s4 a w=>∃ M1 Q,Sx (Frm.chg w0 G) 87 M M1 [Q] [(1,dt s4.2.1),(5,dt s4.2.2)] [(0,0,dnm (Ow.row 61 (owGAct (owFile (Ow.row 177 (Ow.frz (α:=Stmt)))))) Q s4.1 (.slice A0 x0.length c0) [])] a w) fx ?_
  rintro s4 z4 _ _ ⟨_,Q,j⟩ hs4 hx4
  have h:wS s4=some z4:=hs4
  unfold wS at h
  refine j.zd [(0,0)] h (λ _ _ j h=>?_) (λ _ _ j h=>?_) (hs:=sc Z (oM Z (tp Z))<|sc Z (oM Z (tp Z))<|sc Z (xLeN Z kL51 Z)<|sc Z (oCI Z (tp Z) (tp Z))<|.nil)
  ·refine Ka ?_
   have⟨v9,p9,h⟩:=bs h
   refine j.zh 5 [(0,0)] (λ _ _ j=>?_) (hs:=sc Z (oM Z (tp Z))<|sc Z (oM Z (tp Z))<|sc Z (oM Z (tp Z))<|sc Z (xIaN Z kS51 Z (tp Z) hA0 p9)<|sc Z (xFa Z kF61_0 (tp Z))<|.nil)
   refine j.stF (sb:=0) 0 ((PV.root.row Z hA0 p9).fld owGAct.f0) (tp Z) (tp Z) [1,5] [] (λ _ j=>Kb ?_)
   have⟨v13,p13,h⟩:=bs h
   refine j.zo [(0,0)] (λ _ _ j=>Ka ?_)
   refine j.zh 6 [(0,0)] (λ _ _ j=>?_) (hs:=sc Z (oM Z (tp Z))<|sc Z (oM Z (tp Z))<|sc Z (oM Z (tp Z))<|sc Z (xIaN Z kS51 Z (tp Z) hA0 (xf p9))<|sc Z (xFa Z zbr (tp Z))<|sc Z (xFa Z kF59_0 (tp Z))<|.nil)
   refine j.stF (sb:=0) 0 ((((PV.root.row Z hA0 (xf p9)).conv (upd':=λ z=>(s4.1.set s4.2.2.toNat z)) (λ _=>by simp only[List.set_set])).fld owGAct.f1).fld owFile.f0) (tp Z) (tp Z) [1,5] [] (λ _ j=>Kb ?_)
   have⟨v18,p18,h⟩:=bs h
   refine j.zo [(0,0)] (λ _ _ j=>Ka ?_)
   have⟨v21,p21,h⟩:=bs h
   refine j.zh 7 [(0,0)] (λ _ _ j=>?_) (hs:=sc Z (oM Z (tp Z))<|sc Z (oM Z (tp Z))<|sc Z (oM Z (tp Z))<|sc Z (zF (l:=[.tmp 29]) Z (.cons (tp Z) .nil) (j7 p21))<|sc Z (xIaN Z kS51 Z (tp Z) hA0 (xf p9))<|sc Z (xFa Z zbr (tp Z))<|sc Z (xFa Z kF59_1 (tp Z))<|.nil)
   refine j.stF (sb:=0) 0 ((((PV.root.row Z hA0 (xf p9)).conv (upd':=λ z=>(s4.1.set s4.2.2.toNat z)) (λ _=>by simp only[List.set_set])).fld owGAct.f1).fld owFile.f1) (tp Z) (tp Z) [1,5] [] (λ _ j=>Kb ?_)
   have⟨v25,p25,h⟩:=bs h
   refine j.zo [(0,0)] (λ _ _ j=>Ka ?_)
   have⟨v28,p28,h⟩:=bs h
   refine j.zh 7 [(0,0)] (λ _ _ j=>?_) (hs:=sc Z (oM Z (tp Z))<|sc Z (oM Z (tp Z))<|sc Z (oM Z (tp Z))<|sc Z (zF (l:=[.tmp 38]) Z (.cons (tp Z) .nil) (j7 p28))<|sc Z (xIaN Z kS51 Z (tp Z) hA0 (xf p9))<|sc Z (xFa Z zbr (tp Z))<|sc Z (xFa Z kF59_2 (tp Z))<|.nil)
   refine j.stF (sb:=0) 0 ((((PV.root.row Z hA0 (xf p9)).conv (upd':=λ z=>(s4.1.set s4.2.2.toNat z)) (λ _=>by simp only[List.set_set])).fld owGAct.f1).fld owFile.f2) (tp Z) (tp Z) [1,5] [] (λ _ j=>Kb ?_)
   have⟨v32,p32,h⟩:=bs h
   refine j.zo [(0,0)] (λ _ _ j=>Ka ?_)
   have⟨v35,p35,h⟩:=bs h
   refine j.zh 8 [(0,0)] (λ _ _ j=>?_) (hs:=sc Z (oM Z (tp Z))<|sc Z (oM Z (tp Z))<|sc Z (oM Z (tp Z))<|sc Z (xMod Z (tp Z) cI p35)<|sc Z (oCI Z (tp Z) cI)<|sc Z (xIaN Z kS51 Z (tp Z) hA0 (xf p9))<|sc Z (xFa Z zbr (tp Z))<|sc Z (xFa Z kF59_3 (tp Z))<|.nil)
   refine j.stF (sb:=0) 0 ((((PV.root.row Z hA0 (xf p9)).conv (upd':=λ z=>(s4.1.set s4.2.2.toNat z)) (λ _=>by simp only[List.set_set])).fld owGAct.f1).fld owFile.f3) (tp Z) (tp Z) [1,5] [] (λ _ j=>Kb ?_)
   have⟨v39,p39,h⟩:=bs h
   refine j.zo [(0,0)] (λ _ _ j=>Ka ?_)
   refine j.zh 6 [(0,0)] (λ _ _ j=>?_) (hs:=sc Z (oM Z (tp Z))<|sc Z (oM Z (tp Z))<|sc Z (oM Z (tp Z))<|sc Z (xIaN Z kS51 Z (tp Z) hA0 (xf p9))<|sc Z (xFa Z zbr (tp Z))<|sc Z (xFa Z kF59_4 (tp Z))<|.nil)
   refine j.stF (sb:=0) 0 ((((PV.root.row Z hA0 (xf p9)).conv (upd':=λ z=>(s4.1.set s4.2.2.toNat z)) (λ _=>by simp only[List.set_set])).fld owGAct.f1).fld owFile.f4) (tp Z) (tp Z) [1,5] [] (λ _ j=>Kb ?_)
   have⟨v44,p44,h⟩:=bs h
   refine j.zo [(0,0)] (λ _ _ j=>Ka ?_)
   refine j.hdA 0 0 ((((PV.root.row Z hA0 (xf p9)).conv (upd':=λ z=>(s4.1.set s4.2.2.toNat z)) (λ _=>by simp only[List.set_set])).fld owGAct.f1).fld owFile.f5) [] λ g47 A47 _ hA47 j=>?_
   refine j.zh 7 [(0,0)] (λ _ _ j=>?_) (hs:=sc Z (oM Z (tp Z))<|sc Z (oM Z (tp Z))<|sc Z (xIaN Z kS51 Z (tp Z) hA0 (xf p9))<|sc Z (xFa Z zbr (tp Z))<|sc Z (xFa Z kF59_5 (tp Z))<|sc Z (xLc (sb:=0) (.head _) Z Z Z (tp Z) Z)<|sc Z (oM Z (tp Z))<|.nil)
   have⟨v50,p50,h⟩:=bs h
   refine j.cSF (l:=[.tmp 69]) 0 (j.bkH (sb:=0) ((((PV.root.row Z hA0 (xf p9)).conv (upd':=λ z=>(s4.1.set s4.2.2.toNat z)) (λ _=>by simp only[List.set_set])).fld owGAct.f1).fld owFile.f5) (.head _) Z (yh Z Z) Z iI) Z Z kN79 (j.st.has 68 _ Z) (by simp) (.cons (tp Z) .nil) (zcQ p50) [1,5] Z [] Z Z (by decide) λ _ _ _ _ j=>?_
   refine j.zh 1 [(0,0)] (λ _ _ j=>Kb (Ka ?_))
   refine j.zh 5 [(0,0)] (λ _ _ j=>?_) (hs:=sc Z (oM Z (tp Z))<|sc Z (oM Z (tp Z))<|sc Z (oM Z (tp Z))<|sc Z (xIaN Z kS51 Z (tp Z) hA0 (xf p9))<|sc Z (xFa Z kF61_2 (tp Z))<|.nil)
   refine j.stF (sb:=0) 0 (((PV.root.row Z hA0 (xf p9)).conv (upd':=λ z=>(s4.1.set s4.2.2.toNat z)) (λ _=>by simp only[List.set_set])).fld owGAct.f2) (tp Z) (tp Z) [1,5] [] (λ _ j=>Kb ?_)
   have⟨v55,p55,h⟩:=bs h
   refine j.zo [(0,0)] (λ _ _ j=>Ka ?_)
   have⟨v58,p58,h⟩:=bs h
   refine j.zh 6 [(0,0)] (λ _ _ j=>?_) (hs:=sc Z (oM Z (tp Z))<|sc Z (oM Z (tp Z))<|sc Z (oM Z (tp Z))<|sc Z (zF (l:=[.tmp 80]) Z (.cons (tp Z) .nil) (j7 p58))<|sc Z (xIaN Z kS51 Z (tp Z) hA0 (xf p9))<|sc Z (xFa Z kF61_3 (tp Z))<|.nil)
   refine j.stF (sb:=0) 0 (((PV.root.row Z hA0 (xf p9)).conv (upd':=λ z=>(s4.1.set s4.2.2.toNat z)) (λ _=>by simp only[List.set_set])).fld owGAct.f3) (tp Z) (tp Z) [1,5] [] (λ _ j=>Kb ?_)
   have⟨v62,p62,h⟩:=bs h
   refine j.zo [(0,0)] λ _ _ j=>?_
   have⟨v65,p65,h⟩:=bs h
   exact j.zn [(0,0)] h
  have h:=lo h hx4
  cases h
  exact fz
 rintro _ _ ⟨_,Q,j⟩
 have h:=k2
 refine j.zo [(0,0)] λ _ _ j=>?_
 exact j.rsF (s:=0) 0 iI h wE
def qr(x0:List (List Int))(x1:List (List Int))(s8:Int):Option (Int⊕(Unit⊕Bool)):=
if(cmpI .lss s8 (x0.length:Int))=true then((atI x0 s8).bind λ v13=>
(atI x1 s8).bind λ v14=>
(qD v13 v14).bind λ v15=>
if(!v15)=true then(some (.inr (.inr false)))
else((i64 (s8+(1:Int))).bind λ v25=>
some (.inl v25)))
else(some (.inr (.inl ())))
def wk(x0:List (List Int))(x1:List (List Int)):Option Bool:=
if(cmpI .neq (x0.length:Int) (x1.length:Int))=true then(some false)
else(Option.bind (α:=Unit⊕Bool) (zE (λ s8=>qr x0 x1 s8) (0:Int)) (Sum.elim (λ _b6=>
some true) some))
theorem Xz{x0:List (List Int)}{x1:List (List Int)}(h:wk x0 x1=some r):Fn prog 31 [dt x0,dt x1] (dt r):=by
 refine fq1 0 func31 λ M w0 _ j=>?_
 refine j.z1 λ _ _ j=>?_
 refine j.zc h (λ _ _ j h=>?_) λ _ _ j h=>?_
 ·exact j.ze h
 refine wqk (za ?_)
 refine j.jb [] (λ _=>[]) h (λ o6 p6 k6=>?_) λ b6 _ _ j h=>?_
 ·refine j.z1 λ _ _ j=>?_
  refine wql p6 (λ s8 a w=>Sx (Frm.of w0) 27 M M [] [(0,dt x0),(1,dt x1),(5,dt s8)] [] a w) (j.sel0 [0,1,5]) ?_
  rintro s8 z8 _ _ j hs8 hx8
  have h:qr x0 x1 s8=some z8:=hs8
  unfold qr at h
  refine j.zc h (λ _ _ j h=>?_) λ _ _ j h=>?_
  ·have⟨v13,p13,h⟩:=bs h
   have⟨v14,p14,v15,p15,h⟩:=Kg h
   refine j.zw λ _ _ j=>?_
   refine j.cq h (λ h=>?_) λ h=>?_
   ·exact j.ze (jo (lo h hx8) k6)
   have⟨v25,p25,h⟩:=bs h
   exact j.zn [] h
  have h:=lo h hx8
  exact flz h
 exact j.ze h
instance:Ct2 prog 31 dt dt dt wk:=⟨λ h=>Xz h⟩
def ww(s4:(List (List Int))×Int×Int):Option (((List (List Int))×Int×Int)⊕((List (List Int))×Int)):=
if(cmpI .lss s4.2.2 (s4.1.length:Int))=true then((atI s4.1 s4.2.2).bind λ v9=>
(ZK v9 s4.2.1).bind λ v14=>
(i64 (s4.2.2+(1:Int))).bind λ v17=>
some (.inl ((s4.1.set s4.2.2.toNat v14.1),v14.2,v17)))
else(some (.inr (s4.1,s4.2.1)))
def Zp(x0:List (List Int))(x1:Int):Option ((List (List Int))×Int):=
Option.bind (α:=(List (List Int))×Int) (zE (λ s4=>ww s4) (x0,x1,(0:Int))) λ o2=>
some (o2.1,o2.2)
theorem zcR{x0:List (List Int)}{r:(List (List Int))×Int}(h:Zp x0 x1=some r):FnS prog 34 (Ow.row 25 (Ow.row 3 (Ow.frz (α:=Int)))) x0 [dt x1] r.1 (.frz (dt r.2)):=by
 refine fnSR (fn:=f34) 0 1 func34 Z Z (λ M G w0 g0 A0 c0 _ hA0 j=>wqw ?_)
 refine j.zo [(0,0)] (λ _ _ j=>za ?_)
 have⟨o2,p2,k2⟩:=bs h
 refine wqj (λ a w=>∃ M1 Q,Sx (Frm.chg w0 G) 19 M M1 [Q] [(1,dt o2.2)] [(0,0,dnm (Ow.row 25 (Ow.row 3 (Ow.frz (α:=Int)))) Q o2.1 (.slice A0 x0.length c0) [])] a w) ?_ ?_
 ·refine j.zo [(0,0)] λ _ _ j=>?_
  refine wql p2 (λ s4 a w=>∃ M1 Q,Sx (Frm.chg w0 G) 19 M M1 [Q] [(1,dt s4.2.1),(5,dt s4.2.2)] [(0,0,dnm (Ow.row 25 (Ow.row 3 (Ow.frz (α:=Int)))) Q s4.1 (.slice A0 x0.length c0) [])] a w) fx ?_
  rintro s4 z4 _ _ ⟨_,Q,j⟩ hs4 hx4
  have h:ww s4=some z4:=hs4
  unfold ww at h
  refine j.zd [(0,0)] h (λ _ _ j h=>?_) (λ _ _ j h=>?_) (hs:=sc Z (oM Z (tp Z))<|sc Z (oM Z (tp Z))<|sc Z (xLeN Z kL54 Z)<|sc Z (oCI Z (tp Z) (tp Z))<|.nil)
  ·refine Ka ?_
   have⟨v9,p9,h⟩:=bs h
   refine j.hdA 0 0 (PV.root.row Z hA0 p9) [] λ g10 A10 _ hA10 j=>?_
   refine j.zh 5 [(0,0)] (λ _ _ j=>?_) (hs:=sc Z (oM Z (tp Z))<|sc Z (oM Z (tp Z))<|sc Z (xIaN Z kS54 Z (tp Z) hA0 p9)<|sc Z (xLc (sb:=0) (.head _) Z Z Z (tp Z) Z)<|sc Z (oM Z (tp Z))<|.nil)
   have⟨v14,p14,h⟩:=bs h
   refine j.cSF (l:=[.tmp 16]) 0 (j.bkH (sb:=0) (PV.root.row Z hA0 p9) (.head _) Z (yh Z Z) Z iI) Z Z kN18 (j.st.has 15 _ Z) (by simp) (.cons (tp Z) .nil) (QM p14) [1,5] Z [] Z Z (by decide) λ _ _ _ _ j=>?_
   refine j.zh 1 [(0,0)] (λ _ _ j=>Kb ?_)
   have⟨v17,p17,h⟩:=bs h
   exact j.zn [(0,0)] h
  have h:=lo h hx4
  cases h
  exact fz
 rintro _ _ ⟨_,Q,j⟩
 have h:=k2
 refine j.zo [(0,0)] λ _ _ j=>?_
 exact j.rsF (s:=0) 0 iI h wE
def wx(x0:List (List Int))(s4:Int×Int):Option ((Int×Int)⊕(Int⊕Int)):=
if(cmpI .lss s4.2 (x0.length:Int))=true then((atI x0 s4.2).bind λ v9=>
(ZL v9 s4.1).bind λ v10=>
if cmpI .lss v10 0 then(some (.inr (.inr (-1:Int))))
else((i64 (s4.2+(1:Int))).bind λ v20=>
some (.inl (v10,v20))))
else(some (.inr (.inl s4.1)))
def xZ(x0:List (List Int))(x1:Int):Option Int:=
Option.bind (α:=Int⊕Int) (zE (λ s4=>wx x0 s4) (x1,(0:Int))) (Sum.elim (λ b2=>
some b2) some)
theorem XW{x0:List (List Int)}{r:Int}(h:xZ x0 x1=some r):Fn prog 35 [dt x0,dt x1] (dt r):=by
 refine fq1 0 func35 λ M w0 _ j=>?_
 refine j.z1 (λ _ _ j=>za ?_)
 refine j.jb [] (λ b2=>[(1,dt b2)]) h (λ o2 p2 k2=>?_) λ b2 _ _ j h=>?_
 ·refine j.z1 λ _ _ j=>?_
  refine wql p2 (λ s4 a w=>Sx (Frm.of w0) 21 M M [] [(0,dt x0),(1,dt s4.1),(5,dt s4.2)] [] a w) (j.sel0 [0,1,5]) ?_
  rintro s4 z4 _ _ j hs4 hx4
  have h:wx x0 s4=some z4:=hs4
  unfold wx at h
  refine j.zc h (λ _ _ j h=>?_) λ _ _ j h=>?_
  ·have⟨v9,p9,h⟩:=bs h
   have⟨v10,p10,h⟩:=bs h
   refine j.z1 λ _ _ j=>?_
   refine j.zc h (λ _ _ j h=>?_) λ _ _ j h=>?_
   ·exact j.ze (jo (lo h hx4) k2)
   have⟨v20,p20,h⟩:=bs h
   exact j.zn [] h
  have h:=lo h hx4
  exact flz h
 exact j.ze h
instance:Ct2 prog 35 dt dt dt xZ:=⟨λ h=>XW h⟩
end Go.Proofs.YtandbaloaenciaaGreatDoor
