import Derived.Test.YtdoidiipacdbpaaGreatDoorRKc
import Derived.Test.YtdoidiipacdbpaaGreatDoorRPb
namespace Go.Proofs.YtdoidiipacdbpaaGreatDoor
open Go.RowKit Tryz
set_option maxRecDepth 10000
set_option maxHeartbeats 1600000
theorem kN37:fnB prog 37=true:=by kernel_rfl
theorem kN32:fnB prog 32=true:=by kernel_rfl
theorem kN39:fnB prog 39=true:=by kernel_rfl
theorem kN41:fnB prog 41=true:=by kernel_rfl
theorem kN42:fnB prog 42=true:=by kernel_rfl
theorem kN43:fnB prog 43=true:=by kernel_rfl
theorem kN44:fnB prog 44=true:=by kernel_rfl
def xy(v6:Finder×Disk)(v17:List Int)(s38:Int):Option (Int⊕(Unit⊕Bool)):=
if(cmpI .lss s38 (v6.1.dirs.length:Int))=true then((atI v6.1.dirs s38).bind λ v43=>
(Zw v6.2.tree v43.root v43.pkg).bind λ v50=>
(wX v43.names v50).bind λ v51=>
(Y5 v17 s38).bind λ v55=>
(Zx v6.2 v43.root v43.pkg).bind λ v56=>
if(v55 != (cmpI .eql v43.stamp v56&&(!v51)))=true then(some (.inr (.inr false)))
else((i64 (s38+(1:Int))).bind λ v65=>
some (.inl v65)))
else(some (.inr (.inl ())))
def qS(x0:List UInt8):Option Bool:=
if(cmpI .gtr (x0.length:Int) (1048576:Int))=true then(some true)
else((wR x0).bind λ v6=>
(wC v6.1 v6.2).bind λ v17=>
(jw v6.1 v6.2).bind λ v20=>
(xL v17 v20).bind λ v21=>
(gO ((!v21) == false) (ya v6.1)).bind λ v22=>
(gO (((!v21)||(!v22)) == false) (yD v6.2)).bind λ v23=>
if(((!v21)||(!v22))||(!v23))=true then((jw v6.1 v6.2).bind λ v31=>
(xL v17 v31).bind λ v32=>
some v32)
else(Option.bind (α:=Unit⊕Bool) (zS (λ s38=>xy v6 v17 s38) (0:Int)) (Sum.elim (λ _b36=>
(Zy v17).bind λ v70=>
some v70) some)))
theorem Qw{x0:List UInt8}{r:Bool}(h:qS x0=some r):Fn prog 7 [dt x0] (dt r):=by
 unfold qS at h
 refine fnx (fn:=f7) 3 func7 rfl (oD rfl) rfl (λ M w0 a0 st0=>?_)
 refine st0.sq0 (sc rfl (oA rfl cB)<|.nil) [0] rfl (λ a1 w1 st1=>wp_seq ?_)
 refine st1.sq0 (sc rfl (oM rfl (tp rfl))<|sc rfl (jJ rfl kL57 (tp rfl))<|sc rfl (oCI rfl (tp rfl) cI)<|.nil) [0,11] rfl (λ a2 w2 st2=>?_)
 refine st2.cs (c:=11) rfl h (λ c3 h3=>?_) (λ c4 h4=>?_)
 ·
  refine st2.sq0 (sc rfl (oA rfl cB)<|.nil) [2] rfl (λ a5 w5 st5=>wp_ret (zd ?_))
  exact st5.ret rfl rfl h3
 refine wp_skip (za (wp_seq (wp_region_list ?_)))
 obtain⟨v6,p6,h7⟩:=bs h4
 refine st2.seg 5 (
  sc rfl (oM rfl (tp rfl))<|sc rfl (zo (l:=[.tmp 13]) rfl kN37 (.cons (tp rfl) .nil) (Jt p6))<|sc rfl (oM rfl (tp rfl))<|sc rfl (xExt (i:=0) rfl (tp rfl) rfl)<|sc rfl (xExt (i:=1) rfl (tp rfl) rfl)<|.nil) [15,16] rfl [] rfl trivial (λ a8 w8 st8=>?_)
 refine st8.alloc 0 rfl rfl kZ35 yB (by simp) [15,16] rfl [] rfl rfl (λ b10 M10 a10 w10 st10=>?_)
 refine st10.alloc 1 rfl rfl kZ45 jh (by simp) [15,16] rfl [3] rfl rfl (λ b12 M12 a12 w12 st12=>?_)
 refine st12.store (sb:=3) 0 FldS.id rfl rfl rfl kT35 rfl rfl (tp rfl) rfl [16] rfl [4] rfl rfl (λ M14 w14 st14=>?_)
 refine st14.store (sb:=4) 1 FldS.id rfl rfl rfl kT45 rfl rfl (tp rfl) rfl [] rfl [3] rfl rfl (λ M16 w16 st16=>wpList_nil (za ?_))
 obtain⟨v17,p17,h18⟩:=bs h7
 refine st16.sq (sc rfl (zf rfl kT35 (tp rfl))<|sc rfl (zf rfl kT45 (tp rfl))<|sc rfl (zo (l:=[.tmp 17,.tmp 18]) rfl kN32 (.cons (tp rfl) (.cons (tp rfl) .nil)) ((YJ p17)).fn)<|sc rfl (oA rfl (tp rfl))<|.nil) [5] rfl [(3,0),(4,1)] rfl ⟨iI,iT⟩ (λ a19 w19 st19=>wp_seq ?_)
 obtain⟨v20,p20,v21,p21,v22,p22,v23,p23,h27⟩:=bsD h18
 refine st19.sq (sc rfl (oM rfl (tp rfl))<|sc rfl (zf rfl kT35 (tp rfl))<|sc rfl (zf rfl kT45 (tp rfl))<|sc rfl (zo (l:=[.tmp 21,.tmp 22]) rfl kN39 (.cons (tp rfl) (.cons (tp rfl) .nil)) ((Wk p20)).fn)<|sc rfl (zo (l:=[.tmp 20,.tmp 23]) rfl kN38 (.cons (tp rfl) (.cons (tp rfl) .nil)) (YK p21))<|sc rfl (yE rfl (tp rfl))<|sc rfl (oM rfl (tp rfl))<|sg rfl rfl (λ hg=>zf rfl kT35 (tp rfl))<|sg rfl rfl (λ hg=>zo (l:=[.tmp 27]) rfl kN28 (.cons (ze hg rfl) .nil) (yT (gh hg p22)))<|sg rfl rfl (λ hg=>yE rfl (ze hg rfl))<|sc rfl (yU rfl (tp rfl) (zb rfl))<|sc rfl (oM rfl (tp rfl))<|sg rfl rfl (λ hg=>zf rfl kT45 (tp rfl))<|sg rfl rfl (λ hg=>zo (l:=[.tmp 32]) rfl kN29 (.cons (ze hg rfl) .nil) (wz (gh hg p23)))<|sg rfl rfl (λ hg=>yE rfl (ze hg rfl))<|sc rfl (yU rfl (tp rfl) (zb rfl))<|.nil) [5,35] rfl [(3,0),(4,1)] rfl ⟨iI,iT⟩ (λ a28 w28 st28=>?_)
 refine st28.cs (c:=35) rfl h27 (λ c29 h29=>?_) (λ c30 h30=>?_)
 ·
  obtain⟨v31,p31,v32,p32,h34⟩:=bsB h29
  refine st28.sq0 (sc rfl (oM rfl (tp rfl))<|sc rfl (zf rfl kT35 (tp rfl))<|sc rfl (zf rfl kT45 (tp rfl))<|sc rfl (zo (l:=[.tmp 37,.tmp 38]) rfl kN39 (.cons (tp rfl) (.cons (tp rfl) .nil)) ((Wk p31)).fn)<|sc rfl (zo (l:=[.tmp 36,.tmp 39]) rfl kN38 (.cons (tp rfl) (.cons (tp rfl) .nil)) (YK p32))<|sc rfl (oA rfl (tp rfl))<|.nil) [2] rfl (λ a35 w35 st35=>wp_ret (zd ?_))
  exact st35.ret rfl rfl h34
 refine wp_skip (za ?_)
 obtain⟨o36,p36,k36⟩:=bs h30
 refine zm (λ a w=>∃ b36,o36=.inl b36/\(∃ M1 q36_0 q36_1 q36_2,Sx (Frm.of w0) 82 M M1 [oneB q36_0,oneB q36_1,oneB q36_2] [(5,dt v17)] [] a w)) ?_ ?_
 ·
  refine st28.sq (sc rfl (oA rfl cI)<|.nil) [5,6] rfl [(3,0),(4,1)] rfl ⟨iI,iT⟩ (λ a37 w37 st37=>wp_block ?_)
  refine zL p36 (λ s38 a w=>∃ M1 q38_0 q38_1 q38_2,Sx (Frm.of w0) 82 M M1 [oneB q38_0,oneB q38_1,oneB q38_2] [(5,dt v17),(6,dt s38)] [(3,0,dbox q38_0 0 v6.1),(4,1,dbox q38_1 0 v6.2)] a w) ⟨_,_,_,_,st37.sel [5,6] rfl [(3,0),(4,1)] rfl ⟨iI,iT⟩⟩ ?_
  rintro s38 z38 a38 w38 ⟨M38,q38_0,q38_1,q38_2,st38⟩ hs38 hx38
  have h39:xy v6 v17 s38=some z38:=hs38
  unfold xy at h39
  refine wp_seq ?_
  refine st38.sq (sc rfl (oM rfl (tp rfl))<|sc rfl (zB Finder.fld0 rfl jE (tp rfl))<|sc rfl (zf rfl kT33 (tp rfl))<|sc rfl (jJ rfl kL33 (tp rfl))<|sc rfl (oCI rfl (tp rfl) (tp rfl))<|.nil) [5,6,45] rfl [(3,0),(4,1)] rfl ⟨iI,iT⟩ (λ a40 w40 st40=>?_)
  refine st40.cs (c:=45) rfl h39 (λ c41 h41=>?_) (λ c42 h42=>?_)
  ·
   refine wp_skip (za (wp_seq (wp_block (wp_seq (wp_region_list ?_)))))
   obtain⟨v43,p43,h44⟩:=bs h41
   refine st40.seg 5 (
     sc rfl (zB Finder.fld0 rfl jE (tp rfl))<|sc rfl (zf rfl kT33 (tp rfl))<|sc rfl (oM rfl (tp rfl))<|sc rfl (xIdx rfl kS33 (tp rfl) (tp rfl) p43)<|sc rfl (zp rfl kT77 (tp rfl))<|.nil) [5,6,52] rfl [(3,0),(4,1)] rfl ⟨iI,iT⟩ (λ a45 w45 st45=>?_)
   refine st45.alloc 2 rfl rfl kZ77 zrDir (by simp) [5,6,52] rfl [3,4] rfl rfl (λ b47 M47 a47 w47 st47=>?_)
   refine st47.store (sb:=7) 2 FldS.id rfl rfl rfl kT77 rfl rfl (tp rfl) rfl [5,6] rfl [3,4] rfl rfl (λ M49 w49 st49=>wpList_nil (za (wp_seq ?_)))
   obtain⟨v50,p50,v51,p51,h53⟩:=bsB h44
   refine st49.dr (D:=[_,_,_,_,_,_,_,_,_,_,_]) zD [[(7,nS)],[(53,0)],[(4,nS)],[(55,2)],[(7,nS)],[(57,4)],[(7,nS)],[(59,6)],[(56,3),(58,5),(60,7)],[(54,1),(61,8)],[(62,9)]] (by decide +kernel) (
    rc rfl rfl (zB Dir.fld3 rfl YH (tp rfl))<|rc rfl rfl (zf rfl kT75 (tp rfl))<|rc rfl rfl (zB Disk.fld0 rfl Yl (tp rfl))<|rc rfl rfl (zf rfl kT43 (tp rfl))<|rc rfl rfl (zB Dir.fld0 rfl YF (tp rfl))<|rc rfl rfl (zf rfl kT3 (tp rfl))<|rc rfl rfl (zB Dir.fld1 rfl YG (tp rfl))<|rc rfl rfl (zf rfl kT9 (tp rfl))<|rc rfl rfl (zo (l:=[.tmp 56,.tmp 58,.tmp 60]) rfl kN41 (.cons (tp rfl) (.cons (tp rfl) (.cons (tp rfl) .nil))) (zbN p50))<|rc rfl rfl (zo (l:=[.tmp 54,.tmp 61]) rfl kN40 (.cons (tp rfl) (.cons (tp rfl) .nil)) (XN p51))<|rc rfl rfl (oA rfl (tp rfl))<|.nil) [5,6,8] rfl [(3,0),(4,1),(7,2)] rfl ⟨iI,⟨iI,iT⟩⟩ (λ a54 w54 st54=>?_)
   refine za (wp_seq ?_)
   obtain⟨v55,p55,v56,p56,h58⟩:=bsB h53
   refine st54.dr (D:=[_,_,_,_,_,_,_,_,_,_,_,_,_,_,_,_,_]) zD [[(5,nS)],[(6,nS)],[(63,0),(64,1)],[(7,nS)],[(66,3)],[(4,nS)],[(7,nS)],[(69,6)],[(7,nS)],[(71,8)],[(68,5),(70,7),(72,9)],[(67,4),(73,10)],[(74,11)],[(8,nS),(75,12)],[(76,13),(75,12)],[(75,12),(77,14)],[(65,2),(78,15)]] (by decide +kernel) (
    rc rfl rfl (oM rfl (tp rfl))<|rc rfl rfl (oM rfl (tp rfl))<|rc rfl rfl (zo (l:=[.tmp 63,.tmp 64]) rfl kN42 (.cons (tp rfl) (.cons (tp rfl) .nil)) (laws_isIn_w p55))<|rc rfl rfl (zB Dir.fld2 rfl Xb (tp rfl))<|rc rfl rfl (zf rfl kT3 (tp rfl))<|rc rfl rfl (zf rfl kT45 (tp rfl))<|rc rfl rfl (zB Dir.fld0 rfl YF (tp rfl))<|rc rfl rfl (zf rfl kT3 (tp rfl))<|rc rfl rfl (zB Dir.fld1 rfl YG (tp rfl))<|rc rfl rfl (zf rfl kT9 (tp rfl))<|rc rfl rfl (zo (l:=[.tmp 68,.tmp 70,.tmp 72]) rfl kN43 (.cons (tp rfl) (.cons (tp rfl) (.cons (tp rfl) .nil))) (zbO p56))<|rc rfl rfl (oCI rfl (tp rfl) (tp rfl))<|rc rfl rfl (oM rfl (tp rfl))<|rg rfl rfl rfl (λ hg=>oM rfl (tp rfl))<|rg rfl rfl rfl (λ hg=>yE rfl (ze hg rfl))<|rc rfl rfl (yK rfl (tp rfl) (zb rfl))<|rc rfl rfl (op_neT rfl kV4 (tp rfl) (tp rfl))<|.nil) [5,6,79] rfl [(3,0),(4,1)] rfl ⟨iI,iT⟩ (λ a59 w59 st59=>?_)
   refine za ?_
   refine st59.cs (c:=79) rfl h58 (λ c60 h60=>?_) (λ c61 h61=>?_)
   ·
    refine st59.sq0 (sc rfl (oA rfl cB)<|.nil) [2] rfl (λ a62 w62 st62=>wp_ret (zt (zd (zd (zt (zd ?_))))))
    have h63:=lo h60 hx38
    have h64:=jo h63 k36
    exact st62.ret rfl rfl h64
   refine wp_skip (zg (za ?_))
   obtain⟨v65,p65,h66⟩:=bs h61
   refine st59.rg (sc rfl (oM rfl (tp rfl))<|sc rfl (xAr rfl (tp rfl) cI p65)<|sc rfl (oA rfl (tp rfl))<|.nil) [5,6] rfl [(3,0),(4,1)] rfl ⟨iI,iT⟩ (λ a67 w67 st67=>za ?_)
   exact⟨_,(Option.some.inj h66).symm,⟨_,_,_,_,st67.sel [5,6] rfl [(3,0),(4,1)] rfl ⟨iI,iT⟩⟩⟩
  refine wp_exit (zh (zh (zE ?_)))
  refine za ?_
  have h68:=lo h42 hx38
  exact⟨_,(Option.some.inj h68).symm,⟨_,_,_,_,st40.sel [5] rfl [] rfl trivial⟩⟩
 rintro a36 w36 ⟨b36,rfl,⟨M36,q36_0,q36_1,q36_2,st36⟩⟩
 have h69:=jn k36
 obtain⟨v70,p70,h71⟩:=bs h69
 refine st36.sq0 (sc rfl (oM rfl (tp rfl))<|sc rfl (zo (l:=[.tmp 80]) rfl kN44 (.cons (tp rfl) .nil) (zbP p70))<|sc rfl (oA rfl (tp rfl))<|.nil) [2] rfl (λ a72 w72 st72=>wp_ret ?_)
 exact st72.ret rfl rfl h71
open Go.RowKit Tryz
theorem isIn_eq{l:List Int}{n:Int}(h:l.length<=1048576):Y5 l n=some (decide (n∈l)):=by
 unfold Y5
 have hl:zS (λ s4=>qE l n s4) 0=some (if l.any (λ x=>decide (x=n))=true then(.inr true:Unit⊕Bool) else .inl ()):=by
  refine q7 l _ _ _ (λ k x hx hlt=>?_) ?_ (by omega) rfl
  ·
   unfold qE
   rw[zK,if_pos (decide_eq_true hlt),yb,hx,obS,zV (by omega)]
   show(if decide (x=n)=true then _ else _)=_
   cases decide (x=n) <;> rfl
  ·
   unfold qE
   rw[zK,if_neg (by simp)]
 rw[hl,obS]
 have e:l.any (λ x=>decide (x=n))=decide (n∈l):=by rw[Bool.eq_iff_iff,List.any_eq_true];simp
 rw[e]
 cases decide (n∈l) <;> rfl
theorem ascends_eq{l:List Int}(h:l.length<=1048576)(ha:l.Pairwise (λ a b=>a<b)):Zy l=some true:=by
 unfold Zy
 have key:∀ m k,k+m=l.length->1<=k->qL (λ s4=>xb l s4) (m+1) (k:Int)=some (.inl ()):=by
  intro m
  induction m with
  |
   zero=>
   intro k hk _
   refine qF ?_
   unfold xb
   rw[zK,if_neg (by simp;omega)]
  |
   succ m ih=>
   intro k hk h1
   have hlt:k<l.length:=by omega
   have hp:=List.pairwise_iff_getElem.1 ha (k - 1) k (by omega) hlt (by omega)
   have hs:xb l (k:Int)=some (.inl ((k+1:Nat):Int)):=by
    unfold xb
    rw[zK,if_pos (decide_eq_true hlt),yb,List.getElem?_eq_getElem hlt,obS,wn (n:=(k:Int) - 1) (by omega) (by omega),obS,show((k:Int) - 1)=((k - 1:Nat):Int) by omega,yb,List.getElem?_eq_getElem (by omega),obS,if_neg (by simp[cmpI];omega),zV (by omega),obS]
   rw[YL hs]
   exact ih (k+1) (by omega) (by omega)
 by_cases h0:l.length=0
 ·
  have:zS (λ s4=>xb l s4) (1:Int)=some (.inl ()):=by
   refine Yn (m:=1) (qF ?_) (by omega)
   unfold xb
   rw[if_neg (by simp[cmpI];omega)]
  rw[this];rfl
 ·
  have:=Yn (key (l.length - 1) 1 (by omega) (Nat.le_refl _)) (by omega)
  rw[show((1:Nat):Int)=(1:Int) from rfl] at this
  rw[this];rfl
theorem stales_mem{f:Finder}{d:Disk}{n k:Nat}(h:k<n):(decide ((k:Int)∈jk f d n))=ZL f d k:=by
 rw[Bool.eq_iff_iff,decide_eq_true_eq]
 unfold jk
 rw[List.mem_map]
 constructor
 ·
  rintro ⟨j,hj,e⟩
  have e:j=k:=by omega
  subst e
  exact(List.mem_filter.1 hj).2
 ·
  intro hs
  exact⟨k,List.mem_filter.2 ⟨List.mem_range.2 h,hs⟩,rfl⟩
theorem stales_asc(f:Finder)(d:Disk)(n:Nat):(jk f d n).Pairwise (λ a b=>a<b):=by
 unfold jk
 refine List.Pairwise.map _ (R:=λ a b=>a<b) (λ a b h=>by omega) (List.Pairwise.filter _ List.pairwise_lt_range)
theorem Qx(c:List UInt8):qS c=some true:=by
 unfold qS
 cases cmpI .gtr (c.length:Int) 1048576 with
 | true=>rw[if_pos rfl]
 |
  false=>
  obtain⟨f,d,e,h1,h2,h3⟩:=zaU c
  have hl:=staleDirs_len f d
  have hl1:=h1.1
  have e1:xL (Zc f d) (Zc f d)=some true:=by rw[J9 (by omega)];simp
  rw[if_neg (by decide),e,obS]
  dsimp only
  rw[WN h1 h2 h3,obS,zaj h1 h2 h3,obS,e1,obS,qI h1,zU,obS,Yp h2 h3,zU,obS]
  cases k1:xN f with
  | false=>rw[if_pos (by rfl),obS,e1];rfl
  |
   true=>
   cases k2:wZ d with
   | false=>rw[if_pos (by rfl),obS,e1];rfl
   |
    true=>
    have hf:=xE.1 k1
    have hd:=YO k2
    have hsl:=WM f d f.dirs.length
    rw[if_neg (by decide),WO hf hd]
    have hl:zS (λ s38=>xy (f,d) (jk f d f.dirs.length) s38) (0:Int)=some (.inl ()):=by
     refine Yb f.dirs.length (λ k=>(k:Int)) (λ k hk=>?_) ?_ (by omega) rfl
     ·
      obtain⟨x,hx,hm⟩:=xM hk
      obtain⟨x1,x2,x3,x4⟩:=hf.1.2.1 x hm
      have hL:Zw d.tree x.root x.pkg=some (Xd d.tree x.root x.pkg):=by
       unfold Zw Xk
       rw[WH h2,obS,hd.tree,qG,ZJ (by have:=yn x2;unfold sho;omega),x1,x2]
       simp only[obS,zU]
       rw[Qr h2 hd.tree x2]
       rfl
      have hS:Zx d x.root x.pkg=some (ZO d x.root x.pkg):=by
       unfold Zx
       rw[Yp h2 h3,obS,k2]
       simp only[zU,obS,qG,ZJ (show sho x.pkg by have:=yn x2;unfold sho;omega),x1,x2,(Ws hd.sm).1]
       rfl
      have hst:stamp d x=ZO d x.root x.pkg:=by unfold stamp;rw[(Ws hd.sm).2];rfl
      have hsa:ZL f d k=(cmpI .eql x.stamp (ZO d x.root x.pkg)&&!decide (x.names=Xd d.tree x.root x.pkg)):=by
       unfold ZL
       rw[hx,← hst]
       rfl
      unfold xy
      dsimp only
      rw[zK,if_pos (decide_eq_true hk),yb,hx,obS,hL,obS,JD (by omega),obS,isIn_eq (by omega),obS,hS,obS,stales_mem hk,hsa,zV (by omega)]
      rw[if_neg (by simp)]
      rfl
     ·
      unfold xy
      dsimp only
      rw[zK,if_neg (by simp)]
    rw[hl,obS,Sum.elim_inl,ascends_eq (by omega) (stales_asc f d _)]
    rfl
theorem zaV(c:List UInt8):Fn prog 7 [dt c] (dt true):=Qw (Qx c)
end Go.Proofs.YtdoidiipacdbpaaGreatDoor
