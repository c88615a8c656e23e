import Derived.Test.YtdoidiipacdbpaaGreatDoorRB
import Derived.Test.YtdoidiipacdbpaaGreatDoorProg
import Derived.Test.YtdoidiipacdbpaaGreatDoorRA
namespace Go.Proofs.YtdoidiipacdbpaaGreatDoor
open Go.RowKit
attribute [local irreducible] OpRel OpdR
set_option maxRecDepth 10000
theorem zI:Tryz.prog.follows .mixedOrders=true:=by kernel_rfl
theorem wH(n lo up:Int):Fn Tryz.prog 92 [dt n,dt lo,dt up] (dt (inR n lo up)):=by
 refine yP (fn:=Tryz.f92) Tryz.func92 rfl (oD rfl) (λ M _ _ hm st0=>?_);refine wp_seq ?_;refine zj st0 [0,1,2,6] (λ _ _ _ st1=>?_);refine za (wp_seq ?_);refine zt st1 (sc rfl ((zg rfl (zb rfl)))
  (sc rfl ((zg rfl (zb rfl)))
  (sc rfl ((xQ rfl (by decide) (zb rfl) (zb rfl)))
  (sc rfl ((zg rfl (zb rfl)))
  (.cons rfl (by decide) (.guarded rfl rfl (by decide) rfl zu (λ hg=>zg rfl (zb rfl)))
  (.cons rfl (by decide) (.guarded rfl rfl (by decide) rfl zu (λ hg=>zg rfl (zb rfl)))
  (.cons rfl (by decide) (.guarded rfl rfl (by decide) rfl zu (λ hg=>xQ rfl (by decide) (zf hg rfl) (zf hg rfl)))
  (sc rfl ((yZ rfl (zb rfl) (zb rfl)))
  (sc rfl ((zC rfl (zb rfl)))
  .nil))))))))) [0,1,2,6] (λ _ _ _ st2=>?_)
 refine za (wp_ret ?_);refine z7 rfl (λ _ h=>h) st2 (t:=6) rfl ?_;rfl
theorem zac(l:List Str)(s:Str):Fn Tryz.prog 163 [dt l,dt s] (dt (textAt l s)):=by
 refine yP (fn:=Tryz.f163) Tryz.func163 rfl (oD rfl) (λ M w0 _ hm st0=>?_);have hlen:=st0.lenL (s:=0) rfl;refine wp_seq ?_;refine zj st0 [0,1,4] (λ _ _ _ st1=>?_);refine za (wp_seq (wp_seq ?_));refine zj st1 [0,1,4,5] (λ _ _ _ st2=>?_);refine za (wp_block ?_);refine qL (ι:=Nat) (λ k a w=>St (Frm.of w0) 19 M [(0,dt l),(1,dt s),(5,dt (k:Int))] a w/\k<=l.length/\(l.take k).any (λ x=>decide (x=s))=false) (λ k=>l.length - k) 0 ?_ ?_
 ·
  exact⟨st2.pick (kc 0 rfl (kc 1 rfl (kc 5 rfl .nil))),Nat.zero_le _,by simp⟩
 ·
  rintro k a3 w3 ⟨st3,hk,hp⟩
  refine wp_seq (wp_seq ?_);refine zj st3 [0,1,5,9] (λ _ _ _ st4=>?_);refine za ?_;refine zK (c:=9) st4 rfl (λ h1=>?_) (λ h1=>?_)
  ·
   obtain⟨x,hx⟩:=Xa h1;have hlt:=zW hx;refine wp_skip (za (wp_seq (wp_block (wp_seq ?_))));refine zt st4 (sc rfl ((zg rfl (zb rfl)))
    (sc rfl ((zg rfl (zb rfl)))
    (sc rfl ((xE rfl (by kernel_rfl) (zb rfl) (zb rfl) rfl (by assumption)))
    (sc rfl ((zp rfl (by kernel_rfl) (zb rfl)))
    (sc rfl ((zg rfl (zb rfl)))
    (sc rfl ((qq rfl (zb rfl) (zb rfl)))
    .nil)))))) [0,1,5,9,17] (λ _ _ _ st5=>?_)
   refine za ?_;refine zK (c:=17) st5 rfl (λ h2=>?_) (λ h2=>?_)
   ·
    have ht:=h2;refine wp_seq ?_;refine zj st5 [0,1,4,5,9,17] (λ _ _ _ st6=>?_);refine za ?_;refine wp_ret (zn (zd (zd (zn (zd ?_)))));refine z7 rfl (λ _ h=>h) st6 (t:=4) rfl ?_;exact(idx_hit hp hx ht).symm
   ·
    have hf:=h2;refine wp_skip (zk (za ?_));refine zt st5 (sc rfl ((zg rfl (zb rfl)))
     (sc rfl ((qe rfl (by decide) (zb rfl) zQ (by simp only[arI];omega)))
     (sc rfl ((zC rfl (zb rfl)))
     .nil))) [0,1,5,9,17] (λ _ _ _ st7=>?_)
    refine za ⟨k+1,⟨st7.pick (kc 0 rfl (kc 1 rfl (kc 5 rfl .nil))),by omega,JK hx hp hf⟩,by omega⟩
  ·
   have hend:=Xb h1;refine wp_exit (ze (ze (zw ?_)));refine za (wp_seq ?_);refine zj st4 [0,1,4,5,9] (λ _ _ _ st8=>?_);refine za (wp_ret ?_);refine z7 rfl (λ _ h=>h) st8 (t:=4) rfl ?_;exact(idx_end hend hp).symm
theorem QY(l:List Str)(s:Str):Fn Tryz.prog 135 [dt l,dt s] (dt (xB l s)):=by
 refine yP (fn:=Tryz.f135) Tryz.func135 rfl (oD rfl) (λ M _ _ hm st0=>?_);refine wp_seq ?_;refine zj st0 [0,1,4] (λ _ _ _ st1=>?_);refine za (wp_seq ?_);refine zt st1 (sc rfl ((zg rfl (zb rfl)))
  (sc rfl ((zg rfl (zb rfl)))
  (sc rfl ((zq (l:=[.tmp 5,.tmp 6]) rfl (by kernel_rfl) (.cons (zb rfl) (.cons (zb rfl) .nil)) (zac _ _)))
  (sc rfl ((xQ rfl (by decide) (zb rfl) zQ))
  (sc rfl ((zC rfl (zb rfl)))
  .nil))))) [0,1,4] (λ _ _ _ st2=>?_)
 refine za (wp_ret ?_);refine z7 rfl (λ _ h=>h) st2 (t:=4) rfl ?_;rfl
theorem wU(s:Str):Fn Tryz.prog 96 [dt s] (dt (zN s)):=by
 refine yP (fn:=Tryz.f96) Tryz.func96 rfl (oD rfl) (λ M w0 _ hm st0=>?_);have hlen:s.l.length<=9223372036854775807:=st0.lenS (s:=0) rfl;refine wp_seq ?_;refine zj st0 [0,2] (λ _ _ _ st1=>?_);refine za (wp_seq (wp_seq ?_));refine zt st1 (sc rfl ((zg rfl (zb rfl)))
  (sc rfl ((Z5 rfl (by kernel_rfl) (zb rfl)))
  (sc rfl ((zq (l:=[.tmp 5,.const (.int .i64 1),.const (.int .i64 3)]) rfl (by kernel_rfl) (.cons (zb rfl) (.cons zQ (.cons zQ .nil))) (wH _ _ _)))
  (sc rfl ((yU rfl (zb rfl)))
  .nil)))) [0,2,7] (λ _ _ _ st2=>?_)
 refine za ?_;refine zK (c:=7) st2 rfl (λ h1=>?_) (λ h1=>?_)
 ·
  have h7:=h1;refine wp_seq ?_;refine zj st2 [0,2,7] (λ _ _ _ st3=>?_);refine za ?_;refine wp_ret (zd ?_);refine z7 rfl (λ _ h=>h) st3 (t:=2) rfl ?_;unfold zN;rw[Bool.not_eq_true'] at h7;simp[h7]
 ·
  have h7:=h1;refine wp_skip (za (wp_seq (wp_seq ?_)));refine zj st2 [0,2,3,7] (λ _ _ _ st4=>?_);refine za (wp_block ?_);refine qL (ι:=Nat) (λ k a w=>St (Frm.of w0) 24 M [(0,dt s),(3,dt (k:Int))] a w/\k<=s.l.length/\(s.l.take k).all low=true) (λ k=>s.l.length - k) 0 ?_ ?_
  ·
   exact⟨st4.pick (kc 0 rfl (kc 3 rfl .nil)),Nat.zero_le _,by simp⟩
  ·
   rintro k a5 w5 ⟨st5,hk,hp⟩
   refine wp_seq (wp_seq ?_);refine zj st5 [0,3,11] (λ _ _ _ st6=>?_);refine za ?_;refine zK (c:=11) st6 rfl (λ h2=>?_) (λ h2=>?_)
   ·
    obtain⟨x,hx⟩:=idxS_of h2;have hlt:=zW hx;refine wp_skip (za (wp_seq (wp_block (wp_seq ?_))));refine zt st6 (sc rfl ((zg rfl (zb rfl)))
     (sc rfl ((zg rfl (zb rfl)))
     (sc rfl ((op_byte rfl (by kernel_rfl) (zb rfl) (zb rfl) (by assumption)))
     (sc rfl ((op_cmpB rfl (by decide) (zb rfl) (X8 (by decide))))
     (sc rfl ((zg rfl (zb rfl)))
     (.cons rfl (by decide) (.guarded rfl rfl (by decide) rfl zu (λ hg=>zg rfl (zb rfl)))
     (.cons rfl (by decide) (.guarded rfl rfl (by decide) rfl zu (λ hg=>zg rfl (zb rfl)))
     (.cons rfl (by decide) (.guarded rfl rfl (by decide) rfl zu (λ hg=>op_byte rfl (by kernel_rfl) (zf hg rfl) (zf hg rfl) (by assumption)))
     (.cons rfl (by decide) (.guarded rfl rfl (by decide) rfl zu (λ hg=>op_cmpB rfl (by decide) (zf hg rfl) (X8 (by decide))))
     (sc rfl ((wP rfl (zb rfl) (zb rfl)))
     .nil)))))))))) [0,3,11,23] (λ _ _ _ st7=>?_)
    refine za ?_;refine zK (c:=23) st7 rfl (λ h3=>?_) (λ h3=>?_)
    ·
     have ht:=h3;refine wp_seq ?_;refine zj st7 [0,2,3,11,23] (λ _ _ _ st8=>?_);refine za ?_;refine wp_ret (zn (zd (zd (zn (zd ?_)))));refine z7 rfl (λ _ h=>h) st8 (t:=2) rfl ?_;unfold zN;rw[all_fail (p:=low) hx (by unfold low;rw[ht];rfl)];simp
    ·
     have hf:=h3;refine wp_skip (zk (za ?_));refine zt st7 (sc rfl ((zg rfl (zb rfl)))
      (sc rfl ((qe rfl (by decide) (zb rfl) zQ (by simp only[arI];omega)))
      (sc rfl ((zC rfl (zb rfl)))
      .nil))) [0,3,11,23] (λ _ _ _ st9=>?_)
     refine za ⟨k+1,⟨st9.pick (kc 0 rfl (kc 3 rfl .nil)),by omega,all_next hx hp (by unfold low;rw[hf];rfl)⟩,by omega⟩
   ·
    have hend:=endS_of h2;refine wp_exit (ze (ze (zw ?_)));refine za (wp_seq ?_);refine zj st6 [0,2,3,11] (λ _ _ _ st10=>?_);refine za (wp_ret ?_);refine z7 rfl (λ _ h=>h) st10 (t:=2) rfl ?_;unfold zN;rw[all_end hend hp];rw[Bool.not_eq_false'] at h7;exact(by simpa using h7.symm)
theorem XY(s:Str)(c:UInt8)(hs:mid s):Fn Tryz.prog 95 [dt s,dt c] (dt (zD s c)):=by
 refine yP (fn:=Tryz.f95) Tryz.func95 rfl (oD rfl) (λ M w0 _ hm st0=>?_);have hlen:s.l.length<=1099511627776:=hs;refine wp_seq ?_;refine zt st0 (sc rfl ((zC rfl (qg (α:=Str))))
  .nil) [0,1,4] (λ _ _ _ st1=>?_)
 refine za (wp_seq ?_);refine zt st1 (sc rfl ((qh (α:=Str) (e:=9) rfl (by kernel_rfl)))
  (sc rfl ((zC rfl (zb rfl)))
  .nil)) [0,1,4,5] (λ _ _ _ st2=>?_)
 refine za (wp_seq ?_);refine zj st2 [0,1,4,5,6] (λ _ _ _ st3=>?_);refine za (wp_seq (wp_seq ?_));refine zj st3 [0,1,4,5,6,7] (λ _ _ _ st4=>?_);refine za (wp_block ?_);refine qL (ι:=Nat×Nat) (λ p a w=>∃ g,TipOK (Frm.of w0) M g/\St (Frm.of w0) 35 (insO g M) [(0,dt s),(1,dt c),(5,dtip g 9 (yE c (s.l.take p.1)).1),(6,dt (p.2:Int)),(7,dt (p.1:Int))] a w/\p.1<=s.l.length/\p.2<=p.1/\(yE c (s.l.take p.1)).2=⟨(s.l.take p.1).drop p.2⟩/\(yE c (s.l.take p.1)).1.length<=p.1) (λ p=>s.l.length - p.1) (0,0) ?_ ?_
 ·
  exact⟨none,TipOK.none_,st4.ins0.pick (kc 0 rfl (kc 1 rfl (kc 5 rfl (kc 6 rfl (kc 7 rfl .nil))))),Nat.zero_le _,Nat.le_refl _,rfl,Nat.le_refl _⟩
 ·
  rintro ⟨k,b⟩ a5 w5 ⟨g5,hg5,st5,hk,hb,g2,g1⟩
  dsimp only at*;refine wp_seq (wp_seq ?_);refine zj st5 [0,1,5,6,7,12] (λ _ _ _ st6=>?_);refine za ?_;refine zK (c:=12) st6 rfl (λ h1=>?_) (λ h1=>?_)
  ·
   obtain⟨x,hx⟩:=idxS_of h1;have hlt:=zW hx;refine wp_skip (za (wp_seq (wp_block (wp_seq ?_))));refine zt st6 (sc rfl ((zg rfl (zb rfl)))
    (sc rfl ((zg rfl (zb rfl)))
    (sc rfl ((op_byte rfl (by kernel_rfl) (zb rfl) (zb rfl) (by assumption)))
    (sc rfl ((zg rfl (zb rfl)))
    (sc rfl ((op_cmpB rfl (by decide) (zb rfl) (zb rfl)))
    .nil))))) [0,1,5,6,7,12,19] (λ _ _ _ st7=>?_)
   refine za ?_;refine zK (c:=19) st7 rfl (λ h2=>?_) (λ h2=>?_)
   ·
    have ht:=h2;refine wp_seq (wp_region_list ?_);refine WU 6 st7 (sc rfl ((zg rfl (zb rfl)))
     (sc rfl ((zg rfl (zb rfl)))
     (sc rfl ((zg rfl (zb rfl)))
     (sc rfl ((zg rfl (zb rfl)))
     (sc rfl ((op_cutLH rfl (by kernel_rfl) (zb rfl) (zb rfl) (zb rfl) (by omega) (by omega) (by omega)))
     (sc rfl ((Yo (opds:=[.tmp 24]) rfl (by kernel_rfl) (by kernel_rfl) rfl rfl (by decide) (.cons (zb rfl) .nil)))
     .nil))))))
     (kc 0 rfl (kc 1 rfl (kc 5 rfl (kc 6 rfl (kc 7 rfl (kc 12 rfl (kc 19 rfl (kc 20 rfl (kc 25 rfl .nil))))))))) (λ _ _ _ st8=>?_)
    refine YI (bytes:=16) (st8) rfl rfl rfl (by decide) (by kernel_rfl) rfl rfl ZC (len1 (by omega)) (len1b (by omega)) (.cons (s:=0) rfl (λ _ _ h=>h) (.cons (s:=1) rfl (λ _ _ h=>h) (.cons (s:=6) rfl (λ _ _ h=>h) (.cons (s:=7) rfl (λ _ _ h=>h) (.cons (s:=12) rfl (λ _ _ h=>h) (.cons (s:=19) rfl (λ _ _ h=>h) .nil)))))) (hg5) (λ g9 _ _ hg9 st9=>?_);refine WU 1 st9 (sc rfl ((zC rfl (zb rfl)))
     .nil)
     (kc 0 rfl (kc 1 rfl (kc 5 rfl (kc 6 rfl (kc 7 rfl (kc 12 rfl (kc 19 rfl .nil))))))) (λ _ _ _ st10=>?_)
    refine wpList_nil (za ?_);refine zt st10 (sc rfl ((zg rfl (zb rfl)))
     (sc rfl ((qe rfl (by decide) (zb rfl) zQ (by simp only[arI];omega)))
     (sc rfl ((zC rfl (zb rfl)))
     .nil))) [0,1,5,6,7,12,19] (λ _ _ _ st11=>?_)
    refine zk (za ?_);refine zt st11 (sc rfl ((zg rfl (zb rfl)))
     (sc rfl ((qe rfl (by decide) (zb rfl) zQ (by simp only[arI];omega)))
     (sc rfl ((zC rfl (zb rfl)))
     .nil))) [0,1,5,6,7,12,19] (λ _ _ _ st12=>?_)
    refine za ⟨(k+1,k+1),⟨g9,hg9,?_,by dsimp only;omega,by dsimp only;omega,split_hit2 hx ht hlt,by dsimp only;rw[Ji hx ht g2,List.length_append];exact Nat.succ_le_succ g1⟩,by dsimp only;omega⟩;dsimp only;first | rw[Ji hx ht g2] | rw[Wd hx hf]
    exact st12.pick (kc 0 rfl (kc 1 rfl (kc 5 rfl (kc 6 rfl (kc 7 rfl .nil)))))
   ·
    have hf:=h2;refine wp_skip (zk (za ?_));refine zt st7 (sc rfl ((zg rfl (zb rfl)))
     (sc rfl ((qe rfl (by decide) (zb rfl) zQ (by simp only[arI];omega)))
     (sc rfl ((zC rfl (zb rfl)))
     .nil))) [0,1,5,6,7,12,19] (λ _ _ _ st13=>?_)
    refine za ⟨(k+1,b),⟨g5,hg5,?_,by dsimp only;omega,by dsimp only;omega,split_miss2 hx hf g2 hb hlt,by dsimp only;rw[Wd hx hf];omega⟩,by dsimp only;omega⟩;dsimp only;first | rw[Ji hx ht g2] | rw[Wd hx hf]
    exact st13.pick (kc 0 rfl (kc 1 rfl (kc 5 rfl (kc 6 rfl (kc 7 rfl .nil)))))
  ·
   have hend:=endS_of h1;refine wp_exit (ze (ze (zw ?_)));refine za (wp_seq (wp_region_list ?_));refine WU 5 st6 (sc rfl ((zg rfl (zb rfl)))
    (sc rfl ((zg rfl (zb rfl)))
    (sc rfl ((zg rfl (zb rfl)))
    (sc rfl ((op_cutL rfl (by kernel_rfl) (zb rfl) (zb rfl) (by omega) (by omega)))
    (sc rfl ((Yo (opds:=[.tmp 32]) rfl (by kernel_rfl) (by kernel_rfl) rfl rfl (by decide) (.cons (zb rfl) .nil)))
    .nil)))))
    (kc 0 rfl (kc 1 rfl (kc 5 rfl (kc 6 rfl (kc 7 rfl (kc 12 rfl (kc 29 rfl (kc 33 rfl .nil)))))))) (λ _ _ _ st14=>?_)
   refine YI (bytes:=16) (st14) rfl rfl rfl (by decide) (by kernel_rfl) rfl rfl ZC (len1 (by omega)) (len1b (by omega)) (.cons (s:=0) rfl (λ _ _ h=>h) (.cons (s:=1) rfl (λ _ _ h=>h) (.cons (s:=6) rfl (λ _ _ h=>h) (.cons (s:=7) rfl (λ _ _ h=>h) (.cons (s:=12) rfl (λ _ _ h=>h) .nil))))) (hg5) (λ g15 _ _ hg15 st15=>?_);refine WU 1 st15 (sc rfl ((zC rfl (zb rfl)))
    .nil)
    (kc 0 rfl (kc 1 rfl (kc 4 rfl (kc 6 rfl (kc 7 rfl (kc 12 rfl .nil)))))) (λ _ _ _ st16=>?_)
   refine wpList_nil (za (wp_ret ?_));refine ret_tip rfl (hg15) (λ _ h=>h) st16 (t:=4) rfl ?_;exact split_end hend g2
theorem wV(s:Str)(hs:mid s):Fn Tryz.prog 50 [dt s] (dt (zF s)):=by
 refine yP (fn:=Tryz.f50) Tryz.func50 rfl (oD rfl) (λ M w0 _ hm st0=>?_);refine wp_seq ?_;refine zj st0 [0,2] (λ _ _ _ st1=>?_);refine za (wp_seq ?_);refine zt st1 (sc rfl ((zg rfl (zb rfl)))
  (sc rfl ((zq (l:=[.tmp 5,.const (.int .u8 46)]) rfl (by kernel_rfl) (.cons (zb rfl) (.cons (X8 (by decide)) .nil)) (XY _ dot (by assumption))))
  (sc rfl ((zC rfl (zb rfl)))
  .nil))) [0,2,3] (λ _ _ _ st2=>?_)
 refine za (wp_seq (wp_seq ?_));refine zj st2 [0,2,3,4] (λ _ _ _ st3=>?_);refine za (wp_block ?_);refine qL (ι:=Nat) (λ k a w=>St (Frm.of w0) 22 M [(0,dt s),(3,dt (zD s dot)),(4,dt (k:Int))] a w/\k<=(zD s dot).length/\((zD s dot).take k).all zN=true) (λ k=>(zD s dot).length - k) 0 ?_ ?_
 ·
  exact⟨st3.pick (kc 0 rfl (kc 3 rfl (kc 4 rfl .nil))),Nat.zero_le _,by simp⟩
 ·
  rintro k a4 w4 ⟨st4,hk,hp⟩
  have hlen:=st4.lenL (s:=3) rfl;refine wp_seq (wp_seq ?_);refine zj st4 [0,3,4,10] (λ _ _ _ st5=>?_);refine za ?_;refine zK (c:=10) st5 rfl (λ h1=>?_) (λ h1=>?_)
  ·
   obtain⟨x,hx⟩:=Xa h1;have hlt:=zW hx;refine wp_skip (za (wp_seq (wp_block (wp_seq ?_))));refine zt st5 (sc rfl ((zg rfl (zb rfl)))
    (sc rfl ((zg rfl (zb rfl)))
    (sc rfl ((xE rfl (by kernel_rfl) (zb rfl) (zb rfl) rfl (by assumption)))
    (sc rfl ((zp rfl (by kernel_rfl) (zb rfl)))
    (sc rfl ((zq (l:=[.tmp 16]) rfl (by kernel_rfl) (.cons (zb rfl) .nil) (wU _)))
    (sc rfl ((yU rfl (zb rfl)))
    .nil)))))) [0,3,4,10,18] (λ _ _ _ st6=>?_)
   refine za ?_;refine zK (c:=18) st6 rfl (λ h2=>?_) (λ h2=>?_)
   ·
    have ht:=h2;refine wp_seq ?_;refine zj st6 [0,2,3,4,10,18] (λ _ _ _ st7=>?_);refine za ?_;refine wp_ret (zn (zd (zd (zn (zd ?_)))));refine z7 rfl (λ _ h=>h) st7 (t:=2) rfl ?_;unfold zF;rw[all_fail hx (by simpa using ht)];rfl
   ·
    have hf:=h2;refine wp_skip (zk (za ?_));refine zt st6 (sc rfl ((zg rfl (zb rfl)))
     (sc rfl ((qe rfl (by decide) (zb rfl) zQ (by simp only[arI];omega)))
     (sc rfl ((zC rfl (zb rfl)))
     .nil))) [0,3,4,10,18] (λ _ _ _ st8=>?_)
    refine za ⟨k+1,⟨st8.pick (kc 0 rfl (kc 3 rfl (kc 4 rfl .nil))),by omega,all_next hx hp (by simpa using hf)⟩,by omega⟩
  ·
   have hend:=Xb h1;refine wp_exit (ze (ze (zw ?_)));refine za (wp_seq ?_);refine zj st5 [0,2,3,4,10] (λ _ _ _ st9=>?_);refine za (wp_ret ?_);refine z7 rfl (λ _ h=>h) st9 (t:=2) rfl ?_;unfold zF;rw[all_end hend hp];rfl
theorem qu(s:Str)(hs:mid s):Fn Tryz.prog 131 [dt s] (dt (zr s)):=by
 refine yP (fn:=Tryz.f131) Tryz.func131 rfl (oD rfl) (λ M _ _ hm st0=>?_);refine wp_seq ?_;refine zj st0 [0,2] (λ _ _ _ st1=>?_);refine za (wp_seq ?_);refine zt st1 (sc rfl ((zg rfl (zb rfl)))
  (sc rfl ((qq rfl (zb rfl) (ye (by decide))))
  (sc rfl ((zg rfl (zb rfl)))
  (.cons rfl (by decide) (.guarded rfl rfl (by decide) rfl zu (λ hg=>zg rfl (zb rfl)))
  (.cons rfl (by decide) (.guarded rfl rfl (by decide) rfl zu (λ hg=>zq (l:=[.tmp 6]) rfl (by kernel_rfl) (.cons (zf hg rfl) .nil) (wV _ hs)))
  (sc rfl ((wP rfl (zb rfl) (zb rfl)))
  (sc rfl ((zC rfl (zb rfl)))
  .nil))))))) [0,2] (λ _ _ _ st2=>?_)
 refine za (wp_ret ?_);refine z7 rfl (λ _ h=>h) st2 (t:=2) rfl ?_;rfl
open Go.RowKit
set_option maxRecDepth 10000
theorem spec_join_ok(l:List Str)(hl:xT l<=1152921504606846976):Fn Tryz.prog 98 [dt l] (dt (join l)):=by
 refine yP (fn:=Tryz.f98) Tryz.func98 rfl (oD rfl) (λ M w0 _ hm st0=>?_);have hlen:=st0.lenL (s:=0) rfl;refine wp_seq ?_;refine zj st0 [0,2] (λ _ _ _ st1=>?_);refine za (wp_seq ?_);refine zj st1 [0,2,3] (λ _ _ _ st2=>?_);refine za (wp_seq (wp_seq ?_));refine zj st2 [0,2,3,4] (λ _ _ _ st3=>?_);refine za (wp_block ?_);refine qL (ι:=Nat) (λ k a w=>St (Frm.of w0) 22 M [(0,dt l),(3,dt (qM (l.take k)).1),(4,dt (k:Int))] a w/\k<=l.length) (λ k=>l.length - k) 0 ?_ ?_
 ·
  exact⟨st3.pick (kc 0 rfl (kc 3 rfl (kc 4 rfl .nil))),Nat.zero_le _⟩
 ·
  rintro k a4 w4 ⟨st4,hk⟩
  refine wp_seq (wp_seq ?_);refine zj st4 [0,3,4,8] (λ _ _ _ st5=>?_);refine za ?_;refine zK (c:=8) st5 rfl (λ h1=>?_) (λ h1=>?_)
  ·
   obtain⟨x,hx⟩:=Xa h1;have hlt:=zW hx;have hroom:=join_room hx;refine wp_skip (za (wp_seq (wp_block (wp_seq (wp_seq ?_)))));refine zj st5 [0,3,4,8,12] (λ _ _ _ st6=>?_);refine za ?_;refine zK (c:=12) st6 rfl (λ h2=>?_) (λ h2=>?_)
   ·
    have ht:=h2;refine zt st6 (sc rfl ((zg rfl (zb rfl)))
     (sc rfl ((Jd rfl (zb rfl) (ye (by decide)) (by first | (unfold maxLen;omega) | (simp only[List.length_singleton];unfold maxLen;omega))))
     (sc rfl ((zC rfl (zb rfl)))
     .nil))) [0,3,4,8,12] (λ _ _ _ st7=>?_)
    refine za ?_;refine zt st7 (sc rfl ((zg rfl (zb rfl)))
     (sc rfl ((zg rfl (zb rfl)))
     (sc rfl ((zg rfl (zb rfl)))
     (sc rfl ((xE rfl (by kernel_rfl) (zb rfl) (zb rfl) rfl (by assumption)))
     (sc rfl ((zp rfl (by kernel_rfl) (zb rfl)))
     (sc rfl ((Jd rfl (zb rfl) (zb rfl) (by first | (unfold maxLen;omega) | (simp only[List.length_append,List.length_singleton];unfold maxLen;omega))))
     (sc rfl ((zC rfl (zb rfl)))
     .nil))))))) [0,3,4,8,12] (λ _ _ _ st8=>?_)
    refine zk (za ?_);refine zt st8 (sc rfl ((zg rfl (zb rfl)))
     (sc rfl ((qe rfl (by decide) (zb rfl) zQ (by simp only[arI];omega)))
     (sc rfl ((zC rfl (zb rfl)))
     .nil))) [0,3,4,8,12] (λ _ _ _ st9=>?_)
    refine za ⟨k+1,⟨?_,by omega⟩,by omega⟩
    first | rw[JM hx ht] | rw[WD hx hf]
    exact st9.pick (kc 0 rfl (kc 3 rfl (kc 4 rfl .nil)))
   ·
    have hf:=h2;refine wp_skip (za ?_);refine zt st6 (sc rfl ((zg rfl (zb rfl)))
     (sc rfl ((zg rfl (zb rfl)))
     (sc rfl ((zg rfl (zb rfl)))
     (sc rfl ((xE rfl (by kernel_rfl) (zb rfl) (zb rfl) rfl (by assumption)))
     (sc rfl ((zp rfl (by kernel_rfl) (zb rfl)))
     (sc rfl ((Jd rfl (zb rfl) (zb rfl) (by first | (unfold maxLen;omega) | (simp only[List.length_append,List.length_singleton];unfold maxLen;omega))))
     (sc rfl ((zC rfl (zb rfl)))
     .nil))))))) [0,3,4,8,12] (λ _ _ _ st10=>?_)
    refine zk (za ?_);refine zt st10 (sc rfl ((zg rfl (zb rfl)))
     (sc rfl ((qe rfl (by decide) (zb rfl) zQ (by simp only[arI];omega)))
     (sc rfl ((zC rfl (zb rfl)))
     .nil))) [0,3,4,8,12] (λ _ _ _ st11=>?_)
    refine za ⟨k+1,⟨?_,by omega⟩,by omega⟩
    first | rw[JM hx ht] | rw[WD hx hf]
    exact st11.pick (kc 0 rfl (kc 3 rfl (kc 4 rfl .nil)))
  ·
   have hend:=Xb h1;refine wp_exit (ze (ze (zw ?_)));refine za (wp_seq ?_);refine zj st5 [0,2,3,4,8] (λ _ _ _ st12=>?_);refine za (wp_ret ?_);refine z7 rfl (λ _ h=>h) st12 (t:=2) rfl ?_;exact join_end hend
theorem WW(p s:Str)(hc:p.l.length+s.l.length<=1152921504606846976):Fn Tryz.prog 115 [dt p,dt s] (dt (child p s)):=by
 refine yP (fn:=Tryz.f115) Tryz.func115 rfl (oD rfl) (λ M _ _ hm st0=>?_);refine wp_seq ?_;refine zj st0 [0,1,4] (λ _ _ _ st1=>?_);refine za (wp_seq (wp_seq ?_));refine zj st1 [0,1,4,6] (λ _ _ _ st2=>?_);refine za ?_;refine zK (c:=6) st2 rfl (λ h1=>?_) (λ h1=>?_)
 ·
  have ht:=h1;refine wp_seq ?_;refine zj st2 [0,1,4,6] (λ _ _ _ st3=>?_);refine za ?_;refine wp_ret (zd ?_);refine z7 rfl (λ _ h=>h) st3 (t:=4) rfl ?_;exact(if_pos (oD ht)).symm
 ·
  have hf:=h1;refine wp_skip (za (wp_seq ?_));refine zt st2 (sc rfl ((zg rfl (zb rfl)))
   (sc rfl ((Jd rfl (zb rfl) (ye (by decide)) (by first | (unfold maxLen;omega) | (simp only[List.length_singleton];unfold maxLen;omega))))
   (sc rfl ((zg rfl (zb rfl)))
   (sc rfl ((Jd rfl (zb rfl) (zb rfl) (by first | (unfold maxLen;omega) | (simp only[List.length_append,List.length_singleton];unfold maxLen;omega))))
   (sc rfl ((zC rfl (zb rfl)))
   .nil))))) [0,1,4,6] (λ _ _ _ st4=>?_)
  refine za (wp_ret ?_);refine z7 rfl (λ _ h=>h) st4 (t:=4) rfl ?_;exact(if_neg (of_decide_eq_false hf)).symm
theorem WX(s p:Str)(hp:p.l.length<=1152921504606846976):Fn Tryz.prog 126 [dt s,dt p] (dt (under s p)):=by
 refine yP (fn:=Tryz.f126) Tryz.func126 rfl (oD rfl) (λ M _ _ hm st0=>?_);refine wp_seq ?_;refine zj st0 [0,1,4] (λ _ _ _ st1=>?_);refine za (wp_seq ?_);refine zt st1 (sc rfl ((zg rfl (zb rfl)))
  (sc rfl ((qq rfl (zb rfl) (ye (by decide))))
  (sc rfl ((zg rfl (zb rfl)))
  (.cons rfl (by decide) (.guarded rfl rfl (by decide) rfl zu (λ hg=>zg rfl (zb rfl)))
  (.cons rfl (by decide) (.guarded rfl rfl (by decide) rfl zu (λ hg=>zg rfl (zb rfl)))
  (.cons rfl (by decide) (.guarded rfl rfl (by decide) rfl zu (λ hg=>qq rfl (zf hg rfl) (zf hg rfl)))
  (sc rfl ((wP rfl (zb rfl) (zb rfl)))
  (sc rfl ((zg rfl (zb rfl)))
  (.cons rfl (by decide) (.guarded rfl rfl (by decide) rfl zu (λ hg=>zg rfl (zb rfl)))
  (.cons rfl (by decide) (.guarded rfl rfl (by decide) rfl zu (λ hg=>Z5 rfl (by kernel_rfl) (zf hg rfl)))
  (.cons rfl (by decide) (.guarded rfl rfl (by decide) rfl zu (λ hg=>zg rfl (zb rfl)))
  (.cons rfl (by decide) (.guarded rfl rfl (by decide) rfl zu (λ hg=>Z5 rfl (by kernel_rfl) (zf hg rfl)))
  (.cons rfl (by decide) (.guarded rfl rfl (by decide) rfl zu (λ hg=>xQ rfl (by decide) (zf hg rfl) (zf hg rfl)))
  (.cons rfl (by decide) (.guarded rfl rfl (by decide) rfl zu (λ hg=>zg rfl (zf hg rfl)))
  (.cons rfl (by decide) (.guarded2 rfl rfl (by decide) rfl zu (λ hg=>zg rfl (zb rfl)))
  (.cons rfl (by decide) (.guarded2 rfl rfl (by decide) rfl zu (λ hg=>zg rfl (zb rfl)))
  (.cons rfl (by decide) (.guarded2 rfl rfl (by decide) rfl zu (λ hg=>Z5 rfl (by kernel_rfl) (zf hg rfl)))
  (.cons rfl (by decide) (.guarded2 rfl rfl (by decide) rfl zu (λ hg=>qe rfl (by decide) (zf hg rfl) zQ (by simp only[arI];omega)))
  (.cons rfl (by decide) (.guarded2 rfl rfl (by decide) rfl zu (λ hg=>op_cutH rfl (by kernel_rfl) (zf hg rfl) (zf hg rfl) (by simp only[arI];omega) (by simp only[arI];have:=oD (and_r hg);omega)))
  (.cons rfl (by decide) (.guarded2 rfl rfl (by decide) rfl zu (λ hg=>zg rfl (zb rfl)))
  (.cons rfl (by decide) (.guarded2 rfl rfl (by decide) rfl zu (λ hg=>Jd rfl (zf hg rfl) (ye (by decide)) (by first | (unfold maxLen;omega) | (simp only[List.length_singleton];unfold maxLen;omega))))
  (.cons rfl (by decide) (.guarded2 rfl rfl (by decide) rfl zu (λ hg=>qq rfl (zf hg rfl) (zf hg rfl)))
  (.cons rfl (by decide) (.guarded rfl rfl (by decide) rfl zu (λ hg=>yZ rfl (zf hg rfl) (opd_gg hg rfl)))
  (sc rfl ((wP rfl (zb rfl) (zb rfl)))
  (sc rfl ((zC rfl (zb rfl)))
  .nil))))))))))))))))))))))))) [0,1,4] (λ _ _ _ st2=>?_)
 refine za (wp_ret ?_);refine z7 rfl (λ _ h=>h) st2 (t:=4) rfl ?_;exact under_of
open Go.RowKit
set_option maxRecDepth 10000
theorem JQ(s:Stmt)(hs:smStmt s):Fn Tryz.prog 179 [dt s] (dt (xF s)):=by
 refine yP (fn:=Tryz.f179) Tryz.func179 rfl (oD rfl) (λ M _ _ hm st0=>?_);refine wp_seq ?_;refine zt st0 (sc rfl ((Yn rfl (zb rfl)))
  (sc rfl ((zC rfl Xo))
  .nil)) [0,1,2] (λ _ _ _ st1=>?_)
 refine za (wp_seq (wp_seq ?_));refine zj st1 [0,1,2,4] (λ _ _ _ st2=>?_);refine za (wp_block (wp_seq ?_));refine zj st2 [0,1,2,4,5] (λ _ _ _ st3=>?_);refine za ?_;refine zK (c:=5) st3 rfl (λ h1=>?_) (λ h1=>?_)
 ·
  have k0:=h1;refine wp_seq ?_;refine zt st3 (sc rfl ((zy Stmt.fld1 rfl (by kernel_rfl) (zb rfl)))
   (sc rfl ((zp rfl (by kernel_rfl) (zb rfl)))
   (sc rfl ((zq (l:=[.tmp 8]) rfl (by kernel_rfl) (.cons (zb rfl) .nil) (wV _ (by have:=hs.1;unfold mid;omega))))
   (sc rfl ((zg rfl (zb rfl)))
   (.cons rfl (by decide) (.guarded rfl rfl (by decide) rfl zu (λ hg=>zy Stmt.fld2 rfl (by kernel_rfl) (zb rfl)))
   (.cons rfl (by decide) (.guarded rfl rfl (by decide) rfl zu (λ hg=>zp rfl (by kernel_rfl) (zf hg rfl)))
   (.cons rfl (by decide) (.guarded rfl rfl (by decide) rfl zu (λ hg=>xQ rfl (by decide) (zf hg rfl) zQ))
   (sc rfl ((yZ rfl (zb rfl) (zb rfl)))
   (sc rfl ((zg rfl (zb rfl)))
   (.cons rfl (by decide) (.guarded rfl rfl (by decide) rfl zu (λ hg=>zy Stmt.fld3 rfl (by kernel_rfl) (zb rfl)))
   (.cons rfl (by decide) (.guarded rfl rfl (by decide) rfl zu (λ hg=>zp rfl (by kernel_rfl) (zf hg rfl)))
   (.cons rfl (by decide) (.guarded rfl rfl (by decide) rfl zu (λ hg=>qq rfl (zf hg rfl) (ye (by decide))))
   (sc rfl ((yZ rfl (zb rfl) (zb rfl)))
   (sc rfl ((zg rfl (zb rfl)))
   (.cons rfl (by decide) (.guarded rfl rfl (by decide) rfl zu (λ hg=>zy Stmt.fld4 rfl (by kernel_rfl) (zb rfl)))
   (.cons rfl (by decide) (.guarded rfl rfl (by decide) rfl zu (λ hg=>zp rfl (by kernel_rfl) (zf hg rfl)))
   (.cons rfl (by decide) (.guarded rfl rfl (by decide) rfl zu (λ hg=>xQ rfl (by decide) (zf hg rfl) zQ))
   (sc rfl ((yZ rfl (zb rfl) (zb rfl)))
   (sc rfl ((zC rfl (zb rfl)))
   .nil))))))))))))))))))) [0,1,2,4,5] (λ _ _ _ st4=>?_)
  refine za ?_;refine wp_ret (zn (zd ?_));refine z7 rfl (λ _ h=>h) st4 (t:=2) rfl ?_;rw[xF,if_pos k0]
 ·
  have k0:=h1;refine wp_seq ?_;refine zj st3 [0,1,2,4,5,25] (λ _ _ _ st5=>?_);refine za ?_;refine zK (c:=25) st5 rfl (λ h2=>?_) (λ h2=>?_)
  ·
   have k1:=h2;refine wp_seq ?_;refine zt st5 (sc rfl ((zy Stmt.fld1 rfl (by kernel_rfl) (zb rfl)))
    (sc rfl ((zp rfl (by kernel_rfl) (zb rfl)))
    (sc rfl ((zq (l:=[.tmp 28]) rfl (by kernel_rfl) (.cons (zb rfl) .nil) (qu _ (by have:=hs.1;unfold mid;omega))))
    (sc rfl ((zg rfl (zb rfl)))
    (.cons rfl (by decide) (.guarded rfl rfl (by decide) rfl zu (λ hg=>zy Stmt.fld2 rfl (by kernel_rfl) (zb rfl)))
    (.cons rfl (by decide) (.guarded rfl rfl (by decide) rfl zu (λ hg=>zp rfl (by kernel_rfl) (zf hg rfl)))
    (.cons rfl (by decide) (.guarded rfl rfl (by decide) rfl zu (λ hg=>zq (l:=[.tmp 32,.const (.int .i64 0),.const (.int .i64 3)]) rfl (by kernel_rfl) (.cons (zf hg rfl) (.cons zQ (.cons zQ .nil))) (wH _ _ _)))
    (sc rfl ((yZ rfl (zb rfl) (zb rfl)))
    (sc rfl ((zg rfl (zb rfl)))
    (.cons rfl (by decide) (.guarded rfl rfl (by decide) rfl zu (λ hg=>zy Stmt.fld1 rfl (by kernel_rfl) (zb rfl)))
    (.cons rfl (by decide) (.guarded rfl rfl (by decide) rfl zu (λ hg=>zp rfl (by kernel_rfl) (zf hg rfl)))
    (.cons rfl (by decide) (.guarded rfl rfl (by decide) rfl zu (λ hg=>XE rfl (zf hg rfl) (ye (by decide))))
    (.cons rfl (by decide) (.guarded rfl rfl (by decide) rfl zu (λ hg=>zg rfl (zf hg rfl)))
    (.cons rfl (by decide) (.guarded2 rfl rfl (by decide) rfl zu (λ hg=>zy Stmt.fld2 rfl (by kernel_rfl) (zb rfl)))
    (.cons rfl (by decide) (.guarded2 rfl rfl (by decide) rfl zu (λ hg=>zp rfl (by kernel_rfl) (zf hg rfl)))
    (.cons rfl (by decide) (.guarded2 rfl rfl (by decide) rfl zu (λ hg=>xQ rfl (by decide) (zf hg rfl) zQ))
    (.cons rfl (by decide) (.guarded rfl rfl (by decide) rfl zu (λ hg=>wP rfl (zf hg rfl) (opd_gg hg rfl)))
    (sc rfl ((yZ rfl (zb rfl) (zb rfl)))
    (sc rfl ((zg rfl (zb rfl)))
    (.cons rfl (by decide) (.guarded rfl rfl (by decide) rfl zu (λ hg=>zy Stmt.fld3 rfl (by kernel_rfl) (zb rfl)))
    (.cons rfl (by decide) (.guarded rfl rfl (by decide) rfl zu (λ hg=>zp rfl (by kernel_rfl) (zf hg rfl)))
    (.cons rfl (by decide) (.guarded rfl rfl (by decide) rfl zu (λ hg=>zq (l:=[.tmp 47]) rfl (by kernel_rfl) (.cons (zf hg rfl) .nil) (wU _)))
    (sc rfl ((yZ rfl (zb rfl) (zb rfl)))
    (sc rfl ((zg rfl (zb rfl)))
    (.cons rfl (by decide) (.guarded rfl rfl (by decide) rfl zu (λ hg=>zy Stmt.fld4 rfl (by kernel_rfl) (zb rfl)))
    (.cons rfl (by decide) (.guarded rfl rfl (by decide) rfl zu (λ hg=>zp rfl (by kernel_rfl) (zf hg rfl)))
    (.cons rfl (by decide) (.guarded rfl rfl (by decide) rfl zu (λ hg=>xQ rfl (by decide) (zf hg rfl) zQ))
    (sc rfl ((yZ rfl (zb rfl) (zb rfl)))
    (sc rfl ((zC rfl (zb rfl)))
    .nil))))))))))))))))))))))))))))) [0,1,2,4,5,25] (λ _ _ _ st6=>?_)
   refine za ?_;refine wp_ret (zn (zd ?_));refine z7 rfl (λ _ h=>h) st6 (t:=2) rfl ?_;rw[xF,if_neg (by rw[k0];decide),if_pos k1]
  ·
   have k1:=h2;refine wp_seq ?_;refine zj st5 [0,1,2,4,5,25,55] (λ _ _ _ st7=>?_);refine za ?_;refine zK (c:=55) st7 rfl (λ h3=>?_) (λ h3=>?_)
   ·
    have k2:=h3;refine wp_seq ?_;refine zt st7 (sc rfl ((zy Stmt.fld1 rfl (by kernel_rfl) (zb rfl)))
     (sc rfl ((zp rfl (by kernel_rfl) (zb rfl)))
     (sc rfl ((zq (l:=[.tmp 58]) rfl (by kernel_rfl) (.cons (zb rfl) .nil) (wV _ (by have:=hs.1;unfold mid;omega))))
     (sc rfl ((zg rfl (zb rfl)))
     (.cons rfl (by decide) (.guarded rfl rfl (by decide) rfl zu (λ hg=>zy Stmt.fld2 rfl (by kernel_rfl) (zb rfl)))
     (.cons rfl (by decide) (.guarded rfl rfl (by decide) rfl zu (λ hg=>zp rfl (by kernel_rfl) (zf hg rfl)))
     (.cons rfl (by decide) (.guarded rfl rfl (by decide) rfl zu (λ hg=>xQ rfl (by decide) (zf hg rfl) zQ))
     (sc rfl ((yZ rfl (zb rfl) (zb rfl)))
     (sc rfl ((zg rfl (zb rfl)))
     (.cons rfl (by decide) (.guarded rfl rfl (by decide) rfl zu (λ hg=>zy Stmt.fld3 rfl (by kernel_rfl) (zb rfl)))
     (.cons rfl (by decide) (.guarded rfl rfl (by decide) rfl zu (λ hg=>zp rfl (by kernel_rfl) (zf hg rfl)))
     (.cons rfl (by decide) (.guarded rfl rfl (by decide) rfl zu (λ hg=>qq rfl (zf hg rfl) (ye (by decide))))
     (sc rfl ((yZ rfl (zb rfl) (zb rfl)))
     (sc rfl ((zg rfl (zb rfl)))
     (.cons rfl (by decide) (.guarded rfl rfl (by decide) rfl zu (λ hg=>zy Stmt.fld4 rfl (by kernel_rfl) (zb rfl)))
     (.cons rfl (by decide) (.guarded rfl rfl (by decide) rfl zu (λ hg=>zp rfl (by kernel_rfl) (zf hg rfl)))
     (.cons rfl (by decide) (.guarded rfl rfl (by decide) rfl zu (λ hg=>xQ rfl (by decide) (zf hg rfl) zQ))
     (sc rfl ((yZ rfl (zb rfl) (zb rfl)))
     (sc rfl ((zC rfl (zb rfl)))
     .nil))))))))))))))))))) [0,1,2,4,5,25,55] (λ _ _ _ st8=>?_)
    refine za ?_;refine wp_ret (zn (zd ?_));refine z7 rfl (λ _ h=>h) st8 (t:=2) rfl ?_;rw[xF,if_neg (by rw[k0];decide),if_neg (by rw[k1];decide),if_pos k2]
   ·
    have k2:=h3;refine wp_seq ?_;refine zj st7 [0,1,2,4,5,25,55,75] (λ _ _ _ st9=>?_);refine za ?_;refine zK (c:=75) st9 rfl (λ h4=>?_) (λ h4=>?_)
    ·
     have k3:=h4;refine wp_seq ?_;refine zt st9 (sc rfl ((zy Stmt.fld1 rfl (by kernel_rfl) (zb rfl)))
      (sc rfl ((zp rfl (by kernel_rfl) (zb rfl)))
      (sc rfl ((qq rfl (zb rfl) (ye (by decide))))
      (sc rfl ((zg rfl (zb rfl)))
      (.cons rfl (by decide) (.guarded rfl rfl (by decide) rfl zu (λ hg=>zy Stmt.fld2 rfl (by kernel_rfl) (zb rfl)))
      (.cons rfl (by decide) (.guarded rfl rfl (by decide) rfl zu (λ hg=>zp rfl (by kernel_rfl) (zf hg rfl)))
      (.cons rfl (by decide) (.guarded rfl rfl (by decide) rfl zu (λ hg=>xQ rfl (by decide) (zf hg rfl) zQ))
      (sc rfl ((yZ rfl (zb rfl) (zb rfl)))
      (sc rfl ((zg rfl (zb rfl)))
      (.cons rfl (by decide) (.guarded rfl rfl (by decide) rfl zu (λ hg=>zy Stmt.fld3 rfl (by kernel_rfl) (zb rfl)))
      (.cons rfl (by decide) (.guarded rfl rfl (by decide) rfl zu (λ hg=>zp rfl (by kernel_rfl) (zf hg rfl)))
      (.cons rfl (by decide) (.guarded rfl rfl (by decide) rfl zu (λ hg=>zq (l:=[.tmp 87]) rfl (by kernel_rfl) (.cons (zf hg rfl) .nil) (wU _)))
      (sc rfl ((yZ rfl (zb rfl) (zb rfl)))
      (sc rfl ((zg rfl (zb rfl)))
      (.cons rfl (by decide) (.guarded rfl rfl (by decide) rfl zu (λ hg=>zy Stmt.fld4 rfl (by kernel_rfl) (zb rfl)))
      (.cons rfl (by decide) (.guarded rfl rfl (by decide) rfl zu (λ hg=>zp rfl (by kernel_rfl) (zf hg rfl)))
      (.cons rfl (by decide) (.guarded rfl rfl (by decide) rfl zu (λ hg=>zq (l:=[.tmp 92,.const (.int .i64 0),.const (.int .i64 99)]) rfl (by kernel_rfl) (.cons (zf hg rfl) (.cons zQ (.cons zQ .nil))) (wH _ _ _)))
      (sc rfl ((yZ rfl (zb rfl) (zb rfl)))
      (sc rfl ((zC rfl (zb rfl)))
      .nil))))))))))))))))))) [0,1,2,4,5,25,55,75] (λ _ _ _ st10=>?_)
     refine za ?_;refine wp_ret (zn (zd ?_));refine z7 rfl (λ _ h=>h) st10 (t:=2) rfl ?_;rw[xF,if_neg (by rw[k0];decide),if_neg (by rw[k1];decide),if_neg (by rw[k2];decide),if_pos k3]
    ·
     have k3:=h4;refine wp_seq ?_;refine zj st9 [0,1,2,4,5,25,55,75,95] (λ _ _ _ st11=>?_);refine za ?_;refine zK (c:=95) st11 rfl (λ h5=>?_) (λ h5=>?_)
     ·
      have k4:=h5;refine wp_seq ?_;refine zt st11 (sc rfl ((zy Stmt.fld1 rfl (by kernel_rfl) (zb rfl)))
       (sc rfl ((zp rfl (by kernel_rfl) (zb rfl)))
       (sc rfl ((qq rfl (zb rfl) (ye (by decide))))
       (sc rfl ((zg rfl (zb rfl)))
       (.cons rfl (by decide) (.guarded rfl rfl (by decide) rfl zu (λ hg=>zy Stmt.fld2 rfl (by kernel_rfl) (zb rfl)))
       (.cons rfl (by decide) (.guarded rfl rfl (by decide) rfl zu (λ hg=>zp rfl (by kernel_rfl) (zf hg rfl)))
       (.cons rfl (by decide) (.guarded rfl rfl (by decide) rfl zu (λ hg=>xQ rfl (by decide) (zf hg rfl) zQ))
       (sc rfl ((yZ rfl (zb rfl) (zb rfl)))
       (sc rfl ((zg rfl (zb rfl)))
       (.cons rfl (by decide) (.guarded rfl rfl (by decide) rfl zu (λ hg=>zy Stmt.fld3 rfl (by kernel_rfl) (zb rfl)))
       (.cons rfl (by decide) (.guarded rfl rfl (by decide) rfl zu (λ hg=>zp rfl (by kernel_rfl) (zf hg rfl)))
       (.cons rfl (by decide) (.guarded rfl rfl (by decide) rfl zu (λ hg=>zq (l:=[.tmp 107]) rfl (by kernel_rfl) (.cons (zf hg rfl) .nil) (wU _)))
       (sc rfl ((yZ rfl (zb rfl) (zb rfl)))
       (sc rfl ((zg rfl (zb rfl)))
       (.cons rfl (by decide) (.guarded rfl rfl (by decide) rfl zu (λ hg=>zy Stmt.fld4 rfl (by kernel_rfl) (zb rfl)))
       (.cons rfl (by decide) (.guarded rfl rfl (by decide) rfl zu (λ hg=>zp rfl (by kernel_rfl) (zf hg rfl)))
       (.cons rfl (by decide) (.guarded rfl rfl (by decide) rfl zu (λ hg=>xQ rfl (by decide) (zf hg rfl) zQ))
       (sc rfl ((yZ rfl (zb rfl) (zb rfl)))
       (sc rfl ((zC rfl (zb rfl)))
       .nil))))))))))))))))))) [0,1,2,4,5,25,55,75,95] (λ _ _ _ st12=>?_)
      refine za ?_;refine wp_ret (zn (zd ?_));refine z7 rfl (λ _ h=>h) st12 (t:=2) rfl ?_;rw[xF,if_neg (by rw[k0];decide),if_neg (by rw[k1];decide),if_neg (by rw[k2];decide),if_neg (by rw[k3];decide),if_pos k4]
     ·
      have k4:=h5;refine wp_seq ?_;refine zj st11 [0,1,2,4,5,25,55,75,95,115] (λ _ _ _ st13=>?_);refine za ?_;refine zK (c:=115) st13 rfl (λ h6=>?_) (λ h6=>?_)
      ·
       have k5:=h6;refine wp_seq ?_;refine zt st13 (sc rfl ((zp rfl (by kernel_rfl) (zb rfl)))
        (sc rfl ((ZL (parts:=[(0,.const (.int .i64 5))]) (ns:=[1,1,1,1,1]) (zs:=[[.int .i64 0],[.string ⟨⟨[]⟩⟩],[.int .i64 0],[.string ⟨⟨[]⟩⟩],[.int .i64 0]]) rfl rfl (by kernel_rfl) (by kernel_rfl) (λ w a hl=>by
    intro p hp;simp only[List.mem_cons,List.not_mem_nil,or_false] at hp;rcases hp with rfl
    ·
     exact
        ⟨by decide,rfl⟩) (λ w a hl=>Stmt.parts (x:=⟨5,⟨[]⟩,0,⟨[]⟩,0⟩) (OpdR.cells zQ hl) Xp ⟨rfl,trivial⟩ Xp ⟨rfl,trivial⟩)))
        (sc rfl ((Xs rfl (by kernel_rfl) (zb rfl) (zb rfl)))
        (sc rfl ((zC rfl (zb rfl)))
        .nil)))) [0,1,2,4,5,25,55,75,95,115] (λ _ _ _ st14=>?_)
       refine za ?_;refine wp_ret (zn (zd ?_));refine z7 rfl (λ _ h=>h) st14 (t:=2) rfl ?_;rw[xF,if_neg (by rw[k0];decide),if_neg (by rw[k1];decide),if_neg (by rw[k2];decide),if_neg (by rw[k3];decide),if_neg (by rw[k4];decide),if_pos k5]
      ·
       have k5:=h6;refine wp_skip (zk (za (wp_seq ?_)));refine zj st13 [0,1,2,4,5,25,55,75,95,115] (λ _ _ _ st15=>?_);refine za (wp_ret ?_);refine z7 rfl (λ _ h=>h) st15 (t:=2) rfl ?_;rw[xF,if_neg (by rw[k0];decide),if_neg (by rw[k1];decide),if_neg (by rw[k2];decide),if_neg (by rw[k3];decide),if_neg (by rw[k4];decide),if_neg (by rw[k5];decide)]
theorem JR(b:List Stmt)(hb:b.length<=1048576/\∀ s∈b,smStmt s):Fn Tryz.prog 161 [dt b] (dt (ZZ b)):=by
 refine yP (fn:=Tryz.f161) Tryz.func161 rfl (oD rfl) (λ M w0 _ hm st0=>?_);have hlen:=hb.1;refine wp_seq ?_;refine zj st0 [0,2] (λ _ _ _ st1=>?_);refine za (wp_seq (wp_seq ?_));refine zj st1 [0,2,3] (λ _ _ _ st2=>?_);refine za (wp_block ?_);refine qL (ι:=Nat) (λ k a w=>St (Frm.of w0) 19 M [(0,dt b),(3,dt (k:Int))] a w/\k<=b.length/\(b.take k).all xF=true) (λ k=>b.length - k) 0 ?_ ?_
 ·
  exact⟨st2.pick (kc 0 rfl (kc 3 rfl .nil)),Nat.zero_le _,by simp⟩
 ·
  rintro k a3 w3 ⟨st3,hk,hp⟩
  refine wp_seq (wp_seq ?_);refine zj st3 [0,3,7] (λ _ _ _ st4=>?_);refine za ?_;refine zK (c:=7) st4 rfl (λ h1=>?_) (λ h1=>?_)
  ·
   obtain⟨x,hx⟩:=Xa h1;have hlt:=zW hx;refine wp_skip (za (wp_seq (wp_block (wp_seq ?_))));refine zt st4 (sc rfl ((zg rfl (zb rfl)))
    (sc rfl ((zg rfl (zb rfl)))
    (sc rfl ((xE rfl (by kernel_rfl) (zb rfl) (zb rfl) rfl (by assumption)))
    (sc rfl ((zp rfl (by kernel_rfl) (zb rfl)))
    (sc rfl ((zq (l:=[.tmp 13]) rfl (by kernel_rfl) (.cons (zb rfl) .nil) (JQ _ (hb.2 _ (List.mem_of_getElem? hx)))))
    (sc rfl ((yU rfl (zb rfl)))
    .nil)))))) [0,3,7,15] (λ _ _ _ st5=>?_)
   refine za ?_;refine zK (c:=15) st5 rfl (λ h2=>?_) (λ h2=>?_)
   ·
    have ht:=h2;refine wp_seq ?_;refine zj st5 [0,2,3,7,15] (λ _ _ _ st6=>?_);refine za ?_;refine wp_ret (zn (zd (zd (zn (zd ?_)))));refine z7 rfl (λ _ h=>h) st6 (t:=2) rfl ?_;unfold ZZ;rw[all_fail hx (by simpa using ht)];rfl
   ·
    have hf:=h2;refine wp_skip (zk (za ?_));refine zt st5 (sc rfl ((zg rfl (zb rfl)))
     (sc rfl ((qe rfl (by decide) (zb rfl) zQ (by simp only[arI];omega)))
     (sc rfl ((zC rfl (zb rfl)))
     .nil))) [0,3,7,15] (λ _ _ _ st7=>?_)
    refine za ⟨k+1,⟨st7.pick (kc 0 rfl (kc 3 rfl .nil)),by omega,all_next hx hp (by simpa using hf)⟩,by omega⟩
  ·
   have hend:=Xb h1;refine wp_exit (ze (ze (zw ?_)));refine za (wp_seq ?_);refine zj st4 [0,2,3,7] (λ _ _ _ st8=>?_);refine za (wp_ret ?_);refine z7 rfl (λ _ h=>h) st8 (t:=2) rfl ?_;unfold ZZ;rw[all_end hend hp];rfl
theorem JS(f:File)(hf:smFile f):Fn Tryz.prog 132 [dt f] (dt (yA f)):=by
 refine yP (fn:=Tryz.f132) Tryz.func132 rfl (oD rfl) (λ M _ _ hm st0=>?_);refine wp_seq ?_;refine zt st0 (sc rfl ((Yn rfl (zb rfl)))
  (sc rfl ((zC rfl Xo))
  .nil)) [0,1,2] (λ _ _ _ st1=>?_)
 refine za (wp_seq (wp_seq ?_));refine zt st1 (sc rfl ((zy File.fld0 rfl (by kernel_rfl) (zb rfl)))
  (sc rfl ((zp rfl (by kernel_rfl) (zb rfl)))
  (sc rfl ((zq (l:=[.tmp 4,.const (.int .i64 0),.const (.int .i64 2)]) rfl (by kernel_rfl) (.cons (zb rfl) (.cons zQ (.cons zQ .nil))) (wH _ _ _)))
  (sc rfl ((yU rfl (zb rfl)))
  (sc rfl ((zg rfl (zb rfl)))
  (.cons rfl (by decide) (.guarded rfl rfl (by decide) rfl zu (λ hg=>zy File.fld4 rfl (by kernel_rfl) (zb rfl)))
  (.cons rfl (by decide) (.guarded rfl rfl (by decide) rfl zu (λ hg=>zp rfl (by kernel_rfl) (zf hg rfl)))
  (.cons rfl (by decide) (.guarded rfl rfl (by decide) rfl zu (λ hg=>zq (l:=[.tmp 9,.const (.int .i64 0),.const (.int .i64 99)]) rfl (by kernel_rfl) (.cons (zf hg rfl) (.cons zQ (.cons zQ .nil))) (wH _ _ _)))
  (.cons rfl (by decide) (.guarded rfl rfl (by decide) rfl zu (λ hg=>yU rfl (zf hg rfl)))
  (sc rfl ((wP rfl (zb rfl) (zb rfl)))
  (sc rfl ((zg rfl (zb rfl)))
  (.cons rfl (by decide) (.guarded rfl rfl (by decide) rfl zu (λ hg=>zy File.fld1 rfl (by kernel_rfl) (zb rfl)))
  (.cons rfl (by decide) (.guarded rfl rfl (by decide) rfl zu (λ hg=>zp rfl (by kernel_rfl) (zf hg rfl)))
  (.cons rfl (by decide) (.guarded rfl rfl (by decide) rfl zu (λ hg=>zq (l:=[.tmp 15]) rfl (by kernel_rfl) (.cons (zf hg rfl) .nil) (qu _ (by have:=hf.1;unfold mid;omega))))
  (.cons rfl (by decide) (.guarded rfl rfl (by decide) rfl zu (λ hg=>yU rfl (zf hg rfl)))
  (sc rfl ((wP rfl (zb rfl) (zb rfl)))
  (sc rfl ((zg rfl (zb rfl)))
  (.cons rfl (by decide) (.guarded rfl rfl (by decide) rfl zu (λ hg=>zy File.fld5 rfl (by kernel_rfl) (zb rfl)))
  (.cons rfl (by decide) (.guarded rfl rfl (by decide) rfl zu (λ hg=>zp rfl (by kernel_rfl) (zf hg rfl)))
  (.cons rfl (by decide) (.guarded rfl rfl (by decide) rfl zu (λ hg=>zq (l:=[.tmp 21]) rfl (by kernel_rfl) (.cons (zf hg rfl) .nil) (JR _ ⟨hf.2.2.1,hf.2.2.2⟩)))
  (.cons rfl (by decide) (.guarded rfl rfl (by decide) rfl zu (λ hg=>yU rfl (zf hg rfl)))
  (sc rfl ((wP rfl (zb rfl) (zb rfl)))
  .nil)))))))))))))))))))))) [0,1,2,24] (λ _ _ _ st2=>?_)
 refine za ?_;refine zK (c:=24) st2 rfl (λ h1=>?_) (λ h1=>?_)
 ·
  have g1:=h1;refine wp_seq ?_;refine zj st2 [0,1,2,24] (λ _ _ _ st3=>?_);refine za ?_;refine wp_ret (zd ?_);refine z7 rfl (λ _ h=>h) st3 (t:=2) rfl ?_;rw[yA,if_pos g1]
 ·
  have g1:=h1;refine wp_skip (za (wp_seq (wp_seq ?_)));refine zj st2 [0,1,2,24,26] (λ _ _ _ st4=>?_);refine za ?_;refine zK (c:=26) st4 rfl (λ h2=>?_) (λ h2=>?_)
  ·
   have g2:=h2;refine wp_seq ?_;refine zt st4 (sc rfl ((zy File.fld1 rfl (by kernel_rfl) (zb rfl)))
    (sc rfl ((zp rfl (by kernel_rfl) (zb rfl)))
    (sc rfl ((XE rfl (zb rfl) (ye (by decide))))
    (sc rfl ((zg rfl (zb rfl)))
    (.cons rfl (by decide) (.guarded rfl rfl (by decide) rfl zu (λ hg=>zy File.fld2 rfl (by kernel_rfl) (zb rfl)))
    (.cons rfl (by decide) (.guarded rfl rfl (by decide) rfl zu (λ hg=>zp rfl (by kernel_rfl) (zf hg rfl)))
    (.cons rfl (by decide) (.guarded rfl rfl (by decide) rfl zu (λ hg=>qq rfl (zf hg rfl) (ye (by decide))))
    (sc rfl ((yZ rfl (zb rfl) (zb rfl)))
    (sc rfl ((zC rfl (zb rfl)))
    .nil))))))))) [0,1,2,24,26] (λ _ _ _ st5=>?_)
   refine za ?_;refine wp_ret (zd ?_);refine z7 rfl (λ _ h=>h) st5 (t:=2) rfl ?_;rw[yA,if_neg (by rw[g1];decide),if_pos g2];rfl
  ·
   have g2:=h2;refine wp_skip (za (wp_seq ?_));refine zt st4 (sc rfl ((zy File.fld2 rfl (by kernel_rfl) (zb rfl)))
    (sc rfl ((zp rfl (by kernel_rfl) (zb rfl)))
    (sc rfl ((zq (l:=[.tmp 36]) rfl (by kernel_rfl) (.cons (zb rfl) .nil) (wU _)))
    (sc rfl ((zg rfl (zb rfl)))
    (.cons rfl (by decide) (.guarded rfl rfl (by decide) rfl zu (λ hg=>zy File.fld1 rfl (by kernel_rfl) (zb rfl)))
    (.cons rfl (by decide) (.guarded rfl rfl (by decide) rfl zu (λ hg=>zp rfl (by kernel_rfl) (zf hg rfl)))
    (.cons rfl (by decide) (.guarded rfl rfl (by decide) rfl zu (λ hg=>zy File.fld2 rfl (by kernel_rfl) (zb rfl)))
    (.cons rfl (by decide) (.guarded rfl rfl (by decide) rfl zu (λ hg=>zp rfl (by kernel_rfl) (zf hg rfl)))
    (.cons rfl (by decide) (.guarded rfl rfl (by decide) rfl zu (λ hg=>zq (l:=[.tmp 40,.tmp 42]) rfl (by kernel_rfl) (.cons (zf hg rfl) (.cons (zf hg rfl) .nil)) (WW _ _ (by have:=hf.1;have:=hf.2.1;omega))))
    (.cons rfl (by decide) (.guarded rfl rfl (by decide) rfl zu (λ hg=>zq (l:=[.tmp 43]) rfl (by kernel_rfl) (.cons (zf hg rfl) .nil) (wV _ (child_mid (by have:=hf.1;have:=hf.2.1;omega)))))
    (sc rfl ((yZ rfl (zb rfl) (zb rfl)))
    (sc rfl ((zC rfl (zb rfl)))
    .nil)))))))))))) [0,1,2,24,26] (λ _ _ _ st6=>?_)
   refine za (wp_ret ?_);refine z7 rfl (λ _ h=>h) st6 (t:=2) rfl ?_;rw[yA,if_neg (by rw[g1];decide),if_neg (by rw[g2];decide)]
theorem Qk(f g:File):Fn Tryz.prog 162 [dt f,dt g] (dt (xD f g)):=by
 refine yP (fn:=Tryz.f162) Tryz.func162 rfl (oD rfl) (λ M _ _ hm st0=>?_);refine wp_seq ?_;refine zt st0 (sc rfl ((Yn rfl (zb rfl)))
  (sc rfl ((Yn rfl (zb rfl)))
  (sc rfl ((zC rfl Xo))
  .nil))) [0,1,2,3,4] (λ _ _ _ st1=>?_)
 refine za (wp_seq ?_);refine zt st1 (sc rfl ((zy File.fld0 rfl (by kernel_rfl) (zb rfl)))
  (sc rfl ((zp rfl (by kernel_rfl) (zb rfl)))
  (sc rfl ((zy File.fld0 rfl (by kernel_rfl) (zb rfl)))
  (sc rfl ((zp rfl (by kernel_rfl) (zb rfl)))
  (sc rfl ((xQ rfl (by decide) (zb rfl) (zb rfl)))
  (sc rfl ((zg rfl (zb rfl)))
  (.cons rfl (by decide) (.guarded rfl rfl (by decide) rfl zu (λ hg=>zy File.fld1 rfl (by kernel_rfl) (zb rfl)))
  (.cons rfl (by decide) (.guarded rfl rfl (by decide) rfl zu (λ hg=>zp rfl (by kernel_rfl) (zf hg rfl)))
  (.cons rfl (by decide) (.guarded rfl rfl (by decide) rfl zu (λ hg=>zy File.fld1 rfl (by kernel_rfl) (zb rfl)))
  (.cons rfl (by decide) (.guarded rfl rfl (by decide) rfl zu (λ hg=>zp rfl (by kernel_rfl) (zf hg rfl)))
  (.cons rfl (by decide) (.guarded rfl rfl (by decide) rfl zu (λ hg=>qq rfl (zf hg rfl) (zf hg rfl)))
  (sc rfl ((yZ rfl (zb rfl) (zb rfl)))
  (sc rfl ((zg rfl (zb rfl)))
  (.cons rfl (by decide) (.guarded rfl rfl (by decide) rfl zu (λ hg=>zy File.fld3 rfl (by kernel_rfl) (zb rfl)))
  (.cons rfl (by decide) (.guarded rfl rfl (by decide) rfl zu (λ hg=>zp rfl (by kernel_rfl) (zf hg rfl)))
  (.cons rfl (by decide) (.guarded rfl rfl (by decide) rfl zu (λ hg=>zy File.fld3 rfl (by kernel_rfl) (zb rfl)))
  (.cons rfl (by decide) (.guarded rfl rfl (by decide) rfl zu (λ hg=>zp rfl (by kernel_rfl) (zf hg rfl)))
  (.cons rfl (by decide) (.guarded rfl rfl (by decide) rfl zu (λ hg=>op_eqT rfl (by kernel_rfl) (zf hg rfl) (zf hg rfl)))
  (sc rfl ((yZ rfl (zb rfl) (zb rfl)))
  (sc rfl ((zg rfl (zb rfl)))
  (.cons rfl (by decide) (.guarded rfl rfl (by decide) rfl zu (λ hg=>zy File.fld2 rfl (by kernel_rfl) (zb rfl)))
  (.cons rfl (by decide) (.guarded rfl rfl (by decide) rfl zu (λ hg=>zp rfl (by kernel_rfl) (zf hg rfl)))
  (.cons rfl (by decide) (.guarded rfl rfl (by decide) rfl zu (λ hg=>zy File.fld2 rfl (by kernel_rfl) (zb rfl)))
  (.cons rfl (by decide) (.guarded rfl rfl (by decide) rfl zu (λ hg=>zp rfl (by kernel_rfl) (zf hg rfl)))
  (.cons rfl (by decide) (.guarded rfl rfl (by decide) rfl zu (λ hg=>qq rfl (zf hg rfl) (zf hg rfl)))
  (sc rfl ((yZ rfl (zb rfl) (zb rfl)))
  (sc rfl ((zC rfl (zb rfl)))
  .nil))))))))))))))))))))))))))) [0,1,2,3,4] (λ _ _ _ st2=>?_)
 refine za (wp_ret ?_);refine z7 rfl (λ _ h=>h) st2 (t:=4) rfl ?_;simp[xD,cmpI]
theorem Wg(t:Tree)(f:File):Fn Tryz.prog 133 [dt t,dt f] (dt (wh t.files f)):=by
 refine yP (fn:=Tryz.f133) Tryz.func133 rfl (oD rfl) (λ M w0 _ hm st0=>?_);have hlen:=st0.fldL Tree.fld0 (s:=0) rfl;refine wp_seq ?_;refine YG st0 (sc rfl ((Yn rfl (zb rfl)))
  (sc rfl ((Yn rfl (zb rfl)))
  (sc rfl ((zC rfl zQ))
  .nil)))
  (kc 0 rfl (kc 1 rfl (kc 2 rfl (kc 3 rfl (kc 4 rfl .nil))))) (λ _ _ _ st1=>?_)
 refine za (wp_seq (wp_seq ?_));refine YG st1 (sc rfl ((zC rfl zQ))
  .nil)
  (kc 0 rfl (kc 1 rfl (kc 2 rfl (kc 3 rfl (kc 4 rfl (kc 5 rfl .nil)))))) (λ _ _ _ st2=>?_)
 refine za (wp_block ?_);refine qL (ι:=Nat) (λ k a w=>St (Frm.of w0) 21 M [(0,dt t),(1,dt f),(2,dptr t),(3,dptr f),(5,dt (k:Int))] a w/\k<=t.files.length/\(t.files.take k).any (λ x=>xD x f)=false) (λ k=>t.files.length - k) 0 ?_ ?_
 ·
  exact⟨st2.pick (kc 0 rfl (kc 1 rfl (kc 2 rfl (kc 3 rfl (kc 5 rfl .nil))))),Nat.zero_le _,by simp⟩
 ·
  rintro k a3 w3 ⟨st3,hk,hp⟩
  refine wp_seq (wp_seq ?_);refine YG st3 (sc rfl ((zg rfl (zb rfl)))
   (sc rfl ((zy Tree.fld0 rfl (by kernel_rfl) (zb rfl)))
   (sc rfl ((zp rfl (by kernel_rfl) (zb rfl)))
   (sc rfl ((Wz rfl (by kernel_rfl) (zb rfl)))
   (sc rfl ((xQ rfl (by decide) (zb rfl) (zb rfl)))
   .nil)))))
   (kc 0 rfl (kc 1 rfl (kc 2 rfl (kc 3 rfl (kc 5 rfl (kc 10 rfl .nil)))))) (λ _ _ _ st4=>?_)
  refine za ?_;refine zK (c:=10) st4 rfl (λ h1=>?_) (λ h1=>?_)
  ·
   obtain⟨x,hx⟩:=Xa h1;have hlt:=zW hx;refine wp_skip (za (wp_seq (wp_block (wp_seq ?_))));refine Jg zI [[],[0],[],[0,1,2],[0,1,2,3],[],[0,1,2,3,4,5]] [[(2,nS)],[(13,0)],[(5,nS)],[(14,1),(15,2)],[(16,3)],[(3,nS)],[(17,4),(18,5)]] (by decide +kernel) st4 (D:=[_,_,_,_,_,_,_])
    (.cons rfl (by decide) rfl (.plain rfl (zy Tree.fld0 rfl (by kernel_rfl) (zb rfl)))
    (.cons rfl (by decide) rfl (.plain rfl (zp rfl (by kernel_rfl) (zb rfl)))
    (.cons rfl (by decide) rfl (.plain rfl (zg rfl (zb rfl)))
    (.cons rfl (by decide) rfl (.plain rfl (xE rfl (by kernel_rfl) (zb rfl) (zb rfl) rfl (by assumption)))
    (.cons rfl (by decide) rfl (.plain rfl (zp rfl (by kernel_rfl) (zb rfl)))
    (.cons rfl (by decide) rfl (.plain rfl (zp rfl (by kernel_rfl) (zb rfl)))
    (.cons rfl (by decide) rfl (.plain rfl (zq (l:=[.tmp 17,.tmp 18]) rfl (by kernel_rfl) (.cons (zb rfl) (.cons (zb rfl) .nil)) (Qk _ _)))
    .nil)))))))
    (kc 0 rfl (kc 1 rfl (kc 2 rfl (kc 3 rfl (kc 5 rfl (kc 10 rfl (kc 19 rfl .nil))))))) (λ _ _ _ st5=>?_)
   refine za ?_;refine zK (c:=19) st5 rfl (λ h2=>?_) (λ h2=>?_)
   ·
    have ht:=h2;refine wp_seq ?_;refine zj st5 [0,1,2,3,4,5,10,19] (λ _ _ _ st6=>?_);refine za ?_;refine wp_ret (zn (zd (zd (zn (zd ?_)))));refine z7 rfl (λ _ h=>h) st6 (t:=4) rfl ?_;exact(idx_hit hp hx ht).symm
   ·
    have hf:=h2;refine wp_skip (zk (za ?_));refine zt st5 (sc rfl ((zg rfl (zb rfl)))
     (sc rfl ((qe rfl (by decide) (zb rfl) zQ (by simp only[arI];omega)))
     (sc rfl ((zC rfl (zb rfl)))
     .nil))) [0,1,2,3,5,10,19] (λ _ _ _ st7=>?_)
    refine za ⟨k+1,⟨st7.pick (kc 0 rfl (kc 1 rfl (kc 2 rfl (kc 3 rfl (kc 5 rfl .nil))))),by omega,JK hx hp hf⟩,by omega⟩
  ·
   have hend:=Xb h1;refine wp_exit (ze (ze (zw ?_)));refine za (wp_seq ?_);refine zj st4 [0,1,2,3,4,5,10] (λ _ _ _ st8=>?_);refine za (wp_ret ?_);refine z7 rfl (λ _ h=>h) st8 (t:=4) rfl ?_;exact(idx_end hend hp).symm
theorem spec_intAt_ok(l:List Int)(n:Int):Fn Tryz.prog 94 [dt l,dt n] (dt (intAt l n)):=by
 refine yP (fn:=Tryz.f94) Tryz.func94 rfl (oD rfl) (λ M w0 _ hm st0=>?_);have hlen:=st0.lenL (s:=0) rfl;refine wp_seq ?_;refine zj st0 [0,1,4] (λ _ _ _ st1=>?_);refine za (wp_seq (wp_seq ?_));refine zj st1 [0,1,4,5] (λ _ _ _ st2=>?_);refine za (wp_block ?_);refine qL (ι:=Nat) (λ k a w=>St (Frm.of w0) 19 M [(0,dt l),(1,dt n),(5,dt (k:Int))] a w/\k<=l.length/\(l.take k).any (λ x=>x == n)=false) (λ k=>l.length - k) 0 ?_ ?_
 ·
  exact⟨st2.pick (kc 0 rfl (kc 1 rfl (kc 5 rfl .nil))),Nat.zero_le _,by simp⟩
 ·
  rintro k a3 w3 ⟨st3,hk,hp⟩
  refine wp_seq (wp_seq ?_);refine zj st3 [0,1,5,9] (λ _ _ _ st4=>?_);refine za ?_;refine zK (c:=9) st4 rfl (λ h1=>?_) (λ h1=>?_)
  ·
   obtain⟨x,hx⟩:=Xa h1;have hlt:=zW hx;refine wp_skip (za (wp_seq (wp_block (wp_seq ?_))));refine zt st4 (sc rfl ((zg rfl (zb rfl)))
    (sc rfl ((zg rfl (zb rfl)))
    (sc rfl ((xE rfl (by kernel_rfl) (zb rfl) (zb rfl) rfl (by assumption)))
    (sc rfl ((zp rfl (by kernel_rfl) (zb rfl)))
    (sc rfl ((zg rfl (zb rfl)))
    (sc rfl ((xQ rfl (by decide) (zb rfl) (zb rfl)))
    .nil)))))) [0,1,5,9,17] (λ _ _ _ st5=>?_)
   refine za ?_;refine zK (c:=17) st5 rfl (λ h2=>?_) (λ h2=>?_)
   ·
    have ht:=h2;refine wp_seq ?_;refine zj st5 [0,1,4,5,9,17] (λ _ _ _ st6=>?_);refine za ?_;refine wp_ret (zn (zd (zd (zn (zd ?_)))));refine z7 rfl (λ _ h=>h) st6 (t:=4) rfl ?_;exact(idx_hit hp hx ht).symm
   ·
    have hf:=h2;refine wp_skip (zk (za ?_));refine zt st5 (sc rfl ((zg rfl (zb rfl)))
     (sc rfl ((qe rfl (by decide) (zb rfl) zQ (by simp only[arI];omega)))
     (sc rfl ((zC rfl (zb rfl)))
     .nil))) [0,1,5,9,17] (λ _ _ _ st7=>?_)
    refine za ⟨k+1,⟨st7.pick (kc 0 rfl (kc 1 rfl (kc 5 rfl .nil))),by omega,JK hx hp hf⟩,by omega⟩
  ·
   have hend:=Xb h1;refine wp_exit (ze (ze (zw ?_)));refine za (wp_seq ?_);refine zj st4 [0,1,4,5,9] (λ _ _ _ st8=>?_);refine za (wp_ret ?_);refine z7 rfl (λ _ h=>h) st8 (t:=4) rfl ?_;exact(idx_end hend hp).symm
theorem zad  : Fn Tryz.prog 51 [] (dt Jk):=by
 refine yP (fn:=Tryz.f51) Tryz.func51 rfl (oD rfl) (λ M _ _ hm st0=>?_);refine wp_seq (wp_region_list ?_);refine wpl_alloc (n:=3) st0 rfl rfl rfl (by decide) (by kernel_rfl) .nil (λ b1 _ _ hb1 hn1 _ st1=>?_);refine wpList_nil (za (wp_seq (wp_region_list ?_)));refine WU 2 st1 (sc rfl ((Yo (opds:=[]) (α:=Int) rfl (by kernel_rfl) (by kernel_rfl) rfl rfl (by decide) .nil))
  (sc rfl ((ZL (parts:=[(0,.const (.int .i64 0)),(1,.const (.int .i64 (-1))),(2,.tmp 1)]) (ns:=[1,1,1]) (zs:=[[.int .i64 0],[.int .i64 0],[.slice none 0 0]]) rfl rfl (by kernel_rfl) (by kernel_rfl) (λ w a hl=>by
    intro p hp;simp only[List.mem_cons,List.not_mem_nil,or_false] at hp;rcases hp with rfl | rfl | rfl
    ·
     exact⟨by decide,rfl⟩
    ·
     exact⟨by decide,rfl⟩
    ·
     exact⟨by decide,Rep.len (α:=(List Int)) (OpdR.cells (zb rfl) hl)⟩) (λ w a hl=>Spec.parts (x:=⟨0,-1,[]⟩) (OpdR.cells zQ hl) (OpdR.cells zQ hl) (OpdR.cells (zb rfl) hl))))
  .nil))
  (kc 0 rfl (kc 2 rfl .nil)) (λ _ _ _ st2=>?_)
 refine wpl_storeNew st2 rfl rfl rfl (by kernel_rfl) rfl hb1 (.inr rfl) rfl (zb rfl) .nil (λ _ st3=>?_);refine wpList_nil (za (wp_ret ?_));refine ret_box rfl (by kernel_rfl) st3 (t:=0) rfl (λ _ h=>(.inl h)) ?_;rfl
open Go.RowKit
set_option maxRecDepth 10000
theorem zae(t:Tree)(root:Int)(p:Str)(hp:p.l.length<=1152921504606846976):Fn Tryz.prog 136 [dt t,dt root,dt p] (dt (Yp t.files root p)):=by
 refine yP (fn:=Tryz.f136) Tryz.func136 rfl (oD rfl) (λ M w0 _ hm st0=>?_);have hlen:=st0.fldL Tree.fld0 (s:=0) rfl;refine wp_seq ?_;refine zt st0 (sc rfl ((Yn rfl (zb rfl)))
  (sc rfl ((zC rfl Xo))
  .nil)) [0,1,2,3,6] (λ _ _ _ st1=>?_)
 refine za (wp_seq (wp_seq ?_));refine zj st1 [0,1,2,3,6,7] (λ _ _ _ st2=>?_);refine za (wp_block ?_);refine qL (ι:=Nat) (λ k a w=>St (Frm.of w0) 44 M [(0,dt t),(1,dt root),(2,dt p),(3,dptr t),(7,dt (k:Int))] a w/\k<=t.files.length/\(t.files.take k).any (Jj root p)=false) (λ k=>t.files.length - k) 0 ?_ ?_
 ·
  exact⟨st2.pick (kc 0 rfl (kc 1 rfl (kc 2 rfl (kc 3 rfl (kc 7 rfl .nil))))),Nat.zero_le _,by simp⟩
 ·
  rintro k a3 w3 ⟨st3,hk,hq⟩
  refine wp_seq (wp_seq ?_);refine zj st3 [0,1,2,3,7,12] (λ _ _ _ st4=>?_);refine za ?_;refine zK (c:=12) st4 rfl (λ h1=>?_) (λ h1=>?_)
  ·
   obtain⟨x,hx⟩:=Xa h1;have hlt:=zW hx;refine wp_skip (za (wp_seq (wp_block (wp_seq ?_))));refine zt st4 (sc rfl ((zy Tree.fld0 rfl (by kernel_rfl) (zb rfl)))
    (sc rfl ((zp rfl (by kernel_rfl) (zb rfl)))
    (sc rfl ((zg rfl (zb rfl)))
    (sc rfl ((xE rfl (by kernel_rfl) (zb rfl) (zb rfl) rfl (by assumption)))
    (sc rfl ((zy File.fld0 rfl (by kernel_rfl) (zb rfl)))
    (sc rfl ((zp rfl (by kernel_rfl) (zb rfl)))
    (sc rfl ((zg rfl (zb rfl)))
    (sc rfl ((xQ rfl (by decide) (zb rfl) (zb rfl)))
    (sc rfl ((zg rfl (zb rfl)))
    (.cons rfl (by decide) (.guarded rfl rfl (by decide) rfl zu (λ hg=>zy Tree.fld0 rfl (by kernel_rfl) (zb rfl)))
    (.cons rfl (by decide) (.guarded rfl rfl (by decide) rfl zu (λ hg=>zp rfl (by kernel_rfl) (zf hg rfl)))
    (.cons rfl (by decide) (.guarded rfl rfl (by decide) rfl zu (λ hg=>zg rfl (zb rfl)))
    (.cons rfl (by decide) (.guarded rfl rfl (by decide) rfl zu (λ hg=>xE rfl (by kernel_rfl) (zf hg rfl) (zf hg rfl) rfl (by assumption)))
    (.cons rfl (by decide) (.guarded rfl rfl (by decide) rfl zu (λ hg=>zy File.fld1 rfl (by kernel_rfl) (zf hg rfl)))
    (.cons rfl (by decide) (.guarded rfl rfl (by decide) rfl zu (λ hg=>zp rfl (by kernel_rfl) (zf hg rfl)))
    (.cons rfl (by decide) (.guarded rfl rfl (by decide) rfl zu (λ hg=>XE rfl (zf hg rfl) (ye (by decide))))
    (sc rfl ((yZ rfl (zb rfl) (zb rfl)))
    (sc rfl ((zg rfl (zb rfl)))
    (.cons rfl (by decide) (.guarded rfl rfl (by decide) rfl zu (λ hg=>zy Tree.fld0 rfl (by kernel_rfl) (zb rfl)))
    (.cons rfl (by decide) (.guarded rfl rfl (by decide) rfl zu (λ hg=>zp rfl (by kernel_rfl) (zf hg rfl)))
    (.cons rfl (by decide) (.guarded rfl rfl (by decide) rfl zu (λ hg=>zg rfl (zb rfl)))
    (.cons rfl (by decide) (.guarded rfl rfl (by decide) rfl zu (λ hg=>xE rfl (by kernel_rfl) (zf hg rfl) (zf hg rfl) rfl (by assumption)))
    (.cons rfl (by decide) (.guarded rfl rfl (by decide) rfl zu (λ hg=>zy File.fld1 rfl (by kernel_rfl) (zf hg rfl)))
    (.cons rfl (by decide) (.guarded rfl rfl (by decide) rfl zu (λ hg=>zp rfl (by kernel_rfl) (zf hg rfl)))
    (.cons rfl (by decide) (.guarded rfl rfl (by decide) rfl zu (λ hg=>zg rfl (zb rfl)))
    (.cons rfl (by decide) (.guarded rfl rfl (by decide) rfl zu (λ hg=>zq (l:=[.tmp 38,.tmp 39]) rfl (by kernel_rfl) (.cons (zf hg rfl) (.cons (zf hg rfl) .nil)) (WX _ _ (by assumption))))
    (sc rfl ((yZ rfl (zb rfl) (zb rfl)))
    .nil))))))))))))))))))))))))))) [0,1,2,3,7,12,41] (λ _ _ _ st5=>?_)
   refine za ?_;refine zK (c:=41) st5 rfl (λ h2=>?_) (λ h2=>?_)
   ·
    have ht:=h2;refine wp_seq ?_;refine zj st5 [0,1,2,3,6,7,12,41] (λ _ _ _ st6=>?_);refine za ?_;refine wp_ret (zn (zd (zd (zn (zd ?_)))));refine z7 rfl (λ _ h=>h) st6 (t:=6) rfl ?_;rw[Yp,any_hit (p:=Jj root p) hx ht];rfl
   ·
    have hf:=h2;refine wp_skip (zk (za ?_));refine zt st5 (sc rfl ((zg rfl (zb rfl)))
     (sc rfl ((qe rfl (by decide) (zb rfl) zQ (by simp only[arI];omega)))
     (sc rfl ((zC rfl (zb rfl)))
     .nil))) [0,1,2,3,7,12,41] (λ _ _ _ st7=>?_)
    refine za ⟨k+1,⟨st7.pick (kc 0 rfl (kc 1 rfl (kc 2 rfl (kc 3 rfl (kc 7 rfl .nil))))),by omega,JK (p:=Jj root p) hx hq hf⟩,by omega⟩
  ·
   have hend:=Xb h1;refine wp_exit (ze (ze (zw ?_)));refine za (wp_seq ?_);refine zj st4 [0,1,2,3,6,7,12] (λ _ _ _ st8=>?_);refine za (wp_ret ?_);refine z7 rfl (λ _ h=>h) st8 (t:=6) rfl ?_;rw[Yp,any_end hend hq];rfl
theorem JT(l:List Int):Fn Tryz.prog 49 [dt l] (dt (yq l)):=by
 refine yP (fn:=Tryz.f49) Tryz.func49 rfl (oD rfl) (λ M w0 _ hm st0=>?_);have hlen:=st0.lenL (s:=0) rfl;refine wp_seq ?_;refine zj st0 [0,2] (λ _ _ _ st1=>?_);refine za (wp_seq (wp_seq ?_));refine zj st1 [0,2,3] (λ _ _ _ st2=>?_);refine za (wp_block ?_);refine qL (ι:=Nat) (λ k a w=>St (Frm.of w0) 27 M [(0,dt l),(3,dt (k:Int))] a w/\k<=l.length/\Xd l k=true) (λ k=>l.length - k) 0 ?_ ?_
 ·
  exact⟨st2.pick (kc 0 rfl (kc 3 rfl .nil)),Nat.zero_le _,rfl⟩
 ·
  rintro k a3 w3 ⟨st3,hk,hp⟩
  refine wp_seq (wp_seq ?_);refine zj st3 [0,3,7] (λ _ _ _ st4=>?_);refine za ?_;refine zK (c:=7) st4 rfl (λ h1=>?_) (λ h1=>?_)
  ·
   obtain⟨x,hx⟩:=Xa h1;have hlt:=zW hx;refine wp_skip (za (wp_seq (wp_block (wp_seq ?_))));refine Jg zI [[],[],[0,1],[0,1,2],[0,1,2,3],[0,1,2,3,4],[0,1,2,3,4,5],[0,1,2,3,4,5,6],[0,1,2,3,4,5,6],[0,1,2,3,4,5,6,7,8],[0,1,2,3,4,5,6],[0,1,2,3,4,5,6],[0,1,2,3,4,5,6,10,11],[0,1,2,3,4,5,6,10,11,12],[0,1,2,3,4,5,6,7,8,9,10,11,12,13],[0,1,2,3,4,5,6,7,8,9,10,11,12,13,14],[0,1,2,3,4,5,6,7,8,9,10,11,12,13,14,15]] [[(0,nS)],[(3,nS)],[(10,0),(11,1)],[(12,2)],[(13,3)],[(14,4)],[(15,5)],[(0,nS),(16,6)],[(3,nS),(16,6)],[(17,7),(18,8),(16,6)],[(0,nS),(16,6)],[(3,nS),(16,6)],[(20,10),(21,11),(16,6)],[(22,12),(16,6)],[(19,9),(23,13),(16,6)],[(24,14),(16,6)],[(16,6),(25,15)]] (by decide +kernel) st4 (D:=[_,_,_,_,_,_,_,_,_,_,_,_,_,_,_,_,_])
    (.cons rfl (by decide) rfl (.plain rfl (zg rfl (zb rfl)))
    (.cons rfl (by decide) rfl (.plain rfl (zg rfl (zb rfl)))
    (.cons rfl (by decide) rfl (.plain rfl (xE rfl (by kernel_rfl) (zb rfl) (zb rfl) rfl (by assumption)))
    (.cons rfl (by decide) rfl (.plain rfl (zp rfl (by kernel_rfl) (zb rfl)))
    (.cons rfl (by decide) rfl (.plain rfl (zq (l:=[.tmp 13,.const (.int .i64 0),.const (.int .i64 2)]) rfl (by kernel_rfl) (.cons (zb rfl) (.cons zQ (.cons zQ .nil))) (wH _ _ _)))
    (.cons rfl (by decide) rfl (.plain rfl (yU rfl (zb rfl)))
    (.cons rfl (by decide) rfl (.plain rfl (zg rfl (zb rfl)))
    (.cons rfl (by decide) rfl (.guarded rfl rfl (by decide) rfl zu (λ hg=>zg rfl (zb rfl)))
    (.cons rfl (by decide) rfl (.guarded rfl rfl (by decide) rfl zu (λ hg=>zg rfl (zb rfl)))
    (.cons rfl (by decide) rfl (.guarded rfl rfl (by decide) rfl zu (λ hg=>Q7 rfl (by kernel_rfl) (zf hg rfl) (zf hg rfl) rfl (by omega)))
    (.cons rfl (by decide) rfl (.guarded rfl rfl (by decide) rfl zu (λ hg=>zg rfl (zb rfl)))
    (.cons rfl (by decide) rfl (.guarded rfl rfl (by decide) rfl zu (λ hg=>zg rfl (zb rfl)))
    (.cons rfl (by decide) rfl (.guarded rfl rfl (by decide) rfl zu (λ hg=>xE rfl (by kernel_rfl) (zf hg rfl) (zf hg rfl) rfl (by assumption)))
    (.cons rfl (by decide) rfl (.guarded rfl rfl (by decide) rfl zu (λ hg=>zp rfl (by kernel_rfl) (zf hg rfl)))
    (.cons rfl (by decide) rfl (.guarded rfl rfl (by decide) rfl zu (λ hg=>zq (l:=[.tmp 19,.tmp 23]) rfl (by kernel_rfl) (.cons (zf hg rfl) (.cons (zf hg rfl) .nil)) (spec_intAt_ok _ _)))
    (.cons rfl (by decide) rfl (.guarded rfl rfl (by decide) rfl zu (λ hg=>xQ rfl (by decide) (zf hg rfl) zQ))
    (.cons rfl (by decide) rfl (.plain rfl (wP rfl (zb rfl) (zb rfl)))
    .nil)))))))))))))))))
    (kc 0 rfl (kc 3 rfl (kc 7 rfl (kc 26 rfl .nil)))) (λ _ _ _ st5=>?_)
   refine za ?_;refine zK (c:=26) st5 rfl (λ h2=>?_) (λ h2=>?_)
   ·
    have ht:=h2;refine wp_seq ?_;refine zj st5 [0,2,3,7,26] (λ _ _ _ st6=>?_);refine za ?_;refine wp_ret (zn (zd (zd (zn (zd ?_)))));refine z7 rfl (λ _ h=>h) st6 (t:=2) rfl ?_;exact(validPath_bad hx ht).symm
   ·
    have hf:=h2;refine wp_skip (zk (za ?_));refine zt st5 (sc rfl ((zg rfl (zb rfl)))
     (sc rfl ((qe rfl (by decide) (zb rfl) zQ (by simp only[arI];omega)))
     (sc rfl ((zC rfl (zb rfl)))
     .nil))) [0,3,7,26] (λ _ _ _ st7=>?_)
    refine za ⟨k+1,⟨st7.pick (kc 0 rfl (kc 3 rfl .nil)),by omega,pathTo_next hx hp hf⟩,by omega⟩
  ·
   have hend:=Xb h1;refine wp_exit (ze (ze (zw ?_)));refine za (wp_seq ?_);refine zj st4 [0,2,3,7] (λ _ _ _ st8=>?_);refine za (wp_ret ?_);refine z7 rfl (λ _ h=>h) st8 (t:=2) rfl ?_;exact(validPath_end hend hk hp).symm
theorem JU(t:Tree)(ht:jf t):Fn Tryz.prog 93 [dt t] (dt (yf t)):=by
 refine yP (fn:=Tryz.f93) Tryz.func93 rfl (oD rfl) (λ M w0 _ hm st0=>?_);have hlen:=ht.1;refine wp_seq ?_;refine zt st0 (sc rfl ((Yn rfl (zb rfl)))
  (sc rfl ((zC rfl Xo))
  .nil)) [0,1,2] (λ _ _ _ st1=>?_)
 refine za (wp_seq (wp_seq ?_));refine zj st1 [0,1,2,3] (λ _ _ _ st2=>?_);refine za (wp_block ?_);refine qL (ι:=Nat) (λ k a w=>St (Frm.of w0) 33 M [(0,dt t),(1,dptr t),(3,dt (k:Int))] a w/\k<=t.files.length/\Xc t.files k=true) (λ k=>t.files.length - k) 0 ?_ ?_
 ·
  exact⟨st2.pick (kc 0 rfl (kc 1 rfl (kc 3 rfl .nil))),Nat.zero_le _,rfl⟩
 ·
  rintro k a3 w3 ⟨st3,hk,hp⟩
  refine wp_seq (wp_seq ?_);refine zj st3 [0,1,3,8] (λ _ _ _ st4=>?_);refine za ?_;refine zK (c:=8) st4 rfl (λ h1=>?_) (λ h1=>?_)
  ·
   obtain⟨x,hx⟩:=Xa h1;have hlt:=zW hx;refine wp_skip (za (wp_seq (wp_block (wp_seq ?_))));refine Jg zI [[],[0],[],[0,1,2],[0,1,2,3],[0,1,2,3,4],[0,1,2,3,4,5],[0,1,2,3,4,5,6],[0,1,2,3,4,5,6,7],[0,1,2,3,4,5,6,7],[0,1,2,3,4,5,6,7,9],[0,1,2,3,4,5,6,7],[0,1,2,3,4,5,6,7,9,10,11],[0,1,2,3,4,5,6,7,9,10,11,12],[0,1,2,3,4,5,6,7,8,9,10,11,12,13],[0,1,2,3,4,5,6,7],[0,1,2,3,4,5,6,7,8,9,10,11,12,13,14,15],[0,1,2,3,4,5,6,7,8,9,10,11,12,13,14,15,16]] [[(1,nS)],[(11,0)],[(3,nS)],[(12,1),(13,2)],[(14,3)],[(15,4)],[(16,5)],[(17,6)],[(1,nS),(18,7)],[(1,nS),(18,7)],[(20,9),(18,7)],[(3,nS),(18,7)],[(21,10),(22,11),(18,7)],[(23,12),(18,7)],[(19,8),(24,13),(18,7)],[(3,nS),(18,7)],[(25,14),(26,15),(18,7)],[(18,7),(27,16)]] (by decide +kernel) st4 (D:=[_,_,_,_,_,_,_,_,_,_,_,_,_,_,_,_,_,_])
    (.cons rfl (by decide) rfl (.plain rfl (zy Tree.fld0 rfl (by kernel_rfl) (zb rfl)))
    (.cons rfl (by decide) rfl (.plain rfl (zp rfl (by kernel_rfl) (zb rfl)))
    (.cons rfl (by decide) rfl (.plain rfl (zg rfl (zb rfl)))
    (.cons rfl (by decide) rfl (.plain rfl (xE rfl (by kernel_rfl) (zb rfl) (zb rfl) rfl (by assumption)))
    (.cons rfl (by decide) rfl (.plain rfl (zp rfl (by kernel_rfl) (zb rfl)))
    (.cons rfl (by decide) rfl (.plain rfl (zq (l:=[.tmp 15]) rfl (by kernel_rfl) (.cons (zb rfl) .nil) (JS _ (ht.2 _ (List.mem_of_getElem? hx)))))
    (.cons rfl (by decide) rfl (.plain rfl (yU rfl (zb rfl)))
    (.cons rfl (by decide) rfl (.plain rfl (zg rfl (zb rfl)))
    (.cons rfl (by decide) rfl (.guarded rfl rfl (by decide) rfl zu (λ hg=>zp rfl (by kernel_rfl) (zb rfl)))
    (.cons rfl (by decide) rfl (.guarded rfl rfl (by decide) rfl zu (λ hg=>zy Tree.fld0 rfl (by kernel_rfl) (zb rfl)))
    (.cons rfl (by decide) rfl (.guarded rfl rfl (by decide) rfl zu (λ hg=>zp rfl (by kernel_rfl) (zf hg rfl)))
    (.cons rfl (by decide) rfl (.guarded rfl rfl (by decide) rfl zu (λ hg=>zg rfl (zb rfl)))
    (.cons rfl (by decide) rfl (.guarded rfl rfl (by decide) rfl zu (λ hg=>xE rfl (by kernel_rfl) (zf hg rfl) (zf hg rfl) rfl (by assumption)))
    (.cons rfl (by decide) rfl (.guarded rfl rfl (by decide) rfl zu (λ hg=>zp rfl (by kernel_rfl) (zf hg rfl)))
    (.cons rfl (by decide) rfl (.guarded rfl rfl (by decide) rfl zu (λ hg=>zq (l:=[.tmp 19,.tmp 24]) rfl (by kernel_rfl) (.cons (zf hg rfl) (.cons (zf hg rfl) .nil)) (Wg _ _)))
    (.cons rfl (by decide) rfl (.guarded rfl rfl (by decide) rfl zu (λ hg=>zg rfl (zb rfl)))
    (.cons rfl (by decide) rfl (.guarded rfl rfl (by decide) rfl zu (λ hg=>xQ rfl (by decide) (zf hg rfl) (zf hg rfl)))
    (.cons rfl (by decide) rfl (.plain rfl (wP rfl (zb rfl) (zb rfl)))
    .nil))))))))))))))))))
    (kc 0 rfl (kc 1 rfl (kc 3 rfl (kc 8 rfl (kc 28 rfl .nil))))) (λ _ _ _ st5=>?_)
   refine za ?_;refine zK (c:=28) st5 rfl (λ h2=>?_) (λ h2=>?_)
   ·
    have hq:=h2;refine wp_seq ?_;refine zj st5 [0,1,2,3,8,28] (λ _ _ _ st6=>?_);refine za ?_;refine wp_ret (zn (zd (zd (zn (zd ?_)))));refine z7 rfl (λ _ h=>h) st6 (t:=2) rfl ?_;exact(validTree_bad hx hq).symm
   ·
    have hf:=h2;refine wp_skip (zk (za ?_));refine zt st5 (sc rfl ((zg rfl (zb rfl)))
     (sc rfl ((qe rfl (by decide) (zb rfl) zQ (by simp only[arI];omega)))
     (sc rfl ((zC rfl (zb rfl)))
     .nil))) [0,1,3,8,28] (λ _ _ _ st7=>?_)
    refine za ⟨k+1,⟨st7.pick (kc 0 rfl (kc 1 rfl (kc 3 rfl .nil))),by omega,treeTo_next hx hp hf⟩,by omega⟩
  ·
   have hend:=Xb h1;refine wp_exit (ze (ze (zw ?_)));refine za (wp_seq ?_);refine zj st4 [0,1,2,3,8] (λ _ _ _ st8=>?_);refine za (wp_ret ?_);refine z7 rfl (λ _ h=>h) st8 (t:=2) rfl ?_;exact(validTree_end hend hk hp)
open Go.RowKit
set_option maxRecDepth 10000
theorem Jm(xs:List Str)(s:Str)(hx:xs.length<=8796093022200):Jh Tryz.prog 128 9 (xs) [dt s] (xC xs s):=by
 refine Q9 (fn:=Tryz.f128) Tryz.func128 rfl (oD rfl) (λ M g w0 _ htip hm st0=>?_);refine wp_seq ?_;refine zt st0 (sc rfl ((zC rfl (qg (α:=Str))))
  .nil) [0,1,4] (λ _ _ _ st1=>?_)
 refine za (wp_seq (wp_seq ?_));refine zt st1 (sc rfl ((zg rfl (zb rfl)))
  (sc rfl ((zg rfl (zb rfl)))
  (sc rfl ((wR (M0:=M) (l:=[.tmp 7,.tmp 8]) (λ _ h=>.inl h) rfl (by kernel_rfl) (.cons (opd2_tip (λ _ h=>.inl h) htip (zb rfl)) (.cons (wQ (λ _ h=>.inl h) (zb rfl)) .nil)) (QY _ _) ZH))
  .nil))) [0,1,4,9] (λ _ _ _ st2=>?_)
 refine za ?_;refine zK (c:=9) st2 rfl (λ h1=>?_) (λ h1=>?_)
 ·
  have hin:=h1;refine wp_seq ?_;refine zj st2 [0,1,4,9] (λ _ _ _ st3=>?_);refine za ?_;refine wp_ret (zd ?_);refine ret_take rfl rfl htip (λ _ h=>h) st3 (t:=4) rfl ?_;rw[xC,if_pos hin]
 ·
  have hin:=h1;refine wp_skip (za (wp_seq ?_));refine zt st2 (sc rfl ((zg rfl (zb rfl)))
   (sc rfl ((op_lenT rfl (by kernel_rfl) (zb rfl)))
   (sc rfl ((zC rfl (zb rfl)))
   .nil))) [0,1,4,5,9] (λ _ _ _ st4=>?_)
  refine za (wp_seq (wp_block ?_));refine qL (ι:=Nat) (λ k a w=>St (Frm.take w0 g) 39 (insO g M) [(0,dtip g 9 (xs)),(1,dt s),(5,dt (k:Int))] a w/\k<=xs.length/\wx xs s k=wx xs s xs.length) (λ k=>k) xs.length ?_ ?_
  ·
   exact⟨st4.pick (kc 0 rfl (kc 1 rfl (kc 5 rfl .nil))),Nat.le_refl _,rfl⟩
  ·
   rintro k a5 w5 ⟨st5,hk,hp⟩
   obtain⟨y,hy⟩:=insGet hk;refine wp_seq (wp_seq ?_);refine zt st5 (sc rfl ((zg rfl (zb rfl)))
    (sc rfl ((xQ rfl (by decide) (zb rfl) zQ))
    (sc rfl ((zg rfl (zb rfl)))
    (.cons rfl (by decide) (.guarded rfl rfl (by decide) rfl zu (λ hg=>zg rfl (zb rfl)))
    (.cons rfl (by decide) (.guarded rfl rfl (by decide) rfl zu (λ hg=>zg rfl (zb rfl)))
    (.cons rfl (by decide) (.guarded rfl rfl (by decide) rfl zu (λ hg=>qe rfl (by decide) (zf hg rfl) zQ (by simp only[arI];omega)))
    (.cons rfl (by decide) (.guarded rfl rfl (by decide) rfl zu (λ hg=>JI rfl (by kernel_rfl) (zf hg rfl) (zf hg rfl) (k:=k - 1) (by have:=gtz' hg;simp only[arI];omega) (hy (gtz' hg))))
    (.cons rfl (by decide) (.guarded rfl rfl (by decide) rfl zu (λ hg=>zM rfl (by kernel_rfl) (zf hg rfl)))
    (.cons rfl (by decide) (.guarded rfl rfl (by decide) rfl zu (λ hg=>zg rfl (zb rfl)))
    (.cons rfl (by decide) (.guarded rfl rfl (by decide) rfl zu (λ hg=>op_cmpS rfl (by decide) (zf hg rfl) (zf hg rfl)))
    (sc rfl ((yZ rfl (zb rfl) (zb rfl)))
    .nil))))))))))) [0,1,5,23] (λ _ _ _ st6=>?_)
   refine za ?_;refine zK (c:=23) st6 rfl (λ h2=>?_) (λ h2=>?_)
   ·
    have htk:=h2;refine wp_skip (za (wp_block ?_));refine zt st6 (sc rfl ((zg rfl (zb rfl)))
     (sc rfl ((qe rfl (by decide) (zb rfl) zQ (by simp only[arI];omega)))
     (sc rfl ((zC rfl (zb rfl)))
     .nil))) [0,1,5,23] (λ _ _ _ st7=>?_)
    refine zk ?_;refine za ⟨k - 1,⟨?_,by omega,(insPos_down hy htk).trans hp⟩,by have:=gtz htk;omega⟩;rw[show((k - 1:Nat):Int)=arI .sub k 1 from by have:=gtz htk;simp only[arI];omega];exact st7.pick (kc 0 rfl (kc 1 rfl (kc 5 rfl .nil)))
   ·
    have hend:=h2;refine wp_exit (ze (ze (zw ?_)));refine za (wp_seq (wp_region_list ?_));refine WU 4 st6.ins0 (sc rfl ((qh (α:=Str) (e:=9) rfl (by kernel_rfl))) (sc rfl ((zg rfl (zb rfl))) (sc rfl ((zg rfl (zb rfl))) (sc rfl ((op_sliceLT rfl (by kernel_rfl) (zb rfl) (zb rfl) rfl (by assumption))) .nil)))) (kc 0 rfl (kc 1 rfl (kc 5 rfl (kc 26 rfl (kc 29 rfl .nil))))) (λ _ _ _ st50=>?_);refine YI (bytes:=16) st50 rfl rfl rfl (by decide) (by kernel_rfl) rfl rfl row_row (by simp;omega) (by simp;omega) (.cons (s:=0) rfl off_none (.cons (s:=1) rfl (λ _ _ h=>h) (.cons (s:=5) rfl (λ _ _ h=>h) .nil))) TipOK.none_ (λ g51 _ _ hg51 st51=>?_);refine WU 1 st51 (sc rfl ((zC rfl (zb rfl))) .nil) (kc 0 rfl (kc 1 rfl (kc 5 rfl (kc 6 rfl .nil)))) (λ _ _ _ st52=>?_);refine wpList_nil (za (wp_seq ?_));have st53:=st52.congr (swap_tip (g:=g) (g2:=g51) (M:=M));refine wp_region_list ?_;refine WU 5 st53 (sc rfl ((zg rfl (zb rfl))) (sc rfl ((zg rfl (zb rfl))) (sc rfl ((op_sliceHT rfl (by kernel_rfl) (zb rfl) (zb rfl) rfl (by assumption))) (sc rfl ((zg rfl (zb rfl))) (sc rfl ((Yo (opds:=[.tmp 34]) rfl (by kernel_rfl) (by kernel_rfl) rfl rfl (by decide) (.cons (zb rfl) .nil))) .nil))))) (kc 1 rfl (kc 6 rfl (kc 33 rfl (kc 35 rfl .nil)))) (λ _ _ _ st54=>?_);refine YI (bytes:=16) st54 rfl rfl rfl (by decide) (by kernel_rfl) rfl rfl ZC (by simp;omega) (by simp;omega) (.cons (s:=1) rfl (λ _ _ h=>h) (.cons (s:=6) rfl (own_apart hg51) .nil)) (htip.apart hg51) (λ g55 _ _ hg55 st55=>?_);refine WU 1 st55 (sc rfl ((zg rfl (zb rfl))) .nil) (kc 36 rfl (kc 37 rfl .nil)) (λ _ _ _ st56=>?_);refine YI (bytes:=16) st56 rfl rfl rfl (by decide) (by kernel_rfl) rfl rfl row_tip (by simp;omega) (by simp;omega) .nil hg55 (λ g57 _ _ hg57 st57=>?_);refine WU 1 st57 (sc rfl ((zC rfl (zb rfl))) .nil) (kc 4 rfl .nil) (λ _ _ _ st58=>?_);refine wpList_nil (za (wp_ret ?_));refine ret_take rfl rfl hg57 (λ _ h=>h.imp .inl id) st58 (t:=4) rfl ?_;rw[xC,if_neg (by rw[hin];decide),← hp,insPos_stop hy hend];simp
open Go.RowKit
set_option maxRecDepth 10000
open Go.RowKit
set_option maxRecDepth 10000
end Go.Proofs.YtdoidiipacdbpaaGreatDoor
