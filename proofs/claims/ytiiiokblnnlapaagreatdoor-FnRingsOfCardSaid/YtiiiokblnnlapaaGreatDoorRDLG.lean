/-
  Walks of functions, printed by a program of our own (wip/gen.py).
  Walks of functions, printed by a program of our own (wip/gen.py).
-/
import Derived.Test.YtiiiokblnnlapaaGreatDoorProg
import Derived.Test.YtiiiokblnnlapaaGreatDoorRBLG
import Derived.Test.YtiiiokblnnlapaaGreatDoorRALG
namespace Go.Proofs.YtiiiokblnnlapaaGreatDoor
open Go.RowKit
set_option maxRecDepth 10000
theorem zR:Tryz.prog.follows .mixedOrders=true:=by kernel_rfl
theorem wK(n lo up:Int):Fn Tryz.prog 140 [dt n,dt lo,dt up] (dt (inR n lo up)):=by
 refine ym (fn:=Tryz.f140) Tryz.func140 rfl (of_decide_eq_true rfl) (λ M w0 a0 hm st0=>?_)
 refine wp_seq ?_
 refine zd st0 (sc rfl ((zg rfl yl))
  .nil)
  (kc 0 rfl (kc 1 rfl (kc 2 rfl (kc 6 rfl .nil)))) (λ a1 w1 e1 st1=>?_)
 refine za (wp_seq ?_)
 refine zd st1 (sc rfl ((ze rfl (zb rfl)))
  (sc rfl ((ze rfl (zb rfl)))
  (sc rfl ((zO rfl (by decide) (zb rfl) (zb rfl)))
  (sc rfl ((ze rfl (zb rfl)))
  (.cons rfl (by decide) (.guarded rfl rfl (by decide) rfl zt (λ hg=>ze rfl (zb rfl)))
  (.cons rfl (by decide) (.guarded rfl rfl (by decide) rfl zt (λ hg=>ze rfl (zb rfl)))
  (.cons rfl (by decide) (.guarded rfl rfl (by decide) rfl zt (λ hg=>zO rfl (by decide) (zj hg rfl) (zj hg rfl)))
  (sc rfl ((zQ rfl (zb rfl) (zb rfl)))
  (sc rfl ((zg rfl (zb rfl)))
  .nil)))))))))
  (kc 0 rfl (kc 1 rfl (kc 2 rfl (kc 6 rfl .nil)))) (λ a2 w2 e2 st2=>?_)
 refine za (wp_ret ?_)
 refine z6 rfl (λ _ h=>h) st2 (t:=6) rfl ?_
 rfl
theorem Qt(l:List Str)(s:Str):Fn Tryz.prog 108 [dt l,dt s] (dt (textAt l s)):=by
 refine ym (fn:=Tryz.f108) Tryz.func108 rfl (of_decide_eq_true rfl) (λ M w0 a0 hm st0=>?_)
 have hlen:=st0.lenL (s:=0) rfl
 refine wp_seq ?_
 refine zd st0 (sc rfl ((zg rfl zx))
  .nil)
  (kc 0 rfl (kc 1 rfl (kc 4 rfl .nil))) (λ a1 w1 e1 st1=>?_)
 refine za (wp_seq (wp_seq ?_))
 refine zd st1 (sc rfl ((zg rfl zx))
  .nil)
  (kc 0 rfl (kc 1 rfl (kc 4 rfl (kc 5 rfl .nil)))) (λ a2 w2 e2 st2=>?_)
 refine za (wp_block ?_)
 refine je (ι:=Nat) (λ k a w=>St (Frm.of w0) 19 M [(0,dt l),(1,dt s),(5,dt (k:Int))] a w/\k<=l.length/\(l.take k).any (λ x=>decide (x=s))=false) (λ k=>l.length - k) 0 ?_ ?_
 ·
  exact⟨st2.pick (kc 0 rfl (kc 1 rfl (kc 5 rfl .nil))),Nat.zero_le _,by simp⟩
 ·
  rintro k a3 w3 ⟨st3,hk,hp⟩
  refine wp_seq (wp_seq ?_)
  refine zd st3 (sc rfl ((ze rfl (zb rfl)))
   (sc rfl ((ze rfl (zb rfl)))
   (sc rfl ((zK rfl (by kernel_rfl) (zb rfl)))
   (sc rfl ((zO rfl (by decide) (zb rfl) (zb rfl)))
   .nil))))
   (kc 0 rfl (kc 1 rfl (kc 5 rfl (kc 9 rfl .nil)))) (λ a4 w4 e4 st4=>?_)
  refine za ?_
  refine zF (c:=9) st4 rfl (λ h1=>?_) (λ h1=>?_)
  ·
   obtain⟨x,hx⟩:=ZK h1
   have hlt:=ye hx
   refine wp_skip (za (wp_seq (wp_block (wp_seq ?_))))
   refine zd st4 (sc rfl ((ze rfl (zb rfl)))
    (sc rfl ((ze rfl (zb rfl)))
    (sc rfl ((yq rfl (by kernel_rfl) (zb rfl) (zb rfl) rfl (by assumption)))
    (sc rfl ((zf rfl (by kernel_rfl) (zb rfl)))
    (sc rfl ((ze rfl (zb rfl)))
    (sc rfl ((yW rfl (zb rfl) (zb rfl)))
    .nil))))))
    (kc 0 rfl (kc 1 rfl (kc 5 rfl (kc 9 rfl (kc 17 rfl .nil))))) (λ a5 w5 e5 st5=>?_)
   refine za ?_
   refine zF (c:=17) st5 rfl (λ h2=>?_) (λ h2=>?_)
   ·
    have ht:=h2
    refine wp_seq ?_
    refine zd st5 (sc rfl ((ze rfl (zb rfl)))
     (sc rfl ((zg rfl (zb rfl)))
     .nil))
     (kc 0 rfl (kc 1 rfl (kc 4 rfl (kc 5 rfl (kc 9 rfl (kc 17 rfl .nil)))))) (λ a6 w6 e6 st6=>?_)
    refine za ?_
    refine wp_ret (zy (zh (zh (zy (zh ?_)))))
    refine z6 rfl (λ _ h=>h) st6 (t:=4) rfl ?_
    exact(idx_hit hp hx ht).symm
   ·
    have hf:=h2
    refine wp_skip (zk (za ?_))
    refine zd st5 (sc rfl ((ze rfl (zb rfl)))
     (sc rfl ((wu rfl (by decide) (zb rfl) zx (by simp only[arI];omega)))
     (sc rfl ((zg rfl (zb rfl)))
     .nil)))
     (kc 0 rfl (kc 1 rfl (kc 5 rfl (kc 9 rfl (kc 17 rfl .nil))))) (λ a7 w7 e7 st7=>?_)
    refine za ⟨k+1,⟨st7.pick (kc 0 rfl (kc 1 rfl (kc 5 rfl .nil))),by omega,W1 hx hp hf⟩,by omega⟩
  ·
   have hend:=ZL h1
   refine wp_exit (zm (zm (zC ?_)))
   refine za (wp_seq ?_)
   refine zd st4 (sc rfl ((zg rfl zx))
    .nil)
    (kc 0 rfl (kc 1 rfl (kc 4 rfl (kc 5 rfl (kc 9 rfl .nil))))) (λ a8 w8 e8 st8=>?_)
   refine za (wp_ret ?_)
   refine z6 rfl (λ _ h=>h) st8 (t:=4) rfl ?_
   exact(idx_end hend hp).symm
theorem Qd(l:List Str)(s:Str):Fn Tryz.prog 109 [dt l,dt s] (dt (W7 l s)):=by
 refine ym (fn:=Tryz.f109) Tryz.func109 rfl (of_decide_eq_true rfl) (λ M w0 a0 hm st0=>?_)
 refine wp_seq ?_
 refine zd st0 (sc rfl ((zg rfl yl))
  .nil)
  (kc 0 rfl (kc 1 rfl (kc 4 rfl .nil))) (λ a1 w1 e1 st1=>?_)
 refine za (wp_seq ?_)
 refine zd st1 (sc rfl ((ze rfl (zb rfl)))
  (sc rfl ((ze rfl (zb rfl)))
  (sc rfl ((zi (l:=[.tmp 5,.tmp 6]) rfl (by kernel_rfl) (.cons (zb rfl) (.cons (zb rfl) .nil)) (Qt _ _)))
  (sc rfl ((zO rfl (by decide) (zb rfl) zx))
  (sc rfl ((zg rfl (zb rfl)))
  .nil)))))
  (kc 0 rfl (kc 1 rfl (kc 4 rfl .nil))) (λ a2 w2 e2 st2=>?_)
 refine za (wp_ret ?_)
 refine z6 rfl (λ _ h=>h) st2 (t:=4) rfl ?_
 rfl
theorem wS(s:Str):Fn Tryz.prog 143 [dt s] (dt (zN s)):=by
 refine ym (fn:=Tryz.f143) Tryz.func143 rfl (of_decide_eq_true rfl) (λ M w0 a0 hm st0=>?_)
 have hlen:s.l.length<=9223372036854775807:=st0.lenS (s:=0) rfl
 refine wp_seq ?_
 refine zd st0 (sc rfl ((zg rfl yl))
  .nil)
  (kc 0 rfl (kc 2 rfl .nil)) (λ a1 w1 e1 st1=>?_)
 refine za (wp_seq (wp_seq ?_))
 refine zd st1 (sc rfl ((ze rfl (zb rfl)))
  (sc rfl ((jM rfl (by kernel_rfl) (zb rfl)))
  (sc rfl ((zi (l:=[.tmp 5,.const (.int .i64 1),.const (.int .i64 3)]) rfl (by kernel_rfl) (.cons (zb rfl) (.cons zx (.cons zx .nil))) (wK _ _ _)))
  (sc rfl ((yc rfl (zb rfl)))
  .nil))))
  (kc 0 rfl (kc 2 rfl (kc 7 rfl .nil))) (λ a2 w2 e2 st2=>?_)
 refine za ?_
 refine zF (c:=7) st2 rfl (λ h1=>?_) (λ h1=>?_)
 ·
  have h7:=h1
  refine wp_seq ?_
  refine zd st2 (sc rfl ((zg rfl yl))
   .nil)
   (kc 0 rfl (kc 2 rfl (kc 7 rfl .nil))) (λ a3 w3 e3 st3=>?_)
  refine za ?_
  refine wp_ret (zh ?_)
  refine z6 rfl (λ _ h=>h) st3 (t:=2) rfl ?_
  unfold zN
  rw[Bool.not_eq_true'] at h7
  simp[h7]
 ·
  have h7:=h1
  refine wp_skip (za (wp_seq (wp_seq ?_)))
  refine zd st2 (sc rfl ((zg rfl zx))
   .nil)
   (kc 0 rfl (kc 2 rfl (kc 3 rfl (kc 7 rfl .nil)))) (λ a4 w4 e4 st4=>?_)
  refine za (wp_block ?_)
  refine je (ι:=Nat) (λ k a w=>St (Frm.of w0) 24 M [(0,dt s),(3,dt (k:Int))] a w/\k<=s.l.length/\(s.l.take k).all low=true) (λ k=>s.l.length - k) 0 ?_ ?_
  ·
   exact⟨st4.pick (kc 0 rfl (kc 3 rfl .nil)),Nat.zero_le _,by simp⟩
  ·
   rintro k a5 w5 ⟨st5,hk,hp⟩
   refine wp_seq (wp_seq ?_)
   refine zd st5 (sc rfl ((ze rfl (zb rfl)))
    (sc rfl ((ze rfl (zb rfl)))
    (sc rfl ((jM rfl (by kernel_rfl) (zb rfl)))
    (sc rfl ((zO rfl (by decide) (zb rfl) (zb rfl)))
    .nil))))
    (kc 0 rfl (kc 3 rfl (kc 11 rfl .nil))) (λ a6 w6 e6 st6=>?_)
   refine za ?_
   refine zF (c:=11) st6 rfl (λ h2=>?_) (λ h2=>?_)
   ·
    obtain⟨x,hx⟩:=idxS_of h2
    have hlt:=ye hx
    refine wp_skip (za (wp_seq (wp_block (wp_seq ?_))))
    refine zd st6 (sc rfl ((ze rfl (zb rfl)))
     (sc rfl ((ze rfl (zb rfl)))
     (sc rfl ((op_byte rfl (by kernel_rfl) (zb rfl) (zb rfl) (by assumption)))
     (sc rfl ((op_cmpB rfl (by decide) (zb rfl) (YY (by decide))))
     (sc rfl ((ze rfl (zb rfl)))
     (.cons rfl (by decide) (.guarded rfl rfl (by decide) rfl zt (λ hg=>ze rfl (zb rfl)))
     (.cons rfl (by decide) (.guarded rfl rfl (by decide) rfl zt (λ hg=>ze rfl (zb rfl)))
     (.cons rfl (by decide) (.guarded rfl rfl (by decide) rfl zt (λ hg=>op_byte rfl (by kernel_rfl) (zj hg rfl) (zj hg rfl) (by assumption)))
     (.cons rfl (by decide) (.guarded rfl rfl (by decide) rfl zt (λ hg=>op_cmpB rfl (by decide) (zj hg rfl) (YY (by decide))))
     (sc rfl ((xA rfl (zb rfl) (zb rfl)))
     .nil))))))))))
     (kc 0 rfl (kc 3 rfl (kc 11 rfl (kc 23 rfl .nil)))) (λ a7 w7 e7 st7=>?_)
    refine za ?_
    refine zF (c:=23) st7 rfl (λ h3=>?_) (λ h3=>?_)
    ·
     have ht:=h3
     refine wp_seq ?_
     refine zd st7 (sc rfl ((zg rfl yl))
      .nil)
      (kc 0 rfl (kc 2 rfl (kc 3 rfl (kc 11 rfl (kc 23 rfl .nil))))) (λ a8 w8 e8 st8=>?_)
     refine za ?_
     refine wp_ret (zy (zh (zh (zy (zh ?_)))))
     refine z6 rfl (λ _ h=>h) st8 (t:=2) rfl ?_
     unfold zN
     rw[all_fail (p:=low) hx (by unfold low;rw[ht];rfl)]
     simp
    ·
     have hf:=h3
     refine wp_skip (zk (za ?_))
     refine zd st7 (sc rfl ((ze rfl (zb rfl)))
      (sc rfl ((wu rfl (by decide) (zb rfl) zx (by simp only[arI];omega)))
      (sc rfl ((zg rfl (zb rfl)))
      .nil)))
      (kc 0 rfl (kc 3 rfl (kc 11 rfl (kc 23 rfl .nil)))) (λ a9 w9 e9 st9=>?_)
     refine za ⟨k+1,⟨st9.pick (kc 0 rfl (kc 3 rfl .nil)),by omega,all_next hx hp (by unfold low;rw[hf];rfl)⟩,by omega⟩
   ·
    have hend:=endS_of h2
    refine wp_exit (zm (zm (zC ?_)))
    refine za (wp_seq ?_)
    refine zd st6 (sc rfl ((zg rfl yl))
     .nil)
     (kc 0 rfl (kc 2 rfl (kc 3 rfl (kc 11 rfl .nil)))) (λ a10 w10 e10 st10=>?_)
    refine za (wp_ret ?_)
    refine z6 rfl (λ _ h=>h) st10 (t:=2) rfl ?_
    unfold zN
    rw[all_end hend hp]
    rw[Bool.not_eq_false'] at h7
    exact(by simpa using h7.symm)
theorem qF(s:Str)(c:UInt8)(hs:mid s):Fn Tryz.prog 142 [dt s,dt c] (dt (zr s c)):=by
 refine ym (fn:=Tryz.f142) Tryz.func142 rfl (of_decide_eq_true rfl) (λ M w0 a0 hm st0=>?_)
 have hlen:s.l.length<=1099511627776:=hs
 refine wp_seq ?_
 refine zd st0 (sc rfl ((zg rfl (wO (α:=Str))))
  .nil)
  (kc 0 rfl (kc 1 rfl (kc 4 rfl .nil))) (λ a1 w1 e1 st1=>?_)
 refine za (wp_seq ?_)
 refine zd st1 (sc rfl ((wQ (α:=Str) (e:=9) rfl (by kernel_rfl)))
  (sc rfl ((zg rfl (zb rfl)))
  .nil))
  (kc 0 rfl (kc 1 rfl (kc 4 rfl (kc 5 rfl .nil)))) (λ a2 w2 e2 st2=>?_)
 refine za (wp_seq ?_)
 refine zd st2 (sc rfl ((zg rfl zx))
  .nil)
  (kc 0 rfl (kc 1 rfl (kc 4 rfl (kc 5 rfl (kc 6 rfl .nil))))) (λ a3 w3 e3 st3=>?_)
 refine za (wp_seq (wp_seq ?_))
 refine zd st3 (sc rfl ((zg rfl zx))
  .nil)
  (kc 0 rfl (kc 1 rfl (kc 4 rfl (kc 5 rfl (kc 6 rfl (kc 7 rfl .nil)))))) (λ a4 w4 e4 st4=>?_)
 refine za (wp_block ?_)
 refine je (ι:=Nat×Nat) (λ p a w=>∃ g,TipOK (Frm.of w0) M g/\St (Frm.of w0) 35 (insO g M) [(0,dt s),(1,dt c),(5,dtip g 9 (yJ c (s.l.take p.1)).1),(6,dt (p.2:Int)),(7,dt (p.1:Int))] a w/\p.1<=s.l.length/\p.2<=p.1/\(yJ c (s.l.take p.1)).2=⟨(s.l.take p.1).drop p.2⟩/\(yJ c (s.l.take p.1)).1.length<=p.1) (λ p=>s.l.length - p.1) (0,0) ?_ ?_
 ·
  exact⟨none,TipOK.none_,st4.ins0.pick (kc 0 rfl (kc 1 rfl (kc 5 rfl (kc 6 rfl (kc 7 rfl .nil))))),Nat.zero_le _,Nat.le_refl _,rfl,Nat.le_refl _⟩
 ·
  rintro ⟨k,b⟩ a5 w5 ⟨g5,hg5,st5,hk,hb,g2,g1⟩
  dsimp only at*
  refine wp_seq (wp_seq ?_)
  refine zd st5 (sc rfl ((ze rfl (zb rfl)))
   (sc rfl ((ze rfl (zb rfl)))
   (sc rfl ((jM rfl (by kernel_rfl) (zb rfl)))
   (sc rfl ((zO rfl (by decide) (zb rfl) (zb rfl)))
   .nil))))
   (kc 0 rfl (kc 1 rfl (kc 5 rfl (kc 6 rfl (kc 7 rfl (kc 12 rfl .nil)))))) (λ a6 w6 e6 st6=>?_)
  refine za ?_
  refine zF (c:=12) st6 rfl (λ h1=>?_) (λ h1=>?_)
  ·
   obtain⟨x,hx⟩:=idxS_of h1
   have hlt:=ye hx
   refine wp_skip (za (wp_seq (wp_block (wp_seq ?_))))
   refine zd st6 (sc rfl ((ze rfl (zb rfl)))
    (sc rfl ((ze rfl (zb rfl)))
    (sc rfl ((op_byte rfl (by kernel_rfl) (zb rfl) (zb rfl) (by assumption)))
    (sc rfl ((ze rfl (zb rfl)))
    (sc rfl ((op_cmpB rfl (by decide) (zb rfl) (zb rfl)))
    .nil)))))
    (kc 0 rfl (kc 1 rfl (kc 5 rfl (kc 6 rfl (kc 7 rfl (kc 12 rfl (kc 19 rfl .nil))))))) (λ a7 w7 e7 st7=>?_)
   refine za ?_
   refine zF (c:=19) st7 rfl (λ h2=>?_) (λ h2=>?_)
   ·
    have ht:=h2
    refine wp_seq (wp_region_list ?_)
    refine jT 6 st7 (sc rfl ((ze rfl (zb rfl)))
     (sc rfl ((ze rfl (zb rfl)))
     (sc rfl ((ze rfl (zb rfl)))
     (sc rfl ((ze rfl (zb rfl)))
     (sc rfl ((op_cutLH rfl (by kernel_rfl) (zb rfl) (zb rfl) (zb rfl) (by omega) (by omega) (by omega)))
     (sc rfl ((ya (opds:=[.tmp 24]) rfl (by kernel_rfl) (by kernel_rfl) rfl rfl (by decide) (.cons (zb rfl) .nil)))
     .nil))))))
     (kc 0 rfl (kc 1 rfl (kc 5 rfl (kc 6 rfl (kc 7 rfl (kc 12 rfl (kc 19 rfl (kc 20 rfl (kc 25 rfl .nil))))))))) (λ a8 w8 e8 st8=>?_)
    refine qK (bytes:=16) (st8) rfl rfl rfl (by decide) (by kernel_rfl) rfl rfl wi (len1 (by omega)) (len1b (by omega)) (.cons (s:=0) rfl (λ _ _ h=>h) (.cons (s:=1) rfl (λ _ _ h=>h) (.cons (s:=6) rfl (λ _ _ h=>h) (.cons (s:=7) rfl (λ _ _ h=>h) (.cons (s:=12) rfl (λ _ _ h=>h) (.cons (s:=19) rfl (λ _ _ h=>h) .nil)))))) (hg5) (λ g9 a9 w9 hg9 st9=>?_)
    refine jT 1 st9 (sc rfl ((zg rfl (zb rfl)))
     .nil)
     (kc 0 rfl (kc 1 rfl (kc 5 rfl (kc 6 rfl (kc 7 rfl (kc 12 rfl (kc 19 rfl .nil))))))) (λ a10 w10 e10 st10=>?_)
    refine wpList_nil (za ?_)
    refine zd st10 (sc rfl ((ze rfl (zb rfl)))
     (sc rfl ((wu rfl (by decide) (zb rfl) zx (by simp only[arI];omega)))
     (sc rfl ((zg rfl (zb rfl)))
     .nil)))
     (kc 0 rfl (kc 1 rfl (kc 5 rfl (kc 6 rfl (kc 7 rfl (kc 12 rfl (kc 19 rfl .nil))))))) (λ a11 w11 e11 st11=>?_)
    refine zk (za ?_)
    refine zd st11 (sc rfl ((ze rfl (zb rfl)))
     (sc rfl ((wu rfl (by decide) (zb rfl) zx (by simp only[arI];omega)))
     (sc rfl ((zg rfl (zb rfl)))
     .nil)))
     (kc 0 rfl (kc 1 rfl (kc 5 rfl (kc 6 rfl (kc 7 rfl (kc 12 rfl (kc 19 rfl .nil))))))) (λ a12 w12 e12 st12=>?_)
    refine za ⟨(k+1,k+1),⟨g9,hg9,?_,by dsimp only;omega,by dsimp only;omega,split_hit2 hx ht hlt,by dsimp only;rw[Wy hx ht g2,List.length_append];exact Nat.succ_le_succ g1⟩,by dsimp only;omega⟩
    dsimp only;first | rw[Wy hx ht g2] | rw[Xs hx hf]
    exact st12.pick (kc 0 rfl (kc 1 rfl (kc 5 rfl (kc 6 rfl (kc 7 rfl .nil)))))
   ·
    have hf:=h2
    refine wp_skip (zk (za ?_))
    refine zd st7 (sc rfl ((ze rfl (zb rfl)))
     (sc rfl ((wu rfl (by decide) (zb rfl) zx (by simp only[arI];omega)))
     (sc rfl ((zg rfl (zb rfl)))
     .nil)))
     (kc 0 rfl (kc 1 rfl (kc 5 rfl (kc 6 rfl (kc 7 rfl (kc 12 rfl (kc 19 rfl .nil))))))) (λ a13 w13 e13 st13=>?_)
    refine za ⟨(k+1,b),⟨g5,hg5,?_,by dsimp only;omega,by dsimp only;omega,split_miss2 hx hf g2 hb hlt,by dsimp only;rw[Xs hx hf];omega⟩,by dsimp only;omega⟩
    dsimp only;first | rw[Wy hx ht g2] | rw[Xs hx hf]
    exact st13.pick (kc 0 rfl (kc 1 rfl (kc 5 rfl (kc 6 rfl (kc 7 rfl .nil)))))
  ·
   have hend:=endS_of h1
   refine wp_exit (zm (zm (zC ?_)))
   refine za (wp_seq (wp_region_list ?_))
   refine jT 5 st6 (sc rfl ((ze rfl (zb rfl)))
    (sc rfl ((ze rfl (zb rfl)))
    (sc rfl ((ze rfl (zb rfl)))
    (sc rfl ((op_cutL rfl (by kernel_rfl) (zb rfl) (zb rfl) (by omega) (by omega)))
    (sc rfl ((ya (opds:=[.tmp 32]) rfl (by kernel_rfl) (by kernel_rfl) rfl rfl (by decide) (.cons (zb rfl) .nil)))
    .nil)))))
    (kc 0 rfl (kc 1 rfl (kc 5 rfl (kc 6 rfl (kc 7 rfl (kc 12 rfl (kc 29 rfl (kc 33 rfl .nil)))))))) (λ a14 w14 e14 st14=>?_)
   refine qK (bytes:=16) (st14) rfl rfl rfl (by decide) (by kernel_rfl) rfl rfl wi (len1 (by omega)) (len1b (by omega)) (.cons (s:=0) rfl (λ _ _ h=>h) (.cons (s:=1) rfl (λ _ _ h=>h) (.cons (s:=6) rfl (λ _ _ h=>h) (.cons (s:=7) rfl (λ _ _ h=>h) (.cons (s:=12) rfl (λ _ _ h=>h) .nil))))) (hg5) (λ g15 a15 w15 hg15 st15=>?_)
   refine jT 1 st15 (sc rfl ((zg rfl (zb rfl)))
    .nil)
    (kc 0 rfl (kc 1 rfl (kc 4 rfl (kc 6 rfl (kc 7 rfl (kc 12 rfl .nil)))))) (λ a16 w16 e16 st16=>?_)
   refine wpList_nil (za (wp_ret ?_))
   refine ret_tip rfl (hg15) (λ _ h=>h) st16 (t:=4) rfl ?_
   exact split_end hend g2
theorem wT(s:Str)(hs:mid s):Fn Tryz.prog 75 [dt s] (dt (zl s)):=by
 refine ym (fn:=Tryz.f75) Tryz.func75 rfl (of_decide_eq_true rfl) (λ M w0 a0 hm st0=>?_)
 refine wp_seq ?_
 refine zd st0 (sc rfl ((zg rfl yl))
  .nil)
  (kc 0 rfl (kc 2 rfl .nil)) (λ a1 w1 e1 st1=>?_)
 refine za (wp_seq ?_)
 refine zd st1 (sc rfl ((ze rfl (zb rfl)))
  (sc rfl ((zi (l:=[.tmp 5,.const (.int .u8 46)]) rfl (by kernel_rfl) (.cons (zb rfl) (.cons (YY (by decide)) .nil)) (qF _ dot (by assumption))))
  (sc rfl ((zg rfl (zb rfl)))
  .nil)))
  (kc 0 rfl (kc 2 rfl (kc 3 rfl .nil))) (λ a2 w2 e2 st2=>?_)
 refine za (wp_seq (wp_seq ?_))
 refine zd st2 (sc rfl ((zg rfl zx))
  .nil)
  (kc 0 rfl (kc 2 rfl (kc 3 rfl (kc 4 rfl .nil)))) (λ a3 w3 e3 st3=>?_)
 refine za (wp_block ?_)
 refine je (ι:=Nat) (λ k a w=>St (Frm.of w0) 22 M [(0,dt s),(3,dt (zr s dot)),(4,dt (k:Int))] a w/\k<=(zr s dot).length/\((zr s dot).take k).all zN=true) (λ k=>(zr s dot).length - k) 0 ?_ ?_
 ·
  exact⟨st3.pick (kc 0 rfl (kc 3 rfl (kc 4 rfl .nil))),Nat.zero_le _,by simp⟩
 ·
  rintro k a4 w4 ⟨st4,hk,hp⟩
  have hlen:=st4.lenL (s:=3) rfl
  refine wp_seq (wp_seq ?_)
  refine zd st4 (sc rfl ((ze rfl (zb rfl)))
   (sc rfl ((ze rfl (zb rfl)))
   (sc rfl ((zK rfl (by kernel_rfl) (zb rfl)))
   (sc rfl ((zO rfl (by decide) (zb rfl) (zb rfl)))
   .nil))))
   (kc 0 rfl (kc 3 rfl (kc 4 rfl (kc 10 rfl .nil)))) (λ a5 w5 e5 st5=>?_)
  refine za ?_
  refine zF (c:=10) st5 rfl (λ h1=>?_) (λ h1=>?_)
  ·
   obtain⟨x,hx⟩:=ZK h1
   have hlt:=ye hx
   refine wp_skip (za (wp_seq (wp_block (wp_seq ?_))))
   refine zd st5 (sc rfl ((ze rfl (zb rfl)))
    (sc rfl ((ze rfl (zb rfl)))
    (sc rfl ((yq rfl (by kernel_rfl) (zb rfl) (zb rfl) rfl (by assumption)))
    (sc rfl ((zf rfl (by kernel_rfl) (zb rfl)))
    (sc rfl ((zi (l:=[.tmp 16]) rfl (by kernel_rfl) (.cons (zb rfl) .nil) (wS _)))
    (sc rfl ((yc rfl (zb rfl)))
    .nil))))))
    (kc 0 rfl (kc 3 rfl (kc 4 rfl (kc 10 rfl (kc 18 rfl .nil))))) (λ a6 w6 e6 st6=>?_)
   refine za ?_
   refine zF (c:=18) st6 rfl (λ h2=>?_) (λ h2=>?_)
   ·
    have ht:=h2
    refine wp_seq ?_
    refine zd st6 (sc rfl ((zg rfl yl))
     .nil)
     (kc 0 rfl (kc 2 rfl (kc 3 rfl (kc 4 rfl (kc 10 rfl (kc 18 rfl .nil)))))) (λ a7 w7 e7 st7=>?_)
    refine za ?_
    refine wp_ret (zy (zh (zh (zy (zh ?_)))))
    refine z6 rfl (λ _ h=>h) st7 (t:=2) rfl ?_
    unfold zl
    rw[all_fail hx (by simpa using ht)]
    rfl
   ·
    have hf:=h2
    refine wp_skip (zk (za ?_))
    refine zd st6 (sc rfl ((ze rfl (zb rfl)))
     (sc rfl ((wu rfl (by decide) (zb rfl) zx (by simp only[arI];omega)))
     (sc rfl ((zg rfl (zb rfl)))
     .nil)))
     (kc 0 rfl (kc 3 rfl (kc 4 rfl (kc 10 rfl (kc 18 rfl .nil))))) (λ a8 w8 e8 st8=>?_)
    refine za ⟨k+1,⟨st8.pick (kc 0 rfl (kc 3 rfl (kc 4 rfl .nil))),by omega,all_next hx hp (by simpa using hf)⟩,by omega⟩
  ·
   have hend:=ZL h1
   refine wp_exit (zm (zm (zC ?_)))
   refine za (wp_seq ?_)
   refine zd st5 (sc rfl ((ze rfl (zb rfl)))
    (sc rfl ((zK rfl (by kernel_rfl) (zb rfl)))
    (sc rfl ((zO rfl (by decide) (zb rfl) zx))
    (sc rfl ((zg rfl (zb rfl)))
    .nil))))
    (kc 0 rfl (kc 2 rfl (kc 3 rfl (kc 4 rfl (kc 10 rfl .nil))))) (λ a9 w9 e9 st9=>?_)
   refine za (wp_ret ?_)
   refine z6 rfl (λ _ h=>h) st9 (t:=2) rfl ?_
   unfold zl
   rw[all_end hend hp]
   rfl
theorem ZA(s:Str)(hs:mid s):Fn Tryz.prog 186 [dt s] (dt (zu s)):=by
 refine ym (fn:=Tryz.f186) Tryz.func186 rfl (of_decide_eq_true rfl) (λ M w0 a0 hm st0=>?_)
 refine wp_seq ?_
 refine zd st0 (sc rfl ((zg rfl yl))
  .nil)
  (kc 0 rfl (kc 2 rfl .nil)) (λ a1 w1 e1 st1=>?_)
 refine za (wp_seq ?_)
 refine zd st1 (sc rfl ((ze rfl (zb rfl)))
  (sc rfl ((yW rfl (zb rfl) (zv (by decide))))
  (sc rfl ((ze rfl (zb rfl)))
  (.cons rfl (by decide) (.guarded rfl rfl (by decide) rfl zt (λ hg=>ze rfl (zb rfl)))
  (.cons rfl (by decide) (.guarded rfl rfl (by decide) rfl zt (λ hg=>zi (l:=[.tmp 6]) rfl (by kernel_rfl) (.cons (zj hg rfl) .nil) (wT _ hs)))
  (sc rfl ((xA rfl (zb rfl) (zb rfl)))
  (sc rfl ((zg rfl (zb rfl)))
  .nil)))))))
  (kc 0 rfl (kc 2 rfl .nil)) (λ a2 w2 e2 st2=>?_)
 refine za (wp_ret ?_)
 refine z6 rfl (λ _ h=>h) st2 (t:=2) rfl ?_
 rfl
open Go.RowKit
set_option maxRecDepth 10000
theorem Y2(l:List Str)(hl:wc l<=1152921504606846976):Fn Tryz.prog 161 [dt l] (dt (join l)):=by
 refine ym (fn:=Tryz.f161) Tryz.func161 rfl (of_decide_eq_true rfl) (λ M w0 a0 hm st0=>?_)
 have hlen:=st0.lenL (s:=0) rfl
 refine wp_seq ?_
 refine zd st0 (sc rfl ((zg rfl (zv (by decide))))
  .nil)
  (kc 0 rfl (kc 2 rfl .nil)) (λ a1 w1 e1 st1=>?_)
 refine za (wp_seq ?_)
 refine zd st1 (sc rfl ((zg rfl (zv (by decide))))
  .nil)
  (kc 0 rfl (kc 2 rfl (kc 3 rfl .nil))) (λ a2 w2 e2 st2=>?_)
 refine za (wp_seq (wp_seq ?_))
 refine zd st2 (sc rfl ((zg rfl zx))
  .nil)
  (kc 0 rfl (kc 2 rfl (kc 3 rfl (kc 4 rfl .nil)))) (λ a3 w3 e3 st3=>?_)
 refine za (wp_block ?_)
 refine je (ι:=Nat) (λ k a w=>St (Frm.of w0) 22 M [(0,dt l),(3,dt (qd (l.take k)).1),(4,dt (k:Int))] a w/\k<=l.length) (λ k=>l.length - k) 0 ?_ ?_
 ·
  exact⟨st3.pick (kc 0 rfl (kc 3 rfl (kc 4 rfl .nil))),Nat.zero_le _⟩
 ·
  rintro k a4 w4 ⟨st4,hk⟩
  refine wp_seq (wp_seq ?_)
  refine zd st4 (sc rfl ((ze rfl (zb rfl)))
   (sc rfl ((ze rfl (zb rfl)))
   (sc rfl ((zK rfl (by kernel_rfl) (zb rfl)))
   (sc rfl ((zO rfl (by decide) (zb rfl) (zb rfl)))
   .nil))))
   (kc 0 rfl (kc 3 rfl (kc 4 rfl (kc 8 rfl .nil)))) (λ a5 w5 e5 st5=>?_)
  refine za ?_
  refine zF (c:=8) st5 rfl (λ h1=>?_) (λ h1=>?_)
  ·
   obtain⟨x,hx⟩:=ZK h1
   have hlt:=ye hx
   have hroom:=join_room hx
   refine wp_skip (za (wp_seq (wp_block (wp_seq (wp_seq ?_)))))
   refine zd st5 (sc rfl ((ze rfl (zb rfl)))
    (sc rfl ((zO rfl (by decide) (zb rfl) zx))
    .nil))
    (kc 0 rfl (kc 3 rfl (kc 4 rfl (kc 8 rfl (kc 12 rfl .nil))))) (λ a6 w6 e6 st6=>?_)
   refine za ?_
   refine zF (c:=12) st6 rfl (λ h2=>?_) (λ h2=>?_)
   ·
    have ht:=h2
    refine zd st6 (sc rfl ((ze rfl (zb rfl)))
     (sc rfl ((Ws rfl (zb rfl) (zv (by decide)) (by first | (unfold maxLen;omega) | (simp only[List.length_singleton];unfold maxLen;omega))))
     (sc rfl ((zg rfl (zb rfl)))
     .nil)))
     (kc 0 rfl (kc 3 rfl (kc 4 rfl (kc 8 rfl (kc 12 rfl .nil))))) (λ a7 w7 e7 st7=>?_)
    refine za ?_
    refine zd st7 (sc rfl ((ze rfl (zb rfl)))
     (sc rfl ((ze rfl (zb rfl)))
     (sc rfl ((ze rfl (zb rfl)))
     (sc rfl ((yq rfl (by kernel_rfl) (zb rfl) (zb rfl) rfl (by assumption)))
     (sc rfl ((zf rfl (by kernel_rfl) (zb rfl)))
     (sc rfl ((Ws rfl (zb rfl) (zb rfl) (by first | (unfold maxLen;omega) | (simp only[List.length_append,List.length_singleton];unfold maxLen;omega))))
     (sc rfl ((zg rfl (zb rfl)))
     .nil)))))))
     (kc 0 rfl (kc 3 rfl (kc 4 rfl (kc 8 rfl (kc 12 rfl .nil))))) (λ a8 w8 e8 st8=>?_)
    refine zk (za ?_)
    refine zd st8 (sc rfl ((ze rfl (zb rfl)))
     (sc rfl ((wu rfl (by decide) (zb rfl) zx (by simp only[arI];omega)))
     (sc rfl ((zg rfl (zb rfl)))
     .nil)))
     (kc 0 rfl (kc 3 rfl (kc 4 rfl (kc 8 rfl (kc 12 rfl .nil))))) (λ a9 w9 e9 st9=>?_)
    refine za ⟨k+1,⟨?_,by omega⟩,by omega⟩
    first | rw[W3 hx ht] | rw[X0 hx hf]
    exact st9.pick (kc 0 rfl (kc 3 rfl (kc 4 rfl .nil)))
   ·
    have hf:=h2
    refine wp_skip (za ?_)
    refine zd st6 (sc rfl ((ze rfl (zb rfl)))
     (sc rfl ((ze rfl (zb rfl)))
     (sc rfl ((ze rfl (zb rfl)))
     (sc rfl ((yq rfl (by kernel_rfl) (zb rfl) (zb rfl) rfl (by assumption)))
     (sc rfl ((zf rfl (by kernel_rfl) (zb rfl)))
     (sc rfl ((Ws rfl (zb rfl) (zb rfl) (by first | (unfold maxLen;omega) | (simp only[List.length_append,List.length_singleton];unfold maxLen;omega))))
     (sc rfl ((zg rfl (zb rfl)))
     .nil)))))))
     (kc 0 rfl (kc 3 rfl (kc 4 rfl (kc 8 rfl (kc 12 rfl .nil))))) (λ a10 w10 e10 st10=>?_)
    refine zk (za ?_)
    refine zd st10 (sc rfl ((ze rfl (zb rfl)))
     (sc rfl ((wu rfl (by decide) (zb rfl) zx (by simp only[arI];omega)))
     (sc rfl ((zg rfl (zb rfl)))
     .nil)))
     (kc 0 rfl (kc 3 rfl (kc 4 rfl (kc 8 rfl (kc 12 rfl .nil))))) (λ a11 w11 e11 st11=>?_)
    refine za ⟨k+1,⟨?_,by omega⟩,by omega⟩
    first | rw[W3 hx ht] | rw[X0 hx hf]
    exact st11.pick (kc 0 rfl (kc 3 rfl (kc 4 rfl .nil)))
  ·
   have hend:=ZL h1
   refine wp_exit (zm (zm (zC ?_)))
   refine za (wp_seq ?_)
   refine zd st5 (sc rfl ((ze rfl (zb rfl)))
    (sc rfl ((zg rfl (zb rfl)))
    .nil))
    (kc 0 rfl (kc 2 rfl (kc 3 rfl (kc 4 rfl (kc 8 rfl .nil))))) (λ a12 w12 e12 st12=>?_)
   refine za (wp_ret ?_)
   refine z6 rfl (λ _ h=>h) st12 (t:=2) rfl ?_
   exact join_end hend
theorem Qu(s:Str)(hs:mid s):Fn Tryz.prog 157 [dt s] (dt (wX s)):=by
 refine ym (fn:=Tryz.f157) Tryz.func157 rfl (of_decide_eq_true rfl) (λ M w0 a0 hm st0=>?_)
 have hlen:s.l.length<=1099511627776:=hs
 have hne:=W5 s dot
 have hroom:=qL s dot
 have hlr:=W4 (zr s dot)
 refine wp_seq ?_
 refine zd st0 (sc rfl ((zg rfl (zv (by decide))))
  .nil)
  (kc 0 rfl (kc 2 rfl .nil)) (λ a1 w1 e1 st1=>?_)
 refine za (wp_seq ?_)
 refine zd st1 (sc rfl ((ze rfl (zb rfl)))
  (sc rfl ((zi (l:=[.tmp 4,.const (.int .u8 46)]) rfl (by kernel_rfl) (.cons (zb rfl) (.cons (YY (by decide)) .nil)) (qF _ dot (by assumption))))
  (sc rfl ((zg rfl (zb rfl)))
  .nil)))
  (kc 0 rfl (kc 2 rfl (kc 3 rfl .nil))) (λ a2 w2 e2 st2=>?_)
 refine za (wp_seq ?_)
 refine zd st2 (sc rfl ((ze rfl (zb rfl)))
  (sc rfl ((ze rfl (zb rfl)))
  (sc rfl ((zK rfl (by kernel_rfl) (zb rfl)))
  (sc rfl ((wu rfl (by decide) (zb rfl) zx (by simp only[arI];omega)))
  (sc rfl ((Z5 rfl (by kernel_rfl) (zb rfl) (zb rfl) (j:=(zr s dot).length - 1) (by simp only[arI];omega) (by omega)))
  (sc rfl ((zi (l:=[.tmp 10]) rfl (by kernel_rfl) (.cons (zb rfl) .nil) (Y2 _ (by have:=jg (zr s dot) ((zr s dot).length - 1);omega))))
  (sc rfl ((zg rfl (zb rfl)))
  .nil)))))))
  (kc 0 rfl (kc 2 rfl (kc 3 rfl .nil))) (λ a3 w3 e3 st3=>?_)
 refine za (wp_ret ?_)
 refine z6 rfl (λ _ h=>h) st3 (t:=2) rfl ?_
 rfl
theorem qt(p s:Str)(hc:p.l.length+s.l.length<=1152921504606846976):Fn Tryz.prog 188 [dt p,dt s] (dt (child p s)):=by
 refine ym (fn:=Tryz.f188) Tryz.func188 rfl (of_decide_eq_true rfl) (λ M w0 a0 hm st0=>?_)
 refine wp_seq ?_
 refine zd st0 (sc rfl ((zg rfl (zv (by decide))))
  .nil)
  (kc 0 rfl (kc 1 rfl (kc 4 rfl .nil))) (λ a1 w1 e1 st1=>?_)
 refine za (wp_seq (wp_seq ?_))
 refine zd st1 (sc rfl ((ze rfl (zb rfl)))
  (sc rfl ((yW rfl (zb rfl) (zv (by decide))))
  .nil))
  (kc 0 rfl (kc 1 rfl (kc 4 rfl (kc 6 rfl .nil)))) (λ a2 w2 e2 st2=>?_)
 refine za ?_
 refine zF (c:=6) st2 rfl (λ h1=>?_) (λ h1=>?_)
 ·
  have ht:=h1
  refine wp_seq ?_
  refine zd st2 (sc rfl ((ze rfl (zb rfl)))
   (sc rfl ((zg rfl (zb rfl)))
   .nil))
   (kc 0 rfl (kc 1 rfl (kc 4 rfl (kc 6 rfl .nil)))) (λ a3 w3 e3 st3=>?_)
  refine za ?_
  refine wp_ret (zh ?_)
  refine z6 rfl (λ _ h=>h) st3 (t:=4) rfl ?_
  exact(if_pos (of_decide_eq_true ht)).symm
 ·
  have hf:=h1
  refine wp_skip (za (wp_seq ?_))
  refine zd st2 (sc rfl ((ze rfl (zb rfl)))
   (sc rfl ((Ws rfl (zb rfl) (zv (by decide)) (by first | (unfold maxLen;omega) | (simp only[List.length_singleton];unfold maxLen;omega))))
   (sc rfl ((ze rfl (zb rfl)))
   (sc rfl ((Ws rfl (zb rfl) (zb rfl) (by first | (unfold maxLen;omega) | (simp only[List.length_append,List.length_singleton];unfold maxLen;omega))))
   (sc rfl ((zg rfl (zb rfl)))
   .nil)))))
   (kc 0 rfl (kc 1 rfl (kc 4 rfl (kc 6 rfl .nil)))) (λ a4 w4 e4 st4=>?_)
  refine za (wp_ret ?_)
  refine z6 rfl (λ _ h=>h) st4 (t:=4) rfl ?_
  exact(if_neg (of_decide_eq_false hf)).symm
theorem spec_above_ok(s:Str)(hs:mid s):Fn Tryz.prog 95 [dt s] (dt (xX s)):=by
 refine ym (fn:=Tryz.f95) Tryz.func95 rfl (of_decide_eq_true rfl) (λ M w0 a0 hm st0=>?_)
 have hroom:=qL s dot
 have hlen:=W4 (zr s dot)
 have hms:s.l.length<=1099511627776:=hs
 refine wp_seq ?_
 refine zd st0 (sc rfl ((zg rfl (wO (α:=Str))))
  .nil)
  (kc 0 rfl (kc 2 rfl .nil)) (λ a1 w1 e1 st1=>?_)
 refine za (wp_seq ?_)
 refine zd st1 (sc rfl ((ze rfl (zb rfl)))
  (sc rfl ((zi (l:=[.tmp 6,.const (.int .u8 46)]) rfl (by kernel_rfl) (.cons (zb rfl) (.cons (YY (by decide)) .nil)) (qF _ dot (by assumption))))
  (sc rfl ((zg rfl (zb rfl)))
  .nil)))
  (kc 0 rfl (kc 2 rfl (kc 3 rfl .nil))) (λ a2 w2 e2 st2=>?_)
 refine za (wp_seq ?_)
 refine zd st2 (sc rfl ((wQ (α:=Str) (e:=9) rfl (by kernel_rfl)))
  (sc rfl ((zg rfl (zb rfl)))
  .nil))
  (kc 0 rfl (kc 2 rfl (kc 3 rfl (kc 4 rfl .nil)))) (λ a3 w3 e3 st3=>?_)
 refine za (wp_seq (wp_seq ?_))
 refine zd st3 (sc rfl ((zg rfl zx))
  .nil)
  (kc 0 rfl (kc 2 rfl (kc 3 rfl (kc 4 rfl (kc 5 rfl .nil))))) (λ a4 w4 e4 st4=>?_)
 refine za (wp_block ?_)
 refine je (ι:=Nat) (λ k a w=>∃ g,TipOK (Frm.of w0) M g/\St (Frm.of w0) 23 (insO g M) [(0,dt s),(3,dt (zr s dot)),(4,dtip g 9 (qr (zr s dot) k)),(5,dt ((k+1:Nat):Int))] a w/\k<=(zr s dot).length) (λ k=>(zr s dot).length - k) 0 ?_ ?_
 ·
  exact⟨none,TipOK.none_,st4.ins0.pick (kc 0 rfl (kc 3 rfl (kc 4 rfl (kc 5 rfl .nil)))),Nat.zero_le _⟩
 ·
  rintro k a5 w5 ⟨g5,hg5,st5,hk⟩
  refine wp_seq (wp_seq ?_)
  refine zd st5 (sc rfl ((ze rfl (zb rfl)))
   (sc rfl ((ze rfl (zb rfl)))
   (sc rfl ((zK rfl (by kernel_rfl) (zb rfl)))
   (sc rfl ((zO rfl (by decide) (zb rfl) (zb rfl)))
   .nil))))
   (kc 0 rfl (kc 3 rfl (kc 4 rfl (kc 5 rfl (kc 12 rfl .nil))))) (λ a6 w6 e6 st6=>?_)
  refine za ?_
  refine zF (c:=12) st6 rfl (λ h1=>?_) (λ h1=>?_)
  ·
   have hlt:k+1<=(zr s dot).length:=by have:=of_decide_eq_true h1;omega
   have hal:=ZT (zr s dot) k
   have htk:=jg (zr s dot) (k+1)
   refine wp_skip (za (wp_seq (wp_block (wp_region_list ?_))))
   refine jT 6 st6 (sc rfl ((ze rfl (zb rfl)))
    (sc rfl ((ze rfl (zb rfl)))
    (sc rfl ((ze rfl (zb rfl)))
    (sc rfl ((Z5 rfl (by kernel_rfl) (zb rfl) (zb rfl) rfl (by omega)))
    (sc rfl ((zi (l:=[.tmp 18]) rfl (by kernel_rfl) (.cons (zb rfl) .nil) (Y2 _ (by omega))))
    (sc rfl ((ya (opds:=[.tmp 19]) rfl (by kernel_rfl) (by kernel_rfl) rfl rfl (by decide) (.cons (zb rfl) .nil)))
    .nil))))))
    (kc 0 rfl (kc 3 rfl (kc 4 rfl (kc 5 rfl (kc 12 rfl (kc 15 rfl (kc 20 rfl .nil))))))) (λ a7 w7 e7 st7=>?_)
   refine qK (bytes:=16) (st7) rfl rfl rfl (by decide) (by kernel_rfl) rfl rfl wi (len1 (by omega)) (len1b (by omega)) (.cons (s:=0) rfl (λ _ _ h=>h) (.cons (s:=3) rfl (λ _ _ h=>h) (.cons (s:=5) rfl (λ _ _ h=>h) (.cons (s:=12) rfl (λ _ _ h=>h) .nil)))) (hg5) (λ g8 a8 w8 hg8 st8=>?_)
   refine jT 1 st8 (sc rfl ((zg rfl (zb rfl)))
    .nil)
    (kc 0 rfl (kc 3 rfl (kc 4 rfl (kc 5 rfl (kc 12 rfl .nil))))) (λ a9 w9 e9 st9=>?_)
   refine wpList_nil (zk (za ?_))
   refine zd st9 (sc rfl ((ze rfl (zb rfl)))
    (sc rfl ((wu rfl (by decide) (zb rfl) zx (by simp only[arI];omega)))
    (sc rfl ((zg rfl (zb rfl)))
    .nil)))
    (kc 0 rfl (kc 3 rfl (kc 4 rfl (kc 5 rfl (kc 12 rfl .nil))))) (λ a10 w10 e10 st10=>?_)
   refine za ⟨k+1,⟨g8,hg8,?_,by omega⟩,by omega⟩
   rw[Wd]
   exact st10.pick (kc 0 rfl (kc 3 rfl (kc 4 rfl (kc 5 rfl .nil))))
  ·
   have hend:(zr s dot).length<=k:=by have:=of_decide_eq_false h1;omega
   refine wp_exit (zm (zm (zC ?_)))
   refine za (wp_seq ?_)
   refine zd st6 (sc rfl ((ze rfl (zb rfl)))
    (sc rfl ((zg rfl (zb rfl)))
    .nil))
    (kc 0 rfl (kc 2 rfl (kc 3 rfl (kc 4 rfl (kc 5 rfl (kc 12 rfl .nil)))))) (λ a11 w11 e11 st11=>?_)
   refine za (wp_ret ?_)
   refine ret_tip rfl (hg5) (λ _ h=>h) st11 (t:=2) rfl ?_
   rw[xX,Nat.le_antisymm hk hend]
theorem spec_under_ok(s p:Str)(hp:p.l.length<=1152921504606846976):Fn Tryz.prog 270 [dt s,dt p] (dt (under s p)):=by
 refine ym (fn:=Tryz.f270) Tryz.func270 rfl (of_decide_eq_true rfl) (λ M w0 a0 hm st0=>?_)
 refine wp_seq ?_
 refine zd st0 (sc rfl ((zg rfl yl))
  .nil)
  (kc 0 rfl (kc 1 rfl (kc 4 rfl .nil))) (λ a1 w1 e1 st1=>?_)
 refine za (wp_seq ?_)
 refine zd st1 (sc rfl ((ze rfl (zb rfl)))
  (sc rfl ((yW rfl (zb rfl) (zv (by decide))))
  (sc rfl ((ze rfl (zb rfl)))
  (.cons rfl (by decide) (.guarded rfl rfl (by decide) rfl zt (λ hg=>ze rfl (zb rfl)))
  (.cons rfl (by decide) (.guarded rfl rfl (by decide) rfl zt (λ hg=>ze rfl (zb rfl)))
  (.cons rfl (by decide) (.guarded rfl rfl (by decide) rfl zt (λ hg=>yW rfl (zj hg rfl) (zj hg rfl)))
  (sc rfl ((xA rfl (zb rfl) (zb rfl)))
  (sc rfl ((ze rfl (zb rfl)))
  (.cons rfl (by decide) (.guarded rfl rfl (by decide) rfl zt (λ hg=>ze rfl (zb rfl)))
  (.cons rfl (by decide) (.guarded rfl rfl (by decide) rfl zt (λ hg=>jM rfl (by kernel_rfl) (zj hg rfl)))
  (.cons rfl (by decide) (.guarded rfl rfl (by decide) rfl zt (λ hg=>ze rfl (zb rfl)))
  (.cons rfl (by decide) (.guarded rfl rfl (by decide) rfl zt (λ hg=>jM rfl (by kernel_rfl) (zj hg rfl)))
  (.cons rfl (by decide) (.guarded rfl rfl (by decide) rfl zt (λ hg=>zO rfl (by decide) (zj hg rfl) (zj hg rfl)))
  (.cons rfl (by decide) (.guarded rfl rfl (by decide) rfl zt (λ hg=>ze rfl (zj hg rfl)))
  (.cons rfl (by decide) (.guarded2 rfl rfl (by decide) rfl zt (λ hg=>ze rfl (zb rfl)))
  (.cons rfl (by decide) (.guarded2 rfl rfl (by decide) rfl zt (λ hg=>ze rfl (zb rfl)))
  (.cons rfl (by decide) (.guarded2 rfl rfl (by decide) rfl zt (λ hg=>jM rfl (by kernel_rfl) (zj hg rfl)))
  (.cons rfl (by decide) (.guarded2 rfl rfl (by decide) rfl zt (λ hg=>wu rfl (by decide) (zj hg rfl) zx (by simp only[arI];omega)))
  (.cons rfl (by decide) (.guarded2 rfl rfl (by decide) rfl zt (λ hg=>op_cutH rfl (by kernel_rfl) (zj hg rfl) (zj hg rfl) (by simp only[arI];omega) (by simp only[arI];have:=of_decide_eq_true (and_r hg);omega)))
  (.cons rfl (by decide) (.guarded2 rfl rfl (by decide) rfl zt (λ hg=>ze rfl (zb rfl)))
  (.cons rfl (by decide) (.guarded2 rfl rfl (by decide) rfl zt (λ hg=>Ws rfl (zj hg rfl) (zv (by decide)) (by first | (unfold maxLen;omega) | (simp only[List.length_singleton];unfold maxLen;omega))))
  (.cons rfl (by decide) (.guarded2 rfl rfl (by decide) rfl zt (λ hg=>yW rfl (zj hg rfl) (zj hg rfl)))
  (.cons rfl (by decide) (.guarded rfl rfl (by decide) rfl zt (λ hg=>zQ rfl (zj hg rfl) (Ww hg rfl)))
  (sc rfl ((xA rfl (zb rfl) (zb rfl)))
  (sc rfl ((zg rfl (zb rfl)))
  .nil)))))))))))))))))))))))))
  (kc 0 rfl (kc 1 rfl (kc 4 rfl .nil))) (λ a2 w2 e2 st2=>?_)
 refine za (wp_ret ?_)
 refine z6 rfl (λ _ h=>h) st2 (t:=4) rfl ?_
 exact under_of
theorem WA(f:File)(hf:smFile f):Fn Tryz.prog 149 [dt f] (dt (yX f)):=by
 refine ym (fn:=Tryz.f149) Tryz.func149 rfl (of_decide_eq_true rfl) (λ M w0 a0 hm st0=>?_)
 refine wp_seq ?_
 refine zd st0 (sc rfl ((yw rfl (zb rfl)))
  (sc rfl ((zg rfl (zv (by decide))))
  .nil))
  (kc 0 rfl (kc 1 rfl (kc 2 rfl .nil))) (λ a1 w1 e1 st1=>?_)
 refine za (wp_seq (wp_seq ?_))
 refine zd st1 (sc rfl ((zn File.fld3 rfl (by kernel_rfl) (zb rfl)))
  (sc rfl ((zf rfl (by kernel_rfl) (zb rfl)))
  .nil))
  (kc 0 rfl (kc 1 rfl (kc 2 rfl (kc 4 rfl .nil)))) (λ a2 w2 e2 st2=>?_)
 refine za ?_
 refine zF (c:=4) st2 rfl (λ h1=>?_) (λ h1=>?_)
 ·
  have ht:=h1
  refine wp_seq ?_
  refine zd st2 (sc rfl ((zn File.fld1 rfl (by kernel_rfl) (zb rfl)))
   (sc rfl ((zf rfl (by kernel_rfl) (zb rfl)))
   (sc rfl ((zg rfl (zb rfl)))
   .nil)))
   (kc 0 rfl (kc 1 rfl (kc 2 rfl (kc 4 rfl .nil)))) (λ a3 w3 e3 st3=>?_)
  refine za ?_
  refine wp_ret (zh ?_)
  refine z6 rfl (λ _ h=>h) st3 (t:=2) rfl ?_
  rw[yX,if_pos ht]
 ·
  have hff:=h1
  refine wp_skip (za (wp_seq ?_))
  refine zd st2 (sc rfl ((zn File.fld1 rfl (by kernel_rfl) (zb rfl)))
   (sc rfl ((zf rfl (by kernel_rfl) (zb rfl)))
   (sc rfl ((zn File.fld2 rfl (by kernel_rfl) (zb rfl)))
   (sc rfl ((zf rfl (by kernel_rfl) (zb rfl)))
   (sc rfl ((zi (l:=[.tmp 8,.tmp 10]) rfl (by kernel_rfl) (.cons (zb rfl) (.cons (zb rfl) .nil)) (qt _ _ (by have:=hf.1;have:=hf.2.1;omega))))
   (sc rfl ((zg rfl (zb rfl)))
   .nil))))))
   (kc 0 rfl (kc 1 rfl (kc 2 rfl (kc 4 rfl .nil)))) (λ a4 w4 e4 st4=>?_)
  refine za (wp_ret ?_)
  refine z6 rfl (λ _ h=>h) st4 (t:=2) rfl ?_
  rw[yX,if_neg (by simp[hff])]
open Go.RowKit
set_option maxRecDepth 10000
theorem Jc(s:Stmt)(hs:smStmt s):Fn Tryz.prog 223 [dt s] (dt (yC s)):=by
 refine ym (fn:=Tryz.f223) Tryz.func223 rfl (of_decide_eq_true rfl) (λ M w0 a0 hm st0=>?_)
 refine wp_seq ?_
 refine zd st0 (sc rfl ((yw rfl (zb rfl)))
  (sc rfl ((zg rfl yl))
  .nil))
  (kc 0 rfl (kc 1 rfl (kc 2 rfl .nil))) (λ a1 w1 e1 st1=>?_)
 refine za (wp_seq (wp_seq ?_))
 refine zd st1 (sc rfl ((zn Stmt.fld0 rfl (by kernel_rfl) (zb rfl)))
  (sc rfl ((zf rfl (by kernel_rfl) (zb rfl)))
  .nil))
  (kc 0 rfl (kc 1 rfl (kc 2 rfl (kc 4 rfl .nil)))) (λ a2 w2 e2 st2=>?_)
 refine za (wp_block (wp_seq ?_))
 refine zd st2 (sc rfl ((zO rfl (by decide) (zb rfl) zx))
  (sc rfl ((zg rfl (zb rfl)))
  .nil))
  (kc 0 rfl (kc 1 rfl (kc 2 rfl (kc 4 rfl (kc 5 rfl .nil))))) (λ a3 w3 e3 st3=>?_)
 refine za ?_
 refine zF (c:=5) st3 rfl (λ h1=>?_) (λ h1=>?_)
 ·
  have k0:=h1
  refine wp_seq ?_
  refine zd st3 (sc rfl ((zn Stmt.fld1 rfl (by kernel_rfl) (zb rfl)))
   (sc rfl ((zf rfl (by kernel_rfl) (zb rfl)))
   (sc rfl ((zi (l:=[.tmp 8]) rfl (by kernel_rfl) (.cons (zb rfl) .nil) (wT _ (by have:=hs.1;unfold mid;omega))))
   (sc rfl ((ze rfl (zb rfl)))
   (.cons rfl (by decide) (.guarded rfl rfl (by decide) rfl zt (λ hg=>zn Stmt.fld2 rfl (by kernel_rfl) (zb rfl)))
   (.cons rfl (by decide) (.guarded rfl rfl (by decide) rfl zt (λ hg=>zf rfl (by kernel_rfl) (zj hg rfl)))
   (.cons rfl (by decide) (.guarded rfl rfl (by decide) rfl zt (λ hg=>zO rfl (by decide) (zj hg rfl) zx))
   (sc rfl ((zQ rfl (zb rfl) (zb rfl)))
   (sc rfl ((ze rfl (zb rfl)))
   (.cons rfl (by decide) (.guarded rfl rfl (by decide) rfl zt (λ hg=>zn Stmt.fld3 rfl (by kernel_rfl) (zb rfl)))
   (.cons rfl (by decide) (.guarded rfl rfl (by decide) rfl zt (λ hg=>zf rfl (by kernel_rfl) (zj hg rfl)))
   (.cons rfl (by decide) (.guarded rfl rfl (by decide) rfl zt (λ hg=>yW rfl (zj hg rfl) (zv (by decide))))
   (sc rfl ((zQ rfl (zb rfl) (zb rfl)))
   (sc rfl ((ze rfl (zb rfl)))
   (.cons rfl (by decide) (.guarded rfl rfl (by decide) rfl zt (λ hg=>zn Stmt.fld4 rfl (by kernel_rfl) (zb rfl)))
   (.cons rfl (by decide) (.guarded rfl rfl (by decide) rfl zt (λ hg=>zf rfl (by kernel_rfl) (zj hg rfl)))
   (.cons rfl (by decide) (.guarded rfl rfl (by decide) rfl zt (λ hg=>zO rfl (by decide) (zj hg rfl) zx))
   (sc rfl ((zQ rfl (zb rfl) (zb rfl)))
   (sc rfl ((zg rfl (zb rfl)))
   .nil)))))))))))))))))))
   (kc 0 rfl (kc 1 rfl (kc 2 rfl (kc 4 rfl (kc 5 rfl .nil))))) (λ a4 w4 e4 st4=>?_)
  refine za ?_
  refine wp_ret (zy (zh ?_))
  refine z6 rfl (λ _ h=>h) st4 (t:=2) rfl ?_
  rw[yC,if_pos k0]
 ·
  have k0:=h1
  refine wp_seq ?_
  refine zd st3 (sc rfl ((zO rfl (by decide) (zb rfl) zx))
   (sc rfl ((zg rfl (zb rfl)))
   .nil))
   (kc 0 rfl (kc 1 rfl (kc 2 rfl (kc 4 rfl (kc 5 rfl (kc 25 rfl .nil)))))) (λ a5 w5 e5 st5=>?_)
  refine za ?_
  refine zF (c:=25) st5 rfl (λ h2=>?_) (λ h2=>?_)
  ·
   have k1:=h2
   refine wp_seq ?_
   refine zd st5 (sc rfl ((zn Stmt.fld1 rfl (by kernel_rfl) (zb rfl)))
    (sc rfl ((zf rfl (by kernel_rfl) (zb rfl)))
    (sc rfl ((zi (l:=[.tmp 28]) rfl (by kernel_rfl) (.cons (zb rfl) .nil) (ZA _ (by have:=hs.1;unfold mid;omega))))
    (sc rfl ((ze rfl (zb rfl)))
    (.cons rfl (by decide) (.guarded rfl rfl (by decide) rfl zt (λ hg=>zn Stmt.fld2 rfl (by kernel_rfl) (zb rfl)))
    (.cons rfl (by decide) (.guarded rfl rfl (by decide) rfl zt (λ hg=>zf rfl (by kernel_rfl) (zj hg rfl)))
    (.cons rfl (by decide) (.guarded rfl rfl (by decide) rfl zt (λ hg=>zi (l:=[.tmp 32,.const (.int .i64 0),.const (.int .i64 3)]) rfl (by kernel_rfl) (.cons (zj hg rfl) (.cons zx (.cons zx .nil))) (wK _ _ _)))
    (sc rfl ((zQ rfl (zb rfl) (zb rfl)))
    (sc rfl ((ze rfl (zb rfl)))
    (.cons rfl (by decide) (.guarded rfl rfl (by decide) rfl zt (λ hg=>zn Stmt.fld1 rfl (by kernel_rfl) (zb rfl)))
    (.cons rfl (by decide) (.guarded rfl rfl (by decide) rfl zt (λ hg=>zf rfl (by kernel_rfl) (zj hg rfl)))
    (.cons rfl (by decide) (.guarded rfl rfl (by decide) rfl zt (λ hg=>ZI rfl (zj hg rfl) (zv (by decide))))
    (.cons rfl (by decide) (.guarded rfl rfl (by decide) rfl zt (λ hg=>ze rfl (zj hg rfl)))
    (.cons rfl (by decide) (.guarded2 rfl rfl (by decide) rfl zt (λ hg=>zn Stmt.fld2 rfl (by kernel_rfl) (zb rfl)))
    (.cons rfl (by decide) (.guarded2 rfl rfl (by decide) rfl zt (λ hg=>zf rfl (by kernel_rfl) (zj hg rfl)))
    (.cons rfl (by decide) (.guarded2 rfl rfl (by decide) rfl zt (λ hg=>zO rfl (by decide) (zj hg rfl) zx))
    (.cons rfl (by decide) (.guarded rfl rfl (by decide) rfl zt (λ hg=>xA rfl (zj hg rfl) (Ww hg rfl)))
    (sc rfl ((zQ rfl (zb rfl) (zb rfl)))
    (sc rfl ((ze rfl (zb rfl)))
    (.cons rfl (by decide) (.guarded rfl rfl (by decide) rfl zt (λ hg=>zn Stmt.fld3 rfl (by kernel_rfl) (zb rfl)))
    (.cons rfl (by decide) (.guarded rfl rfl (by decide) rfl zt (λ hg=>zf rfl (by kernel_rfl) (zj hg rfl)))
    (.cons rfl (by decide) (.guarded rfl rfl (by decide) rfl zt (λ hg=>zi (l:=[.tmp 47]) rfl (by kernel_rfl) (.cons (zj hg rfl) .nil) (wS _)))
    (sc rfl ((zQ rfl (zb rfl) (zb rfl)))
    (sc rfl ((ze rfl (zb rfl)))
    (.cons rfl (by decide) (.guarded rfl rfl (by decide) rfl zt (λ hg=>zn Stmt.fld4 rfl (by kernel_rfl) (zb rfl)))
    (.cons rfl (by decide) (.guarded rfl rfl (by decide) rfl zt (λ hg=>zf rfl (by kernel_rfl) (zj hg rfl)))
    (.cons rfl (by decide) (.guarded rfl rfl (by decide) rfl zt (λ hg=>zO rfl (by decide) (zj hg rfl) zx))
    (sc rfl ((zQ rfl (zb rfl) (zb rfl)))
    (sc rfl ((zg rfl (zb rfl)))
    .nil)))))))))))))))))))))))))))))
    (kc 0 rfl (kc 1 rfl (kc 2 rfl (kc 4 rfl (kc 5 rfl (kc 25 rfl .nil)))))) (λ a6 w6 e6 st6=>?_)
   refine za ?_
   refine wp_ret (zy (zh ?_))
   refine z6 rfl (λ _ h=>h) st6 (t:=2) rfl ?_
   rw[yC,if_neg (by rw[k0];decide),if_pos k1]
  ·
   have k1:=h2
   refine wp_seq ?_
   refine zd st5 (sc rfl ((zO rfl (by decide) (zb rfl) zx))
    (sc rfl ((zg rfl (zb rfl)))
    .nil))
    (kc 0 rfl (kc 1 rfl (kc 2 rfl (kc 4 rfl (kc 5 rfl (kc 25 rfl (kc 55 rfl .nil))))))) (λ a7 w7 e7 st7=>?_)
   refine za ?_
   refine zF (c:=55) st7 rfl (λ h3=>?_) (λ h3=>?_)
   ·
    have k2:=h3
    refine wp_seq ?_
    refine zd st7 (sc rfl ((zn Stmt.fld1 rfl (by kernel_rfl) (zb rfl)))
     (sc rfl ((zf rfl (by kernel_rfl) (zb rfl)))
     (sc rfl ((zi (l:=[.tmp 58]) rfl (by kernel_rfl) (.cons (zb rfl) .nil) (wT _ (by have:=hs.1;unfold mid;omega))))
     (sc rfl ((ze rfl (zb rfl)))
     (.cons rfl (by decide) (.guarded rfl rfl (by decide) rfl zt (λ hg=>zn Stmt.fld2 rfl (by kernel_rfl) (zb rfl)))
     (.cons rfl (by decide) (.guarded rfl rfl (by decide) rfl zt (λ hg=>zf rfl (by kernel_rfl) (zj hg rfl)))
     (.cons rfl (by decide) (.guarded rfl rfl (by decide) rfl zt (λ hg=>zO rfl (by decide) (zj hg rfl) zx))
     (sc rfl ((zQ rfl (zb rfl) (zb rfl)))
     (sc rfl ((ze rfl (zb rfl)))
     (.cons rfl (by decide) (.guarded rfl rfl (by decide) rfl zt (λ hg=>zn Stmt.fld3 rfl (by kernel_rfl) (zb rfl)))
     (.cons rfl (by decide) (.guarded rfl rfl (by decide) rfl zt (λ hg=>zf rfl (by kernel_rfl) (zj hg rfl)))
     (.cons rfl (by decide) (.guarded rfl rfl (by decide) rfl zt (λ hg=>yW rfl (zj hg rfl) (zv (by decide))))
     (sc rfl ((zQ rfl (zb rfl) (zb rfl)))
     (sc rfl ((ze rfl (zb rfl)))
     (.cons rfl (by decide) (.guarded rfl rfl (by decide) rfl zt (λ hg=>zn Stmt.fld4 rfl (by kernel_rfl) (zb rfl)))
     (.cons rfl (by decide) (.guarded rfl rfl (by decide) rfl zt (λ hg=>zf rfl (by kernel_rfl) (zj hg rfl)))
     (.cons rfl (by decide) (.guarded rfl rfl (by decide) rfl zt (λ hg=>zO rfl (by decide) (zj hg rfl) zx))
     (sc rfl ((zQ rfl (zb rfl) (zb rfl)))
     (sc rfl ((zg rfl (zb rfl)))
     .nil)))))))))))))))))))
     (kc 0 rfl (kc 1 rfl (kc 2 rfl (kc 4 rfl (kc 5 rfl (kc 25 rfl (kc 55 rfl .nil))))))) (λ a8 w8 e8 st8=>?_)
    refine za ?_
    refine wp_ret (zy (zh ?_))
    refine z6 rfl (λ _ h=>h) st8 (t:=2) rfl ?_
    rw[yC,if_neg (by rw[k0];decide),if_neg (by rw[k1];decide),if_pos k2]
   ·
    have k2:=h3
    refine wp_seq ?_
    refine zd st7 (sc rfl ((zO rfl (by decide) (zb rfl) zx))
     (sc rfl ((zg rfl (zb rfl)))
     .nil))
     (kc 0 rfl (kc 1 rfl (kc 2 rfl (kc 4 rfl (kc 5 rfl (kc 25 rfl (kc 55 rfl (kc 75 rfl .nil)))))))) (λ a9 w9 e9 st9=>?_)
    refine za ?_
    refine zF (c:=75) st9 rfl (λ h4=>?_) (λ h4=>?_)
    ·
     have k3:=h4
     refine wp_seq ?_
     refine zd st9 (sc rfl ((zn Stmt.fld1 rfl (by kernel_rfl) (zb rfl)))
      (sc rfl ((zf rfl (by kernel_rfl) (zb rfl)))
      (sc rfl ((yW rfl (zb rfl) (zv (by decide))))
      (sc rfl ((ze rfl (zb rfl)))
      (.cons rfl (by decide) (.guarded rfl rfl (by decide) rfl zt (λ hg=>zn Stmt.fld2 rfl (by kernel_rfl) (zb rfl)))
      (.cons rfl (by decide) (.guarded rfl rfl (by decide) rfl zt (λ hg=>zf rfl (by kernel_rfl) (zj hg rfl)))
      (.cons rfl (by decide) (.guarded rfl rfl (by decide) rfl zt (λ hg=>zO rfl (by decide) (zj hg rfl) zx))
      (sc rfl ((zQ rfl (zb rfl) (zb rfl)))
      (sc rfl ((ze rfl (zb rfl)))
      (.cons rfl (by decide) (.guarded rfl rfl (by decide) rfl zt (λ hg=>zn Stmt.fld3 rfl (by kernel_rfl) (zb rfl)))
      (.cons rfl (by decide) (.guarded rfl rfl (by decide) rfl zt (λ hg=>zf rfl (by kernel_rfl) (zj hg rfl)))
      (.cons rfl (by decide) (.guarded rfl rfl (by decide) rfl zt (λ hg=>zi (l:=[.tmp 87]) rfl (by kernel_rfl) (.cons (zj hg rfl) .nil) (wS _)))
      (sc rfl ((zQ rfl (zb rfl) (zb rfl)))
      (sc rfl ((ze rfl (zb rfl)))
      (.cons rfl (by decide) (.guarded rfl rfl (by decide) rfl zt (λ hg=>zn Stmt.fld4 rfl (by kernel_rfl) (zb rfl)))
      (.cons rfl (by decide) (.guarded rfl rfl (by decide) rfl zt (λ hg=>zf rfl (by kernel_rfl) (zj hg rfl)))
      (.cons rfl (by decide) (.guarded rfl rfl (by decide) rfl zt (λ hg=>zi (l:=[.tmp 92,.const (.int .i64 0),.const (.int .i64 99)]) rfl (by kernel_rfl) (.cons (zj hg rfl) (.cons zx (.cons zx .nil))) (wK _ _ _)))
      (sc rfl ((zQ rfl (zb rfl) (zb rfl)))
      (sc rfl ((zg rfl (zb rfl)))
      .nil)))))))))))))))))))
      (kc 0 rfl (kc 1 rfl (kc 2 rfl (kc 4 rfl (kc 5 rfl (kc 25 rfl (kc 55 rfl (kc 75 rfl .nil)))))))) (λ a10 w10 e10 st10=>?_)
     refine za ?_
     refine wp_ret (zy (zh ?_))
     refine z6 rfl (λ _ h=>h) st10 (t:=2) rfl ?_
     rw[yC,if_neg (by rw[k0];decide),if_neg (by rw[k1];decide),if_neg (by rw[k2];decide),if_pos k3]
    ·
     have k3:=h4
     refine wp_seq ?_
     refine zd st9 (sc rfl ((zO rfl (by decide) (zb rfl) zx))
      (sc rfl ((zg rfl (zb rfl)))
      .nil))
      (kc 0 rfl (kc 1 rfl (kc 2 rfl (kc 4 rfl (kc 5 rfl (kc 25 rfl (kc 55 rfl (kc 75 rfl (kc 95 rfl .nil))))))))) (λ a11 w11 e11 st11=>?_)
     refine za ?_
     refine zF (c:=95) st11 rfl (λ h5=>?_) (λ h5=>?_)
     ·
      have k4:=h5
      refine wp_seq ?_
      refine zd st11 (sc rfl ((zn Stmt.fld1 rfl (by kernel_rfl) (zb rfl)))
       (sc rfl ((zf rfl (by kernel_rfl) (zb rfl)))
       (sc rfl ((yW rfl (zb rfl) (zv (by decide))))
       (sc rfl ((ze rfl (zb rfl)))
       (.cons rfl (by decide) (.guarded rfl rfl (by decide) rfl zt (λ hg=>zn Stmt.fld2 rfl (by kernel_rfl) (zb rfl)))
       (.cons rfl (by decide) (.guarded rfl rfl (by decide) rfl zt (λ hg=>zf rfl (by kernel_rfl) (zj hg rfl)))
       (.cons rfl (by decide) (.guarded rfl rfl (by decide) rfl zt (λ hg=>zO rfl (by decide) (zj hg rfl) zx))
       (sc rfl ((zQ rfl (zb rfl) (zb rfl)))
       (sc rfl ((ze rfl (zb rfl)))
       (.cons rfl (by decide) (.guarded rfl rfl (by decide) rfl zt (λ hg=>zn Stmt.fld3 rfl (by kernel_rfl) (zb rfl)))
       (.cons rfl (by decide) (.guarded rfl rfl (by decide) rfl zt (λ hg=>zf rfl (by kernel_rfl) (zj hg rfl)))
       (.cons rfl (by decide) (.guarded rfl rfl (by decide) rfl zt (λ hg=>zi (l:=[.tmp 107]) rfl (by kernel_rfl) (.cons (zj hg rfl) .nil) (wS _)))
       (sc rfl ((zQ rfl (zb rfl) (zb rfl)))
       (sc rfl ((ze rfl (zb rfl)))
       (.cons rfl (by decide) (.guarded rfl rfl (by decide) rfl zt (λ hg=>zn Stmt.fld4 rfl (by kernel_rfl) (zb rfl)))
       (.cons rfl (by decide) (.guarded rfl rfl (by decide) rfl zt (λ hg=>zf rfl (by kernel_rfl) (zj hg rfl)))
       (.cons rfl (by decide) (.guarded rfl rfl (by decide) rfl zt (λ hg=>zO rfl (by decide) (zj hg rfl) zx))
       (sc rfl ((zQ rfl (zb rfl) (zb rfl)))
       (sc rfl ((zg rfl (zb rfl)))
       .nil)))))))))))))))))))
       (kc 0 rfl (kc 1 rfl (kc 2 rfl (kc 4 rfl (kc 5 rfl (kc 25 rfl (kc 55 rfl (kc 75 rfl (kc 95 rfl .nil))))))))) (λ a12 w12 e12 st12=>?_)
      refine za ?_
      refine wp_ret (zy (zh ?_))
      refine z6 rfl (λ _ h=>h) st12 (t:=2) rfl ?_
      rw[yC,if_neg (by rw[k0];decide),if_neg (by rw[k1];decide),if_neg (by rw[k2];decide),if_neg (by rw[k3];decide),if_pos k4]
     ·
      have k4:=h5
      refine wp_seq ?_
      refine zd st11 (sc rfl ((zO rfl (by decide) (zb rfl) zx))
       (sc rfl ((zg rfl (zb rfl)))
       .nil))
       (kc 0 rfl (kc 1 rfl (kc 2 rfl (kc 4 rfl (kc 5 rfl (kc 25 rfl (kc 55 rfl (kc 75 rfl (kc 95 rfl (kc 115 rfl .nil)))))))))) (λ a13 w13 e13 st13=>?_)
      refine za ?_
      refine zF (c:=115) st13 rfl (λ h6=>?_) (λ h6=>?_)
      ·
       have k5:=h6
       refine wp_seq ?_
       refine zd st13 (sc rfl ((zf rfl (by kernel_rfl) (zb rfl)))
        (sc rfl ((yj (parts:=[(0,.const (.int .i64 5))]) (ns:=[1,1,1,1,1]) (zs:=[[.int .i64 0],[.string ⟨⟨[]⟩⟩],[.int .i64 0],[.string ⟨⟨[]⟩⟩],[.int .i64 0]]) rfl rfl (by kernel_rfl) (by kernel_rfl) (λ w a hl=>by
    intro p hp
    simp only[List.mem_cons,List.not_mem_nil,or_false] at hp
    rcases hp with rfl
    ·
     exact
        ⟨by decide,rfl⟩) (λ w a hl=>Stmt.parts (x:=⟨5,⟨[]⟩,0,⟨[]⟩,0⟩) (OpdR.cells zx hl) yS ⟨rfl,trivial⟩ yS ⟨rfl,trivial⟩)))
        (sc rfl ((YL rfl (by kernel_rfl) (zb rfl) (zb rfl)))
        (sc rfl ((zg rfl (zb rfl)))
        .nil))))
        (kc 0 rfl (kc 1 rfl (kc 2 rfl (kc 4 rfl (kc 5 rfl (kc 25 rfl (kc 55 rfl (kc 75 rfl (kc 95 rfl (kc 115 rfl .nil)))))))))) (λ a14 w14 e14 st14=>?_)
       refine za ?_
       refine wp_ret (zy (zh ?_))
       refine z6 rfl (λ _ h=>h) st14 (t:=2) rfl ?_
       rw[yC,if_neg (by rw[k0];decide),if_neg (by rw[k1];decide),if_neg (by rw[k2];decide),if_neg (by rw[k3];decide),if_neg (by rw[k4];decide),if_pos k5]
      ·
       have k5:=h6
       refine wp_skip (zk (za (wp_seq ?_)))
       refine zd st13 (sc rfl ((zg rfl yl))
        .nil)
        (kc 0 rfl (kc 1 rfl (kc 2 rfl (kc 4 rfl (kc 5 rfl (kc 25 rfl (kc 55 rfl (kc 75 rfl (kc 95 rfl (kc 115 rfl .nil)))))))))) (λ a15 w15 e15 st15=>?_)
       refine za (wp_ret ?_)
       refine z6 rfl (λ _ h=>h) st15 (t:=2) rfl ?_
       rw[yC,if_neg (by rw[k0];decide),if_neg (by rw[k1];decide),if_neg (by rw[k2];decide),if_neg (by rw[k3];decide),if_neg (by rw[k4];decide),if_neg (by rw[k5];decide)]
theorem Jd(b:List Stmt)(hb:b.length<=1048576/\∀ s∈b,smStmt s):Fn Tryz.prog 187 [dt b] (dt (xo b)):=by
 refine ym (fn:=Tryz.f187) Tryz.func187 rfl (of_decide_eq_true rfl) (λ M w0 a0 hm st0=>?_)
 have hlen:=hb.1
 refine wp_seq ?_
 refine zd st0 (sc rfl ((zg rfl yl))
  .nil)
  (kc 0 rfl (kc 2 rfl .nil)) (λ a1 w1 e1 st1=>?_)
 refine za (wp_seq (wp_seq ?_))
 refine zd st1 (sc rfl ((zg rfl zx))
  .nil)
  (kc 0 rfl (kc 2 rfl (kc 3 rfl .nil))) (λ a2 w2 e2 st2=>?_)
 refine za (wp_block ?_)
 refine je (ι:=Nat) (λ k a w=>St (Frm.of w0) 19 M [(0,dt b),(3,dt (k:Int))] a w/\k<=b.length/\(b.take k).all yC=true) (λ k=>b.length - k) 0 ?_ ?_
 ·
  exact⟨st2.pick (kc 0 rfl (kc 3 rfl .nil)),Nat.zero_le _,by simp⟩
 ·
  rintro k a3 w3 ⟨st3,hk,hp⟩
  refine wp_seq (wp_seq ?_)
  refine zd st3 (sc rfl ((ze rfl (zb rfl)))
   (sc rfl ((ze rfl (zb rfl)))
   (sc rfl ((zK rfl (by kernel_rfl) (zb rfl)))
   (sc rfl ((zO rfl (by decide) (zb rfl) (zb rfl)))
   .nil))))
   (kc 0 rfl (kc 3 rfl (kc 7 rfl .nil))) (λ a4 w4 e4 st4=>?_)
  refine za ?_
  refine zF (c:=7) st4 rfl (λ h1=>?_) (λ h1=>?_)
  ·
   obtain⟨x,hx⟩:=ZK h1
   have hlt:=ye hx
   refine wp_skip (za (wp_seq (wp_block (wp_seq ?_))))
   refine zd st4 (sc rfl ((ze rfl (zb rfl)))
    (sc rfl ((ze rfl (zb rfl)))
    (sc rfl ((yq rfl (by kernel_rfl) (zb rfl) (zb rfl) rfl (by assumption)))
    (sc rfl ((zf rfl (by kernel_rfl) (zb rfl)))
    (sc rfl ((zi (l:=[.tmp 13]) rfl (by kernel_rfl) (.cons (zb rfl) .nil) (Jc _ (hb.2 _ (List.mem_of_getElem? hx)))))
    (sc rfl ((yc rfl (zb rfl)))
    .nil))))))
    (kc 0 rfl (kc 3 rfl (kc 7 rfl (kc 15 rfl .nil)))) (λ a5 w5 e5 st5=>?_)
   refine za ?_
   refine zF (c:=15) st5 rfl (λ h2=>?_) (λ h2=>?_)
   ·
    have ht:=h2
    refine wp_seq ?_
    refine zd st5 (sc rfl ((zg rfl yl))
     .nil)
     (kc 0 rfl (kc 2 rfl (kc 3 rfl (kc 7 rfl (kc 15 rfl .nil))))) (λ a6 w6 e6 st6=>?_)
    refine za ?_
    refine wp_ret (zy (zh (zh (zy (zh ?_)))))
    refine z6 rfl (λ _ h=>h) st6 (t:=2) rfl ?_
    unfold xo
    rw[all_fail hx (by simpa using ht)]
    rfl
   ·
    have hf:=h2
    refine wp_skip (zk (za ?_))
    refine zd st5 (sc rfl ((ze rfl (zb rfl)))
     (sc rfl ((wu rfl (by decide) (zb rfl) zx (by simp only[arI];omega)))
     (sc rfl ((zg rfl (zb rfl)))
     .nil)))
     (kc 0 rfl (kc 3 rfl (kc 7 rfl (kc 15 rfl .nil)))) (λ a7 w7 e7 st7=>?_)
    refine za ⟨k+1,⟨st7.pick (kc 0 rfl (kc 3 rfl .nil)),by omega,all_next hx hp (by simpa using hf)⟩,by omega⟩
  ·
   have hend:=ZL h1
   refine wp_exit (zm (zm (zC ?_)))
   refine za (wp_seq ?_)
   refine zd st4 (sc rfl ((ze rfl (zb rfl)))
    (sc rfl ((zK rfl (by kernel_rfl) (zb rfl)))
    (sc rfl ((zO rfl (by decide) (zb rfl) zx))
    (sc rfl ((zg rfl (zb rfl)))
    .nil))))
    (kc 0 rfl (kc 2 rfl (kc 3 rfl (kc 7 rfl .nil)))) (λ a8 w8 e8 st8=>?_)
   refine za (wp_ret ?_)
   refine z6 rfl (λ _ h=>h) st8 (t:=2) rfl ?_
   unfold xo
   rw[all_end hend hp]
   rfl
theorem Je(f:File)(hf:smFile f):Fn Tryz.prog 138 [dt f] (dt (y7 f)):=by
 refine ym (fn:=Tryz.f138) Tryz.func138 rfl (of_decide_eq_true rfl) (λ M w0 a0 hm st0=>?_)
 refine wp_seq ?_
 refine zd st0 (sc rfl ((yw rfl (zb rfl)))
  (sc rfl ((zg rfl yl))
  .nil))
  (kc 0 rfl (kc 1 rfl (kc 2 rfl .nil))) (λ a1 w1 e1 st1=>?_)
 refine za (wp_seq (wp_seq ?_))
 refine zd st1 (sc rfl ((zn File.fld0 rfl (by kernel_rfl) (zb rfl)))
  (sc rfl ((zf rfl (by kernel_rfl) (zb rfl)))
  (sc rfl ((zi (l:=[.tmp 4,.const (.int .i64 0),.const (.int .i64 2)]) rfl (by kernel_rfl) (.cons (zb rfl) (.cons zx (.cons zx .nil))) (wK _ _ _)))
  (sc rfl ((yc rfl (zb rfl)))
  (sc rfl ((ze rfl (zb rfl)))
  (.cons rfl (by decide) (.guarded rfl rfl (by decide) rfl zt (λ hg=>zn File.fld4 rfl (by kernel_rfl) (zb rfl)))
  (.cons rfl (by decide) (.guarded rfl rfl (by decide) rfl zt (λ hg=>zf rfl (by kernel_rfl) (zj hg rfl)))
  (.cons rfl (by decide) (.guarded rfl rfl (by decide) rfl zt (λ hg=>zi (l:=[.tmp 9,.const (.int .i64 0),.const (.int .i64 99)]) rfl (by kernel_rfl) (.cons (zj hg rfl) (.cons zx (.cons zx .nil))) (wK _ _ _)))
  (.cons rfl (by decide) (.guarded rfl rfl (by decide) rfl zt (λ hg=>yc rfl (zj hg rfl)))
  (sc rfl ((xA rfl (zb rfl) (zb rfl)))
  (sc rfl ((ze rfl (zb rfl)))
  (.cons rfl (by decide) (.guarded rfl rfl (by decide) rfl zt (λ hg=>zn File.fld1 rfl (by kernel_rfl) (zb rfl)))
  (.cons rfl (by decide) (.guarded rfl rfl (by decide) rfl zt (λ hg=>zf rfl (by kernel_rfl) (zj hg rfl)))
  (.cons rfl (by decide) (.guarded rfl rfl (by decide) rfl zt (λ hg=>zi (l:=[.tmp 15]) rfl (by kernel_rfl) (.cons (zj hg rfl) .nil) (ZA _ (by have:=hf.1;unfold mid;omega))))
  (.cons rfl (by decide) (.guarded rfl rfl (by decide) rfl zt (λ hg=>yc rfl (zj hg rfl)))
  (sc rfl ((xA rfl (zb rfl) (zb rfl)))
  (sc rfl ((ze rfl (zb rfl)))
  (.cons rfl (by decide) (.guarded rfl rfl (by decide) rfl zt (λ hg=>zn File.fld5 rfl (by kernel_rfl) (zb rfl)))
  (.cons rfl (by decide) (.guarded rfl rfl (by decide) rfl zt (λ hg=>zf rfl (by kernel_rfl) (zj hg rfl)))
  (.cons rfl (by decide) (.guarded rfl rfl (by decide) rfl zt (λ hg=>zi (l:=[.tmp 21]) rfl (by kernel_rfl) (.cons (zj hg rfl) .nil) (Jd _ ⟨hf.2.2.1,hf.2.2.2⟩)))
  (.cons rfl (by decide) (.guarded rfl rfl (by decide) rfl zt (λ hg=>yc rfl (zj hg rfl)))
  (sc rfl ((xA rfl (zb rfl) (zb rfl)))
  .nil))))))))))))))))))))))
  (kc 0 rfl (kc 1 rfl (kc 2 rfl (kc 24 rfl .nil)))) (λ a2 w2 e2 st2=>?_)
 refine za ?_
 refine zF (c:=24) st2 rfl (λ h1=>?_) (λ h1=>?_)
 ·
  have g1:=h1
  refine wp_seq ?_
  refine zd st2 (sc rfl ((zg rfl yl))
   .nil)
   (kc 0 rfl (kc 1 rfl (kc 2 rfl (kc 24 rfl .nil)))) (λ a3 w3 e3 st3=>?_)
  refine za ?_
  refine wp_ret (zh ?_)
  refine z6 rfl (λ _ h=>h) st3 (t:=2) rfl ?_
  rw[y7,if_pos g1]
 ·
  have g1:=h1
  refine wp_skip (za (wp_seq (wp_seq ?_)))
  refine zd st2 (sc rfl ((zn File.fld3 rfl (by kernel_rfl) (zb rfl)))
   (sc rfl ((zf rfl (by kernel_rfl) (zb rfl)))
   .nil))
   (kc 0 rfl (kc 1 rfl (kc 2 rfl (kc 24 rfl (kc 26 rfl .nil))))) (λ a4 w4 e4 st4=>?_)
  refine za ?_
  refine zF (c:=26) st4 rfl (λ h2=>?_) (λ h2=>?_)
  ·
   have g2:=h2
   refine wp_seq ?_
   refine zd st4 (sc rfl ((zn File.fld1 rfl (by kernel_rfl) (zb rfl)))
    (sc rfl ((zf rfl (by kernel_rfl) (zb rfl)))
    (sc rfl ((ZI rfl (zb rfl) (zv (by decide))))
    (sc rfl ((ze rfl (zb rfl)))
    (.cons rfl (by decide) (.guarded rfl rfl (by decide) rfl zt (λ hg=>zn File.fld2 rfl (by kernel_rfl) (zb rfl)))
    (.cons rfl (by decide) (.guarded rfl rfl (by decide) rfl zt (λ hg=>zf rfl (by kernel_rfl) (zj hg rfl)))
    (.cons rfl (by decide) (.guarded rfl rfl (by decide) rfl zt (λ hg=>yW rfl (zj hg rfl) (zv (by decide))))
    (sc rfl ((zQ rfl (zb rfl) (zb rfl)))
    (sc rfl ((zg rfl (zb rfl)))
    .nil)))))))))
    (kc 0 rfl (kc 1 rfl (kc 2 rfl (kc 24 rfl (kc 26 rfl .nil))))) (λ a5 w5 e5 st5=>?_)
   refine za ?_
   refine wp_ret (zh ?_)
   refine z6 rfl (λ _ h=>h) st5 (t:=2) rfl ?_
   rw[y7,if_neg (by rw[g1];decide),if_pos g2];rfl
  ·
   have g2:=h2
   refine wp_skip (za (wp_seq ?_))
   refine zd st4 (sc rfl ((zn File.fld2 rfl (by kernel_rfl) (zb rfl)))
    (sc rfl ((zf rfl (by kernel_rfl) (zb rfl)))
    (sc rfl ((zi (l:=[.tmp 36]) rfl (by kernel_rfl) (.cons (zb rfl) .nil) (wS _)))
    (sc rfl ((ze rfl (zb rfl)))
    (.cons rfl (by decide) (.guarded rfl rfl (by decide) rfl zt (λ hg=>zn File.fld1 rfl (by kernel_rfl) (zb rfl)))
    (.cons rfl (by decide) (.guarded rfl rfl (by decide) rfl zt (λ hg=>zf rfl (by kernel_rfl) (zj hg rfl)))
    (.cons rfl (by decide) (.guarded rfl rfl (by decide) rfl zt (λ hg=>zn File.fld2 rfl (by kernel_rfl) (zb rfl)))
    (.cons rfl (by decide) (.guarded rfl rfl (by decide) rfl zt (λ hg=>zf rfl (by kernel_rfl) (zj hg rfl)))
    (.cons rfl (by decide) (.guarded rfl rfl (by decide) rfl zt (λ hg=>zi (l:=[.tmp 40,.tmp 42]) rfl (by kernel_rfl) (.cons (zj hg rfl) (.cons (zj hg rfl) .nil)) (qt _ _ (by have:=hf.1;have:=hf.2.1;omega))))
    (.cons rfl (by decide) (.guarded rfl rfl (by decide) rfl zt (λ hg=>zi (l:=[.tmp 43]) rfl (by kernel_rfl) (.cons (zj hg rfl) .nil) (wT _ (child_mid (by have:=hf.1;have:=hf.2.1;omega)))))
    (sc rfl ((zQ rfl (zb rfl) (zb rfl)))
    (sc rfl ((zg rfl (zb rfl)))
    .nil))))))))))))
    (kc 0 rfl (kc 1 rfl (kc 2 rfl (kc 24 rfl (kc 26 rfl .nil))))) (λ a6 w6 e6 st6=>?_)
   refine za (wp_ret ?_)
   refine z6 rfl (λ _ h=>h) st6 (t:=2) rfl ?_
   rw[y7,if_neg (by rw[g1];decide),if_neg (by rw[g2];decide)]
theorem JJ(f g:File):Fn Tryz.prog 189 [dt f,dt g] (dt (yT f g)):=by
 refine ym (fn:=Tryz.f189) Tryz.func189 rfl (of_decide_eq_true rfl) (λ M w0 a0 hm st0=>?_)
 refine wp_seq ?_
 refine zd st0 (sc rfl ((yw rfl (zb rfl)))
  (sc rfl ((yw rfl (zb rfl)))
  (sc rfl ((zg rfl yl))
  .nil)))
  (kc 0 rfl (kc 1 rfl (kc 2 rfl (kc 3 rfl (kc 4 rfl .nil))))) (λ a1 w1 e1 st1=>?_)
 refine za (wp_seq ?_)
 refine zd st1 (sc rfl ((zn File.fld0 rfl (by kernel_rfl) (zb rfl)))
  (sc rfl ((zf rfl (by kernel_rfl) (zb rfl)))
  (sc rfl ((zn File.fld0 rfl (by kernel_rfl) (zb rfl)))
  (sc rfl ((zf rfl (by kernel_rfl) (zb rfl)))
  (sc rfl ((zO rfl (by decide) (zb rfl) (zb rfl)))
  (sc rfl ((ze rfl (zb rfl)))
  (.cons rfl (by decide) (.guarded rfl rfl (by decide) rfl zt (λ hg=>zn File.fld1 rfl (by kernel_rfl) (zb rfl)))
  (.cons rfl (by decide) (.guarded rfl rfl (by decide) rfl zt (λ hg=>zf rfl (by kernel_rfl) (zj hg rfl)))
  (.cons rfl (by decide) (.guarded rfl rfl (by decide) rfl zt (λ hg=>zn File.fld1 rfl (by kernel_rfl) (zb rfl)))
  (.cons rfl (by decide) (.guarded rfl rfl (by decide) rfl zt (λ hg=>zf rfl (by kernel_rfl) (zj hg rfl)))
  (.cons rfl (by decide) (.guarded rfl rfl (by decide) rfl zt (λ hg=>yW rfl (zj hg rfl) (zj hg rfl)))
  (sc rfl ((zQ rfl (zb rfl) (zb rfl)))
  (sc rfl ((ze rfl (zb rfl)))
  (.cons rfl (by decide) (.guarded rfl rfl (by decide) rfl zt (λ hg=>zn File.fld3 rfl (by kernel_rfl) (zb rfl)))
  (.cons rfl (by decide) (.guarded rfl rfl (by decide) rfl zt (λ hg=>zf rfl (by kernel_rfl) (zj hg rfl)))
  (.cons rfl (by decide) (.guarded rfl rfl (by decide) rfl zt (λ hg=>zn File.fld3 rfl (by kernel_rfl) (zb rfl)))
  (.cons rfl (by decide) (.guarded rfl rfl (by decide) rfl zt (λ hg=>zf rfl (by kernel_rfl) (zj hg rfl)))
  (.cons rfl (by decide) (.guarded rfl rfl (by decide) rfl zt (λ hg=>op_eqT rfl (by kernel_rfl) (zj hg rfl) (zj hg rfl)))
  (sc rfl ((zQ rfl (zb rfl) (zb rfl)))
  (sc rfl ((ze rfl (zb rfl)))
  (.cons rfl (by decide) (.guarded rfl rfl (by decide) rfl zt (λ hg=>zn File.fld2 rfl (by kernel_rfl) (zb rfl)))
  (.cons rfl (by decide) (.guarded rfl rfl (by decide) rfl zt (λ hg=>zf rfl (by kernel_rfl) (zj hg rfl)))
  (.cons rfl (by decide) (.guarded rfl rfl (by decide) rfl zt (λ hg=>zn File.fld2 rfl (by kernel_rfl) (zb rfl)))
  (.cons rfl (by decide) (.guarded rfl rfl (by decide) rfl zt (λ hg=>zf rfl (by kernel_rfl) (zj hg rfl)))
  (.cons rfl (by decide) (.guarded rfl rfl (by decide) rfl zt (λ hg=>yW rfl (zj hg rfl) (zj hg rfl)))
  (sc rfl ((zQ rfl (zb rfl) (zb rfl)))
  (sc rfl ((zg rfl (zb rfl)))
  .nil)))))))))))))))))))))))))))
  (kc 0 rfl (kc 1 rfl (kc 2 rfl (kc 3 rfl (kc 4 rfl .nil))))) (λ a2 w2 e2 st2=>?_)
 refine za (wp_ret ?_)
 refine z6 rfl (λ _ h=>h) st2 (t:=4) rfl ?_
 simp[yT,cmpI]
theorem qR(t:Tree)(f:File):Fn Tryz.prog 139 [dt t,dt f] (dt (yD t.files f)):=by
 refine ym (fn:=Tryz.f139) Tryz.func139 rfl (of_decide_eq_true rfl) (λ M w0 a0 hm st0=>?_)
 have hlen:=st0.fldL Tree.fld0 (s:=0) rfl
 refine wp_seq ?_
 refine zd st0 (sc rfl ((yw rfl (zb rfl)))
  (sc rfl ((yw rfl (zb rfl)))
  (sc rfl ((zg rfl zx))
  .nil)))
  (kc 0 rfl (kc 1 rfl (kc 2 rfl (kc 3 rfl (kc 4 rfl .nil))))) (λ a1 w1 e1 st1=>?_)
 refine za (wp_seq (wp_seq ?_))
 refine zd st1 (sc rfl ((zg rfl zx))
  .nil)
  (kc 0 rfl (kc 1 rfl (kc 2 rfl (kc 3 rfl (kc 4 rfl (kc 5 rfl .nil)))))) (λ a2 w2 e2 st2=>?_)
 refine za (wp_block ?_)
 refine je (ι:=Nat) (λ k a w=>St (Frm.of w0) 21 M [(0,dt t),(1,dt f),(2,dptr t),(3,dptr f),(5,dt (k:Int))] a w/\k<=t.files.length/\(t.files.take k).any (λ x=>yT x f)=false) (λ k=>t.files.length - k) 0 ?_ ?_
 ·
  exact⟨st2.pick (kc 0 rfl (kc 1 rfl (kc 2 rfl (kc 3 rfl (kc 5 rfl .nil))))),Nat.zero_le _,by simp⟩
 ·
  rintro k a3 w3 ⟨st3,hk,hp⟩
  refine wp_seq (wp_seq ?_)
  refine zd st3 (sc rfl ((ze rfl (zb rfl)))
   (sc rfl ((zn Tree.fld0 rfl (by kernel_rfl) (zb rfl)))
   (sc rfl ((zf rfl (by kernel_rfl) (zb rfl)))
   (sc rfl ((zK rfl (by kernel_rfl) (zb rfl)))
   (sc rfl ((zO rfl (by decide) (zb rfl) (zb rfl)))
   .nil)))))
   (kc 0 rfl (kc 1 rfl (kc 2 rfl (kc 3 rfl (kc 5 rfl (kc 10 rfl .nil)))))) (λ a4 w4 e4 st4=>?_)
  refine za ?_
  refine zF (c:=10) st4 rfl (λ h1=>?_) (λ h1=>?_)
  ·
   obtain⟨x,hx⟩:=ZK h1
   have hlt:=ye hx
   refine wp_skip (za (wp_seq (wp_block (wp_seq ?_))))
   refine Zb zR [[],[0],[],[0,1,2],[0,1,2,3],[],[0,1,2,3,4,5]] [[(2,none)],[(13,some 0)],[(5,none)],[(14,some 1),(15,some 2)],[(16,some 3)],[(3,none)],[(17,some 4),(18,some 5)]] (by decide +kernel) st4 (D:=[_,_,_,_,_,_,_])
    (.cons rfl (by decide) rfl (.plain rfl (zn Tree.fld0 rfl (by kernel_rfl) (zb rfl)))
    (.cons rfl (by decide) rfl (.plain rfl (zf rfl (by kernel_rfl) (zb rfl)))
    (.cons rfl (by decide) rfl (.plain rfl (ze rfl (zb rfl)))
    (.cons rfl (by decide) rfl (.plain rfl (yq rfl (by kernel_rfl) (zb rfl) (zb rfl) rfl (by assumption)))
    (.cons rfl (by decide) rfl (.plain rfl (zf rfl (by kernel_rfl) (zb rfl)))
    (.cons rfl (by decide) rfl (.plain rfl (zf rfl (by kernel_rfl) (zb rfl)))
    (.cons rfl (by decide) rfl (.plain rfl (zi (l:=[.tmp 17,.tmp 18]) rfl (by kernel_rfl) (.cons (zb rfl) (.cons (zb rfl) .nil)) (JJ _ _)))
    .nil)))))))
    (kc 0 rfl (kc 1 rfl (kc 2 rfl (kc 3 rfl (kc 5 rfl (kc 10 rfl (kc 19 rfl .nil))))))) (λ a5 w5 e5 st5=>?_)
   refine za ?_
   refine zF (c:=19) st5 rfl (λ h2=>?_) (λ h2=>?_)
   ·
    have ht:=h2
    refine wp_seq ?_
    refine zd st5 (sc rfl ((ze rfl (zb rfl)))
     (sc rfl ((zg rfl (zb rfl)))
     .nil))
     (kc 0 rfl (kc 1 rfl (kc 2 rfl (kc 3 rfl (kc 4 rfl (kc 5 rfl (kc 10 rfl (kc 19 rfl .nil)))))))) (λ a6 w6 e6 st6=>?_)
    refine za ?_
    refine wp_ret (zy (zh (zh (zy (zh ?_)))))
    refine z6 rfl (λ _ h=>h) st6 (t:=4) rfl ?_
    exact(idx_hit hp hx ht).symm
   ·
    have hf:=h2
    refine wp_skip (zk (za ?_))
    refine zd st5 (sc rfl ((ze rfl (zb rfl)))
     (sc rfl ((wu rfl (by decide) (zb rfl) zx (by simp only[arI];omega)))
     (sc rfl ((zg rfl (zb rfl)))
     .nil)))
     (kc 0 rfl (kc 1 rfl (kc 2 rfl (kc 3 rfl (kc 5 rfl (kc 10 rfl (kc 19 rfl .nil))))))) (λ a7 w7 e7 st7=>?_)
    refine za ⟨k+1,⟨st7.pick (kc 0 rfl (kc 1 rfl (kc 2 rfl (kc 3 rfl (kc 5 rfl .nil))))),by omega,W1 hx hp hf⟩,by omega⟩
  ·
   have hend:=ZL h1
   refine wp_exit (zm (zm (zC ?_)))
   refine za (wp_seq ?_)
   refine zd st4 (sc rfl ((zg rfl zx))
    .nil)
    (kc 0 rfl (kc 1 rfl (kc 2 rfl (kc 3 rfl (kc 4 rfl (kc 5 rfl (kc 10 rfl .nil))))))) (λ a8 w8 e8 st8=>?_)
   refine za (wp_ret ?_)
   refine z6 rfl (λ _ h=>h) st8 (t:=4) rfl ?_
   exact(idx_end hend hp).symm
theorem spec_intAt_ok(l:List Int)(n:Int):Fn Tryz.prog 141 [dt l,dt n] (dt (intAt l n)):=by
 refine ym (fn:=Tryz.f141) Tryz.func141 rfl (of_decide_eq_true rfl) (λ M w0 a0 hm st0=>?_)
 have hlen:=st0.lenL (s:=0) rfl
 refine wp_seq ?_
 refine zd st0 (sc rfl ((zg rfl zx))
  .nil)
  (kc 0 rfl (kc 1 rfl (kc 4 rfl .nil))) (λ a1 w1 e1 st1=>?_)
 refine za (wp_seq (wp_seq ?_))
 refine zd st1 (sc rfl ((zg rfl zx))
  .nil)
  (kc 0 rfl (kc 1 rfl (kc 4 rfl (kc 5 rfl .nil)))) (λ a2 w2 e2 st2=>?_)
 refine za (wp_block ?_)
 refine je (ι:=Nat) (λ k a w=>St (Frm.of w0) 19 M [(0,dt l),(1,dt n),(5,dt (k:Int))] a w/\k<=l.length/\(l.take k).any (λ x=>x == n)=false) (λ k=>l.length - k) 0 ?_ ?_
 ·
  exact⟨st2.pick (kc 0 rfl (kc 1 rfl (kc 5 rfl .nil))),Nat.zero_le _,by simp⟩
 ·
  rintro k a3 w3 ⟨st3,hk,hp⟩
  refine wp_seq (wp_seq ?_)
  refine zd st3 (sc rfl ((ze rfl (zb rfl)))
   (sc rfl ((ze rfl (zb rfl)))
   (sc rfl ((zK rfl (by kernel_rfl) (zb rfl)))
   (sc rfl ((zO rfl (by decide) (zb rfl) (zb rfl)))
   .nil))))
   (kc 0 rfl (kc 1 rfl (kc 5 rfl (kc 9 rfl .nil)))) (λ a4 w4 e4 st4=>?_)
  refine za ?_
  refine zF (c:=9) st4 rfl (λ h1=>?_) (λ h1=>?_)
  ·
   obtain⟨x,hx⟩:=ZK h1
   have hlt:=ye hx
   refine wp_skip (za (wp_seq (wp_block (wp_seq ?_))))
   refine zd st4 (sc rfl ((ze rfl (zb rfl)))
    (sc rfl ((ze rfl (zb rfl)))
    (sc rfl ((yq rfl (by kernel_rfl) (zb rfl) (zb rfl) rfl (by assumption)))
    (sc rfl ((zf rfl (by kernel_rfl) (zb rfl)))
    (sc rfl ((ze rfl (zb rfl)))
    (sc rfl ((zO rfl (by decide) (zb rfl) (zb rfl)))
    .nil))))))
    (kc 0 rfl (kc 1 rfl (kc 5 rfl (kc 9 rfl (kc 17 rfl .nil))))) (λ a5 w5 e5 st5=>?_)
   refine za ?_
   refine zF (c:=17) st5 rfl (λ h2=>?_) (λ h2=>?_)
   ·
    have ht:=h2
    refine wp_seq ?_
    refine zd st5 (sc rfl ((ze rfl (zb rfl)))
     (sc rfl ((zg rfl (zb rfl)))
     .nil))
     (kc 0 rfl (kc 1 rfl (kc 4 rfl (kc 5 rfl (kc 9 rfl (kc 17 rfl .nil)))))) (λ a6 w6 e6 st6=>?_)
    refine za ?_
    refine wp_ret (zy (zh (zh (zy (zh ?_)))))
    refine z6 rfl (λ _ h=>h) st6 (t:=4) rfl ?_
    exact(idx_hit hp hx ht).symm
   ·
    have hf:=h2
    refine wp_skip (zk (za ?_))
    refine zd st5 (sc rfl ((ze rfl (zb rfl)))
     (sc rfl ((wu rfl (by decide) (zb rfl) zx (by simp only[arI];omega)))
     (sc rfl ((zg rfl (zb rfl)))
     .nil)))
     (kc 0 rfl (kc 1 rfl (kc 5 rfl (kc 9 rfl (kc 17 rfl .nil))))) (λ a7 w7 e7 st7=>?_)
    refine za ⟨k+1,⟨st7.pick (kc 0 rfl (kc 1 rfl (kc 5 rfl .nil))),by omega,W1 hx hp hf⟩,by omega⟩
  ·
   have hend:=ZL h1
   refine wp_exit (zm (zm (zC ?_)))
   refine za (wp_seq ?_)
   refine zd st4 (sc rfl ((zg rfl zx))
    .nil)
    (kc 0 rfl (kc 1 rfl (kc 4 rfl (kc 5 rfl (kc 9 rfl .nil))))) (λ a8 w8 e8 st8=>?_)
   refine za (wp_ret ?_)
   refine z6 rfl (λ _ h=>h) st8 (t:=4) rfl ?_
   exact(idx_end hend hp).symm
theorem XB  : Fn Tryz.prog 211 [] (dt ZM):=by
 refine ym (fn:=Tryz.f211) Tryz.func211 rfl (of_decide_eq_true rfl) (λ M w0 a0 hm st0=>?_)
 refine wp_seq (wp_region_list ?_)
 refine XZ (n:=3) st0 rfl rfl rfl (by decide) (by kernel_rfl) .nil (λ b1 a1 w1 hb1 hn1 e1 st1=>?_)
 refine wpList_nil (za (wp_seq (wp_region_list ?_)))
 refine jT 2 st1 (sc rfl ((ya (opds:=[]) (α:=Int) rfl (by kernel_rfl) (by kernel_rfl) rfl rfl (by decide) .nil))
  (sc rfl ((yj (parts:=[(0,.const (.int .i64 0)),(1,.const (.int .i64 (-1))),(2,.tmp 1)]) (ns:=[1,1,1]) (zs:=[[.int .i64 0],[.int .i64 0],[.slice none 0 0]]) rfl rfl (by kernel_rfl) (by kernel_rfl) (λ w a hl=>by
    intro p hp
    simp only[List.mem_cons,List.not_mem_nil,or_false] at hp
    rcases hp with rfl | rfl | rfl
    ·
     exact⟨by decide,rfl⟩
    ·
     exact⟨by decide,rfl⟩
    ·
     exact⟨by decide,Rep.len (α:=(List Int)) (OpdR.cells (zb rfl) hl)⟩) (λ w a hl=>Spec.parts (x:=⟨0,-1,[]⟩) (OpdR.cells zx hl) (OpdR.cells zx hl) (OpdR.cells (zb rfl) hl))))
  .nil))
  (kc 0 rfl (kc 2 rfl .nil)) (λ a2 w2 e2 st2=>?_)
 refine wR st2 rfl rfl rfl (by kernel_rfl) rfl hb1 (.inr rfl) rfl (zb rfl) .nil (λ w3 st3=>?_)
 refine wpList_nil (za (wp_ret ?_))
 refine ret_box rfl (by kernel_rfl) st3 (t:=0) rfl (λ _ h=>(.inl h)) ?_
 rfl
open Go.RowKit
set_option maxRecDepth 10000
theorem Qv(t:Tree)(root:Int)(p:Str)(hp:p.l.length<=1152921504606846976):Fn Tryz.prog 247 [dt t,dt root,dt p] (dt (Zd t.files root p)):=by
 refine ym (fn:=Tryz.f247) Tryz.func247 rfl (of_decide_eq_true rfl) (λ M w0 a0 hm st0=>?_)
 have hlen:=st0.fldL Tree.fld0 (s:=0) rfl
 refine wp_seq ?_
 refine zd st0 (sc rfl ((yw rfl (zb rfl)))
  (sc rfl ((zg rfl yl))
  .nil))
  (kc 0 rfl (kc 1 rfl (kc 2 rfl (kc 3 rfl (kc 6 rfl .nil))))) (λ a1 w1 e1 st1=>?_)
 refine za (wp_seq (wp_seq ?_))
 refine zd st1 (sc rfl ((zg rfl zx))
  .nil)
  (kc 0 rfl (kc 1 rfl (kc 2 rfl (kc 3 rfl (kc 6 rfl (kc 7 rfl .nil)))))) (λ a2 w2 e2 st2=>?_)
 refine za (wp_block ?_)
 refine je (ι:=Nat) (λ k a w=>St (Frm.of w0) 44 M [(0,dt t),(1,dt root),(2,dt p),(3,dptr t),(7,dt (k:Int))] a w/\k<=t.files.length/\(t.files.take k).any (Xv root p)=false) (λ k=>t.files.length - k) 0 ?_ ?_
 ·
  exact⟨st2.pick (kc 0 rfl (kc 1 rfl (kc 2 rfl (kc 3 rfl (kc 7 rfl .nil))))),Nat.zero_le _,by simp⟩
 ·
  rintro k a3 w3 ⟨st3,hk,hq⟩
  refine wp_seq (wp_seq ?_)
  refine zd st3 (sc rfl ((ze rfl (zb rfl)))
   (sc rfl ((zn Tree.fld0 rfl (by kernel_rfl) (zb rfl)))
   (sc rfl ((zf rfl (by kernel_rfl) (zb rfl)))
   (sc rfl ((zK rfl (by kernel_rfl) (zb rfl)))
   (sc rfl ((zO rfl (by decide) (zb rfl) (zb rfl)))
   .nil)))))
   (kc 0 rfl (kc 1 rfl (kc 2 rfl (kc 3 rfl (kc 7 rfl (kc 12 rfl .nil)))))) (λ a4 w4 e4 st4=>?_)
  refine za ?_
  refine zF (c:=12) st4 rfl (λ h1=>?_) (λ h1=>?_)
  ·
   obtain⟨x,hx⟩:=ZK h1
   have hlt:=ye hx
   refine wp_skip (za (wp_seq (wp_block (wp_seq ?_))))
   refine zd st4 (sc rfl ((zn Tree.fld0 rfl (by kernel_rfl) (zb rfl)))
    (sc rfl ((zf rfl (by kernel_rfl) (zb rfl)))
    (sc rfl ((ze rfl (zb rfl)))
    (sc rfl ((yq rfl (by kernel_rfl) (zb rfl) (zb rfl) rfl (by assumption)))
    (sc rfl ((zn File.fld0 rfl (by kernel_rfl) (zb rfl)))
    (sc rfl ((zf rfl (by kernel_rfl) (zb rfl)))
    (sc rfl ((ze rfl (zb rfl)))
    (sc rfl ((zO rfl (by decide) (zb rfl) (zb rfl)))
    (sc rfl ((ze rfl (zb rfl)))
    (.cons rfl (by decide) (.guarded rfl rfl (by decide) rfl zt (λ hg=>zn Tree.fld0 rfl (by kernel_rfl) (zb rfl)))
    (.cons rfl (by decide) (.guarded rfl rfl (by decide) rfl zt (λ hg=>zf rfl (by kernel_rfl) (zj hg rfl)))
    (.cons rfl (by decide) (.guarded rfl rfl (by decide) rfl zt (λ hg=>ze rfl (zb rfl)))
    (.cons rfl (by decide) (.guarded rfl rfl (by decide) rfl zt (λ hg=>yq rfl (by kernel_rfl) (zj hg rfl) (zj hg rfl) rfl (by assumption)))
    (.cons rfl (by decide) (.guarded rfl rfl (by decide) rfl zt (λ hg=>zn File.fld1 rfl (by kernel_rfl) (zj hg rfl)))
    (.cons rfl (by decide) (.guarded rfl rfl (by decide) rfl zt (λ hg=>zf rfl (by kernel_rfl) (zj hg rfl)))
    (.cons rfl (by decide) (.guarded rfl rfl (by decide) rfl zt (λ hg=>ZI rfl (zj hg rfl) (zv (by decide))))
    (sc rfl ((zQ rfl (zb rfl) (zb rfl)))
    (sc rfl ((ze rfl (zb rfl)))
    (.cons rfl (by decide) (.guarded rfl rfl (by decide) rfl zt (λ hg=>zn Tree.fld0 rfl (by kernel_rfl) (zb rfl)))
    (.cons rfl (by decide) (.guarded rfl rfl (by decide) rfl zt (λ hg=>zf rfl (by kernel_rfl) (zj hg rfl)))
    (.cons rfl (by decide) (.guarded rfl rfl (by decide) rfl zt (λ hg=>ze rfl (zb rfl)))
    (.cons rfl (by decide) (.guarded rfl rfl (by decide) rfl zt (λ hg=>yq rfl (by kernel_rfl) (zj hg rfl) (zj hg rfl) rfl (by assumption)))
    (.cons rfl (by decide) (.guarded rfl rfl (by decide) rfl zt (λ hg=>zn File.fld1 rfl (by kernel_rfl) (zj hg rfl)))
    (.cons rfl (by decide) (.guarded rfl rfl (by decide) rfl zt (λ hg=>zf rfl (by kernel_rfl) (zj hg rfl)))
    (.cons rfl (by decide) (.guarded rfl rfl (by decide) rfl zt (λ hg=>ze rfl (zb rfl)))
    (.cons rfl (by decide) (.guarded rfl rfl (by decide) rfl zt (λ hg=>zi (l:=[.tmp 38,.tmp 39]) rfl (by kernel_rfl) (.cons (zj hg rfl) (.cons (zj hg rfl) .nil)) (spec_under_ok _ _ (by assumption))))
    (sc rfl ((zQ rfl (zb rfl) (zb rfl)))
    .nil)))))))))))))))))))))))))))
    (kc 0 rfl (kc 1 rfl (kc 2 rfl (kc 3 rfl (kc 7 rfl (kc 12 rfl (kc 41 rfl .nil))))))) (λ a5 w5 e5 st5=>?_)
   refine za ?_
   refine zF (c:=41) st5 rfl (λ h2=>?_) (λ h2=>?_)
   ·
    have ht:=h2
    refine wp_seq ?_
    refine zd st5 (sc rfl ((zg rfl yl))
     .nil)
     (kc 0 rfl (kc 1 rfl (kc 2 rfl (kc 3 rfl (kc 6 rfl (kc 7 rfl (kc 12 rfl (kc 41 rfl .nil)))))))) (λ a6 w6 e6 st6=>?_)
    refine za ?_
    refine wp_ret (zy (zh (zh (zy (zh ?_)))))
    refine z6 rfl (λ _ h=>h) st6 (t:=6) rfl ?_
    rw[Zd,any_hit (p:=Xv root p) hx ht]
    rfl
   ·
    have hf:=h2
    refine wp_skip (zk (za ?_))
    refine zd st5 (sc rfl ((ze rfl (zb rfl)))
     (sc rfl ((wu rfl (by decide) (zb rfl) zx (by simp only[arI];omega)))
     (sc rfl ((zg rfl (zb rfl)))
     .nil)))
     (kc 0 rfl (kc 1 rfl (kc 2 rfl (kc 3 rfl (kc 7 rfl (kc 12 rfl (kc 41 rfl .nil))))))) (λ a7 w7 e7 st7=>?_)
    refine za ⟨k+1,⟨st7.pick (kc 0 rfl (kc 1 rfl (kc 2 rfl (kc 3 rfl (kc 7 rfl .nil))))),by omega,W1 (p:=Xv root p) hx hq hf⟩,by omega⟩
  ·
   have hend:=ZL h1
   refine wp_exit (zm (zm (zC ?_)))
   refine za (wp_seq ?_)
   refine zd st4 (sc rfl ((ze rfl (zb rfl)))
    (sc rfl ((yW rfl (zb rfl) (zv (by decide))))
    (sc rfl ((zg rfl (zb rfl)))
    .nil)))
    (kc 0 rfl (kc 1 rfl (kc 2 rfl (kc 3 rfl (kc 6 rfl (kc 7 rfl (kc 12 rfl .nil))))))) (λ a8 w8 e8 st8=>?_)
   refine za (wp_ret ?_)
   refine z6 rfl (λ _ h=>h) st8 (t:=6) rfl ?_
   rw[Zd,any_end hend hq]
   rfl
theorem Jf(l:List Int):Fn Tryz.prog 74 [dt l] (dt (xp l)):=by
 refine ym (fn:=Tryz.f74) Tryz.func74 rfl (of_decide_eq_true rfl) (λ M w0 a0 hm st0=>?_)
 have hlen:=st0.lenL (s:=0) rfl
 refine wp_seq ?_
 refine zd st0 (sc rfl ((zg rfl yl))
  .nil)
  (kc 0 rfl (kc 2 rfl .nil)) (λ a1 w1 e1 st1=>?_)
 refine za (wp_seq (wp_seq ?_))
 refine zd st1 (sc rfl ((zg rfl zx))
  .nil)
  (kc 0 rfl (kc 2 rfl (kc 3 rfl .nil))) (λ a2 w2 e2 st2=>?_)
 refine za (wp_block ?_)
 refine je (ι:=Nat) (λ k a w=>St (Frm.of w0) 27 M [(0,dt l),(3,dt (k:Int))] a w/\k<=l.length/\Xw l k=true) (λ k=>l.length - k) 0 ?_ ?_
 ·
  exact⟨st2.pick (kc 0 rfl (kc 3 rfl .nil)),Nat.zero_le _,rfl⟩
 ·
  rintro k a3 w3 ⟨st3,hk,hp⟩
  refine wp_seq (wp_seq ?_)
  refine zd st3 (sc rfl ((ze rfl (zb rfl)))
   (sc rfl ((ze rfl (zb rfl)))
   (sc rfl ((zK rfl (by kernel_rfl) (zb rfl)))
   (sc rfl ((zO rfl (by decide) (zb rfl) (zb rfl)))
   .nil))))
   (kc 0 rfl (kc 3 rfl (kc 7 rfl .nil))) (λ a4 w4 e4 st4=>?_)
  refine za ?_
  refine zF (c:=7) st4 rfl (λ h1=>?_) (λ h1=>?_)
  ·
   obtain⟨x,hx⟩:=ZK h1
   have hlt:=ye hx
   refine wp_skip (za (wp_seq (wp_block (wp_seq ?_))))
   refine Zb zR [[],[],[0,1],[0,1,2],[0,1,2,3],[0,1,2,3,4],[0,1,2,3,4,5],[0,1,2,3,4,5,6],[0,1,2,3,4,5,6],[0,1,2,3,4,5,6,7,8],[0,1,2,3,4,5,6],[0,1,2,3,4,5,6],[0,1,2,3,4,5,6,10,11],[0,1,2,3,4,5,6,10,11,12],[0,1,2,3,4,5,6,7,8,9,10,11,12,13],[0,1,2,3,4,5,6,7,8,9,10,11,12,13,14],[0,1,2,3,4,5,6,7,8,9,10,11,12,13,14,15]] [[(0,none)],[(3,none)],[(10,some 0),(11,some 1)],[(12,some 2)],[(13,some 3)],[(14,some 4)],[(15,some 5)],[(0,none),(16,some 6)],[(3,none),(16,some 6)],[(17,some 7),(18,some 8),(16,some 6)],[(0,none),(16,some 6)],[(3,none),(16,some 6)],[(20,some 10),(21,some 11),(16,some 6)],[(22,some 12),(16,some 6)],[(19,some 9),(23,some 13),(16,some 6)],[(24,some 14),(16,some 6)],[(16,some 6),(25,some 15)]] (by decide +kernel) st4 (D:=[_,_,_,_,_,_,_,_,_,_,_,_,_,_,_,_,_])
    (.cons rfl (by decide) rfl (.plain rfl (ze rfl (zb rfl)))
    (.cons rfl (by decide) rfl (.plain rfl (ze rfl (zb rfl)))
    (.cons rfl (by decide) rfl (.plain rfl (yq rfl (by kernel_rfl) (zb rfl) (zb rfl) rfl (by assumption)))
    (.cons rfl (by decide) rfl (.plain rfl (zf rfl (by kernel_rfl) (zb rfl)))
    (.cons rfl (by decide) rfl (.plain rfl (zi (l:=[.tmp 13,.const (.int .i64 0),.const (.int .i64 2)]) rfl (by kernel_rfl) (.cons (zb rfl) (.cons zx (.cons zx .nil))) (wK _ _ _)))
    (.cons rfl (by decide) rfl (.plain rfl (yc rfl (zb rfl)))
    (.cons rfl (by decide) rfl (.plain rfl (ze rfl (zb rfl)))
    (.cons rfl (by decide) rfl (.guarded rfl rfl (by decide) rfl zt (λ hg=>ze rfl (zb rfl)))
    (.cons rfl (by decide) rfl (.guarded rfl rfl (by decide) rfl zt (λ hg=>ze rfl (zb rfl)))
    (.cons rfl (by decide) rfl (.guarded rfl rfl (by decide) rfl zt (λ hg=>Z5 rfl (by kernel_rfl) (zj hg rfl) (zj hg rfl) rfl (by omega)))
    (.cons rfl (by decide) rfl (.guarded rfl rfl (by decide) rfl zt (λ hg=>ze rfl (zb rfl)))
    (.cons rfl (by decide) rfl (.guarded rfl rfl (by decide) rfl zt (λ hg=>ze rfl (zb rfl)))
    (.cons rfl (by decide) rfl (.guarded rfl rfl (by decide) rfl zt (λ hg=>yq rfl (by kernel_rfl) (zj hg rfl) (zj hg rfl) rfl (by assumption)))
    (.cons rfl (by decide) rfl (.guarded rfl rfl (by decide) rfl zt (λ hg=>zf rfl (by kernel_rfl) (zj hg rfl)))
    (.cons rfl (by decide) rfl (.guarded rfl rfl (by decide) rfl zt (λ hg=>zi (l:=[.tmp 19,.tmp 23]) rfl (by kernel_rfl) (.cons (zj hg rfl) (.cons (zj hg rfl) .nil)) (spec_intAt_ok _ _)))
    (.cons rfl (by decide) rfl (.guarded rfl rfl (by decide) rfl zt (λ hg=>zO rfl (by decide) (zj hg rfl) zx))
    (.cons rfl (by decide) rfl (.plain rfl (xA rfl (zb rfl) (zb rfl)))
    .nil)))))))))))))))))
    (kc 0 rfl (kc 3 rfl (kc 7 rfl (kc 26 rfl .nil)))) (λ a5 w5 e5 st5=>?_)
   refine za ?_
   refine zF (c:=26) st5 rfl (λ h2=>?_) (λ h2=>?_)
   ·
    have ht:=h2
    refine wp_seq ?_
    refine zd st5 (sc rfl ((zg rfl yl))
     .nil)
     (kc 0 rfl (kc 2 rfl (kc 3 rfl (kc 7 rfl (kc 26 rfl .nil))))) (λ a6 w6 e6 st6=>?_)
    refine za ?_
    refine wp_ret (zy (zh (zh (zy (zh ?_)))))
    refine z6 rfl (λ _ h=>h) st6 (t:=2) rfl ?_
    exact(validPath_bad hx ht).symm
   ·
    have hf:=h2
    refine wp_skip (zk (za ?_))
    refine zd st5 (sc rfl ((ze rfl (zb rfl)))
     (sc rfl ((wu rfl (by decide) (zb rfl) zx (by simp only[arI];omega)))
     (sc rfl ((zg rfl (zb rfl)))
     .nil)))
     (kc 0 rfl (kc 3 rfl (kc 7 rfl (kc 26 rfl .nil)))) (λ a7 w7 e7 st7=>?_)
    refine za ⟨k+1,⟨st7.pick (kc 0 rfl (kc 3 rfl .nil)),by omega,pathTo_next hx hp hf⟩,by omega⟩
  ·
   have hend:=ZL h1
   refine wp_exit (zm (zm (zC ?_)))
   refine za (wp_seq ?_)
   refine zd st4 (sc rfl ((zg rfl yl))
    .nil)
    (kc 0 rfl (kc 2 rfl (kc 3 rfl (kc 7 rfl .nil)))) (λ a8 w8 e8 st8=>?_)
   refine za (wp_ret ?_)
   refine z6 rfl (λ _ h=>h) st8 (t:=2) rfl ?_
   exact(validPath_end hend hk hp).symm
theorem Jg(t:Tree)(ht:wY t):Fn Tryz.prog 73 [dt t] (dt (zM t)):=by
 refine ym (fn:=Tryz.f73) Tryz.func73 rfl (of_decide_eq_true rfl) (λ M w0 a0 hm st0=>?_)
 have hlen:=ht.1
 refine wp_seq ?_
 refine zd st0 (sc rfl ((yw rfl (zb rfl)))
  (sc rfl ((zg rfl yl))
  .nil))
  (kc 0 rfl (kc 1 rfl (kc 2 rfl .nil))) (λ a1 w1 e1 st1=>?_)
 refine za (wp_seq (wp_seq ?_))
 refine zd st1 (sc rfl ((zg rfl zx))
  .nil)
  (kc 0 rfl (kc 1 rfl (kc 2 rfl (kc 3 rfl .nil)))) (λ a2 w2 e2 st2=>?_)
 refine za (wp_block ?_)
 refine je (ι:=Nat) (λ k a w=>St (Frm.of w0) 33 M [(0,dt t),(1,dptr t),(3,dt (k:Int))] a w/\k<=t.files.length/\Yy t.files k=true) (λ k=>t.files.length - k) 0 ?_ ?_
 ·
  exact⟨st2.pick (kc 0 rfl (kc 1 rfl (kc 3 rfl .nil))),Nat.zero_le _,rfl⟩
 ·
  rintro k a3 w3 ⟨st3,hk,hp⟩
  refine wp_seq (wp_seq ?_)
  refine zd st3 (sc rfl ((ze rfl (zb rfl)))
   (sc rfl ((zn Tree.fld0 rfl (by kernel_rfl) (zb rfl)))
   (sc rfl ((zf rfl (by kernel_rfl) (zb rfl)))
   (sc rfl ((zK rfl (by kernel_rfl) (zb rfl)))
   (sc rfl ((zO rfl (by decide) (zb rfl) (zb rfl)))
   .nil)))))
   (kc 0 rfl (kc 1 rfl (kc 3 rfl (kc 8 rfl .nil)))) (λ a4 w4 e4 st4=>?_)
  refine za ?_
  refine zF (c:=8) st4 rfl (λ h1=>?_) (λ h1=>?_)
  ·
   obtain⟨x,hx⟩:=ZK h1
   have hlt:=ye hx
   refine wp_skip (za (wp_seq (wp_block (wp_seq ?_))))
   refine Zb zR [[],[0],[],[0,1,2],[0,1,2,3],[0,1,2,3,4],[0,1,2,3,4,5],[0,1,2,3,4,5,6],[0,1,2,3,4,5,6,7],[0,1,2,3,4,5,6,7],[0,1,2,3,4,5,6,7,9],[0,1,2,3,4,5,6,7],[0,1,2,3,4,5,6,7,9,10,11],[0,1,2,3,4,5,6,7,9,10,11,12],[0,1,2,3,4,5,6,7,8,9,10,11,12,13],[0,1,2,3,4,5,6,7],[0,1,2,3,4,5,6,7,8,9,10,11,12,13,14,15],[0,1,2,3,4,5,6,7,8,9,10,11,12,13,14,15,16]] [[(1,none)],[(11,some 0)],[(3,none)],[(12,some 1),(13,some 2)],[(14,some 3)],[(15,some 4)],[(16,some 5)],[(17,some 6)],[(1,none),(18,some 7)],[(1,none),(18,some 7)],[(20,some 9),(18,some 7)],[(3,none),(18,some 7)],[(21,some 10),(22,some 11),(18,some 7)],[(23,some 12),(18,some 7)],[(19,some 8),(24,some 13),(18,some 7)],[(3,none),(18,some 7)],[(25,some 14),(26,some 15),(18,some 7)],[(18,some 7),(27,some 16)]] (by decide +kernel) st4 (D:=[_,_,_,_,_,_,_,_,_,_,_,_,_,_,_,_,_,_])
    (.cons rfl (by decide) rfl (.plain rfl (zn Tree.fld0 rfl (by kernel_rfl) (zb rfl)))
    (.cons rfl (by decide) rfl (.plain rfl (zf rfl (by kernel_rfl) (zb rfl)))
    (.cons rfl (by decide) rfl (.plain rfl (ze rfl (zb rfl)))
    (.cons rfl (by decide) rfl (.plain rfl (yq rfl (by kernel_rfl) (zb rfl) (zb rfl) rfl (by assumption)))
    (.cons rfl (by decide) rfl (.plain rfl (zf rfl (by kernel_rfl) (zb rfl)))
    (.cons rfl (by decide) rfl (.plain rfl (zi (l:=[.tmp 15]) rfl (by kernel_rfl) (.cons (zb rfl) .nil) (Je _ (ht.2 _ (List.mem_of_getElem? hx)))))
    (.cons rfl (by decide) rfl (.plain rfl (yc rfl (zb rfl)))
    (.cons rfl (by decide) rfl (.plain rfl (ze rfl (zb rfl)))
    (.cons rfl (by decide) rfl (.guarded rfl rfl (by decide) rfl zt (λ hg=>zf rfl (by kernel_rfl) (zb rfl)))
    (.cons rfl (by decide) rfl (.guarded rfl rfl (by decide) rfl zt (λ hg=>zn Tree.fld0 rfl (by kernel_rfl) (zb rfl)))
    (.cons rfl (by decide) rfl (.guarded rfl rfl (by decide) rfl zt (λ hg=>zf rfl (by kernel_rfl) (zj hg rfl)))
    (.cons rfl (by decide) rfl (.guarded rfl rfl (by decide) rfl zt (λ hg=>ze rfl (zb rfl)))
    (.cons rfl (by decide) rfl (.guarded rfl rfl (by decide) rfl zt (λ hg=>yq rfl (by kernel_rfl) (zj hg rfl) (zj hg rfl) rfl (by assumption)))
    (.cons rfl (by decide) rfl (.guarded rfl rfl (by decide) rfl zt (λ hg=>zf rfl (by kernel_rfl) (zj hg rfl)))
    (.cons rfl (by decide) rfl (.guarded rfl rfl (by decide) rfl zt (λ hg=>zi (l:=[.tmp 19,.tmp 24]) rfl (by kernel_rfl) (.cons (zj hg rfl) (.cons (zj hg rfl) .nil)) (qR _ _)))
    (.cons rfl (by decide) rfl (.guarded rfl rfl (by decide) rfl zt (λ hg=>ze rfl (zb rfl)))
    (.cons rfl (by decide) rfl (.guarded rfl rfl (by decide) rfl zt (λ hg=>zO rfl (by decide) (zj hg rfl) (zj hg rfl)))
    (.cons rfl (by decide) rfl (.plain rfl (xA rfl (zb rfl) (zb rfl)))
    .nil))))))))))))))))))
    (kc 0 rfl (kc 1 rfl (kc 3 rfl (kc 8 rfl (kc 28 rfl .nil))))) (λ a5 w5 e5 st5=>?_)
   refine za ?_
   refine zF (c:=28) st5 rfl (λ h2=>?_) (λ h2=>?_)
   ·
    have hq:=h2
    refine wp_seq ?_
    refine zd st5 (sc rfl ((zg rfl yl))
     .nil)
     (kc 0 rfl (kc 1 rfl (kc 2 rfl (kc 3 rfl (kc 8 rfl (kc 28 rfl .nil)))))) (λ a6 w6 e6 st6=>?_)
    refine za ?_
    refine wp_ret (zy (zh (zh (zy (zh ?_)))))
    refine z6 rfl (λ _ h=>h) st6 (t:=2) rfl ?_
    exact(validTree_bad hx hq).symm
   ·
    have hf:=h2
    refine wp_skip (zk (za ?_))
    refine zd st5 (sc rfl ((ze rfl (zb rfl)))
     (sc rfl ((wu rfl (by decide) (zb rfl) zx (by simp only[arI];omega)))
     (sc rfl ((zg rfl (zb rfl)))
     .nil)))
     (kc 0 rfl (kc 1 rfl (kc 3 rfl (kc 8 rfl (kc 28 rfl .nil))))) (λ a7 w7 e7 st7=>?_)
    refine za ⟨k+1,⟨st7.pick (kc 0 rfl (kc 1 rfl (kc 3 rfl .nil))),by omega,treeTo_next hx hp hf⟩,by omega⟩
  ·
   have hend:=ZL h1
   refine wp_exit (zm (zm (zC ?_)))
   refine za (wp_seq ?_)
   refine zd st4 (sc rfl ((zn Tree.fld0 rfl (by kernel_rfl) (zb rfl)))
    (sc rfl ((zf rfl (by kernel_rfl) (zb rfl)))
    (sc rfl ((zK rfl (by kernel_rfl) (zb rfl)))
    (sc rfl ((zO rfl (by decide) (zb rfl) zx))
    (sc rfl ((zg rfl (zb rfl)))
    .nil)))))
    (kc 0 rfl (kc 1 rfl (kc 2 rfl (kc 3 rfl (kc 8 rfl .nil))))) (λ a8 w8 e8 st8=>?_)
   refine za (wp_ret ?_)
   refine z6 rfl (λ _ h=>h) st8 (t:=2) rfl ?_
   exact(validTree_end hend hk hp)
open Go.RowKit
set_option maxRecDepth 10000
theorem WB(xs:List Str)(s:Str)(hx:xs.length<=8796093022200):Wx Tryz.prog 97 9 (xs) [dt s] (xd xs s):=by
 refine Qp (fn:=Tryz.f97) Tryz.func97 rfl (of_decide_eq_true rfl) (λ M g w0 a0 htip hm st0=>?_)
 refine wp_seq ?_
 refine zd st0 (sc rfl ((zg rfl (wO (α:=Str))))
  .nil)
  (kc 0 rfl (kc 1 rfl (kc 4 rfl .nil))) (λ a1 w1 e1 st1=>?_)
 refine za (wp_seq (wp_seq ?_))
 refine zd st1 (sc rfl ((ze rfl (zb rfl)))
  (sc rfl ((ze rfl (zb rfl)))
  (sc rfl ((YK (M0:=M) (l:=[.tmp 7,.tmp 8]) (λ _ h=>.inl h) rfl (by kernel_rfl) (.cons (opd2_tip (λ _ h=>.inl h) htip (zb rfl)) (.cons (WX (λ _ h=>.inl h) (zb rfl)) .nil)) (Qd _ _) YI))
  .nil)))
  (kc 0 rfl (kc 1 rfl (kc 4 rfl (kc 9 rfl .nil)))) (λ a2 w2 e2 st2=>?_)
 refine za ?_
 refine zF (c:=9) st2 rfl (λ h1=>?_) (λ h1=>?_)
 ·
  have hin:=h1
  refine wp_seq ?_
  refine zd st2 (sc rfl ((ze rfl (zb rfl)))
   (sc rfl ((zg rfl (zb rfl)))
   .nil))
   (kc 0 rfl (kc 1 rfl (kc 4 rfl (kc 9 rfl .nil)))) (λ a3 w3 e3 st3=>?_)
  refine za ?_
  refine wp_ret (zh ?_)
  refine ret_take rfl rfl htip (λ _ h=>h) st3 (t:=4) rfl ?_
  rw[xd,if_pos hin]
 ·
  have hin:=h1
  refine wp_skip (za (wp_seq ?_))
  refine zd st2 (sc rfl ((ze rfl (zb rfl)))
   (sc rfl ((WW rfl (by kernel_rfl) (zb rfl)))
   (sc rfl ((zg rfl (zb rfl)))
   .nil)))
   (kc 0 rfl (kc 1 rfl (kc 4 rfl (kc 5 rfl (kc 9 rfl .nil))))) (λ a4 w4 e4 st4=>?_)
  refine za (wp_seq (wp_block ?_))
  refine je (ι:=Nat) (λ k a w=>St (Frm.take w0 g) 39 (insO g M) [(0,dtip g 9 (xs)),(1,dt s),(5,dt (k:Int))] a w/\k<=xs.length/\ww xs s k=ww xs s xs.length) (λ k=>k) xs.length ?_ ?_
  ·
   exact⟨st4.pick (kc 0 rfl (kc 1 rfl (kc 5 rfl .nil))),Nat.le_refl _,rfl⟩
  ·
   rintro k a5 w5 ⟨st5,hk,hp⟩
   obtain⟨y,hy⟩:=insGet hk
   refine wp_seq (wp_seq ?_)
   refine zd st5 (sc rfl ((ze rfl (zb rfl)))
    (sc rfl ((zO rfl (by decide) (zb rfl) zx))
    (sc rfl ((ze rfl (zb rfl)))
    (.cons rfl (by decide) (.guarded rfl rfl (by decide) rfl zt (λ hg=>ze rfl (zb rfl)))
    (.cons rfl (by decide) (.guarded rfl rfl (by decide) rfl zt (λ hg=>ze rfl (zb rfl)))
    (.cons rfl (by decide) (.guarded rfl rfl (by decide) rfl zt (λ hg=>wu rfl (by decide) (zj hg rfl) zx (by simp only[arI];omega)))
    (.cons rfl (by decide) (.guarded rfl rfl (by decide) rfl zt (λ hg=>WY rfl (by kernel_rfl) (zj hg rfl) (zj hg rfl) (k:=k - 1) (by have:=gtz' hg;simp only[arI];omega) (hy (gtz' hg))))
    (.cons rfl (by decide) (.guarded rfl rfl (by decide) rfl zt (λ hg=>zH rfl (by kernel_rfl) (zj hg rfl)))
    (.cons rfl (by decide) (.guarded rfl rfl (by decide) rfl zt (λ hg=>ze rfl (zb rfl)))
    (.cons rfl (by decide) (.guarded rfl rfl (by decide) rfl zt (λ hg=>op_cmpS rfl (by decide) (zj hg rfl) (zj hg rfl)))
    (sc rfl ((zQ rfl (zb rfl) (zb rfl)))
    .nil)))))))))))
    (kc 0 rfl (kc 1 rfl (kc 5 rfl (kc 23 rfl .nil)))) (λ a6 w6 e6 st6=>?_)
   refine za ?_
   refine zF (c:=23) st6 rfl (λ h2=>?_) (λ h2=>?_)
   ·
    have htk:=h2
    refine wp_skip (za (wp_block ?_))
    refine zd st6 (sc rfl ((ze rfl (zb rfl)))
     (sc rfl ((wu rfl (by decide) (zb rfl) zx (by simp only[arI];omega)))
     (sc rfl ((zg rfl (zb rfl)))
     .nil)))
     (kc 0 rfl (kc 1 rfl (kc 5 rfl (kc 23 rfl .nil)))) (λ a7 w7 e7 st7=>?_)
    refine zk ?_
    refine za ⟨k - 1,⟨?_,by omega,(insPos_down hy htk).trans hp⟩,by have:=gtz htk;omega⟩
    rw[show((k - 1:Nat):Int)=arI .sub k 1 from by have:=gtz htk;simp only[arI];omega]
    exact st7.pick (kc 0 rfl (kc 1 rfl (kc 5 rfl .nil)))
   ·
    have hend:=h2
    refine wp_exit (zm (zm (zC ?_)))
    refine za (wp_seq (wp_region_list ?_))
    refine jT 4 st6.ins0 (sc rfl ((wQ (α:=Str) (e:=9) rfl (by kernel_rfl))) (sc rfl ((ze rfl (zb rfl))) (sc rfl ((ze rfl (zb rfl))) (sc rfl ((op_sliceLT rfl (by kernel_rfl) (zb rfl) (zb rfl) rfl (by assumption))) .nil)))) (kc 0 rfl (kc 1 rfl (kc 5 rfl (kc 26 rfl (kc 29 rfl .nil))))) (λ a50 w50 e50 st50=>?_)
    refine qK (bytes:=16) st50 rfl rfl rfl (by decide) (by kernel_rfl) rfl rfl row_row (by simp;omega) (by simp;omega) (.cons (s:=0) rfl off_none (.cons (s:=1) rfl (λ _ _ h=>h) (.cons (s:=5) rfl (λ _ _ h=>h) .nil))) TipOK.none_ (λ g51 a51 w51 hg51 st51=>?_)
    refine jT 1 st51 (sc rfl ((zg rfl (zb rfl))) .nil) (kc 0 rfl (kc 1 rfl (kc 5 rfl (kc 6 rfl .nil)))) (λ a52 w52 e52 st52=>?_)
    refine wpList_nil (za (wp_seq ?_))
    have st53:=st52.congr (swap_tip (g:=g) (g2:=g51) (M:=M))
    refine wp_region_list ?_
    refine jT 5 st53 (sc rfl ((ze rfl (zb rfl))) (sc rfl ((ze rfl (zb rfl))) (sc rfl ((op_sliceHT rfl (by kernel_rfl) (zb rfl) (zb rfl) rfl (by assumption))) (sc rfl ((ze rfl (zb rfl))) (sc rfl ((ya (opds:=[.tmp 34]) rfl (by kernel_rfl) (by kernel_rfl) rfl rfl (by decide) (.cons (zb rfl) .nil))) .nil))))) (kc 1 rfl (kc 6 rfl (kc 33 rfl (kc 35 rfl .nil)))) (λ a54 w54 e54 st54=>?_)
    refine qK (bytes:=16) st54 rfl rfl rfl (by decide) (by kernel_rfl) rfl rfl wi (by simp;omega) (by simp;omega) (.cons (s:=1) rfl (λ _ _ h=>h) (.cons (s:=6) rfl (own_apart hg51) .nil)) (htip.apart hg51) (λ g55 a55 w55 hg55 st55=>?_)
    refine jT 1 st55 (sc rfl ((ze rfl (zb rfl))) .nil) (kc 36 rfl (kc 37 rfl .nil)) (λ a56 w56 e56 st56=>?_)
    refine qK (bytes:=16) st56 rfl rfl rfl (by decide) (by kernel_rfl) rfl rfl row_tip (by simp;omega) (by simp;omega) .nil hg55 (λ g57 a57 w57 hg57 st57=>?_)
    refine jT 1 st57 (sc rfl ((zg rfl (zb rfl))) .nil) (kc 4 rfl .nil) (λ a58 w58 e58 st58=>?_)
    refine wpList_nil (za (wp_ret ?_))
    refine ret_take rfl rfl hg57 (λ _ h=>h.imp .inl id) st58 (t:=4) rfl ?_
    rw[xd,if_neg (by rw[hin];decide),← hp,insPos_stop hy hend]
    simp
open Go.RowKit
set_option maxRecDepth 10000
theorem Qw(t:Tree)(roots:List Int)(p s:Str)(hr:roots.length<=1099511627776)(hp:p.l.length+s.l.length<=1152921504606846975):Fn Tryz.prog 212 [dt t,dt roots,dt p,dt s] (dt (jV t.files roots p s)):=by
 refine ym (fn:=Tryz.f212) Tryz.func212 rfl (of_decide_eq_true rfl) (λ M w0 a0 hm st0=>?_)
 refine wp_seq (wp_region_list ?_)
 refine jT 1 st0 (sc rfl ((yw rfl (zb rfl)))
  .nil)
  (kc 0 rfl (kc 1 rfl (kc 2 rfl (kc 3 rfl (kc 4 rfl .nil))))) (λ a1 w1 e1 st1=>?_)
 refine XZ (n:=3) st1 rfl rfl rfl (by decide) (by kernel_rfl) (kc 0 rfl (kc 1 rfl (kc 2 rfl (kc 3 rfl (kc 4 rfl .nil))))) (λ b2 a2 w2 hb2 hn2 e2 st2=>?_)
 refine wpList_nil (za (wp_seq ?_))
 refine zd st2 (sc rfl ((wQ (α:=Int) (e:=3) rfl (by kernel_rfl)))
  (sc rfl ((zg rfl (zb rfl)))
  .nil))
  (kc 0 rfl (kc 1 rfl (kc 2 rfl (kc 3 rfl (kc 4 rfl (kc 8 rfl (kc 9 rfl .nil))))))) (λ a3 w3 e3 st3=>?_)
 refine za (wp_seq (wp_seq ?_))
 refine zd st3 (sc rfl ((zg rfl zx))
  .nil)
  (kc 0 rfl (kc 1 rfl (kc 2 rfl (kc 3 rfl (kc 4 rfl (kc 8 rfl (kc 9 rfl (kc 10 rfl .nil)))))))) (λ a4 w4 e4 st4=>?_)
 refine za (wp_block ?_)
 refine je (ι:=Nat×List Int) (λ i a w=>∃ g,TipOK (Frm.of w0) (insO (some b2) M) g/\St (Frm.of w0) 80 (insO g (insO (some b2) M)) [(0,dt t),(1,dt roots),(2,dt p),(3,dt s),(4,dptr t),(8,draw (some b2) 3),(9,dtip g 3 i.2),(10,dt (i.1:Int))] a w/\i.1<=roots.length/\i.2.length<=i.1/\yy t.files p s i.2 (roots.drop i.1)=yy t.files p s [] roots) (λ i=>roots.length - i.1) (0,[]) ?_ ?_
 ·
  exact⟨none,TipOK.none_,st4.ins0.pick (kc 0 rfl (kc 1 rfl (kc 2 rfl (kc 3 rfl (kc 4 rfl (kc 8 rfl (kc 9 rfl (kc 10 rfl .nil)))))))),Nat.zero_le _,Nat.zero_le _,rfl⟩
 ·
  rintro ⟨k,acc⟩ a5 w5 ⟨g5,hg5,st5,hk,ha,hrun⟩
  dsimp only at*
  refine wp_seq (wp_seq ?_)
  refine zd st5 (sc rfl ((ze rfl (zb rfl)))
   (sc rfl ((ze rfl (zb rfl)))
   (sc rfl ((zK rfl (by kernel_rfl) (zb rfl)))
   (sc rfl ((zO rfl (by decide) (zb rfl) (zb rfl)))
   .nil))))
   (kc 0 rfl (kc 1 rfl (kc 2 rfl (kc 3 rfl (kc 4 rfl (kc 8 rfl (kc 9 rfl (kc 10 rfl (kc 18 rfl .nil))))))))) (λ a6 w6 e6 st6=>?_)
  refine za ?_
  refine zF (c:=18) st6 rfl (λ h1=>?_) (λ h1=>?_)
  ·
   obtain⟨x,hx⟩:=ZK h1
   have hlt:=ye hx
   refine wp_skip (za (wp_seq (wp_block (wp_seq ?_))))
   refine Zb zR [[],[],[],[1,2],[1,2,3],[],[],[5,6],[0,1,2,3,4,5,6,7],[0,1,2,3,4,5,6,7,8]] [[(4,none)],[(1,none)],[(10,none)],[(22,some 1),(23,some 2)],[(24,some 3)],[(2,none)],[(3,none)],[(26,some 5),(27,some 6)],[(21,some 0),(25,some 4),(28,some 7)],[(29,some 8)]] (by decide +kernel) st6 (D:=[_,_,_,_,_,_,_,_,_,_])
    (.cons rfl (by decide) rfl (.plain rfl (zf rfl (by kernel_rfl) (zb rfl)))
    (.cons rfl (by decide) rfl (.plain rfl (ze rfl (zb rfl)))
    (.cons rfl (by decide) rfl (.plain rfl (ze rfl (zb rfl)))
    (.cons rfl (by decide) rfl (.plain rfl (yq rfl (by kernel_rfl) (zb rfl) (zb rfl) rfl (by assumption)))
    (.cons rfl (by decide) rfl (.plain rfl (zf rfl (by kernel_rfl) (zb rfl)))
    (.cons rfl (by decide) rfl (.plain rfl (ze rfl (zb rfl)))
    (.cons rfl (by decide) rfl (.plain rfl (ze rfl (zb rfl)))
    (.cons rfl (by decide) rfl (.plain rfl (zi (l:=[.tmp 26,.tmp 27]) rfl (by kernel_rfl) (.cons (zb rfl) (.cons (zb rfl) .nil)) (qt _ _ (by omega))))
    (.cons rfl (by decide) rfl (.plain rfl (zi (l:=[.tmp 21,.tmp 25,.tmp 28]) rfl (by kernel_rfl) (.cons (zb rfl) (.cons (zb rfl) (.cons (zb rfl) .nil))) (Qv _ _ _ (child_le hp))))
    (.cons rfl (by decide) rfl (.plain rfl (zg rfl (zb rfl)))
    .nil))))))))))
    (kc 0 rfl (kc 1 rfl (kc 2 rfl (kc 3 rfl (kc 4 rfl (kc 8 rfl (kc 9 rfl (kc 10 rfl (kc 11 rfl (kc 18 rfl .nil)))))))))) (λ a7 w7 e7 st7=>?_)
   refine za (wp_seq ?_)
   refine Zb zR [[],[],[],[1,2],[1,2,3],[],[],[5,6],[1,2,3,4,5,6,7],[0,1,2,3,4,5,6,7,8],[0,1,2,3,4,5,6,7,8,9]] [[(4,none)],[(1,none)],[(10,none)],[(31,some 1),(32,some 2)],[(33,some 3)],[(2,none)],[(3,none)],[(35,some 5),(36,some 6)],[(34,some 4),(37,some 7)],[(30,some 0),(38,some 8)],[(39,some 9)]] (by decide +kernel) st7 (D:=[_,_,_,_,_,_,_,_,_,_,_])
    (.cons rfl (by decide) rfl (.plain rfl (zf rfl (by kernel_rfl) (zb rfl)))
    (.cons rfl (by decide) rfl (.plain rfl (ze rfl (zb rfl)))
    (.cons rfl (by decide) rfl (.plain rfl (ze rfl (zb rfl)))
    (.cons rfl (by decide) rfl (.plain rfl (yq rfl (by kernel_rfl) (zb rfl) (zb rfl) rfl (by assumption)))
    (.cons rfl (by decide) rfl (.plain rfl (zf rfl (by kernel_rfl) (zb rfl)))
    (.cons rfl (by decide) rfl (.plain rfl (ze rfl (zb rfl)))
    (.cons rfl (by decide) rfl (.plain rfl (ze rfl (zb rfl)))
    (.cons rfl (by decide) rfl (.plain rfl (zi (l:=[.tmp 35,.tmp 36]) rfl (by kernel_rfl) (.cons (zb rfl) (.cons (zb rfl) .nil)) (qt _ _ (by omega))))
    (.cons rfl (by decide) rfl (.plain rfl (yj (parts:=[(0,.tmp 34),(1,.tmp 37),(3,.const (.bool true))]) (ns:=[1,1,1,1,1,1]) (zs:=[[.int .i64 0],[.string ⟨⟨[]⟩⟩],[.string ⟨⟨[]⟩⟩],[.bool false],[.int .i64 0],[.slice none 0 0]]) rfl rfl (by kernel_rfl) (by kernel_rfl) (λ w a hl=>by
    intro p hp
    simp only[List.mem_cons,List.not_mem_nil,or_false] at hp
    rcases hp with rfl | rfl | rfl
    ·
     exact⟨by decide,Rep.len (α:=Int) (OpdR.cells (zb rfl) hl)⟩
    ·
     exact⟨by decide,Rep.len (α:=Str) (OpdR.cells (zb rfl) hl)⟩
    ·
     exact⟨by decide,rfl⟩) (λ w a hl=>File.parts (x:=⟨x,child p s,⟨[]⟩,true,0,[]⟩) (OpdR.cells (zb rfl) hl) (OpdR.cells (zb rfl) hl) yS (OpdR.cells yl hl) ⟨rfl,trivial⟩ Zc)))
    (.cons rfl (by decide) rfl (.plain rfl (zi (l:=[.tmp 30,.tmp 38]) rfl (by kernel_rfl) (.cons (zb rfl) (.cons (zb rfl) .nil)) (qR _ _)))
    (.cons rfl (by decide) rfl (.plain rfl (zg rfl (zb rfl)))
    .nil)))))))))))
    (kc 0 rfl (kc 1 rfl (kc 2 rfl (kc 3 rfl (kc 4 rfl (kc 8 rfl (kc 9 rfl (kc 10 rfl (kc 11 rfl (kc 12 rfl (kc 18 rfl .nil))))))))))) (λ a8 w8 e8 st8=>?_)
   refine za (wp_seq (wp_seq ?_))
   refine zd st8 (sc rfl ((ze rfl (zb rfl)))
    (sc rfl ((ze rfl (zb rfl)))
    (.cons rfl (by decide) (.guarded rfl rfl (by decide) rfl zt (λ hg=>ze rfl (zb rfl)))
    (.cons rfl (by decide) (.guarded rfl rfl (by decide) rfl zt (λ hg=>zO rfl (by decide) (zj hg rfl) zx))
    (sc rfl ((zQ rfl (zb rfl) (zb rfl)))
    .nil)))))
    (kc 0 rfl (kc 1 rfl (kc 2 rfl (kc 3 rfl (kc 4 rfl (kc 8 rfl (kc 9 rfl (kc 10 rfl (kc 11 rfl (kc 12 rfl (kc 18 rfl (kc 44 rfl .nil)))))))))))) (λ a9 w9 e9 st9=>?_)
   refine za ?_
   refine zF (c:=44) st9 rfl (λ h2=>?_) (λ h2=>?_)
   ·
    have q1:=h2
    refine wp_seq (wp_region_list ?_)
    refine jT 7 st9 (sc rfl ((ze rfl (zb rfl)))
     (sc rfl ((ze rfl (zb rfl)))
     (sc rfl ((ze rfl (zb rfl)))
     (sc rfl ((yq rfl (by kernel_rfl) (zb rfl) (zb rfl) rfl (by assumption)))
     (sc rfl ((zf rfl (by kernel_rfl) (zb rfl)))
     (sc rfl ((ya (opds:=[.tmp 49]) rfl (by kernel_rfl) (by kernel_rfl) rfl rfl (by decide) (.cons (zb rfl) .nil)))
     (sc rfl ((yj (parts:=[(0,.const (.int .i64 2)),(1,.tmp 45),(2,.tmp 50)]) (ns:=[1,1,1]) (zs:=[[.int .i64 0],[.int .i64 0],[.slice none 0 0]]) rfl rfl (by kernel_rfl) (by kernel_rfl) (λ w a hl=>by
    intro p hp
    simp only[List.mem_cons,List.not_mem_nil,or_false] at hp
    rcases hp with rfl | rfl | rfl
    ·
     exact⟨by decide,rfl⟩
    ·
     exact⟨by decide,Rep.len (α:=Int) (OpdR.cells (zb rfl) hl)⟩
    ·
     exact⟨by decide,Rep.len (α:=(List Int)) (OpdR.cells (zb rfl) hl)⟩) (λ w a hl=>Spec.parts (x:=⟨2,yD t.files ⟨x,child p s,⟨[]⟩,true,0,[]⟩,[x]⟩) (OpdR.cells zx hl) (OpdR.cells (zb rfl) hl) (OpdR.cells (zb rfl) hl))))
     .nil)))))))
     (kc 0 rfl (kc 1 rfl (kc 2 rfl (kc 3 rfl (kc 4 rfl (kc 8 rfl (kc 9 rfl (kc 10 rfl (kc 11 rfl (kc 12 rfl (kc 18 rfl (kc 44 rfl (kc 51 rfl .nil))))))))))))) (λ a10 w10 e10 st10=>?_)
    refine wR st10 rfl rfl rfl (by kernel_rfl) rfl hb2 (.inl (.inr rfl)) rfl (zb rfl) (.cons (s:=0) rfl (λ _ _ h=>h) (.cons (s:=1) rfl (λ _ _ h=>h) (.cons (s:=2) rfl (λ _ _ h=>h) (.cons (s:=3) rfl (λ _ _ h=>h) (.cons (s:=4) rfl (λ _ _ h=>h) (.cons (s:=9) rfl (tip_off hg5 (.inr rfl)) (.cons (s:=10) rfl (λ _ _ h=>h) (.cons (s:=11) rfl (λ _ _ h=>h) (.cons (s:=12) rfl (λ _ _ h=>h) (.cons (s:=18) rfl (λ _ _ h=>h) (.cons (s:=44) rfl (λ _ _ h=>h) .nil))))))))))) (λ w11 st11=>?_)
    refine wpList_nil (za ?_)
    refine wp_ret (zh (zy (zh (zh (zy (zh ?_))))))
    refine ret_box rfl (by kernel_rfl) st11 (t:=8) rfl (λ _ h=>(.inl (.inl h))) ?_
    rw[jV,← hrun,X1 hx,yy,if_pos q1]
   ·
    have q1:=h2
    refine wp_skip (za (wp_seq ?_))
    refine Zb zR [[],[],[],[1,2],[1,2,3],[],[],[1,2,3,4,5,6],[0,1,2,3,4,5,6,7],[0,1,2,3,4,5,6,7,8]] [[(4,none)],[(1,none)],[(10,none)],[(53,some 1),(54,some 2)],[(55,some 3)],[(2,none)],[(3,none)],[(56,some 4),(57,some 5),(58,some 6)],[(52,some 0),(59,some 7)],[(60,some 8)]] (by decide +kernel) st9 (D:=[_,_,_,_,_,_,_,_,_,_])
     (.cons rfl (by decide) rfl (.plain rfl (zf rfl (by kernel_rfl) (zb rfl)))
     (.cons rfl (by decide) rfl (.plain rfl (ze rfl (zb rfl)))
     (.cons rfl (by decide) rfl (.plain rfl (ze rfl (zb rfl)))
     (.cons rfl (by decide) rfl (.plain rfl (yq rfl (by kernel_rfl) (zb rfl) (zb rfl) rfl (by assumption)))
     (.cons rfl (by decide) rfl (.plain rfl (zf rfl (by kernel_rfl) (zb rfl)))
     (.cons rfl (by decide) rfl (.plain rfl (ze rfl (zb rfl)))
     (.cons rfl (by decide) rfl (.plain rfl (ze rfl (zb rfl)))
     (.cons rfl (by decide) rfl (.plain rfl (yj (parts:=[(0,.tmp 56),(1,.tmp 57),(2,.tmp 58)]) (ns:=[1,1,1,1,1,1]) (zs:=[[.int .i64 0],[.string ⟨⟨[]⟩⟩],[.string ⟨⟨[]⟩⟩],[.bool false],[.int .i64 0],[.slice none 0 0]]) rfl rfl (by kernel_rfl) (by kernel_rfl) (λ w a hl=>by
    intro p hp
    simp only[List.mem_cons,List.not_mem_nil,or_false] at hp
    rcases hp with rfl | rfl | rfl
    ·
     exact⟨by decide,Rep.len (α:=Int) (OpdR.cells (zb rfl) hl)⟩
    ·
     exact⟨by decide,Rep.len (α:=Str) (OpdR.cells (zb rfl) hl)⟩
    ·
     exact⟨by decide,Rep.len (α:=Str) (OpdR.cells (zb rfl) hl)⟩) (λ w a hl=>File.parts (x:=⟨x,p,s,false,0,[]⟩) (OpdR.cells (zb rfl) hl) (OpdR.cells (zb rfl) hl) (OpdR.cells (zb rfl) hl) ⟨rfl,trivial⟩ ⟨rfl,trivial⟩ Zc)))
     (.cons rfl (by decide) rfl (.plain rfl (zi (l:=[.tmp 52,.tmp 59]) rfl (by kernel_rfl) (.cons (zb rfl) (.cons (zb rfl) .nil)) (qR _ _)))
     (.cons rfl (by decide) rfl (.plain rfl (zg rfl (zb rfl)))
     .nil))))))))))
     (kc 0 rfl (kc 1 rfl (kc 2 rfl (kc 3 rfl (kc 4 rfl (kc 8 rfl (kc 9 rfl (kc 10 rfl (kc 11 rfl (kc 12 rfl (kc 13 rfl (kc 18 rfl (kc 44 rfl .nil))))))))))))) (λ a12 w12 e12 st12=>?_)
    refine za (wp_seq (wp_seq ?_))
    refine zd st12 (sc rfl ((ze rfl (zb rfl)))
     (sc rfl ((zO rfl (by decide) (zb rfl) zx))
     .nil))
     (kc 0 rfl (kc 1 rfl (kc 2 rfl (kc 3 rfl (kc 4 rfl (kc 8 rfl (kc 9 rfl (kc 10 rfl (kc 11 rfl (kc 12 rfl (kc 13 rfl (kc 18 rfl (kc 44 rfl (kc 62 rfl .nil)))))))))))))) (λ a13 w13 e13 st13=>?_)
    refine za ?_
    refine zF (c:=62) st13 rfl (λ h3=>?_) (λ h3=>?_)
    ·
     have q2:=h3
     refine wp_seq (wp_region_list ?_)
     refine jT 3 st13 (sc rfl ((ze rfl (zb rfl)))
      (sc rfl ((ya (opds:=[]) (α:=Int) rfl (by kernel_rfl) (by kernel_rfl) rfl rfl (by decide) .nil))
      (sc rfl ((yj (parts:=[(0,.const (.int .i64 1)),(1,.tmp 63),(2,.tmp 64)]) (ns:=[1,1,1]) (zs:=[[.int .i64 0],[.int .i64 0],[.slice none 0 0]]) rfl rfl (by kernel_rfl) (by kernel_rfl) (λ w a hl=>by
    intro p hp
    simp only[List.mem_cons,List.not_mem_nil,or_false] at hp
    rcases hp with rfl | rfl | rfl
    ·
     exact⟨by decide,rfl⟩
    ·
     exact⟨by decide,Rep.len (α:=Int) (OpdR.cells (zb rfl) hl)⟩
    ·
     exact⟨by decide,Rep.len (α:=(List Int)) (OpdR.cells (zb rfl) hl)⟩) (λ w a hl=>Spec.parts (x:=⟨1,yD t.files ⟨x,p,s,false,0,[]⟩,[]⟩) (OpdR.cells zx hl) (OpdR.cells (zb rfl) hl) (OpdR.cells (zb rfl) hl))))
      .nil)))
      (kc 0 rfl (kc 1 rfl (kc 2 rfl (kc 3 rfl (kc 4 rfl (kc 8 rfl (kc 9 rfl (kc 10 rfl (kc 11 rfl (kc 12 rfl (kc 13 rfl (kc 18 rfl (kc 44 rfl (kc 62 rfl (kc 65 rfl .nil))))))))))))))) (λ a14 w14 e14 st14=>?_)
     refine wR st14 rfl rfl rfl (by kernel_rfl) rfl hb2 (.inl (.inr rfl)) rfl (zb rfl) (.cons (s:=0) rfl (λ _ _ h=>h) (.cons (s:=1) rfl (λ _ _ h=>h) (.cons (s:=2) rfl (λ _ _ h=>h) (.cons (s:=3) rfl (λ _ _ h=>h) (.cons (s:=4) rfl (λ _ _ h=>h) (.cons (s:=9) rfl (tip_off hg5 (.inr rfl)) (.cons (s:=10) rfl (λ _ _ h=>h) (.cons (s:=11) rfl (λ _ _ h=>h) (.cons (s:=12) rfl (λ _ _ h=>h) (.cons (s:=13) rfl (λ _ _ h=>h) (.cons (s:=18) rfl (λ _ _ h=>h) (.cons (s:=44) rfl (λ _ _ h=>h) (.cons (s:=62) rfl (λ _ _ h=>h) .nil))))))))))))) (λ w15 st15=>?_)
     refine wpList_nil (za ?_)
     refine wp_ret (zh (zy (zh (zh (zy (zh ?_))))))
     refine ret_box rfl (by kernel_rfl) st15 (t:=8) rfl (λ _ h=>(.inl (.inl h))) ?_
     rw[jV,← hrun,X1 hx,yy,if_neg (by rw[q1];decide),if_pos q2]
    ·
     have q2:=h3
     refine wp_skip (za (wp_seq ?_))
     refine zd st13 (sc rfl ((ze rfl (zb rfl)))
      .nil)
      (kc 0 rfl (kc 1 rfl (kc 2 rfl (kc 3 rfl (kc 4 rfl (kc 8 rfl (kc 9 rfl (kc 10 rfl (kc 11 rfl (kc 12 rfl (kc 13 rfl (kc 18 rfl (kc 44 rfl (kc 62 rfl (kc 66 rfl .nil))))))))))))))) (λ a16 w16 e16 st16=>?_)
     refine za ?_
     refine zF (c:=66) st16 rfl (λ h4=>?_) (λ h4=>?_)
     ·
      have q3:=h4
      refine wp_region_list ?_
      refine jT 6 st16 (sc rfl ((ze rfl (zb rfl)))
       (sc rfl ((ze rfl (zb rfl)))
       (sc rfl ((ze rfl (zb rfl)))
       (sc rfl ((yq rfl (by kernel_rfl) (zb rfl) (zb rfl) rfl (by assumption)))
       (sc rfl ((zf rfl (by kernel_rfl) (zb rfl)))
       (sc rfl ((ya (opds:=[.tmp 71]) rfl (by kernel_rfl) (by kernel_rfl) rfl rfl (by decide) (.cons (zb rfl) .nil)))
       .nil))))))
       (kc 0 rfl (kc 1 rfl (kc 2 rfl (kc 3 rfl (kc 4 rfl (kc 8 rfl (kc 9 rfl (kc 10 rfl (kc 11 rfl (kc 12 rfl (kc 13 rfl (kc 18 rfl (kc 44 rfl (kc 62 rfl (kc 66 rfl (kc 67 rfl (kc 72 rfl .nil))))))))))))))))) (λ a17 w17 e17 st17=>?_)
      refine qK (bytes:=8) (st17) rfl rfl rfl (by decide) (by kernel_rfl) rfl rfl wi (len1 (by omega)) (len1b (by omega)) (.cons (s:=0) rfl (λ _ _ h=>h) (.cons (s:=1) rfl (λ _ _ h=>h) (.cons (s:=2) rfl (λ _ _ h=>h) (.cons (s:=3) rfl (λ _ _ h=>h) (.cons (s:=4) rfl (λ _ _ h=>h) (.cons (s:=8) rfl (draw_off hg5 (.inr rfl)) (.cons (s:=10) rfl (λ _ _ h=>h) (.cons (s:=11) rfl (λ _ _ h=>h) (.cons (s:=12) rfl (λ _ _ h=>h) (.cons (s:=13) rfl (λ _ _ h=>h) (.cons (s:=18) rfl (λ _ _ h=>h) (.cons (s:=44) rfl (λ _ _ h=>h) (.cons (s:=62) rfl (λ _ _ h=>h) (.cons (s:=66) rfl (λ _ _ h=>h) .nil)))))))))))))) (hg5) (λ g18 a18 w18 hg18 st18=>?_)
      refine jT 1 st18 (sc rfl ((zg rfl (zb rfl)))
       .nil)
       (kc 0 rfl (kc 1 rfl (kc 2 rfl (kc 3 rfl (kc 4 rfl (kc 8 rfl (kc 9 rfl (kc 10 rfl (kc 11 rfl (kc 12 rfl (kc 13 rfl (kc 18 rfl (kc 44 rfl (kc 62 rfl (kc 66 rfl .nil))))))))))))))) (λ a19 w19 e19 st19=>?_)
      refine wpList_nil (zk (za ?_))
      refine zd st19 (sc rfl ((ze rfl (zb rfl)))
       (sc rfl ((wu rfl (by decide) (zb rfl) zx (by simp only[arI];omega)))
       (sc rfl ((zg rfl (zb rfl)))
       .nil)))
       (kc 0 rfl (kc 1 rfl (kc 2 rfl (kc 3 rfl (kc 4 rfl (kc 8 rfl (kc 9 rfl (kc 10 rfl (kc 11 rfl (kc 12 rfl (kc 13 rfl (kc 18 rfl (kc 44 rfl (kc 62 rfl (kc 66 rfl .nil))))))))))))))) (λ a20 w20 e20 st20=>?_)
      refine za ⟨(k+1,acc++[x]),⟨g18,hg18,st20.pick (kc 0 rfl (kc 1 rfl (kc 2 rfl (kc 3 rfl (kc 4 rfl (kc 8 rfl (kc 9 rfl (kc 10 rfl .nil)))))))),by dsimp only;omega,by dsimp only;rw[List.length_append];exact Nat.succ_le_succ ha,by dsimp only;rw[← hrun,X1 hx];exact(by rw[yy,if_neg (by rw[q1];decide),if_neg (by rw[q2];decide),if_pos q3])⟩,by dsimp only;omega⟩
     ·
      have q3:=h4
      refine wp_skip (zk (za ?_))
      refine zd st16 (sc rfl ((ze rfl (zb rfl)))
       (sc rfl ((wu rfl (by decide) (zb rfl) zx (by simp only[arI];omega)))
       (sc rfl ((zg rfl (zb rfl)))
       .nil)))
       (kc 0 rfl (kc 1 rfl (kc 2 rfl (kc 3 rfl (kc 4 rfl (kc 8 rfl (kc 9 rfl (kc 10 rfl (kc 11 rfl (kc 12 rfl (kc 13 rfl (kc 18 rfl (kc 44 rfl (kc 62 rfl (kc 66 rfl .nil))))))))))))))) (λ a21 w21 e21 st21=>?_)
      refine za ⟨(k+1,acc),⟨g5,hg5,st21.pick (kc 0 rfl (kc 1 rfl (kc 2 rfl (kc 3 rfl (kc 4 rfl (kc 8 rfl (kc 9 rfl (kc 10 rfl .nil)))))))),by dsimp only;omega,by dsimp only;omega,by dsimp only;rw[← hrun,X1 hx];exact(by rw[yy,if_neg (by rw[q1];decide),if_neg (by rw[q2];decide),if_neg (by rw[q3];decide)])⟩,by dsimp only;omega⟩
  ·
   have hend:=ZL h1
   refine wp_exit (zm (zm (zC ?_)))
   refine za (wp_seq (wp_seq ?_))
   refine zd st6 (sc rfl ((ze rfl (zb rfl)))
    (sc rfl ((WW rfl (by kernel_rfl) (zb rfl)))
    (sc rfl ((zO rfl (by decide) (zb rfl) zx))
    .nil)))
    (kc 0 rfl (kc 1 rfl (kc 2 rfl (kc 3 rfl (kc 4 rfl (kc 8 rfl (kc 9 rfl (kc 10 rfl (kc 18 rfl (kc 76 rfl .nil)))))))))) (λ a22 w22 e22 st22=>?_)
   refine za ?_
   refine zF (c:=76) st22 rfl (λ h5=>?_) (λ h5=>?_)
   ·
    have q4:=h5
    refine wp_seq ?_
    have st23:=st22.freeze hg5 (s:=9) rfl (.cons (s:=0) rfl (λ _ _ h=>h) (.cons (s:=1) rfl (λ _ _ h=>h) (.cons (s:=2) rfl (λ _ _ h=>h) (.cons (s:=3) rfl (λ _ _ h=>h) (.cons (s:=4) rfl (λ _ _ h=>h) (.cons (s:=8) rfl (draw_off hg5 (.inr rfl)) (.cons (s:=10) rfl (λ _ _ h=>h) (.cons (s:=18) rfl (λ _ _ h=>h) (.cons (s:=76) rfl (λ _ _ h=>h) .nil)))))))))
    refine wp_region_list ?_
    refine jT 2 st23 (sc rfl ((ze rfl (zb rfl)))
     (sc rfl ((yj (parts:=[(0,.const (.int .i64 3)),(1,.const (.int .i64 (-1))),(2,.tmp 77)]) (ns:=[1,1,1]) (zs:=[[.int .i64 0],[.int .i64 0],[.slice none 0 0]]) rfl rfl (by kernel_rfl) (by kernel_rfl) (λ w a hl=>by
    intro p hp
    simp only[List.mem_cons,List.not_mem_nil,or_false] at hp
    rcases hp with rfl | rfl | rfl
    ·
     exact⟨by decide,rfl⟩
    ·
     exact⟨by decide,rfl⟩
    ·
     exact⟨by decide,Rep.len (α:=(List Int)) (OpdR.cells (zb rfl) hl)⟩) (λ w a hl=>Spec.parts (x:=⟨3,-1,acc⟩) (OpdR.cells zx hl) (OpdR.cells zx hl) (OpdR.cells (zb rfl) hl))))
     .nil))
     (kc 0 rfl (kc 1 rfl (kc 2 rfl (kc 3 rfl (kc 4 rfl (kc 8 rfl (kc 9 rfl (kc 10 rfl (kc 18 rfl (kc 76 rfl (kc 78 rfl .nil))))))))))) (λ a24 w24 e24 st24=>?_)
    refine wR st24 rfl rfl rfl (by kernel_rfl) rfl hb2 (.inr rfl) rfl (zb rfl) (.cons (s:=0) rfl (λ _ _ h=>h) (.cons (s:=1) rfl (λ _ _ h=>h) (.cons (s:=2) rfl (λ _ _ h=>h) (.cons (s:=3) rfl (λ _ _ h=>h) (.cons (s:=4) rfl (λ _ _ h=>h) (.cons (s:=9) rfl (λ _ _ h=>h) (.cons (s:=10) rfl (λ _ _ h=>h) (.cons (s:=18) rfl (λ _ _ h=>h) (.cons (s:=76) rfl (λ _ _ h=>h) .nil))))))))) (λ w25 st25=>?_)
    refine wpList_nil (za ?_)
    refine wp_ret (zh ?_)
    refine ret_box rfl (by kernel_rfl) st25 (t:=8) rfl (λ _ h=>(.inl h)) ?_
    rw[jV,← hrun,List.drop_of_length_le hend,yy,if_pos q4]
   ·
    have q4:=h5
    refine wp_skip (za (wp_seq (wp_region_list ?_)))
    refine jT 1 st22 (sc rfl ((zi (l:=[]) rfl (by kernel_rfl) .nil (XB )))
     .nil)
     (kc 0 rfl (kc 1 rfl (kc 2 rfl (kc 3 rfl (kc 4 rfl (kc 8 rfl (kc 9 rfl (kc 10 rfl (kc 18 rfl (kc 76 rfl (kc 79 rfl .nil))))))))))) (λ a26 w26 e26 st26=>?_)
    refine wR st26 rfl rfl rfl (by kernel_rfl) rfl hb2 (.inl (.inr rfl)) rfl (zb rfl) (.cons (s:=0) rfl (λ _ _ h=>h) (.cons (s:=1) rfl (λ _ _ h=>h) (.cons (s:=2) rfl (λ _ _ h=>h) (.cons (s:=3) rfl (λ _ _ h=>h) (.cons (s:=4) rfl (λ _ _ h=>h) (.cons (s:=9) rfl (tip_off hg5 (.inr rfl)) (.cons (s:=10) rfl (λ _ _ h=>h) (.cons (s:=18) rfl (λ _ _ h=>h) (.cons (s:=76) rfl (λ _ _ h=>h) .nil))))))))) (λ w27 st27=>?_)
    refine wpList_nil (za (wp_ret ?_))
    refine ret_box rfl (by kernel_rfl) st27 (t:=8) rfl (λ _ h=>(.inl (.inl h))) ?_
    rw[jV,← hrun,List.drop_of_length_le hend,yy,if_neg (by rw[q4];decide)]
theorem spec_find_ok(t:Tree)(path:List Int)(s:Str)(hpl:path.length<=1099511627776)(hs:mid s):Fn Tryz.prog 175 [dt t,dt path,dt s] (dt (find t.files path s)):=by
 refine ym (fn:=Tryz.f175) Tryz.func175 rfl (of_decide_eq_true rfl) (λ M w0 a0 hm st0=>?_)
 have hroom:=qL s dot
 have hlr:=W4 (zr s dot)
 have hms:s.l.length<=1099511627776:=hs
 refine wp_seq (wp_region_list ?_)
 refine jT 1 st0 (sc rfl ((yw rfl (zb rfl)))
  .nil)
  (kc 0 rfl (kc 1 rfl (kc 2 rfl (kc 3 rfl .nil)))) (λ a1 w1 e1 st1=>?_)
 refine XZ (n:=3) st1 rfl rfl rfl (by decide) (by kernel_rfl) (kc 0 rfl (kc 1 rfl (kc 2 rfl (kc 3 rfl .nil)))) (λ b2 a2 w2 hb2 hn2 e2 st2=>?_)
 refine wpList_nil (za (wp_seq ?_))
 refine zd st2 (sc rfl ((ze rfl (zb rfl)))
  (sc rfl ((zi (l:=[.tmp 10,.const (.int .u8 46)]) rfl (by kernel_rfl) (.cons (zb rfl) (.cons (YY (by decide)) .nil)) (qF _ dot (by assumption))))
  (sc rfl ((zg rfl (zb rfl)))
  .nil)))
  (kc 0 rfl (kc 1 rfl (kc 2 rfl (kc 3 rfl (kc 6 rfl (kc 7 rfl .nil)))))) (λ a3 w3 e3 st3=>?_)
 refine za (wp_seq (wp_region_list ?_))
 refine jT 2 st3 (sc rfl ((ze rfl (zb rfl)))
  (sc rfl ((yj (parts:=[(0,.const (.int .i64 3)),(1,.const (.int .i64 (-1))),(2,.tmp 12)]) (ns:=[1,1,1]) (zs:=[[.int .i64 0],[.int .i64 0],[.slice none 0 0]]) rfl rfl (by kernel_rfl) (by kernel_rfl) (λ w a hl=>by
    intro p hp
    simp only[List.mem_cons,List.not_mem_nil,or_false] at hp
    rcases hp with rfl | rfl | rfl
    ·
     exact⟨by decide,rfl⟩
    ·
     exact⟨by decide,rfl⟩
    ·
     exact⟨by decide,Rep.len (α:=(List Int)) (OpdR.cells (zb rfl) hl)⟩) (λ w a hl=>Spec.parts (x:=⟨3,-1,path⟩) (OpdR.cells zx hl) (OpdR.cells zx hl) (OpdR.cells (zb rfl) hl))))
  .nil))
  (kc 0 rfl (kc 1 rfl (kc 2 rfl (kc 3 rfl (kc 6 rfl (kc 7 rfl (kc 13 rfl .nil))))))) (λ a4 w4 e4 st4=>?_)
 refine XZ (n:=3) st4 rfl rfl rfl (by decide) (by kernel_rfl) (kc 0 rfl (kc 1 rfl (kc 2 rfl (kc 3 rfl (kc 6 rfl (kc 7 rfl (kc 13 rfl .nil))))))) (λ b5 a5 w5 hb5 hn5 e5 st5=>?_)
 refine wR st5 rfl rfl rfl (by kernel_rfl) rfl hb5 (.inr rfl) rfl (zb rfl) (.cons (s:=0) rfl (λ _ _ h=>h) (.cons (s:=1) rfl (λ _ _ h=>h) (.cons (s:=2) rfl (λ _ _ h=>h) (.cons (s:=3) rfl (λ _ _ h=>h) (.cons (s:=6) rfl (draw_ne' hn5 (.inr rfl)) (.cons (s:=7) rfl (λ _ _ h=>h) .nil)))))) (λ w6 st6=>?_)
 refine wpList_nil (za (wp_seq (wp_seq ?_)))
 refine zd st6 (sc rfl ((zg rfl zx))
  .nil)
  (kc 0 rfl (kc 1 rfl (kc 2 rfl (kc 3 rfl (kc 6 rfl (kc 7 rfl (kc 8 rfl (kc 9 rfl .nil)))))))) (λ a7 w7 e7 st7=>?_)
 refine za (wp_block ?_)
 refine je (ι:=Nat×Spec) (λ i a w=>St (Frm.of w0) 42 (insO (some b5) (insO (some b2) M)) [(0,dt t),(1,dt path),(2,dt s),(3,dptr t),(6,draw (some b2) 3),(7,dt (zr s dot)),(8,dbox (some b5) 0 i.2),(9,dt (i.1:Int))] a w/\i.1<=(zr s dot).length/\i.2.roots.length<=1099511627776/\jh t.files (zr s dot) i.1 i.2 ((zr s dot).drop i.1)=find t.files path s) (λ i=>(zr s dot).length - i.1) (0,⟨3,-1,path⟩) ?_ ?_
 ·
  exact⟨st7.pick (kc 0 rfl (kc 1 rfl (kc 2 rfl (kc 3 rfl (kc 6 rfl (kc 7 rfl (kc 8 rfl (kc 9 rfl .nil)))))))),Nat.zero_le _,hpl,rfl⟩
 ·
  rintro ⟨k,out⟩ a8 w8 ⟨st8,hk,ha,hrun⟩
  dsimp only at*
  refine wp_seq (wp_seq ?_)
  refine zd st8 (sc rfl ((ze rfl (zb rfl)))
   (sc rfl ((ze rfl (zb rfl)))
   (sc rfl ((zK rfl (by kernel_rfl) (zb rfl)))
   (sc rfl ((zO rfl (by decide) (zb rfl) (zb rfl)))
   .nil))))
   (kc 0 rfl (kc 1 rfl (kc 2 rfl (kc 3 rfl (kc 6 rfl (kc 7 rfl (kc 8 rfl (kc 9 rfl (kc 17 rfl .nil))))))))) (λ a9 w9 e9 st9=>?_)
  refine za ?_
  refine zF (c:=17) st9 rfl (λ h1=>?_) (λ h1=>?_)
  ·
   obtain⟨x,hx⟩:=ZK h1
   have hlt:=ye hx
   have hj1:=join_le (zr s dot) k
   have hj2:=part_le hx
   have hj3:=jg (zr s dot) k
   refine wp_skip (za (wp_seq (wp_block (wp_seq (wp_seq ?_)))))
   refine zd st9 (sc rfl ((zZ Spec.fld0 rfl (by kernel_rfl) (zb rfl)))
    (sc rfl ((zH rfl (by kernel_rfl) (zb rfl)))
    (sc rfl ((zO rfl (by decide) (zb rfl) zx))
    (sc rfl ((ze rfl (zb rfl)))
    (.cons rfl (by decide) (.guarded rfl rfl (by decide) rfl zt (λ hg=>zZ Spec.fld0 rfl (by kernel_rfl) (zb rfl)))
    (.cons rfl (by decide) (.guarded rfl rfl (by decide) rfl zt (λ hg=>zH rfl (by kernel_rfl) (zj hg rfl)))
    (.cons rfl (by decide) (.guarded rfl rfl (by decide) rfl zt (λ hg=>zO rfl (by decide) (zj hg rfl) zx))
    (sc rfl ((zQ rfl (zb rfl) (zb rfl)))
    .nil))))))))
    (kc 0 rfl (kc 1 rfl (kc 2 rfl (kc 3 rfl (kc 6 rfl (kc 7 rfl (kc 8 rfl (kc 9 rfl (kc 17 rfl (kc 27 rfl .nil)))))))))) (λ a10 w10 e10 st10=>?_)
   refine za ?_
   refine zF (c:=27) st10 rfl (λ h2=>?_) (λ h2=>?_)
   ·
    have q1:=h2
    refine wp_seq (wp_region_list ?_)
    refine jT 1 st10 (sc rfl ((zi (l:=[]) rfl (by kernel_rfl) .nil (XB )))
     .nil)
     (kc 0 rfl (kc 1 rfl (kc 2 rfl (kc 3 rfl (kc 6 rfl (kc 7 rfl (kc 8 rfl (kc 9 rfl (kc 17 rfl (kc 27 rfl (kc 28 rfl .nil))))))))))) (λ a11 w11 e11 st11=>?_)
    refine wR st11 rfl rfl rfl (by kernel_rfl) rfl hb2 (.inl (.inr rfl)) rfl (zb rfl) (.cons (s:=0) rfl (λ _ _ h=>h) (.cons (s:=1) rfl (λ _ _ h=>h) (.cons (s:=2) rfl (λ _ _ h=>h) (.cons (s:=3) rfl (λ _ _ h=>h) (.cons (s:=7) rfl (λ _ _ h=>h) (.cons (s:=8) rfl (box_ne hn5 (.inr rfl)) (.cons (s:=9) rfl (λ _ _ h=>h) (.cons (s:=17) rfl (λ _ _ h=>h) (.cons (s:=27) rfl (λ _ _ h=>h) .nil))))))))) (λ w12 st12=>?_)
    refine wpList_nil (za ?_)
    refine wp_ret (zh (zy (zh (zh (zy (zh ?_))))))
    refine ret_box rfl (by kernel_rfl) st12 (t:=6) rfl (λ _ h=>(.inl (.inl h))) ?_
    rw[← hrun,X1 hx,jh,if_pos q1]
   ·
    have q1:=h2
    refine wp_skip (za ?_)
    refine region_draw_n zR 12 [[],[],[1],[],[],[3,4],[3,4,5],[],[],[7,8],[7,8,9],[0,1,2,3,4,5,6,7,8,9,10],[0,1,2,3,4,5,6,7,8,9,10,11]] [[(3,none)],[(8,none)],[(30,some 1)],[(7,none)],[(9,none)],[(32,some 3),(33,some 4)],[(34,some 5)],[(7,none)],[(9,none)],[(36,some 7),(37,some 8)],[(38,some 9)],[(29,some 0),(31,some 2),(35,some 6),(39,some 10)],[(8,none),(40,some 11)]] (by decide +kernel) (by decide) st10 (D:=[_,_,_,_,_,_,_,_,_,_,_,_])
     (.cons rfl (by decide) rfl (.plain rfl (zf rfl (by kernel_rfl) (zb rfl)))
     (.cons rfl (by decide) rfl (.plain rfl (zZ Spec.fld2 rfl (by kernel_rfl) (zb rfl)))
     (.cons rfl (by decide) rfl (.plain rfl (zH rfl (by kernel_rfl) (zb rfl)))
     (.cons rfl (by decide) rfl (.plain rfl (ze rfl (zb rfl)))
     (.cons rfl (by decide) rfl (.plain rfl (ze rfl (zb rfl)))
     (.cons rfl (by decide) rfl (.plain rfl (Z5 rfl (by kernel_rfl) (zb rfl) (zb rfl) rfl (by omega)))
     (.cons rfl (by decide) rfl (.plain rfl (zi (l:=[.tmp 34]) rfl (by kernel_rfl) (.cons (zb rfl) .nil) (Y2 _ (by omega))))
     (.cons rfl (by decide) rfl (.plain rfl (ze rfl (zb rfl)))
     (.cons rfl (by decide) rfl (.plain rfl (ze rfl (zb rfl)))
     (.cons rfl (by decide) rfl (.plain rfl (yq rfl (by kernel_rfl) (zb rfl) (zb rfl) rfl (by assumption)))
     (.cons rfl (by decide) rfl (.plain rfl (zf rfl (by kernel_rfl) (zb rfl)))
     (.cons rfl (by decide) rfl (.plain rfl (zi (l:=[.tmp 29,.tmp 31,.tmp 35,.tmp 39]) rfl (by kernel_rfl) (.cons (zb rfl) (.cons (zb rfl) (.cons (zb rfl) (.cons (zb rfl) .nil)))) (Qw _ _ _ _ ha (by omega))))
     .nil))))))))))))
     (kc 0 rfl (kc 1 rfl (kc 2 rfl (kc 3 rfl (kc 6 rfl (kc 7 rfl (kc 8 rfl (kc 9 rfl (kc 17 rfl (kc 27 rfl (kc 40 rfl .nil))))))))))) (λ a13 w13 e13 st13=>?_)
    refine wpl_storeAt (sb:=8) st13 FldS.id rfl rfl rfl (by kernel_rfl) hb5 (.inr rfl) rfl (zb rfl) rfl (.cons (s:=0) rfl (λ _ _ h=>h) (.cons (s:=1) rfl (λ _ _ h=>h) (.cons (s:=2) rfl (λ _ _ h=>h) (.cons (s:=3) rfl (λ _ _ h=>h) (.cons (s:=6) rfl (draw_ne' hn5 (.inr rfl)) (.cons (s:=7) rfl (λ _ _ h=>h) (.cons (s:=9) rfl (λ _ _ h=>h) (.cons (s:=17) rfl (λ _ _ h=>h) (.cons (s:=27) rfl (λ _ _ h=>h) .nil))))))))) (λ w14 st14=>?_)
    refine wpList_nil (zk (za ?_))
    refine zd st14 (sc rfl ((ze rfl (zb rfl)))
     (sc rfl ((wu rfl (by decide) (zb rfl) zx (by simp only[arI];omega)))
     (sc rfl ((zg rfl (zb rfl)))
     .nil)))
     (kc 0 rfl (kc 1 rfl (kc 2 rfl (kc 3 rfl (kc 6 rfl (kc 7 rfl (kc 8 rfl (kc 9 rfl (kc 17 rfl (kc 27 rfl .nil)))))))))) (λ a15 w15 e15 st15=>?_)
    refine za ⟨(k+1,jV t.files out.roots (join ((zr s dot).take k)) x),⟨st15.pick (kc 0 rfl (kc 1 rfl (kc 2 rfl (kc 3 rfl (kc 6 rfl (kc 7 rfl (kc 8 rfl (kc 9 rfl .nil)))))))),by dsimp only;omega,by dsimp only;have:=Xx t.files (join ((zr s dot).take k)) x out.roots [];exact Nat.le_trans this (by simpa using ha),by dsimp only;rw[← hrun,X1 hx];exact(by rw[jh,if_neg (by rw[q1];decide)])⟩,by dsimp only;omega⟩
  ·
   have hend:=ZL h1
   refine wp_exit (zm (zm (zC ?_)))
   refine za (wp_seq (wp_region_list ?_))
   refine jT 1 st9 (sc rfl ((zH rfl (by kernel_rfl) (zb rfl)))
    .nil)
    (kc 0 rfl (kc 1 rfl (kc 2 rfl (kc 3 rfl (kc 6 rfl (kc 7 rfl (kc 8 rfl (kc 9 rfl (kc 17 rfl (kc 41 rfl .nil)))))))))) (λ a16 w16 e16 st16=>?_)
   refine wR st16 rfl rfl rfl (by kernel_rfl) rfl hb2 (.inl (.inr rfl)) rfl (zb rfl) (.cons (s:=0) rfl (λ _ _ h=>h) (.cons (s:=1) rfl (λ _ _ h=>h) (.cons (s:=2) rfl (λ _ _ h=>h) (.cons (s:=3) rfl (λ _ _ h=>h) (.cons (s:=7) rfl (λ _ _ h=>h) (.cons (s:=8) rfl (box_ne hn5 (.inr rfl)) (.cons (s:=9) rfl (λ _ _ h=>h) (.cons (s:=17) rfl (λ _ _ h=>h) .nil)))))))) (λ w17 st17=>?_)
   refine wpList_nil (za (wp_ret ?_))
   refine ret_box rfl (by kernel_rfl) st17 (t:=6) rfl (λ _ h=>(.inl (.inl h))) ?_
   rw[← hrun,List.drop_of_length_le hend,jh]
open Go.RowKit
set_option maxRecDepth 10000
end Go.Proofs.YtiiiokblnnlapaaGreatDoor
