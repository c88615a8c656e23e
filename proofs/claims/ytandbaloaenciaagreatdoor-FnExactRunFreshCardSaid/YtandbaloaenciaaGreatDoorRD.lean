import Derived.Test.YtandbaloaenciaaGreatDoorRC
import Derived.Test.YtandbaloaenciaaGreatDoorRB
import Derived.Test.YtandbaloaenciaaGreatDoorProg
import Derived.Test.YtandbaloaenciaaGreatDoorRA
namespace Go.Proofs.YtandbaloaenciaaGreatDoor
open Go.RowKit
attribute [local irreducible] OpRel OpdR
set_option maxRecDepth 10000
theorem zL:Tryz.prog.follows .mixedOrders=true:=by kernel_rfl
theorem j3(n lo up:Int):Fn Tryz.prog 72 [dt n,dt lo,dt up] (dt (inR n lo up)):=by
 refine xc (fn:=Tryz.f72) Tryz.func72 Z (λ M _ _ hm st0=>?_);refine wqw ?_;refine zm st0 [0,1,2,6] (λ _ _ _ st1=>?_);refine zq st1 (sc Z ((zv Z (zb Z)))
  (sc Z ((zv Z (zb Z)))
  (sc Z ((jV Z (zb Z) (zb Z)))
  (sc Z ((zv Z (zb Z)))
  (sg Z Z (λ hg=>zv Z (zb Z))
  (sg Z Z (λ hg=>zv Z (zb Z))
  (sg Z Z (λ hg=>jV Z (zk hg Z) (zk hg Z))
  (sc Z ((xq Z (zb Z) (zb Z)))
  (sc Z ((y6 Z (zb Z)))
  .nil))))))))) [0,1,2,6] (λ _ _ _ st2=>?_)
 refine yt Z st2 (t:=6) Z ?_;rfl
theorem qb(s:Str):Fn Tryz.prog 150 [dt s] (dt (zB s)):=by
 refine xc (fn:=Tryz.f150) Tryz.func150 Z (λ M w0 _ hm st0=>?_);have hlen:s.l.length<=9223372036854775807:=st0.lenS (s:=0) Z;refine Kc ?_;refine zm st0 [0,2] (λ _ _ _ st1=>?_);refine za (Kc (Kc ?_));refine zq st1 (sp 2 (r:=by exact sc Z (zF (l:=[.tmp 5,.const (.int .i64 1),.const (.int .i64 3)]) Z (.cons (zb Z) (.cons zW (.cons zW .nil))) (j3 _ _ _))<|segA)) [0,2,7] (λ _ _ _ st2=>?_);refine za ?_;refine zO (c:=7) st2 Z (λ h1=>?_) λ h1=>?_
 ·have h7:=h1;refine Kc ?_;refine zm st2 [0,2,7] (λ _ _ _ st3=>?_);refine za ?_;refine wp_ret (zJ ?_);refine yt Z st3 (t:=2) Z ?_;unfold zB;rw[Bool.not_eq_true'] at h7;simp[h7]
 ·have h7:=h1;refine wp_skip (za (Kc (Kc ?_)));refine zm st2 [0,2,3,7] (λ _ _ _ st4=>?_);refine za (wp_block ?_);refine Yo (ι:=Nat) (λ k a w=>St (Frm.of w0) 24 M [(0,dt s),(3,dt (k:Int))] a w/\k<=s.l.length/\(s.l.take k).all low=true) (λ k=>s.l.length - k) 0 ?_ ?_
  ·exact⟨st4.pick (kc 0 Z (kc 3 Z .nil)),Nat.zero_le _,by simp⟩
  ·rintro k a5 w5 ⟨st5,hk,hp⟩
   refine Kc (Kc ?_);refine zm st5 [0,3,11] (λ _ _ _ st6=>?_);refine za ?_;refine zO (c:=11) st6 Z (λ h2=>?_) λ h2=>?_
   ·obtain⟨x,hx⟩:=idxS_of h2;have hlt:=zK hx;refine wp_skip (za (Kc (wp_block (Kc ?_))));refine zq st6 (sc Z ((zv Z (zb Z)))
     (sc Z ((zv Z (zb Z)))
     (sc Z ((op_byte Z (zb Z) (zb Z) (by assumption)))
     (sc Z ((op_cmpB Z (zb Z) (JA)))
     (sc Z ((zv Z (zb Z)))
     (sg Z Z (λ hg=>zv Z (zb Z))
     (sg Z Z (λ hg=>zv Z (zb Z))
     (sg Z Z (λ hg=>op_byte Z (zk hg Z) (zk hg Z) (by assumption))
     (sg Z Z (λ hg=>op_cmpB Z (zk hg Z) (JA))
     (sc Z ((jX Z (zb Z) (zb Z)))
     .nil)))))))))) [0,3,11,23] (λ _ _ _ st7=>?_)
    refine za ?_;refine zO (c:=23) st7 Z (λ h3=>?_) λ h3=>?_
    ·have ht:=h3;refine Kc ?_;refine zm st7 [0,2,3,11,23] (λ _ _ _ st8=>?_);refine za ?_;refine wp_ret (yZ (zJ (zJ (yZ (zJ ?_)))));refine yt Z st8 (t:=2) Z ?_;unfold zB;rw[all_fail (p:=low) hx (by unfold low;rw[ht];rfl)];simp
    ·have hf:=h3;refine wp_skip (yo (za ?_));refine zq st7 (sp 1 (r:=by exact sc Z (qT Z (zb Z) zW (by simp only[arI];omega))<|segA)) [0,3,11,23] (λ _ _ _ st9=>?_);refine za ⟨k+1,⟨st9.pick (kc 0 Z (kc 3 Z .nil)),by omega,all_next hx hp (by unfold low;rw[hf];rfl)⟩,by omega⟩
   ·have hend:=endS_of h2;refine wp_exit (yl (yl (xS ?_)));refine za (Kc ?_);refine zm st6 [0,2,3,11] (λ _ _ _ st10=>?_);refine za (wp_ret ?_);refine yt Z st10 (t:=2) Z ?_;unfold zB;rw[all_end hend hp];rw[Bool.not_eq_false'] at h7;exact(by simpa using h7.symm)
theorem ZD(s:Str)(c:UInt8)(hs:mid s):Fn Tryz.prog 153 [dt s,dt c] (dt (zx s c)):=by
 refine xc (fn:=Tryz.f153) Tryz.func153 Z (λ M w0 _ hm st0=>?_);have hlen:s.l.length<=1099511627776:=hs;refine Kc ?_;refine zq st0 (sc Z ((y6 Z (jl (α:=Str))))
  .nil) [0,1,4] (λ _ _ _ st1=>?_)
 refine za (Kc ?_);refine zq st1 (sc Z (xn (α:=Str) (e:=9) Z)<|segA) [0,1,4,5] (λ _ _ _ st2=>?_);refine za (Kc ?_);refine zm st2 [0,1,4,5,6] (λ _ _ _ st3=>?_);refine za (Kc (Kc ?_));refine zm st3 [0,1,4,5,6,7] (λ _ _ _ st4=>?_);refine za (wp_block ?_);refine Yo (ι:=Nat×Nat) (λ p a w=>∃ g,TipOK (Frm.of w0) M g/\St (Frm.of w0) 35 (insO g M) [(0,dt s),(1,dt c),(5,dtip g 9 (xI c (s.l.take p.1)).1),(6,dt (p.2:Int)),(7,dt (p.1:Int))] a w/\p.1<=s.l.length/\p.2<=p.1/\(xI c (s.l.take p.1)).2=⟨(s.l.take p.1).drop p.2⟩/\(xI c (s.l.take p.1)).1.length<=p.1) (λ p=>s.l.length - p.1) (0,0) ?_ ?_
 ·exact⟨none,TipOK.none_,st4.ins0.pick (kc 0 Z (kc 1 Z (kc 5 Z (kc 6 Z (kc 7 Z .nil))))),Nat.zero_le _,Nat.le_refl _,Z,Nat.le_refl _⟩
 ·rintro ⟨k,b⟩ a5 w5 ⟨g5,hg5,st5,hk,hb,g2,g1⟩
  dsimp only at*;refine Kc (Kc ?_);refine zm st5 [0,1,5,6,7,12] (λ _ _ _ st6=>?_);refine za ?_;refine zO (c:=12) st6 Z (λ h1=>?_) λ h1=>?_
  ·obtain⟨x,hx⟩:=idxS_of h1;have hlt:=zK hx;refine wp_skip (za (Kc (wp_block (Kc ?_))));refine zq st6 (sp 2 (r:=by exact sc Z (op_byte Z (zb Z) (zb Z) (by assumption))<|sp 1 (r:=by exact sc Z (op_cmpB Z (zb Z) (zb Z))<|.nil))) [0,1,5,6,7,12,19] (λ _ _ _ st7=>?_);refine za ?_;refine zO (c:=19) st7 Z (λ h2=>?_) λ h2=>?_
   ·have ht:=h2;refine Kc (Ka ?_);refine Jn 6 st7 (sc Z ((zv Z (zb Z)))
     (sc Z ((zv Z (zb Z)))
     (sc Z ((zv Z (zb Z)))
     (sc Z ((zv Z (zb Z)))
     (sc Z ((op_cutLH Z (by kernel_rfl) (zb Z) (zb Z) (zb Z) (by omega) (by omega) (by omega)))
     (sc Z ((xt (opds:=[.tmp 24]) Z Z Z (.cons (zb Z) .nil)))
     .nil))))))
     (kc 0 Z (kc 1 Z (kc 5 Z (kc 6 Z (kc 7 Z (kc 12 Z (kc 19 Z (kc 20 Z (kc 25 Z .nil))))))))) (λ _ _ _ st8=>?_)
    refine Qf (bytes:=16) (st8) Z Z Z Z Z yV (len1 (by omega)) (len1b (by omega)) (.cons (s:=0) Z (λ _ _ h=>h) (.cons (s:=1) Z (λ _ _ h=>h) (.cons (s:=6) Z (λ _ _ h=>h) (.cons (s:=7) Z (λ _ _ h=>h) (.cons (s:=12) Z (λ _ _ h=>h) (.cons (s:=19) Z (λ _ _ h=>h) .nil)))))) (hg5) (λ g9 _ _ hg9 st9=>?_);refine Jn 1 st9 (sc Z ((y6 Z (zb Z)))
     .nil)
     (kc 0 Z (kc 1 Z (kc 5 Z (kc 6 Z (kc 7 Z (kc 12 Z (kc 19 Z .nil))))))) (λ _ _ _ st10=>?_)
    refine Kb (za ?_);refine zq st10 (sp 1 (r:=by exact sc Z (qT Z (zb Z) zW (by simp only[arI];omega))<|segA)) [0,1,5,6,7,12,19] (λ _ _ _ st11=>?_);refine yo (za ?_);refine zq st11 (sp 1 (r:=by exact sc Z (qT Z (zb Z) zW (by simp only[arI];omega))<|segA)) [0,1,5,6,7,12,19] (λ _ _ _ st12=>?_);refine za ⟨(k+1,k+1),⟨g9,hg9,?_,by dsimp only;omega,by dsimp only;omega,split_hit2 hx ht hlt,by dsimp only;rw[zbk hx ht g2,List.length_append];exact Nat.succ_le_succ g1⟩,by dsimp only;omega⟩;dsimp only;first | rw[zbk hx ht g2] | rw[QV hx hf]
    exact st12.pick (kc 0 Z (kc 1 Z (kc 5 Z (kc 6 Z (kc 7 Z .nil)))))
   ·have hf:=h2;refine wp_skip (yo (za ?_));refine zq st7 (sp 1 (r:=by exact sc Z (qT Z (zb Z) zW (by simp only[arI];omega))<|segA)) [0,1,5,6,7,12,19] (λ _ _ _ st13=>?_);refine za ⟨(k+1,b),⟨g5,hg5,?_,by dsimp only;omega,by dsimp only;omega,split_miss2 hx hf g2 hb hlt,by dsimp only;rw[QV hx hf];omega⟩,by dsimp only;omega⟩;dsimp only;first | rw[zbk hx ht g2] | rw[QV hx hf]
    exact st13.pick (kc 0 Z (kc 1 Z (kc 5 Z (kc 6 Z (kc 7 Z .nil)))))
  ·have hend:=endS_of h1;refine wp_exit (yl (yl (xS ?_)));refine za (Kc (Ka ?_));refine Jn 5 st6 (sc Z ((zv Z (zb Z)))
    (sc Z ((zv Z (zb Z)))
    (sc Z ((zv Z (zb Z)))
    (sc Z ((op_cutL Z (by kernel_rfl) (zb Z) (zb Z) (by omega) (by omega)))
    (sc Z ((xt (opds:=[.tmp 32]) Z Z Z (.cons (zb Z) .nil)))
    .nil)))))
    (kc 0 Z (kc 1 Z (kc 5 Z (kc 6 Z (kc 7 Z (kc 12 Z (kc 29 Z (kc 33 Z .nil)))))))) (λ _ _ _ st14=>?_)
   refine Qf (bytes:=16) (st14) Z Z Z Z Z yV (len1 (by omega)) (len1b (by omega)) (.cons (s:=0) Z (λ _ _ h=>h) (.cons (s:=1) Z (λ _ _ h=>h) (.cons (s:=6) Z (λ _ _ h=>h) (.cons (s:=7) Z (λ _ _ h=>h) (.cons (s:=12) Z (λ _ _ h=>h) .nil))))) (hg5) (λ g15 _ _ hg15 st15=>?_);refine Jn 1 st15 (sc Z ((y6 Z (zb Z)))
    .nil)
    (kc 0 Z (kc 1 Z (kc 4 Z (kc 6 Z (kc 7 Z (kc 12 Z .nil)))))) (λ _ _ _ st16=>?_)
   refine Kb (za (wp_ret ?_));refine ret_tip Z (hg15) st16 (t:=4) Z ?_;exact split_end hend g2
theorem qe(s:Str)(hs:mid s):Fn Tryz.prog 113 [dt s] (dt (zj s)):=by
 refine xc (fn:=Tryz.f113) Tryz.func113 Z (λ M w0 _ hm st0=>?_);refine Kc ?_;refine zm st0 [0,2] (λ _ _ _ st1=>?_);refine za (Kc ?_);refine zq st1 (sp 1 (r:=by exact sc Z (zF (l:=[.tmp 5,.const (.int .u8 46)]) Z (.cons (zb Z) (.cons (JA) .nil)) (ZD _ dot (by assumption)))<|segA)) [0,2,3] (λ _ _ _ st2=>?_);refine za (Kc (Kc ?_));refine zm st2 [0,2,3,4] (λ _ _ _ st3=>?_);refine za (wp_block ?_);refine Yo (ι:=Nat) (λ k a w=>St (Frm.of w0) 22 M [(0,dt s),(3,dt (zx s dot)),(4,dt (k:Int))] a w/\k<=(zx s dot).length/\((zx s dot).take k).all zB=true) (λ k=>(zx s dot).length - k) 0 ?_ ?_
 ·exact⟨st3.pick (kc 0 Z (kc 3 Z (kc 4 Z .nil))),Nat.zero_le _,by simp⟩
 ·rintro k a4 w4 ⟨st4,hk,hp⟩
  have hlen:=st4.lenL (s:=3) Z;refine Kc (Kc ?_);refine zm st4 [0,3,4,10] (λ _ _ _ st5=>?_);refine za ?_;refine zO (c:=10) st5 Z (λ h1=>?_) λ h1=>?_
  ·obtain⟨x,hx⟩:=JB h1;have hlt:=zK hx;refine wp_skip (za (Kc (wp_block (Kc ?_))));refine zq st5 (sp 2 (r:=by exact sc Z (xg Z (zb Z) (zb Z) Z (by assumption))<|sp 1 (r:=by exact sc Z (zF (l:=[.tmp 16]) Z (.cons (zb Z) .nil) (qb _))<|segA))) [0,3,4,10,18] (λ _ _ _ st6=>?_);refine za ?_;refine zO (c:=18) st6 Z (λ h2=>?_) λ h2=>?_
   ·have ht:=h2;refine Kc ?_;refine zm st6 [0,2,3,4,10,18] (λ _ _ _ st7=>?_);refine za ?_;refine wp_ret (yZ (zJ (zJ (yZ (zJ ?_)))));refine yt Z st7 (t:=2) Z ?_;unfold zj;rw[all_fail hx (by simpa using ht)];rfl
   ·have hf:=h2;refine wp_skip (yo (za ?_));refine zq st6 (sp 1 (r:=by exact sc Z (qT Z (zb Z) zW (by simp only[arI];omega))<|segA)) [0,3,4,10,18] (λ _ _ _ st8=>?_);refine za ⟨k+1,⟨st8.pick (kc 0 Z (kc 3 Z (kc 4 Z .nil))),by omega,all_next hx hp (by simpa using hf)⟩,by omega⟩
  ·have hend:=JC h1;refine wp_exit (yl (yl (xS ?_)));refine za (Kc ?_);refine zm st5 [0,2,3,4,10] (λ _ _ _ st9=>?_);refine za (wp_ret ?_);refine yt Z st9 (t:=2) Z ?_;unfold zj;rw[all_end hend hp];rfl
theorem Z4(s:Str)(hs:mid s):Fn Tryz.prog 149 [dt s] (dt (zi s)):=by
 refine xc (fn:=Tryz.f149) Tryz.func149 Z (λ M _ _ hm st0=>?_);refine wqw ?_;refine zm st0 [0,2] (λ _ _ _ st1=>?_);refine zq st1 (sc Z ((zv Z (zb Z)))
  (sc Z ((ZX Z (zb Z) (yz)))
  (sc Z ((zv Z (zb Z)))
  (sg Z Z (λ hg=>zv Z (zb Z))
  (sg Z Z (λ hg=>zF (l:=[.tmp 6]) Z (.cons (zk hg Z) .nil) (qe _ hs))
  (sc Z ((jX Z (zb Z) (zb Z)))
  (sc Z ((y6 Z (zb Z)))
  .nil))))))) [0,2] (λ _ _ _ st2=>?_)
 refine yt Z st2 (t:=2) Z ?_;rfl
theorem Qj(l:List Str)(hl:wW l<=1152921504606846976):Fn Tryz.prog 161 [dt l] (dt (join l)):=by
 refine xc (fn:=Tryz.f161) Tryz.func161 Z (λ M w0 _ hm st0=>?_);have hlen:=st0.lenL (s:=0) Z;refine Kc ?_;refine zm st0 [0,2] (λ _ _ _ st1=>?_);refine za (Kc ?_);refine zm st1 [0,2,3] (λ _ _ _ st2=>?_);refine za (Kc (Kc ?_));refine zm st2 [0,2,3,4] (λ _ _ _ st3=>?_);refine za (wp_block ?_);refine Yo (ι:=Nat) (λ k a w=>St (Frm.of w0) 22 M [(0,dt l),(3,dt (Yp (l.take k)).1),(4,dt (k:Int))] a w/\k<=l.length) (λ k=>l.length - k) 0 ?_ ?_
 ·exact⟨st3.pick (kc 0 Z (kc 3 Z (kc 4 Z .nil))),Nat.zero_le _⟩
 ·rintro k a4 w4 ⟨st4,hk⟩
  refine Kc (Kc ?_);refine zm st4 [0,3,4,8] (λ _ _ _ st5=>?_);refine za ?_;refine zO (c:=8) st5 Z (λ h1=>?_) λ h1=>?_
  ·obtain⟨x,hx⟩:=JB h1;have hlt:=zK hx;have hroom:=join_room hx;refine wp_skip (za (Kc (wp_block (Kc (Kc ?_)))));refine zm st5 [0,3,4,8,12] (λ _ _ _ st6=>?_);refine za ?_;refine zO (c:=12) st6 Z (λ h2=>?_) λ h2=>?_
   ·have ht:=h2;refine zq st6 (sp 1 (r:=by exact sc Z (zbh Z (zb Z) (yz) (by first | (unfold maxLen;omega) | (simp only[List.length_singleton];unfold maxLen;omega)))<|segA)) [0,3,4,8,12] (λ _ _ _ st7=>?_);refine za ?_;refine zq st7 (sp 3 (r:=by exact sc Z (xg Z (zb Z) (zb Z) Z (by assumption))<|sp 1 (r:=by exact sc Z (zbh Z (zb Z) (zb Z) (by first | (unfold maxLen;omega) | (simp only[List.length_append,List.length_singleton];unfold maxLen;omega)))<|segA))) [0,3,4,8,12] (λ _ _ _ st8=>?_);refine yo (za ?_);refine zq st8 (sp 1 (r:=by exact sc Z (qT Z (zb Z) zW (by simp only[arI];omega))<|segA)) [0,3,4,8,12] (λ _ _ _ st9=>?_);refine za ⟨k+1,⟨?_,by omega⟩,by omega⟩
    first | rw[join_hit hx ht] | rw[zcE hx hf]
    exact st9.pick (kc 0 Z (kc 3 Z (kc 4 Z .nil)))
   ·have hf:=h2;refine wp_skip (za ?_);refine zq st6 (sp 3 (r:=by exact sc Z (xg Z (zb Z) (zb Z) Z (by assumption))<|sp 1 (r:=by exact sc Z (zbh Z (zb Z) (zb Z) (by first | (unfold maxLen;omega) | (simp only[List.length_append,List.length_singleton];unfold maxLen;omega)))<|segA))) [0,3,4,8,12] (λ _ _ _ st10=>?_);refine yo (za ?_);refine zq st10 (sp 1 (r:=by exact sc Z (qT Z (zb Z) zW (by simp only[arI];omega))<|segA)) [0,3,4,8,12] (λ _ _ _ st11=>?_);refine za ⟨k+1,⟨?_,by omega⟩,by omega⟩
    first | rw[join_hit hx ht] | rw[zcE hx hf]
    exact st11.pick (kc 0 Z (kc 3 Z (kc 4 Z .nil)))
  ·have hend:=JC h1;refine wp_exit (yl (yl (xS ?_)));refine za (Kc ?_);refine zm st5 [0,2,3,4,8] (λ _ _ _ st12=>?_);refine za (wp_ret ?_);refine yt Z st12 (t:=2) Z ?_;exact join_end hend
theorem zdy(s:Str)(hs:mid s):Fn Tryz.prog 119 [dt s] (dt (zN s)):=by
 refine xc (fn:=Tryz.f119) Tryz.func119 Z (λ M _ _ hm st0=>?_);refine wqw ?_;have hlen:s.l.length<=1099511627776:=hs;have hne:=QX s dot;have hroom:=Z3 s dot;have hlr:=zbK (zx s dot);refine zm st0 [0,2] (λ _ _ _ st1=>?_);refine zq st1 (sp 1 (r:=by exact sc Z (zF (l:=[.tmp 4,.const (.int .u8 46)]) Z (.cons (zb Z) (.cons (JA) .nil)) (ZD _ dot (by assumption)))<|segA)) [0,2,3] (λ _ _ _ st2=>?_);refine zq st2 (sp 3 (r:=by exact sc Z (qT Z (zb Z) zW (by simp only[arI];omega))<|sc Z (Qe Z (zb Z) (zb Z) (j:=(zx s dot).length - 1) (by simp only[arI];omega) (by omega))<|sc Z (zF (l:=[.tmp 10]) Z (.cons (zb Z) .nil) (Qj _ (by have:=Z2 (zx s dot) ((zx s dot).length - 1);omega)))<|segA)) [0,2,3] (λ _ _ _ st3=>?_);refine yt Z st3 (t:=2) Z ?_;rfl
theorem YG(p s:Str)(hc:p.l.length+s.l.length<=1152921504606846976):Fn Tryz.prog 151 [dt p,dt s] (dt (child p s)):=by
 refine xc (fn:=Tryz.f151) Tryz.func151 Z (λ M _ _ hm st0=>?_);refine Kc ?_;refine zm st0 [0,1,4] (λ _ _ _ st1=>?_);refine za (Kc (Kc ?_));refine zm st1 [0,1,4,6] (λ _ _ _ st2=>?_);refine za ?_;refine zO (c:=6) st2 Z (λ h1=>?_) λ h1=>?_
 ·have ht:=h1;refine Kc ?_;refine zm st2 [0,1,4,6] (λ _ _ _ st3=>?_);refine za ?_;refine wp_ret (zJ ?_);refine yt Z st3 (t:=4) Z ?_;exact(Ke (oD ht)).symm
 ·have hf:=h1;refine wp_skip (za (Kc ?_));refine zq st2 (sp 1 (r:=by exact sc Z (zbh Z (zb Z) (yz) (by first | (unfold maxLen;omega) | (simp only[List.length_singleton];unfold maxLen;omega)))<|sp 1 (r:=by exact sc rfl (zbh rfl (zb rfl) (zb rfl) (by first | (unfold maxLen;omega) | (simp only[List.length_append,List.length_singleton];unfold maxLen;omega)))<|segA))) [0,1,4,6] (λ _ _ _ st4=>?_);refine za (wp_ret ?_);refine yt Z st4 (t:=4) Z ?_;exact(Kf (of_decide_eq_false hf)).symm
theorem spec_last_ok(s:Str)(hs:mid s):Fn Tryz.prog 124 [dt s] (dt (jh s)):=by
 refine xc (fn:=Tryz.f124) Tryz.func124 Z (λ M _ _ hm st0=>?_);refine wqw ?_;have hne:=QX s dot;have hroom:=Z3 s dot;have hlen:=zbK (zx s dot);have hms:s.l.length<=1099511627776:=hs;refine zm st0 [0,2] (λ _ _ _ st1=>?_);refine zq st1 (sp 1 (r:=by exact sc Z (zF (l:=[.tmp 4,.const (.int .u8 46)]) Z (.cons (zb Z) (.cons (JA) .nil)) (ZD _ dot (by assumption)))<|segA)) [0,2,3] (λ _ _ _ st2=>?_);refine zq st2 (sp 3 (r:=by exact sc Z (qT Z (zb Z) zW (by simp only[arI];omega))<|sc Z (xg Z (zb Z) (zb Z) (k:=(zx s dot).length - 1) (by simp only[arI];omega) (last_get s))<|segA)) [0,2,3] (λ _ _ _ st3=>?_);refine yt Z st3 (t:=2) Z ?_;rfl
theorem spec_above_ok(s:Str)(hs:mid s):Fn Tryz.prog 231 [dt s] (dt (Jp s)):=by
 refine xc (fn:=Tryz.f231) Tryz.func231 Z (λ M w0 _ hm st0=>?_);have hroom:=Z3 s dot;have hlen:=zbK (zx s dot);have hms:s.l.length<=1099511627776:=hs;refine Kc ?_;refine zq st0 (sc Z ((y6 Z (jl (α:=Str))))
  .nil) [0,2] (λ _ _ _ st1=>?_)
 refine za (Kc ?_);refine zq st1 (sp 1 (r:=by exact sc Z (zF (l:=[.tmp 6,.const (.int .u8 46)]) Z (.cons (zb Z) (.cons (JA) .nil)) (ZD _ dot (by assumption)))<|segA)) [0,2,3] (λ _ _ _ st2=>?_);refine za (Kc ?_);refine zq st2 (sc Z (xn (α:=Str) (e:=9) Z)<|segA) [0,2,3,4] (λ _ _ _ st3=>?_);refine za (Kc (Kc ?_));refine zm st3 [0,2,3,4,5] (λ _ _ _ st4=>?_);refine za (wp_block ?_);refine Yo (ι:=Nat) (λ k a w=>∃ g,TipOK (Frm.of w0) M g/\St (Frm.of w0) 23 (insO g M) [(0,dt s),(3,dt (zx s dot)),(4,dtip g 9 (Xf (zx s dot) k)),(5,dt ((k+1:Nat):Int))] a w/\k<=(zx s dot).length) (λ k=>(zx s dot).length - k) 0 ?_ ?_
 ·exact⟨none,TipOK.none_,st4.ins0.pick (kc 0 Z (kc 3 Z (kc 4 Z (kc 5 Z .nil)))),Nat.zero_le _⟩
 ·rintro k a5 w5 ⟨g5,hg5,st5,hk⟩
  refine Kc (Kc ?_);refine zm st5 [0,3,4,5,12] (λ _ _ _ st6=>?_);refine za ?_;refine zO (c:=12) st6 Z (λ h1=>?_) λ h1=>?_
  ·have hlt:k+1<=(zx s dot).length:=by have:=oD h1;omega
   have hal:=WE (zx s dot) k;have htk:=Z2 (zx s dot) (k+1);refine wp_skip (za (Kc (wp_block (Ka ?_))));refine Jn 6 st6 (sc Z ((zv Z (zb Z)))
    (sc Z ((zv Z (zb Z)))
    (sc Z ((zv Z (zb Z)))
    (sc Z ((Qe Z (zb Z) (zb Z) Z (by omega)))
    (sc Z ((zF (l:=[.tmp 18]) Z (.cons (zb Z) .nil) (Qj _ (by omega))))
    (sc Z ((xt (opds:=[.tmp 19]) Z Z Z (.cons (zb Z) .nil)))
    .nil))))))
    (kc 0 Z (kc 3 Z (kc 4 Z (kc 5 Z (kc 12 Z (kc 15 Z (kc 20 Z .nil))))))) (λ _ _ _ st7=>?_)
   refine Qf (bytes:=16) (st7) Z Z Z Z Z yV (len1 (by omega)) (len1b (by omega)) (.cons (s:=0) Z (λ _ _ h=>h) (.cons (s:=3) Z (λ _ _ h=>h) (.cons (s:=5) Z (λ _ _ h=>h) (.cons (s:=12) Z (λ _ _ h=>h) .nil)))) (hg5) (λ g8 _ _ hg8 st8=>?_);refine Jn 1 st8 (sc Z ((y6 Z (zb Z)))
    .nil)
    (kc 0 Z (kc 3 Z (kc 4 Z (kc 5 Z (kc 12 Z .nil))))) (λ _ _ _ st9=>?_)
   refine Kb (yo (za ?_));refine zq st9 (sp 1 (r:=by exact sc Z (qT Z (zb Z) zW (by simp only[arI];omega))<|segA)) [0,3,4,5,12] (λ _ _ _ st10=>?_);refine za ⟨k+1,⟨g8,hg8,?_,by omega⟩,by omega⟩;rw[zaQ];exact st10.pick (kc 0 Z (kc 3 Z (kc 4 Z (kc 5 Z .nil))))
  ·have hend:(zx s dot).length<=k:=by have:=of_decide_eq_false h1;omega
   refine wp_exit (yl (yl (xS ?_)));refine za (Kc ?_);refine zm st6 [0,2,3,4,5,12] (λ _ _ _ st11=>?_);refine za (wp_ret ?_);refine ret_tip Z (hg5) st11 (t:=2) Z ?_;rw[Jp,Nat.le_antisymm hk hend]
theorem zaS(s p:Str)(hp:p.l.length<=1152921504606846976):Fn Tryz.prog 232 [dt s,dt p] (dt (under s p)):=by
 refine xc (fn:=Tryz.f232) Tryz.func232 Z (λ M _ _ hm st0=>?_);refine wqw ?_;refine zm st0 [0,1,4] (λ _ _ _ st1=>?_);refine zq st1 (sc Z ((zv Z (zb Z)))
  (sc Z ((ZX Z (zb Z) (yz)))
  (sc Z ((zv Z (zb Z)))
  (sg Z Z (λ hg=>zv Z (zb Z))
  (sg Z Z (λ hg=>zv Z (zb Z))
  (sg Z Z (λ hg=>ZX Z (zk hg Z) (zk hg Z))
  (sc Z ((jX Z (zb Z) (zb Z)))
  (sc Z ((zv Z (zb Z)))
  (sg Z Z (λ hg=>zv Z (zb Z))
  (sg Z Z (λ hg=>op_lenS Z (zk hg Z))
  (sg Z Z (λ hg=>zv Z (zb Z))
  (sg Z Z (λ hg=>op_lenS Z (zk hg Z))
  (sg Z Z (λ hg=>jV Z (zk hg Z) (zk hg Z))
  (sg Z Z (λ hg=>zv Z (zk hg Z))
  (.cons Z (by decide) (.guarded2 Z Z (by decide) Z zy (λ hg=>zv Z (zb Z)))
  (.cons Z (by decide) (.guarded2 Z Z (by decide) Z zy (λ hg=>zv Z (zb Z)))
  (.cons Z (by decide) (.guarded2 Z Z (by decide) Z zy (λ hg=>op_lenS Z (zk hg Z)))
  (.cons Z (by decide) (.guarded2 Z Z (by decide) Z zy (λ hg=>qT Z (zk hg Z) zW (by simp only[arI];omega)))
  (.cons Z (by decide) (.guarded2 Z Z (by decide) Z zy (λ hg=>op_cutH Z (by kernel_rfl) (zk hg Z) (zk hg Z) (by simp only[arI];omega) (by simp only[arI];have:=oD (and_r hg);omega)))
  (.cons Z (by decide) (.guarded2 Z Z (by decide) Z zy (λ hg=>zv Z (zb Z)))
  (.cons Z (by decide) (.guarded2 Z Z (by decide) Z zy (λ hg=>zbh Z (zk hg Z) (yz) (by first | (unfold maxLen;omega) | (simp only[List.length_singleton];unfold maxLen;omega))))
  (.cons Z (by decide) (.guarded2 Z Z (by decide) Z zy (λ hg=>ZX Z (zk hg Z) (zk hg Z)))
  (sg Z Z (λ hg=>xq Z (zk hg Z) (zcD hg Z))
  (sc Z ((jX Z (zb Z) (zb Z)))
  (sc Z ((y6 Z (zb Z)))
  .nil))))))))))))))))))))))))) [0,1,4] (λ _ _ _ st2=>?_)
 refine yt Z st2 (t:=4) Z ?_;exact under_of
theorem zbo(f:File)(hf:smFile f):Fn Tryz.prog 198 [dt f] (dt (W0 f)):=by
 refine xc (fn:=Tryz.f198) Tryz.func198 Z (λ M _ _ hm st0=>?_);refine Kc ?_;refine zq st0 (sc Z (XL Z (zb Z))<|segA) [0,1,2] (λ _ _ _ st1=>?_);refine za (Kc (Kc ?_));refine zm st1 [0,1,2,4] (λ _ _ _ st2=>?_);refine za ?_;refine zO (c:=4) st2 Z (λ h1=>?_) λ h1=>?_
 ·have ht:=h1;refine Kc ?_;refine zm st2 [0,1,2,4] (λ _ _ _ st3=>?_);refine za ?_;refine wp_ret (zJ ?_);refine yt Z st3 (t:=2) Z ?_;rw[W0,Ke ht]
 ·have hff:=h1;refine wp_skip (za (Kc ?_));refine zq st2 (sp 4 (r:=by exact sc Z (zF (l:=[.tmp 8,.tmp 10]) Z (.cons (zb Z) (.cons (zb Z) .nil)) (YG _ _ (by have:=hf.1;have:=hf.2.1;omega)))<|segA)) [0,1,2,4] (λ _ _ _ st4=>?_);refine za (wp_ret ?_);refine yt Z st4 (t:=2) Z ?_;rw[W0,Kf (by simp[hff])]
theorem zbP(s:Stmt)(hs:smStmt s):Fn Tryz.prog 152 [dt s] (dt (zP s)):=by
 refine xc (fn:=Tryz.f152) Tryz.func152 Z (λ M _ _ hm st0=>?_);refine Kc ?_;refine zq st0 (sc Z (XL Z (zb Z))<|segA) [0,1,2] (λ _ _ _ st1=>?_);refine za (Kc (Kc ?_));refine zm st1 [0,1,2,4] (λ _ _ _ st2=>?_);refine za (wp_block (Kc ?_));refine zm st2 [0,1,2,4,5] (λ _ _ _ st3=>?_);refine za ?_;refine zO (c:=5) st3 Z (λ h1=>?_) λ h1=>?_
 ·have k0:=h1;refine Kc ?_;refine zq st3 (sc Z ((zA Stmt.fld1 Z (zb Z)))
   (sc Z ((zr Z (zb Z)))
   (sc Z ((zF (l:=[.tmp 8]) Z (.cons (zb Z) .nil) (qe _ (by have:=hs.1;unfold mid;omega))))
   (sc Z ((zv Z (zb Z)))
   (sg Z Z (λ hg=>zA Stmt.fld2 Z (zb Z))
   (sg Z Z (λ hg=>zr Z (zk hg Z))
   (sg Z Z (λ hg=>jV Z (zk hg Z) zW)
   (sc Z ((xq Z (zb Z) (zb Z)))
   (sc Z ((zv Z (zb Z)))
   (sg Z Z (λ hg=>zA Stmt.fld3 Z (zb Z))
   (sg Z Z (λ hg=>zr Z (zk hg Z))
   (sg Z Z (λ hg=>ZX Z (zk hg Z) (yz))
   (sc Z ((xq Z (zb Z) (zb Z)))
   (sc Z ((zv Z (zb Z)))
   (sg Z Z (λ hg=>zA Stmt.fld4 Z (zb Z))
   (sg Z Z (λ hg=>zr Z (zk hg Z))
   (sg Z Z (λ hg=>jV Z (zk hg Z) zW)
   (sc Z ((xq Z (zb Z) (zb Z)))
   (sc Z ((y6 Z (zb Z)))
   .nil))))))))))))))))))) [0,1,2,4,5] (λ _ _ _ st4=>?_)
  refine za ?_;refine wp_ret (yZ (zJ ?_));refine yt Z st4 (t:=2) Z ?_;rw[zP,Ke k0]
 ·have k0:=h1;refine Kc ?_;refine zm st3 [0,1,2,4,5,25] (λ _ _ _ st5=>?_);refine za ?_;refine zO (c:=25) st5 Z (λ h2=>?_) λ h2=>?_
  ·have k1:=h2;refine Kc ?_;refine zq st5 (sc Z ((zA Stmt.fld1 Z (zb Z)))
    (sc Z ((zr Z (zb Z)))
    (sc Z ((zF (l:=[.tmp 28]) Z (.cons (zb Z) .nil) (Z4 _ (by have:=hs.1;unfold mid;omega))))
    (sc Z ((zv Z (zb Z)))
    (sg Z Z (λ hg=>zA Stmt.fld2 Z (zb Z))
    (sg Z Z (λ hg=>zr Z (zk hg Z))
    (sg Z Z (λ hg=>zF (l:=[.tmp 32,.const (.int .i64 0),.const (.int .i64 3)]) Z (.cons (zk hg Z) (.cons zW (.cons zW .nil))) (j3 _ _ _))
    (sc Z ((xq Z (zb Z) (zb Z)))
    (sc Z ((zv Z (zb Z)))
    (sg Z Z (λ hg=>zA Stmt.fld1 Z (zb Z))
    (sg Z Z (λ hg=>zr Z (zk hg Z))
    (sg Z Z (λ hg=>zcA Z (zk hg Z) (yz))
    (sg Z Z (λ hg=>zv Z (zk hg Z))
    (.cons Z (by decide) (.guarded2 Z Z (by decide) Z zy (λ hg=>zA Stmt.fld2 Z (zb Z)))
    (.cons Z (by decide) (.guarded2 Z Z (by decide) Z zy (λ hg=>zr Z (zk hg Z)))
    (.cons Z (by decide) (.guarded2 Z Z (by decide) Z zy (λ hg=>jV Z (zk hg Z) zW))
    (sg Z Z (λ hg=>jX Z (zk hg Z) (zcD hg Z))
    (sc Z ((xq Z (zb Z) (zb Z)))
    (sc Z ((zv Z (zb Z)))
    (sg Z Z (λ hg=>zA Stmt.fld3 Z (zb Z))
    (sg Z Z (λ hg=>zr Z (zk hg Z))
    (sg Z Z (λ hg=>zF (l:=[.tmp 47]) Z (.cons (zk hg Z) .nil) (qb _))
    (sc Z ((xq Z (zb Z) (zb Z)))
    (sc Z ((zv Z (zb Z)))
    (sg Z Z (λ hg=>zA Stmt.fld4 Z (zb Z))
    (sg Z Z (λ hg=>zr Z (zk hg Z))
    (sg Z Z (λ hg=>jV Z (zk hg Z) zW)
    (sc Z ((xq Z (zb Z) (zb Z)))
    (sc Z ((y6 Z (zb Z)))
    .nil))))))))))))))))))))))))))))) [0,1,2,4,5,25] (λ _ _ _ st6=>?_)
   refine za ?_;refine wp_ret (yZ (zJ ?_));refine yt Z st6 (t:=2) Z ?_;rw[zP,Kf (by rw[k0];decide),Ke k1]
  ·have k1:=h2;refine Kc ?_;refine zm st5 [0,1,2,4,5,25,55] (λ _ _ _ st7=>?_);refine za ?_;refine zO (c:=55) st7 Z (λ h3=>?_) λ h3=>?_
   ·have k2:=h3;refine Kc ?_;refine zq st7 (sc Z ((zA Stmt.fld1 Z (zb Z)))
     (sc Z ((zr Z (zb Z)))
     (sc Z ((zF (l:=[.tmp 58]) Z (.cons (zb Z) .nil) (qe _ (by have:=hs.1;unfold mid;omega))))
     (sc Z ((zv Z (zb Z)))
     (sg Z Z (λ hg=>zA Stmt.fld2 Z (zb Z))
     (sg Z Z (λ hg=>zr Z (zk hg Z))
     (sg Z Z (λ hg=>jV Z (zk hg Z) zW)
     (sc Z ((xq Z (zb Z) (zb Z)))
     (sc Z ((zv Z (zb Z)))
     (sg Z Z (λ hg=>zA Stmt.fld3 Z (zb Z))
     (sg Z Z (λ hg=>zr Z (zk hg Z))
     (sg Z Z (λ hg=>ZX Z (zk hg Z) (yz))
     (sc Z ((xq Z (zb Z) (zb Z)))
     (sc Z ((zv Z (zb Z)))
     (sg Z Z (λ hg=>zA Stmt.fld4 Z (zb Z))
     (sg Z Z (λ hg=>zr Z (zk hg Z))
     (sg Z Z (λ hg=>jV Z (zk hg Z) zW)
     (sc Z ((xq Z (zb Z) (zb Z)))
     (sc Z ((y6 Z (zb Z)))
     .nil))))))))))))))))))) [0,1,2,4,5,25,55] (λ _ _ _ st8=>?_)
    refine za ?_;refine wp_ret (yZ (zJ ?_));refine yt Z st8 (t:=2) Z ?_;rw[zP,Kf (by rw[k0];decide),Kf (by rw[k1];decide),Ke k2]
   ·have k2:=h3;refine Kc ?_;refine zm st7 [0,1,2,4,5,25,55,75] (λ _ _ _ st9=>?_);refine za ?_;refine zO (c:=75) st9 Z (λ h4=>?_) λ h4=>?_
    ·have k3:=h4;refine Kc ?_;refine zq st9 (sc Z ((zA Stmt.fld1 Z (zb Z)))
      (sc Z ((zr Z (zb Z)))
      (sc Z ((ZX Z (zb Z) (yz)))
      (sc Z ((zv Z (zb Z)))
      (sg Z Z (λ hg=>zA Stmt.fld2 Z (zb Z))
      (sg Z Z (λ hg=>zr Z (zk hg Z))
      (sg Z Z (λ hg=>jV Z (zk hg Z) zW)
      (sc Z ((xq Z (zb Z) (zb Z)))
      (sc Z ((zv Z (zb Z)))
      (sg Z Z (λ hg=>zA Stmt.fld3 Z (zb Z))
      (sg Z Z (λ hg=>zr Z (zk hg Z))
      (sg Z Z (λ hg=>zF (l:=[.tmp 87]) Z (.cons (zk hg Z) .nil) (qb _))
      (sc Z ((xq Z (zb Z) (zb Z)))
      (sc Z ((zv Z (zb Z)))
      (sg Z Z (λ hg=>zA Stmt.fld4 Z (zb Z))
      (sg Z Z (λ hg=>zr Z (zk hg Z))
      (sg Z Z (λ hg=>zF (l:=[.tmp 92,.const (.int .i64 0),.const (.int .i64 99)]) Z (.cons (zk hg Z) (.cons zW (.cons zW .nil))) (j3 _ _ _))
      (sc Z ((xq Z (zb Z) (zb Z)))
      (sc Z ((y6 Z (zb Z)))
      .nil))))))))))))))))))) [0,1,2,4,5,25,55,75] (λ _ _ _ st10=>?_)
     refine za ?_;refine wp_ret (yZ (zJ ?_));refine yt Z st10 (t:=2) Z ?_;rw[zP,Kf (by rw[k0];decide),Kf (by rw[k1];decide),Kf (by rw[k2];decide),Ke k3]
    ·have k3:=h4;refine Kc ?_;refine zm st9 [0,1,2,4,5,25,55,75,95] (λ _ _ _ st11=>?_);refine za ?_;refine zO (c:=95) st11 Z (λ h5=>?_) λ h5=>?_
     ·have k4:=h5;refine Kc ?_;refine zq st11 (sc Z ((zA Stmt.fld1 Z (zb Z)))
       (sc Z ((zr Z (zb Z)))
       (sc Z ((ZX Z (zb Z) (yz)))
       (sc Z ((zv Z (zb Z)))
       (sg Z Z (λ hg=>zA Stmt.fld2 Z (zb Z))
       (sg Z Z (λ hg=>zr Z (zk hg Z))
       (sg Z Z (λ hg=>jV Z (zk hg Z) zW)
       (sc Z ((xq Z (zb Z) (zb Z)))
       (sc Z ((zv Z (zb Z)))
       (sg Z Z (λ hg=>zA Stmt.fld3 Z (zb Z))
       (sg Z Z (λ hg=>zr Z (zk hg Z))
       (sg Z Z (λ hg=>zF (l:=[.tmp 107]) Z (.cons (zk hg Z) .nil) (qb _))
       (sc Z ((xq Z (zb Z) (zb Z)))
       (sc Z ((zv Z (zb Z)))
       (sg Z Z (λ hg=>zA Stmt.fld4 Z (zb Z))
       (sg Z Z (λ hg=>zr Z (zk hg Z))
       (sg Z Z (λ hg=>jV Z (zk hg Z) zW)
       (sc Z ((xq Z (zb Z) (zb Z)))
       (sc Z ((y6 Z (zb Z)))
       .nil))))))))))))))))))) [0,1,2,4,5,25,55,75,95] (λ _ _ _ st12=>?_)
      refine za ?_;refine wp_ret (yZ (zJ ?_));refine yt Z st12 (t:=2) Z ?_;rw[zP,Kf (by rw[k0];decide),Kf (by rw[k1];decide),Kf (by rw[k2];decide),Kf (by rw[k3];decide),Ke k4]
     ·have k4:=h5;refine Kc ?_;refine zm st11 [0,1,2,4,5,25,55,75,95,115] (λ _ _ _ st13=>?_);refine za ?_;refine zO (c:=115) st13 Z (λ h6=>?_) λ h6=>?_
      ·have k5:=h6;refine Kc ?_;refine zq st13 (sp 1 (r:=by exact sc Z (zT (parts:=[(0,.const (.int .i64 5))]) (ns:=[1,1,1,1,1]) (zs:=[[.int .i64 0],[.string ⟨⟨[]⟩⟩],[.int .i64 0],[.string ⟨⟨[]⟩⟩],[.int .i64 0]]) Z Z (λ w a hl=>by
    intro p hp;simp only[List.mem_cons,List.not_mem_nil,or_false] at hp;rcases hp with rfl
    ·exact⟨by decide,Z⟩) (λ w a hl=>Stmt.parts (x:=⟨5,⟨[]⟩,0,⟨[]⟩,0⟩) (OpdR.cells zW hl) WU ⟨Z,trivial⟩ WU ⟨Z,trivial⟩))<|sc Z (WN Z (zb Z) (zb Z))<|segA)) [0,1,2,4,5,25,55,75,95,115] (λ _ _ _ st14=>?_)
       refine za ?_;refine wp_ret (yZ (zJ ?_));refine yt Z st14 (t:=2) Z ?_;rw[zP,Kf (by rw[k0];decide),Kf (by rw[k1];decide),Kf (by rw[k2];decide),Kf (by rw[k3];decide),Kf (by rw[k4];decide),Ke k5]
      ·have k5:=h6;refine wp_skip (yo (za (Kc ?_)));refine zm st13 [0,1,2,4,5,25,55,75,95,115] (λ _ _ _ st15=>?_);refine za (wp_ret ?_);refine yt Z st15 (t:=2) Z ?_;rw[zP,Kf (by rw[k0];decide),Kf (by rw[k1];decide),Kf (by rw[k2];decide),Kf (by rw[k3];decide),Kf (by rw[k4];decide),Kf (by rw[k5];decide)]
theorem zbQ(b:List Stmt)(hb:b.length<=1048576/\∀ s∈b,smStmt s):Fn Tryz.prog 112 [dt b] (dt (yc b)):=by
 refine xc (fn:=Tryz.f112) Tryz.func112 Z (λ M w0 _ hm st0=>?_);have hlen:=hb.1;refine Kc ?_;refine zm st0 [0,2] (λ _ _ _ st1=>?_);refine za (Kc (Kc ?_));refine zm st1 [0,2,3] (λ _ _ _ st2=>?_);refine za (wp_block ?_);refine Yo (ι:=Nat) (λ k a w=>St (Frm.of w0) 19 M [(0,dt b),(3,dt (k:Int))] a w/\k<=b.length/\(b.take k).all zP=true) (λ k=>b.length - k) 0 ?_ ?_
 ·exact⟨st2.pick (kc 0 Z (kc 3 Z .nil)),Nat.zero_le _,by simp⟩
 ·rintro k a3 w3 ⟨st3,hk,hp⟩
  refine Kc (Kc ?_);refine zm st3 [0,3,7] (λ _ _ _ st4=>?_);refine za ?_;refine zO (c:=7) st4 Z (λ h1=>?_) λ h1=>?_
  ·obtain⟨x,hx⟩:=JB h1;have hlt:=zK hx;refine wp_skip (za (Kc (wp_block (Kc ?_))));refine zq st4 (sp 2 (r:=by exact sc Z (xg Z (zb Z) (zb Z) Z (by assumption))<|sp 1 (r:=by exact sc Z (zF (l:=[.tmp 13]) Z (.cons (zb Z) .nil) (zbP _ (hb.2 _ (List.mem_of_getElem? hx))))<|segA))) [0,3,7,15] (λ _ _ _ st5=>?_);refine za ?_;refine zO (c:=15) st5 Z (λ h2=>?_) λ h2=>?_
   ·have ht:=h2;refine Kc ?_;refine zm st5 [0,2,3,7,15] (λ _ _ _ st6=>?_);refine za ?_;refine wp_ret (yZ (zJ (zJ (yZ (zJ ?_)))));refine yt Z st6 (t:=2) Z ?_;unfold yc;rw[all_fail hx (by simpa using ht)];rfl
   ·have hf:=h2;refine wp_skip (yo (za ?_));refine zq st5 (sp 1 (r:=by exact sc Z (qT Z (zb Z) zW (by simp only[arI];omega))<|segA)) [0,3,7,15] (λ _ _ _ st7=>?_);refine za ⟨k+1,⟨st7.pick (kc 0 Z (kc 3 Z .nil)),by omega,all_next hx hp (by simpa using hf)⟩,by omega⟩
  ·have hend:=JC h1;refine wp_exit (yl (yl (xS ?_)));refine za (Kc ?_);refine zm st4 [0,2,3,7] (λ _ _ _ st8=>?_);refine za (wp_ret ?_);refine yt Z st8 (t:=2) Z ?_;unfold yc;rw[all_end hend hp];rfl
theorem zbR(f:File)(hf:smFile f):Fn Tryz.prog 111 [dt f] (dt (yy f)):=by
 refine xc (fn:=Tryz.f111) Tryz.func111 Z (λ M _ _ hm st0=>?_);refine Kc ?_;refine zq st0 (sc Z (XL Z (zb Z))<|segA) [0,1,2] (λ _ _ _ st1=>?_);refine za (Kc (Kc ?_));refine zq st1 (sc Z ((zA File.fld0 Z (zb Z)))
  (sc Z ((zr Z (zb Z)))
  (sc Z ((zF (l:=[.tmp 4,.const (.int .i64 0),.const (.int .i64 2)]) Z (.cons (zb Z) (.cons zW (.cons zW .nil))) (j3 _ _ _)))
  (sc Z ((jY Z (zb Z)))
  (sc Z ((zv Z (zb Z)))
  (sg Z Z (λ hg=>zA File.fld4 Z (zb Z))
  (sg Z Z (λ hg=>zr Z (zk hg Z))
  (sg Z Z (λ hg=>zF (l:=[.tmp 9,.const (.int .i64 0),.const (.int .i64 99)]) Z (.cons (zk hg Z) (.cons zW (.cons zW .nil))) (j3 _ _ _))
  (sg Z Z (λ hg=>jY Z (zk hg Z))
  (sc Z ((jX Z (zb Z) (zb Z)))
  (sc Z ((zv Z (zb Z)))
  (sg Z Z (λ hg=>zA File.fld1 Z (zb Z))
  (sg Z Z (λ hg=>zr Z (zk hg Z))
  (sg Z Z (λ hg=>zF (l:=[.tmp 15]) Z (.cons (zk hg Z) .nil) (Z4 _ (by have:=hf.1;unfold mid;omega)))
  (sg Z Z (λ hg=>jY Z (zk hg Z))
  (sc Z ((jX Z (zb Z) (zb Z)))
  (sc Z ((zv Z (zb Z)))
  (sg Z Z (λ hg=>zA File.fld5 Z (zb Z))
  (sg Z Z (λ hg=>zr Z (zk hg Z))
  (sg Z Z (λ hg=>zF (l:=[.tmp 21]) Z (.cons (zk hg Z) .nil) (zbQ _ ⟨hf.2.2.1,hf.2.2.2⟩))
  (sg Z Z (λ hg=>jY Z (zk hg Z))
  (sc Z ((jX Z (zb Z) (zb Z)))
  .nil)))))))))))))))))))))) [0,1,2,24] (λ _ _ _ st2=>?_)
 refine za ?_;refine zO (c:=24) st2 Z (λ h1=>?_) λ h1=>?_
 ·have g1:=h1;refine Kc ?_;refine zm st2 [0,1,2,24] (λ _ _ _ st3=>?_);refine za ?_;refine wp_ret (zJ ?_);refine yt Z st3 (t:=2) Z ?_;rw[yy,Ke g1]
 ·have g1:=h1;refine wp_skip (za (Kc (Kc ?_)));refine zm st2 [0,1,2,24,26] (λ _ _ _ st4=>?_);refine za ?_;refine zO (c:=26) st4 Z (λ h2=>?_) λ h2=>?_
  ·have g2:=h2;refine Kc ?_;refine zq st4 (sc Z ((zA File.fld1 Z (zb Z)))
    (sc Z ((zr Z (zb Z)))
    (sc Z ((zcA Z (zb Z) (yz)))
    (sc Z ((zv Z (zb Z)))
    (sg Z Z (λ hg=>zA File.fld2 Z (zb Z))
    (sg Z Z (λ hg=>zr Z (zk hg Z))
    (sg Z Z (λ hg=>ZX Z (zk hg Z) (yz))
    (sc Z ((xq Z (zb Z) (zb Z)))
    (sc Z ((y6 Z (zb Z)))
    .nil))))))))) [0,1,2,24,26] (λ _ _ _ st5=>?_)
   refine za ?_;refine wp_ret (zJ ?_);refine yt Z st5 (t:=2) Z ?_;rw[yy,Kf (by rw[g1];decide),Ke g2];rfl
  ·have g2:=h2;refine wp_skip (za (Kc ?_));refine zq st4 (sc Z ((zA File.fld2 Z (zb Z)))
    (sc Z ((zr Z (zb Z)))
    (sc Z ((zF (l:=[.tmp 36]) Z (.cons (zb Z) .nil) (qb _)))
    (sc Z ((zv Z (zb Z)))
    (sg Z Z (λ hg=>zA File.fld1 Z (zb Z))
    (sg Z Z (λ hg=>zr Z (zk hg Z))
    (sg Z Z (λ hg=>zA File.fld2 Z (zb Z))
    (sg Z Z (λ hg=>zr Z (zk hg Z))
    (sg Z Z (λ hg=>zF (l:=[.tmp 40,.tmp 42]) Z (.cons (zk hg Z) (.cons (zk hg Z) .nil)) (YG _ _ (by have:=hf.1;have:=hf.2.1;omega)))
    (sg Z Z (λ hg=>zF (l:=[.tmp 43]) Z (.cons (zk hg Z) .nil) (qe _ (child_mid (by have:=hf.1;have:=hf.2.1;omega))))
    (sc Z ((xq Z (zb Z) (zb Z)))
    (sc Z ((y6 Z (zb Z)))
    .nil)))))))))))) [0,1,2,24,26] (λ _ _ _ st6=>?_)
   refine za (wp_ret ?_);refine yt Z st6 (t:=2) Z ?_;rw[yy,Kf (by rw[g1];decide),Kf (by rw[g2];decide)]
theorem zcH(f g:File):Fn Tryz.prog 160 [dt f,dt g] (dt (wa f g)):=by
 refine xc (fn:=Tryz.f160) Tryz.func160 Z (λ M _ _ hm st0=>?_);refine wqw ?_;refine zq st0 (sc Z (XL Z (zb Z))<|sc Z (XL Z (zb Z))<|segA) [0,1,2,3,4] (λ _ _ _ st1=>?_);refine zq st1 (sc Z ((zA File.fld0 Z (zb Z)))
  (sc Z ((zr Z (zb Z)))
  (sc Z ((zA File.fld0 Z (zb Z)))
  (sc Z ((zr Z (zb Z)))
  (sc Z ((jV Z (zb Z) (zb Z)))
  (sc Z ((zv Z (zb Z)))
  (sg Z Z (λ hg=>zA File.fld1 Z (zb Z))
  (sg Z Z (λ hg=>zr Z (zk hg Z))
  (sg Z Z (λ hg=>zA File.fld1 Z (zb Z))
  (sg Z Z (λ hg=>zr Z (zk hg Z))
  (sg Z Z (λ hg=>ZX Z (zk hg Z) (zk hg Z))
  (sc Z ((xq Z (zb Z) (zb Z)))
  (sc Z ((zv Z (zb Z)))
  (sg Z Z (λ hg=>zA File.fld3 Z (zb Z))
  (sg Z Z (λ hg=>zr Z (zk hg Z))
  (sg Z Z (λ hg=>zA File.fld3 Z (zb Z))
  (sg Z Z (λ hg=>zr Z (zk hg Z))
  (sg Z Z (λ hg=>op_eqT Z (zk hg Z) (zk hg Z))
  (sc Z ((xq Z (zb Z) (zb Z)))
  (sc Z ((zv Z (zb Z)))
  (sg Z Z (λ hg=>zA File.fld2 Z (zb Z))
  (sg Z Z (λ hg=>zr Z (zk hg Z))
  (sg Z Z (λ hg=>zA File.fld2 Z (zb Z))
  (sg Z Z (λ hg=>zr Z (zk hg Z))
  (sg Z Z (λ hg=>ZX Z (zk hg Z) (zk hg Z))
  (sc Z ((xq Z (zb Z) (zb Z)))
  (sc Z ((y6 Z (zb Z)))
  .nil))))))))))))))))))))))))))) [0,1,2,3,4] (λ _ _ _ st2=>?_)
 refine yt Z st2 (t:=4) Z ?_;simp[wa,cmpI]
theorem Xj(t:Tree)(f:File):Fn Tryz.prog 117 [dt t,dt f] (dt (yM t.files f)):=by
 refine xc (fn:=Tryz.f117) Tryz.func117 Z (λ M w0 _ hm st0=>?_);have hlen:=st0.fldL Tree.fld0 (s:=0) Z;refine Kc ?_;refine zq st0 (sc Z (XL Z (zb Z))<|sc Z (XL Z (zb Z))<|segA) [0,1,2,3,4] (λ _ _ _ st1=>?_);refine za (Kc (Kc ?_));refine zq st1 (segA) [0,1,2,3,4,5] (λ _ _ _ st2=>?_);refine za (wp_block ?_);refine Yo (ι:=Nat) (λ k a w=>St (Frm.of w0) 21 M [(0,dt t),(1,dt f),(2,dptr t),(3,dptr f),(5,dt (k:Int))] a w/\k<=t.files.length/\(t.files.take k).any (λ x=>wa x f)=false) (λ k=>t.files.length - k) 0 ?_ ?_
 ·exact⟨st2.pick (kc 0 Z (kc 1 Z (kc 2 Z (kc 3 Z (kc 5 Z .nil))))),Nat.zero_le _,by simp⟩
 ·rintro k a3 w3 ⟨st3,hk,hp⟩
  refine Kc (Kc ?_);refine zq st3 (segA) [0,1,2,3,5,10] (λ _ _ _ st4=>?_);refine za ?_;refine zO (c:=10) st4 Z (λ h1=>?_) λ h1=>?_
  ·obtain⟨x,hx⟩:=JB h1;have hlt:=zK hx;refine wp_skip (za (Kc (wp_block (Kc ?_))));refine XM zL [[],[0],[],[0,1,2],[0,1,2,3],[],[0,1,2,3,4,5]] [[(2,nS)],[(13,0)],[(5,nS)],[(14,1),(15,2)],[(16,3)],[(3,nS)],[(17,4),(18,5)]] st4 (D:=[_,_,_,_,_,_,_])
    (.cons Z (by decide) Z (.plain Z (zA Tree.fld0 Z (zb Z)))
    (.cons Z (by decide) Z (.plain Z (zr Z (zb Z)))
    (.cons Z (by decide) Z (.plain Z (zv Z (zb Z)))
    (.cons Z (by decide) Z (.plain Z (xg Z (zb Z) (zb Z) Z (by assumption)))
    (.cons Z (by decide) Z (.plain Z (zr Z (zb Z)))
    (.cons Z (by decide) Z (.plain Z (zr Z (zb Z)))
    (.cons Z (by decide) Z (.plain Z (zF (l:=[.tmp 17,.tmp 18]) Z (.cons (zb Z) (.cons (zb Z) .nil)) (zcH _ _)))
    .nil)))))))
    (kc 0 Z (kc 1 Z (kc 2 Z (kc 3 Z (kc 5 Z (kc 10 Z (kc 19 Z .nil))))))) (λ _ _ _ st5=>?_)
   refine za ?_;refine zO (c:=19) st5 Z (λ h2=>?_) λ h2=>?_
   ·have ht:=h2;refine Kc ?_;refine zm st5 [0,1,2,3,4,5,10,19] (λ _ _ _ st6=>?_);refine za ?_;refine wp_ret (yZ (zJ (zJ (yZ (zJ ?_)))));refine yt Z st6 (t:=4) Z ?_;exact(idx_hit hp hx ht).symm
   ·have hf:=h2;refine wp_skip (yo (za ?_));refine zq st5 (sp 1 (r:=by exact sc Z (qT Z (zb Z) zW (by simp only[arI];omega))<|segA)) [0,1,2,3,5,10,19] (λ _ _ _ st7=>?_);refine za ⟨k+1,⟨st7.pick (kc 0 Z (kc 1 Z (kc 2 Z (kc 3 Z (kc 5 Z .nil))))),by omega,any_next hx hp hf⟩,by omega⟩
  ·have hend:=JC h1;refine wp_exit (yl (yl (xS ?_)));refine za (Kc ?_);refine zm st4 [0,1,2,3,4,5,10] (λ _ _ _ st8=>?_);refine za (wp_ret ?_);refine yt Z st8 (t:=4) Z ?_;exact(idx_end hend hp).symm
theorem spec_intAt_ok(l:List Int)(n:Int):Fn Tryz.prog 114 [dt l,dt n] (dt (intAt l n)):=by
 refine xc (fn:=Tryz.f114) Tryz.func114 Z (λ M w0 _ hm st0=>?_);have hlen:=st0.lenL (s:=0) Z;refine Kc ?_;refine zm st0 [0,1,4] (λ _ _ _ st1=>?_);refine za (Kc (Kc ?_));refine zm st1 [0,1,4,5] (λ _ _ _ st2=>?_);refine za (wp_block ?_);refine Yo (ι:=Nat) (λ k a w=>St (Frm.of w0) 19 M [(0,dt l),(1,dt n),(5,dt (k:Int))] a w/\k<=l.length/\(l.take k).any (λ x=>x == n)=false) (λ k=>l.length - k) 0 ?_ ?_
 ·exact⟨st2.pick (kc 0 Z (kc 1 Z (kc 5 Z .nil))),Nat.zero_le _,by simp⟩
 ·rintro k a3 w3 ⟨st3,hk,hp⟩
  refine Kc (Kc ?_);refine zm st3 [0,1,5,9] (λ _ _ _ st4=>?_);refine za ?_;refine zO (c:=9) st4 Z (λ h1=>?_) λ h1=>?_
  ·obtain⟨x,hx⟩:=JB h1;have hlt:=zK hx;refine wp_skip (za (Kc (wp_block (Kc ?_))));refine zq st4 (sp 2 (r:=by exact sc Z (xg Z (zb Z) (zb Z) Z (by assumption))<|segA)) [0,1,5,9,17] (λ _ _ _ st5=>?_);refine za ?_;refine zO (c:=17) st5 Z (λ h2=>?_) λ h2=>?_
   ·have ht:=h2;refine Kc ?_;refine zm st5 [0,1,4,5,9,17] (λ _ _ _ st6=>?_);refine za ?_;refine wp_ret (yZ (zJ (zJ (yZ (zJ ?_)))));refine yt Z st6 (t:=4) Z ?_;exact(idx_hit hp hx ht).symm
   ·have hf:=h2;refine wp_skip (yo (za ?_));refine zq st5 (sp 1 (r:=by exact sc Z (qT Z (zb Z) zW (by simp only[arI];omega))<|segA)) [0,1,5,9,17] (λ _ _ _ st7=>?_);refine za ⟨k+1,⟨st7.pick (kc 0 Z (kc 1 Z (kc 5 Z .nil))),by omega,any_next hx hp hf⟩,by omega⟩
  ·have hend:=JC h1;refine wp_exit (yl (yl (xS ?_)));refine za (Kc ?_);refine zm st4 [0,1,4,5,9] (λ _ _ _ st8=>?_);refine za (wp_ret ?_);refine yt Z st8 (t:=4) Z ?_;exact(idx_end hend hp).symm
theorem Q6  : Fn Tryz.prog 163 [] (dt noSpec):=by
 refine xc (fn:=Tryz.f163) Tryz.func163 Z (λ M _ _ hm st0=>?_);refine wqw (Ka ?_);refine wpl_alloc (n:=3) st0 Z Z Z .nil (λ b1 _ _ hb1 hn1 _ st1=>?_);refine Kb (Ka ?_);refine Jn 2 st1 (sc Z ((xt (opds:=[]) (α:=Int) Z Z Z .nil))
  (sc Z ((zT (parts:=[(0,.const (.int .i64 0)),(1,.const (.int .i64 (-1))),(2,.tmp 1)]) (ns:=[1,1,1]) (zs:=[[.int .i64 0],[.int .i64 0],[.slice none 0 0]]) Z Z (λ w a hl=>by
    intro p hp;simp only[List.mem_cons,List.not_mem_nil,or_false] at hp;rcases hp with rfl | rfl | rfl
    ·exact⟨by decide,Z⟩
    ·exact⟨by decide,Z⟩
    ·exact⟨by decide,Rep.len (α:=(List Int)) (OpdR.cells (zb Z) hl)⟩) (λ w a hl=>Spec.parts (x:=⟨0,-1,[]⟩) (OpdR.cells zW hl) (OpdR.cells zW hl) (OpdR.cells (zb Z) hl))))
  .nil))
  (kc 0 Z (kc 2 Z .nil)) (λ _ _ _ st2=>?_)
 refine Xe st2 Z Z Z Z hb1 (.inr Z) Z (zb Z) .nil (λ _ st3=>?_);refine Kb ?_;refine ret_box Z st3 (t:=0) Z (λ _ h=>(.inl h)) ?_;rfl
theorem Q7(t:Tree)(root:Int)(p:Str)(hp:p.l.length<=1152921504606846976):Fn Tryz.prog 213 [dt t,dt root,dt p] (dt (Xg t.files root p)):=by
 refine xc (fn:=Tryz.f213) Tryz.func213 Z (λ M w0 _ hm st0=>?_);have hlen:=st0.fldL Tree.fld0 (s:=0) Z;refine Kc ?_;refine zq st0 (sc Z (XL Z (zb Z))<|segA) [0,1,2,3,6] (λ _ _ _ st1=>?_);refine za (Kc (Kc ?_));refine zm st1 [0,1,2,3,6,7] (λ _ _ _ st2=>?_);refine za (wp_block ?_);refine Yo (ι:=Nat) (λ k a w=>St (Frm.of w0) 44 M [(0,dt t),(1,dt root),(2,dt p),(3,dptr t),(7,dt (k:Int))] a w/\k<=t.files.length/\(t.files.take k).any (QY root p)=false) (λ k=>t.files.length - k) 0 ?_ ?_
 ·exact⟨st2.pick (kc 0 Z (kc 1 Z (kc 2 Z (kc 3 Z (kc 7 Z .nil))))),Nat.zero_le _,by simp⟩
 ·rintro k a3 w3 ⟨st3,hk,hq⟩
  refine Kc (Kc ?_);refine zm st3 [0,1,2,3,7,12] (λ _ _ _ st4=>?_);refine za ?_;refine zO (c:=12) st4 Z (λ h1=>?_) λ h1=>?_
  ·obtain⟨x,hx⟩:=JB h1;have hlt:=zK hx;refine wp_skip (za (Kc (wp_block (Kc ?_))));refine zq st4 (sc Z ((zA Tree.fld0 Z (zb Z)))
    (sc Z ((zr Z (zb Z)))
    (sc Z ((zv Z (zb Z)))
    (sc Z ((xg Z (zb Z) (zb Z) Z (by assumption)))
    (sc Z ((zA File.fld0 Z (zb Z)))
    (sc Z ((zr Z (zb Z)))
    (sc Z ((zv Z (zb Z)))
    (sc Z ((jV Z (zb Z) (zb Z)))
    (sc Z ((zv Z (zb Z)))
    (sg Z Z (λ hg=>zA Tree.fld0 Z (zb Z))
    (sg Z Z (λ hg=>zr Z (zk hg Z))
    (sg Z Z (λ hg=>zv Z (zb Z))
    (sg Z Z (λ hg=>xg Z (zk hg Z) (zk hg Z) Z (by assumption))
    (sg Z Z (λ hg=>zA File.fld1 Z (zk hg Z))
    (sg Z Z (λ hg=>zr Z (zk hg Z))
    (sg Z Z (λ hg=>zcA Z (zk hg Z) (yz))
    (sc Z ((xq Z (zb Z) (zb Z)))
    (sc Z ((zv Z (zb Z)))
    (sg Z Z (λ hg=>zA Tree.fld0 Z (zb Z))
    (sg Z Z (λ hg=>zr Z (zk hg Z))
    (sg Z Z (λ hg=>zv Z (zb Z))
    (sg Z Z (λ hg=>xg Z (zk hg Z) (zk hg Z) Z (by assumption))
    (sg Z Z (λ hg=>zA File.fld1 Z (zk hg Z))
    (sg Z Z (λ hg=>zr Z (zk hg Z))
    (sg Z Z (λ hg=>zv Z (zb Z))
    (sg Z Z (λ hg=>zF (l:=[.tmp 38,.tmp 39]) Z (.cons (zk hg Z) (.cons (zk hg Z) .nil)) (zaS _ _ (by assumption)))
    (sc Z ((xq Z (zb Z) (zb Z)))
    .nil))))))))))))))))))))))))))) [0,1,2,3,7,12,41] (λ _ _ _ st5=>?_)
   refine za ?_;refine zO (c:=41) st5 Z (λ h2=>?_) λ h2=>?_
   ·have ht:=h2;refine Kc ?_;refine zm st5 [0,1,2,3,6,7,12,41] (λ _ _ _ st6=>?_);refine za ?_;refine wp_ret (yZ (zJ (zJ (yZ (zJ ?_)))));refine yt Z st6 (t:=6) Z ?_;rw[Xg,any_hit (p:=QY root p) hx ht];rfl
   ·have hf:=h2;refine wp_skip (yo (za ?_));refine zq st5 (sp 1 (r:=by exact sc Z (qT Z (zb Z) zW (by simp only[arI];omega))<|segA)) [0,1,2,3,7,12,41] (λ _ _ _ st7=>?_);refine za ⟨k+1,⟨st7.pick (kc 0 Z (kc 1 Z (kc 2 Z (kc 3 Z (kc 7 Z .nil))))),by omega,any_next (p:=QY root p) hx hq hf⟩,by omega⟩
  ·have hend:=JC h1;refine wp_exit (yl (yl (xS ?_)));refine za (Kc ?_);refine zm st4 [0,1,2,3,6,7,12] (λ _ _ _ st8=>?_);refine za (wp_ret ?_);refine yt Z st8 (t:=6) Z ?_;rw[Xg,any_end hend hq];rfl
theorem zbS(l:List Int):Fn Tryz.prog 71 [dt l] (dt (jy l)):=by
 refine xc (fn:=Tryz.f71) Tryz.func71 Z (λ M w0 _ hm st0=>?_);have hlen:=st0.lenL (s:=0) Z;refine Kc ?_;refine zm st0 [0,2] (λ _ _ _ st1=>?_);refine za (Kc (Kc ?_));refine zm st1 [0,2,3] (λ _ _ _ st2=>?_);refine za (wp_block ?_);refine Yo (ι:=Nat) (λ k a w=>St (Frm.of w0) 27 M [(0,dt l),(3,dt (k:Int))] a w/\k<=l.length/\QZ l k=true) (λ k=>l.length - k) 0 ?_ ?_
 ·exact⟨st2.pick (kc 0 Z (kc 3 Z .nil)),Nat.zero_le _,Z⟩
 ·rintro k a3 w3 ⟨st3,hk,hp⟩
  refine Kc (Kc ?_);refine zm st3 [0,3,7] (λ _ _ _ st4=>?_);refine za ?_;refine zO (c:=7) st4 Z (λ h1=>?_) λ h1=>?_
  ·obtain⟨x,hx⟩:=JB h1;have hlt:=zK hx;refine wp_skip (za (Kc (wp_block (Kc ?_))));refine XM zL [[],[],[0,1],[0,1,2],[0,1,2,3],[0,1,2,3,4],[0,1,2,3,4,5],[0,1,2,3,4,5,6],[0,1,2,3,4,5,6],[0,1,2,3,4,5,6,7,8],[0,1,2,3,4,5,6],[0,1,2,3,4,5,6],[0,1,2,3,4,5,6,10,11],[0,1,2,3,4,5,6,10,11,12],[0,1,2,3,4,5,6,7,8,9,10,11,12,13],[0,1,2,3,4,5,6,7,8,9,10,11,12,13,14],[0,1,2,3,4,5,6,7,8,9,10,11,12,13,14,15]] [[(0,nS)],[(3,nS)],[(10,0),(11,1)],[(12,2)],[(13,3)],[(14,4)],[(15,5)],[(0,nS),(16,6)],[(3,nS),(16,6)],[(17,7),(18,8),(16,6)],[(0,nS),(16,6)],[(3,nS),(16,6)],[(20,10),(21,11),(16,6)],[(22,12),(16,6)],[(19,9),(23,13),(16,6)],[(24,14),(16,6)],[(16,6),(25,15)]] st4 (D:=[_,_,_,_,_,_,_,_,_,_,_,_,_,_,_,_,_])
    (.cons Z (by decide) Z (.plain Z (zv Z (zb Z)))
    (.cons Z (by decide) Z (.plain Z (zv Z (zb Z)))
    (.cons Z (by decide) Z (.plain Z (xg Z (zb Z) (zb Z) Z (by assumption)))
    (.cons Z (by decide) Z (.plain Z (zr Z (zb Z)))
    (.cons Z (by decide) Z (.plain Z (zF (l:=[.tmp 13,.const (.int .i64 0),.const (.int .i64 2)]) Z (.cons (zb Z) (.cons zW (.cons zW .nil))) (j3 _ _ _)))
    (.cons Z (by decide) Z (.plain Z (jY Z (zb Z)))
    (.cons Z (by decide) Z (.plain Z (zv Z (zb Z)))
    (.cons Z (by decide) Z (.guarded Z Z (by decide) Z zy (λ hg=>zv Z (zb Z)))
    (.cons Z (by decide) Z (.guarded Z Z (by decide) Z zy (λ hg=>zv Z (zb Z)))
    (.cons Z (by decide) Z (.guarded Z Z (by decide) Z zy (λ hg=>Qe Z (zk hg Z) (zk hg Z) Z (by omega)))
    (.cons Z (by decide) Z (.guarded Z Z (by decide) Z zy (λ hg=>zv Z (zb Z)))
    (.cons Z (by decide) Z (.guarded Z Z (by decide) Z zy (λ hg=>zv Z (zb Z)))
    (.cons Z (by decide) Z (.guarded Z Z (by decide) Z zy (λ hg=>xg Z (zk hg Z) (zk hg Z) Z (by assumption)))
    (.cons Z (by decide) Z (.guarded Z Z (by decide) Z zy (λ hg=>zr Z (zk hg Z)))
    (.cons Z (by decide) Z (.guarded Z Z (by decide) Z zy (λ hg=>zF (l:=[.tmp 19,.tmp 23]) Z (.cons (zk hg Z) (.cons (zk hg Z) .nil)) (spec_intAt_ok _ _)))
    (.cons Z (by decide) Z (.guarded Z Z (by decide) Z zy (λ hg=>jV Z (zk hg Z) zW))
    (.cons Z (by decide) Z (.plain Z (jX Z (zb Z) (zb Z)))
    .nil)))))))))))))))))
    (kc 0 Z (kc 3 Z (kc 7 Z (kc 26 Z .nil)))) (λ _ _ _ st5=>?_)
   refine za ?_;refine zO (c:=26) st5 Z (λ h2=>?_) λ h2=>?_
   ·have ht:=h2;refine Kc ?_;refine zm st5 [0,2,3,7,26] (λ _ _ _ st6=>?_);refine za ?_;refine wp_ret (yZ (zJ (zJ (yZ (zJ ?_)))));refine yt Z st6 (t:=2) Z ?_;exact(validPath_bad hx ht).symm
   ·have hf:=h2;refine wp_skip (yo (za ?_));refine zq st5 (sp 1 (r:=by exact sc Z (qT Z (zb Z) zW (by simp only[arI];omega))<|segA)) [0,3,7,26] (λ _ _ _ st7=>?_);refine za ⟨k+1,⟨st7.pick (kc 0 Z (kc 3 Z .nil)),by omega,pathTo_next hx hp hf⟩,by omega⟩
  ·have hend:=JC h1;refine wp_exit (yl (yl (xS ?_)));refine za (Kc ?_);refine zm st4 [0,2,3,7] (λ _ _ _ st8=>?_);refine za (wp_ret ?_);refine yt Z st8 (t:=2) Z ?_;exact(validPath_end hend hk hp).symm
theorem zbT(t:Tree)(ht:jZ t):Fn Tryz.prog 81 [dt t] (dt (zI t)):=by
 refine xc (fn:=Tryz.f81) Tryz.func81 Z (λ M w0 _ hm st0=>?_);have hlen:=ht.1;refine Kc ?_;refine zq st0 (sc Z (XL Z (zb Z))<|segA) [0,1,2] (λ _ _ _ st1=>?_);refine za (Kc (Kc ?_));refine zm st1 [0,1,2,3] (λ _ _ _ st2=>?_);refine za (wp_block ?_);refine Yo (ι:=Nat) (λ k a w=>St (Frm.of w0) 33 M [(0,dt t),(1,dptr t),(3,dt (k:Int))] a w/\k<=t.files.length/\W1 t.files k=true) (λ k=>t.files.length - k) 0 ?_ ?_
 ·exact⟨st2.pick (kc 0 Z (kc 1 Z (kc 3 Z .nil))),Nat.zero_le _,Z⟩
 ·rintro k a3 w3 ⟨st3,hk,hp⟩
  refine Kc (Kc ?_);refine zm st3 [0,1,3,8] (λ _ _ _ st4=>?_);refine za ?_;refine zO (c:=8) st4 Z (λ h1=>?_) λ h1=>?_
  ·obtain⟨x,hx⟩:=JB h1;have hlt:=zK hx;refine wp_skip (za (Kc (wp_block (Kc ?_))));refine XM zL [[],[0],[],[0,1,2],[0,1,2,3],[0,1,2,3,4],[0,1,2,3,4,5],[0,1,2,3,4,5,6],[0,1,2,3,4,5,6,7],[0,1,2,3,4,5,6,7],[0,1,2,3,4,5,6,7,9],[0,1,2,3,4,5,6,7],[0,1,2,3,4,5,6,7,9,10,11],[0,1,2,3,4,5,6,7,9,10,11,12],[0,1,2,3,4,5,6,7,8,9,10,11,12,13],[0,1,2,3,4,5,6,7],[0,1,2,3,4,5,6,7,8,9,10,11,12,13,14,15],[0,1,2,3,4,5,6,7,8,9,10,11,12,13,14,15,16]] [[(1,nS)],[(11,0)],[(3,nS)],[(12,1),(13,2)],[(14,3)],[(15,4)],[(16,5)],[(17,6)],[(1,nS),(18,7)],[(1,nS),(18,7)],[(20,9),(18,7)],[(3,nS),(18,7)],[(21,10),(22,11),(18,7)],[(23,12),(18,7)],[(19,8),(24,13),(18,7)],[(3,nS),(18,7)],[(25,14),(26,15),(18,7)],[(18,7),(27,16)]] st4 (D:=[_,_,_,_,_,_,_,_,_,_,_,_,_,_,_,_,_,_])
    (.cons Z (by decide) Z (.plain Z (zA Tree.fld0 Z (zb Z)))
    (.cons Z (by decide) Z (.plain Z (zr Z (zb Z)))
    (.cons Z (by decide) Z (.plain Z (zv Z (zb Z)))
    (.cons Z (by decide) Z (.plain Z (xg Z (zb Z) (zb Z) Z (by assumption)))
    (.cons Z (by decide) Z (.plain Z (zr Z (zb Z)))
    (.cons Z (by decide) Z (.plain Z (zF (l:=[.tmp 15]) Z (.cons (zb Z) .nil) (zbR _ (ht.2 _ (List.mem_of_getElem? hx)))))
    (.cons Z (by decide) Z (.plain Z (jY Z (zb Z)))
    (.cons Z (by decide) Z (.plain Z (zv Z (zb Z)))
    (.cons Z (by decide) Z (.guarded Z Z (by decide) Z zy (λ hg=>zr Z (zb Z)))
    (.cons Z (by decide) Z (.guarded Z Z (by decide) Z zy (λ hg=>zA Tree.fld0 Z (zb Z)))
    (.cons Z (by decide) Z (.guarded Z Z (by decide) Z zy (λ hg=>zr Z (zk hg Z)))
    (.cons Z (by decide) Z (.guarded Z Z (by decide) Z zy (λ hg=>zv Z (zb Z)))
    (.cons Z (by decide) Z (.guarded Z Z (by decide) Z zy (λ hg=>xg Z (zk hg Z) (zk hg Z) Z (by assumption)))
    (.cons Z (by decide) Z (.guarded Z Z (by decide) Z zy (λ hg=>zr Z (zk hg Z)))
    (.cons Z (by decide) Z (.guarded Z Z (by decide) Z zy (λ hg=>zF (l:=[.tmp 19,.tmp 24]) Z (.cons (zk hg Z) (.cons (zk hg Z) .nil)) (Xj _ _)))
    (.cons Z (by decide) Z (.guarded Z Z (by decide) Z zy (λ hg=>zv Z (zb Z)))
    (.cons Z (by decide) Z (.guarded Z Z (by decide) Z zy (λ hg=>jV Z (zk hg Z) (zk hg Z)))
    (.cons Z (by decide) Z (.plain Z (jX Z (zb Z) (zb Z)))
    .nil))))))))))))))))))
    (kc 0 Z (kc 1 Z (kc 3 Z (kc 8 Z (kc 28 Z .nil))))) (λ _ _ _ st5=>?_)
   refine za ?_;refine zO (c:=28) st5 Z (λ h2=>?_) λ h2=>?_
   ·have hq:=h2;refine Kc ?_;refine zm st5 [0,1,2,3,8,28] (λ _ _ _ st6=>?_);refine za ?_;refine wp_ret (yZ (zJ (zJ (yZ (zJ ?_)))));refine yt Z st6 (t:=2) Z ?_;exact(validTree_bad hx hq).symm
   ·have hf:=h2;refine wp_skip (yo (za ?_));refine zq st5 (sp 1 (r:=by exact sc Z (qT Z (zb Z) zW (by simp only[arI];omega))<|segA)) [0,1,3,8,28] (λ _ _ _ st7=>?_);refine za ⟨k+1,⟨st7.pick (kc 0 Z (kc 1 Z (kc 3 Z .nil))),by omega,treeTo_next hx hp hf⟩,by omega⟩
  ·have hend:=JC h1;refine wp_exit (yl (yl (xS ?_)));refine za (Kc ?_);refine zm st4 [0,1,2,3,8] (λ _ _ _ st8=>?_);refine za (wp_ret ?_);refine yt Z st8 (t:=2) Z ?_;exact(validTree_end hend hk hp)
theorem zdz(t:Tree)(roots:List Int)(p s:Str)(hr:roots.length<=1099511627776)(hp:p.l.length+s.l.length<=1152921504606846975):Fn Tryz.prog 192 [dt t,dt roots,dt p,dt s] (dt (YY t.files roots p s)):=by
 refine xc (fn:=Tryz.f192) Tryz.func192 Z (λ M w0 _ hm st0=>?_);refine Kc (Ka ?_);refine Jn 1 st0 (sc Z ((XL Z (zb Z)))
  .nil)
  (kc 0 Z (kc 1 Z (kc 2 Z (kc 3 Z (kc 4 Z .nil))))) (λ _ _ _ st1=>?_)
 refine wpl_alloc (n:=3) st1 Z Z Z (kc 0 Z (kc 1 Z (kc 2 Z (kc 3 Z (kc 4 Z .nil))))) (λ b2 _ _ hb2 hn2 _ st2=>?_);refine Kb (za (Kc ?_));refine zq st2 (sc Z (xn (α:=Int) (e:=3) Z)<|segA) [0,1,2,3,4,8,9] (λ _ _ _ st3=>?_);refine za (Kc (Kc ?_));refine zm st3 [0,1,2,3,4,8,9,10] (λ _ _ _ st4=>?_);refine za (wp_block ?_);refine Yo (ι:=Nat×List Int) (λ i a w=>∃ g,TipOK (Frm.of w0) (insO (some b2) M) g/\St (Frm.of w0) 80 (insO g (insO (some b2) M)) [(0,dt t),(1,dt roots),(2,dt p),(3,dt s),(4,dptr t),(8,draw (some b2) 3),(9,dtip g 3 i.2),(10,dt (i.1:Int))] a w/\i.1<=roots.length/\i.2.length<=i.1/\jp t.files p s i.2 (roots.drop i.1)=jp t.files p s [] roots) (λ i=>roots.length - i.1) (0,[]) ?_ ?_
 ·exact⟨none,TipOK.none_,st4.ins0.pick (kc 0 Z (kc 1 Z (kc 2 Z (kc 3 Z (kc 4 Z (kc 8 Z (kc 9 Z (kc 10 Z .nil)))))))),Nat.zero_le _,Nat.zero_le _,Z⟩
 ·rintro ⟨k,acc⟩ a5 w5 ⟨g5,hg5,st5,hk,ha,hrun⟩
  dsimp only at*;refine Kc (Kc ?_);refine zm st5 [0,1,2,3,4,8,9,10,18] (λ _ _ _ st6=>?_);refine za ?_;refine zO (c:=18) st6 Z (λ h1=>?_) λ h1=>?_
  ·obtain⟨x,hx⟩:=JB h1;have hlt:=zK hx;refine wp_skip (za (Kc (wp_block (Kc ?_))));refine XM zL [[],[],[],[1,2],[1,2,3],[],[],[5,6],[0,1,2,3,4,5,6,7],[0,1,2,3,4,5,6,7,8]] [[(4,nS)],[(1,nS)],[(10,nS)],[(22,1),(23,2)],[(24,3)],[(2,nS)],[(3,nS)],[(26,5),(27,6)],[(21,0),(25,4),(28,7)],[(29,8)]] st6 (D:=[_,_,_,_,_,_,_,_,_,_])
    (.cons Z (by decide) Z (.plain Z (zr Z (zb Z)))
    (.cons Z (by decide) Z (.plain Z (zv Z (zb Z)))
    (.cons Z (by decide) Z (.plain Z (zv Z (zb Z)))
    (.cons Z (by decide) Z (.plain Z (xg Z (zb Z) (zb Z) Z (by assumption)))
    (.cons Z (by decide) Z (.plain Z (zr Z (zb Z)))
    (.cons Z (by decide) Z (.plain Z (zv Z (zb Z)))
    (.cons Z (by decide) Z (.plain Z (zv Z (zb Z)))
    (.cons Z (by decide) Z (.plain Z (zF (l:=[.tmp 26,.tmp 27]) Z (.cons (zb Z) (.cons (zb Z) .nil)) (YG _ _ (by omega))))
    (.cons Z (by decide) Z (.plain Z (zF (l:=[.tmp 21,.tmp 25,.tmp 28]) Z (.cons (zb Z) (.cons (zb Z) (.cons (zb Z) .nil))) (Q7 _ _ _ (child_le hp))))
    (.cons Z (by decide) Z (.plain Z (y6 Z (zb Z)))
    .nil))))))))))
    (kc 0 Z (kc 1 Z (kc 2 Z (kc 3 Z (kc 4 Z (kc 8 Z (kc 9 Z (kc 10 Z (kc 11 Z (kc 18 Z .nil)))))))))) (λ _ _ _ st7=>?_)
   refine za (Kc ?_);refine XM zL [[],[],[],[1,2],[1,2,3],[],[],[5,6],[1,2,3,4,5,6,7],[0,1,2,3,4,5,6,7,8],[0,1,2,3,4,5,6,7,8,9]] [[(4,nS)],[(1,nS)],[(10,nS)],[(31,1),(32,2)],[(33,3)],[(2,nS)],[(3,nS)],[(35,5),(36,6)],[(34,4),(37,7)],[(30,0),(38,8)],[(39,9)]] st7 (D:=[_,_,_,_,_,_,_,_,_,_,_])
    (.cons Z (by decide) Z (.plain Z (zr Z (zb Z)))
    (.cons Z (by decide) Z (.plain Z (zv Z (zb Z)))
    (.cons Z (by decide) Z (.plain Z (zv Z (zb Z)))
    (.cons Z (by decide) Z (.plain Z (xg Z (zb Z) (zb Z) Z (by assumption)))
    (.cons Z (by decide) Z (.plain Z (zr Z (zb Z)))
    (.cons Z (by decide) Z (.plain Z (zv Z (zb Z)))
    (.cons Z (by decide) Z (.plain Z (zv Z (zb Z)))
    (.cons Z (by decide) Z (.plain Z (zF (l:=[.tmp 35,.tmp 36]) Z (.cons (zb Z) (.cons (zb Z) .nil)) (YG _ _ (by omega))))
    (.cons Z (by decide) Z (.plain Z (zT (parts:=[(0,.tmp 34),(1,.tmp 37),(3,.const (.bool true))]) (ns:=[1,1,1,1,1,1]) (zs:=[[.int .i64 0],[.string ⟨⟨[]⟩⟩],[.string ⟨⟨[]⟩⟩],[.bool false],[.int .i64 0],[.slice none 0 0]]) Z Z (λ w a hl=>by
    intro p hp;simp only[List.mem_cons,List.not_mem_nil,or_false] at hp;rcases hp with rfl | rfl | rfl
    ·exact⟨by decide,Rep.len (α:=Int) (OpdR.cells (zb Z) hl)⟩
    ·exact⟨by decide,Rep.len (α:=Str) (OpdR.cells (zb Z) hl)⟩
    ·exact⟨by decide,Z⟩) (λ w a hl=>File.parts (x:=⟨x,child p s,⟨[]⟩,true,0,[]⟩) (OpdR.cells (zb Z) hl) (OpdR.cells (zb Z) hl) WU (OpdR.cells opd_bool hl) ⟨Z,trivial⟩ yj)))
    (.cons Z (by decide) Z (.plain Z (zF (l:=[.tmp 30,.tmp 38]) Z (.cons (zb Z) (.cons (zb Z) .nil)) (Xj _ _)))
    (.cons Z (by decide) Z (.plain Z (y6 Z (zb Z)))
    .nil)))))))))))
    (kc 0 Z (kc 1 Z (kc 2 Z (kc 3 Z (kc 4 Z (kc 8 Z (kc 9 Z (kc 10 Z (kc 11 Z (kc 12 Z (kc 18 Z .nil))))))))))) (λ _ _ _ st8=>?_)
   refine za (Kc (Kc ?_));refine zq st8 (sc Z ((zv Z (zb Z)))
    (sc Z ((zv Z (zb Z)))
    (sg Z Z (λ hg=>zv Z (zb Z))
    (sg Z Z (λ hg=>jV Z (zk hg Z) zW)
    (sc Z ((xq Z (zb Z) (zb Z)))
    .nil))))) [0,1,2,3,4,8,9,10,11,12,18,44] (λ _ _ _ st9=>?_)
   refine za ?_;refine zO (c:=44) st9 Z (λ h2=>?_) λ h2=>?_
   ·have q1:=h2;refine Kc (Ka ?_);refine Jn 7 st9 (sc Z ((zv Z (zb Z)))
     (sc Z ((zv Z (zb Z)))
     (sc Z ((zv Z (zb Z)))
     (sc Z ((xg Z (zb Z) (zb Z) Z (by assumption)))
     (sc Z ((zr Z (zb Z)))
     (sc Z ((xt (opds:=[.tmp 49]) Z Z Z (.cons (zb Z) .nil)))
     (sc Z ((zT (parts:=[(0,.const (.int .i64 2)),(1,.tmp 45),(2,.tmp 50)]) (ns:=[1,1,1]) (zs:=[[.int .i64 0],[.int .i64 0],[.slice none 0 0]]) Z Z (λ w a hl=>by
    intro p hp;simp only[List.mem_cons,List.not_mem_nil,or_false] at hp;rcases hp with rfl | rfl | rfl
    ·exact⟨by decide,Z⟩
    ·exact⟨by decide,Rep.len (α:=Int) (OpdR.cells (zb Z) hl)⟩
    ·exact⟨by decide,Rep.len (α:=(List Int)) (OpdR.cells (zb Z) hl)⟩) (λ w a hl=>Spec.parts (x:=⟨2,yM t.files ⟨x,child p s,⟨[]⟩,true,0,[]⟩,[x]⟩) (OpdR.cells zW hl) (OpdR.cells (zb Z) hl) (OpdR.cells (zb Z) hl))))
     .nil)))))))
     (kc 0 Z (kc 1 Z (kc 2 Z (kc 3 Z (kc 4 Z (kc 8 Z (kc 9 Z (kc 10 Z (kc 11 Z (kc 12 Z (kc 18 Z (kc 44 Z (kc 51 Z .nil))))))))))))) (λ _ _ _ st10=>?_)
    refine Xe st10 Z Z Z Z hb2 (.inl (.inr Z)) Z (zb Z) (.cons (s:=0) Z (λ _ _ h=>h) (.cons (s:=1) Z (λ _ _ h=>h) (.cons (s:=2) Z (λ _ _ h=>h) (.cons (s:=3) Z (λ _ _ h=>h) (.cons (s:=4) Z (λ _ _ h=>h) (.cons (s:=9) Z (tip_off hg5 (.inr Z)) (.cons (s:=10) Z (λ _ _ h=>h) (.cons (s:=11) Z (λ _ _ h=>h) (.cons (s:=12) Z (λ _ _ h=>h) (.cons (s:=18) Z (λ _ _ h=>h) (.cons (s:=44) Z (λ _ _ h=>h) .nil))))))))))) (λ _ st11=>?_);refine Kb (za ?_);refine wp_ret (zJ (yZ (zJ (zJ (yZ (zJ ?_))))));refine ret_box Z st11 (t:=8) Z (λ _ h=>(.inl (.inl h))) ?_;rw[YY,← hrun,drop_at hx,jp,Ke q1]
   ·have q1:=h2;refine wp_skip (za (Kc ?_));refine XM zL [[],[],[],[1,2],[1,2,3],[],[],[1,2,3,4,5,6],[0,1,2,3,4,5,6,7],[0,1,2,3,4,5,6,7,8]] [[(4,nS)],[(1,nS)],[(10,nS)],[(53,1),(54,2)],[(55,3)],[(2,nS)],[(3,nS)],[(56,4),(57,5),(58,6)],[(52,0),(59,7)],[(60,8)]] st9 (D:=[_,_,_,_,_,_,_,_,_,_])
     (.cons Z (by decide) Z (.plain Z (zr Z (zb Z)))
     (.cons Z (by decide) Z (.plain Z (zv Z (zb Z)))
     (.cons Z (by decide) Z (.plain Z (zv Z (zb Z)))
     (.cons Z (by decide) Z (.plain Z (xg Z (zb Z) (zb Z) Z (by assumption)))
     (.cons Z (by decide) Z (.plain Z (zr Z (zb Z)))
     (.cons Z (by decide) Z (.plain Z (zv Z (zb Z)))
     (.cons Z (by decide) Z (.plain Z (zv Z (zb Z)))
     (.cons Z (by decide) Z (.plain Z (zT (parts:=[(0,.tmp 56),(1,.tmp 57),(2,.tmp 58)]) (ns:=[1,1,1,1,1,1]) (zs:=[[.int .i64 0],[.string ⟨⟨[]⟩⟩],[.string ⟨⟨[]⟩⟩],[.bool false],[.int .i64 0],[.slice none 0 0]]) Z Z (λ w a hl=>by
    intro p hp;simp only[List.mem_cons,List.not_mem_nil,or_false] at hp;rcases hp with rfl | rfl | rfl
    ·exact⟨by decide,Rep.len (α:=Int) (OpdR.cells (zb Z) hl)⟩
    ·exact⟨by decide,Rep.len (α:=Str) (OpdR.cells (zb Z) hl)⟩
    ·exact⟨by decide,Rep.len (α:=Str) (OpdR.cells (zb Z) hl)⟩) (λ w a hl=>File.parts (x:=⟨x,p,s,false,0,[]⟩) (OpdR.cells (zb Z) hl) (OpdR.cells (zb Z) hl) (OpdR.cells (zb Z) hl) ⟨Z,trivial⟩ ⟨Z,trivial⟩ yj)))
     (.cons Z (by decide) Z (.plain Z (zF (l:=[.tmp 52,.tmp 59]) Z (.cons (zb Z) (.cons (zb Z) .nil)) (Xj _ _)))
     (.cons Z (by decide) Z (.plain Z (y6 Z (zb Z)))
     .nil))))))))))
     (kc 0 Z (kc 1 Z (kc 2 Z (kc 3 Z (kc 4 Z (kc 8 Z (kc 9 Z (kc 10 Z (kc 11 Z (kc 12 Z (kc 13 Z (kc 18 Z (kc 44 Z .nil))))))))))))) (λ _ _ _ st12=>?_)
    refine za (Kc (Kc ?_));refine zm st12 [0,1,2,3,4,8,9,10,11,12,13,18,44,62] (λ _ _ _ st13=>?_);refine za ?_;refine zO (c:=62) st13 Z (λ h3=>?_) λ h3=>?_
    ·have q2:=h3;refine Kc (Ka ?_);refine Jn 3 st13 (sc Z ((zv Z (zb Z)))
      (sc Z ((xt (opds:=[]) (α:=Int) Z Z Z .nil))
      (sc Z ((zT (parts:=[(0,.const (.int .i64 1)),(1,.tmp 63),(2,.tmp 64)]) (ns:=[1,1,1]) (zs:=[[.int .i64 0],[.int .i64 0],[.slice none 0 0]]) Z Z (λ w a hl=>by
    intro p hp;simp only[List.mem_cons,List.not_mem_nil,or_false] at hp;rcases hp with rfl | rfl | rfl
    ·exact⟨by decide,Z⟩
    ·exact⟨by decide,Rep.len (α:=Int) (OpdR.cells (zb Z) hl)⟩
    ·exact⟨by decide,Rep.len (α:=(List Int)) (OpdR.cells (zb Z) hl)⟩) (λ w a hl=>Spec.parts (x:=⟨1,yM t.files ⟨x,p,s,false,0,[]⟩,[]⟩) (OpdR.cells zW hl) (OpdR.cells (zb Z) hl) (OpdR.cells (zb Z) hl))))
      .nil)))
      (kc 0 Z (kc 1 Z (kc 2 Z (kc 3 Z (kc 4 Z (kc 8 Z (kc 9 Z (kc 10 Z (kc 11 Z (kc 12 Z (kc 13 Z (kc 18 Z (kc 44 Z (kc 62 Z (kc 65 Z .nil))))))))))))))) (λ _ _ _ st14=>?_)
     refine Xe st14 Z Z Z Z hb2 (.inl (.inr Z)) Z (zb Z) (.cons (s:=0) Z (λ _ _ h=>h) (.cons (s:=1) Z (λ _ _ h=>h) (.cons (s:=2) Z (λ _ _ h=>h) (.cons (s:=3) Z (λ _ _ h=>h) (.cons (s:=4) Z (λ _ _ h=>h) (.cons (s:=9) Z (tip_off hg5 (.inr Z)) (.cons (s:=10) Z (λ _ _ h=>h) (.cons (s:=11) Z (λ _ _ h=>h) (.cons (s:=12) Z (λ _ _ h=>h) (.cons (s:=13) Z (λ _ _ h=>h) (.cons (s:=18) Z (λ _ _ h=>h) (.cons (s:=44) Z (λ _ _ h=>h) (.cons (s:=62) Z (λ _ _ h=>h) .nil))))))))))))) (λ _ st15=>?_);refine Kb (za ?_);refine wp_ret (zJ (yZ (zJ (zJ (yZ (zJ ?_))))));refine ret_box Z st15 (t:=8) Z (λ _ h=>(.inl (.inl h))) ?_;rw[YY,← hrun,drop_at hx,jp,Kf (by rw[q1];decide),Ke q2]
    ·have q2:=h3;refine wp_skip (za (Kc ?_));refine zm st13 [0,1,2,3,4,8,9,10,11,12,13,18,44,62,66] (λ _ _ _ st16=>?_);refine za ?_;refine zO (c:=66) st16 Z (λ h4=>?_) λ h4=>?_
     ·have q3:=h4;refine Ka ?_;refine Jn 6 st16 (sc Z ((zv Z (zb Z)))
       (sc Z ((zv Z (zb Z)))
       (sc Z ((zv Z (zb Z)))
       (sc Z ((xg Z (zb Z) (zb Z) Z (by assumption)))
       (sc Z ((zr Z (zb Z)))
       (sc Z ((xt (opds:=[.tmp 71]) Z Z Z (.cons (zb Z) .nil)))
       .nil))))))
       (kc 0 Z (kc 1 Z (kc 2 Z (kc 3 Z (kc 4 Z (kc 8 Z (kc 9 Z (kc 10 Z (kc 11 Z (kc 12 Z (kc 13 Z (kc 18 Z (kc 44 Z (kc 62 Z (kc 66 Z (kc 67 Z (kc 72 Z .nil))))))))))))))))) (λ _ _ _ st17=>?_)
      refine Qf (bytes:=8) (st17) Z Z Z Z Z yV (len1 (by omega)) (len1b (by omega)) (.cons (s:=0) Z (λ _ _ h=>h) (.cons (s:=1) Z (λ _ _ h=>h) (.cons (s:=2) Z (λ _ _ h=>h) (.cons (s:=3) Z (λ _ _ h=>h) (.cons (s:=4) Z (λ _ _ h=>h) (.cons (s:=8) Z (draw_off hg5 (.inr Z)) (.cons (s:=10) Z (λ _ _ h=>h) (.cons (s:=11) Z (λ _ _ h=>h) (.cons (s:=12) Z (λ _ _ h=>h) (.cons (s:=13) Z (λ _ _ h=>h) (.cons (s:=18) Z (λ _ _ h=>h) (.cons (s:=44) Z (λ _ _ h=>h) (.cons (s:=62) Z (λ _ _ h=>h) (.cons (s:=66) Z (λ _ _ h=>h) .nil)))))))))))))) (hg5) (λ g18 _ _ hg18 st18=>?_);refine Jn 1 st18 (sc Z ((y6 Z (zb Z)))
       .nil)
       (kc 0 Z (kc 1 Z (kc 2 Z (kc 3 Z (kc 4 Z (kc 8 Z (kc 9 Z (kc 10 Z (kc 11 Z (kc 12 Z (kc 13 Z (kc 18 Z (kc 44 Z (kc 62 Z (kc 66 Z .nil))))))))))))))) (λ _ _ _ st19=>?_)
      refine Kb (yo (za ?_));refine zq st19 (sp 1 (r:=by exact sc Z (qT Z (zb Z) zW (by simp only[arI];omega))<|segA)) [0,1,2,3,4,8,9,10,11,12,13,18,44,62,66] (λ _ _ _ st20=>?_);refine za ⟨(k+1,acc++[x]),⟨g18,hg18,st20.pick (kc 0 Z (kc 1 Z (kc 2 Z (kc 3 Z (kc 4 Z (kc 8 Z (kc 9 Z (kc 10 Z .nil)))))))),by dsimp only;omega,by dsimp only;rw[List.length_append];exact Nat.succ_le_succ ha,by dsimp only;rw[← hrun,drop_at hx];exact(by rw[jp,Kf (by rw[q1];decide),Kf (by rw[q2];decide),Ke q3])⟩,by dsimp only;omega⟩
     ·have q3:=h4;refine wp_skip (yo (za ?_));refine zq st16 (sp 1 (r:=by exact sc Z (qT Z (zb Z) zW (by simp only[arI];omega))<|segA)) [0,1,2,3,4,8,9,10,11,12,13,18,44,62,66] (λ _ _ _ st21=>?_);refine za ⟨(k+1,acc),⟨g5,hg5,st21.pick (kc 0 Z (kc 1 Z (kc 2 Z (kc 3 Z (kc 4 Z (kc 8 Z (kc 9 Z (kc 10 Z .nil)))))))),by dsimp only;omega,by dsimp only;omega,by dsimp only;rw[← hrun,drop_at hx];exact(by rw[jp,Kf (by rw[q1];decide),Kf (by rw[q2];decide),Kf (by rw[q3];decide)])⟩,by dsimp only;omega⟩
  ·have hend:=JC h1;refine wp_exit (yl (yl (xS ?_)));refine za (Kc (Kc ?_));refine zq st6 (sp 1 (r:=by exact sc Z (op_lenT Z (zb Z))<|segA)) [0,1,2,3,4,8,9,10,18,76] (λ _ _ _ st22=>?_);refine za ?_;refine zO (c:=76) st22 Z (λ h5=>?_) λ h5=>?_
   ·have q4:=h5;refine Kc ?_;have st23:=st22.freeze hg5 (s:=9) Z (.cons (s:=0) Z (λ _ _ h=>h) (.cons (s:=1) Z (λ _ _ h=>h) (.cons (s:=2) Z (λ _ _ h=>h) (.cons (s:=3) Z (λ _ _ h=>h) (.cons (s:=4) Z (λ _ _ h=>h) (.cons (s:=8) Z (draw_off hg5 (.inr Z)) (.cons (s:=10) Z (λ _ _ h=>h) (.cons (s:=18) Z (λ _ _ h=>h) (.cons (s:=76) Z (λ _ _ h=>h) .nil)))))))));refine Ka ?_;refine Jn 2 st23 (sc Z ((zv Z (zb Z)))
     (sc Z ((zT (parts:=[(0,.const (.int .i64 3)),(1,.const (.int .i64 (-1))),(2,.tmp 77)]) (ns:=[1,1,1]) (zs:=[[.int .i64 0],[.int .i64 0],[.slice none 0 0]]) Z Z (λ w a hl=>by
    intro p hp;simp only[List.mem_cons,List.not_mem_nil,or_false] at hp;rcases hp with rfl | rfl | rfl
    ·exact⟨by decide,Z⟩
    ·exact⟨by decide,Z⟩
    ·exact⟨by decide,Rep.len (α:=(List Int)) (OpdR.cells (zb Z) hl)⟩) (λ w a hl=>Spec.parts (x:=⟨3,-1,acc⟩) (OpdR.cells zW hl) (OpdR.cells zW hl) (OpdR.cells (zb Z) hl))))
     .nil))
     (kc 0 Z (kc 1 Z (kc 2 Z (kc 3 Z (kc 4 Z (kc 8 Z (kc 9 Z (kc 10 Z (kc 18 Z (kc 76 Z (kc 78 Z .nil))))))))))) (λ _ _ _ st24=>?_)
    refine Xe st24 Z Z Z Z hb2 (.inr Z) Z (zb Z) (.cons (s:=0) Z (λ _ _ h=>h) (.cons (s:=1) Z (λ _ _ h=>h) (.cons (s:=2) Z (λ _ _ h=>h) (.cons (s:=3) Z (λ _ _ h=>h) (.cons (s:=4) Z (λ _ _ h=>h) (.cons (s:=9) Z (λ _ _ h=>h) (.cons (s:=10) Z (λ _ _ h=>h) (.cons (s:=18) Z (λ _ _ h=>h) (.cons (s:=76) Z (λ _ _ h=>h) .nil))))))))) (λ _ st25=>?_);refine Kb (za ?_);refine wp_ret (zJ ?_);refine ret_box Z st25 (t:=8) Z (λ _ h=>(.inl h)) ?_;rw[YY,← hrun,List.drop_of_length_le hend,jp,Ke q4]
   ·have q4:=h5;refine wp_skip (za (Kc (Ka ?_)));refine Jn 1 st22 (sc Z ((zF (l:=[]) Z .nil (Q6 )))
     .nil)
     (kc 0 Z (kc 1 Z (kc 2 Z (kc 3 Z (kc 4 Z (kc 8 Z (kc 9 Z (kc 10 Z (kc 18 Z (kc 76 Z (kc 79 Z .nil))))))))))) (λ _ _ _ st26=>?_)
    refine Xe st26 Z Z Z Z hb2 (.inl (.inr Z)) Z (zb Z) (.cons (s:=0) Z (λ _ _ h=>h) (.cons (s:=1) Z (λ _ _ h=>h) (.cons (s:=2) Z (λ _ _ h=>h) (.cons (s:=3) Z (λ _ _ h=>h) (.cons (s:=4) Z (λ _ _ h=>h) (.cons (s:=9) Z (tip_off hg5 (.inr Z)) (.cons (s:=10) Z (λ _ _ h=>h) (.cons (s:=18) Z (λ _ _ h=>h) (.cons (s:=76) Z (λ _ _ h=>h) .nil))))))))) (λ _ st27=>?_);refine Kb (za (wp_ret ?_));refine ret_box Z st27 (t:=8) Z (λ _ h=>(.inl (.inl h))) ?_;rw[YY,← hrun,List.drop_of_length_le hend,jp,Kf (by rw[q4];decide)]
end Go.Proofs.YtandbaloaenciaaGreatDoor
