import Derived.Test.YtoomehfflopakaaGreatDoorTC
namespace Go.Proofs.YtoomehfflopakaaGreatDoor
open Go.RowKit
attribute [local irreducible] OpRel OpdR
set_option maxRecDepth 10000
theorem zN:Tryz.prog.follows .mixedOrders=true:=by kernel_rfl
theorem qH(n lo up:Int):Fn Tryz.prog 32 [dt n,dt lo,dt up] (dt (inR n lo up)):=by
 refine xd (fn:=Tryz.f32) Tryz.func32 Z (λ M _ _ hm st0=>?_);refine wqw ?_;refine zp st0 [0,1,2,6] (λ _ _ _ st1=>?_);refine zr st1 (sc Z (zD Z T)
  (sc Z (zD Z T)
  (sc Z (qC Z T T)
  (sc Z (zD Z T)
  (sg Z Z (λ hg=>zD Z T)
  (sg Z Z (λ hg=>zD Z T)
  (sg Z Z (λ hg=>qC Z V V)
  (sc Z (xc Z T T)
  (sc Z (xo Z T)
  .nil))))))))) [0,1,2,6] (λ _ _ _ st2=>?_)
 refine yv Z st2 (t:=6) Z ?_;rfl
theorem zfb(l:List Str)(s:Str):Fn Tryz.prog 224 [dt l,dt s] (dt (textAt l s)):=by
 refine xd (fn:=Tryz.f224) Tryz.func224 Z (λ M w0 _ hm st0=>?_);have hlen:=st0.lenL (s:=0) Z;refine Ka ?_;refine zp st0 [0,1,4] (λ _ _ _ st1=>?_);refine za ?_;refine Ka ?_;refine Ka ?_;refine zp st1 [0,1,4,5] (λ _ _ _ st2=>?_);refine za ?_;refine aT ?_;refine YF (ι:=Nat) (λ k a w=>St (Frm.of w0) 19 M [(0,dt l),(1,dt s),(5,dt (k:Int))] a w/\k<=l.length/\(l.take k).any (λ x=>decide (x=s))=false) (λ k=>l.length - k) 0 ?_ ?_
 ·exact⟨st2.pick (pT [0,1,5]),ao _,by simp⟩
 ·rintro k a3 w3 ⟨st3,hk,hp⟩
  refine Ka ?_;refine Ka ?_;refine zp st3 [0,1,5,9] (λ _ _ _ st4=>?_);refine za ?_;refine zR (c:=9) st4 Z (λ h1=>?_) λ h1=>?_
  ·obtain⟨x,hx⟩:=QD h1;have hlt:=zJ hx;refine aC ?_;refine za ?_;refine Ka ?_;refine aT ?_;refine Ka ?_;refine zr st4 (sp 2 (r:=by exact sc Z (wF Z T T Z (by assumption))<|segA)) [0,1,5,9,17] (λ _ _ _ st5=>?_);refine za ?_;refine zR (c:=17) st5 Z (λ h2=>?_) λ h2=>?_
   ·have ht:=h2;refine Ka ?_;refine zp st5 [0,1,4,5,9,17] (λ _ _ _ st6=>?_);refine za ?_;refine wp_ret (wn (zZ (zZ (wn (zZ ?_)))));refine yv Z st6 (t:=4) Z ?_;exact(idx_hit hp hx ht).symm
   ·have hf:=h2;refine aC ?_;refine yP ?_;refine za ?_;refine zr st5 (sp 1 (r:=by exact sc Z (Zf Z T yl (by simp only[arI];omega))<|segA)) [0,1,5,9,17] (λ _ _ _ st7=>?_);refine za ⟨k+1,⟨st7.pick (pT [0,1,5]),by omega,zc6 hx hp hf⟩,by omega⟩
  ·have hend:=QE h1;refine cj (yz (yz (wG ?_)));refine za ?_;refine Ka ?_;refine zp st4 [0,1,4,5,9] (λ _ _ _ st8=>?_);refine za ?_;refine wp_ret ?_;refine yv Z st8 (t:=4) Z ?_;exact(idx_end hend hp).symm
theorem zeS(l:List Str)(s:Str):Fn Tryz.prog 206 [dt l,dt s] (dt (jg l s)):=by
 refine xd (fn:=Tryz.f206) Tryz.func206 Z (λ M _ _ hm st0=>?_);refine wqw ?_;refine zp st0 [0,1,4] (λ _ _ _ st1=>?_);refine zr st1 (sp 2 (r:=by exact sc Z (zA (l:=[.tmp 5,.tmp 6]) Z (.cons T (.cons T .nil)) (zfb _ _))<|segA)) [0,1,4] (λ _ _ _ st2=>?_);refine yv Z st2 (t:=4) Z ?_;rfl
theorem qP(s:Str):Fn Tryz.prog 92 [dt s] (dt (zF s)):=by
 refine xd (fn:=Tryz.f92) Tryz.func92 Z (λ M w0 _ hm st0=>?_);have hlen:s.l.length<=9223372036854775807:=st0.lenS (s:=0) Z;refine Ka ?_;refine zp st0 [0,2] (λ _ _ _ st1=>?_);refine za ?_;refine Ka ?_;refine Ka ?_;refine zr st1 (sp 2 (r:=by exact sc Z (zA (l:=[.tmp 5,.const (.int .i64 1),.const (.int .i64 3)]) Z (.cons T (.cons yl (.cons yl .nil))) (qH _ _ _))<|segA)) [0,2,7] (λ _ _ _ st2=>?_);refine za ?_;refine zR (c:=7) st2 Z (λ h1=>?_) λ h1=>?_
 ·have h7:=h1;refine Ka ?_;refine zp st2 [0,2,7] (λ _ _ _ st3=>?_);refine za ?_;refine wp_ret (zZ ?_);refine yv Z st3 (t:=2) Z ?_;unfold zF;rw[cw] at h7;simp[h7]
 ·have h7:=h1;refine aC ?_;refine za ?_;refine Ka ?_;refine Ka ?_;refine zp st2 [0,2,3,7] (λ _ _ _ st4=>?_);refine za ?_;refine aT ?_;refine YF (ι:=Nat) (λ k a w=>St (Frm.of w0) 24 M [(0,dt s),(3,dt (k:Int))] a w/\k<=s.l.length/\(s.l.take k).all low=true) (λ k=>s.l.length - k) 0 ?_ ?_
  ·exact⟨st4.pick (pT [0,3]),ao _,by simp⟩
  ·rintro k a5 w5 ⟨st5,hk,hp⟩
   refine Ka ?_;refine Ka ?_;refine zp st5 [0,3,11] (λ _ _ _ st6=>?_);refine za ?_;refine zR (c:=11) st6 Z (λ h2=>?_) λ h2=>?_
   ·obtain⟨x,hx⟩:=idxS_of h2;have hlt:=zJ hx;refine aC ?_;refine za ?_;refine Ka ?_;refine aT ?_;refine Ka ?_;refine zr st6 (sc Z (zD Z T)
     (sc Z (zD Z T)
     (sc Z (op_byte Z T T (by assumption))
     (sc Z (op_cmpB Z T (QC))
     (sc Z (zD Z T)
     (sg Z Z (λ hg=>zD Z T)
     (sg Z Z (λ hg=>zD Z T)
     (sg Z Z (λ hg=>op_byte Z V V (by assumption))
     (sg Z Z (λ hg=>op_cmpB Z V (QC))
     (sc Z (qm Z T T)
     .nil)))))))))) [0,3,11,23] (λ _ _ _ st7=>?_)
    refine za ?_;refine zR (c:=23) st7 Z (λ h3=>?_) λ h3=>?_
    ·have ht:=h3;refine Ka ?_;refine zp st7 [0,2,3,11,23] (λ _ _ _ st8=>?_);refine za ?_;refine wp_ret (wn (zZ (zZ (wn (zZ ?_)))));refine yv Z st8 (t:=2) Z ?_;unfold zF;rw[all_fail (p:=low) hx (by unfold low;rw[ht];rfl)];simp
    ·have hf:=h3;refine aC ?_;refine yP ?_;refine za ?_;refine zr st7 (sp 1 (r:=by exact sc Z (Zf Z T yl (by simp only[arI];omega))<|segA)) [0,3,11,23] (λ _ _ _ st9=>?_);refine za ⟨k+1,⟨st9.pick (pT [0,3]),by omega,all_next hx hp (by unfold low;rw[hf];rfl)⟩,by omega⟩
   ·have hend:=endS_of h2;refine cj (yz (yz (wG ?_)));refine za ?_;refine Ka ?_;refine zp st6 [0,2,3,11] (λ _ _ _ a8=>?_);refine za ?_;refine wp_ret ?_;refine yv Z a8 (t:=2) Z ?_;unfold zF;rw[all_end hend hp];rw[dL] at h7;exact(by simpa using h7.symm)
theorem Ye(s:Str)(c:UInt8)(hs:mid s):Fn Tryz.prog 95 [dt s,dt c] (dt (zB s c)):=by
 refine xd (fn:=Tryz.f95) Tryz.func95 Z (λ M w0 _ hm st0=>?_);have hlen:s.l.length<=1099511627776:=hs;refine Ka ?_;refine zr st0 (sc Z (xo Z (wu (α:=Str)))
  .nil) [0,1,4] (λ _ _ _ st1=>?_)
 refine za ?_;refine Ka ?_;refine zr st1 (sc Z (xt (α:=Str) (e:=9) Z)<|segA) [0,1,4,5] (λ _ _ _ st2=>?_);refine za ?_;refine Ka ?_;refine zp st2 [0,1,4,5,6] (λ _ _ _ st3=>?_);refine za ?_;refine Ka ?_;refine Ka ?_;refine zp st3 [0,1,4,5,6,7] (λ _ _ _ st4=>?_);refine za ?_;refine aT ?_;refine YF (ι:=Nat×Nat) (λ p a w=>∃ g,TipOK (Frm.of w0) M g/\St (Frm.of w0) 35 (insO g M) [(0,dt s),(1,dt c),(5,dtip g 9 (xU c (s.l.take p.1)).1),(6,dt (p.2:Int)),(7,dt (p.1:Int))] a w/\p.1<=s.l.length/\p.2<=p.1/\(xU c (s.l.take p.1)).2=⟨(s.l.take p.1).drop p.2⟩/\(xU c (s.l.take p.1)).1.length<=p.1) (λ p=>s.l.length - p.1) (0,0) ?_ ?_
 ·exact⟨none,TipOK.none_,st4.ins0.pick (pT [0,1,5,6,7]),ao _,ak _,Z,ak _⟩
 ·rintro ⟨k,b⟩ a5 w5 ⟨g5,hg5,st5,hk,hb,g2,g1⟩
  dsimp only at*;refine Ka ?_;refine Ka ?_;refine zp st5 [0,1,5,6,7,12] (λ _ _ _ st6=>?_);refine za ?_;refine zR (c:=12) st6 Z (λ h1=>?_) λ h1=>?_
  ·obtain⟨x,hx⟩:=idxS_of h1;have hlt:=zJ hx;refine aC ?_;refine za ?_;refine Ka ?_;refine aT ?_;refine Ka ?_;refine zr st6 (sp 2 (r:=by exact sc Z (op_byte Z T T (by assumption))<|sp 1 (r:=by exact sc Z (op_cmpB Z T T)<|.nil))) [0,1,5,6,7,12,19] (λ _ _ _ st7=>?_);refine za ?_;refine zR (c:=19) st7 Z (λ h2=>?_) λ h2=>?_
   ·have ht:=h2;refine Ka ?_;refine QY ?_;refine zaJ 6 st7 (sc Z (zD Z T)
     (sc Z (zD Z T)
     (sc Z (zD Z T)
     (sc Z (zD Z T)
     (sc Z (op_cutLH Z T T T (by omega) (by omega) (by omega))
     (sc Z (xH (opds:=[.tmp 24]) Z Z Z (.cons T .nil))
     .nil))))))
     (pT [0,1,5,6,7,12,19,20,25]) (λ _ _ _ st8=>?_)
    refine WI (bytes:=16) (st8) Z Z Z Z Z yI (len1 (by omega)) (len1b (by omega)) (.cons (s:=0) Z (λ _ _ h=>h) (.cons (s:=1) Z (λ _ _ h=>h) (.cons (s:=6) Z (λ _ _ h=>h) (.cons (s:=7) Z (λ _ _ h=>h) (.cons (s:=12) Z (λ _ _ h=>h) (.cons (s:=19) Z (λ _ _ h=>h) .nil)))))) (hg5) (λ g9 _ _ hg9 st9=>?_);refine zaJ 1 st9 (sc Z (xo Z T)
     .nil)
     (pT [0,1,5,6,7,12,19]) (λ _ _ _ a8=>?_)
    refine Wz ?_;refine za ?_;refine zr a8 (sp 1 (r:=by exact sc Z (Zf Z T yl (by simp only[arI];omega))<|segA)) [0,1,5,6,7,12,19] (λ _ _ _ a9=>?_);refine yP ?_;refine za ?_;refine zr a9 (sp 1 (r:=by exact sc Z (Zf Z T yl (by simp only[arI];omega))<|segA)) [0,1,5,6,7,12,19] (λ _ _ _ b3=>?_);refine za ⟨(k+1,k+1),⟨g9,hg9,?_,by dsimp only;omega,by dsimp only;omega,split_hit2 hx ht hlt,by dsimp only;rw[zcF hx ht g2,ap];exact Nat.succ_le_succ g1⟩,by dsimp only;omega⟩;dsimp only;first | rw[zcF hx ht g2] | rw[za0 hx hf]
    exact b3.pick (pT [0,1,5,6,7])
   ·have hf:=h2;refine aC ?_;refine yP ?_;refine za ?_;refine zr st7 (sp 1 (r:=by exact sc Z (Zf Z T yl (by simp only[arI];omega))<|segA)) [0,1,5,6,7,12,19] (λ _ _ _ b5=>?_);refine za ⟨(k+1,b),⟨g5,hg5,?_,by dsimp only;omega,by dsimp only;omega,split_miss2 hx hf g2 hb hlt,by dsimp only;rw[za0 hx hf];omega⟩,by dsimp only;omega⟩;dsimp only;first | rw[zcF hx ht g2] | rw[za0 hx hf]
    exact b5.pick (pT [0,1,5,6,7])
  ·have hend:=endS_of h1;refine cj (yz (yz (wG ?_)));refine za ?_;refine Ka ?_;refine QY ?_;refine zaJ 5 st6 (sc Z (zD Z T)
    (sc Z (zD Z T)
    (sc Z (zD Z T)
    (sc Z (op_cutL Z (by kernel_rfl) T T (by omega) (by omega))
    (sc Z (xH (opds:=[.tmp 32]) Z Z Z (.cons T .nil))
    .nil)))))
    (pT [0,1,5,6,7,12,29,33]) (λ _ _ _ b6=>?_)
   refine WI (bytes:=16) (b6) Z Z Z Z Z yI (len1 (by omega)) (len1b (by omega)) (.cons (s:=0) Z (λ _ _ h=>h) (.cons (s:=1) Z (λ _ _ h=>h) (.cons (s:=6) Z (λ _ _ h=>h) (.cons (s:=7) Z (λ _ _ h=>h) (.cons (s:=12) Z (λ _ _ h=>h) .nil))))) (hg5) (λ b9 _ _ hg15 b7=>?_);refine zaJ 1 b7 (sc Z (xo Z T)
    .nil)
    (pT [0,1,4,6,7,12]) (λ _ _ _ b8=>?_)
   refine Wz ?_;refine za ?_;refine wp_ret ?_;refine ret_tip Z (hg15) b8 (t:=4) Z ?_;exact split_end hend g2
theorem qQ(s:Str)(hs:mid s):Fn Tryz.prog 60 [dt s] (dt (zm s)):=by
 refine xd (fn:=Tryz.f60) Tryz.func60 Z (λ M w0 _ hm st0=>?_);refine Ka ?_;refine zp st0 [0,2] (λ _ _ _ st1=>?_);refine za ?_;refine Ka ?_;refine zr st1 (sp 1 (r:=by exact sc Z (zA (l:=[.tmp 5,.const (.int .u8 46)]) Z (.cons T (.cons (QC) .nil)) (Ye _ dot (by assumption)))<|segA)) [0,2,3] (λ _ _ _ st2=>?_);refine za ?_;refine Ka ?_;refine Ka ?_;refine zp st2 [0,2,3,4] (λ _ _ _ st3=>?_);refine za ?_;refine aT ?_;refine YF (ι:=Nat) (λ k a w=>St (Frm.of w0) 22 M [(0,dt s),(3,dt (zB s dot)),(4,dt (k:Int))] a w/\k<=(zB s dot).length/\((zB s dot).take k).all zF=true) (λ k=>(zB s dot).length - k) 0 ?_ ?_
 ·exact⟨st3.pick (pT [0,3,4]),ao _,by simp⟩
 ·rintro k a4 w4 ⟨st4,hk,hp⟩
  have hlen:=st4.lenL (s:=3) Z;refine Ka ?_;refine Ka ?_;refine zp st4 [0,3,4,10] (λ _ _ _ st5=>?_);refine za ?_;refine zR (c:=10) st5 Z (λ h1=>?_) λ h1=>?_
  ·obtain⟨x,hx⟩:=QD h1;have hlt:=zJ hx;refine aC ?_;refine za ?_;refine Ka ?_;refine aT ?_;refine Ka ?_;refine zr st5 (sp 2 (r:=by exact sc Z (wF Z T T Z (by assumption))<|sp 1 (r:=by exact sc Z (zA (l:=[.tmp 16]) Z (.cons T .nil) (qP _))<|segA))) [0,3,4,10,18] (λ _ _ _ st6=>?_);refine za ?_;refine zR (c:=18) st6 Z (λ h2=>?_) λ h2=>?_
   ·have ht:=h2;refine Ka ?_;refine zp st6 [0,2,3,4,10,18] (λ _ _ _ st7=>?_);refine za ?_;refine wp_ret (wn (zZ (zZ (wn (zZ ?_)))));refine yv Z st7 (t:=2) Z ?_;unfold zm;rw[all_fail hx (by simpa using ht)];rfl
   ·have hf:=h2;refine aC ?_;refine yP ?_;refine za ?_;refine zr st6 (sp 1 (r:=by exact sc Z (Zf Z T yl (by simp only[arI];omega))<|segA)) [0,3,4,10,18] (λ _ _ _ st8=>?_);refine za ⟨k+1,⟨st8.pick (pT [0,3,4]),by omega,all_next hx hp (by simpa using hf)⟩,by omega⟩
  ·have hend:=QE h1;refine cj (yz (yz (wG ?_)));refine za ?_;refine Ka ?_;refine zp st5 [0,2,3,4,10] (λ _ _ _ st9=>?_);refine za ?_;refine wp_ret ?_;refine yv Z st9 (t:=2) Z ?_;unfold zm;rw[all_end hend hp];rfl
theorem YT(s:Str)(hs:mid s):Fn Tryz.prog 91 [dt s] (dt (zf s)):=by
 refine xd (fn:=Tryz.f91) Tryz.func91 Z (λ M _ _ hm st0=>?_);refine wqw ?_;refine zp st0 [0,2] (λ _ _ _ st1=>?_);refine zr st1 (sc Z (zD Z T)
  (sc Z (YD Z T (yS))
  (sc Z (zD Z T)
  (sg Z Z (λ hg=>zD Z T)
  (sg Z Z (λ hg=>zA (l:=[.tmp 6]) Z (.cons V .nil) (qQ _ hs))
  (sc Z (qm Z T T)
  (sc Z (xo Z T)
  .nil))))))) [0,2] (λ _ _ _ st2=>?_)
 refine yv Z st2 (t:=2) Z ?_;rfl
theorem zdd(l:List Str)(hl:jF l<=1152921504606846976):Fn Tryz.prog 147 [dt l] (dt (join l)):=by
 refine xd (fn:=Tryz.f147) Tryz.func147 Z (λ M w0 _ hm st0=>?_);have hlen:=st0.lenL (s:=0) Z;refine Ka ?_;refine zp st0 [0,2] (λ _ _ _ st1=>?_);refine za ?_;refine Ka ?_;refine zp st1 [0,2,3] (λ _ _ _ st2=>?_);refine za ?_;refine Ka ?_;refine Ka ?_;refine zp st2 [0,2,3,4] (λ _ _ _ st3=>?_);refine za ?_;refine aT ?_;refine YF (ι:=Nat) (λ k a w=>St (Frm.of w0) 22 M [(0,dt l),(3,dt (Xa (l.take k)).1),(4,dt (k:Int))] a w/\k<=l.length) (λ k=>l.length - k) 0 ?_ ?_
 ·exact⟨st3.pick (pT [0,3,4]),ao _⟩
 ·rintro k a4 w4 ⟨st4,hk⟩
  refine Ka ?_;refine Ka ?_;refine zp st4 [0,3,4,8] (λ _ _ _ st5=>?_);refine za ?_;refine zR (c:=8) st5 Z (λ h1=>?_) λ h1=>?_
  ·obtain⟨x,hx⟩:=QD h1;have hlt:=zJ hx;have hroom:=join_room hx;refine aC ?_;refine za ?_;refine Ka ?_;refine aT ?_;refine Ka ?_;refine Ka ?_;refine zp st5 [0,3,4,8,12] (λ _ _ _ st6=>?_);refine za ?_;refine zR (c:=12) st6 Z (λ h2=>?_) λ h2=>?_
   ·have ht:=h2;refine zr st6 (sp 1 (r:=by exact sc Z (zcA Z T (yS) (by first | (unfold maxLen;omega) | (simp only[bf];unfold maxLen;omega)))<|segA)) [0,3,4,8,12] (λ _ _ _ st7=>?_);refine za ?_;refine zr st7 (sp 3 (r:=by exact sc Z (wF Z T T Z (by assumption))<|sp 1 (r:=by exact sc Z (zcA Z T T (by first | (unfold maxLen;omega) | (simp only[ap,bf];unfold maxLen;omega)))<|segA))) [0,3,4,8,12] (λ _ _ _ st8=>?_);refine yP ?_;refine za ?_;refine zr st8 (sp 1 (r:=by exact sc Z (Zf Z T yl (by simp only[arI];omega))<|segA)) [0,3,4,8,12] (λ _ _ _ st9=>?_);refine za ⟨k+1,⟨?_,by omega⟩,by omega⟩
    first | rw[join_hit hx ht] | rw[zd6 hx hf]
    exact st9.pick (pT [0,3,4])
   ·have hf:=h2;refine aC ?_;refine za ?_;refine zr st6 (sp 3 (r:=by exact sc Z (wF Z T T Z (by assumption))<|sp 1 (r:=by exact sc Z (zcA Z T T (by first | (unfold maxLen;omega) | (simp only[ap,bf];unfold maxLen;omega)))<|segA))) [0,3,4,8,12] (λ _ _ _ a8=>?_);refine yP ?_;refine za ?_;refine zr a8 (sp 1 (r:=by exact sc Z (Zf Z T yl (by simp only[arI];omega))<|segA)) [0,3,4,8,12] (λ _ _ _ a9=>?_);refine za ⟨k+1,⟨?_,by omega⟩,by omega⟩
    first | rw[join_hit hx ht] | rw[zd6 hx hf]
    exact a9.pick (pT [0,3,4])
  ·have hend:=QE h1;refine cj (yz (yz (wG ?_)));refine za ?_;refine Ka ?_;refine zp st5 [0,2,3,4,8] (λ _ _ _ b3=>?_);refine za ?_;refine wp_ret ?_;refine yv Z b3 (t:=2) Z ?_;exact join_end hend
theorem zfc(s:Str)(hs:mid s):Fn Tryz.prog 103 [dt s] (dt (yb s)):=by
 refine xd (fn:=Tryz.f103) Tryz.func103 Z (λ M _ _ hm st0=>?_);refine wqw ?_;have hlen:s.l.length<=1099511627776:=hs;have hne:=Q0 s dot;have hroom:=YQ s dot;have hlr:=zc8 (zB s dot);refine zp st0 [0,2] (λ _ _ _ st1=>?_);refine zr st1 (sp 1 (r:=by exact sc Z (zA (l:=[.tmp 4,.const (.int .u8 46)]) Z (.cons T (.cons (QC) .nil)) (Ye _ dot (by assumption)))<|segA)) [0,2,3] (λ _ _ _ st2=>?_);refine zr st2 (sp 3 (r:=by exact sc Z (Zf Z T yl (by simp only[arI];omega))<|sc Z (zan Z T T (j:=(zB s dot).length - 1) (by simp only[arI];omega) (by omega))<|sc Z (zA (l:=[.tmp 10]) Z (.cons T .nil) (zdd _ (by have:=YP (zB s dot) ((zB s dot).length - 1);omega)))<|segA)) [0,2,3] (λ _ _ _ st3=>?_);refine yv Z st3 (t:=2) Z ?_;rfl
theorem QM(p s:Str)(hc:p.l.length+s.l.length<=1152921504606846976):Fn Tryz.prog 93 [dt p,dt s] (dt (child p s)):=by
 refine xd (fn:=Tryz.f93) Tryz.func93 Z (λ M _ _ hm st0=>?_);refine Ka ?_;refine zp st0 [0,1,4] (λ _ _ _ st1=>?_);refine za ?_;refine Ka ?_;refine Ka ?_;refine zp st1 [0,1,4,6] (λ _ _ _ st2=>?_);refine za ?_;refine zR (c:=6) st2 Z (λ h1=>?_) λ h1=>?_
 ·have ht:=h1;refine Ka ?_;refine zp st2 [0,1,4,6] (λ _ _ _ st3=>?_);refine za ?_;refine wp_ret (zZ ?_);refine yv Z st3 (t:=4) Z ?_;exact(Kc (oD ht)).symm
 ·have hf:=h1;refine aC ?_;refine za ?_;refine Ka ?_;refine zr st2 (sp 1 (r:=by exact sc Z (zcA Z T (yS) (by first | (unfold maxLen;omega) | (simp only[bf];unfold maxLen;omega)))<|sp 1 (r:=by exact sc rfl (zcA rfl (zb rfl) (zb rfl) (by first | (unfold maxLen;omega) | (simp only[ap,bf];unfold maxLen;omega)))<|segA))) [0,1,4,6] (λ _ _ _ st4=>?_);refine za ?_;refine wp_ret ?_;refine yv Z st4 (t:=4) Z ?_;exact(Kd (bC hf)).symm
theorem spec_last_ok(s:Str)(hs:mid s):Fn Tryz.prog 108 [dt s] (dt (qn s)):=by
 refine xd (fn:=Tryz.f108) Tryz.func108 Z (λ M _ _ hm st0=>?_);refine wqw ?_;have hne:=Q0 s dot;have hroom:=YQ s dot;have hlen:=zc8 (zB s dot);have hms:s.l.length<=1099511627776:=hs;refine zp st0 [0,2] (λ _ _ _ st1=>?_);refine zr st1 (sp 1 (r:=by exact sc Z (zA (l:=[.tmp 4,.const (.int .u8 46)]) Z (.cons T (.cons (QC) .nil)) (Ye _ dot (by assumption)))<|segA)) [0,2,3] (λ _ _ _ st2=>?_);refine zr st2 (sp 3 (r:=by exact sc Z (Zf Z T yl (by simp only[arI];omega))<|sc Z (wF Z T T (k:=(zB s dot).length - 1) (by simp only[arI];omega) (last_get s))<|segA)) [0,2,3] (λ _ _ _ st3=>?_);refine yv Z st3 (t:=2) Z ?_;rfl
theorem spec_above_ok(s:Str)(hs:mid s):Fn Tryz.prog 202 [dt s] (dt (zb5 s)):=by
 refine xd (fn:=Tryz.f202) Tryz.func202 Z (λ M w0 _ hm st0=>?_);have hroom:=YQ s dot;have hlen:=zc8 (zB s dot);have hms:s.l.length<=1099511627776:=hs;refine Ka ?_;refine zr st0 (sc Z (xo Z (wu (α:=Str)))
  .nil) [0,2] (λ _ _ _ st1=>?_)
 refine za ?_;refine Ka ?_;refine zr st1 (sp 1 (r:=by exact sc Z (zA (l:=[.tmp 6,.const (.int .u8 46)]) Z (.cons T (.cons (QC) .nil)) (Ye _ dot (by assumption)))<|segA)) [0,2,3] (λ _ _ _ st2=>?_);refine za ?_;refine Ka ?_;refine zr st2 (sc Z (xt (α:=Str) (e:=9) Z)<|segA) [0,2,3,4] (λ _ _ _ st3=>?_);refine za ?_;refine Ka ?_;refine Ka ?_;refine zp st3 [0,2,3,4,5] (λ _ _ _ st4=>?_);refine za ?_;refine aT ?_;refine YF (ι:=Nat) (λ k a w=>∃ g,TipOK (Frm.of w0) M g/\St (Frm.of w0) 23 (insO g M) [(0,dt s),(3,dt (zB s dot)),(4,dtip g 9 (X9 (zB s dot) k)),(5,dt ((k+1:Nat):Int))] a w/\k<=(zB s dot).length) (λ k=>(zB s dot).length - k) 0 ?_ ?_
 ·exact⟨none,TipOK.none_,st4.ins0.pick (pT [0,3,4,5]),ao _⟩
 ·rintro k a5 w5 ⟨g5,hg5,st5,hk⟩
  refine Ka ?_;refine Ka ?_;refine zp st5 [0,3,4,5,12] (λ _ _ _ st6=>?_);refine za ?_;refine zR (c:=12) st6 Z (λ h1=>?_) λ h1=>?_
  ·have hlt:k+1<=(zB s dot).length:=by have:=oD h1;omega
   have hal:=JG (zB s dot) k;have htk:=YP (zB s dot) (k+1);refine aC ?_;refine za ?_;refine Ka ?_;refine aT ?_;refine QY ?_;refine zaJ 6 st6 (sc Z (zD Z T)
    (sc Z (zD Z T)
    (sc Z (zD Z T)
    (sc Z (zan Z T T Z (by omega))
    (sc Z (zA (l:=[.tmp 18]) Z (.cons T .nil) (zdd _ (by omega)))
    (sc Z (xH (opds:=[.tmp 19]) Z Z Z (.cons T .nil))
    .nil))))))
    (pT [0,3,4,5,12,15,20]) (λ _ _ _ st7=>?_)
   refine WI (bytes:=16) (st7) Z Z Z Z Z yI (len1 (by omega)) (len1b (by omega)) (.cons (s:=0) Z (λ _ _ h=>h) (.cons (s:=3) Z (λ _ _ h=>h) (.cons (s:=5) Z (λ _ _ h=>h) (.cons (s:=12) Z (λ _ _ h=>h) .nil)))) (hg5) (λ g8 _ _ hg8 st8=>?_);refine zaJ 1 st8 (sc Z (xo Z T)
    .nil)
    (pT [0,3,4,5,12]) (λ _ _ _ st9=>?_)
   refine Wz ?_;refine yP ?_;refine za ?_;refine zr st9 (sp 1 (r:=by exact sc Z (Zf Z T yl (by simp only[arI];omega))<|segA)) [0,3,4,5,12] (λ _ _ _ a8=>?_);refine za ⟨k+1,⟨g8,hg8,?_,by omega⟩,by omega⟩;rw[zb4];exact a8.pick (pT [0,3,4,5])
  ·have hend:(zB s dot).length<=k:=by have:=bC h1;omega
   refine cj (yz (yz (wG ?_)));refine za ?_;refine Ka ?_;refine zp st6 [0,2,3,4,5,12] (λ _ _ _ a9=>?_);refine za ?_;refine wp_ret ?_;refine ret_tip Z (hg5) a9 (t:=2) Z ?_;rw[zb5,ei hk hend]
theorem zb6(s p:Str)(hp:p.l.length<=1152921504606846976):Fn Tryz.prog 221 [dt s,dt p] (dt (under s p)):=by
 refine xd (fn:=Tryz.f221) Tryz.func221 Z (λ M _ _ hm st0=>?_);refine wqw ?_;refine zp st0 [0,1,4] (λ _ _ _ st1=>?_);refine zr st1 (sc Z (zD Z T)
  (sc Z (YD Z T (yS))
  (sc Z (zD Z T)
  (sg Z Z (λ hg=>zD Z T)
  (sg Z Z (λ hg=>zD Z T)
  (sg Z Z (λ hg=>YD Z V V)
  (sc Z (qm Z T T)
  (sc Z (zD Z T)
  (sg Z Z (λ hg=>zD Z T)
  (sg Z Z (λ hg=>zbI Z V)
  (sg Z Z (λ hg=>zD Z T)
  (sg Z Z (λ hg=>zbI Z V)
  (sg Z Z (λ hg=>qC Z V V)
  (sg Z Z (λ hg=>zD Z V)
  (.cons Z (by decide) (.guarded2 Z Z (by decide) Z zy (λ hg=>zD Z T))
  (.cons Z (by decide) (.guarded2 Z Z (by decide) Z zy (λ hg=>zD Z T))
  (.cons Z (by decide) (.guarded2 Z Z (by decide) Z zy (λ hg=>zbI Z V))
  (.cons Z (by decide) (.guarded2 Z Z (by decide) Z zy (λ hg=>Zf Z V yl (by simp only[arI];omega)))
  (.cons Z (by decide) (.guarded2 Z Z (by decide) Z zy (λ hg=>op_cutH Z (by kernel_rfl) V V (by simp only[arI];omega) (by simp only[arI];have:=oD (and_r hg);omega)))
  (.cons Z (by decide) (.guarded2 Z Z (by decide) Z zy (λ hg=>zD Z T))
  (.cons Z (by decide) (.guarded2 Z Z (by decide) Z zy (λ hg=>zcA Z V (yS) (by first | (unfold maxLen;omega) | (simp only[bf];unfold maxLen;omega))))
  (.cons Z (by decide) (.guarded2 Z Z (by decide) Z zy (λ hg=>YD Z V V))
  (sg Z Z (λ hg=>xc Z V (zd5 hg Z))
  (sc Z (qm Z T T)
  (sc Z (xo Z T)
  .nil))))))))))))))))))))))))) [0,1,4] (λ _ _ _ st2=>?_)
 refine yv Z st2 (t:=4) Z ?_;exact under_of
theorem zcJ(f:File)(hf:smFile f):Fn Tryz.prog 189 [dt f] (dt (y9 f)):=by
 refine xd (fn:=Tryz.f189) Tryz.func189 Z (λ M _ _ hm st0=>?_);refine Ka ?_;refine zr st0 (sc Z (JZ Z T)<|segA) [0,1,2] (λ _ _ _ st1=>?_);refine za ?_;refine Ka ?_;refine Ka ?_;refine zp st1 [0,1,2,4] (λ _ _ _ st2=>?_);refine za ?_;refine zR (c:=4) st2 Z (λ h1=>?_) λ h1=>?_
 ·have ht:=h1;refine Ka ?_;refine zp st2 [0,1,2,4] (λ _ _ _ st3=>?_);refine za ?_;refine wp_ret (zZ ?_);refine yv Z st3 (t:=2) Z ?_;rw[y9,Kc ht]
 ·have hff:=h1;refine aC ?_;refine za ?_;refine Ka ?_;refine zr st2 (sp 4 (r:=by exact sc Z (zA (l:=[.tmp 8,.tmp 10]) Z (.cons T (.cons T .nil)) (QM _ _ (by have:=hf.1;have:=hf.2.1;omega)))<|segA)) [0,1,2,4] (λ _ _ _ st4=>?_);refine za ?_;refine wp_ret ?_;refine yv Z st4 (t:=2) Z ?_;rw[y9,Kd (by simp[hff])]
theorem zde(s:Stmt)(hs:smStmt s):Fn Tryz.prog 94 [dt s] (dt (zL s)):=by
 refine xd (fn:=Tryz.f94) Tryz.func94 Z (λ M _ _ hm st0=>?_);refine Ka ?_;refine zr st0 (sc Z (JZ Z T)<|segA) [0,1,2] (λ _ _ _ st1=>?_);refine za ?_;refine Ka ?_;refine Ka ?_;refine zp st1 [0,1,2,4] (λ _ _ _ st2=>?_);refine za ?_;refine aT ?_;refine Ka ?_;refine zp st2 [0,1,2,4,5] (λ _ _ _ st3=>?_);refine za ?_;refine zR (c:=5) st3 Z (λ h1=>?_) λ h1=>?_
 ·have k0:=h1;refine Ka ?_;refine zr st3 (sc Z (zI Stmt.fld1 Z T)
   (sc Z (zH Z T)
   (sc Z (zA (l:=[.tmp 8]) Z (.cons T .nil) (qQ _ (by have:=hs.1;unfold mid;omega)))
   (sc Z (zD Z T)
   (sg Z Z (λ hg=>zI Stmt.fld2 Z T)
   (sg Z Z (λ hg=>zH Z V)
   (sg Z Z (λ hg=>qC Z V yl)
   (sc Z (xc Z T T)
   (sc Z (zD Z T)
   (sg Z Z (λ hg=>zI Stmt.fld3 Z T)
   (sg Z Z (λ hg=>zH Z V)
   (sg Z Z (λ hg=>YD Z V (yS))
   (sc Z (xc Z T T)
   (sc Z (zD Z T)
   (sg Z Z (λ hg=>zI Stmt.fld4 Z T)
   (sg Z Z (λ hg=>zH Z V)
   (sg Z Z (λ hg=>qC Z V yl)
   (sc Z (xc Z T T)
   (sc Z (xo Z T)
   .nil))))))))))))))))))) [0,1,2,4,5] (λ _ _ _ st4=>?_)
  refine za ?_;refine wp_ret (wn (zZ ?_));refine yv Z st4 (t:=2) Z ?_;rw[zL,Kc k0]
 ·have k0:=h1;refine Ka ?_;refine zp st3 [0,1,2,4,5,25] (λ _ _ _ st5=>?_);refine za ?_;refine zR (c:=25) st5 Z (λ h2=>?_) λ h2=>?_
  ·have k1:=h2;refine Ka ?_;refine zr st5 (sc Z (zI Stmt.fld1 Z T)
    (sc Z (zH Z T)
    (sc Z (zA (l:=[.tmp 28]) Z (.cons T .nil) (YT _ (by have:=hs.1;unfold mid;omega)))
    (sc Z (zD Z T)
    (sg Z Z (λ hg=>zI Stmt.fld2 Z T)
    (sg Z Z (λ hg=>zH Z V)
    (sg Z Z (λ hg=>zA (l:=[.tmp 32,.const (.int .i64 0),.const (.int .i64 3)]) Z (.cons V (.cons yl (.cons yl .nil))) (qH _ _ _))
    (sc Z (xc Z T T)
    (sc Z (zD Z T)
    (sg Z Z (λ hg=>zI Stmt.fld1 Z T)
    (sg Z Z (λ hg=>zH Z V)
    (sg Z Z (λ hg=>zd1 Z V (yS))
    (sg Z Z (λ hg=>zD Z V)
    (.cons Z (by decide) (.guarded2 Z Z (by decide) Z zy (λ hg=>zI Stmt.fld2 Z T))
    (.cons Z (by decide) (.guarded2 Z Z (by decide) Z zy (λ hg=>zH Z V))
    (.cons Z (by decide) (.guarded2 Z Z (by decide) Z zy (λ hg=>qC Z V yl))
    (sg Z Z (λ hg=>qm Z V (zd5 hg Z))
    (sc Z (xc Z T T)
    (sc Z (zD Z T)
    (sg Z Z (λ hg=>zI Stmt.fld3 Z T)
    (sg Z Z (λ hg=>zH Z V)
    (sg Z Z (λ hg=>zA (l:=[.tmp 47]) Z (.cons V .nil) (qP _))
    (sc Z (xc Z T T)
    (sc Z (zD Z T)
    (sg Z Z (λ hg=>zI Stmt.fld4 Z T)
    (sg Z Z (λ hg=>zH Z V)
    (sg Z Z (λ hg=>qC Z V yl)
    (sc Z (xc Z T T)
    (sc Z (xo Z T)
    .nil))))))))))))))))))))))))))))) [0,1,2,4,5,25] (λ _ _ _ st6=>?_)
   refine za ?_;refine wp_ret (wn (zZ ?_));refine yv Z st6 (t:=2) Z ?_;rw[zL,Kd (by rw[k0];decide),Kc k1]
  ·have k1:=h2;refine Ka ?_;refine zp st5 [0,1,2,4,5,25,55] (λ _ _ _ st7=>?_);refine za ?_;refine zR (c:=55) st7 Z (λ h3=>?_) λ h3=>?_
   ·have k2:=h3;refine Ka ?_;refine zr st7 (sc Z (zI Stmt.fld1 Z T)
     (sc Z (zH Z T)
     (sc Z (zA (l:=[.tmp 58]) Z (.cons T .nil) (qQ _ (by have:=hs.1;unfold mid;omega)))
     (sc Z (zD Z T)
     (sg Z Z (λ hg=>zI Stmt.fld2 Z T)
     (sg Z Z (λ hg=>zH Z V)
     (sg Z Z (λ hg=>qC Z V yl)
     (sc Z (xc Z T T)
     (sc Z (zD Z T)
     (sg Z Z (λ hg=>zI Stmt.fld3 Z T)
     (sg Z Z (λ hg=>zH Z V)
     (sg Z Z (λ hg=>YD Z V (yS))
     (sc Z (xc Z T T)
     (sc Z (zD Z T)
     (sg Z Z (λ hg=>zI Stmt.fld4 Z T)
     (sg Z Z (λ hg=>zH Z V)
     (sg Z Z (λ hg=>qC Z V yl)
     (sc Z (xc Z T T)
     (sc Z (xo Z T)
     .nil))))))))))))))))))) [0,1,2,4,5,25,55] (λ _ _ _ st8=>?_)
    refine za ?_;refine wp_ret (wn (zZ ?_));refine yv Z st8 (t:=2) Z ?_;rw[zL,Kd (by rw[k0];decide),Kd (by rw[k1];decide),Kc k2]
   ·have k2:=h3;refine Ka ?_;refine zp st7 [0,1,2,4,5,25,55,75] (λ _ _ _ st9=>?_);refine za ?_;refine zR (c:=75) st9 Z (λ h4=>?_) λ h4=>?_
    ·have k3:=h4;refine Ka ?_;refine zr st9 (sc Z (zI Stmt.fld1 Z T)
      (sc Z (zH Z T)
      (sc Z (YD Z T (yS))
      (sc Z (zD Z T)
      (sg Z Z (λ hg=>zI Stmt.fld2 Z T)
      (sg Z Z (λ hg=>zH Z V)
      (sg Z Z (λ hg=>qC Z V yl)
      (sc Z (xc Z T T)
      (sc Z (zD Z T)
      (sg Z Z (λ hg=>zI Stmt.fld3 Z T)
      (sg Z Z (λ hg=>zH Z V)
      (sg Z Z (λ hg=>zA (l:=[.tmp 87]) Z (.cons V .nil) (qP _))
      (sc Z (xc Z T T)
      (sc Z (zD Z T)
      (sg Z Z (λ hg=>zI Stmt.fld4 Z T)
      (sg Z Z (λ hg=>zH Z V)
      (sg Z Z (λ hg=>zA (l:=[.tmp 92,.const (.int .i64 0),.const (.int .i64 99)]) Z (.cons V (.cons yl (.cons yl .nil))) (qH _ _ _))
      (sc Z (xc Z T T)
      (sc Z (xo Z T)
      .nil))))))))))))))))))) [0,1,2,4,5,25,55,75] (λ _ _ _ b3=>?_)
     refine za ?_;refine wp_ret (wn (zZ ?_));refine yv Z b3 (t:=2) Z ?_;rw[zL,Kd (by rw[k0];decide),Kd (by rw[k1];decide),Kd (by rw[k2];decide),Kc k3]
    ·have k3:=h4;refine Ka ?_;refine zp st9 [0,1,2,4,5,25,55,75,95] (λ _ _ _ a8=>?_);refine za ?_;refine zR (c:=95) a8 Z (λ h5=>?_) λ h5=>?_
     ·have k4:=h5;refine Ka ?_;refine zr a8 (sc Z (zI Stmt.fld1 Z T)
       (sc Z (zH Z T)
       (sc Z (YD Z T (yS))
       (sc Z (zD Z T)
       (sg Z Z (λ hg=>zI Stmt.fld2 Z T)
       (sg Z Z (λ hg=>zH Z V)
       (sg Z Z (λ hg=>qC Z V yl)
       (sc Z (xc Z T T)
       (sc Z (zD Z T)
       (sg Z Z (λ hg=>zI Stmt.fld3 Z T)
       (sg Z Z (λ hg=>zH Z V)
       (sg Z Z (λ hg=>zA (l:=[.tmp 107]) Z (.cons V .nil) (qP _))
       (sc Z (xc Z T T)
       (sc Z (zD Z T)
       (sg Z Z (λ hg=>zI Stmt.fld4 Z T)
       (sg Z Z (λ hg=>zH Z V)
       (sg Z Z (λ hg=>qC Z V yl)
       (sc Z (xc Z T T)
       (sc Z (xo Z T)
       .nil))))))))))))))))))) [0,1,2,4,5,25,55,75,95] (λ _ _ _ b5=>?_)
      refine za ?_;refine wp_ret (wn (zZ ?_));refine yv Z b5 (t:=2) Z ?_;rw[zL,Kd (by rw[k0];decide),Kd (by rw[k1];decide),Kd (by rw[k2];decide),Kd (by rw[k3];decide),Kc k4]
     ·have k4:=h5;refine Ka ?_;refine zp a8 [0,1,2,4,5,25,55,75,95,115] (λ _ _ _ a9=>?_);refine za ?_;refine zR (c:=115) a9 Z (λ h6=>?_) λ h6=>?_
      ·have k5:=h6;refine Ka ?_;refine zr a9 (sp 1 (r:=by exact sc Z (yf (parts:=[(0,.const (.int .i64 5))]) (ns:=[1,1,1,1,1]) (zs:=[[.int .i64 0],[.string ⟨⟨[]⟩⟩],[.int .i64 0],[.string ⟨⟨[]⟩⟩],[.int .i64 0]]) Z Z (λ w a hl=>by
    intro p hp;simp only[am,aS,ch] at hp;rcases hp with rfl
    ·exact⟨by decide,Z⟩) (λ w a hl=>Stmt.parts (x:=⟨5,⟨[]⟩,0,⟨[]⟩,0⟩) (OpdR.cells yl hl) J2 ⟨Z,trivial⟩ J2 ⟨Z,trivial⟩))<|sc Z (JS Z T T)<|segA)) [0,1,2,4,5,25,55,75,95,115] (λ _ _ _ b6=>?_)
       refine za ?_;refine wp_ret (wn (zZ ?_));refine yv Z b6 (t:=2) Z ?_;rw[zL,Kd (by rw[k0];decide),Kd (by rw[k1];decide),Kd (by rw[k2];decide),Kd (by rw[k3];decide),Kd (by rw[k4];decide),Kc k5]
      ·have k5:=h6;refine aC ?_;refine yP ?_;refine za ?_;refine Ka ?_;refine zp a9 [0,1,2,4,5,25,55,75,95,115] (λ _ _ _ b7=>?_);refine za ?_;refine wp_ret ?_;refine yv Z b7 (t:=2) Z ?_;rw[zL,Kd (by rw[k0];decide),Kd (by rw[k1];decide),Kd (by rw[k2];decide),Kd (by rw[k3];decide),Kd (by rw[k4];decide),Kd (by rw[k5];decide)]
theorem zdf(b:List Stmt)(hb:b.length<=1048576/\∀ s∈b,smStmt s):Fn Tryz.prog 59 [dt b] (dt (zO b)):=by
 refine xd (fn:=Tryz.f59) Tryz.func59 Z (λ M w0 _ hm st0=>?_);have hlen:=hb.1;refine Ka ?_;refine zp st0 [0,2] (λ _ _ _ st1=>?_);refine za ?_;refine Ka ?_;refine Ka ?_;refine zp st1 [0,2,3] (λ _ _ _ st2=>?_);refine za ?_;refine aT ?_;refine YF (ι:=Nat) (λ k a w=>St (Frm.of w0) 19 M [(0,dt b),(3,dt (k:Int))] a w/\k<=b.length/\(b.take k).all zL=true) (λ k=>b.length - k) 0 ?_ ?_
 ·exact⟨st2.pick (pT [0,3]),ao _,by simp⟩
 ·rintro k a3 w3 ⟨st3,hk,hp⟩
  refine Ka ?_;refine Ka ?_;refine zp st3 [0,3,7] (λ _ _ _ st4=>?_);refine za ?_;refine zR (c:=7) st4 Z (λ h1=>?_) λ h1=>?_
  ·obtain⟨x,hx⟩:=QD h1;have hlt:=zJ hx;refine aC ?_;refine za ?_;refine Ka ?_;refine aT ?_;refine Ka ?_;refine zr st4 (sp 2 (r:=by exact sc Z (wF Z T T Z (by assumption))<|sp 1 (r:=by exact sc Z (zA (l:=[.tmp 13]) Z (.cons T .nil) (zde _ (hb.2 _ (ac hx))))<|segA))) [0,3,7,15] (λ _ _ _ st5=>?_);refine za ?_;refine zR (c:=15) st5 Z (λ h2=>?_) λ h2=>?_
   ·have ht:=h2;refine Ka ?_;refine zp st5 [0,2,3,7,15] (λ _ _ _ st6=>?_);refine za ?_;refine wp_ret (wn (zZ (zZ (wn (zZ ?_)))));refine yv Z st6 (t:=2) Z ?_;unfold zO;rw[all_fail hx (by simpa using ht)];rfl
   ·have hf:=h2;refine aC ?_;refine yP ?_;refine za ?_;refine zr st5 (sp 1 (r:=by exact sc Z (Zf Z T yl (by simp only[arI];omega))<|segA)) [0,3,7,15] (λ _ _ _ st7=>?_);refine za ⟨k+1,⟨st7.pick (pT [0,3]),by omega,all_next hx hp (by simpa using hf)⟩,by omega⟩
  ·have hend:=QE h1;refine cj (yz (yz (wG ?_)));refine za ?_;refine Ka ?_;refine zp st4 [0,2,3,7] (λ _ _ _ st8=>?_);refine za ?_;refine wp_ret ?_;refine yv Z st8 (t:=2) Z ?_;unfold zO;rw[all_end hend hp];rfl
theorem zdg(f:File)(hf:smFile f):Fn Tryz.prog 58 [dt f] (dt (z9 f)):=by
 refine xd (fn:=Tryz.f58) Tryz.func58 Z (λ M _ _ hm st0=>?_);refine Ka ?_;refine zr st0 (sc Z (JZ Z T)<|segA) [0,1,2] (λ _ _ _ st1=>?_);refine za ?_;refine Ka ?_;refine Ka ?_;refine zr st1 (sc Z (zI File.fld0 Z T)
  (sc Z (zH Z T)
  (sc Z (zA (l:=[.tmp 4,.const (.int .i64 0),.const (.int .i64 2)]) Z (.cons T (.cons yl (.cons yl .nil))) (qH _ _ _))
  (sc Z (XR Z T)
  (sc Z (zD Z T)
  (sg Z Z (λ hg=>zI File.fld4 Z T)
  (sg Z Z (λ hg=>zH Z V)
  (sg Z Z (λ hg=>zA (l:=[.tmp 9,.const (.int .i64 0),.const (.int .i64 99)]) Z (.cons V (.cons yl (.cons yl .nil))) (qH _ _ _))
  (sg Z Z (λ hg=>XR Z V)
  (sc Z (qm Z T T)
  (sc Z (zD Z T)
  (sg Z Z (λ hg=>zI File.fld1 Z T)
  (sg Z Z (λ hg=>zH Z V)
  (sg Z Z (λ hg=>zA (l:=[.tmp 15]) Z (.cons V .nil) (YT _ (by have:=hf.1;unfold mid;omega)))
  (sg Z Z (λ hg=>XR Z V)
  (sc Z (qm Z T T)
  (sc Z (zD Z T)
  (sg Z Z (λ hg=>zI File.fld5 Z T)
  (sg Z Z (λ hg=>zH Z V)
  (sg Z Z (λ hg=>zA (l:=[.tmp 21]) Z (.cons V .nil) (zdf _ ⟨hf.2.2.1,hf.2.2.2⟩))
  (sg Z Z (λ hg=>XR Z V)
  (sc Z (qm Z T T)
  .nil)))))))))))))))))))))) [0,1,2,24] (λ _ _ _ st2=>?_)
 refine za ?_;refine zR (c:=24) st2 Z (λ h1=>?_) λ h1=>?_
 ·have g1:=h1;refine Ka ?_;refine zp st2 [0,1,2,24] (λ _ _ _ st3=>?_);refine za ?_;refine wp_ret (zZ ?_);refine yv Z st3 (t:=2) Z ?_;rw[z9,Kc g1]
 ·have g1:=h1;refine aC ?_;refine za ?_;refine Ka ?_;refine Ka ?_;refine zp st2 [0,1,2,24,26] (λ _ _ _ st4=>?_);refine za ?_;refine zR (c:=26) st4 Z (λ h2=>?_) λ h2=>?_
  ·have g2:=h2;refine Ka ?_;refine zr st4 (sc Z (zI File.fld1 Z T)
    (sc Z (zH Z T)
    (sc Z (zd1 Z T (yS))
    (sc Z (zD Z T)
    (sg Z Z (λ hg=>zI File.fld2 Z T)
    (sg Z Z (λ hg=>zH Z V)
    (sg Z Z (λ hg=>YD Z V (yS))
    (sc Z (xc Z T T)
    (sc Z (xo Z T)
    .nil))))))))) [0,1,2,24,26] (λ _ _ _ st5=>?_)
   refine za ?_;refine wp_ret (zZ ?_);refine yv Z st5 (t:=2) Z ?_;rw[z9,Kd (by rw[g1];decide),Kc g2];rfl
  ·have g2:=h2;refine aC ?_;refine za ?_;refine Ka ?_;refine zr st4 (sc Z (zI File.fld2 Z T)
    (sc Z (zH Z T)
    (sc Z (zA (l:=[.tmp 36]) Z (.cons T .nil) (qP _))
    (sc Z (zD Z T)
    (sg Z Z (λ hg=>zI File.fld1 Z T)
    (sg Z Z (λ hg=>zH Z V)
    (sg Z Z (λ hg=>zI File.fld2 Z T)
    (sg Z Z (λ hg=>zH Z V)
    (sg Z Z (λ hg=>zA (l:=[.tmp 40,.tmp 42]) Z (.cons V (.cons V .nil)) (QM _ _ (by have:=hf.1;have:=hf.2.1;omega)))
    (sg Z Z (λ hg=>zA (l:=[.tmp 43]) Z (.cons V .nil) (qQ _ (child_mid (by have:=hf.1;have:=hf.2.1;omega))))
    (sc Z (xc Z T T)
    (sc Z (xo Z T)
    .nil)))))))))))) [0,1,2,24,26] (λ _ _ _ st6=>?_)
   refine za ?_;refine wp_ret ?_;refine yv Z st6 (t:=2) Z ?_;rw[z9,Kd (by rw[g1];decide),Kd (by rw[g2];decide)]
theorem zeb(f g:File):Fn Tryz.prog 203 [dt f,dt g] (dt (wd f g)):=by
 refine xd (fn:=Tryz.f203) Tryz.func203 Z (λ M _ _ hm st0=>?_);refine wqw ?_;refine zr st0 (sc Z (JZ Z T)<|sc Z (JZ Z T)<|segA) [0,1,2,3,4] (λ _ _ _ st1=>?_);refine zr st1 (sc Z (zI File.fld0 Z T)
  (sc Z (zH Z T)
  (sc Z (zI File.fld0 Z T)
  (sc Z (zH Z T)
  (sc Z (qC Z T T)
  (sc Z (zD Z T)
  (sg Z Z (λ hg=>zI File.fld1 Z T)
  (sg Z Z (λ hg=>zH Z V)
  (sg Z Z (λ hg=>zI File.fld1 Z T)
  (sg Z Z (λ hg=>zH Z V)
  (sg Z Z (λ hg=>YD Z V V)
  (sc Z (xc Z T T)
  (sc Z (zD Z T)
  (sg Z Z (λ hg=>zI File.fld3 Z T)
  (sg Z Z (λ hg=>zH Z V)
  (sg Z Z (λ hg=>zI File.fld3 Z T)
  (sg Z Z (λ hg=>zH Z V)
  (sg Z Z (λ hg=>op_eqT Z V V)
  (sc Z (xc Z T T)
  (sc Z (zD Z T)
  (sg Z Z (λ hg=>zI File.fld2 Z T)
  (sg Z Z (λ hg=>zH Z V)
  (sg Z Z (λ hg=>zI File.fld2 Z T)
  (sg Z Z (λ hg=>zH Z V)
  (sg Z Z (λ hg=>YD Z V V)
  (sc Z (xc Z T T)
  (sc Z (xo Z T)
  .nil))))))))))))))))))))))))))) [0,1,2,3,4] (λ _ _ _ st2=>?_)
 refine yv Z st2 (t:=4) Z ?_;simp[wd,cmpI]
theorem za9(t:Tree)(f:File):Fn Tryz.prog 182 [dt t,dt f] (dt (qF t.files f)):=by
 refine xd (fn:=Tryz.f182) Tryz.func182 Z (λ M w0 _ hm st0=>?_);have hlen:=st0.fldL Tree.fld0 (s:=0) Z;refine Ka ?_;refine zr st0 (sc Z (JZ Z T)<|sc Z (JZ Z T)<|segA) [0,1,2,3,4] (λ _ _ _ st1=>?_);refine za ?_;refine Ka ?_;refine Ka ?_;refine zr st1 (segA) [0,1,2,3,4,5] (λ _ _ _ st2=>?_);refine za ?_;refine aT ?_;refine YF (ι:=Nat) (λ k a w=>St (Frm.of w0) 21 M [(0,dt t),(1,dt f),(2,dptr t),(3,dptr f),(5,dt (k:Int))] a w/\k<=t.files.length/\(t.files.take k).any (λ x=>wd x f)=false) (λ k=>t.files.length - k) 0 ?_ ?_
 ·exact⟨st2.pick (pT [0,1,2,3,5]),ao _,by simp⟩
 ·rintro k a3 w3 ⟨st3,hk,hp⟩
  refine Ka ?_;refine Ka ?_;refine zr st3 (segA) [0,1,2,3,5,10] (λ _ _ _ st4=>?_);refine za ?_;refine zR (c:=10) st4 Z (λ h1=>?_) λ h1=>?_
  ·obtain⟨x,hx⟩:=QD h1;have hlt:=zJ hx;refine aC ?_;refine za ?_;refine Ka ?_;refine aT ?_;refine Ka ?_;refine zcD zN [[],[0],[],[0,1,2],[0,1,2,3],[],[0,1,2,3,4,5]] [[(2,nS)],[(13,0)],[(5,nS)],[(14,1),(15,2)],[(16,3)],[(3,nS)],[(17,4),(18,5)]] st4 (D:=[_,_,_,_,_,_,_])
    (rc Z Z (zI Tree.fld0 Z T)
    (rc Z Z (zH Z T)
    (rc Z Z (zD Z T)
    (rc Z Z (wF Z T T Z (by assumption))
    (rc Z Z (zH Z T)
    (rc Z Z (zH Z T)
    (rc Z Z (zA (l:=[.tmp 17,.tmp 18]) Z (.cons T (.cons T .nil)) (zeb _ _))
    .nil)))))))
    (pT [0,1,2,3,5,10,19]) (λ _ _ _ st5=>?_)
   refine za ?_;refine zR (c:=19) st5 Z (λ h2=>?_) λ h2=>?_
   ·have ht:=h2;refine Ka ?_;refine zp st5 [0,1,2,3,4,5,10,19] (λ _ _ _ st6=>?_);refine za ?_;refine wp_ret (wn (zZ (zZ (wn (zZ ?_)))));refine yv Z st6 (t:=4) Z ?_;exact(idx_hit hp hx ht).symm
   ·have hf:=h2;refine aC ?_;refine yP ?_;refine za ?_;refine zr st5 (sp 1 (r:=by exact sc Z (Zf Z T yl (by simp only[arI];omega))<|segA)) [0,1,2,3,5,10,19] (λ _ _ _ st7=>?_);refine za ⟨k+1,⟨st7.pick (pT [0,1,2,3,5]),by omega,zc6 hx hp hf⟩,by omega⟩
  ·have hend:=QE h1;refine cj (yz (yz (wG ?_)));refine za ?_;refine Ka ?_;refine zp st4 [0,1,2,3,4,5,10] (λ _ _ _ st8=>?_);refine za ?_;refine wp_ret ?_;refine yv Z st8 (t:=4) Z ?_;exact(idx_end hend hp).symm
theorem spec_intAt_ok(l:List Int)(n:Int):Fn Tryz.prog 61 [dt l,dt n] (dt (intAt l n)):=by
 refine xd (fn:=Tryz.f61) Tryz.func61 Z (λ M w0 _ hm st0=>?_);have hlen:=st0.lenL (s:=0) Z;refine Ka ?_;refine zp st0 [0,1,4] (λ _ _ _ st1=>?_);refine za ?_;refine Ka ?_;refine Ka ?_;refine zp st1 [0,1,4,5] (λ _ _ _ st2=>?_);refine za ?_;refine aT ?_;refine YF (ι:=Nat) (λ k a w=>St (Frm.of w0) 19 M [(0,dt l),(1,dt n),(5,dt (k:Int))] a w/\k<=l.length/\(l.take k).any (λ x=>x == n)=false) (λ k=>l.length - k) 0 ?_ ?_
 ·exact⟨st2.pick (pT [0,1,5]),ao _,by simp⟩
 ·rintro k a3 w3 ⟨st3,hk,hp⟩
  refine Ka ?_;refine Ka ?_;refine zp st3 [0,1,5,9] (λ _ _ _ st4=>?_);refine za ?_;refine zR (c:=9) st4 Z (λ h1=>?_) λ h1=>?_
  ·obtain⟨x,hx⟩:=QD h1;have hlt:=zJ hx;refine aC ?_;refine za ?_;refine Ka ?_;refine aT ?_;refine Ka ?_;refine zr st4 (sp 2 (r:=by exact sc Z (wF Z T T Z (by assumption))<|segA)) [0,1,5,9,17] (λ _ _ _ st5=>?_);refine za ?_;refine zR (c:=17) st5 Z (λ h2=>?_) λ h2=>?_
   ·have ht:=h2;refine Ka ?_;refine zp st5 [0,1,4,5,9,17] (λ _ _ _ st6=>?_);refine za ?_;refine wp_ret (wn (zZ (zZ (wn (zZ ?_)))));refine yv Z st6 (t:=4) Z ?_;exact(idx_hit hp hx ht).symm
   ·have hf:=h2;refine aC ?_;refine yP ?_;refine za ?_;refine zr st5 (sp 1 (r:=by exact sc Z (Zf Z T yl (by simp only[arI];omega))<|segA)) [0,1,5,9,17] (λ _ _ _ st7=>?_);refine za ⟨k+1,⟨st7.pick (pT [0,1,5]),by omega,zc6 hx hp hf⟩,by omega⟩
  ·have hend:=QE h1;refine cj (yz (yz (wG ?_)));refine za ?_;refine Ka ?_;refine zp st4 [0,1,4,5,9] (λ _ _ _ st8=>?_);refine za ?_;refine wp_ret ?_;refine yv Z st8 (t:=4) Z ?_;exact(idx_end hend hp).symm
theorem zfd  : Fn Tryz.prog 149 [] (dt noSpec):=by
 refine xd (fn:=Tryz.f149) Tryz.func149 Z (λ M _ _ hm st0=>?_);refine wqw ?_;refine QY ?_;refine wpl_alloc (n:=3) st0 Z Z Z .nil (λ b1 _ _ hb1 hn1 _ st1=>?_);refine Wz ?_;refine QY ?_;refine zaJ 2 st1 (sc Z (xH (opds:=[]) (α:=Int) Z Z Z .nil)
  (sc Z (yf (parts:=[(0,.const (.int .i64 0)),(1,.const (.int .i64 (-1))),(2,.tmp 1)]) (ns:=[1,1,1]) (zs:=[[.int .i64 0],[.int .i64 0],[.slice none 0 0]]) Z Z (λ w a hl=>by
    intro p hp;simp only[am,aS,ch] at hp;rcases hp with rfl | rfl | rfl
    ·exact⟨by decide,Z⟩
    ·exact⟨by decide,Z⟩
    ·exact⟨by decide,Rep.len (α:=(List Int)) (OpdR.cells T hl)⟩) (λ w a hl=>Spec.parts (x:=⟨0,-1,[]⟩) (OpdR.cells yl hl) (OpdR.cells yl hl) (OpdR.cells T hl)))
  .nil))
  (pT [0,2]) (λ _ _ _ st2=>?_)
 refine wpl_storeNew st2 Z Z Z Z hb1 (.inr Z) Z T .nil (λ _ st3=>?_);refine Wz ?_;refine ret_box Z st3 (t:=0) Z (λ _ h=>(.inl h)) ?_;rfl
theorem zfe(t:Tree)(root:Int)(p:Str)(hp:p.l.length<=1152921504606846976):Fn Tryz.prog 204 [dt t,dt root,dt p] (dt (QI t.files root p)):=by
 refine xd (fn:=Tryz.f204) Tryz.func204 Z (λ M w0 _ hm st0=>?_);have hlen:=st0.fldL Tree.fld0 (s:=0) Z;refine Ka ?_;refine zr st0 (sc Z (JZ Z T)<|segA) [0,1,2,3,6] (λ _ _ _ st1=>?_);refine za ?_;refine Ka ?_;refine Ka ?_;refine zp st1 [0,1,2,3,6,7] (λ _ _ _ st2=>?_);refine za ?_;refine aT ?_;refine YF (ι:=Nat) (λ k a w=>St (Frm.of w0) 44 M [(0,dt t),(1,dt root),(2,dt p),(3,dptr t),(7,dt (k:Int))] a w/\k<=t.files.length/\(t.files.take k).any (zd7 root p)=false) (λ k=>t.files.length - k) 0 ?_ ?_
 ·exact⟨st2.pick (pT [0,1,2,3,7]),ao _,by simp⟩
 ·rintro k a3 w3 ⟨st3,hk,hq⟩
  refine Ka ?_;refine Ka ?_;refine zp st3 [0,1,2,3,7,12] (λ _ _ _ st4=>?_);refine za ?_;refine zR (c:=12) st4 Z (λ h1=>?_) λ h1=>?_
  ·obtain⟨x,hx⟩:=QD h1;have hlt:=zJ hx;refine aC ?_;refine za ?_;refine Ka ?_;refine aT ?_;refine Ka ?_;refine zr st4 (sc Z (zI Tree.fld0 Z T)
    (sc Z (zH Z T)
    (sc Z (zD Z T)
    (sc Z (wF Z T T Z (by assumption))
    (sc Z (zI File.fld0 Z T)
    (sc Z (zH Z T)
    (sc Z (zD Z T)
    (sc Z (qC Z T T)
    (sc Z (zD Z T)
    (sg Z Z (λ hg=>zI Tree.fld0 Z T)
    (sg Z Z (λ hg=>zH Z V)
    (sg Z Z (λ hg=>zD Z T)
    (sg Z Z (λ hg=>wF Z V V Z (by assumption))
    (sg Z Z (λ hg=>zI File.fld1 Z V)
    (sg Z Z (λ hg=>zH Z V)
    (sg Z Z (λ hg=>zd1 Z V (yS))
    (sc Z (xc Z T T)
    (sc Z (zD Z T)
    (sg Z Z (λ hg=>zI Tree.fld0 Z T)
    (sg Z Z (λ hg=>zH Z V)
    (sg Z Z (λ hg=>zD Z T)
    (sg Z Z (λ hg=>wF Z V V Z (by assumption))
    (sg Z Z (λ hg=>zI File.fld1 Z V)
    (sg Z Z (λ hg=>zH Z V)
    (sg Z Z (λ hg=>zD Z T)
    (sg Z Z (λ hg=>zA (l:=[.tmp 38,.tmp 39]) Z (.cons V (.cons V .nil)) (zb6 _ _ (by assumption)))
    (sc Z (xc Z T T)
    .nil))))))))))))))))))))))))))) [0,1,2,3,7,12,41] (λ _ _ _ st5=>?_)
   refine za ?_;refine zR (c:=41) st5 Z (λ h2=>?_) λ h2=>?_
   ·have ht:=h2;refine Ka ?_;refine zp st5 [0,1,2,3,6,7,12,41] (λ _ _ _ st6=>?_);refine za ?_;refine wp_ret (wn (zZ (zZ (wn (zZ ?_)))));refine yv Z st6 (t:=6) Z ?_;rw[QI,any_hit (p:=zd7 root p) hx ht];rfl
   ·have hf:=h2;refine aC ?_;refine yP ?_;refine za ?_;refine zr st5 (sp 1 (r:=by exact sc Z (Zf Z T yl (by simp only[arI];omega))<|segA)) [0,1,2,3,7,12,41] (λ _ _ _ st7=>?_);refine za ⟨k+1,⟨st7.pick (pT [0,1,2,3,7]),by omega,zc6 (p:=zd7 root p) hx hq hf⟩,by omega⟩
  ·have hend:=QE h1;refine cj (yz (yz (wG ?_)));refine za ?_;refine Ka ?_;refine zp st4 [0,1,2,3,6,7,12] (λ _ _ _ st8=>?_);refine za ?_;refine wp_ret ?_;refine yv Z st8 (t:=6) Z ?_;rw[QI,any_end hend hq];rfl
theorem zdh(l:List Int):Fn Tryz.prog 31 [dt l] (dt (we l)):=by
 refine xd (fn:=Tryz.f31) Tryz.func31 Z (λ M w0 _ hm st0=>?_);have hlen:=st0.lenL (s:=0) Z;refine Ka ?_;refine zp st0 [0,2] (λ _ _ _ st1=>?_);refine za ?_;refine Ka ?_;refine Ka ?_;refine zp st1 [0,2,3] (λ _ _ _ st2=>?_);refine za ?_;refine aT ?_;refine YF (ι:=Nat) (λ k a w=>St (Frm.of w0) 27 M [(0,dt l),(3,dt (k:Int))] a w/\k<=l.length/\QJ l k=true) (λ k=>l.length - k) 0 ?_ ?_
 ·exact⟨st2.pick (pT [0,3]),ao _,Z⟩
 ·rintro k a3 w3 ⟨st3,hk,hp⟩
  refine Ka ?_;refine Ka ?_;refine zp st3 [0,3,7] (λ _ _ _ st4=>?_);refine za ?_;refine zR (c:=7) st4 Z (λ h1=>?_) λ h1=>?_
  ·obtain⟨x,hx⟩:=QD h1;have hlt:=zJ hx;refine aC ?_;refine za ?_;refine Ka ?_;refine aT ?_;refine Ka ?_;refine zcD zN [[],[],[0,1],[0,1,2],[0,1,2,3],[0,1,2,3,4],[0,1,2,3,4,5],[0,1,2,3,4,5,6],[0,1,2,3,4,5,6],[0,1,2,3,4,5,6,7,8],[0,1,2,3,4,5,6],[0,1,2,3,4,5,6],[0,1,2,3,4,5,6,10,11],[0,1,2,3,4,5,6,10,11,12],[0,1,2,3,4,5,6,7,8,9,10,11,12,13],[0,1,2,3,4,5,6,7,8,9,10,11,12,13,14],[0,1,2,3,4,5,6,7,8,9,10,11,12,13,14,15]] [[(0,nS)],[(3,nS)],[(10,0),(11,1)],[(12,2)],[(13,3)],[(14,4)],[(15,5)],[(0,nS),(16,6)],[(3,nS),(16,6)],[(17,7),(18,8),(16,6)],[(0,nS),(16,6)],[(3,nS),(16,6)],[(20,10),(21,11),(16,6)],[(22,12),(16,6)],[(19,9),(23,13),(16,6)],[(24,14),(16,6)],[(16,6),(25,15)]] st4 (D:=[_,_,_,_,_,_,_,_,_,_,_,_,_,_,_,_,_])
    (rc Z Z (zD Z T)
    (rc Z Z (zD Z T)
    (rc Z Z (wF Z T T Z (by assumption))
    (rc Z Z (zH Z T)
    (rc Z Z (zA (l:=[.tmp 13,.const (.int .i64 0),.const (.int .i64 2)]) Z (.cons T (.cons yl (.cons yl .nil))) (qH _ _ _))
    (rc Z Z (XR Z T)
    (rc Z Z (zD Z T)
    (.cons Z (by decide) Z (.guarded Z Z (by decide) Z zy (λ hg=>zD Z T))
    (.cons Z (by decide) Z (.guarded Z Z (by decide) Z zy (λ hg=>zD Z T))
    (.cons Z (by decide) Z (.guarded Z Z (by decide) Z zy (λ hg=>zan Z V V Z (by omega)))
    (.cons Z (by decide) Z (.guarded Z Z (by decide) Z zy (λ hg=>zD Z T))
    (.cons Z (by decide) Z (.guarded Z Z (by decide) Z zy (λ hg=>zD Z T))
    (.cons Z (by decide) Z (.guarded Z Z (by decide) Z zy (λ hg=>wF Z V V Z (by assumption)))
    (.cons Z (by decide) Z (.guarded Z Z (by decide) Z zy (λ hg=>zH Z V))
    (.cons Z (by decide) Z (.guarded Z Z (by decide) Z zy (λ hg=>zA (l:=[.tmp 19,.tmp 23]) Z (.cons V (.cons V .nil)) (spec_intAt_ok _ _)))
    (.cons Z (by decide) Z (.guarded Z Z (by decide) Z zy (λ hg=>qC Z V yl))
    (rc Z Z (qm Z T T)
    .nil)))))))))))))))))
    (pT [0,3,7,26]) (λ _ _ _ st5=>?_)
   refine za ?_;refine zR (c:=26) st5 Z (λ h2=>?_) λ h2=>?_
   ·have ht:=h2;refine Ka ?_;refine zp st5 [0,2,3,7,26] (λ _ _ _ st6=>?_);refine za ?_;refine wp_ret (wn (zZ (zZ (wn (zZ ?_)))));refine yv Z st6 (t:=2) Z ?_;exact(validPath_bad hx ht).symm
   ·have hf:=h2;refine aC ?_;refine yP ?_;refine za ?_;refine zr st5 (sp 1 (r:=by exact sc Z (Zf Z T yl (by simp only[arI];omega))<|segA)) [0,3,7,26] (λ _ _ _ st7=>?_);refine za ⟨k+1,⟨st7.pick (pT [0,3]),by omega,pathTo_next hx hp hf⟩,by omega⟩
  ·have hend:=QE h1;refine cj (yz (yz (wG ?_)));refine za ?_;refine Ka ?_;refine zp st4 [0,2,3,7] (λ _ _ _ st8=>?_);refine za ?_;refine wp_ret ?_;refine yv Z st8 (t:=2) Z ?_;exact(validPath_end hend hk hp).symm
theorem zdi(t:Tree)(ht:wR t):Fn Tryz.prog 145 [dt t] (dt (yh t)):=by
 refine xd (fn:=Tryz.f145) Tryz.func145 Z (λ M w0 _ hm st0=>?_);have hlen:=ht.1;refine Ka ?_;refine zr st0 (sc Z (JZ Z T)<|segA) [0,1,2] (λ _ _ _ st1=>?_);refine za ?_;refine Ka ?_;refine Ka ?_;refine zp st1 [0,1,2,3] (λ _ _ _ st2=>?_);refine za ?_;refine aT ?_;refine YF (ι:=Nat) (λ k a w=>St (Frm.of w0) 33 M [(0,dt t),(1,dptr t),(3,dt (k:Int))] a w/\k<=t.files.length/\J5 t.files k=true) (λ k=>t.files.length - k) 0 ?_ ?_
 ·exact⟨st2.pick (pT [0,1,3]),ao _,Z⟩
 ·rintro k a3 w3 ⟨st3,hk,hp⟩
  refine Ka ?_;refine Ka ?_;refine zp st3 [0,1,3,8] (λ _ _ _ st4=>?_);refine za ?_;refine zR (c:=8) st4 Z (λ h1=>?_) λ h1=>?_
  ·obtain⟨x,hx⟩:=QD h1;have hlt:=zJ hx;refine aC ?_;refine za ?_;refine Ka ?_;refine aT ?_;refine Ka ?_;refine zcD zN [[],[0],[],[0,1,2],[0,1,2,3],[0,1,2,3,4],[0,1,2,3,4,5],[0,1,2,3,4,5,6],[0,1,2,3,4,5,6,7],[0,1,2,3,4,5,6,7],[0,1,2,3,4,5,6,7,9],[0,1,2,3,4,5,6,7],[0,1,2,3,4,5,6,7,9,10,11],[0,1,2,3,4,5,6,7,9,10,11,12],[0,1,2,3,4,5,6,7,8,9,10,11,12,13],[0,1,2,3,4,5,6,7],[0,1,2,3,4,5,6,7,8,9,10,11,12,13,14,15],[0,1,2,3,4,5,6,7,8,9,10,11,12,13,14,15,16]] [[(1,nS)],[(11,0)],[(3,nS)],[(12,1),(13,2)],[(14,3)],[(15,4)],[(16,5)],[(17,6)],[(1,nS),(18,7)],[(1,nS),(18,7)],[(20,9),(18,7)],[(3,nS),(18,7)],[(21,10),(22,11),(18,7)],[(23,12),(18,7)],[(19,8),(24,13),(18,7)],[(3,nS),(18,7)],[(25,14),(26,15),(18,7)],[(18,7),(27,16)]] st4 (D:=[_,_,_,_,_,_,_,_,_,_,_,_,_,_,_,_,_,_])
    (rc Z Z (zI Tree.fld0 Z T)
    (rc Z Z (zH Z T)
    (rc Z Z (zD Z T)
    (rc Z Z (wF Z T T Z (by assumption))
    (rc Z Z (zH Z T)
    (rc Z Z (zA (l:=[.tmp 15]) Z (.cons T .nil) (zdg _ (ht.2 _ (ac hx))))
    (rc Z Z (XR Z T)
    (rc Z Z (zD Z T)
    (.cons Z (by decide) Z (.guarded Z Z (by decide) Z zy (λ hg=>zH Z T))
    (.cons Z (by decide) Z (.guarded Z Z (by decide) Z zy (λ hg=>zI Tree.fld0 Z T))
    (.cons Z (by decide) Z (.guarded Z Z (by decide) Z zy (λ hg=>zH Z V))
    (.cons Z (by decide) Z (.guarded Z Z (by decide) Z zy (λ hg=>zD Z T))
    (.cons Z (by decide) Z (.guarded Z Z (by decide) Z zy (λ hg=>wF Z V V Z (by assumption)))
    (.cons Z (by decide) Z (.guarded Z Z (by decide) Z zy (λ hg=>zH Z V))
    (.cons Z (by decide) Z (.guarded Z Z (by decide) Z zy (λ hg=>zA (l:=[.tmp 19,.tmp 24]) Z (.cons V (.cons V .nil)) (za9 _ _)))
    (.cons Z (by decide) Z (.guarded Z Z (by decide) Z zy (λ hg=>zD Z T))
    (.cons Z (by decide) Z (.guarded Z Z (by decide) Z zy (λ hg=>qC Z V V))
    (rc Z Z (qm Z T T)
    .nil))))))))))))))))))
    (pT [0,1,3,8,28]) (λ _ _ _ st5=>?_)
   refine za ?_;refine zR (c:=28) st5 Z (λ h2=>?_) λ h2=>?_
   ·have hq:=h2;refine Ka ?_;refine zp st5 [0,1,2,3,8,28] (λ _ _ _ st6=>?_);refine za ?_;refine wp_ret (wn (zZ (zZ (wn (zZ ?_)))));refine yv Z st6 (t:=2) Z ?_;exact(validTree_bad hx hq).symm
   ·have hf:=h2;refine aC ?_;refine yP ?_;refine za ?_;refine zr st5 (sp 1 (r:=by exact sc Z (Zf Z T yl (by simp only[arI];omega))<|segA)) [0,1,3,8,28] (λ _ _ _ st7=>?_);refine za ⟨k+1,⟨st7.pick (pT [0,1,3]),by omega,treeTo_next hx hp hf⟩,by omega⟩
  ·have hend:=QE h1;refine cj (yz (yz (wG ?_)));refine za ?_;refine Ka ?_;refine zp st4 [0,1,2,3,8] (λ _ _ _ st8=>?_);refine za ?_;refine wp_ret ?_;refine yv Z st8 (t:=2) Z ?_;exact(validTree_end hend hk hp)
theorem zcK(xs:List Str)(s:Str)(hx:xs.length<=8796093022200):zcE Tryz.prog 250 9 (xs) [dt s] (jO xs s):=by
 refine ze8 (fn:=Tryz.f250) Tryz.func250 Z (oD Z) (λ M g w0 _ htip hm st0=>?_);refine Ka ?_;refine zr st0 (sc Z (xo Z (wu (α:=Str)))
  .nil) [0,1,4] (λ _ _ _ st1=>?_)
 refine za ?_;refine Ka ?_;refine Ka ?_;refine zr st1 (sp 2 (r:=by exact sc Z (yV (M0:=M) (l:=[.tmp 7,.tmp 8]) (λ _ h=>.inl h) Z (.cons (opd2_tip (λ _ h=>.inl h) htip T) (.cons (xf (λ _ h=>.inl h) T) .nil)) (zeS _ _) ZA)<|.nil)) [0,1,4,9] (λ _ _ _ st2=>?_);refine za ?_;refine zR (c:=9) st2 Z (λ h1=>?_) λ h1=>?_
 ·have hin:=h1;refine Ka ?_;refine zp st2 [0,1,4,9] (λ _ _ _ st3=>?_);refine za ?_;refine wp_ret (zZ ?_);refine ret_take Z Z htip (λ _ h=>h) st3 (t:=4) Z ?_;rw[jO,Kc hin]
 ·have hin:=h1;refine aC ?_;refine za ?_;refine Ka ?_;refine zr st2 (sp 1 (r:=by exact sc Z (zbJ Z T)<|segA)) [0,1,4,5,9] (λ _ _ _ st4=>?_);refine za ?_;refine Ka ?_;refine aT ?_;refine YF (ι:=Nat) (λ k a w=>St (Frm.take w0 g) 39 (insO g M) [(0,dtip g 9 (xs)),(1,dt s),(5,dt (k:Int))] a w/\k<=xs.length/\qq xs s k=qq xs s xs.length) (λ k=>k) xs.length ?_ ?_
  ·exact⟨st4.pick (pT [0,1,5]),ak _,Z⟩
  ·rintro k a5 w5 ⟨st5,hk,hp⟩
   obtain⟨y,hy⟩:=insGet hk;refine Ka ?_;refine Ka ?_;refine zr st5 (sc Z (zD Z T)
    (sc Z (qC Z T yl)
    (sc Z (zD Z T)
    (sg Z Z (λ hg=>zD Z T)
    (sg Z Z (λ hg=>zD Z T)
    (sg Z Z (λ hg=>Zf Z V yl (by simp only[arI];omega))
    (sg Z Z (λ hg=>zc4 Z (by kernel_rfl) V V (k:=k - 1) (by have:=gtz' hg;simp only[arI];omega) (hy (gtz' hg)))
    (sg Z Z (λ hg=>y8 Z V)
    (sg Z Z (λ hg=>zD Z T)
    (sg Z Z (λ hg=>op_cmpS Z V V)
    (sc Z (xc Z T T)
    .nil))))))))))) [0,1,5,23] (λ _ _ _ st6=>?_)
   refine za ?_;refine zR (c:=23) st6 Z (λ h2=>?_) λ h2=>?_
   ·have htk:=h2;refine aC ?_;refine za ?_;refine aT ?_;refine zr st6 (sp 1 (r:=by exact sc Z (Zf Z T yl (by simp only[arI];omega))<|segA)) [0,1,5,23] (λ _ _ _ st7=>?_);refine yP ?_;refine za ⟨k - 1,⟨?_,by omega,(insPos_down hy htk).trans hp⟩,by have:=gtz htk;omega⟩;rw[show((k - 1:Nat):Int)=arI .sub k 1 from by have:=gtz htk;simp only[arI];omega];exact st7.pick (pT [0,1,5])
   ·have hend:=h2;refine cj (yz (yz (wG ?_)));refine za ?_;refine Ka ?_;refine QY ?_;refine zaJ 4 st6.ins0 (sc Z (xt (α:=Str) (e:=9) Z) (sc Z (zD Z T) (sc Z (zD Z T) (sc Z (op_sliceLT Z T T Z (by assumption)) .nil)))) (pT [0,1,5,26,29]) (λ _ _ _ a8=>?_);refine WI (bytes:=16) a8 Z Z Z Z Z row_row (by simp;omega) (by simp;omega) (.cons (s:=0) Z off_none (.cons (s:=1) Z (λ _ _ h=>h) (.cons (s:=5) Z (λ _ _ h=>h) .nil))) TipOK.none_ (λ d1 _ _ hg51 a9=>?_);refine zaJ 1 a9 (sc Z (xo Z T) .nil) (pT [0,1,5,6]) (λ _ _ _ b3=>?_);refine Wz ?_;refine za ?_;refine Ka ?_;have b5:=b3.congr (swap_tip (g:=g) (g2:=d1) (M:=M));refine QY ?_;refine zaJ 5 b5 (sc Z (zD Z T) (sc Z (zD Z T) (sc Z (op_sliceHT Z T T Z (by assumption)) (sc Z (zD Z T) (sc Z (xH (opds:=[.tmp 34]) Z Z Z (.cons T .nil)) .nil))))) (pT [1,6,33,35]) (λ _ _ _ b6=>?_);refine WI (bytes:=16) b6 Z Z Z Z Z yI (by simp;omega) (by simp;omega) (.cons (s:=1) Z (λ _ _ h=>h) (.cons (s:=6) Z (own_apart hg51) .nil)) (htip.apart hg51) (λ d2 _ _ hg55 b7=>?_);refine zaJ 1 b7 (sc Z (zD Z T) .nil) (pT [36,37]) (λ _ _ _ b8=>?_);refine WI (bytes:=16) b8 Z Z Z Z Z row_tip (by simp;omega) (by simp;omega) .nil hg55 (λ d3 _ _ hg57 b9=>?_);refine zaJ 1 b9 (sc Z (xo Z T) .nil) (pT [4]) (λ _ _ _ c8=>?_);refine Wz ?_;refine za ?_;refine wp_ret ?_;refine ret_take Z Z hg57 (λ _ h=>h.imp .inl id) c8 (t:=4) Z ?_;rw[jO,Kd (by rw[hin];decide),← hp,insPos_stop hy hend];simp
