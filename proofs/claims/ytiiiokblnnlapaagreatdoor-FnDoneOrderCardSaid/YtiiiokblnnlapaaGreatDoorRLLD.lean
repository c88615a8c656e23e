/-
  Plain: laws of one import, over draws.
-/
import Derived.Test.YtiiiokblnnlapaaGreatDoorRQLD
import Derived.Test.YtiiiokblnnlapaaGreatDoorRPLD
namespace Go.Proofs.YtiiiokblnnlapaaGreatDoor
open Go.RowKit
variable{t:Tree}{path:List Int}{s:Str}
theorem ran_last(hv:zT t=true)(hp:path.length<=1048576)(hs:zk s=true)(he:(ranR t path s).2.2=0):s∈evs 1 (logV t path s):=by
 obtain⟨m,h1,h2⟩:=(ran_tr hv hp hs).2 he
 obtain⟨h3,h4⟩:=hits_iff.1 h2
 have:=(ran_wf hv hp hs).dones _ m h1 (ran_done hv hp hs h1 h4)
 rw[h3] at this
 exact this
theorem leq_nat{a b:Nat}(h:a<=b):cmpI .leq (a:Int) (b:Int)=true:=by simp[cmpI];omega
theorem Jg(c:List UInt8):j0 (scc wH) c=some true:=by
 unfold j0
 cases cmpI .gtr (c.length:Int) 1048576 with
 | true=>rw[if_pos rfl]
 |
  false=>
  obtain⟨t,path,s,e1,h1,h2,h3⟩:=Qk c
  have ht:=h1.sm
  have hp:path.length<=1048576:=by omega
  have hn:sho s:=by unfold sho;omega
  have hl1:=evV_len (t:=t) (s:=s) hp 1
  have hl0:=evV_len (t:=t) (s:=s) hp 0
  have hE:y8 (evV 1 t path s) (evV 1 t path s)=some true:=by rw[equalTexts_eq (by omega)];simp
  rw[if_neg (by decide),e1,obS]
  dsimp only
  rw[DoneOrder_eq ht hp hn,obS,JW ht hp hn,obS,hE,obS,JJ ht,JK hp,xE hn]
  have hbad:((some (evV 1 t path s)).bind λ v30=>(y8 (evV 1 t path s) v30).bind λ v31=>some v31)=some true:=by rw[obS,hE,obS]
  cases hv:zT t with
  | false=>exact hbad
  |
   true=>
   cases hvp:wl path with
   | false=>exact hbad
   |
    true=>
    cases hs:zk s with
    | false=>exact hbad
    |
     true=>
     have hok:okG t path s=true:=by unfold okG;rw[hv,hvp,hs];rfl
     have h1e:evV 1 t path s=evs 1 (logV t path s):=by unfold evV;rw[if_pos hok]
     have h0e:evV 0 t path s=evs 0 (logV t path s):=by unfold evV;rw[if_pos hok]
     have hb:=(ran_bal hv hp hs).1
     have hw:yS (evV 1 t path s) (evV 0 t path s)=some true:=within_all (by omega) (by omega) λ x hx=>by
      rw[h1e] at hx
      rw[h0e]
      exact hb.sub x (.inl hx)
     have hle:(evV 1 t path s).length<=(evV 0 t path s).length:=by
      rw[h1e,h0e,hb.count]
      omega
     have hx:cmpI .neq (endV t path s) 0=false->xD (evV 1 t path s) s=some true:=λ h=>by
      rw[Xs (by omega)]
      congr 1
      refine decide_eq_true ?_
      rw[h1e]
      refine ran_last hv hp hs ?_
      have:endV t path s=0:=by simpa[cmpI] using h
      unfold endV at this
      rw[if_pos hok] at this
      exact this
     show((wR (scc wH) t path s).bind λ v35=>(wn (scc wH) t path s).bind λ v38=>(yS (evV 1 t path s) v38).bind λ v41=>(gO ((v41 == true)&&(cmpI .neq v35.1 (0:Int) == false)) (xD (evV 1 t path s) s)).bind λ v42=>some ((v41&&(cmpI .neq v35.1 (0:Int)||v42))&&cmpI .leq ((evV 1 t path s).length:Int) (v38.length:Int)))=some true
     rw[ImportOne_eq ht hp hn,obS,StartOrder_eq ht hp hn,obS,hw,obS]
     dsimp only
     rw[leq_nat hle]
     cases hc:cmpI .neq (endV t path s) 0 with
     | true=>rfl
     | false=>rw[hx hc];rfl
theorem Qu(c:List UInt8):Fn Tryz.prog 4 [dt c] (dt true):=Jb (Y9 wH) (Jg c)
end Go.Proofs.YtiiiokblnnlapaaGreatDoor
