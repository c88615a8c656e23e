/-
  laws.
-/
import Derived.Test.YtpmkkijamfgaeaaGreatDoorRSaPO
import Derived.Test.YtpmkkijamfgaeaaGreatDoorRSbPO
import Derived.Test.YtpmkkijamfgaeaaGreatDoorRB
import Derived.Test.YtpmkkijamfgaeaaGreatDoorRLPO
import Derived.Test.YtpmkkijamfgaeaaGreatDoorCards
import Derived.Test.YtpmkkijamfgaeaaGreatDoorTie
import Derived.ProofKit
import Derived.LaidMore
import Derived.Lay
import Derived.OpenShut
import Derived.Stop.Joined
import Derived.SevenTiedAt
namespace Go.Proofs.YtpmkkijamfgaeaaGreatDoor
open Go.ChangeShapes Go.WideShapes Go.ChangeAt Go.RowKit
theorem ownRowPO:ownKnob Tryz.prog.godebug=none:=by kernel_rfl
theorem laidOutRowPO:laidOutB Tryz.prog=true:=jf1RowPO
theorem oT5:Opn Tryz.prog 5 (UInt8):=Opn.u8 Tryz.underlying5 (by kernel_rfl)
theorem oT22:Opn Tryz.prog 22 (List UInt8):=Opn.slice Tryz.underlying22 (by kernel_rfl) oT5
theorem zbH{H:Type}{enc:TypeId×Value->H}{P:Program}{w:World}{b:Nat}{sp:Nat->Bool}{hd:Bool}{t:TypeId}{ts:List TypeId}{vs:List Value}{ds:List (DataW H)}{ps:List MemPlace}(h:DataW.TrodAll enc P w b sp hd (t::ts) vs ds ps):
  ∃ v vs' d ds' p q,vs=v::vs'/\ds=d::ds'/\ps=p++q/\DataW.Trod enc P w b sp hd t v d p/\DataW.TrodAll enc P w b sp hd ts vs' ds' q:=by
 cases vs with
 | nil=>exact h.elim
 |
  cons v vs=>
  cases ds with
  | nil=>exact h.elim
  |
   cons d ds=>
   obtain⟨p,q,h1,h2,h3⟩:=h
   exact⟨v,vs,d,ds,p,q,rfl,rfl,h3,h1,h2⟩
theorem zcf{H:Type}{enc:TypeId×Value->H}{P:Program}{w:World}{b:Nat}{sp:Nat->Bool}{hd:Bool}{vs:List Value}{ds:List (DataW H)}{ps:List MemPlace}(h:DataW.TrodAll enc P w b sp hd [] vs ds ps):vs=[]/\ds=[]/\ps=[]:=by
 cases vs with
 |
  nil=>
  cases ds with
  | nil=>exact⟨rfl,rfl,h⟩
  | cons d ds=>exact h.elim
 | cons v vs=>exact h.elim
set_option maxRecDepth 100000 in
theorem liftedRowPO(os:Os)(started:os.Started)(H:Type)(enc:TypeId×Value->H):
  ReturnsInHanded {} Tryz.checked os 5 .any (λ w args=>(Rows.fnPlainOrderSpec.pre enc Tryz.prog Tryz.f5 [] false w args/\laidMetH Tryz.prog Rows.fnPlainOrderRow.laid w)/\sizedMet enc Tryz.prog Tryz.f5 (OpenSpec.ofChange Rows.fnPlainOrderSpec) false w args)
   (Rows.fnPlainOrderSpec.post enc Tryz.prog Tryz.f5 false true false false):=by
 refine returnsInHanded_of_change_and (C:=Tryz.checked) (X:=λ w _=>laidMetH Tryz.prog Rows.fnPlainOrderRow.laid w) (λ _ _ _ hh h=>h.of_heap hh) ownRowPO started (by kernel_rfl) Tryz.func5
  (ChangeSpec.witness_shaped (enc:=enc) (C:=Tryz.checked) (os:=os) (X:=λ w _=>laidMetH Tryz.prog Rows.fnPlainOrderRow.laid w) false (World.laidAll Tryz.prog os Rows.fnPlainOrderRow.laid) #[.slice none 0 0] 8 (World.laidAll_os _ _ _) (World.shaped_of_ZipB (by kernel_rfl) (by kernel_rfl)) (by kernel_rfl) (by kernel_rfl) (by kernel_rfl)
   (by rw[MakeChecks.laidMetH_plain _ _ _ (by kernel_rfl)];exact laidMet_laidAll _ (by kernel_rfl) (by kernel_rfl))) ?_
 intro W base args ds gs before hval0 hW _ _ _ _
 have hval:∀ (j:Nat) t v,Tryz.f5.params[j]?=some t->args[j]?=some v->Value.okWide Tryz.prog W .any base t v:=hval0
 have hW':=hW
 obtain⟨p,q,hA0,hV,rfl,hfz,hnd⟩:=hW
 have hA:DataW.TrodAll enc Tryz.prog W 0 (λ _=>true) true Tryz.f5.params.toList args.toList ds p:=hA0
 rw[Tryz.params5] at hA hval
 obtain⟨args⟩:=args
 have hA1:DataW.TrodAll enc Tryz.prog W 0 (λ _=>true) true [22] args ds p:=hA
 clear hA hA0
 obtain⟨v0,vs0,d0,ds0,p0,q0,rfl,rfl,rfl,h0,k0⟩:=zbH hA1
 obtain⟨rfl,rfl,rfl⟩:=zcf k0
 obtain⟨rfl,rfl⟩:=trodVars_none hV
 obtain⟨a0,r0⟩:=oT22.rd h0 (mkv_slice Tryz.underlying22 (hval 0 22 v0 rfl rfl))
 have hlt:∀ x∈p0++[],x.block<W.heap.size:=λ x hx=>by
  have:=hW'.lt x (by simpa using hx)
  simpa using this
 refine((zbG a0) noB W [v0] (λ _ h=>h.elim) (.cons r0 (.nil))).mono λ e W' ⟨v,he,hx,hv⟩=>?_
 subst he
 obtain rfl:=yG.1 hv
 have stay:∀ {t:TypeId} {v:Value} {d:DataW H} {ps:List MemPlace},Tryz.prog.readableRec t=true->t<Tryz.prog.types.size->DataW.Trod enc Tryz.prog W 0 (λ _=>true) true t v d ps->(∀ x∈ps,x.block<W.heap.size)->DataW.Trod enc Tryz.prog W' 0 (λ b=>decide (b<W.heap.size)) true t v d ps:=
  λ hr ht h hl=>Below.trod laidOutRowPO hr ht h hx hl
 refine⟨_,rfl,_,_,_,[],(p0++[]),[],hW',trodAll_mk1 (shut_bool Tryz.underlying4 _),?_,rfl,hx.frame _,λ h=>by cases h⟩
 show DataW.TrodAll enc Tryz.prog W' 0 (λ b=>decide (b<W.heap.size)) true Tryz.f5.params.toList [v0] [d0] _
 rw[Tryz.params5]
 exact⟨p0,_,stay (by kernel_rfl) (of_decide_eq_true (by kernel_rfl)) h0 (λ x hx=>hlt x (List.mem_append_left _ hx)),rfl,rfl⟩
theorem ya{a b:Bool}(h:a=true)(k:b=true):(a&&b)=true:=by rw[h,k];rfl
theorem jfRowPO:joinedFacts Tryz.prog 5 Tryz.f5 Rows.fnPlainOrderSpec Rows.fnPlainOrderRow=true:=by
 unfold joinedFacts
 refine(ya (ya (ya (ya (ya (ya (ya (ya (ya (ya (ya (ya (ya (ya (ya (ya (ya (ya (ya (ya (ya (ya (ya (ya (ya (ya (ya (ya (ya (ya (ya jf0RowPO jf1RowPO) jf2RowPO) jf3RowPO) jf4RowPO) jf5RowPO) jf6RowPO) jf7RowPO) jf8RowPO) jf9RowPO) jf10RowPO) jf11RowPO) jf12RowPO) jf13RowPO) jf14RowPO) jf15RowPO) jf16RowPO) jf17RowPO) jf18RowPO) jf19RowPO) jf20RowPO) jf21RowPO) jf22RowPO) jf23RowPO) jf24RowPO) jf25RowPO) jf26RowPO) jf27RowPO) ?_) jf29RowPO) jf30RowPO) jf31RowPO)
 kernel_rfl
theorem JH:Rows.FnPlainOrderSaid:=
 OpenClaim.holds_of_wide 5 Tryz.f5 rfl rfl rfl rfl rfl rfl rfl ⟨rfl,rfl,rfl,rfl,rfl⟩ rfl rfl rfl rfl rfl (by kernel_rfl) Tryz.func5 jfRowPO
  (of_decide_eq_true (by kernel_rfl)) (by unfold Func.isWrapper;first | (rw[if_pos (by decide +kernel)];kernel_rfl) | (rw[if_neg (by decide +kernel)];exact⟨rfl,rfl⟩))
  (λ os started H enc _=>liftedRowPO os started H enc)
end Go.Proofs.YtpmkkijamfgaeaaGreatDoor
