/-
  laws.
-/
import Derived.Test.YtmenakmafojpaaaGreatDoorRSaIM
import Derived.Test.YtmenakmafojpaaaGreatDoorRSbIM
import Derived.Test.YtmenakmafojpaaaGreatDoorRB
import Derived.Test.YtmenakmafojpaaaGreatDoorRLIM
import Derived.Test.YtmenakmafojpaaaGreatDoorCards
import Derived.Test.YtmenakmafojpaaaGreatDoorTie
import Derived.ProofKit
import Derived.LaidMore
import Derived.Lay
import Derived.OpenShut
import Derived.Stop.Joined
import Derived.SevenTiedAt
namespace Go.Proofs.YtmenakmafojpaaaGreatDoor
open Go.ChangeShapes Go.WideShapes Go.ChangeAt Go.RowKit
theorem ownRowIM:ownKnob Tryz.prog.godebug=none:=by kernel_rfl
theorem laidOutRowIM:laidOutB Tryz.prog=true:=jf1RowIM
theorem oT5:Opn Tryz.prog 5 (UInt8):=Opn.u8 Tryz.underlying5 (by kernel_rfl)
theorem oT22:Opn Tryz.prog 22 (List UInt8):=Opn.slice Tryz.underlying22 (by kernel_rfl) oT5
theorem zaj{H:Type}{enc:TypeId×Value->H}{P:Program}{w:World}{b:Nat}{sp:Nat->Bool}{hd:Bool}{t:TypeId}{ts:List TypeId}{vs:List Value}{ds:List (DataW H)}{ps:List MemPlace}(h:DataW.TrodAll enc P w b sp hd (t::ts) vs ds ps):
  ∃ v vs' d ds' p q,vs=v::vs'/\ds=d::ds'/\ps=p++q/\DataW.Trod enc P w b sp hd t v d p/\DataW.TrodAll enc P w b sp hd ts vs' ds' q:=by
 cases vs with
 | nil=>exact h.elim
 |
  cons v vs=>
  cases ds with
  | nil=>exact h.elim
  |
   cons d ds=>
   obtain⟨p,q,h1,h2,h3⟩:=h
   exact⟨v,vs,d,ds,p,q,rfl,rfl,h3,h1,h2⟩
theorem zaV{H:Type}{enc:TypeId×Value->H}{P:Program}{w:World}{b:Nat}{sp:Nat->Bool}{hd:Bool}{vs:List Value}{ds:List (DataW H)}{ps:List MemPlace}(h:DataW.TrodAll enc P w b sp hd [] vs ds ps):vs=[]/\ds=[]/\ps=[]:=by
 cases vs with
 |
  nil=>
  cases ds with
  | nil=>exact⟨rfl,rfl,h⟩
  | cons d ds=>exact h.elim
 | cons v vs=>exact h.elim
set_option maxRecDepth 100000 in
theorem liftedRowIM(os:Os)(started:os.Started)(H:Type)(enc:TypeId×Value->H):
  ReturnsInHanded {} Tryz.checked os 6 .any (λ w args=>(Rows.fnImportOneMissingSpec.pre enc Tryz.prog Tryz.f6 [] false w args/\laidMetH Tryz.prog Rows.fnImportOneMissingRow.laid w)/\sizedMet enc Tryz.prog Tryz.f6 (OpenSpec.ofChange Rows.fnImportOneMissingSpec) false w args)
   (Rows.fnImportOneMissingSpec.post enc Tryz.prog Tryz.f6 false true false false):=by
 refine returnsInHanded_of_change_and (C:=Tryz.checked) (X:=λ w _=>laidMetH Tryz.prog Rows.fnImportOneMissingRow.laid w) (λ _ _ _ hh h=>h.of_heap hh) ownRowIM started (by kernel_rfl) Tryz.func6
  (ChangeSpec.witness_shaped (enc:=enc) (C:=Tryz.checked) (os:=os) (X:=λ w _=>laidMetH Tryz.prog Rows.fnImportOneMissingRow.laid w) false (World.laidAll Tryz.prog os Rows.fnImportOneMissingRow.laid) #[.slice none 0 0] 8 (World.laidAll_os _ _ _) (World.shaped_of_ZipB (by kernel_rfl) (by kernel_rfl)) (by kernel_rfl) (by kernel_rfl) (by kernel_rfl)
   (by rw[MakeChecks.laidMetH_plain _ _ _ (by kernel_rfl)];exact laidMet_laidAll _ (by kernel_rfl) (by kernel_rfl))) ?_
 intro W base args ds gs before hval0 hW _ _ _ _
 have hval:∀ (j:Nat) t v,Tryz.f6.params[j]?=some t->args[j]?=some v->Value.okWide Tryz.prog W .any base t v:=hval0
 have hW':=hW
 obtain⟨p,q,hA0,hV,rfl,hfz,hnd⟩:=hW
 have hA:DataW.TrodAll enc Tryz.prog W 0 (λ _=>true) true Tryz.f6.params.toList args.toList ds p:=hA0
 rw[Tryz.params6] at hA hval
 obtain⟨args⟩:=args
 have hA1:DataW.TrodAll enc Tryz.prog W 0 (λ _=>true) true [22] args ds p:=hA
 clear hA hA0
 obtain⟨v0,vs0,d0,ds0,p0,q0,rfl,rfl,rfl,h0,k0⟩:=zaj hA1
 obtain⟨rfl,rfl,rfl⟩:=zaV k0
 obtain⟨rfl,rfl⟩:=trodVars_none hV
 obtain⟨a0,r0⟩:=oT22.rd h0 (Jx Tryz.underlying22 (hval 0 22 v0 rfl rfl))
 have hlt:∀ x∈p0++[],x.block<W.heap.size:=λ x hx=>by
  have:=hW'.lt x (by simpa using hx)
  simpa using this
 refine((Wv a0) noB W [v0] (λ _ h=>h.elim) (.cons r0 (.nil))).mono λ e W' ⟨v,he,hx,hv⟩=>?_
 subst he
 obtain rfl:=yW.1 hv
 have stay:∀ {t:TypeId} {v:Value} {d:DataW H} {ps:List MemPlace},Tryz.prog.readableRec t=true->t<Tryz.prog.types.size->DataW.Trod enc Tryz.prog W 0 (λ _=>true) true t v d ps->(∀ x∈ps,x.block<W.heap.size)->DataW.Trod enc Tryz.prog W' 0 (λ b=>decide (b<W.heap.size)) true t v d ps:=
  λ hr ht h hl=>Below.trod laidOutRowIM hr ht h hx hl
 refine⟨_,rfl,_,_,_,[],(p0++[]),[],hW',trodAll_mk1 (shut_bool Tryz.underlying4 _),?_,rfl,hx.frame _,λ h=>by cases h⟩
 show DataW.TrodAll enc Tryz.prog W' 0 (λ b=>decide (b<W.heap.size)) true Tryz.f6.params.toList [v0] [d0] _
 rw[Tryz.params6]
 exact⟨p0,_,stay (by kernel_rfl) (of_decide_eq_true (by kernel_rfl)) h0 (λ x hx=>hlt x (List.mem_append_left _ hx)),rfl,rfl⟩
theorem yb{a b:Bool}(h:a=true)(k:b=true):(a&&b)=true:=by rw[h,k];rfl
theorem jfRowIM:joinedFacts Tryz.prog 6 Tryz.f6 Rows.fnImportOneMissingSpec Rows.fnImportOneMissingRow=true:=by
 unfold joinedFacts
 refine(yb (yb (yb (yb (yb (yb (yb (yb (yb (yb (yb (yb (yb (yb (yb (yb (yb (yb (yb (yb (yb (yb (yb (yb (yb (yb (yb (yb (yb (yb (yb jf0RowIM jf1RowIM) jf2RowIM) jf3RowIM) jf4RowIM) jf5RowIM) jf6RowIM) jf7RowIM) jf8RowIM) jf9RowIM) jf10RowIM) jf11RowIM) jf12RowIM) jf13RowIM) jf14RowIM) jf15RowIM) jf16RowIM) jf17RowIM) jf18RowIM) jf19RowIM) jf20RowIM) jf21RowIM) jf22RowIM) jf23RowIM) jf24RowIM) jf25RowIM) jf26RowIM) jf27RowIM) ?_) jf29RowIM) jf30RowIM) jf31RowIM)
 kernel_rfl
theorem Y6:Rows.FnImportOneMissingSaid:=
 OpenClaim.holds_of_wide 6 Tryz.f6 rfl rfl rfl rfl rfl rfl rfl ⟨rfl,rfl,rfl,rfl,rfl⟩ rfl rfl rfl rfl rfl (by kernel_rfl) Tryz.func6 jfRowIM
  (of_decide_eq_true (by kernel_rfl)) (by unfold Func.isWrapper;first | (rw[if_pos (by decide +kernel)];kernel_rfl) | (rw[if_neg (by decide +kernel)];exact⟨rfl,rfl⟩))
  (λ os started H enc _=>liftedRowIM os started H enc)
end Go.Proofs.YtmenakmafojpaaaGreatDoor
