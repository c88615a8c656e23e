/-
  laws.
-/
import Derived.Test.YtdoidiipacdbpaaGreatDoorRSaF1
import Derived.Test.YtdoidiipacdbpaaGreatDoorRSbF1
import Derived.Test.YtdoidiipacdbpaaGreatDoorRB
import Derived.Test.YtdoidiipacdbpaaGreatDoorRLF1
import Derived.Test.YtdoidiipacdbpaaGreatDoorCards
import Derived.Test.YtdoidiipacdbpaaGreatDoorTie
import Derived.ProofKit
import Derived.LaidMore
import Derived.Lay
import Derived.OpenShut
import Derived.Stop.Joined
import Derived.SevenTiedAt
namespace Go.Proofs.YtdoidiipacdbpaaGreatDoor
open Go.ChangeShapes Go.WideShapes Go.ChangeAt Go.RowKit
theorem ownRowF1:ownKnob Tryz.prog.godebug=none:=by kernel_rfl
theorem laidOutRowF1:laidOutB Tryz.prog=true:=jf1RowF1
theorem oT5:Opn Tryz.prog 5 (UInt8):=Opn.u8 Tryz.underlying5 (by kernel_rfl)
theorem oT57:Opn Tryz.prog 57 (List UInt8):=Opn.slice Tryz.underlying57 (by kernel_rfl) oT5
theorem zar{H:Type}{enc:TypeId×Value->H}{P:Program}{w:World}{b:Nat}{sp:Nat->Bool}{hd:Bool}{t:TypeId}{ts:List TypeId}{vs:List Value}{ds:List (DataW H)}{ps:List MemPlace}(h:DataW.TrodAll enc P w b sp hd (t::ts) vs ds ps):
  ∃ v vs' d ds' p q,vs=v::vs'/\ds=d::ds'/\ps=p++q/\DataW.Trod enc P w b sp hd t v d p/\DataW.TrodAll enc P w b sp hd ts vs' ds' q:=by
 cases vs with
 | nil=>exact h.elim
 |
  cons v vs=>
  cases ds with
  | nil=>exact h.elim
  |
   cons d ds=>
   obtain⟨p,q,h1,h2,h3⟩:=h
   exact⟨v,vs,d,ds,p,q,rfl,rfl,h3,h1,h2⟩
theorem zaW{H:Type}{enc:TypeId×Value->H}{P:Program}{w:World}{b:Nat}{sp:Nat->Bool}{hd:Bool}{vs:List Value}{ds:List (DataW H)}{ps:List MemPlace}(h:DataW.TrodAll enc P w b sp hd [] vs ds ps):vs=[]/\ds=[]/\ps=[]:=by
 cases vs with
 |
  nil=>
  cases ds with
  | nil=>exact⟨rfl,rfl,h⟩
  | cons d ds=>exact h.elim
 | cons v vs=>exact h.elim
set_option maxRecDepth 100000 in
theorem liftedRowF1(os:Os)(started:os.Started)(H:Type)(enc:TypeId×Value->H):
  ReturnsInHanded {} Tryz.checked os 4 .any (λ w args=>(Rows.fnFindCachedSpec.pre enc Tryz.prog Tryz.f4 [] false w args/\laidMetH Tryz.prog Rows.fnFindCachedRow.laid w)/\sizedMet enc Tryz.prog Tryz.f4 (OpenSpec.ofChange Rows.fnFindCachedSpec) false w args)
   (Rows.fnFindCachedSpec.post enc Tryz.prog Tryz.f4 false true false false):=by
 refine returnsInHanded_of_change_and (C:=Tryz.checked) (X:=λ w _=>laidMetH Tryz.prog Rows.fnFindCachedRow.laid w) (λ _ _ _ hh h=>h.of_heap hh) ownRowF1 started (by kernel_rfl) Tryz.func4
  (ChangeSpec.witness_shaped (enc:=enc) (C:=Tryz.checked) (os:=os) (X:=λ w _=>laidMetH Tryz.prog Rows.fnFindCachedRow.laid w) false (World.laidAll Tryz.prog os Rows.fnFindCachedRow.laid) #[.slice none 0 0] 8 (World.laidAll_os _ _ _) (World.shaped_of_ZipB (by kernel_rfl) (by kernel_rfl)) (by kernel_rfl) (by kernel_rfl) (by kernel_rfl)
   (by rw[MakeChecks.laidMetH_plain _ _ _ (by kernel_rfl)];exact laidMet_laidAll _ (by kernel_rfl) (by kernel_rfl))) ?_
 intro W base args ds gs before hval0 hW _ _ _ _
 have hval:∀ (j:Nat) t v,Tryz.f4.params[j]?=some t->args[j]?=some v->Value.okWide Tryz.prog W .any base t v:=hval0
 have hW':=hW
 obtain⟨p,q,hA0,hV,rfl,hfz,hnd⟩:=hW
 have hA:DataW.TrodAll enc Tryz.prog W 0 (λ _=>true) true Tryz.f4.params.toList args.toList ds p:=hA0
 rw[Tryz.params4] at hA hval
 obtain⟨args⟩:=args
 have hA1:DataW.TrodAll enc Tryz.prog W 0 (λ _=>true) true [57] args ds p:=hA
 clear hA hA0
 obtain⟨v0,vs0,d0,ds0,p0,q0,rfl,rfl,rfl,h0,k0⟩:=zar hA1
 obtain⟨rfl,rfl,rfl⟩:=zaW k0
 obtain⟨rfl,rfl⟩:=trodVars_none hV
 obtain⟨a0,r0⟩:=oT57.rd h0 (JG Tryz.underlying57 (hval 0 57 v0 rfl rfl))
 have hlt:∀ x∈p0++[],x.block<W.heap.size:=λ x hx=>by
  have:=hW'.lt x (by simpa using hx)
  simpa using this
 refine((zaq a0) noB W [v0] (λ _ h=>h.elim) (.cons r0 (.nil))).mono λ e W' ⟨v,he,hx,hv⟩=>?_
 subst he
 obtain rfl:=yR.1 hv
 have stay:∀ {t:TypeId} {v:Value} {d:DataW H} {ps:List MemPlace},Tryz.prog.readableRec t=true->t<Tryz.prog.types.size->DataW.Trod enc Tryz.prog W 0 (λ _=>true) true t v d ps->(∀ x∈ps,x.block<W.heap.size)->DataW.Trod enc Tryz.prog W' 0 (λ b=>decide (b<W.heap.size)) true t v d ps:=
  λ hr ht h hl=>Below.trod laidOutRowF1 hr ht h hx hl
 refine⟨_,rfl,_,_,_,[],(p0++[]),[],hW',trodAll_mk1 (shut_bool Tryz.underlying4 _),?_,rfl,hx.frame _,λ h=>by cases h⟩
 show DataW.TrodAll enc Tryz.prog W' 0 (λ b=>decide (b<W.heap.size)) true Tryz.f4.params.toList [v0] [d0] _
 rw[Tryz.params4]
 exact⟨p0,_,stay (by kernel_rfl) (of_decide_eq_true (by kernel_rfl)) h0 (λ x hx=>hlt x (List.mem_append_left _ hx)),rfl,rfl⟩
theorem yi{a b:Bool}(h:a=true)(k:b=true):(a&&b)=true:=by rw[h,k];rfl
theorem jfRowF1:joinedFacts Tryz.prog 4 Tryz.f4 Rows.fnFindCachedSpec Rows.fnFindCachedRow=true:=by
 unfold joinedFacts
 refine(yi (yi (yi (yi (yi (yi (yi (yi (yi (yi (yi (yi (yi (yi (yi (yi (yi (yi (yi (yi (yi (yi (yi (yi (yi (yi (yi (yi (yi (yi (yi jf0RowF1 jf1RowF1) jf2RowF1) jf3RowF1) jf4RowF1) jf5RowF1) jf6RowF1) jf7RowF1) jf8RowF1) jf9RowF1) jf10RowF1) jf11RowF1) jf12RowF1) jf13RowF1) jf14RowF1) jf15RowF1) jf16RowF1) jf17RowF1) jf18RowF1) jf19RowF1) jf20RowF1) jf21RowF1) jf22RowF1) jf23RowF1) jf24RowF1) jf25RowF1) jf26RowF1) jf27RowF1) ?_) jf29RowF1) jf30RowF1) jf31RowF1)
 kernel_rfl
theorem WS:Rows.FnFindCachedSaid:=
 OpenClaim.holds_of_wide 4 Tryz.f4 rfl rfl rfl rfl rfl rfl rfl ⟨rfl,rfl,rfl,rfl,rfl⟩ rfl rfl rfl rfl rfl (by kernel_rfl) Tryz.func4 jfRowF1
  (of_decide_eq_true (by kernel_rfl)) (by unfold Func.isWrapper;first | (rw[if_pos (by decide +kernel)];kernel_rfl) | (rw[if_neg (by decide +kernel)];exact⟨rfl,rfl⟩))
  (λ os started H enc _=>liftedRowF1 os started H enc)
end Go.Proofs.YtdoidiipacdbpaaGreatDoor
