/-
  laws.
-/
import Derived.Test.YtbbfcjifihknnaaGreatDoorRSaRC
import Derived.Test.YtbbfcjifihknnaaGreatDoorRSbRC
import Derived.Test.YtbbfcjifihknnaaGreatDoorRB
import Derived.Test.YtbbfcjifihknnaaGreatDoorRLRC
import Derived.Test.YtbbfcjifihknnaaGreatDoorCards
import Derived.Test.YtbbfcjifihknnaaGreatDoorTie
import Derived.ProofKit
import Derived.LaidMore
import Derived.Lay
import Derived.OpenShut
import Derived.Stop.Joined
import Derived.SevenTiedAt
namespace Go.Proofs.YtbbfcjifihknnaaGreatDoor
open Go.ChangeShapes Go.WideShapes Go.ChangeAt Go.RowKit
theorem ownRowRC:ownKnob Tryz.prog.godebug=none:=by kernel_rfl
theorem laidOutRowRC:laidOutB Tryz.prog=true:=jf1RowRC
theorem oT3:Opn Tryz.prog 3 (Int):=Opn.int Tryz.underlying3 (by kernel_rfl)
theorem oT9:Opn Tryz.prog 9 (Str):=Opn.str Tryz.underlying9 (by kernel_rfl)
theorem oT4:Opn Tryz.prog 4 (Bool):=Opn.bool Tryz.underlying4 (by kernel_rfl)
theorem oT258:Opn Tryz.prog 258 (Stmt):=Opn.struct (β:=Int×Str×Int×Str×Int) (f:=λ(x:Stmt)=>(x.kind,x.module,x.level,x.name,x.value)) (λ b=>⟨b.1,b.2.1,b.2.2.1,b.2.2.2.1,b.2.2.2.2⟩) (λ _=>rfl) Tryz.underlying258 (by kernel_rfl) (OpnF.cons rfl oT3 (OpnF.cons rfl oT9 (OpnF.cons rfl oT3 (OpnF.cons rfl oT9 (OpnF.last rfl oT3)))))
theorem oT102:Opn Tryz.prog 102 (List Stmt):=Opn.slice Tryz.underlying102 (by kernel_rfl) oT258
theorem oT104:Opn Tryz.prog 104 (File):=Opn.struct (β:=Int×Str×Str×Bool×Int×List Stmt) (f:=λ(x:File)=>(x.root,x.pkg,x.name,x.init,x.stamp,x.body)) (λ b=>⟨b.1,b.2.1,b.2.2.1,b.2.2.2.1,b.2.2.2.2.1,b.2.2.2.2.2⟩) (λ _=>rfl) Tryz.underlying104 (by kernel_rfl) (OpnF.cons rfl oT3 (OpnF.cons rfl oT9 (OpnF.cons rfl oT9 (OpnF.cons rfl oT4 (OpnF.cons rfl oT3 (OpnF.last rfl oT102))))))
theorem oT22:Opn Tryz.prog 22 (List File):=Opn.slice Tryz.underlying22 (by kernel_rfl) oT104
theorem oT24:Opn Tryz.prog 24 (Tree):=Opn.struct (β:=List File) (f:=λ(x:Tree)=>x.files) (λ b=>⟨b⟩) (λ _=>rfl) Tryz.underlying24 (by kernel_rfl) (OpnF.last rfl oT22)
theorem oT25:Opn Tryz.prog 25 (List Int):=Opn.slice Tryz.underlying25 (by kernel_rfl) oT3
theorem oT73:Opn Tryz.prog 73 (GCmd):=Opn.struct (β:=Int×Str) (f:=λ(x:GCmd)=>(x.kind,x.name)) (λ b=>⟨b.1,b.2⟩) (λ _=>rfl) Tryz.underlying73 (by kernel_rfl) (OpnF.cons rfl oT3 (OpnF.last rfl oT9))
theorem oT26:Opn Tryz.prog 26 (List GCmd):=Opn.slice Tryz.underlying26 (by kernel_rfl) oT73
theorem ZC{H:Type}{enc:TypeId×Value->H}{P:Program}{w:World}{b:Nat}{sp:Nat->Bool}{hd:Bool}{t:TypeId}{ts:List TypeId}{vs:List Value}{ds:List (DataW H)}{ps:List MemPlace}(h:DataW.TrodAll enc P w b sp hd (t::ts) vs ds ps):
  ∃ v vs' d ds' p q,vs=v::vs'/\ds=d::ds'/\ps=p++q/\DataW.Trod enc P w b sp hd t v d p/\DataW.TrodAll enc P w b sp hd ts vs' ds' q:=by
 cases vs with
 | nil=>exact h.elim
 |
  cons v vs=>
  cases ds with
  | nil=>exact h.elim
  |
   cons d ds=>
   obtain⟨p,q,h1,h2,h3⟩:=h
   exact⟨v,vs,d,ds,p,q,rfl,rfl,h3,h1,h2⟩
theorem zct{H:Type}{enc:TypeId×Value->H}{P:Program}{w:World}{b:Nat}{sp:Nat->Bool}{hd:Bool}{vs:List Value}{ds:List (DataW H)}{ps:List MemPlace}(h:DataW.TrodAll enc P w b sp hd [] vs ds ps):vs=[]/\ds=[]/\ps=[]:=by
 cases vs with
 |
  nil=>
  cases ds with
  | nil=>exact⟨rfl,rfl,h⟩
  | cons d ds=>exact h.elim
 | cons v vs=>exact h.elim
set_option maxRecDepth 100000 in
theorem liftedRowRC(os:Os)(started:os.Started)(H:Type)(enc:TypeId×Value->H):
  ReturnsInHanded {} Tryz.checked os 3 .any (λ w args=>(Rows.fnExactRunCommandsSpec.pre enc Tryz.prog Tryz.f3 [] false w args/\laidMetH Tryz.prog Rows.fnExactRunCommandsRow.laid w)/\sizedMet enc Tryz.prog Tryz.f3 (OpenSpec.ofChange Rows.fnExactRunCommandsSpec) false w args)
   (Rows.fnExactRunCommandsSpec.post enc Tryz.prog Tryz.f3 false true false false):=by
 refine returnsInHanded_of_change_and (C:=Tryz.checked) (X:=λ w _=>laidMetH Tryz.prog Rows.fnExactRunCommandsRow.laid w) (λ _ _ _ hh h=>h.of_heap hh) ownRowRC started (by kernel_rfl) Tryz.func3
  (ChangeSpec.witness_shaped (enc:=enc) (C:=Tryz.checked) (os:=os) (X:=λ w _=>laidMetH Tryz.prog Rows.fnExactRunCommandsRow.laid w) false (World.laidAll Tryz.prog os Rows.fnExactRunCommandsRow.laid) #[.agg #[.slice none 0 0],.slice none 0 0,.slice none 0 0,.int .i64 0] 8 (World.laidAll_os _ _ _) (World.shaped_of_ZipB (by kernel_rfl) (by kernel_rfl)) (by kernel_rfl) (by kernel_rfl) (by kernel_rfl)
   (by rw[MakeChecks.laidMetH_plain _ _ _ (by kernel_rfl)];exact laidMet_laidAll _ (by kernel_rfl) (by kernel_rfl))) ?_
 intro W base args ds gs before hval0 hW _ _ _ _
 have hval:∀ (j:Nat) t v,Tryz.f3.params[j]?=some t->args[j]?=some v->Value.okWide Tryz.prog W .any base t v:=hval0
 have hW':=hW
 obtain⟨p,q,hA0,hV,rfl,hfz,hnd⟩:=hW
 have hA:DataW.TrodAll enc Tryz.prog W 0 (λ _=>true) true Tryz.f3.params.toList args.toList ds p:=hA0
 rw[Tryz.params3] at hA hval
 obtain⟨args⟩:=args
 have hA1:DataW.TrodAll enc Tryz.prog W 0 (λ _=>true) true [24,25,26,3] args ds p:=hA
 clear hA hA0
 obtain⟨v0,vs0,d0,ds0,p0,q0,rfl,rfl,rfl,h0,k0⟩:=ZC hA1
 obtain⟨v1,vs1,d1,ds1,p1,q1,rfl,rfl,rfl,h1,k1⟩:=ZC k0
 obtain⟨v2,vs2,d2,ds2,p2,q2,rfl,rfl,rfl,h2,k2⟩:=ZC k1
 obtain⟨v3,vs3,d3,ds3,p3,q3,rfl,rfl,rfl,h3,k3⟩:=ZC k2
 obtain⟨rfl,rfl,rfl⟩:=zct k3
 obtain⟨rfl,rfl⟩:=trodVars_none hV
 obtain⟨a0,r0⟩:=oT24.rd h0 (mkv_struct Tryz.underlying24 (hval 0 24 v0 rfl rfl))
 obtain⟨a1,r1⟩:=oT25.rd h1 (mkv_slice Tryz.underlying25 (hval 1 25 v1 rfl rfl))
 obtain⟨a2,r2⟩:=oT26.rd h2 (mkv_slice Tryz.underlying26 (hval 2 26 v2 rfl rfl))
 obtain⟨a3,r3⟩:=oT3.rd h3 (mkv_int Tryz.underlying3 (hval 3 3 v3 rfl rfl))
 have hlt:∀ x∈p0++(p1++(p2++(p3++[]))),x.block<W.heap.size:=λ x hx=>by
  have:=hW'.lt x (by simpa using hx)
  simpa using this
 refine((JA a0 a1 a2 a3) noB W [v0,v1,v2,v3] (λ _ h=>h.elim) (.cons r0 (.cons r1 (.cons r2 (.cons r3 (.nil)))))).mono λ e W' ⟨v,he,hx,hv⟩=>?_
 subst he
 obtain rfl:=xg.1 hv
 have stay:∀ {t:TypeId} {v:Value} {d:DataW H} {ps:List MemPlace},Tryz.prog.readableRec t=true->t<Tryz.prog.types.size->DataW.Trod enc Tryz.prog W 0 (λ _=>true) true t v d ps->(∀ x∈ps,x.block<W.heap.size)->DataW.Trod enc Tryz.prog W' 0 (λ b=>decide (b<W.heap.size)) true t v d ps:=
  λ hr ht h hl=>Below.trod laidOutRowRC hr ht h hx hl
 refine⟨_,rfl,_,_,_,[],(p0++(p1++(p2++(p3++[])))),[],hW',trodAll_mk1 (shut_bool Tryz.underlying4 _),?_,rfl,hx.frame _,λ h=>by cases h⟩
 show DataW.TrodAll enc Tryz.prog W' 0 (λ b=>decide (b<W.heap.size)) true Tryz.f3.params.toList [v0,v1,v2,v3] [d0,d1,d2,d3] _
 rw[Tryz.params3]
 exact⟨p0,_,stay (by kernel_rfl) (of_decide_eq_true (by kernel_rfl)) h0 (λ x hx=>hlt x (List.mem_append_left _ hx)),⟨p1,_,stay (by kernel_rfl) (of_decide_eq_true (by kernel_rfl)) h1 (λ x hx=>hlt x (List.mem_append_right _ (List.mem_append_left _ hx))),⟨p2,_,stay (by kernel_rfl) (of_decide_eq_true (by kernel_rfl)) h2 (λ x hx=>hlt x (List.mem_append_right _ (List.mem_append_right _ (List.mem_append_left _ hx)))),⟨p3,_,stay (by kernel_rfl) (of_decide_eq_true (by kernel_rfl)) h3 (λ x hx=>hlt x (List.mem_append_right _ (List.mem_append_right _ (List.mem_append_right _ (List.mem_append_left _ hx))))),rfl,rfl⟩,rfl⟩,rfl⟩,rfl⟩
theorem yb{a b:Bool}(h:a=true)(k:b=true):(a&&b)=true:=by rw[h,k];rfl
theorem jfRowRC:joinedFacts Tryz.prog 3 Tryz.f3 Rows.fnExactRunCommandsSpec Rows.fnExactRunCommandsRow=true:=by
 unfold joinedFacts
 refine(yb (yb (yb (yb (yb (yb (yb (yb (yb (yb (yb (yb (yb (yb (yb (yb (yb (yb (yb (yb (yb (yb (yb (yb (yb (yb (yb (yb (yb (yb (yb jf0RowRC jf1RowRC) jf2RowRC) jf3RowRC) jf4RowRC) jf5RowRC) jf6RowRC) jf7RowRC) jf8RowRC) jf9RowRC) jf10RowRC) jf11RowRC) jf12RowRC) jf13RowRC) jf14RowRC) jf15RowRC) jf16RowRC) jf17RowRC) jf18RowRC) jf19RowRC) jf20RowRC) jf21RowRC) jf22RowRC) jf23RowRC) jf24RowRC) jf25RowRC) jf26RowRC) jf27RowRC) ?_) jf29RowRC) jf30RowRC) jf31RowRC)
 kernel_rfl
theorem XW:Rows.FnExactRunCommandsSaid:=
 OpenClaim.holds_of_wide 3 Tryz.f3 rfl rfl rfl rfl rfl rfl rfl ⟨rfl,rfl,rfl,rfl,rfl⟩ rfl rfl rfl rfl rfl (by kernel_rfl) Tryz.func3 jfRowRC
  (of_decide_eq_true (by kernel_rfl)) (by unfold Func.isWrapper;first | (rw[if_pos (by decide +kernel)];kernel_rfl) | (rw[if_neg (by decide +kernel)];exact⟨rfl,rfl⟩))
  (λ os started H enc _=>liftedRowRC os started H enc)
end Go.Proofs.YtbbfcjifihknnaaGreatDoor
