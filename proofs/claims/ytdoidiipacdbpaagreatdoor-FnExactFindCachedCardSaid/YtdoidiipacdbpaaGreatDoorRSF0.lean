/-
  laws.
-/
import Derived.Test.YtdoidiipacdbpaaGreatDoorRSaF0
import Derived.Test.YtdoidiipacdbpaaGreatDoorRSbF0
import Derived.Test.YtdoidiipacdbpaaGreatDoorRB
import Derived.Test.YtdoidiipacdbpaaGreatDoorRLF0
import Derived.Test.YtdoidiipacdbpaaGreatDoorCards
import Derived.Test.YtdoidiipacdbpaaGreatDoorTie
import Derived.ProofKit
import Derived.LaidMore
import Derived.Lay
import Derived.OpenShut
import Derived.Stop.Joined
import Derived.SevenTiedAt
namespace Go.Proofs.YtdoidiipacdbpaaGreatDoor
open Go.ChangeShapes Go.WideShapes Go.ChangeAt Go.RowKit
theorem ownRowF0:ownKnob Tryz.prog.godebug=none:=by kernel_rfl
theorem laidOutRowF0:laidOutB Tryz.prog=true:=jf1RowF0
theorem oT3:Opn Tryz.prog 3 (Int):=Opn.int Tryz.underlying3 (by kernel_rfl)
theorem oT9:Opn Tryz.prog 9 (Str):=Opn.str Tryz.underlying9 (by kernel_rfl)
theorem oT75:Opn Tryz.prog 75 (List Str):=Opn.slice Tryz.underlying75 (by kernel_rfl) oT9
theorem oT107:Opn Tryz.prog 107 (Dir):=Opn.struct (β:=Int×Str×Int×List Str) (f:=λ(x:Dir)=>(x.root,x.pkg,x.stamp,x.names)) (λ b=>⟨b.1,b.2.1,b.2.2.1,b.2.2.2⟩) (λ _=>rfl) Tryz.underlying107 (by kernel_rfl) (OpnF.cons rfl oT3 (OpnF.cons rfl oT9 (OpnF.cons rfl oT3 (OpnF.last rfl oT75))))
theorem oT22:Opn Tryz.prog 22 (List Dir):=Opn.slice Tryz.underlying22 (by kernel_rfl) oT107
theorem oT24:Opn Tryz.prog 24 (Finder):=Opn.struct (β:=List Dir×Int×Int) (f:=λ(x:Finder)=>(x.dirs,x.fills,x.hits)) (λ b=>⟨b.1,b.2.1,b.2.2⟩) (λ _=>rfl) Tryz.underlying24 (by kernel_rfl) (OpnF.cons rfl oT22 (OpnF.cons rfl oT3 (OpnF.last rfl oT3)))
theorem oT4:Opn Tryz.prog 4 (Bool):=Opn.bool Tryz.underlying4 (by kernel_rfl)
theorem oT178:Opn Tryz.prog 178 (Stmt):=Opn.struct (β:=Int×Str×Int×Str×Int) (f:=λ(x:Stmt)=>(x.kind,x.module,x.level,x.name,x.value)) (λ b=>⟨b.1,b.2.1,b.2.2.1,b.2.2.2.1,b.2.2.2.2⟩) (λ _=>rfl) Tryz.underlying178 (by kernel_rfl) (OpnF.cons rfl oT3 (OpnF.cons rfl oT9 (OpnF.cons rfl oT3 (OpnF.cons rfl oT9 (OpnF.last rfl oT3)))))
theorem oT139:Opn Tryz.prog 139 (List Stmt):=Opn.slice Tryz.underlying139 (by kernel_rfl) oT178
theorem oT141:Opn Tryz.prog 141 (File):=Opn.struct (β:=Int×Str×Str×Bool×Int×List Stmt) (f:=λ(x:File)=>(x.root,x.pkg,x.name,x.init,x.stamp,x.body)) (λ b=>⟨b.1,b.2.1,b.2.2.1,b.2.2.2.1,b.2.2.2.2.1,b.2.2.2.2.2⟩) (λ _=>rfl) Tryz.underlying141 (by kernel_rfl) (OpnF.cons rfl oT3 (OpnF.cons rfl oT9 (OpnF.cons rfl oT9 (OpnF.cons rfl oT4 (OpnF.cons rfl oT3 (OpnF.last rfl oT139))))))
theorem oT25:Opn Tryz.prog 25 (List File):=Opn.slice Tryz.underlying25 (by kernel_rfl) oT141
theorem oT27:Opn Tryz.prog 27 (Tree):=Opn.struct (β:=List File) (f:=λ(x:Tree)=>x.files) (λ b=>⟨b⟩) (λ _=>rfl) Tryz.underlying27 (by kernel_rfl) (OpnF.last rfl oT25)
theorem oT29:Opn Tryz.prog 29 (Disk):=Opn.struct (β:=Tree×Int×List Dir) (f:=λ(x:Disk)=>(x.tree,x.clock,x.dirs)) (λ b=>⟨b.1,b.2.1,b.2.2⟩) (λ _=>rfl) Tryz.underlying29 (by kernel_rfl) (OpnF.cons rfl oT27 (OpnF.cons rfl oT3 (OpnF.last rfl oT22)))
theorem oT30:Opn Tryz.prog 30 (List Int):=Opn.slice Tryz.underlying30 (by kernel_rfl) oT3
theorem qn{H:Type}{enc:TypeId×Value->H}{P:Program}{w:World}{b:Nat}{sp:Nat->Bool}{hd:Bool}{t:TypeId}{ts:List TypeId}{vs:List Value}{ds:List (DataW H)}{ps:List MemPlace}(h:DataW.TrodAll enc P w b sp hd (t::ts) vs ds ps):
  ∃ v vs' d ds' p q,vs=v::vs'/\ds=d::ds'/\ps=p++q/\DataW.Trod enc P w b sp hd t v d p/\DataW.TrodAll enc P w b sp hd ts vs' ds' q:=by
 cases vs with
 | nil=>exact h.elim
 |
  cons v vs=>
  cases ds with
  | nil=>exact h.elim
  |
   cons d ds=>
   obtain⟨p,q,h1,h2,h3⟩:=h
   exact⟨v,vs,d,ds,p,q,rfl,rfl,h3,h1,h2⟩
theorem QK{H:Type}{enc:TypeId×Value->H}{P:Program}{w:World}{b:Nat}{sp:Nat->Bool}{hd:Bool}{vs:List Value}{ds:List (DataW H)}{ps:List MemPlace}(h:DataW.TrodAll enc P w b sp hd [] vs ds ps):vs=[]/\ds=[]/\ps=[]:=by
 cases vs with
 |
  nil=>
  cases ds with
  | nil=>exact⟨rfl,rfl,h⟩
  | cons d ds=>exact h.elim
 | cons v vs=>exact h.elim
set_option maxRecDepth 100000 in
theorem liftedRowF0(os:Os)(started:os.Started)(H:Type)(enc:TypeId×Value->H):
  ReturnsInHanded {} Tryz.checked os 3 .any (λ w args=>(Rows.fnExactFindCachedSpec.pre enc Tryz.prog Tryz.f3 [] false w args/\laidMetH Tryz.prog Rows.fnExactFindCachedRow.laid w)/\sizedMet enc Tryz.prog Tryz.f3 (OpenSpec.ofChange Rows.fnExactFindCachedSpec) false w args)
   (Rows.fnExactFindCachedSpec.post enc Tryz.prog Tryz.f3 false true false false):=by
 refine returnsInHanded_of_change_and (C:=Tryz.checked) (X:=λ w _=>laidMetH Tryz.prog Rows.fnExactFindCachedRow.laid w) (λ _ _ _ hh h=>h.of_heap hh) ownRowF0 started (by kernel_rfl) Tryz.func3
  (ChangeSpec.witness_shaped (enc:=enc) (C:=Tryz.checked) (os:=os) (X:=λ w _=>laidMetH Tryz.prog Rows.fnExactFindCachedRow.laid w) false (World.laidAll Tryz.prog os Rows.fnExactFindCachedRow.laid) #[.agg #[.slice none 0 0,.int .i64 0,.int .i64 0],.agg #[.slice none 0 0,.int .i64 0,.slice none 0 0],.slice none 0 0,.string ⟨#[]⟩] 8 (World.laidAll_os _ _ _) (World.shaped_of_ZipB (by kernel_rfl) (by kernel_rfl)) (by kernel_rfl) (by kernel_rfl) (by kernel_rfl)
   (by rw[MakeChecks.laidMetH_plain _ _ _ (by kernel_rfl)];exact laidMet_laidAll _ (by kernel_rfl) (by kernel_rfl))) ?_
 intro W base args ds gs before hval0 hW _ _ _ _
 have hval:∀ (j:Nat) t v,Tryz.f3.params[j]?=some t->args[j]?=some v->Value.okWide Tryz.prog W .any base t v:=hval0
 have hW':=hW
 obtain⟨p,q,hA0,hV,rfl,hfz,hnd⟩:=hW
 have hA:DataW.TrodAll enc Tryz.prog W 0 (λ _=>true) true Tryz.f3.params.toList args.toList ds p:=hA0
 rw[Tryz.params3] at hA hval
 obtain⟨args⟩:=args
 have hA1:DataW.TrodAll enc Tryz.prog W 0 (λ _=>true) true [24,29,30,9] args ds p:=hA
 clear hA hA0
 obtain⟨v0,vs0,d0,ds0,p0,q0,rfl,rfl,rfl,h0,k0⟩:=qn hA1
 obtain⟨v1,vs1,d1,ds1,p1,q1,rfl,rfl,rfl,h1,k1⟩:=qn k0
 obtain⟨v2,vs2,d2,ds2,p2,q2,rfl,rfl,rfl,h2,k2⟩:=qn k1
 obtain⟨v3,vs3,d3,ds3,p3,q3,rfl,rfl,rfl,h3,k3⟩:=qn k2
 obtain⟨rfl,rfl,rfl⟩:=QK k3
 obtain⟨rfl,rfl⟩:=trodVars_none hV
 obtain⟨a0,r0⟩:=oT24.rd h0 (zab Tryz.underlying24 (hval 0 24 v0 rfl rfl))
 obtain⟨a1,r1⟩:=oT29.rd h1 (zab Tryz.underlying29 (hval 1 29 v1 rfl rfl))
 obtain⟨a2,r2⟩:=oT30.rd h2 (mkv_slice Tryz.underlying30 (hval 2 30 v2 rfl rfl))
 obtain⟨a3,r3⟩:=oT9.rd h3 (mkv_string Tryz.underlying9 (hval 3 9 v3 rfl rfl))
 have hlt:∀ x∈p0++(p1++(p2++(p3++[]))),x.block<W.heap.size:=λ x hx=>by
  have:=hW'.lt x (by simpa using hx)
  simpa using this
 refine((XX a0 a1 a2 a3) noB W [v0,v1,v2,v3] (λ _ h=>h.elim) (.cons r0 (.cons r1 (.cons r2 (.cons r3 (.nil)))))).mono λ e W' ⟨v,he,hx,hv⟩=>?_
 subst he
 obtain rfl:=yz.1 hv
 have stay:∀ {t:TypeId} {v:Value} {d:DataW H} {ps:List MemPlace},Tryz.prog.readableRec t=true->t<Tryz.prog.types.size->DataW.Trod enc Tryz.prog W 0 (λ _=>true) true t v d ps->(∀ x∈ps,x.block<W.heap.size)->DataW.Trod enc Tryz.prog W' 0 (λ b=>decide (b<W.heap.size)) true t v d ps:=
  λ hr ht h hl=>Below.trod laidOutRowF0 hr ht h hx hl
 refine⟨_,rfl,_,_,_,[],(p0++(p1++(p2++(p3++[])))),[],hW',trodAll_mk1 (shut_bool Tryz.underlying4 _),?_,rfl,hx.frame _,λ h=>by cases h⟩
 show DataW.TrodAll enc Tryz.prog W' 0 (λ b=>decide (b<W.heap.size)) true Tryz.f3.params.toList [v0,v1,v2,v3] [d0,d1,d2,d3] _
 rw[Tryz.params3]
 exact⟨p0,_,stay (by kernel_rfl) (of_decide_eq_true (by kernel_rfl)) h0 (λ x hx=>hlt x (List.mem_append_left _ hx)),⟨p1,_,stay (by kernel_rfl) (of_decide_eq_true (by kernel_rfl)) h1 (λ x hx=>hlt x (List.mem_append_right _ (List.mem_append_left _ hx))),⟨p2,_,stay (by kernel_rfl) (of_decide_eq_true (by kernel_rfl)) h2 (λ x hx=>hlt x (List.mem_append_right _ (List.mem_append_right _ (List.mem_append_left _ hx)))),⟨p3,_,stay (by kernel_rfl) (of_decide_eq_true (by kernel_rfl)) h3 (λ x hx=>hlt x (List.mem_append_right _ (List.mem_append_right _ (List.mem_append_right _ (List.mem_append_left _ hx))))),rfl,rfl⟩,rfl⟩,rfl⟩,rfl⟩
theorem zV{a b:Bool}(h:a=true)(k:b=true):(a&&b)=true:=by rw[h,k];rfl
theorem jfRowF0:joinedFacts Tryz.prog 3 Tryz.f3 Rows.fnExactFindCachedSpec Rows.fnExactFindCachedRow=true:=by
 unfold joinedFacts
 refine(zV (zV (zV (zV (zV (zV (zV (zV (zV (zV (zV (zV (zV (zV (zV (zV (zV (zV (zV (zV (zV (zV (zV (zV (zV (zV (zV (zV (zV (zV (zV jf0RowF0 jf1RowF0) jf2RowF0) jf3RowF0) jf4RowF0) jf5RowF0) jf6RowF0) jf7RowF0) jf8RowF0) jf9RowF0) jf10RowF0) jf11RowF0) jf12RowF0) jf13RowF0) jf14RowF0) jf15RowF0) jf16RowF0) jf17RowF0) jf18RowF0) jf19RowF0) jf20RowF0) jf21RowF0) jf22RowF0) jf23RowF0) jf24RowF0) jf25RowF0) jf26RowF0) jf27RowF0) ?_) jf29RowF0) jf30RowF0) jf31RowF0)
 kernel_rfl
theorem YB:Rows.FnExactFindCachedSaid:=
 OpenClaim.holds_of_wide 3 Tryz.f3 rfl rfl rfl rfl rfl rfl rfl ⟨rfl,rfl,rfl,rfl,rfl⟩ rfl rfl rfl rfl rfl (by kernel_rfl) Tryz.func3 jfRowF0
  (of_decide_eq_true (by kernel_rfl)) (by unfold Func.isWrapper;first | (rw[if_pos (by decide +kernel)];kernel_rfl) | (rw[if_neg (by decide +kernel)];exact⟨rfl,rfl⟩))
  (λ os started H enc _=>liftedRowF0 os started H enc)
end Go.Proofs.YtdoidiipacdbpaaGreatDoor
