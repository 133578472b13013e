/- SearchRows: for all tasks and all picks the law of chapter 26 on how many ways begin so, and their powers, held against the reference, answers true; all stays as it was, the answers lie apart. No condition. -/
import Derived.Test.YtedfcalhhldijaaGreatDoorRwAu
import Derived.Test.YtedfcalhhldijaaGreatDoorRows
import Derived.Test.YtedfcalhhldijaaGreatDoorTie
import Derived.Test.YtedfcalhhldijaaGreatDoorCards
import Derived.ShutString
import Derived.LaidMore
import Derived.Lay
import Derived.MakeChecks
import Derived.SevenTiedAt
set_option linter.all false
set_option maxRecDepth 100000
namespace Go.Proofs.YtedfcalhhldijaaGreatDoor
open Go Go.RowKit
variable {w:World}{B:Nat}{a:Act}{v:Value}{T:TypeId}{w0:Bs}{Γ:List (Nat × VA)}{Λ:List Lc}{ps:String}{af:Array Edge}{vr:Value}{H:Hd}{cs:List Value}{w':World}{P:Program}{D:List TypeId}
open Go.ChangeShapes Go.WideShapes Go.ChangeAt
open Go.ChangeMaps (open_string shut_string)
theorem own:ownKnob Tryz.prog.godebug=none:=by kernel_rfl
theorem laidOut:laidOutB Tryz.prog=true:=by kernel_rfl
theorem lifted (os:Os)(started:os.Started)(H:Type)(enc:TypeId × Value→H) :
  ReturnsInHanded {} Tryz.checked os 3 .any (λ w args=>(Rows.searchRowsSpec.pre enc Tryz.prog Tryz.f3 Rows.searchRowsRow.domain false w args∧laidMetH Tryz.prog Rows.searchRowsRow.laid w)∧sizedMet enc Tryz.prog Tryz.f3 (OpenSpec.ofChange Rows.searchRowsSpec) false w args) (Rows.searchRowsSpec.post enc Tryz.prog Tryz.f3 false true false false):=by
 refine returnsInHanded_of_change_and (C:=Tryz.checked) (X:=λ w _=>laidMetH Tryz.prog Rows.searchRowsRow.laid w) (λ _ _ _ hh h=>h.of_heap hh) own started zk Tryz.func3
  (ChangeSpec.witness_shaped (enc:=enc) (C:=Tryz.checked) (os:=os) (X:=λ w _=>laidMetH Tryz.prog Rows.searchRowsRow.laid w) false (World.laidAll Tryz.prog os Rows.searchRowsRow.laid) #[.agg #[.slice none 0 0,.slice none 0 0,.bool false,.slice none 0 0,.bool false,.slice none 0 0],.slice none 0 0] 8 (World.laidAll_os _ _ _) (World.shaped_of_ZipB zk zk) zk zk zk
   (by rw [MakeChecks.laidMetH_plain _ _ _ zk]; exact laidMet_laidAll _ zk zk)) ?_
 intro W base args ds gs before hval0 hW hcnd hwt _ _
 have hval:∀ (j:Nat) t v,Tryz.f3.params[j]?=some t→args[j]?=some v→Value.okWide Tryz.prog W .any base t v:=hval0
 have hW':=hW
 obtain ⟨p,q,hA0,hV,rfl,hfz,hnd⟩:=hW
 have hA:DataW.TrodAll enc Tryz.prog W 0 (λ _=>true) true Tryz.f3.params.toList args.toList ds p:=hA0
 rw [Tryz.params3] at hA hval hwt
 obtain ⟨v0,vs0,d0,ds0,p0,q0,hargs,rfl,rfl,h0,r0⟩:=trodAll_cons hA
 obtain ⟨v1,vs1,d1,ds1,p1,q1,rfl,rfl,rfl,h1,r1⟩:=trodAll_cons r0
 obtain ⟨rfl,rfl,rfl⟩:=trodAll_nil r1
 obtain rfl:args = #[v0,v1]:=by cases args; simp_all
 obtain ⟨rfl,rfl⟩:=trodVars_none hV
 have k0:=h0
 have lt0:∀ x∈p0,x.block<W.heap.size:=by obtain ⟨m,hm⟩:=k0; exact DataW.trod_lt m _ _ _ hm
 have k1:=h1
 have lt1:∀ x∈p1,x.block<W.heap.size:=by obtain ⟨m,hm⟩:=k1; exact DataW.trod_lt m _ _ _ hm
 obtain ⟨x0,a0,b0⟩:=Hm (A:=TkA) (bd:=wdTk) (λ _=>rfl) Tryz.underlying30 rb_tk (hval 0 30 v0 rfl rfl) h0 (Hw hwt 0 rfl rfl)
 obtain ⟨x1,a1,b1⟩:=Hl (A:=InA) (bd:=λ _=>True) (m:=1) (D:=[]) Tryz.underlying31 zk zd (jZ zd (show 8=Tryz.prog.bytesOf 3 from by kernel_rfl)) (λ _=>mE zk) rb_in (hval 1 31 v1 rfl rfl) h1 (Hw hwt 1 rfl rfl)
 clear hA0 hval0
 refine ((I5 x0 b0 x1 b1).2 W.heap.size W [v0,v1] (qi _) (.cons a0 (.cons a1 .nil))).mono λ e W' ⟨v,he,hv,bel⟩=>?_
 have hv':=dg hv
 subst hv' he
 exact ⟨_,rfl,_,_,_,[],_,[],hW',trodAll_mk1 (shut_bool Tryz.underlying4 _),(trodAll_cons_mk (Below.trod laidOut zk (qp zk) k0 bel lt0) (trodAll_cons_mk (Below.trod laidOut zk (qp zk) k1 bel lt1) trodAll_mk0)),rfl,bel.frame _,λ h=>by cases h⟩
theorem andI {a b:Bool}(h:a=true)(k:b=true):(a&&b)=true:=by rw [h,k]; rfl
theorem c_name:Tryz.pinned.checked.prog.funcNamed Rows.searchRowsRow.func=some 3:=by kernel_rfl
set_option maxHeartbeats 8000000 in
theorem H7:joinedFacts Tryz.pinned.checked.prog 3 Tryz.f3 Rows.searchRowsSpec Rows.searchRowsRow=true:=by
 unfold joinedFacts
 repeat' with_reducible refine andI ?_ ?_
 all_goals as_aux_lemma=>kernel_rfl
theorem c_inst:Tryz.f3.isInstance Tryz.pinned.checked.prog Rows.searchRowsRow.origin Rows.searchRowsRow.targs:=qp zk
theorem c_wrap:Tryz.f3.isWrapper Tryz.pinned.checked.prog Rows.searchRowsRow.wrapper Rows.searchRowsRow.mainSum:=by unfold Func.isWrapper; rw [qw (qr (by as_aux_lemma=>kernel_rfl))]; exact ⟨rfl,rfl⟩
theorem over:Rows.searchRowsRow.holds Tryz.pinned (OpenSpec.ofChange Rows.searchRowsSpec) :=
 OpenClaim.holds_of_wide 3 Tryz.f3 rfl rfl rfl rfl rfl rfl rfl ⟨rfl,rfl,rfl,rfl,rfl⟩ rfl rfl rfl rfl rfl c_name Tryz.func3 H7 c_inst c_wrap
  (λ os started H enc _=>lifted os started H enc)
theorem Bj:(Tryz.f3.params.all λ t => !Tryz.prog.wantsStandIn t)=true:=by kernel_rfl
theorem c_text:Rows.searchRowsRow.wfByText (OpenSpec.ofChange Rows.searchRowsSpec)=true:=by kernel_rfl
theorem c_main : Tryz.pinned.checked.prog.mainIs = some ((true, "9fe382a295119eccbf59ff5d282103396902129fe8c765c647d092ba2af22523").1, (true, "9fe382a295119eccbf59ff5d282103396902129fe8c765c647d092ba2af22523").2.toList) := by kernel_rfl
theorem H6:false=Tryz.pinned.checked.prog.looks []:=by kernel_rfl
theorem c_goes:false=Rows.searchRowsRow.goesBy Tryz.pinned.checked.prog:=by kernel_rfl
theorem provedSearchRows:Rows.SearchRowsCardSaid :=
 Claim7.holds_tied_plain_at .later [] [.data, .data, .data] true (true, "9fe382a295119eccbf59ff5d282103396902129fe8c765c647d092ba2af22523") false over (λ _ h => by cases h) c_text (λ _ h => by cases h) searchRows_row_tie rfl ⟨rfl, rfl⟩ c_main rfl
  (λ f fn hf hfn=>by
   obtain rfl:f=3:=Option.some.inj (c_name.symm.trans hf) |>.symm
   obtain rfl:fn=Tryz.f3:=(Option.some.inj (Tryz.func3.symm.trans hfn)).symm
   exact ⟨H6,λ j t ht=>by
    have h1:=Array.all_eq_true_iff_forall_mem.1 Bj t (kJ ht)
    have h2:Tryz.prog.wantsStandIn t=false:=by simpa using h1
    exact h2⟩)
  c_goes
#print axioms provedSearchRows
end Go.Proofs.YtedfcalhhldijaaGreatDoor
