/- MatchPairs: for all pairs of beams the law of chapter 20 on overlaps, lenses and spaces, held against the reference, answers true; the answers lie apart. No condition. -/
import Derived.Test.YthncfchnkjemiaaGreatDoorMpAa
import Derived.Test.YthncfchnkjemiaaGreatDoorMpAc
import Derived.Test.YthncfchnkjemiaaGreatDoorMpBf
import Derived.Test.YthncfchnkjemiaaGreatDoorRows
import Derived.Test.YthncfchnkjemiaaGreatDoorTie
import Derived.Test.YthncfchnkjemiaaGreatDoorCards
import Derived.WalkKit
import Derived.ProofKit
import Derived.OpenShut
import Derived.ShutString
import Derived.ChangeOld
import Derived.Below
import Derived.LaidMore
import Derived.Lay
import Derived.MakeChecks
import Derived.SevenTiedAt
set_option linter.unusedVariables false
set_option linter.unusedSimpArgs false
set_option linter.unusedSectionVars false
set_option maxRecDepth 100000
namespace Go.Proofs.YthncfchnkjemiaaGreatDoor
open Go Go.RowKit
open Go.ChangeShapes Go.WideShapes Go.ChangeAt
open Go.ChangeMaps (open_string shut_string)
theorem own:ownKnob Tryz.prog.godebug=none:=by kernel_rfl
theorem laidOut:laidOutB Tryz.prog=true:=by kernel_rfl
theorem lifted (os:Os) (started:os.Started) (H:Type) (enc:TypeId × Value→H) :
  ReturnsInHanded {} Tryz.checked os 5 .any (fun w args=>(Rows.matchPairsSpec.pre enc Tryz.prog Tryz.f5 Rows.matchPairsRow.domain false w args∧laidMetH Tryz.prog Rows.matchPairsRow.laid w)∧sizedMet enc Tryz.prog Tryz.f5 (OpenSpec.ofChange Rows.matchPairsSpec) false w args) (Rows.matchPairsSpec.post enc Tryz.prog Tryz.f5 false true false false):=by
 refine returnsInHanded_of_change_and (C:=Tryz.checked) (X:=fun w _=>laidMetH Tryz.prog Rows.matchPairsRow.laid w) (fun _ _ _ hh h=>h.of_heap hh) own started zk Tryz.func5
  (ChangeSpec.witness_shaped (enc:=enc) (C:=Tryz.checked) (os:=os) (X:=fun w _=>laidMetH Tryz.prog Rows.matchPairsRow.laid w) false (World.laidAll Tryz.prog os Rows.matchPairsRow.laid) #[.agg #[.bool false,.slice none 0 0,.bool false,.slice none 0 0,.bool false,.slice none 0 0,.bool false,.slice none 0 0],.agg #[.bool false,.slice none 0 0,.bool false,.slice none 0 0,.bool false,.slice none 0 0,.bool false,.slice none 0 0]] 8 (World.laidAll_os _ _ _) (World.shaped_of_ZipB zk zk) zk zk zk
   (by rw [MakeChecks.laidMetH_plain _ _ _ zk]; exact laidMet_laidAll _ zk zk)) ?_
 intro W base args ds gs before hval0 hW hcnd hwt _ _
 have hval:∀ (j:Nat) t v,Tryz.f5.params[j]?=some t→args[j]?=some v→Value.okWide Tryz.prog W .any base t v:=hval0
 have hW':=hW
 obtain ⟨p,q,hA0,hV,rfl,hfz,hnd⟩:=hW
 have hA:DataW.TrodAll enc Tryz.prog W 0 (fun _=>true) true Tryz.f5.params.toList args.toList ds p:=hA0
 rw [Tryz.params5] at hA hval hwt
 obtain ⟨v0,vs0,d0,ds0,p0,q0,hargs,rfl,rfl,h0,r0⟩:=trodAll_cons hA
 obtain ⟨v1,vs1,d1,ds1,p1,q1,rfl,rfl,rfl,h1,r1⟩:=trodAll_cons r0
 obtain ⟨rfl,rfl,rfl⟩:=trodAll_nil r1
 obtain rfl:args = #[v0,v1]:=by cases args; simp_all
 obtain ⟨rfl,rfl⟩:=trodVars_none hV
 have k0:=h0
 have lt0:∀ x∈p0,x.block<W.heap.size:=by obtain ⟨m,hm⟩:=k0; exact DataW.trod_lt m _ _ _ hm
 have k1:=h1
 have lt1:∀ x∈p1,x.block<W.heap.size:=by obtain ⟨m,hm⟩:=k1; exact DataW.trod_lt m _ _ _ hm
 obtain ⟨x0,a0,b0⟩:=arg_ofB (A:=RGA) (bd:=wdG) (fun _=>rfl) Tryz.underlying73 rb_rg (hval 0 73 v0 rfl rfl) h0 (wt_of hwt 0 rfl rfl)
 obtain ⟨x1,a1,b1⟩:=arg_ofB (A:=RGA) (bd:=wdG) (fun _=>rfl) Tryz.underlying73 rb_rg (hval 1 73 v1 rfl rfl) h1 (wt_of hwt 1 rfl rfl)
 clear hA0 hval0
 refine ((pairs_w x0 b0 x1 b1).2 W.heap.size W [v0,v1] (Nat.le_refl _) (.cons a0 (.cons a1 .nil))).mono fun e W' ⟨v,he,hv,bel⟩=>?_
 have hv':=bo_val hv
 subst hv' he
 exact ⟨_,rfl,_,_,_,[],_,[],hW',trodAll_mk1 (shut_bool Tryz.underlying4 _),(trodAll_cons_mk (Below.trod laidOut zk (of_decide_eq_true zk) k0 bel lt0) (trodAll_cons_mk (Below.trod laidOut zk (of_decide_eq_true zk) k1 bel lt1) trodAll_mk0)),rfl,bel.frame _,fun h=>by cases h⟩
theorem andI {a b:Bool} (h:a=true) (k:b=true):(a && b)=true:=by rw [h,k]; rfl
theorem c_name:Tryz.pinned.checked.prog.funcNamed Rows.matchPairsRow.func=some 5:=by kernel_rfl
set_option maxHeartbeats 8000000 in
theorem c_facts:joinedFacts Tryz.pinned.checked.prog 5 Tryz.f5 Rows.matchPairsSpec Rows.matchPairsRow=true:=by
 unfold joinedFacts
 repeat' with_reducible refine andI ?_ ?_
 all_goals as_aux_lemma=>kernel_rfl
theorem c_inst:Tryz.f5.isInstance Tryz.pinned.checked.prog Rows.matchPairsRow.origin Rows.matchPairsRow.targs:=of_decide_eq_true zk
theorem c_wrap:Tryz.f5.isWrapper Tryz.pinned.checked.prog Rows.matchPairsRow.wrapper Rows.matchPairsRow.mainSum:=by unfold Func.isWrapper; rw [if_neg (of_decide_eq_false (by as_aux_lemma=>kernel_rfl))]; exact ⟨rfl,rfl⟩
theorem over:Rows.matchPairsRow.holds Tryz.pinned (OpenSpec.ofChange Rows.matchPairsSpec) :=
 OpenClaim.holds_of_wide 5 Tryz.f5 rfl rfl rfl rfl rfl rfl rfl ⟨rfl,rfl,rfl,rfl,rfl⟩ rfl rfl rfl rfl rfl c_name Tryz.func5 c_facts c_inst c_wrap
  (fun os started H enc _=>lifted os started H enc)
theorem no_stand:(Tryz.f5.params.all fun t => !Tryz.prog.wantsStandIn t)=true:=by kernel_rfl
theorem c_text:Rows.matchPairsRow.wfByText (OpenSpec.ofChange Rows.matchPairsSpec)=true:=by kernel_rfl
theorem c_main : Tryz.pinned.checked.prog.mainIs = some ((true, "8c92a60f5f1a1203cad46ea81891afc02f1ec89545419bc2a5158b1c1e752e69").1, (true, "8c92a60f5f1a1203cad46ea81891afc02f1ec89545419bc2a5158b1c1e752e69").2.toList) := by kernel_rfl
theorem c_looks:false=Tryz.pinned.checked.prog.looks []:=by kernel_rfl
theorem c_goes:false=Rows.matchPairsRow.goesBy Tryz.pinned.checked.prog:=by kernel_rfl
theorem provedMatchPairs:Rows.MatchPairsCardSaid :=
 Claim7.holds_tied_plain_at .later [] [.data, .data, .data] true (true, "8c92a60f5f1a1203cad46ea81891afc02f1ec89545419bc2a5158b1c1e752e69") false over (fun _ h => by cases h) c_text (fun _ h => by cases h) matchPairs_row_tie rfl ⟨rfl, rfl⟩ c_main rfl
  (fun f fn hf hfn=>by
   obtain rfl:f=5:=Option.some.inj (c_name.symm.trans hf) |>.symm
   obtain rfl:fn=Tryz.f5:=(Option.some.inj (Tryz.func5.symm.trans hfn)).symm
   exact ⟨c_looks,fun j t ht=>by
    have h1:=Array.all_eq_true_iff_forall_mem.1 no_stand t (Array.mem_of_getElem? ht)
    have h2:Tryz.prog.wantsStandIn t=false:=by simpa using h1
    exact h2⟩)
  c_goes
#print axioms provedMatchPairs
end Go.Proofs.YthncfchnkjemiaaGreatDoor
