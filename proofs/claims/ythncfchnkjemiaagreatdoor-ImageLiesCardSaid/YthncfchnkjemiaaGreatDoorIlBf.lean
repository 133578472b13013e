/- ImageLies: for all matrices and fractions the law of chapter 11 on where images lie and how steep a ray may be, held against the reference, answers true; the answers lie apart. No condition. -/
import Derived.Test.YthncfchnkjemiaaGreatDoorIlAa
import Derived.Test.YthncfchnkjemiaaGreatDoorIlAc
import Derived.Test.YthncfchnkjemiaaGreatDoorIlBe
import Derived.Test.YthncfchnkjemiaaGreatDoorRows
import Derived.Test.YthncfchnkjemiaaGreatDoorTie
import Derived.Test.YthncfchnkjemiaaGreatDoorCards
import Derived.WalkKit
import Derived.ProofKit
import Derived.OpenShut
import Derived.ShutString
import Derived.ChangeOld
import Derived.Below
import Derived.LaidMore
import Derived.Lay
import Derived.MakeChecks
import Derived.SevenTiedAt
set_option linter.unusedVariables false
set_option linter.unusedSimpArgs false
set_option linter.unusedSectionVars false
set_option maxRecDepth 100000
namespace Go.Proofs.YthncfchnkjemiaaGreatDoor
open Go Go.RowKit
open Go.ChangeShapes Go.WideShapes Go.ChangeAt
open Go.ChangeMaps (open_string shut_string)
theorem own:ownKnob Tryz.prog.godebug=none:=by kernel_rfl
theorem laidOut:laidOutB Tryz.prog=true:=by kernel_rfl
theorem lifted (os:Os) (started:os.Started) (H:Type) (enc:TypeId × Value→H) :
  ReturnsInHanded {} Tryz.checked os 4 .any (fun w args=>(Rows.imageLiesSpec.pre enc Tryz.prog Tryz.f4 Rows.imageLiesRow.domain false w args∧laidMetH Tryz.prog Rows.imageLiesRow.laid w)∧sizedMet enc Tryz.prog Tryz.f4 (OpenSpec.ofChange Rows.imageLiesSpec) false w args) (Rows.imageLiesSpec.post enc Tryz.prog Tryz.f4 false true false false):=by
 refine returnsInHanded_of_change_and (C:=Tryz.checked) (X:=fun w _=>laidMetH Tryz.prog Rows.imageLiesRow.laid w) (fun _ _ _ hh h=>h.of_heap hh) own started zk Tryz.func4
  (ChangeSpec.witness_shaped (enc:=enc) (C:=Tryz.checked) (os:=os) (X:=fun w _=>laidMetH Tryz.prog Rows.imageLiesRow.laid w) false (World.laidAll Tryz.prog os Rows.imageLiesRow.laid) #[.agg #[.bool false,.slice none 0 0,.bool false,.slice none 0 0,.bool false,.slice none 0 0,.bool false,.slice none 0 0,.bool false,.slice none 0 0,.bool false,.slice none 0 0,.bool false,.slice none 0 0,.bool false,.slice none 0 0],.agg #[.bool false,.slice none 0 0,.bool false,.slice none 0 0],.agg #[.bool false,.slice none 0 0,.bool false,.slice none 0 0]] 8 (World.laidAll_os _ _ _) (World.shaped_of_ZipB zk zk) zk zk zk
   (by rw [MakeChecks.laidMetH_plain _ _ _ zk]; exact laidMet_laidAll _ zk zk)) ?_
 intro W base args ds gs before hval0 hW hcnd hwt _ _
 have hval:∀ (j:Nat) t v,Tryz.f4.params[j]?=some t→args[j]?=some v→Value.okWide Tryz.prog W .any base t v:=hval0
 have hW':=hW
 obtain ⟨p,q,hA0,hV,rfl,hfz,hnd⟩:=hW
 have hA:DataW.TrodAll enc Tryz.prog W 0 (fun _=>true) true Tryz.f4.params.toList args.toList ds p:=hA0
 rw [Tryz.params4] at hA hval hwt
 obtain ⟨v0,vs0,d0,ds0,p0,q0,hargs,rfl,rfl,h0,r0⟩:=trodAll_cons hA
 obtain ⟨v1,vs1,d1,ds1,p1,q1,rfl,rfl,rfl,h1,r1⟩:=trodAll_cons r0
 obtain ⟨v2,vs2,d2,ds2,p2,q2,rfl,rfl,rfl,h2,r2⟩:=trodAll_cons r1
 obtain ⟨rfl,rfl,rfl⟩:=trodAll_nil r2
 obtain rfl:args = #[v0,v1,v2]:=by cases args; simp_all
 obtain ⟨rfl,rfl⟩:=trodVars_none hV
 have k0:=h0
 have lt0:∀ x∈p0,x.block<W.heap.size:=by obtain ⟨m,hm⟩:=k0; exact DataW.trod_lt m _ _ _ hm
 have k1:=h1
 have lt1:∀ x∈p1,x.block<W.heap.size:=by obtain ⟨m,hm⟩:=k1; exact DataW.trod_lt m _ _ _ hm
 have k2:=h2
 have lt2:∀ x∈p2,x.block<W.heap.size:=by obtain ⟨m,hm⟩:=k2; exact DataW.trod_lt m _ _ _ hm
 obtain ⟨x0,a0,b0⟩:=arg_ofB (A:=RMA) (bd:=wdM) (fun _=>rfl) Tryz.underlying28 rb_rm (hval 0 28 v0 rfl rfl) h0 (wt_of hwt 0 rfl rfl)
 obtain ⟨x1,a1,b1⟩:=arg_ofB (A:=RFA) (bd:=wdF) (fun _=>rfl) Tryz.underlying26 rb_rf (hval 1 26 v1 rfl rfl) h1 (wt_of hwt 1 rfl rfl)
 obtain ⟨x2,a2,b2⟩:=arg_ofB (A:=RFA) (bd:=wdF) (fun _=>rfl) Tryz.underlying26 rb_rf (hval 2 26 v2 rfl rfl) h2 (wt_of hwt 2 rfl rfl)
 clear hA0 hval0
 refine ((lies_w x0 b0 x1 b1 x2 b2).2 W.heap.size W [v0,v1,v2] (Nat.le_refl _) (.cons a0 (.cons a1 (.cons a2 .nil)))).mono fun e W' ⟨v,he,hv,bel⟩=>?_
 have hv':=bo_val hv
 subst hv' he
 exact ⟨_,rfl,_,_,_,[],_,[],hW',trodAll_mk1 (shut_bool Tryz.underlying4 _),(trodAll_cons_mk (Below.trod laidOut zk (of_decide_eq_true zk) k0 bel lt0) (trodAll_cons_mk (Below.trod laidOut zk (of_decide_eq_true zk) k1 bel lt1) (trodAll_cons_mk (Below.trod laidOut zk (of_decide_eq_true zk) k2 bel lt2) trodAll_mk0))),rfl,bel.frame _,fun h=>by cases h⟩
theorem andI {a b:Bool} (h:a=true) (k:b=true):(a && b)=true:=by rw [h,k]; rfl
theorem c_name:Tryz.pinned.checked.prog.funcNamed Rows.imageLiesRow.func=some 4:=by kernel_rfl
set_option maxHeartbeats 8000000 in
theorem c_facts:joinedFacts Tryz.pinned.checked.prog 4 Tryz.f4 Rows.imageLiesSpec Rows.imageLiesRow=true:=by
 unfold joinedFacts
 repeat' with_reducible refine andI ?_ ?_
 all_goals as_aux_lemma=>kernel_rfl
theorem c_inst:Tryz.f4.isInstance Tryz.pinned.checked.prog Rows.imageLiesRow.origin Rows.imageLiesRow.targs:=of_decide_eq_true zk
theorem c_wrap:Tryz.f4.isWrapper Tryz.pinned.checked.prog Rows.imageLiesRow.wrapper Rows.imageLiesRow.mainSum:=by unfold Func.isWrapper; rw [if_neg (of_decide_eq_false (by as_aux_lemma=>kernel_rfl))]; exact ⟨rfl,rfl⟩
theorem over:Rows.imageLiesRow.holds Tryz.pinned (OpenSpec.ofChange Rows.imageLiesSpec) :=
 OpenClaim.holds_of_wide 4 Tryz.f4 rfl rfl rfl rfl rfl rfl rfl ⟨rfl,rfl,rfl,rfl,rfl⟩ rfl rfl rfl rfl rfl c_name Tryz.func4 c_facts c_inst c_wrap
  (fun os started H enc _=>lifted os started H enc)
theorem no_stand:(Tryz.f4.params.all fun t => !Tryz.prog.wantsStandIn t)=true:=by kernel_rfl
theorem c_text:Rows.imageLiesRow.wfByText (OpenSpec.ofChange Rows.imageLiesSpec)=true:=by kernel_rfl
theorem c_main : Tryz.pinned.checked.prog.mainIs = some ((true, "8c92a60f5f1a1203cad46ea81891afc02f1ec89545419bc2a5158b1c1e752e69").1, (true, "8c92a60f5f1a1203cad46ea81891afc02f1ec89545419bc2a5158b1c1e752e69").2.toList) := by kernel_rfl
theorem c_looks:false=Tryz.pinned.checked.prog.looks []:=by kernel_rfl
theorem c_goes:false=Rows.imageLiesRow.goesBy Tryz.pinned.checked.prog:=by kernel_rfl
theorem provedImageLies:Rows.ImageLiesCardSaid :=
 Claim7.holds_tied_plain_at .later [] [.data, .data, .data] true (true, "8c92a60f5f1a1203cad46ea81891afc02f1ec89545419bc2a5158b1c1e752e69") false over (fun _ h => by cases h) c_text (fun _ h => by cases h) imageLies_row_tie rfl ⟨rfl, rfl⟩ c_main rfl
  (fun f fn hf hfn=>by
   obtain rfl:f=4:=Option.some.inj (c_name.symm.trans hf) |>.symm
   obtain rfl:fn=Tryz.f4:=(Option.some.inj (Tryz.func4.symm.trans hfn)).symm
   exact ⟨c_looks,fun j t ht=>by
    have h1:=Array.all_eq_true_iff_forall_mem.1 no_stand t (Array.mem_of_getElem? ht)
    have h2:Tryz.prog.wantsStandIn t=false:=by simpa using h1
    exact h2⟩)
  c_goes
#print axioms provedImageLies
end Go.Proofs.YthncfchnkjemiaaGreatDoor
