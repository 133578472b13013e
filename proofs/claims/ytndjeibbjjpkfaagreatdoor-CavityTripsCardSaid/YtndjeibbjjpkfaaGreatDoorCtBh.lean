/- CavityTrips: for all elements the law of chapter 12 on trips, held against the reference, answers true; the answers lie apart. No condition. -/
import Derived.Test.YtndjeibbjjpkfaaGreatDoorCtAa
import Derived.Test.YtndjeibbjjpkfaaGreatDoorCtAc
import Derived.Test.YtndjeibbjjpkfaaGreatDoorCtBg
import Derived.Test.YtndjeibbjjpkfaaGreatDoorRows
import Derived.Test.YtndjeibbjjpkfaaGreatDoorTie
import Derived.Test.YtndjeibbjjpkfaaGreatDoorCards
import Derived.WalkKit
import Derived.ProofKit
import Derived.OpenShut
import Derived.ShutString
import Derived.ChangeOld
import Derived.Below
import Derived.LaidMore
import Derived.Lay
import Derived.MakeChecks
import Derived.SevenTiedAt
set_option linter.unusedVariables false
set_option linter.unusedSimpArgs false
set_option linter.unusedSectionVars false
set_option maxRecDepth 100000
namespace Go.Proofs.YtndjeibbjjpkfaaGreatDoor
open Go Go.RowKit
open Go.ChangeShapes Go.WideShapes Go.ChangeAt
open Go.ChangeMaps (open_string shut_string)
theorem own:ownKnob Tryz.prog.godebug=none:=by kernel_rfl
theorem laidOut:laidOutB Tryz.prog=true:=by kernel_rfl
theorem lifted (os:Os)(started:os.Started)(H:Type)(enc:TypeId × Value→H) :
  ReturnsInHanded {} Tryz.checked os 3 .any (fun w args=>(Rows.cavityTripsSpec.pre enc Tryz.prog Tryz.f3 Rows.cavityTripsRow.domain false w args∧laidMetH Tryz.prog Rows.cavityTripsRow.laid w)∧sizedMet enc Tryz.prog Tryz.f3 (OpenSpec.ofChange Rows.cavityTripsSpec) false w args) (Rows.cavityTripsSpec.post enc Tryz.prog Tryz.f3 false true false false):=by
 refine returnsInHanded_of_change_and (C:=Tryz.checked) (X:=fun w _=>laidMetH Tryz.prog Rows.cavityTripsRow.laid w) (fun _ _ _ hh h=>h.of_heap hh) own started zk Tryz.func3
  (ChangeSpec.witness_shaped (enc:=enc) (C:=Tryz.checked) (os:=os) (X:=fun w _=>laidMetH Tryz.prog Rows.cavityTripsRow.laid w) false (World.laidAll Tryz.prog os Rows.cavityTripsRow.laid) #[.slice none 0 0] 8 (World.laidAll_os _ _ _) (World.shaped_of_ZipB zk zk) zk zk zk
   (by rw [MakeChecks.laidMetH_plain _ _ _ zk]; exact laidMet_laidAll _ zk zk)) ?_
 intro W base args ds gs before hval0 hW hcnd hwt _ _
 have hval:∀ (j:Nat) t v,Tryz.f3.params[j]?=some t→args[j]?=some v→Value.okWide Tryz.prog W .any base t v:=hval0
 have hW':=hW
 obtain ⟨p,q,hA0,hV,rfl,hfz,hnd⟩:=hW
 have hA:DataW.TrodAll enc Tryz.prog W 0 (fun _=>true) true Tryz.f3.params.toList args.toList ds p:=hA0
 rw [Tryz.params3] at hA hval hwt
 obtain ⟨v0,vs0,d0,ds0,p0,q0,hargs,rfl,rfl,h0,r0⟩:=trodAll_cons hA
 obtain ⟨rfl,rfl,rfl⟩:=trodAll_nil r0
 obtain rfl:args = #[v0]:=by cases args; simp_all
 obtain ⟨rfl,rfl⟩:=trodVars_none hV
 have k0:=h0
 have lt0:∀ x∈p0,x.block<W.heap.size:=by obtain ⟨m,hm⟩:=k0; exact DataW.trod_lt m _ _ _ hm
 obtain ⟨x0,a0,b0⟩:=arg_slB (A:=REA) (bd:=wdE) (m:=9) (D:=[98]) Tryz.underlying22 zk zd (Nat.lt_of_lt_of_eq zd (show 136=Tryz.prog.bytesOf 64 from by kernel_rfl)) (fun _=>ziu zk) rb_re (hval 0 22 v0 rfl rfl) h0 (wt_of hwt 0 rfl rfl)
 clear hA0 hval0
 refine ((trips_w x0 b0).2 W.heap.size W [v0] (Nat.le_refl _) (.cons a0 .nil)).mono fun e W' ⟨v,he,hv,bel⟩=>?_
 have hv':=zgh hv
 subst hv' he
 exact ⟨_,rfl,_,_,_,[],_,[],hW',trodAll_mk1 (shut_bool Tryz.underlying4 _),(trodAll_cons_mk (Below.trod laidOut zk (of_decide_eq_true zk) k0 bel lt0) trodAll_mk0),rfl,bel.frame _,fun h=>by cases h⟩
theorem andI {a b:Bool}(h:a=true)(k:b=true):(a&&b)=true:=by rw [h,k]; rfl
theorem c_name:Tryz.pinned.checked.prog.funcNamed Rows.cavityTripsRow.func=some 3:=by kernel_rfl
set_option maxHeartbeats 8000000 in
theorem c_facts:joinedFacts Tryz.pinned.checked.prog 3 Tryz.f3 Rows.cavityTripsSpec Rows.cavityTripsRow=true:=by
 unfold joinedFacts
 repeat' with_reducible refine andI ?_ ?_
 all_goals as_aux_lemma=>kernel_rfl
theorem c_inst:Tryz.f3.isInstance Tryz.pinned.checked.prog Rows.cavityTripsRow.origin Rows.cavityTripsRow.targs:=of_decide_eq_true zk
theorem c_wrap:Tryz.f3.isWrapper Tryz.pinned.checked.prog Rows.cavityTripsRow.wrapper Rows.cavityTripsRow.mainSum:=by unfold Func.isWrapper; rw [if_neg (of_decide_eq_false (by as_aux_lemma=>kernel_rfl))]; exact ⟨rfl,rfl⟩
theorem over:Rows.cavityTripsRow.holds Tryz.pinned (OpenSpec.ofChange Rows.cavityTripsSpec) :=
 OpenClaim.holds_of_wide 3 Tryz.f3 rfl rfl rfl rfl rfl rfl rfl ⟨rfl,rfl,rfl,rfl,rfl⟩ rfl rfl rfl rfl rfl c_name Tryz.func3 c_facts c_inst c_wrap
  (fun os started H enc _=>lifted os started H enc)
theorem no_stand:(Tryz.f3.params.all fun t => !Tryz.prog.wantsStandIn t)=true:=by kernel_rfl
theorem c_text:Rows.cavityTripsRow.wfByText (OpenSpec.ofChange Rows.cavityTripsSpec)=true:=by kernel_rfl
theorem c_main : Tryz.pinned.checked.prog.mainIs = some ((true, "b44725e2a7a46a85a48841b6f832b89f6372815c6449de807498457f2827b7da").1, (true, "b44725e2a7a46a85a48841b6f832b89f6372815c6449de807498457f2827b7da").2.toList) := by kernel_rfl
theorem c_looks:false=Tryz.pinned.checked.prog.looks []:=by kernel_rfl
theorem c_goes:false=Rows.cavityTripsRow.goesBy Tryz.pinned.checked.prog:=by kernel_rfl
theorem provedCavityTrips:Rows.CavityTripsCardSaid :=
 Claim7.holds_tied_plain_at .later [] [.data, .data, .data] true (true, "b44725e2a7a46a85a48841b6f832b89f6372815c6449de807498457f2827b7da") false over (fun _ h => by cases h) c_text (fun _ h => by cases h) cavityTrips_row_tie rfl ⟨rfl, rfl⟩ c_main rfl
  (fun f fn hf hfn=>by
   obtain rfl:f=3:=Option.some.inj (c_name.symm.trans hf) |>.symm
   obtain rfl:fn=Tryz.f3:=(Option.some.inj (Tryz.func3.symm.trans hfn)).symm
   exact ⟨c_looks,fun j t ht=>by
    have h1:=Array.all_eq_true_iff_forall_mem.1 no_stand t (Array.mem_of_getElem? ht)
    have h2:Tryz.prog.wantsStandIn t=false:=by simpa using h1
    exact h2⟩)
  c_goes
#print axioms provedCavityTrips
end Go.Proofs.YtndjeibbjjpkfaaGreatDoor
