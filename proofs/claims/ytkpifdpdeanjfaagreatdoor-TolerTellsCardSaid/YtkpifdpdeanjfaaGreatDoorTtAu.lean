/- TolerTells: for all loose elements the law of chapter 24 on traces, powers, whether all are stable, the worst one, held against the reference, answers true; they stay as they were, the answers lie apart. No condition. -/
import Derived.Test.YtkpifdpdeanjfaaGreatDoorTtAt
import Derived.Test.YtkpifdpdeanjfaaGreatDoorRows
import Derived.Test.YtkpifdpdeanjfaaGreatDoorTie
import Derived.Test.YtkpifdpdeanjfaaGreatDoorCards
import Derived.ShutString
import Derived.LaidMore
import Derived.Lay
import Derived.MakeChecks
import Derived.SevenTiedAt
set_option linter.all false
set_option maxRecDepth 100000
namespace Go.Proofs.YtkpifdpdeanjfaaGreatDoor
open Go Go.RowKit
variable {w:World}{B:Nat}{a:Act}{v:Value}{T:TypeId}{w0:Bs}{Γ:List (Nat × VA)}{Λ:List Lc}{ps:String}{af:Array Edge}{vr:Value}{H:Hd}{cs:List Value}{w':World}{P:Program}{D:List TypeId}
open Go.ChangeShapes Go.WideShapes Go.ChangeAt
open Go.ChangeMaps (open_string shut_string)
theorem own:ownKnob Tryz.prog.godebug=none:=by kernel_rfl
theorem laidOut:laidOutB Tryz.prog=true:=by kernel_rfl
theorem lifted (os:Os)(started:os.Started)(H:Type)(enc:TypeId × Value→H) :
  ReturnsInHanded {} Tryz.checked os 3 .any (λ w args=>(Rows.tolerTellsSpec.pre enc Tryz.prog Tryz.f3 Rows.tolerTellsRow.domain false w args∧laidMetH Tryz.prog Rows.tolerTellsRow.laid w)∧sizedMet enc Tryz.prog Tryz.f3 (OpenSpec.ofChange Rows.tolerTellsSpec) false w args) (Rows.tolerTellsSpec.post enc Tryz.prog Tryz.f3 false true false false):=by
 refine returnsInHanded_of_change_and (C:=Tryz.checked) (X:=λ w _=>laidMetH Tryz.prog Rows.tolerTellsRow.laid w) (λ _ _ _ hh h=>h.of_heap hh) own started zk Tryz.func3
  (ChangeSpec.witness_shaped (enc:=enc) (C:=Tryz.checked) (os:=os) (X:=λ w _=>laidMetH Tryz.prog Rows.tolerTellsRow.laid w) false (World.laidAll Tryz.prog os Rows.tolerTellsRow.laid) #[.slice none 0 0] 8 (World.laidAll_os _ _ _) (World.shaped_of_ZipB zk zk) zk zk zk
   (by rw [MakeChecks.laidMetH_plain _ _ _ zk]; exact laidMet_laidAll _ zk zk)) ?_
 intro W base args ds gs before hval0 hW hcnd hwt _ _
 have hval:∀ (j:Nat) t v,Tryz.f3.params[j]?=some t→args[j]?=some v→Value.okWide Tryz.prog W .any base t v:=hval0
 have hW':=hW
 obtain ⟨p,q,hA0,hV,rfl,hfz,hnd⟩:=hW
 have hA:DataW.TrodAll enc Tryz.prog W 0 (λ _=>true) true Tryz.f3.params.toList args.toList ds p:=hA0
 rw [Tryz.params3] at hA hval hwt
 obtain ⟨v0,vs0,d0,ds0,p0,q0,hargs,rfl,rfl,h0,r0⟩:=trodAll_cons hA
 obtain ⟨rfl,rfl,rfl⟩:=trodAll_nil r0
 obtain rfl:args = #[v0]:=by cases args; simp_all
 obtain ⟨rfl,rfl⟩:=trodVars_none hV
 have k0:=h0
 have lt0:∀ x∈p0,x.block<W.heap.size:=by obtain ⟨m,hm⟩:=k0; exact DataW.trod_lt m _ _ _ hm
 obtain ⟨x0,a0,b0⟩:=Hr (A:=LoA) (bd:=wdLo) (m:=17) (D:=[128]) Tryz.underlying22 zk zd (Nat.lt_of_lt_of_eq zd (show 264=Tryz.prog.bytesOf 69 from by kernel_rfl)) (λ _=>iH zk) rb_lo (hval 0 22 v0 rfl rfl) h0 (wt_of hwt 0 rfl rfl)
 clear hA0 hval0
 refine ((EO x0 b0).2 W.heap.size W [v0] (qg _) (.cons a0 .nil)).mono λ e W' ⟨v,he,hv,bel⟩=>?_
 have hv':=eK hv
 subst hv' he
 exact ⟨_,rfl,_,_,_,[],_,[],hW',trodAll_mk1 (shut_bool Tryz.underlying4 _),(trodAll_cons_mk (Below.trod laidOut zk (qt zk) k0 bel lt0) trodAll_mk0),rfl,bel.frame _,λ h=>by cases h⟩
theorem andI {a b:Bool}(h:a=true)(k:b=true):(a&&b)=true:=by rw [h,k]; rfl
theorem c_name:Tryz.pinned.checked.prog.funcNamed Rows.tolerTellsRow.func=some 3:=by kernel_rfl
set_option maxHeartbeats 8000000 in
theorem Hh:joinedFacts Tryz.pinned.checked.prog 3 Tryz.f3 Rows.tolerTellsSpec Rows.tolerTellsRow=true:=by
 unfold joinedFacts
 repeat' with_reducible refine andI ?_ ?_
 all_goals as_aux_lemma=>kernel_rfl
theorem c_inst:Tryz.f3.isInstance Tryz.pinned.checked.prog Rows.tolerTellsRow.origin Rows.tolerTellsRow.targs:=qt zk
theorem c_wrap:Tryz.f3.isWrapper Tryz.pinned.checked.prog Rows.tolerTellsRow.wrapper Rows.tolerTellsRow.mainSum:=by unfold Func.isWrapper; rw [qA (qr (by as_aux_lemma=>kernel_rfl))]; exact ⟨rfl,rfl⟩
theorem over:Rows.tolerTellsRow.holds Tryz.pinned (OpenSpec.ofChange Rows.tolerTellsSpec) :=
 OpenClaim.holds_of_wide 3 Tryz.f3 rfl rfl rfl rfl rfl rfl rfl ⟨rfl,rfl,rfl,rfl,rfl⟩ rfl rfl rfl rfl rfl c_name Tryz.func3 Hh c_inst c_wrap
  (λ os started H enc _=>lifted os started H enc)
theorem BV:(Tryz.f3.params.all λ t => !Tryz.prog.wantsStandIn t)=true:=by kernel_rfl
theorem c_text:Rows.tolerTellsRow.wfByText (OpenSpec.ofChange Rows.tolerTellsSpec)=true:=by kernel_rfl
theorem c_main : Tryz.pinned.checked.prog.mainIs = some ((true, "ccd2b7ce548fceb60a53fcc829614a81155e920e75d965da7bcdf55db1cf6d76").1, (true, "ccd2b7ce548fceb60a53fcc829614a81155e920e75d965da7bcdf55db1cf6d76").2.toList) := by kernel_rfl
theorem Hg:false=Tryz.pinned.checked.prog.looks []:=by kernel_rfl
theorem c_goes:false=Rows.tolerTellsRow.goesBy Tryz.pinned.checked.prog:=by kernel_rfl
theorem provedTolerTells:Rows.TolerTellsCardSaid :=
 Claim7.holds_tied_plain_at .later [] [.data, .data, .data] true (true, "ccd2b7ce548fceb60a53fcc829614a81155e920e75d965da7bcdf55db1cf6d76") false over (λ _ h => by cases h) c_text (λ _ h => by cases h) tolerTells_row_tie rfl ⟨rfl, rfl⟩ c_main rfl
  (λ f fn hf hfn=>by
   obtain rfl:f=3:=Option.some.inj (c_name.symm.trans hf) |>.symm
   obtain rfl:fn=Tryz.f3:=(Option.some.inj (Tryz.func3.symm.trans hfn)).symm
   exact ⟨Hg,λ j t ht=>by
    have h1:=Array.all_eq_true_iff_forall_mem.1 BV t (kH ht)
    have h2:Tryz.prog.wantsStandIn t=false:=by simpa using h1
    exact h2⟩)
  c_goes
#print axioms provedTolerTells
end Go.Proofs.YtkpifdpdeanjfaaGreatDoor
