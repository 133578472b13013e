/- SearchPicks: for all tasks and all picks the law of chapter 26 on their benches and on which is better, held against the reference, answers true; all stays as it was, the answers lie apart. No condition. -/
import Derived.Test.YtbghmmnkciimdaaGreatDoorPvAg
import Derived.Test.YtbghmmnkciimdaaGreatDoorRows
import Derived.Test.YtbghmmnkciimdaaGreatDoorTie
import Derived.Test.YtbghmmnkciimdaaGreatDoorCards
import Derived.ShutString
import Derived.LaidMore
import Derived.Lay
import Derived.MakeChecks
import Derived.SevenTiedAt
set_option linter.all false
set_option maxRecDepth 100000
namespace Go.Proofs.YtbghmmnkciimdaaGreatDoor
open Go Go.RowKit
variable {w:World}{B:Nat}{a:Act}{v:Value}{T:TypeId}{w0:Bs}{Γ:List (Nat × VA)}{Λ:List Lc}{ps:String}{af:Array Edge}{vr:Value}{H:Hd}{cs:List Value}{w':World}{P:Program}{D:List TypeId}{N:Nat}{i:Nat}{k:Nat}{n:Nat}{j:Nat}{m:Nat}{s:Nat}{b:Nat}{c:Nat}{g:Nat}{d:Nat}{id:Nat}{hi:Nat}{ops:Array Oper}{x:Operand}{y:Operand}{E:TypeId}{S:TypeId}{A:As}{l:List Nat}{fn:Func}{Q:Exit→Act→World→Prop}{xs:List Operand}{gs:List Nat}{W:World}{W':World}{ds:List Value}{q:Int}{A':As}{A0:As}{A1:As}{sp:List Sp}{ty:TypeId}
open Go.ChangeShapes Go.WideShapes Go.ChangeAt
open Go.ChangeMaps (open_string shut_string)
theorem own:ownKnob Tryz.prog.godebug=none:=by kernel_rfl
theorem tj:laidOutB Tryz.prog=true:=by kernel_rfl
theorem NE (os:Os)(started:os.Started)(H:Type)(enc:Yh × Yo→H) :
  ReturnsInHanded {} Tryz.checked os 3 .any (λ w args=>(Rows.searchPicksSpec.pre enc Tryz.prog Tryz.f3 Rows.searchPicksRow.domain false w args∧laidMetH Tryz.prog Rows.searchPicksRow.laid w)∧sizedMet enc Tryz.prog Tryz.f3 (OpenSpec.ofChange Rows.searchPicksSpec) false w args) (Rows.searchPicksSpec.post enc Tryz.prog Tryz.f3 false true false false):=by
 refine returnsInHanded_of_change_and (C:=Tryz.checked) (X:=λ w _=>laidMetH Tryz.prog Rows.searchPicksRow.laid w) (λ _ _ _ hh h=>h.of_heap hh) own started zk Tryz.func3
  (ChangeSpec.witness_shaped (enc:=enc) (C:=Tryz.checked) (os:=os) (X:=λ w _=>laidMetH Tryz.prog Rows.searchPicksRow.laid w) false (World.laidAll Tryz.prog os Rows.searchPicksRow.laid) #[.agg #[.slice none 0 0,.slice none 0 0,.bool false,.slice none 0 0,.bool false,.slice none 0 0],.slice none 0 0,.slice none 0 0] 8 (World.laidAll_os _ _ _) (World.shaped_of_ZipB zk zk) zk zk zk
   (by rw [MakeChecks.laidMetH_plain _ _ _ zk];exact laidMet_laidAll _ zk zk)) ?_
 intro W base args ds gs before hval0 hW hcnd hwt _ _;have hval:∀ (j:Nat) t v,Tryz.f3.params[j]?=some t→args[j]?=some v→Value.okWide Tryz.prog W .any base t v:=hval0;have hW':=hW;obtain ⟨p,q,hA0,hV,rfl,hfz,hnd⟩:=hW;have hA:DataW.TrodAll enc Tryz.prog W 0 (λ _=>true) true Tryz.f3.params.toList args.toList ds p:=hA0;rw [Tryz.params3] at hA hval hwt;obtain ⟨v0,vs0,d0,ds0,p0,q0,hargs,rfl,rfl,h0,r0⟩:=trodAll_cons hA;obtain ⟨v1,vs1,d1,ds1,p1,q1,rfl,rfl,rfl,h1,r1⟩:=trodAll_cons r0;obtain ⟨v2,vs2,d2,ds2,p2,q2,rfl,rfl,rfl,h2,r2⟩:=trodAll_cons r1;obtain ⟨rfl,rfl,rfl⟩:=trodAll_nil r2;obtain rfl:args = #[v0,v1,v2]:=by cases args;simp_all
 obtain ⟨rfl,rfl⟩:=trodVars_none hV;have k0:=h0;have lt0:∀ x∈p0,x.block<W.heap.size:=by obtain ⟨m,hm⟩:=k0;exact DataW.trod_lt m _ _ _ hm
 have k1:=h1;have lt1:∀ x∈p1,x.block<W.heap.size:=by obtain ⟨m,hm⟩:=k1;exact DataW.trod_lt m _ _ _ hm
 have k2:=h2;have lt2:∀ x∈p2,x.block<W.heap.size:=by obtain ⟨m,hm⟩:=k2;exact DataW.trod_lt m _ _ _ hm
 obtain ⟨x0,a0,b0⟩:=LH (A:=TkA) (bd:=wdTk) (λ _=>rfl) Tryz.underlying30 PM (hval 0 30 v0 rfl rfl) h0 (Id hwt 0 rfl rfl);obtain ⟨x1,a1,b1⟩:=DZ (A:=InA) (bd:=λ _=>True) (m:=1) (D:=[]) Tryz.underlying31 zk zd (jQ zd (show 8=Tryz.prog.bytesOf 3 from by kernel_rfl)) (λ _=>fe zk) MO (hval 1 31 v1 rfl rfl) h1 (Id hwt 1 rfl rfl);obtain ⟨x2,a2,b2⟩:=DZ (A:=InA) (bd:=λ _=>True) (m:=1) (D:=[]) Tryz.underlying31 zk zd (jQ zd (show 8=Tryz.prog.bytesOf 3 from by kernel_rfl)) (λ _=>fe zk) MO (hval 2 31 v2 rfl rfl) h2 (Id hwt 2 rfl rfl);clear hA0 hval0;refine ((Jz x0 b0 x1 b1 x2 b2).2 W.heap.size W [v0,v1,v2] (qi _) (.cons a0 (.cons a1 (.cons a2 .nil)))).mono λ e W' ⟨v,he,hv,bel⟩=>?_;have hv':=dS hv;subst hv' he;exact ⟨_,rfl,_,_,_,[],_,[],hW',trodAll_mk1 (shut_bool Tryz.underlying4 _),(trodAll_cons_mk (Below.trod tj zk (qt zk) k0 bel lt0) (trodAll_cons_mk (Below.trod tj zk (qt zk) k1 bel lt1) (trodAll_cons_mk (Below.trod tj zk (qt zk) k2 bel lt2) trodAll_mk0))),rfl,bel.frame _,λ h=>by cases h⟩
theorem andI {a b:Bool}(h:a=true)(k:b=true):(a&&b)=true:=by rw [h,k];rfl
theorem c_name:Tryz.pinned.checked.prog.funcNamed Rows.searchPicksRow.func=some 3:=by kernel_rfl
set_option maxHeartbeats 8000000 in
theorem Lx:joinedFacts Tryz.pinned.checked.prog 3 Tryz.f3 Rows.searchPicksSpec Rows.searchPicksRow=true:=by
 unfold joinedFacts
 repeat' with_reducible refine andI ?_ ?_
 all_goals as_aux_lemma=>kernel_rfl
theorem OK:Tryz.f3.isInstance Tryz.pinned.checked.prog Rows.searchPicksRow.origin Rows.searchPicksRow.targs:=qt zk
theorem OH:Tryz.f3.isWrapper Tryz.pinned.checked.prog Rows.searchPicksRow.wrapper Rows.searchPicksRow.mainSum:=by unfold Func.isWrapper;rw [qz (qv (by as_aux_lemma=>kernel_rfl))];exact ⟨rfl,rfl⟩
theorem over:Rows.searchPicksRow.holds Tryz.pinned (OpenSpec.ofChange Rows.searchPicksSpec) :=
 OpenClaim.holds_of_wide 3 Tryz.f3 rfl rfl rfl rfl rfl rfl rfl ⟨rfl,rfl,rfl,rfl,rfl⟩ rfl rfl rfl rfl rfl c_name Tryz.func3 Lx OK OH
  (λ os started H enc _=>NE os started H enc)
theorem Fl:(Tryz.f3.params.all λ t => !Tryz.prog.wantsStandIn t)=true:=by kernel_rfl
theorem OI:Rows.searchPicksRow.wfByText (OpenSpec.ofChange Rows.searchPicksSpec)=true:=by kernel_rfl
theorem OJ:Tryz.pinned.checked.prog.mainIs=some ((true,"573268fa3c42c705ab79a0b378b2718a81f439d4dd288c3082cd3348b3ea6114").1,(true,"573268fa3c42c705ab79a0b378b2718a81f439d4dd288c3082cd3348b3ea6114").2.toList):=by kernel_rfl
theorem Lw:false=Tryz.pinned.checked.prog.looks []:=by kernel_rfl
theorem OL:false=Rows.searchPicksRow.goesBy Tryz.pinned.checked.prog:=by kernel_rfl
theorem provedSearchPicks:Rows.SearchPicksCardSaid :=
 Claim7.holds_tied_plain_at .later [] [.data,.data,.data] true (true,"573268fa3c42c705ab79a0b378b2718a81f439d4dd288c3082cd3348b3ea6114") false over (λ _ h=>by cases h) OI (λ _ h=>by cases h) searchPicks_row_tie rfl ⟨rfl,rfl⟩ OJ rfl
  (λ f fn hf hfn=>by
   obtain rfl:f=3:=Option.some.inj (c_name.symm.trans hf) |>.symm;obtain rfl:fn=Tryz.f3:=(Option.some.inj (Tryz.func3.symm.trans hfn)).symm;exact ⟨Lw,λ j t ht=>by
    have h1:=Array.all_eq_true_iff_forall_mem.1 Fl t (vx ht);have h2:Tryz.prog.wantsStandIn t=false:=by simpa using h1
    exact h2⟩)
  OL
#print axioms provedSearchPicks
end Go.Proofs.YtbghmmnkciimdaaGreatDoor
