/- TolerChecks: for all loose elements the law of chapter 24 on which may be, held against the reference, answers true. No condition. -/
import Derived.Test.YtlpppkkggljdcaaGreatTcAa
import Derived.Test.YtlpppkkggljdcaaGreatTcAc
import Derived.Test.YtlpppkkggljdcaaGreatTcAx
import Derived.Test.YtlpppkkggljdcaaGreatTcBa
import Derived.Test.YtlpppkkggljdcaaGreatRows
import Derived.WalkKit
import Derived.ProofKit
import Derived.OpenShut
import Derived.ShutString
import Derived.ChangeOld
import Derived.Below
set_option linter.unusedVariables false
set_option linter.unusedSimpArgs false
set_option linter.unusedSectionVars false
set_option maxRecDepth 100000
namespace Go.Proofs.YtlpppkkggljdcaaGreat
open Go Go.RowKit
theorem byd_lo {xs:List RLo}(hs:(∀ y∈xs,wdLo y)∧xs.length≤140737488355328)(h:bydF 0 [losF (xs.length:Nat) xs]=false):xs.length≤10000000∧bdLLooses xs:=by
 obtain ⟨c,h1,h2,h3⟩:=los_ok xs xs.length hs.1 zo
 rw [h1] at h
 have:=byd_0 (l:=[c]) (by simp; omega) h
 simp at this
 obtain ⟨h4,h5⟩:=h3 zo
 refine ⟨by omega,fun y hy=>?_⟩
 have:=h5 y hy
 unfold shLo shFr at this
 unfold bdLo bdGp bdF
 omega
set_option maxHeartbeats 1000000 in
theorem checks_w (xs:List RLo)(hxs:(∀ y∈xs,wdLo y)∧xs.length≤140737488355328):Cn Tryz.prog 3 [(SlA 41 [U32] (xs.map LoA)).va] (Bo true):=by
 refine Cn.introF Tryz.func3 rfl zk nq (fun B w0 a hF hst=>?_)
 have hst:St B w0 23 [(0,(SlA 41 [U32] (xs.map LoA)).va)] [] a w0.w:=hst
 obtain ⟨v0,hv0,hst⟩:=St.eqv hst 0 rfl
 refine wp_seq ?_
 refine gl (sts:=[]) (news:=[]) (sp:=[.val 2 _]) [.g 0,.o 0] hst (zv rfl (za1 zba) o0) (fun a w hst=>?_)
 have hst:St B w0 23 [(0,_),(2,_)] [] a w:=hst
 refine zt ?_
 refine wp_seq ?_
 refine gl (sts:=[]) (news:=[]) (sp:=[.val 4 _,.val 5 _,.val 6 _,.val 7 _]) [.g 0,.g 1,.o 3] hst (zv rfl (za2 (gq 0 rfl)) (zv rfl (za5 (xs:=[.tmp 4]) (losCost_c _) (.cons (zbq hF hv0 (vq 0 rfl)) .nil)) (zv rfl (zcx (D:=[]) (l:=[_]) (xs:=[.tmp 5]) (zfq zk) sl_69 zk (n_ok zk) nq nq nq (.cons (vq 1 rfl) .nil) rfl rfl) (zv rfl (za5 (xs:=[.tmp 6]) (beyond_c [_]) (.cons (vq 2 rfl) .nil)) o0)))) (fun a w hst=>?_)
 have hst:St B w0 23 [(0,_),(2,_),(7,_)] [] a w:=hst
 refine za0 ?_
 refine za8 hst (zm 2 rfl) (fun hb0=>?_) (fun hb0=>?_)
 ·refine wp_seq ?_
  refine gl (sts:=[]) (news:=[]) (sp:=[.val 2 _]) [.g 0,.o 0] hst (zv rfl (za1 zba) o0) (fun a w hst=>?_)
  have hst:St B w0 23 [(0,_),(2,_)] [] a w:=hst
  refine za0 ?_
  refine wp_ret ?_
  refine zad ?_
  refine zai ?_ (zaa rfl hst (zm 1 rfl))
  exact zb6
 ·obtain ⟨hl,hbs⟩:=byd_lo hxs hb0
  refine wp_skip ?_
  refine zt<|gl (sts:=[]) (news:=[]) (sp:=[.val 8 _,.val 9 _,.val 3 _]) [.g 0,.g 1,.o 2] hst (zv rfl (za2 (gq 0 rfl)) (zv rfl (za5 (xs:=[.tmp 8]) (zkh xs hl hbs) (.cons (zbq hF hv0 (vq 0 rfl)) .nil)) (zv rfl (za1 (vq 1 rfl)) o0))) (fun a w hst=>?_)
  have hst:St B w0 23 [(0,_),(2,_),(3,_)] [] a w:=hst
  refine zt<|gl (sts:=[]) (news:=[]) (sp:=[.val 10 _,.val 11 _,.val 12 _,.val 13 _,.val 14 _,.val 15 _,.val 16 (Wh (_=true) _),.val 17 (Wh (_=true) _),.val 18 (Wh (_=true) _),.val 19 _,.val 20 _,.val 21 (Wh (_=true) _),.val 22 _,.val 2 _]) [.o 13] hst (zv rfl (za2 (gq 2 rfl)) (zv rfl (za5 (xs:=[.tmp 10]) ((zfb xs).wk (.cons (zcn twS_sl (sl_wk (map_all2 fun x=>wkA_lot) (zjw (p:=fun A=>∀ T∈A.deps,T∈[U32]) fun x=>nd_selfB zk)).va) .nil)) (.cons (vq 0 rfl) .nil)) (zv rfl (za2 (gq 0 rfl)) (zv rfl (za5 (xs:=[.tmp 12]) (r24check_c xs) (.cons (zbq hF hv0 (vq 2 rfl)) .nil)) (zv rfl (zc2 (vq 1 rfl) (vq 3 rfl)) (zv rfl (za2 (vq 4 rfl)) (oc (zal rfl rfl rfl (vq 5 rfl) nq (fun hg=>za2 (gq 2 rfl))) (oc (zal rfl rfl rfl (vq 5 rfl) nq (fun hg=>za2 (gq 0 rfl))) (oc (zal rfl rfl rfl (vq 5 rfl) nq (fun hg=>za5 (xs:=[.tmp 16,.tmp 17]) (zl1 xs xs hl hbs) (.cons (zae (vq 6 rfl) hg) (.cons (zbq hF hv0 (zae (vq 7 rfl) hg)) .nil)))) (zv rfl (zcj (vq 5 rfl) (vq 8 rfl)) (zv rfl (za2 (vq 9 rfl)) (oc (zal rfl rfl rfl (vq 10 rfl) nq (fun hg=>za5 (xs:=[]) alive24_c .nil)) (zv rfl (zcj (vq 10 rfl) (vq 11 rfl)) (zv rfl (za1 (vq 12 rfl)) o0)))))))))))))) (fun a w hst=>?_)
  have hst:St B w0 23 [(2,_)] [] a w:=hst
  refine za0 ?_
  refine wp_ret ?_
  refine zai ?_ (zaa rfl hst (zm 0 rfl))
  refine zbv (congrArg Bo ?_); simp
open Go.ChangeShapes Go.WideShapes Go.ChangeAt
open Go.ChangeMaps (open_string shut_string)
theorem own:ownKnob Tryz.prog.godebug=none:=by kernel_rfl
theorem laidOut:laidOutB Tryz.prog=true:=by kernel_rfl
theorem lifted (os:Os)(started:os.Started)(H:Type)(enc:TypeId × Value→H) :
  ReturnsInHanded {} Tryz.checked os 3 .any (Rows.tolerChecksSpec.pre6 enc Tryz.prog Tryz.f3 Rows.tolerChecksRow.domain false) (Rows.tolerChecksSpec.post enc Tryz.prog Tryz.f3 false true false false):=by
 refine returnsInHanded_of_change_sized (C:=Tryz.checked) own started zk Tryz.func3
  (ChangeSpec.witness6 (enc:=enc) (C:=Tryz.checked) false ⟨#[],#[.slice none 0 0],[]⟩ 8 zk zk zk zk) ?_
 intro W base args ds gs before hval0 hW hcnd hwt _
 have hval:∀ (j:Nat) t v,Tryz.f3.params[j]?=some t→args[j]?=some v→Value.okWide Tryz.prog W .any base t v:=hval0
 have hW':=hW
 obtain ⟨p,q,hA0,hV,rfl,hfz,hnd⟩:=hW
 have hA:DataW.TrodAll enc Tryz.prog W 0 (fun _=>true) true Tryz.f3.params.toList args.toList ds p:=hA0
 rw [Tryz.params3] at hA hval hwt
 obtain ⟨v0,vs0,d0,ds0,p0,q0,hargs,rfl,rfl,h0,r0⟩:=trodAll_cons hA
 obtain ⟨rfl,rfl,rfl⟩:=trodAll_nil r0
 obtain rfl:args = #[v0]:=by cases args; simp_all
 obtain ⟨rfl,rfl⟩:=trodVars_none hV
 have k0:=h0
 have lt0:∀ x∈p0,x.block<W.heap.size:=by obtain ⟨m,hm⟩:=k0; exact DataW.trod_lt m _ _ _ hm
 obtain ⟨x0,a0,b0⟩:=arg_slB (A:=LoA) (bd:=wdLo) (m:=17) (D:=[130]) Tryz.underlying22 zk zd (Nat.lt_of_lt_of_eq zd (show 264=Tryz.prog.bytesOf 41 from by kernel_rfl)) (fun _=>nd_selfB zk) rb_lo (hval 0 22 v0 rfl rfl) h0 (wt_of hwt 0 rfl rfl)
 clear hA0 hval0
 refine ((checks_w x0 b0).2 W.heap.size W [v0] (Nat.le_refl _) (.cons a0 .nil)).mono fun e W' ⟨v,he,hv,bel⟩=>?_
 have hv':=zer hv
 subst hv' he
 exact ⟨_,rfl,_,_,_,[],_,[],hW',trodAll_mk1 (shut_bool Tryz.underlying4 _),(trodAll_cons_mk (Below.trod laidOut zk (of_decide_eq_true zk) k0 bel lt0) trodAll_mk0),rfl,bel.frame _,fun h=>by cases h⟩
theorem over:Rows.tolerChecksRow.holds Tryz.pinned (OpenSpec.ofChange Rows.tolerChecksSpec) :=
 OpenClaim.holds_of_wide 3 Tryz.f3 rfl rfl rfl rfl rfl rfl rfl ⟨rfl,rfl,rfl,rfl,rfl⟩ rfl rfl rfl rfl rfl zk Tryz.func3 zk
  (of_decide_eq_true zk) (by unfold Func.isWrapper; rw [if_neg (of_decide_eq_false zk)]; exact ⟨rfl,rfl⟩)
  (fun os started H enc _=>lifted os started H enc)
theorem provedTolerChecks:Rows.TolerChecksSaid:=over
#print axioms provedTolerChecks
end Go.Proofs.YtlpppkkggljdcaaGreat
