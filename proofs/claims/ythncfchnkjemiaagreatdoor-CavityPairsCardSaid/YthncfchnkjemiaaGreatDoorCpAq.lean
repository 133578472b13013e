import Derived.Test.YthncfchnkjemiaaGreatDoorCpAa
import Derived.Test.YthncfchnkjemiaaGreatDoorCpAc
import Derived.Test.YthncfchnkjemiaaGreatDoorCpAo
import Derived.Test.YthncfchnkjemiaaGreatDoorCpAp
set_option linter.unusedVariables false
set_option linter.unusedSimpArgs false
set_option linter.unusedSectionVars false
set_option maxRecDepth 100000
namespace Go.Proofs.YthncfchnkjemiaaGreatDoor
open Go Go.RowKit
theorem qd_pins {u v:Value} {c d k:Nat} {q:Rat} (hc:c≤k) (hd:d≤k):WkA (cat [PinA u ((ZN c q.num).and (SepAll [] u)),PinA v ((ZN d (q.den:Int)).and (SepAll [u] v))]) (QD k q) :=
 (dis_pins (l:=[(u,ZN c q.num),(v,ZN d (q.den:Int))]) (fun x hx=>by
  simp at hx
  rcases hx with rfl | rfl <;> exact nod_zn)).trans (dis_mono (cat_wk (.cons (zn_mono hc) (.cons (zn_mono hd) .nil))))
theorem qd_of {k c:Nat} {q:Rat} (h1:lz q.num≤c) (h2:lz (q.den:Int)≤c):WkA (QD k q) (QD c q):=dis_mono (cat_wk (.cons ⟨rfl,rfl,fun _ _ _ hp=>⟨h1,hp.2⟩⟩ (.cons ⟨rfl,rfl,fun _ _ _ hp=>⟨h2,hp.2⟩⟩ .nil)))
theorem lowestD_c {u0 v0:Value} {c d:Nat} {p q:Int} (hc:c≤549755813888) (hd:d≤549755813888) (hq:q≠0):Cn Tryz.prog 244 [(PinA u0 ((ZN c p).and (SepAll [] u0))).va,(PinA v0 ((ZN d q).and (SepAll [u0] v0))).va] ((QD (max c d) (Rat.divInt p q)).va):=by
 have hg0:0<Int.gcd p q:=Int.gcd_pos_of_ne_zero_right p hq
 obtain ⟨hn1,hn2⟩:=low_num (p:=p) hq
 refine Cn.intro Tryz.func244 rfl zk nq (fun B w0 a hst=>?_)
 have hst:St B w0 35 [(0,(PinA u0 ((ZN c p).and (SepAll [] u0))).va),(1,(PinA v0 ((ZN d q).and (SepAll [u0] v0))).va)] [] a w0.w:=hst
 refine wp_seq ?_
 refine gl (sts:=[]) (news:=[⟨2,24,ptrH,some 0,_,none⟩,⟨3,24,ptrH,some 1,_,none⟩,⟨4,26,ptrH,some 2,_,none⟩]) (sp:=[.alc 0,.alc 1,.alc 2]) [] hst (oc (ob_box rfl rfl rfl (gq 0 rfl)) (oc (ob_box rfl rfl rfl (gq 1 rfl)) (oc (ob_alc rfl rfl rfl (Str.zero str_frac)) o0))) (fun a w hst=>?_)
 have hst:St B w0 35 [] [⟨2,24,ptrH,_⟩,⟨3,24,ptrH,_⟩,⟨4,26,ptrH,_⟩] a w:=hst
 refine zt ?_
 refine wp_seq ?_
 refine gl (sts:=[none,none,none]) (news:=[⟨5,24,ptrH,some 3,_,some (4,_)⟩]) (sp:=[.val 6 _,.val 7 _,.val 8 _,.alc 3,.sto 3]) [] hst (zv rfl rfl (r_load (lz0 0 rfl) ty_24) (zv rfl rfl (r_load (lz0 1 rfl) ty_24) (zv rfl rfl (r_call (xs:=[.tmp 6,.tmp 7]) (common_z zo zo) (.cons (has_wk' (vq 0 rfl) pz_za.va) (.cons (has_wk' (vq 1 rfl) pz_za.va) .nil))) (oc (ob_alc rfl rfl rfl (Str.zero str_int)) (oc (ob_sto rfl rfl rfl (vq 2 rfl) ty_24 (Eq.trans (b:=2) rfl rfl)) o0))))) (fun a w hst=>?_)
 have hst:St B w0 35 [] [⟨2,24,ptrH,_⟩,⟨3,24,ptrH,_⟩,⟨4,26,ptrH,_⟩,⟨5,24,ptrH,_⟩] a w:=hst
 refine zt ?_
 refine go_draw (anc:=[[],[],[0,1],[0,1,2]]) (sts:=[none,none,none,none]) (news:=[]) (sp:=[.val 9 _,.val 10 _,.val 11 _,.val 12 _]) [.o 3] follows_mixed hst (zv rfl rfl (r_load (lz0 3 rfl) ty_24) (zv rfl rfl (r_call (xs:=[.const (.int .i64 (1))]) (of_z zd zd) (.cons has_num .nil)) (zv rfl rfl (r_call (xs:=[.tmp 9,.tmp 10]) (cmp_z zo zo) (.cons (vq 0 rfl) (.cons (vq 1 rfl) .nil))) (zv rfl rfl (r_neq (vq 2 rfl) has_num) o0)))) zk zk zk zk (fun a w hst=>?_)
 have hst:St B w0 35 [(12,_)] [⟨2,24,ptrH,_⟩,⟨3,24,ptrH,_⟩,⟨4,26,ptrH,_⟩,⟨5,24,ptrH,_⟩] a w:=hst
 refine thn_normal ?_
 refine cond_join (fun a w=>∃ u v:Value,St B w0 35 [] [⟨2,24,ptrH,PinA u ((ZN c (p.tdiv ((Int.gcd p q:Nat):Int))).and (SepAll [] u))⟩,⟨3,24,ptrH,PinA v ((ZN d (q.tdiv ((Int.gcd p q:Nat):Int))).and (SepAll [u] v))⟩,⟨4,26,ptrH,RFA ⟨⟨false,[]⟩,⟨false,[]⟩⟩⟩,⟨5,24,ptrH,ZA (max c d) ((Int.gcd p q:Nat):Int)⟩] a w) hst (zm 0 rfl) (fun hb0=>?_) (fun hb0=>?_) (fun a w hst=>?_)
 ·refine wp_seq ?_
  refine go_linV (sts:=[some (6,fun ν=>_),none,none,none]) (news:=[]) (sp:=[(fun ν=>.val 14 _),(fun ν=>.val 15 _),(fun ν=>.val 16 (PinT (ν 2) [ZN c (p.tdiv ((Int.gcd p q:Nat):Int)),ZN (max c d) (p.tmod ((Int.gcd p q:Nat):Int))] [v0])),(fun ν=>.val 13 _),(fun ν=>.val 17 (PinA (ν 4) ((ZN c (p.tdiv ((Int.gcd p q:Nat):Int))).and (SepAll [v0] (ν 4)))).va),(fun ν=>.val 18 (PinA (ν 5) ((ZN (max c d) (p.tmod ((Int.gcd p q:Nat):Int))).and (SepAll [v0] (ν 5)))).va),(fun ν=>.sto 0)]) [] hst ⟨of_u fun ν=>ob_v rfl rfl (r_load (lz0 0 rfl) ty_24),⟨of_u fun ν=>ob_v rfl rfl (r_load (lz0 3 rfl) ty_24),⟨of_callT (us:=fun ν=>[v0]) (xs:=[.tmp 14,.tmp 15]) rfl rfl (divide_zn zo zo) nf_zn (.cons upA_za.va (.cons upA_za.va .nil)) (fun ν=>(.cons (has_wk' (vq 0 rfl) pz_za.va) (.cons (vq 1 rfl) .nil))) (fun _ _=>rfl) (fun ν=>(live_loc (new_and new_zn) (lz0 1 rfl) live_nil)),⟨of_u fun ν=>ob_v rfl rfl (r_move (vq 2 rfl)),⟨of_ext (us:=fun ν=>[v0]) rfl rfl (fun ν=>(vq 3 rfl)) rfl (fun _ _=>rfl),⟨of_ext (us:=fun ν=>[v0]) rfl rfl (fun ν=>(vq 3 rfl)) rfl (fun _ _=>rfl),⟨of_u fun ν=>ob_sto rfl rfl rfl (vq 4 rfl) ty_24 (Eq.trans (b:=2) rfl rfl),trivial⟩⟩⟩⟩⟩⟩⟩ ⟨(fun ν ν' h=>rfl),⟨(fun ν ν' h=>rfl),⟨(fun ν ν' h=>by first | rfl | simp only [h 2 rfl]),⟨(fun ν ν' h=>by first | rfl | simp only [h 2 rfl]),⟨(fun ν ν' h=>by first | rfl | simp only [h 2 rfl,h 4 rfl]),⟨(fun ν ν' h=>by first | rfl | simp only [h 2 rfl,h 4 rfl,h 5 rfl]),⟨(fun ν ν' h=>by first | rfl | simp only [h 2 rfl,h 4 rfl,h 5 rfl]),trivial⟩⟩⟩⟩⟩⟩⟩ ⟨(fun ν ν' h=>by first | rfl | simp only [h 2 rfl,h 4 rfl,h 5 rfl]),⟨trivial,⟨trivial,⟨trivial,trivial⟩⟩⟩⟩ zk (fun ν=>by kernel_rfl) (fun ν=>by kernel_rfl) (fun ν3 a w hst=>?_)
  have hst:St B w0 35 [] [⟨2,24,ptrH,_⟩,⟨3,24,ptrH,_⟩,⟨4,26,ptrH,_⟩,⟨5,24,ptrH,_⟩] a w:=hst
  refine thn_normal ?_
  refine go_linV (sts:=[none,some (6,fun ν=>_),none,none]) (news:=[]) (sp:=[(fun ν=>.val 20 _),(fun ν=>.val 21 _),(fun ν=>.val 22 (PinT (ν 2) [ZN d (q.tdiv ((Int.gcd p q:Nat):Int)),ZN (max c d) (q.tmod ((Int.gcd p q:Nat):Int))] [(ν3 4)])),(fun ν=>.val 19 _),(fun ν=>.val 23 (PinA (ν 4) ((ZN d (q.tdiv ((Int.gcd p q:Nat):Int))).and (SepAll [(ν3 4)] (ν 4)))).va),(fun ν=>.val 24 (PinA (ν 5) ((ZN (max c d) (q.tmod ((Int.gcd p q:Nat):Int))).and (SepAll [(ν3 4)] (ν 5)))).va),(fun ν=>.sto 1)]) [] hst ⟨of_u fun ν=>ob_v rfl rfl (r_load (lz0 1 rfl) ty_24),⟨of_u fun ν=>ob_v rfl rfl (r_load (lz0 3 rfl) ty_24),⟨of_callT (us:=fun ν=>[(ν3 4)]) (xs:=[.tmp 20,.tmp 21]) rfl rfl (divide_zn zo zo) nf_zn (.cons upA_za.va (.cons upA_za.va .nil)) (fun ν=>(.cons (has_wk' (vq 0 rfl) pz_za.va) (.cons (vq 1 rfl) .nil))) (fun _ _=>rfl) (fun ν=>(live_loc (new_and new_zn) (lz0 0 rfl) live_nil)),⟨of_u fun ν=>ob_v rfl rfl (r_move (vq 2 rfl)),⟨of_ext (us:=fun ν=>[(ν3 4)]) rfl rfl (fun ν=>(vq 3 rfl)) rfl (fun _ _=>rfl),⟨of_ext (us:=fun ν=>[(ν3 4)]) rfl rfl (fun ν=>(vq 3 rfl)) rfl (fun _ _=>rfl),⟨of_u fun ν=>ob_sto rfl rfl rfl (vq 4 rfl) ty_24 (Eq.trans (b:=2) rfl rfl),trivial⟩⟩⟩⟩⟩⟩⟩ ⟨(fun ν ν' h=>rfl),⟨(fun ν ν' h=>rfl),⟨(fun ν ν' h=>by first | rfl | simp only [h 2 rfl]),⟨(fun ν ν' h=>by first | rfl | simp only [h 2 rfl]),⟨(fun ν ν' h=>by first | rfl | simp only [h 2 rfl,h 4 rfl]),⟨(fun ν ν' h=>by first | rfl | simp only [h 2 rfl,h 4 rfl,h 5 rfl]),⟨(fun ν ν' h=>by first | rfl | simp only [h 2 rfl,h 4 rfl,h 5 rfl]),trivial⟩⟩⟩⟩⟩⟩⟩ ⟨trivial,⟨(fun ν ν' h=>by first | rfl | simp only [h 2 rfl,h 4 rfl,h 5 rfl]),⟨trivial,⟨trivial,trivial⟩⟩⟩⟩ zk (fun ν=>by kernel_rfl) (fun ν=>by kernel_rfl) (fun ν4 a w hst=>?_)
  have hst:St B w0 35 [] [⟨2,24,ptrH,_⟩,⟨3,24,ptrH,_⟩,⟨4,26,ptrH,_⟩,⟨5,24,ptrH,_⟩] a w:=hst
  refine thn_normal ?_
  have hst:=St.sel hst []
  have hst:=St.wkL (A':=PinA (ν3 4) ((ZN c (p.tdiv ((Int.gcd p q:Nat):Int))).and (SepAll [] (ν3 4)))) hst 0 rfl (pin_mono and_triv)
  exact ⟨ν3 4,ν4 4,hst⟩
 ·refine wp_skip ?_
  refine thn_normal ?_
  have hst:=St.sel hst []
  have hst:=St.cvA (A':=PinA u0 ((ZN c (p.tdiv ((Int.gcd p q:Nat):Int))).and (SepAll [] u0))) hst 0 rfl (congrArg (fun z=>PinA u0 ((ZN c z).and (SepAll [] u0))) (tdiv_g hb0))
  have hst:=St.cvA (A':=PinA v0 ((ZN d (q.tdiv ((Int.gcd p q:Nat):Int))).and (SepAll [u0] v0))) hst 1 rfl (congrArg (fun z=>PinA v0 ((ZN d z).and (SepAll [u0] v0))) (tdiv_g hb0))
  exact ⟨u0,v0,hst⟩
 obtain ⟨u1,v1,hst⟩:=hst
 refine zt ?_
 refine wp_seq ?_
 refine gl (sts:=[none,none,none,none]) (news:=[]) (sp:=[.val 25 _,.val 26 _,.val 27 _]) [.o 2] hst (zv rfl rfl (r_load (lz0 1 rfl) ty_24) (zv rfl rfl (r_call (xs:=[.tmp 25]) sign_z (.cons (has_wk' (vq 0 rfl) pz_za.va) .nil)) (zv rfl rfl (r_lss (vq 1 rfl) has_num) o0))) (fun a w hst=>?_)
 have hst:St B w0 35 [(27,_)] [⟨2,24,ptrH,_⟩,⟨3,24,ptrH,_⟩,⟨4,26,ptrH,_⟩,⟨5,24,ptrH,_⟩] a w:=hst
 refine thn_normal ?_
 refine cond_join (fun a w=>∃ u v:Value,St B w0 35 [] [⟨2,24,ptrH,PinA u ((ZN c (Rat.divInt p q).num).and (SepAll [] u))⟩,⟨3,24,ptrH,PinA v ((ZN d ((Rat.divInt p q).den:Int)).and (SepAll [u] v))⟩,⟨4,26,ptrH,RFA ⟨⟨false,[]⟩,⟨false,[]⟩⟩⟩,⟨5,24,ptrH,ZA (max c d) ((Int.gcd p q:Nat):Int)⟩] a w) hst (zm 0 rfl) (fun hb1=>?_) (fun hb1=>?_) (fun a w hst=>?_)
 ·refine go_drawV' [[],[0],[],[0,1,2],[0,1,2,3],[0,1,2,3,4]] (sts:=[some (4,fun ν=>_),some (5,fun ν=>_),none,none]) (news:=[]) (sp:=[(fun ν=>.val 28 _),(fun ν=>.val 29 (PinA (ν 1) ((ZN c (-(p.tdiv ((Int.gcd p q:Nat):Int)))).and (SepAll [] (ν 1)))).va),(fun ν=>.val 30 _),(fun ν=>.val 31 (PinA (ν 3) ((ZN d (-(q.tdiv ((Int.gcd p q:Nat):Int)))).and (SepAll [ν 1] (ν 3)))).va),(fun ν=>.sto 0),(fun ν=>.sto 1)]) [] follows_mixed hst ⟨of_u fun ν=>ob_v rfl rfl (r_load (lz0 0 rfl) ty_24),⟨of_call (us:=fun ν=>[]) (xs:=[.tmp 28]) rfl rfl (turned_zn zo) new_zn free_zn (.cons upA_za.va .nil) (fun ν=>(.cons (has_wk' (vq 0 rfl) pz_za.va) .nil)) (fun _ _=>rfl) (fun ν=>live_nil),⟨of_u fun ν=>ob_v rfl rfl (r_load (lz0 1 rfl) ty_24),⟨of_call (us:=fun ν=>[ν 1]) (xs:=[.tmp 30]) rfl rfl (turned_zn zo) new_zn free_zn (.cons upA_za.va .nil) (fun ν=>(.cons (has_wk' (vq 2 rfl) pz_za.va) .nil)) (fun _ _=>rfl) (fun ν=>(live_cons (new_and new_zn) (vq 1 rfl) live_nil)),⟨of_u fun ν=>ob_sto rfl rfl rfl (vq 1 rfl) ty_24 (Eq.trans (b:=2) rfl rfl),⟨of_u fun ν=>ob_sto rfl rfl rfl (vq 3 rfl) ty_24 (Eq.trans (b:=2) rfl rfl),trivial⟩⟩⟩⟩⟩⟩ ⟨(fun ν ν' h=>rfl),⟨(fun ν ν' h=>by first | rfl | simp only [h 1 rfl]),⟨(fun ν ν' h=>rfl),⟨(fun ν ν' h=>by first | rfl | simp only [h 1 rfl,h 3 rfl]),⟨(fun ν ν' h=>by first | rfl | simp only [h 1 rfl,h 3 rfl]),⟨(fun ν ν' h=>by first | rfl | simp only [h 1 rfl,h 3 rfl]),trivial⟩⟩⟩⟩⟩⟩ ⟨(fun ν ν' h=>by first | rfl | simp only [h 1 rfl,h 3 rfl]),⟨(fun ν ν' h=>by first | rfl | simp only [h 1 rfl,h 3 rfl]),⟨trivial,⟨trivial,trivial⟩⟩⟩⟩ zk zk (fun ν=>by kernel_rfl) (fun ν=>by kernel_rfl) (fun ν6 a w hst=>?_)
  have hst:St B w0 35 [] [⟨2,24,ptrH,_⟩,⟨3,24,ptrH,_⟩,⟨4,26,ptrH,_⟩,⟨5,24,ptrH,_⟩] a w:=hst
  refine thn_normal ?_
  have hst:=St.sel hst []
  rw [if_pos (sgn_yes hb1)] at hn1 hn2; rw [hn1,hn2] at hst; exact ⟨ν6 1,ν6 3,hst⟩
 ·refine wp_skip ?_
  refine thn_normal ?_
  have hst:=St.sel hst []
  rw [if_neg (sgn_no hb1)] at hn1 hn2; rw [hn1,hn2] at hst; exact ⟨u1,v1,hst⟩
 obtain ⟨u2,v2,hst⟩:=hst
 refine zt ?_
 refine gl (sts:=[none,none,some (3,_),none]) (news:=[]) (sp:=[.val 32 _,.val 33 _,.val 34 _,.sto 2]) [] hst (zv rfl rfl (r_load (lz0 0 rfl) ty_24) (zv rfl rfl (r_load (lz0 1 rfl) ty_24) (zv rfl rfl (r_build (xs:=[(0,.tmp 32),(1,.tmp 33)]) (qs:=[(0,_),(1,_)]) str_frac (.cons ⟨rfl,(vq 0 rfl),rfl⟩ (.cons ⟨rfl,(vq 1 rfl),rfl⟩ .nil))) (oc (ob_sto rfl rfl rfl (vq 2 rfl) ty_26 (Eq.trans (b:=4) rfl rfl)) o0)))) (fun a w hst=>?_)
 have hst:St B w0 35 [] [⟨2,24,ptrH,_⟩,⟨3,24,ptrH,_⟩,⟨4,26,ptrH,_⟩,⟨5,24,ptrH,_⟩] a w:=hst
 refine thn_normal ?_
 refine wp_ret ?_
 refine ret_wk ?_ (ret_cell rfl hst (zm 2 rfl) ty_26)
 exact (qd_pins (Nat.le_max_left _ _) (Nat.le_max_right _ _)).va
theorem minusD_q {c d:Nat} {x y:Rat} (hc:c+d≤137438953472):Cn Tryz.prog 182 [Qs c x,Qs d y] ((QD (c+d+1) (x - y)).va):=by
 refine Cn.intro Tryz.func182 rfl zk nq (fun B w0 a hst=>?_)
 have hst:St B w0 22 [(0,Qs c x),(1,Qs d y)] [] a w0.w:=hst
 refine wp_seq ?_
 refine gl (sts:=[]) (news:=[⟨2,26,ptrH,some 0,_,none⟩,⟨3,26,ptrH,some 1,_,none⟩,⟨4,26,ptrH,some 2,_,none⟩]) (sp:=[.alc 0,.alc 1,.alc 2]) [] hst (oc (ob_box rfl rfl rfl (gq 0 rfl)) (oc (ob_box rfl rfl rfl (gq 1 rfl)) (oc (ob_alc rfl rfl rfl (Str.zero str_frac)) o0))) (fun a w hst=>?_)
 have hst:St B w0 22 [] [⟨2,26,ptrH,_⟩,⟨3,26,ptrH,_⟩,⟨4,26,ptrH,_⟩] a w:=hst
 refine zt ?_
 refine go_drawV' [[],[0],[],[2],[0,1,2,3],[],[5],[],[7],[0,1,2,3,4,5,6,7,8],[0,1,2,3,4,5,6,7,8,9],[],[11],[],[13],[0,1,2,3,4,5,6,7,8,9,10,11,12,13,14],[0,1,2,3,4,5,6,7,8,9,10,11,12,13,14,15],[0,1,2,3,4,5,6,7,8,9,10,11,12,13,14,15,16]] (sts:=[none,none,some (17,fun ν=>_)]) (news:=[]) (sp:=[(fun ν=>.adr 5 2 (.some 0) True),(fun ν=>.val 6 _),(fun ν=>.adr 7 3 (.some 2) True),(fun ν=>.val 8 _),(fun ν=>.val 9 _),(fun ν=>.adr 10 3 (.some 0) True),(fun ν=>.val 11 _),(fun ν=>.adr 12 2 (.some 2) True),(fun ν=>.val 13 _),(fun ν=>.val 14 _),(fun ν=>.val 15 (PinA (ν 10) ((ZN (max (c+d) (d+c)+1) (x.num*(y.den:Int) - y.num*(x.den:Int))).and (SepAll [] (ν 10)))).va),(fun ν=>.adr 16 2 (.some 2) True),(fun ν=>.val 17 _),(fun ν=>.adr 18 3 (.some 2) True),(fun ν=>.val 19 _),(fun ν=>.val 20 (PinA (ν 15) ((ZN (c+d) ((x.den:Int)*(y.den:Int))).and (SepAll [ν 10] (ν 15)))).va),(fun ν=>.val 21 _),(fun ν=>.sto 2)]) [] follows_mixed hst ⟨of_u fun ν=>ob_a rfl rfl (a_fld (lz0 0 rfl) fld_26_0),⟨of_u fun ν=>ob_v rfl rfl (r_loadf 0 rfl zk trivial (lz0 0 rfl) (Sub.part 0 rfl rfl) ty_24),⟨of_u fun ν=>ob_a rfl rfl (a_fld (lz0 1 rfl) fld_26_1),⟨of_u fun ν=>ob_v rfl rfl (r_loadf 2 rfl zk trivial (lz0 1 rfl) (Sub.part 1 rfl rfl) ty_24),⟨of_u fun ν=>ob_v rfl rfl (r_call (xs:=[.tmp 6,.tmp 8]) (times_z zo zo) (.cons (vq 1 rfl) (.cons (vq 3 rfl) .nil))),⟨of_u fun ν=>ob_a rfl rfl (a_fld (lz0 1 rfl) fld_26_0),⟨of_u fun ν=>ob_v rfl rfl (r_loadf 5 rfl zk trivial (lz0 1 rfl) (Sub.part 0 rfl rfl) ty_24),⟨of_u fun ν=>ob_a rfl rfl (a_fld (lz0 0 rfl) fld_26_1),⟨of_u fun ν=>ob_v rfl rfl (r_loadf 7 rfl zk trivial (lz0 0 rfl) (Sub.part 1 rfl rfl) ty_24),⟨of_u fun ν=>ob_v rfl rfl (r_call (xs:=[.tmp 11,.tmp 13]) (times_z zo zo) (.cons (vq 6 rfl) (.cons (vq 8 rfl) .nil))),⟨of_call (us:=fun ν=>[]) (xs:=[.tmp 9,.tmp 14]) rfl rfl (minus_zn zo zo) new_zn free_zn (.cons upA_za.va (.cons upA_za.va .nil)) (fun ν=>(.cons (vq 4 rfl) (.cons (vq 9 rfl) .nil))) (fun _ _=>rfl) (fun ν=>live_nil),⟨of_u fun ν=>ob_a rfl rfl (a_fld (lz0 0 rfl) fld_26_1),⟨of_u fun ν=>ob_v rfl rfl (r_loadf 11 rfl zk trivial (lz0 0 rfl) (Sub.part 1 rfl rfl) ty_24),⟨of_u fun ν=>ob_a rfl rfl (a_fld (lz0 1 rfl) fld_26_1),⟨of_u fun ν=>ob_v rfl rfl (r_loadf 13 rfl zk trivial (lz0 1 rfl) (Sub.part 1 rfl rfl) ty_24),⟨of_call (us:=fun ν=>[ν 10]) (xs:=[.tmp 17,.tmp 19]) rfl rfl (times_zn zo zo) new_zn free_zn (.cons upA_za.va (.cons upA_za.va .nil)) (fun ν=>(.cons (vq 12 rfl) (.cons (vq 14 rfl) .nil))) (fun _ _=>rfl) (fun ν=>(live_cons (new_and new_zn) (vq 10 rfl) live_nil)),⟨of_u fun ν=>ob_v rfl rfl (r_call (xs:=[.tmp 15,.tmp 20]) (lowestD_c zo zo (den_nz x y)) (.cons (vq 10 rfl) (.cons (vq 15 rfl) .nil))),⟨of_u fun ν=>ob_sto rfl rfl rfl (vq 16 rfl) ty_26 (Eq.trans (b:=4) rfl rfl),trivial⟩⟩⟩⟩⟩⟩⟩⟩⟩⟩⟩⟩⟩⟩⟩⟩⟩⟩ ⟨(fun ν ν' h=>rfl),⟨(fun ν ν' h=>rfl),⟨(fun ν ν' h=>rfl),⟨(fun ν ν' h=>rfl),⟨(fun ν ν' h=>rfl),⟨(fun ν ν' h=>rfl),⟨(fun ν ν' h=>rfl),⟨(fun ν ν' h=>rfl),⟨(fun ν ν' h=>rfl),⟨(fun ν ν' h=>rfl),⟨(fun ν ν' h=>by first | rfl | simp only [h 10 rfl]),⟨(fun ν ν' h=>rfl),⟨(fun ν ν' h=>rfl),⟨(fun ν ν' h=>rfl),⟨(fun ν ν' h=>rfl),⟨(fun ν ν' h=>by first | rfl | simp only [h 10 rfl,h 15 rfl]),⟨(fun ν ν' h=>by first | rfl | simp only [h 10 rfl,h 15 rfl]),⟨(fun ν ν' h=>by first | rfl | simp only [h 10 rfl,h 15 rfl]),trivial⟩⟩⟩⟩⟩⟩⟩⟩⟩⟩⟩⟩⟩⟩⟩⟩⟩⟩ ⟨trivial,⟨trivial,⟨(fun ν ν' h=>by first | rfl | simp only [h 10 rfl,h 15 rfl]),trivial⟩⟩⟩ zk zk (fun ν=>by kernel_rfl) (fun ν=>by kernel_rfl) (fun ν1 a w hst=>?_)
 have hst:St B w0 22 [] [⟨2,26,ptrH,_⟩,⟨3,26,ptrH,_⟩,⟨4,26,ptrH,_⟩] a w:=hst
 refine thn_normal ?_
 refine wp_ret ?_
 refine ret_wk ?_ (ret_cell rfl hst (zm 2 rfl) ty_26)
 exact wk_trans (wk_eq (congrArg (fun z=>(QD _ z).va) (rat_sub x y))) (qd_mono zo).va
theorem qd_cp {u v:Value} {c d k:Nat} {x:Rat} (hc:c≤k) (hd:d≤k):WkA (cat [PinA u ((ZN c (x.num+0)).and (SepAll [] u)),PinA v ((ZN d ((x.den:Int)+0)).and (SepAll [u] v))]) (QD k x):=by
 rw [Int.add_zero,Int.add_zero]
 exact qd_pins hc hd
theorem copyD_r {c:Nat} {x:Rat} (hc:c≤137438953472):Cn Tryz.prog 218 [Qs c x] ((QD (max c 2+1) x).va):=by
 refine Cn.intro Tryz.func218 rfl zk nq (fun B w0 a hst=>?_)
 have hst:St B w0 14 [(0,Qs c x)] [] a w0.w:=hst
 refine wp_seq ?_
 refine gl (sts:=[]) (news:=[⟨1,26,ptrH,some 0,_,none⟩,⟨2,26,ptrH,some 1,_,none⟩]) (sp:=[.alc 0,.alc 1]) [] hst (oc (ob_box rfl rfl rfl (gq 0 rfl)) (oc (ob_alc rfl rfl rfl (Str.zero str_frac)) o0)) (fun a w hst=>?_)
 have hst:St B w0 14 [] [⟨1,26,ptrH,_⟩,⟨2,26,ptrH,_⟩] a w:=hst
 refine zt ?_
 refine gl (sts:=[none,none]) (news:=[⟨3,24,ptrH,some 1,_,some (2,_)⟩]) (sp:=[.val 4 _,.alc 2,.sto 2]) [] hst (zv rfl rfl (r_call (xs:=[.const (.int .i64 (0))]) (of_z zd zd) (.cons has_num .nil)) (oc (ob_alc rfl rfl rfl (Str.zero str_int)) (oc (ob_sto rfl rfl rfl (vq 0 rfl) ty_24 (Eq.trans (b:=2) rfl rfl)) o0))) (fun a w hst=>?_)
 have hst:St B w0 14 [] [⟨1,26,ptrH,_⟩,⟨2,26,ptrH,_⟩,⟨3,24,ptrH,_⟩] a w:=hst
 refine zt ?_
 refine go_drawV' [[],[0],[],[0,1,2],[],[4],[],[0,1,2,3,4,5,6],[0,1,2,3,4,5,6,7],[0,1,2,3,4,5,6,7,8]] (sts:=[none,some (9,fun ν=>_),none]) (news:=[]) (sp:=[(fun ν=>.adr 5 1 (.some 0) True),(fun ν=>.val 6 _),(fun ν=>.val 7 _),(fun ν=>.val 8 (PinA (ν 3) ((ZN (max c 2+1) (x.num+0)).and (SepAll [] (ν 3)))).va),(fun ν=>.adr 9 1 (.some 2) True),(fun ν=>.val 10 _),(fun ν=>.val 11 _),(fun ν=>.val 12 (PinA (ν 7) ((ZN (max c 2+1) ((x.den:Int)+0)).and (SepAll [ν 3] (ν 7)))).va),(fun ν=>.val 13 _),(fun ν=>.sto 1)]) [] follows_mixed hst ⟨of_u fun ν=>ob_a rfl rfl (a_fld (lz0 0 rfl) fld_26_0),⟨of_u fun ν=>ob_v rfl rfl (r_loadf 0 rfl zk trivial (lz0 0 rfl) (Sub.part 0 rfl rfl) ty_24),⟨of_u fun ν=>ob_v rfl rfl (r_load (lz0 2 rfl) ty_24),⟨of_call (us:=fun ν=>[]) (xs:=[.tmp 6,.tmp 7]) rfl rfl (plus_zn zo zo) new_zn free_zn (.cons upA_za.va (.cons upA_za.va .nil)) (fun ν=>(.cons (vq 1 rfl) (.cons (vq 2 rfl) .nil))) (fun _ _=>rfl) (fun ν=>live_nil),⟨of_u fun ν=>ob_a rfl rfl (a_fld (lz0 0 rfl) fld_26_1),⟨of_u fun ν=>ob_v rfl rfl (r_loadf 4 rfl zk trivial (lz0 0 rfl) (Sub.part 1 rfl rfl) ty_24),⟨of_u fun ν=>ob_v rfl rfl (r_load (lz0 2 rfl) ty_24),⟨of_call (us:=fun ν=>[ν 3]) (xs:=[.tmp 10,.tmp 11]) rfl rfl (plus_zn zo zo) new_zn free_zn (.cons upA_za.va (.cons upA_za.va .nil)) (fun ν=>(.cons (vq 5 rfl) (.cons (vq 6 rfl) .nil))) (fun _ _=>rfl) (fun ν=>(live_cons (new_and new_zn) (vq 3 rfl) live_nil)),⟨of_u fun ν=>ob_v rfl rfl (r_build (xs:=[(0,.tmp 8),(1,.tmp 12)]) (qs:=[(0,_),(1,_)]) str_frac (.cons ⟨rfl,(vq 3 rfl),rfl⟩ (.cons ⟨rfl,(vq 7 rfl),rfl⟩ .nil))),⟨of_u fun ν=>ob_sto rfl rfl rfl (vq 8 rfl) ty_26 (Eq.trans (b:=4) rfl rfl),trivial⟩⟩⟩⟩⟩⟩⟩⟩⟩⟩ ⟨(fun ν ν' h=>rfl),⟨(fun ν ν' h=>rfl),⟨(fun ν ν' h=>rfl),⟨(fun ν ν' h=>by first | rfl | simp only [h 3 rfl]),⟨(fun ν ν' h=>rfl),⟨(fun ν ν' h=>rfl),⟨(fun ν ν' h=>rfl),⟨(fun ν ν' h=>by first | rfl | simp only [h 3 rfl,h 7 rfl]),⟨(fun ν ν' h=>by first | rfl | simp only [h 3 rfl,h 7 rfl]),⟨(fun ν ν' h=>by first | rfl | simp only [h 3 rfl,h 7 rfl]),trivial⟩⟩⟩⟩⟩⟩⟩⟩⟩⟩ ⟨trivial,⟨(fun ν ν' h=>by first | rfl | simp only [h 3 rfl,h 7 rfl]),⟨trivial,trivial⟩⟩⟩ zk zk (fun ν=>by kernel_rfl) (fun ν=>by kernel_rfl) (fun ν2 a w hst=>?_)
 have hst:St B w0 14 [] [⟨1,26,ptrH,_⟩,⟨2,26,ptrH,_⟩,⟨3,24,ptrH,_⟩] a w:=hst
 refine thn_normal ?_
 refine wp_ret ?_
 refine ret_wk ?_ (ret_cell rfl hst (zm 1 rfl) ty_26)
 exact (qd_cp zo zo).va
theorem copyD_q {c:Nat} {x:Rat} (hc:c≤137438953472):Cn Tryz.prog 218 [Qs c x] (QD c x).va :=
 Cn.know (c:=lz x.num≤c∧lz (x.den:Int)≤c) ex_qcopy (fun B w args ha=>by cases ha with | cons h1 _=>exact qs_le h1) fun h=>(copyD_r hc).wkp (qd_of h.1 h.2).va
end Go.Proofs.YthncfchnkjemiaaGreatDoor
namespace Go.Proofs.YthncfchnkjemiaaGreatDoor
open Go Go.RowKit
end Go.Proofs.YthncfchnkjemiaaGreatDoor
namespace Go.Proofs.YthncfchnkjemiaaGreatDoor
open Go Go.RowKit
def NilM:As where
 n:=1
 ag:=false
 p _ cs _:=cs=[.slice none 0 0]
 deps:=[]
 len:=by rintro B cs w rfl; rfl
 one:=by rintro B cs w rfl x hx; simp at hx; subst hx; rfl
 ag1:=fun _=>rfl
 cg:=fun _ _ _ _ _ h=>h
 wr:=fun _ _ _ _ _ _ _ _ _ _ _ _ h=>h
def NilI:As:=cat [BoA false,NilM]
def RFN (x:RF):As:=cat [RIN x.num,RIN x.den]
def RFD (x:RF):As:=DisA (RFN x)
theorem new_rfd {x:RF}:NewA (RFD x):=dis_new (new_cat fun A hA=>by
 simp at hA
 rcases hA with rfl | rfl <;> exact new_riN _)
theorem free_rfd {x:RF}:FreeA (RFD x) (RFD x):=dis_free (cat_free (.cons (free_ri _) (.cons (free_ri _) .nil)))
theorem rfd_rfa {x:RF}:WkA (RFD x) (RFA x):=dis_wk.trans (cat_wk (.cons wkA_riN (.cons wkA_riN .nil)))
theorem qd_rfd {k:Nat} {q:Rat}:WkA (QD k q) (RFD (rfOf q)):=dis_mono (cat_wk (.cons and_wk (.cons and_wk .nil)))
theorem str_fracZ:Str Tryz.prog 26 [NilI,NilI] :=
 Str.of (z:=.agg #[.bool false,.slice none 0 0,.bool false,.slice none 0 0]) zk Tryz.underlying26 zk fun B w=>⟨[[.bool false,.slice none 0 0],[.bool false,.slice none 0 0]],rfl,.cons ⟨[[.bool false],[.slice none 0 0]],rfl,.cons rfl (.cons rfl .nil)⟩ (.cons ⟨[[.bool false],[.slice none 0 0]],rfl,.cons rfl (.cons rfl .nil)⟩ .nil)⟩
theorem nil_cells {B:Nat} {cs:List Value} {w:World} (h:(cat [NilI,NilI]).p B cs w):cs=[.bool false,.slice none 0 0,.bool false,.slice none 0 0]:=by
 obtain ⟨ps,rfl,hp⟩:=h
 have hI:∀ c,NilI.p B c w→c=[.bool false,.slice none 0 0]:=fun c ⟨qs,e,hq⟩=>by
  cases hq with
  | @cons _ c1 _ _ h1 hq=>cases hq with
   | @cons _ c2 _ _ h2 hq =>
    cases hq
    have h1':c1=[.bool false]:=h1
    have h2':c2=[.slice none 0 0]:=h2
    rw [e,h1',h2']
    rfl
 cases hp with
 | cons h1 hp=>cases hp with
  | cons h2 hp =>
   cases hp
   rw [hI _ h1,hI _ h2]
   rfl
theorem zf_rfd:WkA (cat [NilI,NilI]) (RFD rf0):=⟨rfl,rfl,fun B cs w h=>by
 have hi:(RIN ⟨false,[]⟩).p B [.bool false,.slice none 0 0] w:=⟨[[.bool false],[.slice none 0 0]],rfl,.cons rfl (.cons ⟨okL_nil,.inl ⟨rfl,rfl⟩⟩ .nil)⟩
 rw [nil_cells h]
 exact ⟨⟨[[.bool false,.slice none 0 0],[.bool false,.slice none 0 0]],rfl,.cons hi (.cons hi .nil)⟩,List.nodup_nil⟩⟩
theorem zf_sep {v u:Value} {B:Nat} {w:World} (h:(cat [NilI,NilI]).va.p B v w):Sep v u∧Sep u v:=by
 obtain ⟨cs,h1,h2⟩:=h
 have e:vbl v=[]:=by rw [h2,vbl_of h1,nil_cells h1]; rfl
 exact ⟨fun g hg=>(by rw [e] at hg; cases hg),fun g _ hg=>(by rw [e] at hg; cases hg)⟩
def TwD (r:RF × RF × Int):VA where
 p B v w:=∃ v1 v2 e,v=.tuple #[v1,v2,e]∧(RFD r.1).va.p B v1 w∧(RFD r.2.1).va.p B v2 w∧(In r.2.2).p B e w∧Sep v1 v2
 deps:=(RFD r.1).deps++(RFD r.2.1).deps
 cg:=fun B v w w' hg ⟨v1,v2,e,h0,h1,h2,h3,h4⟩=>⟨v1,v2,e,h0,(RFD r.1).va.cg _ _ _ _ hg h1,(RFD r.2.1).va.cg _ _ _ _ hg h2,(In r.2.2).cg _ _ _ _ hg h3,h4⟩
 wr:=fun B v w w' g c T fz k1 k2 k3 k4 ⟨v1,v2,e,h0,h1,h2,h3,h4⟩=>by
  simp only [List.mem_append,not_or] at k2
  exact ⟨v1,v2,e,h0,(RFD r.1).va.wr _ _ _ _ _ _ _ _ k1 k2.1 k3 k4 h1,(RFD r.2.1).va.wr _ _ _ _ _ _ _ _ k1 k2.2 k3 k4 h2,(In r.2.2).wr _ _ _ _ _ _ _ _ k1 (fun h=>by cases h) k3 k4 h3,h4⟩
theorem pin_va {A:As} {u:Value} {c:Prop} {B:Nat} {v:Value} {w:World} (h:(PinA u (A.and c)).va.p B v w):A.va.p B v w∧v=u∧c:=by
 obtain ⟨cs,⟨⟨h1,h2⟩,h3⟩,h4⟩:=h
 exact ⟨⟨cs,h2,h4⟩,h4.trans h3,h1⟩
theorem tw_pins {u v:Value} {c d:Nat} {x y:Rat} {e:VA} {n:Int} (he:Wk e (In n)):Wk (Tu [(PinA u ((QD c x).and (SepAll [] u))).va,(PinA v ((QD d y).and (SepAll [u] v))).va,e]) (TwD (rfOf x,rfOf y,n)):=fun B t w ⟨vs,ht,h⟩=>by
 cases h with
 | cons h1 h=>cases h with
  | cons h2 h=>cases h with
   | cons h3 h =>
    cases h
    obtain ⟨p1,e1,_⟩:=pin_va h1
    obtain ⟨p2,e2,s2⟩:=pin_va h2
    exact ⟨_,_,_,ht,qd_rfd.va _ _ _ p1,qd_rfd.va _ _ _ p2,he _ _ _ h3,by rw [e1,e2]; exact s2 u (by simp)⟩
theorem tw_zero {e:VA} {n:Int} (he:Wk e (In n)):Wk (Tu [(cat [NilI,NilI]).va,(cat [NilI,NilI]).va,e]) (TwD (rf0,rf0,n)):=fun B t w ⟨vs,ht,h⟩=>by
 cases h with
 | cons h1 h=>cases h with
  | cons h2 h=>cases h with
   | cons h3 h =>
    cases h
    exact ⟨_,_,_,ht,zf_rfd.va _ _ _ h1,zf_rfd.va _ _ _ h2,he _ _ _ h3,(zf_sep h1).1⟩
def prj (k:Nat):Value→Value
 | .tuple xs=>(xs[k]?).getD undef
 | _=>undef
def Apr (v:Value):Prop:=Sep (prj 0 v) (prj 1 v)
section
open Rg
variable {P:Program} {Q:Exit→Act→World→Prop} {B N:Nat} {w0:Bs} {Γ:List (Nat × VA)} {ops:Array Oper} {les:List LeF} {sp:List ((Nat→Value)→Sp)} {anc:Nat→List Nat} {i:Nat}
theorem prj_run {a:Act} {w:World} {d t k:Nat} {T:TypeId} {ps:String} {af:Array Edge} {vs:List Value} {y:Value} (e:a.eval (.tmp t)=.tuple vs.toArray) (hy:vs[k]?=some y):(execOp a.eval ⟨some d,.extract (.tmp t) k,T,ps,af,none⟩).run P w=.ok (.value y) w:=by
 simp [execOp,e,Instr.extract,hy]
end
end Go.Proofs.YthncfchnkjemiaaGreatDoor
namespace Go.Proofs.YthncfchnkjemiaaGreatDoor
open Go Go.RowKit
end Go.Proofs.YthncfchnkjemiaaGreatDoor
