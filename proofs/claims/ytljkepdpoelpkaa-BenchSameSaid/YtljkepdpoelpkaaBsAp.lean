import Derived.Test.YtljkepdpoelpkaaBsAa
import Derived.Test.YtljkepdpoelpkaaBsAc
import Derived.Test.YtljkepdpoelpkaaBsAn
import Derived.Test.YtljkepdpoelpkaaBsAo
import Derived.Maps.AppendAt
import Derived.Deep.DeepAppendRoom
set_option linter.unusedVariables false
set_option linter.unusedSimpArgs false
set_option linter.unusedSectionVars false
set_option maxRecDepth 100000
namespace Go.Proofs.Ytljkepdpoelpkaa
open Go Go.RowKit
theorem qd_pins {u v:Value}{c d k:Nat}{q:Rat}(hc:c≤k)(hd:d≤k):WkA (cat [PinA u ((ZN c q.num).and (SepAll [] u)),PinA v ((ZN d (q.den:Int)).and (SepAll [u] v))]) (QD k q) :=
 (dis_pins (l:=[(u,ZN c q.num),(v,ZN d (q.den:Int))]) (fun x hx=>by
  simp at hx
  rcases hx with rfl | rfl <;> exact nod_zn)).trans (dis_mono (zbv (.cons (zn_mono hc) (.cons (zn_mono hd) .nil))))
theorem qd_of {k c:Nat}{q:Rat}(h1:lz q.num≤c)(h2:lz (q.den:Int)≤c):WkA (QD k q) (QD c q):=dis_mono (zbv (.cons ⟨rfl,rfl,fun _ _ _ hp=>⟨h1,hp.2⟩⟩ (.cons ⟨rfl,rfl,fun _ _ _ hp=>⟨h2,hp.2⟩⟩ .nil)))
theorem lowestD_c {u0 v0:Value}{c d:Nat}{p q:Int}(hc:c≤549755813888)(hd:d≤549755813888)(hq:q≠0):Cn Try.prog 47 [(PinA u0 ((ZN c p).and (SepAll [] u0))).va,(PinA v0 ((ZN d q).and (SepAll [u0] v0))).va] ((QD (max c d) (Rat.divInt p q)).va):=by
 have hg0:0<Int.gcd p q:=Int.gcd_pos_of_ne_zero_right p hq
 obtain ⟨hn1,hn2⟩:=low_num (p:=p) hq
 refine Cn.intro Try.func47 rfl zk nq (fun B w0 a hst=>?_)
 have hst:St B w0 35 [(0,(PinA u0 ((ZN c p).and (SepAll [] u0))).va),(1,(PinA v0 ((ZN d q).and (SepAll [u0] v0))).va)] [] a w0.w:=hst
 refine wp_seq ?_
 refine gl (sts:=[]) (news:=[⟨2,33,ptrH,some 0,_,none⟩,⟨3,33,ptrH,some 1,_,none⟩,⟨4,35,ptrH,some 2,_,none⟩]) (sp:=[.alc 0,.alc 1,.alc 2]) [] hst (oc (zaq rfl rfl rfl (gq 0 rfl)) (oc (zaq rfl rfl rfl (gq 1 rfl)) (oc (zao rfl rfl rfl (Str.zero zb1)) o0))) (fun a w hst=>?_)
 have hst:St B w0 35 [] [⟨2,33,ptrH,_⟩,⟨3,33,ptrH,_⟩,⟨4,35,ptrH,_⟩] a w:=hst
 refine zt ?_
 refine wp_seq ?_
 refine gl (sts:=[none,none,none]) (news:=[⟨5,33,ptrH,some 3,_,some (4,_)⟩]) (sp:=[.val 6 _,.val 7 _,.val 8 _,.alc 3,.sto 3]) [] hst (zv rfl (zap (lz0 0 rfl) zad) (zv rfl (zap (lz0 1 rfl) zad) (zv rfl (za5 (xs:=[.tmp 6,.tmp 7]) (common_z zo zo) (.cons (has_wk' (vq 0 rfl) pz_za.va) (.cons (has_wk' (vq 1 rfl) pz_za.va) .nil))) (oc (zao rfl rfl rfl (Str.zero zbx)) (oc (zae rfl rfl rfl (vq 2 rfl) zad (Eq.trans (b:=2) rfl rfl)) o0))))) (fun a w hst=>?_)
 have hst:St B w0 35 [] [⟨2,33,ptrH,_⟩,⟨3,33,ptrH,_⟩,⟨4,35,ptrH,_⟩,⟨5,33,ptrH,_⟩] a w:=hst
 refine zt<|zaw (anc:=[[],[],[0,1],[0,1,2]]) (sts:=[none,none,none,none]) (news:=[]) (sp:=[.val 9 _,.val 10 _,.val 11 _,.val 12 _]) [.o 3] za6 hst (zv rfl (zap (lz0 3 rfl) zad) (zv rfl (za5 (xs:=[.const (.int .i64 (1))]) (of_z zd zd) (.cons za3 .nil)) (zv rfl (za5 (xs:=[.tmp 9,.tmp 10]) (cmp_z zo zo) (.cons (vq 0 rfl) (.cons (vq 1 rfl) .nil))) (zv rfl (zch (vq 2 rfl) za3) o0)))) zk zk zk zk (fun a w hst=>?_)
 have hst:St B w0 35 [(12,_)] [⟨2,33,ptrH,_⟩,⟨3,33,ptrH,_⟩,⟨4,35,ptrH,_⟩,⟨5,33,ptrH,_⟩] a w:=hst
 refine za0 ?_
 refine cond_join (fun a w=>∃ u v:Value,St B w0 35 [] [⟨2,33,ptrH,PinA u ((ZN c (p.tdiv ((Int.gcd p q:Nat):Int))).and (SepAll [] u))⟩,⟨3,33,ptrH,PinA v ((ZN d (q.tdiv ((Int.gcd p q:Nat):Int))).and (SepAll [u] v))⟩,⟨4,35,ptrH,RFA ⟨⟨false,[]⟩,⟨false,[]⟩⟩⟩,⟨5,33,ptrH,ZA (max c d) ((Int.gcd p q:Nat):Int)⟩] a w) hst (zm 0 rfl) (fun hb0=>?_) (fun hb0=>?_) (fun a w hst=>?_)
 ·refine wp_seq ?_
  refine go_linV (sts:=[some (6,fun ν=>_),none,none,none]) (news:=[]) (sp:=[(fun ν=>.val 14 _),(fun ν=>.val 15 _),(fun ν=>.val 16 (PinT (ν 2) [ZN c (p.tdiv ((Int.gcd p q:Nat):Int)),ZN (max c d) (p.tmod ((Int.gcd p q:Nat):Int))] [v0])),(fun ν=>.val 13 _),(fun ν=>.val 17 (PinA (ν 4) ((ZN c (p.tdiv ((Int.gcd p q:Nat):Int))).and (SepAll [v0] (ν 4)))).va),(fun ν=>.val 18 (PinA (ν 5) ((ZN (max c d) (p.tmod ((Int.gcd p q:Nat):Int))).and (SepAll [v0] (ν 5)))).va),(fun ν=>.sto 0)]) [] hst ⟨of_u fun ν=>ob_v rfl rfl (zap (lz0 0 rfl) zad),⟨of_u fun ν=>ob_v rfl rfl (zap (lz0 3 rfl) zad),⟨of_callT (us:=fun ν=>[v0]) (xs:=[.tmp 14,.tmp 15]) rfl rfl (divide_zn zo zo) nf_zn (.cons upA_za.va (.cons upA_za.va .nil)) (fun ν=>(.cons (has_wk' (vq 0 rfl) pz_za.va) (.cons (vq 1 rfl) .nil))) (fun _ _=>rfl) (fun ν=>(live_loc (new_and new_zn) (lz0 1 rfl) live_nil)),⟨of_u fun ν=>ob_v rfl rfl (za1 (vq 2 rfl)),⟨of_ext (us:=fun ν=>[v0]) rfl rfl (fun ν=>(vq 3 rfl)) rfl (fun _ _=>rfl),⟨of_ext (us:=fun ν=>[v0]) rfl rfl (fun ν=>(vq 3 rfl)) rfl (fun _ _=>rfl),⟨of_u fun ν=>zae rfl rfl rfl (vq 4 rfl) zad (Eq.trans (b:=2) rfl rfl),trivial⟩⟩⟩⟩⟩⟩⟩ ⟨(fun ν ν' h=>rfl),⟨(fun ν ν' h=>rfl),⟨(fun ν ν' h=>by first | rfl | simp only [h 2 rfl]),⟨(fun ν ν' h=>by first | rfl | simp only [h 2 rfl]),⟨(fun ν ν' h=>by first | rfl | simp only [h 2 rfl,h 4 rfl]),⟨(fun ν ν' h=>by first | rfl | simp only [h 2 rfl,h 4 rfl,h 5 rfl]),⟨(fun ν ν' h=>by first | rfl | simp only [h 2 rfl,h 4 rfl,h 5 rfl]),trivial⟩⟩⟩⟩⟩⟩⟩ ⟨(fun ν ν' h=>by first | rfl | simp only [h 2 rfl,h 4 rfl,h 5 rfl]),⟨trivial,⟨trivial,⟨trivial,trivial⟩⟩⟩⟩ zk (fun ν=>by kernel_rfl) (fun ν=>by kernel_rfl) (fun ν3 a w hst=>?_)
  have hst:St B w0 35 [] [⟨2,33,ptrH,_⟩,⟨3,33,ptrH,_⟩,⟨4,35,ptrH,_⟩,⟨5,33,ptrH,_⟩] a w:=hst
  refine za0 ?_
  refine go_linV (sts:=[none,some (6,fun ν=>_),none,none]) (news:=[]) (sp:=[(fun ν=>.val 20 _),(fun ν=>.val 21 _),(fun ν=>.val 22 (PinT (ν 2) [ZN d (q.tdiv ((Int.gcd p q:Nat):Int)),ZN (max c d) (q.tmod ((Int.gcd p q:Nat):Int))] [(ν3 4)])),(fun ν=>.val 19 _),(fun ν=>.val 23 (PinA (ν 4) ((ZN d (q.tdiv ((Int.gcd p q:Nat):Int))).and (SepAll [(ν3 4)] (ν 4)))).va),(fun ν=>.val 24 (PinA (ν 5) ((ZN (max c d) (q.tmod ((Int.gcd p q:Nat):Int))).and (SepAll [(ν3 4)] (ν 5)))).va),(fun ν=>.sto 1)]) [] hst ⟨of_u fun ν=>ob_v rfl rfl (zap (lz0 1 rfl) zad),⟨of_u fun ν=>ob_v rfl rfl (zap (lz0 3 rfl) zad),⟨of_callT (us:=fun ν=>[(ν3 4)]) (xs:=[.tmp 20,.tmp 21]) rfl rfl (divide_zn zo zo) nf_zn (.cons upA_za.va (.cons upA_za.va .nil)) (fun ν=>(.cons (has_wk' (vq 0 rfl) pz_za.va) (.cons (vq 1 rfl) .nil))) (fun _ _=>rfl) (fun ν=>(live_loc (new_and new_zn) (lz0 0 rfl) live_nil)),⟨of_u fun ν=>ob_v rfl rfl (za1 (vq 2 rfl)),⟨of_ext (us:=fun ν=>[(ν3 4)]) rfl rfl (fun ν=>(vq 3 rfl)) rfl (fun _ _=>rfl),⟨of_ext (us:=fun ν=>[(ν3 4)]) rfl rfl (fun ν=>(vq 3 rfl)) rfl (fun _ _=>rfl),⟨of_u fun ν=>zae rfl rfl rfl (vq 4 rfl) zad (Eq.trans (b:=2) rfl rfl),trivial⟩⟩⟩⟩⟩⟩⟩ ⟨(fun ν ν' h=>rfl),⟨(fun ν ν' h=>rfl),⟨(fun ν ν' h=>by first | rfl | simp only [h 2 rfl]),⟨(fun ν ν' h=>by first | rfl | simp only [h 2 rfl]),⟨(fun ν ν' h=>by first | rfl | simp only [h 2 rfl,h 4 rfl]),⟨(fun ν ν' h=>by first | rfl | simp only [h 2 rfl,h 4 rfl,h 5 rfl]),⟨(fun ν ν' h=>by first | rfl | simp only [h 2 rfl,h 4 rfl,h 5 rfl]),trivial⟩⟩⟩⟩⟩⟩⟩ ⟨trivial,⟨(fun ν ν' h=>by first | rfl | simp only [h 2 rfl,h 4 rfl,h 5 rfl]),⟨trivial,⟨trivial,trivial⟩⟩⟩⟩ zk (fun ν=>by kernel_rfl) (fun ν=>by kernel_rfl) (fun ν4 a w hst=>?_)
  have hst:St B w0 35 [] [⟨2,33,ptrH,_⟩,⟨3,33,ptrH,_⟩,⟨4,35,ptrH,_⟩,⟨5,33,ptrH,_⟩] a w:=hst
  refine za0 ?_
  have hst:=St.sel hst []
  have hst:=St.wkL (A':=PinA (ν3 4) ((ZN c (p.tdiv ((Int.gcd p q:Nat):Int))).and (SepAll [] (ν3 4)))) hst 0 rfl (pin_mono and_triv)
  exact ⟨ν3 4,ν4 4,hst⟩
 ·refine wp_skip ?_
  refine za0 ?_
  have hst:=St.sel hst []
  have hst:=St.cvA (A':=PinA u0 ((ZN c (p.tdiv ((Int.gcd p q:Nat):Int))).and (SepAll [] u0))) hst 0 rfl (congrArg (fun z=>PinA u0 ((ZN c z).and (SepAll [] u0))) (tdiv_g hb0))
  have hst:=St.cvA (A':=PinA v0 ((ZN d (q.tdiv ((Int.gcd p q:Nat):Int))).and (SepAll [u0] v0))) hst 1 rfl (congrArg (fun z=>PinA v0 ((ZN d z).and (SepAll [u0] v0))) (tdiv_g hb0))
  exact ⟨u0,v0,hst⟩
 obtain ⟨u1,v1,hst⟩:=hst
 refine zt ?_
 refine wp_seq ?_
 refine gl (sts:=[none,none,none,none]) (news:=[]) (sp:=[.val 25 _,.val 26 _,.val 27 _]) [.o 2] hst (zv rfl (zap (lz0 1 rfl) zad) (zv rfl (za5 (xs:=[.tmp 25]) sign_z (.cons (has_wk' (vq 0 rfl) pz_za.va) .nil)) (zv rfl (zc0 (vq 1 rfl) za3) o0))) (fun a w hst=>?_)
 have hst:St B w0 35 [(27,_)] [⟨2,33,ptrH,_⟩,⟨3,33,ptrH,_⟩,⟨4,35,ptrH,_⟩,⟨5,33,ptrH,_⟩] a w:=hst
 refine za0 ?_
 refine cond_join (fun a w=>∃ u v:Value,St B w0 35 [] [⟨2,33,ptrH,PinA u ((ZN c (Rat.divInt p q).num).and (SepAll [] u))⟩,⟨3,33,ptrH,PinA v ((ZN d ((Rat.divInt p q).den:Int)).and (SepAll [u] v))⟩,⟨4,35,ptrH,RFA ⟨⟨false,[]⟩,⟨false,[]⟩⟩⟩,⟨5,33,ptrH,ZA (max c d) ((Int.gcd p q:Nat):Int)⟩] a w) hst (zm 0 rfl) (fun hb1=>?_) (fun hb1=>?_) (fun a w hst=>?_)
 ·refine go_drawV' [[],[0],[],[0,1,2],[0,1,2,3],[0,1,2,3,4]] (sts:=[some (4,fun ν=>_),some (5,fun ν=>_),none,none]) (news:=[]) (sp:=[(fun ν=>.val 28 _),(fun ν=>.val 29 (PinA (ν 1) ((ZN c (-(p.tdiv ((Int.gcd p q:Nat):Int)))).and (SepAll [] (ν 1)))).va),(fun ν=>.val 30 _),(fun ν=>.val 31 (PinA (ν 3) ((ZN d (-(q.tdiv ((Int.gcd p q:Nat):Int)))).and (SepAll [ν 1] (ν 3)))).va),(fun ν=>.sto 0),(fun ν=>.sto 1)]) [] za6 hst ⟨of_u fun ν=>ob_v rfl rfl (zap (lz0 0 rfl) zad),⟨of_call (us:=fun ν=>[]) (xs:=[.tmp 28]) rfl rfl (turned_zn zo) new_zn free_zn (.cons upA_za.va .nil) (fun ν=>(.cons (has_wk' (vq 0 rfl) pz_za.va) .nil)) (fun _ _=>rfl) (fun ν=>live_nil),⟨of_u fun ν=>ob_v rfl rfl (zap (lz0 1 rfl) zad),⟨of_call (us:=fun ν=>[ν 1]) (xs:=[.tmp 30]) rfl rfl (turned_zn zo) new_zn free_zn (.cons upA_za.va .nil) (fun ν=>(.cons (has_wk' (vq 2 rfl) pz_za.va) .nil)) (fun _ _=>rfl) (fun ν=>(live_cons (new_and new_zn) (vq 1 rfl) live_nil)),⟨of_u fun ν=>zae rfl rfl rfl (vq 1 rfl) zad (Eq.trans (b:=2) rfl rfl),⟨of_u fun ν=>zae rfl rfl rfl (vq 3 rfl) zad (Eq.trans (b:=2) rfl rfl),trivial⟩⟩⟩⟩⟩⟩ ⟨(fun ν ν' h=>rfl),⟨(fun ν ν' h=>by first | rfl | simp only [h 1 rfl]),⟨(fun ν ν' h=>rfl),⟨(fun ν ν' h=>by first | rfl | simp only [h 1 rfl,h 3 rfl]),⟨(fun ν ν' h=>by first | rfl | simp only [h 1 rfl,h 3 rfl]),⟨(fun ν ν' h=>by first | rfl | simp only [h 1 rfl,h 3 rfl]),trivial⟩⟩⟩⟩⟩⟩ ⟨(fun ν ν' h=>by first | rfl | simp only [h 1 rfl,h 3 rfl]),⟨(fun ν ν' h=>by first | rfl | simp only [h 1 rfl,h 3 rfl]),⟨trivial,⟨trivial,trivial⟩⟩⟩⟩ zk zk (fun ν=>by kernel_rfl) (fun ν=>by kernel_rfl) (fun ν6 a w hst=>?_)
  have hst:St B w0 35 [] [⟨2,33,ptrH,_⟩,⟨3,33,ptrH,_⟩,⟨4,35,ptrH,_⟩,⟨5,33,ptrH,_⟩] a w:=hst
  refine za0 ?_
  have hst:=St.sel hst []
  rw [if_pos (sgn_yes hb1)] at hn1 hn2; rw [hn1,hn2] at hst; exact ⟨ν6 1,ν6 3,hst⟩
 ·refine wp_skip ?_
  refine za0 ?_
  have hst:=St.sel hst []
  rw [if_neg (sgn_no hb1)] at hn1 hn2; rw [hn1,hn2] at hst; exact ⟨u1,v1,hst⟩
 obtain ⟨u2,v2,hst⟩:=hst
 refine zt<|gl (sts:=[none,none,some (3,_),none]) (news:=[]) (sp:=[.val 32 _,.val 33 _,.val 34 _,.sto 2]) [] hst (zv rfl (zap (lz0 0 rfl) zad) (zv rfl (zap (lz0 1 rfl) zad) (zv rfl (zbi (xs:=[(0,.tmp 32),(1,.tmp 33)]) (qs:=[(0,_),(1,_)]) zb1 (.cons ⟨rfl,(vq 0 rfl),rfl⟩ (.cons ⟨rfl,(vq 1 rfl),rfl⟩ .nil))) (oc (zae rfl rfl rfl (vq 2 rfl) zam (Eq.trans (b:=4) rfl rfl)) o0)))) (fun a w hst=>?_)
 have hst:St B w0 35 [] [⟨2,33,ptrH,_⟩,⟨3,33,ptrH,_⟩,⟨4,35,ptrH,_⟩,⟨5,33,ptrH,_⟩] a w:=hst
 refine za0 ?_
 refine wp_ret ?_
 refine zak ?_ (zan rfl hst (zm 2 rfl) zam)
 exact (qd_pins (Nat.le_max_left _ _) (Nat.le_max_right _ _)).va
theorem plusD_q {c d:Nat}{x y:Rat}(hc:c+d≤137438953472):Cn Try.prog 46 [Qs c x,Qs d y] ((QD (c+d+1) (x+y)).va):=by
 refine Cn.intro Try.func46 rfl zk nq (fun B w0 a hst=>?_)
 have hst:St B w0 22 [(0,Qs c x),(1,Qs d y)] [] a w0.w:=hst
 refine wp_seq ?_
 refine gl (sts:=[]) (news:=[⟨2,35,ptrH,some 0,_,none⟩,⟨3,35,ptrH,some 1,_,none⟩,⟨4,35,ptrH,some 2,_,none⟩]) (sp:=[.alc 0,.alc 1,.alc 2]) [] hst (oc (zaq rfl rfl rfl (gq 0 rfl)) (oc (zaq rfl rfl rfl (gq 1 rfl)) (oc (zao rfl rfl rfl (Str.zero zb1)) o0))) (fun a w hst=>?_)
 have hst:St B w0 22 [] [⟨2,35,ptrH,_⟩,⟨3,35,ptrH,_⟩,⟨4,35,ptrH,_⟩] a w:=hst
 refine zt ?_
 refine go_drawV' [[],[0],[],[2],[0,1,2,3],[],[5],[],[7],[0,1,2,3,4,5,6,7,8],[0,1,2,3,4,5,6,7,8,9],[],[11],[],[13],[0,1,2,3,4,5,6,7,8,9,10,11,12,13,14],[0,1,2,3,4,5,6,7,8,9,10,11,12,13,14,15],[0,1,2,3,4,5,6,7,8,9,10,11,12,13,14,15,16]] (sts:=[none,none,some (17,fun ν=>_)]) (news:=[]) (sp:=[(fun ν=>.adr 5 2 (.some 0) True),(fun ν=>.val 6 _),(fun ν=>.adr 7 3 (.some 2) True),(fun ν=>.val 8 _),(fun ν=>.val 9 _),(fun ν=>.adr 10 3 (.some 0) True),(fun ν=>.val 11 _),(fun ν=>.adr 12 2 (.some 2) True),(fun ν=>.val 13 _),(fun ν=>.val 14 _),(fun ν=>.val 15 (PinA (ν 10) ((ZN (max (c+d) (d+c)+1) (x.num*(y.den:Int)+y.num*(x.den:Int))).and (SepAll [] (ν 10)))).va),(fun ν=>.adr 16 2 (.some 2) True),(fun ν=>.val 17 _),(fun ν=>.adr 18 3 (.some 2) True),(fun ν=>.val 19 _),(fun ν=>.val 20 (PinA (ν 15) ((ZN (c+d) ((x.den:Int)*(y.den:Int))).and (SepAll [ν 10] (ν 15)))).va),(fun ν=>.val 21 _),(fun ν=>.sto 2)]) [] za6 hst ⟨of_u fun ν=>ob_a rfl rfl (za9 (lz0 0 rfl) zbh),⟨of_u fun ν=>ob_v rfl rfl (za4 0 rfl zk trivial (lz0 0 rfl) (Sub.part 0 rfl rfl) zad),⟨of_u fun ν=>ob_a rfl rfl (za9 (lz0 1 rfl) zb2),⟨of_u fun ν=>ob_v rfl rfl (za4 2 rfl zk trivial (lz0 1 rfl) (Sub.part 1 rfl rfl) zad),⟨of_u fun ν=>ob_v rfl rfl (za5 (xs:=[.tmp 6,.tmp 8]) (times_z zo zo) (.cons (vq 1 rfl) (.cons (vq 3 rfl) .nil))),⟨of_u fun ν=>ob_a rfl rfl (za9 (lz0 1 rfl) zbh),⟨of_u fun ν=>ob_v rfl rfl (za4 5 rfl zk trivial (lz0 1 rfl) (Sub.part 0 rfl rfl) zad),⟨of_u fun ν=>ob_a rfl rfl (za9 (lz0 0 rfl) zb2),⟨of_u fun ν=>ob_v rfl rfl (za4 7 rfl zk trivial (lz0 0 rfl) (Sub.part 1 rfl rfl) zad),⟨of_u fun ν=>ob_v rfl rfl (za5 (xs:=[.tmp 11,.tmp 13]) (times_z zo zo) (.cons (vq 6 rfl) (.cons (vq 8 rfl) .nil))),⟨of_call (us:=fun ν=>[]) (xs:=[.tmp 9,.tmp 14]) rfl rfl (plus_zn zo zo) new_zn free_zn (.cons upA_za.va (.cons upA_za.va .nil)) (fun ν=>(.cons (vq 4 rfl) (.cons (vq 9 rfl) .nil))) (fun _ _=>rfl) (fun ν=>live_nil),⟨of_u fun ν=>ob_a rfl rfl (za9 (lz0 0 rfl) zb2),⟨of_u fun ν=>ob_v rfl rfl (za4 11 rfl zk trivial (lz0 0 rfl) (Sub.part 1 rfl rfl) zad),⟨of_u fun ν=>ob_a rfl rfl (za9 (lz0 1 rfl) zb2),⟨of_u fun ν=>ob_v rfl rfl (za4 13 rfl zk trivial (lz0 1 rfl) (Sub.part 1 rfl rfl) zad),⟨of_call (us:=fun ν=>[ν 10]) (xs:=[.tmp 17,.tmp 19]) rfl rfl (times_zn zo zo) new_zn free_zn (.cons upA_za.va (.cons upA_za.va .nil)) (fun ν=>(.cons (vq 12 rfl) (.cons (vq 14 rfl) .nil))) (fun _ _=>rfl) (fun ν=>(live_cons (new_and new_zn) (vq 10 rfl) live_nil)),⟨of_u fun ν=>ob_v rfl rfl (za5 (xs:=[.tmp 15,.tmp 20]) (lowestD_c zo zo (den_nz x y)) (.cons (vq 10 rfl) (.cons (vq 15 rfl) .nil))),⟨of_u fun ν=>zae rfl rfl rfl (vq 16 rfl) zam (Eq.trans (b:=4) rfl rfl),trivial⟩⟩⟩⟩⟩⟩⟩⟩⟩⟩⟩⟩⟩⟩⟩⟩⟩⟩ ⟨(fun ν ν' h=>rfl),⟨(fun ν ν' h=>rfl),⟨(fun ν ν' h=>rfl),⟨(fun ν ν' h=>rfl),⟨(fun ν ν' h=>rfl),⟨(fun ν ν' h=>rfl),⟨(fun ν ν' h=>rfl),⟨(fun ν ν' h=>rfl),⟨(fun ν ν' h=>rfl),⟨(fun ν ν' h=>rfl),⟨(fun ν ν' h=>by first | rfl | simp only [h 10 rfl]),⟨(fun ν ν' h=>rfl),⟨(fun ν ν' h=>rfl),⟨(fun ν ν' h=>rfl),⟨(fun ν ν' h=>rfl),⟨(fun ν ν' h=>by first | rfl | simp only [h 10 rfl,h 15 rfl]),⟨(fun ν ν' h=>by first | rfl | simp only [h 10 rfl,h 15 rfl]),⟨(fun ν ν' h=>by first | rfl | simp only [h 10 rfl,h 15 rfl]),trivial⟩⟩⟩⟩⟩⟩⟩⟩⟩⟩⟩⟩⟩⟩⟩⟩⟩⟩ ⟨trivial,⟨trivial,⟨(fun ν ν' h=>by first | rfl | simp only [h 10 rfl,h 15 rfl]),trivial⟩⟩⟩ zk zk (fun ν=>by kernel_rfl) (fun ν=>by kernel_rfl) (fun ν1 a w hst=>?_)
 have hst:St B w0 22 [] [⟨2,35,ptrH,_⟩,⟨3,35,ptrH,_⟩,⟨4,35,ptrH,_⟩] a w:=hst
 refine za0 ?_
 refine wp_ret ?_
 refine zak ?_ (zan rfl hst (zm 2 rfl) zam)
 exact zc4 (zc9 (congrArg (fun z=>(QD _ z).va) (rat_add x y))) (qd_mono zo).va
theorem qd_cp {u v:Value}{c d k:Nat}{x:Rat}(hc:c≤k)(hd:d≤k):WkA (cat [PinA u ((ZN c (x.num+0)).and (SepAll [] u)),PinA v ((ZN d ((x.den:Int)+0)).and (SepAll [u] v))]) (QD k x):=by
 rw [Int.add_zero,Int.add_zero]
 exact qd_pins hc hd
theorem copyD_r {c:Nat}{x:Rat}(hc:c≤137438953472):Cn Try.prog 45 [Qs c x] ((QD (max c 2+1) x).va):=by
 refine Cn.intro Try.func45 rfl zk nq (fun B w0 a hst=>?_)
 have hst:St B w0 14 [(0,Qs c x)] [] a w0.w:=hst
 refine wp_seq ?_
 refine gl (sts:=[]) (news:=[⟨1,35,ptrH,some 0,_,none⟩,⟨2,35,ptrH,some 1,_,none⟩]) (sp:=[.alc 0,.alc 1]) [] hst (oc (zaq rfl rfl rfl (gq 0 rfl)) (oc (zao rfl rfl rfl (Str.zero zb1)) o0)) (fun a w hst=>?_)
 have hst:St B w0 14 [] [⟨1,35,ptrH,_⟩,⟨2,35,ptrH,_⟩] a w:=hst
 refine zt<|gl (sts:=[none,none]) (news:=[⟨3,33,ptrH,some 1,_,some (2,_)⟩]) (sp:=[.val 4 _,.alc 2,.sto 2]) [] hst (zv rfl (za5 (xs:=[.const (.int .i64 (0))]) (of_z zd zd) (.cons za3 .nil)) (oc (zao rfl rfl rfl (Str.zero zbx)) (oc (zae rfl rfl rfl (vq 0 rfl) zad (Eq.trans (b:=2) rfl rfl)) o0))) (fun a w hst=>?_)
 have hst:St B w0 14 [] [⟨1,35,ptrH,_⟩,⟨2,35,ptrH,_⟩,⟨3,33,ptrH,_⟩] a w:=hst
 refine zt ?_
 refine go_drawV' [[],[0],[],[0,1,2],[],[4],[],[0,1,2,3,4,5,6],[0,1,2,3,4,5,6,7],[0,1,2,3,4,5,6,7,8]] (sts:=[none,some (9,fun ν=>_),none]) (news:=[]) (sp:=[(fun ν=>.adr 5 1 (.some 0) True),(fun ν=>.val 6 _),(fun ν=>.val 7 _),(fun ν=>.val 8 (PinA (ν 3) ((ZN (max c 2+1) (x.num+0)).and (SepAll [] (ν 3)))).va),(fun ν=>.adr 9 1 (.some 2) True),(fun ν=>.val 10 _),(fun ν=>.val 11 _),(fun ν=>.val 12 (PinA (ν 7) ((ZN (max c 2+1) ((x.den:Int)+0)).and (SepAll [ν 3] (ν 7)))).va),(fun ν=>.val 13 _),(fun ν=>.sto 1)]) [] za6 hst ⟨of_u fun ν=>ob_a rfl rfl (za9 (lz0 0 rfl) zbh),⟨of_u fun ν=>ob_v rfl rfl (za4 0 rfl zk trivial (lz0 0 rfl) (Sub.part 0 rfl rfl) zad),⟨of_u fun ν=>ob_v rfl rfl (zap (lz0 2 rfl) zad),⟨of_call (us:=fun ν=>[]) (xs:=[.tmp 6,.tmp 7]) rfl rfl (plus_zn zo zo) new_zn free_zn (.cons upA_za.va (.cons upA_za.va .nil)) (fun ν=>(.cons (vq 1 rfl) (.cons (vq 2 rfl) .nil))) (fun _ _=>rfl) (fun ν=>live_nil),⟨of_u fun ν=>ob_a rfl rfl (za9 (lz0 0 rfl) zb2),⟨of_u fun ν=>ob_v rfl rfl (za4 4 rfl zk trivial (lz0 0 rfl) (Sub.part 1 rfl rfl) zad),⟨of_u fun ν=>ob_v rfl rfl (zap (lz0 2 rfl) zad),⟨of_call (us:=fun ν=>[ν 3]) (xs:=[.tmp 10,.tmp 11]) rfl rfl (plus_zn zo zo) new_zn free_zn (.cons upA_za.va (.cons upA_za.va .nil)) (fun ν=>(.cons (vq 5 rfl) (.cons (vq 6 rfl) .nil))) (fun _ _=>rfl) (fun ν=>(live_cons (new_and new_zn) (vq 3 rfl) live_nil)),⟨of_u fun ν=>ob_v rfl rfl (zbi (xs:=[(0,.tmp 8),(1,.tmp 12)]) (qs:=[(0,_),(1,_)]) zb1 (.cons ⟨rfl,(vq 3 rfl),rfl⟩ (.cons ⟨rfl,(vq 7 rfl),rfl⟩ .nil))),⟨of_u fun ν=>zae rfl rfl rfl (vq 8 rfl) zam (Eq.trans (b:=4) rfl rfl),trivial⟩⟩⟩⟩⟩⟩⟩⟩⟩⟩ ⟨(fun ν ν' h=>rfl),⟨(fun ν ν' h=>rfl),⟨(fun ν ν' h=>rfl),⟨(fun ν ν' h=>by first | rfl | simp only [h 3 rfl]),⟨(fun ν ν' h=>rfl),⟨(fun ν ν' h=>rfl),⟨(fun ν ν' h=>rfl),⟨(fun ν ν' h=>by first | rfl | simp only [h 3 rfl,h 7 rfl]),⟨(fun ν ν' h=>by first | rfl | simp only [h 3 rfl,h 7 rfl]),⟨(fun ν ν' h=>by first | rfl | simp only [h 3 rfl,h 7 rfl]),trivial⟩⟩⟩⟩⟩⟩⟩⟩⟩⟩ ⟨trivial,⟨(fun ν ν' h=>by first | rfl | simp only [h 3 rfl,h 7 rfl]),⟨trivial,trivial⟩⟩⟩ zk zk (fun ν=>by kernel_rfl) (fun ν=>by kernel_rfl) (fun ν2 a w hst=>?_)
 have hst:St B w0 14 [] [⟨1,35,ptrH,_⟩,⟨2,35,ptrH,_⟩,⟨3,33,ptrH,_⟩] a w:=hst
 refine za0 ?_
 refine wp_ret ?_
 refine zak ?_ (zan rfl hst (zm 1 rfl) zam)
 exact (qd_cp zo zo).va
theorem copyD_q {c:Nat}{x:Rat}(hc:c≤137438953472):Cn Try.prog 45 [Qs c x] (QD c x).va :=
 Cn.know (c:=lz x.num≤c∧lz (x.den:Int)≤c) ex_qcopy (fun B w args ha=>by cases ha with | cons h1 _=>exact qs_le h1) fun h=>(copyD_r hc).wkp (qd_of h.1 h.2).va
end Go.Proofs.Ytljkepdpoelpkaa
namespace Go.Proofs.Ytljkepdpoelpkaa
open Go Go.RowKit
section
open Rg
variable {P:Program} {Q:Exit→Act→World→Prop} {B N:Nat} {w0:Bs} {Γ:List (Nat × VA)} {Λ:List Lc} {a:Act} {w:World}
theorem inv_stS {R:Rg}{n:Nat}(hles:∀ l'∈Λ,∃ st,(⟨l'.s,l'.T,l'.H,none,l'.A,st⟩:Le)∈R.les)(hles2:∀ y∈R.les,∀ i A,y.st=some (i,A)→n≤i)(hinv:R.Inv B w0 (fun k=>decide (k<n)) a w)(src:List Src)
  (hsrc:src.all (fun s=>match s with | .g k=>(match R.Γ[k]? with | some x=>Rg.outG R x.1 | none=>false) | .o i=>decide (i<n))=true):St B w0 R.N (src.filterMap (takeS R)) Λ a w:=by
 have hcl:∀ deps,Rg.clash R (fun k=>decide (k<n)) deps=false:=fun deps=>by
  unfold Rg.clash
  rw [List.any_eq_false]
  intro y hy
  cases hst:y.st with
  | none=>simp
  | some x =>
   obtain ⟨i,B'⟩:=x
   have:=hles2 y hy i B' hst
   have hno:¬ i<n:=by omega
   simp [hno]
 have hcur:∀ y∈R.les,y.cr=none→Rg.cur (fun k=>decide (k<n)) y=some y.A0:=fun y hy h0=>by
  unfold Rg.cur
  rw [h0]
  simp only [Rg.crOk,if_true]
  cases hst:y.st with
  | none=>rfl
  | some x =>
   obtain ⟨i,B'⟩:=x
   have:=hles2 y hy i B' hst
   have hno:¬ i<n:=by omega
   simp [hno]
 refine ⟨hinv.lo,hinv.defers,hinv.size,hinv.base,fun x hx=>?_,fun l' hl'=>?_,fun l1 h1 l2 h2 hne=>?_⟩
 rotate_left
 ·obtain ⟨st,hy⟩:=hles l' hl'
  exact hinv.c _ hy l'.A (hcur _ hy rfl)
 ·obtain ⟨s1,hy1⟩:=hles l1 h1
  obtain ⟨s2,hy2⟩:=hles l2 h2
  exact hinv.x _ hy1 _ hy2 hne (by rw [hcur _ hy1 rfl]; rfl) (by rw [hcur _ hy2 rfl]; rfl)
 obtain ⟨s,hs1,hs2⟩:=List.mem_filterMap.1 hx
 have ho:=List.all_eq_true.1 hsrc s hs1
 cases s with
 | g k =>
  simp only [takeS] at hs2
  simp only [hs2] at ho
  refine hinv.g x (List.mem_of_getElem? hs2) (fun q hq hdq=>?_) (hcl _)
  cases h2:R.ops[q]? with
  | none=>unfold Rg.dst at hdq; rw [h2] at hdq; cases hdq
  | some v =>
   have:=List.all_eq_true.1 ho q (by simpa using (Array.getElem?_eq_some_iff.1 h2).1)
   exact absurd hdq (by simpa using this)
 | o i =>
  simp only [takeS] at hs2
  cases hy:R.sp[i]? with
  | none=>rw [hy] at hs2; cases hs2
  | some y =>
   rw [hy] at hs2
   exact hinv.v i y x.1 x.2 hy hs2 ho (hcl _)
theorem run_app1 {P:Program}(w:World)(base:Nat)(t ty e:TypeId)(i:TypeInfo)(z:Value)(size bytes:Nat)(ht:P.underlying t=some (.slice e))(hi:P.info? e=some i)(hz:i.zero=some z)
  (hsize:i.size=size) (hby:i.bytes=bytes) (hzs:z.cells.size=size) (hsz:0<size) (v:Value) (n:Nat) (xs:List Value) (hown:w.ownsRow base e size v n xs)
  (a:Addr) (c:Nat) (news:List Value) (hl:news.length=1*size) (hnews:∀ j u,news[j]?=some u→w.cell? (a.add j)=some u) (h1:∀ u∈news,u.oneCell'=true)
  (h63:n+1≤maxLen) (hbytes:(n+1)*bytes≤140737488355328) (hbase:base≤w.heap.size) :
  ∃ v' w',(Builtin.append_ #[t,t] ty #[v,.slice (some a) 1 c]).run P w=.ok v' w'∧w'.ownsRow base e size v' (n+1) (xs++news)∧w.grownBy w' v.ownBlock∧(v'.ownBlock=v.ownBlock∨(v'.ownBlock=some w.heap.size∧w.grownBy w' none)):=by
 obtain ⟨v',w',hr,r1,r2,_,r3⟩:=run_append_own_at (P:=P) w base t ty e i z size bytes ht hi hz hsize hby hzs hsz v n xs hown a 1 c news hl hnews h1 h63 hbytes hbase
 refine ⟨v',w',hr,r1,r2,?_⟩
 rcases r3 with r3 | r3
 ·exact .inl r3
 ·have hcases:=hown.2
  rcases hcases with ⟨rfl,_⟩ | ⟨g,cap,cur,rfl,hbg,hg,hnc,hcm,hcs,htake⟩
  ·exact .inr ⟨r3,r2⟩
  ·by_cases hroom:n+1≤cap
   ·obtain ⟨w2,hr2,_⟩:=run_append_own_spare (P:=P) w base t ty e i size ht hi hsize g n cap xs hown a 1 c news hl hnews h1 hroom
    rw [hr2] at hr
    injection hr with hr
    subst hr
    exact .inl rfl
   ·subst hsize
    have holds:∀ j u,xs[j]?=some u→w.cell? ((⟨g,0,none⟩:Addr).add j)=some u:=hown.cells (g:=g) rfl
    have hr2:=run_append_grow (P:=P) w t ty e i z ht hi hz ⟨g,0,none⟩ n cap xs hown.1 holds a 1 c news hl hnews zo (by unfold maxLen at h63; omega) (growslice_fits zo (by rw [hby]; exact hbytes))
    rw [hr2] at hr
    injection hr with hr hr'
    subst hr'
    exact .inr ⟨r3,rfl,rfl,rfl,by simp,fun k hk _=>by first | exact Go.heap_alloc_old w.drew _ k hk | exact heap_alloc_old w.drew _ hk⟩
theorem go_headD {id:Nat}{ops:Array Oper}{sp:List Sp}(anc:List (List Nat))(n m e j:Nat)(A:As)(src:List Src)(hmx:P.follows .mixedOrders=true)
  (h:St B w0 N Γ Λ a w) (hob:Obs P Q ⟨ops,N,Γ,lesS Λ e j A,sp,fun i=>anc.getD i []⟩ B w0 0 n) (hsz:ops.size=n+m) (hm:0<m) (hj:n≤j) (hanc:Rg.ancOk ⟨ops,N,Γ,lesS Λ e j A,sp,fun i=>anc.getD i []⟩=true) (hall:∀ i,n≤i→i<n+m→∀ j,j<i→(anc.getD i []).contains j=true) (hk:Rg.chk ⟨ops,N,Γ,lesS Λ e j A,sp,fun i=>anc.getD i []⟩=true)
  (hsrc:src.all (fun s=>match s with | .g k=>(match Γ[k]? with | some x=>Rg.outG ⟨ops,N,Γ,lesS Λ e j A,sp,fun i=>anc.getD i []⟩ x.1 | none=>false) | .o i=>decide (i<n))=true)
  (hQ:∀ a' w',St B w0 N (src.filterMap (takeS ⟨ops,N,Γ,lesS Λ e j A,sp,fun i=>anc.getD i []⟩)) Λ a' w'→wpOps P ops Q (List.range' n m) a' w'):(Code.region id ops true).wp P Q a w:=by
 refine Rg.drawK (R:=⟨ops,N,Γ,lesS Λ e j A,sp,fun i=>anc.getD i []⟩) (m:=m) hsz hm hmx hanc hk h (fun y hy _=>?_) (fun i hi=>hob.all i zo zo) (fun i h1 h2 j hj=>hall i h1 h2 j hj) fun a1 w1 hinv=>?_
 ·exact (lesS_of y hy).2.1
 ·exact hQ a1 w1 (inv_stS (fun l' hl'=>by
   obtain ⟨j',hj'⟩:=List.getElem?_of_mem hl'
   exact ⟨_,List.mem_map.2 ⟨(l',j'),List.mem_zipIdx_iff_getElem?.2 hj',rfl⟩⟩) (fun y hy i B' h1=>by have:=(lesS_of y hy).2.2 i B' h1; omega) hinv src hsrc)
theorem go_head {id:Nat}{ops:Array Oper}{sp:List Sp}(n m e j:Nat)(A:As)(src:List Src)
  (h:St B w0 N Γ Λ a w) (hob:Obs P Q ⟨ops,N,Γ,lesS Λ e j A,sp,fun i=>List.range i⟩ B w0 0 n) (hsz:ops.size=n+m) (hj:n≤j) (hk:Rg.chk ⟨ops,N,Γ,lesS Λ e j A,sp,fun i=>List.range i⟩=true)
  (hsrc:src.all (fun s=>match s with | .g k=>(match Γ[k]? with | some x=>Rg.outG ⟨ops,N,Γ,lesS Λ e j A,sp,fun i=>List.range i⟩ x.1 | none=>false) | .o i=>decide (i<n))=true)
  (hQ:∀ a' w',St B w0 N (src.filterMap (takeS ⟨ops,N,Γ,lesS Λ e j A,sp,fun i=>List.range i⟩)) Λ a' w'→wpOps P ops Q (List.range' n m) a' w'):(Code.region id ops false).wp P Q a w:=by
 refine Rg.linK (R:=⟨ops,N,Γ,lesS Λ e j A,sp,fun i=>List.range i⟩) (m:=m) hsz rfl hk h (fun y hy _=>?_) (fun i hi=>hob.all i zo zo) fun a1 w1 hinv=>?_
 ·exact (lesS_of y hy).2.1
 ·exact hQ a1 w1 (inv_stS (fun l' hl'=>by
   obtain ⟨j',hj'⟩:=List.getElem?_of_mem hl'
   exact ⟨_,List.mem_map.2 ⟨(l',j'),List.mem_zipIdx_iff_getElem?.2 hj',rfl⟩⟩) (fun y hy i B' h1=>by have:=(lesS_of y hy).2.2 i B' h1; omega) hinv src hsrc)
theorem St.addV {d:Nat}{v:Value}{A:VA}(h:St B w0 N Γ Λ a w)(hd:d<N)(hΓ:Γ.all (fun x=>x.1 != d)=true)(hΛ:Λ.all (fun l=>l.s != d)=true)(hA:A.p B v w):St B w0 N ((d,A)::Γ) Λ (a.put (some d) v) w:=by
 have hdsz:d<a.tmps.size:=by rw [h.size]; exact hd
 have hl:∀ l∈Λ,l.s≠d:=fun l hl=>by simpa using List.all_eq_true.1 hΛ l hl
 refine ⟨h.lo,h.defers.keep rfl fun _ hD=>hD,by rw [size_put]; exact h.size,h.base,fun x hx=>?_,fun l hl'=>?_,fun l1 h1 l2 h2 hne=>?_⟩
 ·rcases List.mem_cons.1 hx with rfl | hx
  ·show A.p B ((a.put (some d) v).eval (.tmp d)) w
   rw [zb7 _ _ _ hdsz]
   exact hA
  ·have:x.1≠d:=by simpa using List.all_eq_true.1 hΓ x hx
   rw [zab _ _ _ _ this]
   exact h.vals x hx
 ·exact (h.locs l hl').eval (zab _ _ _ _ (hl l hl'))
 ·rw [zab _ _ _ _ (hl l1 h1),zab _ _ _ _ (hl l2 h2)]
  exact h.dis l1 h1 l2 h2 hne
variable {ops:Array Oper} {i:Nat} {K:Act→World→Prop}
theorem op_vS {d:Nat}{op:Op}{T':TypeId}{ps:String}{af:Array Edge}{v:Value}{A:VA}(ho:ops[i]?=some ⟨some d,op,T',ps,af,none⟩)(h:St B w0 N Γ Λ a w)(hd:d<N)(hΓ:Γ.all (fun x=>x.1 != d)=true)(hΛ:Λ.all (fun l=>l.s != d)=true)
  (hr:(execOp a.eval ⟨some d,op,T',ps,af,none⟩).run P w=.ok (.value v) w) (hA:A.p B v w) (hK:St B w0 N ((d,A)::Γ) Λ (a.put (some d) v) w→K (a.put (some d) v) w):wpOp P ops Q i K a w:=by
 unfold wpOp
 simp only [ho,Region.wanted,if_true]
 exact .inl (zbo hr (hK (h.addV hd hΓ hΛ hA)))
theorem op_nilS {d u:Nat}{T':TypeId}{ps:String}{af:Array Edge}{g o:Nat}(ku:Nat)(ho:ops[i]?=some ⟨some d,.nilCheck (.tmp u),T',ps,af,none⟩)(h:St B w0 N Γ Λ a w)
  (hu:Γ[ku]?=some (u,EqV (.pointer (some ⟨g,o,none⟩)))) (hd:d<N) (hΓ:Γ.all (fun x=>x.1 != d)=true) (hΛ:Λ.all (fun l=>l.s != d)=true)
  (hK:∀ a',St B w0 N ((d,EqV (.pointer (some ⟨g,o,none⟩)))::Γ) Λ a' w→K a' w):wpOp P ops Q i K a w:=by
 have h3:a.eval (.tmp u)=.pointer (some ⟨g,o,none⟩):=h.vals _ (List.mem_of_getElem? hu)
 exact op_vS (A:=EqV (.pointer (some ⟨g,o,none⟩))) ho h hd hΓ hΛ (by simp [execOp,h3]) rfl (hK _)
theorem op_fldS {d u f k n:Nat}{T T':TypeId}{ps:String}{af:Array Edge}{g o:Nat}(ku:Nat)(ho:ops[i]?=some ⟨some d,.fieldAddr T (.tmp u) f,T',ps,af,none⟩)(h:St B w0 N Γ Λ a w)(hf:Fld P T f k n)
  (hu:Γ[ku]?=some (u,EqV (.pointer (some ⟨g,o,none⟩)))) (hd:d<N) (hΓ:Γ.all (fun x=>x.1 != d)=true) (hΛ:Λ.all (fun l=>l.s != d)=true)
  (hK:∀ a',St B w0 N ((d,EqV (.pointer (some ⟨g,o+k,none⟩)))::Γ) Λ a' w→K a' w):wpOp P ops Q i K a w:=by
 have h3:a.eval (.tmp u)=.pointer (some ⟨g,o,none⟩):=h.vals _ (List.mem_of_getElem? hu)
 exact op_vS (A:=EqV (.pointer (some ⟨g,o+k,none⟩))) ho h hd hΓ hΛ (by simp [execOp,h3,run_fieldAt hf]) rfl (hK _)
theorem St.turn {w':World}{E sx:Nat}{T:TypeId}{H:Hd}{A0 A1:As}{row:Option Nat}(src:List Nat)(e:Nat)(h:St B w0 N Γ Λ a w)(hg:w.grownBy w' row)(hr:RowOk w B E row)(hrm:RowMay w0 B E)(hl:Λ[e]?=some ⟨sx,T,H,A0⟩)(hTE:(T != E)=true)
  (hsrc:src.all (fun k=>match Γ[k]? with | some y => !y.2.deps.contains E | none=>false)=true) (hΛ:Λ.zipIdx.all (fun x=>x.2==e || (x.1.T != E && !x.1.A.deps.contains E))=true)
  (htr:∀ cs,A0.p B cs w→A1.p B cs w'):St B w0 N (src.filterMap fun k=>Γ[k]?) (Λ.set e ⟨sx,T,H,A1⟩) a w':=by
 have hrow:∀ {g:Nat} {c:Array Value} {T':TypeId} {fz:Nat × Nat},w.heap[g]?=some (.cells c T' fz)→T'≠E→w'.heap[g]?=some (.cells c T' fz):=fun {g c T' fz} hg1 hne =>
  (hg.block g (Array.getElem?_eq_some_iff.1 hg1).1 (fun e5=>by
   obtain ⟨_,c',fz',e6⟩:=hr g e5.symm
   rw [hg1] at e6
   injection e6 with e6
   injection e6 with _ e6 _
   exact hne e6)).trans hg1
 refine ⟨h.lo,h.defers.grown hg hr rfl,h.size,⟨hg.os.trans h.base.os,hg.tape.trans h.base.tape,hg.output.trans h.base.output,Nat.le_trans h.base.size hg.size,fun k hk hf=>?_⟩,fun y hy=>?_,fun m' hm'=>?_,fun m1 hm1 m2 hm2 hne=>?_⟩
 ·refine (hg.block k (Nat.lt_of_lt_of_le hk h.base.size) (fun e=>?_)).trans (h.base.block k hk hf)
  obtain ⟨q1,c,fz,q2⟩:=hr k e.symm
  rcases hrm w k c fz h.base q1 q2 with q3 | q3
  ·omega
  ·exact hf q3
 ·obtain ⟨k,hk1,hk2⟩:=List.mem_filterMap.1 hy
  have hs:=List.all_eq_true.1 hsrc k hk1
  simp only [hk2,Bool.not_eq_true',List.contains_eq_mem,decide_eq_false_iff_not] at hs
  exact VA.grown (h.vals y (List.mem_of_getElem? hk2)) hg hr (Nat.le_refl B) hs
 ·obtain ⟨j,hj⟩:=List.getElem?_of_mem hm'
  by_cases e1:j=e
  ·subst e1
   have:m'=⟨sx,T,H,A1⟩:=by
    rw [List.getElem?_set_self (List.getElem?_eq_some_iff.1 hl).1] at hj
    injection hj with hj
    exact hj.symm
   subst this
   obtain ⟨g,cs,q1,q2,q3,q4⟩:=h.locs _ (List.mem_of_getElem? hl)
   exact ⟨g,cs,q1,q2,hrow q3 (by simpa using hTE),htr cs q4⟩
  ·rw [List.getElem?_set_ne (fun e2=>e1 e2.symm)] at hj
   have hc:=List.all_eq_true.1 hΛ (m',j) (List.mem_zipIdx_iff_getElem?.2 hj)
   simp only [Bool.or_eq_true,beq_iff_eq,Bool.and_eq_true,bne_iff_ne,Bool.not_eq_true',List.contains_eq_mem,decide_eq_false_iff_not] at hc
   have hc':=hc.resolve_left e1
   obtain ⟨g,cs,q1,q2,q3,q4⟩:=h.locs m' (List.mem_of_getElem? hj)
   exact ⟨g,cs,q1,q2,hrow q3 hc'.1,As.grown q4 hg hr (Nat.le_refl B) hc'.2⟩
 ·have hs:∀ m∈Λ.set e ⟨sx,T,H,A1⟩,∃ m0∈Λ,m0.s=m.s:=fun m hm=>by
   rcases List.mem_or_eq_of_mem_set hm with hm | rfl
   ·exact ⟨m,hm,rfl⟩
   ·exact ⟨_,List.mem_of_getElem? hl,rfl⟩
  obtain ⟨m3,q1,q2⟩:=hs m1 hm1
  obtain ⟨m4,q3,q4⟩:=hs m2 hm2
  rw [← q2,← q4] at hne ⊢
  exact h.dis m3 q1 m4 q3 hne
theorem grown_set {g:Nat}{cs:Array Value}:w.grownBy (w.setRow g cs) (some g):=⟨rfl,rfl,rfl,by simp,fun k _ hk=>setRow_other w g k cs (fun e=>hk (by rw [e]))⟩
theorem op_stoS {p d g k sx:Nat}{E ty T T':TypeId}{H:Hd}{A0 A1:As}{ps:String}{af:Array Edge}{v:Value}(src:List Nat)(kp kd e:Nat)(ho:ops[i]?=some ⟨none,.store ty (.tmp p) (.tmp d),T',ps,af,none⟩)(h:St B w0 N Γ Λ a w)
  (hp:Γ[kp]?=some (p,EqV (.pointer (some ⟨g,k,none⟩)))) (hd:Γ[kd]?=some (d,EqV v)) (hv1:v.oneCell'=true) (hvc:v.cells = #[v]) (ht:Ty P ty 1 false) (hl:Λ[e]?=some ⟨sx,T,H,A0⟩) (hTE:(T != E)=true) (hrm:RowMay w0 B E)
  (hsrc:src.all (fun k=>match Γ[k]? with | some y => !y.2.deps.contains E | none=>false)=true) (hΛ:Λ.zipIdx.all (fun x=>x.2==e || (x.1.T != E && !x.1.A.deps.contains E))=true)
  (htr:∀ cs,A0.p B cs w→B≤g∧∃ c:Array Value,w.heap[g]?=some (.cells c E (0,0))∧k<c.size∧A1.p B cs (w.setRow g (c.setIfInBounds k v)))
  (hK:∀ w',St B w0 N (src.filterMap fun k=>Γ[k]?) (Λ.set e ⟨sx,T,H,A1⟩) a w'→K (a.put none undef) w'):wpOp P ops Q i K a w:=by
 have e1:a.eval (.tmp p)=.pointer (some ⟨g,k,none⟩):=h.vals _ (List.mem_of_getElem? hp)
 have e2:a.eval (.tmp d)=v:=h.vals _ (List.mem_of_getElem? hd)
 obtain ⟨g0,cs0,q1,q2,q3,q4⟩:=h.locs _ (List.mem_of_getElem? hl)
 obtain ⟨hB,c,hc,hkc,_⟩:=htr cs0 q4
 have hrun:=zc1 ht w g k E c v [v] hvc rfl zo (by simpa using hv1) hc
 have e3:(c.toList.take k++[v]++c.toList.drop (k+1)).toArray=c.setIfInBounds k v:=by
  apply Array.ext'
  rw [Array.toList_setIfInBounds,List.set_eq_take_append_cons_drop,if_pos (by simpa using hkc)]
  simp
 rw [e3] at hrun
 unfold wpOp
 simp only [ho,Region.wanted,if_true]
 refine .inl (wp_skip' (w':=w.setRow g (c.setIfInBounds k v)) ?_ (hK _ (h.turn src e grown_set (fun g' e=>?_) hrm hl hTE hsrc hΛ fun cs hp=>?_)))
 ·simp [execOp,e1,e2,Instr.storeAt,Instr.sureAddr,hrun]
 ·injection e with e
  subst e
  exact ⟨hB,_,_,hc⟩
 ·obtain ⟨_,c',hc',_,h5⟩:=htr cs hp
  rw [hc] at hc'
  injection hc' with hc'
  injection hc' with hc'
  subst hc'
  exact h5
theorem op_appS {d s u sx:Nat}{S E T1 T:TypeId}{H:Hd}{A0:As}{ps:String}{af:Array Edge}{v:Value}{X:As}{xs:List Value}{n m bytes:Nat}{D':List TypeId}{it:TypeInfo}{z:Value}(A1:Value→As)(F:List Value→Prop)(src:List Nat)(ks ku e:Nat)
  (ho:ops[i]?=some ⟨some d,.call ⟨.builtin .append,#[.tmp s,.tmp u],#[S,S]⟩,T1,ps,af,none⟩) (h:St B w0 N Γ Λ a w)
  (hs:Γ[ks]?=some (s,EqV v)) (hu:Γ[ku]?=some (u,(SlA E D' [X]).va)) (hX:∀ ds,X.p B ds w→F ds) (hXn:X.n=m) (hl:Λ[e]?=some ⟨sx,T,H,A0⟩) (hTE:(T != E)=true) (hrm:RowMay w0 B E)
  (hS:P.underlying S=some (.slice E)) (hi:P.info? E=some it) (hz:it.zero=some z) (hsz1:it.size=m) (hby:it.bytes=bytes) (hzs:z.cells.size=m) (hm0:0<m) (hn:(n+1)*bytes≤140737488355328) (hn2:n≤1000000000000000)
  (hd:d<N) (hΓ:Γ.all (fun x=>x.1 != d)=true) (hΛd:Λ.all (fun l=>l.s != d)=true)
  (hsrc:src.all (fun k=>match Γ[k]? with | some y => !y.2.deps.contains E | none=>false)=true) (hΛ:Λ.zipIdx.all (fun x=>x.2==e || (x.1.T != E && !x.1.A.deps.contains E))=true)
  (htr:∀ cs,A0.p B cs w→w.ownsRow B E m v n xs∧∀ v' w' ds,F ds→w'.ownsRow B E m v' (n+1) (xs++ds)→w.grownBy w' v.ownBlock→(v'.ownBlock=v.ownBlock∨(v'.ownBlock=some w.heap.size∧w.grownBy w' none))→(A1 v').p B cs w')
  (hK:∀ v' w',St B w0 N ((d,EqV v')::src.filterMap fun k=>Γ[k]?) (Λ.set e ⟨sx,T,H,A1 v'⟩) (a.put (some d) v') w'→K (a.put (some d) v') w'):wpOp P ops Q i K a w:=by
 have e1:a.eval (.tmp s)=v:=h.vals _ (List.mem_of_getElem? hs)
 obtain ⟨cs1,⟨_,Ad,cap,ds,rfl,_,_,h5,h6⟩,hu'⟩:=h.vals _ (List.mem_of_getElem? hu)
 have e2:a.eval (.tmp u)=.slice Ad 1 cap:=hu'
 obtain ⟨g1,o1,rfl,_,_,h8⟩:=h6 (by simp)
 obtain ⟨g0,cs0,q1,q2,q3,q4⟩:=h.locs _ (List.mem_of_getElem? hl)
 obtain ⟨hown,hnext⟩:=htr cs0 q4
 obtain ⟨ps1,e3,hps⟩:=h5
 have hx1:X.p B ds w:=by
  cases hps with
  | cons h1 h2 =>
   cases h2
   rw [e3]
   simpa using h1
 have hdl:ds.length=1*m:=by rw [X.len _ _ _ hx1,hXn,Nat.one_mul]
 have hBw:B≤w.heap.size:=Nat.le_trans (h.lo _ (.inl (Nat.le_refl _))) h.base.size
 obtain ⟨v',w',hr,r1,r2,r3⟩:=run_app1 (P:=P) w B S T1 E it z m bytes hS hi hz hsz1 hby hzs hm0 v n xs hown ⟨g1,o1,none⟩ cap ds hdl (fun j u hu=>by rw [add_k]; exact h8 j u hu) (X.one _ _ _ hx1) (by unfold maxLen; omega) hn hBw
 have hro:RowOk w B E v.ownBlock:=own_row hown
 have hst:=(h.turn (A1:=A1 v') src e r2 hro hrm hl hTE hsrc hΛ fun cs hp=>(htr cs hp).2 v' w' ds (hX ds hx1) r1 r2 r3)
 have hst2:=hst.addV (d:=d) (v:=v') (A:=EqV v') hd (List.all_eq_true.2 fun x hx=>by
  obtain ⟨k,hk1,hk2⟩:=List.mem_filterMap.1 hx
  exact List.all_eq_true.1 hΓ x (List.mem_of_getElem? hk2)) (List.all_eq_true.2 fun l hl'=>by
  rcases List.mem_or_eq_of_mem_set hl' with hl' | rfl
  ·exact List.all_eq_true.1 hΛd l hl'
  ·exact List.all_eq_true.1 hΛd (⟨sx,T,H,A0⟩:Lc) (List.mem_of_getElem? hl)) rfl
 unfold wpOp
 simp only [ho,Region.wanted,if_true]
 refine .inl (zbo (w':=w') (v:=v') ?_ (hK v' w' hst2))
 simp only [execOp,resolve,invoke,builtin,Sem.run_bind,Sem.run_pure,Result.andThen_ok,List.map_toArray,List.map_cons,List.map_nil,e1,e2,hr]
end
section
open Rg
variable {P:Program} {Q:Exit→Act→World→Prop} {B N:Nat} {w0:Bs} {Γ:List (Nat × VA)} {Λ:List Lc} {a:Act} {w:World}
theorem op_newS {ops:Array Oper}{i d x:Nat}{T ty T1 T2:TypeId}{A0 A:As}{ps1 ps2:String}{af1 af2:Array Edge}{rest:List Nat}(kx:Nat)(src:List Nat)
  (ho1:ops[i]?=some ⟨some d,.alloc T,T1,ps1,af1,none⟩) (ho2:ops[i+1]?=some ⟨none,.store ty (.tmp d) (.tmp x),T2,ps2,af2,none⟩)
  (h:St B w0 N Γ Λ a w) (hz:Zero P T A0) (hx:Γ[kx]?=some (x,A.va)) (ht:Ty P ty A.n A.ag) (hn:A0.n=A.n) (hd:d<N) (hdx:(d != x)=true)
  (hsrc:src.all (fun k=>match Γ[k]? with | some y=>y.1 != d | none=>false)=true) (hΛ:Λ.all (fun l=>l.s != d)=true)
  (hK:∀ a' w',St B w0 N (src.filterMap fun k=>Γ[k]?) (Λ++[⟨d,T,ptrH,A⟩]) a' w'→wpOps P ops Q rest a' w'):wpOps P ops Q (i::(i+1)::rest) a w:=by
 obtain ⟨it,z,z1,z2,z3⟩:=hz
 obtain ⟨cs,hp,hv⟩:=h.vals _ (List.mem_of_getElem? hx)
 have hv':a.eval (.tmp x)=shape A.ag cs:=hv
 have l1:=A.len _ _ _ hp
 have l0:=A0.len _ _ _ (z3 B w)
 have hds:d<a.tmps.size:=by rw [h.size]; exact hd
 have hdx':x≠d:=fun e=>by subst e; simp at hdx
 have hΛ':∀ l∈Λ,l.s≠d:=fun l hl=>by
  have:=List.all_eq_true.1 hΛ l hl
  simpa using this
 obtain ⟨W1,hW1⟩:∃ W1,w.alloc (.cells z.cells T)=W1:=⟨_,rfl⟩
 have hg1:Grow w W1:=by rw [← hW1]; exact Grow.alloc _ _
 have hnew:W1.heap[w.heap.size]?=some (.cells z.cells T (0,0)):=by rw [← hW1]; exact heap_alloc_new w _
 rw [wpOps_cons]
 refine (zbu (R:=⟨ops,N,Γ,[],[],fun _=>[]⟩) ho1 rfl (zbo (w':=W1) (v:=ptr w.heap.size) ?_ ?_))
 ·rw [← hW1]; simp [execOp,Instr.alloc,zeroValue,typeInfo,z1,z2,newVar,newRow,ptr]
 obtain ⟨a1,ha1⟩:∃ a1,a.put (some d) (ptr w.heap.size)=a1:=⟨_,rfl⟩
 have ed:a1.eval (.tmp d)=ptr w.heap.size:=by rw [← ha1]; exact zb7 _ _ _ hds
 have eo:∀ t,t≠d→a1.eval (.tmp t)=a.eval (.tmp t):=fun t ht=>by rw [← ha1]; exact zab _ _ _ _ ht
 have ef:a1.defers=a.defers:=by rw [← ha1]; rfl
 have es:a1.tmps.size=N:=by rw [← ha1,size_put]; exact h.size
 rw [ha1]
 have l2:z.cells.size=A0.n:=by simpa using l0
 have hrun:=zc1 ht W1 w.heap.size 0 T z.cells _ cs (A.cells_shape hp) l1 zo (A.one _ _ _ hp) hnew
 rw [List.drop_of_length_le (by simp; omega)] at hrun
 simp only [List.take_zero,List.nil_append,List.append_nil] at hrun
 have hW:=Wr.setRow W1 w.heap.size cs.toArray
 have hcell:(W1.setRow w.heap.size cs.toArray).heap[w.heap.size]?=some (.cells cs.toArray T (0,0)):=setRow_heap W1 _ _ _ _ _ hnew
 have hgr:Grow w (W1.setRow w.heap.size cs.toArray):=Kept.grow0 ((hg1.kept).wr hW (.inl (Nat.le_refl _)))
 rw [wpOps_cons]
 have hst:wpOps P ops Q rest a1 (W1.setRow w.heap.size cs.toArray):=by
  refine hK _ _ ⟨h.lo,?_,es,h.base.grow hgr,fun y hy=>?_,fun m hm=>?_,fun m hm m' hm' hne=>?_⟩
  ·exact h.defers.grow hgr ef
  ·obtain ⟨k,hk1,hk2⟩:=List.mem_filterMap.1 hy
   have:=List.all_eq_true.1 hsrc k hk1
   rw [hk2] at this
   rw [eo _ (by simpa using this)]
   exact y.2.grow _ _ _ _ hgr (h.vals y (List.mem_of_getElem? hk2))
  ·rcases List.mem_append.1 hm with hm | hm
   ·obtain ⟨g,c,q1,q2,q3,q4⟩:=h.locs m hm
    exact ⟨g,c,by rw [eo _ (hΛ' m hm)]; exact q1,q2,hgr.heap q3,m.A.grow _ _ _ _ hgr q4⟩
   ·obtain rfl:=List.mem_singleton.1 hm
    exact ⟨w.heap.size,cs,ed,.inl h.base.size,hcell,A.grow _ _ _ _ hgr hp⟩
  ·have hnm:∀ m∈Λ,∃ g,blk (a1.eval (.tmp m.s))=some g∧g<w.heap.size:=fun m hm=>by
    obtain ⟨g,c,q1,q2,q3,q4⟩:=h.locs m hm
    exact ⟨g,by rw [eo _ (hΛ' m hm),q1]; exact m.H.ok g,(Array.getElem?_eq_some_iff.1 q3).1⟩
   have hd0:blk (a1.eval (.tmp d))=some w.heap.size:=by rw [ed]; rfl
   rcases List.mem_append.1 hm with hm | hm <;> rcases List.mem_append.1 hm' with hm' | hm'
   ·rw [eo _ (hΛ' m hm),eo _ (hΛ' m' hm')]
    exact h.dis m hm m' hm' hne
   ·obtain rfl:=List.mem_singleton.1 hm'
    obtain ⟨g,q1,q2⟩:=hnm m hm
    rw [q1,hd0]
    intro e
    injection e with e
    omega
   ·obtain rfl:=List.mem_singleton.1 hm
    obtain ⟨g,q1,q2⟩:=hnm m' hm'
    rw [q1,hd0]
    intro e
    injection e with e
    omega
   ·obtain rfl:=List.mem_singleton.1 hm
    obtain rfl:=List.mem_singleton.1 hm'
    exact absurd rfl hne
 unfold wpOp
 rw [ho2]
 have hwant:Region.wanted (⟨none,.store ty (.tmp d) (.tmp x),T2,ps2,af2,none⟩:Oper) (yielded ops a1.tmps)=true:=rfl
 simp only [hwant,if_true]
 refine .inl (wp_skip' (w':=W1.setRow w.heap.size cs.toArray) ?_ hst)
 have e2:a1.eval (.tmp x)=shape A.ag cs:=by rw [eo _ hdx']; exact hv'
 have e1:a1.eval (.tmp d)=.pointer (some ⟨w.heap.size,0,none⟩):=ed
 simp [execOp,e1,e2,Instr.storeAt,Instr.sureAddr,hrun]
end
end Go.Proofs.Ytljkepdpoelpkaa
