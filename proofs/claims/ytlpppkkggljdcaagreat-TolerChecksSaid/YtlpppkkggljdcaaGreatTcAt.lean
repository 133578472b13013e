import Derived.Test.YtlpppkkggljdcaaGreatTcAa
import Derived.Test.YtlpppkkggljdcaaGreatTcAc
import Derived.Test.YtlpppkkggljdcaaGreatTcAo
import Derived.Test.YtlpppkkggljdcaaGreatTcAq
import Derived.Test.YtlpppkkggljdcaaGreatTcAr
import Derived.Test.YtlpppkkggljdcaaGreatTcAs
import Derived.Laws.AppendOwn
import Derived.Orders
set_option linter.unusedVariables false
set_option linter.unusedSimpArgs false
set_option linter.unusedSectionVars false
set_option maxRecDepth 100000
namespace Go.Proofs.YtlpppkkggljdcaaGreat
open Go Go.RowKit
theorem qd_pins {u v:Value}{c d k:Nat}{q:Rat}(hc:c≤k)(hd:d≤k):WkA (cat [PinA u ((ZN c q.num).and (SepAll [] u)),PinA v ((ZN d (q.den:Int)).and (SepAll [u] v))]) (QD k q) :=
 (dis_pins (l:=[(u,ZN c q.num),(v,ZN d (q.den:Int))]) (fun x hx=>by
  simp at hx
  rcases hx with rfl | rfl <;> exact nod_zn)).trans (zk5 (zci (.cons (zj9 hc) (.cons (zj9 hd) .nil))))
theorem qd_of {k c:Nat}{q:Rat}(h1:lz q.num≤c)(h2:lz (q.den:Int)≤c):WkA (QD k q) (QD c q):=zk5 (zci (.cons ⟨rfl,rfl,fun _ _ _ hp=>⟨h1,hp.2⟩⟩ (.cons ⟨rfl,rfl,fun _ _ _ hp=>⟨h2,hp.2⟩⟩ .nil)))
theorem lowestD_c {u0 v0:Value}{c d:Nat}{p q:Int}(hc:c≤549755813888)(hd:d≤549755813888)(hq:q≠0):Cn Tryz.prog 82 [(PinA u0 ((ZN c p).and (SepAll [] u0))).va,(PinA v0 ((ZN d q).and (SepAll [u0] v0))).va] ((QD (max c d) (Rat.divInt p q)).va):=by
 have hg0:0<Int.gcd p q:=Int.gcd_pos_of_ne_zero_right p hq
 obtain ⟨hn1,hn2⟩:=low_num (p:=p) hq
 refine Cn.intro Tryz.func82 rfl zk nq (fun B w0 a hst=>?_)
 have hst:St B w0 35 [(0,(PinA u0 ((ZN c p).and (SepAll [] u0))).va),(1,(PinA v0 ((ZN d q).and (SepAll [u0] v0))).va)] [] a w0.w:=hst
 refine wp_seq ?_
 refine gl (sts:=[]) (news:=[⟨2,35,ptrH,some 0,_,none⟩,⟨3,35,ptrH,some 1,_,none⟩,⟨4,37,ptrH,some 2,_,none⟩]) (sp:=[.alc 0,.alc 1,.alc 2]) [] hst (oc (zan rfl rfl rfl (gq 0 rfl)) (oc (zan rfl rfl rfl (gq 1 rfl)) (oc (zap rfl rfl rfl (Str.zero zb9)) o0))) (fun a w hst=>?_)
 have hst:St B w0 35 [] [⟨2,35,ptrH,_⟩,⟨3,35,ptrH,_⟩,⟨4,37,ptrH,_⟩] a w:=hst
 refine zt ?_
 refine wp_seq ?_
 refine gl (sts:=[none,none,none]) (news:=[⟨5,35,ptrH,some 3,_,some (4,_)⟩]) (sp:=[.val 6 _,.val 7 _,.val 8 _,.alc 3,.sto 3]) [] hst (zv rfl (zaq (lz0 0 rfl) zab) (zv rfl (zaq (lz0 1 rfl) zab) (zv rfl (za5 (xs:=[.tmp 6,.tmp 7]) (common_z zo zo) (.cons (has_wk' (vq 0 rfl) pz_za.va) (.cons (has_wk' (vq 1 rfl) pz_za.va) .nil))) (oc (zap rfl rfl rfl (Str.zero zbs)) (oc (zaf rfl rfl rfl (vq 2 rfl) zab (Eq.trans (b:=2) rfl rfl)) o0))))) (fun a w hst=>?_)
 have hst:St B w0 35 [] [⟨2,35,ptrH,_⟩,⟨3,35,ptrH,_⟩,⟨4,37,ptrH,_⟩,⟨5,35,ptrH,_⟩] a w:=hst
 refine zt<|zaz (anc:=[[],[],[0,1],[0,1,2]]) (sts:=[none,none,none,none]) (news:=[]) (sp:=[.val 9 _,.val 10 _,.val 11 _,.val 12 _]) [.o 3] za6 hst (zv rfl (zaq (lz0 3 rfl) zab) (zv rfl (za5 (xs:=[.const (.int .i64 (1))]) (of_z zd zd) (.cons za3 .nil)) (zv rfl (za5 (xs:=[.tmp 9,.tmp 10]) (cmp_z zo zo) (.cons (vq 0 rfl) (.cons (vq 1 rfl) .nil))) (zv rfl (zdh (vq 2 rfl) za3) o0)))) zk zk zk zk (fun a w hst=>?_)
 have hst:St B w0 35 [(12,_)] [⟨2,35,ptrH,_⟩,⟨3,35,ptrH,_⟩,⟨4,37,ptrH,_⟩,⟨5,35,ptrH,_⟩] a w:=hst
 refine za0 ?_
 refine zc3 (fun a w=>∃ u v:Value,St B w0 35 [] [⟨2,35,ptrH,PinA u ((ZN c (p.tdiv ((Int.gcd p q:Nat):Int))).and (SepAll [] u))⟩,⟨3,35,ptrH,PinA v ((ZN d (q.tdiv ((Int.gcd p q:Nat):Int))).and (SepAll [u] v))⟩,⟨4,37,ptrH,RFA ⟨⟨false,[]⟩,⟨false,[]⟩⟩⟩,⟨5,35,ptrH,ZA (max c d) ((Int.gcd p q:Nat):Int)⟩] a w) hst (zm 0 rfl) (fun hb0=>?_) (fun hb0=>?_) (fun a w hst=>?_)
 ·refine wp_seq ?_
  refine go_linV (sts:=[some (6,fun ν=>_),none,none,none]) (news:=[]) (sp:=[(fun ν=>.val 14 _),(fun ν=>.val 15 _),(fun ν=>.val 16 (PinT (ν 2) [ZN c (p.tdiv ((Int.gcd p q:Nat):Int)),ZN (max c d) (p.tmod ((Int.gcd p q:Nat):Int))] [v0])),(fun ν=>.val 13 _),(fun ν=>.val 17 (PinA (ν 4) ((ZN c (p.tdiv ((Int.gcd p q:Nat):Int))).and (SepAll [v0] (ν 4)))).va),(fun ν=>.val 18 (PinA (ν 5) ((ZN (max c d) (p.tmod ((Int.gcd p q:Nat):Int))).and (SepAll [v0] (ν 5)))).va),(fun ν=>.sto 0)]) [] hst ⟨of_u fun ν=>ob_v rfl rfl (zaq (lz0 0 rfl) zab),⟨of_u fun ν=>ob_v rfl rfl (zaq (lz0 3 rfl) zab),⟨of_callT (us:=fun ν=>[v0]) (xs:=[.tmp 14,.tmp 15]) rfl rfl (divide_zn zo zo) nf_zn (.cons upA_za.va (.cons upA_za.va .nil)) (fun ν=>(.cons (has_wk' (vq 0 rfl) pz_za.va) (.cons (vq 1 rfl) .nil))) (fun _ _=>rfl) (fun ν=>(live_loc (zgy zeq) (lz0 1 rfl) zdw)),⟨of_u fun ν=>ob_v rfl rfl (za2 (vq 2 rfl)),⟨of_ext (us:=fun ν=>[v0]) rfl rfl (fun ν=>(vq 3 rfl)) rfl (fun _ _=>rfl),⟨of_ext (us:=fun ν=>[v0]) rfl rfl (fun ν=>(vq 3 rfl)) rfl (fun _ _=>rfl),⟨of_u fun ν=>zaf rfl rfl rfl (vq 4 rfl) zab (Eq.trans (b:=2) rfl rfl),trivial⟩⟩⟩⟩⟩⟩⟩ ⟨(fun ν ν' h=>rfl),⟨(fun ν ν' h=>rfl),⟨(fun ν ν' h=>by first | rfl | simp only [h 2 rfl]),⟨(fun ν ν' h=>by first | rfl | simp only [h 2 rfl]),⟨(fun ν ν' h=>by first | rfl | simp only [h 2 rfl,h 4 rfl]),⟨(fun ν ν' h=>by first | rfl | simp only [h 2 rfl,h 4 rfl,h 5 rfl]),⟨(fun ν ν' h=>by first | rfl | simp only [h 2 rfl,h 4 rfl,h 5 rfl]),trivial⟩⟩⟩⟩⟩⟩⟩ ⟨(fun ν ν' h=>by first | rfl | simp only [h 2 rfl,h 4 rfl,h 5 rfl]),⟨trivial,⟨trivial,⟨trivial,trivial⟩⟩⟩⟩ zk (fun ν=>by kernel_rfl) (fun ν=>by kernel_rfl) (fun ν3 a w hst=>?_)
  have hst:St B w0 35 [] [⟨2,35,ptrH,_⟩,⟨3,35,ptrH,_⟩,⟨4,37,ptrH,_⟩,⟨5,35,ptrH,_⟩] a w:=hst
  refine za0 ?_
  refine go_linV (sts:=[none,some (6,fun ν=>_),none,none]) (news:=[]) (sp:=[(fun ν=>.val 20 _),(fun ν=>.val 21 _),(fun ν=>.val 22 (PinT (ν 2) [ZN d (q.tdiv ((Int.gcd p q:Nat):Int)),ZN (max c d) (q.tmod ((Int.gcd p q:Nat):Int))] [(ν3 4)])),(fun ν=>.val 19 _),(fun ν=>.val 23 (PinA (ν 4) ((ZN d (q.tdiv ((Int.gcd p q:Nat):Int))).and (SepAll [(ν3 4)] (ν 4)))).va),(fun ν=>.val 24 (PinA (ν 5) ((ZN (max c d) (q.tmod ((Int.gcd p q:Nat):Int))).and (SepAll [(ν3 4)] (ν 5)))).va),(fun ν=>.sto 1)]) [] hst ⟨of_u fun ν=>ob_v rfl rfl (zaq (lz0 1 rfl) zab),⟨of_u fun ν=>ob_v rfl rfl (zaq (lz0 3 rfl) zab),⟨of_callT (us:=fun ν=>[(ν3 4)]) (xs:=[.tmp 20,.tmp 21]) rfl rfl (divide_zn zo zo) nf_zn (.cons upA_za.va (.cons upA_za.va .nil)) (fun ν=>(.cons (has_wk' (vq 0 rfl) pz_za.va) (.cons (vq 1 rfl) .nil))) (fun _ _=>rfl) (fun ν=>(live_loc (zgy zeq) (lz0 0 rfl) zdw)),⟨of_u fun ν=>ob_v rfl rfl (za2 (vq 2 rfl)),⟨of_ext (us:=fun ν=>[(ν3 4)]) rfl rfl (fun ν=>(vq 3 rfl)) rfl (fun _ _=>rfl),⟨of_ext (us:=fun ν=>[(ν3 4)]) rfl rfl (fun ν=>(vq 3 rfl)) rfl (fun _ _=>rfl),⟨of_u fun ν=>zaf rfl rfl rfl (vq 4 rfl) zab (Eq.trans (b:=2) rfl rfl),trivial⟩⟩⟩⟩⟩⟩⟩ ⟨(fun ν ν' h=>rfl),⟨(fun ν ν' h=>rfl),⟨(fun ν ν' h=>by first | rfl | simp only [h 2 rfl]),⟨(fun ν ν' h=>by first | rfl | simp only [h 2 rfl]),⟨(fun ν ν' h=>by first | rfl | simp only [h 2 rfl,h 4 rfl]),⟨(fun ν ν' h=>by first | rfl | simp only [h 2 rfl,h 4 rfl,h 5 rfl]),⟨(fun ν ν' h=>by first | rfl | simp only [h 2 rfl,h 4 rfl,h 5 rfl]),trivial⟩⟩⟩⟩⟩⟩⟩ ⟨trivial,⟨(fun ν ν' h=>by first | rfl | simp only [h 2 rfl,h 4 rfl,h 5 rfl]),⟨trivial,⟨trivial,trivial⟩⟩⟩⟩ zk (fun ν=>by kernel_rfl) (fun ν=>by kernel_rfl) (fun ν4 a w hst=>?_)
  have hst:St B w0 35 [] [⟨2,35,ptrH,_⟩,⟨3,35,ptrH,_⟩,⟨4,37,ptrH,_⟩,⟨5,35,ptrH,_⟩] a w:=hst
  refine za0 ?_
  have hst:=St.sel hst []
  have hst:=St.wkL (A':=PinA (ν3 4) ((ZN c (p.tdiv ((Int.gcd p q:Nat):Int))).and (SepAll [] (ν3 4)))) hst 0 rfl (pin_mono and_triv)
  exact ⟨ν3 4,ν4 4,hst⟩
 ·refine wp_skip ?_
  refine za0 ?_
  have hst:=St.sel hst []
  have hst:=St.cvA (A':=PinA u0 ((ZN c (p.tdiv ((Int.gcd p q:Nat):Int))).and (SepAll [] u0))) hst 0 rfl (congrArg (fun z=>PinA u0 ((ZN c z).and (SepAll [] u0))) (tdiv_g hb0))
  have hst:=St.cvA (A':=PinA v0 ((ZN d (q.tdiv ((Int.gcd p q:Nat):Int))).and (SepAll [u0] v0))) hst 1 rfl (congrArg (fun z=>PinA v0 ((ZN d z).and (SepAll [u0] v0))) (tdiv_g hb0))
  exact ⟨u0,v0,hst⟩
 obtain ⟨u1,v1,hst⟩:=hst
 refine zt ?_
 refine wp_seq ?_
 refine gl (sts:=[none,none,none,none]) (news:=[]) (sp:=[.val 25 _,.val 26 _,.val 27 _]) [.o 2] hst (zv rfl (zaq (lz0 1 rfl) zab) (zv rfl (za5 (xs:=[.tmp 25]) sign_z (.cons (has_wk' (vq 0 rfl) pz_za.va) .nil)) (zv rfl (zbt (vq 1 rfl) za3) o0))) (fun a w hst=>?_)
 have hst:St B w0 35 [(27,_)] [⟨2,35,ptrH,_⟩,⟨3,35,ptrH,_⟩,⟨4,37,ptrH,_⟩,⟨5,35,ptrH,_⟩] a w:=hst
 refine za0 ?_
 refine zc3 (fun a w=>∃ u v:Value,St B w0 35 [] [⟨2,35,ptrH,PinA u ((ZN c (Rat.divInt p q).num).and (SepAll [] u))⟩,⟨3,35,ptrH,PinA v ((ZN d ((Rat.divInt p q).den:Int)).and (SepAll [u] v))⟩,⟨4,37,ptrH,RFA ⟨⟨false,[]⟩,⟨false,[]⟩⟩⟩,⟨5,35,ptrH,ZA (max c d) ((Int.gcd p q:Nat):Int)⟩] a w) hst (zm 0 rfl) (fun hb1=>?_) (fun hb1=>?_) (fun a w hst=>?_)
 ·refine go_drawV' [[],[0],[],[0,1,2],[0,1,2,3],[0,1,2,3,4]] (sts:=[some (4,fun ν=>_),some (5,fun ν=>_),none,none]) (news:=[]) (sp:=[(fun ν=>.val 28 _),(fun ν=>.val 29 (PinA (ν 1) ((ZN c (-(p.tdiv ((Int.gcd p q:Nat):Int)))).and (SepAll [] (ν 1)))).va),(fun ν=>.val 30 _),(fun ν=>.val 31 (PinA (ν 3) ((ZN d (-(q.tdiv ((Int.gcd p q:Nat):Int)))).and (SepAll [ν 1] (ν 3)))).va),(fun ν=>.sto 0),(fun ν=>.sto 1)]) [] za6 hst ⟨of_u fun ν=>ob_v rfl rfl (zaq (lz0 0 rfl) zab),⟨zgv (us:=fun ν=>[]) (xs:=[.tmp 28]) rfl rfl (zkk zo) zeq zfw (.cons upA_za.va .nil) (fun ν=>(.cons (has_wk' (vq 0 rfl) pz_za.va) .nil)) (fun _ _=>rfl) (fun ν=>zdw),⟨of_u fun ν=>ob_v rfl rfl (zaq (lz0 1 rfl) zab),⟨zgv (us:=fun ν=>[ν 1]) (xs:=[.tmp 30]) rfl rfl (zkk zo) zeq zfw (.cons upA_za.va .nil) (fun ν=>(.cons (has_wk' (vq 2 rfl) pz_za.va) .nil)) (fun _ _=>rfl) (fun ν=>(zi0 (zgy zeq) (vq 1 rfl) zdw)),⟨of_u fun ν=>zaf rfl rfl rfl (vq 1 rfl) zab (Eq.trans (b:=2) rfl rfl),⟨of_u fun ν=>zaf rfl rfl rfl (vq 3 rfl) zab (Eq.trans (b:=2) rfl rfl),trivial⟩⟩⟩⟩⟩⟩ ⟨(fun ν ν' h=>rfl),⟨(fun ν ν' h=>by first | rfl | simp only [h 1 rfl]),⟨(fun ν ν' h=>rfl),⟨(fun ν ν' h=>by first | rfl | simp only [h 1 rfl,h 3 rfl]),⟨(fun ν ν' h=>by first | rfl | simp only [h 1 rfl,h 3 rfl]),⟨(fun ν ν' h=>by first | rfl | simp only [h 1 rfl,h 3 rfl]),trivial⟩⟩⟩⟩⟩⟩ ⟨(fun ν ν' h=>by first | rfl | simp only [h 1 rfl,h 3 rfl]),⟨(fun ν ν' h=>by first | rfl | simp only [h 1 rfl,h 3 rfl]),⟨trivial,⟨trivial,trivial⟩⟩⟩⟩ zk zk (fun ν=>by kernel_rfl) (fun ν=>by kernel_rfl) (fun ν6 a w hst=>?_)
  have hst:St B w0 35 [] [⟨2,35,ptrH,_⟩,⟨3,35,ptrH,_⟩,⟨4,37,ptrH,_⟩,⟨5,35,ptrH,_⟩] a w:=hst
  refine za0 ?_
  have hst:=St.sel hst []
  rw [if_pos (sgn_yes hb1)] at hn1 hn2; rw [hn1,hn2] at hst; exact ⟨ν6 1,ν6 3,hst⟩
 ·refine wp_skip ?_
  refine za0 ?_
  have hst:=St.sel hst []
  rw [if_neg (sgn_no hb1)] at hn1 hn2; rw [hn1,hn2] at hst; exact ⟨u1,v1,hst⟩
 obtain ⟨u2,v2,hst⟩:=hst
 refine zt<|gl (sts:=[none,none,some (3,_),none]) (news:=[]) (sp:=[.val 32 _,.val 33 _,.val 34 _,.sto 2]) [] hst (zv rfl (zaq (lz0 0 rfl) zab) (zv rfl (zaq (lz0 1 rfl) zab) (zv rfl (zbb (xs:=[(0,.tmp 32),(1,.tmp 33)]) (qs:=[(0,_),(1,_)]) zb9 (.cons ⟨rfl,(vq 0 rfl),rfl⟩ (.cons ⟨rfl,(vq 1 rfl),rfl⟩ .nil))) (oc (zaf rfl rfl rfl (vq 2 rfl) zao (Eq.trans (b:=4) rfl rfl)) o0)))) (fun a w hst=>?_)
 have hst:St B w0 35 [] [⟨2,35,ptrH,_⟩,⟨3,35,ptrH,_⟩,⟨4,37,ptrH,_⟩,⟨5,35,ptrH,_⟩] a w:=hst
 refine za0 ?_
 refine wp_ret ?_
 refine zai ?_ (zam rfl hst (zm 2 rfl) zao)
 exact (qd_pins (Nat.le_max_left _ _) (Nat.le_max_right _ _)).va
theorem plusD_q {c d:Nat}{x y:Rat}(hc:c+d≤137438953472):Cn Tryz.prog 60 [Qs c x,Qs d y] ((QD (c+d+1) (x+y)).va):=by
 refine Cn.intro Tryz.func60 rfl zk nq (fun B w0 a hst=>?_)
 have hst:St B w0 22 [(0,Qs c x),(1,Qs d y)] [] a w0.w:=hst
 refine wp_seq ?_
 refine gl (sts:=[]) (news:=[⟨2,37,ptrH,some 0,_,none⟩,⟨3,37,ptrH,some 1,_,none⟩,⟨4,37,ptrH,some 2,_,none⟩]) (sp:=[.alc 0,.alc 1,.alc 2]) [] hst (oc (zan rfl rfl rfl (gq 0 rfl)) (oc (zan rfl rfl rfl (gq 1 rfl)) (oc (zap rfl rfl rfl (Str.zero zb9)) o0))) (fun a w hst=>?_)
 have hst:St B w0 22 [] [⟨2,37,ptrH,_⟩,⟨3,37,ptrH,_⟩,⟨4,37,ptrH,_⟩] a w:=hst
 refine zt ?_
 refine go_drawV' [[],[0],[],[2],[0,1,2,3],[],[5],[],[7],[0,1,2,3,4,5,6,7,8],[0,1,2,3,4,5,6,7,8,9],[],[11],[],[13],[0,1,2,3,4,5,6,7,8,9,10,11,12,13,14],[0,1,2,3,4,5,6,7,8,9,10,11,12,13,14,15],[0,1,2,3,4,5,6,7,8,9,10,11,12,13,14,15,16]] (sts:=[none,none,some (17,fun ν=>_)]) (news:=[]) (sp:=[(fun ν=>.adr 5 2 (.some 0) True),(fun ν=>.val 6 _),(fun ν=>.adr 7 3 (.some 2) True),(fun ν=>.val 8 _),(fun ν=>.val 9 _),(fun ν=>.adr 10 3 (.some 0) True),(fun ν=>.val 11 _),(fun ν=>.adr 12 2 (.some 2) True),(fun ν=>.val 13 _),(fun ν=>.val 14 _),(fun ν=>.val 15 (PinA (ν 10) ((ZN (max (c+d) (d+c)+1) (x.num*(y.den:Int)+y.num*(x.den:Int))).and (SepAll [] (ν 10)))).va),(fun ν=>.adr 16 2 (.some 2) True),(fun ν=>.val 17 _),(fun ν=>.adr 18 3 (.some 2) True),(fun ν=>.val 19 _),(fun ν=>.val 20 (PinA (ν 15) ((ZN (c+d) ((x.den:Int)*(y.den:Int))).and (SepAll [ν 10] (ν 15)))).va),(fun ν=>.val 21 _),(fun ν=>.sto 2)]) [] za6 hst ⟨of_u fun ν=>ob_a rfl rfl (za7 (lz0 0 rfl) zbf),⟨of_u fun ν=>ob_v rfl rfl (za4 0 rfl zk trivial (lz0 0 rfl) (Sub.part 0 rfl rfl) zab),⟨of_u fun ν=>ob_a rfl rfl (za7 (lz0 1 rfl) zb5),⟨of_u fun ν=>ob_v rfl rfl (za4 2 rfl zk trivial (lz0 1 rfl) (Sub.part 1 rfl rfl) zab),⟨of_u fun ν=>ob_v rfl rfl (za5 (xs:=[.tmp 6,.tmp 8]) (zcv zo zo) (.cons (vq 1 rfl) (.cons (vq 3 rfl) .nil))),⟨of_u fun ν=>ob_a rfl rfl (za7 (lz0 1 rfl) zbf),⟨of_u fun ν=>ob_v rfl rfl (za4 5 rfl zk trivial (lz0 1 rfl) (Sub.part 0 rfl rfl) zab),⟨of_u fun ν=>ob_a rfl rfl (za7 (lz0 0 rfl) zb5),⟨of_u fun ν=>ob_v rfl rfl (za4 7 rfl zk trivial (lz0 0 rfl) (Sub.part 1 rfl rfl) zab),⟨of_u fun ν=>ob_v rfl rfl (za5 (xs:=[.tmp 11,.tmp 13]) (zcv zo zo) (.cons (vq 6 rfl) (.cons (vq 8 rfl) .nil))),⟨zgv (us:=fun ν=>[]) (xs:=[.tmp 9,.tmp 14]) rfl rfl (plus_zn zo zo) zeq zfw (.cons upA_za.va (.cons upA_za.va .nil)) (fun ν=>(.cons (vq 4 rfl) (.cons (vq 9 rfl) .nil))) (fun _ _=>rfl) (fun ν=>zdw),⟨of_u fun ν=>ob_a rfl rfl (za7 (lz0 0 rfl) zb5),⟨of_u fun ν=>ob_v rfl rfl (za4 11 rfl zk trivial (lz0 0 rfl) (Sub.part 1 rfl rfl) zab),⟨of_u fun ν=>ob_a rfl rfl (za7 (lz0 1 rfl) zb5),⟨of_u fun ν=>ob_v rfl rfl (za4 13 rfl zk trivial (lz0 1 rfl) (Sub.part 1 rfl rfl) zab),⟨zgv (us:=fun ν=>[ν 10]) (xs:=[.tmp 17,.tmp 19]) rfl rfl (times_zn zo zo) zeq zfw (.cons upA_za.va (.cons upA_za.va .nil)) (fun ν=>(.cons (vq 12 rfl) (.cons (vq 14 rfl) .nil))) (fun _ _=>rfl) (fun ν=>(zi0 (zgy zeq) (vq 10 rfl) zdw)),⟨of_u fun ν=>ob_v rfl rfl (za5 (xs:=[.tmp 15,.tmp 20]) (lowestD_c zo zo (den_nz x y)) (.cons (vq 10 rfl) (.cons (vq 15 rfl) .nil))),⟨of_u fun ν=>zaf rfl rfl rfl (vq 16 rfl) zao (Eq.trans (b:=4) rfl rfl),trivial⟩⟩⟩⟩⟩⟩⟩⟩⟩⟩⟩⟩⟩⟩⟩⟩⟩⟩ ⟨(fun ν ν' h=>rfl),⟨(fun ν ν' h=>rfl),⟨(fun ν ν' h=>rfl),⟨(fun ν ν' h=>rfl),⟨(fun ν ν' h=>rfl),⟨(fun ν ν' h=>rfl),⟨(fun ν ν' h=>rfl),⟨(fun ν ν' h=>rfl),⟨(fun ν ν' h=>rfl),⟨(fun ν ν' h=>rfl),⟨(fun ν ν' h=>by first | rfl | simp only [h 10 rfl]),⟨(fun ν ν' h=>rfl),⟨(fun ν ν' h=>rfl),⟨(fun ν ν' h=>rfl),⟨(fun ν ν' h=>rfl),⟨(fun ν ν' h=>by first | rfl | simp only [h 10 rfl,h 15 rfl]),⟨(fun ν ν' h=>by first | rfl | simp only [h 10 rfl,h 15 rfl]),⟨(fun ν ν' h=>by first | rfl | simp only [h 10 rfl,h 15 rfl]),trivial⟩⟩⟩⟩⟩⟩⟩⟩⟩⟩⟩⟩⟩⟩⟩⟩⟩⟩ ⟨trivial,⟨trivial,⟨(fun ν ν' h=>by first | rfl | simp only [h 10 rfl,h 15 rfl]),trivial⟩⟩⟩ zk zk (fun ν=>by kernel_rfl) (fun ν=>by kernel_rfl) (fun ν1 a w hst=>?_)
 have hst:St B w0 22 [] [⟨2,37,ptrH,_⟩,⟨3,37,ptrH,_⟩,⟨4,37,ptrH,_⟩] a w:=hst
 refine za0 ?_
 refine wp_ret ?_
 refine zai ?_ (zam rfl hst (zm 2 rfl) zao)
 exact zcn (zbv (congrArg (fun z=>(QD _ z).va) (rat_add x y))) (qd_mono zo).va
theorem qd_cp {u v:Value}{c d k:Nat}{x:Rat}(hc:c≤k)(hd:d≤k):WkA (cat [PinA u ((ZN c (x.num+0)).and (SepAll [] u)),PinA v ((ZN d ((x.den:Int)+0)).and (SepAll [u] v))]) (QD k x):=by
 rw [Int.add_zero,Int.add_zero]
 exact qd_pins hc hd
theorem copyD_r {c:Nat}{x:Rat}(hc:c≤137438953472):Cn Tryz.prog 81 [Qs c x] ((QD (max c 2+1) x).va):=by
 refine Cn.intro Tryz.func81 rfl zk nq (fun B w0 a hst=>?_)
 have hst:St B w0 14 [(0,Qs c x)] [] a w0.w:=hst
 refine wp_seq ?_
 refine gl (sts:=[]) (news:=[⟨1,37,ptrH,some 0,_,none⟩,⟨2,37,ptrH,some 1,_,none⟩]) (sp:=[.alc 0,.alc 1]) [] hst (oc (zan rfl rfl rfl (gq 0 rfl)) (oc (zap rfl rfl rfl (Str.zero zb9)) o0)) (fun a w hst=>?_)
 have hst:St B w0 14 [] [⟨1,37,ptrH,_⟩,⟨2,37,ptrH,_⟩] a w:=hst
 refine zt<|gl (sts:=[none,none]) (news:=[⟨3,35,ptrH,some 1,_,some (2,_)⟩]) (sp:=[.val 4 _,.alc 2,.sto 2]) [] hst (zv rfl (za5 (xs:=[.const (.int .i64 (0))]) (of_z zd zd) (.cons za3 .nil)) (oc (zap rfl rfl rfl (Str.zero zbs)) (oc (zaf rfl rfl rfl (vq 0 rfl) zab (Eq.trans (b:=2) rfl rfl)) o0))) (fun a w hst=>?_)
 have hst:St B w0 14 [] [⟨1,37,ptrH,_⟩,⟨2,37,ptrH,_⟩,⟨3,35,ptrH,_⟩] a w:=hst
 refine zt ?_
 refine go_drawV' [[],[0],[],[0,1,2],[],[4],[],[0,1,2,3,4,5,6],[0,1,2,3,4,5,6,7],[0,1,2,3,4,5,6,7,8]] (sts:=[none,some (9,fun ν=>_),none]) (news:=[]) (sp:=[(fun ν=>.adr 5 1 (.some 0) True),(fun ν=>.val 6 _),(fun ν=>.val 7 _),(fun ν=>.val 8 (PinA (ν 3) ((ZN (max c 2+1) (x.num+0)).and (SepAll [] (ν 3)))).va),(fun ν=>.adr 9 1 (.some 2) True),(fun ν=>.val 10 _),(fun ν=>.val 11 _),(fun ν=>.val 12 (PinA (ν 7) ((ZN (max c 2+1) ((x.den:Int)+0)).and (SepAll [ν 3] (ν 7)))).va),(fun ν=>.val 13 _),(fun ν=>.sto 1)]) [] za6 hst ⟨of_u fun ν=>ob_a rfl rfl (za7 (lz0 0 rfl) zbf),⟨of_u fun ν=>ob_v rfl rfl (za4 0 rfl zk trivial (lz0 0 rfl) (Sub.part 0 rfl rfl) zab),⟨of_u fun ν=>ob_v rfl rfl (zaq (lz0 2 rfl) zab),⟨zgv (us:=fun ν=>[]) (xs:=[.tmp 6,.tmp 7]) rfl rfl (plus_zn zo zo) zeq zfw (.cons upA_za.va (.cons upA_za.va .nil)) (fun ν=>(.cons (vq 1 rfl) (.cons (vq 2 rfl) .nil))) (fun _ _=>rfl) (fun ν=>zdw),⟨of_u fun ν=>ob_a rfl rfl (za7 (lz0 0 rfl) zb5),⟨of_u fun ν=>ob_v rfl rfl (za4 4 rfl zk trivial (lz0 0 rfl) (Sub.part 1 rfl rfl) zab),⟨of_u fun ν=>ob_v rfl rfl (zaq (lz0 2 rfl) zab),⟨zgv (us:=fun ν=>[ν 3]) (xs:=[.tmp 10,.tmp 11]) rfl rfl (plus_zn zo zo) zeq zfw (.cons upA_za.va (.cons upA_za.va .nil)) (fun ν=>(.cons (vq 5 rfl) (.cons (vq 6 rfl) .nil))) (fun _ _=>rfl) (fun ν=>(zi0 (zgy zeq) (vq 3 rfl) zdw)),⟨of_u fun ν=>ob_v rfl rfl (zbb (xs:=[(0,.tmp 8),(1,.tmp 12)]) (qs:=[(0,_),(1,_)]) zb9 (.cons ⟨rfl,(vq 3 rfl),rfl⟩ (.cons ⟨rfl,(vq 7 rfl),rfl⟩ .nil))),⟨of_u fun ν=>zaf rfl rfl rfl (vq 8 rfl) zao (Eq.trans (b:=4) rfl rfl),trivial⟩⟩⟩⟩⟩⟩⟩⟩⟩⟩ ⟨(fun ν ν' h=>rfl),⟨(fun ν ν' h=>rfl),⟨(fun ν ν' h=>rfl),⟨(fun ν ν' h=>by first | rfl | simp only [h 3 rfl]),⟨(fun ν ν' h=>rfl),⟨(fun ν ν' h=>rfl),⟨(fun ν ν' h=>rfl),⟨(fun ν ν' h=>by first | rfl | simp only [h 3 rfl,h 7 rfl]),⟨(fun ν ν' h=>by first | rfl | simp only [h 3 rfl,h 7 rfl]),⟨(fun ν ν' h=>by first | rfl | simp only [h 3 rfl,h 7 rfl]),trivial⟩⟩⟩⟩⟩⟩⟩⟩⟩⟩ ⟨trivial,⟨(fun ν ν' h=>by first | rfl | simp only [h 3 rfl,h 7 rfl]),⟨trivial,trivial⟩⟩⟩ zk zk (fun ν=>by kernel_rfl) (fun ν=>by kernel_rfl) (fun ν2 a w hst=>?_)
 have hst:St B w0 14 [] [⟨1,37,ptrH,_⟩,⟨2,37,ptrH,_⟩,⟨3,35,ptrH,_⟩] a w:=hst
 refine za0 ?_
 refine wp_ret ?_
 refine zai ?_ (zam rfl hst (zm 1 rfl) zao)
 exact (qd_cp zo zo).va
theorem copyD_q {c:Nat}{x:Rat}(hc:c≤137438953472):Cn Tryz.prog 81 [Qs c x] (QD c x).va :=
 Cn.know (c:=lz x.num≤c∧lz (x.den:Int)≤c) ex_qcopy (fun B w args ha=>by cases ha with | cons h1 _=>exact qs_le h1) fun h=>(copyD_r hc).wkp (qd_of h.1 h.2).va
end Go.Proofs.YtlpppkkggljdcaaGreat
namespace Go.Proofs.YtlpppkkggljdcaaGreat
open Go Go.RowKit
end Go.Proofs.YtlpppkkggljdcaaGreat
namespace Go.Proofs.YtlpppkkggljdcaaGreat
open Go Go.RowKit
open Go.ChangeShapes Go.WideShapes Go.ChangeAt
structure RGp where
 lo:RF
 hi:RF
 deriving DecidableEq
structure RLo where
 k:Int
 p:RGp
 q:RGp
 deriving DecidableEq
def GpA (x:RGp):As:=cat [RFA x.lo,RFA x.hi]
def LoA (x:RLo):As:=cat [NumA .u8 x.k,GpA x.p,GpA x.q]
abbrev gp0:RGp:=⟨rf0,rf0⟩
theorem gp0_p (B:Nat)(w:World):(GpA gp0).p B [.bool false,.slice none 0 0,.bool false,.slice none 0 0,.bool false,.slice none 0 0,.bool false,.slice none 0 0] w:=⟨[[.bool false,.slice none 0 0,.bool false,.slice none 0 0],[.bool false,.slice none 0 0,.bool false,.slice none 0 0]],rfl,.cons (zhv B w) (.cons (zhv B w) .nil)⟩
theorem zd0:Str Tryz.prog 39 [RFA rf0,RFA rf0] :=
 Str.of (z:=.agg #[.bool false,.slice none 0 0,.bool false,.slice none 0 0,.bool false,.slice none 0 0,.bool false,.slice none 0 0]) zk Tryz.underlying39 zk fun B w=>⟨[[.bool false,.slice none 0 0,.bool false,.slice none 0 0],[.bool false,.slice none 0 0,.bool false,.slice none 0 0]],rfl,.cons (zhv B w) (.cons (zhv B w) .nil)⟩
theorem zcw:Str Tryz.prog 41 [NumA .u8 0,GpA gp0,GpA gp0] :=
 Str.of (z:=.agg #[.int .u8 0,.bool false,.slice none 0 0,.bool false,.slice none 0 0,.bool false,.slice none 0 0,.bool false,.slice none 0 0,.bool false,.slice none 0 0,.bool false,.slice none 0 0,.bool false,.slice none 0 0,.bool false,.slice none 0 0]) zk Tryz.underlying41 zk fun B w=>⟨[[.int .u8 0],[.bool false,.slice none 0 0,.bool false,.slice none 0 0,.bool false,.slice none 0 0,.bool false,.slice none 0 0],[.bool false,.slice none 0 0,.bool false,.slice none 0 0,.bool false,.slice none 0 0,.bool false,.slice none 0 0]],rfl,.cons rfl (.cons (gp0_p B w) (.cons (gp0_p B w) .nil))⟩
theorem arr_gaps:Arr Tryz.prog 73 [GpA gp0,GpA gp0]:=by
 have hz:((Tryz.prog.info? 73).bind (·.zero))=some (.agg #[.bool false,.slice none 0 0,.bool false,.slice none 0 0,.bool false,.slice none 0 0,.bool false,.slice none 0 0,.bool false,.slice none 0 0,.bool false,.slice none 0 0,.bool false,.slice none 0 0,.bool false,.slice none 0 0]):=by kernel_rfl
 obtain ⟨it,e1,e2⟩:=Option.bind_eq_some_iff.1 hz
 have h:(Tryz.prog.info? 39).map (·.size)=some 8:=by kernel_rfl
 obtain ⟨ie,h1,h2⟩:∃ ie,Tryz.prog.info? 39=some ie∧ie.size=8:=by
  cases hi:Tryz.prog.info? 39 with
  | none=>rw [hi] at h; simp at h
  | some ie=>rw [hi] at h; exact ⟨ie,rfl,by simpa using h⟩
 refine ⟨it,_,2,39,ie,e1,e2,Tryz.underlying73,h1,?_,fun B w=>⟨[[.bool false,.slice none 0 0,.bool false,.slice none 0 0,.bool false,.slice none 0 0,.bool false,.slice none 0 0],[.bool false,.slice none 0 0,.bool false,.slice none 0 0,.bool false,.slice none 0 0,.bool false,.slice none 0 0]],rfl,.cons (gp0_p B w) (.cons (gp0_p B w) .nil)⟩⟩
 rw [h2]
 intro f hf
 match f,hf with
 | 0,_=>rfl
 | 1,_=>rfl
theorem upA_gp (x:RGp):UpA (GpA x) (GpA x):=zh9 (.cons (zij _) (.cons (zij _) .nil))
theorem zke (x:RLo):UpA (LoA x) (LoA x):=zh9 (.cons (zii _ _) (.cons (upA_gp _) (.cons (upA_gp _) .nil)))
section
variable {H:Type} {enc:TypeId × Value→H} {w:World} {base:Nat} {spare:Nat→Bool} {held:Bool} {fuel:Nat} {cs:List Value} {x:DataW H × List MemPlace}
theorem cat_two' {B:Nat}{cs:List Value}{w:World}{A0 A1:As}(h0:A0.p B ((cs.drop 0).take A0.n) w)(h1:A1.p B ((cs.drop A0.n).take A1.n) w)(hl:cs.length=A0.n+A1.n):(cat [A0,A1]).p B cs w :=
 cat_of (by simpa using hl) fun k A hk=>by
  match k,hk with
  | 0,hk=>simp at hk; subst hk; exact h0
  | 1,hk=>simp at hk; subst hk; simpa [offs] using h1
end
def mayG (x:RGp):Bool:=[x.lo,x.hi].all okX&&decide (cmQ (toQ x.lo) (toQ x.hi)≤0)
def ptF (x:RGp):Bool:=cmQ (toQ x.lo) (toQ x.hi)==0
def loF (x:RLo):Bool:=(mayG x.p&&mayG x.q)&&(chF [⟨x.k,x.p.lo,x.q.lo⟩,⟨x.k,x.p.hi,x.q.hi⟩]==0)
def gpL (g:RGp):Nat:=if ptF g then 0 else 1
def lsI (x:RLo)(i:Nat):Nat:=if i=0 then 0 else if i=1 then gpL x.p else gpL x.p+gpL x.q
def gAt (x:RLo)(i:Nat):RGp:=if i=0 then x.p else x.q
def manyF (xs:List RLo):Nat:=(xs.map fun x=>gpL x.p+gpL x.q).sum
def tchF (xs:List RLo):Int:=if xs.length>4096 then 4 else if xs.all loF then (if manyF xs>12 then 4 else 0) else 1
theorem cmp_x {x y:RF}(h:[x,y].all okX=true):Cn Tryz.prog 50 [(RFA x).va,(RFA y).va] (In (cmQ (toQ x) (toQ y))):=by
 simp only [List.all_cons,List.all_nil,Bool.and_true,Bool.and_eq_true] at h
 exact (cmp_q (c:=2048) (d:=2048) zd).wk (.cons (qa_x h.1 (Nat.le_refl _)).va (.cons (qa_x h.2 (Nat.le_refl _)).va .nil))
theorem zjv {g:RGp}(h:mayG g=true):[g.lo,g.hi].all okX=true:=by unfold mayG at h; rw [Bool.and_eq_true] at h; exact h.1
theorem lo_may {x:RLo}{i:Nat}(h:loF x=true):mayG (gAt x i)=true:=by
 unfold loF at h
 rw [Bool.and_eq_true,Bool.and_eq_true] at h
 unfold gAt
 split
 ·exact h.1.1
 ·exact h.1.2
theorem gs_at {x:RLo}{i:Nat}(h:i<2):[GpA x.p,GpA x.q][i]?=some (GpA (gAt x i)) :=
 match i,h with
 | 0,_=>rfl
 | 1,_=>rfl
theorem lsI_1 {x:RLo}{i:Nat}(hi:i<2)(h:(!ptF (gAt x i))=true):lsI x (i+1)=lsI x i+1:=by
 have h':ptF (gAt x i)=false:=by simpa using h
 match i,hi with
 | 0,_ => 
  have h0:ptF x.p=false:=h'
  simp [lsI,gpL,h0]
 | 1,_ =>
  have h0:ptF x.q=false:=h'
  simp [lsI,gpL,h0]
theorem lsI_0 {x:RLo}{i:Nat}(hi:i<2)(h:(!ptF (gAt x i))=false):lsI x (i+1)=lsI x i:=by
 have h':ptF (gAt x i)=true:=by simpa using h
 match i,hi with
 | 0,_ => 
  have h0:ptF x.p=true:=h'
  simp [lsI,gpL,h0]
 | 1,_ =>
  have h0:ptF x.q=true:=h'
  simp [lsI,gpL,h0]
theorem zj2 (g:RGp):gpL g≤1:=by unfold gpL; split <;> omega
theorem zj0 (x:RLo)(i:Nat):lsI x i≤2:=by
 have h1:=zj2 x.p
 have h2:=zj2 x.q
 unfold lsI
 split
 ·omega
 ·split <;> omega
theorem many_le (xs:List RLo):manyF xs≤2*xs.length:=by
 induction xs with
 | nil=>exact Nat.le_refl _
 | cons x xs ih =>
  have h1:=zj2 x.p
  have h2:=zj2 x.q
  have e:manyF (x::xs)=gpL x.p+gpL x.q+manyF xs:=by simp [manyF]
  rw [e,List.length_cons]
  omega
theorem many_nx {xs:List RLo}{j:Nat}(h:j<xs.length):manyF (xs.take (j+1))=manyF (xs.take j)+lsI xs[j] 2:=by
 rw [List.take_succ_eq_append_getElem h]
 unfold manyF
 rw [List.map_append,List.sum_append]
 simp [lsI]
theorem zdp (xs:List RLo)(j:Nat):manyF (xs.take j)≤2*xs.length:=Nat.le_trans (many_le _) (by rw [List.length_take]; omega)
theorem tch_bad {xs:List RLo}{j:Nat}(h4:¬ xs.length>4096)(hj:j<xs.length)(h:loF xs[j]=false):tchF xs=1:=by
 unfold tchF
 rw [if_neg h4,if_neg]
 intro hh
 rw [List.all_eq_true.1 hh _ (List.getElem_mem hj)] at h
 cases h
theorem lo_no1 {x:RLo}(h:((!mayG x.p) || (!mayG x.q))=true):loF x=false:=by
 unfold loF
 cases h1:mayG x.p <;> cases h2:mayG x.q <;> simp_all
theorem lo_no2 {x:RLo}(h:(chF [⟨x.k,x.p.lo,x.q.lo⟩,⟨x.k,x.p.hi,x.q.hi⟩] != 0)=true):loF x=false:=by
 unfold loF
 rw [show (chF [⟨x.k,x.p.lo,x.q.lo⟩,⟨x.k,x.p.hi,x.q.hi⟩]==0)=false from by simpa using h,Bool.and_false]
theorem lo_yes {x:RLo}(h1:((!mayG x.p) || (!mayG x.q))=false)(h2:(chF [⟨x.k,x.p.lo,x.q.lo⟩,⟨x.k,x.p.hi,x.q.hi⟩] != 0)=false):loF x=true:=by
 unfold loF
 simp only [Bool.or_eq_false_iff,Bool.not_eq_false'] at h1
 rw [h1.1,h1.2,show (chF [⟨x.k,x.p.lo,x.q.lo⟩,⟨x.k,x.p.hi,x.q.hi⟩]==0)=true from by simpa using h2]
 rfl
section
variable {P:Program} {R:Rg} {Q:Exit→Act→World→Prop} {B i:Nat} {w0:Bs}
theorem r_idxv {x y:Operand}{T E:TypeId}{k:Nat}{kd:IntKind}{l:List As}{A':As}(hx:Has R B w0 i x (cat l).va)(hA':A'.ag=true)(hS:P.underlying T=some (.array l.length E))(ht:Ty P E A'.n A'.ag)(hm:∀ A∈l,A.n=A'.n)(hy:Has R B w0 i y (NumA kd k).va)(hk:l[k]?=some A'):Wv P Q R B w0 i (.index T x y) A'.va :=
 zbk fun d T' ps af gd a w av=>by
  obtain ⟨cs,h1,hv⟩:=hx a w av
  obtain ⟨p1,l1⟩:=zhl h1 hk
  have hlt:k<l.length:=(List.getElem?_eq_some_iff.1 hk).1
  have ho:=zjo hm (k:=k) zo
  unfold offs at ho
  rw [ho] at p1 l1
  have hv':a.eval x=.agg cs.toArray:=hv
  have e:=zbj (hy a w av)
  have ha:(isAgg E).run P w=.ok true w:=by
   have:=ht.2
   rw [hA'] at this
   cases hu:P.underlying E with
   | none=>rw [hu] at this; simp at this
   | some u =>
    rw [hu] at this
    unfold isAgg
    simp only [Sem.run_bind,run_underlying hu,Result.andThen_ok]
    cases u <;> simp_all
  have hz:(sizeOf E).run P w=.ok A'.n w:=by
   have:=ht.1
   cases hi:P.info? E with
   | none=>rw [hi] at this; simp at this
   | some it=>rw [hi] at this; simp [sizeOf,typeInfo,hi]; simpa using this
  refine ⟨.agg (cs.toArray.extract (k*A'.n) (k*A'.n+A'.n)),w,?_,Grow.refl w,_,p1,?_⟩
  ·simp [execOp,hv',e,Instr.index,asIntOf,run_underlying hS,hlt,part,ha,hz]
  ·unfold shape
   rw [hA',if_pos rfl]
   congr 1
   apply Array.ext'
   simp
end
theorem point_c {g:RGp}(h:[g.lo,g.hi].all okX=true):Cn Tryz.prog 36 [(GpA g).va] (Bo (ptF g)):=by
 refine Cn.intro Tryz.func36 rfl zk nq (fun B w0 a hst=>?_)
 have hst:St B w0 9 [(0,(GpA g).va)] [] a w0.w:=hst
 refine wp_seq ?_
 refine gl (sts:=[]) (news:=[⟨1,39,ptrH,some 0,_,none⟩]) (sp:=[.alc 0,.val 2 _]) [.o 1] hst (oc (zan rfl rfl rfl (gq 0 rfl)) (zv rfl (za1 zba) o0)) (fun a w hst=>?_)
 have hst:St B w0 9 [(2,_)] [⟨1,39,ptrH,_⟩] a w:=hst
 refine zt<|gl (sts:=[none]) (news:=[]) (sp:=[.adr 3 1 (.some 0) True,.val 4 _,.adr 5 1 (.some 4) True,.val 6 _,.val 7 _,.val 8 _,.val 2 _]) [.o 6] hst (oc (ob_a rfl rfl (za7 (lz0 0 rfl) zbw)) (zv rfl (za4 0 rfl zk trivial (lz0 0 rfl) (Sub.part 0 rfl rfl) zao) (oc (ob_a rfl rfl (za7 (lz0 0 rfl) zby)) (zv rfl (za4 2 rfl zk trivial (lz0 0 rfl) (Sub.part 1 rfl rfl) zao) (zv rfl (za5 (xs:=[.tmp 4,.tmp 6]) (cmp_x h) (.cons (vq 1 rfl) (.cons (vq 3 rfl) .nil))) (zv rfl (zc2 (vq 4 rfl) za3) (zv rfl (za1 (vq 5 rfl)) o0))))))) (fun a w hst=>?_)
 have hst:St B w0 9 [(2,_)] [⟨1,39,ptrH,_⟩] a w:=hst
 refine za0 ?_
 refine wp_ret ?_
 refine zai ?_ (zaa rfl hst (zm 0 rfl))
 exact zb6
theorem tmay_c (g:RGp):Cn Tryz.prog 35 [(GpA g).va] (Bo (mayG g)):=by
 refine Cn.intro Tryz.func35 rfl zk nq (fun B w0 a hst=>?_)
 have hst:St B w0 17 [(0,(GpA g).va)] [] a w0.w:=hst
 refine wp_seq ?_
 refine gl (sts:=[]) (news:=[⟨1,39,ptrH,some 0,_,none⟩]) (sp:=[.alc 0,.val 2 _]) [.o 1] hst (oc (zan rfl rfl rfl (gq 0 rfl)) (zv rfl (za1 zba) o0)) (fun a w hst=>?_)
 have hst:St B w0 17 [(2,_)] [⟨1,39,ptrH,_⟩] a w:=hst
 refine zt<|gl (sts:=[none]) (news:=[]) (sp:=[.adr 3 1 (.some 0) True,.val 4 _,.adr 5 1 (.some 4) True,.val 6 _,.val 7 _,.val 8 _,.val 9 _,.adr 10 1 (.some 0) (_=true),.val 11 (Wh (_=true) _),.adr 12 1 (.some 4) (_=true),.val 13 (Wh (_=true) _),.val 14 (Wh (_=true) _),.val 15 (Wh (_=true) _),.val 16 _,.val 2 _]) [.o 14] hst (oc (ob_a rfl rfl (za7 (lz0 0 rfl) zbw)) (zv rfl (za4 0 rfl zk trivial (lz0 0 rfl) (Sub.part 0 rfl rfl) zao) (oc (ob_a rfl rfl (za7 (lz0 0 rfl) zby)) (zv rfl (za4 2 rfl zk trivial (lz0 0 rfl) (Sub.part 1 rfl rfl) zao) (zv rfl (zcx (D:=[U32]) (l:=[_,_]) (xs:=[.tmp 4,.tmp 6]) (zfq zk) zg4 zk (n_ok zk) nq nq nq (.cons (vq 1 rfl) (.cons (vq 3 rfl) .nil)) rfl rfl) (zv rfl (za5 (xs:=[.tmp 7]) (checks_c [g.lo,g.hi] nq) (.cons (vq 4 rfl) .nil)) (zv rfl (za2 (vq 5 rfl)) (oc (zbz rfl rfl rfl (vq 6 rfl) nq (fun hg=>za7 (lz0 0 rfl) zbw)) (oc (zal rfl rfl rfl (vq 6 rfl) nq (fun hg=>za4 7 rfl zk hg (lz0 0 rfl) (Sub.part 0 rfl rfl) zao)) (oc (zbz rfl rfl rfl (vq 6 rfl) nq (fun hg=>za7 (lz0 0 rfl) zby)) (oc (zal rfl rfl rfl (vq 6 rfl) nq (fun hg=>za4 9 rfl zk hg (lz0 0 rfl) (Sub.part 1 rfl rfl) zao)) (oc (zal rfl rfl rfl (vq 6 rfl) nq (fun hg=>za5 (xs:=[.tmp 11,.tmp 13]) (cmp_x hg) (.cons (zae (vq 8 rfl) hg) (.cons (zae (vq 10 rfl) hg) .nil)))) (oc (zal rfl rfl rfl (vq 6 rfl) nq (fun hg=>zkt (zae (vq 11 rfl) hg) za3)) (zv rfl (zcj (vq 6 rfl) (vq 12 rfl)) (zv rfl (za1 (vq 13 rfl)) o0))))))))))))))) (fun a w hst=>?_)
 have hst:St B w0 17 [(2,_)] [⟨1,39,ptrH,_⟩] a w:=hst
 refine za0 ?_
 refine wp_ret ?_
 refine zai ?_ (zaa rfl hst (zm 0 rfl))
 exact zb6
set_option maxHeartbeats 1000000 in
theorem zfb (xs:List RLo):Cn Tryz.prog 10 [(SlA 41 [U32] (xs.map LoA)).va] (In (tchF xs)):=by
 refine Cn.introW Tryz.func10 rfl zk nq (.cons (zjb (fun A hA=>by obtain ⟨x,_,rfl⟩:=List.mem_map.1 hA; exact zke x)).va .nil) (zdy _ _).va (fun B w0 a hB0 hst=>?_)
 have hst:St B w0 67 [(0,(SlO 41 [U32] (xs.map LoA) True).va)] [] a w0.w:=hst
 have hl:=slO_len (hst.vals (0,(SlO 41 [U32] (xs.map LoA) True).va) (zm 0 rfl))
 rw [List.length_map] at hl
 refine wp_seq ?_
 refine gl (sts:=[]) (news:=[]) (sp:=[.val 2 _]) [.g 0,.o 0] hst (zv rfl (za1 za3) o0) (fun a w hst=>?_)
 have hst:St B w0 67 [(0,_),(2,_)] [] a w:=hst
 refine zt ?_
 refine wp_seq ?_
 refine gl (sts:=[]) (news:=[]) (sp:=[.val 9 _,.val 10 _,.val 11 _]) [.g 0,.g 1,.o 2] hst (zv rfl (za2 (gq 0 rfl)) (zv rfl (zd4 Tryz.underlying22 (zca (zas (vq 0 rfl)))) (zv rfl (zdo (vq 1 rfl) za3) o0))) (fun a w hst=>?_)
 have hst:St B w0 67 [(0,_),(2,_),(11,_)] [] a w:=hst
 refine za0 ?_
 refine za8 hst (zm 2 rfl) (fun hb0=>?_) (fun hb0=>?_)
 ·have hbig:xs.length>4096:=by rw [List.length_map] at hb0; have:=of_decide_eq_true hb0; omega
  refine wp_seq ?_
  refine gl (sts:=[]) (news:=[]) (sp:=[.val 2 _]) [.g 0,.o 0] hst (zv rfl (za1 za3) o0) (fun a w hst=>?_)
  have hst:St B w0 67 [(0,_),(2,_)] [] a w:=hst
  refine za0 ?_
  refine wp_ret ?_
  refine zad ?_
  refine zai ?_ (zaa rfl hst (zm 1 rfl))
  rw [tchF,if_pos hbig]; exact zb6
 ·have hbig:¬ xs.length>4096:=by rw [List.length_map] at hb0; have:=of_decide_eq_false hb0; omega
  refine wp_skip ?_
  refine zt<|gl (sts:=[]) (news:=[]) (sp:=[.val 3 _]) [.g 0,.g 1,.o 0] hst (zv rfl (za1 za3) o0) (fun a w hst=>?_)
  have hst:St B w0 67 [(0,_),(2,_),(3,_)] [] a w:=hst
  refine zt ?_
  refine wp_seq ?_
  refine gl (sts:=[]) (news:=[]) (sp:=[.val 12 _,.val 13 _,.val 14 _]) [.g 1,.g 2,.o 0,.o 1,.o 2] hst (zv rfl (za2 (gq 0 rfl)) (zv rfl (zd4 Tryz.underlying22 (zca (zas (vq 0 rfl)))) (zv rfl (za2 za3) o0))) (fun a w hst=>?_)
  have hst:St B w0 67 [(2,_),(3,_),(12,_),(13,_),(14,_)] [] a w:=hst
  refine za0 ?_
  refine wp_block ?_
  have hst:=St.sel hst [1,2,3,4]
  refine wp_loop_ghost (fun n a w=>∃ j:Nat,(n+j=xs.length∧(xs.take j).all loF=true)∧St B w0 67 [(3,In ((manyF (xs.take j):Nat):Int)),(12,(SlO 41 [U32] (xs.map LoA) True).va),(13,In (xs.length:Nat)),(14,In (j:Nat))] [] a w) (xs.length) ?_ ?_
  ·exact ⟨0,⟨by omega,rfl⟩,by rw [List.length_map] at hst; exact hst⟩
  intro n a w hI
  obtain ⟨j,⟨hn,hno⟩,hst⟩:=hI; obtain ⟨n1,hn1⟩:∃ n1,n1=n:=⟨n,rfl⟩
  refine wp_seq ?_
  refine gl (sts:=[]) (news:=[]) (sp:=[.val 15 _]) [.g 0,.g 1,.g 2,.g 3,.o 0] hst (zv rfl (zbt (gq 3 rfl) (gq 2 rfl)) o0) (fun a w hst=>?_)
  have hst:St B w0 67 [(3,_),(12,_),(13,_),(14,_),(15,_)] [] a w:=hst
  refine zt ?_
  refine za8 hst (zm 4 rfl) (fun hb1=>?_) (fun hb1=>?_)
  ·have hj:j<xs.length:=by have:=of_decide_eq_true hb1; omega
   refine wp_skip ?_
   refine zt ?_
   refine wp_block ?_
   refine wp_seq ?_
   refine gl (sts:=[]) (news:=[⟨5,41,ptrH,some 2,_,some (3,_)⟩]) (sp:=[.val 16 _,.val 17 _,.alc 0,.sto 0]) [.g 0,.g 1,.g 2,.g 3] hst (zv rfl (ze5 zeu (zf1 fun _=>rfl) (zca (zas (gq 1 rfl))) (gq 3 rfl) (zdg hj)) (zv rfl (zav (vq 0 rfl) zg2) (oc (zap rfl rfl rfl (Str.zero zcw)) (oc (zaf rfl rfl rfl (vq 1 rfl) zg2 (Eq.trans (b:=17) rfl rfl)) o0)))) (fun a w hst=>?_)
   have hst:St B w0 67 [(3,_),(12,_),(13,_),(14,_)] [⟨5,41,ptrH,_⟩] a w:=hst
   refine zt ?_
   refine wp_seq ?_
   refine gl (sts:=[none]) (news:=[]) (sp:=[.adr 18 5 (.some 1) True,.val 19 _,.val 20 _,.val 21 _,.val 22 _,.adr 23 5 (.some 9) (_=false),.val 24 (Wh (_=false) _),.val 25 (Wh (_=false) _),.val 26 (Wh (_=false) _),.val 27 _]) [.g 0,.g 1,.g 2,.g 3,.o 9] hst (oc (ob_a rfl rfl (za7 (lz0 0 rfl) zc5)) (zv rfl (za4 0 rfl zk trivial (lz0 0 rfl) (Sub.part 1 rfl rfl) zc6) (zv rfl (za5 (xs:=[.tmp 19]) (tmay_c _) (.cons (vq 1 rfl) .nil)) (zv rfl (zev (vq 2 rfl)) (zv rfl (za2 (vq 3 rfl)) (oc (zbz rfl rfl rfl (vq 4 rfl) nq (fun hg=>za7 (lz0 0 rfl) zcb)) (oc (zal rfl rfl rfl (vq 4 rfl) nq (fun hg=>za4 5 rfl zk hg (lz0 0 rfl) (Sub.part 2 rfl rfl) zc6)) (oc (zal rfl rfl rfl (vq 4 rfl) nq (fun hg=>za5 (xs:=[.tmp 24]) (tmay_c _) (.cons (zae (vq 6 rfl) hg) .nil))) (oc (zal rfl rfl rfl (vq 4 rfl) nq (fun hg=>zev (zae (vq 7 rfl) hg))) (zv rfl (r_or (vq 4 rfl) (vq 8 rfl)) o0)))))))))) (fun a w hst=>?_)
   have hst:St B w0 67 [(3,_),(12,_),(13,_),(14,_),(27,_)] [⟨5,41,ptrH,_⟩] a w:=hst
   refine za0 ?_
   refine za8 hst (zm 4 rfl) (fun hb2=>?_) (fun hb2=>?_)
   ·refine wp_seq ?_
    refine gl (sts:=[none]) (news:=[]) (sp:=[.val 2 _]) [.g 0,.g 1,.g 2,.g 3,.o 0] hst (zv rfl (za1 za3) o0) (fun a w hst=>?_)
    have hst:St B w0 67 [(3,_),(12,_),(13,_),(14,_),(2,_)] [⟨5,41,ptrH,_⟩] a w:=hst
    refine za0 ?_
    refine wp_ret ?_
    refine zad ?_
    refine zb3 ?_
    refine zad ?_
    refine zad ?_
    refine zb3 ?_
    refine zad ?_
    refine zai ?_ (zaa rfl hst (zm 4 rfl))
    rw [tch_bad hbig hj (lo_no1 hb2)]; exact zb6
   ·refine wp_skip ?_
    refine zt<|gl (sts:=[none]) (news:=[]) (sp:=[.adr 28 5 (.some 0) True,.val 29 _,.adr 30 5 (.some 1) True,.adr 31 5 (.some (1+0)) True,.val 32 _,.adr 33 5 (.some 9) True,.adr 34 5 (.some (9+0)) True,.val 35 _,.val 36 _,.adr 37 5 (.some 0) True,.val 38 _,.adr 39 5 (.some 1) True,.adr 40 5 (.some (1+4)) True,.val 41 _,.adr 42 5 (.some 9) True,.adr 43 5 (.some (9+4)) True,.val 44 _,.val 45 _,.val 46 _,.val 6 _]) [.g 0,.g 1,.g 2,.g 3,.o 19] hst (oc (ob_a rfl rfl (za7 (lz0 0 rfl) zcz)) (zv rfl (za4 0 rfl zk trivial (lz0 0 rfl) (Sub.part 0 rfl rfl) zeb) (oc (ob_a rfl rfl (za7 (lz0 0 rfl) zc5)) (oc (ob_a rfl rfl (zet 2 rfl zk trivial (lz0 0 rfl) zbw)) (zv rfl (za4 3 rfl zk trivial (lz0 0 rfl) (Sub.trans (Sub.part 1 rfl rfl) (Sub.part 0 rfl rfl) rfl) zao) (oc (ob_a rfl rfl (za7 (lz0 0 rfl) zcb)) (oc (ob_a rfl rfl (zet 5 rfl zk trivial (lz0 0 rfl) zbw)) (zv rfl (za4 6 rfl zk trivial (lz0 0 rfl) (Sub.trans (Sub.part 2 rfl rfl) (Sub.part 0 rfl rfl) rfl) zao) (zv rfl (zbb (xs:=[(0,.tmp 29),(1,.tmp 32),(2,.tmp 35)]) (qs:=[(0,_),(1,_),(2,_)]) zd8 (.cons ⟨rfl,(vq 1 rfl),rfl⟩ (.cons ⟨rfl,(vq 4 rfl),rfl⟩ (.cons ⟨rfl,(vq 7 rfl),rfl⟩ .nil)))) (oc (ob_a rfl rfl (za7 (lz0 0 rfl) zcz)) (zv rfl (za4 9 rfl zk trivial (lz0 0 rfl) (Sub.part 0 rfl rfl) zeb) (oc (ob_a rfl rfl (za7 (lz0 0 rfl) zc5)) (oc (ob_a rfl rfl (zet 11 rfl zk trivial (lz0 0 rfl) zby)) (zv rfl (za4 12 rfl zk trivial (lz0 0 rfl) (Sub.trans (Sub.part 1 rfl rfl) (Sub.part 1 rfl rfl) rfl) zao) (oc (ob_a rfl rfl (za7 (lz0 0 rfl) zcb)) (oc (ob_a rfl rfl (zet 14 rfl zk trivial (lz0 0 rfl) zby)) (zv rfl (za4 15 rfl zk trivial (lz0 0 rfl) (Sub.trans (Sub.part 2 rfl rfl) (Sub.part 1 rfl rfl) rfl) zao) (zv rfl (zbb (xs:=[(0,.tmp 38),(1,.tmp 41),(2,.tmp 44)]) (qs:=[(0,_),(1,_),(2,_)]) zd8 (.cons ⟨rfl,(vq 10 rfl),rfl⟩ (.cons ⟨rfl,(vq 13 rfl),rfl⟩ (.cons ⟨rfl,(vq 16 rfl),rfl⟩ .nil)))) (zv rfl (zcx (D:=[U32]) (l:=[_,_]) (xs:=[.tmp 36,.tmp 45]) (zfq zk) sl_51 zk (n_ok zk) nq nq nq (.cons (vq 8 rfl) (.cons (vq 17 rfl) .nil)) rfl rfl) (zv rfl (za1 (vq 18 rfl)) o0)))))))))))))))))))) (fun a w hst=>?_)
    have hst:St B w0 67 [(3,_),(12,_),(13,_),(14,_),(6,_)] [⟨5,41,ptrH,_⟩] a w:=hst
    refine zt ?_
    refine wp_seq ?_
    refine gl (sts:=[none]) (news:=[]) (sp:=[.val 47 _,.val 48 _,.val 49 _]) [.g 0,.g 1,.g 2,.g 3,.o 2] hst (zv rfl (za2 (gq 4 rfl)) (zv rfl (za5 (xs:=[.tmp 47]) (benCheck_c [⟨_,_,_⟩,⟨_,_,_⟩]) (.cons (vq 0 rfl) .nil)) (zv rfl (zdh (vq 1 rfl) za3) o0))) (fun a w hst=>?_)
    have hst:St B w0 67 [(3,_),(12,_),(13,_),(14,_),(49,_)] [⟨5,41,ptrH,_⟩] a w:=hst
    refine za0 ?_
    refine za8 hst (zm 4 rfl) (fun hb3=>?_) (fun hb3=>?_)
    ·refine wp_seq ?_
     refine gl (sts:=[none]) (news:=[]) (sp:=[.val 2 _]) [.g 0,.g 1,.g 2,.g 3,.o 0] hst (zv rfl (za1 za3) o0) (fun a w hst=>?_)
     have hst:St B w0 67 [(3,_),(12,_),(13,_),(14,_),(2,_)] [⟨5,41,ptrH,_⟩] a w:=hst
     refine za0 ?_
     refine wp_ret ?_
     refine zad ?_
     refine zb3 ?_
     refine zad ?_
     refine zad ?_
     refine zb3 ?_
     refine zad ?_
     refine zai ?_ (zaa rfl hst (zm 4 rfl))
     rw [tch_bad hbig hj (lo_no2 hb3)]; exact zb6
    ·have hlo:loF xs[j]=true:=lo_yes hb2 hb3
     refine wp_skip ?_
     refine zt<|gl (sts:=[none]) (news:=[]) (sp:=[.adr 50 5 (.some 1) True,.val 51 _,.adr 52 5 (.some 9) True,.val 53 _,.val 54 _,.val 55 _]) [.g 0,.g 1,.g 2,.g 3,.o 4,.o 5] hst (oc (ob_a rfl rfl (za7 (lz0 0 rfl) zc5)) (zv rfl (za4 0 rfl zk trivial (lz0 0 rfl) (Sub.part 1 rfl rfl) zc6) (oc (ob_a rfl rfl (za7 (lz0 0 rfl) zcb)) (zv rfl (za4 2 rfl zk trivial (lz0 0 rfl) (Sub.part 2 rfl rfl) zc6) (zv rfl (zef (xs:=[(0,.tmp 51),(1,.tmp 53)]) (qs:=[(0,_),(1,_)]) arr_gaps (.cons ⟨rfl,(vq 1 rfl),rfl⟩ (.cons ⟨rfl,(vq 3 rfl),rfl⟩ .nil))) (zv rfl (za2 za3) o0)))))) (fun a w hst=>?_)
     have hst:St B w0 67 [(3,_),(12,_),(13,_),(14,_),(54,_),(55,_)] [⟨5,41,ptrH,_⟩] a w:=hst
     refine za0 ?_
     refine wp_block ?_
     have hst:=St.sel hst [0,1,2,3,4,5]
     have hst:=St.selL hst []
     refine wp_loop_ghost (fun n a w=>∃ i:Nat,(n+i=2)∧St B w0 67 [(3,In ((manyF (xs.take j)+lsI xs[j] i:Nat):Int)),(12,(SlO 41 [U32] (xs.map LoA) True).va),(13,In (xs.length:Nat)),(14,In (j:Nat)),(54,(cat [GpA xs[j].p,GpA xs[j].q]).va),(55,In (i:Nat))] [] a w) (2) ?_ ?_
     ·exact ⟨0,rfl,hst⟩
     intro n a w hI
     obtain ⟨i,hn2,hst⟩:=hI
     refine wp_seq ?_
     refine gl (sts:=[]) (news:=[]) (sp:=[.val 56 _]) [.g 0,.g 1,.g 2,.g 3,.g 4,.g 5,.o 0] hst (zv rfl (zbt (gq 5 rfl) za3) o0) (fun a w hst=>?_)
     have hst:St B w0 67 [(3,_),(12,_),(13,_),(14,_),(54,_),(55,_),(56,_)] [] a w:=hst
     refine zt ?_
     refine za8 hst (zm 6 rfl) (fun hb4=>?_) (fun hb4=>?_)
     ·have hi:i<2:=by have:=of_decide_eq_true hb4; omega
      refine wp_skip ?_
      refine zt ?_
      refine wp_block ?_
      refine wp_seq ?_
      refine gl (sts:=[]) (news:=[⟨8,39,ptrH,some 1,_,some (2,_)⟩]) (sp:=[.val 57 _,.alc 0,.sto 0]) [.g 0,.g 1,.g 2,.g 3,.g 4,.g 5] hst (zv rfl (r_idxv (gq 4 rfl) rfl Tryz.underlying73 zc6 (n_ok zk) (gq 5 rfl) (gs_at hi)) (oc (zap rfl rfl rfl (Str.zero zd0)) (oc (zaf rfl rfl rfl (vq 0 rfl) zc6 (Eq.trans (b:=8) rfl rfl)) o0))) (fun a w hst=>?_)
      have hst:St B w0 67 [(3,_),(12,_),(13,_),(14,_),(54,_),(55,_)] [⟨8,39,ptrH,_⟩] a w:=hst
      refine zt<|gl (sts:=[none]) (news:=[]) (sp:=[.val 58 _,.val 59 _,.val 60 _]) [.g 0,.g 1,.g 2,.g 3,.g 4,.g 5,.o 2] hst (zv rfl (zaq (lz0 0 rfl) zc6) (zv rfl (za5 (xs:=[.tmp 58]) (point_c (zjv (lo_may hlo))) (.cons (vq 0 rfl) .nil)) (zv rfl (zev (vq 1 rfl)) o0))) (fun a w hst=>?_)
      have hst:St B w0 67 [(3,_),(12,_),(13,_),(14,_),(54,_),(55,_),(60,_)] [⟨8,39,ptrH,_⟩] a w:=hst
      refine za0 ?_
      refine zc3 (fun a w =>  St B w0 67 [(3,In ((manyF (xs.take j)+lsI xs[j] (i+1):Nat):Int)),(12,(SlO 41 [U32] (xs.map LoA) True).va),(13,In (xs.length:Nat)),(14,In (j:Nat)),(54,(cat [GpA xs[j].p,GpA xs[j].q]).va),(55,In (i:Nat))] [⟨8,39,ptrH,GpA (gAt xs[j] i)⟩] a w) hst (zm 6 rfl) (fun hb5=>?_) (fun hb5=>?_) (fun a w hst=>?_)
      ·refine gl (sts:=[none]) (news:=[]) (sp:=[.val 61 _,.val 62 _,.val 3 _]) [.g 1,.g 2,.g 3,.g 4,.g 5,.o 2] hst (zv rfl (za2 (gq 0 rfl)) (zv rfl (zb7 (vq 0 rfl) za3 ((wi64 (by have:=zdp xs j; have:=zj0 xs[j] i; omega) (by have:=zdp xs j; have:=zj0 xs[j] i; omega)).trans (by omega:(_:Int)=((manyF (xs.take j)+(lsI xs[j] i+1):Nat):Int)))) (zv rfl (za1 (vq 1 rfl)) o0))) (fun a w hst=>?_)
       have hst:St B w0 67 [(12,_),(13,_),(14,_),(54,_),(55,_),(3,_)] [⟨8,39,ptrH,_⟩] a w:=hst
       refine za0 ?_
       have hst:=St.sel hst [5,0,1,2,3,4]
       have hm:=zdp xs j
       have hle:=zj0 xs[j] i
       rw [lsI_1 hi hb5]
       exact hst
      ·refine wp_skip ?_
       refine za0 ?_
       have hst:=St.sel hst [0,1,2,3,4,5]
       rw [lsI_0 hi hb5]
       exact hst
      refine zaj ?_
      refine za0 ?_
      refine gl (sts:=[none]) (news:=[]) (sp:=[.val 63 _,.val 55 _]) [.g 0,.g 1,.g 2,.g 3,.g 4,.o 1] hst (zv rfl (zb7 (gq 5 rfl) za3 ((wi64 zo zo).trans (by omega:(_:Int)=((i+1:Nat):Int)))) (zv rfl (za2 (vq 0 rfl)) o0)) (fun a w hst=>?_)
      have hst:St B w0 67 [(3,_),(12,_),(13,_),(14,_),(54,_),(55,_)] [⟨8,39,ptrH,_⟩] a w:=hst
      refine za0 ?_
      have hst:=St.sel hst [0,1,2,3,4,5]
      have hst:=St.selL hst []
      exact ⟨n-1,by omega,i+1,by omega,hst⟩
     ·obtain rfl:i=2:=by have:=of_decide_eq_false hb4; omega
      refine wp_exit ?_
      refine zac ?_
      refine zac ?_
      refine zay ?_
      refine zaj ?_
      refine za0 ?_
      refine gl (sts:=[]) (news:=[]) (sp:=[.val 64 _,.val 14 _]) [.g 0,.g 1,.g 2,.o 1] hst (zv rfl (zb7 (gq 3 rfl) za3 ((wi64 zo zo).trans (by omega:(_:Int)=((j+1:Nat):Int)))) (zv rfl (za2 (vq 0 rfl)) o0)) (fun a w hst=>?_)
      have hst:St B w0 67 [(3,_),(12,_),(13,_),(14,_)] [] a w:=hst
      refine za0 ?_
      have hst:=St.sel hst [0,1,2,3]
      rw [← many_nx hj] at hst
      exact ⟨n1-1,by omega,j+1,⟨by omega,all_nx hj hno hlo⟩,hst⟩
  ·obtain rfl:j=xs.length:=by have:=of_decide_eq_false hb1; omega
   refine wp_exit ?_
   refine zac ?_
   refine zac ?_
   refine zay ?_
   refine zt ?_
   refine wp_seq ?_
   refine gl (sts:=[]) (news:=[]) (sp:=[.val 65 _,.val 66 _]) [.o 1] hst (zv rfl (za2 (gq 0 rfl)) (zv rfl (zdo (vq 0 rfl) za3) o0)) (fun a w hst=>?_)
   have hst:St B w0 67 [(66,_)] [] a w:=hst
   refine za0 ?_
   refine za8 hst (zm 0 rfl) (fun hb6=>?_) (fun hb6=>?_)
   ·have hm:manyF xs>12:=by rw [List.take_length] at hb6; have:=of_decide_eq_true hb6; omega
    refine wp_seq ?_
    refine gl (sts:=[]) (news:=[]) (sp:=[.val 2 _]) [.o 0] hst (zv rfl (za1 za3) o0) (fun a w hst=>?_)
    have hst:St B w0 67 [(2,_)] [] a w:=hst
    refine za0 ?_
    refine wp_ret ?_
    refine zad ?_
    refine zai ?_ (zaa rfl hst (zm 0 rfl))
    rw [List.take_length] at hno; rw [tchF,if_neg hbig,if_pos hno,if_pos hm]; exact zb6
   ·have hm:¬ manyF xs>12:=by rw [List.take_length] at hb6; have:=of_decide_eq_false hb6; omega
    refine wp_skip ?_
    refine zt<|gl (sts:=[]) (news:=[]) (sp:=[.val 2 _]) [.o 0] hst (zv rfl (za1 za3) o0) (fun a w hst=>?_)
    have hst:St B w0 67 [(2,_)] [] a w:=hst
    refine za0 ?_
    refine wp_ret ?_
    refine zai ?_ (zaa rfl hst (zm 0 rfl))
    rw [List.take_length] at hno; rw [tchF,if_neg hbig,if_pos hno,if_neg hm]; exact zb6
end Go.Proofs.YtlpppkkggljdcaaGreat
