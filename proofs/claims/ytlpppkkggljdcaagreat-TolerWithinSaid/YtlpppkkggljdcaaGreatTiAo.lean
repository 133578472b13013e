import Derived.Test.YtlpppkkggljdcaaGreatTiAa
import Derived.Test.YtlpppkkggljdcaaGreatTiAc
import Derived.Test.YtlpppkkggljdcaaGreatTiAm
import Derived.Test.YtlpppkkggljdcaaGreatTiAn
set_option linter.unusedVariables false
set_option linter.unusedSimpArgs false
set_option linter.unusedSectionVars false
set_option maxRecDepth 100000
namespace Go.Proofs.YtlpppkkggljdcaaGreat
open Go Go.RowKit
theorem zkx {u v:Value}{c d k:Nat}{q:Rat}(hc:c≤k)(hd:d≤k):WkA (cat [PinA u ((ZN c q.num).and (SepAll [] u)),PinA v ((ZN d (q.den:Int)).and (SepAll [u] v))]) (QD k q) :=
 (dis_pins (l:=[(u,ZN c q.num),(v,ZN d (q.den:Int))]) (fun x hx=>by
  simp at hx
  rcases hx with rfl | rfl <;> exact nod_zn)).trans (zjb (zc7 (.cons (zig hc) (.cons (zig hd) .nil))))
theorem qd_of {k c:Nat}{q:Rat}(h1:lz q.num≤c)(h2:lz (q.den:Int)≤c):WkA (QD k q) (QD c q):=zjb (zc7 (.cons ⟨rfl,rfl,fun _ _ _ hp=>⟨h1,hp.2⟩⟩ (.cons ⟨rfl,rfl,fun _ _ _ hp=>⟨h2,hp.2⟩⟩ .nil)))
theorem lowestD_c {u0 v0:Value}{c d:Nat}{p q:Int}(hc:c≤549755813888)(hd:d≤549755813888)(hq:q≠0):Cn Tryz.prog 82 [(PinA u0 ((ZN c p).and (SepAll [] u0))).va,(PinA v0 ((ZN d q).and (SepAll [u0] v0))).va] ((QD (max c d) (Rat.divInt p q)).va):=by
 have hg0:0<Int.gcd p q:=Int.gcd_pos_of_ne_zero_right p hq
 obtain ⟨hn1,hn2⟩:=zl3 (p:=p) hq
 refine Cn.intro Tryz.func82 rfl zk nq (fun B w0 a hst=>?_)
 have hst:St B w0 35 [(0,(PinA u0 ((ZN c p).and (SepAll [] u0))).va),(1,(PinA v0 ((ZN d q).and (SepAll [u0] v0))).va)] [] a w0.w:=hst
 refine wp_seq ?_
 refine gl (sts:=[]) (news:=[⟨2,35,ptrH,some 0,_,none⟩,⟨3,35,ptrH,some 1,_,none⟩,⟨4,37,ptrH,some 2,_,none⟩]) (sp:=[.alc 0,.alc 1,.alc 2]) [] hst (oc (zak rfl rfl rfl (gq 0 rfl)) (oc (zak rfl rfl rfl (gq 1 rfl)) (oc (zag rfl rfl rfl (Str.zero zam)) o0))) (fun a w hst=>?_)
 have hst:St B w0 35 [] [⟨2,35,ptrH,_⟩,⟨3,35,ptrH,_⟩,⟨4,37,ptrH,_⟩] a w:=hst
 refine zt ?_
 refine wp_seq ?_
 refine gl (sts:=[none,none,none]) (news:=[⟨5,35,ptrH,some 3,_,some (4,_)⟩]) (sp:=[.val 6 _,.val 7 _,.val 8 _,.alc 3,.sto 3]) [] hst (zv rfl (zac (lz0 0 rfl) zal) (zv rfl (zac (lz0 1 rfl) zal) (zv rfl (za5 (xs:=[.tmp 6,.tmp 7]) (common_z zo zo) (.cons (has_wk' (vq 0 rfl) pz_za.va) (.cons (has_wk' (vq 1 rfl) pz_za.va) .nil))) (oc (zag rfl rfl rfl (Str.zero zc9)) (oc (za9 rfl rfl rfl (vq 2 rfl) zal (Eq.trans (b:=2) rfl rfl)) o0))))) (fun a w hst=>?_)
 have hst:St B w0 35 [] [⟨2,35,ptrH,_⟩,⟨3,35,ptrH,_⟩,⟨4,37,ptrH,_⟩,⟨5,35,ptrH,_⟩] a w:=hst
 refine zt<|zav (anc:=[[],[],[0,1],[0,1,2]]) (sts:=[none,none,none,none]) (news:=[]) (sp:=[.val 9 _,.val 10 _,.val 11 _,.val 12 _]) [.o 3] za6 hst (zv rfl (zac (lz0 3 rfl) zal) (zv rfl (za5 (xs:=[.const (.int .i64 (1))]) (of_z zd zd) (.cons za3 .nil)) (zv rfl (za5 (xs:=[.tmp 9,.tmp 10]) (cmp_z zo zo) (.cons (vq 0 rfl) (.cons (vq 1 rfl) .nil))) (zv rfl (zcf (vq 2 rfl) za3) o0)))) zk zk zk zk (fun a w hst=>?_)
 have hst:St B w0 35 [(12,_)] [⟨2,35,ptrH,_⟩,⟨3,35,ptrH,_⟩,⟨4,37,ptrH,_⟩,⟨5,35,ptrH,_⟩] a w:=hst
 refine za0 ?_
 refine zcd (fun a w=>∃ u v:Value,St B w0 35 [] [⟨2,35,ptrH,PinA u ((ZN c (p.tdiv ((Int.gcd p q:Nat):Int))).and (SepAll [] u))⟩,⟨3,35,ptrH,PinA v ((ZN d (q.tdiv ((Int.gcd p q:Nat):Int))).and (SepAll [u] v))⟩,⟨4,37,ptrH,RFA ⟨⟨false,[]⟩,⟨false,[]⟩⟩⟩,⟨5,35,ptrH,ZA (max c d) ((Int.gcd p q:Nat):Int)⟩] a w) hst (zm 0 rfl) (fun hb0=>?_) (fun hb0=>?_) (fun a w hst=>?_)
 ·refine wp_seq ?_
  refine go_linV (sts:=[some (6,fun ν=>_),none,none,none]) (news:=[]) (sp:=[(fun ν=>.val 14 _),(fun ν=>.val 15 _),(fun ν=>.val 16 (PinT (ν 2) [ZN c (p.tdiv ((Int.gcd p q:Nat):Int)),ZN (max c d) (p.tmod ((Int.gcd p q:Nat):Int))] [v0])),(fun ν=>.val 13 _),(fun ν=>.val 17 (PinA (ν 4) ((ZN c (p.tdiv ((Int.gcd p q:Nat):Int))).and (SepAll [v0] (ν 4)))).va),(fun ν=>.val 18 (PinA (ν 5) ((ZN (max c d) (p.tmod ((Int.gcd p q:Nat):Int))).and (SepAll [v0] (ν 5)))).va),(fun ν=>.sto 0)]) [] hst ⟨of_u fun ν=>ob_v rfl rfl (zac (lz0 0 rfl) zal),⟨of_u fun ν=>ob_v rfl rfl (zac (lz0 3 rfl) zal),⟨of_callT (us:=fun ν=>[v0]) (xs:=[.tmp 14,.tmp 15]) rfl rfl (zke zo zo) nf_zn (.cons upA_za.va (.cons upA_za.va .nil)) (fun ν=>(.cons (has_wk' (vq 0 rfl) pz_za.va) (.cons (vq 1 rfl) .nil))) (fun _ _=>rfl) (fun ν=>(live_loc (zfi zdi) (lz0 1 rfl) zd6)),⟨of_u fun ν=>ob_v rfl rfl (za2 (vq 2 rfl)),⟨of_ext (us:=fun ν=>[v0]) rfl rfl (fun ν=>(vq 3 rfl)) rfl (fun _ _=>rfl),⟨of_ext (us:=fun ν=>[v0]) rfl rfl (fun ν=>(vq 3 rfl)) rfl (fun _ _=>rfl),⟨of_u fun ν=>za9 rfl rfl rfl (vq 4 rfl) zal (Eq.trans (b:=2) rfl rfl),trivial⟩⟩⟩⟩⟩⟩⟩ ⟨(fun ν ν' h=>rfl),⟨(fun ν ν' h=>rfl),⟨(fun ν ν' h=>by first | rfl | simp only [h 2 rfl]),⟨(fun ν ν' h=>by first | rfl | simp only [h 2 rfl]),⟨(fun ν ν' h=>by first | rfl | simp only [h 2 rfl,h 4 rfl]),⟨(fun ν ν' h=>by first | rfl | simp only [h 2 rfl,h 4 rfl,h 5 rfl]),⟨(fun ν ν' h=>by first | rfl | simp only [h 2 rfl,h 4 rfl,h 5 rfl]),trivial⟩⟩⟩⟩⟩⟩⟩ ⟨(fun ν ν' h=>by first | rfl | simp only [h 2 rfl,h 4 rfl,h 5 rfl]),⟨trivial,⟨trivial,⟨trivial,trivial⟩⟩⟩⟩ zk (fun ν=>by kernel_rfl) (fun ν=>by kernel_rfl) (fun ν3 a w hst=>?_)
  have hst:St B w0 35 [] [⟨2,35,ptrH,_⟩,⟨3,35,ptrH,_⟩,⟨4,37,ptrH,_⟩,⟨5,35,ptrH,_⟩] a w:=hst
  refine za0 ?_
  refine go_linV (sts:=[none,some (6,fun ν=>_),none,none]) (news:=[]) (sp:=[(fun ν=>.val 20 _),(fun ν=>.val 21 _),(fun ν=>.val 22 (PinT (ν 2) [ZN d (q.tdiv ((Int.gcd p q:Nat):Int)),ZN (max c d) (q.tmod ((Int.gcd p q:Nat):Int))] [(ν3 4)])),(fun ν=>.val 19 _),(fun ν=>.val 23 (PinA (ν 4) ((ZN d (q.tdiv ((Int.gcd p q:Nat):Int))).and (SepAll [(ν3 4)] (ν 4)))).va),(fun ν=>.val 24 (PinA (ν 5) ((ZN (max c d) (q.tmod ((Int.gcd p q:Nat):Int))).and (SepAll [(ν3 4)] (ν 5)))).va),(fun ν=>.sto 1)]) [] hst ⟨of_u fun ν=>ob_v rfl rfl (zac (lz0 1 rfl) zal),⟨of_u fun ν=>ob_v rfl rfl (zac (lz0 3 rfl) zal),⟨of_callT (us:=fun ν=>[(ν3 4)]) (xs:=[.tmp 20,.tmp 21]) rfl rfl (zke zo zo) nf_zn (.cons upA_za.va (.cons upA_za.va .nil)) (fun ν=>(.cons (has_wk' (vq 0 rfl) pz_za.va) (.cons (vq 1 rfl) .nil))) (fun _ _=>rfl) (fun ν=>(live_loc (zfi zdi) (lz0 0 rfl) zd6)),⟨of_u fun ν=>ob_v rfl rfl (za2 (vq 2 rfl)),⟨of_ext (us:=fun ν=>[(ν3 4)]) rfl rfl (fun ν=>(vq 3 rfl)) rfl (fun _ _=>rfl),⟨of_ext (us:=fun ν=>[(ν3 4)]) rfl rfl (fun ν=>(vq 3 rfl)) rfl (fun _ _=>rfl),⟨of_u fun ν=>za9 rfl rfl rfl (vq 4 rfl) zal (Eq.trans (b:=2) rfl rfl),trivial⟩⟩⟩⟩⟩⟩⟩ ⟨(fun ν ν' h=>rfl),⟨(fun ν ν' h=>rfl),⟨(fun ν ν' h=>by first | rfl | simp only [h 2 rfl]),⟨(fun ν ν' h=>by first | rfl | simp only [h 2 rfl]),⟨(fun ν ν' h=>by first | rfl | simp only [h 2 rfl,h 4 rfl]),⟨(fun ν ν' h=>by first | rfl | simp only [h 2 rfl,h 4 rfl,h 5 rfl]),⟨(fun ν ν' h=>by first | rfl | simp only [h 2 rfl,h 4 rfl,h 5 rfl]),trivial⟩⟩⟩⟩⟩⟩⟩ ⟨trivial,⟨(fun ν ν' h=>by first | rfl | simp only [h 2 rfl,h 4 rfl,h 5 rfl]),⟨trivial,⟨trivial,trivial⟩⟩⟩⟩ zk (fun ν=>by kernel_rfl) (fun ν=>by kernel_rfl) (fun ν4 a w hst=>?_)
  have hst:St B w0 35 [] [⟨2,35,ptrH,_⟩,⟨3,35,ptrH,_⟩,⟨4,37,ptrH,_⟩,⟨5,35,ptrH,_⟩] a w:=hst
  refine za0 ?_
  have hst:=St.sel hst []
  have hst:=St.wkL (A':=PinA (ν3 4) ((ZN c (p.tdiv ((Int.gcd p q:Nat):Int))).and (SepAll [] (ν3 4)))) hst 0 rfl (pin_mono and_triv)
  exact ⟨ν3 4,ν4 4,hst⟩
 ·refine wp_skip ?_
  refine za0 ?_
  have hst:=St.sel hst []
  have hst:=St.cvA (A':=PinA u0 ((ZN c (p.tdiv ((Int.gcd p q:Nat):Int))).and (SepAll [] u0))) hst 0 rfl (congrArg (fun z=>PinA u0 ((ZN c z).and (SepAll [] u0))) (tdiv_g hb0))
  have hst:=St.cvA (A':=PinA v0 ((ZN d (q.tdiv ((Int.gcd p q:Nat):Int))).and (SepAll [u0] v0))) hst 1 rfl (congrArg (fun z=>PinA v0 ((ZN d z).and (SepAll [u0] v0))) (tdiv_g hb0))
  exact ⟨u0,v0,hst⟩
 obtain ⟨u1,v1,hst⟩:=hst
 refine zt ?_
 refine wp_seq ?_
 refine gl (sts:=[none,none,none,none]) (news:=[]) (sp:=[.val 25 _,.val 26 _,.val 27 _]) [.o 2] hst (zv rfl (zac (lz0 1 rfl) zal) (zv rfl (za5 (xs:=[.tmp 25]) sign_z (.cons (has_wk' (vq 0 rfl) pz_za.va) .nil)) (zv rfl (zc2 (vq 1 rfl) za3) o0))) (fun a w hst=>?_)
 have hst:St B w0 35 [(27,_)] [⟨2,35,ptrH,_⟩,⟨3,35,ptrH,_⟩,⟨4,37,ptrH,_⟩,⟨5,35,ptrH,_⟩] a w:=hst
 refine za0 ?_
 refine zcd (fun a w=>∃ u v:Value,St B w0 35 [] [⟨2,35,ptrH,PinA u ((ZN c (Rat.divInt p q).num).and (SepAll [] u))⟩,⟨3,35,ptrH,PinA v ((ZN d ((Rat.divInt p q).den:Int)).and (SepAll [u] v))⟩,⟨4,37,ptrH,RFA ⟨⟨false,[]⟩,⟨false,[]⟩⟩⟩,⟨5,35,ptrH,ZA (max c d) ((Int.gcd p q:Nat):Int)⟩] a w) hst (zm 0 rfl) (fun hb1=>?_) (fun hb1=>?_) (fun a w hst=>?_)
 ·refine go_drawV' [[],[0],[],[0,1,2],[0,1,2,3],[0,1,2,3,4]] (sts:=[some (4,fun ν=>_),some (5,fun ν=>_),none,none]) (news:=[]) (sp:=[(fun ν=>.val 28 _),(fun ν=>.val 29 (PinA (ν 1) ((ZN c (-(p.tdiv ((Int.gcd p q:Nat):Int)))).and (SepAll [] (ν 1)))).va),(fun ν=>.val 30 _),(fun ν=>.val 31 (PinA (ν 3) ((ZN d (-(q.tdiv ((Int.gcd p q:Nat):Int)))).and (SepAll [ν 1] (ν 3)))).va),(fun ν=>.sto 0),(fun ν=>.sto 1)]) [] za6 hst ⟨of_u fun ν=>ob_v rfl rfl (zac (lz0 0 rfl) zal),⟨zel (us:=fun ν=>[]) (xs:=[.tmp 28]) rfl rfl (zgy zo) zdi zec (.cons upA_za.va .nil) (fun ν=>(.cons (has_wk' (vq 0 rfl) pz_za.va) .nil)) (fun _ _=>rfl) (fun ν=>zd6),⟨of_u fun ν=>ob_v rfl rfl (zac (lz0 1 rfl) zal),⟨zel (us:=fun ν=>[ν 1]) (xs:=[.tmp 30]) rfl rfl (zgy zo) zdi zec (.cons upA_za.va .nil) (fun ν=>(.cons (has_wk' (vq 2 rfl) pz_za.va) .nil)) (fun _ _=>rfl) (fun ν=>(zfr (zfi zdi) (vq 1 rfl) zd6)),⟨of_u fun ν=>za9 rfl rfl rfl (vq 1 rfl) zal (Eq.trans (b:=2) rfl rfl),⟨of_u fun ν=>za9 rfl rfl rfl (vq 3 rfl) zal (Eq.trans (b:=2) rfl rfl),trivial⟩⟩⟩⟩⟩⟩ ⟨(fun ν ν' h=>rfl),⟨(fun ν ν' h=>by first | rfl | simp only [h 1 rfl]),⟨(fun ν ν' h=>rfl),⟨(fun ν ν' h=>by first | rfl | simp only [h 1 rfl,h 3 rfl]),⟨(fun ν ν' h=>by first | rfl | simp only [h 1 rfl,h 3 rfl]),⟨(fun ν ν' h=>by first | rfl | simp only [h 1 rfl,h 3 rfl]),trivial⟩⟩⟩⟩⟩⟩ ⟨(fun ν ν' h=>by first | rfl | simp only [h 1 rfl,h 3 rfl]),⟨(fun ν ν' h=>by first | rfl | simp only [h 1 rfl,h 3 rfl]),⟨trivial,⟨trivial,trivial⟩⟩⟩⟩ zk zk (fun ν=>by kernel_rfl) (fun ν=>by kernel_rfl) (fun ν6 a w hst=>?_)
  have hst:St B w0 35 [] [⟨2,35,ptrH,_⟩,⟨3,35,ptrH,_⟩,⟨4,37,ptrH,_⟩,⟨5,35,ptrH,_⟩] a w:=hst
  refine za0 ?_
  have hst:=St.sel hst []
  rw [if_pos (sgn_yes hb1)] at hn1 hn2; rw [hn1,hn2] at hst; exact ⟨ν6 1,ν6 3,hst⟩
 ·refine wp_skip ?_
  refine za0 ?_
  have hst:=St.sel hst []
  rw [if_neg (sgn_no hb1)] at hn1 hn2; rw [hn1,hn2] at hst; exact ⟨u1,v1,hst⟩
 obtain ⟨u2,v2,hst⟩:=hst
 refine zt<|gl (sts:=[none,none,some (3,_),none]) (news:=[]) (sp:=[.val 32 _,.val 33 _,.val 34 _,.sto 2]) [] hst (zv rfl (zac (lz0 0 rfl) zal) (zv rfl (zac (lz0 1 rfl) zal) (zv rfl (zb0 (xs:=[(0,.tmp 32),(1,.tmp 33)]) (qs:=[(0,_),(1,_)]) zam (.cons ⟨rfl,(vq 0 rfl),rfl⟩ (.cons ⟨rfl,(vq 1 rfl),rfl⟩ .nil))) (oc (za9 rfl rfl rfl (vq 2 rfl) za7 (Eq.trans (b:=4) rfl rfl)) o0)))) (fun a w hst=>?_)
 have hst:St B w0 35 [] [⟨2,35,ptrH,_⟩,⟨3,35,ptrH,_⟩,⟨4,37,ptrH,_⟩,⟨5,35,ptrH,_⟩] a w:=hst
 refine za0 ?_
 refine wp_ret ?_
 refine zad ?_ (zao rfl hst (zm 2 rfl) za7)
 exact (zkx (Nat.le_max_left _ _) (Nat.le_max_right _ _)).va
theorem plusD_q {c d:Nat}{x y:Rat}(hc:c+d≤137438953472):Cn Tryz.prog 60 [Qs c x,Qs d y] ((QD (c+d+1) (x+y)).va):=by
 refine Cn.intro Tryz.func60 rfl zk nq (fun B w0 a hst=>?_)
 have hst:St B w0 22 [(0,Qs c x),(1,Qs d y)] [] a w0.w:=hst
 refine wp_seq ?_
 refine gl (sts:=[]) (news:=[⟨2,37,ptrH,some 0,_,none⟩,⟨3,37,ptrH,some 1,_,none⟩,⟨4,37,ptrH,some 2,_,none⟩]) (sp:=[.alc 0,.alc 1,.alc 2]) [] hst (oc (zak rfl rfl rfl (gq 0 rfl)) (oc (zak rfl rfl rfl (gq 1 rfl)) (oc (zag rfl rfl rfl (Str.zero zam)) o0))) (fun a w hst=>?_)
 have hst:St B w0 22 [] [⟨2,37,ptrH,_⟩,⟨3,37,ptrH,_⟩,⟨4,37,ptrH,_⟩] a w:=hst
 refine zt ?_
 refine go_drawV' [[],[0],[],[2],[0,1,2,3],[],[5],[],[7],[0,1,2,3,4,5,6,7,8],[0,1,2,3,4,5,6,7,8,9],[],[11],[],[13],[0,1,2,3,4,5,6,7,8,9,10,11,12,13,14],[0,1,2,3,4,5,6,7,8,9,10,11,12,13,14,15],[0,1,2,3,4,5,6,7,8,9,10,11,12,13,14,15,16]] (sts:=[none,none,some (17,fun ν=>_)]) (news:=[]) (sp:=[(fun ν=>.adr 5 2 (.some 0) True),(fun ν=>.val 6 _),(fun ν=>.adr 7 3 (.some 2) True),(fun ν=>.val 8 _),(fun ν=>.val 9 _),(fun ν=>.adr 10 3 (.some 0) True),(fun ν=>.val 11 _),(fun ν=>.adr 12 2 (.some 2) True),(fun ν=>.val 13 _),(fun ν=>.val 14 _),(fun ν=>.val 15 (PinA (ν 10) ((ZN (max (c+d) (d+c)+1) (x.num*(y.den:Int)+y.num*(x.den:Int))).and (SepAll [] (ν 10)))).va),(fun ν=>.adr 16 2 (.some 2) True),(fun ν=>.val 17 _),(fun ν=>.adr 18 3 (.some 2) True),(fun ν=>.val 19 _),(fun ν=>.val 20 (PinA (ν 15) ((ZN (c+d) ((x.den:Int)*(y.den:Int))).and (SepAll [ν 10] (ν 15)))).va),(fun ν=>.val 21 _),(fun ν=>.sto 2)]) [] za6 hst ⟨of_u fun ν=>ob_a rfl rfl (za8 (lz0 0 rfl) zbi),⟨of_u fun ν=>ob_v rfl rfl (za4 0 rfl zk trivial (lz0 0 rfl) (Sub.part 0 rfl rfl) zal),⟨of_u fun ν=>ob_a rfl rfl (za8 (lz0 1 rfl) zb5),⟨of_u fun ν=>ob_v rfl rfl (za4 2 rfl zk trivial (lz0 1 rfl) (Sub.part 1 rfl rfl) zal),⟨of_u fun ν=>ob_v rfl rfl (za5 (xs:=[.tmp 6,.tmp 8]) (zct zo zo) (.cons (vq 1 rfl) (.cons (vq 3 rfl) .nil))),⟨of_u fun ν=>ob_a rfl rfl (za8 (lz0 1 rfl) zbi),⟨of_u fun ν=>ob_v rfl rfl (za4 5 rfl zk trivial (lz0 1 rfl) (Sub.part 0 rfl rfl) zal),⟨of_u fun ν=>ob_a rfl rfl (za8 (lz0 0 rfl) zb5),⟨of_u fun ν=>ob_v rfl rfl (za4 7 rfl zk trivial (lz0 0 rfl) (Sub.part 1 rfl rfl) zal),⟨of_u fun ν=>ob_v rfl rfl (za5 (xs:=[.tmp 11,.tmp 13]) (zct zo zo) (.cons (vq 6 rfl) (.cons (vq 8 rfl) .nil))),⟨zel (us:=fun ν=>[]) (xs:=[.tmp 9,.tmp 14]) rfl rfl (ziv zo zo) zdi zec (.cons upA_za.va (.cons upA_za.va .nil)) (fun ν=>(.cons (vq 4 rfl) (.cons (vq 9 rfl) .nil))) (fun _ _=>rfl) (fun ν=>zd6),⟨of_u fun ν=>ob_a rfl rfl (za8 (lz0 0 rfl) zb5),⟨of_u fun ν=>ob_v rfl rfl (za4 11 rfl zk trivial (lz0 0 rfl) (Sub.part 1 rfl rfl) zal),⟨of_u fun ν=>ob_a rfl rfl (za8 (lz0 1 rfl) zb5),⟨of_u fun ν=>ob_v rfl rfl (za4 13 rfl zk trivial (lz0 1 rfl) (Sub.part 1 rfl rfl) zal),⟨zel (us:=fun ν=>[ν 10]) (xs:=[.tmp 17,.tmp 19]) rfl rfl (times_zn zo zo) zdi zec (.cons upA_za.va (.cons upA_za.va .nil)) (fun ν=>(.cons (vq 12 rfl) (.cons (vq 14 rfl) .nil))) (fun _ _=>rfl) (fun ν=>(zfr (zfi zdi) (vq 10 rfl) zd6)),⟨of_u fun ν=>ob_v rfl rfl (za5 (xs:=[.tmp 15,.tmp 20]) (lowestD_c zo zo (den_nz x y)) (.cons (vq 10 rfl) (.cons (vq 15 rfl) .nil))),⟨of_u fun ν=>za9 rfl rfl rfl (vq 16 rfl) za7 (Eq.trans (b:=4) rfl rfl),trivial⟩⟩⟩⟩⟩⟩⟩⟩⟩⟩⟩⟩⟩⟩⟩⟩⟩⟩ ⟨(fun ν ν' h=>rfl),⟨(fun ν ν' h=>rfl),⟨(fun ν ν' h=>rfl),⟨(fun ν ν' h=>rfl),⟨(fun ν ν' h=>rfl),⟨(fun ν ν' h=>rfl),⟨(fun ν ν' h=>rfl),⟨(fun ν ν' h=>rfl),⟨(fun ν ν' h=>rfl),⟨(fun ν ν' h=>rfl),⟨(fun ν ν' h=>by first | rfl | simp only [h 10 rfl]),⟨(fun ν ν' h=>rfl),⟨(fun ν ν' h=>rfl),⟨(fun ν ν' h=>rfl),⟨(fun ν ν' h=>rfl),⟨(fun ν ν' h=>by first | rfl | simp only [h 10 rfl,h 15 rfl]),⟨(fun ν ν' h=>by first | rfl | simp only [h 10 rfl,h 15 rfl]),⟨(fun ν ν' h=>by first | rfl | simp only [h 10 rfl,h 15 rfl]),trivial⟩⟩⟩⟩⟩⟩⟩⟩⟩⟩⟩⟩⟩⟩⟩⟩⟩⟩ ⟨trivial,⟨trivial,⟨(fun ν ν' h=>by first | rfl | simp only [h 10 rfl,h 15 rfl]),trivial⟩⟩⟩ zk zk (fun ν=>by kernel_rfl) (fun ν=>by kernel_rfl) (fun ν1 a w hst=>?_)
 have hst:St B w0 22 [] [⟨2,37,ptrH,_⟩,⟨3,37,ptrH,_⟩,⟨4,37,ptrH,_⟩] a w:=hst
 refine za0 ?_
 refine wp_ret ?_
 refine zad ?_ (zao rfl hst (zm 2 rfl) za7)
 exact zca (zcp (congrArg (fun z=>(QD _ z).va) (zkv x y))) (qd_mono zo).va
theorem qd_tn {u v:Value}{c d k:Nat}{x:Rat}(hc:c≤k)(hd:d≤k):WkA (cat [PinA u ((ZN c (-x.num)).and (SepAll [] u)),PinA v ((ZN d ((x.den:Int)+0)).and (SepAll [u] v))]) (QD k (-x)):=by
 rw [Int.add_zero]
 exact zkx (q := -x) hc hd
theorem qd_cp {u v:Value}{c d k:Nat}{x:Rat}(hc:c≤k)(hd:d≤k):WkA (cat [PinA u ((ZN c (x.num+0)).and (SepAll [] u)),PinA v ((ZN d ((x.den:Int)+0)).and (SepAll [u] v))]) (QD k x):=by
 rw [Int.add_zero,Int.add_zero]
 exact zkx hc hd
theorem turnedD_r {c:Nat}{x:Rat}(hc:c≤137438953472):Cn Tryz.prog 66 [Qs c x] ((QD (max c 2+1) (-x)).va):=by
 refine Cn.intro Tryz.func66 rfl zk nq (fun B w0 a hst=>?_)
 have hst:St B w0 11 [(0,Qs c x)] [] a w0.w:=hst
 refine wp_seq ?_
 refine gl (sts:=[]) (news:=[⟨1,37,ptrH,some 0,_,none⟩,⟨2,37,ptrH,some 1,_,none⟩]) (sp:=[.alc 0,.alc 1]) [] hst (oc (zak rfl rfl rfl (gq 0 rfl)) (oc (zag rfl rfl rfl (Str.zero zam)) o0)) (fun a w hst=>?_)
 have hst:St B w0 11 [] [⟨1,37,ptrH,_⟩,⟨2,37,ptrH,_⟩] a w:=hst
 refine zt ?_
 refine go_drawV' [[],[0],[0,1],[],[3],[0,1,2],[0,1,2,3,4,5],[0,1,2,3,4,5,6],[0,1,2,3,4,5,6,7]] (sts:=[none,some (8,fun ν=>_)]) (news:=[]) (sp:=[(fun ν=>.adr 3 1 (.some 0) True),(fun ν=>.val 4 _),(fun ν=>.val 5 (PinA (ν 2) ((ZN c (-x.num)).and (SepAll [] (ν 2)))).va),(fun ν=>.adr 6 1 (.some 2) True),(fun ν=>.val 7 _),(fun ν=>.val 8 _),(fun ν=>.val 9 (PinA (ν 6) ((ZN (max c 2+1) ((x.den:Int)+0)).and (SepAll [ν 2] (ν 6)))).va),(fun ν=>.val 10 _),(fun ν=>.sto 1)]) [] za6 hst ⟨of_u fun ν=>ob_a rfl rfl (za8 (lz0 0 rfl) zbi),⟨of_u fun ν=>ob_v rfl rfl (za4 0 rfl zk trivial (lz0 0 rfl) (Sub.part 0 rfl rfl) zal),⟨zel (us:=fun ν=>[]) (xs:=[.tmp 4]) rfl rfl (zgy zo) zdi zec (.cons upA_za.va .nil) (fun ν=>(.cons (vq 1 rfl) .nil)) (fun _ _=>rfl) (fun ν=>zd6),⟨of_u fun ν=>ob_a rfl rfl (za8 (lz0 0 rfl) zb5),⟨of_u fun ν=>ob_v rfl rfl (za4 3 rfl zk trivial (lz0 0 rfl) (Sub.part 1 rfl rfl) zal),⟨of_u fun ν=>ob_v rfl rfl (za5 (xs:=[.const (.int .i64 (0))]) (of_z zd zd) (.cons za3 .nil)),⟨zel (us:=fun ν=>[ν 2]) (xs:=[.tmp 7,.tmp 8]) rfl rfl (ziv zo zo) zdi zec (.cons upA_za.va (.cons upA_za.va .nil)) (fun ν=>(.cons (vq 4 rfl) (.cons (vq 5 rfl) .nil))) (fun _ _=>rfl) (fun ν=>(zfr (zfi zdi) (vq 2 rfl) zd6)),⟨of_u fun ν=>ob_v rfl rfl (zb0 (xs:=[(0,.tmp 5),(1,.tmp 9)]) (qs:=[(0,_),(1,_)]) zam (.cons ⟨rfl,(vq 2 rfl),rfl⟩ (.cons ⟨rfl,(vq 6 rfl),rfl⟩ .nil))),⟨of_u fun ν=>za9 rfl rfl rfl (vq 7 rfl) za7 (Eq.trans (b:=4) rfl rfl),trivial⟩⟩⟩⟩⟩⟩⟩⟩⟩ ⟨(fun ν ν' h=>rfl),⟨(fun ν ν' h=>rfl),⟨(fun ν ν' h=>by first | rfl | simp only [h 2 rfl]),⟨(fun ν ν' h=>rfl),⟨(fun ν ν' h=>rfl),⟨(fun ν ν' h=>by first | rfl | simp only [h 2 rfl]),⟨(fun ν ν' h=>by first | rfl | simp only [h 2 rfl,h 6 rfl]),⟨(fun ν ν' h=>by first | rfl | simp only [h 2 rfl,h 6 rfl]),⟨(fun ν ν' h=>by first | rfl | simp only [h 2 rfl,h 6 rfl]),trivial⟩⟩⟩⟩⟩⟩⟩⟩⟩ ⟨trivial,⟨(fun ν ν' h=>by first | rfl | simp only [h 2 rfl,h 6 rfl]),trivial⟩⟩ zk zk (fun ν=>by kernel_rfl) (fun ν=>by kernel_rfl) (fun ν1 a w hst=>?_)
 have hst:St B w0 11 [] [⟨1,37,ptrH,_⟩,⟨2,37,ptrH,_⟩] a w:=hst
 refine za0 ?_
 refine wp_ret ?_
 refine zad ?_ (zao rfl hst (zm 1 rfl) za7)
 exact (qd_tn zo zo).va
theorem copyD_r {c:Nat}{x:Rat}(hc:c≤137438953472):Cn Tryz.prog 81 [Qs c x] ((QD (max c 2+1) x).va):=by
 refine Cn.intro Tryz.func81 rfl zk nq (fun B w0 a hst=>?_)
 have hst:St B w0 14 [(0,Qs c x)] [] a w0.w:=hst
 refine wp_seq ?_
 refine gl (sts:=[]) (news:=[⟨1,37,ptrH,some 0,_,none⟩,⟨2,37,ptrH,some 1,_,none⟩]) (sp:=[.alc 0,.alc 1]) [] hst (oc (zak rfl rfl rfl (gq 0 rfl)) (oc (zag rfl rfl rfl (Str.zero zam)) o0)) (fun a w hst=>?_)
 have hst:St B w0 14 [] [⟨1,37,ptrH,_⟩,⟨2,37,ptrH,_⟩] a w:=hst
 refine zt<|gl (sts:=[none,none]) (news:=[⟨3,35,ptrH,some 1,_,some (2,_)⟩]) (sp:=[.val 4 _,.alc 2,.sto 2]) [] hst (zv rfl (za5 (xs:=[.const (.int .i64 (0))]) (of_z zd zd) (.cons za3 .nil)) (oc (zag rfl rfl rfl (Str.zero zc9)) (oc (za9 rfl rfl rfl (vq 0 rfl) zal (Eq.trans (b:=2) rfl rfl)) o0))) (fun a w hst=>?_)
 have hst:St B w0 14 [] [⟨1,37,ptrH,_⟩,⟨2,37,ptrH,_⟩,⟨3,35,ptrH,_⟩] a w:=hst
 refine zt ?_
 refine go_drawV' [[],[0],[],[0,1,2],[],[4],[],[0,1,2,3,4,5,6],[0,1,2,3,4,5,6,7],[0,1,2,3,4,5,6,7,8]] (sts:=[none,some (9,fun ν=>_),none]) (news:=[]) (sp:=[(fun ν=>.adr 5 1 (.some 0) True),(fun ν=>.val 6 _),(fun ν=>.val 7 _),(fun ν=>.val 8 (PinA (ν 3) ((ZN (max c 2+1) (x.num+0)).and (SepAll [] (ν 3)))).va),(fun ν=>.adr 9 1 (.some 2) True),(fun ν=>.val 10 _),(fun ν=>.val 11 _),(fun ν=>.val 12 (PinA (ν 7) ((ZN (max c 2+1) ((x.den:Int)+0)).and (SepAll [ν 3] (ν 7)))).va),(fun ν=>.val 13 _),(fun ν=>.sto 1)]) [] za6 hst ⟨of_u fun ν=>ob_a rfl rfl (za8 (lz0 0 rfl) zbi),⟨of_u fun ν=>ob_v rfl rfl (za4 0 rfl zk trivial (lz0 0 rfl) (Sub.part 0 rfl rfl) zal),⟨of_u fun ν=>ob_v rfl rfl (zac (lz0 2 rfl) zal),⟨zel (us:=fun ν=>[]) (xs:=[.tmp 6,.tmp 7]) rfl rfl (ziv zo zo) zdi zec (.cons upA_za.va (.cons upA_za.va .nil)) (fun ν=>(.cons (vq 1 rfl) (.cons (vq 2 rfl) .nil))) (fun _ _=>rfl) (fun ν=>zd6),⟨of_u fun ν=>ob_a rfl rfl (za8 (lz0 0 rfl) zb5),⟨of_u fun ν=>ob_v rfl rfl (za4 4 rfl zk trivial (lz0 0 rfl) (Sub.part 1 rfl rfl) zal),⟨of_u fun ν=>ob_v rfl rfl (zac (lz0 2 rfl) zal),⟨zel (us:=fun ν=>[ν 3]) (xs:=[.tmp 10,.tmp 11]) rfl rfl (ziv zo zo) zdi zec (.cons upA_za.va (.cons upA_za.va .nil)) (fun ν=>(.cons (vq 5 rfl) (.cons (vq 6 rfl) .nil))) (fun _ _=>rfl) (fun ν=>(zfr (zfi zdi) (vq 3 rfl) zd6)),⟨of_u fun ν=>ob_v rfl rfl (zb0 (xs:=[(0,.tmp 8),(1,.tmp 12)]) (qs:=[(0,_),(1,_)]) zam (.cons ⟨rfl,(vq 3 rfl),rfl⟩ (.cons ⟨rfl,(vq 7 rfl),rfl⟩ .nil))),⟨of_u fun ν=>za9 rfl rfl rfl (vq 8 rfl) za7 (Eq.trans (b:=4) rfl rfl),trivial⟩⟩⟩⟩⟩⟩⟩⟩⟩⟩ ⟨(fun ν ν' h=>rfl),⟨(fun ν ν' h=>rfl),⟨(fun ν ν' h=>rfl),⟨(fun ν ν' h=>by first | rfl | simp only [h 3 rfl]),⟨(fun ν ν' h=>rfl),⟨(fun ν ν' h=>rfl),⟨(fun ν ν' h=>rfl),⟨(fun ν ν' h=>by first | rfl | simp only [h 3 rfl,h 7 rfl]),⟨(fun ν ν' h=>by first | rfl | simp only [h 3 rfl,h 7 rfl]),⟨(fun ν ν' h=>by first | rfl | simp only [h 3 rfl,h 7 rfl]),trivial⟩⟩⟩⟩⟩⟩⟩⟩⟩⟩ ⟨trivial,⟨(fun ν ν' h=>by first | rfl | simp only [h 3 rfl,h 7 rfl]),⟨trivial,trivial⟩⟩⟩ zk zk (fun ν=>by kernel_rfl) (fun ν=>by kernel_rfl) (fun ν2 a w hst=>?_)
 have hst:St B w0 14 [] [⟨1,37,ptrH,_⟩,⟨2,37,ptrH,_⟩,⟨3,35,ptrH,_⟩] a w:=hst
 refine za0 ?_
 refine wp_ret ?_
 refine zad ?_ (zao rfl hst (zm 1 rfl) za7)
 exact (qd_cp zo zo).va
theorem turnedD_q {c:Nat}{x:Rat}(hc:c≤137438953472):Cn Tryz.prog 66 [Qs c x] (QD c (-x)).va :=
 Cn.know (c:=lz x.num≤c∧lz (x.den:Int)≤c) zi8 (fun B w args ha=>by cases ha with | cons h1 _=>exact qs_le h1) fun h=>(turnedD_r hc).wkp (qd_of (by rw [Rat.neg_num,zeo]; exact h.1) (by rw [Rat.neg_den]; exact h.2)).va
theorem copyD_q {c:Nat}{x:Rat}(hc:c≤137438953472):Cn Tryz.prog 81 [Qs c x] (QD c x).va :=
 Cn.know (c:=lz x.num≤c∧lz (x.den:Int)≤c) ex_qcopy (fun B w args ha=>by cases ha with | cons h1 _=>exact qs_le h1) fun h=>(copyD_r hc).wkp (qd_of h.1 h.2).va
end Go.Proofs.YtlpppkkggljdcaaGreat
namespace Go.Proofs.YtlpppkkggljdcaaGreat
open Go Go.RowKit
def powF (m:RM):RF × Int:=if okM m then ansF (-(toM m).c) else (rf0,1)
theorem chk1 {c:Bool}:((if c then (0:Int) else 1) != 0) = !c:=by cases c <;> rfl
theorem im1_q {c:Nat}{x:Rat}(hc:c≤549755813888):Cn Tryz.prog 65 [Qs c x] (FrR (ansF x)):=by
 refine Cn.intro Tryz.func65 rfl zk nq (fun B w0 a hst=>?_)
 have hst:St B w0 14 [(0,Qs c x)] [] a w0.w:=hst
 refine wp_seq ?_
 refine gl (sts:=[]) (news:=[⟨1,37,ptrH,some 0,_,none⟩,⟨2,37,ptrH,some 1,_,none⟩]) (sp:=[.alc 0,.alc 1,.val 3 _]) [.o 2] hst (oc (zak rfl rfl rfl (gq 0 rfl)) (oc (zag rfl rfl rfl (Str.zero zam)) (zv rfl (za1 za3) o0))) (fun a w hst=>?_)
 have hst:St B w0 14 [(3,_)] [⟨1,37,ptrH,_⟩,⟨2,37,ptrH,_⟩] a w:=hst
 refine zt ?_
 refine wp_seq ?_
 refine gl (sts:=[none,none]) (news:=[]) (sp:=[.val 5 _,.val 6 _,.val 7 _,.val 4 _]) [.g 0,.o 3] hst (zv rfl (zac (lz0 0 rfl) za7) (zv rfl (zc5 (D:=[U32]) (l:=[_]) (xs:=[.tmp 5]) (zdt zk) zdf zk (n_ok zk) nq nq nq (.cons (vq 0 rfl) .nil) rfl rfl) (zv rfl (za5 (xs:=[.tmp 6]) (zg0 [x] (.cons ⟨_,rfl⟩ .nil) nq) (.cons (vq 1 rfl) .nil)) (zv rfl (za1 (vq 2 rfl)) o0)))) (fun a w hst=>?_)
 have hst:St B w0 14 [(3,_),(4,_)] [⟨1,37,ptrH,_⟩,⟨2,37,ptrH,_⟩] a w:=hst
 refine zt<|gl (sts:=[none,none]) (news:=[]) (sp:=[.val 8 _,.val 9 _]) [.g 0,.g 1,.o 1] hst (zv rfl (za2 (gq 1 rfl)) (zv rfl (zcf (vq 0 rfl) za3) o0)) (fun a w hst=>?_)
 have hst:St B w0 14 [(3,_),(4,_),(9,_)] [⟨1,37,ptrH,_⟩,⟨2,37,ptrH,_⟩] a w:=hst
 refine za0 ?_
 refine zaa hst (zm 2 rfl) (fun hb0=>?_) (fun hb0=>?_)
 ·rw [zdp,ne0] at hb0
  refine wp_seq ?_
  refine gl (sts:=[none,some (2,_)]) (news:=[]) (sp:=[.val 10 _,.val 11 _,.sto 1,.val 3 _]) [.o 3] hst (zv rfl (zb0 (xs:=[]) (qs:=[]) zam .nil) (zv rfl (za2 (gq 1 rfl)) (oc (za9 rfl rfl rfl (vq 0 rfl) za7 (Eq.trans (b:=4) rfl rfl)) (zv rfl (za1 (vq 1 rfl)) o0)))) (fun a w hst=>?_)
  have hst:St B w0 14 [(3,_)] [⟨1,37,ptrH,_⟩,⟨2,37,ptrH,_⟩] a w:=hst
  refine za0 ?_
  refine wp_ret ?_
  refine zaf ?_
  refine zad ?_ (zar (rs:=[.cell 2 37,.tmp 3]) rfl hst (.cell (zm 1 rfl) za7 (.tmp (zm 0 rfl) .nil)) zd)
  rw [ansF,if_pos hb0]; exact tu2w zay (zcp (by rw [zdp,hb0]; rfl))
 ·rw [zdp,ne0] at hb0
  refine wp_skip ?_
  refine zt<|gl (sts:=[none,some (2,_)]) (news:=[]) (sp:=[.val 12 _,.val 13 _,.sto 1,.val 3 _]) [.o 3] hst (zv rfl (zac (lz0 0 rfl) za7) (zv rfl (za5 (xs:=[.tmp 12]) (zfy zo) (.cons (vq 0 rfl) .nil)) (oc (za9 rfl rfl rfl (vq 1 rfl) za7 (Eq.trans (b:=4) rfl rfl)) (zv rfl (za1 za3) o0)))) (fun a w hst=>?_)
  have hst:St B w0 14 [(3,_)] [⟨1,37,ptrH,_⟩,⟨2,37,ptrH,_⟩] a w:=hst
  refine za0 ?_
  refine wp_ret ?_
  refine zad ?_ (zar (rs:=[.cell 2 37,.tmp 3]) rfl hst (.cell (zm 1 rfl) za7 (.tmp (zm 0 rfl) .nil)) zd)
  rw [ansF,if_neg (by rw [hb0]; decide)]; exact tu2w rq_wk zay
theorem okM_all {m:RM}(h:okM m=true):[m.a,m.b,m.c,m.d].all okX=true:=(okM_q h).1
theorem power_c (m:RM):Cn Tryz.prog 31 [(RMA m).va] (FrR (powF m)):=by
 refine Cn.intro Tryz.func31 rfl zk nq (fun B w0 a hst=>?_)
 have hst:St B w0 14 [(0,(RMA m).va)] [] a w0.w:=hst
 refine wp_seq ?_
 refine gl (sts:=[]) (news:=[⟨1,56,ptrH,some 0,_,none⟩,⟨2,37,ptrH,some 1,_,none⟩]) (sp:=[.alc 0,.alc 1,.val 3 _]) [.o 2] hst (oc (zak rfl rfl rfl (gq 0 rfl)) (oc (zag rfl rfl rfl (Str.zero zam)) (zv rfl (za1 za3) o0))) (fun a w hst=>?_)
 have hst:St B w0 14 [(3,_)] [⟨1,56,ptrH,_⟩,⟨2,37,ptrH,_⟩] a w:=hst
 refine zt ?_
 refine wp_seq ?_
 refine gl (sts:=[none,none]) (news:=[]) (sp:=[.val 4 _,.val 5 _,.val 6 _]) [.g 0,.o 2] hst (zv rfl (zac (lz0 0 rfl) zbc) (zv rfl (za5 (xs:=[.tmp 4]) (zi0 _) (.cons (vq 0 rfl) .nil)) (zv rfl (zcf (vq 1 rfl) za3) o0))) (fun a w hst=>?_)
 have hst:St B w0 14 [(3,_),(6,_)] [⟨1,56,ptrH,_⟩,⟨2,37,ptrH,_⟩] a w:=hst
 refine za0 ?_
 refine zaa hst (zm 1 rfl) (fun hb0=>?_) (fun hb0=>?_)
 ·rw [chk1,Bool.not_eq_true'] at hb0
  refine wp_seq ?_
  refine gl (sts:=[none,some (1,_)]) (news:=[]) (sp:=[.val 7 _,.sto 1,.val 3 _]) [.o 2] hst (zv rfl (zb0 (xs:=[]) (qs:=[]) zam .nil) (oc (za9 rfl rfl rfl (vq 0 rfl) za7 (Eq.trans (b:=4) rfl rfl)) (zv rfl (za1 za3) o0))) (fun a w hst=>?_)
  have hst:St B w0 14 [(3,_)] [⟨1,56,ptrH,_⟩,⟨2,37,ptrH,_⟩] a w:=hst
  refine za0 ?_
  refine wp_ret ?_
  refine zaf ?_
  refine zad ?_ (zar (rs:=[.cell 2 37,.tmp 3]) rfl hst (.cell (zm 1 rfl) za7 (.tmp (zm 0 rfl) .nil)) zd)
  rw [powF,if_neg (by rw [hb0]; decide)]; exact zay
 ·rw [chk1,Bool.not_eq_false'] at hb0
  have hst:=St.wkL hst 0 rfl (qm_x (okM_all hb0))
  refine wp_skip ?_
  refine zt<|gl (sts:=[none,some (6,_)]) (news:=[]) (sp:=[.adr 8 1 (.some 8) True,.val 9 _,.val 10 _,.val 11 _,.val 12 _,.val 13 _,.sto 1,.val 3 _]) [.o 7] hst (oc (ob_a rfl rfl (za8 (lz0 0 rfl) zbt)) (zv rfl (za4 0 rfl zk trivial (lz0 0 rfl) (Sub.part 2 rfl rfl) za7) (zv rfl (za5 (xs:=[.tmp 9]) (turned_q zd) (.cons (vq 1 rfl) .nil)) (zv rfl (za5 (xs:=[.tmp 10]) (im1_q zd) (.cons (vq 2 rfl) .nil)) (zv rfl (zcy (vq 3 rfl)) (zv rfl (zcx (vq 3 rfl)) (oc (za9 rfl rfl rfl (vq 4 rfl) za7 (Eq.trans (b:=4) rfl rfl)) (zv rfl (za1 (vq 5 rfl)) o0)))))))) (fun a w hst=>?_)
  have hst:St B w0 14 [(3,_)] [⟨1,56,ptrH,_⟩,⟨2,37,ptrH,_⟩] a w:=hst
  refine za0 ?_
  refine wp_ret ?_
  refine zad ?_ (zar (rs:=[.cell 2 37,.tmp 3]) rfl hst (.cell (zm 1 rfl) za7 (.tmp (zm 0 rfl) .nil)) zd)
  rw [powF,if_pos hb0]; exact zay
end Go.Proofs.YtlpppkkggljdcaaGreat
