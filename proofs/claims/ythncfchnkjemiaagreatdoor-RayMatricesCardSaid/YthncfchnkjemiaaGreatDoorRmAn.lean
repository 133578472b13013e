import Derived.Test.YthncfchnkjemiaaGreatDoorRmAa
import Derived.Test.YthncfchnkjemiaaGreatDoorRmAc
import Derived.Test.YthncfchnkjemiaaGreatDoorRmAl
import Derived.Test.YthncfchnkjemiaaGreatDoorRmAm
set_option linter.unusedVariables false
set_option linter.unusedSimpArgs false
set_option linter.unusedSectionVars false
set_option maxRecDepth 100000
namespace Go.Proofs.YthncfchnkjemiaaGreatDoor
open Go Go.RowKit
theorem zoo {u v:Value}{c d k:Nat}{q:Rat}(hc:c≤k)(hd:d≤k):WkA (cat [PinA u ((ZN c q.num).and (SepAll [] u)),PinA v ((ZN d (q.den:Int)).and (SepAll [u] v))]) (QD k q) :=
 (zhs (l:=[(u,ZN c q.num),(v,ZN d (q.den:Int))]) (fun x hx=>by
  simp at hx
  rcases hx with rfl | rfl <;> exact nod_zn)).trans (zeu (zc8 (.cons (zl1 hc) (.cons (zl1 hd) .nil))))
theorem qd_of {k c:Nat}{q:Rat}(h1:lz q.num≤c)(h2:lz (q.den:Int)≤c):WkA (QD k q) (QD c q):=zeu (zc8 (.cons ⟨rfl,rfl,fun _ _ _ hp=>⟨h1,hp.2⟩⟩ (.cons ⟨rfl,rfl,fun _ _ _ hp=>⟨h2,hp.2⟩⟩ .nil)))
theorem znl {u0 v0:Value}{c d:Nat}{p q:Int}(hc:c≤549755813888)(hd:d≤549755813888)(hq:q≠0):Cn Tryz.prog 244 [(PinA u0 ((ZN c p).and (SepAll [] u0))).va,(PinA v0 ((ZN d q).and (SepAll [u0] v0))).va] ((QD (max c d) (Rat.divInt p q)).va):=by
 have hg0:0<Int.gcd p q:=Int.gcd_pos_of_ne_zero_right p hq
 obtain ⟨hn1,hn2⟩:=zlv (p:=p) hq
 refine Cn.intro Tryz.func244 rfl zk nq (fun B w0 a hst=>?_)
 have hst:St B w0 35 [(0,(PinA u0 ((ZN c p).and (SepAll [] u0))).va),(1,(PinA v0 ((ZN d q).and (SepAll [u0] v0))).va)] [] a w0.w:=hst
 refine wp_seq ?_
 refine gl (sts:=[]) (news:=[⟨2,24,ptrH,some 0,_,none⟩,⟨3,24,ptrH,some 1,_,none⟩,⟨4,26,ptrH,some 2,_,none⟩]) (sp:=[.alc 0,.alc 1,.alc 2]) [] hst (oc (zak rfl rfl rfl (gq 0 rfl)) (oc (zak rfl rfl rfl (gq 1 rfl)) (oc (zas rfl rfl rfl (Str.zero zb0)) o0))) (fun a w hst=>?_)
 have hst:St B w0 35 [] [⟨2,24,ptrH,_⟩,⟨3,24,ptrH,_⟩,⟨4,26,ptrH,_⟩] a w:=hst
 refine zt ?_
 refine wp_seq ?_
 refine gl (sts:=[none,none,none]) (news:=[⟨5,24,ptrH,some 3,_,some (4,_)⟩]) (sp:=[.val 6 _,.val 7 _,.val 8 _,.alc 3,.sto 3]) [] hst (zv rfl (zab (lz0 0 rfl) zac) (zv rfl (zab (lz0 1 rfl) zac) (zv rfl (za5 (xs:=[.tmp 6,.tmp 7]) (zr4 zo zo) (.cons (has_wk' (vq 0 rfl) pz_za.va) (.cons (has_wk' (vq 1 rfl) pz_za.va) .nil))) (oc (zas rfl rfl rfl (Str.zero zbq)) (oc (zag rfl rfl rfl (vq 2 rfl) zac (Eq.trans (b:=2) rfl rfl)) o0))))) (fun a w hst=>?_)
 have hst:St B w0 35 [] [⟨2,24,ptrH,_⟩,⟨3,24,ptrH,_⟩,⟨4,26,ptrH,_⟩,⟨5,24,ptrH,_⟩] a w:=hst
 refine zt<|zay (anc:=[[],[],[0,1],[0,1,2]]) (sts:=[none,none,none,none]) (news:=[]) (sp:=[.val 9 _,.val 10 _,.val 11 _,.val 12 _]) [.o 3] za7 hst (zv rfl (zab (lz0 3 rfl) zac) (zv rfl (za5 (xs:=[.const (.int .i64 (1))]) (of_z zd zd) (.cons za3 .nil)) (zv rfl (za5 (xs:=[.tmp 9,.tmp 10]) (cmp_z zo zo) (.cons (vq 0 rfl) (.cons (vq 1 rfl) .nil))) (zv rfl (zd8 (vq 2 rfl) za3) o0)))) zk zk zk zk (fun a w hst=>?_)
 have hst:St B w0 35 [(12,_)] [⟨2,24,ptrH,_⟩,⟨3,24,ptrH,_⟩,⟨4,26,ptrH,_⟩,⟨5,24,ptrH,_⟩] a w:=hst
 refine za0 ?_
 refine zcn (fun a w=>∃ u v:Value,St B w0 35 [] [⟨2,24,ptrH,PinA u ((ZN c (p.tdiv ((Int.gcd p q:Nat):Int))).and (SepAll [] u))⟩,⟨3,24,ptrH,PinA v ((ZN d (q.tdiv ((Int.gcd p q:Nat):Int))).and (SepAll [u] v))⟩,⟨4,26,ptrH,RFA ⟨⟨false,[]⟩,⟨false,[]⟩⟩⟩,⟨5,24,ptrH,ZA (max c d) ((Int.gcd p q:Nat):Int)⟩] a w) hst (zm 0 rfl) (fun hb0=>?_) (fun hb0=>?_) (fun a w hst=>?_)
 ·refine wp_seq ?_
  refine zeh (sts:=[some (6,fun ν=>_),none,none,none]) (news:=[]) (sp:=[(fun ν=>.val 14 _),(fun ν=>.val 15 _),(fun ν=>.val 16 (PinT (ν 2) [ZN c (p.tdiv ((Int.gcd p q:Nat):Int)),ZN (max c d) (p.tmod ((Int.gcd p q:Nat):Int))] [v0])),(fun ν=>.val 13 _),(fun ν=>.val 17 (PinA (ν 4) ((ZN c (p.tdiv ((Int.gcd p q:Nat):Int))).and (SepAll [v0] (ν 4)))).va),(fun ν=>.val 18 (PinA (ν 5) ((ZN (max c d) (p.tmod ((Int.gcd p q:Nat):Int))).and (SepAll [v0] (ν 5)))).va),(fun ν=>.sto 0)]) [] hst ⟨of_u fun ν=>ob_v rfl rfl (zab (lz0 0 rfl) zac),⟨of_u fun ν=>ob_v rfl rfl (zab (lz0 3 rfl) zac),⟨zer (us:=fun ν=>[v0]) (xs:=[.tmp 14,.tmp 15]) rfl rfl (zny zo zo) nf_zn (.cons upA_za.va (.cons upA_za.va .nil)) (fun ν=>(.cons (has_wk' (vq 0 rfl) pz_za.va) (.cons (vq 1 rfl) .nil))) (fun _ _=>rfl) (fun ν=>(zbs (zb1 zdw) (lz0 1 rfl) zb9)),⟨of_u fun ν=>ob_v rfl rfl (za2 (vq 2 rfl)),⟨zgu (us:=fun ν=>[v0]) rfl rfl (fun ν=>(vq 3 rfl)) rfl (fun _ _=>rfl),⟨zgu (us:=fun ν=>[v0]) rfl rfl (fun ν=>(vq 3 rfl)) rfl (fun _ _=>rfl),⟨of_u fun ν=>zag rfl rfl rfl (vq 4 rfl) zac (Eq.trans (b:=2) rfl rfl),trivial⟩⟩⟩⟩⟩⟩⟩ ⟨(fun ν ν' h=>rfl),⟨(fun ν ν' h=>rfl),⟨(fun ν ν' h=>by first | rfl | simp only [h 2 rfl]),⟨(fun ν ν' h=>by first | rfl | simp only [h 2 rfl]),⟨(fun ν ν' h=>by first | rfl | simp only [h 2 rfl,h 4 rfl]),⟨(fun ν ν' h=>by first | rfl | simp only [h 2 rfl,h 4 rfl,h 5 rfl]),⟨(fun ν ν' h=>by first | rfl | simp only [h 2 rfl,h 4 rfl,h 5 rfl]),trivial⟩⟩⟩⟩⟩⟩⟩ ⟨(fun ν ν' h=>by first | rfl | simp only [h 2 rfl,h 4 rfl,h 5 rfl]),⟨trivial,⟨trivial,⟨trivial,trivial⟩⟩⟩⟩ zk (fun ν=>by kernel_rfl) (fun ν=>by kernel_rfl) (fun ν3 a w hst=>?_)
  have hst:St B w0 35 [] [⟨2,24,ptrH,_⟩,⟨3,24,ptrH,_⟩,⟨4,26,ptrH,_⟩,⟨5,24,ptrH,_⟩] a w:=hst
  refine za0 ?_
  refine zeh (sts:=[none,some (6,fun ν=>_),none,none]) (news:=[]) (sp:=[(fun ν=>.val 20 _),(fun ν=>.val 21 _),(fun ν=>.val 22 (PinT (ν 2) [ZN d (q.tdiv ((Int.gcd p q:Nat):Int)),ZN (max c d) (q.tmod ((Int.gcd p q:Nat):Int))] [(ν3 4)])),(fun ν=>.val 19 _),(fun ν=>.val 23 (PinA (ν 4) ((ZN d (q.tdiv ((Int.gcd p q:Nat):Int))).and (SepAll [(ν3 4)] (ν 4)))).va),(fun ν=>.val 24 (PinA (ν 5) ((ZN (max c d) (q.tmod ((Int.gcd p q:Nat):Int))).and (SepAll [(ν3 4)] (ν 5)))).va),(fun ν=>.sto 1)]) [] hst ⟨of_u fun ν=>ob_v rfl rfl (zab (lz0 1 rfl) zac),⟨of_u fun ν=>ob_v rfl rfl (zab (lz0 3 rfl) zac),⟨zer (us:=fun ν=>[(ν3 4)]) (xs:=[.tmp 20,.tmp 21]) rfl rfl (zny zo zo) nf_zn (.cons upA_za.va (.cons upA_za.va .nil)) (fun ν=>(.cons (has_wk' (vq 0 rfl) pz_za.va) (.cons (vq 1 rfl) .nil))) (fun _ _=>rfl) (fun ν=>(zbs (zb1 zdw) (lz0 0 rfl) zb9)),⟨of_u fun ν=>ob_v rfl rfl (za2 (vq 2 rfl)),⟨zgu (us:=fun ν=>[(ν3 4)]) rfl rfl (fun ν=>(vq 3 rfl)) rfl (fun _ _=>rfl),⟨zgu (us:=fun ν=>[(ν3 4)]) rfl rfl (fun ν=>(vq 3 rfl)) rfl (fun _ _=>rfl),⟨of_u fun ν=>zag rfl rfl rfl (vq 4 rfl) zac (Eq.trans (b:=2) rfl rfl),trivial⟩⟩⟩⟩⟩⟩⟩ ⟨(fun ν ν' h=>rfl),⟨(fun ν ν' h=>rfl),⟨(fun ν ν' h=>by first | rfl | simp only [h 2 rfl]),⟨(fun ν ν' h=>by first | rfl | simp only [h 2 rfl]),⟨(fun ν ν' h=>by first | rfl | simp only [h 2 rfl,h 4 rfl]),⟨(fun ν ν' h=>by first | rfl | simp only [h 2 rfl,h 4 rfl,h 5 rfl]),⟨(fun ν ν' h=>by first | rfl | simp only [h 2 rfl,h 4 rfl,h 5 rfl]),trivial⟩⟩⟩⟩⟩⟩⟩ ⟨trivial,⟨(fun ν ν' h=>by first | rfl | simp only [h 2 rfl,h 4 rfl,h 5 rfl]),⟨trivial,⟨trivial,trivial⟩⟩⟩⟩ zk (fun ν=>by kernel_rfl) (fun ν=>by kernel_rfl) (fun ν4 a w hst=>?_)
  have hst:St B w0 35 [] [⟨2,24,ptrH,_⟩,⟨3,24,ptrH,_⟩,⟨4,26,ptrH,_⟩,⟨5,24,ptrH,_⟩] a w:=hst
  refine za0 ?_
  have hst:=St.sel hst []
  have hst:=St.wkL (A':=PinA (ν3 4) ((ZN c (p.tdiv ((Int.gcd p q:Nat):Int))).and (SepAll [] (ν3 4)))) hst 0 rfl (zyq and_triv)
  exact ⟨ν3 4,ν4 4,hst⟩
 ·refine wp_skip ?_
  refine za0 ?_
  have hst:=St.sel hst []
  have hst:=St.cvA (A':=PinA u0 ((ZN c (p.tdiv ((Int.gcd p q:Nat):Int))).and (SepAll [] u0))) hst 0 rfl (congrArg (fun z=>PinA u0 ((ZN c z).and (SepAll [] u0))) (zpr hb0))
  have hst:=St.cvA (A':=PinA v0 ((ZN d (q.tdiv ((Int.gcd p q:Nat):Int))).and (SepAll [u0] v0))) hst 1 rfl (congrArg (fun z=>PinA v0 ((ZN d z).and (SepAll [u0] v0))) (zpr hb0))
  exact ⟨u0,v0,hst⟩
 obtain ⟨u1,v1,hst⟩:=hst
 refine zt ?_
 refine wp_seq ?_
 refine gl (sts:=[none,none,none,none]) (news:=[]) (sp:=[.val 25 _,.val 26 _,.val 27 _]) [.o 2] hst (zv rfl (zab (lz0 1 rfl) zac) (zv rfl (za5 (xs:=[.tmp 25]) ztv (.cons (has_wk' (vq 0 rfl) pz_za.va) .nil)) (zv rfl (zba (vq 1 rfl) za3) o0))) (fun a w hst=>?_)
 have hst:St B w0 35 [(27,_)] [⟨2,24,ptrH,_⟩,⟨3,24,ptrH,_⟩,⟨4,26,ptrH,_⟩,⟨5,24,ptrH,_⟩] a w:=hst
 refine za0 ?_
 refine zcn (fun a w=>∃ u v:Value,St B w0 35 [] [⟨2,24,ptrH,PinA u ((ZN c (Rat.divInt p q).num).and (SepAll [] u))⟩,⟨3,24,ptrH,PinA v ((ZN d ((Rat.divInt p q).den:Int)).and (SepAll [u] v))⟩,⟨4,26,ptrH,RFA ⟨⟨false,[]⟩,⟨false,[]⟩⟩⟩,⟨5,24,ptrH,ZA (max c d) ((Int.gcd p q:Nat):Int)⟩] a w) hst (zm 0 rfl) (fun hb1=>?_) (fun hb1=>?_) (fun a w hst=>?_)
 ·refine go_drawV' [[],[0],[],[0,1,2],[0,1,2,3],[0,1,2,3,4]] (sts:=[some (4,fun ν=>_),some (5,fun ν=>_),none,none]) (news:=[]) (sp:=[(fun ν=>.val 28 _),(fun ν=>.val 29 (PinA (ν 1) ((ZN c (-(p.tdiv ((Int.gcd p q:Nat):Int)))).and (SepAll [] (ν 1)))).va),(fun ν=>.val 30 _),(fun ν=>.val 31 (PinA (ν 3) ((ZN d (-(q.tdiv ((Int.gcd p q:Nat):Int)))).and (SepAll [ν 1] (ν 3)))).va),(fun ν=>.sto 0),(fun ν=>.sto 1)]) [] za7 hst ⟨of_u fun ν=>ob_v rfl rfl (zab (lz0 0 rfl) zac),⟨zbw (us:=fun ν=>[]) (xs:=[.tmp 28]) rfl rfl (zj9 zo) zdw ze3 (.cons upA_za.va .nil) (fun ν=>(.cons (has_wk' (vq 0 rfl) pz_za.va) .nil)) (fun _ _=>rfl) (fun ν=>zb9),⟨of_u fun ν=>ob_v rfl rfl (zab (lz0 1 rfl) zac),⟨zbw (us:=fun ν=>[ν 1]) (xs:=[.tmp 30]) rfl rfl (zj9 zo) zdw ze3 (.cons upA_za.va .nil) (fun ν=>(.cons (has_wk' (vq 2 rfl) pz_za.va) .nil)) (fun _ _=>rfl) (fun ν=>(zbh (zb1 zdw) (vq 1 rfl) zb9)),⟨of_u fun ν=>zag rfl rfl rfl (vq 1 rfl) zac (Eq.trans (b:=2) rfl rfl),⟨of_u fun ν=>zag rfl rfl rfl (vq 3 rfl) zac (Eq.trans (b:=2) rfl rfl),trivial⟩⟩⟩⟩⟩⟩ ⟨(fun ν ν' h=>rfl),⟨(fun ν ν' h=>by first | rfl | simp only [h 1 rfl]),⟨(fun ν ν' h=>rfl),⟨(fun ν ν' h=>by first | rfl | simp only [h 1 rfl,h 3 rfl]),⟨(fun ν ν' h=>by first | rfl | simp only [h 1 rfl,h 3 rfl]),⟨(fun ν ν' h=>by first | rfl | simp only [h 1 rfl,h 3 rfl]),trivial⟩⟩⟩⟩⟩⟩ ⟨(fun ν ν' h=>by first | rfl | simp only [h 1 rfl,h 3 rfl]),⟨(fun ν ν' h=>by first | rfl | simp only [h 1 rfl,h 3 rfl]),⟨trivial,⟨trivial,trivial⟩⟩⟩⟩ zk zk (fun ν=>by kernel_rfl) (fun ν=>by kernel_rfl) (fun ν6 a w hst=>?_)
  have hst:St B w0 35 [] [⟨2,24,ptrH,_⟩,⟨3,24,ptrH,_⟩,⟨4,26,ptrH,_⟩,⟨5,24,ptrH,_⟩] a w:=hst
  refine za0 ?_
  have hst:=St.sel hst []
  rw [if_pos (zof hb1)] at hn1 hn2; rw [hn1,hn2] at hst; exact ⟨ν6 1,ν6 3,hst⟩
 ·refine wp_skip ?_
  refine za0 ?_
  have hst:=St.sel hst []
  rw [if_neg (zu0 hb1)] at hn1 hn2; rw [hn1,hn2] at hst; exact ⟨u1,v1,hst⟩
 obtain ⟨u2,v2,hst⟩:=hst
 refine zt<|gl (sts:=[none,none,some (3,_),none]) (news:=[]) (sp:=[.val 32 _,.val 33 _,.val 34 _,.sto 2]) [] hst (zv rfl (zab (lz0 0 rfl) zac) (zv rfl (zab (lz0 1 rfl) zac) (zv rfl (zbb (xs:=[(0,.tmp 32),(1,.tmp 33)]) (qs:=[(0,_),(1,_)]) zb0 (.cons ⟨rfl,(vq 0 rfl),rfl⟩ (.cons ⟨rfl,(vq 1 rfl),rfl⟩ .nil))) (oc (zag rfl rfl rfl (vq 2 rfl) zaf (Eq.trans (b:=4) rfl rfl)) o0)))) (fun a w hst=>?_)
 have hst:St B w0 35 [] [⟨2,24,ptrH,_⟩,⟨3,24,ptrH,_⟩,⟨4,26,ptrH,_⟩,⟨5,24,ptrH,_⟩] a w:=hst
 refine za0 ?_
 refine wp_ret ?_
 refine zan ?_ (zao rfl hst (zm 2 rfl) zaf)
 exact (zoo (Nat.le_max_left _ _) (Nat.le_max_right _ _)).va
theorem zv0 {c d:Nat}{x y:Rat}(hc:c+d≤137438953472):Cn Tryz.prog 221 [Qs c x,Qs d y] ((QD (c+d+1) (x+y)).va):=by
 refine Cn.intro Tryz.func221 rfl zk nq (fun B w0 a hst=>?_)
 have hst:St B w0 22 [(0,Qs c x),(1,Qs d y)] [] a w0.w:=hst
 refine wp_seq ?_
 refine gl (sts:=[]) (news:=[⟨2,26,ptrH,some 0,_,none⟩,⟨3,26,ptrH,some 1,_,none⟩,⟨4,26,ptrH,some 2,_,none⟩]) (sp:=[.alc 0,.alc 1,.alc 2]) [] hst (oc (zak rfl rfl rfl (gq 0 rfl)) (oc (zak rfl rfl rfl (gq 1 rfl)) (oc (zas rfl rfl rfl (Str.zero zb0)) o0))) (fun a w hst=>?_)
 have hst:St B w0 22 [] [⟨2,26,ptrH,_⟩,⟨3,26,ptrH,_⟩,⟨4,26,ptrH,_⟩] a w:=hst
 refine zt ?_
 refine go_drawV' [[],[0],[],[2],[0,1,2,3],[],[5],[],[7],[0,1,2,3,4,5,6,7,8],[0,1,2,3,4,5,6,7,8,9],[],[11],[],[13],[0,1,2,3,4,5,6,7,8,9,10,11,12,13,14],[0,1,2,3,4,5,6,7,8,9,10,11,12,13,14,15],[0,1,2,3,4,5,6,7,8,9,10,11,12,13,14,15,16]] (sts:=[none,none,some (17,fun ν=>_)]) (news:=[]) (sp:=[(fun ν=>.adr 5 2 (.some 0) True),(fun ν=>.val 6 _),(fun ν=>.adr 7 3 (.some 2) True),(fun ν=>.val 8 _),(fun ν=>.val 9 _),(fun ν=>.adr 10 3 (.some 0) True),(fun ν=>.val 11 _),(fun ν=>.adr 12 2 (.some 2) True),(fun ν=>.val 13 _),(fun ν=>.val 14 _),(fun ν=>.val 15 (PinA (ν 10) ((ZN (max (c+d) (d+c)+1) (x.num*(y.den:Int)+y.num*(x.den:Int))).and (SepAll [] (ν 10)))).va),(fun ν=>.adr 16 2 (.some 2) True),(fun ν=>.val 17 _),(fun ν=>.adr 18 3 (.some 2) True),(fun ν=>.val 19 _),(fun ν=>.val 20 (PinA (ν 15) ((ZN (c+d) ((x.den:Int)*(y.den:Int))).and (SepAll [ν 10] (ν 15)))).va),(fun ν=>.val 21 _),(fun ν=>.sto 2)]) [] za7 hst ⟨of_u fun ν=>ob_a rfl rfl (zaa (lz0 0 rfl) zbn),⟨of_u fun ν=>ob_v rfl rfl (za4 0 rfl zk trivial (lz0 0 rfl) (Sub.part 0 rfl rfl) zac),⟨of_u fun ν=>ob_a rfl rfl (zaa (lz0 1 rfl) zbf),⟨of_u fun ν=>ob_v rfl rfl (za4 2 rfl zk trivial (lz0 1 rfl) (Sub.part 1 rfl rfl) zac),⟨of_u fun ν=>ob_v rfl rfl (za5 (xs:=[.tmp 6,.tmp 8]) (zfd zo zo) (.cons (vq 1 rfl) (.cons (vq 3 rfl) .nil))),⟨of_u fun ν=>ob_a rfl rfl (zaa (lz0 1 rfl) zbn),⟨of_u fun ν=>ob_v rfl rfl (za4 5 rfl zk trivial (lz0 1 rfl) (Sub.part 0 rfl rfl) zac),⟨of_u fun ν=>ob_a rfl rfl (zaa (lz0 0 rfl) zbf),⟨of_u fun ν=>ob_v rfl rfl (za4 7 rfl zk trivial (lz0 0 rfl) (Sub.part 1 rfl rfl) zac),⟨of_u fun ν=>ob_v rfl rfl (za5 (xs:=[.tmp 11,.tmp 13]) (zfd zo zo) (.cons (vq 6 rfl) (.cons (vq 8 rfl) .nil))),⟨zbw (us:=fun ν=>[]) (xs:=[.tmp 9,.tmp 14]) rfl rfl (zll zo zo) zdw ze3 (.cons upA_za.va (.cons upA_za.va .nil)) (fun ν=>(.cons (vq 4 rfl) (.cons (vq 9 rfl) .nil))) (fun _ _=>rfl) (fun ν=>zb9),⟨of_u fun ν=>ob_a rfl rfl (zaa (lz0 0 rfl) zbf),⟨of_u fun ν=>ob_v rfl rfl (za4 11 rfl zk trivial (lz0 0 rfl) (Sub.part 1 rfl rfl) zac),⟨of_u fun ν=>ob_a rfl rfl (zaa (lz0 1 rfl) zbf),⟨of_u fun ν=>ob_v rfl rfl (za4 13 rfl zk trivial (lz0 1 rfl) (Sub.part 1 rfl rfl) zac),⟨zbw (us:=fun ν=>[ν 10]) (xs:=[.tmp 17,.tmp 19]) rfl rfl (zxp zo zo) zdw ze3 (.cons upA_za.va (.cons upA_za.va .nil)) (fun ν=>(.cons (vq 12 rfl) (.cons (vq 14 rfl) .nil))) (fun _ _=>rfl) (fun ν=>(zbh (zb1 zdw) (vq 10 rfl) zb9)),⟨of_u fun ν=>ob_v rfl rfl (za5 (xs:=[.tmp 15,.tmp 20]) (znl zo zo (zo1 x y)) (.cons (vq 10 rfl) (.cons (vq 15 rfl) .nil))),⟨of_u fun ν=>zag rfl rfl rfl (vq 16 rfl) zaf (Eq.trans (b:=4) rfl rfl),trivial⟩⟩⟩⟩⟩⟩⟩⟩⟩⟩⟩⟩⟩⟩⟩⟩⟩⟩ ⟨(fun ν ν' h=>rfl),⟨(fun ν ν' h=>rfl),⟨(fun ν ν' h=>rfl),⟨(fun ν ν' h=>rfl),⟨(fun ν ν' h=>rfl),⟨(fun ν ν' h=>rfl),⟨(fun ν ν' h=>rfl),⟨(fun ν ν' h=>rfl),⟨(fun ν ν' h=>rfl),⟨(fun ν ν' h=>rfl),⟨(fun ν ν' h=>by first | rfl | simp only [h 10 rfl]),⟨(fun ν ν' h=>rfl),⟨(fun ν ν' h=>rfl),⟨(fun ν ν' h=>rfl),⟨(fun ν ν' h=>rfl),⟨(fun ν ν' h=>by first | rfl | simp only [h 10 rfl,h 15 rfl]),⟨(fun ν ν' h=>by first | rfl | simp only [h 10 rfl,h 15 rfl]),⟨(fun ν ν' h=>by first | rfl | simp only [h 10 rfl,h 15 rfl]),trivial⟩⟩⟩⟩⟩⟩⟩⟩⟩⟩⟩⟩⟩⟩⟩⟩⟩⟩ ⟨trivial,⟨trivial,⟨(fun ν ν' h=>by first | rfl | simp only [h 10 rfl,h 15 rfl]),trivial⟩⟩⟩ zk zk (fun ν=>by kernel_rfl) (fun ν=>by kernel_rfl) (fun ν1 a w hst=>?_)
 have hst:St B w0 22 [] [⟨2,26,ptrH,_⟩,⟨3,26,ptrH,_⟩,⟨4,26,ptrH,_⟩] a w:=hst
 refine za0 ?_
 refine wp_ret ?_
 refine zan ?_ (zao rfl hst (zm 2 rfl) zaf)
 exact zcv (zbz (congrArg (fun z=>(QD _ z).va) (zuk x y))) (qd_mono zo).va
theorem qd_tn {u v:Value}{c d k:Nat}{x:Rat}(hc:c≤k)(hd:d≤k):WkA (cat [PinA u ((ZN c (-x.num)).and (SepAll [] u)),PinA v ((ZN d ((x.den:Int)+0)).and (SepAll [u] v))]) (QD k (-x)):=by
 rw [Int.add_zero]
 exact zoo (q := -x) hc hd
theorem qd_cp {u v:Value}{c d k:Nat}{x:Rat}(hc:c≤k)(hd:d≤k):WkA (cat [PinA u ((ZN c (x.num+0)).and (SepAll [] u)),PinA v ((ZN d ((x.den:Int)+0)).and (SepAll [u] v))]) (QD k x):=by
 rw [Int.add_zero,Int.add_zero]
 exact zoo hc hd
theorem zta {c:Nat}{x:Rat}(hc:c≤137438953472):Cn Tryz.prog 161 [Qs c x] ((QD (max c 2+1) (-x)).va):=by
 refine Cn.intro Tryz.func161 rfl zk nq (fun B w0 a hst=>?_)
 have hst:St B w0 11 [(0,Qs c x)] [] a w0.w:=hst
 refine wp_seq ?_
 refine gl (sts:=[]) (news:=[⟨1,26,ptrH,some 0,_,none⟩,⟨2,26,ptrH,some 1,_,none⟩]) (sp:=[.alc 0,.alc 1]) [] hst (oc (zak rfl rfl rfl (gq 0 rfl)) (oc (zas rfl rfl rfl (Str.zero zb0)) o0)) (fun a w hst=>?_)
 have hst:St B w0 11 [] [⟨1,26,ptrH,_⟩,⟨2,26,ptrH,_⟩] a w:=hst
 refine zt ?_
 refine go_drawV' [[],[0],[0,1],[],[3],[0,1,2],[0,1,2,3,4,5],[0,1,2,3,4,5,6],[0,1,2,3,4,5,6,7]] (sts:=[none,some (8,fun ν=>_)]) (news:=[]) (sp:=[(fun ν=>.adr 3 1 (.some 0) True),(fun ν=>.val 4 _),(fun ν=>.val 5 (PinA (ν 2) ((ZN c (-x.num)).and (SepAll [] (ν 2)))).va),(fun ν=>.adr 6 1 (.some 2) True),(fun ν=>.val 7 _),(fun ν=>.val 8 _),(fun ν=>.val 9 (PinA (ν 6) ((ZN (max c 2+1) ((x.den:Int)+0)).and (SepAll [ν 2] (ν 6)))).va),(fun ν=>.val 10 _),(fun ν=>.sto 1)]) [] za7 hst ⟨of_u fun ν=>ob_a rfl rfl (zaa (lz0 0 rfl) zbn),⟨of_u fun ν=>ob_v rfl rfl (za4 0 rfl zk trivial (lz0 0 rfl) (Sub.part 0 rfl rfl) zac),⟨zbw (us:=fun ν=>[]) (xs:=[.tmp 4]) rfl rfl (zj9 zo) zdw ze3 (.cons upA_za.va .nil) (fun ν=>(.cons (vq 1 rfl) .nil)) (fun _ _=>rfl) (fun ν=>zb9),⟨of_u fun ν=>ob_a rfl rfl (zaa (lz0 0 rfl) zbf),⟨of_u fun ν=>ob_v rfl rfl (za4 3 rfl zk trivial (lz0 0 rfl) (Sub.part 1 rfl rfl) zac),⟨of_u fun ν=>ob_v rfl rfl (za5 (xs:=[.const (.int .i64 (0))]) (of_z zd zd) (.cons za3 .nil)),⟨zbw (us:=fun ν=>[ν 2]) (xs:=[.tmp 7,.tmp 8]) rfl rfl (zll zo zo) zdw ze3 (.cons upA_za.va (.cons upA_za.va .nil)) (fun ν=>(.cons (vq 4 rfl) (.cons (vq 5 rfl) .nil))) (fun _ _=>rfl) (fun ν=>(zbh (zb1 zdw) (vq 2 rfl) zb9)),⟨of_u fun ν=>ob_v rfl rfl (zbb (xs:=[(0,.tmp 5),(1,.tmp 9)]) (qs:=[(0,_),(1,_)]) zb0 (.cons ⟨rfl,(vq 2 rfl),rfl⟩ (.cons ⟨rfl,(vq 6 rfl),rfl⟩ .nil))),⟨of_u fun ν=>zag rfl rfl rfl (vq 7 rfl) zaf (Eq.trans (b:=4) rfl rfl),trivial⟩⟩⟩⟩⟩⟩⟩⟩⟩ ⟨(fun ν ν' h=>rfl),⟨(fun ν ν' h=>rfl),⟨(fun ν ν' h=>by first | rfl | simp only [h 2 rfl]),⟨(fun ν ν' h=>rfl),⟨(fun ν ν' h=>rfl),⟨(fun ν ν' h=>by first | rfl | simp only [h 2 rfl]),⟨(fun ν ν' h=>by first | rfl | simp only [h 2 rfl,h 6 rfl]),⟨(fun ν ν' h=>by first | rfl | simp only [h 2 rfl,h 6 rfl]),⟨(fun ν ν' h=>by first | rfl | simp only [h 2 rfl,h 6 rfl]),trivial⟩⟩⟩⟩⟩⟩⟩⟩⟩ ⟨trivial,⟨(fun ν ν' h=>by first | rfl | simp only [h 2 rfl,h 6 rfl]),trivial⟩⟩ zk zk (fun ν=>by kernel_rfl) (fun ν=>by kernel_rfl) (fun ν1 a w hst=>?_)
 have hst:St B w0 11 [] [⟨1,26,ptrH,_⟩,⟨2,26,ptrH,_⟩] a w:=hst
 refine za0 ?_
 refine wp_ret ?_
 refine zan ?_ (zao rfl hst (zm 1 rfl) zaf)
 exact (qd_tn zo zo).va
theorem copyD_r {c:Nat}{x:Rat}(hc:c≤137438953472):Cn Tryz.prog 218 [Qs c x] ((QD (max c 2+1) x).va):=by
 refine Cn.intro Tryz.func218 rfl zk nq (fun B w0 a hst=>?_)
 have hst:St B w0 14 [(0,Qs c x)] [] a w0.w:=hst
 refine wp_seq ?_
 refine gl (sts:=[]) (news:=[⟨1,26,ptrH,some 0,_,none⟩,⟨2,26,ptrH,some 1,_,none⟩]) (sp:=[.alc 0,.alc 1]) [] hst (oc (zak rfl rfl rfl (gq 0 rfl)) (oc (zas rfl rfl rfl (Str.zero zb0)) o0)) (fun a w hst=>?_)
 have hst:St B w0 14 [] [⟨1,26,ptrH,_⟩,⟨2,26,ptrH,_⟩] a w:=hst
 refine zt<|gl (sts:=[none,none]) (news:=[⟨3,24,ptrH,some 1,_,some (2,_)⟩]) (sp:=[.val 4 _,.alc 2,.sto 2]) [] hst (zv rfl (za5 (xs:=[.const (.int .i64 (0))]) (of_z zd zd) (.cons za3 .nil)) (oc (zas rfl rfl rfl (Str.zero zbq)) (oc (zag rfl rfl rfl (vq 0 rfl) zac (Eq.trans (b:=2) rfl rfl)) o0))) (fun a w hst=>?_)
 have hst:St B w0 14 [] [⟨1,26,ptrH,_⟩,⟨2,26,ptrH,_⟩,⟨3,24,ptrH,_⟩] a w:=hst
 refine zt ?_
 refine go_drawV' [[],[0],[],[0,1,2],[],[4],[],[0,1,2,3,4,5,6],[0,1,2,3,4,5,6,7],[0,1,2,3,4,5,6,7,8]] (sts:=[none,some (9,fun ν=>_),none]) (news:=[]) (sp:=[(fun ν=>.adr 5 1 (.some 0) True),(fun ν=>.val 6 _),(fun ν=>.val 7 _),(fun ν=>.val 8 (PinA (ν 3) ((ZN (max c 2+1) (x.num+0)).and (SepAll [] (ν 3)))).va),(fun ν=>.adr 9 1 (.some 2) True),(fun ν=>.val 10 _),(fun ν=>.val 11 _),(fun ν=>.val 12 (PinA (ν 7) ((ZN (max c 2+1) ((x.den:Int)+0)).and (SepAll [ν 3] (ν 7)))).va),(fun ν=>.val 13 _),(fun ν=>.sto 1)]) [] za7 hst ⟨of_u fun ν=>ob_a rfl rfl (zaa (lz0 0 rfl) zbn),⟨of_u fun ν=>ob_v rfl rfl (za4 0 rfl zk trivial (lz0 0 rfl) (Sub.part 0 rfl rfl) zac),⟨of_u fun ν=>ob_v rfl rfl (zab (lz0 2 rfl) zac),⟨zbw (us:=fun ν=>[]) (xs:=[.tmp 6,.tmp 7]) rfl rfl (zll zo zo) zdw ze3 (.cons upA_za.va (.cons upA_za.va .nil)) (fun ν=>(.cons (vq 1 rfl) (.cons (vq 2 rfl) .nil))) (fun _ _=>rfl) (fun ν=>zb9),⟨of_u fun ν=>ob_a rfl rfl (zaa (lz0 0 rfl) zbf),⟨of_u fun ν=>ob_v rfl rfl (za4 4 rfl zk trivial (lz0 0 rfl) (Sub.part 1 rfl rfl) zac),⟨of_u fun ν=>ob_v rfl rfl (zab (lz0 2 rfl) zac),⟨zbw (us:=fun ν=>[ν 3]) (xs:=[.tmp 10,.tmp 11]) rfl rfl (zll zo zo) zdw ze3 (.cons upA_za.va (.cons upA_za.va .nil)) (fun ν=>(.cons (vq 5 rfl) (.cons (vq 6 rfl) .nil))) (fun _ _=>rfl) (fun ν=>(zbh (zb1 zdw) (vq 3 rfl) zb9)),⟨of_u fun ν=>ob_v rfl rfl (zbb (xs:=[(0,.tmp 8),(1,.tmp 12)]) (qs:=[(0,_),(1,_)]) zb0 (.cons ⟨rfl,(vq 3 rfl),rfl⟩ (.cons ⟨rfl,(vq 7 rfl),rfl⟩ .nil))),⟨of_u fun ν=>zag rfl rfl rfl (vq 8 rfl) zaf (Eq.trans (b:=4) rfl rfl),trivial⟩⟩⟩⟩⟩⟩⟩⟩⟩⟩ ⟨(fun ν ν' h=>rfl),⟨(fun ν ν' h=>rfl),⟨(fun ν ν' h=>rfl),⟨(fun ν ν' h=>by first | rfl | simp only [h 3 rfl]),⟨(fun ν ν' h=>rfl),⟨(fun ν ν' h=>rfl),⟨(fun ν ν' h=>rfl),⟨(fun ν ν' h=>by first | rfl | simp only [h 3 rfl,h 7 rfl]),⟨(fun ν ν' h=>by first | rfl | simp only [h 3 rfl,h 7 rfl]),⟨(fun ν ν' h=>by first | rfl | simp only [h 3 rfl,h 7 rfl]),trivial⟩⟩⟩⟩⟩⟩⟩⟩⟩⟩ ⟨trivial,⟨(fun ν ν' h=>by first | rfl | simp only [h 3 rfl,h 7 rfl]),⟨trivial,trivial⟩⟩⟩ zk zk (fun ν=>by kernel_rfl) (fun ν=>by kernel_rfl) (fun ν2 a w hst=>?_)
 have hst:St B w0 14 [] [⟨1,26,ptrH,_⟩,⟨2,26,ptrH,_⟩,⟨3,24,ptrH,_⟩] a w:=hst
 refine za0 ?_
 refine wp_ret ?_
 refine zan ?_ (zao rfl hst (zm 1 rfl) zaf)
 exact (qd_cp zo zo).va
theorem up_inS {n:Int}:Up (In n) (In n):=fun _ _ _ _ h=>h
theorem zxu {p q:Int}(hp : -9223372036854775808≤p)(hp1:p<9223372036854775808)(hq : -9223372036854775808≤q)(hq1:q<9223372036854775808)(h0:q≠0):Cn Tryz.prog 94 [In p,In q] ((QD 2 (Rat.divInt p q)).va):=by
 refine Cn.intro Tryz.func94 rfl zk nq (fun B w0 a hst=>?_)
 have hst:St B w0 10 [(0,In p),(1,In q)] [] a w0.w:=hst
 refine wp_seq ?_
 refine gl (sts:=[]) (news:=[⟨4,26,ptrH,some 0,_,none⟩]) (sp:=[.alc 0]) [.g 0,.g 1] hst (oc (zas rfl rfl rfl (Str.zero zb0)) o0) (fun a w hst=>?_)
 have hst:St B w0 10 [(0,_),(1,_)] [⟨4,26,ptrH,_⟩] a w:=hst
 refine zt<|zeh (sts:=[some (5,fun ν=>_)]) (news:=[]) (sp:=[(fun ν=>.val 5 _),(fun ν=>.val 6 (PinA (ν 1) ((ZN 2 p).and (SepAll [] (ν 1)))).va),(fun ν=>.val 7 _),(fun ν=>.val 8 (PinA (ν 3) ((ZN 2 q).and (SepAll [ν 1] (ν 3)))).va),(fun ν=>.val 9 _),(fun ν=>.sto 0)]) [] hst ⟨of_u fun ν=>ob_v rfl rfl (za2 (gq 0 rfl)),⟨zbw (us:=fun ν=>[]) (xs:=[.tmp 5]) rfl rfl (of_zn hp hp1) zdw ze3 (.cons up_inS .nil) (fun ν=>(.cons (vq 0 rfl) .nil)) (fun _ _=>rfl) (fun ν=>zb9),⟨of_u fun ν=>ob_v rfl rfl (za2 (gq 1 rfl)),⟨zbw (us:=fun ν=>[ν 1]) (xs:=[.tmp 7]) rfl rfl (of_zn hq hq1) zdw ze3 (.cons up_inS .nil) (fun ν=>(.cons (vq 2 rfl) .nil)) (fun _ _=>rfl) (fun ν=>(zbh (zb1 zdw) (vq 1 rfl) zb9)),⟨of_u fun ν=>ob_v rfl rfl (za5 (xs:=[.tmp 6,.tmp 8]) (znl zd zd h0) (.cons (vq 1 rfl) (.cons (vq 3 rfl) .nil))),⟨of_u fun ν=>zag rfl rfl rfl (vq 4 rfl) zaf (Eq.trans (b:=4) rfl rfl),trivial⟩⟩⟩⟩⟩⟩ ⟨(fun ν ν' h=>rfl),⟨(fun ν ν' h=>by first | rfl | simp only [h 1 rfl]),⟨(fun ν ν' h=>by first | rfl | simp only [h 1 rfl]),⟨(fun ν ν' h=>by first | rfl | simp only [h 1 rfl,h 3 rfl]),⟨(fun ν ν' h=>by first | rfl | simp only [h 1 rfl,h 3 rfl]),⟨(fun ν ν' h=>by first | rfl | simp only [h 1 rfl,h 3 rfl]),trivial⟩⟩⟩⟩⟩⟩ ⟨(fun ν ν' h=>by first | rfl | simp only [h 1 rfl,h 3 rfl]),trivial⟩ zk (fun ν=>by kernel_rfl) (fun ν=>by kernel_rfl) (fun ν1 a w hst=>?_)
 have hst:St B w0 10 [] [⟨4,26,ptrH,_⟩] a w:=hst
 refine za0 ?_
 refine wp_ret ?_
 refine zan ?_ (zao rfl hst (zm 0 rfl) zaf)
 exact zbt
theorem oneD_q  : Cn Tryz.prog 162 [] ((QD 2 1).va):=by
 refine Cn.intro Tryz.func162 rfl zk nq (fun B w0 a hst=>?_)
 have hst:St B w0 2 [] [] a w0.w:=hst
 refine wp_seq ?_
 refine gl (sts:=[]) (news:=[⟨0,26,ptrH,some 0,_,none⟩]) (sp:=[.alc 0]) [] hst (oc (zas rfl rfl rfl (Str.zero zb0)) o0) (fun a w hst=>?_)
 have hst:St B w0 2 [] [⟨0,26,ptrH,_⟩] a w:=hst
 refine zt<|gl (sts:=[some (1,_)]) (news:=[]) (sp:=[.val 1 _,.sto 0]) [] hst (zv rfl (za5 (xs:=[.const (.int .i64 (1)),.const (.int .i64 (1))]) (zxu zd zd zd zd zd) (.cons za3 (.cons za3 .nil))) (oc (zag rfl rfl rfl (vq 0 rfl) zaf (Eq.trans (b:=4) rfl rfl)) o0)) (fun a w hst=>?_)
 have hst:St B w0 2 [] [⟨0,26,ptrH,_⟩] a w:=hst
 refine za0 ?_
 refine wp_ret ?_
 refine zan ?_ (zao rfl hst (zm 0 rfl) zaf)
 exact zbz (congrArg (fun z=>(QD 2 z).va) (show Rat.divInt 1 1=1 from rfl))
theorem zmy {c:Nat}{x:Rat}(hc:c≤137438953472):Cn Tryz.prog 161 [Qs c x] (QD c (-x)).va :=
 Cn.know (c:=lz x.num≤c∧lz (x.den:Int)≤c) zsq (fun B w args ha=>by cases ha with | cons h1 _=>exact qs_le h1) fun h=>(zta hc).wkp (qd_of (by rw [Rat.neg_num,zgv]; exact h.1) (by rw [Rat.neg_den]; exact h.2)).va
theorem zih {c:Nat}{x:Rat}(hc:c≤137438953472):Cn Tryz.prog 218 [Qs c x] (QD c x).va :=
 Cn.know (c:=lz x.num≤c∧lz (x.den:Int)≤c) zqs (fun B w args ha=>by cases ha with | cons h1 _=>exact qs_le h1) fun h=>(copyD_r hc).wkp (qd_of h.1 h.2).va
end Go.Proofs.YthncfchnkjemiaaGreatDoor
namespace Go.Proofs.YthncfchnkjemiaaGreatDoor
open Go Go.RowKit
end Go.Proofs.YthncfchnkjemiaaGreatDoor
namespace Go.Proofs.YthncfchnkjemiaaGreatDoor
open Go Go.RowKit
def NilM:As where
 n:=1
 ag:=false
 p _ cs _:=cs=[.slice none 0 0]
 deps:=[]
 len:=by rintro B cs w rfl; rfl
 one:=by rintro B cs w rfl x hx; simp at hx; subst hx; rfl
 ag1:=fun _=>rfl
 cg:=fun _ _ _ _ _ h=>h
 wr:=fun _ _ _ _ _ _ _ _ _ _ _ _ h=>h
def NilI:As:=cat [BoA false,NilM]
def RFN (x:RF):As:=cat [RIN x.num,RIN x.den]
def RFD (x:RF):As:=DisA (RFN x)
theorem zvi {x:RF}:NewA (RFD x):=zk1 (zfy fun A hA=>by
 simp at hA
 rcases hA with rfl | rfl <;> exact zov _)
theorem free_rfd {x:RF}:FreeA (RFD x) (RFD x):=zht (zec (.cons (zfl _) (.cons (zfl _) .nil)))
theorem rfd_rfa {x:RF}:WkA (RFD x) (RFA x):=dis_wk.trans (zc8 (.cons wkA_riN (.cons wkA_riN .nil)))
theorem qd_rfd {k:Nat}{q:Rat}:WkA (QD k q) (RFD (rfOf q)):=zeu (zc8 (.cons and_wk (.cons and_wk .nil)))
theorem zf2:Str Tryz.prog 26 [NilI,NilI] :=
 Str.of (z:=.agg #[.bool false,.slice none 0 0,.bool false,.slice none 0 0]) zk Tryz.underlying26 zk fun B w=>⟨[[.bool false,.slice none 0 0],[.bool false,.slice none 0 0]],rfl,.cons ⟨[[.bool false],[.slice none 0 0]],rfl,.cons rfl (.cons rfl .nil)⟩ (.cons ⟨[[.bool false],[.slice none 0 0]],rfl,.cons rfl (.cons rfl .nil)⟩ .nil)⟩
theorem zng {B:Nat}{cs:List Value}{w:World}(h:(cat [NilI,NilI]).p B cs w):cs=[.bool false,.slice none 0 0,.bool false,.slice none 0 0]:=by
 obtain ⟨ps,rfl,hp⟩:=h
 have hI:∀ c,NilI.p B c w→c=[.bool false,.slice none 0 0]:=fun c ⟨qs,e,hq⟩=>by
  cases hq with
  | @cons _ c1 _ _ h1 hq=>cases hq with
   | @cons _ c2 _ _ h2 hq =>
    cases hq
    have h1':c1=[.bool false]:=h1
    have h2':c2=[.slice none 0 0]:=h2
    rw [e,h1',h2']
    rfl
 cases hp with
 | cons h1 hp=>cases hp with
  | cons h2 hp =>
   cases hp
   rw [hI _ h1,hI _ h2]
   rfl
theorem zf_rfd:WkA (cat [NilI,NilI]) (RFD rf0):=⟨rfl,rfl,fun B cs w h=>by
 have hi:(RIN ⟨false,[]⟩).p B [.bool false,.slice none 0 0] w:=⟨[[.bool false],[.slice none 0 0]],rfl,.cons rfl (.cons ⟨zdh,.inl ⟨rfl,rfl⟩⟩ .nil)⟩
 rw [zng h]
 exact ⟨⟨[[.bool false,.slice none 0 0],[.bool false,.slice none 0 0]],rfl,.cons hi (.cons hi .nil)⟩,List.nodup_nil⟩⟩
abbrev FrD (r:RF × Int):VA:=Tu [(RFD r.1).va,In r.2]
section
open Rg
variable {P:Program} {Q:Exit→Act→World→Prop} {B N:Nat} {w0:Bs} {Γ:List (Nat × VA)} {ops:Array Oper} {les:List LeF} {sp:List ((Nat→Value)→Sp)} {anc:Nat→List Nat} {i:Nat}
end
end Go.Proofs.YthncfchnkjemiaaGreatDoor
namespace Go.Proofs.YthncfchnkjemiaaGreatDoor
open Go Go.RowKit
end Go.Proofs.YthncfchnkjemiaaGreatDoor
