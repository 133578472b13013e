import Derived.Test.YthncfchnkjemiaaGreatDoorRgAa
import Derived.Test.YthncfchnkjemiaaGreatDoorRgAc
import Derived.Test.YthncfchnkjemiaaGreatDoorRgAm
import Derived.Test.YthncfchnkjemiaaGreatDoorRgAn
set_option linter.unusedVariables false
set_option linter.unusedSimpArgs false
set_option linter.unusedSectionVars false
set_option maxRecDepth 100000
namespace Go.Proofs.YthncfchnkjemiaaGreatDoor
open Go Go.RowKit
theorem qd_pins {u v:Value} {c d k:Nat} {q:Rat} (hc:c≤k) (hd:d≤k):WkA (cat [PinA u ((ZN c q.num).and (SepAll [] u)),PinA v ((ZN d (q.den:Int)).and (SepAll [u] v))]) (QD k q) :=
 (zhc (l:=[(u,ZN c q.num),(v,ZN d (q.den:Int))]) (fun x hx=>by
  simp at hx
  rcases hx with rfl | rfl <;> exact nod_zn)).trans (zer (zc0 (.cons (zks hc) (.cons (zks hd) .nil))))
theorem lowestD_c {u0 v0:Value} {c d:Nat} {p q:Int} (hc:c≤549755813888) (hd:d≤549755813888) (hq:q≠0):Cn Tryz.prog 244 [(PinA u0 ((ZN c p).and (SepAll [] u0))).va,(PinA v0 ((ZN d q).and (SepAll [u0] v0))).va] ((QD (max c d) (Rat.divInt p q)).va):=by
 have hg0:0<Int.gcd p q:=Int.gcd_pos_of_ne_zero_right p hq
 obtain ⟨hn1,hn2⟩:=low_num (p:=p) hq
 refine Cn.intro Tryz.func244 rfl zk nq (fun B w0 a hst=>?_)
 have hst:St B w0 35 [(0,(PinA u0 ((ZN c p).and (SepAll [] u0))).va),(1,(PinA v0 ((ZN d q).and (SepAll [u0] v0))).va)] [] a w0.w:=hst
 refine wp_seq ?_
 refine gl (sts:=[]) (news:=[⟨2,24,ptrH,some 0,_,none⟩,⟨3,24,ptrH,some 1,_,none⟩,⟨4,26,ptrH,some 2,_,none⟩]) (sp:=[.alc 0,.alc 1,.alc 2]) [] hst (oc (zai rfl rfl rfl (gq 0 rfl)) (oc (zai rfl rfl rfl (gq 1 rfl)) (oc (zau rfl rfl rfl (Str.zero zb5)) o0))) (fun a w hst=>?_)
 have hst:St B w0 35 [] [⟨2,24,ptrH,_⟩,⟨3,24,ptrH,_⟩,⟨4,26,ptrH,_⟩] a w:=hst
 refine zt ?_
 refine wp_seq ?_
 refine gl (sts:=[none,none,none]) (news:=[⟨5,24,ptrH,some 3,_,some (4,_)⟩]) (sp:=[.val 6 _,.val 7 _,.val 8 _,.alc 3,.sto 3]) [] hst (zv rfl rfl (zac (lz0 0 rfl) zab) (zv rfl rfl (zac (lz0 1 rfl) zab) (zv rfl rfl (za5 (xs:=[.tmp 6,.tmp 7]) (common_z zo zo) (.cons (has_wk' (vq 0 rfl) pz_za.va) (.cons (has_wk' (vq 1 rfl) pz_za.va) .nil))) (oc (zau rfl rfl rfl (Str.zero zbm)) (oc (zak rfl rfl rfl (vq 2 rfl) zab (Eq.trans (b:=2) rfl rfl)) o0))))) (fun a w hst=>?_)
 have hst:St B w0 35 [] [⟨2,24,ptrH,_⟩,⟨3,24,ptrH,_⟩,⟨4,26,ptrH,_⟩,⟨5,24,ptrH,_⟩] a w:=hst
 refine zt ?_
 refine zaw (anc:=[[],[],[0,1],[0,1,2]]) (sts:=[none,none,none,none]) (news:=[]) (sp:=[.val 9 _,.val 10 _,.val 11 _,.val 12 _]) [.o 3] za7 hst (zv rfl rfl (zac (lz0 3 rfl) zab) (zv rfl rfl (za5 (xs:=[.const (.int .i64 (1))]) (of_z zd zd) (.cons za3 .nil)) (zv rfl rfl (za5 (xs:=[.tmp 9,.tmp 10]) (cmp_z zo zo) (.cons (vq 0 rfl) (.cons (vq 1 rfl) .nil))) (zv rfl rfl (zdc (vq 2 rfl) za3) o0)))) zk zk zk zk (fun a w hst=>?_)
 have hst:St B w0 35 [(12,_)] [⟨2,24,ptrH,_⟩,⟨3,24,ptrH,_⟩,⟨4,26,ptrH,_⟩,⟨5,24,ptrH,_⟩] a w:=hst
 refine za0 ?_
 refine zcs (fun a w=>∃ u v:Value,St B w0 35 [] [⟨2,24,ptrH,PinA u ((ZN c (p.tdiv ((Int.gcd p q:Nat):Int))).and (SepAll [] u))⟩,⟨3,24,ptrH,PinA v ((ZN d (q.tdiv ((Int.gcd p q:Nat):Int))).and (SepAll [u] v))⟩,⟨4,26,ptrH,RFA ⟨⟨false,[]⟩,⟨false,[]⟩⟩⟩,⟨5,24,ptrH,ZA (max c d) ((Int.gcd p q:Nat):Int)⟩] a w) hst (zm 0 rfl) (fun hb0=>?_) (fun hb0=>?_) (fun a w hst=>?_)
 ·refine wp_seq ?_
  refine zgo (sts:=[some (6,fun ν=>_),none,none,none]) (news:=[]) (sp:=[(fun ν=>.val 14 _),(fun ν=>.val 15 _),(fun ν=>.val 16 (PinT (ν 2) [ZN c (p.tdiv ((Int.gcd p q:Nat):Int)),ZN (max c d) (p.tmod ((Int.gcd p q:Nat):Int))] [v0])),(fun ν=>.val 13 _),(fun ν=>.val 17 (PinA (ν 4) ((ZN c (p.tdiv ((Int.gcd p q:Nat):Int))).and (SepAll [v0] (ν 4)))).va),(fun ν=>.val 18 (PinA (ν 5) ((ZN (max c d) (p.tmod ((Int.gcd p q:Nat):Int))).and (SepAll [v0] (ν 5)))).va),(fun ν=>.sto 0)]) [] hst ⟨of_u fun ν=>ob_v rfl rfl (zac (lz0 0 rfl) zab),⟨of_u fun ν=>ob_v rfl rfl (zac (lz0 3 rfl) zab),⟨zg9 (us:=fun ν=>[v0]) (xs:=[.tmp 14,.tmp 15]) rfl rfl (divide_zn zo zo) nf_zn (.cons upA_za.va (.cons upA_za.va .nil)) (fun ν=>(.cons (has_wk' (vq 0 rfl) pz_za.va) (.cons (vq 1 rfl) .nil))) (fun _ _=>rfl) (fun ν=>(zc9 (zbn zez) (lz0 1 rfl) zbp)),⟨of_u fun ν=>ob_v rfl rfl (za2 (vq 2 rfl)),⟨zi7 (us:=fun ν=>[v0]) rfl rfl (fun ν=>(vq 3 rfl)) rfl (fun _ _=>rfl),⟨zi7 (us:=fun ν=>[v0]) rfl rfl (fun ν=>(vq 3 rfl)) rfl (fun _ _=>rfl),⟨of_u fun ν=>zak rfl rfl rfl (vq 4 rfl) zab (Eq.trans (b:=2) rfl rfl),trivial⟩⟩⟩⟩⟩⟩⟩ ⟨(fun ν ν' h=>rfl),⟨(fun ν ν' h=>rfl),⟨(fun ν ν' h=>by first | rfl | simp only [h 2 rfl]),⟨(fun ν ν' h=>by first | rfl | simp only [h 2 rfl]),⟨(fun ν ν' h=>by first | rfl | simp only [h 2 rfl,h 4 rfl]),⟨(fun ν ν' h=>by first | rfl | simp only [h 2 rfl,h 4 rfl,h 5 rfl]),⟨(fun ν ν' h=>by first | rfl | simp only [h 2 rfl,h 4 rfl,h 5 rfl]),trivial⟩⟩⟩⟩⟩⟩⟩ ⟨(fun ν ν' h=>by first | rfl | simp only [h 2 rfl,h 4 rfl,h 5 rfl]),⟨trivial,⟨trivial,⟨trivial,trivial⟩⟩⟩⟩ zk (fun ν=>by kernel_rfl) (fun ν=>by kernel_rfl) (fun ν3 a w hst=>?_)
  have hst:St B w0 35 [] [⟨2,24,ptrH,_⟩,⟨3,24,ptrH,_⟩,⟨4,26,ptrH,_⟩,⟨5,24,ptrH,_⟩] a w:=hst
  refine za0 ?_
  refine zgo (sts:=[none,some (6,fun ν=>_),none,none]) (news:=[]) (sp:=[(fun ν=>.val 20 _),(fun ν=>.val 21 _),(fun ν=>.val 22 (PinT (ν 2) [ZN d (q.tdiv ((Int.gcd p q:Nat):Int)),ZN (max c d) (q.tmod ((Int.gcd p q:Nat):Int))] [(ν3 4)])),(fun ν=>.val 19 _),(fun ν=>.val 23 (PinA (ν 4) ((ZN d (q.tdiv ((Int.gcd p q:Nat):Int))).and (SepAll [(ν3 4)] (ν 4)))).va),(fun ν=>.val 24 (PinA (ν 5) ((ZN (max c d) (q.tmod ((Int.gcd p q:Nat):Int))).and (SepAll [(ν3 4)] (ν 5)))).va),(fun ν=>.sto 1)]) [] hst ⟨of_u fun ν=>ob_v rfl rfl (zac (lz0 1 rfl) zab),⟨of_u fun ν=>ob_v rfl rfl (zac (lz0 3 rfl) zab),⟨zg9 (us:=fun ν=>[(ν3 4)]) (xs:=[.tmp 20,.tmp 21]) rfl rfl (divide_zn zo zo) nf_zn (.cons upA_za.va (.cons upA_za.va .nil)) (fun ν=>(.cons (has_wk' (vq 0 rfl) pz_za.va) (.cons (vq 1 rfl) .nil))) (fun _ _=>rfl) (fun ν=>(zc9 (zbn zez) (lz0 0 rfl) zbp)),⟨of_u fun ν=>ob_v rfl rfl (za2 (vq 2 rfl)),⟨zi7 (us:=fun ν=>[(ν3 4)]) rfl rfl (fun ν=>(vq 3 rfl)) rfl (fun _ _=>rfl),⟨zi7 (us:=fun ν=>[(ν3 4)]) rfl rfl (fun ν=>(vq 3 rfl)) rfl (fun _ _=>rfl),⟨of_u fun ν=>zak rfl rfl rfl (vq 4 rfl) zab (Eq.trans (b:=2) rfl rfl),trivial⟩⟩⟩⟩⟩⟩⟩ ⟨(fun ν ν' h=>rfl),⟨(fun ν ν' h=>rfl),⟨(fun ν ν' h=>by first | rfl | simp only [h 2 rfl]),⟨(fun ν ν' h=>by first | rfl | simp only [h 2 rfl]),⟨(fun ν ν' h=>by first | rfl | simp only [h 2 rfl,h 4 rfl]),⟨(fun ν ν' h=>by first | rfl | simp only [h 2 rfl,h 4 rfl,h 5 rfl]),⟨(fun ν ν' h=>by first | rfl | simp only [h 2 rfl,h 4 rfl,h 5 rfl]),trivial⟩⟩⟩⟩⟩⟩⟩ ⟨trivial,⟨(fun ν ν' h=>by first | rfl | simp only [h 2 rfl,h 4 rfl,h 5 rfl]),⟨trivial,⟨trivial,trivial⟩⟩⟩⟩ zk (fun ν=>by kernel_rfl) (fun ν=>by kernel_rfl) (fun ν4 a w hst=>?_)
  have hst:St B w0 35 [] [⟨2,24,ptrH,_⟩,⟨3,24,ptrH,_⟩,⟨4,26,ptrH,_⟩,⟨5,24,ptrH,_⟩] a w:=hst
  refine za0 ?_
  have hst:=St.sel hst []
  have hst:=St.wkL (A':=PinA (ν3 4) ((ZN c (p.tdiv ((Int.gcd p q:Nat):Int))).and (SepAll [] (ν3 4)))) hst 0 rfl (pin_mono and_triv)
  exact ⟨ν3 4,ν4 4,hst⟩
 ·refine wp_skip ?_
  refine za0 ?_
  have hst:=St.sel hst []
  have hst:=St.cvA (A':=PinA u0 ((ZN c (p.tdiv ((Int.gcd p q:Nat):Int))).and (SepAll [] u0))) hst 0 rfl (congrArg (fun z=>PinA u0 ((ZN c z).and (SepAll [] u0))) (tdiv_g hb0))
  have hst:=St.cvA (A':=PinA v0 ((ZN d (q.tdiv ((Int.gcd p q:Nat):Int))).and (SepAll [u0] v0))) hst 1 rfl (congrArg (fun z=>PinA v0 ((ZN d z).and (SepAll [u0] v0))) (tdiv_g hb0))
  exact ⟨u0,v0,hst⟩
 obtain ⟨u1,v1,hst⟩:=hst
 refine zt ?_
 refine wp_seq ?_
 refine gl (sts:=[none,none,none,none]) (news:=[]) (sp:=[.val 25 _,.val 26 _,.val 27 _]) [.o 2] hst (zv rfl rfl (zac (lz0 1 rfl) zab) (zv rfl rfl (za5 (xs:=[.tmp 25]) sign_z (.cons (has_wk' (vq 0 rfl) pz_za.va) .nil)) (zv rfl rfl (zb7 (vq 1 rfl) za3) o0))) (fun a w hst=>?_)
 have hst:St B w0 35 [(27,_)] [⟨2,24,ptrH,_⟩,⟨3,24,ptrH,_⟩,⟨4,26,ptrH,_⟩,⟨5,24,ptrH,_⟩] a w:=hst
 refine za0 ?_
 refine zcs (fun a w=>∃ u v:Value,St B w0 35 [] [⟨2,24,ptrH,PinA u ((ZN c (Rat.divInt p q).num).and (SepAll [] u))⟩,⟨3,24,ptrH,PinA v ((ZN d ((Rat.divInt p q).den:Int)).and (SepAll [u] v))⟩,⟨4,26,ptrH,RFA ⟨⟨false,[]⟩,⟨false,[]⟩⟩⟩,⟨5,24,ptrH,ZA (max c d) ((Int.gcd p q:Nat):Int)⟩] a w) hst (zm 0 rfl) (fun hb1=>?_) (fun hb1=>?_) (fun a w hst=>?_)
 ·refine go_drawV' [[],[0],[],[0,1,2],[0,1,2,3],[0,1,2,3,4]] (sts:=[some (4,fun ν=>_),some (5,fun ν=>_),none,none]) (news:=[]) (sp:=[(fun ν=>.val 28 _),(fun ν=>.val 29 (PinA (ν 1) ((ZN c (-(p.tdiv ((Int.gcd p q:Nat):Int)))).and (SepAll [] (ν 1)))).va),(fun ν=>.val 30 _),(fun ν=>.val 31 (PinA (ν 3) ((ZN d (-(q.tdiv ((Int.gcd p q:Nat):Int)))).and (SepAll [ν 1] (ν 3)))).va),(fun ν=>.sto 0),(fun ν=>.sto 1)]) [] za7 hst ⟨of_u fun ν=>ob_v rfl rfl (zac (lz0 0 rfl) zab),⟨zcq (us:=fun ν=>[]) (xs:=[.tmp 28]) rfl rfl (turned_zn zo) zez zfe (.cons upA_za.va .nil) (fun ν=>(.cons (has_wk' (vq 0 rfl) pz_za.va) .nil)) (fun _ _=>rfl) (fun ν=>zbp),⟨of_u fun ν=>ob_v rfl rfl (zac (lz0 1 rfl) zab),⟨zcq (us:=fun ν=>[ν 1]) (xs:=[.tmp 30]) rfl rfl (turned_zn zo) zez zfe (.cons upA_za.va .nil) (fun ν=>(.cons (has_wk' (vq 2 rfl) pz_za.va) .nil)) (fun _ _=>rfl) (fun ν=>(zcd (zbn zez) (vq 1 rfl) zbp)),⟨of_u fun ν=>zak rfl rfl rfl (vq 1 rfl) zab (Eq.trans (b:=2) rfl rfl),⟨of_u fun ν=>zak rfl rfl rfl (vq 3 rfl) zab (Eq.trans (b:=2) rfl rfl),trivial⟩⟩⟩⟩⟩⟩ ⟨(fun ν ν' h=>rfl),⟨(fun ν ν' h=>by first | rfl | simp only [h 1 rfl]),⟨(fun ν ν' h=>rfl),⟨(fun ν ν' h=>by first | rfl | simp only [h 1 rfl,h 3 rfl]),⟨(fun ν ν' h=>by first | rfl | simp only [h 1 rfl,h 3 rfl]),⟨(fun ν ν' h=>by first | rfl | simp only [h 1 rfl,h 3 rfl]),trivial⟩⟩⟩⟩⟩⟩ ⟨(fun ν ν' h=>by first | rfl | simp only [h 1 rfl,h 3 rfl]),⟨(fun ν ν' h=>by first | rfl | simp only [h 1 rfl,h 3 rfl]),⟨trivial,⟨trivial,trivial⟩⟩⟩⟩ zk zk (fun ν=>by kernel_rfl) (fun ν=>by kernel_rfl) (fun ν6 a w hst=>?_)
  have hst:St B w0 35 [] [⟨2,24,ptrH,_⟩,⟨3,24,ptrH,_⟩,⟨4,26,ptrH,_⟩,⟨5,24,ptrH,_⟩] a w:=hst
  refine za0 ?_
  have hst:=St.sel hst []
  rw [if_pos (sgn_yes hb1)] at hn1 hn2; rw [hn1,hn2] at hst; exact ⟨ν6 1,ν6 3,hst⟩
 ·refine wp_skip ?_
  refine za0 ?_
  have hst:=St.sel hst []
  rw [if_neg (sgn_no hb1)] at hn1 hn2; rw [hn1,hn2] at hst; exact ⟨u1,v1,hst⟩
 obtain ⟨u2,v2,hst⟩:=hst
 refine zt ?_
 refine gl (sts:=[none,none,some (3,_),none]) (news:=[]) (sp:=[.val 32 _,.val 33 _,.val 34 _,.sto 2]) [] hst (zv rfl rfl (zac (lz0 0 rfl) zab) (zv rfl rfl (zac (lz0 1 rfl) zab) (zv rfl rfl (zbd (xs:=[(0,.tmp 32),(1,.tmp 33)]) (qs:=[(0,_),(1,_)]) zb5 (.cons ⟨rfl,(vq 0 rfl),rfl⟩ (.cons ⟨rfl,(vq 1 rfl),rfl⟩ .nil))) (oc (zak rfl rfl rfl (vq 2 rfl) zag (Eq.trans (b:=4) rfl rfl)) o0)))) (fun a w hst=>?_)
 have hst:St B w0 35 [] [⟨2,24,ptrH,_⟩,⟨3,24,ptrH,_⟩,⟨4,26,ptrH,_⟩,⟨5,24,ptrH,_⟩] a w:=hst
 refine za0 ?_
 refine wp_ret ?_
 refine zan ?_ (zar rfl hst (zm 2 rfl) zag)
 exact (qd_pins (Nat.le_max_left _ _) (Nat.le_max_right _ _)).va
theorem plusD_q {c d:Nat} {x y:Rat} (hc:c+d≤137438953472):Cn Tryz.prog 221 [Qs c x,Qs d y] ((QD (c+d+1) (x+y)).va):=by
 refine Cn.intro Tryz.func221 rfl zk nq (fun B w0 a hst=>?_)
 have hst:St B w0 22 [(0,Qs c x),(1,Qs d y)] [] a w0.w:=hst
 refine wp_seq ?_
 refine gl (sts:=[]) (news:=[⟨2,26,ptrH,some 0,_,none⟩,⟨3,26,ptrH,some 1,_,none⟩,⟨4,26,ptrH,some 2,_,none⟩]) (sp:=[.alc 0,.alc 1,.alc 2]) [] hst (oc (zai rfl rfl rfl (gq 0 rfl)) (oc (zai rfl rfl rfl (gq 1 rfl)) (oc (zau rfl rfl rfl (Str.zero zb5)) o0))) (fun a w hst=>?_)
 have hst:St B w0 22 [] [⟨2,26,ptrH,_⟩,⟨3,26,ptrH,_⟩,⟨4,26,ptrH,_⟩] a w:=hst
 refine zt ?_
 refine go_drawV' [[],[0],[],[2],[0,1,2,3],[],[5],[],[7],[0,1,2,3,4,5,6,7,8],[0,1,2,3,4,5,6,7,8,9],[],[11],[],[13],[0,1,2,3,4,5,6,7,8,9,10,11,12,13,14],[0,1,2,3,4,5,6,7,8,9,10,11,12,13,14,15],[0,1,2,3,4,5,6,7,8,9,10,11,12,13,14,15,16]] (sts:=[none,none,some (17,fun ν=>_)]) (news:=[]) (sp:=[(fun ν=>.adr 5 2 (.some 0) True),(fun ν=>.val 6 _),(fun ν=>.adr 7 3 (.some 2) True),(fun ν=>.val 8 _),(fun ν=>.val 9 _),(fun ν=>.adr 10 3 (.some 0) True),(fun ν=>.val 11 _),(fun ν=>.adr 12 2 (.some 2) True),(fun ν=>.val 13 _),(fun ν=>.val 14 _),(fun ν=>.val 15 (PinA (ν 10) ((ZN (max (c+d) (d+c)+1) (x.num*(y.den:Int)+y.num*(x.den:Int))).and (SepAll [] (ν 10)))).va),(fun ν=>.adr 16 2 (.some 2) True),(fun ν=>.val 17 _),(fun ν=>.adr 18 3 (.some 2) True),(fun ν=>.val 19 _),(fun ν=>.val 20 (PinA (ν 15) ((ZN (c+d) ((x.den:Int)*(y.den:Int))).and (SepAll [ν 10] (ν 15)))).va),(fun ν=>.val 21 _),(fun ν=>.sto 2)]) [] za7 hst ⟨of_u fun ν=>ob_a rfl rfl (za9 (lz0 0 rfl) zbh),⟨of_u fun ν=>ob_v rfl rfl (za4 0 rfl zk trivial (lz0 0 rfl) (Sub.part 0 rfl rfl) zab),⟨of_u fun ν=>ob_a rfl rfl (za9 (lz0 1 rfl) zb3),⟨of_u fun ν=>ob_v rfl rfl (za4 2 rfl zk trivial (lz0 1 rfl) (Sub.part 1 rfl rfl) zab),⟨of_u fun ν=>ob_v rfl rfl (za5 (xs:=[.tmp 6,.tmp 8]) (zdn zo zo) (.cons (vq 1 rfl) (.cons (vq 3 rfl) .nil))),⟨of_u fun ν=>ob_a rfl rfl (za9 (lz0 1 rfl) zbh),⟨of_u fun ν=>ob_v rfl rfl (za4 5 rfl zk trivial (lz0 1 rfl) (Sub.part 0 rfl rfl) zab),⟨of_u fun ν=>ob_a rfl rfl (za9 (lz0 0 rfl) zb3),⟨of_u fun ν=>ob_v rfl rfl (za4 7 rfl zk trivial (lz0 0 rfl) (Sub.part 1 rfl rfl) zab),⟨of_u fun ν=>ob_v rfl rfl (za5 (xs:=[.tmp 11,.tmp 13]) (zdn zo zo) (.cons (vq 6 rfl) (.cons (vq 8 rfl) .nil))),⟨zcq (us:=fun ν=>[]) (xs:=[.tmp 9,.tmp 14]) rfl rfl (plus_zn zo zo) zez zfe (.cons upA_za.va (.cons upA_za.va .nil)) (fun ν=>(.cons (vq 4 rfl) (.cons (vq 9 rfl) .nil))) (fun _ _=>rfl) (fun ν=>zbp),⟨of_u fun ν=>ob_a rfl rfl (za9 (lz0 0 rfl) zb3),⟨of_u fun ν=>ob_v rfl rfl (za4 11 rfl zk trivial (lz0 0 rfl) (Sub.part 1 rfl rfl) zab),⟨of_u fun ν=>ob_a rfl rfl (za9 (lz0 1 rfl) zb3),⟨of_u fun ν=>ob_v rfl rfl (za4 13 rfl zk trivial (lz0 1 rfl) (Sub.part 1 rfl rfl) zab),⟨zcq (us:=fun ν=>[ν 10]) (xs:=[.tmp 17,.tmp 19]) rfl rfl (times_zn zo zo) zez zfe (.cons upA_za.va (.cons upA_za.va .nil)) (fun ν=>(.cons (vq 12 rfl) (.cons (vq 14 rfl) .nil))) (fun _ _=>rfl) (fun ν=>(zcd (zbn zez) (vq 10 rfl) zbp)),⟨of_u fun ν=>ob_v rfl rfl (za5 (xs:=[.tmp 15,.tmp 20]) (lowestD_c zo zo (zjr x y)) (.cons (vq 10 rfl) (.cons (vq 15 rfl) .nil))),⟨of_u fun ν=>zak rfl rfl rfl (vq 16 rfl) zag (Eq.trans (b:=4) rfl rfl),trivial⟩⟩⟩⟩⟩⟩⟩⟩⟩⟩⟩⟩⟩⟩⟩⟩⟩⟩ ⟨(fun ν ν' h=>rfl),⟨(fun ν ν' h=>rfl),⟨(fun ν ν' h=>rfl),⟨(fun ν ν' h=>rfl),⟨(fun ν ν' h=>rfl),⟨(fun ν ν' h=>rfl),⟨(fun ν ν' h=>rfl),⟨(fun ν ν' h=>rfl),⟨(fun ν ν' h=>rfl),⟨(fun ν ν' h=>rfl),⟨(fun ν ν' h=>by first | rfl | simp only [h 10 rfl]),⟨(fun ν ν' h=>rfl),⟨(fun ν ν' h=>rfl),⟨(fun ν ν' h=>rfl),⟨(fun ν ν' h=>rfl),⟨(fun ν ν' h=>by first | rfl | simp only [h 10 rfl,h 15 rfl]),⟨(fun ν ν' h=>by first | rfl | simp only [h 10 rfl,h 15 rfl]),⟨(fun ν ν' h=>by first | rfl | simp only [h 10 rfl,h 15 rfl]),trivial⟩⟩⟩⟩⟩⟩⟩⟩⟩⟩⟩⟩⟩⟩⟩⟩⟩⟩ ⟨trivial,⟨trivial,⟨(fun ν ν' h=>by first | rfl | simp only [h 10 rfl,h 15 rfl]),trivial⟩⟩⟩ zk zk (fun ν=>by kernel_rfl) (fun ν=>by kernel_rfl) (fun ν1 a w hst=>?_)
 have hst:St B w0 22 [] [⟨2,26,ptrH,_⟩,⟨3,26,ptrH,_⟩,⟨4,26,ptrH,_⟩] a w:=hst
 refine za0 ?_
 refine wp_ret ?_
 refine zan ?_ (zar rfl hst (zm 2 rfl) zag)
 exact zci (zbv (congrArg (fun z=>(QD _ z).va) (rat_add x y))) (qd_mono zo).va
theorem minusD_q {c d:Nat} {x y:Rat} (hc:c+d≤137438953472):Cn Tryz.prog 182 [Qs c x,Qs d y] ((QD (c+d+1) (x - y)).va):=by
 refine Cn.intro Tryz.func182 rfl zk nq (fun B w0 a hst=>?_)
 have hst:St B w0 22 [(0,Qs c x),(1,Qs d y)] [] a w0.w:=hst
 refine wp_seq ?_
 refine gl (sts:=[]) (news:=[⟨2,26,ptrH,some 0,_,none⟩,⟨3,26,ptrH,some 1,_,none⟩,⟨4,26,ptrH,some 2,_,none⟩]) (sp:=[.alc 0,.alc 1,.alc 2]) [] hst (oc (zai rfl rfl rfl (gq 0 rfl)) (oc (zai rfl rfl rfl (gq 1 rfl)) (oc (zau rfl rfl rfl (Str.zero zb5)) o0))) (fun a w hst=>?_)
 have hst:St B w0 22 [] [⟨2,26,ptrH,_⟩,⟨3,26,ptrH,_⟩,⟨4,26,ptrH,_⟩] a w:=hst
 refine zt ?_
 refine go_drawV' [[],[0],[],[2],[0,1,2,3],[],[5],[],[7],[0,1,2,3,4,5,6,7,8],[0,1,2,3,4,5,6,7,8,9],[],[11],[],[13],[0,1,2,3,4,5,6,7,8,9,10,11,12,13,14],[0,1,2,3,4,5,6,7,8,9,10,11,12,13,14,15],[0,1,2,3,4,5,6,7,8,9,10,11,12,13,14,15,16]] (sts:=[none,none,some (17,fun ν=>_)]) (news:=[]) (sp:=[(fun ν=>.adr 5 2 (.some 0) True),(fun ν=>.val 6 _),(fun ν=>.adr 7 3 (.some 2) True),(fun ν=>.val 8 _),(fun ν=>.val 9 _),(fun ν=>.adr 10 3 (.some 0) True),(fun ν=>.val 11 _),(fun ν=>.adr 12 2 (.some 2) True),(fun ν=>.val 13 _),(fun ν=>.val 14 _),(fun ν=>.val 15 (PinA (ν 10) ((ZN (max (c+d) (d+c)+1) (x.num*(y.den:Int) - y.num*(x.den:Int))).and (SepAll [] (ν 10)))).va),(fun ν=>.adr 16 2 (.some 2) True),(fun ν=>.val 17 _),(fun ν=>.adr 18 3 (.some 2) True),(fun ν=>.val 19 _),(fun ν=>.val 20 (PinA (ν 15) ((ZN (c+d) ((x.den:Int)*(y.den:Int))).and (SepAll [ν 10] (ν 15)))).va),(fun ν=>.val 21 _),(fun ν=>.sto 2)]) [] za7 hst ⟨of_u fun ν=>ob_a rfl rfl (za9 (lz0 0 rfl) zbh),⟨of_u fun ν=>ob_v rfl rfl (za4 0 rfl zk trivial (lz0 0 rfl) (Sub.part 0 rfl rfl) zab),⟨of_u fun ν=>ob_a rfl rfl (za9 (lz0 1 rfl) zb3),⟨of_u fun ν=>ob_v rfl rfl (za4 2 rfl zk trivial (lz0 1 rfl) (Sub.part 1 rfl rfl) zab),⟨of_u fun ν=>ob_v rfl rfl (za5 (xs:=[.tmp 6,.tmp 8]) (zdn zo zo) (.cons (vq 1 rfl) (.cons (vq 3 rfl) .nil))),⟨of_u fun ν=>ob_a rfl rfl (za9 (lz0 1 rfl) zbh),⟨of_u fun ν=>ob_v rfl rfl (za4 5 rfl zk trivial (lz0 1 rfl) (Sub.part 0 rfl rfl) zab),⟨of_u fun ν=>ob_a rfl rfl (za9 (lz0 0 rfl) zb3),⟨of_u fun ν=>ob_v rfl rfl (za4 7 rfl zk trivial (lz0 0 rfl) (Sub.part 1 rfl rfl) zab),⟨of_u fun ν=>ob_v rfl rfl (za5 (xs:=[.tmp 11,.tmp 13]) (zdn zo zo) (.cons (vq 6 rfl) (.cons (vq 8 rfl) .nil))),⟨zcq (us:=fun ν=>[]) (xs:=[.tmp 9,.tmp 14]) rfl rfl (minus_zn zo zo) zez zfe (.cons upA_za.va (.cons upA_za.va .nil)) (fun ν=>(.cons (vq 4 rfl) (.cons (vq 9 rfl) .nil))) (fun _ _=>rfl) (fun ν=>zbp),⟨of_u fun ν=>ob_a rfl rfl (za9 (lz0 0 rfl) zb3),⟨of_u fun ν=>ob_v rfl rfl (za4 11 rfl zk trivial (lz0 0 rfl) (Sub.part 1 rfl rfl) zab),⟨of_u fun ν=>ob_a rfl rfl (za9 (lz0 1 rfl) zb3),⟨of_u fun ν=>ob_v rfl rfl (za4 13 rfl zk trivial (lz0 1 rfl) (Sub.part 1 rfl rfl) zab),⟨zcq (us:=fun ν=>[ν 10]) (xs:=[.tmp 17,.tmp 19]) rfl rfl (times_zn zo zo) zez zfe (.cons upA_za.va (.cons upA_za.va .nil)) (fun ν=>(.cons (vq 12 rfl) (.cons (vq 14 rfl) .nil))) (fun _ _=>rfl) (fun ν=>(zcd (zbn zez) (vq 10 rfl) zbp)),⟨of_u fun ν=>ob_v rfl rfl (za5 (xs:=[.tmp 15,.tmp 20]) (lowestD_c zo zo (zjr x y)) (.cons (vq 10 rfl) (.cons (vq 15 rfl) .nil))),⟨of_u fun ν=>zak rfl rfl rfl (vq 16 rfl) zag (Eq.trans (b:=4) rfl rfl),trivial⟩⟩⟩⟩⟩⟩⟩⟩⟩⟩⟩⟩⟩⟩⟩⟩⟩⟩ ⟨(fun ν ν' h=>rfl),⟨(fun ν ν' h=>rfl),⟨(fun ν ν' h=>rfl),⟨(fun ν ν' h=>rfl),⟨(fun ν ν' h=>rfl),⟨(fun ν ν' h=>rfl),⟨(fun ν ν' h=>rfl),⟨(fun ν ν' h=>rfl),⟨(fun ν ν' h=>rfl),⟨(fun ν ν' h=>rfl),⟨(fun ν ν' h=>by first | rfl | simp only [h 10 rfl]),⟨(fun ν ν' h=>rfl),⟨(fun ν ν' h=>rfl),⟨(fun ν ν' h=>rfl),⟨(fun ν ν' h=>rfl),⟨(fun ν ν' h=>by first | rfl | simp only [h 10 rfl,h 15 rfl]),⟨(fun ν ν' h=>by first | rfl | simp only [h 10 rfl,h 15 rfl]),⟨(fun ν ν' h=>by first | rfl | simp only [h 10 rfl,h 15 rfl]),trivial⟩⟩⟩⟩⟩⟩⟩⟩⟩⟩⟩⟩⟩⟩⟩⟩⟩⟩ ⟨trivial,⟨trivial,⟨(fun ν ν' h=>by first | rfl | simp only [h 10 rfl,h 15 rfl]),trivial⟩⟩⟩ zk zk (fun ν=>by kernel_rfl) (fun ν=>by kernel_rfl) (fun ν1 a w hst=>?_)
 have hst:St B w0 22 [] [⟨2,26,ptrH,_⟩,⟨3,26,ptrH,_⟩,⟨4,26,ptrH,_⟩] a w:=hst
 refine za0 ?_
 refine wp_ret ?_
 refine zan ?_ (zar rfl hst (zm 2 rfl) zag)
 exact zci (zbv (congrArg (fun z=>(QD _ z).va) (rat_sub x y))) (qd_mono zo).va
end Go.Proofs.YthncfchnkjemiaaGreatDoor
namespace Go.Proofs.YthncfchnkjemiaaGreatDoor
open Go Go.RowKit
theorem okM_all {m:RM} (h:okM m=true):[m.a,m.b,m.c,m.d].all okX=true:=(okM_q h).1
end Go.Proofs.YthncfchnkjemiaaGreatDoor
namespace Go.Proofs.YthncfchnkjemiaaGreatDoor
open Go Go.RowKit
def NilM:As where
 n:=1
 ag:=false
 p _ cs _:=cs=[.slice none 0 0]
 deps:=[]
 len:=by rintro B cs w rfl; rfl
 one:=by rintro B cs w rfl x hx; simp at hx; subst hx; rfl
 ag1:=fun _=>rfl
 cg:=fun _ _ _ _ _ h=>h
 wr:=fun _ _ _ _ _ _ _ _ _ _ _ _ h=>h
def NilI:As:=cat [BoA false,NilM]
def RFN (x:RF):As:=cat [RIN x.num,RIN x.den]
def RFD (x:RF):As:=DisA (RFN x)
theorem new_rfd {x:RF}:NewA (RFD x):=zi3 (zfa fun A hA=>by
 simp at hA
 rcases hA with rfl | rfl <;> exact new_riN _)
theorem free_rfd {x:RF}:FreeA (RFD x) (RFD x):=zgb (ze4 (.cons (zff _) (.cons (zff _) .nil)))
theorem rfd_rfa {x:RF}:WkA (RFD x) (RFA x):=dis_wk.trans (zc0 (.cons wkA_riN (.cons wkA_riN .nil)))
theorem qd_rfd {k:Nat} {q:Rat}:WkA (QD k q) (RFD (rfOf q)):=zer (zc0 (.cons and_wk (.cons and_wk .nil)))
theorem zfo:Str Tryz.prog 26 [NilI,NilI] :=
 Str.of (z:=.agg #[.bool false,.slice none 0 0,.bool false,.slice none 0 0]) zk Tryz.underlying26 zk fun B w=>⟨[[.bool false,.slice none 0 0],[.bool false,.slice none 0 0]],rfl,.cons ⟨[[.bool false],[.slice none 0 0]],rfl,.cons rfl (.cons rfl .nil)⟩ (.cons ⟨[[.bool false],[.slice none 0 0]],rfl,.cons rfl (.cons rfl .nil)⟩ .nil)⟩
theorem nil_cells {B:Nat} {cs:List Value} {w:World} (h:(cat [NilI,NilI]).p B cs w):cs=[.bool false,.slice none 0 0,.bool false,.slice none 0 0]:=by
 obtain ⟨ps,rfl,hp⟩:=h
 have hI:∀ c,NilI.p B c w→c=[.bool false,.slice none 0 0]:=fun c ⟨qs,e,hq⟩=>by
  cases hq with
  | @cons _ c1 _ _ h1 hq=>cases hq with
   | @cons _ c2 _ _ h2 hq =>
    cases hq
    have h1':c1=[.bool false]:=h1
    have h2':c2=[.slice none 0 0]:=h2
    rw [e,h1',h2']
    rfl
 cases hp with
 | cons h1 hp=>cases hp with
  | cons h2 hp =>
   cases hp
   rw [hI _ h1,hI _ h2]
   rfl
theorem zf_rfd:WkA (cat [NilI,NilI]) (RFD rf0):=⟨rfl,rfl,fun B cs w h=>by
 have hi:(RIN ⟨false,[]⟩).p B [.bool false,.slice none 0 0] w:=⟨[[.bool false],[.slice none 0 0]],rfl,.cons rfl (.cons ⟨zdq,.inl ⟨rfl,rfl⟩⟩ .nil)⟩
 rw [nil_cells h]
 exact ⟨⟨[[.bool false,.slice none 0 0],[.bool false,.slice none 0 0]],rfl,.cons hi (.cons hi .nil)⟩,List.nodup_nil⟩⟩
abbrev FrD (r:RF × Int):VA:=Tu [(RFD r.1).va,In r.2]
section
open Rg
variable {P:Program} {Q:Exit→Act→World→Prop} {B N:Nat} {w0:Bs} {Γ:List (Nat × VA)} {ops:Array Oper} {les:List LeF} {sp:List ((Nat→Value)→Sp)} {anc:Nat→List Nat} {i:Nat}
end
end Go.Proofs.YthncfchnkjemiaaGreatDoor
namespace Go.Proofs.YthncfchnkjemiaaGreatDoor
open Go Go.RowKit
end Go.Proofs.YthncfchnkjemiaaGreatDoor
