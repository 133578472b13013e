import Derived.Test.YtmacliockgbdcaaGreatDoorBfAa
import Derived.Test.YtmacliockgbdcaaGreatDoorBfAc
import Derived.Test.YtmacliockgbdcaaGreatDoorBfAj
import Derived.Test.YtmacliockgbdcaaGreatDoorBfAk
import Derived.Laws.AppendOwn
import Derived.Orders
import Derived.Laws.OwnMore
set_option linter.unusedVariables false
set_option linter.unusedSimpArgs false
set_option linter.unusedSectionVars false
set_option maxRecDepth 100000
namespace Go.Proofs.YtmacliockgbdcaaGreatDoor
open Go Go.RowKit
theorem sI {u v:Value}{c d k:Nat}{q:Rat}(hc:c≤k)(hd:d≤k):WkA (cat [PinA u ((ZN c q.num).and (SepAll [] u)),PinA v ((ZN d (q.den:Int)).and (SepAll [u] v))]) (QD k q) :=
 (gk (l:=[(u,ZN c q.num),(v,ZN d (q.den:Int))]) (fun x hx=>by
  simp at hx
  rcases hx with rfl | rfl <;> exact yk)).trans (fv (bz (.cons (kr hc) (.cons (kr hd) .nil))))
theorem qd_of {k c:Nat}{q:Rat}(h1:lz q.num≤c)(h2:lz (q.den:Int)≤c):WkA (QD k q) (QD c q):=fv (bz (.cons ⟨rfl,rfl,fun _ _ _ hp=>⟨h1,hp.2⟩⟩ (.cons ⟨rfl,rfl,fun _ _ _ hp=>⟨h2,hp.2⟩⟩ .nil)))
theorem tJ {u0 v0:Value}{c d:Nat}{p q:Int}(hc:c≤549755813888)(hd:d≤549755813888)(hq:q≠0):Cn Tryz.prog 104 [(PinA u0 ((ZN c p).and (SepAll [] u0))).va,(PinA v0 ((ZN d q).and (SepAll [u0] v0))).va] ((QD (max c d) (Rat.divInt p q)).va):=by
 have hg0:0<Int.gcd p q:=Int.gcd_pos_of_ne_zero_right p hq
 obtain ⟨hn1,hn2⟩:=nR (p:=p) hq
 refine Cn.intro Tryz.func104 G zk nq (fun B w0 a U=>?_)
 have U:=zn [(0,(PinA u0 ((ZN c p).and (SepAll [] u0))).va),(1,(PinA v0 ((ZN d q).and (SepAll [u0] v0))).va)] [] U
 refine wp_seq<|zg [] [⟨2,25,ptrH,some 0,_,none⟩,⟨3,25,ptrH,some 1,_,none⟩,⟨4,27,ptrH,some 2,_,none⟩] [.alc 0,.alc 1,.alc 2] [] U (oc (ay G G G (gq 0 G)) (oc (ay G G G (gq 1 G)) (oc (aJ G G G (Str.zero b4)) o0))) (zz [] [O 2 25 _,O 3 25 _,O 4 27 _] fun a w U=>?_)
 refine zt<|wp_seq<|zg [none,none,none] [⟨5,25,ptrH,some 3,_,some (4,_)⟩] [.v 6 _,.v 7 _,.v 8 _,.alc 3,.sto 3] [] U (zl 0 G al (zl 1 G al (zv G (aa (xs:=[.tmp 6,.tmp 7]) (pV zo zo) (.cons (has_wk' (vq 0 G) pz_za.va) (.cons (has_wk' (vq 1 G) pz_za.va) .nil))) (oc (aJ G G G (Str.zero bm)) (oc (aA G G G (vq 2 G) al (Eq.trans (b:=2) G G)) o0))))) (zz [] [O 2 25 _,O 3 25 _,O 4 27 _,O 5 25 _] fun a w U=>?_)
 refine zt<|zgd [[],[],[0,1],[0,1,2]] [none,none,none,none] [] [.v 9 _,.v 10 _,.v 11 _,.v 12 _] [.o 3] ab U (zl 3 G al (zv G (aa (xs:=[.const (.int .i64 (1))]) (of_z zd zd) (.cons a8 .nil)) (zv G (aa (xs:=[.tmp 9,.tmp 10]) (Cw zo zo) (.cons (vq 0 G) (.cons (vq 1 G) .nil))) (zv G (cI (vq 2 G) a8) o0)))) zk zk zk zk (zz [(12,_)] [O 2 25 _,O 3 25 _,O 4 27 _,O 5 25 _] fun a w U=>?_)
 refine a7<|bO (fun a w=>∃ u v:Value,St B w0 35 [] [⟨2,25,ptrH,PinA u ((ZN c (p.tdiv ((Int.gcd p q:Nat):Int))).and (SepAll [] u))⟩,⟨3,25,ptrH,PinA v ((ZN d (q.tdiv ((Int.gcd p q:Nat):Int))).and (SepAll [u] v))⟩,⟨4,27,ptrH,RFA ⟨⟨false,[]⟩,⟨false,[]⟩⟩⟩,⟨5,25,ptrH,ZA (max c d) ((Int.gcd p q:Nat):Int)⟩] a w) U (zm 0 G) (fun hb0=>?_) (fun hb0=>?_) (fun a w U=>?_)
 ·refine wp_seq<|ua (sts:=[some (6,fun ν=>_),none,none,none]) (news:=[]) (sp:=[(fun ν=>.v 14 _),(fun ν=>.v 15 _),(fun ν=>.v 16 (PinT (ν 2) [ZN c (p.tdiv ((Int.gcd p q:Nat):Int)),ZN (max c d) (p.tmod ((Int.gcd p q:Nat):Int))] [v0])),(fun ν=>.v 13 _),(fun ν=>.v 17 (PinA (ν 4) ((ZN c (p.tdiv ((Int.gcd p q:Nat):Int))).and (SepAll [v0] (ν 4)))).va),(fun ν=>.v 18 (PinA (ν 5) ((ZN (max c d) (p.tmod ((Int.gcd p q:Nat):Int))).and (SepAll [v0] (ν 5)))).va),(fun ν=>.sto 0)]) [] U ⟨of_u fun ν=>ob_v rfl rfl (dm (lz0 0 rfl) al),⟨of_u fun ν=>ob_v rfl rfl (dm (lz0 3 rfl) al),⟨pd (us:=fun ν=>[v0]) (xs:=[.tmp 14,.tmp 15]) rfl rfl (mU zo zo) nf_zn (.cons upA_za.va (.cons upA_za.va .nil)) (fun ν=>(.cons (has_wk' (vq 0 rfl) pz_za.va) (.cons (vq 1 rfl) .nil))) (fun _ _=>rfl) (fun ν=>(pj (cJ dM) (lz0 1 rfl) bR)),⟨of_u fun ν=>ob_v rfl rfl (ae (vq 2 rfl)),⟨pc (us:=fun ν=>[v0]) rfl rfl (fun ν=>(vq 3 rfl)) rfl (fun _ _=>rfl),⟨pc (us:=fun ν=>[v0]) rfl rfl (fun ν=>(vq 3 rfl)) rfl (fun _ _=>rfl),⟨of_u fun ν=>aA rfl rfl rfl (vq 4 rfl) al (Eq.trans (b:=2) rfl rfl),trivial⟩⟩⟩⟩⟩⟩⟩ ⟨(fun ν ν' h=>rfl),⟨(fun ν ν' h=>rfl),⟨(fun ν ν' h=>by first | rfl | simp only [h 2 rfl]),⟨(fun ν ν' h=>by first | rfl | simp only [h 2 rfl]),⟨(fun ν ν' h=>by first | rfl | simp only [h 2 rfl,h 4 rfl]),⟨(fun ν ν' h=>by first | rfl | simp only [h 2 rfl,h 4 rfl,h 5 rfl]),⟨(fun ν ν' h=>by first | rfl | simp only [h 2 rfl,h 4 rfl,h 5 rfl]),trivial⟩⟩⟩⟩⟩⟩⟩ ⟨(fun ν ν' h=>by first | rfl | simp only [h 2 rfl,h 4 rfl,h 5 rfl]),⟨trivial,⟨trivial,⟨trivial,trivial⟩⟩⟩⟩ zk (fun ν=>by kernel_rfl) (fun ν=>by kernel_rfl) (fun ν3 a w U=>?_)
  have U:=zn [] [O 2 25 _,O 3 25 _,O 4 27 _,O 5 25 _] U
  refine a7<|ua (sts:=[none,some (6,fun ν=>_),none,none]) (news:=[]) (sp:=[(fun ν=>.v 20 _),(fun ν=>.v 21 _),(fun ν=>.v 22 (PinT (ν 2) [ZN d (q.tdiv ((Int.gcd p q:Nat):Int)),ZN (max c d) (q.tmod ((Int.gcd p q:Nat):Int))] [(ν3 4)])),(fun ν=>.v 19 _),(fun ν=>.v 23 (PinA (ν 4) ((ZN d (q.tdiv ((Int.gcd p q:Nat):Int))).and (SepAll [(ν3 4)] (ν 4)))).va),(fun ν=>.v 24 (PinA (ν 5) ((ZN (max c d) (q.tmod ((Int.gcd p q:Nat):Int))).and (SepAll [(ν3 4)] (ν 5)))).va),(fun ν=>.sto 1)]) [] U ⟨of_u fun ν=>ob_v rfl rfl (dm (lz0 1 rfl) al),⟨of_u fun ν=>ob_v rfl rfl (dm (lz0 3 rfl) al),⟨pd (us:=fun ν=>[(ν3 4)]) (xs:=[.tmp 20,.tmp 21]) rfl rfl (mU zo zo) nf_zn (.cons upA_za.va (.cons upA_za.va .nil)) (fun ν=>(.cons (has_wk' (vq 0 rfl) pz_za.va) (.cons (vq 1 rfl) .nil))) (fun _ _=>rfl) (fun ν=>(pj (cJ dM) (lz0 0 rfl) bR)),⟨of_u fun ν=>ob_v rfl rfl (ae (vq 2 rfl)),⟨pc (us:=fun ν=>[(ν3 4)]) rfl rfl (fun ν=>(vq 3 rfl)) rfl (fun _ _=>rfl),⟨pc (us:=fun ν=>[(ν3 4)]) rfl rfl (fun ν=>(vq 3 rfl)) rfl (fun _ _=>rfl),⟨of_u fun ν=>aA rfl rfl rfl (vq 4 rfl) al (Eq.trans (b:=2) rfl rfl),trivial⟩⟩⟩⟩⟩⟩⟩ ⟨(fun ν ν' h=>rfl),⟨(fun ν ν' h=>rfl),⟨(fun ν ν' h=>by first | rfl | simp only [h 2 rfl]),⟨(fun ν ν' h=>by first | rfl | simp only [h 2 rfl]),⟨(fun ν ν' h=>by first | rfl | simp only [h 2 rfl,h 4 rfl]),⟨(fun ν ν' h=>by first | rfl | simp only [h 2 rfl,h 4 rfl,h 5 rfl]),⟨(fun ν ν' h=>by first | rfl | simp only [h 2 rfl,h 4 rfl,h 5 rfl]),trivial⟩⟩⟩⟩⟩⟩⟩ ⟨trivial,⟨(fun ν ν' h=>by first | rfl | simp only [h 2 rfl,h 4 rfl,h 5 rfl]),⟨trivial,⟨trivial,trivial⟩⟩⟩⟩ zk (fun ν=>by kernel_rfl) (fun ν=>by kernel_rfl) (fun ν4 a w U=>?_)
  have U:=zn [] [O 2 25 _,O 3 25 _,O 4 27 _,O 5 25 _] U
  refine a7 ?_
  have U:=St.sel U []
  have U:=St.wkL (A':=PinA (ν3 4) ((ZN c (p.tdiv ((Int.gcd p q:Nat):Int))).and (SepAll [] (ν3 4)))) U 0 rfl (wj xJ)
  exact ⟨ν3 4,ν4 4,U⟩
 ·refine wp_skip<|a7 ?_
  have U:=St.sel U []
  have U:=St.cvA (A':=PinA u0 ((ZN c (p.tdiv ((Int.gcd p q:Nat):Int))).and (SepAll [] u0))) U 0 rfl (congrArg (fun z=>PinA u0 ((ZN c z).and (SepAll [] u0))) (oK hb0))
  have U:=St.cvA (A':=PinA v0 ((ZN d (q.tdiv ((Int.gcd p q:Nat):Int))).and (SepAll [u0] v0))) U 1 rfl (congrArg (fun z=>PinA v0 ((ZN d z).and (SepAll [u0] v0))) (oK hb0))
  exact ⟨u0,v0,U⟩
 obtain ⟨u1,v1,U⟩:=U
 refine zt<|wp_seq<|zg [none,none,none,none] [] [.v 25 _,.v 26 _,.v 27 _] [.o 2] U (zl 1 G al (zv G (aa (xs:=[.tmp 25]) rS (.cons (has_wk' (vq 0 G) pz_za.va) .nil)) (zv G (aN (vq 1 G) a8) o0))) (zz [(27,_)] [O 2 25 _,O 3 25 _,O 4 27 _,O 5 25 _] fun a w U=>?_)
 refine a7<|bO (fun a w=>∃ u v:Value,St B w0 35 [] [⟨2,25,ptrH,PinA u ((ZN c (Rat.divInt p q).num).and (SepAll [] u))⟩,⟨3,25,ptrH,PinA v ((ZN d ((Rat.divInt p q).den:Int)).and (SepAll [u] v))⟩,⟨4,27,ptrH,RFA ⟨⟨false,[]⟩,⟨false,[]⟩⟩⟩,⟨5,25,ptrH,ZA (max c d) ((Int.gcd p q:Nat):Int)⟩] a w) U (zm 0 G) (fun hb1=>?_) (fun hb1=>?_) (fun a w U=>?_)
 ·refine go_drawV' [[],[0],[],[0,1,2],[0,1,2,3],[0,1,2,3,4]] (sts:=[some (4,fun ν=>_),some (5,fun ν=>_),none,none]) (news:=[]) (sp:=[(fun ν=>.v 28 _),(fun ν=>.v 29 (PinA (ν 1) ((ZN c (-(p.tdiv ((Int.gcd p q:Nat):Int)))).and (SepAll [] (ν 1)))).va),(fun ν=>.v 30 _),(fun ν=>.v 31 (PinA (ν 3) ((ZN d (-(q.tdiv ((Int.gcd p q:Nat):Int)))).and (SepAll [ν 1] (ν 3)))).va),(fun ν=>.sto 0),(fun ν=>.sto 1)]) [] ab U ⟨of_u fun ν=>ob_v rfl rfl (dm (lz0 0 rfl) al),⟨cV (us:=fun ν=>[]) (xs:=[.tmp 28]) rfl rfl (lU zo) dM dX (.cons upA_za.va .nil) (fun ν=>(.cons (has_wk' (vq 0 rfl) pz_za.va) .nil)) (fun _ _=>rfl) (fun ν=>bR),⟨of_u fun ν=>ob_v rfl rfl (dm (lz0 1 rfl) al),⟨cV (us:=fun ν=>[ν 1]) (xs:=[.tmp 30]) rfl rfl (lU zo) dM dX (.cons upA_za.va .nil) (fun ν=>(.cons (has_wk' (vq 2 rfl) pz_za.va) .nil)) (fun _ _=>rfl) (fun ν=>(cj (cJ dM) (vq 1 rfl) bR)),⟨of_u fun ν=>aA rfl rfl rfl (vq 1 rfl) al (Eq.trans (b:=2) rfl rfl),⟨of_u fun ν=>aA rfl rfl rfl (vq 3 rfl) al (Eq.trans (b:=2) rfl rfl),trivial⟩⟩⟩⟩⟩⟩ ⟨(fun ν ν' h=>rfl),⟨(fun ν ν' h=>by first | rfl | simp only [h 1 rfl]),⟨(fun ν ν' h=>rfl),⟨(fun ν ν' h=>by first | rfl | simp only [h 1 rfl,h 3 rfl]),⟨(fun ν ν' h=>by first | rfl | simp only [h 1 rfl,h 3 rfl]),⟨(fun ν ν' h=>by first | rfl | simp only [h 1 rfl,h 3 rfl]),trivial⟩⟩⟩⟩⟩⟩ ⟨(fun ν ν' h=>by first | rfl | simp only [h 1 rfl,h 3 rfl]),⟨(fun ν ν' h=>by first | rfl | simp only [h 1 rfl,h 3 rfl]),⟨trivial,⟨trivial,trivial⟩⟩⟩⟩ zk zk (fun ν=>by kernel_rfl) (fun ν=>by kernel_rfl) (fun ν6 a w U=>?_)
  have U:=zn [] [O 2 25 _,O 3 25 _,O 4 27 _,O 5 25 _] U
  refine a7 ?_
  have U:=St.sel U []
  rw [if_pos (ny hb1)] at hn1 hn2; rw [hn1,hn2] at U; exact ⟨ν6 1,ν6 3,U⟩
 ·refine wp_skip<|a7 ?_
  have U:=St.sel U []
  rw [if_neg (rX hb1)] at hn1 hn2; rw [hn1,hn2] at U; exact ⟨u1,v1,U⟩
 obtain ⟨u2,v2,U⟩:=U
 refine zt<|zg [none,none,some (3,_),none] [] [.v 32 _,.v 33 _,.v 34 _,.sto 2] [] U (zl 0 G al (zl 1 G al (zv G (bi (xs:=[(0,.tmp 32),(1,.tmp 33)]) (qs:=[(0,_),(1,_)]) b4 (.cons ⟨rfl,(vq 0 G),rfl⟩ (.cons ⟨rfl,(vq 1 G),rfl⟩ .nil))) (oc (aA G G G (vq 2 G) ax (Eq.trans (b:=4) G G)) o0)))) (zz [] [O 2 25 _,O 3 25 _,O 4 27 _,O 5 25 _] fun a w U=>?_)
 refine a7<|wp_ret<|ar ?_ (az G U (zm 2 G) ax)
 exact (sI (Nat.le_max_left _ _) (Nat.le_max_right _ _)).va
theorem AQ {c d:Nat}{x y:Rat}(hc:c+d≤137438953472):Cn Tryz.prog 103 [Qs c x,Qs d y] ((QD (c+d+1) (x+y)).va):=by
 refine Cn.intro Tryz.func103 G zk nq (fun B w0 a U=>?_)
 have U:=zn [(0,Qs c x),(1,Qs d y)] [] U
 refine wp_seq<|zg [] [⟨2,27,ptrH,some 0,_,none⟩,⟨3,27,ptrH,some 1,_,none⟩,⟨4,27,ptrH,some 2,_,none⟩] [.alc 0,.alc 1,.alc 2] [] U (oc (ay G G G (gq 0 G)) (oc (ay G G G (gq 1 G)) (oc (aJ G G G (Str.zero b4)) o0))) (zz [] [O 2 27 _,O 3 27 _,O 4 27 _] fun a w U=>?_)
 refine zt<|go_drawV' [[],[0],[],[2],[0,1,2,3],[],[5],[],[7],[0,1,2,3,4,5,6,7,8],[0,1,2,3,4,5,6,7,8,9],[],[11],[],[13],[0,1,2,3,4,5,6,7,8,9,10,11,12,13,14],[0,1,2,3,4,5,6,7,8,9,10,11,12,13,14,15],[0,1,2,3,4,5,6,7,8,9,10,11,12,13,14,15,16]] (sts:=[none,none,some (17,fun ν=>_)]) (news:=[]) (sp:=[(fun ν=>.adr 5 2 (.some 0) True),(fun ν=>.v 6 _),(fun ν=>.adr 7 3 (.some 2) True),(fun ν=>.v 8 _),(fun ν=>.v 9 _),(fun ν=>.adr 10 3 (.some 0) True),(fun ν=>.v 11 _),(fun ν=>.adr 12 2 (.some 2) True),(fun ν=>.v 13 _),(fun ν=>.v 14 _),(fun ν=>.v 15 (PinA (ν 10) ((ZN (max (c+d) (d+c)+1) (x.num*(y.den:Int)+y.num*(x.den:Int))).and (SepAll [] (ν 10)))).va),(fun ν=>.adr 16 2 (.some 2) True),(fun ν=>.v 17 _),(fun ν=>.adr 18 3 (.some 2) True),(fun ν=>.v 19 _),(fun ν=>.v 20 (PinA (ν 15) ((ZN (c+d) ((x.den:Int)*(y.den:Int))).and (SepAll [ν 10] (ν 15)))).va),(fun ν=>.v 21 _),(fun ν=>.sto 2)]) [] ab U ⟨of_u fun ν=>ob_a rfl rfl (ac (lz0 0 rfl) aY),⟨of_u fun ν=>ob_v rfl rfl (aD 0 rfl zk trivial (lz0 0 rfl) (Sub.part 0 rfl rfl) al),⟨of_u fun ν=>ob_a rfl rfl (ac (lz0 1 rfl) aT),⟨of_u fun ν=>ob_v rfl rfl (aD 2 rfl zk trivial (lz0 1 rfl) (Sub.part 1 rfl rfl) al),⟨of_u fun ν=>ob_v rfl rfl (aa (xs:=[.tmp 6,.tmp 8]) (dz zo zo) (.cons (vq 1 rfl) (.cons (vq 3 rfl) .nil))),⟨of_u fun ν=>ob_a rfl rfl (ac (lz0 1 rfl) aY),⟨of_u fun ν=>ob_v rfl rfl (aD 5 rfl zk trivial (lz0 1 rfl) (Sub.part 0 rfl rfl) al),⟨of_u fun ν=>ob_a rfl rfl (ac (lz0 0 rfl) aT),⟨of_u fun ν=>ob_v rfl rfl (aD 7 rfl zk trivial (lz0 0 rfl) (Sub.part 1 rfl rfl) al),⟨of_u fun ν=>ob_v rfl rfl (aa (xs:=[.tmp 11,.tmp 13]) (dz zo zo) (.cons (vq 6 rfl) (.cons (vq 8 rfl) .nil))),⟨cV (us:=fun ν=>[]) (xs:=[.tmp 9,.tmp 14]) rfl rfl (nK zo zo) dM dX (.cons upA_za.va (.cons upA_za.va .nil)) (fun ν=>(.cons (vq 4 rfl) (.cons (vq 9 rfl) .nil))) (fun _ _=>rfl) (fun ν=>bR),⟨of_u fun ν=>ob_a rfl rfl (ac (lz0 0 rfl) aT),⟨of_u fun ν=>ob_v rfl rfl (aD 11 rfl zk trivial (lz0 0 rfl) (Sub.part 1 rfl rfl) al),⟨of_u fun ν=>ob_a rfl rfl (ac (lz0 1 rfl) aT),⟨of_u fun ν=>ob_v rfl rfl (aD 13 rfl zk trivial (lz0 1 rfl) (Sub.part 1 rfl rfl) al),⟨cV (us:=fun ν=>[ν 10]) (xs:=[.tmp 17,.tmp 19]) rfl rfl (vw zo zo) dM dX (.cons upA_za.va (.cons upA_za.va .nil)) (fun ν=>(.cons (vq 12 rfl) (.cons (vq 14 rfl) .nil))) (fun _ _=>rfl) (fun ν=>(cj (cJ dM) (vq 10 rfl) bR)),⟨of_u fun ν=>ob_v rfl rfl (aa (xs:=[.tmp 15,.tmp 20]) (tJ zo zo (mX x y)) (.cons (vq 10 rfl) (.cons (vq 15 rfl) .nil))),⟨of_u fun ν=>aA rfl rfl rfl (vq 16 rfl) ax (Eq.trans (b:=4) rfl rfl),trivial⟩⟩⟩⟩⟩⟩⟩⟩⟩⟩⟩⟩⟩⟩⟩⟩⟩⟩ ⟨(fun ν ν' h=>rfl),⟨(fun ν ν' h=>rfl),⟨(fun ν ν' h=>rfl),⟨(fun ν ν' h=>rfl),⟨(fun ν ν' h=>rfl),⟨(fun ν ν' h=>rfl),⟨(fun ν ν' h=>rfl),⟨(fun ν ν' h=>rfl),⟨(fun ν ν' h=>rfl),⟨(fun ν ν' h=>rfl),⟨(fun ν ν' h=>by first | rfl | simp only [h 10 rfl]),⟨(fun ν ν' h=>rfl),⟨(fun ν ν' h=>rfl),⟨(fun ν ν' h=>rfl),⟨(fun ν ν' h=>rfl),⟨(fun ν ν' h=>by first | rfl | simp only [h 10 rfl,h 15 rfl]),⟨(fun ν ν' h=>by first | rfl | simp only [h 10 rfl,h 15 rfl]),⟨(fun ν ν' h=>by first | rfl | simp only [h 10 rfl,h 15 rfl]),trivial⟩⟩⟩⟩⟩⟩⟩⟩⟩⟩⟩⟩⟩⟩⟩⟩⟩⟩ ⟨trivial,⟨trivial,⟨(fun ν ν' h=>by first | rfl | simp only [h 10 rfl,h 15 rfl]),trivial⟩⟩⟩ zk zk (fun ν=>by kernel_rfl) (fun ν=>by kernel_rfl) (fun ν1 a w U=>?_)
 have U:=zn [] [O 2 27 _,O 3 27 _,O 4 27 _] U
 refine a7<|wp_ret<|ar ?_ (az G U (zm 2 G) ax)
 exact br (bc (congrArg (fun z=>(QD _ z).va) (sy x y))) (sJ zo).va
theorem qd_cp {u v:Value}{c d k:Nat}{x:Rat}(hc:c≤k)(hd:d≤k):WkA (cat [PinA u ((ZN c (x.num+0)).and (SepAll [] u)),PinA v ((ZN d ((x.den:Int)+0)).and (SepAll [u] v))]) (QD k x):=by
 rw [Int.add_zero,Int.add_zero]
 exact sI hc hd
theorem Cu {c:Nat}{x:Rat}(hc:c≤137438953472):Cn Tryz.prog 102 [Qs c x] ((QD (max c 2+1) x).va):=by
 refine Cn.intro Tryz.func102 G zk nq (fun B w0 a U=>?_)
 have U:=zn [(0,Qs c x)] [] U
 refine wp_seq<|zg [] [⟨1,27,ptrH,some 0,_,none⟩,⟨2,27,ptrH,some 1,_,none⟩] [.alc 0,.alc 1] [] U (oc (ay G G G (gq 0 G)) (oc (aJ G G G (Str.zero b4)) o0)) (zz [] [O 1 27 _,O 2 27 _] fun a w U=>?_)
 refine zt<|zg [none,none] [⟨3,25,ptrH,some 1,_,some (2,_)⟩] [.v 4 _,.alc 2,.sto 2] [] U (zv G (aa (xs:=[.const (.int .i64 (0))]) (of_z zd zd) (.cons a8 .nil)) (oc (aJ G G G (Str.zero bm)) (oc (aA G G G (vq 0 G) al (Eq.trans (b:=2) G G)) o0))) (zz [] [O 1 27 _,O 2 27 _,O 3 25 _] fun a w U=>?_)
 refine zt<|go_drawV' [[],[0],[],[0,1,2],[],[4],[],[0,1,2,3,4,5,6],[0,1,2,3,4,5,6,7],[0,1,2,3,4,5,6,7,8]] (sts:=[none,some (9,fun ν=>_),none]) (news:=[]) (sp:=[(fun ν=>.adr 5 1 (.some 0) True),(fun ν=>.v 6 _),(fun ν=>.v 7 _),(fun ν=>.v 8 (PinA (ν 3) ((ZN (max c 2+1) (x.num+0)).and (SepAll [] (ν 3)))).va),(fun ν=>.adr 9 1 (.some 2) True),(fun ν=>.v 10 _),(fun ν=>.v 11 _),(fun ν=>.v 12 (PinA (ν 7) ((ZN (max c 2+1) ((x.den:Int)+0)).and (SepAll [ν 3] (ν 7)))).va),(fun ν=>.v 13 _),(fun ν=>.sto 1)]) [] ab U ⟨of_u fun ν=>ob_a rfl rfl (ac (lz0 0 rfl) aY),⟨of_u fun ν=>ob_v rfl rfl (aD 0 rfl zk trivial (lz0 0 rfl) (Sub.part 0 rfl rfl) al),⟨of_u fun ν=>ob_v rfl rfl (dm (lz0 2 rfl) al),⟨cV (us:=fun ν=>[]) (xs:=[.tmp 6,.tmp 7]) rfl rfl (nK zo zo) dM dX (.cons upA_za.va (.cons upA_za.va .nil)) (fun ν=>(.cons (vq 1 rfl) (.cons (vq 2 rfl) .nil))) (fun _ _=>rfl) (fun ν=>bR),⟨of_u fun ν=>ob_a rfl rfl (ac (lz0 0 rfl) aT),⟨of_u fun ν=>ob_v rfl rfl (aD 4 rfl zk trivial (lz0 0 rfl) (Sub.part 1 rfl rfl) al),⟨of_u fun ν=>ob_v rfl rfl (dm (lz0 2 rfl) al),⟨cV (us:=fun ν=>[ν 3]) (xs:=[.tmp 10,.tmp 11]) rfl rfl (nK zo zo) dM dX (.cons upA_za.va (.cons upA_za.va .nil)) (fun ν=>(.cons (vq 5 rfl) (.cons (vq 6 rfl) .nil))) (fun _ _=>rfl) (fun ν=>(cj (cJ dM) (vq 3 rfl) bR)),⟨of_u fun ν=>ob_v rfl rfl (bi (xs:=[(0,.tmp 8),(1,.tmp 12)]) (qs:=[(0,_),(1,_)]) b4 (.cons ⟨rfl,(vq 3 rfl),rfl⟩ (.cons ⟨rfl,(vq 7 rfl),rfl⟩ .nil))),⟨of_u fun ν=>aA rfl rfl rfl (vq 8 rfl) ax (Eq.trans (b:=4) rfl rfl),trivial⟩⟩⟩⟩⟩⟩⟩⟩⟩⟩ ⟨(fun ν ν' h=>rfl),⟨(fun ν ν' h=>rfl),⟨(fun ν ν' h=>rfl),⟨(fun ν ν' h=>by first | rfl | simp only [h 3 rfl]),⟨(fun ν ν' h=>rfl),⟨(fun ν ν' h=>rfl),⟨(fun ν ν' h=>rfl),⟨(fun ν ν' h=>by first | rfl | simp only [h 3 rfl,h 7 rfl]),⟨(fun ν ν' h=>by first | rfl | simp only [h 3 rfl,h 7 rfl]),⟨(fun ν ν' h=>by first | rfl | simp only [h 3 rfl,h 7 rfl]),trivial⟩⟩⟩⟩⟩⟩⟩⟩⟩⟩ ⟨trivial,⟨(fun ν ν' h=>by first | rfl | simp only [h 3 rfl,h 7 rfl]),⟨trivial,trivial⟩⟩⟩ zk zk (fun ν=>by kernel_rfl) (fun ν=>by kernel_rfl) (fun ν2 a w U=>?_)
 have U:=zn [] [O 1 27 _,O 2 27 _,O 3 25 _] U
 refine a7<|wp_ret<|ar ?_ (az G U (zm 1 G) ax)
 exact (qd_cp zo zo).va
theorem Cv {c:Nat}{x:Rat}(hc:c≤137438953472):Cn Tryz.prog 102 [Qs c x] (QD c x).va :=
 Cn.know (c:=lz x.num≤c∧lz (x.den:Int)≤c) xh (fun B w args ha=>by cases ha with | cons h1 _=>exact qs_le h1) fun h=>(Cu hc).wkp (qd_of h.1 h.2).va
section
variable {P:Program} {R:Rg} {Q:Exit→Act→World→Prop} {B i:Nat} {w0:Bs}
theorem p5 {g:Nat}:offP (ptrH.f g) (.some 0)=ptrH.f g:=by simp [ptrH,ptr,offP,add0]
theorem fE {b T':Nat}{A:As}(hl:Loc R i b T' A):Ad P Q R B w0 i (.move (.tmp b)) b (.some 0):=by
 intro d ty ps af gd a w av K hK
 obtain ⟨g,cs,h1,_⟩:=hl.ok av
 rw [h1,p5] at hK
 exact ba (w':=w) (v:=a.eval (.tmp b)) G (by rw [h1]; exact hK)
theorem fD {b t T':Nat}{A:As}(j:Nat)(hj:R.sp[j]?=some (.adr t b (.some 0) True))(hji:(R.anc i).contains j=true)(hl:Loc R i b T' A):Ad P Q R B w0 i (.nilCheck (.tmp t)) b (.some 0):=by
 intro d ty ps af gd a w av K hK
 obtain ⟨g,cs,h1,_⟩:=hl.ok av
 have h2:=av.d j t b (.some 0) True hji hj trivial
 rw [h1,p5] at h2 hK
 have h2':a.eval (.tmp t)=.pointer (some ⟨g,0,none⟩):=h2
 exact ba (w':=w) (v:=.pointer (some ⟨g,0,none⟩)) (by simp [execOp,h2']) hK
theorem cD {fn:Func}{RQ':Ending→World→Prop}{a:Act}{w:World}(h:bPost P fn RQ' .ret a w):bPost P fn RQ' .normal a w:=h
theorem pf {E:TypeId}{D:List TypeId}:Wk (EqV (.slice none 0 0)) (SlA E D []).va:=fun _ v _ h=>by
 have e:v=.slice none 0 0:=h
 subst e
 exact ⟨[.slice none 0 0],⟨(fun A hA=>by cases hA),none,0,[],rfl,Nat.le_refl _,Nat.zero_le _,⟨[],rfl,.nil⟩,fun h=>by cases h⟩,rfl⟩
theorem yL {E:TypeId}{A A':As}(h:WkA A A'):Wk (ElP E A) (ElP E A'):=fun _ _ _ ⟨b,o,cs,h1,h2,h3,h4,h5⟩=>⟨b,o,cs,h1,h2,h3,h.2.2 _ _ _ h4,h5⟩
def Arr (P:Program)(T:TypeId)(Z:List As):Prop :=
 ∃ it z n E ie,P.info? T=some it∧it.zero=some z∧P.underlying T=some (.array n E)∧P.info? E=some ie∧(∀ f,f<Z.length→some (f*ie.size,ie.size)=(placesOf Z)[f]?)∧∀ B w,(cat Z).p B z.cells.toList w
theorem Arr.zero {T:TypeId}{Z:List As}(h:Arr P T Z):Zero P T (cat Z):=by
 obtain ⟨it,z,_,_,_,h1,h2,_,_,_,h3⟩:=h
 exact ⟨it,z,h1,h2,h3⟩
end
section
variable {P:Program} {R:Rg} {Q:Exit→Act→World→Prop} {B:Nat} {w0:Bs} {a:Act} {w:World}
end
def cutW (w w':World):World:={ w' with heap:=w'.heap.extract 0 w.heap.size }
theorem yR {w w':World}(hs:w.heap.size≤w'.heap.size){k:Nat}(hk:k<w.heap.size):(cutW w w').heap[k]?=w'.heap[k]?:=by
 show (w'.heap.extract 0 w.heap.size)[k]?=_
 rw [Array.getElem?_extract]
 simp
 omega
theorem iC {w w':World}(hs:w.heap.size≤w'.heap.size):(cutW w w').heap.size=w.heap.size:=by
 show (w'.heap.extract 0 w.heap.size).size=_
 simp
 omega
theorem yQ {w w':World}{g:Nat}(h:w.grownBy w' (some g)):Wr g w (cutW w w') :=
 ⟨h.os,h.tape,h.output,iC h.size,fun k hk=>by
  by_cases hlt:k<w.heap.size
  ·rw [yR h.size hlt]
   exact h.block k hlt (fun e=>hk (by injection e))
  ·rw [Array.getElem?_eq_none (by rw [iC h.size]; omega),Array.getElem?_eq_none zo]⟩
theorem pU {w w':World}{row:Option Nat}(h:w.grownBy w' row):Grow (cutW w w') w' :=
 ⟨rfl,rfl,rfl,by rw [iC h.size]; exact h.size,fun k hk=>by
  rw [iC h.size] at hk
  rw [yR h.size hk]⟩
theorem mz {w w':World}(h:w.grownBy w' none):Grow w w':=⟨h.os,h.tape,h.output,h.size,fun k hk=>h.block k hk (by simp)⟩
def RowOk (w:World)(b:Nat)(E:TypeId)(row:Option Nat):Prop:=∀ g,row=some g→b≤g∧∃ c fz,w.heap[g]?=some (.cells c E fz)
theorem DefOk.grown {w0:Bs}{a a':Act}{w w':World}{b:Nat}{E:TypeId}{row:Option Nat}(h:DefOk w0 a w)(hg:w.grownBy w' row)(hr:RowOk w b E row)(e:a'.defers=a.defers):DefOk w0 a' w' :=
 h.keep e fun D hD=>(hg.block D (Array.getElem?_eq_some_iff.1 hD).1 (fun e=>by
  obtain ⟨_,c,fz,hc⟩:=hr D e.symm
  rw [hc] at hD
  cases hD)).trans hD
theorem VA.grown {A:VA}{B b:Nat}{v:Value}{w w':World}{E:TypeId}{row:Option Nat}(hp:A.p B v w)(hg:w.grownBy w' row)(hr:RowOk w b E row)(hb:B≤b)(hE:E ∉ A.deps):A.p B v w':=by
 cases row with
 | none=>exact A.grow _ _ _ _ (mz hg) hp
 | some g =>
  obtain ⟨h1,c,fz,h2⟩:=hr g rfl
  exact A.grow _ _ _ _ (pU hg) (A.wr _ _ _ _ _ _ _ _ h2 hE (Nat.le_trans hb h1) (yQ hg) hp)
theorem As.grown {A:As}{B b:Nat}{cs:List Value}{w w':World}{E:TypeId}{row:Option Nat}(hp:A.p B cs w)(hg:w.grownBy w' row)(hr:RowOk w b E row)(hb:B≤b)(hE:E ∉ A.deps):A.p B cs w':=by
 cases row with
 | none=>exact A.grow _ _ _ _ (mz hg) hp
 | some g =>
  obtain ⟨h1,c,fz,h2⟩:=hr g rfl
  exact A.grow _ _ _ _ (pU hg) (A.wr _ _ _ _ _ _ _ _ h2 hE (Nat.le_trans hb h1) (yQ hg) hp)
def OwnR (b:Nat)(E:TypeId)(m:Nat)(D:List TypeId)(l:List As):VA where
 p B v w:=(∀ A∈l,A.n=m)∧(∀ A∈l,∀ T∈A.deps,T∈D)∧∃ ds,(cat l).p B ds w∧w.ownsRow b E m v l.length ds
 deps:=E::D
 cg:=by
  rintro B v w w' hg ⟨h1,h2,ds,h3,h4,h5⟩
  refine ⟨h1,h2,ds,(cat l).cg _ _ _ _ hg h3,h4,?_⟩
  rcases h5 with h5 | ⟨g,cap,cur,e1,e2,e3,e4⟩
  ·exact .inl h5
  ·exact .inr ⟨g,cap,cur,e1,e2,hg.heap e3,e4⟩
 wr:=by
  rintro B v w w' g c T fz hgc hT hB hW ⟨h1,h2,ds,h3,h4,h5⟩
  simp only [List.mem_cons,not_or] at hT
  refine ⟨h1,h2,ds,(cat l).wr _ _ _ _ _ _ _ _ hgc (fc h2 hT.2) hB hW h3,h4,?_⟩
  rcases h5 with h5 | ⟨g0,cap,cur,e1,e2,e3,e4⟩
  ·exact .inl h5
  ·refine .inr ⟨g0,cap,cur,e1,e2,?_,e4⟩
   have hne:g0≠g:=by
    rintro rfl
    rw [hgc] at e3
    injection e3 with e3
    injection e3 with _ e3 _
    exact hT.1 e3
   rw [hW.block g0 hne]
   exact e3
theorem fH {b:Nat}{E:TypeId}{m:Nat}{D:List TypeId}:Wk (EqV (.slice none 0 0)) (OwnR b E m D []):=fun _ v w h=>by
 have e:v=.slice none 0 0:=h
 subst e
 exact ⟨(fun A hA=>by cases hA),(fun A hA=>by cases hA),[],⟨[],rfl,.nil⟩,World.ownsRow_nil w b E m⟩
theorem eP {b:Nat}{E:TypeId}{m:Nat}{D:List TypeId}{l:List As}:Wk (OwnR b E m D l) (SlA E D l).va:=fun B v w ⟨_,h2,ds,h3,h4,h5⟩=>by
 rcases h5 with ⟨rfl,h5⟩ | ⟨g,cap,cur,rfl,e2,e3,e4,e5,e6,e7⟩
 ·refine ⟨[.slice none 0 0],⟨h2,none,0,ds,by rw [h5],by omega,Nat.zero_le _,h3,fun h=>by omega⟩,rfl⟩
 ·refine ⟨[.slice (some ⟨g,0,none⟩) l.length cap],⟨h2,_,cap,ds,rfl,e4,e5,h3,fun _=>⟨g,0,rfl,(Array.getElem?_eq_some_iff.1 e3).1,.inr ⟨_,_,e3⟩,fun j u hu=>?_⟩⟩,rfl⟩
  rw [cell_of_row w g (0+j) cur E _ e3,Nat.zero_add]
  rw [← e7,List.getElem?_take] at hu
  split at hu
  ·simpa using hu
  ·cases hu
theorem dT {b:Nat}{E:TypeId}{m:Nat}{v:Value}{n:Nat}{ds:List Value}{w:World}(h:w.ownsRow b E m v n ds):RowOk w b E v.ownBlock:=by
 intro g hg
 obtain ⟨_,⟨rfl,_⟩ | ⟨g',cap,cur,rfl,e2,e3,_⟩⟩:=h
 ·cases hg
 ·have:g'=g:=by injection hg
  subst this
  exact ⟨e2,_,_,e3⟩
theorem iE {α β:Type}{R':α→β→Prop}{l1 l2:List α}{m1 m2:List β}(h:All2 R' l1 m1)(h':All2 R' l2 m2):All2 R' (l1++l2) (m1++m2):=by
 induction h with
 | nil=>exact h'
 | cons h1 _ ih=>exact .cons h1 ih
theorem jq {l l':List As}{B:Nat}{ds ds':List Value}{w:World}(h:(cat l).p B ds w)(h':(cat l').p B ds' w):(cat (l++l')).p B (ds++ds') w:=by
 obtain ⟨ps,rfl,h1⟩:=h
 obtain ⟨ps',rfl,h2⟩:=h'
 exact ⟨ps++ps',by simp,iE h1 h2⟩
def VT:VA:=⟨fun _ _ _=>True,[],fun _ _ _ _ _ _=>trivial,fun _ _ _ _ _ _ _ _ _ _ _ _ _=>trivial⟩
theorem St.wkG {B N:Nat}{w0:Bs}{Γ:List (Nat × VA)}{Λ:List Lc}{a:Act}{w:World}(h:St B w0 N Γ Λ a w){s:Nat}{A A':VA}(k:Nat)(hm:Γ[k]?=some (s,A))(hw:Wk A A'):St B w0 N (Γ.set k (s,A')) Λ a w :=
 ⟨h.lo,h.defers,h.size,h.base,fun x hx=>by
  rcases List.mem_or_eq_of_mem_set hx with hx | rfl
  ·exact h.vals x hx
  ·exact hw _ _ _ (h.vals _ (List.mem_of_getElem? hm)),h.locs,h.dis⟩
def lesN (Λ:List Lc):List Le:=Λ.map fun l=>⟨l.s,l.T,l.H,none,l.A,none⟩
section
variable {P:Program} {Q:Exit→Act→World→Prop} {B N:Nat} {w0:Bs} {Γ:List (Nat × VA)} {Λ:List Lc} {a:Act} {w:World}
end
theorem gW {P:Program}{w:World}(base:Nat)(t ty e:TypeId)(i:TypeInfo)(size:Nat)(ht:P.underlying t=some (.slice e))(hi:P.info? e=some i)
  (v:Value) (n c:Nat) (xs:List Value) (hown:w.ownsRow base e size v n xs):(Builtin.append_ #[t,t] ty #[v,.slice none 0 c]).run P w=.ok v w:=by
 rcases hown.2 with ⟨rfl,rfl⟩ | ⟨g,cap,cur,rfl,_,_,hnc,_⟩
 ·simp [Builtin.append_,run_underlying ht,sizeOf,typeInfo,hi,Builtin.lenOf,Builtin.firstCells]
 ·simp [Builtin.append_,run_underlying ht,sizeOf,typeInfo,hi,Builtin.lenOf,Builtin.firstCells,hnc,storeCells]
theorem fP {l:List As}{m:Nat}(hm:∀ A∈l,A.n=m):(cat l).n=l.length*m:=by
 induction l with
 | nil=>simp [cat]
 | cons A l ih =>
  have:=ih fun A' h=>hm A' (List.mem_cons_of_mem _ h)
  simp only [cat,List.map_cons,List.sum_cons,List.length_cons] at this ⊢
  rw [this,hm A (by simp),Nat.add_mul,Nat.one_mul,Nat.add_comm]
theorem ic {P:Program}{S E T1:TypeId}{m bytes b B:Nat}{D D':List TypeId}{l xs:List As}{w:World}{v u:Value}{it:TypeInfo}{z:Value}
  (hS:P.underlying S=some (.slice E)) (hi:P.info? E=some it) (hz:it.zero=some z) (hsz:it.size=m) (hby:it.bytes=bytes) (hzs:z.cells.size=m) (hm0:0<m) (hl:l.length+xs.length≤100000000000) (hb6:bytes≤1000)
  (hv:(OwnR b E m D l).p B v w) (hu:(SlA E D' xs).va.p B u w) (hD':∀ T∈D',T∈D) (hED:E ∉ D) (hxm:∀ x∈xs,x.n=m) (hbw:b≤w.heap.size) (hB:B≤b) :
  ∃ v' w',(Builtin.append_ #[S,S] T1 #[v,u]).run P w=.ok v' w'∧(OwnR b E m D (l++xs)).p B v' w'∧w.grownBy w' v.ownBlock∧RowOk w b E v.ownBlock:=by
 obtain ⟨h1,h2,ds,h3,h4⟩:=hv
 obtain ⟨cs,⟨hD,Ad,c,ds1,rfl,_,_,h5,h6⟩,hu'⟩:=hu
 have hu2:u=.slice Ad xs.length c:=hu'
 subst hu2
 have hl1:ds1.length=xs.length*m:=by rw [(cat xs).len _ _ _ h5,fP hxm]
 have hro:=dT h4
 have hmx:l.length+xs.length≤maxLen:=by unfold maxLen; omega
 have hbt:(l.length+xs.length)*bytes≤140737488355328:=Nat.le_trans (Nat.mul_le_mul hl hb6) zd
 have fin:∀ v' w',w'.ownsRow b E m v' (l.length+xs.length) (ds++ds1)→w.grownBy w' v.ownBlock→(OwnR b E m D (l++xs)).p B v' w':=fun v' w' r1 r2=>by
  refine ⟨fun A hA=>?_,fun A hA=>?_,ds++ds1,jq (As.grown h3 r2 hro hB (fc h2 hED)) (As.grown h5 r2 hro hB (fc (fun A hA T hT=>hD' T (hD A hA T hT)) hED)),by rw [List.length_append]; exact r1⟩
  ·rcases List.mem_append.1 hA with hA | hA
   ·exact h1 A hA
   ·exact hxm A hA
  ·rcases List.mem_append.1 hA with hA | hA
   ·exact h2 A hA
   ·exact fun T hT=>hD' T (hD A hA T hT)
 have some_case:∀ a:Addr,Ad=some a→(∀ (j:Nat) u,ds1[j]?=some u→w.cell? (a.add j)=some u)→∃ v' w',(Builtin.append_ #[S,S] T1 #[v,.slice Ad xs.length c]).run P w=.ok v' w'∧(OwnR b E m D (l++xs)).p B v' w'∧w.grownBy w' v.ownBlock∧RowOk w b E v.ownBlock:=fun a ha hc=>by
  subst ha
  obtain ⟨v',w',hr,r1,r2,_⟩:=run_append_own (P:=P) w b S T1 E it z m bytes hS hi hz hsz hby hzs hm0 v l.length ds h4 a xs.length c ds1 hl1 hc ((cat xs).one _ _ _ h5) hmx hbt hbw
  exact ⟨v',w',hr,fin v' w' r1 r2,r2,hro⟩
 by_cases hx:0<xs.length
 ·obtain ⟨g1,o1,rfl,_,_,h8⟩:=h6 hx
  exact some_case _ rfl fun j u hj=>by rw [jH]; exact h8 j u hj
 ·have h0:xs.length=0:=by omega
  have hds0:ds1=[]:=List.length_eq_zero_iff.1 (by rw [hl1,h0,Nat.zero_mul])
  cases Ad with
  | some a=>exact some_case a rfl fun j u hj=>by rw [hds0] at hj; simp at hj
  | none =>
   rw [h0]
   refine ⟨v,w,gW b S T1 E it m hS hi v l.length c ds h4,fin v w ?_ ⟨rfl,rfl,rfl,Nat.le_refl _,fun _ _ _=>rfl⟩,⟨rfl,rfl,rfl,Nat.le_refl _,fun _ _ _=>rfl⟩,hro⟩
   rw [h0,hds0,List.append_nil]
   exact h4
section
variable {P:Program} {R:Rg} {Q:Exit→Act→World→Prop} {B:Nat} {w0:Bs} {a:Act} {w:World}
open Rg in
theorem Rg.linK {id:Nat}{Λ:List Lc}{n m:Nat}(hsz:R.ops.size=n+m)(hanc:R.anc=fun i=>List.range i)(hk:R.chk=true)(h:St B w0 R.N R.Γ Λ a w)(hles:∀ e∈R.les,e.cr=none→(⟨e.s,e.T,e.H,e.A0⟩:Lc)∈Λ)
  (hob:∀ i,i<n→R.Ob P Q B w0 i) (hQ:∀ a w,R.Inv B w0 (fun k=>decide (k<n)) a w→wpOps P R.ops Q (List.range' n m) a w):(Code.region id R.ops false).wp P Q a w:=by
 refine wp_region ?_
 have key:∀ q k,k+q=n→∀ a w,R.Inv B w0 (fun j=>decide (j<k)) a w→wpOps P R.ops Q (List.range' k (q+m)) a w:=by
  intro q
  induction q with
  | zero =>
   intro k hkm a w hi
   have:k=n:=by omega
   subst this
   rw [Nat.zero_add]
   exact hQ a w hi
  | succ q ih =>
   intro k hkm a w hi
   rw [show q+1+m=(q+m)+1 by omega,List.range'_succ,wpOps_cons]
   refine step hk (hob k zo) hi ?_ (by simp) ?_ _ fun a' w' hi'=>ih (k+1) zo a' w' (hi'.congr fun j=>?_)
   ·intro i hi j hj
    rw [hanc] at hj
    simp at hi hj ⊢
    omega
   ·intro j hj
    rw [hanc] at hj
    simpa using hj
   ·unfold upd
    by_cases h1:j=k
    ·subst h1; simp
    ·have h2:(j==k)=false:=by simpa using h1
     rw [h2,Bool.false_or,decide_eq_decide]
     omega
 rw [List.range_eq_range',hsz]
 exact key n 0 zo a w ((start h hles).congr fun j=>by simp)
end
open Rg in
theorem ll {P:Program}{Q:Exit→Act→World→Prop}{B N:Nat}{w0:Bs}{Γ:List (Nat × VA)}{Λ:List Lc}{a:Act}{w:World}{id:Nat}{ops:Array Oper}{sp:List Sp}(n:Nat)(src:List Nat)(i1 i2:Nat){S E T1 T2:TypeId}{s u d e m bytes:Nat}{ps1 ps2:String}{af1 af2:Array Edge}{D D':List TypeId}{l xs:List As}{A2:VA}{it:TypeInfo}{z:Value}
  (h:St B w0 N Γ Λ a w) (hob:Obs P Q ⟨ops,N,Γ,lesN Λ,sp,fun i=>List.range i⟩ B w0 0 n) (hn2:ops.size=n+2) (hk:Rg.chk ⟨ops,N,Γ,lesN Λ,sp,fun i=>List.range i⟩=true)
  (ho1:ops[n]?=some ⟨some d,.call ⟨.builtin .append,#[.tmp s,.tmp u],#[S,S]⟩,T1,ps1,af1,none⟩) (ho2:ops[n+1]?=some ⟨some e,.assign (.tmp d),T2,ps2,af2,none⟩)
  (hi1:i1<n) (h1:sp[i1]?=some (.v s (OwnR w0.w.heap.size E m D l))) (hi2:i2<n) (h2:sp[i2]?=some (.v u A2)) (hA2:∀ w u,A2.p B u w→Kept w0 w→(SlA E D' xs).va.p B u w)
  (hS:P.underlying S=some (.slice E)) (hi:P.info? E=some it) (hz:it.zero=some z) (hsz:it.size=m) (hby:it.bytes=bytes) (hzs:z.cells.size=m) (hm0:0<m) (hl:l.length+xs.length≤100000000000) (hb6:bytes≤1000)
  (hD':∀ T∈D',T∈D) (hED:E ∉ D) (hxm:∀ x∈xs,x.n=m) (hde:(d != e)=true) (hd:d<N) (he:e<N)
  (hsrc:src.all (fun k=>match Γ[k]? with | some y => !y.2.deps.contains E&&Rg.outG ⟨ops,N,Γ,lesN Λ,sp,fun i=>List.range i⟩ y.1 | none=>false)=true)
  (hΛ:Λ.all (fun l=>l.T != E && !l.A.deps.contains E&&l.s != d&&l.s != e)=true)
  (hQ:∀ a w,St B w0 N ((e,OwnR w0.w.heap.size E m D (l++xs))::src.filterMap (fun k=>Γ[k]?)) Λ a w→Q .normal a w):(Code.region id ops false).wp P Q a w:=by
 have hles0:∀ y∈lesN Λ,y.cr=none∧y.st=none∧(⟨y.s,y.T,y.H,y.A0⟩:Lc)∈Λ:=fun y hy=>by
  obtain ⟨l',hl',rfl⟩:=List.mem_map.1 hy
  exact ⟨rfl,rfl,hl'⟩
 refine Rg.linK (R:=⟨ops,N,Γ,lesN Λ,sp,fun i=>List.range i⟩) (m:=2) hn2 G hk h (fun y hy _=>(hles0 y hy).2.2) (fun i hi=>hob.all i zo zo) fun a1 w1 hinv=>?_
 have hcl:∀ deps,Rg.clash ⟨ops,N,Γ,lesN Λ,sp,fun i=>List.range i⟩ (fun k=>decide (k<n)) deps=false:=fun deps=>by
  unfold Rg.clash
  rw [List.any_eq_false]
  intro y hy
  rw [(hles0 y hy).2.1]
  simp
 have hv:=hinv.v i1 _ s _ h1 rfl (decide_eq_true hi1) (hcl _)
 have hu:=hA2 _ _ (hinv.v i2 _ u _ h2 rfl (decide_eq_true hi2) (hcl _)) hinv.base
 have hB:B≤w0.w.heap.size:=hinv.lo _ (.inl (Nat.le_refl _))
 obtain ⟨v',w',hr,r1,r2,r3⟩:=ic (T1:=T1) hS hi hz hsz hby hzs hm0 hl hb6 hv hu hD' hED hxm hinv.base.size hB
 have hdsz:d<a1.tmps.size:=by rw [hinv.size]; exact hd
 have hesz:e<(a1.put (some d) v').tmps.size:=by rw [bu,hinv.size]; exact he
 have hne:d≠e:=by simpa using hde
 rw [List.range'_succ,wpOps_cons]
 refine bv (R:=⟨ops,N,Γ,lesN Λ,sp,fun i=>List.range i⟩) ho1 G (ba (w':=w') (v:=v') (by simp [execOp,resolve,invoke,builtin,hr,Result.andThen]) ?_)
 rw [List.range'_succ,wpOps_cons]
 refine bv (R:=⟨ops,N,Γ,lesN Λ,sp,fun i=>List.range i⟩) ho2 G (ba (w':=w') (v:=v') ?_ (hQ _ _ ?_))
 ·have:=aM a1 d v' hdsz
  simp [execOp,this]
 ·have hother:∀ t,t≠d→t≠e→((a1.put (some d) v').put (some e) v').eval (.tmp t)=a1.eval (.tmp t):=fun t h3 h4=>by
   rw [aj _ _ _ _ h4,aj _ _ _ _ h3]
  have hlc:∀ l'∈Λ,l'.T≠E∧E ∉ l'.A.deps∧l'.s≠d∧l'.s≠e:=fun l' hl'=>by
   have:=List.all_eq_true.1 hΛ l' hl'
   simp only [Bool.and_eq_true,bne_iff_ne,Bool.not_eq_true',List.contains_eq_mem,decide_eq_false_iff_not] at this
   exact ⟨this.1.1.1,this.1.1.2,this.1.2,this.2⟩
  have hcur:∀ l'∈Λ,(⟨l'.s,l'.T,l'.H,none,l'.A,none⟩:Le)∈lesN Λ:=fun l' hl'=>List.mem_map.2 ⟨l',hl',rfl⟩
  refine ⟨hinv.lo,hinv.defers.grown r2 r3 rfl,by rw [bu,bu]; exact hinv.size,?_,?_,?_,?_⟩
  ·exact ⟨r2.os.trans hinv.base.os,r2.tape.trans hinv.base.tape,r2.output.trans hinv.base.output,Nat.le_trans hinv.base.size r2.size,fun k hk hf =>
    (r2.block k (Nat.lt_of_lt_of_le hk hinv.base.size) (fun e=>by have:=(r3 k e.symm).1; omega)).trans (hinv.base.block k hk hf)⟩
  ·intro y hy
   rcases List.mem_cons.1 hy with rfl | hy
   ·show (OwnR w0.w.heap.size E m D (l++xs)).p B (((a1.put (some d) v').put (some e) v').eval (.tmp e)) w'
    rw [aM _ _ _ hesz]
    exact r1
   ·obtain ⟨k,hk1,hk2⟩:=List.mem_filterMap.1 hy
    have hs:=List.all_eq_true.1 hsrc k hk1
    simp only [hk2,Bool.and_eq_true,Bool.not_eq_true',List.contains_eq_mem,decide_eq_false_iff_not] at hs
    have hout:∀ q,q<ops.size→Rg.dst ⟨ops,N,Γ,lesN Λ,sp,fun i=>List.range i⟩ q≠some y.1:=fun q hq=>by
     have:=List.all_eq_true.1 hs.2 q (by simpa using hq)
     simpa using this
    have g1:y.1≠d:=fun e1=>hout n zo (by unfold Rg.dst; rw [ho1,e1]; rfl)
    have g2:y.1≠e:=fun e1=>hout (n+1) zo (by unfold Rg.dst; rw [ho2,e1]; rfl)
    rw [hother _ g1 g2]
    exact VA.grown (hinv.g y (List.mem_of_getElem? hk2) (fun q hq hdq=>absurd hdq (hout q hq)) (hcl _)) r2 r3 hB hs.1
  ·intro l' hl'
   obtain ⟨g1,g2,g3,g4⟩:=hlc l' hl'
   obtain ⟨g,cs,e1,e2,e3,e4⟩:=hinv.c _ (hcur l' hl') l'.A rfl
   refine ⟨g,cs,by rw [hother _ g3 g4]; exact e1,e2,?_,As.grown e4 r2 r3 hB g2⟩
   rw [r2.block g (Array.getElem?_eq_some_iff.1 e3).1 (fun e5=>by
    obtain ⟨_,c,fz,e6⟩:=r3 g e5.symm
    rw [e3] at e6
    injection e6 with e6
    injection e6 with _ e6 _
    exact g1 e6)]
   exact e3
  ·intro l1 hl1 l2 hl2 hne'
   obtain ⟨_,_,g3,g4⟩:=hlc l1 hl1
   obtain ⟨_,_,g5,g6⟩:=hlc l2 hl2
   rw [hother _ g3 g4,hother _ g5 g6]
   exact hinv.x _ (hcur l1 hl1) _ (hcur l2 hl2) hne' G rfl
section
variable {P:Program} {Q:Exit→Act→World→Prop} {B N:Nat} {w0:Bs} {Γ:List (Nat × VA)} {Λ:List Lc} {a:Act} {w:World}
end
def OwnB (b:Nat)(E:TypeId)(m:Nat)(D:List TypeId)(l:List As):VA where
 p B v w:=b≤w.heap.size∧B≤b∧(OwnR b E m D l).p B v w
 deps:=E::D
 cg:=fun B v w w' hg ⟨h1,h2,h3⟩=>⟨Nat.le_trans h1 hg.size,h2,(OwnR b E m D l).cg B v w w' hg h3⟩
 wr:=fun B v w w' g c T fz hgc hT hB hW ⟨h1,h2,h3⟩=>⟨by rw [hW.size]; exact h1,h2,(OwnR b E m D l).wr B v w w' g c T fz hgc hT hB hW h3⟩
def PtrLt (b:Nat):VA where
 p _ v _:=∃ g,blk v=some g∧g<b
 deps:=[]
 cg:=fun _ _ _ _ _ h=>h
 wr:=fun _ _ _ _ _ _ _ _ _ _ _ _ h=>h
open Rg in
theorem BV {P:Program}{Q:Exit→Act→World→Prop}{B N:Nat}{w0:Bs}{Γ:List (Nat × VA)}{Λ:List Lc}{a:Act}{w:World}{id:Nat}{ops:Array Oper}{sp:List Sp}(n:Nat)(src:List Nat)(i1 i2 k3:Nat){S E T1 T2:TypeId}{s u d e m bytes b s3:Nat}{ps1 ps2:String}{af1 af2:Array Edge}{D D':List TypeId}{l xs:List As}{A2:VA}{it:TypeInfo}{z:Value}
  (h:St B w0 N Γ Λ a w) (hob:Obs P Q ⟨ops,N,Γ,lesN Λ,sp,fun i=>List.range i⟩ B w0 0 n) (hn2:ops.size=n+2) (hk:Rg.chk ⟨ops,N,Γ,lesN Λ,sp,fun i=>List.range i⟩=true)
  (ho1:ops[n]?=some ⟨some d,.call ⟨.builtin .append,#[.tmp s,.tmp u],#[S,S]⟩,T1,ps1,af1,none⟩) (ho2:ops[n+1]?=some ⟨some e,.assign (.tmp d),T2,ps2,af2,none⟩)
  (hi1:i1<n) (h1:sp[i1]?=some (.v s (OwnB b E m D l))) (hi2:i2<n) (h2:sp[i2]?=some (.v u A2)) (h3:Γ[k3]?=some (s3,PtrLt b)) (ho3:Rg.outG ⟨ops,N,Γ,lesN Λ,sp,fun i=>List.range i⟩ s3=true) (hwb:w0.w.heap.size≤b) (hA2:∀ w u,A2.p B u w→Kept w0 w→(SlA E D' xs).va.p B u w)
  (hS:P.underlying S=some (.slice E)) (hi:P.info? E=some it) (hz:it.zero=some z) (hsz:it.size=m) (hby:it.bytes=bytes) (hzs:z.cells.size=m) (hm0:0<m) (hl:l.length+xs.length≤100000000000) (hb6:bytes≤1000)
  (hD':∀ T∈D',T∈D) (hED:E ∉ D) (hxm:∀ x∈xs,x.n=m) (hde:(d != e)=true) (hd:d<N) (he:e<N)
  (hsrc:src.all (fun k=>match Γ[k]? with | some y => !y.2.deps.contains E&&Rg.outG ⟨ops,N,Γ,lesN Λ,sp,fun i=>List.range i⟩ y.1 | none=>false)=true)
  (hΛ:Λ.all (fun l=>(l.T != E || l.s==s3) && !l.A.deps.contains E&&l.s != d&&l.s != e)=true)
  (hQ:∀ a w,St B w0 N ((e,OwnB b E m D (l++xs))::src.filterMap (fun k=>Γ[k]?)) Λ a w→Q .normal a w):(Code.region id ops false).wp P Q a w:=by
 have hles0:∀ y∈lesN Λ,y.cr=none∧y.st=none∧(⟨y.s,y.T,y.H,y.A0⟩:Lc)∈Λ:=fun y hy=>by
  obtain ⟨l',hl',rfl⟩:=List.mem_map.1 hy
  exact ⟨rfl,rfl,hl'⟩
 refine Rg.linK (R:=⟨ops,N,Γ,lesN Λ,sp,fun i=>List.range i⟩) (m:=2) hn2 G hk h (fun y hy _=>(hles0 y hy).2.2) (fun i hi=>hob.all i zo zo) fun a1 w1 hinv=>?_
 have hcl:∀ deps,Rg.clash ⟨ops,N,Γ,lesN Λ,sp,fun i=>List.range i⟩ (fun k=>decide (k<n)) deps=false:=fun deps=>by
  unfold Rg.clash
  rw [List.any_eq_false]
  intro y hy
  rw [(hles0 y hy).2.1]
  simp
 obtain ⟨hbw,hB,hv⟩:=hinv.v i1 _ s _ h1 rfl (decide_eq_true hi1) (hcl _)
 have hout:∀ t,Rg.outG ⟨ops,N,Γ,lesN Λ,sp,fun i=>List.range i⟩ t=true→∀ q,q<ops.size→Rg.dst ⟨ops,N,Γ,lesN Λ,sp,fun i=>List.range i⟩ q≠some t:=fun t ht q hq=>by
  have:=List.all_eq_true.1 ht q (by simpa using hq)
  simpa using this
 obtain ⟨g3,hg3,hlt3⟩:=hinv.g _ (List.mem_of_getElem? h3) (fun q hq hdq=>absurd hdq (hout _ ho3 q hq)) (hcl _)
 have hu:=hA2 _ _ (hinv.v i2 _ u _ h2 rfl (decide_eq_true hi2) (hcl _)) hinv.base
 obtain ⟨v',w',hr,r1,r2,r3⟩:=ic (T1:=T1) hS hi hz hsz hby hzs hm0 hl hb6 hv hu hD' hED hxm hbw hB
 have hdsz:d<a1.tmps.size:=by rw [hinv.size]; exact hd
 have hesz:e<(a1.put (some d) v').tmps.size:=by rw [bu,hinv.size]; exact he
 have hne:d≠e:=by simpa using hde
 rw [List.range'_succ,wpOps_cons]
 refine bv (R:=⟨ops,N,Γ,lesN Λ,sp,fun i=>List.range i⟩) ho1 G (ba (w':=w') (v:=v') (by simp [execOp,resolve,invoke,builtin,hr,Result.andThen]) ?_)
 rw [List.range'_succ,wpOps_cons]
 refine bv (R:=⟨ops,N,Γ,lesN Λ,sp,fun i=>List.range i⟩) ho2 G (ba (w':=w') (v:=v') ?_ (hQ _ _ ?_))
 ·have:=aM a1 d v' hdsz
  simp [execOp,this]
 ·have hother:∀ t,t≠d→t≠e→((a1.put (some d) v').put (some e) v').eval (.tmp t)=a1.eval (.tmp t):=fun t h3 h4=>by
   rw [aj _ _ _ _ h4,aj _ _ _ _ h3]
  have hlc:∀ l'∈Λ,(l'.T≠E∨l'.s=s3)∧E ∉ l'.A.deps∧l'.s≠d∧l'.s≠e:=fun l' hl'=>by
   have:=List.all_eq_true.1 hΛ l' hl'
   simp only [Bool.and_eq_true,Bool.or_eq_true,beq_iff_eq,bne_iff_ne,Bool.not_eq_true',List.contains_eq_mem,decide_eq_false_iff_not] at this
   exact ⟨this.1.1.1,this.1.1.2,this.1.2,this.2⟩
  have hcur:∀ l'∈Λ,(⟨l'.s,l'.T,l'.H,none,l'.A,none⟩:Le)∈lesN Λ:=fun l' hl'=>List.mem_map.2 ⟨l',hl',rfl⟩
  refine ⟨hinv.lo,hinv.defers.grown r2 r3 rfl,by rw [bu,bu]; exact hinv.size,?_,?_,?_,?_⟩
  ·exact ⟨r2.os.trans hinv.base.os,r2.tape.trans hinv.base.tape,r2.output.trans hinv.base.output,Nat.le_trans hinv.base.size r2.size,fun k hk hf =>
    (r2.block k (Nat.lt_of_lt_of_le hk hinv.base.size) (fun e=>by have:=(r3 k e.symm).1; omega)).trans (hinv.base.block k hk hf)⟩
  ·intro y hy
   rcases List.mem_cons.1 hy with rfl | hy
   ·show (OwnB b E m D (l++xs)).p B (((a1.put (some d) v').put (some e) v').eval (.tmp e)) w'
    rw [aM _ _ _ hesz]
    exact ⟨Nat.le_trans hbw r2.size,hB,r1⟩
   ·obtain ⟨k,hk1,hk2⟩:=List.mem_filterMap.1 hy
    have hs:=List.all_eq_true.1 hsrc k hk1
    simp only [hk2,Bool.and_eq_true,Bool.not_eq_true',List.contains_eq_mem,decide_eq_false_iff_not] at hs
    have hout:=hout y.1 hs.2
    have g1:y.1≠d:=fun e1=>hout n zo (by unfold Rg.dst; rw [ho1,e1]; rfl)
    have g2:y.1≠e:=fun e1=>hout (n+1) zo (by unfold Rg.dst; rw [ho2,e1]; rfl)
    rw [hother _ g1 g2]
    exact VA.grown (hinv.g y (List.mem_of_getElem? hk2) (fun q hq hdq=>absurd hdq (hout q hq)) (hcl _)) r2 r3 hB hs.1
  ·intro l' hl'
   obtain ⟨g1,g2,g3,g4⟩:=hlc l' hl'
   obtain ⟨g,cs,e1,e2,e3,e4⟩:=hinv.c _ (hcur l' hl') l'.A rfl
   refine ⟨g,cs,by rw [hother _ g3 g4]; exact e1,e2,?_,As.grown e4 r2 r3 hB g2⟩
   rw [r2.block g (Array.getElem?_eq_some_iff.1 e3).1 (fun e5=>by
    obtain ⟨h8,c,fz,e6⟩:=r3 g e5.symm
    rcases g1 with g1 | g1
    ·rw [e3] at e6
     injection e6 with e6
     injection e6 with _ e6 _
     exact g1 e6
    ·rw [← g1,e1,l'.H.ok] at hg3
     injection hg3 with hg3
     omega)]
   exact e3
  ·intro l1 hl1 l2 hl2 hne'
   obtain ⟨_,_,g3,g4⟩:=hlc l1 hl1
   obtain ⟨_,_,g5,g6⟩:=hlc l2 hl2
   rw [hother _ g3 g4,hother _ g5 g6]
   exact hinv.x _ (hcur l1 hl1) _ (hcur l2 hl2) hne' G rfl
theorem Cn.introF {P : Program} {f : FuncId} {fn : Func} {c : Code} {pre : List VA} {post : VA} (hf : P.funcs[f]? = some fn) (hb : fn.body = some c) (hn : (fn.name == "runtime.NumGoroutine") = false) (hsz : pre.length ≤ fn.ntmps)
  (h:∀ (B:Nat) (w0:Bs) (a:Act),NoF w0→St B w0 fn.ntmps (argΓ pre) [] a w0.w→c.wp P (bPost P fn (RQ B w0 post)) a w0.w):Cn P f pre post:=by
 refine ⟨⟨fn,hf,hn,by rw [hb]; rfl⟩,fun B w args hB ha=>(bQ hf hb (h B ⟨w,fun _=>False,false⟩ _ (fun _ h=>h.elim) ?_)).mono fun _ _ ⟨v,he,hv,hk⟩=>⟨v,he,hv,hk.grow0⟩⟩
 have hl:=ha.length
 refine ⟨fun g hg=>Nat.le_trans hB (hg.resolve_right fun h=>h),DefOk.nil rfl,?_,Kept.refl _,All2.args ha,(fun l hl=>by cases hl),(fun l hl=>by cases hl)⟩
 simp only [Array.size_append,List.size_toArray,Array.size_replicate]
 omega
theorem bE {R:Rg}{B i:Nat}{w0:Bs}{x:Operand}{v:Value}{A:VA}(hF:NoF w0)(hv:A.p B v w0.w)(h:Has R B w0 i x (EqV v)):Has R B w0 i x A:=fun a w av=>by
 have e:a.eval x=v:=h a w av
 rw [e]
 exact A.cg _ _ _ _ (hF.cg av.base) hv
theorem St.eqv {B N:Nat}{w0:Bs}{Γ:List (Nat × VA)}{Λ:List Lc}{a:Act}(h:St B w0 N Γ Λ a w0.w){s:Nat}{A:VA}(k:Nat)(hm:Γ[k]?=some (s,A)):∃ v,A.p B v w0.w∧St B w0 N (Γ.set k (s,EqV v)) Λ a w0.w :=
 ⟨a.eval (.tmp s),h.vals _ (List.mem_of_getElem? hm),h.lo,h.defers,h.size,h.base,fun x hx=>by
  rcases List.mem_or_eq_of_mem_set hx with hx | rfl
  ·exact h.vals x hx
  ·exact rfl,h.locs,h.dis⟩
theorem x6 {l l':List VA}(h:All2 Free l l'){B B':Nat}{w:World}(hB:B'≤B):∀ {vs:List Value},All2 (fun (A:VA) x=>A.p B x w) l vs→All2 (fun (A:VA) x=>A.p B' x w) l' vs:=by
 induction h with
 | nil=>intro vs hv; cases hv; exact .nil
 | cons h _ ih=>intro vs hv; cases hv with | cons h1 h2=>exact .cons (h _ _ _ _ hB h1) (ih h2)
theorem uf {l l':List VA}(h:All2 Free l l'):Free (Tu l) (Tu l'):=fun _ _ _ _ hB ⟨vs,e,hv⟩=>⟨vs,e,x6 h hB hv⟩
def CnI (P:Program)(f:FuncId)(pre:List VA)(mk:Nat→VA):Prop :=
 (∃ fn, P.funcs[f]? = some fn ∧ (fn.name == "runtime.NumGoroutine") = false ∧ fn.body.isNone = false) ∧
 ∀ (B:Nat) (w:World) (args:List Value),B≤w.heap.size→All2 (fun A v=>A.p B v w) pre args →
  Calls P f args.toArray w fun e w'=>∃ v,e=.returned v∧(mk w.heap.size).p B v w'∧Grow w w'
theorem CnI.introF {P : Program} {f : FuncId} {fn : Func} {c : Code} {pre : List VA} {mk : Nat → VA} (hf : P.funcs[f]? = some fn) (hb : fn.body = some c) (hn : (fn.name == "runtime.NumGoroutine") = false) (hsz : pre.length ≤ fn.ntmps)
  (h:∀ (B:Nat) (w0:Bs) (a:Act),(∀ g,¬ w0.F g)→NoF w0→St B w0 fn.ntmps (argΓ pre) [] a w0.w→c.wp P (bPost P fn (RQ B w0 (mk w0.w.heap.size))) a w0.w):CnI P f pre mk:=by
 refine ⟨⟨fn,hf,hn,by rw [hb]; rfl⟩,fun B w args hB ha=>(bQ hf hb (h B ⟨w,fun _=>False,false⟩ _ (fun _ h=>h) (fun _ h=>h.elim) ?_)).mono fun _ _ ⟨v,he,hv,hk⟩=>⟨v,he,hv,hk.grow0⟩⟩
 have hl:=ha.length
 refine ⟨fun g hg=>Nat.le_trans hB (hg.resolve_right fun h=>h),DefOk.nil rfl,?_,Kept.refl _,All2.args ha,(fun l hl=>by cases hl),(fun l hl=>by cases hl)⟩
 simp only [Array.size_append,List.size_toArray,Array.size_replicate]
 omega
end Go.Proofs.YtmacliockgbdcaaGreatDoor
