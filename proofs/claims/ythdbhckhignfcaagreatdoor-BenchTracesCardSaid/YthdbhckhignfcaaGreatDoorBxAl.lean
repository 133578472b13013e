import Derived.Test.YthdbhckhignfcaaGreatDoorBxAa
import Derived.Test.YthdbhckhignfcaaGreatDoorBxAc
import Derived.Test.YthdbhckhignfcaaGreatDoorBxAk
import Derived.ProofKit
import Derived.OpenShut
import Derived.ChangeOld
import Derived.Below
import Derived.WalkKit
set_option linter.unusedVariables false
set_option linter.unusedSimpArgs false
set_option linter.unusedSectionVars false
set_option maxRecDepth 100000
namespace Go.Proofs.YthdbhckhignfcaaGreatDoor
open Go Go.RowKit
def intSizeF (x:RI):Int:=IntKind.i64.wrap (1+(x.mag.length:Int))
def fracSizeF (x:RF):Int:=IntKind.i64.wrap (intSizeF x.num+intSizeF x.den)
def lowCostF (x y:RI):Int:=IntKind.i64.wrap (IntKind.i64.wrap ((IntKind.i64.wrap (min (x.mag.length:Int) 1048576*min (y.mag.length:Int) 1048576)).tdiv 16)*1024)
def fracCostF (x:RF):Int:=IntKind.i64.wrap (fracSizeF x+lowCostF x.num x.den)
def rayCostF (x:RR):Int:=IntKind.i64.wrap (fracCostF x.y+fracCostF x.u)
def bydF (n:Int):List Int→Bool
 | []=>false
 | x::xs=>if decide (IntKind.i64.wrap (n+x)>1048576) then true else bydF (IntKind.i64.wrap (n+x)) xs
theorem byd_yes {n:Int}{l:List Int}{j:Nat}(h:j<l.length)(h2:decide (IntKind.i64.wrap (n+l[j])>1048576)=true):true=bydF n (l.drop j):=by
 rw [List.drop_eq_getElem_cons h,bydF,h2]; rfl
theorem byd_no {n:Int}{l:List Int}{j:Nat}(h:j<l.length)(h2:decide (IntKind.i64.wrap (n+l[j])>1048576)=false):bydF n (l.drop j)=bydF (IntKind.i64.wrap (n+l[j])) (l.drop (j+1)):=by
 rw [List.drop_eq_getElem_cons h,bydF,h2]; rfl
theorem wi_nx {j m:Nat}(h:j<m)(hm:m≤9223372036854775807):IntKind.i64.wrap ((j:Int)+1)=((j+1:Nat):Int):=by rw [wi64 zo zo]; rfl
theorem slA_len {E:TypeId}{D:List TypeId}{l:List As}{B:Nat}{v:Value}{w:World}(h:(SlA E D l).va.p B v w):l.length≤9223372036854775807:=by
 obtain ⟨cs,⟨_,A,c,ds,_,h1,h2,_⟩,_⟩:=h
 unfold maxLen at h2
 omega
theorem zm8 {E:TypeId}{D:List TypeId}{α:Type}{f:α→As}{l:List α}{B:Nat}{v:Value}{w:World}(h:(SlA E D (l.map f)).va.p B v w):l.length≤9223372036854775807:=by
 have:=slA_len h
 rwa [List.length_map] at this
theorem zoy (x:RI):Cn Tryz.prog 151 [(RIA x).va] (In (intSizeF x)):=by
 refine Cn.intro Tryz.func151 rfl zk nq (fun B w0 a O=>?_)
 have O:=zn [(0,(RIA x).va)] [] O
 refine wp_seq<|zg [] [⟨1,25,ptrH,some 0,_,none⟩] [.alc 0,.v 2 _] [.o 1] O (oc (zam rfl rfl rfl (gq 0 rfl)) (zv rfl (za2 za3) o0)) (zz [(2,_)] [⟨1,25,ptrH,_⟩] fun a w O=>?_)
 refine zt<|zg [none] [] [.adr 3 1 (.some 1) True,.v 4 _,.v 5 _,.v 6 _,.v 2 _] [.o 4] O (oc (ob_a rfl rfl (za9 (lz0 0 rfl) zah)) (zv rfl (za4 0 rfl zk trivial (lz0 0 rfl) (Sub.part 1 rfl rfl) zb9) (zv rfl (zax Tryz.underlying23 (vq 1 rfl)) (zv rfl (zb5 za3 (vq 2 rfl) (rfl)) (zv rfl (za2 (vq 3 rfl)) o0))))) (zz [(2,_)] [⟨1,25,ptrH,_⟩] fun a w O=>?_)
 refine za0<|wp_ret<|zai ?_ (zaf rfl O (zm 0 rfl))
 exact zbn
theorem zu9 (x:RF):Cn Tryz.prog 87 [(RFA x).va] (In (fracSizeF x)):=by
 refine Cn.intro Tryz.func87 rfl zk nq (fun B w0 a O=>?_)
 have O:=zn [(0,(RFA x).va)] [] O
 refine wp_seq<|zg [] [⟨1,27,ptrH,some 0,_,none⟩] [.alc 0,.v 2 _] [.o 1] O (oc (zam rfl rfl rfl (gq 0 rfl)) (zv rfl (za2 za3) o0)) (zz [(2,_)] [⟨1,27,ptrH,_⟩] fun a w O=>?_)
 refine zt<|zgd [[],[0],[0,1],[],[3],[0,1,2,3,4],[0,1,2,3,4,5],[0,1,2,3,4,5,6]] [none] [] [.adr 3 1 (.some 0) True,.v 4 _,.v 5 _,.adr 6 1 (.some 2) True,.v 7 _,.v 8 _,.v 9 _,.v 2 _] [.o 7] za6 O (oc (ob_a rfl rfl (za9 (lz0 0 rfl) zbf)) (zv rfl (za4 0 rfl zk trivial (lz0 0 rfl) (Sub.part 0 rfl rfl) zac) (zv rfl (za5 (xs:=[.tmp 4]) (zoy _) (.cons (vq 1 rfl) .nil)) (oc (ob_a rfl rfl (za9 (lz0 0 rfl) zbb)) (zv rfl (za4 3 rfl zk trivial (lz0 0 rfl) (Sub.part 1 rfl rfl) zac) (zv rfl (za5 (xs:=[.tmp 7]) (zoy _) (.cons (vq 4 rfl) .nil)) (zv rfl (zb5 (vq 2 rfl) (vq 5 rfl) (rfl)) (zv rfl (za2 (vq 6 rfl)) o0)))))))) zk zk zk zk (zz [(2,_)] [⟨1,27,ptrH,_⟩] fun a w O=>?_)
 refine za0<|wp_ret<|zai ?_ (zaf rfl O (zm 0 rfl))
 exact zbn
theorem zxg (x y:RI):Cn Tryz.prog 88 [(RIA x).va,(RIA y).va] (In (lowCostF x y)):=by
 refine Cn.intro Tryz.func88 rfl zk nq (fun B w0 a O=>?_)
 have O:=zn [(0,(RIA x).va),(1,(RIA y).va)] [] O
 refine wp_seq<|zg [] [⟨2,25,ptrH,some 0,_,none⟩,⟨3,25,ptrH,some 1,_,none⟩] [.alc 0,.alc 1,.v 4 _] [.o 2] O (oc (zam rfl rfl rfl (gq 0 rfl)) (oc (zam rfl rfl rfl (gq 1 rfl)) (zv rfl (za2 za3) o0))) (zz [(4,_)] [⟨2,25,ptrH,_⟩,⟨3,25,ptrH,_⟩] fun a w O=>?_)
 refine zt<|zg [none,none] [] [.adr 5 2 (.some 1) True,.v 6 _,.v 7 _,.v 8 _,.adr 9 3 (.some 1) True,.v 10 _,.v 11 _,.v 12 _,.v 13 _,.v 14 _,.v 15 _,.v 4 _] [.o 11] O (oc (ob_a rfl rfl (za9 (lz0 0 rfl) zah)) (zv rfl (za4 0 rfl zk trivial (lz0 0 rfl) (Sub.part 1 rfl rfl) zb9) (zv rfl (zax Tryz.underlying23 (vq 1 rfl)) (zv rfl (r_min (vq 2 rfl) za3) (oc (ob_a rfl rfl (za9 (lz0 1 rfl) zah)) (zv rfl (za4 4 rfl zk trivial (lz0 1 rfl) (Sub.part 1 rfl rfl) zb9) (zv rfl (zax Tryz.underlying23 (vq 5 rfl)) (zv rfl (r_min (vq 6 rfl) za3) (zv rfl (zmh (vq 3 rfl) (vq 7 rfl) (rfl)) (zv rfl (zla (vq 8 rfl) za3 zd (rfl)) (zv rfl (zmh (vq 9 rfl) za3 (rfl)) (zv rfl (za2 (vq 10 rfl)) o0)))))))))))) (zz [(4,_)] [⟨2,25,ptrH,_⟩,⟨3,25,ptrH,_⟩] fun a w O=>?_)
 refine za0<|wp_ret<|zai ?_ (zaf rfl O (zm 0 rfl))
 exact zbn
theorem zgj (x:RF):Cn Tryz.prog 19 [(RFA x).va] (In (fracCostF x)):=by
 refine Cn.intro Tryz.func19 rfl zk nq (fun B w0 a O=>?_)
 have O:=zn [(0,(RFA x).va)] [] O
 refine wp_seq<|zg [] [⟨1,27,ptrH,some 0,_,none⟩] [.alc 0,.v 2 _] [.o 1] O (oc (zam rfl rfl rfl (gq 0 rfl)) (zv rfl (za2 za3) o0)) (zz [(2,_)] [⟨1,27,ptrH,_⟩] fun a w O=>?_)
 refine zt<|zgd [[],[0],[],[2],[],[4],[0,1,2,3,4,5],[0,1,2,3,4,5,6],[0,1,2,3,4,5,6,7]] [none] [] [.v 3 _,.v 4 _,.adr 5 1 (.some 0) True,.v 6 _,.adr 7 1 (.some 2) True,.v 8 _,.v 9 _,.v 10 _,.v 2 _] [.o 8] za6 O (zv rfl (zaq (lz0 0 rfl) zar) (zv rfl (za5 (xs:=[.tmp 3]) (zu9 _) (.cons (vq 0 rfl) .nil)) (oc (ob_a rfl rfl (za9 (lz0 0 rfl) zbf)) (zv rfl (za4 2 rfl zk trivial (lz0 0 rfl) (Sub.part 0 rfl rfl) zac) (oc (ob_a rfl rfl (za9 (lz0 0 rfl) zbb)) (zv rfl (za4 4 rfl zk trivial (lz0 0 rfl) (Sub.part 1 rfl rfl) zac) (zv rfl (za5 (xs:=[.tmp 6,.tmp 8]) (zxg _ _) (.cons (vq 3 rfl) (.cons (vq 5 rfl) .nil))) (zv rfl (zb5 (vq 1 rfl) (vq 6 rfl) (rfl)) (zv rfl (za2 (vq 7 rfl)) o0))))))))) zk zk zk zk (zz [(2,_)] [⟨1,27,ptrH,_⟩] fun a w O=>?_)
 refine za0<|wp_ret<|zai ?_ (zaf rfl O (zm 0 rfl))
 exact zbn
theorem zw9 (x:RR):Cn Tryz.prog 6 [(RRA x).va] (In (rayCostF x)):=by
 refine Cn.intro Tryz.func6 rfl zk nq (fun B w0 a O=>?_)
 have O:=zn [(0,(RRA x).va)] [] O
 refine wp_seq<|zg [] [⟨1,29,ptrH,some 0,_,none⟩] [.alc 0,.v 2 _] [.o 1] O (oc (zam rfl rfl rfl (gq 0 rfl)) (zv rfl (za2 za3) o0)) (zz [(2,_)] [⟨1,29,ptrH,_⟩] fun a w O=>?_)
 refine zt<|zgd [[],[0],[0,1],[],[3],[0,1,2,3,4],[0,1,2,3,4,5],[0,1,2,3,4,5,6]] [none] [] [.adr 3 1 (.some 0) True,.v 4 _,.v 5 _,.adr 6 1 (.some 4) True,.v 7 _,.v 8 _,.v 9 _,.v 2 _] [.o 7] za6 O (oc (ob_a rfl rfl (za9 (lz0 0 rfl) zci)) (zv rfl (za4 0 rfl zk trivial (lz0 0 rfl) (Sub.part 0 rfl rfl) zar) (zv rfl (za5 (xs:=[.tmp 4]) (zgj _) (.cons (vq 1 rfl) .nil)) (oc (ob_a rfl rfl (za9 (lz0 0 rfl) zch)) (zv rfl (za4 3 rfl zk trivial (lz0 0 rfl) (Sub.part 1 rfl rfl) zar) (zv rfl (za5 (xs:=[.tmp 7]) (zgj _) (.cons (vq 4 rfl) .nil)) (zv rfl (zb5 (vq 2 rfl) (vq 5 rfl) (rfl)) (zv rfl (za2 (vq 6 rfl)) o0)))))))) zk zk zk zk (zz [(2,_)] [⟨1,29,ptrH,_⟩] fun a w O=>?_)
 refine za0<|wp_ret<|zai ?_ (zaf rfl O (zm 0 rfl))
 exact zbn
theorem beyond_c (l:List Int):Cn Tryz.prog 4 [(SlA 3 [] (l.map (NumA .i64))).va] (Bo (bydF 0 l)):=by
 refine Cn.intro Tryz.func4 rfl zk nq (fun B w0 a O=>?_)
 have O:=zn [(0,(SlA 3 [] (l.map (NumA .i64))).va)] [] O
 have hl:=zm8 (O.vals (0,(SlA 3 [] (l.map (NumA .i64))).va) (zm 0 rfl))
 refine wp_seq<|zh [.v 2 _] [.g 0,.o 0] O (zv rfl (za2 zav) o0) (zz [(0,_),(2,_)] [] fun a w O=>?_)
 refine zt<|zh [.v 3 _] [.g 0,.g 1,.o 0] O (zv rfl (za2 za3) o0) (zz [(0,_),(2,_),(3,_)] [] fun a w O=>?_)
 refine zt<|wp_seq<|zh [.v 4 _] [.g 0,.g 1,.g 2,.o 0] O (zv rfl (za2 za3) o0) (zz [(0,_),(2,_),(3,_),(4,_)] [] fun a w O=>?_)
 refine za0<|wp_block ?_
 have O:=St.sel O [0,2,3]
 refine wp_loop_ghost (fun n a w=>∃ (j:Nat) (m:Int),(n+j=l.length∧bydF 0 l=bydF m (l.drop j))∧St B w0 19 [(0,(SlA 3 [] (l.map (NumA .i64))).va),(3,In m),(4,In (j:Nat))] [] a w) (l.length) ?_ ?_
 ·exact ⟨0,0,⟨by omega,rfl⟩,O⟩
 intro n a w hI
 obtain ⟨j,m,⟨hn,hm⟩,O⟩:=hI
 refine wp_seq<|wp_seq<|zh [.v 5 _,.v 6 _,.v 7 _,.v 8 _] [.g 0,.g 1,.g 2,.o 3] O (zv rfl (za1 (gq 2 rfl)) (zv rfl (za1 (gq 0 rfl)) (zv rfl (zbk Tryz.underlying65 (vq 1 rfl)) (zv rfl (zb1 (vq 0 rfl) (vq 2 rfl)) o0)))) (zz [(0,_),(3,_),(4,_),(8,_)] [] fun a w O=>?_)
 refine za0<|za8 O (zm 3 rfl) (fun hb0=>?_) (fun hb0=>?_)
 ·have hj:j<l.length:=by rw [List.length_map] at hb0; simp at hb0; omega
  refine wp_skip<|zt<|wp_block<|wp_seq<|zh [.v 11 _,.v 12 _,.v 13 _,.v 14 _,.v 15 _,.v 16 _,.v 3 _] [.g 0,.g 2,.o 6] O (zv rfl (za1 (gq 1 rfl)) (zv rfl (za1 (gq 0 rfl)) (zv rfl (za1 (gq 2 rfl)) (zv rfl (zd0 sl_65 (zgp fun _=>rfl) (vq 1 rfl) (vq 2 rfl) (ze1 hj)) (zv rfl (zad (vq 3 rfl) ty_3) (zv rfl (zb5 (vq 0 rfl) (vq 4 rfl) (rfl)) (zv rfl (za2 (vq 5 rfl)) o0))))))) (zz [(0,_),(4,_),(3,_)] [] fun a w O=>?_)
  refine zt<|zh [.v 17 _,.v 18 _] [.g 0,.g 1,.g 2,.o 1] O (zv rfl (za1 (gq 2 rfl)) (zv rfl (zev (vq 0 rfl) za3) o0)) (zz [(0,_),(4,_),(3,_),(18,_)] [] fun a w O=>?_)
  refine za0<|za8 O (zm 3 rfl) (fun hb1=>?_) (fun hb1=>?_)
  ·refine wp_seq<|zh [.v 2 _] [.g 0,.g 1,.g 2,.o 0] O (zv rfl (za2 zav) o0) (zz [(0,_),(4,_),(3,_),(2,_)] [] fun a w O=>?_)
   refine za0<|wp_ret<|zba ?_
   refine zag ?_
   refine zag ?_
   refine zba ?_
   refine zag ?_
   refine zai ?_ (zaf rfl O (zm 3 rfl))
   exact zbt (congrArg Bo ((byd_yes hj hb1).trans hm.symm))
  ·refine wp_skip<|zae ?_
   refine za0<|zh [.v 9 _,.v 10 _,.v 4 _] [.g 0,.g 2,.o 2] O (zv rfl (za1 (gq 1 rfl)) (zv rfl (zb5 (vq 0 rfl) za3 (wi_nx hj hl)) (zv rfl (za2 (vq 1 rfl)) o0))) (zz [(0,_),(3,_),(4,_)] [] fun a w O=>?_)
   refine za0 ?_
   have O:=St.sel O [0,1,2]
   exact ⟨n-1,by omega,j+1,_,⟨by omega,hm.trans (byd_no hj hb1)⟩,O⟩
 ·obtain rfl:j=l.length:=by rw [List.length_map] at hb0; simp at hb0; omega
  refine wp_exit<|za7<|za7<|zap<|zt<|zh [.v 2 _] [.o 0] O (zv rfl (za2 zav) o0) (zz [(2,_)] [] fun a w O=>?_)
  refine za0<|wp_ret<|zai ?_ (zaf rfl O (zm 0 rfl))
  exact zbt (congrArg Bo (by rw [hm,List.drop_of_length_le (Nat.le_refl _)]; rfl))
theorem same_yes {a b:RI}(hn:a.neg=b.neg)(h:a.mag=b.mag):true=decide (a=b):=by
 cases a; cases b; simp_all
theorem same_no1 {a b:RI}(h:((a.neg != b.neg) || (((a.mag.length:Nat):Int) != ((b.mag.length:Nat):Int)))=true):false=decide (a=b):=by
 symm
 apply decide_eq_false
 rintro rfl
 simp at h
theorem same_two {a b:RI}(h:((a.neg != b.neg) || (((a.mag.length:Nat):Int) != ((b.mag.length:Nat):Int)))=false):a.neg=b.neg∧a.mag.length=b.mag.length:=by
 simp only [Bool.or_eq_false_iff,bne_eq_false_iff_eq] at h
 exact ⟨h.1,by omega⟩
theorem same_no2 {a b:RI}{j:Nat}(h1:j<a.mag.length)(h2:j<b.mag.length)(h:(((a.mag[j]:Nat):Int) != ((b.mag[j]:Nat):Int))=true):false=decide (a=b):=by
 symm
 apply decide_eq_false
 rintro rfl
 simp at h
theorem take_eq {l m:List Nat}{j:Nat}(h1:j<l.length)(h2:j<m.length)(h:l.take j=m.take j)(h3:(((l[j]:Nat):Int) != ((m[j]:Nat):Int))=false):l.take (j+1)=m.take (j+1):=by
 rw [List.take_succ_eq_append_getElem h1,List.take_succ_eq_append_getElem h2,h]
 simp only [bne_eq_false_iff_eq] at h3
 rw [show l[j]=m[j] by omega]
theorem rf_eq {a b:RF}:(decide (a.num=b.num)&&decide (a.den=b.den))=decide (a=b):=by
 cases a; cases b; rw [Bool.eq_iff_iff]; simp
theorem rr_eq {a b:RR}:(decide (a.y=b.y)&&decide (a.u=b.u))=decide (a=b):=by
 cases a; cases b; rw [Bool.eq_iff_iff]; simp
theorem zk2 (x y:RI):Cn Tryz.prog 177 [(RIA x).va,(RIA y).va] (Bo (decide (x=y))):=by
 refine Cn.intro Tryz.func177 rfl zk nq (fun B w0 a O=>?_)
 have O:=zn [(0,(RIA x).va),(1,(RIA y).va)] [] O
 have hxk:=zie (O.vals (0,(RIA x).va) (zm 0 rfl))
 refine wp_seq<|zg [] [⟨2,25,ptrH,some 0,_,none⟩,⟨3,25,ptrH,some 1,_,none⟩] [.alc 0,.alc 1,.v 4 _] [.o 2] O (oc (zam rfl rfl rfl (gq 0 rfl)) (oc (zam rfl rfl rfl (gq 1 rfl)) (zv rfl (za2 zav) o0))) (zz [(4,_)] [⟨2,25,ptrH,_⟩,⟨3,25,ptrH,_⟩] fun a w O=>?_)
 refine zt<|wp_seq<|zg [none,none] [] [.adr 6 2 (.some 0) True,.v 7 _,.adr 8 3 (.some 0) True,.v 9 _,.v 10 _,.v 11 _,.adr 12 2 (.some 1) (_=false),.v 13 (Wh (_=false) _),.v 14 (Wh (_=false) _),.adr 15 3 (.some 1) (_=false),.v 16 (Wh (_=false) _),.v 17 (Wh (_=false) _),.v 18 (Wh (_=false) _),.v 19 _] [.g 0,.o 13] O (oc (ob_a rfl rfl (za9 (lz0 0 rfl) zb7)) (zv rfl (za4 0 rfl zk trivial (lz0 0 rfl) (Sub.part 0 rfl rfl) ty_4) (oc (ob_a rfl rfl (za9 (lz0 1 rfl) zb7)) (zv rfl (za4 2 rfl zk trivial (lz0 1 rfl) (Sub.part 0 rfl rfl) ty_4) (zv rfl (zls zk (vq 1 rfl) (vq 3 rfl)) (zv rfl (za1 (vq 4 rfl)) (oc (zce rfl rfl rfl (vq 5 rfl) nq (fun hg=>za9 (lz0 0 rfl) zah)) (oc (zan rfl rfl rfl (vq 5 rfl) nq (fun hg=>za4 6 rfl zk hg (lz0 0 rfl) (Sub.part 1 rfl rfl) zb9)) (oc (zan rfl rfl rfl (vq 5 rfl) nq (fun hg=>zax Tryz.underlying23 (zab (vq 7 rfl) hg))) (oc (zce rfl rfl rfl (vq 5 rfl) nq (fun hg=>za9 (lz0 1 rfl) zah)) (oc (zan rfl rfl rfl (vq 5 rfl) nq (fun hg=>za4 9 rfl zk hg (lz0 1 rfl) (Sub.part 1 rfl rfl) zb9)) (oc (zan rfl rfl rfl (vq 5 rfl) nq (fun hg=>zax Tryz.underlying23 (zab (vq 10 rfl) hg))) (oc (zan rfl rfl rfl (vq 5 rfl) nq (fun hg=>zdw (zab (vq 8 rfl) hg) (zab (vq 11 rfl) hg))) (zv rfl (r_or (vq 5 rfl) (vq 12 rfl)) o0)))))))))))))) (zz [(4,_),(19,_)] [⟨2,25,ptrH,_⟩,⟨3,25,ptrH,_⟩] fun a w O=>?_)
 refine za0<|za8 O (zm 1 rfl) (fun hb0=>?_) (fun hb0=>?_)
 ·refine wp_seq<|zg [none,none] [] [.v 4 _] [.o 0] O (zv rfl (za2 zav) o0) (zz [(4,_)] [⟨2,25,ptrH,_⟩,⟨3,25,ptrH,_⟩] fun a w O=>?_)
  refine za0<|wp_ret<|zag ?_
  refine zai ?_ (zaf rfl O (zm 0 rfl))
  exact zbt (congrArg Bo (same_no1 hb0))
 ·obtain ⟨hn1,hl⟩:=same_two hb0
  refine wp_skip<|zt<|wp_seq<|zg [none,none] [] [.v 5 _] [.g 0,.o 0] O (zv rfl (za2 za3) o0) (zz [(4,_),(5,_)] [⟨2,25,ptrH,_⟩,⟨3,25,ptrH,_⟩] fun a w O=>?_)
  refine za0<|wp_block ?_
  have O:=St.sel O [1]
  refine wp_loop_ghost (fun n a w=>∃ j:Nat,(n+j=x.mag.length∧x.mag.take j=y.mag.take j)∧St B w0 38 [(5,In (j:Nat))] [⟨2,25,ptrH,RIA x⟩,⟨3,25,ptrH,RIA y⟩] a w) (x.mag.length) ?_ ?_
  ·exact ⟨0,⟨by omega,rfl⟩,O⟩
  intro n a w hI
  obtain ⟨j,⟨hn,ht⟩,O⟩:=hI
  refine wp_seq<|wp_seq<|zg [none,none] [] [.v 20 _,.adr 21 2 (.some 1) True,.v 22 _,.v 23 _,.v 24 _] [.g 0,.o 4] O (zv rfl (za1 (gq 0 rfl)) (oc (ob_a rfl rfl (za9 (lz0 0 rfl) zah)) (zv rfl (za4 1 rfl zk trivial (lz0 0 rfl) (Sub.part 1 rfl rfl) zb9) (zv rfl (zax Tryz.underlying23 (vq 2 rfl)) (zv rfl (zb1 (vq 0 rfl) (vq 3 rfl)) o0))))) (zz [(5,_),(24,_)] [⟨2,25,ptrH,_⟩,⟨3,25,ptrH,_⟩] fun a w O=>?_)
  refine za0<|za8 O (zm 1 rfl) (fun hb1=>?_) (fun hb1=>?_)
  ·have hj:j<x.mag.length:=by simp at hb1; omega
   refine wp_skip<|zt<|wp_block<|wp_seq<|zgd [[],[0],[],[0,1,2],[0,1,2,3],[],[5],[],[5,6,7],[5,6,7,8],[0,1,2,3,4,5,6,7,8,9]] [none,none] [] [.adr 27 2 (.some 1) True,.v 28 _,.v 29 _,.v 30 _,.v 31 _,.adr 32 3 (.some 1) True,.v 33 _,.v 34 _,.v 35 _,.v 36 _,.v 37 _] [.g 0,.o 10] za6 O (oc (ob_a rfl rfl (za9 (lz0 0 rfl) zah)) (zv rfl (za4 0 rfl zk trivial (lz0 0 rfl) (Sub.part 1 rfl rfl) zb9) (zv rfl (za1 (gq 0 rfl)) (zv rfl (zc4 zbc (vq 1 rfl) (vq 2 rfl) zo) (zv rfl (zad (vq 3 rfl) zb0) (oc (ob_a rfl rfl (za9 (lz0 1 rfl) zah)) (zv rfl (za4 5 rfl zk trivial (lz0 1 rfl) (Sub.part 1 rfl rfl) zb9) (zv rfl (za1 (gq 0 rfl)) (zv rfl (zc4 zbc (vq 6 rfl) (vq 7 rfl) zo) (zv rfl (zad (vq 8 rfl) zb0) (zv rfl (zdw (vq 4 rfl) (vq 9 rfl)) o0))))))))))) zk zk zk zk (zz [(5,_),(37,_)] [⟨2,25,ptrH,_⟩,⟨3,25,ptrH,_⟩] fun a w O=>?_)
   refine za0<|za8 O (zm 1 rfl) (fun hb2=>?_) (fun hb2=>?_)
   ·refine wp_seq<|zg [none,none] [] [.v 4 _] [.g 0,.o 0] O (zv rfl (za2 zav) o0) (zz [(5,_),(4,_)] [⟨2,25,ptrH,_⟩,⟨3,25,ptrH,_⟩] fun a w O=>?_)
    refine za0<|wp_ret<|zba ?_
    refine zag ?_
    refine zag ?_
    refine zba ?_
    refine zag ?_
    refine zai ?_ (zaf rfl O (zm 1 rfl))
    exact zbt (congrArg Bo (same_no2 hj zo hb2))
   ·refine wp_skip<|zae ?_
    refine za0<|zg [none,none] [] [.v 25 _,.v 26 _,.v 5 _] [.o 2] O (zv rfl (za1 (gq 0 rfl)) (zv rfl (zb5 (vq 0 rfl) za3 (wi_nx hj hxk.2)) (zv rfl (za2 (vq 1 rfl)) o0))) (zz [(5,_)] [⟨2,25,ptrH,_⟩,⟨3,25,ptrH,_⟩] fun a w O=>?_)
    refine za0 ?_
    have O:=St.sel O [0]
    exact ⟨n-1,by omega,j+1,⟨by omega,take_eq hj zo ht hb2⟩,O⟩
  ·obtain rfl:j=x.mag.length:=by simp at hb1; omega
   refine wp_exit<|za7<|za7<|zap<|zt<|zg [none,none] [] [.v 4 _] [.o 0] O (zv rfl (za2 zav) o0) (zz [(4,_)] [⟨2,25,ptrH,_⟩,⟨3,25,ptrH,_⟩] fun a w O=>?_)
   refine za0<|wp_ret<|zai ?_ (zaf rfl O (zm 0 rfl))
   exact zbt (congrArg Bo (same_yes hn1 (by rw [List.take_of_length_le (Nat.le_refl _),List.take_of_length_le zo] at ht; exact ht)))
theorem zln (x y:RF):Cn Tryz.prog 116 [(RFA x).va,(RFA y).va] (Bo (decide (x=y))):=by
 refine Cn.intro Tryz.func116 rfl zk nq (fun B w0 a O=>?_)
 have O:=zn [(0,(RFA x).va),(1,(RFA y).va)] [] O
 refine wp_seq<|zg [] [⟨2,27,ptrH,some 0,_,none⟩,⟨3,27,ptrH,some 1,_,none⟩] [.alc 0,.alc 1,.v 4 _] [.o 2] O (oc (zam rfl rfl rfl (gq 0 rfl)) (oc (zam rfl rfl rfl (gq 1 rfl)) (zv rfl (za2 zav) o0))) (zz [(4,_)] [⟨2,27,ptrH,_⟩,⟨3,27,ptrH,_⟩] fun a w O=>?_)
 refine zt<|zg [none,none] [] [.adr 5 2 (.some 0) True,.v 6 _,.adr 7 3 (.some 0) True,.v 8 _,.v 9 _,.v 10 _,.adr 11 2 (.some 2) (_=true),.v 12 (Wh (_=true) _),.adr 13 3 (.some 2) (_=true),.v 14 (Wh (_=true) _),.v 15 (Wh (_=true) _),.v 16 _,.v 4 _] [.o 12] O (oc (ob_a rfl rfl (za9 (lz0 0 rfl) zbf)) (zv rfl (za4 0 rfl zk trivial (lz0 0 rfl) (Sub.part 0 rfl rfl) zac) (oc (ob_a rfl rfl (za9 (lz0 1 rfl) zbf)) (zv rfl (za4 2 rfl zk trivial (lz0 1 rfl) (Sub.part 0 rfl rfl) zac) (zv rfl (za5 (xs:=[.tmp 6,.tmp 8]) (zk2 _ _) (.cons (vq 1 rfl) (.cons (vq 3 rfl) .nil))) (zv rfl (za1 (vq 4 rfl)) (oc (zce rfl rfl rfl (vq 5 rfl) nq (fun hg=>za9 (lz0 0 rfl) zbb)) (oc (zan rfl rfl rfl (vq 5 rfl) nq (fun hg=>za4 6 rfl zk hg (lz0 0 rfl) (Sub.part 1 rfl rfl) zac)) (oc (zce rfl rfl rfl (vq 5 rfl) nq (fun hg=>za9 (lz0 1 rfl) zbb)) (oc (zan rfl rfl rfl (vq 5 rfl) nq (fun hg=>za4 8 rfl zk hg (lz0 1 rfl) (Sub.part 1 rfl rfl) zac)) (oc (zan rfl rfl rfl (vq 5 rfl) nq (fun hg=>za5 (xs:=[.tmp 12,.tmp 14]) (zk2 _ _) (.cons (zab (vq 7 rfl) hg) (.cons (zab (vq 9 rfl) hg) .nil)))) (zv rfl (zcc (vq 5 rfl) (vq 10 rfl)) (zv rfl (za2 (vq 11 rfl)) o0))))))))))))) (zz [(4,_)] [⟨2,27,ptrH,_⟩,⟨3,27,ptrH,_⟩] fun a w O=>?_)
 refine za0<|wp_ret<|zai ?_ (zaf rfl O (zm 0 rfl))
 exact zbt (congrArg Bo rf_eq)
theorem zvq (x y:RR):Cn Tryz.prog 32 [(RRA x).va,(RRA y).va] (Bo (decide (x=y))):=by
 refine Cn.intro Tryz.func32 rfl zk nq (fun B w0 a O=>?_)
 have O:=zn [(0,(RRA x).va),(1,(RRA y).va)] [] O
 refine wp_seq<|zg [] [⟨2,29,ptrH,some 0,_,none⟩,⟨3,29,ptrH,some 1,_,none⟩] [.alc 0,.alc 1,.v 4 _] [.o 2] O (oc (zam rfl rfl rfl (gq 0 rfl)) (oc (zam rfl rfl rfl (gq 1 rfl)) (zv rfl (za2 zav) o0))) (zz [(4,_)] [⟨2,29,ptrH,_⟩,⟨3,29,ptrH,_⟩] fun a w O=>?_)
 refine zt<|zg [none,none] [] [.adr 5 2 (.some 0) True,.v 6 _,.adr 7 3 (.some 0) True,.v 8 _,.v 9 _,.v 10 _,.adr 11 2 (.some 4) (_=true),.v 12 (Wh (_=true) _),.adr 13 3 (.some 4) (_=true),.v 14 (Wh (_=true) _),.v 15 (Wh (_=true) _),.v 16 _,.v 4 _] [.o 12] O (oc (ob_a rfl rfl (za9 (lz0 0 rfl) zci)) (zv rfl (za4 0 rfl zk trivial (lz0 0 rfl) (Sub.part 0 rfl rfl) zar) (oc (ob_a rfl rfl (za9 (lz0 1 rfl) zci)) (zv rfl (za4 2 rfl zk trivial (lz0 1 rfl) (Sub.part 0 rfl rfl) zar) (zv rfl (za5 (xs:=[.tmp 6,.tmp 8]) (zln _ _) (.cons (vq 1 rfl) (.cons (vq 3 rfl) .nil))) (zv rfl (za1 (vq 4 rfl)) (oc (zce rfl rfl rfl (vq 5 rfl) nq (fun hg=>za9 (lz0 0 rfl) zch)) (oc (zan rfl rfl rfl (vq 5 rfl) nq (fun hg=>za4 6 rfl zk hg (lz0 0 rfl) (Sub.part 1 rfl rfl) zar)) (oc (zce rfl rfl rfl (vq 5 rfl) nq (fun hg=>za9 (lz0 1 rfl) zch)) (oc (zan rfl rfl rfl (vq 5 rfl) nq (fun hg=>za4 8 rfl zk hg (lz0 1 rfl) (Sub.part 1 rfl rfl) zar)) (oc (zan rfl rfl rfl (vq 5 rfl) nq (fun hg=>za5 (xs:=[.tmp 12,.tmp 14]) (zln _ _) (.cons (zab (vq 7 rfl) hg) (.cons (zab (vq 9 rfl) hg) .nil)))) (zv rfl (zcc (vq 5 rfl) (vq 10 rfl)) (zv rfl (za2 (vq 11 rfl)) o0))))))))))))) (zz [(4,_)] [⟨2,29,ptrH,_⟩,⟨3,29,ptrH,_⟩] fun a w O=>?_)
 refine za0<|wp_ret<|zai ?_ (zaf rfl O (zm 0 rfl))
 exact zbt (congrArg Bo rr_eq)
end Go.Proofs.YthdbhckhignfcaaGreatDoor
namespace Go.Proofs.YthdbhckhignfcaaGreatDoor
open Go Go.RowKit
open Go.ChangeShapes Go.WideShapes Go.ChangeAt
theorem zzd {B:Nat}{w:World}:∀ {l:List As} {cs:List Value},cs.length=(l.map (·.n)).sum→(∀ (k:Nat) (A:As),l[k]?=some A→A.p B ((cs.drop (offs l k)).take A.n) w)→(cat l).p B cs w
 | [],cs,hl,_=>by
  have:cs=[]:=List.length_eq_zero_iff.1 (by simpa using hl)
  subst this
  exact ⟨[],rfl,.nil⟩
 | A::l,cs,hl,h=>by
  simp only [List.map_cons,List.sum_cons] at hl
  have h0:=h 0 A rfl
  simp only [offs,List.take_zero,List.map_nil,List.sum_nil,List.drop_zero] at h0
  obtain ⟨ps,e,hps⟩:=zzd (l:=l) (cs:=cs.drop A.n) (B:=B) (w:=w) (by simp; omega) fun k A' hk=>by
   have:=h (k+1) A' (by simpa using hk)
   simp only [offs,List.take_succ_cons,List.map_cons,List.sum_cons] at this
   rw [List.drop_drop]
   exact this
  exact ⟨cs.take A.n::ps,by rw [List.flatten_cons,← e,List.take_append_drop],.cons h0 hps⟩
section
variable {H:Type} {enc:TypeId × Value→H} {w:World} {base:Nat} {spare:Nat→Bool} {held:Bool} {fuel:Nat} {cs:List Value} {x:DataW H × List MemPlace}
theorem rd_mg (h:DataW.trod enc Tryz.prog w base spare held fuel 23 cs=some x):∃ l,(MgA l).p w.heap.size cs w:=by
 rcases open_ints Tryz.underlying23 Tryz.underlying106 zk h with ⟨hcs,_⟩ | ⟨a,len,cap,zs,rfl,_,hl,hm,hz,_,hcell,hwz⟩
 ·subst hcs
  exact ⟨[],zg0 _ _⟩
 ·have hzl:len≤zs.length:=by rw [hz]; split <;> omega
  have hnn:∀ n∈zs,0≤n∧n<4294967296:=fun n hn=>by
   have:=hwz n hn
   simp [Lit.wf,IntKind.min,IntKind.max,IntKind.signed,IntKind.bits] at this
   omega
  have hlen:((zs.take len).map Int.toNat).length=len:=by simp; omega
  refine ⟨(zs.take len).map Int.toNat,?_⟩
  have hM:Mag w.heap.size w (some a) cap ((zs.take len).map Int.toNat):=by
   refine ⟨fun y hy=>?_,by omega,hm,fun hn=>?_⟩
   ·obtain ⟨n,hn,rfl⟩:=List.mem_map.1 hy
    have:=hnn n (List.mem_of_mem_take hn)
    omega
   ·obtain ⟨b,off,rfl,hc⟩:=ints_at hcell zo
    have hb:b<w.heap.size:=World.block_lt_of_cell? w _ (hc 0 zo)
    refine ⟨b,off,rfl,hb,.inl hb,fun j hj=>?_⟩
    rw [hc j zo]
    have hjz:j<zs.length:=by omega
    have:=hnn _ (List.getElem_mem hjz)
    congr 2
    simp only [List.getElem_map,List.getElem_take]
    rw [Int.toNat_of_nonneg this.1]
    simp [List.getD_eq_getElem?_getD,List.getElem?_eq_getElem hjz]
  obtain ⟨ds,hp,hv⟩:=zer hM hlen.symm
  have hd:=(MgA ((zs.take len).map Int.toNat)).len _ _ _ hp
  match ds,hd with
  | [d],_ =>
   have:d=.slice (some a) len cap:=hv.symm
   subst this
   exact hp
theorem zqm {B:Nat}{A0 A1:As}(h0:A0.p B ((cs.drop 0).take A0.n) w)(h1:A1.p B ((cs.drop A0.n).take A1.n) w)(hl:cs.length=A0.n+A1.n):(cat [A0,A1]).p B cs w :=
 zzd (by simpa using hl) fun k A hk=>by
  match k,hk with
  | 0,hk=>simp at hk; subst hk; exact h0
  | 1,hk=>simp at hk; subst hk; simpa [offs] using h1
theorem rd_bo (h:DataW.trod enc Tryz.prog w base spare held fuel 4 cs=some x):∃ b,(BoA b).p w.heap.size cs w:=by
 obtain ⟨b,hb,_⟩:=DataW.trod_bool Tryz.underlying4 h
 exact ⟨b,hb⟩
end
end Go.Proofs.YthdbhckhignfcaaGreatDoor
namespace Go.Proofs.YthdbhckhignfcaaGreatDoor
open Go Go.RowKit
structure OkG (p:GQ):Prop where
 re:longQ p.re=false
 im:longQ p.im=false
 pos:0<p.im
end Go.Proofs.YthdbhckhignfcaaGreatDoor
namespace Go.Proofs.YthdbhckhignfcaaGreatDoor
open Go Go.RowKit
theorem div_pos {x y:Rat}(h:0<x)(h':0<y):0<x/y:=Rat.mul_pos h (Rat.inv_pos.2 h')
end Go.Proofs.YthdbhckhignfcaaGreatDoor
