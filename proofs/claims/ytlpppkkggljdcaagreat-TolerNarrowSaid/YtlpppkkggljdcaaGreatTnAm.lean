import Derived.Test.YtlpppkkggljdcaaGreatTnAa
import Derived.Test.YtlpppkkggljdcaaGreatTnAc
import Derived.Test.YtlpppkkggljdcaaGreatTnAl
import Derived.ProofKit
import Derived.OpenShut
import Derived.ChangeOld
import Derived.Below
import Derived.WalkKit
set_option linter.unusedVariables false
set_option linter.unusedSimpArgs false
set_option linter.unusedSectionVars false
set_option maxRecDepth 100000
namespace Go.Proofs.YtlpppkkggljdcaaGreat
open Go Go.RowKit
def intSizeF (x:RI):Int:=IntKind.i64.wrap (1+(x.mag.length:Int))
def fracSizeF (x:RF):Int:=IntKind.i64.wrap (intSizeF x.num+intSizeF x.den)
theorem wi_nx {j m:Nat}(h:j<m)(hm:m≤9223372036854775807):IntKind.i64.wrap ((j:Int)+1)=((j+1:Nat):Int):=by rw [wi64 zo zo]; rfl
theorem slA_len {E:TypeId}{D:List TypeId}{l:List As}{B:Nat}{v:Value}{w:World}(h:(SlA E D l).va.p B v w):l.length≤9223372036854775807:=by
 obtain ⟨cs,⟨_,A,c,ds,_,h1,h2,_⟩,_⟩:=h
 unfold maxLen at h2
 omega
theorem slA_lenm {E:TypeId}{D:List TypeId}{α:Type}{f:α→As}{l:List α}{B:Nat}{v:Value}{w:World}(h:(SlA E D (l.map f)).va.p B v w):l.length≤9223372036854775807:=by
 have:=slA_len h
 rwa [List.length_map] at this
theorem zju (x:RI):Cn Tryz.prog 137 [(RIA x).va] (In (intSizeF x)):=by
 refine Cn.intro Tryz.func137 rfl zk nq (fun B w0 a hst=>?_)
 have hst:St B w0 7 [(0,(RIA x).va)] [] a w0.w:=hst
 refine wp_seq ?_
 refine gl (sts:=[]) (news:=[⟨1,35,ptrH,some 0,_,none⟩]) (sp:=[.alc 0,.val 2 _]) [.o 1] hst (oc (zal rfl rfl rfl (gq 0 rfl)) (zv rfl (za2 za3) o0)) (fun a w hst=>?_)
 have hst:St B w0 7 [(2,_)] [⟨1,35,ptrH,_⟩] a w:=hst
 refine zt<|gl (sts:=[none]) (news:=[]) (sp:=[.adr 3 1 (.some 1) True,.val 4 _,.val 5 _,.val 6 _,.val 2 _]) [.o 4] hst (oc (ob_a rfl rfl (za8 (lz0 0 rfl) zar)) (zv rfl (za4 0 rfl zk trivial (lz0 0 rfl) (Sub.part 1 rfl rfl) zbs) (zv rfl (zb4 Tryz.underlying33 (vq 1 rfl)) (zv rfl (zb9 za3 (vq 2 rfl) (rfl)) (zv rfl (za2 (vq 3 rfl)) o0))))) (fun a w hst=>?_)
 have hst:St B w0 7 [(2,_)] [⟨1,35,ptrH,_⟩] a w:=hst
 refine za0 ?_
 refine wp_ret ?_
 refine zah ?_ (zaj rfl hst (zm 0 rfl))
 exact zb1
theorem zhx (x:RF):Cn Tryz.prog 105 [(RFA x).va] (In (fracSizeF x)):=by
 refine Cn.intro Tryz.func105 rfl zk nq (fun B w0 a hst=>?_)
 have hst:St B w0 10 [(0,(RFA x).va)] [] a w0.w:=hst
 refine wp_seq ?_
 refine gl (sts:=[]) (news:=[⟨1,37,ptrH,some 0,_,none⟩]) (sp:=[.alc 0,.val 2 _]) [.o 1] hst (oc (zal rfl rfl rfl (gq 0 rfl)) (zv rfl (za2 za3) o0)) (fun a w hst=>?_)
 have hst:St B w0 10 [(2,_)] [⟨1,37,ptrH,_⟩] a w:=hst
 refine zt<|zav (anc:=[[],[0],[0,1],[],[3],[0,1,2,3,4],[0,1,2,3,4,5],[0,1,2,3,4,5,6]]) (sts:=[none]) (news:=[]) (sp:=[.adr 3 1 (.some 0) True,.val 4 _,.val 5 _,.adr 6 1 (.some 2) True,.val 7 _,.val 8 _,.val 9 _,.val 2 _]) [.o 7] za6 hst (oc (ob_a rfl rfl (za8 (lz0 0 rfl) zbg)) (zv rfl (za4 0 rfl zk trivial (lz0 0 rfl) (Sub.part 0 rfl rfl) zae) (zv rfl (za5 (xs:=[.tmp 4]) (zju _) (.cons (vq 1 rfl) .nil)) (oc (ob_a rfl rfl (za8 (lz0 0 rfl) zb2)) (zv rfl (za4 3 rfl zk trivial (lz0 0 rfl) (Sub.part 1 rfl rfl) zae) (zv rfl (za5 (xs:=[.tmp 7]) (zju _) (.cons (vq 4 rfl) .nil)) (zv rfl (zb9 (vq 2 rfl) (vq 5 rfl) (rfl)) (zv rfl (za2 (vq 6 rfl)) o0)))))))) zk zk zk zk (fun a w hst=>?_)
 have hst:St B w0 10 [(2,_)] [⟨1,37,ptrH,_⟩] a w:=hst
 refine za0 ?_
 refine wp_ret ?_
 refine zah ?_ (zaj rfl hst (zm 0 rfl))
 exact zb1
theorem same_yes {a b:RI}(hn:a.neg=b.neg)(h:a.mag=b.mag):true=decide (a=b):=by
 cases a; cases b; simp_all
theorem same_no1 {a b:RI}(h:((a.neg != b.neg) || (((a.mag.length:Nat):Int) != ((b.mag.length:Nat):Int)))=true):false=decide (a=b):=by
 symm
 apply decide_eq_false
 rintro rfl
 simp at h
theorem same_two {a b:RI}(h:((a.neg != b.neg) || (((a.mag.length:Nat):Int) != ((b.mag.length:Nat):Int)))=false):a.neg=b.neg∧a.mag.length=b.mag.length:=by
 simp only [Bool.or_eq_false_iff,bne_eq_false_iff_eq] at h
 exact ⟨h.1,by omega⟩
theorem same_no2 {a b:RI}{j:Nat}(h1:j<a.mag.length)(h2:j<b.mag.length)(h:(((a.mag[j]:Nat):Int) != ((b.mag[j]:Nat):Int))=true):false=decide (a=b):=by
 symm
 apply decide_eq_false
 rintro rfl
 simp at h
theorem take_eq {l m:List Nat}{j:Nat}(h1:j<l.length)(h2:j<m.length)(h:l.take j=m.take j)(h3:(((l[j]:Nat):Int) != ((m[j]:Nat):Int))=false):l.take (j+1)=m.take (j+1):=by
 rw [List.take_succ_eq_append_getElem h1,List.take_succ_eq_append_getElem h2,h]
 simp only [bne_eq_false_iff_eq] at h3
 rw [show l[j]=m[j] by omega]
theorem rf_eq {a b:RF}:(decide (a.num=b.num)&&decide (a.den=b.den))=decide (a=b):=by
 cases a; cases b; rw [Bool.eq_iff_iff]; simp
theorem zjj (x y:RI):Cn Tryz.prog 63 [(RIA x).va,(RIA y).va] (Bo (decide (x=y))):=by
 refine Cn.intro Tryz.func63 rfl zk nq (fun B w0 a hst=>?_)
 have hst:St B w0 38 [(0,(RIA x).va),(1,(RIA y).va)] [] a w0.w:=hst
 have hxk:=zib (hst.vals (0,(RIA x).va) (zm 0 rfl))
 refine wp_seq ?_
 refine gl (sts:=[]) (news:=[⟨2,35,ptrH,some 0,_,none⟩,⟨3,35,ptrH,some 1,_,none⟩]) (sp:=[.alc 0,.alc 1,.val 4 _]) [.o 2] hst (oc (zal rfl rfl rfl (gq 0 rfl)) (oc (zal rfl rfl rfl (gq 1 rfl)) (zv rfl (za2 zbm) o0))) (fun a w hst=>?_)
 have hst:St B w0 38 [(4,_)] [⟨2,35,ptrH,_⟩,⟨3,35,ptrH,_⟩] a w:=hst
 refine zt ?_
 refine wp_seq ?_
 refine gl (sts:=[none,none]) (news:=[]) (sp:=[.adr 6 2 (.some 0) True,.val 7 _,.adr 8 3 (.some 0) True,.val 9 _,.val 10 _,.val 11 _,.adr 12 2 (.some 1) (_=false),.val 13 (Wh (_=false) _),.val 14 (Wh (_=false) _),.adr 15 3 (.some 1) (_=false),.val 16 (Wh (_=false) _),.val 17 (Wh (_=false) _),.val 18 (Wh (_=false) _),.val 19 _]) [.g 0,.o 13] hst (oc (ob_a rfl rfl (za8 (lz0 0 rfl) zb5)) (zv rfl (za4 0 rfl zk trivial (lz0 0 rfl) (Sub.part 0 rfl rfl) ty_4) (oc (ob_a rfl rfl (za8 (lz0 1 rfl) zb5)) (zv rfl (za4 2 rfl zk trivial (lz0 1 rfl) (Sub.part 0 rfl rfl) ty_4) (zv rfl (r_neqb zk (vq 1 rfl) (vq 3 rfl)) (zv rfl (za1 (vq 4 rfl)) (oc (zd9 rfl rfl rfl (vq 5 rfl) nq (fun hg=>za8 (lz0 0 rfl) zar)) (oc (zam rfl rfl rfl (vq 5 rfl) nq (fun hg=>za4 6 rfl zk hg (lz0 0 rfl) (Sub.part 1 rfl rfl) zbs)) (oc (zam rfl rfl rfl (vq 5 rfl) nq (fun hg=>zb4 Tryz.underlying33 (zag (vq 7 rfl) hg))) (oc (zd9 rfl rfl rfl (vq 5 rfl) nq (fun hg=>za8 (lz0 1 rfl) zar)) (oc (zam rfl rfl rfl (vq 5 rfl) nq (fun hg=>za4 9 rfl zk hg (lz0 1 rfl) (Sub.part 1 rfl rfl) zbs)) (oc (zam rfl rfl rfl (vq 5 rfl) nq (fun hg=>zb4 Tryz.underlying33 (zag (vq 10 rfl) hg))) (oc (zam rfl rfl rfl (vq 5 rfl) nq (fun hg=>zd5 (zag (vq 8 rfl) hg) (zag (vq 11 rfl) hg))) (zv rfl (r_or (vq 5 rfl) (vq 12 rfl)) o0)))))))))))))) (fun a w hst=>?_)
 have hst:St B w0 38 [(4,_),(19,_)] [⟨2,35,ptrH,_⟩,⟨3,35,ptrH,_⟩] a w:=hst
 refine za0 ?_
 refine zab hst (zm 1 rfl) (fun hb0=>?_) (fun hb0=>?_)
 ·refine wp_seq ?_
  refine gl (sts:=[none,none]) (news:=[]) (sp:=[.val 4 _]) [.o 0] hst (zv rfl (za2 zbm) o0) (fun a w hst=>?_)
  have hst:St B w0 38 [(4,_)] [⟨2,35,ptrH,_⟩,⟨3,35,ptrH,_⟩] a w:=hst
  refine za0 ?_
  refine wp_ret ?_
  refine zak ?_
  refine zah ?_ (zaj rfl hst (zm 0 rfl))
  exact zd4 (congrArg Bo (same_no1 hb0))
 ·obtain ⟨hn1,hl⟩:=same_two hb0
  refine wp_skip ?_
  refine zt ?_
  refine wp_seq ?_
  refine gl (sts:=[none,none]) (news:=[]) (sp:=[.val 5 _]) [.g 0,.o 0] hst (zv rfl (za2 za3) o0) (fun a w hst=>?_)
  have hst:St B w0 38 [(4,_),(5,_)] [⟨2,35,ptrH,_⟩,⟨3,35,ptrH,_⟩] a w:=hst
  refine za0 ?_
  refine wp_block ?_
  have hst:=St.sel hst [1]
  refine wp_loop_ghost (fun n a w=>∃ j:Nat,(n+j=x.mag.length∧x.mag.take j=y.mag.take j)∧St B w0 38 [(5,In (j:Nat))] [⟨2,35,ptrH,RIA x⟩,⟨3,35,ptrH,RIA y⟩] a w) (x.mag.length) ?_ ?_
  ·exact ⟨0,⟨by omega,rfl⟩,hst⟩
  intro n a w hI
  obtain ⟨j,⟨hn,ht⟩,hst⟩:=hI
  refine wp_seq ?_
  refine wp_seq ?_
  refine gl (sts:=[none,none]) (news:=[]) (sp:=[.val 20 _,.adr 21 2 (.some 1) True,.val 22 _,.val 23 _,.val 24 _]) [.g 0,.o 4] hst (zv rfl (za1 (gq 0 rfl)) (oc (ob_a rfl rfl (za8 (lz0 0 rfl) zar)) (zv rfl (za4 1 rfl zk trivial (lz0 0 rfl) (Sub.part 1 rfl rfl) zbs) (zv rfl (zb4 Tryz.underlying33 (vq 2 rfl)) (zv rfl (zc0 (vq 0 rfl) (vq 3 rfl)) o0))))) (fun a w hst=>?_)
  have hst:St B w0 38 [(5,_),(24,_)] [⟨2,35,ptrH,_⟩,⟨3,35,ptrH,_⟩] a w:=hst
  refine za0 ?_
  refine zab hst (zm 1 rfl) (fun hb1=>?_) (fun hb1=>?_)
  ·have hj:j<x.mag.length:=by simp at hb1; omega
   refine wp_skip ?_
   refine zt ?_
   refine wp_block ?_
   refine wp_seq ?_
   refine zav (anc:=[[],[0],[],[0,1,2],[0,1,2,3],[],[5],[],[5,6,7],[5,6,7,8],[0,1,2,3,4,5,6,7,8,9]]) (sts:=[none,none]) (news:=[]) (sp:=[.adr 27 2 (.some 1) True,.val 28 _,.val 29 _,.val 30 _,.val 31 _,.adr 32 3 (.some 1) True,.val 33 _,.val 34 _,.val 35 _,.val 36 _,.val 37 _]) [.g 0,.o 10] za6 hst (oc (ob_a rfl rfl (za8 (lz0 0 rfl) zar)) (zv rfl (za4 0 rfl zk trivial (lz0 0 rfl) (Sub.part 1 rfl rfl) zbs) (zv rfl (za1 (gq 0 rfl)) (zv rfl (zca zbb (vq 1 rfl) (vq 2 rfl) zo) (zv rfl (zat (vq 3 rfl) zaw) (oc (ob_a rfl rfl (za8 (lz0 1 rfl) zar)) (zv rfl (za4 5 rfl zk trivial (lz0 1 rfl) (Sub.part 1 rfl rfl) zbs) (zv rfl (za1 (gq 0 rfl)) (zv rfl (zca zbb (vq 6 rfl) (vq 7 rfl) zo) (zv rfl (zat (vq 8 rfl) zaw) (zv rfl (zd5 (vq 4 rfl) (vq 9 rfl)) o0))))))))))) zk zk zk zk (fun a w hst=>?_)
   have hst:St B w0 38 [(5,_),(37,_)] [⟨2,35,ptrH,_⟩,⟨3,35,ptrH,_⟩] a w:=hst
   refine za0 ?_
   refine zab hst (zm 1 rfl) (fun hb2=>?_) (fun hb2=>?_)
   ·refine wp_seq ?_
    refine gl (sts:=[none,none]) (news:=[]) (sp:=[.val 4 _]) [.g 0,.o 0] hst (zv rfl (za2 zbm) o0) (fun a w hst=>?_)
    have hst:St B w0 38 [(5,_),(4,_)] [⟨2,35,ptrH,_⟩,⟨3,35,ptrH,_⟩] a w:=hst
    refine za0 ?_
    refine wp_ret ?_
    refine zbd ?_
    refine zak ?_
    refine zak ?_
    refine zbd ?_
    refine zak ?_
    refine zah ?_ (zaj rfl hst (zm 1 rfl))
    exact zd4 (congrArg Bo (same_no2 hj zo hb2))
   ·refine wp_skip ?_
    refine zan ?_
    refine za0 ?_
    refine gl (sts:=[none,none]) (news:=[]) (sp:=[.val 25 _,.val 26 _,.val 5 _]) [.o 2] hst (zv rfl (za1 (gq 0 rfl)) (zv rfl (zb9 (vq 0 rfl) za3 (wi_nx hj hxk.2)) (zv rfl (za2 (vq 1 rfl)) o0))) (fun a w hst=>?_)
    have hst:St B w0 38 [(5,_)] [⟨2,35,ptrH,_⟩,⟨3,35,ptrH,_⟩] a w:=hst
    refine za0 ?_
    have hst:=St.sel hst [0]
    exact ⟨n-1,by omega,j+1,⟨by omega,take_eq hj zo ht hb2⟩,hst⟩
  ·obtain rfl:j=x.mag.length:=by simp at hb1; omega
   refine wp_exit ?_
   refine zai ?_
   refine zai ?_
   refine zb0 ?_
   refine zt<|gl (sts:=[none,none]) (news:=[]) (sp:=[.val 4 _]) [.o 0] hst (zv rfl (za2 zbm) o0) (fun a w hst=>?_)
   have hst:St B w0 38 [(4,_)] [⟨2,35,ptrH,_⟩,⟨3,35,ptrH,_⟩] a w:=hst
   refine za0 ?_
   refine wp_ret ?_
   refine zah ?_ (zaj rfl hst (zm 0 rfl))
   exact zd4 (congrArg Bo (same_yes hn1 (by rw [List.take_of_length_le (Nat.le_refl _),List.take_of_length_le zo] at ht; exact ht)))
theorem zep (x y:RF):Cn Tryz.prog 28 [(RFA x).va,(RFA y).va] (Bo (decide (x=y))):=by
 refine Cn.intro Tryz.func28 rfl zk nq (fun B w0 a hst=>?_)
 have hst:St B w0 17 [(0,(RFA x).va),(1,(RFA y).va)] [] a w0.w:=hst
 refine wp_seq ?_
 refine gl (sts:=[]) (news:=[⟨2,37,ptrH,some 0,_,none⟩,⟨3,37,ptrH,some 1,_,none⟩]) (sp:=[.alc 0,.alc 1,.val 4 _]) [.o 2] hst (oc (zal rfl rfl rfl (gq 0 rfl)) (oc (zal rfl rfl rfl (gq 1 rfl)) (zv rfl (za2 zbm) o0))) (fun a w hst=>?_)
 have hst:St B w0 17 [(4,_)] [⟨2,37,ptrH,_⟩,⟨3,37,ptrH,_⟩] a w:=hst
 refine zt<|gl (sts:=[none,none]) (news:=[]) (sp:=[.adr 5 2 (.some 0) True,.val 6 _,.adr 7 3 (.some 0) True,.val 8 _,.val 9 _,.val 10 _,.adr 11 2 (.some 2) (_=true),.val 12 (Wh (_=true) _),.adr 13 3 (.some 2) (_=true),.val 14 (Wh (_=true) _),.val 15 (Wh (_=true) _),.val 16 _,.val 4 _]) [.o 12] hst (oc (ob_a rfl rfl (za8 (lz0 0 rfl) zbg)) (zv rfl (za4 0 rfl zk trivial (lz0 0 rfl) (Sub.part 0 rfl rfl) zae) (oc (ob_a rfl rfl (za8 (lz0 1 rfl) zbg)) (zv rfl (za4 2 rfl zk trivial (lz0 1 rfl) (Sub.part 0 rfl rfl) zae) (zv rfl (za5 (xs:=[.tmp 6,.tmp 8]) (zjj _ _) (.cons (vq 1 rfl) (.cons (vq 3 rfl) .nil))) (zv rfl (za1 (vq 4 rfl)) (oc (zd9 rfl rfl rfl (vq 5 rfl) nq (fun hg=>za8 (lz0 0 rfl) zb2)) (oc (zam rfl rfl rfl (vq 5 rfl) nq (fun hg=>za4 6 rfl zk hg (lz0 0 rfl) (Sub.part 1 rfl rfl) zae)) (oc (zd9 rfl rfl rfl (vq 5 rfl) nq (fun hg=>za8 (lz0 1 rfl) zb2)) (oc (zam rfl rfl rfl (vq 5 rfl) nq (fun hg=>za4 8 rfl zk hg (lz0 1 rfl) (Sub.part 1 rfl rfl) zae)) (oc (zam rfl rfl rfl (vq 5 rfl) nq (fun hg=>za5 (xs:=[.tmp 12,.tmp 14]) (zjj _ _) (.cons (zag (vq 7 rfl) hg) (.cons (zag (vq 9 rfl) hg) .nil)))) (zv rfl (zcm (vq 5 rfl) (vq 10 rfl)) (zv rfl (za2 (vq 11 rfl)) o0))))))))))))) (fun a w hst=>?_)
 have hst:St B w0 17 [(4,_)] [⟨2,37,ptrH,_⟩,⟨3,37,ptrH,_⟩] a w:=hst
 refine za0 ?_
 refine wp_ret ?_
 refine zah ?_ (zaj rfl hst (zm 0 rfl))
 exact zd4 (congrArg Bo rf_eq)
end Go.Proofs.YtlpppkkggljdcaaGreat
namespace Go.Proofs.YtlpppkkggljdcaaGreat
open Go Go.RowKit
open Go.ChangeShapes Go.WideShapes Go.ChangeAt
theorem cat_of {B:Nat}{w:World}:∀ {l:List As} {cs:List Value},cs.length=(l.map (·.n)).sum→(∀ (k:Nat) (A:As),l[k]?=some A→A.p B ((cs.drop (offs l k)).take A.n) w)→(cat l).p B cs w
 | [],cs,hl,_=>by
  have:cs=[]:=List.length_eq_zero_iff.1 (by simpa using hl)
  subst this
  exact ⟨[],rfl,.nil⟩
 | A::l,cs,hl,h=>by
  simp only [List.map_cons,List.sum_cons] at hl
  have h0:=h 0 A rfl
  simp only [offs,List.take_zero,List.map_nil,List.sum_nil,List.drop_zero] at h0
  obtain ⟨ps,e,hps⟩:=cat_of (l:=l) (cs:=cs.drop A.n) (B:=B) (w:=w) (by simp; omega) fun k A' hk=>by
   have:=h (k+1) A' (by simpa using hk)
   simp only [offs,List.take_succ_cons,List.map_cons,List.sum_cons] at this
   rw [List.drop_drop]
   exact this
  exact ⟨cs.take A.n::ps,by rw [List.flatten_cons,← e,List.take_append_drop],.cons h0 hps⟩
section
variable {H:Type} {enc:TypeId × Value→H} {w:World} {base:Nat} {spare:Nat→Bool} {held:Bool} {fuel:Nat} {cs:List Value} {x:DataW H × List MemPlace}
theorem rd_mg (h:DataW.trod enc Tryz.prog w base spare held fuel 33 cs=some x):∃ l,(MgA l).p w.heap.size cs w:=by
 rcases open_ints Tryz.underlying33 Tryz.underlying130 zk h with ⟨hcs,_⟩ | ⟨a,len,cap,zs,rfl,_,hl,hm,hz,_,hcell,hwz⟩
 ·subst hcs
  exact ⟨[],zh5 _ _⟩
 ·have hzl:len≤zs.length:=by rw [hz]; split <;> omega
  have hnn:∀ n∈zs,0≤n∧n<4294967296:=fun n hn=>by
   have:=hwz n hn
   simp [Lit.wf,IntKind.min,IntKind.max,IntKind.signed,IntKind.bits] at this
   omega
  have hlen:((zs.take len).map Int.toNat).length=len:=by simp; omega
  refine ⟨(zs.take len).map Int.toNat,?_⟩
  have hM:Mag w.heap.size w (some a) cap ((zs.take len).map Int.toNat):=by
   refine ⟨fun y hy=>?_,by omega,hm,fun hn=>?_⟩
   ·obtain ⟨n,hn,rfl⟩:=List.mem_map.1 hy
    have:=hnn n (List.mem_of_mem_take hn)
    omega
   ·obtain ⟨b,off,rfl,hc⟩:=ints_at hcell zo
    have hb:b<w.heap.size:=World.block_lt_of_cell? w _ (hc 0 zo)
    refine ⟨b,off,rfl,hb,.inl hb,fun j hj=>?_⟩
    rw [hc j zo]
    have hjz:j<zs.length:=by omega
    have:=hnn _ (List.getElem_mem hjz)
    congr 2
    simp only [List.getElem_map,List.getElem_take]
    rw [Int.toNat_of_nonneg this.1]
    simp [List.getD_eq_getElem?_getD,List.getElem?_eq_getElem hjz]
  obtain ⟨ds,hp,hv⟩:=zh2 hM hlen.symm
  have hd:=(MgA ((zs.take len).map Int.toNat)).len _ _ _ hp
  match ds,hd with
  | [d],_ =>
   have:d=.slice (some a) len cap:=hv.symm
   subst this
   exact hp
theorem cat_two {B:Nat}{A0 A1:As}(h0:A0.p B ((cs.drop 0).take A0.n) w)(h1:A1.p B ((cs.drop A0.n).take A1.n) w)(hl:cs.length=A0.n+A1.n):(cat [A0,A1]).p B cs w :=
 cat_of (by simpa using hl) fun k A hk=>by
  match k,hk with
  | 0,hk=>simp at hk; subst hk; exact h0
  | 1,hk=>simp at hk; subst hk; simpa [offs] using h1
theorem rd_bo (h:DataW.trod enc Tryz.prog w base spare held fuel 4 cs=some x):∃ b,(BoA b).p w.heap.size cs w:=by
 obtain ⟨b,hb,_⟩:=DataW.trod_bool Tryz.underlying4 h
 exact ⟨b,hb⟩
theorem rd_ri (h:DataW.trod enc Tryz.prog w base spare held fuel 35 cs=some x):∃ y,(RIA y).p w.heap.size cs w:=by
 obtain ⟨y0,y1,n,_,hl,h0,h1⟩:=trod_struct2 Tryz.underlying35 h
 have hl':cs.length=2:=hl.trans zk
 have c0:Tryz.prog.cellsOf 4=1:=by kernel_rfl
 have c1:Tryz.prog.cellsOf 33=1:=by kernel_rfl
 simp only [c0,c1] at h0 h1
 obtain ⟨a,ha⟩:=rd_bo h0
 obtain ⟨b,hb⟩:=rd_mg h1
 exact ⟨⟨a,b⟩,cat_two ha hb hl'⟩
theorem rd_rf (h:DataW.trod enc Tryz.prog w base spare held fuel 37 cs=some x):∃ y,(RFA y).p w.heap.size cs w:=by
 obtain ⟨y0,y1,n,_,hl,h0,h1⟩:=trod_struct2 Tryz.underlying37 h
 have hl':cs.length=4:=hl.trans zk
 have c0:Tryz.prog.cellsOf 35=2:=by kernel_rfl
 simp only [c0] at h0 h1
 obtain ⟨a,ha⟩:=rd_ri h0
 obtain ⟨b,hb⟩:=rd_ri h1
 exact ⟨⟨a,b⟩,cat_two ha hb hl'⟩
end
end Go.Proofs.YtlpppkkggljdcaaGreat
namespace Go.Proofs.YtlpppkkggljdcaaGreat
open Go Go.RowKit
theorem cmF_of {a b:Rat}(ha:longQ a=false)(hb:longQ b=false):cmF (rfOf a) (rfOf b)=cmQ a b:=by
 rw [cmF,zh0,zh0,ha,hb,zcy,zcy]; rfl
end Go.Proofs.YtlpppkkggljdcaaGreat
namespace Go.Proofs.YtlpppkkggljdcaaGreat
open Go Go.RowKit
theorem div_pos {x y:Rat}(h:0<x)(h':0<y):0<x/y:=Rat.mul_pos h (Rat.inv_pos.2 h')
theorem ok_rf {x:RF}(h:okX x=true):∃ r,x=rfOf r∧longQ r=false:=by
 obtain ⟨e,h1⟩:=zgz h
 exact ⟨_,e,longQ_false.2 h1⟩
end Go.Proofs.YtlpppkkggljdcaaGreat
namespace Go.Proofs.YtlpppkkggljdcaaGreat
open Go Go.RowKit
def cbl (cs:List Value):List Nat:=cs.filterMap blk
def vbl (v:Value):List Nat:=cbl v.cells.toList
def Sep (u v:Value):Prop:=∀ g∈vbl u,g ∉ vbl v
def SepAll (us:List Value)(v:Value):Prop:=∀ u∈us,Sep u v
theorem zj4 {A:As}{B:Nat}{cs:List Value}{w:World}(h:A.p B cs w):vbl (shape A.ag cs)=cbl cs:=by
 show cbl (shape A.ag cs).cells.toList=_
 rw [A.cells_shape h]
def PinA (v:Value)(A:As):As where
 n:=A.n
 ag:=A.ag
 p B cs w:=A.p B cs w∧shape A.ag cs=v
 deps:=A.deps
 len:=fun B cs w h=>A.len B cs w h.1
 one:=fun B cs w h=>A.one B cs w h.1
 ag1:=A.ag1
 cg:=fun B cs w w' hg h=>⟨A.cg B cs w w' hg h.1,h.2⟩
 wr:=fun B cs w w' g c T fz h1 h2 h3 h4 h=>⟨A.wr B cs w w' g c T fz h1 h2 h3 h4 h.1,h.2⟩
theorem pin_wk {v:Value}{A:As}:WkA (PinA v A) A:=⟨rfl,rfl,fun _ _ _ h=>h.1⟩
theorem and_wk {A:As}{c:Prop}:WkA (A.and c) A:=⟨rfl,rfl,fun _ _ _ h=>h.2⟩
def NewA (A:As):Prop:=∀ B cs w,A.p B cs w→∀ g∈cbl cs,B≤g∧g<w.heap.size
def NodA (A:As):Prop:=∀ B cs w,A.p B cs w→(cbl cs).Nodup
def DisA (A:As):As where
 n:=A.n
 ag:=A.ag
 p B cs w:=A.p B cs w∧(cbl cs).Nodup
 deps:=A.deps
 len:=fun B cs w h=>A.len B cs w h.1
 one:=fun B cs w h=>A.one B cs w h.1
 ag1:=A.ag1
 cg:=fun B cs w w' hg h=>⟨A.cg B cs w w' hg h.1,h.2⟩
 wr:=fun B cs w w' g c T fz h1 h2 h3 h4 h=>⟨A.wr B cs w w' g c T fz h1 h2 h3 h4 h.1,h.2⟩
theorem dis_wk {A:As}:WkA (DisA A) A:=⟨rfl,rfl,fun _ _ _ h=>h.1⟩
theorem zl2 {a b:List Value}:cbl (a++b)=cbl a++cbl b:=List.filterMap_append ..
theorem new_cat0 {B:Nat}{w:World}:∀ {l:List As} {ps:List (List Value)},(∀ A∈l,NewA A)→All2 (fun (A:As) c=>A.p B c w) l ps→∀ g∈cbl ps.flatten,B≤g∧g<w.heap.size
 | [],_,_,h,g,hg=>by cases h; cases hg
 | A::l,_,hn,h,g,hg=>by
  cases h with
  | cons h1 h2 =>
   rw [List.flatten_cons,zl2,List.mem_append] at hg
   rcases hg with hg | hg
   ·exact hn A (by simp) _ _ _ h1 g hg
   ·exact new_cat0 (fun A' hA=>hn A' (by simp [hA])) h2 g hg
theorem new_cat {l:List As}(h:∀ A∈l,NewA A):NewA (cat l):=fun B cs w ⟨ps,e,hp⟩=>by
 subst e
 exact new_cat0 h hp
def pins:List Value→List (Value × As)→List As
 | _,[]=>[]
 | us,(v,A)::l=>PinA v (A.and (SepAll us v))::pins (us++[v]) l
theorem pins_ok:∀ {l:List (Value × As)} {us:List Value} {B:Nat} {w:World} {ps:List (List Value)},(∀ x∈l,NodA x.2)→All2 (fun (A:As) c=>A.p B c w) (pins us l) ps →
  All2 (fun (A:As) c=>A.p B c w) (l.map (·.2)) ps∧(cbl ps.flatten).Nodup∧∀ u∈us,∀ g∈vbl u,g ∉ cbl ps.flatten
 | [],us,B,w,ps,_,h=>by
  cases h
  exact ⟨.nil,List.nodup_nil,fun _ _ _ _ h=>by cases h⟩
 | (v,A)::l,us,B,w,ps,hn,h=>by
  cases h with
  | @cons _ c _ cs h1 h2 =>
   obtain ⟨q1,q2,q3⟩:=pins_ok (fun x hx=>hn x (by simp [hx])) h2
   obtain ⟨⟨hsep,hA⟩,hv⟩:=h1
   have hvb:vbl v=cbl c:=by
    have hv':shape A.ag c=v:=hv
    rw [← hv']; exact zj4 hA
   refine ⟨.cons hA q1,?_,fun u hu g hg hm=>?_⟩
   ·rw [List.flatten_cons,zl2]
    refine List.nodup_append.2 ⟨hn (v,A) (by simp) _ _ _ hA,q2,fun x hx y hy e=>?_⟩
    subst e
    exact q3 v (by simp) x (by rw [hvb]; exact hx) hy
   ·rw [List.flatten_cons,zl2,List.mem_append] at hm
    rcases hm with hm | hm
    ·exact hsep u hu g hg (by rw [hvb]; exact hm)
    ·exact q3 u (by simp [hu]) g hg hm
theorem dis_pins {l:List (Value × As)}(hn:∀ x∈l,NodA x.2):WkA (cat (pins [] l)) (DisA (cat (l.map (·.2)))):=by
 have hlen:∀ (us:List Value) (l:List (Value × As)),((pins us l).map (·.n)).sum=((l.map (·.2)).map (·.n)).sum:=by
  intro us l
  induction l generalizing us with
  | nil=>rfl
  | cons x l ih=>obtain ⟨v,A⟩:=x; simp only [pins,List.map_cons,List.sum_cons,ih]; rfl
 refine ⟨(hlen [] l).symm,rfl,fun B cs w ⟨ps,e,hp⟩=>?_⟩
 obtain ⟨q1,q2,_⟩:=pins_ok hn hp
 subst e
 exact ⟨⟨ps,rfl,q1⟩,q2⟩
namespace Rg
structure LeF where
 s:Nat
 T:TypeId
 H:Hd
 cr:Option Nat
 A0:As
 st:Option (Nat × ((Nat→Value)→As))
def LeF.on (ν:Nat→Value)(e:LeF):Le:=⟨e.s,e.T,e.H,e.cr,e.A0,match e.st with | none=>none | some (j,f)=>some (j,f ν)⟩
abbrev fam (ops:Array Oper)(N:Nat)(Γ:List (Nat × VA))(les:List LeF)(sp:List ((Nat→Value)→Sp))(anc:Nat→List Nat)(ν:Nat→Value):Rg:=⟨ops,N,Γ,les.map (LeF.on ν),sp.map (fun f=>f ν),anc⟩
def Dep {α:Type}(S:Nat→Bool)(f:(Nat→Value)→α):Prop:=∀ ν ν',(∀ k,S k=true→ν k=ν' k)→f ν=f ν'
def bef (anc:Nat→List Nat)(i k:Nat):Bool:=k==i || (anc i).contains k
def nuSet (ν:Nat→Value)(i:Nat)(v:Value):Nat→Value:=fun k=>if k=i then v else ν k
theorem zg5 {ν:Nat→Value}{i:Nat}{v:Value}:nuSet ν i v i=v:=if_pos rfl
theorem nu_ne {ν:Nat→Value}{i k:Nat}{v:Value}(h:k≠i):nuSet ν i v k=ν k:=if_neg h
section
variable {ops:Array Oper} {N:Nat} {Γ:List (Nat × VA)} {les:List LeF} {sp:List ((Nat→Value)→Sp)} {anc:Nat→List Nat} {ν ν':Nat→Value} {B:Nat} {w0:Bs} {L:Nat→Bool} {a:Act} {w:World} {P:Program} {Q:Exit→Act→World→Prop} {i:Nat}
theorem zk8 {deps:List TypeId}:clash (fam ops N Γ les sp anc ν) L deps=clash (fam ops N Γ les sp anc ν') L deps:=by
 unfold clash
 show (les.map (LeF.on ν)).any _=(les.map (LeF.on ν')).any _
 rw [List.any_map,List.any_map]
 congr 1
 funext e
 obtain ⟨s,T,H,cr,A0,st⟩:=e
 cases st with
 | none=>rfl
 | some x=>rfl
theorem zkw (hdL:∀ e∈les,∀ j f,e.st=some (j,f)→Dep (bef anc j) f)(hc:Closed (fam ops N Γ les sp anc ν) L)(hn:∀ k,L k=true→ν k=ν' k){e:LeF}(he:e∈les):cur L (e.on ν)=cur L (e.on ν'):=by
 obtain ⟨s,T,H,cr,A0,st⟩:=e
 cases st with
 | none=>rfl
 | some x =>
  obtain ⟨j,f⟩:=x
  show (if crOk L cr=true then some (if L j=true then f ν else A0) else none)=(if crOk L cr=true then some (if L j=true then f ν' else A0) else none)
  cases hj:L j with
  | false=>rfl
  | true =>
   have:f ν=f ν':=hdL _ he j f rfl ν ν' fun k hk=>hn k (by
    simp only [bef,Bool.or_eq_true,beq_iff_eq] at hk
    rcases hk with rfl | hk
    ·exact hj
    ·exact hc j hj k hk)
   rw [this]
theorem sp_fam (hdS:∀ i f,sp[i]?=some f→Dep (bef anc i) f)(hc:Closed (fam ops N Γ les sp anc ν) L)(hn:∀ k,L k=true→ν k=ν' k){j:Nat}(hj:L j=true):(sp.map fun f=>f ν')[j]?=(sp.map fun f=>f ν)[j]?:=by
 rw [List.getElem?_map,List.getElem?_map]
 cases hs:sp[j]? with
 | none=>rfl
 | some f =>
  have:f ν=f ν':=hdS j f hs ν ν' fun k hk=>hn k (by
   simp only [bef,Bool.or_eq_true,beq_iff_eq] at hk
   rcases hk with rfl | hk
   ·exact hj
   ·exact hc j hj k hk)
  show some (f ν')=some (f ν)
  rw [this]
theorem Inv.nu (hdS:∀ i f,sp[i]?=some f→Dep (bef anc i) f)(hdL:∀ e∈les,∀ j f,e.st=some (j,f)→Dep (bef anc j) f)(hc:Closed (fam ops N Γ les sp anc ν) L)(hn:∀ k,L k=true→ν k=ν' k)(h:(fam ops N Γ les sp anc ν).Inv B w0 L a w):(fam ops N Γ les sp anc ν').Inv B w0 L a w:=by
 refine ⟨h.lo,h.defers,h.size,h.base,fun x hx h1 h2=>h.g x hx h1 (by rw [zk8 (ν':=ν')]; exact h2),fun i y d A hs hv hL h2=>?_,fun i d b k c hs hL hc'=>?_,fun e he A hA=>?_,fun e he f hf hne h1 h2=>?_⟩
 ·exact h.v i y d A (by rw [← hs]; exact (sp_fam hdS hc hn hL).symm) hv hL (by rw [zk8 (ν':=ν')]; exact h2)
 ·exact h.d i d b k c (by rw [← hs]; exact (sp_fam hdS hc hn hL).symm) hL hc'
 ·obtain ⟨e0,he0,rfl⟩:=List.mem_map.1 he
  exact h.c (e0.on ν) (List.mem_map.2 ⟨e0,he0,rfl⟩) A (by rw [zkw hdL hc hn he0]; exact hA)
 ·obtain ⟨e0,he0,rfl⟩:=List.mem_map.1 he
  obtain ⟨f0,hf0,rfl⟩:=List.mem_map.1 hf
  exact h.x (e0.on ν) (List.mem_map.2 ⟨e0,he0,rfl⟩) (f0.on ν) (List.mem_map.2 ⟨f0,hf0,rfl⟩) hne (by rw [zkw hdL hc hn he0]; exact h1) (by rw [zkw hdL hc hn hf0]; exact h2)
def ObF (P:Program)(Q:Exit→Act→World→Prop)(ops:Array Oper)(N:Nat)(Γ:List (Nat × VA))(les:List LeF)(sp:List ((Nat→Value)→Sp))(anc:Nat→List Nat)(B:Nat)(w0:Bs)(i:Nat):Prop :=
 (∀ ν,(fam ops N Γ les sp anc ν).Ob P Q B w0 i)∨∃ (d:Nat) (A:(Nat→Value)→VA),sp[i]?=some (fun ν=>.val d (A ν))∧∀ ν a w,(fam ops N Γ les sp anc ν).Av B w0 i a w→∀ K:Act→World→Prop,(∀ v w',Grow w w'→(A (nuSet ν i v)).p B v w'→K (a.put (some d) v) w')→wpOp P ops Q i K a w
theorem stepV (hk:∀ ν,chk (fam ops N Γ les sp anc ν)=true)(hdS:∀ i f,sp[i]?=some f→Dep (bef anc i) f)(hdL:∀ e∈les,∀ j f,e.st=some (j,f)→Dep (bef anc j) f)(hob:ObF P Q ops N Γ les sp anc B w0 i)(h:(fam ops N Γ les sp anc ν).Inv B w0 L a w)(hc:Closed (fam ops N Γ les sp anc ν) L)(hL:L i=false)(ha:∀ j,(anc i).contains j=true→L j=true)(K:Act→World→Prop)
  (hK:∀ ν' a' w',(fam ops N Γ les sp anc ν').Inv B w0 (upd L i) a' w'→K a' w'):wpOp P ops Q i K a w:=by
 rcases hob with hob | ⟨d,A,hs,hob⟩
 ·exact step (hk ν) (hob ν) h hc hL ha K fun a' w' hi=>hK ν a' w' hi
 ·refine hob ν a w (h.av hc hL ha) K fun v w' hg hA=>hK (nuSet ν i v) _ _ ?_
  have hi':=h.nu (ν':=nuSet ν i v) hdS hdL hc fun k hk=>(nu_ne (fun e=>by rw [e,hL] at hk; cases hk)).symm
  have hs':(fam ops N Γ les sp anc (nuSet ν i v)).sp[i]?=some (.val d (A (nuSet ν i v))):=by
   show (sp.map _)[i]?=_
   rw [List.getElem?_map,hs]; rfl
  have hop:=(zek (hk (nuSet ν i v)) (chk_lt (hk _) hs')).1
  simp only [hs',Bool.and_eq_true,beq_iff_eq,decide_eq_true_eq] at hop
  exact hi'.put (hk _) hc hL hs' hop.1 hop.2 ⟨(fun e he=>by cases he),rfl⟩ hg
   (fun d' A' he=>by simp only [Sp.vl,Option.some.injEq,Prod.mk.injEq] at he; obtain ⟨rfl,rfl⟩:=he; exact ⟨rfl,hA⟩) (fun d' b k c he=>by cases he)
theorem linV {id:Nat}{Λ:List Lc}(hanc:anc=fun i=>List.range i)(hk:∀ ν,chk (fam ops N Γ les sp anc ν)=true)(hdS:∀ i f,sp[i]?=some f→Dep (bef anc i) f)(hdL:∀ e∈les,∀ j f,e.st=some (j,f)→Dep (bef anc j) f)(ν0:Nat→Value)(h:St B w0 N Γ Λ a w)(hles:∀ e∈(fam ops N Γ les sp anc ν0).les,e.cr=none→(⟨e.s,e.T,e.H,e.A0⟩:Lc)∈Λ)
  (hob:∀ i,i<ops.size→ObF P Q ops N Γ les sp anc B w0 i) (hQ:∀ ν a' w',Fin (fam ops N Γ les sp anc ν) B w0 a' w'→Q .normal a' w'):(Code.region id ops false).wp P Q a w:=by
 refine wp_region ?_
 have key:∀ m k,k+m=ops.size→∀ ν a w,(fam ops N Γ les sp anc ν).Inv B w0 (fun j=>decide (j<k)) a w→wpOps P ops Q (List.range' k m) a w:=by
  intro m
  induction m with
  | zero =>
   intro k hkm ν a w hi
   have:k=ops.size:=by omega
   subst this
   exact hQ ν a w ⟨hi⟩
  | succ m ih =>
   intro k hkm ν a w hi
   rw [List.range'_succ,wpOps_cons]
   refine stepV hk hdS hdL (hob k zo) hi ?_ (by simp) ?_ _ fun ν' a' w' hi'=>ih (k+1) zo ν' a' w' (hi'.congr fun j=>?_)
   ·intro i hi j hj
    have hj:(anc i).contains j=true:=hj
    rw [hanc] at hj
    simp at hi hj ⊢
    omega
   ·intro j hj
    rw [hanc] at hj
    simpa using hj
   ·unfold upd
    by_cases h1:j=k
    ·subst h1; simp
    ·have h2:(j==k)=false:=by simpa using h1
     rw [h2,Bool.false_or,decide_eq_decide]
     omega
 rw [List.range_eq_range']
 exact key _ 0 zo ν0 a w ((start (R:=fam ops N Γ les sp anc ν0) h hles).congr fun j=>by simp)
theorem drawV {id:Nat}{Λ:List Lc}(hm:P.follows .mixedOrders=true)(hanc:ancOk (fam ops N Γ les sp anc (fun _=>undef))=true)(hk:∀ ν,chk (fam ops N Γ les sp anc ν)=true)(hdS:∀ i f,sp[i]?=some f→Dep (bef anc i) f)(hdL:∀ e∈les,∀ j f,e.st=some (j,f)→Dep (bef anc j) f)(ν0:Nat→Value)(h:St B w0 N Γ Λ a w)(hles:∀ e∈(fam ops N Γ les sp anc ν0).les,e.cr=none→(⟨e.s,e.T,e.H,e.A0⟩:Lc)∈Λ)
  (hob:∀ i,i<ops.size→ObF P Q ops N Γ les sp anc B w0 i) (hQ:∀ ν a' w',Fin (fam ops N Γ les sp anc ν) B w0 a' w'→Q .normal a' w'):(Code.region id ops true).wp P Q a w:=by
 refine wp_region_any hm ?_
 have ho:∀ i,i<ops.size→∃ o,ops[i]?=some o∧(∀ j,(anc i).contains j=true→∃ e∈o.after,Region.binds .any e=true∧(e.on=j∨(anc e.on).contains j=true)) ∧
   ∀ e∈o.after,Region.binds .any e=true→e.on<i:=by
  intro i hi
  have:=List.all_eq_true.1 hanc i (by simpa using hi)
  cases hoi:ops[i]? with
  | none=>rw [hoi] at this; cases this
  | some o =>
   rw [hoi] at this
   simp only [Bool.and_eq_true] at this
   refine ⟨o,rfl,fun j hj=>?_,fun e he hb=>?_⟩
   ·have hh:=List.all_eq_true.1 this.1 j (by simpa using hj)
    obtain ⟨e,he,h1⟩:=Array.any_eq_true'.1 hh
    simp only [Bool.and_eq_true,Bool.or_eq_true,beq_iff_eq] at h1
    exact ⟨e,he,h1.1,h1.2⟩
   ·have hh:=Array.all_eq_true'.1 this.2 e he
    simpa [hb] using hh
 have hrd:∀ (listed:Array Bool) i,i∈Region.ready .any ops listed→i<ops.size∧listed.getD i true=false∧∀ o,ops[i]?=some o→∀ e∈o.after,Region.binds .any e=true→listed.getD e.on false=true:=by
  intro listed i hi
  unfold Region.ready at hi
  obtain ⟨h1,h2⟩:=List.mem_filter.1 hi
  simp only [Bool.and_eq_true,Bool.not_eq_true'] at h2
  refine ⟨by simpa using h1,h2.1,fun o hoi e he hb=>?_⟩
  have h3:=h2.2
  rw [hoi] at h3
  simp only [Option.map_some,Option.getD_some] at h3
  have:=Array.all_eq_true'.1 h3 e he
  simpa [hb] using this
 have key:∀ fuel (listed:Array Bool) ν a w,listed.size=ops.size→(List.range ops.size).countP (fun i => !listed.getD i false)≤fuel→Closed (fam ops N Γ les sp anc (fun _=>undef)) (fun i=>listed.getD i false) →
   (fam ops N Γ les sp anc ν).Inv B w0 (fun i=>listed.getD i false) a w→wpAny P .any ops Q fuel listed a w:=by
  intro fuel
  have hend:∀ (listed:Array Bool) ν a w,listed.size=ops.size→Region.ready .any ops listed=[]→(fam ops N Γ les sp anc ν).Inv B w0 (fun i=>listed.getD i false) a w→Q .normal a w:=by
   intro listed ν a w hsz hr hi
   refine hQ ν a w ⟨hi.congr fun k=>?_⟩
   by_cases hkn:k<ops.size
   ·have:∀ k,k<ops.size→listed.getD k false=true:=by
     intro k
     induction k using Nat.strongRecOn with
     | _ k ih =>
      intro hkn
      cases hl:listed.getD k false with
      | true=>rfl
      | false =>
       exfalso
       obtain ⟨o,ho1,_,ho3⟩:=ho k hkn
       have:k∈Region.ready .any ops listed:=by
        unfold Region.ready
        refine List.mem_filter.2 ⟨by simpa using hkn,?_⟩
        have h0:listed.getD k true=false:=by
         simp only [Array.getD,hsz,hkn,dite_true] at hl ⊢
         exact hl
        rw [h0,ho1]
        simp only [Bool.not_false,Bool.true_and,Option.map_some,Option.getD_some]
        refine Array.all_eq_true'.2 fun e he=>?_
        cases hb:Region.binds .any e with
        | false=>rfl
        | true=>simpa using ih e.on (ho3 e he hb) (Nat.lt_trans (ho3 e he hb) hkn)
       rw [hr] at this
       cases this
    simp [hkn,this k hkn]
   ·have:listed.getD k false=false:=by simp [Array.getD,hsz,hkn]
    simp [hkn,this]
  induction fuel with
  | zero =>
   intro listed ν a w hsz hcnt hcl hi
   have hr:Region.ready .any ops listed=[]:=by
    cases hrr:Region.ready .any ops listed with
    | nil=>rfl
    | cons i rest =>
     exfalso
     obtain ⟨h1,h2,_⟩:=hrd listed i (by rw [hrr]; simp)
     have:0<(List.range ops.size).countP (fun i => !listed.getD i false):=by
      refine List.countP_pos_iff.2 ⟨i,by simpa using h1,?_⟩
      simp only [Array.getD,hsz,h1,dite_true] at h2 ⊢
      simpa using h2
     omega
   exact ⟨hr,hend listed ν a w hsz hr hi⟩
  | succ fuel ih =>
   intro listed ν a w hsz hcnt hcl hi
   refine ⟨fun hr=>hend listed ν a w hsz hr hi,fun i hir=>?_⟩
   obtain ⟨h1,h2,h3⟩:=hrd listed i hir
   obtain ⟨o,ho1,ho2,_⟩:=ho i h1
   have hLi:listed.getD i false=false:=by
    simp only [Array.getD,hsz,h1,dite_true] at h2 ⊢
    exact h2
   have hanci:∀ j,(anc i).contains j=true→listed.getD j false=true:=by
    intro j hj
    obtain ⟨e,he,hb,hj'⟩:=ho2 j hj
    have hl:=h3 o ho1 e he hb
    rcases hj' with rfl | hj'
    ·exact hl
    ·exact hcl e.on hl j hj'
   have hup:∀ k,(listed.setIfInBounds i true).getD k false=upd (fun i=>listed.getD i false) i k:=by
    intro k
    unfold upd
    by_cases hki:k=i
    ·subst hki
     simp [hsz,h1]
    ·simp [hki,Array.getElem?_setIfInBounds_ne (fun e=>hki e.symm)]
   refine stepV hk hdS hdL (hob i h1) hi hcl hLi hanci _ fun ν' a' w' hi'=>ih _ ν' _ _ (by simpa using hsz) ?_ ?_ (hi'.congr hup)
   ·have:(List.range ops.size).countP (fun k => !(listed.setIfInBounds i true).getD k false)<(List.range ops.size).countP (fun k => !listed.getD k false):=by
     refine zej (x:=i) (fun x hx=>?_) (by simpa using h1) (by rw [hLi]; rfl) (by rw [hup,zc7]; rfl)
     have hx':upd (fun i=>listed.getD i false) i x=false:=by
      rw [← hup]
      simpa only [Bool.not_eq_true'] using hx
     rw [(zda hx').2]
     rfl
    omega
   ·intro k hk' j hj
    have hk2:upd (fun i=>listed.getD i false) i k=true:=by rw [← hup]; exact hk'
    show (listed.setIfInBounds i true).getD j false=true
    rw [hup]
    rcases of_upd hk2 with rfl | h4
    ·exact zdn _ (hanci j hj)
    ·exact zdn _ (hcl k h4 j hj)
 refine key _ _ ν0 a _ (by simp) ?_ ?_ ?_
 ·refine Nat.le_trans (List.countP_le_length) (by simp)
 ·intro i hi
  exfalso
  simp only [Array.getD,Array.size_replicate] at hi
  split at hi <;> simp at hi
 ·have hs:=start (R:=fam ops N Γ les sp anc ν0) h hles
  have hd:(fam ops N Γ les sp anc ν0).Inv B w0 (fun _=>false) a w.drew:=⟨hs.lo,hs.defers.grow (Grow.drew w) rfl,hs.size,hs.base.drew,fun x hx h1 h2=>x.2.grow _ _ _ _ (Grow.drew w) (hs.g x hx h1 h2),(fun i y d A _ _ hf=>by cases hf),(fun i d b k c _ hf=>by cases hf),
   fun e he A hA=>(hs.c e he A hA).grow (Grow.drew w),hs.x⟩
  refine Inv.congr hd fun k=>?_
  simp only [Array.getD,Array.size_replicate]
  split <;> simp
end
def DepS (anc:Nat→List Nat):Nat→List ((Nat→Value)→Sp)→Prop
 | _,[]=>True
 | k,f::l=>Dep (bef anc k) f∧DepS anc (k+1) l
theorem DepS.at {anc:Nat→List Nat}:∀ {l:List ((Nat→Value)→Sp)} {k:Nat},DepS anc k l→∀ i f,l[i]?=some f→Dep (bef anc (k+i)) f
 | g::l,k,h,0,f,hf=>by
  simp at hf
  subst hf
  exact h.1
 | g::l,k,h,i+1,f,hf=>by
  have:=DepS.at h.2 i f (by simpa using hf)
  rwa [show k+1+i=k+(i+1) by omega] at this
def DepL (anc:Nat→List Nat):List LeF→Prop
 | []=>True
 | e::l=>(match e.st with | none=>True | some (j,f)=>Dep (bef anc j) f)∧DepL anc l
theorem DepL.mem {anc:Nat→List Nat}:∀ {l:List LeF},DepL anc l→∀ e∈l,∀ j f,e.st=some (j,f)→Dep (bef anc j) f
 | g::l,h,e,he,j,f,hf=>by
  rcases List.mem_cons.1 he with rfl | he
  ·have h1:=h.1
   rw [hf] at h1
   exact h1
  ·exact DepL.mem h.2 e he j f hf
end Rg
open Rg in
def lesF (Λ:List Lc)(sts:List (Option (Nat × ((Nat→Value)→As))))(news:List LeF):List LeF:=(Λ.zip sts).map (fun x=>⟨x.1.s,x.1.T,x.1.H,none,x.1.A,x.2⟩)++news
open Rg in
def ObsF (P:Program)(Q:Exit→Act→World→Prop)(ops:Array Oper)(N:Nat)(Γ:List (Nat × VA))(les:List LeF)(sp:List ((Nat→Value)→Sp))(anc:Nat→List Nat)(B:Nat)(w0:Bs):Nat→Nat→Prop
 | _,0=>True
 | k,m+1=>ObF P Q ops N Γ les sp anc B w0 k∧ObsF P Q ops N Γ les sp anc B w0 (k+1) m
open Rg in
theorem ObsF.all {P:Program}{Q:Exit→Act→World→Prop}{ops:Array Oper}{N:Nat}{Γ:List (Nat × VA)}{les:List LeF}{sp:List ((Nat→Value)→Sp)}{anc:Nat→List Nat}{B:Nat}{w0:Bs}{k m:Nat}(h:ObsF P Q ops N Γ les sp anc B w0 k m):∀ j,k≤j→j<k+m→ObF P Q ops N Γ les sp anc B w0 j:=by
 induction m generalizing k with
 | zero=>intro j h1 h2; omega
 | succ m ih =>
  intro j h1 h2
  by_cases hj:j=k
  ·subst hj; exact h.1
  ·exact ih h.2 j zo zo
section
open Rg
variable {P:Program} {Q:Exit→Act→World→Prop} {B N:Nat} {w0:Bs} {Γ:List (Nat × VA)} {Λ:List Lc} {a:Act} {w:World}
theorem lesF_in {sts:List (Option (Nat × ((Nat→Value)→As)))}{news:List LeF}{ν:Nat→Value}(hn:news.all (fun e=>e.cr.isSome)=true):∀ e∈(lesF Λ sts news).map (LeF.on ν),e.cr=none→(⟨e.s,e.T,e.H,e.A0⟩:Lc)∈Λ:=by
 intro e he hcr
 obtain ⟨e0,he0,rfl⟩:=List.mem_map.1 he
 unfold lesF at he0
 rcases List.mem_append.1 he0 with he | he
 ·obtain ⟨x,hx,rfl⟩:=List.mem_map.1 he
  exact (List.of_mem_zip hx).1
 ·have:=List.all_eq_true.1 hn e0 he
  have h2:e0.cr=none:=hcr
  rw [h2] at this
  cases this
theorem go_linV {id:Nat}{ops:Array Oper}{sts:List (Option (Nat × ((Nat→Value)→As)))}{news:List LeF}{sp:List ((Nat→Value)→Sp)}(src:List Src)(h:St B w0 N Γ Λ a w)
  (hob:ObsF P Q ops N Γ (lesF Λ sts news) sp (fun i=>List.range i) B w0 0 ops.size) (hdS:DepS (fun i=>List.range i) 0 sp) (hdL:DepL (fun i=>List.range i) (lesF Λ sts news))
  (hn:news.all (fun e=>e.cr.isSome)=true) (hk:∀ ν,Rg.chk (fam ops N Γ (lesF Λ sts news) sp (fun i=>List.range i) ν)=true) (hsrc:∀ ν,src.all (okS (fam ops N Γ (lesF Λ sts news) sp (fun i=>List.range i) ν))=true)
  (hQ:∀ ν a w,St B w0 N (src.filterMap (takeS (fam ops N Γ (lesF Λ sts news) sp (fun i=>List.range i) ν))) (((lesF Λ sts news).map (LeF.on ν)).map fun e=>⟨e.s,e.T,e.H,Rg.last e⟩) a w→Q .normal a w):(Code.region id ops false).wp P Q a w :=
 Rg.linV rfl hk (fun i f hf=>by have:=hdS.at i f hf; rwa [Nat.zero_add] at this) hdL.mem (fun _=>undef) h (lesF_in hn) (fun i hi=>hob.all i zo zo) fun ν a' w' hf=>hQ ν a' w' (zeh (hk ν) hf src (hsrc ν))
theorem go_drawV' {id:Nat}{ops:Array Oper}{sts:List (Option (Nat × ((Nat→Value)→As)))}{news:List LeF}{sp:List ((Nat→Value)→Sp)}(anc:List (List Nat))(src:List Src)(hm:P.follows .mixedOrders=true)(h:St B w0 N Γ Λ a w)
  (hob:ObsF P Q ops N Γ (lesF Λ sts news) sp (fun i=>anc.getD i []) B w0 0 ops.size) (hdS:DepS (fun i=>anc.getD i []) 0 sp) (hdL:DepL (fun i=>anc.getD i []) (lesF Λ sts news))
  (hn:news.all (fun e=>e.cr.isSome)=true) (hanc:Rg.ancOk (fam ops N Γ (lesF Λ sts news) sp (fun i=>anc.getD i []) (fun _=>undef))=true) (hk:∀ ν,Rg.chk (fam ops N Γ (lesF Λ sts news) sp (fun i=>anc.getD i []) ν)=true) (hsrc:∀ ν,src.all (okS (fam ops N Γ (lesF Λ sts news) sp (fun i=>anc.getD i []) ν))=true)
  (hQ:∀ ν a w,St B w0 N (src.filterMap (takeS (fam ops N Γ (lesF Λ sts news) sp (fun i=>anc.getD i []) ν))) (((lesF Λ sts news).map (LeF.on ν)).map fun e=>⟨e.s,e.T,e.H,Rg.last e⟩) a w→Q .normal a w):(Code.region id ops true).wp P Q a w :=
 Rg.drawV hm hanc hk (fun i f hf=>by have:=hdS.at i f hf; rwa [Nat.zero_add] at this) hdL.mem (fun _=>undef) h (lesF_in hn) (fun i hi=>hob.all i zo zo) fun ν a' w' hf=>hQ ν a' w' (zeh (hk ν) hf src (hsrc ν))
variable {ops:Array Oper} {les:List LeF} {sp:List ((Nat→Value)→Sp)} {anc:Nat→List Nat} {i:Nat}
theorem of_u (h:∀ ν,(fam ops N Γ les sp anc ν).Ob P Q B w0 i):ObF P Q ops N Γ les sp anc B w0 i:=.inl h
def LiveR (R:Rg)(B:Nat)(w0:Bs)(i:Nat)(us:List Value):Prop:=∀ a w,R.Av B w0 i a w→∀ u∈us,∀ g∈vbl u,g<w.heap.size
theorem zcw {R:Rg}:LiveR R B w0 i []:=fun _ _ _ _ h=>by cases h
theorem zfm {R:Rg}{u:Value}{us:List Value}{x:Operand}{A:As}(hA:NewA A)(hx:Has R B w0 i x (PinA u A).va)(h:LiveR R B w0 i us):LiveR R B w0 i (u::us):=fun a w av v hv=>by
 rcases List.mem_cons.1 hv with rfl | hv
 ·obtain ⟨cs,⟨h1,h2⟩,_⟩:=hx a w av
  intro g hg
  rw [← h2,zj4 h1] at hg
  exact (hA _ _ _ h1 g hg).2
 ·exact h a w av v hv
theorem zfc {A:As}{c:Prop}(h:NewA A):NewA (A.and c):=fun B cs w hp=>h B cs w hp.2
theorem nod_and {A:As}{c:Prop}(h:NodA A):NodA (A.and c):=fun B cs w hp=>h B cs w hp.2
theorem zec {d f:Nat}{A:As}{us:(Nat→Value)→List Value}{pre pre':List VA}{xs:List Operand}{at_:Array TypeId}{T:TypeId}{ps:String}{af:Array Edge}
  (hs:sp[i]?=some (fun ν=>.val d (PinA (ν i) (A.and (SepAll (us ν) (ν i)))).va)) (ho:ops[i]?=some ⟨some d,.call ⟨.value (.func f),xs.toArray,at_⟩,T,ps,af,none⟩)
  (hc:Cn P f pre' A.va) (hnew:NewA A) (hfree:FreeA A A) (hup:All2 Up pre pre') (hx:∀ ν,HasL (fam ops N Γ les sp anc ν) B w0 i xs pre) (hus:∀ ν v,us (nuSet ν i v)=us ν) (hl:∀ ν,LiveR (fam ops N Γ les sp anc ν) B w0 i (us ν)):ObF P Q ops N Γ les sp anc B w0 i:=by
 refine .inr ⟨d,_,hs,fun ν a w av K hK=>?_⟩
 obtain ⟨⟨fn,hf,hn,hb⟩,hcall⟩:=hc
 have hrun:(execOp a.eval ⟨some d,.call ⟨.value (.func f),xs.toArray,at_⟩,T,ps,af,none⟩).run P w=.ok (.enter f (xs.map a.eval).toArray) w:=by
  simp only [execOp,resolve,Act.eval,Deferred.ofValue,Sem.run_bind,Sem.run_pure,Result.andThen_ok,invoke,zbe hf hn hb]
  simp
 have hbw:=Av.bw av
 have hargs:All2 (fun (A:VA) v=>A.p w.heap.size v w) pre' (xs.map a.eval):=by
  have h1:=(hx ν).all av
  clear hcall hrun hx hs ho
  generalize xs.map a.eval=vs at h1
  induction hup generalizing vs with
  | nil=>cases h1; exact .nil
  | cons hu _ ih =>
   cases h1 with
   | cons h2 h3=>exact .cons (hu _ _ _ hbw h2) (ih _ h3)
 refine zbt (R:=fam ops N Γ les sp anc ν) ho rfl ?_
 unfold Oper.wp
 rw [hrun]
 refine (hcall w.heap.size w _ (Nat.le_refl _) hargs).mono fun e w' ⟨v,he,⟨cs,hv,hsh⟩,hg⟩=>?_
 subst he
 refine hK v w' hg ⟨cs,⟨⟨?_,hfree.2.2 _ _ _ _ hbw hv⟩,?_⟩,hsh⟩
 ·rw [hus,zg5]
  intro u hu g hgu hgv
  have h1:=hl ν a w av u hu g hgu
  rw [hsh,zj4 hv] at hgv
  have h2:=(hnew _ _ _ hv g hgv).1
  omega
 ·rw [zg5]
  exact hsh.symm
theorem live_loc {R:Rg}{u:Value}{us:List Value}{s:Nat}{T:TypeId}{H:Hd}{A:As}(hA:NewA A)(hx:LocH R i s T H (PinA u A))(h:LiveR R B w0 i us):LiveR R B w0 i (u::us):=fun a w av v hv=>by
 rcases List.mem_cons.1 hv with rfl | hv
 ·obtain ⟨g,cs,_,_,_,h1,h2⟩:=hx.ok av
  intro g hg
  rw [← h2,zj4 h1] at hg
  exact (hA _ _ _ h1 g hg).2
 ·exact h a w av v hv
def PinT (v:Value)(l:List As)(us:List Value):VA where
 p B x w:=x=v∧∃ vs:List Value,v=.tuple vs.toArray∧All2 (fun (A:As) y=>A.va.p B y w∧SepAll us y) l vs
 deps:=l.flatMap (·.deps)
 cg:=fun B x w w' hg ⟨h,vs,h1,h2⟩=>⟨h,vs,h1,h2.mono fun A y hy=>⟨A.va.cg _ _ _ _ hg hy.1,hy.2⟩⟩
 wr:=by
  rintro B x w w' g c T fz h1 h2 h3 h4 ⟨h,vs,h5,h6⟩
  refine ⟨h,vs,h5,?_⟩
  clear h5
  induction h6 with
  | nil=>exact .nil
  | cons h _ ih =>
   simp only [List.flatMap_cons,List.mem_append,not_or] at h2
   exact .cons ⟨(As.va _).wr _ _ _ _ _ _ _ _ h1 h2.1 h3 h4 h.1,h.2⟩ (ih h2.2)
theorem of_callT {d f:Nat}{l:List As}{us:(Nat→Value)→List Value}{pre pre':List VA}{xs:List Operand}{at_:Array TypeId}{T:TypeId}{ps:String}{af:Array Edge}
  (hs:sp[i]?=some (fun ν=>.val d (PinT (ν i) l (us ν)))) (ho:ops[i]?=some ⟨some d,.call ⟨.value (.func f),xs.toArray,at_⟩,T,ps,af,none⟩)
  (hc:Cn P f pre' (Tu (l.map (·.va)))) (hnf:∀ A∈l,NewA A∧FreeA A A) (hup:All2 Up pre pre') (hx:∀ ν,HasL (fam ops N Γ les sp anc ν) B w0 i xs pre) (hus:∀ ν v,us (nuSet ν i v)=us ν) (hl:∀ ν,LiveR (fam ops N Γ les sp anc ν) B w0 i (us ν)):ObF P Q ops N Γ les sp anc B w0 i:=by
 refine .inr ⟨d,_,hs,fun ν a w av K hK=>?_⟩
 obtain ⟨⟨fn,hf,hn,hb⟩,hcall⟩:=hc
 have hrun:(execOp a.eval ⟨some d,.call ⟨.value (.func f),xs.toArray,at_⟩,T,ps,af,none⟩).run P w=.ok (.enter f (xs.map a.eval).toArray) w:=by
  simp only [execOp,resolve,Act.eval,Deferred.ofValue,Sem.run_bind,Sem.run_pure,Result.andThen_ok,invoke,zbe hf hn hb]
  simp
 have hbw:=Av.bw av
 have hargs:All2 (fun (A:VA) v=>A.p w.heap.size v w) pre' (xs.map a.eval):=by
  have h1:=(hx ν).all av
  clear hcall hrun hx hs ho
  generalize xs.map a.eval=vs at h1
  induction hup generalizing vs with
  | nil=>cases h1; exact .nil
  | cons hu _ ih =>
   cases h1 with
   | cons h2 h3=>exact .cons (hu _ _ _ hbw h2) (ih _ h3)
 refine zbt (R:=fam ops N Γ les sp anc ν) ho rfl ?_
 unfold Oper.wp
 rw [hrun]
 refine (hcall w.heap.size w _ (Nat.le_refl _) hargs).mono ?_
 rintro e w' ⟨v,he,⟨vs,hv,hvs⟩,hg⟩
 subst he
 refine hK v w' hg ⟨by rw [zg5],vs,by rw [zg5]; exact hv,?_⟩
 rw [hus]
 have hlv:=hl ν a w av
 clear hv hs hcall hK
 induction l generalizing vs with
 | nil=>cases hvs; exact .nil
 | cons A l ih =>
  cases hvs with
  | cons h1 h2 =>
   refine .cons ⟨?_,?_⟩ (ih (fun A hA=>hnf A (by simp [hA])) _ h2)
   ·obtain ⟨cs,hp,hsh⟩:=h1
    exact ⟨cs,(hnf A (by simp)).2.2.2 _ _ _ _ hbw hp,hsh⟩
   ·obtain ⟨cs,hp,hsh⟩:=h1
    intro u hu g hgu hgv
    have q1:=hlv u hu g hgu
    rw [hsh,zj4 hp] at hgv
    have q2:=((hnf A (by simp)).1 _ _ _ hp g hgv).1
    omega
theorem of_ext {d t k:Nat}{l:List As}{A:As}{v:(Nat→Value)→Value}{us:(Nat→Value)→List Value}{T:TypeId}{ps:String}{af:Array Edge}
  (hs:sp[i]?=some (fun ν=>.val d (PinA (ν i) (A.and (SepAll (us ν) (ν i)))).va)) (ho:ops[i]?=some ⟨some d,.extract (.tmp t) k,T,ps,af,none⟩)
  (hx:∀ ν,Has (fam ops N Γ les sp anc ν) B w0 i (.tmp t) (PinT (v ν) l (us ν))) (hA:l[k]?=some A) (hus:∀ ν v,us (nuSet ν i v)=us ν):ObF P Q ops N Γ les sp anc B w0 i:=by
 refine .inr ⟨d,_,hs,fun ν a w av K hK=>?_⟩
 obtain ⟨e1,vs,e2,h2⟩:=hx ν a w av
 obtain ⟨y,hy,⟨cs,hp,hsh⟩,hsep⟩:=h2.get hA
 refine zbt (R:=fam ops N Γ les sp anc ν) ho rfl (zbn (w':=w) (v:=y) ?_ (hK y w (Grow.refl w) ⟨cs,⟨⟨?_,hp⟩,?_⟩,hsh⟩))
 ·have e3:a.eval (.tmp t)=.tuple vs.toArray:=e1.trans e2
  simp [execOp,e3,Instr.extract,hy]
 ·rw [hus,zg5]; exact hsep
 ·rw [zg5]; exact hsh.symm
end
end Go.Proofs.YtlpppkkggljdcaaGreat
