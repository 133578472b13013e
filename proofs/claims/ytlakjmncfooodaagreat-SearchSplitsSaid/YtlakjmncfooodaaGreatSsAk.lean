import Derived.Test.YtlakjmncfooodaaGreatSsAj
import Derived.ProofKit
import Derived.OpenShut
import Derived.ChangeOld
import Derived.Below
set_option linter.all false
set_option maxRecDepth 100000
namespace Go.Proofs.YtlakjmncfooodaaGreat
open Go Go.RowKit
variable {w:World}{B:Nat}{a:Act}{v:Value}{T:TypeId}{w0:Bs}{Γ:List (Nat × VA)}{Λ:List Lc}{ps:String}{af:Array Edge}{vr:Value}{H:Hd}{cs:List Value}{w':World}{P:Program}{D:List TypeId}
def intSizeF (x:RI):Int:=IntKind.i64.wrap (1+(x.mag.length:Int))
def fracSizeF (x:RF):Int:=IntKind.i64.wrap (intSizeF x.num+intSizeF x.den)
def lowCostF (x y:RI):Int:=IntKind.i64.wrap (IntKind.i64.wrap ((IntKind.i64.wrap (min (x.mag.length:Int) 1048576*min (y.mag.length:Int) 1048576)).tdiv 16)*1024)
def fracCostF (x:RF):Int:=IntKind.i64.wrap (fracSizeF x+lowCostF x.num x.den)
def bydF (n:Int):List Int→Bool
 | []=>false
 | x::xs=>if decide (IntKind.i64.wrap (n+x)>1048576) then true else bydF (IntKind.i64.wrap (n+x)) xs
theorem byd_yes {n:Int}{l:List Int}{j:Nat}(h:j<l.length)(h2:decide (IntKind.i64.wrap (n+l[j])>1048576)=true):true=bydF n (l.drop j):=by
 rw [qz h,bydF,h2]; rfl
theorem byd_no {n:Int}{l:List Int}{j:Nat}(h:j<l.length)(h2:decide (IntKind.i64.wrap (n+l[j])>1048576)=false):bydF n (l.drop j)=bydF (IntKind.i64.wrap (n+l[j])) (l.drop (j+1)):=by
 rw [qz h,bydF,h2]; rfl
theorem wi_nx {j m:Nat}(h:j<m)(hm:m≤9223372036854775807):IntKind.i64.wrap ((j:Int)+1)=((j+1:Nat):Int):=by rw [wi64 zo zo]; rfl
theorem slA_len {E:TypeId}{l:List As}(h:(SlA E D l).va.p B v w):l.length≤9223372036854775807:=by
 obtain ⟨cs,⟨_,A,c,ds,_,h1,h2,_⟩,_⟩:=h
 unfold maxLen at h2
 omega
theorem dz {E:TypeId}{α:Type}{f:α→As}{l:List α}(h:(SlA E D (l.map f)).va.p B v w):l.length≤9223372036854775807:=by
 have:=slA_len h
 rwa [qc] at this
theorem iH (x:RI):Cn Tryz.prog 76 [(RIA x).va] (In (intSizeF x)):=by
 refine Cn.intro Tryz.func76 G zk nq (λ B w0 a U=>?_)
 have U:=zn [(0,(RIA x).va)] [] U
 refine qa<|zg [] [⟨1,26,ptrH,some 0,_,none⟩] [.alc 0,.v 2 _] [.o 1] U (zW 0 G (zv G (a6 a5) o0)) (zz [(2,_)] [O 1 26 _] λ a w U=>?_)
 refine zt<|zg [η] [] [.adr 3 1 (.some 1) True,.v 4 _,.v 5 _,.v 6 _,.v 2 _] [.o 4] U (zO 0 G ar (zL 0 0 1 G bh (zv G (aM Tryz.underlying24 (vq 1 G)) (zv G (aJ a5 (vq 2 G) (G)) (zA 3 G o0))))) (zz [(2,_)] [O 1 26 _] λ a w U=>?_)
 refine a4<|qe<|aj ?_ (ai G U (zm 0 G))
 exact ay
theorem fracSize_c (x:RF):Cn Tryz.prog 43 [(RFA x).va] (In (fracSizeF x)):=by
 refine Cn.intro Tryz.func43 G zk nq (λ B w0 a U=>?_)
 have U:=zn [(0,(RFA x).va)] [] U
 refine qa<|zg [] [⟨1,28,ptrH,some 0,_,none⟩] [.alc 0,.v 2 _] [.o 1] U (zW 0 G (zv G (a6 a5) o0)) (zz [(2,_)] [O 1 28 _] λ a w U=>?_)
 refine zt<|zgd [[],[0],[0,1],[],[3],[0,1,2,3,4],[0,1,2,3,4,5],[0,1,2,3,4,5,6]] [none] [] [.adr 3 1 (.some 0) True,.v 4 _,.v 5 _,.adr 6 1 (.some 2) True,.v 7 _,.v 8 _,.v 9 _,.v 2 _] [.o 7] a7 U (zO 0 G bb (zL 0 0 0 G ap (zQ G (iH _) (.o (vq 1 G)) (zO 0 G aO (zL 3 0 1 G ap (zQ G (iH _) (.o (vq 4 G)) (zv G (aJ (vq 2 G) (vq 5 G) (G)) (zA 6 G o0)))))))) zk zk zk zk (zz [(2,_)] [O 1 28 _] λ a w U=>?_)
 refine a4<|qe<|aj ?_ (ai G U (zm 0 G))
 exact ay
theorem lowCost_c (x y:RI):Cn Tryz.prog 44 [(RIA x).va,(RIA y).va] (In (lowCostF x y)):=by
 refine Cn.intro Tryz.func44 G zk nq (λ B w0 a U=>?_)
 have U:=zn [(0,(RIA x).va),(1,(RIA y).va)] [] U
 refine qa<|zg [] [⟨2,26,ptrH,some 0,_,none⟩,⟨3,26,ptrH,some 1,_,none⟩] [.alc 0,.alc 1,.v 4 _] [.o 2] U (zW 0 G (zW 1 G (zv G (a6 a5) o0))) (zz [(4,_)] [O 2 26 _,O 3 26 _] λ a w U=>?_)
 refine zt<|zg [η,η] [] [.adr 5 2 (.some 1) True,.v 6 _,.v 7 _,.v 8 _,.adr 9 3 (.some 1) True,.v 10 _,.v 11 _,.v 12 _,.v 13 _,.v 14 _,.v 15 _,.v 4 _] [.o 11] U (zO 0 G ar (zL 0 0 1 G bh (zv G (aM Tryz.underlying24 (vq 1 G)) (zv G (r_min (vq 2 G) a5) (zO 1 G ar (zL 4 1 1 G bh (zv G (aM Tryz.underlying24 (vq 5 G)) (zv G (r_min (vq 6 G) a5) (zv G (r_mul (vq 3 G) (vq 7 G) (G)) (zv G (r_quo (vq 8 G) a5 zd (G)) (zv G (r_mul (vq 9 G) a5 (G)) (zA 10 G o0)))))))))))) (zz [(4,_)] [O 2 26 _,O 3 26 _] λ a w U=>?_)
 refine a4<|qe<|aj ?_ (ai G U (zm 0 G))
 exact ay
theorem dF (x:RF):Cn Tryz.prog 21 [(RFA x).va] (In (fracCostF x)):=by
 refine Cn.intro Tryz.func21 G zk nq (λ B w0 a U=>?_)
 have U:=zn [(0,(RFA x).va)] [] U
 refine qa<|zg [] [⟨1,28,ptrH,some 0,_,none⟩] [.alc 0,.v 2 _] [.o 1] U (zW 0 G (zv G (a6 a5) o0)) (zz [(2,_)] [O 1 28 _] λ a w U=>?_)
 refine zt<|zgd [[],[0],[],[2],[],[4],[0,1,2,3,4,5],[0,1,2,3,4,5,6],[0,1,2,3,4,5,6,7]] [none] [] [.v 3 _,.v 4 _,.adr 5 1 (.some 0) True,.v 6 _,.adr 7 1 (.some 2) True,.v 8 _,.v 9 _,.v 10 _,.v 2 _] [.o 8] a7 U (zl 0 G ac (zQ G (fracSize_c _) (.o (vq 0 G)) (zO 0 G bb (zL 2 0 0 G ap (zO 0 G aO (zL 4 0 1 G ap (zQ G (lowCost_c _ _) (.p (vq 3 G) (vq 5 G)) (zv G (aJ (vq 1 G) (vq 6 G) (G)) (zA 7 G o0))))))))) zk zk zk zk (zz [(2,_)] [O 1 28 _] λ a w U=>?_)
 refine a4<|qe<|aj ?_ (ai G U (zm 0 G))
 exact ay
theorem beyond_c (l:List Int):Cn Tryz.prog 6 [(SlA 3 [] (l.map (NumA .i64))).va] (Bo (bydF 0 l)):=by
 refine Cn.intro Tryz.func6 G zk nq (λ B w0 a U=>?_)
 have U:=zn [(0,(SlA 3 [] (l.map (NumA .i64))).va)] [] U
 have hl:=dz (U.vals (0,(SlA 3 [] (l.map (NumA .i64))).va) (zm 0 rfl))
 refine qa<|zh [.v 2 _] [.g 0,.o 0] U (zv G (a6 aH) o0) (zz [(0,_),(2,_)] [] λ a w U=>?_)
 refine zt<|zh [.v 3 _] [.g 0,.g 1,.o 0] U (zv G (a6 a5) o0) (zz [(0,_),(2,_),(3,_)] [] λ a w U=>?_)
 refine zt<|qa<|zh [.v 4 _] [.g 0,.g 1,.g 2,.o 0] U (zv G (a6 a5) o0) (zz [(0,_),(2,_),(3,_),(4,_)] [] λ a w U=>?_)
 refine a4<|qq ?_
 have U:=St.sel U [0,2,3]
 refine wp_loop_ghost (λ n a w=>∃ (j:Nat) (m:Int),(n+j=l.length∧bydF 0 l=bydF m (l.drop j))∧St B w0 19 [(0,(SlA 3 [] (l.map (NumA .i64))).va),(3,In m),(4,In (j:Nat))] [] a w) (l.length) ?_ ?_
 ·exact ⟨0,0,⟨by omega,rfl⟩,U⟩
 intro n a w hI
 obtain ⟨j,m,⟨hn,hm⟩,U⟩:=hI
 refine qa<|qa<|zh [.v 5 _,.v 6 _,.v 7 _,.v 8 _] [.g 0,.g 1,.g 2,.o 3] U (zM 2 G (zM 0 G (zv G (bn Tryz.underlying31 (vq 1 G)) (zv G (aX (vq 0 G) (vq 2 G)) o0)))) (zz [(0,_),(3,_),(4,_),(8,_)] [] λ a w U=>?_)
 refine a4<|a9 U (zm 3 G) (λ hb0=>?_) (λ hb0=>?_)
 ·have hj:j<l.length:=by rw [qc] at hb0; simp at hb0; omega
  refine qk<|zt<|qq<|qa<|zh [.v 11 _,.v 12 _,.v 13 _,.v 14 _,.v 15 _,.v 16 _,.v 3 _] [.g 0,.g 2,.o 6] U (zM 1 G (zM 0 G (zM 2 G (zv G (cn eT (cE λ _=>rfl) (vq 1 G) (vq 2 G) (bI hj)) (zv G (am (vq 3 G) ty_3) (zv G (aJ (vq 0 G) (vq 4 G) (G)) (zA 5 G o0))))))) (zz [(0,_),(4,_),(3,_)] [] λ a w U=>?_)
  refine zt<|zh [.v 17 _,.v 18 _] [.g 0,.g 1,.g 2,.o 1] U (zM 2 G (zv G (cD (vq 0 G) a5) o0)) (zz [(0,_),(4,_),(3,_),(18,_)] [] λ a w U=>?_)
  refine a4<|a9 U (zm 3 G) (λ hb1=>?_) (λ hb1=>?_)
  ·refine qa<|zh [.v 2 _] [.g 0,.g 1,.g 2,.o 0] U (zv G (a6 aH) o0) (zz [(0,_),(4,_),(3,_),(2,_)] [] λ a w U=>?_)
   refine a4<|qe<|aD ?_
   refine ab ?_
   refine ab ?_
   refine aD ?_
   refine ab ?_
   refine aj ?_ (ai G U (zm 3 G))
   exact bA (qt Bo ((byd_yes hj hb1).trans hm.symm))
  ·refine qk<|al ?_
   refine a4<|zh [.v 9 _,.v 10 _,.v 4 _] [.g 0,.g 2,.o 2] U (zM 1 G (zv G (aJ (vq 0 G) a5 (wi_nx hj hl)) (zA 1 G o0))) (zz [(0,_),(3,_),(4,_)] [] λ a w U=>?_)
   refine a4 ?_
   have U:=St.sel U [0,1,2]
   exact ⟨n-1,by omega,j+1,_,⟨by omega,hm.trans (byd_no hj hb1)⟩,U⟩
 ·obtain rfl:j=l.length:=by rw [qc] at hb0; simp at hb0; omega
  refine za<|ak<|ak<|aC<|zt<|zh [.v 2 _] [.o 0] U (zv G (a6 aH) o0) (zz [(2,_)] [] λ a w U=>?_)
  refine a4<|qe<|aj ?_ (ai G U (zm 0 G))
  exact bA (qt Bo (by rw [hm,qV (qf _)]; rfl))
theorem same_yes {a b:RI}(hn:a.neg=b.neg)(h:a.mag=b.mag):true=decide (a=b):=by
 cases a; cases b; simp_all
theorem same_no1 {a b:RI}(h:((a.neg != b.neg) || (((a.mag.length:Nat):Int) != ((b.mag.length:Nat):Int)))=true):false=decide (a=b):=by
 symm
 apply zJ
 rintro rfl
 simp at h
theorem same_two {a b:RI}(h:((a.neg != b.neg) || (((a.mag.length:Nat):Int) != ((b.mag.length:Nat):Int)))=false):a.neg=b.neg∧a.mag.length=b.mag.length:=by
 simp only [qI,bne_eq_false_iff_eq] at h
 exact ⟨h.1,by omega⟩
theorem same_no2 {a b:RI}{j:Nat}(h1:j<a.mag.length)(h2:j<b.mag.length)(h:(((a.mag[j]:Nat):Int) != ((b.mag[j]:Nat):Int))=true):false=decide (a=b):=by
 symm
 apply zJ
 rintro rfl
 simp at h
theorem take_eq {l m:List Nat}{j:Nat}(h1:j<l.length)(h2:j<m.length)(h:l.take j=m.take j)(h3:(((l[j]:Nat):Int) != ((m[j]:Nat):Int))=false):l.take (j+1)=m.take (j+1):=by
 rw [qu h1,qu h2,h]
 simp only [bne_eq_false_iff_eq] at h3
 rw [show l[j]=m[j] by omega]
theorem rf_eq {a b:RF}:(decide (a.num=b.num)&&decide (a.den=b.den))=decide (a=b):=by
 cases a; cases b; rw [Bool.eq_iff_iff]; simp
theorem iz (x y:RI):Cn Tryz.prog 34 [(RIA x).va,(RIA y).va] (Bo (decide (x=y))):=by
 refine Cn.intro Tryz.func34 G zk nq (λ B w0 a U=>?_)
 have U:=zn [(0,(RIA x).va),(1,(RIA y).va)] [] U
 have hxk:=gH (U.vals (0,(RIA x).va) (zm 0 rfl))
 refine qa<|zg [] [⟨2,26,ptrH,some 0,_,none⟩,⟨3,26,ptrH,some 1,_,none⟩] [.alc 0,.alc 1,.v 4 _] [.o 2] U (zW 0 G (zW 1 G (zv G (a6 aH) o0))) (zz [(4,_)] [O 2 26 _,O 3 26 _] λ a w U=>?_)
 refine zt<|qa<|zg [η,η] [] [.adr 6 2 (.some 0) True,.v 7 _,.adr 8 3 (.some 0) True,.v 9 _,.v 10 _,.v 11 _,.adr 12 2 (.some 1) (_=false),.f 13 _,.f 14 _,.adr 15 3 (.some 1) (_=false),.f 16 _,.f 17 _,.f 18 _,.v 19 _] [.g 0,.o 13] U (zO 0 G aP (zL 0 0 0 G ty_4 (zO 1 G aP (zL 2 1 0 G ty_4 (zv G (r_neqb zk (vq 1 G) (vq 3 G)) (zv G (a8 (vq 4 G)) (zC 5 0 G ar (zB 5 G (λ hg=>ax 6 G zk hg (lz0 0 G) (Sub.part 1 G G) bh) (zB 5 G (λ hg=>aM Tryz.underlying24 (aa (vq 7 G) hg)) (zC 5 1 G ar (zB 5 G (λ hg=>ax 9 G zk hg (lz0 1 G) (Sub.part 1 G G) bh) (zB 5 G (λ hg=>aM Tryz.underlying24 (aa (vq 10 G) hg)) (zB 5 G (λ hg=>bz (aa (vq 8 G) hg) (aa (vq 11 G) hg)) (zv G (r_or (vq 5 G) (vq 12 G)) o0)))))))))))))) (zz [(4,_),(19,_)] [O 2 26 _,O 3 26 _] λ a w U=>?_)
 refine a4<|a9 U (zm 1 G) (λ hb0=>?_) (λ hb0=>?_)
 ·refine qa<|zg [η,η] [] [.v 4 _] [.o 0] U (zv G (a6 aH) o0) (zz [(4,_)] [O 2 26 _,O 3 26 _] λ a w U=>?_)
  refine a4<|qe<|ab ?_
  refine aj ?_ (ai G U (zm 0 G))
  exact bA (qt Bo (same_no1 hb0))
 ·obtain ⟨hn1,hl⟩:=same_two hb0
  refine qk<|zt<|qa<|zg [η,η] [] [.v 5 _] [.g 0,.o 0] U (zv G (a6 a5) o0) (zz [(4,_),(5,_)] [O 2 26 _,O 3 26 _] λ a w U=>?_)
  refine a4<|qq ?_
  have U:=St.sel U [1]
  refine wp_loop_ghost (λ n a w=>∃ j:Nat,(n+j=x.mag.length∧x.mag.take j=y.mag.take j)∧St B w0 38 [(5,In (j:Nat))] [⟨2,26,ptrH,RIA x⟩,⟨3,26,ptrH,RIA y⟩] a w) (x.mag.length) ?_ ?_
  ·exact ⟨0,⟨by omega,rfl⟩,U⟩
  intro n a w hI
  obtain ⟨j,⟨hn,ht⟩,U⟩:=hI
  refine qa<|qa<|zg [η,η] [] [.v 20 _,.adr 21 2 (.some 1) True,.v 22 _,.v 23 _,.v 24 _] [.g 0,.o 4] U (zM 0 G (zO 0 G ar (zL 1 0 1 G bh (zv G (aM Tryz.underlying24 (vq 2 G)) (zv G (aX (vq 0 G) (vq 3 G)) o0))))) (zz [(5,_),(24,_)] [O 2 26 _,O 3 26 _] λ a w U=>?_)
  refine a4<|a9 U (zm 1 G) (λ hb1=>?_) (λ hb1=>?_)
  ·have hj:j<x.mag.length:=by simp at hb1; omega
   refine qk<|zt<|qq<|qa<|zgd [[],[0],[],[0,1,2],[0,1,2,3],[],[5],[],[5,6,7],[5,6,7,8],[0,1,2,3,4,5,6,7,8,9]] [none,none] [] [.adr 27 2 (.some 1) True,.v 28 _,.v 29 _,.v 30 _,.v 31 _,.adr 32 3 (.some 1) True,.v 33 _,.v 34 _,.v 35 _,.v 36 _,.v 37 _] [.g 0,.o 10] a7 U (zO 0 G ar (zL 0 0 1 G bh (zM 0 G (zv G (bJ aT (vq 1 G) (vq 2 G) zo) (zv G (am (vq 3 G) aE) (zO 1 G ar (zL 5 1 1 G bh (zM 0 G (zv G (bJ aT (vq 6 G) (vq 7 G) zo) (zv G (am (vq 8 G) aE) (zv G (bz (vq 4 G) (vq 9 G)) o0))))))))))) zk zk zk zk (zz [(5,_),(37,_)] [O 2 26 _,O 3 26 _] λ a w U=>?_)
   refine a4<|a9 U (zm 1 G) (λ hb2=>?_) (λ hb2=>?_)
   ·refine qa<|zg [η,η] [] [.v 4 _] [.g 0,.o 0] U (zv G (a6 aH) o0) (zz [(5,_),(4,_)] [O 2 26 _,O 3 26 _] λ a w U=>?_)
    refine a4<|qe<|aD ?_
    refine ab ?_
    refine ab ?_
    refine aD ?_
    refine ab ?_
    refine aj ?_ (ai G U (zm 1 G))
    exact bA (qt Bo (same_no2 hj zo hb2))
   ·refine qk<|al ?_
    refine a4<|zg [η,η] [] [.v 25 _,.v 26 _,.v 5 _] [.o 2] U (zM 0 G (zv G (aJ (vq 0 G) a5 (wi_nx hj hxk.2)) (zA 1 G o0))) (zz [(5,_)] [O 2 26 _,O 3 26 _] λ a w U=>?_)
    refine a4 ?_
    have U:=St.sel U [0]
    exact ⟨n-1,by omega,j+1,⟨by omega,take_eq hj zo ht hb2⟩,U⟩
  ·obtain rfl:j=x.mag.length:=by simp at hb1; omega
   refine za<|ak<|ak<|aC<|zt<|zg [η,η] [] [.v 4 _] [.o 0] U (zv G (a6 aH) o0) (zz [(4,_)] [O 2 26 _,O 3 26 _] λ a w U=>?_)
   refine a4<|qe<|aj ?_ (ai G U (zm 0 G))
   exact bA (qt Bo (same_yes hn1 (by rw [qE (qf _),qE zo] at ht; exact ht)))
theorem c5 (x y:RF):Cn Tryz.prog 13 [(RFA x).va,(RFA y).va] (Bo (decide (x=y))):=by
 refine Cn.intro Tryz.func13 G zk nq (λ B w0 a U=>?_)
 have U:=zn [(0,(RFA x).va),(1,(RFA y).va)] [] U
 refine qa<|zg [] [⟨2,28,ptrH,some 0,_,none⟩,⟨3,28,ptrH,some 1,_,none⟩] [.alc 0,.alc 1,.v 4 _] [.o 2] U (zW 0 G (zW 1 G (zv G (a6 aH) o0))) (zz [(4,_)] [O 2 28 _,O 3 28 _] λ a w U=>?_)
 refine zt<|zg [η,η] [] [.adr 5 2 (.some 0) True,.v 6 _,.adr 7 3 (.some 0) True,.v 8 _,.v 9 _,.v 10 _,.adr 11 2 (.some 2) (_=true),.t 12 _,.adr 13 3 (.some 2) (_=true),.t 14 _,.t 15 _,.v 16 _,.v 4 _] [.o 12] U (zO 0 G bb (zL 0 0 0 G ap (zO 1 G bb (zL 2 1 0 G ap (zQ G (iz _ _) (.p (vq 1 G) (vq 3 G)) (zv G (a8 (vq 4 G)) (zC 5 0 G aO (zB 5 G (λ hg=>ax 6 G zk hg (lz0 0 G) (Sub.part 1 G G) ap) (zC 5 1 G aO (zB 5 G (λ hg=>ax 8 G zk hg (lz0 1 G) (Sub.part 1 G G) ap) (zB 5 G (λ hg=>aW (iz _ _) (.p (aa (vq 7 G) hg) (aa (vq 9 G) hg))) (zv G (bF (vq 5 G) (vq 10 G)) (zA 11 G o0))))))))))))) (zz [(4,_)] [O 2 28 _,O 3 28 _] λ a w U=>?_)
 refine a4<|qe<|aj ?_ (ai G U (zm 0 G))
 exact bA (qt Bo rf_eq)
open Go.ChangeShapes Go.WideShapes Go.ChangeAt
theorem cat_of {B:Nat}{w:World}:∀ {l:List As} {cs:List Value},cs.length=(l.map (·.n)).sum→(∀ (k:Nat) (A:As),l[k]?=some A→A.p B ((cs.drop (offs l k)).take A.n) w)→(cat l).p B cs w
 | [],cs,hl,_=>by
  have:cs=[]:=jD.1 (by simpa using hl)
  subst this
  exact ⟨[],rfl,.nil⟩
 | A::l,cs,hl,h=>by
  simp only [qF,zP] at hl
  have h0:=h 0 A rfl
  simp only [offs,jr,xD,List.sum_nil,xZ] at h0
  obtain ⟨ps,e,hps⟩:=cat_of (l:=l) (cs:=cs.drop A.n) (B:=B) (w:=w) (by simp; omega) λ k A' hk=>by
   have:=h (k+1) A' (by simpa using hk)
   simp only [offs,List.take_succ_cons,qF,zP] at this
   rw [List.drop_drop]
   exact this
  exact ⟨cs.take A.n::ps,by rw [zK,← e,xU],.cons h0 hps⟩
section
variable {H:Type} {enc:TypeId × Value→H} {w:World} {base:Nat} {spare:Nat→Bool} {held:Bool} {fuel:Nat} {cs:List Value} {x:DataW H × List MemPlace}
theorem rd_mg (h:DataW.trod enc Tryz.prog w base spare held fuel 24 cs=some x):∃ l,(MgA l).p w.heap.size cs w:=by
 rcases open_ints Tryz.underlying24 Tryz.underlying113 zk h with ⟨hcs,_⟩ | ⟨a,len,cap,zs,rfl,_,hl,hm,hz,_,hcell,hwz⟩
 ·subst hcs
  exact ⟨[],fE _ _⟩
 ·have hzl:len≤zs.length:=by rw [hz]; split <;> omega
  have hnn:∀ n∈zs,0≤n∧n<4294967296:=λ n hn=>by
   have:=hwz n hn
   simp [Lit.wf,IntKind.min,IntKind.max,IntKind.signed,IntKind.bits] at this
   omega
  have hlen:((zs.take len).map Int.toNat).length=len:=by simp; omega
  refine ⟨(zs.take len).map Int.toNat,?_⟩
  have hM:Mag w.heap.size w (some a) cap ((zs.take len).map Int.toNat):=by
   refine ⟨λ y hy=>?_,by omega,hm,λ hn=>?_⟩
   ·obtain ⟨n,hn,rfl⟩:=qp.1 hy
    have:=hnn n (z6 hn)
    omega
   ·obtain ⟨b,off,rfl,hc⟩:=ints_at hcell zo
    have hb:b<w.heap.size:=World.block_lt_of_cell? w _ (hc 0 zo)
    refine ⟨b,off,rfl,hb,.inl hb,λ j hj=>?_⟩
    rw [hc j zo]
    have hjz:j<zs.length:=by omega
    have:=hnn _ (qi hjz)
    congr 2
    simp only [List.getElem_map,j0]
    rw [Int.toNat_of_nonneg this.1]
    simp [List.getD_eq_getElem?_getD,List.getElem?_eq_getElem hjz]
  obtain ⟨ds,hp,hv⟩:=fC hM hlen.symm
  have hd:=(MgA ((zs.take len).map Int.toNat)).len _ _ _ hp
  match ds,hd with
  | [d],_ =>
   have:d=.slice (some a) len cap:=hv.symm
   subst this
   exact hp
theorem cat_two {A0 A1:As}(h0:A0.p B ((cs.drop 0).take A0.n) w)(h1:A1.p B ((cs.drop A0.n).take A1.n) w)(hl:cs.length=A0.n+A1.n):(cat [A0,A1]).p B cs w :=
 cat_of (by simpa using hl) λ k A hk=>by
  match k,hk with
  | 0,hk=>simp at hk; subst hk; exact h0
  | 1,hk=>simp at hk; subst hk; simpa [offs] using h1
theorem rd_bo (h:DataW.trod enc Tryz.prog w base spare held fuel 4 cs=some x):∃ b,(BoA b).p w.heap.size cs w:=by
 obtain ⟨b,hb,_⟩:=DataW.trod_bool Tryz.underlying4 h
 exact ⟨b,hb⟩
theorem rd_ri (h:DataW.trod enc Tryz.prog w base spare held fuel 26 cs=some x):∃ y,(RIA y).p w.heap.size cs w:=by
 obtain ⟨y0,y1,n,_,hl,h0,h1⟩:=trod_struct2 Tryz.underlying26 h
 have hl':cs.length=2:=hl.trans zk
 have c0:Tryz.prog.cellsOf 4=1:=by kernel_rfl
 have c1:Tryz.prog.cellsOf 24=1:=by kernel_rfl
 simp only [c0,c1] at h0 h1
 obtain ⟨a,ha⟩:=rd_bo h0
 obtain ⟨b,hb⟩:=rd_mg h1
 exact ⟨⟨a,b⟩,cat_two ha hb hl'⟩
theorem rd_rf (h:DataW.trod enc Tryz.prog w base spare held fuel 28 cs=some x):∃ y,(RFA y).p w.heap.size cs w:=by
 obtain ⟨y0,y1,n,_,hl,h0,h1⟩:=trod_struct2 Tryz.underlying28 h
 have hl':cs.length=4:=hl.trans zk
 have c0:Tryz.prog.cellsOf 26=2:=by kernel_rfl
 simp only [c0] at h0 h1
 obtain ⟨a,ha⟩:=rd_ri h0
 obtain ⟨b,hb⟩:=rd_ri h1
 exact ⟨⟨a,b⟩,cat_two ha hb hl'⟩
theorem arg_of {α:Type}{A:α→As}{t:TypeId}{fs:Array Field}{r:Reach}{b0:Nat}{d:DataW H}{p:List MemPlace}(hag:∀ y,(A y).ag=true)(ht:P.underlying t=some (.struct fs))
  (rd:∀ {fuel:Nat} {cs:List Value} {x:DataW H × List MemPlace},DataW.trod enc P w base spare held fuel t cs=some x→∃ y,(A y).p w.heap.size cs w)
  (hv:Value.okWide P w r b0 t v) (h:DataW.Trod enc P w base spare held t v d p):∃ y,(A y).va.p w.heap.size v w:=by
 obtain ⟨cs,hcs,_⟩:=okWide_struct ht hv
 subst hcs
 obtain ⟨fuel,hf⟩:=h
 obtain ⟨y,hy⟩:=rd hf
 refine ⟨y,cs.toList,hy,?_⟩
 unfold shape
 rw [hag y,ql rfl]
end
theorem cmF_of {a b:Rat}(ha:longQ a=false)(hb:longQ b=false):cmF (rfOf a) (rfOf b)=cmQ a b:=by
 rw [cmF,okX_of,okX_of,ha,hb,fj,fj]; rfl
theorem div_pos {x y:Rat}(h:0<x)(h':0<y):0<x/y:=Rat.mul_pos h (Rat.inv_pos.2 h')
theorem toM_of (m:MQ):toM (rmOf m)=m:=by show (⟨toQ (rfOf m.a),toQ (rfOf m.b),toQ (rfOf m.c),toQ (rfOf m.d)⟩:MQ)=m; rw [fj,fj,fj,fj]
def powF (m:RM):RF × Int:=if okM m then ansF (-(toM m).c) else (rf0,1)
theorem chk1 {c:Bool}:((if c then (0:Int) else 1) != 0) = !c:=by cases c <;> rfl
theorem im1_q {c:Nat}{x:Rat}(hc:c≤549755813888):Cn Tryz.prog 70 [Qs c x] (FrR (ansF x)):=by
 refine Cn.intro Tryz.func70 G zk nq (λ B w0 a U=>?_)
 have U:=zn [(0,Qs c x)] [] U
 refine qa<|zg [] [⟨1,28,ptrH,some 0,_,none⟩,⟨2,28,ptrH,some 1,_,none⟩] [.alc 0,.alc 1,.v 3 _] [.o 2] U (zW 0 G (zY G (Str.zero aA) (zv G (a6 a5) o0))) (zz [(3,_)] [O 1 28 _,O 2 28 _] λ a w U=>?_)
 refine zt<|qa<|zg [η,η] [] [.v 5 _,.v 6 _,.v 7 _,.v 4 _] [.g 0,.o 3] U (zl 0 G ac (zv G (bB (D:=[U32]) (l:=[_]) (xs:=[.tmp 5]) (cU zk) dM zk (n_ok zk) nq nq nq (.o (vq 0 G)) G G) (zQ G (fg [x] (.cons ⟨_,rfl⟩ .nil) nq) (.o (vq 1 G)) (zA 2 G o0)))) (zz [(3,_),(4,_)] [O 1 28 _,O 2 28 _] λ a w U=>?_)
 refine zt<|zg [η,η] [] [.v 8 _,.v 9 _] [.g 0,.g 1,.o 1] U (zM 1 G (zv G (bz (vq 0 G) a5) o0)) (zz [(3,_),(4,_),(9,_)] [O 1 28 _,O 2 28 _] λ a w U=>?_)
 refine a4<|a9 U (zm 2 G) (λ hb0=>?_) (λ hb0=>?_)
 ·rw [dB,ne0] at hb0
  refine qa<|zg [η,some (2,_)] [] [.v 10 _,.v 11 _,.sto 1,.v 3 _] [.o 3] U (zv G (aI (qs:=[]) aA .nil) (zM 1 G (zS 0 G ac (zA 1 G o0)))) (zz [(3,_)] [O 1 28 _,O 2 28 _] λ a w U=>?_)
  refine a4<|qe<|ab ?_
  refine aj ?_ (aB (rs:=[.cell 2 28,.tmp 3]) G U (.cell (zm 1 G) ac (.tmp (zm 0 G) .nil)) zd)
  rw [ansF,ql hb0]; exact tu2w ay (bA (by rw [dB,hb0]; rfl))
 ·rw [dB,ne0] at hb0
  refine qk<|zt<|zg [η,some (2,_)] [] [.v 12 _,.v 13 _,.sto 1,.v 3 _] [.o 3] U (zl 0 G ac (zQ G (iO zo) (.o (vq 0 G)) (zS 1 G ac (zv G (a6 a5) o0)))) (zz [(3,_)] [O 1 28 _,O 2 28 _] λ a w U=>?_)
  refine a4<|qe<|aj ?_ (aB (rs:=[.cell 2 28,.tmp 3]) G U (.cell (zm 1 G) ac (.tmp (zm 0 G) .nil)) zd)
  rw [ansF,qj (by rw [hb0]; decide)]; exact tu2w rq_wk ay
theorem okM_all {m:RM}(h:okM m=true):[m.a,m.b,m.c,m.d].all okX=true:=(okM_q h).1
theorem power_c (m:RM):Cn Tryz.prog 33 [(RMA m).va] (FrR (powF m)):=by
 refine Cn.intro Tryz.func33 G zk nq (λ B w0 a U=>?_)
 have U:=zn [(0,(RMA m).va)] [] U
 refine qa<|zg [] [⟨1,79,ptrH,some 0,_,none⟩,⟨2,28,ptrH,some 1,_,none⟩] [.alc 0,.alc 1,.v 3 _] [.o 2] U (zW 0 G (zY G (Str.zero aA) (zv G (a6 a5) o0))) (zz [(3,_)] [O 1 79 _,O 2 28 _] λ a w U=>?_)
 refine zt<|qa<|zg [η,η] [] [.v 4 _,.v 5 _,.v 6 _] [.g 0,.o 2] U (zl 0 G bf (zQ G (rayCheck_c _) (.o (vq 0 G)) (zv G (bz (vq 1 G) a5) o0))) (zz [(3,_),(6,_)] [O 1 79 _,O 2 28 _] λ a w U=>?_)
 refine a4<|a9 U (zm 1 G) (λ hb0=>?_) (λ hb0=>?_)
 ·rw [chk1,qv] at hb0
  refine qa<|zg [η,some (1,_)] [] [.v 7 _,.sto 1,.v 3 _] [.o 2] U (zv G (aI (qs:=[]) aA .nil) (zS 0 G ac (zv G (a6 a5) o0))) (zz [(3,_)] [O 1 79 _,O 2 28 _] λ a w U=>?_)
  refine a4<|qe<|ab ?_
  refine aj ?_ (aB (rs:=[.cell 2 28,.tmp 3]) G U (.cell (zm 1 G) ac (.tmp (zm 0 G) .nil)) zd)
  rw [powF,qj (by rw [hb0]; decide)]; exact ay
 ·rw [chk1,xG] at hb0
  have U:=St.wkL U 0 rfl (qm_x (okM_all hb0))
  refine qk<|zt<|zg [η,some (6,_)] [] [.adr 8 1 (.some 8) True,.v 9 _,.v 10 _,.v 11 _,.v 12 _,.v 13 _,.sto 1,.v 3 _] [.o 7] U (zO 0 G c4 (zL 0 0 2 G ac (zQ G (e8 zd) (.o (vq 1 G)) (zQ G (im1_q zd) (.o (vq 2 G)) (zv G (eh (vq 3 G)) (zv G (ee (vq 3 G)) (zS 4 G ac (zA 5 G o0)))))))) (zz [(3,_)] [O 1 79 _,O 2 28 _] λ a w U=>?_)
  refine a4<|qe<|aj ?_ (aB (rs:=[.cell 2 28,.tmp 3]) G U (.cell (zm 1 G) ac (.tmp (zm 0 G) .nil)) zd)
  rw [powF,ql hb0]; exact ay
end Go.Proofs.YtlakjmncfooodaaGreat
