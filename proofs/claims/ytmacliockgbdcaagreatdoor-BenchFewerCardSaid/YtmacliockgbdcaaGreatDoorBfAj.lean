import Derived.Test.YtmacliockgbdcaaGreatDoorBfAa
import Derived.Test.YtmacliockgbdcaaGreatDoorBfAc
import Derived.Test.YtmacliockgbdcaaGreatDoorBfAi
import Derived.ProofKit
import Derived.OpenShut
import Derived.ChangeOld
import Derived.Below
import Derived.WalkKit
set_option linter.unusedVariables false
set_option linter.unusedSimpArgs false
set_option linter.unusedSectionVars false
set_option maxRecDepth 100000
namespace Go.Proofs.YtmacliockgbdcaaGreatDoor
open Go Go.RowKit
def okLb (l:List Nat):Bool:=l.all fun x=>decide (x<4294967296)
theorem okLb_iff {l:List Nat}:okLb l=true↔okL l:=by simp [okLb,okL]
def okX (x:RF):Bool:=okLb x.num.mag&&okLb x.den.mag&&okF x
def zI (x:RI):Int:=if x.neg then -(val x.mag:Nat) else (val x.mag:Nat)
def toQ (x:RF):Rat:=Rat.divInt (zI x.num) (zI x.den)
theorem CZ (z:Int):zI (riOf z)=z:=by
 unfold zI
 rw [bx]
 by_cases h:z<0 <;> simp [riOf,h] <;> omega
theorem Dk (r:Rat):toQ (rfOf r)=r:=by
 show Rat.divInt (zI (riOf r.num)) (zI (riOf (r.den:Int)))=r
 rw [CZ,CZ]
 exact Rat.num_divInt_den r
theorem p9 {x:RF}(h:okL x.num.mag∧okL x.den.mag):okX x=okF x:=by rw [okX,okLb_iff.2 h.1,okLb_iff.2 h.2]; rfl
theorem okX_q {x:RF}(h:okX x=true):x=rfOf (toQ x)∧lz (toQ x).num≤2048∧lz ((toQ x).den:Int)≤2048:=by
 simp only [okX,Bool.and_eq_true] at h
 obtain ⟨r,rfl,h1⟩:=okF_q ⟨okLb_iff.1 h.1.1,okLb_iff.1 h.1.2⟩ h.2
 rw [Dk]
 exact ⟨rfl,h1⟩
abbrev rf0:RF:=⟨⟨false,[]⟩,⟨false,[]⟩⟩
theorem xi : ∃ fn, Tryz.prog.funcs[178]? = some fn ∧ (fn.name == "runtime.NumGoroutine") = false ∧ fn.body.isNone = false := ⟨_, Tryz.func178, by kernel_rfl, by kernel_rfl⟩
theorem Cz (x:RF):Cn Tryz.prog 178 [(RFA x).va] (In (if okX x then 0 else 1)) :=
 Cn.know (c:=okL x.num.mag∧okL x.den.mag) xi (fun B w args ha=>by cases ha with | cons h1 _=>exact kF h1) fun h=>(xy x.num x.den).post (by rw [p9 h])
theorem ok_no {l:List RF}{j:Nat}(h:j<l.length)(h2:((if okX l[j] then (0:Int) else 1) != 0)=true):false=l.all okX:=by
 have h3:okX l[j]=false:=by cases hh:okX l[j] <;> simp [hh] at h2 ⊢
 exact (List.all_eq_false.2 ⟨_,List.getElem_mem h,by simp [h3]⟩).symm
theorem yi {l:List RF}{j:Nat}(h:j<l.length)(h1:(l.take j).all okX=true)(h2:((if okX l[j] then (0:Int) else 1) != 0)=false):(l.take (j+1)).all okX=true:=by
 rw [List.take_succ_eq_append_getElem h,List.all_append,h1]
 simp [ok1 h2]
theorem pY (xs:List RF)(hl:xs.length≤1099511627776):Cn Tryz.prog 107 [(SlA 27 [U32] (xs.map RFA)).va] (Bo (xs.all okX)):=by
 refine Cn.introW Tryz.func107 rfl zk nq (.cons (ns (fun A hA=>by obtain ⟨x,_,rfl⟩:=List.mem_map.1 hA; exact cY x)).va .nil) (eF _).va (fun B w0 a hB0 U=>?_)
 have U:=zn [(0,(SlO 27 [U32] (xs.map RFA) True).va)] [] U
 refine wp_seq<|zh [.v 2 _] [.g 0,.o 0] U (zv G (a9 aK) o0) (zz [(0,_),(2,_)] [] fun a w U=>?_)
 refine zt<|wp_seq<|zh [.v 5 _,.v 6 _,.v 7 _] [.g 1,.o 0,.o 1,.o 2] U (zM 0 G (zv G (be Tryz.underlying128 (cE (aL (vq 0 G)))) (zv G (ae a8) o0))) (zz [(2,_),(5,_),(6,_),(7,_)] [] fun a w U=>?_)
 refine a7<|wp_block ?_
 have U:=St.sel U [1,2,3]
 refine wp_loop_ghost (fun n a w=>∃ j:Nat,(n+j=xs.length∧(xs.take j).all okX=true)∧St B w0 15 [(5,(SlO 27 [U32] (xs.map RFA) True).va),(6,In (xs.length:Nat)),(7,In (j:Nat))] [] a w) (xs.length) ?_ ?_
 ·exact ⟨0,⟨by omega,rfl⟩,by rw [List.length_map] at U; exact U⟩
 intro n a w hI
 obtain ⟨j,⟨hn,hno⟩,U⟩:=hI
 refine wp_seq<|zh [.v 8 _] [.g 0,.g 1,.g 2,.o 0] U (zv G (aN (gq 2 G) (gq 1 G)) o0) (zz [(5,_),(6,_),(7,_),(8,_)] [] fun a w U=>?_)
 refine zt<|ah U (zm 3 G) (fun hb0=>?_) (fun hb0=>?_)
 ·have hj:j<xs.length:=by simp at hb0; omega
  refine wp_skip<|zt<|wp_block<|wp_seq<|zg [] [⟨4,27,ptrH,some 2,_,some (3,_)⟩] [.v 9 _,.v 10 _,.alc 0,.sto 0] [.g 0,.g 1,.g 2] U (zv G (cB fS (fM fun _=>rfl) (cE (aL (gq 0 G))) (gq 2 G) (dD hj)) (zv G (aq (vq 0 G) ax) (oc (aJ G G G (Str.zero b4)) (oc (aA G G G (vq 1 G) ax (Eq.trans (b:=4) G G)) o0)))) (zz [(5,_),(6,_),(7,_)] [O 4 27 _] fun a w U=>?_)
  refine zt<|zg [none] [] [.v 11 _,.v 12 _,.v 13 _] [.g 0,.g 1,.g 2,.o 2] U (zl 0 G ax (zv G (aa (xs:=[.tmp 11]) (Cz _) (.cons (vq 0 G) .nil)) (zv G (cI (vq 1 G) a8) o0))) (zz [(5,_),(6,_),(7,_),(13,_)] [O 4 27 _] fun a w U=>?_)
  refine a7<|ah U (zm 3 G) (fun hb1=>?_) (fun hb1=>?_)
  ·refine wp_seq<|zg [none] [] [.v 2 _] [.g 0,.g 1,.g 2,.o 0] U (zv G (a9 aK) o0) (zz [(5,_),(6,_),(7,_),(2,_)] [O 4 27 _] fun a w U=>?_)
   refine a7<|wp_ret<|aV ?_
   refine ap ?_
   refine ap ?_
   refine aV ?_
   refine ap ?_
   refine aB ?_ (am G U (zm 3 G))
   rw [← ok_no hj hb1]
  ·refine wp_skip<|ao ?_
   refine a7<|zg [none] [] [.v 14 _,.v 7 _] [.g 0,.g 1,.o 1] U (zv G (aR (gq 2 G) a8 (aX zo)) (zv G (ae (vq 0 G)) o0)) (zz [(5,_),(6,_),(7,_)] [O 4 27 _] fun a w U=>?_)
   refine a7 ?_
   have U:=St.sel U [0,1,2]
   have U:=St.selL U []
   exact ⟨n-1,by omega,j+1,⟨by omega,yi hj hno hb1⟩,U⟩
 ·obtain rfl:j=xs.length:=by simp at hb0; omega
  refine wp_exit<|ak<|ak<|aC<|zt<|zh [.v 2 _] [.o 0] U (zv G (a9 aK) o0) (zz [(2,_)] [] fun a w U=>?_)
  refine a7<|wp_ret<|aB ?_ (am G U (zm 0 G))
  rw [List.take_length] at hno; rw [hno]
theorem tu2w {a b c d:VA}(h:Wk a c)(h':Wk b d):Wk (Tu [a,b]) (Tu [c,d]):=vp (.cons h (.cons h' .nil))
theorem has_wk' {R:Rg}{B:Nat}{w0:Bs}{i:Nat}{x:Operand}{A A':VA}(h:Has R B w0 i x A)(hw:Wk A A'):Has R B w0 i x A':=fun a w av=>hw _ _ _ (h a w av)
structure RG where
 re:RF
 im:RF
 deriving DecidableEq
structure RM where
 a:RF
 b:RF
 c:RF
 d:RF
 deriving DecidableEq
structure RR where
 y:RF
 u:RF
 deriving DecidableEq
structure GQ where
 re:Rat
 im:Rat
 deriving DecidableEq
structure MQ where
 a:Rat
 b:Rat
 c:Rat
 d:Rat
 deriving DecidableEq
structure YQ where
 y:Rat
 u:Rat
 deriving DecidableEq
def RMA (x:RM):As:=cat [RFA x.a,RFA x.b,RFA x.c,RFA x.d]
def QMA (k:Nat)(x:MQ):As:=cat [QA k x.a,QA k x.b,QA k x.c,QA k x.d]
def toM (x:RM):MQ:=⟨toQ x.a,toQ x.b,toQ x.c,toQ x.d⟩
def detM (m:MQ):Rat:=m.a*m.d-m.b*m.c
theorem qa_x {k:Nat}{x:RF}(h:okX x=true)(hk:2048≤k):WkA (RFA x) (QA k (toQ x)):=by
 obtain ⟨h1,h2,h3⟩:=okX_q h
 exact (jJ (congrArg RFA h1)).trans (qa_of (Nat.le_trans h2 hk) (Nat.le_trans h3 hk))
theorem qm_x {x:RM}(h:[x.a,x.b,x.c,x.d].all okX=true):WkA (RMA x) (QMA 2048 (toM x)):=by
 simp only [List.all_cons,List.all_nil,Bool.and_true,Bool.and_eq_true] at h
 exact bz (.cons (qa_x h.1 (Nat.le_refl _)) (.cons (qa_x h.2.1 (Nat.le_refl _)) (.cons (qa_x h.2.2.1 (Nat.le_refl _)) (.cons (qa_x h.2.2.2 (Nat.le_refl _)) .nil))))
def okM (m:RM):Bool:=[m.a,m.b,m.c,m.d].all okX&&decide (detM (toM m)=1)
theorem cm_ne {x y:Rat}:(cmQ x y != 0) = !decide (x=y):=by
 unfold cmQ
 by_cases h:x<y
 ·rw [if_pos h]; simp [Rat.ne_of_lt h]
 ·rw [if_neg h]
  by_cases h2:y<x
  ·rw [if_pos h2]; simp [Rat.ne_of_gt h2]
  ·rw [if_neg h2]
   have:x=y:=Rat.le_antisymm (Rat.not_lt.1 h2) (Rat.not_lt.1 h)
   simp [this]
theorem uN {x y:Rat}:(cmQ x y==0)=decide (x=y):=by
 have:=cm_ne (x:=x) (y:=y)
 simp only [bne] at this
 cases h:cmQ x y==0 <;> cases h2:decide (x=y) <;> simp_all
theorem cM:Str Tryz.prog 29 [RFA rf0,RFA rf0,RFA rf0,RFA rf0] :=
 Str.of (z:=.agg #[.bool false,.slice none 0 0,.bool false,.slice none 0 0,.bool false,.slice none 0 0,.bool false,.slice none 0 0,.bool false,.slice none 0 0,.bool false,.slice none 0 0,.bool false,.slice none 0 0,.bool false,.slice none 0 0]) zk Tryz.underlying29 zk fun B w=>⟨[[.bool false,.slice none 0 0,.bool false,.slice none 0 0],[.bool false,.slice none 0 0,.bool false,.slice none 0 0],[.bool false,.slice none 0 0,.bool false,.slice none 0 0],[.bool false,.slice none 0 0,.bool false,.slice none 0 0]],rfl,(.cons (nC B w) (.cons (nC B w) (.cons (nC B w) (.cons (nC B w) .nil))))⟩
theorem w5 {c:Nat}{m:MQ}(hk:c≤137438953472):Cn Tryz.prog 108 [(QMA c m).va] (Qs (c+c+(c+c)+1) (detM m)):=by
 refine Cn.intro Tryz.func108 G zk nq (fun B w0 a U=>?_)
 have U:=zn [(0,(QMA c m).va)] [] U
 refine wp_seq<|zg [] [⟨1,29,ptrH,some 0,_,none⟩,⟨2,27,ptrH,some 1,_,none⟩] [.alc 0,.alc 1] [] U (oc (ay G G G (gq 0 G)) (oc (aJ G G G (Str.zero b4)) o0)) (zz [] [O 1 29 _,O 2 27 _] fun a w U=>?_)
 refine zt<|zgd [[],[0],[],[2],[0,1,2,3],[],[5],[],[7],[0,1,2,3,4,5,6,7,8],[0,1,2,3,4,5,6,7,8,9],[0,1,2,3,4,5,6,7,8,9,10]] [none,some (11,_)] [] [.adr 3 1 (.some 0) True,.v 4 _,.adr 5 1 (.some 12) True,.v 6 _,.v 7 _,.adr 8 1 (.some 4) True,.v 9 _,.adr 10 1 (.some 8) True,.v 11 _,.v 12 _,.v 13 _,.sto 1] [] ab U (oc (ob_a G G (ac (lz0 0 G) bG)) (zL 0 0 0 G ax (oc (ob_a G G (ac (lz0 0 G) bW)) (zL 2 0 3 G ax (zv G (aa (xs:=[.tmp 4,.tmp 6]) (nv zo) (.cons (vq 1 G) (.cons (vq 3 G) .nil))) (oc (ob_a G G (ac (lz0 0 G) bF)) (zL 5 0 1 G ax (oc (ob_a G G (ac (lz0 0 G) bU)) (zL 7 0 2 G ax (zv G (aa (xs:=[.tmp 9,.tmp 11]) (nv zo) (.cons (vq 6 G) (.cons (vq 8 G) .nil))) (zv G (aa (xs:=[.tmp 7,.tmp 12]) (eT zo) (.cons (vq 4 G) (.cons (vq 9 G) .nil))) (oc (aA G G G (vq 10 G) ax (Eq.trans (b:=4) G G)) o0)))))))))))) zk zk zk zk (zz [] [O 1 29 _,O 2 27 _] fun a w U=>?_)
 refine a7<|wp_ret<|ar ?_ (az G U (zm 1 G) ax)
 exact bh
theorem w4 {m:RM}(h:[m.a,m.b,m.c,m.d].all okX=true):Cn Tryz.prog 108 [(RMA m).va] (Qs 8193 (detM (toM m))):=(w5 (c:=2048) zd).wk (.cons (qm_x h).va .nil)
theorem may_e {m:RM}:Bo ([m.a,m.b,m.c,m.d].all okX&&(cmQ (detM (toM m)) 1==0))=Bo (okM m):=by rw [uN]; rfl
theorem vZ (m:RM):Cn Tryz.prog 28 [(RMA m).va] (Bo (okM m)):=by
 refine Cn.intro Tryz.func28 G zk nq (fun B w0 a U=>?_)
 have U:=zn [(0,(RMA m).va)] [] U
 refine wp_seq<|zg [] [⟨1,29,ptrH,some 0,_,none⟩] [.alc 0,.v 2 _] [.o 1] U (oc (ay G G G (gq 0 G)) (zv G (a9 aK) o0)) (zz [(2,_)] [O 1 29 _] fun a w U=>?_)
 refine zt<|zg [none] [] [.adr 3 1 (.some 0) True,.v 4 _,.adr 5 1 (.some 4) True,.v 6 _,.adr 7 1 (.some 8) True,.v 8 _,.adr 9 1 (.some 12) True,.v 10 _,.v 11 _,.v 12 _,.v 13 _,.v 14 (Wh (_=true) _),.v 15 (Wh (_=true) _),.v 16 (Wh (_=true) _),.v 17 (Wh (_=true) _),.v 18 (Wh (_=true) _),.v 19 _,.v 2 _] [.o 17] U (oc (ob_a G G (ac (lz0 0 G) bG)) (zL 0 0 0 G ax (oc (ob_a G G (ac (lz0 0 G) bF)) (zL 2 0 1 G ax (oc (ob_a G G (ac (lz0 0 G) bU)) (zL 4 0 2 G ax (oc (ob_a G G (ac (lz0 0 G) bW)) (zL 6 0 3 G ax (zv G (cz (D:=[U32]) (l:=[_,_,_,_]) (xs:=[.tmp 4,.tmp 6,.tmp 8,.tmp 10]) (dK zk) fS zk (n_ok zk) nq nq nq (.cons (vq 1 G) (.cons (vq 3 G) (.cons (vq 5 G) (.cons (vq 7 G) .nil)))) G G) (zv G (aa (xs:=[.tmp 11]) (pY [m.a,m.b,m.c,m.d] nq) (.cons (vq 8 G) .nil)) (zv G (ae (vq 9 G)) (oc (an G G G (vq 10 G) nq (fun hg=>dm (lz0 0 G) dg)) (oc (an G G G (vq 10 G) nq (fun hg=>aa (xs:=[.tmp 14]) (w4 hg) (.cons (ai (vq 11 G) hg) .nil))) (oc (an G G G (vq 10 G) nq (fun hg=>aa (xs:=[]) one_q .nil)) (oc (an G G G (vq 10 G) nq (fun hg=>aa (xs:=[.tmp 15,.tmp 16]) (Cx zo) (.cons (ai (vq 12 G) hg) (.cons (ai (vq 13 G) hg) .nil)))) (oc (an G G G (vq 10 G) nq (fun hg=>bD (ai (vq 14 G) hg) a8)) (zv G (bJ (vq 10 G) (vq 15 G)) (zA 16 G o0)))))))))))))))))) (zz [(2,_)] [O 1 29 _] fun a w U=>?_)
 refine a7<|wp_ret<|ar ?_ (am G U (zm 0 G))
 exact bc may_e
theorem tc {m:RM}(h:okM m=true):[m.a,m.b,m.c,m.d].all okX=true∧detM (toM m)=1:=by
 unfold okM at h
 rw [Bool.and_eq_true,decide_eq_true_eq] at h
 exact h
def intSizeF (x:RI):Int:=IntKind.i64.wrap (1+(x.mag.length:Int))
def fracSizeF (x:RF):Int:=IntKind.i64.wrap (intSizeF x.num+intSizeF x.den)
def lowCostF (x y:RI):Int:=IntKind.i64.wrap (IntKind.i64.wrap ((IntKind.i64.wrap (min (x.mag.length:Int) 1048576*min (y.mag.length:Int) 1048576)).tdiv 16)*1024)
def fracCostF (x:RF):Int:=IntKind.i64.wrap (fracSizeF x+lowCostF x.num x.den)
def matCostF (x:RM):Int:=IntKind.i64.wrap (IntKind.i64.wrap (IntKind.i64.wrap (fracCostF x.a+fracCostF x.b)+fracCostF x.c)+fracCostF x.d)
def bydF (n:Int):List Int→Bool
 | []=>false
 | x::xs=>if decide (IntKind.i64.wrap (n+x)>1048576) then true else bydF (IntKind.i64.wrap (n+x)) xs
theorem CF {n:Int}{l:List Int}{j:Nat}(h:j<l.length)(h2:decide (IntKind.i64.wrap (n+l[j])>1048576)=true):true=bydF n (l.drop j):=by
 rw [List.drop_eq_getElem_cons h,bydF,h2]; rfl
theorem byd_no {n:Int}{l:List Int}{j:Nat}(h:j<l.length)(h2:decide (IntKind.i64.wrap (n+l[j])>1048576)=false):bydF n (l.drop j)=bydF (IntKind.i64.wrap (n+l[j])) (l.drop (j+1)):=by
 rw [List.drop_eq_getElem_cons h,bydF,h2]; rfl
theorem zq {j m:Nat}(h:j<m)(hm:m≤9223372036854775807):IntKind.i64.wrap ((j:Int)+1)=((j+1:Nat):Int):=by rw [wi64 zo zo]; rfl
theorem A9 {E:TypeId}{D:List TypeId}{l:List As}{B:Nat}{v:Value}{w:World}(h:(SlA E D l).va.p B v w):l.length≤9223372036854775807:=by
 obtain ⟨cs,⟨_,A,c,ds,_,h1,h2,_⟩,_⟩:=h
 unfold maxLen at h2
 omega
theorem fT {E:TypeId}{D:List TypeId}{α:Type}{f:α→As}{l:List α}{B:Nat}{v:Value}{w:World}(h:(SlA E D (l.map f)).va.p B v w):l.length≤9223372036854775807:=by
 have:=A9 h
 rwa [List.length_map] at this
theorem mK (x:RI):Cn Tryz.prog 170 [(RIA x).va] (In (intSizeF x)):=by
 refine Cn.intro Tryz.func170 G zk nq (fun B w0 a U=>?_)
 have U:=zn [(0,(RIA x).va)] [] U
 refine wp_seq<|zg [] [⟨1,25,ptrH,some 0,_,none⟩] [.alc 0,.v 2 _] [.o 1] U (oc (ay G G G (gq 0 G)) (zv G (a9 a8) o0)) (zz [(2,_)] [O 1 25 _] fun a w U=>?_)
 refine zt<|zg [none] [] [.adr 3 1 (.some 1) True,.v 4 _,.v 5 _,.v 6 _,.v 2 _] [.o 4] U (oc (ob_a G G (ac (lz0 0 G) au)) (zL 0 0 1 G aW (zv G (aI Tryz.underlying23 (vq 1 G)) (zv G (aR a8 (vq 2 G) (G)) (zA 3 G o0))))) (zz [(2,_)] [O 1 25 _] fun a w U=>?_)
 refine a7<|wp_ret<|ar ?_ (am G U (zm 0 G))
 exact bh
theorem qW (x:RF):Cn Tryz.prog 97 [(RFA x).va] (In (fracSizeF x)):=by
 refine Cn.intro Tryz.func97 G zk nq (fun B w0 a U=>?_)
 have U:=zn [(0,(RFA x).va)] [] U
 refine wp_seq<|zg [] [⟨1,27,ptrH,some 0,_,none⟩] [.alc 0,.v 2 _] [.o 1] U (oc (ay G G G (gq 0 G)) (zv G (a9 a8) o0)) (zz [(2,_)] [O 1 27 _] fun a w U=>?_)
 refine zt<|zgd [[],[0],[0,1],[],[3],[0,1,2,3,4],[0,1,2,3,4,5],[0,1,2,3,4,5,6]] [none] [] [.adr 3 1 (.some 0) True,.v 4 _,.v 5 _,.adr 6 1 (.some 2) True,.v 7 _,.v 8 _,.v 9 _,.v 2 _] [.o 7] ab U (oc (ob_a G G (ac (lz0 0 G) aY)) (zL 0 0 0 G al (zv G (aa (xs:=[.tmp 4]) (mK _) (.cons (vq 1 G) .nil)) (oc (ob_a G G (ac (lz0 0 G) aT)) (zL 3 0 1 G al (zv G (aa (xs:=[.tmp 7]) (mK _) (.cons (vq 4 G) .nil)) (zv G (aR (vq 2 G) (vq 5 G) (G)) (zA 6 G o0)))))))) zk zk zk zk (zz [(2,_)] [O 1 27 _] fun a w U=>?_)
 refine a7<|wp_ret<|ar ?_ (am G U (zm 0 G))
 exact bh
theorem tK (x y:RI):Cn Tryz.prog 98 [(RIA x).va,(RIA y).va] (In (lowCostF x y)):=by
 refine Cn.intro Tryz.func98 G zk nq (fun B w0 a U=>?_)
 have U:=zn [(0,(RIA x).va),(1,(RIA y).va)] [] U
 refine wp_seq<|zg [] [⟨2,25,ptrH,some 0,_,none⟩,⟨3,25,ptrH,some 1,_,none⟩] [.alc 0,.alc 1,.v 4 _] [.o 2] U (oc (ay G G G (gq 0 G)) (oc (ay G G G (gq 1 G)) (zv G (a9 a8) o0))) (zz [(4,_)] [O 2 25 _,O 3 25 _] fun a w U=>?_)
 refine zt<|zg [none,none] [] [.adr 5 2 (.some 1) True,.v 6 _,.v 7 _,.v 8 _,.adr 9 3 (.some 1) True,.v 10 _,.v 11 _,.v 12 _,.v 13 _,.v 14 _,.v 15 _,.v 4 _] [.o 11] U (oc (ob_a G G (ac (lz0 0 G) au)) (zL 0 0 1 G aW (zv G (aI Tryz.underlying23 (vq 1 G)) (zv G (AC (vq 2 G) a8) (oc (ob_a G G (ac (lz0 1 G) au)) (zL 4 1 1 G aW (zv G (aI Tryz.underlying23 (vq 5 G)) (zv G (AC (vq 6 G) a8) (zv G (kG (vq 3 G) (vq 7 G) (G)) (zv G (jE (vq 8 G) a8 zd (G)) (zv G (kG (vq 9 G) a8 (G)) (zA 10 G o0)))))))))))) (zz [(4,_)] [O 2 25 _,O 3 25 _] fun a w U=>?_)
 refine a7<|wp_ret<|ar ?_ (am G U (zm 0 G))
 exact bh
theorem dv (x:RF):Cn Tryz.prog 20 [(RFA x).va] (In (fracCostF x)):=by
 refine Cn.intro Tryz.func20 G zk nq (fun B w0 a U=>?_)
 have U:=zn [(0,(RFA x).va)] [] U
 refine wp_seq<|zg [] [⟨1,27,ptrH,some 0,_,none⟩] [.alc 0,.v 2 _] [.o 1] U (oc (ay G G G (gq 0 G)) (zv G (a9 a8) o0)) (zz [(2,_)] [O 1 27 _] fun a w U=>?_)
 refine zt<|zgd [[],[0],[],[2],[],[4],[0,1,2,3,4,5],[0,1,2,3,4,5,6],[0,1,2,3,4,5,6,7]] [none] [] [.v 3 _,.v 4 _,.adr 5 1 (.some 0) True,.v 6 _,.adr 7 1 (.some 2) True,.v 8 _,.v 9 _,.v 10 _,.v 2 _] [.o 8] ab U (zl 0 G ax (zv G (aa (xs:=[.tmp 3]) (qW _) (.cons (vq 0 G) .nil)) (oc (ob_a G G (ac (lz0 0 G) aY)) (zL 2 0 0 G al (oc (ob_a G G (ac (lz0 0 G) aT)) (zL 4 0 1 G al (zv G (aa (xs:=[.tmp 6,.tmp 8]) (tK _ _) (.cons (vq 3 G) (.cons (vq 5 G) .nil))) (zv G (aR (vq 1 G) (vq 6 G) (G)) (zA 7 G o0))))))))) zk zk zk zk (zz [(2,_)] [O 1 27 _] fun a w U=>?_)
 refine a7<|wp_ret<|ar ?_ (am G U (zm 0 G))
 exact bh
theorem tx (x:RM):Cn Tryz.prog 6 [(RMA x).va] (In (matCostF x)):=by
 refine Cn.intro Tryz.func6 G zk nq (fun B w0 a U=>?_)
 have U:=zn [(0,(RMA x).va)] [] U
 refine wp_seq<|zg [] [⟨1,29,ptrH,some 0,_,none⟩] [.alc 0,.v 2 _] [.o 1] U (oc (ay G G G (gq 0 G)) (zv G (a9 a8) o0)) (zz [(2,_)] [O 1 29 _] fun a w U=>?_)
 refine zt<|zgd [[],[0],[0,1],[],[3],[0,1,2,3,4],[0,1,2,3,4,5],[],[7],[0,1,2,3,4,5,7,8],[0,1,2,3,4,5,6,7,8,9],[],[11],[0,1,2,3,4,5,7,8,9,11,12],[0,1,2,3,4,5,6,7,8,9,10,11,12,13],[0,1,2,3,4,5,6,7,8,9,10,11,12,13,14]] [none] [] [.adr 3 1 (.some 0) True,.v 4 _,.v 5 _,.adr 6 1 (.some 4) True,.v 7 _,.v 8 _,.v 9 _,.adr 10 1 (.some 8) True,.v 11 _,.v 12 _,.v 13 _,.adr 14 1 (.some 12) True,.v 15 _,.v 16 _,.v 17 _,.v 2 _] [.o 15] ab U (oc (ob_a G G (ac (lz0 0 G) bG)) (zL 0 0 0 G ax (zv G (aa (xs:=[.tmp 4]) (dv _) (.cons (vq 1 G) .nil)) (oc (ob_a G G (ac (lz0 0 G) bF)) (zL 3 0 1 G ax (zv G (aa (xs:=[.tmp 7]) (dv _) (.cons (vq 4 G) .nil)) (zv G (aR (vq 2 G) (vq 5 G) (G)) (oc (ob_a G G (ac (lz0 0 G) bU)) (zL 7 0 2 G ax (zv G (aa (xs:=[.tmp 11]) (dv _) (.cons (vq 8 G) .nil)) (zv G (aR (vq 6 G) (vq 9 G) (G)) (oc (ob_a G G (ac (lz0 0 G) bW)) (zL 11 0 3 G ax (zv G (aa (xs:=[.tmp 15]) (dv _) (.cons (vq 12 G) .nil)) (zv G (aR (vq 10 G) (vq 13 G) (G)) (zA 14 G o0)))))))))))))))) zk zk zk zk (zz [(2,_)] [O 1 29 _] fun a w U=>?_)
 refine a7<|wp_ret<|ar ?_ (am G U (zm 0 G))
 exact bh
theorem xD (l:List Int):Cn Tryz.prog 4 [(SlA 3 [] (l.map (NumA .i64))).va] (Bo (bydF 0 l)):=by
 refine Cn.intro Tryz.func4 G zk nq (fun B w0 a U=>?_)
 have U:=zn [(0,(SlA 3 [] (l.map (NumA .i64))).va)] [] U
 have hl:=fT (U.vals (0,(SlA 3 [] (l.map (NumA .i64))).va) (zm 0 rfl))
 refine wp_seq<|zh [.v 2 _] [.g 0,.o 0] U (zv G (a9 aK) o0) (zz [(0,_),(2,_)] [] fun a w U=>?_)
 refine zt<|zh [.v 3 _] [.g 0,.g 1,.o 0] U (zv G (a9 a8) o0) (zz [(0,_),(2,_),(3,_)] [] fun a w U=>?_)
 refine zt<|wp_seq<|zh [.v 4 _] [.g 0,.g 1,.g 2,.o 0] U (zv G (a9 a8) o0) (zz [(0,_),(2,_),(3,_),(4,_)] [] fun a w U=>?_)
 refine a7<|wp_block ?_
 have U:=St.sel U [0,2,3]
 refine wp_loop_ghost (fun n a w=>∃ (j:Nat) (m:Int),(n+j=l.length∧bydF 0 l=bydF m (l.drop j))∧St B w0 19 [(0,(SlA 3 [] (l.map (NumA .i64))).va),(3,In m),(4,In (j:Nat))] [] a w) (l.length) ?_ ?_
 ·exact ⟨0,0,⟨by omega,rfl⟩,U⟩
 intro n a w hI
 obtain ⟨j,m,⟨hn,hm⟩,U⟩:=hI
 refine wp_seq<|wp_seq<|zh [.v 5 _,.v 6 _,.v 7 _,.v 8 _] [.g 0,.g 1,.g 2,.o 3] U (zM 2 G (zM 0 G (zv G (be Tryz.underlying63 (vq 1 G)) (zv G (aN (vq 0 G) (vq 2 G)) o0)))) (zz [(0,_),(3,_),(4,_),(8,_)] [] fun a w U=>?_)
 refine a7<|ah U (zm 3 G) (fun hb0=>?_) (fun hb0=>?_)
 ·have hj:j<l.length:=by rw [List.length_map] at hb0; simp at hb0; omega
  refine wp_skip<|zt<|wp_block<|wp_seq<|zh [.v 11 _,.v 12 _,.v 13 _,.v 14 _,.v 15 _,.v 16 _,.v 3 _] [.g 0,.g 2,.o 6] U (zM 1 G (zM 0 G (zM 2 G (zv G (cB Do (fM fun _=>rfl) (vq 1 G) (vq 2 G) (dD hj)) (zv G (aq (vq 3 G) ty_3) (zv G (aR (vq 0 G) (vq 4 G) (G)) (zA 5 G o0))))))) (zz [(0,_),(4,_),(3,_)] [] fun a w U=>?_)
  refine zt<|zh [.v 17 _,.v 18 _] [.g 0,.g 1,.g 2,.o 1] U (zM 2 G (zv G (dJ (vq 0 G) a8) o0)) (zz [(0,_),(4,_),(3,_),(18,_)] [] fun a w U=>?_)
  refine a7<|ah U (zm 3 G) (fun hb1=>?_) (fun hb1=>?_)
  ·refine wp_seq<|zh [.v 2 _] [.g 0,.g 1,.g 2,.o 0] U (zv G (a9 aK) o0) (zz [(0,_),(4,_),(3,_),(2,_)] [] fun a w U=>?_)
   refine a7<|wp_ret<|aV ?_
   refine ap ?_
   refine ap ?_
   refine aV ?_
   refine ap ?_
   refine ar ?_ (am G U (zm 3 G))
   exact bc (congrArg Bo ((CF hj hb1).trans hm.symm))
  ·refine wp_skip<|ao ?_
   refine a7<|zh [.v 9 _,.v 10 _,.v 4 _] [.g 0,.g 2,.o 2] U (zM 1 G (zv G (aR (vq 0 G) a8 (zq hj hl)) (zA 1 G o0))) (zz [(0,_),(3,_),(4,_)] [] fun a w U=>?_)
   refine a7 ?_
   have U:=St.sel U [0,1,2]
   exact ⟨n-1,by omega,j+1,_,⟨by omega,hm.trans (byd_no hj hb1)⟩,U⟩
 ·obtain rfl:j=l.length:=by rw [List.length_map] at hb0; simp at hb0; omega
  refine wp_exit<|ak<|ak<|aC<|zt<|zh [.v 2 _] [.o 0] U (zv G (a9 aK) o0) (zz [(2,_)] [] fun a w U=>?_)
  refine a7<|wp_ret<|ar ?_ (am G U (zm 0 G))
  exact bc (congrArg Bo (by rw [hm,List.drop_of_length_le (Nat.le_refl _)]; rfl))
theorem vP {a b:RI}(hn:a.neg=b.neg)(h:a.mag=b.mag):true=decide (a=b):=by
 cases a; cases b; simp_all
theorem vS {a b:RI}(h:((a.neg != b.neg) || (((a.mag.length:Nat):Int) != ((b.mag.length:Nat):Int)))=true):false=decide (a=b):=by
 symm
 apply decide_eq_false
 rintro rfl
 simp at h
theorem vQ {a b:RI}(h:((a.neg != b.neg) || (((a.mag.length:Nat):Int) != ((b.mag.length:Nat):Int)))=false):a.neg=b.neg∧a.mag.length=b.mag.length:=by
 simp only [Bool.or_eq_false_iff,bne_eq_false_iff_eq] at h
 exact ⟨h.1,by omega⟩
theorem vR {a b:RI}{j:Nat}(h1:j<a.mag.length)(h2:j<b.mag.length)(h:(((a.mag[j]:Nat):Int) != ((b.mag[j]:Nat):Int))=true):false=decide (a=b):=by
 symm
 apply decide_eq_false
 rintro rfl
 simp at h
theorem zX {l m:List Nat}{j:Nat}(h1:j<l.length)(h2:j<m.length)(h:l.take j=m.take j)(h3:(((l[j]:Nat):Int) != ((m[j]:Nat):Int))=false):l.take (j+1)=m.take (j+1):=by
 rw [List.take_succ_eq_append_getElem h1,List.take_succ_eq_append_getElem h2,h]
 simp only [bne_eq_false_iff_eq] at h3
 rw [show l[j]=m[j] by omega]
theorem Dy {a b:RF}:(decide (a.num=b.num)&&decide (a.den=b.den))=decide (a=b):=by
 cases a; cases b; rw [Bool.eq_iff_iff]; simp
theorem rm_eq {a b:RM}:(((decide (a.a=b.a)&&decide (a.b=b.b))&&decide (a.c=b.c))&&decide (a.d=b.d))=decide (a=b):=by
 cases a; cases b; rw [Bool.eq_iff_iff]; simp [and_assoc]
theorem iO (x y:RI):Cn Tryz.prog 197 [(RIA x).va,(RIA y).va] (Bo (decide (x=y))):=by
 refine Cn.intro Tryz.func197 G zk nq (fun B w0 a U=>?_)
 have U:=zn [(0,(RIA x).va),(1,(RIA y).va)] [] U
 have hxk:=gF (U.vals (0,(RIA x).va) (zm 0 rfl))
 refine wp_seq<|zg [] [⟨2,25,ptrH,some 0,_,none⟩,⟨3,25,ptrH,some 1,_,none⟩] [.alc 0,.alc 1,.v 4 _] [.o 2] U (oc (ay G G G (gq 0 G)) (oc (ay G G G (gq 1 G)) (zv G (a9 aK) o0))) (zz [(4,_)] [O 2 25 _,O 3 25 _] fun a w U=>?_)
 refine zt<|wp_seq<|zg [none,none] [] [.adr 6 2 (.some 0) True,.v 7 _,.adr 8 3 (.some 0) True,.v 9 _,.v 10 _,.v 11 _,.adr 12 2 (.some 1) (_=false),.v 13 (Wh (_=false) _),.v 14 (Wh (_=false) _),.adr 15 3 (.some 1) (_=false),.v 16 (Wh (_=false) _),.v 17 (Wh (_=false) _),.v 18 (Wh (_=false) _),.v 19 _] [.g 0,.o 13] U (oc (ob_a G G (ac (lz0 0 G) aU)) (zL 0 0 0 G ty_4 (oc (ob_a G G (ac (lz0 1 G) aU)) (zL 2 1 0 G ty_4 (zv G (jY zk (vq 1 G) (vq 3 G)) (zv G (ae (vq 4 G)) (oc (bM G G G (vq 5 G) nq (fun hg=>ac (lz0 0 G) au)) (oc (an G G G (vq 5 G) nq (fun hg=>aD 6 G zk hg (lz0 0 G) (Sub.part 1 G G) aW)) (oc (an G G G (vq 5 G) nq (fun hg=>aI Tryz.underlying23 (ai (vq 7 G) hg))) (oc (bM G G G (vq 5 G) nq (fun hg=>ac (lz0 1 G) au)) (oc (an G G G (vq 5 G) nq (fun hg=>aD 9 G zk hg (lz0 1 G) (Sub.part 1 G G) aW)) (oc (an G G G (vq 5 G) nq (fun hg=>aI Tryz.underlying23 (ai (vq 10 G) hg))) (oc (an G G G (vq 5 G) nq (fun hg=>cI (ai (vq 8 G) hg) (ai (vq 11 G) hg))) (zv G (r_or (vq 5 G) (vq 12 G)) o0)))))))))))))) (zz [(4,_),(19,_)] [O 2 25 _,O 3 25 _] fun a w U=>?_)
 refine a7<|ah U (zm 1 G) (fun hb0=>?_) (fun hb0=>?_)
 ·refine wp_seq<|zg [none,none] [] [.v 4 _] [.o 0] U (zv G (a9 aK) o0) (zz [(4,_)] [O 2 25 _,O 3 25 _] fun a w U=>?_)
  refine a7<|wp_ret<|ap ?_
  refine ar ?_ (am G U (zm 0 G))
  exact bc (congrArg Bo (vS hb0))
 ·obtain ⟨hn1,hl⟩:=vQ hb0
  refine wp_skip<|zt<|wp_seq<|zg [none,none] [] [.v 5 _] [.g 0,.o 0] U (zv G (a9 a8) o0) (zz [(4,_),(5,_)] [O 2 25 _,O 3 25 _] fun a w U=>?_)
  refine a7<|wp_block ?_
  have U:=St.sel U [1]
  refine wp_loop_ghost (fun n a w=>∃ j:Nat,(n+j=x.mag.length∧x.mag.take j=y.mag.take j)∧St B w0 38 [(5,In (j:Nat))] [⟨2,25,ptrH,RIA x⟩,⟨3,25,ptrH,RIA y⟩] a w) (x.mag.length) ?_ ?_
  ·exact ⟨0,⟨by omega,rfl⟩,U⟩
  intro n a w hI
  obtain ⟨j,⟨hn,ht⟩,U⟩:=hI
  refine wp_seq<|wp_seq<|zg [none,none] [] [.v 20 _,.adr 21 2 (.some 1) True,.v 22 _,.v 23 _,.v 24 _] [.g 0,.o 4] U (zM 0 G (oc (ob_a G G (ac (lz0 0 G) au)) (zL 1 0 1 G aW (zv G (aI Tryz.underlying23 (vq 2 G)) (zv G (aN (vq 0 G) (vq 3 G)) o0))))) (zz [(5,_),(24,_)] [O 2 25 _,O 3 25 _] fun a w U=>?_)
  refine a7<|ah U (zm 1 G) (fun hb1=>?_) (fun hb1=>?_)
  ·have hj:j<x.mag.length:=by simp at hb1; omega
   refine wp_skip<|zt<|wp_block<|wp_seq<|zgd [[],[0],[],[0,1,2],[0,1,2,3],[],[5],[],[5,6,7],[5,6,7,8],[0,1,2,3,4,5,6,7,8,9]] [none,none] [] [.adr 27 2 (.some 1) True,.v 28 _,.v 29 _,.v 30 _,.v 31 _,.adr 32 3 (.some 1) True,.v 33 _,.v 34 _,.v 35 _,.v 36 _,.v 37 _] [.g 0,.o 10] ab U (oc (ob_a G G (ac (lz0 0 G) au)) (zL 0 0 1 G aW (zM 0 G (zv G (bH aZ (vq 1 G) (vq 2 G) zo) (zv G (aq (vq 3 G) aO) (oc (ob_a G G (ac (lz0 1 G) au)) (zL 5 1 1 G aW (zM 0 G (zv G (bH aZ (vq 6 G) (vq 7 G) zo) (zv G (aq (vq 8 G) aO) (zv G (cI (vq 4 G) (vq 9 G)) o0))))))))))) zk zk zk zk (zz [(5,_),(37,_)] [O 2 25 _,O 3 25 _] fun a w U=>?_)
   refine a7<|ah U (zm 1 G) (fun hb2=>?_) (fun hb2=>?_)
   ·refine wp_seq<|zg [none,none] [] [.v 4 _] [.g 0,.o 0] U (zv G (a9 aK) o0) (zz [(5,_),(4,_)] [O 2 25 _,O 3 25 _] fun a w U=>?_)
    refine a7<|wp_ret<|aV ?_
    refine ap ?_
    refine ap ?_
    refine aV ?_
    refine ap ?_
    refine ar ?_ (am G U (zm 1 G))
    exact bc (congrArg Bo (vR hj zo hb2))
   ·refine wp_skip<|ao ?_
    refine a7<|zg [none,none] [] [.v 25 _,.v 26 _,.v 5 _] [.o 2] U (zM 0 G (zv G (aR (vq 0 G) a8 (zq hj hxk.2)) (zA 1 G o0))) (zz [(5,_)] [O 2 25 _,O 3 25 _] fun a w U=>?_)
    refine a7 ?_
    have U:=St.sel U [0]
    exact ⟨n-1,by omega,j+1,⟨by omega,zX hj zo ht hb2⟩,U⟩
  ·obtain rfl:j=x.mag.length:=by simp at hb1; omega
   refine wp_exit<|ak<|ak<|aC<|zt<|zg [none,none] [] [.v 4 _] [.o 0] U (zv G (a9 aK) o0) (zz [(4,_)] [O 2 25 _,O 3 25 _] fun a w U=>?_)
   refine a7<|wp_ret<|ar ?_ (am G U (zm 0 G))
   exact bc (congrArg Bo (vP hn1 (by rw [List.take_of_length_le (Nat.le_refl _),List.take_of_length_le zo] at ht; exact ht)))
theorem jU (x y:RF):Cn Tryz.prog 135 [(RFA x).va,(RFA y).va] (Bo (decide (x=y))):=by
 refine Cn.intro Tryz.func135 G zk nq (fun B w0 a U=>?_)
 have U:=zn [(0,(RFA x).va),(1,(RFA y).va)] [] U
 refine wp_seq<|zg [] [⟨2,27,ptrH,some 0,_,none⟩,⟨3,27,ptrH,some 1,_,none⟩] [.alc 0,.alc 1,.v 4 _] [.o 2] U (oc (ay G G G (gq 0 G)) (oc (ay G G G (gq 1 G)) (zv G (a9 aK) o0))) (zz [(4,_)] [O 2 27 _,O 3 27 _] fun a w U=>?_)
 refine zt<|zg [none,none] [] [.adr 5 2 (.some 0) True,.v 6 _,.adr 7 3 (.some 0) True,.v 8 _,.v 9 _,.v 10 _,.adr 11 2 (.some 2) (_=true),.v 12 (Wh (_=true) _),.adr 13 3 (.some 2) (_=true),.v 14 (Wh (_=true) _),.v 15 (Wh (_=true) _),.v 16 _,.v 4 _] [.o 12] U (oc (ob_a G G (ac (lz0 0 G) aY)) (zL 0 0 0 G al (oc (ob_a G G (ac (lz0 1 G) aY)) (zL 2 1 0 G al (zv G (aa (xs:=[.tmp 6,.tmp 8]) (iO _ _) (.cons (vq 1 G) (.cons (vq 3 G) .nil))) (zv G (ae (vq 4 G)) (oc (bM G G G (vq 5 G) nq (fun hg=>ac (lz0 0 G) aT)) (oc (an G G G (vq 5 G) nq (fun hg=>aD 6 G zk hg (lz0 0 G) (Sub.part 1 G G) al)) (oc (bM G G G (vq 5 G) nq (fun hg=>ac (lz0 1 G) aT)) (oc (an G G G (vq 5 G) nq (fun hg=>aD 8 G zk hg (lz0 1 G) (Sub.part 1 G G) al)) (oc (an G G G (vq 5 G) nq (fun hg=>aa (xs:=[.tmp 12,.tmp 14]) (iO _ _) (.cons (ai (vq 7 G) hg) (.cons (ai (vq 9 G) hg) .nil)))) (zv G (bJ (vq 5 G) (vq 10 G)) (zA 11 G o0))))))))))))) (zz [(4,_)] [O 2 27 _,O 3 27 _] fun a w U=>?_)
 refine a7<|wp_ret<|ar ?_ (am G U (zm 0 G))
 exact bc (congrArg Bo Dy)
open Go.ChangeShapes Go.WideShapes Go.ChangeAt
theorem qc {B:Nat}{w:World}:∀ {l:List As} {cs:List Value},cs.length=(l.map (·.n)).sum→(∀ (k:Nat) (A:As),l[k]?=some A→A.p B ((cs.drop (offs l k)).take A.n) w)→(cat l).p B cs w
 | [],cs,hl,_=>by
  have:cs=[]:=List.length_eq_zero_iff.1 (by simpa using hl)
  subst this
  exact ⟨[],rfl,.nil⟩
 | A::l,cs,hl,h=>by
  simp only [List.map_cons,List.sum_cons] at hl
  have h0:=h 0 A rfl
  simp only [offs,List.take_zero,List.map_nil,List.sum_nil,List.drop_zero] at h0
  obtain ⟨ps,e,hps⟩:=qc (l:=l) (cs:=cs.drop A.n) (B:=B) (w:=w) (by simp; omega) fun k A' hk=>by
   have:=h (k+1) A' (by simpa using hk)
   simp only [offs,List.take_succ_cons,List.map_cons,List.sum_cons] at this
   rw [List.drop_drop]
   exact this
  exact ⟨cs.take A.n::ps,by rw [List.flatten_cons,← e,List.take_append_drop],.cons h0 hps⟩
section
variable {H:Type} {enc:TypeId × Value→H} {w:World} {base:Nat} {spare:Nat→Bool} {held:Bool} {fuel:Nat} {cs:List Value} {x:DataW H × List MemPlace}
theorem rd_mg (h:DataW.trod enc Tryz.prog w base spare held fuel 23 cs=some x):∃ l,(MgA l).p w.heap.size cs w:=by
 rcases open_ints Tryz.underlying23 Tryz.underlying109 zk h with ⟨hcs,_⟩ | ⟨a,len,cap,zs,rfl,_,hl,hm,hz,_,hcell,hwz⟩
 ·subst hcs
  exact ⟨[],eU _ _⟩
 ·have hzl:len≤zs.length:=by rw [hz]; split <;> omega
  have hnn:∀ n∈zs,0≤n∧n<4294967296:=fun n hn=>by
   have:=hwz n hn
   simp [Lit.wf,IntKind.min,IntKind.max,IntKind.signed,IntKind.bits] at this
   omega
  have hlen:((zs.take len).map Int.toNat).length=len:=by simp; omega
  refine ⟨(zs.take len).map Int.toNat,?_⟩
  have hM:Mag w.heap.size w (some a) cap ((zs.take len).map Int.toNat):=by
   refine ⟨fun y hy=>?_,by omega,hm,fun hn=>?_⟩
   ·obtain ⟨n,hn,rfl⟩:=List.mem_map.1 hy
    have:=hnn n (List.mem_of_mem_take hn)
    omega
   ·obtain ⟨b,off,rfl,hc⟩:=ints_at hcell zo
    have hb:b<w.heap.size:=World.block_lt_of_cell? w _ (hc 0 zo)
    refine ⟨b,off,rfl,hb,.inl hb,fun j hj=>?_⟩
    rw [hc j zo]
    have hjz:j<zs.length:=by omega
    have:=hnn _ (List.getElem_mem hjz)
    congr 2
    simp only [List.getElem_map,List.getElem_take]
    rw [Int.toNat_of_nonneg this.1]
    simp [List.getD_eq_getElem?_getD,List.getElem?_eq_getElem hjz]
  obtain ⟨ds,hp,hv⟩:=dW hM hlen.symm
  have hd:=(MgA ((zs.take len).map Int.toNat)).len _ _ _ hp
  match ds,hd with
  | [d],_ =>
   have:d=.slice (some a) len cap:=hv.symm
   subst this
   exact hp
theorem uR {B:Nat}{A0 A1:As}(h0:A0.p B ((cs.drop 0).take A0.n) w)(h1:A1.p B ((cs.drop A0.n).take A1.n) w)(hl:cs.length=A0.n+A1.n):(cat [A0,A1]).p B cs w :=
 qc (by simpa using hl) fun k A hk=>by
  match k,hk with
  | 0,hk=>simp at hk; subst hk; exact h0
  | 1,hk=>simp at hk; subst hk; simpa [offs] using h1
theorem xA {B:Nat}{A0 A1 A2 A3:As}(h0:A0.p B ((cs.drop 0).take A0.n) w)(h1:A1.p B ((cs.drop A0.n).take A1.n) w)(h2:A2.p B ((cs.drop (A0.n+A1.n)).take A2.n) w)(h3:A3.p B ((cs.drop (A0.n+(A1.n+A2.n))).take A3.n) w)(hl:cs.length=A0.n+(A1.n+(A2.n+A3.n))):(cat [A0,A1,A2,A3]).p B cs w :=
 qc (by simpa using hl) fun k A hk=>by
  match k,hk with
  | 0,hk=>simp at hk; subst hk; exact h0
  | 1,hk=>simp at hk; subst hk; simpa [offs] using h1
  | 2,hk=>simp at hk; subst hk; simpa [offs] using h2
  | 3,hk=>simp at hk; subst hk; simpa [offs] using h3
theorem rd_bo (h:DataW.trod enc Tryz.prog w base spare held fuel 4 cs=some x):∃ b,(BoA b).p w.heap.size cs w:=by
 obtain ⟨b,hb,_⟩:=DataW.trod_bool Tryz.underlying4 h
 exact ⟨b,hb⟩
end
structure OkG (p:GQ):Prop where
 re:longQ p.re=false
 im:longQ p.im=false
 pos:0<p.im
theorem div_pos {x y:Rat}(h:0<x)(h':0<y):0<x/y:=Rat.mul_pos h (Rat.inv_pos.2 h')
end Go.Proofs.YtmacliockgbdcaaGreatDoor
