import Derived.Test.YtljkepdpoelpkaaBsAa
import Derived.Test.YtljkepdpoelpkaaBsAc
import Derived.Test.YtljkepdpoelpkaaBsAn
import Derived.Test.YtljkepdpoelpkaaBsAq
import Derived.Test.YtljkepdpoelpkaaBsAr
import Derived.Test.YtljkepdpoelpkaaBsAs
import Derived.Laws.AppendOwn
import Derived.Laws.OwnMore
import Derived.Orders
set_option linter.unusedVariables false
set_option linter.unusedSimpArgs false
set_option linter.unusedSectionVars false
set_option maxRecDepth 100000
namespace Go.Proofs.Ytljkepdpoelpkaa
open Go Go.RowKit
theorem app_elem:∃ it z,Try.prog.info? 49=some it∧it.zero=some z∧it.size=9∧it.bytes=136∧z.cells.size=9:=by
 have h:((Try.prog.info? 49).bind fun it=>it.zero.map fun z=>(it.size,it.bytes,z.cells.size))=some (9,136,9):=by kernel_rfl
 cases hi:Try.prog.info? 49 with
 | none=>rw [hi] at h; simp at h
 | some it =>
  rw [hi] at h
  cases hz:it.zero with
  | none=>simp [hz] at h
  | some z =>
   simp [hz] at h
   exact ⟨it,z,rfl,hz,h.1,h.2.1,h.2.2⟩
theorem both10_c (xs ys:List RE)(hl:xs.length+ys.length≤4096):Cn Try.prog 11 [(SlA 49 [U32] (xs.map REA)).va,(SlA 49 [U32] (ys.map REA)).va] ((SlA 49 [U32] ((xs++ys).map REA)).va):=by
 obtain ⟨it,z,e1,e2,e3,e4,e5⟩:=app_elem
 refine Cn.introF Try.func11 rfl zk nq (fun B w0 a hF hst=>?_)
 have hst:St B w0 12 [(0,(SlA 49 [U32] (xs.map REA)).va),(1,(SlA 49 [U32] (ys.map REA)).va)] [] a w0.w:=hst
 obtain ⟨v0,hv0,hst⟩:=St.eqv hst 0 rfl
 obtain ⟨v1,hv1,hst⟩:=St.eqv hst 1 rfl
 refine wp_seq ?_
 refine gl (sts:=[]) (news:=[]) (sp:=[.val 4 _]) [.g 0,.g 1,.o 0] hst (zv rfl (za2 zbj) o0) (fun a w hst=>?_)
 have hst:St B w0 12 [(0,_),(1,_),(4,_)] [] a w:=hst
 refine zt<|gl (sts:=[]) (news:=[]) (sp:=[.val 5 _]) [.g 0,.g 1,.g 2,.o 0] hst (zv rfl (za2 zbj) o0) (fun a w hst=>?_)
 have hst:St B w0 12 [(0,_),(1,_),(4,_),(5,_)] [] a w:=hst
 refine zt ?_
 have hst:=St.wkG (A':=OwnR w0.w.heap.size 49 9 [U32] []) hst 3 rfl own_nil
 refine go_appL (sp:=[.val 6 _,.val 7 _,.val 8 VT,.val 5 VT]) 2 [1,2] 0 1 hst (zv rfl (za1 (gq 3 rfl)) (zv rfl (za1 (gq 0 rfl)) o0)) rfl zk rfl rfl zd rfl zd rfl (again_w hF hv0) Try.underlying22 e1 e2 e3 e4 e5 zd (by simp only [List.length_nil,List.length_map]; omega) zd (fun T hT=>hT) zd (map_n fun _=>rfl) zk nq nq zk zk (fun a w hst=>?_)
 have hst:St B w0 12 [(5,_),(1,_),(4,_)] [] a w:=hst
 refine zt<|go_appL (sp:=[.val 9 _,.val 10 _,.val 11 VT,.val 4 VT]) 2 [] 0 1 hst (zv rfl (za1 (gq 0 rfl)) (zv rfl (za1 (gq 1 rfl)) o0)) rfl zk rfl rfl zd rfl zd rfl (again_w hF hv1) Try.underlying22 e1 e2 e3 e4 e5 zd (by simp only [List.nil_append,List.length_map]; omega) zd (fun T hT=>hT) zd (map_n fun _=>rfl) zk nq nq zk zk (fun a w hst=>?_)
 have hst:St B w0 12 [(4,_)] [] a w:=hst
 refine za0 ?_
 refine wp_ret ?_
 refine zak ?_ (zaf rfl hst (zm 0 rfl))
 rw [List.map_append]; exact own_sl
theorem zcq {p q:Int}(hp : -9223372036854775808≤p)(hp1:p<9223372036854775808)(hq0 : -9223372036854775808≤q)(hq1:q<9223372036854775808)(hq:q≠0):Cn Try.prog 18 [In p,In q] ((RFA (rfOf (Rat.divInt p q))).va):=by
 refine Cn.intro Try.func18 rfl zk nq (fun B w0 a hst=>?_)
 have hst:St B w0 17 [(0,In p),(1,In q)] [] a w0.w:=hst
 refine wp_seq ?_
 refine gl (sts:=[]) (news:=[⟨4,35,ptrH,some 0,_,none⟩]) (sp:=[.alc 0]) [.g 0,.g 1] hst (oc (zao rfl rfl rfl (Str.zero zb1)) o0) (fun a w hst=>?_)
 have hst:St B w0 17 [(0,_),(1,_)] [⟨4,35,ptrH,_⟩] a w:=hst
 refine zt<|gl (sts:=[none]) (news:=[⟨5,35,ptrH,some 6,_,some (7,_)⟩]) (sp:=[.val 8 _,.val 9 _,.val 10 _,.val 7 _,.val 11 _,.val 12 _,.alc 1,.sto 1,.val 6 _]) [.o 8] hst (zv rfl (za1 (gq 0 rfl)) (zv rfl (za1 (gq 1 rfl)) (zv rfl (za5 (xs:=[.tmp 8,.tmp 9]) (ofQ_c hp hp1 hq0 hq1 hq) (.cons (vq 0 rfl) (.cons (vq 1 rfl) .nil))) (zv rfl (za1 (vq 2 rfl)) (zv rfl (r_ex0 (vq 3 rfl)) (zv rfl (r_ex1 (vq 3 rfl)) (oc (zao rfl rfl rfl (Str.zero zb1)) (oc (zae rfl rfl rfl (vq 4 rfl) zam (Eq.trans (b:=4) rfl rfl)) (zv rfl (za2 (vq 5 rfl)) o0))))))))) (fun a w hst=>?_)
 have hst:St B w0 17 [(6,_)] [⟨4,35,ptrH,_⟩,⟨5,35,ptrH,_⟩] a w:=hst
 refine zt ?_
 refine wp_seq ?_
 refine gl (sts:=[none,none]) (news:=[]) (sp:=[.val 13 _,.val 14 _]) [.o 1] hst (zv rfl (za1 (gq 0 rfl)) (zv rfl (zch (vq 0 rfl) za3) o0)) (fun a w hst=>?_)
 have hst:St B w0 17 [(14,_)] [⟨4,35,ptrH,_⟩,⟨5,35,ptrH,_⟩] a w:=hst
 refine za0 ?_
 refine zaa hst (zm 0 rfl) (fun hb0=>?_) (fun hb0=>?_)
 ·simp at hb0
 ·refine wp_skip ?_
  refine zt<|gl (sts:=[some (1,_),none]) (news:=[]) (sp:=[.val 16 _,.sto 0]) [] hst (zv rfl (zap (lz0 1 rfl) zam) (oc (zae rfl rfl rfl (vq 0 rfl) zam (Eq.trans (b:=4) rfl rfl)) o0)) (fun a w hst=>?_)
  have hst:St B w0 17 [] [⟨4,35,ptrH,_⟩,⟨5,35,ptrH,_⟩] a w:=hst
  refine za0 ?_
  refine wp_ret ?_
  refine zak ?_ (zan rfl hst (zm 0 rfl) zam)
  exact zbl
def fiF (xs ys:List RE):Bool:=(((!bydF 0 [elsF (xs.length:Nat) xs,elsF (ys.length:Nat) ys])&&decide (IntKind.i64.wrap ((xs.length:Int)+(ys.length:Int))≤4096))&&(chF xs==0))&&(chF ys==0)
theorem fi_ok {xs ys:List RE}(h:fiF xs ys=true):chF xs=0∧chF ys=0∧xs.length+ys.length≤4096:=by
 unfold fiF at h
 simp only [Bool.and_eq_true,beq_iff_eq,decide_eq_true_eq] at h
 have h1:=(ch_ok h.1.2).1
 have h2:=(ch_ok h.2).1
 have h3:=h.1.1.2
 rw [wi64 zo zo] at h3
 exact ⟨h.1.2,h.2,by omega⟩
theorem fits10_c (xs ys:List RE):Cn Try.prog 6 [(SlA 49 [U32] (xs.map REA)).va,(SlA 49 [U32] (ys.map REA)).va] (Bo (fiF xs ys)):=by
 refine Cn.intro Try.func6 rfl zk nq (fun B w0 a hst=>?_)
 have hst:St B w0 30 [(0,(SlA 49 [U32] (xs.map REA)).va),(1,(SlA 49 [U32] (ys.map REA)).va)] [] a w0.w:=hst
 refine wp_seq ?_
 refine gl (sts:=[]) (news:=[]) (sp:=[.val 4 _]) [.g 0,.g 1,.o 0] hst (zv rfl (za2 zbg) o0) (fun a w hst=>?_)
 have hst:St B w0 30 [(0,_),(1,_),(4,_)] [] a w:=hst
 refine zt<|gl (sts:=[]) (news:=[]) (sp:=((.val 5 _:Sp)::(.val 6 _)::(.val 7 _)::(.val 8 _)::(.val 9 _)::(.val 10 _)::(.val 11 _)::(.val 12 _)::(.val 13 (Wh (_=true) _))::(.val 14 (Wh (_=true) _))::(.val 15 (Wh (_=true) _))::(.val 16 (Wh (_=true) _))::(.val 17 (Wh (_=true) _))::(.val 18 (Wh (_=true) _))::(.val 19 _)::(.val 20 _)::(.val 21 (Wh (_=true) _))::(.val 22 (Wh (_=true) _))::(.val 23 (Wh (_=true) _))::(.val 24 _)::(.val 25 _)::(.val 26 (Wh (_=true) _))::(.val 27 (Wh (_=true) _))::(.val 28 (Wh (_=true) _))::(.val 29 _)::(.val 4 _)::[])) [.o 25] hst (zv rfl (za1 (gq 0 rfl)) (zv rfl (za5 (xs:=[.tmp 5]) (elsCost_c _) (.cons (vq 0 rfl) .nil)) (zv rfl (za1 (gq 1 rfl)) (zv rfl (za5 (xs:=[.tmp 7]) (elsCost_c _) (.cons (vq 2 rfl) .nil)) (zv rfl (r_slice (D:=[]) (l:=[_,_]) (xs:=[.tmp 6,.tmp 8]) (nd_ok zk) sl_62 zk (n_ok zk) nq nq nq (.cons (vq 1 rfl) (.cons (vq 3 rfl) .nil)) rfl rfl) (zv rfl (za5 (xs:=[.tmp 9]) (beyond_c [_,_]) (.cons (vq 4 rfl) .nil)) (zv rfl (r_not (vq 5 rfl)) (zv rfl (za1 (vq 6 rfl)) (oc (zac rfl rfl rfl (vq 7 rfl) nq (fun hg=>za1 (gq 0 rfl))) (oc (zac rfl rfl rfl (vq 7 rfl) nq (fun hg=>r_len Try.underlying22 (za7 (vq 8 rfl) hg))) (oc (zac rfl rfl rfl (vq 7 rfl) nq (fun hg=>za1 (gq 1 rfl))) (oc (zac rfl rfl rfl (vq 7 rfl) nq (fun hg=>r_len Try.underlying22 (za7 (vq 10 rfl) hg))) (oc (zac rfl rfl rfl (vq 7 rfl) nq (fun hg=>zba (za7 (vq 9 rfl) hg) (za7 (vq 11 rfl) hg) (rfl))) (oc (zac rfl rfl rfl (vq 7 rfl) nq (fun hg=>r_leq (za7 (vq 12 rfl) hg) za3)) (zv rfl (zci (vq 7 rfl) (vq 13 rfl)) (zv rfl (za1 (vq 14 rfl)) (oc (zac rfl rfl rfl (vq 15 rfl) nq (fun hg=>za1 (gq 0 rfl))) (oc (zac rfl rfl rfl (vq 15 rfl) nq (fun hg=>za5 (xs:=[.tmp 21]) (benCheck_c _) (.cons (za7 (vq 16 rfl) hg) .nil))) (oc (zac rfl rfl rfl (vq 15 rfl) nq (fun hg=>zc5 (za7 (vq 17 rfl) hg) za3)) (zv rfl (zci (vq 15 rfl) (vq 18 rfl)) (zv rfl (za1 (vq 19 rfl)) (oc (zac rfl rfl rfl (vq 20 rfl) nq (fun hg=>za1 (gq 1 rfl))) (oc (zac rfl rfl rfl (vq 20 rfl) nq (fun hg=>za5 (xs:=[.tmp 26]) (benCheck_c _) (.cons (za7 (vq 21 rfl) hg) .nil))) (oc (zac rfl rfl rfl (vq 20 rfl) nq (fun hg=>zc5 (za7 (vq 22 rfl) hg) za3)) (zv rfl (zci (vq 20 rfl) (vq 23 rfl)) (zv rfl (za2 (vq 24 rfl)) o0)))))))))))))))))))))))))) (fun a w hst=>?_)
 have hst:St B w0 30 [(4,_)] [] a w:=hst
 refine za0 ?_
 refine wp_ret ?_
 refine zak ?_ (zaf rfl hst (zm 0 rfl))
 simp only [List.length_map]; exact zbl
theorem nil_el:Cn Try.prog 12 [EqV (.slice none 0 0)] (MR (benF [])):=(benMatrix_c []).wk (.cons nil_sl .nil)
set_option maxHeartbeats 4000000 in
theorem alive10_c  : Cn Try.prog 5 [] (Bo true):=by
 refine Cn.intro Try.func5 rfl zk nq (fun B w0 a hst=>?_)
 have hst:St B w0 48 [] [] a w0.w:=hst
 refine wp_seq ?_
 refine gl (sts:=[]) (news:=[]) (sp:=[.val 0 _]) [.o 0] hst (zv rfl (za2 zbg) o0) (fun a w hst=>?_)
 have hst:St B w0 48 [(0,_)] [] a w:=hst
 refine zt<|gl (sts:=[]) (news:=[]) (sp:=[.val 6 _,.val 7 _,.val 8 _,.val 9 _,.val 10 _,.val 11 _,.val 12 _,.val 1 _]) [.g 0,.o 7] hst (zv rfl (za5 (xs:=[.const (.int .i64 (1)),.const (.int .i64 (2))]) (zcq zd zd zd zd zd) (.cons za3 (.cons za3 .nil))) (zv rfl (za5 (xs:=[.const (.int .i64 (0)),.const (.int .i64 (1))]) (zcq zd zd zd zd zd) (.cons za3 (.cons za3 .nil))) (zv rfl (zbi (xs:=[(0,.const (.int .u8 (1))),(1,.tmp 6),(2,.tmp 7)]) (qs:=[(0,_),(1,_),(2,_)]) str_elem (.cons ⟨rfl,za3,rfl⟩ (.cons ⟨rfl,(vq 0 rfl),rfl⟩ (.cons ⟨rfl,(vq 1 rfl),rfl⟩ .nil)))) (zv rfl (za5 (xs:=[.const (.int .i64 (2)),.const (.int .i64 (1))]) (zcq zd zd zd zd zd) (.cons za3 (.cons za3 .nil))) (zv rfl (za5 (xs:=[.const (.int .i64 (0)),.const (.int .i64 (1))]) (zcq zd zd zd zd zd) (.cons za3 (.cons za3 .nil))) (zv rfl (zbi (xs:=[(0,.const (.int .u8 (2))),(1,.tmp 9),(2,.tmp 10)]) (qs:=[(0,_),(1,_),(2,_)]) str_elem (.cons ⟨rfl,za3,rfl⟩ (.cons ⟨rfl,(vq 3 rfl),rfl⟩ (.cons ⟨rfl,(vq 4 rfl),rfl⟩ .nil)))) (zv rfl (r_slice (D:=[U32]) (l:=[_,_]) (xs:=[.tmp 8,.tmp 11]) (nd_ok zk) sl_22 zk (n_ok zk) nq nq nq (.cons (vq 2 rfl) (.cons (vq 5 rfl) .nil)) rfl rfl) (zv rfl (za2 (vq 6 rfl)) o0)))))))) (fun a w hst=>?_)
 have hst:St B w0 48 [(0,_),(1,_)] [] a w:=hst
 refine zt<|gl (sts:=[]) (news:=[⟨2,37,ptrH,some 5,_,some (6,_)⟩]) (sp:=[.val 14 _,.val 15 _,.val 13 _,.val 16 _,.val 17 _,.alc 0,.sto 0,.val 3 _]) [.g 0,.o 7] hst (zv rfl (za1 (gq 1 rfl)) (zv rfl (za5 (xs:=[.tmp 14]) (benMatrix_c [⟨_,_,_⟩,⟨_,_,_⟩]) (.cons (vq 0 rfl) .nil)) (zv rfl (za1 (vq 1 rfl)) (zv rfl (r_ex0 (vq 2 rfl)) (zv rfl (r_ex1 (vq 2 rfl)) (oc (zao rfl rfl rfl (Str.zero zar)) (oc (zae rfl rfl rfl (vq 3 rfl) zb9 (Eq.trans (b:=16) rfl rfl)) (zv rfl (za2 (vq 4 rfl)) o0)))))))) (fun a w hst=>?_)
 have hst:St B w0 48 [(0,_),(3,_)] [⟨2,37,ptrH,_⟩] a w:=hst
 refine zt<|gl (sts:=[none]) (news:=[⟨4,37,ptrH,some 4,_,some (5,_)⟩]) (sp:=[.val 19 _,.val 18 _,.val 20 _,.val 21 _,.alc 1,.sto 1,.val 5 _]) [.g 0,.g 1,.o 6] hst (zv rfl (za5 (xs:=[.const (.slice none 0 0)]) nil_el (.cons zbj .nil)) (zv rfl (za1 (vq 0 rfl)) (zv rfl (r_ex0 (vq 1 rfl)) (zv rfl (r_ex1 (vq 1 rfl)) (oc (zao rfl rfl rfl (Str.zero zar)) (oc (zae rfl rfl rfl (vq 2 rfl) zb9 (Eq.trans (b:=16) rfl rfl)) (zv rfl (za2 (vq 3 rfl)) o0))))))) (fun a w hst=>?_)
 have hst:St B w0 48 [(0,_),(3,_),(5,_)] [⟨2,37,ptrH,_⟩,⟨4,37,ptrH,_⟩] a w:=hst
 refine zt<|zaw (anc:=[[],[0],[0,1],[0,1,2],[0,1,2,3],[0,1,2,3,4],[0,1,2,3,4,5],[0,1,2,3,4,5,6],[0,1,2,3,4,5,6,7],[0,1,2,3,4,5,6,7,8],[0,1,2,3,4,5,6,7,8,9],[0,1,2,3,4,5,6,7,8,9,10],[0,1,2,3,4,5,6,7,8,9,10,11],[0,1,2,3,4,5,6,7,8,9,10,11,12],[0,1,2,3,4,5,6,7,8,9,10,11,12],[0,1,2,3,4,5,6,7,8,9,10,11,12,14],[0,1,2,3,4,5,6,7,8,9,10,11,12,14,15],[0,1,2,3,4,5,6,7,8,9,10,11,12,14,15,16],[0,1,2,3,4,5,6,7,8,9,10,11,12,14,15,16,17],[0,1,2,3,4,5,6,7,8,9,10,11,12,13,14,15,16,17,18],[0,1,2,3,4,5,6,7,8,9,10,11,12,13,14,15,16,17,18,19],[0,1,2,3,4,5,6,7,8,9,10,11,12,13,14,15,16,17,18,19,20],[0,1,2,3,4,5,6,7,8,9,10,11,12,13,14,15,16,17,18,19,20,21],[0,1,2,3,4,5,6,7,8,9,10,11,12,13,14,15,16,17,18,19,20,21],[0,1,2,3,4,5,6,7,8,9,10,11,12,13,14,15,16,17,18,19,20,21,22,23],[0,1,2,3,4,5,6,7,8,9,10,11,12,13,14,15,16,17,18,19,20,21,22,23,24],[0,1,2,3,4,5,6,7,8,9,10,11,12,13,14,15,16,17,18,19,20,21,22,23,24,25]]) (sts:=[none,none]) (news:=[]) (sp:=((.val 22 _:Sp)::(.val 23 _)::(.val 24 _)::(.val 25 (Wh (_=true) _))::(.val 26 (Wh (_=true) _))::(.val 27 _)::(.val 28 _)::(.val 29 (Wh (_=true) _))::(.val 30 (Wh (_=true) _))::(.val 31 (Wh (_=true) _))::(.val 32 (Wh (_=true) _))::(.val 33 _)::(.val 34 _)::(.val 35 (Wh (_=true) _))::(.val 36 (Wh (_=true) _))::(.val 37 (Wh (_=true) _))::(.val 38 (Wh (_=true) _))::(.val 39 (Wh (_=true) _))::(.val 40 (Wh (_=true) _))::(.val 41 (Wh (_=true) _))::(.val 42 _)::(.val 43 _)::(.val 44 (Wh (_=true) _))::(.val 45 (Wh (_=true) _))::(.val 46 (Wh (_=true) _))::(.val 47 _)::(.val 0 _)::[])) [.o 26] za6 hst (zv rfl (za1 (gq 1 rfl)) (zv rfl (zc5 (vq 0 rfl) za3) (zv rfl (za1 (vq 1 rfl)) (oc (zac rfl rfl rfl (vq 2 rfl) nq (fun hg=>za1 (gq 2 rfl))) (oc (zac rfl rfl rfl (vq 2 rfl) nq (fun hg=>zc5 (za7 (vq 3 rfl) hg) za3)) (zv rfl (zci (vq 2 rfl) (vq 4 rfl)) (zv rfl (za1 (vq 5 rfl)) (oc (zac rfl rfl rfl (vq 6 rfl) nq (fun hg=>zbi (xs:=[]) (qs:=[]) str_elem .nil)) (oc (zac rfl rfl rfl (vq 6 rfl) nq (fun hg=>r_slice (D:=[U32]) (l:=[_]) (xs:=[.tmp 29]) (nd_ok zk) sl_22 zk (n_ok zk) nq nq nq (.cons (za7 (vq 7 rfl) hg) .nil) rfl rfl)) (oc (zac rfl rfl rfl (vq 6 rfl) nq (fun hg=>za5 (xs:=[.tmp 30]) (benCheck_c [re0]) (.cons (za7 (vq 8 rfl) hg) .nil))) (oc (zac rfl rfl rfl (vq 6 rfl) nq (fun hg=>zc5 (za7 (vq 9 rfl) hg) za3)) (zv rfl (zci (vq 6 rfl) (vq 10 rfl)) (zv rfl (za1 (vq 11 rfl)) (oc (zac rfl rfl rfl (vq 12 rfl) nq (fun hg=>zap (lz0 0 rfl) zb9)) (oc (zac rfl rfl rfl (vq 12 rfl) nq (fun hg=>za5 (xs:=[.const (.int .i64 (1)),.const (.int .i64 (1))]) (zcq zd zd zd zd zd) (.cons za3 (.cons za3 .nil)))) (oc (zac rfl rfl rfl (vq 12 rfl) nq (fun hg=>za5 (xs:=[.const (.int .i64 (1)),.const (.int .i64 (2))]) (zcq zd zd zd zd zd) (.cons za3 (.cons za3 .nil)))) (oc (zac rfl rfl rfl (vq 12 rfl) nq (fun hg=>za5 (xs:=[.const (.int .i64 (-2)),.const (.int .i64 (1))]) (zcq zd zd zd zd zd) (.cons za3 (.cons za3 .nil)))) (oc (zac rfl rfl rfl (vq 12 rfl) nq (fun hg=>za5 (xs:=[.const (.int .i64 (0)),.const (.int .i64 (1))]) (zcq zd zd zd zd zd) (.cons za3 (.cons za3 .nil)))) (oc (zac rfl rfl rfl (vq 12 rfl) nq (fun hg=>zbi (xs:=[(0,.tmp 36),(1,.tmp 37),(2,.tmp 38),(3,.tmp 39)]) (qs:=[(0,_),(1,_),(2,_),(3,_)]) zar (.cons ⟨rfl,(za7 (vq 14 rfl) hg),rfl⟩ (.cons ⟨rfl,(za7 (vq 15 rfl) hg),rfl⟩ (.cons ⟨rfl,(za7 (vq 16 rfl) hg),rfl⟩ (.cons ⟨rfl,(za7 (vq 17 rfl) hg),rfl⟩ .nil)))))) (oc (zac rfl rfl rfl (vq 12 rfl) nq (fun hg=>za5 (xs:=[.tmp 35,.tmp 40]) (sameMatrix_c _ ⟨_,_,_,_⟩) (.cons (za7 (vq 13 rfl) hg) (.cons (za7 (vq 18 rfl) hg) .nil)))) (zv rfl (zci (vq 12 rfl) (vq 19 rfl)) (zv rfl (za1 (vq 20 rfl)) (oc (zac rfl rfl rfl (vq 21 rfl) nq (fun hg=>zap (lz0 1 rfl) zb9)) (oc (zac rfl rfl rfl (vq 21 rfl) nq (fun hg=>za5 (xs:=[]) (one09_q.wkp qmA.va) .nil)) (oc (zac rfl rfl rfl (vq 21 rfl) nq (fun hg=>za5 (xs:=[.tmp 44,.tmp 45]) (sameMatrix_c _ _) (.cons (za7 (vq 22 rfl) hg) (.cons (za7 (vq 23 rfl) hg) .nil)))) (zv rfl (zci (vq 21 rfl) (vq 24 rfl)) (zv rfl (za2 (vq 25 rfl)) o0))))))))))))))))))))))))))) zk zk zk zk (fun a w hst=>?_)
 have hst:St B w0 48 [(0,_)] [⟨2,37,ptrH,_⟩,⟨4,37,ptrH,_⟩] a w:=hst
 refine za0 ?_
 refine wp_ret ?_
 refine zak ?_ (zaf rfl hst (zm 0 rfl))
 exact zc9 (congrArg Bo zk)
end Go.Proofs.Ytljkepdpoelpkaa
namespace Go.Proofs.Ytljkepdpoelpkaa
open Go Go.RowKit
def TyIn (w:World)(k:Nat)(Ts:List TypeId):Prop:=∃ c T fz,w.heap[k]?=some (.cells c T fz)∧T∈Ts
abbrev Wid (B:Nat)(w:World)(Ts:List TypeId):Bs:=⟨w,fun k=>B≤k∧TyIn w k Ts,false⟩
open Classical in
theorem kept_gen {p:World→Prop}{B:Nat}{Ts:List TypeId}(hcg:∀ w w',Grow w w'→p w→p w')(hwr:∀ w w' g c T fz,w.heap[g]?=some (.cells c T fz)→T∈Ts→B≤g→Wr g w w'→p w→p w')
  {w w':World} (hk:Kept (Wid B w Ts) w') (hp:p w):p w':=by
 let W:Nat→World:=fun m=>{ w with heap:=w.heap.mapIdx fun k o=>if k<m∧(Wid B w Ts).F k then (w'.heap[k]?).getD o else o }
 have hW:∀ m k,(W m).heap[k]?=if k<m∧(Wid B w Ts).F k∧k<w.heap.size then w'.heap[k]? else w.heap[k]?:=fun m k=>by
  show (w.heap.mapIdx _)[k]?=_
  rw [Array.getElem?_mapIdx]
  by_cases hlt:k<w.heap.size
  ·rw [Array.getElem?_eq_getElem hlt]
   have hlt':k<w'.heap.size:=Nat.lt_of_lt_of_le hlt hk.size
   rw [Array.getElem?_eq_getElem hlt']
   by_cases hc:k<m∧(Wid B w Ts).F k
   ·rw [if_pos ⟨hc.1,hc.2,hlt⟩,Option.map_some,if_pos hc]
    rfl
   ·rw [if_neg (fun h=>hc ⟨h.1,h.2.1⟩),Option.map_some,if_neg hc]
  ·have h0:w.heap[k]?=none:=Array.getElem?_eq_none zo
   rw [if_neg (fun h=>hlt h.2.2),h0]
   rfl
 have hs:∀ m,(W m).heap.size=w.heap.size:=fun m=>by simp [W]
 have key:∀ m,p (W m):=fun m=>by
  induction m with
  | zero=>exact hcg w (W 0) ⟨rfl,rfl,rfl,by rw [hs]; exact Nat.le_refl _,fun k hk=>by rw [hW,if_neg (fun h=>by omega)]⟩ hp
  | succ m ih =>
   by_cases hF:(Wid B w Ts).F m
   ·obtain ⟨hB,c,T,fz,hc,hT⟩:=hF
    refine hwr (W m) (W (m+1)) m c T fz ?_ hT hB ⟨rfl,rfl,rfl,by rw [hs,hs],fun k hk=>?_⟩ ih
    ·rw [hW,if_neg (fun h=>by omega)]; exact hc
    ·rw [hW,hW]
     by_cases h1:k<m
     ·simp [h1,Nat.lt_succ_of_lt h1]
     ·have:¬ k<m+1:=by omega
      simp [h1,this]
   ·refine hcg (W m) (W (m+1)) ⟨rfl,rfl,rfl,by rw [hs,hs]; exact Nat.le_refl _,fun k hk=>?_⟩ ih
    rw [hW,hW]
    by_cases h1:k<m
    ·simp [h1,Nat.lt_succ_of_lt h1]
    ·by_cases h2:k=m
     ·subst h2
      rw [if_neg (fun h=>hF h.2.1),if_neg (fun h=>by omega)]
     ·have:¬ k<m+1:=by omega
      simp [h1,this]
 refine hcg (W w.heap.size) w' ⟨hk.os,hk.tape,hk.output,by rw [hs]; exact hk.size,fun k hlt=>?_⟩ (key _)
 rw [hs] at hlt
 rw [hW]
 by_cases hF:(Wid B w Ts).F k
 ·rw [if_pos ⟨hlt,hF,hlt⟩]
 ·rw [if_neg (fun h=>hF h.2.1)]
  exact hk.block k hlt hF
theorem VA.kept {A:VA}{B:Nat}{v:Value}{w w':World}{Ts:List TypeId}(hp:A.p B v w)(hk:Kept (Wid B w Ts) w')(hd:∀ T∈Ts,T ∉ A.deps):A.p B v w' :=
 kept_gen (p:=fun w=>A.p B v w) (fun w w' hg h=>A.grow _ _ _ _ hg h) (fun w w' g c T fz hc hT hB hW h=>A.wr _ _ _ _ _ _ _ _ hc (hd T hT) hB hW h) hk hp
theorem As.kept {A:As}{B:Nat}{cs:List Value}{w w':World}{Ts:List TypeId}(hp:A.p B cs w)(hk:Kept (Wid B w Ts) w')(hd:∀ T∈Ts,T ∉ A.deps):A.p B cs w' :=
 kept_gen (p:=fun w=>A.p B cs w) (fun w w' hg h=>A.grow _ _ _ _ hg h) (fun w w' g c T fz hc hT hB hW h=>A.wr _ _ _ _ _ _ _ _ hc (hd T hT) hB hW h) hk hp
section
open Rg
variable {P:Program} {Q:Exit→Act→World→Prop} {B N:Nat} {w0:Bs} {Γ:List (Nat × VA)} {Λ:List Lc} {a:Act} {w:World} {ops:Array Oper} {i:Nat} {K:Act→World→Prop}
end
def BuA (T E:TypeId)(m:Nat)(D:List TypeId)(g:Nat)(v u:Value)(l:List As):As where
 n:=1
 ag:=false
 p B cs w:=cs=[ptr g]∧B≤g∧w.heap[g]?=some (.cells #[v] T (0,0))∧(OwnR B E m D l).p B u w
 deps:=T::E::D
 len:=by rintro B cs w ⟨rfl,_⟩; rfl
 one:=by
  rintro B cs w ⟨rfl,_⟩ c hc
  obtain rfl:=List.mem_singleton.1 hc
  rfl
 ag1:=fun _=>rfl
 cg:=fun B cs w w' hg ⟨h1,h2,h3,h4⟩=>⟨h1,h2,hg.heap h3,(OwnR B E m D l).cg _ _ _ _ hg h4⟩
 wr:=by
  rintro B cs w w' k c T' fz hk hT hB hW ⟨h1,h2,h3,h4⟩
  simp only [List.mem_cons,not_or] at hT
  have n1:g≠k:=by
   rintro rfl
   rw [hk] at h3
   injection h3 with h3
   injection h3 with _ h3 _
   exact hT.1 h3
  exact ⟨h1,h2,(hW.block g n1).trans h3,(OwnR B E m D l).wr _ _ _ _ _ _ _ _ hk (by show T' ∉ E::D; simp only [List.mem_cons,not_or]; exact hT.2) hB hW h4⟩
theorem bu_wk {T E:TypeId}{m:Nat}{D:List TypeId}{g:Nat}{v u:Value}{l l':List As}(h:All2 WkA l l')(hm:∀ A∈l',A.n=m)(hD:∀ A∈l',∀ T∈A.deps,T∈D):WkA (BuA T E m D g v u l) (BuA T E m D g v u l'):=⟨rfl,rfl,fun B cs w ⟨h1,h2,h3,h4,h5,ds,h6,h7⟩=>⟨h1,h2,h3,hm,hD,ds,(zbv h).2.2 _ _ _ h6,by rw [← h.length]; exact h7⟩⟩
def OwV (E:TypeId)(m:Nat)(D:List TypeId)(v:Value)(l:List As):VA where
 p B x w:=x=v∧(OwnR B E m D l).p B v w
 deps:=E::D
 cg:=fun B x w w' hg ⟨h1,h2⟩=>⟨h1,(OwnR B E m D l).cg _ _ _ _ hg h2⟩
 wr:=fun B x w w' g c T fz h1 h2 h3 h4 ⟨h5,h6⟩=>⟨h5,(OwnR B E m D l).wr _ _ _ _ _ _ _ _ h1 h2 h3 h4 h6⟩
theorem owv_sl {E:TypeId}{m:Nat}{D:List TypeId}{v:Value}{l:List As}:Wk (OwV E m D v l) (SlA E D l).va:=fun B x w ⟨e,h⟩=>own_sl B x w (e▸h)
theorem owv_eq {E:TypeId}{m:Nat}{D:List TypeId}{v:Value}{l:List As}:Wk (OwV E m D v l) (EqV v):=fun B x w ⟨e,h⟩=>e
theorem own_dest {b B E m:Nat}{D:List TypeId}{v:Value}{l:List As}{w:World}(h:(OwnR b E m D l).p B v w)(hl:0<l.length):∃ gr cap,v=.slice (some ⟨gr,0,none⟩) l.length cap:=by
 obtain ⟨_,_,ds,_,_,h5⟩:=h
 rcases h5 with ⟨_,h5⟩ | ⟨g,cap,cur,e1,_⟩
 ·omega
 ·exact ⟨g,cap,e1⟩
theorem St.dest {B N:Nat}{w0:Bs}{Γ:List (Nat × VA)}{Λ:List Lc}{a:Act}{w:World}{T E:TypeId}{m:Nat}{D:List TypeId}{g sx:Nat}{Tp:TypeId}{v u:Value}{l:List As}(k:Nat)(h:St B w0 N Γ Λ a w)(hl:Λ[k]?=some ⟨sx,Tp,ptrH,BuA T E m D g v u l⟩)(h0:0<l.length):∃ gr cap,u=.slice (some ⟨gr,0,none⟩) l.length cap:=by
 obtain ⟨_,cs,_,_,_,_,_,_,q⟩:=h.locs _ (List.mem_of_getElem? hl)
 exact own_dest q h0
section
variable {P:Program} {R:Rg} {Q:Exit→Act→World→Prop} {B i:Nat} {w0:Bs} {T E Tp:TypeId} {m:Nat} {D:List TypeId} {g:Nat} {v u:Value} {l:List As}
theorem r_ptB {b:Nat}{ty:TypeId}(hl:Loc R i b Tp (BuA T E m D g v u l))(ht:Ty P ty 1 false):Wv P Q R B w0 i (.load ty (.tmp b)) (EqV (ptr g)) :=
 (zap hl ht).wk fun B x w ⟨cs,⟨e,_⟩,hv⟩=>by subst e; exact hv
theorem r_nilP {x:Operand}{a:Addr}(hx:Has R B w0 i x (EqV (.pointer (some a)))):Wv P Q R B w0 i (.nilCheck x) (EqV (.pointer (some a))) :=
 zb5 fun _ _ _ _ _ a' w av=>by
  have e:a'.eval x=.pointer (some a):=hx a' w av
  exact ⟨.pointer (some a),w,by simp [execOp,e],Grow.refl w,rfl⟩
theorem r_nilEl {x:Operand}{A:As}(hx:Has R B w0 i x (ElP E A)):Wv P Q R B w0 i (.nilCheck x) (ElP E A) :=
 zb5 fun _ _ _ _ _ a' w av=>by
  obtain ⟨b,o,cs,e,h⟩:=hx a' w av
  exact ⟨.pointer (some ⟨b,o,none⟩),w,by simp [execOp,e],Grow.refl w,b,o,cs,rfl,h⟩
theorem r_valB {b:Nat}{x:Operand}{ty:TypeId}(hl:Loc R i b Tp (BuA T E m D g v v l))(hx:Has R B w0 i x (EqV (ptr g)))(ht:Ty P ty 1 false):Wv P Q R B w0 i (.load ty x) (OwV E m D v l) :=
 zb5 fun _ _ _ _ _ a w av=>by
  obtain ⟨_,cs,_,_,_,_,_,h3,h4⟩:=hl.ok av
  have e:a.eval x=.pointer (some ⟨g,0,none⟩):=hx a w av
  have:=zc2 ht w g 0 [v] rfl (fun _=>rfl) (fun j u hu=>by
   rw [Nat.zero_add,cell_of_row w g j #[v] T _ h3]
   simpa using hu)
  exact ⟨v,w,by simp [execOp,e,Instr.loadAt,Instr.sureAddr,this,shape],Grow.refl w,rfl,h4⟩
theorem r_idxV {x y:Operand}{S:TypeId}{k gr n c:Nat}{kd:IntKind}(hS:Sl P S E m)(h0:m≠0)(hx:Has R B w0 i x (OwV E m D (.slice (some ⟨gr,0,none⟩) n c) l))(hy:Has R B w0 i y (NumA kd k).va)(hk:k<n) :
  Wv P Q R B w0 i (.indexAddr S x y) (EqV (.pointer (some ⟨gr,k*m,none⟩))) :=
 zb5 fun _ _ _ _ _ a w av=>by
  have hv:a.eval x=.slice (some ⟨gr,0,none⟩) n c:=(hx a w av).1
  have e:=zbc (hy a w av)
  obtain ⟨hs1,hs2⟩:=hS
  refine ⟨.pointer (some ⟨gr,k*m,none⟩),w,?_,Grow.refl w,rfl⟩
  cases hi:P.info? E with
  | none=>rw [hi] at hs2; simp at hs2
  | some it =>
   rw [hi] at hs2
   have hsz:it.size=m:=by simpa using hs2
   have hk2:¬ n≤k:=by omega
   simp [execOp,hv,e,Instr.indexAt,asIntOf,run_underlying hs1,hk2,sizeOf,typeInfo,hi,hsz,add_k]
theorem has_elB {b:Nat}{x:Operand}{k gr n c:Nat}{A:As}(hl:Loc R i b Tp (BuA T E m D g v (.slice (some ⟨gr,0,none⟩) n c) l))(hk:l[k]?=some A)(hx:Has R B w0 i x (EqV (.pointer (some ⟨gr,k*m,none⟩)))):Has R B w0 i x (ElP E A):=fun a w av=>by
 obtain ⟨_,cs,_,_,_,_,_,_,h1,h2,ds,h3,hln,h5⟩:=hl.ok av
 have e:a.eval x=.pointer (some ⟨gr,k*m,none⟩):=hx a w av
 have hlt:k<l.length:=(List.getElem?_eq_some_iff.1 hk).1
 rcases h5 with ⟨h5,_⟩ | ⟨g',cap,cur,e1,e2,e3,e4,e5,e6,e7⟩
 ·cases h5
 ·injection e1 with e1 e1n e1c
  injection e1 with e1
  injection e1 with e1
  subst e1
  obtain ⟨p1,l1⟩:=cat_part h3 hk
  have ho:=offs_all h1 (k:=k) zo
  unfold offs at ho
  rw [ho] at p1 l1
  rw [e]
  refine ⟨gr,k*m,_,rfl,(Array.getElem?_eq_some_iff.1 e3).1,.inr ⟨_,_,e3⟩,p1,fun j u hu=>?_⟩
  rw [List.getElem?_take] at hu
  split at hu
  ·rw [List.getElem?_drop] at hu
   rw [cell_of_row w gr (k*m+j) cur E _ e3]
   rw [← e7,List.getElem?_take] at hu
   split at hu
   ·simpa using hu
   ·cases hu
  ·cases hu
theorem r_cutV {x y:Operand}{S:TypeId}{k gr n c:Nat}{kd:IntKind}(hS:Sl P S E m)(hx:Has R B w0 i x (OwV E m D (.slice (some ⟨gr,0,none⟩) n c) l))(hy:Has R B w0 i y (NumA kd k).va)(hk:k<n) :
  Wv P Q R B w0 i (.slice S x none (some y) none) (EqV (.slice (some ⟨gr,0,none⟩) k c)) :=
 zb5 fun _ _ _ _ _ a w av=>by
  obtain ⟨hv,_,_,ds,_,hln,h5⟩:=hx a w av
  have e:=zbc (hy a w av)
  obtain ⟨hs1,hs2⟩:=hS
  have hE:P.elem S=E:=by simp [Program.elem,hs1]
  have hs1':P.underlying S=some (.slice (P.elem S)):=by rw [hE]; exact hs1
  have hcn:n≤c:=by
   rcases h5 with ⟨h5,_⟩ | ⟨g',cap,cur,e1,e2,e3,e4,e5,e6,e7⟩
   ·cases h5
   ·injection e1 with e1 e1n e1c
    omega
  have hr:=run_slice_h (P:=P) w S (some ⟨gr,0,none⟩) n c hs1' kd (k:Int) zo zo
  have hsz:(sizeOf (P.elem S)).run P w=.ok m w:=by
   rw [hE]
   cases hi:P.info? E with
   | none=>rw [hi] at hs2; simp at hs2
   | some it=>rw [hi] at hs2; simp [sizeOf,typeInfo,hi]; simpa using hs2
  rw [hsz] at hr
  refine ⟨_,w,?_,Grow.refl w,rfl⟩
  simp only [execOp,hv,e,Option.map_some,Option.map_none,run_sliceAt_slice _ _ _ _ _ _ hs1',Sem.run_bind,Sem.run_pure]
  erw [hr]
  have hc0:¬ c=0:=by omega
  simp [sliced,hc0,add_k]
end
def CB (P:Program)(f:FuncId)(Tp T:TypeId)(Ts:List TypeId)(A0 A1:As)(pre:List VA)(post:VA):Prop :=
 (∃ fn, P.funcs[f]? = some fn ∧ (fn.name == "runtime.NumGoroutine") = false ∧ fn.body.isNone = false) ∧
 ∀ (B:Nat) (w:World) (c g:Nat) (cs args:List Value),B≤c→B≤g→w.heap[c]?=some (.cells #[ptr g] Tp (0,0))→w.heap[g]?=some (.cells cs.toArray T (0,0))→A0.p B cs w→All2 (fun (A:VA) v=>A.p B v w) pre args →
  Calls P f (args++[ptr c]).toArray w fun e w'=>∃ v cs',e=.returned v∧post.p B v w'∧Kept (Wid B w Ts) w'∧w'.heap[g]?=some (.cells (List.toArray cs') T (0,0))∧A1.p B cs' w'
def RQb (B:Nat)(w0:Bs)(c g:Nat)(Tp T:TypeId)(A1:As)(post:VA):Ending→World→Prop:=fun e w'=>∃ v cs',e=.returned v∧post.p B v w'∧Kept w0 w'∧w'.heap[c]?=some (.cells #[ptr g] Tp (0,0))∧w'.heap[g]?=some (.cells (List.toArray cs') T (0,0))∧A1.p B cs' w'
theorem all2_one {α β:Type}{R':α→β→Prop}{l:List α}{m:List β}{x:α}{y:β}(h:All2 R' l m)(hx:R' x y):All2 R' (l++[x]) (m++[y]):=all2_app h (.cons hx .nil)
theorem CB.intro {P : Program} {f : FuncId} {fn : Func} {cd : Code} {Tp T E : TypeId} {Ts : List TypeId} {m : Nat} {D : List TypeId} {l : List As} {A1 : As} {pre : List VA} {post : VA} (hf : P.funcs[f]? = some fn) (hb : fn.body = some cd) (hn : (fn.name == "runtime.NumGoroutine") = false) (hsz : pre.length + 1 ≤ fn.ntmps)
  (h:∀ (B c g:Nat) (v:Value) (w0:Bs) (a:Act),(∀ E,Ts.contains E=true→RowMay w0 B E)→St B w0 fn.ntmps (argΓ (pre++[EqV (ptr c)])) [⟨pre.length,Tp,ptrH,BuA T E m D g v v l⟩] a w0.w→cd.wp P (bPost P fn (RQb B w0 c g Tp T A1 post)) a w0.w):CB P f Tp T Ts (OwnC E m D l) A1 pre post:=by
 refine ⟨⟨fn,hf,hn,by rw [hb]; rfl⟩,fun B w c g cs args hBc hBg hc hg hp ha=>?_⟩
 obtain ⟨v,rfl,hown⟩:=hp
 have hlc:=(Array.getElem?_eq_some_iff.1 hc).1
 have hl:=ha.length
 have ha':All2 (fun (A:VA) v=>A.p B v w) (pre++[EqV (ptr c)]) (args++[ptr c]):=all2_one ha rfl
 refine (zbw hf hb (h B c g v ⟨w,fun k=>k=c∨(Wid B w Ts).F k,false⟩ _ (fun E hE w1 g' cc fz hk hB' hcc=>?_) ?_)).mono fun _ w' ⟨v',cs',he,hv,hk,h1,h2,h3⟩=>⟨v',cs',he,hv,?_,h2,h3⟩
 ·by_cases hlt:g'<w.heap.size
  ·by_cases hF:g'=c∨(Wid B w Ts).F g'
   ·exact .inr hF
   ·exact .inr (.inr ⟨hB',cc,E,fz,(hk.block g' hlt hF).symm.trans hcc,by simpa using hE⟩)
  ·exact .inl (Nat.le_of_not_lt hlt)
 ·refine ⟨fun k hk=>?_,DefOk.nil rfl,?_,Kept.refl _,All2.args ha',fun l' hl'=>?_,fun l' hl' m' hm' hne=>?_⟩
  ·rcases hk with hk | hk | hk
   ·exact Nat.le_trans hBc (Nat.le_trans (Nat.le_of_lt hlc) hk)
   ·exact hk▸hBc
   ·exact hk.1
  ·simp only [Array.size_append,List.size_toArray,Array.size_replicate,List.length_append,List.length_cons,List.length_nil]
   omega
  ·simp at hl'
   subst hl'
   have h0:=All2.args (N:=fn.ntmps-(args++[ptr c]).toArray.size) ha' (pre.length,EqV (ptr c)) (by
    unfold argΓ
    exact List.mem_map.2 ⟨(EqV (ptr c),pre.length),List.mem_zipIdx_iff_getElem?.2 (by simp),rfl⟩)
   exact ⟨c,[ptr g],h0,.inr (.inl rfl),hc,rfl,hBg,hg,hown⟩
  ·simp at hl' hm'
   subst hl' hm'
   exact absurd rfl hne
 ·refine ⟨hk.os,hk.tape,hk.output,hk.size,fun k hk1 hk2=>?_⟩
  by_cases hkc:k=c
  ·subst hkc
   exact h1.trans hc.symm
  ·exact hk.block k hk1 fun hh=>hh.elim hkc hk2
theorem ret_b {P:Program}{fn:Func}{B N c g pl:Nat}{w0:Bs}{Γ:List (Nat × VA)}{Λ:List Lc}{a:Act}{w:World}{Tp T E:TypeId}{m:Nat}{D:List TypeId}{u:Value}{l:List As}{post:VA}(h:St B w0 N Γ Λ a w)(hm:(pl,EqV (ptr c))∈Γ)(hl:(⟨pl,Tp,ptrH,BuA T E m D g u u l⟩:Lc)∈Λ)
  (hb:bPost P fn (RQ B w0 post) .ret a w):bPost P fn (RQb B w0 c g Tp T (OwnC E m D l) post) .ret a w:=by
 refine bPost_map h hb fun v w h ⟨v',e1,e2,e3⟩=>?_
 obtain ⟨g',cs,f1,_,f3,f4,f5,f6,f7⟩:=h.locs _ hl
 replace f1:a.eval (.tmp pl)=ptr g':=f1
 have f0:a.eval (.tmp pl)=ptr c:=h.vals _ hm
 have:g'=c:=Rg.Hd.inj (H:=ptrH) (H':=ptrH) (show blk (ptr g')=blk (ptr c) by rw [← f1,← f0])
 subst this f4
 exact ⟨v',[u],e1,e2,e3,f3,f6,u,rfl,f7⟩
section
open Rg
variable {P:Program} {Q:Exit→Act→World→Prop} {B N:Nat} {w0:Bs} {Γ:List (Nat × VA)} {Λ:List Lc} {a:Act} {w:World} {ops:Array Oper} {i:Nat} {K:Act→World→Prop} {T E Tp:TypeId} {m:Nat} {D:List TypeId} {g:Nat} {v:Value} {l:List As}
theorem op_appB {d s t sx:Nat}{S T1:TypeId}{ps:String}{af:Array Edge}{X:As}{bytes:Nat}{D':List TypeId}{it:TypeInfo}{z:Value}(src:List Nat)(ks ku e:Nat)
  (ho:ops[i]?=some ⟨some d,.call ⟨.builtin .append,#[.tmp s,.tmp t],#[S,S]⟩,T1,ps,af,none⟩) (h:St B w0 N Γ Λ a w)
  (hs:Γ[ks]?=some (s,EqV v)) (hu:Γ[ku]?=some (t,(SlA E D' [X]).va)) (hl:Λ[e]?=some ⟨sx,Tp,ptrH,BuA T E m D g v v l⟩) (hTE:(Tp != E)=true) (hT:(T != E)=true) (hED:D.contains E=false) (hD':D'.all (fun t=>D.contains t)=true) (hXn:X.n=m) (hrm:RowMay w0 B E)
  (hS:P.underlying S=some (.slice E)) (hi:P.info? E=some it) (hz:it.zero=some z) (hsz1:it.size=m) (hby:it.bytes=bytes) (hzs:z.cells.size=m) (hm0:0<m) (hn:(l.length+1)*bytes≤140737488355328) (hn2:l.length≤1000000000000000)
  (hd:d<N) (hΓ:Γ.all (fun x=>x.1 != d)=true) (hΛd:Λ.all (fun l=>l.s != d)=true)
  (hsrc:src.all (fun k=>match Γ[k]? with | some y => !y.2.deps.contains E | none=>false)=true) (hΛ:Λ.zipIdx.all (fun x=>x.2==e || (x.1.T != E && !x.1.A.deps.contains E))=true)
  (hK:∀ v' w',v'.oneCell'=true→v'.cells = #[v']→St B w0 N ((d,EqV v')::src.filterMap fun k=>Γ[k]?) (Λ.set e ⟨sx,Tp,ptrH,BuA T E m D g v v' (l++[X])⟩) (a.put (some d) v') w'→K (a.put (some d) v') w'):wpOp P ops Q i K a w:=by
 obtain ⟨g0,cs0,q1,q2,q3,q4,q5,q6,q7,q8,ds,q9,q10⟩:=h.locs _ (List.mem_of_getElem? hl)
 have hED':E ∉ D:=by simpa using hED
 have hDD:∀ t∈D',t∈D:=fun t ht=>by simpa using List.all_eq_true.1 hD' t ht
 obtain ⟨_,⟨hXd,_⟩,_⟩:=h.vals _ (List.mem_of_getElem? hu)
 have hTE':T≠E:=by simpa using hT
 refine op_appS (X:=X) (xs:=ds) (n:=l.length) (m:=m) (bytes:=bytes) (A1:=fun v'=>BuA T E m D g v v' (l++[X])) (F:=fun ds'=>X.p B ds' w) src ks ku e ho h hs hu (fun _ hx=>hx) hXn hl hTE hrm hS hi hz hsz1 hby hzs hm0 hn hn2 hd hΓ hΛd hsrc hΛ (fun cs hp=>⟨q10,fun v' w' ds' hF how hgr hor=>?_⟩) (fun v' w' hst=>?_)
 ·have hro:=own_row q10
  refine ⟨hp.1,hp.2.1,?_,fun A hA=>?_,fun A hA=>?_,ds++ds',?_,by rw [List.length_append]; exact how⟩
  ·refine (hgr.block g (Array.getElem?_eq_some_iff.1 q6).1 (fun e5=>?_)).trans q6
   obtain ⟨_,c',fz',e6⟩:=hro g e5.symm
   rw [q6] at e6
   injection e6 with e6
   injection e6 with _ e6 _
   exact hTE' e6
  ·rcases List.mem_append.1 hA with hA | hA
   ·exact q7 A hA
   ·obtain rfl:=List.mem_singleton.1 hA
    exact hXn
  ·rcases List.mem_append.1 hA with hA | hA
   ·exact q8 A hA
   ·obtain rfl:=List.mem_singleton.1 hA
    exact fun t ht=>hDD t (hXd A (by simp) t ht)
  ·refine cat_app (As.grown q9 hgr hro (Nat.le_refl B) (cat_nd q8 hED')) ?_
   have:(cat [X]).p B ds' w:=⟨[ds'],by simp,.cons hF .nil⟩
   exact As.grown this hgr hro (Nat.le_refl B) (cat_nd (fun A hA t ht=>hDD t (hXd A hA t ht)) hED')
 ·have hl':e<Λ.length:=(List.getElem?_eq_some_iff.1 hl).1
  obtain ⟨_,_,_,_,_,_,_,_,_,_,ds2,_,_,q11⟩:=hst.locs ⟨sx,Tp,ptrH,BuA T E m D g v v' (l++[X])⟩ (List.mem_of_getElem? (i:=e) (by rw [List.getElem?_set_self hl']))
  rcases q11 with ⟨rfl,_⟩ | ⟨g',cap,cur,rfl,_⟩
  ·exact hK _ w' rfl rfl hst
  ·exact hK _ w' rfl rfl hst
theorem op_stoB {p d sx:Nat}{ty T':TypeId}{ps:String}{af:Array Edge}{u u':Value}{l':List As}(src:List Nat)(kp kd e:Nat)(ho:ops[i]?=some ⟨none,.store ty (.tmp p) (.tmp d),T',ps,af,none⟩)(h:St B w0 N Γ Λ a w)
  (hp:Γ[kp]?=some (p,EqV (.pointer (some ⟨g,0,none⟩)))) (hd:Γ[kd]?=some (d,EqV u)) (hv1:u.oneCell'=true) (hvc:u.cells = #[u]) (ht:Ty P ty 1 false) (hl:Λ[e]?=some ⟨sx,Tp,ptrH,BuA T E m D g v u' l⟩) (hTp:(Tp != T)=true) (hTD:(E::D).contains T=false) (hrm:RowMay w0 B T)
  (hown:∀ w,(OwnR B E m D l).p B u' w→(OwnR B E m D l').p B u w)
  (hsrc:src.all (fun k=>match Γ[k]? with | some y => !y.2.deps.contains T | none=>false)=true) (hΛ:Λ.zipIdx.all (fun x=>x.2==e || (x.1.T != T && !x.1.A.deps.contains T))=true)
  (hK:∀ w',St B w0 N (src.filterMap fun k=>Γ[k]?) (Λ.set e ⟨sx,Tp,ptrH,BuA T E m D g u u l'⟩) a w'→K (a.put none undef) w'):wpOp P ops Q i K a w:=by
 have hTD':T ∉ E::D:=by simpa using hTD
 refine op_stoS (A1:=BuA T E m D g u u l') src kp kd e ho h hp hd hv1 hvc ht hl hTp hrm hsrc hΛ (fun cs hp=>?_) hK
 obtain ⟨h1,h2,h3,h4⟩:=hp
 refine ⟨h2,#[v],h3,by simp,h1,h2,setRow_heap w g _ _ _ _ h3,(OwnR B E m D l').wr _ _ _ _ _ _ _ _ h3 hTD' h2 (Wr.setRow w g _) (hown w h4)⟩
end
theorem all2_unsnoc {α β:Type}{R':α→β→Prop}:∀ {l:List α} {x:α} {m:List β},All2 R' (l++[x]) m→∃ m0 y,m=m0++[y]∧All2 R' l m0∧R' x y
 | [],x,m,h=>by
  cases h with
  | @cons _ y _ m h1 h2=>cases h2; exact ⟨[],y,rfl,.nil,h1⟩
 | a::l,x,m,h=>by
  cases h with
  | @cons _ b _ m h1 h2 =>
   obtain ⟨m0,y,rfl,h3,h4⟩:=all2_unsnoc h2
   exact ⟨b::m0,y,rfl,.cons h1 h3,h4⟩
theorem cat_unsnoc {l:List As}{X:As}{B:Nat}{ds:List Value}{w:World}(h:(cat (l++[X])).p B ds w):∃ d0 dx,ds=d0++dx∧(cat l).p B d0 w∧X.p B dx w:=by
 obtain ⟨ps,rfl,h⟩:=h
 obtain ⟨m0,y,rfl,h3,h4⟩:=all2_unsnoc h
 exact ⟨m0.flatten,y,by simp,⟨m0,rfl,h3⟩,h4⟩
theorem own_cut {b B E m:Nat}{D:List TypeId}{l:List As}{X:As}{w:World}{gr n c:Nat}(h:(OwnR b E m D (l++[X])).p B (.slice (some ⟨gr,0,none⟩) n c) w):(OwnR b E m D l).p B (.slice (some ⟨gr,0,none⟩) l.length c) w:=by
 obtain ⟨h1,h2,ds,h3,hln,h5⟩:=h
 obtain ⟨d0,dx,rfl,h6,h7⟩:=cat_unsnoc h3
 have hm:∀ A∈l,A.n=m:=fun A hA=>h1 A (List.mem_append.2 (.inl hA))
 have e0:d0.length=l.length*m:=by rw [(cat l).len _ _ _ h6,cat_len hm]
 refine ⟨hm,fun A hA=>h2 A (List.mem_append.2 (.inl hA)),d0,h6,e0,?_⟩
 rcases h5 with ⟨h5,_⟩ | ⟨g',cap,cur,e1,e2,e3,e4,e5,e6,e7⟩
 ·cases h5
 ·injection e1 with e1 e1n e1c
  injection e1 with e1
  injection e1 with e1
  subst e1 e1c
  rw [List.length_append] at e4
  refine .inr ⟨gr,c,cur,rfl,e2,e3,by omega,e5,e6,?_⟩
  have:(cur.toList.take ((l++[X]).length*m)).take (l.length*m)=d0:=by rw [e7,List.take_append_of_le_length zo,List.take_of_length_le zo]
  rw [← this,List.take_take,Nat.min_eq_left (Nat.mul_le_mul_right _ (by simp))]
section
open Rg
variable {P:Program} {Q:Exit→Act→World→Prop} {B N:Nat} {w0:Bs} {Γ:List (Nat × VA)} {Λ:List Lc} {a:Act} {w:World} {ops:Array Oper} {i:Nat} {K:Act→World→Prop} {T E Tp:TypeId} {m:Nat} {D:List TypeId} {g:Nat} {v:Value} {l:List As}
theorem op_setB {p d sx gr c o:Nat}{ty T':TypeId}{ps:String}{af:Array Edge}{A X X':As}(src:List Nat)(kp kd e:Nat)(ho:ops[i]?=some ⟨none,.store ty (.tmp p) (.tmp d),T',ps,af,none⟩)(h:St B w0 N Γ Λ a w)
  (hp:Γ[kp]?=some (p,EqV (.pointer (some ⟨gr,l.length*m+o,none⟩)))) (hd:Γ[kd]?=some (d,A.va)) (ht:Ty P ty A.n A.ag) (hl:Λ[e]?=some ⟨sx,Tp,ptrH,BuA T E m D g v (.slice (some ⟨gr,0,none⟩) (l++[X]).length c) (l++[X])⟩)
  (hput:Put X o A X') (hX:X'.n=X.n) (hXD:X'.deps.all (fun t=>D.contains t)=true) (hTp:(Tp != E)=true) (hT:(T != E)=true) (hED:D.contains E=false) (hrm:RowMay w0 B E)
  (hsrc:src.all (fun k=>match Γ[k]? with | some y => !y.2.deps.contains E | none=>false)=true) (hΛ:Λ.zipIdx.all (fun x=>x.2==e || (x.1.T != E && !x.1.A.deps.contains E))=true)
  (hK:∀ w',St B w0 N (src.filterMap fun k=>Γ[k]?) (Λ.set e ⟨sx,Tp,ptrH,BuA T E m D g v (.slice (some ⟨gr,0,none⟩) (l++[X]).length c) (l++[X'])⟩) a w'→K (a.put none undef) w'):wpOp P ops Q i K a w:=by
 have e1:a.eval (.tmp p)=.pointer (some ⟨gr,l.length*m+o,none⟩):=h.vals _ (List.mem_of_getElem? hp)
 obtain ⟨cs',hpA,hv⟩:=h.vals _ (List.mem_of_getElem? hd)
 obtain ⟨g0,cs0,q1,q2,q3,q4,q5,q6,q7,q8,ds,q9,hln,q10⟩:=h.locs _ (List.mem_of_getElem? hl)
 have hED':E ∉ D:=by simpa using hED
 have hTE':T≠E:=by simpa using hT
 rcases q10 with ⟨h5,_⟩ | ⟨g',cap,cur,f1,f2,f3,f4,f5,f6,f7⟩
 ·cases h5
 ·injection f1 with f1 f1n f1c
  injection f1 with f1
  injection f1 with f1
  subst f1 f1c
  obtain ⟨d0,dx,rfl,h6,h7⟩:=cat_unsnoc q9
  have hm0:∀ A∈l,A.n=m:=fun A hA=>q7 A (List.mem_append.2 (.inl hA))
  have hXm:X.n=m:=q7 X (by simp)
  have l0:d0.length=l.length*m:=by rw [(cat l).len _ _ _ h6,cat_len hm0]
  have lx:dx.length=m:=by rw [X.len _ _ _ h7,hXm]
  obtain ⟨hoA,hX'⟩:=hput B dx cs' w h7 hpA
  have lA:=A.len _ _ _ hpA
  have hll:(l++[X]).length=l.length+1:=by simp
  rw [hll,Nat.succ_mul] at f7
  have hcur:cur.toList=d0++dx++cur.toList.drop (l.length*m+m):=by rw [← f7,List.take_append_drop]
  have hsz:l.length*m+m≤cur.size:=by
   rw [f6,← Nat.succ_mul]
   exact Nat.mul_le_mul_right _ (by rw [hll] at f4; exact f4)
  have hrun:=zc1 ht w gr (l.length*m+o) E cur _ cs' (A.cells_shape hpA) lA zo (A.one _ _ _ hpA) f3
  have e3:cur.toList.take (l.length*m+o)++cs'++cur.toList.drop (l.length*m+o+A.n)=d0++splice dx o cs'++cur.toList.drop (l.length*m+m):=by
   have t1:cur.toList.take (l.length*m+o)=d0++dx.take o:=by
    rw [hcur,List.append_assoc,List.take_append,List.take_of_length_le zo,List.take_append_of_le_length zo,l0,Nat.add_sub_cancel_left]
   have t2:cur.toList.drop (l.length*m+o+A.n)=dx.drop (o+cs'.length)++cur.toList.drop (l.length*m+m):=by
    conv=>lhs; rw [hcur]
    rw [List.append_assoc,List.drop_append,List.drop_of_length_le zo,List.nil_append,List.drop_append_of_le_length zo,l0,lA]
    congr 2
    omega
   rw [t1,t2]
   simp [splice,List.append_assoc]
  have hnew:=setRow_heap w gr _ (d0++splice dx o cs'++cur.toList.drop (l.length*m+m)).toArray _ _ f3
  have hW:=Wr.setRow w gr (d0++splice dx o cs'++cur.toList.drop (l.length*m+m)).toArray
  have lsp:(splice dx o cs').length=m:=by rw [X'.len _ _ _ hX',hX,hXm]
  unfold wpOp
  simp only [ho,Region.wanted,if_true]
  refine .inl (wp_skip' (w':=w.setRow gr (d0++splice dx o cs'++cur.toList.drop (l.length*m+m)).toArray) ?_ (hK _ (h.turn src e grown_set (fun g'' e=>?_) hrm hl hTp hsrc hΛ fun cs hp=>?_)))
  ·have hv':a.eval (.tmp d)=shape A.ag cs':=hv
   rw [e3] at hrun
   simp [execOp,e1,hv',Instr.storeAt,Instr.sureAddr,hrun]
  ·injection e with e
   subst e
   exact ⟨f2,_,_,f3⟩
  ·refine ⟨hp.1,hp.2.1,(hW.block g (fun e5=>?_)).trans q6,fun A hA=>?_,fun A hA=>?_,d0++splice dx o cs',?_,?_,.inr ⟨gr,c,_,by rw [hll]; simp,f2,hnew,by rw [hll] at f4; simpa using f4,f5,?_,?_⟩⟩
   ·subst e5
    rw [q6] at f3
    injection f3 with f3
    injection f3 with _ f3 _
    exact hTE' f3
   ·rcases List.mem_append.1 hA with hA | hA
    ·exact hm0 A hA
    ·obtain rfl:=List.mem_singleton.1 hA
     omega
   ·rcases List.mem_append.1 hA with hA | hA
    ·exact q8 A (List.mem_append.2 (.inl hA))
    ·obtain rfl:=List.mem_singleton.1 hA
     exact fun t ht=>by simpa using List.all_eq_true.1 hXD t ht
   ·refine cat_app ((cat l).wr _ _ _ _ _ _ _ _ f3 (cat_nd (fun A hA=>q8 A (List.mem_append.2 (.inl hA))) hED') f2 hW h6) ?_
    refine ⟨[splice dx o cs'],by simp,.cons (X'.wr _ _ _ _ _ _ _ _ f3 (fun hh=>hED' (by simpa using List.all_eq_true.1 hXD _ hh)) f2 hW hX') .nil⟩
   ·rw [List.length_append,l0,lsp]
    simp [Nat.succ_mul]
   ·have:=congrArg List.length e3
    have hc2:=congrArg List.length hcur
    simp at this hc2
    simp [f6.symm]
    omega
   ·rw [show (d0++splice dx o cs'++cur.toList.drop (l.length*m+m)).toArray.toList=d0++splice dx o cs'++cur.toList.drop (l.length*m+m) from rfl,List.take_append_of_le_length (by simp [l0,lsp,Nat.succ_mul]),List.take_of_length_le (by simp [l0,lsp,Nat.succ_mul])]
end
def FnB (f:FuncId)(Tp g:Nat):VA where
 p B u w:=∃ c,u=.func (.func f) #[] #[ptr c]∧B≤c∧w.heap[c]?=some (.cells #[ptr g] Tp (0,0))
 deps:=[Tp]
 cg:=fun B u w w' hg ⟨c,e,h1,h2⟩=>⟨c,e,h1,hg.heap h2⟩
 wr:=by
  rintro B u w w' k c' T' fz hc hT hB hW ⟨c,e,h1,h2⟩
  refine ⟨c,e,h1,?_⟩
  rw [hW.block c (fun e=>by subst e; rw [hc] at h2; injection h2 with h2; injection h2 with _ h2 _; exact hT (by simp [h2]))]
  exact h2
theorem r_mkB {P:Program}{R:Rg}{Q:Exit→Act→World→Prop}{B i:Nat}{w0:Bs}{f:FuncId}{T g s:Nat}(h1:Loc R i s T (EqA (ptr g))):Wv P Q R B w0 i (.makeFunc (.func f) #[] #[.tmp s]) (FnB f T g) :=
 zb5 fun _ _ _ _ _ a w av=>by
  obtain ⟨c,cs,e1,m1,h3,h4⟩:=h1.ok av
  obtain rfl:=h4.1
  have e1':a.eval (.tmp s)=ptr c:=e1
  exact ⟨.func (.func f) #[] (#[Operand.tmp s].map a.eval),w,by simp [execOp,Instr.makeFunc],Grow.refl w,c,by simp [e1'],av.lo _ m1,h3⟩
def ArgOk (Γ:List (Nat × VA))(A:VA)(x:Operand):Prop:=(∃ t k:Nat,x=.tmp t∧Γ[k]?=some (t,A))∨∃ kd n,x=.const (.int kd n)∧A=(NumA kd n).va
theorem args_ok {B N:Nat}{w0:Bs}{Γ:List (Nat × VA)}{Λ:List Lc}{a:Act}{w:World}{pre:List VA}{xs:List Operand}(h:St B w0 N Γ Λ a w)(hx:All2 (ArgOk Γ) pre xs):All2 (fun (A:VA) v=>A.p B v w) pre (xs.map a.eval):=by
 induction hx with
 | nil=>exact .nil
 | cons h1 _ ih =>
  refine .cons ?_ ih
  rcases h1 with ⟨t,k,rfl,h1⟩ | ⟨kd,n,rfl,rfl⟩
  ·exact h.vals _ (List.mem_of_getElem? h1)
  ·exact zcd _ _ _ _
section
open Rg
variable {P:Program} {Q:Exit→Act→World→Prop} {B N:Nat} {w0:Bs} {Γ:List (Nat × VA)} {Λ:List Lc} {a:Act} {w:World} {ops:Array Oper} {i:Nat} {K:Act→World→Prop}
theorem op_callB {d t f sx g:Nat}{Tp T T1:TypeId}{Ts:List TypeId}{A0 A1:As}{pre:List VA}{post:VA}{xs:List Operand}{at_:Array TypeId}{ps:String}{af:Array Edge}(src:List Nat)(kt kg e:Nat)(ho:ops[i]?=some ⟨some d,.call ⟨.value (.tmp t),xs.toArray,at_⟩,T1,ps,af,none⟩)(h:St B w0 N Γ Λ a w)
  (hc:CB P f Tp T Ts A0 A1 pre post) (ht:Γ[kt]?=some (t,FnB f Tp g)) (hg:Γ[kg]?=some (sx,EqV (ptr g))) (hl:Λ[e]?=some ⟨sx,T,ptrH,A0⟩) (hx:All2 (ArgOk Γ) pre xs)
  (hrm:∀ E,Ts.contains E=true→RowMay w0 B E) (hd:d<N) (hΓ:Γ.all (fun x=>x.1 != d)=true) (hΛd:Λ.all (fun l=>l.s != d)=true)
  (hsrc:src.all (fun k=>match Γ[k]? with | some y=>Ts.all (fun E => !y.2.deps.contains E) | none=>false)=true) (hΛ:Λ.zipIdx.all (fun x=>x.2==e || (!Ts.contains x.1.T&&Ts.all (fun E => !x.1.A.deps.contains E)))=true)
  (hK:∀ a' w',St B w0 N ((d,post)::src.filterMap fun k=>Γ[k]?) (Λ.set e ⟨sx,T,ptrH,A1⟩) a' w'→K a' w'):wpOp P ops Q i K a w:=by
 obtain ⟨g1,cs,q1,q2,q3,q4⟩:=h.locs _ (List.mem_of_getElem? hl)
 have q0:a.eval (.tmp sx)=ptr g:=h.vals _ (List.mem_of_getElem? hg)
 have:g1=g:=Rg.Hd.inj (H:=ptrH) (H':=ptrH) (show blk (ptr g1)=blk (ptr g) by rw [← show _=ptr g1 from q1,← q0])
 subst this
 obtain ⟨c,ef,hBc,hcc⟩:=h.vals _ (List.mem_of_getElem? ht)
 have ef:a.eval (.tmp t)=.func (.func f) #[] #[ptr c]:=ef
 have hargs:=args_ok h hx
 obtain ⟨⟨fn,hf,hn,hb⟩,hcall⟩:=hc
 have hrun:(execOp a.eval ⟨some d,.call ⟨.value (.tmp t),xs.toArray,at_⟩,T1,ps,af,none⟩).run P w=.ok (.enter f (xs.map a.eval++[ptr c]).toArray) w:=by
  simp only [execOp,resolve,ef,Deferred.ofValue,Sem.run_bind,Sem.run_pure,Result.andThen_ok,invoke,zbq hf hn hb]
  simp
 have hdsz:d<a.tmps.size:=by rw [h.size]; exact hd
 have hBw:B≤w.heap.size:=Nat.le_trans (h.lo _ (.inl (Nat.le_refl _))) h.base.size
 unfold wpOp
 simp only [ho,Region.wanted,if_true]
 refine .inl ?_
 unfold Oper.wp
 rw [hrun]
 refine (hcall B w c g1 cs _ hBc (h.lo g1 q2) hcc q3 q4 hargs).mono ?_
 rintro e0 w' ⟨v,cs',rfl,hv,hk,h1,h2⟩
 refine hK _ _ ?_
 have hls:∀ l∈Λ,l.s≠d:=fun l hl=>by simpa using List.all_eq_true.1 hΛd l hl
 have hrow:∀ {g:Nat} {c:Array Value} {T':TypeId} {fz:Nat × Nat},w.heap[g]?=some (.cells c T' fz)→T' ∉ Ts→w'.heap[g]?=some (.cells c T' fz):=fun {g c T' fz} hg1 hne =>
  (hk.block g (Array.getElem?_eq_some_iff.1 hg1).1 (fun ⟨_,c',T2,fz',e5,e6⟩=>by
   rw [hg1] at e5
   injection e5 with e5
   injection e5 with _ e5 _
   subst e5
   exact hne e6)).trans hg1
 have hset:∀ m∈Λ.set e ⟨sx,T,ptrH,A1⟩,∃ m0∈Λ,m0.s=m.s:=fun m hm=>by
  rcases List.mem_or_eq_of_mem_set hm with hm | rfl
  ·exact ⟨m,hm,rfl⟩
  ·exact ⟨_,List.mem_of_getElem? hl,rfl⟩
 refine ⟨h.lo,h.defers.keep rfl fun D hD=>(hk.block D (Array.getElem?_eq_some_iff.1 hD).1 (fun ⟨_,c,T2,fz,e5,_⟩=>by rw [hD] at e5; cases e5)).trans hD,by rw [size_put]; exact h.size,⟨hk.os.trans h.base.os,hk.tape.trans h.base.tape,hk.output.trans h.base.output,Nat.le_trans h.base.size hk.size,fun k h3 h4=>?_⟩,fun y hy=>?_,fun m hm=>?_,fun m1 hm1 m2 hm2 hne=>?_⟩
 ·refine (hk.block k (Nat.lt_of_lt_of_le h3 h.base.size) (fun ⟨q5,c,T2,fz,q6,q7⟩=>?_)).trans (h.base.block k h3 h4)
  rcases hrm T2 (by simpa using q7) w k c fz h.base q5 q6 with q8 | q8
  ·omega
  ·exact h4 q8
 ·rcases List.mem_cons.1 hy with rfl | hy
  ·show post.p B ((a.put (some d) v).eval (.tmp d)) w'
   rw [zb7 _ _ _ hdsz]
   exact hv
  ·obtain ⟨k,hk1,hk2⟩:=List.mem_filterMap.1 hy
   have hs:=List.all_eq_true.1 hsrc k hk1
   simp only [hk2,List.all_eq_true,Bool.not_eq_true',List.contains_eq_mem,decide_eq_false_iff_not] at hs
   have hyd:y.1≠d:=by simpa using List.all_eq_true.1 hΓ y (List.mem_of_getElem? hk2)
   rw [zab _ _ _ _ hyd]
   exact VA.kept (h.vals y (List.mem_of_getElem? hk2)) hk hs
 ·obtain ⟨j,hj⟩:=List.getElem?_of_mem hm
  by_cases e1:j=e
  ·subst e1
   have:m=⟨sx,T,ptrH,A1⟩:=by
    rw [List.getElem?_set_self (List.getElem?_eq_some_iff.1 hl).1] at hj
    injection hj with hj
    exact hj.symm
   subst this
   exact ⟨g1,cs',by rw [zab _ _ _ _ (hls _ (List.mem_of_getElem? hl))]; exact q1,q2,h1,h2⟩
  ·rw [List.getElem?_set_ne (fun e2=>e1 e2.symm)] at hj
   have hc:=List.all_eq_true.1 hΛ (m,j) (List.mem_zipIdx_iff_getElem?.2 hj)
   simp only [Bool.or_eq_true,beq_iff_eq,Bool.and_eq_true,Bool.not_eq_true',List.contains_eq_mem,decide_eq_false_iff_not,List.all_eq_true] at hc
   have hc':=hc.resolve_left e1
   obtain ⟨g',cs2,p1,p2,p3,p4⟩:=h.locs m (List.mem_of_getElem? hj)
   exact ⟨g',cs2,by rw [zab _ _ _ _ (hls _ (List.mem_of_getElem? hj))]; exact p1,p2,hrow p3 hc'.1,As.kept p4 hk hc'.2⟩
 ·obtain ⟨m3,r1,r2⟩:=hset m1 hm1
  obtain ⟨m4,r3,r4⟩:=hset m2 hm2
  rw [← r2,← r4] at hne ⊢
  rw [zab _ _ _ _ (hls _ r1),zab _ _ _ _ (hls _ r3)]
  exact h.dis m3 r1 m4 r3 hne
end
end Go.Proofs.Ytljkepdpoelpkaa
namespace Go.Proofs.Ytljkepdpoelpkaa
open Go Go.RowKit
section
variable {P:Program} {R:Rg} {Q:Exit→Act→World→Prop} {B i:Nat} {w0:Bs}
inductive Nmo (R:Rg) (B:Nat) (w0:Bs) (i:Nat):List (Nat × Nat)→Prop
 | nil:Nmo R B w0 i []
 | cons {s g T:Nat} {A:As} {l:List (Nat × Nat)}:Has R B w0 i (.tmp s) (EqV (ptr g))→Loc R i s T A→Nmo R B w0 i l→Nmo R B w0 i ((s,g)::l)
theorem has_eqA {x:Operand}{v:Value}(h:v.oneCell'=true)(h1:Has R B w0 i x (EqV v)):Has R B w0 i x (EqA v).va:=fun a w av=>by
 have e:a.eval x=v:=h1 a w av
 rw [e]
 exact va_eqA h
end
end Go.Proofs.Ytljkepdpoelpkaa
