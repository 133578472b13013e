import Derived.Test.YthncfchnkjemiaaGreatDoorRgAa
import Derived.Test.YthncfchnkjemiaaGreatDoorRgAc
import Derived.Test.YthncfchnkjemiaaGreatDoorRgAs
set_option linter.unusedVariables false
set_option linter.unusedSimpArgs false
set_option linter.unusedSectionVars false
set_option maxRecDepth 100000
namespace Go.Proofs.YthncfchnkjemiaaGreatDoor
open Go Go.RowKit
theorem zbe:Wk (EqS (.slice none 0 0)).va (SlA 0 [] []).va:=zci wk_eqS nil_sl
section
open Rg
variable {R:Rg} {B i:Nat} {w0:Bs}
end
theorem fillNumber_c (vr:Value) (M:List Slot):Cn Tryz.prog 108 [ElP 59 (BkA vr M)] (Tu []):=by
 refine Cn.intro Tryz.func108 rfl zk nq (fun B w0 a hst=>?_)
 have hst:St B w0 35 [(0,ElP 59 (BkA vr M))] [] a w0.w:=hst
 refine wp_seq ?_
 refine gl (sts:=[]) (news:=[]) (sp:=[.val 2 _]) [.g 0,.o 0] hst (zv rfl rfl (za1 za3) o0) (fun a w hst=>?_)
 have hst:St B w0 35 [(0,_),(2,_)] [] a w:=hst
 refine za0 ?_
 refine wp_block ?_
 have hst:=St.sel hst [0,1]
 refine wp_loop_ghost (fun n a w =>  St B w0 35 [(0,ElP 59 (BkA vr M)),(2,In 0)] [] a w) (0) ?_ ?_
 ·exact hst
 intro n a w hI
 have hst:=hI
 refine wp_seq ?_
 refine wp_seq ?_
 refine gl (sts:=[]) (news:=[]) (sp:=[.val 5 _,.val 6 _,.val 7 _,.val 8 _,.val 9 _,.val 10 _,.val 11 _]) [.g 0,.g 1,.o 6] hst (zv rfl rfl (za2 (gq 1 rfl)) (zv rfl rfl (za2 (gq 0 rfl)) (zv rfl rfl (zbo (vq 1 rfl)) (zv rfl rfl (zas (vq 2 rfl) fld_59_2 (Sub.part 2 rfl rfl)) (zv rfl rfl (zad (vq 3 rfl) ty_43) (zv rfl rfl (zbz Tryz.underlying43 (has_wk' (vq 4 rfl) zbe)) (zv rfl rfl (zb7 (vq 0 rfl) (vq 5 rfl)) o0))))))) (fun a w hst=>?_)
 have hst:St B w0 35 [(0,_),(2,_),(11,_)] [] a w:=hst
 refine za0 ?_
 refine za8 hst (zm 2 rfl) (fun hb0=>?_) (fun hb0=>?_)
 ·exact absurd hb0 zd
 ·refine wp_exit ?_
  refine za6 ?_
  refine za6 ?_
  refine zaj ?_
  refine zbi ?_
  exact zaq (rs:=[]) rfl hst .nil zd
theorem growNumber_c (vr:Value) (M:List Slot):Cn Tryz.prog 124 [ElP 59 (BkA vr M)] (Tu []):=by
 refine Cn.intro Tryz.func124 rfl zk nq (fun B w0 a hst=>?_)
 have hst:St B w0 42 [(0,ElP 59 (BkA vr M))] [] a w0.w:=hst
 refine wp_seq ?_
 refine gl (sts:=[]) (news:=[]) (sp:=[.val 2 _]) [.g 0,.o 0] hst (zv rfl rfl (za1 za3) o0) (fun a w hst=>?_)
 have hst:St B w0 42 [(0,_),(2,_)] [] a w:=hst
 refine za0 ?_
 refine wp_block ?_
 have hst:=St.sel hst [0,1]
 refine wp_loop_ghost (fun n a w =>  St B w0 42 [(0,ElP 59 (BkA vr M)),(2,In 0)] [] a w) (0) ?_ ?_
 ·exact hst
 intro n a w hI
 have hst:=hI
 refine wp_seq ?_
 refine wp_seq ?_
 refine gl (sts:=[]) (news:=[]) (sp:=[.val 6 _,.val 7 _,.val 8 _,.val 9 _,.val 10 _,.val 11 _,.val 12 _]) [.g 0,.g 1,.o 6] hst (zv rfl rfl (za2 (gq 1 rfl)) (zv rfl rfl (za2 (gq 0 rfl)) (zv rfl rfl (zbo (vq 1 rfl)) (zv rfl rfl (zas (vq 2 rfl) fld_59_2 (Sub.part 2 rfl rfl)) (zv rfl rfl (zad (vq 3 rfl) ty_43) (zv rfl rfl (zbz Tryz.underlying43 (has_wk' (vq 4 rfl) zbe)) (zv rfl rfl (zb7 (vq 0 rfl) (vq 5 rfl)) o0))))))) (fun a w hst=>?_)
 have hst:St B w0 42 [(0,_),(2,_),(12,_)] [] a w:=hst
 refine za0 ?_
 refine za8 hst (zm 2 rfl) (fun hb0=>?_) (fun hb0=>?_)
 ·exact absurd hb0 zd
 ·refine wp_exit ?_
  refine za6 ?_
  refine za6 ?_
  refine zaj ?_
  refine zbi ?_
  exact zaq (rs:=[]) rfl hst .nil zd
theorem lookNumber_c (vr:Value) (M:List Slot):Cn Tryz.prog 140 [ElP 59 (BkA vr M)] (Bo true):=by
 refine Cn.intro Tryz.func140 rfl zk nq (fun B w0 a hst=>?_)
 have hst:St B w0 64 [(0,ElP 59 (BkA vr M))] [] a w0.w:=hst
 refine wp_seq ?_
 refine gl (sts:=[]) (news:=[]) (sp:=[.val 2 _]) [.g 0,.o 0] hst (zv rfl rfl (za1 zb2) o0) (fun a w hst=>?_)
 have hst:St B w0 64 [(0,_),(2,_)] [] a w:=hst
 refine zt ?_
 refine wp_seq ?_
 refine gl (sts:=[]) (news:=[]) (sp:=[.val 3 _]) [.g 0,.g 1,.o 0] hst (zv rfl rfl (za1 za3) o0) (fun a w hst=>?_)
 have hst:St B w0 64 [(0,_),(2,_),(3,_)] [] a w:=hst
 refine za0 ?_
 refine wp_block ?_
 have hst:=St.sel hst [0,2]
 refine wp_loop_ghost (fun n a w =>  St B w0 64 [(0,ElP 59 (BkA vr M)),(3,In 0)] [] a w) (0) ?_ ?_
 ·exact hst
 intro n a w hI
 have hst:=hI
 refine wp_seq ?_
 refine wp_seq ?_
 refine gl (sts:=[]) (news:=[]) (sp:=[.val 6 _,.val 7 _,.val 8 _,.val 9 _,.val 10 _,.val 11 _,.val 12 _]) [.g 0,.g 1,.o 6] hst (zv rfl rfl (za2 (gq 1 rfl)) (zv rfl rfl (za2 (gq 0 rfl)) (zv rfl rfl (zbo (vq 1 rfl)) (zv rfl rfl (zas (vq 2 rfl) fld_59_2 (Sub.part 2 rfl rfl)) (zv rfl rfl (zad (vq 3 rfl) ty_43) (zv rfl rfl (zbz Tryz.underlying43 (has_wk' (vq 4 rfl) zbe)) (zv rfl rfl (zb7 (vq 0 rfl) (vq 5 rfl)) o0))))))) (fun a w hst=>?_)
 have hst:St B w0 64 [(0,_),(3,_),(12,_)] [] a w:=hst
 refine za0 ?_
 refine za8 hst (zm 2 rfl) (fun hb0=>?_) (fun hb0=>?_)
 ·exact absurd hb0 zd
 ·refine wp_exit ?_
  refine za6 ?_
  refine za6 ?_
  refine zaj ?_
  refine zt ?_
  refine gl (sts:=[]) (news:=[]) (sp:=[.val 2 _]) [.g 0,.o 0] hst (zv rfl rfl (za1 zb2) o0) (fun a w hst=>?_)
  have hst:St B w0 64 [(0,_),(2,_)] [] a w:=hst
  refine za0 ?_
  refine wp_ret ?_
  exact zae rfl hst (zm 1 rfl)
theorem fillFloat_c (vr:Value) (M:List Slot):Cn Tryz.prog 109 [ElP 59 (BkA vr M)] (Tu []):=by
 refine Cn.intro Tryz.func109 rfl zk nq (fun B w0 a hst=>?_)
 have hst:St B w0 35 [(0,ElP 59 (BkA vr M))] [] a w0.w:=hst
 refine wp_seq ?_
 refine gl (sts:=[]) (news:=[]) (sp:=[.val 2 _]) [.g 0,.o 0] hst (zv rfl rfl (za1 za3) o0) (fun a w hst=>?_)
 have hst:St B w0 35 [(0,_),(2,_)] [] a w:=hst
 refine za0 ?_
 refine wp_block ?_
 have hst:=St.sel hst [0,1]
 refine wp_loop_ghost (fun n a w =>  St B w0 35 [(0,ElP 59 (BkA vr M)),(2,In 0)] [] a w) (0) ?_ ?_
 ·exact hst
 intro n a w hI
 have hst:=hI
 refine wp_seq ?_
 refine wp_seq ?_
 refine gl (sts:=[]) (news:=[]) (sp:=[.val 5 _,.val 6 _,.val 7 _,.val 8 _,.val 9 _,.val 10 _,.val 11 _]) [.g 0,.g 1,.o 6] hst (zv rfl rfl (za2 (gq 1 rfl)) (zv rfl rfl (za2 (gq 0 rfl)) (zv rfl rfl (zbo (vq 1 rfl)) (zv rfl rfl (zas (vq 2 rfl) fld_59_3 (Sub.part 3 rfl rfl)) (zv rfl rfl (zad (vq 3 rfl) ty_44) (zv rfl rfl (zbz Tryz.underlying44 (has_wk' (vq 4 rfl) zbe)) (zv rfl rfl (zb7 (vq 0 rfl) (vq 5 rfl)) o0))))))) (fun a w hst=>?_)
 have hst:St B w0 35 [(0,_),(2,_),(11,_)] [] a w:=hst
 refine za0 ?_
 refine za8 hst (zm 2 rfl) (fun hb0=>?_) (fun hb0=>?_)
 ·exact absurd hb0 zd
 ·refine wp_exit ?_
  refine za6 ?_
  refine za6 ?_
  refine zaj ?_
  refine zbi ?_
  exact zaq (rs:=[]) rfl hst .nil zd
theorem growFloat_c (vr:Value) (M:List Slot):Cn Tryz.prog 125 [ElP 59 (BkA vr M)] (Tu []):=by
 refine Cn.intro Tryz.func125 rfl zk nq (fun B w0 a hst=>?_)
 have hst:St B w0 42 [(0,ElP 59 (BkA vr M))] [] a w0.w:=hst
 refine wp_seq ?_
 refine gl (sts:=[]) (news:=[]) (sp:=[.val 2 _]) [.g 0,.o 0] hst (zv rfl rfl (za1 za3) o0) (fun a w hst=>?_)
 have hst:St B w0 42 [(0,_),(2,_)] [] a w:=hst
 refine za0 ?_
 refine wp_block ?_
 have hst:=St.sel hst [0,1]
 refine wp_loop_ghost (fun n a w =>  St B w0 42 [(0,ElP 59 (BkA vr M)),(2,In 0)] [] a w) (0) ?_ ?_
 ·exact hst
 intro n a w hI
 have hst:=hI
 refine wp_seq ?_
 refine wp_seq ?_
 refine gl (sts:=[]) (news:=[]) (sp:=[.val 6 _,.val 7 _,.val 8 _,.val 9 _,.val 10 _,.val 11 _,.val 12 _]) [.g 0,.g 1,.o 6] hst (zv rfl rfl (za2 (gq 1 rfl)) (zv rfl rfl (za2 (gq 0 rfl)) (zv rfl rfl (zbo (vq 1 rfl)) (zv rfl rfl (zas (vq 2 rfl) fld_59_3 (Sub.part 3 rfl rfl)) (zv rfl rfl (zad (vq 3 rfl) ty_44) (zv rfl rfl (zbz Tryz.underlying44 (has_wk' (vq 4 rfl) zbe)) (zv rfl rfl (zb7 (vq 0 rfl) (vq 5 rfl)) o0))))))) (fun a w hst=>?_)
 have hst:St B w0 42 [(0,_),(2,_),(12,_)] [] a w:=hst
 refine za0 ?_
 refine za8 hst (zm 2 rfl) (fun hb0=>?_) (fun hb0=>?_)
 ·exact absurd hb0 zd
 ·refine wp_exit ?_
  refine za6 ?_
  refine za6 ?_
  refine zaj ?_
  refine zbi ?_
  exact zaq (rs:=[]) rfl hst .nil zd
theorem lookFloat_c (vr:Value) (M:List Slot):Cn Tryz.prog 141 [ElP 59 (BkA vr M)] (Bo true):=by
 refine Cn.intro Tryz.func141 rfl zk nq (fun B w0 a hst=>?_)
 have hst:St B w0 64 [(0,ElP 59 (BkA vr M))] [] a w0.w:=hst
 refine wp_seq ?_
 refine gl (sts:=[]) (news:=[]) (sp:=[.val 2 _]) [.g 0,.o 0] hst (zv rfl rfl (za1 zb2) o0) (fun a w hst=>?_)
 have hst:St B w0 64 [(0,_),(2,_)] [] a w:=hst
 refine zt ?_
 refine wp_seq ?_
 refine gl (sts:=[]) (news:=[]) (sp:=[.val 3 _]) [.g 0,.g 1,.o 0] hst (zv rfl rfl (za1 za3) o0) (fun a w hst=>?_)
 have hst:St B w0 64 [(0,_),(2,_),(3,_)] [] a w:=hst
 refine za0 ?_
 refine wp_block ?_
 have hst:=St.sel hst [0,2]
 refine wp_loop_ghost (fun n a w =>  St B w0 64 [(0,ElP 59 (BkA vr M)),(3,In 0)] [] a w) (0) ?_ ?_
 ·exact hst
 intro n a w hI
 have hst:=hI
 refine wp_seq ?_
 refine wp_seq ?_
 refine gl (sts:=[]) (news:=[]) (sp:=[.val 6 _,.val 7 _,.val 8 _,.val 9 _,.val 10 _,.val 11 _,.val 12 _]) [.g 0,.g 1,.o 6] hst (zv rfl rfl (za2 (gq 1 rfl)) (zv rfl rfl (za2 (gq 0 rfl)) (zv rfl rfl (zbo (vq 1 rfl)) (zv rfl rfl (zas (vq 2 rfl) fld_59_3 (Sub.part 3 rfl rfl)) (zv rfl rfl (zad (vq 3 rfl) ty_44) (zv rfl rfl (zbz Tryz.underlying44 (has_wk' (vq 4 rfl) zbe)) (zv rfl rfl (zb7 (vq 0 rfl) (vq 5 rfl)) o0))))))) (fun a w hst=>?_)
 have hst:St B w0 64 [(0,_),(3,_),(12,_)] [] a w:=hst
 refine za0 ?_
 refine za8 hst (zm 2 rfl) (fun hb0=>?_) (fun hb0=>?_)
 ·exact absurd hb0 zd
 ·refine wp_exit ?_
  refine za6 ?_
  refine za6 ?_
  refine zaj ?_
  refine zt ?_
  refine gl (sts:=[]) (news:=[]) (sp:=[.val 2 _]) [.g 0,.o 0] hst (zv rfl rfl (za1 zb2) o0) (fun a w hst=>?_)
  have hst:St B w0 64 [(0,_),(2,_)] [] a w:=hst
  refine za0 ?_
  refine wp_ret ?_
  exact zae rfl hst (zm 1 rfl)
theorem fillComplex_c (vr:Value) (M:List Slot):Cn Tryz.prog 110 [ElP 59 (BkA vr M)] (Tu []):=by
 refine Cn.intro Tryz.func110 rfl zk nq (fun B w0 a hst=>?_)
 have hst:St B w0 35 [(0,ElP 59 (BkA vr M))] [] a w0.w:=hst
 refine wp_seq ?_
 refine gl (sts:=[]) (news:=[]) (sp:=[.val 2 _]) [.g 0,.o 0] hst (zv rfl rfl (za1 za3) o0) (fun a w hst=>?_)
 have hst:St B w0 35 [(0,_),(2,_)] [] a w:=hst
 refine za0 ?_
 refine wp_block ?_
 have hst:=St.sel hst [0,1]
 refine wp_loop_ghost (fun n a w =>  St B w0 35 [(0,ElP 59 (BkA vr M)),(2,In 0)] [] a w) (0) ?_ ?_
 ·exact hst
 intro n a w hI
 have hst:=hI
 refine wp_seq ?_
 refine wp_seq ?_
 refine gl (sts:=[]) (news:=[]) (sp:=[.val 5 _,.val 6 _,.val 7 _,.val 8 _,.val 9 _,.val 10 _,.val 11 _]) [.g 0,.g 1,.o 6] hst (zv rfl rfl (za2 (gq 1 rfl)) (zv rfl rfl (za2 (gq 0 rfl)) (zv rfl rfl (zbo (vq 1 rfl)) (zv rfl rfl (zas (vq 2 rfl) fld_59_4 (Sub.part 4 rfl rfl)) (zv rfl rfl (zad (vq 3 rfl) ty_45) (zv rfl rfl (zbz Tryz.underlying45 (has_wk' (vq 4 rfl) zbe)) (zv rfl rfl (zb7 (vq 0 rfl) (vq 5 rfl)) o0))))))) (fun a w hst=>?_)
 have hst:St B w0 35 [(0,_),(2,_),(11,_)] [] a w:=hst
 refine za0 ?_
 refine za8 hst (zm 2 rfl) (fun hb0=>?_) (fun hb0=>?_)
 ·exact absurd hb0 zd
 ·refine wp_exit ?_
  refine za6 ?_
  refine za6 ?_
  refine zaj ?_
  refine zbi ?_
  exact zaq (rs:=[]) rfl hst .nil zd
theorem growComplex_c (vr:Value) (M:List Slot):Cn Tryz.prog 126 [ElP 59 (BkA vr M)] (Tu []):=by
 refine Cn.intro Tryz.func126 rfl zk nq (fun B w0 a hst=>?_)
 have hst:St B w0 42 [(0,ElP 59 (BkA vr M))] [] a w0.w:=hst
 refine wp_seq ?_
 refine gl (sts:=[]) (news:=[]) (sp:=[.val 2 _]) [.g 0,.o 0] hst (zv rfl rfl (za1 za3) o0) (fun a w hst=>?_)
 have hst:St B w0 42 [(0,_),(2,_)] [] a w:=hst
 refine za0 ?_
 refine wp_block ?_
 have hst:=St.sel hst [0,1]
 refine wp_loop_ghost (fun n a w =>  St B w0 42 [(0,ElP 59 (BkA vr M)),(2,In 0)] [] a w) (0) ?_ ?_
 ·exact hst
 intro n a w hI
 have hst:=hI
 refine wp_seq ?_
 refine wp_seq ?_
 refine gl (sts:=[]) (news:=[]) (sp:=[.val 6 _,.val 7 _,.val 8 _,.val 9 _,.val 10 _,.val 11 _,.val 12 _]) [.g 0,.g 1,.o 6] hst (zv rfl rfl (za2 (gq 1 rfl)) (zv rfl rfl (za2 (gq 0 rfl)) (zv rfl rfl (zbo (vq 1 rfl)) (zv rfl rfl (zas (vq 2 rfl) fld_59_4 (Sub.part 4 rfl rfl)) (zv rfl rfl (zad (vq 3 rfl) ty_45) (zv rfl rfl (zbz Tryz.underlying45 (has_wk' (vq 4 rfl) zbe)) (zv rfl rfl (zb7 (vq 0 rfl) (vq 5 rfl)) o0))))))) (fun a w hst=>?_)
 have hst:St B w0 42 [(0,_),(2,_),(12,_)] [] a w:=hst
 refine za0 ?_
 refine za8 hst (zm 2 rfl) (fun hb0=>?_) (fun hb0=>?_)
 ·exact absurd hb0 zd
 ·refine wp_exit ?_
  refine za6 ?_
  refine za6 ?_
  refine zaj ?_
  refine zbi ?_
  exact zaq (rs:=[]) rfl hst .nil zd
theorem lookComplex_c (vr:Value) (M:List Slot):Cn Tryz.prog 142 [ElP 59 (BkA vr M)] (Bo true):=by
 refine Cn.intro Tryz.func142 rfl zk nq (fun B w0 a hst=>?_)
 have hst:St B w0 64 [(0,ElP 59 (BkA vr M))] [] a w0.w:=hst
 refine wp_seq ?_
 refine gl (sts:=[]) (news:=[]) (sp:=[.val 2 _]) [.g 0,.o 0] hst (zv rfl rfl (za1 zb2) o0) (fun a w hst=>?_)
 have hst:St B w0 64 [(0,_),(2,_)] [] a w:=hst
 refine zt ?_
 refine wp_seq ?_
 refine gl (sts:=[]) (news:=[]) (sp:=[.val 3 _]) [.g 0,.g 1,.o 0] hst (zv rfl rfl (za1 za3) o0) (fun a w hst=>?_)
 have hst:St B w0 64 [(0,_),(2,_),(3,_)] [] a w:=hst
 refine za0 ?_
 refine wp_block ?_
 have hst:=St.sel hst [0,2]
 refine wp_loop_ghost (fun n a w =>  St B w0 64 [(0,ElP 59 (BkA vr M)),(3,In 0)] [] a w) (0) ?_ ?_
 ·exact hst
 intro n a w hI
 have hst:=hI
 refine wp_seq ?_
 refine wp_seq ?_
 refine gl (sts:=[]) (news:=[]) (sp:=[.val 6 _,.val 7 _,.val 8 _,.val 9 _,.val 10 _,.val 11 _,.val 12 _]) [.g 0,.g 1,.o 6] hst (zv rfl rfl (za2 (gq 1 rfl)) (zv rfl rfl (za2 (gq 0 rfl)) (zv rfl rfl (zbo (vq 1 rfl)) (zv rfl rfl (zas (vq 2 rfl) fld_59_4 (Sub.part 4 rfl rfl)) (zv rfl rfl (zad (vq 3 rfl) ty_45) (zv rfl rfl (zbz Tryz.underlying45 (has_wk' (vq 4 rfl) zbe)) (zv rfl rfl (zb7 (vq 0 rfl) (vq 5 rfl)) o0))))))) (fun a w hst=>?_)
 have hst:St B w0 64 [(0,_),(3,_),(12,_)] [] a w:=hst
 refine za0 ?_
 refine za8 hst (zm 2 rfl) (fun hb0=>?_) (fun hb0=>?_)
 ·exact absurd hb0 zd
 ·refine wp_exit ?_
  refine za6 ?_
  refine za6 ?_
  refine zaj ?_
  refine zt ?_
  refine gl (sts:=[]) (news:=[]) (sp:=[.val 2 _]) [.g 0,.o 0] hst (zv rfl rfl (za1 zb2) o0) (fun a w hst=>?_)
  have hst:St B w0 64 [(0,_),(2,_)] [] a w:=hst
  refine za0 ?_
  refine wp_ret ?_
  exact zae rfl hst (zm 1 rfl)
theorem fillText_c (vr:Value) (M:List Slot):Cn Tryz.prog 111 [ElP 59 (BkA vr M)] (Tu []):=by
 refine Cn.intro Tryz.func111 rfl zk nq (fun B w0 a hst=>?_)
 have hst:St B w0 35 [(0,ElP 59 (BkA vr M))] [] a w0.w:=hst
 refine wp_seq ?_
 refine gl (sts:=[]) (news:=[]) (sp:=[.val 2 _]) [.g 0,.o 0] hst (zv rfl rfl (za1 za3) o0) (fun a w hst=>?_)
 have hst:St B w0 35 [(0,_),(2,_)] [] a w:=hst
 refine za0 ?_
 refine wp_block ?_
 have hst:=St.sel hst [0,1]
 refine wp_loop_ghost (fun n a w =>  St B w0 35 [(0,ElP 59 (BkA vr M)),(2,In 0)] [] a w) (0) ?_ ?_
 ·exact hst
 intro n a w hI
 have hst:=hI
 refine wp_seq ?_
 refine wp_seq ?_
 refine gl (sts:=[]) (news:=[]) (sp:=[.val 5 _,.val 6 _,.val 7 _,.val 8 _,.val 9 _,.val 10 _,.val 11 _]) [.g 0,.g 1,.o 6] hst (zv rfl rfl (za2 (gq 1 rfl)) (zv rfl rfl (za2 (gq 0 rfl)) (zv rfl rfl (zbo (vq 1 rfl)) (zv rfl rfl (zas (vq 2 rfl) fld_59_5 (Sub.part 5 rfl rfl)) (zv rfl rfl (zad (vq 3 rfl) ty_46) (zv rfl rfl (zbz Tryz.underlying46 (has_wk' (vq 4 rfl) zbe)) (zv rfl rfl (zb7 (vq 0 rfl) (vq 5 rfl)) o0))))))) (fun a w hst=>?_)
 have hst:St B w0 35 [(0,_),(2,_),(11,_)] [] a w:=hst
 refine za0 ?_
 refine za8 hst (zm 2 rfl) (fun hb0=>?_) (fun hb0=>?_)
 ·exact absurd hb0 zd
 ·refine wp_exit ?_
  refine za6 ?_
  refine za6 ?_
  refine zaj ?_
  refine zbi ?_
  exact zaq (rs:=[]) rfl hst .nil zd
theorem growText_c (vr:Value) (M:List Slot):Cn Tryz.prog 127 [ElP 59 (BkA vr M)] (Tu []):=by
 refine Cn.intro Tryz.func127 rfl zk nq (fun B w0 a hst=>?_)
 have hst:St B w0 42 [(0,ElP 59 (BkA vr M))] [] a w0.w:=hst
 refine wp_seq ?_
 refine gl (sts:=[]) (news:=[]) (sp:=[.val 2 _]) [.g 0,.o 0] hst (zv rfl rfl (za1 za3) o0) (fun a w hst=>?_)
 have hst:St B w0 42 [(0,_),(2,_)] [] a w:=hst
 refine za0 ?_
 refine wp_block ?_
 have hst:=St.sel hst [0,1]
 refine wp_loop_ghost (fun n a w =>  St B w0 42 [(0,ElP 59 (BkA vr M)),(2,In 0)] [] a w) (0) ?_ ?_
 ·exact hst
 intro n a w hI
 have hst:=hI
 refine wp_seq ?_
 refine wp_seq ?_
 refine gl (sts:=[]) (news:=[]) (sp:=[.val 6 _,.val 7 _,.val 8 _,.val 9 _,.val 10 _,.val 11 _,.val 12 _]) [.g 0,.g 1,.o 6] hst (zv rfl rfl (za2 (gq 1 rfl)) (zv rfl rfl (za2 (gq 0 rfl)) (zv rfl rfl (zbo (vq 1 rfl)) (zv rfl rfl (zas (vq 2 rfl) fld_59_5 (Sub.part 5 rfl rfl)) (zv rfl rfl (zad (vq 3 rfl) ty_46) (zv rfl rfl (zbz Tryz.underlying46 (has_wk' (vq 4 rfl) zbe)) (zv rfl rfl (zb7 (vq 0 rfl) (vq 5 rfl)) o0))))))) (fun a w hst=>?_)
 have hst:St B w0 42 [(0,_),(2,_),(12,_)] [] a w:=hst
 refine za0 ?_
 refine za8 hst (zm 2 rfl) (fun hb0=>?_) (fun hb0=>?_)
 ·exact absurd hb0 zd
 ·refine wp_exit ?_
  refine za6 ?_
  refine za6 ?_
  refine zaj ?_
  refine zbi ?_
  exact zaq (rs:=[]) rfl hst .nil zd
theorem lookText_c (vr:Value) (M:List Slot):Cn Tryz.prog 143 [ElP 59 (BkA vr M)] (Bo true):=by
 refine Cn.intro Tryz.func143 rfl zk nq (fun B w0 a hst=>?_)
 have hst:St B w0 64 [(0,ElP 59 (BkA vr M))] [] a w0.w:=hst
 refine wp_seq ?_
 refine gl (sts:=[]) (news:=[]) (sp:=[.val 2 _]) [.g 0,.o 0] hst (zv rfl rfl (za1 zb2) o0) (fun a w hst=>?_)
 have hst:St B w0 64 [(0,_),(2,_)] [] a w:=hst
 refine zt ?_
 refine wp_seq ?_
 refine gl (sts:=[]) (news:=[]) (sp:=[.val 3 _]) [.g 0,.g 1,.o 0] hst (zv rfl rfl (za1 za3) o0) (fun a w hst=>?_)
 have hst:St B w0 64 [(0,_),(2,_),(3,_)] [] a w:=hst
 refine za0 ?_
 refine wp_block ?_
 have hst:=St.sel hst [0,2]
 refine wp_loop_ghost (fun n a w =>  St B w0 64 [(0,ElP 59 (BkA vr M)),(3,In 0)] [] a w) (0) ?_ ?_
 ·exact hst
 intro n a w hI
 have hst:=hI
 refine wp_seq ?_
 refine wp_seq ?_
 refine gl (sts:=[]) (news:=[]) (sp:=[.val 6 _,.val 7 _,.val 8 _,.val 9 _,.val 10 _,.val 11 _,.val 12 _]) [.g 0,.g 1,.o 6] hst (zv rfl rfl (za2 (gq 1 rfl)) (zv rfl rfl (za2 (gq 0 rfl)) (zv rfl rfl (zbo (vq 1 rfl)) (zv rfl rfl (zas (vq 2 rfl) fld_59_5 (Sub.part 5 rfl rfl)) (zv rfl rfl (zad (vq 3 rfl) ty_46) (zv rfl rfl (zbz Tryz.underlying46 (has_wk' (vq 4 rfl) zbe)) (zv rfl rfl (zb7 (vq 0 rfl) (vq 5 rfl)) o0))))))) (fun a w hst=>?_)
 have hst:St B w0 64 [(0,_),(3,_),(12,_)] [] a w:=hst
 refine za0 ?_
 refine za8 hst (zm 2 rfl) (fun hb0=>?_) (fun hb0=>?_)
 ·exact absurd hb0 zd
 ·refine wp_exit ?_
  refine za6 ?_
  refine za6 ?_
  refine zaj ?_
  refine zt ?_
  refine gl (sts:=[]) (news:=[]) (sp:=[.val 2 _]) [.g 0,.o 0] hst (zv rfl rfl (za1 zb2) o0) (fun a w hst=>?_)
  have hst:St B w0 64 [(0,_),(2,_)] [] a w:=hst
  refine za0 ?_
  refine wp_ret ?_
  exact zae rfl hst (zm 1 rfl)
theorem fillFrac_c (vr:Value) (M:List Slot):Cn Tryz.prog 112 [ElP 59 (BkA vr M)] (Tu []):=by
 refine Cn.intro Tryz.func112 rfl zk nq (fun B w0 a hst=>?_)
 have hst:St B w0 35 [(0,ElP 59 (BkA vr M))] [] a w0.w:=hst
 refine wp_seq ?_
 refine gl (sts:=[]) (news:=[]) (sp:=[.val 2 _]) [.g 0,.o 0] hst (zv rfl rfl (za1 za3) o0) (fun a w hst=>?_)
 have hst:St B w0 35 [(0,_),(2,_)] [] a w:=hst
 refine za0 ?_
 refine wp_block ?_
 have hst:=St.sel hst [0,1]
 refine wp_loop_ghost (fun n a w =>  St B w0 35 [(0,ElP 59 (BkA vr M)),(2,In 0)] [] a w) (0) ?_ ?_
 ·exact hst
 intro n a w hI
 have hst:=hI
 refine wp_seq ?_
 refine wp_seq ?_
 refine gl (sts:=[]) (news:=[]) (sp:=[.val 5 _,.val 6 _,.val 7 _,.val 8 _,.val 9 _,.val 10 _,.val 11 _]) [.g 0,.g 1,.o 6] hst (zv rfl rfl (za2 (gq 1 rfl)) (zv rfl rfl (za2 (gq 0 rfl)) (zv rfl rfl (zbo (vq 1 rfl)) (zv rfl rfl (zas (vq 2 rfl) fld_59_6 (Sub.part 6 rfl rfl)) (zv rfl rfl (zad (vq 3 rfl) ty_47) (zv rfl rfl (zbz Tryz.underlying47 (has_wk' (vq 4 rfl) zbe)) (zv rfl rfl (zb7 (vq 0 rfl) (vq 5 rfl)) o0))))))) (fun a w hst=>?_)
 have hst:St B w0 35 [(0,_),(2,_),(11,_)] [] a w:=hst
 refine za0 ?_
 refine za8 hst (zm 2 rfl) (fun hb0=>?_) (fun hb0=>?_)
 ·exact absurd hb0 zd
 ·refine wp_exit ?_
  refine za6 ?_
  refine za6 ?_
  refine zaj ?_
  refine zbi ?_
  exact zaq (rs:=[]) rfl hst .nil zd
theorem growFrac_c (vr:Value) (M:List Slot):Cn Tryz.prog 128 [ElP 59 (BkA vr M)] (Tu []):=by
 refine Cn.intro Tryz.func128 rfl zk nq (fun B w0 a hst=>?_)
 have hst:St B w0 42 [(0,ElP 59 (BkA vr M))] [] a w0.w:=hst
 refine wp_seq ?_
 refine gl (sts:=[]) (news:=[]) (sp:=[.val 2 _]) [.g 0,.o 0] hst (zv rfl rfl (za1 za3) o0) (fun a w hst=>?_)
 have hst:St B w0 42 [(0,_),(2,_)] [] a w:=hst
 refine za0 ?_
 refine wp_block ?_
 have hst:=St.sel hst [0,1]
 refine wp_loop_ghost (fun n a w =>  St B w0 42 [(0,ElP 59 (BkA vr M)),(2,In 0)] [] a w) (0) ?_ ?_
 ·exact hst
 intro n a w hI
 have hst:=hI
 refine wp_seq ?_
 refine wp_seq ?_
 refine gl (sts:=[]) (news:=[]) (sp:=[.val 6 _,.val 7 _,.val 8 _,.val 9 _,.val 10 _,.val 11 _,.val 12 _]) [.g 0,.g 1,.o 6] hst (zv rfl rfl (za2 (gq 1 rfl)) (zv rfl rfl (za2 (gq 0 rfl)) (zv rfl rfl (zbo (vq 1 rfl)) (zv rfl rfl (zas (vq 2 rfl) fld_59_6 (Sub.part 6 rfl rfl)) (zv rfl rfl (zad (vq 3 rfl) ty_47) (zv rfl rfl (zbz Tryz.underlying47 (has_wk' (vq 4 rfl) zbe)) (zv rfl rfl (zb7 (vq 0 rfl) (vq 5 rfl)) o0))))))) (fun a w hst=>?_)
 have hst:St B w0 42 [(0,_),(2,_),(12,_)] [] a w:=hst
 refine za0 ?_
 refine za8 hst (zm 2 rfl) (fun hb0=>?_) (fun hb0=>?_)
 ·exact absurd hb0 zd
 ·refine wp_exit ?_
  refine za6 ?_
  refine za6 ?_
  refine zaj ?_
  refine zbi ?_
  exact zaq (rs:=[]) rfl hst .nil zd
theorem lookFrac_c (vr:Value) (M:List Slot):Cn Tryz.prog 144 [ElP 59 (BkA vr M)] (Bo true):=by
 refine Cn.intro Tryz.func144 rfl zk nq (fun B w0 a hst=>?_)
 have hst:St B w0 64 [(0,ElP 59 (BkA vr M))] [] a w0.w:=hst
 refine wp_seq ?_
 refine gl (sts:=[]) (news:=[]) (sp:=[.val 2 _]) [.g 0,.o 0] hst (zv rfl rfl (za1 zb2) o0) (fun a w hst=>?_)
 have hst:St B w0 64 [(0,_),(2,_)] [] a w:=hst
 refine zt ?_
 refine wp_seq ?_
 refine gl (sts:=[]) (news:=[]) (sp:=[.val 3 _]) [.g 0,.g 1,.o 0] hst (zv rfl rfl (za1 za3) o0) (fun a w hst=>?_)
 have hst:St B w0 64 [(0,_),(2,_),(3,_)] [] a w:=hst
 refine za0 ?_
 refine wp_block ?_
 have hst:=St.sel hst [0,2]
 refine wp_loop_ghost (fun n a w =>  St B w0 64 [(0,ElP 59 (BkA vr M)),(3,In 0)] [] a w) (0) ?_ ?_
 ·exact hst
 intro n a w hI
 have hst:=hI
 refine wp_seq ?_
 refine wp_seq ?_
 refine gl (sts:=[]) (news:=[]) (sp:=[.val 6 _,.val 7 _,.val 8 _,.val 9 _,.val 10 _,.val 11 _,.val 12 _]) [.g 0,.g 1,.o 6] hst (zv rfl rfl (za2 (gq 1 rfl)) (zv rfl rfl (za2 (gq 0 rfl)) (zv rfl rfl (zbo (vq 1 rfl)) (zv rfl rfl (zas (vq 2 rfl) fld_59_6 (Sub.part 6 rfl rfl)) (zv rfl rfl (zad (vq 3 rfl) ty_47) (zv rfl rfl (zbz Tryz.underlying47 (has_wk' (vq 4 rfl) zbe)) (zv rfl rfl (zb7 (vq 0 rfl) (vq 5 rfl)) o0))))))) (fun a w hst=>?_)
 have hst:St B w0 64 [(0,_),(3,_),(12,_)] [] a w:=hst
 refine za0 ?_
 refine za8 hst (zm 2 rfl) (fun hb0=>?_) (fun hb0=>?_)
 ·exact absurd hb0 zd
 ·refine wp_exit ?_
  refine za6 ?_
  refine za6 ?_
  refine zaj ?_
  refine zt ?_
  refine gl (sts:=[]) (news:=[]) (sp:=[.val 2 _]) [.g 0,.o 0] hst (zv rfl rfl (za1 zb2) o0) (fun a w hst=>?_)
  have hst:St B w0 64 [(0,_),(2,_)] [] a w:=hst
  refine za0 ?_
  refine wp_ret ?_
  exact zae rfl hst (zm 1 rfl)
theorem fillGauss_c (vr:Value) (M:List Slot):Cn Tryz.prog 113 [ElP 59 (BkA vr M)] (Tu []):=by
 refine Cn.intro Tryz.func113 rfl zk nq (fun B w0 a hst=>?_)
 have hst:St B w0 35 [(0,ElP 59 (BkA vr M))] [] a w0.w:=hst
 refine wp_seq ?_
 refine gl (sts:=[]) (news:=[]) (sp:=[.val 2 _]) [.g 0,.o 0] hst (zv rfl rfl (za1 za3) o0) (fun a w hst=>?_)
 have hst:St B w0 35 [(0,_),(2,_)] [] a w:=hst
 refine za0 ?_
 refine wp_block ?_
 have hst:=St.sel hst [0,1]
 refine wp_loop_ghost (fun n a w =>  St B w0 35 [(0,ElP 59 (BkA vr M)),(2,In 0)] [] a w) (0) ?_ ?_
 ·exact hst
 intro n a w hI
 have hst:=hI
 refine wp_seq ?_
 refine wp_seq ?_
 refine gl (sts:=[]) (news:=[]) (sp:=[.val 5 _,.val 6 _,.val 7 _,.val 8 _,.val 9 _,.val 10 _,.val 11 _]) [.g 0,.g 1,.o 6] hst (zv rfl rfl (za2 (gq 1 rfl)) (zv rfl rfl (za2 (gq 0 rfl)) (zv rfl rfl (zbo (vq 1 rfl)) (zv rfl rfl (zas (vq 2 rfl) fld_59_7 (Sub.part 7 rfl rfl)) (zv rfl rfl (zad (vq 3 rfl) ty_48) (zv rfl rfl (zbz Tryz.underlying48 (has_wk' (vq 4 rfl) zbe)) (zv rfl rfl (zb7 (vq 0 rfl) (vq 5 rfl)) o0))))))) (fun a w hst=>?_)
 have hst:St B w0 35 [(0,_),(2,_),(11,_)] [] a w:=hst
 refine za0 ?_
 refine za8 hst (zm 2 rfl) (fun hb0=>?_) (fun hb0=>?_)
 ·exact absurd hb0 zd
 ·refine wp_exit ?_
  refine za6 ?_
  refine za6 ?_
  refine zaj ?_
  refine zbi ?_
  exact zaq (rs:=[]) rfl hst .nil zd
theorem growGauss_c (vr:Value) (M:List Slot):Cn Tryz.prog 129 [ElP 59 (BkA vr M)] (Tu []):=by
 refine Cn.intro Tryz.func129 rfl zk nq (fun B w0 a hst=>?_)
 have hst:St B w0 42 [(0,ElP 59 (BkA vr M))] [] a w0.w:=hst
 refine wp_seq ?_
 refine gl (sts:=[]) (news:=[]) (sp:=[.val 2 _]) [.g 0,.o 0] hst (zv rfl rfl (za1 za3) o0) (fun a w hst=>?_)
 have hst:St B w0 42 [(0,_),(2,_)] [] a w:=hst
 refine za0 ?_
 refine wp_block ?_
 have hst:=St.sel hst [0,1]
 refine wp_loop_ghost (fun n a w =>  St B w0 42 [(0,ElP 59 (BkA vr M)),(2,In 0)] [] a w) (0) ?_ ?_
 ·exact hst
 intro n a w hI
 have hst:=hI
 refine wp_seq ?_
 refine wp_seq ?_
 refine gl (sts:=[]) (news:=[]) (sp:=[.val 6 _,.val 7 _,.val 8 _,.val 9 _,.val 10 _,.val 11 _,.val 12 _]) [.g 0,.g 1,.o 6] hst (zv rfl rfl (za2 (gq 1 rfl)) (zv rfl rfl (za2 (gq 0 rfl)) (zv rfl rfl (zbo (vq 1 rfl)) (zv rfl rfl (zas (vq 2 rfl) fld_59_7 (Sub.part 7 rfl rfl)) (zv rfl rfl (zad (vq 3 rfl) ty_48) (zv rfl rfl (zbz Tryz.underlying48 (has_wk' (vq 4 rfl) zbe)) (zv rfl rfl (zb7 (vq 0 rfl) (vq 5 rfl)) o0))))))) (fun a w hst=>?_)
 have hst:St B w0 42 [(0,_),(2,_),(12,_)] [] a w:=hst
 refine za0 ?_
 refine za8 hst (zm 2 rfl) (fun hb0=>?_) (fun hb0=>?_)
 ·exact absurd hb0 zd
 ·refine wp_exit ?_
  refine za6 ?_
  refine za6 ?_
  refine zaj ?_
  refine zbi ?_
  exact zaq (rs:=[]) rfl hst .nil zd
theorem lookGauss_c (vr:Value) (M:List Slot):Cn Tryz.prog 145 [ElP 59 (BkA vr M)] (Bo true):=by
 refine Cn.intro Tryz.func145 rfl zk nq (fun B w0 a hst=>?_)
 have hst:St B w0 64 [(0,ElP 59 (BkA vr M))] [] a w0.w:=hst
 refine wp_seq ?_
 refine gl (sts:=[]) (news:=[]) (sp:=[.val 2 _]) [.g 0,.o 0] hst (zv rfl rfl (za1 zb2) o0) (fun a w hst=>?_)
 have hst:St B w0 64 [(0,_),(2,_)] [] a w:=hst
 refine zt ?_
 refine wp_seq ?_
 refine gl (sts:=[]) (news:=[]) (sp:=[.val 3 _]) [.g 0,.g 1,.o 0] hst (zv rfl rfl (za1 za3) o0) (fun a w hst=>?_)
 have hst:St B w0 64 [(0,_),(2,_),(3,_)] [] a w:=hst
 refine za0 ?_
 refine wp_block ?_
 have hst:=St.sel hst [0,2]
 refine wp_loop_ghost (fun n a w =>  St B w0 64 [(0,ElP 59 (BkA vr M)),(3,In 0)] [] a w) (0) ?_ ?_
 ·exact hst
 intro n a w hI
 have hst:=hI
 refine wp_seq ?_
 refine wp_seq ?_
 refine gl (sts:=[]) (news:=[]) (sp:=[.val 6 _,.val 7 _,.val 8 _,.val 9 _,.val 10 _,.val 11 _,.val 12 _]) [.g 0,.g 1,.o 6] hst (zv rfl rfl (za2 (gq 1 rfl)) (zv rfl rfl (za2 (gq 0 rfl)) (zv rfl rfl (zbo (vq 1 rfl)) (zv rfl rfl (zas (vq 2 rfl) fld_59_7 (Sub.part 7 rfl rfl)) (zv rfl rfl (zad (vq 3 rfl) ty_48) (zv rfl rfl (zbz Tryz.underlying48 (has_wk' (vq 4 rfl) zbe)) (zv rfl rfl (zb7 (vq 0 rfl) (vq 5 rfl)) o0))))))) (fun a w hst=>?_)
 have hst:St B w0 64 [(0,_),(3,_),(12,_)] [] a w:=hst
 refine za0 ?_
 refine za8 hst (zm 2 rfl) (fun hb0=>?_) (fun hb0=>?_)
 ·exact absurd hb0 zd
 ·refine wp_exit ?_
  refine za6 ?_
  refine za6 ?_
  refine zaj ?_
  refine zt ?_
  refine gl (sts:=[]) (news:=[]) (sp:=[.val 2 _]) [.g 0,.o 0] hst (zv rfl rfl (za1 zb2) o0) (fun a w hst=>?_)
  have hst:St B w0 64 [(0,_),(2,_)] [] a w:=hst
  refine za0 ?_
  refine wp_ret ?_
  exact zae rfl hst (zm 1 rfl)
theorem fillRay_c (vr:Value) (M:List Slot):Cn Tryz.prog 114 [ElP 59 (BkA vr M)] (Tu []):=by
 refine Cn.intro Tryz.func114 rfl zk nq (fun B w0 a hst=>?_)
 have hst:St B w0 35 [(0,ElP 59 (BkA vr M))] [] a w0.w:=hst
 refine wp_seq ?_
 refine gl (sts:=[]) (news:=[]) (sp:=[.val 2 _]) [.g 0,.o 0] hst (zv rfl rfl (za1 za3) o0) (fun a w hst=>?_)
 have hst:St B w0 35 [(0,_),(2,_)] [] a w:=hst
 refine za0 ?_
 refine wp_block ?_
 have hst:=St.sel hst [0,1]
 refine wp_loop_ghost (fun n a w =>  St B w0 35 [(0,ElP 59 (BkA vr M)),(2,In 0)] [] a w) (0) ?_ ?_
 ·exact hst
 intro n a w hI
 have hst:=hI
 refine wp_seq ?_
 refine wp_seq ?_
 refine gl (sts:=[]) (news:=[]) (sp:=[.val 5 _,.val 6 _,.val 7 _,.val 8 _,.val 9 _,.val 10 _,.val 11 _]) [.g 0,.g 1,.o 6] hst (zv rfl rfl (za2 (gq 1 rfl)) (zv rfl rfl (za2 (gq 0 rfl)) (zv rfl rfl (zbo (vq 1 rfl)) (zv rfl rfl (zas (vq 2 rfl) fld_59_8 (Sub.part 8 rfl rfl)) (zv rfl rfl (zad (vq 3 rfl) ty_49) (zv rfl rfl (zbz Tryz.underlying49 (has_wk' (vq 4 rfl) zbe)) (zv rfl rfl (zb7 (vq 0 rfl) (vq 5 rfl)) o0))))))) (fun a w hst=>?_)
 have hst:St B w0 35 [(0,_),(2,_),(11,_)] [] a w:=hst
 refine za0 ?_
 refine za8 hst (zm 2 rfl) (fun hb0=>?_) (fun hb0=>?_)
 ·exact absurd hb0 zd
 ·refine wp_exit ?_
  refine za6 ?_
  refine za6 ?_
  refine zaj ?_
  refine zbi ?_
  exact zaq (rs:=[]) rfl hst .nil zd
theorem growRay_c (vr:Value) (M:List Slot):Cn Tryz.prog 130 [ElP 59 (BkA vr M)] (Tu []):=by
 refine Cn.intro Tryz.func130 rfl zk nq (fun B w0 a hst=>?_)
 have hst:St B w0 42 [(0,ElP 59 (BkA vr M))] [] a w0.w:=hst
 refine wp_seq ?_
 refine gl (sts:=[]) (news:=[]) (sp:=[.val 2 _]) [.g 0,.o 0] hst (zv rfl rfl (za1 za3) o0) (fun a w hst=>?_)
 have hst:St B w0 42 [(0,_),(2,_)] [] a w:=hst
 refine za0 ?_
 refine wp_block ?_
 have hst:=St.sel hst [0,1]
 refine wp_loop_ghost (fun n a w =>  St B w0 42 [(0,ElP 59 (BkA vr M)),(2,In 0)] [] a w) (0) ?_ ?_
 ·exact hst
 intro n a w hI
 have hst:=hI
 refine wp_seq ?_
 refine wp_seq ?_
 refine gl (sts:=[]) (news:=[]) (sp:=[.val 6 _,.val 7 _,.val 8 _,.val 9 _,.val 10 _,.val 11 _,.val 12 _]) [.g 0,.g 1,.o 6] hst (zv rfl rfl (za2 (gq 1 rfl)) (zv rfl rfl (za2 (gq 0 rfl)) (zv rfl rfl (zbo (vq 1 rfl)) (zv rfl rfl (zas (vq 2 rfl) fld_59_8 (Sub.part 8 rfl rfl)) (zv rfl rfl (zad (vq 3 rfl) ty_49) (zv rfl rfl (zbz Tryz.underlying49 (has_wk' (vq 4 rfl) zbe)) (zv rfl rfl (zb7 (vq 0 rfl) (vq 5 rfl)) o0))))))) (fun a w hst=>?_)
 have hst:St B w0 42 [(0,_),(2,_),(12,_)] [] a w:=hst
 refine za0 ?_
 refine za8 hst (zm 2 rfl) (fun hb0=>?_) (fun hb0=>?_)
 ·exact absurd hb0 zd
 ·refine wp_exit ?_
  refine za6 ?_
  refine za6 ?_
  refine zaj ?_
  refine zbi ?_
  exact zaq (rs:=[]) rfl hst .nil zd
theorem lookRay_c (vr:Value) (M:List Slot):Cn Tryz.prog 146 [ElP 59 (BkA vr M)] (Bo true):=by
 refine Cn.intro Tryz.func146 rfl zk nq (fun B w0 a hst=>?_)
 have hst:St B w0 64 [(0,ElP 59 (BkA vr M))] [] a w0.w:=hst
 refine wp_seq ?_
 refine gl (sts:=[]) (news:=[]) (sp:=[.val 2 _]) [.g 0,.o 0] hst (zv rfl rfl (za1 zb2) o0) (fun a w hst=>?_)
 have hst:St B w0 64 [(0,_),(2,_)] [] a w:=hst
 refine zt ?_
 refine wp_seq ?_
 refine gl (sts:=[]) (news:=[]) (sp:=[.val 3 _]) [.g 0,.g 1,.o 0] hst (zv rfl rfl (za1 za3) o0) (fun a w hst=>?_)
 have hst:St B w0 64 [(0,_),(2,_),(3,_)] [] a w:=hst
 refine za0 ?_
 refine wp_block ?_
 have hst:=St.sel hst [0,2]
 refine wp_loop_ghost (fun n a w =>  St B w0 64 [(0,ElP 59 (BkA vr M)),(3,In 0)] [] a w) (0) ?_ ?_
 ·exact hst
 intro n a w hI
 have hst:=hI
 refine wp_seq ?_
 refine wp_seq ?_
 refine gl (sts:=[]) (news:=[]) (sp:=[.val 6 _,.val 7 _,.val 8 _,.val 9 _,.val 10 _,.val 11 _,.val 12 _]) [.g 0,.g 1,.o 6] hst (zv rfl rfl (za2 (gq 1 rfl)) (zv rfl rfl (za2 (gq 0 rfl)) (zv rfl rfl (zbo (vq 1 rfl)) (zv rfl rfl (zas (vq 2 rfl) fld_59_8 (Sub.part 8 rfl rfl)) (zv rfl rfl (zad (vq 3 rfl) ty_49) (zv rfl rfl (zbz Tryz.underlying49 (has_wk' (vq 4 rfl) zbe)) (zv rfl rfl (zb7 (vq 0 rfl) (vq 5 rfl)) o0))))))) (fun a w hst=>?_)
 have hst:St B w0 64 [(0,_),(3,_),(12,_)] [] a w:=hst
 refine za0 ?_
 refine za8 hst (zm 2 rfl) (fun hb0=>?_) (fun hb0=>?_)
 ·exact absurd hb0 zd
 ·refine wp_exit ?_
  refine za6 ?_
  refine za6 ?_
  refine zaj ?_
  refine zt ?_
  refine gl (sts:=[]) (news:=[]) (sp:=[.val 2 _]) [.g 0,.o 0] hst (zv rfl rfl (za1 zb2) o0) (fun a w hst=>?_)
  have hst:St B w0 64 [(0,_),(2,_)] [] a w:=hst
  refine za0 ?_
  refine wp_ret ?_
  exact zae rfl hst (zm 1 rfl)
theorem fillElement_c (vr:Value) (M:List Slot):Cn Tryz.prog 115 [ElP 59 (BkA vr M)] (Tu []):=by
 refine Cn.intro Tryz.func115 rfl zk nq (fun B w0 a hst=>?_)
 have hst:St B w0 35 [(0,ElP 59 (BkA vr M))] [] a w0.w:=hst
 refine wp_seq ?_
 refine gl (sts:=[]) (news:=[]) (sp:=[.val 2 _]) [.g 0,.o 0] hst (zv rfl rfl (za1 za3) o0) (fun a w hst=>?_)
 have hst:St B w0 35 [(0,_),(2,_)] [] a w:=hst
 refine za0 ?_
 refine wp_block ?_
 have hst:=St.sel hst [0,1]
 refine wp_loop_ghost (fun n a w =>  St B w0 35 [(0,ElP 59 (BkA vr M)),(2,In 0)] [] a w) (0) ?_ ?_
 ·exact hst
 intro n a w hI
 have hst:=hI
 refine wp_seq ?_
 refine wp_seq ?_
 refine gl (sts:=[]) (news:=[]) (sp:=[.val 5 _,.val 6 _,.val 7 _,.val 8 _,.val 9 _,.val 10 _,.val 11 _]) [.g 0,.g 1,.o 6] hst (zv rfl rfl (za2 (gq 1 rfl)) (zv rfl rfl (za2 (gq 0 rfl)) (zv rfl rfl (zbo (vq 1 rfl)) (zv rfl rfl (zas (vq 2 rfl) fld_59_9 (Sub.part 9 rfl rfl)) (zv rfl rfl (zad (vq 3 rfl) ty_50) (zv rfl rfl (zbz Tryz.underlying50 (has_wk' (vq 4 rfl) zbe)) (zv rfl rfl (zb7 (vq 0 rfl) (vq 5 rfl)) o0))))))) (fun a w hst=>?_)
 have hst:St B w0 35 [(0,_),(2,_),(11,_)] [] a w:=hst
 refine za0 ?_
 refine za8 hst (zm 2 rfl) (fun hb0=>?_) (fun hb0=>?_)
 ·exact absurd hb0 zd
 ·refine wp_exit ?_
  refine za6 ?_
  refine za6 ?_
  refine zaj ?_
  refine zbi ?_
  exact zaq (rs:=[]) rfl hst .nil zd
theorem growElement_c (vr:Value) (M:List Slot):Cn Tryz.prog 131 [ElP 59 (BkA vr M)] (Tu []):=by
 refine Cn.intro Tryz.func131 rfl zk nq (fun B w0 a hst=>?_)
 have hst:St B w0 42 [(0,ElP 59 (BkA vr M))] [] a w0.w:=hst
 refine wp_seq ?_
 refine gl (sts:=[]) (news:=[]) (sp:=[.val 2 _]) [.g 0,.o 0] hst (zv rfl rfl (za1 za3) o0) (fun a w hst=>?_)
 have hst:St B w0 42 [(0,_),(2,_)] [] a w:=hst
 refine za0 ?_
 refine wp_block ?_
 have hst:=St.sel hst [0,1]
 refine wp_loop_ghost (fun n a w =>  St B w0 42 [(0,ElP 59 (BkA vr M)),(2,In 0)] [] a w) (0) ?_ ?_
 ·exact hst
 intro n a w hI
 have hst:=hI
 refine wp_seq ?_
 refine wp_seq ?_
 refine gl (sts:=[]) (news:=[]) (sp:=[.val 6 _,.val 7 _,.val 8 _,.val 9 _,.val 10 _,.val 11 _,.val 12 _]) [.g 0,.g 1,.o 6] hst (zv rfl rfl (za2 (gq 1 rfl)) (zv rfl rfl (za2 (gq 0 rfl)) (zv rfl rfl (zbo (vq 1 rfl)) (zv rfl rfl (zas (vq 2 rfl) fld_59_9 (Sub.part 9 rfl rfl)) (zv rfl rfl (zad (vq 3 rfl) ty_50) (zv rfl rfl (zbz Tryz.underlying50 (has_wk' (vq 4 rfl) zbe)) (zv rfl rfl (zb7 (vq 0 rfl) (vq 5 rfl)) o0))))))) (fun a w hst=>?_)
 have hst:St B w0 42 [(0,_),(2,_),(12,_)] [] a w:=hst
 refine za0 ?_
 refine za8 hst (zm 2 rfl) (fun hb0=>?_) (fun hb0=>?_)
 ·exact absurd hb0 zd
 ·refine wp_exit ?_
  refine za6 ?_
  refine za6 ?_
  refine zaj ?_
  refine zbi ?_
  exact zaq (rs:=[]) rfl hst .nil zd
theorem lookElement_c (vr:Value) (M:List Slot):Cn Tryz.prog 147 [ElP 59 (BkA vr M)] (Bo true):=by
 refine Cn.intro Tryz.func147 rfl zk nq (fun B w0 a hst=>?_)
 have hst:St B w0 64 [(0,ElP 59 (BkA vr M))] [] a w0.w:=hst
 refine wp_seq ?_
 refine gl (sts:=[]) (news:=[]) (sp:=[.val 2 _]) [.g 0,.o 0] hst (zv rfl rfl (za1 zb2) o0) (fun a w hst=>?_)
 have hst:St B w0 64 [(0,_),(2,_)] [] a w:=hst
 refine zt ?_
 refine wp_seq ?_
 refine gl (sts:=[]) (news:=[]) (sp:=[.val 3 _]) [.g 0,.g 1,.o 0] hst (zv rfl rfl (za1 za3) o0) (fun a w hst=>?_)
 have hst:St B w0 64 [(0,_),(2,_),(3,_)] [] a w:=hst
 refine za0 ?_
 refine wp_block ?_
 have hst:=St.sel hst [0,2]
 refine wp_loop_ghost (fun n a w =>  St B w0 64 [(0,ElP 59 (BkA vr M)),(3,In 0)] [] a w) (0) ?_ ?_
 ·exact hst
 intro n a w hI
 have hst:=hI
 refine wp_seq ?_
 refine wp_seq ?_
 refine gl (sts:=[]) (news:=[]) (sp:=[.val 6 _,.val 7 _,.val 8 _,.val 9 _,.val 10 _,.val 11 _,.val 12 _]) [.g 0,.g 1,.o 6] hst (zv rfl rfl (za2 (gq 1 rfl)) (zv rfl rfl (za2 (gq 0 rfl)) (zv rfl rfl (zbo (vq 1 rfl)) (zv rfl rfl (zas (vq 2 rfl) fld_59_9 (Sub.part 9 rfl rfl)) (zv rfl rfl (zad (vq 3 rfl) ty_50) (zv rfl rfl (zbz Tryz.underlying50 (has_wk' (vq 4 rfl) zbe)) (zv rfl rfl (zb7 (vq 0 rfl) (vq 5 rfl)) o0))))))) (fun a w hst=>?_)
 have hst:St B w0 64 [(0,_),(3,_),(12,_)] [] a w:=hst
 refine za0 ?_
 refine za8 hst (zm 2 rfl) (fun hb0=>?_) (fun hb0=>?_)
 ·exact absurd hb0 zd
 ·refine wp_exit ?_
  refine za6 ?_
  refine za6 ?_
  refine zaj ?_
  refine zt ?_
  refine gl (sts:=[]) (news:=[]) (sp:=[.val 2 _]) [.g 0,.o 0] hst (zv rfl rfl (za1 zb2) o0) (fun a w hst=>?_)
  have hst:St B w0 64 [(0,_),(2,_)] [] a w:=hst
  refine za0 ?_
  refine wp_ret ?_
  exact zae rfl hst (zm 1 rfl)
theorem fillCoat_c (vr:Value) (M:List Slot):Cn Tryz.prog 116 [ElP 59 (BkA vr M)] (Tu []):=by
 refine Cn.intro Tryz.func116 rfl zk nq (fun B w0 a hst=>?_)
 have hst:St B w0 35 [(0,ElP 59 (BkA vr M))] [] a w0.w:=hst
 refine wp_seq ?_
 refine gl (sts:=[]) (news:=[]) (sp:=[.val 2 _]) [.g 0,.o 0] hst (zv rfl rfl (za1 za3) o0) (fun a w hst=>?_)
 have hst:St B w0 35 [(0,_),(2,_)] [] a w:=hst
 refine za0 ?_
 refine wp_block ?_
 have hst:=St.sel hst [0,1]
 refine wp_loop_ghost (fun n a w =>  St B w0 35 [(0,ElP 59 (BkA vr M)),(2,In 0)] [] a w) (0) ?_ ?_
 ·exact hst
 intro n a w hI
 have hst:=hI
 refine wp_seq ?_
 refine wp_seq ?_
 refine gl (sts:=[]) (news:=[]) (sp:=[.val 5 _,.val 6 _,.val 7 _,.val 8 _,.val 9 _,.val 10 _,.val 11 _]) [.g 0,.g 1,.o 6] hst (zv rfl rfl (za2 (gq 1 rfl)) (zv rfl rfl (za2 (gq 0 rfl)) (zv rfl rfl (zbo (vq 1 rfl)) (zv rfl rfl (zas (vq 2 rfl) zjm (Sub.part 10 rfl rfl)) (zv rfl rfl (zad (vq 3 rfl) ty_51) (zv rfl rfl (zbz Tryz.underlying51 (has_wk' (vq 4 rfl) zbe)) (zv rfl rfl (zb7 (vq 0 rfl) (vq 5 rfl)) o0))))))) (fun a w hst=>?_)
 have hst:St B w0 35 [(0,_),(2,_),(11,_)] [] a w:=hst
 refine za0 ?_
 refine za8 hst (zm 2 rfl) (fun hb0=>?_) (fun hb0=>?_)
 ·exact absurd hb0 zd
 ·refine wp_exit ?_
  refine za6 ?_
  refine za6 ?_
  refine zaj ?_
  refine zbi ?_
  exact zaq (rs:=[]) rfl hst .nil zd
theorem growCoat_c (vr:Value) (M:List Slot):Cn Tryz.prog 132 [ElP 59 (BkA vr M)] (Tu []):=by
 refine Cn.intro Tryz.func132 rfl zk nq (fun B w0 a hst=>?_)
 have hst:St B w0 42 [(0,ElP 59 (BkA vr M))] [] a w0.w:=hst
 refine wp_seq ?_
 refine gl (sts:=[]) (news:=[]) (sp:=[.val 2 _]) [.g 0,.o 0] hst (zv rfl rfl (za1 za3) o0) (fun a w hst=>?_)
 have hst:St B w0 42 [(0,_),(2,_)] [] a w:=hst
 refine za0 ?_
 refine wp_block ?_
 have hst:=St.sel hst [0,1]
 refine wp_loop_ghost (fun n a w =>  St B w0 42 [(0,ElP 59 (BkA vr M)),(2,In 0)] [] a w) (0) ?_ ?_
 ·exact hst
 intro n a w hI
 have hst:=hI
 refine wp_seq ?_
 refine wp_seq ?_
 refine gl (sts:=[]) (news:=[]) (sp:=[.val 6 _,.val 7 _,.val 8 _,.val 9 _,.val 10 _,.val 11 _,.val 12 _]) [.g 0,.g 1,.o 6] hst (zv rfl rfl (za2 (gq 1 rfl)) (zv rfl rfl (za2 (gq 0 rfl)) (zv rfl rfl (zbo (vq 1 rfl)) (zv rfl rfl (zas (vq 2 rfl) zjm (Sub.part 10 rfl rfl)) (zv rfl rfl (zad (vq 3 rfl) ty_51) (zv rfl rfl (zbz Tryz.underlying51 (has_wk' (vq 4 rfl) zbe)) (zv rfl rfl (zb7 (vq 0 rfl) (vq 5 rfl)) o0))))))) (fun a w hst=>?_)
 have hst:St B w0 42 [(0,_),(2,_),(12,_)] [] a w:=hst
 refine za0 ?_
 refine za8 hst (zm 2 rfl) (fun hb0=>?_) (fun hb0=>?_)
 ·exact absurd hb0 zd
 ·refine wp_exit ?_
  refine za6 ?_
  refine za6 ?_
  refine zaj ?_
  refine zbi ?_
  exact zaq (rs:=[]) rfl hst .nil zd
theorem lookCoat_c (vr:Value) (M:List Slot):Cn Tryz.prog 148 [ElP 59 (BkA vr M)] (Bo true):=by
 refine Cn.intro Tryz.func148 rfl zk nq (fun B w0 a hst=>?_)
 have hst:St B w0 64 [(0,ElP 59 (BkA vr M))] [] a w0.w:=hst
 refine wp_seq ?_
 refine gl (sts:=[]) (news:=[]) (sp:=[.val 2 _]) [.g 0,.o 0] hst (zv rfl rfl (za1 zb2) o0) (fun a w hst=>?_)
 have hst:St B w0 64 [(0,_),(2,_)] [] a w:=hst
 refine zt ?_
 refine wp_seq ?_
 refine gl (sts:=[]) (news:=[]) (sp:=[.val 3 _]) [.g 0,.g 1,.o 0] hst (zv rfl rfl (za1 za3) o0) (fun a w hst=>?_)
 have hst:St B w0 64 [(0,_),(2,_),(3,_)] [] a w:=hst
 refine za0 ?_
 refine wp_block ?_
 have hst:=St.sel hst [0,2]
 refine wp_loop_ghost (fun n a w =>  St B w0 64 [(0,ElP 59 (BkA vr M)),(3,In 0)] [] a w) (0) ?_ ?_
 ·exact hst
 intro n a w hI
 have hst:=hI
 refine wp_seq ?_
 refine wp_seq ?_
 refine gl (sts:=[]) (news:=[]) (sp:=[.val 6 _,.val 7 _,.val 8 _,.val 9 _,.val 10 _,.val 11 _,.val 12 _]) [.g 0,.g 1,.o 6] hst (zv rfl rfl (za2 (gq 1 rfl)) (zv rfl rfl (za2 (gq 0 rfl)) (zv rfl rfl (zbo (vq 1 rfl)) (zv rfl rfl (zas (vq 2 rfl) zjm (Sub.part 10 rfl rfl)) (zv rfl rfl (zad (vq 3 rfl) ty_51) (zv rfl rfl (zbz Tryz.underlying51 (has_wk' (vq 4 rfl) zbe)) (zv rfl rfl (zb7 (vq 0 rfl) (vq 5 rfl)) o0))))))) (fun a w hst=>?_)
 have hst:St B w0 64 [(0,_),(3,_),(12,_)] [] a w:=hst
 refine za0 ?_
 refine za8 hst (zm 2 rfl) (fun hb0=>?_) (fun hb0=>?_)
 ·exact absurd hb0 zd
 ·refine wp_exit ?_
  refine za6 ?_
  refine za6 ?_
  refine zaj ?_
  refine zt ?_
  refine gl (sts:=[]) (news:=[]) (sp:=[.val 2 _]) [.g 0,.o 0] hst (zv rfl rfl (za1 zb2) o0) (fun a w hst=>?_)
  have hst:St B w0 64 [(0,_),(2,_)] [] a w:=hst
  refine za0 ?_
  refine wp_ret ?_
  exact zae rfl hst (zm 1 rfl)
theorem fillDisc_c (vr:Value) (M:List Slot):Cn Tryz.prog 117 [ElP 59 (BkA vr M)] (Tu []):=by
 refine Cn.intro Tryz.func117 rfl zk nq (fun B w0 a hst=>?_)
 have hst:St B w0 35 [(0,ElP 59 (BkA vr M))] [] a w0.w:=hst
 refine wp_seq ?_
 refine gl (sts:=[]) (news:=[]) (sp:=[.val 2 _]) [.g 0,.o 0] hst (zv rfl rfl (za1 za3) o0) (fun a w hst=>?_)
 have hst:St B w0 35 [(0,_),(2,_)] [] a w:=hst
 refine za0 ?_
 refine wp_block ?_
 have hst:=St.sel hst [0,1]
 refine wp_loop_ghost (fun n a w =>  St B w0 35 [(0,ElP 59 (BkA vr M)),(2,In 0)] [] a w) (0) ?_ ?_
 ·exact hst
 intro n a w hI
 have hst:=hI
 refine wp_seq ?_
 refine wp_seq ?_
 refine gl (sts:=[]) (news:=[]) (sp:=[.val 5 _,.val 6 _,.val 7 _,.val 8 _,.val 9 _,.val 10 _,.val 11 _]) [.g 0,.g 1,.o 6] hst (zv rfl rfl (za2 (gq 1 rfl)) (zv rfl rfl (za2 (gq 0 rfl)) (zv rfl rfl (zbo (vq 1 rfl)) (zv rfl rfl (zas (vq 2 rfl) zjl (Sub.part 11 rfl rfl)) (zv rfl rfl (zad (vq 3 rfl) ty_52) (zv rfl rfl (zbz Tryz.underlying52 (has_wk' (vq 4 rfl) zbe)) (zv rfl rfl (zb7 (vq 0 rfl) (vq 5 rfl)) o0))))))) (fun a w hst=>?_)
 have hst:St B w0 35 [(0,_),(2,_),(11,_)] [] a w:=hst
 refine za0 ?_
 refine za8 hst (zm 2 rfl) (fun hb0=>?_) (fun hb0=>?_)
 ·exact absurd hb0 zd
 ·refine wp_exit ?_
  refine za6 ?_
  refine za6 ?_
  refine zaj ?_
  refine zbi ?_
  exact zaq (rs:=[]) rfl hst .nil zd
theorem growDisc_c (vr:Value) (M:List Slot):Cn Tryz.prog 133 [ElP 59 (BkA vr M)] (Tu []):=by
 refine Cn.intro Tryz.func133 rfl zk nq (fun B w0 a hst=>?_)
 have hst:St B w0 42 [(0,ElP 59 (BkA vr M))] [] a w0.w:=hst
 refine wp_seq ?_
 refine gl (sts:=[]) (news:=[]) (sp:=[.val 2 _]) [.g 0,.o 0] hst (zv rfl rfl (za1 za3) o0) (fun a w hst=>?_)
 have hst:St B w0 42 [(0,_),(2,_)] [] a w:=hst
 refine za0 ?_
 refine wp_block ?_
 have hst:=St.sel hst [0,1]
 refine wp_loop_ghost (fun n a w =>  St B w0 42 [(0,ElP 59 (BkA vr M)),(2,In 0)] [] a w) (0) ?_ ?_
 ·exact hst
 intro n a w hI
 have hst:=hI
 refine wp_seq ?_
 refine wp_seq ?_
 refine gl (sts:=[]) (news:=[]) (sp:=[.val 6 _,.val 7 _,.val 8 _,.val 9 _,.val 10 _,.val 11 _,.val 12 _]) [.g 0,.g 1,.o 6] hst (zv rfl rfl (za2 (gq 1 rfl)) (zv rfl rfl (za2 (gq 0 rfl)) (zv rfl rfl (zbo (vq 1 rfl)) (zv rfl rfl (zas (vq 2 rfl) zjl (Sub.part 11 rfl rfl)) (zv rfl rfl (zad (vq 3 rfl) ty_52) (zv rfl rfl (zbz Tryz.underlying52 (has_wk' (vq 4 rfl) zbe)) (zv rfl rfl (zb7 (vq 0 rfl) (vq 5 rfl)) o0))))))) (fun a w hst=>?_)
 have hst:St B w0 42 [(0,_),(2,_),(12,_)] [] a w:=hst
 refine za0 ?_
 refine za8 hst (zm 2 rfl) (fun hb0=>?_) (fun hb0=>?_)
 ·exact absurd hb0 zd
 ·refine wp_exit ?_
  refine za6 ?_
  refine za6 ?_
  refine zaj ?_
  refine zbi ?_
  exact zaq (rs:=[]) rfl hst .nil zd
theorem lookDisc_c (vr:Value) (M:List Slot):Cn Tryz.prog 149 [ElP 59 (BkA vr M)] (Bo true):=by
 refine Cn.intro Tryz.func149 rfl zk nq (fun B w0 a hst=>?_)
 have hst:St B w0 64 [(0,ElP 59 (BkA vr M))] [] a w0.w:=hst
 refine wp_seq ?_
 refine gl (sts:=[]) (news:=[]) (sp:=[.val 2 _]) [.g 0,.o 0] hst (zv rfl rfl (za1 zb2) o0) (fun a w hst=>?_)
 have hst:St B w0 64 [(0,_),(2,_)] [] a w:=hst
 refine zt ?_
 refine wp_seq ?_
 refine gl (sts:=[]) (news:=[]) (sp:=[.val 3 _]) [.g 0,.g 1,.o 0] hst (zv rfl rfl (za1 za3) o0) (fun a w hst=>?_)
 have hst:St B w0 64 [(0,_),(2,_),(3,_)] [] a w:=hst
 refine za0 ?_
 refine wp_block ?_
 have hst:=St.sel hst [0,2]
 refine wp_loop_ghost (fun n a w =>  St B w0 64 [(0,ElP 59 (BkA vr M)),(3,In 0)] [] a w) (0) ?_ ?_
 ·exact hst
 intro n a w hI
 have hst:=hI
 refine wp_seq ?_
 refine wp_seq ?_
 refine gl (sts:=[]) (news:=[]) (sp:=[.val 6 _,.val 7 _,.val 8 _,.val 9 _,.val 10 _,.val 11 _,.val 12 _]) [.g 0,.g 1,.o 6] hst (zv rfl rfl (za2 (gq 1 rfl)) (zv rfl rfl (za2 (gq 0 rfl)) (zv rfl rfl (zbo (vq 1 rfl)) (zv rfl rfl (zas (vq 2 rfl) zjl (Sub.part 11 rfl rfl)) (zv rfl rfl (zad (vq 3 rfl) ty_52) (zv rfl rfl (zbz Tryz.underlying52 (has_wk' (vq 4 rfl) zbe)) (zv rfl rfl (zb7 (vq 0 rfl) (vq 5 rfl)) o0))))))) (fun a w hst=>?_)
 have hst:St B w0 64 [(0,_),(3,_),(12,_)] [] a w:=hst
 refine za0 ?_
 refine za8 hst (zm 2 rfl) (fun hb0=>?_) (fun hb0=>?_)
 ·exact absurd hb0 zd
 ·refine wp_exit ?_
  refine za6 ?_
  refine za6 ?_
  refine zaj ?_
  refine zt ?_
  refine gl (sts:=[]) (news:=[]) (sp:=[.val 2 _]) [.g 0,.o 0] hst (zv rfl rfl (za1 zb2) o0) (fun a w hst=>?_)
  have hst:St B w0 64 [(0,_),(2,_)] [] a w:=hst
  refine za0 ?_
  refine wp_ret ?_
  exact zae rfl hst (zm 1 rfl)
theorem fillPart_c (vr:Value) (M:List Slot):Cn Tryz.prog 118 [ElP 59 (BkA vr M)] (Tu []):=by
 refine Cn.intro Tryz.func118 rfl zk nq (fun B w0 a hst=>?_)
 have hst:St B w0 35 [(0,ElP 59 (BkA vr M))] [] a w0.w:=hst
 refine wp_seq ?_
 refine gl (sts:=[]) (news:=[]) (sp:=[.val 2 _]) [.g 0,.o 0] hst (zv rfl rfl (za1 za3) o0) (fun a w hst=>?_)
 have hst:St B w0 35 [(0,_),(2,_)] [] a w:=hst
 refine za0 ?_
 refine wp_block ?_
 have hst:=St.sel hst [0,1]
 refine wp_loop_ghost (fun n a w =>  St B w0 35 [(0,ElP 59 (BkA vr M)),(2,In 0)] [] a w) (0) ?_ ?_
 ·exact hst
 intro n a w hI
 have hst:=hI
 refine wp_seq ?_
 refine wp_seq ?_
 refine gl (sts:=[]) (news:=[]) (sp:=[.val 5 _,.val 6 _,.val 7 _,.val 8 _,.val 9 _,.val 10 _,.val 11 _]) [.g 0,.g 1,.o 6] hst (zv rfl rfl (za2 (gq 1 rfl)) (zv rfl rfl (za2 (gq 0 rfl)) (zv rfl rfl (zbo (vq 1 rfl)) (zv rfl rfl (zas (vq 2 rfl) zjk (Sub.part 12 rfl rfl)) (zv rfl rfl (zad (vq 3 rfl) ty_53) (zv rfl rfl (zbz Tryz.underlying53 (has_wk' (vq 4 rfl) zbe)) (zv rfl rfl (zb7 (vq 0 rfl) (vq 5 rfl)) o0))))))) (fun a w hst=>?_)
 have hst:St B w0 35 [(0,_),(2,_),(11,_)] [] a w:=hst
 refine za0 ?_
 refine za8 hst (zm 2 rfl) (fun hb0=>?_) (fun hb0=>?_)
 ·exact absurd hb0 zd
 ·refine wp_exit ?_
  refine za6 ?_
  refine za6 ?_
  refine zaj ?_
  refine zbi ?_
  exact zaq (rs:=[]) rfl hst .nil zd
theorem growPart_c (vr:Value) (M:List Slot):Cn Tryz.prog 134 [ElP 59 (BkA vr M)] (Tu []):=by
 refine Cn.intro Tryz.func134 rfl zk nq (fun B w0 a hst=>?_)
 have hst:St B w0 42 [(0,ElP 59 (BkA vr M))] [] a w0.w:=hst
 refine wp_seq ?_
 refine gl (sts:=[]) (news:=[]) (sp:=[.val 2 _]) [.g 0,.o 0] hst (zv rfl rfl (za1 za3) o0) (fun a w hst=>?_)
 have hst:St B w0 42 [(0,_),(2,_)] [] a w:=hst
 refine za0 ?_
 refine wp_block ?_
 have hst:=St.sel hst [0,1]
 refine wp_loop_ghost (fun n a w =>  St B w0 42 [(0,ElP 59 (BkA vr M)),(2,In 0)] [] a w) (0) ?_ ?_
 ·exact hst
 intro n a w hI
 have hst:=hI
 refine wp_seq ?_
 refine wp_seq ?_
 refine gl (sts:=[]) (news:=[]) (sp:=[.val 6 _,.val 7 _,.val 8 _,.val 9 _,.val 10 _,.val 11 _,.val 12 _]) [.g 0,.g 1,.o 6] hst (zv rfl rfl (za2 (gq 1 rfl)) (zv rfl rfl (za2 (gq 0 rfl)) (zv rfl rfl (zbo (vq 1 rfl)) (zv rfl rfl (zas (vq 2 rfl) zjk (Sub.part 12 rfl rfl)) (zv rfl rfl (zad (vq 3 rfl) ty_53) (zv rfl rfl (zbz Tryz.underlying53 (has_wk' (vq 4 rfl) zbe)) (zv rfl rfl (zb7 (vq 0 rfl) (vq 5 rfl)) o0))))))) (fun a w hst=>?_)
 have hst:St B w0 42 [(0,_),(2,_),(12,_)] [] a w:=hst
 refine za0 ?_
 refine za8 hst (zm 2 rfl) (fun hb0=>?_) (fun hb0=>?_)
 ·exact absurd hb0 zd
 ·refine wp_exit ?_
  refine za6 ?_
  refine za6 ?_
  refine zaj ?_
  refine zbi ?_
  exact zaq (rs:=[]) rfl hst .nil zd
theorem lookPart_c (vr:Value) (M:List Slot):Cn Tryz.prog 150 [ElP 59 (BkA vr M)] (Bo true):=by
 refine Cn.intro Tryz.func150 rfl zk nq (fun B w0 a hst=>?_)
 have hst:St B w0 64 [(0,ElP 59 (BkA vr M))] [] a w0.w:=hst
 refine wp_seq ?_
 refine gl (sts:=[]) (news:=[]) (sp:=[.val 2 _]) [.g 0,.o 0] hst (zv rfl rfl (za1 zb2) o0) (fun a w hst=>?_)
 have hst:St B w0 64 [(0,_),(2,_)] [] a w:=hst
 refine zt ?_
 refine wp_seq ?_
 refine gl (sts:=[]) (news:=[]) (sp:=[.val 3 _]) [.g 0,.g 1,.o 0] hst (zv rfl rfl (za1 za3) o0) (fun a w hst=>?_)
 have hst:St B w0 64 [(0,_),(2,_),(3,_)] [] a w:=hst
 refine za0 ?_
 refine wp_block ?_
 have hst:=St.sel hst [0,2]
 refine wp_loop_ghost (fun n a w =>  St B w0 64 [(0,ElP 59 (BkA vr M)),(3,In 0)] [] a w) (0) ?_ ?_
 ·exact hst
 intro n a w hI
 have hst:=hI
 refine wp_seq ?_
 refine wp_seq ?_
 refine gl (sts:=[]) (news:=[]) (sp:=[.val 6 _,.val 7 _,.val 8 _,.val 9 _,.val 10 _,.val 11 _,.val 12 _]) [.g 0,.g 1,.o 6] hst (zv rfl rfl (za2 (gq 1 rfl)) (zv rfl rfl (za2 (gq 0 rfl)) (zv rfl rfl (zbo (vq 1 rfl)) (zv rfl rfl (zas (vq 2 rfl) zjk (Sub.part 12 rfl rfl)) (zv rfl rfl (zad (vq 3 rfl) ty_53) (zv rfl rfl (zbz Tryz.underlying53 (has_wk' (vq 4 rfl) zbe)) (zv rfl rfl (zb7 (vq 0 rfl) (vq 5 rfl)) o0))))))) (fun a w hst=>?_)
 have hst:St B w0 64 [(0,_),(3,_),(12,_)] [] a w:=hst
 refine za0 ?_
 refine za8 hst (zm 2 rfl) (fun hb0=>?_) (fun hb0=>?_)
 ·exact absurd hb0 zd
 ·refine wp_exit ?_
  refine za6 ?_
  refine za6 ?_
  refine zaj ?_
  refine zt ?_
  refine gl (sts:=[]) (news:=[]) (sp:=[.val 2 _]) [.g 0,.o 0] hst (zv rfl rfl (za1 zb2) o0) (fun a w hst=>?_)
  have hst:St B w0 64 [(0,_),(2,_)] [] a w:=hst
  refine za0 ?_
  refine wp_ret ?_
  exact zae rfl hst (zm 1 rfl)
theorem fillDef_c (vr:Value) (M:List Slot):Cn Tryz.prog 119 [ElP 59 (BkA vr M)] (Tu []):=by
 refine Cn.intro Tryz.func119 rfl zk nq (fun B w0 a hst=>?_)
 have hst:St B w0 35 [(0,ElP 59 (BkA vr M))] [] a w0.w:=hst
 refine wp_seq ?_
 refine gl (sts:=[]) (news:=[]) (sp:=[.val 2 _]) [.g 0,.o 0] hst (zv rfl rfl (za1 za3) o0) (fun a w hst=>?_)
 have hst:St B w0 35 [(0,_),(2,_)] [] a w:=hst
 refine za0 ?_
 refine wp_block ?_
 have hst:=St.sel hst [0,1]
 refine wp_loop_ghost (fun n a w =>  St B w0 35 [(0,ElP 59 (BkA vr M)),(2,In 0)] [] a w) (0) ?_ ?_
 ·exact hst
 intro n a w hI
 have hst:=hI
 refine wp_seq ?_
 refine wp_seq ?_
 refine gl (sts:=[]) (news:=[]) (sp:=[.val 5 _,.val 6 _,.val 7 _,.val 8 _,.val 9 _,.val 10 _,.val 11 _]) [.g 0,.g 1,.o 6] hst (zv rfl rfl (za2 (gq 1 rfl)) (zv rfl rfl (za2 (gq 0 rfl)) (zv rfl rfl (zbo (vq 1 rfl)) (zv rfl rfl (zas (vq 2 rfl) zjj (Sub.part 13 rfl rfl)) (zv rfl rfl (zad (vq 3 rfl) ty_54) (zv rfl rfl (zbz Tryz.underlying54 (has_wk' (vq 4 rfl) zbe)) (zv rfl rfl (zb7 (vq 0 rfl) (vq 5 rfl)) o0))))))) (fun a w hst=>?_)
 have hst:St B w0 35 [(0,_),(2,_),(11,_)] [] a w:=hst
 refine za0 ?_
 refine za8 hst (zm 2 rfl) (fun hb0=>?_) (fun hb0=>?_)
 ·exact absurd hb0 zd
 ·refine wp_exit ?_
  refine za6 ?_
  refine za6 ?_
  refine zaj ?_
  refine zbi ?_
  exact zaq (rs:=[]) rfl hst .nil zd
theorem growDef_c (vr:Value) (M:List Slot):Cn Tryz.prog 135 [ElP 59 (BkA vr M)] (Tu []):=by
 refine Cn.intro Tryz.func135 rfl zk nq (fun B w0 a hst=>?_)
 have hst:St B w0 42 [(0,ElP 59 (BkA vr M))] [] a w0.w:=hst
 refine wp_seq ?_
 refine gl (sts:=[]) (news:=[]) (sp:=[.val 2 _]) [.g 0,.o 0] hst (zv rfl rfl (za1 za3) o0) (fun a w hst=>?_)
 have hst:St B w0 42 [(0,_),(2,_)] [] a w:=hst
 refine za0 ?_
 refine wp_block ?_
 have hst:=St.sel hst [0,1]
 refine wp_loop_ghost (fun n a w =>  St B w0 42 [(0,ElP 59 (BkA vr M)),(2,In 0)] [] a w) (0) ?_ ?_
 ·exact hst
 intro n a w hI
 have hst:=hI
 refine wp_seq ?_
 refine wp_seq ?_
 refine gl (sts:=[]) (news:=[]) (sp:=[.val 6 _,.val 7 _,.val 8 _,.val 9 _,.val 10 _,.val 11 _,.val 12 _]) [.g 0,.g 1,.o 6] hst (zv rfl rfl (za2 (gq 1 rfl)) (zv rfl rfl (za2 (gq 0 rfl)) (zv rfl rfl (zbo (vq 1 rfl)) (zv rfl rfl (zas (vq 2 rfl) zjj (Sub.part 13 rfl rfl)) (zv rfl rfl (zad (vq 3 rfl) ty_54) (zv rfl rfl (zbz Tryz.underlying54 (has_wk' (vq 4 rfl) zbe)) (zv rfl rfl (zb7 (vq 0 rfl) (vq 5 rfl)) o0))))))) (fun a w hst=>?_)
 have hst:St B w0 42 [(0,_),(2,_),(12,_)] [] a w:=hst
 refine za0 ?_
 refine za8 hst (zm 2 rfl) (fun hb0=>?_) (fun hb0=>?_)
 ·exact absurd hb0 zd
 ·refine wp_exit ?_
  refine za6 ?_
  refine za6 ?_
  refine zaj ?_
  refine zbi ?_
  exact zaq (rs:=[]) rfl hst .nil zd
theorem lookDef_c (vr:Value) (M:List Slot):Cn Tryz.prog 151 [ElP 59 (BkA vr M)] (Bo true):=by
 refine Cn.intro Tryz.func151 rfl zk nq (fun B w0 a hst=>?_)
 have hst:St B w0 64 [(0,ElP 59 (BkA vr M))] [] a w0.w:=hst
 refine wp_seq ?_
 refine gl (sts:=[]) (news:=[]) (sp:=[.val 2 _]) [.g 0,.o 0] hst (zv rfl rfl (za1 zb2) o0) (fun a w hst=>?_)
 have hst:St B w0 64 [(0,_),(2,_)] [] a w:=hst
 refine zt ?_
 refine wp_seq ?_
 refine gl (sts:=[]) (news:=[]) (sp:=[.val 3 _]) [.g 0,.g 1,.o 0] hst (zv rfl rfl (za1 za3) o0) (fun a w hst=>?_)
 have hst:St B w0 64 [(0,_),(2,_),(3,_)] [] a w:=hst
 refine za0 ?_
 refine wp_block ?_
 have hst:=St.sel hst [0,2]
 refine wp_loop_ghost (fun n a w =>  St B w0 64 [(0,ElP 59 (BkA vr M)),(3,In 0)] [] a w) (0) ?_ ?_
 ·exact hst
 intro n a w hI
 have hst:=hI
 refine wp_seq ?_
 refine wp_seq ?_
 refine gl (sts:=[]) (news:=[]) (sp:=[.val 6 _,.val 7 _,.val 8 _,.val 9 _,.val 10 _,.val 11 _,.val 12 _]) [.g 0,.g 1,.o 6] hst (zv rfl rfl (za2 (gq 1 rfl)) (zv rfl rfl (za2 (gq 0 rfl)) (zv rfl rfl (zbo (vq 1 rfl)) (zv rfl rfl (zas (vq 2 rfl) zjj (Sub.part 13 rfl rfl)) (zv rfl rfl (zad (vq 3 rfl) ty_54) (zv rfl rfl (zbz Tryz.underlying54 (has_wk' (vq 4 rfl) zbe)) (zv rfl rfl (zb7 (vq 0 rfl) (vq 5 rfl)) o0))))))) (fun a w hst=>?_)
 have hst:St B w0 64 [(0,_),(3,_),(12,_)] [] a w:=hst
 refine za0 ?_
 refine za8 hst (zm 2 rfl) (fun hb0=>?_) (fun hb0=>?_)
 ·exact absurd hb0 zd
 ·refine wp_exit ?_
  refine za6 ?_
  refine za6 ?_
  refine zaj ?_
  refine zt ?_
  refine gl (sts:=[]) (news:=[]) (sp:=[.val 2 _]) [.g 0,.o 0] hst (zv rfl rfl (za1 zb2) o0) (fun a w hst=>?_)
  have hst:St B w0 64 [(0,_),(2,_)] [] a w:=hst
  refine za0 ?_
  refine wp_ret ?_
  exact zae rfl hst (zm 1 rfl)
theorem fillItem_c (vr:Value) (M:List Slot):Cn Tryz.prog 120 [ElP 59 (BkA vr M)] (Tu []):=by
 refine Cn.intro Tryz.func120 rfl zk nq (fun B w0 a hst=>?_)
 have hst:St B w0 35 [(0,ElP 59 (BkA vr M))] [] a w0.w:=hst
 refine wp_seq ?_
 refine gl (sts:=[]) (news:=[]) (sp:=[.val 2 _]) [.g 0,.o 0] hst (zv rfl rfl (za1 za3) o0) (fun a w hst=>?_)
 have hst:St B w0 35 [(0,_),(2,_)] [] a w:=hst
 refine za0 ?_
 refine wp_block ?_
 have hst:=St.sel hst [0,1]
 refine wp_loop_ghost (fun n a w =>  St B w0 35 [(0,ElP 59 (BkA vr M)),(2,In 0)] [] a w) (0) ?_ ?_
 ·exact hst
 intro n a w hI
 have hst:=hI
 refine wp_seq ?_
 refine wp_seq ?_
 refine gl (sts:=[]) (news:=[]) (sp:=[.val 5 _,.val 6 _,.val 7 _,.val 8 _,.val 9 _,.val 10 _,.val 11 _]) [.g 0,.g 1,.o 6] hst (zv rfl rfl (za2 (gq 1 rfl)) (zv rfl rfl (za2 (gq 0 rfl)) (zv rfl rfl (zbo (vq 1 rfl)) (zv rfl rfl (zas (vq 2 rfl) zji (Sub.part 14 rfl rfl)) (zv rfl rfl (zad (vq 3 rfl) ty_55) (zv rfl rfl (zbz Tryz.underlying55 (has_wk' (vq 4 rfl) zbe)) (zv rfl rfl (zb7 (vq 0 rfl) (vq 5 rfl)) o0))))))) (fun a w hst=>?_)
 have hst:St B w0 35 [(0,_),(2,_),(11,_)] [] a w:=hst
 refine za0 ?_
 refine za8 hst (zm 2 rfl) (fun hb0=>?_) (fun hb0=>?_)
 ·exact absurd hb0 zd
 ·refine wp_exit ?_
  refine za6 ?_
  refine za6 ?_
  refine zaj ?_
  refine zbi ?_
  exact zaq (rs:=[]) rfl hst .nil zd
theorem growItem_c (vr:Value) (M:List Slot):Cn Tryz.prog 136 [ElP 59 (BkA vr M)] (Tu []):=by
 refine Cn.intro Tryz.func136 rfl zk nq (fun B w0 a hst=>?_)
 have hst:St B w0 42 [(0,ElP 59 (BkA vr M))] [] a w0.w:=hst
 refine wp_seq ?_
 refine gl (sts:=[]) (news:=[]) (sp:=[.val 2 _]) [.g 0,.o 0] hst (zv rfl rfl (za1 za3) o0) (fun a w hst=>?_)
 have hst:St B w0 42 [(0,_),(2,_)] [] a w:=hst
 refine za0 ?_
 refine wp_block ?_
 have hst:=St.sel hst [0,1]
 refine wp_loop_ghost (fun n a w =>  St B w0 42 [(0,ElP 59 (BkA vr M)),(2,In 0)] [] a w) (0) ?_ ?_
 ·exact hst
 intro n a w hI
 have hst:=hI
 refine wp_seq ?_
 refine wp_seq ?_
 refine gl (sts:=[]) (news:=[]) (sp:=[.val 6 _,.val 7 _,.val 8 _,.val 9 _,.val 10 _,.val 11 _,.val 12 _]) [.g 0,.g 1,.o 6] hst (zv rfl rfl (za2 (gq 1 rfl)) (zv rfl rfl (za2 (gq 0 rfl)) (zv rfl rfl (zbo (vq 1 rfl)) (zv rfl rfl (zas (vq 2 rfl) zji (Sub.part 14 rfl rfl)) (zv rfl rfl (zad (vq 3 rfl) ty_55) (zv rfl rfl (zbz Tryz.underlying55 (has_wk' (vq 4 rfl) zbe)) (zv rfl rfl (zb7 (vq 0 rfl) (vq 5 rfl)) o0))))))) (fun a w hst=>?_)
 have hst:St B w0 42 [(0,_),(2,_),(12,_)] [] a w:=hst
 refine za0 ?_
 refine za8 hst (zm 2 rfl) (fun hb0=>?_) (fun hb0=>?_)
 ·exact absurd hb0 zd
 ·refine wp_exit ?_
  refine za6 ?_
  refine za6 ?_
  refine zaj ?_
  refine zbi ?_
  exact zaq (rs:=[]) rfl hst .nil zd
theorem lookItem_c (vr:Value) (M:List Slot):Cn Tryz.prog 152 [ElP 59 (BkA vr M)] (Bo true):=by
 refine Cn.intro Tryz.func152 rfl zk nq (fun B w0 a hst=>?_)
 have hst:St B w0 64 [(0,ElP 59 (BkA vr M))] [] a w0.w:=hst
 refine wp_seq ?_
 refine gl (sts:=[]) (news:=[]) (sp:=[.val 2 _]) [.g 0,.o 0] hst (zv rfl rfl (za1 zb2) o0) (fun a w hst=>?_)
 have hst:St B w0 64 [(0,_),(2,_)] [] a w:=hst
 refine zt ?_
 refine wp_seq ?_
 refine gl (sts:=[]) (news:=[]) (sp:=[.val 3 _]) [.g 0,.g 1,.o 0] hst (zv rfl rfl (za1 za3) o0) (fun a w hst=>?_)
 have hst:St B w0 64 [(0,_),(2,_),(3,_)] [] a w:=hst
 refine za0 ?_
 refine wp_block ?_
 have hst:=St.sel hst [0,2]
 refine wp_loop_ghost (fun n a w =>  St B w0 64 [(0,ElP 59 (BkA vr M)),(3,In 0)] [] a w) (0) ?_ ?_
 ·exact hst
 intro n a w hI
 have hst:=hI
 refine wp_seq ?_
 refine wp_seq ?_
 refine gl (sts:=[]) (news:=[]) (sp:=[.val 6 _,.val 7 _,.val 8 _,.val 9 _,.val 10 _,.val 11 _,.val 12 _]) [.g 0,.g 1,.o 6] hst (zv rfl rfl (za2 (gq 1 rfl)) (zv rfl rfl (za2 (gq 0 rfl)) (zv rfl rfl (zbo (vq 1 rfl)) (zv rfl rfl (zas (vq 2 rfl) zji (Sub.part 14 rfl rfl)) (zv rfl rfl (zad (vq 3 rfl) ty_55) (zv rfl rfl (zbz Tryz.underlying55 (has_wk' (vq 4 rfl) zbe)) (zv rfl rfl (zb7 (vq 0 rfl) (vq 5 rfl)) o0))))))) (fun a w hst=>?_)
 have hst:St B w0 64 [(0,_),(3,_),(12,_)] [] a w:=hst
 refine za0 ?_
 refine za8 hst (zm 2 rfl) (fun hb0=>?_) (fun hb0=>?_)
 ·exact absurd hb0 zd
 ·refine wp_exit ?_
  refine za6 ?_
  refine za6 ?_
  refine zaj ?_
  refine zt ?_
  refine gl (sts:=[]) (news:=[]) (sp:=[.val 2 _]) [.g 0,.o 0] hst (zv rfl rfl (za1 zb2) o0) (fun a w hst=>?_)
  have hst:St B w0 64 [(0,_),(2,_)] [] a w:=hst
  refine za0 ?_
  refine wp_ret ?_
  exact zae rfl hst (zm 1 rfl)
theorem fillAct_c (vr:Value) (M:List Slot):Cn Tryz.prog 121 [ElP 59 (BkA vr M)] (Tu []):=by
 refine Cn.intro Tryz.func121 rfl zk nq (fun B w0 a hst=>?_)
 have hst:St B w0 35 [(0,ElP 59 (BkA vr M))] [] a w0.w:=hst
 refine wp_seq ?_
 refine gl (sts:=[]) (news:=[]) (sp:=[.val 2 _]) [.g 0,.o 0] hst (zv rfl rfl (za1 za3) o0) (fun a w hst=>?_)
 have hst:St B w0 35 [(0,_),(2,_)] [] a w:=hst
 refine za0 ?_
 refine wp_block ?_
 have hst:=St.sel hst [0,1]
 refine wp_loop_ghost (fun n a w =>  St B w0 35 [(0,ElP 59 (BkA vr M)),(2,In 0)] [] a w) (0) ?_ ?_
 ·exact hst
 intro n a w hI
 have hst:=hI
 refine wp_seq ?_
 refine wp_seq ?_
 refine gl (sts:=[]) (news:=[]) (sp:=[.val 5 _,.val 6 _,.val 7 _,.val 8 _,.val 9 _,.val 10 _,.val 11 _]) [.g 0,.g 1,.o 6] hst (zv rfl rfl (za2 (gq 1 rfl)) (zv rfl rfl (za2 (gq 0 rfl)) (zv rfl rfl (zbo (vq 1 rfl)) (zv rfl rfl (zas (vq 2 rfl) zjh (Sub.part 15 rfl rfl)) (zv rfl rfl (zad (vq 3 rfl) ty_56) (zv rfl rfl (zbz Tryz.underlying56 (has_wk' (vq 4 rfl) zbe)) (zv rfl rfl (zb7 (vq 0 rfl) (vq 5 rfl)) o0))))))) (fun a w hst=>?_)
 have hst:St B w0 35 [(0,_),(2,_),(11,_)] [] a w:=hst
 refine za0 ?_
 refine za8 hst (zm 2 rfl) (fun hb0=>?_) (fun hb0=>?_)
 ·exact absurd hb0 zd
 ·refine wp_exit ?_
  refine za6 ?_
  refine za6 ?_
  refine zaj ?_
  refine zbi ?_
  exact zaq (rs:=[]) rfl hst .nil zd
theorem growAct_c (vr:Value) (M:List Slot):Cn Tryz.prog 137 [ElP 59 (BkA vr M)] (Tu []):=by
 refine Cn.intro Tryz.func137 rfl zk nq (fun B w0 a hst=>?_)
 have hst:St B w0 42 [(0,ElP 59 (BkA vr M))] [] a w0.w:=hst
 refine wp_seq ?_
 refine gl (sts:=[]) (news:=[]) (sp:=[.val 2 _]) [.g 0,.o 0] hst (zv rfl rfl (za1 za3) o0) (fun a w hst=>?_)
 have hst:St B w0 42 [(0,_),(2,_)] [] a w:=hst
 refine za0 ?_
 refine wp_block ?_
 have hst:=St.sel hst [0,1]
 refine wp_loop_ghost (fun n a w =>  St B w0 42 [(0,ElP 59 (BkA vr M)),(2,In 0)] [] a w) (0) ?_ ?_
 ·exact hst
 intro n a w hI
 have hst:=hI
 refine wp_seq ?_
 refine wp_seq ?_
 refine gl (sts:=[]) (news:=[]) (sp:=[.val 6 _,.val 7 _,.val 8 _,.val 9 _,.val 10 _,.val 11 _,.val 12 _]) [.g 0,.g 1,.o 6] hst (zv rfl rfl (za2 (gq 1 rfl)) (zv rfl rfl (za2 (gq 0 rfl)) (zv rfl rfl (zbo (vq 1 rfl)) (zv rfl rfl (zas (vq 2 rfl) zjh (Sub.part 15 rfl rfl)) (zv rfl rfl (zad (vq 3 rfl) ty_56) (zv rfl rfl (zbz Tryz.underlying56 (has_wk' (vq 4 rfl) zbe)) (zv rfl rfl (zb7 (vq 0 rfl) (vq 5 rfl)) o0))))))) (fun a w hst=>?_)
 have hst:St B w0 42 [(0,_),(2,_),(12,_)] [] a w:=hst
 refine za0 ?_
 refine za8 hst (zm 2 rfl) (fun hb0=>?_) (fun hb0=>?_)
 ·exact absurd hb0 zd
 ·refine wp_exit ?_
  refine za6 ?_
  refine za6 ?_
  refine zaj ?_
  refine zbi ?_
  exact zaq (rs:=[]) rfl hst .nil zd
theorem lookAct_c (vr:Value) (M:List Slot):Cn Tryz.prog 153 [ElP 59 (BkA vr M)] (Bo true):=by
 refine Cn.intro Tryz.func153 rfl zk nq (fun B w0 a hst=>?_)
 have hst:St B w0 64 [(0,ElP 59 (BkA vr M))] [] a w0.w:=hst
 refine wp_seq ?_
 refine gl (sts:=[]) (news:=[]) (sp:=[.val 2 _]) [.g 0,.o 0] hst (zv rfl rfl (za1 zb2) o0) (fun a w hst=>?_)
 have hst:St B w0 64 [(0,_),(2,_)] [] a w:=hst
 refine zt ?_
 refine wp_seq ?_
 refine gl (sts:=[]) (news:=[]) (sp:=[.val 3 _]) [.g 0,.g 1,.o 0] hst (zv rfl rfl (za1 za3) o0) (fun a w hst=>?_)
 have hst:St B w0 64 [(0,_),(2,_),(3,_)] [] a w:=hst
 refine za0 ?_
 refine wp_block ?_
 have hst:=St.sel hst [0,2]
 refine wp_loop_ghost (fun n a w =>  St B w0 64 [(0,ElP 59 (BkA vr M)),(3,In 0)] [] a w) (0) ?_ ?_
 ·exact hst
 intro n a w hI
 have hst:=hI
 refine wp_seq ?_
 refine wp_seq ?_
 refine gl (sts:=[]) (news:=[]) (sp:=[.val 6 _,.val 7 _,.val 8 _,.val 9 _,.val 10 _,.val 11 _,.val 12 _]) [.g 0,.g 1,.o 6] hst (zv rfl rfl (za2 (gq 1 rfl)) (zv rfl rfl (za2 (gq 0 rfl)) (zv rfl rfl (zbo (vq 1 rfl)) (zv rfl rfl (zas (vq 2 rfl) zjh (Sub.part 15 rfl rfl)) (zv rfl rfl (zad (vq 3 rfl) ty_56) (zv rfl rfl (zbz Tryz.underlying56 (has_wk' (vq 4 rfl) zbe)) (zv rfl rfl (zb7 (vq 0 rfl) (vq 5 rfl)) o0))))))) (fun a w hst=>?_)
 have hst:St B w0 64 [(0,_),(3,_),(12,_)] [] a w:=hst
 refine za0 ?_
 refine za8 hst (zm 2 rfl) (fun hb0=>?_) (fun hb0=>?_)
 ·exact absurd hb0 zd
 ·refine wp_exit ?_
  refine za6 ?_
  refine za6 ?_
  refine zaj ?_
  refine zt ?_
  refine gl (sts:=[]) (news:=[]) (sp:=[.val 2 _]) [.g 0,.o 0] hst (zv rfl rfl (za1 zb2) o0) (fun a w hst=>?_)
  have hst:St B w0 64 [(0,_),(2,_)] [] a w:=hst
  refine za0 ?_
  refine wp_ret ?_
  exact zae rfl hst (zm 1 rfl)
theorem fillReply_c (vr:Value) (M:List Slot):Cn Tryz.prog 122 [ElP 59 (BkA vr M)] (Tu []):=by
 refine Cn.intro Tryz.func122 rfl zk nq (fun B w0 a hst=>?_)
 have hst:St B w0 35 [(0,ElP 59 (BkA vr M))] [] a w0.w:=hst
 refine wp_seq ?_
 refine gl (sts:=[]) (news:=[]) (sp:=[.val 2 _]) [.g 0,.o 0] hst (zv rfl rfl (za1 za3) o0) (fun a w hst=>?_)
 have hst:St B w0 35 [(0,_),(2,_)] [] a w:=hst
 refine za0 ?_
 refine wp_block ?_
 have hst:=St.sel hst [0,1]
 refine wp_loop_ghost (fun n a w =>  St B w0 35 [(0,ElP 59 (BkA vr M)),(2,In 0)] [] a w) (0) ?_ ?_
 ·exact hst
 intro n a w hI
 have hst:=hI
 refine wp_seq ?_
 refine wp_seq ?_
 refine gl (sts:=[]) (news:=[]) (sp:=[.val 5 _,.val 6 _,.val 7 _,.val 8 _,.val 9 _,.val 10 _,.val 11 _]) [.g 0,.g 1,.o 6] hst (zv rfl rfl (za2 (gq 1 rfl)) (zv rfl rfl (za2 (gq 0 rfl)) (zv rfl rfl (zbo (vq 1 rfl)) (zv rfl rfl (zas (vq 2 rfl) zjg (Sub.part 16 rfl rfl)) (zv rfl rfl (zad (vq 3 rfl) ty_57) (zv rfl rfl (zbz Tryz.underlying57 (has_wk' (vq 4 rfl) zbe)) (zv rfl rfl (zb7 (vq 0 rfl) (vq 5 rfl)) o0))))))) (fun a w hst=>?_)
 have hst:St B w0 35 [(0,_),(2,_),(11,_)] [] a w:=hst
 refine za0 ?_
 refine za8 hst (zm 2 rfl) (fun hb0=>?_) (fun hb0=>?_)
 ·exact absurd hb0 zd
 ·refine wp_exit ?_
  refine za6 ?_
  refine za6 ?_
  refine zaj ?_
  refine zbi ?_
  exact zaq (rs:=[]) rfl hst .nil zd
theorem growReply_c (vr:Value) (M:List Slot):Cn Tryz.prog 138 [ElP 59 (BkA vr M)] (Tu []):=by
 refine Cn.intro Tryz.func138 rfl zk nq (fun B w0 a hst=>?_)
 have hst:St B w0 42 [(0,ElP 59 (BkA vr M))] [] a w0.w:=hst
 refine wp_seq ?_
 refine gl (sts:=[]) (news:=[]) (sp:=[.val 2 _]) [.g 0,.o 0] hst (zv rfl rfl (za1 za3) o0) (fun a w hst=>?_)
 have hst:St B w0 42 [(0,_),(2,_)] [] a w:=hst
 refine za0 ?_
 refine wp_block ?_
 have hst:=St.sel hst [0,1]
 refine wp_loop_ghost (fun n a w =>  St B w0 42 [(0,ElP 59 (BkA vr M)),(2,In 0)] [] a w) (0) ?_ ?_
 ·exact hst
 intro n a w hI
 have hst:=hI
 refine wp_seq ?_
 refine wp_seq ?_
 refine gl (sts:=[]) (news:=[]) (sp:=[.val 6 _,.val 7 _,.val 8 _,.val 9 _,.val 10 _,.val 11 _,.val 12 _]) [.g 0,.g 1,.o 6] hst (zv rfl rfl (za2 (gq 1 rfl)) (zv rfl rfl (za2 (gq 0 rfl)) (zv rfl rfl (zbo (vq 1 rfl)) (zv rfl rfl (zas (vq 2 rfl) zjg (Sub.part 16 rfl rfl)) (zv rfl rfl (zad (vq 3 rfl) ty_57) (zv rfl rfl (zbz Tryz.underlying57 (has_wk' (vq 4 rfl) zbe)) (zv rfl rfl (zb7 (vq 0 rfl) (vq 5 rfl)) o0))))))) (fun a w hst=>?_)
 have hst:St B w0 42 [(0,_),(2,_),(12,_)] [] a w:=hst
 refine za0 ?_
 refine za8 hst (zm 2 rfl) (fun hb0=>?_) (fun hb0=>?_)
 ·exact absurd hb0 zd
 ·refine wp_exit ?_
  refine za6 ?_
  refine za6 ?_
  refine zaj ?_
  refine zbi ?_
  exact zaq (rs:=[]) rfl hst .nil zd
theorem lookReply_c (vr:Value) (M:List Slot):Cn Tryz.prog 154 [ElP 59 (BkA vr M)] (Bo true):=by
 refine Cn.intro Tryz.func154 rfl zk nq (fun B w0 a hst=>?_)
 have hst:St B w0 64 [(0,ElP 59 (BkA vr M))] [] a w0.w:=hst
 refine wp_seq ?_
 refine gl (sts:=[]) (news:=[]) (sp:=[.val 2 _]) [.g 0,.o 0] hst (zv rfl rfl (za1 zb2) o0) (fun a w hst=>?_)
 have hst:St B w0 64 [(0,_),(2,_)] [] a w:=hst
 refine zt ?_
 refine wp_seq ?_
 refine gl (sts:=[]) (news:=[]) (sp:=[.val 3 _]) [.g 0,.g 1,.o 0] hst (zv rfl rfl (za1 za3) o0) (fun a w hst=>?_)
 have hst:St B w0 64 [(0,_),(2,_),(3,_)] [] a w:=hst
 refine za0 ?_
 refine wp_block ?_
 have hst:=St.sel hst [0,2]
 refine wp_loop_ghost (fun n a w =>  St B w0 64 [(0,ElP 59 (BkA vr M)),(3,In 0)] [] a w) (0) ?_ ?_
 ·exact hst
 intro n a w hI
 have hst:=hI
 refine wp_seq ?_
 refine wp_seq ?_
 refine gl (sts:=[]) (news:=[]) (sp:=[.val 6 _,.val 7 _,.val 8 _,.val 9 _,.val 10 _,.val 11 _,.val 12 _]) [.g 0,.g 1,.o 6] hst (zv rfl rfl (za2 (gq 1 rfl)) (zv rfl rfl (za2 (gq 0 rfl)) (zv rfl rfl (zbo (vq 1 rfl)) (zv rfl rfl (zas (vq 2 rfl) zjg (Sub.part 16 rfl rfl)) (zv rfl rfl (zad (vq 3 rfl) ty_57) (zv rfl rfl (zbz Tryz.underlying57 (has_wk' (vq 4 rfl) zbe)) (zv rfl rfl (zb7 (vq 0 rfl) (vq 5 rfl)) o0))))))) (fun a w hst=>?_)
 have hst:St B w0 64 [(0,_),(3,_),(12,_)] [] a w:=hst
 refine za0 ?_
 refine za8 hst (zm 2 rfl) (fun hb0=>?_) (fun hb0=>?_)
 ·exact absurd hb0 zd
 ·refine wp_exit ?_
  refine za6 ?_
  refine za6 ?_
  refine zaj ?_
  refine zt ?_
  refine gl (sts:=[]) (news:=[]) (sp:=[.val 2 _]) [.g 0,.o 0] hst (zv rfl rfl (za1 zb2) o0) (fun a w hst=>?_)
  have hst:St B w0 64 [(0,_),(2,_)] [] a w:=hst
  refine za0 ?_
  refine wp_ret ?_
  exact zae rfl hst (zm 1 rfl)
end Go.Proofs.YthncfchnkjemiaaGreatDoor
