import Derived.Test.YthncfchnkjemiaaGreatDoorRmAa
import Derived.Test.YthncfchnkjemiaaGreatDoorRmAc
import Derived.Test.YthncfchnkjemiaaGreatDoorRmAr
set_option linter.unusedVariables false
set_option linter.unusedSimpArgs false
set_option linter.unusedSectionVars false
set_option maxRecDepth 100000
namespace Go.Proofs.YthncfchnkjemiaaGreatDoor
open Go Go.RowKit
theorem zbk:Wk (EqS (.slice none 0 0)).va (SlA 0 [] []).va:=zcv zsz zvg
section
open Rg
variable {R:Rg} {B i:Nat} {w0:Bs}
end
theorem znv (vr:Value)(M:List Slot):Cn Tryz.prog 108 [ElP 59 (BkA vr M)] (Tu []):=by
 refine Cn.intro Tryz.func108 rfl zk nq (fun B w0 a hst=>?_)
 have hst:St B w0 35 [(0,ElP 59 (BkA vr M))] [] a w0.w:=hst
 refine wp_seq ?_
 refine gl (sts:=[]) (news:=[]) (sp:=[.val 2 _]) [.g 0,.o 0] hst (zv rfl (za1 za3) o0) (fun a w hst=>?_)
 have hst:St B w0 35 [(0,_),(2,_)] [] a w:=hst
 refine za0 ?_
 refine wp_block ?_
 have hst:=St.sel hst [0,1]
 refine wp_loop_ghost (fun n a w =>  St B w0 35 [(0,ElP 59 (BkA vr M)),(2,In 0)] [] a w) (0) ?_ ?_
 ·exact hst
 intro n a w hI
 have hst:=hI
 refine wp_seq ?_
 refine wp_seq ?_
 refine gl (sts:=[]) (news:=[]) (sp:=[.val 5 _,.val 6 _,.val 7 _,.val 8 _,.val 9 _,.val 10 _,.val 11 _]) [.g 0,.g 1,.o 6] hst (zv rfl (za2 (gq 1 rfl)) (zv rfl (za2 (gq 0 rfl)) (zv rfl (zbu (vq 1 rfl)) (zv rfl (zau (vq 2 rfl) zmb (Sub.part 2 rfl rfl)) (zv rfl (zae (vq 3 rfl) ty_43) (zv rfl (zc7 Tryz.underlying43 (has_wk' (vq 4 rfl) zbk)) (zv rfl (zba (vq 0 rfl) (vq 5 rfl)) o0))))))) (fun a w hst=>?_)
 have hst:St B w0 35 [(0,_),(2,_),(11,_)] [] a w:=hst
 refine za0 ?_
 refine za8 hst (zm 2 rfl) (fun hb0=>?_) (fun hb0=>?_)
 ·exact absurd hb0 zd
 ·refine wp_exit ?_
  refine za6 ?_
  refine za6 ?_
  refine zaj ?_
  refine zbm ?_
  exact zaq (rs:=[]) rfl hst .nil zd
theorem zns (vr:Value)(M:List Slot):Cn Tryz.prog 124 [ElP 59 (BkA vr M)] (Tu []):=by
 refine Cn.intro Tryz.func124 rfl zk nq (fun B w0 a hst=>?_)
 have hst:St B w0 42 [(0,ElP 59 (BkA vr M))] [] a w0.w:=hst
 refine wp_seq ?_
 refine gl (sts:=[]) (news:=[]) (sp:=[.val 2 _]) [.g 0,.o 0] hst (zv rfl (za1 za3) o0) (fun a w hst=>?_)
 have hst:St B w0 42 [(0,_),(2,_)] [] a w:=hst
 refine za0 ?_
 refine wp_block ?_
 have hst:=St.sel hst [0,1]
 refine wp_loop_ghost (fun n a w =>  St B w0 42 [(0,ElP 59 (BkA vr M)),(2,In 0)] [] a w) (0) ?_ ?_
 ·exact hst
 intro n a w hI
 have hst:=hI
 refine wp_seq ?_
 refine wp_seq ?_
 refine gl (sts:=[]) (news:=[]) (sp:=[.val 6 _,.val 7 _,.val 8 _,.val 9 _,.val 10 _,.val 11 _,.val 12 _]) [.g 0,.g 1,.o 6] hst (zv rfl (za2 (gq 1 rfl)) (zv rfl (za2 (gq 0 rfl)) (zv rfl (zbu (vq 1 rfl)) (zv rfl (zau (vq 2 rfl) zmb (Sub.part 2 rfl rfl)) (zv rfl (zae (vq 3 rfl) ty_43) (zv rfl (zc7 Tryz.underlying43 (has_wk' (vq 4 rfl) zbk)) (zv rfl (zba (vq 0 rfl) (vq 5 rfl)) o0))))))) (fun a w hst=>?_)
 have hst:St B w0 42 [(0,_),(2,_),(12,_)] [] a w:=hst
 refine za0 ?_
 refine za8 hst (zm 2 rfl) (fun hb0=>?_) (fun hb0=>?_)
 ·exact absurd hb0 zd
 ·refine wp_exit ?_
  refine za6 ?_
  refine za6 ?_
  refine zaj ?_
  refine zbm ?_
  exact zaq (rs:=[]) rfl hst .nil zd
theorem znm (vr:Value)(M:List Slot):Cn Tryz.prog 140 [ElP 59 (BkA vr M)] (Bo true):=by
 refine Cn.intro Tryz.func140 rfl zk nq (fun B w0 a hst=>?_)
 have hst:St B w0 64 [(0,ElP 59 (BkA vr M))] [] a w0.w:=hst
 refine wp_seq ?_
 refine gl (sts:=[]) (news:=[]) (sp:=[.val 2 _]) [.g 0,.o 0] hst (zv rfl (za1 zb7) o0) (fun a w hst=>?_)
 have hst:St B w0 64 [(0,_),(2,_)] [] a w:=hst
 refine zt ?_
 refine wp_seq ?_
 refine gl (sts:=[]) (news:=[]) (sp:=[.val 3 _]) [.g 0,.g 1,.o 0] hst (zv rfl (za1 za3) o0) (fun a w hst=>?_)
 have hst:St B w0 64 [(0,_),(2,_),(3,_)] [] a w:=hst
 refine za0 ?_
 refine wp_block ?_
 have hst:=St.sel hst [0,2]
 refine wp_loop_ghost (fun n a w =>  St B w0 64 [(0,ElP 59 (BkA vr M)),(3,In 0)] [] a w) (0) ?_ ?_
 ·exact hst
 intro n a w hI
 have hst:=hI
 refine wp_seq ?_
 refine wp_seq ?_
 refine gl (sts:=[]) (news:=[]) (sp:=[.val 6 _,.val 7 _,.val 8 _,.val 9 _,.val 10 _,.val 11 _,.val 12 _]) [.g 0,.g 1,.o 6] hst (zv rfl (za2 (gq 1 rfl)) (zv rfl (za2 (gq 0 rfl)) (zv rfl (zbu (vq 1 rfl)) (zv rfl (zau (vq 2 rfl) zmb (Sub.part 2 rfl rfl)) (zv rfl (zae (vq 3 rfl) ty_43) (zv rfl (zc7 Tryz.underlying43 (has_wk' (vq 4 rfl) zbk)) (zv rfl (zba (vq 0 rfl) (vq 5 rfl)) o0))))))) (fun a w hst=>?_)
 have hst:St B w0 64 [(0,_),(3,_),(12,_)] [] a w:=hst
 refine za0 ?_
 refine za8 hst (zm 2 rfl) (fun hb0=>?_) (fun hb0=>?_)
 ·exact absurd hb0 zd
 ·refine wp_exit ?_
  refine za6 ?_
  refine za6 ?_
  refine zaj ?_
  refine zt<|gl (sts:=[]) (news:=[]) (sp:=[.val 2 _]) [.g 0,.o 0] hst (zv rfl (za1 zb7) o0) (fun a w hst=>?_)
  have hst:St B w0 64 [(0,_),(2,_)] [] a w:=hst
  refine za0 ?_
  refine wp_ret ?_
  exact zai rfl hst (zm 1 rfl)
theorem zp9 (vr:Value)(M:List Slot):Cn Tryz.prog 109 [ElP 59 (BkA vr M)] (Tu []):=by
 refine Cn.intro Tryz.func109 rfl zk nq (fun B w0 a hst=>?_)
 have hst:St B w0 35 [(0,ElP 59 (BkA vr M))] [] a w0.w:=hst
 refine wp_seq ?_
 refine gl (sts:=[]) (news:=[]) (sp:=[.val 2 _]) [.g 0,.o 0] hst (zv rfl (za1 za3) o0) (fun a w hst=>?_)
 have hst:St B w0 35 [(0,_),(2,_)] [] a w:=hst
 refine za0 ?_
 refine wp_block ?_
 have hst:=St.sel hst [0,1]
 refine wp_loop_ghost (fun n a w =>  St B w0 35 [(0,ElP 59 (BkA vr M)),(2,In 0)] [] a w) (0) ?_ ?_
 ·exact hst
 intro n a w hI
 have hst:=hI
 refine wp_seq ?_
 refine wp_seq ?_
 refine gl (sts:=[]) (news:=[]) (sp:=[.val 5 _,.val 6 _,.val 7 _,.val 8 _,.val 9 _,.val 10 _,.val 11 _]) [.g 0,.g 1,.o 6] hst (zv rfl (za2 (gq 1 rfl)) (zv rfl (za2 (gq 0 rfl)) (zv rfl (zbu (vq 1 rfl)) (zv rfl (zau (vq 2 rfl) zma (Sub.part 3 rfl rfl)) (zv rfl (zae (vq 3 rfl) ty_44) (zv rfl (zc7 Tryz.underlying44 (has_wk' (vq 4 rfl) zbk)) (zv rfl (zba (vq 0 rfl) (vq 5 rfl)) o0))))))) (fun a w hst=>?_)
 have hst:St B w0 35 [(0,_),(2,_),(11,_)] [] a w:=hst
 refine za0 ?_
 refine za8 hst (zm 2 rfl) (fun hb0=>?_) (fun hb0=>?_)
 ·exact absurd hb0 zd
 ·refine wp_exit ?_
  refine za6 ?_
  refine za6 ?_
  refine zaj ?_
  refine zbm ?_
  exact zaq (rs:=[]) rfl hst .nil zd
theorem zp4 (vr:Value)(M:List Slot):Cn Tryz.prog 125 [ElP 59 (BkA vr M)] (Tu []):=by
 refine Cn.intro Tryz.func125 rfl zk nq (fun B w0 a hst=>?_)
 have hst:St B w0 42 [(0,ElP 59 (BkA vr M))] [] a w0.w:=hst
 refine wp_seq ?_
 refine gl (sts:=[]) (news:=[]) (sp:=[.val 2 _]) [.g 0,.o 0] hst (zv rfl (za1 za3) o0) (fun a w hst=>?_)
 have hst:St B w0 42 [(0,_),(2,_)] [] a w:=hst
 refine za0 ?_
 refine wp_block ?_
 have hst:=St.sel hst [0,1]
 refine wp_loop_ghost (fun n a w =>  St B w0 42 [(0,ElP 59 (BkA vr M)),(2,In 0)] [] a w) (0) ?_ ?_
 ·exact hst
 intro n a w hI
 have hst:=hI
 refine wp_seq ?_
 refine wp_seq ?_
 refine gl (sts:=[]) (news:=[]) (sp:=[.val 6 _,.val 7 _,.val 8 _,.val 9 _,.val 10 _,.val 11 _,.val 12 _]) [.g 0,.g 1,.o 6] hst (zv rfl (za2 (gq 1 rfl)) (zv rfl (za2 (gq 0 rfl)) (zv rfl (zbu (vq 1 rfl)) (zv rfl (zau (vq 2 rfl) zma (Sub.part 3 rfl rfl)) (zv rfl (zae (vq 3 rfl) ty_44) (zv rfl (zc7 Tryz.underlying44 (has_wk' (vq 4 rfl) zbk)) (zv rfl (zba (vq 0 rfl) (vq 5 rfl)) o0))))))) (fun a w hst=>?_)
 have hst:St B w0 42 [(0,_),(2,_),(12,_)] [] a w:=hst
 refine za0 ?_
 refine za8 hst (zm 2 rfl) (fun hb0=>?_) (fun hb0=>?_)
 ·exact absurd hb0 zd
 ·refine wp_exit ?_
  refine za6 ?_
  refine za6 ?_
  refine zaj ?_
  refine zbm ?_
  exact zaq (rs:=[]) rfl hst .nil zd
theorem zoy (vr:Value)(M:List Slot):Cn Tryz.prog 141 [ElP 59 (BkA vr M)] (Bo true):=by
 refine Cn.intro Tryz.func141 rfl zk nq (fun B w0 a hst=>?_)
 have hst:St B w0 64 [(0,ElP 59 (BkA vr M))] [] a w0.w:=hst
 refine wp_seq ?_
 refine gl (sts:=[]) (news:=[]) (sp:=[.val 2 _]) [.g 0,.o 0] hst (zv rfl (za1 zb7) o0) (fun a w hst=>?_)
 have hst:St B w0 64 [(0,_),(2,_)] [] a w:=hst
 refine zt ?_
 refine wp_seq ?_
 refine gl (sts:=[]) (news:=[]) (sp:=[.val 3 _]) [.g 0,.g 1,.o 0] hst (zv rfl (za1 za3) o0) (fun a w hst=>?_)
 have hst:St B w0 64 [(0,_),(2,_),(3,_)] [] a w:=hst
 refine za0 ?_
 refine wp_block ?_
 have hst:=St.sel hst [0,2]
 refine wp_loop_ghost (fun n a w =>  St B w0 64 [(0,ElP 59 (BkA vr M)),(3,In 0)] [] a w) (0) ?_ ?_
 ·exact hst
 intro n a w hI
 have hst:=hI
 refine wp_seq ?_
 refine wp_seq ?_
 refine gl (sts:=[]) (news:=[]) (sp:=[.val 6 _,.val 7 _,.val 8 _,.val 9 _,.val 10 _,.val 11 _,.val 12 _]) [.g 0,.g 1,.o 6] hst (zv rfl (za2 (gq 1 rfl)) (zv rfl (za2 (gq 0 rfl)) (zv rfl (zbu (vq 1 rfl)) (zv rfl (zau (vq 2 rfl) zma (Sub.part 3 rfl rfl)) (zv rfl (zae (vq 3 rfl) ty_44) (zv rfl (zc7 Tryz.underlying44 (has_wk' (vq 4 rfl) zbk)) (zv rfl (zba (vq 0 rfl) (vq 5 rfl)) o0))))))) (fun a w hst=>?_)
 have hst:St B w0 64 [(0,_),(3,_),(12,_)] [] a w:=hst
 refine za0 ?_
 refine za8 hst (zm 2 rfl) (fun hb0=>?_) (fun hb0=>?_)
 ·exact absurd hb0 zd
 ·refine wp_exit ?_
  refine za6 ?_
  refine za6 ?_
  refine zaj ?_
  refine zt<|gl (sts:=[]) (news:=[]) (sp:=[.val 2 _]) [.g 0,.o 0] hst (zv rfl (za1 zb7) o0) (fun a w hst=>?_)
  have hst:St B w0 64 [(0,_),(2,_)] [] a w:=hst
  refine za0 ?_
  refine wp_ret ?_
  exact zai rfl hst (zm 1 rfl)
theorem zmf (vr:Value)(M:List Slot):Cn Tryz.prog 110 [ElP 59 (BkA vr M)] (Tu []):=by
 refine Cn.intro Tryz.func110 rfl zk nq (fun B w0 a hst=>?_)
 have hst:St B w0 35 [(0,ElP 59 (BkA vr M))] [] a w0.w:=hst
 refine wp_seq ?_
 refine gl (sts:=[]) (news:=[]) (sp:=[.val 2 _]) [.g 0,.o 0] hst (zv rfl (za1 za3) o0) (fun a w hst=>?_)
 have hst:St B w0 35 [(0,_),(2,_)] [] a w:=hst
 refine za0 ?_
 refine wp_block ?_
 have hst:=St.sel hst [0,1]
 refine wp_loop_ghost (fun n a w =>  St B w0 35 [(0,ElP 59 (BkA vr M)),(2,In 0)] [] a w) (0) ?_ ?_
 ·exact hst
 intro n a w hI
 have hst:=hI
 refine wp_seq ?_
 refine wp_seq ?_
 refine gl (sts:=[]) (news:=[]) (sp:=[.val 5 _,.val 6 _,.val 7 _,.val 8 _,.val 9 _,.val 10 _,.val 11 _]) [.g 0,.g 1,.o 6] hst (zv rfl (za2 (gq 1 rfl)) (zv rfl (za2 (gq 0 rfl)) (zv rfl (zbu (vq 1 rfl)) (zv rfl (zau (vq 2 rfl) zm9 (Sub.part 4 rfl rfl)) (zv rfl (zae (vq 3 rfl) ty_45) (zv rfl (zc7 Tryz.underlying45 (has_wk' (vq 4 rfl) zbk)) (zv rfl (zba (vq 0 rfl) (vq 5 rfl)) o0))))))) (fun a w hst=>?_)
 have hst:St B w0 35 [(0,_),(2,_),(11,_)] [] a w:=hst
 refine za0 ?_
 refine za8 hst (zm 2 rfl) (fun hb0=>?_) (fun hb0=>?_)
 ·exact absurd hb0 zd
 ·refine wp_exit ?_
  refine za6 ?_
  refine za6 ?_
  refine zaj ?_
  refine zbm ?_
  exact zaq (rs:=[]) rfl hst .nil zd
theorem zm1 (vr:Value)(M:List Slot):Cn Tryz.prog 126 [ElP 59 (BkA vr M)] (Tu []):=by
 refine Cn.intro Tryz.func126 rfl zk nq (fun B w0 a hst=>?_)
 have hst:St B w0 42 [(0,ElP 59 (BkA vr M))] [] a w0.w:=hst
 refine wp_seq ?_
 refine gl (sts:=[]) (news:=[]) (sp:=[.val 2 _]) [.g 0,.o 0] hst (zv rfl (za1 za3) o0) (fun a w hst=>?_)
 have hst:St B w0 42 [(0,_),(2,_)] [] a w:=hst
 refine za0 ?_
 refine wp_block ?_
 have hst:=St.sel hst [0,1]
 refine wp_loop_ghost (fun n a w =>  St B w0 42 [(0,ElP 59 (BkA vr M)),(2,In 0)] [] a w) (0) ?_ ?_
 ·exact hst
 intro n a w hI
 have hst:=hI
 refine wp_seq ?_
 refine wp_seq ?_
 refine gl (sts:=[]) (news:=[]) (sp:=[.val 6 _,.val 7 _,.val 8 _,.val 9 _,.val 10 _,.val 11 _,.val 12 _]) [.g 0,.g 1,.o 6] hst (zv rfl (za2 (gq 1 rfl)) (zv rfl (za2 (gq 0 rfl)) (zv rfl (zbu (vq 1 rfl)) (zv rfl (zau (vq 2 rfl) zm9 (Sub.part 4 rfl rfl)) (zv rfl (zae (vq 3 rfl) ty_45) (zv rfl (zc7 Tryz.underlying45 (has_wk' (vq 4 rfl) zbk)) (zv rfl (zba (vq 0 rfl) (vq 5 rfl)) o0))))))) (fun a w hst=>?_)
 have hst:St B w0 42 [(0,_),(2,_),(12,_)] [] a w:=hst
 refine za0 ?_
 refine za8 hst (zm 2 rfl) (fun hb0=>?_) (fun hb0=>?_)
 ·exact absurd hb0 zd
 ·refine wp_exit ?_
  refine za6 ?_
  refine za6 ?_
  refine zaj ?_
  refine zbm ?_
  exact zaq (rs:=[]) rfl hst .nil zd
theorem zlx (vr:Value)(M:List Slot):Cn Tryz.prog 142 [ElP 59 (BkA vr M)] (Bo true):=by
 refine Cn.intro Tryz.func142 rfl zk nq (fun B w0 a hst=>?_)
 have hst:St B w0 64 [(0,ElP 59 (BkA vr M))] [] a w0.w:=hst
 refine wp_seq ?_
 refine gl (sts:=[]) (news:=[]) (sp:=[.val 2 _]) [.g 0,.o 0] hst (zv rfl (za1 zb7) o0) (fun a w hst=>?_)
 have hst:St B w0 64 [(0,_),(2,_)] [] a w:=hst
 refine zt ?_
 refine wp_seq ?_
 refine gl (sts:=[]) (news:=[]) (sp:=[.val 3 _]) [.g 0,.g 1,.o 0] hst (zv rfl (za1 za3) o0) (fun a w hst=>?_)
 have hst:St B w0 64 [(0,_),(2,_),(3,_)] [] a w:=hst
 refine za0 ?_
 refine wp_block ?_
 have hst:=St.sel hst [0,2]
 refine wp_loop_ghost (fun n a w =>  St B w0 64 [(0,ElP 59 (BkA vr M)),(3,In 0)] [] a w) (0) ?_ ?_
 ·exact hst
 intro n a w hI
 have hst:=hI
 refine wp_seq ?_
 refine wp_seq ?_
 refine gl (sts:=[]) (news:=[]) (sp:=[.val 6 _,.val 7 _,.val 8 _,.val 9 _,.val 10 _,.val 11 _,.val 12 _]) [.g 0,.g 1,.o 6] hst (zv rfl (za2 (gq 1 rfl)) (zv rfl (za2 (gq 0 rfl)) (zv rfl (zbu (vq 1 rfl)) (zv rfl (zau (vq 2 rfl) zm9 (Sub.part 4 rfl rfl)) (zv rfl (zae (vq 3 rfl) ty_45) (zv rfl (zc7 Tryz.underlying45 (has_wk' (vq 4 rfl) zbk)) (zv rfl (zba (vq 0 rfl) (vq 5 rfl)) o0))))))) (fun a w hst=>?_)
 have hst:St B w0 64 [(0,_),(3,_),(12,_)] [] a w:=hst
 refine za0 ?_
 refine za8 hst (zm 2 rfl) (fun hb0=>?_) (fun hb0=>?_)
 ·exact absurd hb0 zd
 ·refine wp_exit ?_
  refine za6 ?_
  refine za6 ?_
  refine zaj ?_
  refine zt<|gl (sts:=[]) (news:=[]) (sp:=[.val 2 _]) [.g 0,.o 0] hst (zv rfl (za1 zb7) o0) (fun a w hst=>?_)
  have hst:St B w0 64 [(0,_),(2,_)] [] a w:=hst
  refine za0 ?_
  refine wp_ret ?_
  exact zai rfl hst (zm 1 rfl)
theorem zsh (vr:Value)(M:List Slot):Cn Tryz.prog 111 [ElP 59 (BkA vr M)] (Tu []):=by
 refine Cn.intro Tryz.func111 rfl zk nq (fun B w0 a hst=>?_)
 have hst:St B w0 35 [(0,ElP 59 (BkA vr M))] [] a w0.w:=hst
 refine wp_seq ?_
 refine gl (sts:=[]) (news:=[]) (sp:=[.val 2 _]) [.g 0,.o 0] hst (zv rfl (za1 za3) o0) (fun a w hst=>?_)
 have hst:St B w0 35 [(0,_),(2,_)] [] a w:=hst
 refine za0 ?_
 refine wp_block ?_
 have hst:=St.sel hst [0,1]
 refine wp_loop_ghost (fun n a w =>  St B w0 35 [(0,ElP 59 (BkA vr M)),(2,In 0)] [] a w) (0) ?_ ?_
 ·exact hst
 intro n a w hI
 have hst:=hI
 refine wp_seq ?_
 refine wp_seq ?_
 refine gl (sts:=[]) (news:=[]) (sp:=[.val 5 _,.val 6 _,.val 7 _,.val 8 _,.val 9 _,.val 10 _,.val 11 _]) [.g 0,.g 1,.o 6] hst (zv rfl (za2 (gq 1 rfl)) (zv rfl (za2 (gq 0 rfl)) (zv rfl (zbu (vq 1 rfl)) (zv rfl (zau (vq 2 rfl) zm8 (Sub.part 5 rfl rfl)) (zv rfl (zae (vq 3 rfl) ty_46) (zv rfl (zc7 Tryz.underlying46 (has_wk' (vq 4 rfl) zbk)) (zv rfl (zba (vq 0 rfl) (vq 5 rfl)) o0))))))) (fun a w hst=>?_)
 have hst:St B w0 35 [(0,_),(2,_),(11,_)] [] a w:=hst
 refine za0 ?_
 refine za8 hst (zm 2 rfl) (fun hb0=>?_) (fun hb0=>?_)
 ·exact absurd hb0 zd
 ·refine wp_exit ?_
  refine za6 ?_
  refine za6 ?_
  refine zaj ?_
  refine zbm ?_
  exact zaq (rs:=[]) rfl hst .nil zd
theorem zs9 (vr:Value)(M:List Slot):Cn Tryz.prog 127 [ElP 59 (BkA vr M)] (Tu []):=by
 refine Cn.intro Tryz.func127 rfl zk nq (fun B w0 a hst=>?_)
 have hst:St B w0 42 [(0,ElP 59 (BkA vr M))] [] a w0.w:=hst
 refine wp_seq ?_
 refine gl (sts:=[]) (news:=[]) (sp:=[.val 2 _]) [.g 0,.o 0] hst (zv rfl (za1 za3) o0) (fun a w hst=>?_)
 have hst:St B w0 42 [(0,_),(2,_)] [] a w:=hst
 refine za0 ?_
 refine wp_block ?_
 have hst:=St.sel hst [0,1]
 refine wp_loop_ghost (fun n a w =>  St B w0 42 [(0,ElP 59 (BkA vr M)),(2,In 0)] [] a w) (0) ?_ ?_
 ·exact hst
 intro n a w hI
 have hst:=hI
 refine wp_seq ?_
 refine wp_seq ?_
 refine gl (sts:=[]) (news:=[]) (sp:=[.val 6 _,.val 7 _,.val 8 _,.val 9 _,.val 10 _,.val 11 _,.val 12 _]) [.g 0,.g 1,.o 6] hst (zv rfl (za2 (gq 1 rfl)) (zv rfl (za2 (gq 0 rfl)) (zv rfl (zbu (vq 1 rfl)) (zv rfl (zau (vq 2 rfl) zm8 (Sub.part 5 rfl rfl)) (zv rfl (zae (vq 3 rfl) ty_46) (zv rfl (zc7 Tryz.underlying46 (has_wk' (vq 4 rfl) zbk)) (zv rfl (zba (vq 0 rfl) (vq 5 rfl)) o0))))))) (fun a w hst=>?_)
 have hst:St B w0 42 [(0,_),(2,_),(12,_)] [] a w:=hst
 refine za0 ?_
 refine za8 hst (zm 2 rfl) (fun hb0=>?_) (fun hb0=>?_)
 ·exact absurd hb0 zd
 ·refine wp_exit ?_
  refine za6 ?_
  refine za6 ?_
  refine zaj ?_
  refine zbm ?_
  exact zaq (rs:=[]) rfl hst .nil zd
theorem zs0 (vr:Value)(M:List Slot):Cn Tryz.prog 143 [ElP 59 (BkA vr M)] (Bo true):=by
 refine Cn.intro Tryz.func143 rfl zk nq (fun B w0 a hst=>?_)
 have hst:St B w0 64 [(0,ElP 59 (BkA vr M))] [] a w0.w:=hst
 refine wp_seq ?_
 refine gl (sts:=[]) (news:=[]) (sp:=[.val 2 _]) [.g 0,.o 0] hst (zv rfl (za1 zb7) o0) (fun a w hst=>?_)
 have hst:St B w0 64 [(0,_),(2,_)] [] a w:=hst
 refine zt ?_
 refine wp_seq ?_
 refine gl (sts:=[]) (news:=[]) (sp:=[.val 3 _]) [.g 0,.g 1,.o 0] hst (zv rfl (za1 za3) o0) (fun a w hst=>?_)
 have hst:St B w0 64 [(0,_),(2,_),(3,_)] [] a w:=hst
 refine za0 ?_
 refine wp_block ?_
 have hst:=St.sel hst [0,2]
 refine wp_loop_ghost (fun n a w =>  St B w0 64 [(0,ElP 59 (BkA vr M)),(3,In 0)] [] a w) (0) ?_ ?_
 ·exact hst
 intro n a w hI
 have hst:=hI
 refine wp_seq ?_
 refine wp_seq ?_
 refine gl (sts:=[]) (news:=[]) (sp:=[.val 6 _,.val 7 _,.val 8 _,.val 9 _,.val 10 _,.val 11 _,.val 12 _]) [.g 0,.g 1,.o 6] hst (zv rfl (za2 (gq 1 rfl)) (zv rfl (za2 (gq 0 rfl)) (zv rfl (zbu (vq 1 rfl)) (zv rfl (zau (vq 2 rfl) zm8 (Sub.part 5 rfl rfl)) (zv rfl (zae (vq 3 rfl) ty_46) (zv rfl (zc7 Tryz.underlying46 (has_wk' (vq 4 rfl) zbk)) (zv rfl (zba (vq 0 rfl) (vq 5 rfl)) o0))))))) (fun a w hst=>?_)
 have hst:St B w0 64 [(0,_),(3,_),(12,_)] [] a w:=hst
 refine za0 ?_
 refine za8 hst (zm 2 rfl) (fun hb0=>?_) (fun hb0=>?_)
 ·exact absurd hb0 zd
 ·refine wp_exit ?_
  refine za6 ?_
  refine za6 ?_
  refine zaj ?_
  refine zt<|gl (sts:=[]) (news:=[]) (sp:=[.val 2 _]) [.g 0,.o 0] hst (zv rfl (za1 zb7) o0) (fun a w hst=>?_)
  have hst:St B w0 64 [(0,_),(2,_)] [] a w:=hst
  refine za0 ?_
  refine wp_ret ?_
  exact zai rfl hst (zm 1 rfl)
theorem zsk (vr:Value)(M:List Slot):Cn Tryz.prog 112 [ElP 59 (BkA vr M)] (Tu []):=by
 refine Cn.intro Tryz.func112 rfl zk nq (fun B w0 a hst=>?_)
 have hst:St B w0 35 [(0,ElP 59 (BkA vr M))] [] a w0.w:=hst
 refine wp_seq ?_
 refine gl (sts:=[]) (news:=[]) (sp:=[.val 2 _]) [.g 0,.o 0] hst (zv rfl (za1 za3) o0) (fun a w hst=>?_)
 have hst:St B w0 35 [(0,_),(2,_)] [] a w:=hst
 refine za0 ?_
 refine wp_block ?_
 have hst:=St.sel hst [0,1]
 refine wp_loop_ghost (fun n a w =>  St B w0 35 [(0,ElP 59 (BkA vr M)),(2,In 0)] [] a w) (0) ?_ ?_
 ·exact hst
 intro n a w hI
 have hst:=hI
 refine wp_seq ?_
 refine wp_seq ?_
 refine gl (sts:=[]) (news:=[]) (sp:=[.val 5 _,.val 6 _,.val 7 _,.val 8 _,.val 9 _,.val 10 _,.val 11 _]) [.g 0,.g 1,.o 6] hst (zv rfl (za2 (gq 1 rfl)) (zv rfl (za2 (gq 0 rfl)) (zv rfl (zbu (vq 1 rfl)) (zv rfl (zau (vq 2 rfl) zm7 (Sub.part 6 rfl rfl)) (zv rfl (zae (vq 3 rfl) ty_47) (zv rfl (zc7 Tryz.underlying47 (has_wk' (vq 4 rfl) zbk)) (zv rfl (zba (vq 0 rfl) (vq 5 rfl)) o0))))))) (fun a w hst=>?_)
 have hst:St B w0 35 [(0,_),(2,_),(11,_)] [] a w:=hst
 refine za0 ?_
 refine za8 hst (zm 2 rfl) (fun hb0=>?_) (fun hb0=>?_)
 ·exact absurd hb0 zd
 ·refine wp_exit ?_
  refine za6 ?_
  refine za6 ?_
  refine zaj ?_
  refine zbm ?_
  exact zaq (rs:=[]) rfl hst .nil zd
theorem zsc (vr:Value)(M:List Slot):Cn Tryz.prog 128 [ElP 59 (BkA vr M)] (Tu []):=by
 refine Cn.intro Tryz.func128 rfl zk nq (fun B w0 a hst=>?_)
 have hst:St B w0 42 [(0,ElP 59 (BkA vr M))] [] a w0.w:=hst
 refine wp_seq ?_
 refine gl (sts:=[]) (news:=[]) (sp:=[.val 2 _]) [.g 0,.o 0] hst (zv rfl (za1 za3) o0) (fun a w hst=>?_)
 have hst:St B w0 42 [(0,_),(2,_)] [] a w:=hst
 refine za0 ?_
 refine wp_block ?_
 have hst:=St.sel hst [0,1]
 refine wp_loop_ghost (fun n a w =>  St B w0 42 [(0,ElP 59 (BkA vr M)),(2,In 0)] [] a w) (0) ?_ ?_
 ·exact hst
 intro n a w hI
 have hst:=hI
 refine wp_seq ?_
 refine wp_seq ?_
 refine gl (sts:=[]) (news:=[]) (sp:=[.val 6 _,.val 7 _,.val 8 _,.val 9 _,.val 10 _,.val 11 _,.val 12 _]) [.g 0,.g 1,.o 6] hst (zv rfl (za2 (gq 1 rfl)) (zv rfl (za2 (gq 0 rfl)) (zv rfl (zbu (vq 1 rfl)) (zv rfl (zau (vq 2 rfl) zm7 (Sub.part 6 rfl rfl)) (zv rfl (zae (vq 3 rfl) ty_47) (zv rfl (zc7 Tryz.underlying47 (has_wk' (vq 4 rfl) zbk)) (zv rfl (zba (vq 0 rfl) (vq 5 rfl)) o0))))))) (fun a w hst=>?_)
 have hst:St B w0 42 [(0,_),(2,_),(12,_)] [] a w:=hst
 refine za0 ?_
 refine za8 hst (zm 2 rfl) (fun hb0=>?_) (fun hb0=>?_)
 ·exact absurd hb0 zd
 ·refine wp_exit ?_
  refine za6 ?_
  refine za6 ?_
  refine zaj ?_
  refine zbm ?_
  exact zaq (rs:=[]) rfl hst .nil zd
theorem zs5 (vr:Value)(M:List Slot):Cn Tryz.prog 144 [ElP 59 (BkA vr M)] (Bo true):=by
 refine Cn.intro Tryz.func144 rfl zk nq (fun B w0 a hst=>?_)
 have hst:St B w0 64 [(0,ElP 59 (BkA vr M))] [] a w0.w:=hst
 refine wp_seq ?_
 refine gl (sts:=[]) (news:=[]) (sp:=[.val 2 _]) [.g 0,.o 0] hst (zv rfl (za1 zb7) o0) (fun a w hst=>?_)
 have hst:St B w0 64 [(0,_),(2,_)] [] a w:=hst
 refine zt ?_
 refine wp_seq ?_
 refine gl (sts:=[]) (news:=[]) (sp:=[.val 3 _]) [.g 0,.g 1,.o 0] hst (zv rfl (za1 za3) o0) (fun a w hst=>?_)
 have hst:St B w0 64 [(0,_),(2,_),(3,_)] [] a w:=hst
 refine za0 ?_
 refine wp_block ?_
 have hst:=St.sel hst [0,2]
 refine wp_loop_ghost (fun n a w =>  St B w0 64 [(0,ElP 59 (BkA vr M)),(3,In 0)] [] a w) (0) ?_ ?_
 ·exact hst
 intro n a w hI
 have hst:=hI
 refine wp_seq ?_
 refine wp_seq ?_
 refine gl (sts:=[]) (news:=[]) (sp:=[.val 6 _,.val 7 _,.val 8 _,.val 9 _,.val 10 _,.val 11 _,.val 12 _]) [.g 0,.g 1,.o 6] hst (zv rfl (za2 (gq 1 rfl)) (zv rfl (za2 (gq 0 rfl)) (zv rfl (zbu (vq 1 rfl)) (zv rfl (zau (vq 2 rfl) zm7 (Sub.part 6 rfl rfl)) (zv rfl (zae (vq 3 rfl) ty_47) (zv rfl (zc7 Tryz.underlying47 (has_wk' (vq 4 rfl) zbk)) (zv rfl (zba (vq 0 rfl) (vq 5 rfl)) o0))))))) (fun a w hst=>?_)
 have hst:St B w0 64 [(0,_),(3,_),(12,_)] [] a w:=hst
 refine za0 ?_
 refine za8 hst (zm 2 rfl) (fun hb0=>?_) (fun hb0=>?_)
 ·exact absurd hb0 zd
 ·refine wp_exit ?_
  refine za6 ?_
  refine za6 ?_
  refine zaj ?_
  refine zt<|gl (sts:=[]) (news:=[]) (sp:=[.val 2 _]) [.g 0,.o 0] hst (zv rfl (za1 zb7) o0) (fun a w hst=>?_)
  have hst:St B w0 64 [(0,_),(2,_)] [] a w:=hst
  refine za0 ?_
  refine wp_ret ?_
  exact zai rfl hst (zm 1 rfl)
theorem zp8 (vr:Value)(M:List Slot):Cn Tryz.prog 113 [ElP 59 (BkA vr M)] (Tu []):=by
 refine Cn.intro Tryz.func113 rfl zk nq (fun B w0 a hst=>?_)
 have hst:St B w0 35 [(0,ElP 59 (BkA vr M))] [] a w0.w:=hst
 refine wp_seq ?_
 refine gl (sts:=[]) (news:=[]) (sp:=[.val 2 _]) [.g 0,.o 0] hst (zv rfl (za1 za3) o0) (fun a w hst=>?_)
 have hst:St B w0 35 [(0,_),(2,_)] [] a w:=hst
 refine za0 ?_
 refine wp_block ?_
 have hst:=St.sel hst [0,1]
 refine wp_loop_ghost (fun n a w =>  St B w0 35 [(0,ElP 59 (BkA vr M)),(2,In 0)] [] a w) (0) ?_ ?_
 ·exact hst
 intro n a w hI
 have hst:=hI
 refine wp_seq ?_
 refine wp_seq ?_
 refine gl (sts:=[]) (news:=[]) (sp:=[.val 5 _,.val 6 _,.val 7 _,.val 8 _,.val 9 _,.val 10 _,.val 11 _]) [.g 0,.g 1,.o 6] hst (zv rfl (za2 (gq 1 rfl)) (zv rfl (za2 (gq 0 rfl)) (zv rfl (zbu (vq 1 rfl)) (zv rfl (zau (vq 2 rfl) zm6 (Sub.part 7 rfl rfl)) (zv rfl (zae (vq 3 rfl) ty_48) (zv rfl (zc7 Tryz.underlying48 (has_wk' (vq 4 rfl) zbk)) (zv rfl (zba (vq 0 rfl) (vq 5 rfl)) o0))))))) (fun a w hst=>?_)
 have hst:St B w0 35 [(0,_),(2,_),(11,_)] [] a w:=hst
 refine za0 ?_
 refine za8 hst (zm 2 rfl) (fun hb0=>?_) (fun hb0=>?_)
 ·exact absurd hb0 zd
 ·refine wp_exit ?_
  refine za6 ?_
  refine za6 ?_
  refine zaj ?_
  refine zbm ?_
  exact zaq (rs:=[]) rfl hst .nil zd
theorem zp3 (vr:Value)(M:List Slot):Cn Tryz.prog 129 [ElP 59 (BkA vr M)] (Tu []):=by
 refine Cn.intro Tryz.func129 rfl zk nq (fun B w0 a hst=>?_)
 have hst:St B w0 42 [(0,ElP 59 (BkA vr M))] [] a w0.w:=hst
 refine wp_seq ?_
 refine gl (sts:=[]) (news:=[]) (sp:=[.val 2 _]) [.g 0,.o 0] hst (zv rfl (za1 za3) o0) (fun a w hst=>?_)
 have hst:St B w0 42 [(0,_),(2,_)] [] a w:=hst
 refine za0 ?_
 refine wp_block ?_
 have hst:=St.sel hst [0,1]
 refine wp_loop_ghost (fun n a w =>  St B w0 42 [(0,ElP 59 (BkA vr M)),(2,In 0)] [] a w) (0) ?_ ?_
 ·exact hst
 intro n a w hI
 have hst:=hI
 refine wp_seq ?_
 refine wp_seq ?_
 refine gl (sts:=[]) (news:=[]) (sp:=[.val 6 _,.val 7 _,.val 8 _,.val 9 _,.val 10 _,.val 11 _,.val 12 _]) [.g 0,.g 1,.o 6] hst (zv rfl (za2 (gq 1 rfl)) (zv rfl (za2 (gq 0 rfl)) (zv rfl (zbu (vq 1 rfl)) (zv rfl (zau (vq 2 rfl) zm6 (Sub.part 7 rfl rfl)) (zv rfl (zae (vq 3 rfl) ty_48) (zv rfl (zc7 Tryz.underlying48 (has_wk' (vq 4 rfl) zbk)) (zv rfl (zba (vq 0 rfl) (vq 5 rfl)) o0))))))) (fun a w hst=>?_)
 have hst:St B w0 42 [(0,_),(2,_),(12,_)] [] a w:=hst
 refine za0 ?_
 refine za8 hst (zm 2 rfl) (fun hb0=>?_) (fun hb0=>?_)
 ·exact absurd hb0 zd
 ·refine wp_exit ?_
  refine za6 ?_
  refine za6 ?_
  refine zaj ?_
  refine zbm ?_
  exact zaq (rs:=[]) rfl hst .nil zd
theorem zox (vr:Value)(M:List Slot):Cn Tryz.prog 145 [ElP 59 (BkA vr M)] (Bo true):=by
 refine Cn.intro Tryz.func145 rfl zk nq (fun B w0 a hst=>?_)
 have hst:St B w0 64 [(0,ElP 59 (BkA vr M))] [] a w0.w:=hst
 refine wp_seq ?_
 refine gl (sts:=[]) (news:=[]) (sp:=[.val 2 _]) [.g 0,.o 0] hst (zv rfl (za1 zb7) o0) (fun a w hst=>?_)
 have hst:St B w0 64 [(0,_),(2,_)] [] a w:=hst
 refine zt ?_
 refine wp_seq ?_
 refine gl (sts:=[]) (news:=[]) (sp:=[.val 3 _]) [.g 0,.g 1,.o 0] hst (zv rfl (za1 za3) o0) (fun a w hst=>?_)
 have hst:St B w0 64 [(0,_),(2,_),(3,_)] [] a w:=hst
 refine za0 ?_
 refine wp_block ?_
 have hst:=St.sel hst [0,2]
 refine wp_loop_ghost (fun n a w =>  St B w0 64 [(0,ElP 59 (BkA vr M)),(3,In 0)] [] a w) (0) ?_ ?_
 ·exact hst
 intro n a w hI
 have hst:=hI
 refine wp_seq ?_
 refine wp_seq ?_
 refine gl (sts:=[]) (news:=[]) (sp:=[.val 6 _,.val 7 _,.val 8 _,.val 9 _,.val 10 _,.val 11 _,.val 12 _]) [.g 0,.g 1,.o 6] hst (zv rfl (za2 (gq 1 rfl)) (zv rfl (za2 (gq 0 rfl)) (zv rfl (zbu (vq 1 rfl)) (zv rfl (zau (vq 2 rfl) zm6 (Sub.part 7 rfl rfl)) (zv rfl (zae (vq 3 rfl) ty_48) (zv rfl (zc7 Tryz.underlying48 (has_wk' (vq 4 rfl) zbk)) (zv rfl (zba (vq 0 rfl) (vq 5 rfl)) o0))))))) (fun a w hst=>?_)
 have hst:St B w0 64 [(0,_),(3,_),(12,_)] [] a w:=hst
 refine za0 ?_
 refine za8 hst (zm 2 rfl) (fun hb0=>?_) (fun hb0=>?_)
 ·exact absurd hb0 zd
 ·refine wp_exit ?_
  refine za6 ?_
  refine za6 ?_
  refine zaj ?_
  refine zt<|gl (sts:=[]) (news:=[]) (sp:=[.val 2 _]) [.g 0,.o 0] hst (zv rfl (za1 zb7) o0) (fun a w hst=>?_)
  have hst:St B w0 64 [(0,_),(2,_)] [] a w:=hst
  refine za0 ?_
  refine wp_ret ?_
  exact zai rfl hst (zm 1 rfl)
theorem zwe (vr:Value)(M:List Slot):Cn Tryz.prog 114 [ElP 59 (BkA vr M)] (Tu []):=by
 refine Cn.intro Tryz.func114 rfl zk nq (fun B w0 a hst=>?_)
 have hst:St B w0 35 [(0,ElP 59 (BkA vr M))] [] a w0.w:=hst
 refine wp_seq ?_
 refine gl (sts:=[]) (news:=[]) (sp:=[.val 2 _]) [.g 0,.o 0] hst (zv rfl (za1 za3) o0) (fun a w hst=>?_)
 have hst:St B w0 35 [(0,_),(2,_)] [] a w:=hst
 refine za0 ?_
 refine wp_block ?_
 have hst:=St.sel hst [0,1]
 refine wp_loop_ghost (fun n a w =>  St B w0 35 [(0,ElP 59 (BkA vr M)),(2,In 0)] [] a w) (0) ?_ ?_
 ·exact hst
 intro n a w hI
 have hst:=hI
 refine wp_seq ?_
 refine wp_seq ?_
 refine gl (sts:=[]) (news:=[]) (sp:=[.val 5 _,.val 6 _,.val 7 _,.val 8 _,.val 9 _,.val 10 _,.val 11 _]) [.g 0,.g 1,.o 6] hst (zv rfl (za2 (gq 1 rfl)) (zv rfl (za2 (gq 0 rfl)) (zv rfl (zbu (vq 1 rfl)) (zv rfl (zau (vq 2 rfl) zm5 (Sub.part 8 rfl rfl)) (zv rfl (zae (vq 3 rfl) ty_49) (zv rfl (zc7 Tryz.underlying49 (has_wk' (vq 4 rfl) zbk)) (zv rfl (zba (vq 0 rfl) (vq 5 rfl)) o0))))))) (fun a w hst=>?_)
 have hst:St B w0 35 [(0,_),(2,_),(11,_)] [] a w:=hst
 refine za0 ?_
 refine za8 hst (zm 2 rfl) (fun hb0=>?_) (fun hb0=>?_)
 ·exact absurd hb0 zd
 ·refine wp_exit ?_
  refine za6 ?_
  refine za6 ?_
  refine zaj ?_
  refine zbm ?_
  exact zaq (rs:=[]) rfl hst .nil zd
theorem zw8 (vr:Value)(M:List Slot):Cn Tryz.prog 130 [ElP 59 (BkA vr M)] (Tu []):=by
 refine Cn.intro Tryz.func130 rfl zk nq (fun B w0 a hst=>?_)
 have hst:St B w0 42 [(0,ElP 59 (BkA vr M))] [] a w0.w:=hst
 refine wp_seq ?_
 refine gl (sts:=[]) (news:=[]) (sp:=[.val 2 _]) [.g 0,.o 0] hst (zv rfl (za1 za3) o0) (fun a w hst=>?_)
 have hst:St B w0 42 [(0,_),(2,_)] [] a w:=hst
 refine za0 ?_
 refine wp_block ?_
 have hst:=St.sel hst [0,1]
 refine wp_loop_ghost (fun n a w =>  St B w0 42 [(0,ElP 59 (BkA vr M)),(2,In 0)] [] a w) (0) ?_ ?_
 ·exact hst
 intro n a w hI
 have hst:=hI
 refine wp_seq ?_
 refine wp_seq ?_
 refine gl (sts:=[]) (news:=[]) (sp:=[.val 6 _,.val 7 _,.val 8 _,.val 9 _,.val 10 _,.val 11 _,.val 12 _]) [.g 0,.g 1,.o 6] hst (zv rfl (za2 (gq 1 rfl)) (zv rfl (za2 (gq 0 rfl)) (zv rfl (zbu (vq 1 rfl)) (zv rfl (zau (vq 2 rfl) zm5 (Sub.part 8 rfl rfl)) (zv rfl (zae (vq 3 rfl) ty_49) (zv rfl (zc7 Tryz.underlying49 (has_wk' (vq 4 rfl) zbk)) (zv rfl (zba (vq 0 rfl) (vq 5 rfl)) o0))))))) (fun a w hst=>?_)
 have hst:St B w0 42 [(0,_),(2,_),(12,_)] [] a w:=hst
 refine za0 ?_
 refine za8 hst (zm 2 rfl) (fun hb0=>?_) (fun hb0=>?_)
 ·exact absurd hb0 zd
 ·refine wp_exit ?_
  refine za6 ?_
  refine za6 ?_
  refine zaj ?_
  refine zbm ?_
  exact zaq (rs:=[]) rfl hst .nil zd
theorem zvx (vr:Value)(M:List Slot):Cn Tryz.prog 146 [ElP 59 (BkA vr M)] (Bo true):=by
 refine Cn.intro Tryz.func146 rfl zk nq (fun B w0 a hst=>?_)
 have hst:St B w0 64 [(0,ElP 59 (BkA vr M))] [] a w0.w:=hst
 refine wp_seq ?_
 refine gl (sts:=[]) (news:=[]) (sp:=[.val 2 _]) [.g 0,.o 0] hst (zv rfl (za1 zb7) o0) (fun a w hst=>?_)
 have hst:St B w0 64 [(0,_),(2,_)] [] a w:=hst
 refine zt ?_
 refine wp_seq ?_
 refine gl (sts:=[]) (news:=[]) (sp:=[.val 3 _]) [.g 0,.g 1,.o 0] hst (zv rfl (za1 za3) o0) (fun a w hst=>?_)
 have hst:St B w0 64 [(0,_),(2,_),(3,_)] [] a w:=hst
 refine za0 ?_
 refine wp_block ?_
 have hst:=St.sel hst [0,2]
 refine wp_loop_ghost (fun n a w =>  St B w0 64 [(0,ElP 59 (BkA vr M)),(3,In 0)] [] a w) (0) ?_ ?_
 ·exact hst
 intro n a w hI
 have hst:=hI
 refine wp_seq ?_
 refine wp_seq ?_
 refine gl (sts:=[]) (news:=[]) (sp:=[.val 6 _,.val 7 _,.val 8 _,.val 9 _,.val 10 _,.val 11 _,.val 12 _]) [.g 0,.g 1,.o 6] hst (zv rfl (za2 (gq 1 rfl)) (zv rfl (za2 (gq 0 rfl)) (zv rfl (zbu (vq 1 rfl)) (zv rfl (zau (vq 2 rfl) zm5 (Sub.part 8 rfl rfl)) (zv rfl (zae (vq 3 rfl) ty_49) (zv rfl (zc7 Tryz.underlying49 (has_wk' (vq 4 rfl) zbk)) (zv rfl (zba (vq 0 rfl) (vq 5 rfl)) o0))))))) (fun a w hst=>?_)
 have hst:St B w0 64 [(0,_),(3,_),(12,_)] [] a w:=hst
 refine za0 ?_
 refine za8 hst (zm 2 rfl) (fun hb0=>?_) (fun hb0=>?_)
 ·exact absurd hb0 zd
 ·refine wp_exit ?_
  refine za6 ?_
  refine za6 ?_
  refine zaj ?_
  refine zt<|gl (sts:=[]) (news:=[]) (sp:=[.val 2 _]) [.g 0,.o 0] hst (zv rfl (za1 zb7) o0) (fun a w hst=>?_)
  have hst:St B w0 64 [(0,_),(2,_)] [] a w:=hst
  refine za0 ?_
  refine wp_ret ?_
  exact zai rfl hst (zm 1 rfl)
theorem zme (vr:Value)(M:List Slot):Cn Tryz.prog 115 [ElP 59 (BkA vr M)] (Tu []):=by
 refine Cn.intro Tryz.func115 rfl zk nq (fun B w0 a hst=>?_)
 have hst:St B w0 35 [(0,ElP 59 (BkA vr M))] [] a w0.w:=hst
 refine wp_seq ?_
 refine gl (sts:=[]) (news:=[]) (sp:=[.val 2 _]) [.g 0,.o 0] hst (zv rfl (za1 za3) o0) (fun a w hst=>?_)
 have hst:St B w0 35 [(0,_),(2,_)] [] a w:=hst
 refine za0 ?_
 refine wp_block ?_
 have hst:=St.sel hst [0,1]
 refine wp_loop_ghost (fun n a w =>  St B w0 35 [(0,ElP 59 (BkA vr M)),(2,In 0)] [] a w) (0) ?_ ?_
 ·exact hst
 intro n a w hI
 have hst:=hI
 refine wp_seq ?_
 refine wp_seq ?_
 refine gl (sts:=[]) (news:=[]) (sp:=[.val 5 _,.val 6 _,.val 7 _,.val 8 _,.val 9 _,.val 10 _,.val 11 _]) [.g 0,.g 1,.o 6] hst (zv rfl (za2 (gq 1 rfl)) (zv rfl (za2 (gq 0 rfl)) (zv rfl (zbu (vq 1 rfl)) (zv rfl (zau (vq 2 rfl) zm4 (Sub.part 9 rfl rfl)) (zv rfl (zae (vq 3 rfl) ty_50) (zv rfl (zc7 Tryz.underlying50 (has_wk' (vq 4 rfl) zbk)) (zv rfl (zba (vq 0 rfl) (vq 5 rfl)) o0))))))) (fun a w hst=>?_)
 have hst:St B w0 35 [(0,_),(2,_),(11,_)] [] a w:=hst
 refine za0 ?_
 refine za8 hst (zm 2 rfl) (fun hb0=>?_) (fun hb0=>?_)
 ·exact absurd hb0 zd
 ·refine wp_exit ?_
  refine za6 ?_
  refine za6 ?_
  refine zaj ?_
  refine zbm ?_
  exact zaq (rs:=[]) rfl hst .nil zd
theorem zm0 (vr:Value)(M:List Slot):Cn Tryz.prog 131 [ElP 59 (BkA vr M)] (Tu []):=by
 refine Cn.intro Tryz.func131 rfl zk nq (fun B w0 a hst=>?_)
 have hst:St B w0 42 [(0,ElP 59 (BkA vr M))] [] a w0.w:=hst
 refine wp_seq ?_
 refine gl (sts:=[]) (news:=[]) (sp:=[.val 2 _]) [.g 0,.o 0] hst (zv rfl (za1 za3) o0) (fun a w hst=>?_)
 have hst:St B w0 42 [(0,_),(2,_)] [] a w:=hst
 refine za0 ?_
 refine wp_block ?_
 have hst:=St.sel hst [0,1]
 refine wp_loop_ghost (fun n a w =>  St B w0 42 [(0,ElP 59 (BkA vr M)),(2,In 0)] [] a w) (0) ?_ ?_
 ·exact hst
 intro n a w hI
 have hst:=hI
 refine wp_seq ?_
 refine wp_seq ?_
 refine gl (sts:=[]) (news:=[]) (sp:=[.val 6 _,.val 7 _,.val 8 _,.val 9 _,.val 10 _,.val 11 _,.val 12 _]) [.g 0,.g 1,.o 6] hst (zv rfl (za2 (gq 1 rfl)) (zv rfl (za2 (gq 0 rfl)) (zv rfl (zbu (vq 1 rfl)) (zv rfl (zau (vq 2 rfl) zm4 (Sub.part 9 rfl rfl)) (zv rfl (zae (vq 3 rfl) ty_50) (zv rfl (zc7 Tryz.underlying50 (has_wk' (vq 4 rfl) zbk)) (zv rfl (zba (vq 0 rfl) (vq 5 rfl)) o0))))))) (fun a w hst=>?_)
 have hst:St B w0 42 [(0,_),(2,_),(12,_)] [] a w:=hst
 refine za0 ?_
 refine za8 hst (zm 2 rfl) (fun hb0=>?_) (fun hb0=>?_)
 ·exact absurd hb0 zd
 ·refine wp_exit ?_
  refine za6 ?_
  refine za6 ?_
  refine zaj ?_
  refine zbm ?_
  exact zaq (rs:=[]) rfl hst .nil zd
theorem zlw (vr:Value)(M:List Slot):Cn Tryz.prog 147 [ElP 59 (BkA vr M)] (Bo true):=by
 refine Cn.intro Tryz.func147 rfl zk nq (fun B w0 a hst=>?_)
 have hst:St B w0 64 [(0,ElP 59 (BkA vr M))] [] a w0.w:=hst
 refine wp_seq ?_
 refine gl (sts:=[]) (news:=[]) (sp:=[.val 2 _]) [.g 0,.o 0] hst (zv rfl (za1 zb7) o0) (fun a w hst=>?_)
 have hst:St B w0 64 [(0,_),(2,_)] [] a w:=hst
 refine zt ?_
 refine wp_seq ?_
 refine gl (sts:=[]) (news:=[]) (sp:=[.val 3 _]) [.g 0,.g 1,.o 0] hst (zv rfl (za1 za3) o0) (fun a w hst=>?_)
 have hst:St B w0 64 [(0,_),(2,_),(3,_)] [] a w:=hst
 refine za0 ?_
 refine wp_block ?_
 have hst:=St.sel hst [0,2]
 refine wp_loop_ghost (fun n a w =>  St B w0 64 [(0,ElP 59 (BkA vr M)),(3,In 0)] [] a w) (0) ?_ ?_
 ·exact hst
 intro n a w hI
 have hst:=hI
 refine wp_seq ?_
 refine wp_seq ?_
 refine gl (sts:=[]) (news:=[]) (sp:=[.val 6 _,.val 7 _,.val 8 _,.val 9 _,.val 10 _,.val 11 _,.val 12 _]) [.g 0,.g 1,.o 6] hst (zv rfl (za2 (gq 1 rfl)) (zv rfl (za2 (gq 0 rfl)) (zv rfl (zbu (vq 1 rfl)) (zv rfl (zau (vq 2 rfl) zm4 (Sub.part 9 rfl rfl)) (zv rfl (zae (vq 3 rfl) ty_50) (zv rfl (zc7 Tryz.underlying50 (has_wk' (vq 4 rfl) zbk)) (zv rfl (zba (vq 0 rfl) (vq 5 rfl)) o0))))))) (fun a w hst=>?_)
 have hst:St B w0 64 [(0,_),(3,_),(12,_)] [] a w:=hst
 refine za0 ?_
 refine za8 hst (zm 2 rfl) (fun hb0=>?_) (fun hb0=>?_)
 ·exact absurd hb0 zd
 ·refine wp_exit ?_
  refine za6 ?_
  refine za6 ?_
  refine zaj ?_
  refine zt<|gl (sts:=[]) (news:=[]) (sp:=[.val 2 _]) [.g 0,.o 0] hst (zv rfl (za1 zb7) o0) (fun a w hst=>?_)
  have hst:St B w0 64 [(0,_),(2,_)] [] a w:=hst
  refine za0 ?_
  refine wp_ret ?_
  exact zai rfl hst (zm 1 rfl)
theorem zsm (vr:Value)(M:List Slot):Cn Tryz.prog 116 [ElP 59 (BkA vr M)] (Tu []):=by
 refine Cn.intro Tryz.func116 rfl zk nq (fun B w0 a hst=>?_)
 have hst:St B w0 35 [(0,ElP 59 (BkA vr M))] [] a w0.w:=hst
 refine wp_seq ?_
 refine gl (sts:=[]) (news:=[]) (sp:=[.val 2 _]) [.g 0,.o 0] hst (zv rfl (za1 za3) o0) (fun a w hst=>?_)
 have hst:St B w0 35 [(0,_),(2,_)] [] a w:=hst
 refine za0 ?_
 refine wp_block ?_
 have hst:=St.sel hst [0,1]
 refine wp_loop_ghost (fun n a w =>  St B w0 35 [(0,ElP 59 (BkA vr M)),(2,In 0)] [] a w) (0) ?_ ?_
 ·exact hst
 intro n a w hI
 have hst:=hI
 refine wp_seq ?_
 refine wp_seq ?_
 refine gl (sts:=[]) (news:=[]) (sp:=[.val 5 _,.val 6 _,.val 7 _,.val 8 _,.val 9 _,.val 10 _,.val 11 _]) [.g 0,.g 1,.o 6] hst (zv rfl (za2 (gq 1 rfl)) (zv rfl (za2 (gq 0 rfl)) (zv rfl (zbu (vq 1 rfl)) (zv rfl (zau (vq 2 rfl) zjy (Sub.part 10 rfl rfl)) (zv rfl (zae (vq 3 rfl) ty_51) (zv rfl (zc7 Tryz.underlying51 (has_wk' (vq 4 rfl) zbk)) (zv rfl (zba (vq 0 rfl) (vq 5 rfl)) o0))))))) (fun a w hst=>?_)
 have hst:St B w0 35 [(0,_),(2,_),(11,_)] [] a w:=hst
 refine za0 ?_
 refine za8 hst (zm 2 rfl) (fun hb0=>?_) (fun hb0=>?_)
 ·exact absurd hb0 zd
 ·refine wp_exit ?_
  refine za6 ?_
  refine za6 ?_
  refine zaj ?_
  refine zbm ?_
  exact zaq (rs:=[]) rfl hst .nil zd
theorem zse (vr:Value)(M:List Slot):Cn Tryz.prog 132 [ElP 59 (BkA vr M)] (Tu []):=by
 refine Cn.intro Tryz.func132 rfl zk nq (fun B w0 a hst=>?_)
 have hst:St B w0 42 [(0,ElP 59 (BkA vr M))] [] a w0.w:=hst
 refine wp_seq ?_
 refine gl (sts:=[]) (news:=[]) (sp:=[.val 2 _]) [.g 0,.o 0] hst (zv rfl (za1 za3) o0) (fun a w hst=>?_)
 have hst:St B w0 42 [(0,_),(2,_)] [] a w:=hst
 refine za0 ?_
 refine wp_block ?_
 have hst:=St.sel hst [0,1]
 refine wp_loop_ghost (fun n a w =>  St B w0 42 [(0,ElP 59 (BkA vr M)),(2,In 0)] [] a w) (0) ?_ ?_
 ·exact hst
 intro n a w hI
 have hst:=hI
 refine wp_seq ?_
 refine wp_seq ?_
 refine gl (sts:=[]) (news:=[]) (sp:=[.val 6 _,.val 7 _,.val 8 _,.val 9 _,.val 10 _,.val 11 _,.val 12 _]) [.g 0,.g 1,.o 6] hst (zv rfl (za2 (gq 1 rfl)) (zv rfl (za2 (gq 0 rfl)) (zv rfl (zbu (vq 1 rfl)) (zv rfl (zau (vq 2 rfl) zjy (Sub.part 10 rfl rfl)) (zv rfl (zae (vq 3 rfl) ty_51) (zv rfl (zc7 Tryz.underlying51 (has_wk' (vq 4 rfl) zbk)) (zv rfl (zba (vq 0 rfl) (vq 5 rfl)) o0))))))) (fun a w hst=>?_)
 have hst:St B w0 42 [(0,_),(2,_),(12,_)] [] a w:=hst
 refine za0 ?_
 refine za8 hst (zm 2 rfl) (fun hb0=>?_) (fun hb0=>?_)
 ·exact absurd hb0 zd
 ·refine wp_exit ?_
  refine za6 ?_
  refine za6 ?_
  refine zaj ?_
  refine zbm ?_
  exact zaq (rs:=[]) rfl hst .nil zd
theorem zs7 (vr:Value)(M:List Slot):Cn Tryz.prog 148 [ElP 59 (BkA vr M)] (Bo true):=by
 refine Cn.intro Tryz.func148 rfl zk nq (fun B w0 a hst=>?_)
 have hst:St B w0 64 [(0,ElP 59 (BkA vr M))] [] a w0.w:=hst
 refine wp_seq ?_
 refine gl (sts:=[]) (news:=[]) (sp:=[.val 2 _]) [.g 0,.o 0] hst (zv rfl (za1 zb7) o0) (fun a w hst=>?_)
 have hst:St B w0 64 [(0,_),(2,_)] [] a w:=hst
 refine zt ?_
 refine wp_seq ?_
 refine gl (sts:=[]) (news:=[]) (sp:=[.val 3 _]) [.g 0,.g 1,.o 0] hst (zv rfl (za1 za3) o0) (fun a w hst=>?_)
 have hst:St B w0 64 [(0,_),(2,_),(3,_)] [] a w:=hst
 refine za0 ?_
 refine wp_block ?_
 have hst:=St.sel hst [0,2]
 refine wp_loop_ghost (fun n a w =>  St B w0 64 [(0,ElP 59 (BkA vr M)),(3,In 0)] [] a w) (0) ?_ ?_
 ·exact hst
 intro n a w hI
 have hst:=hI
 refine wp_seq ?_
 refine wp_seq ?_
 refine gl (sts:=[]) (news:=[]) (sp:=[.val 6 _,.val 7 _,.val 8 _,.val 9 _,.val 10 _,.val 11 _,.val 12 _]) [.g 0,.g 1,.o 6] hst (zv rfl (za2 (gq 1 rfl)) (zv rfl (za2 (gq 0 rfl)) (zv rfl (zbu (vq 1 rfl)) (zv rfl (zau (vq 2 rfl) zjy (Sub.part 10 rfl rfl)) (zv rfl (zae (vq 3 rfl) ty_51) (zv rfl (zc7 Tryz.underlying51 (has_wk' (vq 4 rfl) zbk)) (zv rfl (zba (vq 0 rfl) (vq 5 rfl)) o0))))))) (fun a w hst=>?_)
 have hst:St B w0 64 [(0,_),(3,_),(12,_)] [] a w:=hst
 refine za0 ?_
 refine za8 hst (zm 2 rfl) (fun hb0=>?_) (fun hb0=>?_)
 ·exact absurd hb0 zd
 ·refine wp_exit ?_
  refine za6 ?_
  refine za6 ?_
  refine zaj ?_
  refine zt<|gl (sts:=[]) (news:=[]) (sp:=[.val 2 _]) [.g 0,.o 0] hst (zv rfl (za1 zb7) o0) (fun a w hst=>?_)
  have hst:St B w0 64 [(0,_),(2,_)] [] a w:=hst
  refine za0 ?_
  refine wp_ret ?_
  exact zai rfl hst (zm 1 rfl)
theorem zsl (vr:Value)(M:List Slot):Cn Tryz.prog 117 [ElP 59 (BkA vr M)] (Tu []):=by
 refine Cn.intro Tryz.func117 rfl zk nq (fun B w0 a hst=>?_)
 have hst:St B w0 35 [(0,ElP 59 (BkA vr M))] [] a w0.w:=hst
 refine wp_seq ?_
 refine gl (sts:=[]) (news:=[]) (sp:=[.val 2 _]) [.g 0,.o 0] hst (zv rfl (za1 za3) o0) (fun a w hst=>?_)
 have hst:St B w0 35 [(0,_),(2,_)] [] a w:=hst
 refine za0 ?_
 refine wp_block ?_
 have hst:=St.sel hst [0,1]
 refine wp_loop_ghost (fun n a w =>  St B w0 35 [(0,ElP 59 (BkA vr M)),(2,In 0)] [] a w) (0) ?_ ?_
 ·exact hst
 intro n a w hI
 have hst:=hI
 refine wp_seq ?_
 refine wp_seq ?_
 refine gl (sts:=[]) (news:=[]) (sp:=[.val 5 _,.val 6 _,.val 7 _,.val 8 _,.val 9 _,.val 10 _,.val 11 _]) [.g 0,.g 1,.o 6] hst (zv rfl (za2 (gq 1 rfl)) (zv rfl (za2 (gq 0 rfl)) (zv rfl (zbu (vq 1 rfl)) (zv rfl (zau (vq 2 rfl) zjx (Sub.part 11 rfl rfl)) (zv rfl (zae (vq 3 rfl) ty_52) (zv rfl (zc7 Tryz.underlying52 (has_wk' (vq 4 rfl) zbk)) (zv rfl (zba (vq 0 rfl) (vq 5 rfl)) o0))))))) (fun a w hst=>?_)
 have hst:St B w0 35 [(0,_),(2,_),(11,_)] [] a w:=hst
 refine za0 ?_
 refine za8 hst (zm 2 rfl) (fun hb0=>?_) (fun hb0=>?_)
 ·exact absurd hb0 zd
 ·refine wp_exit ?_
  refine za6 ?_
  refine za6 ?_
  refine zaj ?_
  refine zbm ?_
  exact zaq (rs:=[]) rfl hst .nil zd
theorem zsd (vr:Value)(M:List Slot):Cn Tryz.prog 133 [ElP 59 (BkA vr M)] (Tu []):=by
 refine Cn.intro Tryz.func133 rfl zk nq (fun B w0 a hst=>?_)
 have hst:St B w0 42 [(0,ElP 59 (BkA vr M))] [] a w0.w:=hst
 refine wp_seq ?_
 refine gl (sts:=[]) (news:=[]) (sp:=[.val 2 _]) [.g 0,.o 0] hst (zv rfl (za1 za3) o0) (fun a w hst=>?_)
 have hst:St B w0 42 [(0,_),(2,_)] [] a w:=hst
 refine za0 ?_
 refine wp_block ?_
 have hst:=St.sel hst [0,1]
 refine wp_loop_ghost (fun n a w =>  St B w0 42 [(0,ElP 59 (BkA vr M)),(2,In 0)] [] a w) (0) ?_ ?_
 ·exact hst
 intro n a w hI
 have hst:=hI
 refine wp_seq ?_
 refine wp_seq ?_
 refine gl (sts:=[]) (news:=[]) (sp:=[.val 6 _,.val 7 _,.val 8 _,.val 9 _,.val 10 _,.val 11 _,.val 12 _]) [.g 0,.g 1,.o 6] hst (zv rfl (za2 (gq 1 rfl)) (zv rfl (za2 (gq 0 rfl)) (zv rfl (zbu (vq 1 rfl)) (zv rfl (zau (vq 2 rfl) zjx (Sub.part 11 rfl rfl)) (zv rfl (zae (vq 3 rfl) ty_52) (zv rfl (zc7 Tryz.underlying52 (has_wk' (vq 4 rfl) zbk)) (zv rfl (zba (vq 0 rfl) (vq 5 rfl)) o0))))))) (fun a w hst=>?_)
 have hst:St B w0 42 [(0,_),(2,_),(12,_)] [] a w:=hst
 refine za0 ?_
 refine za8 hst (zm 2 rfl) (fun hb0=>?_) (fun hb0=>?_)
 ·exact absurd hb0 zd
 ·refine wp_exit ?_
  refine za6 ?_
  refine za6 ?_
  refine zaj ?_
  refine zbm ?_
  exact zaq (rs:=[]) rfl hst .nil zd
theorem zs6 (vr:Value)(M:List Slot):Cn Tryz.prog 149 [ElP 59 (BkA vr M)] (Bo true):=by
 refine Cn.intro Tryz.func149 rfl zk nq (fun B w0 a hst=>?_)
 have hst:St B w0 64 [(0,ElP 59 (BkA vr M))] [] a w0.w:=hst
 refine wp_seq ?_
 refine gl (sts:=[]) (news:=[]) (sp:=[.val 2 _]) [.g 0,.o 0] hst (zv rfl (za1 zb7) o0) (fun a w hst=>?_)
 have hst:St B w0 64 [(0,_),(2,_)] [] a w:=hst
 refine zt ?_
 refine wp_seq ?_
 refine gl (sts:=[]) (news:=[]) (sp:=[.val 3 _]) [.g 0,.g 1,.o 0] hst (zv rfl (za1 za3) o0) (fun a w hst=>?_)
 have hst:St B w0 64 [(0,_),(2,_),(3,_)] [] a w:=hst
 refine za0 ?_
 refine wp_block ?_
 have hst:=St.sel hst [0,2]
 refine wp_loop_ghost (fun n a w =>  St B w0 64 [(0,ElP 59 (BkA vr M)),(3,In 0)] [] a w) (0) ?_ ?_
 ·exact hst
 intro n a w hI
 have hst:=hI
 refine wp_seq ?_
 refine wp_seq ?_
 refine gl (sts:=[]) (news:=[]) (sp:=[.val 6 _,.val 7 _,.val 8 _,.val 9 _,.val 10 _,.val 11 _,.val 12 _]) [.g 0,.g 1,.o 6] hst (zv rfl (za2 (gq 1 rfl)) (zv rfl (za2 (gq 0 rfl)) (zv rfl (zbu (vq 1 rfl)) (zv rfl (zau (vq 2 rfl) zjx (Sub.part 11 rfl rfl)) (zv rfl (zae (vq 3 rfl) ty_52) (zv rfl (zc7 Tryz.underlying52 (has_wk' (vq 4 rfl) zbk)) (zv rfl (zba (vq 0 rfl) (vq 5 rfl)) o0))))))) (fun a w hst=>?_)
 have hst:St B w0 64 [(0,_),(3,_),(12,_)] [] a w:=hst
 refine za0 ?_
 refine za8 hst (zm 2 rfl) (fun hb0=>?_) (fun hb0=>?_)
 ·exact absurd hb0 zd
 ·refine wp_exit ?_
  refine za6 ?_
  refine za6 ?_
  refine zaj ?_
  refine zt<|gl (sts:=[]) (news:=[]) (sp:=[.val 2 _]) [.g 0,.o 0] hst (zv rfl (za1 zb7) o0) (fun a w hst=>?_)
  have hst:St B w0 64 [(0,_),(2,_)] [] a w:=hst
  refine za0 ?_
  refine wp_ret ?_
  exact zai rfl hst (zm 1 rfl)
theorem zsi (vr:Value)(M:List Slot):Cn Tryz.prog 118 [ElP 59 (BkA vr M)] (Tu []):=by
 refine Cn.intro Tryz.func118 rfl zk nq (fun B w0 a hst=>?_)
 have hst:St B w0 35 [(0,ElP 59 (BkA vr M))] [] a w0.w:=hst
 refine wp_seq ?_
 refine gl (sts:=[]) (news:=[]) (sp:=[.val 2 _]) [.g 0,.o 0] hst (zv rfl (za1 za3) o0) (fun a w hst=>?_)
 have hst:St B w0 35 [(0,_),(2,_)] [] a w:=hst
 refine za0 ?_
 refine wp_block ?_
 have hst:=St.sel hst [0,1]
 refine wp_loop_ghost (fun n a w =>  St B w0 35 [(0,ElP 59 (BkA vr M)),(2,In 0)] [] a w) (0) ?_ ?_
 ·exact hst
 intro n a w hI
 have hst:=hI
 refine wp_seq ?_
 refine wp_seq ?_
 refine gl (sts:=[]) (news:=[]) (sp:=[.val 5 _,.val 6 _,.val 7 _,.val 8 _,.val 9 _,.val 10 _,.val 11 _]) [.g 0,.g 1,.o 6] hst (zv rfl (za2 (gq 1 rfl)) (zv rfl (za2 (gq 0 rfl)) (zv rfl (zbu (vq 1 rfl)) (zv rfl (zau (vq 2 rfl) zjw (Sub.part 12 rfl rfl)) (zv rfl (zae (vq 3 rfl) ty_53) (zv rfl (zc7 Tryz.underlying53 (has_wk' (vq 4 rfl) zbk)) (zv rfl (zba (vq 0 rfl) (vq 5 rfl)) o0))))))) (fun a w hst=>?_)
 have hst:St B w0 35 [(0,_),(2,_),(11,_)] [] a w:=hst
 refine za0 ?_
 refine za8 hst (zm 2 rfl) (fun hb0=>?_) (fun hb0=>?_)
 ·exact absurd hb0 zd
 ·refine wp_exit ?_
  refine za6 ?_
  refine za6 ?_
  refine zaj ?_
  refine zbm ?_
  exact zaq (rs:=[]) rfl hst .nil zd
theorem zsa (vr:Value)(M:List Slot):Cn Tryz.prog 134 [ElP 59 (BkA vr M)] (Tu []):=by
 refine Cn.intro Tryz.func134 rfl zk nq (fun B w0 a hst=>?_)
 have hst:St B w0 42 [(0,ElP 59 (BkA vr M))] [] a w0.w:=hst
 refine wp_seq ?_
 refine gl (sts:=[]) (news:=[]) (sp:=[.val 2 _]) [.g 0,.o 0] hst (zv rfl (za1 za3) o0) (fun a w hst=>?_)
 have hst:St B w0 42 [(0,_),(2,_)] [] a w:=hst
 refine za0 ?_
 refine wp_block ?_
 have hst:=St.sel hst [0,1]
 refine wp_loop_ghost (fun n a w =>  St B w0 42 [(0,ElP 59 (BkA vr M)),(2,In 0)] [] a w) (0) ?_ ?_
 ·exact hst
 intro n a w hI
 have hst:=hI
 refine wp_seq ?_
 refine wp_seq ?_
 refine gl (sts:=[]) (news:=[]) (sp:=[.val 6 _,.val 7 _,.val 8 _,.val 9 _,.val 10 _,.val 11 _,.val 12 _]) [.g 0,.g 1,.o 6] hst (zv rfl (za2 (gq 1 rfl)) (zv rfl (za2 (gq 0 rfl)) (zv rfl (zbu (vq 1 rfl)) (zv rfl (zau (vq 2 rfl) zjw (Sub.part 12 rfl rfl)) (zv rfl (zae (vq 3 rfl) ty_53) (zv rfl (zc7 Tryz.underlying53 (has_wk' (vq 4 rfl) zbk)) (zv rfl (zba (vq 0 rfl) (vq 5 rfl)) o0))))))) (fun a w hst=>?_)
 have hst:St B w0 42 [(0,_),(2,_),(12,_)] [] a w:=hst
 refine za0 ?_
 refine za8 hst (zm 2 rfl) (fun hb0=>?_) (fun hb0=>?_)
 ·exact absurd hb0 zd
 ·refine wp_exit ?_
  refine za6 ?_
  refine za6 ?_
  refine zaj ?_
  refine zbm ?_
  exact zaq (rs:=[]) rfl hst .nil zd
theorem zs3 (vr:Value)(M:List Slot):Cn Tryz.prog 150 [ElP 59 (BkA vr M)] (Bo true):=by
 refine Cn.intro Tryz.func150 rfl zk nq (fun B w0 a hst=>?_)
 have hst:St B w0 64 [(0,ElP 59 (BkA vr M))] [] a w0.w:=hst
 refine wp_seq ?_
 refine gl (sts:=[]) (news:=[]) (sp:=[.val 2 _]) [.g 0,.o 0] hst (zv rfl (za1 zb7) o0) (fun a w hst=>?_)
 have hst:St B w0 64 [(0,_),(2,_)] [] a w:=hst
 refine zt ?_
 refine wp_seq ?_
 refine gl (sts:=[]) (news:=[]) (sp:=[.val 3 _]) [.g 0,.g 1,.o 0] hst (zv rfl (za1 za3) o0) (fun a w hst=>?_)
 have hst:St B w0 64 [(0,_),(2,_),(3,_)] [] a w:=hst
 refine za0 ?_
 refine wp_block ?_
 have hst:=St.sel hst [0,2]
 refine wp_loop_ghost (fun n a w =>  St B w0 64 [(0,ElP 59 (BkA vr M)),(3,In 0)] [] a w) (0) ?_ ?_
 ·exact hst
 intro n a w hI
 have hst:=hI
 refine wp_seq ?_
 refine wp_seq ?_
 refine gl (sts:=[]) (news:=[]) (sp:=[.val 6 _,.val 7 _,.val 8 _,.val 9 _,.val 10 _,.val 11 _,.val 12 _]) [.g 0,.g 1,.o 6] hst (zv rfl (za2 (gq 1 rfl)) (zv rfl (za2 (gq 0 rfl)) (zv rfl (zbu (vq 1 rfl)) (zv rfl (zau (vq 2 rfl) zjw (Sub.part 12 rfl rfl)) (zv rfl (zae (vq 3 rfl) ty_53) (zv rfl (zc7 Tryz.underlying53 (has_wk' (vq 4 rfl) zbk)) (zv rfl (zba (vq 0 rfl) (vq 5 rfl)) o0))))))) (fun a w hst=>?_)
 have hst:St B w0 64 [(0,_),(3,_),(12,_)] [] a w:=hst
 refine za0 ?_
 refine za8 hst (zm 2 rfl) (fun hb0=>?_) (fun hb0=>?_)
 ·exact absurd hb0 zd
 ·refine wp_exit ?_
  refine za6 ?_
  refine za6 ?_
  refine zaj ?_
  refine zt<|gl (sts:=[]) (news:=[]) (sp:=[.val 2 _]) [.g 0,.o 0] hst (zv rfl (za1 zb7) o0) (fun a w hst=>?_)
  have hst:St B w0 64 [(0,_),(2,_)] [] a w:=hst
  refine za0 ?_
  refine wp_ret ?_
  exact zai rfl hst (zm 1 rfl)
theorem zwf (vr:Value)(M:List Slot):Cn Tryz.prog 119 [ElP 59 (BkA vr M)] (Tu []):=by
 refine Cn.intro Tryz.func119 rfl zk nq (fun B w0 a hst=>?_)
 have hst:St B w0 35 [(0,ElP 59 (BkA vr M))] [] a w0.w:=hst
 refine wp_seq ?_
 refine gl (sts:=[]) (news:=[]) (sp:=[.val 2 _]) [.g 0,.o 0] hst (zv rfl (za1 za3) o0) (fun a w hst=>?_)
 have hst:St B w0 35 [(0,_),(2,_)] [] a w:=hst
 refine za0 ?_
 refine wp_block ?_
 have hst:=St.sel hst [0,1]
 refine wp_loop_ghost (fun n a w =>  St B w0 35 [(0,ElP 59 (BkA vr M)),(2,In 0)] [] a w) (0) ?_ ?_
 ·exact hst
 intro n a w hI
 have hst:=hI
 refine wp_seq ?_
 refine wp_seq ?_
 refine gl (sts:=[]) (news:=[]) (sp:=[.val 5 _,.val 6 _,.val 7 _,.val 8 _,.val 9 _,.val 10 _,.val 11 _]) [.g 0,.g 1,.o 6] hst (zv rfl (za2 (gq 1 rfl)) (zv rfl (za2 (gq 0 rfl)) (zv rfl (zbu (vq 1 rfl)) (zv rfl (zau (vq 2 rfl) zjv (Sub.part 13 rfl rfl)) (zv rfl (zae (vq 3 rfl) ty_54) (zv rfl (zc7 Tryz.underlying54 (has_wk' (vq 4 rfl) zbk)) (zv rfl (zba (vq 0 rfl) (vq 5 rfl)) o0))))))) (fun a w hst=>?_)
 have hst:St B w0 35 [(0,_),(2,_),(11,_)] [] a w:=hst
 refine za0 ?_
 refine za8 hst (zm 2 rfl) (fun hb0=>?_) (fun hb0=>?_)
 ·exact absurd hb0 zd
 ·refine wp_exit ?_
  refine za6 ?_
  refine za6 ?_
  refine zaj ?_
  refine zbm ?_
  exact zaq (rs:=[]) rfl hst .nil zd
theorem zw9 (vr:Value)(M:List Slot):Cn Tryz.prog 135 [ElP 59 (BkA vr M)] (Tu []):=by
 refine Cn.intro Tryz.func135 rfl zk nq (fun B w0 a hst=>?_)
 have hst:St B w0 42 [(0,ElP 59 (BkA vr M))] [] a w0.w:=hst
 refine wp_seq ?_
 refine gl (sts:=[]) (news:=[]) (sp:=[.val 2 _]) [.g 0,.o 0] hst (zv rfl (za1 za3) o0) (fun a w hst=>?_)
 have hst:St B w0 42 [(0,_),(2,_)] [] a w:=hst
 refine za0 ?_
 refine wp_block ?_
 have hst:=St.sel hst [0,1]
 refine wp_loop_ghost (fun n a w =>  St B w0 42 [(0,ElP 59 (BkA vr M)),(2,In 0)] [] a w) (0) ?_ ?_
 ·exact hst
 intro n a w hI
 have hst:=hI
 refine wp_seq ?_
 refine wp_seq ?_
 refine gl (sts:=[]) (news:=[]) (sp:=[.val 6 _,.val 7 _,.val 8 _,.val 9 _,.val 10 _,.val 11 _,.val 12 _]) [.g 0,.g 1,.o 6] hst (zv rfl (za2 (gq 1 rfl)) (zv rfl (za2 (gq 0 rfl)) (zv rfl (zbu (vq 1 rfl)) (zv rfl (zau (vq 2 rfl) zjv (Sub.part 13 rfl rfl)) (zv rfl (zae (vq 3 rfl) ty_54) (zv rfl (zc7 Tryz.underlying54 (has_wk' (vq 4 rfl) zbk)) (zv rfl (zba (vq 0 rfl) (vq 5 rfl)) o0))))))) (fun a w hst=>?_)
 have hst:St B w0 42 [(0,_),(2,_),(12,_)] [] a w:=hst
 refine za0 ?_
 refine za8 hst (zm 2 rfl) (fun hb0=>?_) (fun hb0=>?_)
 ·exact absurd hb0 zd
 ·refine wp_exit ?_
  refine za6 ?_
  refine za6 ?_
  refine zaj ?_
  refine zbm ?_
  exact zaq (rs:=[]) rfl hst .nil zd
theorem zvy (vr:Value)(M:List Slot):Cn Tryz.prog 151 [ElP 59 (BkA vr M)] (Bo true):=by
 refine Cn.intro Tryz.func151 rfl zk nq (fun B w0 a hst=>?_)
 have hst:St B w0 64 [(0,ElP 59 (BkA vr M))] [] a w0.w:=hst
 refine wp_seq ?_
 refine gl (sts:=[]) (news:=[]) (sp:=[.val 2 _]) [.g 0,.o 0] hst (zv rfl (za1 zb7) o0) (fun a w hst=>?_)
 have hst:St B w0 64 [(0,_),(2,_)] [] a w:=hst
 refine zt ?_
 refine wp_seq ?_
 refine gl (sts:=[]) (news:=[]) (sp:=[.val 3 _]) [.g 0,.g 1,.o 0] hst (zv rfl (za1 za3) o0) (fun a w hst=>?_)
 have hst:St B w0 64 [(0,_),(2,_),(3,_)] [] a w:=hst
 refine za0 ?_
 refine wp_block ?_
 have hst:=St.sel hst [0,2]
 refine wp_loop_ghost (fun n a w =>  St B w0 64 [(0,ElP 59 (BkA vr M)),(3,In 0)] [] a w) (0) ?_ ?_
 ·exact hst
 intro n a w hI
 have hst:=hI
 refine wp_seq ?_
 refine wp_seq ?_
 refine gl (sts:=[]) (news:=[]) (sp:=[.val 6 _,.val 7 _,.val 8 _,.val 9 _,.val 10 _,.val 11 _,.val 12 _]) [.g 0,.g 1,.o 6] hst (zv rfl (za2 (gq 1 rfl)) (zv rfl (za2 (gq 0 rfl)) (zv rfl (zbu (vq 1 rfl)) (zv rfl (zau (vq 2 rfl) zjv (Sub.part 13 rfl rfl)) (zv rfl (zae (vq 3 rfl) ty_54) (zv rfl (zc7 Tryz.underlying54 (has_wk' (vq 4 rfl) zbk)) (zv rfl (zba (vq 0 rfl) (vq 5 rfl)) o0))))))) (fun a w hst=>?_)
 have hst:St B w0 64 [(0,_),(3,_),(12,_)] [] a w:=hst
 refine za0 ?_
 refine za8 hst (zm 2 rfl) (fun hb0=>?_) (fun hb0=>?_)
 ·exact absurd hb0 zd
 ·refine wp_exit ?_
  refine za6 ?_
  refine za6 ?_
  refine zaj ?_
  refine zt<|gl (sts:=[]) (news:=[]) (sp:=[.val 2 _]) [.g 0,.o 0] hst (zv rfl (za1 zb7) o0) (fun a w hst=>?_)
  have hst:St B w0 64 [(0,_),(2,_)] [] a w:=hst
  refine za0 ?_
  refine wp_ret ?_
  exact zai rfl hst (zm 1 rfl)
theorem zsj (vr:Value)(M:List Slot):Cn Tryz.prog 120 [ElP 59 (BkA vr M)] (Tu []):=by
 refine Cn.intro Tryz.func120 rfl zk nq (fun B w0 a hst=>?_)
 have hst:St B w0 35 [(0,ElP 59 (BkA vr M))] [] a w0.w:=hst
 refine wp_seq ?_
 refine gl (sts:=[]) (news:=[]) (sp:=[.val 2 _]) [.g 0,.o 0] hst (zv rfl (za1 za3) o0) (fun a w hst=>?_)
 have hst:St B w0 35 [(0,_),(2,_)] [] a w:=hst
 refine za0 ?_
 refine wp_block ?_
 have hst:=St.sel hst [0,1]
 refine wp_loop_ghost (fun n a w =>  St B w0 35 [(0,ElP 59 (BkA vr M)),(2,In 0)] [] a w) (0) ?_ ?_
 ·exact hst
 intro n a w hI
 have hst:=hI
 refine wp_seq ?_
 refine wp_seq ?_
 refine gl (sts:=[]) (news:=[]) (sp:=[.val 5 _,.val 6 _,.val 7 _,.val 8 _,.val 9 _,.val 10 _,.val 11 _]) [.g 0,.g 1,.o 6] hst (zv rfl (za2 (gq 1 rfl)) (zv rfl (za2 (gq 0 rfl)) (zv rfl (zbu (vq 1 rfl)) (zv rfl (zau (vq 2 rfl) zju (Sub.part 14 rfl rfl)) (zv rfl (zae (vq 3 rfl) ty_55) (zv rfl (zc7 Tryz.underlying55 (has_wk' (vq 4 rfl) zbk)) (zv rfl (zba (vq 0 rfl) (vq 5 rfl)) o0))))))) (fun a w hst=>?_)
 have hst:St B w0 35 [(0,_),(2,_),(11,_)] [] a w:=hst
 refine za0 ?_
 refine za8 hst (zm 2 rfl) (fun hb0=>?_) (fun hb0=>?_)
 ·exact absurd hb0 zd
 ·refine wp_exit ?_
  refine za6 ?_
  refine za6 ?_
  refine zaj ?_
  refine zbm ?_
  exact zaq (rs:=[]) rfl hst .nil zd
theorem zsb (vr:Value)(M:List Slot):Cn Tryz.prog 136 [ElP 59 (BkA vr M)] (Tu []):=by
 refine Cn.intro Tryz.func136 rfl zk nq (fun B w0 a hst=>?_)
 have hst:St B w0 42 [(0,ElP 59 (BkA vr M))] [] a w0.w:=hst
 refine wp_seq ?_
 refine gl (sts:=[]) (news:=[]) (sp:=[.val 2 _]) [.g 0,.o 0] hst (zv rfl (za1 za3) o0) (fun a w hst=>?_)
 have hst:St B w0 42 [(0,_),(2,_)] [] a w:=hst
 refine za0 ?_
 refine wp_block ?_
 have hst:=St.sel hst [0,1]
 refine wp_loop_ghost (fun n a w =>  St B w0 42 [(0,ElP 59 (BkA vr M)),(2,In 0)] [] a w) (0) ?_ ?_
 ·exact hst
 intro n a w hI
 have hst:=hI
 refine wp_seq ?_
 refine wp_seq ?_
 refine gl (sts:=[]) (news:=[]) (sp:=[.val 6 _,.val 7 _,.val 8 _,.val 9 _,.val 10 _,.val 11 _,.val 12 _]) [.g 0,.g 1,.o 6] hst (zv rfl (za2 (gq 1 rfl)) (zv rfl (za2 (gq 0 rfl)) (zv rfl (zbu (vq 1 rfl)) (zv rfl (zau (vq 2 rfl) zju (Sub.part 14 rfl rfl)) (zv rfl (zae (vq 3 rfl) ty_55) (zv rfl (zc7 Tryz.underlying55 (has_wk' (vq 4 rfl) zbk)) (zv rfl (zba (vq 0 rfl) (vq 5 rfl)) o0))))))) (fun a w hst=>?_)
 have hst:St B w0 42 [(0,_),(2,_),(12,_)] [] a w:=hst
 refine za0 ?_
 refine za8 hst (zm 2 rfl) (fun hb0=>?_) (fun hb0=>?_)
 ·exact absurd hb0 zd
 ·refine wp_exit ?_
  refine za6 ?_
  refine za6 ?_
  refine zaj ?_
  refine zbm ?_
  exact zaq (rs:=[]) rfl hst .nil zd
theorem zs4 (vr:Value)(M:List Slot):Cn Tryz.prog 152 [ElP 59 (BkA vr M)] (Bo true):=by
 refine Cn.intro Tryz.func152 rfl zk nq (fun B w0 a hst=>?_)
 have hst:St B w0 64 [(0,ElP 59 (BkA vr M))] [] a w0.w:=hst
 refine wp_seq ?_
 refine gl (sts:=[]) (news:=[]) (sp:=[.val 2 _]) [.g 0,.o 0] hst (zv rfl (za1 zb7) o0) (fun a w hst=>?_)
 have hst:St B w0 64 [(0,_),(2,_)] [] a w:=hst
 refine zt ?_
 refine wp_seq ?_
 refine gl (sts:=[]) (news:=[]) (sp:=[.val 3 _]) [.g 0,.g 1,.o 0] hst (zv rfl (za1 za3) o0) (fun a w hst=>?_)
 have hst:St B w0 64 [(0,_),(2,_),(3,_)] [] a w:=hst
 refine za0 ?_
 refine wp_block ?_
 have hst:=St.sel hst [0,2]
 refine wp_loop_ghost (fun n a w =>  St B w0 64 [(0,ElP 59 (BkA vr M)),(3,In 0)] [] a w) (0) ?_ ?_
 ·exact hst
 intro n a w hI
 have hst:=hI
 refine wp_seq ?_
 refine wp_seq ?_
 refine gl (sts:=[]) (news:=[]) (sp:=[.val 6 _,.val 7 _,.val 8 _,.val 9 _,.val 10 _,.val 11 _,.val 12 _]) [.g 0,.g 1,.o 6] hst (zv rfl (za2 (gq 1 rfl)) (zv rfl (za2 (gq 0 rfl)) (zv rfl (zbu (vq 1 rfl)) (zv rfl (zau (vq 2 rfl) zju (Sub.part 14 rfl rfl)) (zv rfl (zae (vq 3 rfl) ty_55) (zv rfl (zc7 Tryz.underlying55 (has_wk' (vq 4 rfl) zbk)) (zv rfl (zba (vq 0 rfl) (vq 5 rfl)) o0))))))) (fun a w hst=>?_)
 have hst:St B w0 64 [(0,_),(3,_),(12,_)] [] a w:=hst
 refine za0 ?_
 refine za8 hst (zm 2 rfl) (fun hb0=>?_) (fun hb0=>?_)
 ·exact absurd hb0 zd
 ·refine wp_exit ?_
  refine za6 ?_
  refine za6 ?_
  refine zaj ?_
  refine zt<|gl (sts:=[]) (news:=[]) (sp:=[.val 2 _]) [.g 0,.o 0] hst (zv rfl (za1 zb7) o0) (fun a w hst=>?_)
  have hst:St B w0 64 [(0,_),(2,_)] [] a w:=hst
  refine za0 ?_
  refine wp_ret ?_
  exact zai rfl hst (zm 1 rfl)
theorem zwg (vr:Value)(M:List Slot):Cn Tryz.prog 121 [ElP 59 (BkA vr M)] (Tu []):=by
 refine Cn.intro Tryz.func121 rfl zk nq (fun B w0 a hst=>?_)
 have hst:St B w0 35 [(0,ElP 59 (BkA vr M))] [] a w0.w:=hst
 refine wp_seq ?_
 refine gl (sts:=[]) (news:=[]) (sp:=[.val 2 _]) [.g 0,.o 0] hst (zv rfl (za1 za3) o0) (fun a w hst=>?_)
 have hst:St B w0 35 [(0,_),(2,_)] [] a w:=hst
 refine za0 ?_
 refine wp_block ?_
 have hst:=St.sel hst [0,1]
 refine wp_loop_ghost (fun n a w =>  St B w0 35 [(0,ElP 59 (BkA vr M)),(2,In 0)] [] a w) (0) ?_ ?_
 ·exact hst
 intro n a w hI
 have hst:=hI
 refine wp_seq ?_
 refine wp_seq ?_
 refine gl (sts:=[]) (news:=[]) (sp:=[.val 5 _,.val 6 _,.val 7 _,.val 8 _,.val 9 _,.val 10 _,.val 11 _]) [.g 0,.g 1,.o 6] hst (zv rfl (za2 (gq 1 rfl)) (zv rfl (za2 (gq 0 rfl)) (zv rfl (zbu (vq 1 rfl)) (zv rfl (zau (vq 2 rfl) zjt (Sub.part 15 rfl rfl)) (zv rfl (zae (vq 3 rfl) ty_56) (zv rfl (zc7 Tryz.underlying56 (has_wk' (vq 4 rfl) zbk)) (zv rfl (zba (vq 0 rfl) (vq 5 rfl)) o0))))))) (fun a w hst=>?_)
 have hst:St B w0 35 [(0,_),(2,_),(11,_)] [] a w:=hst
 refine za0 ?_
 refine za8 hst (zm 2 rfl) (fun hb0=>?_) (fun hb0=>?_)
 ·exact absurd hb0 zd
 ·refine wp_exit ?_
  refine za6 ?_
  refine za6 ?_
  refine zaj ?_
  refine zbm ?_
  exact zaq (rs:=[]) rfl hst .nil zd
theorem zwa (vr:Value)(M:List Slot):Cn Tryz.prog 137 [ElP 59 (BkA vr M)] (Tu []):=by
 refine Cn.intro Tryz.func137 rfl zk nq (fun B w0 a hst=>?_)
 have hst:St B w0 42 [(0,ElP 59 (BkA vr M))] [] a w0.w:=hst
 refine wp_seq ?_
 refine gl (sts:=[]) (news:=[]) (sp:=[.val 2 _]) [.g 0,.o 0] hst (zv rfl (za1 za3) o0) (fun a w hst=>?_)
 have hst:St B w0 42 [(0,_),(2,_)] [] a w:=hst
 refine za0 ?_
 refine wp_block ?_
 have hst:=St.sel hst [0,1]
 refine wp_loop_ghost (fun n a w =>  St B w0 42 [(0,ElP 59 (BkA vr M)),(2,In 0)] [] a w) (0) ?_ ?_
 ·exact hst
 intro n a w hI
 have hst:=hI
 refine wp_seq ?_
 refine wp_seq ?_
 refine gl (sts:=[]) (news:=[]) (sp:=[.val 6 _,.val 7 _,.val 8 _,.val 9 _,.val 10 _,.val 11 _,.val 12 _]) [.g 0,.g 1,.o 6] hst (zv rfl (za2 (gq 1 rfl)) (zv rfl (za2 (gq 0 rfl)) (zv rfl (zbu (vq 1 rfl)) (zv rfl (zau (vq 2 rfl) zjt (Sub.part 15 rfl rfl)) (zv rfl (zae (vq 3 rfl) ty_56) (zv rfl (zc7 Tryz.underlying56 (has_wk' (vq 4 rfl) zbk)) (zv rfl (zba (vq 0 rfl) (vq 5 rfl)) o0))))))) (fun a w hst=>?_)
 have hst:St B w0 42 [(0,_),(2,_),(12,_)] [] a w:=hst
 refine za0 ?_
 refine za8 hst (zm 2 rfl) (fun hb0=>?_) (fun hb0=>?_)
 ·exact absurd hb0 zd
 ·refine wp_exit ?_
  refine za6 ?_
  refine za6 ?_
  refine zaj ?_
  refine zbm ?_
  exact zaq (rs:=[]) rfl hst .nil zd
theorem zvz (vr:Value)(M:List Slot):Cn Tryz.prog 153 [ElP 59 (BkA vr M)] (Bo true):=by
 refine Cn.intro Tryz.func153 rfl zk nq (fun B w0 a hst=>?_)
 have hst:St B w0 64 [(0,ElP 59 (BkA vr M))] [] a w0.w:=hst
 refine wp_seq ?_
 refine gl (sts:=[]) (news:=[]) (sp:=[.val 2 _]) [.g 0,.o 0] hst (zv rfl (za1 zb7) o0) (fun a w hst=>?_)
 have hst:St B w0 64 [(0,_),(2,_)] [] a w:=hst
 refine zt ?_
 refine wp_seq ?_
 refine gl (sts:=[]) (news:=[]) (sp:=[.val 3 _]) [.g 0,.g 1,.o 0] hst (zv rfl (za1 za3) o0) (fun a w hst=>?_)
 have hst:St B w0 64 [(0,_),(2,_),(3,_)] [] a w:=hst
 refine za0 ?_
 refine wp_block ?_
 have hst:=St.sel hst [0,2]
 refine wp_loop_ghost (fun n a w =>  St B w0 64 [(0,ElP 59 (BkA vr M)),(3,In 0)] [] a w) (0) ?_ ?_
 ·exact hst
 intro n a w hI
 have hst:=hI
 refine wp_seq ?_
 refine wp_seq ?_
 refine gl (sts:=[]) (news:=[]) (sp:=[.val 6 _,.val 7 _,.val 8 _,.val 9 _,.val 10 _,.val 11 _,.val 12 _]) [.g 0,.g 1,.o 6] hst (zv rfl (za2 (gq 1 rfl)) (zv rfl (za2 (gq 0 rfl)) (zv rfl (zbu (vq 1 rfl)) (zv rfl (zau (vq 2 rfl) zjt (Sub.part 15 rfl rfl)) (zv rfl (zae (vq 3 rfl) ty_56) (zv rfl (zc7 Tryz.underlying56 (has_wk' (vq 4 rfl) zbk)) (zv rfl (zba (vq 0 rfl) (vq 5 rfl)) o0))))))) (fun a w hst=>?_)
 have hst:St B w0 64 [(0,_),(3,_),(12,_)] [] a w:=hst
 refine za0 ?_
 refine za8 hst (zm 2 rfl) (fun hb0=>?_) (fun hb0=>?_)
 ·exact absurd hb0 zd
 ·refine wp_exit ?_
  refine za6 ?_
  refine za6 ?_
  refine zaj ?_
  refine zt<|gl (sts:=[]) (news:=[]) (sp:=[.val 2 _]) [.g 0,.o 0] hst (zv rfl (za1 zb7) o0) (fun a w hst=>?_)
  have hst:St B w0 64 [(0,_),(2,_)] [] a w:=hst
  refine za0 ?_
  refine wp_ret ?_
  exact zai rfl hst (zm 1 rfl)
theorem zp7 (vr:Value)(M:List Slot):Cn Tryz.prog 122 [ElP 59 (BkA vr M)] (Tu []):=by
 refine Cn.intro Tryz.func122 rfl zk nq (fun B w0 a hst=>?_)
 have hst:St B w0 35 [(0,ElP 59 (BkA vr M))] [] a w0.w:=hst
 refine wp_seq ?_
 refine gl (sts:=[]) (news:=[]) (sp:=[.val 2 _]) [.g 0,.o 0] hst (zv rfl (za1 za3) o0) (fun a w hst=>?_)
 have hst:St B w0 35 [(0,_),(2,_)] [] a w:=hst
 refine za0 ?_
 refine wp_block ?_
 have hst:=St.sel hst [0,1]
 refine wp_loop_ghost (fun n a w =>  St B w0 35 [(0,ElP 59 (BkA vr M)),(2,In 0)] [] a w) (0) ?_ ?_
 ·exact hst
 intro n a w hI
 have hst:=hI
 refine wp_seq ?_
 refine wp_seq ?_
 refine gl (sts:=[]) (news:=[]) (sp:=[.val 5 _,.val 6 _,.val 7 _,.val 8 _,.val 9 _,.val 10 _,.val 11 _]) [.g 0,.g 1,.o 6] hst (zv rfl (za2 (gq 1 rfl)) (zv rfl (za2 (gq 0 rfl)) (zv rfl (zbu (vq 1 rfl)) (zv rfl (zau (vq 2 rfl) zjs (Sub.part 16 rfl rfl)) (zv rfl (zae (vq 3 rfl) ty_57) (zv rfl (zc7 Tryz.underlying57 (has_wk' (vq 4 rfl) zbk)) (zv rfl (zba (vq 0 rfl) (vq 5 rfl)) o0))))))) (fun a w hst=>?_)
 have hst:St B w0 35 [(0,_),(2,_),(11,_)] [] a w:=hst
 refine za0 ?_
 refine za8 hst (zm 2 rfl) (fun hb0=>?_) (fun hb0=>?_)
 ·exact absurd hb0 zd
 ·refine wp_exit ?_
  refine za6 ?_
  refine za6 ?_
  refine zaj ?_
  refine zbm ?_
  exact zaq (rs:=[]) rfl hst .nil zd
theorem zp2 (vr:Value)(M:List Slot):Cn Tryz.prog 138 [ElP 59 (BkA vr M)] (Tu []):=by
 refine Cn.intro Tryz.func138 rfl zk nq (fun B w0 a hst=>?_)
 have hst:St B w0 42 [(0,ElP 59 (BkA vr M))] [] a w0.w:=hst
 refine wp_seq ?_
 refine gl (sts:=[]) (news:=[]) (sp:=[.val 2 _]) [.g 0,.o 0] hst (zv rfl (za1 za3) o0) (fun a w hst=>?_)
 have hst:St B w0 42 [(0,_),(2,_)] [] a w:=hst
 refine za0 ?_
 refine wp_block ?_
 have hst:=St.sel hst [0,1]
 refine wp_loop_ghost (fun n a w =>  St B w0 42 [(0,ElP 59 (BkA vr M)),(2,In 0)] [] a w) (0) ?_ ?_
 ·exact hst
 intro n a w hI
 have hst:=hI
 refine wp_seq ?_
 refine wp_seq ?_
 refine gl (sts:=[]) (news:=[]) (sp:=[.val 6 _,.val 7 _,.val 8 _,.val 9 _,.val 10 _,.val 11 _,.val 12 _]) [.g 0,.g 1,.o 6] hst (zv rfl (za2 (gq 1 rfl)) (zv rfl (za2 (gq 0 rfl)) (zv rfl (zbu (vq 1 rfl)) (zv rfl (zau (vq 2 rfl) zjs (Sub.part 16 rfl rfl)) (zv rfl (zae (vq 3 rfl) ty_57) (zv rfl (zc7 Tryz.underlying57 (has_wk' (vq 4 rfl) zbk)) (zv rfl (zba (vq 0 rfl) (vq 5 rfl)) o0))))))) (fun a w hst=>?_)
 have hst:St B w0 42 [(0,_),(2,_),(12,_)] [] a w:=hst
 refine za0 ?_
 refine za8 hst (zm 2 rfl) (fun hb0=>?_) (fun hb0=>?_)
 ·exact absurd hb0 zd
 ·refine wp_exit ?_
  refine za6 ?_
  refine za6 ?_
  refine zaj ?_
  refine zbm ?_
  exact zaq (rs:=[]) rfl hst .nil zd
theorem zow (vr:Value)(M:List Slot):Cn Tryz.prog 154 [ElP 59 (BkA vr M)] (Bo true):=by
 refine Cn.intro Tryz.func154 rfl zk nq (fun B w0 a hst=>?_)
 have hst:St B w0 64 [(0,ElP 59 (BkA vr M))] [] a w0.w:=hst
 refine wp_seq ?_
 refine gl (sts:=[]) (news:=[]) (sp:=[.val 2 _]) [.g 0,.o 0] hst (zv rfl (za1 zb7) o0) (fun a w hst=>?_)
 have hst:St B w0 64 [(0,_),(2,_)] [] a w:=hst
 refine zt ?_
 refine wp_seq ?_
 refine gl (sts:=[]) (news:=[]) (sp:=[.val 3 _]) [.g 0,.g 1,.o 0] hst (zv rfl (za1 za3) o0) (fun a w hst=>?_)
 have hst:St B w0 64 [(0,_),(2,_),(3,_)] [] a w:=hst
 refine za0 ?_
 refine wp_block ?_
 have hst:=St.sel hst [0,2]
 refine wp_loop_ghost (fun n a w =>  St B w0 64 [(0,ElP 59 (BkA vr M)),(3,In 0)] [] a w) (0) ?_ ?_
 ·exact hst
 intro n a w hI
 have hst:=hI
 refine wp_seq ?_
 refine wp_seq ?_
 refine gl (sts:=[]) (news:=[]) (sp:=[.val 6 _,.val 7 _,.val 8 _,.val 9 _,.val 10 _,.val 11 _,.val 12 _]) [.g 0,.g 1,.o 6] hst (zv rfl (za2 (gq 1 rfl)) (zv rfl (za2 (gq 0 rfl)) (zv rfl (zbu (vq 1 rfl)) (zv rfl (zau (vq 2 rfl) zjs (Sub.part 16 rfl rfl)) (zv rfl (zae (vq 3 rfl) ty_57) (zv rfl (zc7 Tryz.underlying57 (has_wk' (vq 4 rfl) zbk)) (zv rfl (zba (vq 0 rfl) (vq 5 rfl)) o0))))))) (fun a w hst=>?_)
 have hst:St B w0 64 [(0,_),(3,_),(12,_)] [] a w:=hst
 refine za0 ?_
 refine za8 hst (zm 2 rfl) (fun hb0=>?_) (fun hb0=>?_)
 ·exact absurd hb0 zd
 ·refine wp_exit ?_
  refine za6 ?_
  refine za6 ?_
  refine zaj ?_
  refine zt<|gl (sts:=[]) (news:=[]) (sp:=[.val 2 _]) [.g 0,.o 0] hst (zv rfl (za1 zb7) o0) (fun a w hst=>?_)
  have hst:St B w0 64 [(0,_),(2,_)] [] a w:=hst
  refine za0 ?_
  refine wp_ret ?_
  exact zai rfl hst (zm 1 rfl)
end Go.Proofs.YthncfchnkjemiaaGreatDoor
