import Derived.Test.YthncfchnkjemiaaGreatDoorRgAa
import Derived.Test.YthncfchnkjemiaaGreatDoorRgAc
import Derived.Test.YthncfchnkjemiaaGreatDoorRgAh
set_option linter.unusedVariables false
set_option linter.unusedSimpArgs false
set_option linter.unusedSectionVars false
set_option maxRecDepth 100000
namespace Go.Proofs.YthncfchnkjemiaaGreatDoor
open Go Go.RowKit
def tab8:ByteArray:=⟨(([0,1,2,2,3,3,3,3,4,4,4,4,4,4,4,4,5,5,5,5,5,5,5,5,5,5,5,5,5,5,5,5,6,6,6,6,6,6,6,6,6,6,6,6,6,6,6,6,6,6,6,6,6,6,6,6,6,6,6,6,6,6,6,6,7,7,7,7,7,7,7,7,7,7,7,7,7,7,7,7,7,7,7,7,7,7,7,7,7,7,7,7,7,7,7,7,7,7,7,7,7,7,7,7,7,7,7,7,7,7,7,7,7,7,7,7,7,7,7,7,7,7,7,7,7,7,7,7]:List UInt8)++[8,8,8,8,8,8,8,8,8,8,8,8,8,8,8,8,8,8,8,8,8,8,8,8,8,8,8,8,8,8,8,8,8,8,8,8,8,8,8,8,8,8,8,8,8,8,8,8,8,8,8,8,8,8,8,8,8,8,8,8,8,8,8,8,8,8,8,8,8,8,8,8,8,8,8,8,8,8,8,8,8,8,8,8,8,8,8,8,8,8,8,8,8,8,8,8,8,8,8,8,8,8,8,8,8,8,8,8,8,8,8,8,8,8,8,8,8,8,8,8,8,8,8,8,8,8,8,8]).toArray⟩
theorem tab8_all:(List.range 256).all (fun n=>tab8[n]? == some (UInt8.ofNat (bl n)))=true:=by kernel_rfl
theorem zku {n:Nat} (h:n<256):tab8[n]?=some (UInt8.ofNat (bl n)):=by
 have:=List.all_eq_true.1 tab8_all n (by simpa using h)
 simpa using this
theorem ze9 {n:Nat} (h:n<256):(UInt8.ofNat (bl n)).toNat=bl n:=by
 have:=zfk (k:=8) h
 simp
 omega
theorem wu8 {x:Nat} (h:x<256):IntKind.u8.wrap (x:Int)=(x:Int):=by simp [IntKind.wrap,IntKind.bits,IntKind.signed]; omega
theorem len32_c (x:Nat) (hx:x<4294967296):Cn Tryz.prog 384 [(NumA .u32 (x:Nat)).va] (In (bl x:Nat)):=by
 refine Cn.intro Tryz.func384 rfl zk nq (fun B w0 a hst=>?_)
 have hst:St B w0 19 [(0,(NumA .u32 (x:Nat)).va)] [] a w0.w:=hst
 refine wp_seq ?_
 refine gl (sts:=[]) (news:=[]) (sp:=[.val 2 _]) [.g 0,.o 0] hst (zv rfl rfl (za1 za3) o0) (fun a w hst=>?_)
 have hst:St B w0 19 [(0,_),(2,_)] [] a w:=hst
 refine zt ?_
 refine wp_seq ?_
 refine gl (sts:=[]) (news:=[]) (sp:=[.val 3 _,.val 4 _]) [.g 0,.g 1,.o 1] hst (zv rfl rfl (za2 (gq 0 rfl)) (zv rfl rfl (zgz (vq 0 rfl) (zav 65536 rfl)) o0)) (fun a w hst=>?_)
 have hst:St B w0 19 [(0,_),(2,_),(4,_)] [] a w:=hst
 refine za0 ?_
 refine za8 hst (zm 2 rfl) (fun hb0=>?_) (fun hb0=>?_)
 ·have h1:65536≤x:=by simp at hb0; omega
  have e1:=bl_div x 16 h1
  refine wp_seq ?_
  refine gl (sts:=[]) (news:=[]) (sp:=[.val 5 _,.val 6 _,.val 0 _]) [.g 1,.o 2] hst (zv rfl rfl (za2 (gq 0 rfl)) (zv rfl rfl (zie (vq 0 rfl) (zav 16 rfl) zd (nshr)) (zv rfl rfl (za1 (vq 1 rfl)) o0))) (fun a w hst=>?_)
  have hst:St B w0 19 [(2,_),(0,_)] [] a w:=hst
  refine za0 ?_
  refine gl (sts:=[]) (news:=[]) (sp:=[.val 2 _]) [.g 1,.o 0] hst (zv rfl rfl (za1 za3) o0) (fun a w hst=>?_)
  have hst:St B w0 19 [(0,_),(2,_)] [] a w:=hst
  refine zt ?_
  refine wp_seq ?_
  refine gl (sts:=[]) (news:=[]) (sp:=[.val 7 _,.val 8 _]) [.g 0,.g 1,.o 1] hst (zv rfl rfl (za2 (gq 0 rfl)) (zv rfl rfl (zgz (vq 0 rfl) (zav 256 rfl)) o0)) (fun a w hst=>?_)
  have hst:St B w0 19 [(0,_),(2,_),(8,_)] [] a w:=hst
  refine za0 ?_
  refine za8 hst (zm 2 rfl) (fun hb1=>?_) (fun hb1=>?_)
  ·have h2:256≤x / 2 ^ 16:=by simp at hb1; omega
   have e2:=bl_div (x / 2 ^ 16) 8 h2
   refine wp_seq ?_
   refine gl (sts:=[]) (news:=[]) (sp:=[.val 9 _,.val 10 _,.val 0 _]) [.g 1,.o 2] hst (zv rfl rfl (za2 (gq 0 rfl)) (zv rfl rfl (zie (vq 0 rfl) (zav 8 rfl) zd (nshr)) (zv rfl rfl (za1 (vq 1 rfl)) o0))) (fun a w hst=>?_)
   have hst:St B w0 19 [(2,_),(0,_)] [] a w:=hst
   refine za0 ?_
   refine gl (sts:=[]) (news:=[]) (sp:=[.val 11 _,.val 12 _,.val 2 _]) [.g 1,.o 2] hst (zv rfl rfl (za2 (gq 0 rfl)) (zv rfl rfl (zbg (vq 0 rfl) za3 (wi64 zo zo)) (zv rfl rfl (za1 (vq 1 rfl)) o0))) (fun a w hst=>?_)
   have hst:St B w0 19 [(0,_),(2,_)] [] a w:=hst
   refine zt ?_
   refine gl (sts:=[]) (news:=[]) (sp:=[.val 13 _,.val 14 _,.val 15 _,.val 16 _,.val 17 _,.val 18 _,.val 2 _]) [.o 6] hst (zv rfl rfl (za2 (gq 1 rfl)) (zv rfl rfl (za2 (gq 0 rfl)) (zv rfl rfl (zay .u8 zk zk (vq 1 rfl) (wu8 zo)) (zv rfl rfl (zl3 zk zba (vq 2 rfl) (zku zo)) (zv rfl rfl (zay .i64 zk zk (vq 3 rfl) (wi64 zo (by rw [ze9 zo]; have:=zfk (k:=8) (n:=x / 2 ^ 16 / 2 ^ 8) zo; omega))) (zv rfl rfl (zbg (vq 0 rfl) (vq 4 rfl) (wi64 (by rw [ze9 zo]; omega) (by rw [ze9 zo]; have:=zfk (k:=8) (n:=x / 2 ^ 16 / 2 ^ 8) zo; omega))) (zv rfl rfl (za1 (vq 5 rfl)) o0))))))) (fun a w hst=>?_)
   have hst:St B w0 19 [(2,_)] [] a w:=hst
   refine za0 ?_
   refine wp_ret ?_
   refine zao ?_ (zae rfl hst (zm 0 rfl))
   rw [e1,e2,ze9 zo]; congr 2; omega
  ·have h2:x / 2 ^ 16<256:=by simp at hb1; omega
   refine wp_skip ?_
   refine zt ?_
   refine gl (sts:=[]) (news:=[]) (sp:=[.val 13 _,.val 14 _,.val 15 _,.val 16 _,.val 17 _,.val 18 _,.val 2 _]) [.o 6] hst (zv rfl rfl (za2 (gq 1 rfl)) (zv rfl rfl (za2 (gq 0 rfl)) (zv rfl rfl (zay .u8 zk zk (vq 1 rfl) (wu8 h2)) (zv rfl rfl (zl3 zk zba (vq 2 rfl) (zku h2)) (zv rfl rfl (zay .i64 zk zk (vq 3 rfl) (wi64 zo (by rw [ze9 h2]; have:=zfk (k:=8) h2; omega))) (zv rfl rfl (zbg (vq 0 rfl) (vq 4 rfl) (wi64 (by rw [ze9 h2]; omega) (by rw [ze9 h2]; have:=zfk (k:=8) h2; omega))) (zv rfl rfl (za1 (vq 5 rfl)) o0))))))) (fun a w hst=>?_)
   have hst:St B w0 19 [(2,_)] [] a w:=hst
   refine za0 ?_
   refine wp_ret ?_
   refine zao ?_ (zae rfl hst (zm 0 rfl))
   rw [e1,ze9 h2]; congr 2; omega
 ·have h1:x<65536:=by simp at hb0; omega
  refine wp_skip ?_
  refine zt ?_
  refine wp_seq ?_
  refine gl (sts:=[]) (news:=[]) (sp:=[.val 7 _,.val 8 _]) [.g 0,.g 1,.o 1] hst (zv rfl rfl (za2 (gq 0 rfl)) (zv rfl rfl (zgz (vq 0 rfl) (zav 256 rfl)) o0)) (fun a w hst=>?_)
  have hst:St B w0 19 [(0,_),(2,_),(8,_)] [] a w:=hst
  refine za0 ?_
  refine za8 hst (zm 2 rfl) (fun hb2=>?_) (fun hb2=>?_)
  ·have h2:256≤x:=by simp at hb2; omega
   have e2:=bl_div x 8 h2
   refine wp_seq ?_
   refine gl (sts:=[]) (news:=[]) (sp:=[.val 9 _,.val 10 _,.val 0 _]) [.g 1,.o 2] hst (zv rfl rfl (za2 (gq 0 rfl)) (zv rfl rfl (zie (vq 0 rfl) (zav 8 rfl) zd (nshr)) (zv rfl rfl (za1 (vq 1 rfl)) o0))) (fun a w hst=>?_)
   have hst:St B w0 19 [(2,_),(0,_)] [] a w:=hst
   refine za0 ?_
   refine gl (sts:=[]) (news:=[]) (sp:=[.val 11 _,.val 12 _,.val 2 _]) [.g 1,.o 2] hst (zv rfl rfl (za2 (gq 0 rfl)) (zv rfl rfl (zbg (vq 0 rfl) za3 (wi64 zo zo)) (zv rfl rfl (za1 (vq 1 rfl)) o0))) (fun a w hst=>?_)
   have hst:St B w0 19 [(0,_),(2,_)] [] a w:=hst
   refine zt ?_
   refine gl (sts:=[]) (news:=[]) (sp:=[.val 13 _,.val 14 _,.val 15 _,.val 16 _,.val 17 _,.val 18 _,.val 2 _]) [.o 6] hst (zv rfl rfl (za2 (gq 1 rfl)) (zv rfl rfl (za2 (gq 0 rfl)) (zv rfl rfl (zay .u8 zk zk (vq 1 rfl) (wu8 zo)) (zv rfl rfl (zl3 zk zba (vq 2 rfl) (zku zo)) (zv rfl rfl (zay .i64 zk zk (vq 3 rfl) (wi64 zo (by rw [ze9 zo]; have:=zfk (k:=8) (n:=x / 2 ^ 8) zo; omega))) (zv rfl rfl (zbg (vq 0 rfl) (vq 4 rfl) (wi64 (by rw [ze9 zo]; omega) (by rw [ze9 zo]; have:=zfk (k:=8) (n:=x / 2 ^ 8) zo; omega))) (zv rfl rfl (za1 (vq 5 rfl)) o0))))))) (fun a w hst=>?_)
   have hst:St B w0 19 [(2,_)] [] a w:=hst
   refine za0 ?_
   refine wp_ret ?_
   refine zao ?_ (zae rfl hst (zm 0 rfl))
   rw [e2,ze9 zo]; congr 2; omega
  ·have h2:x<256:=by simp at hb2; omega
   refine wp_skip ?_
   refine zt ?_
   refine gl (sts:=[]) (news:=[]) (sp:=[.val 13 _,.val 14 _,.val 15 _,.val 16 _,.val 17 _,.val 18 _,.val 2 _]) [.o 6] hst (zv rfl rfl (za2 (gq 1 rfl)) (zv rfl rfl (za2 (gq 0 rfl)) (zv rfl rfl (zay .u8 zk zk (vq 1 rfl) (wu8 h2)) (zv rfl rfl (zl3 zk zba (vq 2 rfl) (zku h2)) (zv rfl rfl (zay .i64 zk zk (vq 3 rfl) (wi64 zo (by rw [ze9 h2]; have:=zfk (k:=8) h2; omega))) (zv rfl rfl (zbg (vq 0 rfl) (vq 4 rfl) (wi64 (by rw [ze9 h2]; omega) (by rw [ze9 h2]; have:=zfk (k:=8) h2; omega))) (zv rfl rfl (za1 (vq 5 rfl)) o0))))))) (fun a w hst=>?_)
   have hst:St B w0 19 [(2,_)] [] a w:=hst
   refine za0 ?_
   refine wp_ret ?_
   refine zao ?_ (zae rfl hst (zm 0 rfl))
   rw [ze9 h2]; congr 2; omega
theorem lz32_c (x:Nat) (hx:x<4294967296):Cn Tryz.prog 374 [(NumA .u32 (x:Nat)).va] (In (32 - bl x:Nat)):=by
 refine Cn.intro Tryz.func374 rfl zk nq (fun B w0 a hst=>?_)
 have hst:St B w0 6 [(0,(NumA .u32 (x:Nat)).va)] [] a w0.w:=hst
 have hb:=zfk (k:=32) hx
 refine wp_seq ?_
 refine gl (sts:=[]) (news:=[]) (sp:=[.val 2 _]) [.g 0,.o 0] hst (zv rfl rfl (za1 za3) o0) (fun a w hst=>?_)
 have hst:St B w0 6 [(0,_),(2,_)] [] a w:=hst
 refine zt ?_
 refine gl (sts:=[]) (news:=[]) (sp:=[.val 3 _,.val 4 _,.val 5 _,.val 2 _]) [.o 3] hst (zv rfl rfl (za2 (gq 0 rfl)) (zv rfl rfl (za5 (xs:=[.tmp 3]) (len32_c x hx) (.cons (vq 0 rfl) .nil)) (zv rfl rfl (zcz za3 (vq 1 rfl) ((wi64 zo zo).trans (show (32:Int) - (bl x:Nat)=((32 - bl x:Nat):Int) by omega))) (zv rfl rfl (za1 (vq 2 rfl)) o0)))) (fun a w hst=>?_)
 have hst:St B w0 6 [(2,_)] [] a w:=hst
 refine za0 ?_
 refine wp_ret ?_
 exact zae rfl hst (zm 0 rfl)
end Go.Proofs.YthncfchnkjemiaaGreatDoor
