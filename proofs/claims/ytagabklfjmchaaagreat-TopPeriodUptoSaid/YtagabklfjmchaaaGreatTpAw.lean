import Derived.Test.YtagabklfjmchaaaGreatTpAa
import Derived.Test.YtagabklfjmchaaaGreatTpAc
import Derived.Test.YtagabklfjmchaaaGreatTpAm
import Derived.Test.YtagabklfjmchaaaGreatTpAq
import Derived.Test.YtagabklfjmchaaaGreatTpAv
import Derived.Laws.AppendOwn
import Derived.Laws.OwnMore
import Derived.Orders
import Derived.ProofKit
import Derived.OpenShut
import Derived.ChangeOld
import Derived.Below
import Derived.Deep.Slices
set_option linter.unusedVariables false
set_option linter.unusedSimpArgs false
set_option linter.unusedSectionVars false
set_option maxRecDepth 100000
namespace Go.Proofs.YtagabklfjmchaaaGreat
open Go Go.RowKit
theorem one_n9 {A0:As}:∀ A∈[A0],A.n=A0.n:=fun A hA=>by obtain rfl:=List.mem_singleton.1 hA; rfl
theorem str_row:Str Tryz.prog 77 [RFA rf0,RFA rf0,RFA rf0] :=
 Str.of (z:=.agg #[.bool false,.slice none 0 0,.bool false,.slice none 0 0,.bool false,.slice none 0 0,.bool false,.slice none 0 0,.bool false,.slice none 0 0,.bool false,.slice none 0 0]) zk Tryz.underlying77 zk fun B w=>⟨[[.bool false,.slice none 0 0,.bool false,.slice none 0 0],[.bool false,.slice none 0 0,.bool false,.slice none 0 0],[.bool false,.slice none 0 0,.bool false,.slice none 0 0]],rfl,.cons (zew B w) (.cons (zew B w) (.cons (zew B w) .nil))⟩
theorem steps_c {t:Rat}{x:Nat}(ht:bQ 4097 t)(hx:x≤4096):CG Tryz.prog 39 40 1 77 (RwA t 0) (RwA t x) (In (x:Nat)):=by
 refine CG.intro Tryz.func39 rfl zk nq (fun B qq gg w0 a hrm hst=>?_)
 have hst:St B w0 19 [(0,In (x:Nat)),(1,EqV (.slice (some ⟨qq,0,none⟩) 1 1))] [⟨1,1,slH 1 1,ManA 77 40 gg (RwA t 0)⟩] a w0.w:=hst
 refine wp_seq ?_
 refine gl (sts:=[none]) (news:=[]) (sp:=[.val 6 _,.val 7 _]) [.g 1,.o 0,.o 1] hst (zv rfl (za2 (gq 0 rfl)) (zv rfl (za2 za3) o0)) (fun a w hst=>?_)
 have hst:St B w0 19 [(1,_),(6,_),(7,_)] [⟨1,1,slH 1 1,_⟩] a w:=hst
 refine za0 ?_
 refine wp_block ?_
 have hst:=St.sel hst [0,1,2]
 refine wp_loop_ghost (fun n a w=>∃ i:Nat,n+i=x∧St B w0 19 [(1,EqV (.slice (some ⟨qq,0,none⟩) 1 1)),(6,In (x:Nat)),(7,In (i:Nat))] [⟨1,1,slH 1 1,ManA 77 40 gg (RwA t i)⟩] a w) (x) ?_ ?_
 ·exact ⟨0,by omega,hst⟩
 intro n a w hI
 obtain ⟨i,hn,hst⟩:=hI
 refine wp_seq ?_
 refine gl (sts:=[none]) (news:=[]) (sp:=[.val 8 _]) [.g 0,.g 1,.g 2,.o 0] hst (zv rfl (zc2 (gq 2 rfl) (gq 1 rfl)) o0) (fun a w hst=>?_)
 have hst:St B w0 19 [(1,_),(6,_),(7,_),(8,_)] [⟨1,1,slH 1 1,_⟩] a w:=hst
 refine zt ?_
 refine zaa hst (zm 3 rfl) (fun hb0=>?_) (fun hb0=>?_)
 ·have hi:i<x:=by have:=of_decide_eq_true hb0; omega
  refine wp_skip ?_
  refine zt ?_
  refine wp_block ?_
  refine wp_seq ?_
  refine gl (sts:=[none]) (news:=[]) (sp:=[.val 9 _,.val 10 _,.val 11 _]) [.g 0,.g 1,.g 2,.o 0,.o 1,.o 2] hst (zv rfl (za2 (gq 0 rfl)) (zv rfl (zfb Tryz.underlying110 (has_wk' (has_fs (vq 0 rfl) (gq 0 rfl) (lz0 0 rfl)) fs_sl)) (zv rfl (za2 za3) o0))) (fun a w hst=>?_)
  have hst:St B w0 19 [(1,_),(6,_),(7,_),(9,_),(10,_),(11,_)] [⟨1,1,slH 1 1,_⟩] a w:=hst
  refine za0 ?_
  refine wp_block ?_
  have hst:=St.sel hst [0,1,2,3,4,5]
  refine wp_loop_ghost (fun n a w=>∃ j:Nat,n+j=1∧St B w0 19 [(1,EqV (.slice (some ⟨qq,0,none⟩) 1 1)),(6,In (x:Nat)),(7,In (i:Nat)),(9,EqV (.slice (some ⟨qq,0,none⟩) 1 1)),(10,In 1),(11,In (j:Nat))] [⟨1,1,slH 1 1,ManA 77 40 gg (RwA t (i+j))⟩] a w) (1) ?_ ?_
  ·exact ⟨0,by omega,hst⟩
  intro n a w hI
  obtain ⟨j,hn2,hst⟩:=hI
  refine wp_seq ?_
  refine gl (sts:=[none]) (news:=[]) (sp:=[.val 12 _]) [.g 0,.g 1,.g 2,.g 3,.g 4,.g 5,.o 0] hst (zv rfl (zc2 (gq 5 rfl) (gq 4 rfl)) o0) (fun a w hst=>?_)
  have hst:St B w0 19 [(1,_),(6,_),(7,_),(9,_),(10,_),(11,_),(12,_)] [⟨1,1,slH 1 1,_⟩] a w:=hst
  refine zt ?_
  refine zaa hst (zm 6 rfl) (fun hb1=>?_) (fun hb1=>?_)
  ·obtain rfl:j=0:=by have:=of_decide_eq_true hb1; omega
   refine wp_skip ?_
   refine zt ?_
   refine wp_block ?_
   refine wp_seq ?_
   refine gl (sts:=[none]) (news:=[]) (sp:=[.val 13 _,.val 14 _,.val 5 _]) [.g 0,.g 1,.g 2,.g 3,.g 4,.g 5,.o 2] hst (zv rfl (zde sl_110 one_n9 (has_wk' (has_fs (gq 3 rfl) (gq 0 rfl) (lz0 0 rfl)) fs_sl) (gq 5 rfl) rfl) (zv rfl (zas (vq 0 rfl) ty_1) (zv rfl (za1 (vq 1 rfl)) o0))) (fun a w hst=>?_)
   have hst:St B w0 19 [(1,_),(6,_),(7,_),(9,_),(10,_),(11,_),(5,_)] [⟨1,1,slH 1 1,_⟩] a w:=hst
   refine za0 ?_
   refine go_head (sp:=[.val 15 _,.skp]) 1 1 99 1 OneC [.g 0,.g 1,.g 2,.g 3,.g 4,.g 5,.o 0] hst (zv rfl (za2 (gq 6 rfl)) o0) rfl zd zk zk (fun a w hst=>?_)
   have hst:St B w0 19 [(1,_),(6,_),(7,_),(9,_),(10,_),(11,_),(15,_)] [⟨1,1,slH 1 1,_⟩] a w:=hst
   rw [show List.range' 1 1=[1] from rfl]
   rw [wpOps_cons]
   refine op_callOn [0,1,2,3,4,5] 6 0 rfl hst (on_c (k:=i+0) ht zo) rfl rfl rfl hrm zd zk zk zk zk (fun a w hst=>?_)
   refine zhj ?_
   have hst:St B w0 19 [(16,_),(1,_),(6,_),(7,_),(9,_),(10,_),(11,_)] [⟨1,1,slH 1 1,ManA 77 40 gg (RwA t (i+1))⟩] a w:=hst
   refine zan ?_
   refine za0 ?_
   refine gl (sts:=[none]) (news:=[]) (sp:=[.val 17 _,.val 11 _]) [.g 1,.g 2,.g 3,.g 4,.g 5,.o 1] hst (zv rfl (zb8 (gq 6 rfl) za3 ((wi64 zo zo).trans (by omega:(_:Int)=((1:Nat):Int)))) (zv rfl (za2 (vq 0 rfl)) o0)) (fun a w hst=>?_)
   have hst:St B w0 19 [(1,_),(6,_),(7,_),(9,_),(10,_),(11,_)] [⟨1,1,slH 1 1,_⟩] a w:=hst
   refine za0 ?_
   have hst:=St.sel hst [0,1,2,3,4,5]
   exact ⟨0,by omega,1,rfl,hst⟩
  ·obtain rfl:j=1:=by have:=of_decide_eq_false hb1; omega
   refine wp_exit ?_
   refine zae ?_
   refine zae ?_
   refine zaw ?_
   refine zan ?_
   refine za0 ?_
   refine gl (sts:=[none]) (news:=[]) (sp:=[.val 18 _,.val 7 _]) [.g 0,.g 1,.o 1] hst (zv rfl (zb8 (gq 2 rfl) za3 ((wi64 zo zo).trans (by omega:(_:Int)=((i+1:Nat):Int)))) (zv rfl (za2 (vq 0 rfl)) o0)) (fun a w hst=>?_)
   have hst:St B w0 19 [(1,_),(6,_),(7,_)] [⟨1,1,slH 1 1,_⟩] a w:=hst
   refine za0 ?_
   have hst:=St.sel hst [0,1,2]
   exact ⟨x-(i+1),by omega,i+1,by omega,hst⟩
 ·obtain rfl:i=x:=by have:=of_decide_eq_false hb0; omega
  refine wp_exit ?_
  refine zae ?_
  refine zae ?_
  refine zaw ?_
  refine ze7 ?_
  refine ret_g hst (zm 0 rfl) (zm 0 rfl) ?_
  exact zaq (rs:=[]) rfl hst .nil zd
theorem trace_bQ {m:RM}(h:okM m=true):bQ 4097 ((toM m).a+(toM m).d):=by
 have hx:=(zhv h).1
 simp only [List.all_cons,List.all_nil,Bool.and_true,Bool.and_eq_true] at hx
 have ha:=zkt hx.1
 have hd:=zkt hx.2.2.2
 have e:=rat_add (toM m).a (toM m).d
 rw [← e]
 obtain ⟨h1,h2⟩:=zdp (p:=(toM m).a.num*((toM m).d.den:Int)+(toM m).d.num*((toM m).a.den:Int)) (den_nz (toM m).a (toM m).d)
 have a1:=zl0 ((toM m).a.num*((toM m).d.den:Int)) ((toM m).d.num*((toM m).a.den:Int))
 have a2:=zcl (toM m).a.num ((toM m).d.den:Int)
 have a3:=zcl (toM m).d.num ((toM m).a.den:Int)
 have a4:=zcl ((toM m).a.den:Int) ((toM m).d.den:Int)
 obtain ⟨x1,x2⟩:=ha
 obtain ⟨y1,y2⟩:=hd
 have x1:lz (toM m).a.num≤2048:=x1
 have x2:lz ((toM m).a.den:Int)≤2048:=x2
 have y1:lz (toM m).d.num≤2048:=y1
 have y2:lz ((toM m).d.den:Int)≤2048:=y2
 exact ⟨by omega,by omega⟩
theorem pp_lo {m:RM}{x:Nat}(hm:okM m=true)(h:(if [(chP ((toM m).a+(toM m).d) x).2*(toM m).a-(chP ((toM m).a+(toM m).d) x).1,(chP ((toM m).a+(toM m).d) x).2*(toM m).b,(chP ((toM m).a+(toM m).d) x).2*(toM m).c,(chP ((toM m).a+(toM m).d) x).2*(toM m).d-(chP ((toM m).a+(toM m).d) x).1].any longQ then (4:Int) else 0)≠0):asM 0 (powQ (toM m) x)=(rm0,4)∧(if [(chP ((toM m).a+(toM m).d) x).2*(toM m).a-(chP ((toM m).a+(toM m).d) x).1,(chP ((toM m).a+(toM m).d) x).2*(toM m).b,(chP ((toM m).a+(toM m).d) x).2*(toM m).c,(chP ((toM m).a+(toM m).d) x).2*(toM m).d-(chP ((toM m).a+(toM m).d) x).1].any longQ then (4:Int) else 0)=4:=by
 have h1:[(chP ((toM m).a+(toM m).d) x).2*(toM m).a-(chP ((toM m).a+(toM m).d) x).1,(chP ((toM m).a+(toM m).d) x).2*(toM m).b,(chP ((toM m).a+(toM m).d) x).2*(toM m).c,(chP ((toM m).a+(toM m).d) x).2*(toM m).d-(chP ((toM m).a+(toM m).d) x).1].any longQ=true:=by
  cases h2:[(chP ((toM m).a+(toM m).d) x).2*(toM m).a-(chP ((toM m).a+(toM m).d) x).1,(chP ((toM m).a+(toM m).d) x).2*(toM m).b,(chP ((toM m).a+(toM m).d) x).2*(toM m).c,(chP ((toM m).a+(toM m).d) x).2*(toM m).d-(chP ((toM m).a+(toM m).d) x).1].any longQ with
  | true=>rfl
  | false=>rw [h2] at h; exact absurd rfl h
 rw [zfd (zhv hm).2,asM,if_pos rfl,if_pos h1,if_pos h1]
 exact ⟨rfl,rfl⟩
theorem pp_ok {m:RM}{x:Nat}(hm:okM m=true)(h:(if [(chP ((toM m).a+(toM m).d) x).2*(toM m).a-(chP ((toM m).a+(toM m).d) x).1,(chP ((toM m).a+(toM m).d) x).2*(toM m).b,(chP ((toM m).a+(toM m).d) x).2*(toM m).c,(chP ((toM m).a+(toM m).d) x).2*(toM m).d-(chP ((toM m).a+(toM m).d) x).1].any longQ then (4:Int) else 0)=0):asM 0 (powQ (toM m) x)=(rmOf ⟨(chP ((toM m).a+(toM m).d) x).2*(toM m).a-(chP ((toM m).a+(toM m).d) x).1,(chP ((toM m).a+(toM m).d) x).2*(toM m).b,(chP ((toM m).a+(toM m).d) x).2*(toM m).c,(chP ((toM m).a+(toM m).d) x).2*(toM m).d-(chP ((toM m).a+(toM m).d) x).1⟩,0):=by
 have h1:[(chP ((toM m).a+(toM m).d) x).2*(toM m).a-(chP ((toM m).a+(toM m).d) x).1,(chP ((toM m).a+(toM m).d) x).2*(toM m).b,(chP ((toM m).a+(toM m).d) x).2*(toM m).c,(chP ((toM m).a+(toM m).d) x).2*(toM m).d-(chP ((toM m).a+(toM m).d) x).1].any longQ=false:=by
  cases h2:[(chP ((toM m).a+(toM m).d) x).2*(toM m).a-(chP ((toM m).a+(toM m).d) x).1,(chP ((toM m).a+(toM m).d) x).2*(toM m).b,(chP ((toM m).a+(toM m).d) x).2*(toM m).c,(chP ((toM m).a+(toM m).d) x).2*(toM m).d-(chP ((toM m).a+(toM m).d) x).1].any longQ with
  | false=>rfl
  | true=>rw [h2] at h; exact absurd h zd
 rw [zfd (zhv hm).2,asM,if_pos rfl,if_neg (by rw [h1]; decide)]
theorem perCount_c {x:Nat}(hx:x≤4096):Cn Tryz.prog 35 [In (x:Nat)] (In 0):=by
 refine Cn.intro Tryz.func35 rfl zk nq (fun B w0 a hst=>?_)
 have hst:St B w0 9 [(0,In (x:Nat))] [] a w0.w:=hst
 refine wp_seq ?_
 refine gl (sts:=[]) (news:=[]) (sp:=[.val 2 _]) [.g 0,.o 0] hst (zv rfl (za1 za3) o0) (fun a w hst=>?_)
 have hst:St B w0 9 [(0,_),(2,_)] [] a w:=hst
 refine zt ?_
 refine wp_block ?_
 refine wp_seq ?_
 refine gl (sts:=[]) (news:=[]) (sp:=[.val 4 _,.val 5 _,.val 3 _]) [.g 0,.g 1,.o 2] hst (zv rfl (za2 (gq 0 rfl)) (zv rfl (zc2 (vq 0 rfl) za3) (zv rfl (za1 (vq 1 rfl)) o0))) (fun a w hst=>?_)
 have hst:St B w0 9 [(0,_),(2,_),(3,_)] [] a w:=hst
 refine za0 ?_
 refine zaa hst (zm 2 rfl) (fun hb0=>?_) (fun hb0=>?_)
 ·have:=of_decide_eq_true hb0; omega
 ·refine wp_seq ?_
  refine gl (sts:=[]) (news:=[]) (sp:=[.val 7 _,.val 8 _,.val 6 _]) [.g 1,.o 2] hst (zv rfl (za2 (gq 0 rfl)) (zv rfl (zex (vq 0 rfl) za3) (zv rfl (za1 (vq 1 rfl)) o0))) (fun a w hst=>?_)
  have hst:St B w0 9 [(2,_),(6,_)] [] a w:=hst
  refine za0 ?_
  refine zaa hst (zm 1 rfl) (fun hb1=>?_) (fun hb1=>?_)
  ·have:=of_decide_eq_true hb1; omega
  ·refine wp_skip ?_
   refine zan ?_
   refine zt<|gl (sts:=[]) (news:=[]) (sp:=[.val 2 _]) [.o 0] hst (zv rfl (za1 za3) o0) (fun a w hst=>?_)
   have hst:St B w0 9 [(2,_)] [] a w:=hst
   refine za0 ?_
   refine wp_ret ?_
   refine zag ?_ (zaj rfl hst (zm 0 rfl))
   exact zb2
set_option maxHeartbeats 2000000 in
theorem perPower_c (m:RM){x:Nat}(hm:okM m=true)(hx:x≤4096):Cn Tryz.prog 15 [(RMA m).va,In (x:Nat)] (MR (asM 0 (powQ (toM m) x))):=by
 have ht:=trace_bQ hm
 refine Cn.intro Tryz.func15 rfl zk nq (fun B w0 a hst=>?_)
 have hst:St B w0 92 [(0,(RMA m).va),(1,In (x:Nat))] [] a w0.w:=hst
 refine wp_seq ?_
 refine gl (sts:=[]) (news:=[⟨2,38,ptrH,some 0,_,none⟩,⟨4,38,ptrH,some 1,_,none⟩]) (sp:=[.alc 0,.alc 1,.val 5 _]) [.g 1,.o 2] hst (oc (zam rfl rfl rfl (gq 0 rfl)) (oc (zao rfl rfl rfl (Str.zero zai)) (zv rfl (za1 za3) o0))) (fun a w hst=>?_)
 have hst:St B w0 92 [(1,_),(5,_)] [⟨2,38,ptrH,_⟩,⟨4,38,ptrH,_⟩] a w:=hst
 refine zt ?_
 refine wp_seq ?_
 refine gl (sts:=[none,none]) (news:=[]) (sp:=[.val 12 _,.val 13 _,.val 14 _]) [.g 0,.g 1,.o 2] hst (zv rfl (zab (lz0 0 rfl) zat) (zv rfl (za5 (xs:=[.tmp 12]) (zha m) (.cons (vq 0 rfl) .nil)) (zv rfl (zco (vq 1 rfl) za3) o0))) (fun a w hst=>?_)
 have hst:St B w0 92 [(1,_),(5,_),(14,_)] [⟨2,38,ptrH,_⟩,⟨4,38,ptrH,_⟩] a w:=hst
 refine za0 ?_
 refine zaa hst (zm 2 rfl) (fun hb0=>?_) (fun hb0=>?_)
 ·rw [if_pos hm] at hb0; exact absurd hb0 zd
 ·have hst:=St.wkL hst 0 rfl (qm_x (zhv hm).1)
  refine wp_skip ?_
  refine zt ?_
  refine wp_seq ?_
  refine gl (sts:=[none,none]) (news:=[]) (sp:=[.val 16 _,.val 17 _,.val 6 _]) [.g 0,.g 1,.o 2] hst (zv rfl (za2 (gq 0 rfl)) (zv rfl (za5 (xs:=[.tmp 16]) (perCount_c hx) (.cons (vq 0 rfl) .nil)) (zv rfl (za1 (vq 1 rfl)) o0))) (fun a w hst=>?_)
  have hst:St B w0 92 [(1,_),(5,_),(6,_)] [⟨2,38,ptrH,_⟩,⟨4,38,ptrH,_⟩] a w:=hst
  refine zt<|gl (sts:=[none,none]) (news:=[]) (sp:=[.val 18 _,.val 19 _]) [.g 0,.g 1,.g 2,.o 1] hst (zv rfl (za2 (gq 2 rfl)) (zv rfl (zco (vq 0 rfl) za3) o0)) (fun a w hst=>?_)
  have hst:St B w0 92 [(1,_),(5,_),(6,_),(19,_)] [⟨2,38,ptrH,_⟩,⟨4,38,ptrH,_⟩] a w:=hst
  refine za0 ?_
  refine zaa hst (zm 3 rfl) (fun hb1=>?_) (fun hb1=>?_)
  ·exact absurd hb1 zd
  ·refine wp_skip ?_
   refine zt<|go_headD (sp:=[.val 22 _,.val 23 _,.adr 24 2 (.some 0) True,.val 25 _,.adr 26 2 (.some 12) True,.val 27 _,.val 28 _,.val 29 _,.skp,.skp]) [[],[0],[],[2],[],[4],[0,1,2,3,4,5],[0,1,2,3,4,5,6],[0,1,2,3,4,5,6,7],[0,1,2,3,4,5,6,7,8]] 8 2 99 8 OneC [.g 0,.g 1,.o 7] za6 hst (zv rfl (za5 (xs:=[.const (.int .i64 (-1)),.const (.int .i64 (1))]) (zhp zd zd zd zd zd) (.cons za3 (.cons za3 .nil))) (zv rfl (za5 (xs:=[]) zel .nil) (oc (ob_a rfl rfl (za7 (lz0 0 rfl) zbc)) (zv rfl (za4 2 rfl zk trivial (lz0 0 rfl) (Sub.part 0 rfl rfl) za9) (oc (ob_a rfl rfl (za7 (lz0 0 rfl) zbf)) (zv rfl (za4 4 rfl zk trivial (lz0 0 rfl) (Sub.part 3 rfl rfl) za9) (zv rfl (za5 (xs:=[.tmp 25,.tmp 27]) (zhb zo) (.cons (vq 3 rfl) (.cons (vq 5 rfl) .nil))) (zv rfl (zbd (xs:=[(0,.tmp 22),(1,.tmp 23),(2,.tmp 28)]) (qs:=[(0,_),(1,_),(2,_)]) str_row (.cons ⟨rfl,(vq 0 rfl),rfl⟩ (.cons ⟨rfl,(vq 1 rfl),rfl⟩ (.cons ⟨rfl,(vq 6 rfl),rfl⟩ .nil)))) o0)))))))) rfl zd zd zk (zib zk) zk zk (fun a w hst=>?_)
   have hst:St B w0 92 [(1,_),(5,_),(29,_)] [⟨2,38,ptrH,_⟩,⟨4,38,ptrH,_⟩] a w:=hst
   rw [show List.range' 8 2=[8,9] from rfl]
   rw [wpOps_cons]
   refine op_boxS (A:=cat [QA 2 (Rat.divInt (-1) 1),QA 2 0,QA (2048+2048+1) ((toM m).a+(toM m).d)]) 2 [0,1] rfl hst rfl zd zk zk (fun a w q7 hst=>?_)
   rw [wpOps_cons]
   refine op_asgS 0 rfl hst rfl zd zk zk (fun a hst=>?_)
   refine zhj ?_
   have hst:=St.ren hst 2 1 0 rfl rfl rfl zk zk
   have hst:=St.wkL (A':=RwA ((toM m).a+(toM m).d) 0) hst 2 rfl (zc3 (.cons (zb9 zo) (.cons (zb9 zo) (.cons (WkA.refl _) .nil))))
   have hst:St B w0 92 [(7,_),(30,_),(1,_),(5,_)] [⟨2,38,ptrH,_⟩,⟨4,38,ptrH,_⟩,⟨7,77,ptrH,RwA ((toM m).a+(toM m).d) 0⟩] a w:=hst
   have hst:=St.sel hst [0,2,3]
   refine zt<|go_head (sp:=[.val 31 _,.val 32 _,.val 33 _,.val 34 _,.skp]) 4 1 99 4 OneC [.g 0,.g 2,.o 0,.o 3] hst (zv rfl (za2 (gq 1 rfl)) (zv rfl (za2 (gq 0 rfl)) (zv rfl (r_mkOn (vq 1 rfl)) (zv rfl (r_sliceN (l:=[_]) (xs:=[.tmp 33]) sl_110 zk (n_ok zk) nq nq nq (.cons (vq 2 rfl) .nil) rfl rfl) o0)))) rfl zd zk zk (fun a w hst=>?_)
   have hst:St B w0 92 [(7,_),(5,_),(31,_),(34,_)] [⟨2,38,ptrH,_⟩,⟨4,38,ptrH,_⟩,⟨7,77,ptrH,_⟩] a w:=hst
   rw [show List.range' 4 1=[4] from rfl]
   rw [wpOps_cons]
   refine op_callG [0,1] 2 3 0 2 rfl hst (steps_c ht hx) rfl rfl rfl rfl zd zk zk zk zk (fun a w hst=>?_)
   refine zhj ?_
   have hst:St B w0 92 [(35,_),(7,_),(5,_)] [⟨2,38,ptrH,_⟩,⟨4,38,ptrH,_⟩,⟨7,77,ptrH,RwA ((toM m).a+(toM m).d) x⟩] a w:=hst
   refine zt<|zav (anc:=[[],[0],[0,1],[0,1,2],[],[4],[4,5],[4,5,6],[],[],[0,1,2,3,8,9],[0,1,2,3,4,5,6,7,8,9,10]]) (sts:=[none,none,none]) (news:=[⟨8,27,ptrH,some 8,_,some (10,_)⟩,⟨9,27,ptrH,some 9,_,some (11,_)⟩]) (sp:=[.adr 36 7 (.some 0) True,.adr 37 7 (.some 0) True,.adr 38 7 (.some (0+4)) True,.val 39 _,.adr 40 7 (.some 0) True,.adr 41 7 (.some 0) True,.adr 42 7 (.some (0+0)) True,.val 43 _,.alc 3,.alc 4,.sto 3,.sto 4]) [.g 1,.g 2] za6 hst (oc (ob_a rfl rfl (zh1 (lz0 2 rfl))) (oc (ob_a rfl rfl (zh0 0 rfl zk (lz0 2 rfl))) (oc (ob_a rfl rfl (zd9 1 rfl zk trivial (lz0 2 rfl) zga)) (zv rfl (za4 2 rfl zk trivial (lz0 2 rfl) (Sub.part 1 rfl rfl) za9) (oc (ob_a rfl rfl (zh1 (lz0 2 rfl))) (oc (ob_a rfl rfl (zh0 4 rfl zk (lz0 2 rfl))) (oc (ob_a rfl rfl (zd9 5 rfl zk trivial (lz0 2 rfl) zi4)) (zv rfl (za4 6 rfl zk trivial (lz0 2 rfl) (Sub.part 0 rfl rfl) za9) (oc (zao rfl rfl rfl (Str.zero zb3)) (oc (zao rfl rfl rfl (Str.zero zb3)) (oc (zad rfl rfl rfl (vq 3 rfl) za9 (Eq.trans (b:=4) rfl rfl)) (oc (zad rfl rfl rfl (vq 7 rfl) za9 (Eq.trans (b:=4) rfl rfl)) o0)))))))))))) zk zk zk zk (fun a w hst=>?_)
   have hst:St B w0 92 [(7,_),(5,_)] [⟨2,38,ptrH,_⟩,⟨4,38,ptrH,_⟩,⟨7,77,ptrH,_⟩,⟨8,27,ptrH,_⟩,⟨9,27,ptrH,_⟩] a w:=hst
   refine zt<|zav (anc:=[[],[],[1],[0,1,2],[],[0,1,2,3,4],[],[],[7],[0,1,2,3,4,5,6,7,8],[],[],[11],[0,1,2,3,4,5,6,7,8,9,10,11,12],[],[],[15],[0,1,2,3,4,5,6,7,8,9,10,11,12,13,14,15,16],[],[0,1,2,3,4,5,6,7,8,9,10,11,12,13,14,15,16,17,18],[0,1,2,3,4,5,6,7,8,9,10,11,12,13,14,15,16,17,18,19],[],[0,1,2,3,4,5,6,7,8,9,10,11,12,13,14,15,16,17,18,19,20,21]]) (sts:=[none,none,none,none,none]) (news:=[⟨10,38,ptrH,some 21,_,some (22,_)⟩]) (sp:=[.val 44 _,.adr 45 2 (.some 0) True,.val 46 _,.val 47 _,.val 48 _,.val 49 _,.val 50 _,.adr 51 2 (.some 4) True,.val 52 _,.val 53 _,.val 54 _,.adr 55 2 (.some 8) True,.val 56 _,.val 57 _,.val 58 _,.adr 59 2 (.some 12) True,.val 60 _,.val 61 _,.val 62 _,.val 63 _,.val 64 _,.alc 5,.sto 5]) [.g 0,.g 1] za6 hst (zv rfl (zab (lz0 3 rfl) za9) (oc (ob_a rfl rfl (za7 (lz0 0 rfl) zbc)) (zv rfl (za4 1 rfl zk trivial (lz0 0 rfl) (Sub.part 0 rfl rfl) za9) (zv rfl (za5 (xs:=[.tmp 44,.tmp 46]) (zci zo) (.cons (vq 0 rfl) (.cons (vq 2 rfl) .nil))) (zv rfl (zab (lz0 4 rfl) za9) (zv rfl (za5 (xs:=[.tmp 47,.tmp 48]) (zfw zo) (.cons (vq 3 rfl) (.cons (vq 4 rfl) .nil))) (zv rfl (zab (lz0 3 rfl) za9) (oc (ob_a rfl rfl (za7 (lz0 0 rfl) zbi)) (zv rfl (za4 7 rfl zk trivial (lz0 0 rfl) (Sub.part 1 rfl rfl) za9) (zv rfl (za5 (xs:=[.tmp 50,.tmp 52]) (zci zo) (.cons (vq 6 rfl) (.cons (vq 8 rfl) .nil))) (zv rfl (zab (lz0 3 rfl) za9) (oc (ob_a rfl rfl (za7 (lz0 0 rfl) zbh)) (zv rfl (za4 11 rfl zk trivial (lz0 0 rfl) (Sub.part 2 rfl rfl) za9) (zv rfl (za5 (xs:=[.tmp 54,.tmp 56]) (zci zo) (.cons (vq 10 rfl) (.cons (vq 12 rfl) .nil))) (zv rfl (zab (lz0 3 rfl) za9) (oc (ob_a rfl rfl (za7 (lz0 0 rfl) zbf)) (zv rfl (za4 15 rfl zk trivial (lz0 0 rfl) (Sub.part 3 rfl rfl) za9) (zv rfl (za5 (xs:=[.tmp 58,.tmp 60]) (zci zo) (.cons (vq 14 rfl) (.cons (vq 16 rfl) .nil))) (zv rfl (zab (lz0 4 rfl) za9) (zv rfl (za5 (xs:=[.tmp 61,.tmp 62]) (zfw zo) (.cons (vq 17 rfl) (.cons (vq 18 rfl) .nil))) (zv rfl (zbd (xs:=[(0,.tmp 49),(1,.tmp 53),(2,.tmp 57),(3,.tmp 63)]) (qs:=[(0,_),(1,_),(2,_),(3,_)]) zai (.cons ⟨rfl,(vq 5 rfl),rfl⟩ (.cons ⟨rfl,(vq 9 rfl),rfl⟩ (.cons ⟨rfl,(vq 13 rfl),rfl⟩ (.cons ⟨rfl,(vq 19 rfl),rfl⟩ .nil))))) (oc (zao rfl rfl rfl (Str.zero zai)) (oc (zad rfl rfl rfl (vq 20 rfl) zat (Eq.trans (b:=16) rfl rfl)) o0))))))))))))))))))))))) zk zk zk zk (fun a w hst=>?_)
   have hst:St B w0 92 [(7,_),(5,_)] [⟨2,38,ptrH,_⟩,⟨4,38,ptrH,_⟩,⟨7,77,ptrH,_⟩,⟨8,27,ptrH,_⟩,⟨9,27,ptrH,_⟩,⟨10,38,ptrH,_⟩] a w:=hst
   refine zt ?_
   refine wp_seq ?_
   refine gl (sts:=[none,none,none,none,none,none]) (news:=[]) (sp:=[.adr 65 10 (.some 0) True,.val 66 _,.adr 67 10 (.some 4) True,.val 68 _,.adr 69 10 (.some 8) True,.val 70 _,.adr 71 10 (.some 12) True,.val 72 _,.val 73 _,.val 74 _,.val 11 _]) [.g 0,.g 1,.o 10] hst (oc (ob_a rfl rfl (za7 (lz0 5 rfl) zbc)) (zv rfl (za4 0 rfl zk trivial (lz0 5 rfl) (Sub.part 0 rfl rfl) za9) (oc (ob_a rfl rfl (za7 (lz0 5 rfl) zbi)) (zv rfl (za4 2 rfl zk trivial (lz0 5 rfl) (Sub.part 1 rfl rfl) za9) (oc (ob_a rfl rfl (za7 (lz0 5 rfl) zbh)) (zv rfl (za4 4 rfl zk trivial (lz0 5 rfl) (Sub.part 2 rfl rfl) za9) (oc (ob_a rfl rfl (za7 (lz0 5 rfl) zbf)) (zv rfl (za4 6 rfl zk trivial (lz0 5 rfl) (Sub.part 3 rfl rfl) za9) (zv rfl (zc5 (D:=[U32]) (l:=[_,_,_,_]) (xs:=[.tmp 66,.tmp 68,.tmp 70,.tmp 72]) (zdh zk) zcz zk (n_ok zk) nq nq nq (.cons (vq 1 rfl) (.cons (vq 3 rfl) (.cons (vq 5 rfl) (.cons (vq 7 rfl) .nil)))) rfl rfl) (zv rfl (za5 (xs:=[.tmp 73]) (zia [(chP ((toM m).a+(toM m).d) x).2*(toM m).a-(chP ((toM m).a+(toM m).d) x).1,(chP ((toM m).a+(toM m).d) x).2*(toM m).b,(chP ((toM m).a+(toM m).d) x).2*(toM m).c,(chP ((toM m).a+(toM m).d) x).2*(toM m).d-(chP ((toM m).a+(toM m).d) x).1] (.cons ⟨_,rfl⟩ (.cons ⟨_,rfl⟩ (.cons ⟨_,rfl⟩ (.cons ⟨_,rfl⟩ .nil)))) nq) (.cons (vq 8 rfl) .nil)) (zv rfl (za1 (vq 9 rfl)) o0))))))))))) (fun a w hst=>?_)
   have hst:St B w0 92 [(7,_),(5,_),(11,_)] [⟨2,38,ptrH,_⟩,⟨4,38,ptrH,_⟩,⟨7,77,ptrH,_⟩,⟨8,27,ptrH,_⟩,⟨9,27,ptrH,_⟩,⟨10,38,ptrH,_⟩] a w:=hst
   refine zt<|gl (sts:=[none,none,none,none,none,none]) (news:=[]) (sp:=[.val 75 _,.val 76 _]) [.g 0,.g 1,.g 2,.o 1] hst (zv rfl (za2 (gq 2 rfl)) (zv rfl (zco (vq 0 rfl) za3) o0)) (fun a w hst=>?_)
   have hst:St B w0 92 [(7,_),(5,_),(11,_),(76,_)] [⟨2,38,ptrH,_⟩,⟨4,38,ptrH,_⟩,⟨7,77,ptrH,_⟩,⟨8,27,ptrH,_⟩,⟨9,27,ptrH,_⟩,⟨10,38,ptrH,_⟩] a w:=hst
   refine za0 ?_
   refine zaa hst (zm 3 rfl) (fun hb2=>?_) (fun hb2=>?_)
   ·have hlo:=pp_lo (x:=x) hm (by simpa using hb2)
    refine wp_seq ?_
    refine gl (sts:=[none,some (2,_),none,none,none,none]) (news:=[]) (sp:=[.val 77 _,.val 78 _,.sto 1,.val 5 _]) [.g 0,.o 3] hst (zv rfl (zbd (xs:=[]) (qs:=[]) zai .nil) (zv rfl (za2 (gq 2 rfl)) (oc (zad rfl rfl rfl (vq 0 rfl) zat (Eq.trans (b:=16) rfl rfl)) (zv rfl (za1 (vq 1 rfl)) o0)))) (fun a w hst=>?_)
    have hst:St B w0 92 [(7,_),(5,_)] [⟨2,38,ptrH,_⟩,⟨4,38,ptrH,_⟩,⟨7,77,ptrH,_⟩,⟨8,27,ptrH,_⟩,⟨9,27,ptrH,_⟩,⟨10,38,ptrH,_⟩] a w:=hst
    refine za0 ?_
    refine wp_ret ?_
    refine zah ?_
    refine zag ?_ (zaq (rs:=[.cell 4 38,.tmp 5]) rfl hst (.cell (zm 1 rfl) zat (.tmp (zm 1 rfl) .nil)) zd)
    rw [hlo.1,hlo.2]; exact zb2
   ·have hok:=pp_ok (x:=x) hm (by simpa using hb2)
    refine wp_skip ?_
    refine zt<|zav (anc:=[[],[0],[0,1],[],[3],[0,1,2,3,4],[],[6],[0,1,2,3,4,5,6,7],[],[9],[0,1,2,3,4,5,6,7,8,9,10],[0,1,2,3,4,5,6,7,8,9,10,11],[0,1,2,3,4,5,6,7,8,9,10,11,12],[0,1,2,3,4,5,6,7,8,9,10,11,12,13]]) (sts:=[none,some (13,_),none,none,none,none]) (news:=[]) (sp:=[.adr 79 10 (.some 0) True,.val 80 _,.val 81 _,.adr 82 10 (.some 4) True,.val 83 _,.val 84 _,.adr 85 10 (.some 8) True,.val 86 _,.val 87 _,.adr 88 10 (.some 12) True,.val 89 _,.val 90 _,.val 91 _,.sto 1,.val 5 _]) [.g 0,.o 14] za6 hst (oc (ob_a rfl rfl (za7 (lz0 5 rfl) zbc)) (zv rfl (za4 0 rfl zk trivial (lz0 5 rfl) (Sub.part 0 rfl rfl) za9) (zv rfl (za5 (xs:=[.tmp 80]) (zf3 zo) (.cons (vq 1 rfl) .nil)) (oc (ob_a rfl rfl (za7 (lz0 5 rfl) zbi)) (zv rfl (za4 3 rfl zk trivial (lz0 5 rfl) (Sub.part 1 rfl rfl) za9) (zv rfl (za5 (xs:=[.tmp 83]) (zf3 zo) (.cons (vq 4 rfl) .nil)) (oc (ob_a rfl rfl (za7 (lz0 5 rfl) zbh)) (zv rfl (za4 6 rfl zk trivial (lz0 5 rfl) (Sub.part 2 rfl rfl) za9) (zv rfl (za5 (xs:=[.tmp 86]) (zf3 zo) (.cons (vq 7 rfl) .nil)) (oc (ob_a rfl rfl (za7 (lz0 5 rfl) zbf)) (zv rfl (za4 9 rfl zk trivial (lz0 5 rfl) (Sub.part 3 rfl rfl) za9) (zv rfl (za5 (xs:=[.tmp 89]) (zf3 zo) (.cons (vq 10 rfl) .nil)) (zv rfl (zbd (xs:=[(0,.tmp 81),(1,.tmp 84),(2,.tmp 87),(3,.tmp 90)]) (qs:=[(0,_),(1,_),(2,_),(3,_)]) zai (.cons ⟨rfl,(vq 2 rfl),rfl⟩ (.cons ⟨rfl,(vq 5 rfl),rfl⟩ (.cons ⟨rfl,(vq 8 rfl),rfl⟩ (.cons ⟨rfl,(vq 11 rfl),rfl⟩ .nil))))) (oc (zad rfl rfl rfl (vq 12 rfl) zat (Eq.trans (b:=16) rfl rfl)) (zv rfl (za1 za3) o0))))))))))))))) zk zk zk zk (fun a w hst=>?_)
    have hst:St B w0 92 [(7,_),(5,_)] [⟨2,38,ptrH,_⟩,⟨4,38,ptrH,_⟩,⟨7,77,ptrH,_⟩,⟨8,27,ptrH,_⟩,⟨9,27,ptrH,_⟩,⟨10,38,ptrH,_⟩] a w:=hst
    refine za0 ?_
    refine wp_ret ?_
    refine zag ?_ (zaq (rs:=[.cell 4 38,.tmp 5]) rfl hst (.cell (zm 1 rfl) zat (.tmp (zm 1 rfl) .nil)) zd)
    rw [hok]; exact tu2w (zc3 (.cons qaA (.cons qaA (.cons qaA (.cons qaA .nil))))).va zb2
end Go.Proofs.YtagabklfjmchaaaGreat
namespace Go.Proofs.YtagabklfjmchaaaGreat
open Go Go.RowKit
theorem as_any {m:MQ}(h:[m.a,m.b,m.c,m.d].any longQ=true):asM 0 m=(rm0,4):=by rw [asM,if_pos rfl,if_pos h]
theorem as_none {m:MQ}(h:[m.a,m.b,m.c,m.d].any longQ=false):asM 0 m=(rmOf m,0):=by rw [asM,if_pos rfl,if_neg (by rw [h]; decide)]
theorem toldM_q {c:Nat}(m:MQ):Cn Tryz.prog 27 [(QMA c m).va,(SlA 27 [U32] [QA c m.a,QA c m.b,QA c m.c,QA c m.d]).va] (MR (asM 0 m)):=by
 refine Cn.intro Tryz.func27 rfl zk nq (fun B w0 a hst=>?_)
 have hst:St B w0 10 [(0,(QMA c m).va),(1,(SlA 27 [U32] [QA c m.a,QA c m.b,QA c m.c,QA c m.d]).va)] [] a w0.w:=hst
 refine wp_seq ?_
 refine gl (sts:=[]) (news:=[⟨2,38,ptrH,some 0,_,none⟩,⟨4,38,ptrH,some 1,_,none⟩]) (sp:=[.alc 0,.alc 1,.val 5 _]) [.g 1,.o 2] hst (oc (zam rfl rfl rfl (gq 0 rfl)) (oc (zao rfl rfl rfl (Str.zero zai)) (zv rfl (za1 za3) o0))) (fun a w hst=>?_)
 have hst:St B w0 10 [(1,_),(5,_)] [⟨2,38,ptrH,_⟩,⟨4,38,ptrH,_⟩] a w:=hst
 refine zt ?_
 refine wp_seq ?_
 refine gl (sts:=[none,none]) (news:=[]) (sp:=[.val 6 _,.val 7 _]) [.g 1,.o 1] hst (zv rfl (za2 (gq 0 rfl)) (zv rfl (za5 (xs:=[.tmp 6]) (long_q [m.a,m.b,m.c,m.d] (.cons ⟨_,rfl⟩ (.cons ⟨_,rfl⟩ (.cons ⟨_,rfl⟩ (.cons ⟨_,rfl⟩ .nil)))) nq) (.cons (vq 0 rfl) .nil)) o0)) (fun a w hst=>?_)
 have hst:St B w0 10 [(5,_),(7,_)] [⟨2,38,ptrH,_⟩,⟨4,38,ptrH,_⟩] a w:=hst
 refine za0 ?_
 refine zaa hst (zm 1 rfl) (fun hb0=>?_) (fun hb0=>?_)
 ·refine wp_seq ?_
  refine gl (sts:=[none,some (1,_)]) (news:=[]) (sp:=[.val 8 _,.sto 1,.val 5 _]) [.o 2] hst (zv rfl (zab (lz0 1 rfl) zat) (oc (zad rfl rfl rfl (vq 0 rfl) zat (Eq.trans (b:=16) rfl rfl)) (zv rfl (za1 za3) o0))) (fun a w hst=>?_)
  have hst:St B w0 10 [(5,_)] [⟨2,38,ptrH,_⟩,⟨4,38,ptrH,_⟩] a w:=hst
  refine za0 ?_
  refine wp_ret ?_
  refine zah ?_
  refine zag ?_ (zaq (rs:=[.cell 4 38,.tmp 5]) rfl hst (.cell (zm 1 rfl) zat (.tmp (zm 0 rfl) .nil)) zd)
  rw [as_any hb0]; exact zb2
 ·refine wp_skip ?_
  refine zt<|gl (sts:=[none,some (1,_)]) (news:=[]) (sp:=[.val 9 _,.sto 1,.val 5 _]) [.o 2] hst (zv rfl (zab (lz0 0 rfl) zat) (oc (zad rfl rfl rfl (vq 0 rfl) zat (Eq.trans (b:=16) rfl rfl)) (zv rfl (za1 za3) o0))) (fun a w hst=>?_)
  have hst:St B w0 10 [(5,_)] [⟨2,38,ptrH,_⟩,⟨4,38,ptrH,_⟩] a w:=hst
  refine za0 ?_
  refine wp_ret ?_
  refine zag ?_ (zaq (rs:=[.cell 4 38,.tmp 5]) rfl hst (.cell (zm 1 rfl) zat (.tmp (zm 0 rfl) .nil)) zd)
  rw [as_none hb0]; exact tu2w qmA.va zb2
theorem zk6 (xs:List RE):Cn Tryz.prog 9 [(SlA 55 [U32] (xs.map REA)).va] (MR (benF xs)):=by
 refine Cn.intro Tryz.func9 rfl zk nq (fun B w0 a hst=>?_)
 have hst:St B w0 27 [(0,(SlA 55 [U32] (xs.map REA)).va)] [] a w0.w:=hst
 refine wp_seq ?_
 refine gl (sts:=[]) (news:=[⟨2,38,ptrH,some 0,_,none⟩]) (sp:=[.alc 0,.val 3 _]) [.g 0,.o 1] hst (oc (zao rfl rfl rfl (Str.zero zai)) (zv rfl (za1 za3) o0)) (fun a w hst=>?_)
 have hst:St B w0 27 [(0,_),(3,_)] [⟨2,38,ptrH,_⟩] a w:=hst
 refine zt ?_
 refine wp_seq ?_
 refine gl (sts:=[none]) (news:=[]) (sp:=[.val 6 _,.val 7 _,.val 4 _]) [.g 0,.g 1,.o 2] hst (zv rfl (za2 (gq 0 rfl)) (zv rfl (za5 (xs:=[.tmp 6]) (benCheck_c xs) (.cons (vq 0 rfl) .nil)) (zv rfl (za1 (vq 1 rfl)) o0))) (fun a w hst=>?_)
 have hst:St B w0 27 [(0,_),(3,_),(4,_)] [⟨2,38,ptrH,_⟩] a w:=hst
 refine zt<|gl (sts:=[none]) (news:=[]) (sp:=[.val 8 _,.val 9 _]) [.g 0,.g 1,.g 2,.o 1] hst (zv rfl (za2 (gq 2 rfl)) (zv rfl (zco (vq 0 rfl) za3) o0)) (fun a w hst=>?_)
 have hst:St B w0 27 [(0,_),(3,_),(4,_),(9,_)] [⟨2,38,ptrH,_⟩] a w:=hst
 refine za0 ?_
 refine zaa hst (zm 3 rfl) (fun hb0=>?_) (fun hb0=>?_)
 ·have hc:¬ chF xs=0:=by simpa using hb0
  refine wp_seq ?_
  refine gl (sts:=[some (2,_)]) (news:=[]) (sp:=[.val 10 _,.val 11 _,.sto 0,.val 3 _]) [.g 0,.o 3] hst (zv rfl (zbd (xs:=[]) (qs:=[]) zai .nil) (zv rfl (za2 (gq 2 rfl)) (oc (zad rfl rfl rfl (vq 0 rfl) zat (Eq.trans (b:=16) rfl rfl)) (zv rfl (za1 (vq 1 rfl)) o0)))) (fun a w hst=>?_)
  have hst:St B w0 27 [(0,_),(3,_)] [⟨2,38,ptrH,_⟩] a w:=hst
  refine za0 ?_
  refine wp_ret ?_
  refine zah ?_
  refine zag ?_ (zaq (rs:=[.cell 2 38,.tmp 3]) rfl hst (.cell (zm 0 rfl) zat (.tmp (zm 1 rfl) .nil)) zd)
  rw [benF,if_neg hc]; exact zb2
 ·have hc:chF xs=0:=by simpa using hb0
  have hk:=ch_ok hc
  refine wp_skip ?_
  refine zt<|gl (sts:=[none]) (news:=[⟨5,38,ptrH,some 2,_,some (3,_)⟩]) (sp:=[.val 12 _,.val 13 _,.alc 1,.sto 1]) [.g 1] hst (zv rfl (za2 (gq 0 rfl)) (zv rfl (za5 (xs:=[.tmp 12]) (zjk hk.1 hk.2) (.cons (vq 0 rfl) .nil)) (oc (zao rfl rfl rfl (Str.zero zai)) (oc (zad rfl rfl rfl (vq 1 rfl) zat (Eq.trans (b:=16) rfl rfl)) o0)))) (fun a w hst=>?_)
  have hst:St B w0 27 [(3,_)] [⟨2,38,ptrH,_⟩,⟨5,38,ptrH,_⟩] a w:=hst
  refine zt<|gl (sts:=[some (13,_),none]) (news:=[]) (sp:=[.val 14 _,.adr 15 5 (.some 0) True,.val 16 _,.adr 17 5 (.some 4) True,.val 18 _,.adr 19 5 (.some 8) True,.val 20 _,.adr 21 5 (.some 12) True,.val 22 _,.val 23 _,.val 24 _,.val 25 _,.val 26 _,.sto 0,.val 3 _]) [.o 14] hst (zv rfl (zab (lz0 1 rfl) zat) (oc (ob_a rfl rfl (za7 (lz0 1 rfl) zbc)) (zv rfl (za4 1 rfl zk trivial (lz0 1 rfl) (Sub.part 0 rfl rfl) za9) (oc (ob_a rfl rfl (za7 (lz0 1 rfl) zbi)) (zv rfl (za4 3 rfl zk trivial (lz0 1 rfl) (Sub.part 1 rfl rfl) za9) (oc (ob_a rfl rfl (za7 (lz0 1 rfl) zbh)) (zv rfl (za4 5 rfl zk trivial (lz0 1 rfl) (Sub.part 2 rfl rfl) za9) (oc (ob_a rfl rfl (za7 (lz0 1 rfl) zbf)) (zv rfl (za4 7 rfl zk trivial (lz0 1 rfl) (Sub.part 3 rfl rfl) za9) (zv rfl (zc5 (D:=[U32]) (l:=[_,_,_,_]) (xs:=[.tmp 16,.tmp 18,.tmp 20,.tmp 22]) (zdh zk) zcz zk (n_ok zk) nq nq nq (.cons (vq 2 rfl) (.cons (vq 4 rfl) (.cons (vq 6 rfl) (.cons (vq 8 rfl) .nil)))) rfl rfl) (zv rfl (za5 (xs:=[.tmp 14,.tmp 23]) (toldM_q (prodQ xs)) (.cons (vq 0 rfl) (.cons (vq 9 rfl) .nil))) (zv rfl (ze4 (vq 10 rfl)) (zv rfl (ze3 (vq 10 rfl)) (oc (zad rfl rfl rfl (vq 11 rfl) zat (Eq.trans (b:=16) rfl rfl)) (zv rfl (za1 (vq 12 rfl)) o0))))))))))))))) (fun a w hst=>?_)
  have hst:St B w0 27 [(3,_)] [⟨2,38,ptrH,_⟩,⟨5,38,ptrH,_⟩] a w:=hst
  refine za0 ?_
  refine wp_ret ?_
  refine zag ?_ (zaq (rs:=[.cell 2 38,.tmp 3]) rfl hst (.cell (zm 0 rfl) zat (.tmp (zm 0 rfl) .nil)) zd)
  rw [benF,if_pos hc]; exact zb2
def elCostF (x:RE):Int:=IntKind.i64.wrap (fracCostF x.p+fracCostF x.q)
def elsF (n:Int):List RE→Int
 | []=>n
 | x::xs=>if decide (n≤1048576) then elsF (IntKind.i64.wrap (n+elCostF x)) xs else n
theorem els_go {n:Int}{l:List RE}{j:Nat}(h:j<l.length)(h2:n≤1048576):elsF n (l.drop j)=elsF (IntKind.i64.wrap (n+elCostF l[j])) (l.drop (j+1)):=by
 rw [List.drop_eq_getElem_cons h,elsF,if_pos (decide_eq_true h2)]
theorem els_end {n:Int}{l:List RE}{j:Nat}(h:¬ (j<l.length∧n≤1048576)):elsF n (l.drop j)=n:=by
 by_cases hj:j<l.length
 ·rw [List.drop_eq_getElem_cons hj,elsF,if_neg (by simpa using fun hh=>h ⟨hj,hh⟩)]
 ·rw [List.drop_of_length_le zo]; rfl
theorem elCost_c (x:RE):Cn Tryz.prog 18 [(REA x).va] (In (elCostF x)):=by
 refine Cn.intro Tryz.func18 rfl zk nq (fun B w0 a hst=>?_)
 have hst:St B w0 10 [(0,(REA x).va)] [] a w0.w:=hst
 refine wp_seq ?_
 refine gl (sts:=[]) (news:=[⟨1,55,ptrH,some 0,_,none⟩]) (sp:=[.alc 0,.val 2 _]) [.o 1] hst (oc (zam rfl rfl rfl (gq 0 rfl)) (zv rfl (za1 za3) o0)) (fun a w hst=>?_)
 have hst:St B w0 10 [(2,_)] [⟨1,55,ptrH,_⟩] a w:=hst
 refine zt<|zav (anc:=[[],[0],[0,1],[],[3],[0,1,2,3,4],[0,1,2,3,4,5],[0,1,2,3,4,5,6]]) (sts:=[none]) (news:=[]) (sp:=[.adr 3 1 (.some 1) True,.val 4 _,.val 5 _,.adr 6 1 (.some 5) True,.val 7 _,.val 8 _,.val 9 _,.val 2 _]) [.o 7] za6 hst (oc (ob_a rfl rfl (za7 (lz0 0 rfl) zd0)) (zv rfl (za4 0 rfl zk trivial (lz0 0 rfl) (Sub.part 1 rfl rfl) za9) (zv rfl (za5 (xs:=[.tmp 4]) (zdj _) (.cons (vq 1 rfl) .nil)) (oc (ob_a rfl rfl (za7 (lz0 0 rfl) zdw)) (zv rfl (za4 3 rfl zk trivial (lz0 0 rfl) (Sub.part 2 rfl rfl) za9) (zv rfl (za5 (xs:=[.tmp 7]) (zdj _) (.cons (vq 4 rfl) .nil)) (zv rfl (zb8 (vq 2 rfl) (vq 5 rfl) (rfl)) (zv rfl (za1 (vq 6 rfl)) o0)))))))) zk zk zk zk (fun a w hst=>?_)
 have hst:St B w0 10 [(2,_)] [⟨1,55,ptrH,_⟩] a w:=hst
 refine za0 ?_
 refine wp_ret ?_
 refine zag ?_ (zaj rfl hst (zm 0 rfl))
 exact zb2
theorem elsCost_c (xs:List RE):Cn Tryz.prog 5 [(SlA 55 [U32] (xs.map REA)).va] (In (elsF (xs.length:Nat) xs)):=by
 refine Cn.intro Tryz.func5 rfl zk nq (fun B w0 a hst=>?_)
 have hst:St B w0 25 [(0,(SlA 55 [U32] (xs.map REA)).va)] [] a w0.w:=hst
 have hl:=zhq (hst.vals (0,(SlA 55 [U32] (xs.map REA)).va) (zm 0 rfl))
 refine wp_seq ?_
 refine gl (sts:=[]) (news:=[]) (sp:=[.val 2 _]) [.g 0,.o 0] hst (zv rfl (za1 za3) o0) (fun a w hst=>?_)
 have hst:St B w0 25 [(0,_),(2,_)] [] a w:=hst
 refine zt<|gl (sts:=[]) (news:=[]) (sp:=[.val 5 _,.val 6 _,.val 3 _]) [.g 0,.g 1,.o 2] hst (zv rfl (za2 (gq 0 rfl)) (zv rfl (zfb Tryz.underlying22 (vq 0 rfl)) (zv rfl (za1 (vq 1 rfl)) o0))) (fun a w hst=>?_)
 have hst:St B w0 25 [(0,_),(2,_),(3,_)] [] a w:=hst
 refine zt ?_
 refine wp_seq ?_
 refine gl (sts:=[]) (news:=[]) (sp:=[.val 4 _]) [.g 0,.g 1,.g 2,.o 0] hst (zv rfl (za1 za3) o0) (fun a w hst=>?_)
 have hst:St B w0 25 [(0,_),(2,_),(3,_),(4,_)] [] a w:=hst
 refine za0 ?_
 refine wp_block ?_
 have hst:=St.sel hst [0,2,3]
 refine wp_loop_ghost (fun n a w=>∃ (j:Nat) (m:Int),(n+j=xs.length∧elsF (xs.length:Nat) xs=elsF m (xs.drop j))∧St B w0 25 [(0,(SlA 55 [U32] (xs.map REA)).va),(3,In m),(4,In (j:Nat))] [] a w) (xs.length) ?_ ?_
 ·exact ⟨0,(xs.length:Nat),⟨by omega,rfl⟩,by rw [List.length_map] at hst; exact hst⟩
 intro n a w hI
 obtain ⟨j,m,⟨hn,hm⟩,hst⟩:=hI
 refine wp_seq ?_
 refine wp_seq ?_
 refine gl (sts:=[]) (news:=[]) (sp:=[.val 7 _,.val 8 _,.val 9 _,.val 10 _,.val 11 _,.val 12 (Wh (_=true) _),.val 13 (Wh (_=true) _),.val 14 _]) [.g 0,.g 1,.g 2,.o 7] hst (zv rfl (za2 (gq 2 rfl)) (zv rfl (za2 (gq 0 rfl)) (zv rfl (zfb Tryz.underlying22 (vq 1 rfl)) (zv rfl (zc2 (vq 0 rfl) (vq 2 rfl)) (zv rfl (za2 (vq 3 rfl)) (oc (zal rfl rfl rfl (vq 4 rfl) nq (fun hg=>za2 (gq 1 rfl))) (oc (zal rfl rfl rfl (vq 4 rfl) nq (fun hg=>r_leq (zaf (vq 5 rfl) hg) za3)) (zv rfl (zc9 (vq 4 rfl) (vq 6 rfl)) o0)))))))) (fun a w hst=>?_)
 have hst:St B w0 25 [(0,_),(3,_),(4,_),(14,_)] [] a w:=hst
 refine za0 ?_
 refine zaa hst (zm 3 rfl) (fun hb0=>?_) (fun hb0=>?_)
 ·rw [Bool.and_eq_true,decide_eq_true_eq,decide_eq_true_eq,List.length_map] at hb0
  have hj:j<xs.length:=by omega
  have hm0:=hb0.2
  refine wp_skip ?_
  refine zt ?_
  refine wp_block ?_
  refine gl (sts:=[]) (news:=[]) (sp:=[.val 17 _,.val 18 _,.val 19 _,.val 20 _,.val 21 _,.val 22 _,.val 23 _,.val 3 _]) [.g 0,.g 2,.o 7] hst (zv rfl (za2 (gq 1 rfl)) (zv rfl (za2 (gq 0 rfl)) (zv rfl (za2 (gq 2 rfl)) (zv rfl (zde zjj (zg7 fun _=>rfl) (vq 1 rfl) (vq 2 rfl) (zf2 hj)) (zv rfl (zas (vq 3 rfl) zje) (zv rfl (za5 (xs:=[.tmp 21]) (elCost_c _) (.cons (vq 4 rfl) .nil)) (zv rfl (zb8 (vq 0 rfl) (vq 5 rfl) (rfl)) (zv rfl (za1 (vq 6 rfl)) o0)))))))) (fun a w hst=>?_)
  have hst:St B w0 25 [(0,_),(4,_),(3,_)] [] a w:=hst
  refine zan ?_
  refine za0 ?_
  refine gl (sts:=[]) (news:=[]) (sp:=[.val 15 _,.val 16 _,.val 4 _]) [.g 0,.g 2,.o 2] hst (zv rfl (za2 (gq 1 rfl)) (zv rfl (zb8 (vq 0 rfl) za3 (wi_nx hj hl)) (zv rfl (za1 (vq 1 rfl)) o0))) (fun a w hst=>?_)
  have hst:St B w0 25 [(0,_),(3,_),(4,_)] [] a w:=hst
  refine za0 ?_
  have hst:=St.sel hst [0,1,2]
  exact ⟨n-1,by omega,j+1,_,⟨by omega,hm.trans (els_go hj hm0)⟩,hst⟩
 ·have hnj:¬ (j<xs.length∧m≤1048576):=by rintro ⟨h1,h2⟩; rw [List.length_map,decide_eq_true (by omega:(j:Int)<(xs.length:Int)),decide_eq_true h2] at hb0; exact absurd hb0 zd
  refine wp_exit ?_
  refine zae ?_
  refine zae ?_
  refine zaw ?_
  refine zt<|gl (sts:=[]) (news:=[]) (sp:=[.val 24 _,.val 2 _]) [.o 1] hst (zv rfl (za2 (gq 1 rfl)) (zv rfl (za1 (vq 0 rfl)) o0)) (fun a w hst=>?_)
  have hst:St B w0 25 [(2,_)] [] a w:=hst
  refine za0 ?_
  refine wp_ret ?_
  refine zag ?_ (zaj rfl hst (zm 0 rfl))
  exact zd2 (congrArg In (hm.trans (els_end hnj)).symm)
end Go.Proofs.YtagabklfjmchaaaGreat
namespace Go.Proofs.YtagabklfjmchaaaGreat
open Go Go.RowKit
end Go.Proofs.YtagabklfjmchaaaGreat
namespace Go.Proofs.YtagabklfjmchaaaGreat
open Go Go.RowKit
open Go.ChangeShapes Go.WideShapes Go.ChangeAt
theorem all2_apx {α β:Type}{R':α→β→Prop}{l1 l2:List α}{m1 m2:List β}(h:All2 R' l1 m1)(h':All2 R' l2 m2):All2 R' (l1++l2) (m1++m2):=by
 induction h with
 | nil=>exact h'
 | cons h1 _ ih=>exact .cons h1 ih
theorem cat_apx {l l':List As}{B:Nat}{ds ds':List Value}{w:World}(h:(cat l).p B ds w)(h':(cat l').p B ds' w):(cat (l++l')).p B (ds++ds') w:=by
 obtain ⟨ps,rfl,h1⟩:=h
 obtain ⟨ps',rfl,h2⟩:=h'
 exact ⟨ps++ps',by simp,all2_apx h1 h2⟩
theorem cat_onex {A:As}{B:Nat}{ds:List Value}{w:World}(h:A.p B ds w):(cat [A]).p B ds w:=⟨[ds],by simp,.cons h .nil⟩
section
variable {H:Type} {enc:TypeId × Value→H} {w:World} {base:Nat} {spare:Nat→Bool} {held:Bool} {fuel:Nat} {cs:List Value} {x:DataW H × List MemPlace}
theorem rd_sl {P:Program}{α:Type}{A:α→As}{t e:TypeId}{m:Nat}{D:List TypeId}(ht:P.underlying t=some (.slice e))(hc:P.cellsOf e=m)(hm0:0<m)(hD:∀ y,∀ T∈(A y).deps,T∈D)
  (rd:∀ {fuel:Nat} {cs:List Value} {x:DataW H × List MemPlace},DataW.trod enc P w base spare held fuel e cs=some x→∃ y,(A y).p w.heap.size cs w)
  (h:DataW.trod enc P w base spare held fuel t cs=some x):∃ l:List α,(SlA e D (l.map A)).p w.heap.size cs w:=by
 rcases Go.Deep.open_slice ht h with ⟨rfl,_⟩ | ⟨a,len,cap,m',n,Df,Pl,rfl,hb,hl,hmx,hm',_,hel⟩
 ·exact ⟨[],fun A hA=>by simp at hA,none,0,[],rfl,Nat.le_refl _,Nat.zero_le _,⟨[],rfl,.nil⟩,fun h=>absurd h (by simp)⟩
 ·rw [hc] at hel
  have hle:len≤m':=by rw [hm']; split <;> omega
  have key:∀ k,k≤len→∃ (l:List α) (ds:List Value),l.length=k∧ds.length=k*m∧(cat (l.map A)).p w.heap.size ds w∧∀ (j:Nat) v,ds[j]?=some v→w.cell? (a.add j)=some v:=by
   intro k
   induction k with
   | zero=>exact fun _=>⟨[],[],rfl,by simp,⟨[],rfl,.nil⟩,fun j v hv=>by simp at hv⟩
   | succ k ih =>
    intro hk
    obtain ⟨l,ds,h1,h2,h3,h4⟩:=ih zo
    obtain ⟨cs',q1,q2⟩:=hel k zo
    obtain ⟨y,hy⟩:=rd q2
    obtain ⟨_,q3,q4⟩:=World.cells?_some q1
    refine ⟨l++[y],ds++cs',by simp [h1],by rw [List.length_append,h2,q3,Nat.add_mul,Nat.one_mul],?_,fun j v hv=>?_⟩
    ·rw [List.map_append]
     exact cat_apx h3 (cat_onex hy)
    ·by_cases hj:j<ds.length
     ·rw [List.getElem?_append_left hj] at hv
      exact h4 j v hv
     ·rw [List.getElem?_append_right zo] at hv
      have hlt:j-ds.length<cs'.length:=(List.getElem?_eq_some_iff.1 hv).1
      have:=q4 (j-ds.length) zo
      rw [Go.Deep.add_add,show k*m+(j-ds.length)=j by omega] at this
      rw [this,hv]
  obtain ⟨l,ds,h1,h2,h3,h4⟩:=key len (Nat.le_refl _)
  refine ⟨l,fun A' hA=>?_,some a,cap,ds,by rw [List.length_map,h1],by rw [List.length_map,h1]; exact hl,hmx,h3,fun hpos=>?_⟩
  ·obtain ⟨y,_,rfl⟩:=List.mem_map.1 hA
   exact hD y
  ·rw [List.length_map,h1] at hpos
   have hds:0<ds.length:=by rw [h2]; exact Nat.mul_pos hpos hm0
   obtain ⟨b,off,spot⟩:=a
   have h0:=h4 0 (ds[0]) (List.getElem?_eq_getElem hds)
   have hspot:spot=none:=by simpa [Addr.add] using World.cell?_spot h0
   subst hspot
   have hblk:b<w.heap.size:=World.block_lt_of_cell? w _ (by rw [Go.WideShapes.add_plain] at h0; exact h0)
   exact ⟨b,off,rfl,hblk,.inl hblk,fun j v hv=>by rw [← Go.WideShapes.add_plain]; exact h4 j v hv⟩
end
end Go.Proofs.YtagabklfjmchaaaGreat
namespace Go.Proofs.YtagabklfjmchaaaGreat
open Go Go.RowKit
open Go.ChangeShapes Go.WideShapes Go.ChangeAt
theorem nd_self {A:As}{D:List TypeId}(h:(A.deps.all fun T=>D.contains T)=true):∀ T∈A.deps,T∈D:=fun T hT=>by
 have:=List.all_eq_true.1 h T hT
 simpa using this
theorem zjb {B:Nat}{cs:List Value}{w:World}{A0 A1 A2:As}(h0:A0.p B ((cs.drop 0).take A0.n) w)(h1:A1.p B ((cs.drop A0.n).take A1.n) w)(h2:A2.p B ((cs.drop (A0.n+A1.n)).take A2.n) w)(hl:cs.length=A0.n+(A1.n+A2.n)):(cat [A0,A1,A2]).p B cs w :=
 cat_of (by simpa using hl) fun k A hk=>by
  match k,hk with
  | 0,hk=>simp at hk; subst hk; exact h0
  | 1,hk=>simp at hk; subst hk; simpa [offs] using h1
  | 2,hk=>simp at hk; subst hk; simpa [offs] using h2
section
variable {H:Type} {enc:TypeId × Value→H} {w:World} {base:Nat} {spare:Nat→Bool} {held:Bool} {fuel:Nat} {cs:List Value} {x:DataW H × List MemPlace}
theorem rd_re (h:DataW.trod enc Tryz.prog w base spare held fuel 55 cs=some x):∃ y,(REA y).p w.heap.size cs w:=by
 obtain ⟨xs,n,_,_,hl,hlen,hf⟩:=DataW.trod_struct Tryz.underlying55 h
 have hl':cs.length=9:=hl.trans zk
 have c0:Tryz.prog.cellsOf 27=4:=by kernel_rfl
 have c1:Tryz.prog.cellsOf 53=1:=by kernel_rfl
 match xs,hlen with
 | [y0,y1,y2],_ =>
  have h0:DataW.trod enc Tryz.prog w base spare held n 53 ((cs.drop 0).take (Tryz.prog.cellsOf 53))=some y0:=hf 0 _ rfl
  have h1:DataW.trod enc Tryz.prog w base spare held n 27 ((cs.drop 1).take (Tryz.prog.cellsOf 27))=some y1:=hf 1 _ rfl
  have h2:DataW.trod enc Tryz.prog w base spare held n 27 ((cs.drop 5).take (Tryz.prog.cellsOf 27))=some y2:=hf 2 _ rfl
  rw [c1] at h0
  rw [c0] at h1 h2
  obtain ⟨a,ha,_⟩:=DataW.trod_int Tryz.underlying53 h0
  obtain ⟨b,hb⟩:=rd_rf h1
  obtain ⟨c,hc⟩:=rd_rf h2
  exact ⟨⟨a,b,c⟩,zjb (A0:=NumA .u8 a) ha hb hc hl'⟩
end
end Go.Proofs.YtagabklfjmchaaaGreat
