import Derived.Test.YthncfchnkjemiaaGreatDoorFdAa
import Derived.Test.YthncfchnkjemiaaGreatDoorFdAc
import Derived.Test.YthncfchnkjemiaaGreatDoorFdBa
import Derived.Great.BuildSlice
set_option linter.unusedVariables false
set_option linter.unusedSimpArgs false
set_option linter.unusedSectionVars false
set_option maxRecDepth 100000
namespace Go.Proofs.YthncfchnkjemiaaGreatDoor
open Go Go.RowKit
theorem all_sp {α:Type} {p:α→Bool} {l:List α} {j:Nat} (h:j<l.length) (h2:p l[j]=false):l.all p=false:=List.all_eq_false.2 ⟨_,List.getElem_mem h,by simp [h2]⟩
theorem all_ny {α:Type} {p:α→Bool} {l:List α} {j:Nat} (h:j<l.length) (h1:(l.take j).all p=true) (h2:p l[j]=true):(l.take (j+1)).all p=true:=by
 rw [List.take_succ_eq_append_getElem h,List.all_append,h1]
 simp [h2]
theorem may_ok {xs:List RR} (h:mayS xs=0):xs.length≤64∧xs.all okH=true:=by
 unfold mayS at h
 by_cases h1:xs.length>64
 ·rw [if_pos h1] at h; exact absurd h zd
 ·rw [if_neg h1] at h
  cases h2:xs.all okH with
  | true=>exact ⟨by omega,rfl⟩
  | false=>rw [h2] at h; exact absurd h zd
theorem film_nx {xs:List RR} {j:Nat} (h:j<xs.length):filmQ (xs.take (j+1))=thenQ (filmQ (xs.take j)) (shM xs[j]):=by
 rw [List.take_succ_eq_append_getElem h]
 unfold filmQ
 rw [List.foldl_append]
 rfl
theorem ok_szS {x:RR} (h:okH x=true):szS (toQ x.y) (toQ x.u)≤8192:=by
 have h1:=(okH_q h).1
 simp only [List.all_cons,List.all_nil,Bool.and_true,Bool.and_eq_true] at h1
 obtain ⟨a1,a2⟩:=(okX_q h1.1).2
 obtain ⟨b1,b2⟩:=(okX_q h1.2).2
 unfold szS szQ
 omega
theorem film_rep {xs:List RR} (h:xs.all okH=true):∀ j,j≤xs.length→RepM (1+16386*j) (filmQ (xs.take j))
 | 0,_=>rep_1
 | j+1,hj=>by
  have ho:=List.all_eq_true.1 h _ (List.getElem_mem (show j<xs.length by omega))
  have hs:=ok_szS ho
  rw [film_nx zo]
  exact rep_mono (rep_then (film_rep h j zo) (sh_rep (Rat.ne_of_gt (okH_q ho).2))) zo
theorem filMay_c (xs:List RR):Cn Tryz.prog 316 [(SlA 157 [U32] (xs.map RRA)).va] (In (mayS xs)):=by
 refine Cn.introF Tryz.func316 rfl zk nq (fun B w0 a hF hst=>?_)
 have hst:St B w0 28 [(0,(SlA 157 [U32] (xs.map RRA)).va)] [] a w0.w:=hst
 obtain ⟨v0,hv0,hst⟩:=St.eqv hst 0 rfl
 have hl:=slA_lenm hv0
 refine wp_seq ?_
 refine gl (sts:=[]) (news:=[]) (sp:=[.val 2 _]) [.g 0,.o 0] hst (zv rfl rfl (za2 za3) o0) (fun a w hst=>?_)
 have hst:St B w0 28 [(0,_),(2,_)] [] a w:=hst
 refine zt ?_
 refine wp_seq ?_
 refine gl (sts:=[]) (news:=[]) (sp:=[.val 5 _,.val 6 _,.val 7 _]) [.g 0,.g 1,.o 2] hst (zv rfl rfl (za1 (gq 0 rfl)) (zv rfl rfl (zc1 Tryz.underlying276 (zbo hF hv0 (vq 0 rfl))) (zv rfl rfl (zfg (vq 1 rfl) za3) o0))) (fun a w hst=>?_)
 have hst:St B w0 28 [(0,_),(2,_),(7,_)] [] a w:=hst
 refine za0 ?_
 refine za8 hst (zm 2 rfl) (fun hb0=>?_) (fun hb0=>?_)
 ·have hbig:xs.length>64:=by rw [List.length_map] at hb0; have:=of_decide_eq_true hb0; omega
  refine wp_seq ?_
  refine gl (sts:=[]) (news:=[]) (sp:=[.val 2 _]) [.g 0,.o 0] hst (zv rfl rfl (za2 za3) o0) (fun a w hst=>?_)
  have hst:St B w0 28 [(0,_),(2,_)] [] a w:=hst
  refine za0 ?_
  refine wp_ret ?_
  refine zao ?_
  refine zaq ?_ (zah rfl hst (zm 1 rfl))
  rw [mayS,if_pos hbig]; exact zbt
 ·have hbig:¬ xs.length>64:=by rw [List.length_map] at hb0; have:=of_decide_eq_false hb0; omega
  refine wp_skip ?_
  refine zt ?_
  refine wp_seq ?_
  refine gl (sts:=[]) (news:=[]) (sp:=[.val 8 _,.val 9 _,.val 10 _]) [.g 1,.o 0,.o 1,.o 2] hst (zv rfl rfl (za1 (gq 0 rfl)) (zv rfl rfl (zc1 Tryz.underlying276 (zbo hF hv0 (vq 0 rfl))) (zv rfl rfl (za1 za3) o0))) (fun a w hst=>?_)
  have hst:St B w0 28 [(2,_),(8,_),(9,_),(10,_)] [] a w:=hst
  refine za0 ?_
  refine wp_block ?_
  have hst:=St.sel hst [1,2,3]
  refine wp_loop_ghost (fun n a w=>∃ j:Nat,(n+j=xs.length∧(xs.take j).all okH=true)∧St B w0 28 [(8,EqV v0),(9,In (xs.length:Nat)),(10,In (j:Nat))] [] a w) (xs.length) ?_ ?_
  ·exact ⟨0,⟨by omega,rfl⟩,by rw [List.length_map] at hst; exact hst⟩
  intro n a w hI
  obtain ⟨j,⟨hn,hno⟩,hst⟩:=hI
  refine wp_seq ?_
  refine gl (sts:=[]) (news:=[]) (sp:=[.val 11 _]) [.g 0,.g 1,.g 2,.o 0] hst (zv rfl rfl (zb9 (gq 2 rfl) (gq 1 rfl)) o0) (fun a w hst=>?_)
  have hst:St B w0 28 [(8,_),(9,_),(10,_),(11,_)] [] a w:=hst
  refine zt ?_
  refine za8 hst (zm 3 rfl) (fun hb1=>?_) (fun hb1=>?_)
  ·have hj:j<xs.length:=by simp at hb1; omega
   refine wp_skip ?_
   refine zt ?_
   refine wp_block ?_
   refine wp_seq ?_
   refine gl (sts:=[]) (news:=[⟨4,157,ptrH,some 2,_,some (3,_)⟩]) (sp:=[.val 12 _,.val 13 _,.alc 0,.sto 0]) [.g 0,.g 1,.g 2] hst (zv rfl rfl (zgp sl_276 (map_n fun _=>rfl) (zbo hF hv0 (gq 0 rfl)) (gq 2 rfl) (zka hj)) (zv rfl rfl (zap (vq 0 rfl) zhv) (oc (zan rfl rfl rfl (Str.zero zgl)) (oc (zaa rfl rfl rfl (vq 1 rfl) zhv (Eq.trans (b:=8) rfl rfl)) o0)))) (fun a w hst=>?_)
   have hst:St B w0 28 [(8,_),(9,_),(10,_)] [⟨4,157,ptrH,_⟩] a w:=hst
   refine zt ?_
   refine gl (sts:=[none]) (news:=[]) (sp:=[.adr 14 4 (.some 0) True,.val 15 _,.adr 16 4 (.some 4) True,.val 17 _,.val 18 _,.val 19 _,.val 20 _,.val 21 _,.adr 22 4 (.some 0) (_=false),.val 23 (Wh (_=false) _),.val 24 (Wh (_=false) _),.val 25 (Wh (_=false) _),.val 26 _]) [.g 0,.g 1,.g 2,.o 12] hst (oc (ob_a rfl rfl (za9 (lz0 0 rfl) zh7)) (zv rfl rfl (za4 0 rfl zk trivial (lz0 0 rfl) (Sub.part 0 rfl rfl) zae) (oc (ob_a rfl rfl (za9 (lz0 0 rfl) fld_157_1)) (zv rfl rfl (za4 2 rfl zk trivial (lz0 0 rfl) (Sub.part 1 rfl rfl) zae) (zv rfl rfl (zco (D:=[U32]) (l:=[_,_]) (xs:=[.tmp 15,.tmp 17]) (zf9 zk) zdt zk (n_ok zk) nq nq nq (.cons (vq 1 rfl) (.cons (vq 3 rfl) .nil)) rfl rfl) (zv rfl rfl (za5 (xs:=[.tmp 18]) (checks_c [_,_] nq) (.cons (vq 4 rfl) .nil)) (zv rfl rfl (zew (vq 5 rfl)) (zv rfl rfl (za1 (vq 6 rfl)) (oc (zcc rfl rfl rfl (vq 7 rfl) nq (fun hg=>za9 (lz0 0 rfl) zh7)) (oc (zam rfl rfl rfl (vq 7 rfl) nq (fun hg=>za4 8 rfl zk hg (lz0 0 rfl) (Sub.part 0 rfl rfl) zae)) (oc (zam rfl rfl rfl (vq 7 rfl) nq (fun hg=>za5 (xs:=[.tmp 23]) (sgn_y hg) (.cons (zac (vq 9 rfl) hg) .nil))) (oc (zam rfl rfl rfl (vq 7 rfl) nq (fun hg=>r_leq (zac (vq 10 rfl) hg) za3)) (zv rfl rfl (r_or (vq 7 rfl) (vq 11 rfl)) o0))))))))))))) (fun a w hst=>?_)
   have hst:St B w0 28 [(8,_),(9,_),(10,_),(26,_)] [⟨4,157,ptrH,_⟩] a w:=hst
   refine za0 ?_
   refine za8 hst (zm 3 rfl) (fun hb2=>?_) (fun hb2=>?_)
   ·refine wp_seq ?_
    refine gl (sts:=[none]) (news:=[]) (sp:=[.val 2 _]) [.g 0,.g 1,.g 2,.o 0] hst (zv rfl rfl (za2 za3) o0) (fun a w hst=>?_)
    have hst:St B w0 28 [(8,_),(9,_),(10,_),(2,_)] [⟨4,157,ptrH,_⟩] a w:=hst
    refine za0 ?_
    refine wp_ret ?_
    refine zbx ?_
    refine zao ?_
    refine zao ?_
    refine zbx ?_
    refine zao ?_
    refine zaq ?_ (zah rfl hst (zm 3 rfl))
    rw [mayS,if_neg hbig,all_sp hj (okH_no hb2)]; exact zbt
   ·refine wp_skip ?_
    refine zas ?_
    refine za0 ?_
    refine gl (sts:=[none]) (news:=[]) (sp:=[.val 27 _,.val 10 _]) [.g 0,.g 1,.o 1] hst (zv rfl rfl (zbh (gq 2 rfl) za3 ((wi64 zo zo).trans (by omega:(_:Int)=((j+1:Nat):Int)))) (zv rfl rfl (za1 (vq 0 rfl)) o0)) (fun a w hst=>?_)
    have hst:St B w0 28 [(8,_),(9,_),(10,_)] [⟨4,157,ptrH,_⟩] a w:=hst
    refine za0 ?_
    have hst:=St.sel hst [0,1,2]
    have hst:=St.selL hst []
    exact ⟨n - 1,by omega,j+1,⟨by omega,all_ny hj hno (okH_yes hb2)⟩,hst⟩
  ·obtain rfl:j=xs.length:=by simp at hb1; omega
   refine wp_exit ?_
   refine za7 ?_
   refine za7 ?_
   refine zag ?_
   refine zt ?_
   refine gl (sts:=[]) (news:=[]) (sp:=[.val 2 _]) [.o 0] hst (zv rfl rfl (za2 za3) o0) (fun a w hst=>?_)
   have hst:St B w0 28 [(2,_)] [] a w:=hst
   refine za0 ?_
   refine wp_ret ?_
   refine zaq ?_ (zah rfl hst (zm 0 rfl))
   rw [List.take_length] at hno; rw [mayS,if_neg hbig,hno]; exact zbt
theorem sheet_x {x:RR} (h:okH x=true):Cn Tryz.prog 350 [(RRA x).va] (QMA 26631 (shM x)).va:=(sheet_q (n:=toQ x.y) (t:=toQ x.u) (Rat.ne_of_gt (okH_q h).2)).wk (.cons (qr_x (okH_q h).1).va .nil)
set_option maxHeartbeats 1000000 in
theorem film_c {xs:List RR} (h64:xs.length≤64) (hx:xs.all okH=true):Cn Tryz.prog 317 [(SlA 157 [U32] (xs.map RRA)).va] ((QMA 1048705 (filmQ xs)).va):=by
 refine Cn.introF Tryz.func317 rfl zk nq (fun B w0 a hF hst=>?_)
 have hst:St B w0 23 [(0,(SlA 157 [U32] (xs.map RRA)).va)] [] a w0.w:=hst
 obtain ⟨v0,hv0,hst⟩:=St.eqv hst 0 rfl
 have hr:=film_rep hx
 refine wp_seq ?_
 refine gl (sts:=[]) (news:=[⟨2,278,ptrH,some 0,_,none⟩]) (sp:=[.alc 0]) [.g 0] hst (oc (zan rfl rfl rfl (Str.zero zdb)) o0) (fun a w hst=>?_)
 have hst:St B w0 23 [(0,_)] [⟨2,278,ptrH,_⟩] a w:=hst
 refine zt ?_
 refine gl (sts:=[none]) (news:=[⟨3,278,ptrH,some 5,_,some (6,_)⟩]) (sp:=[.val 6 _,.val 7 _,.val 8 _,.val 9 _,.val 10 _,.alc 1,.sto 1]) [.g 0] hst (zv rfl rfl (za5 (xs:=[]) one_q .nil) (zv rfl rfl (za5 (xs:=[]) zey .nil) (zv rfl rfl (za5 (xs:=[]) zey .nil) (zv rfl rfl (za5 (xs:=[]) one_q .nil) (zv rfl rfl (zb3 (xs:=[(0,.tmp 6),(1,.tmp 7),(2,.tmp 8),(3,.tmp 9)]) (qs:=[(0,_),(1,_),(2,_),(3,_)]) zdb (.cons ⟨rfl,(vq 0 rfl),rfl⟩ (.cons ⟨rfl,(vq 1 rfl),rfl⟩ (.cons ⟨rfl,(vq 2 rfl),rfl⟩ (.cons ⟨rfl,(vq 3 rfl),rfl⟩ .nil))))) (oc (zan rfl rfl rfl (Str.zero zdb)) (oc (zaa rfl rfl rfl (vq 4 rfl) zg4 (Eq.trans (b:=16) rfl rfl)) o0))))))) (fun a w hst=>?_)
 have hst:St B w0 23 [(0,_)] [⟨2,278,ptrH,_⟩,⟨3,278,ptrH,_⟩] a w:=hst
 refine zt ?_
 refine wp_seq ?_
 refine gl (sts:=[none,none]) (news:=[]) (sp:=[.val 11 _,.val 12 _,.val 13 _]) [.o 0,.o 1,.o 2] hst (zv rfl rfl (za1 (gq 0 rfl)) (zv rfl rfl (zc1 Tryz.underlying276 (zbo hF hv0 (vq 0 rfl))) (zv rfl rfl (za1 za3) o0))) (fun a w hst=>?_)
 have hst:St B w0 23 [(11,_),(12,_),(13,_)] [⟨2,278,ptrH,_⟩,⟨3,278,ptrH,_⟩] a w:=hst
 refine za0 ?_
 refine wp_block ?_
 have hst:=St.sel hst [0,1,2]
 refine wp_loop_ghost (fun n a w=>∃ j:Nat,n+j=xs.length∧St B w0 23 [(11,EqV v0),(12,In (xs.length:Nat)),(13,In (j:Nat))] [⟨2,278,ptrH,RMA rm0⟩,⟨3,278,ptrH,QMA (1+16386*j) (filmQ (xs.take j))⟩] a w) (xs.length) ?_ ?_
 ·rw [List.length_map] at hst
  exact ⟨0,by omega,St.wkL (A:=QMA 2 ⟨1,0,0,1⟩) (A':=QMA (1+16386*0) (filmQ (xs.take 0))) hst 1 rfl (qm_rep rep_1)⟩
 intro n a w hI
 obtain ⟨j,hn,hst⟩:=hI
 refine wp_seq ?_
 refine gl (sts:=[none,none]) (news:=[]) (sp:=[.val 14 _]) [.g 0,.g 1,.g 2,.o 0] hst (zv rfl rfl (zb9 (gq 2 rfl) (gq 1 rfl)) o0) (fun a w hst=>?_)
 have hst:St B w0 23 [(11,_),(12,_),(13,_),(14,_)] [⟨2,278,ptrH,_⟩,⟨3,278,ptrH,_⟩] a w:=hst
 refine zt ?_
 refine za8 hst (zm 3 rfl) (fun hb0=>?_) (fun hb0=>?_)
 ·have hj:j<xs.length:=by simp at hb0; omega
  refine wp_skip ?_
  refine zt ?_
  refine wp_block ?_
  refine wp_seq ?_
  refine gl (sts:=[none,none]) (news:=[⟨5,157,ptrH,some 2,_,some (3,_)⟩]) (sp:=[.val 15 _,.val 16 _,.alc 2,.sto 2]) [.g 0,.g 1,.g 2] hst (zv rfl rfl (zgp sl_276 (map_n fun _=>rfl) (zbo hF hv0 (gq 0 rfl)) (gq 2 rfl) (zka hj)) (zv rfl rfl (zap (vq 0 rfl) zhv) (oc (zan rfl rfl rfl (Str.zero zgl)) (oc (zaa rfl rfl rfl (vq 1 rfl) zhv (Eq.trans (b:=8) rfl rfl)) o0)))) (fun a w hst=>?_)
  have hst:St B w0 23 [(11,_),(12,_),(13,_)] [⟨2,278,ptrH,_⟩,⟨3,278,ptrH,_⟩,⟨5,157,ptrH,_⟩] a w:=hst
  refine za0 ?_
  refine zau (anc:=[[],[],[1],[0,1,2],[0,1,2,3]]) (sts:=[none,some (4,_),none]) (news:=[]) (sp:=[.val 17 _,.val 18 _,.val 19 _,.val 20 _,.sto 1]) [.g 0,.g 1,.g 2] za6 hst (zv rfl rfl (zad (lz0 1 rfl) zg4) (zv rfl rfl (zad (lz0 2 rfl) zhv) (zv rfl rfl (za5 (xs:=[.tmp 18]) (sheet_x (List.all_eq_true.1 hx _ (List.getElem_mem hj))) (.cons (vq 1 rfl) .nil)) (zv rfl rfl (za5 (xs:=[.tmp 17,.tmp 19]) (then_q (c:=1+16386*j) (d:=26631) (m:=filmQ (xs.take j)) (n:=shM xs[j]) zo) (.cons (vq 0 rfl) (.cons (vq 2 rfl) .nil))) (oc (zaa rfl rfl rfl (vq 3 rfl) zg4 (Eq.trans (b:=16) rfl rfl)) o0))))) zk zk zk zk (fun a w hst=>?_)
  have hst:St B w0 23 [(11,_),(12,_),(13,_)] [⟨2,278,ptrH,_⟩,⟨3,278,ptrH,_⟩,⟨5,157,ptrH,_⟩] a w:=hst
  refine zas ?_
  refine za0 ?_
  refine gl (sts:=[none,none,none]) (news:=[]) (sp:=[.val 21 _,.val 13 _]) [.g 0,.g 1,.o 1] hst (zv rfl rfl (zbh (gq 2 rfl) za3 ((wi64 zo zo).trans (by omega:(_:Int)=((j+1:Nat):Int)))) (zv rfl rfl (za1 (vq 0 rfl)) o0)) (fun a w hst=>?_)
  have hst:St B w0 23 [(11,_),(12,_),(13,_)] [⟨2,278,ptrH,_⟩,⟨3,278,ptrH,_⟩,⟨5,157,ptrH,_⟩] a w:=hst
  refine za0 ?_
  have hst:=St.sel hst [0,1,2]
  have hst:=St.selL hst [0,1]
  have hst:=St.wkL (A':=QMA (1+16386*(j+1)) (filmQ (xs.take (j+1)))) hst 1 rfl ((zfa (congrArg (QMA _) (film_nx hj).symm)).trans (qm_rep (hr (j+1) zo)))
  exact ⟨n - 1,by omega,j+1,by omega,hst⟩
 ·obtain rfl:j=xs.length:=by simp at hb0; omega
  refine wp_exit ?_
  refine za7 ?_
  refine za7 ?_
  refine zag ?_
  refine zt ?_
  refine gl (sts:=[some (1,_),none]) (news:=[]) (sp:=[.val 22 _,.sto 0]) [] hst (zv rfl rfl (zad (lz0 1 rfl) zg4) (oc (zaa rfl rfl rfl (vq 0 rfl) zg4 (Eq.trans (b:=16) rfl rfl)) o0)) (fun a w hst=>?_)
  have hst:St B w0 23 [] [⟨2,278,ptrH,_⟩,⟨3,278,ptrH,_⟩] a w:=hst
  refine za0 ?_
  refine wp_ret ?_
  refine zaq ?_ (zal rfl hst (zm 0 rfl) zg4)
  rw [List.take_length]; exact (zbg (.cons (zc6 zo) (.cons (zc6 zo) (.cons (zc6 zo) (.cons (zc6 zo) .nil))))).va
def qdOf (m:MQ):RQ4:=⟨rgOf ⟨m.a,0⟩,rgOf ⟨0,m.b⟩,rgOf ⟨0,m.c⟩,rgOf ⟨m.d,0⟩⟩
def qdF (m:MQ):RQ4 × Int:=if [m.a,m.b,m.c,m.d].any longQ then (rq0,4) else (qdOf m,0)
abbrev QdR (r:RQ4 × Int):VA:=Tu [(RQA r.1).va,In r.2]
def stkF (xs:List RR):RQ4 × Int:=if mayS xs=0 then qdF (filmQ xs) else (rq0,mayS xs)
theorem qd_any {m:MQ} (h:[m.a,m.b,m.c,m.d].any longQ=true):qdF m=(rq0,4):=if_pos h
theorem qd_none {m:MQ} (h:[m.a,m.b,m.c,m.d].any longQ=false):qdF m=(qdOf m,0):=if_neg (by rw [h]; decide)
theorem ne_any {b:Bool} (h:((if b then (4:Int) else 0) != 0)=true):b=true:=by cases b with | true=>rfl | false=>simp at h
theorem ne_none {b:Bool} (h:((if b then (4:Int) else 0) != 0)=false):b=false:=by cases b with | false=>rfl | true=>simp at h
theorem gz {k l:Nat} {x y:Rat}:WkA (cat [QA k x,QA l y]) (RGA (rgOf ⟨x,y⟩)):=zbg (.cons qaA (.cons qaA .nil))
theorem quad_q {c:Nat} {m:MQ}:Cn Tryz.prog 318 [(QMA c m).va] (QdR (qdF m)):=by
 refine Cn.intro Tryz.func318 rfl zk nq (fun B w0 a hst=>?_)
 have hst:St B w0 41 [(0,(QMA c m).va)] [] a w0.w:=hst
 refine wp_seq ?_
 refine gl (sts:=[]) (news:=[⟨1,278,ptrH,some 0,_,none⟩,⟨2,98,ptrH,some 1,_,none⟩]) (sp:=[.alc 0,.alc 1,.val 3 _]) [.o 2] hst (oc (zai rfl rfl rfl (gq 0 rfl)) (oc (zan rfl rfl rfl (Str.zero zd7)) (zv rfl rfl (za2 za3) o0))) (fun a w hst=>?_)
 have hst:St B w0 41 [(3,_)] [⟨1,278,ptrH,_⟩,⟨2,98,ptrH,_⟩] a w:=hst
 refine zt ?_
 refine wp_seq ?_
 refine gl (sts:=[none,none]) (news:=[]) (sp:=[.adr 6 1 (.some 0) True,.val 7 _,.adr 8 1 (.some 4) True,.val 9 _,.adr 10 1 (.some 8) True,.val 11 _,.adr 12 1 (.some 12) True,.val 13 _,.val 14 _,.val 15 _,.val 4 _]) [.g 0,.o 10] hst (oc (ob_a rfl rfl (za9 (lz0 0 rfl) ze7)) (zv rfl rfl (za4 0 rfl zk trivial (lz0 0 rfl) (Sub.part 0 rfl rfl) zae) (oc (ob_a rfl rfl (za9 (lz0 0 rfl) ze6)) (zv rfl rfl (za4 2 rfl zk trivial (lz0 0 rfl) (Sub.part 1 rfl rfl) zae) (oc (ob_a rfl rfl (za9 (lz0 0 rfl) ze5)) (zv rfl rfl (za4 4 rfl zk trivial (lz0 0 rfl) (Sub.part 2 rfl rfl) zae) (oc (ob_a rfl rfl (za9 (lz0 0 rfl) ze4)) (zv rfl rfl (za4 6 rfl zk trivial (lz0 0 rfl) (Sub.part 3 rfl rfl) zae) (zv rfl rfl (zco (D:=[U32]) (l:=[_,_,_,_]) (xs:=[.tmp 7,.tmp 9,.tmp 11,.tmp 13]) (zf9 zk) zdt zk (n_ok zk) nq nq nq (.cons (vq 1 rfl) (.cons (vq 3 rfl) (.cons (vq 5 rfl) (.cons (vq 7 rfl) .nil)))) rfl rfl) (zv rfl rfl (za5 (xs:=[.tmp 14]) (answer_q [m.a,m.b,m.c,m.d] (.cons ⟨_,rfl⟩ (.cons ⟨_,rfl⟩ (.cons ⟨_,rfl⟩ (.cons ⟨_,rfl⟩ .nil)))) nq) (.cons (vq 8 rfl) .nil)) (zv rfl rfl (za2 (vq 9 rfl)) o0))))))))))) (fun a w hst=>?_)
 have hst:St B w0 41 [(3,_),(4,_)] [⟨1,278,ptrH,_⟩,⟨2,98,ptrH,_⟩] a w:=hst
 refine zt ?_
 refine gl (sts:=[none,none]) (news:=[]) (sp:=[.val 16 _,.val 17 _]) [.g 0,.g 1,.o 1] hst (zv rfl rfl (za1 (gq 1 rfl)) (zv rfl rfl (zd5 (vq 0 rfl) za3) o0)) (fun a w hst=>?_)
 have hst:St B w0 41 [(3,_),(4,_),(17,_)] [⟨1,278,ptrH,_⟩,⟨2,98,ptrH,_⟩] a w:=hst
 refine za0 ?_
 refine za8 hst (zm 2 rfl) (fun hb0=>?_) (fun hb0=>?_)
 ·have hl:=ne_any hb0
  refine wp_seq ?_
  refine gl (sts:=[none,some (2,_)]) (news:=[]) (sp:=[.val 18 _,.val 19 _,.sto 1,.val 3 _]) [.o 3] hst (zv rfl rfl (zb3 (xs:=[]) (qs:=[]) zd7 .nil) (zv rfl rfl (za1 (gq 1 rfl)) (oc (zaa rfl rfl rfl (vq 0 rfl) zea (Eq.trans (b:=32) rfl rfl)) (zv rfl rfl (za2 (vq 1 rfl)) o0)))) (fun a w hst=>?_)
  have hst:St B w0 41 [(3,_)] [⟨1,278,ptrH,_⟩,⟨2,98,ptrH,_⟩] a w:=hst
  refine za0 ?_
  refine wp_ret ?_
  refine zao ?_
  refine zaq ?_ (zat (rs:=[.cell 2 98,.tmp 3]) rfl hst (.cell (zm 1 rfl) zea (.tmp (zm 0 rfl) .nil)) zd)
  rw [qd_any hl]; exact tu2w zbt (zc3 (by rw [hl]; rfl))
 ·have hl:=ne_none hb0
  refine wp_skip ?_
  refine zt ?_
  refine gl (sts:=[none,none]) (news:=[]) (sp:=[.val 5 _]) [.g 0,.o 0] hst (zv rfl rfl (za2 has_fnE) o0) (fun a w hst=>?_)
  have hst:St B w0 41 [(3,_),(5,_)] [⟨1,278,ptrH,_⟩,⟨2,98,ptrH,_⟩] a w:=hst
  refine zt ?_
  refine zau (anc:=[[],[0],[],[2],[0,1,2,3],[],[2,3,5],[],[7],[2,3,5,6,7,8],[],[2,3,5,6,10],[],[12],[2,3,5,6,10,11,12,13],[],[15],[],[2,3,5,6,10,11,17],[2,3,5,6,10,11,15,16,17,18],[0,1,2,3,4,5,6,7,8,9,10,11,12,13,14,15,16,17,18,19],[0,1,2,3,4,5,6,7,8,9,10,11,12,13,14,15,16,17,18,19,20],[0,1,2,3,4,5,6,7,8,9,10,11,12,13,14,15,16,17,18,19,20,21]]) (sts:=[none,some (21,_)]) (news:=[]) (sp:=[.adr 20 1 (.some 0) True,.val 21 _,.val 22 _,.val 23 _,.val 24 _,.val 25 _,.val 26 _,.adr 27 1 (.some 4) True,.val 28 _,.val 29 _,.val 30 _,.val 31 _,.adr 32 1 (.some 8) True,.val 33 _,.val 34 _,.adr 35 1 (.some 12) True,.val 36 _,.val 37 _,.val 38 _,.val 39 _,.val 40 _,.sto 1,.val 3 _]) [.o 22] za6 hst (oc (ob_a rfl rfl (za9 (lz0 0 rfl) ze7)) (zv rfl rfl (za4 0 rfl zk trivial (lz0 0 rfl) (Sub.part 0 rfl rfl) zae) (zv rfl rfl (za1 (gq 1 rfl)) (zv rfl rfl (zky (xs:=[]) zey (vq 2 rfl) .nil) (zv rfl rfl (zb3 (xs:=[(0,.tmp 21),(1,.tmp 23)]) (qs:=[(0,_),(1,_)]) zaz (.cons ⟨rfl,(vq 1 rfl),rfl⟩ (.cons ⟨rfl,(vq 3 rfl),rfl⟩ .nil))) (zv rfl rfl (za1 (gq 1 rfl)) (zv rfl rfl (zky (xs:=[]) zey (vq 5 rfl) .nil) (oc (ob_a rfl rfl (za9 (lz0 0 rfl) ze6)) (zv rfl rfl (za4 7 rfl zk trivial (lz0 0 rfl) (Sub.part 1 rfl rfl) zae) (zv rfl rfl (zb3 (xs:=[(0,.tmp 26),(1,.tmp 28)]) (qs:=[(0,_),(1,_)]) zaz (.cons ⟨rfl,(vq 6 rfl),rfl⟩ (.cons ⟨rfl,(vq 8 rfl),rfl⟩ .nil))) (zv rfl rfl (za1 (gq 1 rfl)) (zv rfl rfl (zky (xs:=[]) zey (vq 10 rfl) .nil) (oc (ob_a rfl rfl (za9 (lz0 0 rfl) ze5)) (zv rfl rfl (za4 12 rfl zk trivial (lz0 0 rfl) (Sub.part 2 rfl rfl) zae) (zv rfl rfl (zb3 (xs:=[(0,.tmp 31),(1,.tmp 33)]) (qs:=[(0,_),(1,_)]) zaz (.cons ⟨rfl,(vq 11 rfl),rfl⟩ (.cons ⟨rfl,(vq 13 rfl),rfl⟩ .nil))) (oc (ob_a rfl rfl (za9 (lz0 0 rfl) ze4)) (zv rfl rfl (za4 15 rfl zk trivial (lz0 0 rfl) (Sub.part 3 rfl rfl) zae) (zv rfl rfl (za1 (gq 1 rfl)) (zv rfl rfl (zky (xs:=[]) zey (vq 17 rfl) .nil) (zv rfl rfl (zb3 (xs:=[(0,.tmp 36),(1,.tmp 38)]) (qs:=[(0,_),(1,_)]) zaz (.cons ⟨rfl,(vq 16 rfl),rfl⟩ (.cons ⟨rfl,(vq 18 rfl),rfl⟩ .nil))) (zv rfl rfl (zb3 (xs:=[(0,.tmp 24),(1,.tmp 29),(2,.tmp 34),(3,.tmp 39)]) (qs:=[(0,_),(1,_),(2,_),(3,_)]) zd7 (.cons ⟨rfl,(vq 4 rfl),rfl⟩ (.cons ⟨rfl,(vq 9 rfl),rfl⟩ (.cons ⟨rfl,(vq 14 rfl),rfl⟩ (.cons ⟨rfl,(vq 19 rfl),rfl⟩ .nil))))) (oc (zaa rfl rfl rfl (vq 20 rfl) zea (Eq.trans (b:=32) rfl rfl)) (zv rfl rfl (za2 za3) o0))))))))))))))))))))))) zk zk zk zk (fun a w hst=>?_)
  have hst:St B w0 41 [(3,_)] [⟨1,278,ptrH,_⟩,⟨2,98,ptrH,_⟩] a w:=hst
  refine za0 ?_
  refine wp_ret ?_
  refine zaq ?_ (zat (rs:=[.cell 2 98,.tmp 3]) rfl hst (.cell (zm 1 rfl) zea (.tmp (zm 0 rfl) .nil)) zd)
  rw [qd_none hl]; exact tu2w (zbg (.cons gz (.cons gz (.cons gz (.cons gz .nil))))).va zbt
theorem stack_c (xs:List RR):Cn Tryz.prog 237 [(SlA 157 [U32] (xs.map RRA)).va] (QdR (stkF xs)):=by
 refine Cn.introF Tryz.func237 rfl zk nq (fun B w0 a hF hst=>?_)
 have hst:St B w0 16 [(0,(SlA 157 [U32] (xs.map RRA)).va)] [] a w0.w:=hst
 obtain ⟨v0,hv0,hst⟩:=St.eqv hst 0 rfl
 refine wp_seq ?_
 refine gl (sts:=[]) (news:=[⟨2,98,ptrH,some 0,_,none⟩]) (sp:=[.alc 0,.val 3 _]) [.g 0,.o 1] hst (oc (zan rfl rfl rfl (Str.zero zd7)) (zv rfl rfl (za2 za3) o0)) (fun a w hst=>?_)
 have hst:St B w0 16 [(0,_),(3,_)] [⟨2,98,ptrH,_⟩] a w:=hst
 refine zt ?_
 refine wp_seq ?_
 refine gl (sts:=[none]) (news:=[]) (sp:=[.val 5 _,.val 6 _,.val 4 _]) [.g 0,.g 1,.o 2] hst (zv rfl rfl (za1 (gq 0 rfl)) (zv rfl rfl (za5 (xs:=[.tmp 5]) (filMay_c xs) (.cons (zbo hF hv0 (vq 0 rfl)) .nil)) (zv rfl rfl (za2 (vq 1 rfl)) o0))) (fun a w hst=>?_)
 have hst:St B w0 16 [(0,_),(3,_),(4,_)] [⟨2,98,ptrH,_⟩] a w:=hst
 refine zt ?_
 refine gl (sts:=[none]) (news:=[]) (sp:=[.val 7 _,.val 8 _]) [.g 0,.g 1,.g 2,.o 1] hst (zv rfl rfl (za1 (gq 2 rfl)) (zv rfl rfl (zd5 (vq 0 rfl) za3) o0)) (fun a w hst=>?_)
 have hst:St B w0 16 [(0,_),(3,_),(4,_),(8,_)] [⟨2,98,ptrH,_⟩] a w:=hst
 refine za0 ?_
 refine za8 hst (zm 3 rfl) (fun hb0=>?_) (fun hb0=>?_)
 ·have hc:¬ mayS xs=0:=by simpa using hb0
  refine wp_seq ?_
  refine gl (sts:=[some (2,_)]) (news:=[]) (sp:=[.val 9 _,.val 10 _,.sto 0,.val 3 _]) [.g 0,.o 3] hst (zv rfl rfl (zb3 (xs:=[]) (qs:=[]) zd7 .nil) (zv rfl rfl (za1 (gq 2 rfl)) (oc (zaa rfl rfl rfl (vq 0 rfl) zea (Eq.trans (b:=32) rfl rfl)) (zv rfl rfl (za2 (vq 1 rfl)) o0)))) (fun a w hst=>?_)
  have hst:St B w0 16 [(0,_),(3,_)] [⟨2,98,ptrH,_⟩] a w:=hst
  refine za0 ?_
  refine wp_ret ?_
  refine zao ?_
  refine zaq ?_ (zat (rs:=[.cell 2 98,.tmp 3]) rfl hst (.cell (zm 0 rfl) zea (.tmp (zm 1 rfl) .nil)) zd)
  rw [stkF,if_neg hc]; exact zbt
 ·have hc:mayS xs=0:=by simpa using hb0
  have hk:=may_ok hc
  refine wp_skip ?_
  refine zt ?_
  refine gl (sts:=[some (5,_)]) (news:=[]) (sp:=[.val 11 _,.val 12 _,.val 13 _,.val 14 _,.val 15 _,.sto 0,.val 3 _]) [.o 6] hst (zv rfl rfl (za1 (gq 0 rfl)) (zv rfl rfl (za5 (xs:=[.tmp 11]) (film_c hk.1 hk.2) (.cons (zbo hF hv0 (vq 0 rfl)) .nil)) (zv rfl rfl (za5 (xs:=[.tmp 12]) (quad_q (m:=filmQ xs)) (.cons (vq 1 rfl) .nil)) (zv rfl rfl (zgs (vq 2 rfl)) (zv rfl rfl (zgr (vq 2 rfl)) (oc (zaa rfl rfl rfl (vq 3 rfl) zea (Eq.trans (b:=32) rfl rfl)) (zv rfl rfl (za2 (vq 4 rfl)) o0))))))) (fun a w hst=>?_)
  have hst:St B w0 16 [(3,_)] [⟨2,98,ptrH,_⟩] a w:=hst
  refine za0 ?_
  refine wp_ret ?_
  refine zaq ?_ (zat (rs:=[.cell 2 98,.tmp 3]) rfl hst (.cell (zm 0 rfl) zea (.tmp (zm 0 rfl) .nil)) zd)
  rw [stkF,if_pos hc]; exact zbt
end Go.Proofs.YthncfchnkjemiaaGreatDoor
namespace Go.Proofs.YthncfchnkjemiaaGreatDoor
open Go Go.RowKit
section
variable {P:Program} {R:Rg} {Q:Exit→Act→World→Prop} {B i:Nat} {w0:Bs}
theorem ob_bsl {e d n:Nat} {S E:TypeId} {l:List As} {m:Nat} {xs:List Operand} {st:Option (Nat × As)} {ps':Array (Nat × Operand)} {ty:TypeId} {ps:String} {af:Array Edge} (hs:R.sp[i]?=some (.alc e)) (he:R.les[e]?=some ⟨d,E,slH n n,some i,cat l,st⟩)
  (ho:R.ops[i]?=some ⟨some d,.buildSlice S n ps',ty,ps,af,none⟩) (hS:Sl P S E m) (hz:((P.info? E).bind (·.zero)).isSome=true) (hm:∀ A∈l,A.n=m) (hm0:0<m) (hl0:0<l.length) (hsmall:l.length*m≤16777216)
  (hx:All2 (fun (A:As) x=>Has R B w0 i x A.va) l xs) (hps:ps'.toList=(xs.zipIdx 0).map fun x=>(x.2,x.1)) (hn:n=l.length):R.Ob P Q B w0 i:=by
 unfold Rg.Ob
 simp only [hs,he]
 intro a w av K hK
 subst hn
 obtain ⟨hs1,hs2⟩:=hS
 cases hi:P.info? E with
 | none=>rw [hi] at hs2; simp at hs2
 | some it =>
  rw [hi] at hs2 hz
  have hsz:it.size=m:=by simpa using hs2
  obtain ⟨z,hzz⟩:=Option.isSome_iff_exists.1 hz
  simp only [Option.bind_some] at hzz
  have hvs:All2 (fun (A:As) v=>A.va.p B v w) l (xs.map a.eval):=by
   clear hps hm hl0 hsmall ho he hK
   induction hx with
   | nil=>exact .nil
   | cons h _ ih=>exact .cons (h a w av) ih
  have hlen:=hvs.length
  have hvn:∀ v∈xs.map a.eval,v.cells.size=m:=by
   intro v hv
   obtain ⟨k,hk⟩:=List.getElem?_of_mem hv
   have hkl:k<l.length:=by rw [hlen]; exact (List.getElem?_eq_some_iff.1 hk).1
   obtain ⟨v',hv',cs,hp,he⟩:=hvs.get (List.getElem?_eq_getElem hkl)
   rw [hk] at hv'
   injection hv' with hv'
   subst hv'
   rw [he,As.cells_shape _ hp]
   have:=As.len _ _ _ _ hp
   simp [this]
   exact hm _ (by simp)
  have hf:=Great.fill_whole hm0 (xs.map a.eval) ((Array.range (l.length*m)).map (z.cells[· % z.cells.size]!)) hvn (by simp [hlen])
  have hrun:=run_buildSlice (P:=P) w S E l.length (ps'.map fun x=>(x.1,a.eval x.2)) ((xs.map a.eval).flatMap fun v=>v.cells.toList).toArray it z hs1 hi hzz (by rw [hsz]; omega) (by rw [hsz]; exact Nat.ne_of_gt (Nat.mul_pos hl0 hm0)) (by
   rw [hsz,← hf]
   congr 1
   rw [Array.toList_map,hps]
   simp [List.zipIdx_map,List.map_map,Function.comp_def])
  refine zc5 ho rfl (zbp (w':=w.alloc (.cells ((xs.map a.eval).flatMap fun v=>v.cells.toList).toArray E)) (v:=.slice (some ⟨w.heap.size,0,none⟩) l.length l.length) ?_ (hK w.heap.size _ _ (Grow.alloc _ _) (Nat.le_refl _) (heap_alloc_new w _) ((cat l).grow _ _ _ _ (Grow.alloc _ _) (zke hvs))))
  simp [execOp,hrun]
end
def okP (x:RF):Bool := !((![x].all okX) || decide ((toQ x).num.sign≤0))
def two (h g:RF) (j:Nat):RF:=if j=0 then h else g
theorem two_at {h g:RF} {j:Nat} (hj:j<2):[RFA h,RFA g][j]?=some (RFA (two h g j)) :=
 match j,hj with
 | 0,_=>rfl
 | 1,_=>rfl
theorem okP_no {x:RF} (h:((![x].all okX) || decide ((toQ x).num.sign≤0))=true):okP x=false:=by rw [okP,h]; rfl
theorem okP_yes {x:RF} (h:((![x].all okX) || decide ((toQ x).num.sign≤0))=false):okP x=true:=by rw [okP,h]; rfl
theorem okP_q {x:RF} (h:okP x=true):okX x=true∧0<toQ x:=by
 unfold okP at h
 rw [Bool.not_eq_true',Bool.or_eq_false_iff,Bool.not_eq_false'] at h
 refine ⟨by simpa using h.1,Decidable.byContradiction fun h2=>(of_decide_eq_false h.2) (sgn_le.2 h2)⟩
theorem sgn_p {x:RF} (h:(![x].all okX)=false):Cn Tryz.prog 90 [(RFA x).va] (In (toQ x).num.sign):=by
 rw [Bool.not_eq_false'] at h
 exact sign_q.wk (.cons (qa_x (by simpa using h) (Nat.le_refl 2048)).va .nil)
def overF (h g:RF) (xs:List RR):(RM × RF × RF) × Int:=if okP h && okP g then (if mayS xs=0 then ((rmOf (filmQ xs),h,g),0) else (lt0,mayS xs)) else (lt0,1)
abbrev OvR (r:(RM × RF × RF) × Int):VA:=Tu [(LtA r.1).va,In r.2]
theorem two_no {h g:RF} {j:Nat} (hj:j<2) (h2:okP (two h g j)=false):(okP h && okP g)=false:=by
 match j,hj with
 | 0,_=>have:okP h=false:=h2; rw [this]; rfl
 | 1,_=>have:okP g=false:=h2; rw [this,Bool.and_false]
theorem twoP_ok {h g:RF} (h2:∀ i,i<2→okP (two h g i)=true):(okP h && okP g)=true:=by
 have e0:okP h=true:=h2 0 zd
 have e1:okP g=true:=h2 1 zd
 rw [e0,e1]
 rfl
theorem two_nx {h g:RF} {j:Nat} (h1:∀ i,i<j→okP (two h g i)=true) (h2:okP (two h g j)=true):∀ i,i<j+1→okP (two h g i)=true:=fun i hi=>by
 by_cases e:i=j
 ·rw [e]; exact h2
 ·exact h1 i zo
set_option maxHeartbeats 2000000 in
theorem over_c (h g:RF) (xs:List RR):Cn Tryz.prog 313 [(RFA h).va,(RFA g).va,(SlA 157 [U32] (xs.map RRA)).va] (OvR (overF h g xs)):=by
 refine Cn.introF Tryz.func313 rfl zk nq (fun B w0 a hF hst=>?_)
 have hst:St B w0 41 [(0,(RFA h).va),(1,(RFA g).va),(2,(SlA 157 [U32] (xs.map RRA)).va)] [] a w0.w:=hst
 obtain ⟨v2,hv2,hst⟩:=St.eqv hst 2 rfl
 refine wp_seq ?_
 refine gl (sts:=[]) (news:=[⟨3,26,ptrH,some 0,_,none⟩,⟨4,26,ptrH,some 1,_,none⟩,⟨6,280,ptrH,some 2,_,none⟩]) (sp:=[.alc 0,.alc 1,.alc 2,.val 7 _]) [.g 2,.o 3] hst (oc (zai rfl rfl rfl (gq 0 rfl)) (oc (zai rfl rfl rfl (gq 1 rfl)) (oc (zan rfl rfl rfl (Str.zero zfc)) (zv rfl rfl (za2 za3) o0)))) (fun a w hst=>?_)
 have hst:St B w0 41 [(2,_),(7,_)] [⟨3,26,ptrH,_⟩,⟨4,26,ptrH,_⟩,⟨6,280,ptrH,_⟩] a w:=hst
 refine zt ?_
 refine wp_seq ?_
 refine gl (sts:=[none,none,none]) (news:=[⟨13,26,slH 2 2,some 2,_,none⟩]) (sp:=[.val 11 _,.val 12 _,.alc 3,.val 14 _,.val 15 _]) [.g 0,.g 1,.o 3,.o 4] hst (zv rfl rfl (zad (lz0 0 rfl) zae) (zv rfl rfl (zad (lz0 1 rfl) zae) (oc (ob_bsl (l:=[_,_]) (xs:=[.tmp 11,.tmp 12]) rfl rfl rfl zdt zk (n_ok zk) nq nq nq (.cons (vq 0 rfl) (.cons (vq 1 rfl) .nil)) rfl rfl) (zv rfl rfl (r_lenL (lz0 3 rfl) Tryz.underlying142) (zv rfl rfl (za1 za3) o0))))) (fun a w hst=>?_)
 have hst:St B w0 41 [(2,_),(7,_),(14,_),(15,_)] [⟨3,26,ptrH,_⟩,⟨4,26,ptrH,_⟩,⟨6,280,ptrH,_⟩,⟨13,26,slH 2 2,_⟩] a w:=hst
 refine za0 ?_
 refine wp_block ?_
 have hst:=St.sel hst [0,2,3]
 refine wp_loop_ghost (fun n a w=>∃ j:Nat,(n+j=2∧∀ i,i<j→okP (two h g i)=true)∧St B w0 41 [(2,EqV v2),(14,In (2:Nat)),(15,In (j:Nat))] [⟨3,26,ptrH,RFA h⟩,⟨4,26,ptrH,RFA g⟩,⟨6,280,ptrH,LtA lt0⟩,⟨13,26,slH 2 2,cat [RFA h,RFA g]⟩] a w) (2) ?_ ?_
 ·exact ⟨0,⟨rfl,fun i hi=>absurd hi (Nat.not_lt_zero i)⟩,hst⟩
 intro n a w hI
 obtain ⟨j,⟨hn,hno⟩,hst⟩:=hI
 refine wp_seq ?_
 refine gl (sts:=[none,none,none,none]) (news:=[]) (sp:=[.val 16 _]) [.g 0,.g 1,.g 2,.o 0] hst (zv rfl rfl (zb9 (gq 2 rfl) (gq 1 rfl)) o0) (fun a w hst=>?_)
 have hst:St B w0 41 [(2,_),(14,_),(15,_),(16,_)] [⟨3,26,ptrH,_⟩,⟨4,26,ptrH,_⟩,⟨6,280,ptrH,_⟩,⟨13,26,slH 2 2,_⟩] a w:=hst
 refine zt ?_
 refine za8 hst (zm 3 rfl) (fun hb0=>?_) (fun hb0=>?_)
 ·have hj:j<2:=by have:=of_decide_eq_true hb0; omega
  refine wp_skip ?_
  refine zt ?_
  refine wp_block ?_
  refine wp_seq ?_
  refine gl (sts:=[none,none,none,none]) (news:=[⟨9,26,ptrH,some 2,_,some (3,_)⟩]) (sp:=[.val 17 _,.val 18 _,.alc 4,.sto 4]) [.g 0,.g 1,.g 2] hst (zv rfl rfl (r_rowv (lz0 3 rfl) zdt (n_ok zk) (gq 2 rfl) (two_at hj) rfl) (zv rfl rfl (zap (vq 0 rfl) zae) (oc (zan rfl rfl rfl (Str.zero zav)) (oc (zaa rfl rfl rfl (vq 1 rfl) zae (Eq.trans (b:=4) rfl rfl)) o0)))) (fun a w hst=>?_)
  have hst:St B w0 41 [(2,_),(14,_),(15,_)] [⟨3,26,ptrH,_⟩,⟨4,26,ptrH,_⟩,⟨6,280,ptrH,_⟩,⟨13,26,slH 2 2,_⟩,⟨9,26,ptrH,_⟩] a w:=hst
  refine zt ?_
  refine gl (sts:=[none,none,none,none,none]) (news:=[]) (sp:=[.val 19 _,.val 20 _,.val 21 _,.val 22 _,.val 23 _,.val 24 (Wh (_=false) _),.val 25 (Wh (_=false) _),.val 26 (Wh (_=false) _),.val 27 _]) [.g 0,.g 1,.g 2,.o 8] hst (zv rfl rfl (zad (lz0 4 rfl) zae) (zv rfl rfl (zco (D:=[U32]) (l:=[_]) (xs:=[.tmp 19]) (zf9 zk) zdt zk (n_ok zk) nq nq nq (.cons (vq 0 rfl) .nil) rfl rfl) (zv rfl rfl (za5 (xs:=[.tmp 20]) (checks_c [_] nq) (.cons (vq 1 rfl) .nil)) (zv rfl rfl (zew (vq 2 rfl)) (zv rfl rfl (za1 (vq 3 rfl)) (oc (zam rfl rfl rfl (vq 4 rfl) nq (fun hg=>zad (lz0 4 rfl) zae)) (oc (zam rfl rfl rfl (vq 4 rfl) nq (fun hg=>za5 (xs:=[.tmp 24]) (sgn_p hg) (.cons (zac (vq 5 rfl) hg) .nil))) (oc (zam rfl rfl rfl (vq 4 rfl) nq (fun hg=>r_leq (zac (vq 6 rfl) hg) za3)) (zv rfl rfl (r_or (vq 4 rfl) (vq 7 rfl)) o0))))))))) (fun a w hst=>?_)
  have hst:St B w0 41 [(2,_),(14,_),(15,_),(27,_)] [⟨3,26,ptrH,_⟩,⟨4,26,ptrH,_⟩,⟨6,280,ptrH,_⟩,⟨13,26,slH 2 2,_⟩,⟨9,26,ptrH,_⟩] a w:=hst
  refine za0 ?_
  refine za8 hst (zm 3 rfl) (fun hb1=>?_) (fun hb1=>?_)
  ·refine wp_seq ?_
   refine gl (sts:=[none,none,some (1,_),none,none]) (news:=[]) (sp:=[.val 28 _,.sto 2,.val 7 _]) [.g 0,.g 1,.g 2,.o 2] hst (zv rfl rfl (zb3 (xs:=[]) (qs:=[]) zfc .nil) (oc (zaa rfl rfl rfl (vq 0 rfl) zhu (Eq.trans (b:=24) rfl rfl)) (zv rfl rfl (za2 za3) o0))) (fun a w hst=>?_)
   have hst:St B w0 41 [(2,_),(14,_),(15,_),(7,_)] [⟨3,26,ptrH,_⟩,⟨4,26,ptrH,_⟩,⟨6,280,ptrH,_⟩,⟨13,26,slH 2 2,_⟩,⟨9,26,ptrH,_⟩] a w:=hst
   refine za0 ?_
   refine wp_ret ?_
   refine zbx ?_
   refine zao ?_
   refine zao ?_
   refine zbx ?_
   refine zao ?_
   refine zaq ?_ (zat (rs:=[.cell 6 280,.tmp 7]) rfl hst (.cell (zm 2 rfl) zhu (.tmp (zm 3 rfl) .nil)) zd)
   rw [overF,two_no hj (okP_no hb1)]; exact zbt
  ·refine wp_skip ?_
   refine zas ?_
   refine za0 ?_
   refine gl (sts:=[none,none,none,none,none]) (news:=[]) (sp:=[.val 29 _,.val 15 _]) [.g 0,.g 1,.o 1] hst (zv rfl rfl (zbh (gq 2 rfl) za3 ((wi64 zo zo).trans (by omega:(_:Int)=((j+1:Nat):Int)))) (zv rfl rfl (za1 (vq 0 rfl)) o0)) (fun a w hst=>?_)
   have hst:St B w0 41 [(2,_),(14,_),(15,_)] [⟨3,26,ptrH,_⟩,⟨4,26,ptrH,_⟩,⟨6,280,ptrH,_⟩,⟨13,26,slH 2 2,_⟩,⟨9,26,ptrH,_⟩] a w:=hst
   refine za0 ?_
   have hst:=St.sel hst [0,1,2]
   have hst:=St.selL hst [0,1,2,3]
   exact ⟨n - 1,by omega,j+1,⟨by omega,two_nx hno (okP_yes hb1)⟩,hst⟩
 ·obtain rfl:j=2:=by have:=of_decide_eq_false hb0; omega
  refine wp_exit ?_
  refine za7 ?_
  refine za7 ?_
  refine zag ?_
  refine zt ?_
  refine wp_seq ?_
  refine gl (sts:=[none,none,none,none]) (news:=[]) (sp:=[.val 30 _,.val 31 _,.val 10 _]) [.g 0,.o 2] hst (zv rfl rfl (za1 (gq 0 rfl)) (zv rfl rfl (za5 (xs:=[.tmp 30]) (filMay_c xs) (.cons (zbo hF hv2 (vq 0 rfl)) .nil)) (zv rfl rfl (za2 (vq 1 rfl)) o0))) (fun a w hst=>?_)
  have hst:St B w0 41 [(2,_),(10,_)] [⟨3,26,ptrH,_⟩,⟨4,26,ptrH,_⟩,⟨6,280,ptrH,_⟩,⟨13,26,slH 2 2,_⟩] a w:=hst
  refine zt ?_
  refine gl (sts:=[none,none,none,none]) (news:=[]) (sp:=[.val 32 _,.val 33 _]) [.g 0,.g 1,.o 1] hst (zv rfl rfl (za1 (gq 1 rfl)) (zv rfl rfl (zd5 (vq 0 rfl) za3) o0)) (fun a w hst=>?_)
  have hst:St B w0 41 [(2,_),(10,_),(33,_)] [⟨3,26,ptrH,_⟩,⟨4,26,ptrH,_⟩,⟨6,280,ptrH,_⟩,⟨13,26,slH 2 2,_⟩] a w:=hst
  refine za0 ?_
  refine za8 hst (zm 2 rfl) (fun hb2=>?_) (fun hb2=>?_)
  ·have hc:¬ mayS xs=0:=by simpa using hb2
   refine wp_seq ?_
   refine gl (sts:=[none,none,some (2,_),none]) (news:=[]) (sp:=[.val 34 _,.val 35 _,.sto 2,.val 7 _]) [.g 0,.o 3] hst (zv rfl rfl (zb3 (xs:=[]) (qs:=[]) zfc .nil) (zv rfl rfl (za1 (gq 1 rfl)) (oc (zaa rfl rfl rfl (vq 0 rfl) zhu (Eq.trans (b:=24) rfl rfl)) (zv rfl rfl (za2 (vq 1 rfl)) o0)))) (fun a w hst=>?_)
   have hst:St B w0 41 [(2,_),(7,_)] [⟨3,26,ptrH,_⟩,⟨4,26,ptrH,_⟩,⟨6,280,ptrH,_⟩,⟨13,26,slH 2 2,_⟩] a w:=hst
   refine za0 ?_
   refine wp_ret ?_
   refine zao ?_
   refine zaq ?_ (zat (rs:=[.cell 6 280,.tmp 7]) rfl hst (.cell (zm 2 rfl) zhu (.tmp (zm 1 rfl) .nil)) zd)
   rw [overF,twoP_ok hno,if_pos rfl,if_neg hc]; exact zbt
  ·have hc:mayS xs=0:=by simpa using hb2
   have hk:=may_ok hc
   refine wp_skip ?_
   refine zt ?_
   refine zau (anc:=[[],[0],[],[],[0,1,2,3],[0,1,2,3,4],[0,1,2,3,4,5]]) (sts:=[none,none,some (5,_),none]) (news:=[]) (sp:=[.val 36 _,.val 37 _,.val 38 _,.val 39 _,.val 40 _,.sto 2,.val 7 _]) [.o 6] za6 hst (zv rfl rfl (za1 (gq 0 rfl)) (zv rfl rfl (za5 (xs:=[.tmp 36]) (film_c hk.1 hk.2) (.cons (zbo hF hv2 (vq 0 rfl)) .nil)) (zv rfl rfl (zad (lz0 0 rfl) zae) (zv rfl rfl (zad (lz0 1 rfl) zae) (zv rfl rfl (zb3 (xs:=[(0,.tmp 37),(1,.tmp 38),(2,.tmp 39)]) (qs:=[(0,_),(1,_),(2,_)]) zfc (.cons ⟨rfl,(vq 1 rfl),rfl⟩ (.cons ⟨rfl,(vq 2 rfl),rfl⟩ (.cons ⟨rfl,(vq 3 rfl),rfl⟩ .nil)))) (oc (zaa rfl rfl rfl (vq 4 rfl) zhu (Eq.trans (b:=24) rfl rfl)) (zv rfl rfl (za2 za3) o0))))))) zk zk zk zk (fun a w hst=>?_)
   have hst:St B w0 41 [(7,_)] [⟨3,26,ptrH,_⟩,⟨4,26,ptrH,_⟩,⟨6,280,ptrH,_⟩,⟨13,26,slH 2 2,_⟩] a w:=hst
   refine za0 ?_
   refine wp_ret ?_
   refine zaq ?_ (zat (rs:=[.cell 6 280,.tmp 7]) rfl hst (.cell (zm 2 rfl) zhu (.tmp (zm 0 rfl) .nil)) zd)
   rw [overF,twoP_ok hno,if_pos rfl,if_pos hc]; exact tu2w (zbg (.cons qmA (.cons (WkA.refl _) (.cons (WkA.refl _) .nil)))).va zbt
def bV (m:MQ) (h g:Rat):GQ:=⟨h*m.a,h*(m.b*g)⟩
def kV (m:MQ) (_ g:Rat):GQ:=⟨m.d*g,m.c⟩
def sV (m:MQ) (h g:Rat):GQ:=addG (bV m h g) (kV m h g)
def backV (m:MQ) (h g:Rat):GQ:=overG (subG (bV m h g) (kV m h g)) (sV m h g)
def thrV (m:MQ) (h g:Rat):GQ:=overG ⟨h+h,0⟩ (sV m h g)
theorem gk {k l p:Nat} {x y:Rat} (h1:k≤p) (h2:l≤p):WkA (cat [QA k x,QA l y]) (QGA p ⟨x,y⟩):=zbg (.cons (zc6 h1) (.cons (zc6 h2) .nil))
set_option maxHeartbeats 2000000 in
theorem waves_q {m:MQ} {h g:Rat} (hn:normG (sV m h g)≠0):Cn Tryz.prog 314 [(QLtA 1048705 2048 2048 m h g).va] (Tu [(QGA 30000000 (backV m h g)).va,(QGA 30000000 (thrV m h g)).va]):=by
 refine Cn.intro Tryz.func314 rfl zk nq (fun B w0 a hst=>?_)
 have hst:St B w0 49 [(0,(QLtA 1048705 2048 2048 m h g).va)] [] a w0.w:=hst
 refine wp_seq ?_
 refine gl (sts:=[]) (news:=[⟨1,280,ptrH,some 0,_,none⟩,⟨2,73,ptrH,some 1,_,none⟩,⟨3,73,ptrH,some 2,_,none⟩]) (sp:=[.alc 0,.alc 1,.alc 2]) [] hst (oc (zai rfl rfl rfl (gq 0 rfl)) (oc (zan rfl rfl rfl (Str.zero zaz)) (oc (zan rfl rfl rfl (Str.zero zaz)) o0))) (fun a w hst=>?_)
 have hst:St B w0 49 [] [⟨1,280,ptrH,_⟩,⟨2,73,ptrH,_⟩,⟨3,73,ptrH,_⟩] a w:=hst
 refine zt ?_
 refine zau (anc:=[[],[0],[],[2],[2,3],[0,1,2,3,4],[],[6],[],[8],[8,9],[],[11],[0,1,2,3,4,5,8,9,10,11,12],[0,1,2,3,4,5,6,7,8,9,10,11,12,13],[0,1,2,3,4,5,6,7,8,9,10,11,12,13,14],[],[0,1,2,3,4,5,6,7,8,9,10,11,12,13,14,15,16]]) (sts:=[none,none,none]) (news:=[⟨4,73,ptrH,some 16,_,some (17,_)⟩]) (sp:=[.adr 7 1 (.some 16) True,.val 8 _,.adr 9 1 (.some 0) True,.adr 10 1 (.some (0+0)) True,.val 11 _,.val 12 _,.adr 13 1 (.some 16) True,.val 14 _,.adr 15 1 (.some 0) True,.adr 16 1 (.some (0+4)) True,.val 17 _,.adr 18 1 (.some 20) True,.val 19 _,.val 20 _,.val 21 _,.val 22 _,.alc 3,.sto 3]) [] za6 hst (oc (ob_a rfl rfl (za9 (lz0 0 rfl) zh3)) (zv rfl rfl (za4 0 rfl zk trivial (lz0 0 rfl) (Sub.part 1 rfl rfl) zae) (oc (ob_a rfl rfl (za9 (lz0 0 rfl) zh4)) (oc (ob_a rfl rfl (zhe 2 rfl zk trivial (lz0 0 rfl) ze7)) (zv rfl rfl (za4 3 rfl zk trivial (lz0 0 rfl) (Sub.trans (Sub.part 0 rfl rfl) (Sub.part 0 rfl rfl) rfl) zae) (zv rfl rfl (za5 (xs:=[.tmp 8,.tmp 11]) (zd0 zd) (.cons (vq 1 rfl) (.cons (vq 4 rfl) .nil))) (oc (ob_a rfl rfl (za9 (lz0 0 rfl) zh3)) (zv rfl rfl (za4 6 rfl zk trivial (lz0 0 rfl) (Sub.part 1 rfl rfl) zae) (oc (ob_a rfl rfl (za9 (lz0 0 rfl) zh4)) (oc (ob_a rfl rfl (zhe 8 rfl zk trivial (lz0 0 rfl) ze6)) (zv rfl rfl (za4 9 rfl zk trivial (lz0 0 rfl) (Sub.trans (Sub.part 0 rfl rfl) (Sub.part 1 rfl rfl) rfl) zae) (oc (ob_a rfl rfl (za9 (lz0 0 rfl) fld_280_2)) (zv rfl rfl (za4 11 rfl zk trivial (lz0 0 rfl) (Sub.part 2 rfl rfl) zae) (zv rfl rfl (za5 (xs:=[.tmp 17,.tmp 19]) (zd0 zd) (.cons (vq 10 rfl) (.cons (vq 12 rfl) .nil))) (zv rfl rfl (za5 (xs:=[.tmp 14,.tmp 20]) (zd0 zd) (.cons (vq 7 rfl) (.cons (vq 13 rfl) .nil))) (zv rfl rfl (zb3 (xs:=[(0,.tmp 12),(1,.tmp 21)]) (qs:=[(0,_),(1,_)]) zaz (.cons ⟨rfl,(vq 5 rfl),rfl⟩ (.cons ⟨rfl,(vq 14 rfl),rfl⟩ .nil))) (oc (zan rfl rfl rfl (Str.zero zaz)) (oc (zaa rfl rfl rfl (vq 15 rfl) zb1 (Eq.trans (b:=8) rfl rfl)) o0)))))))))))))))))) zk zk zk zk (fun a w hst=>?_)
 have hst:St B w0 49 [] [⟨1,280,ptrH,_⟩,⟨2,73,ptrH,_⟩,⟨3,73,ptrH,_⟩,⟨4,73,ptrH,_⟩] a w:=hst
 have hst:=St.wkL (A':=QGA 1052801 (bV m h g)) hst 3 rfl (gk zd zd)
 refine zt ?_
 refine zau (anc:=[[],[0],[0,1],[],[3],[0,1,2,3,4],[],[6],[6,7],[0,1,2,3,4,5,6,7,8],[],[0,1,2,3,4,5,6,7,8,9,10]]) (sts:=[none,none,none,none]) (news:=[⟨5,73,ptrH,some 10,_,some (11,_)⟩]) (sp:=[.adr 23 1 (.some 0) True,.adr 24 1 (.some (0+12)) True,.val 25 _,.adr 26 1 (.some 20) True,.val 27 _,.val 28 _,.adr 29 1 (.some 0) True,.adr 30 1 (.some (0+8)) True,.val 31 _,.val 32 _,.alc 4,.sto 4]) [] za6 hst (oc (ob_a rfl rfl (za9 (lz0 0 rfl) zh4)) (oc (ob_a rfl rfl (zhe 0 rfl zk trivial (lz0 0 rfl) ze4)) (zv rfl rfl (za4 1 rfl zk trivial (lz0 0 rfl) (Sub.trans (Sub.part 0 rfl rfl) (Sub.part 3 rfl rfl) rfl) zae) (oc (ob_a rfl rfl (za9 (lz0 0 rfl) fld_280_2)) (zv rfl rfl (za4 3 rfl zk trivial (lz0 0 rfl) (Sub.part 2 rfl rfl) zae) (zv rfl rfl (za5 (xs:=[.tmp 25,.tmp 27]) (zd0 zd) (.cons (vq 2 rfl) (.cons (vq 4 rfl) .nil))) (oc (ob_a rfl rfl (za9 (lz0 0 rfl) zh4)) (oc (ob_a rfl rfl (zhe 6 rfl zk trivial (lz0 0 rfl) ze5)) (zv rfl rfl (za4 7 rfl zk trivial (lz0 0 rfl) (Sub.trans (Sub.part 0 rfl rfl) (Sub.part 2 rfl rfl) rfl) zae) (zv rfl rfl (zb3 (xs:=[(0,.tmp 28),(1,.tmp 31)]) (qs:=[(0,_),(1,_)]) zaz (.cons ⟨rfl,(vq 5 rfl),rfl⟩ (.cons ⟨rfl,(vq 8 rfl),rfl⟩ .nil))) (oc (zan rfl rfl rfl (Str.zero zaz)) (oc (zaa rfl rfl rfl (vq 9 rfl) zb1 (Eq.trans (b:=8) rfl rfl)) o0)))))))))))) zk zk zk zk (fun a w hst=>?_)
 have hst:St B w0 49 [] [⟨1,280,ptrH,_⟩,⟨2,73,ptrH,_⟩,⟨3,73,ptrH,_⟩,⟨4,73,ptrH,_⟩,⟨5,73,ptrH,_⟩] a w:=hst
 have hst:=St.wkL (A':=QGA 1052801 (kV m h g)) hst 4 rfl (gk zd zd)
 refine zt ?_
 refine gl (sts:=[none,none,none,none,none]) (news:=[⟨6,73,ptrH,some 3,_,some (4,_)⟩]) (sp:=[.val 33 _,.val 34 _,.val 35 _,.alc 5,.sto 5]) [] hst (zv rfl rfl (zad (lz0 3 rfl) zb1) (zv rfl rfl (zad (lz0 4 rfl) zb1) (zv rfl rfl (za5 (xs:=[.tmp 33,.tmp 34]) (argPlus_q (c:=1052801) (d:=1052801) (z:=bV m h g) (u:=kV m h g) zd) (.cons (vq 0 rfl) (.cons (vq 1 rfl) .nil))) (oc (zan rfl rfl rfl (Str.zero zaz)) (oc (zaa rfl rfl rfl (vq 2 rfl) zb1 (Eq.trans (b:=8) rfl rfl)) o0))))) (fun a w hst=>?_)
 have hst:St B w0 49 [] [⟨1,280,ptrH,_⟩,⟨2,73,ptrH,_⟩,⟨3,73,ptrH,_⟩,⟨4,73,ptrH,_⟩,⟨5,73,ptrH,_⟩,⟨6,73,ptrH,_⟩] a w:=hst
 refine zt ?_
 refine zau (anc:=[[],[],[0,1],[],[0,1,2,3],[],[5],[],[7],[0,1,2,3,4,5,6,7,8],[0,1,2,3,4,5,6,7,8,9],[],[0,1,2,3,4,5,6,7,8,9,10,11],[0,1,2,3,4,5,6,7,8,9,10,11,12],[0,1,2,3,4,5,6,7,8,9,10,11,12,13]]) (sts:=[none,some (13,_),some (14,_),none,none,none]) (news:=[]) (sp:=[.val 36 _,.val 37 _,.val 38 _,.val 39 _,.val 40 _,.adr 41 1 (.some 16) True,.val 42 _,.adr 43 1 (.some 16) True,.val 44 _,.val 45 _,.val 46 _,.val 47 _,.val 48 _,.sto 1,.sto 2]) [] za6 hst (zv rfl rfl (zad (lz0 3 rfl) zb1) (zv rfl rfl (zad (lz0 4 rfl) zb1) (zv rfl rfl (za5 (xs:=[.tmp 36,.tmp 37]) (argMinus_q (c:=1052801) (d:=1052801) (z:=bV m h g) (u:=kV m h g) zd) (.cons (vq 0 rfl) (.cons (vq 1 rfl) .nil))) (zv rfl rfl (zad (lz0 5 rfl) zb1) (zv rfl rfl (za5 (xs:=[.tmp 38,.tmp 39]) (argOver_q (c:=2105603) (d:=2105603) (z:=subG (bV m h g) (kV m h g)) (u:=sV m h g) zd hn) (.cons (vq 2 rfl) (.cons (vq 3 rfl) .nil))) (oc (ob_a rfl rfl (za9 (lz0 0 rfl) zh3)) (zv rfl rfl (za4 5 rfl zk trivial (lz0 0 rfl) (Sub.part 1 rfl rfl) zae) (oc (ob_a rfl rfl (za9 (lz0 0 rfl) zh3)) (zv rfl rfl (za4 7 rfl zk trivial (lz0 0 rfl) (Sub.part 1 rfl rfl) zae) (zv rfl rfl (za5 (xs:=[.tmp 42,.tmp 44]) (ziw zd) (.cons (vq 6 rfl) (.cons (vq 8 rfl) .nil))) (zv rfl rfl (za5 (xs:=[.tmp 45]) (real_q (c:=4097) zd) (.cons (vq 9 rfl) .nil)) (zv rfl rfl (zad (lz0 5 rfl) zb1) (zv rfl rfl (za5 (xs:=[.tmp 46,.tmp 47]) (argOver_q (c:=4099) (d:=2105603) (z:=⟨h+h,0⟩) (u:=sV m h g) zd hn) (.cons (vq 10 rfl) (.cons (vq 11 rfl) .nil))) (oc (zaa rfl rfl rfl (vq 4 rfl) zb1 (Eq.trans (b:=8) rfl rfl)) (oc (zaa rfl rfl rfl (vq 12 rfl) zb1 (Eq.trans (b:=8) rfl rfl)) o0))))))))))))))) zk zk zk zk (fun a w hst=>?_)
 have hst:St B w0 49 [] [⟨1,280,ptrH,_⟩,⟨2,73,ptrH,_⟩,⟨3,73,ptrH,_⟩,⟨4,73,ptrH,_⟩,⟨5,73,ptrH,_⟩,⟨6,73,ptrH,_⟩] a w:=hst
 refine za0 ?_
 refine wp_ret ?_
 refine zaq ?_ (zat (rs:=[.cell 2 73,.cell 3 73]) rfl hst (.cell (zm 1 rfl) zb1 (.cell (zm 2 rfl) zb1 .nil)) zd)
 exact tu2w (zi9 zd).va (zi9 zd).va
def rV (m:MQ) (h g:Rat):Rat:=normG (subG (bV m h g) (kV m h g)) / normG (sV m h g)
def dtp (m:MQ):Rat:=m.a*m.d+m.b*m.c
theorem dtp_phi (m:MQ):detM (phi m)=dtp m:=by unfold detM phi dtp; grind
theorem dtp_then (m n:MQ):dtp (thenQ m n)=dtp m*dtp n:=by rw [← dtp_phi,phi_then,det_mul,dtp_phi,dtp_phi]
theorem unit_1 {A B' N:Rat} (h:N≠0) (e:A*A+B'*B'=N*N):A / N*(A / N)+B' / N*(B' / N)=1:=by grind
theorem unit_n (t:Rat):(unitG t).re*(unitG t).re+(unitG t).im*(unitG t).im=1:=by
 obtain ⟨u1,u2⟩:=unit_e t
 rw [u1,u2]
 have hN:(((t.den:Int)*(t.den:Int)+t.num*t.num:Int):Rat)≠0:=fun e=>norm_z t (by
  unfold normG zG
  simp only
  rw [Rat.intCast_add,Rat.intCast_mul,Rat.intCast_mul] at e
  exact e)
 refine unit_1 hN ?_
 simp only [Rat.intCast_add,Rat.intCast_sub,Rat.intCast_mul]
 grind
theorem sh_det {n t:Rat} (h0:n≠0):dtp (shQ n t)=1:=by
 have h:=unit_n t
 unfold dtp shQ
 simp only
 generalize (unitG t).re=x at *
 generalize (unitG t).im=y at *
 have e:y / n*(y*n)=y*y:=by grind
 rw [e]
 exact h
theorem film_det {xs:List RR} (h:xs.all okH=true):dtp (filmQ xs)=1:=by
 have key:∀ j,j≤xs.length→dtp (filmQ (xs.take j))=1:=by
  intro j
  induction j with
  | zero=>intro _; show (1:Rat)*1+0*0=1; grind
  | succ j ih =>
   intro hj
   have ho:=List.all_eq_true.1 h _ (List.getElem_mem (show j<xs.length by omega))
   have e:dtp (shM xs[j])=1:=sh_det (Rat.ne_of_gt (okH_q ho).2)
   rw [film_nx zo,dtp_then,ih zo,e]
   exact Rat.one_mul 1
 have:=key xs.length (Nat.le_refl _)
 rwa [List.take_length] at this
theorem sum_norm {m:MQ} {h g:Rat} (hd:dtp m=1):normG (sV m h g)=normG (subG (bV m h g) (kV m h g))+4*(h*g):=by
 unfold dtp at hd
 unfold sV normG addG subG bV kV
 simp only
 have e:4*(h*g)=4*(h*g)*(m.a*m.d+m.b*m.c):=by rw [hd,Rat.mul_one]
 rw [e]
 grind
theorem norm_nn (z:GQ):0≤normG z:=Rat.add_nonneg (sq_nn z.re) (sq_nn z.im)
theorem sum_pos {m:MQ} {h g:Rat} (hd:dtp m=1) (hh:0<h) (hg:0<g):0<normG (sV m h g):=by
 have h1:=norm_nn (subG (bV m h g) (kV m h g))
 have h2:=Rat.mul_pos hh hg
 rw [sum_norm hd]
 grind
theorem over_norm {x y a b:Rat} (h:a*a+b*b≠0):(x*a - y*(-b))*(1 / (a*a+b*b))*((x*a - y*(-b))*(1 / (a*a+b*b)))+(x*(-b)+y*a)*(1 / (a*a+b*b))*((x*(-b)+y*a)*(1 / (a*a+b*b)))=(x*x+y*y) / (a*a+b*b):=by grind
theorem norm_over {z u:GQ} (h:normG u≠0):normG (overG z u)=normG z / normG u:=over_norm h
theorem r_val {m:MQ} {h g:Rat} (hn:normG (sV m h g)≠0):normG (backV m h g)=rV m h g:=norm_over hn
end Go.Proofs.YthncfchnkjemiaaGreatDoor
