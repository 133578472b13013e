import Derived.Test.YthncfchnkjemiaaGreatDoorFdAa
import Derived.Test.YthncfchnkjemiaaGreatDoorFdAc
import Derived.Test.YthncfchnkjemiaaGreatDoorFdBb
set_option linter.unusedVariables false
set_option linter.unusedSimpArgs false
set_option linter.unusedSectionVars false
set_option maxRecDepth 100000
namespace Go.Proofs.YthncfchnkjemiaaGreatDoor
open Go Go.RowKit
def pwF (h g:RF) (xs:List RR):RF × RF × Int:=if (overF h g xs).2=0 then (if [(rV (filmQ xs) (toQ h) (toQ g)),1 - (rV (filmQ xs) (toQ h) (toQ g))].any longQ then (rf0,rf0,4) else (rfOf (rV (filmQ xs) (toQ h) (toQ g)),rfOf (1 - (rV (filmQ xs) (toQ h) (toQ g))),0)) else (rf0,rf0,(overF h g xs).2)
abbrev PwR (r:RF × RF × Int):VA:=Tu [(RFA r.1).va,(RFA r.2.1).va,In r.2.2]
theorem ov_ok {h g:RF} {xs:List RR} (e:(overF h g xs).2=0):okP h=true∧okP g=true∧mayS xs=0∧overF h g xs=((rmOf (filmQ xs),h,g),0):=by
 unfold overF at e ⊢
 cases h1:okP h with
 | false=>rw [h1] at e; simp at e
 | true =>
  cases h2:okP g with
  | false=>rw [h1,h2] at e; simp at e
  | true =>
   simp only [h1,h2,Bool.and_self,if_true] at e ⊢
   by_cases h3:mayS xs=0
   ·rw [if_pos h3]
    exact ⟨trivial,trivial,h3,rfl⟩
   ·rw [if_neg h3] at e
    exact absurd e h3
theorem rm_rep {k:Nat} {m:MQ} (h:RepM k m):WkA (RMA (rmOf m)) (QMA k m):=by
 obtain ⟨h1,h2,h3,h4⟩:=rep_bQ h
 exact zbg (.cons (qa_of h1.1 h1.2) (.cons (qa_of h2.1 h2.2) (.cons (qa_of h3.1 h3.2) (.cons (qa_of h4.1 h4.2) .nil))))
theorem film_rep' {xs:List RR} (h:mayS xs=0):RepM 1048705 (filmQ xs):=by
 obtain ⟨h1,h2⟩:=may_ok h
 have:=film_rep h2 xs.length (Nat.le_refl _)
 rw [List.take_length] at this
 exact rep_mono this zo
theorem pw_lt {h g:RF} {xs:List RR} (e:(overF h g xs).2=0):WkA (LtA (overF h g xs).1) (QLtA 1048705 2048 2048 (filmQ xs) (toQ h) (toQ g)):=by
 obtain ⟨h1,h2,h3,h4⟩:=ov_ok e
 rw [h4]
 exact zbg (.cons (rm_rep (film_rep' h3)) (.cons (qa_x (okP_q h1).1 (Nat.le_refl _)) (.cons (qa_x (okP_q h2).1 (Nat.le_refl _)) .nil)))
theorem pw_n {h g:RF} {xs:List RR} (e:(overF h g xs).2=0):normG (sV (filmQ xs) (toQ h) (toQ g))≠0:=by
 obtain ⟨h1,h2,h3,_⟩:=ov_ok e
 exact Rat.ne_of_gt (sum_pos (film_det (may_ok h3).2) (okP_q h1).2 (okP_q h2).2)
set_option maxHeartbeats 2000000 in
theorem powers_c (h g:RF) (xs:List RR):Cn Tryz.prog 234 [(RFA h).va,(RFA g).va,(SlA 157 [U32] (xs.map RRA)).va] (PwR (pwF h g xs)):=by
 refine Cn.introF Tryz.func234 rfl zk nq (fun B w0 a hF hst=>?_)
 have hst:St B w0 46 [(0,(RFA h).va),(1,(RFA g).va),(2,(SlA 157 [U32] (xs.map RRA)).va)] [] a w0.w:=hst
 obtain ⟨v2,hv2,hst⟩:=St.eqv hst 2 rfl
 refine wp_seq ?_
 refine gl (sts:=[]) (news:=[⟨3,26,ptrH,some 0,_,none⟩,⟨4,26,ptrH,some 1,_,none⟩,⟨6,26,ptrH,some 2,_,none⟩,⟨7,26,ptrH,some 3,_,none⟩]) (sp:=[.alc 0,.alc 1,.alc 2,.alc 3,.val 8 _]) [.g 2,.o 4] hst (oc (zai rfl rfl rfl (gq 0 rfl)) (oc (zai rfl rfl rfl (gq 1 rfl)) (oc (zan rfl rfl rfl (Str.zero zav)) (oc (zan rfl rfl rfl (Str.zero zav)) (zv rfl rfl (za2 za3) o0))))) (fun a w hst=>?_)
 have hst:St B w0 46 [(2,_),(8,_)] [⟨3,26,ptrH,_⟩,⟨4,26,ptrH,_⟩,⟨6,26,ptrH,_⟩,⟨7,26,ptrH,_⟩] a w:=hst
 refine zt ?_
 refine gl (sts:=[none,none,none,none]) (news:=[⟨9,280,ptrH,some 7,_,some (8,_)⟩]) (sp:=[.val 14 _,.val 15 _,.val 16 _,.val 17 _,.val 13 _,.val 18 _,.val 19 _,.alc 4,.sto 4,.val 8 _]) [.o 9] hst (zv rfl rfl (zad (lz0 0 rfl) zae) (zv rfl rfl (zad (lz0 1 rfl) zae) (zv rfl rfl (za1 (gq 0 rfl)) (zv rfl rfl (za5 (xs:=[.tmp 14,.tmp 15,.tmp 16]) (over_c h g xs) (.cons (vq 0 rfl) (.cons (vq 1 rfl) (.cons (zbo hF hv2 (vq 2 rfl)) .nil)))) (zv rfl rfl (za1 (vq 3 rfl)) (zv rfl rfl (zgs (vq 4 rfl)) (zv rfl rfl (zgr (vq 4 rfl)) (oc (zan rfl rfl rfl (Str.zero zfc)) (oc (zaa rfl rfl rfl (vq 5 rfl) zhu (Eq.trans (b:=24) rfl rfl)) (zv rfl rfl (za2 (vq 6 rfl)) o0)))))))))) (fun a w hst=>?_)
 have hst:St B w0 46 [(8,_)] [⟨3,26,ptrH,_⟩,⟨4,26,ptrH,_⟩,⟨6,26,ptrH,_⟩,⟨7,26,ptrH,_⟩,⟨9,280,ptrH,_⟩] a w:=hst
 refine zt ?_
 refine wp_seq ?_
 refine gl (sts:=[none,none,none,none,none]) (news:=[]) (sp:=[.val 20 _,.val 21 _]) [.g 0,.o 1] hst (zv rfl rfl (za1 (gq 0 rfl)) (zv rfl rfl (zd5 (vq 0 rfl) za3) o0)) (fun a w hst=>?_)
 have hst:St B w0 46 [(8,_),(21,_)] [⟨3,26,ptrH,_⟩,⟨4,26,ptrH,_⟩,⟨6,26,ptrH,_⟩,⟨7,26,ptrH,_⟩,⟨9,280,ptrH,_⟩] a w:=hst
 refine za0 ?_
 refine za8 hst (zm 1 rfl) (fun hb0=>?_) (fun hb0=>?_)
 ·have hc:¬ (overF h g xs).2=0:=by simpa using hb0
  refine wp_seq ?_
  refine gl (sts:=[none,none,some (3,_),some (4,_),none]) (news:=[]) (sp:=[.val 22 _,.val 23 _,.val 24 _,.sto 2,.sto 3,.val 8 _]) [.o 5] hst (zv rfl rfl (zb3 (xs:=[]) (qs:=[]) zav .nil) (zv rfl rfl (zb3 (xs:=[]) (qs:=[]) zav .nil) (zv rfl rfl (za1 (gq 0 rfl)) (oc (zaa rfl rfl rfl (vq 0 rfl) zae (Eq.trans (b:=4) rfl rfl)) (oc (zaa rfl rfl rfl (vq 1 rfl) zae (Eq.trans (b:=4) rfl rfl)) (zv rfl rfl (za2 (vq 2 rfl)) o0)))))) (fun a w hst=>?_)
  have hst:St B w0 46 [(8,_)] [⟨3,26,ptrH,_⟩,⟨4,26,ptrH,_⟩,⟨6,26,ptrH,_⟩,⟨7,26,ptrH,_⟩,⟨9,280,ptrH,_⟩] a w:=hst
  refine za0 ?_
  refine wp_ret ?_
  refine zao ?_
  refine zaq ?_ (zat (rs:=[.cell 6 26,.cell 7 26,.tmp 8]) rfl hst (.cell (zm 2 rfl) zae (.cell (zm 3 rfl) zae (.tmp (zm 0 rfl) .nil))) zd)
  rw [pwF,if_neg hc]; exact zbt
 ·have hc:(overF h g xs).2=0:=by simpa using hb0
  have hn:=pw_n hc
  have hst:=St.wkL (A:=LtA (overF h g xs).1) (A':=QLtA 1048705 2048 2048 (filmQ xs) (toQ h) (toQ g)) hst 4 rfl (pw_lt hc)
  refine wp_skip ?_
  refine zt ?_
  refine gl (sts:=[none,none,none,none,none]) (news:=[⟨10,73,ptrH,some 5,_,some (7,_)⟩,⟨11,73,ptrH,some 6,_,some (8,_)⟩]) (sp:=[.val 26 _,.val 27 _,.val 25 _,.val 28 _,.val 29 _,.alc 5,.alc 6,.sto 5,.sto 6]) [.g 0] hst (zv rfl rfl (zad (lz0 4 rfl) zhu) (zv rfl rfl (za5 (xs:=[.tmp 26]) (waves_q (m:=filmQ xs) (h:=toQ h) (g:=toQ g) hn) (.cons (vq 0 rfl) .nil)) (zv rfl rfl (za1 (vq 1 rfl)) (zv rfl rfl (zgs (vq 2 rfl)) (zv rfl rfl (zgr (vq 2 rfl)) (oc (zan rfl rfl rfl (Str.zero zaz)) (oc (zan rfl rfl rfl (Str.zero zaz)) (oc (zaa rfl rfl rfl (vq 3 rfl) zb1 (Eq.trans (b:=8) rfl rfl)) (oc (zaa rfl rfl rfl (vq 4 rfl) zb1 (Eq.trans (b:=8) rfl rfl)) o0))))))))) (fun a w hst=>?_)
  have hst:St B w0 46 [(8,_)] [⟨3,26,ptrH,_⟩,⟨4,26,ptrH,_⟩,⟨6,26,ptrH,_⟩,⟨7,26,ptrH,_⟩,⟨9,280,ptrH,_⟩,⟨10,73,ptrH,_⟩,⟨11,73,ptrH,_⟩] a w:=hst
  refine zt ?_
  refine gl (sts:=[none,none,some (2,_),none,none,none,none]) (news:=[]) (sp:=[.val 30 _,.val 31 _,.sto 2]) [.g 0] hst (zv rfl rfl (zad (lz0 5 rfl) zb1) (zv rfl rfl (za5 (xs:=[.tmp 30]) (norm_q (c:=30000000) (z:=backV (filmQ xs) (toQ h) (toQ g)) zd) (.cons (vq 0 rfl) .nil)) (oc (zaa rfl rfl rfl (vq 1 rfl) zae (Eq.trans (b:=4) rfl rfl)) o0))) (fun a w hst=>?_)
  have hst:St B w0 46 [(8,_)] [⟨3,26,ptrH,_⟩,⟨4,26,ptrH,_⟩,⟨6,26,ptrH,_⟩,⟨7,26,ptrH,_⟩,⟨9,280,ptrH,_⟩,⟨10,73,ptrH,_⟩,⟨11,73,ptrH,_⟩] a w:=hst
  have hst:=St.cvA (A':=QA 120000001 (rV (filmQ xs) (toQ h) (toQ g))) hst 2 rfl (congrArg (QA _) (r_val hn))
  refine zt ?_
  refine zau (anc:=[[],[],[0,1],[0,1,2]]) (sts:=[none,none,none,some (3,_),none,none,none]) (news:=[]) (sp:=[.val 32 _,.val 33 _,.val 34 _,.sto 3]) [.g 0] za6 hst (zv rfl rfl (za5 (xs:=[]) one_q .nil) (zv rfl rfl (zad (lz0 2 rfl) zae) (zv rfl rfl (za5 (xs:=[.tmp 32,.tmp 33]) (ziy zd) (.cons (vq 0 rfl) (.cons (vq 1 rfl) .nil))) (oc (zaa rfl rfl rfl (vq 2 rfl) zae (Eq.trans (b:=4) rfl rfl)) o0)))) zk zk zk zk (fun a w hst=>?_)
  have hst:St B w0 46 [(8,_)] [⟨3,26,ptrH,_⟩,⟨4,26,ptrH,_⟩,⟨6,26,ptrH,_⟩,⟨7,26,ptrH,_⟩,⟨9,280,ptrH,_⟩,⟨10,73,ptrH,_⟩,⟨11,73,ptrH,_⟩] a w:=hst
  refine zt ?_
  refine wp_seq ?_
  refine gl (sts:=[none,none,none,none,none,none,none]) (news:=[]) (sp:=[.val 35 _,.val 36 _,.val 37 _,.val 38 _,.val 12 _]) [.g 0,.o 4] hst (zv rfl rfl (zad (lz0 2 rfl) zae) (zv rfl rfl (zad (lz0 3 rfl) zae) (zv rfl rfl (zco (D:=[U32]) (l:=[_,_]) (xs:=[.tmp 35,.tmp 36]) (zf9 zk) zdt zk (n_ok zk) nq nq nq (.cons (vq 0 rfl) (.cons (vq 1 rfl) .nil)) rfl rfl) (zv rfl rfl (za5 (xs:=[.tmp 37]) (answer_q [(rV (filmQ xs) (toQ h) (toQ g)),1 - (rV (filmQ xs) (toQ h) (toQ g))] (.cons ⟨_,rfl⟩ (.cons ⟨_,rfl⟩ .nil)) nq) (.cons (vq 2 rfl) .nil)) (zv rfl rfl (za2 (vq 3 rfl)) o0))))) (fun a w hst=>?_)
  have hst:St B w0 46 [(8,_),(12,_)] [⟨3,26,ptrH,_⟩,⟨4,26,ptrH,_⟩,⟨6,26,ptrH,_⟩,⟨7,26,ptrH,_⟩,⟨9,280,ptrH,_⟩,⟨10,73,ptrH,_⟩,⟨11,73,ptrH,_⟩] a w:=hst
  refine zt ?_
  refine gl (sts:=[none,none,none,none,none,none,none]) (news:=[]) (sp:=[.val 39 _,.val 40 _]) [.g 0,.g 1,.o 1] hst (zv rfl rfl (za1 (gq 1 rfl)) (zv rfl rfl (zd5 (vq 0 rfl) za3) o0)) (fun a w hst=>?_)
  have hst:St B w0 46 [(8,_),(12,_),(40,_)] [⟨3,26,ptrH,_⟩,⟨4,26,ptrH,_⟩,⟨6,26,ptrH,_⟩,⟨7,26,ptrH,_⟩,⟨9,280,ptrH,_⟩,⟨10,73,ptrH,_⟩,⟨11,73,ptrH,_⟩] a w:=hst
  refine za0 ?_
  refine za8 hst (zm 2 rfl) (fun hb1=>?_) (fun hb1=>?_)
  ·have hl:=ne_any hb1
   refine wp_seq ?_
   refine gl (sts:=[none,none,some (3,_),some (4,_),none,none,none]) (news:=[]) (sp:=[.val 41 _,.val 42 _,.val 43 _,.sto 2,.sto 3,.val 8 _]) [.o 5] hst (zv rfl rfl (zb3 (xs:=[]) (qs:=[]) zav .nil) (zv rfl rfl (zb3 (xs:=[]) (qs:=[]) zav .nil) (zv rfl rfl (za1 (gq 1 rfl)) (oc (zaa rfl rfl rfl (vq 0 rfl) zae (Eq.trans (b:=4) rfl rfl)) (oc (zaa rfl rfl rfl (vq 1 rfl) zae (Eq.trans (b:=4) rfl rfl)) (zv rfl rfl (za2 (vq 2 rfl)) o0)))))) (fun a w hst=>?_)
   have hst:St B w0 46 [(8,_)] [⟨3,26,ptrH,_⟩,⟨4,26,ptrH,_⟩,⟨6,26,ptrH,_⟩,⟨7,26,ptrH,_⟩,⟨9,280,ptrH,_⟩,⟨10,73,ptrH,_⟩,⟨11,73,ptrH,_⟩] a w:=hst
   refine za0 ?_
   refine wp_ret ?_
   refine zao ?_
   refine zaq ?_ (zat (rs:=[.cell 6 26,.cell 7 26,.tmp 8]) rfl hst (.cell (zm 2 rfl) zae (.cell (zm 3 rfl) zae (.tmp (zm 0 rfl) .nil))) zd)
   have e:pwF h g xs=(rf0,rf0,4):=by rw [pwF,if_pos hc,if_pos hl]
   rw [e]; exact tu3w zbt zbt (zc3 (by rw [hl]; rfl))
  ·have hl:=ne_none hb1
   refine wp_skip ?_
   refine zt ?_
   refine zau (anc:=[[],[],[0],[0,1,2],[0,1,2,3]]) (sts:=[none,none,some (2,_),some (3,_),none,none,none]) (news:=[]) (sp:=[.val 44 _,.val 45 _,.sto 2,.sto 3,.val 8 _]) [.o 4] za6 hst (zv rfl rfl (zad (lz0 2 rfl) zae) (zv rfl rfl (zad (lz0 3 rfl) zae) (oc (zaa rfl rfl rfl (vq 0 rfl) zae (Eq.trans (b:=4) rfl rfl)) (oc (zaa rfl rfl rfl (vq 1 rfl) zae (Eq.trans (b:=4) rfl rfl)) (zv rfl rfl (za2 za3) o0))))) zk zk zk zk (fun a w hst=>?_)
   have hst:St B w0 46 [(8,_)] [⟨3,26,ptrH,_⟩,⟨4,26,ptrH,_⟩,⟨6,26,ptrH,_⟩,⟨7,26,ptrH,_⟩,⟨9,280,ptrH,_⟩,⟨10,73,ptrH,_⟩,⟨11,73,ptrH,_⟩] a w:=hst
   refine za0 ?_
   refine wp_ret ?_
   refine zaq ?_ (zat (rs:=[.cell 6 26,.cell 7 26,.tmp 8]) rfl hst (.cell (zm 2 rfl) zae (.cell (zm 3 rfl) zae (.tmp (zm 0 rfl) .nil))) zd)
   have e:pwF h g xs=(rfOf (rV (filmQ xs) (toQ h) (toQ g)),rfOf (1 - (rV (filmQ xs) (toQ h) (toQ g))),0):=by rw [pwF,if_pos hc,if_neg (by rw [hl]; decide)]
   rw [e]; exact tu3w qaA.va qaA.va zbt
theorem argSmall_q {p q:Int} (hp : -9223372036854775808≤p) (hp1:p<9223372036854775808) (hq : -9223372036854775808≤q) (hq1:q<9223372036854775808):Cn Tryz.prog 319 [In p,In q] ((QGA 2 ⟨Rat.divInt p 1,Rat.divInt q 1⟩).va):=by
 refine Cn.intro Tryz.func319 rfl zk nq (fun B w0 a hst=>?_)
 have hst:St B w0 10 [(0,In p),(1,In q)] [] a w0.w:=hst
 refine wp_seq ?_
 refine gl (sts:=[]) (news:=[⟨4,73,ptrH,some 0,_,none⟩]) (sp:=[.alc 0]) [.g 0,.g 1] hst (oc (zan rfl rfl rfl (Str.zero zaz)) o0) (fun a w hst=>?_)
 have hst:St B w0 10 [(0,_),(1,_)] [⟨4,73,ptrH,_⟩] a w:=hst
 refine zt ?_
 refine gl (sts:=[some (5,_)]) (news:=[]) (sp:=[.val 5 _,.val 6 _,.val 7 _,.val 8 _,.val 9 _,.sto 0]) [] hst (zv rfl rfl (za1 (gq 0 rfl)) (zv rfl rfl (za5 (xs:=[.tmp 5,.const (.int .i64 (1))]) (small_q hp hp1 zd zd zd) (.cons (vq 0 rfl) (.cons za3 .nil))) (zv rfl rfl (za1 (gq 1 rfl)) (zv rfl rfl (za5 (xs:=[.tmp 7,.const (.int .i64 (1))]) (small_q hq hq1 zd zd zd) (.cons (vq 2 rfl) (.cons za3 .nil))) (zv rfl rfl (zb3 (xs:=[(0,.tmp 6),(1,.tmp 8)]) (qs:=[(0,_),(1,_)]) zaz (.cons ⟨rfl,(vq 1 rfl),rfl⟩ (.cons ⟨rfl,(vq 3 rfl),rfl⟩ .nil))) (oc (zaa rfl rfl rfl (vq 4 rfl) zb1 (Eq.trans (b:=8) rfl rfl)) o0)))))) (fun a w hst=>?_)
 have hst:St B w0 10 [] [⟨4,73,ptrH,_⟩] a w:=hst
 refine za0 ?_
 refine wp_ret ?_
 refine zaq ?_ (zal rfl hst (zm 0 rfl) zb1)
 exact zbt
theorem zj6 {p q:Int} (hp : -9223372036854775808≤p) (hp1:p<9223372036854775808) (hq : -9223372036854775808≤q) (hq1:q<9223372036854775808):Cn Tryz.prog 238 [In p,In q] ((QGA 2 ⟨Rat.divInt p 1,Rat.divInt q 1⟩).va):=by
 refine Cn.intro Tryz.func238 rfl zk nq (fun B w0 a hst=>?_)
 have hst:St B w0 8 [(0,In p),(1,In q)] [] a w0.w:=hst
 refine wp_seq ?_
 refine gl (sts:=[]) (news:=[⟨4,73,ptrH,some 0,_,none⟩]) (sp:=[.alc 0]) [.g 0,.g 1] hst (oc (zan rfl rfl rfl (Str.zero zaz)) o0) (fun a w hst=>?_)
 have hst:St B w0 8 [(0,_),(1,_)] [⟨4,73,ptrH,_⟩] a w:=hst
 refine zt ?_
 refine gl (sts:=[some (3,_)]) (news:=[]) (sp:=[.val 5 _,.val 6 _,.val 7 _,.sto 0]) [] hst (zv rfl rfl (za1 (gq 0 rfl)) (zv rfl rfl (za1 (gq 1 rfl)) (zv rfl rfl (za5 (xs:=[.tmp 5,.tmp 6]) (argSmall_q hp hp1 hq hq1) (.cons (vq 0 rfl) (.cons (vq 1 rfl) .nil))) (oc (zaa rfl rfl rfl (vq 2 rfl) zb1 (Eq.trans (b:=8) rfl rfl)) o0)))) (fun a w hst=>?_)
 have hst:St B w0 8 [] [⟨4,73,ptrH,_⟩] a w:=hst
 refine za0 ?_
 refine wp_ret ?_
 refine zaq ?_ (zal rfl hst (zm 0 rfl) zb1)
 exact zbt
theorem filmOne_c (x:RR):Cn Tryz.prog 236 [(RRA x).va] (QdR (stkF [x])):=by
 refine Cn.intro Tryz.func236 rfl zk nq (fun B w0 a hst=>?_)
 have hst:St B w0 9 [(0,(RRA x).va)] [] a w0.w:=hst
 refine wp_seq ?_
 refine gl (sts:=[]) (news:=[⟨1,157,ptrH,some 0,_,none⟩,⟨2,98,ptrH,some 1,_,none⟩]) (sp:=[.alc 0,.alc 1,.val 3 _]) [.o 2] hst (oc (zai rfl rfl rfl (gq 0 rfl)) (oc (zan rfl rfl rfl (Str.zero zd7)) (zv rfl rfl (za2 za3) o0))) (fun a w hst=>?_)
 have hst:St B w0 9 [(3,_)] [⟨1,157,ptrH,_⟩,⟨2,98,ptrH,_⟩] a w:=hst
 refine zt ?_
 refine gl (sts:=[none,some (5,_)]) (news:=[]) (sp:=[.val 4 _,.val 5 _,.val 6 _,.val 7 _,.val 8 _,.sto 1,.val 3 _]) [.o 6] hst (zv rfl rfl (zad (lz0 0 rfl) zhv) (zv rfl rfl (zco (D:=[U32]) (l:=[_]) (xs:=[.tmp 4]) (zf9 zk) sl_276 zk (n_ok zk) nq nq nq (.cons (vq 0 rfl) .nil) rfl rfl) (zv rfl rfl (za5 (xs:=[.tmp 5]) (stack_c [x]) (.cons (vq 1 rfl) .nil)) (zv rfl rfl (zgs (vq 2 rfl)) (zv rfl rfl (zgr (vq 2 rfl)) (oc (zaa rfl rfl rfl (vq 3 rfl) zea (Eq.trans (b:=32) rfl rfl)) (zv rfl rfl (za2 (vq 4 rfl)) o0))))))) (fun a w hst=>?_)
 have hst:St B w0 9 [(3,_)] [⟨1,157,ptrH,_⟩,⟨2,98,ptrH,_⟩] a w:=hst
 refine za0 ?_
 refine wp_ret ?_
 refine zaq ?_ (zat (rs:=[.cell 2 98,.tmp 3]) rfl hst (.cell (zm 1 rfl) zea (.tmp (zm 0 rfl) .nil)) zd)
 exact zbt
theorem sheet18_c {p q:Int} (hp : -9223372036854775808≤p) (hp1:p<9223372036854775808) (hq : -9223372036854775808≤q) (hq1:q<9223372036854775808):Cn Tryz.prog 235 [In p,In q] ((RRA ⟨rfOf (Rat.divInt p 1),rfOf (Rat.divInt q 1)⟩).va):=by
 refine Cn.intro Tryz.func235 rfl zk nq (fun B w0 a hst=>?_)
 have hst:St B w0 12 [(0,In p),(1,In q)] [] a w0.w:=hst
 refine wp_seq ?_
 refine gl (sts:=[]) (news:=[⟨4,157,ptrH,some 0,_,none⟩]) (sp:=[.alc 0]) [.g 0,.g 1] hst (oc (zan rfl rfl rfl (Str.zero zgl)) o0) (fun a w hst=>?_)
 have hst:St B w0 12 [(0,_),(1,_)] [⟨4,157,ptrH,_⟩] a w:=hst
 refine zt ?_
 refine gl (sts:=[some (7,_)]) (news:=[]) (sp:=[.val 5 _,.val 6 _,.val 7 _,.val 8 _,.val 9 _,.val 10 _,.val 11 _,.sto 0]) [] hst (zv rfl rfl (za1 (gq 0 rfl)) (zv rfl rfl (za5 (xs:=[.tmp 5,.const (.int .i64 (0))]) (zj6 hp hp1 zd zd) (.cons (vq 0 rfl) (.cons za3 .nil))) (zv rfl rfl (zkx (vq 1 rfl) rfl rfl Tryz.underlying73 rfl rfl ⟨zk,zk⟩ (Sub.part 0 rfl rfl)) (zv rfl rfl (za1 (gq 1 rfl)) (zv rfl rfl (za5 (xs:=[.tmp 8,.const (.int .i64 (0))]) (zj6 hq hq1 zd zd) (.cons (vq 3 rfl) (.cons za3 .nil))) (zv rfl rfl (zkx (vq 4 rfl) rfl rfl Tryz.underlying73 rfl rfl ⟨zk,zk⟩ (Sub.part 0 rfl rfl)) (zv rfl rfl (zb3 (xs:=[(0,.tmp 7),(1,.tmp 10)]) (qs:=[(0,_),(1,_)]) zgl (.cons ⟨rfl,(vq 2 rfl),rfl⟩ (.cons ⟨rfl,(vq 5 rfl),rfl⟩ .nil))) (oc (zaa rfl rfl rfl (vq 6 rfl) zhv (Eq.trans (b:=8) rfl rfl)) o0)))))))) (fun a w hst=>?_)
 have hst:St B w0 12 [] [⟨4,157,ptrH,_⟩] a w:=hst
 refine za0 ?_
 refine wp_ret ?_
 refine zaq ?_ (zal rfl hst (zm 0 rfl) zhv)
 exact (zbg (.cons qaA (.cons qaA .nil))).va
theorem nil_sh:Cn Tryz.prog 237 [EqV (.slice none 0 0)] (QdR (stkF [])):=(stack_c []).wk (.cons nil_sl .nil)
theorem of_g {p q:Int} (hp : -9223372036854775808≤p) (hp1:p<9223372036854775808) (hq : -9223372036854775808≤q) (hq1:q<9223372036854775808):Cn Tryz.prog 238 [In p,In q] (RGA (rgOf ⟨Rat.divInt p 1,Rat.divInt q 1⟩)).va:=(zj6 hp hp1 hq hq1).wkp qgA.va
set_option maxHeartbeats 4000000 in
theorem alive18_c  : Cn Tryz.prog 85 [] (Bo true):=by
 refine Cn.intro Tryz.func85 rfl zk nq (fun B w0 a hst=>?_)
 have hst:St B w0 76 [] [] a w0.w:=hst
 refine wp_seq ?_
 refine gl (sts:=[]) (news:=[]) (sp:=[.val 0 _]) [.o 0] hst (zv rfl rfl (za2 zb7) o0) (fun a w hst=>?_)
 have hst:St B w0 76 [(0,_)] [] a w:=hst
 refine zt ?_
 refine gl (sts:=[]) (news:=[⟨1,26,ptrH,some 4,_,some (5,_)⟩]) (sp:=[.val 15 _,.val 14 _,.val 16 _,.val 17 _,.alc 0,.sto 0,.val 2 _]) [.g 0] hst (zv rfl rfl (za5 (xs:=[.const (.int .i64 (1)),.const (.int .i64 (1))]) (ofQ_c zd zd zd zd zd) (.cons za3 (.cons za3 .nil))) (zv rfl rfl (za1 (vq 0 rfl)) (zv rfl rfl (zgs (vq 1 rfl)) (zv rfl rfl (zgr (vq 1 rfl)) (oc (zan rfl rfl rfl (Str.zero zav)) (oc (zaa rfl rfl rfl (vq 2 rfl) zae (Eq.trans (b:=4) rfl rfl)) (zv rfl rfl (za2 (vq 3 rfl)) o0))))))) (fun a w hst=>?_)
 have hst:St B w0 76 [(0,_)] [⟨1,26,ptrH,_⟩] a w:=hst
 refine zt ?_
 refine gl (sts:=[none]) (news:=[⟨3,26,ptrH,some 4,_,some (5,_)⟩]) (sp:=[.val 19 _,.val 18 _,.val 20 _,.val 21 _,.alc 1,.sto 1,.val 4 _]) [.g 0] hst (zv rfl rfl (za5 (xs:=[.const (.int .i64 (9)),.const (.int .i64 (25))]) (ofQ_c zd zd zd zd zd) (.cons za3 (.cons za3 .nil))) (zv rfl rfl (za1 (vq 0 rfl)) (zv rfl rfl (zgs (vq 1 rfl)) (zv rfl rfl (zgr (vq 1 rfl)) (oc (zan rfl rfl rfl (Str.zero zav)) (oc (zaa rfl rfl rfl (vq 2 rfl) zae (Eq.trans (b:=4) rfl rfl)) (zv rfl rfl (za2 (vq 3 rfl)) o0))))))) (fun a w hst=>?_)
 have hst:St B w0 76 [(0,_)] [⟨1,26,ptrH,_⟩,⟨3,26,ptrH,_⟩] a w:=hst
 refine zt ?_
 refine gl (sts:=[none,none]) (news:=[⟨5,26,ptrH,some 4,_,some (5,_)⟩]) (sp:=[.val 23 _,.val 22 _,.val 24 _,.val 25 _,.alc 2,.sto 2,.val 6 _]) [.g 0] hst (zv rfl rfl (za5 (xs:=[.const (.int .i64 (16)),.const (.int .i64 (25))]) (ofQ_c zd zd zd zd zd) (.cons za3 (.cons za3 .nil))) (zv rfl rfl (za1 (vq 0 rfl)) (zv rfl rfl (zgs (vq 1 rfl)) (zv rfl rfl (zgr (vq 1 rfl)) (oc (zan rfl rfl rfl (Str.zero zav)) (oc (zaa rfl rfl rfl (vq 2 rfl) zae (Eq.trans (b:=4) rfl rfl)) (zv rfl rfl (za2 (vq 3 rfl)) o0))))))) (fun a w hst=>?_)
 have hst:St B w0 76 [(0,_)] [⟨1,26,ptrH,_⟩,⟨3,26,ptrH,_⟩,⟨5,26,ptrH,_⟩] a w:=hst
 refine zt ?_
 refine zau (anc:=[[],[],[],[2],[0,1,2,3],[0,1,2,3,4],[0,1,2,3,4,5],[0,1,2,3,4,5],[0,1,2,3,4,5],[],[],[0,1,2,3,4,5,6,9,10],[0,1,2,3,4,5,6,7,9,10,11],[0,1,2,3,4,5,6,7,8,9,10,11,12]]) (sts:=[none,none,none]) (news:=[⟨7,26,ptrH,some 9,_,some (11,_)⟩,⟨8,26,ptrH,some 10,_,some (12,_)⟩]) (sp:=[.val 27 _,.val 28 _,.val 29 _,.val 30 _,.val 31 _,.val 26 _,.val 32 _,.val 33 _,.val 34 _,.alc 3,.alc 4,.sto 3,.sto 4,.val 9 _]) [.g 0,.o 13] za6 hst (zv rfl rfl (zad (lz0 0 rfl) zae) (zv rfl rfl (zad (lz0 0 rfl) zae) (zv rfl rfl (za5 (xs:=[.const (.int .i64 (2)),.const (.int .i64 (1))]) (sheet18_c zd zd zd zd) (.cons za3 (.cons za3 .nil))) (zv rfl rfl (zco (D:=[U32]) (l:=[_]) (xs:=[.tmp 29]) (zf9 zk) sl_276 zk (n_ok zk) nq nq nq (.cons (vq 2 rfl) .nil) rfl rfl) (zv rfl rfl (za5 (xs:=[.tmp 27,.tmp 28,.tmp 30]) (powers_c _ _ [_]) (.cons (vq 0 rfl) (.cons (vq 1 rfl) (.cons (vq 3 rfl) .nil)))) (zv rfl rfl (za1 (vq 4 rfl)) (zv rfl rfl (zgs (vq 5 rfl)) (zv rfl rfl (zgr (vq 5 rfl)) (zv rfl rfl (r_ex2 (vq 5 rfl)) (oc (zan rfl rfl rfl (Str.zero zav)) (oc (zan rfl rfl rfl (Str.zero zav)) (oc (zaa rfl rfl rfl (vq 6 rfl) zae (Eq.trans (b:=4) rfl rfl)) (oc (zaa rfl rfl rfl (vq 7 rfl) zae (Eq.trans (b:=4) rfl rfl)) (zv rfl rfl (za2 (vq 8 rfl)) o0)))))))))))))) zk zk zk zk (fun a w hst=>?_)
 have hst:St B w0 76 [(0,_),(9,_)] [⟨1,26,ptrH,_⟩,⟨3,26,ptrH,_⟩,⟨5,26,ptrH,_⟩,⟨7,26,ptrH,_⟩,⟨8,26,ptrH,_⟩] a w:=hst
 refine zt ?_
 refine gl (sts:=[none,none,none,none,none]) (news:=[⟨10,98,ptrH,some 5,_,some (6,_)⟩]) (sp:=[.val 36 _,.val 37 _,.val 35 _,.val 38 _,.val 39 _,.alc 5,.sto 5,.val 11 _]) [.g 0,.g 1,.o 7] hst (zv rfl rfl (za5 (xs:=[.const (.int .i64 (0)),.const (.int .i64 (1))]) (sheet18_c zd zd zd zd) (.cons za3 (.cons za3 .nil))) (zv rfl rfl (za5 (xs:=[.tmp 36]) (filmOne_c _) (.cons (vq 0 rfl) .nil)) (zv rfl rfl (za1 (vq 1 rfl)) (zv rfl rfl (zgs (vq 2 rfl)) (zv rfl rfl (zgr (vq 2 rfl)) (oc (zan rfl rfl rfl (Str.zero zd7)) (oc (zaa rfl rfl rfl (vq 3 rfl) zea (Eq.trans (b:=32) rfl rfl)) (zv rfl rfl (za2 (vq 4 rfl)) o0)))))))) (fun a w hst=>?_)
 have hst:St B w0 76 [(0,_),(9,_),(11,_)] [⟨1,26,ptrH,_⟩,⟨3,26,ptrH,_⟩,⟨5,26,ptrH,_⟩,⟨7,26,ptrH,_⟩,⟨8,26,ptrH,_⟩,⟨10,98,ptrH,_⟩] a w:=hst
 refine zt ?_
 refine gl (sts:=[none,none,none,none,none,none]) (news:=[⟨12,98,ptrH,some 4,_,some (5,_)⟩]) (sp:=[.val 41 _,.val 40 _,.val 42 _,.val 43 _,.alc 6,.sto 6,.val 13 _]) [.g 0,.g 1,.g 2,.o 6] hst (zv rfl rfl (za5 (xs:=[.const (.slice none 0 0)]) nil_sh (.cons zbs .nil)) (zv rfl rfl (za1 (vq 0 rfl)) (zv rfl rfl (zgs (vq 1 rfl)) (zv rfl rfl (zgr (vq 1 rfl)) (oc (zan rfl rfl rfl (Str.zero zd7)) (oc (zaa rfl rfl rfl (vq 2 rfl) zea (Eq.trans (b:=32) rfl rfl)) (zv rfl rfl (za2 (vq 3 rfl)) o0))))))) (fun a w hst=>?_)
 have hst:St B w0 76 [(0,_),(9,_),(11,_),(13,_)] [⟨1,26,ptrH,_⟩,⟨3,26,ptrH,_⟩,⟨5,26,ptrH,_⟩,⟨7,26,ptrH,_⟩,⟨8,26,ptrH,_⟩,⟨10,98,ptrH,_⟩,⟨12,98,ptrH,_⟩] a w:=hst
 refine zt ?_
 refine zau (anc:=[[],[0],[0,1],[0,1,2],[0,1,2,3],[0,1,2,3,4],[0,1,2,3,4,5],[0,1,2,3,4,5,6],[0,1,2,3,4,5,6,7],[0,1,2,3,4,5,6,7,8],[0,1,2,3,4,5,6,7,8,9],[0,1,2,3,4,5,6,7,8,9,10],[0,1,2,3,4,5,6,7,8,9,10],[0,1,2,3,4,5,6,7,8,9,10,11,12],[0,1,2,3,4,5,6,7,8,9,10,11,12,13],[0,1,2,3,4,5,6,7,8,9,10,11,12,13,14],[0,1,2,3,4,5,6,7,8,9,10,11,12,13,14,15],[0,1,2,3,4,5,6,7,8,9,10,11,12,13,14,15],[0,1,2,3,4,5,6,7,8,9,10,11,12,13,14,15,16,17],[0,1,2,3,4,5,6,7,8,9,10,11,12,13,14,15,16,17,18],[0,1,2,3,4,5,6,7,8,9,10,11,12,13,14,15,16,17,18,19],[0,1,2,3,4,5,6,7,8,9,10,11,12,13,14,15,16,17,18,19,20],[0,1,2,3,4,5,6,7,8,9,10,11,12,13,14,15,16,17,18,19,20,21],[0,1,2,3,4,5,6,7,8,9,10,11,12,13,14,15,16,17,18,19,20],[0,1,2,3,4,5,6,7,8,9,10,11,12,13,14,15,16,17,18,19,20,21,22,23],[0,1,2,3,4,5,6,7,8,9,10,11,12,13,14,15,16,17,18,19,20,21,22,23,24],[0,1,2,3,4,5,6,7,8,9,10,11,12,13,14,15,16,17,18,19,20,21,22,23,24,25],[0,1,2,3,4,5,6,7,8,9,10,11,12,13,14,15,16,17,18,19,20,21,22,23,24,25,26],[0,1,2,3,4,5,6,7,8,9,10,11,12,13,14,15,16,17,18,19,20,21,22,23,24,25,26,27],[0,1,2,3,4,5,6,7,8,9,10,11,12,13,14,15,16,17,18,19,20,21,22,23,24,25,26],[0,1,2,3,4,5,6,7,8,9,10,11,12,13,14,15,16,17,18,19,20,21,22,23,24,25,26,27,28,29],[0,1,2,3,4,5,6,7,8,9,10,11,12,13,14,15,16,17,18,19,20,21,22,23,24,25,26,27,28,29,30],[0,1,2,3,4,5,6,7,8,9,10,11,12,13,14,15,16,17,18,19,20,21,22,23,24,25,26,27,28,29,30,31]]) (sts:=[none,none,none,none,none,none,none]) (news:=[]) (sp:=((.val 44 _:Sp)::(.val 45 _)::(.val 46 _)::(.val 47 (Wh (_=true) _))::(.val 48 (Wh (_=true) _))::(.val 49 _)::(.val 50 _)::(.val 51 (Wh (_=true) _))::(.val 52 (Wh (_=true) _))::(.val 53 _)::(.val 54 _)::(.val 55 (Wh (_=true) _))::(.val 56 (Wh (_=true) _))::(.val 57 (Wh (_=true) _))::(.val 58 _)::(.val 59 _)::(.val 60 (Wh (_=true) _))::(.val 61 (Wh (_=true) _))::(.val 62 (Wh (_=true) _))::(.val 63 _)::(.val 64 _)::(.adr 65 12 (.some 0) (_=true))::(.val 66 (Wh (_=true) _))::(.val 67 (Wh (_=true) _))::(.val 68 (Wh (_=true) _))::(.val 69 _)::(.val 70 _)::(.adr 71 12 (.some 8) (_=true))::(.val 72 (Wh (_=true) _))::(.val 73 (Wh (_=true) _))::(.val 74 (Wh (_=true) _))::(.val 75 _)::(.val 0 _)::[])) [.o 32] za6 hst (zv rfl rfl (za1 (gq 1 rfl)) (zv rfl rfl (zd8 (vq 0 rfl) za3) (zv rfl rfl (za1 (vq 1 rfl)) (oc (zam rfl rfl rfl (vq 2 rfl) nq (fun hg=>za1 (gq 2 rfl))) (oc (zam rfl rfl rfl (vq 2 rfl) nq (fun hg=>zd8 (zac (vq 3 rfl) hg) za3)) (zv rfl rfl (zch (vq 2 rfl) (vq 4 rfl)) (zv rfl rfl (za1 (vq 5 rfl)) (oc (zam rfl rfl rfl (vq 6 rfl) nq (fun hg=>za1 (gq 3 rfl))) (oc (zam rfl rfl rfl (vq 6 rfl) nq (fun hg=>zd8 (zac (vq 7 rfl) hg) za3)) (zv rfl rfl (zch (vq 6 rfl) (vq 8 rfl)) (zv rfl rfl (za1 (vq 9 rfl)) (oc (zam rfl rfl rfl (vq 10 rfl) nq (fun hg=>zad (lz0 3 rfl) zae)) (oc (zam rfl rfl rfl (vq 10 rfl) nq (fun hg=>zad (lz0 1 rfl) zae)) (oc (zam rfl rfl rfl (vq 10 rfl) nq (fun hg=>za5 (xs:=[.tmp 55,.tmp 56]) (zfw _ _) (.cons (zac (vq 11 rfl) hg) (.cons (zac (vq 12 rfl) hg) .nil)))) (zv rfl rfl (zch (vq 10 rfl) (vq 13 rfl)) (zv rfl rfl (za1 (vq 14 rfl)) (oc (zam rfl rfl rfl (vq 15 rfl) nq (fun hg=>zad (lz0 4 rfl) zae)) (oc (zam rfl rfl rfl (vq 15 rfl) nq (fun hg=>zad (lz0 2 rfl) zae)) (oc (zam rfl rfl rfl (vq 15 rfl) nq (fun hg=>za5 (xs:=[.tmp 60,.tmp 61]) (zfw _ _) (.cons (zac (vq 16 rfl) hg) (.cons (zac (vq 17 rfl) hg) .nil)))) (zv rfl rfl (zch (vq 15 rfl) (vq 18 rfl)) (zv rfl rfl (za1 (vq 19 rfl)) (oc (zcc rfl rfl rfl (vq 20 rfl) nq (fun hg=>za9 (lz0 6 rfl) zdi)) (oc (zam rfl rfl rfl (vq 20 rfl) nq (fun hg=>za4 21 rfl zk hg (lz0 6 rfl) (Sub.part 0 rfl rfl) zb1)) (oc (zam rfl rfl rfl (vq 20 rfl) nq (fun hg=>za5 (xs:=[.const (.int .i64 (1)),.const (.int .i64 (0))]) (of_g zd zd zd zd) (.cons za3 (.cons za3 .nil)))) (oc (zam rfl rfl rfl (vq 20 rfl) nq (fun hg=>za5 (xs:=[.tmp 66,.tmp 67]) (zev _ _) (.cons (zac (vq 22 rfl) hg) (.cons (zac (vq 23 rfl) hg) .nil)))) (zv rfl rfl (zch (vq 20 rfl) (vq 24 rfl)) (zv rfl rfl (za1 (vq 25 rfl)) (oc (zcc rfl rfl rfl (vq 26 rfl) nq (fun hg=>za9 (lz0 6 rfl) zdh)) (oc (zam rfl rfl rfl (vq 26 rfl) nq (fun hg=>za4 27 rfl zk hg (lz0 6 rfl) (Sub.part 1 rfl rfl) zb1)) (oc (zam rfl rfl rfl (vq 26 rfl) nq (fun hg=>za5 (xs:=[.const (.int .i64 (0)),.const (.int .i64 (0))]) (of_g zd zd zd zd) (.cons za3 (.cons za3 .nil)))) (oc (zam rfl rfl rfl (vq 26 rfl) nq (fun hg=>za5 (xs:=[.tmp 72,.tmp 73]) (zev _ _) (.cons (zac (vq 28 rfl) hg) (.cons (zac (vq 29 rfl) hg) .nil)))) (zv rfl rfl (zch (vq 26 rfl) (vq 30 rfl)) (zv rfl rfl (za2 (vq 31 rfl)) o0))))))))))))))))))))))))))))))))) zk zk zk zk (fun a w hst=>?_)
 have hst:St B w0 76 [(0,_)] [⟨1,26,ptrH,_⟩,⟨3,26,ptrH,_⟩,⟨5,26,ptrH,_⟩,⟨7,26,ptrH,_⟩,⟨8,26,ptrH,_⟩,⟨10,98,ptrH,_⟩,⟨12,98,ptrH,_⟩] a w:=hst
 refine za0 ?_
 refine wp_ret ?_
 refine zaq ?_ (zah rfl hst (zm 0 rfl))
 exact zc3 (congrArg Bo zk)
end Go.Proofs.YthncfchnkjemiaaGreatDoor
