import Derived.Test.YtlpppkkggljdcaaGreatTcAa
import Derived.Test.YtlpppkkggljdcaaGreatTcAc
import Derived.Test.YtlpppkkggljdcaaGreatTcAw
import Derived.Test.YtlpppkkggljdcaaGreatTcAz
set_option linter.unusedVariables false
set_option linter.unusedSimpArgs false
set_option linter.unusedSectionVars false
set_option maxRecDepth 100000
namespace Go.Proofs.YtlpppkkggljdcaaGreat
open Go Go.RowKit
theorem r2cmp_x {x y:RF}(h:[x,y].all okX=true):Cn Tryz.prog 109 [(RFA x).va,(RFA y).va] (In (cmQ (toQ x) (toQ y))):=by
 simp only [List.all_cons,List.all_nil,Bool.and_true,Bool.and_eq_true] at h
 exact (r2cmp_q (c:=2048) (d:=2048) zd).wk (.cons (qa_x h.1 (Nat.le_refl _)).va (.cons (qa_x h.2 (Nat.le_refl _)).va .nil))
theorem m24_e {x:RLo}(h:((!mayG x.p) || (!mayG x.q))=false):(((elF ⟨x.k,x.p.lo,x.q.lo⟩&&elF ⟨x.k,x.p.lo,x.q.hi⟩)&&elF ⟨x.k,x.p.hi,x.q.lo⟩)&&elF ⟨x.k,x.p.hi,x.q.hi⟩)=loF x:=by
 simp only [Bool.or_eq_false_iff,Bool.not_eq_false'] at h
 obtain ⟨mp,mq⟩:=h
 obtain ⟨p1,p2⟩:=ok_2 (zjv mp)
 obtain ⟨q1,q2⟩:=ok_2 (zjv mq)
 have lp:=may_le mp
 have lq:=may_le mq
 have e:loF x=(elF ⟨x.k,x.p.lo,x.q.lo⟩&&elF ⟨x.k,x.p.hi,x.q.hi⟩):=by
  unfold loF chF
  rw [mp,mq,if_neg (by simp)]
  simp only [List.all_cons,List.all_nil]
  by_cases h1:elF ⟨x.k,x.p.lo,x.q.lo⟩=true <;> by_cases h2:elF ⟨x.k,x.p.hi,x.q.hi⟩=true <;> simp [h1,h2]
 cases hl:loF x with
 | true =>
  rw [el_mid hl p1 q1 ⟨Rat.le_refl,lp⟩ ⟨Rat.le_refl,lq⟩,el_mid hl p1 q2 ⟨Rat.le_refl,lp⟩ ⟨lq,Rat.le_refl⟩,el_mid hl p2 q1 ⟨lp,Rat.le_refl⟩ ⟨Rat.le_refl,lq⟩,el_mid hl p2 q2 ⟨lp,Rat.le_refl⟩ ⟨lq,Rat.le_refl⟩]
  rfl
 | false =>
  rw [hl] at e
  cases h1:elF ⟨x.k,x.p.lo,x.q.lo⟩ <;> cases h2:elF ⟨x.k,x.p.hi,x.q.hi⟩ <;> simp_all
theorem gp_1 {g:RGp}(h:(!ptF g)=true):gpL g=1:=by unfold gpL; rw [show ptF g=false from by simpa using h]; rfl
theorem gp_0 {g:RGp}(h:(!ptF g)=false):gpL g=0:=by unfold gpL; rw [show ptF g=true from by simpa using h]; rfl
theorem many_nx' {xs:List RLo}{j:Nat}(h:j<xs.length):manyF (xs.take (j+1))=manyF (xs.take j)+gpL xs[j].p+gpL xs[j].q:=by
 rw [many_nx h]
 unfold lsI
 rw [if_neg zd,if_neg zd,Nat.add_assoc]
theorem los_2 {xs:List RLo}(h:xs.all loF=true){j:Nat}(hj:j<xs.length):[xs[j].p.lo,xs[j].p.hi].all okX=true∧[xs[j].q.lo,xs[j].q.hi].all okX=true:=by
 obtain ⟨_,_,mp,mq⟩:=lo_el (List.all_eq_true.1 h _ (List.getElem_mem hj))
 exact ⟨zjv mp,zjv mq⟩
theorem zhy (g:RGp):Cn Tryz.prog 71 [(GpA g).va] (Bo (mayG g)):=by
 refine Cn.intro Tryz.func71 rfl zk nq (fun B w0 a hst=>?_)
 have hst:St B w0 17 [(0,(GpA g).va)] [] a w0.w:=hst
 refine wp_seq ?_
 refine gl (sts:=[]) (news:=[⟨1,39,ptrH,some 0,_,none⟩]) (sp:=[.alc 0,.val 2 _]) [.o 1] hst (oc (zan rfl rfl rfl (gq 0 rfl)) (zv rfl (za1 zba) o0)) (fun a w hst=>?_)
 have hst:St B w0 17 [(2,_)] [⟨1,39,ptrH,_⟩] a w:=hst
 refine zt<|gl (sts:=[none]) (news:=[]) (sp:=[.adr 3 1 (.some 0) True,.val 4 _,.adr 5 1 (.some 4) True,.val 6 _,.val 7 _,.val 8 _,.val 9 _,.adr 10 1 (.some 0) (_=true),.val 11 (Wh (_=true) _),.adr 12 1 (.some 4) (_=true),.val 13 (Wh (_=true) _),.val 14 (Wh (_=true) _),.val 15 (Wh (_=true) _),.val 16 _,.val 2 _]) [.o 14] hst (oc (ob_a rfl rfl (za7 (lz0 0 rfl) zbw)) (zv rfl (za4 0 rfl zk trivial (lz0 0 rfl) (Sub.part 0 rfl rfl) zao) (oc (ob_a rfl rfl (za7 (lz0 0 rfl) zby)) (zv rfl (za4 2 rfl zk trivial (lz0 0 rfl) (Sub.part 1 rfl rfl) zao) (zv rfl (zcx (D:=[U32]) (l:=[_,_]) (xs:=[.tmp 4,.tmp 6]) (zfq zk) zg4 zk (n_ok zk) nq nq nq (.cons (vq 1 rfl) (.cons (vq 3 rfl) .nil)) rfl rfl) (zv rfl (za5 (xs:=[.tmp 7]) (ziu [g.lo,g.hi] nq) (.cons (vq 4 rfl) .nil)) (zv rfl (za2 (vq 5 rfl)) (oc (zbz rfl rfl rfl (vq 6 rfl) nq (fun hg=>za7 (lz0 0 rfl) zbw)) (oc (zal rfl rfl rfl (vq 6 rfl) nq (fun hg=>za4 7 rfl zk hg (lz0 0 rfl) (Sub.part 0 rfl rfl) zao)) (oc (zbz rfl rfl rfl (vq 6 rfl) nq (fun hg=>za7 (lz0 0 rfl) zby)) (oc (zal rfl rfl rfl (vq 6 rfl) nq (fun hg=>za4 9 rfl zk hg (lz0 0 rfl) (Sub.part 1 rfl rfl) zao)) (oc (zal rfl rfl rfl (vq 6 rfl) nq (fun hg=>za5 (xs:=[.tmp 11,.tmp 13]) (r2cmp_x hg) (.cons (zae (vq 8 rfl) hg) (.cons (zae (vq 10 rfl) hg) .nil)))) (oc (zal rfl rfl rfl (vq 6 rfl) nq (fun hg=>zkt (zae (vq 11 rfl) hg) za3)) (zv rfl (zcj (vq 6 rfl) (vq 12 rfl)) (zv rfl (za1 (vq 13 rfl)) o0))))))))))))))) (fun a w hst=>?_)
 have hst:St B w0 17 [(2,_)] [⟨1,39,ptrH,_⟩] a w:=hst
 refine za0 ?_
 refine wp_ret ?_
 refine zai ?_ (zaa rfl hst (zm 0 rfl))
 exact zb6
theorem ziv {g:RGp}(h:[g.lo,g.hi].all okX=true):Cn Tryz.prog 73 [(GpA g).va] (Bo (ptF g)):=by
 refine Cn.intro Tryz.func73 rfl zk nq (fun B w0 a hst=>?_)
 have hst:St B w0 9 [(0,(GpA g).va)] [] a w0.w:=hst
 refine wp_seq ?_
 refine gl (sts:=[]) (news:=[⟨1,39,ptrH,some 0,_,none⟩]) (sp:=[.alc 0,.val 2 _]) [.o 1] hst (oc (zan rfl rfl rfl (gq 0 rfl)) (zv rfl (za1 zba) o0)) (fun a w hst=>?_)
 have hst:St B w0 9 [(2,_)] [⟨1,39,ptrH,_⟩] a w:=hst
 refine zt<|gl (sts:=[none]) (news:=[]) (sp:=[.adr 3 1 (.some 0) True,.val 4 _,.adr 5 1 (.some 4) True,.val 6 _,.val 7 _,.val 8 _,.val 2 _]) [.o 6] hst (oc (ob_a rfl rfl (za7 (lz0 0 rfl) zbw)) (zv rfl (za4 0 rfl zk trivial (lz0 0 rfl) (Sub.part 0 rfl rfl) zao) (oc (ob_a rfl rfl (za7 (lz0 0 rfl) zby)) (zv rfl (za4 2 rfl zk trivial (lz0 0 rfl) (Sub.part 1 rfl rfl) zao) (zv rfl (za5 (xs:=[.tmp 4,.tmp 6]) (r2cmp_x h) (.cons (vq 1 rfl) (.cons (vq 3 rfl) .nil))) (zv rfl (zc2 (vq 4 rfl) za3) (zv rfl (za1 (vq 5 rfl)) o0))))))) (fun a w hst=>?_)
 have hst:St B w0 9 [(2,_)] [⟨1,39,ptrH,_⟩] a w:=hst
 refine za0 ?_
 refine wp_ret ?_
 refine zai ?_ (zaa rfl hst (zm 0 rfl))
 exact zb6
theorem r24may_c (x:RLo):Cn Tryz.prog 37 [(LoA x).va] (Bo (loF x)):=by
 refine Cn.intro Tryz.func37 rfl zk nq (fun B w0 a hst=>?_)
 have hst:St B w0 59 [(0,(LoA x).va)] [] a w0.w:=hst
 refine wp_seq ?_
 refine gl (sts:=[]) (news:=[⟨1,41,ptrH,some 0,_,none⟩]) (sp:=[.alc 0,.val 2 _]) [.o 1] hst (oc (zan rfl rfl rfl (gq 0 rfl)) (zv rfl (za1 zba) o0)) (fun a w hst=>?_)
 have hst:St B w0 59 [(2,_)] [⟨1,41,ptrH,_⟩] a w:=hst
 refine zt ?_
 refine wp_seq ?_
 refine gl (sts:=[none]) (news:=[]) (sp:=[.adr 3 1 (.some 1) True,.val 4 _,.val 5 _,.val 6 _,.val 7 _,.adr 8 1 (.some 9) (_=false),.val 9 (Wh (_=false) _),.val 10 (Wh (_=false) _),.val 11 (Wh (_=false) _),.val 12 _]) [.g 0,.o 9] hst (oc (ob_a rfl rfl (za7 (lz0 0 rfl) zc5)) (zv rfl (za4 0 rfl zk trivial (lz0 0 rfl) (Sub.part 1 rfl rfl) zc6) (zv rfl (za5 (xs:=[.tmp 4]) (zhy _) (.cons (vq 1 rfl) .nil)) (zv rfl (zev (vq 2 rfl)) (zv rfl (za2 (vq 3 rfl)) (oc (zbz rfl rfl rfl (vq 4 rfl) nq (fun hg=>za7 (lz0 0 rfl) zcb)) (oc (zal rfl rfl rfl (vq 4 rfl) nq (fun hg=>za4 5 rfl zk hg (lz0 0 rfl) (Sub.part 2 rfl rfl) zc6)) (oc (zal rfl rfl rfl (vq 4 rfl) nq (fun hg=>za5 (xs:=[.tmp 9]) (zhy _) (.cons (zae (vq 6 rfl) hg) .nil))) (oc (zal rfl rfl rfl (vq 4 rfl) nq (fun hg=>zev (zae (vq 7 rfl) hg))) (zv rfl (r_or (vq 4 rfl) (vq 8 rfl)) o0)))))))))) (fun a w hst=>?_)
 have hst:St B w0 59 [(2,_),(12,_)] [⟨1,41,ptrH,_⟩] a w:=hst
 refine za0 ?_
 refine za8 hst (zm 1 rfl) (fun hb0=>?_) (fun hb0=>?_)
 ·refine wp_seq ?_
  refine gl (sts:=[none]) (news:=[]) (sp:=[.val 2 _]) [.o 0] hst (zv rfl (za1 zba) o0) (fun a w hst=>?_)
  have hst:St B w0 59 [(2,_)] [⟨1,41,ptrH,_⟩] a w:=hst
  refine za0 ?_
  refine wp_ret ?_
  refine zad ?_
  refine zai ?_ (zaa rfl hst (zm 0 rfl))
  rw [lo_no1 hb0]; exact zb6
 ·refine wp_skip ?_
  refine zt<|gl (sts:=[none]) (news:=[]) (sp:=((.adr 13 1 (.some 0) True:Sp)::(.val 14 _)::(.adr 15 1 (.some 1) True)::(.adr 16 1 (.some (1+0)) True)::(.val 17 _)::(.adr 18 1 (.some 9) True)::(.adr 19 1 (.some (9+0)) True)::(.val 20 _)::(.val 21 _)::(.val 22 _)::(.val 23 _)::(.adr 24 1 (.some 0) (_=true))::(.val 25 (Wh (_=true) _))::(.adr 26 1 (.some 1) (_=true))::(.adr 27 1 (.some (1+0)) (_=true))::(.val 28 (Wh (_=true) _))::(.adr 29 1 (.some 9) (_=true))::(.adr 30 1 (.some (9+4)) (_=true))::(.val 31 (Wh (_=true) _))::(.val 32 (Wh (_=true) _))::(.val 33 (Wh (_=true) _))::(.val 34 _)::(.val 35 _)::(.adr 36 1 (.some 0) (_=true))::(.val 37 (Wh (_=true) _))::(.adr 38 1 (.some 1) (_=true))::(.adr 39 1 (.some (1+4)) (_=true))::(.val 40 (Wh (_=true) _))::(.adr 41 1 (.some 9) (_=true))::(.adr 42 1 (.some (9+0)) (_=true))::(.val 43 (Wh (_=true) _))::(.val 44 (Wh (_=true) _))::(.val 45 (Wh (_=true) _))::(.val 46 _)::(.val 47 _)::(.adr 48 1 (.some 0) (_=true))::(.val 49 (Wh (_=true) _))::(.adr 50 1 (.some 1) (_=true))::(.adr 51 1 (.some (1+4)) (_=true))::(.val 52 (Wh (_=true) _))::(.adr 53 1 (.some 9) (_=true))::(.adr 54 1 (.some (9+4)) (_=true))::(.val 55 (Wh (_=true) _))::(.val 56 (Wh (_=true) _))::(.val 57 (Wh (_=true) _))::(.val 58 _)::(.val 2 _)::[])) [.o 46] hst (oc (ob_a rfl rfl (za7 (lz0 0 rfl) zcz)) (zv rfl (za4 0 rfl zk trivial (lz0 0 rfl) (Sub.part 0 rfl rfl) zeb) (oc (ob_a rfl rfl (za7 (lz0 0 rfl) zc5)) (oc (ob_a rfl rfl (zet 2 rfl zk trivial (lz0 0 rfl) zbw)) (zv rfl (za4 3 rfl zk trivial (lz0 0 rfl) (Sub.trans (Sub.part 1 rfl rfl) (Sub.part 0 rfl rfl) rfl) zao) (oc (ob_a rfl rfl (za7 (lz0 0 rfl) zcb)) (oc (ob_a rfl rfl (zet 5 rfl zk trivial (lz0 0 rfl) zbw)) (zv rfl (za4 6 rfl zk trivial (lz0 0 rfl) (Sub.trans (Sub.part 2 rfl rfl) (Sub.part 0 rfl rfl) rfl) zao) (zv rfl (zbb (xs:=[(0,.tmp 14),(1,.tmp 17),(2,.tmp 20)]) (qs:=[(0,_),(1,_),(2,_)]) zd8 (.cons ⟨rfl,(vq 1 rfl),rfl⟩ (.cons ⟨rfl,(vq 4 rfl),rfl⟩ (.cons ⟨rfl,(vq 7 rfl),rfl⟩ .nil)))) (zv rfl (za5 (xs:=[.tmp 21]) (zhg ⟨_,_,_⟩) (.cons (vq 8 rfl) .nil)) (zv rfl (za2 (vq 9 rfl)) (oc (zbz rfl rfl rfl (vq 10 rfl) nq (fun hg=>za7 (lz0 0 rfl) zcz)) (oc (zal rfl rfl rfl (vq 10 rfl) nq (fun hg=>za4 11 rfl zk hg (lz0 0 rfl) (Sub.part 0 rfl rfl) zeb)) (oc (zbz rfl rfl rfl (vq 10 rfl) nq (fun hg=>za7 (lz0 0 rfl) zc5)) (oc (zbz rfl rfl rfl (vq 10 rfl) nq (fun hg=>zet 13 rfl zk hg (lz0 0 rfl) zbw)) (oc (zal rfl rfl rfl (vq 10 rfl) nq (fun hg=>za4 14 rfl zk hg (lz0 0 rfl) (Sub.trans (Sub.part 1 rfl rfl) (Sub.part 0 rfl rfl) rfl) zao)) (oc (zbz rfl rfl rfl (vq 10 rfl) nq (fun hg=>za7 (lz0 0 rfl) zcb)) (oc (zbz rfl rfl rfl (vq 10 rfl) nq (fun hg=>zet 16 rfl zk hg (lz0 0 rfl) zby)) (oc (zal rfl rfl rfl (vq 10 rfl) nq (fun hg=>za4 17 rfl zk hg (lz0 0 rfl) (Sub.trans (Sub.part 2 rfl rfl) (Sub.part 1 rfl rfl) rfl) zao)) (oc (zal rfl rfl rfl (vq 10 rfl) nq (fun hg=>zbb (xs:=[(0,.tmp 25),(1,.tmp 28),(2,.tmp 31)]) (qs:=[(0,_),(1,_),(2,_)]) zd8 (.cons ⟨rfl,(zae (vq 12 rfl) hg),rfl⟩ (.cons ⟨rfl,(zae (vq 15 rfl) hg),rfl⟩ (.cons ⟨rfl,(zae (vq 18 rfl) hg),rfl⟩ .nil))))) (oc (zal rfl rfl rfl (vq 10 rfl) nq (fun hg=>za5 (xs:=[.tmp 32]) (zhg ⟨_,_,_⟩) (.cons (zae (vq 19 rfl) hg) .nil))) (zv rfl (zcj (vq 10 rfl) (vq 20 rfl)) (zv rfl (za2 (vq 21 rfl)) (oc (zbz rfl rfl rfl (vq 22 rfl) nq (fun hg=>za7 (lz0 0 rfl) zcz)) (oc (zal rfl rfl rfl (vq 22 rfl) nq (fun hg=>za4 23 rfl zk hg (lz0 0 rfl) (Sub.part 0 rfl rfl) zeb)) (oc (zbz rfl rfl rfl (vq 22 rfl) nq (fun hg=>za7 (lz0 0 rfl) zc5)) (oc (zbz rfl rfl rfl (vq 22 rfl) nq (fun hg=>zet 25 rfl zk hg (lz0 0 rfl) zby)) (oc (zal rfl rfl rfl (vq 22 rfl) nq (fun hg=>za4 26 rfl zk hg (lz0 0 rfl) (Sub.trans (Sub.part 1 rfl rfl) (Sub.part 1 rfl rfl) rfl) zao)) (oc (zbz rfl rfl rfl (vq 22 rfl) nq (fun hg=>za7 (lz0 0 rfl) zcb)) (oc (zbz rfl rfl rfl (vq 22 rfl) nq (fun hg=>zet 28 rfl zk hg (lz0 0 rfl) zbw)) (oc (zal rfl rfl rfl (vq 22 rfl) nq (fun hg=>za4 29 rfl zk hg (lz0 0 rfl) (Sub.trans (Sub.part 2 rfl rfl) (Sub.part 0 rfl rfl) rfl) zao)) (oc (zal rfl rfl rfl (vq 22 rfl) nq (fun hg=>zbb (xs:=[(0,.tmp 37),(1,.tmp 40),(2,.tmp 43)]) (qs:=[(0,_),(1,_),(2,_)]) zd8 (.cons ⟨rfl,(zae (vq 24 rfl) hg),rfl⟩ (.cons ⟨rfl,(zae (vq 27 rfl) hg),rfl⟩ (.cons ⟨rfl,(zae (vq 30 rfl) hg),rfl⟩ .nil))))) (oc (zal rfl rfl rfl (vq 22 rfl) nq (fun hg=>za5 (xs:=[.tmp 44]) (zhg ⟨_,_,_⟩) (.cons (zae (vq 31 rfl) hg) .nil))) (zv rfl (zcj (vq 22 rfl) (vq 32 rfl)) (zv rfl (za2 (vq 33 rfl)) (oc (zbz rfl rfl rfl (vq 34 rfl) nq (fun hg=>za7 (lz0 0 rfl) zcz)) (oc (zal rfl rfl rfl (vq 34 rfl) nq (fun hg=>za4 35 rfl zk hg (lz0 0 rfl) (Sub.part 0 rfl rfl) zeb)) (oc (zbz rfl rfl rfl (vq 34 rfl) nq (fun hg=>za7 (lz0 0 rfl) zc5)) (oc (zbz rfl rfl rfl (vq 34 rfl) nq (fun hg=>zet 37 rfl zk hg (lz0 0 rfl) zby)) (oc (zal rfl rfl rfl (vq 34 rfl) nq (fun hg=>za4 38 rfl zk hg (lz0 0 rfl) (Sub.trans (Sub.part 1 rfl rfl) (Sub.part 1 rfl rfl) rfl) zao)) (oc (zbz rfl rfl rfl (vq 34 rfl) nq (fun hg=>za7 (lz0 0 rfl) zcb)) (oc (zbz rfl rfl rfl (vq 34 rfl) nq (fun hg=>zet 40 rfl zk hg (lz0 0 rfl) zby)) (oc (zal rfl rfl rfl (vq 34 rfl) nq (fun hg=>za4 41 rfl zk hg (lz0 0 rfl) (Sub.trans (Sub.part 2 rfl rfl) (Sub.part 1 rfl rfl) rfl) zao)) (oc (zal rfl rfl rfl (vq 34 rfl) nq (fun hg=>zbb (xs:=[(0,.tmp 49),(1,.tmp 52),(2,.tmp 55)]) (qs:=[(0,_),(1,_),(2,_)]) zd8 (.cons ⟨rfl,(zae (vq 36 rfl) hg),rfl⟩ (.cons ⟨rfl,(zae (vq 39 rfl) hg),rfl⟩ (.cons ⟨rfl,(zae (vq 42 rfl) hg),rfl⟩ .nil))))) (oc (zal rfl rfl rfl (vq 34 rfl) nq (fun hg=>za5 (xs:=[.tmp 56]) (zhg ⟨_,_,_⟩) (.cons (zae (vq 43 rfl) hg) .nil))) (zv rfl (zcj (vq 34 rfl) (vq 44 rfl)) (zv rfl (za1 (vq 45 rfl)) o0))))))))))))))))))))))))))))))))))))))))))))))) (fun a w hst=>?_)
  have hst:St B w0 59 [(2,_)] [⟨1,41,ptrH,_⟩] a w:=hst
  refine za0 ?_
  refine wp_ret ?_
  refine zai ?_ (zaa rfl hst (zm 0 rfl))
  exact zbv (congrArg Bo (m24_e hb0))
theorem r24many_c (xs:List RLo)(h4:xs.length≤4096)(ha:xs.all loF=true):Cn Tryz.prog 38 [(SlA 41 [U32] (xs.map LoA)).va] (In ((manyF xs:Nat):Int)):=by
 refine Cn.intro Tryz.func38 rfl zk nq (fun B w0 a hst=>?_)
 have hst:St B w0 30 [(0,(SlA 41 [U32] (xs.map LoA)).va)] [] a w0.w:=hst
 refine wp_seq ?_
 refine gl (sts:=[]) (news:=[]) (sp:=[.val 2 _]) [.g 0,.o 0] hst (zv rfl (za1 za3) o0) (fun a w hst=>?_)
 have hst:St B w0 30 [(0,_),(2,_)] [] a w:=hst
 refine zt<|gl (sts:=[]) (news:=[]) (sp:=[.val 3 _]) [.g 0,.g 1,.o 0] hst (zv rfl (za1 za3) o0) (fun a w hst=>?_)
 have hst:St B w0 30 [(0,_),(2,_),(3,_)] [] a w:=hst
 refine zt ?_
 refine wp_seq ?_
 refine gl (sts:=[]) (news:=[]) (sp:=[.val 4 _]) [.g 0,.g 1,.g 2,.o 0] hst (zv rfl (za1 za3) o0) (fun a w hst=>?_)
 have hst:St B w0 30 [(0,_),(2,_),(3,_),(4,_)] [] a w:=hst
 refine za0 ?_
 refine wp_block ?_
 have hst:=St.sel hst [0,2,3]
 refine wp_loop_ghost (fun n a w=>∃ (j:Nat),(n+j=xs.length)∧St B w0 30 [(0,(SlA 41 [U32] (xs.map LoA)).va),(3,In ((manyF (xs.take j):Nat):Int)),(4,In (j:Nat))] [] a w) (xs.length) ?_ ?_
 ·exact ⟨0,by omega,hst⟩
 intro n a w hI
 obtain ⟨j,hn,hst⟩:=hI
 refine wp_seq ?_
 refine wp_seq ?_
 refine gl (sts:=[]) (news:=[]) (sp:=[.val 5 _,.val 6 _,.val 7 _,.val 8 _]) [.g 0,.g 1,.g 2,.o 3] hst (zv rfl (za2 (gq 2 rfl)) (zv rfl (za2 (gq 0 rfl)) (zv rfl (zd4 Tryz.underlying22 (vq 1 rfl)) (zv rfl (zbt (vq 0 rfl) (vq 2 rfl)) o0)))) (fun a w hst=>?_)
 have hst:St B w0 30 [(0,_),(3,_),(4,_),(8,_)] [] a w:=hst
 refine za0 ?_
 refine za8 hst (zm 3 rfl) (fun hb0=>?_) (fun hb0=>?_)
 ·have hj:j<xs.length:=by rw [List.length_map] at hb0; have:=of_decide_eq_true hb0; omega
  have hm:=zdp xs j
  have g1:=zj2 xs[j].p
  have g2:=zj2 xs[j].q
  obtain ⟨k1,k2⟩:=los_2 ha hj
  refine wp_skip ?_
  refine zt ?_
  refine wp_block ?_
  refine wp_seq ?_
  refine wp_seq ?_
  refine gl (sts:=[]) (news:=[]) (sp:=[.val 11 _,.val 12 _,.val 13 _,.val 14 _,.val 15 _,.val 16 _,.val 17 _]) [.g 0,.g 1,.g 2,.o 6] hst (zv rfl (za2 (gq 0 rfl)) (zv rfl (za2 (gq 2 rfl)) (zv rfl (ze5 zeu (zf1 fun _=>rfl) (vq 0 rfl) (vq 1 rfl) (zdg hj)) (zv rfl (zd9 (vq 2 rfl) zc5 (Sub.part 1 rfl rfl)) (zv rfl (zav (vq 3 rfl) zc6) (zv rfl (za5 (xs:=[.tmp 15]) (ziv k1) (.cons (vq 4 rfl) .nil)) (zv rfl (zev (vq 5 rfl)) o0))))))) (fun a w hst=>?_)
  have hst:St B w0 30 [(0,_),(3,_),(4,_),(17,_)] [] a w:=hst
  refine za0 ?_
  refine zc3 (fun a w =>  St B w0 30 [(0,(SlA 41 [U32] (xs.map LoA)).va),(3,In ((manyF (xs.take j)+gpL xs[j].p:Nat):Int)),(4,In (j:Nat))] [] a w) hst (zm 3 rfl) (fun hb1=>?_) (fun hb1=>?_) (fun a w hst=>?_)
  ·refine gl (sts:=[]) (news:=[]) (sp:=[.val 18 _,.val 19 _,.val 3 _]) [.g 0,.g 2,.o 2] hst (zv rfl (za2 (gq 1 rfl)) (zv rfl (zb7 (vq 0 rfl) za3 ((wi64 zo zo).trans (by omega:(_:Int)=((manyF (xs.take j)+1:Nat):Int)))) (zv rfl (za1 (vq 1 rfl)) o0))) (fun a w hst=>?_)
   have hst:St B w0 30 [(0,_),(4,_),(3,_)] [] a w:=hst
   refine za0 ?_
   have hst:=St.sel hst [0,2,1]
   rw [gp_1 hb1]; exact hst
  ·refine wp_skip ?_
   refine za0 ?_
   have hst:=St.sel hst [0,1,2]
   rw [gp_0 hb1]; exact hst
  refine zt<|gl (sts:=[]) (news:=[]) (sp:=[.val 20 _,.val 21 _,.val 22 _,.val 23 _,.val 24 _,.val 25 _,.val 26 _]) [.g 0,.g 1,.g 2,.o 6] hst (zv rfl (za2 (gq 0 rfl)) (zv rfl (za2 (gq 2 rfl)) (zv rfl (ze5 zeu (zf1 fun _=>rfl) (vq 0 rfl) (vq 1 rfl) (zdg hj)) (zv rfl (zd9 (vq 2 rfl) zcb (Sub.part 2 rfl rfl)) (zv rfl (zav (vq 3 rfl) zc6) (zv rfl (za5 (xs:=[.tmp 24]) (ziv k2) (.cons (vq 4 rfl) .nil)) (zv rfl (zev (vq 5 rfl)) o0))))))) (fun a w hst=>?_)
  have hst:St B w0 30 [(0,_),(3,_),(4,_),(26,_)] [] a w:=hst
  refine za0 ?_
  refine zc3 (fun a w =>  St B w0 30 [(0,(SlA 41 [U32] (xs.map LoA)).va),(3,In ((manyF (xs.take j)+gpL xs[j].p+gpL xs[j].q:Nat):Int)),(4,In (j:Nat))] [] a w) hst (zm 3 rfl) (fun hb2=>?_) (fun hb2=>?_) (fun a w hst=>?_)
  ·refine gl (sts:=[]) (news:=[]) (sp:=[.val 27 _,.val 28 _,.val 3 _]) [.g 0,.g 2,.o 2] hst (zv rfl (za2 (gq 1 rfl)) (zv rfl (zb7 (vq 0 rfl) za3 ((wi64 zo zo).trans (by omega:(_:Int)=((manyF (xs.take j)+gpL xs[j].p+1:Nat):Int)))) (zv rfl (za1 (vq 1 rfl)) o0))) (fun a w hst=>?_)
   have hst:St B w0 30 [(0,_),(4,_),(3,_)] [] a w:=hst
   refine za0 ?_
   have hst:=St.sel hst [0,2,1]
   rw [gp_1 hb2]; exact hst
  ·refine wp_skip ?_
   refine za0 ?_
   have hst:=St.sel hst [0,1,2]
   rw [gp_0 hb2]; exact hst
  refine zaj ?_
  refine za0 ?_
  refine gl (sts:=[]) (news:=[]) (sp:=[.val 9 _,.val 10 _,.val 4 _]) [.g 0,.g 1,.o 2] hst (zv rfl (za2 (gq 2 rfl)) (zv rfl (zb7 (vq 0 rfl) za3 ((wi64 zo zo).trans (by omega:(_:Int)=((j+1:Nat):Int)))) (zv rfl (za1 (vq 1 rfl)) o0))) (fun a w hst=>?_)
  have hst:St B w0 30 [(0,_),(3,_),(4,_)] [] a w:=hst
  refine za0 ?_
  have hst:=St.sel hst [0,1,2]
  rw [← many_nx' hj] at hst
  exact ⟨n-1,by omega,j+1,by omega,hst⟩
 ·obtain rfl:j=xs.length:=by rw [List.length_map] at hb0; have:=of_decide_eq_false hb0; omega
  refine wp_exit ?_
  refine zac ?_
  refine zac ?_
  refine zay ?_
  refine zt<|gl (sts:=[]) (news:=[]) (sp:=[.val 29 _,.val 2 _]) [.o 1] hst (zv rfl (za2 (gq 1 rfl)) (zv rfl (za1 (vq 0 rfl)) o0)) (fun a w hst=>?_)
  have hst:St B w0 30 [(2,_)] [] a w:=hst
  refine za0 ?_
  refine wp_ret ?_
  refine zai ?_ (zaa rfl hst (zm 0 rfl))
  rw [List.take_length]; exact zb6
theorem r24check_c (xs:List RLo):Cn Tryz.prog 11 [(SlA 41 [U32] (xs.map LoA)).va] (In (tchF xs)):=by
 refine Cn.intro Tryz.func11 rfl zk nq (fun B w0 a hst=>?_)
 have hst:St B w0 22 [(0,(SlA 41 [U32] (xs.map LoA)).va)] [] a w0.w:=hst
 refine wp_seq ?_
 refine gl (sts:=[]) (news:=[]) (sp:=[.val 2 _]) [.g 0,.o 0] hst (zv rfl (za1 za3) o0) (fun a w hst=>?_)
 have hst:St B w0 22 [(0,_),(2,_)] [] a w:=hst
 refine zt ?_
 refine wp_seq ?_
 refine gl (sts:=[]) (news:=[]) (sp:=[.val 4 _,.val 5 _,.val 6 _]) [.g 0,.g 1,.o 2] hst (zv rfl (za2 (gq 0 rfl)) (zv rfl (zd4 Tryz.underlying22 (vq 0 rfl)) (zv rfl (zdo (vq 1 rfl) za3) o0))) (fun a w hst=>?_)
 have hst:St B w0 22 [(0,_),(2,_),(6,_)] [] a w:=hst
 refine za0 ?_
 refine za8 hst (zm 2 rfl) (fun hb0=>?_) (fun hb0=>?_)
 ·have hbig:xs.length>4096:=by rw [List.length_map] at hb0; have:=of_decide_eq_true hb0; omega
  refine wp_seq ?_
  refine gl (sts:=[]) (news:=[]) (sp:=[.val 2 _]) [.g 0,.o 0] hst (zv rfl (za1 za3) o0) (fun a w hst=>?_)
  have hst:St B w0 22 [(0,_),(2,_)] [] a w:=hst
  refine za0 ?_
  refine wp_ret ?_
  refine zad ?_
  refine zai ?_ (zaa rfl hst (zm 1 rfl))
  rw [tchF,if_pos hbig]; exact zb6
 ·have hbig:¬ xs.length>4096:=by rw [List.length_map] at hb0; have:=of_decide_eq_false hb0; omega
  refine wp_skip ?_
  refine zt ?_
  refine wp_seq ?_
  refine gl (sts:=[]) (news:=[]) (sp:=[.val 3 _]) [.g 0,.g 1,.o 0] hst (zv rfl (za1 za3) o0) (fun a w hst=>?_)
  have hst:St B w0 22 [(0,_),(2,_),(3,_)] [] a w:=hst
  refine za0 ?_
  refine wp_block ?_
  have hst:=St.sel hst [0,2]
  refine wp_loop_ghost (fun n a w=>∃ (j:Nat),(n+j=xs.length∧(xs.take j).all loF=true)∧St B w0 22 [(0,(SlA 41 [U32] (xs.map LoA)).va),(3,In (j:Nat))] [] a w) (xs.length) ?_ ?_
  ·exact ⟨0,⟨by omega,rfl⟩,hst⟩
  intro n a w hI
  obtain ⟨j,⟨hn,hno⟩,hst⟩:=hI
  refine wp_seq ?_
  refine wp_seq ?_
  refine gl (sts:=[]) (news:=[]) (sp:=[.val 7 _,.val 8 _,.val 9 _,.val 10 _]) [.g 0,.g 1,.o 3] hst (zv rfl (za2 (gq 1 rfl)) (zv rfl (za2 (gq 0 rfl)) (zv rfl (zd4 Tryz.underlying22 (vq 1 rfl)) (zv rfl (zbt (vq 0 rfl) (vq 2 rfl)) o0)))) (fun a w hst=>?_)
  have hst:St B w0 22 [(0,_),(3,_),(10,_)] [] a w:=hst
  refine za0 ?_
  refine za8 hst (zm 2 rfl) (fun hb1=>?_) (fun hb1=>?_)
  ·have hj:j<xs.length:=by rw [List.length_map] at hb1; have:=of_decide_eq_true hb1; omega
   refine wp_skip ?_
   refine zt ?_
   refine wp_block ?_
   refine wp_seq ?_
   refine gl (sts:=[]) (news:=[]) (sp:=[.val 13 _,.val 14 _,.val 15 _,.val 16 _,.val 17 _,.val 18 _]) [.g 0,.g 1,.o 5] hst (zv rfl (za2 (gq 0 rfl)) (zv rfl (za2 (gq 1 rfl)) (zv rfl (ze5 zeu (zf1 fun _=>rfl) (vq 0 rfl) (vq 1 rfl) (zdg hj)) (zv rfl (zav (vq 2 rfl) zg2) (zv rfl (za5 (xs:=[.tmp 16]) (r24may_c _) (.cons (vq 3 rfl) .nil)) (zv rfl (zev (vq 4 rfl)) o0)))))) (fun a w hst=>?_)
   have hst:St B w0 22 [(0,_),(3,_),(18,_)] [] a w:=hst
   refine za0 ?_
   refine za8 hst (zm 2 rfl) (fun hb2=>?_) (fun hb2=>?_)
   ·refine wp_seq ?_
    refine gl (sts:=[]) (news:=[]) (sp:=[.val 2 _]) [.g 0,.g 1,.o 0] hst (zv rfl (za1 za3) o0) (fun a w hst=>?_)
    have hst:St B w0 22 [(0,_),(3,_),(2,_)] [] a w:=hst
    refine za0 ?_
    refine wp_ret ?_
    refine zb3 ?_
    refine zad ?_
    refine zad ?_
    refine zb3 ?_
    refine zad ?_
    refine zai ?_ (zaa rfl hst (zm 2 rfl))
    rw [tch_bad hbig hj (by simpa using hb2)]; exact zb6
   ·refine wp_skip ?_
    refine zaj ?_
    refine za0 ?_
    refine gl (sts:=[]) (news:=[]) (sp:=[.val 11 _,.val 12 _,.val 3 _]) [.g 0,.o 2] hst (zv rfl (za2 (gq 1 rfl)) (zv rfl (zb7 (vq 0 rfl) za3 ((wi64 zo zo).trans (by omega:(_:Int)=((j+1:Nat):Int)))) (zv rfl (za1 (vq 1 rfl)) o0))) (fun a w hst=>?_)
    have hst:St B w0 22 [(0,_),(3,_)] [] a w:=hst
    refine za0 ?_
    have hst:=St.sel hst [0,1]
    exact ⟨n-1,by omega,j+1,⟨by omega,all_nx hj hno (by simpa using hb2)⟩,hst⟩
  ·obtain rfl:j=xs.length:=by rw [List.length_map] at hb1; have:=of_decide_eq_false hb1; omega
   have ha:xs.all loF=true:=by rw [List.take_length] at hno; exact hno
   refine wp_exit ?_
   refine zac ?_
   refine zac ?_
   refine zay ?_
   refine zt ?_
   refine wp_seq ?_
   refine gl (sts:=[]) (news:=[]) (sp:=[.val 19 _,.val 20 _,.val 21 _]) [.o 2] hst (zv rfl (za2 (gq 0 rfl)) (zv rfl (za5 (xs:=[.tmp 19]) (r24many_c xs zo ha) (.cons (vq 0 rfl) .nil)) (zv rfl (zdo (vq 1 rfl) za3) o0))) (fun a w hst=>?_)
   have hst:St B w0 22 [(21,_)] [] a w:=hst
   refine za0 ?_
   refine za8 hst (zm 0 rfl) (fun hb3=>?_) (fun hb3=>?_)
   ·have hm:manyF xs>12:=by have:=of_decide_eq_true hb3; omega
    refine wp_seq ?_
    refine gl (sts:=[]) (news:=[]) (sp:=[.val 2 _]) [.o 0] hst (zv rfl (za1 za3) o0) (fun a w hst=>?_)
    have hst:St B w0 22 [(2,_)] [] a w:=hst
    refine za0 ?_
    refine wp_ret ?_
    refine zad ?_
    refine zai ?_ (zaa rfl hst (zm 0 rfl))
    rw [tchF,if_neg hbig,if_pos ha,if_pos hm]; exact zb6
   ·have hm:¬ manyF xs>12:=by have:=of_decide_eq_false hb3; omega
    refine wp_skip ?_
    refine zt<|gl (sts:=[]) (news:=[]) (sp:=[.val 2 _]) [.o 0] hst (zv rfl (za1 za3) o0) (fun a w hst=>?_)
    have hst:St B w0 22 [(2,_)] [] a w:=hst
    refine za0 ?_
    refine wp_ret ?_
    refine zai ?_ (zaa rfl hst (zm 0 rfl))
    rw [tchF,if_neg hbig,if_pos ha,if_neg hm]; exact zb6
end Go.Proofs.YtlpppkkggljdcaaGreat
