import Derived.Test.YtlpppkkggljdcaaGreatTwAa
import Derived.Test.YtlpppkkggljdcaaGreatTwAc
import Derived.Test.YtlpppkkggljdcaaGreatTwAu
set_option linter.unusedVariables false
set_option linter.unusedSimpArgs false
set_option linter.unusedSectionVars false
set_option maxRecDepth 100000
namespace Go.Proofs.YtlpppkkggljdcaaGreat
open Go Go.RowKit
theorem plusN_t {c d:Nat}{x y:Rat}(hc:c+d≤137438953472):Cn Tryz.prog 60 [Qs c x,Qs d y] (RFN (rfOf (x+y))).va:=(plusD_q hc).wkp qd_rfn.va
theorem row_cn {xs:List RLo}(h4:xs.length≤4096)(hx:xs.all loF=true)(k:Nat):Cn Tryz.prog 49 [(OwnC 62 9 [U32] ((cnF xs k).map REN)).va] (QMA 16781313 (prodQ (cnF xs k))).va :=
 (zh2 (by rw [cnF_len]; exact h4) (cnF_ok hx k)).wk (.cons wk_renA .nil)
theorem up_eqA (v:Value):Up (EqA v).va (EqA v).va:=UpA.va ⟨rfl,rfl,fun _ _ _ _ h=>h⟩
abbrev aF (ask:MQ→Rat)(xs:List RLo):Nat→Rat:=fun k=>ask (prodQ (cnF xs k))
def gapF (ask:MQ→Rat)(xs:List RLo):RGp × Int:=if tchF xs=0 then (if [loS (aF ask xs) (2^manyF xs),hiS (aF ask xs) (2^manyF xs)].any longQ then (gp0,4) else (⟨rfOf (loS (aF ask xs) (2^manyF xs)),rfOf (hiS (aF ask xs) (2^manyF xs))⟩,0)) else (gp0,tchF xs)
theorem zjk {xs:List RLo}(h:tchF xs=0):xs.length≤4096∧xs.all loF=true∧manyF xs≤12:=by
 unfold tchF at h
 split at h
 ·exact absurd h zd
 ·split at h
  ·split at h
   ·exact absurd h zd
   ·rename_i h1 h2 h3; exact ⟨by omega,h2,by omega⟩
  ·exact absurd h zd
theorem pow_pos' (m:Nat):2^m≠0:=Nat.ne_of_gt (Nat.two_pow_pos m)
theorem gp_qa {f:Nat→Rat}{m:Nat}(hf:∀ k,bQ 33562627 (f k)):WkA (GpA (gpS f (2^m))) (cat [QA 33562627 (loS f (2^m)),QA 33562627 (hiS f (2^m))]):=by
 have e:gpS f (2^m)=⟨rfOf (loS f (2^m)),rfOf (hiS f (2^m))⟩:=if_neg (pow_pos' m)
 rw [e]
 exact zc6 (.cons (zg7 (lo_b zd hf _).1 (lo_b zd hf _).2) (.cons (zg7 (hi_b zd hf _).1 (hi_b zd hf _).2) .nil))
theorem gp_a {c d:Nat}{x y:Rat}:WkA (cat [QA c x,QA d y]) (GpA ⟨rfOf x,rfOf y⟩):=zc6 (.cons qaA (.cons qaA .nil))
abbrev GpR (r:RGp × Int):VA:=Tu [(GpA r.1).va,In r.2]
theorem zib {m:MQ}:Cn Tryz.prog 45 [(QMA 16781313 m).va] ((RFN (rfOf (trQ' m))).va):=by
 refine Cn.intro Tryz.func45 rfl zk nq (fun B w0 a hst=>?_)
 have hst:St B w0 8 [(0,(QMA 16781313 m).va)] [] a w0.w:=hst
 refine wp_seq ?_
 refine gl (sts:=[]) (news:=[⟨1,56,ptrH,some 0,_,none⟩,⟨2,37,ptrH,some 1,_,none⟩]) (sp:=[.alc 0,.alc 1]) [] hst (oc (zam rfl rfl rfl (gq 0 rfl)) (oc (zag rfl rfl rfl (Str.zero zaq)) o0)) (fun a w hst=>?_)
 have hst:St B w0 8 [] [⟨1,56,ptrH,_⟩,⟨2,37,ptrH,_⟩] a w:=hst
 refine zt<|gl (sts:=[none,some (5,_)]) (news:=[]) (sp:=[.adr 3 1 (.some 0) True,.val 4 _,.adr 5 1 (.some 12) True,.val 6 _,.val 7 _,.sto 1]) [] hst (oc (ob_a rfl rfl (za9 (lz0 0 rfl) zcg)) (zv rfl (za4 0 rfl zk trivial (lz0 0 rfl) (Sub.part 0 rfl rfl) za7) (oc (ob_a rfl rfl (za9 (lz0 0 rfl) zcd)) (zv rfl (za4 2 rfl zk trivial (lz0 0 rfl) (Sub.part 3 rfl rfl) za7) (zv rfl (za5 (xs:=[.tmp 4,.tmp 6]) (plusN_t zd) (.cons (vq 1 rfl) (.cons (vq 3 rfl) .nil))) (oc (za8 rfl rfl rfl (vq 4 rfl) za7 (Eq.trans (b:=4) rfl rfl)) o0)))))) (fun a w hst=>?_)
 have hst:St B w0 8 [] [⟨1,56,ptrH,_⟩,⟨2,37,ptrH,_⟩] a w:=hst
 refine za0 ?_
 refine wp_ret ?_
 refine zae ?_ (zao rfl hst (zm 1 rfl) za7)
 exact zay
set_option maxHeartbeats 2000000 in
theorem ends_c {fq:FuncId}{ask:MQ→Rat}(xs:List RLo)(h4:xs.length≤4096)(hx:xs.all loF=true)(hm12:manyF xs≤12)(hask:∀ m,Cn Tryz.prog fq [(QMA 16781313 m).va] (RFN (rfOf (ask m))).va)(hfb:∀ k,bQ 33562627 (aF ask xs k)):Cn Tryz.prog 79 [(SlA 41 [U32] (xs.map LoA)).va,(EqA (.func (.func fq) #[] #[])).va] ((GpA (gpS (aF ask xs) (2^manyF xs))).va):=by
 refine Cn.introR Tryz.func79 rfl zk nq (.cons (zjc (fun A hA=>by obtain ⟨x,_,rfl⟩:=List.mem_map.1 hA; exact zjf x)).va (.cons (up_eqA _) .nil)) (free_gn _).va (fun B w0 a hB0 hN0 hst=>?_)
 have hst:St B w0 41 [(0,(SlO 41 [U32] (xs.map LoA) True).va),(1,(EqA (.func (.func fq) #[] #[])).va)] [] a w0.w:=hst
 refine wp_seq ?_
 refine gl (sts:=[]) (news:=[⟨3,80,ptrH,some 0,_,none⟩,⟨4,39,ptrH,some 1,_,none⟩]) (sp:=[.alc 0,.alc 1]) [.g 0] hst (oc (zam rfl rfl rfl (gq 1 rfl)) (oc (zag rfl rfl rfl zero_gpn) o0)) (fun a w hst=>?_)
 have hst:St B w0 41 [(0,_)] [⟨3,80,ptrH,_⟩,⟨4,39,ptrH,_⟩] a w:=hst
 refine zt<|gl (sts:=[none,none]) (news:=[⟨5,39,ptrH,some 0,_,none⟩]) (sp:=[.alc 2]) [.g 0] hst (oc (zag rfl rfl rfl zero_gpn) o0) (fun a w hst=>?_)
 have hst:St B w0 41 [(0,_)] [⟨3,80,ptrH,_⟩,⟨4,39,ptrH,_⟩,⟨5,39,ptrH,_⟩] a w:=hst
 refine zt ?_
 refine wp_seq ?_
 have hst:=St.cvA (A':=cat [RFN (gpS (aF ask xs) 0).lo,RFN (gpS (aF ask xs) 0).hi]) hst 2 rfl rfl
 obtain ⟨q3,hst⟩:=St.nm hst 0 rfl
 obtain ⟨q4,hst⟩:=St.nm hst 1 rfl
 obtain ⟨q5,hst⟩:=St.nm hst 2 rfl
 refine gl (sts:=[none,none,none]) (news:=[]) (sp:=[.val 9 _,.val 10 _]) [.g 0,.g 1,.g 2,.o 1] hst (zv rfl (za2 (gq 3 rfl)) (zv rfl (zik [(3,q3),(4,q4),(5,q5)] rfl (fun v hv=>zhk hv) (vq 0 rfl) (.cons (gq 2 rfl) (lz0 0 rfl) (.cons (gq 1 rfl) (lz0 1 rfl) (.cons (gq 0 rfl) (lz0 2 rfl) .nil)))) o0)) (fun a w hst=>?_)
 have hst:St B w0 41 [(5,_),(4,_),(3,_),(10,_)] [⟨3,80,ptrH,_⟩,⟨4,39,ptrH,_⟩,⟨5,39,ptrH,_⟩] a w:=hst
 obtain ⟨gb,hst,hds⟩:=St.itn (ps:=[(3,q3),(4,q4),(5,q5)]) 3 [2,1,0] hst rfl ⟨rfl,⟨rfl,⟨rfl,trivial⟩⟩⟩
 have hdis:∀ s∈[3,4,5],∀ g,blk (a.eval (.tmp s))=some g→g ∉ gb:=hds
 refine za0 ?_
 refine wp_block ?_
 have hst:=St.selL hst [0,1,2]
 refine ziy (k0:=3) (gb:=gb) (Dd:=[U32]) (Db:=[80,39]) (fun k=>[⟨3,80,ptrH,EqA (.func (.func fq) #[] #[])⟩,⟨4,39,ptrH,GnA gp0⟩,⟨5,39,ptrH,cat [RFN (gpS (aF ask xs) k).lo,RFN (gpS (aF ask xs) k).hi]⟩]) none (fun _=>none) hst hB0 hN0 rfl (zgg xs h4 hx hm12 gb) (M:=(2^manyF xs)) (Y:=fun k=>[In ((k:Nat):Int),(OwnC 62 9 [U32] ((cnF xs k).map REN)).va]) (fun h=>by cases h) zk [] zk (fun _=>by kernel_rfl) [3,4,5] (fun _=>by kernel_rfl) hdis (fun L hL=>by cases hL) (fun _ L hL=>by cases hL) (fun _=>rfl) zd zk (fun l k a1 Ws hk hBs hct hst=>?_) (fun a w hst=>?_) (fun L hL=>by cases hL) (fun _ L hL=>by cases hL)
 ·obtain ⟨a0,rfl⟩:∃ x,x=a:=⟨_,rfl⟩
  have hst:St B (rndB B [80,39] gb Ws Ws) 41 [(11,_),(12,_),(3,_),(4,_),(5,_)] [⟨3,80,ptrH,EqA (.func (.func fq) #[] #[])⟩,⟨4,39,ptrH,GnA gp0⟩,⟨5,39,ptrH,cat [RFN (gpS (aF ask xs) k).lo,RFN (gpS (aF ask xs) k).hi]⟩] a1 Ws:=hst
  refine wpIn_seq ?_
  refine zbh (sts:=[none,none,none]) (news:=[]) (sp:=[.val 6 _]) [.g 0,.g 1,.g 2,.g 3,.g 4,.o 0] zk (zbp fun _ _ h=>h) hst (zv rfl (za1 (gq 0 rfl)) o0) zk zk zk (fun a w hst=>?_)
  have hst:St B (rndB B [80,39] gb Ws Ws) 41 [(11,_),(12,_),(3,_),(4,_),(5,_),(6,_)] [⟨3,80,ptrH,_⟩,⟨4,39,ptrH,_⟩,⟨5,39,ptrH,_⟩] a w:=hst
  refine za0 ?_
  refine zbh (sts:=[none,none,none]) (news:=[]) (sp:=[.val 7 _]) [.g 0,.g 1,.g 2,.g 3,.g 4,.g 5,.o 0] zk (zbp fun _ _ h=>h) hst (zv rfl (za1 (gq 1 rfl)) o0) zk zk zk (fun a w hst=>?_)
  have hst:St B (rndB B [80,39] gb Ws Ws) 41 [(11,_),(12,_),(3,_),(4,_),(5,_),(6,_),(7,_)] [⟨3,80,ptrH,_⟩,⟨4,39,ptrH,_⟩,⟨5,39,ptrH,_⟩] a w:=hst
  refine za0 ?_
  refine ⟨hst.base,fun W3 hbg=>?_⟩
  have hst:=St.begin hst (Nat.le_refl _) hBs hbg
  refine wpIn_block ?_
  refine wpIn_seq ?_
  refine ziz (anc:=[[],[],[1],[0,1,2],[],[0,1,2,3,4]]) (sts:=[none,none,none]) (news:=[⟨8,37,ptrH,some 4,_,some (5,_)⟩]) (sp:=[.val 13 _,.val 14 _,.val 15 _,.val 16 _,.alc 3,.sto 3]) [.g 0,.g 1,.g 2,.g 3,.g 4,.g 5] za6 zk (zbp fun _ _ h=>h) hst (zv rfl (zad (lz0 0 rfl) ty_80) (zv rfl (za2 (gq 6 rfl)) (zv rfl (za5 (xs:=[.tmp 14]) (row_cn h4 hx k) (.cons (vq 1 rfl) .nil)) (zv rfl (r_callE (xs:=[.tmp 15]) (hask (prodQ (cnF xs k))) (vq 0 rfl) (.cons (vq 2 rfl) .nil)) (oc (zag rfl rfl rfl (Str.zero zaq)) (oc (za8 rfl rfl rfl (vq 3 rfl) za7 (Eq.trans (b:=4) rfl rfl)) o0)))))) zk zk zk zk (fun a w hst=>?_)
  have hst:St B (rndB B [80,39] gb Ws W3) 41 [(11,_),(12,_),(3,_),(4,_),(5,_),(6,_)] [⟨3,80,ptrH,_⟩,⟨4,39,ptrH,_⟩,⟨5,39,ptrH,_⟩,⟨8,37,ptrH,_⟩] a w:=hst
  refine za0 ?_
  refine wpIn_seq ?_
  refine wpIn_seq ?_
  refine zbh (sts:=[none,none,none,none]) (news:=[]) (sp:=[.val 17 _,.val 18 _,.val 19 _,.val 20 (Wh (_=false) _),.adr 21 5 (.some 0) (_=false),.val 22 (Wh (_=false) _),.val 23 (Wh (_=false) _),.val 24 (Wh (_=false) _),.val 25 _]) [.g 0,.g 1,.g 2,.g 3,.g 4,.g 5,.o 8] zk (zbp fun _ _ h=>h) hst (zv rfl (za2 (gq 5 rfl)) (zv rfl (zcq (vq 0 rfl) za3) (zv rfl (za2 (vq 1 rfl)) (oc (zaf rfl rfl rfl (vq 2 rfl) nq (fun hg=>zad (lz0 3 rfl) za7)) (oc (zdb rfl rfl rfl (vq 2 rfl) nq (fun hg=>za9 (lz0 2 rfl) zbs)) (oc (zaf rfl rfl rfl (vq 2 rfl) nq (fun hg=>za4 4 rfl zk hg (lz0 2 rfl) (Sub.part 0 rfl rfl) za7)) (oc (zaf rfl rfl rfl (vq 2 rfl) nq (fun hg=>za5 (xs:=[.tmp 20,.tmp 22]) (cmp_lo (f:=(aF ask xs)) hfb hg) (.cons (zaa (vq 3 rfl) hg) (.cons (zaa (vq 5 rfl) hg) .nil)))) (oc (zaf rfl rfl rfl (vq 2 rfl) nq (fun hg=>zby (zaa (vq 6 rfl) hg) za3)) (zv rfl (r_or (vq 2 rfl) (vq 7 rfl)) o0))))))))) zk zk zk (fun a w hst=>?_)
  have hst:St B (rndB B [80,39] gb Ws W3) 41 [(11,_),(12,_),(3,_),(4,_),(5,_),(6,_),(25,_)] [⟨3,80,ptrH,_⟩,⟨4,39,ptrH,_⟩,⟨5,39,ptrH,_⟩,⟨8,37,ptrH,_⟩] a w:=hst
  refine za0 ?_
  refine zf3 (fun a w =>  St B (rndB B [80,39] gb Ws W3) 41 [(6,In ((k:Nat):Int)),(3,EqV (a0.eval (.tmp 3))),(4,EqV (a0.eval (.tmp 4))),(5,EqV (a0.eval (.tmp 5)))] [⟨3,80,ptrH,EqA (.func (.func fq) #[] #[])⟩,⟨4,39,ptrH,GnA gp0⟩,⟨5,39,ptrH,cat [RFN (gpS (aF ask xs) (k+1)).lo,RFN (gpS (aF ask xs) k).hi]⟩,⟨8,37,ptrH,RFN (rfOf (aF ask xs k))⟩] a w) hst (zm 6 rfl) (fun hb0=>?_) (fun hb0=>?_) (fun a w hst=>?_)
  ·refine zbh (sts:=[none,none,some (2,_),none]) (news:=[]) (sp:=[.val 26 _,.adr 27 5 (.some 0) True,.sto 2]) [.g 0,.g 1,.g 2,.g 3,.g 4,.g 5] zk (zbp fun _ _ h=>h) hst (zv rfl (zad (lz0 3 rfl) za7) (oc (ob_a rfl rfl (za9 (lz0 2 rfl) zbs)) (oc (zdz 1 rfl rfl rfl rfl zk (vq 0 rfl) za7 (Put.part 0 rfl rfl rfl)) o0))) zk zk zk (fun a w hst=>?_)
   have hst:St B (rndB B [80,39] gb Ws W3) 41 [(11,_),(12,_),(3,_),(4,_),(5,_),(6,_)] [⟨3,80,ptrH,_⟩,⟨4,39,ptrH,_⟩,⟨5,39,ptrH,_⟩,⟨8,37,ptrH,_⟩] a w:=hst
   refine za0 ?_
   have hst:=St.sel hst [5,2,3,4]
   have hst:=St.cvA (A':=cat [RFN (gpS (aF ask xs) (k+1)).lo,RFN (gpS (aF ask xs) k).hi]) hst 2 rfl (congrArg (fun z=>cat [RFN z,RFN (gpS (aF ask xs) k).hi]) (lo_t (f:=(aF ask xs)) hb0))
   exact hst
  ·refine wpIn_skip ?_
   refine za0 ?_
   have hst:=St.sel hst [5,2,3,4]
   have hst:=St.cvA (A':=cat [RFN (gpS (aF ask xs) (k+1)).lo,RFN (gpS (aF ask xs) k).hi]) hst 2 rfl (congrArg (fun z=>cat [RFN z,RFN (gpS (aF ask xs) k).hi]) (lo_f (f:=(aF ask xs)) hb0))
   exact hst
  refine za0 ?_
  refine wpIn_seq ?_
  refine zbh (sts:=[none,none,none,none]) (news:=[]) (sp:=[.val 28 _,.val 29 _,.val 30 _,.val 31 (Wh (_=false) _),.adr 32 5 (.some 4) (_=false),.val 33 (Wh (_=false) _),.val 34 (Wh (_=false) _),.val 35 (Wh (_=false) _),.val 36 _]) [.g 1,.g 2,.g 3,.o 8] zk (zbp fun _ _ h=>h) hst (zv rfl (za2 (gq 0 rfl)) (zv rfl (zcq (vq 0 rfl) za3) (zv rfl (za2 (vq 1 rfl)) (oc (zaf rfl rfl rfl (vq 2 rfl) nq (fun hg=>zad (lz0 3 rfl) za7)) (oc (zdb rfl rfl rfl (vq 2 rfl) nq (fun hg=>za9 (lz0 2 rfl) zbr)) (oc (zaf rfl rfl rfl (vq 2 rfl) nq (fun hg=>za4 4 rfl zk hg (lz0 2 rfl) (Sub.part 1 rfl rfl) za7)) (oc (zaf rfl rfl rfl (vq 2 rfl) nq (fun hg=>za5 (xs:=[.tmp 31,.tmp 33]) (cmp_hi (f:=(aF ask xs)) hfb hg) (.cons (zaa (vq 3 rfl) hg) (.cons (zaa (vq 5 rfl) hg) .nil)))) (oc (zaf rfl rfl rfl (vq 2 rfl) nq (fun hg=>zfe (zaa (vq 6 rfl) hg) za3)) (zv rfl (r_or (vq 2 rfl) (vq 7 rfl)) o0))))))))) zk zk zk (fun a w hst=>?_)
  have hst:St B (rndB B [80,39] gb Ws W3) 41 [(3,_),(4,_),(5,_),(36,_)] [⟨3,80,ptrH,_⟩,⟨4,39,ptrH,_⟩,⟨5,39,ptrH,_⟩,⟨8,37,ptrH,_⟩] a w:=hst
  refine za0 ?_
  refine zf3 (fun a w =>  St B (rndB B [80,39] gb Ws W3) 41 [(3,EqV (a0.eval (.tmp 3))),(4,EqV (a0.eval (.tmp 4))),(5,EqV (a0.eval (.tmp 5)))] [⟨3,80,ptrH,EqA (.func (.func fq) #[] #[])⟩,⟨4,39,ptrH,GnA gp0⟩,⟨5,39,ptrH,cat [RFN (gpS (aF ask xs) (k+1)).lo,RFN (gpS (aF ask xs) (k+1)).hi]⟩,⟨8,37,ptrH,RFN (rfOf (aF ask xs k))⟩] a w) hst (zm 3 rfl) (fun hb1=>?_) (fun hb1=>?_) (fun a w hst=>?_)
  ·refine zbh (sts:=[none,none,some (3,_),none]) (news:=[]) (sp:=[.val 37 _,.val 38 _,.adr 39 5 (.some 4) True,.sto 2]) [.g 0,.g 1,.g 2] zk (zbp fun _ _ h=>h) hst (zv rfl (zad (lz0 3 rfl) za7) (zv rfl (za5 (xs:=[.tmp 37]) (copy_fn (hfb k)) (.cons (vq 0 rfl) .nil)) (oc (ob_a rfl rfl (za9 (lz0 2 rfl) zbr)) (oc (zdz 2 rfl rfl rfl rfl zk (vq 1 rfl) za7 (Put.part 1 rfl rfl rfl)) o0)))) zk zk zk (fun a w hst=>?_)
   have hst:St B (rndB B [80,39] gb Ws W3) 41 [(3,_),(4,_),(5,_)] [⟨3,80,ptrH,_⟩,⟨4,39,ptrH,_⟩,⟨5,39,ptrH,_⟩,⟨8,37,ptrH,_⟩] a w:=hst
   refine za0 ?_
   have hst:=St.sel hst [0,1,2]
   have hst:=St.cvA (A':=cat [RFN (gpS (aF ask xs) (k+1)).lo,RFN (gpS (aF ask xs) (k+1)).hi]) hst 2 rfl (congrArg (fun z=>cat [RFN (gpS (aF ask xs) (k+1)).lo,RFN z]) (hi_t (f:=(aF ask xs)) hb1))
   exact hst
  ·refine wpIn_skip ?_
   refine za0 ?_
   have hst:=St.sel hst [0,1,2]
   have hst:=St.cvA (A':=cat [RFN (gpS (aF ask xs) (k+1)).lo,RFN (gpS (aF ask xs) (k+1)).hi]) hst 2 rfl (congrArg (fun z=>cat [RFN (gpS (aF ask xs) (k+1)).lo,RFN z]) (hi_f (f:=(aF ask xs)) hb1))
   exact hst
  refine zan ?_
  have hst:=St.selL hst [0,1,2]
  exact ⟨(fun h=>by cases h),zih [0,1,2] hst ⟨rfl,⟨rfl,⟨rfl,trivial⟩⟩⟩⟩
 ·have hst:St B w0 41 [] [⟨3,80,ptrH,_⟩,⟨4,39,ptrH,_⟩,⟨5,39,ptrH,_⟩] a w:=hst
  refine zan ?_
  refine zt<|gl (sts:=[none,some (1,_),none]) (news:=[]) (sp:=[.val 40 _,.sto 1]) [] hst (zv rfl (zad (lz0 2 rfl) zc1) (oc (za8 rfl rfl rfl (vq 0 rfl) zc1 (Eq.trans (b:=8) rfl rfl)) o0)) (fun a w hst=>?_)
  have hst:St B w0 41 [] [⟨3,80,ptrH,_⟩,⟨4,39,ptrH,_⟩,⟨5,39,ptrH,_⟩] a w:=hst
  refine za0 ?_
  refine wp_ret ?_
  refine zae ?_ (zao rfl hst (zm 1 rfl) zc1)
  exact zay
theorem gap_c {fq:FuncId}{ask:MQ→Rat}(xs:List RLo)(hask:∀ m,Cn Tryz.prog fq [(QMA 16781313 m).va] (RFN (rfOf (ask m))).va)(hfb0:xs.length≤4096→xs.all loF=true→∀ k,bQ 33562627 (aF ask xs k)):Cn Tryz.prog 44 [(SlA 41 [U32] (xs.map LoA)).va,(EqA (.func (.func fq) #[] #[])).va] (GpR (gapF ask xs)):=by
 refine Cn.intro Tryz.func44 rfl zk nq (fun B w0 a hst=>?_)
 have hst:St B w0 35 [(0,(SlA 41 [U32] (xs.map LoA)).va),(1,(EqA (.func (.func fq) #[] #[])).va)] [] a w0.w:=hst
 refine wp_seq ?_
 refine gl (sts:=[]) (news:=[⟨4,39,ptrH,some 0,_,none⟩]) (sp:=[.alc 0,.val 5 _]) [.g 0,.g 1,.o 1] hst (oc (zag rfl rfl rfl (Str.zero zd5)) (zv rfl (za1 za3) o0)) (fun a w hst=>?_)
 have hst:St B w0 35 [(0,_),(1,_),(5,_)] [⟨4,39,ptrH,_⟩] a w:=hst
 refine zt ?_
 refine wp_seq ?_
 refine gl (sts:=[none]) (news:=[]) (sp:=[.val 9 _,.val 10 _,.val 6 _]) [.g 0,.g 1,.g 2,.o 2] hst (zv rfl (za2 (gq 0 rfl)) (zv rfl (za5 (xs:=[.tmp 9]) (zdr xs) (.cons (vq 0 rfl) .nil)) (zv rfl (za1 (vq 1 rfl)) o0))) (fun a w hst=>?_)
 have hst:St B w0 35 [(0,_),(1,_),(5,_),(6,_)] [⟨4,39,ptrH,_⟩] a w:=hst
 refine zt<|gl (sts:=[none]) (news:=[]) (sp:=[.val 11 _,.val 12 _]) [.g 0,.g 1,.g 2,.g 3,.o 1] hst (zv rfl (za2 (gq 3 rfl)) (zv rfl (zca (vq 0 rfl) za3) o0)) (fun a w hst=>?_)
 have hst:St B w0 35 [(0,_),(1,_),(5,_),(6,_),(12,_)] [⟨4,39,ptrH,_⟩] a w:=hst
 refine za0 ?_
 refine zac hst (zm 4 rfl) (fun hb0=>?_) (fun hb0=>?_)
 ·have hc:¬ tchF xs=0:=by simpa using hb0
  refine wp_seq ?_
  refine gl (sts:=[some (2,_)]) (news:=[]) (sp:=[.val 13 _,.val 14 _,.sto 0,.val 5 _]) [.g 0,.g 1,.o 3] hst (zv rfl (zb3 (xs:=[]) (qs:=[]) zd5 .nil) (zv rfl (za2 (gq 3 rfl)) (oc (za8 rfl rfl rfl (vq 0 rfl) zc1 (Eq.trans (b:=8) rfl rfl)) (zv rfl (za1 (vq 1 rfl)) o0)))) (fun a w hst=>?_)
  have hst:St B w0 35 [(0,_),(1,_),(5,_)] [⟨4,39,ptrH,_⟩] a w:=hst
  refine za0 ?_
  refine wp_ret ?_
  refine zaj ?_
  refine zae ?_ (zaw (rs:=[.cell 4 39,.tmp 5]) rfl hst (.cell (zm 0 rfl) zc1 (.tmp (zm 2 rfl) .nil)) zd)
  rw [gapF,if_neg hc]; exact zay
 ·have hc:tchF xs=0:=by simpa using hb0
  have hk:=zjk hc
  have hfb:=hfb0 hk.1 hk.2.1
  refine wp_skip ?_
  refine zt<|gl (sts:=[none]) (news:=[⟨7,39,ptrH,some 3,_,some (4,_)⟩]) (sp:=[.val 15 _,.val 16 _,.val 17 _,.alc 1,.sto 1]) [.g 2] hst (zv rfl (za2 (gq 0 rfl)) (zv rfl (za2 (gq 1 rfl)) (zv rfl (za5 (xs:=[.tmp 15,.tmp 16]) (ends_c xs hk.1 hk.2.1 hk.2.2 hask hfb) (.cons (vq 0 rfl) (.cons (vq 1 rfl) .nil))) (oc (zag rfl rfl rfl (Str.zero zd5)) (oc (za8 rfl rfl rfl (vq 2 rfl) zc1 (Eq.trans (b:=8) rfl rfl)) o0))))) (fun a w hst=>?_)
  have hst:St B w0 35 [(5,_)] [⟨4,39,ptrH,_⟩,⟨7,39,ptrH,_⟩] a w:=hst
  have hst:=St.wkL (A':=cat [QA 33562627 (loS (aF ask xs) (2^manyF xs)),QA 33562627 (hiS (aF ask xs) (2^manyF xs))]) hst 1 rfl (gp_qa hfb)
  refine zt ?_
  refine wp_seq ?_
  refine gl (sts:=[none,none]) (news:=[]) (sp:=[.adr 18 7 (.some 0) True,.val 19 _,.adr 20 7 (.some 4) True,.val 21 _,.val 22 _,.val 23 _,.val 8 _]) [.g 0,.o 6] hst (oc (ob_a rfl rfl (za9 (lz0 1 rfl) zbs)) (zv rfl (za4 0 rfl zk trivial (lz0 1 rfl) (Sub.part 0 rfl rfl) za7) (oc (ob_a rfl rfl (za9 (lz0 1 rfl) zbr)) (zv rfl (za4 2 rfl zk trivial (lz0 1 rfl) (Sub.part 1 rfl rfl) za7) (zv rfl (zc8 (D:=[U32]) (l:=[_,_]) (xs:=[.tmp 19,.tmp 21]) (zdu zk) zdc zk (n_ok zk) nq nq nq (.cons (vq 1 rfl) (.cons (vq 3 rfl) .nil)) rfl rfl) (zv rfl (za5 (xs:=[.tmp 22]) (zgv [loS (aF ask xs) (2^manyF xs),hiS (aF ask xs) (2^manyF xs)] (.cons ⟨_,rfl⟩ (.cons ⟨_,rfl⟩ .nil)) nq) (.cons (vq 4 rfl) .nil)) (zv rfl (za1 (vq 5 rfl)) o0))))))) (fun a w hst=>?_)
  have hst:St B w0 35 [(5,_),(8,_)] [⟨4,39,ptrH,_⟩,⟨7,39,ptrH,_⟩] a w:=hst
  refine zt<|gl (sts:=[none,none]) (news:=[]) (sp:=[.val 24 _,.val 25 _]) [.g 0,.g 1,.o 1] hst (zv rfl (za2 (gq 1 rfl)) (zv rfl (zca (vq 0 rfl) za3) o0)) (fun a w hst=>?_)
  have hst:St B w0 35 [(5,_),(8,_),(25,_)] [⟨4,39,ptrH,_⟩,⟨7,39,ptrH,_⟩] a w:=hst
  refine za0 ?_
  refine zac hst (zm 2 rfl) (fun hb1=>?_) (fun hb1=>?_)
  ·have hl:=as_yes hb1
   refine wp_seq ?_
   refine gl (sts:=[some (2,_),none]) (news:=[]) (sp:=[.val 26 _,.val 27 _,.sto 0,.val 5 _]) [.o 3] hst (zv rfl (zb3 (xs:=[]) (qs:=[]) zd5 .nil) (zv rfl (za2 (gq 1 rfl)) (oc (za8 rfl rfl rfl (vq 0 rfl) zc1 (Eq.trans (b:=8) rfl rfl)) (zv rfl (za1 (vq 1 rfl)) o0)))) (fun a w hst=>?_)
   have hst:St B w0 35 [(5,_)] [⟨4,39,ptrH,_⟩,⟨7,39,ptrH,_⟩] a w:=hst
   refine za0 ?_
   refine wp_ret ?_
   refine zaj ?_
   refine zae ?_ (zaw (rs:=[.cell 4 39,.tmp 5]) rfl hst (.cell (zm 0 rfl) zc1 (.tmp (zm 0 rfl) .nil)) zd)
   have e:gapF ask xs=(gp0,4):=by rw [gapF,if_pos hc,if_pos hl]
   rw [e]; exact tu2w zay (zcm (by rw [if_pos hl]))
  ·have hl:=as_no hb1
   refine wp_skip ?_
   refine zt<|zau (anc:=[[],[0],[0,1],[],[3],[0,1,2,3,4],[0,1,2,3,4,5],[0,1,2,3,4,5,6],[0,1,2,3,4,5,6,7]]) (sts:=[some (7,_),none]) (news:=[]) (sp:=[.adr 28 7 (.some 0) True,.val 29 _,.val 30 _,.adr 31 7 (.some 4) True,.val 32 _,.val 33 _,.val 34 _,.sto 0,.val 5 _]) [.o 8] za6 hst (oc (ob_a rfl rfl (za9 (lz0 1 rfl) zbs)) (zv rfl (za4 0 rfl zk trivial (lz0 1 rfl) (Sub.part 0 rfl rfl) za7) (zv rfl (za5 (xs:=[.tmp 29]) (zgk zd) (.cons (vq 1 rfl) .nil)) (oc (ob_a rfl rfl (za9 (lz0 1 rfl) zbr)) (zv rfl (za4 3 rfl zk trivial (lz0 1 rfl) (Sub.part 1 rfl rfl) za7) (zv rfl (za5 (xs:=[.tmp 32]) (zgk zd) (.cons (vq 4 rfl) .nil)) (zv rfl (zb3 (xs:=[(0,.tmp 30),(1,.tmp 33)]) (qs:=[(0,_),(1,_)]) zd5 (.cons ⟨rfl,(vq 2 rfl),rfl⟩ (.cons ⟨rfl,(vq 5 rfl),rfl⟩ .nil))) (oc (za8 rfl rfl rfl (vq 6 rfl) zc1 (Eq.trans (b:=8) rfl rfl)) (zv rfl (za1 za3) o0))))))))) zk zk zk zk (fun a w hst=>?_)
   have hst:St B w0 35 [(5,_)] [⟨4,39,ptrH,_⟩,⟨7,39,ptrH,_⟩] a w:=hst
   refine za0 ?_
   refine wp_ret ?_
   refine zae ?_ (zaw (rs:=[.cell 4 39,.tmp 5]) rfl hst (.cell (zm 0 rfl) zc1 (.tmp (zm 0 rfl) .nil)) zd)
   have e:gapF ask xs=(⟨rfOf (loS (aF ask xs) (2^manyF xs)),rfOf (hiS (aF ask xs) (2^manyF xs))⟩,0):=by rw [gapF,if_pos hc,if_neg hl]
   rw [e]; exact tu2w gp_a.va zay
theorem tTrace_c (xs:List RLo):Cn Tryz.prog 17 [(SlA 41 [U32] (xs.map LoA)).va] (GpR (gapF trQ' xs)):=by
 refine Cn.intro Tryz.func17 rfl zk nq (fun B w0 a hst=>?_)
 have hst:St B w0 8 [(0,(SlA 41 [U32] (xs.map LoA)).va)] [] a w0.w:=hst
 refine wp_seq ?_
 refine gl (sts:=[]) (news:=[⟨2,39,ptrH,some 0,_,none⟩]) (sp:=[.alc 0,.val 3 _]) [.g 0,.o 1] hst (oc (zag rfl rfl rfl (Str.zero zd5)) (zv rfl (za1 za3) o0)) (fun a w hst=>?_)
 have hst:St B w0 8 [(0,_),(3,_)] [⟨2,39,ptrH,_⟩] a w:=hst
 refine zt<|gl (sts:=[some (4,_)]) (news:=[]) (sp:=[.val 4 _,.val 5 _,.val 6 _,.val 7 _,.sto 0,.val 3 _]) [.o 5] hst (zv rfl (za2 (gq 0 rfl)) (zv rfl (za5 (xs:=[.tmp 4,.func 45]) (gap_c xs (fun _=>zib) (fun h4 hx k=>tr_b' (cnF_rep h4 hx k))) (.cons (vq 0 rfl) (.cons zem .nil))) (zv rfl (zee (vq 1 rfl)) (zv rfl (zed (vq 1 rfl)) (oc (za8 rfl rfl rfl (vq 2 rfl) zc1 (Eq.trans (b:=8) rfl rfl)) (zv rfl (za1 (vq 3 rfl)) o0)))))) (fun a w hst=>?_)
 have hst:St B w0 8 [(3,_)] [⟨2,39,ptrH,_⟩] a w:=hst
 refine za0 ?_
 refine wp_ret ?_
 refine zae ?_ (zaw (rs:=[.cell 2 39,.tmp 3]) rfl hst (.cell (zm 0 rfl) zc1 (.tmp (zm 0 rfl) .nil)) zd)
 exact zay
theorem St.factL {B N:Nat}{w0:Bs}{s T:Nat}{H:Hd}{A:As}{c:Prop}{Γ:List (Nat × VA)}{Λ:List Lc}{a:Act}{w:World}(h:St B w0 N Γ Λ a w)(i:Nat)(hm:Λ[i]?=some ⟨s,T,H,A.and c⟩):c:=by
 obtain ⟨g,cs,_,_,_,p⟩:=h.locs _ (List.mem_of_getElem? hm)
 exact p.1
def nsF (xs:List RLo)(k:Nat):Bool:=decide (cmQ (trsQ (prodQ (cnF xs k))) (Rat.divInt 4 1)≥0)
def allF (xs:List RLo):Bool:=(List.range (2^manyF xs)).all fun k => !nsF xs k
def allR (xs:List RLo):Bool × Int:=if tchF xs=0 then (allF xs,0) else (false,tchF xs)
theorem al_no {xs:List RLo}{k:Nat}(hk:k<2^manyF xs)(h:nsF xs k=true):allF xs=false:=by
 unfold allF
 exact List.all_eq_false.2 ⟨k,List.mem_range.2 hk,by simp [h]⟩
theorem al_yes {xs:List RLo}(h:∀ i,i<2^manyF xs→nsF xs i=false):allF xs=true:=by
 unfold allF
 exact List.all_eq_true.2 fun k hk=>by simp [h k (List.mem_range.1 hk)]
theorem all_nx3 {F:Nat→Bool}{j:Nat}(h:∀ i,i<j→F i=false)(h2:F j=false):∀ i,i<j+1→F i=false:=fun i hi=>by
 rcases Nat.lt_or_ge i j with h1 | h1
 ·exact h i h1
 ·have e:i=j:=by omega
  rw [e]; exact h2
theorem zero_err:Zero Tryz.prog 26 (NumA .i64 0):=Zero.of (z:=.int .i64 0) zk (fun _ _=>rfl)
theorem zero_boo:Zero Tryz.prog 4 (BoA false):=Zero.of (z:=.bool false) zk (fun _ _=>rfl)
theorem zero_elsT:Zero Tryz.prog 51 (OwnC 62 9 [U32] []):=zero_own zk
def woS (xs:List RLo):Nat→List RE × Rat
 | 0=>([],0)
 | k+1=>if ((((k:Nat):Int)==0) || decide (cmQ (trsQ (prodQ (cnF xs k))) (woS xs k).2>0))=true then (cnF xs k,trsQ (prodQ (cnF xs k))) else woS xs k
def wrF (xs:List RLo):List RE × Int:=if tchF xs=0 then ((woS xs (2^manyF xs)).1,0) else ([],tchF xs)
theorem wr_free {l:List RE}{k:Int}:Free (Tu [(OwnC 62 9 [U32] (l.map REN)).va,In k]) (Tu [(SlA 62 [U32] (l.map REA)).va,In k]) :=
 free_tu (.cons (free_own (zit free_reN l) (fun A hA=>by obtain ⟨x,_,rfl⟩:=List.mem_map.1 hA; exact zdu (l:=[REA x]) zk _ (by simp))) (.cons (zey _ _).va .nil))
theorem wo_t {xs:List RLo}{k:Nat}(h:((((k:Nat):Int)==0) || decide (cmQ (trsQ (prodQ (cnF xs k))) (woS xs k).2>0))=true):(cnF xs k,trsQ (prodQ (cnF xs k)))=woS xs (k+1):=by rw [woS,if_pos h]
theorem wo_f {xs:List RLo}{k:Nat}(h:((((k:Nat):Int)==0) || decide (cmQ (trsQ (prodQ (cnF xs k))) (woS xs k).2>0))=false):woS xs k=woS xs (k+1):=by rw [woS,if_neg (by rw [h]; decide)]
set_option maxHeartbeats 1000000 in
theorem tAll_c (xs:List RLo):Cn Tryz.prog 19 [(SlA 41 [U32] (xs.map LoA)).va] (Tu [Bo (allR xs).1,In (allR xs).2]):=by
 refine Cn.introR Tryz.func19 rfl zk nq (.cons (zjc (fun A hA=>by obtain ⟨x,_,rfl⟩:=List.mem_map.1 hA; exact zjf x)).va .nil) (free_tu (.cons (zfh _).va (.cons (zey _ _).va .nil))) (fun B w0 a hB0 hN0 hst=>?_)
 have hst:St B w0 28 [(0,(SlO 41 [U32] (xs.map LoA) True).va)] [] a w0.w:=hst
 refine wp_seq ?_
 refine gl (sts:=[]) (news:=[⟨2,4,ptrH,some 0,_,none⟩,⟨3,26,ptrH,some 1,_,none⟩]) (sp:=[.alc 0,.alc 1]) [.g 0] hst (oc (zag rfl rfl rfl zero_boo) (oc (zag rfl rfl rfl zero_err) o0)) (fun a w hst=>?_)
 have hst:St B w0 28 [(0,_)] [⟨2,4,ptrH,_⟩,⟨3,26,ptrH,_⟩] a w:=hst
 refine zt ?_
 refine wp_seq ?_
 refine gl (sts:=[none,none]) (news:=[]) (sp:=[.val 9 _,.val 10 _,.val 4 _]) [.g 0,.o 2] hst (zv rfl (za2 (gq 0 rfl)) (zv rfl (za5 (xs:=[.tmp 9]) ((zdr xs).wk (.cons slx .nil)) (.cons (vq 0 rfl) .nil)) (zv rfl (za1 (vq 1 rfl)) o0))) (fun a w hst=>?_)
 have hst:St B w0 28 [(0,_),(4,_)] [⟨2,4,ptrH,_⟩,⟨3,26,ptrH,_⟩] a w:=hst
 refine zt<|gl (sts:=[none,none]) (news:=[]) (sp:=[.val 11 _,.val 12 _]) [.g 0,.g 1,.o 1] hst (zv rfl (za2 (gq 1 rfl)) (zv rfl (zca (vq 0 rfl) za3) o0)) (fun a w hst=>?_)
 have hst:St B w0 28 [(0,_),(4,_),(12,_)] [⟨2,4,ptrH,_⟩,⟨3,26,ptrH,_⟩] a w:=hst
 refine za0 ?_
 refine zac hst (zm 2 rfl) (fun hb0=>?_) (fun hb0=>?_)
 ·have hc:¬ tchF xs=0:=by simpa using hb0
  refine wp_seq ?_
  refine gl (sts:=[some (1,_),some (2,_)]) (news:=[]) (sp:=[.val 13 _,.sto 0,.sto 1]) [.g 0] hst (zv rfl (za2 (gq 1 rfl)) (oc (za8 rfl rfl rfl zbm ty_4 (Eq.trans (b:=1) rfl rfl)) (oc (za8 rfl rfl rfl (vq 0 rfl) zgn (Eq.trans (b:=1) rfl rfl)) o0))) (fun a w hst=>?_)
  have hst:St B w0 28 [(0,_)] [⟨2,4,ptrH,_⟩,⟨3,26,ptrH,_⟩] a w:=hst
  refine za0 ?_
  refine wp_ret ?_
  refine zaj ?_
  refine zae ?_ (zaw (rs:=[.cell 2 4,.cell 3 26]) rfl hst (.cell (zm 0 rfl) ty_4 (.cell (zm 1 rfl) zgn .nil)) zd)
  rw [allR,if_neg hc]; exact zay
 ·have hc:tchF xs=0:=by simpa using hb0
  have hk4:=zjk hc
  refine wp_skip ?_
  refine zt<|gl (sts:=[none,none]) (news:=[⟨5,37,ptrH,some 1,_,some (2,_)⟩]) (sp:=[.val 14 _,.alc 2,.sto 2]) [.g 0] hst (zv rfl (za5 (xs:=[.const (.int .i64 (4)),.const (.int .i64 (1))]) (small_q zd zd zd zd zd) (.cons za3 (.cons za3 .nil))) (oc (zag rfl rfl rfl (Str.zero zaq)) (oc (za8 rfl rfl rfl (vq 0 rfl) za7 (Eq.trans (b:=4) rfl rfl)) o0))) (fun a w hst=>?_)
  have hst:St B w0 28 [(0,_)] [⟨2,4,ptrH,_⟩,⟨3,26,ptrH,_⟩,⟨5,37,ptrH,_⟩] a w:=hst
  refine zt ?_
  refine wp_seq ?_
  have hst:=St.wkL (A':=(NumA .i64 0).and (∀ i,i<(0:Nat)→nsF xs i=false)) hst 1 rfl ⟨rfl,rfl,fun _ _ _ h=>⟨fun i hi=>absurd hi (Nat.not_lt_zero _),h⟩⟩
  obtain ⟨q2,hst⟩:=St.nm hst 0 rfl
  obtain ⟨q3,hst⟩:=St.nm hst 1 rfl
  obtain ⟨q5,hst⟩:=St.nm hst 2 rfl
  refine gl (sts:=[none,none,none]) (news:=[]) (sp:=[.val 15 _,.val 16 _]) [.g 0,.g 1,.g 2,.o 1] hst (zv rfl (za2 (gq 3 rfl)) (zv rfl (zik [(2,q2),(3,q3),(5,q5)] rfl (fun v hv=>zhk hv) (vq 0 rfl) (.cons (gq 2 rfl) (lz0 0 rfl) (.cons (gq 1 rfl) (lz0 1 rfl) (.cons (gq 0 rfl) (lz0 2 rfl) .nil)))) o0)) (fun a w hst=>?_)
  have hst:St B w0 28 [(5,_),(3,_),(2,_),(16,_)] [⟨2,4,ptrH,_⟩,⟨3,26,ptrH,_⟩,⟨5,37,ptrH,_⟩] a w:=hst
  obtain ⟨gb,hst,hds⟩:=St.itn (ps:=[(2,q2),(3,q3),(5,q5)]) 3 [2,1,0] hst rfl ⟨rfl,⟨rfl,⟨rfl,trivial⟩⟩⟩
  have hdis:∀ s∈[2,3,5],∀ g,blk (a.eval (.tmp s))=some g→g ∉ gb:=hds
  refine za0 ?_
  refine wp_block ?_
  have hst:=St.selL hst [0,1,2]
  refine ziy (k0:=3) (gb:=gb) (Dd:=[U32]) (Db:=[4,26,37]) (fun k=>[⟨2,4,ptrH,BoA false⟩,⟨3,26,ptrH,(NumA .i64 0).and (∀ i,i<k→nsF xs i=false)⟩,⟨5,37,ptrH,QA 2 (Rat.divInt 4 1)⟩]) (some [⟨2,4,ptrH,(BoA false).and (allF xs=false)⟩,⟨3,26,ptrH,NumA .i64 0⟩,⟨5,37,ptrH,QA 2 (Rat.divInt 4 1)⟩]) (fun _=>none) hst hB0 hN0 rfl (zgg xs hk4.1 hk4.2.1 hk4.2.2 gb) (M:=(2^manyF xs)) (Y:=fun k=>[In ((k:Nat):Int),(OwnC 62 9 [U32] ((cnF xs k).map REN)).va]) (fun h=>by cases h) zk [] zk (fun _=>by kernel_rfl) [2,3,5] (fun _=>by kernel_rfl) hdis (fun L hL=>by cases hL; kernel_rfl) (fun _ L hL=>by cases hL) (fun _=>rfl) zd zk (fun l k a1 Ws hk hBs hct hst=>?_) (fun a w hst=>?_) (fun L hL a w hst=>?_) (fun _ L hL=>by cases hL)
  ·obtain ⟨a0,rfl⟩:∃ x,x=a:=⟨_,rfl⟩
   have hst:St B (rndB B [4,26,37] gb Ws Ws) 28 [(17,_),(18,_),(2,_),(3,_),(5,_)] [⟨2,4,ptrH,BoA false⟩,⟨3,26,ptrH,(NumA .i64 0).and (∀ i,i<k→nsF xs i=false)⟩,⟨5,37,ptrH,QA 2 (Rat.divInt 4 1)⟩] a1 Ws:=hst
   refine zbh (sts:=[none,none,none]) (news:=[]) (sp:=[.val 7 _]) [.g 0,.g 1,.g 2,.g 3,.g 4,.o 0] zk (zbp fun _ _ h=>h) hst (zv rfl (za1 (gq 1 rfl)) o0) zk zk zk (fun a w hst=>?_)
   have hst:St B (rndB B [4,26,37] gb Ws Ws) 28 [(17,_),(18,_),(2,_),(3,_),(5,_),(7,_)] [⟨2,4,ptrH,_⟩,⟨3,26,ptrH,_⟩,⟨5,37,ptrH,_⟩] a w:=hst
   refine za0 ?_
   refine ⟨hst.base,fun W3 hbg=>?_⟩
   have hkk:=St.factL hst 1 rfl
   have hst:=St.begin hst (Nat.le_refl _) hBs hbg
   refine wpIn_block ?_
   refine wpIn_seq ?_
   refine zbh (sts:=[none,none,none]) (news:=[⟨8,37,ptrH,some 3,_,some (4,_)⟩]) (sp:=[.val 19 _,.val 20 _,.val 21 _,.alc 3,.sto 3]) [.g 0,.g 1,.g 2,.g 3,.g 4] zk (zbp fun _ _ h=>h) hst (zv rfl (za2 (gq 5 rfl)) (zv rfl (za5 (xs:=[.tmp 19]) (row_cn hk4.1 hk4.2.1 k) (.cons (vq 0 rfl) .nil)) (zv rfl (za5 (xs:=[.tmp 20]) zib (.cons (vq 1 rfl) .nil)) (oc (zag rfl rfl rfl (Str.zero zaq)) (oc (za8 rfl rfl rfl (vq 2 rfl) za7 (Eq.trans (b:=4) rfl rfl)) o0))))) zk zk zk (fun a w hst=>?_)
   have hst:St B (rndB B [4,26,37] gb Ws W3) 28 [(17,_),(18,_),(2,_),(3,_),(5,_)] [⟨2,4,ptrH,_⟩,⟨3,26,ptrH,_⟩,⟨5,37,ptrH,_⟩,⟨8,37,ptrH,_⟩] a w:=hst
   refine za0 ?_
   refine wpIn_seq ?_
   have hst:=St.wkL hst 3 rfl (zh3 (tr_b' (cnF_rep hk4.1 hk4.2.1 k)))
   refine ziz (anc:=[[],[],[0,1],[],[0,1,2,3],[0,1,2,3,4]]) (sts:=[none,none,none,none]) (news:=[]) (sp:=[.val 22 _,.val 23 _,.val 24 _,.val 25 _,.val 26 _,.val 27 _]) [.g 0,.g 1,.g 2,.g 3,.g 4,.o 5] za6 zk (zbp fun _ _ h=>h) hst (zv rfl (zad (lz0 3 rfl) za7) (zv rfl (zad (lz0 3 rfl) za7) (zv rfl (za5 (xs:=[.tmp 22,.tmp 23]) (zfc zd) (.cons (vq 0 rfl) (.cons (vq 1 rfl) .nil))) (zv rfl (zad (lz0 2 rfl) za7) (zv rfl (za5 (xs:=[.tmp 24,.tmp 25]) (cmp_q zd) (.cons (vq 2 rfl) (.cons (vq 3 rfl) .nil))) (zv rfl (zg6 (vq 4 rfl) za3) o0)))))) zk zk zk zk (fun a w hst=>?_)
   have hst:St B (rndB B [4,26,37] gb Ws W3) 28 [(17,_),(18,_),(2,_),(3,_),(5,_),(27,_)] [⟨2,4,ptrH,_⟩,⟨3,26,ptrH,_⟩,⟨5,37,ptrH,_⟩,⟨8,37,ptrH,_⟩] a w:=hst
   refine za0 ?_
   refine ze8 hst (zm 5 rfl) (fun hb1=>?_) (fun hb1=>?_)
   ·refine wpIn_seq ?_
    refine zbh (sts:=[some (0,_),some (1,_),none,none]) (news:=[]) (sp:=[.sto 0,.sto 1]) [.g 0,.g 1,.g 2,.g 3,.g 4] zk (zbp fun _ _ h=>h) hst (oc (za8 rfl rfl rfl zbm ty_4 (Eq.trans (b:=1) rfl rfl)) (oc (za8 rfl rfl rfl za3 zgn (Eq.trans (b:=1) rfl rfl)) o0)) zk zk zk (fun a w hst=>?_)
    have hst:St B (rndB B [4,26,37] gb Ws W3) 28 [(17,_),(18,_),(2,_),(3,_),(5,_)] [⟨2,4,ptrH,_⟩,⟨3,26,ptrH,_⟩,⟨5,37,ptrH,_⟩,⟨8,37,ptrH,_⟩] a w:=hst
    refine za0 ?_
    refine wpIn_ret ?_
    refine zbf ?_
    have hst:=St.wkL (A':=(BoA false).and (allF xs=false)) hst 0 rfl ⟨rfl,rfl,fun _ _ _ h=>⟨al_no hk hb1,h⟩⟩
    have hst:=St.selL hst [0,1,2]
    exact ⟨_,rfl,zih [2,3,4] hst ⟨rfl,⟨rfl,⟨rfl,trivial⟩⟩⟩⟩
   ·refine wpIn_skip ?_
    refine zan ?_
    have hst:=St.wkL (A':=(NumA .i64 0).and (∀ i,i<(k+1)→nsF xs i=false)) hst 1 rfl ⟨rfl,rfl,fun _ _ _ h=>⟨all_nx3 h.1 hb1,h.2⟩⟩
    have hst:=St.selL hst [0,1,2]
    exact ⟨(fun h=>by cases h),zih [2,3,4] hst ⟨rfl,⟨rfl,⟨rfl,trivial⟩⟩⟩⟩
  ·have hst:St B w0 28 [] [⟨2,4,ptrH,_⟩,⟨3,26,ptrH,_⟩,⟨5,37,ptrH,_⟩] a w:=hst
   have hyes:=al_yes (St.factL hst 1 rfl)
   refine zan ?_
   refine zt<|gl (sts:=[some (0,_),some (1,_),none]) (news:=[]) (sp:=[.sto 0,.sto 1]) [] hst (oc (za8 rfl rfl rfl zbm ty_4 (Eq.trans (b:=1) rfl rfl)) (oc (za8 rfl rfl rfl za3 zgn (Eq.trans (b:=1) rfl rfl)) o0)) (fun a w hst=>?_)
   have hst:St B w0 28 [] [⟨2,4,ptrH,_⟩,⟨3,26,ptrH,_⟩,⟨5,37,ptrH,_⟩] a w:=hst
   refine za0 ?_
   refine wp_ret ?_
   refine zae ?_ (zaw (rs:=[.cell 2 4,.cell 3 26]) rfl hst (.cell (zm 0 rfl) ty_4 (.cell (zm 1 rfl) zgn .nil)) zd)
   rw [allR,if_pos hc,hyes]; exact zay
  ·cases hL
   have hst:St B w0 28 [] [⟨2,4,ptrH,_⟩,⟨3,26,ptrH,_⟩,⟨5,37,ptrH,_⟩] a w:=hst
   have hno:=St.factL hst 0 rfl
   refine zbf ?_
   refine zaj ?_
   refine zae ?_ (zaw (rs:=[.cell 2 4,.cell 3 26]) rfl hst (.cell (zm 0 rfl) ty_4 (.cell (zm 1 rfl) zgn .nil)) zd)
   rw [allR,if_pos hc,hno]; exact tu2w (fun _ _ _ h=>(and_va h).2) zay
set_option maxHeartbeats 1000000 in
theorem tWorst_c (xs:List RLo):Cn Tryz.prog 22 [(SlA 41 [U32] (xs.map LoA)).va] (Tu [(SlA 62 [U32] ((wrF xs).1.map REA)).va,In (wrF xs).2]):=by
 refine Cn.introR Tryz.func22 rfl zk nq (.cons (zjc (fun A hA=>by obtain ⟨x,_,rfl⟩:=List.mem_map.1 hA; exact zjf x)).va .nil) wr_free (fun B w0 a hB0 hN0 hst=>?_)
 have hst:St B w0 37 [(0,(SlO 41 [U32] (xs.map LoA) True).va)] [] a w0.w:=hst
 refine wp_seq ?_
 refine gl (sts:=[]) (news:=[]) (sp:=[.val 2 _,.val 3 _]) [.g 0,.o 0,.o 1] hst (zv rfl (za1 zbg) (zv rfl (za1 za3) o0)) (fun a w hst=>?_)
 have hst:St B w0 37 [(0,_),(2,_),(3,_)] [] a w:=hst
 refine zt ?_
 refine wp_seq ?_
 refine gl (sts:=[]) (news:=[]) (sp:=[.val 10 _,.val 11 _,.val 4 _]) [.g 0,.g 1,.g 2,.o 2] hst (zv rfl (za2 (gq 0 rfl)) (zv rfl (za5 (xs:=[.tmp 10]) ((zdr xs).wk (.cons slx .nil)) (.cons (vq 0 rfl) .nil)) (zv rfl (za1 (vq 1 rfl)) o0))) (fun a w hst=>?_)
 have hst:St B w0 37 [(0,_),(2,_),(3,_),(4,_)] [] a w:=hst
 refine zt<|gl (sts:=[]) (news:=[]) (sp:=[.val 12 _,.val 13 _]) [.g 0,.g 1,.g 2,.g 3,.o 1] hst (zv rfl (za2 (gq 3 rfl)) (zv rfl (zca (vq 0 rfl) za3) o0)) (fun a w hst=>?_)
 have hst:St B w0 37 [(0,_),(2,_),(3,_),(4,_),(13,_)] [] a w:=hst
 refine za0 ?_
 refine zac hst (zm 4 rfl) (fun hb0=>?_) (fun hb0=>?_)
 ·have hc:¬ tchF xs=0:=by simpa using hb0
  refine wp_seq ?_
  refine gl (sts:=[]) (news:=[]) (sp:=[.val 14 _,.val 2 _,.val 3 _]) [.g 0,.o 1,.o 2] hst (zv rfl (za2 (gq 3 rfl)) (zv rfl (za1 zbg) (zv rfl (za1 (vq 0 rfl)) o0))) (fun a w hst=>?_)
  have hst:St B w0 37 [(0,_),(2,_),(3,_)] [] a w:=hst
  refine za0 ?_
  refine wp_ret ?_
  refine zaj ?_
  refine zae ?_ (zaw (rs:=[.tmp 2,.tmp 3]) rfl hst (.tmp (zm 1 rfl) (.tmp (zm 2 rfl) .nil)) zd)
  rw [wrF,if_neg hc]; exact tu2w nil_own zay
 ·have hc:tchF xs=0:=by simpa using hb0
  have hk4:=zjk hc
  refine wp_skip ?_
  refine zt<|gl (sts:=[]) (news:=[⟨5,51,ptrH,some 0,_,none⟩]) (sp:=[.alc 0]) [.g 0,.g 1,.g 2] hst (oc (zag rfl rfl rfl zero_elsT) o0) (fun a w hst=>?_)
  have hst:St B w0 37 [(0,_),(2,_),(3,_)] [⟨5,51,ptrH,_⟩] a w:=hst
  refine zt<|gl (sts:=[none]) (news:=[⟨6,37,ptrH,some 1,_,some (2,_)⟩]) (sp:=[.val 15 _,.alc 1,.sto 1]) [.g 0,.g 1,.g 2] hst (zv rfl (za5 (xs:=[]) zgq .nil) (oc (zag rfl rfl rfl (Str.zero zaq)) (oc (za8 rfl rfl rfl (vq 0 rfl) za7 (Eq.trans (b:=4) rfl rfl)) o0))) (fun a w hst=>?_)
  have hst:St B w0 37 [(0,_),(2,_),(3,_)] [⟨5,51,ptrH,_⟩,⟨6,37,ptrH,_⟩] a w:=hst
  refine zt ?_
  refine wp_seq ?_
  have hst:=St.wkL (A':=QA 67125254 (woS xs 0).2) hst 1 rfl (zb6 zd)
  have hst:=St.cvA (A':=OwnC 62 9 [U32] ((woS xs 0).1.map REN)) hst 0 rfl rfl
  obtain ⟨q5,hst⟩:=St.nm hst 0 rfl
  obtain ⟨q6,hst⟩:=St.nm hst 1 rfl
  refine gl (sts:=[none,none]) (news:=[]) (sp:=[.val 16 _,.val 17 _]) [.g 0,.g 1,.g 3,.g 4,.o 1] hst (zv rfl (za2 (gq 2 rfl)) (zv rfl (zik [(5,q5),(6,q6)] rfl (fun v hv=>zhk hv) (vq 0 rfl) (.cons (gq 1 rfl) (lz0 0 rfl) (.cons (gq 0 rfl) (lz0 1 rfl) .nil))) o0)) (fun a w hst=>?_)
  have hst:St B w0 37 [(6,_),(5,_),(2,_),(3,_),(17,_)] [⟨5,51,ptrH,_⟩,⟨6,37,ptrH,_⟩] a w:=hst
  obtain ⟨gb,hst,hds⟩:=St.itn (ps:=[(5,q5),(6,q6)]) 4 [1,0] hst rfl ⟨rfl,⟨rfl,trivial⟩⟩
  have hdis:∀ s∈[5,6],∀ g,blk (a.eval (.tmp s))=some g→g ∉ gb:=hds
  refine za0 ?_
  refine wp_block ?_
  have hst:=St.selL hst [0,1]
  refine ziy (k0:=4) (gb:=gb) (Dd:=[U32]) (Db:=[51,37]) (fun k=>[⟨5,51,ptrH,OwnC 62 9 [U32] ((woS xs k).1.map REN)⟩,⟨6,37,ptrH,QA 67125254 (woS xs k).2⟩]) none (fun _=>none) hst hB0 hN0 rfl (zgg xs hk4.1 hk4.2.1 hk4.2.2 gb) (M:=(2^manyF xs)) (Y:=fun k=>[In ((k:Nat):Int),(OwnC 62 9 [U32] ((cnF xs k).map REN)).va]) (fun h=>by cases h) zk [] zk (fun _=>by kernel_rfl) [5,6] (fun _=>by kernel_rfl) hdis (fun L hL=>by cases hL) (fun _ L hL=>by cases hL) (fun _=>rfl) zd zk (fun l k a1 Ws hk hBs hct hst=>?_) (fun a w hst=>?_) (fun L hL=>by cases hL) (fun _ L hL=>by cases hL)
  ·obtain ⟨a0,rfl⟩:∃ x,x=a:=⟨_,rfl⟩
   have hst:St B (rndB B [51,37] gb Ws Ws) 37 [(18,_),(19,_),(5,_),(6,_)] [⟨5,51,ptrH,OwnC 62 9 [U32] ((woS xs k).1.map REN)⟩,⟨6,37,ptrH,QA 67125254 (woS xs k).2⟩] a1 Ws:=hst
   refine wpIn_seq ?_
   refine zbh (sts:=[none,none]) (news:=[]) (sp:=[.val 7 _]) [.g 0,.g 1,.g 2,.g 3,.o 0] zk (zbp fun _ _ h=>h) hst (zv rfl (za1 (gq 0 rfl)) o0) zk zk zk (fun a w hst=>?_)
   have hst:St B (rndB B [51,37] gb Ws Ws) 37 [(18,_),(19,_),(5,_),(6,_),(7,_)] [⟨5,51,ptrH,_⟩,⟨6,37,ptrH,_⟩] a w:=hst
   refine za0 ?_
   refine zbh (sts:=[none,none]) (news:=[]) (sp:=[.val 8 _]) [.g 0,.g 1,.g 2,.g 3,.g 4,.o 0] zk (zbp fun _ _ h=>h) hst (zv rfl (za1 (gq 1 rfl)) o0) zk zk zk (fun a w hst=>?_)
   have hst:St B (rndB B [51,37] gb Ws Ws) 37 [(18,_),(19,_),(5,_),(6,_),(7,_),(8,_)] [⟨5,51,ptrH,_⟩,⟨6,37,ptrH,_⟩] a w:=hst
   refine za0 ?_
   refine ⟨hst.base,fun W3 hbg=>?_⟩
   have hst:=St.begin hst (Nat.le_refl _) hBs hbg
   refine wpIn_block ?_
   refine wpIn_seq ?_
   refine zbh (sts:=[none,none]) (news:=[⟨9,37,ptrH,some 3,_,some (4,_)⟩]) (sp:=[.val 20 _,.val 21 _,.val 22 _,.alc 2,.sto 2]) [.g 0,.g 1,.g 2,.g 3,.g 4,.g 5] zk (zbp fun _ _ h=>h) hst (zv rfl (za2 (gq 5 rfl)) (zv rfl (za5 (xs:=[.tmp 20]) (row_cn hk4.1 hk4.2.1 k) (.cons (vq 0 rfl) .nil)) (zv rfl (za5 (xs:=[.tmp 21]) zib (.cons (vq 1 rfl) .nil)) (oc (zag rfl rfl rfl (Str.zero zaq)) (oc (za8 rfl rfl rfl (vq 2 rfl) za7 (Eq.trans (b:=4) rfl rfl)) o0))))) zk zk zk (fun a w hst=>?_)
   have hst:St B (rndB B [51,37] gb Ws W3) 37 [(18,_),(19,_),(5,_),(6,_),(7,_),(8,_)] [⟨5,51,ptrH,_⟩,⟨6,37,ptrH,_⟩,⟨9,37,ptrH,_⟩] a w:=hst
   refine za0 ?_
   refine wpIn_seq ?_
   have hst:=St.wkL hst 2 rfl (zh3 (tr_b' (cnF_rep hk4.1 hk4.2.1 k)))
   refine zbh (sts:=[none,none,some (3,_)]) (news:=[]) (sp:=[.val 23 _,.val 24 _,.val 25 _,.sto 2]) [.g 0,.g 1,.g 2,.g 3,.g 4,.g 5] zk (zbp fun _ _ h=>h) hst (zv rfl (zad (lz0 2 rfl) za7) (zv rfl (zad (lz0 2 rfl) za7) (zv rfl (za5 (xs:=[.tmp 23,.tmp 24]) (zfc zd) (.cons (vq 0 rfl) (.cons (vq 1 rfl) .nil))) (oc (za8 rfl rfl rfl (vq 2 rfl) za7 (Eq.trans (b:=4) rfl rfl)) o0)))) zk zk zk (fun a w hst=>?_)
   have hst:St B (rndB B [51,37] gb Ws W3) 37 [(18,_),(19,_),(5,_),(6,_),(7,_),(8,_)] [⟨5,51,ptrH,_⟩,⟨6,37,ptrH,_⟩,⟨9,37,ptrH,_⟩] a w:=hst
   refine za0 ?_
   refine wpIn_seq ?_
   refine zbh (sts:=[none,none,none]) (news:=[]) (sp:=[.val 26 _,.val 27 _,.val 28 _,.val 29 (Wh (_=false) _),.val 30 (Wh (_=false) _),.val 31 (Wh (_=false) _),.val 32 (Wh (_=false) _),.val 33 _]) [.g 0,.g 1,.g 2,.g 3,.g 5,.o 7] zk (zbp fun _ _ h=>h) hst (zv rfl (za2 (gq 4 rfl)) (zv rfl (zcq (vq 0 rfl) za3) (zv rfl (za2 (vq 1 rfl)) (oc (zaf rfl rfl rfl (vq 2 rfl) nq (fun hg=>zad (lz0 2 rfl) za7)) (oc (zaf rfl rfl rfl (vq 2 rfl) nq (fun hg=>zad (lz0 1 rfl) za7)) (oc (zaf rfl rfl rfl (vq 2 rfl) nq (fun hg=>za5 (xs:=[.tmp 29,.tmp 30]) (cmp_q zd) (.cons (zaa (vq 3 rfl) hg) (.cons (zaa (vq 4 rfl) hg) .nil)))) (oc (zaf rfl rfl rfl (vq 2 rfl) nq (fun hg=>zfe (zaa (vq 5 rfl) hg) za3)) (zv rfl (r_or (vq 2 rfl) (vq 6 rfl)) o0)))))))) zk zk zk (fun a w hst=>?_)
   have hst:St B (rndB B [51,37] gb Ws W3) 37 [(18,_),(19,_),(5,_),(6,_),(8,_),(33,_)] [⟨5,51,ptrH,_⟩,⟨6,37,ptrH,_⟩,⟨9,37,ptrH,_⟩] a w:=hst
   refine za0 ?_
   refine zf3 (fun a w =>  St B (rndB B [51,37] gb Ws W3) 37 [(5,EqV (a0.eval (.tmp 5))),(6,EqV (a0.eval (.tmp 6)))] [⟨5,51,ptrH,OwnC 62 9 [U32] ((woS xs (k+1)).1.map REN)⟩,⟨6,37,ptrH,QA 67125254 (woS xs (k+1)).2⟩,⟨9,37,ptrH,QA 67125254 (trsQ (prodQ (cnF xs k)))⟩] a w) hst (zm 5 rfl) (fun hb1=>?_) (fun hb1=>?_) (fun a w hst=>?_)
   ·refine ziz (anc:=[[],[],[0],[0,1,2]]) (sts:=[some (2,_),some (3,_),none]) (news:=[]) (sp:=[.val 34 _,.val 35 _,.sto 0,.sto 1]) [.g 0,.g 1,.g 2,.g 3] za6 zk (zbp fun _ _ h=>h) hst (zv rfl (za2 (gq 4 rfl)) (zv rfl (zad (lz0 2 rfl) za7) (oc (za8 rfl rfl rfl (vq 0 rfl) ty_51 (Eq.trans (b:=1) rfl rfl)) (oc (za8 rfl rfl rfl (vq 1 rfl) za7 (Eq.trans (b:=4) rfl rfl)) o0)))) zk zk zk zk (fun a w hst=>?_)
    have hst:St B (rndB B [51,37] gb Ws W3) 37 [(18,_),(19,_),(5,_),(6,_)] [⟨5,51,ptrH,_⟩,⟨6,37,ptrH,_⟩,⟨9,37,ptrH,_⟩] a w:=hst
    refine za0 ?_
    have hst:=St.sel hst [2,3]
    have e:=wo_t hb1
    have e1:OwnC 62 9 [U32] ((cnF xs k).map REN)=OwnC 62 9 [U32] ((woS xs (k+1)).1.map REN):=by rw [← e]
    have e2:QA 67125254 (trsQ (prodQ (cnF xs k)))=QA 67125254 (woS xs (k+1)).2:=by rw [← e]
    have hst:=St.cvA (A':=OwnC 62 9 [U32] ((woS xs (k+1)).1.map REN)) hst 0 rfl e1
    have hst:=St.cvA (A':=QA 67125254 (woS xs (k+1)).2) hst 1 rfl e2
    exact hst
   ·refine wpIn_skip ?_
    refine za0 ?_
    have hst:=St.sel hst [2,3]
    rw [wo_f hb1] at hst
    exact hst
   refine zan ?_
   have hst:=St.selL hst [0,1]
   exact ⟨(fun h=>by cases h),zih [0,1] hst ⟨rfl,⟨rfl,trivial⟩⟩⟩
  ·have hst:St B w0 37 [] [⟨5,51,ptrH,_⟩,⟨6,37,ptrH,_⟩] a w:=hst
   refine zan ?_
   refine zt<|gl (sts:=[none,none]) (news:=[]) (sp:=[.val 36 _,.val 2 _,.val 3 _]) [.o 1,.o 2] hst (zv rfl (zad (lz0 0 rfl) ty_51) (zv rfl (za1 (vq 0 rfl)) (zv rfl (za1 za3) o0))) (fun a w hst=>?_)
   have hst:St B w0 37 [(2,_),(3,_)] [⟨5,51,ptrH,_⟩,⟨6,37,ptrH,_⟩] a w:=hst
   refine za0 ?_
   refine wp_ret ?_
   refine zae ?_ (zaw (rs:=[.tmp 2,.tmp 3]) rfl hst (.tmp (zm 0 rfl) (.tmp (zm 1 rfl) .nil)) zd)
   rw [wrF,if_pos hc]; exact zay
end Go.Proofs.YtlpppkkggljdcaaGreat
