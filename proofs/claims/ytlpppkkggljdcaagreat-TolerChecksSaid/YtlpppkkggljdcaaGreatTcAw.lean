import Derived.Test.YtlpppkkggljdcaaGreatTcAa
import Derived.Test.YtlpppkkggljdcaaGreatTcAc
import Derived.Test.YtlpppkkggljdcaaGreatTcAq
import Derived.Test.YtlpppkkggljdcaaGreatTcAv
set_option linter.unusedVariables false
set_option linter.unusedSimpArgs false
set_option linter.unusedSectionVars false
set_option maxRecDepth 100000
namespace Go.Proofs.YtlpppkkggljdcaaGreat
open Go Go.RowKit
def GnA (x:RGp):As:=cat [RFN x.lo,RFN x.hi]
theorem rfn0_p (B:Nat)(w:World):(RFN rf0).p B [.bool false,.slice none 0 0,.bool false,.slice none 0 0] w:=⟨[[.bool false,.slice none 0 0],[.bool false,.slice none 0 0]],rfl,.cons ⟨[[.bool false],[.slice none 0 0]],rfl,.cons rfl (.cons ⟨(fun x hx=>by cases hx),.inl ⟨rfl,rfl⟩⟩ .nil)⟩ (.cons ⟨[[.bool false],[.slice none 0 0]],rfl,.cons rfl (.cons ⟨(fun x hx=>by cases hx),.inl ⟨rfl,rfl⟩⟩ .nil)⟩ .nil)⟩
theorem zero_gpn:Zero Tryz.prog 39 (GnA gp0):=Zero.of (z:=.agg #[.bool false,.slice none 0 0,.bool false,.slice none 0 0,.bool false,.slice none 0 0,.bool false,.slice none 0 0]) zk (fun B w=>⟨[[.bool false,.slice none 0 0,.bool false,.slice none 0 0],[.bool false,.slice none 0 0,.bool false,.slice none 0 0]],rfl,.cons (rfn0_p B w) (.cons (rfn0_p B w) .nil)⟩)
theorem free_gn (x:RGp):FreeA (GnA x) (GpA x):=zc8 (.cons (zgf _) (.cons (zgf _) .nil))
theorem wkA_rfN {x:RF}:WkA (RFN x) (RFA x):=⟨rfl,rfl,fun B cs w h=>(zgf x).2.2 B B cs w (Nat.le_refl _) h⟩
theorem zir {k:Nat}{q:Rat}(h:bQ k q):WkA (RFN (rfOf q)) (QA k q):=wkA_rfN.trans (qa_of h.1 h.2)
def loS (f:Nat→Rat):Nat→Rat
 | 0=>0
 | k+1=>if ((((k:Nat):Int)==0) || decide (cmQ (f k) (loS f k)<0))=true then f k else loS f k
def hiS (f:Nat→Rat):Nat→Rat
 | 0=>0
 | k+1=>if ((((k:Nat):Int)==0) || decide (cmQ (f k) (hiS f k)>0))=true then f k else hiS f k
def gpS (f:Nat→Rat)(k:Nat):RGp:=if k=0 then gp0 else ⟨rfOf (loS f k),rfOf (hiS f k)⟩
theorem lo_b {f:Nat→Rat}{b:Nat}(hb:1≤b)(h:∀ k,bQ b (f k)):∀ k,bQ b (loS f k)
 | 0=>⟨Nat.le_trans nq hb,Nat.le_trans nq hb⟩
 | k+1=>by
  unfold loS
  split
  ·exact h k
  ·exact lo_b hb h k
theorem hi_b {f:Nat→Rat}{b:Nat}(hb:1≤b)(h:∀ k,bQ b (f k)):∀ k,bQ b (hiS f k)
 | 0=>⟨Nat.le_trans nq hb,Nat.le_trans nq hb⟩
 | k+1=>by
  unfold hiS
  split
  ·exact h k
  ·exact hi_b hb h k
theorem k_ne {k:Nat}(h:(((k:Nat):Int)==0)=false):k≠0:=fun e=>by subst e; exact absurd h zd
theorem gp_lo {f:Nat→Rat}{k:Nat}(h:(((k:Nat):Int)==0)=false):(gpS f k).lo=rfOf (loS f k):=by unfold gpS; rw [if_neg (k_ne h)]
theorem gp_hi {f:Nat→Rat}{k:Nat}(h:(((k:Nat):Int)==0)=false):(gpS f k).hi=rfOf (hiS f k):=by unfold gpS; rw [if_neg (k_ne h)]
theorem gp_lo1 {f:Nat→Rat}{k:Nat}:(gpS f (k+1)).lo=rfOf (loS f (k+1)):=rfl
theorem gp_hi1 {f:Nat→Rat}{k:Nat}:(gpS f (k+1)).hi=rfOf (hiS f (k+1)):=rfl
theorem lo_t {f:Nat→Rat}{k:Nat}(h:((((k:Nat):Int)==0) || decide (cmQ (f k) (loS f k)<0))=true):rfOf (f k)=(gpS f (k+1)).lo:=by rw [gp_lo1,loS,if_pos h]
theorem lo_f {f:Nat→Rat}{k:Nat}(h:((((k:Nat):Int)==0) || decide (cmQ (f k) (loS f k)<0))=false):(gpS f k).lo=(gpS f (k+1)).lo:=by
 have h0:(((k:Nat):Int)==0)=false:=(Bool.or_eq_false_iff.1 h).1
 rw [gp_lo1,gp_lo h0,loS,if_neg (by rw [h]; decide)]
theorem hi_t {f:Nat→Rat}{k:Nat}(h:((((k:Nat):Int)==0) || decide (cmQ (f k) (hiS f k)>0))=true):rfOf (f k)=(gpS f (k+1)).hi:=by rw [gp_hi1,hiS,if_pos h]
theorem hi_f {f:Nat→Rat}{k:Nat}(h:((((k:Nat):Int)==0) || decide (cmQ (f k) (hiS f k)>0))=false):(gpS f k).hi=(gpS f (k+1)).hi:=by
 have h0:(((k:Nat):Int)==0)=false:=(Bool.or_eq_false_iff.1 h).1
 rw [gp_hi1,gp_hi h0,hiS,if_neg (by rw [h]; decide)]
theorem cmp_lo {f:Nat→Rat}{k:Nat}(hf:∀ k,bQ 33562627 (f k))(h:(((k:Nat):Int)==0)=false):Cn Tryz.prog 50 [(RFN (rfOf (f k))).va,(RFN (gpS f k).lo).va] (In (cmQ (f k) (loS f k))):=by
 rw [gp_lo h]
 exact (cmp_q (c:=33562627) (d:=33562627) zd).wk (.cons (zir (hf k)).va (.cons (zir (lo_b zd hf k)).va .nil))
theorem cmp_hi {f:Nat→Rat}{k:Nat}(hf:∀ k,bQ 33562627 (f k))(h:(((k:Nat):Int)==0)=false):Cn Tryz.prog 50 [(RFN (rfOf (f k))).va,(RFN (gpS f k).hi).va] (In (cmQ (f k) (hiS f k))):=by
 rw [gp_hi h]
 exact (cmp_q (c:=33562627) (d:=33562627) zd).wk (.cons (zir (hf k)).va (.cons (zir (hi_b zd hf k)).va .nil))
theorem copy_fn {x:Rat}(h:bQ 33562627 x):Cn Tryz.prog 81 [(RFN (rfOf x)).va] (RFN (rfOf x)).va :=
 ((copyD_q (c:=33562627) zd).wk (.cons (zir h).va .nil)).wkp qd_rfn.va
theorem wk_renA {xs:List RE}:Wk (OwnC 62 9 [U32] (xs.map REN)).va (SlA 62 [U32] (xs.map REA)).va:=fun B v w h =>
 free_own (map_free free_reN xs) (fun A hA=>by obtain ⟨x,_,rfl⟩:=List.mem_map.1 hA; exact zfq (l:=[REA x]) zk _ (by simp)) B B v w (Nat.le_refl _) h
theorem cmp_le {x y:Rat}:cmQ x y≤0↔x≤y:=by
 unfold cmQ
 split
 ·rename_i h; exact ⟨fun _=>by grind,fun _=>by decide⟩
 ·split
  ·rename_i h1 h2; exact ⟨fun h=>absurd h zd,fun h=>by grind⟩
  ·exact ⟨fun _=>by grind,fun _=>by decide⟩
theorem may_le {g:RGp}(h:mayG g=true):toQ g.lo≤toQ g.hi:=by
 unfold mayG at h
 rw [Bool.and_eq_true] at h
 exact cmp_le.1 (of_decide_eq_true h.2)
theorem lo_el {x:RLo}(h:loF x=true):elF ⟨x.k,x.p.lo,x.q.lo⟩=true∧elF ⟨x.k,x.p.hi,x.q.hi⟩=true∧mayG x.p=true∧mayG x.q=true:=by
 unfold loF at h
 rw [Bool.and_eq_true,Bool.and_eq_true,beq_iff_eq] at h
 have h2:=(ch_ok h.2).2
 simp only [List.all_cons,List.all_nil,Bool.and_true,Bool.and_eq_true] at h2
 exact ⟨h2.1,h2.2,h.1.1,h.1.2⟩
theorem sgn_pos (q:Rat):(0<q.num.sign↔0<q)∧(0≤q.num.sign↔0≤q)∧(q.num.sign=0↔q=0):=by
 have h0:0≤q.num↔0≤q:=Rat.num_nonneg
 have h1:q.num=0↔q=0:=Rat.num_eq_zero
 have h2:(0:Int)<q.num↔0<q:=by
  constructor
  ·intro h
   have a:=h0.1 zo
   have b:q≠0:=fun e=>by have:=h1.2 e; omega
   grind
  ·intro h
   have a:=h0.2 (by grind)
   have b:q.num≠0:=fun e=>by have:=h1.1 e; grind
   omega
 refine ⟨?_,?_,?_⟩
 ·rw [← h2]
  constructor
  ·intro h
   rcases Int.lt_trichotomy q.num 0 with hh | hh | hh
   ·rw [Int.sign_eq_neg_one_of_neg hh] at h; exact absurd h zd
   ·rw [hh] at h; exact absurd h zd
   ·exact hh
  ·intro h
   rw [Int.sign_eq_one_of_pos h]; decide
 ·rw [← h0]
  constructor
  ·intro h
   rcases Int.lt_trichotomy q.num 0 with hh | hh | hh
   ·rw [Int.sign_eq_neg_one_of_neg hh] at h; exact absurd h zd
   ·omega
   ·omega
  ·intro h
   rcases Int.lt_trichotomy q.num 0 with hh | hh | hh
   ·omega
   ·rw [hh]; decide
   ·rw [Int.sign_eq_one_of_pos hh]; decide
 ·rw [← h1,Int.sign_eq_zero_iff_zero]
def kOk (k:Int)(p q:Rat):Prop:=(k=1∧0≤p∧q=0)∨(k=2∧q=0)∨(k=3∧0≤p∧0<q)∨k=4∨(k=5∧p=0∧q=0)
theorem elK_iff {k:Int}{p q:Rat}:elK k p.num.sign q.num.sign=true↔kOk k p q:=by
 have hp:=sgn_pos p
 have hq:=sgn_pos q
 unfold kOk
 rw [← hp.2.1,← hp.2.2,← hq.1,← hq.2.2]
 by_cases h1:k=1
 ·subst h1
  rw [kd1 (by rfl)]
  simp
 ·by_cases h2:k=2
  ·subst h2
   rw [kd2 (by rfl) (by rfl)]
   simp
  ·by_cases h3:k=3
   ·subst h3
    rw [kd3 (by rfl) (by rfl) (by rfl)]
    simp
   ·by_cases h4:k=4
    ·subst h4
     rw [kd4 (by rfl) (by rfl) (by rfl) (by rfl)]
     simp
    ·rw [kd5 (by simpa using h1) (by simpa using h2) (by simpa using h3) (by simpa using h4)]
     simp [h1,h2,h3,h4,and_assoc]
theorem elF_iff {x:RE}:elF x=true↔okX x.p=true∧okX x.q=true∧kOk x.k (toQ x.p) (toQ x.q):=by
 unfold elF
 simp only [List.all_cons,List.all_nil,Bool.and_true,Bool.and_eq_true,elK_iff,and_assoc]
theorem k_mid {k:Int}{p0 p1 q0 q1 p q:Rat}(h0:kOk k p0 q0)(h1:kOk k p1 q1)(hp:p0≤p∧p≤p1)(hq:q0≤q∧q≤q1):kOk k p q:=by
 unfold kOk at *
 rcases h0 with ⟨e,a,b⟩ | ⟨e,a⟩ | ⟨e,a,b⟩ | e | ⟨e,a,b⟩
 ·rcases h1 with ⟨_,c,d⟩ | ⟨e2,_⟩ | ⟨e2,_⟩ | e2 | ⟨e2,_⟩
  ·exact .inl ⟨e,by grind,by grind⟩
  all_goals omega
 ·rcases h1 with ⟨e2,_⟩ | ⟨e2,d⟩ | ⟨e2,_⟩ | e2 | ⟨e2,_⟩
  ·omega
  ·exact .inr (.inl ⟨e,by grind⟩)
  all_goals omega
 ·exact .inr (.inr (.inl ⟨e,by grind,by grind⟩))
 ·exact .inr (.inr (.inr (.inl e)))
 ·rcases h1 with ⟨e2,_⟩ | ⟨e2,_⟩ | ⟨e2,_⟩ | e2 | ⟨e2,c,d⟩
  ·omega
  ·omega
  ·omega
  ·omega
  ·exact .inr (.inr (.inr (.inr ⟨e,by grind,by grind⟩)))
theorem el_mid {x:RLo}{p q:RF}(h:loF x=true)(hp:okX p=true)(hq:okX q=true)(bp:toQ x.p.lo≤toQ p∧toQ p≤toQ x.p.hi)(bq:toQ x.q.lo≤toQ q∧toQ q≤toQ x.q.hi):elF ⟨x.k,p,q⟩=true:=by
 obtain ⟨h1,h2,_,_⟩:=lo_el h
 exact elF_iff.2 ⟨hp,hq,k_mid (elF_iff.1 h1).2.2 (elF_iff.1 h2).2.2 bp bq⟩
theorem end_ok {g:RGp}(h:mayG g=true)(c:Nat):okX (endF g c).1=true∧toQ g.lo≤toQ (endF g c).1∧toQ (endF g c).1≤toQ g.hi:=by
 have h2:=ok_2 (zjv h)
 have hl:=may_le h
 unfold endF
 split
 ·exact ⟨h2.1,by grind,hl⟩
 ·split
  ·exact ⟨h2.2,hl,by grind⟩
  ·exact ⟨h2.1,by grind,hl⟩
theorem cst_ok {x:RLo}(h:loF x=true)(c:Nat):elF (cst x c).1=true:=by
 obtain ⟨_,_,hp,hq⟩:=lo_el h
 have a:=end_ok hp c
 have b:=end_ok hq (endF x.p c).2
 exact el_mid h a.1 b.1 a.2 b.2
theorem cnS_ok:∀ (xs:List RLo) (s:List RE × Nat),xs.all loF=true→s.1.all elF=true→(cnS s xs).1.all elF=true
 | [],s,_,h=>h
 | x::xs,s,h,hs=>by
  rw [List.all_cons,Bool.and_eq_true] at h
  exact cnS_ok xs _ h.2 (by rw [List.all_append,hs]; simp [cst_ok h.1])
theorem cnF_ok {xs:List RLo}(h:xs.all loF=true)(c:Nat):(cnF xs c).all elF=true:=cnS_ok xs _ h rfl
theorem cnF_len (xs:List RLo)(c:Nat):(cnF xs c).length=xs.length:=by unfold cnF; rw [cnS_len]; simp
theorem cnF_rep {xs:List RLo}(h4:xs.length≤4096)(h:xs.all loF=true)(c:Nat):RepM 16781313 (prodQ (cnF xs c)):=by
 have:=zjk (cnF_ok h c) (cnF xs c).length (Nat.le_refl _)
 rw [List.take_length] at this
 exact zg9 this (by rw [cnF_len]; omega)
def trQ' (m:MQ):Rat:=m.a+m.d
theorem tr_b' {m:MQ}(h:RepM 16781313 m):bQ 33562627 (trQ' m):=by
 obtain ⟨a,_,_,d⟩:=rep_bQ h
 exact bQ_add a d
end Go.Proofs.YtlpppkkggljdcaaGreat
namespace Go.Proofs.YtlpppkkggljdcaaGreat
open Go Go.RowKit
theorem plusN_t {c d:Nat}{x y:Rat}(hc:c+d≤137438953472):Cn Tryz.prog 60 [Qs c x,Qs d y] (RFN (rfOf (x+y))).va:=(plusD_q hc).wkp qd_rfn.va
theorem row_cn {xs:List RLo}(h4:xs.length≤4096)(hx:xs.all loF=true)(k:Nat):Cn Tryz.prog 49 [(OwnC 62 9 [U32] ((cnF xs k).map REN)).va] (QMA 16781313 (prodQ (cnF xs k))).va :=
 (rowMatrix_c (by rw [cnF_len]; exact h4) (cnF_ok hx k)).wk (.cons wk_renA .nil)
theorem up_eqA (v:Value):Up (EqA v).va (EqA v).va:=UpA.va ⟨rfl,rfl,fun _ _ _ _ h=>h⟩
abbrev aF (ask:MQ→Rat)(xs:List RLo):Nat→Rat:=fun k=>ask (prodQ (cnF xs k))
def gapF (ask:MQ→Rat)(xs:List RLo):RGp × Int:=if tchF xs=0 then (if [loS (aF ask xs) (2^manyF xs),hiS (aF ask xs) (2^manyF xs)].any longQ then (gp0,4) else (⟨rfOf (loS (aF ask xs) (2^manyF xs)),rfOf (hiS (aF ask xs) (2^manyF xs))⟩,0)) else (gp0,tchF xs)
theorem tch_ok {xs:List RLo}(h:tchF xs=0):xs.length≤4096∧xs.all loF=true∧manyF xs≤12:=by
 unfold tchF at h
 split at h
 ·exact absurd h zd
 ·split at h
  ·split at h
   ·exact absurd h zd
   ·rename_i h1 h2 h3; exact ⟨by omega,h2,by omega⟩
  ·exact absurd h zd
theorem pow_pos' (m:Nat):2^m≠0:=Nat.ne_of_gt (Nat.two_pow_pos m)
theorem gp_qa {f:Nat→Rat}{m:Nat}(hf:∀ k,bQ 33562627 (f k)):WkA (GpA (gpS f (2^m))) (cat [QA 33562627 (loS f (2^m)),QA 33562627 (hiS f (2^m))]):=by
 have e:gpS f (2^m)=⟨rfOf (loS f (2^m)),rfOf (hiS f (2^m))⟩:=if_neg (pow_pos' m)
 rw [e]
 exact zci (.cons (qa_of (lo_b zd hf _).1 (lo_b zd hf _).2) (.cons (qa_of (hi_b zd hf _).1 (hi_b zd hf _).2) .nil))
theorem gp_a {c d:Nat}{x y:Rat}:WkA (cat [QA c x,QA d y]) (GpA ⟨rfOf x,rfOf y⟩):=zci (.cons qaA (.cons qaA .nil))
abbrev GpR (r:RGp × Int):VA:=Tu [(GpA r.1).va,In r.2]
theorem ttrace_q {m:MQ}:Cn Tryz.prog 45 [(QMA 16781313 m).va] ((RFN (rfOf (trQ' m))).va):=by
 refine Cn.intro Tryz.func45 rfl zk nq (fun B w0 a hst=>?_)
 have hst:St B w0 8 [(0,(QMA 16781313 m).va)] [] a w0.w:=hst
 refine wp_seq ?_
 refine gl (sts:=[]) (news:=[⟨1,56,ptrH,some 0,_,none⟩,⟨2,37,ptrH,some 1,_,none⟩]) (sp:=[.alc 0,.alc 1]) [] hst (oc (zan rfl rfl rfl (gq 0 rfl)) (oc (zap rfl rfl rfl (Str.zero zb9)) o0)) (fun a w hst=>?_)
 have hst:St B w0 8 [] [⟨1,56,ptrH,_⟩,⟨2,37,ptrH,_⟩] a w:=hst
 refine zt<|gl (sts:=[none,some (5,_)]) (news:=[]) (sp:=[.adr 3 1 (.some 0) True,.val 4 _,.adr 5 1 (.some 12) True,.val 6 _,.val 7 _,.sto 1]) [] hst (oc (ob_a rfl rfl (za7 (lz0 0 rfl) zfl)) (zv rfl (za4 0 rfl zk trivial (lz0 0 rfl) (Sub.part 0 rfl rfl) zao) (oc (ob_a rfl rfl (za7 (lz0 0 rfl) zfk)) (zv rfl (za4 2 rfl zk trivial (lz0 0 rfl) (Sub.part 3 rfl rfl) zao) (zv rfl (za5 (xs:=[.tmp 4,.tmp 6]) (plusN_t zd) (.cons (vq 1 rfl) (.cons (vq 3 rfl) .nil))) (oc (zaf rfl rfl rfl (vq 4 rfl) zao (Eq.trans (b:=4) rfl rfl)) o0)))))) (fun a w hst=>?_)
 have hst:St B w0 8 [] [⟨1,56,ptrH,_⟩,⟨2,37,ptrH,_⟩] a w:=hst
 refine za0 ?_
 refine wp_ret ?_
 refine zai ?_ (zam rfl hst (zm 1 rfl) zao)
 exact zb6
set_option maxHeartbeats 2000000 in
theorem ends_c {fq:FuncId}{ask:MQ→Rat}(xs:List RLo)(h4:xs.length≤4096)(hx:xs.all loF=true)(hm12:manyF xs≤12)(hask:∀ m,Cn Tryz.prog fq [(QMA 16781313 m).va] (RFN (rfOf (ask m))).va)(hfb:∀ k,bQ 33562627 (aF ask xs k)):Cn Tryz.prog 79 [(SlA 41 [U32] (xs.map LoA)).va,(EqA (.func (.func fq) #[] #[])).va] ((GpA (gpS (aF ask xs) (2^manyF xs))).va):=by
 refine Cn.introR Tryz.func79 rfl zk nq (.cons (zjb (fun A hA=>by obtain ⟨x,_,rfl⟩:=List.mem_map.1 hA; exact zke x)).va (.cons (up_eqA _) .nil)) (free_gn _).va (fun B w0 a hB0 hN0 hst=>?_)
 have hst:St B w0 41 [(0,(SlO 41 [U32] (xs.map LoA) True).va),(1,(EqA (.func (.func fq) #[] #[])).va)] [] a w0.w:=hst
 refine wp_seq ?_
 refine gl (sts:=[]) (news:=[⟨3,80,ptrH,some 0,_,none⟩,⟨4,39,ptrH,some 1,_,none⟩]) (sp:=[.alc 0,.alc 1]) [.g 0] hst (oc (zan rfl rfl rfl (gq 1 rfl)) (oc (zap rfl rfl rfl zero_gpn) o0)) (fun a w hst=>?_)
 have hst:St B w0 41 [(0,_)] [⟨3,80,ptrH,_⟩,⟨4,39,ptrH,_⟩] a w:=hst
 refine zt<|gl (sts:=[none,none]) (news:=[⟨5,39,ptrH,some 0,_,none⟩]) (sp:=[.alc 2]) [.g 0] hst (oc (zap rfl rfl rfl zero_gpn) o0) (fun a w hst=>?_)
 have hst:St B w0 41 [(0,_)] [⟨3,80,ptrH,_⟩,⟨4,39,ptrH,_⟩,⟨5,39,ptrH,_⟩] a w:=hst
 refine zt ?_
 refine wp_seq ?_
 have hst:=St.cvA (A':=cat [RFN (gpS (aF ask xs) 0).lo,RFN (gpS (aF ask xs) 0).hi]) hst 2 rfl rfl
 obtain ⟨q3,hst⟩:=St.nm hst 0 rfl
 obtain ⟨q4,hst⟩:=St.nm hst 1 rfl
 obtain ⟨q5,hst⟩:=St.nm hst 2 rfl
 refine gl (sts:=[none,none,none]) (news:=[]) (sp:=[.val 9 _,.val 10 _]) [.g 0,.g 1,.g 2,.o 1] hst (zv rfl (za2 (gq 3 rfl)) (zv rfl (r_callIt [(3,q3),(4,q4),(5,q5)] rfl (fun v hv=>corners_c hv) (vq 0 rfl) (.cons (gq 2 rfl) (lz0 0 rfl) (.cons (gq 1 rfl) (lz0 1 rfl) (.cons (gq 0 rfl) (lz0 2 rfl) .nil)))) o0)) (fun a w hst=>?_)
 have hst:St B w0 41 [(5,_),(4,_),(3,_),(10,_)] [⟨3,80,ptrH,_⟩,⟨4,39,ptrH,_⟩,⟨5,39,ptrH,_⟩] a w:=hst
 obtain ⟨gb,hst,hds⟩:=St.itn (ps:=[(3,q3),(4,q4),(5,q5)]) 3 [2,1,0] hst rfl ⟨rfl,⟨rfl,⟨rfl,trivial⟩⟩⟩
 have hdis:∀ s∈[3,4,5],∀ g,blk (a.eval (.tmp s))=some g→g ∉ gb:=hds
 refine za0 ?_
 refine wp_block ?_
 have hst:=St.selL hst [0,1,2]
 refine go_range (k0:=3) (gb:=gb) (Dd:=[U32]) (Db:=[80,39]) (fun k=>[⟨3,80,ptrH,EqA (.func (.func fq) #[] #[])⟩,⟨4,39,ptrH,GnA gp0⟩,⟨5,39,ptrH,cat [RFN (gpS (aF ask xs) k).lo,RFN (gpS (aF ask xs) k).hi]⟩]) none (fun _=>none) hst hB0 hN0 rfl (zj6 xs h4 hx hm12 gb) (M:=(2^manyF xs)) (Y:=fun k=>[In ((k:Nat):Int),(OwnC 62 9 [U32] ((cnF xs k).map REN)).va]) (fun h=>by cases h) zk [] zk (fun _=>by kernel_rfl) [3,4,5] (fun _=>by kernel_rfl) hdis (fun L hL=>by cases hL) (fun _ L hL=>by cases hL) (fun _=>rfl) zd zk (fun l k a1 Ws hk hBs hct hst=>?_) (fun a w hst=>?_) (fun L hL=>by cases hL) (fun _ L hL=>by cases hL)
 ·obtain ⟨a0,rfl⟩:∃ x,x=a:=⟨_,rfl⟩
  have hst:St B (rndB B [80,39] gb Ws Ws) 41 [(11,_),(12,_),(3,_),(4,_),(5,_)] [⟨3,80,ptrH,EqA (.func (.func fq) #[] #[])⟩,⟨4,39,ptrH,GnA gp0⟩,⟨5,39,ptrH,cat [RFN (gpS (aF ask xs) k).lo,RFN (gpS (aF ask xs) k).hi]⟩] a1 Ws:=hst
  refine wpIn_seq ?_
  refine zc4 (sts:=[none,none,none]) (news:=[]) (sp:=[.val 6 _]) [.g 0,.g 1,.g 2,.g 3,.g 4,.o 0] zk (zcd fun _ _ h=>h) hst (zv rfl (za1 (gq 0 rfl)) o0) zk zk zk (fun a w hst=>?_)
  have hst:St B (rndB B [80,39] gb Ws Ws) 41 [(11,_),(12,_),(3,_),(4,_),(5,_),(6,_)] [⟨3,80,ptrH,_⟩,⟨4,39,ptrH,_⟩,⟨5,39,ptrH,_⟩] a w:=hst
  refine za0 ?_
  refine zc4 (sts:=[none,none,none]) (news:=[]) (sp:=[.val 7 _]) [.g 0,.g 1,.g 2,.g 3,.g 4,.g 5,.o 0] zk (zcd fun _ _ h=>h) hst (zv rfl (za1 (gq 1 rfl)) o0) zk zk zk (fun a w hst=>?_)
  have hst:St B (rndB B [80,39] gb Ws Ws) 41 [(11,_),(12,_),(3,_),(4,_),(5,_),(6,_),(7,_)] [⟨3,80,ptrH,_⟩,⟨4,39,ptrH,_⟩,⟨5,39,ptrH,_⟩] a w:=hst
  refine za0 ?_
  refine ⟨hst.base,fun W3 hbg=>?_⟩
  have hst:=St.begin hst (Nat.le_refl _) hBs hbg
  refine wpIn_block ?_
  refine wpIn_seq ?_
  refine go_drawF (anc:=[[],[],[1],[0,1,2],[],[0,1,2,3,4]]) (sts:=[none,none,none]) (news:=[⟨8,37,ptrH,some 4,_,some (5,_)⟩]) (sp:=[.val 13 _,.val 14 _,.val 15 _,.val 16 _,.alc 3,.sto 3]) [.g 0,.g 1,.g 2,.g 3,.g 4,.g 5] za6 zk (zcd fun _ _ h=>h) hst (zv rfl (zaq (lz0 0 rfl) ty_80) (zv rfl (za2 (gq 6 rfl)) (zv rfl (za5 (xs:=[.tmp 14]) (row_cn h4 hx k) (.cons (vq 1 rfl) .nil)) (zv rfl (r_callE (xs:=[.tmp 15]) (hask (prodQ (cnF xs k))) (vq 0 rfl) (.cons (vq 2 rfl) .nil)) (oc (zap rfl rfl rfl (Str.zero zb9)) (oc (zaf rfl rfl rfl (vq 3 rfl) zao (Eq.trans (b:=4) rfl rfl)) o0)))))) zk zk zk zk (fun a w hst=>?_)
  have hst:St B (rndB B [80,39] gb Ws W3) 41 [(11,_),(12,_),(3,_),(4,_),(5,_),(6,_)] [⟨3,80,ptrH,_⟩,⟨4,39,ptrH,_⟩,⟨5,39,ptrH,_⟩,⟨8,37,ptrH,_⟩] a w:=hst
  refine za0 ?_
  refine wpIn_seq ?_
  refine wpIn_seq ?_
  refine zc4 (sts:=[none,none,none,none]) (news:=[]) (sp:=[.val 17 _,.val 18 _,.val 19 _,.val 20 (Wh (_=false) _),.adr 21 5 (.some 0) (_=false),.val 22 (Wh (_=false) _),.val 23 (Wh (_=false) _),.val 24 (Wh (_=false) _),.val 25 _]) [.g 0,.g 1,.g 2,.g 3,.g 4,.g 5,.o 8] zk (zcd fun _ _ h=>h) hst (zv rfl (za2 (gq 5 rfl)) (zv rfl (zc2 (vq 0 rfl) za3) (zv rfl (za2 (vq 1 rfl)) (oc (zal rfl rfl rfl (vq 2 rfl) nq (fun hg=>zaq (lz0 3 rfl) zao)) (oc (zbz rfl rfl rfl (vq 2 rfl) nq (fun hg=>za7 (lz0 2 rfl) zbw)) (oc (zal rfl rfl rfl (vq 2 rfl) nq (fun hg=>za4 4 rfl zk hg (lz0 2 rfl) (Sub.part 0 rfl rfl) zao)) (oc (zal rfl rfl rfl (vq 2 rfl) nq (fun hg=>za5 (xs:=[.tmp 20,.tmp 22]) (cmp_lo (f:=(aF ask xs)) hfb hg) (.cons (zae (vq 3 rfl) hg) (.cons (zae (vq 5 rfl) hg) .nil)))) (oc (zal rfl rfl rfl (vq 2 rfl) nq (fun hg=>zbt (zae (vq 6 rfl) hg) za3)) (zv rfl (r_or (vq 2 rfl) (vq 7 rfl)) o0))))))))) zk zk zk (fun a w hst=>?_)
  have hst:St B (rndB B [80,39] gb Ws W3) 41 [(11,_),(12,_),(3,_),(4,_),(5,_),(6,_),(25,_)] [⟨3,80,ptrH,_⟩,⟨4,39,ptrH,_⟩,⟨5,39,ptrH,_⟩,⟨8,37,ptrH,_⟩] a w:=hst
  refine za0 ?_
  refine zh0 (fun a w =>  St B (rndB B [80,39] gb Ws W3) 41 [(6,In ((k:Nat):Int)),(3,EqV (a0.eval (.tmp 3))),(4,EqV (a0.eval (.tmp 4))),(5,EqV (a0.eval (.tmp 5)))] [⟨3,80,ptrH,EqA (.func (.func fq) #[] #[])⟩,⟨4,39,ptrH,GnA gp0⟩,⟨5,39,ptrH,cat [RFN (gpS (aF ask xs) (k+1)).lo,RFN (gpS (aF ask xs) k).hi]⟩,⟨8,37,ptrH,RFN (rfOf (aF ask xs k))⟩] a w) hst (zm 6 rfl) (fun hb0=>?_) (fun hb0=>?_) (fun a w hst=>?_)
  ·refine zc4 (sts:=[none,none,some (2,_),none]) (news:=[]) (sp:=[.val 26 _,.adr 27 5 (.some 0) True,.sto 2]) [.g 0,.g 1,.g 2,.g 3,.g 4,.g 5] zk (zcd fun _ _ h=>h) hst (zv rfl (zaq (lz0 3 rfl) zao) (oc (ob_a rfl rfl (za7 (lz0 2 rfl) zbw)) (oc (zft 1 rfl rfl rfl rfl zk (vq 0 rfl) zao (Put.part 0 rfl rfl rfl)) o0))) zk zk zk (fun a w hst=>?_)
   have hst:St B (rndB B [80,39] gb Ws W3) 41 [(11,_),(12,_),(3,_),(4,_),(5,_),(6,_)] [⟨3,80,ptrH,_⟩,⟨4,39,ptrH,_⟩,⟨5,39,ptrH,_⟩,⟨8,37,ptrH,_⟩] a w:=hst
   refine za0 ?_
   have hst:=St.sel hst [5,2,3,4]
   have hst:=St.cvA (A':=cat [RFN (gpS (aF ask xs) (k+1)).lo,RFN (gpS (aF ask xs) k).hi]) hst 2 rfl (congrArg (fun z=>cat [RFN z,RFN (gpS (aF ask xs) k).hi]) (lo_t (f:=(aF ask xs)) hb0))
   exact hst
  ·refine wpIn_skip ?_
   refine za0 ?_
   have hst:=St.sel hst [5,2,3,4]
   have hst:=St.cvA (A':=cat [RFN (gpS (aF ask xs) (k+1)).lo,RFN (gpS (aF ask xs) k).hi]) hst 2 rfl (congrArg (fun z=>cat [RFN z,RFN (gpS (aF ask xs) k).hi]) (lo_f (f:=(aF ask xs)) hb0))
   exact hst
  refine za0 ?_
  refine wpIn_seq ?_
  refine zc4 (sts:=[none,none,none,none]) (news:=[]) (sp:=[.val 28 _,.val 29 _,.val 30 _,.val 31 (Wh (_=false) _),.adr 32 5 (.some 4) (_=false),.val 33 (Wh (_=false) _),.val 34 (Wh (_=false) _),.val 35 (Wh (_=false) _),.val 36 _]) [.g 1,.g 2,.g 3,.o 8] zk (zcd fun _ _ h=>h) hst (zv rfl (za2 (gq 0 rfl)) (zv rfl (zc2 (vq 0 rfl) za3) (zv rfl (za2 (vq 1 rfl)) (oc (zal rfl rfl rfl (vq 2 rfl) nq (fun hg=>zaq (lz0 3 rfl) zao)) (oc (zbz rfl rfl rfl (vq 2 rfl) nq (fun hg=>za7 (lz0 2 rfl) zby)) (oc (zal rfl rfl rfl (vq 2 rfl) nq (fun hg=>za4 4 rfl zk hg (lz0 2 rfl) (Sub.part 1 rfl rfl) zao)) (oc (zal rfl rfl rfl (vq 2 rfl) nq (fun hg=>za5 (xs:=[.tmp 31,.tmp 33]) (cmp_hi (f:=(aF ask xs)) hfb hg) (.cons (zae (vq 3 rfl) hg) (.cons (zae (vq 5 rfl) hg) .nil)))) (oc (zal rfl rfl rfl (vq 2 rfl) nq (fun hg=>zdo (zae (vq 6 rfl) hg) za3)) (zv rfl (r_or (vq 2 rfl) (vq 7 rfl)) o0))))))))) zk zk zk (fun a w hst=>?_)
  have hst:St B (rndB B [80,39] gb Ws W3) 41 [(3,_),(4,_),(5,_),(36,_)] [⟨3,80,ptrH,_⟩,⟨4,39,ptrH,_⟩,⟨5,39,ptrH,_⟩,⟨8,37,ptrH,_⟩] a w:=hst
  refine za0 ?_
  refine zh0 (fun a w =>  St B (rndB B [80,39] gb Ws W3) 41 [(3,EqV (a0.eval (.tmp 3))),(4,EqV (a0.eval (.tmp 4))),(5,EqV (a0.eval (.tmp 5)))] [⟨3,80,ptrH,EqA (.func (.func fq) #[] #[])⟩,⟨4,39,ptrH,GnA gp0⟩,⟨5,39,ptrH,cat [RFN (gpS (aF ask xs) (k+1)).lo,RFN (gpS (aF ask xs) (k+1)).hi]⟩,⟨8,37,ptrH,RFN (rfOf (aF ask xs k))⟩] a w) hst (zm 3 rfl) (fun hb1=>?_) (fun hb1=>?_) (fun a w hst=>?_)
  ·refine zc4 (sts:=[none,none,some (3,_),none]) (news:=[]) (sp:=[.val 37 _,.val 38 _,.adr 39 5 (.some 4) True,.sto 2]) [.g 0,.g 1,.g 2] zk (zcd fun _ _ h=>h) hst (zv rfl (zaq (lz0 3 rfl) zao) (zv rfl (za5 (xs:=[.tmp 37]) (copy_fn (hfb k)) (.cons (vq 0 rfl) .nil)) (oc (ob_a rfl rfl (za7 (lz0 2 rfl) zby)) (oc (zft 2 rfl rfl rfl rfl zk (vq 1 rfl) zao (Put.part 1 rfl rfl rfl)) o0)))) zk zk zk (fun a w hst=>?_)
   have hst:St B (rndB B [80,39] gb Ws W3) 41 [(3,_),(4,_),(5,_)] [⟨3,80,ptrH,_⟩,⟨4,39,ptrH,_⟩,⟨5,39,ptrH,_⟩,⟨8,37,ptrH,_⟩] a w:=hst
   refine za0 ?_
   have hst:=St.sel hst [0,1,2]
   have hst:=St.cvA (A':=cat [RFN (gpS (aF ask xs) (k+1)).lo,RFN (gpS (aF ask xs) (k+1)).hi]) hst 2 rfl (congrArg (fun z=>cat [RFN (gpS (aF ask xs) (k+1)).lo,RFN z]) (hi_t (f:=(aF ask xs)) hb1))
   exact hst
  ·refine wpIn_skip ?_
   refine za0 ?_
   have hst:=St.sel hst [0,1,2]
   have hst:=St.cvA (A':=cat [RFN (gpS (aF ask xs) (k+1)).lo,RFN (gpS (aF ask xs) (k+1)).hi]) hst 2 rfl (congrArg (fun z=>cat [RFN (gpS (aF ask xs) (k+1)).lo,RFN z]) (hi_f (f:=(aF ask xs)) hb1))
   exact hst
  refine zaj ?_
  have hst:=St.selL hst [0,1,2]
  exact ⟨(fun h=>by cases h),rend_of [0,1,2] hst ⟨rfl,⟨rfl,⟨rfl,trivial⟩⟩⟩⟩
 ·have hst:St B w0 41 [] [⟨3,80,ptrH,_⟩,⟨4,39,ptrH,_⟩,⟨5,39,ptrH,_⟩] a w:=hst
  refine zaj ?_
  refine zt<|gl (sts:=[none,some (1,_),none]) (news:=[]) (sp:=[.val 40 _,.sto 1]) [] hst (zv rfl (zaq (lz0 2 rfl) zc6) (oc (zaf rfl rfl rfl (vq 0 rfl) zc6 (Eq.trans (b:=8) rfl rfl)) o0)) (fun a w hst=>?_)
  have hst:St B w0 41 [] [⟨3,80,ptrH,_⟩,⟨4,39,ptrH,_⟩,⟨5,39,ptrH,_⟩] a w:=hst
  refine za0 ?_
  refine wp_ret ?_
  refine zai ?_ (zam rfl hst (zm 1 rfl) zc6)
  exact zb6
theorem gap_c {fq:FuncId}{ask:MQ→Rat}(xs:List RLo)(hask:∀ m,Cn Tryz.prog fq [(QMA 16781313 m).va] (RFN (rfOf (ask m))).va)(hfb0:xs.length≤4096→xs.all loF=true→∀ k,bQ 33562627 (aF ask xs k)):Cn Tryz.prog 44 [(SlA 41 [U32] (xs.map LoA)).va,(EqA (.func (.func fq) #[] #[])).va] (GpR (gapF ask xs)):=by
 refine Cn.intro Tryz.func44 rfl zk nq (fun B w0 a hst=>?_)
 have hst:St B w0 35 [(0,(SlA 41 [U32] (xs.map LoA)).va),(1,(EqA (.func (.func fq) #[] #[])).va)] [] a w0.w:=hst
 refine wp_seq ?_
 refine gl (sts:=[]) (news:=[⟨4,39,ptrH,some 0,_,none⟩]) (sp:=[.alc 0,.val 5 _]) [.g 0,.g 1,.o 1] hst (oc (zap rfl rfl rfl (Str.zero zd0)) (zv rfl (za1 za3) o0)) (fun a w hst=>?_)
 have hst:St B w0 35 [(0,_),(1,_),(5,_)] [⟨4,39,ptrH,_⟩] a w:=hst
 refine zt ?_
 refine wp_seq ?_
 refine gl (sts:=[none]) (news:=[]) (sp:=[.val 9 _,.val 10 _,.val 6 _]) [.g 0,.g 1,.g 2,.o 2] hst (zv rfl (za2 (gq 0 rfl)) (zv rfl (za5 (xs:=[.tmp 9]) (zfb xs) (.cons (vq 0 rfl) .nil)) (zv rfl (za1 (vq 1 rfl)) o0))) (fun a w hst=>?_)
 have hst:St B w0 35 [(0,_),(1,_),(5,_),(6,_)] [⟨4,39,ptrH,_⟩] a w:=hst
 refine zt<|gl (sts:=[none]) (news:=[]) (sp:=[.val 11 _,.val 12 _]) [.g 0,.g 1,.g 2,.g 3,.o 1] hst (zv rfl (za2 (gq 3 rfl)) (zv rfl (zdh (vq 0 rfl) za3) o0)) (fun a w hst=>?_)
 have hst:St B w0 35 [(0,_),(1,_),(5,_),(6,_),(12,_)] [⟨4,39,ptrH,_⟩] a w:=hst
 refine za0 ?_
 refine za8 hst (zm 4 rfl) (fun hb0=>?_) (fun hb0=>?_)
 ·have hc:¬ tchF xs=0:=by simpa using hb0
  refine wp_seq ?_
  refine gl (sts:=[some (2,_)]) (news:=[]) (sp:=[.val 13 _,.val 14 _,.sto 0,.val 5 _]) [.g 0,.g 1,.o 3] hst (zv rfl (zbb (xs:=[]) (qs:=[]) zd0 .nil) (zv rfl (za2 (gq 3 rfl)) (oc (zaf rfl rfl rfl (vq 0 rfl) zc6 (Eq.trans (b:=8) rfl rfl)) (zv rfl (za1 (vq 1 rfl)) o0)))) (fun a w hst=>?_)
  have hst:St B w0 35 [(0,_),(1,_),(5,_)] [⟨4,39,ptrH,_⟩] a w:=hst
  refine za0 ?_
  refine wp_ret ?_
  refine zad ?_
  refine zai ?_ (zbi (rs:=[.cell 4 39,.tmp 5]) rfl hst (.cell (zm 0 rfl) zc6 (.tmp (zm 2 rfl) .nil)) zd)
  rw [gapF,if_neg hc]; exact zb6
 ·have hc:tchF xs=0:=by simpa using hb0
  have hk:=tch_ok hc
  have hfb:=hfb0 hk.1 hk.2.1
  refine wp_skip ?_
  refine zt<|gl (sts:=[none]) (news:=[⟨7,39,ptrH,some 3,_,some (4,_)⟩]) (sp:=[.val 15 _,.val 16 _,.val 17 _,.alc 1,.sto 1]) [.g 2] hst (zv rfl (za2 (gq 0 rfl)) (zv rfl (za2 (gq 1 rfl)) (zv rfl (za5 (xs:=[.tmp 15,.tmp 16]) (ends_c xs hk.1 hk.2.1 hk.2.2 hask hfb) (.cons (vq 0 rfl) (.cons (vq 1 rfl) .nil))) (oc (zap rfl rfl rfl (Str.zero zd0)) (oc (zaf rfl rfl rfl (vq 2 rfl) zc6 (Eq.trans (b:=8) rfl rfl)) o0))))) (fun a w hst=>?_)
  have hst:St B w0 35 [(5,_)] [⟨4,39,ptrH,_⟩,⟨7,39,ptrH,_⟩] a w:=hst
  have hst:=St.wkL (A':=cat [QA 33562627 (loS (aF ask xs) (2^manyF xs)),QA 33562627 (hiS (aF ask xs) (2^manyF xs))]) hst 1 rfl (gp_qa hfb)
  refine zt ?_
  refine wp_seq ?_
  refine gl (sts:=[none,none]) (news:=[]) (sp:=[.adr 18 7 (.some 0) True,.val 19 _,.adr 20 7 (.some 4) True,.val 21 _,.val 22 _,.val 23 _,.val 8 _]) [.g 0,.o 6] hst (oc (ob_a rfl rfl (za7 (lz0 1 rfl) zbw)) (zv rfl (za4 0 rfl zk trivial (lz0 1 rfl) (Sub.part 0 rfl rfl) zao) (oc (ob_a rfl rfl (za7 (lz0 1 rfl) zby)) (zv rfl (za4 2 rfl zk trivial (lz0 1 rfl) (Sub.part 1 rfl rfl) zao) (zv rfl (zcx (D:=[U32]) (l:=[_,_]) (xs:=[.tmp 19,.tmp 21]) (zfq zk) zg4 zk (n_ok zk) nq nq nq (.cons (vq 1 rfl) (.cons (vq 3 rfl) .nil)) rfl rfl) (zv rfl (za5 (xs:=[.tmp 22]) (answer_q [loS (aF ask xs) (2^manyF xs),hiS (aF ask xs) (2^manyF xs)] (.cons ⟨_,rfl⟩ (.cons ⟨_,rfl⟩ .nil)) nq) (.cons (vq 4 rfl) .nil)) (zv rfl (za1 (vq 5 rfl)) o0))))))) (fun a w hst=>?_)
  have hst:St B w0 35 [(5,_),(8,_)] [⟨4,39,ptrH,_⟩,⟨7,39,ptrH,_⟩] a w:=hst
  refine zt<|gl (sts:=[none,none]) (news:=[]) (sp:=[.val 24 _,.val 25 _]) [.g 0,.g 1,.o 1] hst (zv rfl (za2 (gq 1 rfl)) (zv rfl (zdh (vq 0 rfl) za3) o0)) (fun a w hst=>?_)
  have hst:St B w0 35 [(5,_),(8,_),(25,_)] [⟨4,39,ptrH,_⟩,⟨7,39,ptrH,_⟩] a w:=hst
  refine za0 ?_
  refine za8 hst (zm 2 rfl) (fun hb1=>?_) (fun hb1=>?_)
  ·have hl:=as_yes hb1
   refine wp_seq ?_
   refine gl (sts:=[some (2,_),none]) (news:=[]) (sp:=[.val 26 _,.val 27 _,.sto 0,.val 5 _]) [.o 3] hst (zv rfl (zbb (xs:=[]) (qs:=[]) zd0 .nil) (zv rfl (za2 (gq 1 rfl)) (oc (zaf rfl rfl rfl (vq 0 rfl) zc6 (Eq.trans (b:=8) rfl rfl)) (zv rfl (za1 (vq 1 rfl)) o0)))) (fun a w hst=>?_)
   have hst:St B w0 35 [(5,_)] [⟨4,39,ptrH,_⟩,⟨7,39,ptrH,_⟩] a w:=hst
   refine za0 ?_
   refine wp_ret ?_
   refine zad ?_
   refine zai ?_ (zbi (rs:=[.cell 4 39,.tmp 5]) rfl hst (.cell (zm 0 rfl) zc6 (.tmp (zm 0 rfl) .nil)) zd)
   have e:gapF ask xs=(gp0,4):=by rw [gapF,if_pos hc,if_pos hl]
   rw [e]; exact tu2w zb6 (zbv (by rw [if_pos hl]))
  ·have hl:=as_no hb1
   refine wp_skip ?_
   refine zt<|zaz (anc:=[[],[0],[0,1],[],[3],[0,1,2,3,4],[0,1,2,3,4,5],[0,1,2,3,4,5,6],[0,1,2,3,4,5,6,7]]) (sts:=[some (7,_),none]) (news:=[]) (sp:=[.adr 28 7 (.some 0) True,.val 29 _,.val 30 _,.adr 31 7 (.some 4) True,.val 32 _,.val 33 _,.val 34 _,.sto 0,.val 5 _]) [.o 8] za6 hst (oc (ob_a rfl rfl (za7 (lz0 1 rfl) zbw)) (zv rfl (za4 0 rfl zk trivial (lz0 1 rfl) (Sub.part 0 rfl rfl) zao) (zv rfl (za5 (xs:=[.tmp 29]) (copy_q zd) (.cons (vq 1 rfl) .nil)) (oc (ob_a rfl rfl (za7 (lz0 1 rfl) zby)) (zv rfl (za4 3 rfl zk trivial (lz0 1 rfl) (Sub.part 1 rfl rfl) zao) (zv rfl (za5 (xs:=[.tmp 32]) (copy_q zd) (.cons (vq 4 rfl) .nil)) (zv rfl (zbb (xs:=[(0,.tmp 30),(1,.tmp 33)]) (qs:=[(0,_),(1,_)]) zd0 (.cons ⟨rfl,(vq 2 rfl),rfl⟩ (.cons ⟨rfl,(vq 5 rfl),rfl⟩ .nil))) (oc (zaf rfl rfl rfl (vq 6 rfl) zc6 (Eq.trans (b:=8) rfl rfl)) (zv rfl (za1 za3) o0))))))))) zk zk zk zk (fun a w hst=>?_)
   have hst:St B w0 35 [(5,_)] [⟨4,39,ptrH,_⟩,⟨7,39,ptrH,_⟩] a w:=hst
   refine za0 ?_
   refine wp_ret ?_
   refine zai ?_ (zbi (rs:=[.cell 4 39,.tmp 5]) rfl hst (.cell (zm 0 rfl) zc6 (.tmp (zm 0 rfl) .nil)) zd)
   have e:gapF ask xs=(⟨rfOf (loS (aF ask xs) (2^manyF xs)),rfOf (hiS (aF ask xs) (2^manyF xs))⟩,0):=by rw [gapF,if_pos hc,if_neg hl]
   rw [e]; exact tu2w gp_a.va zb6
theorem tTrace_c (xs:List RLo):Cn Tryz.prog 17 [(SlA 41 [U32] (xs.map LoA)).va] (GpR (gapF trQ' xs)):=by
 refine Cn.intro Tryz.func17 rfl zk nq (fun B w0 a hst=>?_)
 have hst:St B w0 8 [(0,(SlA 41 [U32] (xs.map LoA)).va)] [] a w0.w:=hst
 refine wp_seq ?_
 refine gl (sts:=[]) (news:=[⟨2,39,ptrH,some 0,_,none⟩]) (sp:=[.alc 0,.val 3 _]) [.g 0,.o 1] hst (oc (zap rfl rfl rfl (Str.zero zd0)) (zv rfl (za1 za3) o0)) (fun a w hst=>?_)
 have hst:St B w0 8 [(0,_),(3,_)] [⟨2,39,ptrH,_⟩] a w:=hst
 refine zt<|gl (sts:=[some (4,_)]) (news:=[]) (sp:=[.val 4 _,.val 5 _,.val 6 _,.val 7 _,.sto 0,.val 3 _]) [.o 5] hst (zv rfl (za2 (gq 0 rfl)) (zv rfl (za5 (xs:=[.tmp 4,.func 45]) (gap_c xs (fun _=>ttrace_q) (fun h4 hx k=>tr_b' (cnF_rep h4 hx k))) (.cons (vq 0 rfl) (.cons zgz .nil))) (zv rfl (r_ex0 (vq 1 rfl)) (zv rfl (r_ex1 (vq 1 rfl)) (oc (zaf rfl rfl rfl (vq 2 rfl) zc6 (Eq.trans (b:=8) rfl rfl)) (zv rfl (za1 (vq 3 rfl)) o0)))))) (fun a w hst=>?_)
 have hst:St B w0 8 [(3,_)] [⟨2,39,ptrH,_⟩] a w:=hst
 refine za0 ?_
 refine wp_ret ?_
 refine zai ?_ (zbi (rs:=[.cell 2 39,.tmp 3]) rfl hst (.cell (zm 0 rfl) zc6 (.tmp (zm 0 rfl) .nil)) zd)
 exact zb6
theorem St.factL {B N:Nat}{w0:Bs}{s T:Nat}{H:Hd}{A:As}{c:Prop}{Γ:List (Nat × VA)}{Λ:List Lc}{a:Act}{w:World}(h:St B w0 N Γ Λ a w)(i:Nat)(hm:Λ[i]?=some ⟨s,T,H,A.and c⟩):c:=by
 obtain ⟨g,cs,_,_,_,p⟩:=h.locs _ (List.mem_of_getElem? hm)
 exact p.1
def nsF (xs:List RLo)(k:Nat):Bool:=decide (cmQ (trsQ (prodQ (cnF xs k))) (Rat.divInt 4 1)≥0)
def allF (xs:List RLo):Bool:=(List.range (2^manyF xs)).all fun k => !nsF xs k
def allR (xs:List RLo):Bool × Int:=if tchF xs=0 then (allF xs,0) else (false,tchF xs)
theorem al_no {xs:List RLo}{k:Nat}(hk:k<2^manyF xs)(h:nsF xs k=true):allF xs=false:=by
 unfold allF
 exact List.all_eq_false.2 ⟨k,List.mem_range.2 hk,by simp [h]⟩
theorem al_yes {xs:List RLo}(h:∀ i,i<2^manyF xs→nsF xs i=false):allF xs=true:=by
 unfold allF
 exact List.all_eq_true.2 fun k hk=>by simp [h k (List.mem_range.1 hk)]
theorem all_nx3 {F:Nat→Bool}{j:Nat}(h:∀ i,i<j→F i=false)(h2:F j=false):∀ i,i<j+1→F i=false:=fun i hi=>by
 rcases Nat.lt_or_ge i j with h1 | h1
 ·exact h i h1
 ·have e:i=j:=by omega
  rw [e]; exact h2
theorem zero_err:Zero Tryz.prog 26 (NumA .i64 0):=Zero.of (z:=.int .i64 0) zk (fun _ _=>rfl)
theorem zero_boo:Zero Tryz.prog 4 (BoA false):=Zero.of (z:=.bool false) zk (fun _ _=>rfl)
set_option maxHeartbeats 1000000 in
theorem tAll_c (xs:List RLo):Cn Tryz.prog 19 [(SlA 41 [U32] (xs.map LoA)).va] (Tu [Bo (allR xs).1,In (allR xs).2]):=by
 refine Cn.introR Tryz.func19 rfl zk nq (.cons (zjb (fun A hA=>by obtain ⟨x,_,rfl⟩:=List.mem_map.1 hA; exact zke x)).va .nil) (free_tu (.cons (zek _).va (.cons (zdy _ _).va .nil))) (fun B w0 a hB0 hN0 hst=>?_)
 have hst:St B w0 28 [(0,(SlO 41 [U32] (xs.map LoA) True).va)] [] a w0.w:=hst
 refine wp_seq ?_
 refine gl (sts:=[]) (news:=[⟨2,4,ptrH,some 0,_,none⟩,⟨3,26,ptrH,some 1,_,none⟩]) (sp:=[.alc 0,.alc 1]) [.g 0] hst (oc (zap rfl rfl rfl zero_boo) (oc (zap rfl rfl rfl zero_err) o0)) (fun a w hst=>?_)
 have hst:St B w0 28 [(0,_)] [⟨2,4,ptrH,_⟩,⟨3,26,ptrH,_⟩] a w:=hst
 refine zt ?_
 refine wp_seq ?_
 refine gl (sts:=[none,none]) (news:=[]) (sp:=[.val 9 _,.val 10 _,.val 4 _]) [.g 0,.o 2] hst (zv rfl (za2 (gq 0 rfl)) (zv rfl (za5 (xs:=[.tmp 9]) ((zfb xs).wk (.cons slx .nil)) (.cons (vq 0 rfl) .nil)) (zv rfl (za1 (vq 1 rfl)) o0))) (fun a w hst=>?_)
 have hst:St B w0 28 [(0,_),(4,_)] [⟨2,4,ptrH,_⟩,⟨3,26,ptrH,_⟩] a w:=hst
 refine zt<|gl (sts:=[none,none]) (news:=[]) (sp:=[.val 11 _,.val 12 _]) [.g 0,.g 1,.o 1] hst (zv rfl (za2 (gq 1 rfl)) (zv rfl (zdh (vq 0 rfl) za3) o0)) (fun a w hst=>?_)
 have hst:St B w0 28 [(0,_),(4,_),(12,_)] [⟨2,4,ptrH,_⟩,⟨3,26,ptrH,_⟩] a w:=hst
 refine za0 ?_
 refine za8 hst (zm 2 rfl) (fun hb0=>?_) (fun hb0=>?_)
 ·have hc:¬ tchF xs=0:=by simpa using hb0
  refine wp_seq ?_
  refine gl (sts:=[some (1,_),some (2,_)]) (news:=[]) (sp:=[.val 13 _,.sto 0,.sto 1]) [.g 0] hst (zv rfl (za2 (gq 1 rfl)) (oc (zaf rfl rfl rfl zba ty_4 (Eq.trans (b:=1) rfl rfl)) (oc (zaf rfl rfl rfl (vq 0 rfl) ty_26 (Eq.trans (b:=1) rfl rfl)) o0))) (fun a w hst=>?_)
  have hst:St B w0 28 [(0,_)] [⟨2,4,ptrH,_⟩,⟨3,26,ptrH,_⟩] a w:=hst
  refine za0 ?_
  refine wp_ret ?_
  refine zad ?_
  refine zai ?_ (zbi (rs:=[.cell 2 4,.cell 3 26]) rfl hst (.cell (zm 0 rfl) ty_4 (.cell (zm 1 rfl) ty_26 .nil)) zd)
  rw [allR,if_neg hc]; exact zb6
 ·have hc:tchF xs=0:=by simpa using hb0
  have hk4:=tch_ok hc
  refine wp_skip ?_
  refine zt<|gl (sts:=[none,none]) (news:=[⟨5,37,ptrH,some 1,_,some (2,_)⟩]) (sp:=[.val 14 _,.alc 2,.sto 2]) [.g 0] hst (zv rfl (za5 (xs:=[.const (.int .i64 (4)),.const (.int .i64 (1))]) (small_q zd zd zd zd zd) (.cons za3 (.cons za3 .nil))) (oc (zap rfl rfl rfl (Str.zero zb9)) (oc (zaf rfl rfl rfl (vq 0 rfl) zao (Eq.trans (b:=4) rfl rfl)) o0))) (fun a w hst=>?_)
  have hst:St B w0 28 [(0,_)] [⟨2,4,ptrH,_⟩,⟨3,26,ptrH,_⟩,⟨5,37,ptrH,_⟩] a w:=hst
  refine zt ?_
  refine wp_seq ?_
  have hst:=St.wkL (A':=(NumA .i64 0).and (∀ i,i<(0:Nat)→nsF xs i=false)) hst 1 rfl ⟨rfl,rfl,fun _ _ _ h=>⟨fun i hi=>absurd hi (Nat.not_lt_zero _),h⟩⟩
  obtain ⟨q2,hst⟩:=St.nm hst 0 rfl
  obtain ⟨q3,hst⟩:=St.nm hst 1 rfl
  obtain ⟨q5,hst⟩:=St.nm hst 2 rfl
  refine gl (sts:=[none,none,none]) (news:=[]) (sp:=[.val 15 _,.val 16 _]) [.g 0,.g 1,.g 2,.o 1] hst (zv rfl (za2 (gq 3 rfl)) (zv rfl (r_callIt [(2,q2),(3,q3),(5,q5)] rfl (fun v hv=>corners_c hv) (vq 0 rfl) (.cons (gq 2 rfl) (lz0 0 rfl) (.cons (gq 1 rfl) (lz0 1 rfl) (.cons (gq 0 rfl) (lz0 2 rfl) .nil)))) o0)) (fun a w hst=>?_)
  have hst:St B w0 28 [(5,_),(3,_),(2,_),(16,_)] [⟨2,4,ptrH,_⟩,⟨3,26,ptrH,_⟩,⟨5,37,ptrH,_⟩] a w:=hst
  obtain ⟨gb,hst,hds⟩:=St.itn (ps:=[(2,q2),(3,q3),(5,q5)]) 3 [2,1,0] hst rfl ⟨rfl,⟨rfl,⟨rfl,trivial⟩⟩⟩
  have hdis:∀ s∈[2,3,5],∀ g,blk (a.eval (.tmp s))=some g→g ∉ gb:=hds
  refine za0 ?_
  refine wp_block ?_
  have hst:=St.selL hst [0,1,2]
  refine go_range (k0:=3) (gb:=gb) (Dd:=[U32]) (Db:=[4,26,37]) (fun k=>[⟨2,4,ptrH,BoA false⟩,⟨3,26,ptrH,(NumA .i64 0).and (∀ i,i<k→nsF xs i=false)⟩,⟨5,37,ptrH,QA 2 (Rat.divInt 4 1)⟩]) (some [⟨2,4,ptrH,(BoA false).and (allF xs=false)⟩,⟨3,26,ptrH,NumA .i64 0⟩,⟨5,37,ptrH,QA 2 (Rat.divInt 4 1)⟩]) (fun _=>none) hst hB0 hN0 rfl (zj6 xs hk4.1 hk4.2.1 hk4.2.2 gb) (M:=(2^manyF xs)) (Y:=fun k=>[In ((k:Nat):Int),(OwnC 62 9 [U32] ((cnF xs k).map REN)).va]) (fun h=>by cases h) zk [] zk (fun _=>by kernel_rfl) [2,3,5] (fun _=>by kernel_rfl) hdis (fun L hL=>by cases hL; kernel_rfl) (fun _ L hL=>by cases hL) (fun _=>rfl) zd zk (fun l k a1 Ws hk hBs hct hst=>?_) (fun a w hst=>?_) (fun L hL a w hst=>?_) (fun _ L hL=>by cases hL)
  ·obtain ⟨a0,rfl⟩:∃ x,x=a:=⟨_,rfl⟩
   have hst:St B (rndB B [4,26,37] gb Ws Ws) 28 [(17,_),(18,_),(2,_),(3,_),(5,_)] [⟨2,4,ptrH,BoA false⟩,⟨3,26,ptrH,(NumA .i64 0).and (∀ i,i<k→nsF xs i=false)⟩,⟨5,37,ptrH,QA 2 (Rat.divInt 4 1)⟩] a1 Ws:=hst
   refine zc4 (sts:=[none,none,none]) (news:=[]) (sp:=[.val 7 _]) [.g 0,.g 1,.g 2,.g 3,.g 4,.o 0] zk (zcd fun _ _ h=>h) hst (zv rfl (za1 (gq 1 rfl)) o0) zk zk zk (fun a w hst=>?_)
   have hst:St B (rndB B [4,26,37] gb Ws Ws) 28 [(17,_),(18,_),(2,_),(3,_),(5,_),(7,_)] [⟨2,4,ptrH,_⟩,⟨3,26,ptrH,_⟩,⟨5,37,ptrH,_⟩] a w:=hst
   refine za0 ?_
   refine ⟨hst.base,fun W3 hbg=>?_⟩
   have hkk:=St.factL hst 1 rfl
   have hst:=St.begin hst (Nat.le_refl _) hBs hbg
   refine wpIn_block ?_
   refine wpIn_seq ?_
   refine zc4 (sts:=[none,none,none]) (news:=[⟨8,37,ptrH,some 3,_,some (4,_)⟩]) (sp:=[.val 19 _,.val 20 _,.val 21 _,.alc 3,.sto 3]) [.g 0,.g 1,.g 2,.g 3,.g 4] zk (zcd fun _ _ h=>h) hst (zv rfl (za2 (gq 5 rfl)) (zv rfl (za5 (xs:=[.tmp 19]) (row_cn hk4.1 hk4.2.1 k) (.cons (vq 0 rfl) .nil)) (zv rfl (za5 (xs:=[.tmp 20]) ttrace_q (.cons (vq 1 rfl) .nil)) (oc (zap rfl rfl rfl (Str.zero zb9)) (oc (zaf rfl rfl rfl (vq 2 rfl) zao (Eq.trans (b:=4) rfl rfl)) o0))))) zk zk zk (fun a w hst=>?_)
   have hst:St B (rndB B [4,26,37] gb Ws W3) 28 [(17,_),(18,_),(2,_),(3,_),(5,_)] [⟨2,4,ptrH,_⟩,⟨3,26,ptrH,_⟩,⟨5,37,ptrH,_⟩,⟨8,37,ptrH,_⟩] a w:=hst
   refine za0 ?_
   refine wpIn_seq ?_
   have hst:=St.wkL hst 3 rfl (zir (tr_b' (cnF_rep hk4.1 hk4.2.1 k)))
   refine go_drawF (anc:=[[],[],[0,1],[],[0,1,2,3],[0,1,2,3,4]]) (sts:=[none,none,none,none]) (news:=[]) (sp:=[.val 22 _,.val 23 _,.val 24 _,.val 25 _,.val 26 _,.val 27 _]) [.g 0,.g 1,.g 2,.g 3,.g 4,.o 5] za6 zk (zcd fun _ _ h=>h) hst (zv rfl (zaq (lz0 3 rfl) zao) (zv rfl (zaq (lz0 3 rfl) zao) (zv rfl (za5 (xs:=[.tmp 22,.tmp 23]) (zjc zd) (.cons (vq 0 rfl) (.cons (vq 1 rfl) .nil))) (zv rfl (zaq (lz0 2 rfl) zao) (zv rfl (za5 (xs:=[.tmp 24,.tmp 25]) (cmp_q zd) (.cons (vq 2 rfl) (.cons (vq 3 rfl) .nil))) (zv rfl (zee (vq 4 rfl) za3) o0)))))) zk zk zk zk (fun a w hst=>?_)
   have hst:St B (rndB B [4,26,37] gb Ws W3) 28 [(17,_),(18,_),(2,_),(3,_),(5,_),(27,_)] [⟨2,4,ptrH,_⟩,⟨3,26,ptrH,_⟩,⟨5,37,ptrH,_⟩,⟨8,37,ptrH,_⟩] a w:=hst
   refine za0 ?_
   refine zeo hst (zm 5 rfl) (fun hb1=>?_) (fun hb1=>?_)
   ·refine wpIn_seq ?_
    refine zc4 (sts:=[some (0,_),some (1,_),none,none]) (news:=[]) (sp:=[.sto 0,.sto 1]) [.g 0,.g 1,.g 2,.g 3,.g 4] zk (zcd fun _ _ h=>h) hst (oc (zaf rfl rfl rfl zba ty_4 (Eq.trans (b:=1) rfl rfl)) (oc (zaf rfl rfl rfl za3 ty_26 (Eq.trans (b:=1) rfl rfl)) o0)) zk zk zk (fun a w hst=>?_)
    have hst:St B (rndB B [4,26,37] gb Ws W3) 28 [(17,_),(18,_),(2,_),(3,_),(5,_)] [⟨2,4,ptrH,_⟩,⟨3,26,ptrH,_⟩,⟨5,37,ptrH,_⟩,⟨8,37,ptrH,_⟩] a w:=hst
    refine za0 ?_
    refine wpIn_ret ?_
    refine zb3 ?_
    have hst:=St.wkL (A':=(BoA false).and (allF xs=false)) hst 0 rfl ⟨rfl,rfl,fun _ _ _ h=>⟨al_no hk hb1,h⟩⟩
    have hst:=St.selL hst [0,1,2]
    exact ⟨_,rfl,rend_of [2,3,4] hst ⟨rfl,⟨rfl,⟨rfl,trivial⟩⟩⟩⟩
   ·refine wpIn_skip ?_
    refine zaj ?_
    have hst:=St.wkL (A':=(NumA .i64 0).and (∀ i,i<(k+1)→nsF xs i=false)) hst 1 rfl ⟨rfl,rfl,fun _ _ _ h=>⟨all_nx3 h.1 hb1,h.2⟩⟩
    have hst:=St.selL hst [0,1,2]
    exact ⟨(fun h=>by cases h),rend_of [2,3,4] hst ⟨rfl,⟨rfl,⟨rfl,trivial⟩⟩⟩⟩
  ·have hst:St B w0 28 [] [⟨2,4,ptrH,_⟩,⟨3,26,ptrH,_⟩,⟨5,37,ptrH,_⟩] a w:=hst
   have hyes:=al_yes (St.factL hst 1 rfl)
   refine zaj ?_
   refine zt<|gl (sts:=[some (0,_),some (1,_),none]) (news:=[]) (sp:=[.sto 0,.sto 1]) [] hst (oc (zaf rfl rfl rfl zba ty_4 (Eq.trans (b:=1) rfl rfl)) (oc (zaf rfl rfl rfl za3 ty_26 (Eq.trans (b:=1) rfl rfl)) o0)) (fun a w hst=>?_)
   have hst:St B w0 28 [] [⟨2,4,ptrH,_⟩,⟨3,26,ptrH,_⟩,⟨5,37,ptrH,_⟩] a w:=hst
   refine za0 ?_
   refine wp_ret ?_
   refine zai ?_ (zbi (rs:=[.cell 2 4,.cell 3 26]) rfl hst (.cell (zm 0 rfl) ty_4 (.cell (zm 1 rfl) ty_26 .nil)) zd)
   rw [allR,if_pos hc,hyes]; exact zb6
  ·cases hL
   have hst:St B w0 28 [] [⟨2,4,ptrH,_⟩,⟨3,26,ptrH,_⟩,⟨5,37,ptrH,_⟩] a w:=hst
   have hno:=St.factL hst 0 rfl
   refine zb3 ?_
   refine zad ?_
   refine zai ?_ (zbi (rs:=[.cell 2 4,.cell 3 26]) rfl hst (.cell (zm 0 rfl) ty_4 (.cell (zm 1 rfl) ty_26 .nil)) zd)
   rw [allR,if_pos hc,hno]; exact tu2w (fun _ _ _ h=>(zds h).2) zb6
end Go.Proofs.YtlpppkkggljdcaaGreat
