import Derived.Test.YtlpppkkggljdcaaGreatTwAa
import Derived.Test.YtlpppkkggljdcaaGreatTwAc
import Derived.Test.YtlpppkkggljdcaaGreatTwAq
import Derived.Test.YtlpppkkggljdcaaGreatTwAt
set_option linter.unusedVariables false
set_option linter.unusedSimpArgs false
set_option linter.unusedSectionVars false
set_option maxRecDepth 100000
namespace Go.Proofs.YtlpppkkggljdcaaGreat
open Go Go.RowKit
def GnA (x:RGp):As:=cat [RFN x.lo,RFN x.hi]
theorem rfn0_p (B:Nat)(w:World):(RFN rf0).p B [.bool false,.slice none 0 0,.bool false,.slice none 0 0] w:=⟨[[.bool false,.slice none 0 0],[.bool false,.slice none 0 0]],rfl,.cons ⟨[[.bool false],[.slice none 0 0]],rfl,.cons rfl (.cons ⟨(fun x hx=>by cases hx),.inl ⟨rfl,rfl⟩⟩ .nil)⟩ (.cons ⟨[[.bool false],[.slice none 0 0]],rfl,.cons rfl (.cons ⟨(fun x hx=>by cases hx),.inl ⟨rfl,rfl⟩⟩ .nil)⟩ .nil)⟩
theorem zero_gpn:Zero Tryz.prog 39 (GnA gp0):=Zero.of (z:=.agg #[.bool false,.slice none 0 0,.bool false,.slice none 0 0,.bool false,.slice none 0 0,.bool false,.slice none 0 0]) zk (fun B w=>⟨[[.bool false,.slice none 0 0,.bool false,.slice none 0 0],[.bool false,.slice none 0 0,.bool false,.slice none 0 0]],rfl,.cons (rfn0_p B w) (.cons (rfn0_p B w) .nil)⟩)
theorem free_gn (x:RGp):FreeA (GnA x) (GpA x):=zct (.cons (zfs _) (.cons (zfs _) .nil))
theorem wkA_rfN {x:RF}:WkA (RFN x) (RFA x):=⟨rfl,rfl,fun B cs w h=>(zfs x).2.2 B B cs w (Nat.le_refl _) h⟩
theorem zh3 {k:Nat}{q:Rat}(h:bQ k q):WkA (RFN (rfOf q)) (QA k q):=wkA_rfN.trans (zg7 h.1 h.2)
def loS (f:Nat→Rat):Nat→Rat
 | 0=>0
 | k+1=>if ((((k:Nat):Int)==0) || decide (cmQ (f k) (loS f k)<0))=true then f k else loS f k
def hiS (f:Nat→Rat):Nat→Rat
 | 0=>0
 | k+1=>if ((((k:Nat):Int)==0) || decide (cmQ (f k) (hiS f k)>0))=true then f k else hiS f k
def gpS (f:Nat→Rat)(k:Nat):RGp:=if k=0 then gp0 else ⟨rfOf (loS f k),rfOf (hiS f k)⟩
theorem lo_b {f:Nat→Rat}{b:Nat}(hb:1≤b)(h:∀ k,bQ b (f k)):∀ k,bQ b (loS f k)
 | 0=>⟨Nat.le_trans nq hb,Nat.le_trans nq hb⟩
 | k+1=>by
  unfold loS
  split
  ·exact h k
  ·exact lo_b hb h k
theorem hi_b {f:Nat→Rat}{b:Nat}(hb:1≤b)(h:∀ k,bQ b (f k)):∀ k,bQ b (hiS f k)
 | 0=>⟨Nat.le_trans nq hb,Nat.le_trans nq hb⟩
 | k+1=>by
  unfold hiS
  split
  ·exact h k
  ·exact hi_b hb h k
theorem k_ne {k:Nat}(h:(((k:Nat):Int)==0)=false):k≠0:=fun e=>by subst e; exact absurd h zd
theorem gp_lo {f:Nat→Rat}{k:Nat}(h:(((k:Nat):Int)==0)=false):(gpS f k).lo=rfOf (loS f k):=by unfold gpS; rw [if_neg (k_ne h)]
theorem gp_hi {f:Nat→Rat}{k:Nat}(h:(((k:Nat):Int)==0)=false):(gpS f k).hi=rfOf (hiS f k):=by unfold gpS; rw [if_neg (k_ne h)]
theorem gp_lo1 {f:Nat→Rat}{k:Nat}:(gpS f (k+1)).lo=rfOf (loS f (k+1)):=rfl
theorem gp_hi1 {f:Nat→Rat}{k:Nat}:(gpS f (k+1)).hi=rfOf (hiS f (k+1)):=rfl
theorem lo_t {f:Nat→Rat}{k:Nat}(h:((((k:Nat):Int)==0) || decide (cmQ (f k) (loS f k)<0))=true):rfOf (f k)=(gpS f (k+1)).lo:=by rw [gp_lo1,loS,if_pos h]
theorem lo_f {f:Nat→Rat}{k:Nat}(h:((((k:Nat):Int)==0) || decide (cmQ (f k) (loS f k)<0))=false):(gpS f k).lo=(gpS f (k+1)).lo:=by
 have h0:(((k:Nat):Int)==0)=false:=(Bool.or_eq_false_iff.1 h).1
 rw [gp_lo1,gp_lo h0,loS,if_neg (by rw [h]; decide)]
theorem hi_t {f:Nat→Rat}{k:Nat}(h:((((k:Nat):Int)==0) || decide (cmQ (f k) (hiS f k)>0))=true):rfOf (f k)=(gpS f (k+1)).hi:=by rw [gp_hi1,hiS,if_pos h]
theorem hi_f {f:Nat→Rat}{k:Nat}(h:((((k:Nat):Int)==0) || decide (cmQ (f k) (hiS f k)>0))=false):(gpS f k).hi=(gpS f (k+1)).hi:=by
 have h0:(((k:Nat):Int)==0)=false:=(Bool.or_eq_false_iff.1 h).1
 rw [gp_hi1,gp_hi h0,hiS,if_neg (by rw [h]; decide)]
theorem cmp_lo {f:Nat→Rat}{k:Nat}(hf:∀ k,bQ 33562627 (f k))(h:(((k:Nat):Int)==0)=false):Cn Tryz.prog 50 [(RFN (rfOf (f k))).va,(RFN (gpS f k).lo).va] (In (cmQ (f k) (loS f k))):=by
 rw [gp_lo h]
 exact (cmp_q (c:=33562627) (d:=33562627) zd).wk (.cons (zh3 (hf k)).va (.cons (zh3 (lo_b zd hf k)).va .nil))
theorem cmp_hi {f:Nat→Rat}{k:Nat}(hf:∀ k,bQ 33562627 (f k))(h:(((k:Nat):Int)==0)=false):Cn Tryz.prog 50 [(RFN (rfOf (f k))).va,(RFN (gpS f k).hi).va] (In (cmQ (f k) (hiS f k))):=by
 rw [gp_hi h]
 exact (cmp_q (c:=33562627) (d:=33562627) zd).wk (.cons (zh3 (hf k)).va (.cons (zh3 (hi_b zd hf k)).va .nil))
theorem copy_fn {x:Rat}(h:bQ 33562627 x):Cn Tryz.prog 81 [(RFN (rfOf x)).va] (RFN (rfOf x)).va :=
 ((copyD_q (c:=33562627) zd).wk (.cons (zh3 h).va .nil)).wkp qd_rfn.va
theorem wk_renA {xs:List RE}:Wk (OwnC 62 9 [U32] (xs.map REN)).va (SlA 62 [U32] (xs.map REA)).va:=fun B v w h =>
 free_own (zit free_reN xs) (fun A hA=>by obtain ⟨x,_,rfl⟩:=List.mem_map.1 hA; exact zdu (l:=[REA x]) zk _ (by simp)) B B v w (Nat.le_refl _) h
theorem cmp_le {x y:Rat}:cmQ x y≤0↔x≤y:=by
 unfold cmQ
 split
 ·rename_i h; exact ⟨fun _=>by grind,fun _=>by decide⟩
 ·split
  ·rename_i h1 h2; exact ⟨fun h=>absurd h zd,fun h=>by grind⟩
  ·exact ⟨fun _=>by grind,fun _=>by decide⟩
theorem may_le {g:RGp}(h:mayG g=true):toQ g.lo≤toQ g.hi:=by
 unfold mayG at h
 rw [Bool.and_eq_true] at h
 exact cmp_le.1 (of_decide_eq_true h.2)
theorem lo_el {x:RLo}(h:loF x=true):elF ⟨x.k,x.p.lo,x.q.lo⟩=true∧elF ⟨x.k,x.p.hi,x.q.hi⟩=true∧mayG x.p=true∧mayG x.q=true:=by
 unfold loF at h
 rw [Bool.and_eq_true,Bool.and_eq_true,beq_iff_eq] at h
 have h2:=(ch_ok h.2).2
 simp only [List.all_cons,List.all_nil,Bool.and_true,Bool.and_eq_true] at h2
 exact ⟨h2.1,h2.2,h.1.1,h.1.2⟩
theorem zie (q:Rat):(0<q.num.sign↔0<q)∧(0≤q.num.sign↔0≤q)∧(q.num.sign=0↔q=0):=by
 have h0:0≤q.num↔0≤q:=Rat.num_nonneg
 have h1:q.num=0↔q=0:=Rat.num_eq_zero
 have h2:(0:Int)<q.num↔0<q:=by
  constructor
  ·intro h
   have a:=h0.1 zo
   have b:q≠0:=fun e=>by have:=h1.2 e; omega
   grind
  ·intro h
   have a:=h0.2 (by grind)
   have b:q.num≠0:=fun e=>by have:=h1.1 e; grind
   omega
 refine ⟨?_,?_,?_⟩
 ·rw [← h2]
  constructor
  ·intro h
   rcases Int.lt_trichotomy q.num 0 with hh | hh | hh
   ·rw [Int.sign_eq_neg_one_of_neg hh] at h; exact absurd h zd
   ·rw [hh] at h; exact absurd h zd
   ·exact hh
  ·intro h
   rw [Int.sign_eq_one_of_pos h]; decide
 ·rw [← h0]
  constructor
  ·intro h
   rcases Int.lt_trichotomy q.num 0 with hh | hh | hh
   ·rw [Int.sign_eq_neg_one_of_neg hh] at h; exact absurd h zd
   ·omega
   ·omega
  ·intro h
   rcases Int.lt_trichotomy q.num 0 with hh | hh | hh
   ·omega
   ·rw [hh]; decide
   ·rw [Int.sign_eq_one_of_pos hh]; decide
 ·rw [← h1,Int.sign_eq_zero_iff_zero]
def kOk (k:Int)(p q:Rat):Prop:=(k=1∧0≤p∧q=0)∨(k=2∧q=0)∨(k=3∧0≤p∧0<q)∨k=4∨(k=5∧p=0∧q=0)
theorem elK_iff {k:Int}{p q:Rat}:elK k p.num.sign q.num.sign=true↔kOk k p q:=by
 have hp:=zie p
 have hq:=zie q
 unfold kOk
 rw [← hp.2.1,← hp.2.2,← hq.1,← hq.2.2]
 by_cases h1:k=1
 ·subst h1
  rw [kd1 (by rfl)]
  simp
 ·by_cases h2:k=2
  ·subst h2
   rw [kd2 (by rfl) (by rfl)]
   simp
  ·by_cases h3:k=3
   ·subst h3
    rw [kd3 (by rfl) (by rfl) (by rfl)]
    simp
   ·by_cases h4:k=4
    ·subst h4
     rw [kd4 (by rfl) (by rfl) (by rfl) (by rfl)]
     simp
    ·rw [kd5 (by simpa using h1) (by simpa using h2) (by simpa using h3) (by simpa using h4)]
     simp [h1,h2,h3,h4,and_assoc]
theorem elF_iff {x:RE}:elF x=true↔okX x.p=true∧okX x.q=true∧kOk x.k (toQ x.p) (toQ x.q):=by
 unfold elF
 simp only [List.all_cons,List.all_nil,Bool.and_true,Bool.and_eq_true,elK_iff,and_assoc]
theorem k_mid {k:Int}{p0 p1 q0 q1 p q:Rat}(h0:kOk k p0 q0)(h1:kOk k p1 q1)(hp:p0≤p∧p≤p1)(hq:q0≤q∧q≤q1):kOk k p q:=by
 unfold kOk at *
 rcases h0 with ⟨e,a,b⟩ | ⟨e,a⟩ | ⟨e,a,b⟩ | e | ⟨e,a,b⟩
 ·rcases h1 with ⟨_,c,d⟩ | ⟨e2,_⟩ | ⟨e2,_⟩ | e2 | ⟨e2,_⟩
  ·exact .inl ⟨e,by grind,by grind⟩
  all_goals omega
 ·rcases h1 with ⟨e2,_⟩ | ⟨e2,d⟩ | ⟨e2,_⟩ | e2 | ⟨e2,_⟩
  ·omega
  ·exact .inr (.inl ⟨e,by grind⟩)
  all_goals omega
 ·exact .inr (.inr (.inl ⟨e,by grind,by grind⟩))
 ·exact .inr (.inr (.inr (.inl e)))
 ·rcases h1 with ⟨e2,_⟩ | ⟨e2,_⟩ | ⟨e2,_⟩ | e2 | ⟨e2,c,d⟩
  ·omega
  ·omega
  ·omega
  ·omega
  ·exact .inr (.inr (.inr (.inr ⟨e,by grind,by grind⟩)))
theorem el_mid {x:RLo}{p q:RF}(h:loF x=true)(hp:okX p=true)(hq:okX q=true)(bp:toQ x.p.lo≤toQ p∧toQ p≤toQ x.p.hi)(bq:toQ x.q.lo≤toQ q∧toQ q≤toQ x.q.hi):elF ⟨x.k,p,q⟩=true:=by
 obtain ⟨h1,h2,_,_⟩:=lo_el h
 exact elF_iff.2 ⟨hp,hq,k_mid (elF_iff.1 h1).2.2 (elF_iff.1 h2).2.2 bp bq⟩
theorem end_ok {g:RGp}(h:mayG g=true)(c:Nat):okX (endF g c).1=true∧toQ g.lo≤toQ (endF g c).1∧toQ (endF g c).1≤toQ g.hi:=by
 have h2:=ok_2 (zjy h)
 have hl:=may_le h
 unfold endF
 split
 ·exact ⟨h2.1,by grind,hl⟩
 ·split
  ·exact ⟨h2.2,hl,by grind⟩
  ·exact ⟨h2.1,by grind,hl⟩
theorem cst_ok {x:RLo}(h:loF x=true)(c:Nat):elF (cst x c).1=true:=by
 obtain ⟨_,_,hp,hq⟩:=lo_el h
 have a:=end_ok hp c
 have b:=end_ok hq (endF x.p c).2
 exact el_mid h a.1 b.1 a.2 b.2
theorem cnS_ok:∀ (xs:List RLo) (s:List RE × Nat),xs.all loF=true→s.1.all elF=true→(cnS s xs).1.all elF=true
 | [],s,_,h=>h
 | x::xs,s,h,hs=>by
  rw [List.all_cons,Bool.and_eq_true] at h
  exact cnS_ok xs _ h.2 (by rw [List.all_append,hs]; simp [cst_ok h.1])
theorem cnF_ok {xs:List RLo}(h:xs.all loF=true)(c:Nat):(cnF xs c).all elF=true:=cnS_ok xs _ h rfl
theorem cnF_len (xs:List RLo)(c:Nat):(cnF xs c).length=xs.length:=by unfold cnF; rw [cnS_len]; simp
theorem cnF_rep {xs:List RLo}(h4:xs.length≤4096)(h:xs.all loF=true)(c:Nat):RepM 16781313 (prodQ (cnF xs c)):=by
 have:=zim (cnF_ok h c) (cnF xs c).length (Nat.le_refl _)
 rw [List.take_length] at this
 exact zc5 this (by rw [cnF_len]; omega)
def trQ' (m:MQ):Rat:=m.a+m.d
def pwQ' (m:MQ):Rat := -m.c
theorem tr_b' {m:MQ}(h:RepM 16781313 m):bQ 33562627 (trQ' m):=by
 obtain ⟨a,_,_,d⟩:=rep_bQ h
 exact bQ_add a d
end Go.Proofs.YtlpppkkggljdcaaGreat
