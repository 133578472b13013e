import Derived.Test.YtlpppkkggljdcaaGreatTnAa
import Derived.Test.YtlpppkkggljdcaaGreatTnAc
import Derived.Test.YtlpppkkggljdcaaGreatTnAm
import Derived.Test.YtlpppkkggljdcaaGreatTnAn
import Derived.Test.YtlpppkkggljdcaaGreatTnAo
import Derived.Test.YtlpppkkggljdcaaGreatTnAq
import Derived.Test.YtlpppkkggljdcaaGreatTnAu
set_option linter.unusedVariables false
set_option linter.unusedSimpArgs false
set_option linter.unusedSectionVars false
set_option maxRecDepth 100000
namespace Go.Proofs.YtlpppkkggljdcaaGreat
open Go Go.RowKit
section
variable {P:Program} {R:Rg} {Q:Exit→Act→World→Prop} {B i:Nat} {w0:Bs}
theorem a_elmM {b t k n c m:Nat}{T S E:TypeId}{A:As}{y:Operand}{kd:IntKind}(j:Nat)(hj:R.sp[j]?=some (.adr t b .none True))(hji:(R.anc i).contains j=true)(hl:LocH R i b T (slH n c) A)(hS:Sl P S E m)(hy:Has R B w0 i y (NumA kd k).va)(hk:k<n)(hm:m≠0) :
  Ad P Q R B w0 i (.indexAddr S (.tmp t) y) b (.some (k*m)):=by
 intro d ty ps af gd a w av K hK
 obtain ⟨g,cs,h1,_⟩:=hl.ok av
 have h2:=av.d j t b .none True hji hj trivial
 have h3:a.eval (.tmp t)=.slice (some ⟨g,0,none⟩) n c:=h2.trans h1
 have e:=zbc (hy a w av)
 obtain ⟨hs1,hs2⟩:=hS
 rw [h1] at hK
 refine zbn (w':=w) (v:=.pointer (some ⟨g,k*m,none⟩)) ?_ (by simpa [slH,offP,add0] using hK)
 cases hi:P.info? E with
 | none=>rw [hi] at hs2; simp at hs2
 | some it =>
  rw [hi] at hs2
  have hsz:it.size=m:=by simpa using hs2
  by_cases h0:k=0
  ·subst h0; simp [execOp,h3,e,Instr.indexAt,asIntOf,run_underlying hs1,hk,sizeOf,typeInfo,hi,Addr.add]
  ·have:k*m≠0:=Nat.mul_ne_zero h0 hm
   simp [execOp,h3,e,Instr.indexAt,asIntOf,run_underlying hs1,hk,sizeOf,typeInfo,hi,hsz,Addr.add,h0,hm]
   try exact this
theorem a_fldE {b t k1 n c m:Nat}{T' T:TypeId}{f k:Nat}{A:As}(j:Nat)(hj:R.sp[j]?=some (.adr t b (.some k1) True))(hji:(R.anc i).contains j=true)(hl:LocH R i b T' (slH n c) A)(hf:Fld P T f k m):Ad P Q R B w0 i (.fieldAddr T (.tmp t) f) b (.some (k1+k)):=by
 intro d ty ps af gd a w av K hK
 obtain ⟨g,cs,h1,_⟩:=hl.ok av
 have h2:=av.d j t b (.some k1) True hji hj trivial
 rw [h1] at h2
 have h2':a.eval (.tmp t)=.pointer (some ⟨g,k1,none⟩):=by rw [h2]; simp [slH,offP,add0]
 refine zbn (w':=w) (v:=.pointer (some ⟨g,k1+k,none⟩)) ?_ ?_
 ·simp [execOp,h2',zds hf g k1 w]
 ·rw [h1] at hK
  simpa [slH,offP,add0] using hK
theorem ziv {t b n c:Nat}{E:TypeId}{D:List TypeId}{l:List As}(j:Nat)(hj:R.sp[j]?=some (.adr t b .none True))(hji:(R.anc i).contains j=true)(hl:LocH R i b E (slH n c) (cat l))(h:n=l.length∧n≤c∧c≤maxLen∧(l.all fun A=>A.deps.all fun T=>D.contains T)=true):Has R B w0 i (.tmp t) (SlA E D l).va:=fun a w av=>by
 obtain ⟨g,cs,h1,_,h3,h4⟩:=hl.ok av
 have h2:=av.d j t b .none True hji hj trivial
 obtain ⟨hn,hc,hm,hd⟩:=h
 refine ⟨[.slice (some ⟨g,0,none⟩) n c],⟨fun A hA T hT=>?_,some ⟨g,0,none⟩,c,cs,by simp [hn],by simpa [hn] using hc,hm,h4,fun _=>⟨g,0,rfl,(Array.getElem?_eq_some_iff.1 h3).1,.inr ⟨_,_,h3⟩,fun j v hv=>?_⟩⟩,h2.trans h1⟩
 ·have:=List.all_eq_true.1 (List.all_eq_true.1 hd A hA) T hT
  simpa using this
 ·rw [Nat.zero_add,cell_of_row w g j cs.toArray E _ h3]
  simpa using hv
end
theorem St.ofLoc {B N:Nat}{w0:Bs}{Γ:List (Nat × VA)}{Λ:List Lc}{a:Act}{w:World}(h:St B w0 N Γ Λ a w){s n c:Nat}{E:TypeId}{D:List TypeId}{l:List As}(k:Nat)(hm:Λ[k]?=some ⟨s,E,slH n c,cat l⟩)(hx:n=l.length∧n≤c∧c≤maxLen∧(l.all fun A=>A.deps.all fun T=>D.contains T)=true) :
  St B w0 N ((s,(SlA E D l).va)::Γ) (Λ.eraseIdx k) a w:=by
 have hsub:∀ l'∈Λ.eraseIdx k,l'∈Λ:=fun l' hl'=>List.mem_of_mem_eraseIdx hl'
 refine ⟨h.lo,h.defers,h.size,h.base,fun x hx'=>?_,fun l' hl'=>h.locs l' (hsub l' hl'),fun l1 h1 l2 h2 hne=>h.dis l1 (hsub l1 h1) l2 (hsub l2 h2) hne⟩
 rcases List.mem_cons.1 hx' with rfl | hx'
 ·obtain ⟨g,cs,h1,_,h3,h4⟩:=h.locs _ (List.mem_of_getElem? hm)
  obtain ⟨hn,hc,hmx,hd⟩:=hx
  refine ⟨[.slice (some ⟨g,0,none⟩) n c],⟨fun A hA T hT=>?_,some ⟨g,0,none⟩,c,cs,by simp [hn],by simpa [hn] using hc,hmx,h4,fun _=>⟨g,0,rfl,(Array.getElem?_eq_some_iff.1 h3).1,.inr ⟨_,_,h3⟩,fun j v hv=>?_⟩⟩,h1⟩
  ·have:=List.all_eq_true.1 (List.all_eq_true.1 hd A hA) T hT
   simpa using this
  ·rw [Nat.zero_add,cell_of_row w g j cs.toArray E _ h3]
   simpa using hv
 ·exact h.vals x hx'
theorem Put.head {A A' A1:As}{l:List As}{k:Nat}(h:Put A k A' A1):Put (cat (A::l)) k A' (cat (A1::l)):=by
 intro B cs c w hcs hc
 obtain ⟨ps,rfl,h2⟩:=hcs
 cases h2 with
 | @cons _ c0 _ bs hh ht =>
  obtain ⟨h3,h4⟩:=h B c0 c w hh hc
  have lc:=A'.len _ _ _ hc
  refine ⟨by simp; omega,splice c0 k c::bs,?_,.cons h4 ht⟩
  simp only [splice,List.flatten_cons]
  rw [List.take_append_of_le_length zo,List.drop_append_of_le_length zo]
  simp [List.append_assoc]
abbrev r1 (p:Int):RF:=rfOf (Rat.divInt p 1)
abbrev g1 (p q:Int):RGp:=⟨r1 p,r1 q⟩
abbrev al2 (p q:Int):List RLo:=[⟨2,g1 p q,g1 0 0⟩,⟨1,g1 1 1,g1 0 0⟩]
theorem zff {p:Int}(hp : -9223372036854775808≤p)(hp1:p<9223372036854775808):Cn Tryz.prog 41 [In p] ((RFA (r1 p)).va):=by
 refine Cn.intro Tryz.func41 rfl zk nq (fun B w0 a hst=>?_)
 have hst:St B w0 11 [(0,In p)] [] a w0.w:=hst
 refine wp_seq ?_
 refine gl (sts:=[]) (news:=[⟨2,37,ptrH,some 0,_,none⟩]) (sp:=[.alc 0]) [.g 0] hst (oc (zaf rfl rfl rfl (Str.zero zaq)) o0) (fun a w hst=>?_)
 have hst:St B w0 11 [(0,_)] [⟨2,37,ptrH,_⟩] a w:=hst
 refine zt<|gl (sts:=[none]) (news:=[⟨3,37,ptrH,some 5,_,some (6,_)⟩]) (sp:=[.val 6 _,.val 7 _,.val 5 _,.val 8 _,.val 9 _,.alc 1,.sto 1,.val 4 _]) [] hst (zv rfl (za1 (gq 0 rfl)) (zv rfl (za5 (xs:=[.tmp 6,.const (.int .i64 (1))]) (ofQ_c hp hp1 zd zd zd) (.cons (vq 0 rfl) (.cons za3 .nil))) (zv rfl (za1 (vq 1 rfl)) (zv rfl (zd8 (vq 2 rfl)) (zv rfl (zd7 (vq 2 rfl)) (oc (zaf rfl rfl rfl (Str.zero zaq)) (oc (za7 rfl rfl rfl (vq 3 rfl) zaa (Eq.trans (b:=4) rfl rfl)) (zv rfl (za2 (vq 4 rfl)) o0)))))))) (fun a w hst=>?_)
 have hst:St B w0 11 [] [⟨2,37,ptrH,_⟩,⟨3,37,ptrH,_⟩] a w:=hst
 refine zt<|gl (sts:=[some (1,_),none]) (news:=[]) (sp:=[.val 10 _,.sto 0]) [] hst (zv rfl (zac (lz0 1 rfl) zaa) (oc (za7 rfl rfl rfl (vq 0 rfl) zaa (Eq.trans (b:=4) rfl rfl)) o0)) (fun a w hst=>?_)
 have hst:St B w0 11 [] [⟨2,37,ptrH,_⟩,⟨3,37,ptrH,_⟩] a w:=hst
 refine za0 ?_
 refine wp_ret ?_
 refine zah ?_ (zao rfl hst (zm 0 rfl) zaa)
 exact zb1
theorem zet {p q:Int}(hp : -9223372036854775808≤p)(hp1:p<9223372036854775808)(hq : -9223372036854775808≤q)(hq1:q<9223372036854775808):Cn Tryz.prog 40 [In p,In q] ((GpA (g1 p q)).va):=by
 refine Cn.intro Tryz.func40 rfl zk nq (fun B w0 a hst=>?_)
 have hst:St B w0 10 [(0,In p),(1,In q)] [] a w0.w:=hst
 refine wp_seq ?_
 refine gl (sts:=[]) (news:=[⟨4,39,ptrH,some 0,_,none⟩]) (sp:=[.alc 0]) [.g 0,.g 1] hst (oc (zaf rfl rfl rfl (Str.zero zc3)) o0) (fun a w hst=>?_)
 have hst:St B w0 10 [(0,_),(1,_)] [⟨4,39,ptrH,_⟩] a w:=hst
 refine zt<|gl (sts:=[some (5,_)]) (news:=[]) (sp:=[.val 5 _,.val 6 _,.val 7 _,.val 8 _,.val 9 _,.sto 0]) [] hst (zv rfl (za1 (gq 0 rfl)) (zv rfl (za5 (xs:=[.tmp 5]) (zff hp hp1) (.cons (vq 0 rfl) .nil)) (zv rfl (za1 (gq 1 rfl)) (zv rfl (za5 (xs:=[.tmp 7]) (zff hq hq1) (.cons (vq 2 rfl) .nil)) (zv rfl (zb7 (xs:=[(0,.tmp 6),(1,.tmp 8)]) (qs:=[(0,_),(1,_)]) zc3 (.cons ⟨rfl,(vq 1 rfl),rfl⟩ (.cons ⟨rfl,(vq 3 rfl),rfl⟩ .nil))) (oc (za7 rfl rfl rfl (vq 4 rfl) zbl (Eq.trans (b:=8) rfl rfl)) o0)))))) (fun a w hst=>?_)
 have hst:St B w0 10 [] [⟨4,39,ptrH,_⟩] a w:=hst
 refine za0 ?_
 refine wp_ret ?_
 refine zah ?_ (zao rfl hst (zm 0 rfl) zbl)
 exact zb1
set_option maxHeartbeats 4000000 in
theorem zkb  : Cn Tryz.prog 13 [] (Bo true):=by
 refine Cn.intro Tryz.func13 rfl zk nq (fun B w0 a hst=>?_)
 have hst:St B w0 72 [] [] a w0.w:=hst
 refine wp_seq ?_
 refine gl (sts:=[]) (news:=[]) (sp:=[.val 0 _]) [.o 0] hst (zv rfl (za2 zbm) o0) (fun a w hst=>?_)
 have hst:St B w0 72 [(0,_)] [] a w:=hst
 refine zt<|gl (sts:=[]) (news:=[]) (sp:=[.val 8 _,.val 9 _,.val 10 _,.val 11 _,.val 12 _,.val 13 _,.val 14 _,.val 1 _]) [.g 0,.o 7] hst (zv rfl (za5 (xs:=[.const (.int .i64 (1)),.const (.int .i64 (3))]) (zet zd zd zd zd) (.cons za3 (.cons za3 .nil))) (zv rfl (za5 (xs:=[.const (.int .i64 (0)),.const (.int .i64 (0))]) (zet zd zd zd zd) (.cons za3 (.cons za3 .nil))) (zv rfl (zb7 (xs:=[(0,.const (.int .u8 (2))),(1,.tmp 8),(2,.tmp 9)]) (qs:=[(0,_),(1,_),(2,_)]) zdo (.cons ⟨rfl,za3,rfl⟩ (.cons ⟨rfl,(vq 0 rfl),rfl⟩ (.cons ⟨rfl,(vq 1 rfl),rfl⟩ .nil)))) (zv rfl (za5 (xs:=[.const (.int .i64 (1)),.const (.int .i64 (1))]) (zet zd zd zd zd) (.cons za3 (.cons za3 .nil))) (zv rfl (za5 (xs:=[.const (.int .i64 (0)),.const (.int .i64 (0))]) (zet zd zd zd zd) (.cons za3 (.cons za3 .nil))) (zv rfl (zb7 (xs:=[(0,.const (.int .u8 (1))),(1,.tmp 11),(2,.tmp 12)]) (qs:=[(0,_),(1,_),(2,_)]) zdo (.cons ⟨rfl,za3,rfl⟩ (.cons ⟨rfl,(vq 3 rfl),rfl⟩ (.cons ⟨rfl,(vq 4 rfl),rfl⟩ .nil)))) (zv rfl (r_sliceN (l:=[_,_]) (xs:=[.tmp 10,.tmp 13]) zf4 zk (n_ok zk) nq nq nq (.cons (vq 2 rfl) (.cons (vq 5 rfl) .nil)) rfl rfl) (zv rfl (za2 (vq 6 rfl)) o0)))))))) (fun a w hst=>?_)
 have hst:St B w0 72 [(0,_),(1,_)] [] a w:=hst
 have hst:=St.toLoc hst 1 rfl zk
 have hst:St B w0 72 [(0,_)] [⟨1,41,slH 2 2,_⟩] a w:=hst
 refine zt<|gl (sts:=[none]) (news:=[⟨2,39,ptrH,some 5,_,some (6,_)⟩]) (sp:=[.adr 16 1 .none True,.val 17 _,.val 15 _,.val 18 _,.val 19 _,.alc 1,.sto 1,.val 3 _]) [.g 0,.o 7] hst (oc (ob_a rfl rfl zco) (zv rfl (za5 (xs:=[.tmp 16]) (tTrace_c (al2 1 3)) (.cons (ziv 0 rfl zk (lz0 0 rfl) ⟨rfl,by decide,by decide,by kernel_rfl⟩) .nil)) (zv rfl (za1 (vq 1 rfl)) (zv rfl (zd8 (vq 2 rfl)) (zv rfl (zd7 (vq 2 rfl)) (oc (zaf rfl rfl rfl (Str.zero zc3)) (oc (za7 rfl rfl rfl (vq 3 rfl) zbl (Eq.trans (b:=8) rfl rfl)) (zv rfl (za2 (vq 4 rfl)) o0)))))))) (fun a w hst=>?_)
 have hst:St B w0 72 [(0,_),(3,_)] [⟨1,41,slH 2 2,_⟩,⟨2,39,ptrH,_⟩] a w:=hst
 refine zt<|gl (sts:=[none,none]) (news:=[]) (sp:=[.adr 21 1 .none True,.val 22 _,.val 20 _,.val 23 _,.val 24 _,.val 4 _,.val 5 _]) [.g 0,.g 1,.o 5,.o 6] hst (oc (ob_a rfl rfl zco) (zv rfl (za5 (xs:=[.tmp 21]) (tAll_c (al2 1 3)) (.cons (ziv 0 rfl zk (lz0 0 rfl) ⟨rfl,by decide,by decide,by kernel_rfl⟩) .nil)) (zv rfl (za1 (vq 1 rfl)) (zv rfl (zd8 (vq 2 rfl)) (zv rfl (zd7 (vq 2 rfl)) (zv rfl (za2 (vq 3 rfl)) (zv rfl (za2 (vq 4 rfl)) o0))))))) (fun a w hst=>?_)
 have hst:St B w0 72 [(0,_),(3,_),(4,_),(5,_)] [⟨1,41,slH 2 2,_⟩,⟨2,39,ptrH,_⟩] a w:=hst
 refine zt<|gl (sts:=[some (4,_),none]) (news:=[]) (sp:=[.adr 25 1 .none True,.val 26 _,.adr 27 1 (.some 0) True,.adr 28 1 (.some 1) True,.sto 0]) [.g 0,.g 1,.g 2,.g 3] hst (oc (ob_a rfl rfl zco) (zv rfl (za5 (xs:=[.const (.int .i64 (1)),.const (.int .i64 (5))]) (zet zd zd zd zd) (.cons za3 (.cons za3 .nil))) (oc (ob_a rfl rfl (a_elmM (k:=0) 0 rfl zk (lz0 0 rfl) zf4 (zax 0 rfl) zd zd)) (oc (ob_a rfl rfl (a_fldE 2 rfl zk (lz0 0 rfl) zcf)) (oc (zch 3 rfl rfl rfl rfl zk (fun _=>zc5 _ _ _ _) (vq 1 rfl) zbl (Put.head (Put.part 1 rfl rfl rfl))) o0))))) (fun a w hst=>?_)
 have hst:St B w0 72 [(0,_),(3,_),(4,_),(5,_)] [⟨1,41,slH 2 2,_⟩,⟨2,39,ptrH,_⟩] a w:=hst
 refine zt<|gl (sts:=[none,none]) (news:=[]) (sp:=[.adr 30 1 .none True,.val 31 _,.val 29 _,.val 32 _,.val 33 _,.val 6 _,.val 7 _]) [.g 0,.g 1,.g 2,.g 3,.o 5,.o 6] hst (oc (ob_a rfl rfl zco) (zv rfl (za5 (xs:=[.tmp 30]) (tAll_c (al2 1 5)) (.cons (ziv 0 rfl zk (lz0 0 rfl) ⟨rfl,by decide,by decide,by kernel_rfl⟩) .nil)) (zv rfl (za1 (vq 1 rfl)) (zv rfl (zd8 (vq 2 rfl)) (zv rfl (zd7 (vq 2 rfl)) (zv rfl (za2 (vq 3 rfl)) (zv rfl (za2 (vq 4 rfl)) o0))))))) (fun a w hst=>?_)
 have hst:St B w0 72 [(0,_),(3,_),(4,_),(5,_),(6,_),(7,_)] [⟨1,41,slH 2 2,_⟩,⟨2,39,ptrH,_⟩] a w:=hst
 refine zt<|gl (sts:=[some (4,_),none]) (news:=[]) (sp:=[.adr 34 1 .none True,.val 35 _,.adr 36 1 (.some 0) True,.adr 37 1 (.some 1) True,.sto 0]) [.g 0,.g 1,.g 2,.g 3,.g 4,.g 5] hst (oc (ob_a rfl rfl zco) (zv rfl (za5 (xs:=[.const (.int .i64 (2)),.const (.int .i64 (1))]) (zet zd zd zd zd) (.cons za3 (.cons za3 .nil))) (oc (ob_a rfl rfl (a_elmM (k:=0) 0 rfl zk (lz0 0 rfl) zf4 (zax 0 rfl) zd zd)) (oc (ob_a rfl rfl (a_fldE 2 rfl zk (lz0 0 rfl) zcf)) (oc (zch 3 rfl rfl rfl rfl zk (fun _=>zc5 _ _ _ _) (vq 1 rfl) zbl (Put.head (Put.part 1 rfl rfl rfl))) o0))))) (fun a w hst=>?_)
 have hst:St B w0 72 [(0,_),(3,_),(4,_),(5,_),(6,_),(7,_)] [⟨1,41,slH 2 2,_⟩,⟨2,39,ptrH,_⟩] a w:=hst
 refine zt ?_
 have hst:=St.ofLoc (D:=[U32]) hst 0 rfl ⟨rfl,by decide,by decide,by kernel_rfl⟩
 have hst:St B w0 72 [(1,_),(0,_),(3,_),(4,_),(5,_),(6,_),(7,_)] [⟨2,39,ptrH,_⟩] a w:=hst
 refine zav (anc:=[[],[0],[0,1],[0,1,2],[0,1,2,3],[0,1,2,3,4],[0,1,2,3,4,5],[0,1,2,3,4,5,6],[0,1,2,3,4,5,6,7],[0,1,2,3,4,5,6,7,8],[0,1,2,3,4,5,6,7,8,9],[0,1,2,3,4,5,6,7,8,9,10],[0,1,2,3,4,5,6,7,8,9,10,11],[0,1,2,3,4,5,6,7,8,9,10,11,12],[0,1,2,3,4,5,6,7,8,9,10,11,12,13],[0,1,2,3,4,5,6,7,8,9,10,11,12,13,14],[0,1,2,3,4,5,6,7,8,9,10,11,12,13,14,15],[0,1,2,3,4,5,6,7,8,9,10,11,12,13,14,15,16],[0,1,2,3,4,5,6,7,8,9,10,11,12,13,14,15,16,17],[0,1,2,3,4,5,6,7,8,9,10,11,12,13,14,15,16,17,18],[0,1,2,3,4,5,6,7,8,9,10,11,12,13,14,15,16,17],[0,1,2,3,4,5,6,7,8,9,10,11,12,13,14,15,16,17,18,19,20],[0,1,2,3,4,5,6,7,8,9,10,11,12,13,14,15,16,17,18,19,20,21],[0,1,2,3,4,5,6,7,8,9,10,11,12,13,14,15,16,17,18,19,20,21,22],[0,1,2,3,4,5,6,7,8,9,10,11,12,13,14,15,16,17,18,19,20,21,22,23],[0,1,2,3,4,5,6,7,8,9,10,11,12,13,14,15,16,17,18,19,20,21,22,23,24],[0,1,2,3,4,5,6,7,8,9,10,11,12,13,14,15,16,17,18,19,20,21,22,23],[0,1,2,3,4,5,6,7,8,9,10,11,12,13,14,15,16,17,18,19,20,21,22,23,24,25,26],[0,1,2,3,4,5,6,7,8,9,10,11,12,13,14,15,16,17,18,19,20,21,22,23,24,25,26,27],[0,1,2,3,4,5,6,7,8,9,10,11,12,13,14,15,16,17,18,19,20,21,22,23,24,25,26,27,28],[0,1,2,3,4,5,6,7,8,9,10,11,12,13,14,15,16,17,18,19,20,21,22,23,24,25,26,27,28,29],[0,1,2,3,4,5,6,7,8,9,10,11,12,13,14,15,16,17,18,19,20,21,22,23,24,25,26,27,28,29,30],[0,1,2,3,4,5,6,7,8,9,10,11,12,13,14,15,16,17,18,19,20,21,22,23,24,25,26,27,28,29,30,31],[0,1,2,3,4,5,6,7,8,9,10,11,12,13,14,15,16,17,18,19,20,21,22,23,24,25,26,27,28,29,30,31,32],[0,1,2,3,4,5,6,7,8,9,10,11,12,13,14,15,16,17,18,19,20,21,22,23,24,25,26,27,28,29,30,31,32,33]]) (sts:=[none]) (news:=[]) (sp:=((.val 38 _:Sp)::(.val 39 _)::(.val 40 _)::(.val 41 (Wh (_=true) _))::(.val 42 (Wh (_=true) _))::(.val 43 _)::(.val 44 _)::(.val 45 (Wh (_=true) _))::(.val 46 (Wh (_=true) _))::(.val 47 _)::(.val 48 _)::(.val 49 (Wh (_=true) _))::(.val 50 _)::(.val 51 _)::(.val 52 (Wh (_=true) _))::(.val 53 (Wh (_=true) _))::(.val 54 _)::(.val 55 _)::(.adr 56 2 (.some 0) (_=true))::(.val 57 (Wh (_=true) _))::(.val 58 (Wh (_=true) _))::(.val 59 (Wh (_=true) _))::(.val 60 _)::(.val 61 _)::(.adr 62 2 (.some 4) (_=true))::(.val 63 (Wh (_=true) _))::(.val 64 (Wh (_=true) _))::(.val 65 (Wh (_=true) _))::(.val 66 _)::(.val 67 _)::(.val 68 (Wh (_=true) _))::(.val 69 (Wh (_=true) _))::(.val 70 (Wh (_=true) _))::(.val 71 _)::(.val 0 _)::[])) [.o 34] za6 hst (zv rfl (za1 (gq 2 rfl)) (zv rfl (zcu (vq 0 rfl) za3) (zv rfl (za1 (vq 1 rfl)) (oc (zam rfl rfl rfl (vq 2 rfl) nq (fun hg=>za1 (gq 4 rfl))) (oc (zam rfl rfl rfl (vq 2 rfl) nq (fun hg=>zcu (zag (vq 3 rfl) hg) za3)) (zv rfl (zcm (vq 2 rfl) (vq 4 rfl)) (zv rfl (za1 (vq 5 rfl)) (oc (zam rfl rfl rfl (vq 6 rfl) nq (fun hg=>za1 (gq 6 rfl))) (oc (zam rfl rfl rfl (vq 6 rfl) nq (fun hg=>zcu (zag (vq 7 rfl) hg) za3)) (zv rfl (zcm (vq 6 rfl) (vq 8 rfl)) (zv rfl (za1 (vq 9 rfl)) (oc (zam rfl rfl rfl (vq 10 rfl) nq (fun hg=>za1 (gq 3 rfl))) (zv rfl (zcm (vq 10 rfl) (vq 11 rfl)) (zv rfl (za1 (vq 12 rfl)) (oc (zam rfl rfl rfl (vq 13 rfl) nq (fun hg=>za1 (gq 5 rfl))) (oc (zam rfl rfl rfl (vq 13 rfl) nq (fun hg=>zdp (zag (vq 14 rfl) hg))) (zv rfl (zcm (vq 13 rfl) (vq 15 rfl)) (zv rfl (za1 (vq 16 rfl)) (oc (zd9 rfl rfl rfl (vq 17 rfl) nq (fun hg=>za8 (lz0 0 rfl) zbj)) (oc (zam rfl rfl rfl (vq 17 rfl) nq (fun hg=>za4 18 rfl zk hg (lz0 0 rfl) (Sub.part 0 rfl rfl) zaa)) (oc (zam rfl rfl rfl (vq 17 rfl) nq (fun hg=>za5 (xs:=[.const (.int .i64 (-1))]) (zff zd zd) (.cons za3 .nil))) (oc (zam rfl rfl rfl (vq 17 rfl) nq (fun hg=>za5 (xs:=[.tmp 57,.tmp 58]) (zep _ _) (.cons (zag (vq 19 rfl) hg) (.cons (zag (vq 20 rfl) hg) .nil)))) (zv rfl (zcm (vq 17 rfl) (vq 21 rfl)) (zv rfl (za1 (vq 22 rfl)) (oc (zd9 rfl rfl rfl (vq 23 rfl) nq (fun hg=>za8 (lz0 0 rfl) zbq)) (oc (zam rfl rfl rfl (vq 23 rfl) nq (fun hg=>za4 24 rfl zk hg (lz0 0 rfl) (Sub.part 1 rfl rfl) zaa)) (oc (zam rfl rfl rfl (vq 23 rfl) nq (fun hg=>za5 (xs:=[.const (.int .i64 (1))]) (zff zd zd) (.cons za3 .nil))) (oc (zam rfl rfl rfl (vq 23 rfl) nq (fun hg=>za5 (xs:=[.tmp 63,.tmp 64]) (zep _ _) (.cons (zag (vq 25 rfl) hg) (.cons (zag (vq 26 rfl) hg) .nil)))) (zv rfl (zcm (vq 23 rfl) (vq 27 rfl)) (zv rfl (za1 (vq 28 rfl)) (oc (zam rfl rfl rfl (vq 29 rfl) nq (fun hg=>za1 (gq 0 rfl))) (oc (zam rfl rfl rfl (vq 29 rfl) nq (fun hg=>za5 (xs:=[.tmp 68]) (zem (al2 2 1)) (.cons (zag (vq 30 rfl) hg) .nil))) (oc (zam rfl rfl rfl (vq 29 rfl) nq (fun hg=>zcu (zag (vq 31 rfl) hg) za3)) (zv rfl (zcm (vq 29 rfl) (vq 32 rfl)) (zv rfl (za2 (vq 33 rfl)) o0))))))))))))))))))))))))))))))))))) zk zk zk zk (fun a w hst=>?_)
 have hst:St B w0 72 [(0,_)] [⟨2,39,ptrH,_⟩] a w:=hst
 refine za0 ?_
 refine wp_ret ?_
 refine zah ?_ (zaj rfl hst (zm 0 rfl))
 exact zd4 (congrArg Bo zk)
end Go.Proofs.YtlpppkkggljdcaaGreat
namespace Go.Proofs.YtlpppkkggljdcaaGreat
open Go Go.RowKit
structure LF where
 a:Rat
 b:Rat
 c:Rat
 d:Rat
def LF.at (s:LF)(m:MQ):Rat:=s.a*m.a+s.b*m.b+s.c*m.c+s.d*m.d
def LF.neg (s:LF):LF:=⟨-s.a,-s.b,-s.c,-s.d⟩
theorem LF.neg_at (s:LF)(m:MQ):s.neg.at m = -s.at m:=by unfold LF.neg LF.at; grind
def LF.ahead (s:LF)(e:MQ):LF:=⟨s.a*e.a+s.b*e.b,s.a*e.c+s.b*e.d,s.c*e.a+s.d*e.b,s.c*e.c+s.d*e.d⟩
def LF.behind (s:LF)(m:MQ):LF:=⟨s.a*m.a+s.c*m.c,s.b*m.a+s.d*m.c,s.a*m.b+s.c*m.d,s.b*m.b+s.d*m.d⟩
theorem LF.ahead_at (s:LF)(m e:MQ):s.at (mulQ m e)=(s.ahead e).at m:=by unfold LF.ahead LF.at mulQ; grind
theorem LF.behind_at (s:LF)(m e:MQ):s.at (mulQ m e)=(s.behind m).at e:=by unfold LF.behind LF.at mulQ; grind
theorem zg9 {β x lo hi:Rat}(h1:lo≤x)(h2:x≤hi):β*x≤β*lo∨β*x≤β*hi:=by
 by_cases h:0≤β
 ·exact .inr (Rat.mul_le_mul_of_nonneg_left h2 h)
 ·have h3:0 ≤ -β:=by grind
  have:=Rat.mul_le_mul_of_nonneg_left h1 h3
  left
  grind
theorem inv_le {x y:Rat}(hx:0<x)(h:x≤y):y⁻¹ ≤ x⁻¹ := by
 have hy:0<y:=by grind
 have h1:0≤x⁻¹ := Rat.le_of_lt (Rat.inv_pos.2 hx)
 have h2:0≤y⁻¹ := Rat.le_of_lt (Rat.inv_pos.2 hy)
 have h3:0≤x⁻¹ * y⁻¹ := Rat.mul_nonneg h1 h2
 have h4:=Rat.mul_le_mul_of_nonneg_right h h3
 have e1:x*(x⁻¹ * y⁻¹)=y⁻¹ := by rw [← Rat.mul_assoc,Rat.mul_inv_cancel x (by grind),Rat.one_mul]
 have e2:y*(x⁻¹ * y⁻¹)=x⁻¹ := by rw [Rat.mul_comm x⁻¹,← Rat.mul_assoc,Rat.mul_inv_cancel y (by grind),Rat.one_mul]
 rw [e1,e2] at h4
 exact h4
theorem el_endQ {k:Int}{p0 p1 q0 q1 p q:Rat}(h0:kOk k p0 q0)(h1:kOk k p1 q1)(hp:p0≤p∧p≤p1)(hq:q0≤q∧q≤q1)(s:LF):∃ p' q',(p'=p0∨p'=p1)∧(q'=q0∨q'=q1)∧s.at (elQ k p q)≤s.at (elQ k p' q'):=by
 unfold kOk at h0
 rcases h0 with ⟨e,a,b⟩ | ⟨e,a⟩ | ⟨e,a,b⟩ | e | ⟨e,a,b⟩
 ·subst e
  have f:∀ x y,s.at (elQ 1 x y)=s.b*x+(s.a+s.d):=fun x y=>by simp only [elQ,LF.at]; grind
  rcases zg9 (β:=s.b) hp.1 hp.2 with h | h
  ·exact ⟨p0,q0,.inl rfl,.inl rfl,by rw [f,f]; grind⟩
  ·exact ⟨p1,q0,.inr rfl,.inl rfl,by rw [f,f]; grind⟩
 ·subst e
  have f:∀ x y,s.at (elQ 2 x y) = -s.c*x+(s.a+s.d):=fun x y=>by simp only [elQ,LF.at]; grind
  rcases zg9 (β := -s.c) hp.1 hp.2 with h | h
  ·exact ⟨p0,q0,.inl rfl,.inl rfl,by rw [f,f]; grind⟩
  ·exact ⟨p1,q0,.inr rfl,.inl rfl,by rw [f,f]; grind⟩
 ·subst e
  have f:∀ x y,s.at (elQ 3 x y)=s.b*y⁻¹ * x+(s.a+s.d):=fun x y=>by
   have:x/y=x*y⁻¹ := Rat.div_def x y
   simp only [elQ,LF.at]
   rw [if_neg zd,if_neg zd,if_pos trivial]
   simp only [this]
   grind
  have key:∀ x,∃ q',(q'=q0∨q'=q1)∧s.at (elQ 3 x q)≤s.at (elQ 3 x q'):=fun x=>by
   have i1:=inv_le (x:=q) (y:=q1) (by grind) hq.2
   have i2:=inv_le b hq.1
   rcases zg9 (β:=s.b*x) i1 i2 with h | h
   ·exact ⟨q1,.inr rfl,by rw [f,f]; grind⟩
   ·exact ⟨q0,.inl rfl,by rw [f,f]; grind⟩
  rcases zg9 (β:=s.b*q⁻¹) hp.1 hp.2 with h | h
  ·obtain ⟨q',h2,h3⟩:=key p0
   exact ⟨p0,q',.inl rfl,h2,Rat.le_trans (by rw [f,f]; grind) h3⟩
  ·obtain ⟨q',h2,h3⟩:=key p1
   exact ⟨p1,q',.inr rfl,h2,Rat.le_trans (by rw [f,f]; grind) h3⟩
 ·subst e
  have f:∀ x y,s.at (elQ 4 x y) = -s.c*y*x+(s.a+s.d):=fun x y=>by
   simp only [elQ,LF.at]
   rw [if_neg zd,if_neg zd,if_neg zd,if_pos trivial]
   grind
  have key:∀ x,∃ q',(q'=q0∨q'=q1)∧s.at (elQ 4 x q)≤s.at (elQ 4 x q'):=fun x=>by
   rcases zg9 (β := -s.c*x) hq.1 hq.2 with h | h
   ·exact ⟨q0,.inl rfl,by rw [f,f]; grind⟩
   ·exact ⟨q1,.inr rfl,by rw [f,f]; grind⟩
  rcases zg9 (β := -s.c*q) hp.1 hp.2 with h | h
  ·obtain ⟨q',h2,h3⟩:=key p0
   exact ⟨p0,q',.inl rfl,h2,Rat.le_trans (by rw [f,f]; grind) h3⟩
  ·obtain ⟨q',h2,h3⟩:=key p1
   exact ⟨p1,q',.inr rfl,h2,Rat.le_trans (by rw [f,f]; grind) h3⟩
 ·subst e
  exact ⟨p0,q0,.inl rfl,.inl rfl,by simp [elQ]⟩
def InG (g:RGp)(y:RF):Prop:=okX y=true∧toQ g.lo≤toQ y∧toQ y≤toQ g.hi
def InB (x:RLo)(y:RE):Prop:=y.k=x.k∧InG x.p y.p∧InG x.q y.q
def CoG (g:RGp)(y:RF):Prop:=y=g.lo∨y=g.hi
def CoB (x:RLo)(y:RE):Prop:=y.k=x.k∧CoG x.p y.p∧CoG x.q y.q
theorem zgy (x:RE)(xs:List RE):prodQ (x::xs)=mulQ (prodQ xs) (elM x):=by
 have e:prodQ (x::xs)=mulQ (prodQ xs) (prodQ [x]):=prod_app [x] xs
 rw [e]
 congr 1
 show mulQ (elM x) ⟨1,0,0,1⟩=elM x
 simp [mulQ,Rat.add_zero,Rat.zero_add]
theorem co_ge {xs:List RLo}{ys:List RE}(h:All2 InB xs ys)(hx:xs.all loF=true):∀ s:LF,∃ zs,All2 CoB xs zs∧s.at (prodQ ys)≤s.at (prodQ zs):=by
 induction h with
 | nil=>exact fun s=>⟨[],.nil,Rat.le_refl⟩
 | @cons x y xs ys h1 _ ih =>
  intro s
  rw [List.all_cons,Bool.and_eq_true] at hx
  obtain ⟨zs,h2,h3⟩:=ih hx.2 (s.ahead (elM y))
  obtain ⟨k1,k2,_,_⟩:=zhl hx.1
  obtain ⟨e,⟨_,a1,a2⟩,⟨_,b1,b2⟩⟩:=h1
  obtain ⟨p',q',hp',hq',h4⟩:=el_endQ (elF_iff.1 k1).2.2 (elF_iff.1 k2).2.2 ⟨a1,a2⟩ ⟨b1,b2⟩ (s.behind (prodQ zs))
  obtain ⟨P,hP,eP⟩:∃ P,CoG x.p P∧toQ P=p':=by
   rcases hp' with rfl | rfl
   ·exact ⟨_,.inl rfl,rfl⟩
   ·exact ⟨_,.inr rfl,rfl⟩
  obtain ⟨Z,hZ,eZ⟩:∃ P,CoG x.q P∧toQ P=q':=by
   rcases hq' with rfl | rfl
   ·exact ⟨_,.inl rfl,rfl⟩
   ·exact ⟨_,.inr rfl,rfl⟩
  refine ⟨⟨x.k,P,Z⟩::zs,.cons ⟨rfl,hP,hZ⟩ h2,?_⟩
  have ey:elM y=elQ x.k (toQ y.p) (toQ y.q):=by unfold elM; rw [e]
  have ez:elM ⟨x.k,P,Z⟩=elQ x.k p' q':=by unfold elM; rw [eP,eZ]
  rw [zgy,zgy,LF.ahead_at]
  refine Rat.le_trans h3 ?_
  rw [← LF.ahead_at,LF.behind_at,LF.behind_at,ey,ez]
  exact h4
theorem zky:∀ (xs:List RLo) (l:List RE) (c:Nat),cnS (l,c) xs=(l++(cnS ([],c) xs).1,(cnS ([],c) xs).2)
 | [],l,c=>by simp [cnS]
 | x::xs,l,c=>by
  have e1:cnS (l,c) (x::xs)=cnS (l++[(cst x c).1],(cst x c).2) xs:=rfl
  have e2:cnS ([],c) (x::xs)=cnS ([(cst x c).1],(cst x c).2) xs:=rfl
  rw [e1,e2,zky xs (l++_),zky xs [_]]
  simp
theorem cnF_cons (x:RLo)(xs:List RLo)(c:Nat):cnF (x::xs) c=(cst x c).1::cnF xs (cst x c).2:=by
 unfold cnF
 have e2:cnS ([],c) (x::xs)=cnS ([(cst x c).1],(cst x c).2) xs:=rfl
 rw [e2,zky]
 rfl
theorem pt_eq {g:RGp}(h:mayG g=true)(hp:ptF g=true):g.hi=g.lo:=by
 have h2:=ok_2 (zh4 h)
 unfold ptF at hp
 have e:toQ g.lo=toQ g.hi:=by rw [cm_eq] at hp; exact of_decide_eq_true hp
 rw [(zgz h2.1).1,(zgz h2.2).1,e]
theorem co_num {g:RGp}(h:mayG g=true){y:RF}(hy:CoG g y)(d:Nat):∃ c,endF g c=(y,d)∧∀ N,d<N→c<2^gpL g*N:=by
 cases hp:ptF g with
 | true =>
  have e:y=g.lo:=by
   rcases hy with h1 | h1
   ·exact h1
   ·rw [h1]; exact pt_eq h hp
  refine ⟨d,by rw [endF,if_pos hp,e],fun N hN=>?_⟩
  unfold gpL
  rw [if_pos hp]
  simpa using hN
 | false =>
  rcases hy with h1 | h1
  ·refine ⟨2*d,by rw [endF,if_neg (by rw [hp]; decide),if_neg zo,h1,show 2*d/2=d by omega],fun N hN=>?_⟩
   unfold gpL
   rw [if_neg (by rw [hp]; decide)]
   omega
  ·refine ⟨2*d+1,by rw [endF,if_neg (by rw [hp]; decide),if_pos zo,h1,show (2*d+1)/2=d by omega],fun N hN=>?_⟩
   unfold gpL
   rw [if_neg (by rw [hp]; decide)]
   omega
theorem co_of {xs:List RLo}{zs:List RE}(h:All2 CoB xs zs)(hx:xs.all loF=true):∃ c,c<2^manyF xs∧cnF xs c=zs:=by
 induction h with
 | nil=>exact ⟨0,by decide,rfl⟩
 | @cons x z xs zs h1 _ ih =>
  rw [List.all_cons,Bool.and_eq_true] at hx
  obtain ⟨c,hc,e⟩:=ih hx.2
  obtain ⟨_,_,mp,mq⟩:=zhl hx.1
  obtain ⟨ek,hp,hq⟩:=h1
  obtain ⟨c1,e1,b1⟩:=co_num mq hq c
  obtain ⟨c2,e2,b2⟩:=co_num mp hp c1
  refine ⟨c2,?_,?_⟩
  ·have h3:=b2 _ (b1 _ hc)
   have e3:manyF (x::xs)=gpL x.p+(gpL x.q+manyF xs):=by simp [manyF]; omega
   rw [e3,Nat.pow_add,Nat.pow_add]
   exact h3
  ·rw [cnF_cons]
   have e4:cst x c2=(z,c):=by
    unfold cst
    rw [e2,e1]
    obtain ⟨zk,zp,zq⟩:=z
    have ek':zk=x.k:=ek
    rw [ek']
   rw [e4,e]
theorem cm_lt0' {x y:Rat}:cmQ x y<0↔x<y:=by
 unfold cmQ
 split
 ·rename_i h; exact ⟨fun _=>h,fun _=>by decide⟩
 ·split
  ·rename_i h1 h2; exact ⟨fun h=>absurd h zd,fun h=>absurd h h1⟩
  ·rename_i h1 h2; exact ⟨fun h=>absurd h zd,fun h=>absurd h h1⟩
theorem cm_gt0' {x y:Rat}:cmQ x y>0↔y<x:=by
 unfold cmQ
 split
 ·rename_i h; exact ⟨fun h'=>absurd h' zd,fun h'=>by grind⟩
 ·split
  ·rename_i h1 h2; exact ⟨fun _=>h2,fun _=>by decide⟩
  ·rename_i h1 h2; exact ⟨fun h=>absurd h zd,fun h=>absurd h h2⟩
theorem lo_all (f:Nat→Rat):∀ n k,k<n→loS f n≤f k
 | n+1,k,h=>by
  unfold loS
  split
  ·rename_i hc
   by_cases e:k=n
   ·rw [e]; exact Rat.le_refl
   ·rw [Bool.or_eq_true] at hc
    rcases hc with hc | hc
    ·exact absurd (show n=0 by
      have:((n:Nat):Int)=0:=by simpa using hc
      omega) zo
    ·exact Rat.le_trans (Rat.le_of_lt (cm_lt0'.1 (of_decide_eq_true hc))) (lo_all f n k zo)
  ·rename_i hc
   by_cases e:k=n
   ·rw [e]
    rw [Bool.not_eq_true,Bool.or_eq_false_iff] at hc
    have:¬ f n<loS f n:=fun h=>by have h2:=of_decide_eq_false hc.2; exact h2 (cm_lt0'.2 h)
    grind
   ·exact lo_all f n k zo
theorem hi_all (f:Nat→Rat):∀ n k,k<n→f k≤hiS f n
 | n+1,k,h=>by
  unfold hiS
  split
  ·rename_i hc
   by_cases e:k=n
   ·rw [e]; exact Rat.le_refl
   ·rw [Bool.or_eq_true] at hc
    rcases hc with hc | hc
    ·exact absurd (show n=0 by
      have:((n:Nat):Int)=0:=by simpa using hc
      omega) zo
    ·exact Rat.le_trans (hi_all f n k zo) (Rat.le_of_lt (cm_gt0'.1 (of_decide_eq_true hc)))
  ·rename_i hc
   by_cases e:k=n
   ·rw [e]
    rw [Bool.not_eq_true,Bool.or_eq_false_iff] at hc
    have:¬ hiS f n<f n:=fun h=>by have h2:=of_decide_eq_false hc.2; exact h2 (cm_gt0'.2 h)
    grind
   ·exact hi_all f n k zo
theorem zit (f:Nat→Rat):∀ n,0<n→∃ k,k<n∧loS f n=f k
 | n+1,_=>by
  unfold loS
  split
  ·exact ⟨n,by omega,rfl⟩
  ·rename_i hc
   rw [Bool.not_eq_true,Bool.or_eq_false_iff] at hc
   have hn:n≠0:=k_ne hc.1
   obtain ⟨k,h1,h2⟩:=zit f n zo
   exact ⟨k,by omega,h2⟩
theorem ziu (f:Nat→Rat):∀ n,0<n→∃ k,k<n∧hiS f n=f k
 | n+1,_=>by
  unfold hiS
  split
  ·exact ⟨n,by omega,rfl⟩
  ·rename_i hc
   rw [Bool.not_eq_true,Bool.or_eq_false_iff] at hc
   have hn:n≠0:=k_ne hc.1
   obtain ⟨k,h1,h2⟩:=ziu f n zo
   exact ⟨k,by omega,h2⟩
theorem in_gap {xs:List RLo}{ys:List RE}(h:All2 InB xs ys)(hx:xs.all loF=true)(s:LF)(f:Nat→Rat)(hf:∀ k,f k=s.at (prodQ (cnF xs k))):loS f (2^manyF xs)≤s.at (prodQ ys)∧s.at (prodQ ys)≤hiS f (2^manyF xs):=by
 constructor
 ·obtain ⟨zs,h1,h2⟩:=co_ge h hx s.neg
  obtain ⟨c,hc,e⟩:=co_of h1 hx
  rw [LF.neg_at,LF.neg_at,← e,← hf] at h2
  have:=lo_all f _ c hc
  grind
 ·obtain ⟨zs,h1,h2⟩:=co_ge h hx s
  obtain ⟨c,hc,e⟩:=co_of h1 hx
  rw [← e,← hf] at h2
  exact Rat.le_trans h2 (hi_all f _ c hc)
def sT:LF:=⟨1,0,0,1⟩
def sP:LF:=⟨0,0,-1,0⟩
theorem sT_at (m:MQ):trQ' m=sT.at m:=by unfold trQ' LF.at sT; grind
theorem sP_at (m:MQ):pwQ' m=sP.at m:=by unfold pwQ' LF.at sP; grind
theorem in_tr {xs:List RLo}{ys:List RE}(h:All2 InB xs ys)(hx:xs.all loF=true):loS (aF trQ' xs) (2^manyF xs)≤trQ' (prodQ ys)∧trQ' (prodQ ys)≤hiS (aF trQ' xs) (2^manyF xs):=by
 rw [sT_at]
 exact in_gap h hx sT _ fun k=>sT_at _
theorem in_pw {xs:List RLo}{ys:List RE}(h:All2 InB xs ys)(hx:xs.all loF=true):loS (aF pwQ' xs) (2^manyF xs)≤pwQ' (prodQ ys)∧pwQ' (prodQ ys)≤hiS (aF pwQ' xs) (2^manyF xs):=by
 rw [sP_at]
 exact in_gap h hx sP _ fun k=>sP_at _
end Go.Proofs.YtlpppkkggljdcaaGreat
namespace Go.Proofs.YtlpppkkggljdcaaGreat
open Go Go.RowKit
def gapSizeF (x:RGp):Int:=IntKind.i64.wrap (fracSizeF x.lo+fracSizeF x.hi)
def loszF (n:Int):List RLo→Int
 | []=>n
 | x::xs=>if decide (n≤1048576) then loszF (IntKind.i64.wrap (IntKind.i64.wrap (n+gapSizeF x.p)+gapSizeF x.q)) xs else n
theorem losz_go {n:Int}{l:List RLo}{j:Nat}(h:j<l.length)(h2:n≤1048576):loszF n (l.drop j)=loszF (IntKind.i64.wrap (IntKind.i64.wrap (n+gapSizeF l[j].p)+gapSizeF l[j].q)) (l.drop (j+1)):=by
 rw [List.drop_eq_getElem_cons h,loszF,if_pos (decide_eq_true h2)]
theorem losz_end {n:Int}{l:List RLo}{j:Nat}(h:¬ (j<l.length∧n≤1048576)):loszF n (l.drop j)=n:=by
 by_cases hj:j<l.length
 ·rw [List.drop_eq_getElem_cons hj,loszF,if_neg (by simpa using fun hh=>h ⟨hj,hh⟩)]
 ·rw [List.drop_of_length_le zo]; rfl
def szG (g:RGp):Nat:=szQ (toQ g.lo)+szQ (toQ g.hi)
def sumL (xs:List RLo):Nat:=(xs.map fun x=>szG x.p+szG x.q+8).sum
theorem fr_szT {x:RF}(h:okX x=true):fracSizeF x=((szQ (toQ x)+2:Nat):Int)∧szQ (toQ x)≤4096:=by
 obtain ⟨r,rfl,hr⟩:=ok_rf h
 rw [zcy]
 exact ⟨frac_sz hr,sz_le hr⟩
theorem gap_sz {g:RGp}(h:mayG g=true):gapSizeF g=((szG g+4:Nat):Int)∧szG g≤8192:=by
 obtain ⟨h1,h2⟩:=ok_2 (zh4 h)
 obtain ⟨a1,a2⟩:=fr_szT h1
 obtain ⟨b1,b2⟩:=fr_szT h2
 unfold gapSizeF szG
 rw [a1,b1,wi64 zo zo]
 exact ⟨by omega,by omega⟩
theorem losz_le:∀ (xs:List RLo) (n:Int),0≤n→xs.all loF=true→loszF n xs≤400→n+(sumL xs:Int)≤400
 | [],n,_,_,h=>by unfold loszF at h; unfold sumL; simp; exact h
 | x::xs,n,h0,ha,h=>by
  rw [List.all_cons,Bool.and_eq_true] at ha
  obtain ⟨_,_,mp,mq⟩:=zhl ha.1
  obtain ⟨e1,e2⟩:=gap_sz mp
  obtain ⟨f1,f2⟩:=gap_sz mq
  unfold loszF at h
  by_cases hn:n≤1048576
  ·rw [if_pos (decide_eq_true hn),e1,f1,wi64 (x:=n+((szG x.p+4:Nat):Int)) zo zo,wi64 zo zo] at h
   have:=losz_le xs _ zo ha.2 h
   have e:sumL (x::xs)=(szG x.p+szG x.q+8)+sumL xs:=by simp [sumL]
   rw [e]
   omega
  ·rw [if_neg (by simpa using hn)] at h
   omega
theorem sum_mem {xs:List RLo}{x:RLo}(h:x∈xs):szG x.p+szG x.q+8≤sumL xs:=by
 induction xs with
 | nil=>cases h
 | cons y ys ih =>
  have e:sumL (y::ys)=(szG y.p+szG y.q+8)+sumL ys:=by simp [sumL]
  rw [e]
  rcases List.mem_cons.1 h with rfl | h
  ·omega
  ·have:=ih h; omega
def looG (g:RGp):Nat:=if decide (g.lo=g.hi) then 0 else 1
def looN (xs:List RLo):Nat:=(xs.map fun x=>looG x.p+looG x.q).sum
theorem loo_nx {xs:List RLo}{j:Nat}(h:j<xs.length):looN (xs.take (j+1))=looN (xs.take j)+(looG xs[j].p+looG xs[j].q):=by
 rw [List.take_succ_eq_append_getElem h]
 unfold looN
 rw [List.map_append,List.sum_append]
 simp
theorem zis (g:RGp):looG g≤1:=by unfold looG; split <;> omega
theorem loo_le (xs:List RLo):looN xs≤2*xs.length:=by
 induction xs with
 | nil=>exact Nat.le_refl _
 | cons x xs ih =>
  have h1:=zis x.p
  have h2:=zis x.q
  have e:looN (x::xs)=looG x.p+looG x.q+looN xs:=by simp [looN]
  rw [e,List.length_cons]
  omega
theorem loo_take (xs:List RLo)(j:Nat):looN (xs.take j)≤2*xs.length:=Nat.le_trans (loo_le _) (by rw [List.length_take]; omega)
theorem looG_1 {g:RGp}(h:(!decide (g.lo=g.hi))=true):looG g=1:=by unfold looG; rw [if_neg (by simpa using h)]
theorem looG_0 {g:RGp}(h:(!decide (g.lo=g.hi))=false):looG g=0:=by unfold looG; rw [if_pos (by simpa using h)]
theorem loo_many {xs:List RLo}(h:xs.all loF=true):looN xs=manyF xs:=by
 have key:∀ {g:RGp},mayG g=true→looG g=gpL g:=fun {g} hm=>by
  obtain ⟨h1,h2⟩:=ok_2 (zh4 hm)
  unfold looG gpL ptF
  rw [cm_eq]
  by_cases e:g.lo=g.hi
  ·rw [if_pos (decide_eq_true e),if_pos (decide_eq_true (by rw [e]))]
  ·rw [if_neg (by simpa using e),if_neg (by simpa using fun e2=>e (by rw [(zgz h1).1,(zgz h2).1,e2]))]
 induction xs with
 | nil=>rfl
 | cons x xs ih =>
  rw [List.all_cons,Bool.and_eq_true] at h
  obtain ⟨_,_,mp,mq⟩:=zhl h.1
  have e1:looN (x::xs)=looG x.p+looG x.q+looN xs:=by simp [looN]
  have e2:manyF (x::xs)=gpL x.p+gpL x.q+manyF xs:=by simp [manyF]
  rw [e1,e2,key mp,key mq,ih h.2]
def feF (xs:List RLo):Bool:=((decide (loszF (xs.length:Nat) xs≤400)&&(tchF xs==0))&&decide (((looN xs:Nat):Int)≤7))&&decide (((xs.length:Nat):Int)≤30)
structure FewOk (xs:List RLo):Prop where
 t:tchF xs=0
 a:xs.all loF=true
 l4:xs.length≤4096
 m:manyF xs≤12
 m7:manyF xs≤7
 l30:xs.length≤30
 s:sumL xs≤400
theorem fe_ok {xs:List RLo}(h:(!feF xs)=false):FewOk xs:=by
 have h':feF xs=true:=by simpa using h
 unfold feF at h'
 simp only [Bool.and_eq_true,decide_eq_true_eq,beq_iff_eq] at h'
 obtain ⟨⟨⟨h1,h2⟩,h3⟩,h4⟩:=h'
 have hk:=tch_ok h2
 have hl:=loo_many hk.2.1
 exact ⟨h2,hk.2.1,hk.1,hk.2.2,by omega,by omega,by have:=losz_le xs _ zo hk.2.1 h1; omega⟩
theorem zjw (x:RGp):Cn Tryz.prog 76 [(GpA x).va] (In (gapSizeF x)):=by
 refine Cn.intro Tryz.func76 rfl zk nq (fun B w0 a hst=>?_)
 have hst:St B w0 10 [(0,(GpA x).va)] [] a w0.w:=hst
 refine wp_seq ?_
 refine gl (sts:=[]) (news:=[⟨1,39,ptrH,some 0,_,none⟩]) (sp:=[.alc 0,.val 2 _]) [.o 1] hst (oc (zal rfl rfl rfl (gq 0 rfl)) (zv rfl (za2 za3) o0)) (fun a w hst=>?_)
 have hst:St B w0 10 [(2,_)] [⟨1,39,ptrH,_⟩] a w:=hst
 refine zt<|zav (anc:=[[],[0],[0,1],[],[3],[0,1,2,3,4],[0,1,2,3,4,5],[0,1,2,3,4,5,6]]) (sts:=[none]) (news:=[]) (sp:=[.adr 3 1 (.some 0) True,.val 4 _,.val 5 _,.adr 6 1 (.some 4) True,.val 7 _,.val 8 _,.val 9 _,.val 2 _]) [.o 7] za6 hst (oc (ob_a rfl rfl (za8 (lz0 0 rfl) zbj)) (zv rfl (za4 0 rfl zk trivial (lz0 0 rfl) (Sub.part 0 rfl rfl) zaa) (zv rfl (za5 (xs:=[.tmp 4]) (zhx _) (.cons (vq 1 rfl) .nil)) (oc (ob_a rfl rfl (za8 (lz0 0 rfl) zbq)) (zv rfl (za4 3 rfl zk trivial (lz0 0 rfl) (Sub.part 1 rfl rfl) zaa) (zv rfl (za5 (xs:=[.tmp 7]) (zhx _) (.cons (vq 4 rfl) .nil)) (zv rfl (zb9 (vq 2 rfl) (vq 5 rfl) (rfl)) (zv rfl (za2 (vq 6 rfl)) o0)))))))) zk zk zk zk (fun a w hst=>?_)
 have hst:St B w0 10 [(2,_)] [⟨1,39,ptrH,_⟩] a w:=hst
 refine za0 ?_
 refine wp_ret ?_
 refine zah ?_ (zaj rfl hst (zm 0 rfl))
 exact zb1
theorem losSize_c (xs:List RLo):Cn Tryz.prog 42 [(SlA 41 [U32] (xs.map LoA)).va] (In (loszF (xs.length:Nat) xs)):=by
 refine Cn.intro Tryz.func42 rfl zk nq (fun B w0 a hst=>?_)
 have hst:St B w0 33 [(0,(SlA 41 [U32] (xs.map LoA)).va)] [] a w0.w:=hst
 have hl:=slA_lenm (hst.vals (0,(SlA 41 [U32] (xs.map LoA)).va) (zm 0 rfl))
 refine wp_seq ?_
 refine gl (sts:=[]) (news:=[]) (sp:=[.val 2 _]) [.g 0,.o 0] hst (zv rfl (za2 za3) o0) (fun a w hst=>?_)
 have hst:St B w0 33 [(0,_),(2,_)] [] a w:=hst
 refine zt<|gl (sts:=[]) (news:=[]) (sp:=[.val 5 _,.val 6 _,.val 3 _]) [.g 0,.g 1,.o 2] hst (zv rfl (za1 (gq 0 rfl)) (zv rfl (zeb Tryz.underlying22 (vq 0 rfl)) (zv rfl (za2 (vq 1 rfl)) o0))) (fun a w hst=>?_)
 have hst:St B w0 33 [(0,_),(2,_),(3,_)] [] a w:=hst
 refine zt ?_
 refine wp_seq ?_
 refine gl (sts:=[]) (news:=[]) (sp:=[.val 4 _]) [.g 0,.g 1,.g 2,.o 0] hst (zv rfl (za2 za3) o0) (fun a w hst=>?_)
 have hst:St B w0 33 [(0,_),(2,_),(3,_),(4,_)] [] a w:=hst
 refine za0 ?_
 refine wp_block ?_
 have hst:=St.sel hst [0,2,3]
 refine wp_loop_ghost (fun n a w=>∃ (j:Nat) (m:Int),(n+j=xs.length∧loszF (xs.length:Nat) xs=loszF m (xs.drop j))∧St B w0 33 [(0,(SlA 41 [U32] (xs.map LoA)).va),(3,In m),(4,In (j:Nat))] [] a w) (xs.length) ?_ ?_
 ·exact ⟨0,(xs.length:Nat),⟨by omega,rfl⟩,by rw [List.length_map] at hst; exact hst⟩
 intro n a w hI
 obtain ⟨j,m,⟨hn,hm⟩,hst⟩:=hI
 refine wp_seq ?_
 refine wp_seq ?_
 refine gl (sts:=[]) (news:=[]) (sp:=[.val 7 _,.val 8 _,.val 9 _,.val 10 _,.val 11 _,.val 12 (Wh (_=true) _),.val 13 (Wh (_=true) _),.val 14 _]) [.g 0,.g 1,.g 2,.o 7] hst (zv rfl (za1 (gq 2 rfl)) (zv rfl (za1 (gq 0 rfl)) (zv rfl (zeb Tryz.underlying22 (vq 1 rfl)) (zv rfl (zc0 (vq 0 rfl) (vq 2 rfl)) (zv rfl (za1 (vq 3 rfl)) (oc (zam rfl rfl rfl (vq 4 rfl) nq (fun hg=>za1 (gq 1 rfl))) (oc (zam rfl rfl rfl (vq 4 rfl) nq (fun hg=>zhk (zag (vq 5 rfl) hg) za3)) (zv rfl (zcm (vq 4 rfl) (vq 6 rfl)) o0)))))))) (fun a w hst=>?_)
 have hst:St B w0 33 [(0,_),(3,_),(4,_),(14,_)] [] a w:=hst
 refine za0 ?_
 refine zab hst (zm 3 rfl) (fun hb0=>?_) (fun hb0=>?_)
 ·rw [Bool.and_eq_true,decide_eq_true_eq,decide_eq_true_eq,List.length_map] at hb0
  have hj:j<xs.length:=by omega
  have hm0:=hb0.2
  refine wp_skip ?_
  refine zt ?_
  refine wp_block ?_
  refine zav (anc:=[[],[],[],[1,2],[1,2,3],[1,2,3,4],[1,2,3,4,5],[0,1,2,3,4,5,6],[],[],[8,9],[8,9,10],[8,9,10,11],[1,2,3,4,5,6,8,9,10,11,12],[0,1,2,3,4,5,6,7,8,9,10,11,12,13],[0,1,2,3,4,5,6,7,8,9,10,11,12,13,14]]) (sts:=[]) (news:=[]) (sp:=[.val 17 _,.val 18 _,.val 19 _,.val 20 _,.val 21 _,.val 22 _,.val 23 _,.val 24 _,.val 25 _,.val 26 _,.val 27 _,.val 28 _,.val 29 _,.val 30 _,.val 31 _,.val 3 _]) [.g 0,.g 2,.o 15] za6 hst (zv rfl (za1 (gq 1 rfl)) (zv rfl (za1 (gq 0 rfl)) (zv rfl (za1 (gq 2 rfl)) (zv rfl (zdt zf4 (zed fun _=>rfl) (vq 1 rfl) (vq 2 rfl) (zd2 hj)) (zv rfl (zbo (vq 3 rfl) zcf (Sub.part 1 rfl rfl)) (zv rfl (zat (vq 4 rfl) zbl) (zv rfl (za5 (xs:=[.tmp 22]) (zjw _) (.cons (vq 5 rfl) .nil)) (zv rfl (zb9 (vq 0 rfl) (vq 6 rfl) (rfl)) (zv rfl (za1 (gq 0 rfl)) (zv rfl (za1 (gq 2 rfl)) (zv rfl (zdt zf4 (zed fun _=>rfl) (vq 8 rfl) (vq 9 rfl) (zd2 hj)) (zv rfl (zbo (vq 10 rfl) zcx (Sub.part 2 rfl rfl)) (zv rfl (zat (vq 11 rfl) zbl) (zv rfl (za5 (xs:=[.tmp 29]) (zjw _) (.cons (vq 12 rfl) .nil)) (zv rfl (zb9 (vq 7 rfl) (vq 13 rfl) (rfl)) (zv rfl (za2 (vq 14 rfl)) o0)))))))))))))))) zk zk zk zk (fun a w hst=>?_)
  have hst:St B w0 33 [(0,_),(4,_),(3,_)] [] a w:=hst
  refine zan ?_
  refine za0 ?_
  refine gl (sts:=[]) (news:=[]) (sp:=[.val 15 _,.val 16 _,.val 4 _]) [.g 0,.g 2,.o 2] hst (zv rfl (za1 (gq 1 rfl)) (zv rfl (zb9 (vq 0 rfl) za3 (wi_nx hj hl)) (zv rfl (za2 (vq 1 rfl)) o0))) (fun a w hst=>?_)
  have hst:St B w0 33 [(0,_),(3,_),(4,_)] [] a w:=hst
  refine za0 ?_
  have hst:=St.sel hst [0,1,2]
  exact ⟨n-1,by omega,j+1,_,⟨by omega,hm.trans (losz_go hj hm0)⟩,hst⟩
 ·have hnj:¬ (j<xs.length∧m≤1048576):=by rintro ⟨h1,h2⟩; rw [List.length_map,decide_eq_true (by omega:(j:Int)<(xs.length:Int)),decide_eq_true h2] at hb0; exact absurd hb0 zd
  refine wp_exit ?_
  refine zai ?_
  refine zai ?_
  refine zb0 ?_
  refine zt<|gl (sts:=[]) (news:=[]) (sp:=[.val 32 _,.val 2 _]) [.o 1] hst (zv rfl (za1 (gq 1 rfl)) (zv rfl (za2 (vq 0 rfl)) o0)) (fun a w hst=>?_)
  have hst:St B w0 33 [(2,_)] [] a w:=hst
  refine za0 ?_
  refine wp_ret ?_
  refine zah ?_ (zaj rfl hst (zm 0 rfl))
  exact zd4 (congrArg In (hm.trans (losz_end hnj)).symm)
theorem fe_g {xs:List RLo}{c:Bool}(h:(c&&(tchF xs==0))=true):xs.length≤4096:=by
 rw [Bool.and_eq_true,beq_iff_eq] at h
 exact (tch_ok h.2).1
theorem loose_c (xs:List RLo)(h4:xs.length≤4096):Cn Tryz.prog 29 [(SlA 41 [U32] (xs.map LoA)).va] (In ((looN xs:Nat):Int)):=by
 refine Cn.intro Tryz.func29 rfl zk nq (fun B w0 a hst=>?_)
 have hst:St B w0 44 [(0,(SlA 41 [U32] (xs.map LoA)).va)] [] a w0.w:=hst
 refine wp_seq ?_
 refine gl (sts:=[]) (news:=[]) (sp:=[.val 2 _]) [.g 0,.o 0] hst (zv rfl (za2 za3) o0) (fun a w hst=>?_)
 have hst:St B w0 44 [(0,_),(2,_)] [] a w:=hst
 refine zt<|gl (sts:=[]) (news:=[]) (sp:=[.val 3 _]) [.g 0,.g 1,.o 0] hst (zv rfl (za2 za3) o0) (fun a w hst=>?_)
 have hst:St B w0 44 [(0,_),(2,_),(3,_)] [] a w:=hst
 refine zt ?_
 refine wp_seq ?_
 refine gl (sts:=[]) (news:=[]) (sp:=[.val 4 _]) [.g 0,.g 1,.g 2,.o 0] hst (zv rfl (za2 za3) o0) (fun a w hst=>?_)
 have hst:St B w0 44 [(0,_),(2,_),(3,_),(4,_)] [] a w:=hst
 refine za0 ?_
 refine wp_block ?_
 have hst:=St.sel hst [0,2,3]
 refine wp_loop_ghost (fun n a w=>∃ (j:Nat),(n+j=xs.length)∧St B w0 44 [(0,(SlA 41 [U32] (xs.map LoA)).va),(3,In ((looN (xs.take j):Nat):Int)),(4,In (j:Nat))] [] a w) (xs.length) ?_ ?_
 ·exact ⟨0,by omega,hst⟩
 intro n a w hI
 obtain ⟨j,hn,hst⟩:=hI
 refine wp_seq ?_
 refine wp_seq ?_
 refine gl (sts:=[]) (news:=[]) (sp:=[.val 5 _,.val 6 _,.val 7 _,.val 8 _]) [.g 0,.g 1,.g 2,.o 3] hst (zv rfl (za1 (gq 2 rfl)) (zv rfl (za1 (gq 0 rfl)) (zv rfl (zeb Tryz.underlying22 (vq 1 rfl)) (zv rfl (zc0 (vq 0 rfl) (vq 2 rfl)) o0)))) (fun a w hst=>?_)
 have hst:St B w0 44 [(0,_),(3,_),(4,_),(8,_)] [] a w:=hst
 refine za0 ?_
 refine zab hst (zm 3 rfl) (fun hb0=>?_) (fun hb0=>?_)
 ·have hj:j<xs.length:=by rw [List.length_map] at hb0; have:=of_decide_eq_true hb0; omega
  have hlt:=loo_take xs j
  have g1':=zis xs[j].p
  have g2':=zis xs[j].q
  refine wp_skip ?_
  refine zt ?_
  refine wp_block ?_
  refine wp_seq ?_
  refine wp_seq ?_
  refine zav (anc:=[[],[],[0,1],[0,1,2],[0,1,2,3],[0,1,2,3,4],[],[],[6,7],[6,7,8],[6,7,8,9],[6,7,8,9,10],[0,1,2,3,4,5,6,7,8,9,10,11],[0,1,2,3,4,5,6,7,8,9,10,11,12]]) (sts:=[]) (news:=[]) (sp:=[.val 11 _,.val 12 _,.val 13 _,.val 14 _,.val 15 _,.val 16 _,.val 17 _,.val 18 _,.val 19 _,.val 20 _,.val 21 _,.val 22 _,.val 23 _,.val 24 _]) [.g 0,.g 1,.g 2,.o 13] za6 hst (zv rfl (za1 (gq 0 rfl)) (zv rfl (za1 (gq 2 rfl)) (zv rfl (zdt zf4 (zed fun _=>rfl) (vq 0 rfl) (vq 1 rfl) (zd2 hj)) (zv rfl (zbo (vq 2 rfl) zcf (Sub.part 1 rfl rfl)) (zv rfl (zbo (vq 3 rfl) zbj (Sub.part 0 rfl rfl)) (zv rfl (zat (vq 4 rfl) zaa) (zv rfl (za1 (gq 0 rfl)) (zv rfl (za1 (gq 2 rfl)) (zv rfl (zdt zf4 (zed fun _=>rfl) (vq 6 rfl) (vq 7 rfl) (zd2 hj)) (zv rfl (zbo (vq 8 rfl) zcf (Sub.part 1 rfl rfl)) (zv rfl (zbo (vq 9 rfl) zbq (Sub.part 1 rfl rfl)) (zv rfl (zat (vq 10 rfl) zaa) (zv rfl (za5 (xs:=[.tmp 16,.tmp 22]) (zep _ _) (.cons (vq 5 rfl) (.cons (vq 11 rfl) .nil))) (zv rfl (zdp (vq 12 rfl)) o0)))))))))))))) zk zk zk zk (fun a w hst=>?_)
  have hst:St B w0 44 [(0,_),(3,_),(4,_),(24,_)] [] a w:=hst
  refine za0 ?_
  refine zc6 (fun a w =>  St B w0 44 [(0,(SlA 41 [U32] (xs.map LoA)).va),(3,In ((looN (xs.take j)+looG xs[j].p:Nat):Int)),(4,In (j:Nat))] [] a w) hst (zm 3 rfl) (fun hb1=>?_) (fun hb1=>?_) (fun a w hst=>?_)
  ·refine gl (sts:=[]) (news:=[]) (sp:=[.val 25 _,.val 26 _,.val 3 _]) [.g 0,.g 2,.o 2] hst (zv rfl (za1 (gq 1 rfl)) (zv rfl (zb9 (vq 0 rfl) za3 ((wi64 zo zo).trans (by omega:(_:Int)=((looN (xs.take j)+1:Nat):Int)))) (zv rfl (za2 (vq 1 rfl)) o0))) (fun a w hst=>?_)
   have hst:St B w0 44 [(0,_),(4,_),(3,_)] [] a w:=hst
   refine za0 ?_
   have hst:=St.sel hst [0,2,1]
   rw [looG_1 hb1]; exact hst
  ·refine wp_skip ?_
   refine za0 ?_
   have hst:=St.sel hst [0,1,2]
   rw [looG_0 hb1]; exact hst
  refine zt<|zav (anc:=[[],[],[0,1],[0,1,2],[0,1,2,3],[0,1,2,3,4],[],[],[6,7],[6,7,8],[6,7,8,9],[6,7,8,9,10],[0,1,2,3,4,5,6,7,8,9,10,11],[0,1,2,3,4,5,6,7,8,9,10,11,12]]) (sts:=[]) (news:=[]) (sp:=[.val 27 _,.val 28 _,.val 29 _,.val 30 _,.val 31 _,.val 32 _,.val 33 _,.val 34 _,.val 35 _,.val 36 _,.val 37 _,.val 38 _,.val 39 _,.val 40 _]) [.g 0,.g 1,.g 2,.o 13] za6 hst (zv rfl (za1 (gq 0 rfl)) (zv rfl (za1 (gq 2 rfl)) (zv rfl (zdt zf4 (zed fun _=>rfl) (vq 0 rfl) (vq 1 rfl) (zd2 hj)) (zv rfl (zbo (vq 2 rfl) zcx (Sub.part 2 rfl rfl)) (zv rfl (zbo (vq 3 rfl) zbj (Sub.part 0 rfl rfl)) (zv rfl (zat (vq 4 rfl) zaa) (zv rfl (za1 (gq 0 rfl)) (zv rfl (za1 (gq 2 rfl)) (zv rfl (zdt zf4 (zed fun _=>rfl) (vq 6 rfl) (vq 7 rfl) (zd2 hj)) (zv rfl (zbo (vq 8 rfl) zcx (Sub.part 2 rfl rfl)) (zv rfl (zbo (vq 9 rfl) zbq (Sub.part 1 rfl rfl)) (zv rfl (zat (vq 10 rfl) zaa) (zv rfl (za5 (xs:=[.tmp 32,.tmp 38]) (zep _ _) (.cons (vq 5 rfl) (.cons (vq 11 rfl) .nil))) (zv rfl (zdp (vq 12 rfl)) o0)))))))))))))) zk zk zk zk (fun a w hst=>?_)
  have hst:St B w0 44 [(0,_),(3,_),(4,_),(40,_)] [] a w:=hst
  refine za0 ?_
  refine zc6 (fun a w =>  St B w0 44 [(0,(SlA 41 [U32] (xs.map LoA)).va),(3,In ((looN (xs.take j)+looG xs[j].p+looG xs[j].q:Nat):Int)),(4,In (j:Nat))] [] a w) hst (zm 3 rfl) (fun hb2=>?_) (fun hb2=>?_) (fun a w hst=>?_)
  ·refine gl (sts:=[]) (news:=[]) (sp:=[.val 41 _,.val 42 _,.val 3 _]) [.g 0,.g 2,.o 2] hst (zv rfl (za1 (gq 1 rfl)) (zv rfl (zb9 (vq 0 rfl) za3 ((wi64 zo zo).trans (by omega:(_:Int)=((looN (xs.take j)+looG xs[j].p+1:Nat):Int)))) (zv rfl (za2 (vq 1 rfl)) o0))) (fun a w hst=>?_)
   have hst:St B w0 44 [(0,_),(4,_),(3,_)] [] a w:=hst
   refine za0 ?_
   have hst:=St.sel hst [0,2,1]
   rw [looG_1 hb2]; exact hst
  ·refine wp_skip ?_
   refine za0 ?_
   have hst:=St.sel hst [0,1,2]
   rw [looG_0 hb2]; exact hst
  refine zan ?_
  refine za0 ?_
  refine gl (sts:=[]) (news:=[]) (sp:=[.val 9 _,.val 10 _,.val 4 _]) [.g 0,.g 1,.o 2] hst (zv rfl (za1 (gq 2 rfl)) (zv rfl (zb9 (vq 0 rfl) za3 ((wi64 zo zo).trans (by omega:(_:Int)=((j+1:Nat):Int)))) (zv rfl (za2 (vq 1 rfl)) o0))) (fun a w hst=>?_)
  have hst:St B w0 44 [(0,_),(3,_),(4,_)] [] a w:=hst
  refine za0 ?_
  have hst:=St.sel hst [0,1,2]
  rw [Nat.add_assoc,← loo_nx hj] at hst
  exact ⟨n-1,by omega,j+1,by omega,hst⟩
 ·obtain rfl:j=xs.length:=by rw [List.length_map] at hb0; have:=of_decide_eq_false hb0; omega
  refine wp_exit ?_
  refine zai ?_
  refine zai ?_
  refine zb0 ?_
  refine zt<|gl (sts:=[]) (news:=[]) (sp:=[.val 43 _,.val 2 _]) [.o 1] hst (zv rfl (za1 (gq 1 rfl)) (zv rfl (za2 (vq 0 rfl)) o0)) (fun a w hst=>?_)
  have hst:St B w0 44 [(2,_)] [] a w:=hst
  refine za0 ?_
  refine wp_ret ?_
  refine zah ?_ (zaj rfl hst (zm 0 rfl))
  rw [List.take_length]; exact zb1
theorem few_c (xs:List RLo):Cn Tryz.prog 14 [(SlA 41 [U32] (xs.map LoA)).va] (Bo (feF xs)):=by
 refine Cn.intro Tryz.func14 rfl zk nq (fun B w0 a hst=>?_)
 have hst:St B w0 21 [(0,(SlA 41 [U32] (xs.map LoA)).va)] [] a w0.w:=hst
 refine wp_seq ?_
 refine gl (sts:=[]) (news:=[]) (sp:=[.val 2 _]) [.g 0,.o 0] hst (zv rfl (za2 zbm) o0) (fun a w hst=>?_)
 have hst:St B w0 21 [(0,_),(2,_)] [] a w:=hst
 refine zt<|gl (sts:=[]) (news:=[]) (sp:=[.val 3 _,.val 4 _,.val 5 _,.val 6 _,.val 7 (Wh (_=true) _),.val 8 (Wh (_=true) _),.val 9 (Wh (_=true) _),.val 10 _,.val 11 _,.val 12 (Wh (_=true) _),.val 13 (Wh (_=true) _),.val 14 (Wh (_=true) _),.val 15 _,.val 16 _,.val 17 (Wh (_=true) _),.val 18 (Wh (_=true) _),.val 19 (Wh (_=true) _),.val 20 _,.val 2 _]) [.o 18] hst (zv rfl (za1 (gq 0 rfl)) (zv rfl (za5 (xs:=[.tmp 3]) (losSize_c xs) (.cons (vq 0 rfl) .nil)) (zv rfl (zhk (vq 1 rfl) za3) (zv rfl (za1 (vq 2 rfl)) (oc (zam rfl rfl rfl (vq 3 rfl) nq (fun hg=>za1 (gq 0 rfl))) (oc (zam rfl rfl rfl (vq 3 rfl) nq (fun hg=>za5 (xs:=[.tmp 7]) (zem xs) (.cons (zag (vq 4 rfl) hg) .nil))) (oc (zam rfl rfl rfl (vq 3 rfl) nq (fun hg=>zcu (zag (vq 5 rfl) hg) za3)) (zv rfl (zcm (vq 3 rfl) (vq 6 rfl)) (zv rfl (za1 (vq 7 rfl)) (oc (zam rfl rfl rfl (vq 8 rfl) nq (fun hg=>za1 (gq 0 rfl))) (oc (zam rfl rfl rfl (vq 8 rfl) nq (fun hg=>za5 (xs:=[.tmp 12]) (loose_c xs (fe_g hg)) (.cons (zag (vq 9 rfl) hg) .nil))) (oc (zam rfl rfl rfl (vq 8 rfl) nq (fun hg=>zhk (zag (vq 10 rfl) hg) za3)) (zv rfl (zcm (vq 8 rfl) (vq 11 rfl)) (zv rfl (za1 (vq 12 rfl)) (oc (zam rfl rfl rfl (vq 13 rfl) nq (fun hg=>za1 (gq 0 rfl))) (oc (zam rfl rfl rfl (vq 13 rfl) nq (fun hg=>zeb Tryz.underlying22 (zag (vq 14 rfl) hg))) (oc (zam rfl rfl rfl (vq 13 rfl) nq (fun hg=>zhk (zag (vq 15 rfl) hg) za3)) (zv rfl (zcm (vq 13 rfl) (vq 16 rfl)) (zv rfl (za2 (vq 17 rfl)) o0))))))))))))))))))) (fun a w hst=>?_)
 have hst:St B w0 21 [(2,_)] [] a w:=hst
 refine za0 ?_
 refine wp_ret ?_
 refine zah ?_ (zaj rfl hst (zm 0 rfl))
 simp only [List.length_map]; exact zb1
end Go.Proofs.YtlpppkkggljdcaaGreat
