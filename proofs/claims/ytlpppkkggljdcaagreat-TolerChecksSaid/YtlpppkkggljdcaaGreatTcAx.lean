import Derived.Test.YtlpppkkggljdcaaGreatTcAa
import Derived.Test.YtlpppkkggljdcaaGreatTcAc
import Derived.Test.YtlpppkkggljdcaaGreatTcAl
import Derived.Test.YtlpppkkggljdcaaGreatTcAo
import Derived.Test.YtlpppkkggljdcaaGreatTcAr
import Derived.Test.YtlpppkkggljdcaaGreatTcAt
import Derived.Test.YtlpppkkggljdcaaGreatTcAw
import Derived.ProofKit
import Derived.OpenShut
import Derived.ChangeOld
import Derived.Below
import Derived.Deep.Slices
import Derived.SizedLaws
set_option linter.unusedVariables false
set_option linter.unusedSimpArgs false
set_option linter.unusedSectionVars false
set_option maxRecDepth 100000
namespace Go.Proofs.YtlpppkkggljdcaaGreat
open Go Go.RowKit
section
variable {P:Program} {R:Rg} {Q:Exit→Act→World→Prop} {B i:Nat} {w0:Bs}
theorem a_elmM {b t k n c m:Nat}{T S E:TypeId}{A:As}{y:Operand}{kd:IntKind}(j:Nat)(hj:R.sp[j]?=some (.adr t b .none True))(hji:(R.anc i).contains j=true)(hl:LocH R i b T (slH n c) A)(hS:Sl P S E m)(hy:Has R B w0 i y (NumA kd k).va)(hk:k<n)(hm:m≠0) :
  Ad P Q R B w0 i (.indexAddr S (.tmp t) y) b (.some (k*m)):=by
 intro d ty ps af gd a w av K hK
 obtain ⟨g,cs,h1,_⟩:=hl.ok av
 have h2:=av.d j t b .none True hji hj trivial
 have h3:a.eval (.tmp t)=.slice (some ⟨g,0,none⟩) n c:=h2.trans h1
 have e:=zbj (hy a w av)
 obtain ⟨hs1,hs2⟩:=hS
 rw [h1] at hK
 refine zbc (w':=w) (v:=.pointer (some ⟨g,k*m,none⟩)) ?_ (by simpa [slH,offP,add0] using hK)
 cases hi:P.info? E with
 | none=>rw [hi] at hs2; simp at hs2
 | some it =>
  rw [hi] at hs2
  have hsz:it.size=m:=by simpa using hs2
  by_cases h0:k=0
  ·subst h0; simp [execOp,h3,e,Instr.indexAt,asIntOf,run_underlying hs1,hk,sizeOf,typeInfo,hi,Addr.add]
  ·have:k*m≠0:=Nat.mul_ne_zero h0 hm
   simp [execOp,h3,e,Instr.indexAt,asIntOf,run_underlying hs1,hk,sizeOf,typeInfo,hi,hsz,Addr.add,h0,hm]
   try exact this
theorem a_fldE {b t k1 n c m:Nat}{T' T:TypeId}{f k:Nat}{A:As}(j:Nat)(hj:R.sp[j]?=some (.adr t b (.some k1) True))(hji:(R.anc i).contains j=true)(hl:LocH R i b T' (slH n c) A)(hf:Fld P T f k m):Ad P Q R B w0 i (.fieldAddr T (.tmp t) f) b (.some (k1+k)):=by
 intro d ty ps af gd a w av K hK
 obtain ⟨g,cs,h1,_⟩:=hl.ok av
 have h2:=av.d j t b (.some k1) True hji hj trivial
 rw [h1] at h2
 have h2':a.eval (.tmp t)=.pointer (some ⟨g,k1,none⟩):=by rw [h2]; simp [slH,offP,add0]
 refine zbc (w':=w) (v:=.pointer (some ⟨g,k1+k,none⟩)) ?_ ?_
 ·simp [execOp,h2',zec hf g k1 w]
 ·rw [h1] at hK
  simpa [slH,offP,add0] using hK
theorem zk0 {t b n c:Nat}{E:TypeId}{D:List TypeId}{l:List As}(j:Nat)(hj:R.sp[j]?=some (.adr t b .none True))(hji:(R.anc i).contains j=true)(hl:LocH R i b E (slH n c) (cat l))(h:n=l.length∧n≤c∧c≤maxLen∧(l.all fun A=>A.deps.all fun T=>D.contains T)=true):Has R B w0 i (.tmp t) (SlA E D l).va:=fun a w av=>by
 obtain ⟨g,cs,h1,_,h3,h4⟩:=hl.ok av
 have h2:=av.d j t b .none True hji hj trivial
 obtain ⟨hn,hc,hm,hd⟩:=h
 refine ⟨[.slice (some ⟨g,0,none⟩) n c],⟨fun A hA T hT=>?_,some ⟨g,0,none⟩,c,cs,by simp [hn],by simpa [hn] using hc,hm,h4,fun _=>⟨g,0,rfl,(Array.getElem?_eq_some_iff.1 h3).1,.inr ⟨_,_,h3⟩,fun j v hv=>?_⟩⟩,h2.trans h1⟩
 ·have:=List.all_eq_true.1 (List.all_eq_true.1 hd A hA) T hT
  simpa using this
 ·rw [Nat.zero_add,cell_of_row w g j cs.toArray E _ h3]
  simpa using hv
end
theorem St.ofLoc {B N:Nat}{w0:Bs}{Γ:List (Nat × VA)}{Λ:List Lc}{a:Act}{w:World}(h:St B w0 N Γ Λ a w){s n c:Nat}{E:TypeId}{D:List TypeId}{l:List As}(k:Nat)(hm:Λ[k]?=some ⟨s,E,slH n c,cat l⟩)(hx:n=l.length∧n≤c∧c≤maxLen∧(l.all fun A=>A.deps.all fun T=>D.contains T)=true) :
  St B w0 N ((s,(SlA E D l).va)::Γ) (Λ.eraseIdx k) a w:=by
 have hsub:∀ l'∈Λ.eraseIdx k,l'∈Λ:=fun l' hl'=>List.mem_of_mem_eraseIdx hl'
 refine ⟨h.lo,h.defers,h.size,h.base,fun x hx'=>?_,fun l' hl'=>h.locs l' (hsub l' hl'),fun l1 h1 l2 h2 hne=>h.dis l1 (hsub l1 h1) l2 (hsub l2 h2) hne⟩
 rcases List.mem_cons.1 hx' with rfl | hx'
 ·obtain ⟨g,cs,h1,_,h3,h4⟩:=h.locs _ (List.mem_of_getElem? hm)
  obtain ⟨hn,hc,hmx,hd⟩:=hx
  refine ⟨[.slice (some ⟨g,0,none⟩) n c],⟨fun A hA T hT=>?_,some ⟨g,0,none⟩,c,cs,by simp [hn],by simpa [hn] using hc,hmx,h4,fun _=>⟨g,0,rfl,(Array.getElem?_eq_some_iff.1 h3).1,.inr ⟨_,_,h3⟩,fun j v hv=>?_⟩⟩,h1⟩
  ·have:=List.all_eq_true.1 (List.all_eq_true.1 hd A hA) T hT
   simpa using this
  ·rw [Nat.zero_add,cell_of_row w g j cs.toArray E _ h3]
   simpa using hv
 ·exact h.vals x hx'
theorem Put.head {A A' A1:As}{l:List As}{k:Nat}(h:Put A k A' A1):Put (cat (A::l)) k A' (cat (A1::l)):=by
 intro B cs c w hcs hc
 obtain ⟨ps,rfl,h2⟩:=hcs
 cases h2 with
 | @cons _ c0 _ bs hh ht =>
  obtain ⟨h3,h4⟩:=h B c0 c w hh hc
  have lc:=A'.len _ _ _ hc
  refine ⟨by simp; omega,splice c0 k c::bs,?_,.cons h4 ht⟩
  simp only [splice,List.flatten_cons]
  rw [List.take_append_of_le_length zo,List.drop_append_of_le_length zo]
  simp [List.append_assoc]
abbrev r1 (p:Int):RF:=rfOf (Rat.divInt p 1)
abbrev g1 (p q:Int):RGp:=⟨r1 p,r1 q⟩
abbrev al2 (p q:Int):List RLo:=[⟨2,g1 p q,g1 0 0⟩,⟨1,g1 1 1,g1 0 0⟩]
theorem zfz {p:Int}(hp : -9223372036854775808≤p)(hp1:p<9223372036854775808):Cn Tryz.prog 41 [In p] ((RFA (r1 p)).va):=by
 refine Cn.intro Tryz.func41 rfl zk nq (fun B w0 a hst=>?_)
 have hst:St B w0 11 [(0,In p)] [] a w0.w:=hst
 refine wp_seq ?_
 refine gl (sts:=[]) (news:=[⟨2,37,ptrH,some 0,_,none⟩]) (sp:=[.alc 0]) [.g 0] hst (oc (zap rfl rfl rfl (Str.zero zb9)) o0) (fun a w hst=>?_)
 have hst:St B w0 11 [(0,_)] [⟨2,37,ptrH,_⟩] a w:=hst
 refine zt<|gl (sts:=[none]) (news:=[⟨3,37,ptrH,some 5,_,some (6,_)⟩]) (sp:=[.val 6 _,.val 7 _,.val 5 _,.val 8 _,.val 9 _,.alc 1,.sto 1,.val 4 _]) [] hst (zv rfl (za2 (gq 0 rfl)) (zv rfl (za5 (xs:=[.tmp 6,.const (.int .i64 (1))]) (ofQ_c hp hp1 zd zd zd) (.cons (vq 0 rfl) (.cons za3 .nil))) (zv rfl (za2 (vq 1 rfl)) (zv rfl (r_ex0 (vq 2 rfl)) (zv rfl (r_ex1 (vq 2 rfl)) (oc (zap rfl rfl rfl (Str.zero zb9)) (oc (zaf rfl rfl rfl (vq 3 rfl) zao (Eq.trans (b:=4) rfl rfl)) (zv rfl (za1 (vq 4 rfl)) o0)))))))) (fun a w hst=>?_)
 have hst:St B w0 11 [] [⟨2,37,ptrH,_⟩,⟨3,37,ptrH,_⟩] a w:=hst
 refine zt<|gl (sts:=[some (1,_),none]) (news:=[]) (sp:=[.val 10 _,.sto 0]) [] hst (zv rfl (zaq (lz0 1 rfl) zao) (oc (zaf rfl rfl rfl (vq 0 rfl) zao (Eq.trans (b:=4) rfl rfl)) o0)) (fun a w hst=>?_)
 have hst:St B w0 11 [] [⟨2,37,ptrH,_⟩,⟨3,37,ptrH,_⟩] a w:=hst
 refine za0 ?_
 refine wp_ret ?_
 refine zai ?_ (zam rfl hst (zm 0 rfl) zao)
 exact zb6
theorem zfj {p q:Int}(hp : -9223372036854775808≤p)(hp1:p<9223372036854775808)(hq : -9223372036854775808≤q)(hq1:q<9223372036854775808):Cn Tryz.prog 40 [In p,In q] ((GpA (g1 p q)).va):=by
 refine Cn.intro Tryz.func40 rfl zk nq (fun B w0 a hst=>?_)
 have hst:St B w0 10 [(0,In p),(1,In q)] [] a w0.w:=hst
 refine wp_seq ?_
 refine gl (sts:=[]) (news:=[⟨4,39,ptrH,some 0,_,none⟩]) (sp:=[.alc 0]) [.g 0,.g 1] hst (oc (zap rfl rfl rfl (Str.zero zd0)) o0) (fun a w hst=>?_)
 have hst:St B w0 10 [(0,_),(1,_)] [⟨4,39,ptrH,_⟩] a w:=hst
 refine zt<|gl (sts:=[some (5,_)]) (news:=[]) (sp:=[.val 5 _,.val 6 _,.val 7 _,.val 8 _,.val 9 _,.sto 0]) [] hst (zv rfl (za2 (gq 0 rfl)) (zv rfl (za5 (xs:=[.tmp 5]) (zfz hp hp1) (.cons (vq 0 rfl) .nil)) (zv rfl (za2 (gq 1 rfl)) (zv rfl (za5 (xs:=[.tmp 7]) (zfz hq hq1) (.cons (vq 2 rfl) .nil)) (zv rfl (zbb (xs:=[(0,.tmp 6),(1,.tmp 8)]) (qs:=[(0,_),(1,_)]) zd0 (.cons ⟨rfl,(vq 1 rfl),rfl⟩ (.cons ⟨rfl,(vq 3 rfl),rfl⟩ .nil))) (oc (zaf rfl rfl rfl (vq 4 rfl) zc6 (Eq.trans (b:=8) rfl rfl)) o0)))))) (fun a w hst=>?_)
 have hst:St B w0 10 [] [⟨4,39,ptrH,_⟩] a w:=hst
 refine za0 ?_
 refine wp_ret ?_
 refine zai ?_ (zam rfl hst (zm 0 rfl) zc6)
 exact zb6
set_option maxHeartbeats 4000000 in
theorem alive24_c  : Cn Tryz.prog 13 [] (Bo true):=by
 refine Cn.intro Tryz.func13 rfl zk nq (fun B w0 a hst=>?_)
 have hst:St B w0 72 [] [] a w0.w:=hst
 refine wp_seq ?_
 refine gl (sts:=[]) (news:=[]) (sp:=[.val 0 _]) [.o 0] hst (zv rfl (za1 zba) o0) (fun a w hst=>?_)
 have hst:St B w0 72 [(0,_)] [] a w:=hst
 refine zt<|gl (sts:=[]) (news:=[]) (sp:=[.val 8 _,.val 9 _,.val 10 _,.val 11 _,.val 12 _,.val 13 _,.val 14 _,.val 1 _]) [.g 0,.o 7] hst (zv rfl (za5 (xs:=[.const (.int .i64 (1)),.const (.int .i64 (3))]) (zfj zd zd zd zd) (.cons za3 (.cons za3 .nil))) (zv rfl (za5 (xs:=[.const (.int .i64 (0)),.const (.int .i64 (0))]) (zfj zd zd zd zd) (.cons za3 (.cons za3 .nil))) (zv rfl (zbb (xs:=[(0,.const (.int .u8 (2))),(1,.tmp 8),(2,.tmp 9)]) (qs:=[(0,_),(1,_),(2,_)]) zcw (.cons ⟨rfl,za3,rfl⟩ (.cons ⟨rfl,(vq 0 rfl),rfl⟩ (.cons ⟨rfl,(vq 1 rfl),rfl⟩ .nil)))) (zv rfl (za5 (xs:=[.const (.int .i64 (1)),.const (.int .i64 (1))]) (zfj zd zd zd zd) (.cons za3 (.cons za3 .nil))) (zv rfl (za5 (xs:=[.const (.int .i64 (0)),.const (.int .i64 (0))]) (zfj zd zd zd zd) (.cons za3 (.cons za3 .nil))) (zv rfl (zbb (xs:=[(0,.const (.int .u8 (1))),(1,.tmp 11),(2,.tmp 12)]) (qs:=[(0,_),(1,_),(2,_)]) zcw (.cons ⟨rfl,za3,rfl⟩ (.cons ⟨rfl,(vq 3 rfl),rfl⟩ (.cons ⟨rfl,(vq 4 rfl),rfl⟩ .nil)))) (zv rfl (r_sliceN (l:=[_,_]) (xs:=[.tmp 10,.tmp 13]) zeu zk (n_ok zk) nq nq nq (.cons (vq 2 rfl) (.cons (vq 5 rfl) .nil)) rfl rfl) (zv rfl (za1 (vq 6 rfl)) o0)))))))) (fun a w hst=>?_)
 have hst:St B w0 72 [(0,_),(1,_)] [] a w:=hst
 have hst:=St.toLoc hst 1 rfl zk
 have hst:St B w0 72 [(0,_)] [⟨1,41,slH 2 2,_⟩] a w:=hst
 refine zt<|gl (sts:=[none]) (news:=[⟨2,39,ptrH,some 5,_,some (6,_)⟩]) (sp:=[.adr 16 1 .none True,.val 17 _,.val 15 _,.val 18 _,.val 19 _,.alc 1,.sto 1,.val 3 _]) [.g 0,.o 7] hst (oc (ob_a rfl rfl zck) (zv rfl (za5 (xs:=[.tmp 16]) (tTrace_c (al2 1 3)) (.cons (zk0 0 rfl zk (lz0 0 rfl) ⟨rfl,by decide,by decide,by kernel_rfl⟩) .nil)) (zv rfl (za2 (vq 1 rfl)) (zv rfl (r_ex0 (vq 2 rfl)) (zv rfl (r_ex1 (vq 2 rfl)) (oc (zap rfl rfl rfl (Str.zero zd0)) (oc (zaf rfl rfl rfl (vq 3 rfl) zc6 (Eq.trans (b:=8) rfl rfl)) (zv rfl (za1 (vq 4 rfl)) o0)))))))) (fun a w hst=>?_)
 have hst:St B w0 72 [(0,_),(3,_)] [⟨1,41,slH 2 2,_⟩,⟨2,39,ptrH,_⟩] a w:=hst
 refine zt<|gl (sts:=[none,none]) (news:=[]) (sp:=[.adr 21 1 .none True,.val 22 _,.val 20 _,.val 23 _,.val 24 _,.val 4 _,.val 5 _]) [.g 0,.g 1,.o 5,.o 6] hst (oc (ob_a rfl rfl zck) (zv rfl (za5 (xs:=[.tmp 21]) (tAll_c (al2 1 3)) (.cons (zk0 0 rfl zk (lz0 0 rfl) ⟨rfl,by decide,by decide,by kernel_rfl⟩) .nil)) (zv rfl (za2 (vq 1 rfl)) (zv rfl (r_ex0 (vq 2 rfl)) (zv rfl (r_ex1 (vq 2 rfl)) (zv rfl (za1 (vq 3 rfl)) (zv rfl (za1 (vq 4 rfl)) o0))))))) (fun a w hst=>?_)
 have hst:St B w0 72 [(0,_),(3,_),(4,_),(5,_)] [⟨1,41,slH 2 2,_⟩,⟨2,39,ptrH,_⟩] a w:=hst
 refine zt<|gl (sts:=[some (4,_),none]) (news:=[]) (sp:=[.adr 25 1 .none True,.val 26 _,.adr 27 1 (.some 0) True,.adr 28 1 (.some 1) True,.sto 0]) [.g 0,.g 1,.g 2,.g 3] hst (oc (ob_a rfl rfl zck) (zv rfl (za5 (xs:=[.const (.int .i64 (1)),.const (.int .i64 (5))]) (zfj zd zd zd zd) (.cons za3 (.cons za3 .nil))) (oc (ob_a rfl rfl (a_elmM (k:=0) 0 rfl zk (lz0 0 rfl) zeu (zar 0 rfl) zd zd)) (oc (ob_a rfl rfl (a_fldE 2 rfl zk (lz0 0 rfl) zc5)) (oc (zcg 3 rfl rfl rfl rfl zk (fun _=>zc7 _ _ _ _) (vq 1 rfl) zc6 (Put.head (Put.part 1 rfl rfl rfl))) o0))))) (fun a w hst=>?_)
 have hst:St B w0 72 [(0,_),(3,_),(4,_),(5,_)] [⟨1,41,slH 2 2,_⟩,⟨2,39,ptrH,_⟩] a w:=hst
 refine zt<|gl (sts:=[none,none]) (news:=[]) (sp:=[.adr 30 1 .none True,.val 31 _,.val 29 _,.val 32 _,.val 33 _,.val 6 _,.val 7 _]) [.g 0,.g 1,.g 2,.g 3,.o 5,.o 6] hst (oc (ob_a rfl rfl zck) (zv rfl (za5 (xs:=[.tmp 30]) (tAll_c (al2 1 5)) (.cons (zk0 0 rfl zk (lz0 0 rfl) ⟨rfl,by decide,by decide,by kernel_rfl⟩) .nil)) (zv rfl (za2 (vq 1 rfl)) (zv rfl (r_ex0 (vq 2 rfl)) (zv rfl (r_ex1 (vq 2 rfl)) (zv rfl (za1 (vq 3 rfl)) (zv rfl (za1 (vq 4 rfl)) o0))))))) (fun a w hst=>?_)
 have hst:St B w0 72 [(0,_),(3,_),(4,_),(5,_),(6,_),(7,_)] [⟨1,41,slH 2 2,_⟩,⟨2,39,ptrH,_⟩] a w:=hst
 refine zt<|gl (sts:=[some (4,_),none]) (news:=[]) (sp:=[.adr 34 1 .none True,.val 35 _,.adr 36 1 (.some 0) True,.adr 37 1 (.some 1) True,.sto 0]) [.g 0,.g 1,.g 2,.g 3,.g 4,.g 5] hst (oc (ob_a rfl rfl zck) (zv rfl (za5 (xs:=[.const (.int .i64 (2)),.const (.int .i64 (1))]) (zfj zd zd zd zd) (.cons za3 (.cons za3 .nil))) (oc (ob_a rfl rfl (a_elmM (k:=0) 0 rfl zk (lz0 0 rfl) zeu (zar 0 rfl) zd zd)) (oc (ob_a rfl rfl (a_fldE 2 rfl zk (lz0 0 rfl) zc5)) (oc (zcg 3 rfl rfl rfl rfl zk (fun _=>zc7 _ _ _ _) (vq 1 rfl) zc6 (Put.head (Put.part 1 rfl rfl rfl))) o0))))) (fun a w hst=>?_)
 have hst:St B w0 72 [(0,_),(3,_),(4,_),(5,_),(6,_),(7,_)] [⟨1,41,slH 2 2,_⟩,⟨2,39,ptrH,_⟩] a w:=hst
 refine zt ?_
 have hst:=St.ofLoc (D:=[U32]) hst 0 rfl ⟨rfl,by decide,by decide,by kernel_rfl⟩
 have hst:St B w0 72 [(1,_),(0,_),(3,_),(4,_),(5,_),(6,_),(7,_)] [⟨2,39,ptrH,_⟩] a w:=hst
 refine zaz (anc:=[[],[0],[0,1],[0,1,2],[0,1,2,3],[0,1,2,3,4],[0,1,2,3,4,5],[0,1,2,3,4,5,6],[0,1,2,3,4,5,6,7],[0,1,2,3,4,5,6,7,8],[0,1,2,3,4,5,6,7,8,9],[0,1,2,3,4,5,6,7,8,9,10],[0,1,2,3,4,5,6,7,8,9,10,11],[0,1,2,3,4,5,6,7,8,9,10,11,12],[0,1,2,3,4,5,6,7,8,9,10,11,12,13],[0,1,2,3,4,5,6,7,8,9,10,11,12,13,14],[0,1,2,3,4,5,6,7,8,9,10,11,12,13,14,15],[0,1,2,3,4,5,6,7,8,9,10,11,12,13,14,15,16],[0,1,2,3,4,5,6,7,8,9,10,11,12,13,14,15,16,17],[0,1,2,3,4,5,6,7,8,9,10,11,12,13,14,15,16,17,18],[0,1,2,3,4,5,6,7,8,9,10,11,12,13,14,15,16,17],[0,1,2,3,4,5,6,7,8,9,10,11,12,13,14,15,16,17,18,19,20],[0,1,2,3,4,5,6,7,8,9,10,11,12,13,14,15,16,17,18,19,20,21],[0,1,2,3,4,5,6,7,8,9,10,11,12,13,14,15,16,17,18,19,20,21,22],[0,1,2,3,4,5,6,7,8,9,10,11,12,13,14,15,16,17,18,19,20,21,22,23],[0,1,2,3,4,5,6,7,8,9,10,11,12,13,14,15,16,17,18,19,20,21,22,23,24],[0,1,2,3,4,5,6,7,8,9,10,11,12,13,14,15,16,17,18,19,20,21,22,23],[0,1,2,3,4,5,6,7,8,9,10,11,12,13,14,15,16,17,18,19,20,21,22,23,24,25,26],[0,1,2,3,4,5,6,7,8,9,10,11,12,13,14,15,16,17,18,19,20,21,22,23,24,25,26,27],[0,1,2,3,4,5,6,7,8,9,10,11,12,13,14,15,16,17,18,19,20,21,22,23,24,25,26,27,28],[0,1,2,3,4,5,6,7,8,9,10,11,12,13,14,15,16,17,18,19,20,21,22,23,24,25,26,27,28,29],[0,1,2,3,4,5,6,7,8,9,10,11,12,13,14,15,16,17,18,19,20,21,22,23,24,25,26,27,28,29,30],[0,1,2,3,4,5,6,7,8,9,10,11,12,13,14,15,16,17,18,19,20,21,22,23,24,25,26,27,28,29,30,31],[0,1,2,3,4,5,6,7,8,9,10,11,12,13,14,15,16,17,18,19,20,21,22,23,24,25,26,27,28,29,30,31,32],[0,1,2,3,4,5,6,7,8,9,10,11,12,13,14,15,16,17,18,19,20,21,22,23,24,25,26,27,28,29,30,31,32,33]]) (sts:=[none]) (news:=[]) (sp:=((.val 38 _:Sp)::(.val 39 _)::(.val 40 _)::(.val 41 (Wh (_=true) _))::(.val 42 (Wh (_=true) _))::(.val 43 _)::(.val 44 _)::(.val 45 (Wh (_=true) _))::(.val 46 (Wh (_=true) _))::(.val 47 _)::(.val 48 _)::(.val 49 (Wh (_=true) _))::(.val 50 _)::(.val 51 _)::(.val 52 (Wh (_=true) _))::(.val 53 (Wh (_=true) _))::(.val 54 _)::(.val 55 _)::(.adr 56 2 (.some 0) (_=true))::(.val 57 (Wh (_=true) _))::(.val 58 (Wh (_=true) _))::(.val 59 (Wh (_=true) _))::(.val 60 _)::(.val 61 _)::(.adr 62 2 (.some 4) (_=true))::(.val 63 (Wh (_=true) _))::(.val 64 (Wh (_=true) _))::(.val 65 (Wh (_=true) _))::(.val 66 _)::(.val 67 _)::(.val 68 (Wh (_=true) _))::(.val 69 (Wh (_=true) _))::(.val 70 (Wh (_=true) _))::(.val 71 _)::(.val 0 _)::[])) [.o 34] za6 hst (zv rfl (za2 (gq 2 rfl)) (zv rfl (zc2 (vq 0 rfl) za3) (zv rfl (za2 (vq 1 rfl)) (oc (zal rfl rfl rfl (vq 2 rfl) nq (fun hg=>za2 (gq 4 rfl))) (oc (zal rfl rfl rfl (vq 2 rfl) nq (fun hg=>zc2 (zae (vq 3 rfl) hg) za3)) (zv rfl (zcj (vq 2 rfl) (vq 4 rfl)) (zv rfl (za2 (vq 5 rfl)) (oc (zal rfl rfl rfl (vq 6 rfl) nq (fun hg=>za2 (gq 6 rfl))) (oc (zal rfl rfl rfl (vq 6 rfl) nq (fun hg=>zc2 (zae (vq 7 rfl) hg) za3)) (zv rfl (zcj (vq 6 rfl) (vq 8 rfl)) (zv rfl (za2 (vq 9 rfl)) (oc (zal rfl rfl rfl (vq 10 rfl) nq (fun hg=>za2 (gq 3 rfl))) (zv rfl (zcj (vq 10 rfl) (vq 11 rfl)) (zv rfl (za2 (vq 12 rfl)) (oc (zal rfl rfl rfl (vq 13 rfl) nq (fun hg=>za2 (gq 5 rfl))) (oc (zal rfl rfl rfl (vq 13 rfl) nq (fun hg=>zev (zae (vq 14 rfl) hg))) (zv rfl (zcj (vq 13 rfl) (vq 15 rfl)) (zv rfl (za2 (vq 16 rfl)) (oc (zbz rfl rfl rfl (vq 17 rfl) nq (fun hg=>za7 (lz0 0 rfl) zbw)) (oc (zal rfl rfl rfl (vq 17 rfl) nq (fun hg=>za4 18 rfl zk hg (lz0 0 rfl) (Sub.part 0 rfl rfl) zao)) (oc (zal rfl rfl rfl (vq 17 rfl) nq (fun hg=>za5 (xs:=[.const (.int .i64 (-1))]) (zfz zd zd) (.cons za3 .nil))) (oc (zal rfl rfl rfl (vq 17 rfl) nq (fun hg=>za5 (xs:=[.tmp 57,.tmp 58]) (zio _ _) (.cons (zae (vq 19 rfl) hg) (.cons (zae (vq 20 rfl) hg) .nil)))) (zv rfl (zcj (vq 17 rfl) (vq 21 rfl)) (zv rfl (za2 (vq 22 rfl)) (oc (zbz rfl rfl rfl (vq 23 rfl) nq (fun hg=>za7 (lz0 0 rfl) zby)) (oc (zal rfl rfl rfl (vq 23 rfl) nq (fun hg=>za4 24 rfl zk hg (lz0 0 rfl) (Sub.part 1 rfl rfl) zao)) (oc (zal rfl rfl rfl (vq 23 rfl) nq (fun hg=>za5 (xs:=[.const (.int .i64 (1))]) (zfz zd zd) (.cons za3 .nil))) (oc (zal rfl rfl rfl (vq 23 rfl) nq (fun hg=>za5 (xs:=[.tmp 63,.tmp 64]) (zio _ _) (.cons (zae (vq 25 rfl) hg) (.cons (zae (vq 26 rfl) hg) .nil)))) (zv rfl (zcj (vq 23 rfl) (vq 27 rfl)) (zv rfl (za2 (vq 28 rfl)) (oc (zal rfl rfl rfl (vq 29 rfl) nq (fun hg=>za2 (gq 0 rfl))) (oc (zal rfl rfl rfl (vq 29 rfl) nq (fun hg=>za5 (xs:=[.tmp 68]) (zfb (al2 2 1)) (.cons (zae (vq 30 rfl) hg) .nil))) (oc (zal rfl rfl rfl (vq 29 rfl) nq (fun hg=>zc2 (zae (vq 31 rfl) hg) za3)) (zv rfl (zcj (vq 29 rfl) (vq 32 rfl)) (zv rfl (za1 (vq 33 rfl)) o0))))))))))))))))))))))))))))))))))) zk zk zk zk (fun a w hst=>?_)
 have hst:St B w0 72 [(0,_)] [⟨2,39,ptrH,_⟩] a w:=hst
 refine za0 ?_
 refine wp_ret ?_
 refine zai ?_ (zaa rfl hst (zm 0 rfl))
 exact zbv (congrArg Bo zk)
end Go.Proofs.YtlpppkkggljdcaaGreat
namespace Go.Proofs.YtlpppkkggljdcaaGreat
open Go Go.RowKit
structure LF where
 a:Rat
 b:Rat
 c:Rat
 d:Rat
def LF.at (s:LF)(m:MQ):Rat:=s.a*m.a+s.b*m.b+s.c*m.c+s.d*m.d
def LF.neg (s:LF):LF:=⟨-s.a,-s.b,-s.c,-s.d⟩
def LF.behind (s:LF)(m:MQ):LF:=⟨s.a*m.a+s.c*m.c,s.b*m.a+s.d*m.c,s.a*m.b+s.c*m.d,s.b*m.b+s.d*m.d⟩
end Go.Proofs.YtlpppkkggljdcaaGreat
namespace Go.Proofs.YtlpppkkggljdcaaGreat
open Go Go.RowKit
def szG (g:RGp):Nat:=szQ (toQ g.lo)+szQ (toQ g.hi)
def sumL (xs:List RLo):Nat:=(xs.map fun x=>szG x.p+szG x.q+8).sum
structure FewOk (xs:List RLo):Prop where
 t:tchF xs=0
 a:xs.all loF=true
 l4:xs.length≤4096
 m:manyF xs≤12
 m7:manyF xs≤7
 l30:xs.length≤30
 s:sumL xs≤400
end Go.Proofs.YtlpppkkggljdcaaGreat
namespace Go.Proofs.YtlpppkkggljdcaaGreat
open Go Go.RowKit
def GpT (x:RGp):As:=cat [RFT x.lo,RFT x.hi]
def LoT (x:RLo):As:=cat [NumA .u8 x.k,GpT x.p,GpT x.q]
theorem wkA_gpt {x:RGp}:WkA (GpT x) (GpA x):=zci (.cons wkA_rft (.cons wkA_rft .nil))
theorem wkA_lot {x:RLo}:WkA (LoT x) (LoA x):=zci (.cons (.refl _) (.cons wkA_gpt (.cons wkA_gpt .nil)))
theorem free_gpt (x:RGp):FreeA (GpT x) (GpT x):=zc8 (.cons (free_rft _) (.cons (free_rft _) .nil))
theorem free_lot (x:RLo):FreeA (LoT x) (LoT x):=zc8 (.cons (zdy _ _) (.cons (free_gpt _) (.cons (free_gpt _) .nil)))
theorem free_gp0:FreeA (GpA gp0) (GpA gp0):=zc8 (.cons free_rf00 (.cons free_rf00 .nil))
theorem free_lo77:FreeA (LoA ⟨77,gp0,gp0⟩) (LoA ⟨77,gp0,gp0⟩):=zc8 (.cons (zdy _ _) (.cons free_gp0 (.cons free_gp0 .nil)))
theorem gpT_eq {x y:RGp}:(decide (x.lo=y.lo)&&decide (x.hi=y.hi))=decide (x=y):=by
 obtain ⟨a,b⟩:=x
 obtain ⟨c,d⟩:=y
 by_cases h1:a=c <;> by_cases h2:b=d <;> simp [h1,h2]
theorem loT_eq {x y:RLo}:(((x.k==y.k)&&decide (x.p=y.p))&&decide (x.q=y.q))=decide (x=y):=by
 obtain ⟨a,b,c⟩:=x
 obtain ⟨d,e,f⟩:=y
 by_cases h1:a=d <;> by_cases h2:b=e <;> by_cases h3:c=f <;> simp [h1,h2,h3]
abbrev bdGp (x:RGp):Prop:=bdF x.lo∧bdF x.hi
abbrev bdLo (x:RLo):Prop:=bdGp x.p∧bdGp x.q
theorem zkj (x:RGp)(hx:bdGp x):Cn Tryz.prog 70 [(GpA x).va] ((GpT x).va):=by
 refine Cn.intro Tryz.func70 rfl zk nq (fun B w0 a hst=>?_)
 have hst:St B w0 10 [(0,(GpA x).va)] [] a w0.w:=hst
 refine wp_seq ?_
 refine gl (sts:=[]) (news:=[⟨1,39,ptrH,some 0,_,none⟩,⟨2,39,ptrH,some 1,_,none⟩]) (sp:=[.alc 0,.alc 1]) [] hst (oc (zan rfl rfl rfl (gq 0 rfl)) (oc (zap rfl rfl rfl (Str.zero zd0)) o0)) (fun a w hst=>?_)
 have hst:St B w0 10 [] [⟨1,39,ptrH,_⟩,⟨2,39,ptrH,_⟩] a w:=hst
 refine zt<|zaz (anc:=[[],[0],[0,1],[],[3],[0,1,2,3,4],[0,1,2,3,4,5],[0,1,2,3,4,5,6]]) (sts:=[none,some (7,_)]) (news:=[]) (sp:=[.adr 3 1 (.some 0) True,.val 4 _,.val 5 _,.adr 6 1 (.some 4) True,.val 7 _,.val 8 _,.val 9 _,.sto 1]) [] za6 hst (oc (ob_a rfl rfl (za7 (lz0 0 rfl) zbw)) (zv rfl (za4 0 rfl zk trivial (lz0 0 rfl) (Sub.part 0 rfl rfl) zao) (zv rfl (za5 (xs:=[.tmp 4]) (zik _ hx.1) (.cons (vq 1 rfl) .nil)) (oc (ob_a rfl rfl (za7 (lz0 0 rfl) zby)) (zv rfl (za4 3 rfl zk trivial (lz0 0 rfl) (Sub.part 1 rfl rfl) zao) (zv rfl (za5 (xs:=[.tmp 7]) (zik _ hx.2) (.cons (vq 4 rfl) .nil)) (zv rfl (zbb (xs:=[(0,.tmp 5),(1,.tmp 8)]) (qs:=[(0,_),(1,_)]) zd0 (.cons ⟨rfl,(vq 2 rfl),rfl⟩ (.cons ⟨rfl,(vq 5 rfl),rfl⟩ .nil))) (oc (zaf rfl rfl rfl (vq 6 rfl) zc6 (Eq.trans (b:=8) rfl rfl)) o0)))))))) zk zk zk zk (fun a w hst=>?_)
 have hst:St B w0 10 [] [⟨1,39,ptrH,_⟩,⟨2,39,ptrH,_⟩] a w:=hst
 refine za0 ?_
 refine wp_ret ?_
 refine zai ?_ (zam rfl hst (zm 1 rfl) zc6)
 exact zb6
theorem zl3 (x y:RGp)(hx:bdGp x):Cn Tryz.prog 74 [(GpT x).va,(GpA y).va] (Bo (decide (x=y))):=by
 refine Cn.intro Tryz.func74 rfl zk nq (fun B w0 a hst=>?_)
 have hst:St B w0 17 [(0,(GpT x).va),(1,(GpA y).va)] [] a w0.w:=hst
 refine wp_seq ?_
 refine gl (sts:=[]) (news:=[⟨2,39,ptrH,some 0,_,none⟩,⟨3,39,ptrH,some 1,_,none⟩]) (sp:=[.alc 0,.alc 1,.val 4 _]) [.o 2] hst (oc (zan rfl rfl rfl (gq 0 rfl)) (oc (zan rfl rfl rfl (gq 1 rfl)) (zv rfl (za1 zba) o0))) (fun a w hst=>?_)
 have hst:St B w0 17 [(4,_)] [⟨2,39,ptrH,_⟩,⟨3,39,ptrH,_⟩] a w:=hst
 refine zt<|gl (sts:=[none,none]) (news:=[]) (sp:=[.adr 5 2 (.some 0) True,.val 6 _,.adr 7 3 (.some 0) True,.val 8 _,.val 9 _,.val 10 _,.adr 11 2 (.some 4) (_=true),.val 12 (Wh (_=true) _),.adr 13 3 (.some 4) (_=true),.val 14 (Wh (_=true) _),.val 15 (Wh (_=true) _),.val 16 _,.val 4 _]) [.o 12] hst (oc (ob_a rfl rfl (za7 (lz0 0 rfl) zbw)) (zv rfl (za4 0 rfl zk trivial (lz0 0 rfl) (Sub.part 0 rfl rfl) zao) (oc (ob_a rfl rfl (za7 (lz0 1 rfl) zbw)) (zv rfl (za4 2 rfl zk trivial (lz0 1 rfl) (Sub.part 0 rfl rfl) zao) (zv rfl (za5 (xs:=[.tmp 6,.tmp 8]) (zj1 _ _ hx.1) (.cons (vq 1 rfl) (.cons (vq 3 rfl) .nil))) (zv rfl (za2 (vq 4 rfl)) (oc (zbz rfl rfl rfl (vq 5 rfl) nq (fun hg=>za7 (lz0 0 rfl) zby)) (oc (zal rfl rfl rfl (vq 5 rfl) nq (fun hg=>za4 6 rfl zk hg (lz0 0 rfl) (Sub.part 1 rfl rfl) zao)) (oc (zbz rfl rfl rfl (vq 5 rfl) nq (fun hg=>za7 (lz0 1 rfl) zby)) (oc (zal rfl rfl rfl (vq 5 rfl) nq (fun hg=>za4 8 rfl zk hg (lz0 1 rfl) (Sub.part 1 rfl rfl) zao)) (oc (zal rfl rfl rfl (vq 5 rfl) nq (fun hg=>za5 (xs:=[.tmp 12,.tmp 14]) (zj1 _ _ hx.2) (.cons (zae (vq 7 rfl) hg) (.cons (zae (vq 9 rfl) hg) .nil)))) (zv rfl (zcj (vq 5 rfl) (vq 10 rfl)) (zv rfl (za1 (vq 11 rfl)) o0))))))))))))) (fun a w hst=>?_)
 have hst:St B w0 17 [(4,_)] [⟨2,39,ptrH,_⟩,⟨3,39,ptrH,_⟩] a w:=hst
 refine za0 ?_
 refine wp_ret ?_
 refine zai ?_ (zaa rfl hst (zm 0 rfl))
 exact zbv (congrArg Bo gpT_eq)
theorem twinLoose_c (x:RLo)(hx:bdLo x):Cn Tryz.prog 34 [(LoA x).va] ((LoT x).va):=by
 refine Cn.intro Tryz.func34 rfl zk nq (fun B w0 a hst=>?_)
 have hst:St B w0 12 [(0,(LoA x).va)] [] a w0.w:=hst
 refine wp_seq ?_
 refine gl (sts:=[]) (news:=[⟨1,41,ptrH,some 0,_,none⟩,⟨2,41,ptrH,some 1,_,none⟩]) (sp:=[.alc 0,.alc 1]) [] hst (oc (zan rfl rfl rfl (gq 0 rfl)) (oc (zap rfl rfl rfl (Str.zero zcw)) o0)) (fun a w hst=>?_)
 have hst:St B w0 12 [] [⟨1,41,ptrH,_⟩,⟨2,41,ptrH,_⟩] a w:=hst
 refine zt<|zaz (anc:=[[],[0],[],[2],[2,3],[],[5],[2,3,4,5,6],[0,1,2,3,4,5,6,7],[0,1,2,3,4,5,6,7,8]]) (sts:=[none,some (9,_)]) (news:=[]) (sp:=[.adr 3 1 (.some 0) True,.val 4 _,.adr 5 1 (.some 1) True,.val 6 _,.val 7 _,.adr 8 1 (.some 9) True,.val 9 _,.val 10 _,.val 11 _,.sto 1]) [] za6 hst (oc (ob_a rfl rfl (za7 (lz0 0 rfl) zcz)) (zv rfl (za4 0 rfl zk trivial (lz0 0 rfl) (Sub.part 0 rfl rfl) zeb) (oc (ob_a rfl rfl (za7 (lz0 0 rfl) zc5)) (zv rfl (za4 2 rfl zk trivial (lz0 0 rfl) (Sub.part 1 rfl rfl) zc6) (zv rfl (za5 (xs:=[.tmp 6]) (zkj _ hx.1) (.cons (vq 3 rfl) .nil)) (oc (ob_a rfl rfl (za7 (lz0 0 rfl) zcb)) (zv rfl (za4 5 rfl zk trivial (lz0 0 rfl) (Sub.part 2 rfl rfl) zc6) (zv rfl (za5 (xs:=[.tmp 9]) (zkj _ hx.2) (.cons (vq 6 rfl) .nil)) (zv rfl (zbb (xs:=[(0,.tmp 4),(1,.tmp 7),(2,.tmp 10)]) (qs:=[(0,_),(1,_),(2,_)]) zcw (.cons ⟨rfl,(vq 1 rfl),rfl⟩ (.cons ⟨rfl,(vq 4 rfl),rfl⟩ (.cons ⟨rfl,(vq 7 rfl),rfl⟩ .nil)))) (oc (zaf rfl rfl rfl (vq 8 rfl) zg2 (Eq.trans (b:=17) rfl rfl)) o0)))))))))) zk zk zk zk (fun a w hst=>?_)
 have hst:St B w0 12 [] [⟨1,41,ptrH,_⟩,⟨2,41,ptrH,_⟩] a w:=hst
 refine za0 ?_
 refine wp_ret ?_
 refine zai ?_ (zam rfl hst (zm 1 rfl) zg2)
 exact zb6
theorem leftLoose_c (x y:RLo)(hx:bdLo x):Cn Tryz.prog 39 [(LoT x).va,(LoA y).va] (Bo (decide (x=y))):=by
 refine Cn.intro Tryz.func39 rfl zk nq (fun B w0 a hst=>?_)
 have hst:St B w0 24 [(0,(LoT x).va),(1,(LoA y).va)] [] a w0.w:=hst
 refine wp_seq ?_
 refine gl (sts:=[]) (news:=[⟨2,41,ptrH,some 0,_,none⟩,⟨3,41,ptrH,some 1,_,none⟩]) (sp:=[.alc 0,.alc 1,.val 4 _]) [.o 2] hst (oc (zan rfl rfl rfl (gq 0 rfl)) (oc (zan rfl rfl rfl (gq 1 rfl)) (zv rfl (za1 zba) o0))) (fun a w hst=>?_)
 have hst:St B w0 24 [(4,_)] [⟨2,41,ptrH,_⟩,⟨3,41,ptrH,_⟩] a w:=hst
 refine zt<|gl (sts:=[none,none]) (news:=[]) (sp:=[.adr 5 2 (.some 0) True,.val 6 _,.adr 7 3 (.some 0) True,.val 8 _,.val 9 _,.val 10 _,.adr 11 2 (.some 1) (_=true),.val 12 (Wh (_=true) _),.adr 13 3 (.some 1) (_=true),.val 14 (Wh (_=true) _),.val 15 (Wh (_=true) _),.val 16 _,.val 17 _,.adr 18 2 (.some 9) (_=true),.val 19 (Wh (_=true) _),.adr 20 3 (.some 9) (_=true),.val 21 (Wh (_=true) _),.val 22 (Wh (_=true) _),.val 23 _,.val 4 _]) [.o 19] hst (oc (ob_a rfl rfl (za7 (lz0 0 rfl) zcz)) (zv rfl (za4 0 rfl zk trivial (lz0 0 rfl) (Sub.part 0 rfl rfl) zeb) (oc (ob_a rfl rfl (za7 (lz0 1 rfl) zcz)) (zv rfl (za4 2 rfl zk trivial (lz0 1 rfl) (Sub.part 0 rfl rfl) zeb) (zv rfl (zc2 (vq 1 rfl) (vq 3 rfl)) (zv rfl (za2 (vq 4 rfl)) (oc (zbz rfl rfl rfl (vq 5 rfl) nq (fun hg=>za7 (lz0 0 rfl) zc5)) (oc (zal rfl rfl rfl (vq 5 rfl) nq (fun hg=>za4 6 rfl zk hg (lz0 0 rfl) (Sub.part 1 rfl rfl) zc6)) (oc (zbz rfl rfl rfl (vq 5 rfl) nq (fun hg=>za7 (lz0 1 rfl) zc5)) (oc (zal rfl rfl rfl (vq 5 rfl) nq (fun hg=>za4 8 rfl zk hg (lz0 1 rfl) (Sub.part 1 rfl rfl) zc6)) (oc (zal rfl rfl rfl (vq 5 rfl) nq (fun hg=>za5 (xs:=[.tmp 12,.tmp 14]) (zl3 _ _ hx.1) (.cons (zae (vq 7 rfl) hg) (.cons (zae (vq 9 rfl) hg) .nil)))) (zv rfl (zcj (vq 5 rfl) (vq 10 rfl)) (zv rfl (za2 (vq 11 rfl)) (oc (zbz rfl rfl rfl (vq 12 rfl) nq (fun hg=>za7 (lz0 0 rfl) zcb)) (oc (zal rfl rfl rfl (vq 12 rfl) nq (fun hg=>za4 13 rfl zk hg (lz0 0 rfl) (Sub.part 2 rfl rfl) zc6)) (oc (zbz rfl rfl rfl (vq 12 rfl) nq (fun hg=>za7 (lz0 1 rfl) zcb)) (oc (zal rfl rfl rfl (vq 12 rfl) nq (fun hg=>za4 15 rfl zk hg (lz0 1 rfl) (Sub.part 2 rfl rfl) zc6)) (oc (zal rfl rfl rfl (vq 12 rfl) nq (fun hg=>za5 (xs:=[.tmp 19,.tmp 21]) (zl3 _ _ hx.2) (.cons (zae (vq 14 rfl) hg) (.cons (zae (vq 16 rfl) hg) .nil)))) (zv rfl (zcj (vq 12 rfl) (vq 17 rfl)) (zv rfl (za1 (vq 18 rfl)) o0)))))))))))))))))))) (fun a w hst=>?_)
 have hst:St B w0 24 [(4,_)] [⟨2,41,ptrH,_⟩,⟨3,41,ptrH,_⟩] a w:=hst
 refine za0 ?_
 refine wp_ret ?_
 refine zai ?_ (zaa rfl hst (zm 0 rfl))
 exact zbv (congrArg Bo loT_eq)
theorem app_twLooses:∃ it z,Tryz.prog.info? 41=some it∧it.zero=some z∧it.size=17∧it.bytes=264∧z.cells.size=17:=by
 have h:((Tryz.prog.info? 41).bind fun it=>it.zero.map fun z=>(it.size,it.bytes,z.cells.size))=some (17,264,17):=by kernel_rfl
 cases hi:Tryz.prog.info? 41 with
 | none=>rw [hi] at h; simp at h
 | some it =>
  rw [hi] at h
  cases hz:it.zero with
  | none=>simp [hz] at h
  | some z =>
   simp [hz] at h
   exact ⟨it,z,rfl,hz,h.1,h.2.1,h.2.2⟩
abbrev bdLLooses (xs:List RLo):Prop:=∀ x∈xs,bdLo x
theorem zkh (xs:List RLo)(hl:xs.length≤10000000)(hx:bdLLooses xs):Cn Tryz.prog 9 [(SlA 41 [U32] (xs.map LoA)).va] (TwS 41 17 [U32] (xs.map LoT) (LoA ⟨77,gp0,gp0⟩)):=by
 obtain ⟨it,z,e1,e2,e3,e4,e5⟩:=app_twLooses
 refine Cn.introW Tryz.func9 rfl zk nq (.cons (zjb (zjw zke)).va .nil) (free_twS (mem_snoc (zjw free_lot) free_lo77)) (fun B w0 a hB0 hst=>?_)
 have hst:St B w0 30 [(0,(SlO 41 [U32] (xs.map LoA) True).va)] [] a w0.w:=hst
 refine wp_seq ?_
 refine gl (sts:=[]) (news:=[]) (sp:=[.val 2 _]) [.g 0,.o 0] hst (zv rfl (za1 zbe) o0) (fun a w hst=>?_)
 have hst:St B w0 30 [(0,_),(2,_)] [] a w:=hst
 refine zt<|gl (sts:=[]) (news:=[]) (sp:=[.val 5 _,.val 6 _,.val 7 (In ((xs.length+1:Nat):Int)),.val 8 (OwnR w0.w.heap.size 41 17 [U32] []),.val 3 _]) [.g 0,.o 4] hst (zv rfl (za2 (gq 0 rfl)) (zv rfl (zd4 Tryz.underlying22 (zca (zas (vq 0 rfl)))) (zv rfl (zb7 (vq 1 rfl) za3 (wi_lm zo)) (zv rfl (r_makeR Tryz.underlying22 e1 e2 e3 e4 e5 zd zd (Nat.le_of_eq hB0) za3 (vq 2 rfl) zo) (zv rfl (za1 (vq 3 rfl)) o0))))) (fun a w hst=>?_)
 have hst:St B w0 30 [(0,_),(3,_)] [] a w:=hst
 refine zt ?_
 refine wp_seq ?_
 refine gl (sts:=[]) (news:=[]) (sp:=[.val 4 _]) [.g 0,.g 1,.o 0] hst (zv rfl (za1 za3) o0) (fun a w hst=>?_)
 have hst:St B w0 30 [(0,_),(3,_),(4,_)] [] a w:=hst
 refine za0 ?_
 refine wp_block ?_
 have hst:=St.sel hst [0,1,2]
 refine wp_loop_ghost (fun n a w=>∃ j:Nat,(n+j=xs.length)∧St B w0 30 [(0,(SlO 41 [U32] (xs.map LoA) True).va),(3,OwnR w0.w.heap.size 41 17 [U32] ((xs.take j).map LoT)),(4,In (j:Nat))] [] a w) (xs.length) ?_ ?_
 ·exact ⟨0,by omega,hst⟩
 intro n a w hI
 obtain ⟨j,hn,hst⟩:=hI
 refine wp_seq ?_
 refine wp_seq ?_
 refine gl (sts:=[]) (news:=[]) (sp:=[.val 9 _,.val 10 _,.val 11 _,.val 12 _]) [.g 0,.g 1,.g 2,.o 3] hst (zv rfl (za2 (gq 2 rfl)) (zv rfl (za2 (gq 0 rfl)) (zv rfl (zd4 Tryz.underlying22 (zca (zas (vq 1 rfl)))) (zv rfl (zbt (vq 0 rfl) (vq 2 rfl)) o0)))) (fun a w hst=>?_)
 have hst:St B w0 30 [(0,_),(3,_),(4,_),(12,_)] [] a w:=hst
 refine za0 ?_
 refine za8 hst (zm 3 rfl) (fun hb0=>?_) (fun hb0=>?_)
 ·have hj:j<xs.length:=by simp at hb0; omega
  refine wp_skip ?_
  refine zt ?_
  refine wp_block ?_
  refine zk2 (sp:=[.val 15 _,.val 16 _,.val 17 _,.val 18 _,.val 19 _,.val 20 _,.val 21 _,.val 22 VT,.val 3 VT]) 7 [0,2] 0 6 hst (zv rfl (za2 (gq 1 rfl)) (zv rfl (za2 (gq 0 rfl)) (zv rfl (za2 (gq 2 rfl)) (zv rfl (ze5 zeu (zf1 fun _=>rfl) (zca (zas (vq 1 rfl))) (vq 2 rfl) (zdg hj)) (zv rfl (zav (vq 3 rfl) zg2) (zv rfl (za5 (xs:=[.tmp 19]) (twinLoose_c xs[j] (hx _ (List.getElem_mem hj))) (.cons (vq 4 rfl) .nil)) (zv rfl (zcx (D:=[U32]) (l:=[_]) (xs:=[.tmp 20]) (zfq zk) zeu zk (n_ok zk) nq nq nq (.cons (vq 5 rfl) .nil) rfl rfl) o0))))))) rfl zk rfl rfl zd rfl zd rfl (fun _ _ h _=>h) Tryz.underlying22 e1 e2 e3 e4 e5 zd (by simp only [List.length_map,List.length_take,List.length_singleton]; omega) zd (fun T hT=>hT) zd (fun A hA=>by obtain rfl:=List.mem_singleton.1 hA; rfl) zk nq nq zk zk (fun a w hst=>?_)
  have hst:St B w0 30 [(3,_),(0,_),(4,_)] [] a w:=hst
  refine zaj ?_
  refine za0 ?_
  refine gl (sts:=[]) (news:=[]) (sp:=[.val 13 _,.val 14 _,.val 4 _]) [.g 0,.g 1,.o 2] hst (zv rfl (za2 (gq 2 rfl)) (zv rfl (zb7 (vq 0 rfl) za3 (zbh zo)) (zv rfl (za1 (vq 1 rfl)) o0))) (fun a w hst=>?_)
  have hst:St B w0 30 [(3,_),(0,_),(4,_)] [] a w:=hst
  refine za0 ?_
  have hst:=St.sel hst [1,0,2]
  exact ⟨n-1,by omega,j+1,by omega,St.wkG (A':=OwnR w0.w.heap.size 41 17 [U32] ((xs.take (j+1)).map LoT)) hst 1 rfl (zbv (congrArg (OwnR w0.w.heap.size 41 17 [U32]) (row_nx hj)))⟩
 ·obtain rfl:j=xs.length:=by simp at hb0; omega
  refine wp_exit ?_
  refine zac ?_
  refine zac ?_
  refine zay ?_
  refine zt ?_
  have hst:=St.wkG (A':=OwnR w0.w.heap.size 41 17 [U32] (xs.map LoT)) hst 1 rfl (zbv (by rw [List.take_length]))
  refine go_appSl (sp:=[.val 23 _,.val 24 _,.val 25 _,.val 26 VT,.val 27 VT,.val 28 VT,.val 29 VT,.val 2 VT]) 3 [] 0 2 hst (zv rfl (za2 (gq 1 rfl)) (zv rfl (zbb (xs:=[(0,.const (.int .u8 77))]) (qs:=[(0,_)]) zcw (.cons ⟨rfl,za3,rfl⟩ .nil)) (zv rfl (zcx (D:=[U32]) (l:=[LoA ⟨77,gp0,gp0⟩]) (xs:=[.tmp 24]) (zfq zk) zeu zk (n_ok zk) nq nq nq (.cons (vq 1 rfl) .nil) rfl rfl) (o0)))) rfl zk rfl rfl rfl rfl rfl 0 rfl (fun B u w h=>by have h2:=sl_len B u w h; rw [List.length_map] at h2; rw [List.length_map]; exact h2) zk zd rfl zd rfl (fun _ _ h _=>h) Tryz.underlying22 e1 e2 e3 e4 e5 zd (by rw [List.length_map]; omega) zd (fun T hT=>hT) zd zk zd nq nq nq nq nq zk zk (fun a w hst=>?_)
  have hst:St B w0 30 [(2,_)] [] a w:=hst
  refine za0 ?_
  refine wp_ret ?_
  refine zai ?_ (zaa rfl hst (zm 0 rfl))
  exact zb6
theorem zl1 (xs ys:List RLo)(hl:ys.length≤10000000)(hx:bdLLooses xs):Cn Tryz.prog 12 [TwS 41 17 [U32] (xs.map LoT) (LoA ⟨77,gp0,gp0⟩),(SlA 41 [U32] (ys.map LoA)).va] (Bo (decide (xs=ys))):=by
 refine Cn.intro Tryz.func12 rfl zk nq (fun B w0 a hst=>?_)
 have hst:St B w0 47 [(0,TwS 41 17 [U32] (xs.map LoT) (LoA ⟨77,gp0,gp0⟩)),(1,(SlA 41 [U32] (ys.map LoA)).va)] [] a w0.w:=hst
 obtain ⟨g,c,hst⟩:=St.exK hst 0 rfl
 have hcap:=twK_own (hst.vals (0,_) (zm 0 rfl))
 rw [List.length_map] at hcap
 refine wp_seq ?_
 refine gl (sts:=[]) (news:=[]) (sp:=[.val 4 _]) [.g 0,.g 1,.o 0] hst (zv rfl (za1 zba) o0) (fun a w hst=>?_)
 have hst:St B w0 47 [(0,_),(1,_),(4,_)] [] a w:=hst
 refine zt ?_
 refine wp_seq ?_
 refine gl (sts:=[]) (news:=[]) (sp:=[.val 7 _,.val 8 _,.val 9 _,.val 10 _,.val 11 _,.val 12 _,.val 13 (Wh (_=false) _),.val 14 (Wh (_=false) _),.val 15 (Wh (_=false) _),.val 16 (Wh (_=false) _),.val 17 (Wh (_=false) _),.val 18 _]) [.g 0,.g 1,.g 2,.o 11] hst (zv rfl (za2 (gq 0 rfl)) (zv rfl (zd4 Tryz.underlying22 (has_wk' (vq 0 rfl) twK_sl)) (zv rfl (za2 (gq 1 rfl)) (zv rfl (zd4 Tryz.underlying22 (vq 2 rfl)) (zv rfl (zdh (vq 1 rfl) (vq 3 rfl)) (zv rfl (za2 (vq 4 rfl)) (oc (zal rfl rfl rfl (vq 5 rfl) nq (fun hg=>za2 (gq 0 rfl))) (oc (zal rfl rfl rfl (vq 5 rfl) nq (fun hg=>r_capK Tryz.underlying22 (zae (vq 6 rfl) hg))) (oc (zal rfl rfl rfl (vq 5 rfl) nq (fun hg=>za2 (gq 1 rfl))) (oc (zal rfl rfl rfl (vq 5 rfl) nq (fun hg=>zd4 Tryz.underlying22 (zae (vq 8 rfl) hg))) (oc (zal rfl rfl rfl (vq 5 rfl) nq (fun hg=>zkt (zae (vq 7 rfl) hg) (zae (vq 9 rfl) hg))) (zv rfl (r_or (vq 5 rfl) (vq 10 rfl)) o0)))))))))))) (fun a w hst=>?_)
 have hst:St B w0 47 [(0,_),(1,_),(4,_),(18,_)] [] a w:=hst
 refine za0 ?_
 refine za8 hst (zm 3 rfl) (fun hb0=>?_) (fun hb0=>?_)
 ·refine wp_seq ?_
  refine gl (sts:=[]) (news:=[]) (sp:=[.val 4 _]) [.g 0,.g 1,.o 0] hst (zv rfl (za1 zba) o0) (fun a w hst=>?_)
  have hst:St B w0 47 [(0,_),(1,_),(4,_)] [] a w:=hst
  refine za0 ?_
  refine wp_ret ?_
  refine zad ?_
  refine zai ?_ (zaa rfl hst (zm 2 rfl))
  exact zbv (congrArg Bo (lens_ne hcap.1 hb0))
 ·have hlen:=lens_eq hb0
  refine wp_skip ?_
  refine zt ?_
  refine wp_seq ?_
  refine gl (sts:=[]) (news:=[]) (sp:=[.val 5 _]) [.g 0,.g 1,.g 2,.o 0] hst (zv rfl (za1 za3) o0) (fun a w hst=>?_)
  have hst:St B w0 47 [(0,_),(1,_),(4,_),(5,_)] [] a w:=hst
  refine za0 ?_
  refine wp_block ?_
  have hst:=St.sel hst [0,1,3]
  refine wp_loop_ghost (fun n a w=>∃ j:Nat,(n+j=ys.length∧xs.take j=ys.take j)∧St B w0 47 [(0,TwK g c 41 17 [U32] (xs.map LoT) (LoA ⟨77,gp0,gp0⟩)),(1,(SlA 41 [U32] (ys.map LoA)).va),(5,In (j:Nat))] [] a w) (ys.length) ?_ ?_
  ·exact ⟨0,⟨by omega,rfl⟩,hst⟩
  intro n a w hI
  obtain ⟨j,⟨hn,ht⟩,hst⟩:=hI
  refine wp_seq ?_
  refine wp_seq ?_
  refine gl (sts:=[]) (news:=[]) (sp:=[.val 19 _,.val 20 _,.val 21 _,.val 22 _]) [.g 0,.g 1,.g 2,.o 3] hst (zv rfl (za2 (gq 2 rfl)) (zv rfl (za2 (gq 1 rfl)) (zv rfl (zd4 Tryz.underlying22 (vq 1 rfl)) (zv rfl (zbt (vq 0 rfl) (vq 2 rfl)) o0)))) (fun a w hst=>?_)
  have hst:St B w0 47 [(0,_),(1,_),(5,_),(22,_)] [] a w:=hst
  refine za0 ?_
  refine za8 hst (zm 3 rfl) (fun hb1=>?_) (fun hb1=>?_)
  ·have hj2:j<ys.length:=by rw [List.length_map] at hb1; simp at hb1; omega
   have hj:j<xs.length:=by omega
   refine wp_skip ?_
   refine zt ?_
   refine wp_block ?_
   refine wp_seq ?_
   refine zaz (anc:=[[],[],[0,1],[0,1,2],[],[],[4,5],[4,5,6],[0,1,2,3,4,5,6,7],[0,1,2,3,4,5,6,7,8]]) (sts:=[]) (news:=[]) (sp:=[.val 25 _,.val 26 _,.val 27 _,.val 28 _,.val 29 _,.val 30 _,.val 31 _,.val 32 _,.val 33 _,.val 34 _]) [.g 0,.g 1,.g 2,.o 9] za6 hst (zv rfl (za2 (gq 0 rfl)) (zv rfl (za2 (gq 2 rfl)) (zv rfl (ze5 zeu (zf1 fun _=>rfl) (has_wk' (vq 0 rfl) twK_sl) (vq 1 rfl) (zdg hj)) (zv rfl (zav (vq 2 rfl) zg2) (zv rfl (za2 (gq 1 rfl)) (zv rfl (za2 (gq 2 rfl)) (zv rfl (ze5 zeu (zf1 fun _=>rfl) (vq 4 rfl) (vq 5 rfl) (zdg hj2)) (zv rfl (zav (vq 6 rfl) zg2) (zv rfl (za5 (xs:=[.tmp 28,.tmp 32]) (leftLoose_c xs[j] ys[j] (hx _ (List.getElem_mem hj))) (.cons (vq 3 rfl) (.cons (vq 7 rfl) .nil))) (zv rfl (zev (vq 8 rfl)) o0)))))))))) zk zk zk zk (fun a w hst=>?_)
   have hst:St B w0 47 [(0,_),(1,_),(5,_),(34,_)] [] a w:=hst
   refine za0 ?_
   refine za8 hst (zm 3 rfl) (fun hb2=>?_) (fun hb2=>?_)
   ·refine wp_seq ?_
    refine gl (sts:=[]) (news:=[]) (sp:=[.val 4 _]) [.g 0,.g 1,.g 2,.o 0] hst (zv rfl (za1 zba) o0) (fun a w hst=>?_)
    have hst:St B w0 47 [(0,_),(1,_),(5,_),(4,_)] [] a w:=hst
    refine za0 ?_
    refine wp_ret ?_
    refine zb3 ?_
    refine zad ?_
    refine zad ?_
    refine zb3 ?_
    refine zad ?_
    refine zai ?_ (zaa rfl hst (zm 3 rfl))
    exact zbv (congrArg Bo (take_neA hj2 hj hb2))
   ·refine wp_skip ?_
    refine zaj ?_
    refine za0 ?_
    refine gl (sts:=[]) (news:=[]) (sp:=[.val 23 _,.val 24 _,.val 5 _]) [.g 0,.g 1,.o 2] hst (zv rfl (za2 (gq 2 rfl)) (zv rfl (zb7 (vq 0 rfl) za3 (zbh zo)) (zv rfl (za1 (vq 1 rfl)) o0))) (fun a w hst=>?_)
    have hst:St B w0 47 [(0,_),(1,_),(5,_)] [] a w:=hst
    refine za0 ?_
    have hst:=St.sel hst [0,1,2]
    exact ⟨n-1,by omega,j+1,⟨by omega,take_eqA hj2 hj ht hb2⟩,hst⟩
  ·obtain rfl:j=ys.length:=by rw [List.length_map] at hb1; simp at hb1; omega
   refine wp_exit ?_
   refine zac ?_
   refine zac ?_
   refine zay ?_
   refine zt<|gl (sts:=[]) (news:=[⟨6,41,ptrH,some 9,_,some (10,_)⟩]) (sp:=[.val 35 _,.val 36 _,.val 37 _,.val 38 _,.val 39 _,.val 40 _,.val 41 _,.val 42 _,.val 43 _,.alc 0,.sto 0]) [] hst (zv rfl (za2 (gq 0 rfl)) (zv rfl (za2 (gq 1 rfl)) (zv rfl (zd4 Tryz.underlying22 (vq 1 rfl)) (zv rfl (zb7 (vq 2 rfl) za3 (wi_lm zo)) (zv rfl (r_reslK zeu (vq 0 rfl) (has_wk' (vq 3 rfl) (zbv (congrArg (fun k:Nat=>In ((k+1:Nat):Int)) (hlen.symm.trans (List.length_map ..).symm))))) (zv rfl (za2 (gq 1 rfl)) (zv rfl (zd4 Tryz.underlying22 (vq 5 rfl)) (zv rfl (ze5 zeu (mem_snoc (zjw fun _=>rfl) rfl) (vq 4 rfl) (has_wk' (vq 6 rfl) (zbv (congrArg (fun k:Nat=>In (k:Int)) (List.length_map ..)))) (k:=ys.length) (by rw [List.getElem?_append_right (by rw [List.length_map]; omega),List.length_map,hlen,Nat.sub_self]; rfl)) (zv rfl (zav (vq 7 rfl) zg2) (oc (zap rfl rfl rfl (Str.zero zcw)) (oc (zaf rfl rfl rfl (vq 8 rfl) zg2 (Eq.trans (b:=17) rfl rfl)) o0))))))))))) (fun a w hst=>?_)
   have hst:St B w0 47 [] [⟨6,41,ptrH,_⟩] a w:=hst
   refine zt<|gl (sts:=[none]) (news:=[]) (sp:=[.adr 44 6 (.some 0) True,.val 45 _,.val 46 _,.val 4 _]) [.o 3] hst (oc (ob_a rfl rfl (za7 (lz0 0 rfl) zcz)) (zv rfl (za4 0 rfl zk trivial (lz0 0 rfl) (Sub.part 0 rfl rfl) zeb) (zv rfl (zc2 (vq 1 rfl) za3) (zv rfl (za1 (vq 2 rfl)) o0)))) (fun a w hst=>?_)
   have hst:St B w0 47 [(4,_)] [⟨6,41,ptrH,_⟩] a w:=hst
   refine za0 ?_
   refine wp_ret ?_
   refine zai ?_ (zaa rfl hst (zm 0 rfl))
   have e:xs=ys:=by rw [List.take_of_length_le zo,List.take_length] at ht; exact ht
   refine zbv (congrArg Bo ?_); rw [decide_eq_true e]; rfl
def gpCostF (x:RGp):Int:=IntKind.i64.wrap (fracCostF x.lo+fracCostF x.hi)
def loCostF (n:Int)(x:RLo):Int:=IntKind.i64.wrap (IntKind.i64.wrap (n+gpCostF x.p)+gpCostF x.q)
def losF (n:Int):List RLo→Int
 | []=>n
 | x::xs=>if decide (n≤1048576) then losF (loCostF n x) xs else n
theorem los_go {n:Int}{l:List RLo}{j:Nat}(h:j<l.length)(h2:n≤1048576):losF n (l.drop j)=losF (loCostF n l[j]) (l.drop (j+1)):=by
 rw [List.drop_eq_getElem_cons h,losF,if_pos (decide_eq_true h2)]
theorem los_end {n:Int}{l:List RLo}{j:Nat}(h:¬ (j<l.length∧n≤1048576)):losF n (l.drop j)=n:=by
 by_cases hj:j<l.length
 ·rw [List.drop_eq_getElem_cons hj,losF,if_neg (by simpa using fun hh=>h ⟨hj,hh⟩)]
 ·rw [List.drop_of_length_le zo]; rfl
theorem gpCost_c (x:RGp):Cn Tryz.prog 33 [(GpA x).va] (In (gpCostF x)):=by
 refine Cn.intro Tryz.func33 rfl zk nq (fun B w0 a hst=>?_)
 have hst:St B w0 10 [(0,(GpA x).va)] [] a w0.w:=hst
 refine wp_seq ?_
 refine gl (sts:=[]) (news:=[⟨1,39,ptrH,some 0,_,none⟩]) (sp:=[.alc 0,.val 2 _]) [.o 1] hst (oc (zan rfl rfl rfl (gq 0 rfl)) (zv rfl (za1 za3) o0)) (fun a w hst=>?_)
 have hst:St B w0 10 [(2,_)] [⟨1,39,ptrH,_⟩] a w:=hst
 refine zt<|zaz (anc:=[[],[0],[0,1],[],[3],[0,1,2,3,4],[0,1,2,3,4,5],[0,1,2,3,4,5,6]]) (sts:=[none]) (news:=[]) (sp:=[.adr 3 1 (.some 0) True,.val 4 _,.val 5 _,.adr 6 1 (.some 4) True,.val 7 _,.val 8 _,.val 9 _,.val 2 _]) [.o 7] za6 hst (oc (ob_a rfl rfl (za7 (lz0 0 rfl) zbw)) (zv rfl (za4 0 rfl zk trivial (lz0 0 rfl) (Sub.part 0 rfl rfl) zao) (zv rfl (za5 (xs:=[.tmp 4]) (zj3 _) (.cons (vq 1 rfl) .nil)) (oc (ob_a rfl rfl (za7 (lz0 0 rfl) zby)) (zv rfl (za4 3 rfl zk trivial (lz0 0 rfl) (Sub.part 1 rfl rfl) zao) (zv rfl (za5 (xs:=[.tmp 7]) (zj3 _) (.cons (vq 4 rfl) .nil)) (zv rfl (zb7 (vq 2 rfl) (vq 5 rfl) (rfl)) (zv rfl (za1 (vq 6 rfl)) o0)))))))) zk zk zk zk (fun a w hst=>?_)
 have hst:St B w0 10 [(2,_)] [⟨1,39,ptrH,_⟩] a w:=hst
 refine za0 ?_
 refine wp_ret ?_
 refine zai ?_ (zaa rfl hst (zm 0 rfl))
 exact zb6
theorem losCost_c (xs:List RLo):Cn Tryz.prog 8 [(SlA 41 [U32] (xs.map LoA)).va] (In (losF (xs.length:Nat) xs)):=by
 refine Cn.intro Tryz.func8 rfl zk nq (fun B w0 a hst=>?_)
 have hst:St B w0 33 [(0,(SlA 41 [U32] (xs.map LoA)).va)] [] a w0.w:=hst
 have hl:=slA_lenm (hst.vals (0,(SlA 41 [U32] (xs.map LoA)).va) (zm 0 rfl))
 refine wp_seq ?_
 refine gl (sts:=[]) (news:=[]) (sp:=[.val 2 _]) [.g 0,.o 0] hst (zv rfl (za1 za3) o0) (fun a w hst=>?_)
 have hst:St B w0 33 [(0,_),(2,_)] [] a w:=hst
 refine zt<|gl (sts:=[]) (news:=[]) (sp:=[.val 5 _,.val 6 _,.val 3 _]) [.g 0,.g 1,.o 2] hst (zv rfl (za2 (gq 0 rfl)) (zv rfl (zd4 Tryz.underlying22 (vq 0 rfl)) (zv rfl (za1 (vq 1 rfl)) o0))) (fun a w hst=>?_)
 have hst:St B w0 33 [(0,_),(2,_),(3,_)] [] a w:=hst
 refine zt ?_
 refine wp_seq ?_
 refine gl (sts:=[]) (news:=[]) (sp:=[.val 4 _]) [.g 0,.g 1,.g 2,.o 0] hst (zv rfl (za1 za3) o0) (fun a w hst=>?_)
 have hst:St B w0 33 [(0,_),(2,_),(3,_),(4,_)] [] a w:=hst
 refine za0 ?_
 refine wp_block ?_
 have hst:=St.sel hst [0,2,3]
 refine wp_loop_ghost (fun n a w=>∃ (j:Nat) (m:Int),(n+j=xs.length∧losF (xs.length:Nat) xs=losF m (xs.drop j))∧St B w0 33 [(0,(SlA 41 [U32] (xs.map LoA)).va),(3,In m),(4,In (j:Nat))] [] a w) (xs.length) ?_ ?_
 ·exact ⟨0,(xs.length:Nat),⟨by omega,rfl⟩,by rw [List.length_map] at hst; exact hst⟩
 intro n a w hI
 obtain ⟨j,m,⟨hn,hm⟩,hst⟩:=hI
 refine wp_seq ?_
 refine wp_seq ?_
 refine gl (sts:=[]) (news:=[]) (sp:=[.val 7 _,.val 8 _,.val 9 _,.val 10 _,.val 11 _,.val 12 (Wh (_=true) _),.val 13 (Wh (_=true) _),.val 14 _]) [.g 0,.g 1,.g 2,.o 7] hst (zv rfl (za2 (gq 2 rfl)) (zv rfl (za2 (gq 0 rfl)) (zv rfl (zd4 Tryz.underlying22 (vq 1 rfl)) (zv rfl (zbt (vq 0 rfl) (vq 2 rfl)) (zv rfl (za2 (vq 3 rfl)) (oc (zal rfl rfl rfl (vq 4 rfl) nq (fun hg=>za2 (gq 1 rfl))) (oc (zal rfl rfl rfl (vq 4 rfl) nq (fun hg=>zkt (zae (vq 5 rfl) hg) za3)) (zv rfl (zcj (vq 4 rfl) (vq 6 rfl)) o0)))))))) (fun a w hst=>?_)
 have hst:St B w0 33 [(0,_),(3,_),(4,_),(14,_)] [] a w:=hst
 refine za0 ?_
 refine za8 hst (zm 3 rfl) (fun hb0=>?_) (fun hb0=>?_)
 ·rw [Bool.and_eq_true,decide_eq_true_eq,decide_eq_true_eq,List.length_map] at hb0
  have hj:j<xs.length:=by omega
  have hm0:=hb0.2
  refine wp_skip ?_
  refine zt ?_
  refine wp_block ?_
  refine zaz (anc:=[[],[],[],[1,2],[1,2,3],[1,2,3,4],[1,2,3,4,5],[0,1,2,3,4,5,6],[],[],[8,9],[8,9,10],[8,9,10,11],[1,2,3,4,5,6,8,9,10,11,12],[0,1,2,3,4,5,6,7,8,9,10,11,12,13],[0,1,2,3,4,5,6,7,8,9,10,11,12,13,14]]) (sts:=[]) (news:=[]) (sp:=[.val 17 _,.val 18 _,.val 19 _,.val 20 _,.val 21 _,.val 22 _,.val 23 _,.val 24 _,.val 25 _,.val 26 _,.val 27 _,.val 28 _,.val 29 _,.val 30 _,.val 31 _,.val 3 _]) [.g 0,.g 2,.o 15] za6 hst (zv rfl (za2 (gq 1 rfl)) (zv rfl (za2 (gq 0 rfl)) (zv rfl (za2 (gq 2 rfl)) (zv rfl (ze5 zeu (zf1 fun _=>rfl) (vq 1 rfl) (vq 2 rfl) (zdg hj)) (zv rfl (zd9 (vq 3 rfl) zc5 (Sub.part 1 rfl rfl)) (zv rfl (zav (vq 4 rfl) zc6) (zv rfl (za5 (xs:=[.tmp 22]) (gpCost_c _) (.cons (vq 5 rfl) .nil)) (zv rfl (zb7 (vq 0 rfl) (vq 6 rfl) (rfl)) (zv rfl (za2 (gq 0 rfl)) (zv rfl (za2 (gq 2 rfl)) (zv rfl (ze5 zeu (zf1 fun _=>rfl) (vq 8 rfl) (vq 9 rfl) (zdg hj)) (zv rfl (zd9 (vq 10 rfl) zcb (Sub.part 2 rfl rfl)) (zv rfl (zav (vq 11 rfl) zc6) (zv rfl (za5 (xs:=[.tmp 29]) (gpCost_c _) (.cons (vq 12 rfl) .nil)) (zv rfl (zb7 (vq 7 rfl) (vq 13 rfl) (rfl)) (zv rfl (za1 (vq 14 rfl)) o0)))))))))))))))) zk zk zk zk (fun a w hst=>?_)
  have hst:St B w0 33 [(0,_),(4,_),(3,_)] [] a w:=hst
  refine zaj ?_
  refine za0 ?_
  refine gl (sts:=[]) (news:=[]) (sp:=[.val 15 _,.val 16 _,.val 4 _]) [.g 0,.g 2,.o 2] hst (zv rfl (za2 (gq 1 rfl)) (zv rfl (zb7 (vq 0 rfl) za3 (wi_nx hj hl)) (zv rfl (za1 (vq 1 rfl)) o0))) (fun a w hst=>?_)
  have hst:St B w0 33 [(0,_),(3,_),(4,_)] [] a w:=hst
  refine za0 ?_
  have hst:=St.sel hst [0,1,2]
  exact ⟨n-1,by omega,j+1,_,⟨by omega,hm.trans (los_go hj hm0)⟩,hst⟩
 ·have hnj:¬ (j<xs.length∧m≤1048576):=by rintro ⟨h1,h2⟩; rw [List.length_map,decide_eq_true (by omega:(j:Int)<(xs.length:Int)),decide_eq_true h2] at hb0; exact absurd hb0 zd
  refine wp_exit ?_
  refine zac ?_
  refine zac ?_
  refine zay ?_
  refine zt<|gl (sts:=[]) (news:=[]) (sp:=[.val 32 _,.val 2 _]) [.o 1] hst (zv rfl (za2 (gq 1 rfl)) (zv rfl (za1 (vq 0 rfl)) o0)) (fun a w hst=>?_)
  have hst:St B w0 33 [(2,_)] [] a w:=hst
  refine za0 ?_
  refine wp_ret ?_
  refine zai ?_ (zaa rfl hst (zm 0 rfl))
  exact zbv (congrArg In (hm.trans (los_end hnj)).symm)
open Go.ChangeShapes Go.WideShapes Go.ChangeAt
def wdGp (x:RGp):Prop:=wdF x.lo∧wdF x.hi
def wdLo (x:RLo):Prop:=wdGp x.p∧wdGp x.q
section
variable {H:Type} {enc:TypeId × Value→H} {w:World} {base:Nat} {spare:Nat→Bool} {held:Bool} {fuel:Nat} {cs:List Value} {x:DataW H × List MemPlace}
theorem rd_u8k (h:DataW.trod enc Tryz.prog w base spare held fuel 32 cs=some x):∃ y,(NumA .u8 y).p w.heap.size cs w:=by
 obtain ⟨a,ha,_⟩:=DataW.trod_int Tryz.underlying32 h
 exact ⟨a,ha⟩
theorem rb_gp (h:DataW.trod enc Tryz.prog w base spare held fuel 39 cs=some x)(hw:Wt Tryz.prog 39 x.1):∃ y,(GpA y).p w.heap.size cs w∧wdGp y:=by
 have hl:cs.length=8:=by
  obtain ⟨_,_,_,_,hl,_,_⟩:=DataW.trod_struct Tryz.underlying39 h
  exact hl.trans zk
 obtain ⟨n0,y0,h0,w0⟩:=zed Tryz.underlying39 h hw 0 rfl
 have c0:Tryz.prog.cellsOf 37=4:=by kernel_rfl
 have h0:DataW.trod enc Tryz.prog w base spare held n0 37 ((cs.drop 0).take (Tryz.prog.cellsOf 37))=some y0:=h0
 rw [c0] at h0
 obtain ⟨a0,q0,b0⟩:=rb_rf h0 w0
 obtain ⟨n1,y1,h1,w1⟩:=zed Tryz.underlying39 h hw 1 rfl
 have c1:Tryz.prog.cellsOf 37=4:=by kernel_rfl
 have h1:DataW.trod enc Tryz.prog w base spare held n1 37 ((cs.drop 4).take (Tryz.prog.cellsOf 37))=some y1:=h1
 rw [c1] at h1
 obtain ⟨a1,q1,b1⟩:=rb_rf h1 w1
 exact ⟨⟨a0,a1⟩,cat_two' q0 q1 hl,⟨b0,b1⟩⟩
theorem rb_lo (h:DataW.trod enc Tryz.prog w base spare held fuel 41 cs=some x)(hw:Wt Tryz.prog 41 x.1):∃ y,(LoA y).p w.heap.size cs w∧wdLo y:=by
 have hl:cs.length=17:=by
  obtain ⟨_,_,_,_,hl,_,_⟩:=DataW.trod_struct Tryz.underlying41 h
  exact hl.trans zk
 obtain ⟨n0,y0,h0,w0⟩:=zed Tryz.underlying41 h hw 0 rfl
 have c0:Tryz.prog.cellsOf 32=1:=by kernel_rfl
 have h0:DataW.trod enc Tryz.prog w base spare held n0 32 ((cs.drop 0).take (Tryz.prog.cellsOf 32))=some y0:=h0
 rw [c0] at h0
 obtain ⟨a0,q0⟩:=rd_u8k h0
 obtain ⟨n1,y1,h1,w1⟩:=zed Tryz.underlying41 h hw 1 rfl
 have c1:Tryz.prog.cellsOf 39=8:=by kernel_rfl
 have h1:DataW.trod enc Tryz.prog w base spare held n1 39 ((cs.drop 1).take (Tryz.prog.cellsOf 39))=some y1:=h1
 rw [c1] at h1
 obtain ⟨a1,q1,b1⟩:=rb_gp h1 w1
 obtain ⟨n2,y2,h2,w2⟩:=zed Tryz.underlying41 h hw 2 rfl
 have c2:Tryz.prog.cellsOf 39=8:=by kernel_rfl
 have h2:DataW.trod enc Tryz.prog w base spare held n2 39 ((cs.drop 9).take (Tryz.prog.cellsOf 39))=some y2:=h2
 rw [c2] at h2
 obtain ⟨a2,q2,b2⟩:=rb_gp h2 w2
 exact ⟨⟨a0,a1,a2⟩,cat_three q0 q1 q2 hl,⟨b1,b2⟩⟩
end
theorem gp_cost {x:RGp}(h:wdGp x):∃ a b:Nat,gpCostF x=((a+b:Nat):Int)∧(x.lo.num.mag.length+x.lo.den.mag.length≤a∧x.hi.num.mag.length+x.hi.den.mag.length≤b)∧a+b≤9007199254740992:=by
 obtain ⟨h1,h2⟩:=h
 obtain ⟨a,ea,la,ma⟩:=frac_cost h1
 obtain ⟨b,eb,lb,mb⟩:=frac_cost h2
 refine ⟨a,b,?_,⟨by omega,by omega⟩,by omega⟩
 unfold gpCostF
 rw [ea,eb,wi64 zo zo]
 omega
def shFr (c:Nat)(x:RF):Prop:=x.num.mag.length≤c∧x.den.mag.length≤c
def shLo (c:Nat)(x:RLo):Prop:=(shFr c x.p.lo∧shFr c x.p.hi)∧shFr c x.q.lo∧shFr c x.q.hi
theorem los_ok:∀ (xs:List RLo) (n:Nat),(∀ x∈xs,wdLo x)→n≤288230376151711744→∃ c:Nat,losF (n:Int) xs=(c:Int)∧c≤576460752303423488∧(c≤1048576→n≤c∧∀ x∈xs,shLo c x)
 | [],n,_,hn=>⟨n,rfl,by omega,fun _=>⟨Nat.le_refl _,fun x hx=>by cases hx⟩⟩
 | x::xs,n,hw,hn=>by
  obtain ⟨hp,hq⟩:=hw x (by simp)
  obtain ⟨a,b,e,l,hs⟩:=gp_cost hp
  obtain ⟨a',b',e',l',hs'⟩:=gp_cost hq
  by_cases h:n≤1048576
  ·obtain ⟨c,h1,h2,h3⟩:=los_ok xs (n+(a+b)+(a'+b')) (fun y hy=>hw y (by simp [hy])) zo
   refine ⟨c,?_,h2,fun hc=>?_⟩
   ·rw [losF,if_pos (decide_eq_true zo)]
    unfold loCostF
    rw [e,e',wi64 (x:=(n:Int)+((a+b:Nat):Int)) zo zo,wi64 zo zo]
    exact h1
   ·obtain ⟨h4,h5⟩:=h3 hc
    refine ⟨by omega,fun y hy=>?_⟩
    rcases List.mem_cons.1 hy with rfl | hy
    ·unfold shLo shFr; omega
    ·exact h5 y hy
  ·refine ⟨n,?_,by omega,fun hc=>absurd hc h⟩
   rw [losF,if_neg (by intro h2; have:=of_decide_eq_true h2; omega)]
end Go.Proofs.YtlpppkkggljdcaaGreat
