import Derived.Test.YthncfchnkjemiaaGreatDoorFdAa
import Derived.Test.YthncfchnkjemiaaGreatDoorFdAc
import Derived.Test.YthncfchnkjemiaaGreatDoorFdAz
set_option linter.unusedVariables false
set_option linter.unusedSimpArgs false
set_option linter.unusedSectionVars false
set_option maxRecDepth 100000
namespace Go.Proofs.YthncfchnkjemiaaGreatDoor
open Go Go.RowKit
def RepM (b:Nat) (m:MQ):Prop:=∃ n1 n2 n3 n4 D:Int,D≠0∧m.a=(n1:Rat) / (D:Rat)∧m.b=(n2:Rat) / (D:Rat)∧m.c=(n3:Rat) / (D:Rat)∧m.d=(n4:Rat) / (D:Rat)∧lz n1≤b∧lz n2≤b∧lz n3≤b∧lz n4≤b∧lz D≤b
theorem rep_bQ {b:Nat} {m:MQ} (h:RepM b m):bQ b m.a∧bQ b m.b∧bQ b m.c∧bQ b m.d:=by
 obtain ⟨n1,n2,n3,n4,D,hD,e1,e2,e3,e4,h1,h2,h3,h4,h5⟩:=h
 rw [e1,e2,e3,e4,← Rat.divInt_eq_div,← Rat.divInt_eq_div,← Rat.divInt_eq_div,← Rat.divInt_eq_div]
 obtain ⟨a1,a2⟩:=zj0 (p:=n1) hD
 obtain ⟨b1,b2⟩:=zj0 (p:=n2) hD
 obtain ⟨c1,c2⟩:=zj0 (p:=n3) hD
 obtain ⟨d1,d2⟩:=zj0 (p:=n4) hD
 exact ⟨⟨by omega,by omega⟩,⟨by omega,by omega⟩,⟨by omega,by omega⟩,⟨by omega,by omega⟩⟩
theorem mul_div {a b c d D E:Rat} (hD:D≠0) (hE:E≠0):a / D*(c / E)+b / D*(d / E)=(a*c+b*d) / (D*E):=by grind
theorem lz_two {c d:Nat} {a b x y:Int} (ha:lz a≤c) (hb:lz b≤c) (hx:lz x≤d) (hy:lz y≤d):lz (a*x+b*y)≤c+d+1:=by
 have h1:=zj1 (a*x) (b*y)
 have h2:=zdo a x
 have h3:=zdo b y
 omega
theorem rep_mul {c d:Nat} {m q:MQ} (hm:RepM c m) (hq:RepM d q):RepM (c+d+1) (mulQ m q):=by
 obtain ⟨n1,n2,n3,n4,D,hD,e1,e2,e3,e4,h1,h2,h3,h4,h5⟩:=hm
 obtain ⟨k1,k2,k3,k4,E,hE,f1,f2,f3,f4,g1,g2,g3,g4,g5⟩:=hq
 have hDr:(D:Rat)≠0:=fun e=>hD (by exact_mod_cast e)
 have hEr:(E:Rat)≠0:=fun e=>hE (by exact_mod_cast e)
 refine ⟨n1*k1+n2*k3,n1*k2+n2*k4,n3*k1+n4*k3,n3*k2+n4*k4,D*E,Int.mul_ne_zero hD hE,?_,?_,?_,?_,lz_two h1 h2 g1 g3,lz_two h1 h2 g2 g4,lz_two h3 h4 g1 g3,lz_two h3 h4 g2 g4,?_⟩
 ·simp only [mulQ,e1,e2,f1,f3,Rat.intCast_add,Rat.intCast_mul]
  exact mul_div hDr hEr
 ·simp only [mulQ,e1,e2,f2,f4,Rat.intCast_add,Rat.intCast_mul]
  exact mul_div hDr hEr
 ·simp only [mulQ,e3,e4,f1,f3,Rat.intCast_add,Rat.intCast_mul]
  exact mul_div hDr hEr
 ·simp only [mulQ,e3,e4,f2,f4,Rat.intCast_add,Rat.intCast_mul]
  exact mul_div hDr hEr
 ·have:=zdo D E
  omega
theorem rep_of {b:Nat} {m:MQ} (n1 n2 n3 n4 D:Int) (hD:D≠0) (e1:m.a*(D:Rat)=(n1:Rat)) (e2:m.b*(D:Rat)=(n2:Rat)) (e3:m.c*(D:Rat)=(n3:Rat)) (e4:m.d*(D:Rat)=(n4:Rat)) (h1:lz n1≤b) (h2:lz n2≤b) (h3:lz n3≤b) (h4:lz n4≤b) (h5:lz D≤b):RepM b m:=by
 have hDr:(D:Rat)≠0:=fun e=>hD (by exact_mod_cast e)
 have key:∀ {x:Rat} {n:Int},x*(D:Rat)=(n:Rat)→x=(n:Rat) / (D:Rat):=fun h=>by rw [← h]; exact (Rat.mul_div_cancel hDr).symm
 exact ⟨n1,n2,n3,n4,D,hD,key e1,key e2,key e3,key e4,h1,h2,h3,h4,h5⟩
theorem lz_0:lz 0=0:=by kernel_rfl
theorem lz_one1:lz 1≤1:=Nat.le_of_ble_eq_true zk
theorem rep_1:RepM 1 ⟨1,0,0,1⟩:=rep_of 1 0 0 1 1 zd (by grind) (by grind) (by grind) (by grind) lz_one1 (by rw [lz_0]; omega) (by rw [lz_0]; omega) lz_one1 lz_one1
theorem rep_mono {b c:Nat} {m:MQ} (h:RepM b m) (hc:b≤c):RepM c m:=by
 obtain ⟨n1,n2,n3,n4,D,hD,e1,e2,e3,e4,h1,h2,h3,h4,h5⟩:=h
 exact ⟨n1,n2,n3,n4,D,hD,e1,e2,e3,e4,by omega,by omega,by omega,by omega,by omega⟩
theorem qa_bQ {k k':Nat} {x:Rat} (h:bQ k' x):WkA (QA k x) (QA k' x):=qaA.trans (qa_of h.1 h.2)
theorem qm_rep {k k':Nat} {m:MQ} (h:RepM k' m):WkA (QMA k m) (QMA k' m):=by
 obtain ⟨h1,h2,h3,h4⟩:=rep_bQ h
 exact zbg (.cons (qa_bQ h1) (.cons (qa_bQ h2) (.cons (qa_bQ h3) (.cons (qa_bQ h4) .nil))))
section
variable {P:Program} {R:Rg} {Q:Exit→Act→World→Prop} {B i:Nat} {w0:Bs}
theorem zkx {x:Operand} {T k f:Nat} {A A':As} {fs:Array Field} {fd:Field} (hx:Has R B w0 i x A.va) (hA:A.ag=true) (hA':A'.ag=true) (hS:P.underlying T=some (.struct fs)) (hfd:fs[f]?=some fd) (hk:fd.offset=k) (ht:Ty P fd.type A'.n A'.ag) (hs:Sub A k A') :
  Wv P Q R B w0 i (.field T x f) A'.va :=
 zbv fun d T' ps af gd a w av=>by
  obtain ⟨cs,h1,hv⟩:=hx a w av
  obtain ⟨p1,l1⟩:=hs _ _ _ h1
  have hv':a.eval x=.agg cs.toArray:=by rw [hv]; unfold shape; rw [hA]; rfl
  have ha:(isAgg fd.type).run P w=.ok true w:=by
   have:=ht.2
   rw [hA'] at this
   cases hu:P.underlying fd.type with
   | none=>rw [hu] at this; simp at this
   | some u =>
    rw [hu] at this
    unfold isAgg
    simp only [Sem.run_bind,run_underlying hu,Result.andThen_ok]
    cases u <;> simp_all
  have hz:(sizeOf fd.type).run P w=.ok A'.n w:=by
   have:=ht.1
   cases hi:P.info? fd.type with
   | none=>rw [hi] at this; simp at this
   | some it=>rw [hi] at this; simp [sizeOf,typeInfo,hi]; simpa using this
  refine ⟨.agg (cs.toArray.extract k (k+A'.n)),w,?_,Grow.refl w,_,p1,?_⟩
  ·simp [execOp,hv',Instr.field,run_underlying hS,hfd,asAgg,part,ha,hz,hk]
  ·unfold shape
   rw [hA',if_pos rfl]
   congr 1
   apply Array.ext'
   simp
end
structure RQ4 where
 a:RG
 b:RG
 c:RG
 d:RG
 deriving DecidableEq
def RQA (x:RQ4):As:=cat [RGA x.a,RGA x.b,RGA x.c,RGA x.d]
theorem rg0_p (B:Nat) (w:World):(RGA rg0).p B [.bool false,.slice none 0 0,.bool false,.slice none 0 0,.bool false,.slice none 0 0,.bool false,.slice none 0 0] w:=⟨[[.bool false,.slice none 0 0,.bool false,.slice none 0 0],[.bool false,.slice none 0 0,.bool false,.slice none 0 0]],rfl,.cons (zff B w) (.cons (zff B w) .nil)⟩
theorem rm0_p (B:Nat) (w:World):(RMA rm0).p B [.bool false,.slice none 0 0,.bool false,.slice none 0 0,.bool false,.slice none 0 0,.bool false,.slice none 0 0,.bool false,.slice none 0 0,.bool false,.slice none 0 0,.bool false,.slice none 0 0,.bool false,.slice none 0 0] w:=⟨[[.bool false,.slice none 0 0,.bool false,.slice none 0 0],[.bool false,.slice none 0 0,.bool false,.slice none 0 0],[.bool false,.slice none 0 0,.bool false,.slice none 0 0],[.bool false,.slice none 0 0,.bool false,.slice none 0 0]],rfl,.cons (zff B w) (.cons (zff B w) (.cons (zff B w) (.cons (zff B w) .nil)))⟩
abbrev rq0:RQ4:=⟨rg0,rg0,rg0,rg0⟩
def LtA (x:RM × RF × RF):As:=cat [RMA x.1,RFA x.2.1,RFA x.2.2]
def QLtA (c d e:Nat) (m:MQ) (h g:Rat):As:=cat [QMA c m,QA d h,QA e g]
abbrev lt0:RM × RF × RF:=(rm0,rf0,rf0)
theorem zgl:Str Tryz.prog 157 [RFA rf0,RFA rf0] :=
 Str.of (z:=.agg #[.bool false,.slice none 0 0,.bool false,.slice none 0 0,.bool false,.slice none 0 0,.bool false,.slice none 0 0]) zk Tryz.underlying157 zk fun B w=>⟨[[.bool false,.slice none 0 0,.bool false,.slice none 0 0],[.bool false,.slice none 0 0,.bool false,.slice none 0 0]],rfl,(.cons (zff B w) (.cons (zff B w) .nil))⟩
theorem zdb:Str Tryz.prog 278 [RFA rf0,RFA rf0,RFA rf0,RFA rf0] :=
 Str.of (z:=.agg #[.bool false,.slice none 0 0,.bool false,.slice none 0 0,.bool false,.slice none 0 0,.bool false,.slice none 0 0,.bool false,.slice none 0 0,.bool false,.slice none 0 0,.bool false,.slice none 0 0,.bool false,.slice none 0 0]) zk Tryz.underlying278 zk fun B w=>⟨[[.bool false,.slice none 0 0,.bool false,.slice none 0 0],[.bool false,.slice none 0 0,.bool false,.slice none 0 0],[.bool false,.slice none 0 0,.bool false,.slice none 0 0],[.bool false,.slice none 0 0,.bool false,.slice none 0 0]],rfl,(.cons (zff B w) (.cons (zff B w) (.cons (zff B w) (.cons (zff B w) .nil))))⟩
theorem zd7:Str Tryz.prog 98 [RGA rg0,RGA rg0,RGA rg0,RGA rg0] :=
 Str.of (z:=.agg #[.bool false,.slice none 0 0,.bool false,.slice none 0 0,.bool false,.slice none 0 0,.bool false,.slice none 0 0,.bool false,.slice none 0 0,.bool false,.slice none 0 0,.bool false,.slice none 0 0,.bool false,.slice none 0 0,.bool false,.slice none 0 0,.bool false,.slice none 0 0,.bool false,.slice none 0 0,.bool false,.slice none 0 0,.bool false,.slice none 0 0,.bool false,.slice none 0 0,.bool false,.slice none 0 0,.bool false,.slice none 0 0]) zk Tryz.underlying98 zk fun B w=>⟨[[.bool false,.slice none 0 0,.bool false,.slice none 0 0,.bool false,.slice none 0 0,.bool false,.slice none 0 0],[.bool false,.slice none 0 0,.bool false,.slice none 0 0,.bool false,.slice none 0 0,.bool false,.slice none 0 0],[.bool false,.slice none 0 0,.bool false,.slice none 0 0,.bool false,.slice none 0 0,.bool false,.slice none 0 0],[.bool false,.slice none 0 0,.bool false,.slice none 0 0,.bool false,.slice none 0 0,.bool false,.slice none 0 0]],rfl,(.cons (rg0_p B w) (.cons (rg0_p B w) (.cons (rg0_p B w) (.cons (rg0_p B w) .nil))))⟩
theorem zfc:Str Tryz.prog 280 [RMA rm0,RFA rf0,RFA rf0] :=
 Str.of (z:=.agg #[.bool false,.slice none 0 0,.bool false,.slice none 0 0,.bool false,.slice none 0 0,.bool false,.slice none 0 0,.bool false,.slice none 0 0,.bool false,.slice none 0 0,.bool false,.slice none 0 0,.bool false,.slice none 0 0,.bool false,.slice none 0 0,.bool false,.slice none 0 0,.bool false,.slice none 0 0,.bool false,.slice none 0 0]) zk Tryz.underlying280 zk fun B w=>⟨[[.bool false,.slice none 0 0,.bool false,.slice none 0 0,.bool false,.slice none 0 0,.bool false,.slice none 0 0,.bool false,.slice none 0 0,.bool false,.slice none 0 0,.bool false,.slice none 0 0,.bool false,.slice none 0 0],[.bool false,.slice none 0 0,.bool false,.slice none 0 0],[.bool false,.slice none 0 0,.bool false,.slice none 0 0]],rfl,(.cons (rm0_p B w) (.cons (zff B w) (.cons (zff B w) .nil)))⟩
def okH (x:RR):Bool := !((![x.y,x.u].all okX) || decide ((toQ x.y).num.sign≤0))
def mayS (xs:List RR):Int:=if xs.length>64 then 4 else if xs.all okH then 0 else 1
def zG (t:Rat):GQ:=⟨((t.den:Int):Rat),(t.num:Rat)⟩
def unitG (t:Rat):GQ:=sclG (mulG (zG t) (zG t)) (1 / normG (zG t))
def shQ (n t:Rat):MQ:=⟨(unitG t).re,(unitG t).im / n,(unitG t).im*n,(unitG t).re⟩
def thenQ (m n:MQ):MQ:=⟨m.a*n.a - m.b*n.c,m.a*n.b+m.b*n.d,m.c*n.a+m.d*n.c,m.d*n.d - m.c*n.b⟩
def shM (x:RR):MQ:=shQ (toQ x.y) (toQ x.u)
def filmQ (xs:List RR):MQ:=xs.foldl (fun m x=>thenQ m (shM x)) ⟨1,0,0,1⟩
theorem norm_z (t:Rat):normG (zG t)≠0:=fun e=>by
 obtain ⟨h1,_⟩:=sum_sq (x:=(zG t).re) (y:=(zG t).im) e
 exact den_ne t h1
theorem okH_no {x:RR} (h:((![x.y,x.u].all okX) || decide ((toQ x.y).num.sign≤0))=true):okH x=false:=by rw [okH,h]; rfl
theorem okH_yes {x:RR} (h:((![x.y,x.u].all okX) || decide ((toQ x.y).num.sign≤0))=false):okH x=true:=by rw [okH,h]; rfl
theorem okH_q {x:RR} (h:okH x=true):[x.y,x.u].all okX=true∧0<toQ x.y:=by
 unfold okH at h
 rw [Bool.not_eq_true',Bool.or_eq_false_iff,Bool.not_eq_false'] at h
 exact ⟨h.1,Decidable.byContradiction fun h2=>(of_decide_eq_false h.2) (sgn_le.2 h2)⟩
theorem sgn_y {x:RR} (h:(![x.y,x.u].all okX)=false):Cn Tryz.prog 90 [(RFA x.y).va] (In (toQ x.y).num.sign):=by
 rw [Bool.not_eq_false'] at h
 simp only [List.all_cons,List.all_nil,Bool.and_true,Bool.and_eq_true] at h
 exact sign_q.wk (.cons (qa_x h.1 (Nat.le_refl 2048)).va .nil)
theorem num_wk {t:Rat}:WkA (cat [ZA 2048 t.num,ZA 2 (1:Rat).num]) (QA 2048 (t.num:Rat)):=zbg (.cons (zfa (by rw [Rat.num_intCast])) (.cons ((zei (k':=2048) zd).trans (zfa (by rw [Rat.den_intCast]; rfl))) .nil))
theorem den_wk {t:Rat}:WkA (cat [ZA 2048 (t.den:Int),ZA 2 (1:Rat).num]) (QA 2048 ((t.den:Int):Rat)):=zbg (.cons (zfa (by rw [Rat.num_intCast])) (.cons ((zei (k':=2048) zd).trans (zfa (by rw [Rat.den_intCast]; rfl))) .nil))
theorem unit_q {t:Rat}:Cn Tryz.prog 371 [Qs 2048 t] ((QGA 24583 (unitG t)).va):=by
 refine Cn.intro Tryz.func371 rfl zk nq (fun B w0 a hst=>?_)
 have hst:St B w0 27 [(0,Qs 2048 t)] [] a w0.w:=hst
 refine wp_seq ?_
 refine gl (sts:=[]) (news:=[⟨1,26,ptrH,some 0,_,none⟩,⟨2,73,ptrH,some 1,_,none⟩]) (sp:=[.alc 0,.alc 1]) [] hst (oc (zai rfl rfl rfl (gq 0 rfl)) (oc (zan rfl rfl rfl (Str.zero zaz)) o0)) (fun a w hst=>?_)
 have hst:St B w0 27 [] [⟨1,26,ptrH,_⟩,⟨2,73,ptrH,_⟩] a w:=hst
 refine zt ?_
 refine zau (anc:=[[],[0],[],[2],[0,1,2,3],[],[5],[2],[2,7],[2,5,6,7,8],[],[],[0,1,2,3,4,7,10,11],[0,1,2,3,4,5,6,7,8,9,10,11,12]]) (sts:=[none,none]) (news:=[⟨3,26,ptrH,some 10,_,some (12,_)⟩,⟨4,26,ptrH,some 11,_,some (13,_)⟩]) (sp:=[.adr 6 1 (.some 0) True,.val 7 _,.val 8 _,.val 9 _,.val 10 _,.adr 11 1 (.some 2) True,.val 12 _,.val 13 _,.val 14 _,.val 15 _,.alc 2,.alc 3,.sto 2,.sto 3]) [] za6 hst (oc (ob_a rfl rfl (za9 (lz0 0 rfl) zbi)) (zv rfl rfl (za4 0 rfl zk trivial (lz0 0 rfl) (Sub.part 0 rfl rfl) zab) (zv rfl rfl (za5 (xs:=[]) one_q .nil) (zv rfl rfl (zkx (vq 2 rfl) rfl rfl Tryz.underlying26 rfl rfl ⟨zk,zk⟩ (Sub.part 0 rfl rfl)) (zv rfl rfl (zb3 (xs:=[(0,.tmp 7),(1,.tmp 9)]) (qs:=[(0,_),(1,_)]) zav (.cons ⟨rfl,(vq 1 rfl),rfl⟩ (.cons ⟨rfl,(vq 3 rfl),rfl⟩ .nil))) (oc (ob_a rfl rfl (za9 (lz0 0 rfl) zb8)) (zv rfl rfl (za4 5 rfl zk trivial (lz0 0 rfl) (Sub.part 1 rfl rfl) zab) (zv rfl rfl (za5 (xs:=[]) one_q .nil) (zv rfl rfl (zkx (vq 7 rfl) rfl rfl Tryz.underlying26 rfl rfl ⟨zk,zk⟩ (Sub.part 0 rfl rfl)) (zv rfl rfl (zb3 (xs:=[(0,.tmp 12),(1,.tmp 14)]) (qs:=[(0,_),(1,_)]) zav (.cons ⟨rfl,(vq 6 rfl),rfl⟩ (.cons ⟨rfl,(vq 8 rfl),rfl⟩ .nil))) (oc (zan rfl rfl rfl (Str.zero zav)) (oc (zan rfl rfl rfl (Str.zero zav)) (oc (zaa rfl rfl rfl (vq 4 rfl) zae (Eq.trans (b:=4) rfl rfl)) (oc (zaa rfl rfl rfl (vq 9 rfl) zae (Eq.trans (b:=4) rfl rfl)) o0)))))))))))))) zk zk zk zk (fun a w hst=>?_)
 have hst:St B w0 27 [] [⟨1,26,ptrH,_⟩,⟨2,73,ptrH,_⟩,⟨3,26,ptrH,_⟩,⟨4,26,ptrH,_⟩] a w:=hst
 have hst:=St.wkL hst 2 rfl num_wk
 have hst:=St.wkL hst 3 rfl den_wk
 refine zt ?_
 refine gl (sts:=[none,none,none,none]) (news:=[⟨5,73,ptrH,some 3,_,some (4,_)⟩]) (sp:=[.val 16 _,.val 17 _,.val 18 _,.alc 4,.sto 4]) [] hst (zv rfl rfl (zad (lz0 3 rfl) zae) (zv rfl rfl (zad (lz0 2 rfl) zae) (zv rfl rfl (zb3 (xs:=[(0,.tmp 16),(1,.tmp 17)]) (qs:=[(0,_),(1,_)]) zaz (.cons ⟨rfl,(vq 0 rfl),rfl⟩ (.cons ⟨rfl,(vq 1 rfl),rfl⟩ .nil))) (oc (zan rfl rfl rfl (Str.zero zaz)) (oc (zaa rfl rfl rfl (vq 2 rfl) zb1 (Eq.trans (b:=8) rfl rfl)) o0))))) (fun a w hst=>?_)
 have hst:St B w0 27 [] [⟨1,26,ptrH,_⟩,⟨2,73,ptrH,_⟩,⟨3,26,ptrH,_⟩,⟨4,26,ptrH,_⟩,⟨5,73,ptrH,_⟩] a w:=hst
 refine zt ?_
 refine zau (anc:=[[],[],[0,1],[0,1,2],[],[0,1,2,3,4],[0,1,2,3,4,5],[0,1,2,3,4,5,6],[0,1,2,3,4,5,6,7]]) (sts:=[none,some (8,_),none,none,none]) (news:=[]) (sp:=[.val 19 _,.val 20 _,.val 21 _,.val 22 _,.val 23 _,.val 24 _,.val 25 _,.val 26 _,.sto 1]) [] za6 hst (zv rfl rfl (zad (lz0 4 rfl) zb1) (zv rfl rfl (zad (lz0 4 rfl) zb1) (zv rfl rfl (za5 (xs:=[.tmp 19,.tmp 20]) (zg2 (c:=2048) (d:=2048) (z:=zG t) (u:=zG t) zd) (.cons (vq 0 rfl) (.cons (vq 1 rfl) .nil))) (zv rfl rfl (za5 (xs:=[]) one_q .nil) (zv rfl rfl (zad (lz0 4 rfl) zb1) (zv rfl rfl (za5 (xs:=[.tmp 23]) (norm_q (c:=2048) (z:=zG t) zd) (.cons (vq 4 rfl) .nil)) (zv rfl rfl (za5 (xs:=[.tmp 22,.tmp 24]) (over_q zd (norm_z t)) (.cons (vq 3 rfl) (.cons (vq 5 rfl) .nil))) (zv rfl rfl (za5 (xs:=[.tmp 21,.tmp 25]) (zi6 (z:=mulG (zG t) (zG t)) zd) (.cons (vq 2 rfl) (.cons (vq 6 rfl) .nil))) (oc (zaa rfl rfl rfl (vq 7 rfl) zb1 (Eq.trans (b:=8) rfl rfl)) o0))))))))) zk zk zk zk (fun a w hst=>?_)
 have hst:St B w0 27 [] [⟨1,26,ptrH,_⟩,⟨2,73,ptrH,_⟩,⟨3,26,ptrH,_⟩,⟨4,26,ptrH,_⟩,⟨5,73,ptrH,_⟩] a w:=hst
 refine za0 ?_
 refine wp_ret ?_
 refine zaq ?_ (zal rfl hst (zm 1 rfl) zb1)
 exact zbt
theorem sheet_q {n t:Rat} (h0:n≠0):Cn Tryz.prog 350 [(QRA 2048 ⟨n,t⟩).va] ((QMA 26631 (shQ n t)).va):=by
 refine Cn.intro Tryz.func350 rfl zk nq (fun B w0 a hst=>?_)
 have hst:St B w0 23 [(0,(QRA 2048 ⟨n,t⟩).va)] [] a w0.w:=hst
 refine wp_seq ?_
 refine gl (sts:=[]) (news:=[⟨1,157,ptrH,some 0,_,none⟩,⟨2,278,ptrH,some 1,_,none⟩]) (sp:=[.alc 0,.alc 1]) [] hst (oc (zai rfl rfl rfl (gq 0 rfl)) (oc (zan rfl rfl rfl (Str.zero zdb)) o0)) (fun a w hst=>?_)
 have hst:St B w0 23 [] [⟨1,157,ptrH,_⟩,⟨2,278,ptrH,_⟩] a w:=hst
 refine zt ?_
 refine gl (sts:=[none,none]) (news:=[⟨3,73,ptrH,some 3,_,some (4,_)⟩]) (sp:=[.adr 4 1 (.some 4) True,.val 5 _,.val 6 _,.alc 2,.sto 2]) [] hst (oc (ob_a rfl rfl (za9 (lz0 0 rfl) fld_157_1)) (zv rfl rfl (za4 0 rfl zk trivial (lz0 0 rfl) (Sub.part 1 rfl rfl) zae) (zv rfl rfl (za5 (xs:=[.tmp 5]) unit_q (.cons (vq 1 rfl) .nil)) (oc (zan rfl rfl rfl (Str.zero zaz)) (oc (zaa rfl rfl rfl (vq 2 rfl) zb1 (Eq.trans (b:=8) rfl rfl)) o0))))) (fun a w hst=>?_)
 have hst:St B w0 23 [] [⟨1,157,ptrH,_⟩,⟨2,278,ptrH,_⟩,⟨3,73,ptrH,_⟩] a w:=hst
 refine zt ?_
 refine zau (anc:=[[],[0],[],[2],[],[4],[2,3,4,5],[],[7],[],[9],[2,3,4,5,6,7,8,9,10],[],[12],[2,3,4,5,6,7,8,9,10,11,12,13],[0,1,2,3,4,5,6,7,8,9,10,11,12,13,14],[0,1,2,3,4,5,6,7,8,9,10,11,12,13,14,15]]) (sts:=[none,some (16,_),none]) (news:=[]) (sp:=[.adr 7 3 (.some 0) True,.val 8 _,.adr 9 3 (.some 4) True,.val 10 _,.adr 11 1 (.some 0) True,.val 12 _,.val 13 _,.adr 14 3 (.some 4) True,.val 15 _,.adr 16 1 (.some 0) True,.val 17 _,.val 18 _,.adr 19 3 (.some 0) True,.val 20 _,.val 21 _,.val 22 _,.sto 1]) [] za6 hst (oc (ob_a rfl rfl (za9 (lz0 2 rfl) zbk)) (zv rfl rfl (za4 0 rfl zk trivial (lz0 2 rfl) (Sub.part 0 rfl rfl) zae) (oc (ob_a rfl rfl (za9 (lz0 2 rfl) zbj)) (zv rfl rfl (za4 2 rfl zk trivial (lz0 2 rfl) (Sub.part 1 rfl rfl) zae) (oc (ob_a rfl rfl (za9 (lz0 0 rfl) zh7)) (zv rfl rfl (za4 4 rfl zk trivial (lz0 0 rfl) (Sub.part 0 rfl rfl) zae) (zv rfl rfl (za5 (xs:=[.tmp 10,.tmp 12]) (over_q zd h0) (.cons (vq 3 rfl) (.cons (vq 5 rfl) .nil))) (oc (ob_a rfl rfl (za9 (lz0 2 rfl) zbj)) (zv rfl rfl (za4 7 rfl zk trivial (lz0 2 rfl) (Sub.part 1 rfl rfl) zae) (oc (ob_a rfl rfl (za9 (lz0 0 rfl) zh7)) (zv rfl rfl (za4 9 rfl zk trivial (lz0 0 rfl) (Sub.part 0 rfl rfl) zae) (zv rfl rfl (za5 (xs:=[.tmp 15,.tmp 17]) (zd0 zo) (.cons (vq 8 rfl) (.cons (vq 10 rfl) .nil))) (oc (ob_a rfl rfl (za9 (lz0 2 rfl) zbk)) (zv rfl rfl (za4 12 rfl zk trivial (lz0 2 rfl) (Sub.part 0 rfl rfl) zae) (zv rfl rfl (za5 (xs:=[.tmp 20]) (copy_q zo) (.cons (vq 13 rfl) .nil)) (zv rfl rfl (zb3 (xs:=[(0,.tmp 8),(1,.tmp 13),(2,.tmp 18),(3,.tmp 21)]) (qs:=[(0,_),(1,_),(2,_),(3,_)]) zdb (.cons ⟨rfl,(vq 1 rfl),rfl⟩ (.cons ⟨rfl,(vq 6 rfl),rfl⟩ (.cons ⟨rfl,(vq 11 rfl),rfl⟩ (.cons ⟨rfl,(vq 14 rfl),rfl⟩ .nil))))) (oc (zaa rfl rfl rfl (vq 15 rfl) zg4 (Eq.trans (b:=16) rfl rfl)) o0))))))))))))))))) zk zk zk zk (fun a w hst=>?_)
 have hst:St B w0 23 [] [⟨1,157,ptrH,_⟩,⟨2,278,ptrH,_⟩,⟨3,73,ptrH,_⟩] a w:=hst
 refine za0 ?_
 refine wp_ret ?_
 refine zaq ?_ (zal rfl hst (zm 1 rfl) zg4)
 exact (zbg (.cons (zc6 zd) (.cons (zc6 zd) (.cons (zc6 zd) (.cons (zc6 zd) .nil))))).va
theorem filPlus_q {c d e f:Nat} {x y z u:Rat} (hk:c+d+e+f≤137438953472):Cn Tryz.prog 370 [Qs c x,Qs d y,Qs e z,Qs f u] (Qs (c+d+(e+f)+1) (x*y+z*u)):=by
 refine Cn.intro Tryz.func370 rfl zk nq (fun B w0 a hst=>?_)
 have hst:St B w0 16 [(0,Qs c x),(1,Qs d y),(2,Qs e z),(3,Qs f u)] [] a w0.w:=hst
 refine wp_seq ?_
 refine gl (sts:=[]) (news:=[⟨4,26,ptrH,some 0,_,none⟩,⟨5,26,ptrH,some 1,_,none⟩,⟨6,26,ptrH,some 2,_,none⟩,⟨7,26,ptrH,some 3,_,none⟩,⟨8,26,ptrH,some 4,_,none⟩]) (sp:=[.alc 0,.alc 1,.alc 2,.alc 3,.alc 4]) [] hst (oc (zai rfl rfl rfl (gq 0 rfl)) (oc (zai rfl rfl rfl (gq 1 rfl)) (oc (zai rfl rfl rfl (gq 2 rfl)) (oc (zai rfl rfl rfl (gq 3 rfl)) (oc (zan rfl rfl rfl (Str.zero zav)) o0))))) (fun a w hst=>?_)
 have hst:St B w0 16 [] [⟨4,26,ptrH,_⟩,⟨5,26,ptrH,_⟩,⟨6,26,ptrH,_⟩,⟨7,26,ptrH,_⟩,⟨8,26,ptrH,_⟩] a w:=hst
 refine zt ?_
 refine zau (anc:=[[],[],[0,1],[],[],[0,1,2,3,4],[0,1,2,3,4,5],[0,1,2,3,4,5,6]]) (sts:=[none,none,none,none,some (7,_)]) (news:=[]) (sp:=[.val 9 _,.val 10 _,.val 11 _,.val 12 _,.val 13 _,.val 14 _,.val 15 _,.sto 4]) [] za6 hst (zv rfl rfl (zad (lz0 0 rfl) zae) (zv rfl rfl (zad (lz0 1 rfl) zae) (zv rfl rfl (za5 (xs:=[.tmp 9,.tmp 10]) (zd0 zo) (.cons (vq 0 rfl) (.cons (vq 1 rfl) .nil))) (zv rfl rfl (zad (lz0 2 rfl) zae) (zv rfl rfl (zad (lz0 3 rfl) zae) (zv rfl rfl (za5 (xs:=[.tmp 12,.tmp 13]) (zd0 zo) (.cons (vq 3 rfl) (.cons (vq 4 rfl) .nil))) (zv rfl rfl (za5 (xs:=[.tmp 11,.tmp 14]) (ziw zo) (.cons (vq 2 rfl) (.cons (vq 5 rfl) .nil))) (oc (zaa rfl rfl rfl (vq 6 rfl) zae (Eq.trans (b:=4) rfl rfl)) o0)))))))) zk zk zk zk (fun a w hst=>?_)
 have hst:St B w0 16 [] [⟨4,26,ptrH,_⟩,⟨5,26,ptrH,_⟩,⟨6,26,ptrH,_⟩,⟨7,26,ptrH,_⟩,⟨8,26,ptrH,_⟩] a w:=hst
 refine za0 ?_
 refine wp_ret ?_
 refine zaq ?_ (zal rfl hst (zm 4 rfl) zae)
 exact zbt
theorem filLess_q {c d e f:Nat} {x y z u:Rat} (hk:c+d+e+f≤137438953472):Cn Tryz.prog 369 [Qs c x,Qs d y,Qs e z,Qs f u] (Qs (c+d+(e+f)+1) (x*y - z*u)):=by
 refine Cn.intro Tryz.func369 rfl zk nq (fun B w0 a hst=>?_)
 have hst:St B w0 16 [(0,Qs c x),(1,Qs d y),(2,Qs e z),(3,Qs f u)] [] a w0.w:=hst
 refine wp_seq ?_
 refine gl (sts:=[]) (news:=[⟨4,26,ptrH,some 0,_,none⟩,⟨5,26,ptrH,some 1,_,none⟩,⟨6,26,ptrH,some 2,_,none⟩,⟨7,26,ptrH,some 3,_,none⟩,⟨8,26,ptrH,some 4,_,none⟩]) (sp:=[.alc 0,.alc 1,.alc 2,.alc 3,.alc 4]) [] hst (oc (zai rfl rfl rfl (gq 0 rfl)) (oc (zai rfl rfl rfl (gq 1 rfl)) (oc (zai rfl rfl rfl (gq 2 rfl)) (oc (zai rfl rfl rfl (gq 3 rfl)) (oc (zan rfl rfl rfl (Str.zero zav)) o0))))) (fun a w hst=>?_)
 have hst:St B w0 16 [] [⟨4,26,ptrH,_⟩,⟨5,26,ptrH,_⟩,⟨6,26,ptrH,_⟩,⟨7,26,ptrH,_⟩,⟨8,26,ptrH,_⟩] a w:=hst
 refine zt ?_
 refine zau (anc:=[[],[],[0,1],[],[],[0,1,2,3,4],[0,1,2,3,4,5],[0,1,2,3,4,5,6]]) (sts:=[none,none,none,none,some (7,_)]) (news:=[]) (sp:=[.val 9 _,.val 10 _,.val 11 _,.val 12 _,.val 13 _,.val 14 _,.val 15 _,.sto 4]) [] za6 hst (zv rfl rfl (zad (lz0 0 rfl) zae) (zv rfl rfl (zad (lz0 1 rfl) zae) (zv rfl rfl (za5 (xs:=[.tmp 9,.tmp 10]) (zd0 zo) (.cons (vq 0 rfl) (.cons (vq 1 rfl) .nil))) (zv rfl rfl (zad (lz0 2 rfl) zae) (zv rfl rfl (zad (lz0 3 rfl) zae) (zv rfl rfl (za5 (xs:=[.tmp 12,.tmp 13]) (zd0 zo) (.cons (vq 3 rfl) (.cons (vq 4 rfl) .nil))) (zv rfl rfl (za5 (xs:=[.tmp 11,.tmp 14]) (ziy zo) (.cons (vq 2 rfl) (.cons (vq 5 rfl) .nil))) (oc (zaa rfl rfl rfl (vq 6 rfl) zae (Eq.trans (b:=4) rfl rfl)) o0)))))))) zk zk zk zk (fun a w hst=>?_)
 have hst:St B w0 16 [] [⟨4,26,ptrH,_⟩,⟨5,26,ptrH,_⟩,⟨6,26,ptrH,_⟩,⟨7,26,ptrH,_⟩,⟨8,26,ptrH,_⟩] a w:=hst
 refine za0 ?_
 refine wp_ret ?_
 refine zaq ?_ (zal rfl hst (zm 4 rfl) zae)
 exact zbt
theorem then_q {c d:Nat} {m n:MQ} (hk:c+d≤68719476736):Cn Tryz.prog 349 [(QMA c m).va,(QMA d n).va] ((QMA (c+d+(c+d)+1) (thenQ m n)).va):=by
 refine Cn.intro Tryz.func349 rfl zk nq (fun B w0 a hst=>?_)
 have hst:St B w0 42 [(0,(QMA c m).va),(1,(QMA d n).va)] [] a w0.w:=hst
 refine wp_seq ?_
 refine gl (sts:=[]) (news:=[⟨2,278,ptrH,some 0,_,none⟩,⟨3,278,ptrH,some 1,_,none⟩,⟨4,278,ptrH,some 2,_,none⟩]) (sp:=[.alc 0,.alc 1,.alc 2]) [] hst (oc (zai rfl rfl rfl (gq 0 rfl)) (oc (zai rfl rfl rfl (gq 1 rfl)) (oc (zan rfl rfl rfl (Str.zero zdb)) o0))) (fun a w hst=>?_)
 have hst:St B w0 42 [] [⟨2,278,ptrH,_⟩,⟨3,278,ptrH,_⟩,⟨4,278,ptrH,_⟩] a w:=hst
 refine zt ?_
 refine zau (anc:=[[],[0],[],[2],[],[4],[],[6],[0,1,2,3,4,5,6,7],[],[9],[],[11],[],[13],[],[15],[0,1,2,3,4,5,6,7,8,9,10,11,12,13,14,15,16],[],[18],[],[20],[],[22],[],[24],[0,1,2,3,4,5,6,7,8,9,10,11,12,13,14,15,16,17,18,19,20,21,22,23,24,25],[],[27],[],[29],[],[31],[],[33],[0,1,2,3,4,5,6,7,8,9,10,11,12,13,14,15,16,17,18,19,20,21,22,23,24,25,26,27,28,29,30,31,32,33,34],[0,1,2,3,4,5,6,7,8,9,10,11,12,13,14,15,16,17,18,19,20,21,22,23,24,25,26,27,28,29,30,31,32,33,34,35],[0,1,2,3,4,5,6,7,8,9,10,11,12,13,14,15,16,17,18,19,20,21,22,23,24,25,26,27,28,29,30,31,32,33,34,35,36]]) (sts:=[none,none,some (37,_)]) (news:=[]) (sp:=((.adr 5 2 (.some 0) True:Sp)::(.val 6 _)::(.adr 7 3 (.some 0) True)::(.val 8 _)::(.adr 9 2 (.some 4) True)::(.val 10 _)::(.adr 11 3 (.some 8) True)::(.val 12 _)::(.val 13 _)::(.adr 14 2 (.some 0) True)::(.val 15 _)::(.adr 16 3 (.some 4) True)::(.val 17 _)::(.adr 18 2 (.some 4) True)::(.val 19 _)::(.adr 20 3 (.some 12) True)::(.val 21 _)::(.val 22 _)::(.adr 23 2 (.some 8) True)::(.val 24 _)::(.adr 25 3 (.some 0) True)::(.val 26 _)::(.adr 27 2 (.some 12) True)::(.val 28 _)::(.adr 29 3 (.some 8) True)::(.val 30 _)::(.val 31 _)::(.adr 32 2 (.some 12) True)::(.val 33 _)::(.adr 34 3 (.some 12) True)::(.val 35 _)::(.adr 36 2 (.some 8) True)::(.val 37 _)::(.adr 38 3 (.some 4) True)::(.val 39 _)::(.val 40 _)::(.val 41 _)::(.sto 2)::[])) [] za6 hst (oc (ob_a rfl rfl (za9 (lz0 0 rfl) ze7)) (zv rfl rfl (za4 0 rfl zk trivial (lz0 0 rfl) (Sub.part 0 rfl rfl) zae) (oc (ob_a rfl rfl (za9 (lz0 1 rfl) ze7)) (zv rfl rfl (za4 2 rfl zk trivial (lz0 1 rfl) (Sub.part 0 rfl rfl) zae) (oc (ob_a rfl rfl (za9 (lz0 0 rfl) ze6)) (zv rfl rfl (za4 4 rfl zk trivial (lz0 0 rfl) (Sub.part 1 rfl rfl) zae) (oc (ob_a rfl rfl (za9 (lz0 1 rfl) ze5)) (zv rfl rfl (za4 6 rfl zk trivial (lz0 1 rfl) (Sub.part 2 rfl rfl) zae) (zv rfl rfl (za5 (xs:=[.tmp 6,.tmp 8,.tmp 10,.tmp 12]) (filLess_q zo) (.cons (vq 1 rfl) (.cons (vq 3 rfl) (.cons (vq 5 rfl) (.cons (vq 7 rfl) .nil))))) (oc (ob_a rfl rfl (za9 (lz0 0 rfl) ze7)) (zv rfl rfl (za4 9 rfl zk trivial (lz0 0 rfl) (Sub.part 0 rfl rfl) zae) (oc (ob_a rfl rfl (za9 (lz0 1 rfl) ze6)) (zv rfl rfl (za4 11 rfl zk trivial (lz0 1 rfl) (Sub.part 1 rfl rfl) zae) (oc (ob_a rfl rfl (za9 (lz0 0 rfl) ze6)) (zv rfl rfl (za4 13 rfl zk trivial (lz0 0 rfl) (Sub.part 1 rfl rfl) zae) (oc (ob_a rfl rfl (za9 (lz0 1 rfl) ze4)) (zv rfl rfl (za4 15 rfl zk trivial (lz0 1 rfl) (Sub.part 3 rfl rfl) zae) (zv rfl rfl (za5 (xs:=[.tmp 15,.tmp 17,.tmp 19,.tmp 21]) (filPlus_q zo) (.cons (vq 10 rfl) (.cons (vq 12 rfl) (.cons (vq 14 rfl) (.cons (vq 16 rfl) .nil))))) (oc (ob_a rfl rfl (za9 (lz0 0 rfl) ze5)) (zv rfl rfl (za4 18 rfl zk trivial (lz0 0 rfl) (Sub.part 2 rfl rfl) zae) (oc (ob_a rfl rfl (za9 (lz0 1 rfl) ze7)) (zv rfl rfl (za4 20 rfl zk trivial (lz0 1 rfl) (Sub.part 0 rfl rfl) zae) (oc (ob_a rfl rfl (za9 (lz0 0 rfl) ze4)) (zv rfl rfl (za4 22 rfl zk trivial (lz0 0 rfl) (Sub.part 3 rfl rfl) zae) (oc (ob_a rfl rfl (za9 (lz0 1 rfl) ze5)) (zv rfl rfl (za4 24 rfl zk trivial (lz0 1 rfl) (Sub.part 2 rfl rfl) zae) (zv rfl rfl (za5 (xs:=[.tmp 24,.tmp 26,.tmp 28,.tmp 30]) (filPlus_q zo) (.cons (vq 19 rfl) (.cons (vq 21 rfl) (.cons (vq 23 rfl) (.cons (vq 25 rfl) .nil))))) (oc (ob_a rfl rfl (za9 (lz0 0 rfl) ze4)) (zv rfl rfl (za4 27 rfl zk trivial (lz0 0 rfl) (Sub.part 3 rfl rfl) zae) (oc (ob_a rfl rfl (za9 (lz0 1 rfl) ze4)) (zv rfl rfl (za4 29 rfl zk trivial (lz0 1 rfl) (Sub.part 3 rfl rfl) zae) (oc (ob_a rfl rfl (za9 (lz0 0 rfl) ze5)) (zv rfl rfl (za4 31 rfl zk trivial (lz0 0 rfl) (Sub.part 2 rfl rfl) zae) (oc (ob_a rfl rfl (za9 (lz0 1 rfl) ze6)) (zv rfl rfl (za4 33 rfl zk trivial (lz0 1 rfl) (Sub.part 1 rfl rfl) zae) (zv rfl rfl (za5 (xs:=[.tmp 33,.tmp 35,.tmp 37,.tmp 39]) (filLess_q zo) (.cons (vq 28 rfl) (.cons (vq 30 rfl) (.cons (vq 32 rfl) (.cons (vq 34 rfl) .nil))))) (zv rfl rfl (zb3 (xs:=[(0,.tmp 13),(1,.tmp 22),(2,.tmp 31),(3,.tmp 40)]) (qs:=[(0,_),(1,_),(2,_),(3,_)]) zdb (.cons ⟨rfl,(vq 8 rfl),rfl⟩ (.cons ⟨rfl,(vq 17 rfl),rfl⟩ (.cons ⟨rfl,(vq 26 rfl),rfl⟩ (.cons ⟨rfl,(vq 35 rfl),rfl⟩ .nil))))) (oc (zaa rfl rfl rfl (vq 36 rfl) zg4 (Eq.trans (b:=16) rfl rfl)) o0)))))))))))))))))))))))))))))))))))))) zk zk zk zk (fun a w hst=>?_)
 have hst:St B w0 42 [] [⟨2,278,ptrH,_⟩,⟨3,278,ptrH,_⟩,⟨4,278,ptrH,_⟩] a w:=hst
 refine za0 ?_
 refine wp_ret ?_
 refine zaq ?_ (zal rfl hst (zm 2 rfl) zg4)
 exact (zbg (.cons (zc6 zo) (.cons (zc6 zo) (.cons (zc6 zo) (.cons (zc6 zo) .nil))))).va
def phi (m:MQ):MQ:=⟨m.a,m.b,-m.c,m.d⟩
theorem phi_then (m n:MQ):phi (thenQ m n)=mulQ (phi m) (phi n):=by
 unfold phi thenQ mulQ
 simp only [MQ.mk.injEq]
 exact ⟨by grind,by grind,by grind,by grind⟩
theorem phi_phi (m:MQ):phi (phi m)=m:=by
 unfold phi
 cases m
 simp only [MQ.mk.injEq]
 exact ⟨trivial,trivial,by grind,trivial⟩
theorem rep_phi {b:Nat} {m:MQ} (h:RepM b m):RepM b (phi m):=by
 obtain ⟨n1,n2,n3,n4,D,hD,e1,e2,e3,e4,h1,h2,h3,h4,h5⟩:=h
 refine ⟨n1,n2,-n3,n4,D,hD,e1,e2,?_,e4,h1,h2,by rw [zfk]; exact h3,h4,h5⟩
 unfold phi
 simp only
 rw [e3,Rat.intCast_neg]
 grind
theorem rep_then {c d:Nat} {m n:MQ} (hm:RepM c m) (hn:RepM d n):RepM (c+d+1) (thenQ m n):=by
 have h:=rep_phi (rep_mul (rep_phi hm) (rep_phi hn))
 rwa [← phi_then,phi_phi] at h
def szS (n t:Rat):Nat:=szQ n+szQ t
theorem unit_e (t:Rat):(unitG t).re=((t.den:Int)*(t.den:Int) - t.num*t.num:Int) / (((t.den:Int)*(t.den:Int)+t.num*t.num:Int):Rat)∧(unitG t).im=((t.den:Int)*t.num+t.num*(t.den:Int):Int) / (((t.den:Int)*(t.den:Int)+t.num*t.num:Int):Rat):=by
 unfold unitG sclG mulG normG zG
 simp only [Rat.intCast_add,Rat.intCast_sub,Rat.intCast_mul,Rat.div_def,Rat.one_mul]
 exact ⟨trivial,trivial⟩
theorem cd1 {A N x y:Rat} (h:N≠0):A / N*(N*(x*y))=A*(x*y):=by grind
theorem cd2 {B N a b:Rat} (h:N≠0) (ha:a≠0) (hb:b≠0):B / N / (a / b)*(N*(a*b))=B*(b*b):=by grind
theorem cd3 {B N a b:Rat} (h:N≠0) (hb:b≠0):B / N*(a / b)*(N*(a*b))=B*(a*a):=by grind
theorem sh_rep {n t:Rat} (h0:n≠0):RepM (2*szS n t+1) (shQ n t):=by
 have hd:=den_ne t
 have hN:(((t.den:Int)*(t.den:Int)+t.num*t.num:Int):Rat)≠0:=fun e=>norm_z t (by
  unfold normG zG
  simp only
  rw [Rat.intCast_add,Rat.intCast_mul,Rat.intCast_mul] at e
  exact e)
 have hN':((t.den:Int)*(t.den:Int)+t.num*t.num:Int)≠0:=fun e=>hN (by rw [e]; rfl)
 have hnn:n.num≠0:=fun e=>h0 (Rat.num_eq_zero.1 e)
 have hnd:(n.den:Int)≠0:=by have:=n.den_pos; omega
 have en:=nd_eq n
 have hnr:(n.num:Rat)≠0:=fun e=>hnn (by exact_mod_cast e)
 have hdr:=den_ne n
 obtain ⟨u1,u2⟩:=unit_e t
 have l1:=zdo (t.den:Int) (t.den:Int)
 have l2:=zdo t.num t.num
 have l3:=zdo (t.den:Int) t.num
 have l3':=zdo t.num (t.den:Int)
 have l4:=zdo n.num (n.den:Int)
 have l5:=zdo (n.den:Int) (n.den:Int)
 have l6:=zdo n.num n.num
 have s1:=zj1 ((t.den:Int)*(t.den:Int)) (t.num*t.num)
 have s2:lz ((t.den:Int)*(t.den:Int) - t.num*t.num)≤2*szQ t+1:=by
  have:=zj1 ((t.den:Int)*(t.den:Int)) (-(t.num*t.num))
  rw [zfk] at this
  rw [Int.sub_eq_add_neg]
  unfold szQ
  omega
 have s3:=zj1 ((t.den:Int)*t.num) (t.num*(t.den:Int))
 generalize hA:((t.den:Int)*(t.den:Int) - t.num*t.num:Int)=A at *
 generalize hB:((t.den:Int)*t.num+t.num*(t.den:Int):Int)=Bq at *
 generalize hNN:((t.den:Int)*(t.den:Int)+t.num*t.num:Int)=NN at *
 have m1:=zdo NN (n.num*(n.den:Int))
 have m2:=zdo A (n.num*(n.den:Int))
 have m3:=zdo Bq ((n.den:Int)*(n.den:Int))
 have m4:=zdo Bq (n.num*n.num)
 refine rep_of (A*(n.num*(n.den:Int))) (Bq*((n.den:Int)*(n.den:Int))) (Bq*(n.num*n.num)) (A*(n.num*(n.den:Int))) (NN*(n.num*(n.den:Int))) (Int.mul_ne_zero hN' (Int.mul_ne_zero hnn hnd)) ?_ ?_ ?_ ?_ ?_ ?_ ?_ ?_ ?_
 ·show (unitG t).re*_=_
  rw [u1]
  simp only [Rat.intCast_mul]
  exact cd1 hN
 ·show (unitG t).im / n*_=_
  rw [u2]
  conv=>lhs; lhs; rhs; rw [en]
  simp only [Rat.intCast_mul]
  exact cd2 hN hnr hdr
 ·show (unitG t).im*n*_=_
  rw [u2]
  conv=>lhs; lhs; rhs; rw [en]
  simp only [Rat.intCast_mul]
  exact cd3 hN hdr
 ·show (unitG t).re*_=_
  rw [u1]
  simp only [Rat.intCast_mul]
  exact cd1 hN
 ·unfold szS szQ at *; omega
 ·unfold szS szQ at *; omega
 ·unfold szS szQ at *; omega
 ·unfold szS szQ at *; omega
 ·unfold szS szQ at *; omega
end Go.Proofs.YthncfchnkjemiaaGreatDoor
