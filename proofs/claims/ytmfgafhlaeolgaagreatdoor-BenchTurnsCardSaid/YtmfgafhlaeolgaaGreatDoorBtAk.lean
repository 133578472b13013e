import Derived.Test.YtmfgafhlaeolgaaGreatDoorBtAa
import Derived.Test.YtmfgafhlaeolgaaGreatDoorBtAc
import Derived.Test.YtmfgafhlaeolgaaGreatDoorBtAj
import Derived.ProofKit
import Derived.OpenShut
import Derived.ChangeOld
import Derived.Below
import Derived.WalkKit
set_option linter.unusedVariables false
set_option linter.unusedSimpArgs false
set_option linter.unusedSectionVars false
set_option maxRecDepth 100000
namespace Go.Proofs.YtmfgafhlaeolgaaGreatDoor
open Go Go.RowKit
theorem zu5 (x y:Rat):Rat.divInt (x.num*(y.den:Int)+y.num*(x.den:Int)) ((x.den:Int)*(y.den:Int))=x+y:=by
 rw [Rat.add_def',← Rat.divInt_ofNat,Int.natCast_mul]
theorem den_nz (x y:Rat):(x.den:Int)*(y.den:Int)≠0:=Int.mul_ne_zero (by have:=x.den_pos; omega) (by have:=y.den_pos; omega)
theorem q0_wk {k:Nat}:WkA (cat [RIA ⟨false,[]⟩,ZA k 1]) (QA k 0):=zch (.cons ((zi1 (show RIA ⟨false,[]⟩=RIA (riOf 0) from by simp [riOf,zbt])).trans (za_of (by simp [lz,zbt]))) (.cons (WkA.refl _) .nil))
theorem sign_q {c:Nat}{x:Rat}:Cn Tryz.prog 139 [Qs c x] (In x.num.sign):=by
 refine Cn.intro Tryz.func139 rfl zk nq (fun B w0 a O=>?_)
 have O:=zn [(0,Qs c x)] [] O
 refine wp_seq<|zg [] [⟨1,33,ptrH,some 0,_,none⟩] [.alc 0,.v 2 _] [.o 1] O (oc (zav rfl rfl rfl (gq 0 rfl)) (zv rfl (za2 za3) o0)) (zz [(2,_)] [⟨1,33,ptrH,_⟩] fun a w O=>?_)
 refine zt<|zg [none] [] [.adr 3 1 (.some 0) True,.v 4 _,.v 5 _,.v 2 _] [.o 3] O (oc (ob_a rfl rfl (zae (lz0 0 rfl) zbx)) (zv rfl (za4 0 rfl zk trivial (lz0 0 rfl) (Sub.part 0 rfl rfl) zah) (zv rfl (za5 (xs:=[.tmp 4]) sign_z (.cons (vq 1 rfl) .nil)) (zv rfl (za2 (vq 2 rfl)) o0)))) (zz [(2,_)] [⟨1,33,ptrH,_⟩] fun a w O=>?_)
 refine za0<|wp_ret<|zal ?_ (zac rfl O (zm 0 rfl))
 exact zbv
theorem ex_qcopy : ∃ fn, Tryz.prog.funcs[88]? = some fn ∧ (fn.name == "runtime.NumGoroutine") = false ∧ fn.body.isNone = false := ⟨_, Tryz.func88, by kernel_rfl, by kernel_rfl⟩
theorem qs_le {k B:Nat}{r:Rat}{v:Value}{w:World}(h:(Qs k r).p B v w):lz r.num≤k∧lz (r.den:Int)≤k:=by
 obtain ⟨cs,⟨ps,_,hp⟩,_⟩:=h
 cases hp with
 | cons h1 hp=>cases hp with | cons h2 _=>exact ⟨h1.1,h2.1⟩
theorem upA_mg (l:List Nat):UpA (MgA l) (MgA l):=⟨rfl,rfl,fun B cs w hB hp=>by
 obtain ⟨ok,h0,A,c,ds,rfl,h1,h2,h3,h4⟩:=hp
 refine ⟨ok,h0,A,c,ds,rfl,h1,h2,?_,fun hn=>?_⟩
 ·exact cat_nums.2 (cat_nums.1 h3)
 ·obtain ⟨b,o,e1,e2,e3,e4⟩:=h4 hn
  exact ⟨b,o,e1,e2,.inl e2,e4⟩⟩
theorem upA_and {A:As}{c:Prop}(h:UpA A A):UpA (A.and c) (A.and c):=⟨rfl,rfl,fun B cs w hB hp=>⟨hp.1,h.2.2 B cs w hB hp.2⟩⟩
theorem zlw (x:RI):UpA (RIA x) (RIA x):=zk4 (.cons (up_bo _) (.cons (upA_mg _) .nil))
theorem zjl (x:RF):UpA (RFA x) (RFA x):=zk4 (.cons (zlw _) (.cons (zlw _) .nil))
theorem upA_za {k:Nat}{z:Int}:UpA (ZA k z) (ZA k z):=upA_and (zlw _)
theorem upA_qa {k:Nat}{r:Rat}:UpA (QA k r) (QA k r):=zk4 (.cons upA_za (.cons upA_za .nil))
theorem all_upA {l:List As}(h:∀ A∈l,UpA A A):All2 UpA l l:=by
 induction l with
 | nil=>exact .nil
 | cons A l ih=>exact .cons (h A (by simp)) (ih fun A' hA=>h A' (by simp [hA]))
theorem zlv {E:TypeId}{D:List TypeId}{l:List As}(h:∀ A∈l,UpA A A):UpA (SlA E D l) (SlO E D l True):=⟨rfl,rfl,fun B cs w hB hp=>by
 obtain ⟨hD,A,c,ds,rfl,h1,h2,h3,h4⟩:=hp
 refine ⟨trivial,hD,A,c,ds,rfl,h1,h2,(zk4 (all_upA h)).2.2 B ds w hB h3,fun hn=>?_⟩
 obtain ⟨b,o,e1,e2,e3,e4⟩:=h4 hn
 exact ⟨b,o,e1,e2,e2,e4⟩⟩
theorem zt6 {E:TypeId}{D:List TypeId}{l:List As}{p:Prop}{B:Nat}{v:Value}{w:World}(h:(SlO E D l p).va.p B v w):l.length≤9223372036854775807:=by
 obtain ⟨cs,⟨_,_,A,c,ds,_,h1,h2,_⟩,_⟩:=h
 unfold maxLen at h2
 omega
def longQ (q:Rat):Bool:=[riOf q.num].any bigI || [riOf (q.den:Int)].any bigI
def IsQ (A:As)(q:Rat):Prop:=∃ k,A=QA k q
theorem zt4 {E:TypeId}{D:List TypeId}{l l':List As}(h:All2 WkA l l')(hD:∀ A∈l',∀ T∈A.deps,T∈D):WkA (SlA E D l) (SlA E D l'):=⟨rfl,rfl,fun B cs w ⟨_,A,c,ds,e,h1,h2,h3,h4⟩=>by
 have hl:=h.length
 exact ⟨hD,A,c,ds,by rw [← hl]; exact e,by rw [← hl]; exact h1,h2,(zch h).2.2 B ds w h3,fun hn=>h4 (by rw [hl]; exact hn)⟩⟩
theorem isq_at {L:List As}{qs:List Rat}(h:All2 IsQ L qs){j:Nat}(hj:j<qs.length):∃ k,L[j]?=some (QA k qs[j]):=by
 have hl:=h.length
 obtain ⟨q,h1,k,h2⟩:=h.get (List.getElem?_eq_getElem (show j<L.length by omega))
 rw [List.getElem?_eq_getElem hj] at h1
 injection h1 with h1
 exact ⟨k,by rw [List.getElem?_eq_getElem zo,h2,h1]⟩
theorem isq_up {L:List As}{qs:List Rat}(h:All2 IsQ L qs):∀ A∈L,UpA A A:=fun A hA=>by
 obtain ⟨j,hj⟩:=List.getElem?_of_mem hA
 obtain ⟨q,_,k,rfl⟩:=h.get hj
 exact upA_qa
theorem isq_n {L:List As}{qs:List Rat}(h:All2 IsQ L qs):∀ A∈L,A.n=4:=fun A hA=>by
 obtain ⟨j,hj⟩:=List.getElem?_of_mem hA
 obtain ⟨q,_,k,rfl⟩:=h.get hj
 rfl
theorem zva {l:List Rat}{j:Nat}(h:j<l.length)(h2:longQ l[j]=true):true=l.any longQ:=(List.any_eq_true.2 ⟨_,List.getElem_mem h,h2⟩).symm
theorem lq_no {l:List Rat}{j:Nat}(h:j<l.length)(h1:(l.take j).any longQ=false)(h2:longQ l[j]=false):(l.take (j+1)).any longQ=false:=by
 rw [List.take_succ_eq_append_getElem h,List.any_append,h1]
 simp [h2]
theorem long_q {L:List As}(qs:List Rat)(hL:All2 IsQ L qs)(hl:qs.length≤1099511627776):Cn Tryz.prog 93 [(SlA 33 [U32] L).va] (Bo (qs.any longQ)):=by
 have hLl:=hL.length
 refine Cn.introW Tryz.func93 rfl zk nq (.cons (zlv (isq_up hL)).va .nil) (zeb _).va (fun B w0 a hB0 O=>?_)
 have O:=zn [(0,(SlO 33 [U32] L True).va)] [] O
 refine wp_seq<|zh [.v 2 _] [.g 0,.o 0] O (zv rfl (za2 zat) o0) (zz [(0,_),(2,_)] [] fun a w O=>?_)
 refine zt<|wp_seq<|zh [.v 5 _,.v 6 _,.v 7 _] [.g 1,.o 0,.o 1,.o 2] O (zv rfl (za1 (gq 0 rfl)) (zv rfl (zbf Tryz.underlying86 (zcm (zar (vq 0 rfl)))) (zv rfl (za1 za3) o0))) (zz [(2,_),(5,_),(6,_),(7,_)] [] fun a w O=>?_)
 refine za0<|wp_block ?_
 have O:=St.sel O [1,2,3]
 refine wp_loop_ghost (fun n a w=>∃ j:Nat,(n+j=qs.length∧(qs.take j).any longQ=false)∧St B w0 22 [(5,(SlO 33 [U32] L True).va),(6,In (qs.length:Nat)),(7,In (j:Nat))] [] a w) (qs.length) ?_ ?_
 ·exact ⟨0,⟨by omega,rfl⟩,by rw [hLl] at O; exact O⟩
 intro n a w hI
 obtain ⟨j,⟨hn,hno⟩,O⟩:=hI
 refine wp_seq<|zh [.v 8 _] [.g 0,.g 1,.g 2,.o 0] O (zv rfl (zaz (gq 2 rfl) (gq 1 rfl)) o0) (zz [(5,_),(6,_),(7,_),(8,_)] [] fun a w O=>?_)
 refine zt<|za8 O (zm 3 rfl) (fun hb0=>?_) (fun hb0=>?_)
 ·have hj:j<qs.length:=by simp at hb0; omega
  obtain ⟨kj,hLj⟩:=isq_at hL hj
  refine wp_skip<|zt<|wp_block<|wp_seq<|zg [] [⟨4,33,ptrH,some 2,_,some (3,_)⟩] [.v 9 _,.v 10 _,.alc 0,.sto 0] [.g 0,.g 1,.g 2] O (zv rfl (zcv zkc (isq_n hL) (zcm (zar (gq 0 rfl))) (gq 2 rfl) hLj) (zv rfl (zad (vq 0 rfl) zb5) (oc (zb0 rfl rfl rfl (Str.zero zbz)) (oc (zan rfl rfl rfl (vq 1 rfl) zb5 (Eq.trans (b:=4) rfl rfl)) o0)))) (zz [(5,_),(6,_),(7,_)] [⟨4,33,ptrH,_⟩] fun a w O=>?_)
  refine zt<|zg [none] [] [.adr 11 4 (.some 0) True,.v 12 _,.v 13 _,.v 14 _,.v 15 _,.adr 16 4 (.some 2) (_=false),.v 17 (Wh (_=false) _),.v 18 (Wh (_=false) _),.v 19 (Wh (_=false) _),.v 20 _] [.g 0,.g 1,.g 2,.o 9] O (oc (ob_a rfl rfl (zae (lz0 0 rfl) zbx)) (zv rfl (za4 0 rfl zk trivial (lz0 0 rfl) (Sub.part 0 rfl rfl) zah) (zv rfl (zd0 (D:=[U32]) (l:=[_]) (xs:=[.tmp 12]) (zfv zk) zt5 zk (n_ok zk) nq nq nq (.cons (vq 1 rfl) .nil) rfl rfl) (zv rfl (za5 (xs:=[.tmp 13]) ((zvi [riOf (qs[j]).num] nq).wk (.cons (zt4 (.cons zaA .nil) (zfv zk)).va .nil)) (.cons (vq 2 rfl) .nil)) (zv rfl (za1 (vq 3 rfl)) (oc (zcf rfl rfl rfl (vq 4 rfl) nq (fun hg=>zae (lz0 0 rfl) zbq)) (oc (zai rfl rfl rfl (vq 4 rfl) nq (fun hg=>za4 5 rfl zk hg (lz0 0 rfl) (Sub.part 1 rfl rfl) zah)) (oc (zai rfl rfl rfl (vq 4 rfl) nq (fun hg=>zd0 (D:=[U32]) (l:=[_]) (xs:=[.tmp 17]) (zfv zk) zt5 zk (n_ok zk) nq nq nq (.cons (zaa (vq 6 rfl) hg) .nil) rfl rfl)) (oc (zai rfl rfl rfl (vq 4 rfl) nq (fun hg=>za5 (xs:=[.tmp 18]) ((zvi [riOf ((qs[j]).den:Int)] nq).wk (.cons (zt4 (.cons zaA .nil) (zfv zk)).va .nil)) (.cons (zaa (vq 7 rfl) hg) .nil))) (zv rfl (r_or (vq 4 rfl) (vq 8 rfl)) o0)))))))))) (zz [(5,_),(6,_),(7,_),(20,_)] [⟨4,33,ptrH,_⟩] fun a w O=>?_)
  refine za0<|za8 O (zm 3 rfl) (fun hb1=>?_) (fun hb1=>?_)
  ·refine wp_seq<|zg [none] [] [.v 2 _] [.g 0,.g 1,.g 2,.o 0] O (zv rfl (za2 zat) o0) (zz [(5,_),(6,_),(7,_),(2,_)] [⟨4,33,ptrH,_⟩] fun a w O=>?_)
   refine za0<|wp_ret<|zb8 ?_
   refine zaf ?_
   refine zaf ?_
   refine zb8 ?_
   refine zaf ?_
   refine zak ?_ (zac rfl O (zm 3 rfl))
   rw [← zva hj hb1]
  ·refine wp_skip<|zab ?_
   refine za0<|zg [none] [] [.v 21 _,.v 7 _] [.g 0,.g 1,.o 1] O (zv rfl (zb2 (gq 2 rfl) za3 (zb3 zo)) (zv rfl (za1 (vq 0 rfl)) o0)) (zz [(5,_),(6,_),(7,_)] [⟨4,33,ptrH,_⟩] fun a w O=>?_)
   refine za0 ?_
   have O:=St.sel O [0,1,2]
   have O:=St.selL O []
   exact ⟨n-1,by omega,j+1,⟨by omega,lq_no hj hno hb1⟩,O⟩
 ·obtain rfl:j=qs.length:=by simp at hb0; omega
  refine wp_exit<|za7<|za7<|zam<|zt<|zh [.v 2 _] [.o 0] O (zv rfl (za2 zat) o0) (zz [(2,_)] [] fun a w O=>?_)
  refine za0<|wp_ret<|zak ?_ (zac rfl O (zm 0 rfl))
  rw [List.take_length] at hno; rw [hno]
def okF (x:RF):Bool:=okRI x.num&&okRI x.den&&decide (0<sgI x.den)&&decide (Nat.gcd (val x.num.mag) (val x.den.mag)=1)
theorem zjw {x:RI}(ok:okL x.mag)(h:okRI x=true):∃ z,x=riOf z∧lz z≤2048:=by
 obtain ⟨neg,l⟩:=x
 simp only [okRI,Bool.not_eq_true',Bool.or_eq_false_iff,Bool.and_eq_false_iff,decide_eq_false_iff_not,beq_eq_false_iff_ne,ne_eq] at h ok
 obtain ⟨⟨h1,h2⟩,h3⟩:=h
 have hc:Canon l:=by
  refine ⟨ok,fun e=>?_⟩
  rcases List.eq_nil_or_concat l with rfl | ⟨m,y,rfl⟩
  ·simp at e
  ·simp at e
   subst e
   rcases h2 with h2 | h2
   ·simp at h2
   ·exact h2 (by simp)
 have e:limbs (val l)=l:=zmg hc
 cases neg with
 | false=>exact ⟨(val l:Nat),by simp [riOf,e],by show (limbs _).length≤2048; rw [Int.natAbs_natCast,e]; omega⟩
 | true =>
  have hl:l≠[]:=fun e=>by subst e; simp at h3
  have hv:0<val l:=hc.val_pos hl
  exact ⟨-(val l:Nat),by simp [riOf,e]; omega,by show (limbs _).length≤2048; rw [Int.natAbs_neg,Int.natAbs_natCast,e]; omega⟩
theorem okF_q {x:RF}(ok:okL x.num.mag∧okL x.den.mag)(h:okF x=true):∃ r:Rat,x=rfOf r∧lz r.num≤2048∧lz (r.den:Int)≤2048:=by
 obtain ⟨xn,xd⟩:=x
 simp only [okF,Bool.and_eq_true,decide_eq_true_eq] at h ok
 obtain ⟨⟨⟨h1,h2⟩,h3⟩,h4⟩:=h
 obtain ⟨p,rfl,hp⟩:=zjw ok.1 h1
 obtain ⟨q,rfl,hq⟩:=zjw ok.2 h2
 rw [zdo] at h3
 have hq0:0<q:=Int.sign_pos_iff.1 h3
 rw [zbs,zbs] at h4
 refine ⟨⟨p,q.natAbs,by omega,h4⟩,?_,hp,?_⟩
 ·show RF.mk _ _=RF.mk (riOf p) (riOf (q.natAbs:Nat))
  rw [show ((q.natAbs:Nat):Int)=q by omega]
 ·show lz ((q.natAbs:Nat):Int)≤2048
  rw [show ((q.natAbs:Nat):Int)=q by omega]
  exact hq
theorem ok1 {b:Bool}(h:(((if b then (0:Int) else 1) != 0))=false):b=true:=by cases b <;> simp at h ⊢
theorem chk_no {x:RF}(h:((((if okRI x.num then (0:Int) else 1) != 0) || ((if okRI x.den then (0:Int) else 1) != 0)) || decide (sgI x.den≤0))=true):(1:Int)=if okF x then 0 else 1:=by
 have:okF x=false:=by
  unfold okF
  cases h1:okRI x.num <;> cases h2:okRI x.den <;> simp [h1,h2] at h ⊢
  omega
 rw [this]; rfl
theorem sg_one {p q:Int}(h:(sg3 ((Int.gcd p q:Nat):Int) 1 != 0)=true):Int.gcd p q≠1:=fun e=>by rw [e] at h; simp [sg3] at h
theorem zkh {x:RF}{B:Nat}{v:Value}{w:World}(h:(RFA x).va.p B v w):okL x.num.mag∧okL x.den.mag:=by
 obtain ⟨cs,⟨ps,_,hp⟩,_⟩:=h
 cases hp with
 | cons h1 hp=>cases hp with | cons h2 _=>exact ⟨(zgz ⟨_,h1,rfl⟩).1,(zgz ⟨_,h2,rfl⟩).1⟩
theorem cmp_i {p q:Int}(hp:lz p≤1099511627776)(hq:lz q≤1099511627776):Cn Tryz.prog 142 [Zi p,Zi q] (In (sg3 p q)):=(cmpI_c (riOf p) (riOf q) (by rw [zed]; omega) (by rw [zed]; omega)).post (by rw [cmp_ri])
theorem lz_one:lz 1≤1099511627776:=Nat.le_trans (zri (k:=1) zd) zd
theorem checkF_c (xn xd:RI):Cn Tryz.prog 167 [(RFA ⟨xn,xd⟩).va] (In (if okF ⟨xn,xd⟩ then 0 else 1)):=by
 refine Cn.intro Tryz.func167 rfl zk nq (fun B w0 a O=>?_)
 have O:=zn [(0,(RFA ⟨xn,xd⟩).va)] [] O
 have hok:=zkh (O.vals (0,(RFA ⟨xn,xd⟩).va) (zm 0 rfl))
 refine wp_seq<|zg [] [⟨1,33,ptrH,some 0,_,none⟩] [.alc 0,.v 2 _] [.o 1] O (oc (zav rfl rfl rfl (gq 0 rfl)) (zv rfl (za2 za3) o0)) (zz [(2,_)] [⟨1,33,ptrH,_⟩] fun a w O=>?_)
 refine zt<|wp_seq<|zg [none] [] [.adr 3 1 (.some 0) True,.v 4 _,.v 5 _,.v 6 _,.v 7 _,.adr 8 1 (.some 2) (_=false),.v 9 (Wh (_=false) _),.v 10 (Wh (_=false) _),.v 11 (Wh (_=false) _),.v 12 _,.v 13 _,.adr 14 1 (.some 2) (_=false),.v 15 (Wh (_=false) _),.v 16 (Wh (_=false) _),.v 17 (Wh (_=false) _),.v 18 _] [.g 0,.o 15] O (oc (ob_a rfl rfl (zae (lz0 0 rfl) zbx)) (zv rfl (za4 0 rfl zk trivial (lz0 0 rfl) (Sub.part 0 rfl rfl) zah) (zv rfl (za5 (xs:=[.tmp 4]) (zwx _) (.cons (vq 1 rfl) .nil)) (zv rfl (zdp (vq 2 rfl) za3) (zv rfl (za1 (vq 3 rfl)) (oc (zcf rfl rfl rfl (vq 4 rfl) nq (fun hg=>zae (lz0 0 rfl) zbq)) (oc (zai rfl rfl rfl (vq 4 rfl) nq (fun hg=>za4 5 rfl zk hg (lz0 0 rfl) (Sub.part 1 rfl rfl) zah)) (oc (zai rfl rfl rfl (vq 4 rfl) nq (fun hg=>za5 (xs:=[.tmp 9]) (zwx _) (.cons (zaa (vq 6 rfl) hg) .nil))) (oc (zai rfl rfl rfl (vq 4 rfl) nq (fun hg=>zdp (zaa (vq 7 rfl) hg) za3)) (zv rfl (r_or (vq 4 rfl) (vq 8 rfl)) (zv rfl (za1 (vq 9 rfl)) (oc (zcf rfl rfl rfl (vq 10 rfl) nq (fun hg=>zae (lz0 0 rfl) zbq)) (oc (zai rfl rfl rfl (vq 10 rfl) nq (fun hg=>za4 11 rfl zk hg (lz0 0 rfl) (Sub.part 1 rfl rfl) zah)) (oc (zai rfl rfl rfl (vq 10 rfl) nq (fun hg=>za5 (xs:=[.tmp 15]) (zp0 _) (.cons (zaa (vq 12 rfl) hg) .nil))) (oc (zai rfl rfl rfl (vq 10 rfl) nq (fun hg=>zrc (zaa (vq 13 rfl) hg) za3)) (zv rfl (r_or (vq 10 rfl) (vq 14 rfl)) o0)))))))))))))))) (zz [(2,_),(18,_)] [⟨1,33,ptrH,_⟩] fun a w O=>?_)
 refine za0<|za8 O (zm 1 rfl) (fun hb0=>?_) (fun hb0=>?_)
 ·refine wp_seq<|zg [none] [] [.v 2 _] [.o 0] O (zv rfl (za2 za3) o0) (zz [(2,_)] [⟨1,33,ptrH,_⟩] fun a w O=>?_)
  refine za0<|wp_ret<|zaf ?_
  refine zak ?_ (zac rfl O (zm 0 rfl))
  exact congrArg In (chk_no hb0)
 ·rw [Bool.or_eq_false_iff,Bool.or_eq_false_iff] at hb0
  obtain ⟨p,rfl,hp⟩:=zjw hok.1 (ok1 hb0.1.1)
  obtain ⟨q,rfl,hq⟩:=zjw hok.2 (ok1 hb0.1.2)
  have hq0:0<sgI (riOf q):=by have h2:¬ sgI (riOf q)≤0:=of_decide_eq_false hb0.2; omega
  have hpq:=zv6 p q
  refine wp_skip<|zt<|wp_seq<|zg [none] [] [.adr 19 1 (.some 0) True,.v 20 _,.adr 21 1 (.some 2) True,.v 22 _,.v 23 _,.v 24 _,.v 25 _,.v 26 _] [.g 0,.o 7] O (oc (ob_a rfl rfl (zae (lz0 0 rfl) zbx)) (zv rfl (za4 0 rfl zk trivial (lz0 0 rfl) (Sub.part 0 rfl rfl) zah) (oc (ob_a rfl rfl (zae (lz0 0 rfl) zbq)) (zv rfl (za4 2 rfl zk trivial (lz0 0 rfl) (Sub.part 1 rfl rfl) zah) (zv rfl (za5 (xs:=[.tmp 20,.tmp 22]) ((zqo p q zo zo).wkp zjj) (.cons (vq 1 rfl) (.cons (vq 3 rfl) .nil))) (zv rfl (za5 (xs:=[.const (.int .i64 (1))]) (of_c 1 zd zd) (.cons za3 .nil)) (zv rfl (za5 (xs:=[.tmp 23,.tmp 24]) (cmp_i zo lz_one) (.cons (vq 4 rfl) (.cons (vq 5 rfl) .nil))) (zv rfl (zdp (vq 6 rfl) za3) o0)))))))) (zz [(2,_),(26,_)] [⟨1,33,ptrH,_⟩] fun a w O=>?_)
  refine za0<|za8 O (zm 1 rfl) (fun hb1=>?_) (fun hb1=>?_)
  ·refine wp_seq<|zg [none] [] [.v 2 _] [.o 0] O (zv rfl (za2 za3) o0) (zz [(2,_)] [⟨1,33,ptrH,_⟩] fun a w O=>?_)
   refine za0<|wp_ret<|zaf ?_
   refine zak ?_ (zac rfl O (zm 0 rfl))
   have e1:=sg_one hb1; exact congrArg In (by rw [show okF ⟨riOf p,riOf q⟩=false from by unfold okF; rw [zbs,zbs]; simp [show ¬ Nat.gcd p.natAbs q.natAbs=1 from e1]]; rfl)
  ·refine wp_skip<|zt<|zg [none] [] [.v 2 _] [.o 0] O (zv rfl (za2 za3) o0) (zz [(2,_)] [⟨1,33,ptrH,_⟩] fun a w O=>?_)
   refine za0<|wp_ret<|zak ?_ (zac rfl O (zm 0 rfl))
   have e1:=zw1 hb1; exact congrArg In (by rw [show okF ⟨riOf p,riOf q⟩=true from by unfold okF; rw [zbs,zbs,ok1 hb0.1.1,ok1 hb0.1.2]; simp [hq0,show Nat.gcd p.natAbs q.natAbs=1 from e1]]; rfl)
end Go.Proofs.YtmfgafhlaeolgaaGreatDoor
namespace Go.Proofs.YtmfgafhlaeolgaaGreatDoor
open Go Go.RowKit
def okLb (l:List Nat):Bool:=l.all fun x=>decide (x<4294967296)
theorem okLb_iff {l:List Nat}:okLb l=true↔okL l:=by simp [okLb,okL]
def okX (x:RF):Bool:=okLb x.num.mag&&okLb x.den.mag&&okF x
def zI (x:RI):Int:=if x.neg then -(val x.mag:Nat) else (val x.mag:Nat)
def toQ (x:RF):Rat:=Rat.divInt (zI x.num) (zI x.den)
theorem zI_ri (z:Int):zI (riOf z)=z:=by
 unfold zI
 rw [zbs]
 by_cases h:z<0 <;> simp [riOf,h] <;> omega
theorem toQ_of (r:Rat):toQ (rfOf r)=r:=by
 show Rat.divInt (zI (riOf r.num)) (zI (riOf (r.den:Int)))=r
 rw [zI_ri,zI_ri]
 exact Rat.num_divInt_den r
theorem zpg {x:RF}(h:okL x.num.mag∧okL x.den.mag):okX x=okF x:=by rw [okX,okLb_iff.2 h.1,okLb_iff.2 h.2]; rfl
theorem zuo {x:RF}(h:okX x=true):x=rfOf (toQ x)∧lz (toQ x).num≤2048∧lz ((toQ x).den:Int)≤2048:=by
 simp only [okX,Bool.and_eq_true] at h
 obtain ⟨r,rfl,h1⟩:=okF_q ⟨okLb_iff.1 h.1.1,okLb_iff.1 h.1.2⟩ h.2
 rw [toQ_of]
 exact ⟨rfl,h1⟩
abbrev rf0:RF:=⟨⟨false,[]⟩,⟨false,[]⟩⟩
theorem ex_check : ∃ fn, Tryz.prog.funcs[167]? = some fn ∧ (fn.name == "runtime.NumGoroutine") = false ∧ fn.body.isNone = false := ⟨_, Tryz.func167, by kernel_rfl, by kernel_rfl⟩
theorem check_x (x:RF):Cn Tryz.prog 167 [(RFA x).va] (In (if okX x then 0 else 1)) :=
 Cn.know (c:=okL x.num.mag∧okL x.den.mag) ex_check (fun B w args ha=>by cases ha with | cons h1 _=>exact zkh h1) fun h=>(checkF_c x.num x.den).post (by rw [zpg h])
theorem ok_no {l:List RF}{j:Nat}(h:j<l.length)(h2:((if okX l[j] then (0:Int) else 1) != 0)=true):false=l.all okX:=by
 have h3:okX l[j]=false:=by cases hh:okX l[j] <;> simp [hh] at h2 ⊢
 exact (List.all_eq_false.2 ⟨_,List.getElem_mem h,by simp [h3]⟩).symm
theorem ok_yes {l:List RF}{j:Nat}(h:j<l.length)(h1:(l.take j).all okX=true)(h2:((if okX l[j] then (0:Int) else 1) != 0)=false):(l.take (j+1)).all okX=true:=by
 rw [List.take_succ_eq_append_getElem h,List.all_append,h1]
 simp [ok1 h2]
theorem checks_c (xs:List RF)(hl:xs.length≤1099511627776):Cn Tryz.prog 138 [(SlA 33 [U32] (xs.map RFA)).va] (Bo (xs.all okX)):=by
 refine Cn.introW Tryz.func138 rfl zk nq (.cons (zlv (fun A hA=>by obtain ⟨x,_,rfl⟩:=List.mem_map.1 hA; exact zjl x)).va .nil) (zeb _).va (fun B w0 a hB0 O=>?_)
 have O:=zn [(0,(SlO 33 [U32] (xs.map RFA) True).va)] [] O
 refine wp_seq<|zh [.v 2 _] [.g 0,.o 0] O (zv rfl (za2 zat) o0) (zz [(0,_),(2,_)] [] fun a w O=>?_)
 refine zt<|wp_seq<|zh [.v 5 _,.v 6 _,.v 7 _] [.g 1,.o 0,.o 1,.o 2] O (zv rfl (za1 (gq 0 rfl)) (zv rfl (zbf Tryz.underlying86 (zcm (zar (vq 0 rfl)))) (zv rfl (za1 za3) o0))) (zz [(2,_),(5,_),(6,_),(7,_)] [] fun a w O=>?_)
 refine za0<|wp_block ?_
 have O:=St.sel O [1,2,3]
 refine wp_loop_ghost (fun n a w=>∃ j:Nat,(n+j=xs.length∧(xs.take j).all okX=true)∧St B w0 15 [(5,(SlO 33 [U32] (xs.map RFA) True).va),(6,In (xs.length:Nat)),(7,In (j:Nat))] [] a w) (xs.length) ?_ ?_
 ·exact ⟨0,⟨by omega,rfl⟩,by rw [List.length_map] at O; exact O⟩
 intro n a w hI
 obtain ⟨j,⟨hn,hno⟩,O⟩:=hI
 refine wp_seq<|zh [.v 8 _] [.g 0,.g 1,.g 2,.o 0] O (zv rfl (zaz (gq 2 rfl) (gq 1 rfl)) o0) (zz [(5,_),(6,_),(7,_),(8,_)] [] fun a w O=>?_)
 refine zt<|za8 O (zm 3 rfl) (fun hb0=>?_) (fun hb0=>?_)
 ·have hj:j<xs.length:=by simp at hb0; omega
  refine wp_skip<|zt<|wp_block<|wp_seq<|zg [] [⟨4,33,ptrH,some 2,_,some (3,_)⟩] [.v 9 _,.v 10 _,.alc 0,.sto 0] [.g 0,.g 1,.g 2] O (zv rfl (zcv zkc (zf3 fun _=>rfl) (zcm (zar (gq 0 rfl))) (gq 2 rfl) (zdt hj)) (zv rfl (zad (vq 0 rfl) zb5) (oc (zb0 rfl rfl rfl (Str.zero zbz)) (oc (zan rfl rfl rfl (vq 1 rfl) zb5 (Eq.trans (b:=4) rfl rfl)) o0)))) (zz [(5,_),(6,_),(7,_)] [⟨4,33,ptrH,_⟩] fun a w O=>?_)
  refine zt<|zg [none] [] [.v 11 _,.v 12 _,.v 13 _] [.g 0,.g 1,.g 2,.o 2] O (zv rfl (zay (lz0 0 rfl) zb5) (zv rfl (za5 (xs:=[.tmp 11]) (check_x _) (.cons (vq 0 rfl) .nil)) (zv rfl (zdp (vq 1 rfl) za3) o0))) (zz [(5,_),(6,_),(7,_),(13,_)] [⟨4,33,ptrH,_⟩] fun a w O=>?_)
  refine za0<|za8 O (zm 3 rfl) (fun hb1=>?_) (fun hb1=>?_)
  ·refine wp_seq<|zg [none] [] [.v 2 _] [.g 0,.g 1,.g 2,.o 0] O (zv rfl (za2 zat) o0) (zz [(5,_),(6,_),(7,_),(2,_)] [⟨4,33,ptrH,_⟩] fun a w O=>?_)
   refine za0<|wp_ret<|zb8 ?_
   refine zaf ?_
   refine zaf ?_
   refine zb8 ?_
   refine zaf ?_
   refine zak ?_ (zac rfl O (zm 3 rfl))
   rw [← ok_no hj hb1]
  ·refine wp_skip<|zab ?_
   refine za0<|zg [none] [] [.v 14 _,.v 7 _] [.g 0,.g 1,.o 1] O (zv rfl (zb2 (gq 2 rfl) za3 (zb3 zo)) (zv rfl (za1 (vq 0 rfl)) o0)) (zz [(5,_),(6,_),(7,_)] [⟨4,33,ptrH,_⟩] fun a w O=>?_)
   refine za0 ?_
   have O:=St.sel O [0,1,2]
   have O:=St.selL O []
   exact ⟨n-1,by omega,j+1,⟨by omega,ok_yes hj hno hb1⟩,O⟩
 ·obtain rfl:j=xs.length:=by simp at hb0; omega
  refine wp_exit<|za7<|za7<|zam<|zt<|zh [.v 2 _] [.o 0] O (zv rfl (za2 zat) o0) (zz [(2,_)] [] fun a w O=>?_)
  refine za0<|wp_ret<|zak ?_ (zac rfl O (zm 0 rfl))
  rw [List.take_length] at hno; rw [hno]
def ansF (q:Rat):RF × Int:=if longQ q then (rf0,4) else (rfOf q,0)
abbrev FrR (r:RF × Int):VA:=Tu [(RFA r.1).va,In r.2]
theorem tu2w {a b c d:VA}(h:Wk a c)(h':Wk b d):Wk (Tu [a,b]) (Tu [c,d]):=tu_wk (.cons h (.cons h' .nil))
theorem zhq {q:Rat}:[q].any longQ=longQ q:=by simp
theorem has_wk' {R:Rg}{B:Nat}{w0:Bs}{i:Nat}{x:Operand}{A A':VA}(h:Has R B w0 i x A)(hw:Wk A A'):Has R B w0 i x A':=fun a w av=>hw _ _ _ (h a w av)
end Go.Proofs.YtmfgafhlaeolgaaGreatDoor
namespace Go.Proofs.YtmfgafhlaeolgaaGreatDoor
open Go Go.RowKit
end Go.Proofs.YtmfgafhlaeolgaaGreatDoor
namespace Go.Proofs.YtmfgafhlaeolgaaGreatDoor
open Go Go.RowKit
structure RG where
 re:RF
 im:RF
 deriving DecidableEq
structure RM where
 a:RF
 b:RF
 c:RF
 d:RF
 deriving DecidableEq
structure RR where
 y:RF
 u:RF
 deriving DecidableEq
structure GQ where
 re:Rat
 im:Rat
 deriving DecidableEq
structure MQ where
 a:Rat
 b:Rat
 c:Rat
 d:Rat
 deriving DecidableEq
structure YQ where
 y:Rat
 u:Rat
 deriving DecidableEq
theorem qa_x {k:Nat}{x:RF}(h:okX x=true)(hk:2048≤k):WkA (RFA x) (QA k (toQ x)):=by
 obtain ⟨h1,h2,h3⟩:=zuo h
 exact (zi1 (congrArg RFA h1)).trans (qa_of (Nat.le_trans h2 hk) (Nat.le_trans h3 hk))
end Go.Proofs.YtmfgafhlaeolgaaGreatDoor
namespace Go.Proofs.YtmfgafhlaeolgaaGreatDoor
open Go Go.RowKit
end Go.Proofs.YtmfgafhlaeolgaaGreatDoor
namespace Go.Proofs.YtmfgafhlaeolgaaGreatDoor
open Go Go.RowKit
def intSizeF (x:RI):Int:=IntKind.i64.wrap (1+(x.mag.length:Int))
def fracSizeF (x:RF):Int:=IntKind.i64.wrap (intSizeF x.num+intSizeF x.den)
def lowCostF (x y:RI):Int:=IntKind.i64.wrap (IntKind.i64.wrap ((IntKind.i64.wrap (min (x.mag.length:Int) 1048576*min (y.mag.length:Int) 1048576)).tdiv 16)*1024)
def fracCostF (x:RF):Int:=IntKind.i64.wrap (fracSizeF x+lowCostF x.num x.den)
def bydF (n:Int):List Int→Bool
 | []=>false
 | x::xs=>if decide (IntKind.i64.wrap (n+x)>1048576) then true else bydF (IntKind.i64.wrap (n+x)) xs
theorem byd_yes {n:Int}{l:List Int}{j:Nat}(h:j<l.length)(h2:decide (IntKind.i64.wrap (n+l[j])>1048576)=true):true=bydF n (l.drop j):=by
 rw [List.drop_eq_getElem_cons h,bydF,h2]; rfl
theorem byd_no {n:Int}{l:List Int}{j:Nat}(h:j<l.length)(h2:decide (IntKind.i64.wrap (n+l[j])>1048576)=false):bydF n (l.drop j)=bydF (IntKind.i64.wrap (n+l[j])) (l.drop (j+1)):=by
 rw [List.drop_eq_getElem_cons h,bydF,h2]; rfl
theorem wi_nx {j m:Nat}(h:j<m)(hm:m≤9223372036854775807):IntKind.i64.wrap ((j:Int)+1)=((j+1:Nat):Int):=by rw [wi64 zo zo]; rfl
theorem slA_len {E:TypeId}{D:List TypeId}{l:List As}{B:Nat}{v:Value}{w:World}(h:(SlA E D l).va.p B v w):l.length≤9223372036854775807:=by
 obtain ⟨cs,⟨_,A,c,ds,_,h1,h2,_⟩,_⟩:=h
 unfold maxLen at h2
 omega
theorem zkd {E:TypeId}{D:List TypeId}{α:Type}{f:α→As}{l:List α}{B:Nat}{v:Value}{w:World}(h:(SlA E D (l.map f)).va.p B v w):l.length≤9223372036854775807:=by
 have:=slA_len h
 rwa [List.length_map] at this
theorem zml (x:RI):Cn Tryz.prog 166 [(RIA x).va] (In (intSizeF x)):=by
 refine Cn.intro Tryz.func166 rfl zk nq (fun B w0 a O=>?_)
 have O:=zn [(0,(RIA x).va)] [] O
 refine wp_seq<|zg [] [⟨1,31,ptrH,some 0,_,none⟩] [.alc 0,.v 2 _] [.o 1] O (oc (zav rfl rfl rfl (gq 0 rfl)) (zv rfl (za2 za3) o0)) (zz [(2,_)] [⟨1,31,ptrH,_⟩] fun a w O=>?_)
 refine zt<|zg [none] [] [.adr 3 1 (.some 1) True,.v 4 _,.v 5 _,.v 6 _,.v 2 _] [.o 4] O (oc (ob_a rfl rfl (zae (lz0 0 rfl) zaj)) (zv rfl (za4 0 rfl zk trivial (lz0 0 rfl) (Sub.part 1 rfl rfl) zb7) (zv rfl (zas Tryz.underlying29 (vq 1 rfl)) (zv rfl (zb2 za3 (vq 2 rfl) (rfl)) (zv rfl (za2 (vq 3 rfl)) o0))))) (zz [(2,_)] [⟨1,31,ptrH,_⟩] fun a w O=>?_)
 refine za0<|wp_ret<|zal ?_ (zac rfl O (zm 0 rfl))
 exact zbv
theorem zrw (x:RF):Cn Tryz.prog 135 [(RFA x).va] (In (fracSizeF x)):=by
 refine Cn.intro Tryz.func135 rfl zk nq (fun B w0 a O=>?_)
 have O:=zn [(0,(RFA x).va)] [] O
 refine wp_seq<|zg [] [⟨1,33,ptrH,some 0,_,none⟩] [.alc 0,.v 2 _] [.o 1] O (oc (zav rfl rfl rfl (gq 0 rfl)) (zv rfl (za2 za3) o0)) (zz [(2,_)] [⟨1,33,ptrH,_⟩] fun a w O=>?_)
 refine zt<|zgd [[],[0],[0,1],[],[3],[0,1,2,3,4],[0,1,2,3,4,5],[0,1,2,3,4,5,6]] [none] [] [.adr 3 1 (.some 0) True,.v 4 _,.v 5 _,.adr 6 1 (.some 2) True,.v 7 _,.v 8 _,.v 9 _,.v 2 _] [.o 7] za9 O (oc (ob_a rfl rfl (zae (lz0 0 rfl) zbx)) (zv rfl (za4 0 rfl zk trivial (lz0 0 rfl) (Sub.part 0 rfl rfl) zah) (zv rfl (za5 (xs:=[.tmp 4]) (zml _) (.cons (vq 1 rfl) .nil)) (oc (ob_a rfl rfl (zae (lz0 0 rfl) zbq)) (zv rfl (za4 3 rfl zk trivial (lz0 0 rfl) (Sub.part 1 rfl rfl) zah) (zv rfl (za5 (xs:=[.tmp 7]) (zml _) (.cons (vq 4 rfl) .nil)) (zv rfl (zb2 (vq 2 rfl) (vq 5 rfl) (rfl)) (zv rfl (za2 (vq 6 rfl)) o0)))))))) zk zk zk zk (zz [(2,_)] [⟨1,33,ptrH,_⟩] fun a w O=>?_)
 refine za0<|wp_ret<|zal ?_ (zac rfl O (zm 0 rfl))
 exact zbv
theorem zvd (x y:RI):Cn Tryz.prog 136 [(RIA x).va,(RIA y).va] (In (lowCostF x y)):=by
 refine Cn.intro Tryz.func136 rfl zk nq (fun B w0 a O=>?_)
 have O:=zn [(0,(RIA x).va),(1,(RIA y).va)] [] O
 refine wp_seq<|zg [] [⟨2,31,ptrH,some 0,_,none⟩,⟨3,31,ptrH,some 1,_,none⟩] [.alc 0,.alc 1,.v 4 _] [.o 2] O (oc (zav rfl rfl rfl (gq 0 rfl)) (oc (zav rfl rfl rfl (gq 1 rfl)) (zv rfl (za2 za3) o0))) (zz [(4,_)] [⟨2,31,ptrH,_⟩,⟨3,31,ptrH,_⟩] fun a w O=>?_)
 refine zt<|zg [none,none] [] [.adr 5 2 (.some 1) True,.v 6 _,.v 7 _,.v 8 _,.adr 9 3 (.some 1) True,.v 10 _,.v 11 _,.v 12 _,.v 13 _,.v 14 _,.v 15 _,.v 4 _] [.o 11] O (oc (ob_a rfl rfl (zae (lz0 0 rfl) zaj)) (zv rfl (za4 0 rfl zk trivial (lz0 0 rfl) (Sub.part 1 rfl rfl) zb7) (zv rfl (zas Tryz.underlying29 (vq 1 rfl)) (zv rfl (r_min (vq 2 rfl) za3) (oc (ob_a rfl rfl (zae (lz0 1 rfl) zaj)) (zv rfl (za4 4 rfl zk trivial (lz0 1 rfl) (Sub.part 1 rfl rfl) zb7) (zv rfl (zas Tryz.underlying29 (vq 5 rfl)) (zv rfl (r_min (vq 6 rfl) za3) (zv rfl (zki (vq 3 rfl) (vq 7 rfl) (rfl)) (zv rfl (zjf (vq 8 rfl) za3 zd (rfl)) (zv rfl (zki (vq 9 rfl) za3 (rfl)) (zv rfl (za2 (vq 10 rfl)) o0)))))))))))) (zz [(4,_)] [⟨2,31,ptrH,_⟩,⟨3,31,ptrH,_⟩] fun a w O=>?_)
 refine za0<|wp_ret<|zal ?_ (zac rfl O (zm 0 rfl))
 exact zbv
theorem zk2 (x:RF):Cn Tryz.prog 84 [(RFA x).va] (In (fracCostF x)):=by
 refine Cn.intro Tryz.func84 rfl zk nq (fun B w0 a O=>?_)
 have O:=zn [(0,(RFA x).va)] [] O
 refine wp_seq<|zg [] [⟨1,33,ptrH,some 0,_,none⟩] [.alc 0,.v 2 _] [.o 1] O (oc (zav rfl rfl rfl (gq 0 rfl)) (zv rfl (za2 za3) o0)) (zz [(2,_)] [⟨1,33,ptrH,_⟩] fun a w O=>?_)
 refine zt<|zgd [[],[0],[],[2],[],[4],[0,1,2,3,4,5],[0,1,2,3,4,5,6],[0,1,2,3,4,5,6,7]] [none] [] [.v 3 _,.v 4 _,.adr 5 1 (.some 0) True,.v 6 _,.adr 7 1 (.some 2) True,.v 8 _,.v 9 _,.v 10 _,.v 2 _] [.o 8] za9 O (zv rfl (zay (lz0 0 rfl) zb5) (zv rfl (za5 (xs:=[.tmp 3]) (zrw _) (.cons (vq 0 rfl) .nil)) (oc (ob_a rfl rfl (zae (lz0 0 rfl) zbx)) (zv rfl (za4 2 rfl zk trivial (lz0 0 rfl) (Sub.part 0 rfl rfl) zah) (oc (ob_a rfl rfl (zae (lz0 0 rfl) zbq)) (zv rfl (za4 4 rfl zk trivial (lz0 0 rfl) (Sub.part 1 rfl rfl) zah) (zv rfl (za5 (xs:=[.tmp 6,.tmp 8]) (zvd _ _) (.cons (vq 3 rfl) (.cons (vq 5 rfl) .nil))) (zv rfl (zb2 (vq 1 rfl) (vq 6 rfl) (rfl)) (zv rfl (za2 (vq 7 rfl)) o0))))))))) zk zk zk zk (zz [(2,_)] [⟨1,33,ptrH,_⟩] fun a w O=>?_)
 refine za0<|wp_ret<|zal ?_ (zac rfl O (zm 0 rfl))
 exact zbv
theorem beyond_c (l:List Int):Cn Tryz.prog 4 [(SlA 3 [] (l.map (NumA .i64))).va] (Bo (bydF 0 l)):=by
 refine Cn.intro Tryz.func4 rfl zk nq (fun B w0 a O=>?_)
 have O:=zn [(0,(SlA 3 [] (l.map (NumA .i64))).va)] [] O
 have hl:=zkd (O.vals (0,(SlA 3 [] (l.map (NumA .i64))).va) (zm 0 rfl))
 refine wp_seq<|zh [.v 2 _] [.g 0,.o 0] O (zv rfl (za2 zat) o0) (zz [(0,_),(2,_)] [] fun a w O=>?_)
 refine zt<|zh [.v 3 _] [.g 0,.g 1,.o 0] O (zv rfl (za2 za3) o0) (zz [(0,_),(2,_),(3,_)] [] fun a w O=>?_)
 refine zt<|wp_seq<|zh [.v 4 _] [.g 0,.g 1,.g 2,.o 0] O (zv rfl (za2 za3) o0) (zz [(0,_),(2,_),(3,_),(4,_)] [] fun a w O=>?_)
 refine za0<|wp_block ?_
 have O:=St.sel O [0,2,3]
 refine wp_loop_ghost (fun n a w=>∃ (j:Nat) (m:Int),(n+j=l.length∧bydF 0 l=bydF m (l.drop j))∧St B w0 19 [(0,(SlA 3 [] (l.map (NumA .i64))).va),(3,In m),(4,In (j:Nat))] [] a w) (l.length) ?_ ?_
 ·exact ⟨0,0,⟨by omega,rfl⟩,O⟩
 intro n a w hI
 obtain ⟨j,m,⟨hn,hm⟩,O⟩:=hI
 refine wp_seq<|wp_seq<|zh [.v 5 _,.v 6 _,.v 7 _,.v 8 _] [.g 0,.g 1,.g 2,.o 3] O (zv rfl (za1 (gq 2 rfl)) (zv rfl (za1 (gq 0 rfl)) (zv rfl (zbf Tryz.underlying60 (vq 1 rfl)) (zv rfl (zaz (vq 0 rfl) (vq 2 rfl)) o0)))) (zz [(0,_),(3,_),(4,_),(8,_)] [] fun a w O=>?_)
 refine za0<|za8 O (zm 3 rfl) (fun hb0=>?_) (fun hb0=>?_)
 ·have hj:j<l.length:=by rw [List.length_map] at hb0; simp at hb0; omega
  refine wp_skip<|zt<|wp_block<|wp_seq<|zh [.v 11 _,.v 12 _,.v 13 _,.v 14 _,.v 15 _,.v 16 _,.v 3 _] [.g 0,.g 2,.o 6] O (zv rfl (za1 (gq 1 rfl)) (zv rfl (za1 (gq 0 rfl)) (zv rfl (za1 (gq 2 rfl)) (zv rfl (zcv sl_60 (zf3 fun _=>rfl) (vq 1 rfl) (vq 2 rfl) (zdt hj)) (zv rfl (zad (vq 3 rfl) ty_3) (zv rfl (zb2 (vq 0 rfl) (vq 4 rfl) (rfl)) (zv rfl (za2 (vq 5 rfl)) o0))))))) (zz [(0,_),(4,_),(3,_)] [] fun a w O=>?_)
  refine zt<|zh [.v 17 _,.v 18 _] [.g 0,.g 1,.g 2,.o 1] O (zv rfl (za1 (gq 2 rfl)) (zv rfl (zen (vq 0 rfl) za3) o0)) (zz [(0,_),(4,_),(3,_),(18,_)] [] fun a w O=>?_)
  refine za0<|za8 O (zm 3 rfl) (fun hb1=>?_) (fun hb1=>?_)
  ·refine wp_seq<|zh [.v 2 _] [.g 0,.g 1,.g 2,.o 0] O (zv rfl (za2 zat) o0) (zz [(0,_),(4,_),(3,_),(2,_)] [] fun a w O=>?_)
   refine za0<|wp_ret<|zb8 ?_
   refine zaf ?_
   refine zaf ?_
   refine zb8 ?_
   refine zaf ?_
   refine zal ?_ (zac rfl O (zm 3 rfl))
   exact zbw (congrArg Bo ((byd_yes hj hb1).trans hm.symm))
  ·refine wp_skip<|zab ?_
   refine za0<|zh [.v 9 _,.v 10 _,.v 4 _] [.g 0,.g 2,.o 2] O (zv rfl (za1 (gq 1 rfl)) (zv rfl (zb2 (vq 0 rfl) za3 (wi_nx hj hl)) (zv rfl (za2 (vq 1 rfl)) o0))) (zz [(0,_),(3,_),(4,_)] [] fun a w O=>?_)
   refine za0 ?_
   have O:=St.sel O [0,1,2]
   exact ⟨n-1,by omega,j+1,_,⟨by omega,hm.trans (byd_no hj hb1)⟩,O⟩
 ·obtain rfl:j=l.length:=by rw [List.length_map] at hb0; simp at hb0; omega
  refine wp_exit<|za7<|za7<|zam<|zt<|zh [.v 2 _] [.o 0] O (zv rfl (za2 zat) o0) (zz [(2,_)] [] fun a w O=>?_)
  refine za0<|wp_ret<|zal ?_ (zac rfl O (zm 0 rfl))
  exact zbw (congrArg Bo (by rw [hm,List.drop_of_length_le (Nat.le_refl _)]; rfl))
theorem zy3 {a b:RI}(hn:a.neg=b.neg)(h:a.mag=b.mag):true=decide (a=b):=by
 cases a; cases b; simp_all
theorem zy6 {a b:RI}(h:((a.neg != b.neg) || (((a.mag.length:Nat):Int) != ((b.mag.length:Nat):Int)))=true):false=decide (a=b):=by
 symm
 apply decide_eq_false
 rintro rfl
 simp at h
theorem zy4 {a b:RI}(h:((a.neg != b.neg) || (((a.mag.length:Nat):Int) != ((b.mag.length:Nat):Int)))=false):a.neg=b.neg∧a.mag.length=b.mag.length:=by
 simp only [Bool.or_eq_false_iff,bne_eq_false_iff_eq] at h
 exact ⟨h.1,by omega⟩
theorem zy5 {a b:RI}{j:Nat}(h1:j<a.mag.length)(h2:j<b.mag.length)(h:(((a.mag[j]:Nat):Int) != ((b.mag[j]:Nat):Int))=true):false=decide (a=b):=by
 symm
 apply decide_eq_false
 rintro rfl
 simp at h
theorem take_eq {l m:List Nat}{j:Nat}(h1:j<l.length)(h2:j<m.length)(h:l.take j=m.take j)(h3:(((l[j]:Nat):Int) != ((m[j]:Nat):Int))=false):l.take (j+1)=m.take (j+1):=by
 rw [List.take_succ_eq_append_getElem h1,List.take_succ_eq_append_getElem h2,h]
 simp only [bne_eq_false_iff_eq] at h3
 rw [show l[j]=m[j] by omega]
theorem rf_eq {a b:RF}:(decide (a.num=b.num)&&decide (a.den=b.den))=decide (a=b):=by
 cases a; cases b; rw [Bool.eq_iff_iff]; simp
theorem zi9 (x y:RI):Cn Tryz.prog 31 [(RIA x).va,(RIA y).va] (Bo (decide (x=y))):=by
 refine Cn.intro Tryz.func31 rfl zk nq (fun B w0 a O=>?_)
 have O:=zn [(0,(RIA x).va),(1,(RIA y).va)] [] O
 have hxk:=zgz (O.vals (0,(RIA x).va) (zm 0 rfl))
 refine wp_seq<|zg [] [⟨2,31,ptrH,some 0,_,none⟩,⟨3,31,ptrH,some 1,_,none⟩] [.alc 0,.alc 1,.v 4 _] [.o 2] O (oc (zav rfl rfl rfl (gq 0 rfl)) (oc (zav rfl rfl rfl (gq 1 rfl)) (zv rfl (za2 zat) o0))) (zz [(4,_)] [⟨2,31,ptrH,_⟩,⟨3,31,ptrH,_⟩] fun a w O=>?_)
 refine zt<|wp_seq<|zg [none,none] [] [.adr 6 2 (.some 0) True,.v 7 _,.adr 8 3 (.some 0) True,.v 9 _,.v 10 _,.v 11 _,.adr 12 2 (.some 1) (_=false),.v 13 (Wh (_=false) _),.v 14 (Wh (_=false) _),.adr 15 3 (.some 1) (_=false),.v 16 (Wh (_=false) _),.v 17 (Wh (_=false) _),.v 18 (Wh (_=false) _),.v 19 _] [.g 0,.o 13] O (oc (ob_a rfl rfl (zae (lz0 0 rfl) zb6)) (zv rfl (za4 0 rfl zk trivial (lz0 0 rfl) (Sub.part 0 rfl rfl) ty_4) (oc (ob_a rfl rfl (zae (lz0 1 rfl) zb6)) (zv rfl (za4 2 rfl zk trivial (lz0 1 rfl) (Sub.part 0 rfl rfl) ty_4) (zv rfl (zjs zk (vq 1 rfl) (vq 3 rfl)) (zv rfl (za1 (vq 4 rfl)) (oc (zcf rfl rfl rfl (vq 5 rfl) nq (fun hg=>zae (lz0 0 rfl) zaj)) (oc (zai rfl rfl rfl (vq 5 rfl) nq (fun hg=>za4 6 rfl zk hg (lz0 0 rfl) (Sub.part 1 rfl rfl) zb7)) (oc (zai rfl rfl rfl (vq 5 rfl) nq (fun hg=>zas Tryz.underlying29 (zaa (vq 7 rfl) hg))) (oc (zcf rfl rfl rfl (vq 5 rfl) nq (fun hg=>zae (lz0 1 rfl) zaj)) (oc (zai rfl rfl rfl (vq 5 rfl) nq (fun hg=>za4 9 rfl zk hg (lz0 1 rfl) (Sub.part 1 rfl rfl) zb7)) (oc (zai rfl rfl rfl (vq 5 rfl) nq (fun hg=>zas Tryz.underlying29 (zaa (vq 10 rfl) hg))) (oc (zai rfl rfl rfl (vq 5 rfl) nq (fun hg=>zdp (zaa (vq 8 rfl) hg) (zaa (vq 11 rfl) hg))) (zv rfl (r_or (vq 5 rfl) (vq 12 rfl)) o0)))))))))))))) (zz [(4,_),(19,_)] [⟨2,31,ptrH,_⟩,⟨3,31,ptrH,_⟩] fun a w O=>?_)
 refine za0<|za8 O (zm 1 rfl) (fun hb0=>?_) (fun hb0=>?_)
 ·refine wp_seq<|zg [none,none] [] [.v 4 _] [.o 0] O (zv rfl (za2 zat) o0) (zz [(4,_)] [⟨2,31,ptrH,_⟩,⟨3,31,ptrH,_⟩] fun a w O=>?_)
  refine za0<|wp_ret<|zaf ?_
  refine zal ?_ (zac rfl O (zm 0 rfl))
  exact zbw (congrArg Bo (zy6 hb0))
 ·obtain ⟨hn1,hl⟩:=zy4 hb0
  refine wp_skip<|zt<|wp_seq<|zg [none,none] [] [.v 5 _] [.g 0,.o 0] O (zv rfl (za2 za3) o0) (zz [(4,_),(5,_)] [⟨2,31,ptrH,_⟩,⟨3,31,ptrH,_⟩] fun a w O=>?_)
  refine za0<|wp_block ?_
  have O:=St.sel O [1]
  refine wp_loop_ghost (fun n a w=>∃ j:Nat,(n+j=x.mag.length∧x.mag.take j=y.mag.take j)∧St B w0 38 [(5,In (j:Nat))] [⟨2,31,ptrH,RIA x⟩,⟨3,31,ptrH,RIA y⟩] a w) (x.mag.length) ?_ ?_
  ·exact ⟨0,⟨by omega,rfl⟩,O⟩
  intro n a w hI
  obtain ⟨j,⟨hn,ht⟩,O⟩:=hI
  refine wp_seq<|wp_seq<|zg [none,none] [] [.v 20 _,.adr 21 2 (.some 1) True,.v 22 _,.v 23 _,.v 24 _] [.g 0,.o 4] O (zv rfl (za1 (gq 0 rfl)) (oc (ob_a rfl rfl (zae (lz0 0 rfl) zaj)) (zv rfl (za4 1 rfl zk trivial (lz0 0 rfl) (Sub.part 1 rfl rfl) zb7) (zv rfl (zas Tryz.underlying29 (vq 2 rfl)) (zv rfl (zaz (vq 0 rfl) (vq 3 rfl)) o0))))) (zz [(5,_),(24,_)] [⟨2,31,ptrH,_⟩,⟨3,31,ptrH,_⟩] fun a w O=>?_)
  refine za0<|za8 O (zm 1 rfl) (fun hb1=>?_) (fun hb1=>?_)
  ·have hj:j<x.mag.length:=by simp at hb1; omega
   refine wp_skip<|zt<|wp_block<|wp_seq<|zgd [[],[0],[],[0,1,2],[0,1,2,3],[],[5],[],[5,6,7],[5,6,7,8],[0,1,2,3,4,5,6,7,8,9]] [none,none] [] [.adr 27 2 (.some 1) True,.v 28 _,.v 29 _,.v 30 _,.v 31 _,.adr 32 3 (.some 1) True,.v 33 _,.v 34 _,.v 35 _,.v 36 _,.v 37 _] [.g 0,.o 10] za9 O (oc (ob_a rfl rfl (zae (lz0 0 rfl) zaj)) (zv rfl (za4 0 rfl zk trivial (lz0 0 rfl) (Sub.part 1 rfl rfl) zb7) (zv rfl (za1 (gq 0 rfl)) (zv rfl (zc0 zb4 (vq 1 rfl) (vq 2 rfl) zo) (zv rfl (zad (vq 3 rfl) zbd) (oc (ob_a rfl rfl (zae (lz0 1 rfl) zaj)) (zv rfl (za4 5 rfl zk trivial (lz0 1 rfl) (Sub.part 1 rfl rfl) zb7) (zv rfl (za1 (gq 0 rfl)) (zv rfl (zc0 zb4 (vq 6 rfl) (vq 7 rfl) zo) (zv rfl (zad (vq 8 rfl) zbd) (zv rfl (zdp (vq 4 rfl) (vq 9 rfl)) o0))))))))))) zk zk zk zk (zz [(5,_),(37,_)] [⟨2,31,ptrH,_⟩,⟨3,31,ptrH,_⟩] fun a w O=>?_)
   refine za0<|za8 O (zm 1 rfl) (fun hb2=>?_) (fun hb2=>?_)
   ·refine wp_seq<|zg [none,none] [] [.v 4 _] [.g 0,.o 0] O (zv rfl (za2 zat) o0) (zz [(5,_),(4,_)] [⟨2,31,ptrH,_⟩,⟨3,31,ptrH,_⟩] fun a w O=>?_)
    refine za0<|wp_ret<|zb8 ?_
    refine zaf ?_
    refine zaf ?_
    refine zb8 ?_
    refine zaf ?_
    refine zal ?_ (zac rfl O (zm 1 rfl))
    exact zbw (congrArg Bo (zy5 hj zo hb2))
   ·refine wp_skip<|zab ?_
    refine za0<|zg [none,none] [] [.v 25 _,.v 26 _,.v 5 _] [.o 2] O (zv rfl (za1 (gq 0 rfl)) (zv rfl (zb2 (vq 0 rfl) za3 (wi_nx hj hxk.2)) (zv rfl (za2 (vq 1 rfl)) o0))) (zz [(5,_)] [⟨2,31,ptrH,_⟩,⟨3,31,ptrH,_⟩] fun a w O=>?_)
    refine za0 ?_
    have O:=St.sel O [0]
    exact ⟨n-1,by omega,j+1,⟨by omega,take_eq hj zo ht hb2⟩,O⟩
  ·obtain rfl:j=x.mag.length:=by simp at hb1; omega
   refine wp_exit<|za7<|za7<|zam<|zt<|zg [none,none] [] [.v 4 _] [.o 0] O (zv rfl (za2 zat) o0) (zz [(4,_)] [⟨2,31,ptrH,_⟩,⟨3,31,ptrH,_⟩] fun a w O=>?_)
   refine za0<|wp_ret<|zal ?_ (zac rfl O (zm 0 rfl))
   exact zbw (congrArg Bo (zy3 hn1 (by rw [List.take_of_length_le (Nat.le_refl _),List.take_of_length_le zo] at ht; exact ht)))
theorem zgy (x y:RF):Cn Tryz.prog 12 [(RFA x).va,(RFA y).va] (Bo (decide (x=y))):=by
 refine Cn.intro Tryz.func12 rfl zk nq (fun B w0 a O=>?_)
 have O:=zn [(0,(RFA x).va),(1,(RFA y).va)] [] O
 refine wp_seq<|zg [] [⟨2,33,ptrH,some 0,_,none⟩,⟨3,33,ptrH,some 1,_,none⟩] [.alc 0,.alc 1,.v 4 _] [.o 2] O (oc (zav rfl rfl rfl (gq 0 rfl)) (oc (zav rfl rfl rfl (gq 1 rfl)) (zv rfl (za2 zat) o0))) (zz [(4,_)] [⟨2,33,ptrH,_⟩,⟨3,33,ptrH,_⟩] fun a w O=>?_)
 refine zt<|zg [none,none] [] [.adr 5 2 (.some 0) True,.v 6 _,.adr 7 3 (.some 0) True,.v 8 _,.v 9 _,.v 10 _,.adr 11 2 (.some 2) (_=true),.v 12 (Wh (_=true) _),.adr 13 3 (.some 2) (_=true),.v 14 (Wh (_=true) _),.v 15 (Wh (_=true) _),.v 16 _,.v 4 _] [.o 12] O (oc (ob_a rfl rfl (zae (lz0 0 rfl) zbx)) (zv rfl (za4 0 rfl zk trivial (lz0 0 rfl) (Sub.part 0 rfl rfl) zah) (oc (ob_a rfl rfl (zae (lz0 1 rfl) zbx)) (zv rfl (za4 2 rfl zk trivial (lz0 1 rfl) (Sub.part 0 rfl rfl) zah) (zv rfl (za5 (xs:=[.tmp 6,.tmp 8]) (zi9 _ _) (.cons (vq 1 rfl) (.cons (vq 3 rfl) .nil))) (zv rfl (za1 (vq 4 rfl)) (oc (zcf rfl rfl rfl (vq 5 rfl) nq (fun hg=>zae (lz0 0 rfl) zbq)) (oc (zai rfl rfl rfl (vq 5 rfl) nq (fun hg=>za4 6 rfl zk hg (lz0 0 rfl) (Sub.part 1 rfl rfl) zah)) (oc (zcf rfl rfl rfl (vq 5 rfl) nq (fun hg=>zae (lz0 1 rfl) zbq)) (oc (zai rfl rfl rfl (vq 5 rfl) nq (fun hg=>za4 8 rfl zk hg (lz0 1 rfl) (Sub.part 1 rfl rfl) zah)) (oc (zai rfl rfl rfl (vq 5 rfl) nq (fun hg=>za5 (xs:=[.tmp 12,.tmp 14]) (zi9 _ _) (.cons (zaa (vq 7 rfl) hg) (.cons (zaa (vq 9 rfl) hg) .nil)))) (zv rfl (zca (vq 5 rfl) (vq 10 rfl)) (zv rfl (za2 (vq 11 rfl)) o0))))))))))))) (zz [(4,_)] [⟨2,33,ptrH,_⟩,⟨3,33,ptrH,_⟩] fun a w O=>?_)
 refine za0<|wp_ret<|zal ?_ (zac rfl O (zm 0 rfl))
 exact zbw (congrArg Bo rf_eq)
end Go.Proofs.YtmfgafhlaeolgaaGreatDoor
namespace Go.Proofs.YtmfgafhlaeolgaaGreatDoor
open Go Go.RowKit
open Go.ChangeShapes Go.WideShapes Go.ChangeAt
theorem zx1 {B:Nat}{w:World}:∀ {l:List As} {cs:List Value},cs.length=(l.map (·.n)).sum→(∀ (k:Nat) (A:As),l[k]?=some A→A.p B ((cs.drop (offs l k)).take A.n) w)→(cat l).p B cs w
 | [],cs,hl,_=>by
  have:cs=[]:=List.length_eq_zero_iff.1 (by simpa using hl)
  subst this
  exact ⟨[],rfl,.nil⟩
 | A::l,cs,hl,h=>by
  simp only [List.map_cons,List.sum_cons] at hl
  have h0:=h 0 A rfl
  simp only [offs,List.take_zero,List.map_nil,List.sum_nil,List.drop_zero] at h0
  obtain ⟨ps,e,hps⟩:=zx1 (l:=l) (cs:=cs.drop A.n) (B:=B) (w:=w) (by simp; omega) fun k A' hk=>by
   have:=h (k+1) A' (by simpa using hk)
   simp only [offs,List.take_succ_cons,List.map_cons,List.sum_cons] at this
   rw [List.drop_drop]
   exact this
  exact ⟨cs.take A.n::ps,by rw [List.flatten_cons,← e,List.take_append_drop],.cons h0 hps⟩
section
variable {H:Type} {enc:TypeId × Value→H} {w:World} {base:Nat} {spare:Nat→Bool} {held:Bool} {fuel:Nat} {cs:List Value} {x:DataW H × List MemPlace}
theorem rd_mg (h:DataW.trod enc Tryz.prog w base spare held fuel 29 cs=some x):∃ l,(MgA l).p w.heap.size cs w:=by
 rcases open_ints Tryz.underlying29 Tryz.underlying88 zk h with ⟨hcs,_⟩ | ⟨a,len,cap,zs,rfl,_,hl,hm,hz,_,hcell,hwz⟩
 ·subst hcs
  exact ⟨[],zf9 _ _⟩
 ·have hzl:len≤zs.length:=by rw [hz]; split <;> omega
  have hnn:∀ n∈zs,0≤n∧n<4294967296:=fun n hn=>by
   have:=hwz n hn
   simp [Lit.wf,IntKind.min,IntKind.max,IntKind.signed,IntKind.bits] at this
   omega
  have hlen:((zs.take len).map Int.toNat).length=len:=by simp; omega
  refine ⟨(zs.take len).map Int.toNat,?_⟩
  have hM:Mag w.heap.size w (some a) cap ((zs.take len).map Int.toNat):=by
   refine ⟨fun y hy=>?_,by omega,hm,fun hn=>?_⟩
   ·obtain ⟨n,hn,rfl⟩:=List.mem_map.1 hy
    have:=hnn n (List.mem_of_mem_take hn)
    omega
   ·obtain ⟨b,off,rfl,hc⟩:=ints_at hcell zo
    have hb:b<w.heap.size:=World.block_lt_of_cell? w _ (hc 0 zo)
    refine ⟨b,off,rfl,hb,.inl hb,fun j hj=>?_⟩
    rw [hc j zo]
    have hjz:j<zs.length:=by omega
    have:=hnn _ (List.getElem_mem hjz)
    congr 2
    simp only [List.getElem_map,List.getElem_take]
    rw [Int.toNat_of_nonneg this.1]
    simp [List.getD_eq_getElem?_getD,List.getElem?_eq_getElem hjz]
  obtain ⟨ds,hp,hv⟩:=zea hM hlen.symm
  have hd:=(MgA ((zs.take len).map Int.toNat)).len _ _ _ hp
  match ds,hd with
  | [d],_ =>
   have:d=.slice (some a) len cap:=hv.symm
   subst this
   exact hp
theorem zwy {B:Nat}{A0 A1:As}(h0:A0.p B ((cs.drop 0).take A0.n) w)(h1:A1.p B ((cs.drop A0.n).take A1.n) w)(hl:cs.length=A0.n+A1.n):(cat [A0,A1]).p B cs w :=
 zx1 (by simpa using hl) fun k A hk=>by
  match k,hk with
  | 0,hk=>simp at hk; subst hk; exact h0
  | 1,hk=>simp at hk; subst hk; simpa [offs] using h1
theorem rd_bo (h:DataW.trod enc Tryz.prog w base spare held fuel 4 cs=some x):∃ b,(BoA b).p w.heap.size cs w:=by
 obtain ⟨b,hb,_⟩:=DataW.trod_bool Tryz.underlying4 h
 exact ⟨b,hb⟩
end
end Go.Proofs.YtmfgafhlaeolgaaGreatDoor
namespace Go.Proofs.YtmfgafhlaeolgaaGreatDoor
open Go Go.RowKit
structure OkG (p:GQ):Prop where
 re:longQ p.re=false
 im:longQ p.im=false
 pos:0<p.im
end Go.Proofs.YtmfgafhlaeolgaaGreatDoor
namespace Go.Proofs.YtmfgafhlaeolgaaGreatDoor
open Go Go.RowKit
theorem div_pos {x y:Rat}(h:0<x)(h':0<y):0<x/y:=Rat.mul_pos h (Rat.inv_pos.2 h')
end Go.Proofs.YtmfgafhlaeolgaaGreatDoor
