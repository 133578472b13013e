import Derived.Test.YthncfchnkjemiaaGreatDoorRmAa
import Derived.Test.YthncfchnkjemiaaGreatDoorRmAc
import Derived.Test.YthncfchnkjemiaaGreatDoorRmAo
import Derived.Test.YthncfchnkjemiaaGreatDoorRmAy
set_option linter.unusedVariables false
set_option linter.unusedSimpArgs false
set_option linter.unusedSectionVars false
set_option maxRecDepth 100000
namespace Go.Proofs.YthncfchnkjemiaaGreatDoor
open Go Go.RowKit
theorem zl7:Str Tryz.prog 30 [NilF,NilF] :=
 Str.of (z:=.agg (([.bool false,.slice none 0 0,.bool false,.slice none 0 0]:List Value)++([.bool false,.slice none 0 0,.bool false,.slice none 0 0]:List Value)).toArray) zk Tryz.underlying30 zk fun B w=>⟨[([.bool false,.slice none 0 0,.bool false,.slice none 0 0]:List Value),([.bool false,.slice none 0 0,.bool false,.slice none 0 0]:List Value)],rfl,.cons zgk (.cons zgk .nil)⟩
theorem zr_rrd:WkA (cat [NilF,NilF]) (RRD rr0):=⟨rfl,rfl,fun B cs w h=>by
 have h1:=(zc8 (.cons zgl (.cons zgl .nil))).2.2 _ _ _ h
 obtain ⟨ps,e,hp⟩:=h
 refine ⟨h1,?_⟩
 rw [e,zmj (fun A hA=>by simp at hA; exact hA) hp]
 exact List.nodup_nil⟩
abbrev YRD (r:RR × Int):VA:=Tu [(RRD r.1).va,In r.2]
theorem yd_pins {u v:Value}{k1 k2:Nat}{r:YQ}:WkA (cat [PinA u ((QD k1 r.y).and (SepAll [] u)),PinA v ((QD k2 r.u).and (SepAll [u] v))]) (RRD (rrOf r)) :=
 (zhs (l:=[(u,QD k1 r.y),(v,QD k2 r.u)]) (fun y hy=>by
  simp at hy
  rcases hy with rfl | rfl <;> exact nod_qd)).trans (zeu (zc8 (.cons zks (.cons zks .nil))))
def SlX (l:List As):As where
 n:=1
 ag:=false
 p B cs w:=∃ us:List Value,us.length=l.length∧(SlA 26 [U32] (pins [] (us.zip l))).p B cs w
 deps:=[26,U32]
 len:=fun B cs w ⟨us,_,h⟩=>(SlA 26 [U32] _).len B cs w h
 one:=fun B cs w ⟨us,_,h⟩=>(SlA 26 [U32] _).one B cs w h
 ag1:=fun _=>rfl
 cg:=fun B cs w w' hg ⟨us,e,h⟩=>⟨us,e,(SlA 26 [U32] _).cg B cs w w' hg h⟩
 wr:=fun B cs w w' g c T fz h1 h2 h3 h4 ⟨us,e,h⟩=>⟨us,e,(SlA 26 [U32] _).wr B cs w w' g c T fz h1 h2 h3 h4 h⟩
theorem zv2:∀ {l l':List As} {us pre:List Value},us.length=l.length→All2 WkA l l'→All2 WkA (pins pre (us.zip l)) l'
 | [],_,us,pre,hl,h=>by cases h; cases us with
  | nil=>exact .nil
  | cons u us=>cases hl
 | A::l,_,us,pre,hl,h=>by
  cases h with
  | cons h1 h2=>cases us with
   | nil=>cases hl
   | cons u us=>exact .cons (pin_wk.trans (and_wk.trans h1)) (zv2 (by simpa using hl) h2)
theorem zto {l l':List As}(h:All2 WkA l l')(hD:∀ A∈l',∀ T∈A.deps,T∈[U32]):WkA (SlX l) (SlA 26 [U32] l'):=⟨rfl,rfl,fun B cs w ⟨us,hl,hp⟩=>(sl_wk (zv2 hl h) hD).2.2 _ _ _ hp⟩
theorem zuv {k:Nat}{q:Rat}:∀ T∈(QD k q).deps,T∈[U32]:=fun T hT=>by
 have h:(QD k q).deps=[U32,U32]:=by kernel_rfl
 rw [h] at hT
 simpa using hT
theorem slx_of2 {u v:Value}{A A':As}:Wk (SlA 26 [U32] [PinA u (A.and (SepAll [] u)),PinA v (A'.and (SepAll [u] v))]).va (SlX [A,A']).va:=fun B x w ⟨cs,h,e⟩=>⟨cs,⟨[u,v],rfl,h⟩,e⟩
theorem ztp {u v s t:Value}{A1 A2 A3 A4:As}:Wk (SlA 26 [U32] [PinA u (A1.and (SepAll [] u)),PinA v (A2.and (SepAll [u] v)),PinA s (A3.and (SepAll [u,v] s)),PinA t (A4.and (SepAll [u,v,s] t))]).va (SlX [A1,A2,A3,A4]).va:=fun B x w ⟨cs,h,e⟩=>⟨cs,⟨[u,v,s,t],rfl,h⟩,e⟩
theorem slx_of1 {u:Value}{A:As}:Wk (SlA 26 [U32] [PinA u (A.and (SepAll [] u))]).va (SlX [A]).va:=fun B x w ⟨cs,h,e⟩=>⟨cs,⟨[u],rfl,h⟩,e⟩
theorem ztq:Wk (SlA 26 [U32] []).va (SlX []).va:=fun B x w ⟨cs,h,e⟩=>⟨cs,⟨[],rfl,h⟩,e⟩
theorem St.openX2 {B N:Nat}{w0:Bs}{Γ:List (Nat × VA)}{Λ:List Lc}{a:Act}{w:World}(h:St B w0 N Γ Λ a w){t:Nat}{A A':As}(k:Nat)(hm:Γ[k]?=some (t,(SlX [A,A']).va)):∃ u v,St B w0 N (Γ.set k (t,(SlA 26 [U32] [PinA u (A.and (SepAll [] u)),PinA v (A'.and (SepAll [u] v))]).va)) Λ a w:=by
 obtain ⟨cs,⟨us,hl,hp⟩,e⟩:=h.vals _ (List.mem_of_getElem? hm)
 match us,hl with
 | [u,v],_ =>
  refine ⟨u,v,h.lo,h.defers,h.size,h.base,fun x hx=>?_,h.locs,h.dis⟩
  rcases List.mem_or_eq_of_mem_set hx with hx | rfl
  ·exact h.vals x hx
  ·exact ⟨cs,hp,e⟩
theorem St.openX4 {B N:Nat}{w0:Bs}{Γ:List (Nat × VA)}{Λ:List Lc}{a:Act}{w:World}(h:St B w0 N Γ Λ a w){t:Nat}{A1 A2 A3 A4:As}(k:Nat)(hm:Γ[k]?=some (t,(SlX [A1,A2,A3,A4]).va)):∃ u v x y,St B w0 N (Γ.set k (t,(SlA 26 [U32] [PinA u (A1.and (SepAll [] u)),PinA v (A2.and (SepAll [u] v)),PinA x (A3.and (SepAll [u,v] x)),PinA y (A4.and (SepAll [u,v,x] y))]).va)) Λ a w:=by
 obtain ⟨cs,⟨us,hl,hp⟩,e⟩:=h.vals _ (List.mem_of_getElem? hm)
 match us,hl with
 | [u,v,x,y],_ =>
  refine ⟨u,v,x,y,h.lo,h.defers,h.size,h.base,fun z hz=>?_,h.locs,h.dis⟩
  rcases List.mem_or_eq_of_mem_set hz with hz | rfl
  ·exact h.vals z hz
  ·exact ⟨cs,hp,e⟩
abbrev FnX (c:Prop)(L:List As):VA:=FnV Tryz.prog [28,30,168] (fun _:PLift c=>[]) (fun _=>(SlX L).va)
theorem if_dep {c:Prop}[Decidable c]{l:List As}(h:∀ A∈l,∀ T∈A.deps,T∈[U32]):∀ A∈(if c then l else []),∀ T∈A.deps,T∈[U32]:=fun A hA=>by
 split at hA
 ·exact h A hA
 ·cases hA
theorem zmn:∀ {l:List As},All2 WkA l l
 | []=>.nil
 | A::l=>.cons (WkA.refl A) zmn
theorem zif (e:Int)(L L':List As)(qs:List Rat)(hL:All2 IsQ L' qs)(hw:All2 WkA L L')(hD:∀ A∈L',∀ T∈A.deps,T∈[U32])(hl:qs.length≤1099511627776):Cm Tryz.prog 205 141 (KA e) (KA (ansE e qs)) [.w (ptrH),.v (FnX (e=0) L)] ((SlX (if ansE e qs=0 then L else [])).va):=by
 refine Cm.intro Tryz.func205 rfl zk nq (fun B g w0 a hst=>?_)
 have hst:St B w0 24 [(0,EqV ((ptrH).f g)),(1,FnX (e=0) L)] [⟨0,141,ptrH,KA e⟩] a w0.w:=hst
 refine wp_seq ?_
 refine gl (sts:=[none]) (news:=[]) (sp:=[.val 4 _]) [.g 0,.g 1,.o 0] hst (zv rfl (za1 zbj) o0) (fun a w hst=>?_)
 have hst:St B w0 24 [(0,_),(1,_),(4,_)] [⟨0,141,ptrH,_⟩] a w:=hst
 refine zt ?_
 refine wp_seq ?_
 refine gl (sts:=[none]) (news:=[]) (sp:=[.adr 6 0 (.some 0) True,.adr 7 0 (.some 0) True,.adr 8 0 (.some (0+0)) True,.val 9 _,.val 10 _]) [.g 0,.g 1,.g 2,.o 4] hst (oc (ob_a rfl rfl (zcq (lz0 0 rfl))) (oc (ob_a rfl rfl (zek 0 rfl zk (lz0 0 rfl))) (oc (ob_a rfl rfl (zel 1 rfl zk trivial (lz0 0 rfl) zde)) (zv rfl (za4 2 rfl zk trivial (lz0 0 rfl) (Sub.part 0 rfl rfl) zkb) (zv rfl (zd8 (vq 3 rfl) za3) o0))))) (fun a w hst=>?_)
 have hst:St B w0 24 [(0,_),(1,_),(4,_),(10,_)] [⟨0,141,ptrH,_⟩] a w:=hst
 refine za0 ?_
 refine za8 hst (zm 3 rfl) (fun hb0=>?_) (fun hb0=>?_)
 ·refine wp_seq ?_
  refine gl (sts:=[none]) (news:=[]) (sp:=[.val 4 _]) [.g 0,.g 1,.o 0] hst (zv rfl (za1 zbj) o0) (fun a w hst=>?_)
  have hst:St B w0 24 [(0,_),(1,_),(4,_)] [⟨0,141,ptrH,_⟩] a w:=hst
  refine za0 ?_
  refine wp_ret ?_
  refine zar ?_
  have hst:=St.cvA (A':=KA (ansE e qs)) hst 0 rfl (congrArg KA (an_no hb0).1)
  refine zf3 hst (zm 0 rfl) (zm 0 rfl) ?_
  refine zan ?_ (zai rfl hst (zm 2 rfl))
  rw [if_neg (an_no hb0).2]; exact zcv zvg ztq
 ·have h0:e=0:=by simpa using hb0
  refine wp_skip ?_
  refine zt<|gl (sts:=[none]) (news:=[]) (sp:=[.val 11 _,.val 12 _,.val 5 _]) [.g 0,.g 2,.o 2] hst (zv rfl (za2 (gq 1 rfl)) (zv rfl (zun (xs:=[]) ⟨h0⟩ (vq 0 rfl) .nil) (zv rfl (za1 (vq 1 rfl)) o0))) (fun a w hst=>?_)
  have hst:St B w0 24 [(0,_),(4,_),(5,_)] [⟨0,141,ptrH,_⟩] a w:=hst
  refine zt ?_
  refine wp_seq ?_
  refine gl (sts:=[some (5,_)]) (news:=[]) (sp:=[.adr 13 0 (.some 0) True,.val 14 _,.val 15 _,.adr 16 0 (.some 0) True,.adr 17 0 (.some (0+0)) True,.sto 0]) [.g 0,.g 1,.g 2] hst (oc (ob_a rfl rfl (zcq (lz0 0 rfl))) (zv rfl (za2 (gq 2 rfl)) (zv rfl (za5 (xs:=[.tmp 14]) (zrd qs hL hl) (.cons (has_wk' (vq 1 rfl) (zto hw hD).va) .nil)) (oc (ob_a rfl rfl (zek 0 rfl zk (lz0 0 rfl))) (oc (ob_a rfl rfl (zel 3 rfl zk trivial (lz0 0 rfl) zde)) (oc (zou 4 rfl rfl rfl rfl zk (vq 2 rfl) zkb (Put.part 0 rfl rfl rfl)) o0)))))) (fun a w hst=>?_)
  have hst:St B w0 24 [(0,_),(4,_),(5,_)] [⟨0,141,ptrH,_⟩] a w:=hst
  refine zt<|gl (sts:=[none]) (news:=[]) (sp:=[.adr 18 0 (.some 0) True,.adr 19 0 (.some 0) True,.adr 20 0 (.some (0+0)) True,.val 21 _,.val 22 _]) [.g 0,.g 1,.g 2,.o 4] hst (oc (ob_a rfl rfl (zcq (lz0 0 rfl))) (oc (ob_a rfl rfl (zek 0 rfl zk (lz0 0 rfl))) (oc (ob_a rfl rfl (zel 1 rfl zk trivial (lz0 0 rfl) zde)) (zv rfl (za4 2 rfl zk trivial (lz0 0 rfl) (Sub.part 0 rfl rfl) zkb) (zv rfl (zd8 (vq 3 rfl) za3) o0))))) (fun a w hst=>?_)
  have hst:St B w0 24 [(0,_),(4,_),(5,_),(22,_)] [⟨0,141,ptrH,_⟩] a w:=hst
  refine za0 ?_
  refine za8 hst (zm 3 rfl) (fun hb1=>?_) (fun hb1=>?_)
  ·refine wp_seq ?_
   refine gl (sts:=[none]) (news:=[]) (sp:=[.val 4 _]) [.g 0,.g 2,.o 0] hst (zv rfl (za1 zbj) o0) (fun a w hst=>?_)
   have hst:St B w0 24 [(0,_),(5,_),(4,_)] [⟨0,141,ptrH,_⟩] a w:=hst
   refine za0 ?_
   refine wp_ret ?_
   refine zar ?_
   have hst:=St.cvA (A':=KA (ansE e qs)) hst 0 rfl (congrArg KA (an_lo hb0))
   refine zf3 hst (zm 0 rfl) (zm 0 rfl) ?_
   refine zan ?_ (zai rfl hst (zm 2 rfl))
   rw [if_neg (by rw [← an_lo hb0]; simpa using hb1)]; exact zcv zvg ztq
  ·refine wp_skip ?_
   refine zt<|gl (sts:=[none]) (news:=[]) (sp:=[.val 23 _,.val 4 _]) [.g 0,.o 1] hst (zv rfl (za2 (gq 2 rfl)) (zv rfl (za1 (vq 0 rfl)) o0)) (fun a w hst=>?_)
   have hst:St B w0 24 [(0,_),(4,_)] [⟨0,141,ptrH,_⟩] a w:=hst
   refine za0 ?_
   refine wp_ret ?_
   have hst:=St.cvA (A':=KA (ansE e qs)) hst 0 rfl (congrArg KA (an_lo hb0))
   refine zf3 hst (zm 0 rfl) (zm 0 rfl) ?_
   refine zan ?_ (zai rfl hst (zm 1 rfl))
   rw [if_pos (by rw [← an_lo hb0]; simpa using hb1)]; exact zbt
theorem zuw {k:Nat}{q:Rat}:∀ A∈[QD k q],∀ T∈A.deps,T∈[U32]:=fun A hA=>by
 simp at hA
 subst hA
 exact zuv
theorem qd2_dep {k j:Nat}{q r:Rat}:∀ A∈[QD k q,QD j r],∀ T∈A.deps,T∈[U32]:=fun A hA=>by
 simp at hA
 rcases hA with rfl | rfl <;> exact zuv
theorem qd4_dep {k j m n:Nat}{q r s t:Rat}:∀ A∈[QD k q,QD j r,QD m s,QD n t],∀ T∈A.deps,T∈[U32]:=fun A hA=>by
 simp at hA
 rcases hA with rfl | rfl | rfl | rfl <;> exact zuv
theorem zux {k:Nat}{q:Rat}:∀ T∈(QA k q).deps,T∈[U32]:=fun T hT=>by
 have h:(QA k q).deps=[U32,U32]:=by kernel_rfl
 rw [h] at hT
 simpa using hT
theorem qa1_dep {k:Nat}{q:Rat}:∀ A∈[QA k q],∀ T∈A.deps,T∈[U32]:=fun A hA=>by
 simp at hA
 subst hA
 exact zux
theorem qa2_dep {k j:Nat}{q r:Rat}:∀ A∈[QA k q,QA j r],∀ T∈A.deps,T∈[U32]:=fun A hA=>by
 simp at hA
 rcases hA with rfl | rfl <;> exact zux
theorem qa4_dep {k j m n:Nat}{q r s t:Rat}:∀ A∈[QA k q,QA j r,QA m s,QA n t],∀ T∈A.deps,T∈[U32]:=fun A hA=>by
 simp at hA
 rcases hA with rfl | rfl | rfl | rfl <;> exact zux
theorem ztr {c:Prop}[Decidable c]{l:List As}(h:∀ A∈l,∀ T∈A.deps,T∈[U32]):Wk (SlX (if c then l else [])).va (SlA 26 [U32] (if c then l else [])).va:=(zto zmn (if_dep h)).va
theorem zs8 (e:Int)(k:Nat)(q:Rat):Cm Tryz.prog 208 141 (KA e) (KA (ansE e [q])) [.w (ptrH),.v (FnX (e=0) [QD k q])] (FrD (asF e q)):=by
 refine Cm.intro Tryz.func208 rfl zk nq (fun B g w0 a hst=>?_)
 have hst:St B w0 21 [(0,EqV ((ptrH).f g)),(1,FnX (e=0) [QD k q])] [⟨0,141,ptrH,KA e⟩] a w0.w:=hst
 refine wp_seq ?_
 refine gl (sts:=[none]) (news:=[⟨4,26,ptrH,some 0,_,none⟩]) (sp:=[.alc 1,.val 5 _]) [.g 0,.g 1,.o 1] hst (oc (zas rfl rfl rfl (Str.zero zf2)) (zv rfl (za1 za3) o0)) (fun a w hst=>?_)
 have hst:St B w0 21 [(0,_),(1,_),(5,_)] [⟨0,141,ptrH,_⟩,⟨4,26,ptrH,_⟩] a w:=hst
 refine zt<|gl (sts:=[some (2,_),none]) (news:=[]) (sp:=[.adr 7 0 (.some 0) True,.val 8 _,.cal 9 _ 0,.val 6 _]) [.g 0,.g 2,.o 3] hst (oc (ob_a rfl rfl (zcq (lz0 0 rfl))) (zv rfl (za2 (gq 1 rfl)) (oc (zef (xs:=[.tmp 7,.tmp 8]) rfl rfl rfl (zif e [QD k q] [QA k q] [q] (.cons ⟨_,rfl⟩ .nil) (.cons zon .nil) qa1_dep nq) (.cons (arw0 0 rfl zk (lz0 0 rfl)) (.cons (vq 1 rfl) .nil))) (zv rfl (za1 (zhl 2 rfl zk zk)) o0)))) (fun a w hst=>?_)
 have hst:St B w0 21 [(0,_),(5,_),(6,_)] [⟨0,141,ptrH,_⟩,⟨4,26,ptrH,_⟩] a w:=hst
 refine zt ?_
 refine wp_seq ?_
 refine gl (sts:=[none,none]) (news:=[]) (sp:=[.val 10 _,.val 11 _,.val 12 _]) [.g 0,.g 1,.g 2,.o 2] hst (zv rfl (za2 (gq 2 rfl)) (zv rfl (zc7 Tryz.underlying142 (has_wk' (vq 0 rfl) (ztr zuw))) (zv rfl (zba (vq 1 rfl) za3) o0))) (fun a w hst=>?_)
 have hst:St B w0 21 [(0,_),(5,_),(6,_),(12,_)] [⟨0,141,ptrH,_⟩,⟨4,26,ptrH,_⟩] a w:=hst
 refine za0 ?_
 refine za8 hst (zm 3 rfl) (fun hb0=>?_) (fun hb0=>?_)
 ·have hst:=St.sel hst [0,1,3]
  have hE:=zl8 hb0 (by simp)
  refine wp_seq ?_
  refine zay (anc:=[[],[],[1],[1,2],[1,2,3],[0],[0,1,2,3,4,5]]) (sts:=[none,some (5,_)]) (news:=[]) (sp:=[.val 13 _,.adr 14 0 (.some 0) True,.adr 15 0 (.some 0) True,.adr 16 0 (.some (0+0)) True,.val 17 _,.sto 1,.val 5 _]) [.g 0,.o 6] za7 hst (zv rfl (zbb (xs:=[]) (qs:=[]) zf2 .nil) (oc (ob_a rfl rfl (zcq (lz0 0 rfl))) (oc (ob_a rfl rfl (zek 1 rfl zk (lz0 0 rfl))) (oc (ob_a rfl rfl (zel 2 rfl zk trivial (lz0 0 rfl) zde)) (zv rfl (za4 3 rfl zk trivial (lz0 0 rfl) (Sub.part 0 rfl rfl) zkb) (oc (zag rfl rfl rfl (vq 0 rfl) zaf (Eq.trans (b:=4) rfl rfl)) (zv rfl (za1 (vq 4 rfl)) o0))))))) zk zk zk zk (fun a w hst=>?_)
  have hst:St B w0 21 [(0,_),(5,_)] [⟨0,141,ptrH,_⟩,⟨4,26,ptrH,_⟩] a w:=hst
  refine za0 ?_
  refine wp_ret ?_
  refine zar ?_
  refine zf3 hst (zm 0 rfl) (zm 0 rfl) ?_
  refine zan ?_ (zaq (rs:=[.cell 4 26,.tmp 5]) rfl hst (.cell (zm 1 rfl) zaf (.tmp (zm 1 rfl) .nil)) zd)
  rw [asF_no hE]; exact tu2w zf_rfd.va zbt
 ·have hE:=zje hb0 zd
  have hst:=St.cvG (A':=(SlX [QD k q]).va) hst 2 rfl (by rw [if_pos hE])
  have hst:=St.wkG hst 2 rfl (zto zmn zuw).va
  refine wp_skip ?_
  refine zt<|gl (sts:=[none,some (3,_)]) (news:=[]) (sp:=[.val 18 _,.val 19 _,.val 20 _,.sto 1,.val 5 _]) [.g 0,.o 4] hst (zv rfl (za2 (gq 2 rfl)) (zv rfl (zhb zdu (n_ok zk) (vq 0 rfl) (zav 0 rfl) rfl) (zv rfl (zae (vq 1 rfl) zaf) (oc (zag rfl rfl rfl (vq 2 rfl) zaf (Eq.trans (b:=4) rfl rfl)) (zv rfl (za1 za3) o0))))) (fun a w hst=>?_)
  have hst:St B w0 21 [(0,_),(5,_)] [⟨0,141,ptrH,_⟩,⟨4,26,ptrH,_⟩] a w:=hst
  refine za0 ?_
  refine wp_ret ?_
  refine zf3 hst (zm 0 rfl) (zm 0 rfl) ?_
  refine zan ?_ (zaq (rs:=[.cell 4 26,.tmp 5]) rfl hst (.cell (zm 1 rfl) zaf (.tmp (zm 1 rfl) .nil)) zd)
  rw [asF_yes hE]; exact tu2w qd_rfd.va zbt
theorem zlc {c d e f:Nat}{x y z u:Rat}(hk:c+d+e+f≤68719476736):Cn Tryz.prog 207 [Qs c x,Qs d y,Qs e z,Qs f u] ((QD (c+d+(e+f)+1) (x*y+z*u)).va):=by
 refine Cn.intro Tryz.func207 rfl zk nq (fun B w0 a hst=>?_)
 have hst:St B w0 16 [(0,Qs c x),(1,Qs d y),(2,Qs e z),(3,Qs f u)] [] a w0.w:=hst
 refine wp_seq ?_
 refine gl (sts:=[]) (news:=[⟨4,26,ptrH,some 0,_,none⟩,⟨5,26,ptrH,some 1,_,none⟩,⟨6,26,ptrH,some 2,_,none⟩,⟨7,26,ptrH,some 3,_,none⟩,⟨8,26,ptrH,some 4,_,none⟩]) (sp:=[.alc 0,.alc 1,.alc 2,.alc 3,.alc 4]) [] hst (oc (zak rfl rfl rfl (gq 0 rfl)) (oc (zak rfl rfl rfl (gq 1 rfl)) (oc (zak rfl rfl rfl (gq 2 rfl)) (oc (zak rfl rfl rfl (gq 3 rfl)) (oc (zas rfl rfl rfl (Str.zero zf2)) o0))))) (fun a w hst=>?_)
 have hst:St B w0 16 [] [⟨4,26,ptrH,_⟩,⟨5,26,ptrH,_⟩,⟨6,26,ptrH,_⟩,⟨7,26,ptrH,_⟩,⟨8,26,ptrH,_⟩] a w:=hst
 refine zt<|zay (anc:=[[],[],[0,1],[],[],[0,1,2,3,4],[0,1,2,3,4,5],[0,1,2,3,4,5,6]]) (sts:=[none,none,none,none,some (7,_)]) (news:=[]) (sp:=[.val 9 _,.val 10 _,.val 11 _,.val 12 _,.val 13 _,.val 14 _,.val 15 _,.sto 4]) [] za7 hst (zv rfl (zab (lz0 0 rfl) zaf) (zv rfl (zab (lz0 1 rfl) zaf) (zv rfl (za5 (xs:=[.tmp 9,.tmp 10]) (zl4 zo) (.cons (vq 0 rfl) (.cons (vq 1 rfl) .nil))) (zv rfl (zab (lz0 2 rfl) zaf) (zv rfl (zab (lz0 3 rfl) zaf) (zv rfl (za5 (xs:=[.tmp 12,.tmp 13]) (zl4 zo) (.cons (vq 3 rfl) (.cons (vq 4 rfl) .nil))) (zv rfl (za5 (xs:=[.tmp 11,.tmp 14]) (zv0 zo) (.cons (vq 2 rfl) (.cons (vq 5 rfl) .nil))) (oc (zag rfl rfl rfl (vq 6 rfl) zaf (Eq.trans (b:=4) rfl rfl)) o0)))))))) zk zk zk zk (fun a w hst=>?_)
 have hst:St B w0 16 [] [⟨4,26,ptrH,_⟩,⟨5,26,ptrH,_⟩,⟨6,26,ptrH,_⟩,⟨7,26,ptrH,_⟩,⟨8,26,ptrH,_⟩] a w:=hst
 refine za0 ?_
 refine wp_ret ?_
 refine zan ?_ (zao rfl hst (zm 4 rfl) zaf)
 exact zbt
theorem zti (m:MQ):Cn Tryz.prog 220 [(ElP 28 (QMA 2048 m))] ((SlX [QD 4097 (m.a+m.d)]).va):=by
 refine Cn.intro Tryz.func220 rfl zk nq (fun B w0 a hst=>?_)
 have hst:St B w0 8 [(0,(ElP 28 (QMA 2048 m)))] [] a w0.w:=hst
 refine wp_seq ?_
 refine gl (sts:=[]) (news:=[]) (sp:=[.val 1 _]) [.g 0,.o 0] hst (zv rfl (za1 zbj) o0) (fun a w hst=>?_)
 have hst:St B w0 8 [(0,_),(1,_)] [] a w:=hst
 refine zt<|zeh (sts:=[]) (news:=[]) (sp:=[(fun ν=>.val 2 _),(fun ν=>.val 3 _),(fun ν=>.val 4 _),(fun ν=>.val 5 _),(fun ν=>.val 6 (PinA (ν 4) ((QD 4097 (m.a+m.d)).and (SepAll [] (ν 4)))).va),(fun ν=>.val 7 _),(fun ν=>.val 1 _)]) [.o 6] hst ⟨of_u fun ν=>ob_v rfl rfl (zau (gq 0 rfl) zc4 (Sub.part 0 rfl rfl)),⟨of_u fun ν=>ob_v rfl rfl (zae (vq 0 rfl) zaf),⟨of_u fun ν=>ob_v rfl rfl (zau (gq 0 rfl) zc1 (Sub.part 3 rfl rfl)),⟨of_u fun ν=>ob_v rfl rfl (zae (vq 2 rfl) zaf),⟨zbw (us:=fun ν=>[]) (xs:=[.tmp 3,.tmp 5]) rfl rfl (zv0 (c:=2048) (d:=2048) zd) zcc zdd (.cons upA_qa.va (.cons upA_qa.va .nil)) (fun ν=>(.cons (vq 1 rfl) (.cons (vq 3 rfl) .nil))) (fun _ _=>rfl) (fun ν=>zb9),⟨of_u fun ν=>ob_v rfl rfl (zda (D:=[U32]) (l:=[_]) (xs:=[.tmp 6]) (zfz zk) zdu zk (n_ok zk) nq nq nq (.cons (vq 4 rfl) .nil) rfl rfl),⟨of_u fun ν=>ob_v rfl rfl (za1 (vq 5 rfl)),trivial⟩⟩⟩⟩⟩⟩⟩ ⟨(fun ν ν' h=>rfl),⟨(fun ν ν' h=>rfl),⟨(fun ν ν' h=>rfl),⟨(fun ν ν' h=>rfl),⟨(fun ν ν' h=>by first | rfl | simp only [h 4 rfl]),⟨(fun ν ν' h=>by first | rfl | simp only [h 4 rfl]),⟨(fun ν ν' h=>by first | rfl | simp only [h 4 rfl]),trivial⟩⟩⟩⟩⟩⟩⟩ trivial zk (fun ν=>by kernel_rfl) (fun ν=>by kernel_rfl) (fun ν1 a w hst=>?_)
 have hst:St B w0 8 [(1,_)] [] a w:=hst
 refine za0 ?_
 refine wp_ret ?_
 refine zan ?_ (zai rfl hst (zm 0 rfl))
 exact slx_of1
theorem zth {m:RM}(h:kM 0 m=0):Cn Tryz.prog 220 [(ElP 28 (RMA m))] (SlX [QD 4097 ((toM m).a+(toM m).d)]).va:=(zti (toM m)).wk (.cons (zjz (qm_x (ziq (kM_0 h).1).1)) .nil)
theorem zxo (m:RM):Cn Tryz.prog 69 [(RMA m).va] (FrD (trF m)):=by
 refine Cn.intro Tryz.func69 rfl zk nq (fun B w0 a hst=>?_)
 have hst:St B w0 15 [(0,(RMA m).va)] [] a w0.w:=hst
 refine wp_seq ?_
 refine gl (sts:=[]) (news:=[⟨1,28,ptrH,some 0,_,none⟩,⟨2,26,ptrH,some 1,_,none⟩]) (sp:=[.alc 0,.alc 1,.val 3 _]) [.o 2] hst (oc (zak rfl rfl rfl (gq 0 rfl)) (oc (zas rfl rfl rfl (Str.zero zf2)) (zv rfl (za1 za3) o0))) (fun a w hst=>?_)
 have hst:St B w0 15 [(3,_)] [⟨1,28,ptrH,_⟩,⟨2,26,ptrH,_⟩] a w:=hst
 refine zt<|zcz (sts:=[none,none]) (news:=[⟨6,141,ptrH,some 1,_,none⟩]) (sp:=[.val 5 _,.alc 2,.adr 4 6 .none True]) [.g 0] [(4,6)] [⟨1,28,ptrH,_⟩,⟨2,26,ptrH,_⟩,⟨4,141,ptrH,_⟩] hst (zv rfl (zbb (xs:=[]) (qs:=[]) zf1 .nil) (oc (zak rfl rfl rfl (vq 0 rfl)) (oc (ob_a rfl rfl zgr) o0))) zk zk zk ⟨⟨2,rfl⟩,trivial⟩ rfl zk (fun a w hst=>?_)
 have hst:St B w0 15 [(3,_)] [⟨1,28,ptrH,_⟩,⟨2,26,ptrH,_⟩,⟨4,141,ptrH,_⟩] a w:=hst
 refine zt<|gl (sts:=[none,none,some (2,_)]) (news:=[]) (sp:=[.adr 7 4 (.some 0) True,.val 8 _,.cal 9 _ 2]) [.g 0] hst (oc (ob_a rfl rfl (zcq (lz0 2 rfl))) (zv rfl (zab (lz0 0 rfl) zb4) (oc (zef (xs:=[.tmp 7,.tmp 8]) rfl rfl rfl (zf4 _ _) (.cons (arw0 0 rfl zk (lz0 2 rfl)) (.cons (vq 1 rfl) .nil))) o0))) (fun a w hst=>?_)
 have hst:St B w0 15 [(3,_)] [⟨1,28,ptrH,_⟩,⟨2,26,ptrH,_⟩,⟨4,141,ptrH,_⟩] a w:=hst
 refine zt<|gl (sts:=[none,some (5,_),some (2,_)]) (news:=[]) (sp:=[.adr 10 4 (.some 0) True,.val 11 _,.cal 12 _ 2,.val 13 _,.val 14 _,.sto 1,.val 3 _]) [.o 6] hst (oc (ob_a rfl rfl (zcq (lz0 2 rfl))) (zv rfl (zha (xs:=[.tmp 1]) (D:=[28,30,168]) (pre:=fun _:PLift (kM 0 m=0)=>[]) (post:=fun _=>(SlX [QD 4097 ((toM m).a+(toM m).d)]).va) (fun i=>zth i.down) (zvk rfl) (.cons (zbc (lz0 0 rfl)) .nil)) (oc (zef (xs:=[.tmp 10,.tmp 11]) rfl rfl rfl (zs8 _ 4097 ((toM m).a+(toM m).d)) (.cons (arw0 0 rfl zk (lz0 2 rfl)) (.cons (vq 1 rfl) .nil))) (zv rfl (zfs (zhl 2 rfl zk zk)) (zv rfl (zfr (zhl 2 rfl zk zk)) (oc (zag rfl rfl rfl (vq 3 rfl) zaf (Eq.trans (b:=4) rfl rfl)) (zv rfl (za1 (vq 4 rfl)) o0))))))) (fun a w hst=>?_)
 have hst:St B w0 15 [(3,_)] [⟨1,28,ptrH,_⟩,⟨2,26,ptrH,_⟩,⟨4,141,ptrH,_⟩] a w:=hst
 refine za0 ?_
 refine wp_ret ?_
 refine zan ?_ (zaq (rs:=[.cell 2 26,.tmp 3]) rfl hst (.cell (zm 1 rfl) zaf (.tmp (zm 0 rfl) .nil)) zd)
 exact zbt
theorem zod (m:MQ)(r:YQ):Cn Tryz.prog 206 [(ElP 28 (QMA 2048 m)),(ElP 30 (QRA 2048 r))] ((SlX [QD 8193 (goQ m r).y,QD 8193 (goQ m r).u]).va):=by
 refine Cn.intro Tryz.func206 rfl zk nq (fun B w0 a hst=>?_)
 have hst:St B w0 22 [(0,(ElP 28 (QMA 2048 m))),(1,(ElP 30 (QRA 2048 r)))] [] a w0.w:=hst
 refine wp_seq ?_
 refine gl (sts:=[]) (news:=[]) (sp:=[.val 2 _]) [.g 0,.g 1,.o 0] hst (zv rfl (za1 zbj) o0) (fun a w hst=>?_)
 have hst:St B w0 22 [(0,_),(1,_),(2,_)] [] a w:=hst
 refine zt ?_
 refine go_drawV' [[],[0],[],[2],[],[4],[],[6],[0,1,2,3,4,5,6,7],[],[9],[],[11],[],[13],[],[15],[0,1,2,3,4,5,6,7,8,9,10,11,12,13,14,15,16],[0,1,2,3,4,5,6,7,8,9,10,11,12,13,14,15,16,17],[0,1,2,3,4,5,6,7,8,9,10,11,12,13,14,15,16,17,18]] (sts:=[]) (news:=[]) (sp:=[(fun ν=>.val 3 _),(fun ν=>.val 4 _),(fun ν=>.val 5 _),(fun ν=>.val 6 _),(fun ν=>.val 7 _),(fun ν=>.val 8 _),(fun ν=>.val 9 _),(fun ν=>.val 10 _),(fun ν=>.val 11 (PinA (ν 8) ((QD 8193 (goQ m r).y).and (SepAll [] (ν 8)))).va),(fun ν=>.val 12 _),(fun ν=>.val 13 _),(fun ν=>.val 14 _),(fun ν=>.val 15 _),(fun ν=>.val 16 _),(fun ν=>.val 17 _),(fun ν=>.val 18 _),(fun ν=>.val 19 _),(fun ν=>.val 20 (PinA (ν 17) ((QD 8193 (goQ m r).u).and (SepAll [ν 8] (ν 17)))).va),(fun ν=>.val 21 _),(fun ν=>.val 2 _)]) [.o 19] za7 hst ⟨of_u fun ν=>ob_v rfl rfl (zau (gq 0 rfl) zc4 (Sub.part 0 rfl rfl)),⟨of_u fun ν=>ob_v rfl rfl (zae (vq 0 rfl) zaf),⟨of_u fun ν=>ob_v rfl rfl (zau (gq 1 rfl) zj5 (Sub.part 0 rfl rfl)),⟨of_u fun ν=>ob_v rfl rfl (zae (vq 2 rfl) zaf),⟨of_u fun ν=>ob_v rfl rfl (zau (gq 0 rfl) zca (Sub.part 1 rfl rfl)),⟨of_u fun ν=>ob_v rfl rfl (zae (vq 4 rfl) zaf),⟨of_u fun ν=>ob_v rfl rfl (zau (gq 1 rfl) zj4 (Sub.part 1 rfl rfl)),⟨of_u fun ν=>ob_v rfl rfl (zae (vq 6 rfl) zaf),⟨zbw (us:=fun ν=>[]) (xs:=[.tmp 4,.tmp 6,.tmp 8,.tmp 10]) rfl rfl (zlc (c:=2048) (d:=2048) (e:=2048) (f:=2048) zd) zcc zdd (.cons upA_qa.va (.cons upA_qa.va (.cons upA_qa.va (.cons upA_qa.va .nil)))) (fun ν=>(.cons (vq 1 rfl) (.cons (vq 3 rfl) (.cons (vq 5 rfl) (.cons (vq 7 rfl) .nil))))) (fun _ _=>rfl) (fun ν=>zb9),⟨of_u fun ν=>ob_v rfl rfl (zau (gq 0 rfl) zc6 (Sub.part 2 rfl rfl)),⟨of_u fun ν=>ob_v rfl rfl (zae (vq 9 rfl) zaf),⟨of_u fun ν=>ob_v rfl rfl (zau (gq 1 rfl) zj5 (Sub.part 0 rfl rfl)),⟨of_u fun ν=>ob_v rfl rfl (zae (vq 11 rfl) zaf),⟨of_u fun ν=>ob_v rfl rfl (zau (gq 0 rfl) zc1 (Sub.part 3 rfl rfl)),⟨of_u fun ν=>ob_v rfl rfl (zae (vq 13 rfl) zaf),⟨of_u fun ν=>ob_v rfl rfl (zau (gq 1 rfl) zj4 (Sub.part 1 rfl rfl)),⟨of_u fun ν=>ob_v rfl rfl (zae (vq 15 rfl) zaf),⟨zbw (us:=fun ν=>[ν 8]) (xs:=[.tmp 13,.tmp 15,.tmp 17,.tmp 19]) rfl rfl (zlc (c:=2048) (d:=2048) (e:=2048) (f:=2048) zd) zcc zdd (.cons upA_qa.va (.cons upA_qa.va (.cons upA_qa.va (.cons upA_qa.va .nil)))) (fun ν=>(.cons (vq 10 rfl) (.cons (vq 12 rfl) (.cons (vq 14 rfl) (.cons (vq 16 rfl) .nil))))) (fun _ _=>rfl) (fun ν=>(zbh (zb1 zcc) (vq 8 rfl) zb9)),⟨of_u fun ν=>ob_v rfl rfl (zda (D:=[U32]) (l:=[_,_]) (xs:=[.tmp 11,.tmp 20]) (zfz zk) zdu zk (n_ok zk) nq nq nq (.cons (vq 8 rfl) (.cons (vq 17 rfl) .nil)) rfl rfl),⟨of_u fun ν=>ob_v rfl rfl (za1 (vq 18 rfl)),trivial⟩⟩⟩⟩⟩⟩⟩⟩⟩⟩⟩⟩⟩⟩⟩⟩⟩⟩⟩⟩ ⟨(fun ν ν' h=>rfl),⟨(fun ν ν' h=>rfl),⟨(fun ν ν' h=>rfl),⟨(fun ν ν' h=>rfl),⟨(fun ν ν' h=>rfl),⟨(fun ν ν' h=>rfl),⟨(fun ν ν' h=>rfl),⟨(fun ν ν' h=>rfl),⟨(fun ν ν' h=>by first | rfl | simp only [h 8 rfl]),⟨(fun ν ν' h=>rfl),⟨(fun ν ν' h=>rfl),⟨(fun ν ν' h=>rfl),⟨(fun ν ν' h=>rfl),⟨(fun ν ν' h=>rfl),⟨(fun ν ν' h=>rfl),⟨(fun ν ν' h=>rfl),⟨(fun ν ν' h=>rfl),⟨(fun ν ν' h=>by first | rfl | simp only [h 8 rfl,h 17 rfl]),⟨(fun ν ν' h=>by first | rfl | simp only [h 8 rfl,h 17 rfl]),⟨(fun ν ν' h=>by first | rfl | simp only [h 8 rfl,h 17 rfl]),trivial⟩⟩⟩⟩⟩⟩⟩⟩⟩⟩⟩⟩⟩⟩⟩⟩⟩⟩⟩⟩ trivial zk zk (fun ν=>by kernel_rfl) (fun ν=>by kernel_rfl) (fun ν1 a w hst=>?_)
 have hst:St B w0 22 [(2,_)] [] a w:=hst
 refine za0 ?_
 refine wp_ret ?_
 refine zan ?_ (zai rfl hst (zm 0 rfl))
 exact slx_of2
theorem zoc {m:RM}{r:RR}(h:kR (kM 0 m) r=0):Cn Tryz.prog 206 [(ElP 28 (RMA m)),(ElP 30 (RRA r))] (SlX [QD 8193 (goQ (toM m) (toY r)).y,QD 8193 (goQ (toM m) (toY r)).u]).va:=(zod (toM m) (toY r)).wk (.cons (zjz (qm_x (ziq (kM_0 (kR_0 h).2).1).1)) (.cons (zjz (qr_x (kR_0 h).1)) .nil))
theorem zrk (m:RM)(r:RR):Cn Tryz.prog 60 [(RMA m).va,(RRA r).va] (YRD (goF m r)):=by
 refine Cn.intro Tryz.func60 rfl zk nq (fun B w0 a hst=>?_)
 have hst:St B w0 34 [(0,(RMA m).va),(1,(RRA r).va)] [] a w0.w:=hst
 refine wp_seq ?_
 refine gl (sts:=[]) (news:=[⟨2,28,ptrH,some 0,_,none⟩,⟨3,30,ptrH,some 1,_,none⟩,⟨4,30,ptrH,some 2,_,none⟩]) (sp:=[.alc 0,.alc 1,.alc 2,.val 5 _]) [.o 3] hst (oc (zak rfl rfl rfl (gq 0 rfl)) (oc (zak rfl rfl rfl (gq 1 rfl)) (oc (zas rfl rfl rfl (Str.zero zl7)) (zv rfl (za1 za3) o0)))) (fun a w hst=>?_)
 have hst:St B w0 34 [(5,_)] [⟨2,28,ptrH,_⟩,⟨3,30,ptrH,_⟩,⟨4,30,ptrH,_⟩] a w:=hst
 refine zt<|zcz (sts:=[none,none,none]) (news:=[⟨9,141,ptrH,some 1,_,none⟩]) (sp:=[.val 8 _,.alc 3,.adr 6 9 .none True]) [.g 0] [(6,9)] [⟨2,28,ptrH,_⟩,⟨3,30,ptrH,_⟩,⟨4,30,ptrH,_⟩,⟨6,141,ptrH,_⟩] hst (zv rfl (zbb (xs:=[]) (qs:=[]) zf1 .nil) (oc (zak rfl rfl rfl (vq 0 rfl)) (oc (ob_a rfl rfl zgr) o0))) zk zk zk ⟨⟨2,rfl⟩,trivial⟩ rfl zk (fun a w hst=>?_)
 have hst:St B w0 34 [(5,_)] [⟨2,28,ptrH,_⟩,⟨3,30,ptrH,_⟩,⟨4,30,ptrH,_⟩,⟨6,141,ptrH,_⟩] a w:=hst
 refine zt<|gl (sts:=[none,none,none,some (2,_)]) (news:=[]) (sp:=[.adr 10 6 (.some 0) True,.val 11 _,.cal 12 _ 3]) [.g 0] hst (oc (ob_a rfl rfl (zcq (lz0 3 rfl))) (zv rfl (zab (lz0 0 rfl) zb4) (oc (zef (xs:=[.tmp 10,.tmp 11]) rfl rfl rfl (zf4 _ _) (.cons (arw0 0 rfl zk (lz0 3 rfl)) (.cons (vq 1 rfl) .nil))) o0))) (fun a w hst=>?_)
 have hst:St B w0 34 [(5,_)] [⟨2,28,ptrH,_⟩,⟨3,30,ptrH,_⟩,⟨4,30,ptrH,_⟩,⟨6,141,ptrH,_⟩] a w:=hst
 refine zt<|gl (sts:=[none,none,none,some (2,_)]) (news:=[]) (sp:=[.adr 13 6 (.some 0) True,.val 14 _,.cal 15 _ 3]) [.g 0] hst (oc (ob_a rfl rfl (zcq (lz0 3 rfl))) (zv rfl (zab (lz0 1 rfl) zri) (oc (zef (xs:=[.tmp 13,.tmp 14]) rfl rfl rfl (kray_c _ _) (.cons (arw0 0 rfl zk (lz0 3 rfl)) (.cons (vq 1 rfl) .nil))) o0))) (fun a w hst=>?_)
 have hst:St B w0 34 [(5,_)] [⟨2,28,ptrH,_⟩,⟨3,30,ptrH,_⟩,⟨4,30,ptrH,_⟩,⟨6,141,ptrH,_⟩] a w:=hst
 refine zt<|gl (sts:=[none,none,none,some (2,_)]) (news:=[]) (sp:=[.adr 16 6 (.some 0) True,.val 17 _,.cal 18 _ 3,.val 7 _]) [.g 0,.o 3] hst (oc (ob_a rfl rfl (zcq (lz0 3 rfl))) (zv rfl (zha (xs:=[.tmp 2,.tmp 3]) (D:=[28,30,168]) (pre:=fun _:PLift (kR (kM 0 m) r=0)=>[]) (post:=fun _=>(SlX [QD 8193 (goQ (toM m) (toY r)).y,QD 8193 (goQ (toM m) (toY r)).u]).va) (fun i=>zoc i.down) (zvk rfl) (.cons (zbc (lz0 0 rfl)) (.cons (zbc (lz0 1 rfl)) .nil))) (oc (zef (xs:=[.tmp 16,.tmp 17]) rfl rfl rfl (zif _ [QD 8193 (goQ (toM m) (toY r)).y,QD 8193 (goQ (toM m) (toY r)).u] [QA 8193 (goQ (toM m) (toY r)).y,QA 8193 (goQ (toM m) (toY r)).u] [(goQ (toM m) (toY r)).y,(goQ (toM m) (toY r)).u] (.cons ⟨_,rfl⟩ (.cons ⟨_,rfl⟩ .nil)) (.cons zon (.cons zon .nil)) qa2_dep nq) (.cons (arw0 0 rfl zk (lz0 3 rfl)) (.cons (vq 1 rfl) .nil))) (zv rfl (za1 (zhl 2 rfl zk zk)) o0)))) (fun a w hst=>?_)
 have hst:St B w0 34 [(5,_),(7,_)] [⟨2,28,ptrH,_⟩,⟨3,30,ptrH,_⟩,⟨4,30,ptrH,_⟩,⟨6,141,ptrH,_⟩] a w:=hst
 refine zt ?_
 refine wp_seq ?_
 refine gl (sts:=[none,none,none,none]) (news:=[]) (sp:=[.val 19 _,.val 20 _,.val 21 _]) [.g 0,.g 1,.o 2] hst (zv rfl (za2 (gq 1 rfl)) (zv rfl (zc7 Tryz.underlying142 (has_wk' (vq 0 rfl) (ztr qd2_dep))) (zv rfl (zba (vq 1 rfl) za3) o0))) (fun a w hst=>?_)
 have hst:St B w0 34 [(5,_),(7,_),(21,_)] [⟨2,28,ptrH,_⟩,⟨3,30,ptrH,_⟩,⟨4,30,ptrH,_⟩,⟨6,141,ptrH,_⟩] a w:=hst
 refine za0 ?_
 refine za8 hst (zm 2 rfl) (fun hb0=>?_) (fun hb0=>?_)
 ·have hE:=zl8 hb0 (by simp)
  refine wp_seq ?_
  refine zay (anc:=[[],[],[1],[1,2],[1,2,3],[0],[0,1,2,3,4,5]]) (sts:=[none,none,some (5,_),none]) (news:=[]) (sp:=[.val 22 _,.adr 23 6 (.some 0) True,.adr 24 6 (.some 0) True,.adr 25 6 (.some (0+0)) True,.val 26 _,.sto 2,.val 5 _]) [.g 1,.o 6] za7 hst (zv rfl (zbb (xs:=[]) (qs:=[]) zl7 .nil) (oc (ob_a rfl rfl (zcq (lz0 3 rfl))) (oc (ob_a rfl rfl (zek 1 rfl zk (lz0 3 rfl))) (oc (ob_a rfl rfl (zel 2 rfl zk trivial (lz0 3 rfl) zde)) (zv rfl (za4 3 rfl zk trivial (lz0 3 rfl) (Sub.part 0 rfl rfl) zkb) (oc (zag rfl rfl rfl (vq 0 rfl) zri (Eq.trans (b:=8) rfl rfl)) (zv rfl (za1 (vq 4 rfl)) o0))))))) zk zk zk zk (fun a w hst=>?_)
  have hst:St B w0 34 [(7,_),(5,_)] [⟨2,28,ptrH,_⟩,⟨3,30,ptrH,_⟩,⟨4,30,ptrH,_⟩,⟨6,141,ptrH,_⟩] a w:=hst
  refine za0 ?_
  refine wp_ret ?_
  refine zar ?_
  refine zan ?_ (zaq (rs:=[.cell 4 30,.tmp 5]) rfl hst (.cell (zm 2 rfl) zri (.tmp (zm 1 rfl) .nil)) zd)
  rw [goF,asY_no hE]; exact tu2w zr_rrd.va zbt
 ·have hE:=zje hb0 zd
  have hst:=St.cvG (A':=(SlX [QD 8193 (goQ (toM m) (toY r)).y,QD 8193 (goQ (toM m) (toY r)).u]).va) hst 1 rfl (by rw [if_pos hE])
  obtain ⟨u1,u2,hst⟩:=St.openX2 hst 1 rfl
  refine wp_skip ?_
  refine zt<|zay (anc:=[[],[0],[0,1],[],[3],[3,4],[0,1,2,3,4,5],[0,1,2,3,4,5,6],[0,1,2,3,4,5,6,7]]) (sts:=[none,none,some (7,_),none]) (news:=[]) (sp:=[.val 27 _,.val 28 _,.val 29 _,.val 30 _,.val 31 _,.val 32 _,.val 33 _,.sto 2,.val 5 _]) [.o 8] za7 hst (zv rfl (za2 (gq 1 rfl)) (zv rfl (zhb zdu (n_ok zk) (vq 0 rfl) (zav 0 rfl) rfl) (zv rfl (zae (vq 1 rfl) zaf) (zv rfl (za2 (gq 1 rfl)) (zv rfl (zhb zdu (n_ok zk) (vq 3 rfl) (zav 1 rfl) rfl) (zv rfl (zae (vq 4 rfl) zaf) (zv rfl (zbb (xs:=[(0,.tmp 29),(1,.tmp 32)]) (qs:=[(0,_),(1,_)]) zl7 (.cons ⟨rfl,(vq 2 rfl),rfl⟩ (.cons ⟨rfl,(vq 5 rfl),rfl⟩ .nil))) (oc (zag rfl rfl rfl (vq 6 rfl) zri (Eq.trans (b:=8) rfl rfl)) (zv rfl (za1 za3) o0))))))))) zk zk zk zk (fun a w hst=>?_)
  have hst:St B w0 34 [(5,_)] [⟨2,28,ptrH,_⟩,⟨3,30,ptrH,_⟩,⟨4,30,ptrH,_⟩,⟨6,141,ptrH,_⟩] a w:=hst
  refine za0 ?_
  refine wp_ret ?_
  refine zan ?_ (zaq (rs:=[.cell 4 30,.tmp 5]) rfl hst (.cell (zm 2 rfl) zri (.tmp (zm 0 rfl) .nil)) zd)
  rw [goF,asY_yes hE]; exact tu2w yd_pins.va zbt
end Go.Proofs.YthncfchnkjemiaaGreatDoor
