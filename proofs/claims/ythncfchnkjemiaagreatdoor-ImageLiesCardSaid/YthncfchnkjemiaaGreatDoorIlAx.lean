import Derived.Test.YthncfchnkjemiaaGreatDoorIlAa
import Derived.Test.YthncfchnkjemiaaGreatDoorIlAc
import Derived.Test.YthncfchnkjemiaaGreatDoorIlAp
import Derived.Test.YthncfchnkjemiaaGreatDoorIlAq
import Derived.Test.YthncfchnkjemiaaGreatDoorIlAw
set_option linter.unusedVariables false
set_option linter.unusedSimpArgs false
set_option linter.unusedSectionVars false
set_option maxRecDepth 100000
namespace Go.Proofs.YthncfchnkjemiaaGreatDoor
open Go Go.RowKit
theorem app_held:∃ it z,Tryz.prog.info? 171=some it∧it.zero=some z∧it.size=3∧it.bytes=56∧z.cells.size=3:=by
 have h:((Tryz.prog.info? 171).bind fun it=>it.zero.map fun z=>(it.size,it.bytes,z.cells.size))=some (3,56,3):=by kernel_rfl
 cases hi:Tryz.prog.info? 171 with
 | none=>rw [hi] at h; simp at h
 | some it =>
  rw [hi] at h
  cases hz:it.zero with
  | none=>simp [hz] at h
  | some z =>
   simp [hz] at h
   exact ⟨it,z,rfl,hz,h.1,h.2.1,h.2.2⟩
def BkN (n:Nat) (vr:Value) (L:List Slot):As:=cat [NumA .i64 (n:Nat),HbA vr L,EqS (.slice none 0 0),EqS (.slice none 0 0),EqS (.slice none 0 0),EqS (.slice none 0 0),EqS (.slice none 0 0),EqS (.slice none 0 0),EqS (.slice none 0 0),EqS (.slice none 0 0),EqS (.slice none 0 0),EqS (.slice none 0 0),EqS (.slice none 0 0),EqS (.slice none 0 0),EqS (.slice none 0 0),EqS (.slice none 0 0),EqS (.slice none 0 0)]
def HxA (c vr:Value) (L:List Slot):As where
 n:=1
 ag:=false
 p B cs w:=cs=[c]∧c.oneCell'=true∧(HbA vr L).p B [vr] w
 deps:=[171,U32]
 len:=by rintro B cs w ⟨rfl,_⟩; rfl
 one:=by rintro B cs w ⟨rfl,h,_⟩ x hx; simp at hx; subst hx; exact h
 ag1:=fun _=>rfl
 cg:=fun B cs w w' hg ⟨h1,h2,h3⟩=>⟨h1,h2,(HbA vr L).cg _ _ _ _ hg h3⟩
 wr:=fun B cs w w' g c T fz h1 h2 h3 h4 ⟨h5,h6,h7⟩=>⟨h5,h6,(HbA vr L).wr _ _ _ _ _ _ _ _ h1 h2 h3 h4 h7⟩
def BkX (n:Nat) (c vr:Value) (L:List Slot):As:=cat [NumA .i64 (n:Nat),HxA c vr L,EqS (.slice none 0 0),EqS (.slice none 0 0),EqS (.slice none 0 0),EqS (.slice none 0 0),EqS (.slice none 0 0),EqS (.slice none 0 0),EqS (.slice none 0 0),EqS (.slice none 0 0),EqS (.slice none 0 0),EqS (.slice none 0 0),EqS (.slice none 0 0),EqS (.slice none 0 0),EqS (.slice none 0 0),EqS (.slice none 0 0),EqS (.slice none 0 0)]
def newS (v:Value) (xs:List Nat) (n:Nat):Slot:=⟨v,xs,v,xs,.slice none 0 0,n⟩
def BkE (L:List Slot):As where
 n:=17
 ag:=true
 p B cs w:=∃ vr,(BkA vr L).p B cs w
 deps:=[171,U32]
 len:=fun B cs w ⟨vr,h⟩=>(BkA vr L).len B cs w h
 one:=fun B cs w ⟨vr,h⟩=>(BkA vr L).one B cs w h
 ag1:=fun h=>by cases h
 cg:=fun B cs w w' hg ⟨vr,h⟩=>⟨vr,(BkA vr L).cg B cs w w' hg h⟩
 wr:=fun B cs w w' g c T fz h1 h2 h3 h4 ⟨vr,h⟩=>⟨vr,(BkA vr L).wr B cs w w' g c T fz h1 h2 h3 h4 h⟩
theorem bk_num {n m:Nat} {vr:Value} {L:List Slot} {B:Nat} {cs:List Value} {w:World} (h:(BkN n vr L).p B cs w):0+0<cs.length∧(BkN m vr L).p B (cs.set (0+0) (.int .i64 (m:Nat))) w:=by
 obtain ⟨ps,e,hp⟩:=h
 cases hp with
 | @cons _ c _ ps h1 hp =>
  have h1':c=[.int .i64 (n:Nat)]:=h1
  subst h1' e
  exact ⟨by simp,[.int .i64 (m:Nat)]::ps,by simp,.cons rfl hp⟩
theorem bk_cell {n:Nat} {c vr:Value} {L:List Slot} {B:Nat} {cs:List Value} {w:World} (h:(BkX n c vr L).p B cs w):0+1<cs.length∧(BkN n vr L).p B (cs.set (0+1) vr) w:=by
 obtain ⟨ps,e,hp⟩:=h
 cases hp with
 | @cons _ c1 _ ps h1 hp=>cases hp with
  | @cons _ c2 _ ps h2 hp =>
   have h1':c1=[.int .i64 (n:Nat)]:=h1
   obtain ⟨h3,h4,h5⟩:=h2
   subst h1' h3 e
   refine ⟨by simp,[.int .i64 (n:Nat)]::[vr]::ps,by simp,.cons rfl (.cons h5 hp)⟩
theorem mg_own {B:Nat} {w:World} {v:Value} {xs:List Nat} (h:(MgN xs).va.p B v w):w.ownsRow B U32 1 v xs.length (xs.map lv):=by
 obtain ⟨cs,⟨h0,⟨rfl,rfl⟩ | ⟨g,ext,rfl,e1,e2,e3⟩⟩,hv⟩:=h
 ·have hv':v=.slice none 0 0:=hv
  subst hv'
  exact ⟨rfl,.inl ⟨rfl,rfl⟩⟩
 ·have hv':v=.slice (some ⟨g,0,none⟩) xs.length (xs++ext).length:=hv
  subst hv'
  refine ⟨by simp,.inr ⟨g,(xs++ext).length,_,rfl,e2,e3,by simp,e1,by simp,?_⟩⟩
  rw [Nat.mul_one]
  show (List.map _ (xs++ext)).take xs.length=_
  rw [List.map_append,List.take_append_of_le_length (by simp),List.take_of_length_le (by simp)]
  rfl
theorem bk_keep {vr v:Value} {L:List Slot} {xs:List Nat} {n B:Nat} {cs:List Value} {w:World} (h:(BkN n vr L).p B cs w) (hm:(MgN xs).va.p B v w) (hsep:∀ t∈L,∀ g,t.has g→v.ownBlock≠some g) :
  w.ownsRow B 171 3 vr L.length (L.flatMap Slot.cells)∧∀ v' w' ds,ds=(newS v xs n).cells→w'.ownsRow B 171 3 v' (L.length+1) (L.flatMap Slot.cells++ds)→w.grownBy w' vr.ownBlock→(v'.ownBlock=vr.ownBlock∨(v'.ownBlock=some w.heap.size∧w.grownBy w' none))→(BkX n vr v' (L++[newS v xs n])).p B cs w':=by
 obtain ⟨ps,e,hp⟩:=h
 cases hp with
 | cons h1 hp=>cases hp with
  | cons h2 hp =>
   obtain ⟨q1,q2,q3,q4⟩:=h2
   refine ⟨q2,fun v' w' ds hds hown hg hb=>⟨_,e,?_⟩⟩
   subst hds
   have hkeep:∀ (g:Nat) (c:Array Value),w.heap[g]?=some (Obj.cells c U32 (0,0))→w'.heap[g]?=some (Obj.cells c U32 (0,0)):=fun g c h8=>by
    refine (hg.block g (Array.getElem?_eq_some_iff.1 h8).1 (fun e9=>?_)).trans h8
    rcases q2.2 with ⟨e1,_⟩ | ⟨g',cap,cur,e1,_,e3,_⟩
    ·rw [e1] at e9; cases e9
    ·rw [e1] at e9
     have:g=g':=by simpa [Value.ownBlock] using e9
     subst this
     rw [h8] at e3
     injection e3 with e3
     injection e3 with _ e3 _
     revert e3
     decide
   have hown1:=mg_own hm
   refine .cons h1 (.cons ⟨q1,(own_row1 q2).1,rfl,?_,fun t ht=>?_,fun i j s t hi hj hne g hs ht=>?_⟩ ?_)
   ·rw [List.length_append,List.flatMap_append]
    simpa using hown
   ·rcases List.mem_append.1 ht with ht | ht
    ·exact (q3 t ht).keep fun g c _ h8=>hkeep g c h8
    ·obtain rfl:=List.mem_singleton.1 ht
     have h9:w'.ownsRow B U32 1 v xs.length (xs.map lv):=own_keep hown1 fun g c _ h8=>hkeep g c h8
     exact ⟨h9,own_rdy h9⟩
   ·have hb1:∀ g,(newS v xs n).has g→v.ownBlock=some g:=fun g h=>by
     rcases h with h | h <;> exact h
    have hget:∀ (i:Nat) s,(L++[newS v xs n])[i]?=some s→(L[i]?=some s∧i<L.length)∨(i=L.length∧s=newS v xs n):=fun i s hi=>by
     by_cases h5:i<L.length
     ·rw [List.getElem?_append_left h5] at hi
      exact .inl ⟨hi,h5⟩
     ·rw [List.getElem?_append_right zo] at hi
      have h6:=(List.getElem?_eq_some_iff.1 hi).1
      simp at h6
      have h7:i=L.length:=by omega
      subst h7
      simp at hi
      exact .inr ⟨rfl,hi.symm⟩
    rcases hget i s hi with ⟨h5,h5'⟩ | ⟨h5,rfl⟩ <;> rcases hget j t hj with ⟨h6,h6'⟩ | ⟨h6,rfl⟩
    ·exact q4 i j s t h5 h6 hne g hs ht
    ·exact hsep s (List.mem_of_getElem? h5) g hs (hb1 g ht)
    ·exact hsep t (List.mem_of_getElem? h6) g ht (hb1 g hs)
    ·omega
   ·iterate 15 (cases hp; rename_i h3 hp; refine .cons h3 ?_)
    cases hp
    exact .nil
theorem held_of {v:Value} {n B:Nat} {w:World} {xs:List Nat} {ds:List Value} (h:(cat [EqS v,EqS (.slice none 0 0),NumA .i64 (n:Nat)]).p B ds w):ds=(newS v xs n).cells:=by
 obtain ⟨ps,rfl,hp⟩:=h
 cases hp with
 | cons h1 hp=>cases hp with
  | cons h2 hp=>cases hp with
   | cons h3 hp =>
    cases hp
    have h3':=h3
    obtain ⟨rfl,_⟩:=h1
    obtain ⟨rfl,_⟩:=h2
    have:_=[Value.int .i64 (n:Nat)]:=h3'
    subst this
    rfl
theorem pin_eq {v:Value} {xs:List Nat}:Wk (PinA v (MgN xs)).va (EqS v).va:=fun B u w ⟨cs,⟨h1,h2⟩,h3⟩=>by
 have h4:u=v:=h3.trans h2
 subst h4
 have hl:=(MgN xs).len _ _ _ h1
 have h5:=(MgN xs).one _ _ _ h1
 match cs,hl with
 | [x],_ =>
  have h6:u=x:=h3
  subst h6
  exact ⟨[u],⟨rfl,h5 u (by simp)⟩,rfl⟩
theorem pin_mg {v u:Value} {xs:List Nat} {B:Nat} {w:World} (h:(PinA v (MgN xs)).va.p B u w):(MgN xs).va.p B v w:=by
 obtain ⟨cs,⟨h1,h2⟩,_⟩:=h
 exact ⟨cs,h1,h2.symm⟩
theorem bkn_e {n:Nat} {vr:Value} {L:List Slot} (h:n=L.length):WkA (BkN n vr L) (BkE L):=by subst h; exact ⟨rfl,rfl,fun B cs w h=>⟨vr,h⟩⟩
theorem bx_one {n:Nat} {c vr:Value} {L:List Slot} {B N:Nat} {w0:Bs} {Γ:List (Nat × VA)} {Λ:List Lc} {a:Act} {w:World} {s:Nat} {T:TypeId} {H:Hd} (h:St B w0 N Γ Λ a w) (k:Nat) (hm:Λ[k]?=some ⟨s,T,H,BkX n c vr L⟩):vr.oneCell'=true∧vr.cells = #[vr]:=by
 obtain ⟨g,cs,_,_,_,ps,e,hp⟩:=h.locs _ (List.mem_of_getElem? hm)
 cases hp with
 | cons h1 hp=>cases hp with
  | cons h2 hp =>
   obtain ⟨_,_,_,h5,_⟩:=h2
   exact ⟨(own_row1 h5).1,(own_row1 h5).2.cell⟩
section
open Rg
variable {P:Program} {Q:Exit→Act→World→Prop} {R:Rg} {B i:Nat} {w0:Bs}
theorem r_nilQ {x:Operand} {g o:Nat} (hx:Has R B w0 i x (EqV (.pointer (some ⟨g,o,none⟩)))):Wv P Q R B w0 i (.nilCheck x) (EqV (.pointer (some ⟨g,o,none⟩))) :=
 wv_run fun d T ps af gd a w av=>by
  have h:a.eval x=.pointer (some ⟨g,o,none⟩):=hx a w av
  exact ⟨_,w,by simp [execOp,h],Grow.refl w,rfl⟩
theorem r_fldQ {x:Operand} {T:TypeId} {f k n g o:Nat} (hx:Has R B w0 i x (EqV (.pointer (some ⟨g,o,none⟩)))) (hf:Fld P T f k n):Wv P Q R B w0 i (.fieldAddr T x f) (EqV (.pointer (some ⟨g,o+k,none⟩))) :=
 wv_run fun d T ps af gd a w av=>by
  have h:a.eval x=.pointer (some ⟨g,o,none⟩):=hx a w av
  exact ⟨_,w,by simp [execOp,h,run_fieldAt hf],Grow.refl w,rfl⟩
end
theorem keep_c (vr v:Value) (xs:List Nat) (L:List Slot) (hsep:∀ t∈L,∀ g,t.has g→v.ownBlock≠some g) (hl:L.length≤1000000):CK Tryz.prog 254 59 [59,171] (BkA vr L) (BkE (L++[newS v xs (L.length+1)])) [(PinA v (MgN xs)).va] (Tu []):=by
 obtain ⟨it0,z0,hi0,hz0,hs0,hb0',hc0⟩:=app_held
 refine CK.intro Tryz.func254 rfl zk nq zk (fun B g w0 a hrm hst=>?_)
 have hst:St B w0 26 [(0,EqV ((ptrH).f g)),(1,(PinA v (MgN xs)).va)] [⟨0,59,ptrH,BkA vr L⟩] a w0.w:=hst
 have hst:St B w0 26 _ [⟨0,59,ptrH,BkN L.length vr L⟩] a w0.w:=hst
 refine wp_seq ?_
 refine go_head (sp:=[.val 4 _,.val 5 _,.val 6 _,.val 7 _,.val 8 _,.val 9 _,.val 10 _,.sto 0]) 7 1 0 7 OneC [.g 0,.g 1,.o 4,.o 6] hst (zv rfl rfl (r_move (gq 0 rfl)) (zv rfl rfl (r_nilQ (vq 0 rfl)) (zv rfl rfl (r_fldQ (vq 1 rfl) fld_59_0) (zv rfl rfl (r_loadE (vq 2 rfl) (lz0 0 rfl) (gq 0 rfl) (Sub.part 0 rfl rfl) ty_3) (zv rfl rfl (r_add (vq 3 rfl) has_num (wi_succ zo)) (zv rfl rfl (r_nilQ (vq 0 rfl)) (zv rfl rfl (r_fldQ (vq 5 rfl) fld_59_0) o0))))))) rfl zd zk zk (fun a w hst=>?_)
 have hst:St B w0 26 [(0,_),(1,_),(8,_),(10,_)] [⟨0,59,ptrH,_⟩] a w:=hst
 rw [show List.range' 7 1=[7] from rfl]
 have hst:=St.wkG hst 2 rfl wk_nE
 rw [wpOps_cons]
 refine op_ownS (A1:=BkN (L.length+1) vr L) [0,1] 3 2 0 0 rfl hst rfl rfl rfl rfl rfl ty_3 rfl zk zk rfl (fun cs hp=>bk_num hp) (fun w hst=>?_)
 refine wpOps_sS ?_
 have hst:St B w0 26 [(0,_),(1,_)] [⟨0,59,ptrH,BkN (L.length+1) vr L⟩] a w:=hst
 refine thn_normal ?_
 refine go_headZ (sp:=[.val 11 _,.val 12 _,.val 13 _,.val 14 _,.val 15 _,.val 16 _,.val 17 _,.val 18 _,.val 19 _,.val 20 _,.val 21 _,.val 22 _,.val 23 VT,.val 24 VT,.val 25 VT,.sto 0]) [[],[],[1],[1,2],[1,2,3],[],[],[6],[6,7],[6,7,8],[5,6,7,8,9],[5,6,7,8,9,10],[1,2,3,4,5,6,7,8,9,10,11],[0,1,2,3,4,5,6,7,8,9,10,11,12],[0,1,2,3,4,5,6,7,8,9,10,11,12,13],[0,1,2,3,4,5,6,7,8,9,10,11,12,13,14]] 12 4 0 15 0 OneC [.g 0,.g 1,.o 0,.o 4,.o 11] [.g 0,.g 1,.o 4,.o 11] follows_mixed hst (zv rfl rfl (r_move (gq 0 rfl)) (zv rfl rfl (r_move (gq 0 rfl)) (zv rfl rfl (r_nilQ (vq 1 rfl)) (zv rfl rfl (r_fldQ (vq 2 rfl) fld_59_1) (zv rfl rfl (r_loadE (vq 3 rfl) (lz0 0 rfl) (gq 0 rfl) (Sub.part 1 rfl rfl) ty_42) (zv rfl rfl (r_move (has_wk' (gq 1 rfl) pin_eq)) (zv rfl rfl (r_move (gq 0 rfl)) (zv rfl rfl (r_nilQ (vq 6 rfl)) (zv rfl rfl (r_fldQ (vq 7 rfl) fld_59_0) (zv rfl rfl (r_loadE (vq 8 rfl) (lz0 0 rfl) (gq 0 rfl) (Sub.part 0 rfl rfl) ty_3) (zv rfl rfl (r_build (xs:=[(0,.tmp 16),(2,.tmp 20)]) (qs:=[(0,_),(2,_)]) str_held (.cons ⟨rfl,(vq 5 rfl),rfl⟩ (.cons ⟨rfl,(vq 9 rfl),rfl⟩ .nil))) (zv rfl rfl (r_slice (D:=[U32]) (l:=[_]) (xs:=[.tmp 21]) (nd_ok zk) sl_42 zk (n_ok zk) nq nq nq (.cons (vq 10 rfl) .nil) rfl rfl) o0)))))))))))) rfl zd zd zd zk zk (anc_all zk) zk zk zk (fun a w hst=>?_) (fun a w hst=>?_)
 ·have hst:St B w0 26 [(0,_),(1,_),(11,_),(15,_),(22,_)] [⟨0,59,ptrH,_⟩] a w:=hst
  rw [show List.range' 12 4=[12,13,14,15] from rfl]
  have hst:=St.wkG hst 3 rfl hb_eq
  have hm:=hst.vals _ (zm 1 rfl)
  rw [wpOps_cons]
  refine op_appS (m:=3) (X:=cat [EqS v,EqS (.slice none 0 0),NumA .i64 ((L.length+1:Nat):Int)]) (A1:=fun v'=>BkX (L.length+1) vr v' (L++[newS v xs (L.length+1)])) (F:=fun ds=>ds=(newS v xs (L.length+1)).cells) [0,2] 3 4 0 rfl hst rfl rfl (fun ds h=>held_of h) rfl rfl rfl (hrm _ zk) Tryz.underlying42 hi0 hz0 hs0 hb0' hc0 zd (n:=L.length) zo zo zd zk zk zk zk (fun cs hp=>bk_keep hp (pin_mg hm) hsep) (fun v' w' hst=>?_)
  rw [wpOps_cons]
  refine op_nilS 2 rfl hst rfl zd zk zk (fun a hst=>?_)
  rw [wpOps_cons]
  refine op_fldS 0 rfl hst fld_59_1 rfl zd zk zk (fun a hst=>?_)
  rw [wpOps_cons]
  have hv1:=(bx_one hst 0 rfl)
  refine op_ownS (A1:=BkN (L.length+1) v' (L++[newS v xs (L.length+1)])) [3] 0 2 3 0 rfl hst rfl rfl rfl hv1.1 hv1.2 ty_42 rfl zk zk rfl (fun cs hp=>bk_cell hp) (fun w hst=>?_)
  refine wpOps_sS ?_
  have hst:=St.wkL (A':=BkE (L++[newS v xs (L.length+1)])) hst 0 rfl (bkn_e (by simp))
  have hst:St B w0 26 [(0,_)] [⟨0,59,ptrH,_⟩] a w:=hst
  refine nrm_ret ?_
  refine ret_m hst (zm 0 rfl) (zm 0 rfl) ?_
  exact ret_many (rs:=[]) rfl hst .nil zd
 ·have hst:St B w0 26 [(0,_),(1,_),(15,_),(22,_)] [⟨0,59,ptrH,_⟩] a w:=hst
  rw [show List.range' (12+1) (4 - 1)=[13,14,15] from rfl]
  have hst:=St.wkG hst 2 rfl hb_eq
  have hm:=hst.vals _ (zm 1 rfl)
  rw [wpOps_cons]
  refine op_appS (m:=3) (X:=cat [EqS v,EqS (.slice none 0 0),NumA .i64 ((L.length+1:Nat):Int)]) (A1:=fun v'=>BkX (L.length+1) vr v' (L++[newS v xs (L.length+1)])) (F:=fun ds=>ds=(newS v xs (L.length+1)).cells) [0] 2 3 0 rfl hst rfl rfl (fun ds h=>held_of h) rfl rfl rfl (hrm _ zk) Tryz.underlying42 hi0 hz0 hs0 hb0' hc0 zd (n:=L.length) zo zo zd zk zk zk zk (fun cs hp=>bk_keep hp (pin_mg hm) hsep) (fun v' w' hst=>?_)
  rw [wpOps_cons]
  refine op_movS 1 rfl hst rfl zd zk zk (fun a hst=>?_)
  rw [wpOps_cons]
  refine op_nilS 0 rfl hst rfl zd zk zk (fun a hst=>?_)
  rw [wpOps_cons]
  refine op_fldS 0 rfl hst fld_59_1 rfl zd zk zk (fun a hst=>?_)
  rw [wpOps_cons]
  have hv1:=(bx_one hst 0 rfl)
  refine op_ownS (A1:=BkN (L.length+1) v' (L++[newS v xs (L.length+1)])) [4] 0 3 4 0 rfl hst rfl rfl rfl hv1.1 hv1.2 ty_42 rfl zk zk rfl (fun cs hp=>bk_cell hp) (fun w hst=>?_)
  refine wpOps_sS ?_
  have hst:=St.wkL (A':=BkE (L++[newS v xs (L.length+1)])) hst 0 rfl (bkn_e (by simp))
  have hst:St B w0 26 [(0,_)] [⟨0,59,ptrH,_⟩] a w:=hst
  refine nrm_ret ?_
  refine ret_m hst (zm 0 rfl) (zm 0 rfl) ?_
  exact ret_many (rs:=[]) rfl hst .nil zd
end Go.Proofs.YthncfchnkjemiaaGreatDoor
namespace Go.Proofs.YthncfchnkjemiaaGreatDoor
open Go Go.RowKit
abbrev KL:=List (Value × List Nat)
def addL:List Slot→KL→List Slot
 | L,[]=>L
 | L,p::l=>addL (L++[newS p.1 p.2 (L.length+1)]) l
def SepL:List Slot→KL→Prop
 | _,[]=>True
 | L,p::l=>(∀ t∈L,∀ g,t.has g→p.1.ownBlock≠some g)∧SepL (L++[newS p.1 p.2 (L.length+1)]) l
theorem addL_len:∀ {l:KL} {L:List Slot},(addL L l).length=L.length+l.length
 | [],L=>rfl
 | p::l,L=>by rw [addL,addL_len]; simp; omega
theorem addL_app:∀ {l m:KL} {L:List Slot},addL L (l++m)=addL (addL L l) m
 | [],m,L=>rfl
 | p::l,m,L=>by rw [List.cons_append,addL,addL,addL_app]
theorem sepL_app:∀ {l m:KL} {L:List Slot},SepL L (l++m)→SepL L l∧SepL (addL L l) m
 | [],m,L,h=>⟨trivial,h⟩
 | p::l,m,L,h=>by
  obtain ⟨h1,h2⟩:=h
  obtain ⟨h3,h4⟩:=sepL_app h2
  exact ⟨⟨h1,h3⟩,h4⟩
def kbl (l:KL):List Nat:=l.filterMap fun p=>p.1.ownBlock
theorem sepL_of:∀ {l:KL} {L:List Slot},(kbl l).Nodup→(∀ t∈L,∀ g,t.has g→g ∉ kbl l)→SepL L l
 | [],L,_,_=>trivial
 | p::l,L,hn,hL=>by
  have hk:∀ g,p.1.ownBlock=some g→kbl (p::l)=g::kbl l:=fun g hg=>by simp [kbl,List.filterMap_cons,hg]
  have hk0:p.1.ownBlock=none→kbl (p::l)=kbl l:=fun hg=>by simp [kbl,List.filterMap_cons,hg]
  have hsub:∀ g,g∈kbl l→g∈kbl (p::l):=fun g hg=>by
   cases hp:p.1.ownBlock with
   | none=>rw [hk0 hp]; exact hg
   | some g'=>rw [hk g' hp]; exact List.mem_cons_of_mem _ hg
  refine ⟨fun t ht g hg hp=>hL t ht g hg (by rw [hk g hp]; exact List.mem_cons_self ..),sepL_of ?_ fun t ht g hg hm=>?_⟩
  ·cases hp:p.1.ownBlock with
   | none=>rw [hk0 hp] at hn; exact hn
   | some g'=>rw [hk g' hp] at hn; exact (List.nodup_cons.1 hn).2
  ·rcases List.mem_append.1 ht with ht | ht
   ·exact hL t ht g hg (hsub g hm)
   ·obtain rfl:=List.mem_singleton.1 ht
    have hp:p.1.ownBlock=some g:=by rcases hg with h | h <;> exact h
    rw [hk g hp] at hn
    exact (List.nodup_cons.1 hn).1 hm
theorem addL_mem:∀ {l:KL} {L:List Slot} {s:Slot},s∈addL L l→s∈L∨∃ p∈l,∃ n,n≤L.length+l.length∧s=newS p.1 p.2 n
 | [],L,s,h=>.inl h
 | p::l,L,s,h=>by
  rcases addL_mem (l:=l) h with h | ⟨q,hq,n,hn,e⟩
  ·rcases List.mem_append.1 h with h | h
   ·exact .inl h
   ·exact .inr ⟨p,by simp,L.length+1,by simp,List.mem_singleton.1 h⟩
  ·exact .inr ⟨q,by simp [hq],n,by simp at hn ⊢; omega,e⟩
def JkA:As where
 n:=17
 ag:=true
 p _ cs _:=cs.length=17∧∀ c∈cs,c.oneCell'=true
 deps:=[]
 len:=fun _ _ _ h=>h.1
 one:=fun _ _ _ h=>h.2
 ag1:=fun h=>by cases h
 cg:=fun _ _ _ _ _ h=>h
 wr:=fun _ _ _ _ _ _ _ _ _ _ _ _ h=>h
def IntP (x:RI) (m:Value):As:=cat [BoA x.neg,PinA m (MgN x.mag)]
def FracP (x:RF) (m1 m2:Value):As:=cat [IntP x.num m1,IntP x.den m2]
abbrev kf (x:RF) (m1 m2:Value):KL:=[(m1,x.num.mag),(m2,x.den.mag)]
theorem keepE_c (v:Value) (xs:List Nat) (L:List Slot) (hsep:∀ t∈L,∀ g,t.has g→v.ownBlock≠some g) (hl:L.length≤1000000):CK Tryz.prog 254 59 [59,171] (BkE L) (BkE (L++[newS v xs (L.length+1)])) [(PinA v (MgN xs)).va] (Tu []) :=
 CK.ex (c:=fun _=>True) (keep_c undef v xs L hsep hl).1 (fun vr _=>keep_c vr v xs L hsep hl) fun B cs w ⟨vr,h⟩=>⟨vr,trivial,h⟩
theorem apart_ex : ∃ fn, Tryz.prog.funcs[26]? = some fn ∧ (fn.name == "runtime.NumGoroutine") = false ∧ fn.body.isNone = false := ⟨_, Tryz.func26, by kernel_rfl, by kernel_rfl⟩
theorem apartE_c (l:KL) (hok:∀ p∈l,okL p.2∧p.2.length≤2000000000000) (hl:l.length≤1000000):CK Tryz.prog 26 59 [59,171,168] (BkE (addL [] l)) JkA [] (Bo true):=by
 have hlen:(addL [] l).length≤1000000:=by rw [addL_len]; simpa using hl
 refine CK.ex (c:=fun _=>∀ s∈addL [] l,s.new) (apart_ex) (fun vr hn=>(apart_c vr (addL [] l) hn hlen).wk fun B cs w h=>?_) fun B cs w ⟨vr,h⟩=>⟨vr,fun s hs=>?_,h⟩
 ·exact ⟨(GkA vr _).len _ _ _ h,(GkA vr _).one _ _ _ h⟩
 ·obtain ⟨c,h0⟩:=bk_hb h
  have hrv:=(h0.2.2.1 s hs).2.1
  rcases addL_mem hs with h1 | ⟨p,hp,n,hn,rfl⟩
  ·cases h1
  ·exact { rv:=hrv,ox:=(hok p hp).1,oy:=(hok p hp).1,z1:=rfl,n1:=by simp at hn; show n≤_; omega,lx:=(hok p hp).2,uv:=rfl,yx:=rfl }
theorem keepI_c (x:RI) (m:Value) (L:List Slot) (hs:SepL L [(m,x.mag)]) (hl:L.length≤999999):CK Tryz.prog 106 59 [59,171] (BkE L) (BkE (addL L [(m,x.mag)])) [(IntP x m).va] (Tu []):=by
 refine CK.intro Tryz.func106 rfl zk nq zk (fun B g w0 a hrm hst=>?_)
 have hst:St B w0 8 [(0,EqV ((ptrH).f g)),(1,(IntP x m).va)] [⟨0,59,ptrH,BkE L⟩] a w0.w:=hst
 refine wp_seq ?_
 refine gl (sts:=[none]) (news:=[⟨3,24,ptrH,some 0,_,none⟩]) (sp:=[.alc 1]) [.g 0] hst (oc (ob_box rfl rfl rfl (gq 1 rfl)) o0) (fun a w hst=>?_)
 have hst:St B w0 8 [(0,_)] [⟨0,59,ptrH,_⟩,⟨3,24,ptrH,_⟩] a w:=hst
 refine thn_normal ?_
 refine go_head (sp:=[.val 4 _,.adr 5 3 (.some 1) True,.val 6 _,.val 7 VT]) 3 1 99 3 OneC [.g 0,.o 0,.o 2] hst (zv rfl rfl (r_move (gq 0 rfl)) (oc (ob_a rfl rfl (a_fld (lz0 1 rfl) fld_24_1)) (zv rfl rfl (r_loadf 1 rfl zk trivial (lz0 1 rfl) (Sub.part 1 rfl rfl) ty_22) o0))) rfl zd zk zk (fun a w hst=>?_)
 have hst:St B w0 8 [(0,_),(4,_),(6,_)] [⟨0,59,ptrH,_⟩,⟨3,24,ptrH,_⟩] a w:=hst
 rw [show List.range' 3 1=[3] from rfl]
 rw [wpOps_cons]
 refine op_ckS (A1:=BkE (L++[newS m x.mag (L.length+1)])) (xs:=[.tmp 6]) [0] [2] 0 rfl hst (keepE_c m x.mag L hs.1 zo) rfl (Eq.trans (b:=ptr g) (hst.vals _ (zm 1 rfl)) (Eq.symm (hst.vals _ (zm 0 rfl)))) (.cons ⟨_,rfl,rfl⟩ .nil) rfl hrm zd zk zk zk zk (fun a w hst=>?_)
 refine wpOps_nS ?_
 have hst:St B w0 8 [(7,_),(0,_)] [⟨0,59,ptrH,BkE (L++[newS m x.mag (L.length+1)])⟩,⟨3,24,ptrH,_⟩] a w:=hst
 refine nrm_ret ?_
 refine ret_m hst (zm 1 rfl) (zm 0 rfl) ?_
 exact ret_many (rs:=[]) rfl hst .nil zd
theorem keepF_c (x:RF) (m1 m2:Value) (L:List Slot) (hs:SepL L (kf x m1 m2)) (hl:L.length≤999990):CK Tryz.prog 25 59 [59,171] (BkE L) (BkE (addL L (kf x m1 m2))) [(FracP x m1 m2).va] (Tu []):=by
 obtain ⟨hs1,hs2⟩:=sepL_app (l:=[(m1,x.num.mag)]) (m:=[(m2,x.den.mag)]) hs
 refine CK.intro Tryz.func25 rfl zk nq zk (fun B g w0 a hrm hst=>?_)
 have hst:St B w0 12 [(0,EqV ((ptrH).f g)),(1,(FracP x m1 m2).va)] [⟨0,59,ptrH,BkE L⟩] a w0.w:=hst
 refine wp_seq ?_
 refine gl (sts:=[none]) (news:=[⟨3,26,ptrH,some 0,_,none⟩]) (sp:=[.alc 1]) [.g 0] hst (oc (ob_box rfl rfl rfl (gq 1 rfl)) o0) (fun a w hst=>?_)
 have hst:St B w0 12 [(0,_)] [⟨0,59,ptrH,_⟩,⟨3,26,ptrH,_⟩] a w:=hst
 refine zt ?_
 refine go_head (sp:=[.val 4 _,.adr 5 3 (.some 0) True,.val 6 _,.val 7 VT]) 3 1 99 3 OneC [.g 0,.o 0,.o 2] hst (zv rfl rfl (r_move (gq 0 rfl)) (oc (ob_a rfl rfl (a_fld (lz0 1 rfl) fld_26_0)) (zv rfl rfl (r_loadf 1 rfl zk trivial (lz0 1 rfl) (Sub.part 0 rfl rfl) ty_24) o0))) rfl zd zk zk (fun a w hst=>?_)
 have hst:St B w0 12 [(0,_),(4,_),(6,_)] [⟨0,59,ptrH,_⟩,⟨3,26,ptrH,_⟩] a w:=hst
 rw [show List.range' 3 1=[3] from rfl]
 rw [wpOps_cons]
 refine op_ckS (A1:=BkE (addL L [(m1,x.num.mag)])) (xs:=[.tmp 6]) [0] [2] 0 rfl hst (keepI_c x.num m1 L hs1 zo) rfl (Eq.trans (b:=ptr g) (hst.vals _ (zm 1 rfl)) (Eq.symm (hst.vals _ (zm 0 rfl)))) (.cons ⟨_,rfl,rfl⟩ .nil) rfl hrm zd zk zk zk zk (fun a w hst=>?_)
 refine wpOps_nS ?_
 have hst:St B w0 12 [(7,_),(0,_)] [⟨0,59,ptrH,BkE (addL L [(m1,x.num.mag)])⟩,⟨3,26,ptrH,_⟩] a w:=hst
 refine thn_normal ?_
 refine go_head (sp:=[.val 8 _,.adr 9 3 (.some 2) True,.val 10 _,.val 11 VT]) 3 1 99 3 OneC [.g 1,.o 0,.o 2] hst (zv rfl rfl (r_move (gq 1 rfl)) (oc (ob_a rfl rfl (a_fld (lz0 1 rfl) fld_26_1)) (zv rfl rfl (r_loadf 1 rfl zk trivial (lz0 1 rfl) (Sub.part 1 rfl rfl) ty_24) o0))) rfl zd zk zk (fun a w hst=>?_)
 have hst:St B w0 12 [(0,_),(8,_),(10,_)] [⟨0,59,ptrH,_⟩,⟨3,26,ptrH,_⟩] a w:=hst
 rw [show List.range' 3 1=[3] from rfl]
 rw [wpOps_cons]
 refine op_ckS (A1:=BkE (addL L (kf x m1 m2))) (xs:=[.tmp 10]) [0] [2] 0 rfl hst (keepI_c x.den m2 (addL L [(m1,x.num.mag)]) hs2 (by rw [addL_len]; simp; omega)) rfl (Eq.trans (b:=ptr g) (hst.vals _ (zm 1 rfl)) (Eq.symm (hst.vals _ (zm 0 rfl)))) (.cons ⟨_,rfl,rfl⟩ .nil) rfl hrm zd zk zk zk zk (fun a w hst=>?_)
 refine wpOps_nS ?_
 have hst:St B w0 12 [(11,_),(0,_)] [⟨0,59,ptrH,BkE (addL L (kf x m1 m2))⟩,⟨3,26,ptrH,_⟩] a w:=hst
 refine nrm_ret ?_
 refine ret_m hst (zm 1 rfl) (zm 0 rfl) ?_
 exact ret_many (rs:=[]) rfl hst .nil zd
end Go.Proofs.YthncfchnkjemiaaGreatDoor
namespace Go.Proofs.YthncfchnkjemiaaGreatDoor
open Go Go.RowKit
theorem blk_own {m:Value} {xs:List Nat} {B:Nat} {w:World} (h:(MgN xs).p B [m] w):blk m=m.ownBlock:=by
 rcases h.2 with ⟨_,e⟩ | ⟨g,ext,e,_⟩
 ·injection e with e
  subst e
  rfl
 ·injection e with e
  subst e
  rfl
theorem int_split {x:RI} {B:Nat} {cs:List Value} {w:World} (h:(RIN x).p B cs w):∃ m,(IntP x m).p B cs w∧cbl cs=kbl [(m,x.mag)]:=by
 obtain ⟨ps,rfl,hp⟩:=h
 cases hp with
 | @cons _ c1 _ _ h1 hp=>cases hp with
  | @cons _ c2 _ _ h2 hp =>
   cases hp
   have h1':c1=[.bool x.neg]:=h1
   subst h1'
   have l2:=(MgN x.mag).len _ _ _ h2
   match c2,l2 with
   | [m],_ =>
    refine ⟨m,⟨[[.bool x.neg],[m]],rfl,.cons rfl (.cons ⟨h2,rfl⟩ .nil)⟩,?_⟩
    have e:=blk_own h2
    show List.filterMap blk [.bool x.neg,m]=List.filterMap (fun p=>p.1.ownBlock) [(m,x.mag)]
    have:List.filterMap blk [.bool x.neg,m]=List.filterMap blk [m]:=rfl
    rw [this]
    simp [List.filterMap_cons,e]
def PinD (t:Value) (r:RF × RF × Int) (us:List Value):VA where
 p B x w:=(x=t∧(TwD r).p B x w)∧SepAll us (prj 0 t)∧SepAll us (prj 1 t)
 deps:=(TwD r).deps
 cg:=fun B x w w' hg ⟨⟨h1,h2⟩,h3⟩=>⟨⟨h1,(TwD r).cg _ _ _ _ hg h2⟩,h3⟩
 wr:=fun B x w w' g c T fz h1 h2 h3 h4 ⟨⟨h5,h6⟩,h7⟩=>⟨⟨h5,(TwD r).wr _ _ _ _ _ _ _ _ h1 h2 h3 h4 h6⟩,h7⟩
section
open Rg
variable {P:Program} {Q:Exit→Act→World→Prop} {B N:Nat} {w0:Bs} {Γ:List (Nat × VA)} {ops:Array Oper} {les:List LeF} {sp:List ((Nat→Value)→Sp)} {anc:Nat→List Nat} {i:Nat}
theorem of_callD {d f:Nat} {r:RF × RF × Int} {us:(Nat→Value)→List Value} {pre pre':List VA} {xs:List Operand} {at_:Array TypeId} {T:TypeId} {ps:String} {af:Array Edge}
  (hs:sp[i]?=some (fun ν=>.val d (PinD (ν i) r (us ν)))) (ho:ops[i]?=some ⟨some d,.call ⟨.value (.func f),xs.toArray,at_⟩,T,ps,af,none⟩)
  (hc:Cn P f pre' (TwD r)) (hup:All2 Up pre pre') (hx:∀ ν,HasL (fam ops N Γ les sp anc ν) B w0 i xs pre) (hus:∀ ν v,us (nuSet ν i v)=us ν) (hl:∀ ν,LiveR (fam ops N Γ les sp anc ν) B w0 i (us ν)):ObF P Q ops N Γ les sp anc B w0 i:=by
 refine .inr ⟨d,_,hs,fun ν a w av K hK=>?_⟩
 obtain ⟨⟨fn,hf,hn,hb⟩,hcall⟩:=hc
 have hrun:(execOp a.eval ⟨some d,.call ⟨.value (.func f),xs.toArray,at_⟩,T,ps,af,none⟩).run P w=.ok (.enter f (xs.map a.eval).toArray) w:=by
  simp only [execOp,resolve,Act.eval,Deferred.ofValue,Sem.run_bind,Sem.run_pure,Result.andThen_ok,invoke,run_callFunc hf hn hb]
  simp
 have hbw:=Av.bw av
 have hargs:All2 (fun (A:VA) v=>A.p w.heap.size v w) pre' (xs.map a.eval):=by
  have h1:=(hx ν).all av
  clear hcall hrun hx hs ho
  generalize xs.map a.eval=vs at h1
  induction hup generalizing vs with
  | nil=>cases h1; exact .nil
  | cons hu _ ih =>
   cases h1 with
   | cons h2 h3=>exact .cons (hu _ _ _ hbw h2) (ih _ h3)
 refine wpOp_of (R:=fam ops N Γ les sp anc ν) ho rfl ?_
 unfold Oper.wp
 rw [hrun]
 refine (hcall w.heap.size w _ (Nat.le_refl _) hargs).mono ?_
 rintro e w' ⟨v,he,⟨v1,v2,e1,hv,p1,p2,p3,p4⟩,hg⟩
 subst he
 have far:∀ {x:RF} {v:Value},(RFD x).va.p w.heap.size v w'→SepAll (us ν) v:=fun {x v} ⟨cs,hp,hsh⟩ u hu g hgu hgv=>by
  have q1:=hl ν a w av u hu g hgu
  rw [hsh,vbl_of hp] at hgv
  have q2:=(new_rfd _ _ _ hp g hgv).1
  omega
 have low:∀ {x:RF} {v:Value},(RFD x).va.p w.heap.size v w'→(RFD x).va.p B v w':=fun {x v} h=>free_rfd.va _ _ _ _ hbw h
 refine hK v w' hg ⟨⟨by rw [nu_same],v1,v2,e1,hv,low p1,low p2,p3,p4⟩,?_,?_⟩
 ·rw [hus,nu_same,hv]
  exact far p1
 ·rw [hus,nu_same,hv]
  exact far p2
theorem of_prjD0 {d t:Nat} {r:RF × RF × Int} {tv:(Nat→Value)→Value} {us:(Nat→Value)→List Value} {T:TypeId} {ps:String} {af:Array Edge} (hs:sp[i]?=some (fun ν=>.val d (PinA (ν i) ((RFD r.1).and (ν i=prj 0 (tv ν)∧Apr (tv ν)∧SepAll (us ν) (ν i)))).va)) (ho:ops[i]?=some ⟨some d,.extract (.tmp t) 0,T,ps,af,none⟩)
  (hx:∀ ν,Has (fam ops N Γ les sp anc ν) B w0 i (.tmp t) (PinD (tv ν) r (us ν))) (ht:∀ ν v,tv (nuSet ν i v)=tv ν) (hus:∀ ν v,us (nuSet ν i v)=us ν):ObF P Q ops N Γ les sp anc B w0 i:=by
 refine .inr ⟨d,_,hs,fun ν a w av K hK=>?_⟩
 obtain ⟨⟨e1,v1,v2,e,e2,p1,p2,p3,p4⟩,s1,s2⟩:=hx ν a w av
 obtain ⟨cs,hp,hsh⟩:=p1
 have et:tv ν=.tuple #[v1,v2,e]:=e1.symm.trans e2
 refine wpOp_of (R:=fam ops N Γ les sp anc ν) ho rfl (wp_value (w':=w) (v:=v1) (prj_run (vs:=[v1,v2,e]) e2 rfl) (hK v1 w (Grow.refl w) ⟨cs,⟨⟨?_,hp⟩,?_⟩,hsh⟩))
 ·rw [ht,hus,nu_same]
  rw [et] at s1 ⊢
  exact ⟨rfl,p4,s1⟩
 ·rw [nu_same]; exact hsh.symm
theorem of_prjD1 {d t:Nat} {r:RF × RF × Int} {tv:(Nat→Value)→Value} {us:(Nat→Value)→List Value} {T:TypeId} {ps:String} {af:Array Edge} (hs:sp[i]?=some (fun ν=>.val d (PinA (ν i) ((RFD r.2.1).and (ν i=prj 1 (tv ν)∧Apr (tv ν)∧SepAll (us ν) (ν i)))).va)) (ho:ops[i]?=some ⟨some d,.extract (.tmp t) 1,T,ps,af,none⟩)
  (hx:∀ ν,Has (fam ops N Γ les sp anc ν) B w0 i (.tmp t) (PinD (tv ν) r (us ν))) (ht:∀ ν v,tv (nuSet ν i v)=tv ν) (hus:∀ ν v,us (nuSet ν i v)=us ν):ObF P Q ops N Γ les sp anc B w0 i:=by
 refine .inr ⟨d,_,hs,fun ν a w av K hK=>?_⟩
 obtain ⟨⟨e1,v1,v2,e,e2,p1,p2,p3,p4⟩,s1,s2⟩:=hx ν a w av
 obtain ⟨cs,hp,hsh⟩:=p2
 have et:tv ν=.tuple #[v1,v2,e]:=e1.symm.trans e2
 refine wpOp_of (R:=fam ops N Γ les sp anc ν) ho rfl (wp_value (w':=w) (v:=v2) (prj_run (vs:=[v1,v2,e]) e2 rfl) (hK v2 w (Grow.refl w) ⟨cs,⟨⟨?_,hp⟩,?_⟩,hsh⟩))
 ·rw [ht,hus,nu_same]
  rw [et] at s2 ⊢
  exact ⟨rfl,p4,s2⟩
 ·rw [nu_same]; exact hsh.symm
theorem r_prjD2 {R:Rg} {t:Nat} {r:RF × RF × Int} {v:Value} {us:List Value} (hx:Has R B w0 i (.tmp t) (PinD v r us)):Wv P Q R B w0 i (.extract (.tmp t) 2) (In r.2.2):=by
 intro d T ps af gd a w av K hK
 obtain ⟨⟨e1,v1,v2,e,e2,p1,p2,p3,p4⟩,_⟩:=hx a w av
 have e3:a.eval (.tmp t)=.tuple #[v1,v2,e]:=e2
 exact wp_value (w':=w) (v:=e) (by simp [execOp,e3,Instr.extract]) (hK e w (Grow.refl w) p3)
end
end Go.Proofs.YthncfchnkjemiaaGreatDoor
namespace Go.Proofs.YthncfchnkjemiaaGreatDoor
open Go Go.RowKit
section
open Rg
variable {P:Program} {Q:Exit→Act→World→Prop} {B N:Nat} {w0:Bs} {Γ:List (Nat × VA)} {Λ:List Lc} {a:Act} {w:World}
def les0 (Λ:List Lc):List Le:=Λ.map fun l=>⟨l.s,l.T,l.H,none,l.A,none⟩
theorem les0_last:(les0 Λ).map (fun e=>(⟨e.s,e.T,e.H,Rg.last e⟩:Lc))=Λ:=by
 unfold les0
 rw [List.map_map]
 have:(fun e:Le=>(⟨e.s,e.T,e.H,Rg.last e⟩:Lc))∘(fun l:Lc=>(⟨l.s,l.T,l.H,none,l.A,none⟩:Le))=id:=by
  funext l
  rfl
 rw [this,List.map_id]
theorem go_rest {ops:Array Oper} {sp:List Sp} {d0:Nat} {A0:VA} (src:List Src) (h:St B w0 N ((d0,A0)::Γ) Λ a w) (h0:sp[0]?=some (.val d0 A0)) (hsz:0<ops.size)
  (hob:Obs P Q ⟨ops,N,Γ,les0 Λ,sp,fun i=>List.range i⟩ B w0 1 (ops.size - 1)) (hk:Rg.chk ⟨ops,N,Γ,les0 Λ,sp,fun i=>List.range i⟩=true) (hsrc:src.all (okS ⟨ops,N,Γ,les0 Λ,sp,fun i=>List.range i⟩)=true)
  (hQ:∀ a w,St B w0 N (src.filterMap (takeS ⟨ops,N,Γ,les0 Λ,sp,fun i=>List.range i⟩)) Λ a w→Q .normal a w):wpOps P ops Q (List.range' 1 (ops.size - 1)) a w:=by
 have hmem:∀ e∈les0 Λ,e.cr=none∧e.st=none∧(⟨e.s,e.T,e.H,e.A0⟩:Lc)∈Λ:=fun e he=>by
  obtain ⟨l,hl,rfl⟩:=List.mem_map.1 he
  exact ⟨rfl,rfl,hl⟩
 have hcur:∀ e∈les0 Λ,∀ L:Nat→Bool,Rg.cur L e=some e.A0:=fun e he L=>by
  obtain ⟨h1,h2,_⟩:=hmem e he
  unfold Rg.cur
  rw [h1,h2]
  rfl
 have hi0:Rg.Inv ⟨ops,N,Γ,les0 Λ,sp,fun i=>List.range i⟩ B w0 (fun j=>decide (j<1)) a w:=by
  refine ⟨h.lo,h.defers,h.size,h.base,fun x hx _ _=>h.vals x (List.mem_cons_of_mem _ hx),fun i y d A hs hv hL _=>?_,fun i d b k c hs hL _=>?_,fun e he A hA=>?_,fun e he f hf hne _ _=>?_⟩
  ·have hL':i<1:=of_decide_eq_true hL
   have:i=0:=by omega
   subst this
   have hs':sp[0]?=some y:=hs
   rw [h0] at hs'
   injection hs' with hs'
   subst hs'
   simp only [Sp.vl,Option.some.injEq,Prod.mk.injEq] at hv
   obtain ⟨rfl,rfl⟩:=hv
   exact h.vals (d0,A0) (List.mem_cons_self ..)
  ·have hL':i<1:=of_decide_eq_true hL
   have:i=0:=by omega
   subst this
   have hs':sp[0]?=some (.adr d b k c):=hs
   rw [h0] at hs'
   cases hs'
  ·rw [hcur e he] at hA
   injection hA with hA
   subst hA
   exact h.locs _ (hmem e he).2.2
  ·exact h.dis _ (hmem e he).2.2 _ (hmem f hf).2.2 hne
 have key:∀ m k,1≤k→k+m=ops.size→∀ a w,Rg.Inv ⟨ops,N,Γ,les0 Λ,sp,fun i=>List.range i⟩ B w0 (fun j=>decide (j<k)) a w→wpOps P ops Q (List.range' k m) a w:=by
  intro m
  induction m with
  | zero =>
   intro k hk1 hkm a w hi
   have:k=ops.size:=by omega
   subst this
   have:=fin_out hk ⟨hi⟩ src hsrc
   rw [show (Rg.mk ops N Γ (les0 Λ) sp (fun i=>List.range i)).les=les0 Λ from rfl,les0_last] at this
   exact hQ a w this
  | succ m ih =>
   intro k hk1 hkm a w hi
   rw [List.range'_succ,wpOps_cons]
   refine Rg.step hk (hob.all k zo zo) hi ?_ (by simp) ?_ _ fun a' w' hi'=>ih (k+1) zo zo a' w' (hi'.congr fun j=>?_)
   ·intro i hi j hj
    have hj:(List.range i).contains j=true:=hj
    simp at hi hj ⊢
    omega
   ·intro j hj
    have hj:(List.range k).contains j=true:=hj
    simpa using hj
   ·unfold upd
    by_cases h1:j=k
    ·subst h1; simp
    ·have h2:(j == k)=false:=by simpa using h1
     rw [h2,Bool.false_or,decide_eq_decide]
     omega
 exact key (ops.size - 1) 1 (Nat.le_refl _) zo a w hi0
end
theorem bke_nil {B:Nat} {w:World}:(BkE []).p B ([Value.int .i64 0]++List.replicate 16 (Value.slice none 0 0)) w :=
 ⟨.slice none 0 0,[Value.int .i64 0]::List.replicate 16 [Value.slice none 0 0],rfl,.cons rfl (.cons ⟨rfl,World.ownsRow_nil ..,(fun s hs=>by cases hs),fun i j s t h=>by cases h⟩ (.cons ⟨rfl,rfl⟩ (.cons ⟨rfl,rfl⟩ (.cons ⟨rfl,rfl⟩ (.cons ⟨rfl,rfl⟩ (.cons ⟨rfl,rfl⟩ (.cons ⟨rfl,rfl⟩ (.cons ⟨rfl,rfl⟩ (.cons ⟨rfl,rfl⟩ (.cons ⟨rfl,rfl⟩ (.cons ⟨rfl,rfl⟩ (.cons ⟨rfl,rfl⟩ (.cons ⟨rfl,rfl⟩ (.cons ⟨rfl,rfl⟩ (.cons ⟨rfl,rfl⟩ (.cons ⟨rfl,rfl⟩ .nil))))))))))))))))⟩
theorem zero_book:Zero Tryz.prog 59 (BkE []):=Zero.of (z:=.agg ([Value.int .i64 0]++List.replicate 16 (Value.slice none 0 0)).toArray) zk fun B w=>bke_nil
end Go.Proofs.YthncfchnkjemiaaGreatDoor
