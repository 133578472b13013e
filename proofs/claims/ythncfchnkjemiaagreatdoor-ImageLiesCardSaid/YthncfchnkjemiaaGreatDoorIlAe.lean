import Derived.Test.YthncfchnkjemiaaGreatDoorIlAa
import Derived.Test.YthncfchnkjemiaaGreatDoorIlAc
import Derived.Test.YthncfchnkjemiaaGreatDoorIlAd
set_option linter.unusedVariables false
set_option linter.unusedSimpArgs false
set_option linter.unusedSectionVars false
set_option maxRecDepth 100000
namespace Go.Proofs.YthncfchnkjemiaaGreatDoor
open Go Go.RowKit
theorem tu2 {a b c d:VA} (h:a=c) (h':b=d):Tu [a,b]=Tu [c,d]:=by rw [h,h']
theorem nu {k:IntKind} {m n:Int} (h:m=n):(NumA k m).va=(NumA k n).va:=by rw [h]
theorem add32_e1 {x y c:Nat} (hx:x<4294967296) (hy:y<4294967296) (hc:c<4294967296):IntKind.u64.wrap (IntKind.u64.wrap (IntKind.u64.wrap (x:Int)+IntKind.u64.wrap (y:Int))+IntKind.u64.wrap (c:Int))=((x+y+c:Nat):Int):=by
 rw [wu64 zo,wu64 zo,wadd64 zo,wu64 zo,wadd64 zo]
theorem div32_e {h l d:Nat} (hh:h<d) (hl:l<4294967296) (hd:d<4294967296):bits .or .u64 (IntKind.u64.wrap (IntKind.u64.wrap (h:Int)*2 ^ ((32:Int).toNat))) (IntKind.u64.wrap (l:Int))=((h*4294967296+l:Nat):Int):=by
 rw [wu64 (x:=h) zo,wu64 (x:=l) zo,wshl32 zo,or64 zo hl]
theorem div32_q {h l d:Nat} (hh:h<d) (hl:l<4294967296):(h*4294967296+l) / d<4294967296:=by
 apply Nat.div_lt_of_lt_mul
 have:(h+1)*4294967296≤d*4294967296:=Nat.mul_le_mul_right _ hh
 omega
theorem add32_c {x y c:Nat} (hx:x<4294967296) (hy:y<4294967296) (hc:c<4294967296):Cn Tryz.prog 365 [(NumA .u32 (x:Nat)).va,(NumA .u32 (y:Nat)).va,(NumA .u32 (c:Nat)).va] (Tu [(NumA .u32 ((x+y+c) % 4294967296:Nat)).va,(NumA .u32 ((x+y+c) / 4294967296:Nat)).va]):=by
 refine Cn.intro Tryz.func365 rfl zk nq (fun B w0 a hst=>?_)
 have hst:St B w0 22 [(0,(NumA .u32 (x:Nat)).va),(1,(NumA .u32 (y:Nat)).va),(2,(NumA .u32 (c:Nat)).va)] [] a w0.w:=hst
 refine wp_seq ?_
 refine gl (sts:=[]) (news:=[]) (sp:=[.val 6 _,.val 7 _]) [.g 0,.g 1,.g 2,.o 0,.o 1] hst (zv rfl rfl (r_assign has_num) (zv rfl rfl (r_assign has_num) o0)) (fun a w hst=>?_)
 have hst:St B w0 22 [(0,_),(1,_),(2,_),(6,_),(7,_)] [] a w:=hst
 refine zt ?_
 refine gl (sts:=[]) (news:=[]) (sp:=[.val 9 _,.val 10 _,.val 11 _,.val 12 _,.val 13 _,.val 14 _,.val 15 _,.val 16 _,.val 8 _]) [.g 3,.g 4,.o 8] hst (zv rfl rfl (r_move (gq 0 rfl)) (zv rfl rfl (r_convk .u64 zk zk (vq 0 rfl) (rfl)) (zv rfl rfl (r_move (gq 1 rfl)) (zv rfl rfl (r_convk .u64 zk zk (vq 2 rfl) (rfl)) (zv rfl rfl (r_add (vq 1 rfl) (vq 3 rfl) (rfl)) (zv rfl rfl (r_move (gq 2 rfl)) (zv rfl rfl (r_convk .u64 zk zk (vq 5 rfl) (rfl)) (zv rfl rfl (r_add (vq 4 rfl) (vq 6 rfl) (rfl)) (zv rfl rfl (r_assign (vq 7 rfl)) o0))))))))) (fun a w hst=>?_)
 have hst:St B w0 22 [(6,_),(7,_),(8,_)] [] a w:=hst
 refine zt ?_
 refine gl (sts:=[]) (news:=[]) (sp:=[.val 17 _,.val 18 _,.val 6 _]) [.g 1,.g 2,.o 2] hst (zv rfl rfl (r_move (gq 2 rfl)) (zv rfl rfl (r_convk .u32 zk zk (vq 0 rfl) (rfl)) (zv rfl rfl (r_assign (vq 1 rfl)) o0))) (fun a w hst=>?_)
 have hst:St B w0 22 [(7,_),(8,_),(6,_)] [] a w:=hst
 refine zt ?_
 refine gl (sts:=[]) (news:=[]) (sp:=[.val 19 _,.val 20 _,.val 21 _,.val 7 _]) [.g 2,.o 3] hst (zv rfl rfl (r_move (gq 1 rfl)) (zv rfl rfl (r_shr (vq 0 rfl) has_num zd (rfl)) (zv rfl rfl (r_convk .u32 zk zk (vq 1 rfl) (rfl)) (zv rfl rfl (r_assign (vq 2 rfl)) o0)))) (fun a w hst=>?_)
 have hst:St B w0 22 [(6,_),(7,_)] [] a w:=hst
 refine thn_normal ?_
 refine wp_ret ?_
 refine ret_cast ?_ (ret_many (rs:=[.tmp 6,.tmp 7]) rfl hst (.tmp (zm 0 rfl) (.tmp (zm 1 rfl) .nil)) zd)
 exact tu2 (nu (by rw [add32_e1 hx hy hc,wu32'])) (nu (by rw [add32_e1 hx hy hc]; exact (congrArg _ nshr).trans (wu32 (by show (x+y+c) / 4294967296<_; omega))))
theorem sub32_c {x y c:Nat} (hx:x<4294967296) (hy:y<4294967296) (hc:c<2):Cn Tryz.prog 366 [(NumA .u32 (x:Nat)).va,(NumA .u32 (y:Nat)).va,(NumA .u32 (c:Nat)).va] (Tu [(NumA .u32 ((x+8589934592 - y - c) % 4294967296:Nat)).va,(NumA .u32 (if x<y+c then 1 else 0:Nat)).va]):=by
 refine Cn.intro Tryz.func366 rfl zk nq (fun B w0 a hst=>?_)
 have hst:St B w0 25 [(0,(NumA .u32 (x:Nat)).va),(1,(NumA .u32 (y:Nat)).va),(2,(NumA .u32 (c:Nat)).va)] [] a w0.w:=hst
 refine wp_seq ?_
 refine gl (sts:=[]) (news:=[]) (sp:=[.val 6 _,.val 7 _]) [.g 0,.g 1,.g 2,.o 0,.o 1] hst (zv rfl rfl (r_assign has_num) (zv rfl rfl (r_assign has_num) o0)) (fun a w hst=>?_)
 have hst:St B w0 25 [(0,_),(1,_),(2,_),(6,_),(7,_)] [] a w:=hst
 refine zt ?_
 refine gl (sts:=[]) (news:=[]) (sp:=[.val 8 _,.val 9 _,.val 10 _,.val 11 _,.val 12 _,.val 6 _]) [.g 0,.g 1,.g 4,.o 5] hst (zv rfl rfl (r_move (gq 0 rfl)) (zv rfl rfl (r_move (gq 1 rfl)) (zv rfl rfl (r_sub (vq 0 rfl) (vq 1 rfl) (rfl)) (zv rfl rfl (r_move (gq 2 rfl)) (zv rfl rfl (r_sub (vq 2 rfl) (vq 3 rfl) (rfl)) (zv rfl rfl (r_assign (vq 4 rfl)) o0)))))) (fun a w hst=>?_)
 have hst:St B w0 25 [(0,_),(1,_),(7,_),(6,_)] [] a w:=hst
 refine zt ?_
 refine gl (sts:=[]) (news:=[]) (sp:=[.val 13 _,.val 14 _,.val 15 _,.val 16 _,.val 17 _,.val 18 _,.val 19 _,.val 20 _,.val 21 _,.val 22 _,.val 23 _,.val 24 _,.val 7 _]) [.g 3,.o 12] hst (zv rfl rfl (r_move (gq 0 rfl)) (zv rfl rfl (r_bnot (vq 0 rfl) (rfl)) (zv rfl rfl (r_move (gq 1 rfl)) (zv rfl rfl (r_band (vq 1 rfl) (vq 2 rfl) (rfl)) (zv rfl rfl (r_move (gq 0 rfl)) (zv rfl rfl (r_move (gq 1 rfl)) (zv rfl rfl (r_bxor (vq 4 rfl) (vq 5 rfl) (rfl)) (zv rfl rfl (r_bnot (vq 6 rfl) (rfl)) (zv rfl rfl (r_move (gq 3 rfl)) (zv rfl rfl (r_band (vq 7 rfl) (vq 8 rfl) (rfl)) (zv rfl rfl (r_bor (vq 3 rfl) (vq 9 rfl) (rfl)) (zv rfl rfl (r_shr (vq 10 rfl) has_num zd (rfl)) (zv rfl rfl (r_assign (vq 11 rfl)) o0))))))))))))) (fun a w hst=>?_)
 have hst:St B w0 25 [(6,_),(7,_)] [] a w:=hst
 refine thn_normal ?_
 refine wp_ret ?_
 refine ret_cast ?_ (ret_many (rs:=[.tmp 6,.tmp 7]) rfl hst (.tmp (zm 0 rfl) (.tmp (zm 1 rfl) .nil)) zd)
 exact tu2 (nu (sub32_d hx hy hc)) (nu (sub32_e2 hx hy hc))
theorem div32_c {h l d:Nat} (hh:h<d) (hl:l<4294967296) (hd:d<4294967296):Cn Tryz.prog 373 [(NumA .u32 (h:Nat)).va,(NumA .u32 (l:Nat)).va,(NumA .u32 (d:Nat)).va] (Tu [(NumA .u32 ((h*4294967296+l) / d:Nat)).va,(NumA .u32 ((h*4294967296+l) % d:Nat)).va]):=by
 refine Cn.intro Tryz.func373 rfl zk nq (fun B w0 a hst=>?_)
 have hst:St B w0 33 [(0,(NumA .u32 (h:Nat)).va),(1,(NumA .u32 (l:Nat)).va),(2,(NumA .u32 (d:Nat)).va)] [] a w0.w:=hst
 refine wp_seq ?_
 refine gl (sts:=[]) (news:=[]) (sp:=[.val 6 _,.val 7 _]) [.g 0,.g 1,.g 2,.o 0,.o 1] hst (zv rfl rfl (r_assign has_num) (zv rfl rfl (r_assign has_num) o0)) (fun a w hst=>?_)
 have hst:St B w0 33 [(0,_),(1,_),(2,_),(6,_),(7,_)] [] a w:=hst
 refine zt ?_
 refine wp_seq ?_
 refine gl (sts:=[]) (news:=[]) (sp:=[.val 9 _,.val 10 _,.val 11 _,.val 12 (Wh (_=true) _),.val 13 (Wh (_=true) _),.val 14 (Wh (_=true) _),.val 15 _]) [.g 0,.g 1,.g 2,.g 3,.g 4,.o 6] hst (zv rfl rfl (r_move (gq 2 rfl)) (zv rfl rfl (r_neq (vq 0 rfl) has_num) (zv rfl rfl (r_move (vq 1 rfl)) (oc (ob_gd rfl rfl rfl (vq 2 rfl) nq (fun hg=>r_move (gq 2 rfl))) (oc (ob_gd rfl rfl rfl (vq 2 rfl) nq (fun hg=>r_move (gq 0 rfl))) (oc (ob_gd rfl rfl rfl (vq 2 rfl) nq (fun hg=>r_leq (has_wh (vq 3 rfl) hg) (has_wh (vq 4 rfl) hg))) (zv rfl rfl (r_and (vq 2 rfl) (vq 5 rfl)) o0))))))) (fun a w hst=>?_)
 have hst:St B w0 33 [(0,_),(1,_),(2,_),(6,_),(7,_),(15,_)] [] a w:=hst
 refine thn_normal ?_
 refine cond_of hst (zm 5 rfl) (fun hb0=>?_) (fun hb0=>?_)
 ·exact absurd hb0 (by simp; omega)
 ·refine wp_skip ?_
  refine zt ?_
  refine gl (sts:=[]) (news:=[]) (sp:=[.val 17 _,.val 18 _,.val 19 _,.val 20 _,.val 21 _,.val 22 _,.val 8 _]) [.g 2,.g 3,.g 4,.o 6] hst (zv rfl rfl (r_move (gq 0 rfl)) (zv rfl rfl (r_convk .u64 zk zk (vq 0 rfl) (rfl)) (zv rfl rfl (r_shl (vq 1 rfl) has_num zd (rfl)) (zv rfl rfl (r_move (gq 1 rfl)) (zv rfl rfl (r_convk .u64 zk zk (vq 3 rfl) (rfl)) (zv rfl rfl (r_bor (vq 2 rfl) (vq 4 rfl) (rfl)) (zv rfl rfl (r_assign (vq 5 rfl)) o0))))))) (fun a w hst=>?_)
  have hst:St B w0 33 [(2,_),(6,_),(7,_),(8,_)] [] a w:=hst
  refine zt ?_
  refine go_draw (anc:=[[],[],[1],[0,1,2],[0,1,2,3],[],[],[6],[5,6,7],[5,6,7,8],[0,1,2,3,4],[0,1,2,3,4,5,6,7,8,9,10]]) (sts:=[]) (news:=[]) (sp:=[.val 23 _,.val 24 _,.val 25 _,.val 26 _,.val 27 _,.val 28 _,.val 29 _,.val 30 _,.val 31 _,.val 32 _,.val 6 _,.val 7 _]) [.o 10,.o 11] follows_mixed hst (zv rfl rfl (r_move (gq 3 rfl)) (zv rfl rfl (r_move (gq 0 rfl)) (zv rfl rfl (r_convk .u64 zk zk (vq 1 rfl) (rfl)) (zv rfl rfl (r_quo (vq 0 rfl) (vq 2 rfl) (by rw [wu64 zo]; omega) (rfl)) (zv rfl rfl (r_convk .u32 zk zk (vq 3 rfl) (rfl)) (zv rfl rfl (r_move (gq 3 rfl)) (zv rfl rfl (r_move (gq 0 rfl)) (zv rfl rfl (r_convk .u64 zk zk (vq 6 rfl) (rfl)) (zv rfl rfl (r_rem (vq 5 rfl) (vq 7 rfl) (by rw [wu64 zo]; omega) (rfl)) (zv rfl rfl (r_convk .u32 zk zk (vq 8 rfl) (rfl)) (zv rfl rfl (r_assign (vq 4 rfl)) (zv rfl rfl (r_assign (vq 9 rfl)) o0)))))))))))) zk zk zk zk (fun a w hst=>?_)
  have hst:St B w0 33 [(6,_),(7,_)] [] a w:=hst
  refine thn_normal ?_
  refine wp_ret ?_
  refine ret_cast ?_ (ret_many (rs:=[.tmp 6,.tmp 7]) rfl hst (.tmp (zm 0 rfl) (.tmp (zm 1 rfl) .nil)) zd)
  exact tu2 (nu (by rw [div32_e hh hl hd,wu64 (x:=d) zo]; exact (congrArg _ (nquo (by have:=div32_q hh hl; omega))).trans (wu32 (div32_q hh hl)))) (nu (by rw [div32_e hh hl hd,wu64 (x:=d) zo]; exact (congrArg _ nrem).trans (wu32 (by have:=Nat.mod_lt (h*4294967296+l) (show 0<d by omega); omega))))
end Go.Proofs.YthncfchnkjemiaaGreatDoor
namespace Go.Proofs.YthncfchnkjemiaaGreatDoor
open Go Go.RowKit
theorem size_e0 {l m:List Nat} (ha:l.length≤9223372036854775807) (hb:m.length≤9223372036854775807) (h:((l.length:Int) != (m.length:Int))=true):IntKind.i64.wrap ((l.length:Int) - (m.length:Int))=sizeL l m:=by
 have h':l.length≠m.length:=by simp at h; omega
 unfold sizeL
 rw [if_pos h',wi64 zo zo]
theorem size_e1 {l m:List Nat} {j:Nat} (ha:okL l) (hl:l.length=m.length) (hj:j<l.length) (hd:l.drop (j+1)=m.drop (j+1)) (h:decide (((l[j]:Nat):Int)<((m[j]'zo:Nat):Int))=true):(-1:Int)=sizeL l m:=by
 have:=top_lt (a:=l) (b:=m) ha hj zo hd (by simpa using h)
 unfold sizeL
 rw [if_neg zo,if_pos this]
theorem size_e2 {l m:List Nat} {j:Nat} (hb:okL m) (hl:l.length=m.length) (hj:j<l.length) (hd:l.drop (j+1)=m.drop (j+1)) (hne:(((l[j]:Nat):Int) != ((m[j]'zo:Nat):Int))=true) (h:decide (((l[j]:Nat):Int)<((m[j]'zo:Nat):Int))=false):(1:Int)=sizeL l m:=by
 have:=top_lt (a:=m) (b:=l) hb zo hj hd.symm (by simp at h hne; omega)
 unfold sizeL
 rw [if_neg zo,if_neg zo,if_pos this]
theorem size_e3 {l m:List Nat} (hd:l.drop 0=m.drop 0):(0:Int)=sizeL l m:=by
 have:l=m:=by simpa using hd
 subst this
 simp [sizeL]
theorem size_c (l m:List Nat):Cn Tryz.prog 338 [(MgA l).va,(MgA m).va] (In (sizeL l m)):=by
 refine Cn.intro Tryz.func338 rfl zk nq (fun B w0 a hst=>?_)
 have hst:St B w0 41 [(0,(MgA l).va),(1,(MgA m).va)] [] a w0.w:=hst
 obtain ⟨ha,hla⟩:=hst.mag 0 rfl; obtain ⟨hb,hlb⟩:=hst.mag 1 rfl
 refine wp_seq ?_
 refine gl (sts:=[]) (news:=[]) (sp:=[.val 4 _]) [.g 0,.g 1,.o 0] hst (zv rfl rfl (r_assign has_num) o0) (fun a w hst=>?_)
 have hst:St B w0 41 [(0,_),(1,_),(4,_)] [] a w:=hst
 refine zt ?_
 refine wp_seq ?_
 refine gl (sts:=[]) (news:=[]) (sp:=[.val 6 _,.val 7 _,.val 8 _,.val 9 _,.val 10 _]) [.g 0,.g 1,.g 2,.o 4] hst (zv rfl rfl (r_move (gq 0 rfl)) (zv rfl rfl (r_lenm Tryz.underlying22 (vq 0 rfl)) (zv rfl rfl (r_move (gq 1 rfl)) (zv rfl rfl (r_lenm Tryz.underlying22 (vq 2 rfl)) (zv rfl rfl (r_neq (vq 1 rfl) (vq 3 rfl)) o0))))) (fun a w hst=>?_)
 have hst:St B w0 41 [(0,_),(1,_),(4,_),(10,_)] [] a w:=hst
 refine thn_normal ?_
 refine cond_of hst (zm 3 rfl) (fun hb0=>?_) (fun hb0=>?_)
 ·refine wp_seq ?_
  refine gl (sts:=[]) (news:=[]) (sp:=[.val 11 _,.val 12 _,.val 13 _,.val 14 _,.val 15 _,.val 4 _]) [.g 0,.g 1,.o 5] hst (zv rfl rfl (r_move (gq 0 rfl)) (zv rfl rfl (r_lenm Tryz.underlying22 (vq 0 rfl)) (zv rfl rfl (r_move (gq 1 rfl)) (zv rfl rfl (r_lenm Tryz.underlying22 (vq 2 rfl)) (zv rfl rfl (r_sub (vq 1 rfl) (vq 3 rfl) (rfl)) (zv rfl rfl (r_assign (vq 4 rfl)) o0)))))) (fun a w hst=>?_)
  have hst:St B w0 41 [(0,_),(1,_),(4,_)] [] a w:=hst
  refine thn_normal ?_
  refine wp_ret ?_
  refine thn_ret ?_
  refine ret_cast ?_ (ret_tmp rfl hst (zm 2 rfl))
  exact nu (size_e0 hla hlb hb0)
 ·have hl:l.length=m.length:=by simp at hb0; omega
  refine wp_skip ?_
  refine zt ?_
  refine wp_seq ?_
  refine gl (sts:=[]) (news:=[]) (sp:=[.val 16 _,.val 17 _,.val 18 _,.val 5 _]) [.g 0,.g 1,.g 2,.o 3] hst (zv rfl rfl (r_move (gq 0 rfl)) (zv rfl rfl (r_lenm Tryz.underlying22 (vq 0 rfl)) (zv rfl rfl (r_sub (vq 1 rfl) has_num (wi64 zo zo)) (zv rfl rfl (r_assign (vq 2 rfl)) o0)))) (fun a w hst=>?_)
  have hst:St B w0 41 [(0,_),(1,_),(4,_),(5,_)] [] a w:=hst
  refine thn_normal ?_
  refine wp_block ?_
  have hst:=St.sel hst [0,1,3]
  refine wp_loop_ghost (fun n a w=>n≤l.length∧l.drop n=m.drop n∧St B w0 41 [(0,(MgA l).va),(1,(MgA m).va),(5,In ((n:Int) - 1))] [] a w) (l.length) ?_ ?_
  ·exact ⟨Nat.le_refl _,by rw [List.drop_length,hl,List.drop_length],hst⟩
  intro n a w hI
  obtain ⟨hi,hd,hst⟩:=hI
  refine wp_seq ?_
  refine wp_seq ?_
  refine gl (sts:=[]) (news:=[]) (sp:=[.val 19 _,.val 20 _]) [.g 0,.g 1,.g 2,.o 1] hst (zv rfl rfl (r_move (gq 2 rfl)) (zv rfl rfl (r_geq (vq 0 rfl) has_num) o0)) (fun a w hst=>?_)
  have hst:St B w0 41 [(0,_),(1,_),(5,_),(20,_)] [] a w:=hst
  refine thn_normal ?_
  refine cond_of hst (zm 3 rfl) (fun hb1=>?_) (fun hb1=>?_)
  ·obtain ⟨j,rfl⟩:∃ j,n=j+1:=⟨n - 1,by simp at hb1; omega⟩; rw [show ((j+1:Nat):Int) - 1=(j:Int) from by omega] at hst
   refine wp_skip ?_
   refine zt ?_
   refine wp_block ?_
   refine wp_seq ?_
   refine go_draw (anc:=[[],[],[0,1],[0,1,2],[],[],[4,5],[4,5,6],[0,1,2,3,4,5,6,7]]) (sts:=[]) (news:=[]) (sp:=[.val 23 _,.val 24 _,.val 25 _,.val 26 _,.val 27 _,.val 28 _,.val 29 _,.val 30 _,.val 31 _]) [.g 0,.g 1,.g 2,.o 8] follows_mixed hst (zv rfl rfl (r_move (gq 0 rfl)) (zv rfl rfl (r_move (gq 2 rfl)) (zv rfl rfl (r_idxm sl_22 (vq 0 rfl) (vq 1 rfl) zo) (zv rfl rfl (r_loade (vq 2 rfl) ty_168) (zv rfl rfl (r_move (gq 1 rfl)) (zv rfl rfl (r_move (gq 2 rfl)) (zv rfl rfl (r_idxm sl_22 (vq 4 rfl) (vq 5 rfl) zo) (zv rfl rfl (r_loade (vq 6 rfl) ty_168) (zv rfl rfl (r_neq (vq 3 rfl) (vq 7 rfl)) o0))))))))) zk zk zk zk (fun a w hst=>?_)
   have hst:St B w0 41 [(0,_),(1,_),(5,_),(31,_)] [] a w:=hst
   refine thn_normal ?_
   refine cond_of hst (zm 3 rfl) (fun hb2=>?_) (fun hb2=>?_)
   ·refine wp_seq ?_
    refine wp_seq ?_
    refine go_draw (anc:=[[],[],[0,1],[0,1,2],[],[],[4,5],[4,5,6],[0,1,2,3,4,5,6,7]]) (sts:=[]) (news:=[]) (sp:=[.val 32 _,.val 33 _,.val 34 _,.val 35 _,.val 36 _,.val 37 _,.val 38 _,.val 39 _,.val 40 _]) [.g 0,.g 1,.g 2,.o 8] follows_mixed hst (zv rfl rfl (r_move (gq 0 rfl)) (zv rfl rfl (r_move (gq 2 rfl)) (zv rfl rfl (r_idxm sl_22 (vq 0 rfl) (vq 1 rfl) zo) (zv rfl rfl (r_loade (vq 2 rfl) ty_168) (zv rfl rfl (r_move (gq 1 rfl)) (zv rfl rfl (r_move (gq 2 rfl)) (zv rfl rfl (r_idxm sl_22 (vq 4 rfl) (vq 5 rfl) zo) (zv rfl rfl (r_loade (vq 6 rfl) ty_168) (zv rfl rfl (r_lss (vq 3 rfl) (vq 7 rfl)) o0))))))))) zk zk zk zk (fun a w hst=>?_)
    have hst:St B w0 41 [(0,_),(1,_),(5,_),(40,_)] [] a w:=hst
    refine thn_normal ?_
    refine cond_of hst (zm 3 rfl) (fun hb3=>?_) (fun hb3=>?_)
    ·refine wp_seq ?_
     refine gl (sts:=[]) (news:=[]) (sp:=[.val 4 _]) [.g 0,.g 1,.g 2,.o 0] hst (zv rfl rfl (r_assign has_num) o0) (fun a w hst=>?_)
     have hst:St B w0 41 [(0,_),(1,_),(5,_),(4,_)] [] a w:=hst
     refine thn_normal ?_
     refine wp_ret ?_
     refine thn_ret ?_
     refine blk_ret ?_
     refine thn_ret ?_
     refine thn_ret ?_
     refine blk_ret ?_
     refine thn_ret ?_
     refine ret_cast ?_ (ret_tmp rfl hst (zm 3 rfl))
     exact nu (size_e1 ha hl zo hd hb3)
    ·refine wp_skip ?_
     refine zt ?_
     refine gl (sts:=[]) (news:=[]) (sp:=[.val 4 _]) [.g 0,.g 1,.g 2,.o 0] hst (zv rfl rfl (r_assign has_num) o0) (fun a w hst=>?_)
     have hst:St B w0 41 [(0,_),(1,_),(5,_),(4,_)] [] a w:=hst
     refine thn_normal ?_
     refine wp_ret ?_
     refine blk_ret ?_
     refine thn_ret ?_
     refine thn_ret ?_
     refine blk_ret ?_
     refine thn_ret ?_
     refine ret_cast ?_ (ret_tmp rfl hst (zm 3 rfl))
     exact nu (size_e2 hb hl zo hd hb2 hb3)
   ·refine wp_skip ?_
    refine blk_normal ?_
    refine thn_normal ?_
    refine gl (sts:=[]) (news:=[]) (sp:=[.val 21 _,.val 22 _,.val 5 _]) [.g 0,.g 1,.o 2] hst (zv rfl rfl (r_move (gq 2 rfl)) (zv rfl rfl (r_sub (vq 0 rfl) has_num (wi64 zo zo)) (zv rfl rfl (r_assign (vq 1 rfl)) o0))) (fun a w hst=>?_)
    have hst:St B w0 41 [(0,_),(1,_),(5,_)] [] a w:=hst
    refine thn_normal ?_
    have hst:=St.sel hst [0,1,2]
    exact ⟨j,by omega,by omega,drop_eq_step zo zo hd (by simp at hb2; omega),hst⟩
  ·obtain rfl:n=0:=by simp at hb1; omega
   refine wp_exit ?_
   refine thn_exit ?_
   refine thn_exit ?_
   refine blk_exit ?_
   refine zt ?_
   refine gl (sts:=[]) (news:=[]) (sp:=[.val 4 _]) [.o 0] hst (zv rfl rfl (r_assign has_num) o0) (fun a w hst=>?_)
   have hst:St B w0 41 [(4,_)] [] a w:=hst
   refine thn_normal ?_
   refine wp_ret ?_
   refine ret_cast ?_ (ret_tmp rfl hst (zm 0 rfl))
   exact nu (size_e3 hd)
end Go.Proofs.YthncfchnkjemiaaGreatDoor
