import Derived.Test.YthncfchnkjemiaaGreatDoorIlAa
import Derived.Test.YthncfchnkjemiaaGreatDoorIlAc
import Derived.Test.YthncfchnkjemiaaGreatDoorIlAf
set_option linter.unusedVariables false
set_option linter.unusedSimpArgs false
set_option linter.unusedSectionVars false
set_option maxRecDepth 100000
namespace Go.Proofs.YthncfchnkjemiaaGreatDoor
open Go Go.RowKit
theorem val_set:∀ {l:List Nat} {j x:Nat} (h:j<l.length),val (l.set j x)+4294967296 ^ j*l[j]=val l+4294967296 ^ j*x
 | [],j,x,h=>by simp at h
 | y::ys,0,x,_=>by simp [val]; omega
 | y::ys,j+1,x,h=>by
  have:=val_set (l:=ys) (j:=j) (x:=x) (by simpa using h)
  simp only [List.set_cons_succ,val,List.getElem_cons_succ,Nat.pow_succ]
  have e:∀ z,4294967296 ^ j*4294967296*z=4294967296*(4294967296 ^ j*z):=fun z=>by rw [Nat.mul_comm (4294967296 ^ j),Nat.mul_assoc]
  rw [e,e]
  omega
theorem okL_set {l:List Nat} (h:okL l) (j:Nat) {x:Nat} (hx:x<4294967296):okL (l.set j x):=fun y hy=>by
 rcases List.mem_or_eq_of_mem_set hy with h1 | h1
 ·exact h y h1
 ·subst h1; exact hx
structure MulO (a b L:List Nat) (i:Nat):Prop where
 len:L.length=a.length+b.length
 ok:okL L
 vl:val L=val (a.take i)*val b
 zero:∀ j,i+b.length≤j→L.getD j 0=0
structure MulI (a b L:List Nat) (i u k c:Nat):Prop where
 len:L.length=a.length+b.length
 ok:okL L
 cl:c<4294967296
 vl:val L+c*4294967296 ^ (i+k)=val (a.take i)*val b+4294967296 ^ i*(u*val (b.take k))
 zero:∀ j,i+b.length≤j→L.getD j 0=0
theorem MulO.start (a b:List Nat):MulO a b (List.replicate (a.length+b.length) 0) 0:=⟨by simp,fun x hx=>by rw [(List.mem_replicate.1 hx).2]; decide,by simp [val_zeros],fun j _=>by rw [List.getD_eq_getElem?_getD,List.getElem?_replicate]; split <;> rfl⟩
theorem MulO.row {a b L:List Nat} {i:Nat} (h:MulO a b L i) (u:Nat):MulI a b L i u 0 0:=⟨h.len,h.ok,by decide,by rw [h.vl]; simp,h.zero⟩
theorem mul_lt {u v c l:Nat} (hu:u<4294967296) (hv:v<4294967296) (hc:c<4294967296) (hl:l<4294967296):c+(u*v+l)<18446744073709551616:=by
 have:u*v≤4294967295*4294967295:=Nat.mul_le_mul zo zo
 omega
theorem mul_alg {V V' W Z p q r u x y c t B d m:Nat} (hp:p=q*r) (ht:t=c+(u*x+y)) (hd:B*d+m=t) (h2:V'+p*y=V+p*m) (h3:V+c*p=W+q*(u*Z)):V'+d*(p*B)=W+q*(u*(Z+r*x)):=by
 grind
theorem MulI.step {a b L:List Nat} {i u k c:Nat} (h:MulI a b L i u k c) (hb:okL b) (hu:u<4294967296) (hk:k<b.length) (hj:i+k<L.length) :
  MulI a b (L.set (i+k) ((c+(u*b[k]+L[i+k])) % 4294967296)) i u (k+1) ((c+(u*b[k]+L[i+k])) / 4294967296):=by
 have h1:=mul_lt hu (hb _ (List.getElem_mem hk)) h.cl (h.ok _ (List.getElem_mem hj))
 refine ⟨by rw [List.length_set,h.len],okL_set h.ok _ (Nat.mod_lt _ zd),Nat.div_lt_of_lt_mul h1,?_,fun j hj'=>?_⟩
 ·have h2:=val_set (x:=(c+(u*b[k]+L[i+k])) % 4294967296) hj
  have h3:=h.vl
  rw [val_take_succ hk,show i+(k+1)=(i+k)+1 from rfl,Nat.pow_succ]
  exact mul_alg (Nat.pow_add _ _ _) rfl (Nat.div_add_mod _ _) h2 h3
 ·have:=h.zero j hj'
  rw [List.getD_eq_getElem?_getD,List.getElem?_set_ne zo,← List.getD_eq_getElem?_getD]
  exact this
theorem MulI.done {a b L:List Nat} {i u c:Nat} (h:MulI a b L i u b.length c) (hi:i<a.length) (hu:a[i]=u):MulO a b (L.set (i+b.length) c) (i+1):=by
 have hj:i+b.length<L.length:=by rw [h.len]; omega
 have h1:=val_set (x:=c) hj
 have h2:=h.vl
 have h3:L[i+b.length]=0:=by have:=h.zero _ (Nat.le_refl _); rwa [getD_lt hj] at this
 rw [h3,Nat.mul_zero,Nat.add_zero] at h1
 rw [List.take_of_length_le (Nat.le_refl _)] at h2
 refine ⟨by rw [List.length_set,h.len],okL_set h.ok _ h.cl,?_,fun j hj'=>?_⟩
 ·rw [h1,Nat.mul_comm _ c,h2,val_take_succ hi,hu,Nat.add_mul,Nat.mul_assoc]
 ·rw [List.getD_eq_getElem?_getD,List.getElem?_set_ne zo,← List.getD_eq_getElem?_getD]
  exact h.zero j zo
theorem MulO.fin {a b L:List Nat} (h:MulO a b L a.length):L=digs (a.length+b.length) (val a*val b):=digs_unique h.ok h.len (by rw [h.vl,List.take_length])
theorem times_c (x y:RI) (hxs:x.mag.length≤1099511627776) (hys:y.mag.length≤1099511627776):Cn Tryz.prog 245 [(RIA x).va,(RIA y).va] ((RIN (rsig (x.neg != y.neg) (digs (x.mag.length+y.mag.length) (val x.mag*val y.mag)))).va):=by
 refine Cn.introW Tryz.func245 rfl zk nq (.cons (up_ri _).va (.cons (up_ri _).va .nil)) (free_ri _).va (fun B w0 a hB0 hst=>?_)
 have hst:St B w0 78 [(0,(RIO x).va),(1,(RIO y).va)] [] a w0.w:=hst
 refine wp_seq ?_
 refine gl (sts:=[]) (news:=[⟨2,24,ptrH,some 0,_,none⟩,⟨3,24,ptrH,some 1,_,none⟩,⟨4,24,ptrH,some 2,_,none⟩]) (sp:=[.alc 0,.alc 1,.alc 2]) [] hst (oc (ob_box rfl rfl rfl (gq 0 rfl)) (oc (ob_box rfl rfl rfl (gq 1 rfl)) (oc (ob_alc rfl rfl rfl (Str.zero str_intO)) o0))) (fun a w hst=>?_)
 have hst:St B w0 78 [] [⟨2,24,ptrH,_⟩,⟨3,24,ptrH,_⟩,⟨4,24,ptrH,_⟩] a w:=hst
 refine zt ?_
 refine go_draw (anc:=[[],[0],[],[2],[0,1],[0,1,2,3,4]]) (sts:=[none,none,none]) (news:=[]) (sp:=[.adr 13 2 (.some 1) True,.val 14 _,.adr 15 3 (.some 1) True,.val 16 _,.val 5 _,.val 6 _]) [.o 4,.o 5] follows_mixed hst (oc (ob_a rfl rfl (a_fld (lz0 0 rfl) fld_24_1)) (zv rfl rfl (r_loadf 0 rfl zk trivial (lz0 0 rfl) (Sub.part 1 rfl rfl) ty_22) (oc (ob_a rfl rfl (a_fld (lz0 1 rfl) fld_24_1)) (zv rfl rfl (r_loadf 2 rfl zk trivial (lz0 1 rfl) (Sub.part 1 rfl rfl) ty_22) (zv rfl rfl (r_assign (vq 1 rfl)) (zv rfl rfl (r_assign (vq 3 rfl)) o0)))))) zk zk zk zk (fun a w hst=>?_)
 have hst:St B w0 78 [(5,_),(6,_)] [⟨2,24,ptrH,_⟩,⟨3,24,ptrH,_⟩,⟨4,24,ptrH,_⟩] a w:=hst
 refine zt ?_
 refine go_linR (sts:=[none,none,none]) (news:=[⟨22,168,slH _ _,some 5,_,none⟩]) (sp:=[.val 17 _,.val 18 _,.val 19 _,.val 20 _,.val 21 _,.alc 3,.adr 7 22 .none True]) [.g 0,.g 1] [(7,22)] [⟨2,24,ptrH,_⟩,⟨3,24,ptrH,_⟩,⟨4,24,ptrH,_⟩,⟨7,168,slH _ _,_⟩] hst (zv rfl rfl (r_move (gq 0 rfl)) (zv rfl rfl (r_lenm Tryz.underlying22 (has_old (vq 0 rfl))) (zv rfl rfl (r_move (gq 1 rfl)) (zv rfl rfl (r_lenm Tryz.underlying22 (has_old (vq 2 rfl))) (zv rfl rfl (r_add (vq 1 rfl) (vq 3 rfl) (wi_add zo)) (oc (ob_make rfl rfl rfl mk_u32 (vq 4 rfl) (vq 4 rfl) zo) (oc (ob_a rfl rfl a_asg) o0))))))) zk zk zk ⟨⟨6,rfl⟩,trivial⟩ rfl zk (fun a w hst=>?_)
 have hst:St B w0 78 [(5,_),(6,_)] [⟨2,24,ptrH,_⟩,⟨3,24,ptrH,_⟩,⟨4,24,ptrH,_⟩,⟨7,168,slH _ _,_⟩] a w:=hst
 refine zt ?_
 refine wp_seq ?_
 refine gl (sts:=[none,none,none,none]) (news:=[]) (sp:=[.val 23 _,.val 24 _,.val 25 _]) [.g 1,.o 0,.o 1,.o 2] hst (zv rfl rfl (r_move (gq 0 rfl)) (zv rfl rfl (r_lenm Tryz.underlying22 (has_old (vq 0 rfl))) (zv rfl rfl (r_move has_num) o0))) (fun a w hst=>?_)
 have hst:St B w0 78 [(6,_),(23,_),(24,_),(25,_)] [⟨2,24,ptrH,_⟩,⟨3,24,ptrH,_⟩,⟨4,24,ptrH,_⟩,⟨7,168,slH _ _,_⟩] a w:=hst
 refine thn_normal ?_
 refine wp_block ?_
 have hst:=St.sel hst [0,1,2,3]
 refine wp_loop_ghost (fun n a w=>∃ (i:Nat) (L:List Nat),n+i=x.mag.length∧MulO x.mag y.mag L i∧St B w0 78 [(6,(MgO y.mag).va),(23,(MgO x.mag).va),(24,In (x.mag.length:Nat)),(25,In (i:Nat))] [⟨2,24,ptrH,RIO x⟩,⟨3,24,ptrH,RIO y⟩,⟨4,24,ptrH,cat [BoA false,MgO []]⟩,⟨7,168,slH (x.mag.length+y.mag.length) (x.mag.length+y.mag.length),Nums .u32 L⟩] a w) (x.mag.length) ?_ ?_
 ·exact ⟨0,_,by omega,MulO.start _ _,hst⟩
 intro n a w hI
 obtain ⟨i,L,hn,hO,hst⟩:=hI; obtain ⟨n1,hn1⟩:∃ n1,n1=n:=⟨n,rfl⟩; have hb:=(hst.magO 0 rfl).1; have ha:=(hst.magO 1 rfl).1; have hlen:=hO.len
 refine wp_seq ?_
 refine gl (sts:=[none,none,none,none]) (news:=[]) (sp:=[.val 26 _]) [.g 0,.g 1,.g 2,.g 3,.o 0] hst (zv rfl rfl (r_lss (gq 3 rfl) (gq 2 rfl)) o0) (fun a w hst=>?_)
 have hst:St B w0 78 [(6,_),(23,_),(24,_),(25,_),(26,_)] [⟨2,24,ptrH,_⟩,⟨3,24,ptrH,_⟩,⟨4,24,ptrH,_⟩,⟨7,168,slH _ _,_⟩] a w:=hst
 refine zt ?_
 refine cond_of hst (zm 4 rfl) (fun hb0=>?_) (fun hb0=>?_)
 ·have hi:i<x.mag.length:=by simp at hb0; omega
  refine wp_skip ?_
  refine zt ?_
  refine wp_block ?_
  refine wp_seq ?_
  refine gl (sts:=[none,none,none,none]) (news:=[]) (sp:=[.val 27 _,.val 28 _,.val 29 _,.val 8 _,.val 9 _]) [.g 0,.g 1,.g 2,.g 3,.o 3,.o 4] hst (zv rfl rfl (r_move (gq 3 rfl)) (zv rfl rfl (r_idxm sl_22 (has_old (gq 1 rfl)) (gq 3 rfl) zo) (zv rfl rfl (r_loade (vq 1 rfl) ty_168) (zv rfl rfl (r_assign (vq 0 rfl)) (zv rfl rfl (r_assign (vq 2 rfl)) o0))))) (fun a w hst=>?_)
  have hst:St B w0 78 [(6,_),(23,_),(24,_),(25,_),(8,_),(9,_)] [⟨2,24,ptrH,_⟩,⟨3,24,ptrH,_⟩,⟨4,24,ptrH,_⟩,⟨7,168,slH _ _,_⟩] a w:=hst
  refine zt ?_
  refine gl (sts:=[none,none,none,none]) (news:=[]) (sp:=[.val 10 _]) [.g 0,.g 1,.g 2,.g 3,.g 4,.g 5,.o 0] hst (zv rfl rfl (r_assign (has_nat 0 rfl)) o0) (fun a w hst=>?_)
  have hst:St B w0 78 [(6,_),(23,_),(24,_),(25,_),(8,_),(9,_),(10,_)] [⟨2,24,ptrH,_⟩,⟨3,24,ptrH,_⟩,⟨4,24,ptrH,_⟩,⟨7,168,slH _ _,_⟩] a w:=hst
  refine zt ?_
  refine wp_seq ?_
  refine gl (sts:=[none,none,none,none]) (news:=[]) (sp:=[.val 30 _,.val 31 _,.val 32 _]) [.g 0,.g 1,.g 2,.g 3,.g 4,.g 5,.g 6,.o 0,.o 1,.o 2] hst (zv rfl rfl (r_move (gq 0 rfl)) (zv rfl rfl (r_lenm Tryz.underlying22 (has_old (vq 0 rfl))) (zv rfl rfl (r_move has_num) o0))) (fun a w hst=>?_)
  have hst:St B w0 78 [(6,_),(23,_),(24,_),(25,_),(8,_),(9,_),(10,_),(30,_),(31,_),(32,_)] [⟨2,24,ptrH,_⟩,⟨3,24,ptrH,_⟩,⟨4,24,ptrH,_⟩,⟨7,168,slH _ _,_⟩] a w:=hst
  refine thn_normal ?_
  refine wp_block ?_
  have hst:=St.sel hst [0,1,2,3,4,5,6,7,8,9]
  refine wp_loop_ghost (fun n a w=>∃ (k c:Nat) (L:List Nat),n+k=y.mag.length∧MulI x.mag y.mag L i x.mag[i] k c∧St B w0 78 [(6,(MgO y.mag).va),(23,(MgO x.mag).va),(24,In (x.mag.length:Nat)),(25,In (i:Nat)),(8,In (i:Nat)),(9,(NumA .u32 (x.mag[i]:Nat)).va),(10,(NumA .u64 (c:Nat)).va),(30,(MgO y.mag).va),(31,In (y.mag.length:Nat)),(32,In (k:Nat))] [⟨2,24,ptrH,RIO x⟩,⟨3,24,ptrH,RIO y⟩,⟨4,24,ptrH,cat [BoA false,MgO []]⟩,⟨7,168,slH (x.mag.length+y.mag.length) (x.mag.length+y.mag.length),Nums .u32 L⟩] a w) (y.mag.length) ?_ ?_
  ·exact ⟨0,0,L,by omega,hO.row _,hst⟩
  intro n a w hI
  clear hlen hO; obtain ⟨k,c,L,hn2,hI,hst⟩:=hI; have hlen:=hI.len; have hc:=hI.cl
  refine wp_seq ?_
  refine gl (sts:=[none,none,none,none]) (news:=[]) (sp:=[.val 33 _]) [.g 0,.g 1,.g 2,.g 3,.g 4,.g 5,.g 6,.g 7,.g 8,.g 9,.o 0] hst (zv rfl rfl (r_lss (gq 9 rfl) (gq 8 rfl)) o0) (fun a w hst=>?_)
  have hst:St B w0 78 [(6,_),(23,_),(24,_),(25,_),(8,_),(9,_),(10,_),(30,_),(31,_),(32,_),(33,_)] [⟨2,24,ptrH,_⟩,⟨3,24,ptrH,_⟩,⟨4,24,ptrH,_⟩,⟨7,168,slH _ _,_⟩] a w:=hst
  refine zt ?_
  refine cond_of hst (zm 10 rfl) (fun hb1=>?_) (fun hb1=>?_)
  ·have hk:k<y.mag.length:=by simp at hb1; omega
   refine wp_skip ?_
   refine zt ?_
   refine wp_block ?_
   refine wp_seq ?_
   refine gl (sts:=[none,none,none,none]) (news:=[]) (sp:=[.val 34 _,.val 35 _,.val 36 _,.val 11 _,.val 12 _]) [.g 0,.g 1,.g 2,.g 3,.g 4,.g 5,.g 6,.g 7,.g 8,.g 9,.o 3,.o 4] hst (zv rfl rfl (r_move (gq 9 rfl)) (zv rfl rfl (r_idxm sl_22 (has_old (gq 7 rfl)) (gq 9 rfl) zo) (zv rfl rfl (r_loade (vq 1 rfl) ty_168) (zv rfl rfl (r_assign (vq 0 rfl)) (zv rfl rfl (r_assign (vq 2 rfl)) o0))))) (fun a w hst=>?_)
   have hst:St B w0 78 [(6,_),(23,_),(24,_),(25,_),(8,_),(9,_),(10,_),(30,_),(31,_),(32,_),(11,_),(12,_)] [⟨2,24,ptrH,_⟩,⟨3,24,ptrH,_⟩,⟨4,24,ptrH,_⟩,⟨7,168,slH _ _,_⟩] a w:=hst
   refine zt ?_
   refine gl (sts:=[none,none,none,none]) (news:=[]) (sp:=[.val 37 _,.val 38 _,.val 39 _,.val 40 _,.val 41 _,.val 42 _,.adr 43 7 .none True,.val 44 _,.val 45 _,.val 46 _,.adr 47 7 (.some _) True,.val 48 _,.val 49 _,.val 50 _,.val 51 _,.val 10 _]) [.g 0,.g 1,.g 2,.g 3,.g 4,.g 5,.g 7,.g 8,.g 9,.g 10,.o 15] hst (zv rfl rfl (r_move (gq 6 rfl)) (zv rfl rfl (r_move (gq 5 rfl)) (zv rfl rfl (r_convk .u64 zk zk (vq 1 rfl) (wu64 (Nat.lt_trans (ha _ (List.getElem_mem _)) zd))) (zv rfl rfl (r_move (gq 11 rfl)) (zv rfl rfl (r_convk .u64 zk zk (vq 3 rfl) (wu64 (Nat.lt_trans (hb _ (List.getElem_mem _)) zd))) (zv rfl rfl (r_mul (vq 2 rfl) (vq 4 rfl) (wmul64 (Nat.lt_of_le_of_lt (Nat.le_trans (Nat.le_add_right _ _) (Nat.le_add_left _ _)) (mul_lt (ha _ (List.getElem_mem _)) (hb _ (List.getElem_mem _)) (show 0<4294967296 by decide) (show 0<4294967296 by decide))))) (oc (ob_a rfl rfl a_mov) (zv rfl rfl (r_move (gq 4 rfl)) (zv rfl rfl (r_move (gq 10 rfl)) (zv rfl rfl (r_add (vq 7 rfl) (vq 8 rfl) (wi_add zo)) (oc (ob_a rfl rfl (a_elm 6 rfl zk (lz0 3 rfl) sl_22 (vq 9 rfl) zo)) (zv rfl rfl (r_loadx 10 rfl zk (lz0 3 rfl) (fun _=>slH_off _ _ _ _) (nums_at zo) ty_168) (zv rfl rfl (r_convk .u64 zk zk (vq 11 rfl) (wu64 (Nat.lt_trans (hI.ok _ (List.getElem_mem _)) zd))) (zv rfl rfl (r_add (vq 5 rfl) (vq 12 rfl) (wadd64 (Nat.lt_of_le_of_lt (Nat.le_add_left _ _) (mul_lt (ha _ (List.getElem_mem _)) (hb _ (List.getElem_mem _)) hc (hI.ok _ (List.getElem_mem _)))))) (zv rfl rfl (r_add (vq 0 rfl) (vq 13 rfl) (wadd64 (mul_lt (ha _ (List.getElem_mem _)) (hb _ (List.getElem_mem _)) hc (hI.ok _ (List.getElem_mem _))))) (zv rfl rfl (r_assign (vq 14 rfl)) o0)))))))))))))))) (fun a w hst=>?_)
   have hst:St B w0 78 [(6,_),(23,_),(24,_),(25,_),(8,_),(9,_),(30,_),(31,_),(32,_),(11,_),(10,_)] [⟨2,24,ptrH,_⟩,⟨3,24,ptrH,_⟩,⟨4,24,ptrH,_⟩,⟨7,168,slH _ _,_⟩] a w:=hst
   refine zt ?_
   refine gl (sts:=[none,none,none,some (7,_)]) (news:=[]) (sp:=[.adr 52 7 .none True,.val 53 _,.val 54 _,.val 55 _,.val 56 _,.val 57 _,.adr 58 7 (.some _) True,.sto 3]) [.g 0,.g 1,.g 2,.g 3,.g 4,.g 5,.g 6,.g 7,.g 8,.g 10] hst (oc (ob_a rfl rfl a_mov) (zv rfl rfl (r_move (gq 4 rfl)) (zv rfl rfl (r_move (gq 9 rfl)) (zv rfl rfl (r_add (vq 1 rfl) (vq 2 rfl) (wi_add zo)) (zv rfl rfl (r_move (gq 10 rfl)) (zv rfl rfl (r_convk .u32 zk zk (vq 4 rfl) (wu32')) (oc (ob_a rfl rfl (a_elm 0 rfl zk (lz0 3 rfl) sl_22 (vq 3 rfl) zo)) (oc (ob_stox 6 rfl rfl rfl rfl zk (fun _=>slH_off _ _ _ _) (vq 5 rfl) ty_168 (nums_put zo)) o0)))))))) (fun a w hst=>?_)
   have hst:St B w0 78 [(6,_),(23,_),(24,_),(25,_),(8,_),(9,_),(30,_),(31,_),(32,_),(10,_)] [⟨2,24,ptrH,_⟩,⟨3,24,ptrH,_⟩,⟨4,24,ptrH,_⟩,⟨7,168,slH _ _,_⟩] a w:=hst
   refine thn_normal ?_
   refine gl (sts:=[none,none,none,none]) (news:=[]) (sp:=[.val 59 _,.val 60 _,.val 10 _]) [.g 0,.g 1,.g 2,.g 3,.g 4,.g 5,.g 6,.g 7,.g 8,.o 2] hst (zv rfl rfl (r_move (gq 9 rfl)) (zv rfl rfl (r_shr (vq 0 rfl) (has_nat 32 rfl) zd (nshr)) (zv rfl rfl (r_assign (vq 1 rfl)) o0))) (fun a w hst=>?_)
   have hst:St B w0 78 [(6,_),(23,_),(24,_),(25,_),(8,_),(9,_),(30,_),(31,_),(32,_),(10,_)] [⟨2,24,ptrH,_⟩,⟨3,24,ptrH,_⟩,⟨4,24,ptrH,_⟩,⟨7,168,slH _ _,_⟩] a w:=hst
   refine blk_normal ?_
   refine thn_normal ?_
   refine gl (sts:=[none,none,none,none]) (news:=[]) (sp:=[.val 61 _,.val 32 _]) [.g 0,.g 1,.g 2,.g 3,.g 4,.g 5,.g 6,.g 7,.g 9,.o 1] hst (zv rfl rfl (r_add (gq 8 rfl) has_num (wi_succ zo)) (zv rfl rfl (r_move (vq 0 rfl)) o0)) (fun a w hst=>?_)
   have hst:St B w0 78 [(6,_),(23,_),(24,_),(25,_),(8,_),(9,_),(30,_),(31,_),(10,_),(32,_)] [⟨2,24,ptrH,_⟩,⟨3,24,ptrH,_⟩,⟨4,24,ptrH,_⟩,⟨7,168,slH _ _,_⟩] a w:=hst
   refine thn_normal ?_
   have hst:=St.sel hst [0,1,2,3,4,5,8,6,7,9]
   exact ⟨n - 1,by omega,k+1,_,_,by omega,hI.step hb (ha _ (List.getElem_mem _)) hk zo,hst⟩
  ·obtain rfl:k=y.mag.length:=by simp at hb1; omega
   refine wp_exit ?_
   refine thn_exit ?_
   refine thn_exit ?_
   refine blk_exit ?_
   refine thn_normal ?_
   refine gl (sts:=[none,none,none,some (8,_)]) (news:=[]) (sp:=[.adr 62 7 .none True,.val 63 _,.val 64 _,.val 65 _,.val 66 _,.val 67 _,.val 68 _,.adr 69 7 (.some _) True,.sto 3]) [.g 0,.g 1,.g 2,.g 3] hst (oc (ob_a rfl rfl a_mov) (zv rfl rfl (r_move (gq 4 rfl)) (zv rfl rfl (r_move (gq 0 rfl)) (zv rfl rfl (r_lenm Tryz.underlying22 (has_old (vq 2 rfl))) (zv rfl rfl (r_add (vq 1 rfl) (vq 3 rfl) (wi_add zo)) (zv rfl rfl (r_move (gq 6 rfl)) (zv rfl rfl (r_convk .u32 zk zk (vq 5 rfl) (wu32 hc)) (oc (ob_a rfl rfl (a_elm 0 rfl zk (lz0 3 rfl) sl_22 (vq 4 rfl) zo)) (oc (ob_stox 7 rfl rfl rfl rfl zk (fun _=>slH_off _ _ _ _) (vq 6 rfl) ty_168 (nums_put zo)) o0))))))))) (fun a w hst=>?_)
   have hst:St B w0 78 [(6,_),(23,_),(24,_),(25,_)] [⟨2,24,ptrH,_⟩,⟨3,24,ptrH,_⟩,⟨4,24,ptrH,_⟩,⟨7,168,slH _ _,_⟩] a w:=hst
   refine blk_normal ?_
   refine thn_normal ?_
   refine gl (sts:=[none,none,none,none]) (news:=[]) (sp:=[.val 70 _,.val 25 _]) [.g 0,.g 1,.g 2,.o 1] hst (zv rfl rfl (r_add (gq 3 rfl) has_num (wi_succ zo)) (zv rfl rfl (r_move (vq 0 rfl)) o0)) (fun a w hst=>?_)
   have hst:St B w0 78 [(6,_),(23,_),(24,_),(25,_)] [⟨2,24,ptrH,_⟩,⟨3,24,ptrH,_⟩,⟨4,24,ptrH,_⟩,⟨7,168,slH _ _,_⟩] a w:=hst
   refine thn_normal ?_
   have hst:=St.sel hst [0,1,2,3]
   exact ⟨n1 - 1,by omega,i+1,_,by omega,hI.done hi rfl,hst⟩
 ·obtain rfl:i=x.mag.length:=by simp at hb0; omega
  refine wp_exit ?_
  refine thn_exit ?_
  refine thn_exit ?_
  refine blk_exit ?_
  refine zt ?_
  refine gl (sts:=[none,none,some (7,_),none]) (news:=[]) (sp:=[.adr 71 2 (.some 0) True,.val 72 _,.adr 73 3 (.some 0) True,.val 74 _,.val 75 _,.adr 76 7 .none True,.val 77 _,.sto 2]) [] hst (oc (ob_a rfl rfl (a_fld (lz0 0 rfl) fld_24_0)) (zv rfl rfl (r_loadf 0 rfl zk trivial (lz0 0 rfl) (Sub.part 0 rfl rfl) ty_4) (oc (ob_a rfl rfl (a_fld (lz0 1 rfl) fld_24_0)) (zv rfl rfl (r_loadf 2 rfl zk trivial (lz0 1 rfl) (Sub.part 0 rfl rfl) ty_4) (zv rfl rfl (r_neqb zk (vq 1 rfl) (vq 3 rfl)) (oc (ob_a rfl rfl a_mov) (zv rfl rfl (r_call (xs:=[.tmp 75,.tmp 76]) (signedN_c _ _) (.cons (vq 4 rfl) (.cons (has_rowN 5 rfl zk (lz0 3 rfl) ⟨hO.len.symm,Nat.le_refl _,by unfold maxLen; omega,hO.ok⟩ hO.len.symm) .nil))) (oc (ob_sto rfl rfl rfl (vq 6 rfl) ty_24 (Eq.trans (b:=2) rfl rfl)) o0)))))))) (fun a w hst=>?_)
  have hst:St B w0 78 [] [⟨2,24,ptrH,_⟩,⟨3,24,ptrH,_⟩,⟨4,24,ptrH,_⟩,⟨7,168,slH _ _,_⟩] a w:=hst
  refine thn_normal ?_
  refine wp_ret ?_
  refine ret_cast ?_ (ret_cell rfl hst (zm 2 rfl) ty_24)
  rw [hO.fin]; rfl
end Go.Proofs.YthncfchnkjemiaaGreatDoor
namespace Go.Proofs.YthncfchnkjemiaaGreatDoor
open Go Go.RowKit
def sgI (x:RI):Int:=if x.mag.length=0 then 0 else if x.neg then -1 else 1
def cmpI (x y:RI):Int:=if sgI x≠sgI y then (if sgI x<sgI y then -1 else 1) else max (-1) (min 1 (if x.neg then -(sizeL x.mag y.mag) else sizeL x.mag y.mag))
def okRI (x:RI):Bool := !((decide ((x.mag.length:Int)>2048) || (decide ((x.mag.length:Int)>0) && (((x.mag.getD (x.mag.length - 1) 0:Nat):Int) == ((0:Nat):Int)))) || (((x.mag.length:Int) == 0) && x.neg))
theorem check_e0 {x:RI} (h:((decide ((x.mag.length:Int)>2048) || (decide ((x.mag.length:Int)>0) && (((x.mag.getD (x.mag.length - 1) 0:Nat):Int) == ((0:Nat):Int)))) || (((x.mag.length:Int) == 0) && x.neg))=true):(1:Int)=(if okRI x then 0 else 1):=by unfold okRI; rw [h]; rfl
theorem check_e1 {x:RI} (h:((decide ((x.mag.length:Int)>2048) || (decide ((x.mag.length:Int)>0) && (((x.mag.getD (x.mag.length - 1) 0:Nat):Int) == ((0:Nat):Int)))) || (((x.mag.length:Int) == 0) && x.neg))=false):(0:Int)=(if okRI x then 0 else 1):=by unfold okRI; rw [h]; rfl
theorem rsig_of {neg:Bool} {l:List Nat} {z:Int} (ok:okL l) (hv:val l=z.natAbs) (hn:z≠0→neg=decide (z<0)):rsig neg l=riOf z:=by
 unfold rsig riOf
 rw [trimL_eq_limbs ok,hv]
 by_cases h:z=0
 ·subst h; simp [limbs_zero]
 ·have h1:limbs z.natAbs≠[]:=by rw [limbs_pos zo]; simp
  have h2:(limbs z.natAbs).isEmpty=false:=by cases hh:limbs z.natAbs <;> simp_all
  rw [h2,hn h]; simp
theorem ok_ri (z:Int):okL (riOf z).mag:=(canon_limbs _).1
theorem val_ri (z:Int):val (riOf z).mag=z.natAbs:=val_limbs _
theorem sizeL_bd {l m:List Nat} (hl:l.length≤1099511627776) (hm:m.length≤1099511627776) : -1099511627777≤sizeL l m∧sizeL l m≤1099511627777:=by
 unfold sizeL; split
 ·omega
 ·split
  ·omega
  ·split <;> omega
theorem sign_e0 {x:RI} (h:((x.mag.length:Int) == 0)=true):(0:Int)=sgI x:=by simp at h; simp [sgI,h]
theorem sign_e1 {x:RI} (h:((x.mag.length:Int) == 0)=false) (h2:x.neg=true):(-1:Int)=sgI x:=by simp at h; simp [sgI,h,h2]
theorem sign_e2 {x:RI} (h:((x.mag.length:Int) == 0)=false) (h2:x.neg=false):(1:Int)=sgI x:=by simp at h; simp [sgI,h,h2]
theorem cmp_e0 {x y:RI} (h:(sgI x != sgI y)=true) (h2:decide (sgI x<sgI y)=true):(-1:Int)=cmpI x y:=by simp at h h2; simp [cmpI,h,h2]
theorem cmp_e1 {x y:RI} (h:(sgI x != sgI y)=true) (h2:decide (sgI x<sgI y)=false):(1:Int)=cmpI x y:=by simp at h h2; simp [cmpI,h]; omega
theorem cmp_e2 {x y:RI} (h:(sgI x != sgI y)=false):max (-1) (min 1 (if x.neg then -(sizeL x.mag y.mag) else sizeL x.mag y.mag))=cmpI x y:=by simp at h; simp [cmpI,h]
theorem sign_c (x:RI):Cn Tryz.prog 243 [(RIA x).va] (In (sgI x)):=by
 refine Cn.intro Tryz.func243 rfl zk nq (fun B w0 a hst=>?_)
 have hst:St B w0 11 [(0,(RIA x).va)] [] a w0.w:=hst
 refine wp_seq ?_
 refine gl (sts:=[]) (news:=[⟨1,24,ptrH,some 0,_,none⟩]) (sp:=[.alc 0,.val 2 _]) [.o 1] hst (oc (ob_box rfl rfl rfl (gq 0 rfl)) (zv rfl rfl (r_assign has_num) o0)) (fun a w hst=>?_)
 have hst:St B w0 11 [(2,_)] [⟨1,24,ptrH,_⟩] a w:=hst
 refine zt ?_
 refine wp_block ?_
 refine wp_seq ?_
 refine gl (sts:=[none]) (news:=[]) (sp:=[.adr 4 1 (.some 1) True,.val 5 _,.val 6 _,.val 7 _,.val 3 _]) [.g 0,.o 4] hst (oc (ob_a rfl rfl (a_fld (lz0 0 rfl) fld_24_1)) (zv rfl rfl (r_loadf 0 rfl zk trivial (lz0 0 rfl) (Sub.part 1 rfl rfl) ty_22) (zv rfl rfl (r_lenm Tryz.underlying22 (vq 1 rfl)) (zv rfl rfl (r_eql (vq 2 rfl) has_num) (zv rfl rfl (r_assign (vq 3 rfl)) o0))))) (fun a w hst=>?_)
 have hst:St B w0 11 [(2,_),(3,_)] [⟨1,24,ptrH,_⟩] a w:=hst
 refine thn_normal ?_
 refine cond_of hst (zm 1 rfl) (fun hb0=>?_) (fun hb0=>?_)
 ·refine wp_seq ?_
  refine gl (sts:=[none]) (news:=[]) (sp:=[.val 2 _]) [.o 0] hst (zv rfl rfl (r_assign has_num) o0) (fun a w hst=>?_)
  have hst:St B w0 11 [(2,_)] [⟨1,24,ptrH,_⟩] a w:=hst
  refine thn_normal ?_
  refine wp_ret ?_
  refine blk_ret ?_
  refine thn_ret ?_
  refine ret_cast ?_ (ret_tmp rfl hst (zm 0 rfl))
  exact nu (sign_e0 hb0)
 ·refine wp_seq ?_
  refine gl (sts:=[none]) (news:=[]) (sp:=[.adr 9 1 (.some 0) True,.val 10 _,.val 8 _]) [.g 0,.o 2] hst (oc (ob_a rfl rfl (a_fld (lz0 0 rfl) fld_24_0)) (zv rfl rfl (r_loadf 0 rfl zk trivial (lz0 0 rfl) (Sub.part 0 rfl rfl) ty_4) (zv rfl rfl (r_assign (vq 1 rfl)) o0))) (fun a w hst=>?_)
  have hst:St B w0 11 [(2,_),(8,_)] [⟨1,24,ptrH,_⟩] a w:=hst
  refine thn_normal ?_
  refine cond_of hst (zm 1 rfl) (fun hb1=>?_) (fun hb1=>?_)
  ·refine wp_seq ?_
   refine gl (sts:=[none]) (news:=[]) (sp:=[.val 2 _]) [.o 0] hst (zv rfl rfl (r_assign has_num) o0) (fun a w hst=>?_)
   have hst:St B w0 11 [(2,_)] [⟨1,24,ptrH,_⟩] a w:=hst
   refine thn_normal ?_
   refine wp_ret ?_
   refine blk_ret ?_
   refine thn_ret ?_
   refine ret_cast ?_ (ret_tmp rfl hst (zm 0 rfl))
   exact nu (sign_e1 hb0 hb1)
  ·refine wp_skip ?_
   refine blk_normal ?_
   refine zt ?_
   refine gl (sts:=[none]) (news:=[]) (sp:=[.val 2 _]) [.o 0] hst (zv rfl rfl (r_assign has_num) o0) (fun a w hst=>?_)
   have hst:St B w0 11 [(2,_)] [⟨1,24,ptrH,_⟩] a w:=hst
   refine thn_normal ?_
   refine wp_ret ?_
   refine ret_cast ?_ (ret_tmp rfl hst (zm 0 rfl))
   exact nu (sign_e2 hb0 hb1)
theorem cmpI_c (x y:RI) (hxs:x.mag.length≤1099511627776) (hys:y.mag.length≤1099511627776):Cn Tryz.prog 289 [(RIA x).va,(RIA y).va] (In (cmpI x y)):=by
 refine Cn.intro Tryz.func289 rfl zk nq (fun B w0 a hst=>?_)
 have hst:St B w0 30 [(0,(RIA x).va),(1,(RIA y).va)] [] a w0.w:=hst
 have hbd:=sizeL_bd hxs hys
 refine wp_seq ?_
 refine gl (sts:=[]) (news:=[⟨2,24,ptrH,some 0,_,none⟩,⟨3,24,ptrH,some 1,_,none⟩]) (sp:=[.alc 0,.alc 1,.val 4 _]) [.o 2] hst (oc (ob_box rfl rfl rfl (gq 0 rfl)) (oc (ob_box rfl rfl rfl (gq 1 rfl)) (zv rfl rfl (r_assign has_num) o0))) (fun a w hst=>?_)
 have hst:St B w0 30 [(4,_)] [⟨2,24,ptrH,_⟩,⟨3,24,ptrH,_⟩] a w:=hst
 refine zt ?_
 refine wp_seq ?_
 refine go_draw (anc:=[[],[0],[],[0,1,2],[0,1,2,3],[0,1,2,3,4]]) (sts:=[none,none]) (news:=[]) (sp:=[.val 8 _,.val 9 _,.val 10 _,.val 11 _,.val 5 _,.val 6 _]) [.g 0,.o 4,.o 5] follows_mixed hst (zv rfl rfl (r_load (lz0 0 rfl) ty_24) (zv rfl rfl (r_call (xs:=[.tmp 8]) (sign_c _) (.cons (vq 0 rfl) .nil)) (zv rfl rfl (r_load (lz0 1 rfl) ty_24) (zv rfl rfl (r_call (xs:=[.tmp 10]) (sign_c _) (.cons (vq 2 rfl) .nil)) (zv rfl rfl (r_assign (vq 1 rfl)) (zv rfl rfl (r_assign (vq 3 rfl)) o0)))))) zk zk zk zk (fun a w hst=>?_)
 have hst:St B w0 30 [(4,_),(5,_),(6,_)] [⟨2,24,ptrH,_⟩,⟨3,24,ptrH,_⟩] a w:=hst
 refine zt ?_
 refine gl (sts:=[none,none]) (news:=[]) (sp:=[.val 12 _,.val 13 _,.val 14 _]) [.g 0,.g 1,.g 2,.o 2] hst (zv rfl rfl (r_move (gq 1 rfl)) (zv rfl rfl (r_move (gq 2 rfl)) (zv rfl rfl (r_neq (vq 0 rfl) (vq 1 rfl)) o0))) (fun a w hst=>?_)
 have hst:St B w0 30 [(4,_),(5,_),(6,_),(14,_)] [⟨2,24,ptrH,_⟩,⟨3,24,ptrH,_⟩] a w:=hst
 refine thn_normal ?_
 refine cond_of hst (zm 3 rfl) (fun hb0=>?_) (fun hb0=>?_)
 ·refine wp_seq ?_
  refine wp_seq ?_
  refine gl (sts:=[none,none]) (news:=[]) (sp:=[.val 15 _,.val 16 _,.val 17 _]) [.g 0,.o 2] hst (zv rfl rfl (r_move (gq 1 rfl)) (zv rfl rfl (r_move (gq 2 rfl)) (zv rfl rfl (r_lss (vq 0 rfl) (vq 1 rfl)) o0))) (fun a w hst=>?_)
  have hst:St B w0 30 [(4,_),(17,_)] [⟨2,24,ptrH,_⟩,⟨3,24,ptrH,_⟩] a w:=hst
  refine thn_normal ?_
  refine cond_of hst (zm 1 rfl) (fun hb1=>?_) (fun hb1=>?_)
  ·refine wp_seq ?_
   refine gl (sts:=[none,none]) (news:=[]) (sp:=[.val 4 _]) [.o 0] hst (zv rfl rfl (r_assign has_num) o0) (fun a w hst=>?_)
   have hst:St B w0 30 [(4,_)] [⟨2,24,ptrH,_⟩,⟨3,24,ptrH,_⟩] a w:=hst
   refine thn_normal ?_
   refine wp_ret ?_
   refine thn_ret ?_
   refine thn_ret ?_
   refine ret_cast ?_ (ret_tmp rfl hst (zm 0 rfl))
   exact nu (cmp_e0 hb0 hb1)
  ·refine wp_skip ?_
   refine zt ?_
   refine gl (sts:=[none,none]) (news:=[]) (sp:=[.val 4 _]) [.o 0] hst (zv rfl rfl (r_assign has_num) o0) (fun a w hst=>?_)
   have hst:St B w0 30 [(4,_)] [⟨2,24,ptrH,_⟩,⟨3,24,ptrH,_⟩] a w:=hst
   refine thn_normal ?_
   refine wp_ret ?_
   refine thn_ret ?_
   refine ret_cast ?_ (ret_tmp rfl hst (zm 0 rfl))
   exact nu (cmp_e1 hb0 hb1)
 ·refine wp_skip ?_
  refine zt ?_
  refine gl (sts:=[none,none]) (news:=[]) (sp:=[.adr 18 2 (.some 1) True,.val 19 _,.adr 20 3 (.some 1) True,.val 21 _,.val 22 _,.val 7 _]) [.g 0,.o 5] hst (oc (ob_a rfl rfl (a_fld (lz0 0 rfl) fld_24_1)) (zv rfl rfl (r_loadf 0 rfl zk trivial (lz0 0 rfl) (Sub.part 1 rfl rfl) ty_22) (oc (ob_a rfl rfl (a_fld (lz0 1 rfl) fld_24_1)) (zv rfl rfl (r_loadf 2 rfl zk trivial (lz0 1 rfl) (Sub.part 1 rfl rfl) ty_22) (zv rfl rfl (r_call (xs:=[.tmp 19,.tmp 21]) (size_c _ _) (.cons (vq 1 rfl) (.cons (vq 3 rfl) .nil))) (zv rfl rfl (r_assign (vq 4 rfl)) o0)))))) (fun a w hst=>?_)
  have hst:St B w0 30 [(4,_),(7,_)] [⟨2,24,ptrH,_⟩,⟨3,24,ptrH,_⟩] a w:=hst
  refine zt ?_
  refine wp_seq ?_
  refine gl (sts:=[none,none]) (news:=[]) (sp:=[.adr 23 2 (.some 0) True,.val 24 _]) [.g 0,.g 1,.o 1] hst (oc (ob_a rfl rfl (a_fld (lz0 0 rfl) fld_24_0)) (zv rfl rfl (r_loadf 0 rfl zk trivial (lz0 0 rfl) (Sub.part 0 rfl rfl) ty_4) o0)) (fun a w hst=>?_)
  have hst:St B w0 30 [(4,_),(7,_),(24,_)] [⟨2,24,ptrH,_⟩,⟨3,24,ptrH,_⟩] a w:=hst
  refine thn_normal ?_
  refine cond_join (fun a w =>  St B w0 30 [(7,In (if x.neg then -(sizeL x.mag y.mag) else sizeL x.mag y.mag))] [⟨2,24,ptrH,RIA x⟩,⟨3,24,ptrH,RIA y⟩] a w) hst (zm 2 rfl) (fun hb2=>?_) (fun hb2=>?_) (fun a w hst=>?_)
  ·refine gl (sts:=[none,none]) (news:=[]) (sp:=[.val 25 _,.val 26 _,.val 7 _]) [.g 0,.o 2] hst (zv rfl rfl (r_move (gq 1 rfl)) (zv rfl rfl (r_neg (vq 0 rfl) ((wi64 zo zo).trans (Int.zero_sub _))) (zv rfl rfl (r_assign (vq 1 rfl)) o0))) (fun a w hst=>?_)
   have hst:St B w0 30 [(4,_),(7,_)] [⟨2,24,ptrH,_⟩,⟨3,24,ptrH,_⟩] a w:=hst
   refine thn_normal ?_
   have hst:=St.sel hst [1]
   rw [if_pos hb2]; exact hst
  ·refine wp_skip ?_
   refine thn_normal ?_
   have hst:=St.sel hst [1]
   rw [if_neg (by rw [hb2]; decide)]; exact hst
  refine zt ?_
  refine gl (sts:=[none,none]) (news:=[]) (sp:=[.val 27 _,.val 28 _,.val 29 _,.val 4 _]) [.o 3] hst (zv rfl rfl (r_move (gq 0 rfl)) (zv rfl rfl (r_min has_num (vq 0 rfl)) (zv rfl rfl (r_max has_num (vq 1 rfl)) (zv rfl rfl (r_assign (vq 2 rfl)) o0)))) (fun a w hst=>?_)
  have hst:St B w0 30 [(4,_)] [⟨2,24,ptrH,_⟩,⟨3,24,ptrH,_⟩] a w:=hst
  refine thn_normal ?_
  refine wp_ret ?_
  refine ret_cast ?_ (ret_tmp rfl hst (zm 0 rfl))
  exact nu (cmp_e2 hb0)
theorem check_c (x:RI):Cn Tryz.prog 288 [(RIA x).va] (In (if okRI x then 0 else 1)):=by
 refine Cn.intro Tryz.func288 rfl zk nq (fun B w0 a hst=>?_)
 have hst:St B w0 34 [(0,(RIA x).va)] [] a w0.w:=hst
 have hk:=(ri_know (hst.vals _ (zm 0 rfl))).2
 refine wp_seq ?_
 refine gl (sts:=[]) (news:=[⟨1,24,ptrH,some 0,_,none⟩]) (sp:=[.alc 0,.val 2 _]) [.o 1] hst (oc (ob_box rfl rfl rfl (gq 0 rfl)) (zv rfl rfl (r_assign has_num) o0)) (fun a w hst=>?_)
 have hst:St B w0 34 [(2,_)] [⟨1,24,ptrH,_⟩] a w:=hst
 refine zt ?_
 refine wp_seq ?_
 refine gl (sts:=[none]) (news:=[]) (sp:=((.adr 3 1 (.some 1) True:Sp)::(.val 4 _)::(.val 5 _)::(.val 6 _)::(.val 7 _)::(.adr 8 1 (.some 1) (_=false))::(.val 9 (Wh (_=false) _))::(.val 10 (Wh (_=false) _))::(.val 11 (Wh (_=false) _))::(.val 12 (Wh (_=false) _))::(.adr 13 1 (.some 1) ((_=false)∧_=true))::(.val 14 (Wh ((_=false)∧_=true) _))::(.adr 15 1 (.some 1) ((_=false)∧_=true))::(.val 16 (Wh ((_=false)∧_=true) _))::(.val 17 (Wh ((_=false)∧_=true) _))::(.val 18 (Wh ((_=false)∧_=true) _))::(.val 19 (Wh ((_=false)∧_=true) _))::(.val 20 (Wh ((_=false)∧_=true) _))::(.val 21 (Wh ((_=false)∧_=true) _))::(.val 22 (Wh (_=false) _))::(.val 23 _)::(.val 24 _)::(.adr 25 1 (.some 1) (_=false))::(.val 26 (Wh (_=false) _))::(.val 27 (Wh (_=false) _))::(.val 28 (Wh (_=false) _))::(.val 29 (Wh (_=false) _))::(.adr 30 1 (.some 0) ((_=false)∧_=true))::(.val 31 (Wh ((_=false)∧_=true) _))::(.val 32 (Wh (_=false) _))::(.val 33 _)::[])) [.g 0,.o 30] hst (oc (ob_a rfl rfl (a_fld (lz0 0 rfl) fld_24_1)) (zv rfl rfl (r_loadf 0 rfl zk trivial (lz0 0 rfl) (Sub.part 1 rfl rfl) ty_22) (zv rfl rfl (r_lenm Tryz.underlying22 (vq 1 rfl)) (zv rfl rfl (r_gtr (vq 2 rfl) has_num) (zv rfl rfl (r_move (vq 3 rfl)) (oc (ob_ag rfl rfl rfl (vq 4 rfl) nq (fun hg=>a_fld (lz0 0 rfl) fld_24_1)) (oc (ob_gd rfl rfl rfl (vq 4 rfl) nq (fun hg=>r_loadf 5 rfl zk hg (lz0 0 rfl) (Sub.part 1 rfl rfl) ty_22)) (oc (ob_gd rfl rfl rfl (vq 4 rfl) nq (fun hg=>r_lenm Tryz.underlying22 (has_wh (vq 6 rfl) hg))) (oc (ob_gd rfl rfl rfl (vq 4 rfl) nq (fun hg=>r_gtr (has_wh (vq 7 rfl) hg) has_num)) (oc (ob_gd rfl rfl rfl (vq 4 rfl) nq (fun hg=>r_move (has_wh (vq 8 rfl) hg))) (oc (ob_ag2 rfl rfl rfl (vq 9 rfl) nq (fun hg=>a_fld (lz0 0 rfl) fld_24_1)) (oc (ob_gd2 rfl rfl rfl (vq 9 rfl) nq (fun hg=>r_loadf 10 rfl zk hg (lz0 0 rfl) (Sub.part 1 rfl rfl) ty_22)) (oc (ob_ag2 rfl rfl rfl (vq 9 rfl) nq (fun hg=>a_fld (lz0 0 rfl) fld_24_1)) (oc (ob_gd2 rfl rfl rfl (vq 9 rfl) nq (fun hg=>r_loadf 12 rfl zk hg (lz0 0 rfl) (Sub.part 1 rfl rfl) ty_22)) (oc (ob_gd2 rfl rfl rfl (vq 9 rfl) nq (fun hg=>r_lenm Tryz.underlying22 (has_wh (vq 13 rfl) hg))) (oc (ob_gd2 rfl rfl rfl (vq 9 rfl) nq (fun hg=>r_sub (has_wh (vq 14 rfl) hg) has_num (wi_pm (by have h:=hg.2; simp at h; omega) hk))) (oc (ob_gd2 rfl rfl rfl (vq 9 rfl) nq (fun hg=>r_idxmd sl_22 (has_wh (vq 11 rfl) hg) (has_wh (vq 15 rfl) hg) (by have h:=hg.2; simp at h; omega))) (oc (ob_gd2 rfl rfl rfl (vq 9 rfl) nq (fun hg=>r_loade (has_wh (vq 16 rfl) hg) ty_168)) (oc (ob_gd2 rfl rfl rfl (vq 9 rfl) nq (fun hg=>r_eql (has_wh (vq 17 rfl) hg) (has_nat 0 rfl))) (oc (ob_gd rfl rfl rfl (vq 4 rfl) nq (fun hg=>r_and (has_wh (vq 9 rfl) hg) (has_wh2 (vq 18 rfl) hg))) (zv rfl rfl (r_or (vq 4 rfl) (vq 19 rfl)) (zv rfl rfl (r_move (vq 20 rfl)) (oc (ob_ag rfl rfl rfl (vq 21 rfl) nq (fun hg=>a_fld (lz0 0 rfl) fld_24_1)) (oc (ob_gd rfl rfl rfl (vq 21 rfl) nq (fun hg=>r_loadf 22 rfl zk hg (lz0 0 rfl) (Sub.part 1 rfl rfl) ty_22)) (oc (ob_gd rfl rfl rfl (vq 21 rfl) nq (fun hg=>r_lenm Tryz.underlying22 (has_wh (vq 23 rfl) hg))) (oc (ob_gd rfl rfl rfl (vq 21 rfl) nq (fun hg=>r_eql (has_wh (vq 24 rfl) hg) has_num)) (oc (ob_gd rfl rfl rfl (vq 21 rfl) nq (fun hg=>r_move (has_wh (vq 25 rfl) hg))) (oc (ob_ag2 rfl rfl rfl (vq 26 rfl) nq (fun hg=>a_fld (lz0 0 rfl) fld_24_0)) (oc (ob_gd2 rfl rfl rfl (vq 26 rfl) nq (fun hg=>r_loadf 27 rfl zk hg (lz0 0 rfl) (Sub.part 0 rfl rfl) ty_4)) (oc (ob_gd rfl rfl rfl (vq 21 rfl) nq (fun hg=>r_and (has_wh (vq 26 rfl) hg) (has_wh2 (vq 28 rfl) hg))) (zv rfl rfl (r_or (vq 21 rfl) (vq 29 rfl)) o0))))))))))))))))))))))))))))))) (fun a w hst=>?_)
 have hst:St B w0 34 [(2,_),(33,_)] [⟨1,24,ptrH,_⟩] a w:=hst
 refine thn_normal ?_
 refine cond_of hst (zm 1 rfl) (fun hb0=>?_) (fun hb0=>?_)
 ·refine wp_seq ?_
  refine gl (sts:=[none]) (news:=[]) (sp:=[.val 2 _]) [.o 0] hst (zv rfl rfl (r_assign has_num) o0) (fun a w hst=>?_)
  have hst:St B w0 34 [(2,_)] [⟨1,24,ptrH,_⟩] a w:=hst
  refine thn_normal ?_
  refine wp_ret ?_
  refine thn_ret ?_
  refine ret_cast ?_ (ret_tmp rfl hst (zm 0 rfl))
  exact nu (check_e0 hb0)
 ·refine wp_skip ?_
  refine zt ?_
  refine gl (sts:=[none]) (news:=[]) (sp:=[.val 2 _]) [.o 0] hst (zv rfl rfl (r_assign has_num) o0) (fun a w hst=>?_)
  have hst:St B w0 34 [(2,_)] [⟨1,24,ptrH,_⟩] a w:=hst
  refine thn_normal ?_
  refine wp_ret ?_
  refine ret_cast ?_ (ret_tmp rfl hst (zm 0 rfl))
  exact nu (check_e1 hb0)
theorem of_e0 {n:Int} (h0 : -9223372036854775808≤n) (h:decide (n<0)=true):IntKind.u64.wrap (0 - IntKind.u64.wrap n)=(n.natAbs:Nat):=by
 simp at h; simp [IntKind.wrap,IntKind.bits,IntKind.signed]; omega
theorem of_e1 {n:Int} (h1:n<9223372036854775808) (h:decide (n<0)=false):IntKind.u64.wrap n=(n.natAbs:Nat):=by
 simp at h; simp [IntKind.wrap,IntKind.bits,IntKind.signed]; omega
theorem of_ok {n:Int} (h0 : -9223372036854775808≤n) (h1:n<9223372036854775808):okL [n.natAbs % 4294967296,n.natAbs / 4294967296]:=by
 intro x hx
 simp at hx
 rcases hx with rfl | rfl <;> omega
theorem of_e2 {n:Int} (h0 : -9223372036854775808≤n) (h1:n<9223372036854775808):(RIA (rsig (decide (n<0)) [n.natAbs % 4294967296,n.natAbs / 4294967296])).va=Zi n:=by
 rw [rsig_of (of_ok h0 h1) (z:=n) (by simp [val]; omega) (fun _=>rfl)]
theorem of_c (n:Int) (h0 : -9223372036854775808≤n) (h1:n<9223372036854775808):Cn Tryz.prog 246 [In n] (Zi n):=by
 refine Cn.intro Tryz.func246 rfl zk nq (fun B w0 a hst=>?_)
 have hst:St B w0 19 [(0,In n)] [] a w0.w:=hst
 refine wp_seq ?_
 refine gl (sts:=[]) (news:=[⟨2,24,ptrH,some 0,_,none⟩]) (sp:=[.alc 0]) [.g 0] hst (oc (ob_alc rfl rfl rfl (Str.zero str_int)) o0) (fun a w hst=>?_)
 have hst:St B w0 19 [(0,_)] [⟨2,24,ptrH,_⟩] a w:=hst
 refine zt ?_
 refine gl (sts:=[none]) (news:=[]) (sp:=[.val 4 _,.val 5 _,.val 3 _]) [.g 0,.o 2] hst (zv rfl rfl (r_move (gq 0 rfl)) (zv rfl rfl (r_convk .u64 zk zk (vq 0 rfl) (rfl)) (zv rfl rfl (r_assign (vq 1 rfl)) o0))) (fun a w hst=>?_)
 have hst:St B w0 19 [(0,_),(3,_)] [⟨2,24,ptrH,_⟩] a w:=hst
 refine zt ?_
 refine wp_seq ?_
 refine gl (sts:=[none]) (news:=[]) (sp:=[.val 6 _,.val 7 _]) [.g 0,.g 1,.o 1] hst (zv rfl rfl (r_move (gq 0 rfl)) (zv rfl rfl (r_lss (vq 0 rfl) has_num) o0)) (fun a w hst=>?_)
 have hst:St B w0 19 [(0,_),(3,_),(7,_)] [⟨2,24,ptrH,_⟩] a w:=hst
 refine thn_normal ?_
 refine cond_join (fun a w =>  St B w0 19 [(0,In n),(3,(NumA .u64 (n.natAbs:Nat)).va)] [⟨2,24,ptrH,cat [BoA false,MgA []]⟩] a w) hst (zm 2 rfl) (fun hb0=>?_) (fun hb0=>?_) (fun a w hst=>?_)
 ·refine gl (sts:=[none]) (news:=[]) (sp:=[.val 8 _,.val 9 _,.val 3 _]) [.g 0,.o 2] hst (zv rfl rfl (r_move (gq 1 rfl)) (zv rfl rfl (r_neg (vq 0 rfl) (rfl)) (zv rfl rfl (r_assign (vq 1 rfl)) o0))) (fun a w hst=>?_)
  have hst:St B w0 19 [(0,_),(3,_)] [⟨2,24,ptrH,_⟩] a w:=hst
  refine thn_normal ?_
  have hst:=St.sel hst [0,1]
  rw [of_e0 h0 hb0] at hst; exact hst
 ·refine wp_skip ?_
  refine thn_normal ?_
  have hst:=St.sel hst [0,1]
  rw [of_e1 h1 hb0] at hst; exact hst
 refine zt ?_
 refine gl (sts:=[some (9,_)]) (news:=[]) (sp:=[.val 10 _,.val 11 _,.val 12 _,.val 13 _,.val 14 _,.val 15 _,.val 16 _,.val 17 _,.val 18 _,.sto 0]) [] hst (zv rfl rfl (r_move (gq 0 rfl)) (zv rfl rfl (r_lss (vq 0 rfl) has_num) (zv rfl rfl (r_move (gq 1 rfl)) (zv rfl rfl (r_convk .u32 zk zk (vq 2 rfl) (wu32')) (zv rfl rfl (r_move (gq 1 rfl)) (zv rfl rfl (r_shr (vq 4 rfl) (has_nat 32 rfl) zd (nshr)) (zv rfl rfl (r_convk .u32 zk zk (vq 5 rfl) (wu32 (by show n.natAbs / 4294967296<_; omega))) (zv rfl rfl (r_slicem (l:=[_,_]) (xs:=[.tmp 13,.tmp 16]) sl_22 zk nq nq (of_ok h0 h1) (.cons (vq 3 rfl) (.cons (vq 6 rfl) .nil)) rfl rfl) (zv rfl rfl (r_call (xs:=[.tmp 11,.tmp 17]) (signedA_c _ _) (.cons (vq 1 rfl) (.cons (vq 7 rfl) .nil))) (oc (ob_sto rfl rfl rfl (vq 8 rfl) ty_24 (Eq.trans (b:=2) rfl rfl)) o0)))))))))) (fun a w hst=>?_)
 have hst:St B w0 19 [] [⟨2,24,ptrH,_⟩] a w:=hst
 refine thn_normal ?_
 refine wp_ret ?_
 refine ret_cast ?_ (ret_cell rfl hst (zm 0 rfl) ty_24)
 exact of_e2 h0 h1
theorem len_mono {m n:Nat} (h:m≤n):(limbs m).length≤(limbs n).length:=limbs_len_le (Nat.lt_of_le_of_lt h (lt_of_limbs_len (Nat.le_refl _)))
theorem sizeL_limbs {m n:Nat}:(0≤sizeL (limbs m) (limbs n)↔n≤m)∧(0<sizeL (limbs m) (limbs n)↔n<m):=by
 unfold sizeL
 rw [val_limbs,val_limbs]
 by_cases h:(limbs m).length=(limbs n).length
 ·rw [if_neg zo]
  split
  ·omega
  ·split <;> omega
 ·rw [if_pos zo]
  by_cases h2:m≤n
  ·have:=len_mono h2
   have:m≠n:=fun e=>h (by rw [e])
   omega
  ·have:=len_mono (Nat.le_of_lt (Nat.lt_of_not_le h2))
   omega
theorem val_sum {a b:Nat}:val (digs (max (limbs a).length (limbs b).length+1) (a+b))=a+b:=by
 rw [val_digs,Nat.mod_eq_of_lt]
 have h1:=lt_of_limbs_len (n:=a) (k:=max (limbs a).length (limbs b).length) (Nat.le_max_left _ _)
 have h2:=lt_of_limbs_len (n:=b) (k:=max (limbs a).length (limbs b).length) (Nat.le_max_right _ _)
 rw [Nat.pow_succ]
 omega
theorem plus_e0 {a b:Int} (h:((riOf a).neg == (riOf b).neg)=true):(RIA (rsig (riOf a).neg (digs (max (riOf a).mag.length (riOf b).mag.length+1) (val (riOf a).mag+val (riOf b).mag)))).va=Zi (a+b):=by
 have h':decide (a<0)=decide (b<0):=by simpa [riOf] using h
 rw [val_ri,val_ri,rsig_of (okL_digs _ _) (z:=a+b) (by show val (digs (max (limbs a.natAbs).length (limbs b.natAbs).length+1) _)=_; rw [val_sum]; simp only [decide_eq_decide] at h'; omega) (fun hz=>by show decide (a<0)=_; simp only [decide_eq_decide] at h' ⊢; omega)]
theorem plus_e1 {a b:Int} (h:((riOf a).neg == (riOf b).neg)=false) (h2:b.natAbs≤a.natAbs):(RIA (rsig (riOf a).neg (limbs (val (riOf a).mag - val (riOf b).mag)))).va=Zi (a+b):=by
 have h':¬ decide (a<0)=decide (b<0):=by simpa [riOf] using h
 rw [val_ri,val_ri,rsig_of (canon_limbs _).1 (z:=a+b) (by rw [val_limbs]; simp only [decide_eq_decide] at h'; omega) (fun hz=>by show decide (a<0)=_; simp only [decide_eq_decide] at h' ⊢; omega)]
theorem plus_e2 {a b:Int} (h:((riOf a).neg == (riOf b).neg)=false) (h2:a.natAbs≤b.natAbs):(RIA (rsig (riOf b).neg (limbs (val (riOf b).mag - val (riOf a).mag)))).va=Zi (a+b):=by
 have h':¬ decide (a<0)=decide (b<0):=by simpa [riOf] using h
 rw [val_ri,val_ri,rsig_of (canon_limbs _).1 (z:=a+b) (by rw [val_limbs]; simp only [decide_eq_decide] at h'; omega) (fun hz=>by show decide (b<0)=_; simp only [decide_eq_decide] at h' ⊢; omega)]
theorem plus_g1 {a b:Int} (h:decide (sizeL (riOf a).mag (riOf b).mag≥0)=true):b.natAbs≤a.natAbs:=(sizeL_limbs (m:=a.natAbs) (n:=b.natAbs)).1.1 (by simpa [riOf] using h)
theorem plus_g2 {a b:Int} (h:decide (sizeL (riOf a).mag (riOf b).mag≥0)=false):a.natAbs≤b.natAbs:=by
 have:=(sizeL_limbs (m:=a.natAbs) (n:=b.natAbs)).1
 have h':¬ 0≤sizeL (limbs a.natAbs) (limbs b.natAbs):=by simpa [riOf] using h
 omega
theorem minus_e {b:Int}:(cat (setAll [BoA false,MgA []] [(0,BoA (!(riOf b).neg && decide (((riOf b).mag.length:Int)>0))),(1,MgA (riOf b).mag)])).va=Zi (-b):=by
 have e:(!(riOf b).neg && decide (((riOf b).mag.length:Int)>0))=(riOf (-b)).neg:=by
  by_cases h:b=0
  ·subst h; simp [riOf,limbs_zero]
  ·have:0<(limbs b.natAbs).length:=by rw [limbs_pos zo]; simp
   simp [riOf,this]
   by_cases h2:b<0 <;> simp [h2] <;> omega
 rw [e]
 have e2:(riOf b).mag=(riOf (-b)).mag:=by simp [riOf]
 rw [e2]
 rfl
theorem lz_neg (b:Int):lz (-b)=lz b:=by simp [lz]
theorem plus_c (p q:Int) (hp:lz p≤1099511627776) (hq:lz q≤1099511627776):Cn Tryz.prog 294 [Zi p,Zi q] (Zi (p+q)):=by
 refine Cn.intro Tryz.func294 rfl zk nq (fun B w0 a hst=>?_)
 have hst:St B w0 40 [(0,Zi p),(1,Zi q)] [] a w0.w:=hst
 refine wp_seq ?_
 refine gl (sts:=[]) (news:=[⟨2,24,ptrH,some 0,_,none⟩,⟨3,24,ptrH,some 1,_,none⟩,⟨4,24,ptrH,some 2,_,none⟩]) (sp:=[.alc 0,.alc 1,.alc 2]) [] hst (oc (ob_box rfl rfl rfl (gq 0 rfl)) (oc (ob_box rfl rfl rfl (gq 1 rfl)) (oc (ob_alc rfl rfl rfl (Str.zero str_int)) o0))) (fun a w hst=>?_)
 have hst:St B w0 40 [] [⟨2,24,ptrH,_⟩,⟨3,24,ptrH,_⟩,⟨4,24,ptrH,_⟩] a w:=hst
 refine zt ?_
 refine wp_seq ?_
 refine gl (sts:=[none,none,none]) (news:=[]) (sp:=[.adr 5 2 (.some 0) True,.val 6 _,.adr 7 3 (.some 0) True,.val 8 _,.val 9 _]) [.o 4] hst (oc (ob_a rfl rfl (a_fld (lz0 0 rfl) fld_24_0)) (zv rfl rfl (r_loadf 0 rfl zk trivial (lz0 0 rfl) (Sub.part 0 rfl rfl) ty_4) (oc (ob_a rfl rfl (a_fld (lz0 1 rfl) fld_24_0)) (zv rfl rfl (r_loadf 2 rfl zk trivial (lz0 1 rfl) (Sub.part 0 rfl rfl) ty_4) (zv rfl rfl (r_eqlb zk (vq 1 rfl) (vq 3 rfl)) o0))))) (fun a w hst=>?_)
 have hst:St B w0 40 [(9,_)] [⟨2,24,ptrH,_⟩,⟨3,24,ptrH,_⟩,⟨4,24,ptrH,_⟩] a w:=hst
 refine thn_normal ?_
 refine cond_of hst (zm 0 rfl) (fun hb0=>?_) (fun hb0=>?_)
 ·refine wp_seq ?_
  refine go_draw (anc:=[[],[0],[],[2],[],[4],[2,3,4,5],[0,1,2,3,4,5,6],[0,1,2,3,4,5,6,7]]) (sts:=[none,none,some (8,_)]) (news:=[]) (sp:=[.adr 10 2 (.some 0) True,.val 11 _,.adr 12 2 (.some 1) True,.val 13 _,.adr 14 3 (.some 1) True,.val 15 _,.val 16 _,.val 17 _,.sto 2]) [] follows_mixed hst (oc (ob_a rfl rfl (a_fld (lz0 0 rfl) fld_24_0)) (zv rfl rfl (r_loadf 0 rfl zk trivial (lz0 0 rfl) (Sub.part 0 rfl rfl) ty_4) (oc (ob_a rfl rfl (a_fld (lz0 0 rfl) fld_24_1)) (zv rfl rfl (r_loadf 2 rfl zk trivial (lz0 0 rfl) (Sub.part 1 rfl rfl) ty_22) (oc (ob_a rfl rfl (a_fld (lz0 1 rfl) fld_24_1)) (zv rfl rfl (r_loadf 4 rfl zk trivial (lz0 1 rfl) (Sub.part 1 rfl rfl) ty_22) (zv rfl rfl (r_call (xs:=[.tmp 13,.tmp 15]) ((add_c _ _ hp hq).free (free_mgNA _).va) (.cons (vq 3 rfl) (.cons (vq 5 rfl) .nil))) (zv rfl rfl (r_call (xs:=[.tmp 11,.tmp 16]) (signedA_c _ _) (.cons (vq 1 rfl) (.cons (vq 6 rfl) .nil))) (oc (ob_sto rfl rfl rfl (vq 7 rfl) ty_24 (Eq.trans (b:=2) rfl rfl)) o0))))))))) zk zk zk zk (fun a w hst=>?_)
  have hst:St B w0 40 [] [⟨2,24,ptrH,_⟩,⟨3,24,ptrH,_⟩,⟨4,24,ptrH,_⟩] a w:=hst
  refine thn_normal ?_
  refine wp_ret ?_
  refine thn_ret ?_
  refine ret_cast ?_ (ret_cell rfl hst (zm 2 rfl) ty_24)
  exact plus_e0 hb0
 ·refine wp_skip ?_
  refine zt ?_
  refine wp_seq ?_
  refine gl (sts:=[none,none,none]) (news:=[]) (sp:=[.adr 18 2 (.some 1) True,.val 19 _,.adr 20 3 (.some 1) True,.val 21 _,.val 22 _,.val 23 _]) [.o 5] hst (oc (ob_a rfl rfl (a_fld (lz0 0 rfl) fld_24_1)) (zv rfl rfl (r_loadf 0 rfl zk trivial (lz0 0 rfl) (Sub.part 1 rfl rfl) ty_22) (oc (ob_a rfl rfl (a_fld (lz0 1 rfl) fld_24_1)) (zv rfl rfl (r_loadf 2 rfl zk trivial (lz0 1 rfl) (Sub.part 1 rfl rfl) ty_22) (zv rfl rfl (r_call (xs:=[.tmp 19,.tmp 21]) (size_c _ _) (.cons (vq 1 rfl) (.cons (vq 3 rfl) .nil))) (zv rfl rfl (r_geq (vq 4 rfl) has_num) o0)))))) (fun a w hst=>?_)
  have hst:St B w0 40 [(23,_)] [⟨2,24,ptrH,_⟩,⟨3,24,ptrH,_⟩,⟨4,24,ptrH,_⟩] a w:=hst
  refine thn_normal ?_
  refine cond_of hst (zm 0 rfl) (fun hb1=>?_) (fun hb1=>?_)
  ·refine wp_seq ?_
   refine go_draw (anc:=[[],[0],[],[2],[],[4],[2,3,4,5],[0,1,2,3,4,5,6],[0,1,2,3,4,5,6,7]]) (sts:=[none,none,some (8,_)]) (news:=[]) (sp:=[.adr 24 2 (.some 0) True,.val 25 _,.adr 26 2 (.some 1) True,.val 27 _,.adr 28 3 (.some 1) True,.val 29 _,.val 30 _,.val 31 _,.sto 2]) [] follows_mixed hst (oc (ob_a rfl rfl (a_fld (lz0 0 rfl) fld_24_0)) (zv rfl rfl (r_loadf 0 rfl zk trivial (lz0 0 rfl) (Sub.part 0 rfl rfl) ty_4) (oc (ob_a rfl rfl (a_fld (lz0 0 rfl) fld_24_1)) (zv rfl rfl (r_loadf 2 rfl zk trivial (lz0 0 rfl) (Sub.part 1 rfl rfl) ty_22) (oc (ob_a rfl rfl (a_fld (lz0 1 rfl) fld_24_1)) (zv rfl rfl (r_loadf 4 rfl zk trivial (lz0 1 rfl) (Sub.part 1 rfl rfl) ty_22) (zv rfl rfl (r_call (xs:=[.tmp 27,.tmp 29]) ((sub_c _ _ hp (len_mono (plus_g1 hb1)) (by show val (limbs _)≤val (limbs _); rw [val_limbs,val_limbs]; exact plus_g1 hb1)).free (free_mgNA _).va) (.cons (vq 3 rfl) (.cons (vq 5 rfl) .nil))) (zv rfl rfl (r_call (xs:=[.tmp 25,.tmp 30]) (signedA_c _ _) (.cons (vq 1 rfl) (.cons (vq 6 rfl) .nil))) (oc (ob_sto rfl rfl rfl (vq 7 rfl) ty_24 (Eq.trans (b:=2) rfl rfl)) o0))))))))) zk zk zk zk (fun a w hst=>?_)
   have hst:St B w0 40 [] [⟨2,24,ptrH,_⟩,⟨3,24,ptrH,_⟩,⟨4,24,ptrH,_⟩] a w:=hst
   refine thn_normal ?_
   refine wp_ret ?_
   refine thn_ret ?_
   refine ret_cast ?_ (ret_cell rfl hst (zm 2 rfl) ty_24)
   exact plus_e1 hb0 (plus_g1 hb1)
  ·refine wp_skip ?_
   refine zt ?_
   refine go_draw (anc:=[[],[0],[],[2],[],[4],[2,3,4,5],[0,1,2,3,4,5,6],[0,1,2,3,4,5,6,7]]) (sts:=[none,none,some (8,_)]) (news:=[]) (sp:=[.adr 32 3 (.some 0) True,.val 33 _,.adr 34 3 (.some 1) True,.val 35 _,.adr 36 2 (.some 1) True,.val 37 _,.val 38 _,.val 39 _,.sto 2]) [] follows_mixed hst (oc (ob_a rfl rfl (a_fld (lz0 1 rfl) fld_24_0)) (zv rfl rfl (r_loadf 0 rfl zk trivial (lz0 1 rfl) (Sub.part 0 rfl rfl) ty_4) (oc (ob_a rfl rfl (a_fld (lz0 1 rfl) fld_24_1)) (zv rfl rfl (r_loadf 2 rfl zk trivial (lz0 1 rfl) (Sub.part 1 rfl rfl) ty_22) (oc (ob_a rfl rfl (a_fld (lz0 0 rfl) fld_24_1)) (zv rfl rfl (r_loadf 4 rfl zk trivial (lz0 0 rfl) (Sub.part 1 rfl rfl) ty_22) (zv rfl rfl (r_call (xs:=[.tmp 35,.tmp 37]) ((sub_c _ _ hq (len_mono (plus_g2 hb1)) (by show val (limbs _)≤val (limbs _); rw [val_limbs,val_limbs]; exact plus_g2 hb1)).free (free_mgNA _).va) (.cons (vq 3 rfl) (.cons (vq 5 rfl) .nil))) (zv rfl rfl (r_call (xs:=[.tmp 33,.tmp 38]) (signedA_c _ _) (.cons (vq 1 rfl) (.cons (vq 6 rfl) .nil))) (oc (ob_sto rfl rfl rfl (vq 7 rfl) ty_24 (Eq.trans (b:=2) rfl rfl)) o0))))))))) zk zk zk zk (fun a w hst=>?_)
   have hst:St B w0 40 [] [⟨2,24,ptrH,_⟩,⟨3,24,ptrH,_⟩,⟨4,24,ptrH,_⟩] a w:=hst
   refine thn_normal ?_
   refine wp_ret ?_
   refine ret_cast ?_ (ret_cell rfl hst (zm 2 rfl) ty_24)
   exact plus_e2 hb0 (plus_g2 hb1)
theorem minus_c (p q:Int) (hp:lz p≤1099511627776) (hq:lz q≤1099511627776):Cn Tryz.prog 302 [Zi p,Zi q] (Zi (p - q)):=by
 refine Cn.intro Tryz.func302 rfl zk nq (fun B w0 a hst=>?_)
 have hst:St B w0 19 [(0,Zi p),(1,Zi q)] [] a w0.w:=hst
 refine wp_seq ?_
 refine gl (sts:=[]) (news:=[⟨2,24,ptrH,some 0,_,none⟩,⟨3,24,ptrH,some 1,_,none⟩,⟨4,24,ptrH,some 2,_,none⟩]) (sp:=[.alc 0,.alc 1,.alc 2]) [] hst (oc (ob_box rfl rfl rfl (gq 0 rfl)) (oc (ob_box rfl rfl rfl (gq 1 rfl)) (oc (ob_alc rfl rfl rfl (Str.zero str_int)) o0))) (fun a w hst=>?_)
 have hst:St B w0 19 [] [⟨2,24,ptrH,_⟩,⟨3,24,ptrH,_⟩,⟨4,24,ptrH,_⟩] a w:=hst
 refine zt ?_
 refine gl (sts:=[none,none,some (14,_)]) (news:=[]) (sp:=[.val 5 _,.adr 6 3 (.some 0) True,.val 7 _,.val 8 _,.val 9 _,.adr 10 3 (.some 1) (_=true),.val 11 (Wh (_=true) _),.val 12 (Wh (_=true) _),.val 13 (Wh (_=true) _),.val 14 _,.adr 15 3 (.some 1) True,.val 16 _,.val 17 _,.val 18 _,.sto 2]) [] hst (zv rfl rfl (r_load (lz0 0 rfl) ty_24) (oc (ob_a rfl rfl (a_fld (lz0 1 rfl) fld_24_0)) (zv rfl rfl (r_loadf 1 rfl zk trivial (lz0 1 rfl) (Sub.part 0 rfl rfl) ty_4) (zv rfl rfl (r_not (vq 2 rfl)) (zv rfl rfl (r_move (vq 3 rfl)) (oc (ob_ag rfl rfl rfl (vq 4 rfl) nq (fun hg=>a_fld (lz0 1 rfl) fld_24_1)) (oc (ob_gd rfl rfl rfl (vq 4 rfl) nq (fun hg=>r_loadf 5 rfl zk hg (lz0 1 rfl) (Sub.part 1 rfl rfl) ty_22)) (oc (ob_gd rfl rfl rfl (vq 4 rfl) nq (fun hg=>r_lenm Tryz.underlying22 (has_wh (vq 6 rfl) hg))) (oc (ob_gd rfl rfl rfl (vq 4 rfl) nq (fun hg=>r_gtr (has_wh (vq 7 rfl) hg) has_num)) (zv rfl rfl (r_and (vq 4 rfl) (vq 8 rfl)) (oc (ob_a rfl rfl (a_fld (lz0 1 rfl) fld_24_1)) (zv rfl rfl (r_loadf 10 rfl zk trivial (lz0 1 rfl) (Sub.part 1 rfl rfl) ty_22) (zv rfl rfl (r_build (xs:=[(0,.tmp 14),(1,.tmp 16)]) (qs:=[(0,_),(1,_)]) str_int (.cons ⟨rfl,(vq 9 rfl),rfl⟩ (.cons ⟨rfl,(vq 11 rfl),rfl⟩ .nil))) (zv rfl rfl (r_call (xs:=[.tmp 5,.tmp 17]) ((plus_c p (-q) hp (by rw [lz_neg]; exact hq)).pre (congrArg (fun A=>[Zi p,A]) minus_e)) (.cons (vq 0 rfl) (.cons (vq 12 rfl) .nil))) (oc (ob_sto rfl rfl rfl (vq 13 rfl) ty_24 (Eq.trans (b:=2) rfl rfl)) o0))))))))))))))) (fun a w hst=>?_)
 have hst:St B w0 19 [] [⟨2,24,ptrH,_⟩,⟨3,24,ptrH,_⟩,⟨4,24,ptrH,_⟩] a w:=hst
 refine thn_normal ?_
 refine wp_ret ?_
 refine ret_cast ?_ (ret_cell rfl hst (zm 2 rfl) ty_24)
 exact congrArg Zi Int.sub_eq_add_neg.symm
theorem turnedZ_c (p:Int) (hp:lz p≤1099511627776):Cn Tryz.prog 293 [Zi p] (Zi (-p)):=by
 refine Cn.intro Tryz.func293 rfl zk nq (fun B w0 a hst=>?_)
 have hst:St B w0 6 [(0,Zi p)] [] a w0.w:=hst
 refine wp_seq ?_
 refine gl (sts:=[]) (news:=[⟨1,24,ptrH,some 0,_,none⟩,⟨2,24,ptrH,some 1,_,none⟩]) (sp:=[.alc 0,.alc 1]) [] hst (oc (ob_box rfl rfl rfl (gq 0 rfl)) (oc (ob_alc rfl rfl rfl (Str.zero str_int)) o0)) (fun a w hst=>?_)
 have hst:St B w0 6 [] [⟨1,24,ptrH,_⟩,⟨2,24,ptrH,_⟩] a w:=hst
 refine zt ?_
 refine go_draw (anc:=[[],[],[0,1],[0,1,2]]) (sts:=[none,some (3,_)]) (news:=[]) (sp:=[.val 3 _,.val 4 _,.val 5 _,.sto 1]) [] follows_mixed hst (zv rfl rfl (r_call (xs:=[.const (.int .i64 (0))]) (of_c 0 zd zd) (.cons has_num .nil)) (zv rfl rfl (r_load (lz0 0 rfl) ty_24) (zv rfl rfl (r_call (xs:=[.tmp 3,.tmp 4]) (minus_c 0 p (by simp [lz,limbs_zero]) hp) (.cons (vq 0 rfl) (.cons (vq 1 rfl) .nil))) (oc (ob_sto rfl rfl rfl (vq 2 rfl) ty_24 (Eq.trans (b:=2) rfl rfl)) o0)))) zk zk zk zk (fun a w hst=>?_)
 have hst:St B w0 6 [] [⟨1,24,ptrH,_⟩,⟨2,24,ptrH,_⟩] a w:=hst
 refine thn_normal ?_
 refine wp_ret ?_
 refine ret_cast ?_ (ret_cell rfl hst (zm 1 rfl) ty_24)
 exact congrArg Zi (Int.zero_sub p)
end Go.Proofs.YthncfchnkjemiaaGreatDoor
