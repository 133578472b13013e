import Derived.Test.YtljkepdpoelpkaaBsAa
import Derived.Test.YtljkepdpoelpkaaBsAc
import Derived.Test.YtljkepdpoelpkaaBsAn
import Derived.Test.YtljkepdpoelpkaaBsAt
import Derived.Test.YtljkepdpoelpkaaBsAu
import Derived.ProofKit
import Derived.OpenShut
import Derived.ChangeOld
import Derived.Below
set_option linter.unusedVariables false
set_option linter.unusedSimpArgs false
set_option linter.unusedSectionVars false
set_option maxRecDepth 100000
namespace Go.Proofs.Ytljkepdpoelpkaa
open Go Go.RowKit
section
open Rg
variable {P:Program} {Q:Exit→Act→World→Prop} {B N:Nat} {w0:Bs} {Γ:List (Nat × VA)} {Λ:List Lc} {a:Act} {w:World}
def lesA (Λ:List Lc)(d n:Nat):List Le:=(Λ.map fun l=>⟨l.s,l.T,l.H,none,l.A,none⟩)++[⟨d,999999,ptrH,some n,OneC,some (n+1,OneC)⟩]
theorem go_headA {id:Nat}{ops:Array Oper}{sp:List Sp}(n m d:Nat)(src:List Src)
  (h:St B w0 N Γ Λ a w) (hob:Obs P Q ⟨ops,N,Γ,lesA Λ d n,sp,fun i=>List.range i⟩ B w0 0 n) (hsz:ops.size=n+m) (hk:Rg.chk ⟨ops,N,Γ,lesA Λ d n,sp,fun i=>List.range i⟩=true)
  (hsrc:src.all (fun s=>match s with | .g k=>(match Γ[k]? with | some x=>Rg.outG ⟨ops,N,Γ,lesA Λ d n,sp,fun i=>List.range i⟩ x.1 | none=>false) | .o i=>decide (i<n))=true)
  (hQ:∀ a' w',St B w0 N (src.filterMap (takeS ⟨ops,N,Γ,lesA Λ d n,sp,fun i=>List.range i⟩)) Λ a' w'→wpOps P ops Q (List.range' n m) a' w'):(Code.region id ops false).wp P Q a w:=by
 refine Rg.linK (R:=⟨ops,N,Γ,lesA Λ d n,sp,fun i=>List.range i⟩) (m:=m) hsz rfl hk h (fun y hy hcr=>?_) (fun i hi=>hob.all i zo zo) fun a1 w1 hinv=>?_
 ·rcases List.mem_append.1 hy with hy | hy
  ·obtain ⟨l,hl,rfl⟩:=List.mem_map.1 hy
   exact hl
  ·obtain rfl:=List.mem_singleton.1 hy
   cases hcr
 ·exact hQ a1 w1 (inv_stS (fun l' hl'=>⟨none,List.mem_append.2 (.inl (List.mem_map.2 ⟨l',hl',rfl⟩))⟩) (fun y hy i A' h1=>by
   rcases List.mem_append.1 hy with hy | hy
   ·obtain ⟨l,hl,rfl⟩:=List.mem_map.1 hy
    cases h1
   ·obtain rfl:=List.mem_singleton.1 hy
    injection h1 with h1
    injection h1 with h1 _
    omega) hinv src hsrc)
end
def sE (x:RE):EQ:=if x.k=3 then (1,toQ x.p/toQ x.q) else if x.k=4 then (2,toQ x.p*toQ x.q) else (x.k,toQ x.p)
def simQ (xs:List RE):List EQ:=xs.foldl (fun L x=>putQ L (sE x).1 (sE x).2) []
def simF (xs:List RE):List EQ × Int:=if chF xs=0 then toldL (simQ xs) else ([],chF xs)
theorem sim_nx {xs:List RE}{j:Nat}(h:j<xs.length):simQ (xs.take (j+1))=putQ (simQ (xs.take j)) (sE xs[j]).1 (sE xs[j]).2:=by
 rw [List.take_succ_eq_append_getElem h]
 unfold simQ
 rw [List.foldl_append]
 rfl
theorem sim_len (xs:List RE):(simQ xs).length≤xs.length:=by
 have key:∀ (xs:List RE) (L:List EQ),(xs.foldl (fun L x=>putQ L (sE x).1 (sE x).2) L).length≤L.length+xs.length:=by
  intro xs
  induction xs with
  | nil=>intro L; simp
  | cons x xs ih =>
   intro L
   have h1:=ih (putQ L (sE x).1 (sE x).2)
   have h2:=put_len L (sE x).1 (sE x).2
   simp only [List.foldl_cons,List.length_cons]
   omega
 have:=key xs []
 simpa [simQ] using this
theorem sE_3 {x:RE}(h:(x.k==3)=true):sE x=(1,toQ x.p/toQ x.q):=if_pos (by simpa using h)
theorem sE_4 {x:RE}(h0:(x.k==3)=false)(h:(x.k==4)=true):sE x=(2,toQ x.p*toQ x.q):=by rw [sE,if_neg (by simpa using h0),if_pos (by simpa using h)]
theorem sE_o {x:RE}(h0:(x.k==3)=false)(h:(x.k==4)=false):sE x=(x.k,toQ x.p):=by rw [sE,if_neg (by simpa using h0),if_neg (by simpa using h)]
theorem el_q0 {x:RE}(h:elF x=true)(h3:(x.k==3)=true):toQ x.q≠0:=by
 have h3:x.k=3:=by simpa using h3
 obtain ⟨_,hk⟩:=el_kinds h
 rcases hk with hk | hk | ⟨_,h0⟩ | hk | hk
 ·omega
 ·omega
 ·exact h0
 ·omega
 ·omega
theorem own_sim {xs:List RE}{j k:Nat}{e:Int}{p:Rat}(hj:j<xs.length)(h:sE xs[j]=(e,p)):OwnC 49 9 [U32] ((putQ (simQ (xs.take j)) e p).map (EB k))=OwnC 49 9 [U32] ((simQ (xs.take (j+1))).map (EB k)):=by
 rw [sim_nx hj,h]
set_option maxHeartbeats 2000000 in
theorem simple_c (xs:List RE):Cn Try.prog 7 [(SlA 49 [U32] (xs.map REA)).va] (BnR 16781312 (simF xs)):=by
 refine Cn.introW Try.func7 rfl zk nq (.cons (up_sl (fun A hA=>by obtain ⟨x,_,rfl⟩:=List.mem_map.1 hA; exact upA_re x)).va .nil) free_bnR (fun B w0 a hB0 hst=>?_)
 have hst:St B w0 52 [(0,(SlO 49 [U32] (xs.map REA) True).va)] [] a w0.w:=hst
 refine wp_seq ?_
 refine gl (sts:=[]) (news:=[]) (sp:=[.val 2 _,.val 3 _]) [.g 0,.o 0,.o 1] hst (zv rfl (za2 zbj) (zv rfl (za2 za3) o0)) (fun a w hst=>?_)
 have hst:St B w0 52 [(0,_),(2,_),(3,_)] [] a w:=hst
 refine zt ?_
 refine wp_seq ?_
 refine gl (sts:=[]) (news:=[]) (sp:=[.val 9 _,.val 10 _,.val 4 _]) [.g 0,.g 1,.g 2,.o 2] hst (zv rfl (za1 (gq 0 rfl)) (zv rfl (za5 (xs:=[.tmp 9]) ((benCheck_c xs).wk (.cons slx .nil)) (.cons (vq 0 rfl) .nil)) (zv rfl (za2 (vq 1 rfl)) o0))) (fun a w hst=>?_)
 have hst:St B w0 52 [(0,_),(2,_),(3,_),(4,_)] [] a w:=hst
 refine zt<|gl (sts:=[]) (news:=[]) (sp:=[.val 11 _,.val 12 _]) [.g 0,.g 1,.g 2,.g 3,.o 1] hst (zv rfl (za1 (gq 3 rfl)) (zv rfl (zch (vq 0 rfl) za3) o0)) (fun a w hst=>?_)
 have hst:St B w0 52 [(0,_),(2,_),(3,_),(4,_),(12,_)] [] a w:=hst
 refine za0 ?_
 refine zaa hst (zm 4 rfl) (fun hb0=>?_) (fun hb0=>?_)
 ·have hc:¬ chF xs=0:=by simpa using hb0
  refine wp_seq ?_
  refine gl (sts:=[]) (news:=[]) (sp:=[.val 13 _,.val 2 _,.val 3 _]) [.g 0,.o 1,.o 2] hst (zv rfl (za1 (gq 3 rfl)) (zv rfl (za2 zbj) (zv rfl (za2 (vq 0 rfl)) o0))) (fun a w hst=>?_)
  have hst:St B w0 52 [(0,_),(2,_),(3,_)] [] a w:=hst
  refine za0 ?_
  refine wp_ret ?_
  refine zag ?_
  refine zak ?_ (zay (rs:=[.tmp 2,.tmp 3]) rfl hst (.tmp (zm 1 rfl) (.tmp (zm 2 rfl) .nil)) zd)
  rw [simF,if_neg hc]; exact tu2w nil_ownB zbl
 ·have hc:chF xs=0:=by simpa using hb0
  obtain ⟨hl4,hal⟩:=ch_ok hc
  refine wp_skip ?_
  refine zt<|gl (sts:=[]) (news:=[⟨5,22,ptrH,some 0,_,none⟩]) (sp:=[.alc 0]) [.g 0,.g 1,.g 2] hst (oc (zao rfl rfl rfl zero_elB) o0) (fun a w hst=>?_)
  have hst:St B w0 52 [(0,_),(2,_),(3,_)] [⟨5,22,ptrH,_⟩] a w:=hst
  refine zt ?_
  obtain ⟨q5,hst⟩:=St.nm hst 0 rfl
  refine gl (sts:=[none]) (news:=[]) (sp:=[.val 14 _,.val 6 _]) [.g 0,.g 1,.g 2,.g 3,.o 1] hst (zv rfl (za5 (xs:=[.tmp 5]) (builder_c q5) (.cons (gq 0 rfl) .nil)) (zv rfl (za2 (vq 0 rfl)) o0)) (fun a w hst=>?_)
  have hst:St B w0 52 [(5,_),(0,_),(2,_),(3,_),(6,_)] [⟨5,22,ptrH,_⟩] a w:=hst
  refine zt ?_
  refine wp_seq ?_
  refine gl (sts:=[none]) (news:=[]) (sp:=[.val 15 _,.val 16 _,.val 17 _]) [.g 0,.g 2,.g 3,.g 4,.o 0,.o 1,.o 2] hst (zv rfl (za1 (gq 1 rfl)) (zv rfl (r_len Try.underlying22 (has_and (zau (E:=49) (vq 0 rfl)))) (zv rfl (za1 za3) o0))) (fun a w hst=>?_)
  have hst:St B w0 52 [(5,_),(2,_),(3,_),(6,_),(15,_),(16,_),(17,_)] [⟨5,22,ptrH,_⟩] a w:=hst
  refine za0 ?_
  refine wp_block ?_
  have hst:=St.sel hst [0,3,4,5,6]
  refine wp_loop_ghost (fun n a w=>∃ j:Nat,n+j=xs.length∧St B w0 52 [(5,EqV (ptr q5)),(6,FnB 44 54 q5),(15,(SlO 49 [U32] (xs.map REA) True).va),(16,In (xs.length:Nat)),(17,In (j:Nat))] [⟨5,22,ptrH,OwnC 49 9 [U32] ((simQ (xs.take j)).map (EB (4097*j)))⟩] a w) (xs.length) ?_ ?_
  ·rw [List.length_map] at hst
   exact ⟨0,by omega,hst⟩
  intro n a w hI
  obtain ⟨j,hn,hst⟩:=hI
  refine wp_seq ?_
  refine gl (sts:=[none]) (news:=[]) (sp:=[.val 18 _]) [.g 0,.g 1,.g 2,.g 3,.g 4,.o 0] hst (zv rfl (zc0 (gq 4 rfl) (gq 3 rfl)) o0) (fun a w hst=>?_)
  have hst:St B w0 52 [(5,_),(6,_),(15,_),(16,_),(17,_),(18,_)] [⟨5,22,ptrH,_⟩] a w:=hst
  refine zt ?_
  refine zaa hst (zm 5 rfl) (fun hb1=>?_) (fun hb1=>?_)
  ·have hj:j<xs.length:=by simp at hb1; omega
   have hx:=List.all_eq_true.1 hal _ (List.getElem_mem hj)
   have hq:=(el_kinds hx).1
   have hsl:=sim_len (xs.take j)
   rw [List.length_take] at hsl
   refine wp_skip ?_
   refine zt ?_
   refine wp_block ?_
   refine wp_seq ?_
   refine go_headA (sp:=[.val 19 _,.val 20 _,.alc 1,.sto 1]) 2 2 8 [.g 0,.g 1,.g 2,.g 3,.g 4,.o 1] hst (zv rfl (r_idx sl_22 (map_n fun _=>rfl) (has_and (zau (E:=49) (gq 2 rfl))) (gq 4 rfl) (map_at hj)) (zv rfl (zas (vq 0 rfl) ty_49) o0)) rfl zk zk (fun a w hst=>?_)
   have hst:St B w0 52 [(5,_),(6,_),(15,_),(16,_),(17,_),(20,_)] [⟨5,22,ptrH,_⟩] a w:=hst
   rw [show List.range' 2 2=[2,3] from rfl]
   refine op_newS (A:=REA xs[j]) 5 [0,1,2,3,4] rfl rfl hst (Str.zero str_elem) rfl ty_49 rfl zd rfl zk zk (fun a w hst=>?_)
   refine wpOps_nB ?_
   have hst:St B w0 52 [(5,_),(6,_),(15,_),(16,_),(17,_)] [⟨5,22,ptrH,_⟩,⟨8,49,ptrH,REA xs[j]⟩] a w:=hst
   have hst:=St.wkL hst 1 rfl (el_q hq)
   refine zt<|gl (sts:=[none,none]) (news:=[]) (sp:=[.adr 21 8 (.some 0) True,.val 22 _]) [.g 0,.g 1,.g 2,.g 3,.g 4,.o 1] hst (oc (ob_a rfl rfl (za9 (lz0 1 rfl) zbz)) (zv rfl (za4 0 rfl zk trivial (lz0 1 rfl) (Sub.part 0 rfl rfl) ty_46) o0)) (fun a w hst=>?_)
   have hst:St B w0 52 [(5,_),(6,_),(15,_),(16,_),(17,_),(22,_)] [⟨5,22,ptrH,_⟩,⟨8,49,ptrH,_⟩] a w:=hst
   refine za0 ?_
   refine wp_block ?_
   refine wp_seq ?_
   refine gl (sts:=[none,none]) (news:=[]) (sp:=[.val 30 _,.val 29 _]) [.g 0,.g 1,.g 2,.g 3,.g 4,.g 5,.o 1] hst (zv rfl (zc5 (gq 5 rfl) za3) (zv rfl (za2 (vq 0 rfl)) o0)) (fun a w hst=>?_)
   have hst:St B w0 52 [(5,_),(6,_),(15,_),(16,_),(17,_),(22,_),(29,_)] [⟨5,22,ptrH,_⟩,⟨8,49,ptrH,_⟩] a w:=hst
   refine za0 ?_
   refine zaa hst (zm 6 rfl) (fun hb2=>?_) (fun hb2=>?_)
   ·refine go_head (sp:=[.val 31 _,.adr 32 8 (.some 1) True,.val 33 _,.adr 34 8 (.some 5) True,.val 35 _,.val 36 _,.val 37 VT]) 6 1 99 6 OneC [.g 0,.g 1,.g 2,.g 3,.g 4,.o 0,.o 5] hst (zv rfl (za1 (gq 1 rfl)) (oc (ob_a rfl rfl (za9 (lz0 1 rfl) zbp)) (zv rfl (za4 1 rfl zk trivial (lz0 1 rfl) (Sub.part 1 rfl rfl) zam) (oc (ob_a rfl rfl (za9 (lz0 1 rfl) fld_49_2)) (zv rfl (za4 3 rfl zk trivial (lz0 1 rfl) (Sub.part 2 rfl rfl) zam) (zv rfl (za5 (xs:=[.tmp 33,.tmp 35]) (over_q (c:=2048) (d:=2048) zo (el_q0 hx hb2)) (.cons (vq 2 rfl) (.cons (vq 4 rfl) .nil))) o0)))))) rfl zd zk zk (fun a w hst=>?_)
    have hst:St B w0 52 [(5,_),(6,_),(15,_),(16,_),(17,_),(31,_),(36,_)] [⟨5,22,ptrH,_⟩,⟨8,49,ptrH,_⟩] a w:=hst
    rw [show List.range' 6 1=[6] from rfl]
    have hst:=St.selL hst [0]
    rw [wpOps_cons]
    refine op_callB (xs:=[.const (.int .u8 1),.tmp 36]) [0,1,2,3,4] 5 0 0 rfl hst (put_c (simQ (xs.take j)) 1 (toQ xs[j].p/toQ xs[j].q) (K:=(4097*j)) (c:=(2048+2048)) (K1:=(4097*(j+1))) zo zo zo) rfl rfl rfl (.cons (.inr ⟨_,_,rfl,rfl⟩) (.cons (.inl ⟨36,6,rfl,rfl⟩) .nil)) (may_B hB0) zd zk zk zk zk (fun a w hst=>?_)
    refine wpOps_nB ?_
    have hst:St B w0 52 [(37,_),(5,_),(6,_),(15,_),(16,_),(17,_)] [⟨5,22,ptrH,OwnC 49 9 [U32] ((putQ (simQ (xs.take j)) 1 (toQ xs[j].p/toQ xs[j].q)).map (EB (4097*(j+1))))⟩] a w:=hst
    refine zaj ?_
    refine zaj ?_
    refine za0 ?_
    refine gl (sts:=[none]) (news:=[]) (sp:=[.val 47 _,.val 17 _]) [.g 1,.g 2,.g 3,.g 4,.o 1] hst (zv rfl (zba (gq 5 rfl) za3 ((wi64 zo zo).trans (by omega:(_:Int)=((j+1:Nat):Int)))) (zv rfl (za1 (vq 0 rfl)) o0)) (fun a w hst=>?_)
    have hst:St B w0 52 [(5,_),(6,_),(15,_),(16,_),(17,_)] [⟨5,22,ptrH,_⟩] a w:=hst
    refine za0 ?_
    have hst:=St.sel hst [0,1,2,3,4]
    have hst:=St.cvA hst 0 rfl (own_sim hj (sE_3 hb2))
    exact ⟨n-1,by omega,j+1,by omega,hst⟩
   ·refine wp_seq ?_
    refine gl (sts:=[none,none]) (news:=[]) (sp:=[.val 39 _,.val 38 _]) [.g 0,.g 1,.g 2,.g 3,.g 4,.o 1] hst (zv rfl (zc5 (gq 5 rfl) za3) (zv rfl (za2 (vq 0 rfl)) o0)) (fun a w hst=>?_)
    have hst:St B w0 52 [(5,_),(6,_),(15,_),(16,_),(17,_),(38,_)] [⟨5,22,ptrH,_⟩,⟨8,49,ptrH,_⟩] a w:=hst
    refine za0 ?_
    refine zaa hst (zm 5 rfl) (fun hb3=>?_) (fun hb3=>?_)
    ·refine go_head (sp:=[.val 40 _,.adr 41 8 (.some 1) True,.val 42 _,.adr 43 8 (.some 5) True,.val 44 _,.val 45 _,.val 46 VT]) 6 1 99 6 OneC [.g 0,.g 1,.g 2,.g 3,.g 4,.o 0,.o 5] hst (zv rfl (za1 (gq 1 rfl)) (oc (ob_a rfl rfl (za9 (lz0 1 rfl) zbp)) (zv rfl (za4 1 rfl zk trivial (lz0 1 rfl) (Sub.part 1 rfl rfl) zam) (oc (ob_a rfl rfl (za9 (lz0 1 rfl) fld_49_2)) (zv rfl (za4 3 rfl zk trivial (lz0 1 rfl) (Sub.part 2 rfl rfl) zam) (zv rfl (za5 (xs:=[.tmp 42,.tmp 44]) (times_q (c:=2048) (d:=2048) zo) (.cons (vq 2 rfl) (.cons (vq 4 rfl) .nil))) o0)))))) rfl zd zk zk (fun a w hst=>?_)
     have hst:St B w0 52 [(5,_),(6,_),(15,_),(16,_),(17,_),(40,_),(45,_)] [⟨5,22,ptrH,_⟩,⟨8,49,ptrH,_⟩] a w:=hst
     rw [show List.range' 6 1=[6] from rfl]
     have hst:=St.selL hst [0]
     rw [wpOps_cons]
     refine op_callB (xs:=[.const (.int .u8 2),.tmp 45]) [0,1,2,3,4] 5 0 0 rfl hst (put_c (simQ (xs.take j)) 2 (toQ xs[j].p*toQ xs[j].q) (K:=(4097*j)) (c:=(2048+2048)) (K1:=(4097*(j+1))) zo zo zo) rfl rfl rfl (.cons (.inr ⟨_,_,rfl,rfl⟩) (.cons (.inl ⟨45,6,rfl,rfl⟩) .nil)) (may_B hB0) zd zk zk zk zk (fun a w hst=>?_)
     refine wpOps_nB ?_
     have hst:St B w0 52 [(46,_),(5,_),(6,_),(15,_),(16,_),(17,_)] [⟨5,22,ptrH,OwnC 49 9 [U32] ((putQ (simQ (xs.take j)) 2 (toQ xs[j].p*toQ xs[j].q)).map (EB (4097*(j+1))))⟩] a w:=hst
     refine zaj ?_
     refine zaj ?_
     refine za0 ?_
     refine gl (sts:=[none]) (news:=[]) (sp:=[.val 47 _,.val 17 _]) [.g 1,.g 2,.g 3,.g 4,.o 1] hst (zv rfl (zba (gq 5 rfl) za3 ((wi64 zo zo).trans (by omega:(_:Int)=((j+1:Nat):Int)))) (zv rfl (za1 (vq 0 rfl)) o0)) (fun a w hst=>?_)
     have hst:St B w0 52 [(5,_),(6,_),(15,_),(16,_),(17,_)] [⟨5,22,ptrH,_⟩] a w:=hst
     refine za0 ?_
     have hst:=St.sel hst [0,1,2,3,4]
     have hst:=St.cvA hst 0 rfl (own_sim hj (sE_4 hb2 hb3))
     exact ⟨n-1,by omega,j+1,by omega,hst⟩
    ·refine go_head (sp:=[.val 23 _,.adr 24 8 (.some 0) True,.val 25 _,.adr 26 8 (.some 1) True,.val 27 _,.val 28 VT]) 5 1 99 5 OneC [.g 0,.g 1,.g 2,.g 3,.g 4,.o 0,.o 2,.o 4] hst (zv rfl (za1 (gq 1 rfl)) (oc (ob_a rfl rfl (za9 (lz0 1 rfl) zbz)) (zv rfl (za4 1 rfl zk trivial (lz0 1 rfl) (Sub.part 0 rfl rfl) ty_46) (oc (ob_a rfl rfl (za9 (lz0 1 rfl) zbp)) (zv rfl (za4 3 rfl zk trivial (lz0 1 rfl) (Sub.part 1 rfl rfl) zam) o0))))) rfl zd zk zk (fun a w hst=>?_)
     have hst:St B w0 52 [(5,_),(6,_),(15,_),(16,_),(17,_),(23,_),(25,_),(27,_)] [⟨5,22,ptrH,_⟩,⟨8,49,ptrH,_⟩] a w:=hst
     rw [show List.range' 5 1=[5] from rfl]
     have hst:=St.selL hst [0]
     rw [wpOps_cons]
     refine op_callB (xs:=[.tmp 25,.tmp 27]) [0,1,2,3,4] 5 0 0 rfl hst (put_c (simQ (xs.take j)) xs[j].k (toQ xs[j].p) (K:=(4097*j)) (c:=2048) (K1:=(4097*(j+1))) zo zo zo) rfl rfl rfl (.cons (.inl ⟨25,6,rfl,rfl⟩) (.cons (.inl ⟨27,7,rfl,rfl⟩) .nil)) (may_B hB0) zd zk zk zk zk (fun a w hst=>?_)
     refine wpOps_nB ?_
     have hst:St B w0 52 [(28,_),(5,_),(6,_),(15,_),(16,_),(17,_)] [⟨5,22,ptrH,OwnC 49 9 [U32] ((putQ (simQ (xs.take j)) xs[j].k (toQ xs[j].p)).map (EB (4097*(j+1))))⟩] a w:=hst
     refine zaj ?_
     refine zaj ?_
     refine za0 ?_
     refine gl (sts:=[none]) (news:=[]) (sp:=[.val 47 _,.val 17 _]) [.g 1,.g 2,.g 3,.g 4,.o 1] hst (zv rfl (zba (gq 5 rfl) za3 ((wi64 zo zo).trans (by omega:(_:Int)=((j+1:Nat):Int)))) (zv rfl (za1 (vq 0 rfl)) o0)) (fun a w hst=>?_)
     have hst:St B w0 52 [(5,_),(6,_),(15,_),(16,_),(17,_)] [⟨5,22,ptrH,_⟩] a w:=hst
     refine za0 ?_
     have hst:=St.sel hst [0,1,2,3,4]
     have hst:=St.cvA hst 0 rfl (own_sim hj (sE_o hb2 hb3))
     exact ⟨n-1,by omega,j+1,by omega,hst⟩
  ·obtain rfl:j=xs.length:=by simp at hb1; omega
   refine wp_exit ?_
   refine zah ?_
   refine zah ?_
   refine zaz ?_
   refine zt ?_
   rw [List.take_length] at hst
   have hst:=St.wkL hst 0 rfl (ownC_wk (ebs_mono (show 4097*xs.length≤16781312 by omega) (simQ xs)) eb_n eb_D)
   refine gl (sts:=[none]) (news:=[]) (sp:=[.val 48 _,.val 49 _,.val 50 _,.val 51 _,.val 2 _,.val 3 _]) [.o 4,.o 5] hst (zv rfl (zap (lz0 0 rfl) ty_22) (zv rfl (za5 (xs:=[.tmp 48]) tell_l (.cons (vq 0 rfl) .nil)) (zv rfl (r_ex0 (vq 1 rfl)) (zv rfl (r_ex1 (vq 1 rfl)) (zv rfl (za2 (vq 2 rfl)) (zv rfl (za2 (vq 3 rfl)) o0)))))) (fun a w hst=>?_)
   have hst:St B w0 52 [(2,_),(3,_)] [⟨5,22,ptrH,_⟩] a w:=hst
   refine za0 ?_
   refine wp_ret ?_
   refine zak ?_ (zay (rs:=[.tmp 2,.tmp 3]) rfl hst (.tmp (zm 0 rfl) (.tmp (zm 1 rfl) .nil)) zd)
   rw [simF,if_pos hc]; exact zbl
end Go.Proofs.Ytljkepdpoelpkaa
namespace Go.Proofs.Ytljkepdpoelpkaa
open Go Go.RowKit
open Go.ChangeShapes Go.WideShapes Go.ChangeAt
theorem nd_self {A:As}{D:List TypeId}(h:(A.deps.all fun T=>D.contains T)=true):∀ T∈A.deps,T∈D:=fun T hT=>by
 have:=List.all_eq_true.1 h T hT
 simpa using this
theorem cat_three {B:Nat}{cs:List Value}{w:World}{A0 A1 A2:As}(h0:A0.p B ((cs.drop 0).take A0.n) w)(h1:A1.p B ((cs.drop A0.n).take A1.n) w)(h2:A2.p B ((cs.drop (A0.n+A1.n)).take A2.n) w)(hl:cs.length=A0.n+(A1.n+A2.n)):(cat [A0,A1,A2]).p B cs w :=
 cat_of (by simpa using hl) fun k A hk=>by
  match k,hk with
  | 0,hk=>simp at hk; subst hk; exact h0
  | 1,hk=>simp at hk; subst hk; simpa [offs] using h1
  | 2,hk=>simp at hk; subst hk; simpa [offs] using h2
section
variable {H:Type} {enc:TypeId × Value→H} {w:World} {base:Nat} {spare:Nat→Bool} {held:Bool} {fuel:Nat} {cs:List Value} {x:DataW H × List MemPlace}
theorem rd_re (h:DataW.trod enc Try.prog w base spare held fuel 49 cs=some x):∃ y,(REA y).p w.heap.size cs w:=by
 obtain ⟨xs,n,_,_,hl,hlen,hf⟩:=DataW.trod_struct Try.underlying49 h
 have hl':cs.length=9:=hl.trans zk
 have c0:Try.prog.cellsOf 35=4:=by kernel_rfl
 have c1:Try.prog.cellsOf 46=1:=by kernel_rfl
 match xs,hlen with
 | [y0,y1,y2],_ =>
  have h0:DataW.trod enc Try.prog w base spare held n 46 ((cs.drop 0).take (Try.prog.cellsOf 46))=some y0:=hf 0 _ rfl
  have h1:DataW.trod enc Try.prog w base spare held n 35 ((cs.drop 1).take (Try.prog.cellsOf 35))=some y1:=hf 1 _ rfl
  have h2:DataW.trod enc Try.prog w base spare held n 35 ((cs.drop 5).take (Try.prog.cellsOf 35))=some y2:=hf 2 _ rfl
  rw [c1] at h0
  rw [c0] at h1 h2
  obtain ⟨a,ha,_⟩:=DataW.trod_int Try.underlying46 h0
  obtain ⟨b,hb⟩:=rd_rf h1
  obtain ⟨c,hc⟩:=rd_rf h2
  exact ⟨⟨a,b,c⟩,cat_three (A0:=NumA .u8 a) ha hb hc hl'⟩
end
end Go.Proofs.Ytljkepdpoelpkaa
