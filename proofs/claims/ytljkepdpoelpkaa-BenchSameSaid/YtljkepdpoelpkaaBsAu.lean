import Derived.Test.YtljkepdpoelpkaaBsAa
import Derived.Test.YtljkepdpoelpkaaBsAc
import Derived.Test.YtljkepdpoelpkaaBsAm
import Derived.Test.YtljkepdpoelpkaaBsAs
import Derived.Test.YtljkepdpoelpkaaBsAt
set_option linter.unusedVariables false
set_option linter.unusedSimpArgs false
set_option linter.unusedSectionVars false
set_option maxRecDepth 100000
namespace Go.Proofs.Ytljkepdpoelpkaa
open Go Go.RowKit
theorem wpOps_nB {P:Program}{ops:Array Oper}{Q:Exit→Act→World→Prop}{a:Act}{w:World}(h:Q .normal a w):wpOps P ops Q [] a w:=h
theorem wpOps_sB {P:Program}{ops:Array Oper}{Q:Exit→Act→World→Prop}{a:Act}{w:World}(h:Q .normal a w):wpOps P ops Q [] (a.put none undef) w:=h
theorem op_ldB {P:Program}{Q:Exit→Act→World→Prop}{B N:Nat}{w0:Bs}{Γ:List (Nat × VA)}{Λ:List Lc}{a:Act}{w:World}{ops:Array Oper}{i:Nat}{K:Act→World→Prop}{d b:Nat}{ty T':TypeId}{ps:String}{af:Array Edge}{Tp T E:TypeId}{m g:Nat}{D:List TypeId}{v u:Value}{l:List As}(e:Nat)
  (ho:ops[i]?=some ⟨some d,.load ty (.tmp b),T',ps,af,none⟩) (h:St B w0 N Γ Λ a w) (hl:Λ[e]?=some ⟨b,Tp,ptrH,BuA T E m D g v u l⟩) (ht:Ty P ty 1 false) (hd:d<N) (hΓ:Γ.all (fun x=>x.1 != d)=true) (hΛ:Λ.all (fun l=>l.s != d)=true)
  (hK:∀ a',St B w0 N ((d,EqV (ptr g))::Γ) Λ a' w→K a' w):wpOp P ops Q i K a w:=by
 obtain ⟨c,cs,e1,_,e3,rfl,_⟩:=h.locs _ (List.mem_of_getElem? hl)
 have e1':a.eval (.tmp b)=.pointer (some ⟨c,0,none⟩):=e1
 have hr:=zc2 ht w c 0 [ptr g] rfl (fun _=>rfl) (fun j u hu=>by
  rw [Nat.zero_add,cell_of_row w c j [ptr g].toArray Tp _ e3]
  simpa using hu)
 exact op_vS (A:=EqV (ptr g)) (v:=ptr g) ho h hd hΓ hΛ (by simp [execOp,e1',Instr.loadAt,Instr.sureAddr,hr,shape]) rfl (hK _)
theorem str_fracN:Str Try.prog 35 [RIN ⟨false,[]⟩,RIN ⟨false,[]⟩] :=
 Str.of (z:=.agg #[.bool false,.slice none 0 0,.bool false,.slice none 0 0]) zk Try.underlying35 zk fun B w=>⟨[[.bool false,.slice none 0 0],[.bool false,.slice none 0 0]],rfl,.cons ⟨[[.bool false],[.slice none 0 0]],rfl,.cons rfl (.cons (famN.nil B w) .nil)⟩ (.cons ⟨[[.bool false],[.slice none 0 0]],rfl,.cons rfl (.cons (famN.nil B w) .nil)⟩ .nil)⟩
def QN0:As:=cat [RIN ⟨false,[]⟩,ZN 2 1]
def EB (k:Nat)(e:EQ):As:=cat [NumA .u8 e.1,QD k e.2,QN0]
def lastE (L:List EQ):EQ:=L.getLast?.getD (0,0)
theorem eb_mono {k k':Nat}{e:EQ}(h:k≤k'):WkA (EB k e) (EB k' e):=zbv (.cons (WkA.refl _) (.cons (qd_mono h) (.cons (WkA.refl _) .nil)))
theorem eb_n {k:Nat}{L:List EQ}:∀ A∈L.map (EB k),A.n=9:=fun A hA=>by
 obtain ⟨e,_,rfl⟩:=List.mem_map.1 hA
 rfl
theorem eb_D {k:Nat}{L:List EQ}:∀ A∈L.map (EB k),∀ T∈A.deps,T∈[U32]:=fun A hA=>by
 obtain ⟨e,_,rfl⟩:=List.mem_map.1 hA
 exact nd_ok (l:=[EB k e]) zk _ (by simp)
theorem ebs_mono {k k':Nat}(h:k≤k'):∀ (L:List EQ),All2 WkA (L.map (EB k)) (L.map (EB k'))
 | []=>.nil
 | e::L=>.cons (eb_mono h) (ebs_mono h L)
theorem bu_mono {T E g k k':Nat}{v u:Value}{L:List EQ}(h:k≤k'):WkA (BuA T E 9 [U32] g v u (L.map (EB k))) (BuA T E 9 [U32] g v u (L.map (EB k'))):=bu_wk (ebs_mono h L) eb_n eb_D
theorem bu_to {T E g k k':Nat}{v u:Value}{L L':List EQ}(h:k≤k')(e:L'=L):WkA (BuA T E 9 [U32] g v u (L.map (EB k))) (BuA T E 9 [U32] g v u (L'.map (EB k'))):=e▸bu_mono h
theorem bu_snoc {T E g k k' c:Nat}{v u:Value}{M L':List EQ}{e:EQ}(h:k≤k')(h':c≤k')(e0:L'=M++[e]):WkA (BuA T E 9 [U32] g v u (M.map (EB k)++[EB c e])) (BuA T E 9 [U32] g v u (L'.map (EB k'))):=by
 subst e0
 refine bu_wk ?_ eb_n eb_D
 rw [List.map_append]
 exact all2_app (ebs_mono h M) (.cons (eb_mono h') .nil)
theorem put_eb {k c:Nat}{e:Int}{p q:Rat}:Put (EB k (e,p)) 1 (QD c q) (EB c (e,q)):=Put.part 1 rfl rfl rfl
theorem last_at {k:Nat}{L:List EQ}(h:decide (((L.map (EB k)).length:Int)-1<0)=false):(L.map (EB k))[L.length-1]?=some (EB k (lastE L)):=by
 have h0:=of_decide_eq_false h
 rw [List.length_map] at h0
 have h1:L.length-1<L.length:=by omega
 rw [List.getElem?_map,lastE,List.getLast?_eq_getElem?,List.getElem?_eq_getElem h1]
 rfl
theorem last_in {k:Nat}{L:List EQ}(h:decide (((L.map (EB k)).length:Int)-1<0)=false):In (((L.map (EB k)).length:Int)-1)=In ((L.length-1:Nat):Int):=by
 have h0:=of_decide_eq_false h
 rw [List.length_map] at h0 ⊢
 congr 1
 omega
theorem put_skip {L:List EQ}{k:Int}{p:Rat}(h:(k != 5&&p.num.sign==0)=true):putQ L k p=L:=by
 simp only [Bool.and_eq_true,bne_iff_ne,beq_iff_eq] at h
 have:p=0:=by
  have:=Int.sign_eq_zero_iff_zero.1 h.2
  exact Rat.num_eq_zero.1 this
 rw [putQ,if_pos ⟨h.1,this⟩]
theorem put_go {L:List EQ}{k:Int}{p:Rat}(h:(k != 5&&p.num.sign==0)=false):¬ (k≠5∧p=0):=fun ⟨h1,h2⟩=>by
 subst h2
 simp [h1] at h
theorem put_new {k0:Nat}{L:List EQ}{k:Int}{p:Rat}(h:¬ (k≠5∧p=0))(hb:(decide (((L.map (EB k0)).length:Int)-1<0) || (lastE L).1 != k)=true):putQ L k p=L++[(k,p)]:=by
 rw [putQ,if_neg h]
 rcases List.eq_nil_or_concat L with rfl | ⟨M,e,rfl⟩
 ·rfl
 ·rw [List.concat_eq_append] at hb ⊢
  simp [lastE] at hb
  simp only [List.getLast?_concat]
  rw [if_neg]
  rcases hb with hb | hb
  ·omega
  ·exact hb
theorem put_old {k0:Nat}{L:List EQ}{k:Int}(hb:(decide (((L.map (EB k0)).length:Int)-1<0) || (lastE L).1 != k)=false):∃ M q,L=M++[(k,q)]:=by
 rcases List.eq_nil_or_concat L with rfl | ⟨M,e,rfl⟩
 ·simp at hb
 ·rw [List.concat_eq_append] at hb ⊢
  obtain ⟨k',q⟩:=e
  simp [lastE] at hb
  exact ⟨M,q,by rw [hb]⟩
theorem put_cut {M:List EQ}{k:Int}{p q:Rat}(h:¬ (k≠5∧p=0))(hb:(k==5 || (q+p).num.sign==0)=true):putQ (M++[(k,q)]) k p=M:=by
 rw [putQ,if_neg h]
 simp only [List.getLast?_concat,if_true,List.dropLast_concat]
 rw [if_pos]
 simp only [Bool.or_eq_true,beq_iff_eq] at hb
 exact hb.imp id fun h=>Rat.num_eq_zero.1 (Int.sign_eq_zero_iff_zero.1 h)
theorem put_add {M:List EQ}{k:Int}{p q:Rat}(h:¬ (k≠5∧p=0))(hb:(k==5 || (q+p).num.sign==0)=false):putQ (M++[(k,q)]) k p=M++[(k,q+p)]:=by
 rw [putQ,if_neg h]
 simp only [List.getLast?_concat,if_true,List.dropLast_concat]
 rw [if_neg]
 simp only [Bool.or_eq_false_iff,beq_eq_false_iff_ne] at hb
 exact fun hh=>hh.elim hb.1 fun h=>hb.2 (by rw [h]; rfl)
theorem noughtN_q  : Cn Try.prog 37 [] (QN0.va):=by
 refine Cn.intro Try.func37 rfl zk nq (fun B w0 a hst=>?_)
 have hst:St B w0 3 [] [] a w0.w:=hst
 refine wp_seq ?_
 refine gl (sts:=[]) (news:=[⟨0,35,ptrH,some 0,_,none⟩]) (sp:=[.alc 0]) [] hst (oc (zao rfl rfl rfl (Str.zero str_fracN)) o0) (fun a w hst=>?_)
 have hst:St B w0 3 [] [⟨0,35,ptrH,_⟩] a w:=hst
 refine zt<|gl (sts:=[some (2,_)]) (news:=[]) (sp:=[.val 1 _,.val 2 _,.sto 0]) [] hst (zv rfl (za5 (xs:=[.const (.int .i64 (1))]) (of_zn zd zd) (.cons za3 .nil)) (zv rfl (zbi (xs:=[(1,.tmp 1)]) (qs:=[(1,_)]) str_fracN (.cons ⟨rfl,(vq 0 rfl),rfl⟩ .nil)) (oc (zae rfl rfl rfl (vq 1 rfl) zam (Eq.trans (b:=4) rfl rfl)) o0))) (fun a w hst=>?_)
 have hst:St B w0 3 [] [⟨0,35,ptrH,_⟩] a w:=hst
 refine za0 ?_
 refine wp_ret ?_
 refine zak ?_ (zan rfl hst (zm 0 rfl) zam)
 exact zbl
theorem builder_c (g:Nat):Cn Try.prog 21 [EqV (ptr g)] (FnB 44 54 g):=by
 refine Cn.intro Try.func21 rfl zk nq (fun B w0 a hst=>?_)
 have hst:St B w0 4 [(0,EqV (ptr g))] [] a w0.w:=hst
 refine wp_seq ?_
 refine gl (sts:=[]) (news:=[⟨1,54,ptrH,some 0,_,none⟩]) (sp:=[.alc 0,.val 2 _]) [.o 1] hst (oc (zaq rfl rfl rfl (has_eqA (v:=ptr g) rfl (gq 0 rfl))) (zv rfl (za2 zbj) o0)) (fun a w hst=>?_)
 have hst:St B w0 4 [(2,_)] [⟨1,54,ptrH,_⟩] a w:=hst
 refine zt<|gl (sts:=[none]) (news:=[]) (sp:=[.val 3 _,.val 2 _]) [.o 1] hst (zv rfl (r_mkB (lz0 0 rfl)) (zv rfl (za2 (vq 0 rfl)) o0)) (fun a w hst=>?_)
 have hst:St B w0 4 [(2,_)] [⟨1,54,ptrH,_⟩] a w:=hst
 refine za0 ?_
 refine wp_ret ?_
 refine zak ?_ (zaf rfl hst (zm 0 rfl))
 exact zbl
theorem put_c (L:List EQ)(k:Int)(p:Rat){K c K1:Nat}(hK:K+c≤137438953472)(hK1:K+c+1≤K1)(hL:L.length≤1000000):CB Try.prog 44 54 22 [22,49] (OwnC 49 9 [U32] (L.map (EB K))) (OwnC 49 9 [U32] ((putQ L k p).map (EB K1))) [(NumA .u8 k).va,Qs c p] (Tu []):=by
 obtain ⟨it,z,e1,e2,e3,e4,e5⟩:=app_elem
 refine CB.intro Try.func44 rfl zk nq (fun B gc gg v w0 a hrm hst=>?_)
 have hst:St B w0 75 [(0,(NumA .u8 k).va),(1,Qs c p),(2,EqV (ptr gc))] [⟨2,54,ptrH,BuA 22 49 9 [U32] gg v v (L.map (EB K))⟩] a w0.w:=hst
 refine wp_seq ?_
 refine gl (sts:=[none]) (news:=[⟨4,35,ptrH,some 0,_,none⟩]) (sp:=[.alc 1]) [.g 0,.g 2] hst (oc (zaq rfl rfl rfl (gq 1 rfl)) o0) (fun a w hst=>?_)
 have hst:St B w0 75 [(0,_),(2,_)] [⟨2,54,ptrH,_⟩,⟨4,35,ptrH,_⟩] a w:=hst
 refine zt ?_
 refine wp_seq ?_
 refine gl (sts:=[none,none]) (news:=[]) (sp:=[.val 7 _,.val 8 _,.val 9 _,.val 10 (Wh (_=true) _),.val 11 (Wh (_=true) _),.val 12 (Wh (_=true) _),.val 13 _]) [.g 0,.g 1,.o 6] hst (zv rfl (za1 (gq 0 rfl)) (zv rfl (zch (vq 0 rfl) za3) (zv rfl (za1 (vq 1 rfl)) (oc (zac rfl rfl rfl (vq 2 rfl) nq (fun hg=>zap (lz0 1 rfl) zam)) (oc (zac rfl rfl rfl (vq 2 rfl) nq (fun hg=>za5 (xs:=[.tmp 10]) sign_q (.cons (za7 (vq 3 rfl) hg) .nil))) (oc (zac rfl rfl rfl (vq 2 rfl) nq (fun hg=>zc5 (za7 (vq 4 rfl) hg) za3)) (zv rfl (zci (vq 2 rfl) (vq 5 rfl)) o0))))))) (fun a w hst=>?_)
 have hst:St B w0 75 [(0,_),(2,_),(13,_)] [⟨2,54,ptrH,_⟩,⟨4,35,ptrH,_⟩] a w:=hst
 refine za0 ?_
 refine zaa hst (zm 2 rfl) (fun hb0=>?_) (fun hb0=>?_)
 ·have hput:=put_skip (L:=L) hb0
  refine wp_ret ?_
  refine zag ?_
  have hst:=St.wkL hst 0 rfl (bu_to (k:=K) (k':=K1) zo hput)
  refine ret_b hst (zm 1 rfl) (zm 0 rfl) ?_
  exact zay (rs:=[]) rfl hst .nil zd
 ·have hgo:=put_go (L:=L) hb0
  refine wp_skip ?_
  refine zt<|gl (sts:=[none,none]) (news:=[]) (sp:=[.val 14 _,.val 15 _,.val 16 _,.val 17 _,.val 18 _,.val 5 _]) [.g 0,.g 1,.o 5] hst (zv rfl (r_ptB (lz0 0 rfl) ty_54) (zv rfl (r_nilP (vq 0 rfl)) (zv rfl (r_valB (lz0 0 rfl) (vq 1 rfl) ty_22) (zv rfl (r_len Try.underlying22 (has_wk' (vq 2 rfl) owv_sl)) (zv rfl (r_sub (vq 3 rfl) za3 ((wi64 (by rw [List.length_map]; omega) (by rw [List.length_map]; omega)))) (zv rfl (za2 (vq 4 rfl)) o0)))))) (fun a w hst=>?_)
  have hst:St B w0 75 [(0,_),(2,_),(5,_)] [⟨2,54,ptrH,_⟩,⟨4,35,ptrH,_⟩] a w:=hst
  refine zt ?_
  refine wp_seq ?_
  refine gl (sts:=[none,none]) (news:=[]) (sp:=[.val 19 _,.val 20 _,.val 21 _,.val 22 (Wh (_=false) _),.val 23 (Wh (_=false) _),.val 24 (Wh (_=false) _),.val 25 (Wh (_=false) _),.val 26 (Wh (_=false) _),.val 27 (Wh (_=false) _),.val 28 (Wh (_=false) _),.val 29 (Wh (_=false) _),.val 30 (Wh (_=false) _),.val 31 _]) [.g 0,.g 1,.g 2,.o 12] hst (zv rfl (za1 (gq 2 rfl)) (zv rfl (zc0 (vq 0 rfl) za3) (zv rfl (za1 (vq 1 rfl)) (oc (zac rfl rfl rfl (vq 2 rfl) nq (fun hg=>r_ptB (lz0 0 rfl) ty_54)) (oc (zac rfl rfl rfl (vq 2 rfl) nq (fun hg=>r_nilP (za7 (vq 3 rfl) hg))) (oc (zac rfl rfl rfl (vq 2 rfl) nq (fun hg=>r_valB (lz0 0 rfl) (za7 (vq 4 rfl) hg) ty_22)) (oc (zac rfl rfl rfl (vq 2 rfl) nq (fun hg=>za1 (gq 2 rfl))) (oc (zac rfl rfl rfl (vq 2 rfl) nq (fun hg=>r_idx sl_22 eb_n (has_wk' (za7 (vq 5 rfl) hg) owv_sl) (has_wk' (za7 (vq 6 rfl) hg) (zc9 (last_in hg))) (last_at hg))) (oc (zac rfl rfl rfl (vq 2 rfl) nq (fun hg=>zc8 (za7 (vq 7 rfl) hg) zbz (Sub.part 0 rfl rfl))) (oc (zac rfl rfl rfl (vq 2 rfl) nq (fun hg=>zas (za7 (vq 8 rfl) hg) ty_46)) (oc (zac rfl rfl rfl (vq 2 rfl) nq (fun hg=>za1 (gq 0 rfl))) (oc (zac rfl rfl rfl (vq 2 rfl) nq (fun hg=>zch (za7 (vq 9 rfl) hg) (za7 (vq 10 rfl) hg))) (zv rfl (r_or (vq 2 rfl) (vq 11 rfl)) o0))))))))))))) (fun a w hst=>?_)
  have hst:St B w0 75 [(0,_),(2,_),(5,_),(31,_)] [⟨2,54,ptrH,_⟩,⟨4,35,ptrH,_⟩] a w:=hst
  refine za0 ?_
  refine zaa hst (zm 3 rfl) (fun hb1=>?_) (fun hb1=>?_)
  ·have hput:=put_new hgo hb1
   refine wp_seq ?_
   refine go_headZ (sp:=[.val 32 _,.val 33 _,.val 34 _,.val 35 _,.val 36 _,.val 37 _,.val 38 _,.val 39 _,.val 40 _,.val 41 _,.val 42 VT,.val 43 VT,.sto 0]) [[],[],[1],[1,2],[],[],[5],[5,6],[4,5,6,7],[4,5,6,7,8],[1,2,3,4,5,6,7,8,9],[0,1,2,3,4,5,6,7,8,9,10],[0,1,2,3,4,5,6,7,8,9,10,11]] 10 3 0 12 0 OneC [.g 0,.g 1,.g 2,.o 0,.o 3,.o 9] [.g 0,.g 1,.g 2,.o 3,.o 9] za6 hst (zv rfl (r_ptB (lz0 0 rfl) ty_54) (zv rfl (r_ptB (lz0 0 rfl) ty_54) (zv rfl (r_nilP (vq 1 rfl)) (zv rfl ((r_valB (lz0 0 rfl) (vq 2 rfl) ty_22).wk owv_eq) (zv rfl (za1 (gq 0 rfl)) (zv rfl (zap (lz0 1 rfl) zam) (zv rfl (za5 (xs:=[.tmp 37]) (copyD_q zo) (.cons (vq 5 rfl) .nil)) (zv rfl (za5 (xs:=[]) noughtN_q .nil) (zv rfl (zbi (xs:=[(0,.tmp 36),(1,.tmp 38),(2,.tmp 39)]) (qs:=[(0,_),(1,_),(2,_)]) str_elem (.cons ⟨rfl,(vq 4 rfl),rfl⟩ (.cons ⟨rfl,(vq 6 rfl),rfl⟩ (.cons ⟨rfl,(vq 7 rfl),rfl⟩ .nil)))) (zv rfl (r_slice (D:=[U32]) (l:=[_]) (xs:=[.tmp 40]) (nd_ok zk) sl_22 zk (n_ok zk) nq nq nq (.cons (vq 8 rfl) .nil) rfl rfl) o0)))))))))) rfl zd zd zd zk zk (anc_all zk) zk zk zk (fun a w hst=>?_) (fun a w hst=>?_)
   ·have hst:St B w0 75 [(0,_),(2,_),(5,_),(32,_),(35,_),(41,_)] [⟨2,54,ptrH,_⟩,⟨4,35,ptrH,_⟩] a w:=hst
    rw [show List.range' 10 3=[10,11,12] from rfl]
    have hst:=St.selL hst [0]
    rw [wpOps_cons]
    refine op_appB (X:=EB c (k,p)) [0,1,2,3] 4 5 0 rfl hst rfl rfl rfl rfl rfl zk zk rfl (hrm 49 zk) Try.underlying22 e1 e2 e3 e4 e5 zd (by rw [List.length_map]; omega) (by rw [List.length_map]; omega) zd zk zk zk zk (fun v1 w hv1 hvc hst=>?_)
    rw [wpOps_cons]
    refine op_nilS 4 rfl hst rfl zd zk zk (fun a hst=>?_)
    rw [wpOps_cons]
    refine op_stoB [3] 0 1 0 rfl hst rfl rfl hv1 hvc ty_22 rfl rfl zk (hrm 22 zk) (fun _ h=>h) zk zk (fun w hst=>?_)
    refine wpOps_sB ?_
    have hst:St B w0 75 [(2,_)] [⟨2,54,ptrH,BuA 22 49 9 [U32] gg v1 v1 (L.map (EB K)++[EB c (k,p)])⟩] _ w:=hst
    refine za0 ?_
    refine wp_ret ?_
    refine zag ?_
    have hst:=St.wkL hst 0 rfl (bu_snoc (k:=K) (k':=K1) zo zo hput)
    refine ret_b hst (zm 0 rfl) (zm 0 rfl) ?_
    exact zay (rs:=[]) rfl hst .nil zd
   ·have hst:St B w0 75 [(0,_),(2,_),(5,_),(35,_),(41,_)] [⟨2,54,ptrH,_⟩,⟨4,35,ptrH,_⟩] a w:=hst
    rw [show List.range' (10+1) (3-1)=[11,12] from rfl]
    have hst:=St.selL hst [0]
    rw [wpOps_cons]
    refine op_appB (X:=EB c (k,p)) [0,1,2] 3 4 0 rfl hst rfl rfl rfl rfl rfl zk zk rfl (hrm 49 zk) Try.underlying22 e1 e2 e3 e4 e5 zd (by rw [List.length_map]; omega) (by rw [List.length_map]; omega) zd zk zk zk zk (fun v1 w hv1 hvc hst=>?_)
    rw [wpOps_cons]
    refine op_ldB 0 rfl hst rfl ty_54 zd zk zk (fun a hst=>?_)
    rw [wpOps_cons]
    refine op_nilS 0 rfl hst rfl zd zk zk (fun a hst=>?_)
    rw [wpOps_cons]
    refine op_stoB [4] 0 2 0 rfl hst rfl rfl hv1 hvc ty_22 rfl rfl zk (hrm 22 zk) (fun _ h=>h) zk zk (fun w hst=>?_)
    refine wpOps_sB ?_
    have hst:St B w0 75 [(2,_)] [⟨2,54,ptrH,BuA 22 49 9 [U32] gg v1 v1 (L.map (EB K)++[EB c (k,p)])⟩] _ w:=hst
    refine za0 ?_
    refine wp_ret ?_
    refine zag ?_
    have hst:=St.wkL hst 0 rfl (bu_snoc (k:=K) (k':=K1) zo zo hput)
    refine ret_b hst (zm 0 rfl) (zm 0 rfl) ?_
    exact zay (rs:=[]) rfl hst .nil zd
  ·obtain ⟨M,q,rfl⟩:=put_old hb1
   have hst:=St.cvA (A':=BuA 22 49 9 [U32] gg v v (M.map (EB K)++[EB K (k,q)])) hst 0 rfl (by rw [List.map_append]; rfl)
   obtain ⟨gr,cap,rfl⟩:=St.dest 0 hst rfl (by simp)
   have hlI:((List.map (EB K) (M++[(k,q)])).length:Int)-1=((M.map (EB K)).length:Int):=by simp
   have hlN:(M.map (EB K)).length<(M.map (EB K)++[EB K (k,q)]).length:=by simp
   have hlA:(M.map (EB K)++[EB K (k,q)])[(M.map (EB K)).length]?=some (EB K (k,q)):=by simp
   have hlA2:(M.map (EB K)++[EB (K+c+1) (k,q+p)])[(M.map (EB K)).length]?=some (EB (K+c+1) (k,q+p)):=by simp
   refine wp_skip ?_
   refine zt<|gl (sts:=[none,none]) (news:=[]) (sp:=[.val 44 _,.val 45 _,.val 46 _,.val 47 _,.val 48 _,.val 6 _]) [.g 0,.g 1,.g 2,.o 5] hst (zv rfl (r_ptB (lz0 0 rfl) ty_54) (zv rfl (r_nilP (vq 0 rfl)) (zv rfl (r_valB (lz0 0 rfl) (vq 1 rfl) ty_22) (zv rfl (za1 (gq 2 rfl)) (zv rfl (r_idxV sl_22 zd (vq 2 rfl) (has_wk' (vq 3 rfl) (zc9 (congrArg In hlI))) hlN) (zv rfl (za2 (vq 4 rfl)) o0)))))) (fun a w hst=>?_)
   have hst:St B w0 75 [(0,_),(2,_),(5,_),(6,_)] [⟨2,54,ptrH,_⟩,⟨4,35,ptrH,_⟩] a w:=hst
   refine zt<|go_headD (sp:=[.val 49 _,.val 50 _,.val 51 _,.val 52 _,.val 53 _,.val 54 _,.val 55 _,.val 56 VT,.val 57 VT,.sto 0]) [[],[],[1],[1,2],[1,2,3],[],[1,2,3,4,5],[0,1,2,3,4,5,6],[0,1,2,3,4,5,6,7],[0,1,2,3,4,5,6,7,8]] 7 3 0 9 OneC [.g 0,.g 1,.g 2,.g 3,.o 0,.o 6] za6 hst (zv rfl (za1 (gq 3 rfl)) (zv rfl (za1 (has_elB (lz0 0 rfl) hlA (gq 3 rfl))) (zv rfl (r_nilEl (vq 1 rfl)) (zv rfl (zc8 (vq 2 rfl) zbp (Sub.part 1 rfl rfl)) (zv rfl (zas (vq 3 rfl) zam) (zv rfl (zap (lz0 1 rfl) zam) (zv rfl (za5 (xs:=[.tmp 53,.tmp 54]) (plusD_q zo) (.cons (has_wk' (vq 4 rfl) qd_qa.va) (.cons (vq 5 rfl) .nil))) o0))))))) rfl zd zd zk (anc_all zk) zk zk (fun a w hst=>?_)
   have hst:St B w0 75 [(0,_),(2,_),(5,_),(6,_),(49,_),(55,_)] [⟨2,54,ptrH,_⟩,⟨4,35,ptrH,_⟩] a w:=hst
   rw [show List.range' 7 3=[7,8,9] from rfl]
   have hst:=St.selL hst [0]
   rw [wpOps_cons]
   refine op_nilS 4 rfl hst rfl zd zk zk (fun a hst=>?_)
   rw [wpOps_cons]
   refine op_fldS 0 rfl hst zbp rfl zd zk zk (fun a hst=>?_)
   rw [wpOps_cons]
   refine op_setB (l:=M.map (EB K)) (X:=EB K (k,q)) (X':=EB (K+c+1) (k,q+p)) (A:=QD (K+c+1) (q+p)) [2,3,4,5] 0 7 0 rfl hst rfl rfl zam rfl put_eb rfl zk rfl rfl zk (hrm 49 zk) zk zk (fun w hst=>?_)
   refine wpOps_sB ?_
   have hst:St B w0 75 [(0,_),(2,_),(5,_),(6,_)] [⟨2,54,ptrH,_⟩] _ _:=hst
   refine zt<|gl (sts:=[none]) (news:=[]) (sp:=[.val 58 _,.val 59 _,.val 60 _,.val 61 (Wh (_=false) _),.val 62 (Wh (_=false) _),.val 63 (Wh (_=false) _),.val 64 (Wh (_=false) _),.val 65 (Wh (_=false) _),.val 66 (Wh (_=false) _),.val 67 _]) [.g 1,.g 2,.o 9] hst (zv rfl (za1 (gq 0 rfl)) (zv rfl (zc5 (vq 0 rfl) za3) (zv rfl (za1 (vq 1 rfl)) (oc (zac rfl rfl rfl (vq 2 rfl) nq (fun hg=>za1 (has_elB (lz0 0 rfl) hlA2 (gq 3 rfl)))) (oc (zac rfl rfl rfl (vq 2 rfl) nq (fun hg=>r_nilEl (za7 (vq 3 rfl) hg))) (oc (zac rfl rfl rfl (vq 2 rfl) nq (fun hg=>zc8 (za7 (vq 4 rfl) hg) zbp (Sub.part 1 rfl rfl))) (oc (zac rfl rfl rfl (vq 2 rfl) nq (fun hg=>zas (za7 (vq 5 rfl) hg) zam)) (oc (zac rfl rfl rfl (vq 2 rfl) nq (fun hg=>za5 (xs:=[.tmp 64]) sign_q (.cons (has_wk' (za7 (vq 6 rfl) hg) qd_qa.va) .nil))) (oc (zac rfl rfl rfl (vq 2 rfl) nq (fun hg=>zc5 (za7 (vq 7 rfl) hg) za3)) (zv rfl (r_or (vq 2 rfl) (vq 8 rfl)) o0)))))))))) (fun a w hst=>?_)
   have hst:St B w0 75 [(2,_),(5,_),(67,_)] [⟨2,54,ptrH,_⟩] a w:=hst
   refine za0 ?_
   refine zaa hst (zm 2 rfl) (fun hb2=>?_) (fun hb2=>?_)
   ·have hput:=put_cut (M:=M) hgo hb2
    refine go_headD (sp:=[.val 68 _,.val 69 _,.val 70 _,.val 71 _,.val 72 _,.val 73 _,.val 74 VT,.sto 0]) [[],[],[1],[1,2],[],[1,2,3,4],[0,1,2,3,4,5],[0,1,2,3,4,5,6]] 6 2 0 7 OneC [.g 0,.o 0,.o 5] za6 hst (zv rfl (r_ptB (lz0 0 rfl) ty_54) (zv rfl (r_ptB (lz0 0 rfl) ty_54) (zv rfl (r_nilP (vq 1 rfl)) (zv rfl (r_valB (lz0 0 rfl) (vq 2 rfl) ty_22) (zv rfl (za1 (gq 1 rfl)) (zv rfl (r_cutV sl_22 (vq 3 rfl) (has_wk' (vq 4 rfl) (zc9 (congrArg In hlI))) hlN) o0)))))) rfl zd zd zk (anc_all zk) zk zk (fun a w hst=>?_)
    have hst:St B w0 75 [(2,_),(68,_),(73,_)] [⟨2,54,ptrH,_⟩] a w:=hst
    rw [show List.range' 6 2=[6,7] from rfl]
    rw [wpOps_cons]
    refine op_nilS 1 rfl hst rfl zd zk zk (fun a hst=>?_)
    rw [wpOps_cons]
    refine op_stoB (l':=M.map (EB K)) [1] 0 3 0 rfl hst rfl rfl rfl rfl ty_22 rfl rfl zk (hrm 22 zk) (fun _ h=>own_cut h) zk zk (fun w hst=>?_)
    refine wpOps_sB ?_
    have hst:St B w0 75 [(2,_)] [⟨2,54,ptrH,_⟩] _ _:=hst
    refine nrm_ret ?_
    have hst:=St.wkL hst 0 rfl (bu_to (k:=K) (k':=K1) zo hput)
    refine ret_b hst (zm 0 rfl) (zm 0 rfl) ?_
    exact zay (rs:=[]) rfl hst .nil zd
   ·have hput:=put_add (M:=M) hgo hb2
    refine wp_skip ?_
    refine nrm_ret ?_
    have hst:=St.wkL hst 0 rfl (bu_snoc (k:=K) (k':=K1) zo zo hput)
    refine ret_b hst (zm 0 rfl) (zm 0 rfl) ?_
    exact zay (rs:=[]) rfl hst .nil zd
end Go.Proofs.Ytljkepdpoelpkaa
namespace Go.Proofs.Ytljkepdpoelpkaa
open Go Go.RowKit
theorem has_agX {R:Rg}{B i:Nat}{w0:Bs}{x:Operand}{v:Value}{A A':VA}(hX:Wk A A')(hF:NoF w0)(hv:A.p B v w0.w)(h:Has R B w0 i x (EqV v)):Has R B w0 i x A':=has_wk' (has_again hF hv h) hX
theorem St.again {B N:Nat}{w0:Bs}{Γ:List (Nat × VA)}{Λ:List Lc}{a:Act}{w:World}(h:St B w0 N Γ Λ a w){s:Nat}{v:Value}{A:VA}(k:Nat)(hm:Γ[k]?=some (s,EqV v))(hF:NoF w0)(hv:A.p B v w0.w):St B w0 N (Γ.set k (s,A)) Λ a w :=
 ⟨h.lo,h.defers,h.size,h.base,fun x hx=>by
  rcases List.mem_or_eq_of_mem_set hx with hx | rfl
  ·exact h.vals x hx
  ·have e:a.eval (.tmp s)=v:=h.vals _ (List.mem_of_getElem? hm)
   show A.p B (a.eval (.tmp s)) w
   rw [e]
   exact A.cg _ _ _ _ (hF.cg h.base) hv,h.locs,h.dis⟩
def tlE (x:RE):Bool:=[x.p.num,x.p.den].any bigI
def tlF (xs:List RE):Int:=if xs.any tlE then 4 else 0
theorem tl_some {xs:List RE}{j:Nat}(h:j<xs.length)(h2:tlE xs[j]=true):tlF xs=4:=by
 rw [tlF,if_pos (List.any_eq_true.2 ⟨_,List.getElem_mem h,h2⟩)]
theorem tl_no {xs:List RE}{j:Nat}(h:j<xs.length)(h1:(xs.take j).any tlE=false)(h2:tlE xs[j]=false):(xs.take (j+1)).any tlE=false:=by
 rw [List.take_succ_eq_append_getElem h,List.any_append,h1]
 simp [h2]
theorem tl_end {xs:List RE}(h:xs.any tlE=false):tlF xs=0:=by
 rw [tlF,h]
 rfl
theorem tell_c (xs:List RE)(X Y:VA)(hX:Wk X (SlA 49 [U32] (xs.map REA)).va)(h0:tlF xs=0→Wk X Y)(h4:tlF xs=4→Wk (EqV (.slice none 0 0)) Y):Cn Try.prog 24 [X] (Tu [Y,In (tlF xs)]):=by
 refine Cn.introF Try.func24 rfl zk nq (fun B w0 a hF hst=>?_)
 have hst:St B w0 22 [(0,X)] [] a w0.w:=hst
 obtain ⟨v0,hv0,hst⟩:=St.eqv hst 0 rfl
 have hl:=slA_lenm (hX _ _ _ hv0)
 refine wp_seq ?_
 refine gl (sts:=[]) (news:=[]) (sp:=[.val 2 _,.val 3 _]) [.g 0,.o 0,.o 1] hst (zv rfl (za2 zbj) (zv rfl (za2 za3) o0)) (fun a w hst=>?_)
 have hst:St B w0 22 [(0,_),(2,_),(3,_)] [] a w:=hst
 refine zt ?_
 refine wp_seq ?_
 refine gl (sts:=[]) (news:=[]) (sp:=[.val 6 _,.val 7 _,.val 8 _]) [.g 0,.g 1,.g 2,.o 0,.o 1,.o 2] hst (zv rfl (za1 (gq 0 rfl)) (zv rfl (r_len Try.underlying22 (has_agX hX hF hv0 (vq 0 rfl))) (zv rfl (za1 za3) o0))) (fun a w hst=>?_)
 have hst:St B w0 22 [(0,_),(2,_),(3,_),(6,_),(7,_),(8,_)] [] a w:=hst
 refine za0 ?_
 refine wp_block ?_
 have hst:=St.sel hst [0,3,4,5]
 refine wp_loop_ghost (fun n a w=>∃ j:Nat,(n+j=xs.length∧(xs.take j).any tlE=false)∧St B w0 22 [(0,EqV v0),(6,EqV v0),(7,In (xs.length:Nat)),(8,In (j:Nat))] [] a w) (xs.length) ?_ ?_
 ·rw [List.length_map] at hst
  exact ⟨0,⟨by omega,rfl⟩,hst⟩
 intro n a w hI
 obtain ⟨j,⟨hn,hno⟩,hst⟩:=hI
 refine wp_seq ?_
 refine gl (sts:=[]) (news:=[]) (sp:=[.val 9 _]) [.g 0,.g 1,.g 2,.g 3,.o 0] hst (zv rfl (zc0 (gq 3 rfl) (gq 2 rfl)) o0) (fun a w hst=>?_)
 have hst:St B w0 22 [(0,_),(6,_),(7,_),(8,_),(9,_)] [] a w:=hst
 refine zt ?_
 refine zaa hst (zm 4 rfl) (fun hb0=>?_) (fun hb0=>?_)
 ·have hj:j<xs.length:=by simp at hb0; omega
  refine wp_skip ?_
  refine zt ?_
  refine wp_block ?_
  refine wp_seq ?_
  refine gl (sts:=[]) (news:=[⟨5,49,ptrH,some 2,_,some (3,_)⟩]) (sp:=[.val 10 _,.val 11 _,.alc 0,.sto 0]) [.g 0,.g 1,.g 2,.g 3] hst (zv rfl (r_idx sl_22 (map_n fun _=>rfl) (has_agX hX hF hv0 (gq 1 rfl)) (gq 3 rfl) (map_at hj)) (zv rfl (zas (vq 0 rfl) ty_49) (oc (zao rfl rfl rfl (Str.zero str_elem)) (oc (zae rfl rfl rfl (vq 1 rfl) ty_49 (Eq.trans (b:=9) rfl rfl)) o0)))) (fun a w hst=>?_)
  have hst:St B w0 22 [(0,_),(6,_),(7,_),(8,_)] [⟨5,49,ptrH,_⟩] a w:=hst
  refine zt<|gl (sts:=[none]) (news:=[]) (sp:=[.adr 12 5 (.some 1) True,.adr 13 5 (.some (1+0)) True,.val 14 _,.adr 15 5 (.some 1) True,.adr 16 5 (.some (1+2)) True,.val 17 _,.val 18 _,.val 19 _]) [.g 0,.g 1,.g 2,.g 3,.o 7] hst (oc (ob_a rfl rfl (za9 (lz0 0 rfl) zbp)) (oc (ob_a rfl rfl (a_fld2 0 rfl zk trivial (lz0 0 rfl) zbh)) (zv rfl (za4 1 rfl zk trivial (lz0 0 rfl) (Sub.trans (Sub.part 1 rfl rfl) (Sub.part 0 rfl rfl) rfl) zad) (oc (ob_a rfl rfl (za9 (lz0 0 rfl) zbp)) (oc (ob_a rfl rfl (a_fld2 3 rfl zk trivial (lz0 0 rfl) zb2)) (zv rfl (za4 4 rfl zk trivial (lz0 0 rfl) (Sub.trans (Sub.part 1 rfl rfl) (Sub.part 1 rfl rfl) rfl) zad) (zv rfl (r_slice (D:=[U32]) (l:=[_,_]) (xs:=[.tmp 14,.tmp 17]) (nd_ok zk) sl_95 zk (n_ok zk) nq nq nq (.cons (vq 2 rfl) (.cons (vq 5 rfl) .nil)) rfl rfl) (zv rfl (za5 (xs:=[.tmp 18]) (longI_c [xs[j].p.num,xs[j].p.den] nq) (.cons (vq 6 rfl) .nil)) o0)))))))) (fun a w hst=>?_)
  have hst:St B w0 22 [(0,_),(6,_),(7,_),(8,_),(19,_)] [⟨5,49,ptrH,_⟩] a w:=hst
  refine za0 ?_
  refine zaa hst (zm 4 rfl) (fun hb1=>?_) (fun hb1=>?_)
  ·refine wp_seq ?_
   refine gl (sts:=[none]) (news:=[]) (sp:=[.val 2 _,.val 3 _]) [.g 0,.g 1,.g 2,.g 3,.o 0,.o 1] hst (zv rfl (za2 zbj) (zv rfl (za2 za3) o0)) (fun a w hst=>?_)
   have hst:St B w0 22 [(0,_),(6,_),(7,_),(8,_),(2,_),(3,_)] [⟨5,49,ptrH,_⟩] a w:=hst
   refine za0 ?_
   refine wp_ret ?_
   refine zbd ?_
   refine zag ?_
   refine zag ?_
   refine zbd ?_
   refine zag ?_
   refine zak ?_ (zay (rs:=[.tmp 2,.tmp 3]) rfl hst (.tmp (zm 4 rfl) (.tmp (zm 5 rfl) .nil)) zd)
   rw [tl_some hj hb1]; exact tu2w (h4 (tl_some hj hb1)) zbl
  ·refine wp_skip ?_
   refine zaj ?_
   refine za0 ?_
   refine gl (sts:=[none]) (news:=[]) (sp:=[.val 20 _,.val 8 _]) [.g 0,.g 1,.g 2,.o 1] hst (zv rfl (zba (gq 3 rfl) za3 ((wi64 zo zo).trans (by omega:(_:Int)=((j+1:Nat):Int)))) (zv rfl (za1 (vq 0 rfl)) o0)) (fun a w hst=>?_)
   have hst:St B w0 22 [(0,_),(6,_),(7,_),(8,_)] [⟨5,49,ptrH,_⟩] a w:=hst
   refine za0 ?_
   have hst:=St.sel hst [0,1,2,3]
   have hst:=St.selL hst []
   exact ⟨n-1,by omega,j+1,⟨by omega,tl_no hj hno hb1⟩,hst⟩
 ·obtain rfl:j=xs.length:=by simp at hb0; omega
  refine wp_exit ?_
  refine zah ?_
  refine zah ?_
  refine zaz ?_
  refine zt<|gl (sts:=[]) (news:=[]) (sp:=[.val 21 _,.val 2 _,.val 3 _]) [.o 1,.o 2] hst (zv rfl (za1 (gq 0 rfl)) (zv rfl (za2 (vq 0 rfl)) (zv rfl (za2 za3) o0))) (fun a w hst=>?_)
  have hst:St B w0 22 [(2,_),(3,_)] [] a w:=hst
  refine za0 ?_
  refine wp_ret ?_
  have hst:=St.again hst 0 rfl hF hv0
  refine zak ?_ (zay (rs:=[.tmp 2,.tmp 3]) rfl hst (.tmp (zm 0 rfl) (.tmp (zm 1 rfl) .nil)) zd)
  rw [List.take_length] at hno; rw [tl_end hno]; exact tu2w (h0 (tl_end hno)) zbl
section
open Rg
variable {P:Program} {Q:Exit→Act→World→Prop} {B N:Nat} {w0:Bs} {Γ:List (Nat × VA)} {Λ:List Lc} {a:Act} {w:World}
end
def reOf (e:EQ):RE:=⟨e.1,rfOf e.2,rfOf 0⟩
theorem qn0_q:WkA QN0 (RFA (rfOf 0)):=zbv (.cons (wkA_riN.trans (wkA_eq (show RIA ⟨false,[]⟩=RIA (riOf 0) from by simp [riOf,zb8]))) (.cons (zn_za.trans zaA) .nil))
theorem eb_re {k:Nat}{e:EQ}:WkA (EB k e) (REA (reOf e)):=zbv (.cons (WkA.refl _) (.cons (qd_qa.trans qaA) (.cons qn0_q .nil)))
theorem free_qn0:FreeA QN0 QN0:=cat_free (.cons (free_ri _) (.cons free_zn .nil))
theorem free_eb {k:Nat}{e:EQ}:FreeA (EB k e) (EB k e):=cat_free (.cons (free_num _ _) (.cons free_qd (.cons free_qn0 .nil)))
theorem free_ebs {k:Nat}:∀ (L:List EQ),All2 FreeA (L.map (EB k)) (L.map (EB k))
 | []=>.nil
 | e::L=>.cons free_eb (free_ebs L)
theorem ebs_re {k:Nat}:∀ (L:List EQ),All2 WkA (L.map (EB k)) ((L.map reOf).map REA)
 | []=>.nil
 | e::L=>.cons eb_re (ebs_re L)
theorem reA_D {xs:List RE}:∀ A∈xs.map REA,∀ T∈A.deps,T∈[U32]:=fun A hA=>by
 obtain ⟨x,_,rfl⟩:=List.mem_map.1 hA
 exact nd_ok (l:=[REA x]) zk _ (by simp)
theorem eb_sl {k:Nat}{L:List EQ}:Wk (OwnC 49 9 [U32] (L.map (EB k))).va (SlA 49 [U32] ((L.map reOf).map REA)).va:=fun B v w h=>(sl_wk (ebs_re L) reA_D).va _ _ _ (ownC_sl _ _ _ h)
theorem free_ownB {E:TypeId}{m:Nat}{D:List TypeId}{l:List As}(h:All2 FreeA l l):Free (OwnC E m D l).va (OwnC E m D l).va:=fun B B' v w hB hp=>by
 obtain ⟨h1,h2,ds,h3,h4,h5⟩:=ownC_v hp
 refine ⟨[v],⟨v,rfl,h1,h2,ds,(cat_free h).2.2 B B' ds w hB h3,h4,?_⟩,rfl⟩
 rcases h5 with h5 | ⟨g,cap,cur,rfl,e2,e3⟩
 ·exact .inl h5
 ·exact .inr ⟨g,cap,cur,rfl,Nat.le_trans hB e2,e3⟩
theorem nil_ownB {E:TypeId}{m:Nat}{D:List TypeId}:Wk (EqV (.slice none 0 0)) (OwnC E m D []).va:=fun B v w h=>⟨[v],⟨v,rfl,own_nil B v w h⟩,rfl⟩
def toldL (L:List EQ):List EQ × Int:=if tlF (L.map reOf)=0 then (L,0) else ([],4)
abbrev BnR (k:Nat)(r:List EQ × Int):VA:=Tu [(OwnC 49 9 [U32] (r.1.map (EB k))).va,In r.2]
theorem free_bnR {k:Nat}{r:List EQ × Int}:Free (BnR k r) (BnR k r):=free_tu (.cons (free_ownB (free_ebs r.1)) (.cons (free_num _ _).va .nil))
theorem tlF_2 (xs:List RE):tlF xs=0∨tlF xs=4:=by
 unfold tlF
 split
 ·exact .inr rfl
 ·exact .inl rfl
theorem toldL_0 {L:List EQ}(h:tlF (L.map reOf)=0):toldL L=(L,0):=if_pos h
theorem toldL_4 {L:List EQ}(h:tlF (L.map reOf)=4):toldL L=([],4):=if_neg (by rw [h]; decide)
theorem tell_l {k:Nat}{L:List EQ}:Cn Try.prog 24 [(OwnC 49 9 [U32] (L.map (EB k))).va] (BnR k (toldL L)) :=
 (tell_c (L.map reOf) (OwnC 49 9 [U32] (L.map (EB k))).va (OwnC 49 9 [U32] ((toldL L).1.map (EB k))).va eb_sl (fun h=>by rw [toldL_0 h]; exact zbl) (fun h=>by rw [toldL_4 h]; exact nil_ownB)).post (by
  rcases tlF_2 (L.map reOf) with h | h
  ·rw [toldL_0 h,h]
  ·rw [toldL_4 h,h])
theorem zero_elB:Zero Try.prog 22 (OwnC 49 9 [U32] (([]:List EQ).map (EB 0))):=zero_own zk
theorem may_B {B:Nat}{w1:Bs}{Ts:List TypeId}(hB:B=w1.w.heap.size):∀ E,Ts.contains E=true→RowMay w1 B E:=fun E _ w g c fz _ h _=>.inl (hB▸h)
theorem sgn_0 {x:Rat}:(x.num.sign==0)=decide (x=0):=by
 rw [Bool.eq_iff_iff,beq_iff_eq,decide_eq_true_eq,Int.sign_eq_zero_iff_zero,Rat.num_eq_zero]
theorem sgn_l0 {x:Rat}:decide (x.num.sign<0)=decide (x<0):=by
 rw [decide_eq_decide,Int.sign_neg_iff]
 have:=Rat.num_nonneg (q:=x)
 rw [← Rat.not_le,← Int.not_le,this]
theorem sgn_g0 {x:Rat}:decide (x.num.sign>0)=decide (0<x):=by
 rw [decide_eq_decide,gt_iff_lt,Int.sign_pos_iff]
 have h1:=Rat.num_nonneg (q:=x)
 have h2:=Rat.num_eq_zero (q:=x)
 constructor
 ·intro h
  have:0≤x:=h1.1 zo
  have:x≠0:=fun e=>by have:=h2.2 e; omega
  grind
 ·intro h
  have a1:0≤x.num:=h1.2 (by grind)
  have a2:x.num≠0:=fun e=>by have:=h2.1 e; grind
  omega
theorem ownC_wk {E:TypeId}{m:Nat}{D:List TypeId}{l l':List As}(h:All2 WkA l l')(hm:∀ A∈l',A.n=m)(hD:∀ A∈l',∀ T∈A.deps,T∈D):WkA (OwnC E m D l) (OwnC E m D l'):=⟨rfl,rfl,fun B cs w ⟨v,e,_,_,ds,h6,h7⟩=>⟨v,e,hm,hD,ds,(zbv h).2.2 _ _ _ h6,by rw [← h.length]; exact h7⟩⟩
end Go.Proofs.Ytljkepdpoelpkaa
namespace Go.Proofs.Ytljkepdpoelpkaa
open Go Go.RowKit
theorem tlE_re (e:EQ):tlE (reOf e)=longQ e.2:=by
 show [riOf e.2.num,riOf (e.2.den:Int)].any bigI=longQ e.2
 simp [longQ]
theorem told_all {L:List EQ}(h:tlF (L.map reOf)=0):∀ e∈L,longQ e.2=false:=fun e he=>by
 cases hl:longQ e.2 with
 | false=>rfl
 | true =>
  have:(L.map reOf).any tlE=true:=List.any_eq_true.2 ⟨reOf e,List.mem_map.2 ⟨e,he,rfl⟩,by rw [tlE_re]; exact hl⟩
  rw [tlF,if_pos this] at h
  exact absurd h zd
theorem okX_rf {q:Rat}(h:longQ q=false):okX (rfOf q)=true:=by rw [okX_of,h]; rfl
theorem longQ_0:longQ 0=false:=by kernel_rfl
theorem el_re {e:EQ}(h:EOk e)(hl:longQ e.2=false):elF (reOf e)=true:=by
 have h1:[(reOf e).p,(reOf e).q].all okX=true:=by
  simp only [List.all_cons,List.all_nil,Bool.and_true,Bool.and_eq_true]
  exact ⟨okX_rf hl,okX_rf longQ_0⟩
 obtain ⟨k,p⟩:=e
 rw [elF,h1]
 show (true&&elK k (toQ (rfOf p)).num.sign (toQ (rfOf 0)).num.sign)=true
 rw [toQ_of,toQ_of,Bool.true_and]
 rcases h with ⟨hk,hp⟩ | ⟨hk,hp⟩ | ⟨hk,hp⟩
 ·have hk:k=1:=hk
  have hp:0<p:=hp
  subst hk
  rw [kd1 rfl,Bool.and_eq_true]
  refine ⟨?_,rfl⟩
  have:=sgn_l0 (x:=p)
  rw [decide_eq_false (show ¬ p<0 by grind),decide_eq_false_iff_not] at this
  exact decide_eq_true zo
 ·have hk:k=2:=hk
  subst hk
  rw [kd2 rfl rfl]
  rfl
 ·have hk:k=5:=hk
  have hp:p=0:=hp
  subst hk hp
  rfl
theorem ch_re {L:List EQ}(h:Plain L)(hl:∀ e∈L,longQ e.2=false)(h4:L.length≤4096):chF (L.map reOf)=0:=ch_mk (by rw [List.length_map]; exact h4) (List.all_eq_true.2 fun x hx=>by
 obtain ⟨e,he,rfl⟩:=List.mem_map.1 hx
 exact el_re (h.1 e he) (hl e he))
theorem elM_re {e:EQ}(h:EOk e):elM (reOf e)=kdM e:=by
 obtain ⟨k,p⟩:=e
 show elQ k (toQ (rfOf p)) (toQ (rfOf 0))=kdM (k,p)
 rw [toQ_of,toQ_of]
 rcases h with ⟨hk,hp⟩ | ⟨hk,hp⟩ | ⟨hk,hp⟩
 ·have hk:k=1:=hk
  subst hk
  rfl
 ·have hk:k=2:=hk
  subst hk
  show (⟨1,0,0-p,1⟩:MQ)=⟨1,0,-p,1⟩
  rw [show (0:Rat)-p = -p by grind]
 ·have hk:k=5:=hk
  subst hk
  show (⟨0-1,0-0,0-0,0-1⟩:MQ)=⟨-1,0,0,-1⟩
  simp only [MQ.mk.injEq]
  exact ⟨by grind,by grind,by grind,by grind⟩
theorem prod_re {L:List EQ}(h:∀ e∈L,EOk e):prodQ (L.map reOf)=prdQ L:=by
 unfold prodQ prdQ
 rw [List.foldl_map]
 generalize (⟨1,0,0,1⟩:MQ)=m0
 induction L generalizing m0 with
 | nil=>rfl
 | cons e L ih =>
  rw [List.foldl_cons,List.foldl_cons,elM_re (h e (by simp))]
  exact ih (fun e he=>h e (List.mem_cons_of_mem _ he)) _
theorem re_at {L:List EQ}{j:Nat}(h:j<L.length):((L.map reOf).map REA)[j]?=some (REA (reOf L[j])):=by
 rw [List.map_map,List.getElem?_map,List.getElem?_eq_getElem h]
 rfl
theorem re_pr {L:List EQ}{j:Nat}(h:j<L.length)(h0:decide ((j:Int)>0)=true):((L.map reOf).map REA)[j-1]?=some (REA (reOf (L.getD (j-1) (0,0)))):=by
 have:=of_decide_eq_true h0
 rw [re_at (show j-1<L.length by omega),List.getD_eq_getElem?_getD,List.getElem?_eq_getElem zo]
 rfl
theorem in_pr {j:Nat}(h0:decide ((j:Int)>0)=true):In ((j:Int)-1)=In ((j-1:Nat):Int):=by
 have:=of_decide_eq_true h0
 congr 1
 omega
theorem pl_ok {L:List EQ}{j:Nat}(hp:Plain L)(hl:∀ e∈L,longQ e.2=false)(hj:j<L.length):(((L[j].1 != 1&&L[j].1 != 2)&&L[j].1 != 5) || (L[j].1 != 5&&sgF (reOf L[j]).p==0) || (decide ((j:Int)>0)&&(reOf (L.getD (j-1) (0,0))).k==L[j].1))=false:=by
 have hm:=List.getElem_mem hj
 have h1:=hp.1 _ hm
 have h2:=hl _ hm
 have e1:sgF (reOf L[j]).p=L[j].2.num.sign:=by
  show sgF (rfOf L[j].2)=_
  rw [sgF,if_pos (okX_rf h2),toQ_of]
 rw [e1]
 have h3:(decide ((j:Int)>0)&&(reOf (L.getD (j-1) (0,0))).k==L[j].1)=false:=by
  by_cases h0:(j:Int)>0
  ·rw [decide_eq_true h0,Bool.true_and,beq_eq_false_iff_ne]
   have hj1:j-1<L.length:=by omega
   have:=hp.2 (j-1) L[j-1] L[j] (List.getElem?_eq_getElem hj1) (by rw [show j-1+1=j by omega]; exact List.getElem?_eq_getElem hj)
   show (L.getD (j-1) (0,0)).1≠_
   rw [List.getD_eq_getElem?_getD,List.getElem?_eq_getElem hj1]
   exact this
  ·rw [decide_eq_false h0,Bool.false_and]
 rw [h3,Bool.or_false]
 generalize L[j]=e at *
 obtain ⟨k,p⟩:=e
 rcases h1 with ⟨hk,hp⟩ | ⟨hk,hp⟩ | ⟨hk,hp⟩
 ·have hk:k=1:=hk
  have hp:0<p:=hp
  subst hk
  show (((false&&_)&&_) || (true&&(p.num.sign==0)))=false
  rw [sgn_0,decide_eq_false (by grind)]
  rfl
 ·have hk:k=2:=hk
  have hp:p≠0:=hp
  subst hk
  show (((true&&false)&&_) || (true&&(p.num.sign==0)))=false
  rw [sgn_0,decide_eq_false hp]
  rfl
 ·have hk:k=5:=hk
  subst hk
  rfl
theorem plain_c (L:List EQ)(hp:Plain L)(hl:∀ e∈L,longQ e.2=false):Cn Try.prog 8 [(SlA 49 [U32] ((L.map reOf).map REA)).va] (Bo true):=by
 refine Cn.intro Try.func8 rfl zk nq (fun B w0 a hst=>?_)
 have hst:St B w0 53 [(0,(SlA 49 [U32] ((L.map reOf).map REA)).va)] [] a w0.w:=hst
 have hlen:=slA_lenm (hst.vals (0,(SlA 49 [U32] ((L.map reOf).map REA)).va) (zm 0 rfl))
 rw [List.length_map] at hlen
 refine wp_seq ?_
 refine gl (sts:=[]) (news:=[]) (sp:=[.val 2 _]) [.g 0,.o 0] hst (zv rfl (za2 zbg) o0) (fun a w hst=>?_)
 have hst:St B w0 53 [(0,_),(2,_)] [] a w:=hst
 refine zt ?_
 refine wp_seq ?_
 refine gl (sts:=[]) (news:=[]) (sp:=[.val 3 _]) [.g 0,.g 1,.o 0] hst (zv rfl (za2 za3) o0) (fun a w hst=>?_)
 have hst:St B w0 53 [(0,_),(2,_),(3,_)] [] a w:=hst
 refine za0 ?_
 refine wp_block ?_
 have hst:=St.sel hst [0,2]
 refine wp_loop_ghost (fun n a w=>∃ j:Nat,(n+j=L.length)∧St B w0 53 [(0,(SlA 49 [U32] ((L.map reOf).map REA)).va),(3,In (j:Nat))] [] a w) (L.length) ?_ ?_
 ·exact ⟨0,by omega,hst⟩
 intro n a w hI
 obtain ⟨j,hn,hst⟩:=hI
 refine wp_seq ?_
 refine wp_seq ?_
 refine gl (sts:=[]) (news:=[]) (sp:=[.val 5 _,.val 6 _,.val 7 _,.val 8 _]) [.g 0,.g 1,.o 3] hst (zv rfl (za1 (gq 1 rfl)) (zv rfl (za1 (gq 0 rfl)) (zv rfl (r_len Try.underlying22 (vq 1 rfl)) (zv rfl (zc0 (vq 0 rfl) (vq 2 rfl)) o0)))) (fun a w hst=>?_)
 have hst:St B w0 53 [(0,_),(3,_),(8,_)] [] a w:=hst
 refine za0 ?_
 refine zaa hst (zm 2 rfl) (fun hb0=>?_) (fun hb0=>?_)
 ·have hj:j<L.length:=by simp at hb0; omega
  refine wp_skip ?_
  refine zt ?_
  refine wp_block ?_
  refine wp_seq ?_
  refine gl (sts:=[]) (news:=[]) (sp:=[.val 11 _,.val 12 _,.val 13 _,.val 14 _,.val 15 _,.val 4 _]) [.g 0,.g 1,.o 5] hst (zv rfl (za1 (gq 0 rfl)) (zv rfl (za1 (gq 1 rfl)) (zv rfl (r_idx sl_22 (map_n fun _=>rfl) (vq 0 rfl) (vq 1 rfl) (re_at hj)) (zv rfl (zc8 (vq 2 rfl) zbz (Sub.part 0 rfl rfl)) (zv rfl (zas (vq 3 rfl) ty_46) (zv rfl (za2 (vq 4 rfl)) o0)))))) (fun a w hst=>?_)
  have hst:St B w0 53 [(0,_),(3,_),(4,_)] [] a w:=hst
  refine zt<|gl (sts:=[]) (news:=[]) (sp:=((.val 16 _:Sp)::(.val 17 _)::(.val 18 _)::(.val 19 (Wh (_=true) _))::(.val 20 (Wh (_=true) _))::(.val 21 _)::(.val 22 _)::(.val 23 (Wh (_=true) _))::(.val 24 (Wh (_=true) _))::(.val 25 _)::(.val 26 _)::(.val 27 (Wh (_=false) _))::(.val 28 (Wh (_=false) _))::(.val 29 (Wh (_=false) _))::(.val 30 (Wh ((_=false)∧_=true) _))::(.val 31 (Wh ((_=false)∧_=true) _))::(.val 32 (Wh ((_=false)∧_=true) _))::(.val 33 (Wh ((_=false)∧_=true) _))::(.val 34 (Wh ((_=false)∧_=true) _))::(.val 35 (Wh ((_=false)∧_=true) _))::(.val 36 (Wh ((_=false)∧_=true) _))::(.val 37 (Wh (_=false) _))::(.val 38 _)::(.val 39 _)::(.val 40 (Wh (_=false) _))::(.val 41 (Wh (_=false) _))::(.val 42 (Wh (_=false) _))::(.val 43 (Wh ((_=false)∧_=true) _))::(.val 44 (Wh ((_=false)∧_=true) _))::(.val 45 (Wh ((_=false)∧_=true) _))::(.val 46 (Wh ((_=false)∧_=true) _))::(.val 47 (Wh ((_=false)∧_=true) _))::(.val 48 (Wh ((_=false)∧_=true) _))::(.val 49 (Wh ((_=false)∧_=true) _))::(.val 50 (Wh ((_=false)∧_=true) _))::(.val 51 (Wh (_=false) _))::(.val 52 _)::[])) [.g 0,.g 1,.o 36] hst (zv rfl (za1 (gq 2 rfl)) (zv rfl (zch (vq 0 rfl) za3) (zv rfl (za1 (vq 1 rfl)) (oc (zac rfl rfl rfl (vq 2 rfl) nq (fun hg=>za1 (gq 2 rfl))) (oc (zac rfl rfl rfl (vq 2 rfl) nq (fun hg=>zch (za7 (vq 3 rfl) hg) za3)) (zv rfl (zci (vq 2 rfl) (vq 4 rfl)) (zv rfl (za1 (vq 5 rfl)) (oc (zac rfl rfl rfl (vq 6 rfl) nq (fun hg=>za1 (gq 2 rfl))) (oc (zac rfl rfl rfl (vq 6 rfl) nq (fun hg=>zch (za7 (vq 7 rfl) hg) za3)) (zv rfl (zci (vq 6 rfl) (vq 8 rfl)) (zv rfl (za1 (vq 9 rfl)) (oc (zac rfl rfl rfl (vq 10 rfl) nq (fun hg=>za1 (gq 2 rfl))) (oc (zac rfl rfl rfl (vq 10 rfl) nq (fun hg=>zch (za7 (vq 11 rfl) hg) za3)) (oc (zac rfl rfl rfl (vq 10 rfl) nq (fun hg=>za1 (za7 (vq 12 rfl) hg))) (oc (zc3 rfl rfl rfl (vq 13 rfl) nq (fun hg=>za1 (gq 0 rfl))) (oc (zc3 rfl rfl rfl (vq 13 rfl) nq (fun hg=>za1 (gq 1 rfl))) (oc (zc3 rfl rfl rfl (vq 13 rfl) nq (fun hg=>r_idx sl_22 (map_n fun _=>rfl) (za7 (vq 14 rfl) hg) (za7 (vq 15 rfl) hg) (re_at hj))) (oc (zc3 rfl rfl rfl (vq 13 rfl) nq (fun hg=>zc8 (za7 (vq 16 rfl) hg) zbp (Sub.part 1 rfl rfl))) (oc (zc3 rfl rfl rfl (vq 13 rfl) nq (fun hg=>zas (za7 (vq 17 rfl) hg) zam)) (oc (zc3 rfl rfl rfl (vq 13 rfl) nq (fun hg=>za5 (xs:=[.tmp 34]) (fracSign_c _) (.cons (za7 (vq 18 rfl) hg) .nil))) (oc (zc3 rfl rfl rfl (vq 13 rfl) nq (fun hg=>zc5 (za7 (vq 19 rfl) hg) za3)) (oc (zac rfl rfl rfl (vq 10 rfl) nq (fun hg=>zci (za7 (vq 13 rfl) hg) (has_wh2 (vq 20 rfl) hg))) (zv rfl (r_or (vq 10 rfl) (vq 21 rfl)) (zv rfl (za1 (vq 22 rfl)) (oc (zac rfl rfl rfl (vq 23 rfl) nq (fun hg=>za1 (gq 1 rfl))) (oc (zac rfl rfl rfl (vq 23 rfl) nq (fun hg=>r_gtr (za7 (vq 24 rfl) hg) za3)) (oc (zac rfl rfl rfl (vq 23 rfl) nq (fun hg=>za1 (za7 (vq 25 rfl) hg))) (oc (zc3 rfl rfl rfl (vq 26 rfl) nq (fun hg=>za1 (gq 0 rfl))) (oc (zc3 rfl rfl rfl (vq 26 rfl) nq (fun hg=>za1 (gq 1 rfl))) (oc (zc3 rfl rfl rfl (vq 26 rfl) nq (fun hg=>r_sub (za7 (vq 28 rfl) hg) za3 ((wi64 zo zo)))) (oc (zc3 rfl rfl rfl (vq 26 rfl) nq (fun hg=>r_idx sl_22 (map_n fun _=>rfl) (za7 (vq 27 rfl) hg) (has_wk' (za7 (vq 29 rfl) hg) (zc9 (in_pr hg.2))) (re_pr hj hg.2))) (oc (zc3 rfl rfl rfl (vq 26 rfl) nq (fun hg=>zc8 (za7 (vq 30 rfl) hg) zbz (Sub.part 0 rfl rfl))) (oc (zc3 rfl rfl rfl (vq 26 rfl) nq (fun hg=>zas (za7 (vq 31 rfl) hg) ty_46)) (oc (zc3 rfl rfl rfl (vq 26 rfl) nq (fun hg=>za1 (gq 2 rfl))) (oc (zc3 rfl rfl rfl (vq 26 rfl) nq (fun hg=>zc5 (za7 (vq 32 rfl) hg) (za7 (vq 33 rfl) hg))) (oc (zac rfl rfl rfl (vq 23 rfl) nq (fun hg=>zci (za7 (vq 26 rfl) hg) (has_wh2 (vq 34 rfl) hg))) (zv rfl (r_or (vq 23 rfl) (vq 35 rfl)) o0))))))))))))))))))))))))))))))))))))) (fun a w hst=>?_)
  have hst:St B w0 53 [(0,_),(3,_),(52,_)] [] a w:=hst
  refine za0 ?_
  refine zaa hst (zm 2 rfl) (fun hb1=>?_) (fun hb1=>?_)
  ·exact absurd (hb1.symm.trans (pl_ok hp hl hj)) zd
  ·refine wp_skip ?_
   refine zaj ?_
   refine za0 ?_
   refine gl (sts:=[]) (news:=[]) (sp:=[.val 9 _,.val 10 _,.val 3 _]) [.g 0,.o 2] hst (zv rfl (za1 (gq 1 rfl)) (zv rfl (zba (vq 0 rfl) za3 ((wi64 zo zo).trans (by omega:(_:Int)=((j+1:Nat):Int)))) (zv rfl (za2 (vq 1 rfl)) o0))) (fun a w hst=>?_)
   have hst:St B w0 53 [(0,_),(3,_)] [] a w:=hst
   refine za0 ?_
   have hst:=St.sel hst [0,1]
   exact ⟨n-1,by omega,j+1,by omega,hst⟩
 ·obtain rfl:j=L.length:=by simp at hb0; omega
  refine wp_exit ?_
  refine zah ?_
  refine zah ?_
  refine zaz ?_
  refine zt<|gl (sts:=[]) (news:=[]) (sp:=[.val 2 _]) [.o 0] hst (zv rfl (za2 zbg) o0) (fun a w hst=>?_)
  have hst:St B w0 53 [(2,_)] [] a w:=hst
  refine za0 ?_
  refine wp_ret ?_
  refine zak ?_ (zaf rfl hst (zm 0 rfl))
  exact zbl
end Go.Proofs.Ytljkepdpoelpkaa
