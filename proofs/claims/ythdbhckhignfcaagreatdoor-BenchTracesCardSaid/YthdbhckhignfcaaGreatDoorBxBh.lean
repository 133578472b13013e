import Derived.Test.YthdbhckhignfcaaGreatDoorBxAa
import Derived.Test.YthdbhckhignfcaaGreatDoorBxAc
import Derived.Test.YthdbhckhignfcaaGreatDoorBxBd
import Derived.Test.YthdbhckhignfcaaGreatDoorBxBe
import Derived.Test.YthdbhckhignfcaaGreatDoorBxBg
set_option linter.unusedVariables false
set_option linter.unusedSimpArgs false
set_option linter.unusedSectionVars false
set_option maxRecDepth 100000
namespace Go.Proofs.YthdbhckhignfcaaGreatDoor
open Go Go.RowKit
theorem byd_elr {xs:List RE}{r:RR}(hs:(∀ y∈xs,wdE y)∧xs.length≤140737488355328)(hr:wdR r)(h:bydF 0 [elsF (xs.length:Nat) xs,rayCostF r]=false):(xs.length≤209715∧∀ x∈xs,bdF x.p∧bdF x.q)∧(bdF r.y∧bdF r.u):=by
 obtain ⟨c,h1,h2,h3⟩:=els_ok xs xs.length hs.1 zo
 obtain ⟨a1,b1,e1,l1,s1⟩:=ray_cost hr
 rw [h1,e1] at h
 have:=byd_0 (l:=[c,a1+b1]) (by simp; omega) h
 simp at this
 obtain ⟨h4,h5⟩:=h3 zo
 refine ⟨⟨by omega,els_bd h5 zo⟩,?_⟩
 unfold bdF
 omega
theorem tra_len (xs:List RE)(r:RR):(traF xs r).1.length≤4096:=by
 unfold traF
 split
 ·rename_i h
  have:=(ch_ok h).1
  split
  ·split
   ·simp
   ·rw [List.length_map,ze3]; exact this
  ·simp
 ·simp
theorem tra_bd (xs:List RE)(r:RR):∀ y∈(traF xs r).1,bdR y:=fun y hy=>by
 unfold traF at hy
 split at hy
 ·split at hy
  ·split at hy
   ·cases hy
   ·rename_i hl
    obtain ⟨q,hq,rfl⟩:=List.mem_map.1 hy
    have hn:∀ z,z∈frsL xs (toY r) xs.length→¬ longQ z=true:=fun z hz h=>hl (List.any_eq_true.2 ⟨z,hz,h⟩)
    exact ⟨bd_of (hn _ (List.mem_flatMap.2 ⟨q,hq,by simp⟩)),bd_of (hn _ (List.mem_flatMap.2 ⟨q,hq,by simp⟩))⟩
  ·cases hy
 ·cases hy
theorem rrn_rra {x:RR}:WkA (RRN x) (RRA x):=zc1 (.cons zw3 (.cons zw3 .nil))
theorem lsq_rra {q:Nat→Prop}{E m:Nat}{xs:List RR}:Wk (LsQ q E m [U32] (xs.map RRN)) (SlA E [U32] (xs.map RRA)).va:=zc6 lsq_own (zth (zgf fun x=>rrn_rra) (zd6 (p:=fun A=>∀ T∈A.deps,T∈[U32]) fun x=>zfi zk)).va
theorem trd_rrnT {x:RR}:WkA (TRD x) (RRN x):=dis_wk.trans rrt_rrn
theorem zyb {x:RR}:FreeA (RRN x) (RRN x):=zcj (.cons zjo (.cons zjo .nil))
theorem lnK_ys {ms:Nat→Nat→Value}{xs:List RR}(h:∀ x∈xs,bdR x):LnK (lsK rrO kr ms xs xs.length):=by
 have key:∀ i,i≤xs.length→LnK (lsK rrO kr ms xs i):=fun i=>by
  induction i with
  | zero=>exact fun _ p hp=>by cases hp
  | succ i ih =>
   intro hi
   rw [zgv]
   refine zh3 (ih zo) (lnK_r (h _ ?_))
   rw [List.getD_eq_getElem?_getD,List.getElem?_eq_getElem zo]
   exact List.getElem_mem _
 exact key _ (Nat.le_refl _)
section
variable {B N:Nat} {w0:Bs} {Γ:List (Nat × VA)} {Λ:List Lc} {a:Act} {w:World}
theorem St.geIv (h:St B w0 N Γ Λ a w){s lo:Nat}{T:TypeId}{H:Hd}{A:As}(k:Nat)(hm:Λ[k]?=some ⟨s,T,H,GeA lo A⟩)(hnew:NewA A):St B w0 N Γ (Λ.set k ⟨s,T,H,IvA lo w.heap.size A⟩) a w :=
 h.setL k hm fun cs hp=>⟨hp.1,hp.2.1,fun g hg=>⟨hp.2.2 g hg,(hnew _ _ _ hp.1 g hg).2⟩⟩
theorem St.nameI {M:Type}{s lo hi:Nat}{T:TypeId}{H:Hd}{A0 A:As}{AP:M→As}{kl:M→KL}(hw:WkA A0 A)(hs:∀ {B:Nat} {cs:List Value} {w:World},A.p B cs w→∃ m,(AP m).p B cs w∧cbl cs=kbl (kl m)∧OkK (kl m))(h:St B w0 N Γ Λ a w)(k:Nat)(hm:Λ[k]?=some ⟨s,T,H,IvA lo hi A0⟩) :
  ∃ m,(kbl (kl m)).Nodup∧(∀ g∈kbl (kl m),lo≤g∧g<hi)∧OkK (kl m)∧St B w0 N Γ (Λ.set k ⟨s,T,H,AP m⟩) a w:=by
 obtain ⟨g,cs,q1,q2,q3,hp,hn,hl⟩:=h.locs _ (List.mem_of_getElem? hm)
 have hA:=hw.2.2 _ _ _ hp
 obtain ⟨m,p1,e,ok⟩:=hs hA
 refine ⟨m,by rw [← e]; exact hn,fun g hg=>by rw [← e] at hg; exact hl g hg,ok,?_⟩
 have hss:∀ m'∈Λ.set k ⟨s,T,H,AP m⟩,∃ m0∈Λ,m0.s=m'.s:=fun m' hm'=>by
  rcases List.mem_or_eq_of_mem_set hm' with hm' | rfl
  ·exact ⟨m',hm',rfl⟩
  ·exact ⟨_,List.mem_of_getElem? hm,rfl⟩
 refine ⟨h.lo,h.defers,h.size,h.base,h.vals,fun l hl=>?_,fun m1 hm1 m2 hm2 hne=>?_⟩
 ·rcases List.mem_or_eq_of_mem_set hl with hl | rfl
  ·exact h.locs l hl
  ·exact ⟨g,cs,q1,q2,q3,p1⟩
 ·obtain ⟨m3,r1,r2⟩:=hss m1 hm1
  obtain ⟨m4,r3,r4⟩:=hss m2 hm2
  rw [← r2,← r4] at hne ⊢
  exact h.dis m3 r1 m4 r3 hne
end
set_option maxHeartbeats 4000000 in
theorem traces_w (xs:List RE)(hxs:(∀ y∈xs,wdE y)∧xs.length≤140737488355328)(r:RR)(hr:wdR r):Cn Tryz.prog 3 [(SlA 69 [U32] (xs.map REA)).va,(RRA r).va] (Bo true):=by
 refine Cn.introW Tryz.func3 rfl zk nq (.cons (up_slA (zd6 zo6)) (.cons (zuz _).va .nil)) (zes _).va (fun B w0 a hB0 O=>?_)
 have O:=zn [(0,(SlA 69 [U32] (xs.map REA)).va),(1,(RRA r).va)] [] O
 have hB:=hB0
 refine wp_seq<|zg [] [⟨3,29,ptrH,some 0,_,none⟩] [.alc 0,.v 4 _] [.g 0,.o 1] O (oc (zam rfl rfl rfl (gq 1 rfl)) (zv rfl (za2 zav) o0)) (zz [(0,_),(4,_)] [⟨3,29,ptrH,_⟩] fun a w O=>?_)
 refine zt<|wp_seq<|zgd [[],[0],[],[0,1,2],[0,1,2,3],[0,1,2,3,4]] [none] [] [.v 12 _,.v 13 _,.v 14 _,.v 15 _,.v 16 _,.v 17 _] [.g 0,.g 1,.o 5] za6 O (zv rfl (za1 (gq 0 rfl)) (zv rfl (za5 (xs:=[.tmp 12]) (zyx _) (.cons (vq 0 rfl) .nil)) (zv rfl (zaq (lz0 0 rfl) zdg) (zv rfl (za5 (xs:=[.tmp 14]) (zw9 _) (.cons (vq 2 rfl) .nil)) (zv rfl (zcr (D:=[]) (l:=[_,_]) (xs:=[.tmp 13,.tmp 15]) (zeq zk) sl_65 zk (n_ok zk) nq nq nq (.cons (vq 1 rfl) (.cons (vq 3 rfl) .nil)) rfl rfl) (zv rfl (za5 (xs:=[.tmp 16]) (beyond_c [_,_]) (.cons (vq 4 rfl) .nil)) o0)))))) zk zk zk zk (zz [(0,_),(4,_),(17,_)] [⟨3,29,ptrH,_⟩] fun a w O=>?_)
 refine za0<|za8 O (zm 2 rfl) (fun hb0=>?_) (fun hb0=>?_)
 ·refine wp_seq<|zg [none] [] [.v 4 _] [.g 0,.o 0] O (zv rfl (za2 zav) o0) (zz [(0,_),(4,_)] [⟨3,29,ptrH,_⟩] fun a w O=>?_)
  refine za0<|wp_ret<|zag ?_
  refine zai ?_ (zaf rfl O (zm 1 rfl))
  exact zbn
 ·obtain ⟨⟨hl,hbs⟩,hbr⟩:=byd_elr hxs hr hb0
  refine wp_skip<|zt<|zg [none] [] [.v 18 _,.v 19 _,.v 5 _] [.g 0,.g 1,.o 2] O (zv rfl (za1 (gq 0 rfl)) (zv rfl (za5 (xs:=[.tmp 18]) (zjw xs zo hbs) (.cons (vq 0 rfl) .nil)) (zv rfl (za2 (vq 1 rfl)) o0))) (zz [(0,_),(4,_),(5,_)] [⟨3,29,ptrH,_⟩] fun a w O=>?_)
  have O:=St.setG (A':=andV (TwS 69 9 [U32] (xs.map RET) (REA ⟨77,rf0,rf0⟩)) (LsI 0 w.heap.size 69 9 [U32] (xs.map REN))) O 2 rfl (fun h=>⟨h.1,ls_top (lo:=0) (zd6 fun _=>new_ren) (zxc (fun _ _=>Nat.zero_le _) _ _ _ h.2)⟩)
  have O:=St.addSz O 9999
  obtain ⟨h1,eh1⟩:∃ h,w.heap.size=h:=⟨_,rfl⟩
  rw [eh1] at O
  have O:=zn [(0,_),(4,_),(5,_),(9999,_)] [⟨3,29,ptrH,_⟩] O
  refine zt<|zg [none] [⟨6,29,ptrH,some 2,_,some (3,_)⟩] [.v 20 _,.v 21 _,.alc 1,.sto 1] [.g 0,.g 1,.g 2,.g 3] O (zv rfl (zaq (lz0 0 rfl) zdg) (zv rfl (zmk (h:=h1) (s:=9999) (xs:=[.tmp 20]) (zte r hbr) zx0 ziu free_trd (.cons (zuz _).va .nil) (.cons (vq 0 rfl) .nil) (gq 3 rfl)) (oc (zas rfl rfl rfl (Str.zero zgy)) (oc (zak rfl rfl rfl (vq 1 rfl) zdg (Eq.trans (b:=8) rfl rfl)) o0)))) (zz [(0,_),(4,_),(5,_),(9999,_)] [⟨3,29,ptrH,_⟩,⟨6,29,ptrH,_⟩] fun a w O=>?_)
  have O:=St.geIv O 1 rfl zx0
  obtain ⟨qh2,O⟩:=St.newSz O 3 rfl
  obtain ⟨h2,eh2⟩:∃ h,w.heap.size=h:=⟨_,rfl⟩
  rw [eh2] at O qh2
  have O:=zn [(0,_),(4,_),(5,_),(9999,_)] [⟨3,29,ptrH,_⟩,⟨6,29,ptrH,_⟩] O
  refine zt<|zg [none,none] [] [.v 23 _,.v 24 _,.v 25 _,.v 22 _,.v 26 _,.v 27 _,.v 7 _,.v 8 _] [.g 0,.g 1,.g 2,.g 3,.o 6,.o 7] O (zv rfl (za1 (gq 2 rfl)) (zv rfl (zaq (lz0 1 rfl) zdg) (zv rfl (zwd (h:=h2) (s:=9999) (xs:=[.tmp 23,.tmp 24]) (ztf xs r) (zd6 fun _=>zq1) (zd6 fun _=>zyb) (zgh _ _) (.cons (up_slA (zd6 zo6)) (.cons (zuz _).va .nil)) (.cons (has_wk' (vq 0 rfl) tws_sla) (.cons (has_wk' (has_wk' (vq 1 rfl) (iv_wk.trans dis_wk).va) wkA_rrt.va) .nil)) (gq 3 rfl)) (zv rfl (za1 (vq 2 rfl)) (zv rfl (r_ex0 (vq 3 rfl)) (zv rfl (r_ex1 (vq 3 rfl)) (zv rfl (za2 (vq 4 rfl)) (zv rfl (za2 (vq 5 rfl)) o0)))))))) (zz [(0,_),(4,_),(5,_),(9999,_),(7,_),(8,_)] [⟨3,29,ptrH,_⟩,⟨6,29,ptrH,_⟩] fun a w O=>?_)
  have O:=St.setG (A':=LsI h2 w.heap.size 29 8 [U32] ((traF xs r).1.map RRN)) O 4 rfl (fun h=>ls_top (zd6 fun _=>zq1) h)
  obtain ⟨qh3,O⟩:=St.newSz O 3 rfl
  obtain ⟨h3,eh3⟩:∃ h,w.heap.size=h:=⟨_,rfl⟩
  rw [eh3] at O qh3
  have O:=zn [(0,_),(4,_),(5,_),(9999,_),(7,_),(8,_)] [⟨3,29,ptrH,_⟩,⟨6,29,ptrH,_⟩] O
  refine zt<|zg [none,none] [] [.v 29 _,.v 30 _,.v 31 _,.v 28 _,.v 32 _,.v 33 _,.v 9 _,.v 10 _] [.g 0,.g 1,.g 2,.g 3,.g 4,.g 5,.o 6,.o 7] O (zv rfl (za1 (gq 0 rfl)) (zv rfl (zaq (lz0 0 rfl) zdg) (zv rfl (za5 (xs:=[.tmp 29,.tmp 30]) (ztt xs r) (.cons (vq 0 rfl) (.cons (vq 1 rfl) .nil))) (zv rfl (za1 (vq 2 rfl)) (zv rfl (r_ex0 (vq 3 rfl)) (zv rfl (r_ex1 (vq 3 rfl)) (zv rfl (za2 (vq 4 rfl)) (zv rfl (za2 (vq 5 rfl)) o0)))))))) (zz [(0,_),(4,_),(5,_),(9999,_),(7,_),(8,_),(9,_),(10,_)] [⟨3,29,ptrH,_⟩,⟨6,29,ptrH,_⟩] fun a w O=>?_)
  refine zt<|wp_seq<|zg [none,none] [] [.v 34 _,.v 35 _,.v 36 _,.v 37 _,.v 38 (Wh (_=false) _),.v 39 (Wh (_=false) _),.v 40 (Wh (_=false) _),.v 41 (Wh (_=false) _),.v 42 _,.v 43 _,.v 44 (Wh (_=false) _),.v 45 (Wh (_=false) _),.v 46 (Wh (_=false) _),.v 47 (Wh (_=false) _),.v 48 _,.v 49 _,.v 50 (Wh (_=false) _),.v 51 (Wh (_=false) _),.v 52 (Wh (_=false) _),.v 53 (Wh (_=false) _),.v 54 _] [.g 1,.g 2,.g 3,.g 4,.o 20] O (zv rfl (za1 (gq 5 rfl)) (zv rfl (za1 (gq 7 rfl)) (zv rfl (zdw (vq 0 rfl) (vq 1 rfl)) (zv rfl (za1 (vq 2 rfl)) (oc (zan rfl rfl rfl (vq 3 rfl) nq (fun hg=>za1 (gq 4 rfl))) (oc (zan rfl rfl rfl (vq 3 rfl) nq (fun hg=>za1 (gq 6 rfl))) (oc (zan rfl rfl rfl (vq 3 rfl) nq (fun hg=>za5 (xs:=[.tmp 38,.tmp 39]) (zti (traF xs r).1 (traF xs r).1) (.cons (has_wk' (zab (vq 4 rfl) hg) lsq_rra) (.cons (zab (vq 5 rfl) hg) .nil)))) (oc (zan rfl rfl rfl (vq 3 rfl) nq (fun hg=>zeh (zab (vq 6 rfl) hg))) (zv rfl (r_or (vq 3 rfl) (vq 7 rfl)) (zv rfl (za1 (vq 8 rfl)) (oc (zan rfl rfl rfl (vq 9 rfl) nq (fun hg=>za1 (gq 2 rfl))) (oc (zan rfl rfl rfl (vq 9 rfl) nq (fun hg=>za1 (gq 0 rfl))) (oc (zan rfl rfl rfl (vq 9 rfl) nq (fun hg=>za5 (xs:=[.tmp 44,.tmp 45]) (zlb xs xs zo hbs) (.cons (has_wk' (zab (vq 10 rfl) hg) zzn) (.cons (zab (vq 11 rfl) hg) .nil)))) (oc (zan rfl rfl rfl (vq 9 rfl) nq (fun hg=>zeh (zab (vq 12 rfl) hg))) (zv rfl (r_or (vq 9 rfl) (vq 13 rfl)) (zv rfl (za1 (vq 14 rfl)) (oc (zan rfl rfl rfl (vq 15 rfl) nq (fun hg=>zaq (lz0 1 rfl) zdg)) (oc (zan rfl rfl rfl (vq 15 rfl) nq (fun hg=>zaq (lz0 0 rfl) zdg)) (oc (zan rfl rfl rfl (vq 15 rfl) nq (fun hg=>za5 (xs:=[.tmp 50,.tmp 51]) (zxn r r hbr) (.cons (has_wk' (zab (vq 16 rfl) hg) (iv_wk.trans dis_wk).va) (.cons (zab (vq 17 rfl) hg) .nil)))) (oc (zan rfl rfl rfl (vq 15 rfl) nq (fun hg=>zeh (zab (vq 18 rfl) hg))) (zv rfl (r_or (vq 15 rfl) (vq 19 rfl)) o0))))))))))))))))))))) (zz [(4,_),(5,_),(9999,_),(7,_),(54,_)] [⟨3,29,ptrH,_⟩,⟨6,29,ptrH,_⟩] fun a w O=>?_)
  refine za0<|za8 O (zm 4 rfl) (fun hb1=>?_) (fun hb1=>?_)
  ·exact absurd hb1 (by simp)
  ·refine wp_skip<|zt<|zg [none,none] [⟨11,59,ptrH,some 1,_,some (2,_)⟩] [.v 55 _,.alc 2,.sto 2] [.g 0,.g 1,.g 2,.g 3] O (zv rfl (zbg (xs:=[]) (qs:=[]) str_book .nil) (oc (zas rfl rfl rfl zur) (oc (zak rfl rfl rfl (vq 0 rfl) ty_59 (Eq.trans (b:=17) rfl rfl)) o0))) (zz [(4,_),(5,_),(9999,_),(7,_)] [⟨3,29,ptrH,_⟩,⟨6,29,ptrH,_⟩,⟨11,59,ptrH,_⟩] fun a w O=>?_)
   have O:=St.wkL (A':=BkF [] [] []) O 2 rfl zbk_bkf
   have O:=St.wkG O 1 rfl andV_2
   obtain ⟨v5,m5,n5,b5,o5,c5,O⟩:=St.nameLs (z:=reO) (AP:=EleP) zyy (fun _ _=>rfl) elp_deps O 1 rfl
   obtain ⟨v7,m7,n7,b7,o7,c7,O⟩:=St.nameLs (z:=rrO) (AP:=RayP) zoj (fun _ _=>rfl) zw8 O 3 rfl
   obtain ⟨m6,n6,b6,o6,O⟩:=St.nameI (A:=RRN r) (AP:=(fun m:Nat→Value=>RayP r m)) (kl:=(fun m:Nat→Value=>kr r m)) trd_rrnT zoj O 1 rfl
   have hry:=tra_len xs r
   have O:=zn [(4,_),(5,_),(9999,_),(7,_)] [⟨3,29,ptrH,_⟩,⟨6,29,ptrH,_⟩,⟨11,59,ptrH,_⟩] O
   refine zt ?_
   have hq0:=zq6 ivk_nil n5 b5 zq7
   have hq1:=zq6 hq0 n6 b6 (zq8 zq7 zo)
   have hq2:=zq6 hq1 n7 b7 (zq8 (zq8 zq7 zo) zo)
   refine zbs (sp:=[.v 56 _,.v 57 VT]) 1 1 99 1 OneC [.g 0,.g 2,.g 3,.o 0] O (zv rfl (za1 (gq 1 rfl)) o0) rfl zd zk zk (zz [(4,_),(9999,_),(7,_),(56,_)] [⟨3,29,ptrH,_⟩,⟨6,29,ptrH,_⟩,⟨11,59,ptrH,_⟩] fun a w O=>?_)
   rw [show List.range' 1 1=[1] from rfl]
   rw [wpOps_cons]
   refine zd8 (A1:=BkF (([]++lsK reO ke m5 xs xs.length)) [] ([(v5,xs.length)])) (xs:=[.tmp 56]) [0,1,2] [3] 2 rfl O (zxs ([]) [] ([]) hq0.nd (fun p hp=>by cases hp) (by show 0+4*xs.length+0+0≤999900; omega)) rfl rfl (.cons ⟨_,rfl,rfl⟩ .nil) rfl (zn1 hB) zd zk zk zk zk (fun a w O=>?_)
   refine zbi ?_
   have O:=zn [(57,_),(4,_),(9999,_),(7,_)] [⟨3,29,ptrH,_⟩,⟨6,29,ptrH,_⟩,⟨11,59,ptrH,BkF (([]++lsK reO ke m5 xs xs.length)) [] ([(v5,xs.length)])⟩] O
   refine zt<|zbs (sp:=[.v 58 _,.v 59 VT]) 1 1 99 1 OneC [.g 1,.g 2,.g 3,.o 0] O (zv rfl (zaq (lz0 1 rfl) zdg) o0) rfl zd zk zk (zz [(4,_),(9999,_),(7,_),(58,_)] [⟨3,29,ptrH,_⟩,⟨6,29,ptrH,_⟩,⟨11,59,ptrH,_⟩] fun a w O=>?_)
   rw [show List.range' 1 1=[1] from rfl]
   rw [wpOps_cons]
   refine zd8 (A1:=BkF ((([]++lsK reO ke m5 xs xs.length)++kr r m6)) [] ([(v5,xs.length)])) (xs:=[.tmp 58]) [0,1,2] [3] 2 rfl O (zs6 r m6 (([]++lsK reO ke m5 xs xs.length)) [] ([(v5,xs.length)]) hq1.nd (by have k6:(kr r m6).length=4:=rfl; simp only [List.length_append,List.length_nil,List.length_cons,zd5,zd4,k6]; omega)) rfl rfl (.cons ⟨_,rfl,rfl⟩ .nil) rfl (zn1 hB) zd zk zk zk zk (fun a w O=>?_)
   refine zbi ?_
   have O:=zn [(59,_),(4,_),(9999,_),(7,_)] [⟨3,29,ptrH,_⟩,⟨6,29,ptrH,_⟩,⟨11,59,ptrH,BkF ((([]++lsK reO ke m5 xs xs.length)++kr r m6)) [] ([(v5,xs.length)])⟩] O
   refine zt<|zbs (sp:=[.v 60 _,.v 61 VT]) 1 1 99 1 OneC [.g 1,.g 2,.o 0] O (zv rfl (za1 (gq 3 rfl)) o0) rfl zd zk zk (zz [(4,_),(9999,_),(60,_)] [⟨3,29,ptrH,_⟩,⟨6,29,ptrH,_⟩,⟨11,59,ptrH,_⟩] fun a w O=>?_)
   rw [show List.range' 1 1=[1] from rfl]
   rw [wpOps_cons]
   refine zd8 (A1:=BkF (((([]++lsK reO ke m5 xs xs.length)++kr r m6)++lsK rrO kr m7 (traF xs r).1 (traF xs r).1.length)) [(v7,(traF xs r).1.length)] ([(v5,xs.length)])) (xs:=[.tmp 60]) [0,1] [2] 2 rfl O (zxp ((([]++lsK reO ke m5 xs xs.length)++kr r m6)) [] ([(v5,xs.length)]) hq2.nd (fun p hp=>by cases hp) (by have k6:(kr r m6).length=4:=rfl; simp only [List.length_append,List.length_nil,List.length_cons,zd5,zd4,k6]; omega)) rfl rfl (.cons ⟨_,rfl,rfl⟩ .nil) rfl (zn1 hB) zd zk zk zk zk (fun a w O=>?_)
   refine zbi ?_
   have O:=zn [(61,_),(4,_),(9999,_)] [⟨3,29,ptrH,_⟩,⟨6,29,ptrH,_⟩,⟨11,59,ptrH,BkF (((([]++lsK reO ke m5 xs xs.length)++kr r m6)++lsK rrO kr m7 (traF xs r).1 (traF xs r).1.length)) [(v7,(traF xs r).1.length)] ([(v5,xs.length)])⟩] O
   refine zt ?_
   have O:=St.selL O [2]
   refine go_first (m:=1) zk ?_
   refine zd8 (A1:=JkA) (xs:=[]) [] [] 0 rfl O (apartF_c (((([]++lsK reO ke m5 xs xs.length)++kr r m6)++lsK rrO kr m7 (traF xs r).1 (traF xs r).1.length)) [(v7,(traF xs r).1.length)] ([(v5,xs.length)]) (okK_len (zil (zil (zil okK_nil o5) o6) o7) (zh3 (zh3 (zh3 lnK_nil (lnK_ls hbs)) (lnK_r hbr)) (lnK_ys (tra_bd xs r)))) (fun p hp=>by simp only [List.mem_cons,List.not_mem_nil,or_false] at hp; rcases hp with rfl <;> (show _≤_; omega)) (fun p hp=>by simp only [List.mem_cons,List.not_mem_nil,or_false] at hp; rcases hp with rfl <;> (show _≤_; omega)) (by have k6:(kr r m6).length=4:=rfl; simp only [List.length_append,List.length_nil,List.length_cons,zd5,zd4,k6]; omega)) rfl rfl .nil rfl (zn1 hB) zd zk zk zk zk (zz [(62,Bo true)] [⟨11,_,ptrH,JkA⟩] fun a w O=>?_)
   refine go_restM (sp:=[.v 62 (Bo true),.v 4 _]) [.o 1] O rfl zk (zv rfl (za2 (vq 0 rfl)) o0) zk zk (zz [(4,_)] [⟨11,59,ptrH,_⟩] fun a w O=>?_)
   refine za0<|wp_ret<|zai ?_ (zaf rfl O (zm 0 rfl))
   refine zbt (congrArg Bo ?_); simp
end Go.Proofs.YthdbhckhignfcaaGreatDoor
