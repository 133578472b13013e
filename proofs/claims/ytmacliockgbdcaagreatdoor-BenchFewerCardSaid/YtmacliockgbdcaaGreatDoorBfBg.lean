import Derived.Test.YtmacliockgbdcaaGreatDoorBfAa
import Derived.Test.YtmacliockgbdcaaGreatDoorBfAc
import Derived.Test.YtmacliockgbdcaaGreatDoorBfAz
import Derived.Test.YtmacliockgbdcaaGreatDoorBfBb
import Derived.Test.YtmacliockgbdcaaGreatDoorBfBf
set_option linter.unusedVariables false
set_option linter.unusedSimpArgs false
set_option linter.unusedSectionVars false
set_option maxRecDepth 100000
namespace Go.Proofs.YtmacliockgbdcaaGreatDoor
open Go Go.RowKit
theorem CH {xs:List RE}{m:RM}(hs:(∀ y∈xs,wdE y)∧xs.length≤140737488355328)(hm:wdM m)(h:bydF 0 [elsF (xs.length:Nat) xs,matCostF m]=false):(xs.length≤209715∧∀ x∈xs,bdF x.p∧bdF x.q)∧(bdF m.a∧bdF m.b∧bdF m.c∧bdF m.d):=by
 obtain ⟨c,h1,h2,h3⟩:=yK xs xs.length hs.1 zo
 obtain ⟨a1,b1,c1,d1,e1,l1,s1⟩:=wB hm
 rw [h1,e1] at h
 have:=byd_0 (l:=[c,a1+b1+c1+d1]) (by simp; omega) h
 simp at this
 obtain ⟨h4,h5⟩:=h3 zo
 refine ⟨⟨by omega,els_bd h5 zo⟩,?_⟩
 unfold bdF
 omega
theorem rG {L:List EQ}:∀ x∈(toldL L).1.map reOf,bdF x.p∧bdF x.q:=fun x hx=>by
 rcases zU (L.map reOf) with h | h
 ·rw [iJ h] at hx
  obtain ⟨e,he,rfl⟩:=List.mem_map.1 hx
  exact ⟨bd_of (by rw [vu h e he]; decide),bd_of (by rw [nV]; decide)⟩
 ·rw [iI h] at hx
  cases hx
theorem oI {L:List EQ}:(toldL L).1.length≤L.length:=by
 rcases zU (L.map reOf) with h | h
 ·rw [iJ h]; exact Nat.le_refl _
 ·rw [iI h]; exact Nat.zero_le _
theorem Ag (xs:List RE):∀ x∈(simF xs).1.map reOf,bdF x.p∧bdF x.q:=by
 unfold simF
 split
 ·exact rG
 ·exact fun x hx=>by cases hx
theorem vJ (xs:List RE):((simF xs).1.map reOf).length≤4096:=by
 rw [List.length_map]
 unfold simF
 split
 ·rename_i h
  have:=oI (L:=simQ xs)
  have:=gE xs
  have:=(CA h).1
  omega
 ·exact Nat.zero_le _
theorem AR (m:RM):∀ x∈(parF m).1.map reOf,bdF x.p∧bdF x.q:=by
 unfold parF
 split
 ·exact rG
 ·exact fun x hx=>by cases hx
theorem wn (m:RM):((parF m).1.map reOf).length≤5:=by
 rw [List.length_map]
 unfold parF
 split
 ·rename_i h
  have:=oI (L:=partsQ (toM m))
  have:=d5 (toM m)
  rw [sT (tc h).2] at *
  omega
 ·exact Nat.zero_le _
theorem vv {x:RM}:WkA (TMD x) (RMN x):=dis_wk.trans Ao
section
variable {B N:Nat} {w0:Bs} {Γ:List (Nat × VA)} {Λ:List Lc} {a:Act} {w:World}
theorem St.geIv (h:St B w0 N Γ Λ a w){s lo:Nat}{T:TypeId}{H:Hd}{A:As}(k:Nat)(hm:Λ[k]?=some ⟨s,T,H,GeA lo A⟩)(hnew:NewA A):St B w0 N Γ (Λ.set k ⟨s,T,H,IvA lo w.heap.size A⟩) a w :=
 h.setL k hm fun cs hp=>⟨hp.1,hp.2.1,fun g hg=>⟨hp.2.2 g hg,(hnew _ _ _ hp.1 g hg).2⟩⟩
theorem St.nameI {M:Type}{s lo hi:Nat}{T:TypeId}{H:Hd}{A0 A:As}{AP:M→As}{kl:M→KL}(hw:WkA A0 A)(hs:∀ {B:Nat} {cs:List Value} {w:World},A.p B cs w→∃ m,(AP m).p B cs w∧cbl cs=kbl (kl m)∧OkK (kl m))(h:St B w0 N Γ Λ a w)(k:Nat)(hm:Λ[k]?=some ⟨s,T,H,IvA lo hi A0⟩) :
  ∃ m,(kbl (kl m)).Nodup∧(∀ g∈kbl (kl m),lo≤g∧g<hi)∧OkK (kl m)∧St B w0 N Γ (Λ.set k ⟨s,T,H,AP m⟩) a w:=by
 obtain ⟨g,cs,q1,q2,q3,hp,hn,hl⟩:=h.locs _ (List.mem_of_getElem? hm)
 have hA:=hw.2.2 _ _ _ hp
 obtain ⟨m,p1,e,ok⟩:=hs hA
 refine ⟨m,by rw [← e]; exact hn,fun g hg=>by rw [← e] at hg; exact hl g hg,ok,?_⟩
 have hss:∀ m'∈Λ.set k ⟨s,T,H,AP m⟩,∃ m0∈Λ,m0.s=m'.s:=fun m' hm'=>by
  rcases List.mem_or_eq_of_mem_set hm' with hm' | rfl
  ·exact ⟨m',hm',rfl⟩
  ·exact ⟨_,List.mem_of_getElem? hm,rfl⟩
 refine ⟨h.lo,h.defers,h.size,h.base,h.vals,fun l hl=>?_,fun m1 hm1 m2 hm2 hne=>?_⟩
 ·rcases List.mem_or_eq_of_mem_set hl with hl | rfl
  ·exact h.locs l hl
  ·exact ⟨g,cs,q1,q2,q3,p1⟩
 ·obtain ⟨m3,r1,r2⟩:=hss m1 hm1
  obtain ⟨m4,r3,r4⟩:=hss m2 hm2
  rw [← r2,← r4] at hne ⊢
  exact h.dis m3 r1 m4 r3 hne
end
theorem re_eq {x y:RE}:((((x.k==y.k)&&decide (x.p=y.p)))&&decide (x.q=y.q))=decide (x=y):=by
 cases x; cases y
 simp [RE.mk.injEq,Bool.and_assoc]
 rfl
theorem se_no {xs ys:List RE}{j:Nat}(hx:j<xs.length)(hy:j<ys.length)(h:decide (xs[j]=ys[j])=false):decide (xs=ys)=false:=by
 simp only [decide_eq_false_iff_not] at h ⊢
 rintro rfl
 exact h rfl
theorem se_nx {xs ys:List RE}{j:Nat}(hx:j<xs.length)(hy:j<ys.length)(hp:xs.take j=ys.take j)(h:decide (xs[j]=ys[j])=true):xs.take (j+1)=ys.take (j+1):=by
 rw [List.take_succ_eq_append_getElem hx,List.take_succ_eq_append_getElem hy,hp,of_decide_eq_true h]
theorem vT (x y:RE):Cn Tryz.prog 43 [(REA x).va,(REA y).va] (Bo (decide (x=y))):=by
 refine Cn.intro Tryz.func43 G zk nq (fun B w0 a U=>?_)
 have U:=zn [(0,(REA x).va),(1,(REA y).va)] [] U
 refine wp_seq<|zg [] [⟨2,67,ptrH,some 0,_,none⟩,⟨3,67,ptrH,some 1,_,none⟩] [.alc 0,.alc 1,.v 4 _] [.o 2] U (oc (ay G G G (gq 0 G)) (oc (ay G G G (gq 1 G)) (zv G (a9 aK) o0))) (zz [(4,_)] [O 2 67 _,O 3 67 _] fun a w U=>?_)
 refine zt<|zg [none,none] [] [.adr 5 2 (.some 0) True,.v 6 _,.adr 7 3 (.some 0) True,.v 8 _,.v 9 _,.v 10 _,.adr 11 2 (.some 1) (_=true),.v 12 (Wh (_=true) _),.adr 13 3 (.some 1) (_=true),.v 14 (Wh (_=true) _),.v 15 (Wh (_=true) _),.v 16 _,.v 17 _,.adr 18 2 (.some 5) (_=true),.v 19 (Wh (_=true) _),.adr 20 3 (.some 5) (_=true),.v 21 (Wh (_=true) _),.v 22 (Wh (_=true) _),.v 23 _,.v 4 _] [.o 19] U (oc (ob_a G G (ac (lz0 0 G) bP)) (zL 0 0 0 G er (oc (ob_a G G (ac (lz0 1 G) bP)) (zL 2 1 0 G er (zv G (bD (vq 1 G) (vq 3 G)) (zv G (ae (vq 4 G)) (oc (bM G G G (vq 5 G) nq (fun hg=>ac (lz0 0 G) bg)) (oc (an G G G (vq 5 G) nq (fun hg=>aD 6 G zk hg (lz0 0 G) (Sub.part 1 G G) ax)) (oc (bM G G G (vq 5 G) nq (fun hg=>ac (lz0 1 G) bg)) (oc (an G G G (vq 5 G) nq (fun hg=>aD 8 G zk hg (lz0 1 G) (Sub.part 1 G G) ax)) (oc (an G G G (vq 5 G) nq (fun hg=>aa (xs:=[.tmp 12,.tmp 14]) (jU _ _) (.cons (ai (vq 7 G) hg) (.cons (ai (vq 9 G) hg) .nil)))) (zv G (bJ (vq 5 G) (vq 10 G)) (zv G (ae (vq 11 G)) (oc (bM G G G (vq 12 G) nq (fun hg=>ac (lz0 0 G) bK)) (oc (an G G G (vq 12 G) nq (fun hg=>aD 13 G zk hg (lz0 0 G) (Sub.part 2 G G) ax)) (oc (bM G G G (vq 12 G) nq (fun hg=>ac (lz0 1 G) bK)) (oc (an G G G (vq 12 G) nq (fun hg=>aD 15 G zk hg (lz0 1 G) (Sub.part 2 G G) ax)) (oc (an G G G (vq 12 G) nq (fun hg=>aa (xs:=[.tmp 19,.tmp 21]) (jU _ _) (.cons (ai (vq 14 G) hg) (.cons (ai (vq 16 G) hg) .nil)))) (zv G (bJ (vq 12 G) (vq 17 G)) (zA 18 G o0)))))))))))))))))))) (zz [(4,_)] [O 2 67 _,O 3 67 _] fun a w U=>?_)
 refine a7<|wp_ret<|ar ?_ (am G U (zm 0 G))
 exact bc (congrArg Bo re_eq)
theorem mh (xs ys:List RE):Cn Tryz.prog 13 [(SlA 67 [U32] (xs.map REA)).va,(SlA 67 [U32] (ys.map REA)).va] (Bo (decide (xs=ys))):=by
 refine Cn.intro Tryz.func13 G zk nq (fun B w0 a U=>?_)
 have U:=zn [(0,(SlA 67 [U32] (xs.map REA)).va),(1,(SlA 67 [U32] (ys.map REA)).va)] [] U
 have hl:=fT (U.vals (0,(SlA 67 [U32] (xs.map REA)).va) (zm 0 rfl))
 refine wp_seq<|zh [.v 4 _] [.g 0,.g 1,.o 0] U (zv G (a9 aK) o0) (zz [(0,_),(1,_),(4,_)] [] fun a w U=>?_)
 refine zt<|wp_seq<|zh [.v 6 _,.v 7 _,.v 8 _,.v 9 _,.v 10 _] [.g 0,.g 1,.g 2,.o 4] U (zM 0 G (zv G (be Tryz.underlying22 (vq 0 G)) (zM 1 G (zv G (be Tryz.underlying22 (vq 2 G)) (zv G (cI (vq 1 G) (vq 3 G)) o0))))) (zz [(0,_),(1,_),(4,_),(10,_)] [] fun a w U=>?_)
 refine a7<|ah U (zm 3 G) (fun hb0=>?_) (fun hb0=>?_)
 ·have hne:decide (xs=ys)=false:=by
   simp only [List.length_map] at hb0
   simp only [decide_eq_false_iff_not]
   rintro rfl
   simp at hb0
  refine wp_seq<|zh [.v 4 _] [.g 0,.g 1,.o 0] U (zv G (a9 aK) o0) (zz [(0,_),(1,_),(4,_)] [] fun a w U=>?_)
  refine a7<|wp_ret<|ap ?_
  refine ar ?_ (am G U (zm 2 G))
  exact bc (congrArg Bo hne.symm)
 ·have hee:xs.length=ys.length:=by
   simp only [List.length_map] at hb0; have:(xs.length:Int)=(ys.length:Int):=by simpa using hb0
   omega
  refine wp_skip<|zt<|wp_seq<|zh [.v 5 _] [.g 0,.g 1,.g 2,.o 0] U (zv G (a9 a8) o0) (zz [(0,_),(1,_),(4,_),(5,_)] [] fun a w U=>?_)
  refine a7<|wp_block ?_
  have U:=St.sel U [0,1,3]
  refine wp_loop_ghost (fun n a w=>∃ (j:Nat),(n+j=xs.length∧xs.take j=ys.take j)∧St B w0 27 [(0,(SlA 67 [U32] (xs.map REA)).va),(1,(SlA 67 [U32] (ys.map REA)).va),(5,In (j:Nat))] [] a w) (xs.length) ?_ ?_
  ·exact ⟨0,⟨by omega,rfl⟩,U⟩
  intro n a w hI
  obtain ⟨j,⟨hn,hp⟩,U⟩:=hI
  refine wp_seq<|wp_seq<|zh [.v 11 _,.v 12 _,.v 13 _,.v 14 _] [.g 0,.g 1,.g 2,.o 3] U (zM 2 G (zM 0 G (zv G (be Tryz.underlying22 (vq 1 G)) (zv G (aN (vq 0 G) (vq 2 G)) o0)))) (zz [(0,_),(1,_),(5,_),(14,_)] [] fun a w U=>?_)
  refine a7<|ah U (zm 3 G) (fun hb1=>?_) (fun hb1=>?_)
  ·have hj:j<xs.length:=by rw [List.length_map] at hb1; have:=of_decide_eq_true hb1; omega
   have hj2:j<ys.length:=by omega
   refine wp_skip<|zt<|wp_block<|wp_seq<|zgd [[],[],[0,1],[0,1,2],[],[],[4,5],[4,5,6],[0,1,2,3,4,5,6,7],[0,1,2,3,4,5,6,7,8]] [] [] [.v 17 _,.v 18 _,.v 19 _,.v 20 _,.v 21 _,.v 22 _,.v 23 _,.v 24 _,.v 25 _,.v 26 _] [.g 0,.g 1,.g 2,.o 9] ab U (zM 0 G (zM 2 G (zv G (cB cC (fM fun _=>rfl) (vq 0 G) (vq 1 G) (dD hj)) (zv G (aq (vq 2 G) cb) (zM 1 G (zM 2 G (zv G (cB cC (fM fun _=>rfl) (vq 4 G) (vq 5 G) (dD hj2)) (zv G (aq (vq 6 G) cb) (zv G (aa (xs:=[.tmp 20,.tmp 24]) (vT _ _) (.cons (vq 3 G) (.cons (vq 7 G) .nil))) (zv G (dS (vq 8 G)) o0)))))))))) zk zk zk zk (zz [(0,_),(1,_),(5,_),(26,_)] [] fun a w U=>?_)
   refine a7<|ah U (zm 3 G) (fun hb2=>?_) (fun hb2=>?_)
   ·refine wp_seq<|zh [.v 4 _] [.g 0,.g 1,.g 2,.o 0] U (zv G (a9 aK) o0) (zz [(0,_),(1,_),(5,_),(4,_)] [] fun a w U=>?_)
    refine a7<|wp_ret<|aV ?_
    refine ap ?_
    refine ap ?_
    refine aV ?_
    refine ap ?_
    refine ar ?_ (am G U (zm 3 G))
    exact bc (congrArg Bo (se_no hj hj2 (by simpa using hb2)).symm)
   ·refine wp_skip<|ao ?_
    refine a7<|zh [.v 15 _,.v 16 _,.v 5 _] [.g 0,.g 1,.o 2] U (zM 2 G (zv G (aR (vq 0 G) a8 ((wi64 zo zo).trans (by omega:(_:Int)=((j+1:Nat):Int)))) (zA 1 G o0))) (zz [(0,_),(1,_),(5,_)] [] fun a w U=>?_)
    refine a7 ?_
    have U:=St.sel U [0,1,2]
    exact ⟨n-1,by omega,j+1,⟨by omega,se_nx hj hj2 hp (by simpa using hb2)⟩,U⟩
  ·have hj:j=xs.length:=by rw [List.length_map] at hb1; have:=of_decide_eq_false hb1; omega
   refine wp_exit<|ak<|ak<|aC<|zt<|zh [.v 4 _] [.o 0] U (zv G (a9 aK) o0) (zz [(4,_)] [] fun a w U=>?_)
   refine a7<|wp_ret<|ar ?_ (am G U (zm 0 G))
   exact bc (congrArg Bo (decide_eq_true (by rw [hj,List.take_length,hee,List.take_length] at hp; exact hp)).symm)
set_option maxHeartbeats 4000000 in
theorem C7 (xs:List RE)(hxs:(∀ y∈xs,wdE y)∧xs.length≤140737488355328)(mx:RM)(hm:wdM mx):Cn Tryz.prog 3 [(SlA 67 [U32] (xs.map REA)).va,(RMA mx).va] (Bo true):=by
 refine Cn.introW Tryz.func3 G zk nq (.cons (xP (cm jN)) (.cons (rt _).va .nil)) (eF _).va (fun B w0 a hB0 U=>?_)
 have U:=zn [(0,(SlA 67 [U32] (xs.map REA)).va),(1,(RMA mx).va)] [] U
 have hB:=hB0
 refine wp_seq<|zg [] [⟨3,29,ptrH,some 0,_,none⟩] [.alc 0,.v 4 _] [.g 0,.o 1] U (oc (ay G G G (gq 1 G)) (zv G (a9 aK) o0)) (zz [(0,_),(4,_)] [O 3 29 _] fun a w U=>?_)
 refine zt<|wp_seq<|zgd [[],[0],[],[0,1,2],[0,1,2,3],[0,1,2,3,4]] [none] [] [.v 16 _,.v 17 _,.v 18 _,.v 19 _,.v 20 _,.v 21 _] [.g 0,.g 1,.o 5] ab U (zM 0 G (zv G (aa (xs:=[.tmp 16]) (uB _) (.cons (vq 0 G) .nil)) (zl 0 G dg (zv G (aa (xs:=[.tmp 18]) (tx _) (.cons (vq 2 G) .nil)) (zv G (cz (D:=[]) (l:=[_,_]) (xs:=[.tmp 17,.tmp 19]) (dK zk) Do zk (n_ok zk) nq nq nq (.cons (vq 1 G) (.cons (vq 3 G) .nil)) G G) (zv G (aa (xs:=[.tmp 20]) (xD [_,_]) (.cons (vq 4 G) .nil)) o0)))))) zk zk zk zk (zz [(0,_),(4,_),(21,_)] [O 3 29 _] fun a w U=>?_)
 refine a7<|ah U (zm 2 G) (fun hb0=>?_) (fun hb0=>?_)
 ·refine wp_seq<|zg [none] [] [.v 4 _] [.g 0,.o 0] U (zv G (a9 aK) o0) (zz [(0,_),(4,_)] [O 3 29 _] fun a w U=>?_)
  refine a7<|wp_ret<|ap ?_
  refine ar ?_ (am G U (zm 1 G))
  exact bh
 ·obtain ⟨⟨hl,hbs⟩,hbm⟩:=CH hxs hm hb0
  refine wp_skip<|zt<|zg [none] [] [.v 22 _,.v 23 _,.v 5 _] [.g 0,.g 1,.o 2] U (zM 0 G (zv G (aa (xs:=[.tmp 22]) (iG xs zo hbs) (.cons (vq 0 G) .nil)) (zA 1 G o0))) (zz [(0,_),(4,_),(5,_)] [O 3 29 _] fun a w U=>?_)
  have U:=St.setG (A':=andV (TwS 67 9 [U32] (xs.map RET) (REA ⟨77,rf0,rf0⟩)) (LsI 0 w.heap.size 67 9 [U32] (xs.map REN))) U 2 rfl (fun h=>⟨h.1,tF (lo:=0) (cm fun _=>iZ) (tH (fun _ _=>Nat.zero_le _) _ _ _ h.2)⟩)
  have U:=St.addSz U 9999
  obtain ⟨h1,eh1⟩:∃ h,w.heap.size=h:=⟨_,rfl⟩
  rw [eh1] at U
  have U:=zn [(0,_),(4,_),(5,_),(9999,_)] [O 3 29 _] U
  refine zt<|zg [none] [⟨6,29,ptrH,some 2,_,some (3,_)⟩] [.v 24 _,.v 25 _,.alc 1,.sto 1] [.g 0,.g 1,.g 2,.g 3] U (zl 0 G dg (zv G (kM (h:=h1) (s:=9999) (xs:=[.tmp 24]) (kw mx hbm) tj jj x3 (.cons (rt _).va .nil) (.cons (vq 0 G) .nil) (gq 3 G)) (oc (aJ G G G (Str.zero cM)) (oc (aA G G G (vq 1 G) dg (Eq.trans (b:=16) G G)) o0)))) (zz [(0,_),(4,_),(5,_),(9999,_)] [O 3 29 _,O 6 29 _] fun a w U=>?_)
  have U:=St.geIv U 1 rfl tj
  obtain ⟨qh2,U⟩:=St.newSz U 3 rfl
  obtain ⟨h2,eh2⟩:∃ h,w.heap.size=h:=⟨_,rfl⟩
  rw [eh2] at U qh2
  have U:=zn [(0,_),(4,_),(5,_),(9999,_)] [O 3 29 _,O 6 29 _] U
  refine zt<|zg [none,none] [] [.v 27 _,.v 28 _,.v 26 _,.v 29 _,.v 30 _,.v 7 _,.v 8 _] [.g 0,.g 1,.g 2,.g 3,.o 5,.o 6] U (zM 2 G (zv G (mu (h:=h2) (s:=9999) (xs:=[.tmp 27]) (rP xs) (cm fun _=>iZ) (cm fun _=>ix) (dO _ _) (.cons (xP (cm jN)) .nil) (.cons (has_wk' (vq 0 G) zQ) .nil) (gq 3 G)) (zv G (ae (vq 1 G)) (zv G (kK (vq 2 G)) (zv G (kJ (vq 2 G)) (zA 3 G (zA 4 G o0))))))) (zz [(0,_),(4,_),(5,_),(9999,_),(7,_),(8,_)] [O 3 29 _,O 6 29 _] fun a w U=>?_)
  have U:=St.setG (A':=LsI h2 w.heap.size 67 9 [U32] (((simF xs).1.map reOf).map REN)) U 4 rfl (fun h=>tF (cm fun _=>iZ) h)
  obtain ⟨qh3,U⟩:=St.newSz U 3 rfl
  obtain ⟨h3,eh3⟩:∃ h,w.heap.size=h:=⟨_,rfl⟩
  rw [eh3] at U qh3
  have U:=zn [(0,_),(4,_),(5,_),(9999,_),(7,_),(8,_)] [O 3 29 _,O 6 29 _] U
  refine zt<|zg [none,none] [] [.v 32 _,.v 33 _,.v 31 _,.v 34 _,.v 35 _,.v 9 _,.v 10 _] [.g 0,.g 1,.g 2,.g 3,.g 4,.g 5,.o 5,.o 6] U (zl 1 G dg (zv G (mu (h:=h3) (s:=9999) (xs:=[.tmp 32]) (wm mx) (cm fun _=>iZ) (cm fun _=>ix) (dO _ _) (.cons (rt _).va .nil) (.cons (has_wk' (has_wk' (vq 0 G) (iv_wk.trans dis_wk).va) wkA_rmt.va) .nil) (gq 3 G)) (zv G (ae (vq 1 G)) (zv G (kK (vq 2 G)) (zv G (kJ (vq 2 G)) (zA 3 G (zA 4 G o0))))))) (zz [(0,_),(4,_),(5,_),(9999,_),(7,_),(8,_),(9,_),(10,_)] [O 3 29 _,O 6 29 _] fun a w U=>?_)
  have U:=St.setG (A':=LsI h3 w.heap.size 67 9 [U32] (((parF mx).1.map reOf).map REN)) U 6 rfl (fun h=>tF (cm fun _=>iZ) h)
  obtain ⟨qh4,U⟩:=St.newSz U 3 rfl
  obtain ⟨h4,eh4⟩:∃ h,w.heap.size=h:=⟨_,rfl⟩
  rw [eh4] at U qh4
  have U:=zn [(0,_),(4,_),(5,_),(9999,_),(7,_),(8,_),(9,_),(10,_)] [O 3 29 _,O 6 29 _] U
  refine zt<|zg [none,none] [] [.v 37 _,.v 38 _,.v 36 _,.v 39 _,.v 40 _,.v 11 _,.v 12 _] [.g 0,.g 1,.g 2,.g 3,.g 4,.g 5,.g 6,.g 7,.o 5,.o 6] U (zM 0 G (zv G (aa (xs:=[.tmp 37]) (nJ xs) (.cons (vq 0 G) .nil)) (zv G (ae (vq 1 G)) (zv G (kK (vq 2 G)) (zv G (kJ (vq 2 G)) (zA 3 G (zA 4 G o0))))))) (zz [(0,_),(4,_),(5,_),(9999,_),(7,_),(8,_),(9,_),(10,_),(11,_),(12,_)] [O 3 29 _,O 6 29 _] fun a w U=>?_)
  refine zt<|zg [none,none] [] [.v 42 _,.v 43 _,.v 41 _,.v 44 _,.v 45 _,.v 13 _,.v 14 _] [.g 0,.g 1,.g 2,.g 3,.g 4,.g 5,.g 6,.g 7,.g 8,.g 9,.o 5,.o 6] U (zl 0 G dg (zv G (aa (xs:=[.tmp 42]) (qE mx) (.cons (vq 0 G) .nil)) (zv G (ae (vq 1 G)) (zv G (kK (vq 2 G)) (zv G (kJ (vq 2 G)) (zA 3 G (zA 4 G o0))))))) (zz [(0,_),(4,_),(5,_),(9999,_),(7,_),(8,_),(9,_),(10,_),(11,_),(12,_),(13,_),(14,_)] [O 3 29 _,O 6 29 _] fun a w U=>?_)
  refine zt<|wp_seq<|gl (sts:=[none,none]) (news:=[]) (sp:=((.v 46 _:Sp)::(.v 47 _)::(.v 48 _)::(.v 49 _)::(.v 50 (Wh (_=false) _))::(.v 51 (Wh (_=false) _))::(.v 52 (Wh (_=false) _))::(.v 53 _)::(.v 54 _)::(.v 55 (Wh (_=false) _))::(.v 56 (Wh (_=false) _))::(.v 57 (Wh (_=false) _))::(.v 58 (Wh (_=false) _))::(.v 59 _)::(.v 60 _)::(.v 61 (Wh (_=false) _))::(.v 62 (Wh (_=false) _))::(.v 63 (Wh (_=false) _))::(.v 64 (Wh (_=false) _))::(.v 65 _)::(.v 66 _)::(.v 67 (Wh (_=false) _))::(.v 68 (Wh (_=false) _))::(.v 69 (Wh (_=false) _))::(.v 70 (Wh (_=false) _))::(.v 71 _)::(.v 72 _)::(.v 73 (Wh (_=false) _))::(.v 74 (Wh (_=false) _))::(.v 75 (Wh (_=false) _))::(.v 76 (Wh (_=false) _))::(.v 77 _)::[])) [.g 1,.g 2,.g 3,.g 4,.g 6,.o 31] U (zM 5 G (zM 9 G (zv G (cI (vq 0 G) (vq 1 G)) (zv G (ae (vq 2 G)) (oc (an G G G (vq 3 G) nq (fun hg=>ae (gq 7 G))) (oc (an G G G (vq 3 G) nq (fun hg=>ae (gq 11 G))) (oc (an G G G (vq 3 G) nq (fun hg=>cI (ai (vq 4 G) hg) (ai (vq 5 G) hg))) (zv G (r_or (vq 3 G) (vq 6 G)) (zv G (ae (vq 7 G)) (oc (an G G G (vq 8 G) nq (fun hg=>ae (gq 4 G))) (oc (an G G G (vq 8 G) nq (fun hg=>ae (gq 8 G))) (oc (an G G G (vq 8 G) nq (fun hg=>aa (xs:=[.tmp 55,.tmp 56]) (mh ((simF xs).1.map reOf) ((simF xs).1.map reOf)) (.cons (has_wk' (ai (vq 9 G) hg) tD) (.cons (has_wk' (ai (vq 10 G) hg) xW) .nil)))) (oc (an G G G (vq 8 G) nq (fun hg=>dS (ai (vq 11 G) hg))) (zv G (r_or (vq 8 G) (vq 12 G)) (zv G (ae (vq 13 G)) (oc (an G G G (vq 14 G) nq (fun hg=>ae (gq 6 G))) (oc (an G G G (vq 14 G) nq (fun hg=>ae (gq 10 G))) (oc (an G G G (vq 14 G) nq (fun hg=>aa (xs:=[.tmp 61,.tmp 62]) (mh ((parF mx).1.map reOf) ((parF mx).1.map reOf)) (.cons (has_wk' (ai (vq 15 G) hg) tD) (.cons (has_wk' (ai (vq 16 G) hg) xW) .nil)))) (oc (an G G G (vq 14 G) nq (fun hg=>dS (ai (vq 17 G) hg))) (zv G (r_or (vq 14 G) (vq 18 G)) (zv G (ae (vq 19 G)) (oc (an G G G (vq 20 G) nq (fun hg=>ae (gq 2 G))) (oc (an G G G (vq 20 G) nq (fun hg=>ae (gq 0 G))) (oc (an G G G (vq 20 G) nq (fun hg=>aa (xs:=[.tmp 67,.tmp 68]) (jF xs xs zo hbs) (.cons (has_wk' (ai (vq 21 G) hg) z6) (.cons (ai (vq 22 G) hg) .nil)))) (oc (an G G G (vq 20 G) nq (fun hg=>dS (ai (vq 23 G) hg))) (zv G (r_or (vq 20 G) (vq 24 G)) (zv G (ae (vq 25 G)) (oc (an G G G (vq 26 G) nq (fun hg=>dm (lz0 1 G) dg)) (oc (an G G G (vq 26 G) nq (fun hg=>dm (lz0 0 G) dg)) (oc (an G G G (vq 26 G) nq (fun hg=>aa (xs:=[.tmp 73,.tmp 74]) (mH mx mx hbm) (.cons (has_wk' (ai (vq 27 G) hg) (iv_wk.trans dis_wk).va) (.cons (ai (vq 28 G) hg) .nil)))) (oc (an G G G (vq 26 G) nq (fun hg=>dS (ai (vq 29 G) hg))) (zv G (r_or (vq 26 G) (vq 30 G)) o0)))))))))))))))))))))))))))))))) (zz [(4,_),(5,_),(9999,_),(7,_),(9,_),(77,_)] [O 3 29 _,O 6 29 _] fun a w U=>?_)
  refine a7<|ah U (zm 5 G) (fun hb1=>?_) (fun hb1=>?_)
  ·exact absurd hb1 (by simp)
  ·refine wp_skip<|zt<|zg [none,none] [⟨15,58,ptrH,some 1,_,some (2,_)⟩] [.v 78 _,.alc 2,.sto 2] [.g 0,.g 1,.g 2,.g 3,.g 4] U (zv G (bi (xs:=[]) (qs:=[]) vD .nil) (oc (aJ G G G rj) (oc (aA G G G (vq 0 G) ty_58 (Eq.trans (b:=17) G G)) o0))) (zz [(4,_),(5,_),(9999,_),(7,_),(9,_)] [O 3 29 _,O 6 29 _,O 15 58 _] fun a w U=>?_)
   have U:=St.wkL (A':=BkF [] [] []) U 2 rfl zc
   have U:=St.wkG U 1 rfl andV_2
   obtain ⟨v5,m5,n5,b5,o5,c5,U⟩:=St.nameLs (z:=reO) (AP:=EleP) jh (fun _ _=>rfl) lD U 1 rfl
   obtain ⟨v7,m7,n7,b7,o7,c7,U⟩:=St.nameLs (z:=reO) (AP:=EleP) jh (fun _ _=>rfl) lD U 3 rfl
   obtain ⟨v9,m9,n9,b9,o9,c9,U⟩:=St.nameLs (z:=reO) (AP:=EleP) jh (fun _ _=>rfl) lD U 4 rfl
   obtain ⟨m6,n6,b6,o6,U⟩:=St.nameI (A:=RMN mx) (AP:=(fun m:Nat→Value=>MatP mx m)) (kl:=(fun m:Nat→Value=>km mx m)) vv tw U 1 rfl
   have hrx:=vJ xs
   have hry:=wn mx
   have es_sep2:∀ p∈[(v5,xs.length)],∀ g,p.1.ownBlock=some g→v7.ownBlock≠some g:=fun p hp g hg hv=>by
    obtain rfl:=List.mem_singleton.1 hp
    have q1:=c5 g hg
    have q2:=c7 g hv
    omega
   have es_sep3:∀ p∈[(v5,xs.length),(v7,((simF xs).1.map reOf).length)],∀ g,p.1.ownBlock=some g→v9.ownBlock≠some g:=fun p hp g hg hv=>by
    have q2:=c9 g hv
    rcases List.mem_cons.1 hp with rfl | hp
    ·have q1:=c5 g hg
     omega
    ·obtain rfl:=List.mem_singleton.1 hp
     have q1:=c7 g hg
     omega
   have U:=zn [(4,_),(5,_),(9999,_),(7,_),(9,_)] [O 3 29 _,O 6 29 _,O 15 58 _] U
   refine zt ?_
   have hq0:=lf BD n5 b5 lg
   have hq1:=lf hq0 n6 b6 (gQ lg zo)
   have hq2:=lf hq1 n7 b7 (gQ (gQ lg zo) zo)
   have hq3:=lf hq2 n9 b9 (gQ (gQ (gQ lg zo) zo) zo)
   refine bf (sp:=[.v 79 _,.v 80 VT]) 1 1 99 1 OneC [.g 0,.g 2,.g 3,.g 4,.o 0] U (zM 1 G o0) G zd zk zk (zz [(4,_),(9999,_),(7,_),(9,_),(79,_)] [O 3 29 _,O 6 29 _,O 15 58 _] fun a w U=>?_)
   rw [show List.range' 1 1=[1] from rfl]
   rw [wpOps_cons]
   refine cP (A1:=BkF (([]++lsK reO ke m5 xs xs.length)) [] ([(v5,xs.length)])) (xs:=[.tmp 79]) [0,1,2,3] [4] 2 rfl U (j4 ([]) [] ([]) hq0.nd (fun p hp=>by cases hp) (by show 0+4*xs.length+0+0≤999900; omega)) rfl rfl (.cons ⟨_,rfl,rfl⟩ .nil) rfl (j1 hB) zd zk zk zk zk (fun a w U=>?_)
   refine bq ?_
   have U:=zn [(80,_),(4,_),(9999,_),(7,_),(9,_)] [O 3 29 _,O 6 29 _,⟨15,58,ptrH,BkF (([]++lsK reO ke m5 xs xs.length)) [] ([(v5,xs.length)])⟩] U
   refine zt<|bf (sp:=[.v 81 _,.v 82 VT]) 1 1 99 1 OneC [.g 1,.g 2,.g 3,.g 4,.o 0] U (zl 1 G dg o0) G zd zk zk (zz [(4,_),(9999,_),(7,_),(9,_),(81,_)] [O 3 29 _,O 6 29 _,O 15 58 _] fun a w U=>?_)
   rw [show List.range' 1 1=[1] from rfl]
   rw [wpOps_cons]
   refine cP (A1:=BkF ((([]++lsK reO ke m5 xs xs.length)++km mx m6)) [] ([(v5,xs.length)])) (xs:=[.tmp 81]) [0,1,2,3] [4] 2 G U (wK mx m6 (([]++lsK reO ke m5 xs xs.length)) [] ([(v5,xs.length)]) hq1.nd (by have k6:(km mx m6).length=8:=rfl; simp only [List.length_append,List.length_nil,List.length_cons,ch,k6]; omega)) G G (.cons ⟨_,rfl,rfl⟩ .nil) G (j1 hB) zd zk zk zk zk (fun a w U=>?_)
   refine bq ?_
   have U:=zn [(82,_),(4,_),(9999,_),(7,_),(9,_)] [O 3 29 _,O 6 29 _,⟨15,58,ptrH,BkF ((([]++lsK reO ke m5 xs xs.length)++km mx m6)) [] ([(v5,xs.length)])⟩] U
   refine zt<|bf (sp:=[.v 83 _,.v 84 VT]) 1 1 99 1 OneC [.g 1,.g 2,.g 4,.o 0] U (zM 3 G o0) G zd zk zk (zz [(4,_),(9999,_),(9,_),(83,_)] [O 3 29 _,O 6 29 _,O 15 58 _] fun a w U=>?_)
   rw [show List.range' 1 1=[1] from rfl]
   rw [wpOps_cons]
   refine cP (A1:=BkF (((([]++lsK reO ke m5 xs xs.length)++km mx m6)++lsK reO ke m7 ((simF xs).1.map reOf) ((simF xs).1.map reOf).length)) [] ([(v5,xs.length),(v7,((simF xs).1.map reOf).length)])) (xs:=[.tmp 83]) [0,1,2] [3] 2 G U (j4 ((([]++lsK reO ke m5 xs xs.length)++km mx m6)) [] ([(v5,xs.length)]) hq2.nd (es_sep2) (by have k6:(km mx m6).length=8:=rfl; simp only [List.length_append,List.length_nil,List.length_cons,ch,k6]; omega)) G G (.cons ⟨_,rfl,rfl⟩ .nil) G (j1 hB) zd zk zk zk zk (fun a w U=>?_)
   refine bq ?_
   have U:=zn [(84,_),(4,_),(9999,_),(9,_)] [O 3 29 _,O 6 29 _,⟨15,58,ptrH,BkF (((([]++lsK reO ke m5 xs xs.length)++km mx m6)++lsK reO ke m7 ((simF xs).1.map reOf) ((simF xs).1.map reOf).length)) [] ([(v5,xs.length),(v7,((simF xs).1.map reOf).length)])⟩] U
   refine zt<|bf (sp:=[.v 85 _,.v 86 VT]) 1 1 99 1 OneC [.g 1,.g 2,.o 0] U (zM 3 G o0) G zd zk zk (zz [(4,_),(9999,_),(85,_)] [O 3 29 _,O 6 29 _,O 15 58 _] fun a w U=>?_)
   rw [show List.range' 1 1=[1] from rfl]
   rw [wpOps_cons]
   refine cP (A1:=BkF ((((([]++lsK reO ke m5 xs xs.length)++km mx m6)++lsK reO ke m7 ((simF xs).1.map reOf) ((simF xs).1.map reOf).length)++lsK reO ke m9 ((parF mx).1.map reOf) ((parF mx).1.map reOf).length)) [] ([(v5,xs.length),(v7,((simF xs).1.map reOf).length),(v9,((parF mx).1.map reOf).length)])) (xs:=[.tmp 85]) [0,1] [2] 2 G U (j4 (((([]++lsK reO ke m5 xs xs.length)++km mx m6)++lsK reO ke m7 ((simF xs).1.map reOf) ((simF xs).1.map reOf).length)) [] ([(v5,xs.length),(v7,((simF xs).1.map reOf).length)]) hq3.nd (es_sep3) (by have k6:(km mx m6).length=8:=rfl; simp only [List.length_append,List.length_nil,List.length_cons,ch,k6]; omega)) G G (.cons ⟨_,rfl,rfl⟩ .nil) G (j1 hB) zd zk zk zk zk (fun a w U=>?_)
   refine bq ?_
   have U:=zn [(86,_),(4,_),(9999,_)] [O 3 29 _,O 6 29 _,⟨15,58,ptrH,BkF ((((([]++lsK reO ke m5 xs xs.length)++km mx m6)++lsK reO ke m7 ((simF xs).1.map reOf) ((simF xs).1.map reOf).length)++lsK reO ke m9 ((parF mx).1.map reOf) ((parF mx).1.map reOf).length)) [] ([(v5,xs.length),(v7,((simF xs).1.map reOf).length),(v9,((parF mx).1.map reOf).length)])⟩] U
   refine zt ?_
   have U:=St.selL U [2]
   refine wT (m:=1) zk ?_
   refine cP (A1:=JkA) (xs:=[]) [] [] 0 rfl U (xG ((((([]++lsK reO ke m5 xs xs.length)++km mx m6)++lsK reO ke m7 ((simF xs).1.map reOf) ((simF xs).1.map reOf).length)++lsK reO ke m9 ((parF mx).1.map reOf) ((parF mx).1.map reOf).length)) [] ([(v5,xs.length),(v7,((simF xs).1.map reOf).length),(v9,((parF mx).1.map reOf).length)]) (B5 (ey (ey (ey (ey B4 o5) o6) o7) o9) (eC (eC (eC (eC Bw (tO hbs)) (lnK_m hbm)) (tO (Ag xs))) (tO (AR mx)))) (fun p hp=>by cases hp) (fun p hp=>by simp only [List.mem_cons,List.not_mem_nil,or_false] at hp; rcases hp with rfl | rfl | rfl <;> (show _≤_; omega)) (by have k6:(km mx m6).length=8:=rfl; simp only [List.length_append,List.length_nil,List.length_cons,ch,k6]; omega)) rfl rfl .nil rfl (j1 hB) zd zk zk zk zk (zz [(87,Bo true)] [⟨15,_,ptrH,JkA⟩] fun a w U=>?_)
   refine wS (sp:=[.v 87 (Bo true),.v 4 _]) [.o 1] U G zk (zA 0 G o0) zk zk (zz [(4,_)] [O 15 58 _] fun a w U=>?_)
   refine a7<|wp_ret<|ar ?_ (am G U (zm 0 G))
   refine bc (congrArg Bo ?_); simp
end Go.Proofs.YtmacliockgbdcaaGreatDoor
