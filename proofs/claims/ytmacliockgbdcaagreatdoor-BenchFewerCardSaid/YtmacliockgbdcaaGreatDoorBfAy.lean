import Derived.Test.YtmacliockgbdcaaGreatDoorBfAa
import Derived.Test.YtmacliockgbdcaaGreatDoorBfAc
import Derived.Test.YtmacliockgbdcaaGreatDoorBfAw
import Derived.Test.YtmacliockgbdcaaGreatDoorBfAx
set_option linter.unusedVariables false
set_option linter.unusedSimpArgs false
set_option linter.unusedSectionVars false
set_option maxRecDepth 100000
namespace Go.Proofs.YtmacliockgbdcaaGreatDoor
open Go Go.RowKit
def RET (x:RE):As:=cat [NumA .u8 x.k,RFT x.p,RFT x.q]
theorem zj {x:RE}:WkA (RET x) (REA x):=bz (.cons (.refl _) (.cons gz (.cons gz .nil)))
theorem pC (x:RE):FreeA (RET x) (RET x):=ci (.cons (dO _ _) (.cons (pA _) (.cons (pA _) .nil)))
theorem mN:FreeA (RFA rf0) (RFA rf0):=ci (.cons (ci (.cons (eF _) (.cons pD .nil))) (.cons (ci (.cons (eF _) (.cons pD .nil))) .nil))
theorem ug:FreeA (REA ⟨77,rf0,rf0⟩) (REA ⟨77,rf0,rf0⟩):=ci (.cons (dO _ _) (.cons mN (.cons mN .nil)))
theorem DA {x y:RE}:(((x.k==y.k)&&decide (x.p=y.p))&&decide (x.q=y.q))=decide (x=y):=by
 obtain ⟨a,b,c⟩:=x
 obtain ⟨d,e,f⟩:=y
 by_cases h1:a=d <;> by_cases h2:b=e <;> by_cases h3:c=f <;> simp [h1,h2,h3]
theorem l9 (x y:RE)(hx:bdF x.p∧bdF x.q):Cn Tryz.prog 44 [(RET x).va,(REA y).va] (Bo (decide (x=y))):=by
 refine Cn.intro Tryz.func44 G zk nq (fun B w0 a U=>?_)
 have U:=zn [(0,(RET x).va),(1,(REA y).va)] [] U
 refine wp_seq<|zg [] [⟨2,67,ptrH,some 0,_,none⟩,⟨3,67,ptrH,some 1,_,none⟩] [.alc 0,.alc 1,.v 4 _] [.o 2] U (oc (ay G G G (gq 0 G)) (oc (ay G G G (gq 1 G)) (zv G (a9 aK) o0))) (zz [(4,_)] [O 2 67 _,O 3 67 _] fun a w U=>?_)
 refine zt<|zg [none,none] [] [.adr 5 2 (.some 0) True,.v 6 _,.adr 7 3 (.some 0) True,.v 8 _,.v 9 _,.v 10 _,.adr 11 2 (.some 1) (_=true),.v 12 (Wh (_=true) _),.adr 13 3 (.some 1) (_=true),.v 14 (Wh (_=true) _),.v 15 (Wh (_=true) _),.v 16 _,.v 17 _,.adr 18 2 (.some 5) (_=true),.v 19 (Wh (_=true) _),.adr 20 3 (.some 5) (_=true),.v 21 (Wh (_=true) _),.v 22 (Wh (_=true) _),.v 23 _,.v 4 _] [.o 19] U (oc (ob_a G G (ac (lz0 0 G) bP)) (zL 0 0 0 G er (oc (ob_a G G (ac (lz0 1 G) bP)) (zL 2 1 0 G er (zv G (bD (vq 1 G) (vq 3 G)) (zv G (ae (vq 4 G)) (oc (bM G G G (vq 5 G) nq (fun hg=>ac (lz0 0 G) bg)) (oc (an G G G (vq 5 G) nq (fun hg=>aD 6 G zk hg (lz0 0 G) (Sub.part 1 G G) ax)) (oc (bM G G G (vq 5 G) nq (fun hg=>ac (lz0 1 G) bg)) (oc (an G G G (vq 5 G) nq (fun hg=>aD 8 G zk hg (lz0 1 G) (Sub.part 1 G G) ax)) (oc (an G G G (vq 5 G) nq (fun hg=>aa (xs:=[.tmp 12,.tmp 14]) (dt _ _ hx.1) (.cons (ai (vq 7 G) hg) (.cons (ai (vq 9 G) hg) .nil)))) (zv G (bJ (vq 5 G) (vq 10 G)) (zv G (ae (vq 11 G)) (oc (bM G G G (vq 12 G) nq (fun hg=>ac (lz0 0 G) bK)) (oc (an G G G (vq 12 G) nq (fun hg=>aD 13 G zk hg (lz0 0 G) (Sub.part 2 G G) ax)) (oc (bM G G G (vq 12 G) nq (fun hg=>ac (lz0 1 G) bK)) (oc (an G G G (vq 12 G) nq (fun hg=>aD 15 G zk hg (lz0 1 G) (Sub.part 2 G G) ax)) (oc (an G G G (vq 12 G) nq (fun hg=>aa (xs:=[.tmp 19,.tmp 21]) (dt _ _ hx.2) (.cons (ai (vq 14 G) hg) (.cons (ai (vq 16 G) hg) .nil)))) (zv G (bJ (vq 12 G) (vq 17 G)) (zA 18 G o0)))))))))))))))))))) (zz [(4,_)] [O 2 67 _,O 3 67 _] fun a w U=>?_)
 refine a7<|wp_ret<|ar ?_ (am G U (zm 0 G))
 exact bc (congrArg Bo DA)
theorem jG:∃ it z,Tryz.prog.info? 67=some it∧it.zero=some z∧it.size=9∧it.bytes=136∧z.cells.size=9:=by
 have h:((Tryz.prog.info? 67).bind fun it=>it.zero.map fun z=>(it.size,it.bytes,z.cells.size))=some (9,136,9):=by kernel_rfl
 cases hi:Tryz.prog.info? 67 with
 | none=>rw [hi] at h; simp at h
 | some it =>
  rw [hi] at h
  cases hz:it.zero with
  | none=>simp [hz] at h
  | some z =>
   simp [hz] at h
   exact ⟨it,z,rfl,hz,h.1,h.2.1,h.2.2⟩
abbrev bdLElements (xs:List RE):Prop:=∀ x∈xs,bdF x.p∧bdF x.q
theorem jF (xs ys:List RE)(hl:ys.length≤10000000)(hx:bdLElements xs):Cn Tryz.prog 14 [TwS 67 9 [U32] (xs.map RET) (REA ⟨77,rf0,rf0⟩),(SlA 67 [U32] (ys.map REA)).va] (Bo (decide (xs=ys))):=by
 refine Cn.intro Tryz.func14 G zk nq (fun B w0 a U=>?_)
 have U:=zn [(0,TwS 67 9 [U32] (xs.map RET) (REA ⟨77,rf0,rf0⟩)),(1,(SlA 67 [U32] (ys.map REA)).va)] [] U
 obtain ⟨g,c,U⟩:=St.exK U 0 rfl
 have hcap:=ry (U.vals (0,_) (zm 0 rfl))
 rw [List.length_map] at hcap
 refine wp_seq<|zh [.v 4 _] [.g 0,.g 1,.o 0] U (zv G (a9 aK) o0) (zz [(0,_),(1,_),(4,_)] [] fun a w U=>?_)
 refine zt<|wp_seq<|zh [.v 7 _,.v 8 _,.v 9 _,.v 10 _,.v 11 _,.v 12 _,.v 13 (Wh (_=false) _),.v 14 (Wh (_=false) _),.v 15 (Wh (_=false) _),.v 16 (Wh (_=false) _),.v 17 (Wh (_=false) _),.v 18 _] [.g 0,.g 1,.g 2,.o 11] U (zM 0 G (zv G (be Tryz.underlying22 (has_wk' (vq 0 G) rx)) (zM 1 G (zv G (be Tryz.underlying22 (vq 2 G)) (zv G (cI (vq 1 G) (vq 3 G)) (zv G (ae (vq 4 G)) (oc (an G G G (vq 5 G) nq (fun hg=>ae (gq 0 G))) (oc (an G G G (vq 5 G) nq (fun hg=>r_capK Tryz.underlying22 (ai (vq 6 G) hg))) (oc (an G G G (vq 5 G) nq (fun hg=>ae (gq 1 G))) (oc (an G G G (vq 5 G) nq (fun hg=>be Tryz.underlying22 (ai (vq 8 G) hg))) (oc (an G G G (vq 5 G) nq (fun hg=>qv (ai (vq 7 G) hg) (ai (vq 9 G) hg))) (zv G (r_or (vq 5 G) (vq 10 G)) o0)))))))))))) (zz [(0,_),(1,_),(4,_),(18,_)] [] fun a w U=>?_)
 refine a7<|ah U (zm 3 G) (fun hb0=>?_) (fun hb0=>?_)
 ·refine wp_seq<|zh [.v 4 _] [.g 0,.g 1,.o 0] U (zv G (a9 aK) o0) (zz [(0,_),(1,_),(4,_)] [] fun a w U=>?_)
  refine a7<|wp_ret<|ap ?_
  refine ar ?_ (am G U (zm 2 G))
  exact bc (congrArg Bo (Bx hcap.1 hb0))
 ·have hlen:=By hb0
  refine wp_skip<|zt<|wp_seq<|zh [.v 5 _] [.g 0,.g 1,.g 2,.o 0] U (zv G (a9 a8) o0) (zz [(0,_),(1,_),(4,_),(5,_)] [] fun a w U=>?_)
  refine a7<|wp_block ?_
  have U:=St.sel U [0,1,3]
  refine wp_loop_ghost (fun n a w=>∃ j:Nat,(n+j=ys.length∧xs.take j=ys.take j)∧St B w0 47 [(0,TwK g c 67 9 [U32] (xs.map RET) (REA ⟨77,rf0,rf0⟩)),(1,(SlA 67 [U32] (ys.map REA)).va),(5,In (j:Nat))] [] a w) (ys.length) ?_ ?_
  ·exact ⟨0,⟨by omega,rfl⟩,U⟩
  intro n a w hI
  obtain ⟨j,⟨hn,ht⟩,U⟩:=hI
  refine wp_seq<|wp_seq<|zh [.v 19 _,.v 20 _,.v 21 _,.v 22 _] [.g 0,.g 1,.g 2,.o 3] U (zM 2 G (zM 1 G (zv G (be Tryz.underlying22 (vq 1 G)) (zv G (aN (vq 0 G) (vq 2 G)) o0)))) (zz [(0,_),(1,_),(5,_),(22,_)] [] fun a w U=>?_)
  refine a7<|ah U (zm 3 G) (fun hb1=>?_) (fun hb1=>?_)
  ·have hj2:j<ys.length:=by rw [List.length_map] at hb1; simp at hb1; omega
   have hj:j<xs.length:=by omega
   refine wp_skip<|zt<|wp_block<|wp_seq<|zgd [[],[],[0,1],[0,1,2],[],[],[4,5],[4,5,6],[0,1,2,3,4,5,6,7],[0,1,2,3,4,5,6,7,8]] [] [] [.v 25 _,.v 26 _,.v 27 _,.v 28 _,.v 29 _,.v 30 _,.v 31 _,.v 32 _,.v 33 _,.v 34 _] [.g 0,.g 1,.g 2,.o 9] ab U (zM 0 G (zM 2 G (zv G (cB cC (fM fun _=>rfl) (has_wk' (vq 0 G) rx) (vq 1 G) (dD hj)) (zv G (aq (vq 2 G) cb) (zM 1 G (zM 2 G (zv G (cB cC (fM fun _=>rfl) (vq 4 G) (vq 5 G) (dD hj2)) (zv G (aq (vq 6 G) cb) (zv G (aa (xs:=[.tmp 28,.tmp 32]) (l9 xs[j] ys[j] (hx _ (List.getElem_mem hj))) (.cons (vq 3 G) (.cons (vq 7 G) .nil))) (zv G (dS (vq 8 G)) o0)))))))))) zk zk zk zk (zz [(0,_),(1,_),(5,_),(34,_)] [] fun a w U=>?_)
   refine a7<|ah U (zm 3 G) (fun hb2=>?_) (fun hb2=>?_)
   ·refine wp_seq<|zh [.v 4 _] [.g 0,.g 1,.g 2,.o 0] U (zv G (a9 aK) o0) (zz [(0,_),(1,_),(5,_),(4,_)] [] fun a w U=>?_)
    refine a7<|wp_ret<|aV ?_
    refine ap ?_
    refine ap ?_
    refine aV ?_
    refine ap ?_
    refine ar ?_ (am G U (zm 3 G))
    exact bc (congrArg Bo (vx hj2 hj hb2))
   ·refine wp_skip<|ao ?_
    refine a7<|zh [.v 23 _,.v 24 _,.v 5 _] [.g 0,.g 1,.o 2] U (zM 2 G (zv G (aR (vq 0 G) a8 (aX zo)) (zA 1 G o0))) (zz [(0,_),(1,_),(5,_)] [] fun a w U=>?_)
    refine a7 ?_
    have U:=St.sel U [0,1,2]
    exact ⟨n-1,by omega,j+1,⟨by omega,vz hj2 hj ht hb2⟩,U⟩
  ·obtain rfl:j=ys.length:=by rw [List.length_map] at hb1; simp at hb1; omega
   refine wp_exit<|ak<|ak<|aC<|zt<|zg [] [⟨6,67,ptrH,some 9,_,some (10,_)⟩] [.v 35 _,.v 36 _,.v 37 _,.v 38 _,.v 39 _,.v 40 _,.v 41 _,.v 42 _,.v 43 _,.alc 0,.sto 0] [] U (zM 0 G (zM 1 G (zv G (be Tryz.underlying22 (vq 1 G)) (zv G (aR (vq 2 G) a8 (D7 zo)) (zv G (AB cC (vq 0 G) (has_wk' (vq 3 G) (bc (congrArg (fun k:Nat=>In ((k+1:Nat):Int)) (hlen.symm.trans (List.length_map ..).symm))))) (zM 1 G (zv G (be Tryz.underlying22 (vq 5 G)) (zv G (cB cC (ph (cm fun _=>rfl) G) (vq 4 G) (has_wk' (vq 6 G) (bc (congrArg (fun k:Nat=>In (k:Int)) (List.length_map ..)))) (k:=ys.length) (by rw [List.getElem?_append_right (by rw [List.length_map]; omega),List.length_map,hlen,Nat.sub_self]; rfl)) (zv G (aq (vq 7 G) cb) (oc (aJ G G G (Str.zero cu)) (oc (aA G G G (vq 8 G) cb (Eq.trans (b:=9) G G)) o0))))))))))) (zz [] [O 6 67 _] fun a w U=>?_)
   refine zt<|zg [none] [] [.adr 44 6 (.some 0) True,.v 45 _,.v 46 _,.v 4 _] [.o 3] U (oc (ob_a G G (ac (lz0 0 G) bP)) (zL 0 0 0 G er (zv G (bD (vq 1 G) a8) (zA 2 G o0)))) (zz [(4,_)] [O 6 67 _] fun a w U=>?_)
   refine a7<|wp_ret<|ar ?_ (am G U (zm 0 G))
   have e:xs=ys:=by rw [List.take_of_length_le zo,List.take_length] at ht; exact ht
   refine bc (congrArg Bo ?_); rw [decide_eq_true e]; rfl
theorem Bc {l:List Nat}:NewA (TwN l):=fun B cs w ⟨ok,g,e,h1,h2,h3⟩ g' hg=>by
 subst e
 have:g'=g:=by simpa [cbl,blk] using hg
 subst this
 exact ⟨h1,(Array.getElem?_eq_some_iff.1 h3).1⟩
theorem kW {x:RI}:NewA (RIT x):=dV fun A hA=>by
 simp at hA
 rcases hA with rfl | rfl
 ·exact yq _
 ·exact Bc
theorem Ba {x:RI}:NodA (RIT x):=fun B cs w h=>th x B cs w (rit_rin.2.2 _ _ _ h)
def TFD (x:RF):As:=DisA (RFT x)
theorem kX {x:RF}:NewA (RFT x):=dV fun A hA=>by
 simp at hA
 rcases hA with rfl | rfl <;> exact kW
theorem f8 {x:RF}:FreeA (RFT x) (RFT x):=ci (.cons (eE _) (.cons (eE _) .nil))
theorem d6 {x:RF}:NewA (TFD x):=lF kX
theorem ft {x:RF}:FreeA (TFD x) (TFD x):=iA f8
theorem tfd_pins {u v:Value}{x:RF}:WkA (cat [PinA u ((RIT x.num).and (SepAll [] u)),PinA v ((RIT x.den).and (SepAll [u] v))]) (TFD x) :=
 gk (l:=[(u,RIT x.num),(v,RIT x.den)]) (fun y hy=>by
  simp at hy
  rcases hy with rfl | rfl <;> exact Ba)
def TMD (x:RM):As:=DisA (RMT x)
theorem tm_pins {u v s t:Value}{x:RM}:WkA (cat [PinA u ((TFD x.a).and (SepAll [] u)),PinA v ((TFD x.b).and (SepAll [u] v)),PinA s ((TFD x.c).and (SepAll [u,v] s)),PinA t ((TFD x.d).and (SepAll [u,v,s] t))]) (TMD x) :=
 (gk (l:=[(u,TFD x.a),(v,TFD x.b),(s,TFD x.c),(t,TFD x.d)]) (fun y hy=>by
  simp at hy
  rcases hy with rfl | rfl | rfl | rfl <;> exact jj)).trans (fv (bz (.cons dis_wk (.cons dis_wk (.cons dis_wk (.cons dis_wk .nil))))))
theorem tj {x:RM}:NewA (TMD x):=lF (dV fun A hA=>by
 simp at hA
 rcases hA with rfl | rfl | rfl | rfl <;> exact kX)
theorem x3 {x:RM}:FreeA (TMD x) (TMD x):=iA (ci (.cons f8 (.cons f8 (.cons f8 (.cons f8 .nil)))))
theorem cZ (x:RF)(hx:bdF x):Cn Tryz.prog 22 [(RFA x).va] ((TFD x).va):=by
 refine Cn.intro Tryz.func22 G zk nq (fun B w0 a U=>?_)
 have U:=zn [(0,(RFA x).va)] [] U
 refine wp_seq<|zg [] [⟨1,27,ptrH,some 0,_,none⟩,⟨2,27,ptrH,some 1,_,none⟩] [.alc 0,.alc 1] [] U (oc (ay G G G (gq 0 G)) (oc (aJ G G G (Str.zero b4)) o0)) (zz [] [O 1 27 _,O 2 27 _] fun a w U=>?_)
 refine zt<|go_drawV' [[],[0],[0,1],[],[3],[0,1,2,3,4],[0,1,2,3,4,5],[0,1,2,3,4,5,6]] (sts:=[none,some (7,fun ν=>_)]) (news:=[]) (sp:=[(fun ν=>.adr 3 1 (.some 0) True),(fun ν=>.v 4 _),(fun ν=>.v 5 (PinA (ν 2) ((RIT x.num).and (SepAll [] (ν 2)))).va),(fun ν=>.adr 6 1 (.some 2) True),(fun ν=>.v 7 _),(fun ν=>.v 8 (PinA (ν 5) ((RIT x.den).and (SepAll [ν 2] (ν 5)))).va),(fun ν=>.v 9 _),(fun ν=>.sto 1)]) [] ab U ⟨of_u fun ν=>ob_a rfl rfl (ac (lz0 0 rfl) aY),⟨of_u fun ν=>ob_v rfl rfl (aD 0 rfl zk trivial (lz0 0 rfl) (Sub.part 0 rfl rfl) al),⟨cV (us:=fun ν=>[]) (xs:=[.tmp 4]) rfl rfl (lT _ hx.1) kW (eE _) (.cons (lR _).va .nil) (fun ν=>(.cons (vq 1 rfl) .nil)) (fun _ _=>rfl) (fun ν=>bR),⟨of_u fun ν=>ob_a rfl rfl (ac (lz0 0 rfl) aT),⟨of_u fun ν=>ob_v rfl rfl (aD 3 rfl zk trivial (lz0 0 rfl) (Sub.part 1 rfl rfl) al),⟨cV (us:=fun ν=>[ν 2]) (xs:=[.tmp 7]) rfl rfl (lT _ hx.2) kW (eE _) (.cons (lR _).va .nil) (fun ν=>(.cons (vq 4 rfl) .nil)) (fun _ _=>rfl) (fun ν=>(cj (cJ kW) (vq 2 rfl) bR)),⟨of_u fun ν=>ob_v rfl rfl (bi (xs:=[(0,.tmp 5),(1,.tmp 8)]) (qs:=[(0,_),(1,_)]) b4 (.cons ⟨rfl,(vq 2 rfl),rfl⟩ (.cons ⟨rfl,(vq 5 rfl),rfl⟩ .nil))),⟨of_u fun ν=>aA rfl rfl rfl (vq 6 rfl) ax (Eq.trans (b:=4) rfl rfl),trivial⟩⟩⟩⟩⟩⟩⟩⟩ ⟨(fun ν ν' h=>rfl),⟨(fun ν ν' h=>rfl),⟨(fun ν ν' h=>by first | rfl | simp only [h 2 rfl]),⟨(fun ν ν' h=>rfl),⟨(fun ν ν' h=>rfl),⟨(fun ν ν' h=>by first | rfl | simp only [h 2 rfl,h 5 rfl]),⟨(fun ν ν' h=>by first | rfl | simp only [h 2 rfl,h 5 rfl]),⟨(fun ν ν' h=>by first | rfl | simp only [h 2 rfl,h 5 rfl]),trivial⟩⟩⟩⟩⟩⟩⟩⟩ ⟨trivial,⟨(fun ν ν' h=>by first | rfl | simp only [h 2 rfl,h 5 rfl]),trivial⟩⟩ zk zk (fun ν=>by kernel_rfl) (fun ν=>by kernel_rfl) (fun ν1 a w U=>?_)
 have U:=zn [] [O 1 27 _,O 2 27 _] U
 refine a7<|wp_ret<|ar ?_ (az G U (zm 1 G) ax)
 exact tfd_pins.va
theorem kw (x:RM)(hx:bdF x.a∧bdF x.b∧bdF x.c∧bdF x.d):Cn Tryz.prog 8 [(RMA x).va] ((TMD x).va):=by
 refine Cn.intro Tryz.func8 G zk nq (fun B w0 a U=>?_)
 have U:=zn [(0,(RMA x).va)] [] U
 refine wp_seq<|zg [] [⟨1,29,ptrH,some 0,_,none⟩,⟨2,29,ptrH,some 1,_,none⟩] [.alc 0,.alc 1] [] U (oc (ay G G G (gq 0 G)) (oc (aJ G G G (Str.zero cM)) o0)) (zz [] [O 1 29 _,O 2 29 _] fun a w U=>?_)
 refine zt<|go_drawV' [[],[0],[0,1],[],[3],[0,1,2,3,4],[],[6],[0,1,2,3,4,5,6,7],[],[9],[0,1,2,3,4,5,6,7,8,9,10],[0,1,2,3,4,5,6,7,8,9,10,11],[0,1,2,3,4,5,6,7,8,9,10,11,12]] (sts:=[none,some (13,fun ν=>_)]) (news:=[]) (sp:=[(fun ν=>.adr 3 1 (.some 0) True),(fun ν=>.v 4 _),(fun ν=>.v 5 (PinA (ν 2) ((TFD x.a).and (SepAll [] (ν 2)))).va),(fun ν=>.adr 6 1 (.some 4) True),(fun ν=>.v 7 _),(fun ν=>.v 8 (PinA (ν 5) ((TFD x.b).and (SepAll [ν 2] (ν 5)))).va),(fun ν=>.adr 9 1 (.some 8) True),(fun ν=>.v 10 _),(fun ν=>.v 11 (PinA (ν 8) ((TFD x.c).and (SepAll [ν 2,ν 5] (ν 8)))).va),(fun ν=>.adr 12 1 (.some 12) True),(fun ν=>.v 13 _),(fun ν=>.v 14 (PinA (ν 11) ((TFD x.d).and (SepAll [ν 2,ν 5,ν 8] (ν 11)))).va),(fun ν=>.v 15 _),(fun ν=>.sto 1)]) [] ab U ⟨of_u fun ν=>ob_a rfl rfl (ac (lz0 0 rfl) bG),⟨of_u fun ν=>ob_v rfl rfl (aD 0 rfl zk trivial (lz0 0 rfl) (Sub.part 0 rfl rfl) ax),⟨cV (us:=fun ν=>[]) (xs:=[.tmp 4]) rfl rfl (cZ _ hx.1) d6 ft (.cons (cY _).va .nil) (fun ν=>(.cons (vq 1 rfl) .nil)) (fun _ _=>rfl) (fun ν=>bR),⟨of_u fun ν=>ob_a rfl rfl (ac (lz0 0 rfl) bF),⟨of_u fun ν=>ob_v rfl rfl (aD 3 rfl zk trivial (lz0 0 rfl) (Sub.part 1 rfl rfl) ax),⟨cV (us:=fun ν=>[ν 2]) (xs:=[.tmp 7]) rfl rfl (cZ _ hx.2.1) d6 ft (.cons (cY _).va .nil) (fun ν=>(.cons (vq 4 rfl) .nil)) (fun _ _=>rfl) (fun ν=>(cj (cJ d6) (vq 2 rfl) bR)),⟨of_u fun ν=>ob_a rfl rfl (ac (lz0 0 rfl) bU),⟨of_u fun ν=>ob_v rfl rfl (aD 6 rfl zk trivial (lz0 0 rfl) (Sub.part 2 rfl rfl) ax),⟨cV (us:=fun ν=>[ν 2,ν 5]) (xs:=[.tmp 10]) rfl rfl (cZ _ hx.2.2.1) d6 ft (.cons (cY _).va .nil) (fun ν=>(.cons (vq 7 rfl) .nil)) (fun _ _=>rfl) (fun ν=>(cj (cJ d6) (vq 2 rfl) (cj (cJ d6) (vq 5 rfl) bR))),⟨of_u fun ν=>ob_a rfl rfl (ac (lz0 0 rfl) bW),⟨of_u fun ν=>ob_v rfl rfl (aD 9 rfl zk trivial (lz0 0 rfl) (Sub.part 3 rfl rfl) ax),⟨cV (us:=fun ν=>[ν 2,ν 5,ν 8]) (xs:=[.tmp 13]) rfl rfl (cZ _ hx.2.2.2) d6 ft (.cons (cY _).va .nil) (fun ν=>(.cons (vq 10 rfl) .nil)) (fun _ _=>rfl) (fun ν=>(cj (cJ d6) (vq 2 rfl) (cj (cJ d6) (vq 5 rfl) (cj (cJ d6) (vq 8 rfl) bR)))),⟨of_u fun ν=>ob_v rfl rfl (bi (xs:=[(0,.tmp 5),(1,.tmp 8),(2,.tmp 11),(3,.tmp 14)]) (qs:=[(0,_),(1,_),(2,_),(3,_)]) cM (.cons ⟨rfl,(vq 2 rfl),rfl⟩ (.cons ⟨rfl,(vq 5 rfl),rfl⟩ (.cons ⟨rfl,(vq 8 rfl),rfl⟩ (.cons ⟨rfl,(vq 11 rfl),rfl⟩ .nil))))),⟨of_u fun ν=>aA rfl rfl rfl (vq 12 rfl) dg (Eq.trans (b:=16) rfl rfl),trivial⟩⟩⟩⟩⟩⟩⟩⟩⟩⟩⟩⟩⟩⟩ ⟨(fun ν ν' h=>rfl),⟨(fun ν ν' h=>rfl),⟨(fun ν ν' h=>by first | rfl | simp only [h 2 rfl]),⟨(fun ν ν' h=>rfl),⟨(fun ν ν' h=>rfl),⟨(fun ν ν' h=>by first | rfl | simp only [h 2 rfl,h 5 rfl]),⟨(fun ν ν' h=>rfl),⟨(fun ν ν' h=>rfl),⟨(fun ν ν' h=>by first | rfl | simp only [h 2 rfl,h 5 rfl,h 8 rfl]),⟨(fun ν ν' h=>rfl),⟨(fun ν ν' h=>rfl),⟨(fun ν ν' h=>by first | rfl | simp only [h 2 rfl,h 5 rfl,h 8 rfl,h 11 rfl]),⟨(fun ν ν' h=>by first | rfl | simp only [h 2 rfl,h 5 rfl,h 8 rfl,h 11 rfl]),⟨(fun ν ν' h=>by first | rfl | simp only [h 2 rfl,h 5 rfl,h 8 rfl,h 11 rfl]),trivial⟩⟩⟩⟩⟩⟩⟩⟩⟩⟩⟩⟩⟩⟩ ⟨trivial,⟨(fun ν ν' h=>by first | rfl | simp only [h 2 rfl,h 5 rfl,h 8 rfl,h 11 rfl]),trivial⟩⟩ zk zk (fun ν=>by kernel_rfl) (fun ν=>by kernel_rfl) (fun ν1 a w U=>?_)
 have U:=zn [] [O 1 29 _,O 2 29 _] U
 refine a7<|wp_ret<|ar ?_ (az G U (zm 1 G) dg)
 exact tm_pins.va
def andV (A A':VA):VA where
 p B v w:=A.p B v w∧A'.p B v w
 deps:=A.deps++A'.deps
 cg:=fun B v w w' hg h=>⟨A.cg _ _ _ _ hg h.1,A'.cg _ _ _ _ hg h.2⟩
 wr:=fun B v w w' g c T fz h1 h2 h3 h4 h=>by
  simp only [List.mem_append,not_or] at h2
  exact ⟨A.wr _ _ _ _ _ _ _ _ h1 h2.1 h3 h4 h.1,A'.wr _ _ _ _ _ _ _ _ h1 h2.2 h3 h4 h.2⟩
theorem z6 {A A':VA}:Wk (andV A A') A:=fun _ _ _ h=>h.1
theorem andV_2 {A A':VA}:Wk (andV A A') A':=fun _ _ _ h=>h.2
theorem uj {A A':VA}(h:Free A A)(h':Free A' A'):Free (andV A A') (andV A A'):=fun B B' v w hB hp=>⟨h _ _ _ _ hB hp.1,h' _ _ _ _ hB hp.2⟩
def LsQ (q:Nat→Prop)(E m:Nat)(D:List TypeId)(Xs:List As):VA where
 p B v w:=(∀ A∈Xs,A.n=m)∧(∀ A∈Xs,∀ T∈A.deps,T∈D)∧(∃ ds,(cat Xs).p B ds w∧w.ownsRow B E m v Xs.length ds∧(cbl ds).Nodup∧∀ g∈cbl ds,q g)∧∀ g,v.ownBlock=some g→q g
 deps:=E::D
 cg:=fun B v w w' hg ⟨h1,h2,⟨ds,h3,h4,h5⟩,h6⟩=>⟨h1,h2,⟨ds,(cat Xs).cg _ _ _ _ hg h3,cv h4 fun g c _ h=>hg.heap h,h5⟩,h6⟩
 wr:=by
  rintro B v w w' g c T fz hgc hT hB hW ⟨h1,h2,⟨ds,h3,h4,h5⟩,h6⟩
  simp only [List.mem_cons,not_or] at hT
  refine ⟨h1,h2,⟨ds,(cat Xs).wr _ _ _ _ _ _ _ _ hgc (fun hh=>?_) hB hW h3,cv h4 fun g' c' _ h7=>?_,h5⟩,h6⟩
  ·obtain ⟨A,hA,hd⟩:=List.mem_flatMap.1 hh
   exact hT.2 (h2 A hA T hd)
  ·rw [hW.block g' (fun e=>?_)]
   ·exact h7
   ·subst e
    rw [hgc] at h7
    injection h7 with h7
    injection h7 with _ h7 _
    exact hT.1 h7
abbrev LsN (E m:Nat)(D:List TypeId)(Xs:List As):VA:=LsQ (fun _=>True) E m D Xs
abbrev LsG (lo E m:Nat)(D:List TypeId)(Xs:List As):VA:=LsQ (fun g=>lo≤g) E m D Xs
abbrev LsI (lo hi E m:Nat)(D:List TypeId)(Xs:List As):VA:=LsQ (fun g=>lo≤g∧g<hi) E m D Xs
theorem tE {q:Nat→Prop}{E m:Nat}{D:List TypeId}{Xs:List As}:Wk (LsQ q E m D Xs) (SlA E D Xs).va:=fun B v w ⟨h1,h2,⟨ds,h3,h4,_⟩,_⟩=>eP (b:=B) B v w ⟨h1,h2,ds,h3,h4⟩
theorem od {q:Nat→Prop}{E m:Nat}{D:List TypeId}{Xs:List As}(hX:∀ A∈Xs,FreeA A A):Free (LsQ q E m D Xs) (LsQ q E m D Xs):=fun B B' v w hB ⟨h1,h2,⟨ds,h3,h4,h5⟩,h6⟩=>by
 refine ⟨h1,h2,⟨ds,pE hB hX h3,⟨h4.1,?_⟩,h5⟩,h6⟩
 rcases h4.2 with h | ⟨g,cap,cur,e1,e2,e3⟩
 ·exact .inl h
 ·exact .inr ⟨g,cap,cur,e1,Nat.le_trans hB e2,e3⟩
theorem yp {E m:Nat}{D:List TypeId}{Xs:List As}(hX:∀ A∈Xs,NewA A){B:Nat}{v:Value}{w:World}{q:Nat→Prop}(h:(LsQ q E m D Xs).p B v w):(LsQ (fun g=>q g∧B≤g∧g<w.heap.size) E m D Xs).p B v w:=by
 obtain ⟨h1,h2,⟨ds,h3,h4,h5,h5'⟩,h6⟩:=h
 refine ⟨h1,h2,⟨ds,h3,h4,h5,fun g hg=>⟨h5' g hg,?_⟩⟩,fun g hg=>⟨h6 g hg,?_⟩⟩
 ·obtain ⟨ps,rfl,hp⟩:=h3
  exact kY hX hp g hg
 ·obtain ⟨q1,c,fz,q2⟩:=dT h4 g hg
  exact ⟨q1,(Array.getElem?_eq_some_iff.1 q2).1⟩
theorem tH {q q':Nat→Prop}(h:∀ g,q g→q' g){E m:Nat}{D:List TypeId}{Xs:List As}:Wk (LsQ q E m D Xs) (LsQ q' E m D Xs):=fun B v w ⟨h1,h2,⟨ds,h3,h4,h5,h5'⟩,h6⟩=>⟨h1,h2,⟨ds,h3,h4,h5,fun g hg=>h _ (h5' g hg)⟩,fun g hg=>h _ (h6 g hg)⟩
theorem Bl {q:Nat→Prop}{E m:Nat}{D:List TypeId}{Xs:List As}(hX:∀ A∈Xs,FreeA A A)(hN:∀ A∈Xs,NewA A){B h lo:Nat}{v:Value}{w:World}(hB:B≤h)(hlo:lo≤h)(hp:(LsQ q E m D Xs).p h v w):(LsG lo E m D Xs).p B v w :=
 tH (fun g hg=>Nat.le_trans hlo hg.2.1) _ _ _ (od hX _ _ _ _ hB (yp hN hp))
theorem tF {lo:Nat}{E m:Nat}{D:List TypeId}{Xs:List As}(hX:∀ A∈Xs,NewA A){B:Nat}{v:Value}{w:World}(h:(LsG lo E m D Xs).p B v w):(LsI lo w.heap.size E m D Xs).p B v w:=tH (fun g hg=>⟨hg.1,hg.2.2⟩) _ _ _ (yp hX h)
def ivZ (I:List (Nat × Nat))(Xs:List As):List As:=List.zipWith (fun x A=>IvA x.1 x.2 A) I Xs
def Srt (I:List (Nat × Nat))(top:Nat):Prop:=I.Pairwise (fun x y=>x.2≤y.1)∧∀ x∈I,x.2≤top
theorem rO {t:Nat}:Srt [] t:=⟨.nil,fun x hx=>by cases hx⟩
theorem kB {I:List (Nat × Nat)}{t lo hi:Nat}(h:Srt I t)(h1:t≤lo)(h2:lo≤hi):Srt (I++[(lo,hi)]) hi:=by
 refine ⟨List.pairwise_append.2 ⟨h.1,List.pairwise_singleton ..,fun x hx y hy=>?_⟩,fun x hx=>?_⟩
 ·obtain rfl:=List.mem_singleton.1 hy
  exact Nat.le_trans (h.2 x hx) h1
 ·rcases List.mem_append.1 hx with hx | hx
  ·exact Nat.le_trans (h.2 x hx) zo
  ·obtain rfl:=List.mem_singleton.1 hx
   exact Nat.le_refl _
theorem nX {I:List (Nat × Nat)}{Xs:List As}{lo hi:Nat}{X:As}(h:I.length=Xs.length):ivZ I Xs++[IvA lo hi X]=ivZ (I++[(lo,hi)]) (Xs++[X]):=by
 unfold ivZ
 rw [List.zipWith_append h]
 rfl
theorem eY {I:List (Nat × Nat)}{Xs:List As}(h:I.length=Xs.length):(ivZ I Xs).length=Xs.length:=by unfold ivZ; rw [List.length_zipWith,h]; omega
theorem nW {p:As→Prop}:∀ {I:List (Nat × Nat)} {Xs:List As},(∀ lo hi,∀ A∈Xs,p (IvA lo hi A))→∀ A∈ivZ I Xs,p A
 | [],_,_,A,hA=>by simp [ivZ] at hA
 | _::_,[],_,A,hA=>by simp [ivZ] at hA
 | x::I,X::Xs,h,A,hA=>by
  rcases List.mem_cons.1 (show A∈IvA x.1 x.2 X::ivZ I Xs from hA) with rfl | hA
  ·exact h _ _ X (by simp)
  ·exact nW (fun lo hi A' h'=>h lo hi A' (by simp [h'])) A hA
theorem tW {B:Nat}{w:World}:∀ {I:List (Nat × Nat)} {Xs:List As} {ds:List Value},I.length=Xs.length→I.Pairwise (fun x y=>x.2≤y.1)→(cat (ivZ I Xs)).p B ds w→(cat Xs).p B ds w∧(cbl ds).Nodup∧∀ g∈cbl ds,∃ x∈I,x.1≤g∧g<x.2
 | [],[],ds,_,_,⟨ps,e,hp⟩=>by
  cases hp
  subst e
  exact ⟨⟨[],rfl,.nil⟩,List.nodup_nil,fun g hg=>by cases hg⟩
 | x::I,X::Xs,ds,hl,hs,h=>by
  obtain ⟨ps,e,hp⟩:=(show (cat (IvA x.1 x.2 X::ivZ I Xs)).p B ds w from h)
  cases hp with
  | @cons _ c _ ps h1 hp =>
   obtain ⟨q1,q2,q3⟩:=tW (ds:=ps.flatten) (by simpa using hl) (List.pairwise_cons.1 hs).2 ⟨ps,rfl,hp⟩
   obtain ⟨⟨qs,e2,hq⟩⟩:=id (⟨q1⟩:PLift _)
   obtain ⟨p1,p2,p3⟩:=h1
   subst e
   refine ⟨⟨c::qs,by rw [List.flatten_cons,List.flatten_cons,e2],.cons p1 hq⟩,?_,fun g hg=>?_⟩
   ·rw [List.flatten_cons,bV]
    refine List.nodup_append.2 ⟨p2,q2,fun a ha b hb e=>?_⟩
    subst e
    obtain ⟨y,hy,r1,r2⟩:=q3 a hb
    have r3:=(List.pairwise_cons.1 hs).1 y hy
    have r4:=p3 a ha
    omega
   ·rw [List.flatten_cons,bV] at hg
    rcases List.mem_append.1 hg with hg | hg
    ·exact ⟨x,by simp,p3 g hg⟩
    ·obtain ⟨y,hy,r⟩:=q3 g hg
     exact ⟨y,by simp [hy],r⟩
theorem yf {b E m h:Nat}{D:List TypeId}{l:List As}{X:As}(hX:NewA X){B:Nat}{v:Value}{w:World}(hp:(OwnR b E m D (l++[GeA h X])).p B v w):(OwnR b E m D (l++[IvA h w.heap.size X])).p B v w:=by
 obtain ⟨h1,h2,ds,⟨ps,e,hc⟩,h4⟩:=hp
 have hcg:∀ {l:List As} {ps:List (List Value)},All2 (fun (A:As) c=>A.p B c w) (l++[GeA h X]) ps→All2 (fun (A:As) c=>A.p B c w) (l++[IvA h w.heap.size X]) ps:=fun {l}=>by
  induction l with
  | nil =>
   intro ps hc
   cases hc with
   | cons q1 q2 =>
    cases q2
    exact .cons ⟨q1.1,q1.2.1,fun g hg=>⟨q1.2.2 g hg,(hX _ _ _ q1.1 g hg).2⟩⟩ .nil
  | cons A l ih =>
   intro ps hc
   cases hc with
   | cons q1 q2=>exact .cons q1 (ih q2)
 refine ⟨fun A hA=>?_,fun A hA=>?_,ds,⟨ps,e,hcg hc⟩,?_⟩
 ·rcases List.mem_append.1 hA with hA | hA
  ·exact h1 A (by simp [hA])
  ·obtain rfl:=List.mem_singleton.1 hA
   exact h1 (GeA h X) (by simp)
 ·rcases List.mem_append.1 hA with hA | hA
  ·exact h2 A (by simp [hA])
  ·obtain rfl:=List.mem_singleton.1 hA
   exact h2 (GeA h X) (by simp)
 ·simpa using h4
theorem sZ {b E m:Nat}{D:List TypeId}{I:List (Nat × Nat)}{Xs:List As}{top:Nat}(hl:I.length=Xs.length)(hs:Srt I top):∀ {B:Nat} {v:Value} {w:World},B≤b→(OwnR b E m D (ivZ I Xs)).p B v w→(LsN E m D Xs).p B v w:=fun {B v w} hb ⟨h1,h2,ds,h3,h4⟩=>by
 obtain ⟨q1,q2,q3⟩:=tW hl hs.1 h3
 have hmem:∀ {I:List (Nat × Nat)} {Xs:List As},I.length=Xs.length→∀ A∈Xs,∃ x:Nat × Nat,IvA x.1 x.2 A∈ivZ I Xs:=fun {I}=>by
  induction I with
  | nil=>intro Xs hl A hA; cases Xs with | nil=>cases hA | cons=>cases hl
  | cons x I ih =>
   intro Xs hl A hA
   cases Xs with
   | nil=>cases hA
   | cons X Xs =>
    rcases List.mem_cons.1 hA with rfl | hA
    ·exact ⟨x,List.mem_cons_self ..⟩
    ·obtain ⟨y,hy⟩:=ih (by simpa using hl) A hA
     exact ⟨y,List.mem_cons_of_mem _ hy⟩
 refine ⟨fun A hA=>?_,fun A hA=>?_,⟨ds,q1,?_,q2,fun _ _=>trivial⟩,fun _ _=>trivial⟩
 ·obtain ⟨x,hx⟩:=hmem hl A hA; have:=h1 _ hx; exact this
 ·obtain ⟨x,hx⟩:=hmem hl A hA; have:=h2 _ hx; exact this
 ·rw [eY hl] at h4
  refine ⟨h4.1,?_⟩
  rcases h4.2 with h | ⟨g,cap,cur,e1,e2,e3⟩
  ·exact .inl h
  ·exact .inr ⟨g,cap,cur,e1,Nat.le_trans hb e2,e3⟩
def lsP {α:Type}(z:α)(AP:α→(Nat→Value)→As)(ms:Nat→Nat→Value)(xs:List α):List As:=(List.range xs.length).map fun j=>AP (xs.getD j z) (ms j)
def lsK {α:Type}(z:α)(kx:α→(Nat→Value)→KL)(ms:Nat→Nat→Value)(xs:List α)(i:Nat):KL:=((List.range i).map fun j=>kx (xs.getD j z) (ms j)).flatten
theorem lsK_0 {α:Type}{z:α}{kx:α→(Nat→Value)→KL}{ms:Nat→Nat→Value}{xs:List α}:lsK z kx ms xs 0=[]:=rfl
theorem mD {α:Type}{z:α}{kx:α→(Nat→Value)→KL}{ms:Nat→Nat→Value}{xs:List α}{i:Nat}:lsK z kx ms xs (i+1)=lsK z kx ms xs i++kx (xs.getD i z) (ms i):=by
 unfold lsK
 rw [List.range_succ,List.map_append,List.flatten_append]
 simp
theorem l4 {α:Type}{z:α}{AP:α→(Nat→Value)→As}{ms:Nat→Nat→Value}{xs:List α}:(lsP z AP ms xs).length=xs.length:=by unfold lsP; simp
theorem lsP_at {α:Type}{z:α}{AP:α→(Nat→Value)→As}{ms:Nat→Nat→Value}{xs:List α}{i:Nat}(h:i<xs.length):(lsP z AP ms xs)[i]?=some (AP (xs.getD i z) (ms i)):=by
 unfold lsP
 rw [List.getElem?_map,List.getElem?_range h]
 rfl
theorem nQ {α:Type}{z:α}{AP:α→(Nat→Value)→As}{ms:Nat→Nat→Value}{xs:List α}{p:As→Prop}(h:∀ x m,p (AP x m)):∀ A∈lsP z AP ms xs,p A:=fun A hA=>by
 obtain ⟨j,_,rfl⟩:=List.mem_map.1 hA
 exact h _ _
theorem pi {α:Type}{z:α}{AN:α→As}{AP:α→(Nat→Value)→As}{kx:α→(Nat→Value)→KL}(hs:∀ {x:α} {B:Nat} {cs:List Value} {w:World},(AN x).p B cs w→∃ m,(AP x m).p B cs w∧cbl cs=kbl (kx x m)∧OkK (kx x m)){B:Nat}{w:World} :
  ∀ {xs:List α} {ds:List Value},(cat (xs.map AN)).p B ds w→∃ ms,(cat (lsP z AP ms xs)).p B ds w∧cbl ds=kbl (lsK z kx ms xs xs.length)∧OkK (lsK z kx ms xs xs.length)
 | [],ds,⟨ps,e,hp⟩=>by
  cases hp
  subst e
  exact ⟨fun _ _=>undef,⟨[],rfl,.nil⟩,rfl,fun p hp=>by cases hp⟩
 | x::xs,ds,⟨ps,e,hp⟩=>by
  cases hp with
  | @cons _ c _ ps h1 hp =>
   obtain ⟨m,p1,e1,o1⟩:=hs h1
   obtain ⟨ms,⟨qs,e2,hq⟩,e3,o3⟩:=pi hs (xs:=xs) (ds:=ps.flatten) ⟨ps,rfl,hp⟩
   have hP:lsP z AP (fun j=>match j with | 0=>m | j+1=>ms j) (x::xs)=AP x m::lsP z AP ms xs:=by
    unfold lsP
    rw [List.length_cons,List.range_succ_eq_map,List.map_cons,List.map_map]
    rfl
   have hK:lsK z kx (fun j=>match j with | 0=>m | j+1=>ms j) (x::xs) (x::xs).length=kx x m++lsK z kx ms xs xs.length:=by
    unfold lsK
    rw [List.length_cons,List.range_succ_eq_map,List.map_cons,List.map_map,List.flatten_cons]
    rfl
   refine ⟨fun j=>match j with | 0=>m | j+1=>ms j,?_,?_,?_⟩
   ·rw [hP]
    exact ⟨c::qs,by rw [e,List.flatten_cons,List.flatten_cons,e2],.cons p1 hq⟩
   ·rw [hK,e,List.flatten_cons,bV,e1,e3,kbl_app]
   ·rw [hK]
    exact ey o1 o3
def LsP (E m:Nat)(D:List TypeId)(l:List As)(v:Value):VA where
 p B u w:=u=v∧(OwnR B E m D l).p B u w
 deps:=E::D
 cg:=fun B u w w' hg h=>⟨h.1,(OwnR B E m D l).cg _ _ _ _ hg h.2⟩
 wr:=fun B u w w' g c T fz h1 h2 h3 h4 h=>⟨h.1,(OwnR B E m D l).wr _ _ _ _ _ _ _ _ h1 h2 h3 h4 h.2⟩
theorem lsp_ow {E m:Nat}{D:List TypeId}{l:List As}{v:Value}{n:Nat}(hn:l.length=n):Wk (LsP E m D l v) (OwV E m v n):=fun B u w ⟨h,_,_,ds,_,h4⟩=>by
 subst h hn
 exact ⟨rfl,ds,h4⟩
theorem yy {E m:Nat}{D:List TypeId}{l:List As}{v:Value}:Wk (LsP E m D l v) (SlA E D l).va:=fun B u w ⟨_,h⟩=>eP _ _ _ h
theorem St.nameLs {α:Type}{z:α}{AN:α→As}{AP:α→(Nat→Value)→As}{kx:α→(Nat→Value)→KL}(hs:∀ {x:α} {B:Nat} {cs:List Value} {w:World},(AN x).p B cs w→∃ m,(AP x m).p B cs w∧cbl cs=kbl (kx x m)∧OkK (kx x m))
  {B N:Nat} {w0:Bs} {Γ:List (Nat × VA)} {Λ:List Lc} {a:Act} {w:World} {s E m:Nat} {D:List TypeId} {q:Nat→Prop} {xs:List α} (hn:∀ x m',(AP x m').n=m) (hd:∀ x m',∀ T∈(AP x m').deps,T∈D) (h:St B w0 N Γ Λ a w) (k:Nat) (hm:Γ[k]?=some (s,LsQ q E m D (xs.map AN))) :
  ∃ v ms,(kbl (lsK z kx ms xs xs.length)).Nodup∧(∀ g∈kbl (lsK z kx ms xs xs.length),q g)∧OkK (lsK z kx ms xs xs.length)∧(∀ g,v.ownBlock=some g→q g)∧St B w0 N (Γ.set k (s,LsP E m D (lsP z AP ms xs) v)) Λ a w:=by
 obtain ⟨h1,h2,⟨ds,h3,h4,h5,h6⟩,h7⟩:=h.getG k hm
 obtain ⟨ms,p1,e1,o1⟩:=pi (z:=z) hs h3
 refine ⟨a.eval (.tmp s),ms,by rw [← e1]; exact h5,fun g hg=>h6 g (by rw [e1]; exact hg),o1,h7,h.setG k hm fun _=>⟨rfl,nQ hn,nQ hd,ds,p1,?_⟩⟩
 rw [l4]
 rw [List.length_map] at h4
 exact h4
def reO:RE:=⟨0,rf0,rf0⟩
def REN (x:RE):As:=cat [NumA .u8 x.k,RFN x.p,RFN x.q]
theorem iZ {x:RE}:NewA (REN x):=dV fun A hA=>by
 simp at hA
 rcases hA with rfl | rfl | rfl
 ·exact nN _ _
 ·exact tn
 ·exact tn
theorem ix {x:RE}:FreeA (REN x) (REN x):=ci (.cons (dO _ _) (.cons pB (.cons pB .nil)))
theorem so {x:RE}:WkA (REN x) (REA x):=bz (.cons (.refl _) (.cons sl (.cons sl .nil)))
theorem lI {k:IntKind}{n:Int}{B:Nat}{cs:List Value}{w:World}(h:(NumA k n).p B cs w):cbl cs=[]:=by
 have h':cs=[.int k n]:=h
 subst h'
 rfl
theorem jh {x:RE}{B:Nat}{cs:List Value}{w:World}(h:(REN x).p B cs w):∃ m:Nat→Value,(EleP x m).p B cs w∧cbl cs=kbl (ke x m)∧OkK (ke x m):=by
 obtain ⟨ps,rfl,hp⟩:=h
 cases hp with
 | @cons _ c0 _ _ h0 hp=>cases hp with
  | @cons _ c1 _ _ h1 hp=>cases hp with
   | @cons _ c2 _ _ h2 hp =>
    cases hp
    obtain ⟨m1,m2,p1,e1,o1⟩:=du h1
    obtain ⟨m3,m4,p2,e2,o2⟩:=du h2
    refine ⟨nm4 m1 m2 m3 m4,⟨[c0,c1,c2],rfl,.cons h0 (.cons p1 (.cons p2 .nil))⟩,?_,ey o1 o2⟩
    have:([c0,c1,c2]:List (List Value)).flatten=c0++(c1++c2):=by simp
    rw [this,bV,bV,lI h0,e1,e2]
    exact kbl_app.symm
theorem lD (x:RE)(m:Nat→Value):∀ T∈(EleP x m).deps,T∈[U32]:=fun T hT=>by
 have h:=List.all_eq_true.1 (show ((EleP x m).deps.all fun T=>[U32].contains T)=true by kernel_rfl) T hT
 simpa using h
theorem pR {A:As}{l l':List As}(hA:∀ B cs w,A.p B cs w→cbl cs=[])(h:WkA (cat l) (DisA (cat l'))):WkA (cat (A::l)) (DisA (cat (A::l'))):=by
 refine ⟨?_,rfl,fun B cs w ⟨ps,e,hp⟩=>?_⟩
 ·have h1:=h.1
  show ((A::l').map (·.n)).sum=((A::l).map (·.n)).sum
  rw [List.map_cons,List.sum_cons,List.map_cons,List.sum_cons]
  exact congrArg (A.n + ·) h1
 ·cases hp with
  | @cons _ c _ ps h1 hp =>
   obtain ⟨⟨qs,e2,hq⟩,hn⟩:=h.2.2 B ps.flatten w ⟨ps,rfl,hp⟩
   subst e
   refine ⟨⟨c::qs,by rw [List.flatten_cons,List.flatten_cons,e2],.cons h1 hq⟩,?_⟩
   rw [List.flatten_cons,bV,hA _ _ _ h1]
   exact hn
theorem ch {ms:Nat→Nat→Value}{xs:List RE}:∀ {i:Nat},(lsK reO ke ms xs i).length=4*i
 | 0=>rfl
 | i+1=>by rw [mD,List.length_append,ch]; simp only [List.length_append,List.length_cons,List.length_nil]; omega
theorem kP {ms:Nat→Nat→Value}{xs:List RE}{K:KL}{i:Nat}(hi:i<xs.length)(h:(kbl (K++lsK reO ke ms xs xs.length)).Nodup):(kbl ((K++lsK reO ke ms xs i)++ke (xs.getD i reO) (ms i))).Nodup:=by
 have key:∀ d,i+1+d=xs.length→(kbl (K++lsK reO ke ms xs (i+1))).Nodup:=fun d hd=>by
  have:∀ d n,(kbl (K++lsK reO ke ms xs (n+d))).Nodup→(kbl (K++lsK reO ke ms xs n)).Nodup:=fun d=>by
   induction d with
   | zero=>exact fun n h=>h
   | succ d ih=>exact fun n h=>ih n (by rw [← Nat.add_assoc,mD,← List.append_assoc] at h; exact kb h)
  exact this d _ (by rw [hd]; exact h)
 have:=key (xs.length-(i+1)) zo
 rwa [mD,← List.append_assoc] at this
theorem j4 {v:Value}{ms:Nat→Nat→Value}{xs:List RE}(K:KL)(Rs Es:VL)(hs:(kbl (K++lsK reO ke ms xs xs.length)).Nodup)(hv:∀ p∈Es,∀ g,p.1.ownBlock=some g→v.ownBlock≠some g)(hl:K.length+4*xs.length+Rs.length+Es.length≤999900):CK Tryz.prog 16 58 [58,108,105] (BkF (K) Rs Es) (BkF (K++lsK reO ke ms xs xs.length) Rs (Es++[(v,xs.length)])) [LsP 67 9 [U32] (lsP reO EleP ms xs) v] (Tu []):=by
 refine CK.intro Tryz.func16 G zk nq zk (fun B g w0 a hrm U=>?_)
 have U:=zn [(0,EqV ((ptrH).f g)),(1,LsP 67 9 [U32] (lsP reO EleP ms xs) v)] [⟨0,58,ptrH,BkF (K) Rs Es⟩] U
 refine wp_seq<|wp_seq<|zg [none] [] [.v 4 _] [.g 0,.g 1,.o 0] U (zv G (a9 a8) o0) (zz [(0,_),(1,_),(4,_)] [O 0 58 _] fun a w U=>?_)
 refine a7<|wp_block ?_
 have U:=St.sel U [0,1,2]
 refine wp_loop_ghost (fun n a w=>∃ (i:Nat),n+i=xs.length∧St B w0 20 [(0,EqV (ptrH.f g)),(1,LsP 67 9 [U32] (lsP reO EleP ms xs) v),(4,In (i:Nat))] [⟨0,58,ptrH,BkF (K++lsK reO ke ms xs i) Rs Es⟩] a w) (xs.length) ?_ ?_
 ·exact ⟨0,by omega,St.cvA U 0 G (congrArg (fun k=>BkF k Rs Es) (show K=K++lsK reO ke ms xs 0 by rw [lsK_0,List.append_nil]))⟩
 intro n a w hI
 obtain ⟨i,hn,U⟩:=hI
 refine wp_seq<|wp_seq<|zg [none] [] [.v 5 _,.v 6 _,.v 7 _,.v 8 _] [.g 0,.g 1,.g 2,.o 3] U (zM 2 G (zM 1 G (zv G (be Tryz.underlying22 (has_wk' (vq 1 G) yy)) (zv G (aN (vq 0 G) (vq 2 G)) o0)))) (zz [(0,_),(1,_),(4,_),(8,_)] [O 0 58 _] fun a w U=>?_)
 refine a7<|ah U (zm 3 G) (fun hb0=>?_) (fun hb0=>?_)
 ·have hi:i<xs.length:=by have:=of_decide_eq_true hb0; rw [l4] at this; omega
  refine wp_skip<|zt<|wp_block<|bf (sp:=[.v 11 _,.v 12 _,.v 13 _,.v 14 _,.v 15 _,.v 16 VT]) 5 1 99 5 OneC [.g 0,.g 1,.g 2,.o 0,.o 4] U (zM 0 G (zM 1 G (zM 2 G (zv G (cB cC (nQ fun _ _=>rfl) (has_wk' (vq 1 G) yy) (vq 2 G) (lsP_at hi)) (zv G (aq (vq 3 G) cb) o0))))) G zd zk zk (zz [(0,_),(1,_),(4,_),(11,_),(15,_)] [O 0 58 _] fun a w U=>?_)
  rw [show List.range' 5 1=[5] from rfl]
  rw [wpOps_cons]
  refine cP (A1:=BkF ((K++lsK reO ke ms xs i)++ke (xs.getD i reO) (ms i)) Rs Es) (xs:=[.tmp 15]) [0,1,2] [4] 0 G U (CK.wkT (tU (xs.getD i reO) (ms i) (K++lsK reO ke ms xs i) Rs Es (kP hi hs) (by rw [List.length_append,ch]; omega)) zd) G (Eq.trans (b:=ptr g) (U.vals _ (zm 3 G)) (Eq.symm (U.vals _ (zm 0 G)))) (.cons ⟨_,rfl,rfl⟩ .nil) G hrm zd zk zk zk zk (fun a w U=>?_)
  refine bq ?_
  have U:=zn [(16,_),(0,_),(1,_),(4,_)] [⟨0,58,ptrH,BkF ((K++lsK reO ke ms xs i)++ke (xs.getD i reO) (ms i)) Rs Es⟩] U
  refine ao ?_
  refine a7<|zg [none] [] [.v 9 _,.v 10 _,.v 4 _] [.g 1,.g 2,.o 2] U (zM 3 G (zv G (aR (vq 0 G) a8 (aX zo)) (zA 1 G o0))) (zz [(0,_),(1,_),(4,_)] [O 0 58 _] fun a w U=>?_)
  refine a7 ?_
  have U:=St.sel U [0,1,2]
  exact ⟨n-1,by omega,i+1,by omega,St.cvA U 0 G (congrArg (fun k=>BkF k Rs Es) (show (K++lsK reO ke ms xs i)++ke (xs.getD i reO) (ms i)=K++lsK reO ke ms xs (i+1) by rw [mD,List.append_assoc]))⟩
 ·obtain rfl:i=xs.length:=by have:=of_decide_eq_false hb0; rw [l4] at this; omega
  refine wp_exit<|ak<|ak<|aC<|a7<|bf (sp:=[.v 17 _,.v 18 _,.v 19 VT]) 2 1 99 2 OneC [.g 0,.g 1,.o 0,.o 1] U (zM 0 G (zv G (ae (has_wk' (gq 1 G) (lsp_ow l4))) o0)) G zd zk zk (zz [(0,_),(1,_),(17,_),(18,_)] [O 0 58 _] fun a w U=>?_)
  rw [show List.range' 2 1=[2] from rfl]
  rw [wpOps_cons]
  refine cP (A1:=BkF (K++lsK reO ke ms xs xs.length) Rs (Es++[(v,xs.length)])) (xs:=[.tmp 18]) [0,1] [3] 0 G U (CK.wkT (wM (K++lsK reO ke ms xs xs.length) Rs Es v xs.length hv (by rw [List.length_append,ch]; omega)) zd) G (Eq.trans (b:=ptr g) (U.vals _ (zm 2 G)) (Eq.symm (U.vals _ (zm 0 G)))) (.cons ⟨_,rfl,rfl⟩ .nil) G hrm zd zk zk zk zk (fun a w U=>?_)
  refine bq ?_
  have U:=zn [(19,_),(0,_),(1,_)] [⟨0,58,ptrH,BkF (K++lsK reO ke ms xs xs.length) Rs (Es++[(v,xs.length)])⟩] U
  refine cD<|fG U (zm 1 G) (zm 0 G) ?_
  exact aS (rs:=[]) G U .nil zd
def TED (x:RE):As:=DisA (RET x)
theorem tk {x:RE}:NewA (TED x):=lF (dV fun A hA=>by
 simp at hA
 rcases hA with rfl | rfl | rfl
 ·exact nN _ _
 ·exact kX
 ·exact kX)
theorem x4 {x:RE}:FreeA (TED x) (TED x):=iA (pC x)
theorem te_pins {u v:Value}{x:RE}:WkA (cat [NumA .u8 x.k,PinA u ((TFD x.p).and (SepAll [] u)),PinA v ((TFD x.q).and (SepAll [u] v))]) (TED x) :=
 (pR (fun _ _ _ h=>lI h) (gk (l:=[(u,TFD x.p),(v,TFD x.q)]) (fun y hy=>by
  simp at hy
  rcases hy with rfl | rfl <;> exact jj))).trans (fv (bz (.cons (.refl _) (.cons dis_wk (.cons dis_wk .nil)))))
theorem Au {x:RE}:WkA (RET x) (REN x):=bz (.cons (.refl _) (.cons gG (.cons gG .nil)))
theorem zV {x:RE}:WkA (TED x) (REN x):=dis_wk.trans Au
theorem qd {l l':List As}(h:All2 WkA l l'){B:Nat}{ds:List Value}{w:World}(hp:(cat l).p B ds w):(cat l').p B ds w:=by
 obtain ⟨ps,e,hp⟩:=hp
 refine ⟨ps,e,?_⟩
 clear e
 induction h generalizing ps with
 | nil=>cases hp; exact .nil
 | cons h1 _ ih=>cases hp with | cons p1 p2=>exact .cons (h1.2.2 _ _ _ p1) (ih _ p2)
theorem gu {l l':List As}(h:All2 WkA l l'):l'.length=l.length:=by
 induction h with
 | nil=>rfl
 | cons _ _ ih=>simp [ih]
theorem vd {l l':List As}{m:Nat}(h:All2 WkA l l')(hn:∀ A∈l,A.n=m):∀ A∈l',A.n=m:=by
 induction h with
 | nil=>exact fun A hA=>by cases hA
 | @cons X X' l l' h1 _ ih =>
  intro A hA
  rcases List.mem_cons.1 hA with rfl | hA
  ·rw [h1.1]; exact hn X (by simp)
  ·exact ih (fun A hA=>hn A (by simp [hA])) A hA
theorem wo {b E m:Nat}{D:List TypeId}{l l':List As}(h:All2 WkA l l')(hd:∀ A∈l',∀ T∈A.deps,T∈D):Wk (OwnR b E m D l) (OwnR b E m D l'):=fun B v w ⟨h1,h2,ds,h3,h4⟩ =>
 ⟨vd h h1,hd,ds,qd h h3,by rw [gu h]; exact h4⟩
theorem vc {l l':List As}{x:As}(h:All2 WkA l l'):All2 WkA (l++[x]) (l'++[x]):=by
 induction h with
 | nil=>exact .cons (.refl _) .nil
 | cons h1 _ ih=>exact .cons h1 ih
theorem vk {E m:Nat}{D:List TypeId}{l l':List As}{x:As}(h:All2 WkA l l')(hd:∀ A∈l',∀ T∈A.deps,T∈D):Wk (TwS E m D l x) (TwS E m D l' x):=fun B v w ⟨g,c,h1,h2,h3⟩=>by
 have hx:∀ T∈x.deps,T∈D:=h3.2.1 x (by simp)
 refine ⟨g,c,by rw [gu h]; exact h1,h2,?_⟩
 rw [gu h]
 exact wo (vc h) (fun A hA=>by
  rcases List.mem_append.1 hA with hA | hA
  ·exact hd A hA
  ·obtain rfl:=List.mem_singleton.1 hA; exact hx) _ _ _ h3
theorem tG {q:Nat→Prop}{E m:Nat}{D:List TypeId}{l l':List As}(h:All2 WkA l l')(hd:∀ A∈l',∀ T∈A.deps,T∈D):Wk (LsQ q E m D l) (LsQ q E m D l'):=fun B v w ⟨h1,h2,⟨ds,h3,h4,h5⟩,h6⟩ =>
 ⟨vd h h1,hd,⟨ds,qd h h3,by rw [gu h]; exact h4,h5⟩,h6⟩
theorem zS {E m:Nat}{D:List TypeId}{l:List As}{x:As}{B:Nat}{v:Value}{w:World}(h:(TwS E m D l x).p B v w):(OwnR B E m D l).p B v w:=by
 obtain ⟨g,c,h1,h2,h3,h4,ds,h5,h6,h7⟩:=h
 rcases h7 with ⟨h7,_⟩ | ⟨g',cap,cur,e1,e2,e3,e4,e5,e6,e7⟩
 ·cases h7
 ·injection e1 with eg _ e1
  injection eg with eg
  injection eg with eg
  subst eg e1 h1
  have hs:=(ng h3 h5 l.length).1
  rw [List.take_left] at hs
  have hl:(ds.take (l.length*m)).length=l.length*m:=by
   rw [(cat l).len _ _ _ hs,fP fun A hA=>h3 A (by simp [hA])]
  refine ⟨fun A hA=>h3 A (by simp [hA]),fun A hA=>h4 A (by simp [hA]),ds.take (l.length*m),hs,hl,.inr ⟨g,c,cur,rfl,h2,e3,?_,e5,e6,?_⟩⟩
  ·rw [List.length_append] at e4
   exact Nat.le_of_lt e4
  ·rw [← e7,List.take_take,Nat.min_eq_left]
   rw [List.length_append]
   exact Nat.mul_le_mul_right m zo
theorem tws_d {α:Type}{E m:Nat}{D:List TypeId}{I:List (Nat × Nat)}{top:Nat}{xs:List α}{AD AT AN:α→As}{z:As}(hl:I.length=xs.length)(hs:Srt I top)(h1:∀ x,WkA (AD x) (AT x))(h2:∀ x,WkA (AD x) (AN x))(d1:∀ x,∀ T∈(AT x).deps,T∈D)(d2:∀ x,∀ T∈(AN x).deps,T∈D):Wk (TwS E m D (ivZ I (xs.map AD)) z) (andV (TwS E m D (xs.map AT) z) (LsN E m D (xs.map AN))):=fun B v w h=>by
 have hl':I.length=(xs.map AD).length:=by rw [List.length_map]; exact hl
 refine ⟨vk ?_ (cm d1) _ _ _ h,tG (dr h2) (cm d2) _ _ _ (sZ hl' hs (Nat.le_refl _) (zS h))⟩
 clear h hs hl'
 induction xs generalizing I with
 | nil=>cases I with | nil=>exact .nil | cons=>cases hl
 | cons x xs ih=>cases I with
  | nil=>cases hl
  | cons i I=>exact .cons (iv_wk.trans (h1 x)) (ih (by simpa using hl))
theorem yA {α:Type}{I:List (Nat × Nat)}{xs:List α}{j:Nat}{f:α→As}(h:I.length=j)(hj:j≤xs.length):I.length=((xs.take j).map f).length:=by rw [List.length_map,List.length_take,Nat.min_eq_left hj]; exact h
theorem jB (x:RE)(hx:bdF x.p∧bdF x.q):Cn Tryz.prog 21 [(REA x).va] ((TED x).va):=by
 refine Cn.intro Tryz.func21 G zk nq (fun B w0 a U=>?_)
 have U:=zn [(0,(REA x).va)] [] U
 refine wp_seq<|zg [] [⟨1,67,ptrH,some 0,_,none⟩,⟨2,67,ptrH,some 1,_,none⟩] [.alc 0,.alc 1] [] U (oc (ay G G G (gq 0 G)) (oc (aJ G G G (Str.zero cu)) o0)) (zz [] [O 1 67 _,O 2 67 _] fun a w U=>?_)
 refine zt<|go_drawV' [[],[0],[],[2],[2,3],[],[5],[2,3,4,5,6],[0,1,2,3,4,5,6,7],[0,1,2,3,4,5,6,7,8]] (sts:=[none,some (9,fun ν=>_)]) (news:=[]) (sp:=[(fun ν=>.adr 3 1 (.some 0) True),(fun ν=>.v 4 _),(fun ν=>.adr 5 1 (.some 1) True),(fun ν=>.v 6 _),(fun ν=>.v 7 (PinA (ν 4) ((TFD x.p).and (SepAll [] (ν 4)))).va),(fun ν=>.adr 8 1 (.some 5) True),(fun ν=>.v 9 _),(fun ν=>.v 10 (PinA (ν 7) ((TFD x.q).and (SepAll [ν 4] (ν 7)))).va),(fun ν=>.v 11 _),(fun ν=>.sto 1)]) [] ab U ⟨of_u fun ν=>ob_a rfl rfl (ac (lz0 0 rfl) bP),⟨of_u fun ν=>ob_v rfl rfl (aD 0 rfl zk trivial (lz0 0 rfl) (Sub.part 0 rfl rfl) er),⟨of_u fun ν=>ob_a rfl rfl (ac (lz0 0 rfl) bg),⟨of_u fun ν=>ob_v rfl rfl (aD 2 rfl zk trivial (lz0 0 rfl) (Sub.part 1 rfl rfl) ax),⟨cV (us:=fun ν=>[]) (xs:=[.tmp 6]) rfl rfl (cZ _ hx.1) d6 ft (.cons (cY _).va .nil) (fun ν=>(.cons (vq 3 rfl) .nil)) (fun _ _=>rfl) (fun ν=>bR),⟨of_u fun ν=>ob_a rfl rfl (ac (lz0 0 rfl) bK),⟨of_u fun ν=>ob_v rfl rfl (aD 5 rfl zk trivial (lz0 0 rfl) (Sub.part 2 rfl rfl) ax),⟨cV (us:=fun ν=>[ν 4]) (xs:=[.tmp 9]) rfl rfl (cZ _ hx.2) d6 ft (.cons (cY _).va .nil) (fun ν=>(.cons (vq 6 rfl) .nil)) (fun _ _=>rfl) (fun ν=>(cj (cJ d6) (vq 4 rfl) bR)),⟨of_u fun ν=>ob_v rfl rfl (bi (xs:=[(0,.tmp 4),(1,.tmp 7),(2,.tmp 10)]) (qs:=[(0,_),(1,_),(2,_)]) cu (.cons ⟨rfl,(vq 1 rfl),rfl⟩ (.cons ⟨rfl,(vq 4 rfl),rfl⟩ (.cons ⟨rfl,(vq 7 rfl),rfl⟩ .nil)))),⟨of_u fun ν=>aA rfl rfl rfl (vq 8 rfl) cb (Eq.trans (b:=9) rfl rfl),trivial⟩⟩⟩⟩⟩⟩⟩⟩⟩⟩ ⟨(fun ν ν' h=>rfl),⟨(fun ν ν' h=>rfl),⟨(fun ν ν' h=>rfl),⟨(fun ν ν' h=>rfl),⟨(fun ν ν' h=>by first | rfl | simp only [h 4 rfl]),⟨(fun ν ν' h=>rfl),⟨(fun ν ν' h=>rfl),⟨(fun ν ν' h=>by first | rfl | simp only [h 4 rfl,h 7 rfl]),⟨(fun ν ν' h=>by first | rfl | simp only [h 4 rfl,h 7 rfl]),⟨(fun ν ν' h=>by first | rfl | simp only [h 4 rfl,h 7 rfl]),trivial⟩⟩⟩⟩⟩⟩⟩⟩⟩⟩ ⟨trivial,⟨(fun ν ν' h=>by first | rfl | simp only [h 4 rfl,h 7 rfl]),trivial⟩⟩ zk zk (fun ν=>by kernel_rfl) (fun ν=>by kernel_rfl) (fun ν1 a w U=>?_)
 have U:=zn [] [O 1 67 _,O 2 67 _] U
 refine a7<|wp_ret<|ar ?_ (az G U (zm 1 G) cb)
 exact te_pins.va
theorem iG (xs:List RE)(hl:xs.length≤10000000)(hx:bdLElements xs):Cn Tryz.prog 7 [(SlA 67 [U32] (xs.map REA)).va] (andV (TwS 67 9 [U32] (xs.map RET) (REA ⟨77,rf0,rf0⟩)) (LsN 67 9 [U32] (xs.map REN))):=by
 obtain ⟨it,z,e1,e2,e3,e4,e5⟩:=jG
 refine Cn.introW Tryz.func7 G zk nq (.cons (ns (cm jN)).va .nil) (uj (wY (ph (cm pC) ug)) (od (cm fun _=>ix))) (fun B w0 a hB0 U=>?_)
 have U:=zn [(0,(SlO 67 [U32] (xs.map REA) True).va)] [] U
 refine wp_seq<|zh [.v 2 _] [.g 0,.o 0] U (zv G (a9 aP) o0) (zz [(0,_),(2,_)] [] fun a w U=>?_)
 refine zt<|zh [.v 5 _,.v 6 _,.v 7 (In ((xs.length+1:Nat):Int)),.v 8 (OwnR w0.w.heap.size 67 9 [U32] []),.v 3 _] [.g 0,.o 4] U (zM 0 G (zv G (be Tryz.underlying22 (cE (aL (vq 0 G)))) (zv G (aR (vq 1 G) a8 (D7 zo)) (zv G (AE Tryz.underlying22 e1 e2 e3 e4 e5 zd zd (Nat.le_of_eq hB0) a8 (vq 2 G) zo) (zA 3 G o0))))) (fun a w U=>?_)
 have U:=St.addSz U 9999
 obtain ⟨top0,et0⟩:∃ t,w.heap.size=t:=⟨_,rfl⟩
 rw [et0] at U
 have U:=zn [(0,_),(3,_),(9999,_)] [] U
 refine zt<|wp_seq<|zh [.v 4 _] [.g 0,.g 1,.g 2,.o 0] U (zv G (a9 a8) o0) (zz [(0,_),(3,_),(9999,_),(4,_)] [] fun a w U=>?_)
 refine a7<|wp_block ?_
 have U:=St.sel U [0,1,3,2]
 refine wp_loop_ghost (fun n a w=>∃ (j:Nat) (I:List (Nat × Nat)) (top:Nat),(n+j=xs.length∧I.length=j∧Srt I top)∧St B w0 30 [(0,(SlO 67 [U32] (xs.map REA) True).va),(3,OwnR w0.w.heap.size 67 9 [U32] (ivZ I ((xs.take j).map TED))),(4,In (j:Nat)),(9999,SzV top)] [] a w) (xs.length) ?_ ?_
 ·exact ⟨0,[],top0,⟨by omega,rfl,rO⟩,U⟩
 intro n a w hI
 obtain ⟨j,I,top,⟨hn,hIl,hS⟩,U⟩:=hI
 refine wp_seq<|wp_seq<|zh [.v 9 _,.v 10 _,.v 11 _,.v 12 _] [.g 0,.g 1,.g 2,.g 3,.o 3] U (zM 2 G (zM 0 G (zv G (be Tryz.underlying22 (cE (aL (vq 1 G)))) (zv G (aN (vq 0 G) (vq 2 G)) o0)))) (zz [(0,_),(3,_),(4,_),(9999,_),(12,_)] [] fun a w U=>?_)
 refine a7<|ah U (zm 4 G) (fun hb0=>?_) (fun hb0=>?_)
 ·have hj:j<xs.length:=by simp at hb0; omega
  refine wp_skip<|zt<|wp_block ?_
  obtain ⟨ht0,U⟩:=St.newSz U 3 rfl
  obtain ⟨h1,eh1⟩:∃ h1,w.heap.size=h1:=⟨_,rfl⟩
  rw [eh1] at U ht0
  have U:=zn [(0,_),(3,_),(4,_),(9999,_),(12,_)] [] U
  refine ll (sp:=[.v 15 _,.v 16 _,.v 17 _,.v 18 _,.v 19 _,.v 20 _,.v 21 _,.v 22 VT,.v 3 VT]) 7 [0,2,3] 0 6 U (zM 1 rfl (zM 0 rfl (zM 2 rfl (zv rfl (cB cC (fM fun _=>rfl) (cE (aL (vq 1 rfl))) (vq 2 rfl) (dD hj)) (zv rfl (aq (vq 3 rfl) cb) (zv rfl (kM (h:=h1) (s:=9999) (jB xs[j] (hx _ (List.getElem_mem hj))) tk jj x4 (.cons (jN _).va .nil) (.cons (vq 4 rfl) .nil) (gq 3 rfl)) (zv rfl (cz (D:=[U32]) (l:=[_]) (xs:=[.tmp 20]) (dK zk) cC zk (n_ok zk) nq nq nq (.cons (vq 5 rfl) .nil) rfl rfl) o0))))))) rfl zk rfl rfl zd rfl zd rfl (fun _ _ h _=>h) Tryz.underlying22 e1 e2 e3 e4 e5 zd (by rw [eY (yA hIl zo)]; simp only [List.length_map,List.length_take,List.length_singleton]; omega) zd (fun T hT=>hT) zd (fun A hA=>by obtain rfl:=List.mem_singleton.1 hA; rfl) zk nq nq zk zk (zz [(3,_),(0,_),(4,_),(9999,_)] [] fun a w U=>?_)
  have U:=St.setG (A':=OwnR w0.w.heap.size 67 9 [U32] (ivZ I ((xs.take j).map TED)++[IvA h1 w.heap.size (TED xs[j])])) U 0 rfl (yf tk)
  obtain ⟨hq,U⟩:=St.newSz U 3 rfl
  obtain ⟨h2,eh2⟩:∃ h2,w.heap.size=h2:=⟨_,rfl⟩
  rw [eh2] at U hq
  have U:=zn [(3,_),(0,_),(4,_),(9999,_)] [] U
  refine ao ?_
  refine a7<|zh [.v 13 _,.v 14 _,.v 4 _] [.g 0,.g 1,.g 3,.o 2] U (zM 2 G (zv G (aR (vq 0 G) a8 (aX zo)) (zA 1 G o0))) (zz [(3,_),(0,_),(9999,_),(4,_)] [] fun a w U=>?_)
  refine a7 ?_
  have U:=St.sel U [1,0,3,2]
  exact ⟨n-1,by omega,j+1,I++[(h1,h2)],h2,⟨by omega,by rw [List.length_append,hIl]; rfl,kB hS ht0 hq⟩,St.wkG (A':=OwnR w0.w.heap.size 67 9 [U32] (ivZ (I++[(h1,h2)]) ((xs.take (j+1)).map TED))) U 1 G (bc (congrArg (OwnR w0.w.heap.size 67 9 [U32]) ((nX (yA hIl zo)).trans (congrArg (ivZ _) (Du hj)))))⟩
 ·obtain rfl:j=xs.length:=by simp at hb0; omega
  refine wp_exit<|ak<|ak<|aC<|zt ?_
  have hIl2:(ivZ I (xs.map TED)).length=xs.length:=by rw [eY (by rw [List.length_map]; exact hIl),List.length_map]
  have U:=St.wkG (A':=OwnR w0.w.heap.size 67 9 [U32] (ivZ I (xs.map TED))) U 1 rfl (bc (by rw [List.take_length]))
  refine wV (sp:=[.v 23 _,.v 24 _,.v 25 _,.v 26 VT,.v 27 VT,.v 28 VT,.v 29 VT,.v 2 VT]) 3 [] 0 2 U (zM 1 rfl (zv rfl (bi (xs:=[(0,.const (.int .u8 77))]) (qs:=[(0,_)]) cu (.cons ⟨rfl,a8,rfl⟩ .nil)) (zv rfl (cz (D:=[U32]) (l:=[REA ⟨77,rf0,rf0⟩]) (xs:=[.tmp 24]) (dK zk) cC zk (n_ok zk) nq nq nq (.cons (vq 1 rfl) .nil) rfl rfl) (o0)))) rfl zk rfl rfl rfl rfl rfl 0 rfl (fun B u w h=>by have h2:=Dn B u w h; rw [List.length_map] at h2; rw [hIl2]; exact h2) zk zd rfl zd rfl (fun _ _ h _=>h) Tryz.underlying22 e1 e2 e3 e4 e5 zd (by rw [hIl2]; omega) zd (fun T hT=>hT) zd zk zd nq nq nq nq nq zk zk (zz [(2,_)] [] fun a w U=>?_)
  refine a7<|wp_ret<|ar ?_ (am G U (zm 0 G))
  exact tws_d hIl hS (fun _=>dis_wk) (fun _=>zV) (fun _=>fX zk) (fun _=>fX zk)
end Go.Proofs.YtmacliockgbdcaaGreatDoor
