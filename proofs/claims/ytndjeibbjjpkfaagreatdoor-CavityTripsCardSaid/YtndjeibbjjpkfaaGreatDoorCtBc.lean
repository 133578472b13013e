import Derived.Test.YtndjeibbjjpkfaaGreatDoorCtAa
import Derived.Test.YtndjeibbjjpkfaaGreatDoorCtAc
import Derived.Test.YtndjeibbjjpkfaaGreatDoorCtAy
import Derived.Test.YtndjeibbjjpkfaaGreatDoorCtBa
import Derived.Test.YtndjeibbjjpkfaaGreatDoorCtBb
set_option linter.unusedVariables false
set_option linter.unusedSimpArgs false
set_option linter.unusedSectionVars false
set_option maxRecDepth 100000
namespace Go.Proofs.YtndjeibbjjpkfaaGreatDoor
open Go Go.RowKit
def RET (x:RE):As:=cat [NumA .u8 x.k,RFT x.p,RFT x.q]
theorem wkA_ret {x:RE}:WkA (RET x) (REA x):=zc8 (.cons (.refl _) (.cons zuc (.cons zuc .nil)))
theorem zry (x:RE):FreeA (RET x) (RET x):=zch (.cons (zeg _ _) (.cons (zix _) (.cons (zix _) .nil)))
theorem zof:FreeA (RFA rf0) (RFA rf0):=zch (.cons (zch (.cons (zdz _) (.cons zrz .nil))) (.cons (zch (.cons (zdz _) (.cons zrz .nil))) .nil))
theorem zxa:FreeA (REA ⟨77,rf0,rf0⟩) (REA ⟨77,rf0,rf0⟩):=zch (.cons (zeg _ _) (.cons zof (.cons zof .nil)))
theorem reT_eq {x y:RE}:(((x.k==y.k)&&decide (x.p=y.p))&&decide (x.q=y.q))=decide (x=y):=by
 obtain ⟨a,b,c⟩:=x
 obtain ⟨d,e,f⟩:=y
 by_cases h1:a=d <;> by_cases h2:b=e <;> by_cases h3:c=f <;> simp [h1,h2,h3]
theorem zmf (x y:RE)(hx:bdF x.p∧bdF x.q):Cn Tryz.prog 26 [(RET x).va,(REA y).va] (Bo (decide (x=y))):=by
 refine Cn.intro Tryz.func26 rfl zk nq (fun B w0 a O=>?_)
 have O:=zn [(0,(RET x).va),(1,(REA y).va)] [] O
 refine wp_seq<|zg [] [⟨2,64,ptrH,some 0,_,none⟩,⟨3,64,ptrH,some 1,_,none⟩] [.alc 0,.alc 1,.val 4 _] [.o 2] O (oc (zan rfl rfl rfl (gq 0 rfl)) (oc (zan rfl rfl rfl (gq 1 rfl)) (zv rfl (za1 zau) o0))) (zz [(4,_)] [⟨2,64,ptrH,_⟩,⟨3,64,ptrH,_⟩] fun a w O=>?_)
 refine zt<|zg [none,none] [] [.adr 5 2 (.some 0) True,.val 6 _,.adr 7 3 (.some 0) True,.val 8 _,.val 9 _,.val 10 _,.adr 11 2 (.some 1) (_=true),.val 12 (Wh (_=true) _),.adr 13 3 (.some 1) (_=true),.val 14 (Wh (_=true) _),.val 15 (Wh (_=true) _),.val 16 _,.val 17 _,.adr 18 2 (.some 5) (_=true),.val 19 (Wh (_=true) _),.adr 20 3 (.some 5) (_=true),.val 21 (Wh (_=true) _),.val 22 (Wh (_=true) _),.val 23 _,.val 4 _] [.o 19] O (oc (ob_a rfl rfl (za7 (lz0 0 rfl) zcw)) (zv rfl (za4 0 rfl zk trivial (lz0 0 rfl) (Sub.part 0 rfl rfl) zgu) (oc (ob_a rfl rfl (za7 (lz0 1 rfl) zcw)) (zv rfl (za4 2 rfl zk trivial (lz0 1 rfl) (Sub.part 0 rfl rfl) zgu) (zv rfl (zc5 (vq 1 rfl) (vq 3 rfl)) (zv rfl (za2 (vq 4 rfl)) (oc (zce rfl rfl rfl (vq 5 rfl) nq (fun hg=>za7 (lz0 0 rfl) zcd)) (oc (zai rfl rfl rfl (vq 5 rfl) nq (fun hg=>za4 6 rfl zk hg (lz0 0 rfl) (Sub.part 1 rfl rfl) zad)) (oc (zce rfl rfl rfl (vq 5 rfl) nq (fun hg=>za7 (lz0 1 rfl) zcd)) (oc (zai rfl rfl rfl (vq 5 rfl) nq (fun hg=>za4 8 rfl zk hg (lz0 1 rfl) (Sub.part 1 rfl rfl) zad)) (oc (zai rfl rfl rfl (vq 5 rfl) nq (fun hg=>za5 (xs:=[.tmp 12,.tmp 14]) (zl4 _ _ hx.1) (.cons (zaa (vq 7 rfl) hg) (.cons (zaa (vq 9 rfl) hg) .nil)))) (zv rfl (zc9 (vq 5 rfl) (vq 10 rfl)) (zv rfl (za2 (vq 11 rfl)) (oc (zce rfl rfl rfl (vq 12 rfl) nq (fun hg=>za7 (lz0 0 rfl) zcg)) (oc (zai rfl rfl rfl (vq 12 rfl) nq (fun hg=>za4 13 rfl zk hg (lz0 0 rfl) (Sub.part 2 rfl rfl) zad)) (oc (zce rfl rfl rfl (vq 12 rfl) nq (fun hg=>za7 (lz0 1 rfl) zcg)) (oc (zai rfl rfl rfl (vq 12 rfl) nq (fun hg=>za4 15 rfl zk hg (lz0 1 rfl) (Sub.part 2 rfl rfl) zad)) (oc (zai rfl rfl rfl (vq 12 rfl) nq (fun hg=>za5 (xs:=[.tmp 19,.tmp 21]) (zl4 _ _ hx.2) (.cons (zaa (vq 14 rfl) hg) (.cons (zaa (vq 16 rfl) hg) .nil)))) (zv rfl (zc9 (vq 12 rfl) (vq 17 rfl)) (zv rfl (za1 (vq 18 rfl)) o0)))))))))))))))))))) (zz [(4,_)] [⟨2,64,ptrH,_⟩,⟨3,64,ptrH,_⟩] fun a w O=>?_)
 refine za0<|wp_ret<|zae ?_ (zag rfl O (zm 0 rfl))
 exact zbt (congrArg Bo reT_eq)
theorem zkn:∃ it z,Tryz.prog.info? 64=some it∧it.zero=some z∧it.size=9∧it.bytes=136∧z.cells.size=9:=by
 have h:((Tryz.prog.info? 64).bind fun it=>it.zero.map fun z=>(it.size,it.bytes,z.cells.size))=some (9,136,9):=by kernel_rfl
 cases hi:Tryz.prog.info? 64 with
 | none=>rw [hi] at h; simp at h
 | some it =>
  rw [hi] at h
  cases hz:it.zero with
  | none=>simp [hz] at h
  | some z =>
   simp [hz] at h
   exact ⟨it,z,rfl,hz,h.1,h.2.1,h.2.2⟩
abbrev bdLElements (xs:List RE):Prop:=∀ x∈xs,bdF x.p∧bdF x.q
theorem zkm (xs ys:List RE)(hl:ys.length≤10000000)(hx:bdLElements xs):Cn Tryz.prog 10 [TwS 64 9 [U32] (xs.map RET) (REA ⟨77,rf0,rf0⟩),(SlA 64 [U32] (ys.map REA)).va] (Bo (decide (xs=ys))):=by
 refine Cn.intro Tryz.func10 rfl zk nq (fun B w0 a O=>?_)
 have O:=zn [(0,TwS 64 9 [U32] (xs.map RET) (REA ⟨77,rf0,rf0⟩)),(1,(SlA 64 [U32] (ys.map REA)).va)] [] O
 obtain ⟨g,c,O⟩:=St.exK O 0 rfl
 have hcap:=zum (O.vals (0,_) (zm 0 rfl))
 rw [List.length_map] at hcap
 refine wp_seq<|zh [.val 4 _] [.g 0,.g 1,.o 0] O (zv rfl (za1 zau) o0) (zz [(0,_),(1,_),(4,_)] [] fun a w O=>?_)
 refine zt<|wp_seq<|zh [.val 7 _,.val 8 _,.val 9 _,.val 10 _,.val 11 _,.val 12 _,.val 13 (Wh (_=false) _),.val 14 (Wh (_=false) _),.val 15 (Wh (_=false) _),.val 16 (Wh (_=false) _),.val 17 (Wh (_=false) _),.val 18 _] [.g 0,.g 1,.g 2,.o 11] O (zv rfl (za2 (gq 0 rfl)) (zv rfl (zbq Tryz.underlying22 (has_wk' (vq 0 rfl) zul)) (zv rfl (za2 (gq 1 rfl)) (zv rfl (zbq Tryz.underlying22 (vq 2 rfl)) (zv rfl (zd9 (vq 1 rfl) (vq 3 rfl)) (zv rfl (za2 (vq 4 rfl)) (oc (zai rfl rfl rfl (vq 5 rfl) nq (fun hg=>za2 (gq 0 rfl))) (oc (zai rfl rfl rfl (vq 5 rfl) nq (fun hg=>r_capK Tryz.underlying22 (zaa (vq 6 rfl) hg))) (oc (zai rfl rfl rfl (vq 5 rfl) nq (fun hg=>za2 (gq 1 rfl))) (oc (zai rfl rfl rfl (vq 5 rfl) nq (fun hg=>zbq Tryz.underlying22 (zaa (vq 8 rfl) hg))) (oc (zai rfl rfl rfl (vq 5 rfl) nq (fun hg=>zt3 (zaa (vq 7 rfl) hg) (zaa (vq 9 rfl) hg))) (zv rfl (r_or (vq 5 rfl) (vq 10 rfl)) o0)))))))))))) (zz [(0,_),(1,_),(4,_),(18,_)] [] fun a w O=>?_)
 refine za0<|za9 O (zm 3 rfl) (fun hb0=>?_) (fun hb0=>?_)
 ·refine wp_seq<|zh [.val 4 _] [.g 0,.g 1,.o 0] O (zv rfl (za1 zau) o0) (zz [(0,_),(1,_),(4,_)] [] fun a w O=>?_)
  refine za0<|wp_ret<|zah ?_
  refine zae ?_ (zag rfl O (zm 2 rfl))
  exact zbt (congrArg Bo (lens_ne hcap.1 hb0))
 ·have hlen:=lens_eq hb0
  refine wp_skip<|zt<|wp_seq<|zh [.val 5 _] [.g 0,.g 1,.g 2,.o 0] O (zv rfl (za1 za3) o0) (zz [(0,_),(1,_),(4,_),(5,_)] [] fun a w O=>?_)
  refine za0<|wp_block ?_
  have O:=St.sel O [0,1,3]
  refine wp_loop_ghost (fun n a w=>∃ j:Nat,(n+j=ys.length∧xs.take j=ys.take j)∧St B w0 47 [(0,TwK g c 64 9 [U32] (xs.map RET) (REA ⟨77,rf0,rf0⟩)),(1,(SlA 64 [U32] (ys.map REA)).va),(5,In (j:Nat))] [] a w) (ys.length) ?_ ?_
  ·exact ⟨0,⟨by omega,rfl⟩,O⟩
  intro n a w hI
  obtain ⟨j,⟨hn,ht⟩,O⟩:=hI
  refine wp_seq<|wp_seq<|zh [.val 19 _,.val 20 _,.val 21 _,.val 22 _] [.g 0,.g 1,.g 2,.o 3] O (zv rfl (za2 (gq 2 rfl)) (zv rfl (za2 (gq 1 rfl)) (zv rfl (zbq Tryz.underlying22 (vq 1 rfl)) (zv rfl (zb6 (vq 0 rfl) (vq 2 rfl)) o0)))) (zz [(0,_),(1,_),(5,_),(22,_)] [] fun a w O=>?_)
  refine za0<|za9 O (zm 3 rfl) (fun hb1=>?_) (fun hb1=>?_)
  ·have hj2:j<ys.length:=by rw [List.length_map] at hb1; simp at hb1; omega
   have hj:j<xs.length:=by omega
   refine wp_skip<|zt<|wp_block<|wp_seq<|zgd [[],[],[0,1],[0,1,2],[],[],[4,5],[4,5,6],[0,1,2,3,4,5,6,7],[0,1,2,3,4,5,6,7,8]] [] [] [.val 25 _,.val 26 _,.val 27 _,.val 28 _,.val 29 _,.val 30 _,.val 31 _,.val 32 _,.val 33 _,.val 34 _] [.g 0,.g 1,.g 2,.o 9] za6 O (zv rfl (za2 (gq 0 rfl)) (zv rfl (za2 (gq 2 rfl)) (zv rfl (zdv zgw (zie fun _=>rfl) (has_wk' (vq 0 rfl) zul) (vq 1 rfl) (zfb hj)) (zv rfl (zaj (vq 2 rfl) zed) (zv rfl (za2 (gq 1 rfl)) (zv rfl (za2 (gq 2 rfl)) (zv rfl (zdv zgw (zie fun _=>rfl) (vq 4 rfl) (vq 5 rfl) (zfb hj2)) (zv rfl (zaj (vq 6 rfl) zed) (zv rfl (za5 (xs:=[.tmp 28,.tmp 32]) (zmf xs[j] ys[j] (hx _ (List.getElem_mem hj))) (.cons (vq 3 rfl) (.cons (vq 7 rfl) .nil))) (zv rfl (zep (vq 8 rfl)) o0)))))))))) zk zk zk zk (zz [(0,_),(1,_),(5,_),(34,_)] [] fun a w O=>?_)
   refine za0<|za9 O (zm 3 rfl) (fun hb2=>?_) (fun hb2=>?_)
   ·refine wp_seq<|zh [.val 4 _] [.g 0,.g 1,.g 2,.o 0] O (zv rfl (za1 zau) o0) (zz [(0,_),(1,_),(5,_),(4,_)] [] fun a w O=>?_)
    refine za0<|wp_ret<|zb7 ?_
    refine zah ?_
    refine zah ?_
    refine zb7 ?_
    refine zah ?_
    refine zae ?_ (zag rfl O (zm 3 rfl))
    exact zbt (congrArg Bo (zyz hj2 hj hb2))
   ·refine wp_skip<|zal ?_
    refine za0<|zh [.val 23 _,.val 24 _,.val 5 _] [.g 0,.g 1,.o 2] O (zv rfl (za2 (gq 2 rfl)) (zv rfl (zbb (vq 0 rfl) za3 (zbc zo)) (zv rfl (za1 (vq 1 rfl)) o0))) (zz [(0,_),(1,_),(5,_)] [] fun a w O=>?_)
    refine za0 ?_
    have O:=St.sel O [0,1,2]
    exact ⟨n-1,by omega,j+1,⟨by omega,zz0 hj2 hj ht hb2⟩,O⟩
  ·obtain rfl:j=ys.length:=by rw [List.length_map] at hb1; simp at hb1; omega
   refine wp_exit<|za8<|za8<|zat<|zt<|zg [] [⟨6,64,ptrH,some 9,_,some (10,_)⟩] [.val 35 _,.val 36 _,.val 37 _,.val 38 _,.val 39 _,.val 40 _,.val 41 _,.val 42 _,.val 43 _,.alc 0,.sto 0] [] O (zv rfl (za2 (gq 0 rfl)) (zv rfl (za2 (gq 1 rfl)) (zv rfl (zbq Tryz.underlying22 (vq 1 rfl)) (zv rfl (zbb (vq 2 rfl) za3 (wi_lm zo)) (zv rfl (r_reslK zgw (vq 0 rfl) (has_wk' (vq 3 rfl) (zbt (congrArg (fun k:Nat=>In ((k+1:Nat):Int)) (hlen.symm.trans (List.length_map ..).symm))))) (zv rfl (za2 (gq 1 rfl)) (zv rfl (zbq Tryz.underlying22 (vq 5 rfl)) (zv rfl (zdv zgw (zrf (zdy fun _=>rfl) rfl) (vq 4 rfl) (has_wk' (vq 6 rfl) (zbt (congrArg (fun k:Nat=>In (k:Int)) (List.length_map ..)))) (k:=ys.length) (by rw [List.getElem?_append_right (by rw [List.length_map]; omega),List.length_map,hlen,Nat.sub_self]; rfl)) (zv rfl (zaj (vq 7 rfl) zed) (oc (zaq rfl rfl rfl (Str.zero zfz)) (oc (zac rfl rfl rfl (vq 8 rfl) zed (Eq.trans (b:=9) rfl rfl)) o0))))))))))) (zz [] [⟨6,64,ptrH,_⟩] fun a w O=>?_)
   refine zt<|zg [none] [] [.adr 44 6 (.some 0) True,.val 45 _,.val 46 _,.val 4 _] [.o 3] O (oc (ob_a rfl rfl (za7 (lz0 0 rfl) zcw)) (zv rfl (za4 0 rfl zk trivial (lz0 0 rfl) (Sub.part 0 rfl rfl) zgu) (zv rfl (zc5 (vq 1 rfl) za3) (zv rfl (za1 (vq 2 rfl)) o0)))) (zz [(4,_)] [⟨6,64,ptrH,_⟩] fun a w O=>?_)
   refine za0<|wp_ret<|zae ?_ (zag rfl O (zm 0 rfl))
   have e:xs=ys:=by rw [List.take_of_length_le zo,List.take_length] at ht; exact ht
   refine zbt (congrArg Bo ?_); rw [decide_eq_true e]; rfl
end Go.Proofs.YtndjeibbjjpkfaaGreatDoor
namespace Go.Proofs.YtndjeibbjjpkfaaGreatDoor
open Go Go.RowKit
theorem new_twn {l:List Nat}:NewA (TwN l):=fun B cs w ⟨ok,g,e,h1,h2,h3⟩ g' hg=>by
 subst e
 have:g'=g:=by simpa [cbl,blk] using hg
 subst this
 exact ⟨h1,(Array.getElem?_eq_some_iff.1 h3).1⟩
theorem zm3 {x:RI}:NewA (RIT x):=zf1 fun A hA=>by
 simp at hA
 rcases hA with rfl | rfl
 ·exact new_bo _
 ·exact new_twn
theorem nod_rit {x:RI}:NodA (RIT x):=fun B cs w h=>zwd x B cs w (rit_rin.2.2 _ _ _ h)
def TFD (x:RF):As:=DisA (RFT x)
theorem zpq {x:RF}:NewA (RFT x):=zf1 fun A hA=>by
 simp at hA
 rcases hA with rfl | rfl <;> exact zm3
theorem ziX {x:RF}:FreeA (RFT x) (RFT x):=zch (.cons (zf6 _) (.cons (zf6 _) .nil))
theorem zpn {x:RF}:NewA (TFD x):=zn5 zpq
theorem zrw {x:RF}:FreeA (TFD x) (TFD x):=zj4 ziX
theorem tfd_pins {u v:Value}{x:RF}:WkA (cat [PinA u ((RIT x.num).and (SepAll [] u)),PinA v ((RIT x.den).and (SepAll [u] v))]) (TFD x) :=
 zj3 (l:=[(u,RIT x.num),(v,RIT x.den)]) (fun y hy=>by
  simp at hy
  rcases hy with rfl | rfl <;> exact nod_rit)
theorem zja (x:RF)(hx:bdF x):Cn Tryz.prog 82 [(RFA x).va] ((TFD x).va):=by
 refine Cn.intro Tryz.func82 rfl zk nq (fun B w0 a O=>?_)
 have O:=zn [(0,(RFA x).va)] [] O
 refine wp_seq<|zg [] [⟨1,30,ptrH,some 0,_,none⟩,⟨2,30,ptrH,some 1,_,none⟩] [.alc 0,.alc 1] [] O (oc (zan rfl rfl rfl (gq 0 rfl)) (oc (zaq rfl rfl rfl (Str.zero zb3)) o0)) (zz [] [⟨1,30,ptrH,_⟩,⟨2,30,ptrH,_⟩] fun a w O=>?_)
 refine zt<|go_drawV' [[],[0],[0,1],[],[3],[0,1,2,3,4],[0,1,2,3,4,5],[0,1,2,3,4,5,6]] (sts:=[none,some (7,fun ν=>_)]) (news:=[]) (sp:=[(fun ν=>.adr 3 1 (.some 0) True),(fun ν=>.val 4 _),(fun ν=>.val 5 (PinA (ν 2) ((RIT x.num).and (SepAll [] (ν 2)))).va),(fun ν=>.adr 6 1 (.some 2) True),(fun ν=>.val 7 _),(fun ν=>.val 8 (PinA (ν 5) ((RIT x.den).and (SepAll [ν 2] (ν 5)))).va),(fun ν=>.val 9 _),(fun ν=>.sto 1)]) [] za6 O ⟨of_u fun ν=>ob_a rfl rfl (za7 (lz0 0 rfl) zbf),⟨of_u fun ν=>ob_v rfl rfl (za4 0 rfl zk trivial (lz0 0 rfl) (Sub.part 0 rfl rfl) zaf),⟨zej (us:=fun ν=>[]) (xs:=[.tmp 4]) rfl rfl (znk _ hx.1) zm3 (zf6 _) (.cons (zni _).va .nil) (fun ν=>(.cons (vq 1 rfl) .nil)) (fun _ _=>rfl) (fun ν=>zdp),⟨of_u fun ν=>ob_a rfl rfl (za7 (lz0 0 rfl) zb9),⟨of_u fun ν=>ob_v rfl rfl (za4 3 rfl zk trivial (lz0 0 rfl) (Sub.part 1 rfl rfl) zaf),⟨zej (us:=fun ν=>[ν 2]) (xs:=[.tmp 7]) rfl rfl (znk _ hx.2) zm3 (zf6 _) (.cons (zni _).va .nil) (fun ν=>(.cons (vq 4 rfl) .nil)) (fun _ _=>rfl) (fun ν=>(zde (zel zm3) (vq 2 rfl) zdp)),⟨of_u fun ν=>ob_v rfl rfl (zb8 (xs:=[(0,.tmp 5),(1,.tmp 8)]) (qs:=[(0,_),(1,_)]) zb3 (.cons ⟨rfl,(vq 2 rfl),rfl⟩ (.cons ⟨rfl,(vq 5 rfl),rfl⟩ .nil))),⟨of_u fun ν=>zac rfl rfl rfl (vq 6 rfl) zad (Eq.trans (b:=4) rfl rfl),trivial⟩⟩⟩⟩⟩⟩⟩⟩ ⟨(fun ν ν' h=>rfl),⟨(fun ν ν' h=>rfl),⟨(fun ν ν' h=>by first | rfl | simp only [h 2 rfl]),⟨(fun ν ν' h=>rfl),⟨(fun ν ν' h=>rfl),⟨(fun ν ν' h=>by first | rfl | simp only [h 2 rfl,h 5 rfl]),⟨(fun ν ν' h=>by first | rfl | simp only [h 2 rfl,h 5 rfl]),⟨(fun ν ν' h=>by first | rfl | simp only [h 2 rfl,h 5 rfl]),trivial⟩⟩⟩⟩⟩⟩⟩⟩ ⟨trivial,⟨(fun ν ν' h=>by first | rfl | simp only [h 2 rfl,h 5 rfl]),trivial⟩⟩ zk zk (fun ν=>by kernel_rfl) (fun ν=>by kernel_rfl) (fun ν1 a w O=>?_)
 have O:=zn [] [⟨1,30,ptrH,_⟩,⟨2,30,ptrH,_⟩] O
 refine za0<|wp_ret<|zae ?_ (zak rfl O (zm 1 rfl) zad)
 exact tfd_pins.va
end Go.Proofs.YtndjeibbjjpkfaaGreatDoor
namespace Go.Proofs.YtndjeibbjjpkfaaGreatDoor
open Go Go.RowKit
def andV (A A':VA):VA where
 p B v w:=A.p B v w∧A'.p B v w
 deps:=A.deps++A'.deps
 cg:=fun B v w w' hg h=>⟨A.cg _ _ _ _ hg h.1,A'.cg _ _ _ _ hg h.2⟩
 wr:=fun B v w w' g c T fz h1 h2 h3 h4 h=>by
  simp only [List.mem_append,not_or] at h2
  exact ⟨A.wr _ _ _ _ _ _ _ _ h1 h2.1 h3 h4 h.1,A'.wr _ _ _ _ _ _ _ _ h1 h2.2 h3 h4 h.2⟩
theorem andV_1 {A A':VA}:Wk (andV A A') A:=fun _ _ _ h=>h.1
theorem andV_2 {A A':VA}:Wk (andV A A') A':=fun _ _ _ h=>h.2
theorem zxb {A A':VA}(h:Free A A)(h':Free A' A'):Free (andV A A') (andV A A'):=fun B B' v w hB hp=>⟨h _ _ _ _ hB hp.1,h' _ _ _ _ hB hp.2⟩
def LsQ (q:Nat→Prop)(E m:Nat)(D:List TypeId)(Xs:List As):VA where
 p B v w:=(∀ A∈Xs,A.n=m)∧(∀ A∈Xs,∀ T∈A.deps,T∈D)∧(∃ ds,(cat Xs).p B ds w∧w.ownsRow B E m v Xs.length ds∧(cbl ds).Nodup∧∀ g∈cbl ds,q g)∧∀ g,v.ownBlock=some g→q g
 deps:=E::D
 cg:=fun B v w w' hg ⟨h1,h2,⟨ds,h3,h4,h5⟩,h6⟩=>⟨h1,h2,⟨ds,(cat Xs).cg _ _ _ _ hg h3,zcv h4 fun g c _ h=>hg.heap h,h5⟩,h6⟩
 wr:=by
  rintro B v w w' g c T fz hgc hT hB hW ⟨h1,h2,⟨ds,h3,h4,h5⟩,h6⟩
  simp only [List.mem_cons,not_or] at hT
  refine ⟨h1,h2,⟨ds,(cat Xs).wr _ _ _ _ _ _ _ _ hgc (fun hh=>?_) hB hW h3,zcv h4 fun g' c' _ h7=>?_,h5⟩,h6⟩
  ·obtain ⟨A,hA,hd⟩:=List.mem_flatMap.1 hh
   exact hT.2 (h2 A hA T hd)
  ·rw [hW.block g' (fun e=>?_)]
   ·exact h7
   ·subst e
    rw [hgc] at h7
    injection h7 with h7
    injection h7 with _ h7 _
    exact hT.1 h7
abbrev LsN (E m:Nat)(D:List TypeId)(Xs:List As):VA:=LsQ (fun _=>True) E m D Xs
abbrev LsG (lo E m:Nat)(D:List TypeId)(Xs:List As):VA:=LsQ (fun g=>lo≤g) E m D Xs
abbrev LsI (lo hi E m:Nat)(D:List TypeId)(Xs:List As):VA:=LsQ (fun g=>lo≤g∧g<hi) E m D Xs
theorem free_ls {q:Nat→Prop}{E m:Nat}{D:List TypeId}{Xs:List As}(hX:∀ A∈Xs,FreeA A A):Free (LsQ q E m D Xs) (LsQ q E m D Xs):=fun B B' v w hB ⟨h1,h2,⟨ds,h3,h4,h5⟩,h6⟩=>by
 refine ⟨h1,h2,⟨ds,zs3 hB hX h3,⟨h4.1,?_⟩,h5⟩,h6⟩
 rcases h4.2 with h | ⟨g,cap,cur,e1,e2,e3⟩
 ·exact .inl h
 ·exact .inr ⟨g,cap,cur,e1,Nat.le_trans hB e2,e3⟩
theorem new_ls {E m:Nat}{D:List TypeId}{Xs:List As}(hX:∀ A∈Xs,NewA A){B:Nat}{v:Value}{w:World}{q:Nat→Prop}(h:(LsQ q E m D Xs).p B v w):(LsQ (fun g=>q g∧B≤g∧g<w.heap.size) E m D Xs).p B v w:=by
 obtain ⟨h1,h2,⟨ds,h3,h4,h5,h5'⟩,h6⟩:=h
 refine ⟨h1,h2,⟨ds,h3,h4,h5,fun g hg=>⟨h5' g hg,?_⟩⟩,fun g hg=>⟨h6 g hg,?_⟩⟩
 ·obtain ⟨ps,rfl,hp⟩:=h3
  exact zm5 hX hp g hg
 ·obtain ⟨q1,c,fz,q2⟩:=zgn h4 g hg
  exact ⟨q1,(Array.getElem?_eq_some_iff.1 q2).1⟩
theorem ls_imp {q q':Nat→Prop}(h:∀ g,q g→q' g){E m:Nat}{D:List TypeId}{Xs:List As}:Wk (LsQ q E m D Xs) (LsQ q' E m D Xs):=fun B v w ⟨h1,h2,⟨ds,h3,h4,h5,h5'⟩,h6⟩=>⟨h1,h2,⟨ds,h3,h4,h5,fun g hg=>h _ (h5' g hg)⟩,fun g hg=>h _ (h6 g hg)⟩
theorem ls_top {lo:Nat}{E m:Nat}{D:List TypeId}{Xs:List As}(hX:∀ A∈Xs,NewA A){B:Nat}{v:Value}{w:World}(h:(LsG lo E m D Xs).p B v w):(LsI lo w.heap.size E m D Xs).p B v w:=ls_imp (fun g hg=>⟨hg.1,hg.2.2⟩) _ _ _ (new_ls hX h)
def ivZ (I:List (Nat × Nat))(Xs:List As):List As:=List.zipWith (fun x A=>IvA x.1 x.2 A) I Xs
def Srt (I:List (Nat × Nat))(top:Nat):Prop:=I.Pairwise (fun x y=>x.2≤y.1)∧∀ x∈I,x.2≤top
theorem srt_nil {t:Nat}:Srt [] t:=⟨.nil,fun x hx=>by cases hx⟩
theorem srt_add {I:List (Nat × Nat)}{t lo hi:Nat}(h:Srt I t)(h1:t≤lo)(h2:lo≤hi):Srt (I++[(lo,hi)]) hi:=by
 refine ⟨List.pairwise_append.2 ⟨h.1,List.pairwise_singleton ..,fun x hx y hy=>?_⟩,fun x hx=>?_⟩
 ·obtain rfl:=List.mem_singleton.1 hy
  exact Nat.le_trans (h.2 x hx) h1
 ·rcases List.mem_append.1 hx with hx | hx
  ·exact Nat.le_trans (h.2 x hx) zo
  ·obtain rfl:=List.mem_singleton.1 hx
   exact Nat.le_refl _
theorem ivZ_add {I:List (Nat × Nat)}{Xs:List As}{lo hi:Nat}{X:As}(h:I.length=Xs.length):ivZ I Xs++[IvA lo hi X]=ivZ (I++[(lo,hi)]) (Xs++[X]):=by
 unfold ivZ
 rw [List.zipWith_append h]
 rfl
theorem zpw {I:List (Nat × Nat)}{Xs:List As}(h:I.length=Xs.length):(ivZ I Xs).length=Xs.length:=by unfold ivZ; rw [List.length_zipWith,h]; omega
theorem zx1 {B:Nat}{w:World}:∀ {I:List (Nat × Nat)} {Xs:List As} {ds:List Value},I.length=Xs.length→I.Pairwise (fun x y=>x.2≤y.1)→(cat (ivZ I Xs)).p B ds w→(cat Xs).p B ds w∧(cbl ds).Nodup∧∀ g∈cbl ds,∃ x∈I,x.1≤g∧g<x.2
 | [],[],ds,_,_,⟨ps,e,hp⟩=>by
  cases hp
  subst e
  exact ⟨⟨[],rfl,.nil⟩,List.nodup_nil,fun g hg=>by cases hg⟩
 | x::I,X::Xs,ds,hl,hs,h=>by
  obtain ⟨ps,e,hp⟩:=(show (cat (IvA x.1 x.2 X::ivZ I Xs)).p B ds w from h)
  cases hp with
  | @cons _ c _ ps h1 hp =>
   obtain ⟨q1,q2,q3⟩:=zx1 (ds:=ps.flatten) (by simpa using hl) (List.pairwise_cons.1 hs).2 ⟨ps,rfl,hp⟩
   obtain ⟨⟨qs,e2,hq⟩⟩:=id (⟨q1⟩:PLift _)
   obtain ⟨p1,p2,p3⟩:=h1
   subst e
   refine ⟨⟨c::qs,by rw [List.flatten_cons,List.flatten_cons,e2],.cons p1 hq⟩,?_,fun g hg=>?_⟩
   ·rw [List.flatten_cons,zdg]
    refine List.nodup_append.2 ⟨p2,q2,fun a ha b hb e=>?_⟩
    subst e
    obtain ⟨y,hy,r1,r2⟩:=q3 a hb
    have r3:=(List.pairwise_cons.1 hs).1 y hy
    have r4:=p3 a ha
    omega
   ·rw [List.flatten_cons,zdg] at hg
    rcases List.mem_append.1 hg with hg | hg
    ·exact ⟨x,by simp,p3 g hg⟩
    ·obtain ⟨y,hy,r⟩:=q3 g hg
     exact ⟨y,by simp [hy],r⟩
theorem own_up {b E m h:Nat}{D:List TypeId}{l:List As}{X:As}(hX:NewA X){B:Nat}{v:Value}{w:World}(hp:(OwnR b E m D (l++[GeA h X])).p B v w):(OwnR b E m D (l++[IvA h w.heap.size X])).p B v w:=by
 obtain ⟨h1,h2,ds,⟨ps,e,hc⟩,h4⟩:=hp
 have hcg:∀ {l:List As} {ps:List (List Value)},All2 (fun (A:As) c=>A.p B c w) (l++[GeA h X]) ps→All2 (fun (A:As) c=>A.p B c w) (l++[IvA h w.heap.size X]) ps:=fun {l}=>by
  induction l with
  | nil =>
   intro ps hc
   cases hc with
   | cons q1 q2 =>
    cases q2
    exact .cons ⟨q1.1,q1.2.1,fun g hg=>⟨q1.2.2 g hg,(hX _ _ _ q1.1 g hg).2⟩⟩ .nil
  | cons A l ih =>
   intro ps hc
   cases hc with
   | cons q1 q2=>exact .cons q1 (ih q2)
 refine ⟨fun A hA=>?_,fun A hA=>?_,ds,⟨ps,e,hcg hc⟩,?_⟩
 ·rcases List.mem_append.1 hA with hA | hA
  ·exact h1 A (by simp [hA])
  ·obtain rfl:=List.mem_singleton.1 hA
   exact h1 (GeA h X) (by simp)
 ·rcases List.mem_append.1 hA with hA | hA
  ·exact h2 A (by simp [hA])
  ·obtain rfl:=List.mem_singleton.1 hA
   exact h2 (GeA h X) (by simp)
 ·simpa using h4
theorem own_lsn {b E m:Nat}{D:List TypeId}{I:List (Nat × Nat)}{Xs:List As}{top:Nat}(hl:I.length=Xs.length)(hs:Srt I top):∀ {B:Nat} {v:Value} {w:World},B≤b→(OwnR b E m D (ivZ I Xs)).p B v w→(LsN E m D Xs).p B v w:=fun {B v w} hb ⟨h1,h2,ds,h3,h4⟩=>by
 obtain ⟨q1,q2,q3⟩:=zx1 hl hs.1 h3
 have hmem:∀ {I:List (Nat × Nat)} {Xs:List As},I.length=Xs.length→∀ A∈Xs,∃ x:Nat × Nat,IvA x.1 x.2 A∈ivZ I Xs:=fun {I}=>by
  induction I with
  | nil=>intro Xs hl A hA; cases Xs with | nil=>cases hA | cons=>cases hl
  | cons x I ih =>
   intro Xs hl A hA
   cases Xs with
   | nil=>cases hA
   | cons X Xs =>
    rcases List.mem_cons.1 hA with rfl | hA
    ·exact ⟨x,List.mem_cons_self ..⟩
    ·obtain ⟨y,hy⟩:=ih (by simpa using hl) A hA
     exact ⟨y,List.mem_cons_of_mem _ hy⟩
 refine ⟨fun A hA=>?_,fun A hA=>?_,⟨ds,q1,?_,q2,fun _ _=>trivial⟩,fun _ _=>trivial⟩
 ·obtain ⟨x,hx⟩:=hmem hl A hA; have:=h1 _ hx; exact this
 ·obtain ⟨x,hx⟩:=hmem hl A hA; have:=h2 _ hx; exact this
 ·rw [zpw hl] at h4
  refine ⟨h4.1,?_⟩
  rcases h4.2 with h | ⟨g,cap,cur,e1,e2,e3⟩
  ·exact .inl h
  ·exact .inr ⟨g,cap,cur,e1,Nat.le_trans hb e2,e3⟩
def lsP {α:Type}(z:α)(AP:α→(Nat→Value)→As)(ms:Nat→Nat→Value)(xs:List α):List As:=(List.range xs.length).map fun j=>AP (xs.getD j z) (ms j)
def lsK {α:Type}(z:α)(kx:α→(Nat→Value)→KL)(ms:Nat→Nat→Value)(xs:List α)(i:Nat):KL:=((List.range i).map fun j=>kx (xs.getD j z) (ms j)).flatten
theorem lsK_0 {α:Type}{z:α}{kx:α→(Nat→Value)→KL}{ms:Nat→Nat→Value}{xs:List α}:lsK z kx ms xs 0=[]:=rfl
theorem zo5 {α:Type}{z:α}{kx:α→(Nat→Value)→KL}{ms:Nat→Nat→Value}{xs:List α}{i:Nat}:lsK z kx ms xs (i+1)=lsK z kx ms xs i++kx (xs.getD i z) (ms i):=by
 unfold lsK
 rw [List.range_succ,List.map_append,List.flatten_append]
 simp
theorem zmb {α:Type}{z:α}{AP:α→(Nat→Value)→As}{ms:Nat→Nat→Value}{xs:List α}:(lsP z AP ms xs).length=xs.length:=by unfold lsP; simp
theorem lsP_at {α:Type}{z:α}{AP:α→(Nat→Value)→As}{ms:Nat→Nat→Value}{xs:List α}{i:Nat}(h:i<xs.length):(lsP z AP ms xs)[i]?=some (AP (xs.getD i z) (ms i)):=by
 unfold lsP
 rw [List.getElem?_map,List.getElem?_range h]
 rfl
theorem zpr {α:Type}{z:α}{AP:α→(Nat→Value)→As}{ms:Nat→Nat→Value}{xs:List α}{p:As→Prop}(h:∀ x m,p (AP x m)):∀ A∈lsP z AP ms xs,p A:=fun A hA=>by
 obtain ⟨j,_,rfl⟩:=List.mem_map.1 hA
 exact h _ _
theorem zrh {α:Type}{z:α}{AN:α→As}{AP:α→(Nat→Value)→As}{kx:α→(Nat→Value)→KL}(hs:∀ {x:α} {B:Nat} {cs:List Value} {w:World},(AN x).p B cs w→∃ m,(AP x m).p B cs w∧cbl cs=kbl (kx x m)∧OkK (kx x m)){B:Nat}{w:World} :
  ∀ {xs:List α} {ds:List Value},(cat (xs.map AN)).p B ds w→∃ ms,(cat (lsP z AP ms xs)).p B ds w∧cbl ds=kbl (lsK z kx ms xs xs.length)∧OkK (lsK z kx ms xs xs.length)
 | [],ds,⟨ps,e,hp⟩=>by
  cases hp
  subst e
  exact ⟨fun _ _=>undef,⟨[],rfl,.nil⟩,rfl,fun p hp=>by cases hp⟩
 | x::xs,ds,⟨ps,e,hp⟩=>by
  cases hp with
  | @cons _ c _ ps h1 hp =>
   obtain ⟨m,p1,e1,o1⟩:=hs h1
   obtain ⟨ms,⟨qs,e2,hq⟩,e3,o3⟩:=zrh hs (xs:=xs) (ds:=ps.flatten) ⟨ps,rfl,hp⟩
   have hP:lsP z AP (fun j=>match j with | 0=>m | j+1=>ms j) (x::xs)=AP x m::lsP z AP ms xs:=by
    unfold lsP
    rw [List.length_cons,List.range_succ_eq_map,List.map_cons,List.map_map]
    rfl
   have hK:lsK z kx (fun j=>match j with | 0=>m | j+1=>ms j) (x::xs) (x::xs).length=kx x m++lsK z kx ms xs xs.length:=by
    unfold lsK
    rw [List.length_cons,List.range_succ_eq_map,List.map_cons,List.map_map,List.flatten_cons]
    rfl
   refine ⟨fun j=>match j with | 0=>m | j+1=>ms j,?_,?_,?_⟩
   ·rw [hP]
    exact ⟨c::qs,by rw [e,List.flatten_cons,List.flatten_cons,e2],.cons p1 hq⟩
   ·rw [hK,e,List.flatten_cons,zdg,e1,e3,kbl_app]
   ·rw [hK]
    exact zf0 o1 o3
def LsP (E m:Nat)(D:List TypeId)(l:List As)(v:Value):VA where
 p B u w:=u=v∧(OwnR B E m D l).p B u w
 deps:=E::D
 cg:=fun B u w w' hg h=>⟨h.1,(OwnR B E m D l).cg _ _ _ _ hg h.2⟩
 wr:=fun B u w w' g c T fz h1 h2 h3 h4 h=>⟨h.1,(OwnR B E m D l).wr _ _ _ _ _ _ _ _ h1 h2 h3 h4 h.2⟩
theorem lsp_ow {E m:Nat}{D:List TypeId}{l:List As}{v:Value}{n:Nat}(hn:l.length=n):Wk (LsP E m D l v) (OwV E m v n):=fun B u w ⟨h,_,_,ds,_,h4⟩=>by
 subst h hn
 exact ⟨rfl,ds,h4⟩
theorem lsp_sl {E m:Nat}{D:List TypeId}{l:List As}{v:Value}:Wk (LsP E m D l v) (SlA E D l).va:=fun B u w ⟨_,h⟩=>zl0 _ _ _ h
theorem St.nameLs {α:Type}{z:α}{AN:α→As}{AP:α→(Nat→Value)→As}{kx:α→(Nat→Value)→KL}(hs:∀ {x:α} {B:Nat} {cs:List Value} {w:World},(AN x).p B cs w→∃ m,(AP x m).p B cs w∧cbl cs=kbl (kx x m)∧OkK (kx x m))
  {B N:Nat} {w0:Bs} {Γ:List (Nat × VA)} {Λ:List Lc} {a:Act} {w:World} {s E m:Nat} {D:List TypeId} {q:Nat→Prop} {xs:List α} (hn:∀ x m',(AP x m').n=m) (hd:∀ x m',∀ T∈(AP x m').deps,T∈D) (h:St B w0 N Γ Λ a w) (k:Nat) (hm:Γ[k]?=some (s,LsQ q E m D (xs.map AN))) :
  ∃ v ms,(kbl (lsK z kx ms xs xs.length)).Nodup∧(∀ g∈kbl (lsK z kx ms xs xs.length),q g)∧OkK (lsK z kx ms xs xs.length)∧(∀ g,v.ownBlock=some g→q g)∧St B w0 N (Γ.set k (s,LsP E m D (lsP z AP ms xs) v)) Λ a w:=by
 obtain ⟨h1,h2,⟨ds,h3,h4,h5,h6⟩,h7⟩:=h.getG k hm
 obtain ⟨ms,p1,e1,o1⟩:=zrh (z:=z) hs h3
 refine ⟨a.eval (.tmp s),ms,by rw [← e1]; exact h5,fun g hg=>h6 g (by rw [e1]; exact hg),o1,h7,h.setG k hm fun _=>⟨rfl,zpr hn,zpr hd,ds,p1,?_⟩⟩
 rw [zmb]
 rw [List.length_map] at h4
 exact h4
def reO:RE:=⟨0,rf0,rf0⟩
def REN (x:RE):As:=cat [NumA .u8 x.k,RFN x.p,RFN x.q]
theorem new_ren {x:RE}:NewA (REN x):=zf1 fun A hA=>by
 simp at hA
 rcases hA with rfl | rfl | rfl
 ·exact zwg _ _
 ·exact zm4
 ·exact zm4
theorem free_ren {x:RE}:FreeA (REN x) (REN x):=zch (.cons (zeg _ _) (.cons zg5 (.cons zg5 .nil)))
theorem zy6 {k:IntKind}{n:Int}{B:Nat}{cs:List Value}{w:World}(h:(NumA k n).p B cs w):cbl cs=[]:=by
 have h':cs=[.int k n]:=h
 subst h'
 rfl
theorem zxu {x:RE}{B:Nat}{cs:List Value}{w:World}(h:(REN x).p B cs w):∃ m:Nat→Value,(EleP x m).p B cs w∧cbl cs=kbl (ke x m)∧OkK (ke x m):=by
 obtain ⟨ps,rfl,hp⟩:=h
 cases hp with
 | @cons _ c0 _ _ h0 hp=>cases hp with
  | @cons _ c1 _ _ h1 hp=>cases hp with
   | @cons _ c2 _ _ h2 hp =>
    cases hp
    obtain ⟨m1,m2,p1,e1,o1⟩:=ze5 h1
    obtain ⟨m3,m4,p2,e2,o2⟩:=ze5 h2
    refine ⟨nm4 m1 m2 m3 m4,⟨[c0,c1,c2],rfl,.cons h0 (.cons p1 (.cons p2 .nil))⟩,?_,zf0 o1 o2⟩
    have:([c0,c1,c2]:List (List Value)).flatten=c0++(c1++c2):=by simp
    rw [this,zdg,zdg,zy6 h0,e1,e2]
    exact kbl_app.symm
theorem elp_deps (x:RE)(m:Nat→Value):∀ T∈(EleP x m).deps,T∈[U32]:=fun T hT=>by
 have h:=List.all_eq_true.1 (show ((EleP x m).deps.all fun T=>[U32].contains T)=true by kernel_rfl) T hT
 simpa using h
theorem dis_cons {A:As}{l l':List As}(hA:∀ B cs w,A.p B cs w→cbl cs=[])(h:WkA (cat l) (DisA (cat l'))):WkA (cat (A::l)) (DisA (cat (A::l'))):=by
 refine ⟨?_,rfl,fun B cs w ⟨ps,e,hp⟩=>?_⟩
 ·have h1:=h.1
  show ((A::l').map (·.n)).sum=((A::l).map (·.n)).sum
  rw [List.map_cons,List.sum_cons,List.map_cons,List.sum_cons]
  exact congrArg (A.n + ·) h1
 ·cases hp with
  | @cons _ c _ ps h1 hp =>
   obtain ⟨⟨qs,e2,hq⟩,hn⟩:=h.2.2 B ps.flatten w ⟨ps,rfl,hp⟩
   subst e
   refine ⟨⟨c::qs,by rw [List.flatten_cons,List.flatten_cons,e2],.cons h1 hq⟩,?_⟩
   rw [List.flatten_cons,zdg,hA _ _ _ h1]
   exact hn
theorem ze3 {ms:Nat→Nat→Value}{xs:List RE}:∀ {i:Nat},(lsK reO ke ms xs i).length=4*i
 | 0=>rfl
 | i+1=>by rw [zo5,List.length_append,ze3]; simp only [List.length_append,List.length_cons,List.length_nil]; omega
theorem zls {ms:Nat→Nat→Value}{xs:List RE}{K:KL}{i:Nat}(hi:i<xs.length)(h:(kbl (K++lsK reO ke ms xs xs.length)).Nodup):(kbl ((K++lsK reO ke ms xs i)++ke (xs.getD i reO) (ms i))).Nodup:=by
 have key:∀ d,i+1+d=xs.length→(kbl (K++lsK reO ke ms xs (i+1))).Nodup:=fun d hd=>by
  have:∀ d n,(kbl (K++lsK reO ke ms xs (n+d))).Nodup→(kbl (K++lsK reO ke ms xs n)).Nodup:=fun d=>by
   induction d with
   | zero=>exact fun n h=>h
   | succ d ih=>exact fun n h=>ih n (by rw [← Nat.add_assoc,zo5,← List.append_assoc] at h; exact zl3 h)
  exact this d _ (by rw [hd]; exact h)
 have:=key (xs.length-(i+1)) zo
 rwa [zo5,← List.append_assoc] at this
theorem zwy {v:Value}{ms:Nat→Nat→Value}{xs:List RE}(K:KL)(Rs Es:VL)(hs:(kbl (K++lsK reO ke ms xs xs.length)).Nodup)(hv:∀ p∈Es,∀ g,p.1.ownBlock=some g→v.ownBlock≠some g)(hl:K.length+4*xs.length+Rs.length+Es.length≤999900):CK Tryz.prog 12 55 [55,97,95] (BkF (K) Rs Es) (BkF (K++lsK reO ke ms xs xs.length) Rs (Es++[(v,xs.length)])) [LsP 64 9 [U32] (lsP reO EleP ms xs) v] (Tu []):=by
 refine CK.intro Tryz.func12 rfl zk nq zk (fun B g w0 a hrm O=>?_)
 have O:=zn [(0,EqV ((ptrH).f g)),(1,LsP 64 9 [U32] (lsP reO EleP ms xs) v)] [⟨0,55,ptrH,BkF (K) Rs Es⟩] O
 refine wp_seq<|wp_seq<|zg [none] [] [.val 4 _] [.g 0,.g 1,.o 0] O (zv rfl (za1 za3) o0) (zz [(0,_),(1,_),(4,_)] [⟨0,55,ptrH,_⟩] fun a w O=>?_)
 refine za0<|wp_block ?_
 have O:=St.sel O [0,1,2]
 refine wp_loop_ghost (fun n a w=>∃ (i:Nat),n+i=xs.length∧St B w0 20 [(0,EqV (ptrH.f g)),(1,LsP 64 9 [U32] (lsP reO EleP ms xs) v),(4,In (i:Nat))] [⟨0,55,ptrH,BkF (K++lsK reO ke ms xs i) Rs Es⟩] a w) (xs.length) ?_ ?_
 ·exact ⟨0,by omega,St.cvA O 0 rfl (congrArg (fun k=>BkF k Rs Es) (show K=K++lsK reO ke ms xs 0 by rw [lsK_0,List.append_nil]))⟩
 intro n a w hI
 obtain ⟨i,hn,O⟩:=hI
 refine wp_seq<|wp_seq<|zg [none] [] [.val 5 _,.val 6 _,.val 7 _,.val 8 _] [.g 0,.g 1,.g 2,.o 3] O (zv rfl (za2 (gq 2 rfl)) (zv rfl (za2 (gq 1 rfl)) (zv rfl (zbq Tryz.underlying22 (has_wk' (vq 1 rfl) lsp_sl)) (zv rfl (zb6 (vq 0 rfl) (vq 2 rfl)) o0)))) (zz [(0,_),(1,_),(4,_),(8,_)] [⟨0,55,ptrH,_⟩] fun a w O=>?_)
 refine za0<|za9 O (zm 3 rfl) (fun hb0=>?_) (fun hb0=>?_)
 ·have hi:i<xs.length:=by have:=of_decide_eq_true hb0; rw [zmb] at this; omega
  refine wp_skip<|zt<|wp_block<|zc7 (sp:=[.val 11 _,.val 12 _,.val 13 _,.val 14 _,.val 15 _,.val 16 VT]) 5 1 99 5 OneC [.g 0,.g 1,.g 2,.o 0,.o 4] O (zv rfl (za2 (gq 0 rfl)) (zv rfl (za2 (gq 1 rfl)) (zv rfl (za2 (gq 2 rfl)) (zv rfl (zdv zgw (zpr fun _ _=>rfl) (has_wk' (vq 1 rfl) lsp_sl) (vq 2 rfl) (lsP_at hi)) (zv rfl (zaj (vq 3 rfl) zed) o0))))) rfl zd zk zk (zz [(0,_),(1,_),(4,_),(11,_),(15,_)] [⟨0,55,ptrH,_⟩] fun a w O=>?_)
  rw [show List.range' 5 1=[5] from rfl]
  rw [wpOps_cons]
  refine zd8 (A1:=BkF ((K++lsK reO ke ms xs i)++ke (xs.getD i reO) (ms i)) Rs Es) (xs:=[.tmp 15]) [0,1,2] [4] 0 rfl O (CK.wkT (zx0 (xs.getD i reO) (ms i) (K++lsK reO ke ms xs i) Rs Es (zls hi hs) (by rw [List.length_append,ze3]; omega)) zd) rfl (Eq.trans (b:=ptr g) (O.vals _ (zm 3 rfl)) (Eq.symm (O.vals _ (zm 0 rfl)))) (.cons ⟨_,rfl,rfl⟩ .nil) rfl hrm zd zk zk zk zk (fun a w O=>?_)
  refine zbs ?_
  have O:=zn [(16,_),(0,_),(1,_),(4,_)] [⟨0,55,ptrH,BkF ((K++lsK reO ke ms xs i)++ke (xs.getD i reO) (ms i)) Rs Es⟩] O
  refine zal ?_
  refine za0<|zg [none] [] [.val 9 _,.val 10 _,.val 4 _] [.g 1,.g 2,.o 2] O (zv rfl (za2 (gq 3 rfl)) (zv rfl (zbb (vq 0 rfl) za3 (zbc zo)) (zv rfl (za1 (vq 1 rfl)) o0))) (zz [(0,_),(1,_),(4,_)] [⟨0,55,ptrH,_⟩] fun a w O=>?_)
  refine za0 ?_
  have O:=St.sel O [0,1,2]
  exact ⟨n-1,by omega,i+1,by omega,St.cvA O 0 rfl (congrArg (fun k=>BkF k Rs Es) (show (K++lsK reO ke ms xs i)++ke (xs.getD i reO) (ms i)=K++lsK reO ke ms xs (i+1) by rw [zo5,List.append_assoc]))⟩
 ·obtain rfl:i=xs.length:=by have:=of_decide_eq_false hb0; rw [zmb] at this; omega
  refine wp_exit<|za8<|za8<|zat<|za0<|zc7 (sp:=[.val 17 _,.val 18 _,.val 19 VT]) 2 1 99 2 OneC [.g 0,.g 1,.o 0,.o 1] O (zv rfl (za2 (gq 0 rfl)) (zv rfl (za2 (has_wk' (gq 1 rfl) (lsp_ow zmb))) o0)) rfl zd zk zk (zz [(0,_),(1,_),(17,_),(18,_)] [⟨0,55,ptrH,_⟩] fun a w O=>?_)
  rw [show List.range' 2 1=[2] from rfl]
  rw [wpOps_cons]
  refine zd8 (A1:=BkF (K++lsK reO ke ms xs xs.length) Rs (Es++[(v,xs.length)])) (xs:=[.tmp 18]) [0,1] [3] 0 rfl O (CK.wkT (keepEF_c (K++lsK reO ke ms xs xs.length) Rs Es v xs.length hv (by rw [List.length_append,ze3]; omega)) zd) rfl (Eq.trans (b:=ptr g) (O.vals _ (zm 2 rfl)) (Eq.symm (O.vals _ (zm 0 rfl)))) (.cons ⟨_,rfl,rfl⟩ .nil) rfl hrm zd zk zk zk zk (fun a w O=>?_)
  refine zbs ?_
  have O:=zn [(19,_),(0,_),(1,_)] [⟨0,55,ptrH,BkF (K++lsK reO ke ms xs xs.length) Rs (Es++[(v,xs.length)])⟩] O
  refine zcs<|zgb O (zm 1 rfl) (zm 0 rfl) ?_
  exact zb1 (rs:=[]) rfl O .nil zd
end Go.Proofs.YtndjeibbjjpkfaaGreatDoor
namespace Go.Proofs.YtndjeibbjjpkfaaGreatDoor
open Go Go.RowKit
def TED (x:RE):As:=DisA (RET x)
theorem zwe {x:RE}:NewA (TED x):=zn5 (zf1 fun A hA=>by
 simp at hA
 rcases hA with rfl | rfl | rfl
 ·exact zwg _ _
 ·exact zpq
 ·exact zpq)
theorem free_ted {x:RE}:FreeA (TED x) (TED x):=zj4 (zry x)
theorem te_pins {u v:Value}{x:RE}:WkA (cat [NumA .u8 x.k,PinA u ((TFD x.p).and (SepAll [] u)),PinA v ((TFD x.q).and (SepAll [u] v))]) (TED x) :=
 (dis_cons (fun _ _ _ h=>zy6 h) (zj3 (l:=[(u,TFD x.p),(v,TFD x.q)]) (fun y hy=>by
  simp at hy
  rcases hy with rfl | rfl <;> exact zi1))).trans (zh9 (zc8 (.cons (.refl _) (.cons dis_wk (.cons dis_wk .nil)))))
theorem ret_ren {x:RE}:WkA (RET x) (REN x):=zc8 (.cons (.refl _) (.cons zvj (.cons zvj .nil)))
theorem ted_ren {x:RE}:WkA (TED x) (REN x):=dis_wk.trans ret_ren
theorem zso {l l':List As}(h:All2 WkA l l'){B:Nat}{ds:List Value}{w:World}(hp:(cat l).p B ds w):(cat l').p B ds w:=by
 obtain ⟨ps,e,hp⟩:=hp
 refine ⟨ps,e,?_⟩
 clear e
 induction h generalizing ps with
 | nil=>cases hp; exact .nil
 | cons h1 _ ih=>cases hp with | cons p1 p2=>exact .cons (h1.2.2 _ _ _ p1) (ih _ p2)
theorem zhd {l l':List As}(h:All2 WkA l l'):l'.length=l.length:=by
 induction h with
 | nil=>rfl
 | cons _ _ ih=>simp [ih]
theorem zym {l l':List As}{m:Nat}(h:All2 WkA l l')(hn:∀ A∈l,A.n=m):∀ A∈l',A.n=m:=by
 induction h with
 | nil=>exact fun A hA=>by cases hA
 | @cons X X' l l' h1 _ ih =>
  intro A hA
  rcases List.mem_cons.1 hA with rfl | hA
  ·rw [h1.1]; exact hn X (by simp)
  ·exact ih (fun A hA=>hn A (by simp [hA])) A hA
theorem own_mono {b E m:Nat}{D:List TypeId}{l l':List As}(h:All2 WkA l l')(hd:∀ A∈l',∀ T∈A.deps,T∈D):Wk (OwnR b E m D l) (OwnR b E m D l'):=fun B v w ⟨h1,h2,ds,h3,h4⟩ =>
 ⟨zym h h1,hd,ds,zso h h3,by rw [zhd h]; exact h4⟩
theorem zyl {l l':List As}{x:As}(h:All2 WkA l l'):All2 WkA (l++[x]) (l'++[x]):=by
 induction h with
 | nil=>exact .cons (.refl _) .nil
 | cons h1 _ ih=>exact .cons h1 ih
theorem zyt {E m:Nat}{D:List TypeId}{l l':List As}{x:As}(h:All2 WkA l l')(hd:∀ A∈l',∀ T∈A.deps,T∈D):Wk (TwS E m D l x) (TwS E m D l' x):=fun B v w ⟨g,c,h1,h2,h3⟩=>by
 have hx:∀ T∈x.deps,T∈D:=h3.2.1 x (by simp)
 refine ⟨g,c,by rw [zhd h]; exact h1,h2,?_⟩
 rw [zhd h]
 exact own_mono (zyl h) (fun A hA=>by
  rcases List.mem_append.1 hA with hA | hA
  ·exact hd A hA
  ·obtain rfl:=List.mem_singleton.1 hA; exact hx) _ _ _ h3
theorem ls_mono {q:Nat→Prop}{E m:Nat}{D:List TypeId}{l l':List As}(h:All2 WkA l l')(hd:∀ A∈l',∀ T∈A.deps,T∈D):Wk (LsQ q E m D l) (LsQ q E m D l'):=fun B v w ⟨h1,h2,⟨ds,h3,h4,h5⟩,h6⟩ =>
 ⟨zym h h1,hd,⟨ds,zso h h3,by rw [zhd h]; exact h4,h5⟩,h6⟩
theorem twS_own {E m:Nat}{D:List TypeId}{l:List As}{x:As}{B:Nat}{v:Value}{w:World}(h:(TwS E m D l x).p B v w):(OwnR B E m D l).p B v w:=by
 obtain ⟨g,c,h1,h2,h3,h4,ds,h5,h6,h7⟩:=h
 rcases h7 with ⟨h7,_⟩ | ⟨g',cap,cur,e1,e2,e3,e4,e5,e6,e7⟩
 ·cases h7
 ·injection e1 with eg _ e1
  injection eg with eg
  injection eg with eg
  subst eg e1 h1
  have hs:=(zou h3 h5 l.length).1
  rw [List.take_left] at hs
  have hl:(ds.take (l.length*m)).length=l.length*m:=by
   rw [(cat l).len _ _ _ hs,zyb fun A hA=>h3 A (by simp [hA])]
  refine ⟨fun A hA=>h3 A (by simp [hA]),fun A hA=>h4 A (by simp [hA]),ds.take (l.length*m),hs,hl,.inr ⟨g,c,cur,rfl,h2,e3,?_,e5,e6,?_⟩⟩
  ·rw [List.length_append] at e4
   exact Nat.le_of_lt e4
  ·rw [← e7,List.take_take,Nat.min_eq_left]
   rw [List.length_append]
   exact Nat.mul_le_mul_right m zo
theorem tws_d {α:Type}{E m:Nat}{D:List TypeId}{I:List (Nat × Nat)}{top:Nat}{xs:List α}{AD AT AN:α→As}{z:As}(hl:I.length=xs.length)(hs:Srt I top)(h1:∀ x,WkA (AD x) (AT x))(h2:∀ x,WkA (AD x) (AN x))(d1:∀ x,∀ T∈(AT x).deps,T∈D)(d2:∀ x,∀ T∈(AN x).deps,T∈D):Wk (TwS E m D (ivZ I (xs.map AD)) z) (andV (TwS E m D (xs.map AT) z) (LsN E m D (xs.map AN))):=fun B v w h=>by
 have hl':I.length=(xs.map AD).length:=by rw [List.length_map]; exact hl
 refine ⟨zyt ?_ (zdy d1) _ _ _ h,ls_mono (zm8 h2) (zdy d2) _ _ _ (own_lsn hl' hs (Nat.le_refl _) (twS_own h))⟩
 clear h hs hl'
 induction xs generalizing I with
 | nil=>cases I with | nil=>exact .nil | cons=>cases hl
 | cons x xs ih=>cases I with
  | nil=>cases hl
  | cons i I=>exact .cons (iv_wk.trans (h1 x)) (ih (by simpa using hl))
theorem iv_len {α:Type}{I:List (Nat × Nat)}{xs:List α}{j:Nat}{f:α→As}(h:I.length=j)(hj:j≤xs.length):I.length=((xs.take j).map f).length:=by rw [List.length_map,List.length_take,Nat.min_eq_left hj]; exact h
theorem zkh (x:RE)(hx:bdF x.p∧bdF x.q):Cn Tryz.prog 16 [(REA x).va] ((TED x).va):=by
 refine Cn.intro Tryz.func16 rfl zk nq (fun B w0 a O=>?_)
 have O:=zn [(0,(REA x).va)] [] O
 refine wp_seq<|zg [] [⟨1,64,ptrH,some 0,_,none⟩,⟨2,64,ptrH,some 1,_,none⟩] [.alc 0,.alc 1] [] O (oc (zan rfl rfl rfl (gq 0 rfl)) (oc (zaq rfl rfl rfl (Str.zero zfz)) o0)) (zz [] [⟨1,64,ptrH,_⟩,⟨2,64,ptrH,_⟩] fun a w O=>?_)
 refine zt<|go_drawV' [[],[0],[],[2],[2,3],[],[5],[2,3,4,5,6],[0,1,2,3,4,5,6,7],[0,1,2,3,4,5,6,7,8]] (sts:=[none,some (9,fun ν=>_)]) (news:=[]) (sp:=[(fun ν=>.adr 3 1 (.some 0) True),(fun ν=>.val 4 _),(fun ν=>.adr 5 1 (.some 1) True),(fun ν=>.val 6 _),(fun ν=>.val 7 (PinA (ν 4) ((TFD x.p).and (SepAll [] (ν 4)))).va),(fun ν=>.adr 8 1 (.some 5) True),(fun ν=>.val 9 _),(fun ν=>.val 10 (PinA (ν 7) ((TFD x.q).and (SepAll [ν 4] (ν 7)))).va),(fun ν=>.val 11 _),(fun ν=>.sto 1)]) [] za6 O ⟨of_u fun ν=>ob_a rfl rfl (za7 (lz0 0 rfl) zcw),⟨of_u fun ν=>ob_v rfl rfl (za4 0 rfl zk trivial (lz0 0 rfl) (Sub.part 0 rfl rfl) zgu),⟨of_u fun ν=>ob_a rfl rfl (za7 (lz0 0 rfl) zcd),⟨of_u fun ν=>ob_v rfl rfl (za4 2 rfl zk trivial (lz0 0 rfl) (Sub.part 1 rfl rfl) zad),⟨zej (us:=fun ν=>[]) (xs:=[.tmp 6]) rfl rfl (zja _ hx.1) zpn zrw (.cons (zkr _).va .nil) (fun ν=>(.cons (vq 3 rfl) .nil)) (fun _ _=>rfl) (fun ν=>zdp),⟨of_u fun ν=>ob_a rfl rfl (za7 (lz0 0 rfl) zcg),⟨of_u fun ν=>ob_v rfl rfl (za4 5 rfl zk trivial (lz0 0 rfl) (Sub.part 2 rfl rfl) zad),⟨zej (us:=fun ν=>[ν 4]) (xs:=[.tmp 9]) rfl rfl (zja _ hx.2) zpn zrw (.cons (zkr _).va .nil) (fun ν=>(.cons (vq 6 rfl) .nil)) (fun _ _=>rfl) (fun ν=>(zde (zel zpn) (vq 4 rfl) zdp)),⟨of_u fun ν=>ob_v rfl rfl (zb8 (xs:=[(0,.tmp 4),(1,.tmp 7),(2,.tmp 10)]) (qs:=[(0,_),(1,_),(2,_)]) zfz (.cons ⟨rfl,(vq 1 rfl),rfl⟩ (.cons ⟨rfl,(vq 4 rfl),rfl⟩ (.cons ⟨rfl,(vq 7 rfl),rfl⟩ .nil)))),⟨of_u fun ν=>zac rfl rfl rfl (vq 8 rfl) zed (Eq.trans (b:=9) rfl rfl),trivial⟩⟩⟩⟩⟩⟩⟩⟩⟩⟩ ⟨(fun ν ν' h=>rfl),⟨(fun ν ν' h=>rfl),⟨(fun ν ν' h=>rfl),⟨(fun ν ν' h=>rfl),⟨(fun ν ν' h=>by first | rfl | simp only [h 4 rfl]),⟨(fun ν ν' h=>rfl),⟨(fun ν ν' h=>rfl),⟨(fun ν ν' h=>by first | rfl | simp only [h 4 rfl,h 7 rfl]),⟨(fun ν ν' h=>by first | rfl | simp only [h 4 rfl,h 7 rfl]),⟨(fun ν ν' h=>by first | rfl | simp only [h 4 rfl,h 7 rfl]),trivial⟩⟩⟩⟩⟩⟩⟩⟩⟩⟩ ⟨trivial,⟨(fun ν ν' h=>by first | rfl | simp only [h 4 rfl,h 7 rfl]),trivial⟩⟩ zk zk (fun ν=>by kernel_rfl) (fun ν=>by kernel_rfl) (fun ν1 a w O=>?_)
 have O:=zn [] [⟨1,64,ptrH,_⟩,⟨2,64,ptrH,_⟩] O
 refine za0<|wp_ret<|zae ?_ (zak rfl O (zm 1 rfl) zed)
 exact te_pins.va
theorem zjb (xs:List RE)(hl:xs.length≤10000000)(hx:bdLElements xs):Cn Tryz.prog 6 [(SlA 64 [U32] (xs.map REA)).va] (andV (TwS 64 9 [U32] (xs.map RET) (REA ⟨77,rf0,rf0⟩)) (LsN 64 9 [U32] (xs.map REN))):=by
 obtain ⟨it,z,e1,e2,e3,e4,e5⟩:=zkn
 refine Cn.introW Tryz.func6 rfl zk nq (.cons (zp3 (zdy zj9)).va .nil) (zxb (free_twS (zrf (zdy zry) zxa)) (free_ls (zdy fun _=>free_ren))) (fun B w0 a hB0 O=>?_)
 have O:=zn [(0,(SlO 64 [U32] (xs.map REA) True).va)] [] O
 refine wp_seq<|zh [.val 2 _] [.g 0,.o 0] O (zv rfl (za1 zbp) o0) (zz [(0,_),(2,_)] [] fun a w O=>?_)
 refine zt<|zh [.val 5 _,.val 6 _,.val 7 (In ((xs.length+1:Nat):Int)),.val 8 (OwnR w0.w.heap.size 64 9 [U32] []),.val 3 _] [.g 0,.o 4] O (zv rfl (za2 (gq 0 rfl)) (zv rfl (zbq Tryz.underlying22 (zd1 (zaz (vq 0 rfl)))) (zv rfl (zbb (vq 1 rfl) za3 (wi_lm zo)) (zv rfl (r_makeR Tryz.underlying22 e1 e2 e3 e4 e5 zd zd (Nat.le_of_eq hB0) za3 (vq 2 rfl) zo) (zv rfl (za1 (vq 3 rfl)) o0))))) (fun a w O=>?_)
 have O:=St.addSz O 9999
 obtain ⟨top0,et0⟩:∃ t,w.heap.size=t:=⟨_,rfl⟩
 rw [et0] at O
 have O:=zn [(0,_),(3,_),(9999,_)] [] O
 refine zt<|wp_seq<|zh [.val 4 _] [.g 0,.g 1,.g 2,.o 0] O (zv rfl (za1 za3) o0) (zz [(0,_),(3,_),(9999,_),(4,_)] [] fun a w O=>?_)
 refine za0<|wp_block ?_
 have O:=St.sel O [0,1,3,2]
 refine wp_loop_ghost (fun n a w=>∃ (j:Nat) (I:List (Nat × Nat)) (top:Nat),(n+j=xs.length∧I.length=j∧Srt I top)∧St B w0 30 [(0,(SlO 64 [U32] (xs.map REA) True).va),(3,OwnR w0.w.heap.size 64 9 [U32] (ivZ I ((xs.take j).map TED))),(4,In (j:Nat)),(9999,SzV top)] [] a w) (xs.length) ?_ ?_
 ·exact ⟨0,[],top0,⟨by omega,rfl,srt_nil⟩,O⟩
 intro n a w hI
 obtain ⟨j,I,top,⟨hn,hIl,hS⟩,O⟩:=hI
 refine wp_seq<|wp_seq<|zh [.val 9 _,.val 10 _,.val 11 _,.val 12 _] [.g 0,.g 1,.g 2,.g 3,.o 3] O (zv rfl (za2 (gq 2 rfl)) (zv rfl (za2 (gq 0 rfl)) (zv rfl (zbq Tryz.underlying22 (zd1 (zaz (vq 1 rfl)))) (zv rfl (zb6 (vq 0 rfl) (vq 2 rfl)) o0)))) (zz [(0,_),(3,_),(4,_),(9999,_),(12,_)] [] fun a w O=>?_)
 refine za0<|za9 O (zm 4 rfl) (fun hb0=>?_) (fun hb0=>?_)
 ·have hj:j<xs.length:=by simp at hb0; omega
  refine wp_skip<|zt<|wp_block ?_
  obtain ⟨ht0,O⟩:=St.newSz O 3 rfl
  obtain ⟨h1,eh1⟩:∃ h1,w.heap.size=h1:=⟨_,rfl⟩
  rw [eh1] at O ht0
  have O:=zn [(0,_),(3,_),(4,_),(9999,_),(12,_)] [] O
  refine zmo (sp:=[.val 15 _,.val 16 _,.val 17 _,.val 18 _,.val 19 _,.val 20 _,.val 21 _,.val 22 VT,.val 3 VT]) 7 [0,2,3] 0 6 O (zv rfl (za2 (gq 1 rfl)) (zv rfl (za2 (gq 0 rfl)) (zv rfl (za2 (gq 2 rfl)) (zv rfl (zdv zgw (zie fun _=>rfl) (zd1 (zaz (vq 1 rfl))) (vq 2 rfl) (zfb hj)) (zv rfl (zaj (vq 3 rfl) zed) (zv rfl (zzx (h:=h1) (s:=9999) (zkh xs[j] (hx _ (List.getElem_mem hj))) zwe zi1 free_ted (.cons (zj9 _).va .nil) (.cons (vq 4 rfl) .nil) (gq 3 rfl)) (zv rfl (zcy (D:=[U32]) (l:=[_]) (xs:=[.tmp 20]) (zff zk) zgw zk (n_ok zk) nq nq nq (.cons (vq 5 rfl) .nil) rfl rfl) o0))))))) rfl zk rfl rfl zd rfl zd rfl (fun _ _ h _=>h) Tryz.underlying22 e1 e2 e3 e4 e5 zd (by rw [zpw (iv_len hIl zo)]; simp only [List.length_map,List.length_take,List.length_singleton]; omega) zd (fun T hT=>hT) zd (fun A hA=>by obtain rfl:=List.mem_singleton.1 hA; rfl) zk nq nq zk zk (zz [(3,_),(0,_),(4,_),(9999,_)] [] fun a w O=>?_)
  have O:=St.setG (A':=OwnR w0.w.heap.size 64 9 [U32] (ivZ I ((xs.take j).map TED)++[IvA h1 w.heap.size (TED xs[j])])) O 0 rfl (own_up zwe)
  obtain ⟨hq,O⟩:=St.newSz O 3 rfl
  obtain ⟨h2,eh2⟩:∃ h2,w.heap.size=h2:=⟨_,rfl⟩
  rw [eh2] at O hq
  have O:=zn [(3,_),(0,_),(4,_),(9999,_)] [] O
  refine zal ?_
  refine za0<|zh [.val 13 _,.val 14 _,.val 4 _] [.g 0,.g 1,.g 3,.o 2] O (zv rfl (za2 (gq 2 rfl)) (zv rfl (zbb (vq 0 rfl) za3 (zbc zo)) (zv rfl (za1 (vq 1 rfl)) o0))) (zz [(3,_),(0,_),(9999,_),(4,_)] [] fun a w O=>?_)
  refine za0 ?_
  have O:=St.sel O [1,0,3,2]
  exact ⟨n-1,by omega,j+1,I++[(h1,h2)],h2,⟨by omega,by rw [List.length_append,hIl]; rfl,srt_add hS ht0 hq⟩,St.wkG (A':=OwnR w0.w.heap.size 64 9 [U32] (ivZ (I++[(h1,h2)]) ((xs.take (j+1)).map TED))) O 1 rfl (zbt (congrArg (OwnR w0.w.heap.size 64 9 [U32]) ((ivZ_add (iv_len hIl zo)).trans (congrArg (ivZ _) (row_nx hj)))))⟩
 ·obtain rfl:j=xs.length:=by simp at hb0; omega
  refine wp_exit<|za8<|za8<|zat<|zt ?_
  have hIl2:(ivZ I (xs.map TED)).length=xs.length:=by rw [zpw (by rw [List.length_map]; exact hIl),List.length_map]
  have O:=St.wkG (A':=OwnR w0.w.heap.size 64 9 [U32] (ivZ I (xs.map TED))) O 1 rfl (zbt (by rw [List.take_length]))
  refine go_appSl (sp:=[.val 23 _,.val 24 _,.val 25 _,.val 26 VT,.val 27 VT,.val 28 VT,.val 29 VT,.val 2 VT]) 3 [] 0 2 O (zv rfl (za2 (gq 1 rfl)) (zv rfl (zb8 (xs:=[(0,.const (.int .u8 77))]) (qs:=[(0,_)]) zfz (.cons ⟨rfl,za3,rfl⟩ .nil)) (zv rfl (zcy (D:=[U32]) (l:=[REA ⟨77,rf0,rf0⟩]) (xs:=[.tmp 24]) (zff zk) zgw zk (n_ok zk) nq nq nq (.cons (vq 1 rfl) .nil) rfl rfl) (o0)))) rfl zk rfl rfl rfl rfl rfl 0 rfl (fun B u w h=>by have h2:=sl_len B u w h; rw [List.length_map] at h2; rw [hIl2]; exact h2) zk zd rfl zd rfl (fun _ _ h _=>h) Tryz.underlying22 e1 e2 e3 e4 e5 zd (by rw [hIl2]; omega) zd (fun T hT=>hT) zd zk zd nq nq nq nq nq zk zk (zz [(2,_)] [] fun a w O=>?_)
  refine za0<|wp_ret<|zae ?_ (zag rfl O (zm 0 rfl))
  exact tws_d hIl hS (fun _=>dis_wk) (fun _=>ted_ren) (fun _=>ziu zk) (fun _=>ziu zk)
end Go.Proofs.YtndjeibbjjpkfaaGreatDoor
