import Derived.Test.YtckfapioofbfpaaGreatDoorBwAe
import Derived.ChangeArms
import Derived.Laws.Strings
import Derived.WideShapes
set_option linter.all false
set_option maxRecDepth 100000
namespace Go.Proofs.YtckfapioofbfpaaGreatDoor
open Go Go.RowKit
variable {w:World}{B:Nat}{a:Act}{v:Value}{T:TypeId}{w0:Bs}{Γ:List (Nat × VA)}{Λ:List Lc}{ps:String}{af:Array Edge}{vr:Value}{H:Hd}{cs:List Value}{w':World}{P:Program}{D:List TypeId}
deriving instance DecidableEq for RPt
deriving instance DecidableEq for RTk
def PtT (x:RPt):As:=cat [EqA (.string x.nm),RET x.e,InA x.c]
theorem Hr {x:RPt}:WkA (PtT x) (PtA x):=bi (.cons (.refl _) (.cons Hq (.cons (.refl _) .nil)))
theorem ua:FreeA (EqA v) (EqA v):=⟨rfl,rfl,λ _ _ _ _ _ h=>h⟩
theorem ER (x:RPt):FreeA (PtT x) (PtT x):=bI (.cons ua (.cons (EQ _) (.cons (cq _ _) .nil)))
theorem BV:FreeA (REA ⟨0,rf0,rf0⟩) (REA ⟨0,rf0,rf0⟩):=bI (.cons (cq _ _) (.cons r8 (.cons r8 .nil)))
theorem BX:FreeA (PtA ⟨⟨#[]⟩,⟨0,rf0,rf0⟩,7777⟩) (PtA ⟨⟨#[]⟩,⟨0,rf0,rf0⟩,7777⟩):=bI (.cons ua (.cons BV (.cons (cq _ _) .nil)))
theorem wN:FreeA (RFA ⟨⟨true,[]⟩,⟨false,[]⟩⟩) (RFA ⟨⟨true,[]⟩,⟨false,[]⟩⟩):=bI (.cons (bI (.cons (dT _) (.cons lI .nil))) (.cons (bI (.cons (dT _) (.cons lI .nil))) .nil))
theorem LY {x y:RPt}:((decide (x.nm=y.nm)&&decide (x.e=y.e))&&(x.c==y.c))=decide (x=y):=by
 obtain ⟨a,b,c⟩:=x;obtain ⟨d,e,f⟩:=y;by_cases h1:a=d <;> by_cases h2:b=e <;> by_cases h3:c=f <;> simp [h1,h2,h3]
section
open Rg
variable {P:Program}{Q:Exit→Act→World→Prop}{R:Rg}{B i:Nat}{w0:Bs}
theorem CN (p q:ByteArray):(p.toList==q.toList)=decide (p=q):=by
 rw [jk,xr,qK];exact ⟨λ h=>Go.WideShapes.bytes_inj (by rw [← ByteArray.toList_eq,← ByteArray.toList_eq,h]),λ h=>h▸rfl⟩
theorem Gf {x y:Yj}{xt yt:Yh}{p q:ByteArray}(hx:Has R B w0 i x (EqA (.string p)).va)(hy:Has R B w0 i y (EqA (.string q)).va):Wv P Q R B w0 i (.binOp .eql xt x y yt) (Bo (decide (p=q))) :=
 bj λ _ _ _ _ _ a w av=>by
  have e1:=lh (hx a w av);have e2:=lh (hy a w av);exact ⟨.bool (decide (p=q)),w,(by simp [execOp,e1,e2,eqGuard,binOp,Op.stringOp,CN]),Grow.refl w,dw _ _ _⟩
end
theorem uP (x:RPt)(hx:bdF x.e.p∧bdF x.e.q):Cn Tryz.prog 103 [(PtA x).va] ((PtT x).va):=by
 refine Cn.intro Tryz.func103 G zk nq (zy [(0,(PtA x).va)] λ B w0 a U=>?_);refine qb<|zg [] [zpL 1 93 0 _,zpL 2 93 1 _] UQ [] U (zW 0 G (zY G (Str.zero dY) o0)) (zz [] [O 1 93 _,O 2 93 _] λ a w U=>?_);refine zt<|zgd [[],[0],[],[2],[2,3],[],[5],(Wm 7),(Wm 8)] [none,some (8,_)] [] (.adr 3 1 (.some 0) True::.v 4 _::.adr 5 1 (.some 1) True::(W6 6 (.adr 8 1 (.some 10) True::(W6 9 [.sto 1])))) [] ac U (zO 0 G dK (zL 0 0 0 G ty_9 (zO 0 G eh (zL 2 0 1 G gf (zQ G (nK _ hx) (.o (vq 3 G)) (zO 0 G dr (zL 5 0 2 G ty_3 (zv G (aS (qs:=[(0,_),(1,_),(2,_)]) dY (.cons ⟨rfl,vq 1 rfl,rfl⟩ (.cons ⟨rfl,vq 4 rfl,rfl⟩ (.cons ⟨rfl,vq 6 rfl,rfl⟩ .nil)))) (zS 7 G gI o0))))))))) zk zk zk zk (zz [] [O 1 93 _,O 2 93 _] λ a w U=>?_);refine aa<|qi<|am ?_ (ax G U (zm 1 G) gI);exact aM
theorem wF (x y:RPt)(hx:bdF x.e.p∧bdF x.e.q):Cn Tryz.prog 172 [(PtT x).va,(PtA y).va] (Bo (decide (x=y))):=by
 refine Cn.intro Tryz.func172 G zk nq (zy [(0,(PtT x).va),(1,(PtA y).va)] λ B w0 a U=>?_);refine qb<|zg [] [zpL 2 93 0 _,zpL 3 93 1 _] Uz U9 U (zW 0 G (zW 1 G (zE G aJ))) (zz U0 [O 2 93 _,O 3 93 _] ?_);refine ztA<|zgA UC [] (.adr 5 2 (.some 0) True::.v 6 _::.adr 7 3 (.some 0) True::(Wb 8 (.adr 11 2 (.some 1) (_=true)::.t 12 _::.adr 13 3 (.some 1) (_=true)::.t 14 _::.t 15 _::(W6 16 [.adr 18 2 (.some 10) (_=true),.t 19 _,.adr 20 3 (.some 10) (_=true),.t 21 _,.t 22 _,.v 23 _,.v 4 _])))) [.o 19] (zO 0 G dK (zL 0 0 0 G ty_9 (zO 1 G dK (zL 2 1 0 G ty_9 (zv G (Gf (vq 1 G) (vq 3 G)) (zV 4 G (zC 5 0 G eh (zB 5 G (λ hg=>aC 6 G zk hg (lz0 0 G) (Sub.part 1 G G) gf) (zC 5 1 G eh (zB 5 G (λ hg=>aC 8 G zk hg (lz0 1 G) (Sub.part 1 G G) gf) (zB 5 G (λ hg=>ba (ot _ _ hx) (.p (ae (vq 7 G) hg) (ae (vq 9 G) hg))) (zv G (bE (vq 5 G) (vq 10 G)) (zV 11 G (zC 12 0 G dr (zB 12 G (λ hg=>aC 13 G zk hg (lz0 0 G) (Sub.part 2 G G) ty_3) (zC 12 1 G dr (zB 12 G (λ hg=>aC 15 G zk hg (lz0 1 G) (Sub.part 2 G G) ty_3) (zB 12 G (λ hg=>bF (ae (vq 14 G) hg) (ae (vq 16 G) hg)) (zv G (bE (vq 12 G) (vq 17 G)) (zA 18 G o0)))))))))))))))))))) (zz U0 [O 2 93 _,O 3 93 _] λ a w U=>?_);refine aa<|qi<|am ?_ (ak G U (zm 0 G));exact bf (qt Bo LY)
theorem sT:∃ it z,Tryz.prog.info? 28=some it∧it.zero=some z∧it.size=4∧it.bytes=64∧z.cells.size=4:=by
 have h:((Tryz.prog.info? 28).bind λ it=>it.zero.map λ z=>(it.size,it.bytes,z.cells.size))=some (4,64,4):=by kernel_rfl
 cases hi:Tryz.prog.info? 28 with
 | none=>rw [hi] at h;simp at h
 | some it =>
  rw [hi] at h;cases hz:it.zero with
  | none=>simp [hz] at h
  | some z =>
   simp [hz] at h;exact ⟨it,z,rfl,hz,h.1,h.2.1,h.2.2⟩
abbrev oV (xs:List RF):Prop:=∀ x∈xs,bdF x
theorem rL (xs:List RF)(hl:xs.length≤10000000)(hx:oV xs):Cn Tryz.prog 19 [(SlA 28 [U32] (xs.map RFA)).va] (TwS 28 4 [U32] (xs.map RFT) (RFA ⟨⟨true,[]⟩,⟨false,[]⟩⟩)):=by
 obtain ⟨it,z,e1,e2,e3,e4,e5⟩:=sT;refine Cn.introW Tryz.func19 G zk nq (.cons (iG (fq gH)).va .nil) (u7 (lE (fq oD) wN)) (λ B w0 a hB0 U=>?_);have U:=zn [(0,(SlO 28 [U32] (xs.map RFA) True).va)] [] U;refine qb<|zh Ux UZ U (zE G b9) (zz R1 [] ?_);refine ztA<|zhA (W6 5 [.v 7 (In ((xs.length+1:Nat):Int)),.v 8 (OwnR w0.w.heap.size 28 4 [U32] []),.v 3 _]) Uw (zM 0 G (zv G (bn qQ (bu (aB (vq 0 G)))) (zv G (aL (vq 1 G) ab (D2 zo)) (zv G (Al qQ e1 e2 e3 e4 e5 zd zd (xK hB0) ab (vq 2 G) zo) (zA 3 G o0))))) (zz UK [] ?_);refine ztA<|zsA<|zhA WP WQ (zE G ab) (zz (Wa 0 3 4) [] λ a w U=>?_);refine aa<|qk ?_;have U:=St.sel U [0,1,2];refine wp_loop_ghost (λ n a w=>∃ j:Nat,(n+j=xs.length)∧St B w0 31 [(0,(SlO 28 [U32] (xs.map RFA) True).va),(3,OwnR w0.w.heap.size 28 4 [U32] ((xs.take j).map RFT)),(4,In (j:Nat))] [] a w) (xs.length) ?_ ?_
 ·exact ⟨0,by omega,U⟩
 intro n a w hI;obtain ⟨j,hn,U⟩:=hI;refine qb<|qb<|zh (Ww 9) WT U (zM 2 G (zM 0 G (zv G (bn qQ (bu (aB (vq 1 G)))) (zv G (aO (vq 0 G) (vq 2 G)) o0)))) (zz (Wf 0 3 4 12) [] λ a w U=>?_);refine zJ 3 U G (λ hb0=>?_) (λ hb0=>?_)
 ·have hj:j<xs.length:=by simp at hb0;omega
  refine qj<|zt<|qk<|mq (sp:=[.v 15 _,.v 16 _,.v 17 _,.v 18 _,.v 19 _,.v 20 _,.v 21 _,.v 22 VT,.v 3 VT]) 7 [0,2] 0 6 U (zM 1 rfl (zM 0 rfl (zM 2 rfl (zv rfl (bM db (cc λ _=>rfl) (bu (aB (vq 1 rfl))) (vq 2 rfl) (bG hj)) (zv rfl (ap (vq 3 rfl) au) (zQ rfl (fJ xs[j] (hx _ (qg hj))) (.o (vq 4 rfl)) (zv rfl (bW (D:=[U32]) (l:=[_]) (xs:=[.tmp 20]) (dh zk) db zk (n_ok zk) nq nq nq (.o (vq 5 rfl)) rfl rfl) o0))))))) rfl zk rfl rfl zd rfl zd rfl (λ _ _ h _=>h) qQ e1 e2 e3 e4 e5 zd (by simp only [qd,qX,z8];omega) zd (λ T hT=>hT) zd (λ A hA=>by obtain rfl:=ql.1 hA;rfl) zk nq nq zk zk (zz (Wa 3 0 4) [] λ a w U=>?_);refine al ?_;refine aa<|zh (W6 13 [.v 4 _]) WY U (zM 2 G (zv G (aL (vq 0 G) ab (aU zo)) (zA 1 G o0))) (zz (Wa 3 0 4) [] λ a w U=>?_);refine aa ?_;have U:=St.sel U [1,0,2];exact ⟨n-1,by omega,j+1,by omega,St.wkG (A':=OwnR w0.w.heap.size 28 4 [U32] ((xs.take (j+1)).map RFT)) U 1 G (bf (qt (OwnR w0.w.heap.size 28 4 [U32]) (G9 hj)))⟩
 ·obtain rfl:j=xs.length:=by simp at hb0;omega
  refine qP<|ai<|ai<|az<|zt ?_;have U:=St.wkG (A':=OwnR w0.w.heap.size 28 4 [U32] (xs.map RFT)) U 1 rfl (bf (by rw [qJ]));refine u3 (sp:=[.v 23 _,.v 24 _,.v 25 _,.v 26 _,.v 27 VT,.v 28 VT,.v 29 VT,.v 30 VT,.v 2 VT]) 4 [] 0 3 U (zM 1 rfl (zv rfl (aS (qs:=[(0,_)]) br (.cons ⟨rfl,aJ,rfl⟩ .nil)) (zv rfl (aS (qs:=[(0,_)]) aQ (.cons ⟨rfl,vq 1 rfl,rfl⟩ .nil)) (zv rfl (bW (D:=[U32]) (l:=[RFA ⟨⟨true,[]⟩,⟨false,[]⟩⟩]) (xs:=[.tmp 25]) (dh zk) db zk (n_ok zk) nq nq nq (.o (vq 2 rfl)) rfl rfl) (o0))))) rfl zk rfl rfl rfl rfl rfl 0 rfl (λ B u w h=>by have h2:=G4 B u w h;rw [qd] at h2;rw [qd];exact h2) zk zd rfl zd rfl (λ _ _ h _=>h) qQ e1 e2 e3 e4 e5 zd (by rw [qd];omega) zd (λ T hT=>hT) zd zk zd nq nq nq nq nq zk zk (zz Uu [] λ a w U=>?_);refine aa<|qi<|am ?_ (ak G U (zm 0 G));exact aM
theorem sf (xs ys:List RF)(hl:ys.length≤10000000)(hx:oV xs):Cn Tryz.prog 94 [TwS 28 4 [U32] (xs.map RFT) (RFA ⟨⟨true,[]⟩,⟨false,[]⟩⟩),(SlA 28 [U32] (ys.map RFA)).va] (Bo (decide (xs=ys))):=by
 refine Cn.intro Tryz.func94 G zk nq (zy [(0,TwS 28 4 [U32] (xs.map RFT) (RFA ⟨⟨true,[]⟩,⟨false,[]⟩⟩)),(1,(SlA 28 [U32] (ys.map RFA)).va)] λ B w0 a U=>?_);obtain ⟨g,c,U⟩:=St.exK U 0 rfl;have hcap:=rM (U.vals (0,_) (zm 0 rfl));rw [qd] at hcap;refine qb<|zh WP WQ U (zE G aJ) (zz WR [] ?_);refine ztA<|zsA<|zhA (Wl 7 [.f 13 _,.f 14 _,.f 15 _,.f 16 _,.f 17 _,.v 18 _]) (W7 [.o 11]) (zM 0 G (zv G (bn qQ (has_wk' (vq 0 G) pm)) (zM 1 G (zv G (bn qQ (vq 2 G)) (zv G (c9 (vq 1 G) (vq 3 G)) (zV 4 G (zB 5 G (λ hg=>aA (gq 0 G)) (zB 5 G (λ hg=>Gg qQ (ae (vq 6 G) hg)) (zB 5 G (λ hg=>aA (gq 1 G)) (zB 5 G (λ hg=>bn qQ (ae (vq 8 G) hg)) (zB 5 G (λ hg=>ll (ae (vq 7 G) hg) (ae (vq 9 G) hg)) (zv G (r_or (vq 5 G) (vq 10 G)) o0)))))))))))) (zz (Wf 0 1 4 18) [] λ a w U=>?_);refine zJ 3 U G (λ hb0=>?_) (λ hb0=>?_)
 ·refine qb<|zh WP WQ U (zE G aJ) (zz WR [] λ a w U=>?_);refine aa<|qi<|aj ?_;refine am ?_ (ak G U (zm 2 G));exact bf (qt Bo (Bw hcap.1 hb0))
 ·have hlen:=Bx hb0;refine qj<|zt<|qb<|zh UU WX U (zE G ab) (zz WU [] λ a w U=>?_);refine aa<|qk ?_;have U:=St.sel U [0,1,3];refine wp_loop_ghost (λ n a w=>∃ j:Nat,(n+j=ys.length∧xs.take j=ys.take j)∧St B w0 59 [(0,TwK g c 28 4 [U32] (xs.map RFT) (RFA ⟨⟨true,[]⟩,⟨false,[]⟩⟩)),(1,(SlA 28 [U32] (ys.map RFA)).va),(5,In (j:Nat))] [] a w) (ys.length) ?_ ?_
  ·exact ⟨0,⟨by omega,rfl⟩,U⟩
  intro n a w hI;obtain ⟨j,⟨hn,ht⟩,U⟩:=hI;refine qb<|qb<|zh (Ww 19) WT U (zM 2 G (zM 1 G (zv G (bn qQ (vq 1 G)) (zv G (aO (vq 0 G) (vq 2 G)) o0)))) (zz (Wf 0 1 5 22) [] λ a w U=>?_);refine zJ 3 U G (λ hb1=>?_) (λ hb1=>?_)
  ·have hj2:j<ys.length:=by rw [qd] at hb1;simp at hb1;omega
   have hj:j<xs.length:=by omega
   refine qj<|zt<|qk<|qb<|zgd [[],[],[0,1],[0,1,2],[],[],[4,5],[4,5,6],(Wm 8),(Wm 9)] [] [] (Wn 25) (W7 [.o 9]) ac U (zM 0 G (zM 2 G (zv G (bM db (cc λ _=>rfl) (has_wk' (vq 0 G) pm) (vq 1 G) (bG hj)) (zv G (ap (vq 2 G) au) (zM 1 G (zM 2 G (zv G (bM db (cc λ _=>rfl) (vq 4 G) (vq 5 G) (bG hj2)) (zv G (ap (vq 6 G) au) (zQ G (fU xs[j] ys[j] (hx _ (qg hj))) (.p (vq 3 G) (vq 7 G)) (zv G (er (vq 8 G)) o0)))))))))) zk zk zk zk (zz (Wf 0 1 5 34) [] λ a w U=>?_);refine zJ 3 U G (λ hb2=>?_) (λ hb2=>?_)
   ·refine qb<|zh WP WX U (zE G aJ) (zz (Wf 0 1 5 4) [] λ a w U=>?_);refine aa<|qi<|aD ?_;refine aj ?_;refine aj ?_;refine aD ?_;refine aj ?_;refine am ?_ (ak G U (zm 3 G));exact bf (qt Bo (td hj2 hj hb2))
   ·refine qj<|al ?_;refine aa<|zh (W6 23 [.v 5 _]) WY U (zM 2 G (zv G (aL (vq 0 G) ab (aU zo)) (zA 1 G o0))) (zz (Wa 0 1 5) [] λ a w U=>?_);refine aa ?_;have U:=St.sel U [0,1,2];exact ⟨n-1,by omega,j+1,⟨by omega,te hj2 hj ht hb2⟩,U⟩
  ·obtain rfl:j=ys.length:=by rw [qd] at hb1;simp at hb1;omega
   refine qP<|ai<|ai<|az<|zt<|zg [] [⟨6,28,ptrH,some 9,_,some (10,_)⟩] (Wo 35 [.alc 0,.sto 0]) [] U (zM 0 G (zM 1 G (zv G (bn qQ (vq 1 G)) (zv G (aL (vq 2 G) ab (D2 zo)) (zv G (Ak db (vq 0 G) (has_wk' (vq 3 G) (bf (qt (λ k:Nat=>In ((k+1:Nat):Int)) (hlen.symm.trans (qd ..).symm))))) (zM 1 G (zv G (bn qQ (vq 5 G)) (zv G (bM db (lE (fq λ _=>rfl) G) (vq 4 G) (has_wk' (vq 6 G) (bf (qt (λ k:Nat=>In (k:Int)) (qd ..)))) (k:=ys.length) (by rw [List.getElem?_append_right (by rw [qd];omega),qd,hlen,jb];rfl)) (zv G (ap (vq 7 G) au) (zY G (Str.zero aQ) (zS 8 G au o0))))))))))) (zz [] [O 6 28 _] λ a w U=>?_);refine zt<|zg U3 [] (.adr 44 6 (.some 0) True::.adr 45 6 (.some (0+0)) True::(W6 46 [.adr 48 6 (.some 0) (_=true),.adr 49 6 (.some (0+1)) (_=true),.t 50 _,.t 51 _,.adr 52 6 (.some 2) (_=true),.adr 53 6 (.some (2+1)) (_=true),.t 54 _,.t 55 _,.t 56 _,.t 57 _,.v 58 _,.v 4 _])) [.o 15] U (zO 0 G aV (oc (ob_a G G (eE 0 G zk trivial (lz0 0 G) aT)) (zv G (aC 1 G zk trivial (lz0 0 G) (Sub.trans (Sub.part 0 G G) (Sub.part 0 G G) G) ty_4) (zV 2 G (zC 3 0 G aV (oc (IW G G G (vq 3 G) nq (λ hg=>eE 4 G zk hg (lz0 0 G) aq)) (zB 3 G (λ hg=>aC 5 G zk hg (lz0 0 G) (Sub.trans (Sub.part 0 G G) (Sub.part 1 G G) G) aW) (zB 3 G (λ hg=>aH qc (ae (vq 6 G) hg)) (zC 3 0 G aR (oc (IW G G G (vq 3 G) nq (λ hg=>eE 8 G zk hg (lz0 0 G) aq)) (zB 3 G (λ hg=>aC 9 G zk hg (lz0 0 G) (Sub.trans (Sub.part 1 G G) (Sub.part 1 G G) G) aW) (zB 3 G (λ hg=>aH qc (ae (vq 10 G) hg)) (zB 3 G (λ hg=>aL (ae (vq 7 G) hg) (ae (vq 11 G) hg) (G)) (zB 3 G (λ hg=>bF (ae (vq 12 G) hg) ab) (zv G (bE (vq 3 G) (vq 13 G)) (zA 14 G o0)))))))))))))))) (zz U0 [O 6 28 _] λ a w U=>?_);refine aa<|qi<|am ?_ (ak G U (zm 0 G));have e:xs=ys:=by rw [qD zo,qJ] at ht;exact ht
   refine bf (qt Bo ?_);rw [qE e];rfl
theorem sS:∃ it z,Tryz.prog.info? 93=some it∧it.zero=some z∧it.size=11∧it.bytes=160∧z.cells.size=11:=by
 have h:((Tryz.prog.info? 93).bind λ it=>it.zero.map λ z=>(it.size,it.bytes,z.cells.size))=some (11,160,11):=by kernel_rfl
 cases hi:Tryz.prog.info? 93 with
 | none=>rw [hi] at h;simp at h
 | some it =>
  rw [hi] at h;cases hz:it.zero with
  | none=>simp [hz] at h
  | some z =>
   simp [hz] at h;exact ⟨it,z,rfl,hz,h.1,h.2.1,h.2.2⟩
abbrev oU (xs:List RPt):Prop:=∀ x∈xs,bdF x.e.p∧bdF x.e.q
theorem rK (xs:List RPt)(hl:xs.length≤10000000)(hx:oU xs):Cn Tryz.prog 20 [(SlA 93 [U32] (xs.map PtA)).va] (TwS 93 11 [U32] (xs.map PtT) (PtA ⟨⟨#[]⟩,⟨0,rf0,rf0⟩,7777⟩)):=by
 obtain ⟨it,z,e1,e2,e3,e4,e5⟩:=sS;refine Cn.introW Tryz.func20 G zk nq (.cons (iG (fq yq)).va .nil) (u7 (lE (fq ER) BX)) (λ B w0 a hB0 U=>?_);have U:=zn [(0,(SlO 93 [U32] (xs.map PtA) True).va)] [] U;refine qb<|zh Ux UZ U (zE G b9) (zz R1 [] ?_);refine ztA<|zhA (W6 5 [.v 7 (In ((xs.length+1:Nat):Int)),.v 8 (OwnR w0.w.heap.size 93 11 [U32] []),.v 3 _]) Uw (zM 0 G (zv G (bn qM (bu (aB (vq 0 G)))) (zv G (aL (vq 1 G) ab (D2 zo)) (zv G (Al qM e1 e2 e3 e4 e5 zd zd (xK hB0) ab (vq 2 G) zo) (zA 3 G o0))))) (zz UK [] ?_);refine ztA<|zsA<|zhA WP WQ (zE G ab) (zz (Wa 0 3 4) [] λ a w U=>?_);refine aa<|qk ?_;have U:=St.sel U [0,1,2];refine wp_loop_ghost (λ n a w=>∃ j:Nat,(n+j=xs.length)∧St B w0 30 [(0,(SlO 93 [U32] (xs.map PtA) True).va),(3,OwnR w0.w.heap.size 93 11 [U32] ((xs.take j).map PtT)),(4,In (j:Nat))] [] a w) (xs.length) ?_ ?_
 ·exact ⟨0,by omega,U⟩
 intro n a w hI;obtain ⟨j,hn,U⟩:=hI;refine qb<|qb<|zh (Ww 9) WT U (zM 2 G (zM 0 G (zv G (bn qM (bu (aB (vq 1 G)))) (zv G (aO (vq 0 G) (vq 2 G)) o0)))) (zz (Wf 0 3 4 12) [] λ a w U=>?_);refine zJ 3 U G (λ hb0=>?_) (λ hb0=>?_)
 ·have hj:j<xs.length:=by simp at hb0;omega
  refine qj<|zt<|qk<|mq (sp:=[.v 15 _,.v 16 _,.v 17 _,.v 18 _,.v 19 _,.v 20 _,.v 21 _,.v 22 VT,.v 3 VT]) 7 [0,2] 0 6 U (zM 1 rfl (zM 0 rfl (zM 2 rfl (zv rfl (bM fg (cc λ _=>rfl) (bu (aB (vq 1 rfl))) (vq 2 rfl) (bG hj)) (zv rfl (ap (vq 3 rfl) gI) (zQ rfl (uP xs[j] (hx _ (qg hj))) (.o (vq 4 rfl)) (zv rfl (bW (D:=[U32]) (l:=[_]) (xs:=[.tmp 20]) (dh zk) fg zk (n_ok zk) nq nq nq (.o (vq 5 rfl)) rfl rfl) o0))))))) rfl zk rfl rfl zd rfl zd rfl (λ _ _ h _=>h) qM e1 e2 e3 e4 e5 zd (by simp only [qd,qX,z8];omega) zd (λ T hT=>hT) zd (λ A hA=>by obtain rfl:=ql.1 hA;rfl) zk nq nq zk zk (zz (Wa 3 0 4) [] λ a w U=>?_);refine al ?_;refine aa<|zh (W6 13 [.v 4 _]) WY U (zM 2 G (zv G (aL (vq 0 G) ab (aU zo)) (zA 1 G o0))) (zz (Wa 3 0 4) [] λ a w U=>?_);refine aa ?_;have U:=St.sel U [1,0,2];exact ⟨n-1,by omega,j+1,by omega,St.wkG (A':=OwnR w0.w.heap.size 93 11 [U32] ((xs.take (j+1)).map PtT)) U 1 G (bf (qt (OwnR w0.w.heap.size 93 11 [U32]) (G9 hj)))⟩
 ·obtain rfl:j=xs.length:=by simp at hb0;omega
  refine qP<|ai<|ai<|az<|zt ?_;have U:=St.wkG (A':=OwnR w0.w.heap.size 93 11 [U32] (xs.map PtT)) U 1 rfl (bf (by rw [qJ]));refine u3 (sp:=[.v 23 _,.v 24 _,.v 25 _,.v 26 VT,.v 27 VT,.v 28 VT,.v 29 VT,.v 2 VT]) 3 [] 0 2 U (zM 1 rfl (zv rfl (aS (qs:=[(2,_)]) dY (.cons ⟨rfl,ab,rfl⟩ .nil)) (zv rfl (bW (D:=[U32]) (l:=[PtA ⟨⟨#[]⟩,⟨0,rf0,rf0⟩,7777⟩]) (xs:=[.tmp 24]) (dh zk) fg zk (n_ok zk) nq nq nq (.o (vq 1 rfl)) rfl rfl) (o0)))) rfl zk rfl rfl rfl rfl rfl 0 rfl (λ B u w h=>by have h2:=G4 B u w h;rw [qd] at h2;rw [qd];exact h2) zk zd rfl zd rfl (λ _ _ h _=>h) qM e1 e2 e3 e4 e5 zd (by rw [qd];omega) zd (λ T hT=>hT) zd zk zd nq nq nq nq nq zk zk (zz Uu [] λ a w U=>?_);refine aa<|qi<|am ?_ (ak G U (zm 0 G));exact aM
theorem se (xs ys:List RPt)(hl:ys.length≤10000000)(hx:oU xs):Cn Tryz.prog 95 [TwS 93 11 [U32] (xs.map PtT) (PtA ⟨⟨#[]⟩,⟨0,rf0,rf0⟩,7777⟩),(SlA 93 [U32] (ys.map PtA)).va] (Bo (decide (xs=ys))):=by
 refine Cn.intro Tryz.func95 G zk nq (zy [(0,TwS 93 11 [U32] (xs.map PtT) (PtA ⟨⟨#[]⟩,⟨0,rf0,rf0⟩,7777⟩)),(1,(SlA 93 [U32] (ys.map PtA)).va)] λ B w0 a U=>?_);obtain ⟨g,c,U⟩:=St.exK U 0 rfl;have hcap:=rM (U.vals (0,_) (zm 0 rfl));rw [qd] at hcap;refine qb<|zh WP WQ U (zE G aJ) (zz WR [] ?_);refine ztA<|zsA<|zhA (Wl 7 [.f 13 _,.f 14 _,.f 15 _,.f 16 _,.f 17 _,.v 18 _]) (W7 [.o 11]) (zM 0 G (zv G (bn qM (has_wk' (vq 0 G) pm)) (zM 1 G (zv G (bn qM (vq 2 G)) (zv G (c9 (vq 1 G) (vq 3 G)) (zV 4 G (zB 5 G (λ hg=>aA (gq 0 G)) (zB 5 G (λ hg=>Gg qM (ae (vq 6 G) hg)) (zB 5 G (λ hg=>aA (gq 1 G)) (zB 5 G (λ hg=>bn qM (ae (vq 8 G) hg)) (zB 5 G (λ hg=>ll (ae (vq 7 G) hg) (ae (vq 9 G) hg)) (zv G (r_or (vq 5 G) (vq 10 G)) o0)))))))))))) (zz (Wf 0 1 4 18) [] λ a w U=>?_);refine zJ 3 U G (λ hb0=>?_) (λ hb0=>?_)
 ·refine qb<|zh WP WQ U (zE G aJ) (zz WR [] λ a w U=>?_);refine aa<|qi<|aj ?_;refine am ?_ (ak G U (zm 2 G));exact bf (qt Bo (Bw hcap.1 hb0))
 ·have hlen:=Bx hb0;refine qj<|zt<|qb<|zh UU WX U (zE G ab) (zz WU [] λ a w U=>?_);refine aa<|qk ?_;have U:=St.sel U [0,1,3];refine wp_loop_ghost (λ n a w=>∃ j:Nat,(n+j=ys.length∧xs.take j=ys.take j)∧St B w0 47 [(0,TwK g c 93 11 [U32] (xs.map PtT) (PtA ⟨⟨#[]⟩,⟨0,rf0,rf0⟩,7777⟩)),(1,(SlA 93 [U32] (ys.map PtA)).va),(5,In (j:Nat))] [] a w) (ys.length) ?_ ?_
  ·exact ⟨0,⟨by omega,rfl⟩,U⟩
  intro n a w hI;obtain ⟨j,⟨hn,ht⟩,U⟩:=hI;refine qb<|qb<|zh (Ww 19) WT U (zM 2 G (zM 1 G (zv G (bn qM (vq 1 G)) (zv G (aO (vq 0 G) (vq 2 G)) o0)))) (zz (Wf 0 1 5 22) [] λ a w U=>?_);refine zJ 3 U G (λ hb1=>?_) (λ hb1=>?_)
  ·have hj2:j<ys.length:=by rw [qd] at hb1;simp at hb1;omega
   have hj:j<xs.length:=by omega
   refine qj<|zt<|qk<|qb<|zgd [[],[],[0,1],[0,1,2],[],[],[4,5],[4,5,6],(Wm 8),(Wm 9)] [] [] (Wn 25) (W7 [.o 9]) ac U (zM 0 G (zM 2 G (zv G (bM fg (cc λ _=>rfl) (has_wk' (vq 0 G) pm) (vq 1 G) (bG hj)) (zv G (ap (vq 2 G) gI) (zM 1 G (zM 2 G (zv G (bM fg (cc λ _=>rfl) (vq 4 G) (vq 5 G) (bG hj2)) (zv G (ap (vq 6 G) gI) (zQ G (wF xs[j] ys[j] (hx _ (qg hj))) (.p (vq 3 G) (vq 7 G)) (zv G (er (vq 8 G)) o0)))))))))) zk zk zk zk (zz (Wf 0 1 5 34) [] λ a w U=>?_);refine zJ 3 U G (λ hb2=>?_) (λ hb2=>?_)
   ·refine qb<|zh WP WX U (zE G aJ) (zz (Wf 0 1 5 4) [] λ a w U=>?_);refine aa<|qi<|aD ?_;refine aj ?_;refine aj ?_;refine aD ?_;refine aj ?_;refine am ?_ (ak G U (zm 3 G));exact bf (qt Bo (td hj2 hj hb2))
   ·refine qj<|al ?_;refine aa<|zh (W6 23 [.v 5 _]) WY U (zM 2 G (zv G (aL (vq 0 G) ab (aU zo)) (zA 1 G o0))) (zz (Wa 0 1 5) [] λ a w U=>?_);refine aa ?_;have U:=St.sel U [0,1,2];exact ⟨n-1,by omega,j+1,⟨by omega,te hj2 hj ht hb2⟩,U⟩
  ·obtain rfl:j=ys.length:=by rw [qd] at hb1;simp at hb1;omega
   refine qP<|ai<|ai<|az<|zt<|zg [] [⟨6,93,ptrH,some 9,_,some (10,_)⟩] (Wo 35 [.alc 0,.sto 0]) [] U (zM 0 G (zM 1 G (zv G (bn qM (vq 1 G)) (zv G (aL (vq 2 G) ab (D2 zo)) (zv G (Ak fg (vq 0 G) (has_wk' (vq 3 G) (bf (qt (λ k:Nat=>In ((k+1:Nat):Int)) (hlen.symm.trans (qd ..).symm))))) (zM 1 G (zv G (bn qM (vq 5 G)) (zv G (bM fg (lE (fq λ _=>rfl) G) (vq 4 G) (has_wk' (vq 6 G) (bf (qt (λ k:Nat=>In (k:Int)) (qd ..)))) (k:=ys.length) (by rw [List.getElem?_append_right (by rw [qd];omega),qd,hlen,jb];rfl)) (zv G (ap (vq 7 G) gI) (zY G (Str.zero dY) (zS 8 G gI o0))))))))))) (zz [] [O 6 93 _] λ a w U=>?_);refine zt<|zg U3 [] (.adr 44 6 (.some 10) True::(W6 45 [.v 4 _])) UG U (zO 0 G dr (zL 0 0 2 G ty_3 (zv G (bF (vq 1 G) ab) (zA 2 G o0)))) (zz U0 [O 6 93 _] λ a w U=>?_);refine aa<|qi<|am ?_ (ak G U (zm 0 G));have e:xs=ys:=by rw [qD zo,qJ] at ht;exact ht
   refine bf (qt Bo ?_);rw [qE e];rfl
def TwA (E:TypeId)(m:Nat)(D:List TypeId)(l:List As)(x:As):As where
 n:=1
 ag:=false
 p B cs w:=∃ v,cs=[v]∧(TwS E m D l x).p B v w
 deps:=E::D
 len:=by rintro B cs w ⟨v,rfl,_⟩;rfl
 one:=by
  rintro B cs w ⟨v,rfl,g,c,h1,_⟩ u hu;obtain rfl:=ql.1 hu;rw [h1];rfl
 ag1:=λ _=>rfl
 cg:=λ B cs w w' hg ⟨v,h1,h2⟩=>⟨v,h1,(TwS E m D l x).cg _ _ _ _ hg h2⟩
 wr:=λ B cs w w' g c T fz q1 q2 q3 q4 ⟨v,h1,h2⟩=>⟨v,h1,(TwS E m D l x).wr _ _ _ _ _ _ _ _ q1 q2 q3 q4 h2⟩
theorem Lg {E:Yh}{m:Nat}{l:Yb}{x:As}:Wk (TwS E m D l x) (TwA E m D l x).va:=λ B v w h=>⟨[v],⟨v,rfl,h⟩,rfl⟩
theorem Lh {E:Yh}{m:Nat}{l:Yb}{x:As}:Wk (TwA E m D l x).va (TwS E m D l x):=λ B v w ⟨cs,⟨u,h1,h2⟩,h3⟩=>by
 subst h1;have e:v=u:=h3;subst e;exact h2
theorem twA_wkA {E:Yh}{m:Nat}{l:Yb}{x:As}:WkA (TwA E m D l x) (SlA E D l):=⟨rfl,rfl,λ B cs w ⟨v,h1,h2⟩=>by
 subst h1;obtain ⟨cs',h3,h4⟩:=Lf B v w h2;have l2:=(SlA E D l).len _ _ _ h3
 match cs',l2 with
 | [c],_ =>
  have e:v=c:=h4;subst e;exact h3⟩
def TkT (t:RTk):As:=cat [TwA 28 4 [U32] (t.sp.map RFT) (RFA ⟨⟨true,[]⟩,⟨false,[]⟩⟩),TwA 93 11 [U32] (t.ps.map PtT) (PtA ⟨⟨#[]⟩,⟨0,rf0,rf0⟩,7777⟩),RFT t.tg]
theorem tkT_A {t:RTk}:WkA (TkT t) (TkA t):=bi (.cons (twA_wkA.trans (Dr (oi λ x=>nI) (fq (p:=λ A=>∀ T∈A.deps,T∈[U32]) λ x=>tJ zk))) (.cons (twA_wkA.trans (Dr (oi λ x=>Hr) (fq (p:=λ A=>∀ T∈A.deps,T∈[U32]) λ x=>tJ zk))) (.cons nI .nil)))
structure bdTk (t:RTk):Prop where
 l1:t.sp.length≤10000000
 l2:t.ps.length≤10000000
 b1:oV t.sp
 b2:oU t.ps
 b3:bdF t.tg
theorem Ln {x y:RTk}:((decide (x.sp=y.sp)&&decide (x.ps=y.ps))&&decide (x.tg=y.tg))=decide (x=y):=by
 obtain ⟨a,b,c⟩:=x;obtain ⟨d,e,f⟩:=y;by_cases h1:a=d <;> by_cases h2:b=e <;> by_cases h3:c=f <;> simp [h1,h2,h3]
theorem uO (t:RTk)(ht:bdTk t):Cn Tryz.prog 6 [(TkA t).va] ((TkT t).va):=by
 refine Cn.intro Tryz.func6 G zk nq (zy [(0,(TkA t).va)] λ B w0 a U=>?_);refine qb<|zg [] [zpL 1 30 0 _,zpL 2 30 1 _] UQ [] U (zW 0 G (zY G (Str.zero gN) o0)) (zz [] [O 1 30 _,O 2 30 _] λ a w U=>?_);refine zt<|zgd [[],[0],[0,1],[],[3],(Wm 5),[],[6],(Wm 8),(Wm 9),(Wm 10)] [none,some (10,_)] [] (.adr 3 1 (.some 0) True::(W6 4 (.adr 6 1 (.some 1) True::(W6 7 (.adr 9 1 (.some 2) True::(Wb 10 [.sto 1])))))) [] ac U (zO 0 G ca (zL 0 0 0 G fc (zQ G (rL t.sp ht.l1 ht.b1) (.o (vq 1 G)) (zO 0 G bK (zL 3 0 1 G dW (zQ G (rK t.ps ht.l2 ht.b2) (.o (vq 4 G)) (zO 0 G ek (zL 6 0 2 G au (zQ G (fJ _ ht.b3) (.o (vq 7 G)) (zv G (aS (qs:=[(0,TwA 28 4 [U32] (t.sp.map RFT) (RFA ⟨⟨true,[]⟩,⟨false,[]⟩⟩)),(1,TwA 93 11 [U32] (t.ps.map PtT) (PtA ⟨⟨#[]⟩,⟨0,rf0,rf0⟩,7777⟩)),(2,RFT t.tg)]) gN (.cons ⟨rfl,(has_wk' (vq 2 G) Lg),rfl⟩ (.cons ⟨rfl,(has_wk' (vq 5 G) Lg),rfl⟩ (.cons ⟨rfl,vq 8 rfl,rfl⟩ .nil)))) (zS 9 G cU o0))))))))))) zk zk zk zk (zz [] [O 1 30 _,O 2 30 _] λ a w U=>?_);refine aa<|qi<|am ?_ (ax G U (zm 1 G) cU);exact aM
theorem wD (x y:RTk)(hx:bdTk x)(hy:bdTk y):Cn Tryz.prog 14 [(TkT x).va,(TkA y).va] (Bo (decide (x=y))):=by
 refine Cn.intro Tryz.func14 G zk nq (zy [(0,(TkT x).va),(1,(TkA y).va)] λ B w0 a U=>?_);refine qb<|zg [] [zpL 2 30 0 _,zpL 3 30 1 _] Uz U9 U (zW 0 G (zW 1 G (zE G aJ))) (zz U0 [O 2 30 _,O 3 30 _] ?_);refine ztA<|zgA UC [] (.adr 5 2 (.some 0) True::.v 6 _::.adr 7 3 (.some 0) True::(Wb 8 (.adr 11 2 (.some 1) (_=true)::.t 12 _::.adr 13 3 (.some 1) (_=true)::.t 14 _::.t 15 _::(W6 16 [.adr 18 2 (.some 2) (_=true),.t 19 _,.adr 20 3 (.some 2) (_=true),.t 21 _,.t 22 _,.v 23 _,.v 4 _])))) [.o 19] (zO 0 G ca (zL 0 0 0 G fc (zO 1 G ca (zL 2 1 0 G fc (zQ G (sf x.sp y.sp hy.l1 hx.b1) (.p (has_wk' (vq 1 G) Lh) (vq 3 G)) (zV 4 G (zC 5 0 G bK (zB 5 G (λ hg=>aC 6 G zk hg (lz0 0 G) (Sub.part 1 G G) dW) (zC 5 1 G bK (zB 5 G (λ hg=>aC 8 G zk hg (lz0 1 G) (Sub.part 1 G G) dW) (zB 5 G (λ hg=>ba (se x.ps y.ps hy.l2 hx.b2) (.p (has_wk' (ae (vq 7 G) hg) Lh) (ae (vq 9 G) hg))) (zv G (bE (vq 5 G) (vq 10 G)) (zV 11 G (zC 12 0 G ek (zB 12 G (λ hg=>aC 13 G zk hg (lz0 0 G) (Sub.part 2 G G) au) (zC 12 1 G ek (zB 12 G (λ hg=>aC 15 G zk hg (lz0 1 G) (Sub.part 2 G G) au) (zB 12 G (λ hg=>ba (fU _ _ hx.b3) (.p (ae (vq 14 G) hg) (ae (vq 16 G) hg))) (zv G (bE (vq 12 G) (vq 17 G)) (zA 18 G o0)))))))))))))))))))) (zz U0 [O 2 30 _,O 3 30 _] λ a w U=>?_);refine aa<|qi<|am ?_ (ak G U (zm 0 G));exact bf (qt Bo Ln)
theorem Ej {b:Nat}{E:Yh}{m:Nat}{l:Yb}(h1:∀ A∈l,A.n=m)(h2:∀ A∈l,∀ T∈A.deps,T∈D)(h3:l.length≤1000):Wk (NewR b E l) (OwnR b E m D l):=λ B v w ⟨g,ds,e1,e2,e3,e4⟩=>by
 have hl:ds.length=l.length*m:=by
  rw [(cat l).len _ _ _ e4];have:=tE h1 (qh l.length);unfold offs at this;rw [qJ] at this;exact this
 refine ⟨h1,h2,ds,e4,by simp [hl],.inr ⟨g,l.length,ds.toArray,e1,e2,e3,qh _,by unfold maxLen;omega,by simp [hl],by rw [← hl];simp⟩⟩
theorem O4 {t:RTk}{l:Ya}{j:Nat}(h:j<l.length):benW t (l.take (j+1))=benW t (l.take j)++[(t.ps.getD l[j] ⟨⟨#[]⟩,⟨0,rf0,rf0⟩,0⟩).e,spE (t.sp.getD (j+1) rf0)]:=by
 rw [qA h];unfold benW;rw [rB,qx,qX,xc zo];simp
theorem PY (t:RTk):benW t []=[spE (t.sp.getD 0 rf0)]:=rfl
theorem PN {t:RTk}(h:ckF t=0){j:Nat}(hj:j<t.sp.length):okX t.sp[j]=true:=by
 have h2:=qe.1 (gh h).2.1 _ (qg hj);unfold spcF at h2;simp only [qz,qN,qm] at h2;by_cases h3:okX t.sp[j]=true
 ·exact h3
 ·have:=h2.1;rw [qy h3] at this;exact absurd this zd
theorem uI (t:RTk)(l:Ya):(benW t l).length=2*l.length+1:=by
 unfold benW;rw [qx,uJ];rfl
def oP (x:RE):Int:=IntKind.i64.wrap (dB x.p+dB x.q)
def frsF (n:Int):List RF→Int
 | []=>n
 | x::xs=>if decide (n≤1048576) then frsF (IntKind.i64.wrap (n+dB x)) xs else n
theorem N4 {n:Int}{l:List RF}{j:Nat}(h:j<l.length)(h2:n≤1048576):frsF n (l.drop j)=frsF (IntKind.i64.wrap (n+dB l[j])) (l.drop (j+1)):=by
 rw [qG h,frsF,qC (qE h2)]
theorem JX {n:Int}{l:List RF}{j:Nat}(h:¬ (j<l.length∧n≤1048576)):frsF n (l.drop j)=n:=by
 by_cases hj:j<l.length
 ·rw [qG hj,frsF,qy (by simpa using λ hh=>h ⟨hj,hh⟩)]
 ·rw [zq zo];rfl
def ptc (n:Int)(x:RPt):Int:=IntKind.i64.wrap (IntKind.i64.wrap (n+(x.nm.size:Nat))+oP x.e)
def ptsF (n:Int):List RPt→Int
 | []=>n
 | x::xs=>if decide (n≤1048576) then ptsF (ptc n x) xs else n
theorem LX {n:Int}{l:List RPt}{j:Nat}(h:j<l.length)(h2:n≤1048576):ptsF n (l.drop j)=ptsF (ptc n l[j]) (l.drop (j+1)):=by
 rw [qG h,ptsF,qC (qE h2)]
theorem IB {n:Int}{l:List RPt}{j:Nat}(h:¬ (j<l.length∧n≤1048576)):ptsF n (l.drop j)=n:=by
 by_cases hj:j<l.length
 ·rw [qG hj,ptsF,qy (by simpa using λ hh=>h ⟨hj,hh⟩)]
 ·rw [zq zo];rfl
def tkcF (t:RTk):Int:=IntKind.i64.wrap (IntKind.i64.wrap (frsF (t.sp.length:Nat) t.sp+ptsF (t.ps.length:Nat) t.ps)+dB t.tg)
theorem Fi (x:RE):Cn Tryz.prog 100 [(REA x).va] (In (oP x)):=by
 refine Cn.intro Tryz.func100 G zk nq (zy [(0,(REA x).va)] λ B w0 a U=>?_);refine qb<|zg [] [zpL 1 91 0 _] Us Ut U (zW 0 G (zE G ab)) (zz Uu Rx λ a w U=>?_);refine zt<|zgd Rq U1 [] (.adr 3 1 (.some 1) True::(W6 4 (.adr 6 1 (.some 5) True::(Wb 7 [.v 2 _])))) [.o 7] ac U (zO 0 G c6 (zL 0 0 1 G au (zQ G (fV _) (.o (vq 1 G)) (zO 0 G cu (zL 3 0 2 G au (zQ G (fV _) (.o (vq 4 G)) (zv G (aL (vq 2 G) (vq 5 G) (G)) (zA 6 G o0)))))))) zk zk zk zk (zz Uu Rx λ a w U=>?_);refine aa<|qi<|am ?_ (ak G U (zm 0 G));exact aM
theorem BU (xs:List RF):Cn Tryz.prog 16 [(SlA 28 [U32] (xs.map RFA)).va] (In (frsF (xs.length:Nat) xs)):=by
 refine Cn.intro Tryz.func16 G zk nq (zy [(0,(SlA 28 [U32] (xs.map RFA)).va)] λ B w0 a U=>?_);have hl:=fO (U.vals (0,(SlA 28 [U32] (xs.map RFA)).va) (zm 0 rfl));refine qb<|zh Ux UZ U (zE G ab) (zz R1 [] ?_);refine ztA<|zhA (W6 5 [.v 3 _]) WY (zM 0 G (zv G (bn qQ (vq 0 G)) (zA 1 G o0))) (zz Rt [] ?_);refine ztA<|zsA<|zhA WP WX (zE G ab) (zz (Wf 0 2 3 4) [] λ a w U=>?_);refine aa<|qk ?_;have U:=St.sel U [0,2,3];refine wp_loop_ghost (λ n a w=>∃ (j:Nat) (m:Int),(n+j=xs.length∧frsF (xs.length:Nat) xs=frsF m (xs.drop j))∧St B w0 25 [(0,(SlA 28 [U32] (xs.map RFA)).va),(3,In m),(4,In (j:Nat))] [] a w) (xs.length) ?_ ?_
 ·exact ⟨0,(xs.length:Nat),⟨by omega,rfl⟩,by rw [qd] at U;exact U⟩
 intro n a w hI;obtain ⟨j,m,⟨hn,hm⟩,U⟩:=hI;refine qb<|qb<|zh (Wd 7 [.t 12 _,.t 13 _,.v 14 _]) (W7 [.o 7]) U (zM 2 G (zM 0 G (zv G (bn qQ (vq 1 G)) (zv G (aO (vq 0 G) (vq 2 G)) (zV 3 G (zB 4 G (λ hg=>aA (gq 1 G)) (zB 4 G (λ hg=>ll (ae (vq 5 G) hg) ab) (zv G (bE (vq 4 G) (vq 6 G)) o0)))))))) (zz (Wf 0 3 4 14) [] λ a w U=>?_);refine zJ 3 U G (λ hb0=>?_) (λ hb0=>?_)
 ·rw [qo,qK,qK,qd] at hb0;have hj:j<xs.length:=by omega
  have hm0:=hb0.2;refine qj<|zt<|qk<|zh (WG 17 [.v 3 _]) [.g 0,.g 2,.o 7] U (zM 1 G (zM 0 G (zM 2 G (zv G (bM db (cc λ _=>rfl) (vq 1 G) (vq 2 G) (bG hj)) (zv G (ap (vq 3 G) au) (zQ G (fV _) (.o (vq 4 G)) (zv G (aL (vq 0 G) (vq 5 G) (G)) (zA 6 G o0)))))))) (zz (Wa 0 4 3) [] λ a w U=>?_);refine al ?_;refine aa<|zh (W6 15 [.v 4 _]) [.g 0,.g 2,.o 2] U (zM 1 G (zv G (aL (vq 0 G) ab (D1 hj hl)) (zA 1 G o0))) (zz (Wa 0 3 4) [] λ a w U=>?_);refine aa ?_;have U:=St.sel U [0,1,2];exact ⟨n-1,by omega,j+1,_,⟨by omega,hm.trans (N4 hj hm0)⟩,U⟩
 ·have hnj:¬ (j<xs.length∧m≤1048576):=by rintro ⟨h1,h2⟩;rw [qd,qE (by omega:(j:Int)<(xs.length:Int)),qE h2] at hb0;exact absurd hb0 zd
  refine qP<|ai<|ai<|az<|zt<|zh [.v 24 _,.v 2 _] Ut U (zM 1 G (zA 0 G o0)) (zz Uu [] λ a w U=>?_);refine aa<|qi<|am ?_ (ak G U (zm 0 G));exact bf (qt In (hm.trans (JX hnj)).symm)
theorem AD (xs:List RPt):Cn Tryz.prog 17 [(SlA 93 [U32] (xs.map PtA)).va] (In (ptsF (xs.length:Nat) xs)):=by
 refine Cn.intro Tryz.func17 G zk nq (zy [(0,(SlA 93 [U32] (xs.map PtA)).va)] λ B w0 a U=>?_);have hl:=fO (U.vals (0,(SlA 93 [U32] (xs.map PtA)).va) (zm 0 rfl));refine qb<|zh Ux UZ U (zE G ab) (zz R1 [] ?_);refine ztA<|zhA (W6 5 [.v 3 _]) WY (zM 0 G (zv G (bn qM (vq 0 G)) (zA 1 G o0))) (zz Rt [] ?_);refine ztA<|zsA<|zhA WP WX (zE G ab) (zz (Wf 0 2 3 4) [] λ a w U=>?_);refine aa<|qk ?_;have U:=St.sel U [0,2,3];refine wp_loop_ghost (λ n a w=>∃ (j:Nat) (m:Int),(n+j=xs.length∧ptsF (xs.length:Nat) xs=ptsF m (xs.drop j))∧St B w0 33 [(0,(SlA 93 [U32] (xs.map PtA)).va),(3,In m),(4,In (j:Nat))] [] a w) (xs.length) ?_ ?_
 ·exact ⟨0,(xs.length:Nat),⟨by omega,rfl⟩,by rw [qd] at U;exact U⟩
 intro n a w hI;obtain ⟨j,m,⟨hn,hm⟩,U⟩:=hI;refine qb<|qb<|zh (Wd 7 [.t 12 _,.t 13 _,.v 14 _]) (W7 [.o 7]) U (zM 2 G (zM 0 G (zv G (bn qM (vq 1 G)) (zv G (aO (vq 0 G) (vq 2 G)) (zV 3 G (zB 4 G (λ hg=>aA (gq 1 G)) (zB 4 G (λ hg=>ll (ae (vq 5 G) hg) ab) (zv G (bE (vq 4 G) (vq 6 G)) o0)))))))) (zz (Wf 0 3 4 14) [] λ a w U=>?_);refine zJ 3 U G (λ hb0=>?_) (λ hb0=>?_)
 ·rw [qo,qK,qK,qd] at hb0;have hj:j<xs.length:=by omega
  have hm0:=hb0.2;refine qj<|zt<|qk<|zgd [[],[],[],[1,2],[1,2,3],[1,2,3,4],[1,2,3,4,5],(Wm 7),[],[],[8,9],[8,9,10],[8,9,10,11],[8,9,10,11,12],(Wm 14),(Wm 15)] [] [] (WH 17 [.v 3 _]) [.g 0,.g 2,.o 15] ac U (zM 1 G (zM 0 G (zM 2 G (zv G (bM fg (cc λ _=>rfl) (vq 1 G) (vq 2 G) (bG hj)) (zv G (bP (vq 3 G) dK (Sub.part 0 G G)) (zv G (ap (vq 4 G) ty_9) (zv G (fR zk (has_wk' (vq 5 G) Ch)) (zv G (aL (vq 0 G) (vq 6 G) (G)) (zM 0 G (zM 2 G (zv G (bM fg (cc λ _=>rfl) (vq 8 G) (vq 9 G) (bG hj)) (zv G (bP (vq 10 G) eh (Sub.part 1 G G)) (zv G (ap (vq 11 G) gf) (zQ G (Fi _) (.o (vq 12 G)) (zv G (aL (vq 7 G) (vq 13 G) (G)) (zA 14 G o0)))))))))))))))) zk zk zk zk (zz (Wa 0 4 3) [] λ a w U=>?_);refine al ?_;refine aa<|zh (W6 15 [.v 4 _]) [.g 0,.g 2,.o 2] U (zM 1 G (zv G (aL (vq 0 G) ab (D1 hj hl)) (zA 1 G o0))) (zz (Wa 0 3 4) [] λ a w U=>?_);refine aa ?_;have U:=St.sel U [0,1,2];exact ⟨n-1,by omega,j+1,_,⟨by omega,hm.trans (LX hj hm0)⟩,U⟩
 ·have hnj:¬ (j<xs.length∧m≤1048576):=by rintro ⟨h1,h2⟩;rw [qd,qE (by omega:(j:Int)<(xs.length:Int)),qE h2] at hb0;exact absurd hb0 zd
  refine qP<|ai<|ai<|az<|zt<|zh [.v 32 _,.v 2 _] Ut U (zM 1 G (zA 0 G o0)) (zz Uu [] λ a w U=>?_);refine aa<|qi<|am ?_ (ak G U (zm 0 G));exact bf (qt In (hm.trans (IB hnj)).symm)
theorem Dc (t:RTk):Cn Tryz.prog 5 [(TkA t).va] (In (tkcF t)):=by
 refine Cn.intro Tryz.func5 G zk nq (zy [(0,(TkA t).va)] λ B w0 a U=>?_);refine qb<|zg [] Ry Us Ut U (zW 0 G (zE G ab)) (zz Uu Rz λ a w U=>?_);refine zt<|zgd [[],[0],[0,1],[],[3],(Wm 5),(Wm 6),[],[7],[0,1,2,3,4,5,7,8],(Wm 10),(Wm 11)] U1 [] (.adr 3 1 (.some 0) True::(W6 4 (.adr 6 1 (.some 1) True::(Wb 7 (.adr 10 1 (.some 2) True::(Wb 11 [.v 2 _])))))) [.o 11] ac U (zO 0 G ca (zL 0 0 0 G fc (zQ G (BU _) (.o (vq 1 G)) (zO 0 G bK (zL 3 0 1 G dW (zQ G (AD _) (.o (vq 4 G)) (zv G (aL (vq 2 G) (vq 5 G) (G)) (zO 0 G ek (zL 7 0 2 G au (zQ G (fV _) (.o (vq 8 G)) (zv G (aL (vq 6 G) (vq 9 G) (G)) (zA 10 G o0)))))))))))) zk zk zk zk (zz Uu Rz λ a w U=>?_);refine aa<|qi<|am ?_ (ak G U (zm 0 G));exact aM
theorem Ou {xs ys:Yl}{j:Nat}(hx:j<xs.length)(hy:j<ys.length)(h:xs[j]≠ys[j]):decide (xs=ys)=false:=by
 simp only [qm];rintro rfl;exact h rfl
theorem Ot {xs ys:Yl}{j:Nat}(hx:j<xs.length)(hy:j<ys.length)(hp:xs.take j=ys.take j)(h:xs[j]=ys[j]):xs.take (j+1)=ys.take (j+1):=by
 rw [qA hx,qA hy,hp,h]
def G2A (x:RF × RF):As:=cat [RFA x.1,RFA x.2]
theorem Ig {x:RF}:WkA (RFN x) (RFA x):=⟨rfl,rfl,λ B cs w h=>(bI (.cons (lH _) (.cons (lH _) .nil)):FreeA (RFN x) (RFA x)).2.2 B B cs w (qh _) h⟩
theorem g2d_a {x:RF × RF}:WkA (G2D x) (G2A x):=dis_wk.trans (bi (.cons Ig (.cons Ig .nil)))
def ChA (x:RCh):As:=cat [SlA 3 [] (x.l.map InA),RFA x.pw,InA x.c]
theorem chd_a {x:RCh}:WkA (ChD x) (ChA x):=bi (.cons HZ (.cons (dis_wk.trans Ig) (.cons (.refl _) .nil)))
theorem O3 (t:RTk):Cn Tryz.prog 7 [(TkA t).va] (Tu [(ChA (bR t).1).va,In (bR t).2]):=(Hb t).wkp (tu2w chd_a.va aM)
theorem Ly (t:RTk)(xs:Yl):Cn Tryz.prog 98 [(TkA t).va,(SlA 3 [] (xs.map InA)).va] (Tu [In (rowF t xs).1,(G2A (rowF t xs).2.1).va,In (rowF t xs).2.2]):=(Lz t xs).wkp (tu3w aM g2d_a.va aM)
theorem Lp:Str Tryz.prog 106 [RFA rf0,RFA rf0] :=
 Str.of (z:=.agg #[.bool false,.slice none 0 0,.bool false,.slice none 0 0,.bool false,.slice none 0 0,.bool false,.slice none 0 0]) zk vP zk λ B w=>⟨[[.bool false,.slice none 0 0,.bool false,.slice none 0 0],[.bool false,.slice none 0 0,.bool false,.slice none 0 0]],rfl,.cons (eI B w) (.cons (eI B w) .nil)⟩
theorem fe:Str Tryz.prog 36 [EqA (.slice none 0 0),RFA rf0,NumA .i64 0] :=
 Str.of (z:=.agg #[.slice none 0 0,.bool false,.slice none 0 0,.bool false,.slice none 0 0,.int .i64 0]) zk v4 zk λ B w=>⟨[[.slice none 0 0],[.bool false,.slice none 0 0,.bool false,.slice none 0 0],[.int .i64 0]],rfl,.cons ⟨rfl,rfl⟩ (.cons (eI B w) (.cons rfl .nil))⟩
theorem pt (xs ys:Yl):Cn Tryz.prog 32 [(SlA 3 [] (xs.map InA)).va,(SlA 3 [] (ys.map InA)).va] (Bo (decide (xs=ys))):=by
 refine Cn.intro Tryz.func32 G zk nq (zy [(0,(SlA 3 [] (xs.map InA)).va),(1,(SlA 3 [] (ys.map InA)).va)] λ B w0 a U=>?_);have hl:=fO (U.vals (0,(SlA 3 [] (xs.map InA)).va) (zm 0 rfl));refine qb<|zh WP WQ U (zE G aJ) (zz WR [] ?_);refine ztA<|zsA<|zhA (Wd 6) WS (zM 0 G (zv G (bn qL (vq 0 G)) (zM 1 G (zv G (bn qL (vq 2 G)) (zv G (c9 (vq 1 G) (vq 3 G)) o0))))) (zz (Wf 0 1 4 10) [] λ a w U=>?_);refine zJ 3 U G (λ hb0=>?_) (λ hb0=>?_)
 ·have hne:decide (xs=ys)=false:=by
   simp only [qd] at hb0;simp only [qm];rintro rfl;simp at hb0
  refine qb<|zh WP WQ U (zE G aJ) (zz WR [] λ a w U=>?_);refine aa<|qi<|aj ?_;refine am ?_ (ak G U (zm 2 G));exact bf (qt Bo hne.symm)
 ·have hee:xs.length=ys.length:=by
   simp only [qd] at hb0;have:(xs.length:Int)=(ys.length:Int):=by simpa using hb0
   omega
  refine qj<|zt<|qb<|zh UU WX U (zE G ab) (zz WU [] λ a w U=>?_);refine aa<|qk ?_;have U:=St.sel U [0,1,3];refine wp_loop_ghost (λ n a w=>∃ (j:Nat),(n+j=xs.length∧xs.take j=ys.take j)∧St B w0 26 [(0,(SlA 3 [] (xs.map InA)).va),(1,(SlA 3 [] (ys.map InA)).va),(5,In (j:Nat))] [] a w) (xs.length) ?_ ?_
  ·exact ⟨0,⟨by omega,rfl⟩,U⟩
  intro n a w hI;obtain ⟨j,⟨hn,hp⟩,U⟩:=hI;refine qb<|qb<|zh (Ww 11) WT U (zM 2 G (zM 0 G (zv G (bn qL (vq 1 G)) (zv G (aO (vq 0 G) (vq 2 G)) o0)))) (zz (Wf 0 1 5 14) [] λ a w U=>?_);refine zJ 3 U G (λ hb1=>?_) (λ hb1=>?_)
  ·have hj:j<xs.length:=by rw [qd] at hb1;have:=qu hb1;omega
   have hj2:j<ys.length:=by omega
   refine qj<|zt<|qk<|qb<|zgd WW [] [] (Wo 17) (W7 [.o 8]) ac U (zM 0 G (zM 2 G (zv G (bM dN (cc λ _=>rfl) (vq 0 G) (vq 1 G) (bG hj)) (zv G (ap (vq 2 G) ty_3) (zM 1 G (zM 2 G (zv G (bM dN (cc λ _=>rfl) (vq 4 G) (vq 5 G) (bG hj2)) (zv G (ap (vq 6 G) ty_3) (zv G (c9 (vq 3 G) (vq 7 G)) o0))))))))) zk zk zk zk (zz (Wf 0 1 5 25) [] λ a w U=>?_);refine zJ 3 U G (λ hb2=>?_) (λ hb2=>?_)
   ·refine qb<|zh WP WX U (zE G aJ) (zz (Wf 0 1 5 4) [] λ a w U=>?_);refine aa<|qi<|aD ?_;refine aj ?_;refine aj ?_;refine aD ?_;refine aj ?_;refine am ?_ (ak G U (zm 3 G));exact bf (qt Bo (Ou hj hj2 (by simpa using hb2)).symm)
   ·refine qj<|al ?_;refine aa<|zh (W6 15 [.v 5 _]) WY U (zM 2 G (zv G (aL (vq 0 G) ab ((wi64 zo zo).trans (by omega:(_:Int)=((j+1:Nat):Int)))) (zA 1 G o0))) (zz (Wa 0 1 5) [] λ a w U=>?_);refine aa ?_;have U:=St.sel U [0,1,2];exact ⟨n-1,by omega,j+1,⟨by omega,Ot hj hj2 hp (by simpa using hb2)⟩,U⟩
  ·have hj:j=xs.length:=by rw [qd] at hb1;have:=qw hb1;omega
   refine qP<|ai<|ai<|az<|zt<|zh WP WZ U (zE G aJ) (zz U0 [] λ a w U=>?_);refine aa<|qi<|am ?_ (ak G U (zm 0 G));exact bf (qt Bo (qE (by rw [hj,qJ,hee,qJ] at hp;exact hp)).symm)
open Go.ChangeShapes Go.WideShapes Go.ChangeAt
section
variable {H:Type}{enc:TypeId × Value→H}{w:World}{base:Nat}{spare:Nat→Bool}{held:Bool}{fuel:Nat}{cs:List Value}{x:DataW H × List MemPlace}
theorem OF (h:DataW.trod enc Tryz.prog w base spare held fuel 3 cs=some x):∃ y,(InA y).p w.heap.size cs w:=by
 obtain ⟨n,hn,_⟩:=DataW.trod_int Tryz.underlying3 h;exact ⟨n,hn⟩
end
theorem DN (t:RTk):Cn Tryz.prog 98 [(TkA t).va,EqV (.slice none 0 0)] (Tu [In (rowF t []).1,(G2A (rowF t []).2.1).va,In (rowF t []).2.2]):=(Ly t []).wk (.cons aM (.cons B9 .nil))
theorem Bu:((bR (twoT 1)).2==0&&(rowF (twoT 1) []).2.2==0&&(rowF (twoT 1) []).1==4&&decide ((rowF (twoT 1) []).2.1.1=rfOf (Rat.divInt 0 1))&&decide ((rowF (twoT 1) []).2.1.2=rfOf (Rat.divInt 1 1))&&decide ((bR (twoT 1)).1.l=[0,1])&&(bR (twoT 1)).1.c==8&&decide ((bR (twoT 1)).1.pw=rfOf (Rat.divInt 1 1)))=true:=by kernel_rfl
theorem Bv  : Cn Tryz.prog 15 [] (Bo true):=by
 refine Cn.intro Tryz.func15 G zk nq (zy [] λ B w0 a U=>?_);refine qb<|zh [.v 0 _] WZ U (zE G aJ) (zz UI [] ?_);refine ztA<|zgA [] [⟨1,36,ptrH,some 5,_,some (6,_)⟩] (W6 7 (.v 6 _::(W6 9 [.alc 0,.sto 0,.v 2 _]))) [.g 0,.o 7] (zQ G (yu (n:=1) zd zd) (.cons ab .nil) (zQ G (O3 _) (.o (vq 0 G)) (zV 1 G (zv G (pC (vq 2 G)) (zv G (pB (vq 2 G)) (zY G (Str.zero fe) (zS 3 G dV (zA 4 G o0)))))))) (zz R1 [O 1 36 _] ?_);refine ztA<|zgA U1 [⟨4,106,ptrH,some 6,_,some (8,_)⟩] (W6 12 (.v 11 _::(Wb 14 [.alc 1,.v 3 _,.sto 1,.v 5 _]))) (We [.o 7,.o 9]) (zQ G (yu (n:=1) zd zd) (.cons ab .nil) (zQ G (DN _) (.cons (vq 0 G) (.cons b9 .nil)) (zV 1 G (zv G (pC (vq 2 G)) (zv G (pB (vq 2 G)) (zv G (OT (vq 2 G)) (zY G (Str.zero Lp) (zA 3 G (zS 4 G gK (zA 5 G o0)))))))))) (zz (Wf 0 2 3 5) [O 1 36 _,O 4 106 _] λ a w U=>?_);refine zt<|iV (anc:=[[],[0],[0,1],[0,1,2],[0,1,2,3],[0,1,2,3,4],[0,1,2,3,4,5],[0,1,2,3,4,5,6],[0,1,2,3,4,5,6,7],[0,1,2,3,4,5,6,7,8],[0,1,2,3,4,5,6,7,8,9],[0,1,2,3,4,5,6,7,8,9,10],[0,1,2,3,4,5,6,7,8,9,10,11],[0,1,2,3,4,5,6,7,8,9,10],[0,1,2,3,4,5,6,7,8,9,10,11,12,13],[0,1,2,3,4,5,6,7,8,9,10,11,12,13,14],[0,1,2,3,4,5,6,7,8,9,10,11,12,13,14,15],[0,1,2,3,4,5,6,7,8,9,10,11,12,13,14,15,16],[0,1,2,3,4,5,6,7,8,9,10,11,12,13,14,15,16,17],[0,1,2,3,4,5,6,7,8,9,10,11,12,13,14,15,16],[0,1,2,3,4,5,6,7,8,9,10,11,12,13,14,15,16,17,18,19],[0,1,2,3,4,5,6,7,8,9,10,11,12,13,14,15,16,17,18,19,20],[0,1,2,3,4,5,6,7,8,9,10,11,12,13,14,15,16,17,18,19,20,21],[0,1,2,3,4,5,6,7,8,9,10,11,12,13,14,15,16,17,18,19,20,21,22],[0,1,2,3,4,5,6,7,8,9,10,11,12,13,14,15,16,17,18,19,20,21,22,23],[0,1,2,3,4,5,6,7,8,9,10,11,12,13,14,15,16,17,18,19,20,21,22],[0,1,2,3,4,5,6,7,8,9,10,11,12,13,14,15,16,17,18,19,20,21,22,23,24,25],[0,1,2,3,4,5,6,7,8,9,10,11,12,13,14,15,16,17,18,19,20,21,22,23,24,25,26],[0,1,2,3,4,5,6,7,8,9,10,11,12,13,14,15,16,17,18,19,20,21,22,23,24,25,26,27],[0,1,2,3,4,5,6,7,8,9,10,11,12,13,14,15,16,17,18,19,20,21,22,23,24,25,26,27,28],[0,1,2,3,4,5,6,7,8,9,10,11,12,13,14,15,16,17,18,19,20,21,22,23,24,25,26,27,28,29],[0,1,2,3,4,5,6,7,8,9,10,11,12,13,14,15,16,17,18,19,20,21,22,23,24,25,26,27,28,29,30],[0,1,2,3,4,5,6,7,8,9,10,11,12,13,14,15,16,17,18,19,20,21,22,23,24,25,26,27,28,29,30,31],[0,1,2,3,4,5,6,7,8,9,10,11,12,13,14,15,16,17,18,19,20,21,22,23,24,25,26,27,28,29,30,31,32],[0,1,2,3,4,5,6,7,8,9,10,11,12,13,14,15,16,17,18,19,20,21,22,23,24,25,26,27,28,29,30,31,32,33],[0,1,2,3,4,5,6,7,8,9,10,11,12,13,14,15,16,17,18,19,20,21,22,23,24,25,26,27,28,29,30,31,32,33,34],[0,1,2,3,4,5,6,7,8,9,10,11,12,13,14,15,16,17,18,19,20,21,22,23,24,25,26,27,28,29,30,31,32,33],[0,1,2,3,4,5,6,7,8,9,10,11,12,13,14,15,16,17,18,19,20,21,22,23,24,25,26,27,28,29,30,31,32,33,34,35,36],[0,1,2,3,4,5,6,7,8,9,10,11,12,13,14,15,16,17,18,19,20,21,22,23,24,25,26,27,28,29,30,31,32,33,34,35,36,37],[0,1,2,3,4,5,6,7,8,9,10,11,12,13,14,15,16,17,18,19,20,21,22,23,24,25,26,27,28,29,30,31,32,33,34,35,36,37,38]]) (sts:=[none,none]) (news:=[]) (sp:=((.v 17 _:Sp)::(.v 18 _)::(.v 19 _)::(.t 20 _)::(.t 21 _)::(.v 22 _)::(.v 23 _)::(.t 24 _)::(.t 25 _)::(.v 26 _)::(.v 27 _)::(.adr 28 4 (.some 0) (_=true))::(.t 29 _)::(.t 30 _)::(.t 31 _)::(.v 32 _)::(.v 33 _)::(.adr 34 4 (.some 4) (_=true))::(.t 35 _)::(.t 36 _)::(.t 37 _)::(.v 38 _)::(.v 39 _)::(.adr 40 1 (.some 0) (_=true))::(.t 41 _)::(.t 42 _)::(.t 43 _)::(.v 44 _)::(.v 45 _)::(.adr 46 1 (.some 5) (_=true))::(.t 47 _)::(.t 48 _)::(.v 49 _)::(.v 50 _)::(.adr 51 1 (.some 1) (_=true))::(.t 52 _)::(.t 53 _)::(.t 54 _)::(.v 55 _)::(.v 0 _)::[])) [.o 39] ac U (zM 1 G (zv G (bF (vq 0 G) ab) (zV 1 G (zB 2 G (λ hg=>aA (gq 3 G)) (zB 2 G (λ hg=>bF (ae (vq 3 G) hg) ab) (zv G (bE (vq 2 G) (vq 4 G)) (zV 5 G (zB 6 G (λ hg=>aA (gq 2 G)) (zB 6 G (λ hg=>bF (ae (vq 7 G) hg) ab) (zv G (bE (vq 6 G) (vq 8 G)) (zV 9 G (zC 10 1 G fC (zB 10 G (λ hg=>aC 11 G zk hg (lz0 1 G) (Sub.part 0 G G) au) (zB 10 G (λ hg=>ba (cR (n:=0) zd zd) (.cons ab .nil)) (zB 10 G (λ hg=>ba (fP _ _) (.p (ae (vq 12 G) hg) (ae (vq 13 G) hg))) (zv G (bE (vq 10 G) (vq 14 G)) (zV 15 G (zC 16 1 G fB (zB 16 G (λ hg=>aC 17 G zk hg (lz0 1 G) (Sub.part 1 G G) au) (zB 16 G (λ hg=>ba (cR (n:=1) zd zd) (.cons ab .nil)) (zB 16 G (λ hg=>ba (fP _ _) (.p (ae (vq 18 G) hg) (ae (vq 19 G) hg))) (zv G (bE (vq 16 G) (vq 20 G)) (zV 21 G (zC 22 0 G lL (zB 22 G (λ hg=>aC 23 G zk hg (lz0 0 G) (Sub.part 0 G G) cC) (zB 22 G (λ hg=>bW (D:=[]) (l:=[_,_]) (xs:=[.const (.int .i64 (0)),.const (.int .i64 (1))]) (dh zk) dN zk (n_ok zk) nq nq nq (.cons ab (.cons ab .nil)) G G) (zB 22 G (λ hg=>ba (pt _ [0,1]) (.p (ae (vq 24 G) hg) (ae (vq 25 G) hg))) (zv G (bE (vq 22 G) (vq 26 G)) (zV 27 G (zC 28 0 G oM (zB 28 G (λ hg=>aC 29 G zk hg (lz0 0 G) (Sub.part 2 G G) ty_3) (zB 28 G (λ hg=>bF (ae (vq 30 G) hg) ab) (zv G (bE (vq 28 G) (vq 31 G)) (zV 32 G (zC 33 0 G lK (zB 33 G (λ hg=>aC 34 G zk hg (lz0 0 G) (Sub.part 1 G G) au) (zB 33 G (λ hg=>ba (cR (n:=1) zd zd) (.cons ab .nil)) (zB 33 G (λ hg=>ba (fP _ _) (.p (ae (vq 35 G) hg) (ae (vq 36 G) hg))) (zv G (bE (vq 33 G) (vq 37 G)) (zA 38 G o0)))))))))))))))))))))))))))))))))))))))) zk zk zk zk (zz UI [O 1 36 _,O 4 106 _] λ a w U=>?_);refine aa<|qi<|am ?_ (ak G U (zm 0 G));exact bf (qt Bo Bu)
open Go.ChangeShapes Go.WideShapes Go.ChangeAt
def wdE (x:RE):Prop:=wdF x.p∧wdF x.q
def wdPt (x:RPt):Prop:=x.nm.size≤140737488355328∧wdE x.e
structure wdTk (t:RTk):Prop where
 s:(∀ x∈t.sp,wdF x)∧t.sp.length≤140737488355328
 p:(∀ x∈t.ps,wdPt x)∧t.ps.length≤140737488355328
 g:wdF t.tg
section
variable {H:Type}{enc:TypeId × Value→H}{w:World}{base:Nat}{spare:Nat→Bool}{held:Bool}{fuel:Nat}{cs:List Value}{x:DataW H × List MemPlace}
theorem OG (h:DataW.trod enc Tryz.prog w base spare held fuel 89 cs=some x):∃ y,(NumA .u8 y).p w.heap.size cs w:=by
 obtain ⟨a,ha,_⟩:=DataW.trod_int Tryz.underlying89 h;exact ⟨a,ha⟩
theorem LK (h:DataW.trod enc Tryz.prog w base spare held fuel 9 cs=some x)(hw:Wt Tryz.prog 9 x.1):∃ y:ByteArray,(EqA (.string y)).p w.heap.size cs w∧y.size≤140737488355328:=by
 obtain ⟨s,hs,hx,_⟩:=DataW.trod_string Tryz.underlying9 h;refine ⟨s,⟨hs,rfl⟩,?_⟩;have:=hw s.data.toList.length (by rw [hx];simp only [DataW.weights,ql]);have e:s.data.toList.length=s.size:=by rw [vM];rfl
 unfold reachBytes at this;omega
theorem OP (h:DataW.trod enc Tryz.prog w base spare held fuel 91 cs=some x)(hw:Wt Tryz.prog 91 x.1):∃ y,(REA y).p w.heap.size cs w∧wdE y:=by
 have hl:cs.length=9:=by
  obtain ⟨_,_,_,_,hl,_,_⟩:=DataW.trod_struct jo h;exact hl.trans zk
 obtain ⟨n0,y0,h0,w0⟩:=df jo h hw 0 rfl;have c0:Tryz.prog.cellsOf 89=1:=by kernel_rfl
 have h0:DataW.trod enc Tryz.prog w base spare held n0 89 ((cs.drop 0).take (Tryz.prog.cellsOf 89))=some y0:=h0;rw [c0] at h0;obtain ⟨a0,q0⟩:=OG h0;obtain ⟨n1,y1,h1,w1⟩:=df jo h hw 1 rfl;have c1:Tryz.prog.cellsOf 28=4:=by kernel_rfl
 have h1:DataW.trod enc Tryz.prog w base spare held n1 28 ((cs.drop 1).take (Tryz.prog.cellsOf 28))=some y1:=h1;rw [c1] at h1;obtain ⟨a1,q1,b1⟩:=DT h1 w1;obtain ⟨n2,y2,h2,w2⟩:=df jo h hw 2 rfl;have c2:Tryz.prog.cellsOf 28=4:=by kernel_rfl
 have h2:DataW.trod enc Tryz.prog w base spare held n2 28 ((cs.drop 5).take (Tryz.prog.cellsOf 28))=some y2:=h2;rw [c2] at h2;obtain ⟨a2,q2,b2⟩:=DT h2 w2;exact ⟨⟨a0,a1,a2⟩,mF q0 q1 q2 hl,⟨b1,b2⟩⟩
theorem OQ (h:DataW.trod enc Tryz.prog w base spare held fuel 93 cs=some x)(hw:Wt Tryz.prog 93 x.1):∃ y,(PtA y).p w.heap.size cs w∧wdPt y:=by
 have hl:cs.length=11:=by
  obtain ⟨_,_,_,_,hl,_,_⟩:=DataW.trod_struct jn h;exact hl.trans zk
 obtain ⟨n0,y0,h0,w0⟩:=df jn h hw 0 rfl;have c0:Tryz.prog.cellsOf 9=1:=by kernel_rfl
 have h0:DataW.trod enc Tryz.prog w base spare held n0 9 ((cs.drop 0).take (Tryz.prog.cellsOf 9))=some y0:=h0;rw [c0] at h0;obtain ⟨a0,q0,b0⟩:=LK h0 w0;obtain ⟨n1,y1,h1,w1⟩:=df jn h hw 1 rfl;have c1:Tryz.prog.cellsOf 91=9:=by kernel_rfl
 have h1:DataW.trod enc Tryz.prog w base spare held n1 91 ((cs.drop 1).take (Tryz.prog.cellsOf 91))=some y1:=h1;rw [c1] at h1;obtain ⟨a1,q1,b1⟩:=OP h1 w1;obtain ⟨n2,y2,h2,w2⟩:=df jn h hw 2 rfl;have c2:Tryz.prog.cellsOf 3=1:=by kernel_rfl
 have h2:DataW.trod enc Tryz.prog w base spare held n2 3 ((cs.drop 10).take (Tryz.prog.cellsOf 3))=some y2:=h2;rw [c2] at h2;obtain ⟨a2,q2⟩:=OF h2;exact ⟨⟨a0,a1,a2⟩,mF q0 q1 q2 hl,⟨b0,b1⟩⟩
theorem OO (h:DataW.trod enc Tryz.prog w base spare held fuel 30 cs=some x)(hw:Wt Tryz.prog 30 x.1):∃ y,(TkA y).p w.heap.size cs w∧wdTk y:=by
 have hl:cs.length=6:=by
  obtain ⟨_,_,_,_,hl,_,_⟩:=DataW.trod_struct xZ h;exact hl.trans zk
 obtain ⟨n0,y0,h0,w0⟩:=df xZ h hw 0 rfl;have c0:Tryz.prog.cellsOf 22=1:=by kernel_rfl
 have h0:DataW.trod enc Tryz.prog w base spare held n0 22 ((cs.drop 0).take (Tryz.prog.cellsOf 22))=some y0:=h0;rw [c0] at h0;obtain ⟨a0,q0,b0⟩:=(LL (A:=RFA) (m:=4) (D:=[U32]) qQ zk zd (vS zd (show 64=Tryz.prog.bytesOf 28 from by kernel_rfl)) (λ _=>s0 zk) DT) h0 w0;obtain ⟨n1,y1,h1,w1⟩:=df xZ h hw 1 rfl;have c1:Tryz.prog.cellsOf 23=1:=by kernel_rfl
 have h1:DataW.trod enc Tryz.prog w base spare held n1 23 ((cs.drop 1).take (Tryz.prog.cellsOf 23))=some y1:=h1;rw [c1] at h1;obtain ⟨a1,q1,b1⟩:=(LL (A:=PtA) (m:=11) (D:=[U32]) qM zk zd (vS zd (show 160=Tryz.prog.bytesOf 93 from by kernel_rfl)) (λ _=>s0 zk) OQ) h1 w1;obtain ⟨n2,y2,h2,w2⟩:=df xZ h hw 2 rfl;have c2:Tryz.prog.cellsOf 28=4:=by kernel_rfl
 have h2:DataW.trod enc Tryz.prog w base spare held n2 28 ((cs.drop 2).take (Tryz.prog.cellsOf 28))=some y2:=h2;rw [c2] at h2;obtain ⟨a2,q2,b2⟩:=DT h2 w2;exact ⟨⟨a0,a1,a2⟩,mF q0 q1 q2 hl,⟨b0,b1,b2⟩⟩
end
theorem Fh {x:RE}(h:wdE x):∃ a b:Nat,oP x=((a+b:Nat):Int)∧(x.p.num.mag.length+x.p.den.mag.length+2≤a∧x.q.num.mag.length+x.q.den.mag.length+2≤b)∧a+b≤9007199254740992:=by
 obtain ⟨h1,h2⟩:=h;obtain ⟨a,ea,la,ma⟩:=ic h1;obtain ⟨b,eb,lb,mb⟩:=ic h2;refine ⟨a,b,?_,⟨by omega,by omega⟩,by omega⟩;unfold oP;rw [ea,eb,wi64 zo zo];omega
theorem GJ:∀ (xs:List RF) (n:Nat),(∀ x∈xs,wdF x)→n≤288230376151711744→∃ c:Nat,frsF (n:Int) xs=(c:Int)∧c≤576460752303423488∧(c≤1048576→n≤c∧∀ x∈xs,x.num.mag.length+x.den.mag.length≤c)
 | [],n,_,hn=>⟨n,rfl,by omega,λ _=>⟨qh _,λ x hx=>by cases hx⟩⟩
 | x::xs,n,hw,hn=>by
  obtain ⟨a,e,l,hs⟩:=ic (hw x (by simp));by_cases h:n≤1048576
  ·obtain ⟨c,h1,h2,h3⟩:=GJ xs (n+a) (λ y hy=>hw y (by simp [hy])) zo;refine ⟨c,?_,h2,λ hc=>?_⟩
   ·rw [frsF,qC (qE zo),e,wi64 zo zo];exact h1
   ·obtain ⟨h4,h5⟩:=h3 hc;refine ⟨by omega,λ y hy=>?_⟩;rcases qr.1 hy with rfl|hy
    ·omega
    ·exact h5 y hy
  ·refine ⟨n,?_,by omega,λ hc=>absurd hc h⟩;rw [frsF,qy (by intro h2;have:=qu h2;omega)]
theorem Gj:∀ (xs:List RPt) (n:Nat),(∀ x∈xs,wdPt x)→n≤288230376151711744→∃ c:Nat,ptsF (n:Int) xs=(c:Int)∧c≤576460752303423488∧(c≤1048576→n≤c∧∀ x∈xs,x.e.p.num.mag.length+x.e.p.den.mag.length+(x.e.q.num.mag.length+x.e.q.den.mag.length)≤c)
 | [],n,_,hn=>⟨n,rfl,by omega,λ _=>⟨qh _,λ x hx=>by cases hx⟩⟩
 | x::xs,n,hw,hn=>by
  obtain ⟨hz,he⟩:=hw x (by simp);obtain ⟨a,b,e,l,hs⟩:=Fh he;by_cases h:n≤1048576
  ·obtain ⟨c,h1,h2,h3⟩:=Gj xs (n+x.nm.size+(a+b)) (λ y hy=>hw y (by simp [hy])) zo;refine ⟨c,?_,h2,λ hc=>?_⟩
   ·rw [ptsF,qC (qE zo)];unfold ptc;rw [e,wi64 (x:=(n:Int)+((x.nm.size:Nat):Int)) zo zo,wi64 zo zo];exact h1
   ·obtain ⟨h4,h5⟩:=h3 hc;refine ⟨by omega,λ y hy=>?_⟩;rcases qr.1 hy with rfl|hy
    ·omega
    ·exact h5 y hy
  ·refine ⟨n,?_,by omega,λ hc=>absurd hc h⟩;rw [ptsF,qy (by intro h2;have:=qu h2;omega)]
theorem Oi {t:RTk}(h:wdTk t):∃ c:Nat,tkcF t=(c:Int)∧c≤1297036692682702848∧(c≤1048576→bdTk t):=by
 obtain ⟨a,ea,la,ma⟩:=GJ t.sp t.sp.length h.s.1 (by have:=h.s.2;omega);obtain ⟨b,eb,lb,mb⟩:=Gj t.ps t.ps.length h.p.1 (by have:=h.p.2;omega);obtain ⟨d,ed,ld,md⟩:=ic h.g;refine ⟨a+b+d,?_,by omega,λ hc=>?_⟩
 ·unfold tkcF;rw [ea,eb,ed,wi64 (x:=(a:Int)+(b:Int)) zo zo,wi64 zo zo];omega
 ·obtain ⟨q1,q2⟩:=ma zo;obtain ⟨q3,q4⟩:=mb zo;refine ⟨by omega,by omega,λ x hx=>?_,λ x hx=>?_,?_⟩
  ·have:=q2 x hx;unfold bdF;omega
  ·have:=q4 x hx;unfold bdF;omega
  ·unfold bdF;omega
theorem NN {t:RTk}{l:Ya}(h:wdTk t)(hl:l.length≤2∧∀ n∈l,n≤140737488355328)(hb:bydF 0 (tkcF t::l.map λ (x:Nat)=>(x:Int))=false):bdTk t∧l.sum≤1048576:=by
 obtain ⟨c,e,hc,hk⟩:=Oi h;have hs:l.sum≤2*140737488355328:=by
  obtain ⟨h1,h2⟩:=hl
  match l,h1,h2 with
  | [],_,_=>simp
  | [a],_,h2=>have:=h2 a (by simp);simp;omega
  | [a,b],_,h2=>have:=h2 a (by simp);have:=h2 b (by simp);simp;omega
 have:=PV (l:=c::l) (by rw [xo];omega) (by rw [e] at hb;exact hb);rw [xo] at this;exact ⟨hk zo,by omega⟩
section
variable {P:Program}{B N:Nat}{w0:Bs}{Γ:List (Nat × VA)}{Λ:List Lc}{a:Act}{w:World}
end
section
open Rg
variable {P:Program}{Q:Exit→Act→World→Prop}{R:Rg}{B i:Nat}{w0:Bs}
theorem DW {B0:Nat}{f:Yn}{A A' C:VA}{x y:Yj}{u v:Yo}{at_:Yr}(hF:NoF w0)(h0:B0≤B)(hc:Cn P f [A,A'] C)(hu:A.p B0 u w0.w)(hv:A'.p B0 v w0.w)(hC:∀ v w,C.p B0 v w→C.p B v w)(hx:Has R B w0 i x (EqV u))(hy:Has R B w0 i y (EqV v)):Wv P Q R B w0 i (.call ⟨.value (.func f),#[x,y],at_⟩) C:=by
 intro d T ps af gd a w av K hK;obtain ⟨⟨fn,hf,hn,hb⟩,hcall⟩:=hc;have hrun:(execOp a.eval ⟨some d,.call ⟨.value (.func f),#[x,y],at_⟩,T,ps,af,gd⟩).run P w=.ok (.enter f ([x,y].map a.eval).toArray) w:=by
  simp only [execOp,resolve,Act.eval,Deferred.ofValue,Sem.run_bind,Sem.run_pure,Result.andThen_ok,invoke,bb hf hn hb];simp
 unfold Oper.wp;rw [hrun];have e1:a.eval x=u:=hx a w av;have e2:a.eval y=v:=hy a w av;refine (hcall B0 w _ (qf h0 (Av.bw av)) (show All2 _ _ [a.eval x,a.eval y] from .cons (by rw [e1];exact A.cg _ _ _ _ (hF.cg av.base) hu) (.cons (by rw [e2];exact A'.cg _ _ _ _ (hF.cg av.base) hv) .nil))).mono λ e w' ⟨v,he,hv,hg⟩=>by subst he;exact hK v w' hg (hC _ _ hv)
end
def EqC (n:Nat)(v:List Value):As where
 n:=n
 ag:=true
 p _ cs _:=cs=v∧cs.length=n∧∀ c∈cs,c.oneCell'=true
 deps:=[]
 len:=λ _ _ _ h=>h.2.1
 one:=λ _ _ _ h=>h.2.2
 ag1:=λ h=>by cases h
 cg:=λ _ _ _ _ _ h=>h
 wr:=λ _ _ _ _ _ _ _ _ _ _ _ _ h=>h
theorem sv {n:Nat}:Wk (EqC n cs).va (EqV (cE true cs)):=λ B v w ⟨c,⟨h1,_⟩,h2⟩=>by
 subst h1;exact h2
section
variable {P:Program}{B N:Nat}{w0:Bs}{Γ:List (Nat × VA)}{Λ:List Lc}{a:Act}{w:World}
theorem St.exC (h:St B w0 N Γ Λ a w){s:Nat}{A:As}(k:Nat)(hm:Λ[k]?=some ⟨s,T,ptrH,A⟩):∃ cs,A.p B cs w∧(ElO T (EqC A.n cs)).p w.heap.size (a.eval (.tmp s)) w:=by
 obtain ⟨g,cs,q1,q2,q3,q4⟩:=h.locs _ (qa hm);exact ⟨cs,q4,g,cs,q1,(Array.getElem?_eq_some_iff.1 q3).1,q3,rfl,A.len _ _ _ q4,A.one _ _ _ q4⟩
theorem JL {fn:Func}{c:Code}{b:Bool}(Γ':Yf)(h:St B w0 N Γ Λ a w)(hnd:w0.nd=true)(hΓ:AllG a w Γ')
  (k:∀ (B:Nat) (w1:Bs),w1.nd=true→(∀ g,¬ w1.F g)→B=w1.w.heap.size→w1.w=w→St B w1 N Γ' [] a w→Exit.then (λ a w=>c.wp P (bZ P fn (RQ B w1 (Bo b))) a w) (bZ P fn (RQ B w1 (Bo b))) .normal a w) :
  Exit.then (λ a w=>c.wp P (bZ P fn (RQ B w0 (Bo b))) a w) (bZ P fn (RQ B w0 (Bo b))) .normal a w:=by
 have h1:=k w.heap.size ⟨w,λ _=>False,true⟩ rfl (λ _ h=>h) rfl rfl ⟨λ g hg=>hg.resolve_right λ h=>h,DefOk.nil (h.defers.none hnd),h.size,Kept.refl _,hΓ.mem,(λ l hl=>by cases hl),(λ l hl=>by cases hl)⟩;refine wp_mono (c:=c) (show c.wp P _ a w from h1) λ e a' w' hp=>nF hp ?_;rintro v w2 ⟨u,hu,hp,hk⟩;exact ⟨u,hu,hp,h.base.grow ⟨hk.os,hk.tape,hk.output,hk.size,λ k hlt=>hk.block k hlt (λ h=>h)⟩⟩
end
structure Slt where
 v:Value
 xs:List (List Value)
 u:Value
 ys:List (List Value)
 z:Value
 n:Nat
def Slt.cells (s:Slt):List Value:=[s.v,s.z,.int .i64 s.n]
def Slt.has (s:Slt)(g:Nat):Prop:=s.v.ownBlock=some g∨s.u.ownBlock=some g
def AptK (L:List Slt):Prop:=∀ (i j:Nat) (s t:Slt),L[i]?=some s→L[j]?=some t→i≠j→∀ g,s.has g→¬ t.has g
section
variable {H E m:Nat}
def RdyK (E m:Nat)(B:Nat)(w:World)(v:Value)(xs:List (List Value)):Prop:=RowV v xs.length∧(∀ x∈xs,x.length=m)∧∀ g,v.ownBlock=some g→B≤g∧∃ c,w.heap[g]?=some (Obj.cells c E (0,0))∧c.toList.take (xs.length*m)=xs.flatten
def Slt.ok (E m:Nat)(B:Nat)(w:World)(s:Slt):Prop:=w.ownsRow B E m s.u s.ys.length s.ys.flatten∧RdyK E m B w s.v s.xs
theorem eA:∀ {xs:Yx},(∀ x∈xs,x.length=m)→xs.flatten.length=xs.length*m
 | [],_=>by simp
 | x::xs,h=>by
  rw [zZ,qx,h x (by simp),eA (λ y hy=>h y (by simp [hy])),zc,xS,jV,xg]
theorem RdyK.keep {xs:Yx}(h:RdyK E m B w v xs)(hk:∀ (g:Nat) (c:Array Yo),v.ownBlock=some g→w.heap[g]?=some (Obj.cells c E (0,0))→w'.heap[g]?=some (Obj.cells c E (0,0))):RdyK E m B w' v xs :=
 ⟨h.1,h.2.1,λ g hg=>by
  obtain ⟨h1,c,h2,h3⟩:=h.2.2 g hg;exact ⟨h1,c,hk g c hg h2,h3⟩⟩
theorem Slt.ok.keep {B:Nat}{s:Slt}{w w':Yi}(h:s.ok E m B w)(hk:∀ (g:Nat) (c:Array Yo),s.has g→w.heap[g]?=some (Obj.cells c E (0,0))→w'.heap[g]?=some (Obj.cells c E (0,0))):s.ok E m B w' :=
 ⟨cH h.1 λ g c hg=>hk g c (.inr hg),h.2.keep λ g c hg=>hk g c (.inl hg)⟩
theorem Slt.ok.lt {s:Slt}(h:s.ok E m B w){g:Nat}(hg:s.has g):B≤g∧∃ c,w.heap[g]?=some (Obj.cells c E (0,0)):=by
 rcases hg with hg|hg
 ·obtain ⟨h1,c,h2,_⟩:=h.2.2.2 g hg;exact ⟨h1,c,h2⟩
 ·rcases h.1.2 with ⟨e,_⟩|⟨g',cap,cur,e,h2,h3,_⟩
  ·rw [e] at hg;cases hg
  ·rw [e] at hg;have:g'=g:=by simpa [Value.ownBlock] using hg
   subst this;exact ⟨h2,cur,h3⟩
def HkA (H E m:Nat)(vr:Value)(L:List Slt):As where
 n:=1
 ag:=false
 p B cs w:=cs=[vr]∧w.ownsRow B H 3 vr L.length (L.flatMap Slt.cells)∧(∀ s∈L,s.ok E m B w)∧AptK L
 deps:=[H,E]
 len:=by rintro B cs w ⟨rfl,_⟩;rfl
 one:=by
  rintro B cs w ⟨rfl,h,_⟩ c hc;obtain rfl:=ql.1 hc;rcases h.2 with ⟨rfl,_⟩|⟨g,cap,cur,rfl,_⟩ <;> rfl
 ag1:=λ _=>rfl
 cg:=λ B cs w w' hg ⟨h1,h2,h3,h4⟩=>⟨h1,cH h2 λ g c _ h=>hg.heap h,λ s hs=>(h3 s hs).keep λ g c _ h=>hg.heap h,h4⟩
 wr:=by
  rintro B cs w w' g c T fz hgc hT hB hW ⟨h1,h2,h3,h4⟩;simp only [qr,zF,or_false,not_or] at hT;have hne:∀ (g':Nat) (c':Array Value) (E':TypeId),(E'=H∨E'=E)→w.heap[g']?=some (Obj.cells c' E' (0,0))→w'.heap[g']?=some (Obj.cells c' E' (0,0)):=λ g' c' E' hE h=>by
   rw [hW.block g' (λ e=>?_)]
   ·exact h
   ·subst e;rw [hgc] at h;injection h with h;injection h with _ h _;subst h;rcases hE with e|e
    ·exact hT.1 e
    ·exact hT.2 e
  exact ⟨h1,cH h2 λ g c _ h=>hne g c _ (.inl G) h,λ s hs=>(h3 s hs).keep λ g c _ h=>hne g c _ (.inr G) h,h4⟩
theorem rh {α:Type}{f:Slt→List α}:∀ {L:List Slt}{i:Nat}{s s':Slt},L[i]?=some s→f s'=f s→(L.set i s').flatMap f=L.flatMap f
 | x::L,0,s,s',h,e=>by
  simp at h;subst h;simp [e]
 | x::L,i+1,s,s',h,e=>by
  simp only [jm,xh];rw [rh (by simpa using h) e]
theorem GF {L:List Slt}{B i:Nat}{s s':Slt}(h:(HkA H E m vr L).p B cs w)(hi:L[i]?=some s)(hc:s'.cells=s.cells)(hok:s'.ok E m B w')
  (hrow:∀ (g:Nat) (c:Array Value),w.heap[g]?=some (Obj.cells c H (0,0))→w'.heap[g]?=some (Obj.cells c H (0,0))) (hoth:∀ (g:Nat) (c:Array Value),¬ s.has g→w.heap[g]?=some (Obj.cells c E (0,0))→w'.heap[g]?=some (Obj.cells c E (0,0)))
  (hblk:∀ g,s'.has g→s.has g∨w.heap.size≤g):(HkA H E m vr (L.set i s')).p B cs w':=by
 obtain ⟨h1,h2,h3,h4⟩:=h;have hlt:i<L.length:=(List.getElem?_eq_some_iff.1 hi).1;have hfar:∀ (j:Nat) t,L[j]?=some t→j≠i→∀ g,t.has g→¬ s'.has g:=λ j t hj hne g hg hg'=>by
  rcases hblk g hg' with h5|h5
  ·exact h4 j i t s hj hi hne g hg h5
  ·obtain ⟨_,c,h6⟩:=(h3 t (qa hj)).lt hg;have:=(Array.getElem?_eq_some_iff.1 h6).1;omega
 refine ⟨h1,?_,λ t ht=>?_,λ j k t1 t2 hj hk hne g hg hg'=>?_⟩
 ·rw [qZ,rh hi hc];exact cH h2 λ g c _ h=>hrow g c h
 ·obtain ⟨j,hj⟩:=List.getElem?_of_mem ht;by_cases e:j=i
  ·subst e;rw [List.getElem?_set_self hlt] at hj;injection hj with hj;subst hj;exact hok
  ·rw [List.getElem?_set_ne (λ e2=>e e2.symm)] at hj;exact (h3 t (qa hj)).keep λ g c hg hh=>hoth g c (λ hs=>h4 j i t s hj hi e g hg hs) hh
 ·by_cases e:j=i
  ·subst e;rw [List.getElem?_set_self hlt] at hj;injection hj with hj;subst hj;rw [List.getElem?_set_ne hne] at hk;exact hfar k t2 hk (λ e=>hne e.symm) g hg' hg
  ·rw [List.getElem?_set_ne (λ e2=>e e2.symm)] at hj;by_cases e2:k=i
   ·subst e2;rw [List.getElem?_set_self hlt] at hk;injection hk with hk;subst hk;exact hfar j t1 hj e g hg hg'
   ·rw [List.getElem?_set_ne (λ e3=>e2 e3.symm)] at hk;exact h4 j k t1 t2 hj hk hne g hg hg'
theorem yD {c:Ym}{xs:Yx}{k:Nat}{ds:Ym}(hx:∀ x∈xs,x.length=m)(hk:k<xs.length)(hd:ds.length=m)(h:c.take (xs.length*m)=xs.flatten):(c.take (k*m)++ds++c.drop (k*m+m)).take (xs.length*m)=(xs.set k ds).flatten:=by
 have hl:=eA hx;have hle:xs.length*m≤c.length:=by
  have:=qt List.length h;rw [hl,qX] at this;omega
 have hk1:k*m+m≤xs.length*m:=by rw [← xD];exact qI m hk
 have e1:c.take (k*m)=(xs.take k).flatten:=by
  have h0:=qt (List.take (k*m)) h;rw [x5,xc zo] at h0;rw [h0];have h2:xs.flatten=(xs.take k).flatten++(xs.drop k).flatten:=by rw [← kr,xv]
  have h3:(xs.take k).flatten.length=k*m:=by
   rw [eA (λ x hx'=>hx x (xk hx')),qX,xc (xa hk)]
  rw [h2,← h3,ke]
 have e2:(c.drop (k*m+m)).take (xs.length*m-(k*m+m))=(xs.drop (k+1)).flatten:=by
  have h0:=qt (List.drop (k*m+m)) h;rw [List.drop_take] at h0;rw [h0];have h2:xs.flatten=(xs.take (k+1)).flatten++(xs.drop (k+1)).flatten:=by rw [← kr,xv]
  have h3:(xs.take (k+1)).flatten.length=k*m+m:=by
   rw [eA (λ x hx'=>hx x (xk hx')),qX,xc hk,xD]
  rw [h2,← h3,List.drop_left]
 have l1:(c.take (k*m)).length=k*m:=by rw [qX];omega
 rw [qY,kX,l1,x5,Nat.min_eq_right (show k*m≤xs.length*m by omega),kX,hd,qD (l:=ds) (by rw [hd];omega),Nat.sub_sub,e1,e2,xA,qC hk];simp
theorem BK {L:List Slt}{B i k g cap:Nat}{s:Slt}{cs ds:Ym}(hHE:H≠E)(h:(HkA H E m vr L).p B cs w)(hi:L[i]?=some s)(hu:s.u=s.v)(hy:s.ys=s.xs)(hv:s.v=.slice (some ⟨g,0,none⟩) s.xs.length cap)(hk:k<s.xs.length)(hd:ds.length=m):
  B≤g∧∃ c:Array Value,w.heap[g]?=some (Obj.cells c E (0,0))∧k*m+m≤c.size∧(HkA H E m vr (L.set i { s with xs:=s.xs.set k ds,ys:=s.xs.set k ds })).p B cs (w.setRow g (c.toList.take (k*m)++ds++c.toList.drop (k*m+m)).toArray):=by
 have hs:=h.2.2.1 s (qa hi);have hg:s.v.ownBlock=some g:=by rw [hv];rfl
 obtain ⟨hB,c,hc,htk⟩:=hs.2.2.2 g hg;have hown:=hs.1;rw [hu,hy,hv] at hown;rcases hown.2 with ⟨e,_⟩|⟨g',cap',cur,e,h2,h3,h4,h5,h6,h7⟩
 ·cases e
 ·injection e with e1 e2 e3;injection e1 with e1;injection e1 with e1;subst e1;subst e3;rw [hc] at h3;injection h3 with h3;injection h3 with h3;subst h3;have hk1:k*m+m≤s.xs.length*m:=by rw [← xD];exact qI m hk
  have hk2:s.xs.length*m≤cap*m:=qI m h4;have hsz:k*m+m≤c.size:=by rw [h6];omega
  have hnew:(w.setRow g (c.toList.take (k*m)++ds++c.toList.drop (k*m+m)).toArray).heap[g]?=some (Obj.cells (c.toList.take (k*m)++ds++c.toList.drop (k*m+m)).toArray E (0,0)):=setRow_heap w g _ _ _ _ hc;have hitem:∀ x∈s.xs.set k ds,x.length=m:=λ x hx=>by
   rcases qq hx with hx|rfl
   ·exact hs.2.2.1 x hx
   ·exact hd
  have htk2:(c.toList.take (k*m)++ds++c.toList.drop (k*m+m)).take ((s.xs.set k ds).length*m)=(s.xs.set k ds).flatten:=by
   rw [qZ];exact yD hs.2.2.1 hk hd htk
  refine ⟨hB,c,hc,hsz,GF h hi G ⟨?_,?_⟩ (λ g2 c2 h8=>?_) (λ g2 c2 h8 h9=>?_) λ g2 h8=>.inl h8⟩
  ·show World.ownsRow _ B E m s.u (s.xs.set k ds).length (s.xs.set k ds).flatten;rw [hu,hv];refine ⟨eA hitem,.inr ⟨g,cap,_,by rw [qZ],hB,hnew,by rw [qZ];exact h4,h5,?_,htk2⟩⟩;have hcl:c.toList.length=c.size:=by simp
   simp only [z7,qx,qX,xM,hcl,hd];rw [h6] at hsz ⊢;omega
  ·show RdyK E m B _ s.v (s.xs.set k ds);refine ⟨by rw [qZ];exact hs.2.1,hitem,λ g2 h8=>?_⟩;rw [hg] at h8;injection h8 with h8;subst h8;exact ⟨hB,_,hnew,htk2⟩
  ·rw [setRow_other _ _ _ _ (λ e=>by subst e;rw [hc] at h8;injection h8 with h8;injection h8 with _ h8 _;exact hHE h8.symm)];exact h8
  ·rw [setRow_other _ _ _ _ (λ e=>h8 (.inl (by rw [e];exact hg)))];exact h9
theorem MT {vr v':Yo}{L:List Slt}{B i:Nat}{s:Slt}{cs ds:Ym}(hHE:H≠E)(h:(HkA H E m vr L).p B cs w)(hi:L[i]?=some s)(hown:w'.ownsRow B E m v' (s.ys.length+1) (s.ys.flatten++ds))(hg:w.grownBy w' s.u.ownBlock)
  (hb:v'.ownBlock=s.u.ownBlock∨(v'.ownBlock=some w.heap.size∧w.grownBy w' none)) (hpre:s.u.ownBlock=s.v.ownBlock→s.xs <+: s.ys) (hyl:∀ y∈s.ys,y.length=m):(HkA H E m vr (L.set i { s with u:=v',ys:=s.ys++[ds] })).p B cs w':=by
 have hs:=h.2.2.1 s (qa hi);have hlt:∀ (g:Nat) (c:Array Value) (T:TypeId),w.heap[g]?=some (Obj.cells c T (0,0))→g<w.heap.size:=λ g c T h=>(Array.getElem?_eq_some_iff.1 h).1;refine GF h hi G ⟨by simpa using hown,?_⟩ (λ g c h8=>?_) (λ g c h8 h9=>?_) λ g h8=>?_
 ·refine ⟨hs.2.1,hs.2.2.1,λ g hgv=>?_⟩;obtain ⟨h1,c,h2,h3⟩:=hs.2.2.2 g hgv;by_cases e:s.u.ownBlock=some g
  ·rcases hb with hb|⟨hb,hgn⟩
   ·rcases hown.2 with ⟨e1,_⟩|⟨g',cap,cur,e1,h4,h5,h6,h7,h10,h11⟩
    ·rw [e1,e] at hb;cases hb
    ·have:g'=g:=by
      have:v'.ownBlock=some g':=by rw [e1];rfl
      rw [hb,e] at this;injection this with this;exact this.symm
     subst this;refine ⟨h1,cur,h5,?_⟩;obtain ⟨t,ht⟩:=hpre (e.trans hgv.symm);have hle:s.xs.length≤s.ys.length:=by rw [← ht];simp
     have hle2:s.xs.length*m≤(s.ys.length+1)*m:=qI m zo;have h12:=qt (List.take (s.xs.length*m)) h11;rw [x5,xc hle2] at h12;show cur.toList.take (s.xs.length*m)=s.xs.flatten;rw [h12,← ht,kr,qY,← eA hs.2.2.1,ke]
   ·exact ⟨h1,c,(hgn.block g (hlt _ _ _ h2) (by simp)).trans h2,h3⟩
  ·exact ⟨h1,c,(hg.block g (hlt _ _ _ h2) (λ e2=>e e2.symm)).trans h2,h3⟩
 ·refine (hg.block g (hlt _ _ _ h8) (λ e=>?_)).trans h8;obtain ⟨_,c2,h9⟩:=hs.lt (g:=g) (.inr e.symm);rw [h8] at h9;injection h9 with h9;injection h9 with _ h9 _;exact hHE h9
 ·exact (hg.block g (hlt _ _ _ h9) (λ e=>h8 (.inr e.symm))).trans h9
 ·rcases h8 with h8|h8
  ·exact .inl (.inl h8)
  ·rcases hb with hb|⟨hb,_⟩
   ·exact .inl (.inr (hb.symm.trans h8))
   ·have h8':v'.ownBlock=some g:=h8;rw [hb] at h8';injection h8' with h8';exact .inr (xK h8')
theorem ue:∀ {L:List Slt}{i:Nat}{s:Slt},L[i]?=some s→∀ z,(L.set i { s with z:=z }).flatMap Slt.cells=(L.flatMap Slt.cells).set (3*i+1) z
 | x::L,0,s,h,z=>by
  simp at h;subst h
  rfl
 | x::L,i+1,s,h,z=>by
  simp only [jm,xh];rw [ue (by simpa using h) z,show 3*(i+1)+1=(3*i+1)+3 by omega]
  rfl
theorem N5 {L:List Slt}:(L.flatMap Slt.cells).length=L.length*3:=by
 induction L with
 | nil=>rfl
 | cons x L ih=>rw [xh,qx,ih,zc];show 3+_=_;omega
theorem GG {L:List Slt}{B i g cap:Nat}{s:Slt}(hHE:H≠E)(z:Yo)(h:(HkA H E m vr L).p B cs w)(hi:L[i]?=some s)(hvr:vr=.slice (some ⟨g,0,none⟩) L.length cap):
  B≤g∧∃ c:Array Value,w.heap[g]?=some (Obj.cells c H (0,0))∧i*3+1<c.size∧(HkA H E m vr (L.set i { s with z:=z })).p B cs (w.setRow g (c.setIfInBounds (i*3+1) z)):=by
 obtain ⟨h1,h2,h3,h4⟩:=h;have hlt:i<L.length:=(List.getElem?_eq_some_iff.1 hi).1;rcases h2.2 with ⟨e,_⟩|⟨g',cap',cur,e,q2,q3,q4,q5,q6,q7⟩
 ·rw [hvr] at e;cases e
 ·rw [hvr] at e;injection e with e1 e2 e3;injection e1 with e1;injection e1 with e1;subst e1;have hsz:i*3+1<cur.size:=by
   rw [q6];have:L.length*3≤cap'*3:=qI 3 q4;omega
  have hnew:(w.setRow g (cur.setIfInBounds (i*3+1) z)).heap[g]?=some (Obj.cells (cur.setIfInBounds (i*3+1) z) H (0,0)):=setRow_heap w g _ _ _ _ q3;refine ⟨q2,cur,q3,hsz,h1,?_,λ t ht=>?_,λ j k t1 t2 hj hk hne g2 hg hg'=>?_⟩
  ·rw [qZ,ue hi];refine ⟨by rw [qZ,N5],.inr ⟨g,cap',_,?_,q2,hnew,q4,q5,by simp [q6],?_⟩⟩
   ·rw [hvr,e3]
   ·rw [x8,vf,q7,show 3*i+1=i*3+1 by omega]
  ·have hkeep:∀ t':Slt,t'.ok E m B w→t'.ok E m B (w.setRow g (cur.setIfInBounds (i*3+1) z)):=λ t' ht'=>ht'.keep λ g2 c2 hg2 h8=>by
    rw [setRow_other _ _ _ _ (λ e=>by subst e;rw [q3] at h8;injection h8 with h8;injection h8 with _ h8 _;exact hHE h8)];exact h8
   rcases qq ht with ht|rfl
   ·exact hkeep t (h3 t ht)
   ·exact hkeep _ (h3 s (qa hi))
  ·have hsame:∀ (j:Nat) t,(L.set i { s with z:=z })[j]?=some t→∃ t0,L[j]?=some t0∧∀ g,t.has g→t0.has g:=λ j t hj=>by
    by_cases e:j=i
    ·subst e;rw [List.getElem?_set_self hlt] at hj;injection hj with hj;subst hj;exact ⟨s,hi,λ g h=>h⟩
    ·rw [List.getElem?_set_ne (λ e2=>e e2.symm)] at hj;exact ⟨t,hj,λ g h=>h⟩
   obtain ⟨t3,r1,r2⟩:=hsame j t1 hj;obtain ⟨t4,r3,r4⟩:=hsame k t2 hk;exact h4 j k t3 t4 r1 r3 hne g2 (r2 g2 hg) (r4 g2 hg')
end
def Slt.view (s:Slt):As:=cat [EqS s.v,EqS s.z,NumA .i64 (s.n:Nat)]
theorem rt {B:Nat}{w:Yi}:∀ {L:List Slt},(∀ s∈L,s.v.oneCell'=true∧s.z.oneCell'=true)→(cat (L.map Slt.view)).p B (L.flatMap Slt.cells) w
 | [],_=>⟨[],rfl,.nil⟩
 | s::L,h=>by
  obtain ⟨ps,e,hp⟩:=rt (B:=B) (w:=w) (L:=L) λ t ht=>h t (by simp [ht]);refine ⟨s.cells::ps,by rw [xh,e];rfl,.cons ?_ hp⟩;exact ⟨[[s.v],[s.z],[.int .i64 s.n]],rfl,.cons ⟨rfl,(h s (by simp)).1⟩ (.cons ⟨rfl,(h s (by simp)).2⟩ (.cons G .nil))⟩
abbrev OneK (M:List Slt):Prop:=∀ s∈M,s.v.oneCell'=true∧s.z.oneCell'=true
theorem sg {H E m:Nat}{L:List Slt}(h:OneK L):Wk (HkA H E m vr L).va (SlA H [] (L.map Slt.view)).va:=λ B v w ⟨cs,⟨e,h2,_⟩,hv⟩=>by
 subst e;have hv':v=vr:=hv;subst hv';refine l7 (b:=B) (m:=3) B v w ⟨λ A hA=>?_,λ A hA T hT=>?_,L.flatMap Slt.cells,rt h,?_⟩
 ·obtain ⟨s,_,rfl⟩:=qp.1 hA;rfl
 ·obtain ⟨s,_,rfl⟩:=qp.1 hA;cases (show T∈([]:List TypeId) from hT)
 ·rw [qd];exact h2
theorem JE {H E m:Nat}{L:List Slt}:Wk (HkA H E m vr L).va (EqV vr):=λ B v w ⟨cs,⟨e,_⟩,hv⟩=>by
 subst e;exact hv
theorem nJ {L:List Slt}{i:Nat}{s:Slt}(h:L[i]?=some s):(L.map Slt.view)[i]?=some s.view:=by rw [List.getElem?_map,h];rfl
theorem rH {L:List Slt}:∀ A∈L.map Slt.view,A.n=3:=λ A hA=>by
 obtain ⟨s,_,rfl⟩:=qp.1 hA;rfl
structure MkP (A:Nat→As) (m:Nat):Prop where
 n:∀ k,(A k).n=m
 d:∀ k,(A k).deps=[]
 any:∀ k B B' w w' cs,(A k).p B cs w→(A k).p B' cs w'
def isMk (A:Nat→As)(k:Nat)(ds:List Value):Prop:=∃ B w,(A k).p B ds w
theorem MkP.len {A:Nat→As}{m k:Nat}(h:MkP A m){ds:Ym}(hd:isMk A k ds):ds.length=m:=by
 obtain ⟨B,w,hd⟩:=hd;rw [(A k).len _ _ _ hd,h.n]
theorem MkP.cat {A:Nat→As}{m k:Nat}(h:MkP A m){B:Nat}{w:Yi}:∀ {xs:Yx},(∀ x∈xs,isMk A k x)→(cat (List.replicate xs.length (A k))).p B xs.flatten w
 | [],_=>⟨[],rfl,.nil⟩
 | x::xs,hx=>by
  obtain ⟨ps,e,hp⟩:=h.cat (B:=B) (w:=w) (xs:=xs) λ y hy=>hx y (by simp [hy]);obtain ⟨B',w',h1⟩:=hx x (by simp);refine ⟨x::ps,by rw [zZ,zZ,e],?_⟩;rw [zc,kn];exact .cons (h.any _ _ _ _ _ _ h1) hp
theorem Ae {A:Nat→As}{E m k B:Nat}{xs:Yx}(hA:MkP A m)(h:RdyK E m B w v xs)(hx:∀ x∈xs,isMk A k x):(SlA E [] (List.replicate xs.length (A k))).va.p B v w:=by
 have hdep:∀ A'∈List.replicate xs.length (A k),∀ T∈A'.deps,T∈([]:List TypeId):=λ A' h1 T hT=>by
  rw [(xN.1 h1).2,hA.d] at hT;cases hT
 rcases h.1 with ⟨rfl,e⟩|⟨g,cap,rfl,h1,h2⟩
 ·refine ⟨[.slice none 0 0],⟨hdep,none,0,xs.flatten,by rw [qR,e],by rw [qR,e];exact qh _,zf _,hA.cat hx,λ h=>by rw [qR,e] at h;omega⟩,rfl⟩
 ·obtain ⟨_,c,h3,h4⟩:=h.2.2 g rfl;refine ⟨[.slice (some ⟨g,0,none⟩) xs.length cap],⟨hdep,_,cap,xs.flatten,by rw [qR],by rw [qR];exact h1,h2,hA.cat hx,λ _=>⟨g,0,rfl,(Array.getElem?_eq_some_iff.1 h3).1,.inr ⟨_,_,h3⟩,λ j u hu=>?_⟩⟩,rfl⟩;rw [cell_of_row w g (0+j) c E _ h3,qV];rw [← h4,List.getElem?_take] at hu;split at hu
  ·simpa using hu
  ·cases hu
theorem tA {E m B:Nat}{ys:Yx}(hy:∀ y∈ys,y.length=m)(h:w.ownsRow B E m v ys.length ys.flatten):RdyK E m B w v ys:=by
 rcases h.2 with ⟨rfl,e⟩|⟨g,cap,cur,rfl,h1,h2,h3,h4,h5,h6⟩
 ·exact ⟨.inl ⟨rfl,e⟩,hy,λ g hg=>by cases hg⟩
 ·refine ⟨.inr ⟨g,cap,rfl,h3,h4⟩,hy,λ g' hg=>?_⟩;have:g=g':=by simpa [Value.ownBlock] using hg
  subst this;exact ⟨h1,cur,h2,h6⟩
section
open Rg
variable {P:Program}{Q:Exit→Act→World→Prop}{B N:Nat}{w0:Bs}{Γ:List (Nat × VA)}{Λ:List Lc}{a:Act}{w:World}{ops:Array Oper}{i:Nat}{K:Act→World→Prop}
theorem IJ {p d g k n sx:Nat}{ag:Bool}{E ty T T':Yh}{A0 A1:As}{ds:Ym}(src:Ya)(kp kd e:Nat)(ho:ops[i]?=some ⟨none,.store ty (.tmp p) (.tmp d),T',ps,af,none⟩)(h:St B w0 N Γ Λ a w)
  (hp:Γ[kp]?=some (p,EqV (.pointer (some ⟨g,k,none⟩)))) (hd:Γ[kd]?=some (d,EqV v)) (hv1:∀ c∈ds,c.oneCell'=true) (hvc:v.cells=ds.toArray) (hdl:ds.length=n) (ht:Ty P ty n ag) (hl:Λ[e]?=some ⟨sx,T,H,A0⟩) (hTE:(T != E)=true) (hrm:eZ w0 B E)
  (hsrc:src.all (λ k=>match Γ[k]? with|some y => !y.2.deps.contains E|none=>false)=true) (hΛ:Λ.zipIdx.all (λ x=>x.2==e || (x.1.T != E && !x.1.A.deps.contains E))=true)
  (htr:∀ cs,A0.p B cs w→B≤g∧∃ c:Array Value,w.heap[g]?=some (.cells c E (0,0))∧k+n≤c.size∧A1.p B cs (w.setRow g (c.toList.take k++ds++c.toList.drop (k+n)).toArray))
  (hK:∀ w',St B w0 N (src.filterMap λ k=>Γ[k]?) (Λ.set e ⟨sx,T,H,A1⟩) a w'→K (a.put none undef) w'):wpOp P ops Q i K a w:=by
 have e1:a.eval (.tmp p)=.pointer (some ⟨g,k,none⟩):=h.vals _ (qa hp);have e2:a.eval (.tmp d)=v:=h.vals _ (qa hd);obtain ⟨g0,cs0,q1,q2,q3,q4⟩:=h.locs _ (qa hl);obtain ⟨hB,c,hc,hkc,_⟩:=htr cs0 q4;have hrun:=bT ht w g k E c v ds hvc hdl hkc hv1 hc;unfold wpOp;simp only [ho,Region.wanted,if_true];refine .inl (wp_skip' (w':=w.setRow g (c.toList.take k++ds++c.toList.drop (k+n)).toArray) ?_ (hK _ (h.turn src e pY (λ g' e=>?_) hrm hl hTE hsrc hΛ λ cs hp=>?_)))
 ·simp [execOp,e1,e2,Instr.storeAt,Instr.sureAddr,hrun]
 ·injection e with e;subst e;exact ⟨hB,_,_,hc⟩
 ·obtain ⟨_,c',hc',_,h5⟩:=htr cs hp;rw [hc] at hc';injection hc' with hc';injection hc' with hc';subst hc';exact h5
theorem St.pinV {s:Nat}{A:As}(h:St B w0 N Γ Λ a w)(k:Nat)(hm:Γ[k]?=some (s,A.va)):∃ v ds,A.p B ds w∧v.cells=ds.toArray∧(∀ c∈ds,c.oneCell'=true)∧St B w0 N (Γ.set k (s,EqV v)) Λ a w:=by
 obtain ⟨ds,h1,h2⟩:=h.vals _ (qa hm);exact ⟨a.eval (.tmp s),ds,h1,by rw [show a.eval (.tmp s)=cE A.ag ds from h2];exact A.cells_shape h1,A.one _ _ _ h1,h.lo,h.defers,h.size,h.base,λ y hy=>by
  rcases qq hy with hy|rfl
  ·exact h.vals y hy
  ·exact rfl,h.locs,h.dis⟩
end
structure BkRest where
 n:Nat
 vn:Value
 N:List Slt
 vy:Value
 R:List Slt
 ve:Value
 M:List Slt
abbrev nuA (X:BkRest):As:=HkA 142 3 1 X.vn X.N
abbrev ryA (X:BkRest):As:=HkA 169 117 8 X.vy X.R
abbrev elA (X:BkRest):As:=HkA 172 91 9 X.ve X.M
def BqA (X:BkRest)(vr:Value)(L:List Slot):As:=cat [NumA .i64 (X.n:Nat),HbA vr L,nuA X,EqS (.slice none 0 0),EqS (.slice none 0 0),EqS (.slice none 0 0),EqS (.slice none 0 0),EqS (.slice none 0 0),ryA X,elA X,EqS (.slice none 0 0),EqS (.slice none 0 0),EqS (.slice none 0 0),EqS (.slice none 0 0),EqS (.slice none 0 0),EqS (.slice none 0 0),EqS (.slice none 0 0)]
theorem rA {X X':BkRest}{vr vr':Yo}{L L':List Slot}(h:(BqA X vr L).p B cs w)(hn:X'.n=X.n)(f1:∀ c,(HbA vr L).p B c w→(HbA vr' L').p B c w')(f2:∀ c,(nuA X).p B c w→(nuA X').p B c w')(f3:∀ c,(ryA X).p B c w→(ryA X').p B c w')(f4:∀ c,(elA X).p B c w→(elA X').p B c w'):(BqA X' vr' L').p B cs w':=by
 obtain ⟨ps,e,hp⟩:=h;refine ⟨ps,e,?_⟩;cases hp with
 | cons h1 hp=>cases hp with
  | cons h2 hp=>cases hp with
   | cons h3 hp =>
    refine .cons (by rw [hn];exact h1) (.cons (f1 _ h2) (.cons (f2 _ h3) ?_))
    iterate 5 (cases hp;rename_i h3 hp;refine .cons h3 ?_)
    cases hp;rename_i h3 hp;refine .cons (f3 _ h3) ?_;cases hp;rename_i h3 hp;refine .cons (f4 _ h3) ?_
    iterate 7 (cases hp;rename_i h3 hp;refine .cons h3 ?_)
    cases hp;exact .nil
theorem cI {X:BkRest}{L:List Slot}(h:(BqA X vr L).p B cs w):(∃ c,(HbA vr L).p B c w)∧(∃ c,(nuA X).p B c w)∧(∃ c,(ryA X).p B c w)∧(∃ c,(elA X).p B c w):=by
 obtain ⟨ps,e,hp⟩:=h;cases hp with
 | cons h1 hp=>cases hp with
  | cons h2 hp=>cases hp with
   | cons h3 hp =>
    iterate 5 (cases hp;rename_i _ hp)
    cases hp;rename_i h4 hp;cases hp;rename_i h5 hp;exact ⟨⟨_,h2⟩,⟨_,h3⟩,⟨_,h4⟩,⟨_,h5⟩⟩
theorem As.kwr {A:As}{B g T:Nat}{c c':Array Yo}(h:A.p B cs w)(hgc:w.heap[g]?=some (.cells c T (0,0)))(hT:T ∉ A.deps)(hB:B≤g):A.p B cs (w.setRow g c'):=A.wr _ _ _ _ _ _ _ _ hgc hT hB (Wr.setRow w g c') h
theorem H9 {X:BkRest}{L L':List Slot}{B g T:Nat}{c c':Array Yo}(h:(BqA X vr L).p B cs w)(hgc:w.heap[g]?=some (.cells c T (0,0)))(hT:T ∉ [142,3,169,117,172,91])(hB:B≤g)(f1:∀ c0,(HbA vr L).p B c0 w→(HbA vr L').p B c0 (w.setRow g c')):(BqA X vr L').p B cs (w.setRow g c'):=by
 simp only [qr,zF,or_false,not_or] at hT;have k:∀ {H E m:Nat}{v:Value}{M:List Slt},T≠H→T≠E→∀ c0,(HkA H E m v M).p B c0 w→(HkA H E m v M).p B c0 (w.setRow g c'):=λ {H E m v M} h1 h2 c0 hp=>As.kwr hp hgc (show T ∉ [H,E] by simp [h1,h2]) hB;exact rA h G f1 (k hT.1 hT.2.1) (k hT.2.2.1 hT.2.2.2.1) (k hT.2.2.2.2.1 hT.2.2.2.2.2)
theorem NU {X:BkRest}{L L':List Slot}{B T:Nat}{row:Yt}(h:(BqA X vr L).p B cs w)(hg:w.grownBy w' row)(hr:gj w B T row)(hT:T ∉ [142,3,169,117,172,91])(f1:∀ c0,(HbA vr L).p B c0 w→(HbA vr L').p B c0 w'):(BqA X vr L').p B cs w':=by
 simp only [qr,zF,or_false,not_or] at hT;have k:∀ {H E m:Nat}{v:Value}{M:List Slt},T≠H→T≠E→∀ c0,(HkA H E m v M).p B c0 w→(HkA H E m v M).p B c0 w':=λ {H E m v M} h1 h2 c0 hp=>As.grown hp hg hr (qh _) (show T ∉ [H,E] by simp [h1,h2]);exact rA h G f1 (k hT.1 hT.2.1) (k hT.2.2.1 hT.2.2.2.1) (k hT.2.2.2.2.1 hT.2.2.2.2.2)
section
open Rg
variable {P:Program}{Q:Exit→Act→World→Prop}{R:Rg}{B i:Nat}{w0:Bs}
theorem JH {X:BkRest}{x:Yj}{L:List Slot}{s:Slot}{q:Nat}(hx:Has R B w0 i x (EqS s.v).va)(hl:LocH R i q 59 ptrH (BqA X vr L))(hs:s∈L)(ok:okL s.xs):Has R B w0 i x (MgA s.xs).va:=λ a w av=>by
 obtain ⟨g,cs,_,_,_,h⟩:=hl.ok av;obtain ⟨c,h⟩:=(cI h).1;rw [mz (hx a w av)];exact Ac (h.2.2.1 s hs).2 ok
theorem ov {X:BkRest}{x y:Yj}{L:List Slot}{s:Slot}(hx:Has R B w0 i x (EqS s.v).va)(hl:Has R B w0 i y (ElP T (BqA X vr L)))(hs:s∈L)(ok:okL s.xs):Has R B w0 i x (MgA s.xs).va:=λ a w av=>by
 obtain ⟨b,o,cs,_,_,_,h,_⟩:=hl a w av;obtain ⟨c,h⟩:=(cI h).1;rw [mz (hx a w av)];exact Ac (h.2.2.1 s hs).2 ok
theorem ow {X:BkRest}{x y:Yj}{L:List Slot}{s:Slot}(hx:Has R B w0 i x (EqS s.z).va)(hz:s.z=s.u)(hl:Has R B w0 i y (ElP T (BqA X vr L)))(hs:s∈L)(ok:okL s.ys):Has R B w0 i x (MgA s.ys).va:=λ a w av=>by
 obtain ⟨b,o,cs,_,_,_,h,_⟩:=hl a w av;obtain ⟨c,h⟩:=(cI h).1;rw [mz (hx a w av),hz];exact Ac (AM (h.2.2.1 s hs).1) ok
end
theorem KA {X:BkRest}{L:List Slot}{B i k g cap:Nat}{s:Slot}(hn:∀ s∈L,s.new)(hi:L[i]?=some s)(hk:k<s.xs.length)(hv:s.v=.slice (some ⟨g,0,none⟩) s.xs.length cap)(h:(BqA X vr (fl L i k)).p B cs w):
  B≤g∧∃ c:Array Value,w.heap[g]?=some (Obj.cells c U32 (0,0))∧k*1<c.size∧(BqA X vr (fl L i (k+1))).p B cs (w.setRow g (c.setIfInBounds (k*1) (.int .u32 (mkN s.n:Nat)))):=by
 obtain ⟨c0,h0⟩:=(cI h).1;have hs:=hn s (qa hi);have key:∀ c1,(HbA vr (fl L i k)).p B c1 w→B≤g∧∃ c:Array Value,w.heap[g]?=some (Obj.cells c U32 (0,0))∧k<c.size∧(HbA vr (fl L i (k+1))).p B c1 (w.setRow g (c.setIfInBounds k (lv (mkN s.n)))):=λ c1 h1=>by
  have:=JF (m:=mkN s.n) (k:=k) (g:=g) (cap:=cap) h1 (EZ hi) hs.uv rfl (by rw [iW (xa hk)];exact hv) (by rw [iW (xa hk)];exact hk);rwa [K2 hi hk] at this
 obtain ⟨h2,c,h3,h4,h5⟩:=key c0 h0;rw [zH];refine ⟨h2,c,h3,h4,H9 h h3 zd h2 (λ c1 h6=>?_)⟩;obtain ⟨_,c',h7,_,h8⟩:=key c1 h6;rw [h3] at h7;injection h7 with h7;injection h7 with h7;subst h7;exact h8
theorem sO {X:BkRest}{M:List Slot}{B N:Nat}{s:Nat}(h:St B w0 N Γ Λ a w)(k:Nat)(hm:Λ[k]?=some ⟨s,T,H,BqA X vr M⟩):RowV vr M.length∧∀ t∈M,RowV t.u t.ys.length∧RowV t.v t.xs.length:=by
 obtain ⟨g,cs,_,_,_,hp⟩:=h.locs _ (qa hm);obtain ⟨c,h1,h2,h3,_⟩:=(cI hp).1;exact ⟨(cV h2).2,λ t ht=>⟨(cV (h3 t ht).1).2,(h3 t ht).2.1⟩⟩
theorem NT {X:BkRest}{M:List Slot}{B N:Nat}{s:Nat}(h:St B w0 N Γ Λ a w)(k:Nat)(hm:Λ[k]?=some ⟨s,T,H,BqA X vr M⟩)(hz:∀ t∈M,t.z.oneCell'=true∨t.z=t.u):One1 M:=λ t ht=>by
 obtain ⟨h1,h2⟩:=(sO h k hm).2 t ht;refine ⟨h2.one,?_⟩;rcases hz t ht with e|e
 ·exact e
 ·rw [e];exact h1.one
theorem NV {X:BkRest}{vr v':Yo}{M:List Slot}{B i k:Nat}{s:Slot}{u:Yo}(hf:s.full)(hi:M[i]?=some (s.ext u k))(h:(BqA X vr M).p B cs w):
  w.ownsRow B U32 1 u (s.xs.length+k) ((List.replicate (s.xs.length+k) (mkN s.n)).map lv)∧∀ v' w' ds,ds=[lv (mkN s.n)]→w'.ownsRow B U32 1 v' (s.xs.length+k+1) ((List.replicate (s.xs.length+k) (mkN s.n)).map lv++ds)→w.grownBy w' u.ownBlock→(v'.ownBlock=u.ownBlock∨(v'.ownBlock=some w.heap.size∧w.grownBy w' none))→(BqA X vr (M.set i (s.ext v' (k+1)))).p B cs w':=by
 have hlen:(List.replicate (s.xs.length+k) (mkN s.n)).length=s.xs.length+k:=qR;obtain ⟨c0,h0⟩:=(cI h).1;have hown0:w.ownsRow B U32 1 u (s.xs.length+k) ((List.replicate (s.xs.length+k) (mkN s.n)).map lv):=by
  have:=(h0.2.2.1 _ (qa hi)).1;have e:(s.ext u k).ys.length=s.xs.length+k:=hlen;rw [e] at this;exact this
 refine ⟨hown0,λ v' w' ds hds hown hg hb=>?_⟩;subst hds;refine NU h hg (dR hown0) zd (λ c hc=>?_);have:=MW (v':=v') (m:=mkN s.n) hc hi (by show World.ownsRow w' B U32 1 v' ((List.replicate (s.xs.length+k) (mkN s.n)).length+1) _;rw [hlen];exact hown) hg hb λ _=>by
  show s.xs <+: List.replicate (s.xs.length+k) (mkN s.n);rw [hf.xm,qR];exact ⟨List.replicate k (mkN s.n),List.replicate_append_replicate⟩
 have e:({ s.ext u k with u:=v',ys:=(s.ext u k).ys++[mkN s.n] }:Slot)=s.ext v' (k+1):=by
  show Slot.mk s.v s.xs v' (List.replicate (s.xs.length+k) (mkN s.n)++[mkN s.n]) s.z s.n=Slot.mk s.v s.xs v' (List.replicate (s.xs.length+(k+1)) (mkN s.n)) s.z s.n;rw [← x6,je]
 rw [e] at this;exact this
theorem NS {X:BkRest}{vr z:Yo}{M:List Slot}{B i g cap:Nat}{s:Slot}(hi:M[i]?=some s)(hvr:vr=.slice (some ⟨g,0,none⟩) M.length cap)(h:(BqA X vr M).p B cs w):
  B≤g∧∃ c:Array Value,w.heap[g]?=some (Obj.cells c 138 (0,0))∧i*3+1<c.size∧(BqA X vr (M.set i { s with z:=z })).p B cs (w.setRow g (c.setIfInBounds (i*3+1) z)):=by
 obtain ⟨c0,h0⟩:=(cI h).1;obtain ⟨h2,c,h3,h4,h5⟩:=GI z h0 hi hvr;refine ⟨h2,c,h3,h4,H9 h h3 zd h2 (λ c1 h6=>?_)⟩;obtain ⟨_,c',h7,_,h8⟩:=GI z h6 hi hvr;rw [h3] at h7;injection h7 with h7;injection h7 with h7;subst h7;exact h8
def GqA (X:BkRest)(vr:Value)(L:List Slot):As where
 n:=17
 ag:=true
 p B cs w:=∃ M,Gr L M L.length∧(BqA X vr M).p B cs w
 deps:=[138,U32,142,3,169,117,172,91]
 len:=λ B cs w ⟨M,_,h⟩=>(BqA X vr M).len B cs w h
 one:=λ B cs w ⟨M,_,h⟩=>(BqA X vr M).one B cs w h
 ag1:=λ h=>by cases h
 cg:=λ B cs w w' hg ⟨M,h1,h⟩=>⟨M,h1,(BqA X vr M).cg B cs w w' hg h⟩
 wr:=λ B cs w w' g c T fz h1 h2 h3 h4 ⟨M,h5,h⟩=>⟨M,h5,(BqA X vr M).wr B cs w w' g c T fz h1 h2 h3 h4 h⟩
theorem Ps {X:BkRest}{L M:List Slot}(h:Gr L M L.length):WkA (BqA X vr M) (GqA X vr L):=⟨rfl,rfl,λ B cs w hp=>⟨M,h,hp⟩⟩
theorem Pr {X:BkRest}{L:List Slot}{B N:Nat}{s:Nat}(h:St B w0 N Γ Λ a w)(k:Nat)(hm:Λ[k]?=some ⟨s,T,H,GqA X vr L⟩):∃ M,Gr L M L.length∧St B w0 N Γ (Λ.set k ⟨s,T,H,BqA X vr M⟩) a w:=by
 obtain ⟨g,cs,q1,q2,q3,M,hG,q4⟩:=h.locs _ (qa hm);obtain ⟨hk,he⟩:=List.getElem?_eq_some_iff.1 hm;have hs:∀ m∈Λ.set k ⟨s,T,H,BqA X vr M⟩,∃ m0∈Λ,m0.s=m.s:=λ m hm'=>by
  rcases qq hm' with hm' | rfl
  ·exact ⟨m,hm',rfl⟩
  ·exact ⟨_,qa hm,rfl⟩
 refine ⟨M,hG,h.lo,h.defers,h.size,h.base,h.vals,λ l hl=>?_,λ m1 hm1 m2 hm2 hne=>?_⟩
 ·rcases qq hl with hl|rfl
  ·exact h.locs l hl
  ·exact ⟨g,cs,q1,q2,q3,q4⟩
 ·obtain ⟨m3,r1,r2⟩:=hs m1 hm1;obtain ⟨m4,r3,r4⟩:=hs m2 hm2;rw [← r2,← r4] at hne ⊢;exact h.dis m3 r1 m4 r3 hne
theorem Kz {X:BkRest}{M:List Slot}{B N:Nat}{s:Nat}(h:St B w0 N Γ Λ a w)(k:Nat)(hm:Γ[k]?=some (s,ElP T (BqA X vr M)))(hz:∀ t∈M,t.z=t.u):One1 M:=λ t ht=>by
 obtain ⟨b,o,cs,_,_,_,hp,_⟩:=h.vals _ (qa hm);obtain ⟨c,h1,h2,h3,_⟩:=(cI hp).1;refine ⟨(h3 t ht).2.1.one,?_⟩;rw [hz t ht];exact (cV (h3 t ht).1).1
theorem K4 (X:BkRest)(vr:Yo)(L:List Slot)(hnew:∀ s∈L,s.new)(hl:L.length≤1000000):CK Tryz.prog 46 59 [59,138,139] (BqA X vr L) (BqA X vr (L.map λ s=>s.fil s.xs.length)) [] (Tu []):=by
 have h0:=K1 hnew;refine CK.intro Tryz.func46 G zk nq zk (λ B g w0 a hrm U=>?_);have U:=zn [(0,EqV ((ptrH).f g)),] [⟨0,59,ptrH,BqA X vr L⟩] U;rw [← h0] at U;refine qb<|zg U3 [] Ux UZ U (zE G ab) (zz R1 RO λ a w U=>?_);refine aa<|qk ?_;have U:=St.sel U [0,1];refine wp_loop_ghost (λ n a w=>∃ i:Nat,n+i=L.length∧St B w0 35 [(0,EqV (ptrH.f g)),(2,In (i:Nat))] [⟨0,59,ptrH,BqA X vr (fl L i 0)⟩] a w) (L.length) ?_ ?_
 ·exact ⟨0,by omega,U⟩
 intro n a w hI;obtain ⟨i,hn,U⟩:=hI;have hwL:=Pt (i:=i) (k:=0) hnew (λ _ _=>zf _);refine qb<|qb<|zg U3 [] (.v 5 _::.adr 6 0 (.some 0) True::.adr 7 0 (.some 0) True::.adr 8 0 (.some (0+1)) True::(Wb 9)) RP U (zM 1 G (oc (ob_a G G (gu (lz0 0 G))) (oc (ob_a G G (gr 1 G zk (lz0 0 G))) (oc (ob_a G G (eE 2 G zk trivial (lz0 0 G) du)) (zL 3 0 1 G mQ (zv G (bn xC (has_wk' (vq 4 G) (MU hwL))) (zv G (aO (vq 0 G) (vq 5 G)) o0))))))) (zz (Wa 0 2 11) RO λ a w U=>?_);refine zJ 2 U G (λ hb0=>?_) (λ hb0=>?_)
 ·have hi:i<L.length:=by simpa [BZ] using hb0
  obtain ⟨s,hs⟩:∃ s,L[i]?=some s:=⟨_,List.getElem?_eq_getElem hi⟩;have hwf:=hnew s (qa hs);refine qj<|zt<|qk<|qb<|bJ (sp:=[.adr 14 0 (.some 0) True,.adr 15 0 (.some 0) True,.adr 16 0 (.some (0+1)) True,.v 17 _,.v 18 _,.v 19 _,.v 20 _,.v 3 VT,.sto 0]) 7 2 0 8 OneC [.g 0,.g 1,.o 6] U (oc (ob_a G G (gu (lz0 0 G))) (oc (ob_a G G (gr 0 G zk (lz0 0 G))) (oc (ob_a G G (eE 1 G zk trivial (lz0 0 G) du)) (zL 2 0 1 G mQ (zM 1 G (zv G (bM (m:=3) ⟨xC,by kernel_rfl⟩ yf (has_wk' (vq 3 G) (MU hwL)) (vq 4 G) (rG (EZ hs))) (zv G (ap (vq 5 G) mZ) o0))))))) G zd zk zk (zz (Wa 0 2 20) RO λ a w U=>?_);rw [show List.range' 7 2=[7,8] from rfl];refine gy (A:=s.view) 2 [0,1] G G U (Str.zero lw) G mZ G zd G zk zk (λ a w U=>?_);refine bU ?_;have U:=zn R1 RS U;refine zt<|zg UE [] WP WQ U (zE G ab) (zz R2 RS λ a w U=>?_);refine aa<|qk ?_;have U:=St.sel U [0,1,2];refine wp_loop_ghost (λ n a w=>∃ k:Nat,n+k=s.xs.length∧St B w0 35 [(0,EqV (ptrH.f g)),(2,In (i:Nat)),(4,In (k:Nat))] [⟨0,59,ptrH,BqA X vr (fl L i k)⟩,⟨3,138,ptrH,s.view⟩] a w) (s.xs.length) ?_ ?_
  ·exact ⟨0,by omega,U⟩
  intro n a w hI;obtain ⟨k,hn2,U⟩:=hI;refine qb<|qb<|zg UE [] (.v 21 _::.adr 22 3 (.some 0) True::(Wb 23)) WS U (zM 2 G (zO 1 G ez (zL 1 1 0 G aW (zv G (aH qc (JH (s:=s.fil k) (vq 2 G) (lz0 0 G) (qa (EZ hs)) (C5 hwf.towf))) (zv G (aO (vq 0 G) (vq 3 G)) o0))))) (zz (Wf 0 2 4 25) RS λ a w U=>?_);refine zJ 3 U G (λ hb1=>?_) (λ hb1=>?_)
  ·have hk:k<s.xs.length:=by simpa [iW (show k≤s.xs.length by omega)] using hb1
   refine qj<|zt<|qk<|ia (sp:=[.adr 28 3 (.some 0) True,.v 29 _,.v 30 _,.adr 31 3 (.some 2) True,.v 32 _,.v 33 _,.v 34 VT,.sto 0]) [[],[0],[],[],[3],[3,4],[0,1,2,3,4,5],[0,1,2,3,4,5,6]] 6 2 0 7 OneC [.g 0,.g 1,.g 2,.o 1,.o 2,.o 5] ac U (zO 1 G ez (zL 0 1 0 G aW (zM 2 G (zO 1 G il (zL 3 1 2 G ty_3 (zQ G (Gu _ hwf.n1) (.o (vq 4 G)) o0)))))) G zd zd zk (fI zk) zk zk (zz (Wj 0 2 4 29 30 33) RS λ a w U=>?_);rw [show List.range' 6 2=[6,7] from rfl];obtain ⟨g1,cap1,hv1⟩:=hwf.rv.row hk;have U:=St.wkG U 3 rfl (show Wk (EqS s.v).va (EqV (.slice (some ⟨g1,0,none⟩) s.xs.length cap1)) from hv1▸pc);have U:=St.wkG U 5 rfl Hn;rw [qv];refine ml (m:=1) (k:=k) 3 4 G U ⟨qc,by kernel_rfl⟩ zd G G hk zd zk zk (λ a U=>?_);rw [qv];refine rY (A1:=BqA X vr (fl L i (k+1))) [1,2,3] 0 6 0 G U G G G G aN G zd (hrm _ zk) zk zk (λ cs hp=>KA hnew hs hk hv1 hp) (λ w U=>?_);refine dm ?_;have U:=zn R2 [⟨0,59,ptrH,BqA X vr (fl L i (k+1))⟩,O 3 138 _] U;refine al ?_;refine aa<|zg UE [] (W6 26 [.v 4 _]) WY U (zM 2 G (zv G (aL (vq 0 G) ab (aU (by have:=hwf.lx;omega))) (zA 1 G o0))) (zz R2 RS λ a w U=>?_);refine aa ?_;have U:=St.sel U [0,1,2];exact ⟨n-1,by omega,k+1,by omega,U⟩
  ·have hk:k=s.xs.length:=by simp [iW (show k≤s.xs.length by omega)] at hb1;omega
   subst hk;refine qP<|ai<|ai<|az<|al ?_;refine aa<|zg UE [] (W6 12 [.v 2 _]) Ue U (zM 1 G (zv G (aL (vq 0 G) ab (aU (by have:=hwf.lx;omega))) (zA 1 G o0))) (zz R1 RS λ a w U=>?_);refine aa ?_;have U:=St.sel U [0,1];have U:=St.selL U [0];exact ⟨L.length-(i+1),by omega,i+1,by omega,(K3 hs hnew)▸U⟩
 ·have hi:i=L.length:=by simp [BZ] at hb0;omega
  subst hi;rw [N6] at U;refine qP<|ai<|ai<|az<|cY<|gg U (zm 0 G) (zm 0 G) ?_;exact aX (rs:=[]) G U .nil zd
theorem JK (X:BkRest)(vr:Yo)(L:List Slot)(hfull:∀ s∈L,s.full)(hl:L.length≤1000000):CK Tryz.prog 62 59 [59,138,139] (BqA X vr L) (GqA X vr L) [] (Tu []):=by
 obtain ⟨it0,z0,hi0,hz0,hs0,hb0',hc0⟩:=FG;refine CK.intro Tryz.func62 G zk nq zk (λ B g w0 a hrm U=>?_);have U:=zn [(0,EqV ((ptrH).f g)),] [⟨0,59,ptrH,BqA X vr L⟩] U;refine qb<|zg U3 [] Ux UZ U (zE G ab) (zz R1 RO λ a w U=>?_);refine aa<|qk ?_;have U:=St.sel U [0,1];refine wp_loop_ghost (λ n a w=>∃ (i:Nat) (M:List Slot),(n+i=L.length∧Gr L M i)∧St B w0 42 [(0,EqV (ptrH.f g)),(2,In (i:Nat))] [⟨0,59,ptrH,BqA X vr M⟩] a w) (L.length) ?_ ?_
 ·exact ⟨0,L,⟨by omega,gr_0⟩,U⟩
 intro n a w hI;obtain ⟨i,M,⟨hn,hG⟩,U⟩:=hI;have h1M:=NT U 0 rfl (gr_z hG hfull);refine qb<|qb<|zg U3 [] (.v 6 _::.adr 7 0 (.some 0) True::.adr 8 0 (.some 0) True::.adr 9 0 (.some (0+1)) True::(Wb 10)) RP U (zM 1 G (oc (ob_a G G (gu (lz0 0 G))) (oc (ob_a G G (gr 1 G zk (lz0 0 G))) (oc (ob_a G G (eE 2 G zk trivial (lz0 0 G) du)) (zL 3 0 1 G mQ (zv G (bn xC (has_wk' (vq 4 G) (tU h1M))) (zv G (aO (vq 0 G) (vq 5 G)) o0))))))) (zz (Wa 0 2 12) RO λ a w U=>?_);refine zJ 2 U G (λ hb0=>?_) (λ hb0=>?_)
 ·have hi:i<L.length:=by have:=hG.1;simpa [this] using hb0
  obtain ⟨s,hs⟩:∃ s,L[i]?=some s:=⟨_,List.getElem?_eq_getElem hi⟩;have hf:=hfull s (qa hs);have hn1:=hf.n1;have hMi:=Pq hG hs;have hMlt:i<M.length:=by rw [hG.1];exact hi
  refine qj<|zt<|qk<|qb<|bJ (sp:=[.adr 15 0 (.some 0) True,.adr 16 0 (.some 0) True,.adr 17 0 (.some (0+1)) True,.v 18 _,.v 19 _,.v 20 _,.v 21 _,.v 3 VT,.sto 0]) 7 2 0 8 OneC [.g 0,.g 1,.o 6] U (oc (ob_a G G (gu (lz0 0 G))) (oc (ob_a G G (gr 0 G zk (lz0 0 G))) (oc (ob_a G G (eE 1 G zk trivial (lz0 0 G) du)) (zL 2 0 1 G mQ (zM 1 G (zv G (bM (m:=3) ⟨xC,by kernel_rfl⟩ yf (has_wk' (vq 3 G) (tU h1M)) (vq 4 G) (rG hMi)) (zv G (ap (vq 5 G) mZ) o0))))))) G zd zk zk (zz (Wa 0 2 21) RO λ a w U=>?_);rw [show List.range' 7 2=[7,8] from rfl];refine gy (A:=s.view) 2 [0,1] G G U (Str.zero lw) G mZ G zd G zk zk (λ a w U=>?_);refine bU ?_;have U:=zn R1 RS U;refine zt<|zg UE [] [.adr 22 3 (.some 0) True,.v 23 _,.v 4 _] WY U (zO 1 G ez (zL 0 1 0 G aW (zA 1 G o0))) (zz R2 RS ?_);refine ztA<|zsA<|zgA UC [] UU WX (zE G ab) (zz (Wf 0 2 4 5) RS λ a w U=>?_);refine aa<|qk ?_;have U:=St.sel U [0,1,2,3];refine wp_loop_ghost (λ n a w=>∃ (k:Nat) (u:Value),n+k=70∧St B w0 42 [(0,EqV (ptrH.f g)),(2,In (i:Nat)),(4,EqV u),(5,In (k:Nat))] [⟨0,59,ptrH,BqA X vr (M.set i (s.ext u k))⟩,⟨3,138,ptrH,s.view⟩] a w) (70) ?_ ?_
  ·have U:=St.cvA (A':=BqA X vr (M.set i (s.ext s.v 0))) U 0 rfl (show BqA X vr M=_ by rw [Pw hf,DC hMi]);have U:=St.wkG U 2 rfl pc;exact ⟨0,s.v,by omega,U⟩
  intro n a w hI;obtain ⟨k,u,hn2,U⟩:=hI;refine qb<|qb<|zg UE [] (W6 24) UW U (zM 3 G (zv G (aO (vq 0 G) ab) o0)) (zz (W8 0 2 4 5 25) RS λ a w U=>?_);refine zJ 4 U G (λ hb1=>?_) (λ hb1=>?_)
  ·have hk:k<70:=by have:=hb1;simp at this;omega
   refine qj<|zt<|qk<|bJ (sp:=[.v 28 _,.adr 29 3 (.some 2) True,.v 30 _,.v 31 _,.v 32 _,.v 33 VT,.v 4 VT]) 5 2 99 9 OneC [.g 0,.g 1,.g 3,.o 0,.o 4] U (zM 2 G (zO 1 G il (zL 1 1 2 G ty_3 (zQ G (Gu _ hn1) (.o (vq 2 G)) (zv G (dq (l:=[_]) (xs:=[.tmp 31]) aZ zk nq nq (okm hn1) (.o (vq 3 G)) G G) o0))))) G zd zk zk (zz (W8 0 2 5 28 32) RS λ a w U=>?_);rw [show List.range' 5 2=[5,6] from rfl];have U:=St.wkG U 4 rfl L0;rw [qv];refine iT (A1:=λ v'=>BqA X vr (M.set i (s.ext v' (k+1)))) (X:=NumA .u32 (mkN s.n:Nat)) (F:=λ ds=>ds=[lv (mkN s.n)]) [0,1,2] 3 4 0 rfl U rfl rfl (λ ds h=>h) rfl rfl rfl (hrm _ zk) qc hi0 hz0 hs0 hb0' hc0 Nat.one_pos (n:=s.xs.length+k) (by have:=hf.lx;omega) (by have:=hf.lx;omega) zd zk zk zk zk (λ cs hp=>by have h:=NV (v':=undef) hf (by rw [List.getElem?_set_self hMlt]) hp;simp only [yR] at h;exact h) (λ v' w U=>?_);rw [qv];refine o3 0 G U G zd zk zk (λ a U=>?_);refine bU ?_;have U:=zn (W8 4 33 0 2 5) [⟨0,59,ptrH,BqA X vr (M.set i (s.ext v' (k+1)))⟩,O 3 138 _] U;refine al ?_;refine aa<|zg UE [] (W6 26 [.v 5 _]) [.g 0,.g 2,.g 3,.o 2] U (zM 4 G (zv G (aL (vq 0 G) ab (aU zo)) (zA 1 G o0))) (zz (Wf 4 0 2 5) RS λ a w U=>?_);refine aa ?_;have U:=St.sel U [1,2,0,3];exact ⟨n-1,by omega,k+1,v',by omega,U⟩
  ·have hk:k=70:=by simp at hb1;omega
   subst hk;have hu:=((sO U 0 rfl).2 _ (List.mem_set hMlt _)).1;have hu1:=hu.one;have hu2:u.cells = #[u]:=hu.cell;refine qP<|ai<|ai<|az<|aa<|bJ (sp:=[.adr 34 0 (.some 0) True,.adr 35 0 (.some 0) True,.adr 36 0 (.some (0+1)) True,.v 37 _,.v 38 _,.v 39 _,.v 40 VT,.v 41 VT,.sto 0]) 6 3 0 8 OneC [.g 0,.g 1,.o 3,.o 4,.o 5] U (oc (ob_a G G (gu (lz0 0 G))) (oc (ob_a G G (gr 0 G zk (lz0 0 G))) (oc (ob_a G G (eE 1 G zk trivial (lz0 0 G) du)) (zL 2 0 1 G mQ (zM 1 G (zM 2 G o0)))))) G zd zk zk (zz (W8 0 2 37 38 39) RS λ a w U=>?_);rw [show List.range' 6 3=[6,7,8] from rfl];have U:=St.selL U [0];have U:=St.wkG U 2 rfl JG;have hvr:=(sO U 0 rfl).1;obtain ⟨g1,cap1,hv1⟩:=hvr.row (show i<_ by rw [qZ,hG.1];exact hi);have U:=St.cvG U 2 rfl (qt EqV hv1);rw [qv];refine ml (m:=3) (k:=i) 2 3 G U ⟨xC,by kernel_rfl⟩ zd G G (by rw [qZ,hG.1];exact hi) zd zk zk (λ a U=>?_);rw [qv];refine fj 0 G U io G zd zk zk (λ a U=>?_);rw [qv];refine rY (A1:=BqA X vr ((M.set i (s.ext u 70)).set i { s.ext u 70 with z:=u })) [2,3] 0 6 0 G U G G hu1 hu2 aW G zd (hrm _ zk) zk zk (λ cs hp=>NS (by rw [List.getElem?_set_self hMlt]) hv1 hp) (λ w U=>?_);refine dm ?_;have U:=zn R1 RO U;refine al ?_;refine aa<|zg U3 [] (W6 13 [.v 2 _]) Ue U (zM 1 G (zv G (aL (vq 0 G) ab (aU zo)) (zA 1 G o0))) (zz R1 RO λ a w U=>?_);refine aa ?_;have U:=St.sel U [0,1];exact ⟨L.length-(i+1),by omega,i+1,_,⟨by omega,JO hG hs⟩,(yR (M:=M) (i:=i))▸U⟩
 ·have hi:i=L.length:=by have:=hG.1;simp [this] at hb0;omega
  subst hi;have U:=St.wkL (A':=GqA X vr L) U 0 rfl (Ps hG);refine qP<|ai<|ai<|az<|cY<|gg U (zm 0 G) (zm 0 G) ?_;exact aX (rs:=[]) G U .nil zd
theorem Jk (X:BkRest)(vr:Yo)(M:List Slot)(hdone:∀ t∈M,t.done)(hl:M.length≤1000000):Cn Tryz.prog 78 [ElP 59 (BqA X vr M)] (Bo true):=by
 refine Cn.intro Tryz.func78 G zk nq (zy [(0,ElP 59 (BqA X vr M))] λ B w0 a U=>?_);have h1M:=Kz U 0 rfl (λ t ht=>(hdone t ht).zu);refine qb<|zh Ux UZ U (zE G aJ) (zz R1 [] ?_);refine ztA<|zsA<|zhA Rr WQ (zE G ab) (zz Rt [] λ a w U=>?_);refine aa<|qk ?_;have U:=St.sel U [0,2];refine wp_loop_ghost (λ n a w=>∃ (i:Nat),n+i=M.length∧St B w0 64 [(0,ElP 59 (BqA X vr M)),(3,In (i:Nat))] [] a w) (M.length) ?_ ?_
 ·exact ⟨0,by omega,U⟩
 intro n a w hI;obtain ⟨i,hn,U⟩:=hI;refine qb<|qb<|zh (WG 6) RP U (zM 1 G (zM 0 G (zv G (m9 (vq 1 G)) (zv G (bP (vq 2 G) du (Sub.part 1 G G)) (zv G (ap (vq 3 G) mQ) (zv G (bn xC (has_wk' (vq 4 G) (tU h1M))) (zv G (aO (vq 0 G) (vq 5 G)) o0))))))) (zz (Wa 0 3 12) [] λ a w U=>?_);refine zJ 2 U G (λ hb0=>?_) (λ hb0=>?_)
 ·have hi:i<M.length:=by have:=hb0;simp at this;omega
  obtain ⟨t,ht⟩:∃ t,M[i]?=some t:=⟨_,List.getElem?_eq_getElem hi⟩;have hmem:=qa ht;have hd:=hdone t hmem;refine qj<|zt<|qk<|qb<|tZ (sp:=[.v 15 _,.v 16 _,.v 17 _,.v 18 _,.v 19 _,.v 20 _,.v 21 _,.alc 0,.sto 0]) 7 2 4 [.g 0,.g 1,.o 6] U (zM 0 G (zv G (m9 (vq 0 G)) (zv G (bP (vq 1 G) du (Sub.part 1 G G)) (zv G (ap (vq 2 G) mQ) (zM 1 G (zv G (bM (m:=3) ⟨xC,by kernel_rfl⟩ yf (has_wk' (vq 3 G) (tU h1M)) (vq 4 G) (rG ht)) (zv G (ap (vq 5 G) mZ) o0))))))) G zk zk (zz (Wa 0 3 21) [] λ a w U=>?_);rw [show List.range' 7 2=[7,8] from rfl];refine gy (A:=t.view) 2 [0,1] G G U (Str.zero lw) G mZ G zd G zk zk (λ a w U=>?_);refine bU ?_;have U:=zn UK RT U;refine zt<|qb<|zg U3 [] (.adr 22 4 (.some 1) True::(W6 23 (.adr 25 4 (.some 0) True::(Ww 26)))) (We [.o 7]) U (zO 0 G io (zL 0 0 1 G aW (zv G (aH qc (ow (vq 1 G) hd.zu (gq 0 G) hmem (Cl hd))) (zO 0 G ez (zL 3 0 0 G aW (zv G (aH qc (ov (vq 4 G) (gq 0 G) hmem (Co hd))) (zv G (aL (vq 5 G) ab (L3 hd.lx)) (zv G (c9 (vq 2 G) (vq 6 G)) o0)))))))) (zz (Wa 0 3 29) RT λ a w U=>?_);refine zJ 2 U G (λ hb1=>?_) (λ hb1=>?_)
  ·exact absurd hb1 (by rw [oQ hd];simp)
  ·refine qj<|zt<|zg U3 [] UU WQ U (zE G ab) (zz (Wa 0 3 5) RT λ a w U=>?_);refine aa<|qk ?_;have U:=St.sel U [0,1,2];refine wp_loop_ghost (λ n a w=>∃ (k:Nat),n+k=t.ys.length∧St B w0 64 [(0,ElP 59 (BqA X vr M)),(3,In (i:Nat)),(5,In (k:Nat))] [⟨4,138,ptrH,t.view⟩] a w) (t.ys.length) ?_ ?_
   ·exact ⟨0,by omega,U⟩
   intro n a w hI;obtain ⟨k,hn2,U⟩:=hI;refine qb<|qb<|zg U3 [] (.v 30 _::.adr 31 4 (.some 1) True::(Wb 32)) WS U (zM 2 G (zO 0 G io (zL 1 0 1 G aW (zv G (aH qc (ow (vq 2 G) hd.zu (gq 0 G) hmem (Cl hd))) (zv G (aO (vq 0 G) (vq 3 G)) o0))))) (zz (Wf 0 3 5 34) RT λ a w U=>?_);refine zJ 3 U G (λ hb2=>?_) (λ hb2=>?_)
   ·have hk:k<t.ys.length:=by have:=hb2;simp at this;omega
    refine qj<|zt<|qk<|qb<|iV (anc:=[[],[0],[],[0,1,2],[0,1,2,3],[],[5],[0,1,2,3,4,5,6],[0,1,2,3,4,5,6,7],[0,1,2,3,4,5,6,7,8],[0,1,2,3,4,5,6,7,8,9],[0,1,2,3,4,5,6,7,8,9],[0,1,2,3,4,5,6,7,8,9,11],[0,1,2,3,4,5,6,7,8,9,11,12],[0,1,2,3,4,5,6,7,8,9,10,11,12,13],[0,1,2,3,4,5,6,7,8,9,10,11,12,13,14],[0,1,2,3,4,5,6,7,8,9,10,11,12,13,14,15],[0,1,2,3,4,5,6,7,8,9,10,11,12,13,14,15,16],[0,1,2,3,4,5,6,7,8,9,10,11,12,13,14,15],[0,1,2,3,4,5,6,7,8,9,10,11,12,13,14,15,16,17,18],[0,1,2,3,4,5,6,7,8,9,10,11,12,13,14,15,16,17,18,19],[0,1,2,3,4,5,6,7,8,9,10,11,12,13,14,15],[0,1,2,3,4,5,6,7,8,9,10,11,12,13,14,15,21],[0,1,2,3,4,5,6,7,8,9,10,11,12,13,14,15,16,17,18,19,20,21,22],[0,1,2,3,4,5,6,7,8,9,10,11,12,13,14,15,16,17,18,19,20,21,22,23],[0,1,2,3,4,5,6,7,8,9,10,11,12,13,14,15,16,17,18,19,20,21,22,23,24],[0,1,2,3,4,5,6,7,8,9,10,11,12,13,14,15,16,17,18,19,20,21,22,23,24,25]]) (sts:=[none]) (news:=[]) (sp:=((.adr 37 4 (.some 1) True:Sp)::(.v 38 _)::(.v 39 _)::(.v 40 _)::(.v 41 _)::(.adr 42 4 (.some 2) True)::(.v 43 _)::(.v 44 _)::(.v 45 _)::(.v 46 _)::(.f 47 _)::(.adr 48 4 (.some 0) (_=false))::(.f 49 _)::(.f 50 _)::(.f 51 _)::(.f 52 _)::(.adr 53 4 (.some 0) ((_=false)∧_=true))::(.v 54 (Wh ((_=false)∧_=true) _))::(.v 55 (Wh ((_=false)∧_=true) _))::(.v 56 (Wh ((_=false)∧_=true) _))::(.v 57 (Wh ((_=false)∧_=true) _))::(.adr 58 4 (.some 2) ((_=false)∧_=true))::(.v 59 (Wh ((_=false)∧_=true) _))::(.v 60 (Wh ((_=false)∧_=true) _))::(.v 61 (Wh ((_=false)∧_=true) _))::(.f 62 _)::(.v 63 _)::[])) [.g 0,.g 1,.g 2,.o 26] ac U (zO 0 G io (zL 0 0 1 G aW (zM 2 G (zv G (bL ⟨qc,by kernel_rfl⟩ (ow (vq 1 G) hd.zu (gq 0 G) hmem (Cl hd)) (vq 2 G) hk) (zv G (ap (vq 3 G) aN) (zO 0 G il (zL 5 0 2 G ty_3 (zQ G (tQ _ _ hd.n1) (.p (vq 4 G) (vq 6 G)) (zv G (er (vq 7 G)) (zV 8 G (zB 9 G (λ hg=>aA (gq 2 G)) (zC 9 0 G ez (zB 9 G (λ hg=>aC 11 G zk hg (lz0 0 G) (Sub.part 0 G G) aW) (zB 9 G (λ hg=>aH qc (ov (ae (vq 12 G) hg) (gq 0 G) hmem (Co hd))) (zB 9 G (λ hg=>aO (ae (vq 10 G) hg) (ae (vq 13 G) hg)) (zB 9 G (λ hg=>aA (ae (vq 14 G) hg)) (oc (gp G G G (vq 15 G) nq (λ hg=>gi (lz0 0 G) ez)) (oc (bO G G G (vq 15 G) nq (λ hg=>aC 16 G zk hg (lz0 0 G) (Sub.part 0 G G) aW)) (oc (bO G G G (vq 15 G) nq (λ hg=>aA (gq 2 G))) (oc (bO G G G (vq 15 G) nq (λ hg=>nV ⟨qc,by kernel_rfl⟩ (ov (ae (vq 17 G) hg) (gq 0 G) hmem (Co hd)) (ae (vq 18 G) hg) (by have:=hg;simp at this;omega))) (oc (bO G G G (vq 15 G) nq (λ hg=>ap (ae (vq 19 G) hg) aN)) (oc (gp G G G (vq 15 G) nq (λ hg=>gi (lz0 0 G) il)) (oc (bO G G G (vq 15 G) nq (λ hg=>aC 21 G zk hg (lz0 0 G) (Sub.part 2 G G) ty_3)) (oc (bO G G G (vq 15 G) nq (λ hg=>ba (tQ _ _ hd.n1) (.p (ae (vq 20 G) hg) (ae (vq 22 G) hg)))) (oc (bO G G G (vq 15 G) nq (λ hg=>er (ae (vq 23 G) hg))) (zB 9 G (λ hg=>bE (ae (vq 15 G) hg) (fx (vq 24 G) hg)) (zv G (r_or (vq 9 G) (vq 25 G)) o0))))))))))))))))))))))))))) zk zk zk zk (zz (Wf 0 3 5 63) RT λ a w U=>?_);refine zJ 3 U G (λ hb3=>?_) (λ hb3=>?_)
    ·exact absurd (hb3.symm.trans (Jj hd hk)) zd
    ·refine qj<|al ?_;refine aa<|zg U3 [] (W6 35 [.v 5 _]) WY U (zM 2 G (zv G (aL (vq 0 G) ab (aU (by have:=hd.lx;have:=oQ hd;omega))) (zA 1 G o0))) (zz (Wa 0 3 5) RT λ a w U=>?_);refine aa ?_;have U:=St.sel U [0,1,2];exact ⟨n-1,by omega,k+1,by omega,U⟩
   ·have hk:k=t.ys.length:=by have:=hb2;simp at this;omega
    refine qP<|ai<|ai<|az<|al ?_;refine aa<|zg U3 [] (W6 13 [.v 3 _]) Ue U (zM 1 G (zv G (aL (vq 0 G) ab (aU zo)) (zA 1 G o0))) (zz UK RT λ a w U=>?_);refine aa ?_;have U:=St.sel U [0,1];have U:=St.selL U [];exact ⟨M.length-(i+1),by omega,i+1,by omega,U⟩
 ·have hi:i=M.length:=by have:=hb0;simp at this;omega
  refine qP<|ai<|ai<|az<|zt<|zh Ux UZ U (zE G aJ) (zz R1 [] λ a w U=>?_);exact aa<|qi<|ak G U (zm 1 G)
def MkI (n:Nat):As:=NumA .i64 (IntKind.i64.wrap (-1000-(n:Int)))
theorem mkp_i:MkP MkI 1:=⟨λ _=>rfl,λ _=>rfl,λ n=>λ _ _ _ _ _ h=>h⟩
section
variable {P:Program}{R:Rg}{Q:Exit→Act→World→Prop}{B i:Nat}{w0:Bs}
theorem pA {x:Yj}{S E':Yh}{n:Nat}(hS:P.underlying S=some (.slice E'))(hv:RowV v n)(hx:Has R B w0 i x (EqS v).va):Wv P Q R B w0 i (.call ⟨.builtin .len,#[x],#[S]⟩) (In n) :=
 bj λ d T ps af gd a w av=>by
  have e:=mz (hx a w av);rcases hv with ⟨rfl,rfl⟩|⟨g,cap,rfl,_⟩
  ·refine ⟨.int .i64 0,w,?_,Grow.refl w,bS _ _ _ _⟩;simp [execOp,resolve,invoke,builtin,e,Builtin.len_,run_underlying hS,goInt]
  ·refine ⟨.int .i64 (n:Int),w,?_,Grow.refl w,bS _ _ _ _⟩;simp [execOp,resolve,invoke,builtin,e,Builtin.len_,run_underlying hS,goInt]
end
theorem l9 (n0:Nat):Cn Tryz.prog 141 [In (n0:Nat)] ((MkI n0).va):=by
 refine Cn.intro Tryz.func141 G zk nq (zy [(0,In (n0:Nat))] λ B w0 a U=>?_);refine qb<|zh Ux UZ U (zE G ab) (zz R1 [] ?_);refine ztA<|zhA (W6 3 [.v 2 _]) U9 (zM 0 G (zv G (ce ab (vq 0 G) (G)) (zA 1 G o0))) (zz Uu [] λ a w U=>?_);refine aa<|qi<|am ?_ (ak G U (zm 0 G));exact aM
theorem nz (n0:Nat):Cn Tryz.prog 157 [(MkI n0).va,In (n0:Nat)] (Bo true):=by
 refine Cn.intro Tryz.func157 G zk nq (zy [(0,(MkI n0).va),(1,In (n0:Nat))] λ B w0 a U=>?_);refine qb<|zh WP WQ U (zE G aJ) (zz WR [] ?_);refine ztA<|zhA (Ww 5 [.v 4 _]) UL (zM 0 G (zM 1 G (zv G (ce ab (vq 1 G) (G)) (zv G (bF (vq 0 G) (vq 2 G)) (zA 3 G o0))))) (zz U0 [] λ a w U=>?_);refine aa<|qi<|am ?_ (ak G U (zm 0 G));refine bf (qt Bo ?_);simp
structure Slt.new (s:Slt):Prop where
 rv:RowV s.v s.xs.length
 z1:s.z.oneCell'=true
 n1:s.n≤1000000
 lx:s.xs.length≤2000000000
 uv:s.u=s.v
 yx:s.ys=s.xs
structure Fik (A:Nat→As) (s t:Slt) (c:Nat→Prop):Prop where
 v:t.v=s.v
 u:t.u=s.v
 yx:t.ys=t.xs
 z:t.z=s.z
 n:t.n=s.n
 l:t.xs.length=s.xs.length
 m:∀ q x,t.xs[q]?=some x→c q→isMk A s.n x
def FiK (A:Nat→As)(L M:List Slt)(i k:Nat):Prop:=M.length=L.length∧∀ (j:Nat) s,L[j]?=some s→∃ t,M[j]?=some t∧Fik A s t (λ q=>j<i∨(j=i∧q<k))
theorem Pv {A:Nat→As}{L:List Slt}(h:∀ s∈L,s.new):FiK A L L 0 0:=⟨rfl,λ j s hs=>⟨s,hs,rfl,(h s (qa hs)).uv,(h s (qa hs)).yx,rfl,rfl,rfl,λ q x _ hc=>by omega⟩⟩
theorem GL {A:Nat→As}{L M:List Slt}{i k j:Nat}{s:Slt}(h:FiK A L M i k)(hs:L[j]?=some s):∃ t,M[j]?=some t∧Fik A s t (λ q=>j<i∨(j=i∧q<k)):=h.2 j s hs
theorem F7 {A:Nat→As}{L M:List Slt}{i k:Nat}{s t:Slt}{ds:Ym}(h:FiK A L M i k)(hs:L[i]?=some s)(ht:M[i]?=some t)(hd:isMk A s.n ds):FiK A L (M.set i { t with xs:=t.xs.set k ds,ys:=t.xs.set k ds }) i (k+1):=by
 have hlt:=(List.getElem?_eq_some_iff.1 ht).1;refine ⟨by rw [qZ];exact h.1,λ j s' hj=>?_⟩;obtain ⟨t',h1,h2⟩:=h.2 j s' hj;by_cases e:j=i
 ·subst e;rw [hs] at hj;injection hj with hj;subst hj;rw [ht] at h1;injection h1 with h1;subst h1;refine ⟨_,List.getElem?_set_self hlt,h2.v,h2.u,rfl,h2.z,h2.n,by rw [qZ];exact h2.l,λ q x hq hc=>?_⟩;by_cases e2:q=k
  ·subst e2;have hq':(t.xs.set q ds)[q]?=some x:=hq;rw [List.getElem?_set] at hq';simp only [if_true] at hq';split at hq'
   ·injection hq' with hq';subst hq';exact hd
   ·cases hq'
  ·have hq':(t.xs.set k ds)[q]?=some x:=hq;rw [List.getElem?_set_ne (λ e3=>e2 e3.symm)] at hq';exact h2.m q x hq' zo
 ·refine ⟨t',by rw [List.getElem?_set_ne (λ e2=>e e2.symm)];exact h1,h2.v,h2.u,h2.yx,h2.z,h2.n,h2.l,λ q x hq hc=>h2.m q x hq ?_⟩;rcases hc with hc|⟨hc,_⟩
  ·exact .inl hc
  ·exact absurd hc e
theorem F8 {A:Nat→As}{L M:List Slt}{i:Nat}{s:Slt}(h:FiK A L M i s.xs.length)(hs:L[i]?=some s):FiK A L M (i+1) 0:=by
 refine ⟨h.1,λ j s' hj=>?_⟩;obtain ⟨t,h1,h2⟩:=h.2 j s' hj;refine ⟨t,h1,h2.v,h2.u,h2.yx,h2.z,h2.n,h2.l,λ q x hq hc=>h2.m q x hq ?_⟩;rcases hc with hc|⟨_,hc⟩
 ·by_cases e:j=i
  ·subst e;rw [hs] at hj;injection hj with hj;subst hj;have:=(List.getElem?_eq_some_iff.1 hq).1;exact .inr ⟨rfl,by rw [← h2.l];exact this⟩
  ·exact .inl zo
 ·omega
structure Slt.full (A:Nat→As) (s:Slt):Prop extends s.new where
 xm:∀ x∈s.xs,isMk A s.n x
theorem C6 {A:Nat→As}{s t:Slt}{c:Nat→Prop}(h:Fik A s t c)(hs:s.new):t.new:=⟨by rw [h.v,h.l];exact hs.rv,by rw [h.z];exact hs.z1,by rw [h.n];exact hs.n1,by rw [h.l];exact hs.lx,by rw [h.u,h.v],h.yx⟩
theorem C7 {A:Nat→As}{L M:List Slt}{i k:Nat}(h:FiK A L M i k){t:Slt}(ht:t∈M):∃ j s,L[j]?=some s∧Fik A s t (λ q=>j<i∨(j=i∧q<k)):=by
 obtain ⟨j,hj⟩:=List.getElem?_of_mem ht;have hlt:=(List.getElem?_eq_some_iff.1 hj).1;rw [h.1] at hlt;obtain ⟨t',h1,h2⟩:=h.2 j _ (List.getElem?_eq_getElem hlt);rw [hj] at h1;injection h1 with h1;subst h1;exact ⟨j,_,List.getElem?_eq_getElem hlt,h2⟩
theorem K6 {A:Nat→As}{L M:List Slt}{i k:Nat}(h:FiK A L M i k)(hn:∀ s∈L,s.new):OneK M:=λ t ht=>by
 obtain ⟨j,s,hs,hf⟩:=C7 h ht;have:=C6 hf (hn s (qa hs));exact ⟨this.rv.one,this.z1⟩
def oY (A:Nat→As)(L M:List Slt):Prop:=M.length=L.length∧∀ t∈M,t.full A
theorem K7 {A:Nat→As}{L M:List Slt}{i:Nat}(h:FiK A L M i 0)(hi:L.length≤i)(hn:∀ s∈L,s.new):oY A L M:=⟨h.1,λ t ht=>by
 obtain ⟨j,s,hs,hf⟩:=C7 h ht;refine ⟨C6 hf (hn s (qa hs)),λ x hx=>?_⟩;obtain ⟨q,hq⟩:=List.getElem?_of_mem hx;rw [hf.n];exact hf.m q x hq (.inl (by have:=(List.getElem?_eq_some_iff.1 hs).1;omega))⟩
structure GrewK (A:Nat→As) (s t:Slt):Prop where
 v:t.v=s.v
 xs:t.xs=s.xs
 n:t.n=s.n
 z:t.z=t.u
 yl:t.ys.length=s.xs.length+70
 ym:∀ y∈t.ys,isMk A s.n y
def GrK (A:Nat→As)(L M:List Slt)(i:Nat):Prop:=M.length=L.length∧∀ (j:Nat) s,L[j]?=some s→∃ t,M[j]?=some t∧(j<i→GrewK A s t)∧(i≤j→t=s)
theorem Pp {A:Nat→As}{L:List Slt}:GrK A L L 0:=⟨rfl,λ j s h=>⟨s,h,λ h=>absurd h (kZ _),λ _=>rfl⟩⟩
theorem MX {A:Nat→As}{L M:List Slt}{i:Nat}{s:Slt}(h:GrK A L M i)(hs:L[i]?=some s):M[i]?=some s:=by
 obtain ⟨t,h1,_,h2⟩:=h.2 i s hs;rw [h1,h2 (qh _)]
def Slt.ext (s:Slt)(u:Value)(ys:List (List Value)):Slt:={ s with u:=u,ys:=ys }
theorem EB {A:Nat→As}{L M:List Slt}{i:Nat}{s:Slt}{u:Yo}{ys:Yx}(h:GrK A L M i)(hs:L[i]?=some s)(hl:ys.length=s.xs.length+70)(hy:∀ y∈ys,isMk A s.n y):GrK A L (M.set i { s.ext u ys with z:=u }) (i+1):=by
 refine ⟨by rw [qZ];exact h.1,λ j s' hj=>?_⟩;by_cases e:j=i
 ·subst e;rw [hs] at hj;injection hj with hj;subst hj;refine ⟨_,List.getElem?_set_self (by rw [h.1];exact (List.getElem?_eq_some_iff.1 hs).1),λ _=>⟨rfl,rfl,rfl,rfl,hl,hy⟩,λ h=>by omega⟩
 ·obtain ⟨t,h1,h2,h3⟩:=h.2 j s' hj;exact ⟨t,by rw [List.getElem?_set_ne (λ e2=>e e2.symm)];exact h1,λ h=>h2 zo,λ h=>h3 zo⟩
theorem JM {A:Nat→As}{L M:List Slt}{i:Nat}(h:GrK A L M i){t:Slt}(ht:t∈M):∃ s∈L,GrewK A s t∨t=s:=by
 obtain ⟨j,hj⟩:=List.getElem?_of_mem ht;have hlt:=(List.getElem?_eq_some_iff.1 hj).1;rw [h.1] at hlt;obtain ⟨t',h1,h2,h3⟩:=h.2 j _ (List.getElem?_eq_getElem hlt);rw [hj] at h1;injection h1 with h1;subst h1;refine ⟨_,qg hlt,?_⟩;by_cases e:j<i
 ·exact .inl (h2 e)
 ·exact .inr (h3 zo)
structure Slt.done (A:Nat→As) (t:Slt):Prop where
 rv:RowV t.v t.xs.length
 zu:t.z=t.u
 xm:∀ x∈t.xs,isMk A t.n x
 ym:∀ y∈t.ys,isMk A t.n y
 yl:t.ys.length=t.xs.length+70
 n1:t.n≤1000000
 lx:t.xs.length≤2000000000
def oZ (A:Nat→As)(L M:List Slt):Prop:=M.length=L.length∧∀ t∈M,t.done A
theorem JN {A:Nat→As}{L M:List Slt}{i:Nat}(h:GrK A L M i)(hi:L.length≤i)(hf:∀ s∈L,s.full A):oZ A L M:=⟨h.1,λ t ht=>by
 obtain ⟨j,hj⟩:=List.getElem?_of_mem ht;have hlt:=(List.getElem?_eq_some_iff.1 hj).1;rw [h.1] at hlt;obtain ⟨t',h1,h2,_⟩:=h.2 j _ (List.getElem?_eq_getElem hlt);rw [hj] at h1;injection h1 with h1;subst h1;have hG:=h2 zo;have hs:=hf _ (qg hlt);exact ⟨by rw [hG.v,hG.xs];exact hs.rv,hG.z,by rw [hG.xs,hG.n];exact hs.xm,by rw [hG.n];exact hG.ym,by rw [hG.xs];exact hG.yl,by rw [hG.n];exact hs.n1,by rw [hG.xs];exact hs.lx⟩⟩
theorem tj {M:List Slt}{i:Nat}{x y:Slt}:(M.set i x).set i y=M.set i y:=by simp
theorem yT {M:List Slt}{i:Nat}{x:Slt}(h:M[i]?=some x):M.set i x=M:=by
 obtain ⟨h1,h2⟩:=List.getElem?_eq_some_iff.1 h;subst h2;simp
theorem Na {s:Slt}(h:s.new):s.ext s.v s.xs=s:=by
 have h1:=h.uv;have h2:=h.yx;obtain ⟨v,xs,u,ys,z,n⟩:=s;simp only at h1 h2;subst h1 h2
 rfl
theorem MA {A:Nat→As}{n:Nat}{ys:Yx}{ds:Ym}(h:∀ y∈ys,isMk A n y)(hd:isMk A n ds):∀ y∈ys++[ds],isMk A n y:=λ y hy=>by
 rcases qn.1 hy with hy|hy
 ·exact h y hy
 ·obtain rfl:=ql.1 hy;exact hd
theorem Aa {A:As}{n k:Nat}(h:k<n):(List.replicate n A)[k]?=some A:=by rw [List.getElem?_replicate,qC h]
theorem Gb {A:As}{n m:Nat}(h:A.n=m):∀ X∈List.replicate n A,X.n=m:=λ X hX=>by rw [(xN.1 hX).2];exact h
def ExtP (A:Nat→As)(s:Slt)(k:Nat)(ys:List (List Value)):Prop:=ys.length=s.xs.length+k∧s.xs <+: ys∧∀ y∈ys,isMk A s.n y
theorem N9 {A:Nat→As}{s:Slt}(h:s.full A):ExtP A s 0 s.xs:=⟨rfl,List.prefix_refl _,h.xm⟩
theorem F6 {A:Nat→As}{s t:Slt}{c:Nat→Prop}(h:Fik A s t c):t.view=s.view:=by
 unfold Slt.view;rw [h.v,h.z,h.n]
theorem D3 {A:Nat→As}{M:List Slt}{i:Nat}{s t:Slt}{c:Nat→Prop}(ht:M[i]?=some t)(h:Fik A s t c):(M.map Slt.view)[i]?=some s.view:=by rw [nJ ht,F6 h]
theorem dp:Str Tryz.prog 142 [EqS (.slice none 0 0),EqS (.slice none 0 0),NumA .i64 0] :=
 Str.of (z:=.agg #[.slice none 0 0,.slice none 0 0,.int .i64 0]) zk Tryz.underlying142 zk λ B w=>⟨[[.slice none 0 0],[.slice none 0 0],[.int .i64 0]],rfl,.cons ⟨rfl,rfl⟩ (.cons ⟨rfl,rfl⟩ (.cons rfl .nil))⟩
theorem rD:∃ it z,Tryz.prog.info? 3=some it∧it.zero=some z∧it.size=1∧it.bytes=8∧z.cells.size=1:=by
 have h:((Tryz.prog.info? 3).bind λ it=>it.zero.map λ z=>(it.size,it.bytes,z.cells.size))=some (1,8,1):=by kernel_rfl
 cases hi:Tryz.prog.info? 3 with
 | none=>rw [hi] at h;simp at h
 | some it =>
  rw [hi] at h;cases hz:it.zero with
  | none=>simp [hz] at h
  | some z =>
   simp [hz] at h;exact ⟨it,z,rfl,hz,h.1,h.2.1,h.2.2⟩
theorem sX {X:BkRest}{L:List Slot}{M M':List Slt}{B g T:Nat}{c c':Array Yo}(h:(BqA { X with N:=M } vr L).p B cs w)(hgc:w.heap[g]?=some (.cells c T (0,0)))(hT:T=142∨T=3)(hB:B≤g)(f:∀ c0,(HkA 142 3 1 X.vn M).p B c0 w→(HkA 142 3 1 X.vn M').p B c0 (w.setRow g c')):(BqA { X with N:=M' } vr L).p B cs (w.setRow g c'):=by
 rcases hT with rfl|rfl
 ·exact rA h G (λ c0 hp=>As.kwr hp hgc (show 142 ∉ [138,U32] by decide) hB) f (λ c0 hp=>As.kwr hp hgc (show 142 ∉ [169,117] by decide) hB) (λ c0 hp=>As.kwr hp hgc (show 142 ∉ [172,91] by decide) hB)
 ·exact rA h G (λ c0 hp=>As.kwr hp hgc (show 3 ∉ [138,U32] by decide) hB) f (λ c0 hp=>As.kwr hp hgc (show 3 ∉ [169,117] by decide) hB) (λ c0 hp=>As.kwr hp hgc (show 3 ∉ [172,91] by decide) hB)
theorem EC {X:BkRest}{L:List Slot}{M M':List Slt}{row:Yt}(h:(BqA { X with N:=M } vr L).p B cs w)(hg:w.grownBy w' row)(hr:gj w B 3 row)(f:∀ c0,(HkA 142 3 1 X.vn M).p B c0 w→(HkA 142 3 1 X.vn M').p B c0 w'):(BqA { X with N:=M' } vr L).p B cs w' :=
 rA h rfl (λ c0 hp=>As.grown hp hg hr (qh _) (show 3 ∉ [138,U32] by decide)) f (λ c0 hp=>As.grown hp hg hr (qh _) (show 3 ∉ [169,117] by decide)) (λ c0 hp=>As.grown hp hg hr (qh _) (show 3 ∉ [172,91] by decide))
theorem eR {X:BkRest}{L:List Slot}{M:List Slt}(h:(BqA { X with N:=M } vr L).p B cs w):∃ c,(HkA 142 3 1 X.vn M).p B c w:=(cI h).2.1
theorem F9 {X:BkRest}{L:List Slot}{M:List Slt}{B i k g cap:Nat}{t:Slt}{cs ds:Ym}(hi:M[i]?=some t)(hu:t.u=t.v)(hy:t.ys=t.xs)(hv:t.v=.slice (some ⟨g,0,none⟩) t.xs.length cap)(hk:k<t.xs.length)(hd:ds.length=1)(h:(BqA { X with N:=M } vr L).p B cs w):
  B≤g∧∃ c:Array Value,w.heap[g]?=some (Obj.cells c 3 (0,0))∧k*1+1≤c.size∧(BqA { X with N:=M.set i { t with xs:=t.xs.set k ds,ys:=t.xs.set k ds } } vr L).p B cs (w.setRow g (c.toList.take (k*1)++ds++c.toList.drop (k*1+1)).toArray):=by
 obtain ⟨c0,h0⟩:=eR h;obtain ⟨h2,c,h3,h4,h5⟩:=BK zd h0 hi hu hy hv hk hd;refine ⟨h2,c,h3,h4,sX h h3 (.inr G) h2 λ c1 h6=>?_⟩;obtain ⟨_,c',h7,_,h8⟩:=BK zd h6 hi hu hy hv hk hd;rw [h3] at h7;injection h7 with h7;injection h7 with h7;subst h7;exact h8
def dv (X:BkRest)(vr:Value)(L:List Slot)(p:List Slt→Prop):As where
 n:=17
 ag:=true
 p B cs w:=∃ M,p M∧(BqA { X with N:=M } vr L).p B cs w
 deps:=(BqA X vr L).deps
 len:=λ B cs w ⟨M,_,h⟩=>(BqA { X with N:=M } vr L).len B cs w h
 one:=λ B cs w ⟨M,_,h⟩=>(BqA { X with N:=M } vr L).one B cs w h
 ag1:=λ h=>by cases h
 cg:=λ B cs w w' hg ⟨M,h1,h⟩=>⟨M,h1,(BqA { X with N:=M } vr L).cg B cs w w' hg h⟩
 wr:=λ B cs w w' g c T fz h1 h2 h3 h4 ⟨M,h5,h⟩=>⟨M,h5,(BqA { X with N:=M } vr L).wr B cs w w' g c T fz h1 h2 h3 h4 h⟩
theorem uh {X:BkRest}{L:List Slot}{M:List Slt}{p:List Slt→Prop}(hp:p M):WkA (BqA { X with N:=M } vr L) (dv X vr L p):=⟨rfl,rfl,λ B cs w h=>⟨M,hp,h⟩⟩
theorem nP {X:BkRest}{L:List Slot}{p:List Slt→Prop}{B N:Nat}{s:Nat}(h:St B w0 N Γ Λ a w)(k:Nat)(hm:Λ[k]?=some ⟨s,T,H,dv X vr L p⟩):∃ M,p M∧St B w0 N Γ (Λ.set k ⟨s,T,H,BqA { X with N:=M } vr L⟩) a w:=by
 obtain ⟨g,cs,q1,q2,q3,M,hG,q4⟩:=h.locs _ (qa hm);have hs:∀ m∈Λ.set k ⟨s,T,H,BqA { X with N:=M } vr L⟩,∃ m0∈Λ,m0.s=m.s:=λ m hm'=>by
  rcases qq hm' with hm' | rfl
  ·exact ⟨m,hm',rfl⟩
  ·exact ⟨_,qa hm,rfl⟩
 refine ⟨M,hG,h.lo,h.defers,h.size,h.base,h.vals,λ l hl=>?_,λ m1 hm1 m2 hm2 hne=>?_⟩
 ·rcases qq hl with hl|rfl
  ·exact h.locs l hl
  ·exact ⟨g,cs,q1,q2,q3,q4⟩
 ·obtain ⟨m3,r1,r2⟩:=hs m1 hm1;obtain ⟨m4,r3,r4⟩:=hs m2 hm2;rw [← r2,← r4] at hne ⊢;exact h.dis m3 r1 m4 r3 hne
theorem FK {X:BkRest}{L:List Slot}{M:List Slt}{B i k:Nat}{s:Slt}{u:Yo}{ys:Yx}(hMi:M[i]?=some s)(hE:ExtP MkI s k ys)(h:(BqA { X with N:=M.set i (s.ext u ys) } vr L).p B cs w):
  w.ownsRow B 3 1 u (s.xs.length+k) ys.flatten∧∀ v' w' ds,isMk MkI s.n ds→w'.ownsRow B 3 1 v' (s.xs.length+k+1) (ys.flatten++ds)→w.grownBy w' u.ownBlock→(v'.ownBlock=u.ownBlock∨(v'.ownBlock=some w.heap.size∧w.grownBy w' none))→(dv X vr L λ M'=>∃ ys',M'=M.set i (s.ext v' ys')∧ExtP MkI s (k+1) ys').p B cs w':=by
 have hlt:=(List.getElem?_eq_some_iff.1 hMi).1;have hi:(M.set i (s.ext u ys))[i]?=some (s.ext u ys):=List.getElem?_set_self hlt;obtain ⟨hl,hp,hm⟩:=hE;obtain ⟨c0,h0⟩:=eR h;have hown0:w.ownsRow B 3 1 u (s.xs.length+k) ys.flatten:=by
  have:=(h0.2.2.1 _ (qa hi)).1;rw [show (s.ext u ys).ys.length=s.xs.length+k from hl] at this;exact this
 refine ⟨hown0,λ v' w' ds hds hown hg hb=>⟨M.set i (s.ext v' (ys++[ds])),⟨ys++[ds],rfl,by rw [qx,hl];rfl,hp.trans (List.prefix_append _ _),MA hm hds⟩,EC h hg (dR hown0) λ c hc=>?_⟩⟩;have:=MT (v':=v') (ds:=ds) zd hc hi (by rw [show (s.ext u ys).ys.length=s.xs.length+k from hl];exact hown) hg hb (λ _=>hp) (λ y hy=>mkp_i.len (hm y hy));rw [tj] at this;exact this
theorem E3 {X:BkRest}{vr z:Yo}{L:List Slot}{M:List Slt}{B i g cap:Nat}{s:Slt}(hi:M[i]?=some s)(hvr:X.vn=.slice (some ⟨g,0,none⟩) M.length cap)(h:(BqA { X with N:=M } vr L).p B cs w):
  B≤g∧∃ c:Array Value,w.heap[g]?=some (Obj.cells c 142 (0,0))∧i*3+1<c.size∧(BqA { X with N:=M.set i { s with z:=z } } vr L).p B cs (w.setRow g (c.setIfInBounds (i*3+1) z)):=by
 obtain ⟨c0,h0⟩:=eR h;obtain ⟨h2,c,h3,h4,h5⟩:=GG zd z h0 hi hvr;refine ⟨h2,c,h3,h4,sX h h3 (.inl G) h2 λ c1 h6=>?_⟩;obtain ⟨_,c',h7,_,h8⟩:=GG zd z h6 hi hvr;rw [h3] at h7;injection h7 with h7;injection h7 with h7;subst h7;exact h8
theorem ou {X:BkRest}{L:List Slot}{M:List Slt}{B N:Nat}{s:Nat}(h:St B w0 N Γ Λ a w)(k:Nat)(hm:Λ[k]?=some ⟨s,T,H,BqA { X with N:=M } vr L⟩):RowV X.vn M.length∧∀ t∈M,RowV t.u t.ys.length∧RowV t.v t.xs.length:=by
 obtain ⟨g,cs,_,_,_,hp⟩:=h.locs _ (qa hm);obtain ⟨c,h1,h2,h3,_⟩:=eR hp;exact ⟨(cV h2).2,λ t ht=>⟨(cV (h3 t ht).1).2,(h3 t ht).2.1⟩⟩
theorem Er {X:BkRest}{L:List Slot}{B N:Nat}{s:Nat}(h:St B w0 N Γ Λ a w)(k:Nat)(hm:Γ[k]?=some (s,ElP T (BqA X vr L))):∀ t∈X.N,RowV t.u t.ys.length∧RowV t.v t.xs.length:=by
 obtain ⟨b,o,cs,_,_,_,hp,_⟩:=h.vals _ (qa hm);obtain ⟨c,h1,h2,h3,_⟩:=eR (M:=X.N) hp;exact λ t ht=>⟨(cV (h3 t ht).1).2,(h3 t ht).2.1⟩
section
open Rg
variable {P:Program}{Q:Exit→Act→World→Prop}{R:Rg}{B i:Nat}{w0:Bs}
theorem Dh {X:BkRest}{x y:Yj}{L:List Slot}{t:Slt}(hx:Has R B w0 i x (EqS t.v).va)(hl:Has R B w0 i y (ElP T (BqA X vr L)))(ht:t∈X.N)(hd:t.done MkI):Has R B w0 i x (SlA 3 [] (List.replicate t.xs.length (MkI t.n))).va:=λ a w av=>by
 obtain ⟨b,o,cs,_,_,_,h,_⟩:=hl a w av;obtain ⟨c,h⟩:=eR (M:=X.N) h;rw [mz (hx a w av)];exact Ae mkp_i (h.2.2.1 t ht).2 hd.xm
theorem Dk {X:BkRest}{x y:Yj}{L:List Slot}{t:Slt}(hx:Has R B w0 i x (EqS t.z).va)(hl:Has R B w0 i y (ElP T (BqA X vr L)))(ht:t∈X.N)(hd:t.done MkI):Has R B w0 i x (SlA 3 [] (List.replicate t.ys.length (MkI t.n))).va:=λ a w av=>by
 obtain ⟨b,o,cs,_,_,_,h,_⟩:=hl a w av;obtain ⟨c,h⟩:=eR (M:=X.N) h;rw [mz (hx a w av),hd.zu];exact Ae mkp_i (tA (λ y hy=>mkp_i.len (hd.ym y hy)) (h.2.2.1 t ht).1) hd.ym
end
theorem ri (X:BkRest)(vr:Yo)(L:List Slot)(hnew:∀ s∈X.N,s.new)(hl:X.N.length≤1000000):CK Tryz.prog 47 59 [59,142,3] (BqA X vr L) (dv X vr L (oY MkI X.N)) [] (Tu []):=by
 refine CK.intro Tryz.func47 G zk nq zk (λ B g w0 a hrm U=>?_);have U:=zn [(0,EqV ((ptrH).f g)),] [⟨0,59,ptrH,BqA X vr L⟩] U;refine qb<|zg U3 [] Ux UZ U (zE G ab) (zz R1 RO λ a w U=>?_);refine aa<|qk ?_;have U:=St.sel U [0,1];refine wp_loop_ghost (λ n a w=>∃ (i:Nat) (M:List Slt),(n+i=X.N.length∧FiK MkI X.N M i 0)∧St B w0 35 [(0,EqV (ptrH.f g)),(2,In (i:Nat))] [⟨0,59,ptrH,BqA { X with N:=M } vr L⟩] a w) (X.N.length) ?_ ?_
 ·exact ⟨0,X.N,⟨by omega,Pv hnew⟩,U⟩
 intro n a w hI;obtain ⟨i,M,⟨hn,hF⟩,U⟩:=hI;have h1M:=K6 hF hnew;refine qb<|qb<|zg U3 [] (.v 5 _::.adr 6 0 (.some 0) True::.adr 7 0 (.some 0) True::.adr 8 0 (.some (0+2)) True::(Wb 9)) RP U (zM 1 G (oc (ob_a G G (gu (lz0 0 G))) (oc (ob_a G G (gr 1 G zk (lz0 0 G))) (oc (ob_a G G (eE 2 G zk trivial (lz0 0 G) dt)) (zL 3 0 2 G mP (zv G (bn xB (has_wk' (vq 4 G) (sg h1M))) (zv G (aO (vq 0 G) (vq 5 G)) o0))))))) (zz (Wa 0 2 11) RO λ a w U=>?_);refine zJ 2 U G (λ hb0=>?_) (λ hb0=>?_)
 ·have hi:i<X.N.length:=by have:=hF.1;simpa [this] using hb0
  obtain ⟨s,hs⟩:∃ s,X.N[i]?=some s:=⟨_,List.getElem?_eq_getElem hi⟩;have hwf:=hnew s (qa hs);obtain ⟨t,ht,hf⟩:=GL hF hs;have hvi:=D3 ht hf;refine qj<|zt<|qk<|qb<|bJ (sp:=[.adr 14 0 (.some 0) True,.adr 15 0 (.some 0) True,.adr 16 0 (.some (0+2)) True,.v 17 _,.v 18 _,.v 19 _,.v 20 _,.v 3 VT,.sto 0]) 7 2 0 8 OneC [.g 0,.g 1,.o 6] U (oc (ob_a G G (gu (lz0 0 G))) (oc (ob_a G G (gr 0 G zk (lz0 0 G))) (oc (ob_a G G (eE 1 G zk trivial (lz0 0 G) dt)) (zL 2 0 2 G mP (zM 1 G (zv G (bM (m:=3) ⟨xB,by kernel_rfl⟩ rH (has_wk' (vq 3 G) (sg h1M)) (vq 4 G) hvi) (zv G (ap (vq 5 G) mY) o0))))))) G zd zk zk (zz (Wa 0 2 20) RO λ a w U=>?_);rw [show List.range' 7 2=[7,8] from rfl];refine gy (A:=s.view) 2 [0,1] G G U (Str.zero dp) G mY G zd G zk zk (λ a w U=>?_);refine bU ?_;have U:=zn R1 RU U;refine zt<|zg UE [] WP WQ U (zE G ab) (zz R2 RU λ a w U=>?_);refine aa<|qk ?_;have U:=St.sel U [0,1,2];refine wp_loop_ghost (λ n a w=>∃ (k:Nat) (M:List Slt),(n+k=s.xs.length∧FiK MkI X.N M i k)∧St B w0 35 [(0,EqV (ptrH.f g)),(2,In (i:Nat)),(4,In (k:Nat))] [⟨0,59,ptrH,BqA { X with N:=M } vr L⟩,⟨3,142,ptrH,s.view⟩] a w) (s.xs.length) ?_ ?_
  ·exact ⟨0,M,⟨by omega,hF⟩,U⟩
  intro n a w hI;obtain ⟨k,M,⟨hn2,hF⟩,U⟩:=hI;obtain ⟨t,ht,hf⟩:=GL hF hs;refine qb<|qb<|zg UE [] (.v 21 _::.adr 22 3 (.some 0) True::(Wb 23)) WS U (zM 2 G (zO 1 G ey (zL 1 1 0 G cC (zv G (pA qL hwf.rv (vq 2 G)) (zv G (aO (vq 0 G) (vq 3 G)) o0))))) (zz (Wf 0 2 4 25) RU λ a w U=>?_);refine zJ 3 U G (λ hb1=>?_) (λ hb1=>?_)
  ·have hk:k<s.xs.length:=by simpa using hb1
   refine qj<|zt<|qk<|ia (sp:=[.adr 28 3 (.some 0) True,.v 29 _,.v 30 _,.adr 31 3 (.some 2) True,.v 32 _,.v 33 _,.v 34 VT,.sto 0]) [[],[0],[],[],[3],[3,4],[0,1,2,3,4,5],[0,1,2,3,4,5,6]] 6 2 0 7 OneC [.g 0,.g 1,.g 2,.o 1,.o 2,.o 5] ac U (zO 1 G ey (zL 0 1 0 G cC (zM 2 G (zO 1 G ij (zL 3 1 2 G ty_3 (zQ G (l9 _) (.o (vq 4 G)) o0)))))) G zd zd zk (fI zk) zk zk (zz (Wj 0 2 4 29 30 33) RU λ a w U=>?_);rw [show List.range' 6 2=[6,7] from rfl];obtain ⟨g1,cap1,hv1⟩:=hwf.rv.row hk;have U:=St.wkG U 3 rfl (show Wk (EqS s.v).va (EqV (.slice (some ⟨g1,0,none⟩) s.xs.length cap1)) from hv1▸pc);obtain ⟨vm,ds,hmk,hvc,hone,U⟩:=St.pinV U 5 rfl;have hds:=mkp_i.len ⟨_,_,hmk⟩;rw [qv];refine ml (m:=1) (k:=k) 3 4 G U ⟨qL,by kernel_rfl⟩ zd G G hk zd zk zk (λ a U=>?_);rw [qv];refine IJ (A1:=BqA { X with N:=M.set i { t with xs:=t.xs.set k ds,ys:=t.xs.set k ds } } vr L) [1,2,3] 0 6 0 G U G G hone hvc hds ty_3 G zd (hrm _ zk) zk zk (λ cs hp=>F9 ht (hf.u.trans hf.v.symm) hf.yx (by rw [hf.v,hf.l];exact hv1) (by rw [hf.l];exact hk) hds hp) (λ w U=>?_);refine dm ?_;have U:=zn R2 [⟨0,59,ptrH,BqA { X with N:=M.set i { t with xs:=t.xs.set k ds,ys:=t.xs.set k ds } } vr L⟩,O 3 142 _] U;refine al ?_;refine aa<|zg UE [] (W6 26 [.v 4 _]) WY U (zM 2 G (zv G (aL (vq 0 G) ab (aU (by have:=hwf.lx;omega))) (zA 1 G o0))) (zz R2 RU λ a w U=>?_);refine aa ?_;have U:=St.sel U [0,1,2];exact ⟨n-1,by omega,k+1,_,⟨by omega,F7 hF hs ht ⟨_,_,hmk⟩⟩,U⟩
  ·have hk:k=s.xs.length:=by simp at hb1;omega
   subst hk;refine qP<|ai<|ai<|az<|al ?_;refine aa<|zg UE [] (W6 12 [.v 2 _]) Ue U (zM 1 G (zv G (aL (vq 0 G) ab (aU (by have:=hwf.lx;omega))) (zA 1 G o0))) (zz R1 RU λ a w U=>?_);refine aa ?_;have U:=St.sel U [0,1];have U:=St.selL U [0];exact ⟨X.N.length-(i+1),by omega,i+1,M,⟨by omega,F8 hF hs⟩,U⟩
 ·have hi:X.N.length≤i:=by have:=hF.1;simp [this] at hb0;omega
  have U:=St.wkL (A':=dv X vr L (oY MkI X.N)) U 0 rfl (uh (K7 hF hi hnew));refine qP<|ai<|ai<|az<|cY<|gg U (zm 0 G) (zm 0 G) ?_;exact aX (rs:=[]) G U .nil zd
theorem pZ (X:BkRest)(vr:Yo)(L:List Slot)(hfull:∀ s∈X.N,s.full MkI)(hl:X.N.length≤1000000):CK Tryz.prog 63 59 [59,142,3] (BqA X vr L) (dv X vr L (oZ MkI X.N)) [] (Tu []):=by
 obtain ⟨it0,z0,hi0,hz0,hs0,hb0',hc0⟩:=rD;refine CK.intro Tryz.func63 G zk nq zk (λ B g w0 a hrm U=>?_);have U:=zn [(0,EqV ((ptrH).f g)),] [⟨0,59,ptrH,BqA X vr L⟩] U;refine qb<|zg U3 [] Ux UZ U (zE G ab) (zz R1 RO λ a w U=>?_);refine aa<|qk ?_;have U:=St.sel U [0,1];refine wp_loop_ghost (λ n a w=>∃ (i:Nat) (M:List Slt),(n+i=X.N.length∧GrK MkI X.N M i)∧St B w0 42 [(0,EqV (ptrH.f g)),(2,In (i:Nat))] [⟨0,59,ptrH,BqA { X with N:=M } vr L⟩] a w) (X.N.length) ?_ ?_
 ·exact ⟨0,X.N,⟨by omega,Pp⟩,U⟩
 intro n a w hI;obtain ⟨i,M,⟨hn,hG⟩,U⟩:=hI;have h1M:OneK M:=λ t ht=>by
  obtain ⟨ru,rv⟩:=(ou U 0 rfl).2 t ht;obtain ⟨s,hs,h1|h1⟩:=JM hG ht
  ·exact ⟨rv.one,by rw [h1.z];exact ru.one⟩
  ·subst h1;exact ⟨rv.one,(hfull t hs).z1⟩
 refine qb<|qb<|zg U3 [] (.v 6 _::.adr 7 0 (.some 0) True::.adr 8 0 (.some 0) True::.adr 9 0 (.some (0+2)) True::(Wb 10)) RP U (zM 1 G (oc (ob_a G G (gu (lz0 0 G))) (oc (ob_a G G (gr 1 G zk (lz0 0 G))) (oc (ob_a G G (eE 2 G zk trivial (lz0 0 G) dt)) (zL 3 0 2 G mP (zv G (bn xB (has_wk' (vq 4 G) (sg h1M))) (zv G (aO (vq 0 G) (vq 5 G)) o0))))))) (zz (Wa 0 2 12) RO λ a w U=>?_);refine zJ 2 U G (λ hb0=>?_) (λ hb0=>?_)
 ·have hi:i<X.N.length:=by have:=hG.1;simpa [this] using hb0
  obtain ⟨s,hs⟩:∃ s,X.N[i]?=some s:=⟨_,List.getElem?_eq_getElem hi⟩;have hf:=hfull s (qa hs);have hMi:=MX hG hs;have hvi:=nJ hMi;have hMlt:i<M.length:=by rw [hG.1];exact hi
  refine qj<|zt<|qk<|qb<|bJ (sp:=[.adr 15 0 (.some 0) True,.adr 16 0 (.some 0) True,.adr 17 0 (.some (0+2)) True,.v 18 _,.v 19 _,.v 20 _,.v 21 _,.v 3 VT,.sto 0]) 7 2 0 8 OneC [.g 0,.g 1,.o 6] U (oc (ob_a G G (gu (lz0 0 G))) (oc (ob_a G G (gr 0 G zk (lz0 0 G))) (oc (ob_a G G (eE 1 G zk trivial (lz0 0 G) dt)) (zL 2 0 2 G mP (zM 1 G (zv G (bM (m:=3) ⟨xB,by kernel_rfl⟩ rH (has_wk' (vq 3 G) (sg h1M)) (vq 4 G) hvi) (zv G (ap (vq 5 G) mY) o0))))))) G zd zk zk (zz (Wa 0 2 21) RO λ a w U=>?_);rw [show List.range' 7 2=[7,8] from rfl];refine gy (A:=s.view) 2 [0,1] G G U (Str.zero dp) G mY G zd G zk zk (λ a w U=>?_);refine bU ?_;have U:=zn R1 RU U;refine zt<|zg UE [] [.adr 22 3 (.some 0) True,.v 23 _,.v 4 _] WY U (zO 1 G ey (zL 0 1 0 G cC (zA 1 G o0))) (zz R2 RU ?_);refine ztA<|zsA<|zgA UC [] UU WX (zE G ab) (zz (Wf 0 2 4 5) RU λ a w U=>?_);refine aa<|qk ?_;have U:=St.sel U [0,1,2,3];refine wp_loop_ghost (λ n a w=>∃ (k:Nat) (u:Value) (ys:List (List Value)),(n+k=70∧ExtP MkI s k ys)∧St B w0 42 [(0,EqV (ptrH.f g)),(2,In (i:Nat)),(4,EqV u),(5,In (k:Nat))] [⟨0,59,ptrH,BqA { X with N:=M.set i (s.ext u ys) } vr L⟩,⟨3,142,ptrH,s.view⟩] a w) (70) ?_ ?_
  ·have U:=St.cvA (A':=BqA { X with N:=M.set i (s.ext s.v s.xs) } vr L) U 0 rfl (show BqA { X with N:=M } vr L=_ by rw [Na hf.tonew,yT hMi]);have U:=St.wkG U 2 rfl pc;exact ⟨0,s.v,s.xs,⟨by omega,N9 hf⟩,U⟩
  intro n a w hI;obtain ⟨k,u,ys,⟨hn2,hE⟩,U⟩:=hI;refine qb<|qb<|zg UE [] (W6 24) UW U (zM 3 G (zv G (aO (vq 0 G) ab) o0)) (zz (W8 0 2 4 5 25) RU λ a w U=>?_);refine zJ 4 U G (λ hb1=>?_) (λ hb1=>?_)
  ·have hk:k<70:=by have:=hb1;simp at this;omega
   refine qj<|zt<|qk<|bJ (sp:=[.v 28 _,.adr 29 3 (.some 2) True,.v 30 _,.v 31 _,.v 32 _,.v 33 VT,.v 4 VT]) 5 2 99 9 OneC [.g 0,.g 1,.g 3,.o 0,.o 4] U (zM 2 G (zO 1 G ij (zL 1 1 2 G ty_3 (zQ G (l9 _) (.o (vq 2 G)) (zv G (bW (D:=[]) (l:=[MkI s.n]) (xs:=[.tmp 31]) (dh zk) dN zk (n_ok zk) nq nq nq (.o (vq 3 G)) G G) o0))))) G zd zk zk (zz (W8 0 2 5 28 32) RU λ a w U=>?_);rw [show List.range' 5 2=[5,6] from rfl];rw [qv];refine iT (m:=1) (A1:=λ v'=>dv X vr L (λ M'=>∃ ys',M'=M.set i (s.ext v' ys')∧ExtP MkI s (k+1) ys')) (X:=MkI s.n) (F:=isMk MkI s.n) [0,1,2] 3 4 0 G U G G (λ ds h=>⟨_,_,h⟩) G G G (hrm _ zk) qL hi0 hz0 hs0 hb0' hc0 zd (n:=s.xs.length+k) (by have:=hf.lx;omega) (by have:=hf.lx;omega) zd zk zk zk zk (λ cs hp=>FK hMi hE hp) (λ v' w U=>?_);rw [qv];refine o3 0 G U G zd zk zk (λ a U=>?_);refine bU ?_;obtain ⟨M',⟨ys2,hM',hE2⟩,U⟩:=nP U 0 rfl;subst hM';have U:=zn (W8 4 33 0 2 5) [⟨0,59,ptrH,BqA { X with N:=M.set i (s.ext v' ys2) } vr L⟩,O 3 142 _] U;refine al ?_;refine aa<|zg UE [] (W6 26 [.v 5 _]) [.g 0,.g 2,.g 3,.o 2] U (zM 4 G (zv G (aL (vq 0 G) ab (aU zo)) (zA 1 G o0))) (zz (Wf 4 0 2 5) RU λ a w U=>?_);refine aa ?_;have U:=St.sel U [1,2,0,3];exact ⟨n-1,by omega,k+1,v',ys2,⟨by omega,hE2⟩,U⟩
  ·have hk:k=70:=by simp at hb1;omega
   subst hk;have hu:=((ou U 0 rfl).2 _ (List.mem_set hMlt _)).1;have hu1:=hu.one;have hu2:u.cells = #[u]:=hu.cell;refine qP<|ai<|ai<|az<|aa<|bJ (sp:=[.adr 34 0 (.some 0) True,.adr 35 0 (.some 0) True,.adr 36 0 (.some (0+2)) True,.v 37 _,.v 38 _,.v 39 _,.v 40 VT,.v 41 VT,.sto 0]) 6 3 0 8 OneC [.g 0,.g 1,.o 3,.o 4,.o 5] U (oc (ob_a G G (gu (lz0 0 G))) (oc (ob_a G G (gr 0 G zk (lz0 0 G))) (oc (ob_a G G (eE 1 G zk trivial (lz0 0 G) dt)) (zL 2 0 2 G mP (zM 1 G (zM 2 G o0)))))) G zd zk zk (zz (W8 0 2 37 38 39) RU λ a w U=>?_);rw [show List.range' 6 3=[6,7,8] from rfl];have U:=St.selL U [0];have U:=St.wkG U 2 rfl JE;have hvr:=(ou U 0 rfl).1;obtain ⟨g1,cap1,hv1⟩:=hvr.row (show i<_ by rw [qZ,hG.1];exact hi);have U:=St.cvG U 2 rfl (qt EqV hv1);rw [qv];refine ml (m:=3) (k:=i) 2 3 G U ⟨xB,by kernel_rfl⟩ zd G G (by rw [qZ,hG.1];exact hi) zd zk zk (λ a U=>?_);rw [qv];refine fj 0 G U ik G zd zk zk (λ a U=>?_);rw [qv];refine rY (A1:=BqA { X with N:=(M.set i (s.ext u ys)).set i { s.ext u ys with z:=u } } vr L) [2,3] 0 6 0 G U G G hu1 hu2 cC G zd (hrm _ zk) zk zk (λ cs hp=>E3 (by rw [List.getElem?_set_self hMlt]) hv1 hp) (λ w U=>?_);refine dm ?_;have U:=zn R1 RO U;refine al ?_;refine aa<|zg U3 [] (W6 13 [.v 2 _]) Ue U (zM 1 G (zv G (aL (vq 0 G) ab (aU zo)) (zA 1 G o0))) (zz R1 RO λ a w U=>?_);refine aa ?_;have U:=St.sel U [0,1];exact ⟨X.N.length-(i+1),by omega,i+1,_,⟨by omega,EB hG hs hE.1 hE.2.2⟩,(tj (M:=M) (i:=i))▸U⟩
 ·have hi:X.N.length≤i:=by have:=hG.1;simp [this] at hb0;omega
  have U:=St.wkL (A':=dv X vr L (oZ MkI X.N)) U 0 rfl (uh (JN hG hi hfull));refine qP<|ai<|ai<|az<|cY<|gg U (zm 0 G) (zm 0 G) ?_;exact aX (rs:=[]) G U .nil zd
theorem pN (X:BkRest)(vr:Yo)(L:List Slot)(hdone:∀ t∈X.N,t.done MkI)(hl:X.N.length≤1000000):Cn Tryz.prog 79 [ElP 59 (BqA X vr L)] (Bo true):=by
 refine Cn.intro Tryz.func79 G zk nq (zy [(0,ElP 59 (BqA X vr L))] λ B w0 a U=>?_);have hkp:=Er U 0 rfl;have h1M:OneK X.N:=λ t ht=>⟨(hkp t ht).2.one,by rw [(hdone t ht).zu];exact (hkp t ht).1.one⟩;refine qb<|zh Ux UZ U (zE G aJ) (zz R1 [] ?_);refine ztA<|zsA<|zhA Rr WQ (zE G ab) (zz Rt [] λ a w U=>?_);refine aa<|qk ?_;have U:=St.sel U [0,2];refine wp_loop_ghost (λ n a w=>∃ (i:Nat),n+i=X.N.length∧St B w0 64 [(0,ElP 59 (BqA X vr L)),(3,In (i:Nat))] [] a w) (X.N.length) ?_ ?_
 ·exact ⟨0,by omega,U⟩
 intro n a w hI;obtain ⟨i,hn,U⟩:=hI;refine qb<|qb<|zh (WG 6) RP U (zM 1 G (zM 0 G (zv G (m9 (vq 1 G)) (zv G (bP (vq 2 G) dt (Sub.part 2 G G)) (zv G (ap (vq 3 G) mP) (zv G (bn xB (has_wk' (vq 4 G) (sg h1M))) (zv G (aO (vq 0 G) (vq 5 G)) o0))))))) (zz (Wa 0 3 12) [] λ a w U=>?_);refine zJ 2 U G (λ hb0=>?_) (λ hb0=>?_)
 ·have hi:i<X.N.length:=by have:=hb0;simp at this;omega
  obtain ⟨t,ht⟩:∃ t,X.N[i]?=some t:=⟨_,List.getElem?_eq_getElem hi⟩;have hmem:=qa ht;have hd:=hdone t hmem;have hzr:RowV t.z t.ys.length:=by rw [hd.zu];exact (hkp t hmem).1
  refine qj<|zt<|qk<|qb<|tZ (sp:=[.v 15 _,.v 16 _,.v 17 _,.v 18 _,.v 19 _,.v 20 _,.v 21 _,.alc 0,.sto 0]) 7 2 4 [.g 0,.g 1,.o 6] U (zM 0 G (zv G (m9 (vq 0 G)) (zv G (bP (vq 1 G) dt (Sub.part 2 G G)) (zv G (ap (vq 2 G) mP) (zM 1 G (zv G (bM (m:=3) ⟨xB,by kernel_rfl⟩ rH (has_wk' (vq 3 G) (sg h1M)) (vq 4 G) (nJ ht)) (zv G (ap (vq 5 G) mY) o0))))))) G zk zk (zz (Wa 0 3 21) [] λ a w U=>?_);rw [show List.range' 7 2=[7,8] from rfl];refine gy (A:=t.view) 2 [0,1] G G U (Str.zero dp) G mY G zd G zk zk (λ a w U=>?_);refine bU ?_;have U:=zn UK RV U;refine zt<|qb<|zg U3 [] (.adr 22 4 (.some 1) True::(W6 23 (.adr 25 4 (.some 0) True::(Ww 26)))) (We [.o 7]) U (zO 0 G ik (zL 0 0 1 G cC (zv G (pA qL hzr (vq 1 G)) (zO 0 G ey (zL 3 0 0 G cC (zv G (pA qL hd.rv (vq 4 G)) (zv G (aL (vq 5 G) ab (L3 (by have:=hd.lx;omega))) (zv G (c9 (vq 2 G) (vq 6 G)) o0)))))))) (zz (Wa 0 3 29) RV λ a w U=>?_);refine zJ 2 U G (λ hb1=>?_) (λ hb1=>?_)
  ·exact absurd hb1 (by rw [hd.yl];simp)
  ·refine qj<|zt<|zg U3 [] UU WQ U (zE G ab) (zz (Wa 0 3 5) RV λ a w U=>?_);refine aa<|qk ?_;have U:=St.sel U [0,1,2];refine wp_loop_ghost (λ n a w=>∃ (k:Nat),n+k=t.ys.length∧St B w0 64 [(0,ElP 59 (BqA X vr L)),(3,In (i:Nat)),(5,In (k:Nat))] [⟨4,142,ptrH,t.view⟩] a w) (t.ys.length) ?_ ?_
   ·exact ⟨0,by omega,U⟩
   intro n a w hI;obtain ⟨k,hn2,U⟩:=hI;refine qb<|qb<|zg U3 [] (.v 30 _::.adr 31 4 (.some 1) True::(Wb 32)) WS U (zM 2 G (zO 0 G ik (zL 1 0 1 G cC (zv G (pA qL hzr (vq 2 G)) (zv G (aO (vq 0 G) (vq 3 G)) o0))))) (zz (Wf 0 3 5 34) RV λ a w U=>?_);refine zJ 3 U G (λ hb2=>?_) (λ hb2=>?_)
   ·have hk:k<t.ys.length:=by have:=hb2;simp at this;omega
    refine qj<|zt<|qk<|qb<|iV (anc:=[[],[0],[],[0,1,2],[0,1,2,3],[],[5],[0,1,2,3,4,5,6],[0,1,2,3,4,5,6,7],[0,1,2,3,4,5,6,7,8],[0,1,2,3,4,5,6,7,8,9],[0,1,2,3,4,5,6,7,8,9],[0,1,2,3,4,5,6,7,8,9,11],[0,1,2,3,4,5,6,7,8,9,11,12],[0,1,2,3,4,5,6,7,8,9,10,11,12,13],[0,1,2,3,4,5,6,7,8,9,10,11,12,13,14],[0,1,2,3,4,5,6,7,8,9,10,11,12,13,14,15],[0,1,2,3,4,5,6,7,8,9,10,11,12,13,14,15,16],[0,1,2,3,4,5,6,7,8,9,10,11,12,13,14,15],[0,1,2,3,4,5,6,7,8,9,10,11,12,13,14,15,16,17,18],[0,1,2,3,4,5,6,7,8,9,10,11,12,13,14,15,16,17,18,19],[0,1,2,3,4,5,6,7,8,9,10,11,12,13,14,15],[0,1,2,3,4,5,6,7,8,9,10,11,12,13,14,15,21],[0,1,2,3,4,5,6,7,8,9,10,11,12,13,14,15,16,17,18,19,20,21,22],[0,1,2,3,4,5,6,7,8,9,10,11,12,13,14,15,16,17,18,19,20,21,22,23],[0,1,2,3,4,5,6,7,8,9,10,11,12,13,14,15,16,17,18,19,20,21,22,23,24],[0,1,2,3,4,5,6,7,8,9,10,11,12,13,14,15,16,17,18,19,20,21,22,23,24,25]]) (sts:=[none]) (news:=[]) (sp:=((.adr 37 4 (.some 1) True:Sp)::(.v 38 _)::(.v 39 _)::(.v 40 _)::(.v 41 _)::(.adr 42 4 (.some 2) True)::(.v 43 _)::(.v 44 _)::(.v 45 _)::(.v 46 _)::(.f 47 _)::(.adr 48 4 (.some 0) (_=false))::(.f 49 _)::(.f 50 _)::(.f 51 _)::(.f 52 _)::(.adr 53 4 (.some 0) ((_=false)∧_=true))::(.v 54 (Wh ((_=false)∧_=true) _))::(.v 55 (Wh ((_=false)∧_=true) _))::(.v 56 (Wh ((_=false)∧_=true) _))::(.v 57 (Wh ((_=false)∧_=true) _))::(.adr 58 4 (.some 2) ((_=false)∧_=true))::(.v 59 (Wh ((_=false)∧_=true) _))::(.v 60 (Wh ((_=false)∧_=true) _))::(.v 61 (Wh ((_=false)∧_=true) _))::(.f 62 _)::(.v 63 _)::[])) [.g 0,.g 1,.g 2,.o 26] ac U (zO 0 G ik (zL 0 0 1 G cC (zM 2 G (zv G (bM (m:=1) ⟨qL,by kernel_rfl⟩ (Gb G) (Dk (vq 1 G) (gq 0 G) hmem hd) (vq 2 G) (Aa hk)) (zv G (ap (vq 3 G) ty_3) (zO 0 G ij (zL 5 0 2 G ty_3 (zQ G (nz _) (.p (vq 4 G) (vq 6 G)) (zv G (er (vq 7 G)) (zV 8 G (zB 9 G (λ hg=>aA (gq 2 G)) (zC 9 0 G ey (zB 9 G (λ hg=>aC 11 G zk hg (lz0 0 G) (Sub.part 0 G G) cC) (zB 9 G (λ hg=>pA qL hd.rv (ae (vq 12 G) hg)) (zB 9 G (λ hg=>aO (ae (vq 10 G) hg) (ae (vq 13 G) hg)) (zB 9 G (λ hg=>aA (ae (vq 14 G) hg)) (oc (gp G G G (vq 15 G) nq (λ hg=>gi (lz0 0 G) ey)) (oc (bO G G G (vq 15 G) nq (λ hg=>aC 16 G zk hg (lz0 0 G) (Sub.part 0 G G) cC)) (oc (bO G G G (vq 15 G) nq (λ hg=>aA (gq 2 G))) (oc (bO G G G (vq 15 G) nq (λ hg=>bM (m:=1) ⟨qL,by kernel_rfl⟩ (Gb G) (Dh (ae (vq 17 G) hg) (gq 0 G) hmem hd) (ae (vq 18 G) hg) (Aa (by have:=hg;simp at this;omega)))) (oc (bO G G G (vq 15 G) nq (λ hg=>ap (ae (vq 19 G) hg) ty_3)) (oc (gp G G G (vq 15 G) nq (λ hg=>gi (lz0 0 G) ij)) (oc (bO G G G (vq 15 G) nq (λ hg=>aC 21 G zk hg (lz0 0 G) (Sub.part 2 G G) ty_3)) (oc (bO G G G (vq 15 G) nq (λ hg=>ba (nz _) (.p (ae (vq 20 G) hg) (ae (vq 22 G) hg)))) (oc (bO G G G (vq 15 G) nq (λ hg=>er (ae (vq 23 G) hg))) (zB 9 G (λ hg=>bE (ae (vq 15 G) hg) (fx (vq 24 G) hg)) (zv G (r_or (vq 9 G) (vq 25 G)) o0))))))))))))))))))))))))))) zk zk zk zk (zz (Wf 0 3 5 63) RV λ a w U=>?_);refine zJ 3 U G (λ hb3=>?_) (λ hb3=>?_)
    ·exact absurd hb3 (by simp)
    ·refine qj<|al ?_;refine aa<|zg U3 [] (W6 35 [.v 5 _]) WY U (zM 2 G (zv G (aL (vq 0 G) ab (aU (by have:=hd.lx;have:=hd.yl;omega))) (zA 1 G o0))) (zz (Wa 0 3 5) RV λ a w U=>?_);refine aa ?_;have U:=St.sel U [0,1,2];exact ⟨n-1,by omega,k+1,by omega,U⟩
   ·have hk:k=t.ys.length:=by have:=hb2;simp at this;omega
    refine qP<|ai<|ai<|az<|al ?_;refine aa<|zg U3 [] (W6 13 [.v 3 _]) Ue U (zM 1 G (zv G (aL (vq 0 G) ab (aU zo)) (zA 1 G o0))) (zz UK RV λ a w U=>?_);refine aa ?_;have U:=St.sel U [0,1];have U:=St.selL U [];exact ⟨X.N.length-(i+1),by omega,i+1,by omega,U⟩
 ·have hi:i=X.N.length:=by have:=hb0;simp at this;omega
  refine qP<|ai<|ai<|az<|zt<|zh Ux UZ U (zE G aJ) (zz R1 [] λ a w U=>?_);exact aa<|qi<|ak G U (zm 1 G)
theorem nA {H E m:Nat}{L:List Slt}(h:L=[]):Wk (HkA H E m v L).va (SlA H [] []).va:=by
 subst h;exact sg (L:=[]) (λ s hs=>by cases hs)
abbrev FqT (f:FuncId):Prop:=∀ (X:BkRest) (vr:Value) (L:List Slot),Cn Tryz.prog f [ElP 59 (BqA X vr L)] (Tu [])
abbrev FqB (f:FuncId):Prop:=∀ (X:BkRest) (vr:Value) (L:List Slot),Cn Tryz.prog f [ElP 59 (BqA X vr L)] (Bo true)
theorem PW {X:BkRest}{L:List Slot}:WkA (BqA X vr L) JkA:=⟨rfl,rfl,λ B cs w h=>⟨(BqA X vr L).len _ _ _ h,(BqA X vr L).one _ _ _ h⟩⟩
theorem sq:FqT 48:=λ _ _ _=>da Tryz.func48 rfl zk rfl rfl oL (Sub.part 3 rfl rfl) HJ kO bo
theorem sk:FqT 64:=λ _ _ _=>d9 Tryz.func64 rfl zk rfl rfl oL (Sub.part 3 rfl rfl) HJ kO bo
theorem sd:FqB 80:=λ _ _ _=>d7 Tryz.func80 rfl zk rfl rfl oL (Sub.part 3 rfl rfl) HJ kO bo
theorem oO:FqT 49:=λ _ _ _=>da Tryz.func49 rfl zk rfl rfl oK (Sub.part 4 rfl rfl) HI kN bo
theorem oA:FqT 65:=λ _ _ _=>d9 Tryz.func65 rfl zk rfl rfl oK (Sub.part 4 rfl rfl) HI kN bo
theorem oo:FqB 81:=λ _ _ _=>d7 Tryz.func81 rfl zk rfl rfl oK (Sub.part 4 rfl rfl) HI kN bo
theorem wQ:FqT 50:=λ _ _ _=>da Tryz.func50 rfl zk rfl rfl oJ (Sub.part 5 rfl rfl) HH kM bo
theorem wH:FqT 66:=λ _ _ _=>d9 Tryz.func66 rfl zk rfl rfl oJ (Sub.part 5 rfl rfl) HH kM bo
theorem wx:FqB 82:=λ _ _ _=>d7 Tryz.func82 rfl zk rfl rfl oJ (Sub.part 5 rfl rfl) HH kM bo
theorem wT:FqT 51:=λ _ _ _=>da Tryz.func51 rfl zk rfl rfl oI (Sub.part 6 rfl rfl) HG kL bo
theorem wK:FqT 67:=λ _ _ _=>d9 Tryz.func67 rfl zk rfl rfl oI (Sub.part 6 rfl rfl) HG kL bo
theorem wA:FqB 83:=λ _ _ _=>d7 Tryz.func83 rfl zk rfl rfl oI (Sub.part 6 rfl rfl) HG kL bo
theorem so:FqT 52:=λ _ _ _=>da Tryz.func52 rfl zk rfl rfl oH (Sub.part 7 rfl rfl) HF kK bo
theorem sj:FqT 68:=λ _ _ _=>d9 Tryz.func68 rfl zk rfl rfl oH (Sub.part 7 rfl rfl) HF kK bo
theorem sc:FqB 84:=λ _ _ _=>d7 Tryz.func84 rfl zk rfl rfl oH (Sub.part 7 rfl rfl) HF kK bo
theorem C1 (X:BkRest)(vr:Yo)(L:List Slot)(hR:X.R=[]):Cn Tryz.prog 53 [ElP 59 (BqA X vr L)] (Tu []):=da Tryz.func53 rfl zk rfl rfl oG (Sub.part 8 rfl rfl) HE kJ (nA hR)
theorem BP (X:BkRest)(vr:Yo)(L:List Slot)(hR:X.R=[]):Cn Tryz.prog 69 [ElP 59 (BqA X vr L)] (Tu []):=d9 Tryz.func69 rfl zk rfl rfl oG (Sub.part 8 rfl rfl) HE kJ (nA hR)
theorem Bn (X:BkRest)(vr:Yo)(L:List Slot)(hR:X.R=[]):Cn Tryz.prog 85 [ElP 59 (BqA X vr L)] (Bo true):=d7 Tryz.func85 rfl zk rfl rfl oG (Sub.part 8 rfl rfl) HE kJ (nA hR)
theorem oN (X:BkRest)(vr:Yo)(L:List Slot)(hM:X.M=[]):Cn Tryz.prog 54 [ElP 59 (BqA X vr L)] (Tu []):=da Tryz.func54 rfl zk rfl rfl oF (Sub.part 9 rfl rfl) HD kI (nA hM)
theorem oz (X:BkRest)(vr:Yo)(L:List Slot)(hM:X.M=[]):Cn Tryz.prog 70 [ElP 59 (BqA X vr L)] (Tu []):=d9 Tryz.func70 rfl zk rfl rfl oF (Sub.part 9 rfl rfl) HD kI (nA hM)
theorem om (X:BkRest)(vr:Yo)(L:List Slot)(hM:X.M=[]):Cn Tryz.prog 86 [ElP 59 (BqA X vr L)] (Bo true):=d7 Tryz.func86 rfl zk rfl rfl oF (Sub.part 9 rfl rfl) HD kI (nA hM)
theorem wV:FqT 55:=λ _ _ _=>da Tryz.func55 rfl zk rfl rfl my (Sub.part 10 rfl rfl) HC kH bo
theorem wM:FqT 71:=λ _ _ _=>d9 Tryz.func71 rfl zk rfl rfl my (Sub.part 10 rfl rfl) HC kH bo
theorem wC:FqB 87:=λ _ _ _=>d7 Tryz.func87 rfl zk rfl rfl my (Sub.part 10 rfl rfl) HC kH bo
theorem wU:FqT 56:=λ _ _ _=>da Tryz.func56 rfl zk rfl rfl mx (Sub.part 11 rfl rfl) HB kG bo
theorem wL:FqT 72:=λ _ _ _=>d9 Tryz.func72 rfl zk rfl rfl mx (Sub.part 11 rfl rfl) HB kG bo
theorem wB:FqB 88:=λ _ _ _=>d7 Tryz.func88 rfl zk rfl rfl mx (Sub.part 11 rfl rfl) HB kG bo
theorem wR:FqT 57:=λ _ _ _=>da Tryz.func57 rfl zk rfl rfl mw (Sub.part 12 rfl rfl) HA kF bo
theorem wI:FqT 73:=λ _ _ _=>d9 Tryz.func73 rfl zk rfl rfl mw (Sub.part 12 rfl rfl) HA kF bo
theorem wy:FqB 89:=λ _ _ _=>d7 Tryz.func89 rfl zk rfl rfl mw (Sub.part 12 rfl rfl) HA kF bo
theorem C2:FqT 58:=λ _ _ _=>da Tryz.func58 rfl zk rfl rfl mv (Sub.part 13 rfl rfl) Hz kE bo
theorem BQ:FqT 74:=λ _ _ _=>d9 Tryz.func74 rfl zk rfl rfl mv (Sub.part 13 rfl rfl) Hz kE bo
theorem Bp:FqB 90:=λ _ _ _=>d7 Tryz.func90 rfl zk rfl rfl mv (Sub.part 13 rfl rfl) Hz kE bo
theorem wS:FqT 59:=λ _ _ _=>da Tryz.func59 rfl zk rfl rfl mu (Sub.part 14 rfl rfl) Hy kD bo
theorem wJ:FqT 75:=λ _ _ _=>d9 Tryz.func75 rfl zk rfl rfl mu (Sub.part 14 rfl rfl) Hy kD bo
theorem wz:FqB 91:=λ _ _ _=>d7 Tryz.func91 rfl zk rfl rfl mu (Sub.part 14 rfl rfl) Hy kD bo
theorem C3:FqT 60:=λ _ _ _=>da Tryz.func60 rfl zk rfl rfl mt (Sub.part 15 rfl rfl) Hx kC bo
theorem BR:FqT 76:=λ _ _ _=>d9 Tryz.func76 rfl zk rfl rfl mt (Sub.part 15 rfl rfl) Hx kC bo
theorem Bq:FqB 92:=λ _ _ _=>d7 Tryz.func92 rfl zk rfl rfl mt (Sub.part 15 rfl rfl) Hx kC bo
theorem sn:FqT 61:=λ _ _ _=>da Tryz.func61 rfl zk rfl rfl ms (Sub.part 16 rfl rfl) Hw kB bo
theorem si:FqT 77:=λ _ _ _=>d9 Tryz.func77 rfl zk rfl rfl ms (Sub.part 16 rfl rfl) Hw kB bo
theorem sb:FqB 93:=λ _ _ _=>d7 Tryz.func93 rfl zk rfl rfl ms (Sub.part 16 rfl rfl) Hw kB bo
set_option maxHeartbeats 1000000 in
theorem CU (X:BkRest)(vr:Yo)(L:List Slot)(hnew:∀ s∈L,s.new)(hl:L.length≤1000000)(hR:X.R=[])(hM:X.M=[])(hnN:∀ s∈X.N,s.new)(hlN:X.N.length≤1000000):CK Tryz.prog 13 59 [59,138,139,142,3] (BqA X vr L) (JkA) [] (Bo true):=by
 refine CK.intro Tryz.func13 G zk nq zk (λ B g w0 a hrm U=>?_);have U:=zn [(0,EqV ((ptrH).f g)),] [⟨0,59,ptrH,BqA X vr L⟩] U;refine qb<|zg U3 [] Ux UZ U (zE G aJ) (zz R1 RO λ a w U=>?_);refine zt<|bJ (sp:=[.v 3 _,.v 4 VT]) 1 1 99 1 OneC [.g 0,.g 1,.o 0] U (zM 0 G o0) G zd zk zk (zz Rt RO λ a w U=>?_);rw [show List.range' 1 1=[1] from rfl];rw [qv];refine ew (A1:=BqA X vr (filL L)) [0,1] [] 0 G U (CK.wkT (K4 X vr L hnew hl) zd) G (xH (b:=ptr g) (U.vals _ (zm 2 G)) (jY (U.vals _ (zm 0 G)))) .nil G hrm zd zk zk zk zk (λ a w U=>?_);refine bU ?_;have U:=zn (Wa 4 0 2) [⟨0,59,ptrH,BqA X vr (filL L)⟩] U;refine zt<|bJ (sp:=[.v 5 _,.v 6 VT]) 1 1 99 1 OneC [.g 1,.g 2,.o 0] U (zM 1 G o0) G zd zk zk (zz (Wa 0 2 5) RO λ a w U=>?_);rw [show List.range' 1 1=[1] from rfl];rw [qv];refine ew (A1:=dv X vr (filL L) (oY MkI X.N)) [0,1] [] 0 G U (CK.wkT (ri X vr (filL L) hnN hlN) zd) G (xH (b:=ptr g) (U.vals _ (zm 2 G)) (jY (U.vals _ (zm 0 G)))) .nil G hrm zd zk zk zk zk (λ a w U=>?_);refine bU ?_;obtain ⟨N1,hN1,U⟩:=nP U 0 rfl;have U:=zn (Wa 6 0 2) [⟨0,59,ptrH,BqA { X with N:=N1 } vr (filL L)⟩] U;refine zt<|zg U3 [] (W6 7) [.g 1,.g 2] U (zv G (aA (be (lz0 0 G))) (zQ G (sq ({ X with N:=N1 }) vr (filL L)) (.o (vq 0 G)) o0)) (zz R1 RO ?_);refine ztA<|zgA U1 [] (W6 9) We (zv G (aA (be (lz0 0 G))) (zQ G (oO ({ X with N:=N1 }) vr (filL L)) (.o (vq 0 G)) o0)) (zz R1 RO ?_);refine ztA<|zgA U1 [] (W6 11) We (zv G (aA (be (lz0 0 G))) (zQ G (wQ ({ X with N:=N1 }) vr (filL L)) (.o (vq 0 G)) o0)) (zz R1 RO ?_);refine ztA<|zgA U1 [] (W6 13) We (zv G (aA (be (lz0 0 G))) (zQ G (wT ({ X with N:=N1 }) vr (filL L)) (.o (vq 0 G)) o0)) (zz R1 RO ?_);refine ztA<|zgA U1 [] (W6 15) We (zv G (aA (be (lz0 0 G))) (zQ G (so ({ X with N:=N1 }) vr (filL L)) (.o (vq 0 G)) o0)) (zz R1 RO ?_);refine ztA<|zgA U1 [] (W6 17) We (zv G (aA (be (lz0 0 G))) (zQ G (C1 ({ X with N:=N1 }) vr (filL L) hR) (.o (vq 0 G)) o0)) (zz R1 RO ?_);refine ztA<|zgA U1 [] (W6 19) We (zv G (aA (be (lz0 0 G))) (zQ G (oN ({ X with N:=N1 }) vr (filL L) hM) (.o (vq 0 G)) o0)) (zz R1 RO ?_);refine ztA<|zgA U1 [] (W6 21) We (zv G (aA (be (lz0 0 G))) (zQ G (wV ({ X with N:=N1 }) vr (filL L)) (.o (vq 0 G)) o0)) (zz R1 RO ?_);refine ztA<|zgA U1 [] (W6 23) We (zv G (aA (be (lz0 0 G))) (zQ G (wU ({ X with N:=N1 }) vr (filL L)) (.o (vq 0 G)) o0)) (zz R1 RO ?_);refine ztA<|zgA U1 [] (W6 25) We (zv G (aA (be (lz0 0 G))) (zQ G (wR ({ X with N:=N1 }) vr (filL L)) (.o (vq 0 G)) o0)) (zz R1 RO ?_);refine ztA<|zgA U1 [] (W6 27) We (zv G (aA (be (lz0 0 G))) (zQ G (C2 ({ X with N:=N1 }) vr (filL L)) (.o (vq 0 G)) o0)) (zz R1 RO ?_);refine ztA<|zgA U1 [] (W6 29) We (zv G (aA (be (lz0 0 G))) (zQ G (wS ({ X with N:=N1 }) vr (filL L)) (.o (vq 0 G)) o0)) (zz R1 RO ?_);refine ztA<|zgA U1 [] (W6 31) We (zv G (aA (be (lz0 0 G))) (zQ G (C3 ({ X with N:=N1 }) vr (filL L)) (.o (vq 0 G)) o0)) (zz R1 RO ?_);refine ztA<|zgA U1 [] (W6 33) We (zv G (aA (be (lz0 0 G))) (zQ G (sn ({ X with N:=N1 }) vr (filL L)) (.o (vq 0 G)) o0)) (zz R1 RO λ a w U=>?_);refine zt<|bJ (sp:=[.v 35 _,.v 36 VT]) 1 1 99 1 OneC [.g 0,.g 1,.o 0] U (zM 0 G o0) G zd zk zk (zz (Wa 0 2 35) RO λ a w U=>?_);rw [show List.range' 1 1=[1] from rfl];rw [qv];refine ew (A1:=GqA { X with N:=N1 } vr (filL L)) [0,1] [] 0 G U (CK.wkT (JK { X with N:=N1 } vr (filL L) (rj hnew) (by rw [qd];exact hl)) zd) G (xH (b:=ptr g) (U.vals _ (zm 2 G)) (jY (U.vals _ (zm 0 G)))) .nil G hrm zd zk zk zk zk (λ a w U=>?_);refine bU ?_;obtain ⟨L2,hG,U⟩:=Pr U 0 rfl;have hdone:=JP hG (rj hnew);have hlM2:L2.length≤1000000:=by rw [hG.1,qd];exact hl
 have U:=zn (Wa 36 0 2) [⟨0,59,ptrH,BqA { X with N:=N1 } vr L2⟩] U;refine zt<|bJ (sp:=[.v 37 _,.v 38 VT]) 1 1 99 1 OneC [.g 1,.g 2,.o 0] U (zM 1 G o0) G zd zk zk (zz (Wa 0 2 37) RO λ a w U=>?_);rw [show List.range' 1 1=[1] from rfl];rw [qv];refine ew (A1:=dv { X with N:=N1 } vr L2 (oZ MkI N1)) [0,1] [] 0 G U (CK.wkT (pZ { X with N:=N1 } vr L2 hN1.2 (by show N1.length≤_;rw [hN1.1];exact hlN)) zd) G (xH (b:=ptr g) (U.vals _ (zm 2 G)) (jY (U.vals _ (zm 0 G)))) .nil G hrm zd zk zk zk zk (λ a w U=>?_);refine bU ?_;obtain ⟨N2,hN2,U⟩:=nP U 0 rfl;have U:=zn (Wa 38 0 2) [⟨0,59,ptrH,BqA { X with N:=N2 } vr L2⟩] U;refine zt<|zg U3 [] (W6 39) [.g 1,.g 2] U (zv G (aA (be (lz0 0 G))) (zQ G (sk ({ X with N:=N2 }) vr L2) (.o (vq 0 G)) o0)) (zz R1 RO ?_);refine ztA<|zgA U1 [] (W6 41) We (zv G (aA (be (lz0 0 G))) (zQ G (oA ({ X with N:=N2 }) vr L2) (.o (vq 0 G)) o0)) (zz R1 RO ?_);refine ztA<|zgA U1 [] (W6 43) We (zv G (aA (be (lz0 0 G))) (zQ G (wH ({ X with N:=N2 }) vr L2) (.o (vq 0 G)) o0)) (zz R1 RO ?_);refine ztA<|zgA U1 [] (W6 45) We (zv G (aA (be (lz0 0 G))) (zQ G (wK ({ X with N:=N2 }) vr L2) (.o (vq 0 G)) o0)) (zz R1 RO ?_);refine ztA<|zgA U1 [] (W6 47) We (zv G (aA (be (lz0 0 G))) (zQ G (sj ({ X with N:=N2 }) vr L2) (.o (vq 0 G)) o0)) (zz R1 RO ?_);refine ztA<|zgA U1 [] (W6 49) We (zv G (aA (be (lz0 0 G))) (zQ G (BP ({ X with N:=N2 }) vr L2 hR) (.o (vq 0 G)) o0)) (zz R1 RO ?_);refine ztA<|zgA U1 [] (W6 51) We (zv G (aA (be (lz0 0 G))) (zQ G (oz ({ X with N:=N2 }) vr L2 hM) (.o (vq 0 G)) o0)) (zz R1 RO ?_);refine ztA<|zgA U1 [] (W6 53) We (zv G (aA (be (lz0 0 G))) (zQ G (wM ({ X with N:=N2 }) vr L2) (.o (vq 0 G)) o0)) (zz R1 RO ?_);refine ztA<|zgA U1 [] (W6 55) We (zv G (aA (be (lz0 0 G))) (zQ G (wL ({ X with N:=N2 }) vr L2) (.o (vq 0 G)) o0)) (zz R1 RO ?_);refine ztA<|zgA U1 [] (W6 57) We (zv G (aA (be (lz0 0 G))) (zQ G (wI ({ X with N:=N2 }) vr L2) (.o (vq 0 G)) o0)) (zz R1 RO ?_);refine ztA<|zgA U1 [] (W6 59) We (zv G (aA (be (lz0 0 G))) (zQ G (BQ ({ X with N:=N2 }) vr L2) (.o (vq 0 G)) o0)) (zz R1 RO ?_);refine ztA<|zgA U1 [] (W6 61) We (zv G (aA (be (lz0 0 G))) (zQ G (wJ ({ X with N:=N2 }) vr L2) (.o (vq 0 G)) o0)) (zz R1 RO ?_);refine ztA<|zgA U1 [] (W6 63) We (zv G (aA (be (lz0 0 G))) (zQ G (BR ({ X with N:=N2 }) vr L2) (.o (vq 0 G)) o0)) (zz R1 RO ?_);refine ztA<|zgA U1 [] (W6 65) We (zv G (aA (be (lz0 0 G))) (zQ G (si ({ X with N:=N2 }) vr L2) (.o (vq 0 G)) o0)) (zz R1 RO λ a w U=>?_);refine zt<|gl (sts:=[none]) (news:=[]) (sp:=((.v 67 _:Sp)::(.v 68 _)::(.v 69 _)::(.t 70 _)::(.t 71 _)::(.v 72 _)::(.v 73 _)::(.t 74 _)::(.t 75 _)::(.v 76 _)::(.v 77 _)::(.t 78 _)::(.t 79 _)::(.v 80 _)::(.v 81 _)::(.t 82 _)::(.t 83 _)::(.v 84 _)::(.v 85 _)::(.t 86 _)::(.t 87 _)::(.v 88 _)::(.v 89 _)::(.t 90 _)::(.t 91 _)::(.v 92 _)::(.v 93 _)::(.t 94 _)::(.t 95 _)::(.v 96 _)::(.v 97 _)::(.t 98 _)::(.t 99 _)::(.v 100 _)::(.v 101 _)::(.t 102 _)::(.t 103 _)::(.v 104 _)::(.v 105 _)::(.t 106 _)::(.t 107 _)::(.v 108 _)::(.v 109 _)::(.t 110 _)::(.t 111 _)::(.v 112 _)::(.v 113 _)::(.t 114 _)::(.t 115 _)::(.v 116 _)::(.v 117 _)::(.t 118 _)::(.t 119 _)::(.v 120 _)::(.v 121 _)::(.t 122 _)::(.t 123 _)::(.v 124 _)::(.v 125 _)::(.t 126 _)::(.t 127 _)::(.v 128 _)::(.v 2 _)::[])) [.g 0,.o 62] U (zv G (aA (be (lz0 0 G))) (zQ G (Jk ({ X with N:=N2 }) vr L2 hdone hlM2) (.o (vq 0 G)) (zV 1 G (zB 2 G (λ hg=>aA (be (lz0 0 G))) (zB 2 G (λ hg=>ba (pN ({ X with N:=N2 }) vr L2 hN2.2 (by show N2.length≤_;rw [hN2.1,hN1.1];exact hlN)) (.o (ae (vq 3 G) hg))) (zv G (bE (vq 2 G) (vq 4 G)) (zV 5 G (zB 6 G (λ hg=>aA (be (lz0 0 G))) (zB 6 G (λ hg=>ba (sd ({ X with N:=N2 }) vr L2) (.o (ae (vq 7 G) hg))) (zv G (bE (vq 6 G) (vq 8 G)) (zV 9 G (zB 10 G (λ hg=>aA (be (lz0 0 G))) (zB 10 G (λ hg=>ba (oo ({ X with N:=N2 }) vr L2) (.o (ae (vq 11 G) hg))) (zv G (bE (vq 10 G) (vq 12 G)) (zV 13 G (zB 14 G (λ hg=>aA (be (lz0 0 G))) (zB 14 G (λ hg=>ba (wx ({ X with N:=N2 }) vr L2) (.o (ae (vq 15 G) hg))) (zv G (bE (vq 14 G) (vq 16 G)) (zV 17 G (zB 18 G (λ hg=>aA (be (lz0 0 G))) (zB 18 G (λ hg=>ba (wA ({ X with N:=N2 }) vr L2) (.o (ae (vq 19 G) hg))) (zv G (bE (vq 18 G) (vq 20 G)) (zV 21 G (zB 22 G (λ hg=>aA (be (lz0 0 G))) (zB 22 G (λ hg=>ba (sc ({ X with N:=N2 }) vr L2) (.o (ae (vq 23 G) hg))) (zv G (bE (vq 22 G) (vq 24 G)) (zV 25 G (zB 26 G (λ hg=>aA (be (lz0 0 G))) (zB 26 G (λ hg=>ba (Bn ({ X with N:=N2 }) vr L2 hR) (.o (ae (vq 27 G) hg))) (zv G (bE (vq 26 G) (vq 28 G)) (zV 29 G (zB 30 G (λ hg=>aA (be (lz0 0 G))) (zB 30 G (λ hg=>ba (om ({ X with N:=N2 }) vr L2 hM) (.o (ae (vq 31 G) hg))) (zv G (bE (vq 30 G) (vq 32 G)) (zV 33 G (zB 34 G (λ hg=>aA (be (lz0 0 G))) (zB 34 G (λ hg=>ba (wC ({ X with N:=N2 }) vr L2) (.o (ae (vq 35 G) hg))) (zv G (bE (vq 34 G) (vq 36 G)) (zV 37 G (zB 38 G (λ hg=>aA (be (lz0 0 G))) (zB 38 G (λ hg=>ba (wB ({ X with N:=N2 }) vr L2) (.o (ae (vq 39 G) hg))) (zv G (bE (vq 38 G) (vq 40 G)) (zV 41 G (zB 42 G (λ hg=>aA (be (lz0 0 G))) (zB 42 G (λ hg=>ba (wy ({ X with N:=N2 }) vr L2) (.o (ae (vq 43 G) hg))) (zv G (bE (vq 42 G) (vq 44 G)) (zV 45 G (zB 46 G (λ hg=>aA (be (lz0 0 G))) (zB 46 G (λ hg=>ba (Bp ({ X with N:=N2 }) vr L2) (.o (ae (vq 47 G) hg))) (zv G (bE (vq 46 G) (vq 48 G)) (zV 49 G (zB 50 G (λ hg=>aA (be (lz0 0 G))) (zB 50 G (λ hg=>ba (wz ({ X with N:=N2 }) vr L2) (.o (ae (vq 51 G) hg))) (zv G (bE (vq 50 G) (vq 52 G)) (zV 53 G (zB 54 G (λ hg=>aA (be (lz0 0 G))) (zB 54 G (λ hg=>ba (Bq ({ X with N:=N2 }) vr L2) (.o (ae (vq 55 G) hg))) (zv G (bE (vq 54 G) (vq 56 G)) (zV 57 G (zB 58 G (λ hg=>aA (be (lz0 0 G))) (zB 58 G (λ hg=>ba (sb ({ X with N:=N2 }) vr L2) (.o (ae (vq 59 G) hg))) (zv G (bE (vq 58 G) (vq 60 G)) (zA 61 G o0))))))))))))))))))))))))))))))))))))))))))))))))))))))))))))))) (zz R1 RO λ a w U=>?_);have U:=St.wkL (A':=JkA) U 0 rfl PW;refine aa<|qi<|gg U (zm 0 G) (zm 0 G) ?_;exact ak G U (zm 1 G)
def BqG (n:Nat)(la nu ra el:As):As:=cat [NumA .i64 (n:Nat),la,nu,EqS (.slice none 0 0),EqS (.slice none 0 0),EqS (.slice none 0 0),EqS (.slice none 0 0),EqS (.slice none 0 0),ra,el,EqS (.slice none 0 0),EqS (.slice none 0 0),EqS (.slice none 0 0),EqS (.slice none 0 0),EqS (.slice none 0 0),EqS (.slice none 0 0),EqS (.slice none 0 0)]
theorem CP {n m:Nat}{la nu ra el:As}(h:(BqG n la nu ra el).p B cs w):0+0<cs.length∧(BqG m la nu ra el).p B (cs.set (0+0) (.int .i64 (m:Nat))) w:=by
 obtain ⟨ps,e,hp⟩:=h;cases hp with
 | @cons _ c _ ps h1 hp =>
  have h1':c=[.int .i64 (n:Nat)]:=h1;subst h1' e;exact ⟨by simp,[.int .i64 (m:Nat)]::ps,by simp,.cons G hp⟩
theorem CQ {n:Nat}{la nu ra el la' nu' ra' el':As}(h:(BqG n la nu ra el).p B cs w)(f1:∀ c,la.p B c w→la'.p B c w')(f2:∀ c,nu.p B c w→nu'.p B c w')(f3:∀ c,ra.p B c w→ra'.p B c w')(f4:∀ c,el.p B c w→el'.p B c w'):(BqG n la' nu' ra' el').p B cs w':=by
 obtain ⟨ps,e,hp⟩:=h;refine ⟨ps,e,?_⟩;cases hp with
 | cons h1 hp=>cases hp with
  | cons h2 hp=>cases hp with
   | cons h3 hp =>
    refine .cons h1 (.cons (f1 _ h2) (.cons (f2 _ h3) ?_))
    iterate 5 (cases hp;rename_i h3 hp;refine .cons h3 ?_)
    cases hp;rename_i h3 hp;refine .cons (f3 _ h3) ?_;cases hp;rename_i h3 hp;refine .cons (f4 _ h3) ?_
    iterate 7 (cases hp;rename_i h3 hp;refine .cons h3 ?_)
    cases hp;exact .nil
def HxG (c:Value)(A:As)(v:Value):As where
 n:=1
 ag:=false
 p B cs w:=cs=[c]∧c.oneCell'=true∧A.p B [v] w∧v.oneCell'=true
 deps:=A.deps
 len:=by rintro B cs w ⟨rfl,_⟩;rfl
 one:=by rintro B cs w ⟨rfl,h,_⟩ x hx;simp at hx;subst hx;exact h
 ag1:=λ _=>rfl
 cg:=λ B cs w w' hg ⟨h1,h2,h3,h4⟩=>⟨h1,h2,A.cg _ _ _ _ hg h3,h4⟩
 wr:=λ B cs w w' g c T fz h1 h2 h3 h4 ⟨h5,h6,h7,h8⟩=>⟨h5,h6,A.wr _ _ _ _ _ _ _ _ h1 h2 h3 h4 h7,h8⟩
theorem H8 {n:Nat}{c v:Yo}{A nu ra el:As}(h:(BqG n (HxG c A v) nu ra el).p B cs w):0+1<cs.length∧(BqG n A nu ra el).p B (cs.set (0+1) v) w:=by
 obtain ⟨ps,e,hp⟩:=h;cases hp with
 | @cons _ c1 _ ps h1 hp=>cases hp with
  | @cons _ c2 _ ps h2 hp =>
   have h1':c1=[.int .i64 (n:Nat)]:=h1;obtain ⟨h3,h4,h5,_⟩:=h2;subst h1' h3 e;refine ⟨by simp,[.int .i64 (n:Nat)]::[v]::ps,by simp,.cons G (.cons h5 hp)⟩
theorem IP {A:As}(hA:A.n=1){c:Ym}(h:A.p B c w):∃ x,c=[x]:=List.length_eq_one_iff.1 (by rw [A.len _ _ _ h,hA])
theorem H7 {n:Nat}{c v:Yo}{la A ra el:As}(n1:la.n=1)(h:(BqG n la (HxG c A v) ra el).p B cs w):0+2<cs.length∧(BqG n la A ra el).p B (cs.set (0+2) v) w:=by
 obtain ⟨ps,e,hp⟩:=h;cases hp with
 | @cons _ c0 _ ps h0 hp=>cases hp with
  | @cons _ c1 _ ps h1 hp=>cases hp with
   | @cons _ c2 _ ps h2 hp =>
    obtain ⟨x1,rfl⟩:=IP n1 h1;have h0':c0=[.int .i64 (n:Nat)]:=h0;obtain ⟨rfl,q4,q5,q6⟩:=h2;subst h0' e;exact ⟨by simp,[.int .i64 (n:Nat)]::[x1]::[v]::ps,by simp,.cons G (.cons h1 (.cons q5 hp))⟩
theorem MV {L:List Slot}{B T:Nat}{row:Yt}(hg:w.grownBy w' row)(hr:gj w B T row)(hT:T≠138∧T≠U32):∀ c,(HbA vr L).p B c w→(HbA vr L).p B c w':=λ c hp=>As.grown hp hg hr (qh _) (show T ∉ [138,U32] by simp [hT.1,hT.2])
theorem pX {H E m:Nat}{L:List Slt}{B T:Nat}{row:Yt}(hg:w.grownBy w' row)(hr:gj w B T row)(hT:T≠H∧T≠E):∀ c,(HkA H E m vr L).p B c w→(HkA H E m vr L).p B c w':=λ c hp=>As.grown hp hg hr (qh _) (show T ∉ [H,E] by simp [hT.1,hT.2])
theorem tV {L:List Slot}{xs:Ya}{n B:Nat}{c:Ym}(h:(HbA vr L).p B c w)(hm:(MgN xs).va.p B v w)(hsep:∀ t∈L,∀ g,t.has g→v.ownBlock≠some g):
  w.ownsRow B 138 3 vr L.length (L.flatMap Slot.cells)∧∀ v' w',w'.ownsRow B 138 3 v' (L.length+1) (L.flatMap Slot.cells++(newS v xs n).cells)→w.grownBy w' vr.ownBlock→(HxG vr (HbA v' (L++[newS v xs n])) v').p B c w':=by
 obtain ⟨q1,q2,q3,q4⟩:=h;refine ⟨q2,λ v' w' hown hg=>?_⟩;have hkeep:∀ (g:Nat) (c:Array Value),w.heap[g]?=some (Obj.cells c U32 (0,0))→w'.heap[g]?=some (Obj.cells c U32 (0,0)):=λ g c h8=>by
  refine (hg.block g (Array.getElem?_eq_some_iff.1 h8).1 (λ e9=>?_)).trans h8;rcases q2.2 with ⟨e1,_⟩|⟨g',cap,cur,e1,_,e3,_⟩
  ·rw [e1] at e9;cases e9
  ·rw [e1] at e9;have:g=g':=by simpa [Value.ownBlock] using e9
   subst this;rw [h8] at e3;injection e3 with e3;injection e3 with _ e3 _;revert e3;decide
 have hown1:=Gt hm;refine ⟨q1,(cV q2).1,⟨rfl,?_,λ t ht=>?_,λ i j s t hi hj hne g hs ht=>?_⟩,(cV hown).1⟩
 ·rw [qx,kt];simpa using hown
 ·rcases qn.1 ht with ht|ht
  ·exact (q3 t ht).keep λ g c _ h8=>hkeep g c h8
  ·obtain rfl:=ql.1 ht;have h9:w'.ownsRow B U32 1 v xs.length (xs.map lv):=cH hown1 λ g c _ h8=>hkeep g c h8;exact ⟨h9,AM h9⟩
 ·have hb1:∀ g,(newS v xs n).has g→v.ownBlock=some g:=λ g h=>by
   rcases h with h|h <;> exact h
  have hget:∀ (i:Nat) s,(L++[newS v xs n])[i]?=some s→(L[i]?=some s∧i<L.length)∨(i=L.length∧s=newS v xs n):=λ i s hi=>by
   by_cases h5:i<L.length
   ·rw [List.getElem?_append_left h5] at hi;exact .inl ⟨hi,h5⟩
   ·rw [List.getElem?_append_right zo] at hi;have h6:=(List.getElem?_eq_some_iff.1 hi).1;simp at h6;have h7:i=L.length:=by omega
    subst h7;simp at hi;exact .inr ⟨rfl,hi.symm⟩
  rcases hget i s hi with ⟨h5,h5'⟩|⟨h5,rfl⟩ <;> rcases hget j t hj with ⟨h6,h6'⟩|⟨h6,rfl⟩
  ·exact q4 i j s t h5 h6 hne g hs ht
  ·exact hsep s (qa h5) g hs (hb1 g ht)
  ·exact hsep t (qa h6) g ht (hb1 g hs)
  ·omega
def em (m n:Nat)(ds:List Value):List (List Value):=(List.range n).map λ k=>(ds.drop (k*m)).take m
theorem nD {m n:Nat}{ds:Ym}:(em m n ds).length=n:=by unfold em;simp
theorem sI {m n:Nat}{ds:Ym}(h:ds.length=n*m):∀ x∈em m n ds,x.length=m:=λ x hx=>by
 obtain ⟨k,hk,rfl⟩:=qp.1 hx;have hk':=jI.1 hk;have:k*m+m≤n*m:=by rw [← xD];exact qI m hk'
 rw [qX,xM];omega
theorem mD {m:Nat}:∀ {n:Nat}{ds:Ym},ds.length=n*m→(em m n ds).flatten=ds
 | 0,ds,h=>by
  have:ds=[]:=z9 (by simpa using h);subst this
  rfl
 | n+1,ds,h=>by
  have h1:em m (n+1) ds=ds.take m::em m n (ds.drop m):=by
   unfold em;rw [List.range_succ_eq_map,qS,xq,x9,xl]
   congr 1
   apply ko;intro k _;show (ds.drop ((k+1)*m)).take m=((ds.drop m).drop (k*m)).take m;rw [List.drop_drop,xD,xg m]
  rw [h1,zZ,mD (by rw [xM,h,xD];omega),xv]
def newK (m:Nat)(v:Value)(a:Nat)(ds:List Value)(n:Nat):Slt:=⟨v,em m a ds,v,em m a ds,.slice none 0 0,n⟩
def OwV (E m:Nat)(v:Value)(n:Nat):VA where
 p B u w:=u=v∧∃ ds,w.ownsRow B E m v n ds
 deps:=[E]
 cg:=λ B u w w' hg ⟨h,ds,h2⟩=>⟨h,ds,cH h2 λ g c _ h=>hg.heap h⟩
 wr:=by
  rintro B u w w' g c T fz hgc hT hB hW ⟨h,ds,h2⟩;simp only [qr,zF,or_false] at hT;refine ⟨h,ds,cH h2 λ g' c' _ h3=>?_⟩;rw [hW.block g' (λ e=>?_)]
  ·exact h3
  ·subst e;rw [hgc] at h3;injection h3 with h3;injection h3 with _ h3 _;exact hT h3
theorem M6 {E m n:Nat}:Wk (OwV E m v n) (EqS v).va:=λ B u w ⟨h,ds,h2⟩=>⟨[v],⟨rfl,(cV h2).1⟩,h⟩
theorem tT {H E m a n B:Nat}{L:List Slt}{c ds:Ym}(hHE:H≠E)(h:(HkA H E m vr L).p B c w)(hm:w.ownsRow B E m v a ds)(hsep:∀ t∈L,∀ g,t.has g→v.ownBlock≠some g):
  w.ownsRow B H 3 vr L.length (L.flatMap Slt.cells)∧∀ v' w',w'.ownsRow B H 3 v' (L.length+1) (L.flatMap Slt.cells++(newK m v a ds n).cells)→w.grownBy w' vr.ownBlock→(HxG vr (HkA H E m v' (L++[newK m v a ds n])) v').p B c w':=by
 obtain ⟨q1,q2,q3,q4⟩:=h;refine ⟨q2,λ v' w' hown hg=>?_⟩;have hkeep:∀ (g:Nat) (c:Array Value),w.heap[g]?=some (Obj.cells c E (0,0))→w'.heap[g]?=some (Obj.cells c E (0,0)):=λ g c h8=>by
  refine (hg.block g (Array.getElem?_eq_some_iff.1 h8).1 (λ e9=>?_)).trans h8;rcases q2.2 with ⟨e1,_⟩|⟨g',cap,cur,e1,_,e3,_⟩
  ·rw [e1] at e9;cases e9
  ·rw [e1] at e9;have:g=g':=by simpa [Value.ownBlock] using e9
   subst this;rw [h8] at e3;injection e3 with e3;injection e3 with _ e3 _;exact hHE e3.symm
 have hcl:(em m a ds).length=a:=nD;have hfl:(em m a ds).flatten=ds:=mD hm.1;refine ⟨q1,(cV q2).1,⟨rfl,?_,λ t ht=>?_,λ i j s t hi hj hne g hs ht=>?_⟩,(cV hown).1⟩
 ·rw [qx,kt];simpa using hown
 ·rcases qn.1 ht with ht|ht
  ·exact (q3 t ht).keep λ g c _ h8=>hkeep g c h8
  ·obtain rfl:=ql.1 ht;have h9:w'.ownsRow B E m v (em m a ds).length (em m a ds).flatten:=by
    rw [hcl,hfl];exact cH hm λ g c _ h8=>hkeep g c h8
   exact ⟨h9,tA (sI hm.1) h9⟩
 ·have hb1:∀ g,(newK m v a ds n).has g→v.ownBlock=some g:=λ g h=>by
   rcases h with h|h <;> exact h
  have hget:∀ (i:Nat) s,(L++[newK m v a ds n])[i]?=some s→(L[i]?=some s∧i<L.length)∨(i=L.length∧s=newK m v a ds n):=λ i s hi=>by
   by_cases h5:i<L.length
   ·rw [List.getElem?_append_left h5] at hi;exact .inl ⟨hi,h5⟩
   ·rw [List.getElem?_append_right zo] at hi;have h6:=(List.getElem?_eq_some_iff.1 hi).1;simp at h6;have h7:i=L.length:=by omega
    subst h7;simp at hi;exact .inr ⟨rfl,hi.symm⟩
  rcases hget i s hi with ⟨h5,h5'⟩|⟨h5,rfl⟩ <;> rcases hget j t hj with ⟨h6,h6'⟩|⟨h6,rfl⟩
  ·exact q4 i j s t h5 h6 hne g hs ht
  ·exact hsep s (qa h5) g hs (hb1 g ht)
  ·exact hsep t (qa h6) g ht (hb1 g hs)
  ·omega
theorem GE {n B:Nat}{m a:Nat}{es ds:Ym}(h:(cat [EqS v,EqS (.slice none 0 0),NumA .i64 (n:Nat)]).p B ds w):ds=(newK m v a es n).cells:=by
 obtain ⟨ps,rfl,hp⟩:=h;cases hp with
 | cons h1 hp=>cases hp with
  | cons h2 hp=>cases hp with
   | cons h3 hp =>
    cases hp;have h3':=h3;obtain ⟨rfl,_⟩:=h1;obtain ⟨rfl,_⟩:=h2;have:_=[Value.int .i64 (n:Nat)]:=h3';subst this
    rfl
theorem H6 {n:Nat}{c v:Yo}{A nu ra el:As}{B N:Nat}{s:Nat}(h:St B w0 N Γ Λ a w)(k:Nat)(hm:Λ[k]?=some ⟨s,T,H,BqG n (HxG c A v) nu ra el⟩):v.oneCell'=true∧v.cells = #[v]:=by
 obtain ⟨g,cs,_,_,_,hp⟩:=h.locs _ (qa hm);obtain ⟨ps,e,hp⟩:=hp;cases hp with
 | cons h1 hp=>cases hp with
  | cons h2 hp=>exact ⟨h2.2.2.2,mE h2.2.2.2⟩
theorem H5 {n:Nat}{c v:Yo}{A la ra el:As}{B N:Nat}{s:Nat}(h:St B w0 N Γ Λ a w)(k:Nat)(hm:Λ[k]?=some ⟨s,T,H,BqG n la (HxG c A v) ra el⟩):v.oneCell'=true∧v.cells = #[v]:=by
 obtain ⟨g,cs,_,_,_,hp⟩:=h.locs _ (qa hm);obtain ⟨ps,e,hp⟩:=hp
 iterate 2 (cases hp;rename_i _ hp)
 cases hp;rename_i h2 hp;exact ⟨h2.2.2.2,mE h2.2.2.2⟩
theorem mT:∃ it z,Tryz.prog.info? 142=some it∧it.zero=some z∧it.size=3∧it.bytes=56∧z.cells.size=3:=by
 have h:((Tryz.prog.info? 142).bind λ it=>it.zero.map λ z=>(it.size,it.bytes,z.cells.size))=some (3,56,3):=by kernel_rfl
 cases hi:Tryz.prog.info? 142 with
 | none=>rw [hi] at h;simp at h
 | some it =>
  rw [hi] at h;cases hz:it.zero with
  | none=>simp [hz] at h
  | some z =>
   simp [hz] at h;exact ⟨it,z,rfl,hz,h.1,h.2.1,h.2.2⟩
def BqE (p:BkRest→List Slot→Prop):As where
 n:=17
 ag:=true
 p B cs w:=∃ X vr L,p X L∧(BqA X vr L).p B cs w
 deps:=[138,U32,142,3,169,117,172,91]
 len:=λ B cs w ⟨X,vr,L,_,h⟩=>(BqA X vr L).len B cs w h
 one:=λ B cs w ⟨X,vr,L,_,h⟩=>(BqA X vr L).one B cs w h
 ag1:=λ h=>by cases h
 cg:=λ B cs w w' hg ⟨X,vr,L,h1,h⟩=>⟨X,vr,L,h1,(BqA X vr L).cg B cs w w' hg h⟩
 wr:=λ B cs w w' g c T fz h1 h2 h3 h4 ⟨X,vr,L,h5,h⟩=>⟨X,vr,L,h5,(BqA X vr L).wr B cs w w' g c T fz h1 h2 h3 h4 h⟩
theorem uH {X:BkRest}{L:List Slot}{p:BkRest→List Slot→Prop}(h:p X L):WkA (BqA X vr L) (BqE p):=⟨rfl,rfl,λ B cs w hp=>⟨X,vr,L,h,hp⟩⟩
theorem tO {X:BkRest}{n:Nat}{L:List Slot}{xs:Ya}(h:(BqG n (HbA vr L) (nuA X) (ryA X) (elA X)).p B cs w)(hm:(MgN xs).va.p B v w)(hsep:∀ t∈L,∀ g,t.has g→v.ownBlock≠some g):
  w.ownsRow B 138 3 vr L.length (L.flatMap Slot.cells)∧∀ v' w' ds,ds=(newS v xs n).cells→w'.ownsRow B 138 3 v' (L.length+1) (L.flatMap Slot.cells++ds)→w.grownBy w' vr.ownBlock→(v'.ownBlock=vr.ownBlock∨(v'.ownBlock=some w.heap.size∧w.grownBy w' none))→(BqG n (HxG vr (HbA v' (L++[newS v xs n])) v') (nuA X) (ryA X) (elA X)).p B cs w':=by
 obtain ⟨⟨c0,h0⟩,_⟩:=cI (X:={ X with n:=n }) h;have hown:=(tV (n:=n) h0 hm hsep).1;refine ⟨hown,λ v' w' ds hds hown' hg hb=>?_⟩;subst hds;have hr:=dR hown;exact CQ h (λ c hc=>(tV (n:=n) hc hm hsep).2 v' w' hown' hg) (pX hg hr zd) (pX hg hr zd) (pX hg hr zd)
theorem tN {X:BkRest}{n a:Nat}{L:List Slot}{es:Ym}(h:(BqG n (HbA vr L) (nuA X) (ryA X) (elA X)).p B cs w)(hm:w.ownsRow B 3 1 v a es)(hsep:∀ t∈X.N,∀ g,t.has g→v.ownBlock≠some g):
  w.ownsRow B 142 3 X.vn X.N.length (X.N.flatMap Slt.cells)∧∀ v' w' ds,ds=(newK 1 v a es n).cells→w'.ownsRow B 142 3 v' (X.N.length+1) (X.N.flatMap Slt.cells++ds)→w.grownBy w' X.vn.ownBlock→(v'.ownBlock=X.vn.ownBlock∨(v'.ownBlock=some w.heap.size∧w.grownBy w' none))→(BqG n (HbA vr L) (HxG X.vn (HkA 142 3 1 v' (X.N++[newK 1 v a es n])) v') (ryA X) (elA X)).p B cs w':=by
 obtain ⟨_,⟨c0,h0⟩,_,_⟩:=cI (X:={ X with n:=n }) h;have hown:=(tT (n:=n) zd h0 hm hsep).1;refine ⟨hown,λ v' w' ds hds hown' hg hb=>?_⟩;subst hds;have hr:=dR hown;exact CQ h (MV hg hr zd) (λ c hc=>(tT (n:=n) zd hc hm hsep).2 v' w' hown' hg) (pX hg hr zd) (pX hg hr zd)
theorem BA (X:BkRest)(vr v:Yo)(xs:Ya)(L:List Slot)(hsep:∀ t∈L,∀ g,t.has g→v.ownBlock≠some g)(hl:L.length≤1000000)(hn:X.n≤10000000):CK Tryz.prog 212 59 [59,138] (BqA X vr L) (BqE (λ X2 L2=>X2.n=X.n+1∧X2.N=X.N∧X2.R=X.R∧X2.M=X.M∧L2=L++[newS v xs (X.n+1)])) [(PinA v (MgN xs)).va] (Tu []):=by
 obtain ⟨it0,z0,hi0,hz0,hs0,hb0',hc0⟩:=FH;refine CK.intro Tryz.func212 G zk nq zk (λ B g w0 a hrm U=>?_);have U:=zn [(0,EqV ((ptrH).f g)),(1,(PinA v (MgN xs)).va)] [⟨0,59,ptrH,BqA X vr L⟩] U;have U:St B w0 26 _ [⟨0,59,ptrH,BqG X.n (HbA vr L) (nuA X) (ryA X) (elA X)⟩] a w0.w:=U;refine qb<|bJ (sp:=[.v 4 _,.v 5 _,.v 6 _,.v 7 _,.v 8 _,.v 9 _,.v 10 _,.sto 0]) 7 1 0 7 OneC [.g 0,.g 1,.o 4,.o 6] U (zM 0 G (zv G (l5 (vq 0 G)) (zv G (l6 (vq 1 G) fZ) (zv G (cm (vq 2 G) (lz0 0 G) (gq 0 G) (Sub.part 0 G G) ty_3) (zv G (aL (vq 3 G) ab (aU zo)) (zv G (l5 (vq 0 G)) (zv G (l6 (vq 5 G) fZ) o0))))))) G zd zk zk (zz (Wf 0 1 8 10) RO λ a w U=>?_);rw [show List.range' 7 1=[7] from rfl];have U:=St.wkG U 2 rfl Hn;rw [qv];refine gx (A1:=BqG (X.n+1) (HbA vr L) (nuA X) (ryA X) (elA X)) [0,1] 3 2 0 0 G U G G G G G ty_3 G zk zk G (λ cs hp=>CP hp) (λ w U=>?_);refine dm ?_;have U:=zn Uc [⟨0,59,ptrH,BqG (X.n+1) (HbA vr L) (nuA X) (ryA X) (elA X)⟩] U;refine aa<|tY (sp:=[.v 11 _,.v 12 _,.v 13 _,.v 14 _,.v 15 _,.v 16 _,.v 17 _,.v 18 _,.v 19 _,.v 20 _,.v 21 _,.v 22 _,.v 23 VT,.v 24 VT,.v 25 VT,.sto 0]) [[],[],[1],[1,2],[1,2,3],[],[],[6],[6,7],[6,7,8],[5,6,7,8,9],[5,6,7,8,9,10],[1,2,3,4,5,6,7,8,9,10,11],[0,1,2,3,4,5,6,7,8,9,10,11,12],[0,1,2,3,4,5,6,7,8,9,10,11,12,13],[0,1,2,3,4,5,6,7,8,9,10,11,12,13,14]] 12 4 0 15 0 OneC [.g 0,.g 1,.o 0,.o 4,.o 11] [.g 0,.g 1,.o 4,.o 11] ac U (zM 0 G (zM 0 G (zv G (l5 (vq 1 G)) (zv G (l6 (vq 2 G) du) (zv G (cm (vq 3 G) (lz0 0 G) (gq 0 G) (Sub.part 1 G G) mQ) (zv G (aA (has_wk' (gq 1 G) M5)) (zM 0 G (zv G (l5 (vq 6 G)) (zv G (l6 (vq 7 G) fZ) (zv G (cm (vq 8 G) (lz0 0 G) (gq 0 G) (Sub.part 0 G G) ty_3) (zv G (aS (qs:=[(0,_),(2,_)]) lw (.cons ⟨rfl,vq 5 rfl,rfl⟩ (.cons ⟨rfl,vq 9 rfl,rfl⟩ .nil))) (zv G (bW (D:=[U32]) (l:=[_]) (xs:=[.tmp 21]) (dh zk) Ow zk (n_ok zk) nq nq nq (.o (vq 10 G)) G G) o0)))))))))))) G zd zd zd zk zk (fI zk) zk zk zk (λ a w U=>?_) (λ a w U=>?_)
 ·have U:=zn (W8 0 1 11 15 22) RO U;rw [show List.range' 12 4=[12,13,14,15] from rfl];have U:=St.wkG U 3 rfl JG;have hm:=U.vals _ (zm 1 rfl);rw [qv];refine iT (m:=3) (X:=cat [EqS v,EqS (.slice none 0 0),NumA .i64 ((X.n+1:Nat):Int)]) (A1:=λ v'=>BqG (X.n+1) (HxG vr (HbA v' (L++[newS v xs (X.n+1)])) v') (nuA X) (ryA X) (elA X)) (F:=λ ds=>ds=(newS v xs (X.n+1)).cells) [0,2] 3 4 0 G U G G (λ ds h=>BL h) G G G (hrm _ zk) xC hi0 hz0 hs0 hb0' hc0 zd (n:=L.length) zo zo zd zk zk zk zk (λ cs hp=>tO hp (AK hm) hsep) (λ v' w' U=>?_);rw [qv];refine nZ 2 G U G zd zk zk (λ a U=>?_);rw [qv];refine fj 0 G U du G zd zk zk (λ a U=>?_);rw [qv];have hv1:=(H6 U 0 rfl);refine gx (A1:=BqG (X.n+1) (HbA v' (L++[newS v xs (X.n+1)])) (nuA X) (ryA X) (elA X)) [3] 0 2 3 0 G U G G G hv1.1 hv1.2 mQ G zk zk G (λ cs hp=>H8 hp) (λ w U=>?_);refine dm ?_;have U:=St.wkL (A':=BqE (λ X2 L2=>X2.n=X.n+1∧X2.N=X.N∧X2.R=X.R∧X2.M=X.M∧L2=L++[newS v xs (X.n+1)])) U 0 rfl (uH (X:={ X with n:=X.n+1 }) (vr:=v') (L:=L++[newS v xs (X.n+1)]) ⟨rfl,rfl,rfl,rfl,rfl⟩);have U:=zn UI RO U;refine cY<|gg U (zm 0 G) (zm 0 G) ?_;exact aX (rs:=[]) G U .nil zd
 ·have U:=zn (Wf 0 1 15 22) RO U;rw [show List.range' (12+1) (4-1)=[13,14,15] from rfl];have U:=St.wkG U 2 rfl JG;have hm:=U.vals _ (zm 1 rfl);rw [qv];refine iT (m:=3) (X:=cat [EqS v,EqS (.slice none 0 0),NumA .i64 ((X.n+1:Nat):Int)]) (A1:=λ v'=>BqG (X.n+1) (HxG vr (HbA v' (L++[newS v xs (X.n+1)])) v') (nuA X) (ryA X) (elA X)) (F:=λ ds=>ds=(newS v xs (X.n+1)).cells) [0] 2 3 0 G U G G (λ ds h=>BL h) G G G (hrm _ zk) xC hi0 hz0 hs0 hb0' hc0 zd (n:=L.length) zo zo zd zk zk zk zk (λ cs hp=>tO hp (AK hm) hsep) (λ v' w' U=>?_);rw [qv];refine AV 1 G U G zd zk zk (λ a U=>?_);rw [qv];refine nZ 0 G U G zd zk zk (λ a U=>?_);rw [qv];refine fj 0 G U du G zd zk zk (λ a U=>?_);rw [qv];have hv1:=(H6 U 0 rfl);refine gx (A1:=BqG (X.n+1) (HbA v' (L++[newS v xs (X.n+1)])) (nuA X) (ryA X) (elA X)) [4] 0 3 4 0 G U G G G hv1.1 hv1.2 mQ G zk zk G (λ cs hp=>H8 hp) (λ w U=>?_);refine dm ?_;have U:=St.wkL (A':=BqE (λ X2 L2=>X2.n=X.n+1∧X2.N=X.N∧X2.R=X.R∧X2.M=X.M∧L2=L++[newS v xs (X.n+1)])) U 0 rfl (uH (X:={ X with n:=X.n+1 }) (vr:=v') (L:=L++[newS v xs (X.n+1)]) ⟨rfl,rfl,rfl,rfl,rfl⟩);have U:=zn UI RO U;refine cY<|gg U (zm 0 G) (zm 0 G) ?_;exact aX (rs:=[]) G U .nil zd
theorem Bz (X:BkRest)(vr v:Yo)(na:Nat)(L:List Slot)(hsep:∀ t∈X.N,∀ g,t.has g→v.ownBlock≠some g)(hl:X.N.length≤1000000)(hn:X.n≤10000000):CK Tryz.prog 138 59 [59,142] (BqA X vr L) (BqE (λ X2 L2=>X2.n=X.n+1∧X2.M=X.M∧X2.R=X.R∧L2=L∧∃ es,es.length=na*1∧X2.N=X.N++[newK 1 v na es (X.n+1)])) [OwV 3 1 v na] (Tu []):=by
 obtain ⟨it0,z0,hi0,hz0,hs0,hb0',hc0⟩:=mT;refine CK.intro Tryz.func138 G zk nq zk (λ B g w0 a hrm U=>?_);have U:=zn [(0,EqV ((ptrH).f g)),(1,OwV 3 1 v na)] [⟨0,59,ptrH,BqA X vr L⟩] U;have U:St B w0 26 _ [⟨0,59,ptrH,BqG X.n (HbA vr L) (nuA X) (ryA X) (elA X)⟩] a w0.w:=U;refine qb<|bJ (sp:=[.v 4 _,.v 5 _,.v 6 _,.v 7 _,.v 8 _,.v 9 _,.v 10 _,.sto 0]) 7 1 0 7 OneC [.g 0,.g 1,.o 4,.o 6] U (zM 0 G (zv G (l5 (vq 0 G)) (zv G (l6 (vq 1 G) fZ) (zv G (cm (vq 2 G) (lz0 0 G) (gq 0 G) (Sub.part 0 G G) ty_3) (zv G (aL (vq 3 G) ab (aU zo)) (zv G (l5 (vq 0 G)) (zv G (l6 (vq 5 G) fZ) o0))))))) G zd zk zk (zz (Wf 0 1 8 10) RO λ a w U=>?_);rw [show List.range' 7 1=[7] from rfl];have U:=St.wkG U 2 rfl Hn;rw [qv];refine gx (A1:=BqG (X.n+1) (HbA vr L) (nuA X) (ryA X) (elA X)) [0,1] 3 2 0 0 G U G G G G G ty_3 G zk zk G (λ cs hp=>CP hp) (λ w U=>?_);refine dm ?_;have U:=zn Uc [⟨0,59,ptrH,BqG (X.n+1) (HbA vr L) (nuA X) (ryA X) (elA X)⟩] U;refine aa<|tY (sp:=[.v 11 _,.v 12 _,.v 13 _,.v 14 _,.v 15 _,.v 16 _,.v 17 _,.v 18 _,.v 19 _,.v 20 _,.v 21 _,.v 22 _,.v 23 VT,.v 24 VT,.v 25 VT,.sto 0]) [[],[],[1],[1,2],[1,2,3],[],[],[6],[6,7],[6,7,8],[5,6,7,8,9],[5,6,7,8,9,10],[1,2,3,4,5,6,7,8,9,10,11],[0,1,2,3,4,5,6,7,8,9,10,11,12],[0,1,2,3,4,5,6,7,8,9,10,11,12,13],[0,1,2,3,4,5,6,7,8,9,10,11,12,13,14]] 12 4 0 15 0 OneC [.g 0,.g 1,.o 0,.o 4,.o 11] [.g 0,.g 1,.o 4,.o 11] ac U (zM 0 G (zM 0 G (zv G (l5 (vq 1 G)) (zv G (l6 (vq 2 G) dt) (zv G (cm (vq 3 G) (lz0 0 G) (gq 0 G) (Sub.part 2 G G) mP) (zv G (aA (has_wk' (gq 1 G) M6)) (zM 0 G (zv G (l5 (vq 6 G)) (zv G (l6 (vq 7 G) fZ) (zv G (cm (vq 8 G) (lz0 0 G) (gq 0 G) (Sub.part 0 G G) ty_3) (zv G (aS (qs:=[(0,_),(2,_)]) dp (.cons ⟨rfl,vq 5 rfl,rfl⟩ (.cons ⟨rfl,vq 9 rfl,rfl⟩ .nil))) (zv G (bW (D:=[U32]) (l:=[_]) (xs:=[.tmp 21]) (dh zk) Ov zk (n_ok zk) nq nq nq (.o (vq 10 G)) G G) o0)))))))))))) G zd zd zd zk zk (fI zk) zk zk zk (λ a w U=>?_) (λ a w U=>?_)
 ·have U:=zn (W8 0 1 11 15 22) RO U;rw [show List.range' 12 4=[12,13,14,15] from rfl];have U:=St.wkG U 3 rfl JE;have hm:=U.vals _ (zm 1 rfl);obtain ⟨-,es,hm⟩:=hm;rw [qv];refine iT (m:=3) (X:=cat [EqS v,EqS (.slice none 0 0),NumA .i64 ((X.n+1:Nat):Int)]) (A1:=λ v'=>BqG (X.n+1) (HbA vr L) (HxG X.vn (HkA 142 3 1 v' (X.N++[newK 1 v na es (X.n+1)])) v') (ryA X) (elA X)) (F:=λ ds=>ds=(newK 1 v na es (X.n+1)).cells) [0,2] 3 4 0 G U G G (λ ds h=>GE h) G G G (hrm _ zk) xB hi0 hz0 hs0 hb0' hc0 zd (n:=X.N.length) zo zo zd zk zk zk zk (λ cs hp=>tN hp hm hsep) (λ v' w' U=>?_);rw [qv];refine nZ 2 G U G zd zk zk (λ a U=>?_);rw [qv];refine fj 0 G U dt G zd zk zk (λ a U=>?_);rw [qv];have hv1:=(H5 U 0 rfl);refine gx (A1:=BqG (X.n+1) (HbA vr L) (HkA 142 3 1 v' (X.N++[newK 1 v na es (X.n+1)])) (ryA X) (elA X)) [3] 0 2 3 0 G U G G G hv1.1 hv1.2 mP G zk zk G (λ cs hp=>H7 G hp) (λ w U=>?_);refine dm ?_;have U:=St.wkL (A':=BqE (λ X2 L2=>X2.n=X.n+1∧X2.M=X.M∧X2.R=X.R∧L2=L∧∃ es,es.length=na*1∧X2.N=X.N++[newK 1 v na es (X.n+1)])) U 0 rfl (uH (X:={ X with n:=X.n+1,vn:=v',N:=X.N++[newK 1 v na es (X.n+1)] }) (vr:=vr) (L:=L) ⟨rfl,rfl,rfl,rfl,es,hm.1,rfl⟩);have U:=zn UI RO U;refine cY<|gg U (zm 0 G) (zm 0 G) ?_;exact aX (rs:=[]) G U .nil zd
 ·have U:=zn (Wf 0 1 15 22) RO U;rw [show List.range' (12+1) (4-1)=[13,14,15] from rfl];have U:=St.wkG U 2 rfl JE;have hm:=U.vals _ (zm 1 rfl);obtain ⟨-,es,hm⟩:=hm;rw [qv];refine iT (m:=3) (X:=cat [EqS v,EqS (.slice none 0 0),NumA .i64 ((X.n+1:Nat):Int)]) (A1:=λ v'=>BqG (X.n+1) (HbA vr L) (HxG X.vn (HkA 142 3 1 v' (X.N++[newK 1 v na es (X.n+1)])) v') (ryA X) (elA X)) (F:=λ ds=>ds=(newK 1 v na es (X.n+1)).cells) [0] 2 3 0 G U G G (λ ds h=>GE h) G G G (hrm _ zk) xB hi0 hz0 hs0 hb0' hc0 zd (n:=X.N.length) zo zo zd zk zk zk zk (λ cs hp=>tN hp hm hsep) (λ v' w' U=>?_);rw [qv];refine AV 1 G U G zd zk zk (λ a U=>?_);rw [qv];refine nZ 0 G U G zd zk zk (λ a U=>?_);rw [qv];refine fj 0 G U dt G zd zk zk (λ a U=>?_);rw [qv];have hv1:=(H5 U 0 rfl);refine gx (A1:=BqG (X.n+1) (HbA vr L) (HkA 142 3 1 v' (X.N++[newK 1 v na es (X.n+1)])) (ryA X) (elA X)) [4] 0 3 4 0 G U G G G hv1.1 hv1.2 mP G zk zk G (λ cs hp=>H7 G hp) (λ w U=>?_);refine dm ?_;have U:=St.wkL (A':=BqE (λ X2 L2=>X2.n=X.n+1∧X2.M=X.M∧X2.R=X.R∧L2=L∧∃ es,es.length=na*1∧X2.N=X.N++[newK 1 v na es (X.n+1)])) U 0 rfl (uH (X:={ X with n:=X.n+1,vn:=v',N:=X.N++[newK 1 v na es (X.n+1)] }) (vr:=vr) (L:=L) ⟨rfl,rfl,rfl,rfl,es,hm.1,rfl⟩);have U:=zn UI RO U;refine cY<|gg U (zm 0 G) (zm 0 G) ?_;exact aX (rs:=[]) G U .nil zd
abbrev VL:=List (Value × Nat)
def FrK (n:Nat)(M:List Slt)(Es:VL):Prop:=M.map (λ s=>(s.v,s.xs.length))=Es∧∀ s∈M,s.u=s.v∧s.ys=s.xs∧s.z=.slice none 0 0∧s.n≤n
def FrL (n:Nat)(L:List Slot)(K:KL):Prop:=L.map (λ s=>(s.v,s.xs))=K∧∀ s∈L,s.u=s.v∧s.ys=s.xs∧s.z=.slice none 0 0∧s.n≤n
def KsP (K:KL)(Rs Es:VL)(X:BkRest)(L:List Slot):Prop:=X.n=K.length+Rs.length+Es.length∧X.M=[]∧FrL X.n L K∧FrK X.n X.R Rs∧FrK X.n X.N Es
def BkF (K:KL)(Rs Es:VL):As:=BqE (KsP K Rs Es)
theorem lJ {n m:Nat}{M:List Slt}{Es:VL}(h:FrK n M Es)(hn:n≤m):FrK m M Es:=⟨h.1,λ s hs=>⟨(h.2 s hs).1,(h.2 s hs).2.1,(h.2 s hs).2.2.1,qf (h.2 s hs).2.2.2 hn⟩⟩
theorem uc {n m:Nat}{M:List Slot}{Es:KL}(h:FrL n M Es)(hn:n≤m):FrL m M Es:=⟨h.1,λ s hs=>⟨(h.2 s hs).1,(h.2 s hs).2.1,(h.2 s hs).2.2.1,qf (h.2 s hs).2.2.2 hn⟩⟩
theorem K0 {n m a:Nat}{M:List Slt}{Es:VL}{ds:Ym}(h:FrK n M Es):FrK (n+1) (M++[newK m v a ds (n+1)]) (Es++[(v,a)]):=by
 refine ⟨?_,λ s hs=>?_⟩
 ·rw [zT,h.1];show Es++[(v,(em m a ds).length)]=_;rw [nD]
 ·rcases qn.1 hs with hs|hs
  ·exact (lJ h (jA n)).2 s hs
  ·obtain rfl:=ql.1 hs;exact ⟨rfl,rfl,rfl,qh _⟩
theorem JZ {n:Nat}{L:List Slot}{K:KL}{xs:Ya}(h:FrL n L K):FrL (n+1) (L++[newS v xs (n+1)]) (K++[(v,xs)]):=by
 refine ⟨by rw [zT,h.1];rfl,λ s hs=>?_⟩;rcases qn.1 hs with hs|hs
 ·exact (uc h (jA n)).2 s hs
 ·obtain rfl:=ql.1 hs;exact ⟨rfl,rfl,rfl,qh _⟩
theorem CK.exT {α : Type}{f : Yn}{T : Yh}{Ts : Yq}{A0 A1 : As}{A : α→As}{c : α→Prop}{pre : Yc}{post : VA} (hex : ∃ fn, P.funcs[f]? = some fn∧(fn.name == "runtime.NumGoroutine")=false∧fn.body.isNone=false) (h : ∀ x, c x→CK P f T Ts (A x) A1 pre post) (hp : ∀ B cs w, A0.p B cs w→∃ x, c x∧(A x).p B cs w) : CK P f T Ts A0 A1 pre post :=
 ⟨hex,λ B w g cs args hB hg hp0 ha=>by
  obtain ⟨x,hc,hx⟩:=hp B cs w hp0;exact (h x hc).2 B w g cs args hB hg hx ha⟩
theorem oq {α β:Type}{f:α→β}{l:List α}{m:List β}(h:l.map f=m):l.length=m.length:=by rw [← h,qd]
theorem Oz {n:Nat}{L:List Slot}{K:KL}(h:FrL n L K)(hs:∀ p∈K,∀ g,p.1.ownBlock=some g→v.ownBlock≠some g):∀ t∈L,∀ g,t.has g→v.ownBlock≠some g:=λ t ht g hg=>by
 obtain ⟨e1,_,_,_⟩:=h.2 t ht;have hv:t.v.ownBlock=some g:=by
  rcases hg with hg|hg
  ·exact hg
  ·rwa [e1] at hg
 exact hs (t.v,t.xs) (by rw [← h.1];exact qp.2 ⟨t,ht,rfl⟩) g hv
theorem OA {n:Nat}{L:List Slt}{K:VL}(h:FrK n L K)(hs:∀ p∈K,∀ g,p.1.ownBlock=some g→v.ownBlock≠some g):∀ t∈L,∀ g,t.has g→v.ownBlock≠some g:=λ t ht g hg=>by
 obtain ⟨e1,_,_,_⟩:=h.2 t ht;have hv:t.v.ownBlock=some g:=by
  rcases hg with hg|hg
  ·exact hg
  ·rwa [e1] at hg
 exact hs (t.v,t.xs.length) (by rw [← h.1];exact qp.2 ⟨t,ht,rfl⟩) g hv
theorem Et (K:KL)(Rs Es:VL)(v:Yo)(xs:Ya)(hsep:∀ p∈K,∀ g,p.1.ownBlock=some g→v.ownBlock≠some g)(hl:K.length+Rs.length+Es.length≤1000000):CK Tryz.prog 212 59 [59,138] (BkF K Rs Es) (BkF (K++[(v,xs)]) Rs Es) [(PinA v (MgN xs)).va] (Tu []) :=
 CK.exT (c:=λ x:BkRest × Value × List Slot=>KsP K Rs Es x.1 x.2.2) (A:=λ x=>BqA x.1 x.2.1 x.2.2) (BA ⟨0,undef,[],undef,[],undef,[]⟩ undef v xs [] (λ t ht=>by cases ht) zd zd).1
  (λ x hx=>(BA x.1 x.2.1 v xs x.2.2 (Oz hx.2.2.1 hsep) (by have:=oq hx.2.2.1.1;omega) (by have:=hx.1;omega)).wk λ B cs w ⟨X,vr,L,hp,h⟩=>by
   obtain ⟨h1,h2,h3,h4,h5⟩:=hp;obtain ⟨k1,k2,k3,k4,k5⟩:=hx;refine ⟨X,vr,L,⟨by rw [h1,k1,qx];simp;omega,h4.trans k2,?_,?_,?_⟩,h⟩
   ·rw [h1,h5];exact JZ k3
   ·rw [h1,h3];exact lJ k4 (jA _)
   ·rw [h1,h2];exact lJ k5 (jA _)) λ B cs w ⟨X,vr,L,hp,h⟩=>⟨(X,vr,L),hp,h⟩
theorem Ev (K:KL)(Rs Es:VL)(v:Yo)(na:Nat)(hsep:∀ p∈Es,∀ g,p.1.ownBlock=some g→v.ownBlock≠some g)(hl:K.length+Rs.length+Es.length≤1000000):CK Tryz.prog 138 59 [59,142] (BkF K Rs Es) (BkF K Rs (Es++[(v,na)])) [OwV 3 1 v na] (Tu []) :=
 CK.exT (c:=λ x:BkRest × Value × List Slot=>KsP K Rs Es x.1 x.2.2) (A:=λ x=>BqA x.1 x.2.1 x.2.2) (Bz ⟨0,undef,[],undef,[],undef,[]⟩ undef v na [] (λ t ht=>by cases ht) zd zd).1
  (λ x hx=>(Bz x.1 x.2.1 v na x.2.2 (OA hx.2.2.2.2 hsep) (by have:=oq hx.2.2.2.2.1;omega) (by have:=hx.1;omega)).wk λ B cs w ⟨X,vr,L,hp,h⟩=>by
   obtain ⟨h1,h2,h3,h4,es,_,h5⟩:=hp;obtain ⟨k1,k2,k3,k4,k5⟩:=hx;refine ⟨X,vr,L,⟨by rw [h1,k1,qx];simp;omega,h2.trans k2,?_,?_,?_⟩,h⟩
   ·rw [h1,h4];exact uc k3 (jA _)
   ·rw [h1,h3];exact lJ k4 (jA _)
   ·rw [h1,h5];exact K0 k5) λ B cs w ⟨X,vr,L,hp,h⟩=>⟨(X,vr,L),hp,h⟩
theorem Pf {n:Nat}{L:List Slot}{K:KL}{c:Ym}(h:FrL n L K)(hn:n≤1000000)(hp:(HbA vr L).p B c w)(hok:∀ p∈K,okL p.2∧p.2.length≤2000000000000):∀ s∈L,s.new:=λ s hs=>by
 obtain ⟨e1,e2,e3,e4⟩:=h.2 s hs;have hm:(s.v,s.xs)∈K:=by rw [← h.1];exact qp.2 ⟨s,hs,rfl⟩
 obtain ⟨o1,o2⟩:=hok _ hm;exact { rv:=(hp.2.2.1 s hs).2.1,ox:=o1,oy:=by rw [e2];exact o1,z1:=by rw [e3];rfl,n1:=by omega,lx:=o2,uv:=e1,yx:=e2 }
theorem Pg {H E m n:Nat}{L:List Slt}{K:VL}{c:Ym}(h:FrK n L K)(hn:n≤1000000)(hp:(HkA H E m vr L).p B c w)(hok:∀ p∈K,p.2≤2000000000):∀ s∈L,s.new:=λ s hs=>by
 obtain ⟨e1,e2,e3,e4⟩:=h.2 s hs;have hm:(s.v,s.xs.length)∈K:=by rw [← h.1];exact qp.2 ⟨s,hs,rfl⟩
 exact { rv:=(hp.2.2.1 s hs).2.1,z1:=by rw [e3];rfl,n1:=by omega,lx:=hok _ hm,uv:=e1,yx:=e2 }
theorem FJ (K:KL)(Rs Es:VL)(hK:∀ p∈K,okL p.2∧p.2.length≤2000000000000)(hR:∀ p∈Rs,False)(hE:∀ p∈Es,p.2≤2000000000)(hl:K.length+Rs.length+Es.length≤1000000):CK Tryz.prog 13 59 [59,138,139,142,3] (BkF K Rs Es) JkA [] (Bo true) :=
 CK.exT (c:=λ x:BkRest × Value × List Slot=>KsP K Rs Es x.1 x.2.2∧(∀ s∈x.2.2,s.new)∧x.1.R=[]∧(∀ s∈x.1.N,s.new)) (A:=λ x=>BqA x.1 x.2.1 x.2.2)
  (CU ⟨0,undef,[],undef,[],undef,[]⟩ undef [] (λ s hs=>by cases hs) zd rfl rfl (λ s hs=>by cases hs) zd).1
  (λ x hx=>CU x.1 x.2.1 x.2.2 hx.2.1 (by have:=oq hx.1.2.2.1.1;omega) hx.2.2.1 hx.1.2.1 hx.2.2.2 (by have:=oq hx.1.2.2.2.2.1;omega))
  λ B cs w ⟨X,vr,L,hp,h⟩=>by
   obtain ⟨⟨c1,h1⟩,⟨c3,h3⟩,_,_⟩:=cI h;have hn:X.n≤1000000:=by have:=hp.1;omega
   exact ⟨(X,vr,L),⟨hp,Pf hp.2.2.1 hn h1 hK,List.map_eq_nil_iff.1 (hp.2.2.2.1.1.trans (List.eq_nil_iff_forall_not_mem.2 hR)),Pg hp.2.2.2.2 hn h3 hE⟩,h⟩
theorem Mw {K:KL}{xs:Ya}(h:(kbl (K++[(v,xs)])).Nodup):∀ p∈K,∀ g,p.1.ownBlock=some g→v.ownBlock≠some g:=λ p hp g hg hv=>by
 rw [kbl_app] at h;have h2:=(xE.1 h).2.2;have m1:g∈kbl K:=qH.2 ⟨p,hp,hg⟩;have m2:g∈kbl [(v,xs)]:=qH.2 ⟨(v,xs),by simp,hv⟩;exact h2 g m1 g m2 rfl
theorem Mx {K l:KL}(h:(kbl (K++l)).Nodup):(kbl K).Nodup:=by
 rw [kbl_app] at h;exact (xE.1 h).1
theorem tP (x:RI)(m:Yo)(K:KL)(Rs Es:VL)(hs:(kbl (K++[(m,x.mag)])).Nodup)(hl:K.length+Rs.length+Es.length≤999999):CK Tryz.prog 139 59 [59,138] (BkF (K) Rs Es) (BkF (K++([(m,x.mag)])) Rs Es) [(IntP x m).va] (Tu []):=by
 refine CK.intro Tryz.func139 G zk nq zk (λ B g w0 a hrm U=>?_);have U:=zn [(0,EqV ((ptrH).f g)),(1,(IntP x m).va)] [⟨0,59,ptrH,BkF (K) Rs Es⟩] U;refine qb<|zg U3 [zpL 3 26 0 _] [.alc 1] UH U (zW 1 G o0) (zz UI [O 0 59 _,O 3 26 _] λ a w U=>?_);refine aa<|bJ (sp:=[.v 4 _,.adr 5 3 (.some 1) True,.v 6 _,.v 7 VT]) 3 1 99 3 OneC [.g 0,.o 0,.o 2] U (zM 0 G (zO 1 G aq (zL 1 1 1 G aW o0))) G zd zk zk (zz (Wa 0 4 6) [O 0 59 _,O 3 26 _] λ a w U=>?_);rw [show List.range' 3 1=[3] from rfl];rw [qv];refine ew (A1:=BkF (K++[(m,x.mag)]) Rs Es) (xs:=[.tmp 6]) [0] [2] 0 G U (Et K Rs Es m x.mag (Mw hs) zo) G (xH (b:=ptr g) (U.vals _ (zm 1 G)) (jY (U.vals _ (zm 0 G)))) (.cons ⟨_,rfl,rfl⟩ .nil) G hrm zd zk zk zk zk (λ a w U=>?_);refine bU ?_;have U:=St.cvA (A':=BkF (K++([(m,x.mag)])) Rs Es) U 0 rfl (qt (λ k=>BkF k Rs Es) (by simp [qY]));have U:=zn (Wc 7 0) [⟨0,59,ptrH,BkF (K++([(m,x.mag)])) Rs Es⟩,O 3 26 _] U;refine cY<|gg U (zm 1 G) (zm 0 G) ?_;exact aX (rs:=[]) G U .nil zd
theorem Eu (x:RF)(m1 m2:Yo)(K:KL)(Rs Es:VL)(hs:(kbl (K++([(m1,x.num.mag)]++[(m2,x.den.mag)]))).Nodup)(hl:K.length+Rs.length+Es.length≤999990):CK Tryz.prog 45 59 [59,138] (BkF (K) Rs Es) (BkF (K++([(m1,x.num.mag)]++[(m2,x.den.mag)])) Rs Es) [(y9 x m1 m2).va] (Tu []):=by
 have g1:(kbl ((K++[(m1,x.num.mag)])++[(m2,x.den.mag)])).Nodup:=by simpa [qY] using hs
 have g0:=Mx g1;refine CK.intro Tryz.func45 G zk nq zk (λ B g w0 a hrm U=>?_);have U:=zn [(0,EqV ((ptrH).f g)),(1,(y9 x m1 m2).va)] [⟨0,59,ptrH,BkF (K) Rs Es⟩] U;refine qb<|zg U3 [zpL 3 28 0 _] [.alc 1] UH U (zW 1 G o0) (zz UI [O 0 59 _,O 3 28 _] λ a w U=>?_);refine zt<|bJ (sp:=[.v 4 _,.adr 5 3 (.some 0) True,.v 6 _,.v 7 VT]) 3 1 99 3 OneC [.g 0,.o 0,.o 2] U (zM 0 G (zO 1 G aV (zL 1 1 0 G ao o0))) G zd zk zk (zz (Wa 0 4 6) [O 0 59 _,O 3 28 _] λ a w U=>?_);rw [show List.range' 3 1=[3] from rfl];rw [qv];refine ew (A1:=BkF (K++[(m1,x.num.mag)]) Rs Es) (xs:=[.tmp 6]) [0] [2] 0 G U (tP x.num m1 K Rs Es g0 (by (try simp only [qx,zc,xp]);omega)) G (xH (b:=ptr g) (U.vals _ (zm 1 G)) (jY (U.vals _ (zm 0 G)))) (.cons ⟨_,rfl,rfl⟩ .nil) G hrm zd zk zk zk zk (λ a w U=>?_)
 refine bU ?_;have U:=zn (Wc 7 0) [⟨0,59,ptrH,BkF (K++[(m1,x.num.mag)]) Rs Es⟩,O 3 28 _] U;refine aa<|bJ (sp:=[.v 8 _,.adr 9 3 (.some 2) True,.v 10 _,.v 11 VT]) 3 1 99 3 OneC [.g 1,.o 0,.o 2] U (zM 1 G (zO 1 G aR (zL 1 1 1 G ao o0))) G zd zk zk (zz (Wa 0 8 10) [O 0 59 _,O 3 28 _] λ a w U=>?_);rw [show List.range' 3 1=[3] from rfl];rw [qv];refine ew (A1:=BkF ((K++[(m1,x.num.mag)])++[(m2,x.den.mag)]) Rs Es) (xs:=[.tmp 10]) [0] [2] 0 G U (tP x.den m2 (K++[(m1,x.num.mag)]) Rs Es g1 (by (try simp only [qx,zc,xp]);omega)) G (xH (b:=ptr g) (U.vals _ (zm 1 G)) (jY (U.vals _ (zm 0 G)))) (.cons ⟨_,rfl,rfl⟩ .nil) G hrm zd zk zk zk zk (λ a w U=>?_)
 refine bU ?_;have U:=St.cvA (A':=BkF (K++([(m1,x.num.mag)]++[(m2,x.den.mag)])) Rs Es) U 0 rfl (qt (λ k=>BkF k Rs Es) (by simp [qY]));have U:=zn (Wc 11 0) [⟨0,59,ptrH,BkF (K++([(m1,x.num.mag)]++[(m2,x.den.mag)])) Rs Es⟩,O 3 28 _] U;refine cY<|gg U (zm 1 G) (zm 0 G) ?_;exact aX (rs:=[]) G U .nil zd
def SzV (h:Nat):VA where
 p _ _ w:=h≤w.heap.size
 deps:=[]
 cg:=λ _ _ _ _ hg hh=>qf hh hg.le
 wr:=λ _ _ _ _ _ _ _ _ _ _ _ hW hh=>by rw [hW.size];exact hh
def GeA (h:Nat)(A:As):As where
 n:=A.n
 ag:=A.ag
 p B cs w:=A.p B cs w∧(cbl cs).Nodup∧∀ g∈cbl cs,h≤g
 deps:=A.deps
 len:=λ B cs w hp=>A.len B cs w hp.1
 one:=λ B cs w hp=>A.one B cs w hp.1
 ag1:=A.ag1
 cg:=λ B cs w w' hg hp=>⟨A.cg B cs w w' hg hp.1,hp.2⟩
 wr:=λ B cs w w' g c T fz h1 h2 h3 h4 hp=>⟨A.wr B cs w w' g c T fz h1 h2 h3 h4 hp.1,hp.2⟩
section
variable {B N:Nat}{w0:Bs}{Γ:List (Nat × VA)}{Λ:List Lc}{a:Act}{w:World}
theorem St.setG (h:St B w0 N Γ Λ a w){s:Nat}{A A':VA}(k:Nat)(hm:Γ[k]?=some (s,A))(hp:A.p B (a.eval (.tmp s)) w→A'.p B (a.eval (.tmp s)) w):St B w0 N (Γ.set k (s,A')) Λ a w :=
 ⟨h.lo,h.defers,h.size,h.base,λ x hx=>by
  rcases qq hx with hx|rfl
  ·exact h.vals x hx
  ·exact hp (h.vals _ (qa hm)),h.locs,h.dis⟩
theorem St.getG (h:St B w0 N Γ Λ a w){s:Nat}{A:VA}(k:Nat)(hm:Γ[k]?=some (s,A)):A.p B (a.eval (.tmp s)) w:=h.vals _ (qa hm)
theorem St.addSz (h:St B w0 N Γ Λ a w)(s:Nat):St B w0 N (Γ++[(s,SzV w.heap.size)]) Λ a w :=
 ⟨h.lo,h.defers,h.size,h.base,λ x hx=>by
  rcases qn.1 hx with hx|hx
  ·exact h.vals x hx
  ·obtain rfl:=ql.1 hx;exact qh _,h.locs,h.dis⟩
theorem St.newSz (h:St B w0 N Γ Λ a w){s h0:Nat}(k:Nat)(hm:Γ[k]?=some (s,SzV h0)):h0≤w.heap.size∧St B w0 N (Γ.set k (s,SzV w.heap.size)) Λ a w:=⟨h.getG k hm,h.setG k hm λ _=>qh _⟩
theorem St.nameL {M:Type}{s lo:Nat}{A0 A:As}{AP:M→As}{kl:M→KL}(hw:WkA A0 A)(hnew:NewA A)(hs:∀ {B:Nat}{cs:Ym}{w:Yi},A.p B cs w→∃ m,(AP m).p B cs w∧cbl cs=kbl (kl m)∧OkK (kl m))(h:St B w0 N Γ Λ a w)(k:Nat)(hm:Λ[k]?=some ⟨s,T,H,GeA lo A0⟩):
  ∃ m,(kbl (kl m)).Nodup∧(∀ g∈kbl (kl m),lo≤g∧g<w.heap.size)∧OkK (kl m)∧St B w0 N Γ (Λ.set k ⟨s,T,H,AP m⟩) a w:=by
 obtain ⟨g,cs,q1,q2,q3,hp,hn,hl⟩:=h.locs _ (qa hm);have hA:=hw.2.2 _ _ _ hp;obtain ⟨m,p1,e,ok⟩:=hs hA;refine ⟨m,by rw [← e];exact hn,λ g hg=>?_,ok,?_⟩
 ·rw [← e] at hg;exact ⟨hl g hg,(hnew _ _ _ hA g hg).2⟩
 ·have hss:∀ m'∈Λ.set k ⟨s,T,H,AP m⟩,∃ m0∈Λ,m0.s=m'.s:=λ m' hm'=>by
   rcases qq hm' with hm' | rfl
   ·exact ⟨m',hm',rfl⟩
   ·exact ⟨_,qa hm,rfl⟩
  refine ⟨h.lo,h.defers,h.size,h.base,h.vals,λ l hl=>?_,λ m1 hm1 m2 hm2 hne=>?_⟩
  ·rcases qq hl with hl|rfl
   ·exact h.locs l hl
   ·exact ⟨g,cs,q1,q2,q3,p1⟩
  ·obtain ⟨m3,r1,r2⟩:=hss m1 hm1;obtain ⟨m4,r3,r4⟩:=hss m2 hm2;rw [← r2,← r4] at hne ⊢;exact h.dis m3 r1 m4 r3 hne
end
section
open Rg
variable {P:Program}{Q:Exit→Act→World→Prop}{R:Rg}{B i:Nat}{w0:Bs}
theorem sR {pre pre':Yc}{xs:Ys}(hup:All2 Up pre pre')(hx:HasL R B w0 i xs pre)(av:R.Av B w0 i a w):All2 (λ (A:VA) v=>A.p w.heap.size v w) pre' (xs.map a.eval):=by
 have hbw:=Av.bw av;have h1:=hx.all av;clear hx;generalize xs.map a.eval=vs at h1
 induction hup generalizing vs with
 | nil=>cases h1;exact .nil
 | cons hu _ ih =>
  cases h1 with
  | cons h2 h3=>exact .cons (hu _ _ _ hbw h2) (ih _ h3)
theorem pD {f h s:Nat}{A C:As}{pre pre':Yc}{xs:Ys}{at_:Yr}(hc:Cn P f pre' (Tu [A.va,C.va]))(hnew:NewA A)(hnod:NodA A)(hfree:FreeA A A)(hfC:FreeA C C)(hup:All2 Up pre pre')(hx:HasL R B w0 i xs pre)(hs:Has R B w0 i (.tmp s) (SzV h)):Wv P Q R B w0 i (.call ⟨.value (.func f),xs.toArray,at_⟩) (Tu [(GeA h A).va,C.va]):=by
 intro d T ps af gd a w av K hK;obtain ⟨⟨fn,hf,hn,hb⟩,hcall⟩:=hc;have hrun:(execOp a.eval ⟨some d,.call ⟨.value (.func f),xs.toArray,at_⟩,T,ps,af,gd⟩).run P w=.ok (.enter f (xs.map a.eval).toArray) w:=by
  simp only [execOp,resolve,Act.eval,Deferred.ofValue,Sem.run_bind,Sem.run_pure,Result.andThen_ok,invoke,bb hf hn hb];simp
 have hsz:h≤w.heap.size:=hs a w av;unfold Oper.wp;rw [hrun];refine (hcall w.heap.size w _ (qh _) (sR hup hx av)).mono ?_;rintro e w' ⟨v,rfl,⟨vs,hv,h2⟩,hg⟩;cases h2 with
 | @cons _ x _ vs h2 h3=>cases h3 with
  | @cons _ y _ vs h3 h4 =>
   cases h4;obtain ⟨cs,hp,hsh⟩:=h2;obtain ⟨ds,hq,hsq⟩:=h3;exact hK v w' hg ⟨[x,y],hv,.cons ⟨cs,⟨hfree.2.2 _ _ _ _ (Av.bw av) hp,hnod _ _ _ hp,λ g hg'=>qf hsz (hnew _ _ _ hp g hg').1⟩,hsh⟩ (.cons ⟨ds,hfC.2.2 _ _ _ _ (Av.bw av) hq,hsq⟩ .nil)⟩
end
structure IvK (k:KL) (I:List (Nat × Nat)):Prop where
 nd:(kbl k).Nodup
 iv:∀ g∈kbl k,∃ x∈I,x.1≤g∧g<x.2
theorem Jw:IvK [] []:=⟨jr,λ g hg=>by cases hg⟩
theorem BH {k l:KL}{I:List (Nat × Nat)}{lo hi:Nat}(h:IvK k I)(nl:(kbl l).Nodup)(hl:∀ g∈kbl l,lo≤g∧g<hi)(hI:∀ x∈I,x.2≤lo∨hi≤x.1):IvK (k++l) (I++[(lo,hi)]):=by
 refine ⟨?_,λ g hg=>?_⟩
 ·rw [kbl_app];refine xE.2 ⟨h.nd,nl,λ x hx y hy e=>?_⟩;subst e;obtain ⟨z,hz,q1,q2⟩:=h.iv x hx;have q3:=hl x hy;rcases hI z hz with q|q <;> omega
 ·rw [kbl_app] at hg;rcases qn.1 hg with hg|hg
  ·obtain ⟨x,hx,q⟩:=h.iv g hg;exact ⟨x,by simp [hx],q⟩
  ·exact ⟨(lo,hi),by simp,hl g hg⟩
theorem BI {lo hi:Nat}:∀ x∈([]:List (Nat × Nat)),x.2≤lo∨hi≤x.1:=λ x hx=>by cases hx
theorem Jy {I:List (Nat × Nat)}{lo hi l2 h2:Nat}(h:∀ x∈I,x.2≤lo∨hi≤x.1)(k:h2≤lo∨hi≤l2):∀ x∈I++[(l2,h2)],x.2≤lo∨hi≤x.1:=λ x hx=>by
 rcases qn.1 hx with hx|hx
 ·exact h x hx
 ·obtain rfl:=ql.1 hx;exact k
theorem Hk:WkA (cat ZBk) (BkF [] [] []):=⟨rfl,rfl,λ B cs w ⟨ps,e,hp⟩=>by
 refine ⟨⟨0,.slice none 0 0,[],.slice none 0 0,[],.slice none 0 0,[]⟩,.slice none 0 0,[],⟨rfl,rfl,⟨rfl,λ s hs=>by cases hs⟩,⟨rfl,λ s hs=>by cases hs⟩,⟨rfl,λ s hs=>by cases hs⟩⟩,ps,e,?_⟩;have hk:∀ {H E m:Nat}{c:List Value},(EqS (.slice none 0 0)).p B c w→(HkA H E m (.slice none 0 0) []).p B c w:=λ {H E m c} h=>⟨h.1,World.ownsRow_nil ..,(λ s hs=>by cases hs),λ i j s t h=>by cases h⟩;cases hp with
 | cons h1 hp=>cases hp with
  | cons h2 hp=>cases hp with
   | cons h3 hp =>
    refine .cons h1 (.cons ⟨h2.1,World.ownsRow_nil ..,(λ s hs=>by cases hs),λ i j s t h=>by cases h⟩ (.cons (hk h3) ?_))
    iterate 5 (cases hp;rename_i h3 hp;refine .cons h3 ?_)
    cases hp;rename_i h3 hp;refine .cons (hk h3) ?_;cases hp;rename_i h3 hp;refine .cons (hk h3) ?_
    iterate 7 (cases hp;rename_i h3 hp;refine .cons h3 ?_)
    cases hp;exact .nil⟩
theorem tR {x:RI}{m:Yo}:WkA (IntP x m) (RIA x):=(show WkA (IntP x m) (RIN x) from bi (.cons (.refl _) (.cons pin_wk .nil))).trans Hp
theorem JY {x:RF}{m1 m2:Yo}:WkA (y9 x m1 m2) (RFA x):=bi (.cons tR (.cons tR .nil))
def ChN (x:RCh):As:=cat [SlW x.l,RFN x.pw,InA x.c]
def ChP (x:RCh)(m:Nat→Value):As:=cat [PinA (m 2) (SlW x.l),y9 x.pw (m 0) (m 1),InA x.c]
abbrev kch (x:RCh)(m:Nat→Value):KL:=(m 2,[])::kf x.pw (m 0) (m 1)
theorem nQ {l:Yl}(h:(SlW l).p B cs w):∃ v,cs=[v]∧blk v=v.ownBlock∧∃ ds,w.ownsRow B 3 1 v l.length ds:=by
 obtain ⟨v,rfl,_,_,ds,_,h5⟩:=h;rw [qd] at h5;refine ⟨v,rfl,?_,ds,h5⟩;rcases h5.2 with ⟨rfl,_⟩|⟨g,cap,cur,rfl,_⟩ <;> rfl
theorem CD {g:Nat}(h:g∈cbl [v]):blk v=some g:=by
 obtain ⟨u,hu,e⟩:=qH.1 h;obtain rfl:=ql.1 hu;exact e
theorem J4 {l:Yl}:NewA (SlW l):=λ B cs w h g hg=>by
 obtain ⟨v,rfl,hb,ds,ho⟩:=nQ h;have e:=CD hg;rw [hb] at e;obtain ⟨h1,c,fz,h2⟩:=dR ho g e;exact ⟨h1,(Array.getElem?_eq_some_iff.1 h2).1⟩
theorem od {x:RCh}:NewA (ChN x):=oe λ A hA=>by
 simp at hA;rcases hA with rfl|rfl|rfl
 ·exact J4
 ·exact J5
 ·exact J6 _ _
theorem ub {x:RCh}:FreeA (ChN x) (ChN x):=bI (.cons u9 (.cons EO (.cons (cq _ _) .nil)))
theorem EW {x:RF}{m1 m2:Yo}(h:(y9 x m1 m2).p B cs w):∀ g∈kbl (kf x m1 m2),∃ c fz,w.heap[g]?=some (.cells c U32 fz):=by
 have k:∀ {x:RI}{m:Value}{cs:List Value},(IntP x m).p B cs w→∀ g,m.ownBlock=some g→∃ c fz,w.heap[g]?=some (.cells c U32 fz):=λ {x m cs} h g hg=>by
  obtain ⟨ps,_,hp⟩:=h;cases hp with
  | cons h1 hp=>cases hp with
   | cons h2 hp =>
    obtain ⟨_,c,fz,h3⟩:=dR (Gt (AK ⟨_,h2,rfl⟩)) g hg;exact ⟨c,fz,h3⟩
 obtain ⟨ps,_,hp⟩:=h;cases hp with
 | cons h1 hp=>cases hp with
  | cons h2 hp =>
   intro g hg;obtain ⟨p,hp',e⟩:=qH.1 hg;simp only [qr,zF,or_false] at hp';rcases hp' with rfl|rfl
   ·exact k h1 g e
   ·exact k h2 g e
theorem H3 {n:Int}(h:(InA n).p B cs w):cbl cs=[]:=by
 have h':cs=[.int .i64 n]:=h;subst h'
 rfl
theorem chd_dis {x:RCh}:WkA (ChD x) (DisA (ChN x)):=⟨rfl,rfl,λ B cs w h=>by
 obtain ⟨ps,rfl,hp⟩:=h;cases hp with
 | @cons _ c0 _ _ h0 hp=>cases hp with
  | @cons _ c1 _ _ h1 hp=>cases hp with
   | @cons _ c2 _ _ h2 hp =>
    cases hp;refine ⟨⟨[c0,c1,c2],rfl,.cons h0 (.cons h1.1 (.cons h2 .nil))⟩,?_⟩;have e:([c0,c1,c2]:List (List Value)).flatten=c0++(c1++c2):=by simp
    rw [e,fG,fG,H3 h2,zr];obtain ⟨v,rfl,hb,ds,ho⟩:=nQ h0;obtain ⟨m1,m2,p1,e1,_⟩:=nB h1.1;refine xE.2 ⟨?_,h1.2,λ a ha b hb' hab=>?_⟩
    ·show ([v].filterMap blk).Nodup;rw [jD];cases blk v <;> simp
    ·subst hab;have ea:=CD ha;rw [hb] at ea;obtain ⟨_,c,fz,k1⟩:=dR ho a ea;obtain ⟨c',fz',k2⟩:=EW p1 a (by rw [← e1];exact hb');rw [k1] at k2;injection k2 with k2;injection k2 with _ k2 _;revert k2;decide⟩
theorem uC {x:RCh}(h:(ChN x).p B cs w):∃ m:Yy,(ChP x m).p B cs w∧cbl cs=kbl (kch x m)∧OkK (kch x m):=by
 obtain ⟨ps,rfl,hp⟩:=h;cases hp with
 | @cons _ c0 _ _ h0 hp=>cases hp with
  | @cons _ c1 _ _ h1 hp=>cases hp with
   | @cons _ c2 _ _ h2 hp =>
    cases hp;obtain ⟨v,rfl,hb,ds,ho⟩:=nQ h0;obtain ⟨m1,m2,p1,e1,o1⟩:=nB h1;refine ⟨nm4 m1 m2 v v,⟨[[v],c1,c2],rfl,.cons ⟨h0,rfl⟩ (.cons p1 (.cons h2 .nil))⟩,?_,λ p hp=>?_⟩
    ·have e:([[v],c1,c2]:List (List Value)).flatten=[v]++(c1++c2):=by simp
     rw [e,fG,fG,H3 h2,zr,e1];show [v].filterMap blk++_=((v,[])::kf x.pw m1 m2).filterMap (λ p=>p.1.ownBlock);rw [jD,jD,hb];cases v.ownBlock <;> rfl
    ·rcases qr.1 hp with rfl|hp
     ·intro y hy;cases hy
     ·exact o1 p hp
theorem chp_cha {x:RCh}{m:Yy}:WkA (ChP x m) (ChA x):=bi (.cons (pin_wk.trans HZ) (.cons JY (.cons (.refl _) .nil)))
theorem GB {x:RCh}{m:Yy}(h:(kbl (kch x m)).Nodup):(kbl (kf x.pw (m 0) (m 1))).Nodup:=by
 have e:kbl (kch x m)=kbl [(m 2,[])]++kbl (kf x.pw (m 0) (m 1)):=kbl_app (l:=[(m 2,[])]);rw [e] at h;exact (xE.1 h).2.1
theorem BG {x:RCh}{m:Yy}{g:Nat}(h:g∈kbl (kf x.pw (m 0) (m 1))):g∈kbl (kch x m):=by
 have e:kbl (kch x m)=kbl [(m 2,[])]++kbl (kf x.pw (m 0) (m 1)):=kbl_app (l:=[(m 2,[])]);rw [e];exact qn.2 (.inr h)
theorem BF {x:RCh}{m:Yy}{g:Nat}(h:(m 2).ownBlock=some g):g∈kbl (kch x m):=qH.2 ⟨(m 2,[]),by simp,h⟩
theorem GA {x:RCh}{m:Yy}(h:OkK (kch x m)):OkK (kf x.pw (m 0) (m 1)):=λ p hp=>h p (zi _ hp)
theorem IE {l:Yl}:Wk (PinA v (SlW l)).va (OwV 3 1 v l.length):=λ B u w ⟨cs,⟨h1,h2⟩,h3⟩=>by
 obtain ⟨v',rfl,_,ds,ho⟩:=nQ h1;have h2':v'=v:=h2;subst h2';exact ⟨h3,ds,ho⟩
theorem CT (t:RTk):Cn Tryz.prog 7 [(TkA t).va] (Tu [(DisA (ChN (bR t).1)).va,In (bR t).2]):=(Hb t).wkp (tu2w chd_dis.va aM)
theorem ch_l (t:RTk):(bR t).1.l.length≤25:=by
 unfold bR;by_cases h1:(ckF t != 0)=true
 ·rw [qC h1];exact zf _
 ·rw [qy h1];have hck:ckF t=0:=by simpa using h1
  obtain ⟨hs2,hs13,hp1,_⟩:=hd_b (gh hck).1;by_cases h2:cZ (bstN t).pw=true
  ·rw [qC h2];exact zf _
  ·rw [qy h2];show (bstN t).l.length≤25;unfold bstN;by_cases hc:cntW t.ps.length 0 (t.sp.length-1) 0=0
   ·rw [hc];exact zf _
   ·obtain ⟨j,_,hj⟩:=uG (f:=λ k=>wayW t (exW t.ps.length [] (t.sp.length-1) 0 k)) hc;rw [hj];show (List.map _ _).length≤25;rw [qd,d6];omega
theorem PP (t:RTk):bdF (bR t).1.pw:=by
 unfold bR;by_cases h1:(ckF t != 0)=true
 ·rw [qC h1];exact Hc
 ·rw [qy h1];by_cases h2:cZ (bstN t).pw=true
  ·rw [qC h2];exact Hc
  ·rw [qy h2];exact Q0 (by simpa using h2)
theorem By (v:Yo)(na:Nat)(K:KL)(Rs Es:VL)(hv:∀ p∈Es,∀ g,p.1.ownBlock=some g→v.ownBlock≠some g)(hl:K.length+Rs.length+Es.length≤999990):CK Tryz.prog 44 59 [59,142] (BkF K Rs Es) (BkF K Rs (Es++[(v,na)])) [OwV 3 1 v na] (Tu []):=by
 refine CK.intro Tryz.func44 G zk nq zk (λ B g w0 a hrm U=>?_);have U:=zn [(0,EqV ((ptrH).f g)),(1,OwV 3 1 v na)] [⟨0,59,ptrH,BkF K Rs Es⟩] U;refine bJ (sp:=[.v 4 _,.v 5 _,.v 6 VT]) 2 1 99 2 OneC [.g 0,.g 1,.o 0,.o 1] U (zM 0 G (zM 1 G o0)) G zd zk zk (zz WU RO λ a w U=>?_);rw [show List.range' 2 1=[2] from rfl];rw [qv];refine ew (A1:=BkF K Rs (Es++[(v,na)])) (xs:=[.tmp 5]) [0,1] [3] 0 G U (CK.wkT (Ev K Rs Es v na hv zo) zd) G (xH (b:=ptr g) (U.vals _ (zm 2 G)) (jY (U.vals _ (zm 0 G)))) (.cons ⟨_,rfl,rfl⟩ .nil) G hrm zd zk zk zk zk (λ a w U=>?_);refine bU ?_;have U:=zn (Wa 6 0 1) [⟨0,59,ptrH,BkF K Rs (Es++[(v,na)])⟩] U;refine cY<|gg U (zm 1 G) (zm 0 G) ?_;exact aX (rs:=[]) G U .nil zd
theorem pT (x:RCh)(m:Yy)(K:KL)(Rs Es:VL)(hs:(kbl (K++kf x.pw (m 0) (m 1))).Nodup)(hv:∀ p∈Es,∀ g,p.1.ownBlock=some g→(m 2).ownBlock≠some g)(hl:K.length+Rs.length+Es.length≤999900):CK Tryz.prog 12 59 [59,138,142] (BkF K Rs Es) (BkF (K++kf x.pw (m 0) (m 1)) Rs (Es++[(m 2,x.l.length)])) [(ChP x m).va] (Tu []):=by
 refine CK.intro Tryz.func12 G zk nq zk (λ B g w0 a hrm U=>?_);have U:=zn [(0,EqV ((ptrH).f g)),(1,(ChP x m).va)] [⟨0,59,ptrH,BkF K Rs Es⟩] U;refine qb<|zg U3 [zpL 3 36 0 _] [.alc 1] UH U (zW 1 G o0) (zz UI [O 0 59 _,O 3 36 _] λ a w U=>?_);refine zt<|bJ (sp:=[.v 4 _,.adr 5 3 (.some 0) True,.v 6 _,.v 7 VT]) 3 1 99 3 OneC [.g 0,.o 0,.o 2] U (zM 0 G (zO 1 G lL (zL 1 1 0 G cC o0))) G zd zk zk (zz (Wa 0 4 6) [O 0 59 _,O 3 36 _] λ a w U=>?_);rw [show List.range' 3 1=[3] from rfl];have U:=St.wkG U 2 rfl IE;rw [qv];refine ew (A1:=BkF K Rs (Es++[(m 2,x.l.length)])) (xs:=[.tmp 6]) [0] [2] 0 G U (CK.wkT (By (m 2) x.l.length K Rs Es hv zo) zd) G (xH (b:=ptr g) (U.vals _ (zm 1 G)) (jY (U.vals _ (zm 0 G)))) (.cons ⟨_,rfl,rfl⟩ .nil) G hrm zd zk zk zk zk (λ a w U=>?_);refine bU ?_;have U:=zn (Wc 7 0) [⟨0,59,ptrH,BkF K Rs (Es++[(m 2,x.l.length)])⟩,O 3 36 _] U;refine aa<|bJ (sp:=[.v 8 _,.adr 9 3 (.some 1) True,.v 10 _,.v 11 VT]) 3 1 99 3 OneC [.g 1,.o 0,.o 2] U (zM 1 G (zO 1 G lK (zL 1 1 1 G au o0))) G zd zk zk (zz (Wa 0 8 10) [O 0 59 _,O 3 36 _] λ a w U=>?_);rw [show List.range' 3 1=[3] from rfl];rw [qv];refine ew (A1:=BkF (K++kf x.pw (m 0) (m 1)) Rs (Es++[(m 2,x.l.length)])) (xs:=[.tmp 10]) [0] [2] 0 G U (CK.wkT (Eu x.pw (m 0) (m 1) K Rs (Es++[(m 2,x.l.length)]) hs (by simp only [qx,zc,xp];omega)) zd) G (xH (b:=ptr g) (U.vals _ (zm 1 G)) (jY (U.vals _ (zm 0 G)))) (.cons ⟨_,rfl,rfl⟩ .nil) G hrm zd zk zk zk zk (λ a w U=>?_);refine bU ?_;have U:=zn (Wc 11 0) [⟨0,59,ptrH,BkF (K++kf x.pw (m 0) (m 1)) Rs (Es++[(m 2,x.l.length)])⟩,O 3 36 _] U;refine cY<|gg U (zm 1 G) (zm 0 G) ?_;exact aX (rs:=[]) G U .nil zd
theorem tk (x y:RCh):Cn Tryz.prog 9 [(ChA x).va,(ChA y).va] (Bo ((decide (x.l=y.l)&&decide (x.pw=y.pw))&&decide (x.c=y.c))):=by
 refine Cn.intro Tryz.func9 G zk nq (zy [(0,(ChA x).va),(1,(ChA y).va)] λ B w0 a U=>?_);refine qb<|zg [] [zpL 2 36 0 _,zpL 3 36 1 _] Uz U9 U (zW 0 G (zW 1 G (zE G aJ))) (zz U0 [O 2 36 _,O 3 36 _] ?_);refine ztA<|zgA UC [] (.adr 5 2 (.some 0) True::.v 6 _::.adr 7 3 (.some 0) True::(Wb 8 (.adr 11 2 (.some 1) (_=true)::.t 12 _::.adr 13 3 (.some 1) (_=true)::.t 14 _::.t 15 _::(W6 16 [.adr 18 2 (.some 5) (_=true),.t 19 _,.adr 20 3 (.some 5) (_=true),.t 21 _,.t 22 _,.v 23 _,.v 4 _])))) [.o 19] (zO 0 G lL (zL 0 0 0 G cC (zO 1 G lL (zL 2 1 0 G cC (zQ G (pt _ _) (.p (vq 1 G) (vq 3 G)) (zV 4 G (zC 5 0 G lK (zB 5 G (λ hg=>aC 6 G zk hg (lz0 0 G) (Sub.part 1 G G) au) (zC 5 1 G lK (zB 5 G (λ hg=>aC 8 G zk hg (lz0 1 G) (Sub.part 1 G G) au) (zB 5 G (λ hg=>ba (fP _ _) (.p (ae (vq 7 G) hg) (ae (vq 9 G) hg))) (zv G (bE (vq 5 G) (vq 10 G)) (zV 11 G (zC 12 0 G oM (zB 12 G (λ hg=>aC 13 G zk hg (lz0 0 G) (Sub.part 2 G G) ty_3) (zC 12 1 G oM (zB 12 G (λ hg=>aC 15 G zk hg (lz0 1 G) (Sub.part 2 G G) ty_3) (zB 12 G (λ hg=>bF (ae (vq 14 G) hg) (ae (vq 16 G) hg)) (zv G (bE (vq 12 G) (vq 17 G)) (zA 18 G o0)))))))))))))))))))) (zz U0 [O 2 36 _,O 3 36 _] λ a w U=>?_);refine aa<|qi<|am ?_ (ak G U (zm 0 G));exact aM
theorem C9 : ∃ fn, Tryz.prog.funcs[204]? = some fn∧(fn.name == "runtime.NumGoroutine")=false∧fn.body.isNone=false := ⟨_, Tryz.func204, by kernel_rfl, by kernel_rfl⟩
theorem Fb : ∃ fn, Tryz.prog.funcs[231]? = some fn∧(fn.name == "runtime.NumGoroutine")=false∧fn.body.isNone=false := ⟨_, Tryz.func231, by kernel_rfl, by kernel_rfl⟩
theorem Ca : ∃ fn, Tryz.prog.funcs[203]? = some fn∧(fn.name == "runtime.NumGoroutine")=false∧fn.body.isNone=false := ⟨_, Tryz.func203, by kernel_rfl, by kernel_rfl⟩
theorem wW : ∃ fn, Tryz.prog.funcs[239]? = some fn∧(fn.name == "runtime.NumGoroutine")=false∧fn.body.isNone=false := ⟨_, Tryz.func239, by kernel_rfl, by kernel_rfl⟩
theorem Fa : ∃ fn, Tryz.prog.funcs[135]? = some fn∧(fn.name == "runtime.NumGoroutine")=false∧fn.body.isNone=false := ⟨_, Tryz.func135, by kernel_rfl, by kernel_rfl⟩
theorem sr : ∃ fn, Tryz.prog.funcs[201]? = some fn∧(fn.name == "runtime.NumGoroutine")=false∧fn.body.isNone=false := ⟨_, Tryz.func201, by kernel_rfl, by kernel_rfl⟩
theorem rV (p:Int)(hp:lz p≤1000000000):Cn Tryz.prog 201 [Zi p] (Zi (-p)):=by
 refine Cn.intro Tryz.func201 G zk nq (zy [(0,Zi p)] λ B w0 a U=>?_);refine qb<|zg [] UP UQ [] U (zW 0 G (zY G (Str.zero br) o0)) (zz [] UR λ a w U=>?_);refine zt<|zgd US UT [] (Wb 3 [.sto 1]) [] ac U (zQ G (DP 0 zd zd) (.cons ab .nil) (zl 0 G ao (zQ G (pu 0 p (by simp [lz,bz]) hp) (.p (vq 0 G) (vq 1 G)) (zS 2 G ao o0)))) zk zk zk zk (zz [] UR λ a w U=>?_);refine aa<|qi<|am ?_ (ax G U (zm 1 G) ao);exact bf (qt Zi (kQ p))
section
variable {a b:Nat}{p q:Int}(ha:a≤1000000000)
include ha
theorem iO:Cn Tryz.prog 201 [Zs a p] (Zs a (-p)):=zs1 sr λ h=>(rV p zo).wkp (gc (by rw [lf];exact h))
variable (hb:b≤1000000000)
include hb
theorem dI:Cn Tryz.prog 204 [Zs a p,Zs b q] (Zs (a+b) (p*q)):=zs2 C9 λ h h'=>(yX p q zo zo).wkp (gc (by have:=gX p q;omega))
theorem Ia:Cn Tryz.prog 231 [Zs a p,Zs b q] (Zs (max a b+1) (p+q)):=zs2 Fb λ h h'=>(tq p q zo zo).wkp (gc (by have:=pM p q;omega))
theorem DQ:Cn Tryz.prog 203 [Zs a p,Zs b q] (Zs (max a b+1) (p-q)):=zs2 Ca λ h h'=>(pu p q zo zo).wkp (gc (by have:=Gv p q;omega))
theorem pv (hq:q≠0):Cn Tryz.prog 239 [Zs a p,Zs b q] (Tu [Zs a (p.tdiv q),Zs b (p.tmod q)]):=zs2 wW λ h h'=>(nh p q hq zo zo).wkp (D9 (.cons (gc (by have:=oj p q;omega)) (.cons (gc (by have:=Ji (p:=p) hq;omega)) .nil)))
end
theorem rP {a:Nat}{p:Int}:Cn Tryz.prog 135 [Zs a p] (In p.sign):=zs1 Fa λ _=>(m7 (riOf p)).post (by rw [dz])
theorem Id {n:Int}(h0 : -9223372036854775808≤n)(h1:n<9223372036854775808):Cn Tryz.prog 192 [In n] (Zs 2 n):=(DP n h0 h1).wkp (gc (w9 zo))
theorem Ep {p q:Int}(h:q≠0)(hq:lz q≤1000000000):lz (p.tmod q)≤1000000000:=qf (Ji h) hq
theorem EK {X Y:Int}(h:Y≠0):Int.gcd Y (X.tmod Y)=Int.gcd X Y:=by
 show Nat.gcd Y.natAbs (X.tmod Y).natAbs=Nat.gcd X.natAbs Y.natAbs;rw [gV,xT X.natAbs,xT,← Nat.gcd_rec]
theorem mh (p q:Int)(hp:lz p≤1000000000)(hq:lz q≤1000000000):Cn Tryz.prog 209 [Zi p,Zi q] (Zi ((Int.gcd p q:Nat):Int)):=by
 refine Cn.intro Tryz.func209 G zk nq (zy [(0,Zi p),(1,Zi q)] λ B w0 a U=>?_);refine qb<|zg [] Ui Uj [] U (zW 0 G (zW 1 G (zY G (Str.zero br) o0))) (zz [] Uk λ a w U=>?_);refine zt<|qb<|zgd [[],[0],[],[0,1,2],(Wm 4)] Ul [] (Wd 7) UL ac U (zl 0 G ao (zQ G (rS p hp) (.o (vq 0 G)) (zl 1 G ao (zQ G (rS q hq) (.o (vq 2 G)) (zv G (aO (vq 1 G) (vq 3 G)) o0))))) zk zk zk zk (zz [(11,_)] Uk λ a w U=>?_);refine aa<|bN (λ a w=>∃ X Y:Int,(lz X≤1000000000∧lz Y≤1000000000∧Int.gcd X Y=Int.gcd p q)∧St B w0 33 [] [⟨2,26,ptrH,RIA (riOf X)⟩,⟨3,26,ptrH,RIA (riOf Y)⟩,⟨4,26,ptrH,cat [BoA false,MgA []]⟩] a w) U (zm 0 G) (λ hb0=>?_) (λ hb0=>?_) (λ a w U=>?_)
 ·refine zg [some (2,_),some (3,_),η] [] (W6 12 [.sto 0,.sto 1]) [] U (zl 1 G ao (zl 0 G ao (zS 0 G ao (zS 1 G ao o0)))) (zz [] Uk λ a w U=>?_);refine aa ?_;have U:=St.sel U [];exact ⟨q,p,⟨hq,hp,Int.gcd_comm q p⟩,U⟩
 ·refine qj<|aa ?_;have U:=St.sel U [];exact ⟨p,q,⟨hp,hq,rfl⟩,U⟩
 obtain ⟨X,Y,⟨hX,hY,hg⟩,U⟩:=U;refine zt<|qb<|zg UO [] (Wb 14) U9 U (zl 1 G ao (zQ G ((m7 (riOf Y)).post (by rw [dz])) (.o (vq 0 G)) (zv G (bF (vq 1 G) ab) o0))) (zz [(16,_)] Uk λ a w U=>?_);refine zJ 0 U G (λ hb1=>?_) (λ hb1=>?_)
 ·refine qb<|zg [η,η,some (3,_)] [] (Wb 17 [.sto 2]) [] U (zl 0 G ao (zl 1 G ao (zQ G (ni X Y hX hY) (.p (vq 0 G) (vq 1 G)) (zS 2 G ao o0)))) (zz [] Uk λ a w U=>?_);refine aa<|qi<|aj ?_;refine am ?_ (ax G U (zm 2 G) ao);exact bf (qt (λ n:Nat=>Zi (n:Int)) hg)
 ·have hY0:Y≠0:=λ e=>by rw [e] at hb1;exact absurd hb1 zd
  refine qj<|zt<|zg UO [⟨5,26,ptrH,some 6,_,some (8,_)⟩,⟨6,26,ptrH,some 7,_,some (9,_)⟩] (Wb 21 (.v 20 _::(W6 24 [.alc 3,.alc 4,.sto 3,.sto 4]))) [] U (zl 0 G ao (zl 1 G ao (zQ G (nh X Y hY0 hX hY) (.p (vq 0 G) (vq 1 G)) (zV 2 G (zv G (aP (vq 3 G) G) (zv G (aP (vq 3 G) G) (zY G (Str.zero br) (zY G (Str.zero br) (zS 4 G ao (zS 5 G ao o0)))))))))) (zz [] R5 ?_);refine ztA<|zsA<|zgA [none,none,none,none,none] [] (Wb 26) U9 (zl 1 G ao (zQ G (rS Y hY) (.o (vq 0 G)) (zv G (bF (vq 1 G) ab) o0))) (zz [(28,_)] R5 λ a w U=>?_);refine zJ 0 U G (λ hb2=>?_) (λ hb2=>?_)
  ·have h1:Y.natAbs=1:=FB (by have:=beq_iff_eq.1 hb2;omega);refine qb<|zg [η,η,some (1,_),η,η] [] [.v 29 _,.sto 2] [] U (zQ G (DP 1 zd zd) (.cons ab .nil) (zS 0 G ao o0)) (zz [] R5 λ a w U=>?_);refine aa<|qi<|aj ?_;refine am ?_ (ax G U (zm 2 G) ao);exact bf (qt (λ n:Nat=>Zi (n:Int)) (show 1=Int.gcd p q by rw [← hg];show 1=Nat.gcd X.natAbs Y.natAbs;rw [h1,Nat.gcd_one_right]))
  ·refine qj<|zt<|zg [η,η,some (3,_),η,η] [] (Wb 30 [.sto 2]) [] U (zl 1 G ao (zl 4 G ao (zQ G (ni Y (X.tmod Y) hY (Ep hY0 hY)) (.p (vq 0 G) (vq 1 G)) (zS 2 G ao o0)))) (zz [] R5 λ a w U=>?_);refine aa<|qi<|am ?_ (ax G U (zm 2 G) ao);exact bf (qt (λ n:Nat=>Zi (n:Int)) ((EK hY0).trans hg))
theorem su : ∃ fn, Tryz.prog.funcs[209]? = some fn∧(fn.name == "runtime.NumGoroutine")=false∧fn.body.isNone=false := ⟨_, Tryz.func209, by kernel_rfl, by kernel_rfl⟩
theorem uW {a b:Nat}{p q:Int}(ha:a≤1000000000)(hb:b≤1000000000):Cn Tryz.prog 209 [Zs a p,Zs b q] (Zs (max a b) ((Int.gcd p q:Nat):Int)):=zs2 su λ h h'=>(mh p q zo zo).wkp (gc (by have:=Bh p q;omega))
theorem fS {c d:Nat}{p q:Int}(hc:c≤1000000000)(hd:d≤1000000000)(hq:q≠0):Cn Tryz.prog 226 [Zs c p,Zs d q] (Qs (max c d) (Rat.divInt p q)):=by
 have hg0:0<Int.gcd p q:=xW p hq;obtain ⟨hn1,hn2⟩:=sa (p:=p) hq;refine Cn.intro Tryz.func226 G zk nq (zy [(0,Zs c p),(1,Zs d q)] λ B w0 a U=>?_);refine qb<|zg [] R6 Uj [] U (zW 0 G (zW 1 G (zY G (Str.zero aQ) o0))) (zz [] R7 ?_);refine ztA<|zgA Ul [⟨5,26,ptrH,some 3,_,some (4,_)⟩] (Wb 10 [.alc 3,.sto 3]) [] (zl 0 G ao (zl 1 G ao (zQ G (uW zo zo) (.p (vq 0 G) (vq 1 G)) (zY G (Str.zero br) (zS 2 G ao o0))))) (zz [] R8 ?_);refine ztA<|zgA Um [⟨6,26,ptrH,some 6,_,some (8,_)⟩,⟨7,26,ptrH,some 7,_,some (9,_)⟩] (Wb 14 (.v 13 _::(W6 17 [.alc 4,.alc 5,.sto 4,.sto 5]))) [] (zl 0 G ao (zl 3 G ao (zQ G (pv zo zo zo) (.p (vq 0 G) (vq 1 G)) (zV 2 G (zv G (aP (vq 3 G) G) (zv G (aP (vq 3 G) G) (zY G (Str.zero br) (zY G (Str.zero br) (zS 4 G ao (zS 5 G ao o0)))))))))) (zz [] [O 2 26 _,O 3 26 _,O 4 28 _,O 5 26 _,O 6 26 _,O 7 26 _] ?_);refine ztA<|zgA [none,none,none,none,none,none] [⟨8,26,ptrH,some 6,_,some (8,_)⟩,⟨9,26,ptrH,some 7,_,some (9,_)⟩] (Wb 20 (.v 19 _::(W6 23 [.alc 6,.alc 7,.sto 6,.sto 7]))) [] (zl 1 G ao (zl 3 G ao (zQ G (pv zo zo zo) (.p (vq 0 G) (vq 1 G)) (zV 2 G (zv G (aP (vq 3 G) G) (zv G (aP (vq 3 G) G) (zY G (Str.zero br) (zY G (Str.zero br) (zS 4 G ao (zS 5 G ao o0)))))))))) (zz [] RW ?_);refine ztA<|zsA<|zgA [none,none,none,none,none,none,none,none] [] (Wb 25) U9 (zl 6 G ao (zQ G rP (.o (vq 0 G)) (zv G (aO (vq 1 G) ab) o0))) (zz [(27,_)] RW λ a w U=>?_);refine zJ 0 U G (λ hb0=>?_) (λ hb0=>?_)
 ·refine qb<|zgd UB [none,none,some (5,_),none,none,none,none,none] [] (Wd 28 [.sto 2]) [] ac U (zl 4 G ao (zQ G (iO zo) (.o (vq 0 G)) (zl 6 G ao (zQ G (iO zo) (.o (vq 2 G)) (zv G (aS (qs:=[(0,_),(1,_)]) aQ (.cons ⟨rfl,vq 1 rfl,rfl⟩ (.cons ⟨rfl,vq 3 rfl,rfl⟩ .nil))) (zS 4 G au o0)))))) zk zk zk zk (zz [] RW λ a w U=>?_);refine aa<|qi<|aj ?_;refine am ?_ (ax G U (zm 2 G) au);rw [qC (yQ hb0)] at hn1 hn2;rw [hn1,hn2];exact (bi (.cons (f9 (ji _ _)) (.cons (f9 (jd _ _)) .nil))).va
 ·refine qj<|zt<|zg [η,η,some (3,_),η,η,η,η,η] [] (Wb 33 [.sto 2]) [] U (zl 4 G ao (zl 6 G ao (zv G (aS (qs:=[(0,_),(1,_)]) aQ (.cons ⟨rfl,vq 0 rfl,rfl⟩ (.cons ⟨rfl,vq 1 rfl,rfl⟩ .nil))) (zS 2 G au o0)))) (zz [] RW λ a w U=>?_);refine aa<|qi<|am ?_ (ax G U (zm 2 G) au);rw [qy (G6 hb0)] at hn1 hn2;rw [hn1,hn2];exact (bi (.cons (f9 (ji _ _)) (.cons (f9 (jd _ _)) .nil))).va
theorem cP  : Cn Tryz.prog 120 [] (Qs 2 0):=by
 refine Cn.intro Tryz.func120 G zk nq (zy [] λ B w0 a U=>?_);refine qb<|zg [] [zpL 0 28 0 _] Ub [] U (zY G (Str.zero aQ) o0) (zz [] R9 ?_);refine ztA<|zgA [some (2,_)] [] (W6 1 [.sto 0]) [] (zQ G (Id zd zd) (.cons ab .nil) (zv G (aS (qs:=[(1,_)]) aQ (.cons ⟨rfl,vq 0 rfl,rfl⟩ .nil)) (zS 1 G au o0))) (zz [] R9 λ a w U=>?_);refine aa<|qi<|am ?_ (ax G U (zm 0 G) au);exact q0_wk.va
theorem Ap {p q:Int}(hp : -9223372036854775808≤p)(hp1:p<9223372036854775808)(hq : -9223372036854775808≤q)(hq1:q<9223372036854775808)(h0:q≠0):Cn Tryz.prog 191 [In p,In q] (Qs 2 (Rat.divInt p q)):=by
 refine Cn.intro Tryz.func191 G zk nq (zy [(0,In p),(1,In q)] λ B w0 a U=>?_);refine qb<|zg [] [zpL 4 28 0 _] Ub We U (zY G (Str.zero aQ) o0) (zz Uc Ra ?_);refine ztA<|zgA U8 [] (Wd 5 [.sto 0]) [] (zM 0 G (zQ G (Id hp hp1) (.o (vq 0 G)) (zM 1 G (zQ G (Id hq hq1) (.o (vq 2 G)) (zQ G (fS zo zo h0) (.p (vq 1 G) (vq 3 G)) (zS 4 G au o0)))))) (zz [] Ra λ a w U=>?_);refine aa<|qi<|am ?_ (ax G U (zm 0 G) au);exact aM
theorem gw  : Cn Tryz.prog 119 [] (Qs 2 1):=by
 refine Cn.intro Tryz.func119 G zk nq (zy [] λ B w0 a U=>?_);refine qb<|zg [] [zpL 0 28 0 _] Ub [] U (zY G (Str.zero aQ) o0) (zz [] R9 ?_);refine ztA<|zgA Uf [] [.v 1 _,.sto 0] [] (zQ G (Ap zd zd zd zd zd) (.cons ab (.cons ab .nil)) (zS 0 G au o0)) (zz [] R9 λ a w U=>?_);refine aa<|qi<|am ?_ (ax G U (zm 0 G) au);exact bf (qt (Qs 2) (show Rat.divInt 1 1=1 from G))
theorem nW {c d:Nat}{x y:Rat}(hc:c+d≤900000000):Cn Tryz.prog 202 [Qs c x,Qs d y] (Qs (c+d+1) (x+y)):=by
 refine Cn.intro Tryz.func202 G zk nq (zy [(0,Qs c x),(1,Qs d y)] λ B w0 a U=>?_);refine qb<|zg [] Rb Uj [] U (zW 0 G (zW 1 G (zY G (Str.zero aQ) o0))) (zz [] Rc λ a w U=>?_);refine zt<|zgd [[],[0],[],[2],(Wm 4),[],[5],[],[7],(Wm 9),(Wm 10),[],(Wm 12)] Ul [⟨5,26,ptrH,some 11,_,some (12,_)⟩] (.adr 6 2 (.some 0) True::.v 7 _::.adr 8 3 (.some 2) True::(W6 9 (.adr 11 3 (.some 0) True::.v 12 _::.adr 13 2 (.some 2) True::(Wb 14 [.alc 3,.sto 3])))) [] ac U (zO 0 G aV (zL 0 0 0 G ao (zO 1 G aR (zL 2 1 1 G ao (zQ G (dI zo zo) (.p (vq 1 G) (vq 3 G)) (zO 1 G aV (zL 5 1 0 G ao (zO 0 G aR (zL 7 0 1 G ao (zQ G (dI zo zo) (.p (vq 6 G) (vq 8 G)) (zQ G (Ia zo zo) (.p (vq 4 G) (vq 9 G)) (zY G (Str.zero br) (zS 10 G ao o0))))))))))))) zk zk zk zk (zz [] [O 2 28 _,O 3 28 _,O 4 28 _,O 5 26 _] λ a w U=>?_);refine zt<|zgd [[],[],[1],[],[3],[1,2,3,4],(Wm 6),(Wm 7)] [none,none,some (7,_),none] [] (.v 17 _::.adr 18 2 (.some 2) True::.v 19 _::.adr 20 3 (.some 2) True::(Wb 21 [.sto 2])) [] ac U (zl 3 G ao (zO 0 G aR (zL 1 0 1 G ao (zO 1 G aR (zL 3 1 1 G ao (zQ G (dI zo zo) (.p (vq 2 G) (vq 4 G)) (zQ G (fS zo zo (den_nz x y)) (.p (vq 0 G) (vq 5 G)) (zS 6 G au o0)))))))) zk zk zk zk (zz [] [O 2 28 _,O 3 28 _,O 4 28 _,O 5 26 _] λ a w U=>?_);refine aa<|qi<|am ?_ (ax G U (zm 2 G) au);exact cz (bf (qt (Qs _) (Ah x y))) (bY zo).va
theorem mf {c d:Nat}{x y:Rat}(hc:c+d≤900000000):Cn Tryz.prog 198 [Qs c x,Qs d y] (Qs (c+d) (x*y)):=by
 refine Cn.intro Tryz.func198 G zk nq (zy [(0,Qs c x),(1,Qs d y)] λ B w0 a U=>?_);refine qb<|zg [] Rb Uj [] U (zW 0 G (zW 1 G (zY G (Str.zero aQ) o0))) (zz [] Rc λ a w U=>?_);refine zt<|zgd Rd Re [] (.adr 5 2 (.some 0) True::.v 6 _::.adr 7 3 (.some 0) True::(W6 8 (.adr 10 2 (.some 2) True::.v 11 _::.adr 12 3 (.some 2) True::(Wb 13 [.sto 2])))) [] ac U (zO 0 G aV (zL 0 0 0 G ao (zO 1 G aV (zL 2 1 0 G ao (zQ G (dI zo zo) (.p (vq 1 G) (vq 3 G)) (zO 0 G aR (zL 5 0 1 G ao (zO 1 G aR (zL 7 1 1 G ao (zQ G (dI zo zo) (.p (vq 6 G) (vq 8 G)) (zQ G (fS zo zo (den_nz x y)) (.p (vq 4 G) (vq 9 G)) (zS 10 G au o0)))))))))))) zk zk zk zk (zz [] Rc λ a w U=>?_);refine aa<|qi<|am ?_ (ax G U (zm 2 G) au);exact cz (bf (qt (Qs _) (rT x y))) (bY zo).va
theorem DX {c d:Nat}{x y:Rat}(hc:c+d≤900000000)(h0:y≠0):Cn Tryz.prog 197 [Qs c x,Qs d y] (Qs (c+d) (x/y)):=by
 refine Cn.intro Tryz.func197 G zk nq (zy [(0,Qs c x),(1,Qs d y)] λ B w0 a U=>?_);refine qb<|zg [] Rb Uj [] U (zW 0 G (zW 1 G (zY G (Str.zero aQ) o0))) (zz [] Rc λ a w U=>?_);refine zt<|zgd Rd Re [] (.adr 5 2 (.some 0) True::.v 6 _::.adr 7 3 (.some 2) True::(W6 8 (.adr 10 2 (.some 2) True::.v 11 _::.adr 12 3 (.some 0) True::(Wb 13 [.sto 2])))) [] ac U (zO 0 G aV (zL 0 0 0 G ao (zO 1 G aR (zL 2 1 1 G ao (zQ G (dI zo zo) (.p (vq 1 G) (vq 3 G)) (zO 0 G aR (zL 5 0 1 G ao (zO 1 G aV (zL 7 1 0 G ao (zQ G (dI zo zo) (.p (vq 6 G) (vq 8 G)) (zQ G (fS zo zo (B6 x h0)) (.p (vq 4 G) (vq 9 G)) (zS 10 G au o0)))))))))))) zk zk zk zk (zz [] Rc λ a w U=>?_);refine aa<|qi<|am ?_ (ax G U (zm 2 G) au);exact cz (bf (qt (Qs _) (rU x y))) (bY zo).va
theorem neg_wk {c:Nat}{x:Rat}:WkA (cat [ZA c (-x.num),ZA c (x.den:Int)]) (QA c (-x)):=fa (by unfold QA;rw [vB,vC])
theorem iP {c:Nat}{x:Rat}(hc:c≤900000000):Cn Tryz.prog 124 [Qs c x] (Qs c (-x)):=by
 refine Cn.intro Tryz.func124 G zk nq (zy [(0,Qs c x)] λ B w0 a U=>?_);refine qb<|zg [] Rf UQ [] U (zW 0 G (zY G (Str.zero aQ) o0)) (zz [] Rh λ a w U=>?_);refine zt<|zgd [[],[0],[0,1],[],[3],(Wm 5),(Wm 6)] Ru [] (.adr 3 1 (.some 0) True::(W6 4 (.adr 6 1 (.some 2) True::(W6 7 [.sto 1])))) [] ac U (zO 0 G aV (zL 0 0 0 G ao (zQ G (iO zo) (.o (vq 1 G)) (zO 0 G aR (zL 3 0 1 G ao (zv G (aS (qs:=[(0,_),(1,_)]) aQ (.cons ⟨rfl,vq 2 rfl,rfl⟩ (.cons ⟨rfl,vq 4 rfl,rfl⟩ .nil))) (zS 5 G au o0))))))) zk zk zk zk (zz [] Rh λ a w U=>?_);refine aa<|qi<|am ?_ (ax G U (zm 1 G) au);exact neg_wk.va
theorem pE {c d:Nat}{x y:Rat}(hc:c+d≤900000000):Cn Tryz.prog 125 [Qs c x,Qs d y] (Qs (c+d+1) (x-y)):=by
 refine Cn.intro Tryz.func125 G zk nq (zy [(0,Qs c x),(1,Qs d y)] λ B w0 a U=>?_);refine qb<|zg [] Rb Uj [] U (zW 0 G (zW 1 G (zY G (Str.zero aQ) o0))) (zz [] Rc λ a w U=>?_);refine zt<|zgd [[],[],[1],[0,1,2],(Wm 4)] [none,none,some (4,_)] [] (Ww 5 [.sto 2]) [] ac U (zl 0 G au (zl 1 G au (zQ G (iP zo) (.o (vq 1 G)) (zQ G (nW zo) (.p (vq 0 G) (vq 2 G)) (zS 3 G au o0))))) zk zk zk zk (zz [] Rc λ a w U=>?_);refine aa<|qi<|am ?_ (ax G U (zm 2 G) au);exact bf (qt (Qs _) (show x + -y=x-y by grind))
theorem Ny (x y:Rat):(x.num*(y.den:Int)-y.num*(x.den:Int)).sign=cmQ x y:=by
 rw [← Nz,lY];unfold sg3;generalize x.num*(y.den:Int)=u;generalize y.num*(x.den:Int)=v;by_cases h1:u<v
 ·rw [qC zo,qC h1]
 ·by_cases h2:v<u
  ·rw [qy zo,qy zo,qy h1,qC h2]
  ·rw [qy zo,qC zo,qy h1,qy h2]
theorem Iw {c d:Nat}{x y:Rat}(hc:c+d≤900000000):Cn Tryz.prog 126 [Qs c x,Qs d y] (In (cmQ x y)):=by
 refine Cn.intro Tryz.func126 G zk nq (zy [(0,Qs c x),(1,Qs d y)] λ B w0 a U=>?_);refine qb<|zg [] Rj Uz U9 U (zW 0 G (zW 1 G (zE G ab))) (zz U0 Rk λ a w U=>?_);refine zt<|zgd [[],[0],[],[2],(Wm 4),[],[5],[],[7],(Wm 9),(Wm 10),[],(Wm 12)] UC [⟨5,26,ptrH,some 11,_,some (12,_)⟩] (.adr 6 2 (.some 0) True::.v 7 _::.adr 8 3 (.some 2) True::(W6 9 (.adr 11 3 (.some 0) True::.v 12 _::.adr 13 2 (.some 2) True::(Wb 14 [.alc 2,.sto 2])))) UH ac U (zO 0 G aV (zL 0 0 0 G ao (zO 1 G aR (zL 2 1 1 G ao (zQ G (dI zo zo) (.p (vq 1 G) (vq 3 G)) (zO 1 G aV (zL 5 1 0 G ao (zO 0 G aR (zL 7 0 1 G ao (zQ G (dI zo zo) (.p (vq 6 G) (vq 8 G)) (zQ G (DQ zo zo) (.p (vq 4 G) (vq 9 G)) (zY G (Str.zero br) (zS 10 G ao o0))))))))))))) zk zk zk zk (zz U0 [O 2 28 _,O 3 28 _,O 5 26 _] ?_);refine ztA<|zgA Ul [] (W6 17 [.v 4 _]) U9 (zl 2 G ao (zQ G rP (.o (vq 0 G)) (zA 1 G o0))) (zz U0 [O 2 28 _,O 3 28 _,O 5 26 _] λ a w U=>?_);refine aa<|qi<|am ?_ (ak G U (zm 0 G));exact bf (qt In (Ny x y))
theorem r2sign_q {c:Nat}{x:Rat}:Cn Tryz.prog 40 [Qs c x] (In x.num.sign):=by
 refine Cn.intro Tryz.func40 G zk nq (zy [(0,Qs c x)] λ B w0 a U=>?_);refine qb<|zg [] Rl Us Ut U (zW 0 G (zE G ab)) (zz Uu Rm ?_);refine ztA<|zgA U1 [] (.adr 3 1 (.some 0) True::(W6 4 [.v 2 _])) UG (zO 0 G aV (zL 0 0 0 G ao (zQ G rP (.o (vq 1 G)) (zA 2 G o0)))) (zz Uu Rm λ a w U=>?_);refine aa<|qi<|am ?_ (ak G U (zm 0 G));exact aM
theorem OJ {g:Nat}(h:decide ((1:Int)<((g:Nat):Int))=true):g≠1:=by have:=qu h;omega
theorem OI {g:Nat}(h:decide ((1:Int)<((g:Nat):Int))=false)(h0:g≠0):g=1:=by have:=qw h;omega
theorem uX (xn xd:RI):Cn Tryz.prog 134 [(RFA ⟨xn,xd⟩).va] (In (if okF ⟨xn,xd⟩ then 0 else 1)):=by
 refine Cn.intro Tryz.func134 G zk nq (zy [(0,(RFA ⟨xn,xd⟩).va)] λ B w0 a U=>?_);have hok:=nU (U.vals (0,(RFA ⟨xn,xd⟩).va) (zm 0 rfl));refine qb<|zg [] Rl Us Ut U (zW 0 G (zE G ab)) (zz Uu Rm ?_);refine ztA<|zsA<|zgA U1 [] (.adr 4 1 (.some 0) True::(Ww 5 (.adr 9 1 (.some 2) (_=false)::.f 10 _::.f 11 _::.f 12 _::(W6 13 [.adr 15 1 (.some 2) (_=false),.f 16 _,.f 17 _,.f 18 _,.v 19 _])))) [.g 0,.o 15] (zO 0 G aV (zL 0 0 0 G ao (zQ G (tt _) (.o (vq 1 G)) (zv G (c9 (vq 2 G) ab) (zV 3 G (zC 4 0 G aR (zB 4 G (λ hg=>aC 5 G zk hg (lz0 0 G) (Sub.part 1 G G) ao) (zB 4 G (λ hg=>ba (tt _) (.o (ae (vq 6 G) hg))) (zB 4 G (λ hg=>c9 (ae (vq 7 G) hg) ab) (zv G (r_or (vq 4 G) (vq 8 G)) (zV 9 G (zC 10 0 G aR (zB 10 G (λ hg=>aC 11 G zk hg (lz0 0 G) (Sub.part 1 G G) ao) (zB 10 G (λ hg=>ba (m7 _) (.o (ae (vq 12 G) hg))) (zB 10 G (λ hg=>ll (ae (vq 13 G) hg) ab) (zv G (r_or (vq 10 G) (vq 14 G)) o0)))))))))))))))) (zz (Wc 2 19) Rm λ a w U=>?_);refine zJ 1 U G (λ hb0=>?_) (λ hb0=>?_)
 ·refine qb<|zg U3 [] Ux WZ U (zE G ab) (zz Uu Rm λ a w U=>?_);refine aa<|qi<|aj ?_;refine am ?_ (ak G U (zm 0 G));exact bf (qt In (GZ hb0))
 ·rw [qN,qN] at hb0;obtain ⟨p,rfl,hp⟩:=nw hok.1 (ok1 hb0.1.1);obtain ⟨q,rfl,hq⟩:=nw hok.2 (ok1 hb0.1.2);have hq0:0<sgI (riOf q):=by have h2:¬ sgI (riOf q)≤0:=qw hb0.2;omega
  have hqn:q≠0:=λ e=>by rw [e,dz] at hq0;exact absurd hq0 zd
  have hgn:Int.gcd p q≠0:=by have:=xW p hqn;omega
  refine qj<|zt<|zg U3 [⟨3,26,ptrH,some 5,_,some (6,_)⟩] (.adr 20 1 (.some 0) True::.v 21 _::.adr 22 1 (.some 2) True::(W6 23 [.alc 1,.sto 1])) UH U (zO 0 G aV (zL 0 0 0 G ao (zO 0 G aR (zL 2 0 1 G ao (zQ G (mh p q zo zo) (.p (vq 1 G) (vq 3 G)) (zY G (Str.zero br) (zS 4 G ao o0))))))) (zz Uu RX λ a w U=>?_);refine zt<|qb<|zgd [[],[],[0,1]] UC [] (Wb 25) Ue ac U (zQ G (DP 1 zd zd) (.cons ab .nil) (zl 1 G ao (zQ G (DS _ _) (.p (vq 0 G) (vq 1 G)) o0))) zk zk zk zk (zz (Wc 2 27) RX λ a w U=>?_);refine zJ 1 U G (λ hb1=>?_) (λ hb1=>?_)
  ·refine qb<|zg UE [] Ux WZ U (zE G ab) (zz Uu RX λ a w U=>?_);refine aa<|qi<|aj ?_;refine am ?_ (ak G U (zm 0 G));have e1:=OJ hb1;exact bf (qt In (by rw [show okF ⟨riOf p,riOf q⟩=false from by unfold okF;rw [bB,bB];simp [show ¬ Nat.gcd p.natAbs q.natAbs=1 from e1]];rfl))
  ·refine qj<|zt<|zg UE [] Ux WZ U (zE G ab) (zz Uu RX λ a w U=>?_);refine aa<|qi<|am ?_ (ak G U (zm 0 G));have e1:=OI hb1 hgn;exact bf (qt In (by rw [show okF ⟨riOf p,riOf q⟩=true from by unfold okF;rw [bB,bB,ok1 hb0.1.1,ok1 hb0.1.2];simp [hq0,show Nat.gcd p.natAbs q.natAbs=1 from e1]];rfl))
theorem wX : ∃ fn, Tryz.prog.funcs[134]? = some fn∧(fn.name == "runtime.NumGoroutine")=false∧fn.body.isNone=false := ⟨_, Tryz.func134, by kernel_rfl, by kernel_rfl⟩
theorem Aq (x:RF):Cn Tryz.prog 134 [(RFA x).va] (In (if okX x then 0 else 1)) :=
 Cn.know (c:=okL x.num.mag∧okL x.den.mag) wX (λ B w args ha=>by cases ha with|cons h1 _=>exact nU h1) λ h=>(uX x.num x.den).post (by rw [tD h])
theorem iQ (xs:List RF)(hl:xs.length≤1099511627776):Cn Tryz.prog 39 [(SlA 28 [U32] (xs.map RFA)).va] (Bo (xs.all okX)):=by
 refine Cn.introW Tryz.func39 rfl zk nq (.cons (iG (λ A hA=>by obtain ⟨x,_,rfl⟩:=qp.1 hA;exact gH x)).va .nil) (dT _).va (λ B w0 a hB0 U=>?_);have U:=zn [(0,(SlO 28 [U32] (xs.map RFA) True).va)] [] U;refine qb<|zh Ux UZ U (zE G aJ) (zz R1 [] ?_);refine ztA<|zsA<|zhA Rr WQ (zE G ab) (zz Rt [] λ a w U=>?_);refine aa<|qk ?_;have U:=St.sel U [0,2];refine wp_loop_ghost (λ n a w=>∃ j:Nat,(n+j=xs.length∧(xs.take j).all okX=true)∧St B w0 16 [(0,(SlO 28 [U32] (xs.map RFA) True).va),(3,In (j:Nat))] [] a w) (xs.length) ?_ ?_
 ·exact ⟨0,⟨by omega,rfl⟩,U⟩
 intro n a w hI;obtain ⟨j,⟨hn,hno⟩,U⟩:=hI;refine qb<|qb<|zh (Ww 4) (We [.o 3]) U (zM 1 G (zM 0 G (zv G (bn qQ (bu (aB (vq 1 G)))) (zv G (aO (vq 0 G) (vq 2 G)) o0)))) (zz (Wa 0 3 7) [] λ a w U=>?_);refine zJ 2 U G (λ hb0=>?_) (λ hb0=>?_)
 ·have hj:j<xs.length:=by simp at hb0;omega
  refine qj<|zt<|qk<|qb<|zh (Wl 10) (We [.o 5]) U (zM 0 G (zM 1 G (zv G (bM db (cc λ _=>rfl) (bu (aB (vq 0 G))) (vq 1 G) (bG hj)) (zv G (ap (vq 2 G) au) (zQ G (Aq _) (.o (vq 3 G)) (zv G (c9 (vq 4 G) ab) o0)))))) (zz (Wa 0 3 15) [] λ a w U=>?_);refine zJ 2 U G (λ hb1=>?_) (λ hb1=>?_)
  ·refine qb<|zh Ux WQ U (zE G aJ) (zz (Wa 0 3 2) [] λ a w U=>?_);refine aa<|qi<|aD ?_;refine aj ?_;refine aj ?_;refine aD ?_;refine aj ?_;refine aG ?_ (ak G U (zm 2 G));rw [← Mg hj hb1]
  ·refine qj<|al ?_;refine aa<|zh (W6 8 [.v 3 _]) Ue U (zM 1 G (zv G (aL (vq 0 G) ab (aU zo)) (zA 1 G o0))) (zz UK [] λ a w U=>?_);refine aa ?_;have U:=St.sel U [0,1];exact ⟨n-1,by omega,j+1,⟨by omega,Gm hj hno hb1⟩,U⟩
 ·obtain rfl:j=xs.length:=by simp at hb0;omega
  refine qP<|ai<|ai<|az<|zt<|zh Ux WZ U (zE G aJ) (zz Uu [] λ a w U=>?_);refine zN 0 U G G ?_;rw [qJ] at hno;rw [hno]
theorem Iu  : Cn Tryz.prog 200 [] ((QMA 2 ⟨1,0,0,1⟩).va):=by
 refine Cn.intro Tryz.func200 G zk nq (zy [] λ B w0 a U=>?_);refine qb<|zg [] [zpL 0 128 0 _] Ub [] U (zY G (Str.zero cN) o0) (zz [] [O 0 128 _] ?_);refine ztA<|zgA U8 [] (Wd 1 [.sto 0]) [] (zQ G gw .nil (zQ G cP .nil (zQ G cP .nil (zQ G gw .nil (zv G (aS (qs:=[(0,_),(1,_),(2,_),(3,_)]) cN (.cons ⟨rfl,vq 0 rfl,rfl⟩ (.cons ⟨rfl,vq 1 rfl,rfl⟩ (.cons ⟨rfl,vq 2 rfl,rfl⟩ (.cons ⟨rfl,vq 3 rfl,rfl⟩ .nil))))) (zS 4 G cM o0)))))) (zz [] [O 0 128 _] λ a w U=>?_);refine aa<|qi<|am ?_ (ax G U (zm 0 G) cM);exact aM
theorem PX {x:RI}:decide ((x.mag.length:Int)>2048)=bigI x:=by unfold bigI;simp
theorem lq_e {q:Rat}:(bigI (riOf q.num) || bigI (riOf (q.den:Int)))=cZ q:=by simp [cZ]
theorem tw (x:RI):Cn Tryz.prog 127 [(RIA x).va] (Bo (bigI x)):=by
 refine Cn.intro Tryz.func127 G zk nq (zy [(0,(RIA x).va)] λ B w0 a U=>?_);refine qb<|zg [] Ur Us Ut U (zW 0 G (zE G aJ)) (zz Uu Uv ?_);refine ztA<|zgA U1 [] (.adr 3 1 (.some 1) True::(Wb 4 [.v 2 _])) UL (zO 0 G aq (zL 0 0 1 G aW (zv G (aH qc (vq 1 G)) (zv G (cD (vq 2 G) ab) (zA 3 G o0))))) (zz Uu Uv λ a w U=>?_);refine aa<|qi<|am ?_ (ak G U (zm 0 G));exact bf (qt Bo PX)
theorem DY {L:Yb}(qs:List Rat)(hL:All2 IsQ L qs)(hl:qs.length≤1099511627776):Cn Tryz.prog 31 [(SlA 28 [U32] L).va] (Bo (qs.any cZ)):=by
 have hLl:=hL.length;refine Cn.introW Tryz.func31 G zk nq (.cons (iG (GC hL)).va .nil) (dT _).va (λ B w0 a hB0 U=>?_);have U:=zn [(0,(SlO 28 [U32] L True).va)] [] U;refine qb<|zh Ux UZ U (zE G aJ) (zz R1 [] ?_);refine ztA<|zsA<|zhA Rr WQ (zE G ab) (zz Rt [] λ a w U=>?_);refine aa<|qk ?_;have U:=St.sel U [0,2];refine wp_loop_ghost (λ n a w=>∃ j:Nat,(n+j=qs.length∧(qs.take j).any cZ=false)∧St B w0 24 [(0,(SlO 28 [U32] L True).va),(3,In (j:Nat))] [] a w) (qs.length) ?_ ?_
 ·exact ⟨0,⟨by omega,rfl⟩,U⟩
 intro n a w hI;obtain ⟨j,⟨hn,hno⟩,U⟩:=hI;refine qb<|qb<|zh (Ww 4) (We [.o 3]) U (zM 1 G (zM 0 G (zv G (bn qQ (bu (aB (vq 1 G)))) (zv G (aO (vq 0 G) (vq 2 G)) o0)))) (zz (Wa 0 3 7) [] λ a w U=>?_);refine zJ 2 U G (λ hb0=>?_) (λ hb0=>?_)
 ·have hj:j<qs.length:=by rw [hLl] at hb0;simp at hb0;omega
  obtain ⟨kj,hLj⟩:=GD hL hj;refine qj<|zt<|qk<|qb<|zh (WG 10 [.f 17 _,.f 18 _,.f 19 _,.f 20 _,.f 21 _,.f 22 _,.v 23 _]) (We [.o 13]) U (zM 0 G (zM 1 G (zv G (bM db (Jz hL) (bu (aB (vq 0 G))) (vq 1 G) hLj) (zv G (bP (vq 2 G) aV (Sub.part 0 G G)) (zv G (ap (vq 3 G) ao) (zQ G ((tw (riOf (qs[j]).num)).wk (.cons zaA.va .nil)) (.o (vq 4 G)) (zV 5 G (zB 6 G (λ hg=>aA (gq 0 G)) (zB 6 G (λ hg=>aA (gq 1 G)) (zB 6 G (λ hg=>bM db (Jz hL) (bu (aB (ae (vq 7 G) hg))) (ae (vq 8 G) hg) hLj) (zB 6 G (λ hg=>bP (ae (vq 9 G) hg) aR (Sub.part 1 G G)) (zB 6 G (λ hg=>ap (ae (vq 10 G) hg) ao) (zB 6 G (λ hg=>ba ((tw (riOf ((qs[j]).den:Int))).wk (.cons zaA.va .nil)) (.o (ae (vq 11 G) hg))) (zv G (r_or (vq 6 G) (vq 12 G)) o0)))))))))))))) (zz (Wa 0 3 23) [] λ a w U=>?_);refine zJ 2 U G (λ hb1=>?_) (λ hb1=>?_)
  ·rw [lq_e] at hb1;refine qb<|zh Ux WQ U (zE G aJ) (zz (Wa 0 3 2) [] λ a w U=>?_);refine aa<|qi<|aD ?_;refine aj ?_;refine aj ?_;refine aD ?_;refine aj ?_;refine aG ?_ (ak G U (zm 2 G));rw [← Bj hj hb1]
  ·rw [lq_e] at hb1;refine qj<|al ?_;refine aa<|zh (W6 8 [.v 3 _]) Ue U (zM 1 G (zv G (aL (vq 0 G) ab (aU zo)) (zA 1 G o0))) (zz UK [] λ a w U=>?_);refine aa ?_;have U:=St.sel U [0,1];exact ⟨n-1,by omega,j+1,⟨by omega,MG hj hno hb1⟩,U⟩
 ·obtain rfl:j=qs.length:=by rw [hLl] at hb0;simp at hb0;omega
  refine qP<|ai<|ai<|az<|zt<|zh Ux WZ U (zE G aJ) (zz Uu [] λ a w U=>?_);refine zN 0 U G G ?_;rw [qJ] at hno;rw [hno]
theorem kd6 {k ps qs:Int}(h1:(k==1)=false)(h2:(k==2)=false)(h3:(k==3)=false)(h4:(k==4)=false)(h5:(k==5)=true):elK k ps qs=((ps==0)&&(qs==0)):=by rw [kd5 h1 h2 h3 h4,h5];rfl
theorem kd7 {k ps qs:Int}(h1:(k==1)=false)(h2:(k==2)=false)(h3:(k==3)=false)(h4:(k==4)=false)(h5:(k==5)=false):elK k ps qs=false:=by rw [kd5 h1 h2 h3 h4,h5];rfl
theorem gU {c:Nat}{x:Rat}:Cn Tryz.prog 211 [Qs c x] (Bo (x.num.sign==0)):=by
 refine Cn.intro Tryz.func211 G zk nq (zy [(0,Qs c x)] λ B w0 a U=>?_);refine qb<|zg [] Rl Us Ut U (zW 0 G (zE G aJ)) (zz Uu Rm ?_);refine ztA<|zgA U1 [] (Wb 3 [.v 2 _]) UG (zl 0 G au (zQ G r2sign_q (.o (vq 0 G)) (zv G (bF (vq 1 G) ab) (zA 2 G o0)))) (zz Uu Rm λ a w U=>?_);refine aa<|qi<|am ?_ (ak G U (zm 0 G));exact aM
theorem E0 (x:RE):Cn Tryz.prog 137 [(REA x).va] (Bo (elF x)):=by
 refine Cn.intro Tryz.func137 G zk nq (zy [(0,(REA x).va)] λ B w0 a U=>?_);refine qb<|zg [] [zpL 1 91 0 _] Us Ut U (zW 0 G (zE G aJ)) (zz Uu Rx ?_);refine ztA<|zsA<|zgA U1 [] (.adr 3 1 (.some 1) True::.v 4 _::.adr 5 1 (.some 5) True::(Ww 6)) [.g 0,.o 6] (zO 0 G c6 (zL 0 0 1 G au (zO 0 G cu (zL 2 0 2 G au (zv G (bW (D:=[U32]) (l:=[_,_]) (xs:=[.tmp 4,.tmp 6]) (dh zk) db zk (n_ok zk) nq nq nq (.p (vq 1 G) (vq 3 G)) G G) (zQ G (iQ [x.p,x.q] nq) (.o (vq 4 G)) (zv G (er (vq 5 G)) o0))))))) (zz (Wc 2 9) Rx λ a w U=>?_);refine zJ 1 U G (λ hb0=>?_) (λ hb0=>?_)
 ·refine qb<|zg U3 [] Ux WZ U (zE G aJ) (zz Uu Rx λ a w U=>?_);refine aa<|qi<|aj ?_;refine am ?_ (ak G U (zm 0 G));rw [GO hb0];exact aM
 ·obtain ⟨hx,he⟩:=GN hb0;have U:=St.wkL U 0 rfl (el_q hx);refine qj<|zt<|qb<|zg U3 [] [.adr 10 1 (.some 0) True,.v 11 _] UY U (zO 0 G ei (zL 0 0 0 G pi o0)) (zz (Wc 2 11) Rx λ a w U=>?_);refine aa<|qk<|qb<|zg U3 [] [.v 13 _,.v 12 _] UF U (zv G (bF (gq 1 G) ab) (zA 0 G o0)) (zz (Wa 2 11 12) Rx λ a w U=>?_);refine zJ 2 U G (λ hb1=>?_) (λ hb1=>?_)
  ·refine qb<|zg U3 [] (.adr 14 1 (.some 1) True::(Ww 15 [.adr 19 1 (.some 5) (_=true),.t 20 _,.t 21 _,.v 22 _,.v 2 _])) [.o 9] U (zO 0 G c6 (zL 0 0 1 G au (zQ G r2sign_q (.o (vq 1 G)) (zv G (dD (vq 2 G) ab) (zV 3 G (zC 4 0 G cu (zB 4 G (λ hg=>aC 5 G zk hg (lz0 0 G) (Sub.part 2 G G) au) (zB 4 G (λ hg=>ba gU (.o (ae (vq 6 G) hg))) (zv G (bE (vq 4 G) (vq 7 G)) (zA 8 G o0)))))))))) (zz Uu Rx λ a w U=>?_);refine aa<|qi<|aD ?_;refine aj ?_;refine am ?_ (ak G U (zm 0 G));rw [he,kd1 hb1];exact aM
  ·refine qb<|zg U3 [] [.v 24 _,.v 23 _] UF U (zv G (bF (gq 1 G) ab) (zA 0 G o0)) (zz (Wa 2 11 23) Rx λ a w U=>?_);refine zJ 2 U G (λ hb2=>?_) (λ hb2=>?_)
   ·refine qb<|zg U3 [] (.adr 25 1 (.some 5) True::(W6 26 [.v 2 _])) UG U (zO 0 G cu (zL 0 0 2 G au (zQ G gU (.o (vq 1 G)) (zA 2 G o0)))) (zz Uu Rx λ a w U=>?_);refine aa<|qi<|aD ?_;refine aj ?_;refine am ?_ (ak G U (zm 0 G));rw [he,kd2 hb1 hb2];exact aM
   ·refine qb<|zg U3 [] [.v 29 _,.v 28 _] UF U (zv G (bF (gq 1 G) ab) (zA 0 G o0)) (zz (Wa 2 11 28) Rx λ a w U=>?_);refine zJ 2 U G (λ hb3=>?_) (λ hb3=>?_)
    ·refine qb<|zg U3 [] (.adr 30 1 (.some 1) True::(Ww 31 [.adr 35 1 (.some 5) (_=true),.t 36 _,.t 37 _,.t 38 _,.v 39 _,.v 2 _])) [.o 10] U (zO 0 G c6 (zL 0 0 1 G au (zQ G r2sign_q (.o (vq 1 G)) (zv G (dD (vq 2 G) ab) (zV 3 G (zC 4 0 G cu (zB 4 G (λ hg=>aC 5 G zk hg (lz0 0 G) (Sub.part 2 G G) au) (zB 4 G (λ hg=>ba r2sign_q (.o (ae (vq 6 G) hg))) (zB 4 G (λ hg=>cD (ae (vq 7 G) hg) ab) (zv G (bE (vq 4 G) (vq 8 G)) (zA 9 G o0))))))))))) (zz Uu Rx λ a w U=>?_);refine aa<|qi<|aD ?_;refine aj ?_;refine am ?_ (ak G U (zm 0 G));rw [he,kd3 hb1 hb2 hb3];exact aM
    ·refine qb<|zg U3 [] [.v 41 _,.v 40 _] UF U (zv G (bF (gq 1 G) ab) (zA 0 G o0)) (zz (Wa 2 11 40) Rx λ a w U=>?_);refine zJ 2 U G (λ hb4=>?_) (λ hb4=>?_)
     ·refine qb<|zg U3 [] Ux WZ U (zE G aJ) (zz Uu Rx λ a w U=>?_);refine aa<|qi<|aD ?_;refine aj ?_;refine am ?_ (ak G U (zm 0 G));rw [he,kd4 hb1 hb2 hb3 hb4];exact aM
     ·refine qb<|zg U3 [] [.v 43 _,.v 42 _] UY U (zv G (bF (gq 1 G) ab) (zA 0 G o0)) (zz (Wc 2 42) Rx λ a w U=>?_);refine zJ 1 U G (λ hb5=>?_) (λ hb5=>?_)
      ·refine qb<|zg U3 [] (.adr 44 1 (.some 1) True::(Wb 45 [.adr 48 1 (.some 5) (_=true),.t 49 _,.t 50 _,.v 51 _,.v 2 _])) [.o 8] U (zO 0 G c6 (zL 0 0 1 G au (zQ G gU (.o (vq 1 G)) (zV 2 G (zC 3 0 G cu (zB 3 G (λ hg=>aC 4 G zk hg (lz0 0 G) (Sub.part 2 G G) au) (zB 3 G (λ hg=>ba gU (.o (ae (vq 5 G) hg))) (zv G (bE (vq 3 G) (vq 6 G)) (zA 7 G o0))))))))) (zz Uu Rx λ a w U=>?_);refine aa<|qi<|aD ?_;refine aj ?_;refine am ?_ (ak G U (zm 0 G));rw [he,kd6 hb1 hb2 hb3 hb4 hb5];exact aM
      ·refine qj<|al ?_;refine zt<|zg U3 [] Ux WZ U (zE G aJ) (zz Uu Rx λ a w U=>?_);refine aa<|qi<|am ?_ (ak G U (zm 0 G));rw [he,kd7 hb1 hb2 hb3 hb4 hb5];exact aM
theorem yG {s:ByteArray}{j:Nat}(hj:j<s.size):s[j]?=some (s.data.toList.getD j 0):=by
 have h1:j<s.data.toList.length:=by simpa using hj
 rw [getElem?_pos s j hj];simp only [Option.some.injEq,List.getD];rw [List.getElem?_eq_getElem h1];simp [ByteArray.getElem_eq_getElem_data]
theorem NP {s:ByteArray}{j:Nat}(hj:j<(byL s).length):(s.data.toList.getD j 0).toNat=(byL s)[j]:=by
 have h1:j<s.data.toList.length:=by simpa [byL] using hj
 simp only [List.getD];rw [List.getElem?_eq_getElem h1];show (s.data.toList[j]).toNat=(s.data.toList.map UInt8.toNat)[j]'hj;exact (wh _).symm
theorem NZ (b:Nat):(((decide ((b:Int)≥97)&&decide ((b:Int)≤122)) || (decide ((b:Int)≥48)&&decide ((b:Int)≤57))) || ((b:Int)==45))=bOk b:=by
 unfold bOk;rw [jk];simp only [zU,qo,qK,xr,qz,jw,qN,qm,bne_eq_false_iff_eq];omega
theorem Az (s:ByteArray):Cn Tryz.prog 136 [EqV (.string s)] (Bo (namF s)):=by
 refine Cn.intro Tryz.func136 G zk nq (zy [(0,EqV (.string s))] λ B w0 a U=>?_);refine qb<|zh Ux UZ U (zE G aJ) (zz R1 [] ?_);refine ztA<|zsA<|zhA (Ww 4 (.f 8 _::.f 9 _::.f 10 _::(W6 11 (.f 13 _::.f 14 _::.f 15 _::(W6 16 [.f 18 _,.f 19 _,.f 20 _,.v 21 _]))))) (We [.o 17]) (zM 0 G (zv G (fR zk (vq 0 G)) (zv G (aO (vq 1 G) ab) (zV 2 G (zB 3 G (λ hg=>aA (gq 0 G)) (zB 3 G (λ hg=>fR zk (ae (vq 4 G) hg)) (zB 3 G (λ hg=>cD (ae (vq 5 G) hg) ab) (zv G (r_or (vq 3 G) (vq 6 G)) (zV 7 G (zB 8 G (λ hg=>aA (gq 0 G)) (zB 8 G (λ hg=>dg zk (ae (vq 9 G) hg) ab (st_0 hg).1) (zB 8 G (λ hg=>aO (ae (vq 10 G) hg) ab) (zv G (r_or (vq 8 G) (vq 11 G)) (zV 12 G (zB 13 G (λ hg=>aA (gq 0 G)) (zB 13 G (λ hg=>dg zk (ae (vq 14 G) hg) ab (st_0 (nm_1 hg)).1) (zB 13 G (λ hg=>cD (ae (vq 15 G) hg) ab) (zv G (r_or (vq 13 G) (vq 16 G)) o0)))))))))))))))))) (zz (Wa 0 2 21) [] λ a w U=>?_);refine zJ 2 U G (λ hb0=>?_) (λ hb0=>?_)
 ·have hd:nmH s=true:=nm_y hb0;refine qb<|zh Ux UZ U (zE G aJ) (zz R1 [] λ a w U=>?_);refine aa<|qi<|aj ?_;refine am ?_ (ak G U (zm 1 G));rw [namF,qC hd];exact aM
 ·have hd:nmH s=false:=nm_y hb0;have hsz:=J2 hd;have hbl:=oT s;refine qj<|zt<|qb<|zh Rr WQ U (zE G ab) (zz Rt [] λ a w U=>?_);refine aa<|qk ?_;have U:=St.sel U [0,2];refine wp_loop_ghost (λ n a w=>∃ j:Nat,(n+j=(byL s).length∧((byL s).take j).all bOk=true)∧St B w0 57 [(0,EqV (.string s)),(3,In (j:Nat))] [] a w) ((byL s).length) ?_ ?_
  ·exact ⟨0,⟨by omega,rfl⟩,U⟩
  intro n a w hI;obtain ⟨j,⟨hn,hno⟩,U⟩:=hI;refine qb<|qb<|zh (Ww 22) (We [.o 3]) U (zM 1 G (zM 0 G (zv G (fR zk (vq 1 G)) (zv G (aO (vq 0 G) (vq 2 G)) o0)))) (zz (Wa 0 3 25) [] λ a w U=>?_);refine zJ 2 U G (λ hb1=>?_) (λ hb1=>?_)
  ·have hj:j<(byL s).length:=by have:=qu hb1;omega
   have hj2:j<s.size:=by omega
   refine qj<|zt<|qk<|qb<|gl (sts:=[]) (news:=[]) (sp:=((.v 28 _:Sp)::(.v 29 _)::(.v 30 _)::(.v 31 _)::(.v 32 _)::(.t 33 _)::(.t 34 _)::(.t 35 _)::(.t 36 _)::(.v 37 _)::(.v 38 _)::(.f 39 _)::(.f 40 _)::(.f 41 _)::(.f 42 _)::(.f 43 _)::(.v 44 (Wh ((_=false)∧_=true) _))::(.v 45 (Wh ((_=false)∧_=true) _))::(.v 46 (Wh ((_=false)∧_=true) _))::(.v 47 (Wh ((_=false)∧_=true) _))::(.f 48 _)::(.v 49 _)::(.v 50 _)::(.f 51 _)::(.f 52 _)::(.f 53 _)::(.f 54 _)::(.v 55 _)::(.v 56 _)::[])) [.g 0,.g 1,.o 28] U (zM 0 G (zM 1 G (zv G (dg zk (vq 0 G) (vq 1 G) (yG hj2)) (zv G (dD (vq 2 G) ab) (zV 3 G (zB 4 G (λ hg=>aA (gq 0 G)) (zB 4 G (λ hg=>aA (gq 1 G)) (zB 4 G (λ hg=>dg zk (ae (vq 5 G) hg) (ae (vq 6 G) hg) (yG hj2)) (zB 4 G (λ hg=>ll (ae (vq 7 G) hg) ab) (zv G (bE (vq 4 G) (vq 8 G)) (zV 9 G (zB 10 G (λ hg=>aA (gq 0 G)) (zB 10 G (λ hg=>aA (gq 1 G)) (zB 10 G (λ hg=>dg zk (ae (vq 11 G) hg) (ae (vq 12 G) hg) (yG hj2)) (zB 10 G (λ hg=>dD (ae (vq 13 G) hg) ab) (zB 10 G (λ hg=>aA (ae (vq 14 G) hg)) (oc (bO G G G (vq 15 G) nq (λ hg=>aA (gq 0 G))) (oc (bO G G G (vq 15 G) nq (λ hg=>aA (gq 1 G))) (oc (bO G G G (vq 15 G) nq (λ hg=>dg zk (ae (vq 16 G) hg) (ae (vq 17 G) hg) (yG hj2))) (oc (bO G G G (vq 15 G) nq (λ hg=>ll (ae (vq 18 G) hg) ab)) (zB 10 G (λ hg=>bE (ae (vq 15 G) hg) (fx (vq 19 G) hg)) (zv G (r_or (vq 10 G) (vq 20 G)) (zV 21 G (zB 22 G (λ hg=>aA (gq 0 G)) (zB 22 G (λ hg=>aA (gq 1 G)) (zB 22 G (λ hg=>dg zk (ae (vq 23 G) hg) (ae (vq 24 G) hg) (yG hj2)) (zB 22 G (λ hg=>bF (ae (vq 25 G) hg) ab) (zv G (r_or (vq 22 G) (vq 26 G)) (zv G (er (vq 27 G)) o0))))))))))))))))))))))))))))) (zz (Wa 0 3 56) [] λ a w U=>?_);refine zJ 2 U G (λ hb2=>?_) (λ hb2=>?_)
   ·have hq:bOk (byL s)[j]=false:=by rw [← NP hj,← NZ];exact (by rw [qz] at hb2;exact hb2)
    refine qb<|zh Ux WQ U (zE G aJ) (zz (Wa 0 3 2) [] λ a w U=>?_);refine aa<|qi<|aD ?_;refine aj ?_;refine aj ?_;refine aD ?_;refine aj ?_;refine am ?_ (ak G U (zm 2 G));rw [namF,qy (by rw [hd];decide),mK hj hq];exact aM
   ·have hq:bOk (byL s)[j]=true:=by rw [← NP hj,← NZ];exact (by rw [jM] at hb2;exact hb2)
    refine qj<|al ?_;refine aa<|zh (W6 26 [.v 3 _]) Ue U (zM 1 G (zv G (aL (vq 0 G) ab ((wi64 zo zo).trans (by omega:(_:Int)=((j+1:Nat):Int)))) (zA 1 G o0))) (zz UK [] λ a w U=>?_);refine aa ?_;have U:=St.sel U [0,1];exact ⟨n-1,by omega,j+1,⟨by omega,mL hj hno hq⟩,U⟩
  ·obtain rfl:j=(byL s).length:=by have:=qw hb1;omega
   refine qP<|ai<|ai<|az<|zt<|zh Ux WZ U (zE G aJ) (zz Uu [] λ a w U=>?_);refine aa<|qi<|am ?_ (ak G U (zm 0 G));rw [qJ] at hno;rw [namF,qy (by rw [hd];decide),hno];exact aM
theorem np (t:RTk):Cn Tryz.prog 43 [(TkA t).va] (In (sloF t)):=by
 refine Cn.intro Tryz.func43 G zk nq (zy [(0,(TkA t).va)] λ B w0 a U=>?_);refine qb<|zg [] Ry Us Ut U (zW 0 G (zE G ab)) (zz Uu Rz ?_);refine ztA<|zgA U1 [] (.adr 3 1 (.some 0) True::(Wb 4 [.v 2 _])) UL (zO 0 G ca (zL 0 0 0 G fc (zv G (bn qQ (vq 1 G)) (zv G (ce (vq 2 G) ab (G)) (zA 3 G o0))))) (zz Uu Rz λ a w U=>?_);refine aa<|qi<|am ?_ (ak G U (zm 0 G));simp only [qd];exact aM
theorem pt_r (p:RPt):(((namF p.nm&&elF p.e)&&decide (p.c≥0))&&decide (p.c≤1073741824))=ptF p:=by
 have e:(chF [p.e] != 0) = !elF p.e:=by
  unfold chF;rw [qy (by simp)];simp only [jf,jt,jg];cases elF p.e <;> rfl
 unfold ptF;rw [e,jk];simp only [qz,qN,qo,jM,qK,qm];constructor
 ·rintro ⟨⟨⟨h1,h2⟩,h3⟩,h4⟩;exact ⟨⟨⟨h1,h2⟩,by omega⟩,by omega⟩
 ·rintro ⟨⟨⟨h1,h2⟩,h3⟩,h4⟩;exact ⟨⟨⟨h1,h2⟩,by omega⟩,by omega⟩
theorem Au (p:RPt):Cn Tryz.prog 41 [(PtA p).va] (Bo (ptF p)):=by
 refine Cn.intro Tryz.func41 G zk nq (zy [(0,(PtA p).va)] λ B w0 a U=>?_);refine qb<|zg [] [zpL 1 93 0 _] Us Ut U (zW 0 G (zE G aJ)) (zz Uu [O 1 93 _] ?_);refine ztA<|zgA U1 [] (.adr 3 1 (.some 0) True::(Wb 4 (.adr 7 1 (.some 1) (_=true)::.t 8 _::.t 9 _::(W6 10 (.adr 12 1 (.some 10) (_=true)::.t 13 _::.t 14 _::(W6 15 [.adr 17 1 (.some 10) (_=true),.t 18 _,.t 19 _,.v 20 _,.v 2 _])))))) [.o 18] (zO 0 G dK (zL 0 0 0 G ty_9 (zQ G ((Az _).wk (.cons Ch .nil)) (.o (vq 1 G)) (zV 2 G (zC 3 0 G eh (zB 3 G (λ hg=>aC 4 G zk hg (lz0 0 G) (Sub.part 1 G G) gf) (zB 3 G (λ hg=>ba (E0 _) (.o (ae (vq 5 G) hg))) (zv G (bE (vq 3 G) (vq 6 G)) (zV 7 G (zC 8 0 G dr (zB 8 G (λ hg=>aC 9 G zk hg (lz0 0 G) (Sub.part 2 G G) ty_3) (zB 8 G (λ hg=>dD (ae (vq 10 G) hg) ab) (zv G (bE (vq 8 G) (vq 11 G)) (zV 12 G (zC 13 0 G dr (zB 13 G (λ hg=>aC 14 G zk hg (lz0 0 G) (Sub.part 2 G G) ty_3) (zB 13 G (λ hg=>ll (ae (vq 15 G) hg) ab) (zv G (bE (vq 13 G) (vq 16 G)) (zA 17 G o0))))))))))))))))))) (zz Uu [O 1 93 _] λ a w U=>?_);refine aa<|qi<|am ?_ (ak G U (zm 0 G));exact bf (qt Bo (pt_r p))
def wyR (p:Nat):Nat→Nat→Nat
 | 0,n=>n
 | k+1,n=>if n*p>65536 then 65537 else wyR p k (n*p)
theorem t6 {p:Nat}(hp:0<p):∀ k,wayB p k=decide (p^k>65536)
 | 0=>rfl
 | k+1=>by
  rw [wayB,t6 hp k];have h:p^k≤p^(k+1):=zX hp (jA k);by_cases h1:p^(k+1)>65536
  ·simp [h1]
  ·have h2:¬ p^k>65536:=by omega
   simp [h1,h2]
theorem yb {p:Nat}(hp:0<p):∀ k n,n≤65536→(wyR p k n>65536↔n*p^k>65536)
 | 0,n,_=>by rw [wyR,j4,zH]
 | k+1,n,h=>by
  rw [wyR,ze,qW (p^k) p,← zb];by_cases h1:n*p>65536
  ·rw [qC h1];have:n*p*1≤n*p*p^k:=zP _ (zG hp);constructor
   ·intro _;omega
   ·intro _;omega
  ·rw [qy h1];exact yb hp k (n*p) zo
theorem FZ0 {p:Nat}(hp:0<p)(k:Nat):decide (((wyR p k 1:Nat):Int)>65536)=wayB p k:=by
 rw [t6 hp,jk,qK,qK];have:=yb hp k 1 zd;rw [jV] at this;omega
theorem At (p k:Nat)(hp:p≤64)(hk:k≤12):Cn Tryz.prog 42 [In (p:Nat),In (k:Nat)] (In (wyR p k 1:Nat)):=by
 refine Cn.intro Tryz.func42 G zk nq (zy [(0,In (p:Nat)),(1,In (k:Nat))] λ B w0 a U=>?_);refine qb<|zh WP WQ U (zE G ab) (zz WR [] ?_);refine ztA<|zhA UU WX (zE G ab) (zz WU [] ?_);refine ztA<|zsA<|zhA U2 Uq (zE G ab) (zz UV [] λ a w U=>?_);refine aa<|qk ?_;have U:=St.sel U [0,1,3,4];refine wp_loop_ghost (λ n a w=>∃ j m:Nat,(n+j=k∧m≤65536∧wyR p k 1=wyR p n m)∧St B w0 18 [(0,In (p:Nat)),(1,In (k:Nat)),(5,In (m:Nat)),(6,In (j:Nat))] [] a w) (k) ?_ ?_
 ·exact ⟨0,1,⟨by omega,by decide,rfl⟩,U⟩
 intro n a w hI;obtain ⟨j,m,⟨hn,hm,he⟩,U⟩:=hI;refine qb<|qb<|zh (Wb 7) Rv U (zM 3 G (zM 1 G (zv G (aO (vq 0 G) (vq 1 G)) o0))) (zz (W8 0 1 5 6 9) [] λ a w U=>?_);refine zJ 4 U G (λ hb0=>?_) (λ hb0=>?_)
 ·have hj:j<k:=by have:=qu hb0;omega
  obtain ⟨n1,rfl⟩:∃ n1,n=n1+1:=⟨n-1,by omega⟩;have hmp:m*p≤65536*64:=xR hm hp;refine qj<|zt<|qk<|qb<|zh (Wb 12 [.v 5 _]) (We [.g 3,.o 3]) U (zM 2 G (zM 0 G (zv G (mc (vq 0 G) (vq 1 G) ((wi64 (by push_cast;omega) (by push_cast;omega)).trans (by push_cast;rfl:(_:Int)=((m*p:Nat):Int)))) (zA 2 G o0)))) (zz (Wf 0 1 6 5) [] ?_);refine ztA<|zhA (W6 15) UW (zM 3 G (zv G (cD (vq 0 G) ab) o0)) (zz (W8 0 1 6 5 16) [] λ a w U=>?_);refine zJ 4 U G (λ hb1=>?_) (λ hb1=>?_)
  ·have hq:m*p>65536:=by have:=qu hb1;omega
   refine qb<|zh WP Uq U (zE G ab) (zz (W8 0 1 6 5 4) [] λ a w U=>?_);refine aa<|qi<|aD ?_;refine aj ?_;refine aj ?_;refine aD ?_;refine aj ?_;refine am ?_ (ak G U (zm 4 G));rw [he,wyR,qC hq];exact aM
  ·have hq:¬ m*p>65536:=by have:=qw hb1;omega
   refine qj<|al ?_;refine aa<|zh (W6 10 [.v 6 _]) UX U (zM 2 G (zv G (aL (vq 0 G) ab ((wi64 zo zo).trans (by omega:(_:Int)=((j+1:Nat):Int)))) (zA 1 G o0))) (zz (Wf 0 1 5 6) [] λ a w U=>?_);refine aa ?_;have U:=St.sel U [0,1,2,3];exact ⟨n1,by omega,j+1,m*p,⟨by omega,by omega,by rw [he,wyR,qy hq]⟩,U⟩
 ·obtain rfl:n=0:=by have:=qw hb0;omega
  refine qP<|ai<|ai<|az<|zt<|zh [.v 17 _,.v 4 _] Ut U (zM 2 G (zA 0 G o0)) (zz U0 [] λ a w U=>?_);refine aa<|qi<|am ?_ (ak G U (zm 0 G));rw [he];exact aM
theorem nk (p:RF):Cn Tryz.prog 193 [(RFA p).va] ((REA (spE p)).va):=by
 refine Cn.intro Tryz.func193 G zk nq (zy [(0,(RFA p).va)] λ B w0 a U=>?_);refine qb<|zg [] [zpL 1 28 0 _,zpL 2 91 1 _] UQ [] U (zW 0 G (zY G (Str.zero fN) o0)) (zz [] [O 1 28 _,O 2 91 _] λ a w U=>?_);refine zt<|zgd US UT [] (Wb 3 [.sto 1]) [] ac U (zl 0 G au (zQ G cP .nil (zv G (aS (qs:=[(0,_),(1,_),(2,_)]) fN (.cons ⟨rfl,ab,rfl⟩ (.cons ⟨rfl,vq 0 rfl,rfl⟩ (.cons ⟨rfl,vq 1 rfl,rfl⟩ .nil)))) (zS 2 G gf o0)))) zk zk zk zk (zz [] [O 1 28 _,O 2 91 _] λ a w U=>?_);refine aa<|qi<|am ?_ (ax G U (zm 1 G) gf);exact (bi (.cons (.refl _) (.cons (.refl _) (.cons qaA .nil)))).va
end Go.Proofs.YtckfapioofbfpaaGreatDoor
