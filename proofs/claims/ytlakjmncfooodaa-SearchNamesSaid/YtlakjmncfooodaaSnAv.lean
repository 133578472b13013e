/- SearchNames: the tasks and refusals of chapter 26 are as the chapter has them: the closed law answers true. No condition. -/
import Derived.Test.YtlakjmncfooodaaSnAu
import Derived.Test.YtlakjmncfooodaaRows
import Derived.ShutString
set_option linter.all false
set_option maxRecDepth 100000
namespace Go.Proofs.Ytlakjmncfooodaa
open Go Go.RowKit
variable {w:World}{B:Nat}{a:Act}{v:Value}{T:TypeId}{w0:Bs}{Γ:List (Nat × VA)}{Λ:List Lc}{ps:String}{af:Array Edge}{vr:Value}{H:Hd}{cs:List Value}{w':World}{P:Program}{D:List TypeId}
theorem app_part:∃ it z,Try.prog.info? 52=some it∧it.zero=some z∧it.size=11∧it.bytes=160∧z.cells.size=11:=by
 have h:((Try.prog.info? 52).bind λ it=>it.zero.map λ z=>(it.size,it.bytes,z.cells.size))=some (11,160,11):=by kernel_rfl
 cases hi:Try.prog.info? 52 with
 | none=>rw [hi] at h; simp at h
 | some it =>
  rw [hi] at h
  cases hz:it.zero with
  | none=>simp [hz] at h
  | some z =>
   simp [hz] at h
   exact ⟨it,z,rfl,hz,h.1,h.2.1,h.2.2⟩
def ChO (x:RCh):As:=cat [SlO 3 [] (x.l.map InA) True,RFA x.pw,InA x.c]
theorem up_si' (l:List Int):UpA (SlA 3 [] (l.map InA)) (SlO 3 [] (l.map InA) True):=gZ λ A hA=>by obtain ⟨x,_,rfl⟩:=qo.1 hA; exact fL _ _
theorem fM (x:RCh):UpA (ChA x) (ChO x):=dB (.cons (up_si' _) (.cons (eD _) (.cons (fL _ _) .nil)))
theorem cho_A {x:RCh}:WkA (ChO x) (ChA x):=bc (.cons slo_A (.cons (.refl _) (.cons (.refl _) .nil)))
theorem upA_g2 (x:RF × RF):UpA (G2A x) (G2A x):=dB (.cons (eD _) (.cons (eD _) .nil))
theorem upA_el (l:List RE):UpA (SlA 50 [U32] (l.map REA)) (SlO 50 [U32] (l.map REA) True):=gZ λ A hA=>by obtain ⟨x,_,rfl⟩:=qo.1 hA; exact upA_re x
theorem cH {A A':As}(hu:UpA A A'):Up (ElO T A) (ElO T A'):=λ B v w hB ⟨b,cs,h1,h2,h3,h4⟩=>⟨b,cs,h1,(Array.getElem?_eq_some_iff.1 h3).1,h3,hu.2.2 _ _ _ hB h4⟩
theorem up_id {A:VA}(h:∀ B B' v w,A.p B v w→A.p B' v w):Up A A:=λ B v w _ hp=>h _ _ _ _ hp
def spT:List RF:=[frI 0,frI 1,frI 0]
def paT:List RPt:=[lnT ⟨#[97]⟩ 1 5,lnT ⟨#[98]⟩ 2 3]
def goT:RTk:=⟨[frI 0],paT,frI 1⟩
def leT:RTk:=⟨[frI 0,frI (-1),frI 0],paT,frI 1⟩
def baT:RTk:=⟨spT,[],frI 1⟩
def chT:RTk:=⟨spT,[lnT ⟨#[97]⟩ 1 (-1),lnT ⟨#[98]⟩ 2 3],frI 1⟩
def twT:RTk:=⟨spT,[lnT ⟨#[97]⟩ 1 5,lnT ⟨#[97]⟩ 2 3],frI 1⟩
def wdT (j:Nat):RTk:=⟨spT++List.replicate j (frI 0),[lnT ⟨#[97]⟩ 1 5,lnT ⟨#[98]⟩ 2 3,lnT ⟨#[99]⟩ 3 0],frI 1⟩
theorem wd_nx (j:Nat):(wdT j).sp.map RFA++[RFA (frI 0)]=(wdT (j+1)).sp.map RFA:=by
 show (spT++List.replicate j (frI 0)).map RFA++[RFA (frI 0)]=(spT++List.replicate (j+1) (frI 0)).map RFA
 rw [jE,← qM,zF (l₂:=[frI 0])]; rfl
theorem kq (j:Nat):((wdT j).sp.map RFA).length=j+3:=by
 show ((spT++List.replicate j (frI 0)).map RFA).length=j+3
 rw [qd,qE,xq]; show 3+j=j+3; omega
theorem eW_at {n1:List RE × Int}(e:n1=bnF (twoT 1) [0,1]):(n1.1.map REA)[0]?=some (REA (n1.1.getD 0 re0))∧(n1.1.map REA)[3]?=some (REA (n1.1.getD 3 re0)):=by
 subst e
 rw [List.getElem?_map,List.getElem?_map]
 exact ⟨qu (Option.map REA) (by kernel_rfl:(bnF (twoT 1) [0,1]).1[0]?=some ((bnF (twoT 1) [0,1]).1.getD 0 re0)),qu (Option.map REA) (by kernel_rfl:(bnF (twoT 1) [0,1]).1[3]?=some ((bnF (twoT 1) [0,1]).1.getD 3 re0))⟩
theorem best_v {t:RTk}{b:RCh × Int}(e:b=bestF t):Cn Try.prog 4 [(TkA t).va] (Tu [(ChA b.1).va,In b.2]):=by subst e; exact best_p t
theorem rows_v {t:RTk}{xs:List Int}{r:Int × (RF × RF) × Int}(e:r=rowF t xs):Cn Try.prog 8 [(TkA t).va,(SlA 3 [] (xs.map InA)).va] (Tu [In r.1,(G2A r.2.1).va,In r.2.2]):=by subst e; exact rows_p t xs
theorem gN {t:RTk}{xs ys:List Int}{r:Bool × Int}(e:r=btF t xs ys):Cn Try.prog 6 [(TkA t).va,(SlA 3 [] (xs.map InA)).va,(SlA 3 [] (ys.map InA)).va] (Tu [Bo r.1,In r.2]):=by subst e; exact better26_c t xs ys
theorem bench_v {t:RTk}{xs:List Int}{r:List RE × Int}(e:r=bnF t xs):Cn Try.prog 7 [(TkA t).va,(SlA 3 [] (xs.map InA)).va] (Tu [(SlA 50 [U32] (r.1.map REA)).va,In r.2]):=by subst e; exact bench_c t xs
theorem put_c {p0 p1 p0':RPt}(h:p0'={ p0 with c := -1 }):Put (cat ([p0,p1].map PtA)) 10 (InA (-1)) (cat ([p0',p1].map PtA)):=by
 subst h
 exact Put.hd (l:=[PtA p1]) (A:=PtA p0) (A1:=PtA { p0 with c := -1 }) (Put.part 2 G G G)
theorem put_n {p0 p1 p1':RPt}{s:ByteArray}(h:p1'={ p1 with nm:=s }):Put (cat ([p0,p1].map PtA)) 11 (EqA (.string s)) (cat ([p0,p1'].map PtA)):=by
 subst h
 exact Put.tl (A0:=PtA p0) (k:=0) (l:=[PtA p1]) (l':=[PtA { p1 with nm:=s }]) (Put.hd (l:=[]) (A:=PtA p1) (A1:=PtA { p1 with nm:=s }) (Put.part 0 G G G))
theorem pt_n {l:List RPt}:∀ A∈l.map PtA,A.n=11:=λ A hA=>by obtain ⟨x,_,rfl⟩:=qo.1 hA; rfl
theorem pt_d {l:List RPt}:∀ A∈l.map PtA,∀ T∈A.deps,T∈[U32]:=λ A hA=>by obtain ⟨x,_,rfl⟩:=qo.1 hA; exact iK (A:=PtA x) zk
set_option maxHeartbeats 4000000 in
theorem gh {b1 b3:RCh × Int}{k1 k2 k3:Bool × Int}{n1:List RE × Int}{r1 r2 r3:Int × (RF × RF) × Int}(e1:b1=bestF (twoT 0))(e2:b3=bestF (twoT 100))(e3:k1=btF (twoT 1) [0,1] [1,0])(e4:k2=btF (twoT 1) [0,0] [0,1])(e5:k3=btF (twoT 1) [0] [0,1])(e6:n1=bnF (twoT 1) [0,1])(e7:r1=rowF (twoT 1) [1,1])(e8:r2=rowF (twoT 1) [2])(e9:r3=rowF (twoT 1) [0,0,0]):Cn Try.prog 3 [] (Bo true):=by
 obtain ⟨it0,z0,p1,p2,p3,p4,p5⟩:=app_part
 obtain ⟨it1,z1,f1,f2,f3,f4,f5⟩:=app_frac
 refine Cn.introD Try.func3 G zk nq (λ B w0 a hF0 hnd hF U=>?_)
 have U:=zn [] [] U
 refine qb<|zh [.v 0 _] [.o 0] U (zv G (a6 aE) o0) (zz [(0,_)] [] λ a w U=>?_)
 refine zt<|zg [] [⟨1,29,ptrH,some 5,_,some (6,_)⟩] [.v 32 _,.v 33 _,.v 31 _,.v 34 _,.v 35 _,.alc 0,.sto 0,.v 2 _] [.g 0,.o 7] U (zQ G (bR (n:=0) zd zd) (.cons a5 .nil) (zQ G (best_v e1) (.o (vq 0 G)) (zv G (a7 (vq 1 G)) (zv G (dS (vq 2 G)) (zv G (dR (vq 2 G)) (zY G (Str.zero iF) (zS 3 G g7 (zA 4 G o0)))))))) (zz [(0,_),(2,_)] [O 1 29 _] λ a w U=>?_)
 refine zt<|zg [η] [⟨3,29,ptrH,some 5,_,some (6,_)⟩] [.v 37 _,.v 38 _,.v 36 _,.v 39 _,.v 40 _,.alc 1,.sto 1,.v 4 _] [.g 0,.g 1,.o 7] U (zQ G (bR (n:=100) zd zd) (.cons a5 .nil) (zQ G (best_v e2) (.o (vq 0 G)) (zv G (a7 (vq 1 G)) (zv G (dS (vq 2 G)) (zv G (dR (vq 2 G)) (zY G (Str.zero iF) (zS 3 G g7 (zA 4 G o0)))))))) (zz [(0,_),(2,_),(4,_)] [O 1 29 _,O 3 29 _] λ a w U=>?_)
 refine zt<|zg [η,η] [] [.v 42 _,.v 43 _,.v 44 _,.v 45 _,.v 41 _,.v 46 _,.v 47 _,.v 5 _,.v 6 _] [.g 0,.g 1,.g 2,.o 7,.o 8] U (zQ G (bR (n:=1) zd zd) (.cons a5 .nil) (zv G (aV (D:=[]) (l:=[_,_]) (xs:=[.const (.int .i64 (0)),.const (.int .i64 (1))]) (bN zk) cD zk (n_ok zk) nq nq nq (.cons a5 (.cons a5 .nil)) G G) (zv G (aV (D:=[]) (l:=[_,_]) (xs:=[.const (.int .i64 (1)),.const (.int .i64 (0))]) (bN zk) cD zk (n_ok zk) nq nq nq (.cons a5 (.cons a5 .nil)) G G) (zQ G (gN (xs:=[0,1]) (ys:=[1,0]) e3) (.cons (vq 0 G) (.p (vq 1 G) (vq 2 G))) (zv G (a7 (vq 3 G)) (zv G (dS (vq 4 G)) (zv G (dR (vq 4 G)) (zA 5 G (zA 6 G o0))))))))) (zz [(0,_),(2,_),(4,_),(5,_),(6,_)] [O 1 29 _,O 3 29 _] λ a w U=>?_)
 refine zt<|zg [η,η] [] [.v 49 _,.v 50 _,.v 51 _,.v 52 _,.v 48 _,.v 53 _,.v 54 _,.v 7 _,.v 8 _] [.g 0,.g 1,.g 2,.g 3,.g 4,.o 7,.o 8] U (zQ G (bR (n:=1) zd zd) (.cons a5 .nil) (zv G (aV (D:=[]) (l:=[_,_]) (xs:=[.const (.int .i64 (0)),.const (.int .i64 (0))]) (bN zk) cD zk (n_ok zk) nq nq nq (.cons a5 (.cons a5 .nil)) G G) (zv G (aV (D:=[]) (l:=[_,_]) (xs:=[.const (.int .i64 (0)),.const (.int .i64 (1))]) (bN zk) cD zk (n_ok zk) nq nq nq (.cons a5 (.cons a5 .nil)) G G) (zQ G (gN (xs:=[0,0]) (ys:=[0,1]) e4) (.cons (vq 0 G) (.p (vq 1 G) (vq 2 G))) (zv G (a7 (vq 3 G)) (zv G (dS (vq 4 G)) (zv G (dR (vq 4 G)) (zA 5 G (zA 6 G o0))))))))) (zz [(0,_),(2,_),(4,_),(5,_),(6,_),(7,_),(8,_)] [O 1 29 _,O 3 29 _] λ a w U=>?_)
 refine zt<|zg [η,η] [] [.v 56 _,.v 57 _,.v 58 _,.v 59 _,.v 55 _,.v 60 _,.v 61 _,.v 9 _,.v 10 _] [.g 0,.g 1,.g 2,.g 3,.g 4,.g 5,.g 6,.o 8] U (zQ G (bR (n:=1) zd zd) (.cons a5 .nil) (zv G (aV (D:=[]) (l:=[_]) (xs:=[.const (.int .i64 (0))]) (bN zk) cD zk (n_ok zk) nq nq nq (.cons a5 .nil) G G) (zv G (aV (D:=[]) (l:=[_,_]) (xs:=[.const (.int .i64 (0)),.const (.int .i64 (1))]) (bN zk) cD zk (n_ok zk) nq nq nq (.cons a5 (.cons a5 .nil)) G G) (zQ G (gN (xs:=[0]) (ys:=[0,1]) e5) (.cons (vq 0 G) (.p (vq 1 G) (vq 2 G))) (zv G (a7 (vq 3 G)) (zv G (dS (vq 4 G)) (zv G (dR (vq 4 G)) (zA 5 G (zA 6 G o0))))))))) (zz [(0,_),(2,_),(4,_),(5,_),(6,_),(7,_),(8,_),(10,_)] [O 1 29 _,O 3 29 _] λ a w U=>?_)
 refine zt<|zg [η,η] [] [.v 63 _,.v 64 _,.v 65 _,.v 62 _,.v 66 _,.v 67 _,.v 11 _,.v 12 _] [.g 0,.g 1,.g 2,.g 3,.g 4,.g 5,.g 6,.g 7,.o 6,.o 7] U (zQ G (bR (n:=1) zd zd) (.cons a5 .nil) (zv G (aV (D:=[]) (l:=[_,_]) (xs:=[.const (.int .i64 (0)),.const (.int .i64 (1))]) (bN zk) cD zk (n_ok zk) nq nq nq (.cons a5 (.cons a5 .nil)) G G) (zQ G (bench_v (xs:=[0,1]) e6) (.p (vq 0 G) (vq 1 G)) (zv G (a7 (vq 2 G)) (zv G (dS (vq 3 G)) (zv G (dR (vq 3 G)) (zA 4 G (zA 5 G o0)))))))) (zz [(0,_),(2,_),(4,_),(5,_),(6,_),(7,_),(8,_),(10,_),(11,_),(12,_)] [O 1 29 _,O 3 29 _] λ a w U=>?_)
 refine zt<|zg [η,η] [⟨14,44,ptrH,some 7,_,some (9,_)⟩] [.v 69 _,.v 70 _,.v 71 _,.v 68 _,.v 72 _,.v 73 _,.v 74 _,.alc 2,.v 13 _,.sto 2,.v 15 _] [.g 0,.g 1,.g 2,.g 3,.g 4,.g 5,.g 6,.g 7,.g 8,.g 9,.o 8,.o 10] U (zQ G (bR (n:=1) zd zd) (.cons a5 .nil) (zv G (aV (D:=[]) (l:=[_,_]) (xs:=[.const (.int .i64 (1)),.const (.int .i64 (1))]) (bN zk) cD zk (n_ok zk) nq nq nq (.cons a5 (.cons a5 .nil)) G G) (zQ G (rows_v (xs:=[1,1]) e7) (.p (vq 0 G) (vq 1 G)) (zv G (a7 (vq 2 G)) (zv G (dS (vq 3 G)) (zv G (dR (vq 3 G)) (zv G (r_ex2 (vq 3 G)) (zY G (Str.zero kB) (zA 4 G (zS 5 G eH (zA 6 G o0))))))))))) (zz [(0,_),(2,_),(4,_),(5,_),(6,_),(7,_),(8,_),(10,_),(11,_),(12,_),(13,_),(15,_)] [O 1 29 _,O 3 29 _,O 14 44 _] λ a w U=>?_)
 refine zt<|zg [η,η,η] [⟨17,44,ptrH,some 7,_,some (9,_)⟩] [.v 76 _,.v 77 _,.v 78 _,.v 75 _,.v 79 _,.v 80 _,.v 81 _,.alc 3,.v 16 _,.sto 3,.v 18 _] [.g 0,.g 1,.g 2,.g 3,.g 4,.g 5,.g 6,.g 7,.g 8,.g 9,.g 10,.g 11,.o 10] U (zQ G (bR (n:=1) zd zd) (.cons a5 .nil) (zv G (aV (D:=[]) (l:=[_]) (xs:=[.const (.int .i64 (2))]) (bN zk) cD zk (n_ok zk) nq nq nq (.cons a5 .nil) G G) (zQ G (rows_v (xs:=[2]) e8) (.p (vq 0 G) (vq 1 G)) (zv G (a7 (vq 2 G)) (zv G (dS (vq 3 G)) (zv G (dR (vq 3 G)) (zv G (r_ex2 (vq 3 G)) (zY G (Str.zero kB) (zA 4 G (zS 5 G eH (zA 6 G o0))))))))))) (zz [(0,_),(2,_),(4,_),(5,_),(6,_),(7,_),(8,_),(10,_),(11,_),(12,_),(13,_),(15,_),(18,_)] [O 1 29 _,O 3 29 _,O 14 44 _,O 17 44 _] λ a w U=>?_)
 refine zt<|zg [η,η,η,η] [⟨20,44,ptrH,some 7,_,some (9,_)⟩] [.v 83 _,.v 84 _,.v 85 _,.v 82 _,.v 86 _,.v 87 _,.v 88 _,.alc 4,.v 19 _,.sto 4,.v 21 _] [.g 0,.g 1,.g 2,.g 3,.g 4,.g 5,.g 6,.g 7,.g 8,.g 9,.g 10,.g 11,.g 12,.o 10] U (zQ G (bR (n:=1) zd zd) (.cons a5 .nil) (zv G (aV (D:=[]) (l:=[_,_,_]) (xs:=[.const (.int .i64 (0)),.const (.int .i64 (0)),.const (.int .i64 (0))]) (bN zk) cD zk (n_ok zk) nq nq nq (.cons a5 (.cons a5 (.cons a5 .nil))) G G) (zQ G (rows_v (xs:=[0,0,0]) e9) (.p (vq 0 G) (vq 1 G)) (zv G (a7 (vq 2 G)) (zv G (dS (vq 3 G)) (zv G (dR (vq 3 G)) (zv G (r_ex2 (vq 3 G)) (zY G (Str.zero kB) (zA 4 G (zS 5 G eH (zA 6 G o0))))))))))) (zz [(0,_),(2,_),(4,_),(5,_),(6,_),(7,_),(8,_),(10,_),(11,_),(12,_),(13,_),(15,_),(18,_),(21,_)] [O 1 29 _,O 3 29 _,O 14 44 _,O 17 44 _,O 20 44 _] λ a w U=>?_)
 refine zt<|zg [η,η,η,η,η] [⟨22,36,ptrH,some 1,_,some (2,_)⟩] [.v 89 _,.alc 5,.sto 5] [.g 0,.g 1,.g 2,.g 3,.g 4,.g 5,.g 6,.g 7,.g 8,.g 9,.g 10,.g 11,.g 12,.g 13] U (zQ G (bR (n:=1) zd zd) (.cons a5 .nil) (zY G (Str.zero c5) (zS 0 G bG o0))) (zz [(0,_),(2,_),(4,_),(5,_),(6,_),(7,_),(8,_),(10,_),(11,_),(12,_),(13,_),(15,_),(18,_),(21,_)] [O 1 29 _,O 3 29 _,O 14 44 _,O 17 44 _,O 20 44 _,O 22 36 _] λ a w U=>?_)
 refine zt<|zg [η,η,η,η,η,some (4,_)] [] [.adr 90 22 (.some 0) True,.v 91 _,.v 92 _,.adr 93 22 (.some 0) True,.sto 5] [.g 0,.g 1,.g 2,.g 3,.g 4,.g 5,.g 6,.g 7,.g 8,.g 9,.g 10,.g 11,.g 12,.g 13] U (zO 5 G bF (zL 0 5 0 G el (zv G (r_slH dF (cE λ _=>rfl) (vq 1 G) (aB 1 G) zd) (zO 5 G bF (oc (bU 3 G G G G zk (vq 2 G) el (Put.part 0 G (@rfl Nat 1) G)) o0))))) (zz [(0,_),(2,_),(4,_),(5,_),(6,_),(7,_),(8,_),(10,_),(11,_),(12,_),(13,_),(15,_),(18,_),(21,_)] [O 1 29 _,O 3 29 _,O 14 44 _,O 17 44 _,O 20 44 _,O 22 36 _] λ a w U=>?_)
 have U:=St.wkB (A':=TkA goT) U 5 rfl (λ _ h=>h)
 have U:=zn [(0,_),(2,_),(4,_),(5,_),(6,_),(7,_),(8,_),(10,_),(11,_),(12,_),(13,_),(15,_),(18,_),(21,_)] [O 1 29 _,O 3 29 _,O 14 44 _,O 17 44 _,O 20 44 _,O 22 36 _] U
 refine zt<|zg [η,η,η,η,η,η] [⟨23,36,ptrH,some 1,_,some (2,_)⟩] [.v 94 _,.alc 6,.sto 6] [.g 0,.g 1,.g 2,.g 3,.g 4,.g 5,.g 6,.g 7,.g 8,.g 9,.g 10,.g 11,.g 12,.g 13] U (zQ G (bR (n:=1) zd zd) (.cons a5 .nil) (zY G (Str.zero c5) (zS 0 G bG o0))) (zz [(0,_),(2,_),(4,_),(5,_),(6,_),(7,_),(8,_),(10,_),(11,_),(12,_),(13,_),(15,_),(18,_),(21,_)] [O 1 29 _,O 3 29 _,O 14 44 _,O 17 44 _,O 20 44 _,O 22 36 _,O 23 36 _] λ a w U=>?_)
 refine zt<|zg [η,η,η,η,η,η,some (5,_)] [] [.v 95 _,.v 96 _,.v 97 _,.v 98 _,.adr 99 23 (.some 0) True,.sto 6] [.g 0,.g 1,.g 2,.g 3,.g 4,.g 5,.g 6,.g 7,.g 8,.g 9,.g 10,.g 11,.g 12,.g 13] U (zQ G (aR (n:=0) zd zd) (.cons a5 .nil) (zQ G (aR (n := -1) zd zd) (.cons a5 .nil) (zQ G (aR (n:=0) zd zd) (.cons a5 .nil) (zv G (aV (D:=[U32]) (l:=[RFA (frI 0),RFA (frI (-1)),RFA (frI 0)]) (xs:=[.tmp 95,.tmp 96,.tmp 97]) (bN zk) dF zk (n_ok zk) nq nq nq (.cons (vq 0 G) (.p (vq 1 G) (vq 2 G))) G G) (zO 6 G bF (oc (bU 4 G G G G zk (vq 3 G) el (Put.part 0 G (@rfl Nat 1) G)) o0)))))) (zz [(0,_),(2,_),(4,_),(5,_),(6,_),(7,_),(8,_),(10,_),(11,_),(12,_),(13,_),(15,_),(18,_),(21,_)] [O 1 29 _,O 3 29 _,O 14 44 _,O 17 44 _,O 20 44 _,O 22 36 _,O 23 36 _] λ a w U=>?_)
 have U:=St.wkB (A':=TkA leT) U 6 rfl (λ _ h=>h)
 have U:=zn [(0,_),(2,_),(4,_),(5,_),(6,_),(7,_),(8,_),(10,_),(11,_),(12,_),(13,_),(15,_),(18,_),(21,_)] [O 1 29 _,O 3 29 _,O 14 44 _,O 17 44 _,O 20 44 _,O 22 36 _,O 23 36 _] U
 refine zt<|zg [η,η,η,η,η,η,η] [⟨24,36,ptrH,some 1,_,some (2,_)⟩] [.v 100 _,.alc 7,.sto 7] [.g 0,.g 1,.g 2,.g 3,.g 4,.g 5,.g 6,.g 7,.g 8,.g 9,.g 10,.g 11,.g 12,.g 13] U (zQ G (bR (n:=1) zd zd) (.cons a5 .nil) (zY G (Str.zero c5) (zS 0 G bG o0))) (zz [(0,_),(2,_),(4,_),(5,_),(6,_),(7,_),(8,_),(10,_),(11,_),(12,_),(13,_),(15,_),(18,_),(21,_)] [O 1 29 _,O 3 29 _,O 14 44 _,O 17 44 _,O 20 44 _,O 22 36 _,O 23 36 _,O 24 36 _] λ a w U=>?_)
 refine zt<|zg [η,η,η,η,η,η,η,some (1,_)] [] [.adr 101 24 (.some 1) True,.sto 7] [.g 0,.g 1,.g 2,.g 3,.g 4,.g 5,.g 6,.g 7,.g 8,.g 9,.g 10,.g 11,.g 12,.g 13] U (zO 7 G bE (oc (bU 0 G G G G zk (has_wk' be (nil_sl:Wk _ (SlA 52 [U32] []).va)) ek (Put.part 1 G (@rfl Nat 1) G)) o0)) (zz [(0,_),(2,_),(4,_),(5,_),(6,_),(7,_),(8,_),(10,_),(11,_),(12,_),(13,_),(15,_),(18,_),(21,_)] [O 1 29 _,O 3 29 _,O 14 44 _,O 17 44 _,O 20 44 _,O 22 36 _,O 23 36 _,O 24 36 _] λ a w U=>?_)
 have U:=St.wkB (A':=TkA baT) U 7 rfl (λ _ h=>h)
 have U:=zn [(0,_),(2,_),(4,_),(5,_),(6,_),(7,_),(8,_),(10,_),(11,_),(12,_),(13,_),(15,_),(18,_),(21,_)] [O 1 29 _,O 3 29 _,O 14 44 _,O 17 44 _,O 20 44 _,O 22 36 _,O 23 36 _,O 24 36 _] U
 refine ground [(1,ElO 29 (ChO b1.1)),(3,ElO 29 (ChO b3.1)),(14,ElO 44 (G2A r1.2.1)),(22,ElO 36 (TkO goT)),(23,ElO 36 (TkO leT)),(24,ElO 36 (TkO baT)),(2,In b1.2),(4,In b3.2),(5,Bo k1.1),(6,In k1.2),(7,Bo k2.1),(8,In k2.2),(10,In k3.2),(11,(SlO 50 [U32] (n1.1.map REA) True).va),(12,In n1.2),(13,In r1.1),(15,In r1.2.2),(18,In r2.2.2),(21,In r3.2.2)] U hnd ⟨ia U 0 G (fM _),ia U 1 G (fM _),ia U 2 G (upA_g2 _),ia U 5 G (cp _),ia U 6 G (cp _),ia U 7 G (cp _),aZ U 1 G (λ _ _ _ _ h=>h),aZ U 2 G (λ _ _ _ _ h=>h),aZ U 3 G (λ _ _ _ _ h=>h),aZ U 4 G (λ _ _ _ _ h=>h),aZ U 5 G (λ _ _ _ _ h=>h),aZ U 6 G (λ _ _ _ _ h=>h),aZ U 7 G (λ _ _ _ _ h=>h),aZ U 8 G (upA_el _).va,aZ U 9 G (λ _ _ _ _ h=>h),aZ U 10 G (λ _ _ _ _ h=>h),aZ U 11 G (λ _ _ _ _ h=>h),aZ U 12 G (λ _ _ _ _ h=>h),aZ U 13 G (λ _ _ _ _ h=>h),trivial⟩ (λ B w0 w hnd hF0 hB U=>?_)
 have U:=zn [(1,_),(3,_),(14,_),(22,_),(23,_),(24,_),(2,_),(4,_),(5,_),(6,_),(7,_),(8,_),(10,_),(11,_),(12,_),(13,_),(15,_),(18,_),(21,_)] [] U
 refine zt<|zg [] [⟨25,36,ptrH,some 1,_,some (2,_)⟩] [.v 102 _,.alc 0,.sto 0] [.g 0,.g 1,.g 2,.g 3,.g 4,.g 5,.g 6,.g 7,.g 8,.g 9,.g 10,.g 11,.g 12,.g 13,.g 14,.g 15,.g 16,.g 17,.g 18] U (zQ G (twoN_c (n:=1) zd zd) (.cons a5 .nil) (zY G (Str.zero c5) (zS 0 G bG o0))) (zz [(1,_),(3,_),(14,_),(22,_),(23,_),(24,_),(2,_),(4,_),(5,_),(6,_),(7,_),(8,_),(10,_),(11,_),(12,_),(13,_),(15,_),(18,_),(21,_)] [O 25 36 _] λ a w U=>?_)
 refine zt ?_
 obtain ⟨⟨v25,d25⟩,U⟩:=St.nameF U 0 1 rfl rfl
 have U:=zn [(1,_),(3,_),(14,_),(22,_),(23,_),(24,_),(2,_),(4,_),(5,_),(6,_),(7,_),(8,_),(10,_),(11,_),(12,_),(13,_),(15,_),(18,_),(21,_)] [O 25 36 _] U
 have hown:=St.knowF U 0 1 rfl rfl
 obtain ⟨g25,c25,e25⟩:=row_sl hown zd
 have e25:v25=.slice (some ⟨g25,0,none⟩) 2 c25:=e25
 subst e25
 have U:=zn [(1,_),(3,_),(14,_),(22,_),(23,_),(24,_),(2,_),(4,_),(5,_),(6,_),(7,_),(8,_),(10,_),(11,_),(12,_),(13,_),(15,_),(18,_),(21,_)] [O 25 36 _] U
 refine eA (sp:=[.adr 103 25 (.some 1) True,.v 104 _,.skp,.skp,.skp]) 2 3 99 2 OneC [.g 0,.g 1,.g 2,.g 3,.g 4,.g 5,.g 6,.g 7,.g 8,.g 9,.g 10,.g 11,.g 12,.g 13,.g 14,.g 15,.g 16,.g 17,.g 18,.o 1] U (zO 0 G bE (zL 0 0 1 G ek o0)) G zd zk zk (zz [(1,_),(3,_),(14,_),(22,_),(23,_),(24,_),(2,_),(4,_),(5,_),(6,_),(7,_),(8,_),(10,_),(11,_),(12,_),(13,_),(15,_),(18,_),(21,_),(104,_)] [O 25 36 _] λ a w U=>?_)
 rw [show List.range' 2 3=[2,3,4] from rfl]
 have U:=St.wkG U 19 rfl owY_eq
 have U:=zn [(1,_),(3,_),(14,_),(22,_),(23,_),(24,_),(2,_),(4,_),(5,_),(6,_),(7,_),(8,_),(10,_),(11,_),(12,_),(13,_),(15,_),(18,_),(21,_),(104,_)] [O 25 36 _] U
 rw [qG]
 refine op_idxC (m:=11) (k:=0) 19 G U i6 zd G zd zd zk zk (λ a U=>?_)
 rw [qG]
 refine fj 0 G U eS G zd zk zk (λ a U=>?_)
 rw [qG]
 refine op_stoC (g:=g25) (k:=10) (E:=52) (A1:=TkN chT) [2,3,4,5,6,7,8,9,10,11,12,13,14,15,16,17,18,19,20] 0 0 G U G G G ty_3 G zd (eN hB) zk zk (λ cs hp=>sto_fld (l':=chT.ps.map PtA) hp (f:=1) G G zk zd (put_c G) (λ _=>rfl) G pt_n pt_d) (λ w U=>?_)
 refine db ?_
 have U:=zn [(1,_),(3,_),(14,_),(22,_),(23,_),(24,_),(2,_),(4,_),(5,_),(6,_),(7,_),(8,_),(10,_),(11,_),(12,_),(13,_),(15,_),(18,_),(21,_)] [O 25 36 _] U
 refine ground [(1,ElO 29 (ChO b1.1)),(3,ElO 29 (ChO b3.1)),(14,ElO 44 (G2A r1.2.1)),(22,ElO 36 (TkO goT)),(23,ElO 36 (TkO leT)),(24,ElO 36 (TkO baT)),(2,In b1.2),(4,In b3.2),(5,Bo k1.1),(6,In k1.2),(7,Bo k2.1),(8,In k2.2),(10,In k3.2),(11,(SlO 50 [U32] (n1.1.map REA) True).va),(12,In n1.2),(13,In r1.1),(15,In r1.2.2),(18,In r2.2.2),(21,In r3.2.2),(25,ElO 36 (TkO chT))] U hnd ⟨aZ U 0 G (cH (UpA.wk cho_A (fM _))),aZ U 1 G (cH (UpA.wk cho_A (fM _))),aZ U 2 G (cH (upA_g2 _)),aZ U 3 G (cH (UpA.wk tko_A (cp _))),aZ U 4 G (cH (UpA.wk tko_A (cp _))),aZ U 5 G (cH (UpA.wk tko_A (cp _))),aZ U 6 G (λ _ _ _ _ h=>h),aZ U 7 G (λ _ _ _ _ h=>h),aZ U 8 G (λ _ _ _ _ h=>h),aZ U 9 G (λ _ _ _ _ h=>h),aZ U 10 G (λ _ _ _ _ h=>h),aZ U 11 G (λ _ _ _ _ h=>h),aZ U 12 G (λ _ _ _ _ h=>h),aZ U 13 G (UpA.wk slo_A (upA_el _)).va,aZ U 14 G (λ _ _ _ _ h=>h),aZ U 15 G (λ _ _ _ _ h=>h),aZ U 16 G (λ _ _ _ _ h=>h),aZ U 17 G (λ _ _ _ _ h=>h),aZ U 18 G (λ _ _ _ _ h=>h),ia U 0 G (upA_tkN _),trivial⟩ (λ B w0 w hnd hF0 hB U=>?_)
 have U:=zn [(1,_),(3,_),(14,_),(22,_),(23,_),(24,_),(2,_),(4,_),(5,_),(6,_),(7,_),(8,_),(10,_),(11,_),(12,_),(13,_),(15,_),(18,_),(21,_),(25,_)] [] U
 refine zt<|zg [] [⟨26,36,ptrH,some 1,_,some (2,_)⟩] [.v 107 _,.alc 0,.sto 0] [.g 0,.g 1,.g 2,.g 3,.g 4,.g 5,.g 6,.g 7,.g 8,.g 9,.g 10,.g 11,.g 12,.g 13,.g 14,.g 15,.g 16,.g 17,.g 18,.g 19] U (zQ G (twoN_c (n:=1) zd zd) (.cons a5 .nil) (zY G (Str.zero c5) (zS 0 G bG o0))) (zz [(1,_),(3,_),(14,_),(22,_),(23,_),(24,_),(2,_),(4,_),(5,_),(6,_),(7,_),(8,_),(10,_),(11,_),(12,_),(13,_),(15,_),(18,_),(21,_),(25,_)] [O 26 36 _] λ a w U=>?_)
 refine zt ?_
 obtain ⟨⟨v26,d26⟩,U⟩:=St.nameF U 0 1 rfl rfl
 have U:=zn [(1,_),(3,_),(14,_),(22,_),(23,_),(24,_),(2,_),(4,_),(5,_),(6,_),(7,_),(8,_),(10,_),(11,_),(12,_),(13,_),(15,_),(18,_),(21,_),(25,_)] [O 26 36 _] U
 have hown:=St.knowF U 0 1 rfl rfl
 obtain ⟨g26,c26,e26⟩:=row_sl hown zd
 have e26:v26=.slice (some ⟨g26,0,none⟩) 2 c26:=e26
 subst e26
 have U:=zn [(1,_),(3,_),(14,_),(22,_),(23,_),(24,_),(2,_),(4,_),(5,_),(6,_),(7,_),(8,_),(10,_),(11,_),(12,_),(13,_),(15,_),(18,_),(21,_),(25,_)] [O 26 36 _] U
 refine eA (sp:=[.adr 108 26 (.some 1) True,.v 109 _,.skp,.skp,.skp]) 2 3 99 2 OneC [.g 0,.g 1,.g 2,.g 3,.g 4,.g 5,.g 6,.g 7,.g 8,.g 9,.g 10,.g 11,.g 12,.g 13,.g 14,.g 15,.g 16,.g 17,.g 18,.g 19,.o 1] U (zO 0 G bE (zL 0 0 1 G ek o0)) G zd zk zk (zz [(1,_),(3,_),(14,_),(22,_),(23,_),(24,_),(2,_),(4,_),(5,_),(6,_),(7,_),(8,_),(10,_),(11,_),(12,_),(13,_),(15,_),(18,_),(21,_),(25,_),(109,_)] [O 26 36 _] λ a w U=>?_)
 rw [show List.range' 2 3=[2,3,4] from rfl]
 have U:=St.wkG U 20 rfl owY_eq
 have U:=zn [(1,_),(3,_),(14,_),(22,_),(23,_),(24,_),(2,_),(4,_),(5,_),(6,_),(7,_),(8,_),(10,_),(11,_),(12,_),(13,_),(15,_),(18,_),(21,_),(25,_),(109,_)] [O 26 36 _] U
 rw [qG]
 refine op_idxC (m:=11) (k:=1) 20 G U i6 zd G zd zd zk zk (λ a U=>?_)
 rw [qG]
 refine fj 0 G U gH G zd zk zk (λ a U=>?_)
 rw [qG]
 refine op_stoC (g:=g26) (k:=11) (E:=52) (A1:=TkN twT) [2,3,4,5,6,7,8,9,10,11,12,13,14,15,16,17,18,19,20,21] 0 0 G U G G G ty_9 G zd (eN hB) zk zk (λ cs hp=>sto_fld (l':=twT.ps.map PtA) hp (f:=1) G G zk zd (put_n G) (λ _=>⟨rfl,rfl⟩) G pt_n pt_d) (λ w U=>?_)
 refine db ?_
 have U:=zn [(1,_),(3,_),(14,_),(22,_),(23,_),(24,_),(2,_),(4,_),(5,_),(6,_),(7,_),(8,_),(10,_),(11,_),(12,_),(13,_),(15,_),(18,_),(21,_),(25,_)] [O 26 36 _] U
 refine ground [(1,ElO 29 (ChO b1.1)),(3,ElO 29 (ChO b3.1)),(14,ElO 44 (G2A r1.2.1)),(22,ElO 36 (TkO goT)),(23,ElO 36 (TkO leT)),(24,ElO 36 (TkO baT)),(2,In b1.2),(4,In b3.2),(5,Bo k1.1),(6,In k1.2),(7,Bo k2.1),(8,In k2.2),(10,In k3.2),(11,(SlO 50 [U32] (n1.1.map REA) True).va),(12,In n1.2),(13,In r1.1),(15,In r1.2.2),(18,In r2.2.2),(21,In r3.2.2),(25,ElO 36 (TkO chT)),(26,ElO 36 (TkO twT))] U hnd ⟨aZ U 0 G (cH (UpA.wk cho_A (fM _))),aZ U 1 G (cH (UpA.wk cho_A (fM _))),aZ U 2 G (cH (upA_g2 _)),aZ U 3 G (cH (UpA.wk tko_A (cp _))),aZ U 4 G (cH (UpA.wk tko_A (cp _))),aZ U 5 G (cH (UpA.wk tko_A (cp _))),aZ U 6 G (λ _ _ _ _ h=>h),aZ U 7 G (λ _ _ _ _ h=>h),aZ U 8 G (λ _ _ _ _ h=>h),aZ U 9 G (λ _ _ _ _ h=>h),aZ U 10 G (λ _ _ _ _ h=>h),aZ U 11 G (λ _ _ _ _ h=>h),aZ U 12 G (λ _ _ _ _ h=>h),aZ U 13 G (UpA.wk slo_A (upA_el _)).va,aZ U 14 G (λ _ _ _ _ h=>h),aZ U 15 G (λ _ _ _ _ h=>h),aZ U 16 G (λ _ _ _ _ h=>h),aZ U 17 G (λ _ _ _ _ h=>h),aZ U 18 G (λ _ _ _ _ h=>h),aZ U 19 G (cH (UpA.wk tko_A (cp _))),ia U 0 G (upA_tkN _),trivial⟩ (λ B w0 w hnd hF0 hB U=>?_)
 have U:=zn [(1,_),(3,_),(14,_),(22,_),(23,_),(24,_),(2,_),(4,_),(5,_),(6,_),(7,_),(8,_),(10,_),(11,_),(12,_),(13,_),(15,_),(18,_),(21,_),(25,_),(26,_)] [] U
 refine zt<|zg [] [⟨27,36,ptrH,some 1,_,some (2,_)⟩] [.v 112 _,.alc 0,.sto 0] [.g 0,.g 1,.g 2,.g 3,.g 4,.g 5,.g 6,.g 7,.g 8,.g 9,.g 10,.g 11,.g 12,.g 13,.g 14,.g 15,.g 16,.g 17,.g 18,.g 19,.g 20] U (zQ G (twoN_c (n:=1) zd zd) (.cons a5 .nil) (zY G (Str.zero c5) (zS 0 G bG o0))) (zz [(1,_),(3,_),(14,_),(22,_),(23,_),(24,_),(2,_),(4,_),(5,_),(6,_),(7,_),(8,_),(10,_),(11,_),(12,_),(13,_),(15,_),(18,_),(21,_),(25,_),(26,_)] [O 27 36 _] λ a w U=>?_)
 refine zt ?_
 obtain ⟨⟨v27,d27⟩,U⟩:=St.nameF U 0 1 rfl rfl
 have U:=zn [(1,_),(3,_),(14,_),(22,_),(23,_),(24,_),(2,_),(4,_),(5,_),(6,_),(7,_),(8,_),(10,_),(11,_),(12,_),(13,_),(15,_),(18,_),(21,_),(25,_),(26,_)] [O 27 36 _] U
 have hown:=St.knowF U 0 1 rfl rfl
 obtain ⟨g27,U⟩:=St.nm U 0 rfl
 have U:=zn [(27,_),(1,_),(3,_),(14,_),(22,_),(23,_),(24,_),(2,_),(4,_),(5,_),(6,_),(7,_),(8,_),(10,_),(11,_),(12,_),(13,_),(15,_),(18,_),(21,_),(25,_),(26,_)] [O 27 36 _] U
 refine eR (sp:=[.adr 113 27 (.some 1) True,.v 114 _,.v 115 _,.v 116 _,.v 117 VT,.v 118 VT,.sto 0]) [[],[0],[],[2],[0,1,2,3],[0,1,2,3,4],[0,1,2,3,4,5]] 4 3 0 6 OneC [.g 0,.g 1,.g 2,.g 3,.g 4,.g 5,.g 6,.g 7,.g 8,.g 9,.g 10,.g 11,.g 12,.g 13,.g 14,.g 15,.g 16,.g 17,.g 18,.g 19,.g 20,.g 21,.o 1,.o 3] a8 U (zO 0 G bE (zL 0 0 1 G ek (zv G (aW (xs:=[.const (.string ⟨#[99]⟩),.const (.int .i64 3),.const (.int .i64 0)]) (dU ⟨#[99]⟩ (p:=3) (c:=0) zd zd) (.cons fp (.cons a5 (.cons a5 .nil)))) (zv G (aV (D:=[U32]) (l:=[_]) (xs:=[.tmp 115]) (bN zk) i6 zk (n_ok zk) nq nq nq (.o (vq 2 G)) G G) o0)))) G zd zd zk (fD zk) zk zk (zz [(27,_),(1,_),(3,_),(14,_),(22,_),(23,_),(24,_),(2,_),(4,_),(5,_),(6,_),(7,_),(8,_),(10,_),(11,_),(12,_),(13,_),(15,_),(18,_),(21,_),(25,_),(26,_),(114,_),(116,_)] [O 27 36 _] λ a w U=>?_)
 rw [show List.range' 4 3=[4,5,6] from rfl]
 have U:=St.wkG U 22 rfl owY_eq
 have U:=zn [(27,_),(1,_),(3,_),(14,_),(22,_),(23,_),(24,_),(2,_),(4,_),(5,_),(6,_),(7,_),(8,_),(10,_),(11,_),(12,_),(13,_),(15,_),(18,_),(21,_),(25,_),(26,_),(114,_),(116,_)] [O 27 36 _] U
 rw [qG]
 refine op_appF (f:=1) (X:=PtA (lnT ⟨#[99]⟩ 3 0)) [0,1,2,3,4,5,6,7,8,9,10,11,12,13,14,15,16,17,18,19,20,21] 22 23 0 G U G G G (iK (A:=PtA (lnT ⟨#[99]⟩ 3 0)) zk) G G zk zd zd (eN hB) Try.underlying34 p1 p2 p3 p4 p5 zd zd zd zd zk zk zk zk (λ v' w o1 o2 U=>?_)
 rw [qG]
 refine fj 1 G U bE G zd zk zk (λ a U=>?_)
 rw [qG]
 refine op_ownS (A1:=TkN (wdT 0)) [3,4,5,6,7,8,9,10,11,12,13,14,15,16,17,18,19,20,21,22,23] 0 1 2 0 G U G G G o1 o2 ek G zk zk zk (λ cs hp=>fld_own (f:=1) G G hp) (λ w U=>?_)
 refine db ?_
 have U:=zn [(1,_),(3,_),(14,_),(22,_),(23,_),(24,_),(2,_),(4,_),(5,_),(6,_),(7,_),(8,_),(10,_),(11,_),(12,_),(13,_),(15,_),(18,_),(21,_),(25,_),(26,_)] [O 27 36 _] U
 refine zt<|qt ?_
 have U:=St.sel U [0,1,2,3,4,5,6,7,8,9,10,11,12,13,14,15,16,17,18,19,20]
 refine wp_loop_ghost (λ n a w=>∃ j:Nat,n+j=10∧St B w0 254 [(1,ElO 29 (ChO b1.1)),(3,ElO 29 (ChO b3.1)),(14,ElO 44 (G2A r1.2.1)),(22,ElO 36 (TkO goT)),(23,ElO 36 (TkO leT)),(24,ElO 36 (TkO baT)),(2,In b1.2),(4,In b3.2),(5,Bo k1.1),(6,In k1.2),(7,Bo k2.1),(8,In k2.2),(10,In k3.2),(11,(SlO 50 [U32] (n1.1.map REA) True).va),(12,In n1.2),(13,In r1.1),(15,In r1.2.2),(18,In r2.2.2),(21,In r3.2.2),(25,ElO 36 (TkO chT)),(26,ElO 36 (TkO twT))] [⟨27,36,ptrH,TkN (wdT j)⟩] a w) (10) ?_ ?_
 ·exact ⟨0,by omega,U⟩
 intro n a w hI
 obtain ⟨j,hn,U⟩:=hI
 refine qb<|qb<|zg [η] [] [.adr 119 27 (.some 0) True,.v 120 _,.v 121 _,.v 122 _] [.g 0,.g 1,.g 2,.g 3,.g 4,.g 5,.g 6,.g 7,.g 8,.g 9,.g 10,.g 11,.g 12,.g 13,.g 14,.g 15,.g 16,.g 17,.g 18,.g 19,.g 20,.o 3] U (zO 0 G bF (zL 0 0 0 G el (zv G (bH Try.underlying33 (has_wk' (vq 1 G) ownC_sl)) (zv G (aY (vq 2 G) a5) o0)))) (zz [(1,_),(3,_),(14,_),(22,_),(23,_),(24,_),(2,_),(4,_),(5,_),(6,_),(7,_),(8,_),(10,_),(11,_),(12,_),(13,_),(15,_),(18,_),(21,_),(25,_),(26,_),(122,_)] [O 27 36 _] λ a w U=>?_)
 refine a4<|aa U (zm 21 G) (λ hb0=>?_) (λ hb0=>?_)
 ·have hj:j<10:=by rw [kq] at hb0; have:=qw hb0; omega
  refine qk<|a4<|qt ?_
  obtain ⟨⟨v27,d27⟩,U⟩:=St.nameF U 0 0 rfl rfl
  have U:=zn [(1,_),(3,_),(14,_),(22,_),(23,_),(24,_),(2,_),(4,_),(5,_),(6,_),(7,_),(8,_),(10,_),(11,_),(12,_),(13,_),(15,_),(18,_),(21,_),(25,_),(26,_),(122,_)] [O 27 36 _] U
  have hown:=St.knowF U 0 0 rfl rfl
  obtain ⟨g27,U⟩:=St.nm U 0 rfl
  have U:=zn [(27,_),(1,_),(3,_),(14,_),(22,_),(23,_),(24,_),(2,_),(4,_),(5,_),(6,_),(7,_),(8,_),(10,_),(11,_),(12,_),(13,_),(15,_),(18,_),(21,_),(25,_),(26,_),(122,_)] [O 27 36 _] U
  refine eR (sp:=[.adr 123 27 (.some 0) True,.v 124 _,.v 125 _,.v 126 _,.v 127 VT,.v 128 VT,.sto 0]) [[],[0],[],[2],[0,1,2,3],[0,1,2,3,4],[0,1,2,3,4,5]] 4 3 0 6 OneC [.g 0,.g 1,.g 2,.g 3,.g 4,.g 5,.g 6,.g 7,.g 8,.g 9,.g 10,.g 11,.g 12,.g 13,.g 14,.g 15,.g 16,.g 17,.g 18,.g 19,.g 20,.g 21,.o 1,.o 3] a8 U (zO 0 G bF (zL 0 0 0 G el (zQ G (aR (n:=0) zd zd) (.cons a5 .nil) (zv G (aV (D:=[U32]) (l:=[_]) (xs:=[.tmp 125]) (bN zk) dF zk (n_ok zk) nq nq nq (.o (vq 2 G)) G G) o0)))) G zd zd zk (fD zk) zk zk (zz [(27,_),(1,_),(3,_),(14,_),(22,_),(23,_),(24,_),(2,_),(4,_),(5,_),(6,_),(7,_),(8,_),(10,_),(11,_),(12,_),(13,_),(15,_),(18,_),(21,_),(25,_),(26,_),(124,_),(126,_)] [O 27 36 _] λ a w U=>?_)
  rw [show List.range' 4 3=[4,5,6] from rfl]
  have U:=St.wkG U 22 rfl owY_eq
  have U:=zn [(27,_),(1,_),(3,_),(14,_),(22,_),(23,_),(24,_),(2,_),(4,_),(5,_),(6,_),(7,_),(8,_),(10,_),(11,_),(12,_),(13,_),(15,_),(18,_),(21,_),(25,_),(26,_),(124,_),(126,_)] [O 27 36 _] U
  rw [qG]
  refine op_appF (f:=0) (X:=RFA (frI 0)) [0,1,2,3,4,5,6,7,8,9,10,11,12,13,14,15,16,17,18,19,20,21] 22 23 0 G U G G G (iK (A:=RFA (frI 0)) zk) G G zk zd zd (eN hB) Try.underlying33 f1 f2 f3 f4 f5 zd (by rw [kq]; omega) (by rw [kq]; omega) zd zk zk zk zk (λ v' w o1 o2 U=>?_)
  rw [qG]
  refine fj 1 G U bF G zd zk zk (λ a U=>?_)
  rw [qG]
  refine op_ownS (A1:=TkN (wdT (j+1))) [3,4,5,6,7,8,9,10,11,12,13,14,15,16,17,18,19,20,21,22,23] 0 1 2 0 rfl U rfl rfl rfl o1 o2 el rfl zk zk zk (λ cs hp=>by have h:=fld_own (f:=0) rfl rfl hp; rw [wd_nx] at h; exact h) (λ w U=>?_)
  refine db ?_
  have U:=zn [(1,_),(3,_),(14,_),(22,_),(23,_),(24,_),(2,_),(4,_),(5,_),(6,_),(7,_),(8,_),(10,_),(11,_),(12,_),(13,_),(15,_),(18,_),(21,_),(25,_),(26,_)] [O 27 36 _] U
  refine ai ?_
  refine a4 ?_
  have U:=St.sel U [0,1,2,3,4,5,6,7,8,9,10,11,12,13,14,15,16,17,18,19,20]
  exact ⟨n-1,by omega,j+1,by omega,U⟩
 ·obtain rfl:j=10:=by rw [kq] at hb0; have:=qx hb0; omega
  refine zf<|aj<|aj<|az<|zt ?_
  have U:=St.wkG U 0 rfl (bn (fu cho_A) il)
  have U:=St.wkG U 1 rfl (bn (fu cho_A) il)
  have U:=St.wkG U 2 rfl il
  have U:=St.wkG U 3 rfl (bn (fu tko_A) il)
  have U:=St.wkG U 4 rfl (bn (fu tko_A) il)
  have U:=St.wkG U 5 rfl (bn (fu tko_A) il)
  have U:=St.wkG U 13 rfl slo_A.va
  have U:=St.wkG U 19 rfl (bn (fu tko_A) il)
  have U:=St.wkG U 20 rfl (bn (fu tko_A) il)
  have U:=St.wkB (A':=TkA (wdT 10)) U 0 rfl (λ _ h=>tkN_A.2.2 _ _ _ h)
  have U:=zn [(1,_),(3,_),(14,_),(22,_),(23,_),(24,_),(2,_),(4,_),(5,_),(6,_),(7,_),(8,_),(10,_),(11,_),(12,_),(13,_),(15,_),(18,_),(21,_),(25,_),(26,_),(122,_)] [O 27 36 _] U
  refine gl (sts:=[none]) (news:=[]) (sp:=((.v 129 _:Sp)::(.v 130 _)::(.v 131 _)::(.t 132 _)::(.t 133 _)::(.v 134 _)::(.v 135 _)::(.t 136 _)::(.t 137 _)::(.v 138 _)::(.v 139 _)::(.t 140 _)::(.t 141 _)::(.v 142 _)::(.v 143 _)::(.t 144 _)::(.t 145 _)::(.v 146 _)::(.v 147 _)::(.t 148 _)::(.t 149 _)::(.v 150 _)::(.v 151 _)::(.t 152 _)::(.t 153 _)::(.v 154 _)::(.v 155 _)::(.t 156 _)::(.t 157 _)::(.v 158 _)::(.v 159 _)::(.t 160 _)::(.t 161 _)::(.v 162 _)::(.v 28 _)::[])) [.g 0,.g 1,.g 2,.g 3,.g 4,.g 5,.g 6,.g 7,.g 8,.g 9,.g 10,.g 11,.g 12,.g 13,.g 14,.g 15,.g 16,.g 17,.g 18,.g 19,.g 20,.o 34] U (zM 6 G (zv G (bd (vq 0 G) a5) (zv G (a7 (vq 1 G)) (zB 2 G (λ hg=>a7 (gq 7 G)) (zB 2 G (λ hg=>bd (a9 (vq 3 G) hg) a5) (zv G (bi (vq 2 G) (vq 4 G)) (zv G (a7 (vq 5 G)) (zB 6 G (λ hg=>a7 (gq 9 G)) (zB 6 G (λ hg=>bd (a9 (vq 7 G) hg) a5) (zv G (bi (vq 6 G) (vq 8 G)) (zv G (a7 (vq 9 G)) (zB 10 G (λ hg=>a7 (gq 11 G)) (zB 10 G (λ hg=>bd (a9 (vq 11 G) hg) a5) (zv G (bi (vq 10 G) (vq 12 G)) (zv G (a7 (vq 13 G)) (zB 14 G (λ hg=>a7 (gq 12 G)) (zB 14 G (λ hg=>bd (a9 (vq 15 G) hg) a5) (zv G (bi (vq 14 G) (vq 16 G)) (zv G (a7 (vq 17 G)) (zB 18 G (λ hg=>a7 (gq 14 G)) (zB 18 G (λ hg=>bd (a9 (vq 19 G) hg) a5) (zv G (bi (vq 18 G) (vq 20 G)) (zv G (a7 (vq 21 G)) (zB 22 G (λ hg=>a7 (gq 16 G)) (zB 22 G (λ hg=>bd (a9 (vq 23 G) hg) a5) (zv G (bi (vq 22 G) (vq 24 G)) (zv G (a7 (vq 25 G)) (zB 26 G (λ hg=>a7 (gq 17 G)) (zB 26 G (λ hg=>bd (a9 (vq 27 G) hg) a5) (zv G (bi (vq 26 G) (vq 28 G)) (zv G (a7 (vq 29 G)) (zB 30 G (λ hg=>a7 (gq 18 G)) (zB 30 G (λ hg=>bd (a9 (vq 31 G) hg) a5) (zv G (bi (vq 30 G) (vq 32 G)) (zA 33 G o0))))))))))))))))))))))))))))))))))) (zz [(1,_),(3,_),(14,_),(22,_),(23,_),(24,_),(2,_),(4,_),(5,_),(6,_),(7,_),(8,_),(10,_),(11,_),(12,_),(13,_),(15,_),(18,_),(21,_),(25,_),(26,_),(28,_)] [O 27 36 _] λ a w U=>?_)
  refine zt<|gC (anc:=[[],[0],[],[0,1,2],[0,1,2,3],[0,1,2,3,4],[0,1,2,3,4,5],[0,1,2,3,4,5,6],[0,1,2,3,4,5,6,7],[0,1,2,3,4,5,6,7,8],[0,1,2,3,4,5,6,7,8,9],[0,1,2,3,4,5,6,7,8,9,10],[0,1,2,3,4,5,6,7,8,9],[0,1,2,3,4,5,6,7,8,9,10,11,12],[0,1,2,3,4,5,6,7,8,9,10,11,12,13],[0,1,2,3,4,5,6,7,8,9,10,11,12,13,14],[0,1,2,3,4,5,6,7,8,9,10,11,12,13,14,15],[0,1,2,3,4,5,6,7,8,9,10,11,12,13,14,15,16],[0,1,2,3,4,5,6,7,8,9,10,11,12,13,14,15,16,17],[0,1,2,3,4,5,6,7,8,9,10,11,12,13,14,15,16,17,18],[0,1,2,3,4,5,6,7,8,9,10,11,12,13,14,15,16,17,18,19],[0,1,2,3,4,5,6,7,8,9,10,11,12,13,14,15,16,17,18,19,20],[0,1,2,3,4,5,6,7,8,9,10,11,12,13,14,15,16,17,18,19,20,21],[0,1,2,3,4,5,6,7,8,9,10,11,12,13,14,15,16,17,18,19,20,21,22],[0,1,2,3,4,5,6,7,8,9,10,11,12,13,14,15,16,17,18,19,20,21,22,23],[0,1,2,3,4,5,6,7,8,9,10,11,12,13,14,15,16,17,18,19,20,21,22,23,24],[0,1,2,3,4,5,6,7,8,9,10,11,12,13,14,15,16,17,18,19,20,21,22,23,24,25],[0,1,2,3,4,5,6,7,8,9,10,11,12,13,14,15,16,17,18,19,20,21,22,23,24,25,26],[0,1,2,3,4,5,6,7,8,9,10,11,12,13,14,15,16,17,18,19,20,21,22,23,24,25,26,27],[0,1,2,3,4,5,6,7,8,9,10,11,12,13,14,15,16,17,18,19,20,21,22,23,24,25,26,27,28],[0,1,2,3,4,5,6,7,8,9,10,11,12,13,14,15,16,17,18,19,20,21,22,23,24,25,26,27,28,29],[0,1,2,3,4,5,6,7,8,9,10,11,12,13,14,15,16,17,18,19,20,21,22,23,24,25,26,27,28,29,30],[0,1,2,3,4,5,6,7,8,9,10,11,12,13,14,15,16,17,18,19,20,21,22,23,24,25,26,27,28,29,30,31],[0,1,2,3,4,5,6,7,8,9,10,11,12,13,14,15,16,17,18,19,20,21,22,23,24,25,26,27,28,29,30,31,32],[0,1,2,3,4,5,6,7,8,9,10,11,12,13,14,15,16,17,18,19,20,21,22,23,24,25,26,27,28,29,30,31,32,33],[0,1,2,3,4,5,6,7,8,9,10,11,12,13,14,15,16,17,18,19,20,21,22,23,24,25,26,27,28,29,30,31,32,33,34],[0,1,2,3,4,5,6,7,8,9,10,11,12,13,14,15,16,17,18,19,20,21,22,23,24,25,26,27,28,29,30,31,32,33,34,35],[0,1,2,3,4,5,6,7,8,9,10,11,12,13,14,15,16,17,18,19,20,21,22,23,24,25,26,27,28,29,30,31,32,33,34,35,36],[0,1,2,3,4,5,6,7,8,9,10,11,12,13,14,15,16,17,18,19,20,21,22,23,24,25,26,27,28,29,30,31,32,33,34,35,36,37],[0,1,2,3,4,5,6,7,8,9,10,11,12,13,14,15,16,17,18,19,20,21,22,23,24,25,26,27,28,29,30,31,32,33,34,35,36,37,38],[0,1,2,3,4,5,6,7,8,9,10,11,12,13,14,15,16,17,18,19,20,21,22,23,24,25,26,27,28,29,30,31,32,33,34,35,36,37,38,39],[0,1,2,3,4,5,6,7,8,9,10,11,12,13,14,15,16,17,18,19,20,21,22,23,24,25,26,27,28,29,30,31,32,33,34,35,36,37,38,39,40],[0,1,2,3,4,5,6,7,8,9,10,11,12,13,14,15,16,17,18,19,20,21,22,23,24,25,26,27,28,29,30,31,32,33,34,35,36,37,38,39,40,41],[0,1,2,3,4,5,6,7,8,9,10,11,12,13,14,15,16,17,18,19,20,21,22,23,24,25,26,27,28,29,30,31,32,33,34,35,36,37,38,39,40,41,42],[0,1,2,3,4,5,6,7,8,9,10,11,12,13,14,15,16,17,18,19,20,21,22,23,24,25,26,27,28,29,30,31,32,33,34,35,36,37,38,39,40,41,42,43],[0,1,2,3,4,5,6,7,8,9,10,11,12,13,14,15,16,17,18,19,20,21,22,23,24,25,26,27,28,29,30,31,32,33,34,35,36,37,38,39,40,41,42,43,44],[0,1,2,3,4,5,6,7,8,9,10,11,12,13,14,15,16,17,18,19,20,21,22,23,24,25,26,27,28,29,30,31,32,33,34,35,36,37,38,39,40,41,42,43,44,45],[0,1,2,3,4,5,6,7,8,9,10,11,12,13,14,15,16,17,18,19,20,21,22,23,24,25,26,27,28,29,30,31,32,33,34,35,36,37,38,39,40,41,42,43,44,45,46],[0,1,2,3,4,5,6,7,8,9,10,11,12,13,14,15,16,17,18,19,20,21,22,23,24,25,26,27,28,29,30,31,32,33,34,35,36,37,38,39,40,41,42,43,44,45],[0,1,2,3,4,5,6,7,8,9,10,11,12,13,14,15,16,17,18,19,20,21,22,23,24,25,26,27,28,29,30,31,32,33,34,35,36,37,38,39,40,41,42,43,44,45,46,47,48],[0,1,2,3,4,5,6,7,8,9,10,11,12,13,14,15,16,17,18,19,20,21,22,23,24,25,26,27,28,29,30,31,32,33,34,35,36,37,38,39,40,41,42,43,44,45,46,47,48,49],[0,1,2,3,4,5,6,7,8,9,10,11,12,13,14,15,16,17,18,19,20,21,22,23,24,25,26,27,28,29,30,31,32,33,34,35,36,37,38,39,40,41,42,43,44,45,46,47,48,49,50]]) (sts:=[none]) (news:=[]) (sp:=((.v 163 _:Sp)::(.v 164 _)::(.v 165 _)::(.v 166 _)::(.v 167 _)::(.t 168 _)::(.t 169 _)::(.t 170 _)::(.v 171 _)::(.v 172 _)::(.t 173 _)::(.t 174 _)::(.t 175 _)::(.t 176 _)::(.v 177 _)::(.v 178 _)::(.t 179 _)::(.v 180 _)::(.v 181 _)::(.t 182 _)::(.t 183 _)::(.v 184 _)::(.v 185 _)::(.t 186 _)::(.t 187 _)::(.t 188 _)::(.v 189 _)::(.v 190 _)::(.t 191 _)::(.t 192 _)::(.t 193 _)::(.t 194 _)::(.t 195 _)::(.v 196 _)::(.v 197 _)::(.t 198 _)::(.t 199 _)::(.t 200 _)::(.t 201 _)::(.t 202 _)::(.v 203 _)::(.v 204 _)::(.t 205 _)::(.t 206 _)::(.v 207 _)::(.v 208 _)::(.t 209 _)::(.t 210 _)::(.t 211 _)::(.t 212 _)::(.v 213 _)::(.v 29 _)::[])) [.g 0,.g 1,.g 2,.g 3,.g 4,.g 5,.g 6,.g 7,.g 8,.g 9,.g 10,.g 11,.g 12,.g 13,.g 14,.g 15,.g 16,.g 17,.g 18,.g 19,.g 20,.g 21,.o 51] a8 U (zv G (bv (gq 0 G) gI (Sub.part 0 G G)) (zv G (al (vq 0 G) dD) (zv G (aV (D:=[]) (l:=[_,_]) (xs:=[.const (.int .i64 (1)),.const (.int .i64 (1))]) (bN zk) cD zk (n_ok zk) nq nq nq (.cons a5 (.cons a5 .nil)) G G) (zQ G (fe _ [1,1]) (.p (vq 1 G) (vq 2 G)) (zv G (a7 (vq 3 G)) (zB 4 G (λ hg=>bv (gq 0 G) fld_29_2 (Sub.part 2 G G)) (zB 4 G (λ hg=>al (a9 (vq 5 G) hg) ty_3) (zB 4 G (λ hg=>bd (a9 (vq 6 G) hg) a5) (zv G (bi (vq 4 G) (vq 7 G)) (zv G (a7 (vq 8 G)) (zB 9 G (λ hg=>bv (gq 1 G) gI (Sub.part 0 G G)) (zB 9 G (λ hg=>al (a9 (vq 10 G) hg) dD) (zB 9 G (λ hg=>aV (D:=[]) (l:=[_,_]) (xs:=[.const (.int .i64 (0)),.const (.int .i64 (1))]) (bN zk) cD zk (n_ok zk) nq nq nq (.cons a5 (.cons a5 .nil)) G G) (zB 9 G (λ hg=>aW (fe _ [0,1]) (.p (a9 (vq 11 G) hg) (a9 (vq 12 G) hg))) (zv G (bi (vq 9 G) (vq 13 G)) (zv G (a7 (vq 14 G)) (zB 15 G (λ hg=>a7 (gq 8 G)) (zv G (bi (vq 15 G) (vq 16 G)) (zv G (a7 (vq 17 G)) (zB 18 G (λ hg=>a7 (gq 10 G)) (zB 18 G (λ hg=>fh (a9 (vq 19 G) hg)) (zv G (bi (vq 18 G) (vq 20 G)) (zv G (a7 (vq 21 G)) (zB 22 G (λ hg=>a7 (gq 13 G)) (zB 22 G (λ hg=>bH Try.underlying40 (a9 (vq 23 G) hg)) (zB 22 G (λ hg=>bd (a9 (vq 24 G) hg) a5) (zv G (bi (vq 22 G) (vq 25 G)) (zv G (a7 (vq 26 G)) (zB 27 G (λ hg=>a7 (gq 13 G)) (zB 27 G (λ hg=>cy sl_40 (cE λ _=>rfl) (a9 (vq 28 G) hg) (aB 0 G) (eW_at e6).1) (zB 27 G (λ hg=>bv (a9 (vq 29 G) hg) dn (Sub.part 0 G G)) (zB 27 G (λ hg=>al (a9 (vq 30 G) hg) ty_48) (zB 27 G (λ hg=>bd (a9 (vq 31 G) hg) a5) (zv G (bi (vq 27 G) (vq 32 G)) (zv G (a7 (vq 33 G)) (zB 34 G (λ hg=>a7 (gq 13 G)) (zB 34 G (λ hg=>cy sl_40 (cE λ _=>rfl) (a9 (vq 35 G) hg) (aB 3 G) (eW_at e6).2) (zB 34 G (λ hg=>bv (a9 (vq 36 G) hg) dn (Sub.part 0 G G)) (zB 34 G (λ hg=>al (a9 (vq 37 G) hg) ty_48) (zB 34 G (λ hg=>bd (a9 (vq 38 G) hg) a5) (zv G (bi (vq 34 G) (vq 39 G)) (zv G (a7 (vq 40 G)) (zB 41 G (λ hg=>a7 (gq 15 G)) (zB 41 G (λ hg=>bd (a9 (vq 42 G) hg) a5) (zv G (bi (vq 41 G) (vq 43 G)) (zv G (a7 (vq 44 G)) (zB 45 G (λ hg=>bv (gq 2 G) dp (Sub.part 1 G G)) (zB 45 G (λ hg=>al (a9 (vq 46 G) hg) ar) (zB 45 G (λ hg=>aW (aR (n:=0) zd zd) (.cons a5 .nil)) (zB 45 G (λ hg=>aW (dg _ _) (.p (a9 (vq 47 G) hg) (a9 (vq 48 G) hg))) (zv G (bi (vq 45 G) (vq 49 G)) (zA 50 G o0)))))))))))))))))))))))))))))))))))))))))))))))))))) zk zk zk zk (zz [(1,_),(3,_),(14,_),(22,_),(23,_),(24,_),(2,_),(4,_),(5,_),(6,_),(7,_),(8,_),(10,_),(11,_),(12,_),(13,_),(15,_),(18,_),(21,_),(25,_),(26,_),(28,_),(29,_)] [O 27 36 _] λ a w U=>?_)
  refine zt<|gl (sts:=[none]) (news:=[]) (sp:=((.v 214 _:Sp)::(.v 215 _)::(.v 216 _)::(.v 217 _)::(.t 218 _)::(.t 219 _)::(.t 220 _)::(.v 221 _)::(.v 222 _)::(.t 223 _)::(.t 224 _)::(.t 225 _)::(.v 226 _)::(.v 227 _)::(.t 228 _)::(.t 229 _)::(.t 230 _)::(.v 231 _)::(.v 232 _)::(.t 233 _)::(.t 234 _)::(.t 235 _)::(.v 236 _)::(.v 237 _)::(.t 238 _)::(.t 239 _)::(.t 240 _)::(.v 241 _)::(.v 30 _)::[])) [.g 0,.g 1,.g 2,.g 3,.g 4,.g 5,.g 6,.g 7,.g 8,.g 9,.g 10,.g 11,.g 12,.g 13,.g 14,.g 15,.g 16,.g 17,.g 18,.g 19,.g 20,.g 21,.g 22,.o 28] U (zv G (al (gq 3 G) bG) (zQ G (c6 _) (.o (vq 0 G)) (zv G (bd (vq 1 G) a5) (zv G (a7 (vq 2 G)) (zB 3 G (λ hg=>al (gq 4 G) bG) (zB 3 G (λ hg=>aW (c6 _) (.o (a9 (vq 4 G) hg))) (zB 3 G (λ hg=>bd (a9 (vq 5 G) hg) a5) (zv G (bi (vq 3 G) (vq 6 G)) (zv G (a7 (vq 7 G)) (zB 8 G (λ hg=>al (gq 5 G) bG) (zB 8 G (λ hg=>aW (c6 _) (.o (a9 (vq 9 G) hg))) (zB 8 G (λ hg=>bd (a9 (vq 10 G) hg) a5) (zv G (bi (vq 8 G) (vq 11 G)) (zv G (a7 (vq 12 G)) (zB 13 G (λ hg=>al (gq 19 G) bG) (zB 13 G (λ hg=>aW (c6 _) (.o (a9 (vq 14 G) hg))) (zB 13 G (λ hg=>bd (a9 (vq 15 G) hg) a5) (zv G (bi (vq 13 G) (vq 16 G)) (zv G (a7 (vq 17 G)) (zB 18 G (λ hg=>al (gq 20 G) bG) (zB 18 G (λ hg=>aW (c6 _) (.o (a9 (vq 19 G) hg))) (zB 18 G (λ hg=>bd (a9 (vq 20 G) hg) a5) (zv G (bi (vq 18 G) (vq 21 G)) (zv G (a7 (vq 22 G)) (zB 23 G (λ hg=>d0 (lz0 0 G) bG) (zB 23 G (λ hg=>aW (c6 _) (.o (a9 (vq 24 G) hg))) (zB 23 G (λ hg=>bd (a9 (vq 25 G) hg) a5) (zv G (bi (vq 23 G) (vq 26 G)) (zA 27 G o0))))))))))))))))))))))))))))) (zz [(1,_),(3,_),(14,_),(22,_),(23,_),(24,_),(2,_),(4,_),(5,_),(6,_),(7,_),(8,_),(10,_),(11,_),(12,_),(13,_),(15,_),(18,_),(21,_),(25,_),(26,_),(28,_),(29,_),(30,_)] [O 27 36 _] λ a w U=>?_)
  refine zt<|zg [η] [] [.v 242 _,.t 243 _,.v 244 _,.v 245 _,.t 246 _,.v 247 _,.v 248 _,.t 249 _,.v 250 _,.v 251 _,.t 252 _,.v 253 _,.v 0 _] [.g 0,.g 1,.g 2,.g 3,.g 4,.g 5,.g 6,.g 7,.g 8,.g 9,.g 10,.g 11,.g 12,.g 13,.g 14,.g 15,.g 16,.g 17,.g 18,.g 19,.g 20,.o 12] U (zv G (a7 aE) (zB 0 G (λ hg=>aW lives26_c .nil) (zv G (bi (vq 0 G) (vq 1 G)) (zv G (a7 (vq 2 G)) (zB 3 G (λ hg=>a7 (gq 21 G)) (zv G (bi (vq 3 G) (vq 4 G)) (zv G (a7 (vq 5 G)) (zB 6 G (λ hg=>a7 (gq 22 G)) (zv G (bi (vq 6 G) (vq 7 G)) (zv G (a7 (vq 8 G)) (zB 9 G (λ hg=>a7 (gq 23 G)) (zv G (bi (vq 9 G) (vq 10 G)) (zA 11 G o0))))))))))))) (zz [(1,_),(3,_),(14,_),(22,_),(23,_),(24,_),(2,_),(4,_),(5,_),(6,_),(7,_),(8,_),(10,_),(11,_),(12,_),(13,_),(15,_),(18,_),(21,_),(25,_),(26,_),(0,_)] [O 27 36 _] λ a w U=>?_)
  refine a4<|qh<|an ?_ (ae G U (zm 21 G))
  subst e1 e2 e3 e4 e5 e6 e7 e8 e9
  exact cd (qu Bo zk)
open Go.ChangeShapes Go.WideShapes Go.ChangeAt
open Go.ChangeMaps (open_string shut_string)
theorem own:ownKnob Try.prog.godebug=none:=by kernel_rfl
theorem laidOut:laidOutB Try.prog=true:=by kernel_rfl
theorem lifted (os:Os)(started:os.Started)(H:Type)(enc:TypeId × Value→H) :
  ReturnsInHanded {} Try.checked os 3 .any (Rows.searchNamesSpec.pre6 enc Try.prog Try.f3 Rows.searchNamesRow.domain false) (Rows.searchNamesSpec.post enc Try.prog Try.f3 false true false false):=by
 refine returnsInHanded_of_change (C:=Try.checked) own started zk Try.func3
  (ChangeSpec.witness6 (enc:=enc) (C:=Try.checked) false ⟨#[],#[],[]⟩ 8 zk zk zk zk) ?_
 intro W base args ds gs before hval0 hW hcnd _
 have hval:∀ (j:Nat) t v,Try.f3.params[j]?=some t→args[j]?=some v→Value.okWide Try.prog W .any base t v:=hval0
 have hW':=hW
 obtain ⟨p,q,hA0,hV,rfl,hfz,hnd⟩:=hW
 have hA:DataW.TrodAll enc Try.prog W 0 (λ _=>true) true Try.f3.params.toList args.toList ds p:=hA0
 rw [Try.params3] at hA hval
 obtain ⟨hargs,rfl,rfl⟩:=trodAll_nil hA
 obtain rfl:args = #[]:=by cases args; simp_all
 obtain ⟨rfl,rfl⟩:=trodVars_none hV
 clear hA0 hval0
 refine ((gh G G G G G G G G G).2 W.heap.size W [] (qf _) .nil).mono λ e W' ⟨v,he,hv,bel⟩=>?_
 have hv':=cm hv
 subst hv' he
 exact ⟨_,rfl,_,_,_,[],_,[],hW',trodAll_mk1 (shut_bool Try.underlying4 _),trodAll_mk0,rfl,bel.frame _,λ h=>by cases h⟩
theorem over:Rows.searchNamesRow.holds Try.pinned (OpenSpec.ofChange Rows.searchNamesSpec) :=
 OpenClaim.holds_of_wide 3 Try.f3 rfl rfl rfl rfl rfl rfl rfl ⟨rfl,rfl,rfl,rfl,rfl⟩ rfl rfl rfl rfl rfl zk Try.func3 zk
  (qw zk) (by unfold Func.isWrapper; rw [qm (qx zk)]; exact ⟨rfl,rfl⟩)
  (λ os started H enc _=>lifted os started H enc)
theorem provedSearchNames:Rows.SearchNamesSaid:=over
#print axioms provedSearchNames
end Go.Proofs.Ytlakjmncfooodaa
