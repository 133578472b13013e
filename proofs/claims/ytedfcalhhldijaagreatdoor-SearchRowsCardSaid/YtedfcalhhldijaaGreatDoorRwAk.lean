import Derived.Test.YtedfcalhhldijaaGreatDoorRwAg
set_option linter.all false
set_option maxRecDepth 100000
namespace Go.Proofs.YtedfcalhhldijaaGreatDoor
open Go Go.RowKit
variable {w:World}{B:Nat}{a:Act}{v:Value}{T:TypeId}{w0:Bs}{Γ:List (Nat × VA)}{Λ:List Lc}{ps:String}{af:Array Edge}{vr:Value}{H:Hd}{cs:List Value}{w':World}{P:Program}{D:List TypeId}
theorem uC (A:Option Addr)(c:Nat)(w:World):Calls Tryz.prog 236 #[.slice A 0 c] w λ e w'=>e=.returned (.slice A 0 c)∧w=w':=by
 go_enter Tryz.func236,Tryz.ntmps236
 go_wp2
 go_loop [0] (λ v=>v=.slice A 0 c) (λ _=>0)
 case atStart=>rfl
 case round =>
  subst hrel
  go_wp2
  go_ret
  exact ⟨rfl,rfl⟩
theorem sT (b o c:Nat)(l:List Nat)(w:World)(hc:∀ j (h:j<l.length),w.cell? ⟨b,o+j,none⟩=some (.int .u32 (l[j]:Nat)))(hm:l.length≤9223372036854775807)(hnc:l.length≤c) :
  Calls Tryz.prog 236 #[.slice (some ⟨b,o,none⟩) l.length c] w λ e w'=>e=.returned (.slice (some ⟨b,o,none⟩) (trimL l).length c)∧w=w':=by
 obtain ⟨n,hn⟩:∃ n,n=l.length:=⟨_,rfl⟩
 rw [← hn] at hm hnc ⊢
 have HN:Hid (n=l.length):=hn
 clear hn
 go_enter Tryz.func236,Tryz.ntmps236
 go_wp2
 go_loop [0] (λ v=>∃ k:Nat,k≤n∧v=.slice (some ⟨b,o,none⟩) k c∧trimL (l.take k)=trimL l) (λ v=>lenOf v)
 case atStart=>exact ⟨n,qi _,rfl,by rw [qD (xp HN.out.symm)]⟩
 case round =>
  obtain ⟨k,hk,rfl,ht⟩:=hrel
  have HT:Hid (trimL (l.take k)=trimL l):=ht
  clear ht
  cases k with
  | zero =>
   go_wp2
   go_ret
   exact ⟨by rw [← HT.out]; simp [trimL],rfl⟩
  | succ k =>
   have hkl:k<l.length:=by rw [← HN.out]; omega
   obtain ⟨x,hx⟩:∃ x,x=l[k]:=⟨_,rfl⟩
   have hcell:=hc k hkl
   rw [← hx] at hcell
   clear hc
   have HX:Hid (x=l[k]):=hx
   clear hx
   by_cases hz:x=0
   ·subst hz
    go_wp2
    go_round
    case rel=>exact ⟨k,by omega,rfl,by rw [← HT.out,lI hkl HX.out.symm]⟩
    case measure=>simp [lenOf]
   ·have hz':((x:Int)==0)=false:=by simp; omega
    go_wp2
    go_ret
    refine ⟨?_,rfl⟩
    rw [← HT.out,lH hkl (by rw [← HX.out]; exact hz),qY,xl zo]
    rfl
theorem dJ {M:List Nat→As}(hM:Fam M)(l:List Nat):Cn Tryz.prog 236 [(M l).va] (M (trimL l)).va:=by
 refine ⟨gc Tryz.func236 zk zk,λ B w args hB ha=>?_⟩
 obtain ⟨v,rfl,hv⟩:=ha.one
 obtain ⟨A,c,rfl,hm,htk⟩:=hM.op _ _ _ _ hv
 have hsh:∀ A',A'=A→(M (trimL l)).va.p B (.slice A' (trimL l).length c) w:=by
  rintro _ rfl
  have:=htk (trimL l).length
  rwa [← gr] at this
 by_cases h0:l.length=0
 ·have hl:l=[]:=z8 h0
  subst hl
  refine (uC A c w).mono λ e w' ⟨he,hw⟩=>?_
  subst hw
  exact ⟨_,he,hsh A rfl,Grow.refl w⟩
 ·obtain ⟨b,o,rfl,h1,h2,h3⟩:=hm.at_ zo
  refine (sT b o c l w h3 (by have:=hm.le; have:=hm.max; unfold maxLen at this; omega) hm.le).mono λ e w' ⟨he,hw⟩=>?_
  subst hw
  exact ⟨_,he,hsh _ rfl,Grow.refl w⟩
theorem bY (neg:Bool)(l:List Nat):Cn Tryz.prog 208 [Bo neg,(MgA l).va] ((RIA (rsig neg l)).va):=by
 refine Cn.intro Tryz.func208 G zk nq (λ B w0 a U=>?_)
 have U:=zn [(0,Bo neg),(1,(MgA l).va)] [] U
 refine qb<|zg [] [⟨4,26,ptrH,some 0,_,none⟩] [.alc 0] [.g 0,.g 1] U (zY G (Str.zero (cj famA)) o0) (zz [(0,_),(1,_)] [O 4 26 _] λ a w U=>?_)
 refine zt<|zg [η] [] [.v 5 _,.v 6 _,.v 1 _] [.g 0,.o 2] U (zM 1 G (zQ G (dJ famA _) (.o (vq 0 G)) (zA 1 G o0))) (zz [(0,_),(1,_)] [O 4 26 _] λ a w U=>?_)
 refine zt<|qb<|zg [η] [] [.v 7 _,.v 8 _,.v 9 _] [.g 0,.g 1,.o 2] U (zM 1 G (zv G (aI Tryz.underlying24 (vq 0 G)) (zv G (bC (vq 1 G) ab) o0))) (zz [(0,_),(1,_),(9,_)] [O 4 26 _] λ a w U=>?_)
 refine aa<|aj U (zm 2 G) (λ hb0=>?_) (λ hb0=>?_)
 ·refine qb<|zg [some (1,_)] [] [.v 10 _,.sto 0] [.g 0,.g 1] U (zv G (aU (qs:=[]) (cj famA) .nil) (zS 0 G ar o0)) (zz [(0,_),(1,_)] [O 4 26 _] λ a w U=>?_)
  refine aa<|qg<|al ?_
  refine aC ?_ (aA G U (zm 0 G) ar)
  exact ez (M:=MgA) hb0
 ·refine qh<|zt<|zg [some (3,_)] [] [.v 11 _,.v 12 _,.v 13 _,.sto 0] [] U (zM 0 G (zM 1 G (zv G (aU (qs:=[(0,_),(1,_)]) (cj famA) (.cons ⟨rfl,vq 0 rfl,rfl⟩ (.cons ⟨rfl,vq 1 rfl,rfl⟩ .nil))) (zS 2 G ar o0)))) (zz [] [O 4 26 _] λ a w U=>?_)
  refine aa<|qg<|aC ?_ (aA G U (zm 0 G) ar)
  exact fI (M:=MgA) hb0
theorem sU (neg:Bool)(l:List Nat):Cn Tryz.prog 208 [Bo neg,(MgN l).va] ((RIN (rsig neg l)).va):=by
 refine Cn.intro Tryz.func208 G zk nq (λ B w0 a U=>?_)
 have U:=zn [(0,Bo neg),(1,(MgN l).va)] [] U
 refine qb<|zg [] [⟨4,26,ptrH,some 0,_,none⟩] [.alc 0] [.g 0,.g 1] U (zY G (Str.zero (cj famN)) o0) (zz [(0,_),(1,_)] [O 4 26 _] λ a w U=>?_)
 refine zt<|zg [η] [] [.v 5 _,.v 6 _,.v 1 _] [.g 0,.o 2] U (zM 1 G (zQ G (dJ famN _) (.o (vq 0 G)) (zA 1 G o0))) (zz [(0,_),(1,_)] [O 4 26 _] λ a w U=>?_)
 refine zt<|qb<|zg [η] [] [.v 7 _,.v 8 _,.v 9 _] [.g 0,.g 1,.o 2] U (zM 1 G (zv G (aI Tryz.underlying24 (pA (vq 0 G))) (zv G (bC (vq 1 G) ab) o0))) (zz [(0,_),(1,_),(9,_)] [O 4 26 _] λ a w U=>?_)
 refine aa<|aj U (zm 2 G) (λ hb0=>?_) (λ hb0=>?_)
 ·refine qb<|zg [some (1,_)] [] [.v 10 _,.sto 0] [.g 0,.g 1] U (zv G (aU (qs:=[]) (cj famN) .nil) (zS 0 G ar o0)) (zz [(0,_),(1,_)] [O 4 26 _] λ a w U=>?_)
  refine aa<|qg<|al ?_
  refine aC ?_ (aA G U (zm 0 G) ar)
  exact ez (M:=MgN) hb0
 ·refine qh<|zt<|zg [some (3,_)] [] [.v 11 _,.v 12 _,.v 13 _,.sto 0] [] U (zM 0 G (zM 1 G (zv G (aU (qs:=[(0,_),(1,_)]) (cj famN) (.cons ⟨rfl,vq 0 rfl,rfl⟩ (.cons ⟨rfl,vq 1 rfl,rfl⟩ .nil))) (zS 2 G ar o0)))) (zz [] [O 4 26 _] λ a w U=>?_)
  refine aa<|qg<|aC ?_ (aA G U (zm 0 G) ar)
  exact fI (M:=MgN) hb0
def cmL (l m:List Nat):Int:=if l.length≠m.length then (if l.length<m.length then -1 else 1) else if val l<val m then -1 else if val m<val l then 1 else 0
theorem cm_e0 {l m:List Nat}(h:((l.length:Int) != (m.length:Int))=true)(h2:decide ((l.length:Int)<(m.length:Int))=true):(-1:Int)=cmL l m:=by
 have h':l.length≠m.length:=by simp at h; omega
 unfold cmL
 rw [qz h',qz (by simp at h2; omega)]
theorem cm_e1 {l m:List Nat}(h:((l.length:Int) != (m.length:Int))=true)(h2:decide ((l.length:Int)<(m.length:Int))=false):(1:Int)=cmL l m:=by
 have h':l.length≠m.length:=by simp at h; omega
 unfold cmL
 rw [qz h',qw (by simp at h2; omega)]
theorem cm_e2 {l m:List Nat}{j:Nat}(ha:okL l)(hl:l.length=m.length)(hj:j<l.length)(hd:l.drop (j+1)=m.drop (j+1))(h:decide (((l[j]:Nat):Int)<((m[j]'zo:Nat):Int))=true):(-1:Int)=cmL l m:=by
 have:=rl (a:=l) (b:=m) ha hj zo hd (by simpa using h)
 unfold cmL
 rw [qw zo,qz this]
theorem cm_e3 {l m:List Nat}{j:Nat}(hb:okL m)(hl:l.length=m.length)(hj:j<l.length)(hd:l.drop (j+1)=m.drop (j+1))(h:decide (((l[j]:Nat):Int)>((m[j]'zo:Nat):Int))=true):(1:Int)=cmL l m:=by
 have:=rl (a:=m) (b:=l) hb zo hj hd.symm (by simpa using h)
 unfold cmL
 rw [qw zo,qw zo,qz this]
theorem cm_e4 {l m:List Nat}(hd:l.drop 0=m.drop 0):(0:Int)=cmL l m:=by
 have:l=m:=by simpa using hd
 subst this
 simp [cmL]
theorem nN (l m:List Nat):Cn Tryz.prog 234 [(MgA l).va,(MgA m).va] (In (cmL l m)):=by
 refine Cn.intro Tryz.func234 G zk nq (λ B w0 a U=>?_)
 have U:=zn [(0,(MgA l).va),(1,(MgA m).va)] [] U
 obtain ⟨ha,hla⟩:=U.mag 0 rfl; obtain ⟨hb,hlb⟩:=U.mag 1 rfl
 refine qb<|zh [.v 4 _] [.g 0,.g 1,.o 0] U (zv G (ac ab) o0) (zz [(0,_),(1,_),(4,_)] [] λ a w U=>?_)
 refine zt<|qb<|zh [.v 6 _,.v 7 _,.v 8 _,.v 9 _,.v 10 _] [.g 0,.g 1,.g 2,.o 4] U (zM 0 G (zv G (aI Tryz.underlying24 (vq 0 G)) (zM 1 G (zv G (aI Tryz.underlying24 (vq 2 G)) (zv G (bX (vq 1 G) (vq 3 G)) o0))))) (zz [(0,_),(1,_),(4,_),(10,_)] [] λ a w U=>?_)
 refine aa<|aj U (zm 3 G) (λ hb0=>?_) (λ hb0=>?_)
 ·refine qb<|qb<|zh [.v 11 _,.v 12 _,.v 13 _,.v 14 _,.v 15 _] [.g 0,.g 1,.g 2,.o 4] U (zM 0 G (zv G (aI Tryz.underlying24 (vq 0 G)) (zM 1 G (zv G (aI Tryz.underlying24 (vq 2 G)) (zv G (aS (vq 1 G) (vq 3 G)) o0))))) (zz [(0,_),(1,_),(4,_),(15,_)] [] λ a w U=>?_)
  refine aa<|aj U (zm 3 G) (λ hb1=>?_) (λ hb1=>?_)
  ·refine qb<|zh [.v 4 _] [.g 0,.g 1,.o 0] U (zv G (ac ab) o0) (zz [(0,_),(1,_),(4,_)] [] λ a w U=>?_)
   refine aa<|qg<|al ?_
   refine al ?_
   refine aC ?_ (an G U (zm 2 G))
   exact nu (cm_e0 hb0 hb1)
  ·refine qh<|zt<|zh [.v 4 _] [.g 0,.g 1,.o 0] U (zv G (ac ab) o0) (zz [(0,_),(1,_),(4,_)] [] λ a w U=>?_)
   refine aa<|qg<|al ?_
   refine aC ?_ (an G U (zm 2 G))
   exact nu (cm_e1 hb0 hb1)
 ·have hl:l.length=m.length:=by simp at hb0; omega
  refine qh<|zt<|qb<|zh [.v 16 _,.v 17 _,.v 18 _,.v 5 _] [.g 0,.g 1,.g 2,.o 3] U (zM 0 G (zv G (aI Tryz.underlying24 (vq 0 G)) (zv G (c6 (vq 1 G) ab (wi64 zo zo)) (zA 2 G o0)))) (zz [(0,_),(1,_),(4,_),(5,_)] [] λ a w U=>?_)
  refine aa<|qj ?_
  have U:=St.sel U [0,1,3]
  refine wp_loop_ghost (λ n a w=>n≤l.length∧l.drop n=m.drop n∧St B w0 41 [(0,(MgA l).va),(1,(MgA m).va),(5,In ((n:Int)-1))] [] a w) (l.length) ?_ ?_
  ·exact ⟨qi _,by rw [xg,hl,xg],U⟩
  intro n a w hI
  obtain ⟨hi,hd,U⟩:=hI
  refine qb<|qb<|zh [.v 19 _,.v 20 _] [.g 0,.g 1,.g 2,.o 1] U (zM 2 G (zv G (d9 (vq 0 G) ab) o0)) (zz [(0,_),(1,_),(5,_),(20,_)] [] λ a w U=>?_)
  refine aa<|aj U (zm 3 G) (λ hb2=>?_) (λ hb2=>?_)
  ·obtain ⟨j,rfl⟩:∃ j,n=j+1:=⟨n-1,by simp at hb2; omega⟩; rw [show ((j+1:Nat):Int)-1=(j:Int) from by omega] at U
   refine qh<|zt<|qj<|qb<|qb<|zgd [[],[],[0,1],[0,1,2],[],[],[4,5],[4,5,6],[0,1,2,3,4,5,6,7]] [] [] [.v 23 _,.v 24 _,.v 25 _,.v 26 _,.v 27 _,.v 28 _,.v 29 _,.v 30 _,.v 31 _] [.g 0,.g 1,.g 2,.o 8] ae U (zM 0 G (zM 2 G (zv G (bG b9 (vq 0 G) (vq 1 G) zo) (zv G (au (vq 2 G) aO) (zM 1 G (zM 2 G (zv G (bG b9 (vq 4 G) (vq 5 G) zo) (zv G (au (vq 6 G) aO) (zv G (aS (vq 3 G) (vq 7 G)) o0))))))))) zk zk zk zk (zz [(0,_),(1,_),(5,_),(31,_)] [] λ a w U=>?_)
   refine aa<|aj U (zm 3 G) (λ hb3=>?_) (λ hb3=>?_)
   ·refine qb<|zh [.v 4 _] [.g 0,.g 1,.g 2,.o 0] U (zv G (ac ab) o0) (zz [(0,_),(1,_),(5,_),(4,_)] [] λ a w U=>?_)
    refine aa<|qg<|al ?_
    refine aE ?_
    refine al ?_
    refine al ?_
    refine aE ?_
    refine al ?_
    refine aC ?_ (an G U (zm 3 G))
    exact nu (cm_e2 ha hl zo hd hb3)
   ·refine qh<|zt<|zgd [[],[],[0,1],[0,1,2],[],[],[4,5],[4,5,6],[0,1,2,3,4,5,6,7]] [] [] [.v 32 _,.v 33 _,.v 34 _,.v 35 _,.v 36 _,.v 37 _,.v 38 _,.v 39 _,.v 40 _] [.g 0,.g 1,.g 2,.o 8] ae U (zM 0 G (zM 2 G (zv G (bG b9 (vq 0 G) (vq 1 G) zo) (zv G (au (vq 2 G) aO) (zM 1 G (zM 2 G (zv G (bG b9 (vq 4 G) (vq 5 G) zo) (zv G (au (vq 6 G) aO) (zv G (ci (vq 3 G) (vq 7 G)) o0))))))))) zk zk zk zk (zz [(0,_),(1,_),(5,_),(40,_)] [] λ a w U=>?_)
    refine aa<|aj U (zm 3 G) (λ hb4=>?_) (λ hb4=>?_)
    ·refine qb<|zh [.v 4 _] [.g 0,.g 1,.g 2,.o 0] U (zv G (ac ab) o0) (zz [(0,_),(1,_),(5,_),(4,_)] [] λ a w U=>?_)
     refine aa<|qg<|aE ?_
     refine al ?_
     refine al ?_
     refine aE ?_
     refine al ?_
     refine aC ?_ (an G U (zm 3 G))
     exact nu (cm_e3 hb hl zo hd hb4)
    ·refine qh<|ap ?_
     refine aa<|zh [.v 21 _,.v 22 _,.v 5 _] [.g 0,.g 1,.o 2] U (zM 2 G (zv G (c6 (vq 0 G) ab (wi64 zo zo)) (zA 1 G o0))) (zz [(0,_),(1,_),(5,_)] [] λ a w U=>?_)
     refine aa ?_
     have U:=St.sel U [0,1,2]
     exact ⟨j,by omega,by omega,gZ zo zo hd (by simp at hb3 hb4; omega),U⟩
  ·obtain rfl:n=0:=by simp at hb2; omega
   refine qK<|am<|am<|aB<|zt<|zh [.v 4 _] [.o 0] U (zv G (ac ab) o0) (zz [(4,_)] [] λ a w U=>?_)
   refine aa<|qg<|aC ?_ (an G U (zm 0 G))
   exact nu (cm_e4 hd)
theorem rA (x:RI):Cn Tryz.prog 225 [(RIA x).va] (In (if okRI x then 0 else 1)):=by
 refine Cn.intro Tryz.func225 G zk nq (λ B w0 a U=>?_)
 have U:=zn [(0,(RIA x).va)] [] U
 have hk:=(gy (U.vals _ (zm 0 rfl))).2
 refine qb<|zg [] [⟨1,26,ptrH,some 0,_,none⟩] [.alc 0,.v 2 _] [.o 1] U (zW 0 G (zv G (ac ab) o0)) (zz [(2,_)] [O 1 26 _] λ a w U=>?_)
 refine zt<|qb<|gl (sts:=[none]) (news:=[]) (sp:=((.adr 3 1 (.some 1) True:Sp)::(.v 4 _)::(.v 5 _)::(.v 6 _)::(.v 7 _)::(.adr 8 1 (.some 1) (_=false))::(.f 9 _)::(.f 10 _)::(.f 11 _)::(.f 12 _)::(.adr 13 1 (.some 1) ((_=false)∧_=true))::(.v 14 (Wh ((_=false)∧_=true) _))::(.adr 15 1 (.some 1) ((_=false)∧_=true))::(.v 16 (Wh ((_=false)∧_=true) _))::(.v 17 (Wh ((_=false)∧_=true) _))::(.v 18 (Wh ((_=false)∧_=true) _))::(.v 19 (Wh ((_=false)∧_=true) _))::(.v 20 (Wh ((_=false)∧_=true) _))::(.v 21 (Wh ((_=false)∧_=true) _))::(.f 22 _)::(.v 23 _)::(.v 24 _)::(.adr 25 1 (.some 1) (_=false))::(.f 26 _)::(.f 27 _)::(.f 28 _)::(.f 29 _)::(.adr 30 1 (.some 0) ((_=false)∧_=true))::(.v 31 (Wh ((_=false)∧_=true) _))::(.f 32 _)::(.v 33 _)::[])) [.g 0,.o 30] U (zO 0 G ay (zL 0 0 1 G aX (zv G (aI Tryz.underlying24 (vq 1 G)) (zv G (ci (vq 2 G) ab) (zv G (ai (vq 3 G)) (zC 4 0 G ay (zB 4 G (λ hg=>aF 5 G zk hg (lz0 0 G) (Sub.part 1 G G) aX) (zB 4 G (λ hg=>aI Tryz.underlying24 (ak (vq 6 G) hg)) (zB 4 G (λ hg=>ci (ak (vq 7 G) hg) ab) (zB 4 G (λ hg=>ai (ak (vq 8 G) hg)) (oc (gS G G G (vq 9 G) nq (λ hg=>gk (lz0 0 G) ay)) (oc (bT G G G (vq 9 G) nq (λ hg=>aF 10 G zk hg (lz0 0 G) (Sub.part 1 G G) aX)) (oc (gS G G G (vq 9 G) nq (λ hg=>gk (lz0 0 G) ay)) (oc (bT G G G (vq 9 G) nq (λ hg=>aF 12 G zk hg (lz0 0 G) (Sub.part 1 G G) aX)) (oc (bT G G G (vq 9 G) nq (λ hg=>aI Tryz.underlying24 (ak (vq 13 G) hg))) (oc (bT G G G (vq 9 G) nq (λ hg=>c6 (ak (vq 14 G) hg) ab (Ec (by have h:=hg.2; simp at h; omega) hk))) (oc (bT G G G (vq 9 G) nq (λ hg=>mr b9 (ak (vq 11 G) hg) (ak (vq 15 G) hg) (by have h:=hg.2; simp at h; omega))) (oc (bT G G G (vq 9 G) nq (λ hg=>au (ak (vq 16 G) hg) aO)) (oc (bT G G G (vq 9 G) nq (λ hg=>bC (ak (vq 17 G) hg) (aG 0 G))) (zB 4 G (λ hg=>bA (ak (vq 9 G) hg) (fu (vq 18 G) hg)) (zv G (r_or (vq 4 G) (vq 19 G)) (zv G (ai (vq 20 G)) (zC 21 0 G ay (zB 21 G (λ hg=>aF 22 G zk hg (lz0 0 G) (Sub.part 1 G G) aX) (zB 21 G (λ hg=>aI Tryz.underlying24 (ak (vq 23 G) hg)) (zB 21 G (λ hg=>bC (ak (vq 24 G) hg) ab) (zB 21 G (λ hg=>ai (ak (vq 25 G) hg)) (oc (gS G G G (vq 26 G) nq (λ hg=>gk (lz0 0 G) aV)) (oc (bT G G G (vq 26 G) nq (λ hg=>aF 27 G zk hg (lz0 0 G) (Sub.part 0 G G) ty_4)) (zB 21 G (λ hg=>bA (ak (vq 26 G) hg) (fu (vq 28 G) hg)) (zv G (r_or (vq 21 G) (vq 29 G)) o0))))))))))))))))))))))))))))))) (zz [(2,_),(33,_)] [O 1 26 _] λ a w U=>?_)
 refine aa<|aj U (zm 1 G) (λ hb0=>?_) (λ hb0=>?_)
 ·refine qb<|zg [η] [] [.v 2 _] [.o 0] U (zv G (ac ab) o0) (zz [(2,_)] [O 1 26 _] λ a w U=>?_)
  refine aa<|qg<|al ?_
  refine aC ?_ (an G U (zm 0 G))
  exact nu (sC hb0)
 ·refine qh<|zt<|zg [η] [] [.v 2 _] [.o 0] U (zv G (ac ab) o0) (zz [(2,_)] [O 1 26 _] λ a w U=>?_)
  refine aa<|qg<|aC ?_ (an G U (zm 0 G))
  exact nu (sB hb0)
theorem iM (x:RI):Cn Tryz.prog 132 [(RIA x).va] (In (sgI x)):=by
 refine Cn.intro Tryz.func132 G zk nq (λ B w0 a U=>?_)
 have U:=zn [(0,(RIA x).va)] [] U
 refine qb<|zg [] [⟨1,26,ptrH,some 0,_,none⟩] [.alc 0,.v 2 _] [.o 1] U (zW 0 G (zv G (ac ab) o0)) (zz [(2,_)] [O 1 26 _] λ a w U=>?_)
 refine zt<|qb<|zg [η] [] [.adr 3 1 (.some 1) True,.v 4 _,.v 5 _,.v 6 _] [.g 0,.o 3] U (zO 0 G ay (zL 0 0 1 G aX (zv G (aI Tryz.underlying24 (vq 1 G)) (zv G (bC (vq 2 G) ab) o0)))) (zz [(2,_),(6,_)] [O 1 26 _] λ a w U=>?_)
 refine aa<|aj U (zm 1 G) (λ hb0=>?_) (λ hb0=>?_)
 ·refine qb<|zg [η] [] [.v 2 _] [.o 0] U (zv G (ac ab) o0) (zz [(2,_)] [O 1 26 _] λ a w U=>?_)
  refine aa<|qg<|al ?_
  refine aC ?_ (an G U (zm 0 G))
  exact nu (ur hb0)
 ·refine qh<|zt<|qb<|zg [η] [] [.adr 7 1 (.some 0) True,.v 8 _] [.g 0,.o 1] U (zO 0 G aV (zL 0 0 0 G ty_4 o0)) (zz [(2,_),(8,_)] [O 1 26 _] λ a w U=>?_)
  refine aa<|aj U (zm 1 G) (λ hb1=>?_) (λ hb1=>?_)
  ·refine qb<|zg [η] [] [.v 2 _] [.o 0] U (zv G (ac ab) o0) (zz [(2,_)] [O 1 26 _] λ a w U=>?_)
   refine aa<|qg<|al ?_
   refine aC ?_ (an G U (zm 0 G))
   exact nu (uq hb0 hb1)
  ·refine qh<|zt<|zg [η] [] [.v 2 _] [.o 0] U (zv G (ac ab) o0) (zz [(2,_)] [O 1 26 _] λ a w U=>?_)
   refine aa<|qg<|aC ?_ (an G U (zm 0 G))
   exact nu (uo hb0 hb1)
theorem eK {m n:Nat}:cmL (limbs m) (limbs n)=if m<n then -1 else if n<m then 1 else 0:=by
 unfold cmL
 rw [aH,aH]
 by_cases h:(limbs m).length=(limbs n).length
 ·rw [qw zo]
 ·rw [qz h]
  by_cases h2:m≤n
  ·have:=c8 h2
   have:m≠n:=λ e=>h (by rw [e])
   rw [qz zo,qz zo]
  ·have:=c8 (zU (xO h2))
   rw [qw zo,qw zo,qz zo]
theorem iJ (p:Int):p.sign=if p<0 then -1 else if p=0 then 0 else 1:=by
 rcases j6 p 0 with h | h | h
 ·rw [qz h,xr h]
 ·subst h; rfl
 ·rw [qw zo,qw zo,xG h]
theorem rc_e0 {p q:Int}(h:(sgI (riOf p) != sgI (riOf q))=true)(h2:decide (sgI (riOf p)<sgI (riOf q))=true):(-1:Int)=sg3 p q:=by
 rw [qH,d6,d6,iJ,iJ] at h2
 unfold sg3
 rw [qz]
 split at h2 <;> split at h2 <;> (try split at h2) <;> (try split at h2) <;> omega
theorem rc_e1 {p q:Int}(h:(sgI (riOf p) != sgI (riOf q))=true)(h2:decide (sgI (riOf p)<sgI (riOf q))=false):(1:Int)=sg3 p q:=by
 rw [qk,d6,d6,iJ,iJ] at h2
 have h3:sgI (riOf p)≠sgI (riOf q):=by simpa using h
 rw [d6,d6,iJ,iJ] at h3
 unfold sg3
 rw [qw,qz] <;> (split at h2 <;> split at h2 <;> (try split at h2) <;> (try split at h2) <;> (try split at h3) <;> (try split at h3) <;> (try split at h3) <;> omega)
theorem rc_sg {p q:Int}(h:(sgI (riOf p) != sgI (riOf q))=false):(p<0↔q<0)∧(p=0↔q=0):=by
 have h3:sgI (riOf p)=sgI (riOf q):=by simpa using h
 rw [d6,d6,iJ,iJ] at h3
 split at h3 <;> split at h3 <;> (try split at h3) <;> (try split at h3) <;> omega
theorem rc_e2 {p q:Int}(h:(sgI (riOf p) != sgI (riOf q))=false)(h2:decide (sgI (riOf p)<0)=true) : -(cmL (riOf p).mag (riOf q).mag)=sg3 p q:=by
 have h1:=rc_sg h
 rw [qH,d6,iJ] at h2
 have hp:p<0:=by split at h2 <;> (try split at h2) <;> omega
 show -(cmL (limbs p.natAbs) (limbs q.natAbs))=_
 rw [eK]
 unfold sg3
 split <;> split <;> (try split) <;> omega
theorem rc_e3 {p q:Int}(h:(sgI (riOf p) != sgI (riOf q))=false)(h2:decide (sgI (riOf p)<0)=false):cmL (riOf p).mag (riOf q).mag=sg3 p q:=by
 have h1:=rc_sg h
 rw [qk,d6,iJ] at h2
 have hp:¬ p<0:=by intro hp; rw [qz hp] at h2; omega
 show cmL (limbs p.natAbs) (limbs q.natAbs)=_
 rw [eK]
 unfold sg3
 split <;> split <;> (try split) <;> omega
theorem cmL_bd (l m:List Nat) : -1≤cmL l m∧cmL l m≤1:=by
 unfold cmL
 split <;> split <;> (try split) <;> omega
theorem HO {p:Int}:(RIA (rsig (!(riOf p).neg) (riOf p).mag)).va=Zi (-p):=by
 rw [bV (mA p) (z := -p) (by rw [bv]; omega) (λ hz=>by show (!decide (p<0))=_; by_cases h:p<0 <;> simp [h] <;> omega)]
theorem size_e {p:Int}:(RIA (rsig false (riOf p).mag)).va=Zi ((p.natAbs:Nat):Int):=by
 rw [bV (mA p) (z:=((p.natAbs:Nat):Int)) (by rw [bv]; omega) (λ hz=>by simp)]
theorem F0 (p q:Int):Cn Tryz.prog 247 [Zi p,Zi q] (In (sg3 p q)):=by
 refine Cn.intro Tryz.func247 G zk nq (λ B w0 a U=>?_)
 have U:=zn [(0,Zi p),(1,Zi q)] [] U
 have hbd:=cmL_bd (riOf p).mag (riOf q).mag
 refine qb<|zg [] [⟨2,26,ptrH,some 0,_,none⟩,⟨3,26,ptrH,some 1,_,none⟩] [.alc 0,.alc 1,.v 4 _] [.o 2] U (zW 0 G (zW 1 G (zv G (ac ab) o0))) (zz [(4,_)] [O 2 26 _,O 3 26 _] λ a w U=>?_)
 refine zt<|zg [η,η] [] [.v 8 _,.v 9 _,.v 5 _] [.g 0,.o 2] U (zl 0 G ar (zQ G (iM (riOf p)) (.o (vq 0 G)) (zA 1 G o0))) (zz [(4,_),(5,_)] [O 2 26 _,O 3 26 _] λ a w U=>?_)
 refine zt<|zg [η,η] [] [.v 10 _,.v 11 _,.v 6 _] [.g 0,.g 1,.o 2] U (zl 1 G ar (zQ G (iM (riOf q)) (.o (vq 0 G)) (zA 1 G o0))) (zz [(4,_),(5,_),(6,_)] [O 2 26 _,O 3 26 _] λ a w U=>?_)
 refine zt<|qb<|zg [η,η] [] [.v 12 _,.v 13 _,.v 14 _] [.g 0,.g 1,.g 2,.o 2] U (zM 1 G (zM 2 G (zv G (bX (vq 0 G) (vq 1 G)) o0))) (zz [(4,_),(5,_),(6,_),(14,_)] [O 2 26 _,O 3 26 _] λ a w U=>?_)
 refine aa<|aj U (zm 3 G) (λ hb0=>?_) (λ hb0=>?_)
 ·refine qb<|qb<|zg [η,η] [] [.v 15 _,.v 16 _,.v 17 _] [.g 0,.g 1,.o 2] U (zM 1 G (zM 2 G (zv G (aS (vq 0 G) (vq 1 G)) o0))) (zz [(4,_),(5,_),(17,_)] [O 2 26 _,O 3 26 _] λ a w U=>?_)
  refine aa<|aj U (zm 2 G) (λ hb1=>?_) (λ hb1=>?_)
  ·refine qb<|zg [η,η] [] [.v 4 _] [.g 1,.o 0] U (zv G (ac ab) o0) (zz [(5,_),(4,_)] [O 2 26 _,O 3 26 _] λ a w U=>?_)
   refine aa<|qg<|al ?_
   refine al ?_
   refine aC ?_ (an G U (zm 1 G))
   exact nu (rc_e0 hb0 hb1)
  ·refine qh<|zt<|zg [η,η] [] [.v 4 _] [.g 1,.o 0] U (zv G (ac ab) o0) (zz [(5,_),(4,_)] [O 2 26 _,O 3 26 _] λ a w U=>?_)
   refine aa<|qg<|al ?_
   refine aC ?_ (an G U (zm 1 G))
   exact nu (rc_e1 hb0 hb1)
 ·refine qh<|zt<|zg [η,η] [] [.adr 18 2 (.some 1) True,.v 19 _,.adr 20 3 (.some 1) True,.v 21 _,.v 22 _,.v 7 _] [.g 0,.g 1,.o 5] U (zO 0 G ay (zL 0 0 1 G aX (zO 1 G ay (zL 2 1 1 G aX (zQ G (nN _ _) (.p (vq 1 G) (vq 3 G)) (zA 4 G o0)))))) (zz [(4,_),(5,_),(7,_)] [O 2 26 _,O 3 26 _] λ a w U=>?_)
  refine zt<|qb<|zg [η,η] [] [.v 23 _,.v 24 _] [.g 0,.g 2,.o 1] U (zM 1 G (zv G (aS (vq 0 G) ab) o0)) (zz [(4,_),(7,_),(24,_)] [O 2 26 _,O 3 26 _] λ a w U=>?_)
  refine aa<|aj U (zm 2 G) (λ hb2=>?_) (λ hb2=>?_)
  ·refine qb<|zg [η,η] [] [.v 25 _,.v 26 _,.v 4 _] [.g 1,.o 2] U (zM 1 G (zv G (F9 (vq 0 G) ((wi64 zo zo).trans (j3 _))) (zA 1 G o0))) (zz [(7,_),(4,_)] [O 2 26 _,O 3 26 _] λ a w U=>?_)
   refine aa<|qg<|al ?_
   refine aC ?_ (an G U (zm 1 G))
   exact nu (rc_e2 hb0 hb2)
  ·refine qh<|zt<|zg [η,η] [] [.v 27 _,.v 4 _] [.o 1] U (zM 1 G (zA 0 G o0)) (zz [(4,_)] [O 2 26 _,O 3 26 _] λ a w U=>?_)
   refine aa<|qg<|aC ?_ (an G U (zm 0 G))
   exact nu (rc_e3 hb0 hb2)
theorem Hh {p q:Int}:decide (sg3 p q<0)=decide (p<q):=by
 unfold sg3
 split
 ·rename_i h; rw [qC h]; rfl
 ·rename_i h; rw [zb h]; split <;> rfl
theorem AV (p q:Int):Cn Tryz.prog 227 [Zi p,Zi q] (Bo (decide (p<q))):=by
 refine Cn.intro Tryz.func227 G zk nq (λ B w0 a U=>?_)
 have U:=zn [(0,Zi p),(1,Zi q)] [] U
 refine qb<|zg [] [⟨2,26,ptrH,some 0,_,none⟩,⟨3,26,ptrH,some 1,_,none⟩] [.alc 0,.alc 1,.v 4 _] [.o 2] U (zW 0 G (zW 1 G (zv G (ac aJ) o0))) (zz [(4,_)] [O 2 26 _,O 3 26 _] λ a w U=>?_)
 refine zt<|zg [η,η] [] [.v 5 _,.v 6 _,.v 7 _,.v 8 _,.v 4 _] [.o 4] U (zl 0 G ar (zl 1 G ar (zQ G (F0 p q) (.p (vq 0 G) (vq 1 G)) (zv G (aS (vq 2 G) ab) (zA 3 G o0))))) (zz [(4,_)] [O 2 26 _,O 3 26 _] λ a w U=>?_)
 refine aa<|qg<|aC ?_ (an G U (zm 0 G))
 exact qm Bo Hh
theorem AS (n:Int)(h0 : -9223372036854775808≤n)(h1:n<9223372036854775808):Cn Tryz.prog 195 [In n] (Zi n):=by
 refine Cn.intro Tryz.func195 G zk nq (λ B w0 a U=>?_)
 have U:=zn [(0,In n)] [] U
 refine qb<|zg [] [⟨2,26,ptrH,some 0,_,none⟩] [.alc 0] [.g 0] U (zY G (Str.zero bn) o0) (zz [(0,_)] [O 2 26 _] λ a w U=>?_)
 refine zt<|zg [η] [] [.v 4 _,.v 5 _,.v 3 _] [.g 0,.o 2] U (zM 0 G (zv G (aK .u64 zk zk (vq 0 G) (G)) (zA 1 G o0))) (zz [(0,_),(3,_)] [O 2 26 _] λ a w U=>?_)
 refine zt<|qb<|zg [η] [] [.v 6 _,.v 7 _] [.g 0,.g 1,.o 1] U (zM 0 G (zv G (aS (vq 0 G) ab) o0)) (zz [(0,_),(3,_),(7,_)] [O 2 26 _] λ a w U=>?_)
 refine aa<|bE (λ a w =>  St B w0 20 [(0,In n),(3,(NumA .u64 (n.natAbs:Nat)).va)] [⟨2,26,ptrH,cat [BoA false,MgA []]⟩] a w) U (zm 2 G) (λ hb0=>?_) (λ hb0=>?_) (λ a w U=>?_)
 ·refine zg [η] [] [.v 8 _,.v 9 _,.v 3 _] [.g 0,.o 2] U (zM 1 G (zv G (c6 (aG 0 G) (vq 0 G) (G)) (zA 1 G o0))) (zz [(0,_),(3,_)] [O 2 26 _] λ a w U=>?_)
  refine aa ?_
  have U:=St.sel U [0,1]
  rw [show IntKind.u64.wrap (((0:Nat):Int)-IntKind.u64.wrap n)=_ from of_e0 h0 hb0] at U; exact U
 ·refine qh<|aa ?_
  have U:=St.sel U [0,1]
  rw [of_e1 h1 hb0] at U; exact U
 refine zt<|zg [some (10,_)] [] [.v 10 _,.v 11 _,.v 12 _,.v 13 _,.v 14 _,.v 15 _,.v 16 _,.v 17 _,.v 18 _,.v 19 _,.sto 0] [] U (zM 0 G (zv G (aS (vq 0 G) ab) (zM 1 G (zv G (nO (vq 2 G) (aG 4294967296 G) zd (nrem)) (zv G (aK .u32 zk zk (vq 3 G) (wu32 (qM _ zd))) (zM 1 G (zv G (lC (vq 5 G) (aG 4294967296 G) zd (nquo zo)) (zv G (aK .u32 zk zk (vq 6 G) (wu32 zo)) (zv G (cX (l:=[_,_]) (xs:=[.tmp 14,.tmp 17]) b9 zk nq nq (FC h0 h1) (.p (vq 4 G) (vq 7 G)) G G) (zQ G (bY _ _) (.p (vq 1 G) (vq 8 G)) (zS 9 G ar o0))))))))))) (zz [] [O 2 26 _] λ a w U=>?_)
 refine aa<|qg<|aC ?_ (aA G U (zm 0 G) ar)
 exact of_e2 h0 h1
theorem uB (p:Int):Cn Tryz.prog 207 [Zi p] (Zi (-p)):=by
 refine Cn.intro Tryz.func207 G zk nq (λ B w0 a U=>?_)
 have U:=zn [(0,Zi p)] [] U
 refine qb<|zg [] [⟨1,26,ptrH,some 0,_,none⟩,⟨2,26,ptrH,some 1,_,none⟩] [.alc 0,.alc 1] [] U (zW 0 G (zY G (Str.zero bn) o0)) (zz [] [O 1 26 _,O 2 26 _] λ a w U=>?_)
 refine zt<|zg [η,some (6,_)] [] [.adr 3 1 (.some 0) True,.v 4 _,.v 5 _,.adr 6 1 (.some 1) True,.v 7 _,.v 8 _,.sto 1] [] U (zO 0 G aV (zL 0 0 0 G ty_4 (zv G (dY (vq 1 G)) (zO 0 G ay (zL 3 0 1 G aX (zQ G (bY _ _) (.p (vq 2 G) (vq 4 G)) (zS 5 G ar o0))))))) (zz [] [O 1 26 _,O 2 26 _] λ a w U=>?_)
 refine aa<|qg<|aC ?_ (aA G U (zm 1 G) ar)
 exact HO
abbrev NL (l:List Nat):List As:=l.map λ (x:Nat)=>NumA .u32 (x:Int)
theorem ln:∃ it z,Tryz.prog.info? 134=some it∧it.zero=some z∧it.size=1∧it.bytes=4∧z.cells.size=1:=by
 have h:((Tryz.prog.info? 134).bind λ it=>it.zero.map λ z=>(it.size,it.bytes,z.cells.size))=some (1,4,1):=by kernel_rfl
 cases hi:Tryz.prog.info? 134 with
 | none=>rw [hi] at h; simp at h
 | some it =>
  rw [hi] at h
  cases hz:it.zero with
  | none=>simp [hz] at h
  | some z =>
   simp [hz] at h
   exact ⟨it,z,rfl,hz,h.1,h.2.1,h.2.2⟩
theorem vV {b:Nat}{l:List Nat}(ok:okL l):Wk (OwnR b U32 1 [] (NL l)) (MgA l).va:=λ B v w h=>CR ok (lR B v w h)
theorem e8 {x:Nat}(h:x<4294967296):okL [x]:=λ y hy=>by simp at hy; omega
theorem CX {l m:List Nat}{i:Nat}:sumTo l m (i+1)=sumTo l m i+4294967296^i*(l.getD i 0+m.getD i 0):=by
 unfold sumTo
 rw [dT,dT,zT]
 omega
def addN (l m:List Nat):Nat:=if val l+val m<4294967296^max l.length m.length then max l.length m.length else max l.length m.length+1
theorem mj {l m:List Nat}{i:Nat}(h:max l.length m.length≤i):sumTo l m i=val l+val m:=by
 unfold sumTo
 rw [qD zo,qD zo]
theorem CY {l m:List Nat}(hl:okL l)(hm:okL m):val l+val m<4294967296^(max l.length m.length+1):=by
 have h1:=qE (eu hl) (zx (by decide:0<4294967296) (xV l.length m.length))
 have h2:=qE (eu hm) (zx (by decide:0<4294967296) (xP l.length m.length))
 rw [qV]
 omega
structure AddI (l m:List Nat) (i:Nat):Prop where
 le:i≤max l.length m.length+1
 top:i=max l.length m.length+1→4294967296^max l.length m.length≤val l+val m
theorem AddI.more {l m:List Nat}{i:Nat}(h:AddI l m i)(hl:okL l)(hm:okL m)(hb:((decide ((i:Int)<(l.length:Int)) || decide ((i:Int)<(m.length:Int))) || decide (((sumTo l m i/4294967296^i:Nat):Int)>((0:Nat):Int)))=true):i≤max l.length m.length∧AddI l m (i+1):=by
 have h0:=h.le
 simp only [zw,qH] at hb
 have h1:i≠max l.length m.length+1:=by
  intro e
  have h3:=CY hl hm
  have h4:sumTo l m i/4294967296^i=0:=by
   rw [mj zo,e]
   exact xq h3
  rw [h4] at hb
  omega
 refine ⟨by omega,by omega,λ e=>?_⟩
 have e':i=max l.length m.length:=by omega
 have h3:0<sumTo l m i/4294967296^i:=by
  rcases hb with (hb | hb) | hb
  ·omega
  ·omega
  ·omega
 rw [mj zo,e'] at h3
 exact (Nat.div_pos_iff.1 h3).2
theorem AddI.fin {l m:List Nat}{i:Nat}(h:AddI l m i)(hl:okL l)(hm:okL m)(hb:((decide ((i:Int)<(l.length:Int)) || decide ((i:Int)<(m.length:Int))) || decide (((sumTo l m i/4294967296^i:Nat):Int)>((0:Nat):Int)))=false):digs i (sumTo l m i)=digs (addN l m) (val l+val m):=by
 simp only [qI,qk] at hb
 have h0:=h.le
 have h1:max l.length m.length≤i:=by omega
 rw [mj h1]
 rw [mj h1] at hb
 congr 1
 unfold addN
 by_cases e:i=max l.length m.length+1
 ·have:=h.top e
  rw [qw zo,e]
 ·have e':i=max l.length m.length:=by omega
  rw [qz,e']
  rw [← e']
  have hp:0<4294967296^i:=zq zd
  refine (Nat.div_eq_zero_iff_lt hp).1 ?_
  generalize (val l+val m)/4294967296^i=z at *
  omega
theorem Hr {l m:List Nat}{i:Nat}:NL (digs i (sumTo l m i))++NL [(sumTo l m i/4294967296^i+l.getD i 0+m.getD i 0)%4294967296]=NL (digs (i+1) (sumTo l m (i+1))):=by
 unfold NL
 rw [CX,dw,zF,xR]
theorem Hs {l m:List Nat}{i:Nat}:(sumTo l m i/4294967296^i+l.getD i 0+m.getD i 0)/4294967296=sumTo l m (i+1)/4294967296^(i+1):=by
 rw [CX,carry_step',xR]
theorem radd_c (l m:List Nat)(hls:l.length≤10000000000)(hms:m.length≤10000000000):Cn Tryz.prog 233 [(MgA l).va,(MgA m).va] ((MgA (digs (addN l m) (val l+val m))).va):=by
 obtain ⟨it,z,e1,e2,e3,e4,e5⟩:=ln
 refine Cn.introF Tryz.func233 G zk nq (λ B w0 a hF U=>?_)
 have U:=zn [(0,(MgA l).va),(1,(MgA m).va)] [] U
 obtain ⟨v0,hv0,U⟩:=St.eqv U 0 rfl
 obtain ⟨v1,hv1,U⟩:=St.eqv U 1 rfl
 have hl:=(dI hv0).1; have hm:=(dI hv1).1
 refine qb<|zh [.v 4 _] [.g 0,.g 1,.o 0] U (zv G (ac bc) o0) (zz [(0,_),(1,_),(4,_)] [] λ a w U=>?_)
 refine zt<|zh [.v 5 _] [.g 0,.g 1,.g 2,.o 0] U (zv G (ac bc) o0) (zz [(0,_),(1,_),(4,_),(5,_)] [] λ a w U=>?_)
 refine zt<|zh [.v 6 _] [.g 0,.g 1,.g 2,.g 3,.o 0] U (zv G (ac (aG 0 G)) o0) (zz [(0,_),(1,_),(4,_),(5,_),(6,_)] [] λ a w U=>?_)
 refine zt<|qb<|zh [.v 7 _] [.g 0,.g 1,.g 2,.g 3,.g 4,.o 0] U (zv G (ac ab) o0) (zz [(0,_),(1,_),(4,_),(5,_),(6,_),(7,_)] [] λ a w U=>?_)
 refine aa<|qj ?_
 have U:=St.sel U [0,1,3,4,5]
 refine wp_loop_ghost (λ n a w=>∃ i:Nat,(n+i=max l.length m.length+1∧AddI l m i)∧St B w0 57 [(0,EqV v0),(1,EqV v1),(5,OwnR w0.w.heap.size U32 1 [] (NL (digs i (sumTo l m i)))),(6,(NumA .u64 ((sumTo l m i/4294967296^i:Nat):Int)).va),(7,In (i:Nat))] [] a w) (max l.length m.length+1) ?_ ?_
 ·exact ⟨0,⟨rfl,⟨by omega,λ h=>by omega⟩⟩,St.wkG (A':=(NumA .u64 ((sumTo l m 0/4294967296^0:Nat):Int)).va) (St.wkG U 2 rfl mw) 3 rfl (aZ (qm (λ x:Nat=>(NumA .u64 (x:Int)).va) (by simp [eO]:0=sumTo l m 0/4294967296^0)))⟩
 intro n a w hI
 obtain ⟨i,⟨hn,hI⟩,U⟩:=hI
 have hc:=en hl hm i
 refine qb<|qb<|zh [.v 9 _,.v 10 _,.v 11 _,.v 12 _,.v 13 _,.f 14 _,.f 15 _,.f 16 _,.f 17 _,.v 18 _,.v 19 _,.f 20 _,.f 21 _,.v 22 _] [.g 0,.g 1,.g 2,.g 3,.g 4,.o 13] U (zM 4 G (zM 0 G (zv G (aI Tryz.underlying24 (aT hF hv0 (vq 1 G))) (zv G (aS (vq 0 G) (vq 2 G)) (zv G (ai (vq 3 G)) (zB 4 G (λ hg=>ai (gq 4 G)) (zB 4 G (λ hg=>ai (gq 1 G)) (zB 4 G (λ hg=>aI Tryz.underlying24 (aT hF hv1 (ak (vq 6 G) hg))) (zB 4 G (λ hg=>aS (ak (vq 5 G) hg) (ak (vq 7 G) hg)) (zv G (r_or (vq 4 G) (vq 8 G)) (zv G (ai (vq 9 G)) (zB 10 G (λ hg=>ai (gq 3 G)) (zB 10 G (λ hg=>ci (ak (vq 11 G) hg) (aG 0 G)) (zv G (r_or (vq 10 G) (vq 12 G)) o0)))))))))))))) (zz [(0,_),(1,_),(5,_),(6,_),(7,_),(22,_)] [] λ a w U=>?_)
 refine aa<|aj U (zm 5 G) (λ hb0=>?_) (λ hb0=>?_)
 ·obtain ⟨hi,hI2⟩:=hI.more hl hm hb0
  have hg1:=eI hl i
  have hg2:=eI hm i
  refine qh<|zt<|qj<|qb<|zh [.v 25 _,.v 8 _] [.g 0,.g 1,.g 2,.g 3,.g 4,.o 1] U (zM 3 G (zA 0 G o0)) (zz [(0,_),(1,_),(5,_),(6,_),(7,_),(8,_)] [] λ a w U=>?_)
  refine zt<|qb<|zh [.v 26 _,.v 27 _,.v 28 _,.v 29 _] [.g 0,.g 1,.g 2,.g 3,.g 4,.g 5,.o 3] U (zM 4 G (zM 0 G (zv G (aI Tryz.underlying24 (aT hF hv0 (vq 1 G))) (zv G (aS (vq 0 G) (vq 2 G)) o0)))) (zz [(0,_),(1,_),(5,_),(6,_),(7,_),(8,_),(29,_)] [] λ a w U=>?_)
  refine aa<|bE (λ a w =>  St B w0 57 [(0,EqV v0),(1,EqV v1),(5,OwnR w0.w.heap.size U32 1 [] (NL (digs i (sumTo l m i)))),(7,In (i:Nat)),(8,(NumA .u64 ((sumTo l m i/4294967296^i+l.getD i 0:Nat):Int)).va)] [] a w) U (zm 6 G) (λ hb1=>?_) (λ hb1=>?_) (λ a w U=>?_)
  ·refine zh [.v 30 _,.v 31 _,.v 32 _,.v 33 _,.v 34 _,.v 35 _,.v 36 _,.v 8 _] [.g 0,.g 1,.g 2,.g 3,.g 4,.o 7] U (zM 5 G (zM 0 G (zM 4 G (zv G (bG b9 (aT hF hv0 (vq 1 G)) (vq 2 G) (by simp at hb1; omega)) (zv G (au (vq 3 G) aO) (zv G (aK .u64 zk zk (vq 4 G) (wu64 (ze (hl _ (qf _)) zd))) (zv G (aN (vq 0 G) (vq 5 G) (wadd64 (by have:=hl _ (qf (by simp at hb1; omega:i<l.length)); omega))) (zA 6 G o0)))))))) (zz [(0,_),(1,_),(5,_),(6,_),(7,_),(8,_)] [] λ a w U=>?_)
   refine aa ?_
   have U:=St.sel U [0,1,2,4,5]
   rw [cv (by simp at hb1; omega)]; exact U
  ·refine qh<|aa ?_
   have U:=St.sel U [0,1,2,4,5]
   rw [dt (by simp at hb1; omega)]; exact U
  refine zt<|qb<|zh [.v 37 _,.v 38 _,.v 39 _,.v 40 _] [.g 0,.g 1,.g 2,.g 3,.g 4,.o 3] U (zM 3 G (zM 1 G (zv G (aI Tryz.underlying24 (aT hF hv1 (vq 1 G))) (zv G (aS (vq 0 G) (vq 2 G)) o0)))) (zz [(0,_),(1,_),(5,_),(7,_),(8,_),(40,_)] [] λ a w U=>?_)
  refine aa<|bE (λ a w =>  St B w0 57 [(0,EqV v0),(1,EqV v1),(5,OwnR w0.w.heap.size U32 1 [] (NL (digs i (sumTo l m i)))),(7,In (i:Nat)),(8,(NumA .u64 ((sumTo l m i/4294967296^i+l.getD i 0+m.getD i 0:Nat):Int)).va)] [] a w) U (zm 5 G) (λ hb2=>?_) (λ hb2=>?_) (λ a w U=>?_)
  ·refine zh [.v 41 _,.v 42 _,.v 43 _,.v 44 _,.v 45 _,.v 46 _,.v 47 _,.v 8 _] [.g 0,.g 1,.g 2,.g 3,.o 7] U (zM 4 G (zM 1 G (zM 3 G (zv G (bG b9 (aT hF hv1 (vq 1 G)) (vq 2 G) (by simp at hb2; omega)) (zv G (au (vq 3 G) aO) (zv G (aK .u64 zk zk (vq 4 G) (wu64 (ze (hm _ (qf _)) zd))) (zv G (aN (vq 0 G) (vq 5 G) (wadd64 (by have:=hm _ (qf (by simp at hb2; omega:i<m.length)); omega))) (zA 6 G o0)))))))) (zz [(0,_),(1,_),(5,_),(7,_),(8,_)] [] λ a w U=>?_)
   refine aa ?_
   have U:=St.sel U [0,1,2,3,4]
   rw [cv (by simp at hb2; omega) (l:=m)]; exact U
  ·refine qh<|aa ?_
   have U:=St.sel U [0,1,2,3,4]
   rw [dt (by simp at hb2; omega) (l:=m)]; exact U
  refine zt<|gJ (sp:=[.v 48 _,.v 49 _,.v 50 _,.v 51 _,.v 52 _,.v 53 VT,.v 5 VT]) 5 [0,1,3,4] 0 4 U (zM 2 rfl (zM 4 rfl (zv rfl (nO (vq 1 rfl) (aG 4294967296 rfl) zd (nrem)) (zv rfl (aK .u32 zk zk (vq 2 rfl) (wu32 (qM _ zd))) (zv rfl (cX (l:=[_]) (xs:=[.tmp 51]) b9 zk nq nq ((e8 (qM _ zd))) (.o (vq 3 rfl)) rfl rfl) o0))))) rfl zk rfl rfl zd rfl zd rfl (λ _ _ h _=>(dI h).2) Tryz.underlying24 e1 e2 e3 e4 e5 zd (by simp only [qc,az,zJ]; omega) zd (λ T hT=>hT) zd (λ A hA=>by obtain ⟨_,_,rfl⟩:=qq.1 hA; rfl) zk nq nq zk zk (zz [(5,_),(0,_),(1,_),(7,_),(8,_)] [] λ a w U=>?_)
  refine aa<|zh [.v 54 _,.v 55 _,.v 6 _] [.g 0,.g 1,.g 2,.g 3,.o 2] U (zM 4 G (zv G (lC (vq 0 G) (aG 4294967296 G) zd (nquo zo)) (zA 1 G o0))) (zz [(5,_),(0,_),(1,_),(7,_),(6,_)] [] λ a w U=>?_)
  refine ap ?_
  refine aa<|zh [.v 23 _,.v 24 _,.v 7 _] [.g 0,.g 1,.g 2,.g 4,.o 2] U (zM 3 G (zv G (aN (vq 0 G) ab (ba zo)) (zA 1 G o0))) (zz [(5,_),(0,_),(1,_),(6,_),(7,_)] [] λ a w U=>?_)
  refine aa ?_
  have U:=St.sel U [1,2,0,3,4]
  exact ⟨n-1,by omega,i+1,⟨by omega,hI2⟩,St.wkG (A':=(NumA .u64 ((sumTo l m (i+1)/4294967296^(i+1):Nat):Int)).va) (St.wkG (A':=OwnR w0.w.heap.size U32 1 [] (NL (digs (i+1) (sumTo l m (i+1))))) U 2 G (aZ (qm (OwnR w0.w.heap.size U32 1 []) Hr))) 3 G (aZ (qm (λ x:Nat=>(NumA .u64 (x:Int)).va) Hs))⟩
 ·refine qK<|am<|am<|aB<|zt<|zh [.v 56 _,.v 4 _] [.o 1] U (zM 2 G (zA 0 G o0)) (zz [(4,_)] [] λ a w U=>?_)
  refine aa<|qg<|ao ?_ (an G U (zm 0 G))
  rw [hI.fin hl hm hb0]; exact vV (bI _ _)
def MgB (b:Nat)(l:List Nat):As where
 n:=1
 ag:=false
 p B cs w:=(MgA l).p B cs w∧∀ c∈cs,∀ g,blk c=some g→b≤g
 deps:=(MgA l).deps
 len:=λ B cs w h=>(MgA l).len B cs w h.1
 one:=λ B cs w h=>(MgA l).one B cs w h.1
 ag1:=λ _=>rfl
 cg:=λ B cs w w' hg h=>⟨(MgA l).cg B cs w w' hg h.1,h.2⟩
 wr:=λ B cs w w' g c T fz h1 h2 h3 h4 h=>⟨(MgA l).wr B cs w w' g c T fz h1 h2 h3 h4 h.1,h.2⟩
theorem nW {b:Nat}{l:List Nat}:Wk (MgB b l).va (MgA l).va:=λ _ _ _ ⟨cs,h,hv⟩=>⟨cs,h.1,hv⟩
theorem nV {b B:Nat}{l:List Nat}(h:(MgB b l).va.p B v w):∀ g,blk v=some g→b≤g:=by
 obtain ⟨cs,⟨h1,h2⟩,hv⟩:=h
 have hn:=(MgA l).len _ _ _ h1
 match cs,hn with
 | [c],_ =>
  have e:v=c:=hv
  subst e
  exact h2 _ (by simp)
theorem ww {b B:Nat}{l:List Nat}(h:(MgA l).va.p B v w)(hb:∀ g,blk v=some g→b≤g):(MgB b l).va.p B v w:=by
 obtain ⟨cs,h1,hv⟩:=h
 have hn:=(MgA l).len _ _ _ h1
 match cs,hn with
 | [c],_ =>
  have e:v=c:=hv
  subst e
  exact ⟨[v],⟨h1,λ c hc=>by simp at hc; subst hc; exact hb⟩,rfl⟩
theorem famB (b:Nat):Fam (MgB b):=⟨λ _=>rfl,λ _=>rfl,λ l B v w h=>by
 obtain ⟨A,c,hv,hm,hk⟩:=famA.op l B v w (nW _ _ _ h)
 refine ⟨A,c,hv,hm,λ k=>ww (hk k) λ g hg=>nV h g ?_⟩
 rw [hv]
 cases A with
 | none=>cases hg
 | some ad=>exact hg,λ B w=>⟨eE B w,λ c hc g hg=>by simp at hc; subst hc; cases hg⟩⟩
theorem vU {b:Nat}{l:List Nat}(ok:okL l):Wk (OwnR b U32 1 [] (NL l)) (MgB b l).va:=λ B v w h=>ww (vV ok B v w h) λ g hg=>by
 obtain ⟨_,_,ds,_,_,h5⟩:=h
 rcases h5 with ⟨h5,_⟩ | ⟨g',cap,cur,e1,e2,_⟩
 ·have e:v=.slice none 0 0:=h5
  rw [e] at hg
  cases hg
 ·rw [e1] at hg
  injection hg with hg
  rw [← hg]
  exact e2
theorem wsub' {x y:Nat}(h:y≤x)(hx:x<18446744073709551616):IntKind.u64.wrap ((x:Int)-(y:Int))=((x-y:Nat):Int):=by
 have e:((x:Int)-(y:Int))=((x-y:Nat):Int):=by omega
 rw [e,wu64 zo]
theorem Ey {l m:List Nat}{i:Nat}(h:i<l.length)(hl:okL l)(hm:okL m):NL (digs i (dif l m i))++NL [(if l[i]<1-dif l m i/4294967296^i+m.getD i 0 then l[i]+4294967296 else l[i])-(1-dif l m i/4294967296^i+m.getD i 0)]=NL (digs (i+1) (dif l m (i+1))):=by
 have h1:=eI hm i
 have h2:=sr (m:=m) hl i
 have h3:=hl _ (qf h)
 unfold NL
 rw [nl h hm,dw,zF]
 congr 3
 generalize dif l m i/4294967296^i=q at *
 generalize m.getD i 0=y at *
 generalize l[i]=x at *
 split <;> omega
theorem EA {l m:List Nat}{i:Nat}(h:i<l.length)(hl:okL l)(hm:okL m):(if l[i]<1-dif l m i/4294967296^i+m.getD i 0 then 1 else 0)=1-dif l m (i+1)/4294967296^(i+1):=by
 rw [xa]
 exact iE h hl hm rfl
theorem Ez {l m:List Nat}(hl:okL l)(h:m.length≤l.length)(hv:val m≤val l):trimL (digs l.length (dif l m l.length))=limbs (val l-val m):=by
 have:=nI hl h hv
 unfold subSt at this
 rw [xD,jV,zj] at this
 exact this
theorem uH (l m:List Nat)(hls:l.length≤10000000000)(hml:m.length≤l.length)(hv:val m≤val l):CnI Tryz.prog 235 [(MgA l).va,(MgA m).va] (λ b=>(MgB b (limbs (val l-val m))).va):=by
 obtain ⟨it,z,e1,e2,e3,e4,e5⟩:=ln
 refine CnI.introF Tryz.func235 G zk nq (λ B w0 a hF0 hF U=>?_)
 have U:=zn [(0,(MgA l).va),(1,(MgA m).va)] [] U
 obtain ⟨v0,hv0,U⟩:=St.eqv U 0 rfl
 obtain ⟨v1,hv1,U⟩:=St.eqv U 1 rfl
 have hl:=(dI hv0).1; have hm:=(dI hv1).1
 refine qb<|zh [.v 4 _] [.g 0,.g 1,.o 0] U (zv G (ac bc) o0) (zz [(0,_),(1,_),(4,_)] [] λ a w U=>?_)
 refine zt<|zh [.v 5 _] [.g 0,.g 1,.g 2,.o 0] U (zv G (ac bc) o0) (zz [(0,_),(1,_),(4,_),(5,_)] [] λ a w U=>?_)
 refine zt<|zh [.v 6 _] [.g 0,.g 1,.g 2,.g 3,.o 0] U (zv G (ac (aG 0 G)) o0) (zz [(0,_),(1,_),(4,_),(5,_),(6,_)] [] λ a w U=>?_)
 refine zt<|qb<|zh [.v 7 _] [.g 0,.g 1,.g 2,.g 3,.g 4,.o 0] U (zv G (ac ab) o0) (zz [(0,_),(1,_),(4,_),(5,_),(6,_),(7,_)] [] λ a w U=>?_)
 refine aa<|qj ?_
 have U:=St.sel U [0,1,3,4,5]
 refine wp_loop_ghost (λ n a w=>∃ i:Nat,(n+i=l.length)∧St B w0 47 [(0,EqV v0),(1,EqV v1),(5,OwnR w0.w.heap.size U32 1 [] (NL (digs i (dif l m i)))),(6,(NumA .u64 ((1-dif l m i/4294967296^i:Nat):Int)).va),(7,In (i:Nat))] [] a w) (l.length) ?_ ?_
 ·exact ⟨0,by omega,St.wkG (A':=(NumA .u64 ((1-dif l m 0/4294967296^0:Nat):Int)).va) (St.wkG U 2 G mw) 3 G (aZ (qm (λ x:Nat=>(NumA .u64 (x:Int)).va) (sq l m).symm))⟩
 intro n a w hI
 obtain ⟨i,hn,U⟩:=hI
 have hc:=sr (m:=m) hl i
 have hc1:1-dif l m i/4294967296^i≤1:=kZ _ _
 have hg2:=eI hm i
 refine qb<|qb<|zh [.v 10 _,.v 11 _,.v 12 _,.v 13 _] [.g 0,.g 1,.g 2,.g 3,.g 4,.o 3] U (zM 4 G (zM 0 G (zv G (aI Tryz.underlying24 (aT hF hv0 (vq 1 G))) (zv G (aS (vq 0 G) (vq 2 G)) o0)))) (zz [(0,_),(1,_),(5,_),(6,_),(7,_),(13,_)] [] λ a w U=>?_)
 refine aa<|aj U (zm 5 G) (λ hb0=>?_) (λ hb0=>?_)
 ·have hi:i<l.length:=by simp at hb0; omega
  have hx:=hl _ (qf hi)
  refine qh<|zt<|qj<|qb<|zh [.v 16 _,.v 8 _] [.g 0,.g 1,.g 2,.g 3,.g 4,.o 1] U (zM 3 G (zA 0 G o0)) (zz [(0,_),(1,_),(5,_),(6,_),(7,_),(8,_)] [] λ a w U=>?_)
  refine zt<|qb<|zh [.v 17 _,.v 18 _,.v 19 _,.v 20 _] [.g 0,.g 1,.g 2,.g 3,.g 4,.g 5,.o 3] U (zM 4 G (zM 1 G (zv G (aI Tryz.underlying24 (aT hF hv1 (vq 1 G))) (zv G (aS (vq 0 G) (vq 2 G)) o0)))) (zz [(0,_),(1,_),(5,_),(6,_),(7,_),(8,_),(20,_)] [] λ a w U=>?_)
  refine aa<|bE (λ a w =>  St B w0 47 [(0,EqV v0),(1,EqV v1),(5,OwnR w0.w.heap.size U32 1 [] (NL (digs i (dif l m i)))),(7,In (i:Nat)),(8,(NumA .u64 ((1-dif l m i/4294967296^i+m.getD i 0:Nat):Int)).va)] [] a w) U (zm 6 G) (λ hb1=>?_) (λ hb1=>?_) (λ a w U=>?_)
  ·refine zh [.v 21 _,.v 22 _,.v 23 _,.v 24 _,.v 25 _,.v 26 _,.v 27 _,.v 8 _] [.g 0,.g 1,.g 2,.g 3,.g 4,.o 7] U (zM 5 G (zM 1 G (zM 4 G (zv G (bG b9 (aT hF hv1 (vq 1 G)) (vq 2 G) (by simp at hb1; omega)) (zv G (au (vq 3 G) aO) (zv G (aK .u64 zk zk (vq 4 G) (wu64 (ze (hm _ (qf _)) zd))) (zv G (aN (vq 0 G) (vq 5 G) (wadd64 (by have:=hm _ (qf (by simp at hb1; omega:i<m.length)); omega))) (zA 6 G o0)))))))) (zz [(0,_),(1,_),(5,_),(6,_),(7,_),(8,_)] [] λ a w U=>?_)
   refine aa ?_
   have U:=St.sel U [0,1,2,4,5]
   rw [cv (by simp at hb1; omega) (l:=m)]; exact U
  ·refine qh<|aa ?_
   have U:=St.sel U [0,1,2,4,5]
   rw [dt (by simp at hb1; omega) (l:=m)]; exact U
  refine zt<|zh [.v 28 _,.v 29 _,.v 30 _,.v 31 _,.v 32 _,.v 9 _] [.g 0,.g 1,.g 2,.g 3,.g 4,.o 5] U (zM 0 G (zM 3 G (zv G (bG b9 (aT hF hv0 (vq 0 G)) (vq 1 G) hi) (zv G (au (vq 2 G) aO) (zv G (aK .u64 zk zk (vq 3 G) (wu64 (ze (hl _ (qf _)) zd))) (zA 4 G o0)))))) (zz [(0,_),(1,_),(5,_),(7,_),(8,_),(9,_)] [] λ a w U=>?_)
  refine zt<|zh [.v 6 _] [.g 0,.g 1,.g 2,.g 3,.g 4,.g 5,.o 0] U (zv G (ac (aG 0 G)) o0) (zz [(0,_),(1,_),(5,_),(7,_),(8,_),(9,_),(6,_)] [] λ a w U=>?_)
  refine zt<|qb<|zh [.v 33 _,.v 34 _,.v 35 _] [.g 0,.g 1,.g 2,.g 3,.g 4,.g 5,.g 6,.o 2] U (zM 5 G (zM 4 G (zv G (aS (vq 0 G) (vq 1 G)) o0))) (zz [(0,_),(1,_),(5,_),(7,_),(8,_),(9,_),(6,_),(35,_)] [] λ a w U=>?_)
  refine aa<|bE (λ a w =>  St B w0 47 [(0,EqV v0),(1,EqV v1),(5,OwnR w0.w.heap.size U32 1 [] (NL (digs i (dif l m i)))),(6,(NumA .u64 (((if l[i]<1-dif l m i/4294967296^i+m.getD i 0 then 1 else 0):Nat):Int)).va),(7,In (i:Nat)),(8,(NumA .u64 ((1-dif l m i/4294967296^i+m.getD i 0:Nat):Int)).va),(9,(NumA .u64 (((if l[i]<1-dif l m i/4294967296^i+m.getD i 0 then l[i]+4294967296 else l[i]):Nat):Int)).va)] [] a w) U (zm 7 G) (λ hb2=>?_) (λ hb2=>?_) (λ a w U=>?_)
  ·refine qb<|zh [.v 36 _,.v 37 _,.v 9 _] [.g 0,.g 1,.g 2,.g 3,.g 4,.g 6,.o 2] U (zM 5 G (zv G (aN (vq 0 G) (aG 4294967296 G) (wadd64 zo)) (zA 1 G o0))) (zz [(0,_),(1,_),(5,_),(7,_),(8,_),(6,_),(9,_)] [] λ a w U=>?_)
   refine aa<|zh [.v 6 _] [.g 0,.g 1,.g 2,.g 3,.g 4,.g 6,.o 0] U (zv G (ac (aG 1 G)) o0) (zz [(0,_),(1,_),(5,_),(7,_),(8,_),(9,_),(6,_)] [] λ a w U=>?_)
   refine aa ?_
   have U:=St.sel U [0,1,2,6,3,4,5]
   have hlt:l[i]<1-dif l m i/4294967296^i+m.getD i 0:=j4.1 (qp hb2)
   rw [qz hlt,qz hlt]; exact U
  ·refine qh<|aa ?_
   have U:=St.sel U [0,1,2,6,3,4,5]
   have hlt:¬ l[i]<1-dif l m i/4294967296^i+m.getD i 0:=λ h=>qr hb2 (j4.2 h)
   rw [qw hlt,qw hlt]; exact U
  refine aa<|gJ (sp:=[.v 38 _,.v 39 _,.v 40 _,.v 41 _,.v 42 _,.v 43 _,.v 44 VT,.v 5 VT]) 6 [0,1,3,4] 0 5 U (zM 2 rfl (zM 6 rfl (zM 5 rfl (zv rfl (c6 (vq 1 rfl) (vq 2 rfl) (wsub' (by split <;> omega) (by split <;> omega))) (zv rfl (aK .u32 zk zk (vq 3 rfl) (wu32 (by split <;> omega))) (zv rfl (cX (l:=[_]) (xs:=[.tmp 42]) b9 zk nq nq ((e8 (by split <;> omega))) (.o (vq 4 rfl)) rfl rfl) o0)))))) rfl zk rfl rfl zd rfl zd rfl (λ _ _ h _=>(dI h).2) Tryz.underlying24 e1 e2 e3 e4 e5 zd (by simp only [qc,az,zJ]; omega) zd (λ T hT=>hT) zd (λ A hA=>by obtain ⟨_,_,rfl⟩:=qq.1 hA; rfl) zk nq nq zk zk (zz [(5,_),(0,_),(1,_),(6,_),(7,_)] [] λ a w U=>?_)
  refine ap ?_
  refine aa<|zh [.v 14 _,.v 15 _,.v 7 _] [.g 0,.g 1,.g 2,.g 3,.o 2] U (zM 4 G (zv G (aN (vq 0 G) ab (ba zo)) (zA 1 G o0))) (zz [(5,_),(0,_),(1,_),(6,_),(7,_)] [] λ a w U=>?_)
  refine aa ?_
  have U:=St.sel U [1,2,0,3,4]
  exact ⟨n-1,by omega,i+1,by omega,St.wkG (A':=(NumA .u64 ((1-dif l m (i+1)/4294967296^(i+1):Nat):Int)).va) (St.wkG (A':=OwnR w0.w.heap.size U32 1 [] (NL (digs (i+1) (dif l m (i+1))))) U 2 G (aZ (qm (OwnR w0.w.heap.size U32 1 []) (Ey hi hl hm)))) 3 G (aZ (qm (λ x:Nat=>(NumA .u64 (x:Int)).va) (EA hi hl hm)))⟩
 ·obtain rfl:i=l.length:=by simp at hb0; omega
  have U:=St.wkG (A':=(MgB w0.w.heap.size (digs l.length (dif l m l.length))).va) U 2 rfl (vU (bI _ _))
  refine qK<|am<|am<|aB<|zt<|zh [.v 45 _,.v 46 _,.v 4 _] [.o 2] U (zM 2 G (zQ G (dJ (famB w0.w.heap.size) _) (.o (vq 0 G)) (zA 1 G o0))) (zz [(4,_)] [] λ a w U=>?_)
  refine aa<|qg<|ao ?_ (an G U (zm 0 G))
  rw [Ez hl hml hv]; exact aL
theorem CnI.cn {f:FuncId}{pre:List VA}{mk:Nat→VA}{A:VA}(h:CnI P f pre mk)(hw:∀ b,Wk (mk b) A):Cn P f pre A:=⟨h.1,λ B w args hB ha=>(h.2 B w args hB ha).mono λ e w' ⟨v,he,hv,hg⟩=>⟨v,he,hw _ _ _ _ hv,hg⟩⟩
theorem uF (l m:List Nat)(hls:l.length≤10000000000)(hml:m.length≤l.length)(hv:val m≤val l):Cn Tryz.prog 235 [(MgA l).va,(MgA m).va] (MgA (limbs (val l-val m))).va:=(uH l m hls hml hv).cn λ _=>nW
theorem MulI.step' {a b L:List Nat}{i u k c:Nat}(h:MulI a b L i u k c)(hb:okL b)(hu:u<4294967296)(hk:k<b.length)(hj:i+k<L.length) :
  MulI a b (L.set (i+k) ((u*b[k]+L[i+k]+c)%4294967296)) i u (k+1) ((u*b[k]+L[i+k]+c)/4294967296):=by
 have:=h.step hb hu hk hj
 rw [xa c] at this
 exact this
theorem FQ {a b L:List Nat}(ha:okL a)(hb:okL b)(h:MulO a b L a.length):trimL L=limbs (val a*val b):=by
 rw [h.fin,gu]
 rw [zR]
 exact ka (eu ha) (eu hb)
theorem uK (l m:List Nat)(hls:l.length≤1099511627776)(hms:m.length≤1099511627776):Cn Tryz.prog 209 [(MgA l).va,(MgA m).va] ((MgN (limbs (val l*val m))).va):=by
 refine Cn.introW Tryz.func209 G zk nq (.cons (iB _).va (.cons (iB _).va .nil)) (dD _).va (λ B w0 a hB0 U=>?_)
 have U:=zn [(0,(MgO l).va),(1,(MgO m).va)] [] U
 have ha:=(U.magO 0 rfl).1; have hb:=(U.magO 1 rfl).1
 refine qb<|zh [.v 4 _] [.g 0,.g 1,.o 0] U (zv G (ac bc) o0) (zz [(0,_),(1,_),(4,_)] [] λ a w U=>?_)
 refine zt<|cU (sts:=[]) (news:=[⟨15,134,slH _ _,some 5,_,none⟩]) (sp:=[.v 10 _,.v 11 _,.v 12 _,.v 13 _,.v 14 _,.alc 0,.adr 5 15 .none True]) [.g 0,.g 1,.g 2] [(5,15)] [⟨5,134,slH _ _,_⟩] U (zM 0 G (zv G (aI Tryz.underlying24 (aD (vq 0 G))) (zM 1 G (zv G (aI Tryz.underlying24 (aD (vq 2 G))) (zv G (aN (vq 1 G) (vq 3 G) (fB zo)) (oc (dK G G G eD (vq 4 G) (vq 4 G) zo) (oc (ob_a G G lw) o0))))))) zk zk zk ⟨⟨6,rfl⟩,trivial⟩ G zk (zz [(0,_),(1,_),(4,_)] [⟨5,134,slH _ _,_⟩] λ a w U=>?_)
 refine zt<|qb<|zg [η] [] [.v 6 _] [.g 0,.g 1,.g 2,.o 0] U (zv G (ac ab) o0) (zz [(0,_),(1,_),(4,_),(6,_)] [⟨5,134,slH _ _,_⟩] λ a w U=>?_)
 refine aa<|qj ?_
 have U:=St.sel U [0,1,3]
 refine wp_loop_ghost (λ n a w=>∃ (i:Nat) (L:List Nat),n+i=l.length∧MulO l m L i∧St B w0 69 [(0,(MgO l).va),(1,(MgO m).va),(6,In (i:Nat))] [⟨5,134,slH (l.length+m.length) (l.length+m.length),Nums .u32 L⟩] a w) (l.length) ?_ ?_
 ·exact ⟨0,_,by omega,MulO.start _ _,U⟩
 intro n a w hI
 obtain ⟨i,L,hn,hO,U⟩:=hI; obtain ⟨n1,hn1⟩:∃ n1,n1=n:=⟨n,rfl⟩; have hlen:=hO.len
 refine qb<|qb<|zg [η] [] [.v 16 _,.v 17 _,.v 18 _,.v 19 _] [.g 0,.g 1,.g 2,.o 3] U (zM 2 G (zM 0 G (zv G (aI Tryz.underlying24 (aD (vq 1 G))) (zv G (aS (vq 0 G) (vq 2 G)) o0)))) (zz [(0,_),(1,_),(6,_),(19,_)] [⟨5,134,slH _ _,_⟩] λ a w U=>?_)
 refine aa<|aj U (zm 3 G) (λ hb0=>?_) (λ hb0=>?_)
 ·have hi:i<l.length:=by simp at hb0; omega
  refine qh<|zt<|qj<|qb<|zg [η] [] [.v 7 _] [.g 0,.g 1,.g 2,.o 0] U (zv G (ac (aG 0 G)) o0) (zz [(0,_),(1,_),(6,_),(7,_)] [⟨5,134,slH _ _,_⟩] λ a w U=>?_)
  refine zt<|qb<|zg [η] [] [.v 8 _] [.g 0,.g 1,.g 2,.g 3,.o 0] U (zv G (ac ab) o0) (zz [(0,_),(1,_),(6,_),(7,_),(8,_)] [⟨5,134,slH _ _,_⟩] λ a w U=>?_)
  refine aa<|qj ?_
  have U:=St.sel U [0,1,2,3,4]
  refine wp_loop_ghost (λ n a w=>∃ (k c:Nat) (L:List Nat),n+k=m.length∧MulI l m L i l[i] k c∧St B w0 69 [(0,(MgO l).va),(1,(MgO m).va),(6,In (i:Nat)),(7,(NumA .u64 ((c:Nat):Int)).va),(8,In (k:Nat))] [⟨5,134,slH (l.length+m.length) (l.length+m.length),Nums .u32 L⟩] a w) (m.length) ?_ ?_
  ·exact ⟨0,0,L,by omega,hO.row _,U⟩
  intro n a w hI
  clear hlen hO; obtain ⟨k,c,L,hn2,hI,U⟩:=hI; have hlen:=hI.len; have hc:=hI.cl
  refine qb<|qb<|zg [η] [] [.v 22 _,.v 23 _,.v 24 _,.v 25 _] [.g 0,.g 1,.g 2,.g 3,.g 4,.o 3] U (zM 4 G (zM 1 G (zv G (aI Tryz.underlying24 (aD (vq 1 G))) (zv G (aS (vq 0 G) (vq 2 G)) o0)))) (zz [(0,_),(1,_),(6,_),(7,_),(8,_),(25,_)] [⟨5,134,slH _ _,_⟩] λ a w U=>?_)
  refine aa<|aj U (zm 5 G) (λ hb1=>?_) (λ hb1=>?_)
  ·have hk:k<m.length:=by simp at hb1; omega
   refine qh<|zt<|qj<|qb<|zgd [[],[],[0,1],[0,1,2],[0,1,2,3],[],[],[5,6],[5,6,7],[5,6,7,8],[0,1,2,3,4,5,6,7,8,9],[],[],[],[12,13],[11,12,13,14],[11,12,13,14,15],[11,12,13,14,15,16],[0,1,2,3,4,5,6,7,8,9,10,11,12,13,14,15,16,17],[],[0,1,2,3,4,5,6,7,8,9,10,11,12,13,14,15,16,17,18,19],[0,1,2,3,4,5,6,7,8,9,10,11,12,13,14,15,16,17,18,19,20]] [none] [] [.v 28 _,.v 29 _,.v 30 _,.v 31 _,.v 32 _,.v 33 _,.v 34 _,.v 35 _,.v 36 _,.v 37 _,.v 38 _,.adr 39 5 .none True,.v 40 _,.v 41 _,.v 42 _,.adr 43 5 (.some _) True,.v 44 _,.v 45 _,.v 46 _,.v 47 _,.v 48 _,.v 9 _] [.g 0,.g 1,.g 2,.g 3,.g 4,.o 21] ae U (zM 0 G (zM 2 G (zv G (bG b9 (aD (vq 0 G)) (vq 1 G) zo) (zv G (au (vq 2 G) aO) (zv G (aK .u64 zk zk (vq 3 G) (wu64 (ze (ha _ (qf _)) zd))) (zM 1 G (zM 4 G (zv G (bG b9 (aD (vq 5 G)) (vq 6 G) zo) (zv G (au (vq 7 G) aO) (zv G (aK .u64 zk zk (vq 8 G) (wu64 (ze (hb _ (qf _)) zd))) (zv G (iP (vq 4 G) (vq 9 G) (wmul64 (qT (qe (vk _ _) (jJ _ _)) (gU (ha _ (qf _)) (hb _ (qf _)) (show 0<4294967296 by decide) (show 0<4294967296 by decide))))) (oc (ob_a G G cb) (zM 2 G (zM 4 G (zv G (aN (vq 12 G) (vq 13 G) (fB zo)) (oc (ob_a G G (dm 11 G zk (lz0 0 G) b9 (vq 14 G) zo)) (zv G (iQ 15 G zk (lz0 0 G) (λ _=>bK _ _ _ _) (gI zo) aO) (zv G (aK .u64 zk zk (vq 16 G) (wu64 (ze (hI.ok _ (qf _)) zd))) (zv G (aN (vq 10 G) (vq 17 G) (wadd64 (qT (jJ _ _) (gU (ha _ (qf _)) (hb _ (qf _)) hc (hI.ok _ (qf _)))))) (zM 3 G (zv G (aN (vq 18 G) (vq 19 G) (wadd64 (by rw [xa]; exact gU (ha _ (qf _)) (hb _ (qf _)) hc (hI.ok _ (qf _))))) (zA 20 G o0)))))))))))))))))))))) zk zk zk zk (zz [(0,_),(1,_),(6,_),(7,_),(8,_),(9,_)] [⟨5,134,slH _ _,_⟩] λ a w U=>?_)
   refine zt<|zg [some (8,_)] [] [.adr 49 5 .none True,.v 50 _,.v 51 _,.v 52 _,.v 53 _,.v 54 _,.v 55 _,.adr 56 5 (.some _) True,.sto 0] [.g 0,.g 1,.g 2,.g 3,.g 4,.g 5] U (oc (ob_a G G cb) (zM 2 G (zM 4 G (zv G (aN (vq 1 G) (vq 2 G) (fB zo)) (zM 5 G (zv G (nO (vq 4 G) (aG 4294967296 G) zd (nrem)) (zv G (aK .u32 zk zk (vq 5 G) (wu32 (qM _ zd))) (oc (ob_a G G (dm 0 G zk (lz0 0 G) b9 (vq 3 G) zo)) (oc (c7 7 G G G G zk (λ _=>bK _ _ _ _) (vq 6 G) aO (br zo)) o0))))))))) (zz [(0,_),(1,_),(6,_),(7,_),(8,_),(9,_)] [⟨5,134,slH _ _,_⟩] λ a w U=>?_)
   refine aa<|zg [η] [] [.v 57 _,.v 58 _,.v 7 _] [.g 0,.g 1,.g 2,.g 4,.o 2] U (zM 5 G (zv G (lC (vq 0 G) (aG 4294967296 G) zd (nquo (qT (jK _ _) (by rw [xa]; exact gU (ha _ (qf _)) (hb _ (qf _)) hc (hI.ok _ (qf _)))))) (zA 1 G o0))) (zz [(0,_),(1,_),(6,_),(8,_),(7,_)] [⟨5,134,slH _ _,_⟩] λ a w U=>?_)
   refine ap ?_
   refine aa<|zg [η] [] [.v 26 _,.v 27 _,.v 8 _] [.g 0,.g 1,.g 2,.g 4,.o 2] U (zM 3 G (zv G (aN (vq 0 G) ab (ba zo)) (zA 1 G o0))) (zz [(0,_),(1,_),(6,_),(7,_),(8,_)] [⟨5,134,slH _ _,_⟩] λ a w U=>?_)
   refine aa ?_
   have U:=St.sel U [0,1,2,3,4]
   exact ⟨n-1,by omega,k+1,_,_,by omega,hI.step' hb (ha _ (qf _)) hk zo,U⟩
  ·obtain rfl:k=m.length:=by simp at hb1; omega
   refine qK<|am<|am<|aB<|aa<|zg [some (8,_)] [] [.adr 59 5 .none True,.v 60 _,.v 61 _,.v 62 _,.v 63 _,.v 64 _,.v 65 _,.adr 66 5 (.some _) True,.sto 0] [.g 0,.g 1,.g 2] U (oc (ob_a G G cb) (zM 2 G (zM 1 G (zv G (aI Tryz.underlying24 (aD (vq 2 G))) (zv G (aN (vq 1 G) (vq 3 G) (fB zo)) (zM 3 G (zv G (aK .u32 zk zk (vq 5 G) (wu32 hc)) (oc (ob_a G G (dm 0 G zk (lz0 0 G) b9 (vq 4 G) zo)) (oc (c7 7 G G G G zk (λ _=>bK _ _ _ _) (vq 6 G) aO (br zo)) o0))))))))) (zz [(0,_),(1,_),(6,_)] [⟨5,134,slH _ _,_⟩] λ a w U=>?_)
   refine ap ?_
   refine aa<|zg [η] [] [.v 20 _,.v 21 _,.v 6 _] [.g 0,.g 1,.o 2] U (zM 2 G (zv G (aN (vq 0 G) ab (ba zo)) (zA 1 G o0))) (zz [(0,_),(1,_),(6,_)] [⟨5,134,slH _ _,_⟩] λ a w U=>?_)
   refine aa ?_
   have U:=St.sel U [0,1,2]
   exact ⟨n1-1,by omega,i+1,_,by omega,hI.done hi rfl,U⟩
 ·obtain rfl:i=l.length:=by simp at hb0; omega
  refine qK<|am<|am<|aB<|zt<|zg [η] [] [.adr 67 5 .none True,.v 68 _,.v 4 _] [.o 2] U (oc (ob_a G G cb) (zQ G (dJ famN _) (.o (fT 0 G zk (lz0 0 G) ⟨hO.len.symm,qi _,by unfold maxLen; omega,hO.ok⟩ hO.len.symm)) (zA 1 G o0))) (zz [(4,_)] [⟨5,134,slH _ _,_⟩] λ a w U=>?_)
  refine aa<|qg<|ao ?_ (an G U (zm 0 G))
  rw [FQ ha hb hO]; exact aL
theorem ii (x:Nat):(trimL [x]).length≤1∧val (trimL [x])=x:=⟨ue [x],by rw [nB]; simp [val]⟩
theorem ru (l:List Nat)(x:Nat)(hls:l.length≤1099511627776)(hx:x<4294967296):Cn Tryz.prog 261 [(MgA l).va,(NumA .u32 (x:Nat)).va] ((MgA (limbs (val l*x))).va):=by
 refine Cn.intro Tryz.func261 G zk nq (λ B w0 a U=>?_)
 have U:=zn [(0,(MgA l).va),(1,(NumA .u32 (x:Nat)).va)] [] U
 refine qb<|zh [.v 4 _] [.g 0,.g 1,.o 0] U (zv G (ac bc) o0) (zz [(0,_),(1,_),(4,_)] [] λ a w U=>?_)
 refine zt<|zh [.v 5 _,.v 6 _,.v 7 _,.v 8 _,.v 9 _,.v 4 _] [.o 5] U (zM 0 G (zM 1 G (zv G (cX (l:=[_]) (xs:=[.tmp 6]) b9 zk nq nq ((e8 hx)) (.o (vq 1 G)) G G) (zQ G (dJ famA _) (.o (vq 2 G)) (zQ G (uK l (trimL [x]) hls (qe (ii x).1 zd)) (.p (vq 0 G) (vq 3 G)) (zA 4 G o0)))))) (zz [(4,_)] [] λ a w U=>?_)
 refine aa<|qg<|ao ?_ (an G U (zm 0 G))
 rw [(ii x).2]; exact ny
def rsSt (l:List Nat)(d n:Nat):List Nat:=List.replicate n 0++digs (l.length-n) (val (l.drop n)/d)
theorem eS {l:List Nat}{d n:Nat}(h:n≤l.length):(rsSt l d n).length=l.length:=by simp [rsSt,az]; omega
theorem lK (l:List Nat)(d:Nat):rsSt l d l.length=List.replicate l.length 0:=by simp [rsSt,digs]
theorem uI {l:List Nat}{d n:Nat}:okL (rsSt l d n):=okL_append.2 ⟨λ x hx=>by rw [(xY.1 hx).2]; decide,bI _ _⟩
theorem dU {l:List Nat}{j:Nat}(h:j<l.length):val (l.drop j)=l[j]+4294967296*val (l.drop (j+1)):=by
 rw [qG h]; rfl
theorem D5 {x V d:Nat}(hd:0<d):(x+4294967296*V)/d=4294967296*(V/d)+(V%d*4294967296+x)/d∧(x+4294967296*V)%d=(V%d*4294967296+x)%d:=by
 have e:x+4294967296*V=(V%d*4294967296+x)+d*(4294967296*(V/d)):=by
  have:=xw V d
  have e2:d*(4294967296*(V/d))=4294967296*(d*(V/d)):=by rw [vd]
  generalize d*(V/d)=p at *
  omega
 rw [e,jP _ _ hd,jv]
 exact ⟨by omega,rfl⟩
theorem AN {x V d:Nat}(hd:0<d)(hx:x<4294967296):(V%d*4294967296+x)/d<4294967296:=by
 have h1:=qM V hd
 rw [jN hd]
 have h2:(V%d+1)*4294967296≤d*4294967296:=qR _ h1
 omega
theorem oV {l:List Nat}{d j:Nat}(hl:okL l)(hd:0<d)(hj:j<l.length):(rsSt l d (j+1)).set j ((val (l.drop (j+1))%d*4294967296+l[j])/d)=rsSt l d j:=by
 unfold rsSt
 have e:l.length-j=(l.length-(j+1))+1:=by omega
 rw [dU hj,(D5 hd).1,e,xa (4294967296*_),xa _ (4294967296*_),oz _ _ _ (AN hd (hl _ (qf hj)))]
 rw [xM,za,dW _ _ _ _ (by simp)]
 rfl
theorem oW {l:List Nat}{d j:Nat}(hd:0<d)(hj:j<l.length):(val (l.drop (j+1))%d*4294967296+l[j])%d=val (l.drop j)%d:=by
 rw [dU hj,(D5 hd).2]
theorem D4 {l:List Nat}{d:Nat}(hl:okL l):trimL (rsSt l d 0)=limbs (val l/d):=by
 unfold rsSt
 rw [jV,xb,x5,z9,gu]
 exact qT (jK _ _) (eu hl)
theorem rx (l:List Nat)(d:Nat)(hls:l.length≤1099511627776)(hd:0<d)(hd2:d<4294967296):Cn Tryz.prog 260 [(MgA l).va,(NumA .u32 (d:Nat)).va] (Tu [(MgN (limbs (val l/d))).va,(NumA .u32 (val l%d:Nat)).va]):=by
 refine Cn.introW Tryz.func260 G zk nq (.cons (iB _).va (.cons (fD _ _).va .nil)) (pG (.cons (dD _).va (.cons (ce _ _).va .nil))) (λ B w0 a hB0 U=>?_)
 have U:=zn [(0,(MgO l).va),(1,(NumA .u32 (d:Nat)).va)] [] U
 have hl:=(U.magO 0 rfl).1
 refine qb<|zh [.v 4 _,.v 5 _] [.g 0,.g 1,.o 0,.o 1] U (zv G (ac bc) (zv G (ac (aG 0 G)) o0)) (zz [(0,_),(1,_),(4,_),(5,_)] [] λ a w U=>?_)
 refine zt<|cU (sts:=[]) (news:=[⟨12,134,slH _ _,some 2,_,none⟩]) (sp:=[.v 10 _,.v 11 _,.alc 0,.adr 6 12 .none True]) [.g 0,.g 1,.g 2,.g 3] [(6,12)] [⟨6,134,slH _ _,_⟩] U (zM 0 G (zv G (aI Tryz.underlying24 (aD (vq 0 G))) (oc (dK G G G eD (vq 1 G) (vq 1 G) zo) (oc (ob_a G G lw) o0)))) zk zk zk ⟨⟨3,rfl⟩,trivial⟩ G zk (zz [(0,_),(1,_),(4,_),(5,_)] [⟨6,134,slH _ _,_⟩] λ a w U=>?_)
 refine zt<|zg [η] [] [.v 7 _] [.g 0,.g 1,.g 2,.g 3,.o 0] U (zv G (ac (aG 0 G)) o0) (zz [(0,_),(1,_),(4,_),(5,_),(7,_)] [⟨6,134,slH _ _,_⟩] λ a w U=>?_)
 refine zt<|qb<|zg [η] [] [.v 13 _,.v 14 _,.v 15 _,.v 8 _] [.g 0,.g 1,.g 2,.g 3,.g 4,.o 3] U (zM 0 G (zv G (aI Tryz.underlying24 (aD (vq 0 G))) (zv G (c6 (vq 1 G) ab (wi64 zo zo)) (zA 2 G o0)))) (zz [(0,_),(1,_),(4,_),(5,_),(7,_),(8,_)] [⟨6,134,slH _ _,_⟩] λ a w U=>?_)
 refine aa<|qj ?_
 have U:=St.sel U [0,1,4,5]
 refine wp_loop_ghost (λ n a w=>n≤l.length∧St B w0 44 [(0,(MgO l).va),(1,(NumA .u32 (d:Nat)).va),(7,(NumA .u64 ((val (l.drop n)%d:Nat):Int)).va),(8,In ((n:Int)-1))] [⟨6,134,slH l.length l.length,Nums .u32 (rsSt l d n)⟩] a w) (l.length) ?_ ?_
 ·exact ⟨qi _,by rw [lK,show val (l.drop l.length)%d=0 from by simp]; exact U⟩
 intro n a w hI
 obtain ⟨hn,U⟩:=hI
 have hmd:=qM (val (l.drop n)) hd
 refine qb<|qb<|zg [η] [] [.v 16 _,.v 17 _] [.g 0,.g 1,.g 2,.g 3,.o 1] U (zM 3 G (zv G (d9 (vq 0 G) ab) o0)) (zz [(0,_),(1,_),(7,_),(8,_),(17,_)] [⟨6,134,slH _ _,_⟩] λ a w U=>?_)
 refine aa<|aj U (zm 4 G) (λ hb0=>?_) (λ hb0=>?_)
 ·obtain ⟨j,rfl⟩:∃ j,n=j+1:=⟨n-1,by simp at hb0; omega⟩; rw [show ((j+1:Nat):Int)-1=(j:Int) from by omega] at U
  have hj:j<l.length:=by omega
  have hx:=hl _ (qf hj)
  refine qh<|zt<|qj<|qb<|zg [η] [] [.v 20 _,.v 21 _,.v 22 _,.v 23 _,.v 24 _,.v 25 _,.v 26 _,.v 27 _,.v 9 _] [.g 0,.g 1,.g 2,.g 3,.o 8] U (zM 2 G (zv G (iP (vq 0 G) (aG 4294967296 G) (wmul64 zo)) (zM 0 G (zM 3 G (zv G (bG b9 (aD (vq 2 G)) (vq 3 G) hj) (zv G (au (vq 4 G) aO) (zv G (aK .u64 zk zk (vq 5 G) (wu64 zo)) (zv G (aN (vq 1 G) (vq 6 G) (wadd64 zo)) (zA 7 G o0))))))))) (zz [(0,_),(1,_),(7,_),(8,_),(9,_)] [⟨6,134,slH _ _,_⟩] λ a w U=>?_)
  refine zt<|zg [some (8,_)] [] [.adr 28 6 .none True,.v 29 _,.v 30 _,.v 31 _,.v 32 _,.v 33 _,.v 34 _,.adr 35 6 (.some _) True,.sto 0] [.g 0,.g 1,.g 2,.g 3,.g 4] U (oc (ob_a G G cb) (zM 3 G (zM 4 G (zM 1 G (zv G (aK .u64 zk zk (vq 3 G) (wu64 zo)) (zv G (lC (vq 2 G) (vq 4 G) zo (nquo (ze (AN hd hx) zd))) (zv G (aK .u32 zk zk (vq 5 G) (wu32 (AN hd hx))) (oc (ob_a G G (dm 0 G zk (lz0 0 G) b9 (vq 1 G) hj)) (oc (c7 7 G G G G zk (λ _=>bK _ _ _ _) (vq 6 G) aO (br (by rw [eS zo]; omega))) o0))))))))) (zz [(0,_),(1,_),(7,_),(8,_),(9,_)] [⟨6,134,slH _ _,_⟩] λ a w U=>?_)
  refine aa<|zg [η] [] [.v 36 _,.v 37 _,.v 38 _,.v 39 _,.v 7 _] [.g 0,.g 1,.g 3,.o 4] U (zM 4 G (zM 1 G (zv G (aK .u64 zk zk (vq 1 G) (wu64 zo)) (zv G (nO (vq 0 G) (vq 2 G) zo (nrem)) (zA 3 G o0))))) (zz [(0,_),(1,_),(8,_),(7,_)] [⟨6,134,slH _ _,_⟩] λ a w U=>?_)
  refine ap ?_
  refine aa<|zg [η] [] [.v 18 _,.v 19 _,.v 8 _] [.g 0,.g 1,.g 3,.o 2] U (zM 2 G (zv G (c6 (vq 0 G) ab (wi64 zo zo)) (zA 1 G o0))) (zz [(0,_),(1,_),(7,_),(8,_)] [⟨6,134,slH _ _,_⟩] λ a w U=>?_)
  refine aa ?_
  have U:=St.sel U [0,1,2,3]
  rw [oV hl hd hj,oW hd hj] at U; exact ⟨j,by omega,by omega,U⟩
 ·obtain rfl:n=0:=by simp at hb0; omega
  refine qK<|am<|am<|aB<|zt<|zg [η] [] [.adr 40 6 .none True,.v 41 _,.v 42 _,.v 43 _,.v 4 _,.v 5 _] [.o 4,.o 5] U (oc (ob_a G G cb) (zQ G (dJ famN _) (.o (fT 0 G zk (lz0 0 G) ⟨by rw [eS (zc _)],qi _,by unfold maxLen; omega,uI⟩ (by rw [eS (zc _)]))) (zM 2 G (zv G (aK .u32 zk zk (vq 2 G) (wu32 zo)) (zA 1 G (zA 3 G o0)))))) (zz [(4,_),(5,_)] [⟨6,134,slH _ _,_⟩] λ a w U=>?_)
  refine aa<|qg<|ao ?_ (bf (rs:=[.tmp 4,.tmp 5]) G U (.tmp (zm 0 G) (.tmp (zm 1 G) .nil)) zd)
  rw [D4 hl,z9]; exact aL
theorem EX (l:List Nat)(hls:l.length≤1099511627776):Cn Tryz.prog 255 [(MgA l).va] ((MgA (limbs (val l/2))).va):=by
 refine Cn.intro Tryz.func255 G zk nq (λ B w0 a U=>?_)
 have U:=zn [(0,(MgA l).va)] [] U
 refine qb<|zh [.v 2 _] [.g 0,.o 0] U (zv G (ac bc) o0) (zz [(0,_),(2,_)] [] λ a w U=>?_)
 refine zt<|zh [.v 6 _,.v 7 _,.v 5 _,.v 8 _,.v 9 _,.v 3 _,.v 4 _] [.g 1,.o 5] U (zM 0 G (zQ G (rx l 2 hls zd zd) (.p (vq 0 G) (aG 2 G)) (zv G (ai (vq 1 G)) (zv G (aQ (vq 2 G) G) (zv G (aQ (vq 2 G) G) (zA 3 G (zA 4 G o0))))))) (zz [(2,_),(3,_)] [] λ a w U=>?_)
 refine zt<|zh [.v 10 _,.v 2 _] [.o 1] U (zM 1 G (zA 0 G o0)) (zz [(2,_)] [] λ a w U=>?_)
 refine aa<|qg<|ao ?_ (an G U (zm 0 G))
 exact ny
theorem even_e {l:List Nat}(h:0<l.length):val l%2=l[0]%2:=by
 have:=dU h
 rw [z9] at this
 omega
theorem EZ (l:List Nat)(h:0<l.length):Cn Tryz.prog 254 [(MgA l).va] (Bo (((val l%2:Nat):Int)==((0:Nat):Int))):=by
 refine Cn.intro Tryz.func254 G zk nq (λ B w0 a U=>?_)
 have U:=zn [(0,(MgA l).va)] [] U
 refine qb<|zh [.v 2 _] [.g 0,.o 0] U (zv G (ac aJ) o0) (zz [(0,_),(2,_)] [] λ a w U=>?_)
 refine zt<|zh [.v 3 _,.v 4 _,.v 5 _,.v 6 _,.v 7 _,.v 2 _] [.o 5] U (zM 0 G (zv G (bG b9 (vq 0 G) (aG 0 G) h) (zv G (au (vq 1 G) aO) (zv G (nO (vq 2 G) (aG 2 G) zd (nrem)) (zv G (bC (vq 3 G) (aG 0 G)) (zA 4 G o0)))))) (zz [(2,_)] [] λ a w U=>?_)
 refine aa<|qg<|ao ?_ (an G U (zm 0 G))
 rw [even_e h]; exact aL
theorem cm_le0 {X Y:Nat}:cmL (limbs X) (limbs Y)≤0↔X≤Y:=by
 rw [eK]
 split
 ·omega
 ·split <;> omega
theorem fit_e {R D q:Nat}(h1:D*q≤R)(h2:R<D*(q+1)):q=R/D:=by
 rw [qP] at h1 h2
 exact (Nat.div_eq_of_lt_le h1 h2).symm
theorem I7 {R D:Nat}(hD:0<D)(hR:R<D*4294967296)(hl:(limbs D).length≤1099511627776):Cn Tryz.prog 262 [(MgA (limbs R)).va,(MgA (limbs D)).va] ((NumA .u32 (R/D:Nat)).va):=by
 refine Cn.intro Tryz.func262 G zk nq (λ B w0 a U=>?_)
 have U:=zn [(0,(MgA (limbs R)).va),(1,(MgA (limbs D)).va)] [] U
 refine qb<|zh [.v 4 _] [.g 0,.g 1,.o 0] U (zv G (ac (aG 0 G)) o0) (zz [(0,_),(1,_),(4,_)] [] λ a w U=>?_)
 refine zt<|zh [.v 5 _] [.g 0,.g 1,.g 2,.o 0] U (zv G (ac (aG 0 G)) o0) (zz [(0,_),(1,_),(4,_),(5,_)] [] λ a w U=>?_)
 refine zt<|zh [.v 6 _] [.g 0,.g 1,.g 2,.g 3,.o 0] U (zv G (ac (aG 4294967295 G)) o0) (zz [(0,_),(1,_),(4,_),(5,_),(6,_)] [] λ a w U=>?_)
 refine zt<|qj ?_
 have U:=St.sel U [0,1,3,4]
 refine wp_loop_ghost (λ n a w=>∃ lo hi:Nat,(lo≤hi∧hi≤4294967295∧D*lo≤R∧R<D*(hi+1)∧n=hi-lo)∧St B w0 28 [(0,(MgA (limbs R)).va),(1,(MgA (limbs D)).va),(5,(NumA .u64 ((lo:Nat):Int)).va),(6,(NumA .u64 ((hi:Nat):Int)).va)] [] a w) (4294967295) ?_ ?_
 ·exact ⟨0,4294967295,⟨by decide,by decide,by omega,hR,rfl⟩,U⟩
 intro n a w hI
 obtain ⟨lo,hi,⟨i1,i2,i3,i4,i5⟩,U⟩:=hI
 refine qb<|qb<|zh [.v 8 _,.v 9 _,.v 10 _] [.g 0,.g 1,.g 2,.g 3,.o 2] U (zM 2 G (zM 3 G (zv G (aS (vq 0 G) (vq 1 G)) o0))) (zz [(0,_),(1,_),(5,_),(6,_),(10,_)] [] λ a w U=>?_)
 refine aa<|aj U (zm 4 G) (λ hb0=>?_) (λ hb0=>?_)
 ·have hlt:lo<hi:=by simp at hb0; omega
  refine qh<|aa<|qj<|qb<|zh [.v 11 _,.v 12 _,.v 13 _,.v 14 _,.v 15 _,.v 7 _] [.g 0,.g 1,.g 2,.g 3,.o 5] U (zM 2 G (zM 3 G (zv G (aN (vq 0 G) (vq 1 G) (wadd64 zo)) (zv G (aN (vq 2 G) (aG 1 G) (wadd64 zo)) (zv G (lC (vq 3 G) (aG 2 G) zd (nquo zo)) (zA 4 G o0)))))) (zz [(0,_),(1,_),(5,_),(6,_),(7,_)] [] λ a w U=>?_)
  refine zt<|zh [.v 16 _,.v 17 _,.v 18 _,.v 19 _,.v 20 _,.v 21 _,.v 22 _] [.g 0,.g 1,.g 2,.g 3,.g 4,.o 6] U (zM 1 G (zM 4 G (zv G (aK .u32 zk zk (vq 1 G) (wu32 zo)) (zQ G (ru (limbs D) ((lo+hi+1)/2) hl zo) (.p (vq 0 G) (vq 2 G)) (zM 0 G (zQ G (nN _ _) (.p (vq 3 G) (vq 4 G)) (zv G (gz (vq 5 G) ab) o0))))))) (zz [(0,_),(1,_),(5,_),(6,_),(7,_),(22,_)] [] λ a w U=>?_)
  refine aa<|aj U (zm 5 G) (λ hb1=>?_) (λ hb1=>?_)
  ·have hq:D*((lo+hi+1)/2)≤R:=by have:=cm_le0.1 (qp hb1); rwa [aH] at this
   refine zh [.v 23 _,.v 5 _] [.g 0,.g 1,.g 3,.o 1] U (zM 4 G (zA 0 G o0)) (zz [(0,_),(1,_),(6,_),(5,_)] [] λ a w U=>?_)
   refine ap ?_
   refine aa ?_
   have U:=St.sel U [0,1,3,2]
   exact ⟨hi-(lo+hi+1)/2,by omega,(lo+hi+1)/2,hi,⟨by omega,i2,hq,i4,rfl⟩,U⟩
  ·have hq:R<D*((lo+hi+1)/2):=by have h9:=xO λ h=>qr hb1 (cm_le0.2 h); rwa [aH] at h9
   refine zh [.v 24 _,.v 25 _,.v 6 _] [.g 0,.g 1,.g 2,.o 2] U (zM 4 G (zv G (c6 (vq 0 G) (aG 1 G) (wsub' zo zo)) (zA 1 G o0))) (zz [(0,_),(1,_),(5,_),(6,_)] [] λ a w U=>?_)
   refine ap ?_
   refine aa ?_
   have U:=St.sel U [0,1,2,3]
   exact ⟨(lo+hi+1)/2-1-lo,by omega,lo,(lo+hi+1)/2-1,⟨by omega,by omega,i3,by rw [jl zo]; exact hq,rfl⟩,U⟩
 ·obtain rfl:lo=hi:=by simp at hb0; omega
  refine qK<|am<|am<|aB<|zt<|zh [.v 26 _,.v 27 _,.v 4 _] [.o 2] U (zM 2 G (zv G (aK .u32 zk zk (vq 0 G) (wu32 zo)) (zA 1 G o0))) (zz [(4,_)] [] λ a w U=>?_)
  refine aa<|qg<|ao ?_ (an G U (zm 0 G))
  rw [← fit_e i3 i4]; exact aL
end Go.Proofs.YtedfcalhhldijaaGreatDoor
