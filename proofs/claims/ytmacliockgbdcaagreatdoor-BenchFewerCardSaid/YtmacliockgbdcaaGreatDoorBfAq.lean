import Derived.Test.YtmacliockgbdcaaGreatDoorBfAa
import Derived.Test.YtmacliockgbdcaaGreatDoorBfAc
import Derived.Test.YtmacliockgbdcaaGreatDoorBfAi
import Derived.Test.YtmacliockgbdcaaGreatDoorBfAl
set_option linter.unusedVariables false
set_option linter.unusedSimpArgs false
set_option linter.unusedSectionVars false
set_option maxRecDepth 100000
namespace Go.Proofs.YtmacliockgbdcaaGreatDoor
open Go Go.RowKit
theorem sc (A:Option Addr)(c:Nat)(w:World):Calls Tryz.prog 213 #[.slice A 0 c] w fun e w'=>e=.returned (.slice A 0 c)∧w=w':=by
 go_enter Tryz.func213,Tryz.ntmps213
 go_wp2
 go_loop [0] (fun v=>v=.slice A 0 c) (fun _=>0)
 case atStart=>rfl
 case round =>
  subst hrel
  go_wp2
  go_ret
  exact ⟨rfl,rfl⟩
theorem qo (b o c:Nat)(l:List Nat)(w:World)(hc:∀ j (h:j<l.length),w.cell? ⟨b,o+j,none⟩=some (.int .u32 (l[j]:Nat)))(hm:l.length≤9223372036854775807)(hnc:l.length≤c) :
  Calls Tryz.prog 213 #[.slice (some ⟨b,o,none⟩) l.length c] w fun e w'=>e=.returned (.slice (some ⟨b,o,none⟩) (trimL l).length c)∧w=w':=by
 obtain ⟨n,hn⟩:∃ n,n=l.length:=⟨_,rfl⟩
 rw [← hn] at hm hnc ⊢
 have HN:Hid (n=l.length):=hn
 clear hn
 go_enter Tryz.func213,Tryz.ntmps213
 go_wp2
 go_loop [0] (fun v=>∃ k:Nat,k≤n∧v=.slice (some ⟨b,o,none⟩) k c∧trimL (l.take k)=trimL l) (fun v=>lenOf v)
 case atStart=>exact ⟨n,Nat.le_refl _,rfl,by rw [List.take_of_length_le (Nat.le_of_eq HN.out.symm)]⟩
 case round =>
  obtain ⟨k,hk,rfl,ht⟩:=hrel
  have HT:Hid (trimL (l.take k)=trimL l):=ht
  clear ht
  cases k with
  | zero =>
   go_wp2
   go_ret
   exact ⟨by rw [← HT.out]; simp [trimL],rfl⟩
  | succ k =>
   have hkl:k<l.length:=by rw [← HN.out]; omega
   obtain ⟨x,hx⟩:∃ x,x=l[k]:=⟨_,rfl⟩
   have hcell:=hc k hkl
   rw [← hx] at hcell
   clear hc
   have HX:Hid (x=l[k]):=hx
   clear hx
   by_cases hz:x=0
   ·subst hz
    go_wp2
    go_round
    case rel=>exact ⟨k,by omega,rfl,by rw [← HT.out,jR hkl HX.out.symm]⟩
    case measure=>simp [lenOf]
   ·have hz':((x:Int)==0)=false:=by simp; omega
    go_wp2
    go_ret
    refine ⟨?_,rfl⟩
    rw [← HT.out,jQ hkl (by rw [← HX.out]; exact hz),List.length_take,Nat.min_eq_left zo]
    rfl
theorem dR {M:List Nat→As}(hM:Fam M)(l:List Nat):Cn Tryz.prog 213 [(M l).va] (M (trimL l)).va:=by
 refine ⟨jn Tryz.func213 zk zk,fun B w args hB ha=>?_⟩
 obtain ⟨v,rfl,hv⟩:=ha.one
 obtain ⟨A,c,rfl,hm,htk⟩:=hM.op _ _ _ _ hv
 have hsh:∀ A',A'=A→(M (trimL l)).va.p B (.slice A' (trimL l).length c) w:=by
  rintro _ rfl
  have:=htk (trimL l).length
  rwa [← gB] at this
 by_cases h0:l.length=0
 ·have hl:l=[]:=List.eq_nil_of_length_eq_zero h0
  subst hl
  refine (sc A c w).mono fun e w' ⟨he,hw⟩=>?_
  subst hw
  exact ⟨_,he,hsh A rfl,Grow.refl w⟩
 ·obtain ⟨b,o,rfl,h1,h2,h3⟩:=hm.at_ zo
  refine (qo b o c l w h3 (by have:=hm.le; have:=hm.max; unfold maxLen at this; omega) hm.le).mono fun e w' ⟨he,hw⟩=>?_
  subst hw
  exact ⟨_,he,hsh _ rfl,Grow.refl w⟩
theorem bY (neg:Bool)(l:List Nat):Cn Tryz.prog 182 [Bo neg,(MgA l).va] ((RIA (rsig neg l)).va):=by
 refine Cn.intro Tryz.func182 G zk nq (fun B w0 a U=>?_)
 have U:=zn [(0,Bo neg),(1,(MgA l).va)] [] U
 refine wp_seq<|zg [] [⟨4,25,ptrH,some 0,_,none⟩] [.alc 0] [.g 0,.g 1] U (oc (aJ G G G (Str.zero (co famA))) o0) (zz [(0,_),(1,_)] [O 4 25 _] fun a w U=>?_)
 refine zt<|zg [none] [] [.v 5 _,.v 6 _,.v 1 _] [.g 0,.o 2] U (zM 1 G (zv G (aa (xs:=[.tmp 5]) (dR famA _) (.cons (vq 0 G) .nil)) (zA 1 G o0))) (zz [(0,_),(1,_)] [O 4 25 _] fun a w U=>?_)
 refine zt<|wp_seq<|zg [none] [] [.v 7 _,.v 8 _,.v 9 _] [.g 0,.g 1,.o 2] U (zM 1 G (zv G (aI Tryz.underlying23 (vq 0 G)) (zv G (bD (vq 1 G) a8) o0))) (zz [(0,_),(1,_),(9,_)] [O 4 25 _] fun a w U=>?_)
 refine a7<|ah U (zm 2 G) (fun hb0=>?_) (fun hb0=>?_)
 ·refine wp_seq<|zg [some (1,_)] [] [.v 10 _,.sto 0] [.g 0,.g 1] U (zv G (bi (xs:=[]) (qs:=[]) (co famA) .nil) (oc (aA G G G (vq 0 G) al (Eq.trans (b:=2) G G)) o0)) (zz [(0,_),(1,_)] [O 4 25 _] fun a w U=>?_)
  refine a7<|wp_ret<|ap ?_
  refine aB ?_ (az G U (zm 0 G) al)
  exact eN (M:=MgA) hb0
 ·refine wp_skip<|zt<|zg [some (3,_)] [] [.v 11 _,.v 12 _,.v 13 _,.sto 0] [] U (zM 0 G (zM 1 G (zv G (bi (xs:=[(0,.tmp 11),(1,.tmp 12)]) (qs:=[(0,_),(1,_)]) (co famA) (.cons ⟨rfl,(vq 0 G),rfl⟩ (.cons ⟨rfl,(vq 1 G),rfl⟩ .nil))) (oc (aA G G G (vq 2 G) al (Eq.trans (b:=2) G G)) o0)))) (zz [] [O 4 25 _] fun a w U=>?_)
  refine a7<|wp_ret<|aB ?_ (az G U (zm 0 G) al)
  exact fU (M:=MgA) hb0
theorem qp (neg:Bool)(l:List Nat):Cn Tryz.prog 182 [Bo neg,(MgN l).va] ((RIN (rsig neg l)).va):=by
 refine Cn.intro Tryz.func182 G zk nq (fun B w0 a U=>?_)
 have U:=zn [(0,Bo neg),(1,(MgN l).va)] [] U
 refine wp_seq<|zg [] [⟨4,25,ptrH,some 0,_,none⟩] [.alc 0] [.g 0,.g 1] U (oc (aJ G G G (Str.zero (co famN))) o0) (zz [(0,_),(1,_)] [O 4 25 _] fun a w U=>?_)
 refine zt<|zg [none] [] [.v 5 _,.v 6 _,.v 1 _] [.g 0,.o 2] U (zM 1 G (zv G (aa (xs:=[.tmp 5]) (dR famN _) (.cons (vq 0 G) .nil)) (zA 1 G o0))) (zz [(0,_),(1,_)] [O 4 25 _] fun a w U=>?_)
 refine zt<|wp_seq<|zg [none] [] [.v 7 _,.v 8 _,.v 9 _] [.g 0,.g 1,.o 2] U (zM 1 G (zv G (aI Tryz.underlying23 (nZ (vq 0 G))) (zv G (bD (vq 1 G) a8) o0))) (zz [(0,_),(1,_),(9,_)] [O 4 25 _] fun a w U=>?_)
 refine a7<|ah U (zm 2 G) (fun hb0=>?_) (fun hb0=>?_)
 ·refine wp_seq<|zg [some (1,_)] [] [.v 10 _,.sto 0] [.g 0,.g 1] U (zv G (bi (xs:=[]) (qs:=[]) (co famN) .nil) (oc (aA G G G (vq 0 G) al (Eq.trans (b:=2) G G)) o0)) (zz [(0,_),(1,_)] [O 4 25 _] fun a w U=>?_)
  refine a7<|wp_ret<|ap ?_
  refine aB ?_ (az G U (zm 0 G) al)
  exact eN (M:=MgN) hb0
 ·refine wp_skip<|zt<|zg [some (3,_)] [] [.v 11 _,.v 12 _,.v 13 _,.sto 0] [] U (zM 0 G (zM 1 G (zv G (bi (xs:=[(0,.tmp 11),(1,.tmp 12)]) (qs:=[(0,_),(1,_)]) (co famN) (.cons ⟨rfl,(vq 0 G),rfl⟩ (.cons ⟨rfl,(vq 1 G),rfl⟩ .nil))) (oc (aA G G G (vq 2 G) al (Eq.trans (b:=2) G G)) o0)))) (zz [] [O 4 25 _] fun a w U=>?_)
  refine a7<|wp_ret<|aB ?_ (az G U (zm 0 G) al)
  exact fU (M:=MgN) hb0
def cmL (l m:List Nat):Int:=if l.length≠m.length then (if l.length<m.length then -1 else 1) else if val l<val m then -1 else if val m<val l then 1 else 0
theorem cm_e0 {l m:List Nat}(h:((l.length:Int) != (m.length:Int))=true)(h2:decide ((l.length:Int)<(m.length:Int))=true):(-1:Int)=cmL l m:=by
 have h':l.length≠m.length:=by simp at h; omega
 unfold cmL
 rw [if_pos h',if_pos (by simp at h2; omega)]
theorem cm_e1 {l m:List Nat}(h:((l.length:Int) != (m.length:Int))=true)(h2:decide ((l.length:Int)<(m.length:Int))=false):(1:Int)=cmL l m:=by
 have h':l.length≠m.length:=by simp at h; omega
 unfold cmL
 rw [if_pos h',if_neg (by simp at h2; omega)]
theorem cm_e2 {l m:List Nat}{j:Nat}(ha:okL l)(hl:l.length=m.length)(hj:j<l.length)(hd:l.drop (j+1)=m.drop (j+1))(h:decide (((l[j]:Nat):Int)<((m[j]'zo:Nat):Int))=true):(-1:Int)=cmL l m:=by
 have:=oH (a:=l) (b:=m) ha hj zo hd (by simpa using h)
 unfold cmL
 rw [if_neg zo,if_pos this]
theorem cm_e3 {l m:List Nat}{j:Nat}(hb:okL m)(hl:l.length=m.length)(hj:j<l.length)(hd:l.drop (j+1)=m.drop (j+1))(h:decide (((l[j]:Nat):Int)>((m[j]'zo:Nat):Int))=true):(1:Int)=cmL l m:=by
 have:=oH (a:=m) (b:=l) hb zo hj hd.symm (by simpa using h)
 unfold cmL
 rw [if_neg zo,if_neg zo,if_pos this]
theorem cm_e4 {l m:List Nat}(hd:l.drop 0=m.drop 0):(0:Int)=cmL l m:=by
 have:l=m:=by simpa using hd
 subst this
 simp [cmL]
theorem mn (l m:List Nat):Cn Tryz.prog 184 [(MgA l).va,(MgA m).va] (In (cmL l m)):=by
 refine Cn.intro Tryz.func184 G zk nq (fun B w0 a U=>?_)
 have U:=zn [(0,(MgA l).va),(1,(MgA m).va)] [] U
 obtain ⟨ha,hla⟩:=U.mag 0 rfl; obtain ⟨hb,hlb⟩:=U.mag 1 rfl
 refine wp_seq<|zh [.v 4 _] [.g 0,.g 1,.o 0] U (zv G (a9 a8) o0) (zz [(0,_),(1,_),(4,_)] [] fun a w U=>?_)
 refine zt<|wp_seq<|zh [.v 6 _,.v 7 _,.v 8 _,.v 9 _,.v 10 _] [.g 0,.g 1,.g 2,.o 4] U (zM 0 G (zv G (aI Tryz.underlying23 (vq 0 G)) (zM 1 G (zv G (aI Tryz.underlying23 (vq 2 G)) (zv G (cI (vq 1 G) (vq 3 G)) o0))))) (zz [(0,_),(1,_),(4,_),(10,_)] [] fun a w U=>?_)
 refine a7<|ah U (zm 3 G) (fun hb0=>?_) (fun hb0=>?_)
 ·refine wp_seq<|wp_seq<|zh [.v 11 _,.v 12 _,.v 13 _,.v 14 _,.v 15 _] [.g 0,.g 1,.g 2,.o 4] U (zM 0 G (zv G (aI Tryz.underlying23 (vq 0 G)) (zM 1 G (zv G (aI Tryz.underlying23 (vq 2 G)) (zv G (aN (vq 1 G) (vq 3 G)) o0))))) (zz [(0,_),(1,_),(4,_),(15,_)] [] fun a w U=>?_)
  refine a7<|ah U (zm 3 G) (fun hb1=>?_) (fun hb1=>?_)
  ·refine wp_seq<|zh [.v 4 _] [.g 0,.g 1,.o 0] U (zv G (a9 a8) o0) (zz [(0,_),(1,_),(4,_)] [] fun a w U=>?_)
   refine a7<|wp_ret<|ap ?_
   refine ap ?_
   refine aB ?_ (am G U (zm 2 G))
   exact nu (cm_e0 hb0 hb1)
  ·refine wp_skip<|zt<|zh [.v 4 _] [.g 0,.g 1,.o 0] U (zv G (a9 a8) o0) (zz [(0,_),(1,_),(4,_)] [] fun a w U=>?_)
   refine a7<|wp_ret<|ap ?_
   refine aB ?_ (am G U (zm 2 G))
   exact nu (cm_e1 hb0 hb1)
 ·have hl:l.length=m.length:=by simp at hb0; omega
  refine wp_skip<|zt<|wp_seq<|zh [.v 16 _,.v 17 _,.v 18 _,.v 5 _] [.g 0,.g 1,.g 2,.o 3] U (zM 0 G (zv G (aI Tryz.underlying23 (vq 0 G)) (zv G (ck (vq 1 G) a8 (wi64 zo zo)) (zA 2 G o0)))) (zz [(0,_),(1,_),(4,_),(5,_)] [] fun a w U=>?_)
  refine a7<|wp_block ?_
  have U:=St.sel U [0,1,3]
  refine wp_loop_ghost (fun n a w=>n≤l.length∧l.drop n=m.drop n∧St B w0 41 [(0,(MgA l).va),(1,(MgA m).va),(5,In ((n:Int)-1))] [] a w) (l.length) ?_ ?_
  ·exact ⟨Nat.le_refl _,by rw [List.drop_length,hl,List.drop_length],U⟩
  intro n a w hI
  obtain ⟨hi,hd,U⟩:=hI
  refine wp_seq<|wp_seq<|zh [.v 19 _,.v 20 _] [.g 0,.g 1,.g 2,.o 1] U (zM 2 G (zv G (eK (vq 0 G) a8) o0)) (zz [(0,_),(1,_),(5,_),(20,_)] [] fun a w U=>?_)
  refine a7<|ah U (zm 3 G) (fun hb2=>?_) (fun hb2=>?_)
  ·obtain ⟨j,rfl⟩:∃ j,n=j+1:=⟨n-1,by simp at hb2; omega⟩; rw [show ((j+1:Nat):Int)-1=(j:Int) from by omega] at U
   refine wp_skip<|zt<|wp_block<|wp_seq<|wp_seq<|zgd [[],[],[0,1],[0,1,2],[],[],[4,5],[4,5,6],[0,1,2,3,4,5,6,7]] [] [] [.v 23 _,.v 24 _,.v 25 _,.v 26 _,.v 27 _,.v 28 _,.v 29 _,.v 30 _,.v 31 _] [.g 0,.g 1,.g 2,.o 8] ab U (zM 0 G (zM 2 G (zv G (bH aZ (vq 0 G) (vq 1 G) zo) (zv G (aq (vq 2 G) aO) (zM 1 G (zM 2 G (zv G (bH aZ (vq 4 G) (vq 5 G) zo) (zv G (aq (vq 6 G) aO) (zv G (aN (vq 3 G) (vq 7 G)) o0))))))))) zk zk zk zk (zz [(0,_),(1,_),(5,_),(31,_)] [] fun a w U=>?_)
   refine a7<|ah U (zm 3 G) (fun hb3=>?_) (fun hb3=>?_)
   ·refine wp_seq<|zh [.v 4 _] [.g 0,.g 1,.g 2,.o 0] U (zv G (a9 a8) o0) (zz [(0,_),(1,_),(5,_),(4,_)] [] fun a w U=>?_)
    refine a7<|wp_ret<|ap ?_
    refine aV ?_
    refine ap ?_
    refine ap ?_
    refine aV ?_
    refine ap ?_
    refine aB ?_ (am G U (zm 3 G))
    exact nu (cm_e2 ha hl zo hd hb3)
   ·refine wp_skip<|zt<|zgd [[],[],[0,1],[0,1,2],[],[],[4,5],[4,5,6],[0,1,2,3,4,5,6,7]] [] [] [.v 32 _,.v 33 _,.v 34 _,.v 35 _,.v 36 _,.v 37 _,.v 38 _,.v 39 _,.v 40 _] [.g 0,.g 1,.g 2,.o 8] ab U (zM 0 G (zM 2 G (zv G (bH aZ (vq 0 G) (vq 1 G) zo) (zv G (aq (vq 2 G) aO) (zM 1 G (zM 2 G (zv G (bH aZ (vq 4 G) (vq 5 G) zo) (zv G (aq (vq 6 G) aO) (zv G (dJ (vq 3 G) (vq 7 G)) o0))))))))) zk zk zk zk (zz [(0,_),(1,_),(5,_),(40,_)] [] fun a w U=>?_)
    refine a7<|ah U (zm 3 G) (fun hb4=>?_) (fun hb4=>?_)
    ·refine wp_seq<|zh [.v 4 _] [.g 0,.g 1,.g 2,.o 0] U (zv G (a9 a8) o0) (zz [(0,_),(1,_),(5,_),(4,_)] [] fun a w U=>?_)
     refine a7<|wp_ret<|aV ?_
     refine ap ?_
     refine ap ?_
     refine aV ?_
     refine ap ?_
     refine aB ?_ (am G U (zm 3 G))
     exact nu (cm_e3 hb hl zo hd hb4)
    ·refine wp_skip<|ao ?_
     refine a7<|zh [.v 21 _,.v 22 _,.v 5 _] [.g 0,.g 1,.o 2] U (zM 2 G (zv G (ck (vq 0 G) a8 (wi64 zo zo)) (zA 1 G o0))) (zz [(0,_),(1,_),(5,_)] [] fun a w U=>?_)
     refine a7 ?_
     have U:=St.sel U [0,1,2]
     exact ⟨j,by omega,by omega,i6 zo zo hd (by simp at hb3 hb4; omega),U⟩
  ·obtain rfl:n=0:=by simp at hb2; omega
   refine wp_exit<|ak<|ak<|aC<|zt<|zh [.v 4 _] [.o 0] U (zv G (a9 a8) o0) (zz [(4,_)] [] fun a w U=>?_)
   refine a7<|wp_ret<|aB ?_ (am G U (zm 0 G))
   exact nu (cm_e4 hd)
theorem oW (x:RI):Cn Tryz.prog 225 [(RIA x).va] (In (if okRI x then 0 else 1)):=by
 refine Cn.intro Tryz.func225 G zk nq (fun B w0 a U=>?_)
 have U:=zn [(0,(RIA x).va)] [] U
 have hk:=(gF (U.vals _ (zm 0 rfl))).2
 refine wp_seq<|zg [] [⟨1,25,ptrH,some 0,_,none⟩] [.alc 0,.v 2 _] [.o 1] U (oc (ay G G G (gq 0 G)) (zv G (a9 a8) o0)) (zz [(2,_)] [O 1 25 _] fun a w U=>?_)
 refine zt<|wp_seq<|gl (sts:=[none]) (news:=[]) (sp:=((.adr 3 1 (.some 1) True:Sp)::(.v 4 _)::(.v 5 _)::(.v 6 _)::(.v 7 _)::(.adr 8 1 (.some 1) (_=false))::(.v 9 (Wh (_=false) _))::(.v 10 (Wh (_=false) _))::(.v 11 (Wh (_=false) _))::(.v 12 (Wh (_=false) _))::(.adr 13 1 (.some 1) ((_=false)∧_=true))::(.v 14 (Wh ((_=false)∧_=true) _))::(.adr 15 1 (.some 1) ((_=false)∧_=true))::(.v 16 (Wh ((_=false)∧_=true) _))::(.v 17 (Wh ((_=false)∧_=true) _))::(.v 18 (Wh ((_=false)∧_=true) _))::(.v 19 (Wh ((_=false)∧_=true) _))::(.v 20 (Wh ((_=false)∧_=true) _))::(.v 21 (Wh ((_=false)∧_=true) _))::(.v 22 (Wh (_=false) _))::(.v 23 _)::(.v 24 _)::(.adr 25 1 (.some 1) (_=false))::(.v 26 (Wh (_=false) _))::(.v 27 (Wh (_=false) _))::(.v 28 (Wh (_=false) _))::(.v 29 (Wh (_=false) _))::(.adr 30 1 (.some 0) ((_=false)∧_=true))::(.v 31 (Wh ((_=false)∧_=true) _))::(.v 32 (Wh (_=false) _))::(.v 33 _)::[])) [.g 0,.o 30] U (oc (ob_a G G (ac (lz0 0 G) au)) (zL 0 0 1 G aW (zv G (aI Tryz.underlying23 (vq 1 G)) (zv G (dJ (vq 2 G) a8) (zv G (ae (vq 3 G)) (oc (bM G G G (vq 4 G) nq (fun hg=>ac (lz0 0 G) au)) (oc (an G G G (vq 4 G) nq (fun hg=>aD 5 G zk hg (lz0 0 G) (Sub.part 1 G G) aW)) (oc (an G G G (vq 4 G) nq (fun hg=>aI Tryz.underlying23 (ai (vq 6 G) hg))) (oc (an G G G (vq 4 G) nq (fun hg=>dJ (ai (vq 7 G) hg) a8)) (oc (an G G G (vq 4 G) nq (fun hg=>ae (ai (vq 8 G) hg))) (oc (eR G G G (vq 9 G) nq (fun hg=>ac (lz0 0 G) au)) (oc (bB G G G (vq 9 G) nq (fun hg=>aD 10 G zk hg (lz0 0 G) (Sub.part 1 G G) aW)) (oc (eR G G G (vq 9 G) nq (fun hg=>ac (lz0 0 G) au)) (oc (bB G G G (vq 9 G) nq (fun hg=>aD 12 G zk hg (lz0 0 G) (Sub.part 1 G G) aW)) (oc (bB G G G (vq 9 G) nq (fun hg=>aI Tryz.underlying23 (ai (vq 13 G) hg))) (oc (bB G G G (vq 9 G) nq (fun hg=>ck (ai (vq 14 G) hg) a8 (zp (by have h:=hg.2; simp at h; omega) hk))) (oc (bB G G G (vq 9 G) nq (fun hg=>kI aZ (ai (vq 11 G) hg) (ai (vq 15 G) hg) (by have h:=hg.2; simp at h; omega))) (oc (bB G G G (vq 9 G) nq (fun hg=>aq (ai (vq 16 G) hg) aO)) (oc (bB G G G (vq 9 G) nq (fun hg=>bD (ai (vq 17 G) hg) (aF 0 G))) (oc (an G G G (vq 4 G) nq (fun hg=>bJ (ai (vq 9 G) hg) (eD (vq 18 G) hg))) (zv G (r_or (vq 4 G) (vq 19 G)) (zv G (ae (vq 20 G)) (oc (bM G G G (vq 21 G) nq (fun hg=>ac (lz0 0 G) au)) (oc (an G G G (vq 21 G) nq (fun hg=>aD 22 G zk hg (lz0 0 G) (Sub.part 1 G G) aW)) (oc (an G G G (vq 21 G) nq (fun hg=>aI Tryz.underlying23 (ai (vq 23 G) hg))) (oc (an G G G (vq 21 G) nq (fun hg=>bD (ai (vq 24 G) hg) a8)) (oc (an G G G (vq 21 G) nq (fun hg=>ae (ai (vq 25 G) hg))) (oc (eR G G G (vq 26 G) nq (fun hg=>ac (lz0 0 G) aU)) (oc (bB G G G (vq 26 G) nq (fun hg=>aD 27 G zk hg (lz0 0 G) (Sub.part 0 G G) ty_4)) (oc (an G G G (vq 21 G) nq (fun hg=>bJ (ai (vq 26 G) hg) (eD (vq 28 G) hg))) (zv G (r_or (vq 21 G) (vq 29 G)) o0))))))))))))))))))))))))))))))) (zz [(2,_),(33,_)] [O 1 25 _] fun a w U=>?_)
 refine a7<|ah U (zm 1 G) (fun hb0=>?_) (fun hb0=>?_)
 ·refine wp_seq<|zg [none] [] [.v 2 _] [.o 0] U (zv G (a9 a8) o0) (zz [(2,_)] [O 1 25 _] fun a w U=>?_)
  refine a7<|wp_ret<|ap ?_
  refine aB ?_ (am G U (zm 0 G))
  exact nu (qa hb0)
 ·refine wp_skip<|zt<|zg [none] [] [.v 2 _] [.o 0] U (zv G (a9 a8) o0) (zz [(2,_)] [O 1 25 _] fun a w U=>?_)
  refine a7<|wp_ret<|aB ?_ (am G U (zm 0 G))
  exact nu (pZ hb0)
theorem iP (x:RI):Cn Tryz.prog 189 [(RIA x).va] (In (sgI x)):=by
 refine Cn.intro Tryz.func189 G zk nq (fun B w0 a U=>?_)
 have U:=zn [(0,(RIA x).va)] [] U
 refine wp_seq<|zg [] [⟨1,25,ptrH,some 0,_,none⟩] [.alc 0,.v 2 _] [.o 1] U (oc (ay G G G (gq 0 G)) (zv G (a9 a8) o0)) (zz [(2,_)] [O 1 25 _] fun a w U=>?_)
 refine zt<|wp_seq<|zg [none] [] [.adr 3 1 (.some 1) True,.v 4 _,.v 5 _,.v 6 _] [.g 0,.o 3] U (oc (ob_a G G (ac (lz0 0 G) au)) (zL 0 0 1 G aW (zv G (aI Tryz.underlying23 (vq 1 G)) (zv G (bD (vq 2 G) a8) o0)))) (zz [(2,_),(6,_)] [O 1 25 _] fun a w U=>?_)
 refine a7<|ah U (zm 1 G) (fun hb0=>?_) (fun hb0=>?_)
 ·refine wp_seq<|zg [none] [] [.v 2 _] [.o 0] U (zv G (a9 a8) o0) (zz [(2,_)] [O 1 25 _] fun a w U=>?_)
  refine a7<|wp_ret<|ap ?_
  refine aB ?_ (am G U (zm 0 G))
  exact nu (rV hb0)
 ·refine wp_skip<|zt<|wp_seq<|zg [none] [] [.adr 7 1 (.some 0) True,.v 8 _] [.g 0,.o 1] U (oc (ob_a G G (ac (lz0 0 G) aU)) (zL 0 0 0 G ty_4 o0)) (zz [(2,_),(8,_)] [O 1 25 _] fun a w U=>?_)
  refine a7<|ah U (zm 1 G) (fun hb1=>?_) (fun hb1=>?_)
  ·refine wp_seq<|zg [none] [] [.v 2 _] [.o 0] U (zv G (a9 a8) o0) (zz [(2,_)] [O 1 25 _] fun a w U=>?_)
   refine a7<|wp_ret<|ap ?_
   refine aB ?_ (am G U (zm 0 G))
   exact nu (rU hb0 hb1)
  ·refine wp_skip<|zt<|zg [none] [] [.v 2 _] [.o 0] U (zv G (a9 a8) o0) (zz [(2,_)] [O 1 25 _] fun a w U=>?_)
   refine a7<|wp_ret<|aB ?_ (am G U (zm 0 G))
   exact nu (rT hb0 hb1)
theorem fa {m n:Nat}:cmL (limbs m) (limbs n)=if m<n then -1 else if n<m then 1 else 0:=by
 unfold cmL
 rw [aG,aG]
 by_cases h:(limbs m).length=(limbs n).length
 ·rw [if_neg zo]
 ·rw [if_pos h]
  by_cases h2:m≤n
  ·have:=cf h2
   have:m≠n:=fun e=>h (by rw [e])
   rw [if_pos zo,if_pos zo]
  ·have:=cf (Nat.le_of_lt (Nat.lt_of_not_le h2))
   rw [if_neg zo,if_neg zo,if_pos zo]
theorem iN (p:Int):p.sign=if p<0 then -1 else if p=0 then 0 else 1:=by
 rcases Int.lt_trichotomy p 0 with h | h | h
 ·rw [if_pos h,Int.sign_eq_neg_one_of_neg h]
 ·subst h; rfl
 ·rw [if_neg zo,if_neg zo,Int.sign_eq_one_of_pos h]
theorem rc_e0 {p q:Int}(h:(sgI (riOf p) != sgI (riOf q))=true)(h2:decide (sgI (riOf p)<sgI (riOf q))=true):(-1:Int)=sg3 p q:=by
 rw [decide_eq_true_eq,de,de,iN,iN] at h2
 unfold sg3
 rw [if_pos]
 split at h2 <;> split at h2 <;> (try split at h2) <;> (try split at h2) <;> omega
theorem rc_e1 {p q:Int}(h:(sgI (riOf p) != sgI (riOf q))=true)(h2:decide (sgI (riOf p)<sgI (riOf q))=false):(1:Int)=sg3 p q:=by
 rw [decide_eq_false_iff_not,de,de,iN,iN] at h2
 have h3:sgI (riOf p)≠sgI (riOf q):=by simpa using h
 rw [de,de,iN,iN] at h3
 unfold sg3
 rw [if_neg,if_pos] <;> (split at h2 <;> split at h2 <;> (try split at h2) <;> (try split at h2) <;> (try split at h3) <;> (try split at h3) <;> (try split at h3) <;> omega)
theorem rc_sg {p q:Int}(h:(sgI (riOf p) != sgI (riOf q))=false):(p<0↔q<0)∧(p=0↔q=0):=by
 have h3:sgI (riOf p)=sgI (riOf q):=by simpa using h
 rw [de,de,iN,iN] at h3
 split at h3 <;> split at h3 <;> (try split at h3) <;> (try split at h3) <;> omega
theorem rc_e2 {p q:Int}(h:(sgI (riOf p) != sgI (riOf q))=false)(h2:decide (sgI (riOf p)<0)=true) : -(cmL (riOf p).mag (riOf q).mag)=sg3 p q:=by
 have h1:=rc_sg h
 rw [decide_eq_true_eq,de,iN] at h2
 have hp:p<0:=by split at h2 <;> (try split at h2) <;> omega
 show -(cmL (limbs p.natAbs) (limbs q.natAbs))=_
 rw [fa]
 unfold sg3
 split <;> split <;> (try split) <;> omega
theorem rc_e3 {p q:Int}(h:(sgI (riOf p) != sgI (riOf q))=false)(h2:decide (sgI (riOf p)<0)=false):cmL (riOf p).mag (riOf q).mag=sg3 p q:=by
 have h1:=rc_sg h
 rw [decide_eq_false_iff_not,de,iN] at h2
 have hp:¬ p<0:=by intro hp; rw [if_pos hp] at h2; omega
 show cmL (limbs p.natAbs) (limbs q.natAbs)=_
 rw [fa]
 unfold sg3
 split <;> split <;> (try split) <;> omega
theorem cmL_bd (l m:List Nat) : -1≤cmL l m∧cmL l m≤1:=by
 unfold cmL
 split <;> split <;> (try split) <;> omega
theorem Dh {p:Int}:(RIA (rsig (!(riOf p).neg) (riOf p).mag)).va=Zi (-p):=by
 rw [bS (kS p) (z := -p) (by rw [bx]; omega) (fun hz=>by show (!decide (p<0))=_; by_cases h:p<0 <;> simp [h] <;> omega)]
theorem size_e {p:Int}:(RIA (rsig false (riOf p).mag)).va=Zi ((p.natAbs:Nat):Int):=by
 rw [bS (kS p) (z:=((p.natAbs:Nat):Int)) (by rw [bx]; omega) (fun hz=>by simp)]
theorem Ay (p q:Int):Cn Tryz.prog 235 [Zi p,Zi q] (In (sg3 p q)):=by
 refine Cn.intro Tryz.func235 G zk nq (fun B w0 a U=>?_)
 have U:=zn [(0,Zi p),(1,Zi q)] [] U
 have hbd:=cmL_bd (riOf p).mag (riOf q).mag
 refine wp_seq<|zg [] [⟨2,25,ptrH,some 0,_,none⟩,⟨3,25,ptrH,some 1,_,none⟩] [.alc 0,.alc 1,.v 4 _] [.o 2] U (oc (ay G G G (gq 0 G)) (oc (ay G G G (gq 1 G)) (zv G (a9 a8) o0))) (zz [(4,_)] [O 2 25 _,O 3 25 _] fun a w U=>?_)
 refine zt<|zg [none,none] [] [.v 8 _,.v 9 _,.v 5 _] [.g 0,.o 2] U (zl 0 G al (zv G (aa (xs:=[.tmp 8]) (iP (riOf p)) (.cons (vq 0 G) .nil)) (zA 1 G o0))) (zz [(4,_),(5,_)] [O 2 25 _,O 3 25 _] fun a w U=>?_)
 refine zt<|zg [none,none] [] [.v 10 _,.v 11 _,.v 6 _] [.g 0,.g 1,.o 2] U (zl 1 G al (zv G (aa (xs:=[.tmp 10]) (iP (riOf q)) (.cons (vq 0 G) .nil)) (zA 1 G o0))) (zz [(4,_),(5,_),(6,_)] [O 2 25 _,O 3 25 _] fun a w U=>?_)
 refine zt<|wp_seq<|zg [none,none] [] [.v 12 _,.v 13 _,.v 14 _] [.g 0,.g 1,.g 2,.o 2] U (zM 1 G (zM 2 G (zv G (cI (vq 0 G) (vq 1 G)) o0))) (zz [(4,_),(5,_),(6,_),(14,_)] [O 2 25 _,O 3 25 _] fun a w U=>?_)
 refine a7<|ah U (zm 3 G) (fun hb0=>?_) (fun hb0=>?_)
 ·refine wp_seq<|wp_seq<|zg [none,none] [] [.v 15 _,.v 16 _,.v 17 _] [.g 0,.g 1,.o 2] U (zM 1 G (zM 2 G (zv G (aN (vq 0 G) (vq 1 G)) o0))) (zz [(4,_),(5,_),(17,_)] [O 2 25 _,O 3 25 _] fun a w U=>?_)
  refine a7<|ah U (zm 2 G) (fun hb1=>?_) (fun hb1=>?_)
  ·refine wp_seq<|zg [none,none] [] [.v 4 _] [.g 1,.o 0] U (zv G (a9 a8) o0) (zz [(5,_),(4,_)] [O 2 25 _,O 3 25 _] fun a w U=>?_)
   refine a7<|wp_ret<|ap ?_
   refine ap ?_
   refine aB ?_ (am G U (zm 1 G))
   exact nu (rc_e0 hb0 hb1)
  ·refine wp_skip<|zt<|zg [none,none] [] [.v 4 _] [.g 1,.o 0] U (zv G (a9 a8) o0) (zz [(5,_),(4,_)] [O 2 25 _,O 3 25 _] fun a w U=>?_)
   refine a7<|wp_ret<|ap ?_
   refine aB ?_ (am G U (zm 1 G))
   exact nu (rc_e1 hb0 hb1)
 ·refine wp_skip<|zt<|zg [none,none] [] [.adr 18 2 (.some 1) True,.v 19 _,.adr 20 3 (.some 1) True,.v 21 _,.v 22 _,.v 7 _] [.g 0,.g 1,.o 5] U (oc (ob_a G G (ac (lz0 0 G) au)) (zL 0 0 1 G aW (oc (ob_a G G (ac (lz0 1 G) au)) (zL 2 1 1 G aW (zv G (aa (xs:=[.tmp 19,.tmp 21]) (mn _ _) (.cons (vq 1 G) (.cons (vq 3 G) .nil))) (zA 4 G o0)))))) (zz [(4,_),(5,_),(7,_)] [O 2 25 _,O 3 25 _] fun a w U=>?_)
  refine zt<|wp_seq<|zg [none,none] [] [.v 23 _,.v 24 _] [.g 0,.g 2,.o 1] U (zM 1 G (zv G (aN (vq 0 G) a8) o0)) (zz [(4,_),(7,_),(24,_)] [O 2 25 _,O 3 25 _] fun a w U=>?_)
  refine a7<|ah U (zm 2 G) (fun hb2=>?_) (fun hb2=>?_)
  ·refine wp_seq<|zg [none,none] [] [.v 25 _,.v 26 _,.v 4 _] [.g 1,.o 2] U (zM 1 G (zv G (qu (vq 0 G) ((wi64 zo zo).trans (Int.zero_sub _))) (zA 1 G o0))) (zz [(7,_),(4,_)] [O 2 25 _,O 3 25 _] fun a w U=>?_)
   refine a7<|wp_ret<|ap ?_
   refine aB ?_ (am G U (zm 1 G))
   exact nu (rc_e2 hb0 hb2)
  ·refine wp_skip<|zt<|zg [none,none] [] [.v 27 _,.v 4 _] [.o 1] U (zM 1 G (zA 0 G o0)) (zz [(4,_)] [O 2 25 _,O 3 25 _] fun a w U=>?_)
   refine a7<|wp_ret<|aB ?_ (am G U (zm 0 G))
   exact nu (rc_e3 hb0 hb2)
theorem CO {p q:Int}:decide (sg3 p q<0)=decide (p<q):=by
 unfold sg3
 split
 ·rename_i h; rw [decide_eq_true h]; rfl
 ·rename_i h; rw [decide_eq_false h]; split <;> rfl
theorem wa (p q:Int):Cn Tryz.prog 226 [Zi p,Zi q] (Bo (decide (p<q))):=by
 refine Cn.intro Tryz.func226 G zk nq (fun B w0 a U=>?_)
 have U:=zn [(0,Zi p),(1,Zi q)] [] U
 refine wp_seq<|zg [] [⟨2,25,ptrH,some 0,_,none⟩,⟨3,25,ptrH,some 1,_,none⟩] [.alc 0,.alc 1,.v 4 _] [.o 2] U (oc (ay G G G (gq 0 G)) (oc (ay G G G (gq 1 G)) (zv G (a9 aK) o0))) (zz [(4,_)] [O 2 25 _,O 3 25 _] fun a w U=>?_)
 refine zt<|zg [none,none] [] [.v 5 _,.v 6 _,.v 7 _,.v 8 _,.v 4 _] [.o 4] U (zl 0 G al (zl 1 G al (zv G (aa (xs:=[.tmp 5,.tmp 6]) (Ay p q) (.cons (vq 0 G) (.cons (vq 1 G) .nil))) (zv G (aN (vq 2 G) a8) (zA 3 G o0))))) (zz [(4,_)] [O 2 25 _,O 3 25 _] fun a w U=>?_)
 refine a7<|wp_ret<|aB ?_ (am G U (zm 0 G))
 exact congrArg Bo CO
theorem w6 (n:Int)(h0 : -9223372036854775808≤n)(h1:n<9223372036854775808):Cn Tryz.prog 212 [In n] (Zi n):=by
 refine Cn.intro Tryz.func212 G zk nq (fun B w0 a U=>?_)
 have U:=zn [(0,In n)] [] U
 refine wp_seq<|zg [] [⟨2,25,ptrH,some 0,_,none⟩] [.alc 0] [.g 0] U (oc (aJ G G G (Str.zero bm)) o0) (zz [(0,_)] [O 2 25 _] fun a w U=>?_)
 refine zt<|zg [none] [] [.v 4 _,.v 5 _,.v 3 _] [.g 0,.o 2] U (zM 0 G (zv G (aE .u64 zk zk (vq 0 G) (G)) (zA 1 G o0))) (zz [(0,_),(3,_)] [O 2 25 _] fun a w U=>?_)
 refine zt<|wp_seq<|zg [none] [] [.v 6 _,.v 7 _] [.g 0,.g 1,.o 1] U (zM 0 G (zv G (aN (vq 0 G) a8) o0)) (zz [(0,_),(3,_),(7,_)] [O 2 25 _] fun a w U=>?_)
 refine a7<|bO (fun a w =>  St B w0 20 [(0,In n),(3,(NumA .u64 (n.natAbs:Nat)).va)] [⟨2,25,ptrH,cat [BoA false,MgA []]⟩] a w) U (zm 2 G) (fun hb0=>?_) (fun hb0=>?_) (fun a w U=>?_)
 ·refine zg [none] [] [.v 8 _,.v 9 _,.v 3 _] [.g 0,.o 2] U (zM 1 G (zv G (ck (aF 0 G) (vq 0 G) (G)) (zA 1 G o0))) (zz [(0,_),(3,_)] [O 2 25 _] fun a w U=>?_)
  refine a7 ?_
  have U:=St.sel U [0,1]
  rw [show IntKind.u64.wrap (((0:Nat):Int)-IntKind.u64.wrap n)=_ from B7 h0 hb0] at U; exact U
 ·refine wp_skip<|a7 ?_
  have U:=St.sel U [0,1]
  rw [B6 h1 hb0] at U; exact U
 refine zt<|zg [some (10,_)] [] [.v 10 _,.v 11 _,.v 12 _,.v 13 _,.v 14 _,.v 15 _,.v 16 _,.v 17 _,.v 18 _,.v 19 _,.sto 0] [] U (zM 0 G (zv G (aN (vq 0 G) a8) (zM 1 G (zv G (jD (vq 2 G) (aF 4294967296 G) zd (nrem)) (zv G (aE .u32 zk zk (vq 3 G) (wu32 (Nat.mod_lt _ zd))) (zM 1 G (zv G (jE (vq 5 G) (aF 4294967296 G) zd (nquo zo)) (zv G (aE .u32 zk zk (vq 6 G) (wu32 zo)) (zv G (da (l:=[_,_]) (xs:=[.tmp 14,.tmp 17]) aZ zk nq nq (te h0 h1) (.cons (vq 4 G) (.cons (vq 7 G) .nil)) G G) (zv G (aa (xs:=[.tmp 11,.tmp 18]) (bY _ _) (.cons (vq 1 G) (.cons (vq 8 G) .nil))) (oc (aA G G G (vq 9 G) al (Eq.trans (b:=2) G G)) o0))))))))))) (zz [] [O 2 25 _] fun a w U=>?_)
 refine a7<|wp_ret<|aB ?_ (az G U (zm 0 G) al)
 exact of_e2 h0 h1
theorem sb (p:Int):Cn Tryz.prog 217 [Zi p] (Zi (-p)):=by
 refine Cn.intro Tryz.func217 G zk nq (fun B w0 a U=>?_)
 have U:=zn [(0,Zi p)] [] U
 refine wp_seq<|zg [] [⟨1,25,ptrH,some 0,_,none⟩,⟨2,25,ptrH,some 1,_,none⟩] [.alc 0,.alc 1] [] U (oc (ay G G G (gq 0 G)) (oc (aJ G G G (Str.zero bm)) o0)) (zz [] [O 1 25 _,O 2 25 _] fun a w U=>?_)
 refine zt<|zg [none,some (6,_)] [] [.adr 3 1 (.some 0) True,.v 4 _,.v 5 _,.adr 6 1 (.some 1) True,.v 7 _,.v 8 _,.sto 1] [] U (oc (ob_a G G (ac (lz0 0 G) aU)) (zL 0 0 0 G ty_4 (zv G (dS (vq 1 G)) (oc (ob_a G G (ac (lz0 0 G) au)) (zL 3 0 1 G aW (zv G (aa (xs:=[.tmp 5,.tmp 7]) (bY _ _) (.cons (vq 2 G) (.cons (vq 4 G) .nil))) (oc (aA G G G (vq 5 G) al (Eq.trans (b:=2) G G)) o0))))))) (zz [] [O 1 25 _,O 2 25 _] fun a w U=>?_)
 refine a7<|wp_ret<|aB ?_ (az G U (zm 1 G) al)
 exact Dh
abbrev NL (l:List Nat):List As:=l.map fun (x:Nat)=>NumA .u32 (x:Int)
theorem jt:∃ it z,Tryz.prog.info? 109=some it∧it.zero=some z∧it.size=1∧it.bytes=4∧z.cells.size=1:=by
 have h:((Tryz.prog.info? 109).bind fun it=>it.zero.map fun z=>(it.size,it.bytes,z.cells.size))=some (1,4,1):=by kernel_rfl
 cases hi:Tryz.prog.info? 109 with
 | none=>rw [hi] at h; simp at h
 | some it =>
  rw [hi] at h
  cases hz:it.zero with
  | none=>simp [hz] at h
  | some z =>
   simp [hz] at h
   exact ⟨it,z,rfl,hz,h.1,h.2.1,h.2.2⟩
theorem sY {b:Nat}{l:List Nat}(ok:okL l):Wk (OwnR b U32 1 [] (NL l)) (MgA l).va:=fun B v w h=>xN ok (eP B v w h)
theorem ew {x:Nat}(h:x<4294967296):okL [x]:=fun y hy=>by simp at hy; omega
theorem xS {l m:List Nat}{i:Nat}:sumTo l m (i+1)=sumTo l m i+4294967296^i*(l.getD i 0+m.getD i 0):=by
 unfold sumTo
 rw [en,en,Nat.mul_add]
 omega
def addN (l m:List Nat):Nat:=if val l+val m<4294967296^max l.length m.length then max l.length m.length else max l.length m.length+1
theorem kA {l m:List Nat}{i:Nat}(h:max l.length m.length≤i):sumTo l m i=val l+val m:=by
 unfold sumTo
 rw [List.take_of_length_le zo,List.take_of_length_le zo]
theorem xT {l m:List Nat}(hl:okL l)(hm:okL m):val l+val m<4294967296^(max l.length m.length+1):=by
 have h1:=Nat.lt_of_lt_of_le (eM hl) (Nat.pow_le_pow_right (by decide:0<4294967296) (Nat.le_max_left l.length m.length))
 have h2:=Nat.lt_of_lt_of_le (eM hm) (Nat.pow_le_pow_right (by decide:0<4294967296) (Nat.le_max_right l.length m.length))
 rw [Nat.pow_succ]
 omega
structure AddI (l m:List Nat) (i:Nat):Prop where
 le:i≤max l.length m.length+1
 top:i=max l.length m.length+1→4294967296^max l.length m.length≤val l+val m
theorem AddI.more {l m:List Nat}{i:Nat}(h:AddI l m i)(hl:okL l)(hm:okL m)(hb:((decide ((i:Int)<(l.length:Int)) || decide ((i:Int)<(m.length:Int))) || decide (((sumTo l m i/4294967296^i:Nat):Int)>((0:Nat):Int)))=true):i≤max l.length m.length∧AddI l m (i+1):=by
 have h0:=h.le
 simp only [Bool.or_eq_true,decide_eq_true_eq] at hb
 have h1:i≠max l.length m.length+1:=by
  intro e
  have h3:=xT hl hm
  have h4:sumTo l m i/4294967296^i=0:=by
   rw [kA zo,e]
   exact Nat.div_eq_of_lt h3
  rw [h4] at hb
  omega
 refine ⟨by omega,by omega,fun e=>?_⟩
 have e':i=max l.length m.length:=by omega
 have h3:0<sumTo l m i/4294967296^i:=by
  rcases hb with (hb | hb) | hb
  ·omega
  ·omega
  ·omega
 rw [kA zo,e'] at h3
 exact (Nat.div_pos_iff.1 h3).2
theorem AddI.fin {l m:List Nat}{i:Nat}(h:AddI l m i)(hl:okL l)(hm:okL m)(hb:((decide ((i:Int)<(l.length:Int)) || decide ((i:Int)<(m.length:Int))) || decide (((sumTo l m i/4294967296^i:Nat):Int)>((0:Nat):Int)))=false):digs i (sumTo l m i)=digs (addN l m) (val l+val m):=by
 simp only [Bool.or_eq_false_iff,decide_eq_false_iff_not] at hb
 have h0:=h.le
 have h1:max l.length m.length≤i:=by omega
 rw [kA h1]
 rw [kA h1] at hb
 congr 1
 unfold addN
 by_cases e:i=max l.length m.length+1
 ·have:=h.top e
  rw [if_neg zo,e]
 ·have e':i=max l.length m.length:=by omega
  rw [if_pos,e']
  rw [← e']
  have hp:0<4294967296^i:=Nat.pow_pos zd
  refine (Nat.div_eq_zero_iff_lt hp).1 ?_
  generalize (val l+val m)/4294967296^i=z at *
  omega
theorem CV {l m:List Nat}{i:Nat}:NL (digs i (sumTo l m i))++NL [(sumTo l m i/4294967296^i+l.getD i 0+m.getD i 0)%4294967296]=NL (digs (i+1) (sumTo l m (i+1))):=by
 unfold NL
 rw [xS,dG,List.map_append,Nat.add_assoc]
theorem CX {l m:List Nat}{i:Nat}:(sumTo l m i/4294967296^i+l.getD i 0+m.getD i 0)/4294967296=sumTo l m (i+1)/4294967296^(i+1):=by
 rw [xS,carry_step',Nat.add_assoc]
theorem radd_c (l m:List Nat)(hls:l.length≤10000000000)(hms:m.length≤10000000000):Cn Tryz.prog 183 [(MgA l).va,(MgA m).va] ((MgA (digs (addN l m) (val l+val m))).va):=by
 obtain ⟨it,z,e1,e2,e3,e4,e5⟩:=jt
 refine Cn.introF Tryz.func183 G zk nq (fun B w0 a hF U=>?_)
 have U:=zn [(0,(MgA l).va),(1,(MgA m).va)] [] U
 obtain ⟨v0,hv0,U⟩:=St.eqv U 0 rfl
 obtain ⟨v1,hv1,U⟩:=St.eqv U 1 rfl
 have hl:=(dH hv0).1; have hm:=(dH hv1).1
 refine wp_seq<|zh [.v 4 _] [.g 0,.g 1,.o 0] U (zv G (a9 aP) o0) (zz [(0,_),(1,_),(4,_)] [] fun a w U=>?_)
 refine zt<|zh [.v 5 _] [.g 0,.g 1,.g 2,.o 0] U (zv G (a9 aP) o0) (zz [(0,_),(1,_),(4,_),(5,_)] [] fun a w U=>?_)
 refine zt<|zh [.v 6 _] [.g 0,.g 1,.g 2,.g 3,.o 0] U (zv G (a9 (aF 0 G)) o0) (zz [(0,_),(1,_),(4,_),(5,_),(6,_)] [] fun a w U=>?_)
 refine zt<|wp_seq<|zh [.v 7 _] [.g 0,.g 1,.g 2,.g 3,.g 4,.o 0] U (zv G (a9 a8) o0) (zz [(0,_),(1,_),(4,_),(5,_),(6,_),(7,_)] [] fun a w U=>?_)
 refine a7<|wp_block ?_
 have U:=St.sel U [0,1,3,4,5]
 refine wp_loop_ghost (fun n a w=>∃ i:Nat,(n+i=max l.length m.length+1∧AddI l m i)∧St B w0 57 [(0,EqV v0),(1,EqV v1),(5,OwnR w0.w.heap.size U32 1 [] (NL (digs i (sumTo l m i)))),(6,(NumA .u64 ((sumTo l m i/4294967296^i:Nat):Int)).va),(7,In (i:Nat))] [] a w) (max l.length m.length+1) ?_ ?_
 ·exact ⟨0,⟨rfl,⟨by omega,fun h=>by omega⟩⟩,St.wkG (A':=(NumA .u64 ((sumTo l m 0/4294967296^0:Nat):Int)).va) (St.wkG U 2 rfl fH) 3 rfl (bc (congrArg (fun x:Nat=>(NumA .u64 (x:Int)).va) (by simp [fh]:0=sumTo l m 0/4294967296^0)))⟩
 intro n a w hI
 obtain ⟨i,⟨hn,hI⟩,U⟩:=hI
 have hc:=eH hl hm i
 refine wp_seq<|wp_seq<|zh [.v 9 _,.v 10 _,.v 11 _,.v 12 _,.v 13 _,.v 14 (Wh (_=false) _),.v 15 (Wh (_=false) _),.v 16 (Wh (_=false) _),.v 17 (Wh (_=false) _),.v 18 _,.v 19 _,.v 20 (Wh (_=false) _),.v 21 (Wh (_=false) _),.v 22 _] [.g 0,.g 1,.g 2,.g 3,.g 4,.o 13] U (zM 4 G (zM 0 G (zv G (aI Tryz.underlying23 (bE hF hv0 (vq 1 G))) (zv G (aN (vq 0 G) (vq 2 G)) (zv G (ae (vq 3 G)) (oc (an G G G (vq 4 G) nq (fun hg=>ae (gq 4 G))) (oc (an G G G (vq 4 G) nq (fun hg=>ae (gq 1 G))) (oc (an G G G (vq 4 G) nq (fun hg=>aI Tryz.underlying23 (bE hF hv1 (ai (vq 6 G) hg)))) (oc (an G G G (vq 4 G) nq (fun hg=>aN (ai (vq 5 G) hg) (ai (vq 7 G) hg))) (zv G (r_or (vq 4 G) (vq 8 G)) (zv G (ae (vq 9 G)) (oc (an G G G (vq 10 G) nq (fun hg=>ae (gq 3 G))) (oc (an G G G (vq 10 G) nq (fun hg=>dJ (ai (vq 11 G) hg) (aF 0 G))) (zv G (r_or (vq 10 G) (vq 12 G)) o0)))))))))))))) (zz [(0,_),(1,_),(5,_),(6,_),(7,_),(22,_)] [] fun a w U=>?_)
 refine a7<|ah U (zm 5 G) (fun hb0=>?_) (fun hb0=>?_)
 ·obtain ⟨hi,hI2⟩:=hI.more hl hm hb0
  have hg1:=eZ hl i
  have hg2:=eZ hm i
  refine wp_skip<|zt<|wp_block<|wp_seq<|zh [.v 25 _,.v 8 _] [.g 0,.g 1,.g 2,.g 3,.g 4,.o 1] U (zM 3 G (zA 0 G o0)) (zz [(0,_),(1,_),(5,_),(6,_),(7,_),(8,_)] [] fun a w U=>?_)
  refine zt<|wp_seq<|zh [.v 26 _,.v 27 _,.v 28 _,.v 29 _] [.g 0,.g 1,.g 2,.g 3,.g 4,.g 5,.o 3] U (zM 4 G (zM 0 G (zv G (aI Tryz.underlying23 (bE hF hv0 (vq 1 G))) (zv G (aN (vq 0 G) (vq 2 G)) o0)))) (zz [(0,_),(1,_),(5,_),(6,_),(7,_),(8,_),(29,_)] [] fun a w U=>?_)
  refine a7<|bO (fun a w =>  St B w0 57 [(0,EqV v0),(1,EqV v1),(5,OwnR w0.w.heap.size U32 1 [] (NL (digs i (sumTo l m i)))),(7,In (i:Nat)),(8,(NumA .u64 ((sumTo l m i/4294967296^i+l.getD i 0:Nat):Int)).va)] [] a w) U (zm 6 G) (fun hb1=>?_) (fun hb1=>?_) (fun a w U=>?_)
  ·refine zh [.v 30 _,.v 31 _,.v 32 _,.v 33 _,.v 34 _,.v 35 _,.v 36 _,.v 8 _] [.g 0,.g 1,.g 2,.g 3,.g 4,.o 7] U (zM 5 G (zM 0 G (zM 4 G (zv G (bH aZ (bE hF hv0 (vq 1 G)) (vq 2 G) (by simp at hb1; omega)) (zv G (aq (vq 3 G) aO) (zv G (aE .u64 zk zk (vq 4 G) (wu64 (Nat.lt_trans (hl _ (List.getElem_mem _)) zd))) (zv G (aR (vq 0 G) (vq 5 G) (wadd64 (by have:=hl _ (List.getElem_mem (by simp at hb1; omega:i<l.length)); omega))) (zA 6 G o0)))))))) (zz [(0,_),(1,_),(5,_),(6,_),(7,_),(8,_)] [] fun a w U=>?_)
   refine a7 ?_
   have U:=St.sel U [0,1,2,4,5]
   rw [cK (by simp at hb1; omega)]; exact U
  ·refine wp_skip<|a7 ?_
   have U:=St.sel U [0,1,2,4,5]
   rw [dF (by simp at hb1; omega)]; exact U
  refine zt<|wp_seq<|zh [.v 37 _,.v 38 _,.v 39 _,.v 40 _] [.g 0,.g 1,.g 2,.g 3,.g 4,.o 3] U (zM 3 G (zM 1 G (zv G (aI Tryz.underlying23 (bE hF hv1 (vq 1 G))) (zv G (aN (vq 0 G) (vq 2 G)) o0)))) (zz [(0,_),(1,_),(5,_),(7,_),(8,_),(40,_)] [] fun a w U=>?_)
  refine a7<|bO (fun a w =>  St B w0 57 [(0,EqV v0),(1,EqV v1),(5,OwnR w0.w.heap.size U32 1 [] (NL (digs i (sumTo l m i)))),(7,In (i:Nat)),(8,(NumA .u64 ((sumTo l m i/4294967296^i+l.getD i 0+m.getD i 0:Nat):Int)).va)] [] a w) U (zm 5 G) (fun hb2=>?_) (fun hb2=>?_) (fun a w U=>?_)
  ·refine zh [.v 41 _,.v 42 _,.v 43 _,.v 44 _,.v 45 _,.v 46 _,.v 47 _,.v 8 _] [.g 0,.g 1,.g 2,.g 3,.o 7] U (zM 4 G (zM 1 G (zM 3 G (zv G (bH aZ (bE hF hv1 (vq 1 G)) (vq 2 G) (by simp at hb2; omega)) (zv G (aq (vq 3 G) aO) (zv G (aE .u64 zk zk (vq 4 G) (wu64 (Nat.lt_trans (hm _ (List.getElem_mem _)) zd))) (zv G (aR (vq 0 G) (vq 5 G) (wadd64 (by have:=hm _ (List.getElem_mem (by simp at hb2; omega:i<m.length)); omega))) (zA 6 G o0)))))))) (zz [(0,_),(1,_),(5,_),(7,_),(8,_)] [] fun a w U=>?_)
   refine a7 ?_
   have U:=St.sel U [0,1,2,3,4]
   rw [cK (by simp at hb2; omega) (l:=m)]; exact U
  ·refine wp_skip<|a7 ?_
   have U:=St.sel U [0,1,2,3,4]
   rw [dF (by simp at hb2; omega) (l:=m)]; exact U
  refine zt<|ll (sp:=[.v 48 _,.v 49 _,.v 50 _,.v 51 _,.v 52 _,.v 53 VT,.v 5 VT]) 5 [0,1,3,4] 0 4 U (zM 2 rfl (zM 4 rfl (zv rfl (jD (vq 1 rfl) (aF 4294967296 rfl) zd (nrem)) (zv rfl (aE .u32 zk zk (vq 2 rfl) (wu32 (Nat.mod_lt _ zd))) (zv rfl (da (l:=[_]) (xs:=[.tmp 51]) aZ zk nq nq ((ew (Nat.mod_lt _ zd))) (.cons (vq 3 rfl) .nil) rfl rfl) o0))))) rfl zk rfl rfl zd rfl zd rfl (fun _ _ h _=>(dH h).2) Tryz.underlying23 e1 e2 e3 e4 e5 zd (by simp only [List.length_map,aw,List.length_singleton]; omega) zd (fun T hT=>hT) zd (fun A hA=>by obtain ⟨_,_,rfl⟩:=List.mem_map.1 hA; rfl) zk nq nq zk zk (zz [(5,_),(0,_),(1,_),(7,_),(8,_)] [] fun a w U=>?_)
  refine a7<|zh [.v 54 _,.v 55 _,.v 6 _] [.g 0,.g 1,.g 2,.g 3,.o 2] U (zM 4 G (zv G (jE (vq 0 G) (aF 4294967296 G) zd (nquo zo)) (zA 1 G o0))) (zz [(5,_),(0,_),(1,_),(7,_),(6,_)] [] fun a w U=>?_)
  refine ao ?_
  refine a7<|zh [.v 23 _,.v 24 _,.v 7 _] [.g 0,.g 1,.g 2,.g 4,.o 2] U (zM 3 G (zv G (aR (vq 0 G) a8 (aX zo)) (zA 1 G o0))) (zz [(5,_),(0,_),(1,_),(6,_),(7,_)] [] fun a w U=>?_)
  refine a7 ?_
  have U:=St.sel U [1,2,0,3,4]
  exact ⟨n-1,by omega,i+1,⟨by omega,hI2⟩,St.wkG (A':=(NumA .u64 ((sumTo l m (i+1)/4294967296^(i+1):Nat):Int)).va) (St.wkG (A':=OwnR w0.w.heap.size U32 1 [] (NL (digs (i+1) (sumTo l m (i+1))))) U 2 G (bc (congrArg (OwnR w0.w.heap.size U32 1 []) CV))) 3 G (bc (congrArg (fun x:Nat=>(NumA .u64 (x:Int)).va) CX))⟩
 ·refine wp_exit<|ak<|ak<|aC<|zt<|zh [.v 56 _,.v 4 _] [.o 1] U (zM 2 G (zA 0 G o0)) (zz [(4,_)] [] fun a w U=>?_)
  refine a7<|wp_ret<|ar ?_ (am G U (zm 0 G))
  rw [hI.fin hl hm hb0]; exact sY (bN _ _)
def MgB (b:Nat)(l:List Nat):As where
 n:=1
 ag:=false
 p B cs w:=(MgA l).p B cs w∧∀ c∈cs,∀ g,blk c=some g→b≤g
 deps:=(MgA l).deps
 len:=fun B cs w h=>(MgA l).len B cs w h.1
 one:=fun B cs w h=>(MgA l).one B cs w h.1
 ag1:=fun _=>rfl
 cg:=fun B cs w w' hg h=>⟨(MgA l).cg B cs w w' hg h.1,h.2⟩
 wr:=fun B cs w w' g c T fz h1 h2 h3 h4 h=>⟨(MgA l).wr B cs w w' g c T fz h1 h2 h3 h4 h.1,h.2⟩
theorem mB {b:Nat}{l:List Nat}:Wk (MgB b l).va (MgA l).va:=fun _ _ _ ⟨cs,h,hv⟩=>⟨cs,h.1,hv⟩
theorem mA {b B:Nat}{l:List Nat}{v:Value}{w:World}(h:(MgB b l).va.p B v w):∀ g,blk v=some g→b≤g:=by
 obtain ⟨cs,⟨h1,h2⟩,hv⟩:=h
 have hn:=(MgA l).len _ _ _ h1
 match cs,hn with
 | [c],_ =>
  have e:v=c:=hv
  subst e
  exact h2 _ (by simp)
theorem tv {b B:Nat}{l:List Nat}{v:Value}{w:World}(h:(MgA l).va.p B v w)(hb:∀ g,blk v=some g→b≤g):(MgB b l).va.p B v w:=by
 obtain ⟨cs,h1,hv⟩:=h
 have hn:=(MgA l).len _ _ _ h1
 match cs,hn with
 | [c],_ =>
  have e:v=c:=hv
  subst e
  exact ⟨[v],⟨h1,fun c hc=>by simp at hc; subst hc; exact hb⟩,rfl⟩
theorem famB (b:Nat):Fam (MgB b):=⟨fun _=>rfl,fun _=>rfl,fun l B v w h=>by
 obtain ⟨A,c,hv,hm,hk⟩:=famA.op l B v w (mB _ _ _ h)
 refine ⟨A,c,hv,hm,fun k=>tv (hk k) fun g hg=>mA h g ?_⟩
 rw [hv]
 cases A with
 | none=>cases hg
 | some ad=>exact hg,fun B w=>⟨eU B w,fun c hc g hg=>by simp at hc; subst hc; cases hg⟩⟩
theorem sX {b:Nat}{l:List Nat}(ok:okL l):Wk (OwnR b U32 1 [] (NL l)) (MgB b l).va:=fun B v w h=>tv (sY ok B v w h) fun g hg=>by
 obtain ⟨_,_,ds,_,_,h5⟩:=h
 rcases h5 with ⟨h5,_⟩ | ⟨g',cap,cur,e1,e2,_⟩
 ·have e:v=.slice none 0 0:=h5
  rw [e] at hg
  cases hg
 ·rw [e1] at hg
  injection hg with hg
  rw [← hg]
  exact e2
theorem wsub' {x y:Nat}(h:y≤x)(hx:x<18446744073709551616):IntKind.u64.wrap ((x:Int)-(y:Int))=((x-y:Nat):Int):=by
 have e:((x:Int)-(y:Int))=((x-y:Nat):Int):=by omega
 rw [e,wu64 zo]
theorem zY {l m:List Nat}{i:Nat}(h:i<l.length)(hl:okL l)(hm:okL m):NL (digs i (dif l m i))++NL [(if l[i]<1-dif l m i/4294967296^i+m.getD i 0 then l[i]+4294967296 else l[i])-(1-dif l m i/4294967296^i+m.getD i 0)]=NL (digs (i+1) (dif l m (i+1))):=by
 have h1:=eZ hm i
 have h2:=pT (m:=m) hl i
 have h3:=hl _ (List.getElem_mem h)
 unfold NL
 rw [lG h hm,dG,List.map_append]
 congr 3
 generalize dif l m i/4294967296^i=q at *
 generalize m.getD i 0=y at *
 generalize l[i]=x at *
 split <;> omega
theorem A4 {l m:List Nat}{i:Nat}(h:i<l.length)(hl:okL l)(hm:okL m):(if l[i]<1-dif l m i/4294967296^i+m.getD i 0 then 1 else 0)=1-dif l m (i+1)/4294967296^(i+1):=by
 rw [Nat.add_comm]
 exact iK h hl hm rfl
theorem zZ {l m:List Nat}(hl:okL l)(h:m.length≤l.length)(hv:val m≤val l):trimL (digs l.length (dif l m l.length))=limbs (val l-val m):=by
 have:=lX hl h hv
 unfold subSt at this
 rw [Nat.sub_self,List.replicate_zero,List.append_nil] at this
 exact this
theorem si (l m:List Nat)(hls:l.length≤10000000000)(hml:m.length≤l.length)(hv:val m≤val l):CnI Tryz.prog 185 [(MgA l).va,(MgA m).va] (fun b=>(MgB b (limbs (val l-val m))).va):=by
 obtain ⟨it,z,e1,e2,e3,e4,e5⟩:=jt
 refine CnI.introF Tryz.func185 G zk nq (fun B w0 a hF0 hF U=>?_)
 have U:=zn [(0,(MgA l).va),(1,(MgA m).va)] [] U
 obtain ⟨v0,hv0,U⟩:=St.eqv U 0 rfl
 obtain ⟨v1,hv1,U⟩:=St.eqv U 1 rfl
 have hl:=(dH hv0).1; have hm:=(dH hv1).1
 refine wp_seq<|zh [.v 4 _] [.g 0,.g 1,.o 0] U (zv G (a9 aP) o0) (zz [(0,_),(1,_),(4,_)] [] fun a w U=>?_)
 refine zt<|zh [.v 5 _] [.g 0,.g 1,.g 2,.o 0] U (zv G (a9 aP) o0) (zz [(0,_),(1,_),(4,_),(5,_)] [] fun a w U=>?_)
 refine zt<|zh [.v 6 _] [.g 0,.g 1,.g 2,.g 3,.o 0] U (zv G (a9 (aF 0 G)) o0) (zz [(0,_),(1,_),(4,_),(5,_),(6,_)] [] fun a w U=>?_)
 refine zt<|wp_seq<|zh [.v 7 _] [.g 0,.g 1,.g 2,.g 3,.g 4,.o 0] U (zv G (a9 a8) o0) (zz [(0,_),(1,_),(4,_),(5,_),(6,_),(7,_)] [] fun a w U=>?_)
 refine a7<|wp_block ?_
 have U:=St.sel U [0,1,3,4,5]
 refine wp_loop_ghost (fun n a w=>∃ i:Nat,(n+i=l.length)∧St B w0 47 [(0,EqV v0),(1,EqV v1),(5,OwnR w0.w.heap.size U32 1 [] (NL (digs i (dif l m i)))),(6,(NumA .u64 ((1-dif l m i/4294967296^i:Nat):Int)).va),(7,In (i:Nat))] [] a w) (l.length) ?_ ?_
 ·exact ⟨0,by omega,St.wkG (A':=(NumA .u64 ((1-dif l m 0/4294967296^0:Nat):Int)).va) (St.wkG U 2 G fH) 3 G (bc (congrArg (fun x:Nat=>(NumA .u64 (x:Int)).va) (pS l m).symm))⟩
 intro n a w hI
 obtain ⟨i,hn,U⟩:=hI
 have hc:=pT (m:=m) hl i
 have hc1:1-dif l m i/4294967296^i≤1:=Nat.sub_le _ _
 have hg2:=eZ hm i
 refine wp_seq<|wp_seq<|zh [.v 10 _,.v 11 _,.v 12 _,.v 13 _] [.g 0,.g 1,.g 2,.g 3,.g 4,.o 3] U (zM 4 G (zM 0 G (zv G (aI Tryz.underlying23 (bE hF hv0 (vq 1 G))) (zv G (aN (vq 0 G) (vq 2 G)) o0)))) (zz [(0,_),(1,_),(5,_),(6,_),(7,_),(13,_)] [] fun a w U=>?_)
 refine a7<|ah U (zm 5 G) (fun hb0=>?_) (fun hb0=>?_)
 ·have hi:i<l.length:=by simp at hb0; omega
  have hx:=hl _ (List.getElem_mem hi)
  refine wp_skip<|zt<|wp_block<|wp_seq<|zh [.v 16 _,.v 8 _] [.g 0,.g 1,.g 2,.g 3,.g 4,.o 1] U (zM 3 G (zA 0 G o0)) (zz [(0,_),(1,_),(5,_),(6,_),(7,_),(8,_)] [] fun a w U=>?_)
  refine zt<|wp_seq<|zh [.v 17 _,.v 18 _,.v 19 _,.v 20 _] [.g 0,.g 1,.g 2,.g 3,.g 4,.g 5,.o 3] U (zM 4 G (zM 1 G (zv G (aI Tryz.underlying23 (bE hF hv1 (vq 1 G))) (zv G (aN (vq 0 G) (vq 2 G)) o0)))) (zz [(0,_),(1,_),(5,_),(6,_),(7,_),(8,_),(20,_)] [] fun a w U=>?_)
  refine a7<|bO (fun a w =>  St B w0 47 [(0,EqV v0),(1,EqV v1),(5,OwnR w0.w.heap.size U32 1 [] (NL (digs i (dif l m i)))),(7,In (i:Nat)),(8,(NumA .u64 ((1-dif l m i/4294967296^i+m.getD i 0:Nat):Int)).va)] [] a w) U (zm 6 G) (fun hb1=>?_) (fun hb1=>?_) (fun a w U=>?_)
  ·refine zh [.v 21 _,.v 22 _,.v 23 _,.v 24 _,.v 25 _,.v 26 _,.v 27 _,.v 8 _] [.g 0,.g 1,.g 2,.g 3,.g 4,.o 7] U (zM 5 G (zM 1 G (zM 4 G (zv G (bH aZ (bE hF hv1 (vq 1 G)) (vq 2 G) (by simp at hb1; omega)) (zv G (aq (vq 3 G) aO) (zv G (aE .u64 zk zk (vq 4 G) (wu64 (Nat.lt_trans (hm _ (List.getElem_mem _)) zd))) (zv G (aR (vq 0 G) (vq 5 G) (wadd64 (by have:=hm _ (List.getElem_mem (by simp at hb1; omega:i<m.length)); omega))) (zA 6 G o0)))))))) (zz [(0,_),(1,_),(5,_),(6,_),(7,_),(8,_)] [] fun a w U=>?_)
   refine a7 ?_
   have U:=St.sel U [0,1,2,4,5]
   rw [cK (by simp at hb1; omega) (l:=m)]; exact U
  ·refine wp_skip<|a7 ?_
   have U:=St.sel U [0,1,2,4,5]
   rw [dF (by simp at hb1; omega) (l:=m)]; exact U
  refine zt<|zh [.v 28 _,.v 29 _,.v 30 _,.v 31 _,.v 32 _,.v 9 _] [.g 0,.g 1,.g 2,.g 3,.g 4,.o 5] U (zM 0 G (zM 3 G (zv G (bH aZ (bE hF hv0 (vq 0 G)) (vq 1 G) hi) (zv G (aq (vq 2 G) aO) (zv G (aE .u64 zk zk (vq 3 G) (wu64 (Nat.lt_trans (hl _ (List.getElem_mem _)) zd))) (zA 4 G o0)))))) (zz [(0,_),(1,_),(5,_),(7,_),(8,_),(9,_)] [] fun a w U=>?_)
  refine zt<|zh [.v 6 _] [.g 0,.g 1,.g 2,.g 3,.g 4,.g 5,.o 0] U (zv G (a9 (aF 0 G)) o0) (zz [(0,_),(1,_),(5,_),(7,_),(8,_),(9,_),(6,_)] [] fun a w U=>?_)
  refine zt<|wp_seq<|zh [.v 33 _,.v 34 _,.v 35 _] [.g 0,.g 1,.g 2,.g 3,.g 4,.g 5,.g 6,.o 2] U (zM 5 G (zM 4 G (zv G (aN (vq 0 G) (vq 1 G)) o0))) (zz [(0,_),(1,_),(5,_),(7,_),(8,_),(9,_),(6,_),(35,_)] [] fun a w U=>?_)
  refine a7<|bO (fun a w =>  St B w0 47 [(0,EqV v0),(1,EqV v1),(5,OwnR w0.w.heap.size U32 1 [] (NL (digs i (dif l m i)))),(6,(NumA .u64 (((if l[i]<1-dif l m i/4294967296^i+m.getD i 0 then 1 else 0):Nat):Int)).va),(7,In (i:Nat)),(8,(NumA .u64 ((1-dif l m i/4294967296^i+m.getD i 0:Nat):Int)).va),(9,(NumA .u64 (((if l[i]<1-dif l m i/4294967296^i+m.getD i 0 then l[i]+4294967296 else l[i]):Nat):Int)).va)] [] a w) U (zm 7 G) (fun hb2=>?_) (fun hb2=>?_) (fun a w U=>?_)
  ·refine wp_seq<|zh [.v 36 _,.v 37 _,.v 9 _] [.g 0,.g 1,.g 2,.g 3,.g 4,.g 6,.o 2] U (zM 5 G (zv G (aR (vq 0 G) (aF 4294967296 G) (wadd64 zo)) (zA 1 G o0))) (zz [(0,_),(1,_),(5,_),(7,_),(8,_),(6,_),(9,_)] [] fun a w U=>?_)
   refine a7<|zh [.v 6 _] [.g 0,.g 1,.g 2,.g 3,.g 4,.g 6,.o 0] U (zv G (a9 (aF 1 G)) o0) (zz [(0,_),(1,_),(5,_),(7,_),(8,_),(9,_),(6,_)] [] fun a w U=>?_)
   refine a7 ?_
   have U:=St.sel U [0,1,2,6,3,4,5]
   have hlt:l[i]<1-dif l m i/4294967296^i+m.getD i 0:=Int.ofNat_lt.1 (of_decide_eq_true hb2)
   rw [if_pos hlt,if_pos hlt]; exact U
  ·refine wp_skip<|a7 ?_
   have U:=St.sel U [0,1,2,6,3,4,5]
   have hlt:¬ l[i]<1-dif l m i/4294967296^i+m.getD i 0:=fun h=>of_decide_eq_false hb2 (Int.ofNat_lt.2 h)
   rw [if_neg hlt,if_neg hlt]; exact U
  refine a7<|ll (sp:=[.v 38 _,.v 39 _,.v 40 _,.v 41 _,.v 42 _,.v 43 _,.v 44 VT,.v 5 VT]) 6 [0,1,3,4] 0 5 U (zM 2 rfl (zM 6 rfl (zM 5 rfl (zv rfl (ck (vq 1 rfl) (vq 2 rfl) (wsub' (by split <;> omega) (by split <;> omega))) (zv rfl (aE .u32 zk zk (vq 3 rfl) (wu32 (by split <;> omega))) (zv rfl (da (l:=[_]) (xs:=[.tmp 42]) aZ zk nq nq ((ew (by split <;> omega))) (.cons (vq 4 rfl) .nil) rfl rfl) o0)))))) rfl zk rfl rfl zd rfl zd rfl (fun _ _ h _=>(dH h).2) Tryz.underlying23 e1 e2 e3 e4 e5 zd (by simp only [List.length_map,aw,List.length_singleton]; omega) zd (fun T hT=>hT) zd (fun A hA=>by obtain ⟨_,_,rfl⟩:=List.mem_map.1 hA; rfl) zk nq nq zk zk (zz [(5,_),(0,_),(1,_),(6,_),(7,_)] [] fun a w U=>?_)
  refine ao ?_
  refine a7<|zh [.v 14 _,.v 15 _,.v 7 _] [.g 0,.g 1,.g 2,.g 3,.o 2] U (zM 4 G (zv G (aR (vq 0 G) a8 (aX zo)) (zA 1 G o0))) (zz [(5,_),(0,_),(1,_),(6,_),(7,_)] [] fun a w U=>?_)
  refine a7 ?_
  have U:=St.sel U [1,2,0,3,4]
  exact ⟨n-1,by omega,i+1,by omega,St.wkG (A':=(NumA .u64 ((1-dif l m (i+1)/4294967296^(i+1):Nat):Int)).va) (St.wkG (A':=OwnR w0.w.heap.size U32 1 [] (NL (digs (i+1) (dif l m (i+1))))) U 2 G (bc (congrArg (OwnR w0.w.heap.size U32 1 []) (zY hi hl hm)))) 3 G (bc (congrArg (fun x:Nat=>(NumA .u64 (x:Int)).va) (A4 hi hl hm)))⟩
 ·obtain rfl:i=l.length:=by simp at hb0; omega
  have U:=St.wkG (A':=(MgB w0.w.heap.size (digs l.length (dif l m l.length))).va) U 2 rfl (sX (bN _ _))
  refine wp_exit<|ak<|ak<|aC<|zt<|zh [.v 45 _,.v 46 _,.v 4 _] [.o 2] U (zM 2 G (zv G (aa (xs:=[.tmp 45]) (dR (famB w0.w.heap.size) _) (.cons (vq 0 G) .nil)) (zA 1 G o0))) (zz [(4,_)] [] fun a w U=>?_)
  refine a7<|wp_ret<|ar ?_ (am G U (zm 0 G))
  rw [zZ hl hml hv]; exact bh
theorem CnI.cn {P:Program}{f:FuncId}{pre:List VA}{mk:Nat→VA}{A:VA}(h:CnI P f pre mk)(hw:∀ b,Wk (mk b) A):Cn P f pre A:=⟨h.1,fun B w args hB ha=>(h.2 B w args hB ha).mono fun e w' ⟨v,he,hv,hg⟩=>⟨v,he,hw _ _ _ _ hv,hg⟩⟩
theorem sf (l m:List Nat)(hls:l.length≤10000000000)(hml:m.length≤l.length)(hv:val m≤val l):Cn Tryz.prog 185 [(MgA l).va,(MgA m).va] (MgA (limbs (val l-val m))).va:=(si l m hls hml hv).cn fun _=>mB
theorem MulI.step' {a b L:List Nat}{i u k c:Nat}(h:MulI a b L i u k c)(hb:okL b)(hu:u<4294967296)(hk:k<b.length)(hj:i+k<L.length) :
  MulI a b (L.set (i+k) ((u*b[k]+L[i+k]+c)%4294967296)) i u (k+1) ((u*b[k]+L[i+k]+c)/4294967296):=by
 have:=h.step hb hu hk hj
 rw [Nat.add_comm c] at this
 exact this
theorem Bd {a b L:List Nat}(ha:okL a)(hb:okL b)(h:MulO a b L a.length):trimL L=limbs (val a*val b):=by
 rw [h.fin,gC]
 rw [Nat.pow_add]
 exact Nat.mul_lt_mul'' (eM ha) (eM hb)
theorem sk (l m:List Nat)(hls:l.length≤1099511627776)(hms:m.length≤1099511627776):Cn Tryz.prog 186 [(MgA l).va,(MgA m).va] ((MgN (limbs (val l*val m))).va):=by
 refine Cn.introW Tryz.func186 G zk nq (.cons (iF _).va (.cons (iF _).va .nil)) (dP _).va (fun B w0 a hB0 U=>?_)
 have U:=zn [(0,(MgO l).va),(1,(MgO m).va)] [] U
 have ha:=(U.magO 0 rfl).1; have hb:=(U.magO 1 rfl).1
 refine wp_seq<|zh [.v 4 _] [.g 0,.g 1,.o 0] U (zv G (a9 aP) o0) (zz [(0,_),(1,_),(4,_)] [] fun a w U=>?_)
 refine zt<|d7 (sts:=[]) (news:=[⟨15,109,slH _ _,some 5,_,none⟩]) (sp:=[.v 10 _,.v 11 _,.v 12 _,.v 13 _,.v 14 _,.alc 0,.adr 5 15 .none True]) [.g 0,.g 1,.g 2] [(5,15)] [⟨5,109,slH _ _,_⟩] U (zM 0 G (zv G (aI Tryz.underlying23 (aL (vq 0 G))) (zM 1 G (zv G (aI Tryz.underlying23 (aL (vq 2 G))) (zv G (aR (vq 1 G) (vq 3 G) (fQ zo)) (oc (dU G G G eI (vq 4 G) (vq 4 G) zo) (oc (ob_a G G jy) o0))))))) zk zk zk ⟨⟨6,rfl⟩,trivial⟩ G zk (zz [(0,_),(1,_),(4,_)] [⟨5,109,slH _ _,_⟩] fun a w U=>?_)
 refine zt<|wp_seq<|zg [none] [] [.v 6 _] [.g 0,.g 1,.g 2,.o 0] U (zv G (a9 a8) o0) (zz [(0,_),(1,_),(4,_),(6,_)] [⟨5,109,slH _ _,_⟩] fun a w U=>?_)
 refine a7<|wp_block ?_
 have U:=St.sel U [0,1,3]
 refine wp_loop_ghost (fun n a w=>∃ (i:Nat) (L:List Nat),n+i=l.length∧MulO l m L i∧St B w0 69 [(0,(MgO l).va),(1,(MgO m).va),(6,In (i:Nat))] [⟨5,109,slH (l.length+m.length) (l.length+m.length),Nums .u32 L⟩] a w) (l.length) ?_ ?_
 ·exact ⟨0,_,by omega,MulO.start _ _,U⟩
 intro n a w hI
 obtain ⟨i,L,hn,hO,U⟩:=hI; obtain ⟨n1,hn1⟩:∃ n1,n1=n:=⟨n,rfl⟩; have hlen:=hO.len
 refine wp_seq<|wp_seq<|zg [none] [] [.v 16 _,.v 17 _,.v 18 _,.v 19 _] [.g 0,.g 1,.g 2,.o 3] U (zM 2 G (zM 0 G (zv G (aI Tryz.underlying23 (aL (vq 1 G))) (zv G (aN (vq 0 G) (vq 2 G)) o0)))) (zz [(0,_),(1,_),(6,_),(19,_)] [⟨5,109,slH _ _,_⟩] fun a w U=>?_)
 refine a7<|ah U (zm 3 G) (fun hb0=>?_) (fun hb0=>?_)
 ·have hi:i<l.length:=by simp at hb0; omega
  refine wp_skip<|zt<|wp_block<|wp_seq<|zg [none] [] [.v 7 _] [.g 0,.g 1,.g 2,.o 0] U (zv G (a9 (aF 0 G)) o0) (zz [(0,_),(1,_),(6,_),(7,_)] [⟨5,109,slH _ _,_⟩] fun a w U=>?_)
  refine zt<|wp_seq<|zg [none] [] [.v 8 _] [.g 0,.g 1,.g 2,.g 3,.o 0] U (zv G (a9 a8) o0) (zz [(0,_),(1,_),(6,_),(7,_),(8,_)] [⟨5,109,slH _ _,_⟩] fun a w U=>?_)
  refine a7<|wp_block ?_
  have U:=St.sel U [0,1,2,3,4]
  refine wp_loop_ghost (fun n a w=>∃ (k c:Nat) (L:List Nat),n+k=m.length∧MulI l m L i l[i] k c∧St B w0 69 [(0,(MgO l).va),(1,(MgO m).va),(6,In (i:Nat)),(7,(NumA .u64 ((c:Nat):Int)).va),(8,In (k:Nat))] [⟨5,109,slH (l.length+m.length) (l.length+m.length),Nums .u32 L⟩] a w) (m.length) ?_ ?_
  ·exact ⟨0,0,L,by omega,hO.row _,U⟩
  intro n a w hI
  clear hlen hO; obtain ⟨k,c,L,hn2,hI,U⟩:=hI; have hlen:=hI.len; have hc:=hI.cl
  refine wp_seq<|wp_seq<|zg [none] [] [.v 22 _,.v 23 _,.v 24 _,.v 25 _] [.g 0,.g 1,.g 2,.g 3,.g 4,.o 3] U (zM 4 G (zM 1 G (zv G (aI Tryz.underlying23 (aL (vq 1 G))) (zv G (aN (vq 0 G) (vq 2 G)) o0)))) (zz [(0,_),(1,_),(6,_),(7,_),(8,_),(25,_)] [⟨5,109,slH _ _,_⟩] fun a w U=>?_)
  refine a7<|ah U (zm 5 G) (fun hb1=>?_) (fun hb1=>?_)
  ·have hk:k<m.length:=by simp at hb1; omega
   refine wp_skip<|zt<|wp_block<|wp_seq<|zgd [[],[],[0,1],[0,1,2],[0,1,2,3],[],[],[5,6],[5,6,7],[5,6,7,8],[0,1,2,3,4,5,6,7,8,9],[],[],[],[12,13],[11,12,13,14],[11,12,13,14,15],[11,12,13,14,15,16],[0,1,2,3,4,5,6,7,8,9,10,11,12,13,14,15,16,17],[],[0,1,2,3,4,5,6,7,8,9,10,11,12,13,14,15,16,17,18,19],[0,1,2,3,4,5,6,7,8,9,10,11,12,13,14,15,16,17,18,19,20]] [none] [] [.v 28 _,.v 29 _,.v 30 _,.v 31 _,.v 32 _,.v 33 _,.v 34 _,.v 35 _,.v 36 _,.v 37 _,.v 38 _,.adr 39 5 .none True,.v 40 _,.v 41 _,.v 42 _,.adr 43 5 (.some _) True,.v 44 _,.v 45 _,.v 46 _,.v 47 _,.v 48 _,.v 9 _] [.g 0,.g 1,.g 2,.g 3,.g 4,.o 21] ab U (zM 0 G (zM 2 G (zv G (bH aZ (aL (vq 0 G)) (vq 1 G) zo) (zv G (aq (vq 2 G) aO) (zv G (aE .u64 zk zk (vq 3 G) (wu64 (Nat.lt_trans (ha _ (List.getElem_mem _)) zd))) (zM 1 G (zM 4 G (zv G (bH aZ (aL (vq 5 G)) (vq 6 G) zo) (zv G (aq (vq 7 G) aO) (zv G (aE .u64 zk zk (vq 8 G) (wu64 (Nat.lt_trans (hb _ (List.getElem_mem _)) zd))) (zv G (kG (vq 4 G) (vq 9 G) (wmul64 (Nat.lt_of_le_of_lt (Nat.le_trans (Nat.le_add_right _ _) (Nat.le_add_left _ _)) (gZ (ha _ (List.getElem_mem _)) (hb _ (List.getElem_mem _)) (show 0<4294967296 by decide) (show 0<4294967296 by decide))))) (oc (ob_a G G cL) (zM 2 G (zM 4 G (zv G (aR (vq 12 G) (vq 13 G) (fQ zo)) (oc (ob_a G G (em 11 G zk (lz0 0 G) aZ (vq 14 G) zo)) (zv G (nF 15 G zk (lz0 0 G) (fun _=>bX _ _ _ _) (kV zo) aO) (zv G (aE .u64 zk zk (vq 16 G) (wu64 (Nat.lt_trans (hI.ok _ (List.getElem_mem _)) zd))) (zv G (aR (vq 10 G) (vq 17 G) (wadd64 (Nat.lt_of_le_of_lt (Nat.le_add_left _ _) (gZ (ha _ (List.getElem_mem _)) (hb _ (List.getElem_mem _)) hc (hI.ok _ (List.getElem_mem _)))))) (zM 3 G (zv G (aR (vq 18 G) (vq 19 G) (wadd64 (by rw [Nat.add_comm]; exact gZ (ha _ (List.getElem_mem _)) (hb _ (List.getElem_mem _)) hc (hI.ok _ (List.getElem_mem _))))) (zA 20 G o0)))))))))))))))))))))) zk zk zk zk (zz [(0,_),(1,_),(6,_),(7,_),(8,_),(9,_)] [⟨5,109,slH _ _,_⟩] fun a w U=>?_)
   refine zt<|zg [some (8,_)] [] [.adr 49 5 .none True,.v 50 _,.v 51 _,.v 52 _,.v 53 _,.v 54 _,.v 55 _,.adr 56 5 (.some _) True,.sto 0] [.g 0,.g 1,.g 2,.g 3,.g 4,.g 5] U (oc (ob_a G G cL) (zM 2 G (zM 4 G (zv G (aR (vq 1 G) (vq 2 G) (fQ zo)) (zM 5 G (zv G (jD (vq 4 G) (aF 4294967296 G) zd (nrem)) (zv G (aE .u32 zk zk (vq 5 G) (wu32 (Nat.mod_lt _ zd))) (oc (ob_a G G (em 0 G zk (lz0 0 G) aZ (vq 3 G) zo)) (oc (cA 7 G G G G zk (fun _=>bX _ _ _ _) (vq 6 G) aO (bC zo)) o0))))))))) (zz [(0,_),(1,_),(6,_),(7,_),(8,_),(9,_)] [⟨5,109,slH _ _,_⟩] fun a w U=>?_)
   refine a7<|zg [none] [] [.v 57 _,.v 58 _,.v 7 _] [.g 0,.g 1,.g 2,.g 4,.o 2] U (zM 5 G (zv G (jE (vq 0 G) (aF 4294967296 G) zd (nquo (Nat.lt_of_le_of_lt (Nat.div_le_self _ _) (by rw [Nat.add_comm]; exact gZ (ha _ (List.getElem_mem _)) (hb _ (List.getElem_mem _)) hc (hI.ok _ (List.getElem_mem _)))))) (zA 1 G o0))) (zz [(0,_),(1,_),(6,_),(8,_),(7,_)] [⟨5,109,slH _ _,_⟩] fun a w U=>?_)
   refine ao ?_
   refine a7<|zg [none] [] [.v 26 _,.v 27 _,.v 8 _] [.g 0,.g 1,.g 2,.g 4,.o 2] U (zM 3 G (zv G (aR (vq 0 G) a8 (aX zo)) (zA 1 G o0))) (zz [(0,_),(1,_),(6,_),(7,_),(8,_)] [⟨5,109,slH _ _,_⟩] fun a w U=>?_)
   refine a7 ?_
   have U:=St.sel U [0,1,2,3,4]
   exact ⟨n-1,by omega,k+1,_,_,by omega,hI.step' hb (ha _ (List.getElem_mem _)) hk zo,U⟩
  ·obtain rfl:k=m.length:=by simp at hb1; omega
   refine wp_exit<|ak<|ak<|aC<|a7<|zg [some (8,_)] [] [.adr 59 5 .none True,.v 60 _,.v 61 _,.v 62 _,.v 63 _,.v 64 _,.v 65 _,.adr 66 5 (.some _) True,.sto 0] [.g 0,.g 1,.g 2] U (oc (ob_a G G cL) (zM 2 G (zM 1 G (zv G (aI Tryz.underlying23 (aL (vq 2 G))) (zv G (aR (vq 1 G) (vq 3 G) (fQ zo)) (zM 3 G (zv G (aE .u32 zk zk (vq 5 G) (wu32 hc)) (oc (ob_a G G (em 0 G zk (lz0 0 G) aZ (vq 4 G) zo)) (oc (cA 7 G G G G zk (fun _=>bX _ _ _ _) (vq 6 G) aO (bC zo)) o0))))))))) (zz [(0,_),(1,_),(6,_)] [⟨5,109,slH _ _,_⟩] fun a w U=>?_)
   refine ao ?_
   refine a7<|zg [none] [] [.v 20 _,.v 21 _,.v 6 _] [.g 0,.g 1,.o 2] U (zM 2 G (zv G (aR (vq 0 G) a8 (aX zo)) (zA 1 G o0))) (zz [(0,_),(1,_),(6,_)] [⟨5,109,slH _ _,_⟩] fun a w U=>?_)
   refine a7 ?_
   have U:=St.sel U [0,1,2]
   exact ⟨n1-1,by omega,i+1,_,by omega,hI.done hi rfl,U⟩
 ·obtain rfl:i=l.length:=by simp at hb0; omega
  refine wp_exit<|ak<|ak<|aC<|zt<|zg [none] [] [.adr 67 5 .none True,.v 68 _,.v 4 _] [.o 2] U (oc (ob_a G G cL) (zv G (aa (xs:=[.tmp 67]) (dR famN _) (.cons (g8 0 G zk (lz0 0 G) ⟨hO.len.symm,Nat.le_refl _,by unfold maxLen; omega,hO.ok⟩ hO.len.symm) .nil)) (zA 1 G o0))) (zz [(4,_)] [⟨5,109,slH _ _,_⟩] fun a w U=>?_)
  refine a7<|wp_ret<|ar ?_ (am G U (zm 0 G))
  rw [Bd ha hb hO]; exact bh
theorem ia (x:Nat):(trimL [x]).length≤1∧val (trimL [x])=x:=⟨rF [x],by rw [lP]; simp [val]⟩
theorem oT (l:List Nat)(x:Nat)(hls:l.length≤1099511627776)(hx:x<4294967296):Cn Tryz.prog 232 [(MgA l).va,(NumA .u32 (x:Nat)).va] ((MgA (limbs (val l*x))).va):=by
 refine Cn.intro Tryz.func232 G zk nq (fun B w0 a U=>?_)
 have U:=zn [(0,(MgA l).va),(1,(NumA .u32 (x:Nat)).va)] [] U
 refine wp_seq<|zh [.v 4 _] [.g 0,.g 1,.o 0] U (zv G (a9 aP) o0) (zz [(0,_),(1,_),(4,_)] [] fun a w U=>?_)
 refine zt<|zh [.v 5 _,.v 6 _,.v 7 _,.v 8 _,.v 9 _,.v 4 _] [.o 5] U (zM 0 G (zM 1 G (zv G (da (l:=[_]) (xs:=[.tmp 6]) aZ zk nq nq ((ew hx)) (.cons (vq 1 G) .nil) G G) (zv G (aa (xs:=[.tmp 7]) (dR famA _) (.cons (vq 2 G) .nil)) (zv G (aa (xs:=[.tmp 5,.tmp 8]) (sk l (trimL [x]) hls (Nat.le_trans (ia x).1 zd)) (.cons (vq 0 G) (.cons (vq 3 G) .nil))) (zA 4 G o0)))))) (zz [(4,_)] [] fun a w U=>?_)
 refine a7<|wp_ret<|ar ?_ (am G U (zm 0 G))
 rw [(ia x).2]; exact lL
def rsSt (l:List Nat)(d n:Nat):List Nat:=List.replicate n 0++digs (l.length-n) (val (l.drop n)/d)
theorem fk {l:List Nat}{d n:Nat}(h:n≤l.length):(rsSt l d n).length=l.length:=by simp [rsSt,aw]; omega
theorem jV (l:List Nat)(d:Nat):rsSt l d l.length=List.replicate l.length 0:=by simp [rsSt,digs]
theorem sj {l:List Nat}{d n:Nat}:okL (rsSt l d n):=okL_append.2 ⟨fun x hx=>by rw [(List.mem_replicate.1 hx).2]; decide,bN _ _⟩
theorem ep {l:List Nat}{j:Nat}(h:j<l.length):val (l.drop j)=l[j]+4294967296*val (l.drop (j+1)):=by
 rw [List.drop_eq_getElem_cons h]; rfl
theorem y5 {x V d:Nat}(hd:0<d):(x+4294967296*V)/d=4294967296*(V/d)+(V%d*4294967296+x)/d∧(x+4294967296*V)%d=(V%d*4294967296+x)%d:=by
 have e:x+4294967296*V=(V%d*4294967296+x)+d*(4294967296*(V/d)):=by
  have:=Nat.div_add_mod V d
  have e2:d*(4294967296*(V/d))=4294967296*(d*(V/d)):=by rw [Nat.mul_left_comm]
  generalize d*(V/d)=p at *
  omega
 rw [e,Nat.add_mul_div_left _ _ hd,Nat.add_mul_mod_self_left]
 exact ⟨by omega,rfl⟩
theorem vX {x V d:Nat}(hd:0<d)(hx:x<4294967296):(V%d*4294967296+x)/d<4294967296:=by
 have h1:=Nat.mod_lt V hd
 rw [Nat.div_lt_iff_lt_mul hd]
 have h2:(V%d+1)*4294967296≤d*4294967296:=Nat.mul_le_mul_right _ h1
 omega
theorem nA {l:List Nat}{d j:Nat}(hl:okL l)(hd:0<d)(hj:j<l.length):(rsSt l d (j+1)).set j ((val (l.drop (j+1))%d*4294967296+l[j])/d)=rsSt l d j:=by
 unfold rsSt
 have e:l.length-j=(l.length-(j+1))+1:=by omega
 rw [ep hj,(y5 hd).1,e,Nat.add_comm (4294967296*_),Nat.add_comm _ (4294967296*_),mW _ _ _ (vX hd (hl _ (List.getElem_mem hj)))]
 rw [List.replicate_succ',List.append_assoc,eO _ _ _ _ (by simp)]
 rfl
theorem nB {l:List Nat}{d j:Nat}(hd:0<d)(hj:j<l.length):(val (l.drop (j+1))%d*4294967296+l[j])%d=val (l.drop j)%d:=by
 rw [ep hj,(y5 hd).2]
theorem y4 {l:List Nat}{d:Nat}(hl:okL l):trimL (rsSt l d 0)=limbs (val l/d):=by
 unfold rsSt
 rw [List.replicate_zero,List.nil_append,Nat.sub_zero,List.drop_zero,gC]
 exact Nat.lt_of_le_of_lt (Nat.div_le_self _ _) (eM hl)
theorem oU (l:List Nat)(d:Nat)(hls:l.length≤1099511627776)(hd:0<d)(hd2:d<4294967296):Cn Tryz.prog 230 [(MgA l).va,(NumA .u32 (d:Nat)).va] (Tu [(MgN (limbs (val l/d))).va,(NumA .u32 (val l%d:Nat)).va]):=by
 refine Cn.introW Tryz.func230 G zk nq (.cons (iF _).va (.cons (oB _ _).va .nil)) (uf (.cons (dP _).va (.cons (dO _ _).va .nil))) (fun B w0 a hB0 U=>?_)
 have U:=zn [(0,(MgO l).va),(1,(NumA .u32 (d:Nat)).va)] [] U
 have hl:=(U.magO 0 rfl).1
 refine wp_seq<|zh [.v 4 _,.v 5 _] [.g 0,.g 1,.o 0,.o 1] U (zv G (a9 aP) (zv G (a9 (aF 0 G)) o0)) (zz [(0,_),(1,_),(4,_),(5,_)] [] fun a w U=>?_)
 refine zt<|d7 (sts:=[]) (news:=[⟨12,109,slH _ _,some 2,_,none⟩]) (sp:=[.v 10 _,.v 11 _,.alc 0,.adr 6 12 .none True]) [.g 0,.g 1,.g 2,.g 3] [(6,12)] [⟨6,109,slH _ _,_⟩] U (zM 0 G (zv G (aI Tryz.underlying23 (aL (vq 0 G))) (oc (dU G G G eI (vq 1 G) (vq 1 G) zo) (oc (ob_a G G jy) o0)))) zk zk zk ⟨⟨3,rfl⟩,trivial⟩ G zk (zz [(0,_),(1,_),(4,_),(5,_)] [⟨6,109,slH _ _,_⟩] fun a w U=>?_)
 refine zt<|zg [none] [] [.v 7 _] [.g 0,.g 1,.g 2,.g 3,.o 0] U (zv G (a9 (aF 0 G)) o0) (zz [(0,_),(1,_),(4,_),(5,_),(7,_)] [⟨6,109,slH _ _,_⟩] fun a w U=>?_)
 refine zt<|wp_seq<|zg [none] [] [.v 13 _,.v 14 _,.v 15 _,.v 8 _] [.g 0,.g 1,.g 2,.g 3,.g 4,.o 3] U (zM 0 G (zv G (aI Tryz.underlying23 (aL (vq 0 G))) (zv G (ck (vq 1 G) a8 (wi64 zo zo)) (zA 2 G o0)))) (zz [(0,_),(1,_),(4,_),(5,_),(7,_),(8,_)] [⟨6,109,slH _ _,_⟩] fun a w U=>?_)
 refine a7<|wp_block ?_
 have U:=St.sel U [0,1,4,5]
 refine wp_loop_ghost (fun n a w=>n≤l.length∧St B w0 44 [(0,(MgO l).va),(1,(NumA .u32 (d:Nat)).va),(7,(NumA .u64 ((val (l.drop n)%d:Nat):Int)).va),(8,In ((n:Int)-1))] [⟨6,109,slH l.length l.length,Nums .u32 (rsSt l d n)⟩] a w) (l.length) ?_ ?_
 ·exact ⟨Nat.le_refl _,by rw [jV,show val (l.drop l.length)%d=0 from by simp]; exact U⟩
 intro n a w hI
 obtain ⟨hn,U⟩:=hI
 have hmd:=Nat.mod_lt (val (l.drop n)) hd
 refine wp_seq<|wp_seq<|zg [none] [] [.v 16 _,.v 17 _] [.g 0,.g 1,.g 2,.g 3,.o 1] U (zM 3 G (zv G (eK (vq 0 G) a8) o0)) (zz [(0,_),(1,_),(7,_),(8,_),(17,_)] [⟨6,109,slH _ _,_⟩] fun a w U=>?_)
 refine a7<|ah U (zm 4 G) (fun hb0=>?_) (fun hb0=>?_)
 ·obtain ⟨j,rfl⟩:∃ j,n=j+1:=⟨n-1,by simp at hb0; omega⟩; rw [show ((j+1:Nat):Int)-1=(j:Int) from by omega] at U
  have hj:j<l.length:=by omega
  have hx:=hl _ (List.getElem_mem hj)
  refine wp_skip<|zt<|wp_block<|wp_seq<|zg [none] [] [.v 20 _,.v 21 _,.v 22 _,.v 23 _,.v 24 _,.v 25 _,.v 26 _,.v 27 _,.v 9 _] [.g 0,.g 1,.g 2,.g 3,.o 8] U (zM 2 G (zv G (kG (vq 0 G) (aF 4294967296 G) (wmul64 zo)) (zM 0 G (zM 3 G (zv G (bH aZ (aL (vq 2 G)) (vq 3 G) hj) (zv G (aq (vq 4 G) aO) (zv G (aE .u64 zk zk (vq 5 G) (wu64 zo)) (zv G (aR (vq 1 G) (vq 6 G) (wadd64 zo)) (zA 7 G o0))))))))) (zz [(0,_),(1,_),(7,_),(8,_),(9,_)] [⟨6,109,slH _ _,_⟩] fun a w U=>?_)
  refine zt<|zg [some (8,_)] [] [.adr 28 6 .none True,.v 29 _,.v 30 _,.v 31 _,.v 32 _,.v 33 _,.v 34 _,.adr 35 6 (.some _) True,.sto 0] [.g 0,.g 1,.g 2,.g 3,.g 4] U (oc (ob_a G G cL) (zM 3 G (zM 4 G (zM 1 G (zv G (aE .u64 zk zk (vq 3 G) (wu64 zo)) (zv G (jE (vq 2 G) (vq 4 G) zo (nquo (Nat.lt_trans (vX hd hx) zd))) (zv G (aE .u32 zk zk (vq 5 G) (wu32 (vX hd hx))) (oc (ob_a G G (em 0 G zk (lz0 0 G) aZ (vq 1 G) hj)) (oc (cA 7 G G G G zk (fun _=>bX _ _ _ _) (vq 6 G) aO (bC (by rw [fk zo]; omega))) o0))))))))) (zz [(0,_),(1,_),(7,_),(8,_),(9,_)] [⟨6,109,slH _ _,_⟩] fun a w U=>?_)
  refine a7<|zg [none] [] [.v 36 _,.v 37 _,.v 38 _,.v 39 _,.v 7 _] [.g 0,.g 1,.g 3,.o 4] U (zM 4 G (zM 1 G (zv G (aE .u64 zk zk (vq 1 G) (wu64 zo)) (zv G (jD (vq 0 G) (vq 2 G) zo (nrem)) (zA 3 G o0))))) (zz [(0,_),(1,_),(8,_),(7,_)] [⟨6,109,slH _ _,_⟩] fun a w U=>?_)
  refine ao ?_
  refine a7<|zg [none] [] [.v 18 _,.v 19 _,.v 8 _] [.g 0,.g 1,.g 3,.o 2] U (zM 2 G (zv G (ck (vq 0 G) a8 (wi64 zo zo)) (zA 1 G o0))) (zz [(0,_),(1,_),(7,_),(8,_)] [⟨6,109,slH _ _,_⟩] fun a w U=>?_)
  refine a7 ?_
  have U:=St.sel U [0,1,2,3]
  rw [nA hl hd hj,nB hd hj] at U; exact ⟨j,by omega,by omega,U⟩
 ·obtain rfl:n=0:=by simp at hb0; omega
  refine wp_exit<|ak<|ak<|aC<|zt<|zg [none] [] [.adr 40 6 .none True,.v 41 _,.v 42 _,.v 43 _,.v 4 _,.v 5 _] [.o 4,.o 5] U (oc (ob_a G G cL) (zv G (aa (xs:=[.tmp 40]) (dR famN _) (.cons (g8 0 G zk (lz0 0 G) ⟨by rw [fk (Nat.zero_le _)],Nat.le_refl _,by unfold maxLen; omega,sj⟩ (by rw [fk (Nat.zero_le _)])) .nil)) (zM 2 G (zv G (aE .u32 zk zk (vq 2 G) (wu32 zo)) (zA 1 G (zA 3 G o0)))))) (zz [(4,_),(5,_)] [⟨6,109,slH _ _,_⟩] fun a w U=>?_)
  refine a7<|wp_ret<|ar ?_ (aS (rs:=[.tmp 4,.tmp 5]) G U (.tmp (zm 0 G) (.tmp (zm 1 G) .nil)) zd)
  rw [y4 hl,List.drop_zero]; exact bh
theorem Aq (l:List Nat)(hls:l.length≤1099511627776):Cn Tryz.prog 228 [(MgA l).va] ((MgA (limbs (val l/2))).va):=by
 refine Cn.intro Tryz.func228 G zk nq (fun B w0 a U=>?_)
 have U:=zn [(0,(MgA l).va)] [] U
 refine wp_seq<|zh [.v 2 _] [.g 0,.o 0] U (zv G (a9 aP) o0) (zz [(0,_),(2,_)] [] fun a w U=>?_)
 refine zt<|zh [.v 6 _,.v 7 _,.v 5 _,.v 8 _,.v 9 _,.v 3 _,.v 4 _] [.g 1,.o 5] U (zM 0 G (zv G (aa (xs:=[.tmp 6,.const (.int .u32 (2))]) (oU l 2 hls zd zd) (.cons (vq 0 G) (.cons (aF 2 G) .nil))) (zv G (ae (vq 1 G)) (zv G (aQ (vq 2 G) G) (zv G (aQ (vq 2 G) G) (zA 3 G (zA 4 G o0))))))) (zz [(2,_),(3,_)] [] fun a w U=>?_)
 refine zt<|zh [.v 10 _,.v 2 _] [.o 1] U (zM 1 G (zA 0 G o0)) (zz [(2,_)] [] fun a w U=>?_)
 refine a7<|wp_ret<|ar ?_ (am G U (zm 0 G))
 exact lL
theorem even_e {l:List Nat}(h:0<l.length):val l%2=l[0]%2:=by
 have:=ep h
 rw [List.drop_zero] at this
 omega
theorem At (l:List Nat)(h:0<l.length):Cn Tryz.prog 227 [(MgA l).va] (Bo (((val l%2:Nat):Int)==((0:Nat):Int))):=by
 refine Cn.intro Tryz.func227 G zk nq (fun B w0 a U=>?_)
 have U:=zn [(0,(MgA l).va)] [] U
 refine wp_seq<|zh [.v 2 _] [.g 0,.o 0] U (zv G (a9 aK) o0) (zz [(0,_),(2,_)] [] fun a w U=>?_)
 refine zt<|zh [.v 3 _,.v 4 _,.v 5 _,.v 6 _,.v 7 _,.v 2 _] [.o 5] U (zM 0 G (zv G (bH aZ (vq 0 G) (aF 0 G) h) (zv G (aq (vq 1 G) aO) (zv G (jD (vq 2 G) (aF 2 G) zd (nrem)) (zv G (bD (vq 3 G) (aF 0 G)) (zA 4 G o0)))))) (zz [(2,_)] [] fun a w U=>?_)
 refine a7<|wp_ret<|ar ?_ (am G U (zm 0 G))
 rw [even_e h]; exact bh
theorem cm_le0 {X Y:Nat}:cmL (limbs X) (limbs Y)≤0↔X≤Y:=by
 rw [fa]
 split
 ·omega
 ·split <;> omega
theorem fit_e {R D q:Nat}(h1:D*q≤R)(h2:R<D*(q+1)):q=R/D:=by
 rw [Nat.mul_comm] at h1 h2
 exact (Nat.div_eq_of_lt_le h1 h2).symm
theorem Dw {R D:Nat}(hD:0<D)(hR:R<D*4294967296)(hl:(limbs D).length≤1099511627776):Cn Tryz.prog 231 [(MgA (limbs R)).va,(MgA (limbs D)).va] ((NumA .u32 (R/D:Nat)).va):=by
 refine Cn.intro Tryz.func231 G zk nq (fun B w0 a U=>?_)
 have U:=zn [(0,(MgA (limbs R)).va),(1,(MgA (limbs D)).va)] [] U
 refine wp_seq<|zh [.v 4 _] [.g 0,.g 1,.o 0] U (zv G (a9 (aF 0 G)) o0) (zz [(0,_),(1,_),(4,_)] [] fun a w U=>?_)
 refine zt<|zh [.v 5 _] [.g 0,.g 1,.g 2,.o 0] U (zv G (a9 (aF 0 G)) o0) (zz [(0,_),(1,_),(4,_),(5,_)] [] fun a w U=>?_)
 refine zt<|zh [.v 6 _] [.g 0,.g 1,.g 2,.g 3,.o 0] U (zv G (a9 (aF 4294967295 G)) o0) (zz [(0,_),(1,_),(4,_),(5,_),(6,_)] [] fun a w U=>?_)
 refine zt<|wp_block ?_
 have U:=St.sel U [0,1,3,4]
 refine wp_loop_ghost (fun n a w=>∃ lo hi:Nat,(lo≤hi∧hi≤4294967295∧D*lo≤R∧R<D*(hi+1)∧n=hi-lo)∧St B w0 28 [(0,(MgA (limbs R)).va),(1,(MgA (limbs D)).va),(5,(NumA .u64 ((lo:Nat):Int)).va),(6,(NumA .u64 ((hi:Nat):Int)).va)] [] a w) (4294967295) ?_ ?_
 ·exact ⟨0,4294967295,⟨by decide,by decide,by omega,hR,rfl⟩,U⟩
 intro n a w hI
 obtain ⟨lo,hi,⟨i1,i2,i3,i4,i5⟩,U⟩:=hI
 refine wp_seq<|wp_seq<|zh [.v 8 _,.v 9 _,.v 10 _] [.g 0,.g 1,.g 2,.g 3,.o 2] U (zM 2 G (zM 3 G (zv G (aN (vq 0 G) (vq 1 G)) o0))) (zz [(0,_),(1,_),(5,_),(6,_),(10,_)] [] fun a w U=>?_)
 refine a7<|ah U (zm 4 G) (fun hb0=>?_) (fun hb0=>?_)
 ·have hlt:lo<hi:=by simp at hb0; omega
  refine wp_skip<|a7<|wp_block<|wp_seq<|zh [.v 11 _,.v 12 _,.v 13 _,.v 14 _,.v 15 _,.v 7 _] [.g 0,.g 1,.g 2,.g 3,.o 5] U (zM 2 G (zM 3 G (zv G (aR (vq 0 G) (vq 1 G) (wadd64 zo)) (zv G (aR (vq 2 G) (aF 1 G) (wadd64 zo)) (zv G (jE (vq 3 G) (aF 2 G) zd (nquo zo)) (zA 4 G o0)))))) (zz [(0,_),(1,_),(5,_),(6,_),(7,_)] [] fun a w U=>?_)
  refine zt<|zh [.v 16 _,.v 17 _,.v 18 _,.v 19 _,.v 20 _,.v 21 _,.v 22 _] [.g 0,.g 1,.g 2,.g 3,.g 4,.o 6] U (zM 1 G (zM 4 G (zv G (aE .u32 zk zk (vq 1 G) (wu32 zo)) (zv G (aa (xs:=[.tmp 16,.tmp 18]) (oT (limbs D) ((lo+hi+1)/2) hl zo) (.cons (vq 0 G) (.cons (vq 2 G) .nil))) (zM 0 G (zv G (aa (xs:=[.tmp 19,.tmp 20]) (mn _ _) (.cons (vq 3 G) (.cons (vq 4 G) .nil))) (zv G (qv (vq 5 G) a8) o0))))))) (zz [(0,_),(1,_),(5,_),(6,_),(7,_),(22,_)] [] fun a w U=>?_)
  refine a7<|ah U (zm 5 G) (fun hb1=>?_) (fun hb1=>?_)
  ·have hq:D*((lo+hi+1)/2)≤R:=by have:=cm_le0.1 (of_decide_eq_true hb1); rwa [aG] at this
   refine zh [.v 23 _,.v 5 _] [.g 0,.g 1,.g 3,.o 1] U (zM 4 G (zA 0 G o0)) (zz [(0,_),(1,_),(6,_),(5,_)] [] fun a w U=>?_)
   refine ao ?_
   refine a7 ?_
   have U:=St.sel U [0,1,3,2]
   exact ⟨hi-(lo+hi+1)/2,by omega,(lo+hi+1)/2,hi,⟨by omega,i2,hq,i4,rfl⟩,U⟩
  ·have hq:R<D*((lo+hi+1)/2):=by have h9:=Nat.lt_of_not_le fun h=>of_decide_eq_false hb1 (cm_le0.2 h); rwa [aG] at h9
   refine zh [.v 24 _,.v 25 _,.v 6 _] [.g 0,.g 1,.g 2,.o 2] U (zM 4 G (zv G (ck (vq 0 G) (aF 1 G) (wsub' zo zo)) (zA 1 G o0))) (zz [(0,_),(1,_),(5,_),(6,_)] [] fun a w U=>?_)
   refine ao ?_
   refine a7 ?_
   have U:=St.sel U [0,1,2,3]
   exact ⟨(lo+hi+1)/2-1-lo,by omega,lo,(lo+hi+1)/2-1,⟨by omega,by omega,i3,by rw [Nat.sub_add_cancel zo]; exact hq,rfl⟩,U⟩
 ·obtain rfl:lo=hi:=by simp at hb0; omega
  refine wp_exit<|ak<|ak<|aC<|zt<|zh [.v 26 _,.v 27 _,.v 4 _] [.o 2] U (zM 2 G (zv G (aE .u32 zk zk (vq 0 G) (wu32 zo)) (zA 1 G o0))) (zz [(4,_)] [] fun a w U=>?_)
  refine a7<|wp_ret<|ar ?_ (am G U (zm 0 G))
  rw [← fit_e i3 i4]; exact bh
end Go.Proofs.YtmacliockgbdcaaGreatDoor
