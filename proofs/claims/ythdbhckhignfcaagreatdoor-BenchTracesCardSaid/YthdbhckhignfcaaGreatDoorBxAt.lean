import Derived.Test.YthdbhckhignfcaaGreatDoorBxAa
import Derived.Test.YthdbhckhignfcaaGreatDoorBxAc
import Derived.Test.YthdbhckhignfcaaGreatDoorBxAk
import Derived.Test.YthdbhckhignfcaaGreatDoorBxAn
set_option linter.unusedVariables false
set_option linter.unusedSimpArgs false
set_option linter.unusedSectionVars false
set_option maxRecDepth 100000
namespace Go.Proofs.YthdbhckhignfcaaGreatDoor
open Go Go.RowKit
theorem zvt (A:Option Addr)(c:Nat)(w:World):Calls Tryz.prog 222 #[.slice A 0 c] w fun e w'=>e=.returned (.slice A 0 c)∧w=w':=by
 go_enter Tryz.func222,Tryz.ntmps222
 go_wp2
 go_loop [0] (fun v=>v=.slice A 0 c) (fun _=>0)
 case atStart=>rfl
 case round =>
  subst hrel
  go_wp2
  go_ret
  exact ⟨rfl,rfl⟩
theorem ztj (b o c:Nat)(l:List Nat)(w:World)(hc:∀ j (h:j<l.length),w.cell? ⟨b,o+j,none⟩=some (.int .u32 (l[j]:Nat)))(hm:l.length≤9223372036854775807)(hnc:l.length≤c) :
  Calls Tryz.prog 222 #[.slice (some ⟨b,o,none⟩) l.length c] w fun e w'=>e=.returned (.slice (some ⟨b,o,none⟩) (trimL l).length c)∧w=w':=by
 obtain ⟨n,hn⟩:∃ n,n=l.length:=⟨_,rfl⟩
 rw [← hn] at hm hnc ⊢
 have HN:Hid (n=l.length):=hn
 clear hn
 go_enter Tryz.func222,Tryz.ntmps222
 go_wp2
 go_loop [0] (fun v=>∃ k:Nat,k≤n∧v=.slice (some ⟨b,o,none⟩) k c∧trimL (l.take k)=trimL l) (fun v=>lenOf v)
 case atStart=>exact ⟨n,Nat.le_refl _,rfl,by rw [List.take_of_length_le (Nat.le_of_eq HN.out.symm)]⟩
 case round =>
  obtain ⟨k,hk,rfl,ht⟩:=hrel
  have HT:Hid (trimL (l.take k)=trimL l):=ht
  clear ht
  cases k with
  | zero =>
   go_wp2
   go_ret
   exact ⟨by rw [← HT.out]; simp [trimL],rfl⟩
  | succ k =>
   have hkl:k<l.length:=by rw [← HN.out]; omega
   obtain ⟨x,hx⟩:∃ x,x=l[k]:=⟨_,rfl⟩
   have hcell:=hc k hkl
   rw [← hx] at hcell
   clear hc
   have HX:Hid (x=l[k]):=hx
   clear hx
   by_cases hz:x=0
   ·subst hz
    go_wp2
    go_round
    case rel=>exact ⟨k,by omega,rfl,by rw [← HT.out,zlk hkl HX.out.symm]⟩
    case measure=>simp [lenOf]
   ·have hz':((x:Int)==0)=false:=by simp; omega
    go_wp2
    go_ret
    refine ⟨?_,rfl⟩
    rw [← HT.out,zlj hkl (by rw [← HX.out]; exact hz),List.length_take,Nat.min_eq_left zo]
    rfl
theorem zem {M:List Nat→As}(hM:Fam M)(l:List Nat):Cn Tryz.prog 222 [(M l).va] (M (trimL l)).va:=by
 refine ⟨zkt Tryz.func222 zk zk,fun B w args hB ha=>?_⟩
 obtain ⟨v,rfl,hv⟩:=ha.one
 obtain ⟨A,c,rfl,hm,htk⟩:=hM.op _ _ _ _ hv
 have hsh:∀ A',A'=A→(M (trimL l)).va.p B (.slice A' (trimL l).length c) w:=by
  rintro _ rfl
  have:=htk (trimL l).length
  rwa [← zib] at this
 by_cases h0:l.length=0
 ·have hl:l=[]:=List.eq_nil_of_length_eq_zero h0
  subst hl
  refine (zvt A c w).mono fun e w' ⟨he,hw⟩=>?_
  subst hw
  exact ⟨_,he,hsh A rfl,Grow.refl w⟩
 ·obtain ⟨b,o,rfl,h1,h2,h3⟩:=hm.at_ zo
  refine (ztj b o c l w h3 (by have:=hm.le; have:=hm.max; unfold maxLen at this; omega) hm.le).mono fun e w' ⟨he,hw⟩=>?_
  subst hw
  exact ⟨_,he,hsh _ rfl,Grow.refl w⟩
theorem zcl (neg:Bool)(l:List Nat):Cn Tryz.prog 203 [Bo neg,(MgA l).va] ((RIA (rsig neg l)).va):=by
 refine Cn.intro Tryz.func203 rfl zk nq (fun B w0 a O=>?_)
 have O:=zn [(0,Bo neg),(1,(MgA l).va)] [] O
 refine wp_seq<|zg [] [⟨4,25,ptrH,some 0,_,none⟩] [.alc 0] [.g 0,.g 1] O (oc (zas rfl rfl rfl (Str.zero (zd3 famA))) o0) (zz [(0,_),(1,_)] [⟨4,25,ptrH,_⟩] fun a w O=>?_)
 refine zt<|zg [none] [] [.v 5 _,.v 6 _,.v 1 _] [.g 0,.o 2] O (zv rfl (za1 (gq 1 rfl)) (zv rfl (za5 (xs:=[.tmp 5]) (zem famA _) (.cons (vq 0 rfl) .nil)) (zv rfl (za2 (vq 1 rfl)) o0))) (zz [(0,_),(1,_)] [⟨4,25,ptrH,_⟩] fun a w O=>?_)
 refine zt<|wp_seq<|zg [none] [] [.v 7 _,.v 8 _,.v 9 _] [.g 0,.g 1,.o 2] O (zv rfl (za1 (gq 1 rfl)) (zv rfl (zax Tryz.underlying23 (vq 0 rfl)) (zv rfl (zca (vq 1 rfl) za3) o0))) (zz [(0,_),(1,_),(9,_)] [⟨4,25,ptrH,_⟩] fun a w O=>?_)
 refine za0<|za8 O (zm 2 rfl) (fun hb0=>?_) (fun hb0=>?_)
 ·refine wp_seq<|zg [some (1,_)] [] [.v 10 _,.sto 0] [.g 0,.g 1] O (zv rfl (zbg (xs:=[]) (qs:=[]) (zd3 famA) .nil) (oc (zak rfl rfl rfl (vq 0 rfl) zac (Eq.trans (b:=2) rfl rfl)) o0)) (zz [(0,_),(1,_)] [⟨4,25,ptrH,_⟩] fun a w O=>?_)
  refine za0<|wp_ret<|zag ?_
  refine zao ?_ (zaj rfl O (zm 0 rfl) zac)
  exact zfx (M:=MgA) hb0
 ·refine wp_skip<|zt<|zg [some (3,_)] [] [.v 11 _,.v 12 _,.v 13 _,.sto 0] [] O (zv rfl (za1 (gq 0 rfl)) (zv rfl (za1 (gq 1 rfl)) (zv rfl (zbg (xs:=[(0,.tmp 11),(1,.tmp 12)]) (qs:=[(0,_),(1,_)]) (zd3 famA) (.cons ⟨rfl,(vq 0 rfl),rfl⟩ (.cons ⟨rfl,(vq 1 rfl),rfl⟩ .nil))) (oc (zak rfl rfl rfl (vq 2 rfl) zac (Eq.trans (b:=2) rfl rfl)) o0)))) (zz [] [⟨4,25,ptrH,_⟩] fun a w O=>?_)
  refine za0<|wp_ret<|zao ?_ (zaj rfl O (zm 0 rfl) zac)
  exact zhd (M:=MgA) hb0
theorem ztk (neg:Bool)(l:List Nat):Cn Tryz.prog 203 [Bo neg,(MgN l).va] ((RIN (rsig neg l)).va):=by
 refine Cn.intro Tryz.func203 rfl zk nq (fun B w0 a O=>?_)
 have O:=zn [(0,Bo neg),(1,(MgN l).va)] [] O
 refine wp_seq<|zg [] [⟨4,25,ptrH,some 0,_,none⟩] [.alc 0] [.g 0,.g 1] O (oc (zas rfl rfl rfl (Str.zero (zd3 famN))) o0) (zz [(0,_),(1,_)] [⟨4,25,ptrH,_⟩] fun a w O=>?_)
 refine zt<|zg [none] [] [.v 5 _,.v 6 _,.v 1 _] [.g 0,.o 2] O (zv rfl (za1 (gq 1 rfl)) (zv rfl (za5 (xs:=[.tmp 5]) (zem famN _) (.cons (vq 0 rfl) .nil)) (zv rfl (za2 (vq 1 rfl)) o0))) (zz [(0,_),(1,_)] [⟨4,25,ptrH,_⟩] fun a w O=>?_)
 refine zt<|wp_seq<|zg [none] [] [.v 7 _,.v 8 _,.v 9 _] [.g 0,.g 1,.o 2] O (zv rfl (za1 (gq 1 rfl)) (zv rfl (zax Tryz.underlying23 (zq9 (vq 0 rfl))) (zv rfl (zca (vq 1 rfl) za3) o0))) (zz [(0,_),(1,_),(9,_)] [⟨4,25,ptrH,_⟩] fun a w O=>?_)
 refine za0<|za8 O (zm 2 rfl) (fun hb0=>?_) (fun hb0=>?_)
 ·refine wp_seq<|zg [some (1,_)] [] [.v 10 _,.sto 0] [.g 0,.g 1] O (zv rfl (zbg (xs:=[]) (qs:=[]) (zd3 famN) .nil) (oc (zak rfl rfl rfl (vq 0 rfl) zac (Eq.trans (b:=2) rfl rfl)) o0)) (zz [(0,_),(1,_)] [⟨4,25,ptrH,_⟩] fun a w O=>?_)
  refine za0<|wp_ret<|zag ?_
  refine zao ?_ (zaj rfl O (zm 0 rfl) zac)
  exact zfx (M:=MgN) hb0
 ·refine wp_skip<|zt<|zg [some (3,_)] [] [.v 11 _,.v 12 _,.v 13 _,.sto 0] [] O (zv rfl (za1 (gq 0 rfl)) (zv rfl (za1 (gq 1 rfl)) (zv rfl (zbg (xs:=[(0,.tmp 11),(1,.tmp 12)]) (qs:=[(0,_),(1,_)]) (zd3 famN) (.cons ⟨rfl,(vq 0 rfl),rfl⟩ (.cons ⟨rfl,(vq 1 rfl),rfl⟩ .nil))) (oc (zak rfl rfl rfl (vq 2 rfl) zac (Eq.trans (b:=2) rfl rfl)) o0)))) (zz [] [⟨4,25,ptrH,_⟩] fun a w O=>?_)
  refine za0<|wp_ret<|zao ?_ (zaj rfl O (zm 0 rfl) zac)
  exact zhd (M:=MgN) hb0
def cmL (l m:List Nat):Int:=if l.length≠m.length then (if l.length<m.length then -1 else 1) else if val l<val m then -1 else if val m<val l then 1 else 0
theorem cm_e0 {l m:List Nat}(h:((l.length:Int) != (m.length:Int))=true)(h2:decide ((l.length:Int)<(m.length:Int))=true):(-1:Int)=cmL l m:=by
 have h':l.length≠m.length:=by simp at h; omega
 unfold cmL
 rw [if_pos h',if_pos (by simp at h2; omega)]
theorem cm_e1 {l m:List Nat}(h:((l.length:Int) != (m.length:Int))=true)(h2:decide ((l.length:Int)<(m.length:Int))=false):(1:Int)=cmL l m:=by
 have h':l.length≠m.length:=by simp at h; omega
 unfold cmL
 rw [if_pos h',if_neg (by simp at h2; omega)]
theorem cm_e2 {l m:List Nat}{j:Nat}(ha:okL l)(hl:l.length=m.length)(hj:j<l.length)(hd:l.drop (j+1)=m.drop (j+1))(h:decide (((l[j]:Nat):Int)<((m[j]'zo:Nat):Int))=true):(-1:Int)=cmL l m:=by
 have:=zr3 (a:=l) (b:=m) ha hj zo hd (by simpa using h)
 unfold cmL
 rw [if_neg zo,if_pos this]
theorem cm_e3 {l m:List Nat}{j:Nat}(hb:okL m)(hl:l.length=m.length)(hj:j<l.length)(hd:l.drop (j+1)=m.drop (j+1))(h:decide (((l[j]:Nat):Int)>((m[j]'zo:Nat):Int))=true):(1:Int)=cmL l m:=by
 have:=zr3 (a:=m) (b:=l) hb zo hj hd.symm (by simpa using h)
 unfold cmL
 rw [if_neg zo,if_neg zo,if_pos this]
theorem cm_e4 {l m:List Nat}(hd:l.drop 0=m.drop 0):(0:Int)=cmL l m:=by
 have:l=m:=by simpa using hd
 subst this
 simp [cmL]
theorem zoi (l m:List Nat):Cn Tryz.prog 217 [(MgA l).va,(MgA m).va] (In (cmL l m)):=by
 refine Cn.intro Tryz.func217 rfl zk nq (fun B w0 a O=>?_)
 have O:=zn [(0,(MgA l).va),(1,(MgA m).va)] [] O
 obtain ⟨ha,hla⟩:=O.mag 0 rfl; obtain ⟨hb,hlb⟩:=O.mag 1 rfl
 refine wp_seq<|zh [.v 4 _] [.g 0,.g 1,.o 0] O (zv rfl (za2 za3) o0) (zz [(0,_),(1,_),(4,_)] [] fun a w O=>?_)
 refine zt<|wp_seq<|zh [.v 6 _,.v 7 _,.v 8 _,.v 9 _,.v 10 _] [.g 0,.g 1,.g 2,.o 4] O (zv rfl (za1 (gq 0 rfl)) (zv rfl (zax Tryz.underlying23 (vq 0 rfl)) (zv rfl (za1 (gq 1 rfl)) (zv rfl (zax Tryz.underlying23 (vq 2 rfl)) (zv rfl (zdw (vq 1 rfl) (vq 3 rfl)) o0))))) (zz [(0,_),(1,_),(4,_),(10,_)] [] fun a w O=>?_)
 refine za0<|za8 O (zm 3 rfl) (fun hb0=>?_) (fun hb0=>?_)
 ·refine wp_seq<|wp_seq<|zh [.v 11 _,.v 12 _,.v 13 _,.v 14 _,.v 15 _] [.g 0,.g 1,.g 2,.o 4] O (zv rfl (za1 (gq 0 rfl)) (zv rfl (zax Tryz.underlying23 (vq 0 rfl)) (zv rfl (za1 (gq 1 rfl)) (zv rfl (zax Tryz.underlying23 (vq 2 rfl)) (zv rfl (zb1 (vq 1 rfl) (vq 3 rfl)) o0))))) (zz [(0,_),(1,_),(4,_),(15,_)] [] fun a w O=>?_)
  refine za0<|za8 O (zm 3 rfl) (fun hb1=>?_) (fun hb1=>?_)
  ·refine wp_seq<|zh [.v 4 _] [.g 0,.g 1,.o 0] O (zv rfl (za2 za3) o0) (zz [(0,_),(1,_),(4,_)] [] fun a w O=>?_)
   refine za0<|wp_ret<|zag ?_
   refine zag ?_
   refine zao ?_ (zaf rfl O (zm 2 rfl))
   exact nu (cm_e0 hb0 hb1)
  ·refine wp_skip<|zt<|zh [.v 4 _] [.g 0,.g 1,.o 0] O (zv rfl (za2 za3) o0) (zz [(0,_),(1,_),(4,_)] [] fun a w O=>?_)
   refine za0<|wp_ret<|zag ?_
   refine zao ?_ (zaf rfl O (zm 2 rfl))
   exact nu (cm_e1 hb0 hb1)
 ·have hl:l.length=m.length:=by simp at hb0; omega
  refine wp_skip<|zt<|wp_seq<|zh [.v 16 _,.v 17 _,.v 18 _,.v 5 _] [.g 0,.g 1,.g 2,.o 3] O (zv rfl (za1 (gq 0 rfl)) (zv rfl (zax Tryz.underlying23 (vq 0 rfl)) (zv rfl (zd1 (vq 1 rfl) za3 (wi64 zo zo)) (zv rfl (za2 (vq 2 rfl)) o0)))) (zz [(0,_),(1,_),(4,_),(5,_)] [] fun a w O=>?_)
  refine za0<|wp_block ?_
  have O:=St.sel O [0,1,3]
  refine wp_loop_ghost (fun n a w=>n≤l.length∧l.drop n=m.drop n∧St B w0 41 [(0,(MgA l).va),(1,(MgA m).va),(5,In ((n:Int)-1))] [] a w) (l.length) ?_ ?_
  ·exact ⟨Nat.le_refl _,by rw [List.drop_length,hl,List.drop_length],O⟩
  intro n a w hI
  obtain ⟨hi,hd,O⟩:=hI
  refine wp_seq<|wp_seq<|zh [.v 19 _,.v 20 _] [.g 0,.g 1,.g 2,.o 1] O (zv rfl (za1 (gq 2 rfl)) (zv rfl (zfu (vq 0 rfl) za3) o0)) (zz [(0,_),(1,_),(5,_),(20,_)] [] fun a w O=>?_)
  refine za0<|za8 O (zm 3 rfl) (fun hb2=>?_) (fun hb2=>?_)
  ·obtain ⟨j,rfl⟩:∃ j,n=j+1:=⟨n-1,by simp at hb2; omega⟩; rw [show ((j+1:Nat):Int)-1=(j:Int) from by omega] at O
   refine wp_skip<|zt<|wp_block<|wp_seq<|wp_seq<|zgd [[],[],[0,1],[0,1,2],[],[],[4,5],[4,5,6],[0,1,2,3,4,5,6,7]] [] [] [.v 23 _,.v 24 _,.v 25 _,.v 26 _,.v 27 _,.v 28 _,.v 29 _,.v 30 _,.v 31 _] [.g 0,.g 1,.g 2,.o 8] za6 O (zv rfl (za1 (gq 0 rfl)) (zv rfl (za1 (gq 2 rfl)) (zv rfl (zc4 zbc (vq 0 rfl) (vq 1 rfl) zo) (zv rfl (zad (vq 2 rfl) zb0) (zv rfl (za1 (gq 1 rfl)) (zv rfl (za1 (gq 2 rfl)) (zv rfl (zc4 zbc (vq 4 rfl) (vq 5 rfl) zo) (zv rfl (zad (vq 6 rfl) zb0) (zv rfl (zb1 (vq 3 rfl) (vq 7 rfl)) o0))))))))) zk zk zk zk (zz [(0,_),(1,_),(5,_),(31,_)] [] fun a w O=>?_)
   refine za0<|za8 O (zm 3 rfl) (fun hb3=>?_) (fun hb3=>?_)
   ·refine wp_seq<|zh [.v 4 _] [.g 0,.g 1,.g 2,.o 0] O (zv rfl (za2 za3) o0) (zz [(0,_),(1,_),(5,_),(4,_)] [] fun a w O=>?_)
    refine za0<|wp_ret<|zag ?_
    refine zba ?_
    refine zag ?_
    refine zag ?_
    refine zba ?_
    refine zag ?_
    refine zao ?_ (zaf rfl O (zm 3 rfl))
    exact nu (cm_e2 ha hl zo hd hb3)
   ·refine wp_skip<|zt<|zgd [[],[],[0,1],[0,1,2],[],[],[4,5],[4,5,6],[0,1,2,3,4,5,6,7]] [] [] [.v 32 _,.v 33 _,.v 34 _,.v 35 _,.v 36 _,.v 37 _,.v 38 _,.v 39 _,.v 40 _] [.g 0,.g 1,.g 2,.o 8] za6 O (zv rfl (za1 (gq 0 rfl)) (zv rfl (za1 (gq 2 rfl)) (zv rfl (zc4 zbc (vq 0 rfl) (vq 1 rfl) zo) (zv rfl (zad (vq 2 rfl) zb0) (zv rfl (za1 (gq 1 rfl)) (zv rfl (za1 (gq 2 rfl)) (zv rfl (zc4 zbc (vq 4 rfl) (vq 5 rfl) zo) (zv rfl (zad (vq 6 rfl) zb0) (zv rfl (zev (vq 3 rfl) (vq 7 rfl)) o0))))))))) zk zk zk zk (zz [(0,_),(1,_),(5,_),(40,_)] [] fun a w O=>?_)
    refine za0<|za8 O (zm 3 rfl) (fun hb4=>?_) (fun hb4=>?_)
    ·refine wp_seq<|zh [.v 4 _] [.g 0,.g 1,.g 2,.o 0] O (zv rfl (za2 za3) o0) (zz [(0,_),(1,_),(5,_),(4,_)] [] fun a w O=>?_)
     refine za0<|wp_ret<|zba ?_
     refine zag ?_
     refine zag ?_
     refine zba ?_
     refine zag ?_
     refine zao ?_ (zaf rfl O (zm 3 rfl))
     exact nu (cm_e3 hb hl zo hd hb4)
    ·refine wp_skip<|zae ?_
     refine za0<|zh [.v 21 _,.v 22 _,.v 5 _] [.g 0,.g 1,.o 2] O (zv rfl (za1 (gq 2 rfl)) (zv rfl (zd1 (vq 0 rfl) za3 (wi64 zo zo)) (zv rfl (za2 (vq 1 rfl)) o0))) (zz [(0,_),(1,_),(5,_)] [] fun a w O=>?_)
     refine za0 ?_
     have O:=St.sel O [0,1,2]
     exact ⟨j,by omega,by omega,zj5 zo zo hd (by simp at hb3 hb4; omega),O⟩
  ·obtain rfl:n=0:=by simp at hb2; omega
   refine wp_exit<|za7<|za7<|zap<|zt<|zh [.v 4 _] [.o 0] O (zv rfl (za2 za3) o0) (zz [(4,_)] [] fun a w O=>?_)
   refine za0<|wp_ret<|zao ?_ (zaf rfl O (zm 0 rfl))
   exact nu (cm_e4 hd)
end Go.Proofs.YthdbhckhignfcaaGreatDoor
namespace Go.Proofs.YthdbhckhignfcaaGreatDoor
open Go Go.RowKit
theorem zrj (x:RI):Cn Tryz.prog 194 [(RIA x).va] (In (if okRI x then 0 else 1)):=by
 refine Cn.intro Tryz.func194 rfl zk nq (fun B w0 a O=>?_)
 have O:=zn [(0,(RIA x).va)] [] O
 have hk:=(zie (O.vals _ (zm 0 rfl))).2
 refine wp_seq<|zg [] [⟨1,25,ptrH,some 0,_,none⟩] [.alc 0,.v 2 _] [.o 1] O (oc (zam rfl rfl rfl (gq 0 rfl)) (zv rfl (za2 za3) o0)) (zz [(2,_)] [⟨1,25,ptrH,_⟩] fun a w O=>?_)
 refine zt<|wp_seq<|gl (sts:=[none]) (news:=[]) (sp:=((.adr 3 1 (.some 1) True:Sp)::(.v 4 _)::(.v 5 _)::(.v 6 _)::(.v 7 _)::(.adr 8 1 (.some 1) (_=false))::(.v 9 (Wh (_=false) _))::(.v 10 (Wh (_=false) _))::(.v 11 (Wh (_=false) _))::(.v 12 (Wh (_=false) _))::(.adr 13 1 (.some 1) ((_=false)∧_=true))::(.v 14 (Wh ((_=false)∧_=true) _))::(.adr 15 1 (.some 1) ((_=false)∧_=true))::(.v 16 (Wh ((_=false)∧_=true) _))::(.v 17 (Wh ((_=false)∧_=true) _))::(.v 18 (Wh ((_=false)∧_=true) _))::(.v 19 (Wh ((_=false)∧_=true) _))::(.v 20 (Wh ((_=false)∧_=true) _))::(.v 21 (Wh ((_=false)∧_=true) _))::(.v 22 (Wh (_=false) _))::(.v 23 _)::(.v 24 _)::(.adr 25 1 (.some 1) (_=false))::(.v 26 (Wh (_=false) _))::(.v 27 (Wh (_=false) _))::(.v 28 (Wh (_=false) _))::(.v 29 (Wh (_=false) _))::(.adr 30 1 (.some 0) ((_=false)∧_=true))::(.v 31 (Wh ((_=false)∧_=true) _))::(.v 32 (Wh (_=false) _))::(.v 33 _)::[])) [.g 0,.o 30] O (oc (ob_a rfl rfl (za9 (lz0 0 rfl) zah)) (zv rfl (za4 0 rfl zk trivial (lz0 0 rfl) (Sub.part 1 rfl rfl) zb9) (zv rfl (zax Tryz.underlying23 (vq 1 rfl)) (zv rfl (zev (vq 2 rfl) za3) (zv rfl (za1 (vq 3 rfl)) (oc (zce rfl rfl rfl (vq 4 rfl) nq (fun hg=>za9 (lz0 0 rfl) zah)) (oc (zan rfl rfl rfl (vq 4 rfl) nq (fun hg=>za4 5 rfl zk hg (lz0 0 rfl) (Sub.part 1 rfl rfl) zb9)) (oc (zan rfl rfl rfl (vq 4 rfl) nq (fun hg=>zax Tryz.underlying23 (zab (vq 6 rfl) hg))) (oc (zan rfl rfl rfl (vq 4 rfl) nq (fun hg=>zev (zab (vq 7 rfl) hg) za3)) (oc (zan rfl rfl rfl (vq 4 rfl) nq (fun hg=>za1 (zab (vq 8 rfl) hg))) (oc (zfr rfl rfl rfl (vq 9 rfl) nq (fun hg=>za9 (lz0 0 rfl) zah)) (oc (zc5 rfl rfl rfl (vq 9 rfl) nq (fun hg=>za4 10 rfl zk hg (lz0 0 rfl) (Sub.part 1 rfl rfl) zb9)) (oc (zfr rfl rfl rfl (vq 9 rfl) nq (fun hg=>za9 (lz0 0 rfl) zah)) (oc (zc5 rfl rfl rfl (vq 9 rfl) nq (fun hg=>za4 12 rfl zk hg (lz0 0 rfl) (Sub.part 1 rfl rfl) zb9)) (oc (zc5 rfl rfl rfl (vq 9 rfl) nq (fun hg=>zax Tryz.underlying23 (zab (vq 13 rfl) hg))) (oc (zc5 rfl rfl rfl (vq 9 rfl) nq (fun hg=>zd1 (zab (vq 14 rfl) hg) za3 (wi_pm (by have h:=hg.2; simp at h; omega) hk))) (oc (zc5 rfl rfl rfl (vq 9 rfl) nq (fun hg=>zmj zbc (zab (vq 11 rfl) hg) (zab (vq 15 rfl) hg) (by have h:=hg.2; simp at h; omega))) (oc (zc5 rfl rfl rfl (vq 9 rfl) nq (fun hg=>zad (zab (vq 16 rfl) hg) zb0)) (oc (zc5 rfl rfl rfl (vq 9 rfl) nq (fun hg=>zca (zab (vq 17 rfl) hg) (zau 0 rfl))) (oc (zan rfl rfl rfl (vq 4 rfl) nq (fun hg=>zcc (zab (vq 9 rfl) hg) (zh4 (vq 18 rfl) hg))) (zv rfl (r_or (vq 4 rfl) (vq 19 rfl)) (zv rfl (za1 (vq 20 rfl)) (oc (zce rfl rfl rfl (vq 21 rfl) nq (fun hg=>za9 (lz0 0 rfl) zah)) (oc (zan rfl rfl rfl (vq 21 rfl) nq (fun hg=>za4 22 rfl zk hg (lz0 0 rfl) (Sub.part 1 rfl rfl) zb9)) (oc (zan rfl rfl rfl (vq 21 rfl) nq (fun hg=>zax Tryz.underlying23 (zab (vq 23 rfl) hg))) (oc (zan rfl rfl rfl (vq 21 rfl) nq (fun hg=>zca (zab (vq 24 rfl) hg) za3)) (oc (zan rfl rfl rfl (vq 21 rfl) nq (fun hg=>za1 (zab (vq 25 rfl) hg))) (oc (zfr rfl rfl rfl (vq 26 rfl) nq (fun hg=>za9 (lz0 0 rfl) zb7)) (oc (zc5 rfl rfl rfl (vq 26 rfl) nq (fun hg=>za4 27 rfl zk hg (lz0 0 rfl) (Sub.part 0 rfl rfl) ty_4)) (oc (zan rfl rfl rfl (vq 21 rfl) nq (fun hg=>zcc (zab (vq 26 rfl) hg) (zh4 (vq 28 rfl) hg))) (zv rfl (r_or (vq 21 rfl) (vq 29 rfl)) o0))))))))))))))))))))))))))))))) (zz [(2,_),(33,_)] [⟨1,25,ptrH,_⟩] fun a w O=>?_)
 refine za0<|za8 O (zm 1 rfl) (fun hb0=>?_) (fun hb0=>?_)
 ·refine wp_seq<|zg [none] [] [.v 2 _] [.o 0] O (zv rfl (za2 za3) o0) (zz [(2,_)] [⟨1,25,ptrH,_⟩] fun a w O=>?_)
  refine za0<|wp_ret<|zag ?_
  refine zao ?_ (zaf rfl O (zm 0 rfl))
  exact nu (zt7 hb0)
 ·refine wp_skip<|zt<|zg [none] [] [.v 2 _] [.o 0] O (zv rfl (za2 za3) o0) (zz [(2,_)] [⟨1,25,ptrH,_⟩] fun a w O=>?_)
  refine za0<|wp_ret<|zao ?_ (zaf rfl O (zm 0 rfl))
  exact nu (zt6 hb0)
theorem zk3 (x:RI):Cn Tryz.prog 193 [(RIA x).va] (In (sgI x)):=by
 refine Cn.intro Tryz.func193 rfl zk nq (fun B w0 a O=>?_)
 have O:=zn [(0,(RIA x).va)] [] O
 refine wp_seq<|zg [] [⟨1,25,ptrH,some 0,_,none⟩] [.alc 0,.v 2 _] [.o 1] O (oc (zam rfl rfl rfl (gq 0 rfl)) (zv rfl (za2 za3) o0)) (zz [(2,_)] [⟨1,25,ptrH,_⟩] fun a w O=>?_)
 refine zt<|wp_seq<|zg [none] [] [.adr 3 1 (.some 1) True,.v 4 _,.v 5 _,.v 6 _] [.g 0,.o 3] O (oc (ob_a rfl rfl (za9 (lz0 0 rfl) zah)) (zv rfl (za4 0 rfl zk trivial (lz0 0 rfl) (Sub.part 1 rfl rfl) zb9) (zv rfl (zax Tryz.underlying23 (vq 1 rfl)) (zv rfl (zca (vq 2 rfl) za3) o0)))) (zz [(2,_),(6,_)] [⟨1,25,ptrH,_⟩] fun a w O=>?_)
 refine za0<|za8 O (zm 1 rfl) (fun hb0=>?_) (fun hb0=>?_)
 ·refine wp_seq<|zg [none] [] [.v 2 _] [.o 0] O (zv rfl (za2 za3) o0) (zz [(2,_)] [⟨1,25,ptrH,_⟩] fun a w O=>?_)
  refine za0<|wp_ret<|zag ?_
  refine zao ?_ (zaf rfl O (zm 0 rfl))
  exact nu (zvm hb0)
 ·refine wp_skip<|zt<|wp_seq<|zg [none] [] [.adr 7 1 (.some 0) True,.v 8 _] [.g 0,.o 1] O (oc (ob_a rfl rfl (za9 (lz0 0 rfl) zb7)) (zv rfl (za4 0 rfl zk trivial (lz0 0 rfl) (Sub.part 0 rfl rfl) ty_4) o0)) (zz [(2,_),(8,_)] [⟨1,25,ptrH,_⟩] fun a w O=>?_)
  refine za0<|za8 O (zm 1 rfl) (fun hb1=>?_) (fun hb1=>?_)
  ·refine wp_seq<|zg [none] [] [.v 2 _] [.o 0] O (zv rfl (za2 za3) o0) (zz [(2,_)] [⟨1,25,ptrH,_⟩] fun a w O=>?_)
   refine za0<|wp_ret<|zag ?_
   refine zao ?_ (zaf rfl O (zm 0 rfl))
   exact nu (zvl hb0 hb1)
  ·refine wp_skip<|zt<|zg [none] [] [.v 2 _] [.o 0] O (zv rfl (za2 za3) o0) (zz [(2,_)] [⟨1,25,ptrH,_⟩] fun a w O=>?_)
   refine za0<|wp_ret<|zao ?_ (zaf rfl O (zm 0 rfl))
   exact nu (zvk hb0 hb1)
theorem zg5 {m n:Nat}:cmL (limbs m) (limbs n)=if m<n then -1 else if n<m then 1 else 0:=by
 unfold cmL
 rw [zat,zat]
 by_cases h:(limbs m).length=(limbs n).length
 ·rw [if_neg zo]
 ·rw [if_pos h]
  by_cases h2:m≤n
  ·have:=zcs h2
   have:m≠n:=fun e=>h (by rw [e])
   rw [if_pos zo,if_pos zo]
  ·have:=zcs (Nat.le_of_lt (Nat.lt_of_not_le h2))
   rw [if_neg zo,if_neg zo,if_pos zo]
theorem zl8 (p:Int):p.sign=if p<0 then -1 else if p=0 then 0 else 1:=by
 rcases Int.lt_trichotomy p 0 with h | h | h
 ·rw [if_pos h,Int.sign_eq_neg_one_of_neg h]
 ·subst h; rfl
 ·rw [if_neg zo,if_neg zo,Int.sign_eq_one_of_pos h]
theorem rc_e0 {p q:Int}(h:(sgI (riOf p) != sgI (riOf q))=true)(h2:decide (sgI (riOf p)<sgI (riOf q))=true):(-1:Int)=sg3 p q:=by
 rw [decide_eq_true_eq,zdt,zdt,zl8,zl8] at h2
 unfold sg3
 rw [if_pos]
 split at h2 <;> split at h2 <;> (try split at h2) <;> (try split at h2) <;> omega
theorem rc_e1 {p q:Int}(h:(sgI (riOf p) != sgI (riOf q))=true)(h2:decide (sgI (riOf p)<sgI (riOf q))=false):(1:Int)=sg3 p q:=by
 rw [decide_eq_false_iff_not,zdt,zdt,zl8,zl8] at h2
 have h3:sgI (riOf p)≠sgI (riOf q):=by simpa using h
 rw [zdt,zdt,zl8,zl8] at h3
 unfold sg3
 rw [if_neg,if_pos] <;> (split at h2 <;> split at h2 <;> (try split at h2) <;> (try split at h2) <;> (try split at h3) <;> (try split at h3) <;> (try split at h3) <;> omega)
theorem rc_sg {p q:Int}(h:(sgI (riOf p) != sgI (riOf q))=false):(p<0↔q<0)∧(p=0↔q=0):=by
 have h3:sgI (riOf p)=sgI (riOf q):=by simpa using h
 rw [zdt,zdt,zl8,zl8] at h3
 split at h3 <;> split at h3 <;> (try split at h3) <;> (try split at h3) <;> omega
theorem rc_e2 {p q:Int}(h:(sgI (riOf p) != sgI (riOf q))=false)(h2:decide (sgI (riOf p)<0)=true) : -(cmL (riOf p).mag (riOf q).mag)=sg3 p q:=by
 have h1:=rc_sg h
 rw [decide_eq_true_eq,zdt,zl8] at h2
 have hp:p<0:=by split at h2 <;> (try split at h2) <;> omega
 show -(cmL (limbs p.natAbs) (limbs q.natAbs))=_
 rw [zg5]
 unfold sg3
 split <;> split <;> (try split) <;> omega
theorem rc_e3 {p q:Int}(h:(sgI (riOf p) != sgI (riOf q))=false)(h2:decide (sgI (riOf p)<0)=false):cmL (riOf p).mag (riOf q).mag=sg3 p q:=by
 have h1:=rc_sg h
 rw [decide_eq_false_iff_not,zdt,zl8] at h2
 have hp:¬ p<0:=by intro hp; rw [if_pos hp] at h2; omega
 show cmL (limbs p.natAbs) (limbs q.natAbs)=_
 rw [zg5]
 unfold sg3
 split <;> split <;> (try split) <;> omega
theorem cmL_bd (l m:List Nat) : -1≤cmL l m∧cmL l m≤1:=by
 unfold cmL
 split <;> split <;> (try split) <;> omega
theorem turn_e {p:Int}:(RIA (rsig (!(riOf p).neg) (riOf p).mag)).va=Zi (-p):=by
 rw [zcg (zmq p) (z := -p) (by rw [zbx]; omega) (fun hz=>by show (!decide (p<0))=_; by_cases h:p<0 <;> simp [h] <;> omega)]
theorem size_e {p:Int}:(RIA (rsig false (riOf p).mag)).va=Zi ((p.natAbs:Nat):Int):=by
 rw [zcg (zmq p) (z:=((p.natAbs:Nat):Int)) (by rw [zbx]; omega) (fun hz=>by simp)]
theorem rcmpZ_c (p q:Int):Cn Tryz.prog 215 [Zi p,Zi q] (In (sg3 p q)):=by
 refine Cn.intro Tryz.func215 rfl zk nq (fun B w0 a O=>?_)
 have O:=zn [(0,Zi p),(1,Zi q)] [] O
 have hbd:=cmL_bd (riOf p).mag (riOf q).mag
 refine wp_seq<|zg [] [⟨2,25,ptrH,some 0,_,none⟩,⟨3,25,ptrH,some 1,_,none⟩] [.alc 0,.alc 1,.v 4 _] [.o 2] O (oc (zam rfl rfl rfl (gq 0 rfl)) (oc (zam rfl rfl rfl (gq 1 rfl)) (zv rfl (za2 za3) o0))) (zz [(4,_)] [⟨2,25,ptrH,_⟩,⟨3,25,ptrH,_⟩] fun a w O=>?_)
 refine zt<|zg [none,none] [] [.v 8 _,.v 9 _,.v 5 _] [.g 0,.o 2] O (zv rfl (zaq (lz0 0 rfl) zac) (zv rfl (za5 (xs:=[.tmp 8]) (zk3 (riOf p)) (.cons (vq 0 rfl) .nil)) (zv rfl (za2 (vq 1 rfl)) o0))) (zz [(4,_),(5,_)] [⟨2,25,ptrH,_⟩,⟨3,25,ptrH,_⟩] fun a w O=>?_)
 refine zt<|zg [none,none] [] [.v 10 _,.v 11 _,.v 6 _] [.g 0,.g 1,.o 2] O (zv rfl (zaq (lz0 1 rfl) zac) (zv rfl (za5 (xs:=[.tmp 10]) (zk3 (riOf q)) (.cons (vq 0 rfl) .nil)) (zv rfl (za2 (vq 1 rfl)) o0))) (zz [(4,_),(5,_),(6,_)] [⟨2,25,ptrH,_⟩,⟨3,25,ptrH,_⟩] fun a w O=>?_)
 refine zt<|wp_seq<|zg [none,none] [] [.v 12 _,.v 13 _,.v 14 _] [.g 0,.g 1,.g 2,.o 2] O (zv rfl (za1 (gq 1 rfl)) (zv rfl (za1 (gq 2 rfl)) (zv rfl (zdw (vq 0 rfl) (vq 1 rfl)) o0))) (zz [(4,_),(5,_),(6,_),(14,_)] [⟨2,25,ptrH,_⟩,⟨3,25,ptrH,_⟩] fun a w O=>?_)
 refine za0<|za8 O (zm 3 rfl) (fun hb0=>?_) (fun hb0=>?_)
 ·refine wp_seq<|wp_seq<|zg [none,none] [] [.v 15 _,.v 16 _,.v 17 _] [.g 0,.g 1,.o 2] O (zv rfl (za1 (gq 1 rfl)) (zv rfl (za1 (gq 2 rfl)) (zv rfl (zb1 (vq 0 rfl) (vq 1 rfl)) o0))) (zz [(4,_),(5,_),(17,_)] [⟨2,25,ptrH,_⟩,⟨3,25,ptrH,_⟩] fun a w O=>?_)
  refine za0<|za8 O (zm 2 rfl) (fun hb1=>?_) (fun hb1=>?_)
  ·refine wp_seq<|zg [none,none] [] [.v 4 _] [.g 1,.o 0] O (zv rfl (za2 za3) o0) (zz [(5,_),(4,_)] [⟨2,25,ptrH,_⟩,⟨3,25,ptrH,_⟩] fun a w O=>?_)
   refine za0<|wp_ret<|zag ?_
   refine zag ?_
   refine zao ?_ (zaf rfl O (zm 1 rfl))
   exact nu (rc_e0 hb0 hb1)
  ·refine wp_skip<|zt<|zg [none,none] [] [.v 4 _] [.g 1,.o 0] O (zv rfl (za2 za3) o0) (zz [(5,_),(4,_)] [⟨2,25,ptrH,_⟩,⟨3,25,ptrH,_⟩] fun a w O=>?_)
   refine za0<|wp_ret<|zag ?_
   refine zao ?_ (zaf rfl O (zm 1 rfl))
   exact nu (rc_e1 hb0 hb1)
 ·refine wp_skip<|zt<|zg [none,none] [] [.adr 18 2 (.some 1) True,.v 19 _,.adr 20 3 (.some 1) True,.v 21 _,.v 22 _,.v 7 _] [.g 0,.g 1,.o 5] O (oc (ob_a rfl rfl (za9 (lz0 0 rfl) zah)) (zv rfl (za4 0 rfl zk trivial (lz0 0 rfl) (Sub.part 1 rfl rfl) zb9) (oc (ob_a rfl rfl (za9 (lz0 1 rfl) zah)) (zv rfl (za4 2 rfl zk trivial (lz0 1 rfl) (Sub.part 1 rfl rfl) zb9) (zv rfl (za5 (xs:=[.tmp 19,.tmp 21]) (zoi _ _) (.cons (vq 1 rfl) (.cons (vq 3 rfl) .nil))) (zv rfl (za2 (vq 4 rfl)) o0)))))) (zz [(4,_),(5,_),(7,_)] [⟨2,25,ptrH,_⟩,⟨3,25,ptrH,_⟩] fun a w O=>?_)
  refine zt<|wp_seq<|zg [none,none] [] [.v 23 _,.v 24 _] [.g 0,.g 2,.o 1] O (zv rfl (za1 (gq 1 rfl)) (zv rfl (zb1 (vq 0 rfl) za3) o0)) (zz [(4,_),(7,_),(24,_)] [⟨2,25,ptrH,_⟩,⟨3,25,ptrH,_⟩] fun a w O=>?_)
  refine za0<|za8 O (zm 2 rfl) (fun hb2=>?_) (fun hb2=>?_)
  ·refine wp_seq<|zg [none,none] [] [.v 25 _,.v 26 _,.v 4 _] [.g 1,.o 2] O (zv rfl (za1 (gq 1 rfl)) (zv rfl (r_neg (vq 0 rfl) ((wi64 zo zo).trans (Int.zero_sub _))) (zv rfl (za2 (vq 1 rfl)) o0))) (zz [(7,_),(4,_)] [⟨2,25,ptrH,_⟩,⟨3,25,ptrH,_⟩] fun a w O=>?_)
   refine za0<|wp_ret<|zag ?_
   refine zao ?_ (zaf rfl O (zm 1 rfl))
   exact nu (rc_e2 hb0 hb2)
  ·refine wp_skip<|zt<|zg [none,none] [] [.v 27 _,.v 4 _] [.o 1] O (zv rfl (za1 (gq 1 rfl)) (zv rfl (za2 (vq 0 rfl)) o0)) (zz [(4,_)] [⟨2,25,ptrH,_⟩,⟨3,25,ptrH,_⟩] fun a w O=>?_)
   refine za0<|wp_ret<|zao ?_ (zaf rfl O (zm 0 rfl))
   exact nu (rc_e3 hb0 hb2)
theorem below_e {p q:Int}:decide (sg3 p q<0)=decide (p<q):=by
 unfold sg3
 split
 ·rename_i h; rw [decide_eq_true h]; rfl
 ·rename_i h; rw [decide_eq_false h]; split <;> rfl
theorem rbelow_c (p q:Int):Cn Tryz.prog 196 [Zi p,Zi q] (Bo (decide (p<q))):=by
 refine Cn.intro Tryz.func196 rfl zk nq (fun B w0 a O=>?_)
 have O:=zn [(0,Zi p),(1,Zi q)] [] O
 refine wp_seq<|zg [] [⟨2,25,ptrH,some 0,_,none⟩,⟨3,25,ptrH,some 1,_,none⟩] [.alc 0,.alc 1,.v 4 _] [.o 2] O (oc (zam rfl rfl rfl (gq 0 rfl)) (oc (zam rfl rfl rfl (gq 1 rfl)) (zv rfl (za2 zav) o0))) (zz [(4,_)] [⟨2,25,ptrH,_⟩,⟨3,25,ptrH,_⟩] fun a w O=>?_)
 refine zt<|zg [none,none] [] [.v 5 _,.v 6 _,.v 7 _,.v 8 _,.v 4 _] [.o 4] O (zv rfl (zaq (lz0 0 rfl) zac) (zv rfl (zaq (lz0 1 rfl) zac) (zv rfl (za5 (xs:=[.tmp 5,.tmp 6]) (rcmpZ_c p q) (.cons (vq 0 rfl) (.cons (vq 1 rfl) .nil))) (zv rfl (zb1 (vq 2 rfl) za3) (zv rfl (za2 (vq 3 rfl)) o0))))) (zz [(4,_)] [⟨2,25,ptrH,_⟩,⟨3,25,ptrH,_⟩] fun a w O=>?_)
 refine za0<|wp_ret<|zao ?_ (zaf rfl O (zm 0 rfl))
 exact congrArg Bo below_e
theorem rof_c (n:Int)(h0 : -9223372036854775808≤n)(h1:n<9223372036854775808):Cn Tryz.prog 197 [In n] (Zi n):=by
 refine Cn.intro Tryz.func197 rfl zk nq (fun B w0 a O=>?_)
 have O:=zn [(0,In n)] [] O
 refine wp_seq<|zg [] [⟨2,25,ptrH,some 0,_,none⟩] [.alc 0] [.g 0] O (oc (zas rfl rfl rfl (Str.zero zbo)) o0) (zz [(0,_)] [⟨2,25,ptrH,_⟩] fun a w O=>?_)
 refine zt<|zg [none] [] [.v 4 _,.v 5 _,.v 3 _] [.g 0,.o 2] O (zv rfl (za1 (gq 0 rfl)) (zv rfl (zaw .u64 zk zk (vq 0 rfl) (rfl)) (zv rfl (za2 (vq 1 rfl)) o0))) (zz [(0,_),(3,_)] [⟨2,25,ptrH,_⟩] fun a w O=>?_)
 refine zt<|wp_seq<|zg [none] [] [.v 6 _,.v 7 _] [.g 0,.g 1,.o 1] O (zv rfl (za1 (gq 0 rfl)) (zv rfl (zb1 (vq 0 rfl) za3) o0)) (zz [(0,_),(3,_),(7,_)] [⟨2,25,ptrH,_⟩] fun a w O=>?_)
 refine za0<|zcn (fun a w =>  St B w0 20 [(0,In n),(3,(NumA .u64 (n.natAbs:Nat)).va)] [⟨2,25,ptrH,cat [BoA false,MgA []]⟩] a w) O (zm 2 rfl) (fun hb0=>?_) (fun hb0=>?_) (fun a w O=>?_)
 ·refine zg [none] [] [.v 8 _,.v 9 _,.v 3 _] [.g 0,.o 2] O (zv rfl (za1 (gq 1 rfl)) (zv rfl (zd1 (zau 0 rfl) (vq 0 rfl) (rfl)) (zv rfl (za2 (vq 1 rfl)) o0))) (zz [(0,_),(3,_)] [⟨2,25,ptrH,_⟩] fun a w O=>?_)
  refine za0 ?_
  have O:=St.sel O [0,1]
  rw [show IntKind.u64.wrap (((0:Nat):Int)-IntKind.u64.wrap n)=_ from of_e0 h0 hb0] at O; exact O
 ·refine wp_skip<|za0 ?_
  have O:=St.sel O [0,1]
  rw [of_e1 h1 hb0] at O; exact O
 refine zt<|zg [some (10,_)] [] [.v 10 _,.v 11 _,.v 12 _,.v 13 _,.v 14 _,.v 15 _,.v 16 _,.v 17 _,.v 18 _,.v 19 _,.sto 0] [] O (zv rfl (za1 (gq 0 rfl)) (zv rfl (zb1 (vq 0 rfl) za3) (zv rfl (za1 (gq 1 rfl)) (zv rfl (zl9 (vq 2 rfl) (zau 4294967296 rfl) zd (nrem)) (zv rfl (zaw .u32 zk zk (vq 3 rfl) (wu32 (Nat.mod_lt _ zd))) (zv rfl (za1 (gq 1 rfl)) (zv rfl (zla (vq 5 rfl) (zau 4294967296 rfl) zd (nquo zo)) (zv rfl (zaw .u32 zk zk (vq 6 rfl) (wu32 zo)) (zv rfl (zdo (l:=[_,_]) (xs:=[.tmp 14,.tmp 17]) zbc zk nq nq (of_ok h0 h1) (.cons (vq 4 rfl) (.cons (vq 7 rfl) .nil)) rfl rfl) (zv rfl (za5 (xs:=[.tmp 11,.tmp 18]) (zcl _ _) (.cons (vq 1 rfl) (.cons (vq 8 rfl) .nil))) (oc (zak rfl rfl rfl (vq 9 rfl) zac (Eq.trans (b:=2) rfl rfl)) o0))))))))))) (zz [] [⟨2,25,ptrH,_⟩] fun a w O=>?_)
 refine za0<|wp_ret<|zao ?_ (zaj rfl O (zm 0 rfl) zac)
 exact of_e2 h0 h1
theorem zvs (p:Int):Cn Tryz.prog 234 [Zi p] (Zi (-p)):=by
 refine Cn.intro Tryz.func234 rfl zk nq (fun B w0 a O=>?_)
 have O:=zn [(0,Zi p)] [] O
 refine wp_seq<|zg [] [⟨1,25,ptrH,some 0,_,none⟩,⟨2,25,ptrH,some 1,_,none⟩] [.alc 0,.alc 1] [] O (oc (zam rfl rfl rfl (gq 0 rfl)) (oc (zas rfl rfl rfl (Str.zero zbo)) o0)) (zz [] [⟨1,25,ptrH,_⟩,⟨2,25,ptrH,_⟩] fun a w O=>?_)
 refine zt<|zg [none,some (6,_)] [] [.adr 3 1 (.some 0) True,.v 4 _,.v 5 _,.adr 6 1 (.some 1) True,.v 7 _,.v 8 _,.sto 1] [] O (oc (ob_a rfl rfl (za9 (lz0 0 rfl) zb7)) (zv rfl (za4 0 rfl zk trivial (lz0 0 rfl) (Sub.part 0 rfl rfl) ty_4) (zv rfl (zeh (vq 1 rfl)) (oc (ob_a rfl rfl (za9 (lz0 0 rfl) zah)) (zv rfl (za4 3 rfl zk trivial (lz0 0 rfl) (Sub.part 1 rfl rfl) zb9) (zv rfl (za5 (xs:=[.tmp 5,.tmp 7]) (zcl _ _) (.cons (vq 2 rfl) (.cons (vq 4 rfl) .nil))) (oc (zak rfl rfl rfl (vq 5 rfl) zac (Eq.trans (b:=2) rfl rfl)) o0))))))) (zz [] [⟨1,25,ptrH,_⟩,⟨2,25,ptrH,_⟩] fun a w O=>?_)
 refine za0<|wp_ret<|zao ?_ (zaj rfl O (zm 1 rfl) zac)
 exact turn_e
end Go.Proofs.YthdbhckhignfcaaGreatDoor
namespace Go.Proofs.YthdbhckhignfcaaGreatDoor
open Go Go.RowKit
abbrev NL (l:List Nat):List As:=l.map fun (x:Nat)=>NumA .u32 (x:Int)
theorem zkx:∃ it z,Tryz.prog.info? 106=some it∧it.zero=some z∧it.size=1∧it.bytes=4∧z.cells.size=1:=by
 have h:((Tryz.prog.info? 106).bind fun it=>it.zero.map fun z=>(it.size,it.bytes,z.cells.size))=some (1,4,1):=by kernel_rfl
 cases hi:Tryz.prog.info? 106 with
 | none=>rw [hi] at h; simp at h
 | some it =>
  rw [hi] at h
  cases hz:it.zero with
  | none=>simp [hz] at h
  | some z =>
   simp [hz] at h
   exact ⟨it,z,rfl,hz,h.1,h.2.1,h.2.2⟩
theorem zwq {b:Nat}{l:List Nat}(ok:okL l):Wk (OwnR b U32 1 [] (NL l)) (MgA l).va:=fun B v w h=>va_and ok (zhj B v w h)
theorem zfg {x:Nat}(h:x<4294967296):okL [x]:=fun y hy=>by simp at hy; omega
theorem sum_nx {l m:List Nat}{i:Nat}:sumTo l m (i+1)=sumTo l m i+4294967296^i*(l.getD i 0+m.getD i 0):=by
 unfold sumTo
 rw [zf4,zf4,Nat.mul_add]
 omega
def addN (l m:List Nat):Nat:=if val l+val m<4294967296^max l.length m.length then max l.length m.length else max l.length m.length+1
theorem zm7 {l m:List Nat}{i:Nat}(h:max l.length m.length≤i):sumTo l m i=val l+val m:=by
 unfold sumTo
 rw [List.take_of_length_le zo,List.take_of_length_le zo]
theorem sum_lt {l m:List Nat}(hl:okL l)(hm:okL m):val l+val m<4294967296^(max l.length m.length+1):=by
 have h1:=Nat.lt_of_lt_of_le (zfw hl) (Nat.pow_le_pow_right (by decide:0<4294967296) (Nat.le_max_left l.length m.length))
 have h2:=Nat.lt_of_lt_of_le (zfw hm) (Nat.pow_le_pow_right (by decide:0<4294967296) (Nat.le_max_right l.length m.length))
 rw [Nat.pow_succ]
 omega
structure AddI (l m:List Nat) (i:Nat):Prop where
 le:i≤max l.length m.length+1
 top:i=max l.length m.length+1→4294967296^max l.length m.length≤val l+val m
theorem AddI.more {l m:List Nat}{i:Nat}(h:AddI l m i)(hl:okL l)(hm:okL m)(hb:((decide ((i:Int)<(l.length:Int)) || decide ((i:Int)<(m.length:Int))) || decide (((sumTo l m i/4294967296^i:Nat):Int)>((0:Nat):Int)))=true):i≤max l.length m.length∧AddI l m (i+1):=by
 have h0:=h.le
 simp only [Bool.or_eq_true,decide_eq_true_eq] at hb
 have h1:i≠max l.length m.length+1:=by
  intro e
  have h3:=sum_lt hl hm
  have h4:sumTo l m i/4294967296^i=0:=by
   rw [zm7 zo,e]
   exact Nat.div_eq_of_lt h3
  rw [h4] at hb
  omega
 refine ⟨by omega,by omega,fun e=>?_⟩
 have e':i=max l.length m.length:=by omega
 have h3:0<sumTo l m i/4294967296^i:=by
  rcases hb with (hb | hb) | hb
  ·omega
  ·omega
  ·omega
 rw [zm7 zo,e'] at h3
 exact (Nat.div_pos_iff.1 h3).2
theorem AddI.fin {l m:List Nat}{i:Nat}(h:AddI l m i)(hl:okL l)(hm:okL m)(hb:((decide ((i:Int)<(l.length:Int)) || decide ((i:Int)<(m.length:Int))) || decide (((sumTo l m i/4294967296^i:Nat):Int)>((0:Nat):Int)))=false):digs i (sumTo l m i)=digs (addN l m) (val l+val m):=by
 simp only [Bool.or_eq_false_iff,decide_eq_false_iff_not] at hb
 have h0:=h.le
 have h1:max l.length m.length≤i:=by omega
 rw [zm7 h1]
 rw [zm7 h1] at hb
 congr 1
 unfold addN
 by_cases e:i=max l.length m.length+1
 ·have:=h.top e
  rw [if_neg zo,e]
 ·have e':i=max l.length m.length:=by omega
  rw [if_pos,e']
  rw [← e']
  have hp:0<4294967296^i:=Nat.pow_pos zd
  refine (Nat.div_eq_zero_iff_lt hp).1 ?_
  generalize (val l+val m)/4294967296^i=z at *
  omega
theorem add_row {l m:List Nat}{i:Nat}:NL (digs i (sumTo l m i))++NL [(sumTo l m i/4294967296^i+l.getD i 0+m.getD i 0)%4294967296]=NL (digs (i+1) (sumTo l m (i+1))):=by
 unfold NL
 rw [sum_nx,zeb,List.map_append,Nat.add_assoc]
theorem add_car {l m:List Nat}{i:Nat}:(sumTo l m i/4294967296^i+l.getD i 0+m.getD i 0)/4294967296=sumTo l m (i+1)/4294967296^(i+1):=by
 rw [sum_nx,carry_step',Nat.add_assoc]
theorem radd_c (l m:List Nat)(hls:l.length≤10000000000)(hms:m.length≤10000000000):Cn Tryz.prog 216 [(MgA l).va,(MgA m).va] ((MgA (digs (addN l m) (val l+val m))).va):=by
 obtain ⟨it,z,e1,e2,e3,e4,e5⟩:=zkx
 refine Cn.introF Tryz.func216 rfl zk nq (fun B w0 a hF O=>?_)
 have O:=zn [(0,(MgA l).va),(1,(MgA m).va)] [] O
 obtain ⟨v0,hv0,O⟩:=St.eqv O 0 rfl
 obtain ⟨v1,hv1,O⟩:=St.eqv O 1 rfl
 have hl:=(zed hv0).1; have hm:=(zed hv1).1
 refine wp_seq<|zh [.v 4 _] [.g 0,.g 1,.o 0] O (zv rfl (za2 zb8) o0) (zz [(0,_),(1,_),(4,_)] [] fun a w O=>?_)
 refine zt<|zh [.v 5 _] [.g 0,.g 1,.g 2,.o 0] O (zv rfl (za2 zb8) o0) (zz [(0,_),(1,_),(4,_),(5,_)] [] fun a w O=>?_)
 refine zt<|zh [.v 6 _] [.g 0,.g 1,.g 2,.g 3,.o 0] O (zv rfl (za2 (zau 0 rfl)) o0) (zz [(0,_),(1,_),(4,_),(5,_),(6,_)] [] fun a w O=>?_)
 refine zt<|wp_seq<|zh [.v 7 _] [.g 0,.g 1,.g 2,.g 3,.g 4,.o 0] O (zv rfl (za2 za3) o0) (zz [(0,_),(1,_),(4,_),(5,_),(6,_),(7,_)] [] fun a w O=>?_)
 refine za0<|wp_block ?_
 have O:=St.sel O [0,1,3,4,5]
 refine wp_loop_ghost (fun n a w=>∃ i:Nat,(n+i=max l.length m.length+1∧AddI l m i)∧St B w0 57 [(0,EqV v0),(1,EqV v1),(5,OwnR w0.w.heap.size U32 1 [] (NL (digs i (sumTo l m i)))),(6,(NumA .u64 ((sumTo l m i/4294967296^i:Nat):Int)).va),(7,In (i:Nat))] [] a w) (max l.length m.length+1) ?_ ?_
 ·exact ⟨0,⟨rfl,⟨by omega,fun h=>by omega⟩⟩,St.wkG (A':=(NumA .u64 ((sumTo l m 0/4294967296^0:Nat):Int)).va) (St.wkG O 2 rfl zk8) 3 rfl (zbt (congrArg (fun x:Nat=>(NumA .u64 (x:Int)).va) (by simp [zg8]:0=sumTo l m 0/4294967296^0)))⟩
 intro n a w hI
 obtain ⟨i,⟨hn,hI⟩,O⟩:=hI
 have hc:=zfo hl hm i
 refine wp_seq<|wp_seq<|zh [.v 9 _,.v 10 _,.v 11 _,.v 12 _,.v 13 _,.v 14 (Wh (_=false) _),.v 15 (Wh (_=false) _),.v 16 (Wh (_=false) _),.v 17 (Wh (_=false) _),.v 18 _,.v 19 _,.v 20 (Wh (_=false) _),.v 21 (Wh (_=false) _),.v 22 _] [.g 0,.g 1,.g 2,.g 3,.g 4,.o 13] O (zv rfl (za1 (gq 4 rfl)) (zv rfl (za1 (gq 0 rfl)) (zv rfl (zax Tryz.underlying23 (zc0 hF hv0 (vq 1 rfl))) (zv rfl (zb1 (vq 0 rfl) (vq 2 rfl)) (zv rfl (za1 (vq 3 rfl)) (oc (zan rfl rfl rfl (vq 4 rfl) nq (fun hg=>za1 (gq 4 rfl))) (oc (zan rfl rfl rfl (vq 4 rfl) nq (fun hg=>za1 (gq 1 rfl))) (oc (zan rfl rfl rfl (vq 4 rfl) nq (fun hg=>zax Tryz.underlying23 (zc0 hF hv1 (zab (vq 6 rfl) hg)))) (oc (zan rfl rfl rfl (vq 4 rfl) nq (fun hg=>zb1 (zab (vq 5 rfl) hg) (zab (vq 7 rfl) hg))) (zv rfl (r_or (vq 4 rfl) (vq 8 rfl)) (zv rfl (za1 (vq 9 rfl)) (oc (zan rfl rfl rfl (vq 10 rfl) nq (fun hg=>za1 (gq 3 rfl))) (oc (zan rfl rfl rfl (vq 10 rfl) nq (fun hg=>zev (zab (vq 11 rfl) hg) (zau 0 rfl))) (zv rfl (r_or (vq 10 rfl) (vq 12 rfl)) o0)))))))))))))) (zz [(0,_),(1,_),(5,_),(6,_),(7,_),(22,_)] [] fun a w O=>?_)
 refine za0<|za8 O (zm 5 rfl) (fun hb0=>?_) (fun hb0=>?_)
 ·obtain ⟨hi,hI2⟩:=hI.more hl hm hb0
  have hg1:=zg3 hl i
  have hg2:=zg3 hm i
  refine wp_skip<|zt<|wp_block<|wp_seq<|zh [.v 25 _,.v 8 _] [.g 0,.g 1,.g 2,.g 3,.g 4,.o 1] O (zv rfl (za1 (gq 3 rfl)) (zv rfl (za2 (vq 0 rfl)) o0)) (zz [(0,_),(1,_),(5,_),(6,_),(7,_),(8,_)] [] fun a w O=>?_)
  refine zt<|wp_seq<|zh [.v 26 _,.v 27 _,.v 28 _,.v 29 _] [.g 0,.g 1,.g 2,.g 3,.g 4,.g 5,.o 3] O (zv rfl (za1 (gq 4 rfl)) (zv rfl (za1 (gq 0 rfl)) (zv rfl (zax Tryz.underlying23 (zc0 hF hv0 (vq 1 rfl))) (zv rfl (zb1 (vq 0 rfl) (vq 2 rfl)) o0)))) (zz [(0,_),(1,_),(5,_),(6,_),(7,_),(8,_),(29,_)] [] fun a w O=>?_)
  refine za0<|zcn (fun a w =>  St B w0 57 [(0,EqV v0),(1,EqV v1),(5,OwnR w0.w.heap.size U32 1 [] (NL (digs i (sumTo l m i)))),(7,In (i:Nat)),(8,(NumA .u64 ((sumTo l m i/4294967296^i+l.getD i 0:Nat):Int)).va)] [] a w) O (zm 6 rfl) (fun hb1=>?_) (fun hb1=>?_) (fun a w O=>?_)
  ·refine zh [.v 30 _,.v 31 _,.v 32 _,.v 33 _,.v 34 _,.v 35 _,.v 36 _,.v 8 _] [.g 0,.g 1,.g 2,.g 3,.g 4,.o 7] O (zv rfl (za1 (gq 5 rfl)) (zv rfl (za1 (gq 0 rfl)) (zv rfl (za1 (gq 4 rfl)) (zv rfl (zc4 zbc (zc0 hF hv0 (vq 1 rfl)) (vq 2 rfl) (by simp at hb1; omega)) (zv rfl (zad (vq 3 rfl) zb0) (zv rfl (zaw .u64 zk zk (vq 4 rfl) (wu64 (Nat.lt_trans (hl _ (List.getElem_mem _)) zd))) (zv rfl (zb5 (vq 0 rfl) (vq 5 rfl) (wadd64 (by have:=hl _ (List.getElem_mem (by simp at hb1; omega:i<l.length)); omega))) (zv rfl (za2 (vq 6 rfl)) o0)))))))) (zz [(0,_),(1,_),(5,_),(6,_),(7,_),(8,_)] [] fun a w O=>?_)
   refine za0 ?_
   have O:=St.sel O [0,1,2,4,5]
   rw [zdc (by simp at hb1; omega)]; exact O
  ·refine wp_skip<|za0 ?_
   have O:=St.sel O [0,1,2,4,5]
   rw [zea (by simp at hb1; omega)]; exact O
  refine zt<|wp_seq<|zh [.v 37 _,.v 38 _,.v 39 _,.v 40 _] [.g 0,.g 1,.g 2,.g 3,.g 4,.o 3] O (zv rfl (za1 (gq 3 rfl)) (zv rfl (za1 (gq 1 rfl)) (zv rfl (zax Tryz.underlying23 (zc0 hF hv1 (vq 1 rfl))) (zv rfl (zb1 (vq 0 rfl) (vq 2 rfl)) o0)))) (zz [(0,_),(1,_),(5,_),(7,_),(8,_),(40,_)] [] fun a w O=>?_)
  refine za0<|zcn (fun a w =>  St B w0 57 [(0,EqV v0),(1,EqV v1),(5,OwnR w0.w.heap.size U32 1 [] (NL (digs i (sumTo l m i)))),(7,In (i:Nat)),(8,(NumA .u64 ((sumTo l m i/4294967296^i+l.getD i 0+m.getD i 0:Nat):Int)).va)] [] a w) O (zm 5 rfl) (fun hb2=>?_) (fun hb2=>?_) (fun a w O=>?_)
  ·refine zh [.v 41 _,.v 42 _,.v 43 _,.v 44 _,.v 45 _,.v 46 _,.v 47 _,.v 8 _] [.g 0,.g 1,.g 2,.g 3,.o 7] O (zv rfl (za1 (gq 4 rfl)) (zv rfl (za1 (gq 1 rfl)) (zv rfl (za1 (gq 3 rfl)) (zv rfl (zc4 zbc (zc0 hF hv1 (vq 1 rfl)) (vq 2 rfl) (by simp at hb2; omega)) (zv rfl (zad (vq 3 rfl) zb0) (zv rfl (zaw .u64 zk zk (vq 4 rfl) (wu64 (Nat.lt_trans (hm _ (List.getElem_mem _)) zd))) (zv rfl (zb5 (vq 0 rfl) (vq 5 rfl) (wadd64 (by have:=hm _ (List.getElem_mem (by simp at hb2; omega:i<m.length)); omega))) (zv rfl (za2 (vq 6 rfl)) o0)))))))) (zz [(0,_),(1,_),(5,_),(7,_),(8,_)] [] fun a w O=>?_)
   refine za0 ?_
   have O:=St.sel O [0,1,2,3,4]
   rw [zdc (by simp at hb2; omega) (l:=m)]; exact O
  ·refine wp_skip<|za0 ?_
   have O:=St.sel O [0,1,2,3,4]
   rw [zea (by simp at hb2; omega) (l:=m)]; exact O
  refine zt<|zkf (sp:=[.v 48 _,.v 49 _,.v 50 _,.v 51 _,.v 52 _,.v 53 VT,.v 5 VT]) 5 [0,1,3,4] 0 4 O (zv rfl (za1 (gq 2 rfl)) (zv rfl (za1 (gq 4 rfl)) (zv rfl (zl9 (vq 1 rfl) (zau 4294967296 rfl) zd (nrem)) (zv rfl (zaw .u32 zk zk (vq 2 rfl) (wu32 (Nat.mod_lt _ zd))) (zv rfl (zdo (l:=[_]) (xs:=[.tmp 51]) zbc zk nq nq ((zfg (Nat.mod_lt _ zd))) (.cons (vq 3 rfl) .nil) rfl rfl) o0))))) rfl zk rfl rfl zd rfl zd rfl (fun _ _ h _=>(zed h).2) Tryz.underlying23 e1 e2 e3 e4 e5 zd (by simp only [List.length_map,zal,List.length_singleton]; omega) zd (fun T hT=>hT) zd (fun A hA=>by obtain ⟨_,_,rfl⟩:=List.mem_map.1 hA; rfl) zk nq nq zk zk (zz [(5,_),(0,_),(1,_),(7,_),(8,_)] [] fun a w O=>?_)
  refine za0<|zh [.v 54 _,.v 55 _,.v 6 _] [.g 0,.g 1,.g 2,.g 3,.o 2] O (zv rfl (za1 (gq 4 rfl)) (zv rfl (zla (vq 0 rfl) (zau 4294967296 rfl) zd (nquo zo)) (zv rfl (za2 (vq 1 rfl)) o0))) (zz [(5,_),(0,_),(1,_),(7,_),(6,_)] [] fun a w O=>?_)
  refine zae ?_
  refine za0<|zh [.v 23 _,.v 24 _,.v 7 _] [.g 0,.g 1,.g 2,.g 4,.o 2] O (zv rfl (za1 (gq 3 rfl)) (zv rfl (zb5 (vq 0 rfl) za3 (zb3 zo)) (zv rfl (za2 (vq 1 rfl)) o0))) (zz [(5,_),(0,_),(1,_),(6,_),(7,_)] [] fun a w O=>?_)
  refine za0 ?_
  have O:=St.sel O [1,2,0,3,4]
  exact ⟨n-1,by omega,i+1,⟨by omega,hI2⟩,St.wkG (A':=(NumA .u64 ((sumTo l m (i+1)/4294967296^(i+1):Nat):Int)).va) (St.wkG (A':=OwnR w0.w.heap.size U32 1 [] (NL (digs (i+1) (sumTo l m (i+1))))) O 2 rfl (zbt (congrArg (OwnR w0.w.heap.size U32 1 []) add_row))) 3 rfl (zbt (congrArg (fun x:Nat=>(NumA .u64 (x:Int)).va) add_car))⟩
 ·refine wp_exit<|za7<|za7<|zap<|zt<|zh [.v 56 _,.v 4 _] [.o 1] O (zv rfl (za1 (gq 2 rfl)) (zv rfl (za2 (vq 0 rfl)) o0)) (zz [(4,_)] [] fun a w O=>?_)
  refine za0<|wp_ret<|zai ?_ (zaf rfl O (zm 0 rfl))
  rw [hI.fin hl hm hb0]; exact zwq (zc7 _ _)
def MgB (b:Nat)(l:List Nat):As where
 n:=1
 ag:=false
 p B cs w:=(MgA l).p B cs w∧∀ c∈cs,∀ g,blk c=some g→b≤g
 deps:=(MgA l).deps
 len:=fun B cs w h=>(MgA l).len B cs w h.1
 one:=fun B cs w h=>(MgA l).one B cs w h.1
 ag1:=fun _=>rfl
 cg:=fun B cs w w' hg h=>⟨(MgA l).cg B cs w w' hg h.1,h.2⟩
 wr:=fun B cs w w' g c T fz h1 h2 h3 h4 h=>⟨(MgA l).wr B cs w w' g c T fz h1 h2 h3 h4 h.1,h.2⟩
theorem zoq {b:Nat}{l:List Nat}:Wk (MgB b l).va (MgA l).va:=fun _ _ _ ⟨cs,h,hv⟩=>⟨cs,h.1,hv⟩
theorem zop {b B:Nat}{l:List Nat}{v:Value}{w:World}(h:(MgB b l).va.p B v w):∀ g,blk v=some g→b≤g:=by
 obtain ⟨cs,⟨h1,h2⟩,hv⟩:=h
 have hn:=(MgA l).len _ _ _ h1
 match cs,hn with
 | [c],_ =>
  have e:v=c:=hv
  subst e
  exact h2 _ (by simp)
theorem zx8 {b B:Nat}{l:List Nat}{v:Value}{w:World}(h:(MgA l).va.p B v w)(hb:∀ g,blk v=some g→b≤g):(MgB b l).va.p B v w:=by
 obtain ⟨cs,h1,hv⟩:=h
 have hn:=(MgA l).len _ _ _ h1
 match cs,hn with
 | [c],_ =>
  have e:v=c:=hv
  subst e
  exact ⟨[v],⟨h1,fun c hc=>by simp at hc; subst hc; exact hb⟩,rfl⟩
theorem famB (b:Nat):Fam (MgB b):=⟨fun _=>rfl,fun _=>rfl,fun l B v w h=>by
 obtain ⟨A,c,hv,hm,hk⟩:=famA.op l B v w (zoq _ _ _ h)
 refine ⟨A,c,hv,hm,fun k=>zx8 (hk k) fun g hg=>zop h g ?_⟩
 rw [hv]
 cases A with
 | none=>cases hg
 | some ad=>exact hg,fun B w=>⟨zg0 B w,fun c hc g hg=>by simp at hc; subst hc; cases hg⟩⟩
theorem zwp {b:Nat}{l:List Nat}(ok:okL l):Wk (OwnR b U32 1 [] (NL l)) (MgB b l).va:=fun B v w h=>zx8 (zwq ok B v w h) fun g hg=>by
 obtain ⟨_,_,ds,_,_,h5⟩:=h
 rcases h5 with ⟨h5,_⟩ | ⟨g',cap,cur,e1,e2,_⟩
 ·have e:v=.slice none 0 0:=h5
  rw [e] at hg
  cases hg
 ·rw [e1] at hg
  injection hg with hg
  rw [← hg]
  exact e2
theorem wsub' {x y:Nat}(h:y≤x)(hx:x<18446744073709551616):IntKind.u64.wrap ((x:Int)-(y:Int))=((x-y:Nat):Int):=by
 have e:((x:Int)-(y:Int))=((x-y:Nat):Int):=by omega
 rw [e,wu64 zo]
theorem sub_row {l m:List Nat}{i:Nat}(h:i<l.length)(hl:okL l)(hm:okL m):NL (digs i (dif l m i))++NL [(if l[i]<1-dif l m i/4294967296^i+m.getD i 0 then l[i]+4294967296 else l[i])-(1-dif l m i/4294967296^i+m.getD i 0)]=NL (digs (i+1) (dif l m (i+1))):=by
 have h1:=zg3 hm i
 have h2:=zt0 (m:=m) hl i
 have h3:=hl _ (List.getElem_mem h)
 unfold NL
 rw [znv h hm,zeb,List.map_append]
 congr 3
 generalize dif l m i/4294967296^i=q at *
 generalize m.getD i 0=y at *
 generalize l[i]=x at *
 split <;> omega
theorem sub_car {l m:List Nat}{i:Nat}(h:i<l.length)(hl:okL l)(hm:okL m):(if l[i]<1-dif l m i/4294967296^i+m.getD i 0 then 1 else 0)=1-dif l m (i+1)/4294967296^(i+1):=by
 rw [Nat.add_comm]
 exact zjy h hl hm rfl
theorem sub_fin {l m:List Nat}(hl:okL l)(h:m.length≤l.length)(hv:val m≤val l):trimL (digs l.length (dif l m l.length))=limbs (val l-val m):=by
 have:=zob hl h hv
 unfold subSt at this
 rw [Nat.sub_self,List.replicate_zero,List.append_nil] at this
 exact this
theorem zvy (l m:List Nat)(hls:l.length≤10000000000)(hml:m.length≤l.length)(hv:val m≤val l):CnI Tryz.prog 218 [(MgA l).va,(MgA m).va] (fun b=>(MgB b (limbs (val l-val m))).va):=by
 obtain ⟨it,z,e1,e2,e3,e4,e5⟩:=zkx
 refine CnI.introF Tryz.func218 rfl zk nq (fun B w0 a hF0 hF O=>?_)
 have O:=zn [(0,(MgA l).va),(1,(MgA m).va)] [] O
 obtain ⟨v0,hv0,O⟩:=St.eqv O 0 rfl
 obtain ⟨v1,hv1,O⟩:=St.eqv O 1 rfl
 have hl:=(zed hv0).1; have hm:=(zed hv1).1
 refine wp_seq<|zh [.v 4 _] [.g 0,.g 1,.o 0] O (zv rfl (za2 zb8) o0) (zz [(0,_),(1,_),(4,_)] [] fun a w O=>?_)
 refine zt<|zh [.v 5 _] [.g 0,.g 1,.g 2,.o 0] O (zv rfl (za2 zb8) o0) (zz [(0,_),(1,_),(4,_),(5,_)] [] fun a w O=>?_)
 refine zt<|zh [.v 6 _] [.g 0,.g 1,.g 2,.g 3,.o 0] O (zv rfl (za2 (zau 0 rfl)) o0) (zz [(0,_),(1,_),(4,_),(5,_),(6,_)] [] fun a w O=>?_)
 refine zt<|wp_seq<|zh [.v 7 _] [.g 0,.g 1,.g 2,.g 3,.g 4,.o 0] O (zv rfl (za2 za3) o0) (zz [(0,_),(1,_),(4,_),(5,_),(6,_),(7,_)] [] fun a w O=>?_)
 refine za0<|wp_block ?_
 have O:=St.sel O [0,1,3,4,5]
 refine wp_loop_ghost (fun n a w=>∃ i:Nat,(n+i=l.length)∧St B w0 47 [(0,EqV v0),(1,EqV v1),(5,OwnR w0.w.heap.size U32 1 [] (NL (digs i (dif l m i)))),(6,(NumA .u64 ((1-dif l m i/4294967296^i:Nat):Int)).va),(7,In (i:Nat))] [] a w) (l.length) ?_ ?_
 ·exact ⟨0,by omega,St.wkG (A':=(NumA .u64 ((1-dif l m 0/4294967296^0:Nat):Int)).va) (St.wkG O 2 rfl zk8) 3 rfl (zbt (congrArg (fun x:Nat=>(NumA .u64 (x:Int)).va) (zsz l m).symm))⟩
 intro n a w hI
 obtain ⟨i,hn,O⟩:=hI
 have hc:=zt0 (m:=m) hl i
 have hc1:1-dif l m i/4294967296^i≤1:=Nat.sub_le _ _
 have hg2:=zg3 hm i
 refine wp_seq<|wp_seq<|zh [.v 10 _,.v 11 _,.v 12 _,.v 13 _] [.g 0,.g 1,.g 2,.g 3,.g 4,.o 3] O (zv rfl (za1 (gq 4 rfl)) (zv rfl (za1 (gq 0 rfl)) (zv rfl (zax Tryz.underlying23 (zc0 hF hv0 (vq 1 rfl))) (zv rfl (zb1 (vq 0 rfl) (vq 2 rfl)) o0)))) (zz [(0,_),(1,_),(5,_),(6,_),(7,_),(13,_)] [] fun a w O=>?_)
 refine za0<|za8 O (zm 5 rfl) (fun hb0=>?_) (fun hb0=>?_)
 ·have hi:i<l.length:=by simp at hb0; omega
  have hx:=hl _ (List.getElem_mem hi)
  refine wp_skip<|zt<|wp_block<|wp_seq<|zh [.v 16 _,.v 8 _] [.g 0,.g 1,.g 2,.g 3,.g 4,.o 1] O (zv rfl (za1 (gq 3 rfl)) (zv rfl (za2 (vq 0 rfl)) o0)) (zz [(0,_),(1,_),(5,_),(6,_),(7,_),(8,_)] [] fun a w O=>?_)
  refine zt<|wp_seq<|zh [.v 17 _,.v 18 _,.v 19 _,.v 20 _] [.g 0,.g 1,.g 2,.g 3,.g 4,.g 5,.o 3] O (zv rfl (za1 (gq 4 rfl)) (zv rfl (za1 (gq 1 rfl)) (zv rfl (zax Tryz.underlying23 (zc0 hF hv1 (vq 1 rfl))) (zv rfl (zb1 (vq 0 rfl) (vq 2 rfl)) o0)))) (zz [(0,_),(1,_),(5,_),(6,_),(7,_),(8,_),(20,_)] [] fun a w O=>?_)
  refine za0<|zcn (fun a w =>  St B w0 47 [(0,EqV v0),(1,EqV v1),(5,OwnR w0.w.heap.size U32 1 [] (NL (digs i (dif l m i)))),(7,In (i:Nat)),(8,(NumA .u64 ((1-dif l m i/4294967296^i+m.getD i 0:Nat):Int)).va)] [] a w) O (zm 6 rfl) (fun hb1=>?_) (fun hb1=>?_) (fun a w O=>?_)
  ·refine zh [.v 21 _,.v 22 _,.v 23 _,.v 24 _,.v 25 _,.v 26 _,.v 27 _,.v 8 _] [.g 0,.g 1,.g 2,.g 3,.g 4,.o 7] O (zv rfl (za1 (gq 5 rfl)) (zv rfl (za1 (gq 1 rfl)) (zv rfl (za1 (gq 4 rfl)) (zv rfl (zc4 zbc (zc0 hF hv1 (vq 1 rfl)) (vq 2 rfl) (by simp at hb1; omega)) (zv rfl (zad (vq 3 rfl) zb0) (zv rfl (zaw .u64 zk zk (vq 4 rfl) (wu64 (Nat.lt_trans (hm _ (List.getElem_mem _)) zd))) (zv rfl (zb5 (vq 0 rfl) (vq 5 rfl) (wadd64 (by have:=hm _ (List.getElem_mem (by simp at hb1; omega:i<m.length)); omega))) (zv rfl (za2 (vq 6 rfl)) o0)))))))) (zz [(0,_),(1,_),(5,_),(6,_),(7,_),(8,_)] [] fun a w O=>?_)
   refine za0 ?_
   have O:=St.sel O [0,1,2,4,5]
   rw [zdc (by simp at hb1; omega) (l:=m)]; exact O
  ·refine wp_skip<|za0 ?_
   have O:=St.sel O [0,1,2,4,5]
   rw [zea (by simp at hb1; omega) (l:=m)]; exact O
  refine zt<|zh [.v 28 _,.v 29 _,.v 30 _,.v 31 _,.v 32 _,.v 9 _] [.g 0,.g 1,.g 2,.g 3,.g 4,.o 5] O (zv rfl (za1 (gq 0 rfl)) (zv rfl (za1 (gq 3 rfl)) (zv rfl (zc4 zbc (zc0 hF hv0 (vq 0 rfl)) (vq 1 rfl) hi) (zv rfl (zad (vq 2 rfl) zb0) (zv rfl (zaw .u64 zk zk (vq 3 rfl) (wu64 (Nat.lt_trans (hl _ (List.getElem_mem _)) zd))) (zv rfl (za2 (vq 4 rfl)) o0)))))) (zz [(0,_),(1,_),(5,_),(7,_),(8,_),(9,_)] [] fun a w O=>?_)
  refine zt<|zh [.v 6 _] [.g 0,.g 1,.g 2,.g 3,.g 4,.g 5,.o 0] O (zv rfl (za2 (zau 0 rfl)) o0) (zz [(0,_),(1,_),(5,_),(7,_),(8,_),(9,_),(6,_)] [] fun a w O=>?_)
  refine zt<|wp_seq<|zh [.v 33 _,.v 34 _,.v 35 _] [.g 0,.g 1,.g 2,.g 3,.g 4,.g 5,.g 6,.o 2] O (zv rfl (za1 (gq 5 rfl)) (zv rfl (za1 (gq 4 rfl)) (zv rfl (zb1 (vq 0 rfl) (vq 1 rfl)) o0))) (zz [(0,_),(1,_),(5,_),(7,_),(8,_),(9,_),(6,_),(35,_)] [] fun a w O=>?_)
  refine za0<|zcn (fun a w =>  St B w0 47 [(0,EqV v0),(1,EqV v1),(5,OwnR w0.w.heap.size U32 1 [] (NL (digs i (dif l m i)))),(6,(NumA .u64 (((if l[i]<1-dif l m i/4294967296^i+m.getD i 0 then 1 else 0):Nat):Int)).va),(7,In (i:Nat)),(8,(NumA .u64 ((1-dif l m i/4294967296^i+m.getD i 0:Nat):Int)).va),(9,(NumA .u64 (((if l[i]<1-dif l m i/4294967296^i+m.getD i 0 then l[i]+4294967296 else l[i]):Nat):Int)).va)] [] a w) O (zm 7 rfl) (fun hb2=>?_) (fun hb2=>?_) (fun a w O=>?_)
  ·refine wp_seq<|zh [.v 36 _,.v 37 _,.v 9 _] [.g 0,.g 1,.g 2,.g 3,.g 4,.g 6,.o 2] O (zv rfl (za1 (gq 5 rfl)) (zv rfl (zb5 (vq 0 rfl) (zau 4294967296 rfl) (wadd64 zo)) (zv rfl (za2 (vq 1 rfl)) o0))) (zz [(0,_),(1,_),(5,_),(7,_),(8,_),(6,_),(9,_)] [] fun a w O=>?_)
   refine za0<|zh [.v 6 _] [.g 0,.g 1,.g 2,.g 3,.g 4,.g 6,.o 0] O (zv rfl (za2 (zau 1 rfl)) o0) (zz [(0,_),(1,_),(5,_),(7,_),(8,_),(9,_),(6,_)] [] fun a w O=>?_)
   refine za0 ?_
   have O:=St.sel O [0,1,2,6,3,4,5]
   have hlt:l[i]<1-dif l m i/4294967296^i+m.getD i 0:=Int.ofNat_lt.1 (of_decide_eq_true hb2)
   rw [if_pos hlt,if_pos hlt]; exact O
  ·refine wp_skip<|za0 ?_
   have O:=St.sel O [0,1,2,6,3,4,5]
   have hlt:¬ l[i]<1-dif l m i/4294967296^i+m.getD i 0:=fun h=>of_decide_eq_false hb2 (Int.ofNat_lt.2 h)
   rw [if_neg hlt,if_neg hlt]; exact O
  refine za0<|zkf (sp:=[.v 38 _,.v 39 _,.v 40 _,.v 41 _,.v 42 _,.v 43 _,.v 44 VT,.v 5 VT]) 6 [0,1,3,4] 0 5 O (zv rfl (za1 (gq 2 rfl)) (zv rfl (za1 (gq 6 rfl)) (zv rfl (za1 (gq 5 rfl)) (zv rfl (zd1 (vq 1 rfl) (vq 2 rfl) (wsub' (by split <;> omega) (by split <;> omega))) (zv rfl (zaw .u32 zk zk (vq 3 rfl) (wu32 (by split <;> omega))) (zv rfl (zdo (l:=[_]) (xs:=[.tmp 42]) zbc zk nq nq ((zfg (by split <;> omega))) (.cons (vq 4 rfl) .nil) rfl rfl) o0)))))) rfl zk rfl rfl zd rfl zd rfl (fun _ _ h _=>(zed h).2) Tryz.underlying23 e1 e2 e3 e4 e5 zd (by simp only [List.length_map,zal,List.length_singleton]; omega) zd (fun T hT=>hT) zd (fun A hA=>by obtain ⟨_,_,rfl⟩:=List.mem_map.1 hA; rfl) zk nq nq zk zk (zz [(5,_),(0,_),(1,_),(6,_),(7,_)] [] fun a w O=>?_)
  refine zae ?_
  refine za0<|zh [.v 14 _,.v 15 _,.v 7 _] [.g 0,.g 1,.g 2,.g 3,.o 2] O (zv rfl (za1 (gq 4 rfl)) (zv rfl (zb5 (vq 0 rfl) za3 (zb3 zo)) (zv rfl (za2 (vq 1 rfl)) o0))) (zz [(5,_),(0,_),(1,_),(6,_),(7,_)] [] fun a w O=>?_)
  refine za0 ?_
  have O:=St.sel O [1,2,0,3,4]
  exact ⟨n-1,by omega,i+1,by omega,St.wkG (A':=(NumA .u64 ((1-dif l m (i+1)/4294967296^(i+1):Nat):Int)).va) (St.wkG (A':=OwnR w0.w.heap.size U32 1 [] (NL (digs (i+1) (dif l m (i+1))))) O 2 rfl (zbt (congrArg (OwnR w0.w.heap.size U32 1 []) (sub_row hi hl hm)))) 3 rfl (zbt (congrArg (fun x:Nat=>(NumA .u64 (x:Int)).va) (sub_car hi hl hm)))⟩
 ·obtain rfl:i=l.length:=by simp at hb0; omega
  have O:=St.wkG (A':=(MgB w0.w.heap.size (digs l.length (dif l m l.length))).va) O 2 rfl (zwp (zc7 _ _))
  refine wp_exit<|za7<|za7<|zap<|zt<|zh [.v 45 _,.v 46 _,.v 4 _] [.o 2] O (zv rfl (za1 (gq 2 rfl)) (zv rfl (za5 (xs:=[.tmp 45]) (zem (famB w0.w.heap.size) _) (.cons (vq 0 rfl) .nil)) (zv rfl (za2 (vq 1 rfl)) o0))) (zz [(4,_)] [] fun a w O=>?_)
  refine za0<|wp_ret<|zai ?_ (zaf rfl O (zm 0 rfl))
  rw [sub_fin hl hml hv]; exact zbn
theorem CnI.cn {P:Program}{f:FuncId}{pre:List VA}{mk:Nat→VA}{A:VA}(h:CnI P f pre mk)(hw:∀ b,Wk (mk b) A):Cn P f pre A:=⟨h.1,fun B w args hB ha=>(h.2 B w args hB ha).mono fun e w' ⟨v,he,hv,hg⟩=>⟨v,he,hw _ _ _ _ hv,hg⟩⟩
theorem zvw (l m:List Nat)(hls:l.length≤10000000000)(hml:m.length≤l.length)(hv:val m≤val l):Cn Tryz.prog 218 [(MgA l).va,(MgA m).va] (MgA (limbs (val l-val m))).va:=(zvy l m hls hml hv).cn fun _=>zoq
end Go.Proofs.YthdbhckhignfcaaGreatDoor
namespace Go.Proofs.YthdbhckhignfcaaGreatDoor
open Go Go.RowKit
theorem MulI.step' {a b L:List Nat}{i u k c:Nat}(h:MulI a b L i u k c)(hb:okL b)(hu:u<4294967296)(hk:k<b.length)(hj:i+k<L.length) :
  MulI a b (L.set (i+k) ((u*b[k]+L[i+k]+c)%4294967296)) i u (k+1) ((u*b[k]+L[i+k]+c)/4294967296):=by
 have:=h.step hb hu hk hj
 rw [Nat.add_comm c] at this
 exact this
theorem mul_fin {a b L:List Nat}(ha:okL a)(hb:okL b)(h:MulO a b L a.length):trimL L=limbs (val a*val b):=by
 rw [h.fin,zic]
 rw [Nat.pow_add]
 exact Nat.mul_lt_mul'' (zfw ha) (zfw hb)
theorem zw1 (l m:List Nat)(hls:l.length≤1099511627776)(hms:m.length≤1099511627776):Cn Tryz.prog 204 [(MgA l).va,(MgA m).va] ((MgN (limbs (val l*val m))).va):=by
 refine Cn.introW Tryz.func204 rfl zk nq (.cons (zjv _).va (.cons (zjv _).va .nil)) (zek _).va (fun B w0 a hB0 O=>?_)
 have O:=zn [(0,(MgO l).va),(1,(MgO m).va)] [] O
 have ha:=(O.magO 0 rfl).1; have hb:=(O.magO 1 rfl).1
 refine wp_seq<|zh [.v 4 _] [.g 0,.g 1,.o 0] O (zv rfl (za2 zb8) o0) (zz [(0,_),(1,_),(4,_)] [] fun a w O=>?_)
 refine zt<|zdm (sts:=[]) (news:=[⟨15,106,slH _ _,some 5,_,none⟩]) (sp:=[.v 10 _,.v 11 _,.v 12 _,.v 13 _,.v 14 _,.alc 0,.adr 5 15 .none True]) [.g 0,.g 1,.g 2] [(5,15)] [⟨5,106,slH _ _,_⟩] O (zv rfl (za1 (gq 0 rfl)) (zv rfl (zax Tryz.underlying23 (zaz (vq 0 rfl))) (zv rfl (za1 (gq 1 rfl)) (zv rfl (zax Tryz.underlying23 (zaz (vq 2 rfl))) (zv rfl (zb5 (vq 1 rfl) (vq 3 rfl) (zh8 zo)) (oc (zeo rfl rfl rfl zfs (vq 4 rfl) (vq 4 rfl) zo) (oc (ob_a rfl rfl zl0) o0))))))) zk zk zk ⟨⟨6,rfl⟩,trivial⟩ rfl zk (zz [(0,_),(1,_),(4,_)] [⟨5,106,slH _ _,_⟩] fun a w O=>?_)
 refine zt<|wp_seq<|zg [none] [] [.v 6 _] [.g 0,.g 1,.g 2,.o 0] O (zv rfl (za2 za3) o0) (zz [(0,_),(1,_),(4,_),(6,_)] [⟨5,106,slH _ _,_⟩] fun a w O=>?_)
 refine za0<|wp_block ?_
 have O:=St.sel O [0,1,3]
 refine wp_loop_ghost (fun n a w=>∃ (i:Nat) (L:List Nat),n+i=l.length∧MulO l m L i∧St B w0 69 [(0,(MgO l).va),(1,(MgO m).va),(6,In (i:Nat))] [⟨5,106,slH (l.length+m.length) (l.length+m.length),Nums .u32 L⟩] a w) (l.length) ?_ ?_
 ·exact ⟨0,_,by omega,MulO.start _ _,O⟩
 intro n a w hI
 obtain ⟨i,L,hn,hO,O⟩:=hI; obtain ⟨n1,hn1⟩:∃ n1,n1=n:=⟨n,rfl⟩; have hlen:=hO.len
 refine wp_seq<|wp_seq<|zg [none] [] [.v 16 _,.v 17 _,.v 18 _,.v 19 _] [.g 0,.g 1,.g 2,.o 3] O (zv rfl (za1 (gq 2 rfl)) (zv rfl (za1 (gq 0 rfl)) (zv rfl (zax Tryz.underlying23 (zaz (vq 1 rfl))) (zv rfl (zb1 (vq 0 rfl) (vq 2 rfl)) o0)))) (zz [(0,_),(1,_),(6,_),(19,_)] [⟨5,106,slH _ _,_⟩] fun a w O=>?_)
 refine za0<|za8 O (zm 3 rfl) (fun hb0=>?_) (fun hb0=>?_)
 ·have hi:i<l.length:=by simp at hb0; omega
  refine wp_skip<|zt<|wp_block<|wp_seq<|zg [none] [] [.v 7 _] [.g 0,.g 1,.g 2,.o 0] O (zv rfl (za2 (zau 0 rfl)) o0) (zz [(0,_),(1,_),(6,_),(7,_)] [⟨5,106,slH _ _,_⟩] fun a w O=>?_)
  refine zt<|wp_seq<|zg [none] [] [.v 8 _] [.g 0,.g 1,.g 2,.g 3,.o 0] O (zv rfl (za2 za3) o0) (zz [(0,_),(1,_),(6,_),(7,_),(8,_)] [⟨5,106,slH _ _,_⟩] fun a w O=>?_)
  refine za0<|wp_block ?_
  have O:=St.sel O [0,1,2,3,4]
  refine wp_loop_ghost (fun n a w=>∃ (k c:Nat) (L:List Nat),n+k=m.length∧MulI l m L i l[i] k c∧St B w0 69 [(0,(MgO l).va),(1,(MgO m).va),(6,In (i:Nat)),(7,(NumA .u64 ((c:Nat):Int)).va),(8,In (k:Nat))] [⟨5,106,slH (l.length+m.length) (l.length+m.length),Nums .u32 L⟩] a w) (m.length) ?_ ?_
  ·exact ⟨0,0,L,by omega,hO.row _,O⟩
  intro n a w hI
  clear hlen hO; obtain ⟨k,c,L,hn2,hI,O⟩:=hI; have hlen:=hI.len; have hc:=hI.cl
  refine wp_seq<|wp_seq<|zg [none] [] [.v 22 _,.v 23 _,.v 24 _,.v 25 _] [.g 0,.g 1,.g 2,.g 3,.g 4,.o 3] O (zv rfl (za1 (gq 4 rfl)) (zv rfl (za1 (gq 1 rfl)) (zv rfl (zax Tryz.underlying23 (zaz (vq 1 rfl))) (zv rfl (zb1 (vq 0 rfl) (vq 2 rfl)) o0)))) (zz [(0,_),(1,_),(6,_),(7,_),(8,_),(25,_)] [⟨5,106,slH _ _,_⟩] fun a w O=>?_)
  refine za0<|za8 O (zm 5 rfl) (fun hb1=>?_) (fun hb1=>?_)
  ·have hk:k<m.length:=by simp at hb1; omega
   refine wp_skip<|zt<|wp_block<|wp_seq<|zgd [[],[],[0,1],[0,1,2],[0,1,2,3],[],[],[5,6],[5,6,7],[5,6,7,8],[0,1,2,3,4,5,6,7,8,9],[],[],[],[12,13],[11,12,13,14],[11,12,13,14,15],[11,12,13,14,15,16],[0,1,2,3,4,5,6,7,8,9,10,11,12,13,14,15,16,17],[],[0,1,2,3,4,5,6,7,8,9,10,11,12,13,14,15,16,17,18,19],[0,1,2,3,4,5,6,7,8,9,10,11,12,13,14,15,16,17,18,19,20]] [none] [] [.v 28 _,.v 29 _,.v 30 _,.v 31 _,.v 32 _,.v 33 _,.v 34 _,.v 35 _,.v 36 _,.v 37 _,.v 38 _,.adr 39 5 .none True,.v 40 _,.v 41 _,.v 42 _,.adr 43 5 (.some _) True,.v 44 _,.v 45 _,.v 46 _,.v 47 _,.v 48 _,.v 9 _] [.g 0,.g 1,.g 2,.g 3,.g 4,.o 21] za6 O (zv rfl (za1 (gq 0 rfl)) (zv rfl (za1 (gq 2 rfl)) (zv rfl (zc4 zbc (zaz (vq 0 rfl)) (vq 1 rfl) zo) (zv rfl (zad (vq 2 rfl) zb0) (zv rfl (zaw .u64 zk zk (vq 3 rfl) (wu64 (Nat.lt_trans (ha _ (List.getElem_mem _)) zd))) (zv rfl (za1 (gq 1 rfl)) (zv rfl (za1 (gq 4 rfl)) (zv rfl (zc4 zbc (zaz (vq 5 rfl)) (vq 6 rfl) zo) (zv rfl (zad (vq 7 rfl) zb0) (zv rfl (zaw .u64 zk zk (vq 8 rfl) (wu64 (Nat.lt_trans (hb _ (List.getElem_mem _)) zd))) (zv rfl (zmh (vq 4 rfl) (vq 9 rfl) (wmul64 (Nat.lt_of_le_of_lt (Nat.le_trans (Nat.le_add_right _ _) (Nat.le_add_left _ _)) (zj2 (ha _ (List.getElem_mem _)) (hb _ (List.getElem_mem _)) (show 0<4294967296 by decide) (show 0<4294967296 by decide))))) (oc (ob_a rfl rfl zdd) (zv rfl (za1 (gq 2 rfl)) (zv rfl (za1 (gq 4 rfl)) (zv rfl (zb5 (vq 12 rfl) (vq 13 rfl) (zh8 zo)) (oc (ob_a rfl rfl (zf3 11 rfl zk (lz0 0 rfl) zbc (vq 14 rfl) zo)) (zv rfl (zpw 15 rfl zk (lz0 0 rfl) (fun _=>zck _ _ _ _) (zmu zo) zb0) (zv rfl (zaw .u64 zk zk (vq 16 rfl) (wu64 (Nat.lt_trans (hI.ok _ (List.getElem_mem _)) zd))) (zv rfl (zb5 (vq 10 rfl) (vq 17 rfl) (wadd64 (Nat.lt_of_le_of_lt (Nat.le_add_left _ _) (zj2 (ha _ (List.getElem_mem _)) (hb _ (List.getElem_mem _)) hc (hI.ok _ (List.getElem_mem _)))))) (zv rfl (za1 (gq 3 rfl)) (zv rfl (zb5 (vq 18 rfl) (vq 19 rfl) (wadd64 (by rw [Nat.add_comm]; exact zj2 (ha _ (List.getElem_mem _)) (hb _ (List.getElem_mem _)) hc (hI.ok _ (List.getElem_mem _))))) (zv rfl (za2 (vq 20 rfl)) o0)))))))))))))))))))))) zk zk zk zk (zz [(0,_),(1,_),(6,_),(7,_),(8,_),(9,_)] [⟨5,106,slH _ _,_⟩] fun a w O=>?_)
   refine zt<|zg [some (8,_)] [] [.adr 49 5 .none True,.v 50 _,.v 51 _,.v 52 _,.v 53 _,.v 54 _,.v 55 _,.adr 56 5 (.some _) True,.sto 0] [.g 0,.g 1,.g 2,.g 3,.g 4,.g 5] O (oc (ob_a rfl rfl zdd) (zv rfl (za1 (gq 2 rfl)) (zv rfl (za1 (gq 4 rfl)) (zv rfl (zb5 (vq 1 rfl) (vq 2 rfl) (zh8 zo)) (zv rfl (za1 (gq 5 rfl)) (zv rfl (zl9 (vq 4 rfl) (zau 4294967296 rfl) zd (nrem)) (zv rfl (zaw .u32 zk zk (vq 5 rfl) (wu32 (Nat.mod_lt _ zd))) (oc (ob_a rfl rfl (zf3 0 rfl zk (lz0 0 rfl) zbc (vq 3 rfl) zo)) (oc (zd2 7 rfl rfl rfl rfl zk (fun _=>zck _ _ _ _) (vq 6 rfl) zb0 (zc2 zo)) o0))))))))) (zz [(0,_),(1,_),(6,_),(7,_),(8,_),(9,_)] [⟨5,106,slH _ _,_⟩] fun a w O=>?_)
   refine za0<|zg [none] [] [.v 57 _,.v 58 _,.v 7 _] [.g 0,.g 1,.g 2,.g 4,.o 2] O (zv rfl (za1 (gq 5 rfl)) (zv rfl (zla (vq 0 rfl) (zau 4294967296 rfl) zd (nquo (Nat.lt_of_le_of_lt (Nat.div_le_self _ _) (by rw [Nat.add_comm]; exact zj2 (ha _ (List.getElem_mem _)) (hb _ (List.getElem_mem _)) hc (hI.ok _ (List.getElem_mem _)))))) (zv rfl (za2 (vq 1 rfl)) o0))) (zz [(0,_),(1,_),(6,_),(8,_),(7,_)] [⟨5,106,slH _ _,_⟩] fun a w O=>?_)
   refine zae ?_
   refine za0<|zg [none] [] [.v 26 _,.v 27 _,.v 8 _] [.g 0,.g 1,.g 2,.g 4,.o 2] O (zv rfl (za1 (gq 3 rfl)) (zv rfl (zb5 (vq 0 rfl) za3 (zb3 zo)) (zv rfl (za2 (vq 1 rfl)) o0))) (zz [(0,_),(1,_),(6,_),(7,_),(8,_)] [⟨5,106,slH _ _,_⟩] fun a w O=>?_)
   refine za0 ?_
   have O:=St.sel O [0,1,2,3,4]
   exact ⟨n-1,by omega,k+1,_,_,by omega,hI.step' hb (ha _ (List.getElem_mem _)) hk zo,O⟩
  ·obtain rfl:k=m.length:=by simp at hb1; omega
   refine wp_exit<|za7<|za7<|zap<|za0<|zg [some (8,_)] [] [.adr 59 5 .none True,.v 60 _,.v 61 _,.v 62 _,.v 63 _,.v 64 _,.v 65 _,.adr 66 5 (.some _) True,.sto 0] [.g 0,.g 1,.g 2] O (oc (ob_a rfl rfl zdd) (zv rfl (za1 (gq 2 rfl)) (zv rfl (za1 (gq 1 rfl)) (zv rfl (zax Tryz.underlying23 (zaz (vq 2 rfl))) (zv rfl (zb5 (vq 1 rfl) (vq 3 rfl) (zh8 zo)) (zv rfl (za1 (gq 3 rfl)) (zv rfl (zaw .u32 zk zk (vq 5 rfl) (wu32 hc)) (oc (ob_a rfl rfl (zf3 0 rfl zk (lz0 0 rfl) zbc (vq 4 rfl) zo)) (oc (zd2 7 rfl rfl rfl rfl zk (fun _=>zck _ _ _ _) (vq 6 rfl) zb0 (zc2 zo)) o0))))))))) (zz [(0,_),(1,_),(6,_)] [⟨5,106,slH _ _,_⟩] fun a w O=>?_)
   refine zae ?_
   refine za0<|zg [none] [] [.v 20 _,.v 21 _,.v 6 _] [.g 0,.g 1,.o 2] O (zv rfl (za1 (gq 2 rfl)) (zv rfl (zb5 (vq 0 rfl) za3 (zb3 zo)) (zv rfl (za2 (vq 1 rfl)) o0))) (zz [(0,_),(1,_),(6,_)] [⟨5,106,slH _ _,_⟩] fun a w O=>?_)
   refine za0 ?_
   have O:=St.sel O [0,1,2]
   exact ⟨n1-1,by omega,i+1,_,by omega,hI.done hi rfl,O⟩
 ·obtain rfl:i=l.length:=by simp at hb0; omega
  refine wp_exit<|za7<|za7<|zap<|zt<|zg [none] [] [.adr 67 5 .none True,.v 68 _,.v 4 _] [.o 2] O (oc (ob_a rfl rfl zdd) (zv rfl (za5 (xs:=[.tmp 67]) (zem famN _) (.cons (zhn 0 rfl zk (lz0 0 rfl) ⟨hO.len.symm,Nat.le_refl _,by unfold maxLen; omega,hO.ok⟩ hO.len.symm) .nil)) (zv rfl (za2 (vq 1 rfl)) o0))) (zz [(4,_)] [⟨5,106,slH _ _,_⟩] fun a w O=>?_)
  refine za0<|wp_ret<|zai ?_ (zaf rfl O (zm 0 rfl))
  rw [mul_fin ha hb hO]; exact zbn
theorem zja (x:Nat):(trimL [x]).length≤1∧val (trimL [x])=x:=⟨zv9 [x],by rw [zo3]; simp [val]⟩
theorem zrd (l:List Nat)(x:Nat)(hls:l.length≤1099511627776)(hx:x<4294967296):Cn Tryz.prog 233 [(MgA l).va,(NumA .u32 (x:Nat)).va] ((MgA (limbs (val l*x))).va):=by
 refine Cn.intro Tryz.func233 rfl zk nq (fun B w0 a O=>?_)
 have O:=zn [(0,(MgA l).va),(1,(NumA .u32 (x:Nat)).va)] [] O
 refine wp_seq<|zh [.v 4 _] [.g 0,.g 1,.o 0] O (zv rfl (za2 zb8) o0) (zz [(0,_),(1,_),(4,_)] [] fun a w O=>?_)
 refine zt<|zh [.v 5 _,.v 6 _,.v 7 _,.v 8 _,.v 9 _,.v 4 _] [.o 5] O (zv rfl (za1 (gq 0 rfl)) (zv rfl (za1 (gq 1 rfl)) (zv rfl (zdo (l:=[_]) (xs:=[.tmp 6]) zbc zk nq nq ((zfg hx)) (.cons (vq 1 rfl) .nil) rfl rfl) (zv rfl (za5 (xs:=[.tmp 7]) (zem famA _) (.cons (vq 2 rfl) .nil)) (zv rfl (za5 (xs:=[.tmp 5,.tmp 8]) (zw1 l (trimL [x]) hls (Nat.le_trans (zja x).1 zd)) (.cons (vq 0 rfl) (.cons (vq 3 rfl) .nil))) (zv rfl (za2 (vq 4 rfl)) o0)))))) (zz [(4,_)] [] fun a w O=>?_)
 refine za0<|wp_ret<|zai ?_ (zaf rfl O (zm 0 rfl))
 rw [(zja x).2]; exact znz
def rsSt (l:List Nat)(d n:Nat):List Nat:=List.replicate n 0++digs (l.length-n) (val (l.drop n)/d)
theorem zgc {l:List Nat}{d n:Nat}(h:n≤l.length):(rsSt l d n).length=l.length:=by simp [rsSt,zal]; omega
theorem zlo (l:List Nat)(d:Nat):rsSt l d l.length=List.replicate l.length 0:=by simp [rsSt,digs]
theorem zw0 {l:List Nat}{d n:Nat}:okL (rsSt l d n):=okL_append.2 ⟨fun x hx=>by rw [(List.mem_replicate.1 hx).2]; decide,zc7 _ _⟩
theorem zf5 {l:List Nat}{j:Nat}(h:j<l.length):val (l.drop j)=l[j]+4294967296*val (l.drop (j+1)):=by
 rw [List.drop_eq_getElem_cons h]; rfl
theorem rs_alg {x V d:Nat}(hd:0<d):(x+4294967296*V)/d=4294967296*(V/d)+(V%d*4294967296+x)/d∧(x+4294967296*V)%d=(V%d*4294967296+x)%d:=by
 have e:x+4294967296*V=(V%d*4294967296+x)+d*(4294967296*(V/d)):=by
  have:=Nat.div_add_mod V d
  have e2:d*(4294967296*(V/d))=4294967296*(d*(V/d)):=by rw [Nat.mul_left_comm]
  generalize d*(V/d)=p at *
  omega
 rw [e,Nat.add_mul_div_left _ _ hd,Nat.add_mul_mod_self_left]
 exact ⟨by omega,rfl⟩
theorem rs_lt {x V d:Nat}(hd:0<d)(hx:x<4294967296):(V%d*4294967296+x)/d<4294967296:=by
 have h1:=Nat.mod_lt V hd
 rw [Nat.div_lt_iff_lt_mul hd]
 have h2:(V%d+1)*4294967296≤d*4294967296:=Nat.mul_le_mul_right _ h1
 omega
theorem zpp {l:List Nat}{d j:Nat}(hl:okL l)(hd:0<d)(hj:j<l.length):(rsSt l d (j+1)).set j ((val (l.drop (j+1))%d*4294967296+l[j])/d)=rsSt l d j:=by
 unfold rsSt
 have e:l.length-j=(l.length-(j+1))+1:=by omega
 rw [zf5 hj,(rs_alg hd).1,e,Nat.add_comm (4294967296*_),Nat.add_comm _ (4294967296*_),zp9 _ _ _ (rs_lt hd (hl _ (List.getElem_mem hj)))]
 rw [List.replicate_succ',List.append_assoc,zfy _ _ _ _ (by simp)]
 rfl
theorem zpq {l:List Nat}{d j:Nat}(hd:0<d)(hj:j<l.length):(val (l.drop (j+1))%d*4294967296+l[j])%d=val (l.drop j)%d:=by
 rw [zf5 hj,(rs_alg hd).2]
theorem rs_fin {l:List Nat}{d:Nat}(hl:okL l):trimL (rsSt l d 0)=limbs (val l/d):=by
 unfold rsSt
 rw [List.replicate_zero,List.nil_append,Nat.sub_zero,List.drop_zero,zic]
 exact Nat.lt_of_le_of_lt (Nat.div_le_self _ _) (zfw hl)
theorem zre (l:List Nat)(d:Nat)(hls:l.length≤1099511627776)(hd:0<d)(hd2:d<4294967296):Cn Tryz.prog 231 [(MgA l).va,(NumA .u32 (d:Nat)).va] (Tu [(MgN (limbs (val l/d))).va,(NumA .u32 (val l%d:Nat)).va]):=by
 refine Cn.introW Tryz.func231 rfl zk nq (.cons (zjv _).va (.cons (zqx _ _).va .nil)) (free_tu (.cons (zek _).va (.cons (zgh _ _).va .nil))) (fun B w0 a hB0 O=>?_)
 have O:=zn [(0,(MgO l).va),(1,(NumA .u32 (d:Nat)).va)] [] O
 have hl:=(O.magO 0 rfl).1
 refine wp_seq<|zh [.v 4 _,.v 5 _] [.g 0,.g 1,.o 0,.o 1] O (zv rfl (za2 zb8) (zv rfl (za2 (zau 0 rfl)) o0)) (zz [(0,_),(1,_),(4,_),(5,_)] [] fun a w O=>?_)
 refine zt<|zdm (sts:=[]) (news:=[⟨12,106,slH _ _,some 2,_,none⟩]) (sp:=[.v 10 _,.v 11 _,.alc 0,.adr 6 12 .none True]) [.g 0,.g 1,.g 2,.g 3] [(6,12)] [⟨6,106,slH _ _,_⟩] O (zv rfl (za1 (gq 0 rfl)) (zv rfl (zax Tryz.underlying23 (zaz (vq 0 rfl))) (oc (zeo rfl rfl rfl zfs (vq 1 rfl) (vq 1 rfl) zo) (oc (ob_a rfl rfl zl0) o0)))) zk zk zk ⟨⟨3,rfl⟩,trivial⟩ rfl zk (zz [(0,_),(1,_),(4,_),(5,_)] [⟨6,106,slH _ _,_⟩] fun a w O=>?_)
 refine zt<|zg [none] [] [.v 7 _] [.g 0,.g 1,.g 2,.g 3,.o 0] O (zv rfl (za2 (zau 0 rfl)) o0) (zz [(0,_),(1,_),(4,_),(5,_),(7,_)] [⟨6,106,slH _ _,_⟩] fun a w O=>?_)
 refine zt<|wp_seq<|zg [none] [] [.v 13 _,.v 14 _,.v 15 _,.v 8 _] [.g 0,.g 1,.g 2,.g 3,.g 4,.o 3] O (zv rfl (za1 (gq 0 rfl)) (zv rfl (zax Tryz.underlying23 (zaz (vq 0 rfl))) (zv rfl (zd1 (vq 1 rfl) za3 (wi64 zo zo)) (zv rfl (za2 (vq 2 rfl)) o0)))) (zz [(0,_),(1,_),(4,_),(5,_),(7,_),(8,_)] [⟨6,106,slH _ _,_⟩] fun a w O=>?_)
 refine za0<|wp_block ?_
 have O:=St.sel O [0,1,4,5]
 refine wp_loop_ghost (fun n a w=>n≤l.length∧St B w0 44 [(0,(MgO l).va),(1,(NumA .u32 (d:Nat)).va),(7,(NumA .u64 ((val (l.drop n)%d:Nat):Int)).va),(8,In ((n:Int)-1))] [⟨6,106,slH l.length l.length,Nums .u32 (rsSt l d n)⟩] a w) (l.length) ?_ ?_
 ·exact ⟨Nat.le_refl _,by rw [zlo,show val (l.drop l.length)%d=0 from by simp]; exact O⟩
 intro n a w hI
 obtain ⟨hn,O⟩:=hI
 have hmd:=Nat.mod_lt (val (l.drop n)) hd
 refine wp_seq<|wp_seq<|zg [none] [] [.v 16 _,.v 17 _] [.g 0,.g 1,.g 2,.g 3,.o 1] O (zv rfl (za1 (gq 3 rfl)) (zv rfl (zfu (vq 0 rfl) za3) o0)) (zz [(0,_),(1,_),(7,_),(8,_),(17,_)] [⟨6,106,slH _ _,_⟩] fun a w O=>?_)
 refine za0<|za8 O (zm 4 rfl) (fun hb0=>?_) (fun hb0=>?_)
 ·obtain ⟨j,rfl⟩:∃ j,n=j+1:=⟨n-1,by simp at hb0; omega⟩; rw [show ((j+1:Nat):Int)-1=(j:Int) from by omega] at O
  have hj:j<l.length:=by omega
  have hx:=hl _ (List.getElem_mem hj)
  refine wp_skip<|zt<|wp_block<|wp_seq<|zg [none] [] [.v 20 _,.v 21 _,.v 22 _,.v 23 _,.v 24 _,.v 25 _,.v 26 _,.v 27 _,.v 9 _] [.g 0,.g 1,.g 2,.g 3,.o 8] O (zv rfl (za1 (gq 2 rfl)) (zv rfl (zmh (vq 0 rfl) (zau 4294967296 rfl) (wmul64 zo)) (zv rfl (za1 (gq 0 rfl)) (zv rfl (za1 (gq 3 rfl)) (zv rfl (zc4 zbc (zaz (vq 2 rfl)) (vq 3 rfl) hj) (zv rfl (zad (vq 4 rfl) zb0) (zv rfl (zaw .u64 zk zk (vq 5 rfl) (wu64 zo)) (zv rfl (zb5 (vq 1 rfl) (vq 6 rfl) (wadd64 zo)) (zv rfl (za2 (vq 7 rfl)) o0))))))))) (zz [(0,_),(1,_),(7,_),(8,_),(9,_)] [⟨6,106,slH _ _,_⟩] fun a w O=>?_)
  refine zt<|zg [some (8,_)] [] [.adr 28 6 .none True,.v 29 _,.v 30 _,.v 31 _,.v 32 _,.v 33 _,.v 34 _,.adr 35 6 (.some _) True,.sto 0] [.g 0,.g 1,.g 2,.g 3,.g 4] O (oc (ob_a rfl rfl zdd) (zv rfl (za1 (gq 3 rfl)) (zv rfl (za1 (gq 4 rfl)) (zv rfl (za1 (gq 1 rfl)) (zv rfl (zaw .u64 zk zk (vq 3 rfl) (wu64 zo)) (zv rfl (zla (vq 2 rfl) (vq 4 rfl) zo (nquo (Nat.lt_trans (rs_lt hd hx) zd))) (zv rfl (zaw .u32 zk zk (vq 5 rfl) (wu32 (rs_lt hd hx))) (oc (ob_a rfl rfl (zf3 0 rfl zk (lz0 0 rfl) zbc (vq 1 rfl) hj)) (oc (zd2 7 rfl rfl rfl rfl zk (fun _=>zck _ _ _ _) (vq 6 rfl) zb0 (zc2 (by rw [zgc zo]; omega))) o0))))))))) (zz [(0,_),(1,_),(7,_),(8,_),(9,_)] [⟨6,106,slH _ _,_⟩] fun a w O=>?_)
  refine za0<|zg [none] [] [.v 36 _,.v 37 _,.v 38 _,.v 39 _,.v 7 _] [.g 0,.g 1,.g 3,.o 4] O (zv rfl (za1 (gq 4 rfl)) (zv rfl (za1 (gq 1 rfl)) (zv rfl (zaw .u64 zk zk (vq 1 rfl) (wu64 zo)) (zv rfl (zl9 (vq 0 rfl) (vq 2 rfl) zo (nrem)) (zv rfl (za2 (vq 3 rfl)) o0))))) (zz [(0,_),(1,_),(8,_),(7,_)] [⟨6,106,slH _ _,_⟩] fun a w O=>?_)
  refine zae ?_
  refine za0<|zg [none] [] [.v 18 _,.v 19 _,.v 8 _] [.g 0,.g 1,.g 3,.o 2] O (zv rfl (za1 (gq 2 rfl)) (zv rfl (zd1 (vq 0 rfl) za3 (wi64 zo zo)) (zv rfl (za2 (vq 1 rfl)) o0))) (zz [(0,_),(1,_),(7,_),(8,_)] [⟨6,106,slH _ _,_⟩] fun a w O=>?_)
  refine za0 ?_
  have O:=St.sel O [0,1,2,3]
  rw [zpp hl hd hj,zpq hd hj] at O; exact ⟨j,by omega,by omega,O⟩
 ·obtain rfl:n=0:=by simp at hb0; omega
  refine wp_exit<|za7<|za7<|zap<|zt<|zg [none] [] [.adr 40 6 .none True,.v 41 _,.v 42 _,.v 43 _,.v 4 _,.v 5 _] [.o 4,.o 5] O (oc (ob_a rfl rfl zdd) (zv rfl (za5 (xs:=[.tmp 40]) (zem famN _) (.cons (zhn 0 rfl zk (lz0 0 rfl) ⟨by rw [zgc (Nat.zero_le _)],Nat.le_refl _,by unfold maxLen; omega,zw0⟩ (by rw [zgc (Nat.zero_le _)])) .nil)) (zv rfl (za1 (gq 2 rfl)) (zv rfl (zaw .u32 zk zk (vq 2 rfl) (wu32 zo)) (zv rfl (za2 (vq 1 rfl)) (zv rfl (za2 (vq 3 rfl)) o0)))))) (zz [(4,_),(5,_)] [⟨6,106,slH _ _,_⟩] fun a w O=>?_)
  refine za0<|wp_ret<|zai ?_ (zb6 (rs:=[.tmp 4,.tmp 5]) rfl O (.tmp (zm 0 rfl) (.tmp (zm 1 rfl) .nil)) zd)
  rw [rs_fin hl,List.drop_zero]; exact zbn
theorem rhalf_c (l:List Nat)(hls:l.length≤1099511627776):Cn Tryz.prog 229 [(MgA l).va] ((MgA (limbs (val l/2))).va):=by
 refine Cn.intro Tryz.func229 rfl zk nq (fun B w0 a O=>?_)
 have O:=zn [(0,(MgA l).va)] [] O
 refine wp_seq<|zh [.v 2 _] [.g 0,.o 0] O (zv rfl (za2 zb8) o0) (zz [(0,_),(2,_)] [] fun a w O=>?_)
 refine zt<|zh [.v 6 _,.v 7 _,.v 5 _,.v 8 _,.v 9 _,.v 3 _,.v 4 _] [.g 1,.o 5] O (zv rfl (za1 (gq 0 rfl)) (zv rfl (za5 (xs:=[.tmp 6,.const (.int .u32 (2))]) (zre l 2 hls zd zd) (.cons (vq 0 rfl) (.cons (zau 2 rfl) .nil))) (zv rfl (za1 (vq 1 rfl)) (zv rfl (zb4 (vq 2 rfl) rfl) (zv rfl (zb4 (vq 2 rfl) rfl) (zv rfl (za2 (vq 3 rfl)) (zv rfl (za2 (vq 4 rfl)) o0))))))) (zz [(2,_),(3,_)] [] fun a w O=>?_)
 refine zt<|zh [.v 10 _,.v 2 _] [.o 1] O (zv rfl (za1 (gq 1 rfl)) (zv rfl (za2 (vq 0 rfl)) o0)) (zz [(2,_)] [] fun a w O=>?_)
 refine za0<|wp_ret<|zai ?_ (zaf rfl O (zm 0 rfl))
 exact znz
theorem even_e {l:List Nat}(h:0<l.length):val l%2=l[0]%2:=by
 have:=zf5 h
 rw [List.drop_zero] at this
 omega
theorem reven_c (l:List Nat)(h:0<l.length):Cn Tryz.prog 228 [(MgA l).va] (Bo (((val l%2:Nat):Int)==((0:Nat):Int))):=by
 refine Cn.intro Tryz.func228 rfl zk nq (fun B w0 a O=>?_)
 have O:=zn [(0,(MgA l).va)] [] O
 refine wp_seq<|zh [.v 2 _] [.g 0,.o 0] O (zv rfl (za2 zav) o0) (zz [(0,_),(2,_)] [] fun a w O=>?_)
 refine zt<|zh [.v 3 _,.v 4 _,.v 5 _,.v 6 _,.v 7 _,.v 2 _] [.o 5] O (zv rfl (za1 (gq 0 rfl)) (zv rfl (zc4 zbc (vq 0 rfl) (zau 0 rfl) h) (zv rfl (zad (vq 1 rfl) zb0) (zv rfl (zl9 (vq 2 rfl) (zau 2 rfl) zd (nrem)) (zv rfl (zca (vq 3 rfl) (zau 0 rfl)) (zv rfl (za2 (vq 4 rfl)) o0)))))) (zz [(2,_)] [] fun a w O=>?_)
 refine za0<|wp_ret<|zai ?_ (zaf rfl O (zm 0 rfl))
 rw [even_e h]; exact zbn
theorem cm_le0 {X Y:Nat}:cmL (limbs X) (limbs Y)≤0↔X≤Y:=by
 rw [zg5]
 split
 ·omega
 ·split <;> omega
theorem fit_e {R D q:Nat}(h1:D*q≤R)(h2:R<D*(q+1)):q=R/D:=by
 rw [Nat.mul_comm] at h1 h2
 exact (Nat.div_eq_of_lt_le h1 h2).symm
theorem rfit_c {R D:Nat}(hD:0<D)(hR:R<D*4294967296)(hl:(limbs D).length≤1099511627776):Cn Tryz.prog 232 [(MgA (limbs R)).va,(MgA (limbs D)).va] ((NumA .u32 (R/D:Nat)).va):=by
 refine Cn.intro Tryz.func232 rfl zk nq (fun B w0 a O=>?_)
 have O:=zn [(0,(MgA (limbs R)).va),(1,(MgA (limbs D)).va)] [] O
 refine wp_seq<|zh [.v 4 _] [.g 0,.g 1,.o 0] O (zv rfl (za2 (zau 0 rfl)) o0) (zz [(0,_),(1,_),(4,_)] [] fun a w O=>?_)
 refine zt<|zh [.v 5 _] [.g 0,.g 1,.g 2,.o 0] O (zv rfl (za2 (zau 0 rfl)) o0) (zz [(0,_),(1,_),(4,_),(5,_)] [] fun a w O=>?_)
 refine zt<|zh [.v 6 _] [.g 0,.g 1,.g 2,.g 3,.o 0] O (zv rfl (za2 (zau 4294967295 rfl)) o0) (zz [(0,_),(1,_),(4,_),(5,_),(6,_)] [] fun a w O=>?_)
 refine zt<|wp_block ?_
 have O:=St.sel O [0,1,3,4]
 refine wp_loop_ghost (fun n a w=>∃ lo hi:Nat,(lo≤hi∧hi≤4294967295∧D*lo≤R∧R<D*(hi+1)∧n=hi-lo)∧St B w0 28 [(0,(MgA (limbs R)).va),(1,(MgA (limbs D)).va),(5,(NumA .u64 ((lo:Nat):Int)).va),(6,(NumA .u64 ((hi:Nat):Int)).va)] [] a w) (4294967295) ?_ ?_
 ·exact ⟨0,4294967295,⟨by decide,by decide,by omega,hR,rfl⟩,O⟩
 intro n a w hI
 obtain ⟨lo,hi,⟨i1,i2,i3,i4,i5⟩,O⟩:=hI
 refine wp_seq<|wp_seq<|zh [.v 8 _,.v 9 _,.v 10 _] [.g 0,.g 1,.g 2,.g 3,.o 2] O (zv rfl (za1 (gq 2 rfl)) (zv rfl (za1 (gq 3 rfl)) (zv rfl (zb1 (vq 0 rfl) (vq 1 rfl)) o0))) (zz [(0,_),(1,_),(5,_),(6,_),(10,_)] [] fun a w O=>?_)
 refine za0<|za8 O (zm 4 rfl) (fun hb0=>?_) (fun hb0=>?_)
 ·have hlt:lo<hi:=by simp at hb0; omega
  refine wp_skip<|za0<|wp_block<|wp_seq<|zh [.v 11 _,.v 12 _,.v 13 _,.v 14 _,.v 15 _,.v 7 _] [.g 0,.g 1,.g 2,.g 3,.o 5] O (zv rfl (za1 (gq 2 rfl)) (zv rfl (za1 (gq 3 rfl)) (zv rfl (zb5 (vq 0 rfl) (vq 1 rfl) (wadd64 zo)) (zv rfl (zb5 (vq 2 rfl) (zau 1 rfl) (wadd64 zo)) (zv rfl (zla (vq 3 rfl) (zau 2 rfl) zd (nquo zo)) (zv rfl (za2 (vq 4 rfl)) o0)))))) (zz [(0,_),(1,_),(5,_),(6,_),(7,_)] [] fun a w O=>?_)
  refine zt<|zh [.v 16 _,.v 17 _,.v 18 _,.v 19 _,.v 20 _,.v 21 _,.v 22 _] [.g 0,.g 1,.g 2,.g 3,.g 4,.o 6] O (zv rfl (za1 (gq 1 rfl)) (zv rfl (za1 (gq 4 rfl)) (zv rfl (zaw .u32 zk zk (vq 1 rfl) (wu32 zo)) (zv rfl (za5 (xs:=[.tmp 16,.tmp 18]) (zrd (limbs D) ((lo+hi+1)/2) hl zo) (.cons (vq 0 rfl) (.cons (vq 2 rfl) .nil))) (zv rfl (za1 (gq 0 rfl)) (zv rfl (za5 (xs:=[.tmp 19,.tmp 20]) (zoi _ _) (.cons (vq 3 rfl) (.cons (vq 4 rfl) .nil))) (zv rfl (ztn (vq 5 rfl) za3) o0))))))) (zz [(0,_),(1,_),(5,_),(6,_),(7,_),(22,_)] [] fun a w O=>?_)
  refine za0<|za8 O (zm 5 rfl) (fun hb1=>?_) (fun hb1=>?_)
  ·have hq:D*((lo+hi+1)/2)≤R:=by have:=cm_le0.1 (of_decide_eq_true hb1); rwa [zat] at this
   refine zh [.v 23 _,.v 5 _] [.g 0,.g 1,.g 3,.o 1] O (zv rfl (za1 (gq 4 rfl)) (zv rfl (za2 (vq 0 rfl)) o0)) (zz [(0,_),(1,_),(6,_),(5,_)] [] fun a w O=>?_)
   refine zae ?_
   refine za0 ?_
   have O:=St.sel O [0,1,3,2]
   exact ⟨hi-(lo+hi+1)/2,by omega,(lo+hi+1)/2,hi,⟨by omega,i2,hq,i4,rfl⟩,O⟩
  ·have hq:R<D*((lo+hi+1)/2):=by have h9:=Nat.lt_of_not_le fun h=>of_decide_eq_false hb1 (cm_le0.2 h); rwa [zat] at h9
   refine zh [.v 24 _,.v 25 _,.v 6 _] [.g 0,.g 1,.g 2,.o 2] O (zv rfl (za1 (gq 4 rfl)) (zv rfl (zd1 (vq 0 rfl) (zau 1 rfl) (wsub' zo zo)) (zv rfl (za2 (vq 1 rfl)) o0))) (zz [(0,_),(1,_),(5,_),(6,_)] [] fun a w O=>?_)
   refine zae ?_
   refine za0 ?_
   have O:=St.sel O [0,1,2,3]
   exact ⟨(lo+hi+1)/2-1-lo,by omega,lo,(lo+hi+1)/2-1,⟨by omega,by omega,i3,by rw [Nat.sub_add_cancel zo]; exact hq,rfl⟩,O⟩
 ·obtain rfl:lo=hi:=by simp at hb0; omega
  refine wp_exit<|za7<|za7<|zap<|zt<|zh [.v 26 _,.v 27 _,.v 4 _] [.o 2] O (zv rfl (za1 (gq 2 rfl)) (zv rfl (zaw .u32 zk zk (vq 0 rfl) (wu32 zo)) (zv rfl (za2 (vq 1 rfl)) o0))) (zz [(4,_)] [] fun a w O=>?_)
  refine za0<|wp_ret<|zai ?_ (zaf rfl O (zm 0 rfl))
  rw [← fit_e i3 i4]; exact zbn
end Go.Proofs.YthdbhckhignfcaaGreatDoor
