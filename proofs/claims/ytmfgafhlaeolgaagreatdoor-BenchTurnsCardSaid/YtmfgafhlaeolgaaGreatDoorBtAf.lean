import Derived.Test.YtmfgafhlaeolgaaGreatDoorBtAa
import Derived.Test.YtmfgafhlaeolgaaGreatDoorBtAc
import Derived.Test.YtmfgafhlaeolgaaGreatDoorBtAe
set_option linter.unusedVariables false
set_option linter.unusedSimpArgs false
set_option linter.unusedSectionVars false
set_option maxRecDepth 100000
namespace Go.Proofs.YtmfgafhlaeolgaaGreatDoor
open Go Go.RowKit
def rsig (neg:Bool)(l:List Nat):RI:=⟨neg && !(trimL l).isEmpty,trimL l⟩
theorem zf5 {M:List Nat→As}{neg:Bool}{l:List Nat}(h:(((trimL l).length:Int)==0)=true):(cat (setAll [BoA false,M []] [])).va=(cat [BoA (rsig neg l).neg,M (rsig neg l).mag]).va:=by
 have:trimL l=[]:=by simpa using h
 unfold rsig
 rw [this]; simp; rfl
theorem zg9 {M:List Nat→As}{neg:Bool}{l:List Nat}(h:(((trimL l).length:Int)==0)=false):(cat (setAll [BoA false,M []] [(0,BoA neg),(1,M (trimL l))])).va=(cat [BoA (rsig neg l).neg,M (rsig neg l).mag]).va:=by
 have:(trimL l).isEmpty=false:=by cases hh:trimL l <;> simp_all
 unfold rsig
 rw [this]; simp; rfl
theorem zta (neg:Bool)(l:List Nat):Cn Tryz.prog 140 [Bo neg,(MgA l).va] ((RIA (rsig neg l)).va):=by
 refine Cn.intro Tryz.func140 rfl zk nq (fun B w0 a O=>?_)
 have O:=zn [(0,Bo neg),(1,(MgA l).va)] [] O
 refine wp_seq<|zg [] [⟨4,31,ptrH,some 0,_,none⟩] [.alc 0] [.g 0,.g 1] O (oc (zb0 rfl rfl rfl (Str.zero (zcn famA))) o0) (zz [(0,_),(1,_)] [⟨4,31,ptrH,_⟩] fun a w O=>?_)
 refine zt<|wp_seq<|zg [none] [] [.v 5 _,.v 6 _,.v 1 _] [.g 0,.o 2] O (zv rfl (za1 (gq 1 rfl)) (zv rfl (za5 (xs:=[.tmp 5]) (zow famA _) (.cons (vq 0 rfl) .nil)) (zv rfl (za2 (vq 1 rfl)) o0))) (zz [(0,_),(1,_)] [⟨4,31,ptrH,_⟩] fun a w O=>?_)
 refine zt<|zg [none] [] [.v 7 _,.v 8 _,.v 9 _] [.g 0,.g 1,.o 2] O (zv rfl (za1 (gq 1 rfl)) (zv rfl (zas Tryz.underlying29 (vq 0 rfl)) (zv rfl (zc3 (vq 1 rfl) za3) o0))) (zz [(0,_),(1,_),(9,_)] [⟨4,31,ptrH,_⟩] fun a w O=>?_)
 refine za0<|za8 O (zm 2 rfl) (fun hb0=>?_) (fun hb0=>?_)
 ·refine wp_seq<|zg [some (1,_)] [] [.v 10 _,.sto 0] [.g 0,.g 1] O (zv rfl (zbn (xs:=[]) (qs:=[]) (zcn famA) .nil) (oc (zan rfl rfl rfl (vq 0 rfl) zah (Eq.trans (b:=2) rfl rfl)) o0)) (zz [(0,_),(1,_)] [⟨4,31,ptrH,_⟩] fun a w O=>?_)
  refine za0<|wp_ret<|zaf ?_
  refine zak ?_ (zaw rfl O (zm 0 rfl) zah)
  exact zf5 (M:=MgA) hb0
 ·refine wp_skip<|zt<|zg [some (3,_)] [] [.v 11 _,.v 12 _,.v 13 _,.sto 0] [] O (zv rfl (za1 (gq 0 rfl)) (zv rfl (za1 (gq 1 rfl)) (zv rfl (zbn (xs:=[(0,.tmp 11),(1,.tmp 12)]) (qs:=[(0,_),(1,_)]) (zcn famA) (.cons ⟨rfl,(vq 0 rfl),rfl⟩ (.cons ⟨rfl,(vq 1 rfl),rfl⟩ .nil))) (oc (zan rfl rfl rfl (vq 2 rfl) zah (Eq.trans (b:=2) rfl rfl)) o0)))) (zz [] [⟨4,31,ptrH,_⟩] fun a w O=>?_)
  refine za0<|wp_ret<|zak ?_ (zaw rfl O (zm 0 rfl) zah)
  exact zg9 (M:=MgA) hb0
theorem zd9 (neg:Bool)(l:List Nat):Cn Tryz.prog 140 [Bo neg,(MgN l).va] ((RIN (rsig neg l)).va):=by
 refine Cn.intro Tryz.func140 rfl zk nq (fun B w0 a O=>?_)
 have O:=zn [(0,Bo neg),(1,(MgN l).va)] [] O
 refine wp_seq<|zg [] [⟨4,31,ptrH,some 0,_,none⟩] [.alc 0] [.g 0,.g 1] O (oc (zb0 rfl rfl rfl (Str.zero (zcn famN))) o0) (zz [(0,_),(1,_)] [⟨4,31,ptrH,_⟩] fun a w O=>?_)
 refine zt<|wp_seq<|zg [none] [] [.v 5 _,.v 6 _,.v 1 _] [.g 0,.o 2] O (zv rfl (za1 (gq 1 rfl)) (zv rfl (za5 (xs:=[.tmp 5]) (zow famN _) (.cons (vq 0 rfl) .nil)) (zv rfl (za2 (vq 1 rfl)) o0))) (zz [(0,_),(1,_)] [⟨4,31,ptrH,_⟩] fun a w O=>?_)
 refine zt<|zg [none] [] [.v 7 _,.v 8 _,.v 9 _] [.g 0,.g 1,.o 2] O (zv rfl (za1 (gq 1 rfl)) (zv rfl (zas Tryz.underlying29 (zo6 (vq 0 rfl))) (zv rfl (zc3 (vq 1 rfl) za3) o0))) (zz [(0,_),(1,_),(9,_)] [⟨4,31,ptrH,_⟩] fun a w O=>?_)
 refine za0<|za8 O (zm 2 rfl) (fun hb0=>?_) (fun hb0=>?_)
 ·refine wp_seq<|zg [some (1,_)] [] [.v 10 _,.sto 0] [.g 0,.g 1] O (zv rfl (zbn (xs:=[]) (qs:=[]) (zcn famN) .nil) (oc (zan rfl rfl rfl (vq 0 rfl) zah (Eq.trans (b:=2) rfl rfl)) o0)) (zz [(0,_),(1,_)] [⟨4,31,ptrH,_⟩] fun a w O=>?_)
  refine za0<|wp_ret<|zaf ?_
  refine zak ?_ (zaw rfl O (zm 0 rfl) zah)
  exact zf5 (M:=MgN) hb0
 ·refine wp_skip<|zt<|zg [some (3,_)] [] [.v 11 _,.v 12 _,.v 13 _,.sto 0] [] O (zv rfl (za1 (gq 0 rfl)) (zv rfl (za1 (gq 1 rfl)) (zv rfl (zbn (xs:=[(0,.tmp 11),(1,.tmp 12)]) (qs:=[(0,_),(1,_)]) (zcn famN) (.cons ⟨rfl,(vq 0 rfl),rfl⟩ (.cons ⟨rfl,(vq 1 rfl),rfl⟩ .nil))) (oc (zan rfl rfl rfl (vq 2 rfl) zah (Eq.trans (b:=2) rfl rfl)) o0)))) (zz [] [⟨4,31,ptrH,_⟩] fun a w O=>?_)
  refine za0<|wp_ret<|zak ?_ (zaw rfl O (zm 0 rfl) zah)
  exact zg9 (M:=MgN) hb0
theorem mgz_n {l:List Nat}(h:0<l.length):(MgN l).n=(MgZ l).n∧(MgN l).ag=(MgZ l).ag∧∀ B cs w,(MgZ l).p B cs w→(MgN l).p B cs w:=⟨rfl,rfl,fun B cs w ⟨ok,A,c,e,h1,h2,h3⟩=>by
 obtain ⟨g,ext,rfl,rfl,h4,h5⟩:=h3 h
 exact ⟨ok,.inr ⟨g,ext,e,h2,h4,h5⟩⟩⟩
theorem zt8 {neg:Bool}{l:List Nat}(h:(((trimL l).length:Int)==0)=false):Wk (cat (setAll [BoA false,MgN []] [(0,BoA neg),(1,MgZ (trimL l))])).va (RIN (rsig neg l)).va:=by
 have h1:(trimL l).isEmpty=false:=by cases hh:trimL l <;> simp_all
 have h2:0<(trimL l).length:=by cases hh:trimL l <;> simp_all
 have e:RIN (rsig neg l)=cat [BoA neg,MgN (trimL l)]:=by unfold rsig RIN; rw [h1]; simp
 rw [e]
 exact fun B v w ⟨cs,⟨ps,hp,hq⟩,hv⟩=>by
  cases hq with
  | cons q1 hq=>cases hq with
   | cons q2 hq=>exact ⟨cs,⟨_,hp,.cons q1 (.cons ((mgz_n h2).2.2 _ _ _ q2) hq)⟩,hv⟩
theorem zt9 (neg:Bool)(l:List Nat):Cn Tryz.prog 140 [Bo neg,(MgZ l).va] ((RIN (rsig neg l)).va):=by
 refine Cn.intro Tryz.func140 rfl zk nq (fun B w0 a O=>?_)
 have O:=zn [(0,Bo neg),(1,(MgZ l).va)] [] O
 refine wp_seq<|zg [] [⟨4,31,ptrH,some 0,_,none⟩] [.alc 0] [.g 0,.g 1] O (oc (zb0 rfl rfl rfl (Str.zero (zcn famN))) o0) (zz [(0,_),(1,_)] [⟨4,31,ptrH,_⟩] fun a w O=>?_)
 refine zt<|wp_seq<|zg [none] [] [.v 5 _,.v 6 _,.v 1 _] [.g 0,.o 2] O (zv rfl (za1 (gq 1 rfl)) (zv rfl (za5 (xs:=[.tmp 5]) (zow famZ _) (.cons (vq 0 rfl) .nil)) (zv rfl (za2 (vq 1 rfl)) o0))) (zz [(0,_),(1,_)] [⟨4,31,ptrH,_⟩] fun a w O=>?_)
 refine zt<|zg [none] [] [.v 7 _,.v 8 _,.v 9 _] [.g 0,.g 1,.o 2] O (zv rfl (za1 (gq 1 rfl)) (zv rfl (zas Tryz.underlying29 (zzb (vq 0 rfl))) (zv rfl (zc3 (vq 1 rfl) za3) o0))) (zz [(0,_),(1,_),(9,_)] [⟨4,31,ptrH,_⟩] fun a w O=>?_)
 refine za0<|za8 O (zm 2 rfl) (fun hb0=>?_) (fun hb0=>?_)
 ·refine wp_seq<|zg [some (1,_)] [] [.v 10 _,.sto 0] [.g 0,.g 1] O (zv rfl (zbn (xs:=[]) (qs:=[]) (zcn famN) .nil) (oc (zan rfl rfl rfl (vq 0 rfl) zah (Eq.trans (b:=2) rfl rfl)) o0)) (zz [(0,_),(1,_)] [⟨4,31,ptrH,_⟩] fun a w O=>?_)
  refine za0<|wp_ret<|zaf ?_
  refine zal ?_ (zaw rfl O (zm 0 rfl) zah)
  exact fun _ _ _ h=>(zf5 (M:=MgN) hb0)▸h
 ·refine wp_skip<|zt<|zg [some (3,_)] [] [.v 11 _,.v 12 _,.v 13 _,.sto 0] [] O (zv rfl (za1 (gq 0 rfl)) (zv rfl (za1 (gq 1 rfl)) (zv rfl (zbn (xs:=[(0,.tmp 11),(1,.tmp 12)]) (qs:=[(0,_),(1,_)]) (zcn famN) (.cons ⟨rfl,(vq 0 rfl),rfl⟩ (.cons ⟨rfl,(vq 1 rfl),rfl⟩ .nil))) (oc (zan rfl rfl rfl (vq 2 rfl) zah (Eq.trans (b:=2) rfl rfl)) o0)))) (zz [] [⟨4,31,ptrH,_⟩] fun a w O=>?_)
  refine za0<|wp_ret<|zal ?_ (zaw rfl O (zm 0 rfl) zah)
  exact zt8 hb0
set_option maxHeartbeats 2000000 in
theorem zsb (b off n c:Nat)(zs:List Nat)(w:World)(hn:n=zs.length)(h0:0<n)(hbig:n*4≤140737488355328)(hc:∀ j (h:j<zs.length),w.cell? ⟨b,off+j,none⟩=some (.int .u32 (zs[j]:Nat))) :
  Calls Tryz.prog 170 #[.slice (some ⟨b,off,none⟩) n c] w fun e w'=>∃ g c ext,e=.returned (.slice (some ⟨g,0,none⟩) n c)∧w.heap.size≤g∧n≤c∧c≤maxLen∧w'.heap[g]?=some (.cells ((zs++ext).map fun (x:Nat)=>Value.int .u32 x).toArray U32 (0,0))∧Grow w w'∧c=(zs++ext).length:=by
 have t22:Tryz.prog.underlying 29=some (.slice U32):=by kernel_rfl
 obtain ⟨i0,hi,hz0,hz1,hz2⟩:=zou
 have q22:∀ (w:World) (a:Option Addr) (n c n' c':Nat),(binOp .eql 29 (.slice a n c) (.slice none n' c')).run Tryz.prog w=.ok (.bool a.isNone) w:=fun w a n c n' c'=>Lib.run_eql_slice_nil w _ _ a n c n' c' t22
 have u22:∀ w,Sem.run Tryz.prog (underlying 29) w=.ok (TypeDesc.slice U32) w:=run_underlying t22
 have A:Aside (∀ j (h:j<zs.length),w.cell? ⟨b,off+j,none⟩=some (.int .u32 (zs[j]:Nat))):=hc
 have HN:Aside (n=zs.length):=hn
 clear hc hn
 go_enter Tryz.func170,Tryz.ntmps170
 go_wp2_with (at_builtin; refine zgt rfl _ _ 29 rfl U32 i0 (.int .u32 0) t22 hi hz0 hz1 hz2 _ rfl ⟨b,off,none⟩ n c (zs.map fun (x:Nat)=>Value.int .u32 x) rfl ?qc1 ?qc2 h0 hbig ?_)
 case qc1=>simp; exact HN.out.symm
 case qc2 =>
  intro j u hj
  have hjn:j<zs.length:=by
   have:=(List.getElem?_eq_some_iff.1 hj).1
   simpa using this
  rw [Addr.add_lit]
  refine Lib.cell?_alloc_some _ ?_
  rw [A.out j hjn]
  simpa [hjn] using hj
 go_wp2
 go_ret
 refine ⟨_,_,List.replicate (grownCap (w.alloc (.cells #[] U32)) n 0 U32-n) 0,rfl,by omega,grownCap_ge _ _ _ _,grownCap_le_maxLen _ _ _ _ (by unfold maxLen; omega),?_,?_,?_⟩
 ·have e:(w.alloc (.cells #[] U32)).heap.size=w.heap.size+1:=by simp
  rw [← e,zqz,List.map_append,← List.append_toArray]
  exact heap_alloc_new _ _
 ·exact ((Grow.alloc w _).trans (Grow.alloc _ _)).trans (Grow.drew _)
 ·have:=grownCap_ge (w.alloc (.cells #[] U32)) n 0 U32
  have hnz:=HN.out
  rw [List.length_append,List.length_replicate]
  omega
theorem zwv (c:Nat)(w:World):Calls Tryz.prog 170 #[.slice none 0 c] w fun e w'=>e=.returned (.slice none 0 0)∧w=w':=by
 have t22:Tryz.prog.underlying 29=some (.slice U32):=by kernel_rfl
 have q22:∀ (w:World) (a:Option Addr) (n c n' c':Nat),(binOp .eql 29 (.slice a n c) (.slice none n' c')).run Tryz.prog w=.ok (.bool a.isNone) w:=fun w a n c n' c'=>Lib.run_eql_slice_nil w _ _ a n c n' c' t22
 go_enter Tryz.func170,Tryz.ntmps170
 go_wp2
 go_ret
 exact ⟨rfl,rfl⟩
theorem zsa (ad:Addr)(c:Nat)(w:World):Calls Tryz.prog 170 #[.slice (some ad) 0 c] w fun e w'=>∃ A c,e=.returned (.slice A 0 c)∧c≤maxLen∧Below w.heap.size w w':=by
 have t22:Tryz.prog.underlying 29=some (.slice U32):=by kernel_rfl
 obtain ⟨i0,hi,hz0,hz1,hz2⟩:=zou
 have q22:∀ (w:World) (a:Option Addr) (n c n' c':Nat),(binOp .eql 29 (.slice a n c) (.slice none n' c')).run Tryz.prog w=.ok (.bool a.isNone) w:=fun w a n c n' c'=>Lib.run_eql_slice_nil w _ _ a n c n' c' t22
 have u22:∀ w,Sem.run Tryz.prog (underlying 29) w=.ok (TypeDesc.slice U32) w:=run_underlying t22
 go_enter Tryz.func170,Tryz.ntmps170
 go_wp2_with (at_builtin; refine wpList_append_own _ rfl _ _ 29 rfl w.heap.size U32 i0 (.int .u32 0) 1 4 t22 hi hz0 hz1 hz2 rfl zd _ _ _ rfl (World.ownsRow_made w #[] 0 (Nat.le_refl _) (Nat.zero_le _) rfl) ad 0 c [] rfl rfl ?qc2 ?qc3 ?qc4 ?qc5 ?qc6 ?_)
 case qc2=>intro j u hj; simp at hj
 case qc3=>intro u hu; cases hu
 case qc4=>unfold maxLen; omega
 case qc5=>omega
 case qc6=>simp
 intro v' w1 hown hgrow hnil
 go_wp2
 go_ret
 have hb:=((Below.refl _ w).alloc (Nat.le_refl _) _).grown hgrow (by simp) (by intro k hk; simp [Value.ownBlock] at hk; omega)
 rcases hown.2 with ⟨rfl,_⟩ | ⟨g,cap,cur,rfl,_,_,_,h4,_⟩
 ·exact ⟨none,0,rfl,Nat.zero_le _,hb⟩
 ·exact ⟨_,cap,rfl,h4,hb⟩
theorem zww (l:List Nat)(hls:l.length≤1099511627776):Cn Tryz.prog 170 [(MgA l).va] (MgZ l).va:=by
 refine ⟨ziy Tryz.func170 zk zk,fun B w args hB ha=>?_⟩
 obtain ⟨v,rfl,hv⟩:=ha.one
 obtain ⟨A,c,rfl,hm⟩:=zg5 hv
 by_cases h0:l.length=0
 ·have hl:l=[]:=List.eq_nil_of_length_eq_zero h0
  subst hl
  cases A with
  | none =>
   refine (zwv c w).mono fun e w' ⟨he,hw⟩=>?_
   subst hw
   exact ⟨_,he,⟨_,famZ.nil B w,rfl⟩,Grow.refl w⟩
  | some ad=>exact (zsa ad c w).mono fun e w' ⟨A,c,he,hm,hb⟩=>⟨_,he,⟨_,⟨zd1,A,c,rfl,Nat.zero_le _,hm,fun h=>by simp at h⟩,rfl⟩,hb⟩
 ·obtain ⟨b,o,rfl,h1,h2,h3⟩:=hm.at_ zo
  exact (zsb b o l.length c l w rfl zo zo h3).mono fun e w' ⟨g,c,ext,he,h4,h5,h6,h7,hb,hcx⟩=>⟨_,he,⟨_,⟨hm.ok,_,c,rfl,h5,h6,fun _=>⟨g,ext,rfl,hcx,Nat.le_trans hB h4,h7⟩⟩,rfl⟩,hb⟩
theorem own_c (neg:Bool)(l:List Nat)(hls:l.length≤1099511627776):Cn Tryz.prog 169 [Bo neg,(MgA l).va] ((RIN (rsig neg l)).va):=by
 refine Cn.intro Tryz.func169 rfl zk nq (fun B w0 a O=>?_)
 have O:=zn [(0,Bo neg),(1,(MgA l).va)] [] O
 refine wp_seq<|zg [] [⟨4,31,ptrH,some 0,_,none⟩] [.alc 0] [.g 0,.g 1] O (oc (zb0 rfl rfl rfl (Str.zero (zcn famN))) o0) (zz [(0,_),(1,_)] [⟨4,31,ptrH,_⟩] fun a w O=>?_)
 refine zt<|zg [some (4,_)] [] [.v 5 _,.v 6 _,.v 7 _,.v 8 _,.sto 0] [] O (zv rfl (za1 (gq 0 rfl)) (zv rfl (za1 (gq 1 rfl)) (zv rfl (za5 (xs:=[.tmp 6]) (zww _ hls) (.cons (vq 1 rfl) .nil)) (zv rfl (za5 (xs:=[.tmp 5,.tmp 7]) (zt9 _ _) (.cons (vq 0 rfl) (.cons (vq 2 rfl) .nil))) (oc (zan rfl rfl rfl (vq 3 rfl) zah (Eq.trans (b:=2) rfl rfl)) o0))))) (zz [] [⟨4,31,ptrH,_⟩] fun a w O=>?_)
 exact za0<|wp_ret<|zaw rfl O (zm 0 rfl) zah
end Go.Proofs.YtmfgafhlaeolgaaGreatDoor
namespace Go.Proofs.YtmfgafhlaeolgaaGreatDoor
open Go Go.RowKit
theorem znc:∀ {l:List Nat} {j x:Nat} (h:j<l.length),val (l.set j x)+4294967296^j*l[j]=val l+4294967296^j*x
 | [],j,x,h=>by simp at h
 | y::ys,0,x,_=>by simp [val]; omega
 | y::ys,j+1,x,h=>by
  have:=znc (l:=ys) (j:=j) (x:=x) (by simpa using h)
  simp only [List.set_cons_succ,val,List.getElem_cons_succ,Nat.pow_succ]
  have e:∀ z,4294967296^j*4294967296*z=4294967296*(4294967296^j*z):=fun z=>by rw [Nat.mul_comm (4294967296^j),Nat.mul_assoc]
  rw [e,e]
  omega
theorem zup {l:List Nat}(h:okL l)(j:Nat){x:Nat}(hx:x<4294967296):okL (l.set j x):=fun y hy=>by
 rcases List.mem_or_eq_of_mem_set hy with h1 | h1
 ·exact h y h1
 ·subst h1; exact hx
structure MulO (a b L:List Nat) (i:Nat):Prop where
 len:L.length=a.length+b.length
 ok:okL L
 vl:val L=val (a.take i)*val b
 zero:∀ j,i+b.length≤j→L.getD j 0=0
structure MulI (a b L:List Nat) (i u k c:Nat):Prop where
 len:L.length=a.length+b.length
 ok:okL L
 cl:c<4294967296
 vl:val L+c*4294967296^(i+k)=val (a.take i)*val b+4294967296^i*(u*val (b.take k))
 zero:∀ j,i+b.length≤j→L.getD j 0=0
theorem MulO.start (a b:List Nat):MulO a b (List.replicate (a.length+b.length) 0) 0:=⟨by simp,fun x hx=>by rw [(List.mem_replicate.1 hx).2]; decide,by simp [zls],fun j _=>by rw [List.getD_eq_getElem?_getD,List.getElem?_replicate]; split <;> rfl⟩
theorem MulO.row {a b L:List Nat}{i:Nat}(h:MulO a b L i)(u:Nat):MulI a b L i u 0 0:=⟨h.len,h.ok,by decide,by rw [h.vl]; simp,h.zero⟩
theorem zhf {u v c l:Nat}(hu:u<4294967296)(hv:v<4294967296)(hc:c<4294967296)(hl:l<4294967296):c+(u*v+l)<18446744073709551616:=by
 have:u*v≤4294967295*4294967295:=Nat.mul_le_mul zo zo
 omega
theorem mul_alg {V V' W Z p q r u x y c t B d m:Nat}(hp:p=q*r)(ht:t=c+(u*x+y))(hd:B*d+m=t)(h2:V'+p*y=V+p*m)(h3:V+c*p=W+q*(u*Z)):V'+d*(p*B)=W+q*(u*(Z+r*x)):=by
 grind
theorem MulI.step {a b L:List Nat}{i u k c:Nat}(h:MulI a b L i u k c)(hb:okL b)(hu:u<4294967296)(hk:k<b.length)(hj:i+k<L.length) :
  MulI a b (L.set (i+k) ((c+(u*b[k]+L[i+k]))%4294967296)) i u (k+1) ((c+(u*b[k]+L[i+k]))/4294967296):=by
 have h1:=zhf hu (hb _ (List.getElem_mem hk)) h.cl (h.ok _ (List.getElem_mem hj))
 refine ⟨by rw [List.length_set,h.len],zup h.ok _ (Nat.mod_lt _ zd),Nat.div_lt_of_lt_mul h1,?_,fun j hj'=>?_⟩
 ·have h2:=znc (x:=(c+(u*b[k]+L[i+k]))%4294967296) hj
  have h3:=h.vl
  rw [zbp hk,show i+(k+1)=(i+k)+1 from rfl,Nat.pow_succ]
  exact mul_alg (Nat.pow_add _ _ _) rfl (Nat.div_add_mod _ _) h2 h3
 ·have:=h.zero j hj'
  rw [List.getD_eq_getElem?_getD,List.getElem?_set_ne zo,← List.getD_eq_getElem?_getD]
  exact this
theorem MulI.done {a b L:List Nat}{i u c:Nat}(h:MulI a b L i u b.length c)(hi:i<a.length)(hu:a[i]=u):MulO a b (L.set (i+b.length) c) (i+1):=by
 have hj:i+b.length<L.length:=by rw [h.len]; omega
 have h1:=znc (x:=c) hj
 have h2:=h.vl
 have h3:L[i+b.length]=0:=by have:=h.zero _ (Nat.le_refl _); rwa [zd2 hj] at this
 rw [h3,Nat.mul_zero,Nat.add_zero] at h1
 rw [List.take_of_length_le (Nat.le_refl _)] at h2
 refine ⟨by rw [List.length_set,h.len],zup h.ok _ h.cl,?_,fun j hj'=>?_⟩
 ·rw [h1,Nat.mul_comm _ c,h2,zbp hi,hu,Nat.add_mul,Nat.mul_assoc]
 ·rw [List.getD_eq_getElem?_getD,List.getElem?_set_ne zo,← List.getD_eq_getElem?_getD]
  exact h.zero j zo
theorem MulO.fin {a b L:List Nat}(h:MulO a b L a.length):L=digs (a.length+b.length) (val a*val b):=ziv h.ok h.len (by rw [h.vl,List.take_length])
theorem zsy (x y:RI)(hxs:x.mag.length≤1099511627776)(hys:y.mag.length≤1099511627776):Cn Tryz.prog 92 [(RIA x).va,(RIA y).va] ((RIN (rsig (x.neg != y.neg) (digs (x.mag.length+y.mag.length) (val x.mag*val y.mag)))).va):=by
 refine Cn.introW Tryz.func92 rfl zk nq (.cons (zr0 _).va (.cons (zr0 _).va .nil)) (zex _).va (fun B w0 a hB0 O=>?_)
 have O:=zn [(0,(RIO x).va),(1,(RIO y).va)] [] O
 refine wp_seq<|zg [] [⟨2,31,ptrH,some 0,_,none⟩,⟨3,31,ptrH,some 1,_,none⟩,⟨4,31,ptrH,some 2,_,none⟩] [.alc 0,.alc 1,.alc 2] [] O (oc (zav rfl rfl rfl (gq 0 rfl)) (oc (zav rfl rfl rfl (gq 1 rfl)) (oc (zb0 rfl rfl rfl (Str.zero zfj)) o0))) (zz [] [⟨2,31,ptrH,_⟩,⟨3,31,ptrH,_⟩,⟨4,31,ptrH,_⟩] fun a w O=>?_)
 refine zt<|zgd [[],[0],[],[2],[0,1],[0,1,2,3,4]] [none,none,none] [] [.adr 13 2 (.some 1) True,.v 14 _,.adr 15 3 (.some 1) True,.v 16 _,.v 5 _,.v 6 _] [.o 4,.o 5] za9 O (oc (ob_a rfl rfl (zae (lz0 0 rfl) zaj)) (zv rfl (za4 0 rfl zk trivial (lz0 0 rfl) (Sub.part 1 rfl rfl) zb7) (oc (ob_a rfl rfl (zae (lz0 1 rfl) zaj)) (zv rfl (za4 2 rfl zk trivial (lz0 1 rfl) (Sub.part 1 rfl rfl) zb7) (zv rfl (za2 (vq 1 rfl)) (zv rfl (za2 (vq 3 rfl)) o0)))))) zk zk zk zk (zz [(5,_),(6,_)] [⟨2,31,ptrH,_⟩,⟨3,31,ptrH,_⟩,⟨4,31,ptrH,_⟩] fun a w O=>?_)
 refine zt<|zdh (sts:=[none,none,none]) (news:=[⟨22,88,slH _ _,some 5,_,none⟩]) (sp:=[.v 17 _,.v 18 _,.v 19 _,.v 20 _,.v 21 _,.alc 3,.adr 7 22 .none True]) [.g 0,.g 1] [(7,22)] [⟨2,31,ptrH,_⟩,⟨3,31,ptrH,_⟩,⟨4,31,ptrH,_⟩,⟨7,88,slH _ _,_⟩] O (zv rfl (za1 (gq 0 rfl)) (zv rfl (zas Tryz.underlying29 (zar (vq 0 rfl))) (zv rfl (za1 (gq 1 rfl)) (zv rfl (zas Tryz.underlying29 (zar (vq 2 rfl))) (zv rfl (zb2 (vq 1 rfl) (vq 3 rfl) (zg6 zo)) (oc (ze9 rfl rfl rfl zf0 (vq 4 rfl) (vq 4 rfl) zo) (oc (ob_a rfl rfl zj7) o0))))))) zk zk zk ⟨⟨6,rfl⟩,trivial⟩ rfl zk (zz [(5,_),(6,_)] [⟨2,31,ptrH,_⟩,⟨3,31,ptrH,_⟩,⟨4,31,ptrH,_⟩,⟨7,88,slH _ _,_⟩] fun a w O=>?_)
 refine zt<|wp_seq<|zg [none,none,none,none] [] [.v 23 _,.v 24 _,.v 25 _] [.g 1,.o 0,.o 1,.o 2] O (zv rfl (za1 (gq 0 rfl)) (zv rfl (zas Tryz.underlying29 (zar (vq 0 rfl))) (zv rfl (za1 za3) o0))) (zz [(6,_),(23,_),(24,_),(25,_)] [⟨2,31,ptrH,_⟩,⟨3,31,ptrH,_⟩,⟨4,31,ptrH,_⟩,⟨7,88,slH _ _,_⟩] fun a w O=>?_)
 refine za0<|wp_block ?_
 have O:=St.sel O [0,1,2,3]
 refine wp_loop_ghost (fun n a w=>∃ (i:Nat) (L:List Nat),n+i=x.mag.length∧MulO x.mag y.mag L i∧St B w0 78 [(6,(MgO y.mag).va),(23,(MgO x.mag).va),(24,In (x.mag.length:Nat)),(25,In (i:Nat))] [⟨2,31,ptrH,RIO x⟩,⟨3,31,ptrH,RIO y⟩,⟨4,31,ptrH,cat [BoA false,MgO []]⟩,⟨7,88,slH (x.mag.length+y.mag.length) (x.mag.length+y.mag.length),Nums .u32 L⟩] a w) (x.mag.length) ?_ ?_
 ·exact ⟨0,_,by omega,MulO.start _ _,O⟩
 intro n a w hI
 obtain ⟨i,L,hn,hO,O⟩:=hI; obtain ⟨n1,hn1⟩:∃ n1,n1=n:=⟨n,rfl⟩; have hb:=(O.magO 0 rfl).1; have ha:=(O.magO 1 rfl).1; have hlen:=hO.len
 refine wp_seq<|zg [none,none,none,none] [] [.v 26 _] [.g 0,.g 1,.g 2,.g 3,.o 0] O (zv rfl (zaz (gq 3 rfl) (gq 2 rfl)) o0) (zz [(6,_),(23,_),(24,_),(25,_),(26,_)] [⟨2,31,ptrH,_⟩,⟨3,31,ptrH,_⟩,⟨4,31,ptrH,_⟩,⟨7,88,slH _ _,_⟩] fun a w O=>?_)
 refine zt<|za8 O (zm 4 rfl) (fun hb0=>?_) (fun hb0=>?_)
 ·have hi:i<x.mag.length:=by simp at hb0; omega
  refine wp_skip<|zt<|wp_block<|wp_seq<|zg [none,none,none,none] [] [.v 27 _,.v 28 _,.v 29 _,.v 8 _,.v 9 _] [.g 0,.g 1,.g 2,.g 3,.o 3,.o 4] O (zv rfl (za1 (gq 3 rfl)) (zv rfl (zc0 zb4 (zar (gq 1 rfl)) (gq 3 rfl) zo) (zv rfl (zad (vq 1 rfl) zbd) (zv rfl (za2 (vq 0 rfl)) (zv rfl (za2 (vq 2 rfl)) o0))))) (zz [(6,_),(23,_),(24,_),(25,_),(8,_),(9,_)] [⟨2,31,ptrH,_⟩,⟨3,31,ptrH,_⟩,⟨4,31,ptrH,_⟩,⟨7,88,slH _ _,_⟩] fun a w O=>?_)
  refine zt<|zg [none,none,none,none] [] [.v 10 _] [.g 0,.g 1,.g 2,.g 3,.g 4,.g 5,.o 0] O (zv rfl (za2 (zap 0 rfl)) o0) (zz [(6,_),(23,_),(24,_),(25,_),(8,_),(9,_),(10,_)] [⟨2,31,ptrH,_⟩,⟨3,31,ptrH,_⟩,⟨4,31,ptrH,_⟩,⟨7,88,slH _ _,_⟩] fun a w O=>?_)
  refine zt<|wp_seq<|zg [none,none,none,none] [] [.v 30 _,.v 31 _,.v 32 _] [.g 0,.g 1,.g 2,.g 3,.g 4,.g 5,.g 6,.o 0,.o 1,.o 2] O (zv rfl (za1 (gq 0 rfl)) (zv rfl (zas Tryz.underlying29 (zar (vq 0 rfl))) (zv rfl (za1 za3) o0))) (zz [(6,_),(23,_),(24,_),(25,_),(8,_),(9,_),(10,_),(30,_),(31,_),(32,_)] [⟨2,31,ptrH,_⟩,⟨3,31,ptrH,_⟩,⟨4,31,ptrH,_⟩,⟨7,88,slH _ _,_⟩] fun a w O=>?_)
  refine za0<|wp_block ?_
  have O:=St.sel O [0,1,2,3,4,5,6,7,8,9]
  refine wp_loop_ghost (fun n a w=>∃ (k c:Nat) (L:List Nat),n+k=y.mag.length∧MulI x.mag y.mag L i x.mag[i] k c∧St B w0 78 [(6,(MgO y.mag).va),(23,(MgO x.mag).va),(24,In (x.mag.length:Nat)),(25,In (i:Nat)),(8,In (i:Nat)),(9,(NumA .u32 (x.mag[i]:Nat)).va),(10,(NumA .u64 (c:Nat)).va),(30,(MgO y.mag).va),(31,In (y.mag.length:Nat)),(32,In (k:Nat))] [⟨2,31,ptrH,RIO x⟩,⟨3,31,ptrH,RIO y⟩,⟨4,31,ptrH,cat [BoA false,MgO []]⟩,⟨7,88,slH (x.mag.length+y.mag.length) (x.mag.length+y.mag.length),Nums .u32 L⟩] a w) (y.mag.length) ?_ ?_
  ·exact ⟨0,0,L,by omega,hO.row _,O⟩
  intro n a w hI
  clear hlen hO; obtain ⟨k,c,L,hn2,hI,O⟩:=hI; have hlen:=hI.len; have hc:=hI.cl
  refine wp_seq<|zg [none,none,none,none] [] [.v 33 _] [.g 0,.g 1,.g 2,.g 3,.g 4,.g 5,.g 6,.g 7,.g 8,.g 9,.o 0] O (zv rfl (zaz (gq 9 rfl) (gq 8 rfl)) o0) (zz [(6,_),(23,_),(24,_),(25,_),(8,_),(9,_),(10,_),(30,_),(31,_),(32,_),(33,_)] [⟨2,31,ptrH,_⟩,⟨3,31,ptrH,_⟩,⟨4,31,ptrH,_⟩,⟨7,88,slH _ _,_⟩] fun a w O=>?_)
  refine zt<|za8 O (zm 10 rfl) (fun hb1=>?_) (fun hb1=>?_)
  ·have hk:k<y.mag.length:=by simp at hb1; omega
   refine wp_skip<|zt<|wp_block<|wp_seq<|zg [none,none,none,none] [] [.v 34 _,.v 35 _,.v 36 _,.v 11 _,.v 12 _] [.g 0,.g 1,.g 2,.g 3,.g 4,.g 5,.g 6,.g 7,.g 8,.g 9,.o 3,.o 4] O (zv rfl (za1 (gq 9 rfl)) (zv rfl (zc0 zb4 (zar (gq 7 rfl)) (gq 9 rfl) zo) (zv rfl (zad (vq 1 rfl) zbd) (zv rfl (za2 (vq 0 rfl)) (zv rfl (za2 (vq 2 rfl)) o0))))) (zz [(6,_),(23,_),(24,_),(25,_),(8,_),(9,_),(10,_),(30,_),(31,_),(32,_),(11,_),(12,_)] [⟨2,31,ptrH,_⟩,⟨3,31,ptrH,_⟩,⟨4,31,ptrH,_⟩,⟨7,88,slH _ _,_⟩] fun a w O=>?_)
   refine zt<|zg [none,none,none,none] [] [.v 37 _,.v 38 _,.v 39 _,.v 40 _,.v 41 _,.v 42 _,.adr 43 7 .none True,.v 44 _,.v 45 _,.v 46 _,.adr 47 7 (.some _) True,.v 48 _,.v 49 _,.v 50 _,.v 51 _,.v 10 _] [.g 0,.g 1,.g 2,.g 3,.g 4,.g 5,.g 7,.g 8,.g 9,.g 10,.o 15] O (zv rfl (za1 (gq 6 rfl)) (zv rfl (za1 (gq 5 rfl)) (zv rfl (zao .u64 zk zk (vq 1 rfl) (wu64 (Nat.lt_trans (ha _ (List.getElem_mem _)) zd))) (zv rfl (za1 (gq 11 rfl)) (zv rfl (zao .u64 zk zk (vq 3 rfl) (wu64 (Nat.lt_trans (hb _ (List.getElem_mem _)) zd))) (zv rfl (zki (vq 2 rfl) (vq 4 rfl) (wmul64 (Nat.lt_of_le_of_lt (Nat.le_trans (Nat.le_add_right _ _) (Nat.le_add_left _ _)) (zhf (ha _ (List.getElem_mem _)) (hb _ (List.getElem_mem _)) (show 0<4294967296 by decide) (show 0<4294967296 by decide))))) (oc (ob_a rfl rfl zd3) (zv rfl (za1 (gq 4 rfl)) (zv rfl (za1 (gq 10 rfl)) (zv rfl (zb2 (vq 7 rfl) (vq 8 rfl) (zg6 zo)) (oc (ob_a rfl rfl (zek 6 rfl zk (lz0 3 rfl) zb4 (vq 9 rfl) zo)) (zv rfl (zni 10 rfl zk (lz0 3 rfl) (fun _=>zcd _ _ _ _) (zks zo) zbd) (zv rfl (zao .u64 zk zk (vq 11 rfl) (wu64 (Nat.lt_trans (hI.ok _ (List.getElem_mem _)) zd))) (zv rfl (zb2 (vq 5 rfl) (vq 12 rfl) (wadd64 (Nat.lt_of_le_of_lt (Nat.le_add_left _ _) (zhf (ha _ (List.getElem_mem _)) (hb _ (List.getElem_mem _)) hc (hI.ok _ (List.getElem_mem _)))))) (zv rfl (zb2 (vq 0 rfl) (vq 13 rfl) (wadd64 (zhf (ha _ (List.getElem_mem _)) (hb _ (List.getElem_mem _)) hc (hI.ok _ (List.getElem_mem _))))) (zv rfl (za2 (vq 14 rfl)) o0)))))))))))))))) (zz [(6,_),(23,_),(24,_),(25,_),(8,_),(9,_),(30,_),(31,_),(32,_),(11,_),(10,_)] [⟨2,31,ptrH,_⟩,⟨3,31,ptrH,_⟩,⟨4,31,ptrH,_⟩,⟨7,88,slH _ _,_⟩] fun a w O=>?_)
   refine zt<|zg [none,none,none,some (7,_)] [] [.adr 52 7 .none True,.v 53 _,.v 54 _,.v 55 _,.v 56 _,.v 57 _,.adr 58 7 (.some _) True,.sto 3] [.g 0,.g 1,.g 2,.g 3,.g 4,.g 5,.g 6,.g 7,.g 8,.g 10] O (oc (ob_a rfl rfl zd3) (zv rfl (za1 (gq 4 rfl)) (zv rfl (za1 (gq 9 rfl)) (zv rfl (zb2 (vq 1 rfl) (vq 2 rfl) (zg6 zo)) (zv rfl (za1 (gq 10 rfl)) (zv rfl (zao .u32 zk zk (vq 4 rfl) (wu32')) (oc (ob_a rfl rfl (zek 0 rfl zk (lz0 3 rfl) zb4 (vq 3 rfl) zo)) (oc (zcr 6 rfl rfl rfl rfl zk (fun _=>zcd _ _ _ _) (vq 5 rfl) zbd (zbu zo)) o0)))))))) (zz [(6,_),(23,_),(24,_),(25,_),(8,_),(9,_),(30,_),(31,_),(32,_),(10,_)] [⟨2,31,ptrH,_⟩,⟨3,31,ptrH,_⟩,⟨4,31,ptrH,_⟩,⟨7,88,slH _ _,_⟩] fun a w O=>?_)
   refine za0<|zg [none,none,none,none] [] [.v 59 _,.v 60 _,.v 10 _] [.g 0,.g 1,.g 2,.g 3,.g 4,.g 5,.g 6,.g 7,.g 8,.o 2] O (zv rfl (za1 (gq 9 rfl)) (zv rfl (zh0 (vq 0 rfl) (zap 32 rfl) zd (nshr)) (zv rfl (za2 (vq 1 rfl)) o0))) (zz [(6,_),(23,_),(24,_),(25,_),(8,_),(9,_),(30,_),(31,_),(32,_),(10,_)] [⟨2,31,ptrH,_⟩,⟨3,31,ptrH,_⟩,⟨4,31,ptrH,_⟩,⟨7,88,slH _ _,_⟩] fun a w O=>?_)
   refine zab ?_
   refine za0<|zg [none,none,none,none] [] [.v 61 _,.v 32 _] [.g 0,.g 1,.g 2,.g 3,.g 4,.g 5,.g 6,.g 7,.g 9,.o 1] O (zv rfl (zb2 (gq 8 rfl) za3 (zb3 zo)) (zv rfl (za1 (vq 0 rfl)) o0)) (zz [(6,_),(23,_),(24,_),(25,_),(8,_),(9,_),(30,_),(31,_),(10,_),(32,_)] [⟨2,31,ptrH,_⟩,⟨3,31,ptrH,_⟩,⟨4,31,ptrH,_⟩,⟨7,88,slH _ _,_⟩] fun a w O=>?_)
   refine za0 ?_
   have O:=St.sel O [0,1,2,3,4,5,8,6,7,9]
   exact ⟨n-1,by omega,k+1,_,_,by omega,hI.step hb (ha _ (List.getElem_mem _)) hk zo,O⟩
  ·obtain rfl:k=y.mag.length:=by simp at hb1; omega
   refine wp_exit<|za7<|za7<|zam<|za0<|zg [none,none,none,some (8,_)] [] [.adr 62 7 .none True,.v 63 _,.v 64 _,.v 65 _,.v 66 _,.v 67 _,.v 68 _,.adr 69 7 (.some _) True,.sto 3] [.g 0,.g 1,.g 2,.g 3] O (oc (ob_a rfl rfl zd3) (zv rfl (za1 (gq 4 rfl)) (zv rfl (za1 (gq 0 rfl)) (zv rfl (zas Tryz.underlying29 (zar (vq 2 rfl))) (zv rfl (zb2 (vq 1 rfl) (vq 3 rfl) (zg6 zo)) (zv rfl (za1 (gq 6 rfl)) (zv rfl (zao .u32 zk zk (vq 5 rfl) (wu32 hc)) (oc (ob_a rfl rfl (zek 0 rfl zk (lz0 3 rfl) zb4 (vq 4 rfl) zo)) (oc (zcr 7 rfl rfl rfl rfl zk (fun _=>zcd _ _ _ _) (vq 6 rfl) zbd (zbu zo)) o0))))))))) (zz [(6,_),(23,_),(24,_),(25,_)] [⟨2,31,ptrH,_⟩,⟨3,31,ptrH,_⟩,⟨4,31,ptrH,_⟩,⟨7,88,slH _ _,_⟩] fun a w O=>?_)
   refine zab ?_
   refine za0<|zg [none,none,none,none] [] [.v 70 _,.v 25 _] [.g 0,.g 1,.g 2,.o 1] O (zv rfl (zb2 (gq 3 rfl) za3 (zb3 zo)) (zv rfl (za1 (vq 0 rfl)) o0)) (zz [(6,_),(23,_),(24,_),(25,_)] [⟨2,31,ptrH,_⟩,⟨3,31,ptrH,_⟩,⟨4,31,ptrH,_⟩,⟨7,88,slH _ _,_⟩] fun a w O=>?_)
   refine za0 ?_
   have O:=St.sel O [0,1,2,3]
   exact ⟨n1-1,by omega,i+1,_,by omega,hI.done hi rfl,O⟩
 ·obtain rfl:i=x.mag.length:=by simp at hb0; omega
  refine wp_exit<|za7<|za7<|zam<|zt<|zg [none,none,some (7,_),none] [] [.adr 71 2 (.some 0) True,.v 72 _,.adr 73 3 (.some 0) True,.v 74 _,.v 75 _,.adr 76 7 .none True,.v 77 _,.sto 2] [] O (oc (ob_a rfl rfl (zae (lz0 0 rfl) zb6)) (zv rfl (za4 0 rfl zk trivial (lz0 0 rfl) (Sub.part 0 rfl rfl) ty_4) (oc (ob_a rfl rfl (zae (lz0 1 rfl) zb6)) (zv rfl (za4 2 rfl zk trivial (lz0 1 rfl) (Sub.part 0 rfl rfl) ty_4) (zv rfl (zjs zk (vq 1 rfl) (vq 3 rfl)) (oc (ob_a rfl rfl zd3) (zv rfl (za5 (xs:=[.tmp 75,.tmp 76]) (zd9 _ _) (.cons (vq 4 rfl) (.cons (zgi 5 rfl zk (lz0 3 rfl) ⟨hO.len.symm,Nat.le_refl _,by unfold maxLen; omega,hO.ok⟩ hO.len.symm) .nil))) (oc (zan rfl rfl rfl (vq 6 rfl) zah (Eq.trans (b:=2) rfl rfl)) o0)))))))) (zz [] [⟨2,31,ptrH,_⟩,⟨3,31,ptrH,_⟩,⟨4,31,ptrH,_⟩,⟨7,88,slH _ _,_⟩] fun a w O=>?_)
  refine za0<|wp_ret<|zak ?_ (zaw rfl O (zm 2 rfl) zah)
  rw [hO.fin]; rfl
end Go.Proofs.YtmfgafhlaeolgaaGreatDoor
namespace Go.Proofs.YtmfgafhlaeolgaaGreatDoor
open Go Go.RowKit
def sgI (x:RI):Int:=if x.mag.length=0 then 0 else if x.neg then -1 else 1
def cmpI (x y:RI):Int:=if sgI x≠sgI y then (if sgI x<sgI y then -1 else 1) else max (-1) (min 1 (if x.neg then -(sizeL x.mag y.mag) else sizeL x.mag y.mag))
def okRI (x:RI):Bool := !((decide ((x.mag.length:Int)>2048) || (decide ((x.mag.length:Int)>0)&&(((x.mag.getD (x.mag.length-1) 0:Nat):Int)==((0:Nat):Int)))) || (((x.mag.length:Int)==0)&&x.neg))
theorem zqr {x:RI}(h:((decide ((x.mag.length:Int)>2048) || (decide ((x.mag.length:Int)>0)&&(((x.mag.getD (x.mag.length-1) 0:Nat):Int)==((0:Nat):Int)))) || (((x.mag.length:Int)==0)&&x.neg))=true):(1:Int)=(if okRI x then 0 else 1):=by unfold okRI; rw [h]; rfl
theorem zqq {x:RI}(h:((decide ((x.mag.length:Int)>2048) || (decide ((x.mag.length:Int)>0)&&(((x.mag.getD (x.mag.length-1) 0:Nat):Int)==((0:Nat):Int)))) || (((x.mag.length:Int)==0)&&x.neg))=false):(0:Int)=(if okRI x then 0 else 1):=by unfold okRI; rw [h]; rfl
theorem zc9 {neg:Bool}{l:List Nat}{z:Int}(ok:okL l)(hv:val l=z.natAbs)(hn:z≠0→neg=decide (z<0)):rsig neg l=riOf z:=by
 unfold rsig riOf
 rw [zdj ok,hv]
 by_cases h:z=0
 ·subst h; simp [zbt]
 ·have h1:limbs z.natAbs≠[]:=by rw [zdc zo]; simp
  have h2:(limbs z.natAbs).isEmpty=false:=by cases hh:limbs z.natAbs <;> simp_all
  rw [h2,hn h]; simp
theorem zko (z:Int):okL (riOf z).mag:=(zbh _).1
theorem zbs (z:Int):val (riOf z).mag=z.natAbs:=zau _
theorem zxy {l m:List Nat}(hl:l.length≤1099511627776)(hm:m.length≤1099511627776) : -1099511627777≤sizeL l m∧sizeL l m≤1099511627777:=by
 unfold sizeL; split
 ·omega
 ·split
  ·omega
  ·split <;> omega
theorem ztd {x:RI}(h:((x.mag.length:Int)==0)=true):(0:Int)=sgI x:=by simp at h; simp [sgI,h]
theorem ztc {x:RI}(h:((x.mag.length:Int)==0)=false)(h2:x.neg=true):(-1:Int)=sgI x:=by simp at h; simp [sgI,h,h2]
theorem ztb {x:RI}(h:((x.mag.length:Int)==0)=false)(h2:x.neg=false):(1:Int)=sgI x:=by simp at h; simp [sgI,h,h2]
theorem cmp_e0 {x y:RI}(h:(sgI x != sgI y)=true)(h2:decide (sgI x<sgI y)=true):(-1:Int)=cmpI x y:=by simp at h h2; simp [cmpI,h,h2]
theorem cmp_e1 {x y:RI}(h:(sgI x != sgI y)=true)(h2:decide (sgI x<sgI y)=false):(1:Int)=cmpI x y:=by simp at h h2; simp [cmpI,h]; omega
theorem cmp_e2 {x y:RI}(h:(sgI x != sgI y)=false):max (-1) (min 1 (if x.neg then -(sizeL x.mag y.mag) else sizeL x.mag y.mag))=cmpI x y:=by simp at h; simp [cmpI,h]
theorem zp0 (x:RI):Cn Tryz.prog 144 [(RIA x).va] (In (sgI x)):=by
 refine Cn.intro Tryz.func144 rfl zk nq (fun B w0 a O=>?_)
 have O:=zn [(0,(RIA x).va)] [] O
 refine wp_seq<|zg [] [⟨1,31,ptrH,some 0,_,none⟩] [.alc 0,.v 2 _] [.o 1] O (oc (zav rfl rfl rfl (gq 0 rfl)) (zv rfl (za2 za3) o0)) (zz [(2,_)] [⟨1,31,ptrH,_⟩] fun a w O=>?_)
 refine zt<|wp_block<|wp_seq<|zg [none] [] [.adr 4 1 (.some 1) True,.v 5 _,.v 6 _,.v 7 _,.v 3 _] [.g 0,.o 4] O (oc (ob_a rfl rfl (zae (lz0 0 rfl) zaj)) (zv rfl (za4 0 rfl zk trivial (lz0 0 rfl) (Sub.part 1 rfl rfl) zb7) (zv rfl (zas Tryz.underlying29 (vq 1 rfl)) (zv rfl (zc3 (vq 2 rfl) za3) (zv rfl (za2 (vq 3 rfl)) o0))))) (zz [(2,_),(3,_)] [⟨1,31,ptrH,_⟩] fun a w O=>?_)
 refine za0<|za8 O (zm 1 rfl) (fun hb0=>?_) (fun hb0=>?_)
 ·refine wp_seq<|zg [none] [] [.v 2 _] [.o 0] O (zv rfl (za2 za3) o0) (zz [(2,_)] [⟨1,31,ptrH,_⟩] fun a w O=>?_)
  refine za0<|wp_ret<|zb8 ?_
  refine zaf ?_
  refine zak ?_ (zac rfl O (zm 0 rfl))
  exact nu (ztd hb0)
 ·refine wp_seq<|zg [none] [] [.adr 9 1 (.some 0) True,.v 10 _,.v 8 _] [.g 0,.o 2] O (oc (ob_a rfl rfl (zae (lz0 0 rfl) zb6)) (zv rfl (za4 0 rfl zk trivial (lz0 0 rfl) (Sub.part 0 rfl rfl) ty_4) (zv rfl (za2 (vq 1 rfl)) o0))) (zz [(2,_),(8,_)] [⟨1,31,ptrH,_⟩] fun a w O=>?_)
  refine za0<|za8 O (zm 1 rfl) (fun hb1=>?_) (fun hb1=>?_)
  ·refine wp_seq<|zg [none] [] [.v 2 _] [.o 0] O (zv rfl (za2 za3) o0) (zz [(2,_)] [⟨1,31,ptrH,_⟩] fun a w O=>?_)
   refine za0<|wp_ret<|zb8 ?_
   refine zaf ?_
   refine zak ?_ (zac rfl O (zm 0 rfl))
   exact nu (ztc hb0 hb1)
  ·refine wp_skip<|zab ?_
   refine zt<|zg [none] [] [.v 2 _] [.o 0] O (zv rfl (za2 za3) o0) (zz [(2,_)] [⟨1,31,ptrH,_⟩] fun a w O=>?_)
   refine za0<|wp_ret<|zak ?_ (zac rfl O (zm 0 rfl))
   exact nu (ztb hb0 hb1)
theorem cmpI_c (x y:RI)(hxs:x.mag.length≤1099511627776)(hys:y.mag.length≤1099511627776):Cn Tryz.prog 142 [(RIA x).va,(RIA y).va] (In (cmpI x y)):=by
 refine Cn.intro Tryz.func142 rfl zk nq (fun B w0 a O=>?_)
 have O:=zn [(0,(RIA x).va),(1,(RIA y).va)] [] O
 have hbd:=zxy hxs hys
 refine wp_seq<|zg [] [⟨2,31,ptrH,some 0,_,none⟩,⟨3,31,ptrH,some 1,_,none⟩] [.alc 0,.alc 1,.v 4 _] [.o 2] O (oc (zav rfl rfl rfl (gq 0 rfl)) (oc (zav rfl rfl rfl (gq 1 rfl)) (zv rfl (za2 za3) o0))) (zz [(4,_)] [⟨2,31,ptrH,_⟩,⟨3,31,ptrH,_⟩] fun a w O=>?_)
 refine zt<|wp_seq<|zgd [[],[0],[],[0,1,2],[0,1,2,3],[0,1,2,3,4]] [none,none] [] [.v 8 _,.v 9 _,.v 10 _,.v 11 _,.v 5 _,.v 6 _] [.g 0,.o 4,.o 5] za9 O (zv rfl (zay (lz0 0 rfl) zah) (zv rfl (za5 (xs:=[.tmp 8]) (zp0 _) (.cons (vq 0 rfl) .nil)) (zv rfl (zay (lz0 1 rfl) zah) (zv rfl (za5 (xs:=[.tmp 10]) (zp0 _) (.cons (vq 2 rfl) .nil)) (zv rfl (za2 (vq 1 rfl)) (zv rfl (za2 (vq 3 rfl)) o0)))))) zk zk zk zk (zz [(4,_),(5,_),(6,_)] [⟨2,31,ptrH,_⟩,⟨3,31,ptrH,_⟩] fun a w O=>?_)
 refine zt<|zg [none,none] [] [.v 12 _,.v 13 _,.v 14 _] [.g 0,.g 1,.g 2,.o 2] O (zv rfl (za1 (gq 1 rfl)) (zv rfl (za1 (gq 2 rfl)) (zv rfl (zdp (vq 0 rfl) (vq 1 rfl)) o0))) (zz [(4,_),(5,_),(6,_),(14,_)] [⟨2,31,ptrH,_⟩,⟨3,31,ptrH,_⟩] fun a w O=>?_)
 refine za0<|za8 O (zm 3 rfl) (fun hb0=>?_) (fun hb0=>?_)
 ·refine wp_seq<|wp_seq<|zg [none,none] [] [.v 15 _,.v 16 _,.v 17 _] [.g 0,.o 2] O (zv rfl (za1 (gq 1 rfl)) (zv rfl (za1 (gq 2 rfl)) (zv rfl (zaz (vq 0 rfl) (vq 1 rfl)) o0))) (zz [(4,_),(17,_)] [⟨2,31,ptrH,_⟩,⟨3,31,ptrH,_⟩] fun a w O=>?_)
  refine za0<|za8 O (zm 1 rfl) (fun hb1=>?_) (fun hb1=>?_)
  ·refine wp_seq<|zg [none,none] [] [.v 4 _] [.o 0] O (zv rfl (za2 za3) o0) (zz [(4,_)] [⟨2,31,ptrH,_⟩,⟨3,31,ptrH,_⟩] fun a w O=>?_)
   refine za0<|wp_ret<|zaf ?_
   refine zaf ?_
   refine zak ?_ (zac rfl O (zm 0 rfl))
   exact nu (cmp_e0 hb0 hb1)
  ·refine wp_skip<|zt<|zg [none,none] [] [.v 4 _] [.o 0] O (zv rfl (za2 za3) o0) (zz [(4,_)] [⟨2,31,ptrH,_⟩,⟨3,31,ptrH,_⟩] fun a w O=>?_)
   refine za0<|wp_ret<|zaf ?_
   refine zak ?_ (zac rfl O (zm 0 rfl))
   exact nu (cmp_e1 hb0 hb1)
 ·refine wp_skip<|zt<|zg [none,none] [] [.adr 18 2 (.some 1) True,.v 19 _,.adr 20 3 (.some 1) True,.v 21 _,.v 22 _,.v 7 _] [.g 0,.o 5] O (oc (ob_a rfl rfl (zae (lz0 0 rfl) zaj)) (zv rfl (za4 0 rfl zk trivial (lz0 0 rfl) (Sub.part 1 rfl rfl) zb7) (oc (ob_a rfl rfl (zae (lz0 1 rfl) zaj)) (zv rfl (za4 2 rfl zk trivial (lz0 1 rfl) (Sub.part 1 rfl rfl) zb7) (zv rfl (za5 (xs:=[.tmp 19,.tmp 21]) (zt7 _ _) (.cons (vq 1 rfl) (.cons (vq 3 rfl) .nil))) (zv rfl (za2 (vq 4 rfl)) o0)))))) (zz [(4,_),(7,_)] [⟨2,31,ptrH,_⟩,⟨3,31,ptrH,_⟩] fun a w O=>?_)
  refine zt<|wp_seq<|zg [none,none] [] [.adr 23 2 (.some 0) True,.v 24 _] [.g 0,.g 1,.o 1] O (oc (ob_a rfl rfl (zae (lz0 0 rfl) zb6)) (zv rfl (za4 0 rfl zk trivial (lz0 0 rfl) (Sub.part 0 rfl rfl) ty_4) o0)) (zz [(4,_),(7,_),(24,_)] [⟨2,31,ptrH,_⟩,⟨3,31,ptrH,_⟩] fun a w O=>?_)
  refine za0<|zc8 (fun a w =>  St B w0 30 [(7,In (if x.neg then -(sizeL x.mag y.mag) else sizeL x.mag y.mag))] [⟨2,31,ptrH,RIA x⟩,⟨3,31,ptrH,RIA y⟩] a w) O (zm 2 rfl) (fun hb2=>?_) (fun hb2=>?_) (fun a w O=>?_)
  ·refine zg [none,none] [] [.v 25 _,.v 26 _,.v 7 _] [.g 0,.o 2] O (zv rfl (za1 (gq 1 rfl)) (zv rfl (zyi (vq 0 rfl) ((wi64 zo zo).trans (Int.zero_sub _))) (zv rfl (za2 (vq 1 rfl)) o0))) (zz [(4,_),(7,_)] [⟨2,31,ptrH,_⟩,⟨3,31,ptrH,_⟩] fun a w O=>?_)
   refine za0 ?_
   have O:=St.sel O [1]
   rw [if_pos hb2]; exact O
  ·refine wp_skip<|za0 ?_
   have O:=St.sel O [1]
   rw [if_neg (by rw [hb2]; decide)]; exact O
  refine zt<|zg [none,none] [] [.v 27 _,.v 28 _,.v 29 _,.v 4 _] [.o 3] O (zv rfl (za1 (gq 0 rfl)) (zv rfl (r_min za3 (vq 0 rfl)) (zv rfl (r_max za3 (vq 1 rfl)) (zv rfl (za2 (vq 2 rfl)) o0)))) (zz [(4,_)] [⟨2,31,ptrH,_⟩,⟨3,31,ptrH,_⟩] fun a w O=>?_)
  refine za0<|wp_ret<|zak ?_ (zac rfl O (zm 0 rfl))
  exact nu (cmp_e2 hb0)
theorem zwx (x:RI):Cn Tryz.prog 185 [(RIA x).va] (In (if okRI x then 0 else 1)):=by
 refine Cn.intro Tryz.func185 rfl zk nq (fun B w0 a O=>?_)
 have O:=zn [(0,(RIA x).va)] [] O
 have hk:=(zgz (O.vals _ (zm 0 rfl))).2
 refine wp_seq<|zg [] [⟨1,31,ptrH,some 0,_,none⟩] [.alc 0,.v 2 _] [.o 1] O (oc (zav rfl rfl rfl (gq 0 rfl)) (zv rfl (za2 za3) o0)) (zz [(2,_)] [⟨1,31,ptrH,_⟩] fun a w O=>?_)
 refine zt<|wp_seq<|gl (sts:=[none]) (news:=[]) (sp:=((.adr 3 1 (.some 1) True:Sp)::(.v 4 _)::(.v 5 _)::(.v 6 _)::(.v 7 _)::(.adr 8 1 (.some 1) (_=false))::(.v 9 (Wh (_=false) _))::(.v 10 (Wh (_=false) _))::(.v 11 (Wh (_=false) _))::(.v 12 (Wh (_=false) _))::(.adr 13 1 (.some 1) ((_=false)∧_=true))::(.v 14 (Wh ((_=false)∧_=true) _))::(.adr 15 1 (.some 1) ((_=false)∧_=true))::(.v 16 (Wh ((_=false)∧_=true) _))::(.v 17 (Wh ((_=false)∧_=true) _))::(.v 18 (Wh ((_=false)∧_=true) _))::(.v 19 (Wh ((_=false)∧_=true) _))::(.v 20 (Wh ((_=false)∧_=true) _))::(.v 21 (Wh ((_=false)∧_=true) _))::(.v 22 (Wh (_=false) _))::(.v 23 _)::(.v 24 _)::(.adr 25 1 (.some 1) (_=false))::(.v 26 (Wh (_=false) _))::(.v 27 (Wh (_=false) _))::(.v 28 (Wh (_=false) _))::(.v 29 (Wh (_=false) _))::(.adr 30 1 (.some 0) ((_=false)∧_=true))::(.v 31 (Wh ((_=false)∧_=true) _))::(.v 32 (Wh (_=false) _))::(.v 33 _)::[])) [.g 0,.o 30] O (oc (ob_a rfl rfl (zae (lz0 0 rfl) zaj)) (zv rfl (za4 0 rfl zk trivial (lz0 0 rfl) (Sub.part 1 rfl rfl) zb7) (zv rfl (zas Tryz.underlying29 (vq 1 rfl)) (zv rfl (zen (vq 2 rfl) za3) (zv rfl (za1 (vq 3 rfl)) (oc (zcf rfl rfl rfl (vq 4 rfl) nq (fun hg=>zae (lz0 0 rfl) zaj)) (oc (zai rfl rfl rfl (vq 4 rfl) nq (fun hg=>za4 5 rfl zk hg (lz0 0 rfl) (Sub.part 1 rfl rfl) zb7)) (oc (zai rfl rfl rfl (vq 4 rfl) nq (fun hg=>zas Tryz.underlying29 (zaa (vq 6 rfl) hg))) (oc (zai rfl rfl rfl (vq 4 rfl) nq (fun hg=>zen (zaa (vq 7 rfl) hg) za3)) (oc (zai rfl rfl rfl (vq 4 rfl) nq (fun hg=>za1 (zaa (vq 8 rfl) hg))) (oc (zfy rfl rfl rfl (vq 9 rfl) nq (fun hg=>zae (lz0 0 rfl) zaj)) (oc (zc5 rfl rfl rfl (vq 9 rfl) nq (fun hg=>za4 10 rfl zk hg (lz0 0 rfl) (Sub.part 1 rfl rfl) zb7)) (oc (zfy rfl rfl rfl (vq 9 rfl) nq (fun hg=>zae (lz0 0 rfl) zaj)) (oc (zc5 rfl rfl rfl (vq 9 rfl) nq (fun hg=>za4 12 rfl zk hg (lz0 0 rfl) (Sub.part 1 rfl rfl) zb7)) (oc (zc5 rfl rfl rfl (vq 9 rfl) nq (fun hg=>zas Tryz.underlying29 (zaa (vq 13 rfl) hg))) (oc (zc5 rfl rfl rfl (vq 9 rfl) nq (fun hg=>zcj (zaa (vq 14 rfl) hg) za3 (wi_pm (by have h:=hg.2; simp at h; omega) hk))) (oc (zc5 rfl rfl rfl (vq 9 rfl) nq (fun hg=>zkk zb4 (zaa (vq 11 rfl) hg) (zaa (vq 15 rfl) hg) (by have h:=hg.2; simp at h; omega))) (oc (zc5 rfl rfl rfl (vq 9 rfl) nq (fun hg=>zad (zaa (vq 16 rfl) hg) zbd)) (oc (zc5 rfl rfl rfl (vq 9 rfl) nq (fun hg=>zc3 (zaa (vq 17 rfl) hg) (zap 0 rfl))) (oc (zai rfl rfl rfl (vq 4 rfl) nq (fun hg=>zca (zaa (vq 9 rfl) hg) (zh6 (vq 18 rfl) hg))) (zv rfl (r_or (vq 4 rfl) (vq 19 rfl)) (zv rfl (za1 (vq 20 rfl)) (oc (zcf rfl rfl rfl (vq 21 rfl) nq (fun hg=>zae (lz0 0 rfl) zaj)) (oc (zai rfl rfl rfl (vq 21 rfl) nq (fun hg=>za4 22 rfl zk hg (lz0 0 rfl) (Sub.part 1 rfl rfl) zb7)) (oc (zai rfl rfl rfl (vq 21 rfl) nq (fun hg=>zas Tryz.underlying29 (zaa (vq 23 rfl) hg))) (oc (zai rfl rfl rfl (vq 21 rfl) nq (fun hg=>zc3 (zaa (vq 24 rfl) hg) za3)) (oc (zai rfl rfl rfl (vq 21 rfl) nq (fun hg=>za1 (zaa (vq 25 rfl) hg))) (oc (zfy rfl rfl rfl (vq 26 rfl) nq (fun hg=>zae (lz0 0 rfl) zb6)) (oc (zc5 rfl rfl rfl (vq 26 rfl) nq (fun hg=>za4 27 rfl zk hg (lz0 0 rfl) (Sub.part 0 rfl rfl) ty_4)) (oc (zai rfl rfl rfl (vq 21 rfl) nq (fun hg=>zca (zaa (vq 26 rfl) hg) (zh6 (vq 28 rfl) hg))) (zv rfl (r_or (vq 21 rfl) (vq 29 rfl)) o0))))))))))))))))))))))))))))))) (zz [(2,_),(33,_)] [⟨1,31,ptrH,_⟩] fun a w O=>?_)
 refine za0<|za8 O (zm 1 rfl) (fun hb0=>?_) (fun hb0=>?_)
 ·refine wp_seq<|zg [none] [] [.v 2 _] [.o 0] O (zv rfl (za2 za3) o0) (zz [(2,_)] [⟨1,31,ptrH,_⟩] fun a w O=>?_)
  refine za0<|wp_ret<|zaf ?_
  refine zak ?_ (zac rfl O (zm 0 rfl))
  exact nu (zqr hb0)
 ·refine wp_skip<|zt<|zg [none] [] [.v 2 _] [.o 0] O (zv rfl (za2 za3) o0) (zz [(2,_)] [⟨1,31,ptrH,_⟩] fun a w O=>?_)
  refine za0<|wp_ret<|zak ?_ (zac rfl O (zm 0 rfl))
  exact nu (zqq hb0)
theorem of_e0 {n:Int}(h0 : -9223372036854775808≤n)(h:decide (n<0)=true):IntKind.u64.wrap (0-IntKind.u64.wrap n)=(n.natAbs:Nat):=by
 simp at h; simp [IntKind.wrap,IntKind.bits,IntKind.signed]; omega
theorem of_e1 {n:Int}(h1:n<9223372036854775808)(h:decide (n<0)=false):IntKind.u64.wrap n=(n.natAbs:Nat):=by
 simp at h; simp [IntKind.wrap,IntKind.bits,IntKind.signed]; omega
theorem zuq {n:Int}(h0 : -9223372036854775808≤n)(h1:n<9223372036854775808):okL [n.natAbs%4294967296,n.natAbs/4294967296]:=by
 intro x hx
 simp at hx
 rcases hx with rfl | rfl <;> omega
theorem of_e2 {n:Int}(h0 : -9223372036854775808≤n)(h1:n<9223372036854775808):(RIA (rsig (decide (n<0)) [n.natAbs%4294967296,n.natAbs/4294967296])).va=Zi n:=by
 rw [zc9 (zuq h0 h1) (z:=n) (by simp [val]; omega) (fun _=>rfl)]
theorem of_c (n:Int)(h0 : -9223372036854775808≤n)(h1:n<9223372036854775808):Cn Tryz.prog 89 [In n] (Zi n):=by
 refine Cn.intro Tryz.func89 rfl zk nq (fun B w0 a O=>?_)
 have O:=zn [(0,In n)] [] O
 refine wp_seq<|zg [] [⟨2,31,ptrH,some 0,_,none⟩] [.alc 0] [.g 0] O (oc (zb0 rfl rfl rfl (Str.zero zbr)) o0) (zz [(0,_)] [⟨2,31,ptrH,_⟩] fun a w O=>?_)
 refine zt<|zg [none] [] [.v 4 _,.v 5 _,.v 3 _] [.g 0,.o 2] O (zv rfl (za1 (gq 0 rfl)) (zv rfl (zao .u64 zk zk (vq 0 rfl) (rfl)) (zv rfl (za2 (vq 1 rfl)) o0))) (zz [(0,_),(3,_)] [⟨2,31,ptrH,_⟩] fun a w O=>?_)
 refine zt<|wp_seq<|zg [none] [] [.v 6 _,.v 7 _] [.g 0,.g 1,.o 1] O (zv rfl (za1 (gq 0 rfl)) (zv rfl (zaz (vq 0 rfl) za3) o0)) (zz [(0,_),(3,_),(7,_)] [⟨2,31,ptrH,_⟩] fun a w O=>?_)
 refine za0<|zc8 (fun a w =>  St B w0 19 [(0,In n),(3,(NumA .u64 (n.natAbs:Nat)).va)] [⟨2,31,ptrH,cat [BoA false,MgA []]⟩] a w) O (zm 2 rfl) (fun hb0=>?_) (fun hb0=>?_) (fun a w O=>?_)
 ·refine zg [none] [] [.v 8 _,.v 9 _,.v 3 _] [.g 0,.o 2] O (zv rfl (za1 (gq 1 rfl)) (zv rfl (zyi (vq 0 rfl) (rfl)) (zv rfl (za2 (vq 1 rfl)) o0))) (zz [(0,_),(3,_)] [⟨2,31,ptrH,_⟩] fun a w O=>?_)
  refine za0 ?_
  have O:=St.sel O [0,1]
  rw [of_e0 h0 hb0] at O; exact O
 ·refine wp_skip<|za0 ?_
  have O:=St.sel O [0,1]
  rw [of_e1 h1 hb0] at O; exact O
 refine zt<|zg [some (9,_)] [] [.v 10 _,.v 11 _,.v 12 _,.v 13 _,.v 14 _,.v 15 _,.v 16 _,.v 17 _,.v 18 _,.sto 0] [] O (zv rfl (za1 (gq 0 rfl)) (zv rfl (zaz (vq 0 rfl) za3) (zv rfl (za1 (gq 1 rfl)) (zv rfl (zao .u32 zk zk (vq 2 rfl) (wu32')) (zv rfl (za1 (gq 1 rfl)) (zv rfl (zh0 (vq 4 rfl) (zap 32 rfl) zd (nshr)) (zv rfl (zao .u32 zk zk (vq 5 rfl) (wu32 (by show n.natAbs/4294967296<_; omega))) (zv rfl (zdk (l:=[_,_]) (xs:=[.tmp 13,.tmp 16]) zb4 zk nq nq (zuq h0 h1) (.cons (vq 3 rfl) (.cons (vq 6 rfl) .nil)) rfl rfl) (zv rfl (za5 (xs:=[.tmp 11,.tmp 17]) (zta _ _) (.cons (vq 1 rfl) (.cons (vq 7 rfl) .nil))) (oc (zan rfl rfl rfl (vq 8 rfl) zah (Eq.trans (b:=2) rfl rfl)) o0)))))))))) (zz [] [⟨2,31,ptrH,_⟩] fun a w O=>?_)
 refine za0<|wp_ret<|zak ?_ (zaw rfl O (zm 0 rfl) zah)
 exact of_e2 h0 h1
theorem zct {m n:Nat}(h:m≤n):(limbs m).length≤(limbs n).length:=ze5 (Nat.lt_of_le_of_lt h (zcg (Nat.le_refl _)))
theorem zdw {m n:Nat}:(0≤sizeL (limbs m) (limbs n)↔n≤m)∧(0<sizeL (limbs m) (limbs n)↔n<m):=by
 unfold sizeL
 rw [zau,zau]
 by_cases h:(limbs m).length=(limbs n).length
 ·rw [if_neg zo]
  split
  ·omega
  ·split <;> omega
 ·rw [if_pos zo]
  by_cases h2:m≤n
  ·have:=zct h2
   have:m≠n:=fun e=>h (by rw [e])
   omega
  ·have:=zct (Nat.le_of_lt (Nat.lt_of_not_le h2))
   omega
theorem val_sum {a b:Nat}:val (digs (max (limbs a).length (limbs b).length+1) (a+b))=a+b:=by
 rw [zdu,Nat.mod_eq_of_lt]
 have h1:=zcg (n:=a) (k:=max (limbs a).length (limbs b).length) (Nat.le_max_left _ _)
 have h2:=zcg (n:=b) (k:=max (limbs a).length (limbs b).length) (Nat.le_max_right _ _)
 rw [Nat.pow_succ]
 omega
theorem plus_e1 {a b:Int}(h:((riOf a).neg==(riOf b).neg)=false)(h2:b.natAbs≤a.natAbs):(RIA (rsig (riOf a).neg (limbs (val (riOf a).mag-val (riOf b).mag)))).va=Zi (a+b):=by
 have h':¬ decide (a<0)=decide (b<0):=by simpa [riOf] using h
 rw [zbs,zbs,zc9 (zbh _).1 (z:=a+b) (by rw [zau]; simp only [decide_eq_decide] at h'; omega) (fun hz=>by show decide (a<0)=_; simp only [decide_eq_decide] at h' ⊢; omega)]
theorem plus_e2 {a b:Int}(h:((riOf a).neg==(riOf b).neg)=false)(h2:a.natAbs≤b.natAbs):(RIA (rsig (riOf b).neg (limbs (val (riOf b).mag-val (riOf a).mag)))).va=Zi (a+b):=by
 have h':¬ decide (a<0)=decide (b<0):=by simpa [riOf] using h
 rw [zbs,zbs,zc9 (zbh _).1 (z:=a+b) (by rw [zau]; simp only [decide_eq_decide] at h'; omega) (fun hz=>by show decide (b<0)=_; simp only [decide_eq_decide] at h' ⊢; omega)]
theorem znq {a b:Int}(h:decide (sizeL (riOf a).mag (riOf b).mag≥0)=true):b.natAbs≤a.natAbs:=(zdw (m:=a.natAbs) (n:=b.natAbs)).1.1 (by simpa [riOf] using h)
theorem znp {a b:Int}(h:decide (sizeL (riOf a).mag (riOf b).mag≥0)=false):a.natAbs≤b.natAbs:=by
 have:=(zdw (m:=a.natAbs) (n:=b.natAbs)).1
 have h':¬ 0≤sizeL (limbs a.natAbs) (limbs b.natAbs):=by simpa [riOf] using h
 omega
theorem minus_e {b:Int}:(cat (setAll [BoA false,MgA []] [(0,BoA (!(riOf b).neg&&decide (((riOf b).mag.length:Int)>0))),(1,MgA (riOf b).mag)])).va=Zi (-b):=by
 have e:(!(riOf b).neg&&decide (((riOf b).mag.length:Int)>0))=(riOf (-b)).neg:=by
  by_cases h:b=0
  ·subst h; simp [riOf,zbt]
  ·have:0<(limbs b.natAbs).length:=by rw [zdc zo]; simp
   simp [riOf,this]
   by_cases h2:b<0 <;> simp [h2] <;> omega
 rw [e]
 have e2:(riOf b).mag=(riOf (-b)).mag:=by simp [riOf]
 rw [e2]
 rfl
theorem zpl (b:Int):lz (-b)=lz b:=by simp [lz]
end Go.Proofs.YtmfgafhlaeolgaaGreatDoor
