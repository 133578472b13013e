import Derived.Test.YthdbhckhignfcaaGreatDoorBxAa
import Derived.Test.YthdbhckhignfcaaGreatDoorBxAc
import Derived.Test.YthdbhckhignfcaaGreatDoorBxAe
set_option linter.unusedVariables false
set_option linter.unusedSimpArgs false
set_option linter.unusedSectionVars false
set_option maxRecDepth 100000
namespace Go.Proofs.YthdbhckhignfcaaGreatDoor
open Go Go.RowKit
def rsig (neg:Bool)(l:List Nat):RI:=⟨neg && !(trimL l).isEmpty,trimL l⟩
theorem zfx {M:List Nat→As}{neg:Bool}{l:List Nat}(h:(((trimL l).length:Int)==0)=true):(cat (setAll [BoA false,M []] [])).va=(cat [BoA (rsig neg l).neg,M (rsig neg l).mag]).va:=by
 have:trimL l=[]:=by simpa using h
 unfold rsig
 rw [this]; simp; rfl
theorem zhd {M:List Nat→As}{neg:Bool}{l:List Nat}(h:(((trimL l).length:Int)==0)=false):(cat (setAll [BoA false,M []] [(0,BoA neg),(1,M (trimL l))])).va=(cat [BoA (rsig neg l).neg,M (rsig neg l).mag]).va:=by
 have:(trimL l).isEmpty=false:=by cases hh:trimL l <;> simp_all
 unfold rsig
 rw [this]; simp; rfl
theorem zhe (neg:Bool)(l:List Nat):Cn Tryz.prog 185 [Bo neg,(MgA l).va] ((RIA (rsig neg l)).va):=by
 refine Cn.intro Tryz.func185 rfl zk nq (fun B w0 a O=>?_)
 have O:=zn [(0,Bo neg),(1,(MgA l).va)] [] O
 refine wp_seq<|zg [] [⟨4,25,ptrH,some 0,_,none⟩] [.alc 0] [.g 0,.g 1] O (oc (zas rfl rfl rfl (Str.zero (zd3 famA))) o0) (zz [(0,_),(1,_)] [⟨4,25,ptrH,_⟩] fun a w O=>?_)
 refine zt<|wp_seq<|zg [none] [] [.v 5 _,.v 6 _,.v 1 _] [.g 0,.o 2] O (zv rfl (za1 (gq 1 rfl)) (zv rfl (za5 (xs:=[.tmp 5]) (zr2 famA _) (.cons (vq 0 rfl) .nil)) (zv rfl (za2 (vq 1 rfl)) o0))) (zz [(0,_),(1,_)] [⟨4,25,ptrH,_⟩] fun a w O=>?_)
 refine zt<|zg [none] [] [.v 7 _,.v 8 _,.v 9 _] [.g 0,.g 1,.o 2] O (zv rfl (za1 (gq 1 rfl)) (zv rfl (zax Tryz.underlying23 (vq 0 rfl)) (zv rfl (zca (vq 1 rfl) za3) o0))) (zz [(0,_),(1,_),(9,_)] [⟨4,25,ptrH,_⟩] fun a w O=>?_)
 refine za0<|za8 O (zm 2 rfl) (fun hb0=>?_) (fun hb0=>?_)
 ·refine wp_seq<|zg [some (1,_)] [] [.v 10 _,.sto 0] [.g 0,.g 1] O (zv rfl (zbg (xs:=[]) (qs:=[]) (zd3 famA) .nil) (oc (zak rfl rfl rfl (vq 0 rfl) zac (Eq.trans (b:=2) rfl rfl)) o0)) (zz [(0,_),(1,_)] [⟨4,25,ptrH,_⟩] fun a w O=>?_)
  refine za0<|wp_ret<|zag ?_
  refine zao ?_ (zaj rfl O (zm 0 rfl) zac)
  exact zfx (M:=MgA) hb0
 ·refine wp_skip<|zt<|zg [some (3,_)] [] [.v 11 _,.v 12 _,.v 13 _,.sto 0] [] O (zv rfl (za1 (gq 0 rfl)) (zv rfl (za1 (gq 1 rfl)) (zv rfl (zbg (xs:=[(0,.tmp 11),(1,.tmp 12)]) (qs:=[(0,_),(1,_)]) (zd3 famA) (.cons ⟨rfl,(vq 0 rfl),rfl⟩ (.cons ⟨rfl,(vq 1 rfl),rfl⟩ .nil))) (oc (zak rfl rfl rfl (vq 2 rfl) zac (Eq.trans (b:=2) rfl rfl)) o0)))) (zz [] [⟨4,25,ptrH,_⟩] fun a w O=>?_)
  refine za0<|wp_ret<|zao ?_ (zaj rfl O (zm 0 rfl) zac)
  exact zhd (M:=MgA) hb0
theorem zds (neg:Bool)(l:List Nat):Cn Tryz.prog 185 [Bo neg,(MgN l).va] ((RIN (rsig neg l)).va):=by
 refine Cn.intro Tryz.func185 rfl zk nq (fun B w0 a O=>?_)
 have O:=zn [(0,Bo neg),(1,(MgN l).va)] [] O
 refine wp_seq<|zg [] [⟨4,25,ptrH,some 0,_,none⟩] [.alc 0] [.g 0,.g 1] O (oc (zas rfl rfl rfl (Str.zero (zd3 famN))) o0) (zz [(0,_),(1,_)] [⟨4,25,ptrH,_⟩] fun a w O=>?_)
 refine zt<|wp_seq<|zg [none] [] [.v 5 _,.v 6 _,.v 1 _] [.g 0,.o 2] O (zv rfl (za1 (gq 1 rfl)) (zv rfl (za5 (xs:=[.tmp 5]) (zr2 famN _) (.cons (vq 0 rfl) .nil)) (zv rfl (za2 (vq 1 rfl)) o0))) (zz [(0,_),(1,_)] [⟨4,25,ptrH,_⟩] fun a w O=>?_)
 refine zt<|zg [none] [] [.v 7 _,.v 8 _,.v 9 _] [.g 0,.g 1,.o 2] O (zv rfl (za1 (gq 1 rfl)) (zv rfl (zax Tryz.underlying23 (zq9 (vq 0 rfl))) (zv rfl (zca (vq 1 rfl) za3) o0))) (zz [(0,_),(1,_),(9,_)] [⟨4,25,ptrH,_⟩] fun a w O=>?_)
 refine za0<|za8 O (zm 2 rfl) (fun hb0=>?_) (fun hb0=>?_)
 ·refine wp_seq<|zg [some (1,_)] [] [.v 10 _,.sto 0] [.g 0,.g 1] O (zv rfl (zbg (xs:=[]) (qs:=[]) (zd3 famN) .nil) (oc (zak rfl rfl rfl (vq 0 rfl) zac (Eq.trans (b:=2) rfl rfl)) o0)) (zz [(0,_),(1,_)] [⟨4,25,ptrH,_⟩] fun a w O=>?_)
  refine za0<|wp_ret<|zag ?_
  refine zao ?_ (zaj rfl O (zm 0 rfl) zac)
  exact zfx (M:=MgN) hb0
 ·refine wp_skip<|zt<|zg [some (3,_)] [] [.v 11 _,.v 12 _,.v 13 _,.sto 0] [] O (zv rfl (za1 (gq 0 rfl)) (zv rfl (za1 (gq 1 rfl)) (zv rfl (zbg (xs:=[(0,.tmp 11),(1,.tmp 12)]) (qs:=[(0,_),(1,_)]) (zd3 famN) (.cons ⟨rfl,(vq 0 rfl),rfl⟩ (.cons ⟨rfl,(vq 1 rfl),rfl⟩ .nil))) (oc (zak rfl rfl rfl (vq 2 rfl) zac (Eq.trans (b:=2) rfl rfl)) o0)))) (zz [] [⟨4,25,ptrH,_⟩] fun a w O=>?_)
  refine za0<|wp_ret<|zao ?_ (zaj rfl O (zm 0 rfl) zac)
  exact zhd (M:=MgN) hb0
theorem mgz_n {l:List Nat}(h:0<l.length):(MgN l).n=(MgZ l).n∧(MgN l).ag=(MgZ l).ag∧∀ B cs w,(MgZ l).p B cs w→(MgN l).p B cs w:=⟨rfl,rfl,fun B cs w ⟨ok,A,c,e,h1,h2,h3⟩=>by
 obtain ⟨g,ext,rfl,rfl,h4,h5⟩:=h3 h
 exact ⟨ok,.inr ⟨g,ext,e,h2,h4,h5⟩⟩⟩
theorem zvh {neg:Bool}{l:List Nat}(h:(((trimL l).length:Int)==0)=false):Wk (cat (setAll [BoA false,MgN []] [(0,BoA neg),(1,MgZ (trimL l))])).va (RIN (rsig neg l)).va:=by
 have h1:(trimL l).isEmpty=false:=by cases hh:trimL l <;> simp_all
 have h2:0<(trimL l).length:=by cases hh:trimL l <;> simp_all
 have e:RIN (rsig neg l)=cat [BoA neg,MgN (trimL l)]:=by unfold rsig RIN; rw [h1]; simp
 rw [e]
 exact fun B v w ⟨cs,⟨ps,hp,hq⟩,hv⟩=>by
  cases hq with
  | cons q1 hq=>cases hq with
   | cons q2 hq=>exact ⟨cs,⟨_,hp,.cons q1 (.cons ((mgz_n h2).2.2 _ _ _ q2) hq)⟩,hv⟩
theorem zvi (neg:Bool)(l:List Nat):Cn Tryz.prog 185 [Bo neg,(MgZ l).va] ((RIN (rsig neg l)).va):=by
 refine Cn.intro Tryz.func185 rfl zk nq (fun B w0 a O=>?_)
 have O:=zn [(0,Bo neg),(1,(MgZ l).va)] [] O
 refine wp_seq<|zg [] [⟨4,25,ptrH,some 0,_,none⟩] [.alc 0] [.g 0,.g 1] O (oc (zas rfl rfl rfl (Str.zero (zd3 famN))) o0) (zz [(0,_),(1,_)] [⟨4,25,ptrH,_⟩] fun a w O=>?_)
 refine zt<|wp_seq<|zg [none] [] [.v 5 _,.v 6 _,.v 1 _] [.g 0,.o 2] O (zv rfl (za1 (gq 1 rfl)) (zv rfl (za5 (xs:=[.tmp 5]) (zr2 famZ _) (.cons (vq 0 rfl) .nil)) (zv rfl (za2 (vq 1 rfl)) o0))) (zz [(0,_),(1,_)] [⟨4,25,ptrH,_⟩] fun a w O=>?_)
 refine zt<|zg [none] [] [.v 7 _,.v 8 _,.v 9 _] [.g 0,.g 1,.o 2] O (zv rfl (za1 (gq 1 rfl)) (zv rfl (zax Tryz.underlying23 (has_newZ (vq 0 rfl))) (zv rfl (zca (vq 1 rfl) za3) o0))) (zz [(0,_),(1,_),(9,_)] [⟨4,25,ptrH,_⟩] fun a w O=>?_)
 refine za0<|za8 O (zm 2 rfl) (fun hb0=>?_) (fun hb0=>?_)
 ·refine wp_seq<|zg [some (1,_)] [] [.v 10 _,.sto 0] [.g 0,.g 1] O (zv rfl (zbg (xs:=[]) (qs:=[]) (zd3 famN) .nil) (oc (zak rfl rfl rfl (vq 0 rfl) zac (Eq.trans (b:=2) rfl rfl)) o0)) (zz [(0,_),(1,_)] [⟨4,25,ptrH,_⟩] fun a w O=>?_)
  refine za0<|wp_ret<|zag ?_
  refine zai ?_ (zaj rfl O (zm 0 rfl) zac)
  exact fun _ _ _ h=>(zfx (M:=MgN) hb0)▸h
 ·refine wp_skip<|zt<|zg [some (3,_)] [] [.v 11 _,.v 12 _,.v 13 _,.sto 0] [] O (zv rfl (za1 (gq 0 rfl)) (zv rfl (za1 (gq 1 rfl)) (zv rfl (zbg (xs:=[(0,.tmp 11),(1,.tmp 12)]) (qs:=[(0,_),(1,_)]) (zd3 famN) (.cons ⟨rfl,(vq 0 rfl),rfl⟩ (.cons ⟨rfl,(vq 1 rfl),rfl⟩ .nil))) (oc (zak rfl rfl rfl (vq 2 rfl) zac (Eq.trans (b:=2) rfl rfl)) o0)))) (zz [] [⟨4,25,ptrH,_⟩] fun a w O=>?_)
  refine za0<|wp_ret<|zai ?_ (zaj rfl O (zm 0 rfl) zac)
  exact zvh hb0
set_option maxHeartbeats 2000000 in
theorem zum (b off n c:Nat)(zs:List Nat)(w:World)(hn:n=zs.length)(h0:0<n)(hbig:n*4≤140737488355328)(hc:∀ j (h:j<zs.length),w.cell? ⟨b,off+j,none⟩=some (.int .u32 (zs[j]:Nat))) :
  Calls Tryz.prog 206 #[.slice (some ⟨b,off,none⟩) n c] w fun e w'=>∃ g c ext,e=.returned (.slice (some ⟨g,0,none⟩) n c)∧w.heap.size≤g∧n≤c∧c≤maxLen∧w'.heap[g]?=some (.cells ((zs++ext).map fun (x:Nat)=>Value.int .u32 x).toArray U32 (0,0))∧Grow w w'∧c=(zs++ext).length:=by
 have t22:Tryz.prog.underlying 23=some (.slice U32):=by kernel_rfl
 obtain ⟨i0,hi,hz0,hz1,hz2⟩:=zqz
 have q22:∀ (w:World) (a:Option Addr) (n c n' c':Nat),(binOp .eql 23 (.slice a n c) (.slice none n' c')).run Tryz.prog w=.ok (.bool a.isNone) w:=fun w a n c n' c'=>Lib.run_eql_slice_nil w _ _ a n c n' c' t22
 have u22:∀ w,Sem.run Tryz.prog (underlying 23) w=.ok (TypeDesc.slice U32) w:=run_underlying t22
 have A:Aside (∀ j (h:j<zs.length),w.cell? ⟨b,off+j,none⟩=some (.int .u32 (zs[j]:Nat))):=hc
 have HN:Aside (n=zs.length):=hn
 clear hc hn
 go_enter Tryz.func206,Tryz.ntmps206
 go_wp2_with (at_builtin; refine zi8 rfl _ _ 23 rfl U32 i0 (.int .u32 0) t22 hi hz0 hz1 hz2 _ rfl ⟨b,off,none⟩ n c (zs.map fun (x:Nat)=>Value.int .u32 x) rfl ?qc1 ?qc2 h0 hbig ?_)
 case qc1=>simp; exact HN.out.symm
 case qc2 =>
  intro j u hj
  have hjn:j<zs.length:=by
   have:=(List.getElem?_eq_some_iff.1 hj).1
   simpa using this
  rw [Addr.add_lit]
  refine Lib.cell?_alloc_some _ ?_
  rw [A.out j hjn]
  simpa [hjn] using hj
 go_wp2
 go_ret
 refine ⟨_,_,List.replicate (grownCap (w.alloc (.cells #[] U32)) n 0 U32-n) 0,rfl,by omega,grownCap_ge _ _ _ _,grownCap_le_maxLen _ _ _ _ (by unfold maxLen; omega),?_,?_,?_⟩
 ·have e:(w.alloc (.cells #[] U32)).heap.size=w.heap.size+1:=by simp
  rw [← e,ztb,List.map_append,← List.append_toArray]
  exact heap_alloc_new _ _
 ·exact ((Grow.alloc w _).trans (Grow.alloc _ _)).trans (Grow.drew _)
 ·have:=grownCap_ge (w.alloc (.cells #[] U32)) n 0 U32
  have hnz:=HN.out
  rw [List.length_append,List.length_replicate]
  omega
theorem zz7 (c:Nat)(w:World):Calls Tryz.prog 206 #[.slice none 0 c] w fun e w'=>e=.returned (.slice none 0 0)∧w=w':=by
 have t22:Tryz.prog.underlying 23=some (.slice U32):=by kernel_rfl
 have q22:∀ (w:World) (a:Option Addr) (n c n' c':Nat),(binOp .eql 23 (.slice a n c) (.slice none n' c')).run Tryz.prog w=.ok (.bool a.isNone) w:=fun w a n c n' c'=>Lib.run_eql_slice_nil w _ _ a n c n' c' t22
 go_enter Tryz.func206,Tryz.ntmps206
 go_wp2
 go_ret
 exact ⟨rfl,rfl⟩
theorem zul (ad:Addr)(c:Nat)(w:World):Calls Tryz.prog 206 #[.slice (some ad) 0 c] w fun e w'=>∃ A c,e=.returned (.slice A 0 c)∧c≤maxLen∧Below w.heap.size w w':=by
 have t22:Tryz.prog.underlying 23=some (.slice U32):=by kernel_rfl
 obtain ⟨i0,hi,hz0,hz1,hz2⟩:=zqz
 have q22:∀ (w:World) (a:Option Addr) (n c n' c':Nat),(binOp .eql 23 (.slice a n c) (.slice none n' c')).run Tryz.prog w=.ok (.bool a.isNone) w:=fun w a n c n' c'=>Lib.run_eql_slice_nil w _ _ a n c n' c' t22
 have u22:∀ w,Sem.run Tryz.prog (underlying 23) w=.ok (TypeDesc.slice U32) w:=run_underlying t22
 go_enter Tryz.func206,Tryz.ntmps206
 go_wp2_with (at_builtin; refine wpList_append_own _ rfl _ _ 23 rfl w.heap.size U32 i0 (.int .u32 0) 1 4 t22 hi hz0 hz1 hz2 rfl zd _ _ _ rfl (World.ownsRow_made w #[] 0 (Nat.le_refl _) (Nat.zero_le _) rfl) ad 0 c [] rfl rfl ?qc2 ?qc3 ?qc4 ?qc5 ?qc6 ?_)
 case qc2=>intro j u hj; simp at hj
 case qc3=>intro u hu; cases hu
 case qc4=>unfold maxLen; omega
 case qc5=>omega
 case qc6=>simp
 intro v' w1 hown hgrow hnil
 go_wp2
 go_ret
 have hb:=((Below.refl _ w).alloc (Nat.le_refl _) _).grown hgrow (by simp) (by intro k hk; simp [Value.ownBlock] at hk; omega)
 rcases hown.2 with ⟨rfl,_⟩ | ⟨g,cap,cur,rfl,_,_,_,h4,_⟩
 ·exact ⟨none,0,rfl,Nat.zero_le _,hb⟩
 ·exact ⟨_,cap,rfl,h4,hb⟩
theorem zz8 (l:List Nat)(hls:l.length≤1099511627776):Cn Tryz.prog 206 [(MgA l).va] (MgZ l).va:=by
 refine ⟨zkt Tryz.func206 zk zk,fun B w args hB ha=>?_⟩
 obtain ⟨v,rfl,hv⟩:=ha.one
 obtain ⟨A,c,rfl,hm⟩:=zh0 hv
 by_cases h0:l.length=0
 ·have hl:l=[]:=List.eq_nil_of_length_eq_zero h0
  subst hl
  cases A with
  | none =>
   refine (zz7 c w).mono fun e w' ⟨he,hw⟩=>?_
   subst hw
   exact ⟨_,he,⟨_,famZ.nil B w,rfl⟩,Grow.refl w⟩
  | some ad=>exact (zul ad c w).mono fun e w' ⟨A,c,he,hm,hb⟩=>⟨_,he,⟨_,⟨zdl,A,c,rfl,Nat.zero_le _,hm,fun h=>by simp at h⟩,rfl⟩,hb⟩
 ·obtain ⟨b,o,rfl,h1,h2,h3⟩:=hm.at_ zo
  exact (zum b o l.length c l w rfl zo zo h3).mono fun e w' ⟨g,c,ext,he,h4,h5,h6,h7,hb,hcx⟩=>⟨_,he,⟨_,⟨hm.ok,_,c,rfl,h5,h6,fun _=>⟨g,ext,rfl,hcx,Nat.le_trans hB h4,h7⟩⟩,rfl⟩,hb⟩
theorem own_c (neg:Bool)(l:List Nat)(hls:l.length≤1099511627776):Cn Tryz.prog 183 [Bo neg,(MgA l).va] ((RIN (rsig neg l)).va):=by
 refine Cn.intro Tryz.func183 rfl zk nq (fun B w0 a O=>?_)
 have O:=zn [(0,Bo neg),(1,(MgA l).va)] [] O
 refine wp_seq<|zg [] [⟨4,25,ptrH,some 0,_,none⟩] [.alc 0] [.g 0,.g 1] O (oc (zas rfl rfl rfl (Str.zero (zd3 famN))) o0) (zz [(0,_),(1,_)] [⟨4,25,ptrH,_⟩] fun a w O=>?_)
 refine zt<|zg [some (4,_)] [] [.v 5 _,.v 6 _,.v 7 _,.v 8 _,.sto 0] [] O (zv rfl (za1 (gq 0 rfl)) (zv rfl (za1 (gq 1 rfl)) (zv rfl (za5 (xs:=[.tmp 6]) (zz8 _ hls) (.cons (vq 1 rfl) .nil)) (zv rfl (za5 (xs:=[.tmp 5,.tmp 7]) (zvi _ _) (.cons (vq 0 rfl) (.cons (vq 2 rfl) .nil))) (oc (zak rfl rfl rfl (vq 3 rfl) zac (Eq.trans (b:=2) rfl rfl)) o0))))) (zz [] [⟨4,25,ptrH,_⟩] fun a w O=>?_)
 exact za0<|wp_ret<|zaj rfl O (zm 0 rfl) zac
end Go.Proofs.YthdbhckhignfcaaGreatDoor
namespace Go.Proofs.YthdbhckhignfcaaGreatDoor
open Go Go.RowKit
theorem zpj:∀ {l:List Nat} {j x:Nat} (h:j<l.length),val (l.set j x)+4294967296^j*l[j]=val l+4294967296^j*x
 | [],j,x,h=>by simp at h
 | y::ys,0,x,_=>by simp [val]; omega
 | y::ys,j+1,x,h=>by
  have:=zpj (l:=ys) (j:=j) (x:=x) (by simpa using h)
  simp only [List.set_cons_succ,val,List.getElem_cons_succ,Nat.pow_succ]
  have e:∀ z,4294967296^j*4294967296*z=4294967296*(4294967296^j*z):=fun z=>by rw [Nat.mul_comm (4294967296^j),Nat.mul_assoc]
  rw [e,e]
  omega
theorem zwv {l:List Nat}(h:okL l)(j:Nat){x:Nat}(hx:x<4294967296):okL (l.set j x):=fun y hy=>by
 rcases List.mem_or_eq_of_mem_set hy with h1 | h1
 ·exact h y h1
 ·subst h1; exact hx
structure MulO (a b L:List Nat) (i:Nat):Prop where
 len:L.length=a.length+b.length
 ok:okL L
 vl:val L=val (a.take i)*val b
 zero:∀ j,i+b.length≤j→L.getD j 0=0
structure MulI (a b L:List Nat) (i u k c:Nat):Prop where
 len:L.length=a.length+b.length
 ok:okL L
 cl:c<4294967296
 vl:val L+c*4294967296^(i+k)=val (a.take i)*val b+4294967296^i*(u*val (b.take k))
 zero:∀ j,i+b.length≤j→L.getD j 0=0
theorem MulO.start (a b:List Nat):MulO a b (List.replicate (a.length+b.length) 0) 0:=⟨by simp,fun x hx=>by rw [(List.mem_replicate.1 hx).2]; decide,by simp [zo2],fun j _=>by rw [List.getD_eq_getElem?_getD,List.getElem?_replicate]; split <;> rfl⟩
theorem MulO.row {a b L:List Nat}{i:Nat}(h:MulO a b L i)(u:Nat):MulI a b L i u 0 0:=⟨h.len,h.ok,by decide,by rw [h.vl]; simp,h.zero⟩
theorem zj2 {u v c l:Nat}(hu:u<4294967296)(hv:v<4294967296)(hc:c<4294967296)(hl:l<4294967296):c+(u*v+l)<18446744073709551616:=by
 have:u*v≤4294967295*4294967295:=Nat.mul_le_mul zo zo
 omega
theorem mul_alg {V V' W Z p q r u x y c t B d m:Nat}(hp:p=q*r)(ht:t=c+(u*x+y))(hd:B*d+m=t)(h2:V'+p*y=V+p*m)(h3:V+c*p=W+q*(u*Z)):V'+d*(p*B)=W+q*(u*(Z+r*x)):=by
 grind
theorem MulI.step {a b L:List Nat}{i u k c:Nat}(h:MulI a b L i u k c)(hb:okL b)(hu:u<4294967296)(hk:k<b.length)(hj:i+k<L.length) :
  MulI a b (L.set (i+k) ((c+(u*b[k]+L[i+k]))%4294967296)) i u (k+1) ((c+(u*b[k]+L[i+k]))/4294967296):=by
 have h1:=zj2 hu (hb _ (List.getElem_mem hk)) h.cl (h.ok _ (List.getElem_mem hj))
 refine ⟨by rw [List.length_set,h.len],zwv h.ok _ (Nat.mod_lt _ zd),Nat.div_lt_of_lt_mul h1,?_,fun j hj'=>?_⟩
 ·have h2:=zpj (x:=(c+(u*b[k]+L[i+k]))%4294967296) hj
  have h3:=h.vl
  rw [zby hk,show i+(k+1)=(i+k)+1 from rfl,Nat.pow_succ]
  exact mul_alg (Nat.pow_add _ _ _) rfl (Nat.div_add_mod _ _) h2 h3
 ·have:=h.zero j hj'
  rw [List.getD_eq_getElem?_getD,List.getElem?_set_ne zo,← List.getD_eq_getElem?_getD]
  exact this
theorem MulI.done {a b L:List Nat}{i u c:Nat}(h:MulI a b L i u b.length c)(hi:i<a.length)(hu:a[i]=u):MulO a b (L.set (i+b.length) c) (i+1):=by
 have hj:i+b.length<L.length:=by rw [h.len]; omega
 have h1:=zpj (x:=c) hj
 have h2:=h.vl
 have h3:L[i+b.length]=0:=by have:=h.zero _ (Nat.le_refl _); rwa [zdc hj] at this
 rw [h3,Nat.mul_zero,Nat.add_zero] at h1
 rw [List.take_of_length_le (Nat.le_refl _)] at h2
 refine ⟨by rw [List.length_set,h.len],zwv h.ok _ h.cl,?_,fun j hj'=>?_⟩
 ·rw [h1,Nat.mul_comm _ c,h2,zby hi,hu,Nat.add_mul,Nat.mul_assoc]
 ·rw [List.getD_eq_getElem?_getD,List.getElem?_set_ne zo,← List.getD_eq_getElem?_getD]
  exact h.zero j zo
theorem MulO.fin {a b L:List Nat}(h:MulO a b L a.length):L=digs (a.length+b.length) (val a*val b):=zkq h.ok h.len (by rw [h.vl,List.take_length])
theorem zva (x y:RI)(hxs:x.mag.length≤1099511627776)(hys:y.mag.length≤1099511627776):Cn Tryz.prog 164 [(RIA x).va,(RIA y).va] ((RIN (rsig (x.neg != y.neg) (digs (x.mag.length+y.mag.length) (val x.mag*val y.mag)))).va):=by
 refine Cn.introW Tryz.func164 rfl zk nq (.cons (ztc _).va (.cons (ztc _).va .nil)) (zh6 _).va (fun B w0 a hB0 O=>?_)
 have O:=zn [(0,(RIO x).va),(1,(RIO y).va)] [] O
 refine wp_seq<|zg [] [⟨2,25,ptrH,some 0,_,none⟩,⟨3,25,ptrH,some 1,_,none⟩,⟨4,25,ptrH,some 2,_,none⟩] [.alc 0,.alc 1,.alc 2] [] O (oc (zam rfl rfl rfl (gq 0 rfl)) (oc (zam rfl rfl rfl (gq 1 rfl)) (oc (zas rfl rfl rfl (Str.zero zga)) o0))) (zz [] [⟨2,25,ptrH,_⟩,⟨3,25,ptrH,_⟩,⟨4,25,ptrH,_⟩] fun a w O=>?_)
 refine zt<|zgd [[],[0],[],[2],[0,1],[0,1,2,3,4]] [none,none,none] [] [.adr 13 2 (.some 1) True,.v 14 _,.adr 15 3 (.some 1) True,.v 16 _,.v 5 _,.v 6 _] [.o 4,.o 5] za6 O (oc (ob_a rfl rfl (za9 (lz0 0 rfl) zah)) (zv rfl (za4 0 rfl zk trivial (lz0 0 rfl) (Sub.part 1 rfl rfl) zb9) (oc (ob_a rfl rfl (za9 (lz0 1 rfl) zah)) (zv rfl (za4 2 rfl zk trivial (lz0 1 rfl) (Sub.part 1 rfl rfl) zb9) (zv rfl (za2 (vq 1 rfl)) (zv rfl (za2 (vq 3 rfl)) o0)))))) zk zk zk zk (zz [(5,_),(6,_)] [⟨2,25,ptrH,_⟩,⟨3,25,ptrH,_⟩,⟨4,25,ptrH,_⟩] fun a w O=>?_)
 refine zt<|zdm (sts:=[none,none,none]) (news:=[⟨22,106,slH _ _,some 5,_,none⟩]) (sp:=[.v 17 _,.v 18 _,.v 19 _,.v 20 _,.v 21 _,.alc 3,.adr 7 22 .none True]) [.g 0,.g 1] [(7,22)] [⟨2,25,ptrH,_⟩,⟨3,25,ptrH,_⟩,⟨4,25,ptrH,_⟩,⟨7,106,slH _ _,_⟩] O (zv rfl (za1 (gq 0 rfl)) (zv rfl (zax Tryz.underlying23 (zaz (vq 0 rfl))) (zv rfl (za1 (gq 1 rfl)) (zv rfl (zax Tryz.underlying23 (zaz (vq 2 rfl))) (zv rfl (zb5 (vq 1 rfl) (vq 3 rfl) (zh8 zo)) (oc (zeo rfl rfl rfl zfs (vq 4 rfl) (vq 4 rfl) zo) (oc (ob_a rfl rfl zl0) o0))))))) zk zk zk ⟨⟨6,rfl⟩,trivial⟩ rfl zk (zz [(5,_),(6,_)] [⟨2,25,ptrH,_⟩,⟨3,25,ptrH,_⟩,⟨4,25,ptrH,_⟩,⟨7,106,slH _ _,_⟩] fun a w O=>?_)
 refine zt<|wp_seq<|zg [none,none,none,none] [] [.v 23 _,.v 24 _,.v 25 _] [.g 1,.o 0,.o 1,.o 2] O (zv rfl (za1 (gq 0 rfl)) (zv rfl (zax Tryz.underlying23 (zaz (vq 0 rfl))) (zv rfl (za1 za3) o0))) (zz [(6,_),(23,_),(24,_),(25,_)] [⟨2,25,ptrH,_⟩,⟨3,25,ptrH,_⟩,⟨4,25,ptrH,_⟩,⟨7,106,slH _ _,_⟩] fun a w O=>?_)
 refine za0<|wp_block ?_
 have O:=St.sel O [0,1,2,3]
 refine wp_loop_ghost (fun n a w=>∃ (i:Nat) (L:List Nat),n+i=x.mag.length∧MulO x.mag y.mag L i∧St B w0 78 [(6,(MgO y.mag).va),(23,(MgO x.mag).va),(24,In (x.mag.length:Nat)),(25,In (i:Nat))] [⟨2,25,ptrH,RIO x⟩,⟨3,25,ptrH,RIO y⟩,⟨4,25,ptrH,cat [BoA false,MgO []]⟩,⟨7,106,slH (x.mag.length+y.mag.length) (x.mag.length+y.mag.length),Nums .u32 L⟩] a w) (x.mag.length) ?_ ?_
 ·exact ⟨0,_,by omega,MulO.start _ _,O⟩
 intro n a w hI
 obtain ⟨i,L,hn,hO,O⟩:=hI; obtain ⟨n1,hn1⟩:∃ n1,n1=n:=⟨n,rfl⟩; have hb:=(O.magO 0 rfl).1; have ha:=(O.magO 1 rfl).1; have hlen:=hO.len
 refine wp_seq<|zg [none,none,none,none] [] [.v 26 _] [.g 0,.g 1,.g 2,.g 3,.o 0] O (zv rfl (zb1 (gq 3 rfl) (gq 2 rfl)) o0) (zz [(6,_),(23,_),(24,_),(25,_),(26,_)] [⟨2,25,ptrH,_⟩,⟨3,25,ptrH,_⟩,⟨4,25,ptrH,_⟩,⟨7,106,slH _ _,_⟩] fun a w O=>?_)
 refine zt<|za8 O (zm 4 rfl) (fun hb0=>?_) (fun hb0=>?_)
 ·have hi:i<x.mag.length:=by simp at hb0; omega
  refine wp_skip<|zt<|wp_block<|wp_seq<|zg [none,none,none,none] [] [.v 27 _,.v 28 _,.v 29 _,.v 8 _,.v 9 _] [.g 0,.g 1,.g 2,.g 3,.o 3,.o 4] O (zv rfl (za1 (gq 3 rfl)) (zv rfl (zc4 zbc (zaz (gq 1 rfl)) (gq 3 rfl) zo) (zv rfl (zad (vq 1 rfl) zb0) (zv rfl (za2 (vq 0 rfl)) (zv rfl (za2 (vq 2 rfl)) o0))))) (zz [(6,_),(23,_),(24,_),(25,_),(8,_),(9,_)] [⟨2,25,ptrH,_⟩,⟨3,25,ptrH,_⟩,⟨4,25,ptrH,_⟩,⟨7,106,slH _ _,_⟩] fun a w O=>?_)
  refine zt<|zg [none,none,none,none] [] [.v 10 _] [.g 0,.g 1,.g 2,.g 3,.g 4,.g 5,.o 0] O (zv rfl (za2 (zau 0 rfl)) o0) (zz [(6,_),(23,_),(24,_),(25,_),(8,_),(9,_),(10,_)] [⟨2,25,ptrH,_⟩,⟨3,25,ptrH,_⟩,⟨4,25,ptrH,_⟩,⟨7,106,slH _ _,_⟩] fun a w O=>?_)
  refine zt<|wp_seq<|zg [none,none,none,none] [] [.v 30 _,.v 31 _,.v 32 _] [.g 0,.g 1,.g 2,.g 3,.g 4,.g 5,.g 6,.o 0,.o 1,.o 2] O (zv rfl (za1 (gq 0 rfl)) (zv rfl (zax Tryz.underlying23 (zaz (vq 0 rfl))) (zv rfl (za1 za3) o0))) (zz [(6,_),(23,_),(24,_),(25,_),(8,_),(9,_),(10,_),(30,_),(31,_),(32,_)] [⟨2,25,ptrH,_⟩,⟨3,25,ptrH,_⟩,⟨4,25,ptrH,_⟩,⟨7,106,slH _ _,_⟩] fun a w O=>?_)
  refine za0<|wp_block ?_
  have O:=St.sel O [0,1,2,3,4,5,6,7,8,9]
  refine wp_loop_ghost (fun n a w=>∃ (k c:Nat) (L:List Nat),n+k=y.mag.length∧MulI x.mag y.mag L i x.mag[i] k c∧St B w0 78 [(6,(MgO y.mag).va),(23,(MgO x.mag).va),(24,In (x.mag.length:Nat)),(25,In (i:Nat)),(8,In (i:Nat)),(9,(NumA .u32 (x.mag[i]:Nat)).va),(10,(NumA .u64 (c:Nat)).va),(30,(MgO y.mag).va),(31,In (y.mag.length:Nat)),(32,In (k:Nat))] [⟨2,25,ptrH,RIO x⟩,⟨3,25,ptrH,RIO y⟩,⟨4,25,ptrH,cat [BoA false,MgO []]⟩,⟨7,106,slH (x.mag.length+y.mag.length) (x.mag.length+y.mag.length),Nums .u32 L⟩] a w) (y.mag.length) ?_ ?_
  ·exact ⟨0,0,L,by omega,hO.row _,O⟩
  intro n a w hI
  clear hlen hO; obtain ⟨k,c,L,hn2,hI,O⟩:=hI; have hlen:=hI.len; have hc:=hI.cl
  refine wp_seq<|zg [none,none,none,none] [] [.v 33 _] [.g 0,.g 1,.g 2,.g 3,.g 4,.g 5,.g 6,.g 7,.g 8,.g 9,.o 0] O (zv rfl (zb1 (gq 9 rfl) (gq 8 rfl)) o0) (zz [(6,_),(23,_),(24,_),(25,_),(8,_),(9,_),(10,_),(30,_),(31,_),(32,_),(33,_)] [⟨2,25,ptrH,_⟩,⟨3,25,ptrH,_⟩,⟨4,25,ptrH,_⟩,⟨7,106,slH _ _,_⟩] fun a w O=>?_)
  refine zt<|za8 O (zm 10 rfl) (fun hb1=>?_) (fun hb1=>?_)
  ·have hk:k<y.mag.length:=by simp at hb1; omega
   refine wp_skip<|zt<|wp_block<|wp_seq<|zg [none,none,none,none] [] [.v 34 _,.v 35 _,.v 36 _,.v 11 _,.v 12 _] [.g 0,.g 1,.g 2,.g 3,.g 4,.g 5,.g 6,.g 7,.g 8,.g 9,.o 3,.o 4] O (zv rfl (za1 (gq 9 rfl)) (zv rfl (zc4 zbc (zaz (gq 7 rfl)) (gq 9 rfl) zo) (zv rfl (zad (vq 1 rfl) zb0) (zv rfl (za2 (vq 0 rfl)) (zv rfl (za2 (vq 2 rfl)) o0))))) (zz [(6,_),(23,_),(24,_),(25,_),(8,_),(9,_),(10,_),(30,_),(31,_),(32,_),(11,_),(12,_)] [⟨2,25,ptrH,_⟩,⟨3,25,ptrH,_⟩,⟨4,25,ptrH,_⟩,⟨7,106,slH _ _,_⟩] fun a w O=>?_)
   refine zt<|zg [none,none,none,none] [] [.v 37 _,.v 38 _,.v 39 _,.v 40 _,.v 41 _,.v 42 _,.adr 43 7 .none True,.v 44 _,.v 45 _,.v 46 _,.adr 47 7 (.some _) True,.v 48 _,.v 49 _,.v 50 _,.v 51 _,.v 10 _] [.g 0,.g 1,.g 2,.g 3,.g 4,.g 5,.g 7,.g 8,.g 9,.g 10,.o 15] O (zv rfl (za1 (gq 6 rfl)) (zv rfl (za1 (gq 5 rfl)) (zv rfl (zaw .u64 zk zk (vq 1 rfl) (wu64 (Nat.lt_trans (ha _ (List.getElem_mem _)) zd))) (zv rfl (za1 (gq 11 rfl)) (zv rfl (zaw .u64 zk zk (vq 3 rfl) (wu64 (Nat.lt_trans (hb _ (List.getElem_mem _)) zd))) (zv rfl (zmh (vq 2 rfl) (vq 4 rfl) (wmul64 (Nat.lt_of_le_of_lt (Nat.le_trans (Nat.le_add_right _ _) (Nat.le_add_left _ _)) (zj2 (ha _ (List.getElem_mem _)) (hb _ (List.getElem_mem _)) (show 0<4294967296 by decide) (show 0<4294967296 by decide))))) (oc (ob_a rfl rfl zdd) (zv rfl (za1 (gq 4 rfl)) (zv rfl (za1 (gq 10 rfl)) (zv rfl (zb5 (vq 7 rfl) (vq 8 rfl) (zh8 zo)) (oc (ob_a rfl rfl (zf3 6 rfl zk (lz0 3 rfl) zbc (vq 9 rfl) zo)) (zv rfl (zpw 10 rfl zk (lz0 3 rfl) (fun _=>zck _ _ _ _) (zmu zo) zb0) (zv rfl (zaw .u64 zk zk (vq 11 rfl) (wu64 (Nat.lt_trans (hI.ok _ (List.getElem_mem _)) zd))) (zv rfl (zb5 (vq 5 rfl) (vq 12 rfl) (wadd64 (Nat.lt_of_le_of_lt (Nat.le_add_left _ _) (zj2 (ha _ (List.getElem_mem _)) (hb _ (List.getElem_mem _)) hc (hI.ok _ (List.getElem_mem _)))))) (zv rfl (zb5 (vq 0 rfl) (vq 13 rfl) (wadd64 (zj2 (ha _ (List.getElem_mem _)) (hb _ (List.getElem_mem _)) hc (hI.ok _ (List.getElem_mem _))))) (zv rfl (za2 (vq 14 rfl)) o0)))))))))))))))) (zz [(6,_),(23,_),(24,_),(25,_),(8,_),(9,_),(30,_),(31,_),(32,_),(11,_),(10,_)] [⟨2,25,ptrH,_⟩,⟨3,25,ptrH,_⟩,⟨4,25,ptrH,_⟩,⟨7,106,slH _ _,_⟩] fun a w O=>?_)
   refine zt<|zg [none,none,none,some (7,_)] [] [.adr 52 7 .none True,.v 53 _,.v 54 _,.v 55 _,.v 56 _,.v 57 _,.adr 58 7 (.some _) True,.sto 3] [.g 0,.g 1,.g 2,.g 3,.g 4,.g 5,.g 6,.g 7,.g 8,.g 10] O (oc (ob_a rfl rfl zdd) (zv rfl (za1 (gq 4 rfl)) (zv rfl (za1 (gq 9 rfl)) (zv rfl (zb5 (vq 1 rfl) (vq 2 rfl) (zh8 zo)) (zv rfl (za1 (gq 10 rfl)) (zv rfl (zaw .u32 zk zk (vq 4 rfl) (wu32')) (oc (ob_a rfl rfl (zf3 0 rfl zk (lz0 3 rfl) zbc (vq 3 rfl) zo)) (oc (zd2 6 rfl rfl rfl rfl zk (fun _=>zck _ _ _ _) (vq 5 rfl) zb0 (zc2 zo)) o0)))))))) (zz [(6,_),(23,_),(24,_),(25,_),(8,_),(9,_),(30,_),(31,_),(32,_),(10,_)] [⟨2,25,ptrH,_⟩,⟨3,25,ptrH,_⟩,⟨4,25,ptrH,_⟩,⟨7,106,slH _ _,_⟩] fun a w O=>?_)
   refine za0<|zg [none,none,none,none] [] [.v 59 _,.v 60 _,.v 10 _] [.g 0,.g 1,.g 2,.g 3,.g 4,.g 5,.g 6,.g 7,.g 8,.o 2] O (zv rfl (za1 (gq 9 rfl)) (zv rfl (zj7 (vq 0 rfl) (zau 32 rfl) zd (nshr)) (zv rfl (za2 (vq 1 rfl)) o0))) (zz [(6,_),(23,_),(24,_),(25,_),(8,_),(9,_),(30,_),(31,_),(32,_),(10,_)] [⟨2,25,ptrH,_⟩,⟨3,25,ptrH,_⟩,⟨4,25,ptrH,_⟩,⟨7,106,slH _ _,_⟩] fun a w O=>?_)
   refine zae ?_
   refine za0<|zg [none,none,none,none] [] [.v 61 _,.v 32 _] [.g 0,.g 1,.g 2,.g 3,.g 4,.g 5,.g 6,.g 7,.g 9,.o 1] O (zv rfl (zb5 (gq 8 rfl) za3 (zb3 zo)) (zv rfl (za1 (vq 0 rfl)) o0)) (zz [(6,_),(23,_),(24,_),(25,_),(8,_),(9,_),(30,_),(31,_),(10,_),(32,_)] [⟨2,25,ptrH,_⟩,⟨3,25,ptrH,_⟩,⟨4,25,ptrH,_⟩,⟨7,106,slH _ _,_⟩] fun a w O=>?_)
   refine za0 ?_
   have O:=St.sel O [0,1,2,3,4,5,8,6,7,9]
   exact ⟨n-1,by omega,k+1,_,_,by omega,hI.step hb (ha _ (List.getElem_mem _)) hk zo,O⟩
  ·obtain rfl:k=y.mag.length:=by simp at hb1; omega
   refine wp_exit<|za7<|za7<|zap<|za0<|zg [none,none,none,some (8,_)] [] [.adr 62 7 .none True,.v 63 _,.v 64 _,.v 65 _,.v 66 _,.v 67 _,.v 68 _,.adr 69 7 (.some _) True,.sto 3] [.g 0,.g 1,.g 2,.g 3] O (oc (ob_a rfl rfl zdd) (zv rfl (za1 (gq 4 rfl)) (zv rfl (za1 (gq 0 rfl)) (zv rfl (zax Tryz.underlying23 (zaz (vq 2 rfl))) (zv rfl (zb5 (vq 1 rfl) (vq 3 rfl) (zh8 zo)) (zv rfl (za1 (gq 6 rfl)) (zv rfl (zaw .u32 zk zk (vq 5 rfl) (wu32 hc)) (oc (ob_a rfl rfl (zf3 0 rfl zk (lz0 3 rfl) zbc (vq 4 rfl) zo)) (oc (zd2 7 rfl rfl rfl rfl zk (fun _=>zck _ _ _ _) (vq 6 rfl) zb0 (zc2 zo)) o0))))))))) (zz [(6,_),(23,_),(24,_),(25,_)] [⟨2,25,ptrH,_⟩,⟨3,25,ptrH,_⟩,⟨4,25,ptrH,_⟩,⟨7,106,slH _ _,_⟩] fun a w O=>?_)
   refine zae ?_
   refine za0<|zg [none,none,none,none] [] [.v 70 _,.v 25 _] [.g 0,.g 1,.g 2,.o 1] O (zv rfl (zb5 (gq 3 rfl) za3 (zb3 zo)) (zv rfl (za1 (vq 0 rfl)) o0)) (zz [(6,_),(23,_),(24,_),(25,_)] [⟨2,25,ptrH,_⟩,⟨3,25,ptrH,_⟩,⟨4,25,ptrH,_⟩,⟨7,106,slH _ _,_⟩] fun a w O=>?_)
   refine za0 ?_
   have O:=St.sel O [0,1,2,3]
   exact ⟨n1-1,by omega,i+1,_,by omega,hI.done hi rfl,O⟩
 ·obtain rfl:i=x.mag.length:=by simp at hb0; omega
  refine wp_exit<|za7<|za7<|zap<|zt<|zg [none,none,some (7,_),none] [] [.adr 71 2 (.some 0) True,.v 72 _,.adr 73 3 (.some 0) True,.v 74 _,.v 75 _,.adr 76 7 .none True,.v 77 _,.sto 2] [] O (oc (ob_a rfl rfl (za9 (lz0 0 rfl) zb7)) (zv rfl (za4 0 rfl zk trivial (lz0 0 rfl) (Sub.part 0 rfl rfl) ty_4) (oc (ob_a rfl rfl (za9 (lz0 1 rfl) zb7)) (zv rfl (za4 2 rfl zk trivial (lz0 1 rfl) (Sub.part 0 rfl rfl) ty_4) (zv rfl (zls zk (vq 1 rfl) (vq 3 rfl)) (oc (ob_a rfl rfl zdd) (zv rfl (za5 (xs:=[.tmp 75,.tmp 76]) (zds _ _) (.cons (vq 4 rfl) (.cons (zhn 5 rfl zk (lz0 3 rfl) ⟨hO.len.symm,Nat.le_refl _,by unfold maxLen; omega,hO.ok⟩ hO.len.symm) .nil))) (oc (zak rfl rfl rfl (vq 6 rfl) zac (Eq.trans (b:=2) rfl rfl)) o0)))))))) (zz [] [⟨2,25,ptrH,_⟩,⟨3,25,ptrH,_⟩,⟨4,25,ptrH,_⟩,⟨7,106,slH _ _,_⟩] fun a w O=>?_)
  refine za0<|wp_ret<|zao ?_ (zaj rfl O (zm 2 rfl) zac)
  rw [hO.fin]; rfl
end Go.Proofs.YthdbhckhignfcaaGreatDoor
