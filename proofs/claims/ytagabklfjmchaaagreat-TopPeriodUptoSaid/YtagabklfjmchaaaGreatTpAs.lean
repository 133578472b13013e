import Derived.Test.YtagabklfjmchaaaGreatTpAa
import Derived.Test.YtagabklfjmchaaaGreatTpAc
import Derived.Test.YtagabklfjmchaaaGreatTpAo
import Derived.Test.YtagabklfjmchaaaGreatTpAr
import Derived.Laws.AppendOwn
import Derived.Laws.OwnMore
import Derived.Orders
import Derived.Great.BuildSlice
set_option linter.unusedVariables false
set_option linter.unusedSimpArgs false
set_option linter.unusedSectionVars false
set_option maxRecDepth 100000
namespace Go.Proofs.YtagabklfjmchaaaGreat
open Go Go.RowKit
def powQ (m:MQ):Nat→MQ
 | 0=>⟨1,0,0,1⟩
 | k+1=>mulQ (powQ m k) m
theorem mul_one' (m:MQ):mulQ m ⟨1,0,0,1⟩=m:=by cases m; simp [mulQ,Rat.add_zero,Rat.zero_add]
theorem one_mul' (m:MQ):mulQ ⟨1,0,0,1⟩ m=m:=by cases m; simp [mulQ,Rat.add_zero,Rat.zero_add]
theorem pow_add (m:MQ)(i j:Nat):mulQ (powQ m i) (powQ m j)=powQ m (i+j):=by
 induction j with
 | zero=>exact mul_one' _
 | succ j ih =>
  show mulQ (powQ m i) (mulQ (powQ m j) m)=mulQ (powQ m (i+j)) m
  rw [mul_assoc3,ih]
theorem rep_all {m:MQ}{k:Nat}(ha:bQ k m.a)(hb:bQ k m.b)(hc:bQ k m.c)(hd:bQ k m.d):RepM (4*k) m:=by
 have na:=m.a.den_nz; have nb:=m.b.den_nz; have nc:=m.c.den_nz; have nd:=m.d.den_nz
 have l3:∀ {x y z u:Int},lz x≤k→lz y≤k→lz z≤k→lz u≤k→lz (x*y*(z*u))≤4*k:=fun {x y z u} hx hy hz hu=>by
  have h1:=zcl (x*y) (z*u)
  have h2:=zcl x y
  have h3:=zcl z u
  omega
 refine ziw (m.a.num*(m.b.den:Int)*((m.c.den:Int)*(m.d.den:Int))) (m.b.num*(m.a.den:Int)*((m.c.den:Int)*(m.d.den:Int))) (m.c.num*(m.d.den:Int)*((m.a.den:Int)*(m.b.den:Int))) (m.d.num*(m.c.den:Int)*((m.a.den:Int)*(m.b.den:Int))) ((m.a.den:Int)*(m.b.den:Int)*((m.c.den:Int)*(m.d.den:Int))) ?_ ?_ ?_ ?_ ?_ (l3 ha.1 hb.2 hc.2 hd.2) (l3 hb.1 ha.2 hc.2 hd.2) (l3 hc.1 hd.2 ha.2 hb.2) (l3 hd.1 hc.2 ha.2 hb.2) (l3 ha.2 hb.2 hc.2 hd.2)
 ·refine Int.mul_ne_zero (Int.mul_ne_zero ?_ ?_) (Int.mul_ne_zero ?_ ?_) <;> omega
 ·have:=zdy m.a; simp only [Rat.intCast_mul]; rw [← this]; grind
 ·have:=zdy m.b; simp only [Rat.intCast_mul]; rw [← this]; grind
 ·have:=zdy m.c; simp only [Rat.intCast_mul]; rw [← this]; grind
 ·have:=zdy m.d; simp only [Rat.intCast_mul]; rw [← this]; grind
theorem rep_pow {m:MQ}(h:RepM 8192 m):∀ k,RepM (8193*k+1) (powQ m k)
 | 0=>rep_1
 | k+1=>zej (rep_mul (rep_pow h k) h) zo
theorem zkm {c k:Nat}{r:Rat}(h:bQ c r):WkA (QA k r) (QA c r):=zc3 (.cons ⟨rfl,rfl,fun _ _ _ hp=>⟨h.1,hp.2⟩⟩ (.cons ⟨rfl,rfl,fun _ _ _ hp=>⟨h.2,hp.2⟩⟩ .nil))
theorem qm_repO {c k:Nat}{m:MQ}(h:RepM c m):WkA (QMA k m) (QMA c m):=by
 obtain ⟨h1,h2,h3,h4⟩:=rep_bQ h
 exact zc3 (.cons (zkm h1) (.cons (zkm h2) (.cons (zkm h3) (.cons (zkm h4) .nil))))
theorem zkl {m:MQ}{k c:Nat}(h:RepM 8192 m)(hk:k≤8192){q:MQ}(e:q=powQ m k):WkA (QMA c q) (QMA 67117057 (powQ m k)):=by
 subst e
 exact qm_repO (zej (rep_pow h k) zo)
theorem know_qm {B N:Nat}{w0:Bs}{s:Nat}{m:MQ}{Γ:List (Nat × VA)}{Λ:List Lc}{a:Act}{w:World}(h:St B w0 N Γ Λ a w)(hm:Γ[0]?=some (s,(QMA 2048 m).va)):RepM 8192 m∧St B w0 N Γ Λ a w:=by
 obtain ⟨cs,⟨ps,_,hp⟩,_⟩:=h.vals _ (List.mem_of_getElem? hm)
 have q:∀ {r:Rat} {c:List Value},(QA 2048 r).p B c w→bQ 2048 r:=fun {r c} hp=>qs_le ⟨c,hp,rfl⟩
 cases hp with
 | cons h1 hp=>cases hp with | cons h2 hp=>cases hp with | cons h3 hp=>cases hp with | cons h4 _=>exact ⟨rep_all (q h1) (q h2) (q h3) (q h4),h⟩
theorem e_half {e:Nat}(_h:e≤4096):((e:Int)/2^(1:Int).toNat)=((e/2:Nat):Int):=by
 show (e:Int)/2=_
 omega
theorem e_bit {e:Nat}(h:e≤4096):bits .and .i64 (e:Int) 1=((e%2:Nat):Int):=by
 have o:∀ {x:Nat},x≤4096→(BitVec.ofInt 64 (x:Int)).toNat=x:=fun hx=>by
  rw [BitVec.ofInt_natCast,BitVec.toNat_ofNat]
  exact Nat.mod_eq_of_lt zo
 have e1:(BitVec.ofInt 64 (e:Int) &&& BitVec.ofInt 64 ((1:Nat):Int)).toNat=e &&& 1:=by rw [BitVec.toNat_and,o h,o zo]
 show IntKind.i64.wrap (((BitVec.ofInt 64 (e:Int) &&& BitVec.ofInt 64 ((1:Nat):Int)).toNat:Nat):Int)=_
 rw [e1,Nat.and_one_is_mod,wi64 zo zo]
theorem p_dbl (m:MQ)(j:Nat):mulQ (powQ m (2^j)) (powQ m (2^j))=powQ m (2^(j+1)):=by
 rw [pow_add,Nat.pow_succ]
 congr 1
 omega
theorem p_lt {e j s x:Nat}(h:e*2^j+s=x)(hx:x≤4096)(he:0<e):2^j≤4096:=by
 have:1*2^j≤e*2^j:=Nat.mul_le_mul_right _ he
 omega
theorem p_odd {e j s x:Nat}(h:e*2^j+s=x)(h1:e%2=1):e/2*2^(j+1)+(s+2^j)=x:=by
 have e1:e=2*(e/2)+1:=by omega
 have e2:e/2*2^(j+1)=2*(e/2)*2^j:=by rw [Nat.pow_succ]; grind
 have e3:e*2^j=2*(e/2)*2^j+2^j:=by
  conv=>lhs; rw [e1]
  rw [Nat.add_mul,Nat.one_mul]
 omega
theorem p_even {e j s x:Nat}(h:e*2^j+s=x)(h1:e%2=0):e/2*2^(j+1)+s=x:=by
 have e1:e=2*(e/2):=by omega
 have e2:e/2*2^(j+1)=2*(e/2)*2^j:=by rw [Nat.pow_succ]; grind
 rw [e1] at h
 omega
theorem rowPower_q {m:MQ}{x:Nat}(hx:x≤4096):Cn Tryz.prog 33 [(QMA 2048 m).va,In (x:Nat)] ((QMA 67117057 (powQ m x)).va):=by
 refine Cn.intro Tryz.func33 rfl zk nq (fun B w0 a hst=>?_)
 have hst:St B w0 21 [(0,(QMA 2048 m).va),(1,In (x:Nat))] [] a w0.w:=hst
 obtain ⟨hm,hst⟩:=know_qm hst rfl
 refine wp_seq ?_
 refine gl (sts:=[]) (news:=[⟨2,38,ptrH,some 0,_,none⟩,⟨4,38,ptrH,some 1,_,none⟩]) (sp:=[.alc 0,.alc 1]) [.g 1] hst (oc (zam rfl rfl rfl (gq 0 rfl)) (oc (zao rfl rfl rfl (Str.zero zai)) o0)) (fun a w hst=>?_)
 have hst:St B w0 21 [(1,_)] [⟨2,38,ptrH,_⟩,⟨4,38,ptrH,_⟩] a w:=hst
 refine zt<|gl (sts:=[none,none]) (news:=[⟨5,38,ptrH,some 1,_,some (2,_)⟩]) (sp:=[.val 6 _,.alc 2,.sto 2]) [.g 0] hst (zv rfl (za5 (xs:=[]) zdn .nil) (oc (zao rfl rfl rfl (Str.zero zai)) (oc (zad rfl rfl rfl (vq 0 rfl) zat (Eq.trans (b:=16) rfl rfl)) o0))) (fun a w hst=>?_)
 have hst:St B w0 21 [(1,_)] [⟨2,38,ptrH,_⟩,⟨4,38,ptrH,_⟩,⟨5,38,ptrH,_⟩] a w:=hst
 refine zt ?_
 refine wp_block ?_
 have hst:=St.sel hst [0]
 refine wp_loop_ghost (fun n a w=>∃ (e j s:Nat),(n=e∧e*2^j+s=x∧s≤x∧s<2^j)∧St B w0 21 [(1,In (e:Nat))] [⟨2,38,ptrH,QMA 67117057 (powQ m (2^j))⟩,⟨4,38,ptrH,RMA rm0⟩,⟨5,38,ptrH,QMA 67117057 (powQ m (s))⟩] a w) (x) ?_ ?_
 ·exact ⟨x,0,0,⟨rfl,by omega,by omega,by decide⟩,St.wkL (St.wkL hst 0 rfl (zkl (k:=1) hm zd (one_mul' m).symm)) 2 rfl (zkl (k:=0) hm zd rfl)⟩
 intro n a w hI
 obtain ⟨e,j,s,⟨hn,he,hs,hs2⟩,hst⟩:=hI
 subst hn
 refine wp_seq ?_
 refine wp_seq ?_
 refine gl (sts:=[none,none,none]) (news:=[]) (sp:=[.val 7 _,.val 8 _]) [.g 0,.o 1] hst (zv rfl (za2 (gq 0 rfl)) (zv rfl (zex (vq 0 rfl) za3) o0)) (fun a w hst=>?_)
 have hst:St B w0 21 [(1,_),(8,_)] [⟨2,38,ptrH,_⟩,⟨4,38,ptrH,_⟩,⟨5,38,ptrH,_⟩] a w:=hst
 refine za0 ?_
 refine zaa hst (zm 1 rfl) (fun hb0=>?_) (fun hb0=>?_)
 ·have h0:0<n:=by have:=of_decide_eq_true hb0; omega
  have hj:=p_lt he hx h0
  have h4:n≤4096:=by have:n*1≤n*2^j:=Nat.mul_le_mul_left _ Nat.one_le_two_pow; omega
  refine wp_skip ?_
  refine zt ?_
  refine wp_block ?_
  refine wp_seq ?_
  refine wp_seq ?_
  refine gl (sts:=[none,none,none]) (news:=[]) (sp:=[.val 11 _,.val 12 _,.val 13 _]) [.g 0,.o 2] hst (zv rfl (za2 (gq 0 rfl)) (zv rfl (r_band (vq 0 rfl) za3 (e_bit h4)) (zv rfl (zbs (vq 1 rfl) za3) o0))) (fun a w hst=>?_)
  have hst:St B w0 21 [(1,_),(13,_)] [⟨2,38,ptrH,_⟩,⟨4,38,ptrH,_⟩,⟨5,38,ptrH,_⟩] a w:=hst
  refine za0 ?_
  refine zd7 (fun a w=>∃ s':Nat,(n/2*2^(j+1)+s'=x∧s'≤x∧s'<2^(j+1))∧St B w0 21 [(1,In (n:Nat))] [⟨2,38,ptrH,QMA 67117057 (powQ m (2^j))⟩,⟨4,38,ptrH,RMA rm0⟩,⟨5,38,ptrH,QMA 67117057 (powQ m (s'))⟩] a w) hst (zm 1 rfl) (fun hb1=>?_) (fun hb1=>?_) (fun a w hst=>?_)
  ·refine gl (sts:=[none,none,some (3,_)]) (news:=[]) (sp:=[.val 14 _,.val 15 _,.val 16 _,.sto 2]) [.g 0] hst (zv rfl (zab (lz0 2 rfl) zat) (zv rfl (zab (lz0 0 rfl) zat) (zv rfl (za5 (xs:=[.tmp 14,.tmp 15]) (zei (m:=powQ m _) (q:=powQ m _) zo) (.cons (vq 0 rfl) (.cons (vq 1 rfl) .nil))) (oc (zad rfl rfl rfl (vq 2 rfl) zat (Eq.trans (b:=16) rfl rfl)) o0)))) (fun a w hst=>?_)
   have hst:St B w0 21 [(1,_)] [⟨2,38,ptrH,_⟩,⟨4,38,ptrH,_⟩,⟨5,38,ptrH,_⟩] a w:=hst
   refine za0 ?_
   have hst:=St.sel hst [0]
   have h1:n%2=1:=by have:=hb1; simp at this; omega
   have h2:=p_odd he h1
   exact ⟨s+2^j,⟨h2,by omega,by rw [Nat.pow_succ]; omega⟩,St.wkL hst 2 rfl (zkl hm zo (pow_add m s (2^j)))⟩
  ·refine wp_skip ?_
   refine za0 ?_
   have hst:=St.sel hst [0]
   have h1:n%2=0:=by have:=hb1; simp at this; omega
   exact ⟨s,⟨p_even he h1,hs,by rw [Nat.pow_succ]; omega⟩,hst⟩
  obtain ⟨s',hs',hst⟩:=hst
  refine za0 ?_
  refine gl (sts:=[some (3,_),none,none]) (news:=[]) (sp:=[.val 17 _,.val 18 _,.val 19 _,.sto 0]) [.g 0] hst (zv rfl (zab (lz0 0 rfl) zat) (zv rfl (zab (lz0 0 rfl) zat) (zv rfl (za5 (xs:=[.tmp 17,.tmp 18]) (zei (m:=powQ m _) (q:=powQ m _) zo) (.cons (vq 0 rfl) (.cons (vq 1 rfl) .nil))) (oc (zad rfl rfl rfl (vq 2 rfl) zat (Eq.trans (b:=16) rfl rfl)) o0)))) (fun a w hst=>?_)
  have hst:St B w0 21 [(1,_)] [⟨2,38,ptrH,_⟩,⟨4,38,ptrH,_⟩,⟨5,38,ptrH,_⟩] a w:=hst
  refine zan ?_
  refine za0 ?_
  refine gl (sts:=[none,none,none]) (news:=[]) (sp:=[.val 9 _,.val 10 _,.val 1 _]) [.o 2] hst (zv rfl (za2 (gq 0 rfl)) (zv rfl (zfs (vq 0 rfl) (zb0 1 rfl) zd (e_half h4)) (zv rfl (za1 (vq 1 rfl)) o0))) (fun a w hst=>?_)
  have hst:St B w0 21 [(1,_)] [⟨2,38,ptrH,_⟩,⟨4,38,ptrH,_⟩,⟨5,38,ptrH,_⟩] a w:=hst
  refine za0 ?_
  have hst:=St.sel hst [0]
  exact ⟨n/2,by omega,n/2,j+1,s',⟨rfl,hs'.1,hs'.2.1,hs'.2.2⟩,St.wkL hst 0 rfl (zkl (k:=2^(j+1)) hm (by rw [Nat.pow_succ]; omega) (p_dbl m j))⟩
 ·have h0:n=0:=by have:=of_decide_eq_false hb0; omega
  have hsx:s=x:=by rw [h0] at he; omega
  rw [hsx] at hst
  refine wp_exit ?_
  refine zae ?_
  refine zae ?_
  refine zaw ?_
  refine zt<|gl (sts:=[none,some (1,_),none]) (news:=[]) (sp:=[.val 20 _,.sto 1]) [] hst (zv rfl (zab (lz0 2 rfl) zat) (oc (zad rfl rfl rfl (vq 0 rfl) zat (Eq.trans (b:=16) rfl rfl)) o0)) (fun a w hst=>?_)
  have hst:St B w0 21 [] [⟨2,38,ptrH,_⟩,⟨4,38,ptrH,_⟩,⟨5,38,ptrH,_⟩] a w:=hst
  refine za0 ?_
  refine wp_ret ?_
  refine zag ?_ (zau rfl hst (zm 1 rfl) zat)
  exact zb2
end Go.Proofs.YtagabklfjmchaaaGreat
namespace Go.Proofs.YtagabklfjmchaaaGreat
open Go Go.RowKit
def fiO (m:RM)(r:RR):Bool:=okM m&&[r.y,r.u].all okX
theorem fiO_ok {m:RM}{r:RR}(h:(!fiO m r)=false):okM m=true∧[r.y,r.u].all okX=true:=by
 have h':fiO m r=true:=by simpa using h
 unfold fiO at h'
 rw [Bool.and_eq_true] at h'
 exact h'
theorem fine_c (m:RM)(r:RR):Cn Tryz.prog 56 [(RMA m).va,(RRA r).va] (Bo (fiO m r)):=by
 refine Cn.intro Tryz.func56 rfl zk nq (fun B w0 a hst=>?_)
 have hst:St B w0 15 [(0,(RMA m).va),(1,(RRA r).va)] [] a w0.w:=hst
 refine wp_seq ?_
 refine gl (sts:=[]) (news:=[⟨2,38,ptrH,some 0,_,none⟩,⟨3,29,ptrH,some 1,_,none⟩]) (sp:=[.alc 0,.alc 1,.val 4 _]) [.o 2] hst (oc (zam rfl rfl rfl (gq 0 rfl)) (oc (zam rfl rfl rfl (gq 1 rfl)) (zv rfl (za1 zbk) o0))) (fun a w hst=>?_)
 have hst:St B w0 15 [(4,_)] [⟨2,38,ptrH,_⟩,⟨3,29,ptrH,_⟩] a w:=hst
 refine zt<|gl (sts:=[none,none]) (news:=[]) (sp:=[.val 5 _,.val 6 _,.val 7 _,.adr 8 3 (.some 0) (_=true),.val 9 (Wh (_=true) _),.adr 10 3 (.some 4) (_=true),.val 11 (Wh (_=true) _),.val 12 (Wh (_=true) _),.val 13 (Wh (_=true) _),.val 14 _,.val 4 _]) [.o 10] hst (zv rfl (zab (lz0 0 rfl) zat) (zv rfl (za5 (xs:=[.tmp 5]) (zhr m) (.cons (vq 0 rfl) .nil)) (zv rfl (za2 (vq 1 rfl)) (oc (zc8 rfl rfl rfl (vq 2 rfl) nq (fun hg=>za7 (lz0 1 rfl) zeq)) (oc (zal rfl rfl rfl (vq 2 rfl) nq (fun hg=>za4 3 rfl zk hg (lz0 1 rfl) (Sub.part 0 rfl rfl) za9)) (oc (zc8 rfl rfl rfl (vq 2 rfl) nq (fun hg=>za7 (lz0 1 rfl) zep)) (oc (zal rfl rfl rfl (vq 2 rfl) nq (fun hg=>za4 5 rfl zk hg (lz0 1 rfl) (Sub.part 1 rfl rfl) za9)) (oc (zal rfl rfl rfl (vq 2 rfl) nq (fun hg=>zc5 (D:=[U32]) (l:=[_,_]) (xs:=[.tmp 9,.tmp 11]) (zdh zk) zcz zk (n_ok zk) nq nq nq (.cons (zaf (vq 4 rfl) hg) (.cons (zaf (vq 6 rfl) hg) .nil)) rfl rfl)) (oc (zal rfl rfl rfl (vq 2 rfl) nq (fun hg=>za5 (xs:=[.tmp 12]) (zfk [r.y,r.u] nq) (.cons (zaf (vq 7 rfl) hg) .nil))) (zv rfl (zc9 (vq 2 rfl) (vq 8 rfl)) (zv rfl (za1 (vq 9 rfl)) o0))))))))))) (fun a w hst=>?_)
 have hst:St B w0 15 [(4,_)] [⟨2,38,ptrH,_⟩,⟨3,29,ptrH,_⟩] a w:=hst
 refine za0 ?_
 refine wp_ret ?_
 refine zag ?_ (zaj rfl hst (zm 0 rfl))
 exact zb2
end Go.Proofs.YtagabklfjmchaaaGreat
namespace Go.Proofs.YtagabklfjmchaaaGreat
open Go Go.RowKit
def SlN (gs:List Nat)(E:TypeId)(D:List TypeId)(l:List As):As where
 n:=1
 ag:=false
 p B cs w:=(SlA E D l).p B cs w∧∀ v∈cs,∀ g,blk v=some g→g ∉ gs
 deps:=E::D
 len:=fun B cs w h=>(SlA E D l).len B cs w h.1
 one:=fun B cs w h=>(SlA E D l).one B cs w h.1
 ag1:=fun _=>rfl
 cg:=fun B cs w w' hg h=>⟨(SlA E D l).cg B cs w w' hg h.1,h.2⟩
 wr:=fun B cs w w' g c T fz h1 h2 h3 h4 h=>⟨(SlA E D l).wr B cs w w' g c T fz h1 h2 h3 h4 h.1,h.2⟩
theorem slN_sl {gs:List Nat}{E:TypeId}{D:List TypeId}{l:List As}:Wk (SlN gs E D l).va (SlA E D l).va:=fun _ _ _ ⟨cs,h,e⟩=>⟨cs,h.1,e⟩
theorem zf6 {R:Rg}{B i:Nat}{w0:Bs}{x:Operand}{gs:List Nat}{E:TypeId}{D:List TypeId}{l:List As}(h:Has R B w0 i x (SlN gs E D l).va):Has R B w0 i x (SlA E D l).va:=fun a w av=>slN_sl _ _ _ (h a w av)
theorem slN_wr {gs:List Nat}{E T:TypeId}{D:List TypeId}{l:List As}{B g:Nat}{cs:List Value}{w w':World}{c:Array Value}{fz:Nat × Nat}(h:(SlN gs E D l).p B cs w)(hg:g∈gs)(hc:w.heap[g]?=some (.cells c T fz))(hT:T ∉ D)(hB:B≤g)(hW:Wr g w w'):(SlN gs E D l).p B cs w':=by
 obtain ⟨⟨hD,A,cp,ds,rfl,h1,h2,h3,h4⟩,hn⟩:=h
 refine ⟨⟨hD,A,cp,ds,rfl,h1,h2,(cat l).wr _ _ _ _ _ _ _ _ hc (zgx hD hT) hB hW h3,fun h0=>?_⟩,hn⟩
 obtain ⟨b,o,rfl,h6,h7,h8⟩:=h4 h0
 have hne:b≠g:=fun e=>hn _ (List.mem_singleton.2 rfl) b rfl (e▸hg)
 refine ⟨b,o,rfl,by rw [hW.size]; exact h6,?_,fun j v hv=>?_⟩
 ·rcases h7 with h7 | ⟨c',fz',h7⟩
  ·exact .inl h7
  ·exact .inr ⟨c',fz',(hW.block b hne).trans h7⟩
 ·rw [← h8 j v hv]
  simp only [World.cell?,hW.block b hne]
section
variable {P:Program} {R:Rg} {Q:Exit→Act→World→Prop} {B i:Nat} {w0:Bs}
theorem zkk {c s:Nat}{g:Nat}{f:FuncId}{xs:List Operand}{As':List VA}{A PT:VA}{at_:Array TypeId}(hc:Cn P f (As'++[PT]) A)(hv:Has R B w0 i (.tmp c) (EqA (.func (.func f) #[] #[ptr g])).va)(hs:Has R B w0 i (.tmp s) (EqV (ptr g)))(hp:Has R B w0 i (.tmp s) PT)(hx:HasL R B w0 i xs As'):Wv P Q R B w0 i (.call ⟨.value (.tmp c),xs.toArray,at_⟩) A:=by
 intro d T ps af gd a w av K hK
 obtain ⟨⟨fn,hf,hn,hb⟩,hcall⟩:=hc
 have ev:a.eval (.tmp c)=.func (.func f) #[] #[ptr g]:=eqA_va (hv a w av)
 have es:a.eval (.tmp s)=ptr g:=hs a w av
 have hrun:(execOp a.eval ⟨some d,.call ⟨.value (.tmp c),xs.toArray,at_⟩,T,ps,af,gd⟩).run P w=.ok (.enter f (xs.map a.eval++[ptr g]).toArray) w:=by
  simp only [execOp,resolve,ev,Deferred.ofValue,Sem.run_bind,Sem.run_pure,Result.andThen_ok,invoke,zbj hf hn hb]
  simp
 have hall:All2 (fun (A:VA) v=>A.p B v w) (As'++[PT]) (xs.map a.eval++[ptr g]):=by
  have h1:=hx.all av
  have h2:PT.p B (ptr g) w:=by rw [← es]; exact hp a w av
  clear hcall hx hrun
  generalize xs.map a.eval=vs at *
  induction h1 with
  | nil=>exact .cons h2 .nil
  | cons h _ ih=>exact .cons h ih
 unfold Oper.wp
 rw [hrun]
 exact (hcall B w _ (Av.bw av) hall).mono fun e w' ⟨v,he,hv,hg⟩=>by subst he; exact hK v w' hg hv
end
section
variable {P:Program} {R:Rg} {Q:Exit→Act→World→Prop} {B i:Nat} {w0:Bs}
theorem r_sliceX {gs:List Nat}{S E:TypeId}{D:List TypeId}{l:List As}{m:Nat}{xs:List Operand}(hgs:∀ g∈gs,g<w0.w.heap.size)(hD:∀ A∈l,∀ T∈A.deps,T∈D)(hS:Sl P S E m)(hz:((P.info? E).bind (·.zero)).isSome=true)(hm:∀ A∈l,A.n=m)(hm0:0<m)(hl0:0<l.length)(hsmall:l.length*m≤16777216)
  (hx:All2 (fun (A:As) x=>Has R B w0 i x A.va) l xs) {ps':Array (Nat × Operand)} (hps:ps'.toList=(xs.zipIdx 0).map fun x=>(x.2,x.1)) {n:Nat} (hn:n=l.length):Wv P Q R B w0 i (.buildSlice S n ps') (SlN gs E D l).va :=
 zbe fun d T ps af gd a w av=>by
  subst hn
  obtain ⟨hs1,hs2⟩:=hS
  cases hi:P.info? E with
  | none=>rw [hi] at hs2; simp at hs2
  | some it =>
   rw [hi] at hs2 hz
   have hsz:it.size=m:=by simpa using hs2
   obtain ⟨z,hzz⟩:=Option.isSome_iff_exists.1 hz
   simp only [Option.bind_some] at hzz
   have hvs:All2 (fun (A:As) v=>A.va.p B v w) l (xs.map a.eval):=by
    clear hps hm hl0 hsmall hD
    induction hx with
    | nil=>exact .nil
    | cons h _ ih=>exact .cons (h a w av) ih
   have hlen:=hvs.length
   have hvn:∀ v∈xs.map a.eval,v.cells.size=m:=by
    intro v hv
    obtain ⟨k,hk⟩:=List.getElem?_of_mem hv
    have hkl:k<l.length:=by rw [hlen]; exact (List.getElem?_eq_some_iff.1 hk).1
    obtain ⟨v',hv',cs,hp,he⟩:=hvs.get (List.getElem?_eq_getElem hkl)
    rw [hk] at hv'
    injection hv' with hv'
    subst hv'
    rw [he,As.cells_shape _ hp]
    have:=As.len _ _ _ _ hp
    simp [this]
    exact hm _ (by simp)
   have hf:=Great.fill_whole hm0 (xs.map a.eval) ((Array.range (l.length*m)).map (z.cells[· % z.cells.size]!)) hvn (by simp [hlen])
   have hrun:=run_buildSlice (P:=P) w S E l.length (ps'.map fun x=>(x.1,a.eval x.2)) ((xs.map a.eval).flatMap fun v=>v.cells.toList).toArray it z hs1 hi hzz (by rw [hsz]; omega) (by rw [hsz]; exact Nat.ne_of_gt (Nat.mul_pos hl0 hm0)) (by
    rw [hsz,← hf]
    congr 1
    rw [Array.toList_map,hps]
    simp [List.zipIdx_map,List.map_map,Function.comp_def])
   refine ⟨.slice (some ⟨w.heap.size,0,none⟩) l.length l.length,w.alloc (.cells ((xs.map a.eval).flatMap fun v=>v.cells.toList).toArray E),?_,Grow.alloc _ _,_,⟨⟨hD,_,_,_,rfl,Nat.le_refl _,?_,(cat l).grow _ _ _ _ (Grow.alloc _ _) (zg0 hvs),fun _=>?_⟩,fun v hv g hg hm=>?_⟩,rfl⟩
   ·simp [execOp,hrun]
   ·have:l.length≤l.length*m:=Nat.le_mul_of_pos_right _ hm0
    unfold maxLen
    omega
   ·refine ⟨w.heap.size,0,rfl,by simp,.inr ⟨_,_,heap_alloc_new w _⟩,fun j v hv=>?_⟩
    rw [Nat.zero_add,cell_of_row _ _ _ _ _ _ (heap_alloc_new w _)]
    simpa using hv
   ·obtain rfl:=List.mem_singleton.1 hv
    have e0:w.heap.size=g:=by simpa [blk] using hg
    have h1:=hgs g hm
    have h2:=av.base.size
    omega
end
def CellV (T:TypeId)(A:As):VA where
 p B v w:=∃ g cs,v=ptr g∧w.heap[g]?=some (.cells (List.toArray cs) T (0,0))∧A.p B cs w
 deps:=T::A.deps
 cg:=fun B v w w' hg ⟨g,cs,e,h1,h2⟩=>⟨g,cs,e,hg.heap h1,A.cg _ _ _ _ hg h2⟩
 wr:=by
  rintro B v w w' g c T' fz hc hT hB hW ⟨g',cs,e,h1,h2⟩
  simp only [List.mem_cons,not_or] at hT
  refine ⟨g',cs,e,?_,A.wr _ _ _ _ _ _ _ _ hc hT.2 hB hW h2⟩
  rw [hW.block g' (fun e=>by subst e; rw [hc] at h1; injection h1 with h1; injection h1 with _ h1 _; exact hT.1 h1)]
  exact h1
def NmIx (G G2:List (Nat × VA)):List Lc→List (Nat × Nat)→Prop
 | [],[]=>True
 | m::ms,(x,y)::ix=>(∃ g,G[x]?=some (m.s,EqV (ptr g))∧G2[y]?=some (m.s,EqV (ptr g)))∧NmIx G G2 ms ix
 | _,_=>False
theorem NmIx.eq {G G2:List (Nat × VA)}{L:List Lc}{ix:List (Nat × Nat)}(h:NmIx G G2 L ix){B N:Nat}{w0:Bs}{L1 L2:List Lc}{a a':Act}{w w':World}(h1:St B w0 N G L1 a w)(h2:St B w0 N G2 L2 a' w'):∀ m∈L,a'.eval (.tmp m.s)=a.eval (.tmp m.s):=by
 induction L generalizing ix with
 | nil=>intro m hm; cases hm
 | cons m L ih =>
  cases ix with
  | nil=>exact h.elim
  | cons p ix =>
   obtain ⟨⟨g,e1,e2⟩,h3⟩:=h
   intro m' hm
   rcases List.mem_cons.1 hm with rfl | hm
   ·have q1:a.eval (.tmp m'.s)=ptr g:=h1.vals _ (List.mem_of_getElem? e1)
    have q2:a'.eval (.tmp m'.s)=ptr g:=h2.vals _ (List.mem_of_getElem? e2)
    rw [q1,q2]
   ·exact ih h3 m' hm
section
open Rg
variable {P:Program} {Q:Exit→Act→World→Prop} {B N:Nat} {w0:Bs} {Γ:List (Nat × VA)} {Λ:List Lc} {a:Act} {w:World}
theorem go_stXF {id:Nat}{ops:Array Oper}{o:Option Nat}{sp:List Sp}(n:Nat)(src:List Src)(kl:List Nat)(i1 i2 e kd k1 k2 ks:Nat)(src2:List Nat)(ix:List (Nat × Nat)){sx d gx s1 s2:Nat}{T ty T' T1 T2:TypeId}{A0 A A1 A2:As}{ps:String}{af:Array Edge}(hnd:noDefer ops=true)(hQ0:¬ LetsOut Q)
  (h:St B w0 N Γ Λ a w) (hl1:Λ[i1]?=some ⟨s1,T1,ptrH,A1⟩) (hl2:Λ[i2]?=some ⟨s2,T2,ptrH,A2⟩)
  (hob:Obs P Q ⟨ops,N,Γ++[(s1,CellV T1 A1),(s2,CellV T2 A2)],lesS (kl.filterMap fun k=>Λ[k]?) e n A,sp,fun i=>List.range i⟩ B w0 0 n) (hsz:ops.size=n+1) (hk:Rg.chk ⟨ops,N,Γ++[(s1,CellV T1 A1),(s2,CellV T2 A2)],lesS (kl.filterMap fun k=>Λ[k]?) e n A,sp,fun i=>List.range i⟩=true)
  (hsrc:src.all (fun s=>match s with | .g k=>(match (Γ++[(s1,CellV T1 A1),(s2,CellV T2 A2)])[k]? with | some x=>Rg.outG ⟨ops,N,Γ++[(s1,CellV T1 A1),(s2,CellV T2 A2)],lesS (kl.filterMap fun k=>Λ[k]?) e n A,sp,fun i=>List.range i⟩ x.1 | none=>false) | .o i=>decide (i<n))=true)
  (ho:ops[n]?=some ⟨none,.store ty (.tmp sx) (.tmp d),T',ps,af,none⟩) {G2:List (Nat × VA)} (hG2:src.filterMap (takeS ⟨ops,N,Γ++[(s1,CellV T1 A1),(s2,CellV T2 A2)],lesS (kl.filterMap fun k=>Λ[k]?) e n A,sp,fun i=>List.range i⟩)=G2)
  (hd:G2[kd]?=some (d,A.va)) (hl:(kl.filterMap fun k=>Λ[k]?)[e]?=some ⟨sx,T,ptrH,A0⟩) (ht:Ty P ty A.n A.ag) (hn:A0.n=A.n) (hT:A.deps.contains T=false)
  (hsrc2:src2.all (fun k=>match G2[k]? with | some y => !y.2.deps.contains T | none=>false)=true) (hΛ:(kl.filterMap fun k=>Λ[k]?).zipIdx.all (fun x=>x.2==e || (x.1.s != sx && !x.1.A.deps.contains T))=true)
  (hks:G2[ks]?=some (sx,EqV (ptr gx))) (hk1:G2[k1]?=some (s1,CellV T1 A1)) (hk2:G2[k2]?=some (s2,CellV T2 A2)) (hix:NmIx Γ G2 Λ ix)
  (hs:(kl.filterMap fun k=>Λ[k]?).all (fun m=>m.s != s1&&m.s != s2)=true)
  (hr1:∀ cs w w' c fz,A1.p B cs w→w.heap[gx]?=some (.cells c T fz)→B≤gx→Wr gx w w'→A1.p B cs w') (hr2:∀ cs w w' c fz,A2.p B cs w→w.heap[gx]?=some (.cells c T fz)→B≤gx→Wr gx w w'→A2.p B cs w')
  (hQ:∀ a' w',St B w0 N (src2.filterMap fun k=>G2[k]?) ((kl.filterMap fun k=>Λ[k]?).set e ⟨sx,T,ptrH,A⟩++[⟨s1,T1,ptrH,A1⟩,⟨s2,T2,ptrH,A2⟩]) a' w'→Q .normal a' w'):(Code.region id ops false).wpIn (fw o) 0 P Q a w:=by
 have m1:=List.mem_of_getElem? hl1
 have m2:=List.mem_of_getElem? hl2
 obtain ⟨L2,hL2⟩:∃ L2,(kl.filterMap fun k=>Λ[k]?)=L2:=⟨_,rfl⟩
 have hsub:∀ l∈L2,l∈Λ:=fun l hl=>by
  rw [← hL2] at hl
  obtain ⟨k,_,hk⟩:=List.mem_filterMap.1 hl
  exact List.mem_of_getElem? hk
 rw [hL2] at hob hk hsrc hG2 hl hΛ hs hQ
 obtain ⟨R,hR⟩:∃ R:Rg,(⟨ops,N,Γ++[(s1,CellV T1 A1),(s2,CellV T2 A2)],lesS L2 e n A,sp,fun i=>List.range i⟩:Rg)=R:=⟨_,rfl⟩
 have hx:St B w0 N (Γ++[(s1,CellV T1 A1),(s2,CellV T2 A2)]) L2 a w:=by
  refine ⟨h.lo,h.defers,h.size,h.base,fun x hx=>?_,fun l hl=>h.locs l (hsub l hl),fun l hl m hm=>h.dis l (hsub l hl) m (hsub m hm)⟩
  rcases List.mem_append.1 hx with hx | hx
  ·exact h.vals x hx
  ·rcases List.mem_cons.1 hx with rfl | hx
   ·obtain ⟨g,cs,f1,_,f3,f4⟩:=h.locs _ m1
    exact ⟨g,cs,f1,f3,f4⟩
   ·obtain rfl:=List.mem_singleton.1 hx
    obtain ⟨g,cs,f1,_,f3,f4⟩:=h.locs _ m2
    exact ⟨g,cs,f1,f3,f4⟩
 refine Rg.linKF (R:=⟨ops,N,Γ++[(s1,CellV T1 A1),(s2,CellV T2 A2)],lesS L2 e n A,sp,fun i=>List.range i⟩) (m:=1) hnd hQ0 hsz rfl hk hx (fun y hy _=>(zds y hy).2.1) (fun i hi=>hob.all i zo zo) fun a1 w1 hinv=>?_
 rw [show List.range' n 1=[n] from rfl,wpOpsIn_cons]
 have hst:=zl2 (Λ:=L2) (fun l' hl'=>by
   obtain ⟨j,hj⟩:=List.getElem?_of_mem hl'
   exact ⟨_,List.mem_map.2 ⟨(l',j),List.mem_zipIdx_iff_getElem?.2 hj,rfl⟩⟩) (fun y hy i B' h1=>Nat.le_of_eq ((zds y hy).2.2 i B' h1).symm) hinv src hsrc
 rw [hG2] at hst
 have heq:=hix.eq h hst
 have hg:a1.eval (.tmp sx)=ptr gx:=hst.vals _ (List.mem_of_getElem? hks)
 obtain ⟨g1,c1,p1,p2,p3⟩:=hst.vals _ (List.mem_of_getElem? hk1)
 obtain ⟨g2,c2,r1,r2,r3⟩:=hst.vals _ (List.mem_of_getElem? hk2)
 have p1':a1.eval (.tmp s1)=ptr g1:=p1
 have r1':a1.eval (.tmp s2)=ptr g2:=r1
 have hdis:∀ l∈Λ,∀ m∈Λ,l.s≠m.s→blk (a1.eval (.tmp l.s))≠blk (a1.eval (.tmp m.s)):=fun l hl m hm hne=>by
  rw [heq l hl,heq m hm]
  exact h.dis l hl m hm hne
 have msx:=hsub _ (List.mem_of_getElem? hl)
 have hsx:=List.all_eq_true.1 hs _ (List.mem_of_getElem? hl)
 simp only [Bool.and_eq_true,bne_iff_ne] at hsx
 have n1:g1≠gx:=fun e=>hdis _ m1 _ msx (Ne.symm hsx.1) (by rw [p1',hg,e])
 have n2:g2≠gx:=fun e=>hdis _ m2 _ msx (Ne.symm hsx.2) (by rw [r1',hg,e])
 have hmay:∀ l∈Λ,∀ g,a1.eval (.tmp l.s)=ptr g→l.H=ptrH→w0.may g:=fun l hl g e hH=>by
  obtain ⟨g',_,f1,f2,_⟩:=h.locs l hl
  rw [heq l hl,f1,hH] at e
  have:g'=g:=by injection e with e; injection e with e; injection e with e
  rw [← this]
  exact f2
 refine zd1 hnd hQ0 (zkp (kd:=kd) (e:=e) src2 ho hst hd hl ht hn hT hsrc2 hΛ _ fun w' ⟨g,c,fz,q1,q2,q3,q4⟩ hst'=>hQ _ _ ⟨hst'.lo,hst'.defers,hst'.size,hst'.base,hst'.vals,fun m hm=>?_,fun m hm m' hm' hne=>?_⟩)
 ·have eg:g=gx:=by rw [hg] at q1; injection q1 with q1; exact q1.symm
  subst eg
  rcases List.mem_append.1 hm with hm | hm
  ·exact hst'.locs m hm
  ·rcases List.mem_cons.1 hm with rfl | hm
   ·exact ⟨g1,c1,p1',hmay _ m1 _ p1' rfl,(q4.block _ n1).trans p2,hr1 _ _ _ _ _ p3 q3 q2 q4⟩
   ·obtain rfl:=List.mem_singleton.1 hm
    exact ⟨g2,c2,r1',hmay _ m2 _ r1' rfl,(q4.block _ n2).trans r2,hr2 _ _ _ _ _ r3 q3 q2 q4⟩
 ·have hin:∀ m∈L2.set e ⟨sx,T,ptrH,A⟩++[(⟨s1,T1,ptrH,A1⟩:Lc),⟨s2,T2,ptrH,A2⟩],∃ l∈Λ,l.s=m.s:=fun m hm=>by
   rcases List.mem_append.1 hm with hm | hm
   ·rcases List.mem_or_eq_of_mem_set hm with hm | rfl
    ·exact ⟨m,hsub m hm,rfl⟩
    ·exact ⟨_,msx,rfl⟩
   ·rcases List.mem_cons.1 hm with rfl | hm
    ·exact ⟨_,m1,rfl⟩
    ·obtain rfl:=List.mem_singleton.1 hm
     exact ⟨_,m2,rfl⟩
  obtain ⟨l,h1,h2⟩:=hin m hm
  obtain ⟨l',h3,h4⟩:=hin m' hm'
  rw [← h2,← h4]
  exact hdis l h1 l' h3 (by rw [h2,h4]; exact hne)
end
theorem pair_c {g9:List Nat}{c1 c2 d1 d2:Nat}{x y u v:Int}(h1:c1+d1≤549755813888)(h2:c2+d2≤549755813888):Cn Tryz.prog 85 [Zs c1 x,Zs c2 y,ElP 114 (SlN g9 25 [U32] [ZA d1 u,ZA d2 v])] (Zs (max (c1+d1) (c2+d2)+1) (x*u+y*v)):=by
 refine Cn.intro Tryz.func85 rfl zk nq (fun B w0 a hst=>?_)
 have hst:St B w0 17 [(0,Zs c1 x),(1,Zs c2 y),(2,ElP 114 (SlN g9 25 [U32] [ZA d1 u,ZA d2 v]))] [] a w0.w:=hst
 refine wp_seq ?_
 refine gl (sts:=[]) (news:=[⟨3,25,ptrH,some 0,_,none⟩,⟨4,25,ptrH,some 1,_,none⟩,⟨5,25,ptrH,some 2,_,none⟩]) (sp:=[.alc 0,.alc 1,.alc 2]) [.g 2] hst (oc (zam rfl rfl rfl (gq 0 rfl)) (oc (zam rfl rfl rfl (gq 1 rfl)) (oc (zao rfl rfl rfl (Str.zero zbr)) o0))) (fun a w hst=>?_)
 have hst:St B w0 17 [(2,_)] [⟨3,25,ptrH,_⟩,⟨4,25,ptrH,_⟩,⟨5,25,ptrH,_⟩] a w:=hst
 refine zt<|zav (anc:=[[],[],[1],[1,2],[0,1,2,3],[],[],[6],[6,7],[0,1,2,3,4,5,6,7,8],[0,1,2,3,4,5,6,7,8,9],[0,1,2,3,4,5,6,7,8,9,10]]) (sts:=[none,none,some (11,_)]) (news:=[]) (sp:=[.val 6 _,.val 7 _,.val 8 _,.val 9 _,.val 10 _,.val 11 _,.val 12 _,.val 13 _,.val 14 _,.val 15 _,.val 16 _,.sto 2]) [] za6 hst (zv rfl (zab (lz0 0 rfl) zak) (zv rfl (zas (gq 0 rfl) zez) (zv rfl (zde ze5 (n_ok zk) (zf6 (vq 1 rfl)) (zb0 0 rfl) rfl) (zv rfl (zas (vq 2 rfl) zak) (zv rfl (za5 (xs:=[.tmp 6,.tmp 9]) (zbz zo zo) (.cons (vq 0 rfl) (.cons (vq 3 rfl) .nil))) (zv rfl (zab (lz0 1 rfl) zak) (zv rfl (zas (gq 0 rfl) zez) (zv rfl (zde ze5 (n_ok zk) (zf6 (vq 6 rfl)) (zb0 1 rfl) rfl) (zv rfl (zas (vq 7 rfl) zak) (zv rfl (za5 (xs:=[.tmp 11,.tmp 14]) (zbz zo zo) (.cons (vq 5 rfl) (.cons (vq 8 rfl) .nil))) (zv rfl (za5 (xs:=[.tmp 10,.tmp 15]) (ziy zo zo) (.cons (vq 4 rfl) (.cons (vq 9 rfl) .nil))) (oc (zad rfl rfl rfl (vq 10 rfl) zak (Eq.trans (b:=2) rfl rfl)) o0)))))))))))) zk zk zk zk (fun a w hst=>?_)
 have hst:St B w0 17 [] [⟨3,25,ptrH,_⟩,⟨4,25,ptrH,_⟩,⟨5,25,ptrH,_⟩] a w:=hst
 refine za0 ?_
 refine wp_ret ?_
 refine zag ?_ (zau rfl hst (zm 2 rfl) zak)
 exact zb2
abbrev I4:=Int × Int × Int × Int
def stepI (m:I4)(p:Int × Int):Int × Int:=(m.1*p.1+m.2.1*p.2,m.2.2.1*p.1+m.2.2.2*p.2)
def wkL (m:I4)(p:Int × Int):Nat→Int × Int
 | 0=>p
 | k+1=>stepI m (wkL m p k)
def wkD (q d:Int):Nat→Int
 | 0=>d
 | k+1=>wkD q d k*q
def bL (k:Nat):Nat:=10242+10243*k
def bD (k:Nat):Nat:=8194+8194*k
theorem sln_wk {gs:List Nat}{E:TypeId}{D:List TypeId}{l l':List As}(h:All2 WkA l l')(hD:∀ A∈l',∀ T∈A.deps,T∈D):WkA (SlN gs E D l) (SlN gs E D l'):=⟨rfl,rfl,fun B cs w hp=>⟨(sl_wk h hD).2.2 B cs w hp.1,hp.2⟩⟩
theorem wk_gs {P:Program}{l B:Nat}{Db Tc:List TypeId}{gs:List Nat}{Y:Nat→List VA}{inf:Bool}{M k:Nat}{J:Nat→World→Prop}{Jx:World→Prop}{w0:Bs}(hIt:ItH P l B Db Tc gs Y inf M J Jx)(hG:ItG B gs Tc J k w0):∀ g∈gs,g<w0.w.heap.size:=fun g hg=>by
 obtain ⟨c,T,fz,h1,_⟩:=hIt.ct k _ hG.j g hg
 exact (Array.getElem?_eq_some_iff.1 h1).1
theorem walk_it (gs:List Nat)(m:I4)(p:Int × Int)(q d:Int):ItCg Tryz.prog 86 [(114,SlN [gs.getD 1 0] 25 [U32] [ZA 10242 p.1,ZA 10242 p.2]),(25,ZA 8194 d),(98,EqA (.func (.func 85) #[] #[ptr (gs.getD 0 0)])),(114,SlN [gs.getD 1 0] 25 [U32] [ZA 10242 m.1,ZA 10242 m.2.1,ZA 10242 m.2.2.1,ZA 10242 m.2.2.2]),(25,ZA 8194 q)] gs (fun k=>[(cat [ZA (bL k) (wkL m p k).1,ZA (bL k) (wkL m p k).2]).va,Zs (bD k) (wkD q d k)]) true (4100) [25,U32]:=by
 refine ItCg.intro Tryz.func86 rfl zk nq (fun l B Db J Jx w0 a hgl hoff hIt hG hst=>?_)
 have hst:St B w0 33 [(0,EqV (.func (.yield l) #[] #[])),(1,EqV (ptr (gs.getD 0 0))),(2,EqV (ptr (gs.getD 1 0))),(3,EqV (ptr (gs.getD 2 0))),(4,EqV (ptr (gs.getD 3 0))),(5,EqV (ptr (gs.getD 4 0)))] [⟨1,114,ptrH,SlN [gs.getD 1 0] 25 [U32] [ZA 10242 p.1,ZA 10242 p.2]⟩,⟨2,25,ptrH,ZA 8194 d⟩,⟨3,98,ptrH,EqA (.func (.func 85) #[] #[ptr (gs.getD 0 0)])⟩,⟨4,114,ptrH,SlN [gs.getD 1 0] 25 [U32] [ZA 10242 m.1,ZA 10242 m.2.1,ZA 10242 m.2.2.1,ZA 10242 m.2.2.2]⟩,⟨5,25,ptrH,ZA 8194 q⟩] a w0.w:=hst
 have hg0:gs.getD 1 0∈gs:=by
  have h5:gs.length=5:=hgl
  have e:gs.getD 1 0=gs[1]:=by simp [List.getD,h5]
  rw [e]
  exact List.getElem_mem _
 have hg1:gs.getD 1 0∈[gs.getD 1 0]:=List.mem_singleton.2 rfl
 refine wpIn_block ?_
 have hst:=St.sel hst [0,1,2,3,4,5]
 refine wpIn_loop_ghost (fun n a w=>∃ (k:Nat) (w0:Bs),(n+k=4100∧ItG B gs [114,25,98,114,25] J k w0)∧St B w0 33 [(0,EqV (.func (.yield l) #[] #[])),(1,EqV (ptr (gs.getD 0 0))),(2,EqV (ptr (gs.getD 1 0))),(3,EqV (ptr (gs.getD 2 0))),(4,EqV (ptr (gs.getD 3 0))),(5,EqV (ptr (gs.getD 4 0)))] [⟨1,114,ptrH,SlN [gs.getD 1 0] 25 [U32] [ZA (bL k) (wkL m p k).1,ZA (bL k) (wkL m p k).2]⟩,⟨2,25,ptrH,ZA (bD k) (wkD q d k)⟩,⟨3,98,ptrH,EqA (.func (.func 85) #[] #[ptr (gs.getD 0 0)])⟩,⟨4,114,ptrH,SlN [gs.getD 1 0] 25 [U32] [ZA 10242 m.1,ZA 10242 m.2.1,ZA 10242 m.2.2.1,ZA 10242 m.2.2.2]⟩,⟨5,25,ptrH,ZA 8194 q⟩] a w) (4100) ?_ ?_
 ·exact ⟨0,w0,⟨rfl,hG⟩,hst⟩
 intro n a w hI
 obtain ⟨k,w0,⟨hn,hG⟩,hst⟩:=hI
 have hk:k<4100:=by
  rcases Nat.lt_or_ge k 4100 with h | h
  ·exact h
  ·have e:k=4100:=by omega
   subst e
   exact (hIt.inf' rfl _ hG.j).elim
 have hgs:∀ g∈[gs.getD 1 0],g<w0.w.heap.size:=fun g hg=>by
  obtain rfl:=List.mem_singleton.1 hg
  exact wk_gs hIt hG _ hg0
 refine wpIn_seq ?_
 refine wpIn_seq ?_
 refine go_yieldD1 (sp:=[.val 7 _,.val 8 _,.val 9 _,.val 10 _,.val 11 _,.val 12 VT]) [[],[],[1],[1,2],[],[0,1,2,3,4]] 5 [0,1,2,3,4,5] [(1,0),(2,1),(3,2),(4,3),(5,4)] za6 hst (zv rfl (za2 (gq 0 rfl)) (zv rfl (zab (lz0 0 rfl) zez) (zv rfl (r_arrp Tryz.underlying97 (zf6 (vq 1 rfl)) rfl nq) (zv rfl (zas (vq 2 rfl) ty_97) (zv rfl (zab (lz0 1 rfl) zak) o0))))) rfl zk (zib zk) zk zk rfl (vq 0 rfl) (.cons (vq 3 rfl) (.cons (vq 4 rfl) .nil)) hoff hIt hG hk ⟨rfl,⟨_,rfl⟩,⟨rfl,⟨_,rfl⟩,⟨rfl,⟨_,rfl⟩,⟨rfl,⟨_,rfl⟩,⟨rfl,⟨_,rfl⟩,trivial⟩⟩⟩⟩⟩ hgl zk zk zk zk (zd5 fun _ _ h=>h) nq (fun w0 a w hG hst hw0=>?_) (fun w0 a w hw0 hJx hst=>?_)
 ·have hst:St B w0 33 [(12,Bo true),(0,_),(1,_),(2,_),(3,_),(4,_),(5,_)] [⟨1,114,ptrH,_⟩,⟨2,25,ptrH,_⟩,⟨3,98,ptrH,_⟩,⟨4,114,ptrH,_⟩,⟨5,25,ptrH,_⟩] a w:=hst
  refine za0 ?_
  refine zfj hst (zm 0 rfl) (fun hb0=>?_) (fun hb0=>?_)
  ·have hgs:∀ g∈[gs.getD 1 0],g<w0.w.heap.size:=fun g hg=>by
    obtain rfl:=List.mem_singleton.1 hg
    exact wk_gs hIt hG _ hg0
   refine wpIn_skip ?_
   refine za0 ?_
   refine wpIn_block ?_
   refine wpIn_seq ?_
   refine go_drawF (anc:=[[],[],[1],[1,2],[],[4],[4,5],[0,1,2,3,4,5,6],[],[],[9],[9,10],[],[12],[12,13],[0,1,2,3,4,5,6,7,8,9,10,11,12,13,14],[0,1,2,3,4,5,6,7,8,9,10,11,12,13,14,15],[0,1,2,3,4,5,6,7,8,9,10,11,12,13,14,15,16]]) (sts:=[some (17,_),none,none,none,none]) (news:=[]) (sp:=[.val 13 _,.val 14 _,.val 15 _,.val 16 _,.val 17 _,.val 18 _,.val 19 _,.val 20 _,.val 21 _,.val 22 _,.val 23 _,.val 24 _,.val 25 _,.val 26 _,.val 27 _,.val 28 _,.val 29 _,.sto 0]) [.g 1,.g 2,.g 3,.g 4,.g 5,.g 6] za6 zk (zd5 fun _ _ h=>h) hst (zv rfl (zab (lz0 2 rfl) ty_98) (zv rfl (zab (lz0 3 rfl) zez) (zv rfl (zde ze5 (n_ok zk) (zf6 (vq 1 rfl)) (zb0 0 rfl) rfl) (zv rfl (zas (vq 2 rfl) zak) (zv rfl (zab (lz0 3 rfl) zez) (zv rfl (zde ze5 (n_ok zk) (zf6 (vq 4 rfl)) (zb0 1 rfl) rfl) (zv rfl (zas (vq 5 rfl) zak) (zv rfl (zkk (s:=1) (xs:=[.tmp 16,.tmp 19]) (pair_c (by unfold bL; omega) (by unfold bL; omega)) (vq 0 rfl) (gq 2 rfl) (zfy (lz0 0 rfl)) (.cons (vq 3 rfl) (.cons (vq 6 rfl) .nil))) (zv rfl (zab (lz0 2 rfl) ty_98) (zv rfl (zab (lz0 3 rfl) zez) (zv rfl (zde ze5 (n_ok zk) (zf6 (vq 9 rfl)) (zb0 2 rfl) rfl) (zv rfl (zas (vq 10 rfl) zak) (zv rfl (zab (lz0 3 rfl) zez) (zv rfl (zde ze5 (n_ok zk) (zf6 (vq 12 rfl)) (zb0 3 rfl) rfl) (zv rfl (zas (vq 13 rfl) zak) (zv rfl (zkk (s:=1) (xs:=[.tmp 24,.tmp 27]) (pair_c (by unfold bL; omega) (by unfold bL; omega)) (vq 8 rfl) (gq 2 rfl) (zfy (lz0 0 rfl)) (.cons (vq 11 rfl) (.cons (vq 14 rfl) .nil))) (zv rfl (r_sliceX (D:=[U32]) (l:=[_,_]) (xs:=[.tmp 20,.tmp 28]) hgs (zdh zk) ze5 zk (n_ok zk) nq nq nq (.cons (vq 7 rfl) (.cons (vq 15 rfl) .nil)) rfl rfl) (oc (zad rfl rfl rfl (vq 16 rfl) zez (Eq.trans (b:=1) rfl rfl)) o0)))))))))))))))))) zk zk zk zk (fun a w hst=>?_)
   have hst:St B w0 33 [(0,_),(1,_),(2,_),(3,_),(4,_),(5,_)] [⟨1,114,ptrH,_⟩,⟨2,25,ptrH,_⟩,⟨3,98,ptrH,_⟩,⟨4,114,ptrH,_⟩,⟨5,25,ptrH,_⟩] a w:=hst
   refine za0 ?_
   refine go_stXF (sp:=[.val 30 _,.val 31 _,.val 32 _,.sto 0]) 3 [.o 2,.g 0,.g 1,.g 2,.g 3,.g 4,.g 5,.g 6,.g 7] [1,2,4] 0 3 0 0 7 8 3 [1,2,3,4,5,6] [(1,2),(2,3),(3,4),(4,5),(5,6)] zk (zd5 fun _ _ h=>h) hst rfl rfl (zv rfl (zab (lz0 0 rfl) zak) (zv rfl (zab (lz0 2 rfl) zak) (zv rfl (za5 (xs:=[.tmp 30,.tmp 31]) (zbz (by unfold bD; omega) zo) (.cons (vq 0 rfl) (.cons (vq 1 rfl) .nil))) o0))) rfl zk zk rfl rfl rfl rfl zak rfl rfl zk zk rfl rfl rfl ⟨⟨_,rfl,rfl⟩,⟨_,rfl,rfl⟩,⟨_,rfl,rfl⟩,⟨_,rfl,rfl⟩,⟨_,rfl,rfl⟩,trivial⟩ zk (fun cs w w' c fz q1 q2 q3 q4=>slN_wr q1 hg1 q2 zd q3 q4) (fun cs w w' c fz q1 q2 q3 q4=>slN_wr q1 hg1 q2 zd q3 q4) (fun a w hst=>?_)
   have hst:=St.selL hst [3,0,1,4,2]
   have hst:St B w0 33 [(0,_),(1,_),(2,_),(3,_),(4,_),(5,_)] [⟨1,114,ptrH,_⟩,⟨2,25,ptrH,_⟩,⟨3,98,ptrH,_⟩,⟨4,114,ptrH,_⟩,⟨5,25,ptrH,_⟩] a w:=hst
   refine zan ?_
   refine za0 ?_
   have hst:=St.sel hst [0,1,2,3,4,5]
   exact ⟨n-1,by omega,k+1,w0,⟨by omega,hG⟩,St.wkL (St.wkL hst 0 rfl (sln_wk (.cons (zdl (by unfold bL; omega)) (.cons (zdl (by unfold bL; omega)) .nil)) (zdh zk))) 1 rfl (zdl (by unfold bD; omega))⟩
  ·cases hb0
 ·have hst:St B w0 33 [(12,Bo false)] [] a w:=hst
  refine za0 ?_
  refine zfj hst (zm 0 rfl) (fun hb1=>?_) (fun hb1=>?_)
  ·cases hb1
  ·refine wpIn_exit ?_
   refine zae ?_
   refine zae ?_
   refine zaw ?_
   refine ze7 ?_
   exact it_stop rfl hst hw0 hIt hJx
end Go.Proofs.YtagabklfjmchaaaGreat
namespace Go.Proofs.YtagabklfjmchaaaGreat
open Go Go.RowKit
def SlL (b:Nat)(E:TypeId)(D:List TypeId)(l:List As):As where
 n:=1
 ag:=false
 p B cs w:=(SlA E D l).p B cs w∧∀ v∈cs,∀ g,blk v=some g→g<b
 deps:=E::D
 len:=fun B cs w h=>(SlA E D l).len B cs w h.1
 one:=fun B cs w h=>(SlA E D l).one B cs w h.1
 ag1:=fun _=>rfl
 cg:=fun B cs w w' hg h=>⟨(SlA E D l).cg B cs w w' hg h.1,h.2⟩
 wr:=fun B cs w w' g c T fz h1 h2 h3 h4 h=>⟨(SlA E D l).wr B cs w w' g c T fz h1 h2 h3 h4 h.1,h.2⟩
theorem sl_lt {E:TypeId}{D:List TypeId}{l:List As}(h0:0<l.length){B b:Nat}{cs:List Value}{w:World}(hb:w.heap.size=b)(h:(SlA E D l).p B cs w):(SlL b E D l).p B cs w:=by
 refine ⟨h,?_⟩
 obtain ⟨_,A,c,ds,rfl,_,_,_,h4⟩:=h
 obtain ⟨b',o,rfl,h6,_⟩:=h4 h0
 intro v hv g hg
 obtain rfl:=List.mem_singleton.1 hv
 have:b'=g:=by simpa [blk] using hg
 omega
theorem slL_N {b g:Nat}{E:TypeId}{D:List TypeId}{l:List As}(hb:b≤g):WkA (SlL b E D l) (SlN [g] E D l):=⟨rfl,rfl,fun _ _ _ h=>⟨h.1,fun v hv g' hg hm=>by
 obtain rfl:=List.mem_singleton.1 hm
 have:=h.2 v hv _ hg
 omega⟩⟩
theorem St.slL {B N:Nat}{w0:Bs}{Γ:List (Nat × VA)}{Λ:List Lc}{a:Act}{w:World}(h:St B w0 N Γ Λ a w){s T:Nat}{H:Hd}{E:TypeId}{D:List TypeId}{l:List As}(i s':Nat)(hm:Λ[i]?=some ⟨s,T,H,SlA E D l⟩)(h0:0<l.length):∃ b,St B w0 N ((s',SizeGe b)::Γ) (Λ.set i ⟨s,T,H,SlL b E D l⟩) a w:=by
 have hin:∀ m∈Λ.set i ⟨s,T,H,SlL w.heap.size E D l⟩,∃ m'∈Λ,m'.s=m.s:=fun m hm'=>by
  rcases List.mem_or_eq_of_mem_set hm' with hm' | rfl
  ·exact ⟨m,hm',rfl⟩
  ·exact ⟨_,List.mem_of_getElem? hm,rfl⟩
 refine ⟨w.heap.size,h.lo,h.defers,h.size,h.base,fun x hx=>?_,fun m hm'=>?_,fun m h1 m' h2 hne=>?_⟩
 ·rcases List.mem_cons.1 hx with rfl | hx
  ·exact Nat.le_refl _
  ·exact h.vals x hx
 ·rcases List.mem_or_eq_of_mem_set hm' with hm' | rfl
  ·exact h.locs m hm'
  ·obtain ⟨g,cs,e1,e2,e3,e4⟩:=h.locs _ (List.mem_of_getElem? hm)
   exact ⟨g,cs,e1,e2,e3,sl_lt h0 rfl e4⟩
 ·obtain ⟨p,q1,q2⟩:=hin m h1
  obtain ⟨p',q3,q4⟩:=hin m' h2
  rw [← q2,← q4]
  exact h.dis p q1 p' q3 (by rw [q2,q4]; exact hne)
def ItB (b:Nat)(f:FuncId)(cf:List Nat→List (TypeId × As))(D:List TypeId)(hD:∀ gs,(ItV f (cf gs) gs).deps=D):VA where
 p B v w:=∃ gs,(ItV f (cf gs) gs).p B v w∧∀ g∈gs,b≤g
 deps:=D
 cg:=fun B v w w' hg ⟨gs,h1,h2⟩=>⟨gs,(ItV f (cf gs) gs).cg B v w w' hg h1,h2⟩
 wr:=fun B v w w' g c T fz h1 hT h3 h4 ⟨gs,h5,h6⟩=>⟨gs,(ItV f (cf gs) gs).wr B v w w' g c T fz h1 (by rw [hD gs]; exact hT) h3 h4 h5,h6⟩
def ItM (f:FuncId)(cf:List Nat→List (TypeId × As))(D:List TypeId)(hD:∀ gs,(ItV f (cf gs) gs).deps=D)(ns:List Nat):VA where
 p B v w:=∃ gs,(ItV f (cf gs) gs).p B v w∧∀ n∈ns,n ∉ gs
 deps:=D
 cg:=fun B v w w' hg ⟨gs,h1,h2⟩=>⟨gs,(ItV f (cf gs) gs).cg B v w w' hg h1,h2⟩
 wr:=fun B v w w' g c T fz h1 hT h3 h4 ⟨gs,h5,h6⟩=>⟨gs,(ItV f (cf gs) gs).wr B v w w' g c T fz h1 (by rw [hD gs]; exact hT) h3 h4 h5,h6⟩
def CapN (Γ:List (Nat × VA))(Λ:List Lc):List Nat→List (TypeId × As)→List Nat→List (Nat × Nat)→Prop
 | [],[],[],[]=>True
 | g::gs,c::cs,s::ss,(x,y)::ix=>(Γ[x]?=some (s,EqV (ptr g))∧Λ[y]?=some ⟨s,c.1,ptrH,c.2⟩)∧CapN Γ Λ gs cs ss ix
 | _,_,_,_=>False
theorem zk3 {B N:Nat}{w0:Bs}{Γ:List (Nat × VA)}{Λ:List Lc}{a:Act}{w:World}(h:St B w0 N Γ Λ a w):∀ {gs:List Nat} {cs:List (TypeId × As)} {ss:List Nat} {ix:List (Nat × Nat)},CapN Γ Λ gs cs ss ix →
  CapsOk B w cs gs∧(∀ g∈gs,w0.may g)∧∀ g∈gs,∃ s∈ss,∃ l∈Λ,l.s=s∧a.eval (.tmp s)=ptr g
 | [],[],[],[],_=>⟨.nil,(fun _ h=>by cases h),(fun _ h=>by cases h)⟩
 | g::gs,c::cs,s::ss,(x,y)::ix,hc=>by
  obtain ⟨⟨e1,e2⟩,h3⟩:=hc
  obtain ⟨i1,i2,i3⟩:=zk3 h h3
  have hn:a.eval (.tmp s)=ptr g:=h.vals _ (List.mem_of_getElem? e1)
  obtain ⟨g',ds,f1,f2,f3,f4⟩:=h.locs _ (List.mem_of_getElem? e2)
  have f1':a.eval (.tmp s)=ptr g':=f1
  have eg:g'=g:=by rw [hn] at f1'; injection f1' with f1'; injection f1' with f1'; injection f1' with f1'; exact f1'.symm
  subst eg
  refine ⟨.cons ⟨h.lo _ f2,ds,f3,f4⟩ i1,fun g hg=>?_,fun g hg=>?_⟩
  ·rcases List.mem_cons.1 hg with rfl | hg
   ·exact f2
   ·exact i2 g hg
  ·rcases List.mem_cons.1 hg with rfl | hg
   ·exact ⟨s,List.mem_cons_self,_,List.mem_of_getElem? e2,rfl,hn⟩
   ·obtain ⟨s',q1,q2⟩:=i3 g hg
    exact ⟨s',List.mem_cons_of_mem _ q1,q2⟩
 | [],_::_,_,_,h=>h.elim
 | [],[],_::_,_,h=>h.elim
 | [],[],[],_::_,h=>h.elim
 | _::_,[],_,_,h=>h.elim
 | _::_,_::_,[],_,h=>h.elim
 | _::_,_::_,_::_,[],h=>h.elim
theorem capN_nd {B N:Nat}{w0:Bs}{Γ:List (Nat × VA)}{Λ:List Lc}{a:Act}{w:World}(h:St B w0 N Γ Λ a w):∀ {gs:List Nat} {cs:List (TypeId × As)} {ss:List Nat} {ix:List (Nat × Nat)},CapN Γ Λ gs cs ss ix→ss.Nodup→gs.Nodup
 | [],_,_,_,_,_=>List.nodup_nil
 | g::gs,c::cs,s::ss,(x,y)::ix,hc,hn=>by
  obtain ⟨⟨e1,e2⟩,h3⟩:=hc
  obtain ⟨n1,n2⟩:=List.nodup_cons.1 hn
  refine List.nodup_cons.2 ⟨fun hm=>?_,capN_nd h h3 n2⟩
  obtain ⟨s',q1,l,q2,q3,q4⟩:=(zk3 h h3).2.2 g hm
  have hg:a.eval (.tmp s)=ptr g:=h.vals _ (List.mem_of_getElem? e1)
  refine h.dis _ (List.mem_of_getElem? e2) l q2 (fun e=>n1 ?_) ?_
  ·have e':s=l.s:=e
   rw [e',q3]; exact q1
  ·show blk (a.eval (.tmp s))=blk (a.eval (.tmp l.s))
   rw [q3,q4,hg]
 | _::_,[],_,_,h,_=>by simp [CapN] at h
 | _::_,_::_,[],_,h,_=>by simp [CapN] at h
 | _::_,_::_,_::_,[],h,_=>by simp [CapN] at h
theorem ret_it {P:Program}{fn:Func}{B N t:Nat}{w0:Bs}{Γ:List (Nat × VA)}{Λ:List Lc}{a:Act}{w:World}{f:FuncId}{cf:List Nat→List (TypeId × As)}{D:List TypeId}{hD:∀ gs,(ItV f (cf gs) gs).deps=D}(gs ss:List Nat)(ix:List (Nat × Nat))(hr:fn.results = #[.tmp t])(h:St B w0 N Γ Λ a w)(hF:∀ g,¬ w0.F g)
  (hm:(t,(EqA (.func (.func f) #[] (gs.map ptr).toArray)).va)∈Γ) (hc:CapN Γ Λ gs (cf gs) ss ix) (hs:ss.Nodup):bPost P fn (RQ B w0 (ItB w0.w.heap.size f cf D hD)) .ret a w :=
 zeu h fun w h=>by
  have h1:=zk3 h hc
  refine ⟨_,results_tmp hr a.tmps P w,_,rfl,⟨gs,⟨eqA_va (h.vals _ hm),capN_nd h hc hs,h1.1⟩,fun g hg=>?_⟩,h.base⟩
  rcases h1.2.1 g hg with q | q
  ·exact q
  ·exact absurd q (hF _)
theorem zk8:Zero Tryz.prog 114 (OwnC 25 2 [U32] []):=zero_own zk
theorem zero_fn:Zero Tryz.prog 98 (EqA .nilFunc):=Zero.of (z:=.nilFunc) zk (fun _ _=>⟨rfl,rfl⟩)
abbrev mI (m:MQ):I4:=((m.a.num*Int.tdiv (lqS [m.a,m.b,m.c,m.d] 4) (m.a.den:Int)),(m.b.num*Int.tdiv (lqS [m.a,m.b,m.c,m.d] 4) (m.b.den:Int)),(m.c.num*Int.tdiv (lqS [m.a,m.b,m.c,m.d] 4) (m.c.den:Int)),(m.d.num*Int.tdiv (lqS [m.a,m.b,m.c,m.d] 4) (m.d.den:Int)))
abbrev mq (m:MQ):Int:=lqS [m.a,m.b,m.c,m.d] 4
abbrev rI (r:YQ):Int × Int:=((r.y.num*Int.tdiv (lqS [r.y,r.u] 2) (r.y.den:Int)),(r.u.num*Int.tdiv (lqS [r.y,r.u] 2) (r.u.den:Int)))
abbrev rq (r:YQ):Int:=lqS [r.y,r.u] 2
def wkC (m:I4)(p:Int × Int)(q d:Int)(gs:List Nat):List (TypeId × As):=[(114,SlN [gs.getD 1 0] 25 [U32] [ZA 10242 p.1,ZA 10242 p.2]),(25,ZA 8194 d),(98,EqA (.func (.func 85) #[] #[ptr (gs.getD 0 0)])),(114,SlN [gs.getD 1 0] 25 [U32] [ZA 10242 m.1,ZA 10242 m.2.1,ZA 10242 m.2.2.1,ZA 10242 m.2.2.2]),(25,ZA 8194 q)]
abbrev wkDs:List TypeId:=[114,25,98,114,25,25,U32,U32,25,U32,U32]
theorem wk_D (m:I4)(p:Int × Int)(q d:Int):∀ gs,(ItV 86 (wkC m p q d gs) gs).deps=wkDs:=fun _=>rfl
theorem walk_c (m:MQ)(r:YQ):CnI Tryz.prog 58 [(QMA 2048 m).va,(QRA 2048 r).va] (fun b=>ItB b 86 (wkC (mI m) (rI r) (mq m) (rq r)) wkDs (wk_D _ _ _ _)):=by
 refine CnI.introF Tryz.func58 rfl zk nq (fun B w0 a hF0 hF hst=>?_)
 have hst:St B w0 37 [(0,(QMA 2048 m).va),(1,(QRA 2048 r).va)] [] a w0.w:=hst
 refine wp_seq ?_
 refine gl (sts:=[]) (news:=[⟨2,38,ptrH,some 0,_,none⟩,⟨3,29,ptrH,some 1,_,none⟩]) (sp:=[.alc 0,.alc 1,.val 4 _]) [.o 2] hst (oc (zam rfl rfl rfl (gq 0 rfl)) (oc (zam rfl rfl rfl (gq 1 rfl)) (zv rfl (za1 zc6) o0))) (fun a w hst=>?_)
 have hst:St B w0 37 [(4,_)] [⟨2,38,ptrH,_⟩,⟨3,29,ptrH,_⟩] a w:=hst
 refine zt<|gl (sts:=[none,none]) (news:=[]) (sp:=[.val 5 _]) [.g 0,.o 0] hst (zv rfl (za1 zfz) o0) (fun a w hst=>?_)
 have hst:St B w0 37 [(4,_),(5,_)] [⟨2,38,ptrH,_⟩,⟨3,29,ptrH,_⟩] a w:=hst
 refine zt<|zhf (sp:=[.val 12 _,.adr 13 2 (.some 0) True,.val 14 _,.adr 15 2 (.some 4) True,.val 16 _,.adr 17 2 (.some 8) True,.val 18 _,.adr 19 2 (.some 12) True,.val 20 _,.val 21 _,.val 22 _,.val 11 _,.val 23 _,.val 24 _,.alc 2,.alc 3,.sto 2,.sto 3]) 14 [.g 0,.g 1,.o 12,.o 13] 2 3 [0,1] hst (zv rfl (za2 (gq 1 rfl)) (oc (ob_a rfl rfl (za7 (lz0 0 rfl) zbc)) (zv rfl (za4 1 rfl zk trivial (lz0 0 rfl) (Sub.part 0 rfl rfl) za9) (oc (ob_a rfl rfl (za7 (lz0 0 rfl) zbi)) (zv rfl (za4 3 rfl zk trivial (lz0 0 rfl) (Sub.part 1 rfl rfl) za9) (oc (ob_a rfl rfl (za7 (lz0 0 rfl) zbh)) (zv rfl (za4 5 rfl zk trivial (lz0 0 rfl) (Sub.part 2 rfl rfl) za9) (oc (ob_a rfl rfl (za7 (lz0 0 rfl) zbf)) (zv rfl (za4 7 rfl zk trivial (lz0 0 rfl) (Sub.part 3 rfl rfl) za9) (zv rfl (zc5 (D:=[U32]) (l:=[_,_,_,_]) (xs:=[.tmp 14,.tmp 16,.tmp 18,.tmp 20]) (zdh zk) zcz zk (n_ok zk) nq nq nq (.cons (vq 2 rfl) (.cons (vq 4 rfl) (.cons (vq 6 rfl) (.cons (vq 8 rfl) .nil)))) rfl rfl) (zv rfl (r_callE (xs:=[.tmp 21]) (zkf [m.a,m.b,m.c,m.d] nq) (vq 0 rfl) (.cons (vq 9 rfl) .nil)) (zv rfl (za2 (vq 10 rfl)) (zv rfl (ze4 (vq 11 rfl)) (zv rfl (ze3 (vq 11 rfl)) o0)))))))))))))) rfl zk zk rfl rfl rfl rfl zk8 (Str.zero zbr) rfl rfl zez zak rfl rfl nq nq zk zk zk (fun a w hst=>?_)
 have hst:St B w0 37 [(4,_),(5,_)] [⟨2,38,ptrH,_⟩,⟨3,29,ptrH,_⟩,⟨6,114,ptrH,_⟩,⟨7,25,ptrH,_⟩] a w:=hst
 obtain ⟨b1,hst⟩:=St.slL hst 2 22 rfl nq
 have hst:St B w0 37 [(22,_),(4,_),(5,_)] [⟨2,38,ptrH,_⟩,⟨3,29,ptrH,_⟩,⟨6,114,ptrH,_⟩,⟨7,25,ptrH,_⟩] a w:=hst
 refine zt<|zjt (sp:=[.val 26 _,.adr 27 3 (.some 0) True,.val 28 _,.adr 29 3 (.some 4) True,.val 30 _,.val 31 _,.val 32 _,.val 25 _,.val 33 _,.val 34 _,.alc 4,.alc 5,.sto 4,.sto 5]) (fun b=>SlL b 25 [U32] ([r.y,r.u].map (ovA (lqS [r.y,r.u] 2)))) 10 [.g 0,.g 1,.o 8,.o 9] 2 3 0 [0,1] hst (zv rfl (za2 (gq 2 rfl)) (oc (ob_a rfl rfl (za7 (lz0 1 rfl) zeq)) (zv rfl (za4 1 rfl zk trivial (lz0 1 rfl) (Sub.part 0 rfl rfl) za9) (oc (ob_a rfl rfl (za7 (lz0 1 rfl) zep)) (zv rfl (za4 3 rfl zk trivial (lz0 1 rfl) (Sub.part 1 rfl rfl) za9) (zv rfl (zc5 (D:=[U32]) (l:=[_,_]) (xs:=[.tmp 28,.tmp 30]) (zdh zk) zcz zk (n_ok zk) nq nq nq (.cons (vq 2 rfl) (.cons (vq 4 rfl) .nil)) rfl rfl) (zv rfl (r_callE (xs:=[.tmp 31]) (zkf [r.y,r.u] nq) (vq 0 rfl) (.cons (vq 5 rfl) .nil)) (zv rfl (za2 (vq 6 rfl)) (zv rfl (ze4 (vq 7 rfl)) (zv rfl (ze3 (vq 7 rfl)) o0)))))))))) rfl zk zk rfl rfl rfl rfl (fun _ _ _ hb hp=>sl_lt nq hb hp) rfl zk8 (Str.zero zbr) rfl rfl zez zak rfl rfl nq nq zk zk zk (fun q8 a w hb9 hst=>?_)
 have hst:St B w0 37 [(8,_),(9,_),(22,_),(4,_)] [⟨2,38,ptrH,_⟩,⟨3,29,ptrH,_⟩,⟨6,114,ptrH,_⟩,⟨7,25,ptrH,_⟩,⟨8,114,ptrH,_⟩,⟨9,25,ptrH,_⟩] a w:=hst
 obtain ⟨q6,hst⟩:=St.nm hst 2 rfl
 obtain ⟨q7,hst⟩:=St.nm hst 3 rfl
 have hst:=St.wkL hst 4 rfl (slL_N (g:=q8+1) zo)
 have hst:=St.wkL hst 2 rfl (slL_N (g:=q8+1) zo)
 refine zt<|gl (sts:=[none,none,none,none,none,none]) (news:=[⟨10,98,ptrH,some 1,_,some (2,_)⟩]) (sp:=[.val 35 _,.alc 6,.sto 6]) [.g 0,.g 1,.g 2,.g 3,.g 4,.g 5] hst (zv rfl (zcp (xs:=[.tmp 8]) (vs:=[ptr q8]) (.cons (gq 2 rfl) .nil)) (oc (zao rfl rfl rfl zero_fn) (oc (zad rfl rfl rfl (vq 0 rfl) ty_98 (Eq.trans (b:=1) rfl rfl)) o0))) (fun a w hst=>?_)
 have hst:St B w0 37 [(7,_),(6,_),(8,_),(9,_),(22,_),(4,_)] [⟨2,38,ptrH,_⟩,⟨3,29,ptrH,_⟩,⟨6,114,ptrH,_⟩,⟨7,25,ptrH,_⟩,⟨8,114,ptrH,_⟩,⟨9,25,ptrH,_⟩,⟨10,98,ptrH,_⟩] a w:=hst
 refine zt ?_
 obtain ⟨q10,hst⟩:=St.nm hst 6 rfl
 refine gl (sts:=[none,none,none,none,none,none,none]) (news:=[]) (sp:=[.val 36 _,.val 4 _]) [.g 0,.g 1,.g 2,.g 3,.g 4,.g 5,.o 1] hst (zv rfl (zcp (xs:=[.tmp 8,.tmp 9,.tmp 10,.tmp 6,.tmp 7]) (vs:=[ptr q8,ptr (q8+1),ptr q10,ptr q6,ptr q7]) (.cons (gq 3 rfl) (.cons (gq 4 rfl) (.cons (gq 0 rfl) (.cons (gq 2 rfl) (.cons (gq 1 rfl) .nil)))))) (zv rfl (za1 (vq 0 rfl)) o0)) (fun a w hst=>?_)
 have hst:St B w0 37 [(10,_),(7,_),(6,_),(8,_),(9,_),(22,_),(4,_)] [⟨2,38,ptrH,_⟩,⟨3,29,ptrH,_⟩,⟨6,114,ptrH,_⟩,⟨7,25,ptrH,_⟩,⟨8,114,ptrH,_⟩,⟨9,25,ptrH,_⟩,⟨10,98,ptrH,_⟩] a w:=hst
 refine za0 ?_
 refine wp_ret ?_
 exact ret_it [q8,q8+1,q10,q6,q7] [8,9,10,6,7] [(3,4),(4,5),(0,6),(2,2),(1,3)] rfl hst hF0 (zm 6 rfl) ⟨⟨rfl,rfl⟩,⟨rfl,rfl⟩,⟨rfl,rfl⟩,⟨rfl,rfl⟩,⟨rfl,rfl⟩,trivial⟩ zd
end Go.Proofs.YtagabklfjmchaaaGreat
