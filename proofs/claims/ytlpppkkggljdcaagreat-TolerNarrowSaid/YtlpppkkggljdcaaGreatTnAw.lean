import Derived.Test.YtlpppkkggljdcaaGreatTnAa
import Derived.Test.YtlpppkkggljdcaaGreatTnAc
import Derived.Test.YtlpppkkggljdcaaGreatTnAv
import Derived.Laws.AppendOwn
import Derived.Laws.OwnMore
import Derived.Orders
set_option linter.unusedVariables false
set_option linter.unusedSimpArgs false
set_option linter.unusedSectionVars false
set_option maxRecDepth 100000
namespace Go.Proofs.YtlpppkkggljdcaaGreat
open Go Go.RowKit
def U8A (x:Nat):As:=(NumA .u8 (x:Nat)).and (x<256)
section
open Go.ChangeShapes Go.WideShapes Go.ChangeAt
variable {H:Type} {enc:TypeId × Value→H} {w:World} {base:Nat} {spare:Nat→Bool} {held:Bool} {fuel:Nat} {cs:List Value} {x:DataW H × List MemPlace}
theorem rd_u8 (h:DataW.trod enc Tryz.prog w base spare held fuel 5 cs=some x):∃ y,(U8A y).p w.heap.size cs w:=by
 obtain ⟨n,rfl,_,hw⟩:=DataW.trod_int Tryz.underlying5 h
 have h2:IntKind.u8.min≤n∧n≤IntKind.u8.max:=by simpa [Lit.wf] using hw
 have h3:0≤n∧n≤255:=h2
 refine ⟨n.toNat,⟨by omega,?_⟩⟩
 rw [Int.toNat_of_nonneg h3.1]
 rfl
end
theorem u8_num {x:Nat}:Wk (U8A x).va (NumA .u8 (x:Nat)).va:=fun _ _ _ h=>(zgc h).2
theorem u8_0 {x:Nat}(h:x=0):Wk (NumA .u8 0).va (U8A x).va:=fun B v w ⟨cs,hp,hv⟩=>by subst h; exact ⟨cs,⟨by decide,hp⟩,hv⟩
def btQ (g:RGp)(t:Nat):Rat:=toQ g.lo+(toQ g.hi-toQ g.lo)*Rat.divInt t 255
theorem do_ok {op:Rat→Rat→Option Rat}{x y:RF}{z:Rat}(hx:okX x=true)(hy:okX y=true)(ho:op (toQ x) (toQ y)=some z)(hz:longQ z=false):doF op x y=(rfOf z,0):=by
 unfold doF
 rw [hx,hy,ho]
 exact ansF_ok (longQ_false.1 hz)
theorem bQ_negT {k:Nat}{x:Rat}(h:bQ k x):bQ k (-x):=⟨by rw [Rat.neg_num,zf9]; exact h.1,by rw [Rat.neg_den]; exact h.2⟩
theorem bQ_subT {c d:Nat}{x y:Rat}(hx:bQ c x)(hy:bQ d y):bQ (c+d+1) (x-y):=by
 have e:x-y=x + -y:=by grind
 rw [e]
 exact zk9 hx (bQ_negT hy)
theorem bQ_t {t:Nat}(ht:t<256):bQ 2 (Rat.divInt t 255):=by
 obtain ⟨h1,h2⟩:=zdw (p:=(t:Int)) (q:=255) zd
 have h3:lz (t:Int)≤2:=lz_i64 zo zo
 have h4:lz 255≤2:=lz_i64 zd zd
 exact ⟨by omega,by omega⟩
theorem zih {r:Rat}(h:longQ r=false):okX (rfOf r)=true:=by rw [zh0,h]; rfl
theorem bt_b1 (g:RGp):bQ (szG g+1) (toQ g.hi-toQ g.lo):=by
 have h:=bQ_subT (bQ_sz (toQ g.hi)) (bQ_sz (toQ g.lo))
 unfold szG
 exact ⟨by have:=h.1; omega,by have:=h.2; omega⟩
theorem bt_b2 (g:RGp){t:Nat}(ht:t<256):bQ (szG g+3) ((toQ g.hi-toQ g.lo)*Rat.divInt t 255):=by
 have h:=bQ_mul (bt_b1 g) (bQ_t ht)
 exact ⟨by have:=h.1; omega,by have:=h.2; omega⟩
theorem bt_b (g:RGp){t:Nat}(ht:t<256):bQ (2*szG g+4) (btQ g t):=by
 have h:=zk9 (bQ_sz (toQ g.lo)) (bt_b2 g ht)
 have e:szQ (toQ g.lo)≤szG g:=by unfold szG; omega
 unfold btQ
 exact ⟨by have:=h.1; omega,by have:=h.2; omega⟩
theorem bt_s {g:RGp}(hm:mayG g=true)(hs:szG g≤400):subF g.hi g.lo=(rfOf (toQ g.hi-toQ g.lo),0):=by
 obtain ⟨h1,h2⟩:=ok_2 (zh4 hm)
 exact do_ok h2 h1 rfl (zde (bt_b1 g) zo)
theorem bt_m {g:RGp}{t:Nat}(ht:t<256)(hs:szG g≤400):mulF (rfOf (toQ g.hi-toQ g.lo)) (rfOf (Rat.divInt t 255))=(rfOf ((toQ g.hi-toQ g.lo)*Rat.divInt t 255),0) :=
 do_ok (zih (zde (bt_b1 g) zo)) (zih (zde (bQ_t ht) zd)) (by rw [zcy,zcy]) (zde (bt_b2 g ht) zo)
theorem bt_a {g:RGp}{t:Nat}(hm:mayG g=true)(ht:t<256)(hs:szG g≤400):addF g.lo (rfOf ((toQ g.hi-toQ g.lo)*Rat.divInt t 255))=(rfOf (btQ g t),0) :=
 do_ok (ok_2 (zh4 hm)).1 (zih (zde (bt_b2 g ht) zo)) (by rw [zcy]; rfl) (zde (bt_b g ht) zo)
theorem t_le {t:Nat}(ht:t<256):0≤Rat.divInt t 255∧Rat.divInt t 255≤1:=by
 have e:Rat.divInt t 255=(t:Rat)/255:=by rw [Rat.divInt_eq_div]; rfl
 have h0:(0:Rat)≤(t:Rat):=by exact_mod_cast Nat.zero_le t
 have h1:(t:Rat)≤255:=by exact_mod_cast (show t≤255 by omega)
 rw [e,Rat.div_def]
 have h2:(0:Rat)≤(255:Rat)⁻¹ := Rat.le_of_lt (Rat.inv_pos.2 zd)
 refine ⟨Rat.mul_nonneg h0 h2,?_⟩
 have h3:=Rat.mul_le_mul_of_nonneg_right h1 h2
 have e2:(255:Rat)*(255:Rat)⁻¹ = 1:=Rat.mul_inv_cancel 255 zd
 rw [e2] at h3
 exact h3
theorem bt_in {g:RGp}{t:Nat}(hm:mayG g=true)(ht:t<256)(hs:szG g≤400):InG g (rfOf (btQ g t)):=by
 have hl:=may_le hm
 obtain ⟨h0,h1⟩:=t_le ht
 refine ⟨zih (zde (bt_b g ht) zo),?_,?_⟩
 ·rw [zcy]
  have:=Rat.mul_nonneg (show 0≤toQ g.hi-toQ g.lo by grind) h0
  unfold btQ
  grind
 ·rw [zcy]
  have:=Rat.mul_le_mul_of_nonneg_left h1 (show 0≤toQ g.hi-toQ g.lo by grind)
  unfold btQ
  grind
def lieF (x:RF)(g:RGp):Bool:=decide (cmF g.lo x≤0)&&decide (cmF x g.hi≤0)
def okB8 (ts:List Nat):Prop:=∀ t∈ts,t<256
theorem zka {ts:List Nat}(h:okB8 ts)(i:Nat):ts.getD i 0<256:=by
 rw [List.getD_eq_getElem?_getD]
 cases hi:ts[i]? with
 | none=>decide
 | some t=>exact h t (List.mem_of_getElem? hi)
theorem el_repB {k:Int}{p q:Rat}{c d:Nat}(h:kOk k p q)(hp:bQ c p)(hq:bQ d q):RepM (c+d+1) (elQ k p q):=by
 unfold kOk at h
 rcases h with ⟨e,_⟩ | ⟨e,_⟩ | ⟨e,_,h0⟩ | e | ⟨e,_⟩ <;> subst e
 ·exact zbz (rep_b hp) zo
 ·exact zbz (rep_c (bQ_min hp)) zo
 ·exact zbz (rep_b (bQ_div hp hq (by grind))) zo
 ·exact zbz (rep_c (bQ_min (bQ_mul hp hq))) zo
 ·exact zbz rep_f zo
theorem zjp {xs:List RLo}{ys:List RE}(h:All2 (fun x y=>RepM (2*(szG x.p+szG x.q)+15) (elM y)) xs ys):RepM (2*sumL xs+1) (prodQ ys):=by
 induction h with
 | nil=>exact rep_1
 | @cons x y xs ys h1 _ ih =>
  rw [zgy]
  have e:sumL (x::xs)=(szG x.p+szG x.q+8)+sumL xs:=by simp [sumL]
  rw [e]
  exact zbz (rep_mul ih h1) zo
theorem co_b {g:RGp}{y:RF}(h:CoG g y):bQ (szG g) (toQ y):=by
 rcases h with rfl | rfl
 ·have:=bQ_sz (toQ g.lo)
  unfold szG
  exact ⟨by have:=this.1; omega,by have:=this.2; omega⟩
 ·have:=bQ_sz (toQ g.hi)
  unfold szG
  exact ⟨by have:=this.1; omega,by have:=this.2; omega⟩
theorem all2_mp {α β:Type}{R Q:α→β→Prop}{p:α→Prop}{l:List α}{m:List β}(h:All2 R l m)(hp:∀ x∈l,p x)(hk:∀ x y,p x→R x y→Q x y):All2 Q l m:=by
 induction h with
 | nil=>exact .nil
 | @cons x y xs ys h1 _ ih=>exact .cons (hk _ _ (hp x (by simp)) h1) (ih fun z hz=>hp z (by simp [hz]))
theorem co_k {x:RLo}{y:RE}(hx:loF x=true)(h:CoB x y):elF y=true:=by
 obtain ⟨ek,hp,hq⟩:=h
 obtain ⟨_,_,mp,mq⟩:=zhl hx
 have key:∀ {g:RGp} {y:RF},mayG g=true→CoG g y→InG g y:=fun {g y} hm hy=>by
  obtain ⟨h1,h2⟩:=ok_2 (zh4 hm)
  have hl:=may_le hm
  rcases hy with rfl | rfl
  ·exact ⟨h1,Rat.le_refl,hl⟩
  ·exact ⟨h2,hl,Rat.le_refl⟩
 have a:=key mp hp
 have b:=key mq hq
 have:=zk0 hx a.1 b.1 a.2 b.2
 obtain ⟨yk,yp,yq⟩:=y
 have ek':yk=x.k:=ek
 rw [ek']
 exact this
theorem cn_co {g:RGp}(c:Nat):CoG g (endF g c).1:=by
 unfold endF
 split
 ·exact .inl rfl
 ·split
  ·exact .inr rfl
  ·exact .inl rfl
theorem cnF_co:∀ (xs:List RLo) (c:Nat),All2 CoB xs (cnF xs c)
 | [],_=>.nil
 | x::xs,c=>by
  rw [cnF_cons]
  exact .cons ⟨rfl,cn_co _,cn_co _⟩ (cnF_co xs _)
theorem co_rep {xs:List RLo}{ys:List RE}(hx:xs.all loF=true)(h:All2 CoB xs ys):RepM (2*sumL xs+1) (prodQ ys) :=
 zjp (all2_mp h (p:=fun x=>loF x=true) (List.all_eq_true.1 hx) fun x y hl hc=>by
  have hk:=(elF_iff.1 (co_k hl hc)).2.2
  unfold elM
  exact zbz (el_repB hk (co_b hc.2.1) (co_b hc.2.2)) zo)
theorem in_k {x:RLo}{y:RE}(hx:loF x=true)(h:InB x y):elF y=true:=by
 obtain ⟨ek,a,b⟩:=h
 have:=zk0 hx a.1 b.1 a.2 b.2
 obtain ⟨yk,yp,yq⟩:=y
 have ek':yk=x.k:=ek
 rw [ek']
 exact this
def InS (x:RLo)(y:RE):Prop:=InB x y∧bQ (2*szG x.p+4) (toQ y.p)∧bQ (2*szG x.q+4) (toQ y.q)
theorem in_rep {xs:List RLo}{ys:List RE}(hx:xs.all loF=true)(h:All2 InS xs ys):RepM (2*sumL xs+1) (prodQ ys) :=
 zjp (all2_mp h (p:=fun x=>loF x=true) (List.all_eq_true.1 hx) fun x y hl hc=>by
  have hk:=(elF_iff.1 (in_k hl hc.1)).2.2
  unfold elM
  exact zbz (el_repB hk hc.2.1 hc.2.2) zo)
theorem few_b {xs:List RLo}(h:FewOk xs)(k:Nat):bQ 1603 (aF trQ' xs k)∧bQ 1603 (aF pwQ' xs k):=by
 have hr:=zbz (co_rep h.a (cnF_co xs k)) (show 2*sumL xs+1≤801 by have:=h.s; omega)
 obtain ⟨a,_,c,d⟩:=zjm hr
 refine ⟨zk9 a d,?_⟩
 have:=bQ_negT c
 exact ⟨Nat.le_trans this.1 zd,Nat.le_trans this.2 zd⟩
theorem few_gap {xs:List RLo}(h:FewOk xs){ask:MQ→Rat}(hb:∀ k,bQ 1603 (aF ask xs k)):gapF ask xs=(⟨rfOf (loS (aF ask xs) (2^manyF xs)),rfOf (hiS (aF ask xs) (2^manyF xs))⟩,0)∧longQ (loS (aF ask xs) (2^manyF xs))=false∧longQ (hiS (aF ask xs) (2^manyF xs))=false:=by
 have l1:=zde (lo_b zd hb (2^manyF xs)) zd
 have l2:=zde (hi_b zd hb (2^manyF xs)) zd
 refine ⟨?_,l1,l2⟩
 unfold gapF
 rw [if_pos h.t,if_neg (by simp [l1,l2])]
theorem zgf (x:RF)(g:RGp):Cn Tryz.prog 20 [(RFA x).va,(GpA g).va] (Bo (lieF x g)):=by
 refine Cn.intro Tryz.func20 rfl zk nq (fun B w0 a hst=>?_)
 have hst:St B w0 17 [(0,(RFA x).va),(1,(GpA g).va)] [] a w0.w:=hst
 refine wp_seq ?_
 refine gl (sts:=[]) (news:=[⟨2,37,ptrH,some 0,_,none⟩,⟨3,39,ptrH,some 1,_,none⟩]) (sp:=[.alc 0,.alc 1,.val 4 _]) [.o 2] hst (oc (zal rfl rfl rfl (gq 0 rfl)) (oc (zal rfl rfl rfl (gq 1 rfl)) (zv rfl (za2 zbm) o0))) (fun a w hst=>?_)
 have hst:St B w0 17 [(4,_)] [⟨2,37,ptrH,_⟩,⟨3,39,ptrH,_⟩] a w:=hst
 refine zt<|gl (sts:=[none,none]) (news:=[]) (sp:=[.adr 5 3 (.some 0) True,.val 6 _,.val 7 _,.val 8 _,.val 9 _,.val 10 _,.val 11 (Wh (_=true) _),.adr 12 3 (.some 4) (_=true),.val 13 (Wh (_=true) _),.val 14 (Wh (_=true) _),.val 15 (Wh (_=true) _),.val 16 _,.val 4 _]) [.o 12] hst (oc (ob_a rfl rfl (za8 (lz0 1 rfl) zbj)) (zv rfl (za4 0 rfl zk trivial (lz0 1 rfl) (Sub.part 0 rfl rfl) zaa) (zv rfl (zac (lz0 0 rfl) zaa) (zv rfl (za5 (xs:=[.tmp 6,.tmp 7]) (zha _ _) (.cons (vq 1 rfl) (.cons (vq 2 rfl) .nil))) (zv rfl (zhk (vq 3 rfl) za3) (zv rfl (za1 (vq 4 rfl)) (oc (zam rfl rfl rfl (vq 5 rfl) nq (fun hg=>zac (lz0 0 rfl) zaa)) (oc (zd9 rfl rfl rfl (vq 5 rfl) nq (fun hg=>za8 (lz0 1 rfl) zbq)) (oc (zam rfl rfl rfl (vq 5 rfl) nq (fun hg=>za4 7 rfl zk hg (lz0 1 rfl) (Sub.part 1 rfl rfl) zaa)) (oc (zam rfl rfl rfl (vq 5 rfl) nq (fun hg=>za5 (xs:=[.tmp 11,.tmp 13]) (zha _ _) (.cons (zag (vq 6 rfl) hg) (.cons (zag (vq 8 rfl) hg) .nil)))) (oc (zam rfl rfl rfl (vq 5 rfl) nq (fun hg=>zhk (zag (vq 9 rfl) hg) za3)) (zv rfl (zcm (vq 5 rfl) (vq 10 rfl)) (zv rfl (za2 (vq 11 rfl)) o0))))))))))))) (fun a w hst=>?_)
 have hst:St B w0 17 [(4,_)] [⟨2,37,ptrH,_⟩,⟨3,39,ptrH,_⟩] a w:=hst
 refine za0 ?_
 refine wp_ret ?_
 refine zah ?_ (zaj rfl hst (zm 0 rfl))
 exact zb1
theorem at24_c (ts:List Nat)(j:Nat):Cn Tryz.prog 16 [(SlA 5 [U32] (ts.map U8A)).va,In (j:Nat)] ((U8A (ts.getD j 0)).va):=by
 refine Cn.intro Tryz.func16 rfl zk nq (fun B w0 a hst=>?_)
 have hst:St B w0 13 [(0,(SlA 5 [U32] (ts.map U8A)).va),(1,In (j:Nat))] [] a w0.w:=hst
 refine wp_seq ?_
 refine gl (sts:=[]) (news:=[]) (sp:=[.val 4 _]) [.g 0,.g 1,.o 0] hst (zv rfl (za2 za3) o0) (fun a w hst=>?_)
 have hst:St B w0 13 [(0,_),(1,_),(4,_)] [] a w:=hst
 refine zt ?_
 refine wp_seq ?_
 refine gl (sts:=[]) (news:=[]) (sp:=[.val 5 _,.val 6 _,.val 7 _,.val 8 _]) [.g 0,.g 1,.g 2,.o 3] hst (zv rfl (za1 (gq 1 rfl)) (zv rfl (za1 (gq 0 rfl)) (zv rfl (zeb Tryz.underlying31 (vq 1 rfl)) (zv rfl (zc0 (vq 0 rfl) (vq 2 rfl)) o0)))) (fun a w hst=>?_)
 have hst:St B w0 13 [(0,_),(1,_),(4,_),(8,_)] [] a w:=hst
 refine za0 ?_
 refine zab hst (zm 3 rfl) (fun hb0=>?_) (fun hb0=>?_)
 ·have hj:j<ts.length:=by rw [List.length_map] at hb0; have:=of_decide_eq_true hb0; omega
  refine wp_seq ?_
  refine gl (sts:=[]) (news:=[]) (sp:=[.val 9 _,.val 10 _,.val 11 _,.val 12 _,.val 4 _]) [.o 4] hst (zv rfl (za1 (gq 0 rfl)) (zv rfl (za1 (gq 1 rfl)) (zv rfl (zdt sl_31 (zed fun _=>rfl) (vq 0 rfl) (vq 1 rfl) (zd2 hj)) (zv rfl (zat (vq 2 rfl) ty_5) (zv rfl (za2 (vq 3 rfl)) o0))))) (fun a w hst=>?_)
  have hst:St B w0 13 [(4,_)] [] a w:=hst
  refine za0 ?_
  refine wp_ret ?_
  refine zak ?_
  refine zah ?_ (zaj rfl hst (zm 0 rfl))
  exact zd4 (congrArg (fun z=>(U8A z).va) (by simp [List.getD_eq_getElem?_getD,List.getElem?_eq_getElem hj]))
 ·have hj:¬ j<ts.length:=by rw [List.length_map] at hb0; have:=of_decide_eq_false hb0; omega
  refine wp_skip ?_
  refine zt<|gl (sts:=[]) (news:=[]) (sp:=[.val 4 _]) [.o 0] hst (zv rfl (za2 za3) o0) (fun a w hst=>?_)
  have hst:St B w0 13 [(4,_)] [] a w:=hst
  refine za0 ?_
  refine wp_ret ?_
  refine zah ?_ (zaj rfl hst (zm 0 rfl))
  exact u8_0 (by simp [List.getD_eq_getElem?_getD,List.getElem?_eq_none (Nat.le_of_not_lt hj)])
theorem btw_c {gp:RGp}{t:Nat}(hm:mayG gp=true)(hs:szG gp≤400):Cn Tryz.prog 43 [(GpA gp).va,(U8A t).va] ((RFA (rfOf (btQ gp t))).va):=by
 refine Cn.intro Tryz.func43 rfl zk nq (fun B w0 a hst=>?_)
 have hst:St B w0 41 [(0,(GpA gp).va),(1,(U8A t).va)] [] a w0.w:=hst
 have ht:t<256:=(zgc (hst.vals (1,(U8A t).va) (zm 1 rfl))).1
 have hst:=St.wkG (A':=(NumA .u8 (t:Nat)).va) hst 1 rfl u8_num
 refine wp_seq ?_
 refine gl (sts:=[]) (news:=[⟨2,39,ptrH,some 0,_,none⟩,⟨4,37,ptrH,some 1,_,none⟩]) (sp:=[.alc 0,.alc 1]) [.g 1] hst (oc (zal rfl rfl rfl (gq 0 rfl)) (oc (zaf rfl rfl rfl (Str.zero zaq)) o0)) (fun a w hst=>?_)
 have hst:St B w0 41 [(1,_)] [⟨2,39,ptrH,_⟩,⟨4,37,ptrH,_⟩] a w:=hst
 refine zt<|gl (sts:=[none,none]) (news:=[⟨5,37,ptrH,some 6,_,some (7,_)⟩]) (sp:=[.val 14 _,.val 15 _,.val 16 _,.val 13 _,.val 17 _,.val 18 _,.alc 2,.sto 2,.val 6 _]) [] hst (zv rfl (za1 (gq 0 rfl)) (zv rfl (zau .i64 zk zk (vq 0 rfl) ((wi64 zo zo))) (zv rfl (za5 (xs:=[.tmp 15,.const (.int .i64 (255))]) (ofQ_c zo zo zd zd zd) (.cons (vq 1 rfl) (.cons za3 .nil))) (zv rfl (za1 (vq 2 rfl)) (zv rfl (zd8 (vq 3 rfl)) (zv rfl (zd7 (vq 3 rfl)) (oc (zaf rfl rfl rfl (Str.zero zaq)) (oc (za7 rfl rfl rfl (vq 4 rfl) zaa (Eq.trans (b:=4) rfl rfl)) (zv rfl (za2 (vq 5 rfl)) o0))))))))) (fun a w hst=>?_)
 have hst:St B w0 41 [] [⟨2,39,ptrH,_⟩,⟨4,37,ptrH,_⟩,⟨5,37,ptrH,_⟩] a w:=hst
 refine zt<|gl (sts:=[none,none,none]) (news:=[⟨7,37,ptrH,some 8,_,some (9,_)⟩]) (sp:=[.adr 20 2 (.some 4) True,.val 21 _,.adr 22 2 (.some 0) True,.val 23 _,.val 24 _,.val 19 _,.val 25 _,.val 26 _,.alc 3,.sto 3,.val 8 _]) [] hst (oc (ob_a rfl rfl (za8 (lz0 0 rfl) zbq)) (zv rfl (za4 0 rfl zk trivial (lz0 0 rfl) (Sub.part 1 rfl rfl) zaa) (oc (ob_a rfl rfl (za8 (lz0 0 rfl) zbj)) (zv rfl (za4 2 rfl zk trivial (lz0 0 rfl) (Sub.part 0 rfl rfl) zaa) (zv rfl (za5 (xs:=[.tmp 21,.tmp 23]) ((subF_c gp.hi gp.lo).post (congrArg FrR (bt_s hm hs))) (.cons (vq 1 rfl) (.cons (vq 3 rfl) .nil))) (zv rfl (za1 (vq 4 rfl)) (zv rfl (zd8 (vq 5 rfl)) (zv rfl (zd7 (vq 5 rfl)) (oc (zaf rfl rfl rfl (Str.zero zaq)) (oc (za7 rfl rfl rfl (vq 6 rfl) zaa (Eq.trans (b:=4) rfl rfl)) (zv rfl (za2 (vq 7 rfl)) o0))))))))))) (fun a w hst=>?_)
 have hst:St B w0 41 [] [⟨2,39,ptrH,_⟩,⟨4,37,ptrH,_⟩,⟨5,37,ptrH,_⟩,⟨7,37,ptrH,_⟩] a w:=hst
 refine zt<|gl (sts:=[none,none,none,none]) (news:=[⟨9,37,ptrH,some 6,_,some (7,_)⟩]) (sp:=[.val 28 _,.val 29 _,.val 30 _,.val 27 _,.val 31 _,.val 32 _,.alc 4,.sto 4,.val 10 _]) [] hst (zv rfl (zac (lz0 3 rfl) zaa) (zv rfl (zac (lz0 2 rfl) zaa) (zv rfl (za5 (xs:=[.tmp 28,.tmp 29]) ((mul_c (rfOf (toQ gp.hi-toQ gp.lo)) (rfOf (Rat.divInt t 255))).post (congrArg FrR (bt_m ht hs))) (.cons (vq 0 rfl) (.cons (vq 1 rfl) .nil))) (zv rfl (za1 (vq 2 rfl)) (zv rfl (zd8 (vq 3 rfl)) (zv rfl (zd7 (vq 3 rfl)) (oc (zaf rfl rfl rfl (Str.zero zaq)) (oc (za7 rfl rfl rfl (vq 4 rfl) zaa (Eq.trans (b:=4) rfl rfl)) (zv rfl (za2 (vq 5 rfl)) o0))))))))) (fun a w hst=>?_)
 have hst:St B w0 41 [] [⟨2,39,ptrH,_⟩,⟨4,37,ptrH,_⟩,⟨5,37,ptrH,_⟩,⟨7,37,ptrH,_⟩,⟨9,37,ptrH,_⟩] a w:=hst
 refine zt<|gl (sts:=[none,none,none,none,none]) (news:=[⟨11,37,ptrH,some 7,_,some (8,_)⟩]) (sp:=[.adr 34 2 (.some 0) True,.val 35 _,.val 36 _,.val 37 _,.val 33 _,.val 38 _,.val 39 _,.alc 5,.sto 5,.val 12 _]) [] hst (oc (ob_a rfl rfl (za8 (lz0 0 rfl) zbj)) (zv rfl (za4 0 rfl zk trivial (lz0 0 rfl) (Sub.part 0 rfl rfl) zaa) (zv rfl (zac (lz0 4 rfl) zaa) (zv rfl (za5 (xs:=[.tmp 35,.tmp 36]) ((addF_c gp.lo (rfOf ((toQ gp.hi-toQ gp.lo)*Rat.divInt t 255))).post (congrArg FrR (bt_a hm ht hs))) (.cons (vq 1 rfl) (.cons (vq 2 rfl) .nil))) (zv rfl (za1 (vq 3 rfl)) (zv rfl (zd8 (vq 4 rfl)) (zv rfl (zd7 (vq 4 rfl)) (oc (zaf rfl rfl rfl (Str.zero zaq)) (oc (za7 rfl rfl rfl (vq 5 rfl) zaa (Eq.trans (b:=4) rfl rfl)) (zv rfl (za2 (vq 6 rfl)) o0)))))))))) (fun a w hst=>?_)
 have hst:St B w0 41 [] [⟨2,39,ptrH,_⟩,⟨4,37,ptrH,_⟩,⟨5,37,ptrH,_⟩,⟨7,37,ptrH,_⟩,⟨9,37,ptrH,_⟩,⟨11,37,ptrH,_⟩] a w:=hst
 refine zt<|gl (sts:=[none,some (1,_),none,none,none,none]) (news:=[]) (sp:=[.val 40 _,.sto 1]) [] hst (zv rfl (zac (lz0 5 rfl) zaa) (oc (za7 rfl rfl rfl (vq 0 rfl) zaa (Eq.trans (b:=4) rfl rfl)) o0)) (fun a w hst=>?_)
 have hst:St B w0 41 [] [⟨2,39,ptrH,_⟩,⟨4,37,ptrH,_⟩,⟨5,37,ptrH,_⟩,⟨7,37,ptrH,_⟩,⟨9,37,ptrH,_⟩,⟨11,37,ptrH,_⟩] a w:=hst
 refine za0 ?_
 refine wp_ret ?_
 refine zah ?_ (zao rfl hst (zm 1 rfl) zaa)
 exact zb1
end Go.Proofs.YtlpppkkggljdcaaGreat
namespace Go.Proofs.YtlpppkkggljdcaaGreat
open Go Go.RowKit
theorem zi0 {xs:List RLo}(h:FewOk xs){j:Nat}(hj:j<xs.length):mayG xs[j].p=true∧mayG xs[j].q=true∧szG xs[j].p≤400∧szG xs[j].q≤400:=by
 obtain ⟨_,_,mp,mq⟩:=zhl (List.all_eq_true.1 h.a _ (List.getElem_mem hj))
 have hs:=sum_mem (List.getElem_mem hj)
 have:=h.s
 exact ⟨mp,mq,by omega,by omega⟩
end Go.Proofs.YtlpppkkggljdcaaGreat
namespace Go.Proofs.YtlpppkkggljdcaaGreat
open Go Go.RowKit
theorem num_u8 {x:Nat}(h:x<256):Wk (NumA .u8 (x:Nat)).va (U8A x).va:=fun B v w ⟨cs,hp,hv⟩=>⟨cs,⟨h,hp⟩,hv⟩
theorem btN_c {gp:RGp}{t:Nat}(hm:mayG gp=true)(hs:szG gp≤400)(ht:t<256):Cn Tryz.prog 43 [(GpA gp).va,(NumA .u8 (t:Nat)).va] (RFA (rfOf (btQ gp t))).va:=(btw_c hm hs).wk (.cons zb1 (.cons (num_u8 ht) .nil))
def nwG (g:RGp)(a b:Nat):RGp:=⟨rfOf (btQ g (min a b)),rfOf (btQ g (max a b))⟩
def njF (xs:List RLo)(ts:List Nat)(j:Nat):RLo:=⟨(xs.getD j lo0).k,nwG (xs.getD j lo0).p (ts.getD (4*j) 0) (ts.getD (4*j+1) 0),nwG (xs.getD j lo0).q (ts.getD (4*j+2) 0) (ts.getD (4*j+3) 0)⟩
def nwL (xs:List RLo)(ts:List Nat):List RLo:=(List.range xs.length).map (njF xs ts)
theorem nj_nx {xs:List RLo}{ts:List Nat}{j:Nat}(h:j<xs.length):((List.range j).map (njF xs ts)).map LoA++[LoA ⟨xs[j].k,nwG xs[j].p (ts.getD (4*j) 0) (ts.getD (4*j+1) 0),nwG xs[j].q (ts.getD (4*j+2) 0) (ts.getD (4*j+3) 0)⟩]=((List.range (j+1)).map (njF xs ts)).map LoA:=by
 rw [List.range_succ,List.map_append,List.map_append]
 unfold njF
 simp [List.getD_eq_getElem?_getD,List.getElem?_eq_getElem h]
theorem app_loo:∃ it z,Tryz.prog.info? 41=some it∧it.zero=some z∧it.size=17∧it.bytes=264∧z.cells.size=17:=by
 have h:((Tryz.prog.info? 41).bind fun it=>it.zero.map fun z=>(it.size,it.bytes,z.cells.size))=some (17,264,17):=by kernel_rfl
 cases hi:Tryz.prog.info? 41 with
 | none=>rw [hi] at h; simp at h
 | some it =>
  rw [hi] at h
  cases hz:it.zero with
  | none=>simp [hz] at h
  | some z =>
   simp [hz] at h
   exact ⟨it,z,rfl,hz,h.1,h.2.1,h.2.2⟩
theorem zhu {gp:RGp}{t u:Nat}(hm:mayG gp=true)(hs:szG gp≤400):Cn Tryz.prog 15 [(GpA gp).va,(U8A t).va,(U8A u).va] ((GpA (nwG gp t u)).va):=by
 refine Cn.intro Tryz.func15 rfl zk nq (fun B w0 a hst=>?_)
 have hst:St B w0 19 [(0,(GpA gp).va),(1,(U8A t).va),(2,(U8A u).va)] [] a w0.w:=hst
 have ht:t<256:=(zgc (hst.vals (1,(U8A t).va) (zm 1 rfl))).1
 have hu:u<256:=(zgc (hst.vals (2,(U8A u).va) (zm 2 rfl))).1
 have hst:=St.wkG (A':=(NumA .u8 (t:Nat)).va) hst 1 rfl u8_num
 have hst:=St.wkG (A':=(NumA .u8 (u:Nat)).va) hst 2 rfl u8_num
 refine wp_seq ?_
 refine gl (sts:=[]) (news:=[⟨3,39,ptrH,some 0,_,none⟩,⟨6,39,ptrH,some 1,_,none⟩]) (sp:=[.alc 0,.alc 1]) [.g 1,.g 2] hst (oc (zal rfl rfl rfl (gq 0 rfl)) (oc (zaf rfl rfl rfl (Str.zero zc3)) o0)) (fun a w hst=>?_)
 have hst:St B w0 19 [(1,_),(2,_)] [⟨3,39,ptrH,_⟩,⟨6,39,ptrH,_⟩] a w:=hst
 refine zt ?_
 refine wp_seq ?_
 refine gl (sts:=[none,none]) (news:=[]) (sp:=[.val 7 _,.val 8 _,.val 9 _]) [.g 0,.g 1,.o 2] hst (zv rfl (za1 (gq 0 rfl)) (zv rfl (za1 (gq 1 rfl)) (zv rfl (zg0 (vq 0 rfl) (vq 1 rfl)) o0))) (fun a w hst=>?_)
 have hst:St B w0 19 [(1,_),(2,_),(9,_)] [⟨3,39,ptrH,_⟩,⟨6,39,ptrH,_⟩] a w:=hst
 refine za0 ?_
 refine zc6 (fun a w =>  St B w0 19 [(1,(NumA .u8 ((min t u:Nat):Int)).va),(2,(NumA .u8 ((max t u:Nat):Int)).va)] [⟨3,39,ptrH,GpA gp⟩,⟨6,39,ptrH,GpA gp0⟩] a w) hst (zm 2 rfl) (fun hb0=>?_) (fun hb0=>?_) (fun a w hst=>?_)
 ·refine gl (sts:=[none,none]) (news:=[]) (sp:=[.val 10 _,.val 11 _,.val 1 _,.val 2 _]) [.o 2,.o 3] hst (zv rfl (za1 (gq 1 rfl)) (zv rfl (za1 (gq 0 rfl)) (zv rfl (za2 (vq 0 rfl)) (zv rfl (za2 (vq 1 rfl)) o0)))) (fun a w hst=>?_)
  have hst:St B w0 19 [(1,_),(2,_)] [⟨3,39,ptrH,_⟩,⟨6,39,ptrH,_⟩] a w:=hst
  refine za0 ?_
  have hst:=St.sel hst [0,1]
  have h0:=of_decide_eq_true hb0
  rw [show min t u=u by omega,show max t u=t by omega]; exact hst
 ·refine wp_skip ?_
  refine za0 ?_
  have hst:=St.sel hst [0,1]
  have h0:=of_decide_eq_false hb0
  rw [show min t u=t by omega,show max t u=u by omega]; exact hst
 refine zt<|zav (anc:=[[],[],[0,1],[],[],[0,1,2,3,4],[0,1,2,3,4,5],[0,1,2,3,4,5,6]]) (sts:=[none,some (7,_)]) (news:=[]) (sp:=[.val 12 _,.val 13 _,.val 14 _,.val 15 _,.val 16 _,.val 17 _,.val 18 _,.sto 1]) [] za6 hst (zv rfl (zac (lz0 0 rfl) zbl) (zv rfl (za1 (gq 0 rfl)) (zv rfl (za5 (xs:=[.tmp 12,.tmp 13]) (btN_c hm hs (show min t u<256 by omega)) (.cons (vq 0 rfl) (.cons (vq 1 rfl) .nil))) (zv rfl (zac (lz0 0 rfl) zbl) (zv rfl (za1 (gq 1 rfl)) (zv rfl (za5 (xs:=[.tmp 15,.tmp 16]) (btN_c hm hs (show max t u<256 by omega)) (.cons (vq 3 rfl) (.cons (vq 4 rfl) .nil))) (zv rfl (zb7 (xs:=[(0,.tmp 14),(1,.tmp 17)]) (qs:=[(0,_),(1,_)]) zc3 (.cons ⟨rfl,(vq 2 rfl),rfl⟩ (.cons ⟨rfl,(vq 5 rfl),rfl⟩ .nil))) (oc (za7 rfl rfl rfl (vq 6 rfl) zbl (Eq.trans (b:=8) rfl rfl)) o0)))))))) zk zk zk zk (fun a w hst=>?_)
 have hst:St B w0 19 [] [⟨3,39,ptrH,_⟩,⟨6,39,ptrH,_⟩] a w:=hst
 refine za0 ?_
 refine wp_ret ?_
 refine zah ?_ (zao rfl hst (zm 1 rfl) zbl)
 exact zb1
end Go.Proofs.YtlpppkkggljdcaaGreat
namespace Go.Proofs.YtlpppkkggljdcaaGreat
open Go Go.RowKit
theorem bt_mono {g:RGp}(hm:mayG g=true){a b:Nat}(h:a≤b):btQ g a≤btQ g b:=by
 have hl:=may_le hm
 have e:∀ t:Nat,Rat.divInt t 255=(t:Rat)*(255:Rat)⁻¹ := fun t=>by rw [Rat.divInt_eq_div,Rat.div_def]; rfl
 have h1:(a:Rat)≤(b:Rat):=by exact_mod_cast h
 have h2:=Rat.mul_le_mul_of_nonneg_right h1 (show (0:Rat)≤(255:Rat)⁻¹ from Rat.le_of_lt (Rat.inv_pos.2 zd))
 have h3:=Rat.mul_le_mul_of_nonneg_left h2 (show 0≤toQ g.hi-toQ g.lo by grind)
 unfold btQ
 rw [e,e]
 grind
theorem nw_may {g:RGp}{a b:Nat}(hm:mayG g=true)(hs:szG g≤400)(ha:a<256)(hb:b<256):mayG (nwG g a b)=true:=by
 have i1:=bt_in hm (show min a b<256 by omega) hs
 have i2:=bt_in hm (show max a b<256 by omega) hs
 unfold mayG nwG
 simp only [List.all_cons,List.all_nil,Bool.and_true,Bool.and_eq_true,decide_eq_true_eq]
 refine ⟨⟨i1.1,i2.1⟩,?_⟩
 rw [cmp_le,zcy,zcy]
 exact bt_mono hm zo
theorem nw_pt {g:RGp}{a b:Nat}(h:ptF g=true):ptF (nwG g a b)=true:=by
 unfold ptF at h ⊢
 rw [cm_eq] at h ⊢
 have e:=of_decide_eq_true h
 refine decide_eq_true ?_
 unfold nwG
 rw [zcy,zcy]
 unfold btQ
 rw [e]
 grind
theorem nw_gpL (g:RGp)(a b:Nat):gpL (nwG g a b)≤gpL g:=by
 cases h:ptF g with
 | true =>
  unfold gpL
  rw [nw_pt h,h]
  exact Nat.le_refl _
 | false =>
  have:=zjv (nwG g a b)
  have e:gpL g=1:=by unfold gpL; rw [h]; rfl
  omega
theorem nw_co {g:RGp}{a b:Nat}{y:RF}(hm:mayG g=true)(hs:szG g≤400)(ha:a<256)(hb:b<256)(h:CoG (nwG g a b) y):InG g y∧bQ (2*szG g+4) (toQ y):=by
 rcases h with rfl | rfl
 ·exact ⟨bt_in hm (show min a b<256 by omega) hs,by unfold nwG; rw [zcy]; exact bt_b g zo⟩
 ·exact ⟨bt_in hm (show max a b<256 by omega) hs,by unfold nwG; rw [zcy]; exact bt_b g zo⟩
theorem nw_lo {x:RLo}{a b c d:Nat}(hx:loF x=true)(hp:szG x.p≤400)(hq:szG x.q≤400)(ha:a<256)(hb:b<256)(hc:c<256)(hd:d<256):loF ⟨x.k,nwG x.p a b,nwG x.q c d⟩=true:=by
 obtain ⟨_,_,mp,mq⟩:=zhl hx
 have p0:=nw_co mp hp ha hb (y:=(nwG x.p a b).lo) (.inl rfl)
 have p1:=nw_co mp hp ha hb (y:=(nwG x.p a b).hi) (.inr rfl)
 have q0:=nw_co mq hq hc hd (y:=(nwG x.q c d).lo) (.inl rfl)
 have q1:=nw_co mq hq hc hd (y:=(nwG x.q c d).hi) (.inr rfl)
 have e0:=zk0 hx p0.1.1 q0.1.1 p0.1.2 q0.1.2
 have e1:=zk0 hx p1.1.1 q1.1.1 p1.1.2 q1.1.2
 unfold loF
 rw [nw_may mp hp ha hb,nw_may mq hq hc hd,ch_mk (Nat.le_of_ble_eq_true rfl) (by simp only [List.all_cons,List.all_nil,Bool.and_true,Bool.and_eq_true]; exact ⟨e0,e1⟩)]
 rfl
theorem few_j {xs:List RLo}(h:FewOk xs){j:Nat}(hj:j<xs.length):loF xs[j]=true∧szG xs[j].p≤400∧szG xs[j].q≤400:=⟨List.all_eq_true.1 h.a _ (List.getElem_mem hj),(zi0 h hj).2.2.1,(zi0 h hj).2.2.2⟩
theorem nj_at {xs:List RLo}{ts:List Nat}{j:Nat}(hj:j<xs.length):njF xs ts j=⟨xs[j].k,nwG xs[j].p (ts.getD (4*j) 0) (ts.getD (4*j+1) 0),nwG xs[j].q (ts.getD (4*j+2) 0) (ts.getD (4*j+3) 0)⟩:=by
 unfold njF
 rw [show xs.getD j lo0=xs[j] from by simp [List.getD_eq_getElem?_getD,List.getElem?_eq_getElem hj]]
theorem nw_all {xs:List RLo}{ts:List Nat}(h:FewOk xs)(ht:okB8 ts):(nwL xs ts).all loF=true:=by
 refine List.all_eq_true.2 fun y hy=>?_
 obtain ⟨j,hj,rfl⟩:=List.mem_map.1 hy
 have hj':j<xs.length:=List.mem_range.1 hj
 obtain ⟨h1,h2,h3⟩:=few_j h hj'
 rw [nj_at hj']
 exact nw_lo h1 h2 h3 (zka ht _) (zka ht _) (zka ht _) (zka ht _)
theorem many_rng {xs:List RLo}:∀ {F:Nat→RLo},(∀ j (h:j<xs.length),gpL (F j).p+gpL (F j).q≤gpL xs[j].p+gpL xs[j].q)→manyF ((List.range xs.length).map F)≤manyF xs:=by
 induction xs with
 | nil=>exact fun _=>Nat.le_refl _
 | cons x xs ih =>
  intro F h
  rw [List.length_cons,List.range_succ_eq_map,List.map_cons,List.map_map]
  have h0:=h 0 (by simp)
  have h1:=ih (F:=F∘Nat.succ) fun j hj=>h (j+1) (by simpa using hj)
  have e1:∀ (y:RLo) (ys:List RLo),manyF (y::ys)=gpL y.p+gpL y.q+manyF ys:=fun y ys=>by simp [manyF]
  rw [e1,e1]
  simp only [List.getElem_cons_zero] at h0
  omega
theorem nw_many {xs:List RLo}{ts:List Nat}:manyF (nwL xs ts)≤manyF xs:=many_rng fun j hj=>by
 rw [nj_at hj]
 exact Nat.add_le_add (nw_gpL _ _ _) (nw_gpL _ _ _)
theorem nw_tch {xs:List RLo}{ts:List Nat}(h:FewOk xs)(ht:okB8 ts):tchF (nwL xs ts)=0:=by
 have hm:=nw_many (xs:=xs) (ts:=ts)
 have h7:=h.m
 have hl:(nwL xs ts).length=xs.length:=by unfold nwL; simp
 have h4:=h.l4
 unfold tchF
 rw [if_neg zo,if_pos (nw_all h ht),if_neg zo]
theorem co_rng {xs:List RLo}:∀ {F:Nat→RLo} {zs:List RE},(∀ j (h:j<xs.length) z,CoB (F j) z→InS xs[j] z)→All2 CoB ((List.range xs.length).map F) zs→All2 InS xs zs:=by
 induction xs with
 | nil=>intro F zs _ h; cases h; exact .nil
 | cons x xs ih =>
  intro F zs h h2
  rw [List.length_cons,List.range_succ_eq_map,List.map_cons,List.map_map] at h2
  cases h2 with
  | cons a b=>exact .cons (h 0 (by simp) _ a) (ih (F:=F∘Nat.succ) (fun j hj=>h (j+1) (by simpa using hj)) b)
theorem nw_ins {xs:List RLo}{ts:List Nat}(h:FewOk xs)(ht:okB8 ts){zs:List RE}(hz:All2 CoB (nwL xs ts) zs):All2 InS xs zs:=co_rng (fun j hj z hc=>by
 obtain ⟨h1,h2,h3⟩:=few_j h hj
 obtain ⟨_,_,mp,mq⟩:=zhl h1
 rw [nj_at hj] at hc
 obtain ⟨e,c1,c2⟩:=hc
 have a:=nw_co mp h2 (zka ht _) (zka ht _) c1
 have b:=nw_co mq h3 (zka ht _) (zka ht _) c2
 exact ⟨⟨e,a.1,b.1⟩,a.2,b.2⟩) hz
end Go.Proofs.YtlpppkkggljdcaaGreat
