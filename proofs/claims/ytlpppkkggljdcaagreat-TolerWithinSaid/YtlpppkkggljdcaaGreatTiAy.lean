import Derived.Test.YtlpppkkggljdcaaGreatTiAa
import Derived.Test.YtlpppkkggljdcaaGreatTiAc
import Derived.Test.YtlpppkkggljdcaaGreatTiAx
import Derived.Laws.AppendOwn
import Derived.Laws.OwnMore
import Derived.Orders
set_option linter.unusedVariables false
set_option linter.unusedSimpArgs false
set_option linter.unusedSectionVars false
set_option maxRecDepth 100000
namespace Go.Proofs.YtlpppkkggljdcaaGreat
open Go Go.RowKit
def U8A (x:Nat):As:=(NumA .u8 (x:Nat)).and (x<256)
section
open Go.ChangeShapes Go.WideShapes Go.ChangeAt
variable {H:Type} {enc:TypeId × Value→H} {w:World} {base:Nat} {spare:Nat→Bool} {held:Bool} {fuel:Nat} {cs:List Value} {x:DataW H × List MemPlace}
theorem rd_u8 (h:DataW.trod enc Tryz.prog w base spare held fuel 5 cs=some x):∃ y,(U8A y).p w.heap.size cs w:=by
 obtain ⟨n,rfl,_,hw⟩:=DataW.trod_int Tryz.underlying5 h
 have h2:IntKind.u8.min≤n∧n≤IntKind.u8.max:=by simpa [Lit.wf] using hw
 have h3:0≤n∧n≤255:=h2
 refine ⟨n.toNat,⟨by omega,?_⟩⟩
 rw [Int.toNat_of_nonneg h3.1]
 rfl
end
theorem u8_num {x:Nat}:Wk (U8A x).va (NumA .u8 (x:Nat)).va:=fun _ _ _ h=>(zid h).2
theorem u8_0 {x:Nat}(h:x=0):Wk (NumA .u8 0).va (U8A x).va:=fun B v w ⟨cs,hp,hv⟩=>by subst h; exact ⟨cs,⟨by decide,hp⟩,hv⟩
def btQ (g:RGp)(t:Nat):Rat:=toQ g.lo+(toQ g.hi-toQ g.lo)*Rat.divInt t 255
theorem do_ok {op:Rat→Rat→Option Rat}{x y:RF}{z:Rat}(hx:okX x=true)(hy:okX y=true)(ho:op (toQ x) (toQ y)=some z)(hz:longQ z=false):doF op x y=(rfOf z,0):=by
 unfold doF
 rw [hx,hy,ho]
 exact zjd (longQ_false.1 hz)
theorem bQ_negT {k:Nat}{x:Rat}(h:bQ k x):bQ k (-x):=⟨by rw [Rat.neg_num,zeo]; exact h.1,by rw [Rat.neg_den]; exact h.2⟩
theorem bQ_subT {c d:Nat}{x y:Rat}(hx:bQ c x)(hy:bQ d y):bQ (c+d+1) (x-y):=by
 have e:x-y=x + -y:=by grind
 rw [e]
 exact zkl hx (bQ_negT hy)
theorem bQ_t {t:Nat}(ht:t<256):bQ 2 (Rat.divInt t 255):=by
 obtain ⟨h1,h2⟩:=ze6 (p:=(t:Int)) (q:=255) zd
 have h3:lz (t:Int)≤2:=lz_i64 zo zo
 have h4:lz 255≤2:=lz_i64 zd zd
 exact ⟨by omega,by omega⟩
theorem ziw {r:Rat}(h:longQ r=false):okX (rfOf r)=true:=by rw [zgj,h]; rfl
theorem bt_b1 (g:RGp):bQ (szG g+1) (toQ g.hi-toQ g.lo):=by
 have h:=bQ_subT (bQ_sz (toQ g.hi)) (bQ_sz (toQ g.lo))
 unfold szG
 exact ⟨by have:=h.1; omega,by have:=h.2; omega⟩
theorem bt_b2 (g:RGp){t:Nat}(ht:t<256):bQ (szG g+3) ((toQ g.hi-toQ g.lo)*Rat.divInt t 255):=by
 have h:=bQ_mul (bt_b1 g) (bQ_t ht)
 exact ⟨by have:=h.1; omega,by have:=h.2; omega⟩
theorem bt_b (g:RGp){t:Nat}(ht:t<256):bQ (2*szG g+4) (btQ g t):=by
 have h:=zkl (bQ_sz (toQ g.lo)) (bt_b2 g ht)
 have e:szQ (toQ g.lo)≤szG g:=by unfold szG; omega
 unfold btQ
 exact ⟨by have:=h.1; omega,by have:=h.2; omega⟩
theorem bt_s {g:RGp}(hm:mayG g=true)(hs:szG g≤400):subF g.hi g.lo=(rfOf (toQ g.hi-toQ g.lo),0):=by
 obtain ⟨h1,h2⟩:=ok_2 (zhd hm)
 exact do_ok h2 h1 rfl (zcn (bt_b1 g) zo)
theorem bt_m {g:RGp}{t:Nat}(ht:t<256)(hs:szG g≤400):mulF (rfOf (toQ g.hi-toQ g.lo)) (rfOf (Rat.divInt t 255))=(rfOf ((toQ g.hi-toQ g.lo)*Rat.divInt t 255),0) :=
 do_ok (ziw (zcn (bt_b1 g) zo)) (ziw (zcn (bQ_t ht) zd)) (by rw [zd8,zd8]) (zcn (bt_b2 g ht) zo)
theorem bt_a {g:RGp}{t:Nat}(hm:mayG g=true)(ht:t<256)(hs:szG g≤400):addF g.lo (rfOf ((toQ g.hi-toQ g.lo)*Rat.divInt t 255))=(rfOf (btQ g t),0) :=
 do_ok (ok_2 (zhd hm)).1 (ziw (zcn (bt_b2 g ht) zo)) (by rw [zd8]; rfl) (zcn (bt_b g ht) zo)
theorem t_le {t:Nat}(ht:t<256):0≤Rat.divInt t 255∧Rat.divInt t 255≤1:=by
 have e:Rat.divInt t 255=(t:Rat)/255:=by rw [Rat.divInt_eq_div]; rfl
 have h0:(0:Rat)≤(t:Rat):=by exact_mod_cast Nat.zero_le t
 have h1:(t:Rat)≤255:=by exact_mod_cast (show t≤255 by omega)
 rw [e,Rat.div_def]
 have h2:(0:Rat)≤(255:Rat)⁻¹ := Rat.le_of_lt (Rat.inv_pos.2 zd)
 refine ⟨Rat.mul_nonneg h0 h2,?_⟩
 have h3:=Rat.mul_le_mul_of_nonneg_right h1 h2
 have e2:(255:Rat)*(255:Rat)⁻¹ = 1:=Rat.mul_inv_cancel 255 zd
 rw [e2] at h3
 exact h3
theorem bt_in {g:RGp}{t:Nat}(hm:mayG g=true)(ht:t<256)(hs:szG g≤400):InG g (rfOf (btQ g t)):=by
 have hl:=may_le hm
 obtain ⟨h0,h1⟩:=t_le ht
 refine ⟨ziw (zcn (bt_b g ht) zo),?_,?_⟩
 ·rw [zd8]
  have:=Rat.mul_nonneg (show 0≤toQ g.hi-toQ g.lo by grind) h0
  unfold btQ
  grind
 ·rw [zd8]
  have:=Rat.mul_le_mul_of_nonneg_left h1 (show 0≤toQ g.hi-toQ g.lo by grind)
  unfold btQ
  grind
def lieF (x:RF)(g:RGp):Bool:=decide (cmF g.lo x≤0)&&decide (cmF x g.hi≤0)
def wiE (x:RLo)(a b:Nat):RE:=⟨x.k,rfOf (btQ x.p a),rfOf (btQ x.q b)⟩
def wjF (xs:List RLo)(ts:List Nat)(j:Nat):RE:=wiE (xs.getD j lo0) (ts.getD (2*j) 0) (ts.getD (2*j+1) 0)
def wiL (xs:List RLo)(ts:List Nat):List RE:=(List.range xs.length).map (wjF xs ts)
theorem wj_nx {xs:List RLo}{ts:List Nat}{j:Nat}(h:j<xs.length):((List.range j).map (wjF xs ts)).map REA++[REA (wiE xs[j] (ts.getD (2*j) 0) (ts.getD (2*j+1) 0))]=((List.range (j+1)).map (wjF xs ts)).map REA:=by
 rw [List.range_succ,List.map_append,List.map_append]
 unfold wjF
 simp [List.getD_eq_getElem?_getD,List.getElem?_eq_getElem h]
def okB8 (ts:List Nat):Prop:=∀ t∈ts,t<256
theorem b8_at {ts:List Nat}(h:okB8 ts)(i:Nat):ts.getD i 0<256:=by
 rw [List.getD_eq_getElem?_getD]
 cases hi:ts[i]? with
 | none=>decide
 | some t=>exact h t (List.mem_of_getElem? hi)
theorem all2_range {xs:List RLo}:∀ {F:Nat→RE},(∀ j (h:j<xs.length),InB xs[j] (F j))→All2 InB xs ((List.range xs.length).map F):=by
 induction xs with
 | nil=>exact fun _=>.nil
 | cons x xs ih =>
  intro F h
  rw [List.length_cons,List.range_succ_eq_map,List.map_cons,List.map_map]
  exact .cons (h 0 (by simp)) (ih fun j hj=>h (j+1) (by simpa using hj))
theorem wi_in {xs:List RLo}{ts:List Nat}(h:FewOk xs)(ht:okB8 ts):All2 InB xs (wiL xs ts):=all2_range fun j hj=>by
 obtain ⟨_,_,mp,mq⟩:=zhq (List.all_eq_true.1 h.a _ (List.getElem_mem hj))
 have hs:=zkr (List.getElem_mem hj)
 have:=h.s
 unfold wjF wiE
 rw [show xs.getD j lo0=xs[j] from by simp [List.getD_eq_getElem?_getD,List.getElem?_eq_getElem hj]]
 exact ⟨rfl,bt_in mp (b8_at ht _) zo,bt_in mq (b8_at ht _) zo⟩
theorem el_repB {k:Int}{p q:Rat}{c d:Nat}(h:kOk k p q)(hp:bQ c p)(hq:bQ d q):RepM (c+d+1) (elQ k p q):=by
 unfold kOk at h
 rcases h with ⟨e,_⟩ | ⟨e,_⟩ | ⟨e,_,h0⟩ | e | ⟨e,_⟩ <;> subst e
 ·exact zc4 (rep_b hp) zo
 ·exact zc4 (rep_c (bQ_min hp)) zo
 ·exact zc4 (rep_b (bQ_div hp hq (by grind))) zo
 ·exact zc4 (rep_c (bQ_min (bQ_mul hp hq))) zo
 ·exact zc4 rep_f zo
theorem zk2 {xs:List RLo}{ys:List RE}(h:All2 (fun x y=>RepM (2*(szG x.p+szG x.q)+15) (elM y)) xs ys):RepM (2*sumL xs+1) (prodQ ys):=by
 induction h with
 | nil=>exact rep_1
 | @cons x y xs ys h1 _ ih =>
  rw [zh8]
  have e:sumL (x::xs)=(szG x.p+szG x.q+8)+sumL xs:=by simp [sumL]
  rw [e]
  exact zc4 (rep_mul ih h1) zo
theorem co_b {g:RGp}{y:RF}(h:CoG g y):bQ (szG g) (toQ y):=by
 rcases h with rfl | rfl
 ·have:=bQ_sz (toQ g.lo)
  unfold szG
  exact ⟨by have:=this.1; omega,by have:=this.2; omega⟩
 ·have:=bQ_sz (toQ g.hi)
  unfold szG
  exact ⟨by have:=this.1; omega,by have:=this.2; omega⟩
theorem all2_mp {α β:Type}{R Q:α→β→Prop}{p:α→Prop}{l:List α}{m:List β}(h:All2 R l m)(hp:∀ x∈l,p x)(hk:∀ x y,p x→R x y→Q x y):All2 Q l m:=by
 induction h with
 | nil=>exact .nil
 | @cons x y xs ys h1 _ ih=>exact .cons (hk _ _ (hp x (by simp)) h1) (ih fun z hz=>hp z (by simp [hz]))
theorem co_k {x:RLo}{y:RE}(hx:loF x=true)(h:CoB x y):elF y=true:=by
 obtain ⟨ek,hp,hq⟩:=h
 obtain ⟨_,_,mp,mq⟩:=zhq hx
 have key:∀ {g:RGp} {y:RF},mayG g=true→CoG g y→InG g y:=fun {g y} hm hy=>by
  obtain ⟨h1,h2⟩:=ok_2 (zhd hm)
  have hl:=may_le hm
  rcases hy with rfl | rfl
  ·exact ⟨h1,Rat.le_refl,hl⟩
  ·exact ⟨h2,hl,Rat.le_refl⟩
 have a:=key mp hp
 have b:=key mq hq
 have:=el_mid hx a.1 b.1 a.2 b.2
 obtain ⟨yk,yp,yq⟩:=y
 have ek':yk=x.k:=ek
 rw [ek']
 exact this
theorem cn_co {g:RGp}(c:Nat):CoG g (endF g c).1:=by
 unfold endF
 split
 ·exact .inl rfl
 ·split
  ·exact .inr rfl
  ·exact .inl rfl
theorem cnF_co:∀ (xs:List RLo) (c:Nat),All2 CoB xs (cnF xs c)
 | [],_=>.nil
 | x::xs,c=>by
  rw [cnF_cons]
  exact .cons ⟨rfl,cn_co _,cn_co _⟩ (cnF_co xs _)
theorem co_rep {xs:List RLo}{ys:List RE}(hx:xs.all loF=true)(h:All2 CoB xs ys):RepM (2*sumL xs+1) (prodQ ys) :=
 zk2 (all2_mp h (p:=fun x=>loF x=true) (List.all_eq_true.1 hx) fun x y hl hc=>by
  have hk:=(elF_iff.1 (co_k hl hc)).2.2
  unfold elM
  exact zc4 (el_repB hk (co_b hc.2.1) (co_b hc.2.2)) zo)
theorem in_k {x:RLo}{y:RE}(hx:loF x=true)(h:InB x y):elF y=true:=by
 obtain ⟨ek,a,b⟩:=h
 have:=el_mid hx a.1 b.1 a.2 b.2
 obtain ⟨yk,yp,yq⟩:=y
 have ek':yk=x.k:=ek
 rw [ek']
 exact this
def InS (x:RLo)(y:RE):Prop:=InB x y∧bQ (2*szG x.p+4) (toQ y.p)∧bQ (2*szG x.q+4) (toQ y.q)
theorem in_rep {xs:List RLo}{ys:List RE}(hx:xs.all loF=true)(h:All2 InS xs ys):RepM (2*sumL xs+1) (prodQ ys) :=
 zk2 (all2_mp h (p:=fun x=>loF x=true) (List.all_eq_true.1 hx) fun x y hl hc=>by
  have hk:=(elF_iff.1 (in_k hl hc.1)).2.2
  unfold elM
  exact zc4 (el_repB hk hc.2.1 hc.2.2) zo)
theorem wi_s {xs:List RLo}{ts:List Nat}(h:FewOk xs)(ht:okB8 ts):All2 InS xs (wiL xs ts):=by
 have key:∀ {xs:List RLo} {F:Nat→RE},(∀ j (h:j<xs.length),InS xs[j] (F j))→All2 InS xs ((List.range xs.length).map F):=by
  intro xs
  induction xs with
  | nil=>exact fun _=>.nil
  | cons x xs ih =>
   intro F h
   rw [List.length_cons,List.range_succ_eq_map,List.map_cons,List.map_map]
   exact .cons (h 0 (by simp)) (ih fun j hj=>h (j+1) (by simpa using hj))
 show All2 InS xs ((List.range xs.length).map (wjF xs ts))
 refine key fun j hj=>?_
 obtain ⟨_,_,mp,mq⟩:=zhq (List.all_eq_true.1 h.a _ (List.getElem_mem hj))
 have hs:=zkr (List.getElem_mem hj)
 have:=h.s
 unfold wjF wiE
 rw [show xs.getD j lo0=xs[j] from by simp [List.getD_eq_getElem?_getD,List.getElem?_eq_getElem hj]]
 exact ⟨⟨rfl,bt_in mp (b8_at ht _) zo,bt_in mq (b8_at ht _) zo⟩,by rw [zd8]; exact bt_b _ (b8_at ht _),by rw [zd8]; exact bt_b _ (b8_at ht _)⟩
theorem all2_l {α β:Type}{R:α→β→Prop}{l:List α}{m:List β}(h:All2 R l m):m.length=l.length:=by
 induction h with
 | nil=>rfl
 | cons _ _ ih=>simp [ih]
theorem all2_ok {xs:List RLo}{ys:List RE}(hx:xs.all loF=true)(h:All2 InB xs ys):ys.all elF=true:=by
 induction h with
 | nil=>rfl
 | @cons x y xs ys h1 _ ih =>
  rw [List.all_cons,Bool.and_eq_true] at hx ⊢
  exact ⟨in_k hx.1 h1,ih hx.2⟩
theorem few_b {xs:List RLo}(h:FewOk xs)(k:Nat):bQ 1603 (aF trQ' xs k)∧bQ 1603 (aF pwQ' xs k):=by
 have hr:=zc4 (co_rep h.a (cnF_co xs k)) (show 2*sumL xs+1≤801 by have:=h.s; omega)
 obtain ⟨a,_,c,d⟩:=zjz hr
 refine ⟨zkl a d,?_⟩
 have:=bQ_negT c
 exact ⟨Nat.le_trans this.1 zd,Nat.le_trans this.2 zd⟩
theorem zj9 {xs:List RLo}(h:FewOk xs){ask:MQ→Rat}(hb:∀ k,bQ 1603 (aF ask xs k)):gapF ask xs=(⟨rfOf (loS (aF ask xs) (2^manyF xs)),rfOf (hiS (aF ask xs) (2^manyF xs))⟩,0)∧longQ (loS (aF ask xs) (2^manyF xs))=false∧longQ (hiS (aF ask xs) (2^manyF xs))=false:=by
 have l1:=zcn (lo_b zd hb (2^manyF xs)) zd
 have l2:=zcn (hi_b zd hb (2^manyF xs)) zd
 refine ⟨?_,l1,l2⟩
 unfold gapF
 rw [if_pos h.t,if_neg (by simp [l1,l2])]
theorem lies24_c (x:RF)(g:RGp):Cn Tryz.prog 20 [(RFA x).va,(GpA g).va] (Bo (lieF x g)):=by
 refine Cn.intro Tryz.func20 rfl zk nq (fun B w0 a hst=>?_)
 have hst:St B w0 17 [(0,(RFA x).va),(1,(GpA g).va)] [] a w0.w:=hst
 refine wp_seq ?_
 refine gl (sts:=[]) (news:=[⟨2,37,ptrH,some 0,_,none⟩,⟨3,39,ptrH,some 1,_,none⟩]) (sp:=[.alc 0,.alc 1,.val 4 _]) [.o 2] hst (oc (zak rfl rfl rfl (gq 0 rfl)) (oc (zak rfl rfl rfl (gq 1 rfl)) (zv rfl (za1 zbk) o0))) (fun a w hst=>?_)
 have hst:St B w0 17 [(4,_)] [⟨2,37,ptrH,_⟩,⟨3,39,ptrH,_⟩] a w:=hst
 refine zt<|gl (sts:=[none,none]) (news:=[]) (sp:=[.adr 5 3 (.some 0) True,.val 6 _,.val 7 _,.val 8 _,.val 9 _,.val 10 _,.val 11 (Wh (_=true) _),.adr 12 3 (.some 4) (_=true),.val 13 (Wh (_=true) _),.val 14 (Wh (_=true) _),.val 15 (Wh (_=true) _),.val 16 _,.val 4 _]) [.o 12] hst (oc (ob_a rfl rfl (za8 (lz0 1 rfl) zbs)) (zv rfl (za4 0 rfl zk trivial (lz0 1 rfl) (Sub.part 0 rfl rfl) za7) (zv rfl (zac (lz0 0 rfl) za7) (zv rfl (za5 (xs:=[.tmp 6,.tmp 7]) (zka _ _) (.cons (vq 1 rfl) (.cons (vq 2 rfl) .nil))) (zv rfl (zir (vq 3 rfl) za3) (zv rfl (za2 (vq 4 rfl)) (oc (zan rfl rfl rfl (vq 5 rfl) nq (fun hg=>zac (lz0 0 rfl) za7)) (oc (zd5 rfl rfl rfl (vq 5 rfl) nq (fun hg=>za8 (lz0 1 rfl) zc1)) (oc (zan rfl rfl rfl (vq 5 rfl) nq (fun hg=>za4 7 rfl zk hg (lz0 1 rfl) (Sub.part 1 rfl rfl) za7)) (oc (zan rfl rfl rfl (vq 5 rfl) nq (fun hg=>za5 (xs:=[.tmp 11,.tmp 13]) (zka _ _) (.cons (zah (vq 6 rfl) hg) (.cons (zah (vq 8 rfl) hg) .nil)))) (oc (zan rfl rfl rfl (vq 5 rfl) nq (fun hg=>zir (zah (vq 9 rfl) hg) za3)) (zv rfl (zcq (vq 5 rfl) (vq 10 rfl)) (zv rfl (za1 (vq 11 rfl)) o0))))))))))))) (fun a w hst=>?_)
 have hst:St B w0 17 [(4,_)] [⟨2,37,ptrH,_⟩,⟨3,39,ptrH,_⟩] a w:=hst
 refine za0 ?_
 refine wp_ret ?_
 refine zad ?_ (zaj rfl hst (zm 0 rfl))
 exact zay
theorem at24_c (ts:List Nat)(j:Nat):Cn Tryz.prog 16 [(SlA 5 [U32] (ts.map U8A)).va,In (j:Nat)] ((U8A (ts.getD j 0)).va):=by
 refine Cn.intro Tryz.func16 rfl zk nq (fun B w0 a hst=>?_)
 have hst:St B w0 13 [(0,(SlA 5 [U32] (ts.map U8A)).va),(1,In (j:Nat))] [] a w0.w:=hst
 refine wp_seq ?_
 refine gl (sts:=[]) (news:=[]) (sp:=[.val 4 _]) [.g 0,.g 1,.o 0] hst (zv rfl (za1 za3) o0) (fun a w hst=>?_)
 have hst:St B w0 13 [(0,_),(1,_),(4,_)] [] a w:=hst
 refine zt ?_
 refine wp_seq ?_
 refine gl (sts:=[]) (news:=[]) (sp:=[.val 5 _,.val 6 _,.val 7 _,.val 8 _]) [.g 0,.g 1,.g 2,.o 3] hst (zv rfl (za2 (gq 1 rfl)) (zv rfl (za2 (gq 0 rfl)) (zv rfl (ze2 Tryz.underlying31 (vq 1 rfl)) (zv rfl (zc2 (vq 0 rfl) (vq 2 rfl)) o0)))) (fun a w hst=>?_)
 have hst:St B w0 13 [(0,_),(1,_),(4,_),(8,_)] [] a w:=hst
 refine za0 ?_
 refine zaa hst (zm 3 rfl) (fun hb0=>?_) (fun hb0=>?_)
 ·have hj:j<ts.length:=by rw [List.length_map] at hb0; have:=of_decide_eq_true hb0; omega
  refine wp_seq ?_
  refine gl (sts:=[]) (news:=[]) (sp:=[.val 9 _,.val 10 _,.val 11 _,.val 12 _,.val 4 _]) [.o 4] hst (zv rfl (za2 (gq 0 rfl)) (zv rfl (za2 (gq 1 rfl)) (zv rfl (zdx sl_31 (zen fun _=>rfl) (vq 0 rfl) (vq 1 rfl) (zdc hj)) (zv rfl (zat (vq 2 rfl) ty_5) (zv rfl (za1 (vq 3 rfl)) o0))))) (fun a w hst=>?_)
  have hst:St B w0 13 [(4,_)] [] a w:=hst
  refine za0 ?_
  refine wp_ret ?_
  refine zaf ?_
  refine zad ?_ (zaj rfl hst (zm 0 rfl))
  exact zcp (congrArg (fun z=>(U8A z).va) (by simp [List.getD_eq_getElem?_getD,List.getElem?_eq_getElem hj]))
 ·have hj:¬ j<ts.length:=by rw [List.length_map] at hb0; have:=of_decide_eq_false hb0; omega
  refine wp_skip ?_
  refine zt<|gl (sts:=[]) (news:=[]) (sp:=[.val 4 _]) [.o 0] hst (zv rfl (za1 za3) o0) (fun a w hst=>?_)
  have hst:St B w0 13 [(4,_)] [] a w:=hst
  refine za0 ?_
  refine wp_ret ?_
  refine zad ?_ (zaj rfl hst (zm 0 rfl))
  exact u8_0 (by simp [List.getD_eq_getElem?_getD,List.getElem?_eq_none (Nat.le_of_not_lt hj)])
theorem btw_c {gp:RGp}{t:Nat}(hm:mayG gp=true)(hs:szG gp≤400):Cn Tryz.prog 43 [(GpA gp).va,(U8A t).va] ((RFA (rfOf (btQ gp t))).va):=by
 refine Cn.intro Tryz.func43 rfl zk nq (fun B w0 a hst=>?_)
 have hst:St B w0 41 [(0,(GpA gp).va),(1,(U8A t).va)] [] a w0.w:=hst
 have ht:t<256:=(zid (hst.vals (1,(U8A t).va) (zm 1 rfl))).1
 have hst:=St.wkG (A':=(NumA .u8 (t:Nat)).va) hst 1 rfl u8_num
 refine wp_seq ?_
 refine gl (sts:=[]) (news:=[⟨2,39,ptrH,some 0,_,none⟩,⟨4,37,ptrH,some 1,_,none⟩]) (sp:=[.alc 0,.alc 1]) [.g 1] hst (oc (zak rfl rfl rfl (gq 0 rfl)) (oc (zag rfl rfl rfl (Str.zero zam)) o0)) (fun a w hst=>?_)
 have hst:St B w0 41 [(1,_)] [⟨2,39,ptrH,_⟩,⟨4,37,ptrH,_⟩] a w:=hst
 refine zt<|gl (sts:=[none,none]) (news:=[⟨5,37,ptrH,some 6,_,some (7,_)⟩]) (sp:=[.val 14 _,.val 15 _,.val 16 _,.val 13 _,.val 17 _,.val 18 _,.alc 2,.sto 2,.val 6 _]) [] hst (zv rfl (za2 (gq 0 rfl)) (zv rfl (zax .i64 zk zk (vq 0 rfl) ((wi64 zo zo))) (zv rfl (za5 (xs:=[.tmp 15,.const (.int .i64 (255))]) (ofQ_c zo zo zd zd zd) (.cons (vq 1 rfl) (.cons za3 .nil))) (zv rfl (za2 (vq 2 rfl)) (zv rfl (zcy (vq 3 rfl)) (zv rfl (zcx (vq 3 rfl)) (oc (zag rfl rfl rfl (Str.zero zam)) (oc (za9 rfl rfl rfl (vq 4 rfl) za7 (Eq.trans (b:=4) rfl rfl)) (zv rfl (za1 (vq 5 rfl)) o0))))))))) (fun a w hst=>?_)
 have hst:St B w0 41 [] [⟨2,39,ptrH,_⟩,⟨4,37,ptrH,_⟩,⟨5,37,ptrH,_⟩] a w:=hst
 refine zt<|gl (sts:=[none,none,none]) (news:=[⟨7,37,ptrH,some 8,_,some (9,_)⟩]) (sp:=[.adr 20 2 (.some 4) True,.val 21 _,.adr 22 2 (.some 0) True,.val 23 _,.val 24 _,.val 19 _,.val 25 _,.val 26 _,.alc 3,.sto 3,.val 8 _]) [] hst (oc (ob_a rfl rfl (za8 (lz0 0 rfl) zc1)) (zv rfl (za4 0 rfl zk trivial (lz0 0 rfl) (Sub.part 1 rfl rfl) za7) (oc (ob_a rfl rfl (za8 (lz0 0 rfl) zbs)) (zv rfl (za4 2 rfl zk trivial (lz0 0 rfl) (Sub.part 0 rfl rfl) za7) (zv rfl (za5 (xs:=[.tmp 21,.tmp 23]) ((subF_c gp.hi gp.lo).post (congrArg FrR (bt_s hm hs))) (.cons (vq 1 rfl) (.cons (vq 3 rfl) .nil))) (zv rfl (za2 (vq 4 rfl)) (zv rfl (zcy (vq 5 rfl)) (zv rfl (zcx (vq 5 rfl)) (oc (zag rfl rfl rfl (Str.zero zam)) (oc (za9 rfl rfl rfl (vq 6 rfl) za7 (Eq.trans (b:=4) rfl rfl)) (zv rfl (za1 (vq 7 rfl)) o0))))))))))) (fun a w hst=>?_)
 have hst:St B w0 41 [] [⟨2,39,ptrH,_⟩,⟨4,37,ptrH,_⟩,⟨5,37,ptrH,_⟩,⟨7,37,ptrH,_⟩] a w:=hst
 refine zt<|gl (sts:=[none,none,none,none]) (news:=[⟨9,37,ptrH,some 6,_,some (7,_)⟩]) (sp:=[.val 28 _,.val 29 _,.val 30 _,.val 27 _,.val 31 _,.val 32 _,.alc 4,.sto 4,.val 10 _]) [] hst (zv rfl (zac (lz0 3 rfl) za7) (zv rfl (zac (lz0 2 rfl) za7) (zv rfl (za5 (xs:=[.tmp 28,.tmp 29]) ((mul_c (rfOf (toQ gp.hi-toQ gp.lo)) (rfOf (Rat.divInt t 255))).post (congrArg FrR (bt_m ht hs))) (.cons (vq 0 rfl) (.cons (vq 1 rfl) .nil))) (zv rfl (za2 (vq 2 rfl)) (zv rfl (zcy (vq 3 rfl)) (zv rfl (zcx (vq 3 rfl)) (oc (zag rfl rfl rfl (Str.zero zam)) (oc (za9 rfl rfl rfl (vq 4 rfl) za7 (Eq.trans (b:=4) rfl rfl)) (zv rfl (za1 (vq 5 rfl)) o0))))))))) (fun a w hst=>?_)
 have hst:St B w0 41 [] [⟨2,39,ptrH,_⟩,⟨4,37,ptrH,_⟩,⟨5,37,ptrH,_⟩,⟨7,37,ptrH,_⟩,⟨9,37,ptrH,_⟩] a w:=hst
 refine zt<|gl (sts:=[none,none,none,none,none]) (news:=[⟨11,37,ptrH,some 7,_,some (8,_)⟩]) (sp:=[.adr 34 2 (.some 0) True,.val 35 _,.val 36 _,.val 37 _,.val 33 _,.val 38 _,.val 39 _,.alc 5,.sto 5,.val 12 _]) [] hst (oc (ob_a rfl rfl (za8 (lz0 0 rfl) zbs)) (zv rfl (za4 0 rfl zk trivial (lz0 0 rfl) (Sub.part 0 rfl rfl) za7) (zv rfl (zac (lz0 4 rfl) za7) (zv rfl (za5 (xs:=[.tmp 35,.tmp 36]) ((addF_c gp.lo (rfOf ((toQ gp.hi-toQ gp.lo)*Rat.divInt t 255))).post (congrArg FrR (bt_a hm ht hs))) (.cons (vq 1 rfl) (.cons (vq 2 rfl) .nil))) (zv rfl (za2 (vq 3 rfl)) (zv rfl (zcy (vq 4 rfl)) (zv rfl (zcx (vq 4 rfl)) (oc (zag rfl rfl rfl (Str.zero zam)) (oc (za9 rfl rfl rfl (vq 5 rfl) za7 (Eq.trans (b:=4) rfl rfl)) (zv rfl (za1 (vq 6 rfl)) o0)))))))))) (fun a w hst=>?_)
 have hst:St B w0 41 [] [⟨2,39,ptrH,_⟩,⟨4,37,ptrH,_⟩,⟨5,37,ptrH,_⟩,⟨7,37,ptrH,_⟩,⟨9,37,ptrH,_⟩,⟨11,37,ptrH,_⟩] a w:=hst
 refine zt<|gl (sts:=[none,some (1,_),none,none,none,none]) (news:=[]) (sp:=[.val 40 _,.sto 1]) [] hst (zv rfl (zac (lz0 5 rfl) za7) (oc (za9 rfl rfl rfl (vq 0 rfl) za7 (Eq.trans (b:=4) rfl rfl)) o0)) (fun a w hst=>?_)
 have hst:St B w0 41 [] [⟨2,39,ptrH,_⟩,⟨4,37,ptrH,_⟩,⟨5,37,ptrH,_⟩,⟨7,37,ptrH,_⟩,⟨9,37,ptrH,_⟩,⟨11,37,ptrH,_⟩] a w:=hst
 refine za0 ?_
 refine wp_ret ?_
 refine zad ?_ (zao rfl hst (zm 1 rfl) za7)
 exact zay
end Go.Proofs.YtlpppkkggljdcaaGreat
namespace Go.Proofs.YtlpppkkggljdcaaGreat
open Go Go.RowKit
theorem few_at {xs:List RLo}(h:FewOk xs){j:Nat}(hj:j<xs.length):mayG xs[j].p=true∧mayG xs[j].q=true∧szG xs[j].p≤400∧szG xs[j].q≤400:=by
 obtain ⟨_,_,mp,mq⟩:=zhq (List.all_eq_true.1 h.a _ (List.getElem_mem hj))
 have hs:=zkr (List.getElem_mem hj)
 have:=h.s
 exact ⟨mp,mq,by omega,by omega⟩
set_option maxHeartbeats 2000000 in
theorem within24_c (xs:List RLo)(ts:List Nat)(hF:FewOk xs):Cn Tryz.prog 30 [(SlA 41 [U32] (xs.map LoA)).va,(SlA 5 [U32] (ts.map U8A)).va] ((SlA 62 [U32] ((wiL xs ts).map REA)).va):=by
 obtain ⟨it,z,e1,e2,e3,e4,e5⟩:=app_cel
 refine Cn.intro Tryz.func30 rfl zk nq (fun B w0 a hst=>?_)
 have hst:St B w0 44 [(0,(SlA 41 [U32] (xs.map LoA)).va),(1,(SlA 5 [U32] (ts.map U8A)).va)] [] a w0.w:=hst
 refine wp_seq ?_
 refine gl (sts:=[]) (news:=[]) (sp:=[.val 4 _]) [.g 0,.g 1,.o 0] hst (zv rfl (za1 zbh) o0) (fun a w hst=>?_)
 have hst:St B w0 44 [(0,_),(1,_),(4,_)] [] a w:=hst
 refine zt<|gl (sts:=[]) (news:=[]) (sp:=[.val 5 _]) [.g 0,.g 1,.g 2,.o 0] hst (zv rfl (za1 zbh) o0) (fun a w hst=>?_)
 have hst:St B w0 44 [(0,_),(1,_),(4,_),(5,_)] [] a w:=hst
 refine zt ?_
 refine wp_seq ?_
 refine gl (sts:=[]) (news:=[]) (sp:=[.val 6 _]) [.g 0,.g 1,.g 2,.g 3,.o 0] hst (zv rfl (za1 za3) o0) (fun a w hst=>?_)
 have hst:St B w0 44 [(0,_),(1,_),(4,_),(5,_),(6,_)] [] a w:=hst
 refine za0 ?_
 refine wp_block ?_
 have hst:=St.sel hst [0,1,3,4]
 refine wp_loop_ghost (fun n a w=>∃ j:Nat,(n+j=xs.length)∧St B w0 44 [(0,(SlA 41 [U32] (xs.map LoA)).va),(1,(SlA 5 [U32] (ts.map U8A)).va),(5,OwnR w0.w.heap.size 62 9 [U32] (((List.range j).map (wjF xs ts)).map REA)),(6,In (j:Nat))] [] a w) (xs.length) ?_ ?_
 ·have hst:=St.wkG (A':=OwnR w0.w.heap.size 62 9 [U32] (((List.range 0).map (wjF xs ts)).map REA)) hst 2 rfl own_nil
  exact ⟨0,by omega,hst⟩
 intro n a w hI
 obtain ⟨j,hn,hst⟩:=hI
 refine wp_seq ?_
 refine wp_seq ?_
 refine gl (sts:=[]) (news:=[]) (sp:=[.val 7 _,.val 8 _,.val 9 _,.val 10 _]) [.g 0,.g 1,.g 2,.g 3,.o 3] hst (zv rfl (za2 (gq 3 rfl)) (zv rfl (za2 (gq 0 rfl)) (zv rfl (ze2 Tryz.underlying22 (vq 1 rfl)) (zv rfl (zc2 (vq 0 rfl) (vq 2 rfl)) o0)))) (fun a w hst=>?_)
 have hst:St B w0 44 [(0,_),(1,_),(5,_),(6,_),(10,_)] [] a w:=hst
 refine za0 ?_
 refine zaa hst (zm 4 rfl) (fun hb0=>?_) (fun hb0=>?_)
 ·have hj:j<xs.length:=by rw [List.length_map] at hb0; have:=of_decide_eq_true hb0; omega
  have h30:=hF.l30
  refine wp_skip ?_
  refine zt ?_
  refine wp_block ?_
  refine go_app (sp:=((.val 13 _:Sp)::(.val 14 _)::(.val 15 _)::(.val 16 _)::(.val 17 _)::(.val 18 _)::(.val 19 _)::(.val 20 _)::(.val 21 _)::(.val 22 _)::(.val 23 _)::(.val 24 _)::(.val 25 _)::(.val 26 _)::(.val 27 _)::(.val 28 _)::(.val 29 _)::(.val 30 _)::(.val 31 _)::(.val 32 _)::(.val 33 _)::(.val 34 _)::(.val 35 _)::(.val 36 _)::(.val 37 _)::(.val 38 _)::(.val 39 _)::(.val 40 _)::(.val 41 _)::(.val 42 VT)::(.val 5 VT)::[])) [[],[],[],[1,2],[1,2,3],[1,2,3,4],[],[],[6,7],[6,7,8],[6,7,8,9],[],[],[12],[11,12,13],[6,7,8,9,10,11,12,13,14],[],[],[16,17],[16,17,18],[16,17,18,19],[],[],[22],[22,23],[6,7,8,9,10,11,12,13,14,15,21,22,23,24],[6,7,8,9,10,11,12,13,14,15,16,17,18,19,20,21,22,23,24,25],[1,2,3,4,5,6,7,8,9,10,11,12,13,14,15,16,17,18,19,20,21,22,23,24,25,26],[1,2,3,4,5,6,7,8,9,10,11,12,13,14,15,16,17,18,19,20,21,22,23,24,25,26,27],[0,1,2,3,4,5,6,7,8,9,10,11,12,13,14,15,16,17,18,19,20,21,22,23,24,25,26,27,28],[0,1,2,3,4,5,6,7,8,9,10,11,12,13,14,15,16,17,18,19,20,21,22,23,24,25,26,27,28,29]] 29 [0,1,3] 0 28 za6 hst (zv rfl (za2 (gq 2 rfl)) (zv rfl (za2 (gq 0 rfl)) (zv rfl (za2 (gq 3 rfl)) (zv rfl (zdx zfg (zen fun _=>rfl) (vq 1 rfl) (vq 2 rfl) (zdc hj)) (zv rfl (zbn (vq 3 rfl) zgs (Sub.part 0 rfl rfl)) (zv rfl (zat (vq 4 rfl) zgx) (zv rfl (za2 (gq 0 rfl)) (zv rfl (za2 (gq 3 rfl)) (zv rfl (zdx zfg (zen fun _=>rfl) (vq 6 rfl) (vq 7 rfl) (zdc hj)) (zv rfl (zbn (vq 8 rfl) zck (Sub.part 1 rfl rfl)) (zv rfl (zat (vq 9 rfl) zby) (zv rfl (za2 (gq 1 rfl)) (zv rfl (za2 (gq 3 rfl)) (zv rfl (r_mul za3 (vq 12 rfl) ((wi64 zo zo).trans (by omega:(_:Int)=((2*j:Nat):Int)))) (zv rfl (za5 (xs:=[.tmp 24,.tmp 26]) (at24_c ts (2*j)) (.cons (vq 11 rfl) (.cons (vq 13 rfl) .nil))) (zv rfl (za5 (xs:=[.tmp 23,.tmp 27]) (btw_c (few_at hF hj).1 (few_at hF hj).2.2.1) (.cons (vq 10 rfl) (.cons (vq 14 rfl) .nil))) (zv rfl (za2 (gq 0 rfl)) (zv rfl (za2 (gq 3 rfl)) (zv rfl (zdx zfg (zen fun _=>rfl) (vq 16 rfl) (vq 17 rfl) (zdc hj)) (zv rfl (zbn (vq 18 rfl) zd7 (Sub.part 2 rfl rfl)) (zv rfl (zat (vq 19 rfl) zby) (zv rfl (za2 (gq 1 rfl)) (zv rfl (za2 (gq 3 rfl)) (zv rfl (r_mul za3 (vq 22 rfl) ((wi64 zo zo).trans (by omega:(_:Int)=((2*j:Nat):Int)))) (zv rfl (zbd (vq 23 rfl) za3 ((wi64 zo zo).trans (by omega:(_:Int)=((2*j+1:Nat):Int)))) (zv rfl (za5 (xs:=[.tmp 34,.tmp 37]) (at24_c ts (2*j+1)) (.cons (vq 21 rfl) (.cons (vq 24 rfl) .nil))) (zv rfl (za5 (xs:=[.tmp 33,.tmp 38]) (btw_c (few_at hF hj).2.1 (few_at hF hj).2.2.2) (.cons (vq 20 rfl) (.cons (vq 25 rfl) .nil))) (zv rfl (zb0 (xs:=[(0,.tmp 18),(1,.tmp 28),(2,.tmp 39)]) (qs:=[(0,_),(1,_),(2,_)]) ze0 (.cons ⟨rfl,(vq 5 rfl),rfl⟩ (.cons ⟨rfl,(vq 15 rfl),rfl⟩ (.cons ⟨rfl,(vq 26 rfl),rfl⟩ .nil)))) (zv rfl (zc5 (D:=[U32]) (l:=[_]) (xs:=[.tmp 40]) (zdt zk) sl_51 zk (n_ok zk) nq nq nq (.cons (vq 27 rfl) .nil) rfl rfl) o0))))))))))))))))))))))))))))) rfl zk zk zk zk rfl rfl zd rfl zd rfl Tryz.underlying51 e1 e2 e3 e4 e5 zd (by rw [List.length_map,List.length_map,List.length_range]; have:=hF.l30; omega) zd (fun T hT=>hT) zd rfl zk nq nq zk zk (fun a w hst=>?_)
  have hst:St B w0 44 [(5,_),(0,_),(1,_),(6,_)] [] a w:=hst
  refine zap ?_
  refine za0 ?_
  refine gl (sts:=[]) (news:=[]) (sp:=[.val 11 _,.val 12 _,.val 6 _]) [.g 0,.g 1,.g 2,.o 2] hst (zv rfl (za2 (gq 3 rfl)) (zv rfl (zbd (vq 0 rfl) za3 ((wi64 zo zo).trans (by omega:(_:Int)=((j+1:Nat):Int)))) (zv rfl (za1 (vq 1 rfl)) o0))) (fun a w hst=>?_)
  have hst:St B w0 44 [(5,_),(0,_),(1,_),(6,_)] [] a w:=hst
  refine za0 ?_
  have hst:=St.sel hst [1,2,0,3]
  have hst:=St.wkG (A':=OwnR w0.w.heap.size 62 9 [U32] (((List.range (j+1)).map (wjF xs ts)).map REA)) hst 2 rfl (zcp (congrArg (OwnR w0.w.heap.size 62 9 [U32]) (wj_nx hj)))
  exact ⟨n-1,by omega,j+1,by omega,hst⟩
 ·obtain rfl:j=xs.length:=by rw [List.length_map] at hb0; have:=of_decide_eq_false hb0; omega
  refine wp_exit ?_
  refine zae ?_
  refine zae ?_
  refine zaz ?_
  refine zt<|gl (sts:=[]) (news:=[]) (sp:=[.val 43 _,.val 4 _]) [.o 1] hst (zv rfl (za2 (gq 2 rfl)) (zv rfl (za1 (vq 0 rfl)) o0)) (fun a w hst=>?_)
  have hst:St B w0 44 [(4,_)] [] a w:=hst
  refine za0 ?_
  refine wp_ret ?_
  refine zad ?_ (zaj rfl hst (zm 0 rfl))
  exact own_sl
end Go.Proofs.YtlpppkkggljdcaaGreat
