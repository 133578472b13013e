import Derived.Test.YthncfchnkjemiaaGreatDoorRmAa
import Derived.Test.YthncfchnkjemiaaGreatDoorRmAc
import Derived.Test.YthncfchnkjemiaaGreatDoorRmAn
import Derived.Test.YthncfchnkjemiaaGreatDoorRmAt
set_option linter.unusedVariables false
set_option linter.unusedSimpArgs false
set_option linter.unusedSectionVars false
set_option maxRecDepth 100000
namespace Go.Proofs.YthncfchnkjemiaaGreatDoor
open Go Go.RowKit
abbrev KL:=List (Value × List Nat)
def addL:List Slot→KL→List Slot
 | L,[]=>L
 | L,p::l=>addL (L++[newS p.1 p.2 (L.length+1)]) l
def SepL:List Slot→KL→Prop
 | _,[]=>True
 | L,p::l=>(∀ t∈L,∀ g,t.has g→p.1.ownBlock≠some g)∧SepL (L++[newS p.1 p.2 (L.length+1)]) l
theorem zco:∀ {l:KL} {L:List Slot},(addL L l).length=L.length+l.length
 | [],L=>rfl
 | p::l,L=>by rw [addL,zco]; simp; omega
theorem zcp:∀ {l m:KL} {L:List Slot},addL L (l++m)=addL (addL L l) m
 | [],m,L=>rfl
 | p::l,m,L=>by rw [List.cons_append,addL,addL,zcp]
theorem zcw:∀ {l m:KL} {L:List Slot},SepL L (l++m)→SepL L l∧SepL (addL L l) m
 | [],m,L,h=>⟨trivial,h⟩
 | p::l,m,L,h=>by
  obtain ⟨h1,h2⟩:=h
  obtain ⟨h3,h4⟩:=zcw h2
  exact ⟨⟨h1,h3⟩,h4⟩
def kbl (l:KL):List Nat:=l.filterMap fun p=>p.1.ownBlock
theorem zu2:∀ {l:KL} {L:List Slot},(kbl l).Nodup→(∀ t∈L,∀ g,t.has g→g ∉ kbl l)→SepL L l
 | [],L,_,_=>trivial
 | p::l,L,hn,hL=>by
  have hk:∀ g,p.1.ownBlock=some g→kbl (p::l)=g::kbl l:=fun g hg=>by simp [kbl,List.filterMap_cons,hg]
  have hk0:p.1.ownBlock=none→kbl (p::l)=kbl l:=fun hg=>by simp [kbl,List.filterMap_cons,hg]
  have hsub:∀ g,g∈kbl l→g∈kbl (p::l):=fun g hg=>by
   cases hp:p.1.ownBlock with
   | none=>rw [hk0 hp]; exact hg
   | some g'=>rw [hk g' hp]; exact List.mem_cons_of_mem _ hg
  refine ⟨fun t ht g hg hp=>hL t ht g hg (by rw [hk g hp]; exact List.mem_cons_self ..),zu2 ?_ fun t ht g hg hm=>?_⟩
  ·cases hp:p.1.ownBlock with
   | none=>rw [hk0 hp] at hn; exact hn
   | some g'=>rw [hk g' hp] at hn; exact (List.nodup_cons.1 hn).2
  ·rcases List.mem_append.1 ht with ht | ht
   ·exact hL t ht g hg (hsub g hm)
   ·obtain rfl:=List.mem_singleton.1 ht
    have hp:p.1.ownBlock=some g:=by rcases hg with h | h <;> exact h
    rw [hk g hp] at hn
    exact (List.nodup_cons.1 hn).1 hm
theorem zre:∀ {l:KL} {L:List Slot} {s:Slot},s∈addL L l→s∈L∨∃ p∈l,∃ n,n≤L.length+l.length∧s=newS p.1 p.2 n
 | [],L,s,h=>.inl h
 | p::l,L,s,h=>by
  rcases zre (l:=l) h with h | ⟨q,hq,n,hn,e⟩
  ·rcases List.mem_append.1 h with h | h
   ·exact .inl h
   ·exact .inr ⟨p,by simp,L.length+1,by simp,List.mem_singleton.1 h⟩
  ·exact .inr ⟨q,by simp [hq],n,by simp at hn ⊢; omega,e⟩
def JkA:As where
 n:=17
 ag:=true
 p _ cs _:=cs.length=17∧∀ c∈cs,c.oneCell'=true
 deps:=[]
 len:=fun _ _ _ h=>h.1
 one:=fun _ _ _ h=>h.2
 ag1:=fun h=>by cases h
 cg:=fun _ _ _ _ _ h=>h
 wr:=fun _ _ _ _ _ _ _ _ _ _ _ _ h=>h
def IntP (x:RI)(m:Value):As:=cat [BoA x.neg,PinA m (MgN x.mag)]
def FracP (x:RF)(m1 m2:Value):As:=cat [IntP x.num m1,IntP x.den m2]
abbrev kf (x:RF)(m1 m2:Value):KL:=[(m1,x.num.mag),(m2,x.den.mag)]
theorem keepE_c (v:Value)(xs:List Nat)(L:List Slot)(hsep:∀ t∈L,∀ g,t.has g→v.ownBlock≠some g)(hl:L.length≤1000000):CK Tryz.prog 254 59 [59,171] (BkE L) (BkE (L++[newS v xs (L.length+1)])) [(PinA v (MgN xs)).va] (Tu []) :=
 CK.ex (c:=fun _=>True) (keep_c undef v xs L hsep hl).1 (fun vr _=>keep_c vr v xs L hsep hl) fun B cs w ⟨vr,h⟩=>⟨vr,trivial,h⟩
theorem apart_ex : ∃ fn, Tryz.prog.funcs[26]? = some fn ∧ (fn.name == "runtime.NumGoroutine") = false ∧ fn.body.isNone = false := ⟨_, Tryz.func26, by kernel_rfl, by kernel_rfl⟩
theorem apartE_c (l:KL)(hok:∀ p∈l,okL p.2∧p.2.length≤2000000000000)(hl:l.length≤1000000):CK Tryz.prog 26 59 [59,171,168] (BkE (addL [] l)) JkA [] (Bo true):=by
 have hlen:(addL [] l).length≤1000000:=by rw [zco]; simpa using hl
 refine CK.ex (c:=fun _=>∀ s∈addL [] l,s.new) (apart_ex) (fun vr hn=>(apart_c vr (addL [] l) hn hlen).wk fun B cs w h=>?_) fun B cs w ⟨vr,h⟩=>⟨vr,fun s hs=>?_,h⟩
 ·exact ⟨(GkA vr _).len _ _ _ h,(GkA vr _).one _ _ _ h⟩
 ·obtain ⟨c,h0⟩:=zml h
  have hrv:=(h0.2.2.1 s hs).2.1
  rcases zre hs with h1 | ⟨p,hp,n,hn,rfl⟩
  ·cases h1
  ·exact { rv:=hrv,ox:=(hok p hp).1,oy:=(hok p hp).1,z1:=rfl,n1:=by simp at hn; show n≤_; omega,lx:=(hok p hp).2,uv:=rfl,yx:=rfl }
theorem zw4 (x:RI)(m:Value)(L:List Slot)(hs:SepL L [(m,x.mag)])(hl:L.length≤999999):CK Tryz.prog 106 59 [59,171] (BkE L) (BkE (addL L [(m,x.mag)])) [(IntP x m).va] (Tu []):=by
 refine CK.intro Tryz.func106 rfl zk nq zk (fun B g w0 a hrm hst=>?_)
 have hst:St B w0 8 [(0,EqV ((ptrH).f g)),(1,(IntP x m).va)] [⟨0,59,ptrH,BkE L⟩] a w0.w:=hst
 refine wp_seq ?_
 refine gl (sts:=[none]) (news:=[⟨3,24,ptrH,some 0,_,none⟩]) (sp:=[.alc 1]) [.g 0] hst (oc (zak rfl rfl rfl (gq 1 rfl)) o0) (fun a w hst=>?_)
 have hst:St B w0 8 [(0,_)] [⟨0,59,ptrH,_⟩,⟨3,24,ptrH,_⟩] a w:=hst
 refine za0 ?_
 refine zch (sp:=[.val 4 _,.adr 5 3 (.some 1) True,.val 6 _,.val 7 VT]) 3 1 99 3 OneC [.g 0,.o 0,.o 2] hst (zv rfl (za2 (gq 0 rfl)) (oc (ob_a rfl rfl (zaa (lz0 1 rfl) zal)) (zv rfl (za4 1 rfl zk trivial (lz0 1 rfl) (Sub.part 1 rfl rfl) zbg) o0))) rfl zd zk zk (fun a w hst=>?_)
 have hst:St B w0 8 [(0,_),(4,_),(6,_)] [⟨0,59,ptrH,_⟩,⟨3,24,ptrH,_⟩] a w:=hst
 rw [show List.range' 3 1=[3] from rfl]
 rw [wpOps_cons]
 refine zdp (A1:=BkE (L++[newS m x.mag (L.length+1)])) (xs:=[.tmp 6]) [0] [2] 0 rfl hst (keepE_c m x.mag L hs.1 zo) rfl (Eq.trans (b:=ptr g) (hst.vals _ (zm 1 rfl)) (Eq.symm (hst.vals _ (zm 0 rfl)))) (.cons ⟨_,rfl,rfl⟩ .nil) rfl hrm zd zk zk zk zk (fun a w hst=>?_)
 refine zc5 ?_
 have hst:St B w0 8 [(7,_),(0,_)] [⟨0,59,ptrH,BkE (L++[newS m x.mag (L.length+1)])⟩,⟨3,24,ptrH,_⟩] a w:=hst
 refine zbm ?_
 refine zf3 hst (zm 1 rfl) (zm 0 rfl) ?_
 exact zaq (rs:=[]) rfl hst .nil zd
theorem zjo (x:RF)(m1 m2:Value)(L:List Slot)(hs:SepL L (kf x m1 m2))(hl:L.length≤999990):CK Tryz.prog 25 59 [59,171] (BkE L) (BkE (addL L (kf x m1 m2))) [(FracP x m1 m2).va] (Tu []):=by
 obtain ⟨hs1,hs2⟩:=zcw (l:=[(m1,x.num.mag)]) (m:=[(m2,x.den.mag)]) hs
 refine CK.intro Tryz.func25 rfl zk nq zk (fun B g w0 a hrm hst=>?_)
 have hst:St B w0 12 [(0,EqV ((ptrH).f g)),(1,(FracP x m1 m2).va)] [⟨0,59,ptrH,BkE L⟩] a w0.w:=hst
 refine wp_seq ?_
 refine gl (sts:=[none]) (news:=[⟨3,26,ptrH,some 0,_,none⟩]) (sp:=[.alc 1]) [.g 0] hst (oc (zak rfl rfl rfl (gq 1 rfl)) o0) (fun a w hst=>?_)
 have hst:St B w0 12 [(0,_)] [⟨0,59,ptrH,_⟩,⟨3,26,ptrH,_⟩] a w:=hst
 refine zt<|zch (sp:=[.val 4 _,.adr 5 3 (.some 0) True,.val 6 _,.val 7 VT]) 3 1 99 3 OneC [.g 0,.o 0,.o 2] hst (zv rfl (za2 (gq 0 rfl)) (oc (ob_a rfl rfl (zaa (lz0 1 rfl) zbn)) (zv rfl (za4 1 rfl zk trivial (lz0 1 rfl) (Sub.part 0 rfl rfl) zac) o0))) rfl zd zk zk (fun a w hst=>?_)
 have hst:St B w0 12 [(0,_),(4,_),(6,_)] [⟨0,59,ptrH,_⟩,⟨3,26,ptrH,_⟩] a w:=hst
 rw [show List.range' 3 1=[3] from rfl]
 rw [wpOps_cons]
 refine zdp (A1:=BkE (addL L [(m1,x.num.mag)])) (xs:=[.tmp 6]) [0] [2] 0 rfl hst (zw4 x.num m1 L hs1 zo) rfl (Eq.trans (b:=ptr g) (hst.vals _ (zm 1 rfl)) (Eq.symm (hst.vals _ (zm 0 rfl)))) (.cons ⟨_,rfl,rfl⟩ .nil) rfl hrm zd zk zk zk zk (fun a w hst=>?_)
 refine zc5 ?_
 have hst:St B w0 12 [(7,_),(0,_)] [⟨0,59,ptrH,BkE (addL L [(m1,x.num.mag)])⟩,⟨3,26,ptrH,_⟩] a w:=hst
 refine za0 ?_
 refine zch (sp:=[.val 8 _,.adr 9 3 (.some 2) True,.val 10 _,.val 11 VT]) 3 1 99 3 OneC [.g 1,.o 0,.o 2] hst (zv rfl (za2 (gq 1 rfl)) (oc (ob_a rfl rfl (zaa (lz0 1 rfl) zbf)) (zv rfl (za4 1 rfl zk trivial (lz0 1 rfl) (Sub.part 1 rfl rfl) zac) o0))) rfl zd zk zk (fun a w hst=>?_)
 have hst:St B w0 12 [(0,_),(8,_),(10,_)] [⟨0,59,ptrH,_⟩,⟨3,26,ptrH,_⟩] a w:=hst
 rw [show List.range' 3 1=[3] from rfl]
 rw [wpOps_cons]
 refine zdp (A1:=BkE (addL L (kf x m1 m2))) (xs:=[.tmp 10]) [0] [2] 0 rfl hst (zw4 x.den m2 (addL L [(m1,x.num.mag)]) hs2 (by rw [zco]; simp; omega)) rfl (Eq.trans (b:=ptr g) (hst.vals _ (zm 1 rfl)) (Eq.symm (hst.vals _ (zm 0 rfl)))) (.cons ⟨_,rfl,rfl⟩ .nil) rfl hrm zd zk zk zk zk (fun a w hst=>?_)
 refine zc5 ?_
 have hst:St B w0 12 [(11,_),(0,_)] [⟨0,59,ptrH,BkE (addL L (kf x m1 m2))⟩,⟨3,26,ptrH,_⟩] a w:=hst
 refine zbm ?_
 refine zf3 hst (zm 1 rfl) (zm 0 rfl) ?_
 exact zaq (rs:=[]) rfl hst .nil zd
def MatP (x:RM)(m:Nat→Value):As:=cat [FracP x.a (m 0) (m 1),FracP x.b (m 2) (m 3),FracP x.c (m 4) (m 5),FracP x.d (m 6) (m 7)]
abbrev km (x:RM)(m:Nat→Value):KL:=kf x.a (m 0) (m 1)++kf x.b (m 2) (m 3)++kf x.c (m 4) (m 5)++kf x.d (m 6) (m 7)
theorem zfk (x:RM)(m:Nat→Value)(L:List Slot)(hs:SepL L (km x m))(hl:L.length≤999958):CK Tryz.prog 23 59 [59,171] (BkE L) (BkE (addL (addL (addL (addL L (kf x.a (m 0) (m 1))) (kf x.b (m 2) (m 3))) (kf x.c (m 4) (m 5))) (kf x.d (m 6) (m 7)))) [(MatP x m).va] (Tu []):=by
 obtain ⟨hs,hs3⟩:=zcw (l:=(kf x.a (m 0) (m 1))++(kf x.b (m 2) (m 3))++(kf x.c (m 4) (m 5))) (m:=kf x.d (m 6) (m 7)) hs
 obtain ⟨hs,hs2⟩:=zcw (l:=(kf x.a (m 0) (m 1))++(kf x.b (m 2) (m 3))) (m:=kf x.c (m 4) (m 5)) hs
 obtain ⟨hs0,hs1⟩:=zcw (l:=kf x.a (m 0) (m 1)) (m:=kf x.b (m 2) (m 3)) hs
 rw [zcp] at hs2
 rw [zcp,zcp] at hs3
 refine CK.intro Tryz.func23 rfl zk nq zk (fun B g w0 a hrm hst=>?_)
 have hst:St B w0 20 [(0,EqV ((ptrH).f g)),(1,(MatP x m).va)] [⟨0,59,ptrH,BkE L⟩] a w0.w:=hst
 refine wp_seq ?_
 refine gl (sts:=[none]) (news:=[⟨3,28,ptrH,some 0,_,none⟩]) (sp:=[.alc 1]) [.g 0] hst (oc (zak rfl rfl rfl (gq 1 rfl)) o0) (fun a w hst=>?_)
 have hst:St B w0 20 [(0,_)] [⟨0,59,ptrH,_⟩,⟨3,28,ptrH,_⟩] a w:=hst
 refine zt<|zch (sp:=[.val 4 _,.adr 5 3 (.some 0) True,.val 6 _,.val 7 VT]) 3 1 99 3 OneC [.g 0,.o 0,.o 2] hst (zv rfl (za2 (gq 0 rfl)) (oc (ob_a rfl rfl (zaa (lz0 1 rfl) zc4)) (zv rfl (za4 1 rfl zk trivial (lz0 1 rfl) (Sub.part 0 rfl rfl) zaf) o0))) rfl zd zk zk (fun a w hst=>?_)
 have hst:St B w0 20 [(0,_),(4,_),(6,_)] [⟨0,59,ptrH,_⟩,⟨3,28,ptrH,_⟩] a w:=hst
 rw [show List.range' 3 1=[3] from rfl]
 rw [wpOps_cons]
 refine zdp (A1:=BkE (addL L (kf x.a (m 0) (m 1)))) (xs:=[.tmp 6]) [0] [2] 0 rfl hst (zjo (x.a) (m 0) (m 1) (L) hs0 (by (try simp only [zco,List.length_append,List.length_cons,List.length_nil]); omega)) rfl (Eq.trans (b:=ptr g) (hst.vals _ (zm 1 rfl)) (Eq.symm (hst.vals _ (zm 0 rfl)))) (.cons ⟨_,rfl,rfl⟩ .nil) rfl hrm zd zk zk zk zk (fun a w hst=>?_)
 refine zc5 ?_
 have hst:St B w0 20 [(7,_),(0,_)] [⟨0,59,ptrH,BkE (addL L (kf x.a (m 0) (m 1)))⟩,⟨3,28,ptrH,_⟩] a w:=hst
 refine zt<|zch (sp:=[.val 8 _,.adr 9 3 (.some 4) True,.val 10 _,.val 11 VT]) 3 1 99 3 OneC [.g 1,.o 0,.o 2] hst (zv rfl (za2 (gq 1 rfl)) (oc (ob_a rfl rfl (zaa (lz0 1 rfl) zca)) (zv rfl (za4 1 rfl zk trivial (lz0 1 rfl) (Sub.part 1 rfl rfl) zaf) o0))) rfl zd zk zk (fun a w hst=>?_)
 have hst:St B w0 20 [(0,_),(8,_),(10,_)] [⟨0,59,ptrH,_⟩,⟨3,28,ptrH,_⟩] a w:=hst
 rw [show List.range' 3 1=[3] from rfl]
 rw [wpOps_cons]
 refine zdp (A1:=BkE (addL (addL L (kf x.a (m 0) (m 1))) (kf x.b (m 2) (m 3)))) (xs:=[.tmp 10]) [0] [2] 0 rfl hst (zjo (x.b) (m 2) (m 3) (addL L (kf x.a (m 0) (m 1))) hs1 (by (try simp only [zco,List.length_append,List.length_cons,List.length_nil]); omega)) rfl (Eq.trans (b:=ptr g) (hst.vals _ (zm 1 rfl)) (Eq.symm (hst.vals _ (zm 0 rfl)))) (.cons ⟨_,rfl,rfl⟩ .nil) rfl hrm zd zk zk zk zk (fun a w hst=>?_)
 refine zc5 ?_
 have hst:St B w0 20 [(11,_),(0,_)] [⟨0,59,ptrH,BkE (addL (addL L (kf x.a (m 0) (m 1))) (kf x.b (m 2) (m 3)))⟩,⟨3,28,ptrH,_⟩] a w:=hst
 refine zt<|zch (sp:=[.val 12 _,.adr 13 3 (.some 8) True,.val 14 _,.val 15 VT]) 3 1 99 3 OneC [.g 1,.o 0,.o 2] hst (zv rfl (za2 (gq 1 rfl)) (oc (ob_a rfl rfl (zaa (lz0 1 rfl) zc6)) (zv rfl (za4 1 rfl zk trivial (lz0 1 rfl) (Sub.part 2 rfl rfl) zaf) o0))) rfl zd zk zk (fun a w hst=>?_)
 have hst:St B w0 20 [(0,_),(12,_),(14,_)] [⟨0,59,ptrH,_⟩,⟨3,28,ptrH,_⟩] a w:=hst
 rw [show List.range' 3 1=[3] from rfl]
 rw [wpOps_cons]
 refine zdp (A1:=BkE (addL (addL (addL L (kf x.a (m 0) (m 1))) (kf x.b (m 2) (m 3))) (kf x.c (m 4) (m 5)))) (xs:=[.tmp 14]) [0] [2] 0 rfl hst (zjo (x.c) (m 4) (m 5) (addL (addL L (kf x.a (m 0) (m 1))) (kf x.b (m 2) (m 3))) hs2 (by (try simp only [zco,List.length_append,List.length_cons,List.length_nil]); omega)) rfl (Eq.trans (b:=ptr g) (hst.vals _ (zm 1 rfl)) (Eq.symm (hst.vals _ (zm 0 rfl)))) (.cons ⟨_,rfl,rfl⟩ .nil) rfl hrm zd zk zk zk zk (fun a w hst=>?_)
 refine zc5 ?_
 have hst:St B w0 20 [(15,_),(0,_)] [⟨0,59,ptrH,BkE (addL (addL (addL L (kf x.a (m 0) (m 1))) (kf x.b (m 2) (m 3))) (kf x.c (m 4) (m 5)))⟩,⟨3,28,ptrH,_⟩] a w:=hst
 refine za0 ?_
 refine zch (sp:=[.val 16 _,.adr 17 3 (.some 12) True,.val 18 _,.val 19 VT]) 3 1 99 3 OneC [.g 1,.o 0,.o 2] hst (zv rfl (za2 (gq 1 rfl)) (oc (ob_a rfl rfl (zaa (lz0 1 rfl) zc1)) (zv rfl (za4 1 rfl zk trivial (lz0 1 rfl) (Sub.part 3 rfl rfl) zaf) o0))) rfl zd zk zk (fun a w hst=>?_)
 have hst:St B w0 20 [(0,_),(16,_),(18,_)] [⟨0,59,ptrH,_⟩,⟨3,28,ptrH,_⟩] a w:=hst
 rw [show List.range' 3 1=[3] from rfl]
 rw [wpOps_cons]
 refine zdp (A1:=BkE (addL (addL (addL (addL L (kf x.a (m 0) (m 1))) (kf x.b (m 2) (m 3))) (kf x.c (m 4) (m 5))) (kf x.d (m 6) (m 7)))) (xs:=[.tmp 18]) [0] [2] 0 rfl hst (zjo (x.d) (m 6) (m 7) (addL (addL (addL L (kf x.a (m 0) (m 1))) (kf x.b (m 2) (m 3))) (kf x.c (m 4) (m 5))) hs3 (by (try simp only [zco,List.length_append,List.length_cons,List.length_nil]); omega)) rfl (Eq.trans (b:=ptr g) (hst.vals _ (zm 1 rfl)) (Eq.symm (hst.vals _ (zm 0 rfl)))) (.cons ⟨_,rfl,rfl⟩ .nil) rfl hrm zd zk zk zk zk (fun a w hst=>?_)
 refine zc5 ?_
 have hst:St B w0 20 [(19,_),(0,_)] [⟨0,59,ptrH,BkE (addL (addL (addL (addL L (kf x.a (m 0) (m 1))) (kf x.b (m 2) (m 3))) (kf x.c (m 4) (m 5))) (kf x.d (m 6) (m 7)))⟩,⟨3,28,ptrH,_⟩] a w:=hst
 refine zbm ?_
 refine zf3 hst (zm 1 rfl) (zm 0 rfl) ?_
 exact zaq (rs:=[]) rfl hst .nil zd
end Go.Proofs.YthncfchnkjemiaaGreatDoor
namespace Go.Proofs.YthncfchnkjemiaaGreatDoor
open Go Go.RowKit
theorem blk_own {m:Value}{xs:List Nat}{B:Nat}{w:World}(h:(MgN xs).p B [m] w):blk m=m.ownBlock:=by
 rcases h.2 with ⟨_,e⟩ | ⟨g,ext,e,_⟩
 ·injection e with e
  subst e
  rfl
 ·injection e with e
  subst e
  rfl
theorem znq {x:RI}{B:Nat}{cs:List Value}{w:World}(h:(RIN x).p B cs w):∃ m,(IntP x m).p B cs w∧cbl cs=kbl [(m,x.mag)]:=by
 obtain ⟨ps,rfl,hp⟩:=h
 cases hp with
 | @cons _ c1 _ _ h1 hp=>cases hp with
  | @cons _ c2 _ _ h2 hp =>
   cases hp
   have h1':c1=[.bool x.neg]:=h1
   subst h1'
   have l2:=(MgN x.mag).len _ _ _ h2
   match c2,l2 with
   | [m],_ =>
    refine ⟨m,⟨[[.bool x.neg],[m]],rfl,.cons rfl (.cons ⟨h2,rfl⟩ .nil)⟩,?_⟩
    have e:=blk_own h2
    show List.filterMap blk [.bool x.neg,m]=List.filterMap (fun p=>p.1.ownBlock) [(m,x.mag)]
    have:List.filterMap blk [.bool x.neg,m]=List.filterMap blk [m]:=rfl
    rw [this]
    simp [List.filterMap_cons,e]
section
open Rg
variable {P:Program} {Q:Exit→Act→World→Prop} {B N:Nat} {w0:Bs} {Γ:List (Nat × VA)} {ops:Array Oper} {les:List LeF} {sp:List ((Nat→Value)→Sp)} {anc:Nat→List Nat} {i:Nat}
end
end Go.Proofs.YthncfchnkjemiaaGreatDoor
namespace Go.Proofs.YthncfchnkjemiaaGreatDoor
open Go Go.RowKit
section
open Rg
variable {P:Program} {Q:Exit→Act→World→Prop} {B N:Nat} {w0:Bs} {Γ:List (Nat × VA)} {Λ:List Lc} {a:Act} {w:World}
def les0 (Λ:List Lc):List Le:=Λ.map fun l=>⟨l.s,l.T,l.H,none,l.A,none⟩
theorem zw3:(les0 Λ).map (fun e=>(⟨e.s,e.T,e.H,Rg.last e⟩:Lc))=Λ:=by
 unfold les0
 rw [List.map_map]
 have:(fun e:Le=>(⟨e.s,e.T,e.H,Rg.last e⟩:Lc))∘(fun l:Lc=>(⟨l.s,l.T,l.H,none,l.A,none⟩:Le))=id:=by
  funext l
  rfl
 rw [this,List.map_id]
end
theorem bke_nil {B:Nat}{w:World}:(BkE []).p B ([Value.int .i64 0]++List.replicate 16 (Value.slice none 0 0)) w :=
 ⟨.slice none 0 0,[Value.int .i64 0]::List.replicate 16 [Value.slice none 0 0],rfl,.cons rfl (.cons ⟨rfl,World.ownsRow_nil ..,(fun s hs=>by cases hs),fun i j s t h=>by cases h⟩ (.cons ⟨rfl,rfl⟩ (.cons ⟨rfl,rfl⟩ (.cons ⟨rfl,rfl⟩ (.cons ⟨rfl,rfl⟩ (.cons ⟨rfl,rfl⟩ (.cons ⟨rfl,rfl⟩ (.cons ⟨rfl,rfl⟩ (.cons ⟨rfl,rfl⟩ (.cons ⟨rfl,rfl⟩ (.cons ⟨rfl,rfl⟩ (.cons ⟨rfl,rfl⟩ (.cons ⟨rfl,rfl⟩ (.cons ⟨rfl,rfl⟩ (.cons ⟨rfl,rfl⟩ (.cons ⟨rfl,rfl⟩ .nil))))))))))))))))⟩
theorem zsx:Zero Tryz.prog 59 (BkE []):=Zero.of (z:=.agg ([Value.int .i64 0]++List.replicate 16 (Value.slice none 0 0)).toArray) zk fun B w=>bke_nil
end Go.Proofs.YthncfchnkjemiaaGreatDoor
