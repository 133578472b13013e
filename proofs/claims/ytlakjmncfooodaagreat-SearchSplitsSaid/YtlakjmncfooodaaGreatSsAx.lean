import Derived.Test.YtlakjmncfooodaaGreatSsAw
set_option linter.all false
set_option maxRecDepth 100000
namespace Go.Proofs.YtlakjmncfooodaaGreat
open Go Go.RowKit
variable {w:World}{B:Nat}{a:Act}{v:Value}{T:TypeId}{w0:Bs}{Γ:List (Nat × VA)}{Λ:List Lc}{ps:String}{af:Array Edge}{vr:Value}{H:Hd}{cs:List Value}{w':World}{P:Program}{D:List TypeId}
theorem loW_s (f:Nat→Rat)(k:Nat):loW f (k+1)=if (((k:Nat):Int)==0 || decide (cmQ (f k) (loW f k)<0))=true then f k else loW f k:=rfl
theorem hiW_s (f:Nat→Rat)(k:Nat):hiW f (k+1)=if (((k:Nat):Int)==0 || decide (cmQ (f k) (hiW f k)>0))=true then f k else hiW f k:=rfl
theorem lo_sp (f:Nat→Rat):∀ k,k≠0→(∀ i,i<k→loW f k≤f i)∧∃ i,i<k∧loW f k=f i
 | 0,h=>absurd rfl h
 | 1,_=>by
  rw [show loW f 1=f 0 from ql rfl]
  exact ⟨λ i hi=>by
   obtain rfl:i=0:=by omega
   exact jk,0,jl,rfl⟩
 | k+2,_=>by
  obtain ⟨h1,i0,h2,h3⟩:=lo_sp f (k+1) (zT k)
  rw [loW_s]
  by_cases h:(((k+1:Nat):Int)==0 || decide (cmQ (f (k+1)) (loW f (k+1))<0))=true
  ·rw [ql h]
   have h4:f (k+1)<loW f (k+1):=by
    rw [qQ] at h
    rcases h with h | h
    ·exact absurd h (by simp; omega)
    ·exact cmq_lt.1 (qo h)
   refine ⟨λ i hi=>?_,k+1,by omega,rfl⟩
   by_cases e:i=k+1
   ·subst e; exact jk
   ·have:=h1 i zo; grind
  ·rw [qj h]
   have h4:¬ f (k+1)<loW f (k+1):=λ h5=>h (by rw [qQ]; exact .inr (qK (cmq_lt.2 h5)))
   refine ⟨λ i hi=>?_,i0,by omega,h3⟩
   by_cases e:i=k+1
   ·subst e; grind
   ·exact h1 i zo
theorem hi_sp (f:Nat→Rat):∀ k,k≠0→(∀ i,i<k→f i≤hiW f k)∧∃ i,i<k∧hiW f k=f i
 | 0,h=>absurd rfl h
 | 1,_=>by
  rw [show hiW f 1=f 0 from ql rfl]
  exact ⟨λ i hi=>by
   obtain rfl:i=0:=by omega
   exact jk,0,jl,rfl⟩
 | k+2,_=>by
  obtain ⟨h1,i0,h2,h3⟩:=hi_sp f (k+1) (zT k)
  rw [hiW_s]
  by_cases h:(((k+1:Nat):Int)==0 || decide (cmQ (f (k+1)) (hiW f (k+1))>0))=true
  ·rw [ql h]
   have h4:hiW f (k+1)<f (k+1):=by
    rw [qQ] at h
    rcases h with h | h
    ·exact absurd h (by simp; omega)
    ·exact cmq_gt.1 (qo h)
   refine ⟨λ i hi=>?_,k+1,by omega,rfl⟩
   by_cases e:i=k+1
   ·subst e; exact jk
   ·have:=h1 i zo; grind
  ·rw [qj h]
   have h4:¬ hiW f (k+1)<f (k+1):=λ h5=>h (by rw [qQ]; exact .inr (qK (cmq_gt.2 h5)))
   refine ⟨λ i hi=>?_,i0,by omega,h3⟩
   by_cases e:i=k+1
   ·subst e; grind
   ·exact h1 i zo
theorem cnt_be {p:Nat}:∀ f i a,a≤i→cntW p a f i=p^f
 | 0,_,_,_=>rfl
 | f+1,i,a,h=>by rw [fN zo,cnt_be f (i+1) a zo,qR,qH]
theorem iP {p:Nat}:∀ f i a,i≤a→a<i+f→p*cntW p (a+1) f i=cntW p a f i
 | 0,_,_,h1,h2=>absurd h2 zo
 | f+1,i,a,h1,h2=>by
  by_cases h:i<a
  ·rw [dW h,dW zo,iP f (i+1) a zo zo]
  ·obtain rfl:i=a:=by omega
   rw [fN h,dW zo,cnt_be f (i+1) i zo,cnt_be f (i+1) (i+1) zo]
theorem exW_pre {p:Nat}{ah:List Nat}:∀ f i r k,k<f→i+k<ah.length→(exW p ah f i r).getD k 0=ah.getD (i+k) 0
 | 0,_,_,_,h,_=>absurd h (xx _)
 | f+1,i,r,k,hk,h=>by
  rw [exW_ah zo]
  cases k with
  | zero =>
   have h':i<ah.length:=by omega
   simp [List.getD,h']
  | succ k =>
   have:=exW_pre (p:=p) (ah:=ah) f (i+1) r k zo zo
   rw [show i+(k+1)=i+1+k by omega,← this]
   simp [List.getD]
structure Ext (t:RTk) (a l:List Nat):Prop where
 len:l.length=t.sp.length-1
 lt:∀ x∈l,x<t.ps.length
 pre:∀ k,k<a.length→l.getD k 0=a.getD k 0
theorem row_in {t:RTk}{a:List Nat}(hc:ckF t=0)(h1:a.length≤t.sp.length-1)(h2:∀ x∈a,x<t.ps.length){r:Nat}(hr:r<cntW t.ps.length a.length (t.sp.length-1) 0):Ext t a (exW t.ps.length a (t.sp.length-1) 0 r):=by
 have hp:=(hd_b (de hc).1).2.2.1
 refine ⟨eL _ _ _ _ _,exW_lt zo h2 _ _ _ hr,λ k hk=>?_⟩
 have:=exW_pre (p:=t.ps.length) (ah:=a) (t.sp.length-1) 0 r k zo zo
 rwa [qC] at this
theorem row_sur {t:RTk}{a l:List Nat}(h1:a.length≤t.sp.length-1)(h:Ext t a l):∃ r,r<cntW t.ps.length a.length (t.sp.length-1) 0∧exW t.ps.length a (t.sp.length-1) 0 r=l :=
 kB _ 0 l h.len h.lt (λ k hk=>by rw [qC] at hk ⊢; exact h.pre k hk) zo
def RL (t:RTk)(xs:List Int):Rat:=loW (rowP t xs) (rowM t xs)
def RH (t:RTk)(xs:List Int):Rat:=hiW (rowP t xs) (rowM t xs)
theorem row_e {t:RTk}{xs:List Int}(h:((rowF t xs).2.2 != 0)=true):rowF t xs=(0,(rf0,rf0),(rowF t xs).2.2):=by
 unfold rowF at h ⊢
 by_cases h1:(ckF t != 0)=true
 ·rw [ql h1]
 ·rw [qj h1] at h ⊢
  by_cases h2:(!pkF t xs)=true
  ·rw [ql h2]
  ·rw [qj h2] at h ⊢
   by_cases h3:[loW (rowP t xs) (rowM t xs),hiW (rowP t xs) (rowM t xs)].any longQ=true
   ·rw [ql h3]
   ·rw [qj h3] at h
    exact absurd h (by simp)
theorem pk_list {t:RTk}{l:List Int}(hc:ckF t=0)(h:pkF t l=true):l=(natL l).map (λ (k:Nat)=>(k:Int))∧(natL l).length≤t.sp.length-1∧∀ x∈natL l,x<t.ps.length:=by
 obtain ⟨h1,h2,_⟩:=hd_b (de hc).1
 exact pk_nat (nn:=t.sp.length-1) h zo zo
structure RowOk26 (t:RTk) (xs:List Int):Prop where
 ck:ckF t=0
 pk:pkF t xs=true
 e:xs=(natL xs).map (λ (k:Nat)=>(k:Int))
 len:(natL xs).length≤t.sp.length-1
 lt:∀ x∈natL xs,x<t.ps.length
 llo:longQ (RL t xs)=false
 lhi:longQ (RH t xs)=false
 val:rowF t xs=(((rowM t xs:Nat):Int),(rfOf (RL t xs),rfOf (RH t xs)),0)
 lo:∀ l,Ext t (natL xs) l→RL t xs≤powW t l
 hi:∀ l,Ext t (natL xs) l→powW t l≤RH t xs
 lo1:∃ l,Ext t (natL xs) l∧RL t xs=powW t l
 hi1:∃ l,Ext t (natL xs) l∧RH t xs=powW t l
theorem cT {t:RTk}{xs:List Int}(h:(rowF t xs).2.2=0):RowOk26 t xs:=by
 have h0:=h
 unfold rowF at h
 by_cases h1:(ckF t != 0)=true
 ·rw [ql h1] at h
  exact absurd h (by simpa using h1)
 ·rw [qj h1] at h
  have hc:ckF t=0:=by simpa using h1
  by_cases h2:(!pkF t xs)=true
  ·rw [ql h2] at h; exact absurd h zd
  ·rw [qj h2] at h
   have hpk:pkF t xs=true:=by simpa using h2
   obtain ⟨p1,p2,p3⟩:=pk_list hc hpk
   by_cases h3:[loW (rowP t xs) (rowM t xs),hiW (rowP t xs) (rowM t xs)].any longQ=true
   ·rw [ql h3] at h; exact absurd h zd
   ·have h4:longQ (RL t xs)=false∧longQ (RH t xs)=false:=by
     have h5:[loW (rowP t xs) (rowM t xs),hiW (rowP t xs) (rowM t xs)].any longQ=false:=zD.2 h3
     simp only [List.any_cons,List.any_nil,Bool.or_false,qI] at h5
     exact h5
    have hM:rowM t xs≠0:=Nat.ne_of_gt (cx (by have:=(hd_b (de hc).1).2.2.1; omega) _ _)
    obtain ⟨l1,i1,l2,l3⟩:=lo_sp (rowP t xs) _ hM
    obtain ⟨k1,i2,k2,k3⟩:=hi_sp (rowP t xs) _ hM
    refine ⟨hc,hpk,p1,p2,p3,h4.1,h4.2,?_,λ l hl=>?_,λ l hl=>?_,⟨_,row_in hc p2 p3 l2,l3⟩,⟨_,row_in hc p2 p3 k2,k3⟩⟩
    ·rw [rowF,qj h1,qj h2,qj h3]; rfl
    ·obtain ⟨r,hr,e⟩:=row_sur p2 hl
     have:=l1 r hr
     show loW _ _≤_
     rw [← e]; exact this
    ·obtain ⟨r,hr,e⟩:=row_sur p2 hl
     have:=k1 r hr
     show _≤hiW _ _
     rw [← e]; exact this
theorem rowM_b {t:RTk}{xs:List Int}(h:RowOk26 t xs):1≤rowM t xs∧rowM t xs≤65536:=by
 obtain ⟨h1,_,h3,_⟩:=hd_b (de h.ck).1
 exact ⟨cx zo _ _,cnt_le h.ck zo⟩
theorem row_ord {t:RTk}{xs:List Int}(h:RowOk26 t xs):RL t xs≤RH t xs:=by
 obtain ⟨l,h1,h2⟩:=h.lo1
 rw [h2]
 exact h.hi l h1
theorem sp_first {t:RTk}{xs:List Int}(h:(rowF t xs).2.2=0)(h2:((decide ((rowF t xs).1<1) || decide ((rowF t xs).1>65536)) || decide (cmF (rowF t xs).2.1.1 (rowF t xs).2.1.2>0))=true):False:=by
 have hr:=cT h
 rw [hr.val] at h2
 have hb:=rowM_b hr
 simp only [qQ,qr] at h2
 rcases h2 with (h2 | h2) | h2
 ·omega
 ·omega
 ·rw [gm hr.llo hr.lhi] at h2
  have:=row_ord hr
  have h3:=cmq_gt.1 h2
  grind
theorem ext_full {t:RTk}{a l:List Nat}(h:Ext t a l)(ha:a.length=t.sp.length-1):l=a:=by
 apply List.ext_getElem
 ·rw [h.len,ha]
 ·intro k h1 h2
  have:=h.pre k h2
  simpa [List.getD,h1,h2] using this
theorem sp_full {t:RTk}{xs:List Int}(h:(rowF t xs).2.2=0)(h2:t.sp.length-1≤xs.length):(((rowF t xs).1==1)&&(!(pwX t xs).2 || (decide ((pwX t xs).1=(rowF t xs).2.1.1)&&decide ((pwX t xs).1=(rowF t xs).2.1.2))))=true:=by
 have hr:=cT h
 have hx:xs.length=(natL xs).length:=by unfold natL; rw [qc]
 have hl:=hr.len
 have hn:(natL xs).length=t.sp.length-1:=by omega
 have hM:rowM t xs=1:=iQ _ _ _ zo
 have hlo:RL t xs=powW t (natL xs):=by
  obtain ⟨l,h1,h3⟩:=hr.lo1
  rw [h3,ext_full h1 hn]
 have hhi:RH t xs=powW t (natL xs):=by
  obtain ⟨l,h1,h3⟩:=hr.hi1
  rw [h3,ext_full h1 hn]
 rw [hr.val,hM,hlo,hhi]
 cases hp:(pwX t xs).2 with
 | false=>rfl
 | true =>
  have:=(pw_val hp).2.2.2
  simp [this]
theorem d4 (xs:List Int)(j:Nat):natL (xs++[(j:Int)])=natL xs++[j]:=by unfold natL; rw [zx]; rfl
theorem ext_up {t:RTk}{a l:List Nat}{j:Nat}(h:Ext t (a++[j]) l):Ext t a l:=⟨h.len,h.lt,λ k hk=>by
 have:=h.pre k (by rw [qy]; omega)
 rw [this]
 simp [List.getD,List.getElem?_append_left hk]⟩
theorem ext_dn {t:RTk}{a l:List Nat}(h:Ext t a l)(ha:a.length<t.sp.length-1):∃ j,j<t.ps.length∧Ext t (a++[j]) l:=by
 have hl:a.length<l.length:=by rw [h.len]; exact ha
 refine ⟨l[a.length],h.lt _ (qi hl),h.len,h.lt,λ k hk=>?_⟩
 rw [qy,zE] at hk
 by_cases e:k=a.length
 ·subst e
  simp [List.getD,hl]
 ·rw [h.pre k zo]
  simp [List.getD,List.getElem?_append_left (show k<a.length by omega)]
theorem sp_step {t:RTk}{xs:List Int}{j:Nat}(h:(rowF t xs).2.2=0)(h1:(rowF t (xs++[(j:Int)])).2.2=0)(h2:(decide (cmF (rowF t (xs++[(j:Int)])).2.1.1 (rowF t xs).2.1.1<0) || decide (cmF (rowF t (xs++[(j:Int)])).2.1.2 (rowF t xs).2.1.2>0))=true):False:=by
 have hr:=cT h
 have hs:=cT h1
 rw [hr.val,hs.val] at h2
 simp only [qQ,qr] at h2
 rw [gm hs.llo hr.llo,gm hs.lhi hr.lhi] at h2
 rcases h2 with h2 | h2
 ·obtain ⟨l,e1,e2⟩:=hs.lo1
  rw [d4] at e1
  have h3:=hr.lo l (ext_up e1)
  have h4:=cmq_lt.1 h2
  rw [e2] at h4
  grind
 ·obtain ⟨l,e1,e2⟩:=hs.hi1
  rw [d4] at e1
  have h3:=hr.hi l (ext_up e1)
  have h4:=cmq_gt.1 h2
  rw [e2] at h4
  grind
def loB (t:RTk)(xs:List Int)(j:Nat):Bool:=(List.range j).any λ i=>cmF (rowF t (xs++[(i:Int)])).2.1.1 (rowF t xs).2.1.1==0
def hiB (t:RTk)(xs:List Int)(j:Nat):Bool:=(List.range j).any λ i=>cmF (rowF t (xs++[(i:Int)])).2.1.2 (rowF t xs).2.1.2==0
theorem loB_s (t:RTk)(xs:List Int)(j:Nat):loB t xs (j+1)=(loB t xs j || (cmF (rowF t (xs++[(j:Int)])).2.1.1 (rowF t xs).2.1.1==0)):=by
 unfold loB; rw [List.range_succ,xA]; simp
theorem hiB_s (t:RTk)(xs:List Int)(j:Nat):hiB t xs (j+1)=(hiB t xs j || (cmF (rowF t (xs++[(j:Int)])).2.1.2 (rowF t xs).2.1.2==0)):=by
 unfold hiB; rw [List.range_succ,xA]; simp
theorem cmF_0 {x:Rat}(h:longQ x=false){y:Rat}(hy:longQ y=false)(e:x=y):(cmF (rfOf x) (rfOf y)==0)=true:=by
 rw [gm h hy,cmq_eq.2 e]; rfl
theorem sp_lo {t:RTk}{xs:List Int}(h:(rowF t xs).2.2=0)(hl:xs.length<t.sp.length-1)(ha:∀ j,j<t.ps.length→(rowF t (xs++[(j:Int)])).2.2=0):loB t xs t.ps.length=true:=by
 have hr:=cT h
 have hx:xs.length=(natL xs).length:=by unfold natL; rw [qc]
 obtain ⟨l,e1,e2⟩:=hr.lo1
 obtain ⟨j,hj,e3⟩:=ext_dn e1 zo
 have hs:=cT (ha j hj)
 refine xu.2 ⟨j,xY.2 hj,?_⟩
 rw [hr.val,hs.val]
 refine cmF_0 hs.llo hr.llo ?_
 have h3:=hs.lo l (by rw [d4]; exact e3)
 obtain ⟨l2,e4,e5⟩:=hs.lo1
 rw [d4] at e4
 have h4:=hr.lo l2 (ext_up e4)
 rw [← e5] at h4
 rw [← e2] at h3
 grind
theorem sp_hi {t:RTk}{xs:List Int}(h:(rowF t xs).2.2=0)(hl:xs.length<t.sp.length-1)(ha:∀ j,j<t.ps.length→(rowF t (xs++[(j:Int)])).2.2=0):hiB t xs t.ps.length=true:=by
 have hr:=cT h
 have hx:xs.length=(natL xs).length:=by unfold natL; rw [qc]
 obtain ⟨l,e1,e2⟩:=hr.hi1
 obtain ⟨j,hj,e3⟩:=ext_dn e1 zo
 have hs:=cT (ha j hj)
 refine xu.2 ⟨j,xY.2 hj,?_⟩
 rw [hr.val,hs.val]
 refine cmF_0 hs.lhi hr.lhi ?_
 have h3:=hs.hi l (by rw [d4]; exact e3)
 obtain ⟨l2,e4,e5⟩:=hs.hi1
 rw [d4] at e4
 have h4:=hr.hi l2 (ext_up e4)
 rw [← e5] at h4
 rw [← e2] at h3
 grind
theorem sp_m {t:RTk}{xs:List Int}{j:Nat}(h:(rowF t (xs++[(j:Int)])).2.2=0):(rowF t (xs++[(j:Int)])).1=((cntW t.ps.length (xs.length+1) (t.sp.length-1) 0:Nat):Int):=by
 rw [(cT h).val]
 show ((rowM t _:Nat):Int)=_
 unfold rowM
 rw [d4,qy,zE,show (natL xs).length=xs.length from by unfold natL; rw [qc]]
theorem sp_sum {t:RTk}{xs:List Int}(h:(rowF t xs).2.2=0)(hl:xs.length<t.sp.length-1):((t.ps.length*cntW t.ps.length (xs.length+1) (t.sp.length-1) 0:Nat):Int)=(rowF t xs).1:=by
 rw [(cT h).val,iP _ _ _ (q7 _) zo]
 show _=((rowM t _:Nat):Int)
 unfold rowM
 rw [show (natL xs).length=xs.length from by unfold natL; rw [qc]]
theorem sp_err {t:RTk}{xs:List Int}{j:Nat}(h:(rowF t xs).2.2=0)(hl:xs.length<t.sp.length-1)(hj:j<t.ps.length)(h1:((rowF t (xs++[(j:Int)])).2.2 != 0)=true):((rowF t (xs++[(j:Int)])).2.2==4)=true:=by
 have hr:=cT h
 obtain ⟨a1,a2,_⟩:=hd_b (de hr.ck).1
 have hpk:pkF t (xs++[(j:Int)])=true:=by
  have h3:=hr.pk
  unfold pkF at h3 ⊢
  rw [slo_e a1 a2] at h3 ⊢
  rw [qh,qv] at h3 ⊢
  refine ⟨qK (by rw [qy,zE]; omega),?_⟩
  rw [xA,h3.2]
  unfold pkQ
  simp
  omega
 unfold rowF at h1 ⊢
 rw [qj (by rw [hr.ck]; decide),qj (by rw [hpk]; decide)] at h1 ⊢
 by_cases h3:[loW (rowP t (xs++[(j:Int)])) (rowM t (xs++[(j:Int)])),hiW (rowP t (xs++[(j:Int)])) (rowM t (xs++[(j:Int)]))].any longQ=true
 ·rw [ql h3]; rfl
 ·rw [qj h3] at h1
  exact absurd h1 (by simp)
theorem sp_best {t:RTk}{xs:List Int}(h:(rowF t xs).2.2=0)(h2:((((xs.length:Int)==0)&&((bestF t).2==0))&&(decide (cmF (bestF t).1.pw (rowF t xs).2.1.1<0) || decide (cmF (bestF t).1.pw (rowF t xs).2.1.2>0)))=true):False:=by
 simp only [qh,zZ] at h2
 obtain ⟨⟨h3,h4⟩,h5⟩:=h2
 have hr:=cT h
 obtain ⟨_,u,u1,u2,u3,u4,_⟩:=best_ok h4
 have hx:xs=[]:=zG zo
 have he:Ext t (natL xs) u:=⟨u1,u2,λ k hk=>by rw [hx] at hk; exact absurd hk (xx _)⟩
 rw [hr.val,u4,gm u3 hr.llo,gm u3 hr.lhi,qQ,qr,qr] at h5
 have h6:=hr.lo u he
 have h7:=hr.hi u he
 rcases h5 with h5 | h5
 ·have:=cmq_lt.1 h5; grind
 ·have:=cmq_gt.1 h5; grind
end Go.Proofs.YtlakjmncfooodaaGreat
