import Derived.Test.YtpnhpldlecmbdaaGreatDoorBmAa
import Derived.Test.YtpnhpldlecmbdaaGreatDoorBmAc
import Derived.Test.YtpnhpldlecmbdaaGreatDoorBmAn
import Derived.Test.YtpnhpldlecmbdaaGreatDoorBmAx
import Derived.Test.YtpnhpldlecmbdaaGreatDoorBmBa
import Derived.Test.YtpnhpldlecmbdaaGreatDoorBmBc
set_option linter.unusedVariables false
set_option linter.unusedSimpArgs false
set_option linter.unusedSectionVars false
set_option maxRecDepth 100000
namespace Go.Proofs.YtpnhpldlecmbdaaGreatDoor
open Go Go.RowKit
theorem zj3 {B:Nat}{w:World}:(cat [NilI,NilI]).p B ([.bool false,.slice none 0 0,.bool false,.slice none 0 0]:List Value) w:=⟨[[.bool false,.slice none 0 0],[.bool false,.slice none 0 0]],rfl,.cons ⟨[[.bool false],[.slice none 0 0]],rfl,.cons rfl (.cons rfl .nil)⟩ (.cons ⟨[[.bool false],[.slice none 0 0]],rfl,.cons rfl (.cons rfl .nil)⟩ .nil)⟩
abbrev NilF:As:=cat [NilI,NilI]
theorem zf7:Str Tryz.prog 37 [NilF,NilF,NilF,NilF] :=
 Str.of (z:=.agg (([.bool false,.slice none 0 0,.bool false,.slice none 0 0]:List Value)++([.bool false,.slice none 0 0,.bool false,.slice none 0 0]:List Value)++([.bool false,.slice none 0 0,.bool false,.slice none 0 0]:List Value)++([.bool false,.slice none 0 0,.bool false,.slice none 0 0]:List Value)).toArray) zk Tryz.underlying37 zk fun B w=>⟨[([.bool false,.slice none 0 0,.bool false,.slice none 0 0]:List Value),([.bool false,.slice none 0 0,.bool false,.slice none 0 0]:List Value),([.bool false,.slice none 0 0,.bool false,.slice none 0 0]:List Value),([.bool false,.slice none 0 0,.bool false,.slice none 0 0]:List Value)],rfl,.cons zj3 (.cons zj3 (.cons zj3 (.cons zj3 .nil)))⟩
theorem zj4:WkA NilF (RFN rf0):=⟨rfl,rfl,fun B cs w h=>(zf_rfd.2.2 _ _ _ h).1⟩
theorem nilF_cbl {B:Nat}{cs:List Value}{w:World}(h:NilF.p B cs w):cbl cs=[]:=by rw [zoe h]; rfl
theorem zt6 {B:Nat}{w:World}:∀ {l:List As} {ps:List (List Value)},(∀ A∈l,A=NilF)→All2 (fun (A:As) c=>A.p B c w) l ps→cbl ps.flatten=[]
 | [],_,_,h=>by cases h; rfl
 | A::l,_,hn,h=>by
  cases h with
  | cons h1 h2 =>
   rw [hn A (by simp)] at h1
   rw [List.flatten_cons,zdc,nilF_cbl h1,zt6 (fun A' hA=>hn A' (by simp [hA])) h2]
   rfl
theorem zm_rmd:WkA (cat [NilF,NilF,NilF,NilF]) (RMD rm0):=⟨rfl,rfl,fun B cs w h=>by
 have h1:=(zby (.cons zj4 (.cons zj4 (.cons zj4 (.cons zj4 .nil))))).2.2 _ _ _ h
 obtain ⟨ps,e,hp⟩:=h
 refine ⟨h1,?_⟩
 rw [e,zt6 (fun A hA=>by simp at hA; exact hA) hp]
 exact List.nodup_nil⟩
abbrev MRD (r:RM × Int):VA:=Tu [(RMD r.1).va,In r.2]
theorem nilI_zn:WkA NilI (ZN 2 0):=⟨rfl,rfl,fun B cs w h=>by
 have e0:riOf 0=⟨false,[]⟩:=by kernel_rfl
 refine ⟨by have h0:lz 0=0:=zk; omega,?_⟩
 rw [e0]
 obtain ⟨ps,rfl,hp⟩:=h
 cases hp with
 | @cons _ c1 _ _ h1 hp=>cases hp with
  | @cons _ c2 _ _ h2 hp =>
   cases hp
   exact ⟨[c1,c2],rfl,.cons h1 (.cons ⟨zdg,.inl ⟨rfl,h2⟩⟩ .nil)⟩⟩
theorem nilI_cbl {B:Nat}{cs:List Value}{w:World}(h:NilI.p B cs w):cbl cs=[]:=by
 obtain ⟨ps,rfl,hp⟩:=h
 cases hp with
 | @cons _ c1 _ _ h1 hp=>cases hp with
  | @cons _ c2 _ _ h2 hp =>
   cases hp
   have e1:c1=[.bool false]:=h1
   have e2:c2=[.slice none 0 0]:=h2
   subst e1; subst e2; rfl
theorem qd_nought:WkA (cat [NilI,ZN 2 1]) (QD 2 0):=⟨rfl,rfl,fun B cs w h=>by
 refine ⟨(zby (.cons nilI_zn (.cons (WkA.refl _) .nil))).2.2 _ _ _ h,?_⟩
 obtain ⟨ps,rfl,hp⟩:=h
 cases hp with
 | @cons _ c1 _ _ h1 hp=>cases hp with
  | @cons _ c2 _ _ h2 hp =>
   cases hp
   have e:([c1,c2]:List (List Value)).flatten=c1++c2:=by simp
   rw [e,zdc,nilI_cbl h1]
   exact nod_zn _ _ _ h2⟩
theorem zob  : Cn Tryz.prog 151 [] ((QD 2 0).va):=by
 refine Cn.intro Tryz.func151 rfl zk nq (fun B w0 a O=>?_)
 have O:=zn [] [] O
 refine wp_seq<|zg [] [⟨0,28,ptrH,some 0,_,none⟩] [.alc 0] [] O (oc (zam rfl rfl rfl (Str.zero znv)) o0) (zz [] [⟨0,28,ptrH,_⟩] fun a w O=>?_)
 refine zt<|zg [some (2,_)] [] [.v 1 _,.v 2 _,.sto 0] [] O (zv rfl (za5 (xs:=[.const (.int .i64 (1))]) (of_zn zd zd) (.cons za3 .nil)) (zv rfl (zbf (xs:=[(1,.tmp 1)]) (qs:=[(1,_)]) znv (.cons ⟨rfl,(vq 0 rfl),rfl⟩ .nil)) (oc (zaa rfl rfl rfl (vq 1 rfl) zap (Eq.trans (b:=4) rfl rfl)) o0))) (zz [] [⟨0,28,ptrH,_⟩] fun a w O=>?_)
 refine za0<|wp_ret<|zag ?_ (zaf rfl O (zm 0 rfl) zap)
 exact qd_nought.va
def ApA (us:List Value)(A:As):As where
 n:=A.n
 ag:=A.ag
 p B cs w:=A.p B cs w∧∀ u∈us,∀ g∈vbl u,g ∉ cbl cs
 deps:=A.deps
 len:=fun B cs w h=>A.len B cs w h.1
 one:=fun B cs w h=>A.one B cs w h.1
 ag1:=A.ag1
 cg:=fun B cs w w' hg h=>⟨A.cg B cs w w' hg h.1,h.2⟩
 wr:=fun B cs w w' g c T fz h1 h2 h3 h4 h=>⟨A.wr B cs w w' g c T fz h1 h2 h3 h4 h.1,h.2⟩
section
variable {P:Program} {Q:Exit→Act→World→Prop} {R:Rg} {B:Nat} {w0:Bs} {i:Nat}
theorem zm3 {A:As}{f:FuncId}{us:List Value}{pre pre':List VA}{xs:List Operand}{at_:Array TypeId}(hc:Cn P f pre' A.va)(hnew:NewA A)(hfree:FreeA A A)(hup:All2 Up pre pre')(hx:HasL R B w0 i xs pre)(hl:LiveR R B w0 i us):Wv P Q R B w0 i (.call ⟨.value (.func f),xs.toArray,at_⟩) (ApA us A).va:=by
 intro d T ps af gd a w av K hK
 obtain ⟨⟨fn,hf,hn,hb⟩,hcall⟩:=hc
 have hrun:(execOp a.eval ⟨some d,.call ⟨.value (.func f),xs.toArray,at_⟩,T,ps,af,gd⟩).run P w=.ok (.enter f (xs.map a.eval).toArray) w:=by
  simp only [execOp,resolve,Act.eval,Deferred.ofValue,Sem.run_bind,Sem.run_pure,Result.andThen_ok,invoke,zbx hf hn hb]
  simp
 have hbw:=Av.bw av
 have hargs:All2 (fun (A:VA) v=>A.p w.heap.size v w) pre' (xs.map a.eval):=by
  have h1:=hx.all av
  clear hcall hrun hx
  generalize xs.map a.eval=vs at h1
  induction hup generalizing vs with
  | nil=>cases h1; exact .nil
  | cons hu _ ih =>
   cases h1 with
   | cons h2 h3=>exact .cons (hu _ _ _ hbw h2) (ih _ h3)
 unfold Oper.wp
 rw [hrun]
 refine (hcall w.heap.size w _ (Nat.le_refl _) hargs).mono fun e w' ⟨v,he,⟨cs,hv,hsh⟩,hg⟩=>?_
 subst he
 refine hK v w' hg ⟨cs,⟨hfree.2.2 _ _ _ _ hbw hv,fun u hu g hgu hgv=>?_⟩,hsh⟩
 have h1:=hl a w av u hu g hgu
 have h2:=(hnew _ _ _ hv g hgv).1
 omega
end
abbrev Q4D (k1 k2 k3 k4:Nat)(x y z u:Rat):As:=DisA (cat [QD k1 x,QD k2 y,QD k3 z,QD k4 u])
abbrev QMD (k:Nat)(m:MQ):As:=Q4D k k k k m.a m.b m.c m.d
theorem zdk {v:Value}{A:As}{B:Nat}{c:List Value}{w:World}(h:(PinA v A).p B c w):vbl v=cbl c:=by rw [← h.2]; exact zgl h.1
theorem ap_wk {us:List Value}{A:As}:WkA (ApA us A) A:=⟨rfl,rfl,fun _ _ _ h=>h.1⟩
theorem q4_pins {u v s t:Value}{k1 k2 k3 k4:Nat}{x y z r:Rat}:WkA (cat [PinA u ((QD k1 x).and (SepAll [] u)),PinA v ((QD k2 y).and (SepAll [u] v)),PinA s ((QD k3 z).and (SepAll [u,v] s)),PinA t ((QD k4 r).and (SepAll [u,v,s] t))]) (Q4D k1 k2 k3 k4 x y z r) :=
 zjf (l:=[(u,QD k1 x),(v,QD k2 y),(s,QD k3 z),(t,QD k4 r)]) (fun y hy=>by
  simp at hy
  rcases hy with rfl | rfl | rfl | rfl <;> exact zod)
theorem zhz {k1 k2 k3 k4 k:Nat}{x y z u:Rat}(h1:k1≤k)(h2:k2≤k)(h3:k3≤k)(h4:k4≤k):WkA (Q4D k1 k2 k3 k4 x y z u) (QMD k ⟨x,y,z,u⟩):=zeb (zby (.cons (zgw h1) (.cons (zgw h2) (.cons (zgw h3) (.cons (zgw h4) .nil)))))
theorem q4_qma {k1 k2 k3 k4:Nat}{x y z u:Rat}:WkA (Q4D k1 k2 k3 k4 x y z u) (cat [QA k1 x,QA k2 y,QA k3 z,QA k4 u]):=dis_wk.trans (zby (.cons zoa (.cons zoa (.cons zoa (.cons zoa .nil)))))
theorem qmd_rmd {k:Nat}{m:MQ}:WkA (QMD k m) (RMD (rmOf m)):=zeb (zby (.cons zrh (.cons zrh (.cons zrh (.cons zrh .nil)))))
theorem zn_bz {k k':Nat}{z:Int}(h:lz z≤k'):WkA (ZN k z) (ZN k' z):=⟨rfl,rfl,fun _ _ _ hp=>⟨h,hp.2⟩⟩
theorem qd_bQ {k k':Nat}{x:Rat}(h:bQ k' x):WkA (QD k x) (QD k' x):=zeb (zby (.cons (zn_bz h.1) (.cons (zn_bz h.2) .nil)))
theorem zwm {k k':Nat}{m:MQ}(h:RepM k' m):WkA (QMD k m) (QMD k' m):=by
 obtain ⟨h1,h2,h3,h4⟩:=rep_bQ h
 exact zeb (zby (.cons (qd_bQ h1) (.cons (qd_bQ h2) (.cons (qd_bQ h3) (.cons (qd_bQ h4) .nil)))))
theorem cbl4 {a b c d:List Value}:cbl ([a,b,c,d]:List (List Value)).flatten=cbl a++(cbl b++(cbl c++cbl d)):=by
 simp only [List.flatten_cons,List.flatten_nil,List.append_nil,zdc]
theorem ap_b {v1 v3 v4:Value}{X1 Z X3 X4:As}(hn:(vbl v1++(vbl v3++vbl v4)).Nodup)(hz:NodA Z):WkA (cat [PinA v1 X1,ApA [v1,v3,v4] Z,PinA v3 X3,PinA v4 X4]) (DisA (cat [X1,Z,X3,X4])):=⟨rfl,rfl,fun B cs w h=>by
 refine ⟨(zby (.cons pin_wk (.cons ap_wk (.cons pin_wk (.cons pin_wk .nil))))).2.2 _ _ _ h,?_⟩
 obtain ⟨ps,rfl,hp⟩:=h
 cases hp with
 | @cons _ c1 _ _ h1 hp=>cases hp with
  | @cons _ c2 _ _ h2 hp=>cases hp with
   | @cons _ c3 _ _ h3 hp=>cases hp with
    | @cons _ c4 _ _ h4 hp =>
     cases hp
     have n2:=hz _ _ _ h2.1
     have a2:=h2.2
     rw [cbl4]
     rw [zdk h1,zdk h3,zdk h4] at hn
     have e1:∀ g∈cbl c1,g ∉ cbl c2:=fun g hg=>a2 v1 (by simp) g (by rw [zdk h1]; exact hg)
     have e3:∀ g∈cbl c3,g ∉ cbl c2:=fun g hg=>a2 v3 (by simp) g (by rw [zdk h3]; exact hg)
     have e4:∀ g∈cbl c4,g ∉ cbl c2:=fun g hg=>a2 v4 (by simp) g (by rw [zdk h4]; exact hg)
     simp only [List.nodup_append,List.mem_append] at hn ⊢
     grind⟩
theorem ap_c {v1 v2 v4:Value}{X1 Z X2 X4:As}(hn:(vbl v1++(vbl v2++vbl v4)).Nodup)(hz:NodA Z):WkA (cat [PinA v1 X1,PinA v2 X2,ApA [v1,v2,v4] Z,PinA v4 X4]) (DisA (cat [X1,X2,Z,X4])):=⟨rfl,rfl,fun B cs w h=>by
 refine ⟨(zby (.cons pin_wk (.cons pin_wk (.cons ap_wk (.cons pin_wk .nil))))).2.2 _ _ _ h,?_⟩
 obtain ⟨ps,rfl,hp⟩:=h
 cases hp with
 | @cons _ c1 _ _ h1 hp=>cases hp with
  | @cons _ c2 _ _ h2 hp=>cases hp with
   | @cons _ c3 _ _ h3 hp=>cases hp with
    | @cons _ c4 _ _ h4 hp =>
     cases hp
     have n3:=hz _ _ _ h3.1
     have a3:=h3.2
     rw [cbl4]
     rw [zdk h1,zdk h2,zdk h4] at hn
     have e1:∀ g∈cbl c1,g ∉ cbl c3:=fun g hg=>a3 v1 (by simp) g (by rw [zdk h1]; exact hg)
     have e2:∀ g∈cbl c2,g ∉ cbl c3:=fun g hg=>a3 v2 (by simp) g (by rw [zdk h2]; exact hg)
     have e4:∀ g∈cbl c4,g ∉ cbl c3:=fun g hg=>a3 v4 (by simp) g (by rw [zdk h4]; exact hg)
     simp only [List.nodup_append,List.mem_append] at hn ⊢
     grind⟩
theorem pin4_nod {v1 v2 v3 v4:Value}{X1 X2 X3 X4:As}(hn:(vbl v1++(vbl v2++(vbl v3++vbl v4))).Nodup):WkA (cat [PinA v1 X1,PinA v2 X2,PinA v3 X3,PinA v4 X4]) (DisA (cat [X1,X2,X3,X4])):=⟨rfl,rfl,fun B cs w h=>by
 refine ⟨(zby (.cons pin_wk (.cons pin_wk (.cons pin_wk (.cons pin_wk .nil))))).2.2 _ _ _ h,?_⟩
 obtain ⟨ps,rfl,hp⟩:=h
 cases hp with
 | @cons _ c1 _ _ h1 hp=>cases hp with
  | @cons _ c2 _ _ h2 hp=>cases hp with
   | @cons _ c3 _ _ h3 hp=>cases hp with
    | @cons _ c4 _ _ h4 hp =>
     cases hp
     rw [cbl4]
     rw [zdk h1,zdk h2,zdk h3,zdk h4] at hn
     exact hn⟩
theorem zmd {a b c d:List Nat}(h:(a++(b++(c++d))).Nodup):(a++(c++d)).Nodup∧(a++(b++d)).Nodup:=by
 simp only [List.nodup_append,List.mem_append] at h ⊢
 grind
theorem qa_dp {k:Nat}{q:Rat}:∀ T∈(QA k q).deps,T∈[U32]:=fun T hT=>by
 have h:(QA k q).deps=[U32,U32]:=by kernel_rfl
 rw [h] at hT
 simpa using hT
theorem qa4_dp {k j m n:Nat}{q r s t:Rat}:∀ A∈[QA k q,QA j r,QA m s,QA n t],∀ T∈A.deps,T∈[U32]:=fun A hA=>by
 simp at hA
 rcases hA with rfl | rfl | rfl | rfl <;> exact qa_dp
section
variable {B N:Nat} {w0:Bs} {Γ:List (Nat × VA)} {Λ:List Lc} {a:Act} {w:World}
theorem St.pin4 (h:St B w0 N Γ Λ a w){s:Nat}{T:TypeId}{H:Hd}{A1 A2 A3 A4:As}(k:Nat)(hm:Λ[k]?=some ⟨s,T,H,DisA (cat [A1,A2,A3,A4])⟩) :
  ∃ v1 v2 v3 v4,(vbl v1++(vbl v2++(vbl v3++vbl v4))).Nodup∧St B w0 N Γ (Λ.set k ⟨s,T,H,cat [PinA v1 A1,PinA v2 A2,PinA v3 A3,PinA v4 A4]⟩) a w:=by
 obtain ⟨g,cs,q1,q2,q3,hp,hn⟩:=h.locs _ (List.mem_of_getElem? hm)
 obtain ⟨ps,rfl,hp⟩:=hp
 cases hp with
 | @cons _ c1 _ _ h1 hp=>cases hp with
  | @cons _ c2 _ _ h2 hp=>cases hp with
   | @cons _ c3 _ _ h3 hp=>cases hp with
    | @cons _ c4 _ _ h4 hp =>
     cases hp
     refine ⟨shape A1.ag c1,shape A2.ag c2,shape A3.ag c3,shape A4.ag c4,?_,?_⟩
     ·rw [cbl4] at hn
      rw [zgl h1,zgl h2,zgl h3,zgl h4]
      exact hn
     ·have p1:(cat [PinA (shape A1.ag c1) A1,PinA (shape A2.ag c2) A2,PinA (shape A3.ag c3) A3,PinA (shape A4.ag c4) A4]).p B [c1,c2,c3,c4].flatten w:=⟨[c1,c2,c3,c4],rfl,.cons ⟨h1,rfl⟩ (.cons ⟨h2,rfl⟩ (.cons ⟨h3,rfl⟩ (.cons ⟨h4,rfl⟩ .nil)))⟩
      have hss:∀ m'∈Λ.set k ⟨s,T,H,cat [PinA (shape A1.ag c1) A1,PinA (shape A2.ag c2) A2,PinA (shape A3.ag c3) A3,PinA (shape A4.ag c4) A4]⟩,∃ m0∈Λ,m0.s=m'.s:=fun m' hm'=>by
       rcases List.mem_or_eq_of_mem_set hm' with hm' | rfl
       ·exact ⟨m',hm',rfl⟩
       ·exact ⟨_,List.mem_of_getElem? hm,rfl⟩
      refine ⟨h.lo,h.defers,h.size,h.base,h.vals,fun l hl=>?_,fun m1 hm1 m2 hm2 hne=>?_⟩
      ·rcases List.mem_or_eq_of_mem_set hl with hl | rfl
       ·exact h.locs l hl
       ·exact ⟨g,_,q1,q2,q3,p1⟩
      ·obtain ⟨m3,r1,r2⟩:=hss m1 hm1
       obtain ⟨m4,r3,r4⟩:=hss m2 hm2
       rw [← r2,← r4] at hne ⊢
       exact h.dis m3 r1 m4 r3 hne
theorem St.live4 (h:St B w0 N Γ Λ a w){s:Nat}{T:TypeId}{H:Hd}{v1 v2 v3 v4:Value}{A1 A2 A3 A4:As}(k:Nat)(hm:Λ[k]?=some ⟨s,T,H,cat [PinA v1 A1,PinA v2 A2,PinA v3 A3,PinA v4 A4]⟩)(n1:NewA A1)(n2:NewA A2)(n3:NewA A3)(n4:NewA A4):∀ u∈[v1,v2,v3,v4],∀ g∈vbl u,g<w.heap.size:=by
 obtain ⟨g,cs,q1,q2,q3,hp⟩:=h.locs _ (List.mem_of_getElem? hm)
 obtain ⟨ps,rfl,hp⟩:=hp
 cases hp with
 | @cons _ c1 _ _ h1 hp=>cases hp with
  | @cons _ c2 _ _ h2 hp=>cases hp with
   | @cons _ c3 _ _ h3 hp=>cases hp with
    | @cons _ c4 _ _ h4 hp =>
     cases hp
     intro u hu g hg
     simp only [List.mem_cons,List.not_mem_nil,or_false] at hu
     rcases hu with rfl | rfl | rfl | rfl
     ·rw [zdk h1] at hg; exact (n1 _ _ _ h1.1 g hg).2
     ·rw [zdk h2] at hg; exact (n2 _ _ _ h2.1 g hg).2
     ·rw [zdk h3] at hg; exact (n3 _ _ _ h3.1 g hg).2
     ·rw [zdk h4] at hg; exact (n4 _ _ _ h4.1 g hg).2
theorem zmq {R:Rg}{i h:Nat}{x:Operand}{us vs:List Value}(hx:Has R B w0 i x (SzV h))(hlt:∀ u∈vs,∀ g∈vbl u,g<h)(hs:∀ u∈us,u∈vs):LiveR R B w0 i us:=fun a w av u hu g hg=>Nat.lt_of_lt_of_le (hlt u (hs u hu) g hg) (hx a w av)
end
theorem zga {c d e f:Nat}{x y z u:Rat}(hk:c+d+e+f≤137438953472):Cn Tryz.prog 152 [Qs c x,Qs d y,Qs e z,Qs f u] ((QD (c+d+(e+f)+1) (x*y+z*u)).va):=by
 refine Cn.intro Tryz.func152 rfl zk nq (fun B w0 a O=>?_)
 have O:=zn [(0,Qs c x),(1,Qs d y),(2,Qs e z),(3,Qs f u)] [] O
 refine wp_seq<|zg [] [⟨4,28,ptrH,some 0,_,none⟩,⟨5,28,ptrH,some 1,_,none⟩,⟨6,28,ptrH,some 2,_,none⟩,⟨7,28,ptrH,some 3,_,none⟩,⟨8,28,ptrH,some 4,_,none⟩] [.alc 0,.alc 1,.alc 2,.alc 3,.alc 4] [] O (oc (zal rfl rfl rfl (gq 0 rfl)) (oc (zal rfl rfl rfl (gq 1 rfl)) (oc (zal rfl rfl rfl (gq 2 rfl)) (oc (zal rfl rfl rfl (gq 3 rfl)) (oc (zam rfl rfl rfl (Str.zero zb7)) o0))))) (zz [] [⟨4,28,ptrH,_⟩,⟨5,28,ptrH,_⟩,⟨6,28,ptrH,_⟩,⟨7,28,ptrH,_⟩,⟨8,28,ptrH,_⟩] fun a w O=>?_)
 refine zt<|zgd [[],[],[0,1],[],[],[0,1,2,3,4],[0,1,2,3,4,5],[0,1,2,3,4,5,6]] [none,none,none,none,some (7,_)] [] [.v 9 _,.v 10 _,.v 11 _,.v 12 _,.v 13 _,.v 14 _,.v 15 _,.sto 4] [] za6 O (zv rfl (zaq (lz0 0 rfl) zap) (zv rfl (zaq (lz0 1 rfl) zap) (zv rfl (za5 (xs:=[.tmp 9,.tmp 10]) (zls zo) (.cons (vq 0 rfl) (.cons (vq 1 rfl) .nil))) (zv rfl (zaq (lz0 2 rfl) zap) (zv rfl (zaq (lz0 3 rfl) zap) (zv rfl (za5 (xs:=[.tmp 12,.tmp 13]) (zls zo) (.cons (vq 3 rfl) (.cons (vq 4 rfl) .nil))) (zv rfl (za5 (xs:=[.tmp 11,.tmp 14]) (plusD_q zo) (.cons (vq 2 rfl) (.cons (vq 5 rfl) .nil))) (oc (zaa rfl rfl rfl (vq 6 rfl) zap (Eq.trans (b:=4) rfl rfl)) o0)))))))) zk zk zk zk (zz [] [⟨4,28,ptrH,_⟩,⟨5,28,ptrH,_⟩,⟨6,28,ptrH,_⟩,⟨7,28,ptrH,_⟩,⟨8,28,ptrH,_⟩] fun a w O=>?_)
 refine za0<|wp_ret<|zag ?_ (zaf rfl O (zm 4 rfl) zap)
 exact zbh
theorem zpo {c d:Nat}{m q:MQ}(hk:c+d≤68719476736):Cn Tryz.prog 88 [(QMA c m).va,(QMA d q).va] ((QMD (c+d+(c+d)+1) (mulQ m q)).va):=by
 refine Cn.intro Tryz.func88 rfl zk nq (fun B w0 a O=>?_)
 have O:=zn [(0,(QMA c m).va),(1,(QMA d q).va)] [] O
 refine wp_seq<|zg [] [⟨2,37,ptrH,some 0,_,none⟩,⟨3,37,ptrH,some 1,_,none⟩,⟨4,37,ptrH,some 2,_,none⟩] [.alc 0,.alc 1,.alc 2] [] O (oc (zal rfl rfl rfl (gq 0 rfl)) (oc (zal rfl rfl rfl (gq 1 rfl)) (oc (zam rfl rfl rfl (Str.zero zar)) o0))) (zz [] [⟨2,37,ptrH,_⟩,⟨3,37,ptrH,_⟩,⟨4,37,ptrH,_⟩] fun a w O=>?_)
 refine zt<|go_drawV' [[],[0],[],[2],[],[4],[],[6],[0,1,2,3,4,5,6,7],[],[9],[],[11],[],[13],[],[15],[0,1,2,3,4,5,6,7,8,9,10,11,12,13,14,15,16],[],[18],[],[20],[],[22],[],[24],[0,1,2,3,4,5,6,7,8,9,10,11,12,13,14,15,16,17,18,19,20,21,22,23,24,25],[],[27],[],[29],[],[31],[],[33],[0,1,2,3,4,5,6,7,8,9,10,11,12,13,14,15,16,17,18,19,20,21,22,23,24,25,26,27,28,29,30,31,32,33,34],[0,1,2,3,4,5,6,7,8,9,10,11,12,13,14,15,16,17,18,19,20,21,22,23,24,25,26,27,28,29,30,31,32,33,34,35],[0,1,2,3,4,5,6,7,8,9,10,11,12,13,14,15,16,17,18,19,20,21,22,23,24,25,26,27,28,29,30,31,32,33,34,35,36]] (sts:=[none,none,some (37,fun ν=>_)]) (news:=[]) (sp:=(((fun ν=>.adr 5 2 (.some 0) True):(Nat→Value)→Sp)::((fun ν=>.v 6 _))::((fun ν=>.adr 7 3 (.some 0) True))::((fun ν=>.v 8 _))::((fun ν=>.adr 9 2 (.some 4) True))::((fun ν=>.v 10 _))::((fun ν=>.adr 11 3 (.some 8) True))::((fun ν=>.v 12 _))::((fun ν=>.v 13 (PinA (ν 8) ((QD (c+d+(c+d)+1) (m.a*q.a+m.b*q.c)).and (SepAll [] (ν 8)))).va))::((fun ν=>.adr 14 2 (.some 0) True))::((fun ν=>.v 15 _))::((fun ν=>.adr 16 3 (.some 4) True))::((fun ν=>.v 17 _))::((fun ν=>.adr 18 2 (.some 4) True))::((fun ν=>.v 19 _))::((fun ν=>.adr 20 3 (.some 12) True))::((fun ν=>.v 21 _))::((fun ν=>.v 22 (PinA (ν 17) ((QD (c+d+(c+d)+1) (m.a*q.b+m.b*q.d)).and (SepAll [ν 8] (ν 17)))).va))::((fun ν=>.adr 23 2 (.some 8) True))::((fun ν=>.v 24 _))::((fun ν=>.adr 25 3 (.some 0) True))::((fun ν=>.v 26 _))::((fun ν=>.adr 27 2 (.some 12) True))::((fun ν=>.v 28 _))::((fun ν=>.adr 29 3 (.some 8) True))::((fun ν=>.v 30 _))::((fun ν=>.v 31 (PinA (ν 26) ((QD (c+d+(c+d)+1) (m.c*q.a+m.d*q.c)).and (SepAll [ν 8,ν 17] (ν 26)))).va))::((fun ν=>.adr 32 2 (.some 8) True))::((fun ν=>.v 33 _))::((fun ν=>.adr 34 3 (.some 4) True))::((fun ν=>.v 35 _))::((fun ν=>.adr 36 2 (.some 12) True))::((fun ν=>.v 37 _))::((fun ν=>.adr 38 3 (.some 12) True))::((fun ν=>.v 39 _))::((fun ν=>.v 40 (PinA (ν 35) ((QD (c+d+(c+d)+1) (m.c*q.b+m.d*q.d)).and (SepAll [ν 8,ν 17,ν 26] (ν 35)))).va))::((fun ν=>.v 41 _))::((fun ν=>.sto 2))::[])) [] za6 O ⟨of_u fun ν=>ob_a rfl rfl (za7 (lz0 0 rfl) zcp),⟨of_u fun ν=>ob_v rfl rfl (za4 0 rfl zk trivial (lz0 0 rfl) (Sub.part 0 rfl rfl) zap),⟨of_u fun ν=>ob_a rfl rfl (za7 (lz0 1 rfl) zcp),⟨of_u fun ν=>ob_v rfl rfl (za4 2 rfl zk trivial (lz0 1 rfl) (Sub.part 0 rfl rfl) zap),⟨of_u fun ν=>ob_a rfl rfl (za7 (lz0 0 rfl) zcc),⟨of_u fun ν=>ob_v rfl rfl (za4 4 rfl zk trivial (lz0 0 rfl) (Sub.part 1 rfl rfl) zap),⟨of_u fun ν=>ob_a rfl rfl (za7 (lz0 1 rfl) zcb),⟨of_u fun ν=>ob_v rfl rfl (za4 6 rfl zk trivial (lz0 1 rfl) (Sub.part 2 rfl rfl) zap),⟨zc9 (us:=fun ν=>[]) (xs:=[.tmp 6,.tmp 8,.tmp 10,.tmp 12]) rfl rfl (zga zo) zbm zdb (.cons upA_qa.va (.cons upA_qa.va (.cons upA_qa.va (.cons upA_qa.va .nil)))) (fun ν=>(.cons (vq 1 rfl) (.cons (vq 3 rfl) (.cons (vq 5 rfl) (.cons (vq 7 rfl) .nil))))) (fun _ _=>rfl) (fun ν=>zbl),⟨of_u fun ν=>ob_a rfl rfl (za7 (lz0 0 rfl) zcp),⟨of_u fun ν=>ob_v rfl rfl (za4 9 rfl zk trivial (lz0 0 rfl) (Sub.part 0 rfl rfl) zap),⟨of_u fun ν=>ob_a rfl rfl (za7 (lz0 1 rfl) zcc),⟨of_u fun ν=>ob_v rfl rfl (za4 11 rfl zk trivial (lz0 1 rfl) (Sub.part 1 rfl rfl) zap),⟨of_u fun ν=>ob_a rfl rfl (za7 (lz0 0 rfl) zcc),⟨of_u fun ν=>ob_v rfl rfl (za4 13 rfl zk trivial (lz0 0 rfl) (Sub.part 1 rfl rfl) zap),⟨of_u fun ν=>ob_a rfl rfl (za7 (lz0 1 rfl) zco),⟨of_u fun ν=>ob_v rfl rfl (za4 15 rfl zk trivial (lz0 1 rfl) (Sub.part 3 rfl rfl) zap),⟨zc9 (us:=fun ν=>[ν 8]) (xs:=[.tmp 15,.tmp 17,.tmp 19,.tmp 21]) rfl rfl (zga zo) zbm zdb (.cons upA_qa.va (.cons upA_qa.va (.cons upA_qa.va (.cons upA_qa.va .nil)))) (fun ν=>(.cons (vq 10 rfl) (.cons (vq 12 rfl) (.cons (vq 14 rfl) (.cons (vq 16 rfl) .nil))))) (fun _ _=>rfl) (fun ν=>(zbk (zc8 zbm) (vq 8 rfl) zbl)),⟨of_u fun ν=>ob_a rfl rfl (za7 (lz0 0 rfl) zcb),⟨of_u fun ν=>ob_v rfl rfl (za4 18 rfl zk trivial (lz0 0 rfl) (Sub.part 2 rfl rfl) zap),⟨of_u fun ν=>ob_a rfl rfl (za7 (lz0 1 rfl) zcp),⟨of_u fun ν=>ob_v rfl rfl (za4 20 rfl zk trivial (lz0 1 rfl) (Sub.part 0 rfl rfl) zap),⟨of_u fun ν=>ob_a rfl rfl (za7 (lz0 0 rfl) zco),⟨of_u fun ν=>ob_v rfl rfl (za4 22 rfl zk trivial (lz0 0 rfl) (Sub.part 3 rfl rfl) zap),⟨of_u fun ν=>ob_a rfl rfl (za7 (lz0 1 rfl) zcb),⟨of_u fun ν=>ob_v rfl rfl (za4 24 rfl zk trivial (lz0 1 rfl) (Sub.part 2 rfl rfl) zap),⟨zc9 (us:=fun ν=>[ν 8,ν 17]) (xs:=[.tmp 24,.tmp 26,.tmp 28,.tmp 30]) rfl rfl (zga zo) zbm zdb (.cons upA_qa.va (.cons upA_qa.va (.cons upA_qa.va (.cons upA_qa.va .nil)))) (fun ν=>(.cons (vq 19 rfl) (.cons (vq 21 rfl) (.cons (vq 23 rfl) (.cons (vq 25 rfl) .nil))))) (fun _ _=>rfl) (fun ν=>(zbk (zc8 zbm) (vq 8 rfl) (zbk (zc8 zbm) (vq 17 rfl) zbl))),⟨of_u fun ν=>ob_a rfl rfl (za7 (lz0 0 rfl) zcb),⟨of_u fun ν=>ob_v rfl rfl (za4 27 rfl zk trivial (lz0 0 rfl) (Sub.part 2 rfl rfl) zap),⟨of_u fun ν=>ob_a rfl rfl (za7 (lz0 1 rfl) zcc),⟨of_u fun ν=>ob_v rfl rfl (za4 29 rfl zk trivial (lz0 1 rfl) (Sub.part 1 rfl rfl) zap),⟨of_u fun ν=>ob_a rfl rfl (za7 (lz0 0 rfl) zco),⟨of_u fun ν=>ob_v rfl rfl (za4 31 rfl zk trivial (lz0 0 rfl) (Sub.part 3 rfl rfl) zap),⟨of_u fun ν=>ob_a rfl rfl (za7 (lz0 1 rfl) zco),⟨of_u fun ν=>ob_v rfl rfl (za4 33 rfl zk trivial (lz0 1 rfl) (Sub.part 3 rfl rfl) zap),⟨zc9 (us:=fun ν=>[ν 8,ν 17,ν 26]) (xs:=[.tmp 33,.tmp 35,.tmp 37,.tmp 39]) rfl rfl (zga zo) zbm zdb (.cons upA_qa.va (.cons upA_qa.va (.cons upA_qa.va (.cons upA_qa.va .nil)))) (fun ν=>(.cons (vq 28 rfl) (.cons (vq 30 rfl) (.cons (vq 32 rfl) (.cons (vq 34 rfl) .nil))))) (fun _ _=>rfl) (fun ν=>(zbk (zc8 zbm) (vq 8 rfl) (zbk (zc8 zbm) (vq 17 rfl) (zbk (zc8 zbm) (vq 26 rfl) zbl)))),⟨of_u fun ν=>ob_v rfl rfl (zbf (xs:=[(0,.tmp 13),(1,.tmp 22),(2,.tmp 31),(3,.tmp 40)]) (qs:=[(0,_),(1,_),(2,_),(3,_)]) zar (.cons ⟨rfl,(vq 8 rfl),rfl⟩ (.cons ⟨rfl,(vq 17 rfl),rfl⟩ (.cons ⟨rfl,(vq 26 rfl),rfl⟩ (.cons ⟨rfl,(vq 35 rfl),rfl⟩ .nil))))),⟨of_u fun ν=>zaa rfl rfl rfl (vq 36 rfl) zb1 (Eq.trans (b:=16) rfl rfl),trivial⟩⟩⟩⟩⟩⟩⟩⟩⟩⟩⟩⟩⟩⟩⟩⟩⟩⟩⟩⟩⟩⟩⟩⟩⟩⟩⟩⟩⟩⟩⟩⟩⟩⟩⟩⟩⟩⟩ ⟨(fun ν ν' h=>rfl),⟨(fun ν ν' h=>rfl),⟨(fun ν ν' h=>rfl),⟨(fun ν ν' h=>rfl),⟨(fun ν ν' h=>rfl),⟨(fun ν ν' h=>rfl),⟨(fun ν ν' h=>rfl),⟨(fun ν ν' h=>rfl),⟨(fun ν ν' h=>by first | rfl | simp only [h 8 rfl]),⟨(fun ν ν' h=>rfl),⟨(fun ν ν' h=>rfl),⟨(fun ν ν' h=>rfl),⟨(fun ν ν' h=>rfl),⟨(fun ν ν' h=>rfl),⟨(fun ν ν' h=>rfl),⟨(fun ν ν' h=>rfl),⟨(fun ν ν' h=>rfl),⟨(fun ν ν' h=>by first | rfl | simp only [h 8 rfl,h 17 rfl]),⟨(fun ν ν' h=>rfl),⟨(fun ν ν' h=>rfl),⟨(fun ν ν' h=>rfl),⟨(fun ν ν' h=>rfl),⟨(fun ν ν' h=>rfl),⟨(fun ν ν' h=>rfl),⟨(fun ν ν' h=>rfl),⟨(fun ν ν' h=>rfl),⟨(fun ν ν' h=>by first | rfl | simp only [h 8 rfl,h 17 rfl,h 26 rfl]),⟨(fun ν ν' h=>rfl),⟨(fun ν ν' h=>rfl),⟨(fun ν ν' h=>rfl),⟨(fun ν ν' h=>rfl),⟨(fun ν ν' h=>rfl),⟨(fun ν ν' h=>rfl),⟨(fun ν ν' h=>rfl),⟨(fun ν ν' h=>rfl),⟨(fun ν ν' h=>by first | rfl | simp only [h 8 rfl,h 17 rfl,h 26 rfl,h 35 rfl]),⟨(fun ν ν' h=>by first | rfl | simp only [h 8 rfl,h 17 rfl,h 26 rfl,h 35 rfl]),⟨(fun ν ν' h=>by first | rfl | simp only [h 8 rfl,h 17 rfl,h 26 rfl,h 35 rfl]),trivial⟩⟩⟩⟩⟩⟩⟩⟩⟩⟩⟩⟩⟩⟩⟩⟩⟩⟩⟩⟩⟩⟩⟩⟩⟩⟩⟩⟩⟩⟩⟩⟩⟩⟩⟩⟩⟩⟩ ⟨trivial,⟨trivial,⟨(fun ν ν' h=>by first | rfl | simp only [h 8 rfl,h 17 rfl,h 26 rfl,h 35 rfl]),trivial⟩⟩⟩ zk zk (fun ν=>by kernel_rfl) (fun ν=>by kernel_rfl) (fun ν1 a w O=>?_)
 have O:=zn [] [⟨2,37,ptrH,_⟩,⟨3,37,ptrH,_⟩,⟨4,37,ptrH,_⟩] O
 refine za0<|wp_ret<|zag ?_ (zaf rfl O (zm 2 rfl) zb1)
 exact q4_pins.va
theorem zew  : Cn Tryz.prog 87 [] ((Q4D 2 2 2 2 1 0 0 1).va):=by
 refine Cn.intro Tryz.func87 rfl zk nq (fun B w0 a O=>?_)
 have O:=zn [] [] O
 refine wp_seq<|zg [] [⟨0,37,ptrH,some 0,_,none⟩] [.alc 0] [] O (oc (zam rfl rfl rfl (Str.zero zar)) o0) (zz [] [⟨0,37,ptrH,_⟩] fun a w O=>?_)
 refine zt<|zmz (sts:=[some (5,fun ν=>_)]) (news:=[]) (sp:=[(fun ν=>.v 1 (PinA (ν 0) ((QD 2 1).and (SepAll [] (ν 0)))).va),(fun ν=>.v 2 (PinA (ν 1) ((QD 2 0).and (SepAll [ν 0] (ν 1)))).va),(fun ν=>.v 3 (PinA (ν 2) ((QD 2 0).and (SepAll [ν 0,ν 1] (ν 2)))).va),(fun ν=>.v 4 (PinA (ν 3) ((QD 2 1).and (SepAll [ν 0,ν 1,ν 2] (ν 3)))).va),(fun ν=>.v 5 _),(fun ν=>.sto 0)]) [] O ⟨zc9 (us:=fun ν=>[]) (xs:=[]) rfl rfl oneD_q zbm zdb .nil (fun ν=>.nil) (fun _ _=>rfl) (fun ν=>zbl),⟨zc9 (us:=fun ν=>[ν 0]) (xs:=[]) rfl rfl zob zbm zdb .nil (fun ν=>.nil) (fun _ _=>rfl) (fun ν=>(zbk (zc8 zbm) (vq 0 rfl) zbl)),⟨zc9 (us:=fun ν=>[ν 0,ν 1]) (xs:=[]) rfl rfl zob zbm zdb .nil (fun ν=>.nil) (fun _ _=>rfl) (fun ν=>(zbk (zc8 zbm) (vq 0 rfl) (zbk (zc8 zbm) (vq 1 rfl) zbl))),⟨zc9 (us:=fun ν=>[ν 0,ν 1,ν 2]) (xs:=[]) rfl rfl oneD_q zbm zdb .nil (fun ν=>.nil) (fun _ _=>rfl) (fun ν=>(zbk (zc8 zbm) (vq 0 rfl) (zbk (zc8 zbm) (vq 1 rfl) (zbk (zc8 zbm) (vq 2 rfl) zbl)))),⟨of_u fun ν=>ob_v rfl rfl (zbf (xs:=[(0,.tmp 1),(1,.tmp 2),(2,.tmp 3),(3,.tmp 4)]) (qs:=[(0,_),(1,_),(2,_),(3,_)]) zar (.cons ⟨rfl,(vq 0 rfl),rfl⟩ (.cons ⟨rfl,(vq 1 rfl),rfl⟩ (.cons ⟨rfl,(vq 2 rfl),rfl⟩ (.cons ⟨rfl,(vq 3 rfl),rfl⟩ .nil))))),⟨of_u fun ν=>zaa rfl rfl rfl (vq 4 rfl) zb1 (Eq.trans (b:=16) rfl rfl),trivial⟩⟩⟩⟩⟩⟩ ⟨(fun ν ν' h=>by first | rfl | simp only [h 0 rfl]),⟨(fun ν ν' h=>by first | rfl | simp only [h 0 rfl,h 1 rfl]),⟨(fun ν ν' h=>by first | rfl | simp only [h 0 rfl,h 1 rfl,h 2 rfl]),⟨(fun ν ν' h=>by first | rfl | simp only [h 0 rfl,h 1 rfl,h 2 rfl,h 3 rfl]),⟨(fun ν ν' h=>by first | rfl | simp only [h 0 rfl,h 1 rfl,h 2 rfl,h 3 rfl]),⟨(fun ν ν' h=>by first | rfl | simp only [h 0 rfl,h 1 rfl,h 2 rfl,h 3 rfl]),trivial⟩⟩⟩⟩⟩⟩ ⟨(fun ν ν' h=>by first | rfl | simp only [h 0 rfl,h 1 rfl,h 2 rfl,h 3 rfl]),trivial⟩ zk (fun ν=>by kernel_rfl) (fun ν=>by kernel_rfl) (fun ν1 a w O=>?_)
 have O:=zn [] [⟨0,37,ptrH,_⟩] O
 refine za0<|wp_ret<|zag ?_ (zaf rfl O (zm 0 rfl) zb1)
 exact q4_pins.va
theorem zdl {c:Nat}{x:Rat}(hc:c≤68719476736):Cn Tryz.prog 96 [Qs c x] ((QD (2+c+1) (0-x)).va):=by
 refine Cn.intro Tryz.func96 rfl zk nq (fun B w0 a O=>?_)
 have O:=zn [(0,Qs c x)] [] O
 refine wp_seq<|zg [] [⟨1,28,ptrH,some 0,_,none⟩,⟨2,28,ptrH,some 1,_,none⟩] [.alc 0,.alc 1] [] O (oc (zal rfl rfl rfl (gq 0 rfl)) (oc (zam rfl rfl rfl (Str.zero zb7)) o0)) (zz [] [⟨1,28,ptrH,_⟩,⟨2,28,ptrH,_⟩] fun a w O=>?_)
 refine zt<|zgd [[],[],[0,1],[0,1,2]] [none,some (3,_)] [] [.v 3 _,.v 4 _,.v 5 _,.sto 1] [] za6 O (zv rfl (za5 (xs:=[]) zj2 .nil) (zv rfl (zaq (lz0 0 rfl) zap) (zv rfl (za5 (xs:=[.tmp 3,.tmp 4]) (minusD_q zo) (.cons (vq 0 rfl) (.cons (vq 1 rfl) .nil))) (oc (zaa rfl rfl rfl (vq 2 rfl) zap (Eq.trans (b:=4) rfl rfl)) o0)))) zk zk zk zk (zz [] [⟨1,28,ptrH,_⟩,⟨2,28,ptrH,_⟩] fun a w O=>?_)
 refine za0<|wp_ret<|zag ?_ (zaf rfl O (zm 1 rfl) zap)
 exact zbh
theorem zlx {c:Nat}{m:MQ}(hc:c≤68719476736):Cn Tryz.prog 102 [(QMA c m).va] ((Q4D (2+c+1) (2+c+1) (2+c+1) (2+c+1) (0-m.a) (0-m.b) (0-m.c) (0-m.d)).va):=by
 refine Cn.intro Tryz.func102 rfl zk nq (fun B w0 a O=>?_)
 have O:=zn [(0,(QMA c m).va)] [] O
 refine wp_seq<|zg [] [⟨1,37,ptrH,some 0,_,none⟩,⟨2,37,ptrH,some 1,_,none⟩] [.alc 0,.alc 1] [] O (oc (zal rfl rfl rfl (gq 0 rfl)) (oc (zam rfl rfl rfl (Str.zero zar)) o0)) (zz [] [⟨1,37,ptrH,_⟩,⟨2,37,ptrH,_⟩] fun a w O=>?_)
 refine zt<|go_drawV' [[],[0],[0,1],[],[3],[0,1,2,3,4],[],[6],[0,1,2,3,4,5,6,7],[],[9],[0,1,2,3,4,5,6,7,8,9,10],[0,1,2,3,4,5,6,7,8,9,10,11],[0,1,2,3,4,5,6,7,8,9,10,11,12]] (sts:=[none,some (13,fun ν=>_)]) (news:=[]) (sp:=[(fun ν=>.adr 3 1 (.some 0) True),(fun ν=>.v 4 _),(fun ν=>.v 5 (PinA (ν 2) ((QD (2+c+1) (0-m.a)).and (SepAll [] (ν 2)))).va),(fun ν=>.adr 6 1 (.some 4) True),(fun ν=>.v 7 _),(fun ν=>.v 8 (PinA (ν 5) ((QD (2+c+1) (0-m.b)).and (SepAll [ν 2] (ν 5)))).va),(fun ν=>.adr 9 1 (.some 8) True),(fun ν=>.v 10 _),(fun ν=>.v 11 (PinA (ν 8) ((QD (2+c+1) (0-m.c)).and (SepAll [ν 2,ν 5] (ν 8)))).va),(fun ν=>.adr 12 1 (.some 12) True),(fun ν=>.v 13 _),(fun ν=>.v 14 (PinA (ν 11) ((QD (2+c+1) (0-m.d)).and (SepAll [ν 2,ν 5,ν 8] (ν 11)))).va),(fun ν=>.v 15 _),(fun ν=>.sto 1)]) [] za6 O ⟨of_u fun ν=>ob_a rfl rfl (za7 (lz0 0 rfl) zcp),⟨of_u fun ν=>ob_v rfl rfl (za4 0 rfl zk trivial (lz0 0 rfl) (Sub.part 0 rfl rfl) zap),⟨zc9 (us:=fun ν=>[]) (xs:=[.tmp 4]) rfl rfl (zdl zo) zbm zdb (.cons upA_qa.va .nil) (fun ν=>(.cons (vq 1 rfl) .nil)) (fun _ _=>rfl) (fun ν=>zbl),⟨of_u fun ν=>ob_a rfl rfl (za7 (lz0 0 rfl) zcc),⟨of_u fun ν=>ob_v rfl rfl (za4 3 rfl zk trivial (lz0 0 rfl) (Sub.part 1 rfl rfl) zap),⟨zc9 (us:=fun ν=>[ν 2]) (xs:=[.tmp 7]) rfl rfl (zdl zo) zbm zdb (.cons upA_qa.va .nil) (fun ν=>(.cons (vq 4 rfl) .nil)) (fun _ _=>rfl) (fun ν=>(zbk (zc8 zbm) (vq 2 rfl) zbl)),⟨of_u fun ν=>ob_a rfl rfl (za7 (lz0 0 rfl) zcb),⟨of_u fun ν=>ob_v rfl rfl (za4 6 rfl zk trivial (lz0 0 rfl) (Sub.part 2 rfl rfl) zap),⟨zc9 (us:=fun ν=>[ν 2,ν 5]) (xs:=[.tmp 10]) rfl rfl (zdl zo) zbm zdb (.cons upA_qa.va .nil) (fun ν=>(.cons (vq 7 rfl) .nil)) (fun _ _=>rfl) (fun ν=>(zbk (zc8 zbm) (vq 2 rfl) (zbk (zc8 zbm) (vq 5 rfl) zbl))),⟨of_u fun ν=>ob_a rfl rfl (za7 (lz0 0 rfl) zco),⟨of_u fun ν=>ob_v rfl rfl (za4 9 rfl zk trivial (lz0 0 rfl) (Sub.part 3 rfl rfl) zap),⟨zc9 (us:=fun ν=>[ν 2,ν 5,ν 8]) (xs:=[.tmp 13]) rfl rfl (zdl zo) zbm zdb (.cons upA_qa.va .nil) (fun ν=>(.cons (vq 10 rfl) .nil)) (fun _ _=>rfl) (fun ν=>(zbk (zc8 zbm) (vq 2 rfl) (zbk (zc8 zbm) (vq 5 rfl) (zbk (zc8 zbm) (vq 8 rfl) zbl)))),⟨of_u fun ν=>ob_v rfl rfl (zbf (xs:=[(0,.tmp 5),(1,.tmp 8),(2,.tmp 11),(3,.tmp 14)]) (qs:=[(0,_),(1,_),(2,_),(3,_)]) zar (.cons ⟨rfl,(vq 2 rfl),rfl⟩ (.cons ⟨rfl,(vq 5 rfl),rfl⟩ (.cons ⟨rfl,(vq 8 rfl),rfl⟩ (.cons ⟨rfl,(vq 11 rfl),rfl⟩ .nil))))),⟨of_u fun ν=>zaa rfl rfl rfl (vq 12 rfl) zb1 (Eq.trans (b:=16) rfl rfl),trivial⟩⟩⟩⟩⟩⟩⟩⟩⟩⟩⟩⟩⟩⟩ ⟨(fun ν ν' h=>rfl),⟨(fun ν ν' h=>rfl),⟨(fun ν ν' h=>by first | rfl | simp only [h 2 rfl]),⟨(fun ν ν' h=>rfl),⟨(fun ν ν' h=>rfl),⟨(fun ν ν' h=>by first | rfl | simp only [h 2 rfl,h 5 rfl]),⟨(fun ν ν' h=>rfl),⟨(fun ν ν' h=>rfl),⟨(fun ν ν' h=>by first | rfl | simp only [h 2 rfl,h 5 rfl,h 8 rfl]),⟨(fun ν ν' h=>rfl),⟨(fun ν ν' h=>rfl),⟨(fun ν ν' h=>by first | rfl | simp only [h 2 rfl,h 5 rfl,h 8 rfl,h 11 rfl]),⟨(fun ν ν' h=>by first | rfl | simp only [h 2 rfl,h 5 rfl,h 8 rfl,h 11 rfl]),⟨(fun ν ν' h=>by first | rfl | simp only [h 2 rfl,h 5 rfl,h 8 rfl,h 11 rfl]),trivial⟩⟩⟩⟩⟩⟩⟩⟩⟩⟩⟩⟩⟩⟩ ⟨trivial,⟨(fun ν ν' h=>by first | rfl | simp only [h 2 rfl,h 5 rfl,h 8 rfl,h 11 rfl]),trivial⟩⟩ zk zk (fun ν=>by kernel_rfl) (fun ν=>by kernel_rfl) (fun ν1 a w O=>?_)
 have O:=zn [] [⟨1,37,ptrH,_⟩,⟨2,37,ptrH,_⟩] O
 refine za0<|wp_ret<|zag ?_ (zaf rfl O (zm 1 rfl) zb1)
 exact q4_pins.va
theorem zw2 (v1 v2 v3 v4:Value){p q:Rat}{kd:Int}  : Cm Tryz.prog 93 37 (cat [PinA v1 (QD 2 1),PinA v2 (QD 2 0),PinA v3 (QD 2 0),PinA v4 (QD 2 1)]) (cat [PinA v1 (QD 2 1),ApA [v1,v3,v4] (QD 2048 p),PinA v3 (QD 2 0),PinA v4 (QD 2 1)]) [.v ((ElP 30 (QEA 2048 kd p q))),.w (ptrH)] (Tu []):=by
 refine Cm.introK 1 Tryz.func93 rfl zk nq (fun g=>zm 1 rfl) (fun B g w0 a O=>?_)
 have O:=zn [(0,(ElP 30 (QEA 2048 kd p q))),(1,EqV ((ptrH).f g))] [⟨1,37,ptrH,cat [PinA v1 (QD 2 1),PinA v2 (QD 2 0),PinA v3 (QD 2 0),PinA v4 (QD 2 1)]⟩] O
 have hlv:=St.live4 O 0 rfl zbm zbm zbm zbm
 have O:=St.addSz O 9999
 refine zg [some (4,_)] [] [.v 2 _,.v 3 _,.v 4 _,.adr 5 1 (.some 4) True,.sto 0] [.g 1,.g 2] O (zv rfl (zat (gq 0 rfl) zc5 (Sub.part 1 rfl rfl)) (zv rfl (zae (vq 0 rfl) zap) (zv rfl (zm3 (us:=[v1,v3,v4]) (xs:=[.tmp 3]) (copyD_q zd) zbm zdb (.cons upA_qa.va .nil) (.cons (vq 1 rfl) .nil) (zmq (x:=.tmp 9999) (gq 2 rfl) hlv (by simp))) (oc (ob_a rfl rfl (za7 (lz0 0 rfl) zcc)) (oc (zfw 3 rfl rfl rfl rfl zk (vq 2 rfl) zap (Put.part 1 rfl rfl rfl)) o0))))) (zz [(1,_),(9999,_)] [⟨1,37,ptrH,_⟩] fun a w O=>?_)
 refine zch<|zii O (zm 0 rfl) (zm 0 rfl) ?_
 refine zag ?_ (zb2 (rs:=[]) rfl O .nil zd)
 exact zbh
theorem zw1 (v1 v2 v3 v4:Value){p q:Rat}{kd:Int}  : Cm Tryz.prog 95 37 (cat [PinA v1 (QD 2 1),PinA v2 (QD 2 0),PinA v3 (QD 2 0),PinA v4 (QD 2 1)]) (cat [PinA v1 (QD 2 1),PinA v2 (QD 2 0),ApA [v1,v2,v4] (QD 2051 (0-p)),PinA v4 (QD 2 1)]) [.v ((ElP 30 (QEA 2048 kd p q))),.w (ptrH)] (Tu []):=by
 refine Cm.introK 1 Tryz.func95 rfl zk nq (fun g=>zm 1 rfl) (fun B g w0 a O=>?_)
 have O:=zn [(0,(ElP 30 (QEA 2048 kd p q))),(1,EqV ((ptrH).f g))] [⟨1,37,ptrH,cat [PinA v1 (QD 2 1),PinA v2 (QD 2 0),PinA v3 (QD 2 0),PinA v4 (QD 2 1)]⟩] O
 have hlv:=St.live4 O 0 rfl zbm zbm zbm zbm
 have O:=St.addSz O 9999
 refine zg [some (4,_)] [] [.v 2 _,.v 3 _,.v 4 _,.adr 5 1 (.some 8) True,.sto 0] [.g 1,.g 2] O (zv rfl (zat (gq 0 rfl) zc5 (Sub.part 1 rfl rfl)) (zv rfl (zae (vq 0 rfl) zap) (zv rfl (zm3 (us:=[v1,v2,v4]) (xs:=[.tmp 3]) (zdl zd) zbm zdb (.cons upA_qa.va .nil) (.cons (vq 1 rfl) .nil) (zmq (x:=.tmp 9999) (gq 2 rfl) hlv (by simp))) (oc (ob_a rfl rfl (za7 (lz0 0 rfl) zcb)) (oc (zfw 3 rfl rfl rfl rfl zk (vq 2 rfl) zap (Put.part 2 rfl rfl rfl)) o0))))) (zz [(1,_),(9999,_)] [⟨1,37,ptrH,_⟩] fun a w O=>?_)
 refine zch<|zii O (zm 0 rfl) (zm 0 rfl) ?_
 refine zag ?_ (zb2 (rs:=[]) rfl O .nil zd)
 exact zbh
theorem zw0 (v1 v2 v3 v4:Value){p q:Rat}{kd:Int}(h0:q≠0):Cm Tryz.prog 97 37 (cat [PinA v1 (QD 2 1),PinA v2 (QD 2 0),PinA v3 (QD 2 0),PinA v4 (QD 2 1)]) (cat [PinA v1 (QD 2 1),ApA [v1,v3,v4] (QD 4096 (p/q)),PinA v3 (QD 2 0),PinA v4 (QD 2 1)]) [.v ((ElP 30 (QEA 2048 kd p q))),.w (ptrH)] (Tu []):=by
 refine Cm.introK 1 Tryz.func97 rfl zk nq (fun g=>zm 1 rfl) (fun B g w0 a O=>?_)
 have O:=zn [(0,(ElP 30 (QEA 2048 kd p q))),(1,EqV ((ptrH).f g))] [⟨1,37,ptrH,cat [PinA v1 (QD 2 1),PinA v2 (QD 2 0),PinA v3 (QD 2 0),PinA v4 (QD 2 1)]⟩] O
 have hlv:=St.live4 O 0 rfl zbm zbm zbm zbm
 have O:=St.addSz O 9999
 refine zg [some (6,_)] [] [.v 2 _,.v 3 _,.v 4 _,.v 5 _,.v 6 _,.adr 7 1 (.some 4) True,.sto 0] [.g 1,.g 2] O (zv rfl (zat (gq 0 rfl) zc5 (Sub.part 1 rfl rfl)) (zv rfl (zae (vq 0 rfl) zap) (zv rfl (zat (gq 0 rfl) zci (Sub.part 2 rfl rfl)) (zv rfl (zae (vq 2 rfl) zap) (zv rfl (zm3 (us:=[v1,v3,v4]) (xs:=[.tmp 3,.tmp 5]) (overD_q zd h0) zbm zdb (.cons upA_qa.va (.cons upA_qa.va .nil)) (.cons (vq 1 rfl) (.cons (vq 3 rfl) .nil)) (zmq (x:=.tmp 9999) (gq 2 rfl) hlv (by simp))) (oc (ob_a rfl rfl (za7 (lz0 0 rfl) zcc)) (oc (zfw 5 rfl rfl rfl rfl zk (vq 4 rfl) zap (Put.part 1 rfl rfl rfl)) o0))))))) (zz [(1,_),(9999,_)] [⟨1,37,ptrH,_⟩] fun a w O=>?_)
 refine zch<|zii O (zm 0 rfl) (zm 0 rfl) ?_
 refine zag ?_ (zb2 (rs:=[]) rfl O .nil zd)
 exact zbh
theorem zvz (v1 v2 v3 v4:Value){p q:Rat}{kd:Int}  : Cm Tryz.prog 99 37 (cat [PinA v1 (QD 2 1),PinA v2 (QD 2 0),PinA v3 (QD 2 0),PinA v4 (QD 2 1)]) (cat [PinA v1 (QD 2 1),PinA v2 (QD 2 0),ApA [v1,v2,v4] (QD 4099 (0-p*q)),PinA v4 (QD 2 1)]) [.v ((ElP 30 (QEA 2048 kd p q))),.w (ptrH)] (Tu []):=by
 refine Cm.introK 1 Tryz.func99 rfl zk nq (fun g=>zm 1 rfl) (fun B g w0 a O=>?_)
 have O:=zn [(0,(ElP 30 (QEA 2048 kd p q))),(1,EqV ((ptrH).f g))] [⟨1,37,ptrH,cat [PinA v1 (QD 2 1),PinA v2 (QD 2 0),PinA v3 (QD 2 0),PinA v4 (QD 2 1)]⟩] O
 have hlv:=St.live4 O 0 rfl zbm zbm zbm zbm
 have O:=St.addSz O 9999
 refine zg [some (7,_)] [] [.v 2 _,.v 3 _,.v 4 _,.v 5 _,.v 6 _,.v 7 _,.adr 8 1 (.some 8) True,.sto 0] [.g 1,.g 2] O (zv rfl (zat (gq 0 rfl) zc5 (Sub.part 1 rfl rfl)) (zv rfl (zae (vq 0 rfl) zap) (zv rfl (zat (gq 0 rfl) zci (Sub.part 2 rfl rfl)) (zv rfl (zae (vq 2 rfl) zap) (zv rfl (za5 (xs:=[.tmp 3,.tmp 5]) (zls zo) (.cons (vq 1 rfl) (.cons (vq 3 rfl) .nil))) (zv rfl (zm3 (us:=[v1,v2,v4]) (xs:=[.tmp 6]) (zdl (c:=4096) zd) zbm zdb (.cons upA_qa.va .nil) (.cons (vq 4 rfl) .nil) (zmq (x:=.tmp 9999) (gq 2 rfl) hlv (by simp))) (oc (ob_a rfl rfl (za7 (lz0 0 rfl) zcb)) (oc (zfw 6 rfl rfl rfl rfl zk (vq 5 rfl) zap (Put.part 2 rfl rfl rfl)) o0)))))))) (zz [(1,_),(9999,_)] [⟨1,37,ptrH,_⟩] fun a w O=>?_)
 refine zch<|zii O (zm 0 rfl) (zm 0 rfl) ?_
 refine zag ?_ (zb2 (rs:=[]) rfl O .nil zd)
 exact zbh
theorem zvy  : Cm Tryz.prog 101 37 (QMA 2 ⟨1,0,0,1⟩) (Q4D 5 5 5 5 (0-1) (0-0) (0-0) (0-1)) [.w (ptrH),] (Tu []):=by
 refine Cm.intro Tryz.func101 rfl zk nq (fun B g w0 a O=>?_)
 have O:=zn [(0,EqV ((ptrH).f g)),] [⟨0,37,ptrH,QMA 2 ⟨1,0,0,1⟩⟩] O
 refine zg [some (2,_)] [] [.v 1 _,.v 2 _,.sto 0] [.g 0] O (zv rfl (zaq (lz0 0 rfl) zb1) (zv rfl (za5 (xs:=[.tmp 1]) (zlx (m:=⟨_,_,_,_⟩) zo) (.cons (vq 0 rfl) .nil)) (oc (zaa rfl rfl rfl (vq 1 rfl) zb1 (Eq.trans (b:=16) rfl rfl)) o0))) (zz [(0,_)] [⟨0,37,ptrH,_⟩] fun a w O=>?_)
 refine zch<|zfu O (zm 0 rfl) (zm 0 rfl) ?_
 refine zag ?_ (zb2 (rs:=[]) rfl O .nil zd)
 exact zbh
theorem rowOfDK1 {p q:Rat}  : Cn Tryz.prog 27 [(QEA 2048 ((1:Nat):Int) p q).va] ((QMD 4099 ⟨1,p,0,1⟩).va):=by
 refine Cn.intro Tryz.func27 rfl zk nq (fun B w0 a O=>?_)
 have O:=zn [(0,(QEA 2048 ((1:Nat):Int) p q).va)] [] O
 refine wp_seq<|zg [] [⟨1,30,ptrH,some 0,_,none⟩,⟨2,37,ptrH,some 1,_,none⟩] [.alc 0,.alc 1] [] O (oc (zal rfl rfl rfl (gq 0 rfl)) (oc (zam rfl rfl rfl (Str.zero zar)) o0)) (zz [] [⟨1,30,ptrH,_⟩,⟨2,37,ptrH,_⟩] fun a w O=>?_)
 refine zt<|zg [none,none] [⟨3,37,ptrH,some 1,_,some (2,_)⟩] [.v 5 _,.alc 2,.sto 2] [] O (zv rfl (za5 (xs:=[]) zew .nil) (oc (zam rfl rfl rfl (Str.zero zar)) (oc (zaa rfl rfl rfl (vq 0 rfl) zb1 (Eq.trans (b:=16) rfl rfl)) o0))) (zz [] [⟨1,30,ptrH,_⟩,⟨2,37,ptrH,_⟩,⟨3,37,ptrH,_⟩] fun a w O=>?_)
 refine zt ?_
 obtain ⟨q1,O⟩:=St.nm O 0 rfl
 obtain ⟨q3,O⟩:=St.nm O 2 rfl
 obtain ⟨v1,v2,v3,v4,hnd,O⟩:=St.pin4 O 2 rfl
 have O:=zn [(3,_),(1,_)] [⟨1,30,ptrH,_⟩,⟨2,37,ptrH,_⟩,⟨3,37,ptrH,_⟩] O
 refine zg [none,none,none] [⟨4,88,ptrH,some 6,_,some (7,_)⟩] [.v 6 _,.v 7 _,.v 8 _,.v 9 _,.v 10 _,.v 11 _,.alc 3,.sto 3] [.g 0,.g 1] O (zv rfl (zcf (xs:=[.tmp 1,.tmp 3]) (vs:=[ptr q1,ptr q3]) (.cons (gq 1 rfl) (.cons (gq 0 rfl) .nil))) (zv rfl (zcf (xs:=[.tmp 1,.tmp 3]) (vs:=[ptr q1,ptr q3]) (.cons (gq 1 rfl) (.cons (gq 0 rfl) .nil))) (zv rfl (zcf (xs:=[.tmp 1,.tmp 3]) (vs:=[ptr q1,ptr q3]) (.cons (gq 1 rfl) (.cons (gq 0 rfl) .nil))) (zv rfl (zcf (xs:=[.tmp 1,.tmp 3]) (vs:=[ptr q1,ptr q3]) (.cons (gq 1 rfl) (.cons (gq 0 rfl) .nil))) (zv rfl (zcf (xs:=[.tmp 3]) (vs:=[ptr q3]) (.cons (gq 0 rfl) .nil)) (zv rfl (ze1 (xs:=[(0,.func 92),(1,.tmp 6),(2,.tmp 7),(3,.tmp 8),(4,.tmp 9),(5,.tmp 10)]) (qs:=[(0,_),(1,_),(2,_),(3,_),(4,_),(5,_)]) zcw (.cons ⟨rfl,zeu,rfl⟩ (.cons ⟨rfl,(vq 0 rfl),rfl⟩ (.cons ⟨rfl,(vq 1 rfl),rfl⟩ (.cons ⟨rfl,(vq 2 rfl),rfl⟩ (.cons ⟨rfl,(vq 3 rfl),rfl⟩ (.cons ⟨rfl,(vq 4 rfl),rfl⟩ .nil))))))) (oc (zam rfl rfl rfl (Arr.zero zcw)) (oc (zaa rfl rfl rfl (vq 5 rfl) zkn (Eq.trans (b:=6) rfl rfl)) o0)))))))) (zz [(3,_),(1,_)] [⟨1,30,ptrH,_⟩,⟨2,37,ptrH,_⟩,⟨3,37,ptrH,_⟩,⟨4,88,ptrH,_⟩] fun a w O=>?_)
 refine zt<|zg [none,none,some (4,_),none] [] [.adr 12 1 (.some 0) True,.v 13 _,.v 14 _,.v 15 _,.cal 16 _ 2] [.g 0,.g 1] O (oc (ob_a rfl rfl (za7 (lz0 0 rfl) zcj)) (zv rfl (za4 0 rfl zk trivial (lz0 0 rfl) (Sub.part 0 rfl rfl) zf6) (zv rfl (zgo (m:=1) (lz0 3 rfl) Tryz.underlying88 zk (n_ok zk) (vq 1 rfl) rfl) (zv rfl (zae (vq 2 rfl) ty_1) (oc (zer (xs:=[.tmp 1,.tmp 3]) (vs:=[ptr q1,ptr q3]) rfl rfl rfl (zw2 v1 v2 v3 v4) (vq 3 rfl) (.cons (gq 1 rfl) (.cons (gq 0 rfl) .nil)) (.cons (zb9 (lz0 0 rfl)) (.cons arw .nil))) o0))))) (zz [(3,_),(1,_)] [⟨1,30,ptrH,_⟩,⟨2,37,ptrH,_⟩,⟨3,37,ptrH,_⟩,⟨4,88,ptrH,_⟩] fun a w O=>?_)
 refine zt<|zg [none,some (1,_),none,none] [] [.v 17 _,.sto 1] [.g 0,.g 1] O (zv rfl (zaq (lz0 2 rfl) zb1) (oc (zaa rfl rfl rfl (vq 0 rfl) zb1 (Eq.trans (b:=16) rfl rfl)) o0)) (zz [(3,_),(1,_)] [⟨1,30,ptrH,_⟩,⟨2,37,ptrH,_⟩,⟨3,37,ptrH,_⟩,⟨4,88,ptrH,_⟩] fun a w O=>?_)
 refine za0<|wp_ret<|zag ?_ (zaf rfl O (zm 1 rfl) zb1)
 exact ((ap_b (zmd hnd).1 zod).trans (zhz zd zd zd zd)).va
theorem rowOfDK2 {p q:Rat}  : Cn Tryz.prog 27 [(QEA 2048 ((2:Nat):Int) p q).va] ((QMD 4099 ⟨1,0,0-p,1⟩).va):=by
 refine Cn.intro Tryz.func27 rfl zk nq (fun B w0 a O=>?_)
 have O:=zn [(0,(QEA 2048 ((2:Nat):Int) p q).va)] [] O
 refine wp_seq<|zg [] [⟨1,30,ptrH,some 0,_,none⟩,⟨2,37,ptrH,some 1,_,none⟩] [.alc 0,.alc 1] [] O (oc (zal rfl rfl rfl (gq 0 rfl)) (oc (zam rfl rfl rfl (Str.zero zar)) o0)) (zz [] [⟨1,30,ptrH,_⟩,⟨2,37,ptrH,_⟩] fun a w O=>?_)
 refine zt<|zg [none,none] [⟨3,37,ptrH,some 1,_,some (2,_)⟩] [.v 5 _,.alc 2,.sto 2] [] O (zv rfl (za5 (xs:=[]) zew .nil) (oc (zam rfl rfl rfl (Str.zero zar)) (oc (zaa rfl rfl rfl (vq 0 rfl) zb1 (Eq.trans (b:=16) rfl rfl)) o0))) (zz [] [⟨1,30,ptrH,_⟩,⟨2,37,ptrH,_⟩,⟨3,37,ptrH,_⟩] fun a w O=>?_)
 refine zt ?_
 obtain ⟨q1,O⟩:=St.nm O 0 rfl
 obtain ⟨q3,O⟩:=St.nm O 2 rfl
 obtain ⟨v1,v2,v3,v4,hnd,O⟩:=St.pin4 O 2 rfl
 have O:=zn [(3,_),(1,_)] [⟨1,30,ptrH,_⟩,⟨2,37,ptrH,_⟩,⟨3,37,ptrH,_⟩] O
 refine zg [none,none,none] [⟨4,88,ptrH,some 6,_,some (7,_)⟩] [.v 6 _,.v 7 _,.v 8 _,.v 9 _,.v 10 _,.v 11 _,.alc 3,.sto 3] [.g 0,.g 1] O (zv rfl (zcf (xs:=[.tmp 1,.tmp 3]) (vs:=[ptr q1,ptr q3]) (.cons (gq 1 rfl) (.cons (gq 0 rfl) .nil))) (zv rfl (zcf (xs:=[.tmp 1,.tmp 3]) (vs:=[ptr q1,ptr q3]) (.cons (gq 1 rfl) (.cons (gq 0 rfl) .nil))) (zv rfl (zcf (xs:=[.tmp 1,.tmp 3]) (vs:=[ptr q1,ptr q3]) (.cons (gq 1 rfl) (.cons (gq 0 rfl) .nil))) (zv rfl (zcf (xs:=[.tmp 1,.tmp 3]) (vs:=[ptr q1,ptr q3]) (.cons (gq 1 rfl) (.cons (gq 0 rfl) .nil))) (zv rfl (zcf (xs:=[.tmp 3]) (vs:=[ptr q3]) (.cons (gq 0 rfl) .nil)) (zv rfl (ze1 (xs:=[(0,.func 92),(1,.tmp 6),(2,.tmp 7),(3,.tmp 8),(4,.tmp 9),(5,.tmp 10)]) (qs:=[(0,_),(1,_),(2,_),(3,_),(4,_),(5,_)]) zcw (.cons ⟨rfl,zeu,rfl⟩ (.cons ⟨rfl,(vq 0 rfl),rfl⟩ (.cons ⟨rfl,(vq 1 rfl),rfl⟩ (.cons ⟨rfl,(vq 2 rfl),rfl⟩ (.cons ⟨rfl,(vq 3 rfl),rfl⟩ (.cons ⟨rfl,(vq 4 rfl),rfl⟩ .nil))))))) (oc (zam rfl rfl rfl (Arr.zero zcw)) (oc (zaa rfl rfl rfl (vq 5 rfl) zkn (Eq.trans (b:=6) rfl rfl)) o0)))))))) (zz [(3,_),(1,_)] [⟨1,30,ptrH,_⟩,⟨2,37,ptrH,_⟩,⟨3,37,ptrH,_⟩,⟨4,88,ptrH,_⟩] fun a w O=>?_)
 refine zt<|zg [none,none,some (4,_),none] [] [.adr 12 1 (.some 0) True,.v 13 _,.v 14 _,.v 15 _,.cal 16 _ 2] [.g 0,.g 1] O (oc (ob_a rfl rfl (za7 (lz0 0 rfl) zcj)) (zv rfl (za4 0 rfl zk trivial (lz0 0 rfl) (Sub.part 0 rfl rfl) zf6) (zv rfl (zgo (m:=1) (lz0 3 rfl) Tryz.underlying88 zk (n_ok zk) (vq 1 rfl) rfl) (zv rfl (zae (vq 2 rfl) ty_1) (oc (zer (xs:=[.tmp 1,.tmp 3]) (vs:=[ptr q1,ptr q3]) rfl rfl rfl (zw1 v1 v2 v3 v4) (vq 3 rfl) (.cons (gq 1 rfl) (.cons (gq 0 rfl) .nil)) (.cons (zb9 (lz0 0 rfl)) (.cons arw .nil))) o0))))) (zz [(3,_),(1,_)] [⟨1,30,ptrH,_⟩,⟨2,37,ptrH,_⟩,⟨3,37,ptrH,_⟩,⟨4,88,ptrH,_⟩] fun a w O=>?_)
 refine zt<|zg [none,some (1,_),none,none] [] [.v 17 _,.sto 1] [.g 0,.g 1] O (zv rfl (zaq (lz0 2 rfl) zb1) (oc (zaa rfl rfl rfl (vq 0 rfl) zb1 (Eq.trans (b:=16) rfl rfl)) o0)) (zz [(3,_),(1,_)] [⟨1,30,ptrH,_⟩,⟨2,37,ptrH,_⟩,⟨3,37,ptrH,_⟩,⟨4,88,ptrH,_⟩] fun a w O=>?_)
 refine za0<|wp_ret<|zag ?_ (zaf rfl O (zm 1 rfl) zb1)
 exact ((ap_c (zmd hnd).2 zod).trans (zhz zd zd zd zd)).va
theorem rowOfDK3 {p q:Rat}(h0:q≠0):Cn Tryz.prog 27 [(QEA 2048 ((3:Nat):Int) p q).va] ((QMD 4099 ⟨1,p/q,0,1⟩).va):=by
 refine Cn.intro Tryz.func27 rfl zk nq (fun B w0 a O=>?_)
 have O:=zn [(0,(QEA 2048 ((3:Nat):Int) p q).va)] [] O
 refine wp_seq<|zg [] [⟨1,30,ptrH,some 0,_,none⟩,⟨2,37,ptrH,some 1,_,none⟩] [.alc 0,.alc 1] [] O (oc (zal rfl rfl rfl (gq 0 rfl)) (oc (zam rfl rfl rfl (Str.zero zar)) o0)) (zz [] [⟨1,30,ptrH,_⟩,⟨2,37,ptrH,_⟩] fun a w O=>?_)
 refine zt<|zg [none,none] [⟨3,37,ptrH,some 1,_,some (2,_)⟩] [.v 5 _,.alc 2,.sto 2] [] O (zv rfl (za5 (xs:=[]) zew .nil) (oc (zam rfl rfl rfl (Str.zero zar)) (oc (zaa rfl rfl rfl (vq 0 rfl) zb1 (Eq.trans (b:=16) rfl rfl)) o0))) (zz [] [⟨1,30,ptrH,_⟩,⟨2,37,ptrH,_⟩,⟨3,37,ptrH,_⟩] fun a w O=>?_)
 refine zt ?_
 obtain ⟨q1,O⟩:=St.nm O 0 rfl
 obtain ⟨q3,O⟩:=St.nm O 2 rfl
 obtain ⟨v1,v2,v3,v4,hnd,O⟩:=St.pin4 O 2 rfl
 have O:=zn [(3,_),(1,_)] [⟨1,30,ptrH,_⟩,⟨2,37,ptrH,_⟩,⟨3,37,ptrH,_⟩] O
 refine zg [none,none,none] [⟨4,88,ptrH,some 6,_,some (7,_)⟩] [.v 6 _,.v 7 _,.v 8 _,.v 9 _,.v 10 _,.v 11 _,.alc 3,.sto 3] [.g 0,.g 1] O (zv rfl (zcf (xs:=[.tmp 1,.tmp 3]) (vs:=[ptr q1,ptr q3]) (.cons (gq 1 rfl) (.cons (gq 0 rfl) .nil))) (zv rfl (zcf (xs:=[.tmp 1,.tmp 3]) (vs:=[ptr q1,ptr q3]) (.cons (gq 1 rfl) (.cons (gq 0 rfl) .nil))) (zv rfl (zcf (xs:=[.tmp 1,.tmp 3]) (vs:=[ptr q1,ptr q3]) (.cons (gq 1 rfl) (.cons (gq 0 rfl) .nil))) (zv rfl (zcf (xs:=[.tmp 1,.tmp 3]) (vs:=[ptr q1,ptr q3]) (.cons (gq 1 rfl) (.cons (gq 0 rfl) .nil))) (zv rfl (zcf (xs:=[.tmp 3]) (vs:=[ptr q3]) (.cons (gq 0 rfl) .nil)) (zv rfl (ze1 (xs:=[(0,.func 92),(1,.tmp 6),(2,.tmp 7),(3,.tmp 8),(4,.tmp 9),(5,.tmp 10)]) (qs:=[(0,_),(1,_),(2,_),(3,_),(4,_),(5,_)]) zcw (.cons ⟨rfl,zeu,rfl⟩ (.cons ⟨rfl,(vq 0 rfl),rfl⟩ (.cons ⟨rfl,(vq 1 rfl),rfl⟩ (.cons ⟨rfl,(vq 2 rfl),rfl⟩ (.cons ⟨rfl,(vq 3 rfl),rfl⟩ (.cons ⟨rfl,(vq 4 rfl),rfl⟩ .nil))))))) (oc (zam rfl rfl rfl (Arr.zero zcw)) (oc (zaa rfl rfl rfl (vq 5 rfl) zkn (Eq.trans (b:=6) rfl rfl)) o0)))))))) (zz [(3,_),(1,_)] [⟨1,30,ptrH,_⟩,⟨2,37,ptrH,_⟩,⟨3,37,ptrH,_⟩,⟨4,88,ptrH,_⟩] fun a w O=>?_)
 refine zt<|zg [none,none,some (4,_),none] [] [.adr 12 1 (.some 0) True,.v 13 _,.v 14 _,.v 15 _,.cal 16 _ 2] [.g 0,.g 1] O (oc (ob_a rfl rfl (za7 (lz0 0 rfl) zcj)) (zv rfl (za4 0 rfl zk trivial (lz0 0 rfl) (Sub.part 0 rfl rfl) zf6) (zv rfl (zgo (m:=1) (lz0 3 rfl) Tryz.underlying88 zk (n_ok zk) (vq 1 rfl) rfl) (zv rfl (zae (vq 2 rfl) ty_1) (oc (zer (xs:=[.tmp 1,.tmp 3]) (vs:=[ptr q1,ptr q3]) rfl rfl rfl (zw0 v1 v2 v3 v4 h0) (vq 3 rfl) (.cons (gq 1 rfl) (.cons (gq 0 rfl) .nil)) (.cons (zb9 (lz0 0 rfl)) (.cons arw .nil))) o0))))) (zz [(3,_),(1,_)] [⟨1,30,ptrH,_⟩,⟨2,37,ptrH,_⟩,⟨3,37,ptrH,_⟩,⟨4,88,ptrH,_⟩] fun a w O=>?_)
 refine zt<|zg [none,some (1,_),none,none] [] [.v 17 _,.sto 1] [.g 0,.g 1] O (zv rfl (zaq (lz0 2 rfl) zb1) (oc (zaa rfl rfl rfl (vq 0 rfl) zb1 (Eq.trans (b:=16) rfl rfl)) o0)) (zz [(3,_),(1,_)] [⟨1,30,ptrH,_⟩,⟨2,37,ptrH,_⟩,⟨3,37,ptrH,_⟩,⟨4,88,ptrH,_⟩] fun a w O=>?_)
 refine za0<|wp_ret<|zag ?_ (zaf rfl O (zm 1 rfl) zb1)
 exact ((ap_b (zmd hnd).1 zod).trans (zhz zd zd zd zd)).va
theorem rowOfDK4 {p q:Rat}  : Cn Tryz.prog 27 [(QEA 2048 ((4:Nat):Int) p q).va] ((QMD 4099 ⟨1,0,0-p*q,1⟩).va):=by
 refine Cn.intro Tryz.func27 rfl zk nq (fun B w0 a O=>?_)
 have O:=zn [(0,(QEA 2048 ((4:Nat):Int) p q).va)] [] O
 refine wp_seq<|zg [] [⟨1,30,ptrH,some 0,_,none⟩,⟨2,37,ptrH,some 1,_,none⟩] [.alc 0,.alc 1] [] O (oc (zal rfl rfl rfl (gq 0 rfl)) (oc (zam rfl rfl rfl (Str.zero zar)) o0)) (zz [] [⟨1,30,ptrH,_⟩,⟨2,37,ptrH,_⟩] fun a w O=>?_)
 refine zt<|zg [none,none] [⟨3,37,ptrH,some 1,_,some (2,_)⟩] [.v 5 _,.alc 2,.sto 2] [] O (zv rfl (za5 (xs:=[]) zew .nil) (oc (zam rfl rfl rfl (Str.zero zar)) (oc (zaa rfl rfl rfl (vq 0 rfl) zb1 (Eq.trans (b:=16) rfl rfl)) o0))) (zz [] [⟨1,30,ptrH,_⟩,⟨2,37,ptrH,_⟩,⟨3,37,ptrH,_⟩] fun a w O=>?_)
 refine zt ?_
 obtain ⟨q1,O⟩:=St.nm O 0 rfl
 obtain ⟨q3,O⟩:=St.nm O 2 rfl
 obtain ⟨v1,v2,v3,v4,hnd,O⟩:=St.pin4 O 2 rfl
 have O:=zn [(3,_),(1,_)] [⟨1,30,ptrH,_⟩,⟨2,37,ptrH,_⟩,⟨3,37,ptrH,_⟩] O
 refine zg [none,none,none] [⟨4,88,ptrH,some 6,_,some (7,_)⟩] [.v 6 _,.v 7 _,.v 8 _,.v 9 _,.v 10 _,.v 11 _,.alc 3,.sto 3] [.g 0,.g 1] O (zv rfl (zcf (xs:=[.tmp 1,.tmp 3]) (vs:=[ptr q1,ptr q3]) (.cons (gq 1 rfl) (.cons (gq 0 rfl) .nil))) (zv rfl (zcf (xs:=[.tmp 1,.tmp 3]) (vs:=[ptr q1,ptr q3]) (.cons (gq 1 rfl) (.cons (gq 0 rfl) .nil))) (zv rfl (zcf (xs:=[.tmp 1,.tmp 3]) (vs:=[ptr q1,ptr q3]) (.cons (gq 1 rfl) (.cons (gq 0 rfl) .nil))) (zv rfl (zcf (xs:=[.tmp 1,.tmp 3]) (vs:=[ptr q1,ptr q3]) (.cons (gq 1 rfl) (.cons (gq 0 rfl) .nil))) (zv rfl (zcf (xs:=[.tmp 3]) (vs:=[ptr q3]) (.cons (gq 0 rfl) .nil)) (zv rfl (ze1 (xs:=[(0,.func 92),(1,.tmp 6),(2,.tmp 7),(3,.tmp 8),(4,.tmp 9),(5,.tmp 10)]) (qs:=[(0,_),(1,_),(2,_),(3,_),(4,_),(5,_)]) zcw (.cons ⟨rfl,zeu,rfl⟩ (.cons ⟨rfl,(vq 0 rfl),rfl⟩ (.cons ⟨rfl,(vq 1 rfl),rfl⟩ (.cons ⟨rfl,(vq 2 rfl),rfl⟩ (.cons ⟨rfl,(vq 3 rfl),rfl⟩ (.cons ⟨rfl,(vq 4 rfl),rfl⟩ .nil))))))) (oc (zam rfl rfl rfl (Arr.zero zcw)) (oc (zaa rfl rfl rfl (vq 5 rfl) zkn (Eq.trans (b:=6) rfl rfl)) o0)))))))) (zz [(3,_),(1,_)] [⟨1,30,ptrH,_⟩,⟨2,37,ptrH,_⟩,⟨3,37,ptrH,_⟩,⟨4,88,ptrH,_⟩] fun a w O=>?_)
 refine zt<|zg [none,none,some (4,_),none] [] [.adr 12 1 (.some 0) True,.v 13 _,.v 14 _,.v 15 _,.cal 16 _ 2] [.g 0,.g 1] O (oc (ob_a rfl rfl (za7 (lz0 0 rfl) zcj)) (zv rfl (za4 0 rfl zk trivial (lz0 0 rfl) (Sub.part 0 rfl rfl) zf6) (zv rfl (zgo (m:=1) (lz0 3 rfl) Tryz.underlying88 zk (n_ok zk) (vq 1 rfl) rfl) (zv rfl (zae (vq 2 rfl) ty_1) (oc (zer (xs:=[.tmp 1,.tmp 3]) (vs:=[ptr q1,ptr q3]) rfl rfl rfl (zvz v1 v2 v3 v4) (vq 3 rfl) (.cons (gq 1 rfl) (.cons (gq 0 rfl) .nil)) (.cons (zb9 (lz0 0 rfl)) (.cons arw .nil))) o0))))) (zz [(3,_),(1,_)] [⟨1,30,ptrH,_⟩,⟨2,37,ptrH,_⟩,⟨3,37,ptrH,_⟩,⟨4,88,ptrH,_⟩] fun a w O=>?_)
 refine zt<|zg [none,some (1,_),none,none] [] [.v 17 _,.sto 1] [.g 0,.g 1] O (zv rfl (zaq (lz0 2 rfl) zb1) (oc (zaa rfl rfl rfl (vq 0 rfl) zb1 (Eq.trans (b:=16) rfl rfl)) o0)) (zz [(3,_),(1,_)] [⟨1,30,ptrH,_⟩,⟨2,37,ptrH,_⟩,⟨3,37,ptrH,_⟩,⟨4,88,ptrH,_⟩] fun a w O=>?_)
 refine za0<|wp_ret<|zag ?_ (zaf rfl O (zm 1 rfl) zb1)
 exact ((ap_c (zmd hnd).2 zod).trans (zhz zd zd zd zd)).va
theorem rowOfDK5 {p q:Rat}  : Cn Tryz.prog 27 [(QEA 2048 ((5:Nat):Int) p q).va] ((QMD 4099 ⟨0-1,0-0,0-0,0-1⟩).va):=by
 refine Cn.intro Tryz.func27 rfl zk nq (fun B w0 a O=>?_)
 have O:=zn [(0,(QEA 2048 ((5:Nat):Int) p q).va)] [] O
 refine wp_seq<|zg [] [⟨1,30,ptrH,some 0,_,none⟩,⟨2,37,ptrH,some 1,_,none⟩] [.alc 0,.alc 1] [] O (oc (zal rfl rfl rfl (gq 0 rfl)) (oc (zam rfl rfl rfl (Str.zero zar)) o0)) (zz [] [⟨1,30,ptrH,_⟩,⟨2,37,ptrH,_⟩] fun a w O=>?_)
 refine zt<|zg [none,none] [⟨3,37,ptrH,some 1,_,some (2,_)⟩] [.v 5 _,.alc 2,.sto 2] [] O (zv rfl (za5 (xs:=[]) zew .nil) (oc (zam rfl rfl rfl (Str.zero zar)) (oc (zaa rfl rfl rfl (vq 0 rfl) zb1 (Eq.trans (b:=16) rfl rfl)) o0))) (zz [] [⟨1,30,ptrH,_⟩,⟨2,37,ptrH,_⟩,⟨3,37,ptrH,_⟩] fun a w O=>?_)
 refine zt ?_
 obtain ⟨q1,O⟩:=St.nm O 0 rfl
 obtain ⟨q3,O⟩:=St.nm O 2 rfl
 have O:=St.wkL (A':=QMA 2 ⟨1,0,0,1⟩) O 2 rfl q4_qma
 have O:=zn [(3,_),(1,_)] [⟨1,30,ptrH,_⟩,⟨2,37,ptrH,_⟩,⟨3,37,ptrH,_⟩] O
 refine zg [none,none,none] [⟨4,88,ptrH,some 6,_,some (7,_)⟩] [.v 6 _,.v 7 _,.v 8 _,.v 9 _,.v 10 _,.v 11 _,.alc 3,.sto 3] [.g 0,.g 1] O (zv rfl (zcf (xs:=[.tmp 1,.tmp 3]) (vs:=[ptr q1,ptr q3]) (.cons (gq 1 rfl) (.cons (gq 0 rfl) .nil))) (zv rfl (zcf (xs:=[.tmp 1,.tmp 3]) (vs:=[ptr q1,ptr q3]) (.cons (gq 1 rfl) (.cons (gq 0 rfl) .nil))) (zv rfl (zcf (xs:=[.tmp 1,.tmp 3]) (vs:=[ptr q1,ptr q3]) (.cons (gq 1 rfl) (.cons (gq 0 rfl) .nil))) (zv rfl (zcf (xs:=[.tmp 1,.tmp 3]) (vs:=[ptr q1,ptr q3]) (.cons (gq 1 rfl) (.cons (gq 0 rfl) .nil))) (zv rfl (zcf (xs:=[.tmp 3]) (vs:=[ptr q3]) (.cons (gq 0 rfl) .nil)) (zv rfl (ze1 (xs:=[(0,.func 92),(1,.tmp 6),(2,.tmp 7),(3,.tmp 8),(4,.tmp 9),(5,.tmp 10)]) (qs:=[(0,_),(1,_),(2,_),(3,_),(4,_),(5,_)]) zcw (.cons ⟨rfl,zeu,rfl⟩ (.cons ⟨rfl,(vq 0 rfl),rfl⟩ (.cons ⟨rfl,(vq 1 rfl),rfl⟩ (.cons ⟨rfl,(vq 2 rfl),rfl⟩ (.cons ⟨rfl,(vq 3 rfl),rfl⟩ (.cons ⟨rfl,(vq 4 rfl),rfl⟩ .nil))))))) (oc (zam rfl rfl rfl (Arr.zero zcw)) (oc (zaa rfl rfl rfl (vq 5 rfl) zkn (Eq.trans (b:=6) rfl rfl)) o0)))))))) (zz [(3,_),(1,_)] [⟨1,30,ptrH,_⟩,⟨2,37,ptrH,_⟩,⟨3,37,ptrH,_⟩,⟨4,88,ptrH,_⟩] fun a w O=>?_)
 refine zt<|zg [none,none,some (4,_),none] [] [.adr 12 1 (.some 0) True,.v 13 _,.v 14 _,.v 15 _,.cal 16 _ 2] [.g 0,.g 1] O (oc (ob_a rfl rfl (za7 (lz0 0 rfl) zcj)) (zv rfl (za4 0 rfl zk trivial (lz0 0 rfl) (Sub.part 0 rfl rfl) zf6) (zv rfl (zgo (m:=1) (lz0 3 rfl) Tryz.underlying88 zk (n_ok zk) (vq 1 rfl) rfl) (zv rfl (zae (vq 2 rfl) ty_1) (oc (zer (xs:=[.tmp 3]) (vs:=[ptr q3]) rfl rfl rfl zvy (vq 3 rfl) (.cons (gq 0 rfl) .nil) (.cons arw .nil)) o0))))) (zz [(3,_),(1,_)] [⟨1,30,ptrH,_⟩,⟨2,37,ptrH,_⟩,⟨3,37,ptrH,_⟩,⟨4,88,ptrH,_⟩] fun a w O=>?_)
 refine zt<|zg [none,some (1,_),none,none] [] [.v 17 _,.sto 1] [.g 0,.g 1] O (zv rfl (zaq (lz0 2 rfl) zb1) (oc (zaa rfl rfl rfl (vq 0 rfl) zb1 (Eq.trans (b:=16) rfl rfl)) o0)) (zz [(3,_),(1,_)] [⟨1,30,ptrH,_⟩,⟨2,37,ptrH,_⟩,⟨3,37,ptrH,_⟩,⟨4,88,ptrH,_⟩] fun a w O=>?_)
 refine za0<|wp_ret<|zag ?_ (zaf rfl O (zm 1 rfl) zb1)
 exact ((WkA.refl _).trans (zhz zd zd zd zd)).va
theorem rowOfD_c {x:RE}(h:elF x=true):Cn Tryz.prog 27 [(REA x).va] (QMD 4099 (elM x)).va:=by
 obtain ⟨hx,hk⟩:=zje h
 unfold elM
 rcases hk with hk | hk | ⟨hk,h0⟩ | hk | hk <;> rw [hk]
 ·exact rowOfDK1.wk (.cons (re_k hk hx) .nil)
 ·exact rowOfDK2.wk (.cons (re_k hk hx) .nil)
 ·exact (rowOfDK3 h0).wk (.cons (re_k hk hx) .nil)
 ·exact rowOfDK4.wk (.cons (re_k hk hx) .nil)
 ·exact rowOfDK5.wk (.cons (re_k hk hx) .nil)
set_option maxHeartbeats 2000000 in
theorem znz {xs:List RE}(h4:xs.length≤4096)(hx:xs.all elF=true):Cn Tryz.prog 24 [(SlA 30 [U32] (xs.map REA)).va] ((QMD 16781313 (prodQ xs)).va):=by
 refine Cn.introF Tryz.func24 rfl zk nq (fun B w0 a hF O=>?_)
 have O:=zn [(0,(SlA 30 [U32] (xs.map REA)).va)] [] O
 obtain ⟨v0,hv0,O⟩:=St.eqv O 0 rfl
 have hr:=zm5 hx
 refine wp_seq<|zg [] [⟨2,37,ptrH,some 0,_,none⟩] [.alc 0] [.g 0] O (oc (zam rfl rfl rfl (Str.zero zar)) o0) (zz [(0,_)] [⟨2,37,ptrH,_⟩] fun a w O=>?_)
 refine zt<|zg [none] [⟨3,37,ptrH,some 1,_,some (2,_)⟩] [.v 6 _,.alc 1,.sto 1] [.g 0] O (zv rfl (za5 (xs:=[]) zew .nil) (oc (zam rfl rfl rfl (Str.zero zar)) (oc (zaa rfl rfl rfl (vq 0 rfl) zb1 (Eq.trans (b:=16) rfl rfl)) o0))) (zz [(0,_)] [⟨2,37,ptrH,_⟩,⟨3,37,ptrH,_⟩] fun a w O=>?_)
 refine zt<|wp_seq<|zg [none,none] [] [.v 7 _,.v 8 _,.v 9 _] [.o 0,.o 1,.o 2] O (zv rfl (za1 (gq 0 rfl)) (zv rfl (zbq Tryz.underlying22 (zcd hF hv0 (vq 0 rfl))) (zv rfl (za1 za3) o0))) (zz [(7,_),(8,_),(9,_)] [⟨2,37,ptrH,_⟩,⟨3,37,ptrH,_⟩] fun a w O=>?_)
 refine za0<|wp_block ?_
 have O:=St.sel O [0,1,2]
 refine wp_loop_ghost (fun n a w=>∃ j:Nat,n+j=xs.length∧St B w0 19 [(7,EqV v0),(8,In (xs.length:Nat)),(9,In (j:Nat))] [⟨2,37,ptrH,RMA rm0⟩,⟨3,37,ptrH,QMD (1+4097*j) (prodQ (xs.take j))⟩] a w) (xs.length) ?_ ?_
 ·rw [List.length_map] at O
  exact ⟨0,by omega,St.wkL O 1 rfl (zwm (m:=⟨1,0,0,1⟩) (k:=2) rep_1)⟩
 intro n a w hI
 obtain ⟨j,hn,O⟩:=hI
 refine wp_seq<|zg [none,none] [] [.v 10 _] [.g 0,.g 1,.g 2,.o 0] O (zv rfl (zb4 (gq 2 rfl) (gq 1 rfl)) o0) (zz [(7,_),(8,_),(9,_),(10,_)] [⟨2,37,ptrH,_⟩,⟨3,37,ptrH,_⟩] fun a w O=>?_)
 refine zt<|za8 O (zm 3 rfl) (fun hb0=>?_) (fun hb0=>?_)
 ·have hj:j<xs.length:=by simp at hb0; omega
  refine wp_skip<|zt<|wp_block<|wp_seq<|zg [none,none] [⟨5,30,ptrH,some 2,_,some (3,_)⟩] [.v 11 _,.v 12 _,.alc 2,.sto 2] [.g 0,.g 1,.g 2] O (zv rfl (ze7 zh6 (ziq fun _=>rfl) (zcd hF hv0 (gq 0 rfl)) (gq 2 rfl) (zfm hj)) (zv rfl (zae (vq 0 rfl) zd8) (oc (zam rfl rfl rfl (Str.zero zf8)) (oc (zaa rfl rfl rfl (vq 1 rfl) zd8 (Eq.trans (b:=9) rfl rfl)) o0)))) (zz [(7,_),(8,_),(9,_)] [⟨2,37,ptrH,_⟩,⟨3,37,ptrH,_⟩,⟨5,30,ptrH,_⟩] fun a w O=>?_)
  refine za0<|zgd [[],[0],[],[0,1,2],[0,1,2,3]] [none,some (4,_),none] [] [.v 13 _,.v 14 _,.v 15 _,.v 16 _,.sto 1] [.g 0,.g 1,.g 2] za6 O (zv rfl (zaq (lz0 2 rfl) zd8) (zv rfl (za5 (xs:=[.tmp 13]) (rowOf_c (List.all_eq_true.1 hx _ (List.getElem_mem hj))) (.cons (vq 0 rfl) .nil)) (zv rfl (zaq (lz0 1 rfl) zb1) (zv rfl (za5 (xs:=[.tmp 14,.tmp 15]) ((zpo (c:=4099) (d:=1+4097*j) (m:=elM xs[j]) (q:=prodQ (xs.take j)) zo).wk (.cons zbh (.cons q4_qma.va .nil))) (.cons (vq 1 rfl) (.cons (vq 2 rfl) .nil))) (oc (zaa rfl rfl rfl (vq 3 rfl) zb1 (Eq.trans (b:=16) rfl rfl)) o0))))) zk zk zk zk (zz [(7,_),(8,_),(9,_)] [⟨2,37,ptrH,_⟩,⟨3,37,ptrH,_⟩,⟨5,30,ptrH,_⟩] fun a w O=>?_)
  refine zai ?_
  refine za0<|zg [none,none,none] [] [.v 17 _,.v 9 _] [.g 0,.g 1,.o 1] O (zv rfl (zba (gq 2 rfl) za3 ((wi64 zo zo).trans (by omega:(_:Int)=((j+1:Nat):Int)))) (zv rfl (za1 (vq 0 rfl)) o0)) (zz [(7,_),(8,_),(9,_)] [⟨2,37,ptrH,_⟩,⟨3,37,ptrH,_⟩,⟨5,30,ptrH,_⟩] fun a w O=>?_)
  refine za0 ?_
  have O:=St.sel O [0,1,2]
  have O:=St.selL O [0,1]
  have O:=St.wkL (A':=QMD (1+4097*(j+1)) (prodQ (xs.take (j+1)))) O 1 rfl ((zjj (congrArg (QMD _) (zpw hj).symm)).trans (zwm (hr (j+1) zo)))
  exact ⟨n-1,by omega,j+1,by omega,O⟩
 ·obtain rfl:j=xs.length:=by simp at hb0; omega
  refine wp_exit<|za9<|za9<|zau<|zt<|zg [some (1,_),none] [] [.v 18 _,.sto 0] [] O (zv rfl (zaq (lz0 1 rfl) zb1) (oc (zaa rfl rfl rfl (vq 0 rfl) zb1 (Eq.trans (b:=16) rfl rfl)) o0)) (zz [] [⟨2,37,ptrH,_⟩,⟨3,37,ptrH,_⟩] fun a w O=>?_)
  refine za0<|wp_ret<|zag ?_ (zaf rfl O (zm 0 rfl) zb1)
  rw [List.take_length]; exact (zhz zo zo zo zo).va
theorem zzl {c:Nat}{v1 v2 v3 v4:Value}(m:MQ)(hnd:(vbl v1++(vbl v2++(vbl v3++vbl v4))).Nodup):Cn Tryz.prog 25 [(cat [PinA v1 (QD c m.a),PinA v2 (QD c m.b),PinA v3 (QD c m.c),PinA v4 (QD c m.d)]).va,(SlA 28 [U32] [QA c m.a,QA c m.b,QA c m.c,QA c m.d]).va] (MRD (asM 0 m)):=by
 refine Cn.intro Tryz.func25 rfl zk nq (fun B w0 a O=>?_)
 have O:=zn [(0,(cat [PinA v1 (QD c m.a),PinA v2 (QD c m.b),PinA v3 (QD c m.c),PinA v4 (QD c m.d)]).va),(1,(SlA 28 [U32] [QA c m.a,QA c m.b,QA c m.c,QA c m.d]).va)] [] O
 refine wp_seq<|zg [] [⟨2,37,ptrH,some 0,_,none⟩,⟨4,37,ptrH,some 1,_,none⟩] [.alc 0,.alc 1,.v 5 _] [.g 1,.o 2] O (oc (zal rfl rfl rfl (gq 0 rfl)) (oc (zam rfl rfl rfl (Str.zero zf7)) (zv rfl (za2 za3) o0))) (zz [(1,_),(5,_)] [⟨2,37,ptrH,_⟩,⟨4,37,ptrH,_⟩] fun a w O=>?_)
 refine zt<|wp_seq<|zg [none,none] [] [.v 6 _,.v 7 _] [.g 1,.o 1] O (zv rfl (za1 (gq 0 rfl)) (zv rfl (za5 (xs:=[.tmp 6]) (long_q [m.a,m.b,m.c,m.d] (.cons ⟨_,rfl⟩ (.cons ⟨_,rfl⟩ (.cons ⟨_,rfl⟩ (.cons ⟨_,rfl⟩ .nil)))) nq) (.cons (vq 0 rfl) .nil)) o0)) (zz [(5,_),(7,_)] [⟨2,37,ptrH,_⟩,⟨4,37,ptrH,_⟩] fun a w O=>?_)
 refine za0<|za8 O (zm 1 rfl) (fun hb0=>?_) (fun hb0=>?_)
 ·refine wp_seq<|zg [none,some (1,_)] [] [.v 8 _,.sto 1,.v 5 _] [.o 2] O (zv rfl (zaq (lz0 1 rfl) zb1) (oc (zaa rfl rfl rfl (vq 0 rfl) zb1 (Eq.trans (b:=16) rfl rfl)) (zv rfl (za2 za3) o0))) (zz [(5,_)] [⟨2,37,ptrH,_⟩,⟨4,37,ptrH,_⟩] fun a w O=>?_)
  refine za0<|wp_ret<|zak ?_
  refine zag ?_ (zb2 (rs:=[.cell 4 37,.tmp 5]) rfl O (.cell (zm 1 rfl) zb1 (.tmp (zm 0 rfl) .nil)) zd)
  rw [as_any hb0]; exact tu2w zm_rmd.va zbh
 ·refine wp_skip<|zt<|zg [none,some (1,_)] [] [.v 9 _,.sto 1,.v 5 _] [.o 2] O (zv rfl (zaq (lz0 0 rfl) zb1) (oc (zaa rfl rfl rfl (vq 0 rfl) zb1 (Eq.trans (b:=16) rfl rfl)) (zv rfl (za2 za3) o0))) (zz [(5,_)] [⟨2,37,ptrH,_⟩,⟨4,37,ptrH,_⟩] fun a w O=>?_)
  refine za0<|wp_ret<|zag ?_ (zb2 (rs:=[.cell 4 37,.tmp 5]) rfl O (.cell (zm 1 rfl) zb1 (.tmp (zm 0 rfl) .nil)) zd)
  rw [as_none hb0]; exact tu2w ((pin4_nod hnd).trans qmd_rmd).va zbh
theorem zqy {c:Nat}{v1 v2 v3 v4:Value}(m:MQ)(hnd:(vbl v1++(vbl v2++(vbl v3++vbl v4))).Nodup):Cn Tryz.prog 25 [(cat [PinA v1 (QD c m.a),PinA v2 (QD c m.b),PinA v3 (QD c m.c),PinA v4 (QD c m.d)]).va,(SlA 28 [U32] [PinA v1 (QD c m.a),PinA v2 (QD c m.b),PinA v3 (QD c m.c),PinA v4 (QD c m.d)]).va] (MRD (asM 0 m)) :=
 (zzl m hnd).wk (.cons zbh (.cons (zzt (.cons (pin_wk.trans zoa) (.cons (pin_wk.trans zoa) (.cons (pin_wk.trans zoa) (.cons (pin_wk.trans zoa) .nil)))) qa4_dp).va .nil))
theorem zpd (xs:List RE):Cn Tryz.prog 9 [(SlA 30 [U32] (xs.map REA)).va] (MRD (benF xs)):=by
 refine Cn.intro Tryz.func9 rfl zk nq (fun B w0 a O=>?_)
 have O:=zn [(0,(SlA 30 [U32] (xs.map REA)).va)] [] O
 refine wp_seq<|zg [] [⟨2,37,ptrH,some 0,_,none⟩] [.alc 0,.v 3 _] [.g 0,.o 1] O (oc (zam rfl rfl rfl (Str.zero zf7)) (zv rfl (za2 za3) o0)) (zz [(0,_),(3,_)] [⟨2,37,ptrH,_⟩] fun a w O=>?_)
 refine zt<|wp_seq<|zg [none] [] [.v 6 _,.v 7 _,.v 4 _] [.g 0,.g 1,.o 2] O (zv rfl (za1 (gq 0 rfl)) (zv rfl (za5 (xs:=[.tmp 6]) (zlo xs) (.cons (vq 0 rfl) .nil)) (zv rfl (za2 (vq 1 rfl)) o0))) (zz [(0,_),(3,_),(4,_)] [⟨2,37,ptrH,_⟩] fun a w O=>?_)
 refine zt<|zg [none] [] [.v 8 _,.v 9 _] [.g 0,.g 1,.g 2,.o 1] O (zv rfl (za1 (gq 2 rfl)) (zv rfl (ze5 (vq 0 rfl) za3) o0)) (zz [(0,_),(3,_),(4,_),(9,_)] [⟨2,37,ptrH,_⟩] fun a w O=>?_)
 refine za0<|za8 O (zm 3 rfl) (fun hb0=>?_) (fun hb0=>?_)
 ·have hc:¬ chF xs=0:=by simpa using hb0
  refine wp_seq<|zg [some (2,_)] [] [.v 10 _,.v 11 _,.sto 0,.v 3 _] [.g 0,.o 3] O (zv rfl (zbf (xs:=[]) (qs:=[]) zf7 .nil) (zv rfl (za1 (gq 2 rfl)) (oc (zaa rfl rfl rfl (vq 0 rfl) zb1 (Eq.trans (b:=16) rfl rfl)) (zv rfl (za2 (vq 1 rfl)) o0)))) (zz [(0,_),(3,_)] [⟨2,37,ptrH,_⟩] fun a w O=>?_)
  refine za0<|wp_ret<|zak ?_
  refine zag ?_ (zb2 (rs:=[.cell 2 37,.tmp 3]) rfl O (.cell (zm 0 rfl) zb1 (.tmp (zm 1 rfl) .nil)) zd)
  rw [benF,if_neg hc]; exact tu2w zm_rmd.va zbh
 ·have hc:chF xs=0:=by simpa using hb0
  have hk:=ch_ok hc
  refine wp_skip<|zt<|zg [none] [⟨5,37,ptrH,some 2,_,some (3,_)⟩] [.v 12 _,.v 13 _,.alc 1,.sto 1] [.g 1] O (zv rfl (za1 (gq 0 rfl)) (zv rfl (za5 (xs:=[.tmp 12]) (znz hk.1 hk.2) (.cons (vq 0 rfl) .nil)) (oc (zam rfl rfl rfl (Str.zero zf7)) (oc (zaa rfl rfl rfl (vq 1 rfl) zb1 (Eq.trans (b:=16) rfl rfl)) o0)))) (zz [(3,_)] [⟨2,37,ptrH,_⟩,⟨5,37,ptrH,_⟩] fun a w O=>?_)
  refine zt ?_
  obtain ⟨v1,v2,v3,v4,hnd,O⟩:=St.pin4 O 1 rfl
  have O:=zn [(3,_)] [⟨2,37,ptrH,_⟩,⟨5,37,ptrH,_⟩] O
  refine zg [some (13,_),none] [] [.v 14 _,.adr 15 5 (.some 0) True,.v 16 _,.adr 17 5 (.some 4) True,.v 18 _,.adr 19 5 (.some 8) True,.v 20 _,.adr 21 5 (.some 12) True,.v 22 _,.v 23 _,.v 24 _,.v 25 _,.v 26 _,.sto 0,.v 3 _] [.o 14] O (zv rfl (zaq (lz0 1 rfl) zb1) (oc (ob_a rfl rfl (za7 (lz0 1 rfl) zcp)) (zv rfl (za4 1 rfl zk trivial (lz0 1 rfl) (Sub.part 0 rfl rfl) zap) (oc (ob_a rfl rfl (za7 (lz0 1 rfl) zcc)) (zv rfl (za4 3 rfl zk trivial (lz0 1 rfl) (Sub.part 1 rfl rfl) zap) (oc (ob_a rfl rfl (za7 (lz0 1 rfl) zcb)) (zv rfl (za4 5 rfl zk trivial (lz0 1 rfl) (Sub.part 2 rfl rfl) zap) (oc (ob_a rfl rfl (za7 (lz0 1 rfl) zco)) (zv rfl (za4 7 rfl zk trivial (lz0 1 rfl) (Sub.part 3 rfl rfl) zap) (zv rfl (zdr (D:=[U32]) (l:=[_,_,_,_]) (xs:=[.tmp 16,.tmp 18,.tmp 20,.tmp 22]) (zh0 zk) zks zk (n_ok zk) nq nq nq (.cons (vq 2 rfl) (.cons (vq 4 rfl) (.cons (vq 6 rfl) (.cons (vq 8 rfl) .nil)))) rfl rfl) (zv rfl (za5 (xs:=[.tmp 14,.tmp 23]) (zqy (prodQ xs) hnd) (.cons (vq 0 rfl) (.cons (vq 9 rfl) .nil))) (zv rfl (zo6 (vq 10 rfl)) (zv rfl (zo5 (vq 10 rfl)) (oc (zaa rfl rfl rfl (vq 11 rfl) zb1 (Eq.trans (b:=16) rfl rfl)) (zv rfl (za2 (vq 12 rfl)) o0))))))))))))))) (zz [(3,_)] [⟨2,37,ptrH,_⟩,⟨5,37,ptrH,_⟩] fun a w O=>?_)
  refine za0<|wp_ret<|zag ?_ (zb2 (rs:=[.cell 2 37,.tmp 3]) rfl O (.cell (zm 0 rfl) zb1 (.tmp (zm 0 rfl) .nil)) zd)
  rw [benF,if_pos hc]; exact zbh
theorem zz6 (x:RE):Cn Tryz.prog 10 [(REA x).va] (MRD (be1F x)):=by
 refine Cn.intro Tryz.func10 rfl zk nq (fun B w0 a O=>?_)
 have O:=zn [(0,(REA x).va)] [] O
 refine wp_seq<|zg [] [⟨1,30,ptrH,some 0,_,none⟩,⟨2,37,ptrH,some 1,_,none⟩] [.alc 0,.alc 1,.v 3 _] [.o 2] O (oc (zal rfl rfl rfl (gq 0 rfl)) (oc (zam rfl rfl rfl (Str.zero zf7)) (zv rfl (za2 za3) o0))) (zz [(3,_)] [⟨1,30,ptrH,_⟩,⟨2,37,ptrH,_⟩] fun a w O=>?_)
 refine zt<|wp_seq<|zg [none,none] [] [.v 5 _,.v 6 _,.v 7 _] [.g 0,.o 2] O (zv rfl (zaq (lz0 0 rfl) zd8) (zv rfl (za5 (xs:=[.tmp 5]) (zyj x) (.cons (vq 0 rfl) .nil)) (zv rfl (zey (vq 1 rfl)) o0))) (zz [(3,_),(7,_)] [⟨1,30,ptrH,_⟩,⟨2,37,ptrH,_⟩] fun a w O=>?_)
 refine za0<|za8 O (zm 1 rfl) (fun hb0=>?_) (fun hb0=>?_)
 ·have hk:elF x=false:=by simpa using hb0
  refine wp_seq<|zg [none,some (1,_)] [] [.v 8 _,.sto 1,.v 3 _] [.o 2] O (zv rfl (zbf (xs:=[]) (qs:=[]) zf7 .nil) (oc (zaa rfl rfl rfl (vq 0 rfl) zb1 (Eq.trans (b:=16) rfl rfl)) (zv rfl (za2 za3) o0))) (zz [(3,_)] [⟨1,30,ptrH,_⟩,⟨2,37,ptrH,_⟩] fun a w O=>?_)
  refine za0<|wp_ret<|zak ?_
  refine zag ?_ (zb2 (rs:=[.cell 2 37,.tmp 3]) rfl O (.cell (zm 1 rfl) zb1 (.tmp (zm 0 rfl) .nil)) zd)
  rw [be1F,hk]; exact tu2w zm_rmd.va zbh
 ·have hk:elF x=true:=by simpa using hb0
  refine wp_skip<|zt<|zg [none,none] [⟨4,37,ptrH,some 2,_,some (3,_)⟩] [.v 9 _,.v 10 _,.alc 2,.sto 2] [.g 0] O (zv rfl (zaq (lz0 0 rfl) zd8) (zv rfl (za5 (xs:=[.tmp 9]) (rowOfD_c hk) (.cons (vq 0 rfl) .nil)) (oc (zam rfl rfl rfl (Str.zero zf7)) (oc (zaa rfl rfl rfl (vq 1 rfl) zb1 (Eq.trans (b:=16) rfl rfl)) o0)))) (zz [(3,_)] [⟨1,30,ptrH,_⟩,⟨2,37,ptrH,_⟩,⟨4,37,ptrH,_⟩] fun a w O=>?_)
  refine zt ?_
  obtain ⟨v1,v2,v3,v4,hnd,O⟩:=St.pin4 O 2 rfl
  have O:=zn [(3,_)] [⟨1,30,ptrH,_⟩,⟨2,37,ptrH,_⟩,⟨4,37,ptrH,_⟩] O
  refine zg [none,some (13,_),none] [] [.v 11 _,.adr 12 4 (.some 0) True,.v 13 _,.adr 14 4 (.some 4) True,.v 15 _,.adr 16 4 (.some 8) True,.v 17 _,.adr 18 4 (.some 12) True,.v 19 _,.v 20 _,.v 21 _,.v 22 _,.v 23 _,.sto 1,.v 3 _] [.o 14] O (zv rfl (zaq (lz0 2 rfl) zb1) (oc (ob_a rfl rfl (za7 (lz0 2 rfl) zcp)) (zv rfl (za4 1 rfl zk trivial (lz0 2 rfl) (Sub.part 0 rfl rfl) zap) (oc (ob_a rfl rfl (za7 (lz0 2 rfl) zcc)) (zv rfl (za4 3 rfl zk trivial (lz0 2 rfl) (Sub.part 1 rfl rfl) zap) (oc (ob_a rfl rfl (za7 (lz0 2 rfl) zcb)) (zv rfl (za4 5 rfl zk trivial (lz0 2 rfl) (Sub.part 2 rfl rfl) zap) (oc (ob_a rfl rfl (za7 (lz0 2 rfl) zco)) (zv rfl (za4 7 rfl zk trivial (lz0 2 rfl) (Sub.part 3 rfl rfl) zap) (zv rfl (zdr (D:=[U32]) (l:=[_,_,_,_]) (xs:=[.tmp 13,.tmp 15,.tmp 17,.tmp 19]) (zh0 zk) zks zk (n_ok zk) nq nq nq (.cons (vq 2 rfl) (.cons (vq 4 rfl) (.cons (vq 6 rfl) (.cons (vq 8 rfl) .nil)))) rfl rfl) (zv rfl (za5 (xs:=[.tmp 11,.tmp 20]) (zqy (elM x) hnd) (.cons (vq 0 rfl) (.cons (vq 9 rfl) .nil))) (zv rfl (zo6 (vq 10 rfl)) (zv rfl (zo5 (vq 10 rfl)) (oc (zaa rfl rfl rfl (vq 11 rfl) zb1 (Eq.trans (b:=16) rfl rfl)) (zv rfl (za2 (vq 12 rfl)) o0))))))))))))))) (zz [(3,_)] [⟨1,30,ptrH,_⟩,⟨2,37,ptrH,_⟩,⟨4,37,ptrH,_⟩] fun a w O=>?_)
  refine za0<|wp_ret<|zag ?_ (zb2 (rs:=[.cell 2 37,.tmp 3]) rfl O (.cell (zm 1 rfl) zb1 (.tmp (zm 0 rfl) .nil)) zd)
  rw [be1F,if_pos hk]; exact zbh
end Go.Proofs.YtpnhpldlecmbdaaGreatDoor
