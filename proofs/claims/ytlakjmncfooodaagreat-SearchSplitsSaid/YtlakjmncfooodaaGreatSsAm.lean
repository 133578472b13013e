import Derived.Test.YtlakjmncfooodaaGreatSsAl
import Derived.ArgAppend
set_option linter.all false
set_option maxRecDepth 100000
namespace Go.Proofs.YtlakjmncfooodaaGreat
open Go Go.RowKit
variable {w:World}{B:Nat}{a:Act}{v:Value}{T:TypeId}{w0:Bs}{Γ:List (Nat × VA)}{Λ:List Lc}{ps:String}{af:Array Edge}{vr:Value}{H:Hd}{cs:List Value}{w':World}{P:Program}{D:List TypeId}
def EqA (v:Value):As where
 n:=1
 ag:=false
 p _ cs _:=cs=[v]∧v.oneCell'=true
 deps:=[]
 len:=by rintro B cs w ⟨rfl,_⟩; rfl
 one:=by rintro B cs w ⟨rfl,h⟩ c hc; simp at hc; subst hc; exact h
 ag1:=λ _=>rfl
 cg:=λ _ _ _ _ _ h=>h
 wr:=λ _ _ _ _ _ _ _ _ _ _ _ _ h=>h
theorem ii (h:v.oneCell'=true):(EqA v).va.p B v w:=⟨[v],⟨rfl,h⟩,rfl⟩
theorem fJ {v u:Value}(h:(EqA v).va.p B u w):u=v:=by
 obtain ⟨cs,⟨rfl,_⟩,h2⟩:=h
 exact h2
theorem St.nm {B N:Nat}(h:St B w0 N Γ Λ a w){s T:Nat}{A:As}(k:Nat)(hm:Λ[k]?=some ⟨s,T,ptrH,A⟩):∃ g,St B w0 N ((s,EqV (ptr g))::Γ) Λ a w:=by
 obtain ⟨g,cs,e,_⟩:=h.locs _ (qb hm)
 refine ⟨g,h.lo,h.defers,h.size,h.base,λ x hx=>?_,h.locs,h.dis⟩
 rcases qn.1 hx with rfl | hx
 ·exact e
 ·exact h.vals x hx
section
variable {P:Program} {R:Rg} {Q:Exit→Act→World→Prop} {B i:Nat} {w0:Bs}
theorem eqs_all {xs:List Operand}{vs:List Value}(hx:HasL R B w0 i xs (vs.map EqV))(av:R.Av B w0 i a w):xs.map a.eval=vs:=by
 induction vs generalizing xs with
 | nil=>cases hx; rfl
 | cons v vs ih =>
  cases hx with
  | cons h1 h2 =>
   rw [qF,ih h2]
   have:_=v:=h1 a w av
   rw [this]
theorem c9 {f:FuncId}{xs:List Operand}{vs:List Value}(hx:HasL R B w0 i xs (vs.map EqV)):Wv P Q R B w0 i (.makeFunc (.func f) #[] xs.toArray) (EqA (.func (.func f) #[] vs.toArray)).va :=
 aQ λ _ _ _ _ _ a w av=>by
  have e:=eqs_all hx av
  refine ⟨.func (.func f) #[] vs.toArray,w,?_,Grow.refl w,ii rfl⟩
  simp [execOp,Instr.makeFunc,e]
theorem fG {f:FuncId}:Has R B w0 i (.func f) (EqA (.func (.func f) #[] #[])).va:=λ _ _ _=>ii rfl
theorem fx {d s e c:Nat}{cr:Option Nat}{A0 A1:As}{A:VA}{f:FuncId}{xs:List Operand}{vs:List Value}{pre:List Ar}{at_:Array TypeId}{ty:TypeId}
  (hs:R.sp[i]?=some (.cal d A e)) (he:R.les[e]?=some ⟨s,T,H,cr,A0,some (i,A1)⟩) (ho:R.ops[i]?=some ⟨some d,.call ⟨.value (.tmp c),#[],at_⟩,ty,ps,af,none⟩)
  (hc:Cm P f T A0 A1 pre A) (hv:Has R B w0 i (.tmp c) (EqA (.func (.func f) #[] vs.toArray)).va) (hvs:HasL R B w0 i xs (vs.map EqV)) (hx:All2 (ArH R B w0 i s H) pre xs):R.Ob P Q B w0 i:=by
 unfold Rg.Ob
 simp only [hs,he]
 intro a w av g cs h1 hB h3 h4 _ K hK
 obtain ⟨⟨fn,hf,hn,hb2⟩,hcall⟩:=hc
 have ev:a.eval (.tmp c)=.func (.func f) #[] vs.toArray:=fJ (hv a w av)
 have evs:=eqs_all hvs av
 have hrun:(execOp a.eval ⟨some d,.call ⟨.value (.tmp c),#[],at_⟩,ty,ps,af,none⟩).run P w=.ok (.enter f (xs.map a.eval).toArray) w:=by
  simp only [execOp,resolve,ev,Deferred.ofValue,Sem.run_bind,Sem.run_pure,Result.andThen_ok,invoke,aZ hf hn hb2,evs]
  simp
 refine bt ho G ?_
 unfold Oper.wp
 rw [hrun]
 refine (hcall B w g cs _ hB h3 h4 ?_).mono λ e w' ⟨v,cs',he,hv,hg,h5,h6⟩=>by subst he; exact hK v cs' w' hg h5 h6 hv
 clear hcall hrun ho hs he hvs evs
 induction hx with
 | nil=>exact .nil
 | @cons x y _ _ h _ ih =>
  refine .cons ?_ ih
  cases x with
  | v A=>exact h a w av
  | w H' =>
   obtain ⟨rfl,h2⟩:=h
   exact (h2 a w av).trans h1
end
structure RE where
 k:Int
 p:RF
 q:RF
 deriving DecidableEq
def REA (x:RE):As:=cat [NumA .u8 x.k,RFA x.p,RFA x.q]
def QEA (c:Nat)(k:Int)(p q:Rat):As:=cat [NumA .u8 k,QA c p,QA c q]
abbrev NfA:As:=EqA .nilFunc
theorem cZ:Str Tryz.prog 54 [NumA .u8 0,RFA rf0,RFA rf0] :=
 Str.of (z:=.agg #[.int .u8 0,.bool false,.slice none 0 0,.bool false,.slice none 0 0,.bool false,.slice none 0 0,.bool false,.slice none 0 0]) zk Tryz.underlying54 zk λ B w=>⟨[[.int .u8 0],[.bool false,.slice none 0 0,.bool false,.slice none 0 0],[.bool false,.slice none 0 0,.bool false,.slice none 0 0]],rfl,.cons rfl (.cons (dk B w) (.cons (dk B w) .nil))⟩
theorem cR:Arr Tryz.prog 144 [NfA,NfA,NfA,NfA,NfA,NfA]:=by
 have hz:((Tryz.prog.info? 144).bind (·.zero))=some (.agg #[.nilFunc,.nilFunc,.nilFunc,.nilFunc,.nilFunc,.nilFunc]):=by kernel_rfl
 obtain ⟨it,e1,e2⟩:=xL.1 hz
 have h:(Tryz.prog.info? 1).map (·.size)=some 1:=by kernel_rfl
 obtain ⟨ie,h1,h2⟩:∃ ie,Tryz.prog.info? 1=some ie∧ie.size=1:=by
  cases hi:Tryz.prog.info? 1 with
  | none=>rw [hi] at h; simp at h
  | some ie=>rw [hi] at h; exact ⟨ie,rfl,by simpa using h⟩
 refine ⟨it,_,6,1,ie,e1,e2,Tryz.underlying144,h1,?_,λ B w=>⟨[[.nilFunc],[.nilFunc],[.nilFunc],[.nilFunc],[.nilFunc],[.nilFunc]],rfl,(.cons ⟨rfl,rfl⟩ (.cons ⟨rfl,rfl⟩ (.cons ⟨rfl,rfl⟩ (.cons ⟨rfl,rfl⟩ (.cons ⟨rfl,rfl⟩ (.cons ⟨rfl,rfl⟩ .nil))))))⟩⟩
 rw [h2]
 intro f hf
 match f,hf with
 | 0,_=>rfl
 | 1,_=>rfl
 | 2,_=>rfl
 | 3,_=>rfl
 | 4,_=>rfl
 | 5,_=>rfl
theorem c8 {c:Nat}{x:Rat}(hc:c≤137438953472):Cn Tryz.prog 107 [Qs c x] (Qs (2+c+1) (0-x)):=by
 refine Cn.intro Tryz.func107 G zk nq (λ B w0 a U=>?_)
 have U:=zn [(0,Qs c x)] [] U
 refine qa<|zg [] [⟨1,28,ptrH,some 0,_,none⟩,⟨2,28,ptrH,some 1,_,none⟩] [.alc 0,.alc 1] [] U (zW 0 G (zY G (Str.zero aA) o0)) (zz [] [O 1 28 _,O 2 28 _] λ a w U=>?_)
 refine zt<|zgd [[],[],[0,1],[0,1,2]] [none,some (3,_)] [] [.v 3 _,.v 4 _,.v 5 _,.sto 1] [] a7 U (zQ G ej .nil (zl 0 G ac (zQ G (fB zo) (.p (vq 0 G) (vq 1 G)) (zS 2 G ac o0)))) zk zk zk zk (zz [] [O 1 28 _,O 2 28 _] λ a w U=>?_)
 refine a4<|qe<|aj ?_ (au G U (zm 1 G) ac)
 exact ay
theorem iB {c:Nat}{m:MQ}(hc:c≤137438953472):Cn Tryz.prog 111 [(QMA c m).va] ((QMA (2+c+1) ⟨0-m.a,0-m.b,0-m.c,0-m.d⟩).va):=by
 refine Cn.intro Tryz.func111 G zk nq (λ B w0 a U=>?_)
 have U:=zn [(0,(QMA c m).va)] [] U
 refine qa<|zg [] [⟨1,79,ptrH,some 0,_,none⟩,⟨2,79,ptrH,some 1,_,none⟩] [.alc 0,.alc 1] [] U (zW 0 G (zY G (Str.zero aF) o0)) (zz [] [O 1 79 _,O 2 79 _] λ a w U=>?_)
 refine zt<|zgd [[],[0],[0,1],[],[3],[0,1,2,3,4],[],[6],[0,1,2,3,4,5,6,7],[],[9],[0,1,2,3,4,5,6,7,8,9,10],[0,1,2,3,4,5,6,7,8,9,10,11],[0,1,2,3,4,5,6,7,8,9,10,11,12]] [none,some (13,_)] [] [.adr 3 1 (.some 0) True,.v 4 _,.v 5 _,.adr 6 1 (.some 4) True,.v 7 _,.v 8 _,.adr 9 1 (.some 8) True,.v 10 _,.v 11 _,.adr 12 1 (.some 12) True,.v 13 _,.v 14 _,.v 15 _,.sto 1] [] a7 U (zO 0 G cN (zL 0 0 0 G ac (zQ G (c8 zo) (.o (vq 1 G)) (zO 0 G cc (zL 3 0 1 G ac (zQ G (c8 zo) (.o (vq 4 G)) (zO 0 G c4 (zL 6 0 2 G ac (zQ G (c8 zo) (.o (vq 7 G)) (zO 0 G cM (zL 9 0 3 G ac (zQ G (c8 zo) (.o (vq 10 G)) (zv G (aI (qs:=[(0,_),(1,_),(2,_),(3,_)]) aF (.cons ⟨rfl,vq 2 rfl,rfl⟩ (.cons ⟨rfl,vq 5 rfl,rfl⟩ (.cons ⟨rfl,vq 8 rfl,rfl⟩ (.cons ⟨rfl,vq 11 rfl,rfl⟩ .nil))))) (zS 12 G bf o0)))))))))))))) zk zk zk zk (zz [] [O 1 79 _,O 2 79 _] λ a w U=>?_)
 refine a4<|qe<|aj ?_ (au G U (zm 1 G) bf)
 exact ay
theorem rowOf2_c {p q:Rat}{kd:Int}  : Cm Tryz.prog 105 79 (QMA 2 ⟨1,0,0,1⟩) (cat [QA 2 1,QA 2048 p,QA 2 0,QA 2 1]) [.v ((ElP 54 (QEA 2048 kd p q))),.w (ptrH)] (Tu []):=by
 refine Cm.introK 1 Tryz.func105 G zk nq (λ g=>zm 1 G) (λ B g w0 a U=>?_)
 have U:=zn [(0,(ElP 54 (QEA 2048 kd p q))),(1,EqV ((ptrH).f g))] [⟨1,79,ptrH,QMA 2 ⟨1,0,0,1⟩⟩] U
 refine zg [some (4,_)] [] [.v 2 _,.v 3 _,.v 4 _,.adr 5 1 (.some 4) True,.sto 0] [.g 1] U (zv G (bj (gq 0 G) bO (Sub.part 1 G G)) (zv G (am (vq 0 G) ac) (zQ G (iO zo) (.o (vq 1 G)) (zO 0 G cc (oc (bS 3 G G G G zk (vq 2 G) ac (Put.part 1 G G G)) o0))))) (zz [(1,_)] [O 1 79 _] λ a w U=>?_)
 refine eJ<|ret_mK U (zm 0 G) (zm 0 G) ?_
 refine aj ?_ (aB (rs:=[]) G U .nil zd)
 exact ay
theorem rowOf3_c {p q:Rat}{kd:Int}  : Cm Tryz.prog 106 79 (QMA 2 ⟨1,0,0,1⟩) (cat [QA 2 1,QA 2 0,QA 2051 (0-p),QA 2 1]) [.v ((ElP 54 (QEA 2048 kd p q))),.w (ptrH)] (Tu []):=by
 refine Cm.introK 1 Tryz.func106 G zk nq (λ g=>zm 1 G) (λ B g w0 a U=>?_)
 have U:=zn [(0,(ElP 54 (QEA 2048 kd p q))),(1,EqV ((ptrH).f g))] [⟨1,79,ptrH,QMA 2 ⟨1,0,0,1⟩⟩] U
 refine zg [some (4,_)] [] [.v 2 _,.v 3 _,.v 4 _,.adr 5 1 (.some 8) True,.sto 0] [.g 1] U (zv G (bj (gq 0 G) bO (Sub.part 1 G G)) (zv G (am (vq 0 G) ac) (zQ G (c8 zo) (.o (vq 1 G)) (zO 0 G c4 (oc (bS 3 G G G G zk (vq 2 G) ac (Put.part 2 G G G)) o0))))) (zz [(1,_)] [O 1 79 _] λ a w U=>?_)
 refine eJ<|ret_mK U (zm 0 G) (zm 0 G) ?_
 refine aj ?_ (aB (rs:=[]) G U .nil zd)
 exact ay
theorem rowOf4_c {p q:Rat}{kd:Int}(h0:q≠0):Cm Tryz.prog 108 79 (QMA 2 ⟨1,0,0,1⟩) (cat [QA 2 1,QA 4096 (p/q),QA 2 0,QA 2 1]) [.v ((ElP 54 (QEA 2048 kd p q))),.w (ptrH)] (Tu []):=by
 refine Cm.introK 1 Tryz.func108 G zk nq (λ g=>zm 1 G) (λ B g w0 a U=>?_)
 have U:=zn [(0,(ElP 54 (QEA 2048 kd p q))),(1,EqV ((ptrH).f g))] [⟨1,79,ptrH,QMA 2 ⟨1,0,0,1⟩⟩] U
 refine zg [some (6,_)] [] [.v 2 _,.v 3 _,.v 4 _,.v 5 _,.v 6 _,.adr 7 1 (.some 4) True,.sto 0] [.g 1] U (zv G (bj (gq 0 G) bO (Sub.part 1 G G)) (zv G (am (vq 0 G) ac) (zv G (bj (gq 0 G) cO (Sub.part 2 G G)) (zv G (am (vq 2 G) ac) (zQ G (over_q zd h0) (.p (vq 1 G) (vq 3 G)) (zO 0 G cc (oc (bS 5 G G G G zk (vq 4 G) ac (Put.part 1 G G G)) o0))))))) (zz [(1,_)] [O 1 79 _] λ a w U=>?_)
 refine eJ<|ret_mK U (zm 0 G) (zm 0 G) ?_
 refine aj ?_ (aB (rs:=[]) G U .nil zd)
 exact ay
theorem rowOf5_c {p q:Rat}{kd:Int}  : Cm Tryz.prog 109 79 (QMA 2 ⟨1,0,0,1⟩) (cat [QA 2 1,QA 2 0,QA 4099 (0-p*q),QA 2 1]) [.v ((ElP 54 (QEA 2048 kd p q))),.w (ptrH)] (Tu []):=by
 refine Cm.introK 1 Tryz.func109 G zk nq (λ g=>zm 1 G) (λ B g w0 a U=>?_)
 have U:=zn [(0,(ElP 54 (QEA 2048 kd p q))),(1,EqV ((ptrH).f g))] [⟨1,79,ptrH,QMA 2 ⟨1,0,0,1⟩⟩] U
 refine zg [some (7,_)] [] [.v 2 _,.v 3 _,.v 4 _,.v 5 _,.v 6 _,.v 7 _,.adr 8 1 (.some 8) True,.sto 0] [.g 1] U (zv G (bj (gq 0 G) bO (Sub.part 1 G G)) (zv G (am (vq 0 G) ac) (zv G (bj (gq 0 G) cO (Sub.part 2 G G)) (zv G (am (vq 2 G) ac) (zQ G (cB zo) (.p (vq 1 G) (vq 3 G)) (zQ G (c8 zo) (.o (vq 4 G)) (zO 0 G c4 (oc (bS 6 G G G G zk (vq 5 G) ac (Put.part 2 G G G)) o0)))))))) (zz [(1,_)] [O 1 79 _] λ a w U=>?_)
 refine eJ<|ret_mK U (zm 0 G) (zm 0 G) ?_
 refine aj ?_ (aB (rs:=[]) G U .nil zd)
 exact ay
theorem rowOf6_c  : Cm Tryz.prog 110 79 (QMA 2 ⟨1,0,0,1⟩) (QMA 5 ⟨0-1,0-0,0-0,0-1⟩) [.w (ptrH),] (Tu []):=by
 refine Cm.intro Tryz.func110 G zk nq (λ B g w0 a U=>?_)
 have U:=zn [(0,EqV ((ptrH).f g)),] [⟨0,79,ptrH,QMA 2 ⟨1,0,0,1⟩⟩] U
 refine zg [some (2,_)] [] [.v 1 _,.v 2 _,.sto 0] [.g 0] U (zl 0 G bf (zQ G (iB (m:=⟨_,_,_,_⟩) zo) (.o (vq 0 G)) (zS 1 G bf o0))) (zz [(0,_)] [O 0 79 _] λ a w U=>?_)
 refine eJ<|ret_m U (zm 0 G) (zm 0 G) ?_
 refine aj ?_ (aB (rs:=[]) G U .nil zd)
 exact ay
theorem rowOfK1 {p q:Rat}  : Cn Tryz.prog 93 [(QEA 2048 ((1:Nat):Int) p q).va] ((QMA 4099 ⟨1,p,0,1⟩).va):=by
 refine Cn.intro Tryz.func93 G zk nq (λ B w0 a U=>?_)
 have U:=zn [(0,(QEA 2048 ((1:Nat):Int) p q).va)] [] U
 refine qa<|zg [] [⟨1,54,ptrH,some 0,_,none⟩,⟨2,79,ptrH,some 1,_,none⟩] [.alc 0,.alc 1] [] U (zW 0 G (zY G (Str.zero aF) o0)) (zz [] [O 1 54 _,O 2 79 _] λ a w U=>?_)
 refine zt<|zg [η,η] [⟨3,79,ptrH,some 1,_,some (2,_)⟩] [.v 5 _,.alc 2,.sto 2] [] U (zQ G dA .nil (zY G (Str.zero aF) (zS 0 G bf o0))) (zz [] [O 1 54 _,O 2 79 _,O 3 79 _] λ a w U=>?_)
 refine zt ?_
 obtain ⟨q1,U⟩:=St.nm U 0 rfl
 obtain ⟨q3,U⟩:=St.nm U 2 rfl
 refine zg [η,η,η] [⟨4,144,ptrH,some 6,_,some (7,_)⟩] [.v 6 _,.v 7 _,.v 8 _,.v 9 _,.v 10 _,.v 11 _,.alc 3,.sto 3] [.g 0,.g 1] U (zv G (c9 (vs:=[ptr q1,ptr q3]) (.p (gq 1 G) (gq 0 G))) (zv G (c9 (vs:=[ptr q1,ptr q3]) (.p (gq 1 G) (gq 0 G))) (zv G (c9 (vs:=[ptr q1,ptr q3]) (.p (gq 1 G) (gq 0 G))) (zv G (c9 (vs:=[ptr q1,ptr q3]) (.p (gq 1 G) (gq 0 G))) (zv G (c9 (vs:=[ptr q3]) (.o (gq 0 G))) (zv G (ei (qs:=[(0,_),(1,_),(2,_),(3,_),(4,_),(5,_)]) cR (.cons ⟨rfl,fG,rfl⟩ (.cons ⟨rfl,vq 0 rfl,rfl⟩ (.cons ⟨rfl,vq 1 rfl,rfl⟩ (.cons ⟨rfl,vq 2 rfl,rfl⟩ (.cons ⟨rfl,vq 3 rfl,rfl⟩ (.cons ⟨rfl,vq 4 rfl,rfl⟩ .nil))))))) (zY G (Arr.zero cR) (zS 5 G ip o0)))))))) (zz [(3,_),(1,_)] [O 1 54 _,O 2 79 _,O 3 79 _,O 4 144 _] λ a w U=>?_)
 refine zt<|zg [η,η,some (4,_),η] [] [.adr 12 1 (.some 0) True,.v 13 _,.v 14 _,.v 15 _,.cal 16 _ 2] [.g 0,.g 1] U (zO 0 G cv (zL 0 0 0 G gx (zv G (iD (m:=1) (lz0 3 G) Tryz.underlying144 zk (n_ok zk) (vq 1 G) G) (zv G (am (vq 2 G) ty_1) (oc (fx (xs:=[.tmp 1,.tmp 3]) (vs:=[ptr q1,ptr q3]) G G G rowOf2_c (vq 3 G) (.p (gq 1 G) (gq 0 G)) (.cons (gS (lz0 0 G)) (.cons arw .nil))) o0))))) (zz [(3,_),(1,_)] [O 1 54 _,O 2 79 _,O 3 79 _,O 4 144 _] λ a w U=>?_)
 refine zt<|zg [η,some (1,_),η,η] [] [.v 17 _,.sto 1] [.g 0,.g 1] U (zl 2 G bf (zS 0 G bf o0)) (zz [(3,_),(1,_)] [O 1 54 _,O 2 79 _,O 3 79 _,O 4 144 _] λ a w U=>?_)
 refine a4<|qe<|aj ?_ (au G U (zm 1 G) bf)
 exact (aS (.cons (aU zd) (.cons (aU zd) (.cons (aU zd) (.cons (aU zd) .nil))))).va
theorem rowOfK2 {p q:Rat}  : Cn Tryz.prog 93 [(QEA 2048 ((2:Nat):Int) p q).va] ((QMA 4099 ⟨1,0,0-p,1⟩).va):=by
 refine Cn.intro Tryz.func93 G zk nq (λ B w0 a U=>?_)
 have U:=zn [(0,(QEA 2048 ((2:Nat):Int) p q).va)] [] U
 refine qa<|zg [] [⟨1,54,ptrH,some 0,_,none⟩,⟨2,79,ptrH,some 1,_,none⟩] [.alc 0,.alc 1] [] U (zW 0 G (zY G (Str.zero aF) o0)) (zz [] [O 1 54 _,O 2 79 _] λ a w U=>?_)
 refine zt<|zg [η,η] [⟨3,79,ptrH,some 1,_,some (2,_)⟩] [.v 5 _,.alc 2,.sto 2] [] U (zQ G dA .nil (zY G (Str.zero aF) (zS 0 G bf o0))) (zz [] [O 1 54 _,O 2 79 _,O 3 79 _] λ a w U=>?_)
 refine zt ?_
 obtain ⟨q1,U⟩:=St.nm U 0 rfl
 obtain ⟨q3,U⟩:=St.nm U 2 rfl
 refine zg [η,η,η] [⟨4,144,ptrH,some 6,_,some (7,_)⟩] [.v 6 _,.v 7 _,.v 8 _,.v 9 _,.v 10 _,.v 11 _,.alc 3,.sto 3] [.g 0,.g 1] U (zv G (c9 (vs:=[ptr q1,ptr q3]) (.p (gq 1 G) (gq 0 G))) (zv G (c9 (vs:=[ptr q1,ptr q3]) (.p (gq 1 G) (gq 0 G))) (zv G (c9 (vs:=[ptr q1,ptr q3]) (.p (gq 1 G) (gq 0 G))) (zv G (c9 (vs:=[ptr q1,ptr q3]) (.p (gq 1 G) (gq 0 G))) (zv G (c9 (vs:=[ptr q3]) (.o (gq 0 G))) (zv G (ei (qs:=[(0,_),(1,_),(2,_),(3,_),(4,_),(5,_)]) cR (.cons ⟨rfl,fG,rfl⟩ (.cons ⟨rfl,vq 0 rfl,rfl⟩ (.cons ⟨rfl,vq 1 rfl,rfl⟩ (.cons ⟨rfl,vq 2 rfl,rfl⟩ (.cons ⟨rfl,vq 3 rfl,rfl⟩ (.cons ⟨rfl,vq 4 rfl,rfl⟩ .nil))))))) (zY G (Arr.zero cR) (zS 5 G ip o0)))))))) (zz [(3,_),(1,_)] [O 1 54 _,O 2 79 _,O 3 79 _,O 4 144 _] λ a w U=>?_)
 refine zt<|zg [η,η,some (4,_),η] [] [.adr 12 1 (.some 0) True,.v 13 _,.v 14 _,.v 15 _,.cal 16 _ 2] [.g 0,.g 1] U (zO 0 G cv (zL 0 0 0 G gx (zv G (iD (m:=1) (lz0 3 G) Tryz.underlying144 zk (n_ok zk) (vq 1 G) G) (zv G (am (vq 2 G) ty_1) (oc (fx (xs:=[.tmp 1,.tmp 3]) (vs:=[ptr q1,ptr q3]) G G G rowOf3_c (vq 3 G) (.p (gq 1 G) (gq 0 G)) (.cons (gS (lz0 0 G)) (.cons arw .nil))) o0))))) (zz [(3,_),(1,_)] [O 1 54 _,O 2 79 _,O 3 79 _,O 4 144 _] λ a w U=>?_)
 refine zt<|zg [η,some (1,_),η,η] [] [.v 17 _,.sto 1] [.g 0,.g 1] U (zl 2 G bf (zS 0 G bf o0)) (zz [(3,_),(1,_)] [O 1 54 _,O 2 79 _,O 3 79 _,O 4 144 _] λ a w U=>?_)
 refine a4<|qe<|aj ?_ (au G U (zm 1 G) bf)
 exact (aS (.cons (aU zd) (.cons (aU zd) (.cons (aU zd) (.cons (aU zd) .nil))))).va
theorem rowOfK3 {p q:Rat}(h0:q≠0):Cn Tryz.prog 93 [(QEA 2048 ((3:Nat):Int) p q).va] ((QMA 4099 ⟨1,p/q,0,1⟩).va):=by
 refine Cn.intro Tryz.func93 G zk nq (λ B w0 a U=>?_)
 have U:=zn [(0,(QEA 2048 ((3:Nat):Int) p q).va)] [] U
 refine qa<|zg [] [⟨1,54,ptrH,some 0,_,none⟩,⟨2,79,ptrH,some 1,_,none⟩] [.alc 0,.alc 1] [] U (zW 0 G (zY G (Str.zero aF) o0)) (zz [] [O 1 54 _,O 2 79 _] λ a w U=>?_)
 refine zt<|zg [η,η] [⟨3,79,ptrH,some 1,_,some (2,_)⟩] [.v 5 _,.alc 2,.sto 2] [] U (zQ G dA .nil (zY G (Str.zero aF) (zS 0 G bf o0))) (zz [] [O 1 54 _,O 2 79 _,O 3 79 _] λ a w U=>?_)
 refine zt ?_
 obtain ⟨q1,U⟩:=St.nm U 0 rfl
 obtain ⟨q3,U⟩:=St.nm U 2 rfl
 refine zg [η,η,η] [⟨4,144,ptrH,some 6,_,some (7,_)⟩] [.v 6 _,.v 7 _,.v 8 _,.v 9 _,.v 10 _,.v 11 _,.alc 3,.sto 3] [.g 0,.g 1] U (zv G (c9 (vs:=[ptr q1,ptr q3]) (.p (gq 1 G) (gq 0 G))) (zv G (c9 (vs:=[ptr q1,ptr q3]) (.p (gq 1 G) (gq 0 G))) (zv G (c9 (vs:=[ptr q1,ptr q3]) (.p (gq 1 G) (gq 0 G))) (zv G (c9 (vs:=[ptr q1,ptr q3]) (.p (gq 1 G) (gq 0 G))) (zv G (c9 (vs:=[ptr q3]) (.o (gq 0 G))) (zv G (ei (qs:=[(0,_),(1,_),(2,_),(3,_),(4,_),(5,_)]) cR (.cons ⟨rfl,fG,rfl⟩ (.cons ⟨rfl,vq 0 rfl,rfl⟩ (.cons ⟨rfl,vq 1 rfl,rfl⟩ (.cons ⟨rfl,vq 2 rfl,rfl⟩ (.cons ⟨rfl,vq 3 rfl,rfl⟩ (.cons ⟨rfl,vq 4 rfl,rfl⟩ .nil))))))) (zY G (Arr.zero cR) (zS 5 G ip o0)))))))) (zz [(3,_),(1,_)] [O 1 54 _,O 2 79 _,O 3 79 _,O 4 144 _] λ a w U=>?_)
 refine zt<|zg [η,η,some (4,_),η] [] [.adr 12 1 (.some 0) True,.v 13 _,.v 14 _,.v 15 _,.cal 16 _ 2] [.g 0,.g 1] U (zO 0 G cv (zL 0 0 0 G gx (zv G (iD (m:=1) (lz0 3 G) Tryz.underlying144 zk (n_ok zk) (vq 1 G) G) (zv G (am (vq 2 G) ty_1) (oc (fx (xs:=[.tmp 1,.tmp 3]) (vs:=[ptr q1,ptr q3]) G G G (rowOf4_c h0) (vq 3 G) (.p (gq 1 G) (gq 0 G)) (.cons (gS (lz0 0 G)) (.cons arw .nil))) o0))))) (zz [(3,_),(1,_)] [O 1 54 _,O 2 79 _,O 3 79 _,O 4 144 _] λ a w U=>?_)
 refine zt<|zg [η,some (1,_),η,η] [] [.v 17 _,.sto 1] [.g 0,.g 1] U (zl 2 G bf (zS 0 G bf o0)) (zz [(3,_),(1,_)] [O 1 54 _,O 2 79 _,O 3 79 _,O 4 144 _] λ a w U=>?_)
 refine a4<|qe<|aj ?_ (au G U (zm 1 G) bf)
 exact (aS (.cons (aU zd) (.cons (aU zd) (.cons (aU zd) (.cons (aU zd) .nil))))).va
theorem rowOfK4 {p q:Rat}  : Cn Tryz.prog 93 [(QEA 2048 ((4:Nat):Int) p q).va] ((QMA 4099 ⟨1,0,0-p*q,1⟩).va):=by
 refine Cn.intro Tryz.func93 G zk nq (λ B w0 a U=>?_)
 have U:=zn [(0,(QEA 2048 ((4:Nat):Int) p q).va)] [] U
 refine qa<|zg [] [⟨1,54,ptrH,some 0,_,none⟩,⟨2,79,ptrH,some 1,_,none⟩] [.alc 0,.alc 1] [] U (zW 0 G (zY G (Str.zero aF) o0)) (zz [] [O 1 54 _,O 2 79 _] λ a w U=>?_)
 refine zt<|zg [η,η] [⟨3,79,ptrH,some 1,_,some (2,_)⟩] [.v 5 _,.alc 2,.sto 2] [] U (zQ G dA .nil (zY G (Str.zero aF) (zS 0 G bf o0))) (zz [] [O 1 54 _,O 2 79 _,O 3 79 _] λ a w U=>?_)
 refine zt ?_
 obtain ⟨q1,U⟩:=St.nm U 0 rfl
 obtain ⟨q3,U⟩:=St.nm U 2 rfl
 refine zg [η,η,η] [⟨4,144,ptrH,some 6,_,some (7,_)⟩] [.v 6 _,.v 7 _,.v 8 _,.v 9 _,.v 10 _,.v 11 _,.alc 3,.sto 3] [.g 0,.g 1] U (zv G (c9 (vs:=[ptr q1,ptr q3]) (.p (gq 1 G) (gq 0 G))) (zv G (c9 (vs:=[ptr q1,ptr q3]) (.p (gq 1 G) (gq 0 G))) (zv G (c9 (vs:=[ptr q1,ptr q3]) (.p (gq 1 G) (gq 0 G))) (zv G (c9 (vs:=[ptr q1,ptr q3]) (.p (gq 1 G) (gq 0 G))) (zv G (c9 (vs:=[ptr q3]) (.o (gq 0 G))) (zv G (ei (qs:=[(0,_),(1,_),(2,_),(3,_),(4,_),(5,_)]) cR (.cons ⟨rfl,fG,rfl⟩ (.cons ⟨rfl,vq 0 rfl,rfl⟩ (.cons ⟨rfl,vq 1 rfl,rfl⟩ (.cons ⟨rfl,vq 2 rfl,rfl⟩ (.cons ⟨rfl,vq 3 rfl,rfl⟩ (.cons ⟨rfl,vq 4 rfl,rfl⟩ .nil))))))) (zY G (Arr.zero cR) (zS 5 G ip o0)))))))) (zz [(3,_),(1,_)] [O 1 54 _,O 2 79 _,O 3 79 _,O 4 144 _] λ a w U=>?_)
 refine zt<|zg [η,η,some (4,_),η] [] [.adr 12 1 (.some 0) True,.v 13 _,.v 14 _,.v 15 _,.cal 16 _ 2] [.g 0,.g 1] U (zO 0 G cv (zL 0 0 0 G gx (zv G (iD (m:=1) (lz0 3 G) Tryz.underlying144 zk (n_ok zk) (vq 1 G) G) (zv G (am (vq 2 G) ty_1) (oc (fx (xs:=[.tmp 1,.tmp 3]) (vs:=[ptr q1,ptr q3]) G G G rowOf5_c (vq 3 G) (.p (gq 1 G) (gq 0 G)) (.cons (gS (lz0 0 G)) (.cons arw .nil))) o0))))) (zz [(3,_),(1,_)] [O 1 54 _,O 2 79 _,O 3 79 _,O 4 144 _] λ a w U=>?_)
 refine zt<|zg [η,some (1,_),η,η] [] [.v 17 _,.sto 1] [.g 0,.g 1] U (zl 2 G bf (zS 0 G bf o0)) (zz [(3,_),(1,_)] [O 1 54 _,O 2 79 _,O 3 79 _,O 4 144 _] λ a w U=>?_)
 refine a4<|qe<|aj ?_ (au G U (zm 1 G) bf)
 exact (aS (.cons (aU zd) (.cons (aU zd) (.cons (aU zd) (.cons (aU zd) .nil))))).va
theorem rowOfK5 {p q:Rat}  : Cn Tryz.prog 93 [(QEA 2048 ((5:Nat):Int) p q).va] ((QMA 4099 ⟨0-1,0-0,0-0,0-1⟩).va):=by
 refine Cn.intro Tryz.func93 G zk nq (λ B w0 a U=>?_)
 have U:=zn [(0,(QEA 2048 ((5:Nat):Int) p q).va)] [] U
 refine qa<|zg [] [⟨1,54,ptrH,some 0,_,none⟩,⟨2,79,ptrH,some 1,_,none⟩] [.alc 0,.alc 1] [] U (zW 0 G (zY G (Str.zero aF) o0)) (zz [] [O 1 54 _,O 2 79 _] λ a w U=>?_)
 refine zt<|zg [η,η] [⟨3,79,ptrH,some 1,_,some (2,_)⟩] [.v 5 _,.alc 2,.sto 2] [] U (zQ G dA .nil (zY G (Str.zero aF) (zS 0 G bf o0))) (zz [] [O 1 54 _,O 2 79 _,O 3 79 _] λ a w U=>?_)
 refine zt ?_
 obtain ⟨q1,U⟩:=St.nm U 0 rfl
 obtain ⟨q3,U⟩:=St.nm U 2 rfl
 refine zg [η,η,η] [⟨4,144,ptrH,some 6,_,some (7,_)⟩] [.v 6 _,.v 7 _,.v 8 _,.v 9 _,.v 10 _,.v 11 _,.alc 3,.sto 3] [.g 0,.g 1] U (zv G (c9 (vs:=[ptr q1,ptr q3]) (.p (gq 1 G) (gq 0 G))) (zv G (c9 (vs:=[ptr q1,ptr q3]) (.p (gq 1 G) (gq 0 G))) (zv G (c9 (vs:=[ptr q1,ptr q3]) (.p (gq 1 G) (gq 0 G))) (zv G (c9 (vs:=[ptr q1,ptr q3]) (.p (gq 1 G) (gq 0 G))) (zv G (c9 (vs:=[ptr q3]) (.o (gq 0 G))) (zv G (ei (qs:=[(0,_),(1,_),(2,_),(3,_),(4,_),(5,_)]) cR (.cons ⟨rfl,fG,rfl⟩ (.cons ⟨rfl,vq 0 rfl,rfl⟩ (.cons ⟨rfl,vq 1 rfl,rfl⟩ (.cons ⟨rfl,vq 2 rfl,rfl⟩ (.cons ⟨rfl,vq 3 rfl,rfl⟩ (.cons ⟨rfl,vq 4 rfl,rfl⟩ .nil))))))) (zY G (Arr.zero cR) (zS 5 G ip o0)))))))) (zz [(3,_),(1,_)] [O 1 54 _,O 2 79 _,O 3 79 _,O 4 144 _] λ a w U=>?_)
 refine zt<|zg [η,η,some (4,_),η] [] [.adr 12 1 (.some 0) True,.v 13 _,.v 14 _,.v 15 _,.cal 16 _ 2] [.g 0,.g 1] U (zO 0 G cv (zL 0 0 0 G gx (zv G (iD (m:=1) (lz0 3 G) Tryz.underlying144 zk (n_ok zk) (vq 1 G) G) (zv G (am (vq 2 G) ty_1) (oc (fx (xs:=[.tmp 3]) (vs:=[ptr q3]) G G G rowOf6_c (vq 3 G) (.o (gq 0 G)) (.cons arw .nil)) o0))))) (zz [(3,_),(1,_)] [O 1 54 _,O 2 79 _,O 3 79 _,O 4 144 _] λ a w U=>?_)
 refine zt<|zg [η,some (1,_),η,η] [] [.v 17 _,.sto 1] [.g 0,.g 1] U (zl 2 G bf (zS 0 G bf o0)) (zz [(3,_),(1,_)] [O 1 54 _,O 2 79 _,O 3 79 _,O 4 144 _] λ a w U=>?_)
 refine a4<|qe<|aj ?_ (au G U (zm 1 G) bf)
 exact (aS (.cons (aU zd) (.cons (aU zd) (.cons (aU zd) (.cons (aU zd) .nil))))).va
def elK (k ps qs:Int):Bool:=if k==1 then decide (ps≥0)&&(qs==0) else if k==2 then (qs==0) else if k==3 then decide (ps≥0)&&decide (qs>0) else if k==4 then true else ((k==5)&&(ps==0))&&(qs==0)
def elF (x:RE):Bool:=[x.p,x.q].all okX&&elK x.k (toQ x.p).num.sign (toQ x.q).num.sign
def elQ (k:Int)(p q:Rat):MQ:=if k=1 then ⟨1,p,0,1⟩ else if k=2 then ⟨1,0,0-p,1⟩ else if k=3 then ⟨1,p/q,0,1⟩ else if k=4 then ⟨1,0,0-p*q,1⟩ else ⟨0-1,0-0,0-0,0-1⟩
def elM (x:RE):MQ:=elQ x.k (toQ x.p) (toQ x.q)
def prodQ (xs:List RE):MQ:=xs.foldl (λ m x=>mulQ (elM x) m) ⟨1,0,0,1⟩
def chF (xs:List RE):Int:=if xs.length>4096 then 4 else if xs.all elF then 0 else 1
def benF (xs:List RE):RM × Int:=if chF xs=0 then asM 0 (prodQ xs) else (rm0,chF xs)
theorem elF_no {x:RE}(h:(![x.p,x.q].all okX)=true):elF x=false:=by rw [qv] at h; rw [elF,h]; rfl
theorem elF_ok {x:RE}(h:(![x.p,x.q].all okX)=false):[x.p,x.q].all okX=true∧elF x=elK x.k (toQ x.p).num.sign (toQ x.q).num.sign:=by rw [xG] at h; exact ⟨h,by rw [elF,h]; rfl⟩
theorem el_q {x:RE}(h:[x.p,x.q].all okX=true):WkA (REA x) (QEA 2048 x.k (toQ x.p) (toQ x.q)):=by
 simp only [xa,xm,xc,qh] at h
 exact aS (.cons (WkA.refl _) (.cons (qa_x h.1 (qf _)) (.cons (qa_x h.2 (qf _)) .nil)))
theorem upA_re (x:RE):UpA (REA x) (REA x):=eR (.cons (up_num _ _) (.cons (ik _) (.cons (ik _) .nil)))
theorem kd1 {k ps qs:Int}(h:(k==1)=true):elK k ps qs=(decide (ps≥0)&&(qs==0)):=by rw [elK,h]; rfl
theorem kd2 {k ps qs:Int}(h1:(k==1)=false)(h:(k==2)=true):elK k ps qs=(qs==0):=by rw [elK,h1,h]; rfl
theorem kd3 {k ps qs:Int}(h1:(k==1)=false)(h2:(k==2)=false)(h:(k==3)=true):elK k ps qs=(decide (ps≥0)&&decide (qs>0)):=by rw [elK,h1,h2,h]; rfl
theorem kd4 {k ps qs:Int}(h1:(k==1)=false)(h2:(k==2)=false)(h3:(k==3)=false)(h:(k==4)=true):elK k ps qs=true:=by rw [elK,h1,h2,h3,h]; rfl
theorem kd5 {k ps qs:Int}(h1:(k==1)=false)(h2:(k==2)=false)(h3:(k==3)=false)(h4:(k==4)=false):elK k ps qs=(((k==5)&&(ps==0))&&(qs==0)):=by rw [elK,h1,h2,h3,h4]; rfl
theorem elMay_c (x:RE):Cn Tryz.prog 80 [(REA x).va] (Bo (elF x)):=by
 refine Cn.intro Tryz.func80 G zk nq (λ B w0 a U=>?_)
 have U:=zn [(0,(REA x).va)] [] U
 refine qa<|zg [] [⟨1,54,ptrH,some 0,_,none⟩] [.alc 0,.v 2 _] [.o 1] U (zW 0 G (zv G (a6 aH) o0)) (zz [(2,_)] [O 1 54 _] λ a w U=>?_)
 refine zt<|qa<|zg [η] [] [.adr 5 1 (.some 1) True,.v 6 _,.adr 7 1 (.some 5) True,.v 8 _,.v 9 _,.v 10 _,.v 11 _] [.g 0,.o 6] U (zO 0 G bO (zL 0 0 1 G ac (zO 0 G cO (zL 2 0 2 G ac (zv G (bB (D:=[U32]) (l:=[_,_]) (xs:=[.tmp 6,.tmp 8]) (cU zk) dM zk (n_ok zk) nq nq nq (.p (vq 1 G) (vq 3 G)) G G) (zQ G (i6 [x.p,x.q] nq) (.o (vq 4 G)) (zv G (fu (vq 5 G)) o0))))))) (zz [(2,_),(11,_)] [O 1 54 _] λ a w U=>?_)
 refine a4<|a9 U (zm 1 G) (λ hb0=>?_) (λ hb0=>?_)
 ·refine qa<|zg [η] [] [.v 2 _] [.o 0] U (zv G (a6 aH) o0) (zz [(2,_)] [O 1 54 _] λ a w U=>?_)
  refine a4<|qe<|ab ?_
  refine aj ?_ (ai G U (zm 0 G))
  rw [elF_no hb0]; exact ay
 ·obtain ⟨hx,he⟩:=elF_ok hb0
  have U:=St.wkL U 0 rfl (el_q hx)
  refine qk<|zt<|zgd [[],[0],[0,1],[],[3],[0,1,2,3,4],[0,1,2,3,4,5],[0,1,2,3,4,5,6]] [none] [] [.adr 12 1 (.some 1) True,.v 13 _,.v 14 _,.adr 15 1 (.some 5) True,.v 16 _,.v 17 _,.v 3 _,.v 4 _] [.g 0,.o 6,.o 7] a7 U (zO 0 G bO (zL 0 0 1 G ac (zQ G sign_q (.o (vq 1 G)) (zO 0 G cO (zL 3 0 2 G ac (zQ G sign_q (.o (vq 4 G)) (zA 2 G (zA 5 G o0)))))))) zk zk zk zk (zz [(2,_),(3,_),(4,_)] [O 1 54 _] λ a w U=>?_)
  refine zt<|qa<|zg [η] [] [.adr 18 1 (.some 0) True,.v 19 _] [.g 0,.g 1,.g 2,.o 1] U (zO 0 G cv (zL 0 0 0 G gx o0)) (zz [(2,_),(3,_),(4,_),(19,_)] [O 1 54 _] λ a w U=>?_)
  refine a4<|qq<|qa<|zg [η] [] [.v 21 _,.v 20 _] [.g 0,.g 1,.g 2,.g 3,.o 1] U (zv G (bv (gq 3 G) a5) (zA 0 G o0)) (zz [(2,_),(3,_),(4,_),(19,_),(20,_)] [O 1 54 _] λ a w U=>?_)
  refine a4<|a9 U (zm 4 G) (λ hb1=>?_) (λ hb1=>?_)
  ·refine qa<|zg [η] [] [.v 22 _,.v 23 _,.v 24 _,.t 25 _,.t 26 _,.v 27 _,.v 2 _] [.g 1,.g 2,.o 6] U (zM 1 G (zv G (dN (vq 0 G) a5) (zv G (a8 (vq 1 G)) (zB 2 G (λ hg=>a8 (gq 2 G)) (zB 2 G (λ hg=>bv (aa (vq 3 G) hg) a5) (zv G (bF (vq 2 G) (vq 4 G)) (zA 5 G o0))))))) (zz [(3,_),(4,_),(2,_)] [O 1 54 _] λ a w U=>?_)
   refine a4<|qe<|aD ?_
   refine ab ?_
   refine aj ?_ (ai G U (zm 2 G))
   rw [he,kd1 hb1]; exact ay
  ·refine qa<|zg [η] [] [.v 29 _,.v 28 _] [.g 0,.g 1,.g 2,.g 3,.o 1] U (zv G (bv (gq 3 G) a5) (zA 0 G o0)) (zz [(2,_),(3,_),(4,_),(19,_),(28,_)] [O 1 54 _] λ a w U=>?_)
   refine a4<|a9 U (zm 4 G) (λ hb2=>?_) (λ hb2=>?_)
   ·refine qa<|zg [η] [] [.v 30 _,.v 31 _,.v 2 _] [.g 1,.g 2,.o 2] U (zM 2 G (zv G (bv (vq 0 G) a5) (zA 1 G o0))) (zz [(3,_),(4,_),(2,_)] [O 1 54 _] λ a w U=>?_)
    refine a4<|qe<|aD ?_
    refine ab ?_
    refine aj ?_ (ai G U (zm 2 G))
    rw [he,kd2 hb1 hb2]; exact ay
   ·refine qa<|zg [η] [] [.v 33 _,.v 32 _] [.g 0,.g 1,.g 2,.g 3,.o 1] U (zv G (bv (gq 3 G) a5) (zA 0 G o0)) (zz [(2,_),(3,_),(4,_),(19,_),(32,_)] [O 1 54 _] λ a w U=>?_)
    refine a4<|a9 U (zm 4 G) (λ hb3=>?_) (λ hb3=>?_)
    ·refine qa<|zg [η] [] [.v 34 _,.v 35 _,.v 36 _,.t 37 _,.t 38 _,.v 39 _,.v 2 _] [.g 1,.g 2,.o 6] U (zM 1 G (zv G (dN (vq 0 G) a5) (zv G (a8 (vq 1 G)) (zB 2 G (λ hg=>a8 (gq 2 G)) (zB 2 G (λ hg=>cD (aa (vq 3 G) hg) a5) (zv G (bF (vq 2 G) (vq 4 G)) (zA 5 G o0))))))) (zz [(3,_),(4,_),(2,_)] [O 1 54 _] λ a w U=>?_)
     refine a4<|qe<|aD ?_
     refine ab ?_
     refine aj ?_ (ai G U (zm 2 G))
     rw [he,kd3 hb1 hb2 hb3]; exact ay
    ·refine qa<|zg [η] [] [.v 41 _,.v 40 _] [.g 0,.g 1,.g 2,.o 1] U (zv G (bv (gq 3 G) a5) (zA 0 G o0)) (zz [(2,_),(3,_),(4,_),(40,_)] [O 1 54 _] λ a w U=>?_)
     refine a4<|a9 U (zm 3 G) (λ hb4=>?_) (λ hb4=>?_)
     ·refine qa<|zg [η] [] [.v 2 _] [.g 1,.g 2,.o 0] U (zv G (a6 aH) o0) (zz [(3,_),(4,_),(2,_)] [O 1 54 _] λ a w U=>?_)
      refine a4<|qe<|aD ?_
      refine ab ?_
      refine aj ?_ (ai G U (zm 2 G))
      rw [he,kd4 hb1 hb2 hb3 hb4]; exact ay
     ·refine qk<|al ?_
      refine zt<|zg [η] [] [.adr 42 1 (.some 0) True,.v 43 _,.v 44 _,.v 45 _,.t 46 _,.t 47 _,.v 48 _,.v 49 _,.t 50 _,.t 51 _,.v 52 _,.v 2 _] [.o 11] U (zO 0 G cv (zL 0 0 0 G gx (zv G (bv (vq 1 G) a5) (zv G (a8 (vq 2 G)) (zB 3 G (λ hg=>a8 (gq 1 G)) (zB 3 G (λ hg=>bv (aa (vq 4 G) hg) a5) (zv G (bF (vq 3 G) (vq 5 G)) (zv G (a8 (vq 6 G)) (zB 7 G (λ hg=>a8 (gq 2 G)) (zB 7 G (λ hg=>bv (aa (vq 8 G) hg) a5) (zv G (bF (vq 7 G) (vq 9 G)) (zA 10 G o0)))))))))))) (zz [(2,_)] [O 1 54 _] λ a w U=>?_)
      refine a4<|qe<|aj ?_ (ai G U (zm 0 G))
      rw [he,kd5 hb1 hb2 hb3 hb4]; exact ay
theorem all_so {α:Type}{p:α→Bool}{l:List α}{j:Nat}(h:j<l.length)(h2:p l[j]=false):l.all p=false:=j3.2 ⟨_,qi h,by simp [h2]⟩
theorem all_nx {α:Type}{p:α→Bool}{l:List α}{j:Nat}(h:j<l.length)(h1:(l.take j).all p=true)(h2:p l[j]=true):(l.take (j+1)).all p=true:=by
 rw [qu h,kl,h1]
 simp [h2]
theorem gp (xs:List RE):Cn Tryz.prog 48 [(SlA 54 [U32] (xs.map REA)).va] (In (chF xs)):=by
 refine Cn.introW Tryz.func48 rfl zk nq (.cons (up_sl (λ A hA=>by obtain ⟨x,_,rfl⟩:=qp.1 hA; exact upA_re x)).va .nil) (dD _ _).va (λ B w0 a hB0 U=>?_)
 have U:=zn [(0,(SlO 54 [U32] (xs.map REA) True).va)] [] U
 have hl:=slO_len (U.vals (0,(SlO 54 [U32] (xs.map REA) True).va) (zm 0 rfl))
 rw [qc] at hl
 refine qa<|zh [.v 2 _] [.g 0,.o 0] U (zv G (a6 a5) o0) (zz [(0,_),(2,_)] [] λ a w U=>?_)
 refine zt<|qa<|zh [.v 5 _,.v 6 _,.v 7 _] [.g 0,.g 1,.o 2] U (zM 0 G (zv G (bn Tryz.underlying75 (aV (ao (vq 0 G)))) (zv G (cD (vq 1 G) a5) o0))) (zz [(0,_),(2,_),(7,_)] [] λ a w U=>?_)
 refine a4<|a9 U (zm 2 G) (λ hb0=>?_) (λ hb0=>?_)
 ·have hbig:xs.length>4096:=by rw [qc] at hb0; have:=qo hb0; omega
  refine qa<|zh [.v 2 _] [.g 0,.o 0] U (zv G (a6 a5) o0) (zz [(0,_),(2,_)] [] λ a w U=>?_)
  refine a4<|qe<|ab ?_
  refine aj ?_ (ai G U (zm 1 G))
  rw [chF,ql hbig]; exact ay
 ·have hbig:¬ xs.length>4096:=by rw [qc] at hb0; have:=qx hb0; omega
  refine qk<|zt<|qa<|zh [.v 8 _,.v 9 _,.v 10 _] [.g 1,.o 0,.o 1,.o 2] U (zM 0 G (zv G (bn Tryz.underlying75 (aV (ao (vq 0 G)))) (zv G (a8 a5) o0))) (zz [(2,_),(8,_),(9,_),(10,_)] [] λ a w U=>?_)
  refine a4<|qq ?_
  have U:=St.sel U [1,2,3]
  refine wp_loop_ghost (λ n a w=>∃ j:Nat,(n+j=xs.length∧(xs.take j).all elF=true)∧St B w0 18 [(8,(SlO 54 [U32] (xs.map REA) True).va),(9,In (xs.length:Nat)),(10,In (j:Nat))] [] a w) (xs.length) ?_ ?_
  ·exact ⟨0,⟨by omega,rfl⟩,by rw [qc] at U; exact U⟩
  intro n a w hI
  obtain ⟨j,⟨hn,hno⟩,U⟩:=hI
  refine qa<|zh [.v 11 _] [.g 0,.g 1,.g 2,.o 0] U (zv G (aX (gq 2 G) (gq 1 G)) o0) (zz [(8,_),(9,_),(10,_),(11,_)] [] λ a w U=>?_)
  refine zt<|a9 U (zm 3 G) (λ hb1=>?_) (λ hb1=>?_)
  ·have hj:j<xs.length:=by simp at hb1; omega
   refine qk<|zt<|qq<|qa<|zg [] [⟨4,54,ptrH,some 2,_,some (3,_)⟩] [.v 12 _,.v 13 _,.alc 0,.sto 0] [.g 0,.g 1,.g 2] U (zv G (cn sl_75 (cE λ _=>rfl) (aV (ao (gq 0 G))) (gq 2 G) (bI hj)) (zv G (am (vq 0 G) eA) (zY G (Str.zero cZ) (zS 1 G eA o0)))) (zz [(8,_),(9,_),(10,_)] [O 4 54 _] λ a w U=>?_)
   refine zt<|zg [η] [] [.v 14 _,.v 15 _,.v 16 _] [.g 0,.g 1,.g 2,.o 2] U (zl 0 G eA (zQ G (elMay_c _) (.o (vq 0 G)) (zv G (fu (vq 1 G)) o0))) (zz [(8,_),(9,_),(10,_),(16,_)] [O 4 54 _] λ a w U=>?_)
   refine a4<|a9 U (zm 3 G) (λ hb2=>?_) (λ hb2=>?_)
   ·refine qa<|zg [η] [] [.v 2 _] [.g 0,.g 1,.g 2,.o 0] U (zv G (a6 a5) o0) (zz [(8,_),(9,_),(10,_),(2,_)] [O 4 54 _] λ a w U=>?_)
    refine a4<|qe<|aD ?_
    refine ab ?_
    refine ab ?_
    refine aD ?_
    refine ab ?_
    refine aj ?_ (ai G U (zm 3 G))
    rw [chF,qj hbig,all_so hj (by simpa using hb2)]; exact ay
   ·refine qk<|al ?_
    refine a4<|zg [η] [] [.v 17 _,.v 10 _] [.g 0,.g 1,.o 1] U (zv G (aJ (gq 2 G) a5 ((wi64 zo zo).trans (by omega:(_:Int)=((j+1:Nat):Int)))) (zv G (a8 (vq 0 G)) o0)) (zz [(8,_),(9,_),(10,_)] [O 4 54 _] λ a w U=>?_)
    refine a4 ?_
    have U:=St.sel U [0,1,2]
    have U:=St.selL U []
    exact ⟨n-1,by omega,j+1,⟨by omega,all_nx hj hno (by simpa using hb2)⟩,U⟩
  ·obtain rfl:j=xs.length:=by simp at hb1; omega
   refine za<|ak<|ak<|aC<|zt<|zh [.v 2 _] [.o 0] U (zv G (a6 a5) o0) (zz [(2,_)] [] λ a w U=>?_)
   refine a4<|qe<|aj ?_ (ai G U (zm 0 G))
   rw [qO] at hno; rw [chF,qj hbig,hno]; exact ay
def RepM (b:Nat)(m:MQ):Prop:=∃ n1 n2 n3 n4 D:Int,D≠0∧m.a=(n1:Rat)/(D:Rat)∧m.b=(n2:Rat)/(D:Rat)∧m.c=(n3:Rat)/(D:Rat)∧m.d=(n4:Rat)/(D:Rat)∧lz n1≤b∧lz n2≤b∧lz n3≤b∧lz n4≤b∧lz D≤b
theorem rep_bQ {b:Nat}{m:MQ}(h:RepM b m):bQ b m.a∧bQ b m.b∧bQ b m.c∧bQ b m.d:=by
 obtain ⟨n1,n2,n3,n4,D,hD,e1,e2,e3,e4,h1,h2,h3,h4,h5⟩:=h
 rw [e1,e2,e3,e4,← xi,← xi,← xi,← xi]
 obtain ⟨a1,a2⟩:=dT (p:=n1) hD
 obtain ⟨b1,b2⟩:=dT (p:=n2) hD
 obtain ⟨c1,c2⟩:=dT (p:=n3) hD
 obtain ⟨d1,d2⟩:=dT (p:=n4) hD
 exact ⟨⟨by omega,by omega⟩,⟨by omega,by omega⟩,⟨by omega,by omega⟩,⟨by omega,by omega⟩⟩
theorem gQ {a b c d D E:Rat}(hD:D≠0)(hE:E≠0):a/D*(c/E)+b/D*(d/E)=(a*c+b*d)/(D*E):=by grind
theorem lz_two {c d:Nat}{a b x y:Int}(ha:lz a≤c)(hb:lz b≤c)(hx:lz x≤d)(hy:lz y≤d):lz (a*x+b*y)≤c+d+1:=by
 have h1:=lz_add (a*x) (b*y)
 have h2:=eP a x
 have h3:=eP b y
 omega
theorem rep_mul {c d:Nat}{m q:MQ}(hm:RepM c m)(hq:RepM d q):RepM (c+d+1) (mulQ m q):=by
 obtain ⟨n1,n2,n3,n4,D,hD,e1,e2,e3,e4,h1,h2,h3,h4,h5⟩:=hm
 obtain ⟨k1,k2,k3,k4,E,hE,f1,f2,f3,f4,g1,g2,g3,g4,g5⟩:=hq
 have hDr:(D:Rat)≠0:=λ e=>hD (by exact_mod_cast e)
 have hEr:(E:Rat)≠0:=λ e=>hE (by exact_mod_cast e)
 refine ⟨n1*k1+n2*k3,n1*k2+n2*k4,n3*k1+n4*k3,n3*k2+n4*k4,D*E,jo hD hE,?_,?_,?_,?_,lz_two h1 h2 g1 g3,lz_two h1 h2 g2 g4,lz_two h3 h4 g1 g3,lz_two h3 h4 g2 g4,?_⟩
 ·simp only [mulQ,e1,e2,f1,f3,xQ,xP]
  exact gQ hDr hEr
 ·simp only [mulQ,e1,e2,f2,f4,xQ,xP]
  exact gQ hDr hEr
 ·simp only [mulQ,e3,e4,f1,f3,xQ,xP]
  exact gQ hDr hEr
 ·simp only [mulQ,e3,e4,f2,f4,xQ,xP]
  exact gQ hDr hEr
 ·have:=eP D E
  omega
theorem rep_of {b:Nat}{m:MQ}(n1 n2 n3 n4 D:Int)(hD:D≠0)(e1:m.a*(D:Rat)=(n1:Rat))(e2:m.b*(D:Rat)=(n2:Rat))(e3:m.c*(D:Rat)=(n3:Rat))(e4:m.d*(D:Rat)=(n4:Rat))(h1:lz n1≤b)(h2:lz n2≤b)(h3:lz n3≤b)(h4:lz n4≤b)(h5:lz D≤b):RepM b m:=by
 have hDr:(D:Rat)≠0:=λ e=>hD (by exact_mod_cast e)
 have key:∀ {x:Rat} {n:Int},x*(D:Rat)=(n:Rat)→x=(n:Rat)/(D:Rat):=λ h=>by rw [← h]; exact (Rat.mul_div_cancel hDr).symm
 exact ⟨n1,n2,n3,n4,D,hD,key e1,key e2,key e3,key e4,h1,h2,h3,h4,h5⟩
theorem den_mul (x:Rat):x*((x.den:Int):Rat)=(x.num:Rat):=by
 have:=nd_eq x
 have hd:=den_ne x
 generalize ((x.den:Int):Rat)=d at *
 generalize (x.num:Rat)=n at *
 grind
theorem lz_0:lz 0=0:=by kernel_rfl
theorem gR:lz 1≤1:=Nat.le_of_ble_eq_true zk
theorem rep_b {k:Nat}{x:Rat}(h:bQ k x):RepM k ⟨1,x,0,1⟩:=rep_of (x.den:Int) x.num 0 (x.den:Int) (x.den:Int) (by have:=x.den_pos; omega) (xI _) (den_mul x) (jE _) (xI _) h.2 h.1 (by rw [lz_0]; omega) h.2 h.2
theorem rep_c {k:Nat}{x:Rat}(h:bQ k x):RepM k ⟨1,0,x,1⟩:=rep_of (x.den:Int) 0 x.num (x.den:Int) (x.den:Int) (by have:=x.den_pos; omega) (xI _) (jE _) (den_mul x) (xI _) h.2 (by rw [lz_0]; omega) h.1 h.2 h.2
theorem rep_1:RepM 1 ⟨1,0,0,1⟩:=rep_of 1 0 0 1 1 zd (by grind) (by grind) (by grind) (by grind) gR (by rw [lz_0]; omega) (by rw [lz_0]; omega) gR gR
theorem rep_f:RepM 1 ⟨0-1,0-0,0-0,0-1⟩:=rep_of (-1) 0 0 (-1) 1 zd (by grind) (by grind) (by grind) (by grind) nq (by rw [lz_0]; omega) (by rw [lz_0]; omega) nq gR
theorem eY {b c:Nat}{m:MQ}(h:RepM b m)(hc:b≤c):RepM c m:=by
 obtain ⟨n1,n2,n3,n4,D,hD,e1,e2,e3,e4,h1,h2,h3,h4,h5⟩:=h
 exact ⟨n1,n2,n3,n4,D,hD,e1,e2,e3,e4,by omega,by omega,by omega,by omega,by omega⟩
theorem bQ_min {k:Nat}{x:Rat}(h:bQ k x):bQ k (0-x):=by
 have e:0-x = -x:=by grind
 rw [e]
 exact ⟨by rw [Rat.neg_num,gh]; exact h.1,by rw [Rat.neg_den]; exact h.2⟩
theorem bQ_div {c d:Nat}{x y:Rat}(hx:bQ c x)(hy:bQ d y)(h0:y≠0):bQ (c+d) (x/y):=by
 rw [← rat_div]
 obtain ⟨h1,h2⟩:=dT (p:=x.num*(y.den:Int)) (num_nz x h0)
 have h3:=eP x.num (y.den:Int)
 have h4:=eP (x.den:Int) y.num
 obtain ⟨x1,x2⟩:=hx
 obtain ⟨y1,y2⟩:=hy
 exact ⟨by omega,by omega⟩
theorem okX_bQ {x:RF}(h:okX x=true):bQ 2048 (toQ x):=(k6 h).2
theorem dc {x:RE}(h:elF x=true):[x.p,x.q].all okX=true∧(x.k=1∨x.k=2∨(x.k=3∧toQ x.q≠0)∨x.k=4∨x.k=5):=by
 unfold elF at h
 rw [qh] at h
 refine ⟨h.1,?_⟩
 have h2:=h.2
 by_cases h1:x.k=1
 ·exact .inl h1
 ·by_cases h3:x.k=2
  ·exact .inr (.inl h3)
  ·by_cases h4:x.k=3
   ·rw [kd3 (by simpa using h1) (by simpa using h3) (by simpa using h4),qh] at h2
    refine .inr (.inr (.inl ⟨h4,λ e=>?_⟩))
    rw [e] at h2
    have:=qo h2.2
    exact absurd this zd
   ·by_cases h5:x.k=4
    ·exact .inr (.inr (.inr (.inl h5)))
    ·rw [kd5 (by simpa using h1) (by simpa using h3) (by simpa using h4) (by simpa using h5)] at h2
     simp only [qh,zZ] at h2
     exact .inr (.inr (.inr (.inr h2.1.1)))
theorem el_rep {x:RE}(h:elF x=true):RepM 4096 (elM x):=by
 obtain ⟨hx,hk⟩:=dc h
 simp only [xa,xm,xc,qh] at hx
 have bp:=okX_bQ hx.1
 have bq:=okX_bQ hx.2
 unfold elM
 rcases hk with hk | hk | ⟨hk,h0⟩ | hk | hk <;> rw [hk]
 ·exact eY (rep_b bp) zd
 ·exact eY (rep_c (bQ_min bp)) zd
 ·exact rep_b (bQ_div bp bq h0)
 ·exact rep_c (bQ_min (bQ_mul bp bq))
 ·exact eY rep_f zd
theorem prod_nx {xs:List RE}{j:Nat}(h:j<xs.length):prodQ (xs.take (j+1))=mulQ (elM xs[j]) (prodQ (xs.take j)):=by
 rw [qu h]
 unfold prodQ
 rw [j1]
 rfl
theorem gJ {xs:List RE}(h:xs.all elF=true):∀ j,j≤xs.length→RepM (1+4097*j) (prodQ (xs.take j))
 | 0,_=>rep_1
 | j+1,hj=>by
  rw [prod_nx zo]
  exact eY (rep_mul (el_rep (qd.1 h _ (qi zo))) (gJ h j zo)) zo
theorem qa_bQ {k k':Nat}{x:Rat}(h:bQ k' x):WkA (QA k x) (QA k' x):=qaA.trans (qa_of h.1 h.2)
theorem qm_rep {k k':Nat}{m:MQ}(h:RepM k' m):WkA (QMA k m) (QMA k' m):=by
 obtain ⟨h1,h2,h3,h4⟩:=rep_bQ h
 exact aS (.cons (qa_bQ h1) (.cons (qa_bQ h2) (.cons (qa_bQ h3) (.cons (qa_bQ h4) .nil))))
theorem re_k {x:RE}{k:Int}(h:x.k=k)(hx:[x.p,x.q].all okX=true):Wk (REA x).va (QEA 2048 k (toQ x.p) (toQ x.q)).va:=by subst h; exact (el_q hx).va
theorem rowOf_c {x:RE}(h:elF x=true):Cn Tryz.prog 93 [(REA x).va] (QMA 4099 (elM x)).va:=by
 obtain ⟨hx,hk⟩:=dc h
 unfold elM
 rcases hk with hk | hk | ⟨hk,h0⟩ | hk | hk <;> rw [hk]
 ·exact rowOfK1.wk (.cons (re_k hk hx) .nil)
 ·exact rowOfK2.wk (.cons (re_k hk hx) .nil)
 ·exact (rowOfK3 h0).wk (.cons (re_k hk hx) .nil)
 ·exact rowOfK4.wk (.cons (re_k hk hx) .nil)
 ·exact rowOfK5.wk (.cons (re_k hk hx) .nil)
theorem ch_ok {xs:List RE}(h:chF xs=0):xs.length≤4096∧xs.all elF=true:=by
 unfold chF at h
 by_cases h1:xs.length>4096
 ·rw [ql h1] at h; exact absurd h zd
 ·rw [qj h1] at h
  cases h2:xs.all elF with
  | true=>exact ⟨by omega,rfl⟩
  | false=>rw [h2] at h; exact absurd h zd
set_option maxHeartbeats 2000000 in
theorem k5 {xs:List RE}(h4:xs.length≤4096)(hx:xs.all elF=true):Cn Tryz.prog 67 [(SlA 54 [U32] (xs.map REA)).va] ((QMA 16781313 (prodQ xs)).va):=by
 refine Cn.introF Tryz.func67 G zk nq (λ B w0 a hF U=>?_)
 have U:=zn [(0,(SlA 54 [U32] (xs.map REA)).va)] [] U
 obtain ⟨v0,hv0,U⟩:=St.eqv U 0 rfl
 have hr:=gJ hx
 refine qa<|zg [] [⟨2,79,ptrH,some 0,_,none⟩] [.alc 0] [.g 0] U (zY G (Str.zero aF) o0) (zz [(0,_)] [O 2 79 _] λ a w U=>?_)
 refine zt<|zg [η] [⟨3,79,ptrH,some 1,_,some (2,_)⟩] [.v 6 _,.alc 1,.sto 1] [.g 0] U (zQ G dA .nil (zY G (Str.zero aF) (zS 0 G bf o0))) (zz [(0,_)] [O 2 79 _,O 3 79 _] λ a w U=>?_)
 refine zt<|qa<|zg [η,η] [] [.v 7 _,.v 8 _,.v 9 _] [.o 0,.o 1,.o 2] U (zM 0 G (zv G (bn Tryz.underlying75 (iI hF hv0 (vq 0 G))) (zv G (a8 a5) o0))) (zz [(7,_),(8,_),(9,_)] [O 2 79 _,O 3 79 _] λ a w U=>?_)
 refine a4<|qq ?_
 have U:=St.sel U [0,1,2]
 refine wp_loop_ghost (λ n a w=>∃ j:Nat,n+j=xs.length∧St B w0 19 [(7,EqV v0),(8,In (xs.length:Nat)),(9,In (j:Nat))] [⟨2,79,ptrH,RMA rm0⟩,⟨3,79,ptrH,QMA (1+4097*j) (prodQ (xs.take j))⟩] a w) (xs.length) ?_ ?_
 ·rw [qc] at U
  exact ⟨0,by omega,St.wkL U 1 G (qm_rep rep_1)⟩
 intro n a w hI
 obtain ⟨j,hn,U⟩:=hI
 refine qa<|zg [η,η] [] [.v 10 _] [.g 0,.g 1,.g 2,.o 0] U (zv G (aX (gq 2 G) (gq 1 G)) o0) (zz [(7,_),(8,_),(9,_),(10,_)] [O 2 79 _,O 3 79 _] λ a w U=>?_)
 refine zt<|a9 U (zm 3 G) (λ hb0=>?_) (λ hb0=>?_)
 ·have hj:j<xs.length:=by simp at hb0; omega
  refine qk<|zt<|qq<|qa<|zg [η,η] [⟨5,54,ptrH,some 2,_,some (3,_)⟩] [.v 11 _,.v 12 _,.alc 2,.sto 2] [.g 0,.g 1,.g 2] U (zv G (cn sl_75 (cE λ _=>rfl) (iI hF hv0 (gq 0 G)) (gq 2 G) (bI hj)) (zv G (am (vq 0 G) eA) (zY G (Str.zero cZ) (zS 1 G eA o0)))) (zz [(7,_),(8,_),(9,_)] [O 2 79 _,O 3 79 _,O 5 54 _] λ a w U=>?_)
  refine a4<|zgd [[],[0],[],[0,1,2],[0,1,2,3]] [none,some (4,_),none] [] [.v 13 _,.v 14 _,.v 15 _,.v 16 _,.sto 1] [.g 0,.g 1,.g 2] a7 U (zl 2 G eA (zQ G (rowOf_c (qd.1 hx _ (qi hj))) (.o (vq 0 G)) (zl 1 G bf (zQ G (rowTimes_q (c:=4099) (d:=1+4097*j) (m:=elM xs[j]) (q:=prodQ (xs.take j)) zo) (.p (vq 1 G) (vq 2 G)) (zS 3 G bf o0))))) zk zk zk zk (zz [(7,_),(8,_),(9,_)] [O 2 79 _,O 3 79 _,O 5 54 _] λ a w U=>?_)
  refine al ?_
  refine a4<|zg [η,η,η] [] [.v 17 _,.v 9 _] [.g 0,.g 1,.o 1] U (zv G (aJ (gq 2 G) a5 ((wi64 zo zo).trans (by omega:(_:Int)=((j+1:Nat):Int)))) (zv G (a8 (vq 0 G)) o0)) (zz [(7,_),(8,_),(9,_)] [O 2 79 _,O 3 79 _,O 5 54 _] λ a w U=>?_)
  refine a4 ?_
  have U:=St.sel U [0,1,2]
  have U:=St.selL U [0,1]
  have U:=St.wkL (A':=QMA (1+4097*(j+1)) (prodQ (xs.take (j+1)))) U 1 rfl ((eO (qt (QMA _) (prod_nx hj).symm)).trans (qm_rep (hr (j+1) zo)))
  exact ⟨n-1,by omega,j+1,by omega,U⟩
 ·obtain rfl:j=xs.length:=by simp at hb0; omega
  refine za<|ak<|ak<|aC<|zt<|zg [some (1,_),η] [] [.v 18 _,.sto 0] [] U (zl 1 G bf (zS 0 G bf o0)) (zz [] [O 2 79 _,O 3 79 _] λ a w U=>?_)
  refine a4<|qe<|aj ?_ (au G U (zm 0 G) bf)
  rw [qO]; exact (aS (.cons (aU zo) (.cons (aU zo) (.cons (aU zo) (.cons (aU zo) .nil))))).va
def NewR (b:Nat)(E:TypeId)(l:List As):VA where
 p B v w:=∃ g ds,v=.slice (some ⟨g,0,none⟩) l.length l.length∧b≤g∧w.heap[g]?=some (.cells (List.toArray ds) E (0,0))∧(cat l).p B ds w
 deps:=E::(cat l).deps
 cg:=by
  rintro B v w w' hg ⟨g,ds,e,h1,h2,h3⟩
  exact ⟨g,ds,e,h1,hg.heap h2,(cat l).cg _ _ _ _ hg h3⟩
 wr:=by
  rintro B v w w' g c T fz hgc hT hB hW ⟨g0,ds,e,h1,h2,h3⟩
  simp only [qn,not_or] at hT
  have n1:g0≠g:=by
   rintro rfl
   rw [hgc] at h2
   injection h2 with h2
   injection h2 with _ h2 _
   exact hT.1 h2
  exact ⟨g0,ds,e,h1,by rw [hW.block g0 n1]; exact h2,(cat l).wr _ _ _ _ _ _ _ _ hgc hT.2 hB hW h3⟩
section
variable {P:Program} {R:Rg} {Q:Exit→Act→World→Prop} {B i:Nat} {w0:Bs}
theorem r_sliceN {S E:TypeId}{l:List As}{m:Nat}{xs:List Operand}(hS:Sl P S E m)(hz:((P.info? E).bind (·.zero)).isSome=true)(hm:∀ A∈l,A.n=m)(hm0:0<m)(hl0:0<l.length)(hsmall:l.length*m≤16777216)
  (hx:All2 (λ (A:As) x=>Has R B w0 i x A.va) l xs) {ps':Array (Nat × Operand)} (hps:ps'.toList=(xs.zipIdx 0).map λ x=>(x.2,x.1)) {n:Nat} (hn:n=l.length):Wv P Q R B w0 i (.buildSlice S n ps') (NewR w0.w.heap.size E l) :=
 aQ λ d T ps af gd a w av=>by
  subst hn
  obtain ⟨hs1,hs2⟩:=hS
  cases hi:P.info? E with
  | none=>rw [hi] at hs2; simp at hs2
  | some it =>
   rw [hi] at hs2 hz
   have hsz:it.size=m:=by simpa using hs2
   obtain ⟨z,hzz⟩:=jw.1 hz
   simp only [j5] at hzz
   have hvs:All2 (λ (A:As) v=>A.va.p B v w) l (xs.map a.eval):=by
    clear hps hm hl0 hsmall
    induction hx with
    | nil=>exact .nil
    | cons h _ ih=>exact .cons (h a w av) ih
   have hlen:=hvs.length
   have hvn:∀ v∈xs.map a.eval,v.cells.size=m:=by
    intro v hv
    obtain ⟨k,hk⟩:=List.getElem?_of_mem hv
    have hkl:k<l.length:=by rw [hlen]; exact (List.getElem?_eq_some_iff.1 hk).1
    obtain ⟨v',hv',cs,hp,he⟩:=hvs.get (List.getElem?_eq_getElem hkl)
    rw [hk] at hv'
    injection hv' with hv'
    subst hv'
    rw [he,As.cells_shape _ hp]
    have:=As.len _ _ _ _ hp
    simp [this]
    exact hm _ (by simp)
   have hf:=Great.fill_whole hm0 (xs.map a.eval) ((Array.range (l.length*m)).map (z.cells[· % z.cells.size]!)) hvn (by simp [hlen])
   have hrun:=run_buildSlice (P:=P) w S E l.length (ps'.map λ x=>(x.1,a.eval x.2)) ((xs.map a.eval).flatMap λ v=>v.cells.toList).toArray it z hs1 hi hzz (by rw [hsz]; omega) (by rw [hsz]; exact Nat.ne_of_gt (xv hl0 hm0)) (by
    rw [hsz,← hf]
    congr 1
    rw [kb,hps]
    simp [kh,zH,Function.comp_def])
   refine ⟨.slice (some ⟨w.heap.size,0,none⟩) l.length l.length,w.alloc (.cells ((xs.map a.eval).flatMap λ v=>v.cells.toList).toArray E),?_,Grow.alloc _ _,w.heap.size,_,rfl,av.base.size,heap_alloc_new w _,(cat l).grow _ _ _ _ (Grow.alloc _ _) (gi hvs)⟩
   simp [execOp,hrun]
end
end Go.Proofs.YtlakjmncfooodaaGreat
