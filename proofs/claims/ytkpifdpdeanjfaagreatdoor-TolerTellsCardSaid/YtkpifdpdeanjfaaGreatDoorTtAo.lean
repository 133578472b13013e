import Derived.Test.YtkpifdpdeanjfaaGreatDoorTtAn
import Derived.Deep.Slices
import Derived.ArgAppend
set_option linter.all false
set_option maxRecDepth 100000
namespace Go.Proofs.YtkpifdpdeanjfaaGreatDoor
open Go Go.RowKit
variable {w:World}{B:Nat}{a:Act}{v:Value}{T:TypeId}{w0:Bs}{Γ:List (Nat × VA)}{Λ:List Lc}{ps:String}{af:Array Edge}{vr:Value}{H:Hd}{cs:List Value}{w':World}{P:Program}{D:List TypeId}
def EqA (v:Value):As where
 n:=1
 ag:=false
 p _ cs _:=cs=[v]∧v.oneCell'=true
 deps:=[]
 len:=by rintro B cs w ⟨rfl,_⟩; rfl
 one:=by rintro B cs w ⟨rfl,h⟩ c hc; simp at hc; subst hc; exact h
 ag1:=λ _=>rfl
 cg:=λ _ _ _ _ _ h=>h
 wr:=λ _ _ _ _ _ _ _ _ _ _ _ _ h=>h
theorem uX (h:v.oneCell'=true):(EqA v).va.p B v w:=⟨[v],⟨rfl,h⟩,rfl⟩
theorem Ac {v u:Value}(h:(EqA v).va.p B u w):u=v:=by
 obtain ⟨cs,⟨rfl,_⟩,h2⟩:=h
 exact h2
theorem St.nm {B N:Nat}(h:St B w0 N Γ Λ a w){s T:Nat}{A:As}(k:Nat)(hm:Λ[k]?=some ⟨s,T,ptrH,A⟩):∃ g,St B w0 N ((s,EqV (ptr g))::Γ) Λ a w:=by
 obtain ⟨g,cs,e,_⟩:=h.locs _ (qa hm)
 refine ⟨g,h.lo,h.defers,h.size,h.base,λ x hx=>?_,h.locs,h.dis⟩
 rcases qo.1 hx with rfl | hx
 ·exact e
 ·exact h.vals x hx
section
variable {P:Program} {R:Rg} {Q:Exit→Act→World→Prop} {B i:Nat} {w0:Bs}
theorem rL {xs:List Operand}{vs:List Value}(hx:HasL R B w0 i xs (vs.map EqV))(av:R.Av B w0 i a w):xs.map a.eval=vs:=by
 induction vs generalizing xs with
 | nil=>cases hx; rfl
 | cons v vs ih =>
  cases hx with
  | cons h1 h2 =>
   rw [qX,ih h2]
   have:_=v:=h1 a w av
   rw [this]
theorem dr {f:FuncId}{xs:List Operand}{vs:List Value}(hx:HasL R B w0 i xs (vs.map EqV)):Wv P Q R B w0 i (.makeFunc (.func f) #[] xs.toArray) (EqA (.func (.func f) #[] vs.toArray)).va :=
 bm λ _ _ _ _ _ a w av=>by
  have e:=rL hx av
  refine ⟨.func (.func f) #[] vs.toArray,w,?_,Grow.refl w,uX rfl⟩
  simp [execOp,Instr.makeFunc,e]
theorem fR {f:FuncId}:Has R B w0 i (.func f) (EqA (.func (.func f) #[] #[])).va:=λ _ _ _=>uX rfl
theorem ly {d s e c:Nat}{cr:Option Nat}{A0 A1:As}{A:VA}{f:FuncId}{xs:List Operand}{vs:List Value}{pre:List Ar}{at_:Array TypeId}{ty:TypeId}
  (hs:R.sp[i]?=some (.cal d A e)) (he:R.les[e]?=some ⟨s,T,H,cr,A0,some (i,A1)⟩) (ho:R.ops[i]?=some ⟨some d,.call ⟨.value (.tmp c),#[],at_⟩,ty,ps,af,none⟩)
  (hc:Cm P f T A0 A1 pre A) (hv:Has R B w0 i (.tmp c) (EqA (.func (.func f) #[] vs.toArray)).va) (hvs:HasL R B w0 i xs (vs.map EqV)) (hx:All2 (ArH R B w0 i s H) pre xs):R.Ob P Q B w0 i:=by
 unfold Rg.Ob
 simp only [hs,he]
 intro a w av g cs h1 hB h3 h4 _ K hK
 obtain ⟨⟨fn,hf,hn,hb2⟩,hcall⟩:=hc
 have ev:a.eval (.tmp c)=.func (.func f) #[] vs.toArray:=Ac (hv a w av)
 have evs:=rL hvs av
 have hrun:(execOp a.eval ⟨some d,.call ⟨.value (.tmp c),#[],at_⟩,ty,ps,af,none⟩).run P w=.ok (.enter f (xs.map a.eval).toArray) w:=by
  simp only [execOp,resolve,ev,Deferred.ofValue,Sem.run_bind,Sem.run_pure,Result.andThen_ok,invoke,be hf hn hb2,evs]
  simp
 refine bu ho G ?_
 unfold Oper.wp
 rw [hrun]
 refine (hcall B w g cs _ hB h3 h4 ?_).mono λ e w' ⟨v,cs',he,hv,hg,h5,h6⟩=>by subst he; exact hK v cs' w' hg h5 h6 hv
 clear hcall hrun ho hs he hvs evs
 induction hx with
 | nil=>exact .nil
 | @cons x y _ _ h _ ih =>
  refine .cons ?_ ih
  cases x with
  | v A=>exact h a w av
  | w H' =>
   obtain ⟨rfl,h2⟩:=h
   exact (h2 a w av).trans h1
end
structure RE where
 k:Int
 p:RF
 q:RF
 deriving DecidableEq
def REA (x:RE):As:=cat [NumA .u8 x.k,RFA x.p,RFA x.q]
def QEA (c:Nat)(k:Int)(p q:Rat):As:=cat [NumA .u8 k,QA c p,QA c q]
abbrev NfA:As:=EqA .nilFunc
theorem cF:Str Tryz.prog 92 [NumA .u8 0,RFA rf0,RFA rf0] :=
 Str.of (z:=.agg #[.int .u8 0,.bool false,.slice none 0 0,.bool false,.slice none 0 0,.bool false,.slice none 0 0,.bool false,.slice none 0 0]) zk Tryz.underlying92 zk λ B w=>⟨[[.int .u8 0],[.bool false,.slice none 0 0,.bool false,.slice none 0 0],[.bool false,.slice none 0 0,.bool false,.slice none 0 0]],rfl,.cons rfl (.cons (l7 B w) (.cons (l7 B w) .nil))⟩
theorem dY:Arr Tryz.prog 237 [NfA,NfA,NfA,NfA,NfA,NfA]:=by
 have hz:((Tryz.prog.info? 237).bind (·.zero))=some (.agg #[.nilFunc,.nilFunc,.nilFunc,.nilFunc,.nilFunc,.nilFunc]):=by kernel_rfl
 obtain ⟨it,e1,e2⟩:=xV.1 hz
 have h:(Tryz.prog.info? 1).map (·.size)=some 1:=by kernel_rfl
 obtain ⟨ie,h1,h2⟩:∃ ie,Tryz.prog.info? 1=some ie∧ie.size=1:=by
  cases hi:Tryz.prog.info? 1 with
  | none=>rw [hi] at h; simp at h
  | some ie=>rw [hi] at h; exact ⟨ie,rfl,by simpa using h⟩
 refine ⟨it,_,6,1,ie,e1,e2,Tryz.underlying237,h1,?_,λ B w=>⟨[[.nilFunc],[.nilFunc],[.nilFunc],[.nilFunc],[.nilFunc],[.nilFunc]],rfl,(.cons ⟨rfl,rfl⟩ (.cons ⟨rfl,rfl⟩ (.cons ⟨rfl,rfl⟩ (.cons ⟨rfl,rfl⟩ (.cons ⟨rfl,rfl⟩ (.cons ⟨rfl,rfl⟩ .nil))))))⟩⟩
 rw [h2]
 intro f hf
 match f,hf with
 | 0,_=>rfl
 | 1,_=>rfl
 | 2,_=>rfl
 | 3,_=>rfl
 | 4,_=>rfl
 | 5,_=>rfl
theorem db {c:Nat}{x:Rat}(hc:c≤137438953472):Cn Tryz.prog 190 [Qs c x] (Qs (2+c+1) (0-x)):=by
 refine Cn.intro Tryz.func190 G zk nq (λ B w0 a U=>?_)
 have U:=zn [(0,Qs c x)] [] U
 refine qb<|zg [] [⟨1,30,ptrH,some 0,_,none⟩,⟨2,30,ptrH,some 1,_,none⟩] [.alc 0,.alc 1] [] U (zW 0 G (zY G (Str.zero az) o0)) (zz [] [O 1 30 _,O 2 30 _] λ a w U=>?_)
 refine zt<|zgd [[],[],[0,1],[0,1,2]] [none,some (3,_)] [] [.v 3 _,.v 4 _,.v 5 _,.sto 1] [] aa U (zQ G iG .nil (zl 0 G ak (zQ G (FR zo) (.p (vq 0 G) (vq 1 G)) (zS 2 G ak o0)))) zk zk zk zk (zz [] [O 1 30 _,O 2 30 _] λ a w U=>?_)
 refine a7<|qe<|aj ?_ (ap G U (zm 1 G) ak)
 exact aL
theorem oV {c:Nat}{m:MQ}(hc:c≤137438953472):Cn Tryz.prog 195 [(QMA c m).va] ((QMA (2+c+1) ⟨0-m.a,0-m.b,0-m.c,0-m.d⟩).va):=by
 refine Cn.intro Tryz.func195 G zk nq (λ B w0 a U=>?_)
 have U:=zn [(0,(QMA c m).va)] [] U
 refine qb<|zg [] [⟨1,80,ptrH,some 0,_,none⟩,⟨2,80,ptrH,some 1,_,none⟩] [.alc 0,.alc 1] [] U (zW 0 G (zY G (Str.zero aS) o0)) (zz [] [O 1 80 _,O 2 80 _] λ a w U=>?_)
 refine zt<|zgd [[],[0],[0,1],[],[3],[0,1,2,3,4],[],[6],[0,1,2,3,4,5,6,7],[],[9],[0,1,2,3,4,5,6,7,8,9,10],[0,1,2,3,4,5,6,7,8,9,10,11],[0,1,2,3,4,5,6,7,8,9,10,11,12]] [none,some (13,_)] [] [.adr 3 1 (.some 0) True,.v 4 _,.v 5 _,.adr 6 1 (.some 4) True,.v 7 _,.v 8 _,.adr 9 1 (.some 8) True,.v 10 _,.v 11 _,.adr 12 1 (.some 12) True,.v 13 _,.v 14 _,.v 15 _,.sto 1] [] aa U (zO 0 G cL (zL 0 0 0 G ak (zQ G (db zo) (.o (vq 1 G)) (zO 0 G cK (zL 3 0 1 G ak (zQ G (db zo) (.o (vq 4 G)) (zO 0 G cB (zL 6 0 2 G ak (zQ G (db zo) (.o (vq 7 G)) (zO 0 G cJ (zL 9 0 3 G ak (zQ G (db zo) (.o (vq 10 G)) (zv G (aO (qs:=[(0,_),(1,_),(2,_),(3,_)]) aS (.cons ⟨rfl,vq 2 rfl,rfl⟩ (.cons ⟨rfl,vq 5 rfl,rfl⟩ (.cons ⟨rfl,vq 8 rfl,rfl⟩ (.cons ⟨rfl,vq 11 rfl,rfl⟩ .nil))))) (zS 12 G bE o0)))))))))))))) zk zk zk zk (zz [] [O 1 80 _,O 2 80 _] λ a w U=>?_)
 refine a7<|qe<|aj ?_ (ap G U (zm 1 G) bE)
 exact aL
theorem BB {p q:Rat}{kd:Int}  : Cm Tryz.prog 188 80 (QMA 2 ⟨1,0,0,1⟩) (cat [QA 2 1,QA 2048 p,QA 2 0,QA 2 1]) [.v ((ElP 92 (QEA 2048 kd p q))),.w (ptrH)] (Tu []):=by
 refine Cm.introK 1 Tryz.func188 G zk nq (λ g=>zm 1 G) (λ B g w0 a U=>?_)
 have U:=zn [(0,(ElP 92 (QEA 2048 kd p q))),(1,EqV ((ptrH).f g))] [⟨1,80,ptrH,QMA 2 ⟨1,0,0,1⟩⟩] U
 refine zg [some (4,_)] [] [.v 2 _,.v 3 _,.v 4 _,.adr 5 1 (.some 4) True,.sto 0] [.g 1] U (zv G (aA (gq 0 G) bT (Sub.part 1 G G)) (zv G (aq (vq 0 G) ak) (zQ G (E8 zo) (.o (vq 1 G)) (zO 0 G cK (oc (dc 3 G G G G zk (vq 2 G) ak (Put.part 1 G G G)) o0))))) (zz [(1,_)] [O 1 80 _] λ a w U=>?_)
 refine cc<|l8 U (zm 0 G) (zm 0 G) ?_
 refine aj ?_ (aE (rs:=[]) G U .nil zd)
 exact aL
theorem BA {p q:Rat}{kd:Int}  : Cm Tryz.prog 189 80 (QMA 2 ⟨1,0,0,1⟩) (cat [QA 2 1,QA 2 0,QA 2051 (0-p),QA 2 1]) [.v ((ElP 92 (QEA 2048 kd p q))),.w (ptrH)] (Tu []):=by
 refine Cm.introK 1 Tryz.func189 G zk nq (λ g=>zm 1 G) (λ B g w0 a U=>?_)
 have U:=zn [(0,(ElP 92 (QEA 2048 kd p q))),(1,EqV ((ptrH).f g))] [⟨1,80,ptrH,QMA 2 ⟨1,0,0,1⟩⟩] U
 refine zg [some (4,_)] [] [.v 2 _,.v 3 _,.v 4 _,.adr 5 1 (.some 8) True,.sto 0] [.g 1] U (zv G (aA (gq 0 G) bT (Sub.part 1 G G)) (zv G (aq (vq 0 G) ak) (zQ G (db zo) (.o (vq 1 G)) (zO 0 G cB (oc (dc 3 G G G G zk (vq 2 G) ak (Put.part 2 G G G)) o0))))) (zz [(1,_)] [O 1 80 _] λ a w U=>?_)
 refine cc<|l8 U (zm 0 G) (zm 0 G) ?_
 refine aj ?_ (aE (rs:=[]) G U .nil zd)
 exact aL
theorem Bz {p q:Rat}{kd:Int}(h0:q≠0):Cm Tryz.prog 191 80 (QMA 2 ⟨1,0,0,1⟩) (cat [QA 2 1,QA 4096 (p/q),QA 2 0,QA 2 1]) [.v ((ElP 92 (QEA 2048 kd p q))),.w (ptrH)] (Tu []):=by
 refine Cm.introK 1 Tryz.func191 G zk nq (λ g=>zm 1 G) (λ B g w0 a U=>?_)
 have U:=zn [(0,(ElP 92 (QEA 2048 kd p q))),(1,EqV ((ptrH).f g))] [⟨1,80,ptrH,QMA 2 ⟨1,0,0,1⟩⟩] U
 refine zg [some (6,_)] [] [.v 2 _,.v 3 _,.v 4 _,.v 5 _,.v 6 _,.adr 7 1 (.some 4) True,.sto 0] [.g 1] U (zv G (aA (gq 0 G) bT (Sub.part 1 G G)) (zv G (aq (vq 0 G) ak) (zv G (aA (gq 0 G) bX (Sub.part 2 G G)) (zv G (aq (vq 2 G) ak) (zQ G (over_q zd h0) (.p (vq 1 G) (vq 3 G)) (zO 0 G cK (oc (dc 5 G G G G zk (vq 4 G) ak (Put.part 1 G G G)) o0))))))) (zz [(1,_)] [O 1 80 _] λ a w U=>?_)
 refine cc<|l8 U (zm 0 G) (zm 0 G) ?_
 refine aj ?_ (aE (rs:=[]) G U .nil zd)
 exact aL
theorem By {p q:Rat}{kd:Int}  : Cm Tryz.prog 193 80 (QMA 2 ⟨1,0,0,1⟩) (cat [QA 2 1,QA 2 0,QA 4099 (0-p*q),QA 2 1]) [.v ((ElP 92 (QEA 2048 kd p q))),.w (ptrH)] (Tu []):=by
 refine Cm.introK 1 Tryz.func193 G zk nq (λ g=>zm 1 G) (λ B g w0 a U=>?_)
 have U:=zn [(0,(ElP 92 (QEA 2048 kd p q))),(1,EqV ((ptrH).f g))] [⟨1,80,ptrH,QMA 2 ⟨1,0,0,1⟩⟩] U
 refine zg [some (7,_)] [] [.v 2 _,.v 3 _,.v 4 _,.v 5 _,.v 6 _,.v 7 _,.adr 8 1 (.some 8) True,.sto 0] [.g 1] U (zv G (aA (gq 0 G) bT (Sub.part 1 G G)) (zv G (aq (vq 0 G) ak) (zv G (aA (gq 0 G) bX (Sub.part 2 G G)) (zv G (aq (vq 2 G) ak) (zQ G (iV zo) (.p (vq 1 G) (vq 3 G)) (zQ G (db zo) (.o (vq 4 G)) (zO 0 G cB (oc (dc 6 G G G G zk (vq 5 G) ak (Put.part 2 G G G)) o0)))))))) (zz [(1,_)] [O 1 80 _] λ a w U=>?_)
 refine cc<|l8 U (zm 0 G) (zm 0 G) ?_
 refine aj ?_ (aE (rs:=[]) G U .nil zd)
 exact aL
theorem Bx  : Cm Tryz.prog 194 80 (QMA 2 ⟨1,0,0,1⟩) (QMA 5 ⟨0-1,0-0,0-0,0-1⟩) [.w (ptrH),] (Tu []):=by
 refine Cm.intro Tryz.func194 G zk nq (λ B g w0 a U=>?_)
 have U:=zn [(0,EqV ((ptrH).f g)),] [⟨0,80,ptrH,QMA 2 ⟨1,0,0,1⟩⟩] U
 refine zg [some (2,_)] [] [.v 1 _,.v 2 _,.sto 0] [.g 0] U (zl 0 G bE (zQ G (oV (m:=⟨_,_,_,_⟩) zo) (.o (vq 0 G)) (zS 1 G bE o0))) (zz [(0,_)] [O 0 80 _] λ a w U=>?_)
 refine cc<|fG U (zm 0 G) (zm 0 G) ?_
 refine aj ?_ (aE (rs:=[]) G U .nil zd)
 exact aL
theorem rowOfK1 {p q:Rat}  : Cn Tryz.prog 119 [(QEA 2048 ((1:Nat):Int) p q).va] ((QMA 4099 ⟨1,p,0,1⟩).va):=by
 refine Cn.intro Tryz.func119 G zk nq (λ B w0 a U=>?_)
 have U:=zn [(0,(QEA 2048 ((1:Nat):Int) p q).va)] [] U
 refine qb<|zg [] [⟨1,92,ptrH,some 0,_,none⟩,⟨2,80,ptrH,some 1,_,none⟩] [.alc 0,.alc 1] [] U (zW 0 G (zY G (Str.zero aS) o0)) (zz [] [O 1 92 _,O 2 80 _] λ a w U=>?_)
 refine zt<|zg [η,η] [⟨3,80,ptrH,some 1,_,some (2,_)⟩] [.v 5 _,.alc 2,.sto 2] [] U (zQ G fo .nil (zY G (Str.zero aS) (zS 0 G bE o0))) (zz [] [O 1 92 _,O 2 80 _,O 3 80 _] λ a w U=>?_)
 refine zt ?_
 obtain ⟨q1,U⟩:=St.nm U 0 rfl
 obtain ⟨q3,U⟩:=St.nm U 2 rfl
 refine zg [η,η,η] [⟨4,237,ptrH,some 6,_,some (7,_)⟩] [.v 6 _,.v 7 _,.v 8 _,.v 9 _,.v 10 _,.v 11 _,.alc 3,.sto 3] [.g 0,.g 1] U (zv G (dr (vs:=[ptr q1,ptr q3]) (.p (gq 1 G) (gq 0 G))) (zv G (dr (vs:=[ptr q1,ptr q3]) (.p (gq 1 G) (gq 0 G))) (zv G (dr (vs:=[ptr q1,ptr q3]) (.p (gq 1 G) (gq 0 G))) (zv G (dr (vs:=[ptr q1,ptr q3]) (.p (gq 1 G) (gq 0 G))) (zv G (dr (vs:=[ptr q3]) (.o (gq 0 G))) (zv G (ew (qs:=[(0,_),(1,_),(2,_),(3,_),(4,_),(5,_)]) dY (.cons ⟨rfl,fR,rfl⟩ (.cons ⟨rfl,vq 0 rfl,rfl⟩ (.cons ⟨rfl,vq 1 rfl,rfl⟩ (.cons ⟨rfl,vq 2 rfl,rfl⟩ (.cons ⟨rfl,vq 3 rfl,rfl⟩ (.cons ⟨rfl,vq 4 rfl,rfl⟩ .nil))))))) (zY G (Arr.zero dY) (zS 5 G oM o0)))))))) (zz [(3,_),(1,_)] [O 1 92 _,O 2 80 _,O 3 80 _,O 4 237 _] λ a w U=>?_)
 refine zt<|zg [η,η,some (4,_),η] [] [.adr 12 1 (.some 0) True,.v 13 _,.v 14 _,.v 15 _,.cal 16 _ 2] [.g 0,.g 1] U (zO 0 G cI (zL 0 0 0 G dz (zv G (p7 (m:=1) (lz0 3 G) Tryz.underlying237 zk (n_ok zk) (vq 1 G) G) (zv G (aq (vq 2 G) ty_1) (oc (ly (xs:=[.tmp 1,.tmp 3]) (vs:=[ptr q1,ptr q3]) G G G BB (vq 3 G) (.p (gq 1 G) (gq 0 G)) (.cons (aZ (lz0 0 G)) (.cons arw .nil))) o0))))) (zz [(3,_),(1,_)] [O 1 92 _,O 2 80 _,O 3 80 _,O 4 237 _] λ a w U=>?_)
 refine zt<|zg [η,some (1,_),η,η] [] [.v 17 _,.sto 1] [.g 0,.g 1] U (zl 2 G bE (zS 0 G bE o0)) (zz [(3,_),(1,_)] [O 1 92 _,O 2 80 _,O 3 80 _,O 4 237 _] λ a w U=>?_)
 refine a7<|qe<|aj ?_ (ap G U (zm 1 G) bE)
 exact (bz (.cons (bf zd) (.cons (bf zd) (.cons (bf zd) (.cons (bf zd) .nil))))).va
theorem rowOfK2 {p q:Rat}  : Cn Tryz.prog 119 [(QEA 2048 ((2:Nat):Int) p q).va] ((QMA 4099 ⟨1,0,0-p,1⟩).va):=by
 refine Cn.intro Tryz.func119 G zk nq (λ B w0 a U=>?_)
 have U:=zn [(0,(QEA 2048 ((2:Nat):Int) p q).va)] [] U
 refine qb<|zg [] [⟨1,92,ptrH,some 0,_,none⟩,⟨2,80,ptrH,some 1,_,none⟩] [.alc 0,.alc 1] [] U (zW 0 G (zY G (Str.zero aS) o0)) (zz [] [O 1 92 _,O 2 80 _] λ a w U=>?_)
 refine zt<|zg [η,η] [⟨3,80,ptrH,some 1,_,some (2,_)⟩] [.v 5 _,.alc 2,.sto 2] [] U (zQ G fo .nil (zY G (Str.zero aS) (zS 0 G bE o0))) (zz [] [O 1 92 _,O 2 80 _,O 3 80 _] λ a w U=>?_)
 refine zt ?_
 obtain ⟨q1,U⟩:=St.nm U 0 rfl
 obtain ⟨q3,U⟩:=St.nm U 2 rfl
 refine zg [η,η,η] [⟨4,237,ptrH,some 6,_,some (7,_)⟩] [.v 6 _,.v 7 _,.v 8 _,.v 9 _,.v 10 _,.v 11 _,.alc 3,.sto 3] [.g 0,.g 1] U (zv G (dr (vs:=[ptr q1,ptr q3]) (.p (gq 1 G) (gq 0 G))) (zv G (dr (vs:=[ptr q1,ptr q3]) (.p (gq 1 G) (gq 0 G))) (zv G (dr (vs:=[ptr q1,ptr q3]) (.p (gq 1 G) (gq 0 G))) (zv G (dr (vs:=[ptr q1,ptr q3]) (.p (gq 1 G) (gq 0 G))) (zv G (dr (vs:=[ptr q3]) (.o (gq 0 G))) (zv G (ew (qs:=[(0,_),(1,_),(2,_),(3,_),(4,_),(5,_)]) dY (.cons ⟨rfl,fR,rfl⟩ (.cons ⟨rfl,vq 0 rfl,rfl⟩ (.cons ⟨rfl,vq 1 rfl,rfl⟩ (.cons ⟨rfl,vq 2 rfl,rfl⟩ (.cons ⟨rfl,vq 3 rfl,rfl⟩ (.cons ⟨rfl,vq 4 rfl,rfl⟩ .nil))))))) (zY G (Arr.zero dY) (zS 5 G oM o0)))))))) (zz [(3,_),(1,_)] [O 1 92 _,O 2 80 _,O 3 80 _,O 4 237 _] λ a w U=>?_)
 refine zt<|zg [η,η,some (4,_),η] [] [.adr 12 1 (.some 0) True,.v 13 _,.v 14 _,.v 15 _,.cal 16 _ 2] [.g 0,.g 1] U (zO 0 G cI (zL 0 0 0 G dz (zv G (p7 (m:=1) (lz0 3 G) Tryz.underlying237 zk (n_ok zk) (vq 1 G) G) (zv G (aq (vq 2 G) ty_1) (oc (ly (xs:=[.tmp 1,.tmp 3]) (vs:=[ptr q1,ptr q3]) G G G BA (vq 3 G) (.p (gq 1 G) (gq 0 G)) (.cons (aZ (lz0 0 G)) (.cons arw .nil))) o0))))) (zz [(3,_),(1,_)] [O 1 92 _,O 2 80 _,O 3 80 _,O 4 237 _] λ a w U=>?_)
 refine zt<|zg [η,some (1,_),η,η] [] [.v 17 _,.sto 1] [.g 0,.g 1] U (zl 2 G bE (zS 0 G bE o0)) (zz [(3,_),(1,_)] [O 1 92 _,O 2 80 _,O 3 80 _,O 4 237 _] λ a w U=>?_)
 refine a7<|qe<|aj ?_ (ap G U (zm 1 G) bE)
 exact (bz (.cons (bf zd) (.cons (bf zd) (.cons (bf zd) (.cons (bf zd) .nil))))).va
theorem rowOfK3 {p q:Rat}(h0:q≠0):Cn Tryz.prog 119 [(QEA 2048 ((3:Nat):Int) p q).va] ((QMA 4099 ⟨1,p/q,0,1⟩).va):=by
 refine Cn.intro Tryz.func119 G zk nq (λ B w0 a U=>?_)
 have U:=zn [(0,(QEA 2048 ((3:Nat):Int) p q).va)] [] U
 refine qb<|zg [] [⟨1,92,ptrH,some 0,_,none⟩,⟨2,80,ptrH,some 1,_,none⟩] [.alc 0,.alc 1] [] U (zW 0 G (zY G (Str.zero aS) o0)) (zz [] [O 1 92 _,O 2 80 _] λ a w U=>?_)
 refine zt<|zg [η,η] [⟨3,80,ptrH,some 1,_,some (2,_)⟩] [.v 5 _,.alc 2,.sto 2] [] U (zQ G fo .nil (zY G (Str.zero aS) (zS 0 G bE o0))) (zz [] [O 1 92 _,O 2 80 _,O 3 80 _] λ a w U=>?_)
 refine zt ?_
 obtain ⟨q1,U⟩:=St.nm U 0 rfl
 obtain ⟨q3,U⟩:=St.nm U 2 rfl
 refine zg [η,η,η] [⟨4,237,ptrH,some 6,_,some (7,_)⟩] [.v 6 _,.v 7 _,.v 8 _,.v 9 _,.v 10 _,.v 11 _,.alc 3,.sto 3] [.g 0,.g 1] U (zv G (dr (vs:=[ptr q1,ptr q3]) (.p (gq 1 G) (gq 0 G))) (zv G (dr (vs:=[ptr q1,ptr q3]) (.p (gq 1 G) (gq 0 G))) (zv G (dr (vs:=[ptr q1,ptr q3]) (.p (gq 1 G) (gq 0 G))) (zv G (dr (vs:=[ptr q1,ptr q3]) (.p (gq 1 G) (gq 0 G))) (zv G (dr (vs:=[ptr q3]) (.o (gq 0 G))) (zv G (ew (qs:=[(0,_),(1,_),(2,_),(3,_),(4,_),(5,_)]) dY (.cons ⟨rfl,fR,rfl⟩ (.cons ⟨rfl,vq 0 rfl,rfl⟩ (.cons ⟨rfl,vq 1 rfl,rfl⟩ (.cons ⟨rfl,vq 2 rfl,rfl⟩ (.cons ⟨rfl,vq 3 rfl,rfl⟩ (.cons ⟨rfl,vq 4 rfl,rfl⟩ .nil))))))) (zY G (Arr.zero dY) (zS 5 G oM o0)))))))) (zz [(3,_),(1,_)] [O 1 92 _,O 2 80 _,O 3 80 _,O 4 237 _] λ a w U=>?_)
 refine zt<|zg [η,η,some (4,_),η] [] [.adr 12 1 (.some 0) True,.v 13 _,.v 14 _,.v 15 _,.cal 16 _ 2] [.g 0,.g 1] U (zO 0 G cI (zL 0 0 0 G dz (zv G (p7 (m:=1) (lz0 3 G) Tryz.underlying237 zk (n_ok zk) (vq 1 G) G) (zv G (aq (vq 2 G) ty_1) (oc (ly (xs:=[.tmp 1,.tmp 3]) (vs:=[ptr q1,ptr q3]) G G G (Bz h0) (vq 3 G) (.p (gq 1 G) (gq 0 G)) (.cons (aZ (lz0 0 G)) (.cons arw .nil))) o0))))) (zz [(3,_),(1,_)] [O 1 92 _,O 2 80 _,O 3 80 _,O 4 237 _] λ a w U=>?_)
 refine zt<|zg [η,some (1,_),η,η] [] [.v 17 _,.sto 1] [.g 0,.g 1] U (zl 2 G bE (zS 0 G bE o0)) (zz [(3,_),(1,_)] [O 1 92 _,O 2 80 _,O 3 80 _,O 4 237 _] λ a w U=>?_)
 refine a7<|qe<|aj ?_ (ap G U (zm 1 G) bE)
 exact (bz (.cons (bf zd) (.cons (bf zd) (.cons (bf zd) (.cons (bf zd) .nil))))).va
theorem rowOfK4 {p q:Rat}  : Cn Tryz.prog 119 [(QEA 2048 ((4:Nat):Int) p q).va] ((QMA 4099 ⟨1,0,0-p*q,1⟩).va):=by
 refine Cn.intro Tryz.func119 G zk nq (λ B w0 a U=>?_)
 have U:=zn [(0,(QEA 2048 ((4:Nat):Int) p q).va)] [] U
 refine qb<|zg [] [⟨1,92,ptrH,some 0,_,none⟩,⟨2,80,ptrH,some 1,_,none⟩] [.alc 0,.alc 1] [] U (zW 0 G (zY G (Str.zero aS) o0)) (zz [] [O 1 92 _,O 2 80 _] λ a w U=>?_)
 refine zt<|zg [η,η] [⟨3,80,ptrH,some 1,_,some (2,_)⟩] [.v 5 _,.alc 2,.sto 2] [] U (zQ G fo .nil (zY G (Str.zero aS) (zS 0 G bE o0))) (zz [] [O 1 92 _,O 2 80 _,O 3 80 _] λ a w U=>?_)
 refine zt ?_
 obtain ⟨q1,U⟩:=St.nm U 0 rfl
 obtain ⟨q3,U⟩:=St.nm U 2 rfl
 refine zg [η,η,η] [⟨4,237,ptrH,some 6,_,some (7,_)⟩] [.v 6 _,.v 7 _,.v 8 _,.v 9 _,.v 10 _,.v 11 _,.alc 3,.sto 3] [.g 0,.g 1] U (zv G (dr (vs:=[ptr q1,ptr q3]) (.p (gq 1 G) (gq 0 G))) (zv G (dr (vs:=[ptr q1,ptr q3]) (.p (gq 1 G) (gq 0 G))) (zv G (dr (vs:=[ptr q1,ptr q3]) (.p (gq 1 G) (gq 0 G))) (zv G (dr (vs:=[ptr q1,ptr q3]) (.p (gq 1 G) (gq 0 G))) (zv G (dr (vs:=[ptr q3]) (.o (gq 0 G))) (zv G (ew (qs:=[(0,_),(1,_),(2,_),(3,_),(4,_),(5,_)]) dY (.cons ⟨rfl,fR,rfl⟩ (.cons ⟨rfl,vq 0 rfl,rfl⟩ (.cons ⟨rfl,vq 1 rfl,rfl⟩ (.cons ⟨rfl,vq 2 rfl,rfl⟩ (.cons ⟨rfl,vq 3 rfl,rfl⟩ (.cons ⟨rfl,vq 4 rfl,rfl⟩ .nil))))))) (zY G (Arr.zero dY) (zS 5 G oM o0)))))))) (zz [(3,_),(1,_)] [O 1 92 _,O 2 80 _,O 3 80 _,O 4 237 _] λ a w U=>?_)
 refine zt<|zg [η,η,some (4,_),η] [] [.adr 12 1 (.some 0) True,.v 13 _,.v 14 _,.v 15 _,.cal 16 _ 2] [.g 0,.g 1] U (zO 0 G cI (zL 0 0 0 G dz (zv G (p7 (m:=1) (lz0 3 G) Tryz.underlying237 zk (n_ok zk) (vq 1 G) G) (zv G (aq (vq 2 G) ty_1) (oc (ly (xs:=[.tmp 1,.tmp 3]) (vs:=[ptr q1,ptr q3]) G G G By (vq 3 G) (.p (gq 1 G) (gq 0 G)) (.cons (aZ (lz0 0 G)) (.cons arw .nil))) o0))))) (zz [(3,_),(1,_)] [O 1 92 _,O 2 80 _,O 3 80 _,O 4 237 _] λ a w U=>?_)
 refine zt<|zg [η,some (1,_),η,η] [] [.v 17 _,.sto 1] [.g 0,.g 1] U (zl 2 G bE (zS 0 G bE o0)) (zz [(3,_),(1,_)] [O 1 92 _,O 2 80 _,O 3 80 _,O 4 237 _] λ a w U=>?_)
 refine a7<|qe<|aj ?_ (ap G U (zm 1 G) bE)
 exact (bz (.cons (bf zd) (.cons (bf zd) (.cons (bf zd) (.cons (bf zd) .nil))))).va
theorem rowOfK5 {p q:Rat}  : Cn Tryz.prog 119 [(QEA 2048 ((5:Nat):Int) p q).va] ((QMA 4099 ⟨0-1,0-0,0-0,0-1⟩).va):=by
 refine Cn.intro Tryz.func119 G zk nq (λ B w0 a U=>?_)
 have U:=zn [(0,(QEA 2048 ((5:Nat):Int) p q).va)] [] U
 refine qb<|zg [] [⟨1,92,ptrH,some 0,_,none⟩,⟨2,80,ptrH,some 1,_,none⟩] [.alc 0,.alc 1] [] U (zW 0 G (zY G (Str.zero aS) o0)) (zz [] [O 1 92 _,O 2 80 _] λ a w U=>?_)
 refine zt<|zg [η,η] [⟨3,80,ptrH,some 1,_,some (2,_)⟩] [.v 5 _,.alc 2,.sto 2] [] U (zQ G fo .nil (zY G (Str.zero aS) (zS 0 G bE o0))) (zz [] [O 1 92 _,O 2 80 _,O 3 80 _] λ a w U=>?_)
 refine zt ?_
 obtain ⟨q1,U⟩:=St.nm U 0 rfl
 obtain ⟨q3,U⟩:=St.nm U 2 rfl
 refine zg [η,η,η] [⟨4,237,ptrH,some 6,_,some (7,_)⟩] [.v 6 _,.v 7 _,.v 8 _,.v 9 _,.v 10 _,.v 11 _,.alc 3,.sto 3] [.g 0,.g 1] U (zv G (dr (vs:=[ptr q1,ptr q3]) (.p (gq 1 G) (gq 0 G))) (zv G (dr (vs:=[ptr q1,ptr q3]) (.p (gq 1 G) (gq 0 G))) (zv G (dr (vs:=[ptr q1,ptr q3]) (.p (gq 1 G) (gq 0 G))) (zv G (dr (vs:=[ptr q1,ptr q3]) (.p (gq 1 G) (gq 0 G))) (zv G (dr (vs:=[ptr q3]) (.o (gq 0 G))) (zv G (ew (qs:=[(0,_),(1,_),(2,_),(3,_),(4,_),(5,_)]) dY (.cons ⟨rfl,fR,rfl⟩ (.cons ⟨rfl,vq 0 rfl,rfl⟩ (.cons ⟨rfl,vq 1 rfl,rfl⟩ (.cons ⟨rfl,vq 2 rfl,rfl⟩ (.cons ⟨rfl,vq 3 rfl,rfl⟩ (.cons ⟨rfl,vq 4 rfl,rfl⟩ .nil))))))) (zY G (Arr.zero dY) (zS 5 G oM o0)))))))) (zz [(3,_),(1,_)] [O 1 92 _,O 2 80 _,O 3 80 _,O 4 237 _] λ a w U=>?_)
 refine zt<|zg [η,η,some (4,_),η] [] [.adr 12 1 (.some 0) True,.v 13 _,.v 14 _,.v 15 _,.cal 16 _ 2] [.g 0,.g 1] U (zO 0 G cI (zL 0 0 0 G dz (zv G (p7 (m:=1) (lz0 3 G) Tryz.underlying237 zk (n_ok zk) (vq 1 G) G) (zv G (aq (vq 2 G) ty_1) (oc (ly (xs:=[.tmp 3]) (vs:=[ptr q3]) G G G Bx (vq 3 G) (.o (gq 0 G)) (.cons arw .nil)) o0))))) (zz [(3,_),(1,_)] [O 1 92 _,O 2 80 _,O 3 80 _,O 4 237 _] λ a w U=>?_)
 refine zt<|zg [η,some (1,_),η,η] [] [.v 17 _,.sto 1] [.g 0,.g 1] U (zl 2 G bE (zS 0 G bE o0)) (zz [(3,_),(1,_)] [O 1 92 _,O 2 80 _,O 3 80 _,O 4 237 _] λ a w U=>?_)
 refine a7<|qe<|aj ?_ (ap G U (zm 1 G) bE)
 exact (bz (.cons (bf zd) (.cons (bf zd) (.cons (bf zd) (.cons (bf zd) .nil))))).va
def elK (k ps qs:Int):Bool:=if k==1 then decide (ps≥0)&&(qs==0) else if k==2 then (qs==0) else if k==3 then decide (ps≥0)&&decide (qs>0) else if k==4 then true else ((k==5)&&(ps==0))&&(qs==0)
def elF (x:RE):Bool:=[x.p,x.q].all okX&&elK x.k (toQ x.p).num.sign (toQ x.q).num.sign
def elQ (k:Int)(p q:Rat):MQ:=if k=1 then ⟨1,p,0,1⟩ else if k=2 then ⟨1,0,0-p,1⟩ else if k=3 then ⟨1,p/q,0,1⟩ else if k=4 then ⟨1,0,0-p*q,1⟩ else ⟨0-1,0-0,0-0,0-1⟩
def elM (x:RE):MQ:=elQ x.k (toQ x.p) (toQ x.q)
def prodQ (xs:List RE):MQ:=xs.foldl (λ m x=>mulQ (elM x) m) ⟨1,0,0,1⟩
def chF (xs:List RE):Int:=if xs.length>4096 then 4 else if xs.all elF then 0 else 1
theorem E3 {x:RE}(h:(![x.p,x.q].all okX)=true):elF x=false:=by rw [qz] at h; rw [elF,h]; rfl
theorem E2 {x:RE}(h:(![x.p,x.q].all okX)=false):[x.p,x.q].all okX=true∧elF x=elK x.k (toQ x.p).num.sign (toQ x.q).num.sign:=by rw [jS] at h; exact ⟨h,by rw [elF,h]; rfl⟩
theorem el_q {x:RE}(h:[x.p,x.q].all okX=true):WkA (REA x) (QEA 2048 x.k (toQ x.p) (toQ x.q)):=by
 simp only [xr,xP,xR,qj] at h
 exact bz (.cons (WkA.refl _) (.cons (qa_x h.1 (qg _)) (.cons (qa_x h.2 (qg _)) .nil)))
theorem HO (x:RE):UpA (REA x) (REA x):=iq (.cons (mt _ _) (.cons (fW _) (.cons (fW _) .nil)))
theorem kd1 {k ps qs:Int}(h:(k==1)=true):elK k ps qs=(decide (ps≥0)&&(qs==0)):=by rw [elK,h]; rfl
theorem kd2 {k ps qs:Int}(h1:(k==1)=false)(h:(k==2)=true):elK k ps qs=(qs==0):=by rw [elK,h1,h]; rfl
theorem kd3 {k ps qs:Int}(h1:(k==1)=false)(h2:(k==2)=false)(h:(k==3)=true):elK k ps qs=(decide (ps≥0)&&decide (qs>0)):=by rw [elK,h1,h2,h]; rfl
theorem kd4 {k ps qs:Int}(h1:(k==1)=false)(h2:(k==2)=false)(h3:(k==3)=false)(h:(k==4)=true):elK k ps qs=true:=by rw [elK,h1,h2,h3,h]; rfl
theorem kd5 {k ps qs:Int}(h1:(k==1)=false)(h2:(k==2)=false)(h3:(k==3)=false)(h4:(k==4)=false):elK k ps qs=(((k==5)&&(ps==0))&&(qs==0)):=by rw [elK,h1,h2,h3,h4]; rfl
theorem GR (x:RE):Cn Tryz.prog 175 [(REA x).va] (Bo (elF x)):=by
 refine Cn.intro Tryz.func175 G zk nq (λ B w0 a U=>?_)
 have U:=zn [(0,(REA x).va)] [] U
 refine qb<|zg [] [⟨1,92,ptrH,some 0,_,none⟩] [.alc 0,.v 2 _] [.o 1] U (zW 0 G (zv G (a9 aB) o0)) (zz [(2,_)] [O 1 92 _] λ a w U=>?_)
 refine zt<|qb<|zg [η] [] [.adr 5 1 (.some 1) True,.v 6 _,.adr 7 1 (.some 5) True,.v 8 _,.v 9 _,.v 10 _,.v 11 _] [.g 0,.o 6] U (zO 0 G bT (zL 0 0 1 G ak (zO 0 G bX (zL 2 0 2 G ak (zv G (cq (D:=[U32]) (l:=[_,_]) (xs:=[.tmp 6,.tmp 8]) (dV zk) eI zk (n_ok zk) nq nq nq (.p (vq 1 G) (vq 3 G)) G G) (zQ G (tF [x.p,x.q] nq) (.o (vq 4 G)) (zv G (cW (vq 5 G)) o0))))))) (zz [(2,_),(11,_)] [O 1 92 _] λ a w U=>?_)
 refine a7<|ae U (zm 1 G) (λ hb0=>?_) (λ hb0=>?_)
 ·refine qb<|zg [η] [] [.v 2 _] [.o 0] U (zv G (a9 aB) o0) (zz [(2,_)] [O 1 92 _] λ a w U=>?_)
  refine a7<|qe<|ao ?_
  refine aj ?_ (an G U (zm 0 G))
  rw [E3 hb0]; exact aL
 ·obtain ⟨hx,he⟩:=E2 hb0
  have U:=St.wkL U 0 rfl (el_q hx)
  refine qh<|zt<|zgd [[],[0],[0,1],[],[3],[0,1,2,3,4],[0,1,2,3,4,5],[0,1,2,3,4,5,6]] [none] [] [.adr 12 1 (.some 1) True,.v 13 _,.v 14 _,.adr 15 1 (.some 5) True,.v 16 _,.v 17 _,.v 3 _,.v 4 _] [.g 0,.o 6,.o 7] aa U (zO 0 G bT (zL 0 0 1 G ak (zQ G Dh (.o (vq 1 G)) (zO 0 G bX (zL 3 0 2 G ak (zQ G Dh (.o (vq 4 G)) (zA 2 G (zA 5 G o0)))))))) zk zk zk zk (zz [(2,_),(3,_),(4,_)] [O 1 92 _] λ a w U=>?_)
  refine zt<|qb<|zg [η] [] [.adr 18 1 (.some 0) True,.v 19 _] [.g 0,.g 1,.g 2,.o 1] U (zO 0 G cI (zL 0 0 0 G dz o0)) (zz [(2,_),(3,_),(4,_),(19,_)] [O 1 92 _] λ a w U=>?_)
  refine a7<|ql<|qb<|zg [η] [] [.v 21 _,.v 20 _] [.g 0,.g 1,.g 2,.g 3,.o 1] U (zv G (bF (gq 3 G) a8) (zA 0 G o0)) (zz [(2,_),(3,_),(4,_),(19,_),(20,_)] [O 1 92 _] λ a w U=>?_)
  refine a7<|ae U (zm 4 G) (λ hb1=>?_) (λ hb1=>?_)
  ·refine qb<|zg [η] [] [.v 22 _,.v 23 _,.v 24 _,.t 25 _,.t 26 _,.v 27 _,.v 2 _] [.g 1,.g 2,.o 6] U (zM 1 G (zv G (eu (vq 0 G) a8) (zv G (ab (vq 1 G)) (zB 2 G (λ hg=>ab (gq 2 G)) (zB 2 G (λ hg=>bF (ac (vq 3 G) hg) a8) (zv G (bG (vq 2 G) (vq 4 G)) (zA 5 G o0))))))) (zz [(3,_),(4,_),(2,_)] [O 1 92 _] λ a w U=>?_)
   refine a7<|qe<|aT ?_
   refine ao ?_
   refine aj ?_ (an G U (zm 2 G))
   rw [he,kd1 hb1]; exact aL
  ·refine qb<|zg [η] [] [.v 29 _,.v 28 _] [.g 0,.g 1,.g 2,.g 3,.o 1] U (zv G (bF (gq 3 G) a8) (zA 0 G o0)) (zz [(2,_),(3,_),(4,_),(19,_),(28,_)] [O 1 92 _] λ a w U=>?_)
   refine a7<|ae U (zm 4 G) (λ hb2=>?_) (λ hb2=>?_)
   ·refine qb<|zg [η] [] [.v 30 _,.v 31 _,.v 2 _] [.g 1,.g 2,.o 2] U (zM 2 G (zv G (bF (vq 0 G) a8) (zA 1 G o0))) (zz [(3,_),(4,_),(2,_)] [O 1 92 _] λ a w U=>?_)
    refine a7<|qe<|aT ?_
    refine ao ?_
    refine aj ?_ (an G U (zm 2 G))
    rw [he,kd2 hb1 hb2]; exact aL
   ·refine qb<|zg [η] [] [.v 33 _,.v 32 _] [.g 0,.g 1,.g 2,.g 3,.o 1] U (zv G (bF (gq 3 G) a8) (zA 0 G o0)) (zz [(2,_),(3,_),(4,_),(19,_),(32,_)] [O 1 92 _] λ a w U=>?_)
    refine a7<|ae U (zm 4 G) (λ hb3=>?_) (λ hb3=>?_)
    ·refine qb<|zg [η] [] [.v 34 _,.v 35 _,.v 36 _,.t 37 _,.t 38 _,.v 39 _,.v 2 _] [.g 1,.g 2,.o 6] U (zM 1 G (zv G (eu (vq 0 G) a8) (zv G (ab (vq 1 G)) (zB 2 G (λ hg=>ab (gq 2 G)) (zB 2 G (λ hg=>cP (ac (vq 3 G) hg) a8) (zv G (bG (vq 2 G) (vq 4 G)) (zA 5 G o0))))))) (zz [(3,_),(4,_),(2,_)] [O 1 92 _] λ a w U=>?_)
     refine a7<|qe<|aT ?_
     refine ao ?_
     refine aj ?_ (an G U (zm 2 G))
     rw [he,kd3 hb1 hb2 hb3]; exact aL
    ·refine qb<|zg [η] [] [.v 41 _,.v 40 _] [.g 0,.g 1,.g 2,.o 1] U (zv G (bF (gq 3 G) a8) (zA 0 G o0)) (zz [(2,_),(3,_),(4,_),(40,_)] [O 1 92 _] λ a w U=>?_)
     refine a7<|ae U (zm 3 G) (λ hb4=>?_) (λ hb4=>?_)
     ·refine qb<|zg [η] [] [.v 2 _] [.g 1,.g 2,.o 0] U (zv G (a9 aB) o0) (zz [(3,_),(4,_),(2,_)] [O 1 92 _] λ a w U=>?_)
      refine a7<|qe<|aT ?_
      refine ao ?_
      refine aj ?_ (an G U (zm 2 G))
      rw [he,kd4 hb1 hb2 hb3 hb4]; exact aL
     ·refine qh<|am ?_
      refine zt<|zg [η] [] [.adr 42 1 (.some 0) True,.v 43 _,.v 44 _,.v 45 _,.t 46 _,.t 47 _,.v 48 _,.v 49 _,.t 50 _,.t 51 _,.v 52 _,.v 2 _] [.o 11] U (zO 0 G cI (zL 0 0 0 G dz (zv G (bF (vq 1 G) a8) (zv G (ab (vq 2 G)) (zB 3 G (λ hg=>ab (gq 1 G)) (zB 3 G (λ hg=>bF (ac (vq 4 G) hg) a8) (zv G (bG (vq 3 G) (vq 5 G)) (zv G (ab (vq 6 G)) (zB 7 G (λ hg=>ab (gq 2 G)) (zB 7 G (λ hg=>bF (ac (vq 8 G) hg) a8) (zv G (bG (vq 7 G) (vq 9 G)) (zA 10 G o0)))))))))))) (zz [(2,_)] [O 1 92 _] λ a w U=>?_)
      refine a7<|qe<|aj ?_ (an G U (zm 0 G))
      rw [he,kd5 hb1 hb2 hb3 hb4]; exact aL
theorem all_so {α:Type}{p:α→Bool}{l:List α}{j:Nat}(h:j<l.length)(h2:p l[j]=false):l.all p=false:=jT.2 ⟨_,qf h,by simp [h2]⟩
theorem AO {α:Type}{p:α→Bool}{l:List α}{j:Nat}(h:j<l.length)(h1:(l.take j).all p=true)(h2:p l[j]=true):(l.take (j+1)).all p=true:=by
 rw [qx h,j7,h1]
 simp [h2]
theorem slx {E:TypeId}{l:List As}:Wk (SlO E D l True).va (SlA E D l).va:=bO HC λ _ _ _ h=>(dx h).2
theorem uL (xs:List RE):Cn Tryz.prog 105 [(SlA 92 [U32] (xs.map REA)).va] (In (chF xs)):=by
 refine Cn.introW Tryz.func105 rfl zk nq (.cons (ir (λ A hA=>by obtain ⟨x,_,rfl⟩:=qm.1 hA; exact HO x)).va .nil) (cH _ _).va (λ B w0 a hB0 U=>?_)
 have U:=zn [(0,(SlO 92 [U32] (xs.map REA) True).va)] [] U
 have hl:=vQ (U.vals (0,(SlO 92 [U32] (xs.map REA) True).va) (zm 0 rfl))
 rw [qi] at hl
 refine qb<|zh [.v 2 _] [.g 0,.o 0] U (zv G (a9 a8) o0) (zz [(0,_),(2,_)] [] λ a w U=>?_)
 refine zt<|qb<|zh [.v 5 _,.v 6 _,.v 7 _] [.g 0,.g 1,.o 2] U (zM 0 G (zv G (bh Tryz.underlying38 (bS (aC (vq 0 G)))) (zv G (cP (vq 1 G) a8) o0))) (zz [(0,_),(2,_),(7,_)] [] λ a w U=>?_)
 refine a7<|ae U (zm 2 G) (λ hb0=>?_) (λ hb0=>?_)
 ·have hbig:xs.length>4096:=by rw [qi] at hb0; have:=qt hb0; omega
  refine qb<|zh [.v 2 _] [.g 0,.o 0] U (zv G (a9 a8) o0) (zz [(0,_),(2,_)] [] λ a w U=>?_)
  refine a7<|qe<|ao ?_
  refine aj ?_ (an G U (zm 1 G))
  rw [chF,qC hbig]; exact aL
 ·have hbig:¬ xs.length>4096:=by rw [qi] at hb0; have:=qr hb0; omega
  refine qh<|zt<|qb<|zh [.v 8 _,.v 9 _,.v 10 _] [.g 1,.o 0,.o 1,.o 2] U (zM 0 G (zv G (bh Tryz.underlying38 (bS (aC (vq 0 G)))) (zv G (ab a8) o0))) (zz [(2,_),(8,_),(9,_),(10,_)] [] λ a w U=>?_)
  refine a7<|ql ?_
  have U:=St.sel U [1,2,3]
  refine wp_loop_ghost (λ n a w=>∃ j:Nat,(n+j=xs.length∧(xs.take j).all elF=true)∧St B w0 18 [(8,(SlO 92 [U32] (xs.map REA) True).va),(9,In (xs.length:Nat)),(10,In (j:Nat))] [] a w) (xs.length) ?_ ?_
  ·exact ⟨0,⟨by omega,rfl⟩,by rw [qi] at U; exact U⟩
  intro n a w hI
  obtain ⟨j,⟨hn,hno⟩,U⟩:=hI
  refine qb<|zh [.v 11 _] [.g 0,.g 1,.g 2,.o 0] U (zv G (aK (gq 2 G) (gq 1 G)) o0) (zz [(8,_),(9,_),(10,_),(11,_)] [] λ a w U=>?_)
  refine zt<|ae U (zm 3 G) (λ hb1=>?_) (λ hb1=>?_)
  ·have hj:j<xs.length:=by simp at hb1; omega
   refine qh<|zt<|ql<|qb<|zg [] [⟨4,92,ptrH,some 2,_,some (3,_)⟩] [.v 12 _,.v 13 _,.alc 0,.sto 0] [.g 0,.g 1,.g 2] U (zv G (cv mj (dJ λ _=>rfl) (bS (aC (gq 0 G))) (gq 2 G) (cD hj)) (zv G (aq (vq 0 G) er) (zY G (Str.zero cF) (zS 1 G er o0)))) (zz [(8,_),(9,_),(10,_)] [O 4 92 _] λ a w U=>?_)
   refine zt<|zg [η] [] [.v 14 _,.v 15 _,.v 16 _] [.g 0,.g 1,.g 2,.o 2] U (zl 0 G er (zQ G (GR _) (.o (vq 0 G)) (zv G (cW (vq 1 G)) o0))) (zz [(8,_),(9,_),(10,_),(16,_)] [O 4 92 _] λ a w U=>?_)
   refine a7<|ae U (zm 3 G) (λ hb2=>?_) (λ hb2=>?_)
   ·refine qb<|zg [η] [] [.v 2 _] [.g 0,.g 1,.g 2,.o 0] U (zv G (a9 a8) o0) (zz [(8,_),(9,_),(10,_),(2,_)] [O 4 92 _] λ a w U=>?_)
    refine a7<|qe<|aT ?_
    refine ao ?_
    refine ao ?_
    refine aT ?_
    refine ao ?_
    refine aj ?_ (an G U (zm 3 G))
    rw [chF,qA hbig,all_so hj (by simpa using hb2)]; exact aL
   ·refine qh<|am ?_
    refine a7<|zg [η] [] [.v 17 _,.v 10 _] [.g 0,.g 1,.o 1] U (zv G (aQ (gq 2 G) a8 ((wi64 zo zo).trans (by omega:(_:Int)=((j+1:Nat):Int)))) (zv G (ab (vq 0 G)) o0)) (zz [(8,_),(9,_),(10,_)] [O 4 92 _] λ a w U=>?_)
    refine a7 ?_
    have U:=St.sel U [0,1,2]
    have U:=St.selL U []
    exact ⟨n-1,by omega,j+1,⟨by omega,AO hj hno (by simpa using hb2)⟩,U⟩
  ·obtain rfl:j=xs.length:=by simp at hb1; omega
   refine qK<|ah<|ah<|ay<|zt<|zh [.v 2 _] [.o 0] U (zv G (a9 a8) o0) (zz [(2,_)] [] λ a w U=>?_)
   refine a7<|qe<|aj ?_ (an G U (zm 0 G))
   rw [qI] at hno; rw [chF,qA hbig,hno]; exact aL
def RepM (b:Nat)(m:MQ):Prop:=∃ n1 n2 n3 n4 D:Int,D≠0∧m.a=(n1:Rat)/(D:Rat)∧m.b=(n2:Rat)/(D:Rat)∧m.c=(n3:Rat)/(D:Rat)∧m.d=(n4:Rat)/(D:Rat)∧lz n1≤b∧lz n2≤b∧lz n3≤b∧lz n4≤b∧lz D≤b
theorem wn {b:Nat}{m:MQ}(h:RepM b m):bQ b m.a∧bQ b m.b∧bQ b m.c∧bQ b m.d:=by
 obtain ⟨n1,n2,n3,n4,D,hD,e1,e2,e3,e4,h1,h2,h3,h4,h5⟩:=h
 rw [e1,e2,e3,e4,← xX,← xX,← xX,← xX]
 obtain ⟨a1,a2⟩:=eW (p:=n1) hD
 obtain ⟨b1,b2⟩:=eW (p:=n2) hD
 obtain ⟨c1,c2⟩:=eW (p:=n3) hD
 obtain ⟨d1,d2⟩:=eW (p:=n4) hD
 exact ⟨⟨by omega,by omega⟩,⟨by omega,by omega⟩,⟨by omega,by omega⟩,⟨by omega,by omega⟩⟩
theorem nH {a b c d D E:Rat}(hD:D≠0)(hE:E≠0):a/D*(c/E)+b/D*(d/E)=(a*c+b*d)/(D*E):=by grind
theorem sQ {c d:Nat}{a b x y:Int}(ha:lz a≤c)(hb:lz b≤c)(hx:lz x≤d)(hy:lz y≤d):lz (a*x+b*y)≤c+d+1:=by
 have h1:=mJ (a*x) (b*y)
 have h2:=e8 a x
 have h3:=e8 b y
 omega
theorem Fh {c d:Nat}{m q:MQ}(hm:RepM c m)(hq:RepM d q):RepM (c+d+1) (mulQ m q):=by
 obtain ⟨n1,n2,n3,n4,D,hD,e1,e2,e3,e4,h1,h2,h3,h4,h5⟩:=hm
 obtain ⟨k1,k2,k3,k4,E,hE,f1,f2,f3,f4,g1,g2,g3,g4,g5⟩:=hq
 have hDr:(D:Rat)≠0:=λ e=>hD (by exact_mod_cast e)
 have hEr:(E:Rat)≠0:=λ e=>hE (by exact_mod_cast e)
 refine ⟨n1*k1+n2*k3,n1*k2+n2*k4,n3*k1+n4*k3,n3*k2+n4*k4,D*E,j8 hD hE,?_,?_,?_,?_,sQ h1 h2 g1 g3,sQ h1 h2 g2 g4,sQ h3 h4 g1 g3,sQ h3 h4 g2 g4,?_⟩
 ·simp only [mulQ,e1,e2,f1,f3,jC,jB]
  exact nH hDr hEr
 ·simp only [mulQ,e1,e2,f2,f4,jC,jB]
  exact nH hDr hEr
 ·simp only [mulQ,e3,e4,f1,f3,jC,jB]
  exact nH hDr hEr
 ·simp only [mulQ,e3,e4,f2,f4,jC,jB]
  exact nH hDr hEr
 ·have:=e8 D E
  omega
theorem sy {b:Nat}{m:MQ}(n1 n2 n3 n4 D:Int)(hD:D≠0)(e1:m.a*(D:Rat)=(n1:Rat))(e2:m.b*(D:Rat)=(n2:Rat))(e3:m.c*(D:Rat)=(n3:Rat))(e4:m.d*(D:Rat)=(n4:Rat))(h1:lz n1≤b)(h2:lz n2≤b)(h3:lz n3≤b)(h4:lz n4≤b)(h5:lz D≤b):RepM b m:=by
 have hDr:(D:Rat)≠0:=λ e=>hD (by exact_mod_cast e)
 have key:∀ {x:Rat} {n:Int},x*(D:Rat)=(n:Rat)→x=(n:Rat)/(D:Rat):=λ h=>by rw [← h]; exact (Rat.mul_div_cancel hDr).symm
 exact ⟨n1,n2,n3,n4,D,hD,key e1,key e2,key e3,key e4,h1,h2,h3,h4,h5⟩
theorem Ao (x:Rat):x*((x.den:Int):Rat)=(x.num:Rat):=by
 have:=nd_eq x
 have hd:=den_ne x
 generalize ((x.den:Int):Rat)=d at *
 generalize (x.num:Rat)=n at *
 grind
theorem lz_0:lz 0=0:=by kernel_rfl
theorem nK:lz 1≤1:=Nat.le_of_ble_eq_true zk
theorem rep_b {k:Nat}{x:Rat}(h:bQ k x):RepM k ⟨1,x,0,1⟩:=sy (x.den:Int) x.num 0 (x.den:Int) (x.den:Int) (by have:=x.den_pos; omega) (j3 _) (Ao x) (Rat.zero_mul _) (j3 _) h.2 h.1 (by rw [lz_0]; omega) h.2 h.2
theorem rep_c {k:Nat}{x:Rat}(h:bQ k x):RepM k ⟨1,0,x,1⟩:=sy (x.den:Int) 0 x.num (x.den:Int) (x.den:Int) (by have:=x.den_pos; omega) (j3 _) (Rat.zero_mul _) (Ao x) (j3 _) h.2 (by rw [lz_0]; omega) h.1 h.2 h.2
theorem Fi:RepM 1 ⟨1,0,0,1⟩:=sy 1 0 0 1 1 zd (by grind) (by grind) (by grind) (by grind) nK (by rw [lz_0]; omega) (by rw [lz_0]; omega) nK nK
theorem rep_f:RepM 1 ⟨0-1,0-0,0-0,0-1⟩:=sy (-1) 0 0 (-1) 1 zd (by grind) (by grind) (by grind) (by grind) nq (by rw [lz_0]; omega) (by rw [lz_0]; omega) nq nK
theorem gf {b c:Nat}{m:MQ}(h:RepM b m)(hc:b≤c):RepM c m:=by
 obtain ⟨n1,n2,n3,n4,D,hD,e1,e2,e3,e4,h1,h2,h3,h4,h5⟩:=h
 exact ⟨n1,n2,n3,n4,D,hD,e1,e2,e3,e4,by omega,by omega,by omega,by omega,by omega⟩
theorem El {k:Nat}{x:Rat}(h:bQ k x):bQ k (0-x):=by
 have e:0-x = -x:=by grind
 rw [e]
 exact ⟨by rw [j4,eU]; exact h.1,by rw [j5]; exact h.2⟩
theorem bQ_div {c d:Nat}{x y:Rat}(hx:bQ c x)(hy:bQ d y)(h0:y≠0):bQ (c+d) (x/y):=by
 rw [← r7]
 obtain ⟨h1,h2⟩:=eW (p:=x.num*(y.den:Int)) (wW x h0)
 have h3:=e8 x.num (y.den:Int)
 have h4:=e8 (x.den:Int) y.num
 obtain ⟨x1,x2⟩:=hx
 obtain ⟨y1,y2⟩:=hy
 exact ⟨by omega,by omega⟩
theorem Dz {x:RF}(h:okX x=true):bQ 2048 (toQ x):=(wS h).2
theorem ot {x:RE}(h:elF x=true):[x.p,x.q].all okX=true∧(x.k=1∨x.k=2∨(x.k=3∧toQ x.q≠0)∨x.k=4∨x.k=5):=by
 unfold elF at h
 rw [qj] at h
 refine ⟨h.1,?_⟩
 have h2:=h.2
 by_cases h1:x.k=1
 ·exact .inl h1
 ·by_cases h3:x.k=2
  ·exact .inr (.inl h3)
  ·by_cases h4:x.k=3
   ·rw [kd3 (by simpa using h1) (by simpa using h3) (by simpa using h4),qj] at h2
    refine .inr (.inr (.inl ⟨h4,λ e=>?_⟩))
    rw [e] at h2
    have:=qt h2.2
    exact absurd this zd
   ·by_cases h5:x.k=4
    ·exact .inr (.inr (.inr (.inl h5)))
    ·rw [kd5 (by simpa using h1) (by simpa using h3) (by simpa using h4) (by simpa using h5)] at h2
     simp only [qj,xh] at h2
     exact .inr (.inr (.inr (.inr h2.1.1)))
theorem el_rep {x:RE}(h:elF x=true):RepM 4096 (elM x):=by
 obtain ⟨hx,hk⟩:=ot h
 simp only [xr,xP,xR,qj] at hx
 have bp:=Dz hx.1
 have bq:=Dz hx.2
 unfold elM
 rcases hk with hk | hk | ⟨hk,h0⟩ | hk | hk <;> rw [hk]
 ·exact gf (rep_b bp) zd
 ·exact gf (rep_c (El bp)) zd
 ·exact rep_b (bQ_div bp bq h0)
 ·exact rep_c (El (bQ_mul bp bq))
 ·exact gf rep_f zd
theorem rh {xs:List RE}{j:Nat}(h:j<xs.length):prodQ (xs.take (j+1))=mulQ (elM xs[j]) (prodQ (xs.take j)):=by
 rw [qx h]
 unfold prodQ
 rw [List.foldl_append]
 rfl
theorem iF {xs:List RE}(h:xs.all elF=true):∀ j,j≤xs.length→RepM (1+4097*j) (prodQ (xs.take j))
 | 0,_=>Fi
 | j+1,hj=>by
  rw [rh zo]
  exact gf (Fh (el_rep (qc.1 h _ (qf zo))) (iF h j zo)) zo
theorem BM {k k':Nat}{x:Rat}(h:bQ k' x):WkA (QA k x) (QA k' x):=qaA.trans (uf h.1 h.2)
theorem sD {k k':Nat}{m:MQ}(h:RepM k' m):WkA (QMA k m) (QMA k' m):=by
 obtain ⟨h1,h2,h3,h4⟩:=wn h
 exact bz (.cons (BM h1) (.cons (BM h2) (.cons (BM h3) (.cons (BM h4) .nil))))
theorem re_k {x:RE}{k:Int}(h:x.k=k)(hx:[x.p,x.q].all okX=true):Wk (REA x).va (QEA 2048 k (toQ x.p) (toQ x.q)).va:=by subst h; exact (el_q hx).va
theorem Fb {x:RE}(h:elF x=true):Cn Tryz.prog 119 [(REA x).va] (QMA 4099 (elM x)).va:=by
 obtain ⟨hx,hk⟩:=ot h
 unfold elM
 rcases hk with hk | hk | ⟨hk,h0⟩ | hk | hk <;> rw [hk]
 ·exact rowOfK1.wk (.cons (re_k hk hx) .nil)
 ·exact rowOfK2.wk (.cons (re_k hk hx) .nil)
 ·exact (rowOfK3 h0).wk (.cons (re_k hk hx) .nil)
 ·exact rowOfK4.wk (.cons (re_k hk hx) .nil)
 ·exact rowOfK5.wk (.cons (re_k hk hx) .nil)
theorem ch_ok {xs:List RE}(h:chF xs=0):xs.length≤4096∧xs.all elF=true:=by
 unfold chF at h
 by_cases h1:xs.length>4096
 ·rw [qC h1] at h; exact absurd h zd
 ·rw [qA h1] at h
  cases h2:xs.all elF with
  | true=>exact ⟨by omega,rfl⟩
  | false=>rw [h2] at h; exact absurd h zd
set_option maxHeartbeats 2000000 in
theorem pZ {xs:List RE}(h4:xs.length≤4096)(hx:xs.all elF=true):Cn Tryz.prog 34 [(SlA 92 [U32] (xs.map REA)).va] ((QMA 16781313 (prodQ xs)).va):=by
 refine Cn.introF Tryz.func34 G zk nq (λ B w0 a hF U=>?_)
 have U:=zn [(0,(SlA 92 [U32] (xs.map REA)).va)] [] U
 obtain ⟨v0,hv0,U⟩:=St.eqv U 0 rfl
 have hr:=iF hx
 refine qb<|zg [] [⟨2,80,ptrH,some 0,_,none⟩] [.alc 0] [.g 0] U (zY G (Str.zero aS) o0) (zz [(0,_)] [O 2 80 _] λ a w U=>?_)
 refine zt<|zg [η] [⟨3,80,ptrH,some 1,_,some (2,_)⟩] [.v 6 _,.alc 1,.sto 1] [.g 0] U (zQ G fo .nil (zY G (Str.zero aS) (zS 0 G bE o0))) (zz [(0,_)] [O 2 80 _,O 3 80 _] λ a w U=>?_)
 refine zt<|qb<|zg [η,η] [] [.v 7 _,.v 8 _,.v 9 _] [.o 0,.o 1,.o 2] U (zM 0 G (zv G (bh Tryz.underlying38 (aR hF hv0 (vq 0 G))) (zv G (ab a8) o0))) (zz [(7,_),(8,_),(9,_)] [O 2 80 _,O 3 80 _] λ a w U=>?_)
 refine a7<|ql ?_
 have U:=St.sel U [0,1,2]
 refine wp_loop_ghost (λ n a w=>∃ j:Nat,n+j=xs.length∧St B w0 19 [(7,EqV v0),(8,In (xs.length:Nat)),(9,In (j:Nat))] [⟨2,80,ptrH,RMA rm0⟩,⟨3,80,ptrH,QMA (1+4097*j) (prodQ (xs.take j))⟩] a w) (xs.length) ?_ ?_
 ·rw [qi] at U
  exact ⟨0,by omega,St.wkL U 1 G (sD Fi)⟩
 intro n a w hI
 obtain ⟨j,hn,U⟩:=hI
 refine qb<|zg [η,η] [] [.v 10 _] [.g 0,.g 1,.g 2,.o 0] U (zv G (aK (gq 2 G) (gq 1 G)) o0) (zz [(7,_),(8,_),(9,_),(10,_)] [O 2 80 _,O 3 80 _] λ a w U=>?_)
 refine zt<|ae U (zm 3 G) (λ hb0=>?_) (λ hb0=>?_)
 ·have hj:j<xs.length:=by simp at hb0; omega
  refine qh<|zt<|ql<|qb<|zg [η,η] [⟨5,92,ptrH,some 2,_,some (3,_)⟩] [.v 11 _,.v 12 _,.alc 2,.sto 2] [.g 0,.g 1,.g 2] U (zv G (cv mj (dJ λ _=>rfl) (aR hF hv0 (gq 0 G)) (gq 2 G) (cD hj)) (zv G (aq (vq 0 G) er) (zY G (Str.zero cF) (zS 1 G er o0)))) (zz [(7,_),(8,_),(9,_)] [O 2 80 _,O 3 80 _,O 5 92 _] λ a w U=>?_)
  refine a7<|zgd [[],[0],[],[0,1,2],[0,1,2,3]] [none,some (4,_),none] [] [.v 13 _,.v 14 _,.v 15 _,.v 16 _,.sto 1] [.g 0,.g 1,.g 2] aa U (zl 2 G er (zQ G (Fb (qc.1 hx _ (qf hj))) (.o (vq 0 G)) (zl 1 G bE (zQ G (tX (c:=4099) (d:=1+4097*j) (m:=elM xs[j]) (q:=prodQ (xs.take j)) zo) (.p (vq 1 G) (vq 2 G)) (zS 3 G bE o0))))) zk zk zk zk (zz [(7,_),(8,_),(9,_)] [O 2 80 _,O 3 80 _,O 5 92 _] λ a w U=>?_)
  refine am ?_
  refine a7<|zg [η,η,η] [] [.v 17 _,.v 9 _] [.g 0,.g 1,.o 1] U (zv G (aQ (gq 2 G) a8 ((wi64 zo zo).trans (by omega:(_:Int)=((j+1:Nat):Int)))) (zv G (ab (vq 0 G)) o0)) (zz [(7,_),(8,_),(9,_)] [O 2 80 _,O 3 80 _,O 5 92 _] λ a w U=>?_)
  refine a7 ?_
  have U:=St.sel U [0,1,2]
  have U:=St.selL U [0,1]
  have U:=St.wkL (A':=QMA (1+4097*(j+1)) (prodQ (xs.take (j+1)))) U 1 rfl ((dD (qk (QMA _) (rh hj).symm)).trans (sD (hr (j+1) zo)))
  exact ⟨n-1,by omega,j+1,by omega,U⟩
 ·obtain rfl:j=xs.length:=by simp at hb0; omega
  refine qK<|ah<|ah<|ay<|zt<|zg [some (1,_),η] [] [.v 18 _,.sto 0] [] U (zl 1 G bE (zS 0 G bE o0)) (zz [] [O 2 80 _,O 3 80 _] λ a w U=>?_)
  refine a7<|qe<|aj ?_ (ap G U (zm 0 G) bE)
  rw [qI]; exact (bz (.cons (bf zo) (.cons (bf zo) (.cons (bf zo) (.cons (bf zo) .nil))))).va
open Go.ChangeShapes Go.WideShapes Go.ChangeAt
theorem D0 {α β:Type}{R':α→β→Prop}{l1 l2:List α}{m1 m2:List β}(h:All2 R' l1 m1)(h':All2 R' l2 m2):All2 R' (l1++l2) (m1++m2):=by
 induction h with
 | nil=>exact h'
 | cons h1 _ ih=>exact .cons h1 ih
theorem He {l l':List As}{ds ds':List Value}(h:(cat l).p B ds w)(h':(cat l').p B ds' w):(cat (l++l')).p B (ds++ds') w:=by
 obtain ⟨ps,rfl,h1⟩:=h
 obtain ⟨ps',rfl,h2⟩:=h'
 exact ⟨ps++ps',by simp,D0 h1 h2⟩
theorem CP {A:As}{ds:List Value}(h:A.p B ds w):(cat [A]).p B ds w:=⟨[ds],by simp,.cons h .nil⟩
section
variable {H:Type} {enc:TypeId × Value→H} {w:World} {base:Nat} {spare:Nat→Bool} {held:Bool} {fuel:Nat} {cs:List Value} {x:DataW H × List MemPlace}
end
open Go.ChangeShapes Go.WideShapes Go.ChangeAt
theorem Az {A0 A1 A2:As}(h0:A0.p B ((cs.drop 0).take A0.n) w)(h1:A1.p B ((cs.drop A0.n).take A1.n) w)(h2:A2.p B ((cs.drop (A0.n+A1.n)).take A2.n) w)(hl:cs.length=A0.n+(A1.n+A2.n)):(cat [A0,A1,A2]).p B cs w :=
 tJ (by simpa using hl) λ k A hk=>by
  match k,hk with
  | 0,hk=>simp at hk; subst hk; exact h0
  | 1,hk=>simp at hk; subst hk; simpa [offs] using h1
  | 2,hk=>simp at hk; subst hk; simpa [offs] using h2
section
variable {H:Type} {enc:TypeId × Value→H} {w:World} {base:Nat} {spare:Nat→Bool} {held:Bool} {fuel:Nat} {cs:List Value} {x:DataW H × List MemPlace}
end
abbrev VL:=List (Value × Nat)
def FrK (n:Nat)(M:List Slt)(Es:VL):Prop:=M.map (λ s=>(s.v,s.xs.length))=Es∧∀ s∈M,s.u=s.v∧s.ys=s.xs∧s.z=.slice none 0 0∧s.n≤n
def FrL (n:Nat)(L:List Slot)(K:KL):Prop:=L.map (λ s=>(s.v,s.xs))=K∧∀ s∈L,s.u=s.v∧s.ys=s.xs∧s.z=.slice none 0 0∧s.n≤n
def KsP (K:KL)(Rs Es:VL)(X:BkRest)(L:List Slot):Prop:=X.n=K.length+Rs.length+Es.length∧X.N=[]∧FrL X.n L K∧FrK X.n X.R Rs∧FrK X.n X.M Es
def BkF (K:KL)(Rs Es:VL):As:=BqE (KsP K Rs Es)
theorem iN {n m:Nat}{M:List Slt}{Es:VL}(h:FrK n M Es)(hn:n≤m):FrK m M Es:=⟨h.1,λ s hs=>⟨(h.2 s hs).1,(h.2 s hs).2.1,(h.2 s hs).2.2.1,qd (h.2 s hs).2.2.2 hn⟩⟩
theorem tj {n m:Nat}{M:List Slot}{Es:KL}(h:FrL n M Es)(hn:n≤m):FrL m M Es:=⟨h.1,λ s hs=>⟨(h.2 s hs).1,(h.2 s hs).2.1,(h.2 s hs).2.2.1,qd (h.2 s hs).2.2.2 hn⟩⟩
theorem GG {n m a:Nat}{M:List Slt}{Es:VL}{ds:List Value}(h:FrK n M Es):FrK (n+1) (M++[newK m v a ds (n+1)]) (Es++[(v,a)]):=by
 refine ⟨?_,λ s hs=>?_⟩
 ·rw [zF,h.1]
  show Es++[(v,(chunks m a ds).length)]=_
  rw [mR]
 ·rcases qw.1 hs with hs | hs
  ·exact (iN h (ju n)).2 s hs
  ·obtain rfl:=qq.1 hs
   exact ⟨rfl,rfl,rfl,qg _⟩
theorem GF {n:Nat}{L:List Slot}{K:KL}{xs:List Nat}(h:FrL n L K):FrL (n+1) (L++[newS v xs (n+1)]) (K++[(v,xs)]):=by
 refine ⟨by rw [zF,h.1]; rfl,λ s hs=>?_⟩
 rcases qw.1 hs with hs | hs
 ·exact (tj h (ju n)).2 s hs
 ·obtain rfl:=qq.1 hs
  exact ⟨rfl,rfl,rfl,qg _⟩
theorem CK.exT {α : Type} {f : FuncId} {T : TypeId} {Ts : List TypeId} {A0 A1 : As} {A : α → As} {c : α → Prop} {pre : List VA} {post : VA} (hex : ∃ fn, P.funcs[f]? = some fn ∧ (fn.name == "runtime.NumGoroutine") = false ∧ fn.body.isNone = false) (h : ∀ x, c x → CK P f T Ts (A x) A1 pre post) (hp : ∀ B cs w, A0.p B cs w → ∃ x, c x ∧ (A x).p B cs w) : CK P f T Ts A0 A1 pre post :=
 ⟨hex,λ B w g cs args hB hg hp0 ha=>by
  obtain ⟨x,hc,hx⟩:=hp B cs w hp0
  exact (h x hc).2 B w g cs args hB hg hx ha⟩
theorem nQ {α β:Type}{f:α→β}{l:List α}{m:List β}(h:l.map f=m):l.length=m.length:=by rw [← h,qi]
theorem sep_l {n:Nat}{L:List Slot}{K:KL}(h:FrL n L K)(hs:∀ p∈K,∀ g,p.1.ownBlock=some g→v.ownBlock≠some g):∀ t∈L,∀ g,t.has g→v.ownBlock≠some g:=λ t ht g hg=>by
 obtain ⟨e1,_,_,_⟩:=h.2 t ht
 have hv:t.v.ownBlock=some g:=by
  rcases hg with hg | hg
  ·exact hg
  ·rwa [e1] at hg
 exact hs (t.v,t.xs) (by rw [← h.1]; exact qm.2 ⟨t,ht,rfl⟩) g hv
theorem sep_k {n:Nat}{L:List Slt}{K:VL}(h:FrK n L K)(hs:∀ p∈K,∀ g,p.1.ownBlock=some g→v.ownBlock≠some g):∀ t∈L,∀ g,t.has g→v.ownBlock≠some g:=λ t ht g hg=>by
 obtain ⟨e1,_,_,_⟩:=h.2 t ht
 have hv:t.v.ownBlock=some g:=by
  rcases hg with hg | hg
  ·exact hg
  ·rwa [e1] at hg
 exact hs (t.v,t.xs.length) (by rw [← h.1]; exact qm.2 ⟨t,ht,rfl⟩) g hv
theorem C6 (K:KL)(Rs Es:VL)(v:Value)(xs:List Nat)(hsep:∀ p∈K,∀ g,p.1.ownBlock=some g→v.ownBlock≠some g)(hl:K.length+Rs.length+Es.length≤1000000):CK Tryz.prog 210 61 [61,127] (BkF K Rs Es) (BkF (K++[(v,xs)]) Rs Es) [(PinA v (MgN xs)).va] (Tu []) :=
 CK.exT (c:=λ x:BkRest × Value × List Slot=>KsP K Rs Es x.1 x.2.2) (A:=λ x=>BqA x.1 x.2.1 x.2.2) (yy ⟨0,undef,[],undef,[],undef,[]⟩ undef v xs [] (λ t ht=>by cases ht) zd zd).1
  (λ x hx=>(yy x.1 x.2.1 v xs x.2.2 (sep_l hx.2.2.1 hsep) (by have:=nQ hx.2.2.1.1; omega) (by have:=hx.1; omega)).wk λ B cs w ⟨X,vr,L,hp,h⟩=>by
   obtain ⟨h1,h2,h3,h4,h5⟩:=hp
   obtain ⟨k1,k2,k3,k4,k5⟩:=hx
   refine ⟨X,vr,L,⟨by rw [h1,k1,qn]; simp; omega,h2.trans k2,?_,?_,?_⟩,h⟩
   ·rw [h1,h5]; exact GF k3
   ·rw [h1,h3]; exact iN k4 (ju _)
   ·rw [h1,h4]; exact iN k5 (ju _)) λ B cs w ⟨X,vr,L,hp,h⟩=>⟨(X,vr,L),hp,h⟩
theorem C7 (K:KL)(Rs Es:VL)(v:Value)(na:Nat)(hsep:∀ p∈Es,∀ g,p.1.ownBlock=some g→v.ownBlock≠some g)(hl:K.length+Rs.length+Es.length≤1000000):CK Tryz.prog 50 61 [61,125] (BkF K Rs Es) (BkF K Rs (Es++[(v,na)])) [OwV 92 9 v na] (Tu []) :=
 CK.exT (c:=λ x:BkRest × Value × List Slot=>KsP K Rs Es x.1 x.2.2) (A:=λ x=>BqA x.1 x.2.1 x.2.2) (yA ⟨0,undef,[],undef,[],undef,[]⟩ undef v na [] (λ t ht=>by cases ht) zd zd).1
  (λ x hx=>(yA x.1 x.2.1 v na x.2.2 (sep_k hx.2.2.2.2 hsep) (by have:=nQ hx.2.2.2.2.1; omega) (by have:=hx.1; omega)).wk λ B cs w ⟨X,vr,L,hp,h⟩=>by
   obtain ⟨h1,h2,h3,h4,es,_,h5⟩:=hp
   obtain ⟨k1,k2,k3,k4,k5⟩:=hx
   refine ⟨X,vr,L,⟨by rw [h1,k1,qn]; simp; omega,h2.trans k2,?_,?_,?_⟩,h⟩
   ·rw [h1,h4]; exact tj k3 (ju _)
   ·rw [h1,h3]; exact iN k4 (ju _)
   ·rw [h1,h5]; exact GG k5) λ B cs w ⟨X,vr,L,hp,h⟩=>⟨(X,vr,L),hp,h⟩
theorem new_l {n:Nat}{L:List Slot}{K:KL}{c:List Value}(h:FrL n L K)(hn:n≤1000000)(hp:(HbA vr L).p B c w)(hok:∀ p∈K,okL p.2∧p.2.length≤2000000000000):∀ s∈L,s.new:=λ s hs=>by
 obtain ⟨e1,e2,e3,e4⟩:=h.2 s hs
 have hm:(s.v,s.xs)∈K:=by rw [← h.1]; exact qm.2 ⟨s,hs,rfl⟩
 obtain ⟨o1,o2⟩:=hok _ hm
 exact { rv:=(hp.2.2.1 s hs).2.1,ox:=o1,oy:=by rw [e2]; exact o1,z1:=by rw [e3]; rfl,n1:=by omega,lx:=o2,uv:=e1,yx:=e2 }
theorem new_k {H E m n:Nat}{L:List Slt}{K:VL}{c:List Value}(h:FrK n L K)(hn:n≤1000000)(hp:(HkA H E m vr L).p B c w)(hok:∀ p∈K,p.2≤2000000000):∀ s∈L,s.new:=λ s hs=>by
 obtain ⟨e1,e2,e3,e4⟩:=h.2 s hs
 have hm:(s.v,s.xs.length)∈K:=by rw [← h.1]; exact qm.2 ⟨s,hs,rfl⟩
 exact { rv:=(hp.2.2.1 s hs).2.1,z1:=by rw [e3]; rfl,n1:=by omega,lx:=hok _ hm,uv:=e1,yx:=e2 }
theorem CV (K:KL)(Rs Es:VL)(hK:∀ p∈K,okL p.2∧p.2.length≤2000000000000)(hR:∀ p∈Rs,False)(hE:∀ p∈Es,p.2≤2000000000)(hl:K.length+Rs.length+Es.length≤1000000):CK Tryz.prog 20 61 [61,127,128,160,162,125,92] (BkF K Rs Es) JkA [] (Bo true) :=
 CK.exT (c:=λ x:BkRest × Value × List Slot=>KsP K Rs Es x.1 x.2.2∧(∀ s∈x.2.2,s.new)∧x.1.R=[]∧(∀ s∈x.1.M,s.new)) (A:=λ x=>BqA x.1 x.2.1 x.2.2)
  (AJ ⟨0,undef,[],undef,[],undef,[]⟩ undef [] (λ s hs=>by cases hs) zd rfl rfl (λ s hs=>by cases hs) zd).1
  (λ x hx=>AJ x.1 x.2.1 x.2.2 hx.2.1 (by have:=nQ hx.1.2.2.1.1; omega) hx.1.2.1 hx.2.2.1 hx.2.2.2 (by have:=nQ hx.1.2.2.2.2.1; omega))
  λ B cs w ⟨X,vr,L,hp,h⟩=>by
   obtain ⟨⟨c1,h1⟩,_,⟨c3,h3⟩,⟨c4,h4⟩⟩:=cN h
   have hn:X.n≤1000000:=by have:=hp.1; omega
   exact ⟨(X,vr,L),⟨hp,new_l hp.2.2.1 hn h1 hK,List.map_eq_nil_iff.1 (hp.2.2.2.1.1.trans (List.eq_nil_iff_forall_not_mem.2 hR)),new_k hp.2.2.2.2 hn h4 hE⟩,h⟩
theorem nd_sep {K:KL}{xs:List Nat}(h:(kbl (K++[(v,xs)])).Nodup):∀ p∈K,∀ g,p.1.ownBlock=some g→v.ownBlock≠some g:=λ p hp g hg hv=>by
 rw [kbl_app] at h
 have h2:=(xG.1 h).2.2
 have m1:g∈kbl K:=qJ.2 ⟨p,hp,hg⟩
 have m2:g∈kbl [(v,xs)]:=qJ.2 ⟨(v,xs),by simp,hv⟩
 exact h2 g m1 g m2 rfl
theorem sO {K l:KL}(h:(kbl (K++l)).Nodup):(kbl K).Nodup:=by
 rw [kbl_app] at h
 exact (xG.1 h).1
def EleP (x:RE)(m:Nat→Value):As:=cat [NumA .u8 x.k,FracP x.p (m 0) (m 1),FracP x.q (m 2) (m 3)]
abbrev ke (x:RE)(m:Nat→Value):KL:=kf x.p (m 0) (m 1)++kf x.q (m 2) (m 3)
theorem sW (x:RI)(m:Value)(K:KL)(Rs Es:VL)(hs:(kbl (K++[(m,x.mag)])).Nodup)(hl:K.length+Rs.length+Es.length≤999999):CK Tryz.prog 137 61 [61,127] (BkF (K) Rs Es) (BkF (K++([(m,x.mag)])) Rs Es) [(IntP x m).va] (Tu []):=by
 refine CK.intro Tryz.func137 G zk nq zk (λ B g w0 a hrm U=>?_)
 have U:=zn [(0,EqV ((ptrH).f g)),(1,(IntP x m).va)] [⟨0,61,ptrH,BkF (K) Rs Es⟩] U
 refine qb<|zg [η] [⟨3,28,ptrH,some 0,_,none⟩] [.alc 1] [.g 0] U (zW 1 G o0) (zz [(0,_)] [O 0 61 _,O 3 28 _] λ a w U=>?_)
 refine a7<|bN (sp:=[.v 4 _,.adr 5 3 (.some 1) True,.v 6 _,.v 7 VT]) 3 1 99 3 OneC [.g 0,.o 0,.o 2] U (zM 0 G (zO 1 G ar (zL 1 1 1 G aY o0))) G zd zk zk (zz [(0,_),(4,_),(6,_)] [O 0 61 _,O 3 28 _] λ a w U=>?_)
 rw [show List.range' 3 1=[3] from rfl]
 rw [qv]
 refine d8 (A1:=BkF (K++[(m,x.mag)]) Rs Es) (xs:=[.tmp 6]) [0] [2] 0 G U (C6 K Rs Es m x.mag (nd_sep hs) zo) G (zV (b:=ptr g) (U.vals _ (zm 1 G)) (x4 (U.vals _ (zm 0 G)))) (.cons ⟨_,rfl,rfl⟩ .nil) G hrm zd zk zk zk zk (λ a w U=>?_)
 refine bC ?_
 have U:=St.cvA (A':=BkF (K++([(m,x.mag)])) Rs Es) U 0 rfl (qk (λ k=>BkF k Rs Es) (by simp [qD]))
 have U:=zn [(7,_),(0,_)] [⟨0,61,ptrH,BkF (K++([(m,x.mag)])) Rs Es⟩,O 3 28 _] U
 refine cc<|fG U (zm 1 G) (zm 0 G) ?_
 exact aE (rs:=[]) G U .nil zd
theorem iK (x:RF)(m1 m2:Value)(K:KL)(Rs Es:VL)(hs:(kbl (K++([(m1,x.num.mag)]++[(m2,x.den.mag)]))).Nodup)(hl:K.length+Rs.length+Es.length≤999990):CK Tryz.prog 48 61 [61,127] (BkF (K) Rs Es) (BkF (K++([(m1,x.num.mag)]++[(m2,x.den.mag)])) Rs Es) [(FracP x m1 m2).va] (Tu []):=by
 have g1:(kbl ((K++[(m1,x.num.mag)])++[(m2,x.den.mag)])).Nodup:=by simpa [qD] using hs
 have g0:=sO g1
 refine CK.intro Tryz.func48 G zk nq zk (λ B g w0 a hrm U=>?_)
 have U:=zn [(0,EqV ((ptrH).f g)),(1,(FracP x m1 m2).va)] [⟨0,61,ptrH,BkF (K) Rs Es⟩] U
 refine qb<|zg [η] [⟨3,30,ptrH,some 0,_,none⟩] [.alc 1] [.g 0] U (zW 1 G o0) (zz [(0,_)] [O 0 61 _,O 3 30 _] λ a w U=>?_)
 refine zt<|bN (sp:=[.v 4 _,.adr 5 3 (.some 0) True,.v 6 _,.v 7 VT]) 3 1 99 3 OneC [.g 0,.o 0,.o 2] U (zM 0 G (zO 1 G aV (zL 1 1 0 G al o0))) G zd zk zk (zz [(0,_),(4,_),(6,_)] [O 0 61 _,O 3 30 _] λ a w U=>?_)
 rw [show List.range' 3 1=[3] from rfl]
 rw [qv]
 refine d8 (A1:=BkF (K++[(m1,x.num.mag)]) Rs Es) (xs:=[.tmp 6]) [0] [2] 0 G U (sW x.num m1 K Rs Es g0 (by (try simp only [qn,qR,zy]); omega)) G (zV (b:=ptr g) (U.vals _ (zm 1 G)) (x4 (U.vals _ (zm 0 G)))) (.cons ⟨_,rfl,rfl⟩ .nil) G hrm zd zk zk zk zk (λ a w U=>?_)
 refine bC ?_
 have U:=zn [(7,_),(0,_)] [⟨0,61,ptrH,BkF (K++[(m1,x.num.mag)]) Rs Es⟩,O 3 30 _] U
 refine a7<|bN (sp:=[.v 8 _,.adr 9 3 (.some 2) True,.v 10 _,.v 11 VT]) 3 1 99 3 OneC [.g 1,.o 0,.o 2] U (zM 1 G (zO 1 G aN (zL 1 1 1 G al o0))) G zd zk zk (zz [(0,_),(8,_),(10,_)] [O 0 61 _,O 3 30 _] λ a w U=>?_)
 rw [show List.range' 3 1=[3] from rfl]
 rw [qv]
 refine d8 (A1:=BkF ((K++[(m1,x.num.mag)])++[(m2,x.den.mag)]) Rs Es) (xs:=[.tmp 10]) [0] [2] 0 G U (sW x.den m2 (K++[(m1,x.num.mag)]) Rs Es g1 (by (try simp only [qn,qR,zy]); omega)) G (zV (b:=ptr g) (U.vals _ (zm 1 G)) (x4 (U.vals _ (zm 0 G)))) (.cons ⟨_,rfl,rfl⟩ .nil) G hrm zd zk zk zk zk (λ a w U=>?_)
 refine bC ?_
 have U:=St.cvA (A':=BkF (K++([(m1,x.num.mag)]++[(m2,x.den.mag)])) Rs Es) U 0 rfl (qk (λ k=>BkF k Rs Es) (by simp [qD]))
 have U:=zn [(11,_),(0,_)] [⟨0,61,ptrH,BkF (K++([(m1,x.num.mag)]++[(m2,x.den.mag)])) Rs Es⟩,O 3 30 _] U
 refine cc<|fG U (zm 1 G) (zm 0 G) ?_
 exact aE (rs:=[]) G U .nil zd
theorem yB (x:RE)(m:Nat→Value)(K:KL)(Rs Es:VL)(hs:(kbl (K++ke x m)).Nodup)(hl:K.length+Rs.length+Es.length≤999982):CK Tryz.prog 49 61 [61,127] (BkF (K) Rs Es) (BkF (K++(ke x m)) Rs Es) [(EleP x m).va] (Tu []):=by
 have g1:(kbl ((K++(kf x.p (m 0) (m 1)))++(kf x.q (m 2) (m 3)))).Nodup:=by simpa [qD] using hs
 have g0:=sO g1
 refine CK.intro Tryz.func49 G zk nq zk (λ B g w0 a hrm U=>?_)
 have U:=zn [(0,EqV ((ptrH).f g)),(1,(EleP x m).va)] [⟨0,61,ptrH,BkF (K) Rs Es⟩] U
 refine qb<|zg [η] [⟨3,92,ptrH,some 0,_,none⟩] [.alc 1] [.g 0] U (zW 1 G o0) (zz [(0,_)] [O 0 61 _,O 3 92 _] λ a w U=>?_)
 refine zt<|bN (sp:=[.v 4 _,.adr 5 3 (.some 1) True,.v 6 _,.v 7 VT]) 3 1 99 3 OneC [.g 0,.o 0,.o 2] U (zM 0 G (zO 1 G bT (zL 1 1 1 G ak o0))) G zd zk zk (zz [(0,_),(4,_),(6,_)] [O 0 61 _,O 3 92 _] λ a w U=>?_)
 rw [show List.range' 3 1=[3] from rfl]
 rw [qv]
 refine d8 (A1:=BkF (K++(kf x.p (m 0) (m 1))) Rs Es) (xs:=[.tmp 6]) [0] [2] 0 G U (iK x.p (m 0) (m 1) K Rs Es g0 (by (try simp only [qn,qR,zy]); omega)) G (zV (b:=ptr g) (U.vals _ (zm 1 G)) (x4 (U.vals _ (zm 0 G)))) (.cons ⟨_,rfl,rfl⟩ .nil) G hrm zd zk zk zk zk (λ a w U=>?_)
 refine bC ?_
 have U:=zn [(7,_),(0,_)] [⟨0,61,ptrH,BkF (K++(kf x.p (m 0) (m 1))) Rs Es⟩,O 3 92 _] U
 refine a7<|bN (sp:=[.v 8 _,.adr 9 3 (.some 5) True,.v 10 _,.v 11 VT]) 3 1 99 3 OneC [.g 1,.o 0,.o 2] U (zM 1 G (zO 1 G bX (zL 1 1 2 G ak o0))) G zd zk zk (zz [(0,_),(8,_),(10,_)] [O 0 61 _,O 3 92 _] λ a w U=>?_)
 rw [show List.range' 3 1=[3] from rfl]
 rw [qv]
 refine d8 (A1:=BkF ((K++(kf x.p (m 0) (m 1)))++(kf x.q (m 2) (m 3))) Rs Es) (xs:=[.tmp 10]) [0] [2] 0 G U (iK x.q (m 2) (m 3) (K++(kf x.p (m 0) (m 1))) Rs Es g1 (by (try simp only [qn,qR,zy]); omega)) G (zV (b:=ptr g) (U.vals _ (zm 1 G)) (x4 (U.vals _ (zm 0 G)))) (.cons ⟨_,rfl,rfl⟩ .nil) G hrm zd zk zk zk zk (λ a w U=>?_)
 refine bC ?_
 have U:=St.cvA (A':=BkF (K++(ke x m)) Rs Es) U 0 rfl (qk (λ k=>BkF k Rs Es) (by simp [qD]))
 have U:=zn [(11,_),(0,_)] [⟨0,61,ptrH,BkF (K++(ke x m)) Rs Es⟩,O 3 92 _] U
 refine cc<|fG U (zm 1 G) (zm 0 G) ?_
 exact aE (rs:=[]) G U .nil zd
def SzV (h:Nat):VA where
 p _ _ w:=h≤w.heap.size
 deps:=[]
 cg:=λ _ _ _ _ hg hh=>qd hh hg.le
 wr:=λ _ _ _ _ _ _ _ _ _ _ _ hW hh=>by rw [hW.size]; exact hh
def GeA (h:Nat)(A:As):As where
 n:=A.n
 ag:=A.ag
 p B cs w:=A.p B cs w∧(cbl cs).Nodup∧∀ g∈cbl cs,h≤g
 deps:=A.deps
 len:=λ B cs w hp=>A.len B cs w hp.1
 one:=λ B cs w hp=>A.one B cs w hp.1
 ag1:=A.ag1
 cg:=λ B cs w w' hg hp=>⟨A.cg B cs w w' hg hp.1,hp.2⟩
 wr:=λ B cs w w' g c T fz h1 h2 h3 h4 hp=>⟨A.wr B cs w w' g c T fz h1 h2 h3 h4 hp.1,hp.2⟩
def IvA (lo hi:Nat)(A:As):As where
 n:=A.n
 ag:=A.ag
 p B cs w:=A.p B cs w∧(cbl cs).Nodup∧∀ g∈cbl cs,lo≤g∧g<hi
 deps:=A.deps
 len:=λ B cs w hp=>A.len B cs w hp.1
 one:=λ B cs w hp=>A.one B cs w hp.1
 ag1:=A.ag1
 cg:=λ B cs w w' hg hp=>⟨A.cg B cs w w' hg hp.1,hp.2⟩
 wr:=λ B cs w w' g c T fz h1 h2 h3 h4 hp=>⟨A.wr B cs w w' g c T fz h1 h2 h3 h4 hp.1,hp.2⟩
theorem GC {h:Nat}{A A':As}(k:WkA A A'):WkA (GeA h A) (GeA h A'):=⟨k.1,k.2.1,λ _ _ _ hp=>⟨k.2.2 _ _ _ hp.1,hp.2⟩⟩
section
variable {B N:Nat} {w0:Bs} {Γ:List (Nat × VA)} {Λ:List Lc} {a:Act} {w:World}
theorem St.setG (h:St B w0 N Γ Λ a w){s:Nat}{A A':VA}(k:Nat)(hm:Γ[k]?=some (s,A))(hp:A.p B (a.eval (.tmp s)) w→A'.p B (a.eval (.tmp s)) w):St B w0 N (Γ.set k (s,A')) Λ a w :=
 ⟨h.lo,h.defers,h.size,h.base,λ x hx=>by
  rcases qp hx with hx | rfl
  ·exact h.vals x hx
  ·exact hp (h.vals _ (qa hm)),h.locs,h.dis⟩
theorem St.getG (h:St B w0 N Γ Λ a w){s:Nat}{A:VA}(k:Nat)(hm:Γ[k]?=some (s,A)):A.p B (a.eval (.tmp s)) w:=h.vals _ (qa hm)
theorem St.addSz (h:St B w0 N Γ Λ a w)(s:Nat):St B w0 N (Γ++[(s,SzV w.heap.size)]) Λ a w :=
 ⟨h.lo,h.defers,h.size,h.base,λ x hx=>by
  rcases qw.1 hx with hx | hx
  ·exact h.vals x hx
  ·obtain rfl:=qq.1 hx
   exact qg _,h.locs,h.dis⟩
theorem St.newSz (h:St B w0 N Γ Λ a w){s h0:Nat}(k:Nat)(hm:Γ[k]?=some (s,SzV h0)):h0≤w.heap.size∧St B w0 N (Γ.set k (s,SzV w.heap.size)) Λ a w:=⟨h.getG k hm,h.setG k hm λ _=>qg _⟩
theorem St.setL (h:St B w0 N Γ Λ a w){s:Nat}{A A':As}(k:Nat)(hm:Λ[k]?=some ⟨s,T,H,A⟩)(hp:∀ cs,A.p B cs w→A'.p B cs w):St B w0 N Γ (Λ.set k ⟨s,T,H,A'⟩) a w:=by
 obtain ⟨g,cs,q1,q2,q3,q4⟩:=h.locs _ (qa hm)
 have hs:∀ m∈Λ.set k ⟨s,T,H,A'⟩,∃ m0∈Λ,m0.s=m.s:=λ m hm'=>by
  rcases qp hm' with hm' | rfl
  ·exact ⟨m,hm',rfl⟩
  ·exact ⟨_,qa hm,rfl⟩
 refine ⟨h.lo,h.defers,h.size,h.base,h.vals,λ l hl=>?_,λ m1 hm1 m2 hm2 hne=>?_⟩
 ·rcases qp hl with hl | rfl
  ·exact h.locs l hl
  ·exact ⟨g,cs,q1,q2,q3,hp cs q4⟩
 ·obtain ⟨m3,r1,r2⟩:=hs m1 hm1
  obtain ⟨m4,r3,r4⟩:=hs m2 hm2
  rw [← r2,← r4] at hne ⊢
  exact h.dis m3 r1 m4 r3 hne
theorem St.nameL {M:Type}{s lo:Nat}{A0 A:As}{AP:M→As}{kl:M→KL}(hw:WkA A0 A)(hnew:NewA A)(hs:∀ {B:Nat} {cs:List Value} {w:World},A.p B cs w→∃ m,(AP m).p B cs w∧cbl cs=kbl (kl m)∧OkK (kl m))(h:St B w0 N Γ Λ a w)(k:Nat)(hm:Λ[k]?=some ⟨s,T,H,GeA lo A0⟩):
  ∃ m,(kbl (kl m)).Nodup∧(∀ g∈kbl (kl m),lo≤g∧g<w.heap.size)∧OkK (kl m)∧St B w0 N Γ (Λ.set k ⟨s,T,H,AP m⟩) a w:=by
 obtain ⟨g,cs,q1,q2,q3,hp,hn,hl⟩:=h.locs _ (qa hm)
 have hA:=hw.2.2 _ _ _ hp
 obtain ⟨m,p1,e,ok⟩:=hs hA
 refine ⟨m,by rw [← e]; exact hn,λ g hg=>?_,ok,?_⟩
 ·rw [← e] at hg
  exact ⟨hl g hg,(hnew _ _ _ hA g hg).2⟩
 ·have hss:∀ m'∈Λ.set k ⟨s,T,H,AP m⟩,∃ m0∈Λ,m0.s=m'.s:=λ m' hm'=>by
   rcases qp hm' with hm' | rfl
   ·exact ⟨m',hm',rfl⟩
   ·exact ⟨_,qa hm,rfl⟩
  refine ⟨h.lo,h.defers,h.size,h.base,h.vals,λ l hl=>?_,λ m1 hm1 m2 hm2 hne=>?_⟩
  ·rcases qp hl with hl | rfl
   ·exact h.locs l hl
   ·exact ⟨g,cs,q1,q2,q3,p1⟩
  ·obtain ⟨m3,r1,r2⟩:=hss m1 hm1
   obtain ⟨m4,r3,r4⟩:=hss m2 hm2
   rw [← r2,← r4] at hne ⊢
   exact h.dis m3 r1 m4 r3 hne
end
section
open Rg
variable {P:Program} {Q:Exit→Act→World→Prop} {R:Rg} {B i:Nat} {w0:Bs}
theorem rW {pre pre':List VA}{xs:List Operand}(hup:All2 Up pre pre')(hx:HasL R B w0 i xs pre)(av:R.Av B w0 i a w):All2 (λ (A:VA) v=>A.p w.heap.size v w) pre' (xs.map a.eval):=by
 have hbw:=Av.bw av
 have h1:=hx.all av
 clear hx
 generalize xs.map a.eval=vs at h1
 induction hup generalizing vs with
 | nil=>cases h1; exact .nil
 | cons hu _ ih =>
  cases h1 with
  | cons h2 h3=>exact .cons (hu _ _ _ hbw h2) (ih _ h3)
theorem np {f h s:Nat}{A:As}{pre pre':List VA}{xs:List Operand}{at_:Array TypeId}(hc:Cn P f pre' A.va)(hnew:NewA A)(hnod:NodA A)(hfree:FreeA A A)(hup:All2 Up pre pre')(hx:HasL R B w0 i xs pre)(hs:Has R B w0 i (.tmp s) (SzV h)):Wv P Q R B w0 i (.call ⟨.value (.func f),xs.toArray,at_⟩) (GeA h A).va:=by
 intro d T ps af gd a w av K hK
 obtain ⟨⟨fn,hf,hn,hb⟩,hcall⟩:=hc
 have hrun:(execOp a.eval ⟨some d,.call ⟨.value (.func f),xs.toArray,at_⟩,T,ps,af,gd⟩).run P w=.ok (.enter f (xs.map a.eval).toArray) w:=by
  simp only [execOp,resolve,Act.eval,Deferred.ofValue,Sem.run_bind,Sem.run_pure,Result.andThen_ok,invoke,be hf hn hb]
  simp
 have hsz:h≤w.heap.size:=hs a w av
 unfold Oper.wp
 rw [hrun]
 refine (hcall w.heap.size w _ (qg _) (rW hup hx av)).mono ?_
 rintro e w' ⟨v,rfl,⟨cs,hv,hsh⟩,hg⟩
 exact hK v w' hg ⟨cs,⟨hfree.2.2 _ _ _ _ (Av.bw av) hv,hnod _ _ _ hv,λ g hg'=>qd hsz (hnew _ _ _ hv g hg').1⟩,hsh⟩
theorem li {f h s:Nat}{A C:As}{pre pre':List VA}{xs:List Operand}{at_:Array TypeId}(hc:Cn P f pre' (Tu [A.va,C.va]))(hnew:NewA A)(hnod:NodA A)(hfree:FreeA A A)(hfC:FreeA C C)(hup:All2 Up pre pre')(hx:HasL R B w0 i xs pre)(hs:Has R B w0 i (.tmp s) (SzV h)):Wv P Q R B w0 i (.call ⟨.value (.func f),xs.toArray,at_⟩) (Tu [(GeA h A).va,C.va]):=by
 intro d T ps af gd a w av K hK
 obtain ⟨⟨fn,hf,hn,hb⟩,hcall⟩:=hc
 have hrun:(execOp a.eval ⟨some d,.call ⟨.value (.func f),xs.toArray,at_⟩,T,ps,af,gd⟩).run P w=.ok (.enter f (xs.map a.eval).toArray) w:=by
  simp only [execOp,resolve,Act.eval,Deferred.ofValue,Sem.run_bind,Sem.run_pure,Result.andThen_ok,invoke,be hf hn hb]
  simp
 have hsz:h≤w.heap.size:=hs a w av
 unfold Oper.wp
 rw [hrun]
 refine (hcall w.heap.size w _ (qg _) (rW hup hx av)).mono ?_
 rintro e w' ⟨v,rfl,⟨vs,hv,h2⟩,hg⟩
 cases h2 with
 | @cons _ x _ vs h2 h3=>cases h3 with
  | @cons _ y _ vs h3 h4 =>
   cases h4
   obtain ⟨cs,hp,hsh⟩:=h2
   obtain ⟨ds,hq,hsq⟩:=h3
   exact hK v w' hg ⟨[x,y],hv,.cons ⟨cs,⟨hfree.2.2 _ _ _ _ (Av.bw av) hp,hnod _ _ _ hp,λ g hg'=>qd hsz (hnew _ _ _ hp g hg').1⟩,hsh⟩ (.cons ⟨ds,hfC.2.2 _ _ _ _ (Av.bw av) hq,hsq⟩ .nil)⟩
end
structure IvK (k:KL) (I:List (Nat × Nat)):Prop where
 nd:(kbl k).Nodup
 iv:∀ g∈kbl k,∃ x∈I,x.1≤g∧g<x.2
theorem Gc:IvK [] []:=⟨xK,λ g hg=>by cases hg⟩
theorem nR {k l:KL}{I:List (Nat × Nat)}{lo hi:Nat}(h:IvK k I)(nl:(kbl l).Nodup)(hl:∀ g∈kbl l,lo≤g∧g<hi)(hI:∀ x∈I,x.2≤lo∨hi≤x.1):IvK (k++l) (I++[(lo,hi)]):=by
 refine ⟨?_,λ g hg=>?_⟩
 ·rw [kbl_app]
  refine xG.2 ⟨h.nd,nl,λ x hx y hy e=>?_⟩
  subst e
  obtain ⟨z,hz,q1,q2⟩:=h.iv x hx
  have q3:=hl x hy
  rcases hI z hz with q | q <;> omega
 ·rw [kbl_app] at hg
  rcases qw.1 hg with hg | hg
  ·obtain ⟨x,hx,q⟩:=h.iv g hg
   exact ⟨x,by simp [hx],q⟩
  ·exact ⟨(lo,hi),by simp,hl g hg⟩
theorem nS {lo hi:Nat}:∀ x∈([]:List (Nat × Nat)),x.2≤lo∨hi≤x.1:=λ x hx=>by cases hx
theorem hU {I:List (Nat × Nat)}{lo hi l2 h2:Nat}(h:∀ x∈I,x.2≤lo∨hi≤x.1)(k:h2≤lo∨hi≤l2):∀ x∈I++[(l2,h2)],x.2≤lo∨hi≤x.1:=λ x hx=>by
 rcases qw.1 hx with hx | hx
 ·exact h x hx
 ·obtain rfl:=qq.1 hx
  exact k
def NewR (b:Nat)(E:TypeId)(l:List As):VA where
 p B v w:=∃ g ds,v=.slice (some ⟨g,0,none⟩) l.length l.length∧b≤g∧w.heap[g]?=some (.cells (List.toArray ds) E (0,0))∧(cat l).p B ds w
 deps:=E::(cat l).deps
 cg:=by
  rintro B v w w' hg ⟨g,ds,e,h1,h2,h3⟩
  exact ⟨g,ds,e,h1,hg.heap h2,(cat l).cg _ _ _ _ hg h3⟩
 wr:=by
  rintro B v w w' g c T fz hgc hT hB hW ⟨g0,ds,e,h1,h2,h3⟩
  simp only [qo,not_or] at hT
  have n1:g0≠g:=by
   rintro rfl
   rw [hgc] at h2
   injection h2 with h2
   injection h2 with _ h2 _
   exact hT.1 h2
  exact ⟨g0,ds,e,h1,by rw [hW.block g0 n1]; exact h2,(cat l).wr _ _ _ _ _ _ _ _ hgc hT.2 hB hW h3⟩
theorem St.toLoc {B N:Nat}(h:St B w0 N Γ Λ a w){s:Nat}{E:TypeId}{l:List As}(k:Nat)(hm:Γ[k]?=some (s,NewR w0.w.heap.size E l))(hT:Λ.all (λ l'=>l'.T != E)=true):
  St B w0 N (Γ.eraseIdx k) (Λ++[⟨s,E,slH l.length l.length,cat l⟩]) a w:=by
 obtain ⟨g,ds,e,h1,h2,h3⟩:=h.vals _ (qa hm)
 have hblk:blk (a.eval (.tmp s))=some g:=by
  have e':a.eval (.tmp s)=.slice (some ⟨g,0,none⟩) l.length l.length:=e
  rw [e']; rfl
 have hdiff:∀ l'∈Λ,blk (a.eval (.tmp l'.s))≠some g:=λ l' hl' hb=>by
  obtain ⟨g',cs,f1,f2,f3,f4⟩:=h.locs l' hl'
  have:g'=g:=by rw [f1,l'.H.ok] at hb; injection hb
  subst this
  rw [h2] at f3
  injection f3 with f3
  injection f3 with _ f3 _
  have:=qc.1 hT l' hl'
  simp only [bne_iff_ne] at this
  exact this f3.symm
 refine ⟨h.lo,h.defers,h.size,h.base,λ x hx=>h.vals x (xg hx),λ l' hl'=>?_,λ l' hl' m' hm' hne=>?_⟩
 ·rcases qw.1 hl' with hl' | hl'
  ·exact h.locs l' hl'
  ·obtain rfl:=qq.1 hl'
   exact ⟨g,ds,e,.inl h1,h2,h3⟩
 ·rcases qw.1 hl' with hl' | hl' <;> rcases qw.1 hm' with hm' | hm'
  ·exact h.dis l' hl' m' hm' hne
  ·obtain rfl:=qq.1 hm'
   show blk (a.eval (.tmp l'.s))≠blk (a.eval (.tmp s))
   rw [hblk]
   exact hdiff l' hl'
  ·obtain rfl:=qq.1 hl'
   show blk (a.eval (.tmp s))≠blk (a.eval (.tmp m'.s))
   rw [hblk]
   exact λ e=>hdiff m' hm' e.symm
  ·obtain rfl:=qq.1 hl'
   obtain rfl:=qq.1 hm'
   exact absurd G hne
theorem AA {l:List As}{m B:Nat}{ds:List Value}(hm:∀ A∈l,A.n=m)(h:(cat l).p B ds w):∀ k,(cat (l.take k)).p B (ds.take (k*m)) w∧(cat (l.drop k)).p B (ds.drop (k*m)) w:=by
 obtain ⟨ps,rfl,h⟩:=h
 induction h with
 | nil=>intro k; simp only [List.take_nil,List.drop_nil,List.flatten_nil]; exact ⟨⟨[],rfl,.nil⟩,⟨[],rfl,.nil⟩⟩
 | @cons A c ls bs h1 h2 ih =>
  intro k
  cases k with
  | zero =>
   simp only [kb,jy,xo]
   exact ⟨⟨[],rfl,.nil⟩,⟨c::bs,rfl,.cons h1 h2⟩⟩
  | succ k =>
   obtain ⟨i1,i2⟩:=ih (λ A' hA=>hm A' (zi _ hA)) k
   have hl:c.length=m:=(A.len _ _ _ h1).trans (hm A (by simp))
   have e1:(c::bs).flatten.take ((k+1)*m)=c++bs.flatten.take (k*m):=by
    rw [qL,j0,qB (by rw [hl,xI]; omega),hl]
    congr 2
    rw [xI]
    omega
   have e2:(c::bs).flatten.drop ((k+1)*m)=bs.flatten.drop (k*m):=by
    rw [qL,vf,xa (by rw [hl,xI]; omega),xT,hl]
    congr 1
    rw [xI]
    omega
   rw [e1,e2,kO,List.drop_succ_cons]
   refine ⟨?_,i2⟩
   obtain ⟨qs,e,hq⟩:=i1
   exact ⟨c::qs,by rw [qL,← e],.cons h1 hq⟩
section
variable {P:Program} {R:Rg} {Q:Exit→Act→World→Prop} {B i:Nat} {w0:Bs}
theorem BG {S E:TypeId}{l:List As}{m:Nat}{xs:List Operand}(hS:Sl P S E m)(hz:((P.info? E).bind (·.zero)).isSome=true)(hm:∀ A∈l,A.n=m)(hm0:0<m)(hl0:0<l.length)(hsmall:l.length*m≤16777216)
  (hx:All2 (λ (A:As) x=>Has R B w0 i x A.va) l xs) {ps':Array (Nat × Operand)} (hps:ps'.toList=(xs.zipIdx 0).map λ x=>(x.2,x.1)) {n:Nat} (hn:n=l.length):Wv P Q R B w0 i (.buildSlice S n ps') (NewR w0.w.heap.size E l) :=
 bm λ d T ps af gd a w av=>by
  subst hn
  obtain ⟨hs1,hs2⟩:=hS
  cases hi:P.info? E with
  | none=>rw [hi] at hs2; simp at hs2
  | some it =>
   rw [hi] at hs2 hz
   have hsz:it.size=m:=by simpa using hs2
   obtain ⟨z,hzz⟩:=ki.1 hz
   simp only [jX] at hzz
   have hvs:All2 (λ (A:As) v=>A.va.p B v w) l (xs.map a.eval):=by
    clear hps hm hl0 hsmall
    induction hx with
    | nil=>exact .nil
    | cons h _ ih=>exact .cons (h a w av) ih
   have hlen:=hvs.length
   have hvn:∀ v∈xs.map a.eval,v.cells.size=m:=by
    intro v hv
    obtain ⟨k,hk⟩:=List.getElem?_of_mem hv
    have hkl:k<l.length:=by rw [hlen]; exact (List.getElem?_eq_some_iff.1 hk).1
    obtain ⟨v',hv',cs,hp,he⟩:=hvs.get (List.getElem?_eq_getElem hkl)
    rw [hk] at hv'
    injection hv' with hv'
    subst hv'
    rw [he,As.cells_shape _ hp]
    have:=As.len _ _ _ _ hp
    simp [this]
    exact hm _ (by simp)
   have hf:=Great.fill_whole hm0 (xs.map a.eval) ((Array.range (l.length*m)).map (z.cells[· % z.cells.size]!)) hvn (by simp [hlen])
   have hrun:=run_buildSlice (P:=P) w S E l.length (ps'.map λ x=>(x.1,a.eval x.2)) ((xs.map a.eval).flatMap λ v=>v.cells.toList).toArray it z hs1 hi hzz (by rw [hsz]; omega) (by rw [hsz]; exact Nat.ne_of_gt (jt hl0 hm0)) (by
    rw [hsz,← hf]
    congr 1
    rw [vh,hps]
    simp [vk,jg,Function.comp_def])
   refine ⟨.slice (some ⟨w.heap.size,0,none⟩) l.length l.length,w.alloc (.cells ((xs.map a.eval).flatMap λ v=>v.cells.toList).toArray E),?_,Grow.alloc _ _,w.heap.size,_,rfl,av.base.size,heap_alloc_new w _,(cat l).grow _ _ _ _ (Grow.alloc _ _) (mP hvs)⟩
   simp [execOp,hrun]
theorem Fs {x:Operand}{f:FuncId}{xs:List Operand}{As':List VA}{A:VA}{at_:Array TypeId}(hc:Cn P f As' A)(hv:Has R B w0 i x (EqA (.func (.func f) #[] #[])).va)(hx:HasL R B w0 i xs As'):Wv P Q R B w0 i (.call ⟨.value x,xs.toArray,at_⟩) A:=by
 intro d T ps af gd a w av K hK
 obtain ⟨⟨fn,hf,hn,hb⟩,hcall⟩:=hc
 have ev:a.eval x=.func (.func f) #[] #[]:=Ac (hv a w av)
 have hrun:(execOp a.eval ⟨some d,.call ⟨.value x,xs.toArray,at_⟩,T,ps,af,gd⟩).run P w=.ok (.enter f (xs.map a.eval).toArray) w:=by
  simp only [execOp,resolve,ev,Deferred.ofValue,Sem.run_bind,Sem.run_pure,Result.andThen_ok,invoke,be hf hn hb]
  simp
 unfold Oper.wp
 rw [hrun]
 exact (hcall B w _ (Av.bw av) (hx.all av)).mono λ e w' ⟨v,he,hv,hg⟩=>by subst he; exact hK v w' hg hv
end
def TwK (g c:Nat)(E:TypeId)(m:Nat)(D:List TypeId)(l:List As)(x:As):VA where
 p B v w:=v=.slice (some ⟨g,0,none⟩) l.length c∧B≤g∧(OwnR 0 E m D (l++[x])).p B (.slice (some ⟨g,0,none⟩) (l.length+1) c) w
 deps:=E::D
 cg:=λ B v w w' hg h=>⟨h.1,h.2.1,(OwnR 0 E m D (l++[x])).cg _ _ _ _ hg h.2.2⟩
 wr:=λ B v w w' g c T fz h1 h2 h3 h4 h=>⟨h.1,h.2.1,(OwnR 0 E m D (l++[x])).wr _ _ _ _ _ _ _ _ h1 h2 h3 h4 h.2.2⟩
def TwS (E:TypeId)(m:Nat)(D:List TypeId)(l:List As)(x:As):VA where
 p B v w:=∃ g c,(TwK g c E m D l x).p B v w
 deps:=E::D
 cg:=λ B v w w' hg ⟨g,c,h⟩=>⟨g,c,(TwK g c E m D l x).cg _ _ _ _ hg h⟩
 wr:=λ B v w w' g c T fz h1 h2 h3 h4 ⟨g',c',h⟩=>⟨g',c',(TwK g' c' E m D l x).wr _ _ _ _ _ _ _ _ h1 h2 h3 h4 h⟩
theorem ti {l:List As}{B B':Nat}(hB:B'≤B)(hl:∀ A∈l,FreeA A A){ds:List Value}(h:(cat l).p B ds w):(cat l).p B' ds w:=by
 obtain ⟨ps,rfl,h⟩:=h
 refine ⟨ps,rfl,?_⟩
 induction h with
 | nil=>exact .nil
 | cons h _ ih=>exact .cons ((hl _ (by simp)).2.2 _ _ _ _ hB h) (ih λ A hA=>hl A (by simp [hA]))
theorem Ck {E:TypeId}{m:Nat}{l:List As}{x:As}(hl:∀ A∈l++[x],FreeA A A):Free (TwS E m D l x) (TwS E m D l x):=λ B B' v w hB ⟨g,c,h1,h2,h3,h4,ds,h5,h6⟩=>⟨g,c,h1,qd hB h2,h3,h4,ds,ti hB hl h5,h6⟩
theorem St.exK {B N:Nat}(h:St B w0 N Γ Λ a w){s:Nat}{E:TypeId}{m:Nat}{l:List As}{x:As}(k:Nat)(hm:Γ[k]?=some (s,TwS E m D l x)):∃ g c,St B w0 N (Γ.set k (s,TwK g c E m D l x)) Λ a w:=by
 obtain ⟨g,c,hv⟩:=h.vals _ (qa hm)
 exact ⟨g,c,h.lo,h.defers,h.size,h.base,λ y hy=>by
  rcases qp hy with hy | rfl
  ·exact h.vals y hy
  ·exact hv,h.locs,h.dis⟩
theorem vw {g c:Nat}{E:TypeId}{m:Nat}{l:List As}{x:As}(h:(TwK g c E m D l x).p B v w):l.length+1≤c∧c≤maxLen:=by
 obtain ⟨_,_,_,_,ds,_,_,h6⟩:=h
 rcases h6 with ⟨h6,_⟩ | ⟨g',cap,cur,e1,e2,e3,e4,e5,e6,e7⟩
 ·cases h6
 ·injection e1 with _ _ e1
  rw [qn] at e4
  exact ⟨by rw [e1]; exact e4,by rw [e1]; exact e5⟩
theorem own_w {b:Nat}{E:TypeId}{m:Nat}{l:List As}(h:(OwnR b E m D l).p B v w):(SlA E D l).va.p B v w:=ii _ _ _ h
theorem vv {g c:Nat}{E:TypeId}{m:Nat}{l:List As}{x:As}:Wk (TwK g c E m D l x) (SlA E D l).va:=λ B v w h=>by
 obtain ⟨h1,h2,h3,h4,ds,h5,h6,h7⟩:=h
 rcases h7 with ⟨h7,_⟩ | ⟨g',cap,cur,e1,e2,e3,e4,e5,e6,e7⟩
 ·cases h7
 ·injection e1 with eg _ e1
  injection eg with eg
  injection eg with eg
  subst eg e1 h1
  have hs:=(AA h3 h5 l.length).1
  rw [jM] at hs
  refine ⟨[.slice (some ⟨g,0,none⟩) l.length c],⟨λ A hA=>h4 A (by simp [hA]),_,c,ds.take (l.length*m),rfl,by rw [qn] at e4; exact zD e4,e5,hs,λ _=>⟨g,0,rfl,(Array.getElem?_eq_some_iff.1 e3).1,.inr ⟨_,_,e3⟩,λ j u hu=>?_⟩⟩,rfl⟩
  rw [cell_of_row w g (0+j) cur E _ e3,zc]
  rw [List.getElem?_take] at hu
  split at hu
  ·rw [← e7,List.getElem?_take] at hu
   split at hu
   ·simpa using hu
   ·cases hu
  ·cases hu
theorem twS_sl {E:TypeId}{m:Nat}{l:List As}{x:As}:Wk (TwS E m D l x) (SlA E D l).va:=λ B v w ⟨g,c,h⟩=>vv _ _ _ h
section
variable {P:Program} {R:Rg} {Q:Exit→Act→World→Prop} {B i:Nat} {w0:Bs}
theorem r_capK {x:Operand}{S E E':TypeId}{g c m:Nat}{l:List As}{z:As}(hS:P.underlying S=some (.slice E'))(hx:Has R B w0 i x (TwK g c E m D l z)):Wv P Q R B w0 i (.call ⟨.builtin .cap,#[x],#[S]⟩) (In (c:Int)) :=
 bm λ d T ps af gd a w av=>by
  have hv:=(hx a w av).1
  refine ⟨.int .i64 (c:Int),w,?_,Grow.refl w,cp _ _ _ _⟩
  simp [execOp,resolve,invoke,builtin,hv,Builtin.cap_,run_underlying hS,goInt]
theorem Fm {x y:Operand}{S E:TypeId}{g c m:Nat}{l:List As}{z:As}(hS:Sl P S E m)(hx:Has R B w0 i x (TwK g c E m D l z))(hy:Has R B w0 i y (In ((l.length+1:Nat):Int))):Wv P Q R B w0 i (.slice S x none (some y) none) (SlA E D (l++[z])).va :=
 bm λ d T ps af gd a w av=>by
  have hk:=hx a w av
  have hc:=vw hk
  obtain ⟨hs1,hs2⟩:=hS
  have e1:=hk.1
  have e3:=bo (hy a w av)
  have hE:P.elem S=E:=by simp [Program.elem,hs1]
  have hs1':P.underlying S=some (.slice (P.elem S)):=by rw [hE]; exact hs1
  have hsz:∀ w,(sizeOf E).run P w=.ok m w:=λ w=>by
   cases hi:P.info? E with
   | none=>rw [hi] at hs2; simp at hs2
   | some it=>rw [hi] at hs2; simp [sizeOf,typeInfo,hi]; simpa using hs2
  refine ⟨.slice (some ⟨g,0,none⟩) (l.length+1) c,w,?_,Grow.refl w,own_w hk.2.2⟩
  have hr:=run_slice_h (P:=P) w S (some ⟨g,0,none⟩) l.length c hs1' .i64 ((l.length+1:Nat):Int) zo zo
  rw [hE,hsz] at hr
  have hne:¬ c=0:=by omega
  simp only [Result.andThen_ok,sliced,zH,hne,if_false,jy,qH,je] at hr
  simp only [execOp,e1,e3,qH,run_sliceAt_slice _ _ _ _ _ _ hs1',Sem.run_bind,Sem.run_pure]
  erw [hr]
  simp [Addr.add]
theorem wy {S E:TypeId}{m bytes n:Nat}{x y:Operand}{it:TypeInfo}{z:Value}(hS:P.underlying S=some (.slice E))(hi:P.info? E=some it)(hz:it.zero=some z)(hsz:it.size=m)(hby:it.bytes=bytes)(hzs:z.cells.size=m)(hm0:0<m)(hb6:bytes≤1000)(hB:B≤w0.w.heap.size)(hx:Has R B w0 i x (In 0))(hy:Has R B w0 i y (In n))(hn:n≤17592186044):Wv P Q R B w0 i (.makeSlice S x y) (OwnR w0.w.heap.size E m D []) :=
 bm λ d T ps af gd a w av=>by
  have hbn:bytes*n≤1000*n:=qG _ hb6
  have hm:=run_make (P:=P) w S E it z hS hi hz .i64 .i64 0 n zo zo (by
   have h6:((it.bytes*n:Nat):Int)≤281474976710656:=by rw [hby]; omega
   rwa [xD] at h6) zo
  have e1:=bo (hx a w av)
  have e2:=bo (hy a w av)
  refine ⟨.slice (some ⟨w.heap.size,0,none⟩) 0 n,w.alloc (.cells (madeCells z.cells (n*it.size)) E),?_,Grow.alloc _ _,(λ A hA=>by cases hA),(λ A hA=>by cases hA),[],⟨[],rfl,.nil⟩,by simp,.inr ⟨w.heap.size,n,madeCells z.cells (n*it.size),rfl,av.base.size,by simpa using heap_alloc_new w _,za _,by unfold maxLen; omega,?_,by simp⟩⟩
  ·simp only [zH] at hm
   simp [execOp,e1,e2,hm]
  ·rw [hsz]
   simp [madeCells]
end
open Rg in
theorem Ch {Q:Exit→Act→World→Prop}{B N:Nat}{id:Nat}{ops:Array Oper}{sp:List Sp}(n:Nat)(src:List Nat)(i1 i2:Nat){S E T1 T2 T3 T4 T5:TypeId}{s u d e f c0 c1 c2 m bytes:Nat}{ps1 ps2 ps3 ps4 ps5:String}{af1 af2 af3 af4 af5:Array Edge}{D D':List TypeId}{l:List As}{x:As}{A2 X:VA}{it:TypeInfo}{z:Value}
  (h:St B w0 N Γ Λ a w) (hob:Obs P Q ⟨ops,N,Γ,lesN Λ,sp,λ i=>List.range i⟩ B w0 0 n) (hn2:ops.size=n+5) (hk:Rg.chk ⟨ops,N,Γ,lesN Λ,sp,λ i=>List.range i⟩=true)
  (ho1:ops[n]?=some ⟨some d,.call ⟨.builtin .append,#[.tmp s,.tmp u],#[S,S]⟩,T1,ps1,af1,none⟩) (ho2:ops[n+1]?=some ⟨some c1,.move (.tmp c0),T2,ps2,af2,none⟩)
  (ho3:ops[n+2]?=some ⟨some c2,.call ⟨.builtin .len,#[.tmp c1],#[S]⟩,T3,ps3,af3,none⟩) (ho4:ops[n+3]?=some ⟨some f,.slice S (.tmp d) none (some (.tmp c2)) none,T4,ps4,af4,none⟩) (ho5:ops[n+4]?=some ⟨some e,.assign (.tmp f),T5,ps5,af5,none⟩)
  (kx:Nat) (hkx:Γ[kx]?=some (c0,X)) (hX:∀ B u w,X.p B u w→∃ A c,u=.slice A l.length c) (hXo:Rg.outG ⟨ops,N,Γ,lesN Λ,sp,λ i=>List.range i⟩ c0=true)
  (hi1:i1<n) (h1:sp[i1]?=some (.v s (OwnR w0.w.heap.size E m D l))) (hi2:i2<n) (h2:sp[i2]?=some (.v u A2)) (hA2:∀ w u,A2.p B u w→Kept w0 w→(SlA E D' [x]).va.p B u w)
  (hS:P.underlying S=some (.slice E)) (hi:P.info? E=some it) (hz:it.zero=some z) (hsz:it.size=m) (hby:it.bytes=bytes) (hzs:z.cells.size=m) (hm0:0<m) (hl:l.length+1≤100000000000) (hb6:bytes≤1000)
  (hD':∀ T∈D',T∈D) (hED:E ∉ D) (hxm:x.n=m) (hnd:decide ([d,c1,c2,f,e,c0].Nodup)=true) (hd:d<N) (he:e<N) (hc1:c1<N) (hc2:c2<N) (hf:f<N)
  (hsrc:src.all (λ k=>match Γ[k]? with | some y => !y.2.deps.contains E&&Rg.outG ⟨ops,N,Γ,lesN Λ,sp,λ i=>List.range i⟩ y.1 | none=>false)=true)
  (hΛ:Λ.all (λ l=>l.T != E && !l.A.deps.contains E&&l.s != d&&l.s != e&&l.s != c1&&l.s != c2&&l.s != f)=true)
  (hQ:∀ a w,St B w0 N ((e,TwS E m D l x)::src.filterMap (λ k=>Γ[k]?)) Λ a w→Q .normal a w):(Code.region id ops false).wp P Q a w:=by
 have hles0:∀ y∈lesN Λ,y.cr=none∧y.st=none∧(⟨y.s,y.T,y.H,y.A0⟩:Lc)∈Λ:=λ y hy=>by
  obtain ⟨l',hl',rfl⟩:=qm.1 hy
  exact ⟨rfl,rfl,hl'⟩
 refine Rg.linK (R:=⟨ops,N,Γ,lesN Λ,sp,λ i=>List.range i⟩) (m:=5) hn2 G hk h (λ y hy _=>(hles0 y hy).2.2) (λ i hi=>hob.all i zo zo) λ a1 w1 hinv=>?_
 have hcl:∀ deps,Rg.clash ⟨ops,N,Γ,lesN Λ,sp,λ i=>List.range i⟩ (λ k=>decide (k<n)) deps=false:=λ deps=>by
  unfold Rg.clash
  rw [xb]
  intro y hy
  rw [(hles0 y hy).2.1]
  simp
 have hv:=hinv.v i1 _ s _ h1 rfl (qP hi1) (hcl _)
 have hu:=hA2 _ _ (hinv.v i2 _ u _ h2 rfl (qP hi2) (hcl _)) hinv.base
 have hB:B≤w0.w.heap.size:=hinv.lo _ (.inl (qg _))
 obtain ⟨v',w',hr,r1,r2,r3⟩:=ga (xs:=[x]) (T1:=T1) hS hi hz hsz hby hzs hm0 (by simpa using hl) hb6 hv hu hD' hED (λ y hy=>by simp at hy; subst hy; exact hxm) hinv.base.size hB
 have hnd':=qt hnd
 simp only [jH,qo,z6,or_false,not_or,xK,and_true,not_false_iff] at hnd'
 obtain ⟨⟨n1,n2,n3,n4,n5⟩,⟨n6,n7,n8,n9⟩,⟨n10,n11,n12⟩,⟨n13,n14⟩,n15⟩:=hnd'
 have hgc:∀ q,q<ops.size→Rg.dst ⟨ops,N,Γ,lesN Λ,sp,λ i=>List.range i⟩ q≠some c0:=λ q hq=>by
  have:=qc.1 hXo q (by simpa using hq)
  simpa using this
 obtain ⟨Ax,cx,ex⟩:=hX _ _ _ (hinv.g (c0,X) (qa hkx) (λ q hq hdq=>absurd hdq (hgc q hq)) (hcl _))
 obtain ⟨q1,q2,ds,q3,q4,q5⟩:=r1
 rcases q5 with ⟨_,q5⟩ | ⟨g,cap,cur,e1,e2,e3,e4,e5,e6,e7⟩
 ·simp at q5
 rw [qn,xf] at e1 e4
 subst e1
 have hsza:a1.tmps.size=N:=hinv.size
 obtain ⟨a2,ha2⟩:∃ a2,a2=a1.put (some d) (.slice (some ⟨g,0,none⟩) (l.length+1) cap):=⟨_,rfl⟩
 obtain ⟨a3,ha3⟩:∃ a3,a3=a2.put (some c1) (.slice Ax l.length cx):=⟨_,rfl⟩
 obtain ⟨a4,ha4⟩:∃ a4,a4=a3.put (some c2) (.int .i64 (l.length:Int)):=⟨_,rfl⟩
 obtain ⟨a5,ha5⟩:∃ a5,a5=a4.put (some f) (.slice (some ⟨g,0,none⟩) l.length cap):=⟨_,rfl⟩
 obtain ⟨a6,ha6⟩:∃ a6,a6=a5.put (some e) (.slice (some ⟨g,0,none⟩) l.length cap):=⟨_,rfl⟩
 have s2:a2.tmps.size=N:=by rw [ha2,bt]; exact hsza
 have s3:a3.tmps.size=N:=by rw [ha3,bt]; exact s2
 have s4:a4.tmps.size=N:=by rw [ha4,bt]; exact s3
 have s5:a5.tmps.size=N:=by rw [ha5,bt]; exact s4
 have s6:a6.tmps.size=N:=by rw [ha6,bt]; exact s5
 have hE:P.elem S=E:=by simp [Program.elem,hS]
 have hs1':P.underlying S=some (.slice (P.elem S)):=by rw [hE]; exact hS
 have hszo:∀ w,(sizeOf E).run P w=.ok m w:=λ w=>by simp [sizeOf,typeInfo,hi,hsz]
 rw [List.range'_succ,qv]
 refine bu (R:=⟨ops,N,Γ,lesN Λ,sp,λ i=>List.range i⟩) ho1 G (bc (w':=w') (v:=.slice (some ⟨g,0,none⟩) (l.length+1) cap) (by simp [execOp,resolve,invoke,builtin,hr,Result.andThen]) ?_)
 show wpOps P ops Q _ (a1.put (some d) _) w'
 rw [← ha2]
 rw [List.range'_succ,qv]
 refine bu (R:=⟨ops,N,Γ,lesN Λ,sp,λ i=>List.range i⟩) ho2 G (bc (w':=w') (v:=.slice Ax l.length cx) (by
  have:a2.eval (.tmp c0)=.slice Ax l.length cx:=by rw [ha2,ai _ _ _ _ (λ h=>n5 h.symm)]; exact ex
  simp [execOp,this]) ?_)
 show wpOps P ops Q _ (a2.put (some c1) _) w'
 rw [← ha3]
 rw [List.range'_succ,qv]
 refine bu (R:=⟨ops,N,Γ,lesN Λ,sp,λ i=>List.range i⟩) ho3 G (bc (w':=w') (v:=.int .i64 (l.length:Int)) (by
  have:a3.eval (.tmp c1)=.slice Ax l.length cx:=by rw [ha3]; exact aG _ _ _ (by rw [s2]; exact hc1)
  simp [execOp,resolve,invoke,builtin,this,Builtin.len_,run_underlying hS,goInt]) ?_)
 show wpOps P ops Q _ (a3.put (some c2) _) w'
 rw [← ha4]
 have d4:a4.eval (.tmp d)=.slice (some ⟨g,0,none⟩) (l.length+1) cap:=by rw [ha4,ai _ _ _ _ n2,ha3,ai _ _ _ _ n1,ha2]; exact aG _ _ _ (by rw [hsza]; exact hd)
 have c4:a4.eval (.tmp c2)=.int .i64 (l.length:Int):=by rw [ha4]; exact aG _ _ _ (by rw [s3]; exact hc2)
 rw [List.range'_succ,qv]
 refine bu (R:=⟨ops,N,Γ,lesN Λ,sp,λ i=>List.range i⟩) ho4 G (bc (w':=w') (v:=.slice (some ⟨g,0,none⟩) l.length cap) (by
  have hr2:=run_slice_h (P:=P) w' S (some ⟨g,0,none⟩) (l.length+1) cap hs1' .i64 (l.length:Int) zo zo
  rw [hE,hszo] at hr2
  have hne:¬ cap=0:=by omega
  simp only [Result.andThen_ok,sliced,zH,hne,if_false,jy,qH,je] at hr2
  simp only [execOp,d4,c4,qH,run_sliceAt_slice _ _ _ _ _ _ hs1',Sem.run_bind,Sem.run_pure]
  erw [hr2]
  simp [Addr.add]) ?_)
 show wpOps P ops Q _ (a4.put (some f) _) w'
 rw [← ha5]
 rw [List.range'_succ,qv]
 refine bu (R:=⟨ops,N,Γ,lesN Λ,sp,λ i=>List.range i⟩) ho5 G (bc (w':=w') (v:=.slice (some ⟨g,0,none⟩) l.length cap) ?_ ?_)
 ·have:a5.eval (.tmp f)=.slice (some ⟨g,0,none⟩) l.length cap:=by rw [ha5]; exact aG _ _ _ (by rw [s4]; exact hf)
  simp [execOp,this]
 show wpOps P ops Q _ (a5.put (some e) _) w'
 rw [← ha6]
 refine hQ _ _ ?_
 have hother:∀ t,t≠d→t≠c1→t≠c2→t≠f→t≠e→a6.eval (.tmp t)=a1.eval (.tmp t):=λ t h1 h2 h3 h4 h5=>by
  rw [ha6,ai _ _ _ _ h5,ha5,ai _ _ _ _ h4,ha4,ai _ _ _ _ h3,ha3,ai _ _ _ _ h2,ha2,ai _ _ _ _ h1]
 have hdf:a6.defers=a1.defers:=by rw [ha6,ha5,ha4,ha3,ha2]; rfl
 have hlc:∀ l'∈Λ,l'.T≠E∧E ∉ l'.A.deps∧a6.eval (.tmp l'.s)=a1.eval (.tmp l'.s):=λ l' hl'=>by
  have:=qc.1 hΛ l' hl'
  simp only [qj,bne_iff_ne,qz,qy,qu] at this
  exact ⟨this.1.1.1.1.1.1,this.1.1.1.1.1.2,hother _ this.1.1.1.1.2 this.1.1.2 this.1.2 this.2 this.1.1.1.2⟩
 have hcur:∀ l'∈Λ,(⟨l'.s,l'.T,l'.H,none,l'.A,none⟩:Le)∈lesN Λ:=λ l' hl'=>qm.2 ⟨l',hl',rfl⟩
 refine ⟨hinv.lo,hinv.defers.grown r2 r3 hdf,s6,?_,?_,?_,?_⟩
 ·exact ⟨r2.os.trans hinv.base.os,r2.tape.trans hinv.base.tape,r2.output.trans hinv.base.output,qd hinv.base.size r2.size,λ k hk hf =>
   (r2.block k (qE hk hinv.base.size) (λ e=>by have:=(r3 k e.symm).1; omega)).trans (hinv.base.block k hk hf)⟩
 ·intro y hy
  rcases qo.1 hy with rfl | hy
  ·show (TwS E m D l x).p B (a6.eval (.tmp e)) w'
   rw [ha6,aG _ _ _ (by rw [s5]; exact he)]
   exact ⟨g,cap,rfl,qd hB e2,q1,q2,ds,q3,q4,.inr ⟨g,cap,cur,by rw [qn]; rfl,za _,e3,by rw [qn]; exact e4,e5,e6,e7⟩⟩
  ·obtain ⟨k,hk1,hk2⟩:=qJ.1 hy
   have hs:=qc.1 hsrc k hk1
   simp only [hk2,qj,qz,qy,qu] at hs
   have hout:∀ q,q<ops.size→Rg.dst ⟨ops,N,Γ,lesN Λ,sp,λ i=>List.range i⟩ q≠some y.1:=λ q hq=>by
    have:=qc.1 hs.2 q (by simpa using hq)
    simpa using this
   rw [hother _ (λ e1=>hout n zo (by unfold Rg.dst; rw [ho1,e1]; rfl)) (λ e1=>hout (n+1) zo (by unfold Rg.dst; rw [ho2,e1]; rfl)) (λ e1=>hout (n+2) zo (by unfold Rg.dst; rw [ho3,e1]; rfl)) (λ e1=>hout (n+3) zo (by unfold Rg.dst; rw [ho4,e1]; rfl)) (λ e1=>hout (n+4) zo (by unfold Rg.dst; rw [ho5,e1]; rfl))]
   exact VA.grown (hinv.g y (qa hk2) (λ q hq hdq=>absurd hdq (hout q hq)) (hcl _)) r2 r3 hB hs.1
 ·intro l' hl'
  obtain ⟨g1,g2,g3⟩:=hlc l' hl'
  obtain ⟨g,cs,e1,e2,e3,e4⟩:=hinv.c _ (hcur l' hl') l'.A rfl
  refine ⟨g,cs,by rw [g3]; exact e1,e2,?_,As.grown e4 r2 r3 hB g2⟩
  rw [r2.block g (Array.getElem?_eq_some_iff.1 e3).1 (λ e5=>by
   obtain ⟨_,c,fz,e6⟩:=r3 g e5.symm
   rw [e3] at e6
   injection e6 with e6
   injection e6 with _ e6 _
   exact g1 e6)]
  exact e3
 ·intro l1 hl1 l2 hl2 hne'
  rw [(hlc l1 hl1).2.2,(hlc l2 hl2).2.2]
  exact hinv.x _ (hcur l1 hl1) _ (hcur l2 hl2) hne' G rfl
theorem row_nx {α:Type}{f:α→As}{xs:List α}{j:Nat}(h:j<xs.length):(xs.take j).map f++[f xs[j]]=(xs.take (j+1)).map f:=by
 rw [qx h,zF]
 rfl
theorem te (x:RF):FreeA (RFT x) (RFT x):=bZ (.cons (o8 _) (.cons (o8 _) .nil))
theorem sP {p:As→Prop}{l:List As}{z:As}(h1:∀ A∈l,p A)(h2:p z):∀ A∈l++[z],p A:=λ A hA=>by
 rcases qw.1 hA with hA | hA
 ·exact h1 A hA
 ·obtain rfl:=qq.1 hA
  exact h2
theorem cz {α:Type}{p:As→Prop}{f:α→As}{xs:List α}(h:∀ x,p (f x)):∀ A∈xs.map f,p A:=λ A hA=>by
 obtain ⟨x,_,rfl⟩:=qm.1 hA
 exact h x
theorem iJ {α:Type}{f k:α→As}(h:∀ x,WkA (f x) (k x)):∀ {xs:List α},All2 WkA (xs.map f) (xs.map k)
 | []=>.nil
 | x::xs=>.cons (h x) (iJ h)
theorem tf:FreeA (MgA []) (MgA []):=⟨rfl,rfl,λ B B' cs w hB ⟨ok,hD,A,c,ds,h0,h1,h2,⟨ps,h3,h4⟩,h5⟩=>⟨ok,hD,A,c,ds,h0,h1,h2,by cases h4; exact ⟨[],h3,.nil⟩,λ h=>absurd h zd⟩⟩
theorem HI {α β:Type}{f:α→β}{xs:List α}(h:xs.length<4611686018427387903):IntKind.i64.wrap (((xs.map f).length:Int)+1)=((xs.length+1:Nat):Int):=by rw [qi]; exact aW zo
theorem sl_len {E:TypeId}{l:List As}{p:Prop}:∀ B u w,(SlO E D l p).va.p B u w→∃ A c,u=.slice A l.length c:=λ B u w ⟨cs,⟨_,_,A,c,ds,h0,_⟩,hv⟩=>by
 subst h0
 exact ⟨A,c,hv⟩
theorem G8 {α β:Type}{f:α→As}{k:β→As}{xs:List α}{ys:List β}{c:Nat}(h:(((((xs.map f).length:Nat):Int) != (((ys.map k).length:Nat):Int)) || decide ((c:Int)≤(((ys.map k).length:Nat):Int)))=false):xs.length=ys.length:=by
 simp only [qN,qi,bne_eq_false_iff_eq] at h
 have:=h.1
 omega
theorem G7 {α:Type}[DecidableEq α]{f k:α→As}{xs ys:List α}{c:Nat}(hc:xs.length+1≤c)(h:(((((xs.map f).length:Nat):Int) != (((ys.map k).length:Nat):Int)) || decide ((c:Int)≤(((ys.map k).length:Nat):Int)))=true):false=decide (xs=ys):=by
 symm
 apply zP
 rintro rfl
 simp at h
 omega
theorem B5 {α:Type}[DecidableEq α]{xs ys:List α}{j:Nat}(h2:j<ys.length)(h1:j<xs.length)(ht:xs.take j=ys.take j)(h:(!decide (xs[j]=ys[j]))=false):xs.take (j+1)=ys.take (j+1):=by
 rw [qx h1,qx h2,ht]
 simp at h
 rw [h]
theorem B4 {α:Type}[DecidableEq α]{xs ys:List α}{j:Nat}(h2:j<ys.length)(h1:j<xs.length)(h:(!decide (xs[j]=ys[j]))=true):false=decide (xs=ys):=by
 symm
 apply zP
 rintro rfl
 simp at h
end Go.Proofs.YtkpifdpdeanjfaaGreatDoor
