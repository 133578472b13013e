import Derived.Test.YtlpppkkggljdcaaGreatTcAa
import Derived.Test.YtlpppkkggljdcaaGreatTcAc
import Derived.Test.YtlpppkkggljdcaaGreatTcAo
set_option linter.unusedVariables false
set_option linter.unusedSimpArgs false
set_option linter.unusedSectionVars false
set_option maxRecDepth 100000
namespace Go.Proofs.YtlpppkkggljdcaaGreat
open Go Go.RowKit
def EqA (v:Value):As where
 n:=1
 ag:=false
 p _ cs _:=cs=[v]∧v.oneCell'=true
 deps:=[]
 len:=by rintro B cs w ⟨rfl,_⟩; rfl
 one:=by rintro B cs w ⟨rfl,h⟩ c hc; simp at hc; subst hc; exact h
 ag1:=fun _=>rfl
 cg:=fun _ _ _ _ _ h=>h
 wr:=fun _ _ _ _ _ _ _ _ _ _ _ _ h=>h
theorem va_eqA {v:Value}(h:v.oneCell'=true){B:Nat}{w:World}:(EqA v).va.p B v w:=⟨[v],⟨rfl,h⟩,rfl⟩
theorem eqA_va {v u:Value}{B:Nat}{w:World}(h:(EqA v).va.p B u w):u=v:=by
 obtain ⟨cs,⟨rfl,_⟩,h2⟩:=h
 exact h2
theorem St.nm {B N:Nat}{w0:Bs}{Γ:List (Nat × VA)}{Λ:List Lc}{a:Act}{w:World}(h:St B w0 N Γ Λ a w){s T:Nat}{A:As}(k:Nat)(hm:Λ[k]?=some ⟨s,T,ptrH,A⟩):∃ g,St B w0 N ((s,EqV (ptr g))::Γ) Λ a w:=by
 obtain ⟨g,cs,e,_⟩:=h.locs _ (List.mem_of_getElem? hm)
 refine ⟨g,h.lo,h.defers,h.size,h.base,fun x hx=>?_,h.locs,h.dis⟩
 rcases List.mem_cons.1 hx with rfl | hx
 ·exact e
 ·exact h.vals x hx
section
variable {P:Program} {R:Rg} {Q:Exit→Act→World→Prop} {B i:Nat} {w0:Bs}
theorem eqs_all {xs:List Operand}{vs:List Value}(hx:HasL R B w0 i xs (vs.map EqV)){a:Act}{w:World}(av:R.Av B w0 i a w):xs.map a.eval=vs:=by
 induction vs generalizing xs with
 | nil=>cases hx; rfl
 | cons v vs ih =>
  cases hx with
  | cons h1 h2 =>
   rw [List.map_cons,ih h2]
   have:_=v:=h1 a w av
   rw [this]
theorem zde {f:FuncId}{xs:List Operand}{vs:List Value}(hx:HasL R B w0 i xs (vs.map EqV)):Wv P Q R B w0 i (.makeFunc (.func f) #[] xs.toArray) (EqA (.func (.func f) #[] vs.toArray)).va :=
 zbk fun _ _ _ _ _ a w av=>by
  have e:=eqs_all hx av
  refine ⟨.func (.func f) #[] vs.toArray,w,?_,Grow.refl w,va_eqA rfl⟩
  simp [execOp,Instr.makeFunc,e]
theorem zgz {f:FuncId}:Has R B w0 i (.func f) (EqA (.func (.func f) #[] #[])).va:=fun _ _ _=>va_eqA rfl
theorem zhz {d s e c:Nat}{T:TypeId}{H:Hd}{cr:Option Nat}{A0 A1:As}{A:VA}{f:FuncId}{xs:List Operand}{vs:List Value}{pre:List Ar}{at_:Array TypeId}{ty:TypeId}{ps:String}{af:Array Edge}
  (hs:R.sp[i]?=some (.cal d A e)) (he:R.les[e]?=some ⟨s,T,H,cr,A0,some (i,A1)⟩) (ho:R.ops[i]?=some ⟨some d,.call ⟨.value (.tmp c),#[],at_⟩,ty,ps,af,none⟩)
  (hc:Cm P f T A0 A1 pre A) (hv:Has R B w0 i (.tmp c) (EqA (.func (.func f) #[] vs.toArray)).va) (hvs:HasL R B w0 i xs (vs.map EqV)) (hx:All2 (ArH R B w0 i s H) pre xs):R.Ob P Q B w0 i:=by
 unfold Rg.Ob
 simp only [hs,he]
 intro a w av g cs h1 hB h3 h4 _ K hK
 obtain ⟨⟨fn,hf,hn,hb2⟩,hcall⟩:=hc
 have ev:a.eval (.tmp c)=.func (.func f) #[] vs.toArray:=eqA_va (hv a w av)
 have evs:=eqs_all hvs av
 have hrun:(execOp a.eval ⟨some d,.call ⟨.value (.tmp c),#[],at_⟩,ty,ps,af,none⟩).run P w=.ok (.enter f (xs.map a.eval).toArray) w:=by
  simp only [execOp,resolve,ev,Deferred.ofValue,Sem.run_bind,Sem.run_pure,Result.andThen_ok,invoke,zbm hf hn hb2,evs]
  simp
 refine zbg ho rfl ?_
 unfold Oper.wp
 rw [hrun]
 refine (hcall B w g cs _ hB h3 h4 ?_).mono fun e w' ⟨v,cs',he,hv,hg,h5,h6⟩=>by subst he; exact hK v cs' w' hg h5 h6 hv
 clear hcall hrun ho hs he hvs evs
 induction hx with
 | nil=>exact .nil
 | @cons x y _ _ h _ ih =>
  refine .cons ?_ ih
  cases x with
  | v A=>exact h a w av
  | w H' =>
   obtain ⟨rfl,h2⟩:=h
   exact (h2 a w av).trans h1
end
structure RE where
 k:Int
 p:RF
 q:RF
 deriving DecidableEq
def REA (x:RE):As:=cat [NumA .u8 x.k,RFA x.p,RFA x.q]
def QEA (c:Nat)(k:Int)(p q:Rat):As:=cat [NumA .u8 k,QA c p,QA c q]
abbrev NfA:As:=EqA .nilFunc
theorem zd8:Str Tryz.prog 62 [NumA .u8 0,RFA rf0,RFA rf0] :=
 Str.of (z:=.agg #[.int .u8 0,.bool false,.slice none 0 0,.bool false,.slice none 0 0,.bool false,.slice none 0 0,.bool false,.slice none 0 0]) zk Tryz.underlying62 zk fun B w=>⟨[[.int .u8 0],[.bool false,.slice none 0 0,.bool false,.slice none 0 0],[.bool false,.slice none 0 0,.bool false,.slice none 0 0]],rfl,.cons rfl (.cons (zhv B w) (.cons (zhv B w) .nil))⟩
theorem ze3:Arr Tryz.prog 141 [NfA,NfA,NfA,NfA,NfA,NfA]:=by
 have hz:((Tryz.prog.info? 141).bind (·.zero))=some (.agg #[.nilFunc,.nilFunc,.nilFunc,.nilFunc,.nilFunc,.nilFunc]):=by kernel_rfl
 obtain ⟨it,e1,e2⟩:=Option.bind_eq_some_iff.1 hz
 have h:(Tryz.prog.info? 1).map (·.size)=some 1:=by kernel_rfl
 obtain ⟨ie,h1,h2⟩:∃ ie,Tryz.prog.info? 1=some ie∧ie.size=1:=by
  cases hi:Tryz.prog.info? 1 with
  | none=>rw [hi] at h; simp at h
  | some ie=>rw [hi] at h; exact ⟨ie,rfl,by simpa using h⟩
 refine ⟨it,_,6,1,ie,e1,e2,Tryz.underlying141,h1,?_,fun B w=>⟨[[.nilFunc],[.nilFunc],[.nilFunc],[.nilFunc],[.nilFunc],[.nilFunc]],rfl,(.cons ⟨rfl,rfl⟩ (.cons ⟨rfl,rfl⟩ (.cons ⟨rfl,rfl⟩ (.cons ⟨rfl,rfl⟩ (.cons ⟨rfl,rfl⟩ (.cons ⟨rfl,rfl⟩ .nil))))))⟩⟩
 rw [h2]
 intro f hf
 match f,hf with
 | 0,_=>rfl
 | 1,_=>rfl
 | 2,_=>rfl
 | 3,_=>rfl
 | 4,_=>rfl
 | 5,_=>rfl
theorem zd2 {c:Nat}{x:Rat}(hc:c≤137438953472):Cn Tryz.prog 124 [Qs c x] (Qs (2+c+1) (0-x)):=by
 refine Cn.intro Tryz.func124 rfl zk nq (fun B w0 a hst=>?_)
 have hst:St B w0 6 [(0,Qs c x)] [] a w0.w:=hst
 refine wp_seq ?_
 refine gl (sts:=[]) (news:=[⟨1,37,ptrH,some 0,_,none⟩,⟨2,37,ptrH,some 1,_,none⟩]) (sp:=[.alc 0,.alc 1]) [] hst (oc (zan rfl rfl rfl (gq 0 rfl)) (oc (zap rfl rfl rfl (Str.zero zb9)) o0)) (fun a w hst=>?_)
 have hst:St B w0 6 [] [⟨1,37,ptrH,_⟩,⟨2,37,ptrH,_⟩] a w:=hst
 refine zt<|zaz (anc:=[[],[],[0,1],[0,1,2]]) (sts:=[none,some (3,_)]) (news:=[]) (sp:=[.val 3 _,.val 4 _,.val 5 _,.sto 1]) [] za6 hst (zv rfl (za5 (xs:=[]) zjs .nil) (zv rfl (zaq (lz0 0 rfl) zao) (zv rfl (za5 (xs:=[.tmp 3,.tmp 4]) (minus_q zo) (.cons (vq 0 rfl) (.cons (vq 1 rfl) .nil))) (oc (zaf rfl rfl rfl (vq 2 rfl) zao (Eq.trans (b:=4) rfl rfl)) o0)))) zk zk zk zk (fun a w hst=>?_)
 have hst:St B w0 6 [] [⟨1,37,ptrH,_⟩,⟨2,37,ptrH,_⟩] a w:=hst
 refine za0 ?_
 refine wp_ret ?_
 refine zai ?_ (zam rfl hst (zm 1 rfl) zao)
 exact zb6
theorem zkp {c:Nat}{m:MQ}(hc:c≤137438953472):Cn Tryz.prog 129 [(QMA c m).va] ((QMA (2+c+1) ⟨0-m.a,0-m.b,0-m.c,0-m.d⟩).va):=by
 refine Cn.intro Tryz.func129 rfl zk nq (fun B w0 a hst=>?_)
 have hst:St B w0 16 [(0,(QMA c m).va)] [] a w0.w:=hst
 refine wp_seq ?_
 refine gl (sts:=[]) (news:=[⟨1,56,ptrH,some 0,_,none⟩,⟨2,56,ptrH,some 1,_,none⟩]) (sp:=[.alc 0,.alc 1]) [] hst (oc (zan rfl rfl rfl (gq 0 rfl)) (oc (zap rfl rfl rfl (Str.zero zbn)) o0)) (fun a w hst=>?_)
 have hst:St B w0 16 [] [⟨1,56,ptrH,_⟩,⟨2,56,ptrH,_⟩] a w:=hst
 refine zt<|zaz (anc:=[[],[0],[0,1],[],[3],[0,1,2,3,4],[],[6],[0,1,2,3,4,5,6,7],[],[9],[0,1,2,3,4,5,6,7,8,9,10],[0,1,2,3,4,5,6,7,8,9,10,11],[0,1,2,3,4,5,6,7,8,9,10,11,12]]) (sts:=[none,some (13,_)]) (news:=[]) (sp:=[.adr 3 1 (.some 0) True,.val 4 _,.val 5 _,.adr 6 1 (.some 4) True,.val 7 _,.val 8 _,.adr 9 1 (.some 8) True,.val 10 _,.val 11 _,.adr 12 1 (.some 12) True,.val 13 _,.val 14 _,.val 15 _,.sto 1]) [] za6 hst (oc (ob_a rfl rfl (za7 (lz0 0 rfl) zfl)) (zv rfl (za4 0 rfl zk trivial (lz0 0 rfl) (Sub.part 0 rfl rfl) zao) (zv rfl (za5 (xs:=[.tmp 4]) (zd2 zo) (.cons (vq 1 rfl) .nil)) (oc (ob_a rfl rfl (za7 (lz0 0 rfl) zem)) (zv rfl (za4 3 rfl zk trivial (lz0 0 rfl) (Sub.part 1 rfl rfl) zao) (zv rfl (za5 (xs:=[.tmp 7]) (zd2 zo) (.cons (vq 4 rfl) .nil)) (oc (ob_a rfl rfl (za7 (lz0 0 rfl) zel)) (zv rfl (za4 6 rfl zk trivial (lz0 0 rfl) (Sub.part 2 rfl rfl) zao) (zv rfl (za5 (xs:=[.tmp 10]) (zd2 zo) (.cons (vq 7 rfl) .nil)) (oc (ob_a rfl rfl (za7 (lz0 0 rfl) zfk)) (zv rfl (za4 9 rfl zk trivial (lz0 0 rfl) (Sub.part 3 rfl rfl) zao) (zv rfl (za5 (xs:=[.tmp 13]) (zd2 zo) (.cons (vq 10 rfl) .nil)) (zv rfl (zbb (xs:=[(0,.tmp 5),(1,.tmp 8),(2,.tmp 11),(3,.tmp 14)]) (qs:=[(0,_),(1,_),(2,_),(3,_)]) zbn (.cons ⟨rfl,(vq 2 rfl),rfl⟩ (.cons ⟨rfl,(vq 5 rfl),rfl⟩ (.cons ⟨rfl,(vq 8 rfl),rfl⟩ (.cons ⟨rfl,(vq 11 rfl),rfl⟩ .nil))))) (oc (zaf rfl rfl rfl (vq 12 rfl) zco (Eq.trans (b:=16) rfl rfl)) o0)))))))))))))) zk zk zk zk (fun a w hst=>?_)
 have hst:St B w0 16 [] [⟨1,56,ptrH,_⟩,⟨2,56,ptrH,_⟩] a w:=hst
 refine za0 ?_
 refine wp_ret ?_
 refine zai ?_ (zam rfl hst (zm 1 rfl) zco)
 exact zb6
theorem rowOf2_c {p q:Rat}{kd:Int}  : Cm Tryz.prog 122 56 (QMA 2 ⟨1,0,0,1⟩) (cat [QA 2 1,QA 2048 p,QA 2 0,QA 2 1]) [.v ((ElP 62 (QEA 2048 kd p q))),.w (ptrH)] (Tu []):=by
 refine Cm.introK 1 Tryz.func122 rfl zk nq (fun g=>zm 1 rfl) (fun B g w0 a hst=>?_)
 have hst:St B w0 6 [(0,(ElP 62 (QEA 2048 kd p q))),(1,EqV ((ptrH).f g))] [⟨1,56,ptrH,QMA 2 ⟨1,0,0,1⟩⟩] a w0.w:=hst
 refine gl (sts:=[some (4,_)]) (news:=[]) (sp:=[.val 2 _,.val 3 _,.val 4 _,.adr 5 1 (.some 4) True,.sto 0]) [.g 1] hst (zv rfl (zd9 (gq 0 rfl) zdb (Sub.part 1 rfl rfl)) (zv rfl (zav (vq 0 rfl) zao) (zv rfl (za5 (xs:=[.tmp 3]) (copy_q zo) (.cons (vq 1 rfl) .nil)) (oc (ob_a rfl rfl (za7 (lz0 0 rfl) zem)) (oc (zft 3 rfl rfl rfl rfl zk (vq 2 rfl) zao (Put.part 1 rfl rfl rfl)) o0))))) (fun a w hst=>?_)
 have hst:St B w0 6 [(1,_)] [⟨1,56,ptrH,_⟩] a w:=hst
 refine zgx ?_
 refine zhw hst (zm 0 rfl) (zm 0 rfl) ?_
 refine zai ?_ (zbi (rs:=[]) rfl hst .nil zd)
 exact zb6
theorem rowOf3_c {p q:Rat}{kd:Int}  : Cm Tryz.prog 123 56 (QMA 2 ⟨1,0,0,1⟩) (cat [QA 2 1,QA 2 0,QA 2051 (0-p),QA 2 1]) [.v ((ElP 62 (QEA 2048 kd p q))),.w (ptrH)] (Tu []):=by
 refine Cm.introK 1 Tryz.func123 rfl zk nq (fun g=>zm 1 rfl) (fun B g w0 a hst=>?_)
 have hst:St B w0 6 [(0,(ElP 62 (QEA 2048 kd p q))),(1,EqV ((ptrH).f g))] [⟨1,56,ptrH,QMA 2 ⟨1,0,0,1⟩⟩] a w0.w:=hst
 refine gl (sts:=[some (4,_)]) (news:=[]) (sp:=[.val 2 _,.val 3 _,.val 4 _,.adr 5 1 (.some 8) True,.sto 0]) [.g 1] hst (zv rfl (zd9 (gq 0 rfl) zdb (Sub.part 1 rfl rfl)) (zv rfl (zav (vq 0 rfl) zao) (zv rfl (za5 (xs:=[.tmp 3]) (zd2 zo) (.cons (vq 1 rfl) .nil)) (oc (ob_a rfl rfl (za7 (lz0 0 rfl) zel)) (oc (zft 3 rfl rfl rfl rfl zk (vq 2 rfl) zao (Put.part 2 rfl rfl rfl)) o0))))) (fun a w hst=>?_)
 have hst:St B w0 6 [(1,_)] [⟨1,56,ptrH,_⟩] a w:=hst
 refine zgx ?_
 refine zhw hst (zm 0 rfl) (zm 0 rfl) ?_
 refine zai ?_ (zbi (rs:=[]) rfl hst .nil zd)
 exact zb6
theorem rowOf4_c {p q:Rat}{kd:Int}(h0:q≠0):Cm Tryz.prog 125 56 (QMA 2 ⟨1,0,0,1⟩) (cat [QA 2 1,QA 4096 (p/q),QA 2 0,QA 2 1]) [.v ((ElP 62 (QEA 2048 kd p q))),.w (ptrH)] (Tu []):=by
 refine Cm.introK 1 Tryz.func125 rfl zk nq (fun g=>zm 1 rfl) (fun B g w0 a hst=>?_)
 have hst:St B w0 8 [(0,(ElP 62 (QEA 2048 kd p q))),(1,EqV ((ptrH).f g))] [⟨1,56,ptrH,QMA 2 ⟨1,0,0,1⟩⟩] a w0.w:=hst
 refine gl (sts:=[some (6,_)]) (news:=[]) (sp:=[.val 2 _,.val 3 _,.val 4 _,.val 5 _,.val 6 _,.adr 7 1 (.some 4) True,.sto 0]) [.g 1] hst (zv rfl (zd9 (gq 0 rfl) zdb (Sub.part 1 rfl rfl)) (zv rfl (zav (vq 0 rfl) zao) (zv rfl (zd9 (gq 0 rfl) zda (Sub.part 2 rfl rfl)) (zv rfl (zav (vq 2 rfl) zao) (zv rfl (za5 (xs:=[.tmp 3,.tmp 5]) (over_q zd h0) (.cons (vq 1 rfl) (.cons (vq 3 rfl) .nil))) (oc (ob_a rfl rfl (za7 (lz0 0 rfl) zem)) (oc (zft 5 rfl rfl rfl rfl zk (vq 4 rfl) zao (Put.part 1 rfl rfl rfl)) o0))))))) (fun a w hst=>?_)
 have hst:St B w0 8 [(1,_)] [⟨1,56,ptrH,_⟩] a w:=hst
 refine zgx ?_
 refine zhw hst (zm 0 rfl) (zm 0 rfl) ?_
 refine zai ?_ (zbi (rs:=[]) rfl hst .nil zd)
 exact zb6
theorem rowOf5_c {p q:Rat}{kd:Int}  : Cm Tryz.prog 127 56 (QMA 2 ⟨1,0,0,1⟩) (cat [QA 2 1,QA 2 0,QA 4099 (0-p*q),QA 2 1]) [.v ((ElP 62 (QEA 2048 kd p q))),.w (ptrH)] (Tu []):=by
 refine Cm.introK 1 Tryz.func127 rfl zk nq (fun g=>zm 1 rfl) (fun B g w0 a hst=>?_)
 have hst:St B w0 9 [(0,(ElP 62 (QEA 2048 kd p q))),(1,EqV ((ptrH).f g))] [⟨1,56,ptrH,QMA 2 ⟨1,0,0,1⟩⟩] a w0.w:=hst
 refine gl (sts:=[some (7,_)]) (news:=[]) (sp:=[.val 2 _,.val 3 _,.val 4 _,.val 5 _,.val 6 _,.val 7 _,.adr 8 1 (.some 8) True,.sto 0]) [.g 1] hst (zv rfl (zd9 (gq 0 rfl) zdb (Sub.part 1 rfl rfl)) (zv rfl (zav (vq 0 rfl) zao) (zv rfl (zd9 (gq 0 rfl) zda (Sub.part 2 rfl rfl)) (zv rfl (zav (vq 2 rfl) zao) (zv rfl (za5 (xs:=[.tmp 3,.tmp 5]) (zjc zo) (.cons (vq 1 rfl) (.cons (vq 3 rfl) .nil))) (zv rfl (za5 (xs:=[.tmp 6]) (zd2 zo) (.cons (vq 4 rfl) .nil)) (oc (ob_a rfl rfl (za7 (lz0 0 rfl) zel)) (oc (zft 6 rfl rfl rfl rfl zk (vq 5 rfl) zao (Put.part 2 rfl rfl rfl)) o0)))))))) (fun a w hst=>?_)
 have hst:St B w0 9 [(1,_)] [⟨1,56,ptrH,_⟩] a w:=hst
 refine zgx ?_
 refine zhw hst (zm 0 rfl) (zm 0 rfl) ?_
 refine zai ?_ (zbi (rs:=[]) rfl hst .nil zd)
 exact zb6
theorem rowOf6_c  : Cm Tryz.prog 128 56 (QMA 2 ⟨1,0,0,1⟩) (QMA 5 ⟨0-1,0-0,0-0,0-1⟩) [.w (ptrH),] (Tu []):=by
 refine Cm.intro Tryz.func128 rfl zk nq (fun B g w0 a hst=>?_)
 have hst:St B w0 3 [(0,EqV ((ptrH).f g)),] [⟨0,56,ptrH,QMA 2 ⟨1,0,0,1⟩⟩] a w0.w:=hst
 refine gl (sts:=[some (2,_)]) (news:=[]) (sp:=[.val 1 _,.val 2 _,.sto 0]) [.g 0] hst (zv rfl (zaq (lz0 0 rfl) zco) (zv rfl (za5 (xs:=[.tmp 1]) (zkp (m:=⟨_,_,_,_⟩) zo) (.cons (vq 0 rfl) .nil)) (oc (zaf rfl rfl rfl (vq 1 rfl) zco (Eq.trans (b:=16) rfl rfl)) o0))) (fun a w hst=>?_)
 have hst:St B w0 3 [(0,_)] [⟨0,56,ptrH,_⟩] a w:=hst
 refine zgx ?_
 refine ret_m hst (zm 0 rfl) (zm 0 rfl) ?_
 refine zai ?_ (zbi (rs:=[]) rfl hst .nil zd)
 exact zb6
theorem rowOfK1 {p q:Rat}  : Cn Tryz.prog 88 [(QEA 2048 ((1:Nat):Int) p q).va] ((QMA 4099 ⟨1,p,0,1⟩).va):=by
 refine Cn.intro Tryz.func88 rfl zk nq (fun B w0 a hst=>?_)
 have hst:St B w0 18 [(0,(QEA 2048 ((1:Nat):Int) p q).va)] [] a w0.w:=hst
 refine wp_seq ?_
 refine gl (sts:=[]) (news:=[⟨1,62,ptrH,some 0,_,none⟩,⟨2,56,ptrH,some 1,_,none⟩]) (sp:=[.alc 0,.alc 1]) [] hst (oc (zan rfl rfl rfl (gq 0 rfl)) (oc (zap rfl rfl rfl (Str.zero zbn)) o0)) (fun a w hst=>?_)
 have hst:St B w0 18 [] [⟨1,62,ptrH,_⟩,⟨2,56,ptrH,_⟩] a w:=hst
 refine zt<|gl (sts:=[none,none]) (news:=[⟨3,56,ptrH,some 1,_,some (2,_)⟩]) (sp:=[.val 5 _,.alc 2,.sto 2]) [] hst (zv rfl (za5 (xs:=[]) zfg .nil) (oc (zap rfl rfl rfl (Str.zero zbn)) (oc (zaf rfl rfl rfl (vq 0 rfl) zco (Eq.trans (b:=16) rfl rfl)) o0))) (fun a w hst=>?_)
 have hst:St B w0 18 [] [⟨1,62,ptrH,_⟩,⟨2,56,ptrH,_⟩,⟨3,56,ptrH,_⟩] a w:=hst
 refine zt ?_
 obtain ⟨q1,hst⟩:=St.nm hst 0 rfl
 obtain ⟨q3,hst⟩:=St.nm hst 2 rfl
 refine gl (sts:=[none,none,none]) (news:=[⟨4,141,ptrH,some 6,_,some (7,_)⟩]) (sp:=[.val 6 _,.val 7 _,.val 8 _,.val 9 _,.val 10 _,.val 11 _,.alc 3,.sto 3]) [.g 0,.g 1] hst (zv rfl (zde (xs:=[.tmp 1,.tmp 3]) (vs:=[ptr q1,ptr q3]) (.cons (gq 1 rfl) (.cons (gq 0 rfl) .nil))) (zv rfl (zde (xs:=[.tmp 1,.tmp 3]) (vs:=[ptr q1,ptr q3]) (.cons (gq 1 rfl) (.cons (gq 0 rfl) .nil))) (zv rfl (zde (xs:=[.tmp 1,.tmp 3]) (vs:=[ptr q1,ptr q3]) (.cons (gq 1 rfl) (.cons (gq 0 rfl) .nil))) (zv rfl (zde (xs:=[.tmp 1,.tmp 3]) (vs:=[ptr q1,ptr q3]) (.cons (gq 1 rfl) (.cons (gq 0 rfl) .nil))) (zv rfl (zde (xs:=[.tmp 3]) (vs:=[ptr q3]) (.cons (gq 0 rfl) .nil)) (zv rfl (zef (xs:=[(0,.func 121),(1,.tmp 6),(2,.tmp 7),(3,.tmp 8),(4,.tmp 9),(5,.tmp 10)]) (qs:=[(0,_),(1,_),(2,_),(3,_),(4,_),(5,_)]) ze3 (.cons ⟨rfl,zgz,rfl⟩ (.cons ⟨rfl,(vq 0 rfl),rfl⟩ (.cons ⟨rfl,(vq 1 rfl),rfl⟩ (.cons ⟨rfl,(vq 2 rfl),rfl⟩ (.cons ⟨rfl,(vq 3 rfl),rfl⟩ (.cons ⟨rfl,(vq 4 rfl),rfl⟩ .nil))))))) (oc (zap rfl rfl rfl (Arr.zero ze3)) (oc (zaf rfl rfl rfl (vq 5 rfl) zkg (Eq.trans (b:=6) rfl rfl)) o0)))))))) (fun a w hst=>?_)
 have hst:St B w0 18 [(3,_),(1,_)] [⟨1,62,ptrH,_⟩,⟨2,56,ptrH,_⟩,⟨3,56,ptrH,_⟩,⟨4,141,ptrH,_⟩] a w:=hst
 refine zt<|gl (sts:=[none,none,some (4,_),none]) (news:=[]) (sp:=[.adr 12 1 (.some 0) True,.val 13 _,.val 14 _,.val 15 _,.cal 16 _ 2]) [.g 0,.g 1] hst (oc (ob_a rfl rfl (za7 (lz0 0 rfl) ze0)) (zv rfl (za4 0 rfl zk trivial (lz0 0 rfl) (Sub.part 0 rfl rfl) zeb) (zv rfl (zku (m:=1) (lz0 3 rfl) Tryz.underlying141 zk (n_ok zk) (vq 1 rfl) rfl) (zv rfl (zav (vq 2 rfl) ty_1) (oc (zhz (xs:=[.tmp 1,.tmp 3]) (vs:=[ptr q1,ptr q3]) rfl rfl rfl rowOf2_c (vq 3 rfl) (.cons (gq 1 rfl) (.cons (gq 0 rfl) .nil)) (.cons (zk1 (lz0 0 rfl)) (.cons arw .nil))) o0))))) (fun a w hst=>?_)
 have hst:St B w0 18 [(3,_),(1,_)] [⟨1,62,ptrH,_⟩,⟨2,56,ptrH,_⟩,⟨3,56,ptrH,_⟩,⟨4,141,ptrH,_⟩] a w:=hst
 refine zt<|gl (sts:=[none,some (1,_),none,none]) (news:=[]) (sp:=[.val 17 _,.sto 1]) [.g 0,.g 1] hst (zv rfl (zaq (lz0 2 rfl) zco) (oc (zaf rfl rfl rfl (vq 0 rfl) zco (Eq.trans (b:=16) rfl rfl)) o0)) (fun a w hst=>?_)
 have hst:St B w0 18 [(3,_),(1,_)] [⟨1,62,ptrH,_⟩,⟨2,56,ptrH,_⟩,⟨3,56,ptrH,_⟩,⟨4,141,ptrH,_⟩] a w:=hst
 refine za0 ?_
 refine wp_ret ?_
 refine zai ?_ (zam rfl hst (zm 1 rfl) zco)
 exact (zci (.cons (zbx zd) (.cons (zbx zd) (.cons (zbx zd) (.cons (zbx zd) .nil))))).va
theorem rowOfK2 {p q:Rat}  : Cn Tryz.prog 88 [(QEA 2048 ((2:Nat):Int) p q).va] ((QMA 4099 ⟨1,0,0-p,1⟩).va):=by
 refine Cn.intro Tryz.func88 rfl zk nq (fun B w0 a hst=>?_)
 have hst:St B w0 18 [(0,(QEA 2048 ((2:Nat):Int) p q).va)] [] a w0.w:=hst
 refine wp_seq ?_
 refine gl (sts:=[]) (news:=[⟨1,62,ptrH,some 0,_,none⟩,⟨2,56,ptrH,some 1,_,none⟩]) (sp:=[.alc 0,.alc 1]) [] hst (oc (zan rfl rfl rfl (gq 0 rfl)) (oc (zap rfl rfl rfl (Str.zero zbn)) o0)) (fun a w hst=>?_)
 have hst:St B w0 18 [] [⟨1,62,ptrH,_⟩,⟨2,56,ptrH,_⟩] a w:=hst
 refine zt<|gl (sts:=[none,none]) (news:=[⟨3,56,ptrH,some 1,_,some (2,_)⟩]) (sp:=[.val 5 _,.alc 2,.sto 2]) [] hst (zv rfl (za5 (xs:=[]) zfg .nil) (oc (zap rfl rfl rfl (Str.zero zbn)) (oc (zaf rfl rfl rfl (vq 0 rfl) zco (Eq.trans (b:=16) rfl rfl)) o0))) (fun a w hst=>?_)
 have hst:St B w0 18 [] [⟨1,62,ptrH,_⟩,⟨2,56,ptrH,_⟩,⟨3,56,ptrH,_⟩] a w:=hst
 refine zt ?_
 obtain ⟨q1,hst⟩:=St.nm hst 0 rfl
 obtain ⟨q3,hst⟩:=St.nm hst 2 rfl
 refine gl (sts:=[none,none,none]) (news:=[⟨4,141,ptrH,some 6,_,some (7,_)⟩]) (sp:=[.val 6 _,.val 7 _,.val 8 _,.val 9 _,.val 10 _,.val 11 _,.alc 3,.sto 3]) [.g 0,.g 1] hst (zv rfl (zde (xs:=[.tmp 1,.tmp 3]) (vs:=[ptr q1,ptr q3]) (.cons (gq 1 rfl) (.cons (gq 0 rfl) .nil))) (zv rfl (zde (xs:=[.tmp 1,.tmp 3]) (vs:=[ptr q1,ptr q3]) (.cons (gq 1 rfl) (.cons (gq 0 rfl) .nil))) (zv rfl (zde (xs:=[.tmp 1,.tmp 3]) (vs:=[ptr q1,ptr q3]) (.cons (gq 1 rfl) (.cons (gq 0 rfl) .nil))) (zv rfl (zde (xs:=[.tmp 1,.tmp 3]) (vs:=[ptr q1,ptr q3]) (.cons (gq 1 rfl) (.cons (gq 0 rfl) .nil))) (zv rfl (zde (xs:=[.tmp 3]) (vs:=[ptr q3]) (.cons (gq 0 rfl) .nil)) (zv rfl (zef (xs:=[(0,.func 121),(1,.tmp 6),(2,.tmp 7),(3,.tmp 8),(4,.tmp 9),(5,.tmp 10)]) (qs:=[(0,_),(1,_),(2,_),(3,_),(4,_),(5,_)]) ze3 (.cons ⟨rfl,zgz,rfl⟩ (.cons ⟨rfl,(vq 0 rfl),rfl⟩ (.cons ⟨rfl,(vq 1 rfl),rfl⟩ (.cons ⟨rfl,(vq 2 rfl),rfl⟩ (.cons ⟨rfl,(vq 3 rfl),rfl⟩ (.cons ⟨rfl,(vq 4 rfl),rfl⟩ .nil))))))) (oc (zap rfl rfl rfl (Arr.zero ze3)) (oc (zaf rfl rfl rfl (vq 5 rfl) zkg (Eq.trans (b:=6) rfl rfl)) o0)))))))) (fun a w hst=>?_)
 have hst:St B w0 18 [(3,_),(1,_)] [⟨1,62,ptrH,_⟩,⟨2,56,ptrH,_⟩,⟨3,56,ptrH,_⟩,⟨4,141,ptrH,_⟩] a w:=hst
 refine zt<|gl (sts:=[none,none,some (4,_),none]) (news:=[]) (sp:=[.adr 12 1 (.some 0) True,.val 13 _,.val 14 _,.val 15 _,.cal 16 _ 2]) [.g 0,.g 1] hst (oc (ob_a rfl rfl (za7 (lz0 0 rfl) ze0)) (zv rfl (za4 0 rfl zk trivial (lz0 0 rfl) (Sub.part 0 rfl rfl) zeb) (zv rfl (zku (m:=1) (lz0 3 rfl) Tryz.underlying141 zk (n_ok zk) (vq 1 rfl) rfl) (zv rfl (zav (vq 2 rfl) ty_1) (oc (zhz (xs:=[.tmp 1,.tmp 3]) (vs:=[ptr q1,ptr q3]) rfl rfl rfl rowOf3_c (vq 3 rfl) (.cons (gq 1 rfl) (.cons (gq 0 rfl) .nil)) (.cons (zk1 (lz0 0 rfl)) (.cons arw .nil))) o0))))) (fun a w hst=>?_)
 have hst:St B w0 18 [(3,_),(1,_)] [⟨1,62,ptrH,_⟩,⟨2,56,ptrH,_⟩,⟨3,56,ptrH,_⟩,⟨4,141,ptrH,_⟩] a w:=hst
 refine zt<|gl (sts:=[none,some (1,_),none,none]) (news:=[]) (sp:=[.val 17 _,.sto 1]) [.g 0,.g 1] hst (zv rfl (zaq (lz0 2 rfl) zco) (oc (zaf rfl rfl rfl (vq 0 rfl) zco (Eq.trans (b:=16) rfl rfl)) o0)) (fun a w hst=>?_)
 have hst:St B w0 18 [(3,_),(1,_)] [⟨1,62,ptrH,_⟩,⟨2,56,ptrH,_⟩,⟨3,56,ptrH,_⟩,⟨4,141,ptrH,_⟩] a w:=hst
 refine za0 ?_
 refine wp_ret ?_
 refine zai ?_ (zam rfl hst (zm 1 rfl) zco)
 exact (zci (.cons (zbx zd) (.cons (zbx zd) (.cons (zbx zd) (.cons (zbx zd) .nil))))).va
theorem rowOfK3 {p q:Rat}(h0:q≠0):Cn Tryz.prog 88 [(QEA 2048 ((3:Nat):Int) p q).va] ((QMA 4099 ⟨1,p/q,0,1⟩).va):=by
 refine Cn.intro Tryz.func88 rfl zk nq (fun B w0 a hst=>?_)
 have hst:St B w0 18 [(0,(QEA 2048 ((3:Nat):Int) p q).va)] [] a w0.w:=hst
 refine wp_seq ?_
 refine gl (sts:=[]) (news:=[⟨1,62,ptrH,some 0,_,none⟩,⟨2,56,ptrH,some 1,_,none⟩]) (sp:=[.alc 0,.alc 1]) [] hst (oc (zan rfl rfl rfl (gq 0 rfl)) (oc (zap rfl rfl rfl (Str.zero zbn)) o0)) (fun a w hst=>?_)
 have hst:St B w0 18 [] [⟨1,62,ptrH,_⟩,⟨2,56,ptrH,_⟩] a w:=hst
 refine zt<|gl (sts:=[none,none]) (news:=[⟨3,56,ptrH,some 1,_,some (2,_)⟩]) (sp:=[.val 5 _,.alc 2,.sto 2]) [] hst (zv rfl (za5 (xs:=[]) zfg .nil) (oc (zap rfl rfl rfl (Str.zero zbn)) (oc (zaf rfl rfl rfl (vq 0 rfl) zco (Eq.trans (b:=16) rfl rfl)) o0))) (fun a w hst=>?_)
 have hst:St B w0 18 [] [⟨1,62,ptrH,_⟩,⟨2,56,ptrH,_⟩,⟨3,56,ptrH,_⟩] a w:=hst
 refine zt ?_
 obtain ⟨q1,hst⟩:=St.nm hst 0 rfl
 obtain ⟨q3,hst⟩:=St.nm hst 2 rfl
 refine gl (sts:=[none,none,none]) (news:=[⟨4,141,ptrH,some 6,_,some (7,_)⟩]) (sp:=[.val 6 _,.val 7 _,.val 8 _,.val 9 _,.val 10 _,.val 11 _,.alc 3,.sto 3]) [.g 0,.g 1] hst (zv rfl (zde (xs:=[.tmp 1,.tmp 3]) (vs:=[ptr q1,ptr q3]) (.cons (gq 1 rfl) (.cons (gq 0 rfl) .nil))) (zv rfl (zde (xs:=[.tmp 1,.tmp 3]) (vs:=[ptr q1,ptr q3]) (.cons (gq 1 rfl) (.cons (gq 0 rfl) .nil))) (zv rfl (zde (xs:=[.tmp 1,.tmp 3]) (vs:=[ptr q1,ptr q3]) (.cons (gq 1 rfl) (.cons (gq 0 rfl) .nil))) (zv rfl (zde (xs:=[.tmp 1,.tmp 3]) (vs:=[ptr q1,ptr q3]) (.cons (gq 1 rfl) (.cons (gq 0 rfl) .nil))) (zv rfl (zde (xs:=[.tmp 3]) (vs:=[ptr q3]) (.cons (gq 0 rfl) .nil)) (zv rfl (zef (xs:=[(0,.func 121),(1,.tmp 6),(2,.tmp 7),(3,.tmp 8),(4,.tmp 9),(5,.tmp 10)]) (qs:=[(0,_),(1,_),(2,_),(3,_),(4,_),(5,_)]) ze3 (.cons ⟨rfl,zgz,rfl⟩ (.cons ⟨rfl,(vq 0 rfl),rfl⟩ (.cons ⟨rfl,(vq 1 rfl),rfl⟩ (.cons ⟨rfl,(vq 2 rfl),rfl⟩ (.cons ⟨rfl,(vq 3 rfl),rfl⟩ (.cons ⟨rfl,(vq 4 rfl),rfl⟩ .nil))))))) (oc (zap rfl rfl rfl (Arr.zero ze3)) (oc (zaf rfl rfl rfl (vq 5 rfl) zkg (Eq.trans (b:=6) rfl rfl)) o0)))))))) (fun a w hst=>?_)
 have hst:St B w0 18 [(3,_),(1,_)] [⟨1,62,ptrH,_⟩,⟨2,56,ptrH,_⟩,⟨3,56,ptrH,_⟩,⟨4,141,ptrH,_⟩] a w:=hst
 refine zt<|gl (sts:=[none,none,some (4,_),none]) (news:=[]) (sp:=[.adr 12 1 (.some 0) True,.val 13 _,.val 14 _,.val 15 _,.cal 16 _ 2]) [.g 0,.g 1] hst (oc (ob_a rfl rfl (za7 (lz0 0 rfl) ze0)) (zv rfl (za4 0 rfl zk trivial (lz0 0 rfl) (Sub.part 0 rfl rfl) zeb) (zv rfl (zku (m:=1) (lz0 3 rfl) Tryz.underlying141 zk (n_ok zk) (vq 1 rfl) rfl) (zv rfl (zav (vq 2 rfl) ty_1) (oc (zhz (xs:=[.tmp 1,.tmp 3]) (vs:=[ptr q1,ptr q3]) rfl rfl rfl (rowOf4_c h0) (vq 3 rfl) (.cons (gq 1 rfl) (.cons (gq 0 rfl) .nil)) (.cons (zk1 (lz0 0 rfl)) (.cons arw .nil))) o0))))) (fun a w hst=>?_)
 have hst:St B w0 18 [(3,_),(1,_)] [⟨1,62,ptrH,_⟩,⟨2,56,ptrH,_⟩,⟨3,56,ptrH,_⟩,⟨4,141,ptrH,_⟩] a w:=hst
 refine zt<|gl (sts:=[none,some (1,_),none,none]) (news:=[]) (sp:=[.val 17 _,.sto 1]) [.g 0,.g 1] hst (zv rfl (zaq (lz0 2 rfl) zco) (oc (zaf rfl rfl rfl (vq 0 rfl) zco (Eq.trans (b:=16) rfl rfl)) o0)) (fun a w hst=>?_)
 have hst:St B w0 18 [(3,_),(1,_)] [⟨1,62,ptrH,_⟩,⟨2,56,ptrH,_⟩,⟨3,56,ptrH,_⟩,⟨4,141,ptrH,_⟩] a w:=hst
 refine za0 ?_
 refine wp_ret ?_
 refine zai ?_ (zam rfl hst (zm 1 rfl) zco)
 exact (zci (.cons (zbx zd) (.cons (zbx zd) (.cons (zbx zd) (.cons (zbx zd) .nil))))).va
theorem rowOfK4 {p q:Rat}  : Cn Tryz.prog 88 [(QEA 2048 ((4:Nat):Int) p q).va] ((QMA 4099 ⟨1,0,0-p*q,1⟩).va):=by
 refine Cn.intro Tryz.func88 rfl zk nq (fun B w0 a hst=>?_)
 have hst:St B w0 18 [(0,(QEA 2048 ((4:Nat):Int) p q).va)] [] a w0.w:=hst
 refine wp_seq ?_
 refine gl (sts:=[]) (news:=[⟨1,62,ptrH,some 0,_,none⟩,⟨2,56,ptrH,some 1,_,none⟩]) (sp:=[.alc 0,.alc 1]) [] hst (oc (zan rfl rfl rfl (gq 0 rfl)) (oc (zap rfl rfl rfl (Str.zero zbn)) o0)) (fun a w hst=>?_)
 have hst:St B w0 18 [] [⟨1,62,ptrH,_⟩,⟨2,56,ptrH,_⟩] a w:=hst
 refine zt<|gl (sts:=[none,none]) (news:=[⟨3,56,ptrH,some 1,_,some (2,_)⟩]) (sp:=[.val 5 _,.alc 2,.sto 2]) [] hst (zv rfl (za5 (xs:=[]) zfg .nil) (oc (zap rfl rfl rfl (Str.zero zbn)) (oc (zaf rfl rfl rfl (vq 0 rfl) zco (Eq.trans (b:=16) rfl rfl)) o0))) (fun a w hst=>?_)
 have hst:St B w0 18 [] [⟨1,62,ptrH,_⟩,⟨2,56,ptrH,_⟩,⟨3,56,ptrH,_⟩] a w:=hst
 refine zt ?_
 obtain ⟨q1,hst⟩:=St.nm hst 0 rfl
 obtain ⟨q3,hst⟩:=St.nm hst 2 rfl
 refine gl (sts:=[none,none,none]) (news:=[⟨4,141,ptrH,some 6,_,some (7,_)⟩]) (sp:=[.val 6 _,.val 7 _,.val 8 _,.val 9 _,.val 10 _,.val 11 _,.alc 3,.sto 3]) [.g 0,.g 1] hst (zv rfl (zde (xs:=[.tmp 1,.tmp 3]) (vs:=[ptr q1,ptr q3]) (.cons (gq 1 rfl) (.cons (gq 0 rfl) .nil))) (zv rfl (zde (xs:=[.tmp 1,.tmp 3]) (vs:=[ptr q1,ptr q3]) (.cons (gq 1 rfl) (.cons (gq 0 rfl) .nil))) (zv rfl (zde (xs:=[.tmp 1,.tmp 3]) (vs:=[ptr q1,ptr q3]) (.cons (gq 1 rfl) (.cons (gq 0 rfl) .nil))) (zv rfl (zde (xs:=[.tmp 1,.tmp 3]) (vs:=[ptr q1,ptr q3]) (.cons (gq 1 rfl) (.cons (gq 0 rfl) .nil))) (zv rfl (zde (xs:=[.tmp 3]) (vs:=[ptr q3]) (.cons (gq 0 rfl) .nil)) (zv rfl (zef (xs:=[(0,.func 121),(1,.tmp 6),(2,.tmp 7),(3,.tmp 8),(4,.tmp 9),(5,.tmp 10)]) (qs:=[(0,_),(1,_),(2,_),(3,_),(4,_),(5,_)]) ze3 (.cons ⟨rfl,zgz,rfl⟩ (.cons ⟨rfl,(vq 0 rfl),rfl⟩ (.cons ⟨rfl,(vq 1 rfl),rfl⟩ (.cons ⟨rfl,(vq 2 rfl),rfl⟩ (.cons ⟨rfl,(vq 3 rfl),rfl⟩ (.cons ⟨rfl,(vq 4 rfl),rfl⟩ .nil))))))) (oc (zap rfl rfl rfl (Arr.zero ze3)) (oc (zaf rfl rfl rfl (vq 5 rfl) zkg (Eq.trans (b:=6) rfl rfl)) o0)))))))) (fun a w hst=>?_)
 have hst:St B w0 18 [(3,_),(1,_)] [⟨1,62,ptrH,_⟩,⟨2,56,ptrH,_⟩,⟨3,56,ptrH,_⟩,⟨4,141,ptrH,_⟩] a w:=hst
 refine zt<|gl (sts:=[none,none,some (4,_),none]) (news:=[]) (sp:=[.adr 12 1 (.some 0) True,.val 13 _,.val 14 _,.val 15 _,.cal 16 _ 2]) [.g 0,.g 1] hst (oc (ob_a rfl rfl (za7 (lz0 0 rfl) ze0)) (zv rfl (za4 0 rfl zk trivial (lz0 0 rfl) (Sub.part 0 rfl rfl) zeb) (zv rfl (zku (m:=1) (lz0 3 rfl) Tryz.underlying141 zk (n_ok zk) (vq 1 rfl) rfl) (zv rfl (zav (vq 2 rfl) ty_1) (oc (zhz (xs:=[.tmp 1,.tmp 3]) (vs:=[ptr q1,ptr q3]) rfl rfl rfl rowOf5_c (vq 3 rfl) (.cons (gq 1 rfl) (.cons (gq 0 rfl) .nil)) (.cons (zk1 (lz0 0 rfl)) (.cons arw .nil))) o0))))) (fun a w hst=>?_)
 have hst:St B w0 18 [(3,_),(1,_)] [⟨1,62,ptrH,_⟩,⟨2,56,ptrH,_⟩,⟨3,56,ptrH,_⟩,⟨4,141,ptrH,_⟩] a w:=hst
 refine zt<|gl (sts:=[none,some (1,_),none,none]) (news:=[]) (sp:=[.val 17 _,.sto 1]) [.g 0,.g 1] hst (zv rfl (zaq (lz0 2 rfl) zco) (oc (zaf rfl rfl rfl (vq 0 rfl) zco (Eq.trans (b:=16) rfl rfl)) o0)) (fun a w hst=>?_)
 have hst:St B w0 18 [(3,_),(1,_)] [⟨1,62,ptrH,_⟩,⟨2,56,ptrH,_⟩,⟨3,56,ptrH,_⟩,⟨4,141,ptrH,_⟩] a w:=hst
 refine za0 ?_
 refine wp_ret ?_
 refine zai ?_ (zam rfl hst (zm 1 rfl) zco)
 exact (zci (.cons (zbx zd) (.cons (zbx zd) (.cons (zbx zd) (.cons (zbx zd) .nil))))).va
theorem rowOfK5 {p q:Rat}  : Cn Tryz.prog 88 [(QEA 2048 ((5:Nat):Int) p q).va] ((QMA 4099 ⟨0-1,0-0,0-0,0-1⟩).va):=by
 refine Cn.intro Tryz.func88 rfl zk nq (fun B w0 a hst=>?_)
 have hst:St B w0 18 [(0,(QEA 2048 ((5:Nat):Int) p q).va)] [] a w0.w:=hst
 refine wp_seq ?_
 refine gl (sts:=[]) (news:=[⟨1,62,ptrH,some 0,_,none⟩,⟨2,56,ptrH,some 1,_,none⟩]) (sp:=[.alc 0,.alc 1]) [] hst (oc (zan rfl rfl rfl (gq 0 rfl)) (oc (zap rfl rfl rfl (Str.zero zbn)) o0)) (fun a w hst=>?_)
 have hst:St B w0 18 [] [⟨1,62,ptrH,_⟩,⟨2,56,ptrH,_⟩] a w:=hst
 refine zt<|gl (sts:=[none,none]) (news:=[⟨3,56,ptrH,some 1,_,some (2,_)⟩]) (sp:=[.val 5 _,.alc 2,.sto 2]) [] hst (zv rfl (za5 (xs:=[]) zfg .nil) (oc (zap rfl rfl rfl (Str.zero zbn)) (oc (zaf rfl rfl rfl (vq 0 rfl) zco (Eq.trans (b:=16) rfl rfl)) o0))) (fun a w hst=>?_)
 have hst:St B w0 18 [] [⟨1,62,ptrH,_⟩,⟨2,56,ptrH,_⟩,⟨3,56,ptrH,_⟩] a w:=hst
 refine zt ?_
 obtain ⟨q1,hst⟩:=St.nm hst 0 rfl
 obtain ⟨q3,hst⟩:=St.nm hst 2 rfl
 refine gl (sts:=[none,none,none]) (news:=[⟨4,141,ptrH,some 6,_,some (7,_)⟩]) (sp:=[.val 6 _,.val 7 _,.val 8 _,.val 9 _,.val 10 _,.val 11 _,.alc 3,.sto 3]) [.g 0,.g 1] hst (zv rfl (zde (xs:=[.tmp 1,.tmp 3]) (vs:=[ptr q1,ptr q3]) (.cons (gq 1 rfl) (.cons (gq 0 rfl) .nil))) (zv rfl (zde (xs:=[.tmp 1,.tmp 3]) (vs:=[ptr q1,ptr q3]) (.cons (gq 1 rfl) (.cons (gq 0 rfl) .nil))) (zv rfl (zde (xs:=[.tmp 1,.tmp 3]) (vs:=[ptr q1,ptr q3]) (.cons (gq 1 rfl) (.cons (gq 0 rfl) .nil))) (zv rfl (zde (xs:=[.tmp 1,.tmp 3]) (vs:=[ptr q1,ptr q3]) (.cons (gq 1 rfl) (.cons (gq 0 rfl) .nil))) (zv rfl (zde (xs:=[.tmp 3]) (vs:=[ptr q3]) (.cons (gq 0 rfl) .nil)) (zv rfl (zef (xs:=[(0,.func 121),(1,.tmp 6),(2,.tmp 7),(3,.tmp 8),(4,.tmp 9),(5,.tmp 10)]) (qs:=[(0,_),(1,_),(2,_),(3,_),(4,_),(5,_)]) ze3 (.cons ⟨rfl,zgz,rfl⟩ (.cons ⟨rfl,(vq 0 rfl),rfl⟩ (.cons ⟨rfl,(vq 1 rfl),rfl⟩ (.cons ⟨rfl,(vq 2 rfl),rfl⟩ (.cons ⟨rfl,(vq 3 rfl),rfl⟩ (.cons ⟨rfl,(vq 4 rfl),rfl⟩ .nil))))))) (oc (zap rfl rfl rfl (Arr.zero ze3)) (oc (zaf rfl rfl rfl (vq 5 rfl) zkg (Eq.trans (b:=6) rfl rfl)) o0)))))))) (fun a w hst=>?_)
 have hst:St B w0 18 [(3,_),(1,_)] [⟨1,62,ptrH,_⟩,⟨2,56,ptrH,_⟩,⟨3,56,ptrH,_⟩,⟨4,141,ptrH,_⟩] a w:=hst
 refine zt<|gl (sts:=[none,none,some (4,_),none]) (news:=[]) (sp:=[.adr 12 1 (.some 0) True,.val 13 _,.val 14 _,.val 15 _,.cal 16 _ 2]) [.g 0,.g 1] hst (oc (ob_a rfl rfl (za7 (lz0 0 rfl) ze0)) (zv rfl (za4 0 rfl zk trivial (lz0 0 rfl) (Sub.part 0 rfl rfl) zeb) (zv rfl (zku (m:=1) (lz0 3 rfl) Tryz.underlying141 zk (n_ok zk) (vq 1 rfl) rfl) (zv rfl (zav (vq 2 rfl) ty_1) (oc (zhz (xs:=[.tmp 3]) (vs:=[ptr q3]) rfl rfl rfl rowOf6_c (vq 3 rfl) (.cons (gq 0 rfl) .nil) (.cons arw .nil)) o0))))) (fun a w hst=>?_)
 have hst:St B w0 18 [(3,_),(1,_)] [⟨1,62,ptrH,_⟩,⟨2,56,ptrH,_⟩,⟨3,56,ptrH,_⟩,⟨4,141,ptrH,_⟩] a w:=hst
 refine zt<|gl (sts:=[none,some (1,_),none,none]) (news:=[]) (sp:=[.val 17 _,.sto 1]) [.g 0,.g 1] hst (zv rfl (zaq (lz0 2 rfl) zco) (oc (zaf rfl rfl rfl (vq 0 rfl) zco (Eq.trans (b:=16) rfl rfl)) o0)) (fun a w hst=>?_)
 have hst:St B w0 18 [(3,_),(1,_)] [⟨1,62,ptrH,_⟩,⟨2,56,ptrH,_⟩,⟨3,56,ptrH,_⟩,⟨4,141,ptrH,_⟩] a w:=hst
 refine za0 ?_
 refine wp_ret ?_
 refine zai ?_ (zam rfl hst (zm 1 rfl) zco)
 exact (zci (.cons (zbx zd) (.cons (zbx zd) (.cons (zbx zd) (.cons (zbx zd) .nil))))).va
end Go.Proofs.YtlpppkkggljdcaaGreat
