import Derived.Test.YtndjeibbjjpkfaaGreatDoorCtAa
import Derived.Test.YtndjeibbjjpkfaaGreatDoorCtAc
import Derived.Test.YtndjeibbjjpkfaaGreatDoorCtAy
set_option linter.unusedVariables false
set_option linter.unusedSimpArgs false
set_option linter.unusedSectionVars false
set_option maxRecDepth 100000
namespace Go.Proofs.YtndjeibbjjpkfaaGreatDoor
open Go Go.RowKit
def EqA (v:Value):As where
 n:=1
 ag:=false
 p _ cs _:=cs=[v]∧v.oneCell'=true
 deps:=[]
 len:=by rintro B cs w ⟨rfl,_⟩; rfl
 one:=by rintro B cs w ⟨rfl,h⟩ c hc; simp at hc; subst hc; exact h
 ag1:=fun _=>rfl
 cg:=fun _ _ _ _ _ h=>h
 wr:=fun _ _ _ _ _ _ _ _ _ _ _ _ h=>h
theorem va_eqA {v:Value}(h:v.oneCell'=true){B:Nat}{w:World}:(EqA v).va.p B v w:=⟨[v],⟨rfl,h⟩,rfl⟩
theorem eqA_va {v u:Value}{B:Nat}{w:World}(h:(EqA v).va.p B u w):u=v:=by
 obtain ⟨cs,⟨rfl,_⟩,h2⟩:=h
 exact h2
theorem St.nm {B N:Nat}{w0:Bs}{Γ:List (Nat × VA)}{Λ:List Lc}{a:Act}{w:World}(h:St B w0 N Γ Λ a w){s T:Nat}{A:As}(k:Nat)(hm:Λ[k]?=some ⟨s,T,ptrH,A⟩):∃ g,St B w0 N ((s,EqV (ptr g))::Γ) Λ a w:=by
 obtain ⟨g,cs,e,_⟩:=h.locs _ (List.mem_of_getElem? hm)
 refine ⟨g,h.lo,h.defers,h.size,h.base,fun x hx=>?_,h.locs,h.dis⟩
 rcases List.mem_cons.1 hx with rfl | hx
 ·exact e
 ·exact h.vals x hx
section
variable {P:Program} {R:Rg} {Q:Exit→Act→World→Prop} {B i:Nat} {w0:Bs}
theorem zxs {xs:List Operand}{vs:List Value}(hx:HasL R B w0 i xs (vs.map EqV)){a:Act}{w:World}(av:R.Av B w0 i a w):xs.map a.eval=vs:=by
 induction vs generalizing xs with
 | nil=>cases hx; rfl
 | cons v vs ih =>
  cases hx with
  | cons h1 h2 =>
   rw [List.map_cons,ih h2]
   have:_=v:=h1 a w av
   rw [this]
theorem zdx {f:FuncId}{xs:List Operand}{vs:List Value}(hx:HasL R B w0 i xs (vs.map EqV)):Wv P Q R B w0 i (.makeFunc (.func f) #[] xs.toArray) (EqA (.func (.func f) #[] vs.toArray)).va :=
 zbm fun _ _ _ _ _ a w av=>by
  have e:=zxs hx av
  refine ⟨.func (.func f) #[] vs.toArray,w,?_,Grow.refl w,va_eqA rfl⟩
  simp [execOp,Instr.makeFunc,e]
theorem zgr {f:FuncId}:Has R B w0 i (.func f) (EqA (.func (.func f) #[] #[])).va:=fun _ _ _=>va_eqA rfl
theorem zjn {d s e c:Nat}{T:TypeId}{H:Hd}{cr:Option Nat}{A0 A1:As}{A:VA}{f:FuncId}{xs:List Operand}{vs:List Value}{pre:List Ar}{at_:Array TypeId}{ty:TypeId}{ps:String}{af:Array Edge}
  (hs:R.sp[i]?=some (.cal d A e)) (he:R.les[e]?=some ⟨s,T,H,cr,A0,some (i,A1)⟩) (ho:R.ops[i]?=some ⟨some d,.call ⟨.value (.tmp c),#[],at_⟩,ty,ps,af,none⟩)
  (hc:Cm P f T A0 A1 pre A) (hv:Has R B w0 i (.tmp c) (EqA (.func (.func f) #[] vs.toArray)).va) (hvs:HasL R B w0 i xs (vs.map EqV)) (hx:All2 (ArH R B w0 i s H) pre xs):R.Ob P Q B w0 i:=by
 unfold Rg.Ob
 simp only [hs,he]
 intro a w av g cs h1 hB h3 h4 _ K hK
 obtain ⟨⟨fn,hf,hn,hb2⟩,hcall⟩:=hc
 have ev:a.eval (.tmp c)=.func (.func f) #[] vs.toArray:=eqA_va (hv a w av)
 have evs:=zxs hvs av
 have hrun:(execOp a.eval ⟨some d,.call ⟨.value (.tmp c),#[],at_⟩,ty,ps,af,none⟩).run P w=.ok (.enter f (xs.map a.eval).toArray) w:=by
  simp only [execOp,resolve,ev,Deferred.ofValue,Sem.run_bind,Sem.run_pure,Result.andThen_ok,invoke,zbv hf hn hb2,evs]
  simp
 refine zc4 ho rfl ?_
 unfold Oper.wp
 rw [hrun]
 refine (hcall B w g cs _ hB h3 h4 ?_).mono fun e w' ⟨v,cs',he,hv,hg,h5,h6⟩=>by subst he; exact hK v cs' w' hg h5 h6 hv
 clear hcall hrun ho hs he hvs evs
 induction hx with
 | nil=>exact .nil
 | @cons x y _ _ h _ ih =>
  refine .cons ?_ ih
  cases x with
  | v A=>exact h a w av
  | w H' =>
   obtain ⟨rfl,h2⟩:=h
   exact (h2 a w av).trans h1
end
structure RE where
 k:Int
 p:RF
 q:RF
 deriving DecidableEq
def REA (x:RE):As:=cat [NumA .u8 x.k,RFA x.p,RFA x.q]
def QEA (c:Nat)(k:Int)(p q:Rat):As:=cat [NumA .u8 k,QA c p,QA c q]
abbrev NfA:As:=EqA .nilFunc
theorem zfz:Str Tryz.prog 64 [NumA .u8 0,RFA rf0,RFA rf0] :=
 Str.of (z:=.agg #[.int .u8 0,.bool false,.slice none 0 0,.bool false,.slice none 0 0,.bool false,.slice none 0 0,.bool false,.slice none 0 0]) zk Tryz.underlying64 zk fun B w=>⟨[[.int .u8 0],[.bool false,.slice none 0 0,.bool false,.slice none 0 0],[.bool false,.slice none 0 0,.bool false,.slice none 0 0]],rfl,.cons rfl (.cons (zpc B w) (.cons (zpc B w) .nil))⟩
theorem zen:Arr Tryz.prog 208 [NfA,NfA,NfA,NfA,NfA,NfA]:=by
 have hz:((Tryz.prog.info? 208).bind (·.zero))=some (.agg #[.nilFunc,.nilFunc,.nilFunc,.nilFunc,.nilFunc,.nilFunc]):=by kernel_rfl
 obtain ⟨it,e1,e2⟩:=Option.bind_eq_some_iff.1 hz
 have h:(Tryz.prog.info? 1).map (·.size)=some 1:=by kernel_rfl
 obtain ⟨ie,h1,h2⟩:∃ ie,Tryz.prog.info? 1=some ie∧ie.size=1:=by
  cases hi:Tryz.prog.info? 1 with
  | none=>rw [hi] at h; simp at h
  | some ie=>rw [hi] at h; exact ⟨ie,rfl,by simpa using h⟩
 refine ⟨it,_,6,1,ie,e1,e2,Tryz.underlying208,h1,?_,fun B w=>⟨[[.nilFunc],[.nilFunc],[.nilFunc],[.nilFunc],[.nilFunc],[.nilFunc]],rfl,(.cons ⟨rfl,rfl⟩ (.cons ⟨rfl,rfl⟩ (.cons ⟨rfl,rfl⟩ (.cons ⟨rfl,rfl⟩ (.cons ⟨rfl,rfl⟩ (.cons ⟨rfl,rfl⟩ .nil))))))⟩⟩
 rw [h2]
 intro f hf
 match f,hf with
 | 0,_=>rfl
 | 1,_=>rfl
 | 2,_=>rfl
 | 3,_=>rfl
 | 4,_=>rfl
 | 5,_=>rfl
theorem zdj {c:Nat}{x:Rat}(hc:c≤137438953472):Cn Tryz.prog 153 [Qs c x] (Qs (2+c+1) (0-x)):=by
 refine Cn.intro Tryz.func153 rfl zk nq (fun B w0 a O=>?_)
 have O:=zn [(0,Qs c x)] [] O
 refine wp_seq<|zg [] [⟨1,30,ptrH,some 0,_,none⟩,⟨2,30,ptrH,some 1,_,none⟩] [.alc 0,.alc 1] [] O (oc (zan rfl rfl rfl (gq 0 rfl)) (oc (zaq rfl rfl rfl (Str.zero zb3)) o0)) (zz [] [⟨1,30,ptrH,_⟩,⟨2,30,ptrH,_⟩] fun a w O=>?_)
 refine zt<|zgd [[],[],[0,1],[0,1,2]] [none,some (3,_)] [] [.val 3 _,.val 4 _,.val 5 _,.sto 1] [] za6 O (zv rfl (za5 (xs:=[]) zm2 .nil) (zv rfl (zam (lz0 0 rfl) zad) (zv rfl (za5 (xs:=[.tmp 3,.tmp 4]) (zwi zo) (.cons (vq 0 rfl) (.cons (vq 1 rfl) .nil))) (oc (zac rfl rfl rfl (vq 2 rfl) zad (Eq.trans (b:=4) rfl rfl)) o0)))) zk zk zk zk (zz [] [⟨1,30,ptrH,_⟩,⟨2,30,ptrH,_⟩] fun a w O=>?_)
 refine za0<|wp_ret<|zae ?_ (zak rfl O (zm 1 rfl) zad)
 exact zbi
theorem znq {c:Nat}{m:MQ}(hc:c≤137438953472):Cn Tryz.prog 158 [(QMA c m).va] ((QMA (2+c+1) ⟨0-m.a,0-m.b,0-m.c,0-m.d⟩).va):=by
 refine Cn.intro Tryz.func158 rfl zk nq (fun B w0 a O=>?_)
 have O:=zn [(0,(QMA c m).va)] [] O
 refine wp_seq<|zg [] [⟨1,32,ptrH,some 0,_,none⟩,⟨2,32,ptrH,some 1,_,none⟩] [.alc 0,.alc 1] [] O (oc (zan rfl rfl rfl (gq 0 rfl)) (oc (zaq rfl rfl rfl (Str.zero zar)) o0)) (zz [] [⟨1,32,ptrH,_⟩,⟨2,32,ptrH,_⟩] fun a w O=>?_)
 refine zt<|zgd [[],[0],[0,1],[],[3],[0,1,2,3,4],[],[6],[0,1,2,3,4,5,6,7],[],[9],[0,1,2,3,4,5,6,7,8,9,10],[0,1,2,3,4,5,6,7,8,9,10,11],[0,1,2,3,4,5,6,7,8,9,10,11,12]] [none,some (13,_)] [] [.adr 3 1 (.some 0) True,.val 4 _,.val 5 _,.adr 6 1 (.some 4) True,.val 7 _,.val 8 _,.adr 9 1 (.some 8) True,.val 10 _,.val 11 _,.adr 12 1 (.some 12) True,.val 13 _,.val 14 _,.val 15 _,.sto 1] [] za6 O (oc (ob_a rfl rfl (za7 (lz0 0 rfl) zc2)) (zv rfl (za4 0 rfl zk trivial (lz0 0 rfl) (Sub.part 0 rfl rfl) zad) (zv rfl (za5 (xs:=[.tmp 4]) (zdj zo) (.cons (vq 1 rfl) .nil)) (oc (ob_a rfl rfl (za7 (lz0 0 rfl) zc1)) (zv rfl (za4 3 rfl zk trivial (lz0 0 rfl) (Sub.part 1 rfl rfl) zad) (zv rfl (za5 (xs:=[.tmp 7]) (zdj zo) (.cons (vq 4 rfl) .nil)) (oc (ob_a rfl rfl (za7 (lz0 0 rfl) zbw)) (zv rfl (za4 6 rfl zk trivial (lz0 0 rfl) (Sub.part 2 rfl rfl) zad) (zv rfl (za5 (xs:=[.tmp 10]) (zdj zo) (.cons (vq 7 rfl) .nil)) (oc (ob_a rfl rfl (za7 (lz0 0 rfl) zc0)) (zv rfl (za4 9 rfl zk trivial (lz0 0 rfl) (Sub.part 3 rfl rfl) zad) (zv rfl (za5 (xs:=[.tmp 13]) (zdj zo) (.cons (vq 10 rfl) .nil)) (zv rfl (zb8 (xs:=[(0,.tmp 5),(1,.tmp 8),(2,.tmp 11),(3,.tmp 14)]) (qs:=[(0,_),(1,_),(2,_),(3,_)]) zar (.cons ⟨rfl,(vq 2 rfl),rfl⟩ (.cons ⟨rfl,(vq 5 rfl),rfl⟩ (.cons ⟨rfl,(vq 8 rfl),rfl⟩ (.cons ⟨rfl,(vq 11 rfl),rfl⟩ .nil))))) (oc (zac rfl rfl rfl (vq 12 rfl) zb2 (Eq.trans (b:=16) rfl rfl)) o0)))))))))))))) zk zk zk zk (zz [] [⟨1,32,ptrH,_⟩,⟨2,32,ptrH,_⟩] fun a w O=>?_)
 refine za0<|wp_ret<|zae ?_ (zak rfl O (zm 1 rfl) zb2)
 exact zbi
theorem zzp {p q:Rat}{kd:Int}  : Cm Tryz.prog 151 32 (QMA 2 ⟨1,0,0,1⟩) (cat [QA 2 1,QA 2048 p,QA 2 0,QA 2 1]) [.v ((ElP 64 (QEA 2048 kd p q))),.w (ptrH)] (Tu []):=by
 refine Cm.introK 1 Tryz.func151 rfl zk nq (fun g=>zm 1 rfl) (fun B g w0 a O=>?_)
 have O:=zn [(0,(ElP 64 (QEA 2048 kd p q))),(1,EqV ((ptrH).f g))] [⟨1,32,ptrH,QMA 2 ⟨1,0,0,1⟩⟩] O
 refine zg [some (4,_)] [] [.val 2 _,.val 3 _,.val 4 _,.adr 5 1 (.some 4) True,.sto 0] [.g 1] O (zv rfl (zb0 (gq 0 rfl) zcd (Sub.part 1 rfl rfl)) (zv rfl (zaj (vq 0 rfl) zad) (zv rfl (za5 (xs:=[.tmp 3]) (zl9 zo) (.cons (vq 1 rfl) .nil)) (oc (ob_a rfl rfl (za7 (lz0 0 rfl) zc1)) (oc (zlz 3 rfl rfl rfl rfl zk (vq 2 rfl) zad (Put.part 1 rfl rfl rfl)) o0))))) (zz [(1,_)] [⟨1,32,ptrH,_⟩] fun a w O=>?_)
 refine zcs<|zr0 O (zm 0 rfl) (zm 0 rfl) ?_
 refine zae ?_ (zb1 (rs:=[]) rfl O .nil zd)
 exact zbi
theorem zzo {p q:Rat}{kd:Int}  : Cm Tryz.prog 152 32 (QMA 2 ⟨1,0,0,1⟩) (cat [QA 2 1,QA 2 0,QA 2051 (0-p),QA 2 1]) [.v ((ElP 64 (QEA 2048 kd p q))),.w (ptrH)] (Tu []):=by
 refine Cm.introK 1 Tryz.func152 rfl zk nq (fun g=>zm 1 rfl) (fun B g w0 a O=>?_)
 have O:=zn [(0,(ElP 64 (QEA 2048 kd p q))),(1,EqV ((ptrH).f g))] [⟨1,32,ptrH,QMA 2 ⟨1,0,0,1⟩⟩] O
 refine zg [some (4,_)] [] [.val 2 _,.val 3 _,.val 4 _,.adr 5 1 (.some 8) True,.sto 0] [.g 1] O (zv rfl (zb0 (gq 0 rfl) zcd (Sub.part 1 rfl rfl)) (zv rfl (zaj (vq 0 rfl) zad) (zv rfl (za5 (xs:=[.tmp 3]) (zdj zo) (.cons (vq 1 rfl) .nil)) (oc (ob_a rfl rfl (za7 (lz0 0 rfl) zbw)) (oc (zlz 3 rfl rfl rfl rfl zk (vq 2 rfl) zad (Put.part 2 rfl rfl rfl)) o0))))) (zz [(1,_)] [⟨1,32,ptrH,_⟩] fun a w O=>?_)
 refine zcs<|zr0 O (zm 0 rfl) (zm 0 rfl) ?_
 refine zae ?_ (zb1 (rs:=[]) rfl O .nil zd)
 exact zbi
theorem zzn {p q:Rat}{kd:Int}(h0:q≠0):Cm Tryz.prog 154 32 (QMA 2 ⟨1,0,0,1⟩) (cat [QA 2 1,QA 4096 (p/q),QA 2 0,QA 2 1]) [.v ((ElP 64 (QEA 2048 kd p q))),.w (ptrH)] (Tu []):=by
 refine Cm.introK 1 Tryz.func154 rfl zk nq (fun g=>zm 1 rfl) (fun B g w0 a O=>?_)
 have O:=zn [(0,(ElP 64 (QEA 2048 kd p q))),(1,EqV ((ptrH).f g))] [⟨1,32,ptrH,QMA 2 ⟨1,0,0,1⟩⟩] O
 refine zg [some (6,_)] [] [.val 2 _,.val 3 _,.val 4 _,.val 5 _,.val 6 _,.adr 7 1 (.some 4) True,.sto 0] [.g 1] O (zv rfl (zb0 (gq 0 rfl) zcd (Sub.part 1 rfl rfl)) (zv rfl (zaj (vq 0 rfl) zad) (zv rfl (zb0 (gq 0 rfl) zcg (Sub.part 2 rfl rfl)) (zv rfl (zaj (vq 2 rfl) zad) (zv rfl (za5 (xs:=[.tmp 3,.tmp 5]) (over_q zd h0) (.cons (vq 1 rfl) (.cons (vq 3 rfl) .nil))) (oc (ob_a rfl rfl (za7 (lz0 0 rfl) zc1)) (oc (zlz 5 rfl rfl rfl rfl zk (vq 4 rfl) zad (Put.part 1 rfl rfl rfl)) o0))))))) (zz [(1,_)] [⟨1,32,ptrH,_⟩] fun a w O=>?_)
 refine zcs<|zr0 O (zm 0 rfl) (zm 0 rfl) ?_
 refine zae ?_ (zb1 (rs:=[]) rfl O .nil zd)
 exact zbi
theorem zzm {p q:Rat}{kd:Int}  : Cm Tryz.prog 156 32 (QMA 2 ⟨1,0,0,1⟩) (cat [QA 2 1,QA 2 0,QA 4099 (0-p*q),QA 2 1]) [.v ((ElP 64 (QEA 2048 kd p q))),.w (ptrH)] (Tu []):=by
 refine Cm.introK 1 Tryz.func156 rfl zk nq (fun g=>zm 1 rfl) (fun B g w0 a O=>?_)
 have O:=zn [(0,(ElP 64 (QEA 2048 kd p q))),(1,EqV ((ptrH).f g))] [⟨1,32,ptrH,QMA 2 ⟨1,0,0,1⟩⟩] O
 refine zg [some (7,_)] [] [.val 2 _,.val 3 _,.val 4 _,.val 5 _,.val 6 _,.val 7 _,.adr 8 1 (.some 8) True,.sto 0] [.g 1] O (zv rfl (zb0 (gq 0 rfl) zcd (Sub.part 1 rfl rfl)) (zv rfl (zaj (vq 0 rfl) zad) (zv rfl (zb0 (gq 0 rfl) zcg (Sub.part 2 rfl rfl)) (zv rfl (zaj (vq 2 rfl) zad) (zv rfl (za5 (xs:=[.tmp 3,.tmp 5]) (zgl zo) (.cons (vq 1 rfl) (.cons (vq 3 rfl) .nil))) (zv rfl (za5 (xs:=[.tmp 6]) (zdj zo) (.cons (vq 4 rfl) .nil)) (oc (ob_a rfl rfl (za7 (lz0 0 rfl) zbw)) (oc (zlz 6 rfl rfl rfl rfl zk (vq 5 rfl) zad (Put.part 2 rfl rfl rfl)) o0)))))))) (zz [(1,_)] [⟨1,32,ptrH,_⟩] fun a w O=>?_)
 refine zcs<|zr0 O (zm 0 rfl) (zm 0 rfl) ?_
 refine zae ?_ (zb1 (rs:=[]) rfl O .nil zd)
 exact zbi
theorem zzl  : Cm Tryz.prog 157 32 (QMA 2 ⟨1,0,0,1⟩) (QMA 5 ⟨0-1,0-0,0-0,0-1⟩) [.w (ptrH),] (Tu []):=by
 refine Cm.intro Tryz.func157 rfl zk nq (fun B g w0 a O=>?_)
 have O:=zn [(0,EqV ((ptrH).f g)),] [⟨0,32,ptrH,QMA 2 ⟨1,0,0,1⟩⟩] O
 refine zg [some (2,_)] [] [.val 1 _,.val 2 _,.sto 0] [.g 0] O (zv rfl (zam (lz0 0 rfl) zb2) (zv rfl (za5 (xs:=[.tmp 1]) (znq (m:=⟨_,_,_,_⟩) zo) (.cons (vq 0 rfl) .nil)) (oc (zac rfl rfl rfl (vq 1 rfl) zb2 (Eq.trans (b:=16) rfl rfl)) o0))) (zz [(0,_)] [⟨0,32,ptrH,_⟩] fun a w O=>?_)
 refine zcs<|zgb O (zm 0 rfl) (zm 0 rfl) ?_
 refine zae ?_ (zb1 (rs:=[]) rfl O .nil zd)
 exact zbi
theorem rowOfK1 {p q:Rat}  : Cn Tryz.prog 86 [(QEA 2048 ((1:Nat):Int) p q).va] ((QMA 4099 ⟨1,p,0,1⟩).va):=by
 refine Cn.intro Tryz.func86 rfl zk nq (fun B w0 a O=>?_)
 have O:=zn [(0,(QEA 2048 ((1:Nat):Int) p q).va)] [] O
 refine wp_seq<|zg [] [⟨1,64,ptrH,some 0,_,none⟩,⟨2,32,ptrH,some 1,_,none⟩] [.alc 0,.alc 1] [] O (oc (zan rfl rfl rfl (gq 0 rfl)) (oc (zaq rfl rfl rfl (Str.zero zar)) o0)) (zz [] [⟨1,64,ptrH,_⟩,⟨2,32,ptrH,_⟩] fun a w O=>?_)
 refine zt<|zg [none,none] [⟨3,32,ptrH,some 1,_,some (2,_)⟩] [.val 5 _,.alc 2,.sto 2] [] O (zv rfl (za5 (xs:=[]) zg1 .nil) (oc (zaq rfl rfl rfl (Str.zero zar)) (oc (zac rfl rfl rfl (vq 0 rfl) zb2 (Eq.trans (b:=16) rfl rfl)) o0))) (zz [] [⟨1,64,ptrH,_⟩,⟨2,32,ptrH,_⟩,⟨3,32,ptrH,_⟩] fun a w O=>?_)
 refine zt ?_
 obtain ⟨q1,O⟩:=St.nm O 0 rfl
 obtain ⟨q3,O⟩:=St.nm O 2 rfl
 refine zg [none,none,none] [⟨4,208,ptrH,some 6,_,some (7,_)⟩] [.val 6 _,.val 7 _,.val 8 _,.val 9 _,.val 10 _,.val 11 _,.alc 3,.sto 3] [.g 0,.g 1] O (zv rfl (zdx (xs:=[.tmp 1,.tmp 3]) (vs:=[ptr q1,ptr q3]) (.cons (gq 1 rfl) (.cons (gq 0 rfl) .nil))) (zv rfl (zdx (xs:=[.tmp 1,.tmp 3]) (vs:=[ptr q1,ptr q3]) (.cons (gq 1 rfl) (.cons (gq 0 rfl) .nil))) (zv rfl (zdx (xs:=[.tmp 1,.tmp 3]) (vs:=[ptr q1,ptr q3]) (.cons (gq 1 rfl) (.cons (gq 0 rfl) .nil))) (zv rfl (zdx (xs:=[.tmp 1,.tmp 3]) (vs:=[ptr q1,ptr q3]) (.cons (gq 1 rfl) (.cons (gq 0 rfl) .nil))) (zv rfl (zdx (xs:=[.tmp 3]) (vs:=[ptr q3]) (.cons (gq 0 rfl) .nil)) (zv rfl (zh0 (xs:=[(0,.func 150),(1,.tmp 6),(2,.tmp 7),(3,.tmp 8),(4,.tmp 9),(5,.tmp 10)]) (qs:=[(0,_),(1,_),(2,_),(3,_),(4,_),(5,_)]) zen (.cons ⟨rfl,zgr,rfl⟩ (.cons ⟨rfl,(vq 0 rfl),rfl⟩ (.cons ⟨rfl,(vq 1 rfl),rfl⟩ (.cons ⟨rfl,(vq 2 rfl),rfl⟩ (.cons ⟨rfl,(vq 3 rfl),rfl⟩ (.cons ⟨rfl,(vq 4 rfl),rfl⟩ .nil))))))) (oc (zaq rfl rfl rfl (Arr.zero zen)) (oc (zac rfl rfl rfl (vq 5 rfl) znj (Eq.trans (b:=6) rfl rfl)) o0)))))))) (zz [(3,_),(1,_)] [⟨1,64,ptrH,_⟩,⟨2,32,ptrH,_⟩,⟨3,32,ptrH,_⟩,⟨4,208,ptrH,_⟩] fun a w O=>?_)
 refine zt<|zg [none,none,some (4,_),none] [] [.adr 12 1 (.some 0) True,.val 13 _,.val 14 _,.val 15 _,.cal 16 _ 2] [.g 0,.g 1] O (oc (ob_a rfl rfl (za7 (lz0 0 rfl) zcw)) (zv rfl (za4 0 rfl zk trivial (lz0 0 rfl) (Sub.part 0 rfl rfl) zgu) (zv rfl (znv (m:=1) (lz0 3 rfl) Tryz.underlying208 zk (n_ok zk) (vq 1 rfl) rfl) (zv rfl (zaj (vq 2 rfl) ty_1) (oc (zjn (xs:=[.tmp 1,.tmp 3]) (vs:=[ptr q1,ptr q3]) rfl rfl rfl zzp (vq 3 rfl) (.cons (gq 1 rfl) (.cons (gq 0 rfl) .nil)) (.cons (zbe (lz0 0 rfl)) (.cons arw .nil))) o0))))) (zz [(3,_),(1,_)] [⟨1,64,ptrH,_⟩,⟨2,32,ptrH,_⟩,⟨3,32,ptrH,_⟩,⟨4,208,ptrH,_⟩] fun a w O=>?_)
 refine zt<|zg [none,some (1,_),none,none] [] [.val 17 _,.sto 1] [.g 0,.g 1] O (zv rfl (zam (lz0 2 rfl) zb2) (oc (zac rfl rfl rfl (vq 0 rfl) zb2 (Eq.trans (b:=16) rfl rfl)) o0)) (zz [(3,_),(1,_)] [⟨1,64,ptrH,_⟩,⟨2,32,ptrH,_⟩,⟨3,32,ptrH,_⟩,⟨4,208,ptrH,_⟩] fun a w O=>?_)
 refine za0<|wp_ret<|zae ?_ (zak rfl O (zm 1 rfl) zb2)
 exact (zc8 (.cons (zbg zd) (.cons (zbg zd) (.cons (zbg zd) (.cons (zbg zd) .nil))))).va
theorem rowOfK2 {p q:Rat}  : Cn Tryz.prog 86 [(QEA 2048 ((2:Nat):Int) p q).va] ((QMA 4099 ⟨1,0,0-p,1⟩).va):=by
 refine Cn.intro Tryz.func86 rfl zk nq (fun B w0 a O=>?_)
 have O:=zn [(0,(QEA 2048 ((2:Nat):Int) p q).va)] [] O
 refine wp_seq<|zg [] [⟨1,64,ptrH,some 0,_,none⟩,⟨2,32,ptrH,some 1,_,none⟩] [.alc 0,.alc 1] [] O (oc (zan rfl rfl rfl (gq 0 rfl)) (oc (zaq rfl rfl rfl (Str.zero zar)) o0)) (zz [] [⟨1,64,ptrH,_⟩,⟨2,32,ptrH,_⟩] fun a w O=>?_)
 refine zt<|zg [none,none] [⟨3,32,ptrH,some 1,_,some (2,_)⟩] [.val 5 _,.alc 2,.sto 2] [] O (zv rfl (za5 (xs:=[]) zg1 .nil) (oc (zaq rfl rfl rfl (Str.zero zar)) (oc (zac rfl rfl rfl (vq 0 rfl) zb2 (Eq.trans (b:=16) rfl rfl)) o0))) (zz [] [⟨1,64,ptrH,_⟩,⟨2,32,ptrH,_⟩,⟨3,32,ptrH,_⟩] fun a w O=>?_)
 refine zt ?_
 obtain ⟨q1,O⟩:=St.nm O 0 rfl
 obtain ⟨q3,O⟩:=St.nm O 2 rfl
 refine zg [none,none,none] [⟨4,208,ptrH,some 6,_,some (7,_)⟩] [.val 6 _,.val 7 _,.val 8 _,.val 9 _,.val 10 _,.val 11 _,.alc 3,.sto 3] [.g 0,.g 1] O (zv rfl (zdx (xs:=[.tmp 1,.tmp 3]) (vs:=[ptr q1,ptr q3]) (.cons (gq 1 rfl) (.cons (gq 0 rfl) .nil))) (zv rfl (zdx (xs:=[.tmp 1,.tmp 3]) (vs:=[ptr q1,ptr q3]) (.cons (gq 1 rfl) (.cons (gq 0 rfl) .nil))) (zv rfl (zdx (xs:=[.tmp 1,.tmp 3]) (vs:=[ptr q1,ptr q3]) (.cons (gq 1 rfl) (.cons (gq 0 rfl) .nil))) (zv rfl (zdx (xs:=[.tmp 1,.tmp 3]) (vs:=[ptr q1,ptr q3]) (.cons (gq 1 rfl) (.cons (gq 0 rfl) .nil))) (zv rfl (zdx (xs:=[.tmp 3]) (vs:=[ptr q3]) (.cons (gq 0 rfl) .nil)) (zv rfl (zh0 (xs:=[(0,.func 150),(1,.tmp 6),(2,.tmp 7),(3,.tmp 8),(4,.tmp 9),(5,.tmp 10)]) (qs:=[(0,_),(1,_),(2,_),(3,_),(4,_),(5,_)]) zen (.cons ⟨rfl,zgr,rfl⟩ (.cons ⟨rfl,(vq 0 rfl),rfl⟩ (.cons ⟨rfl,(vq 1 rfl),rfl⟩ (.cons ⟨rfl,(vq 2 rfl),rfl⟩ (.cons ⟨rfl,(vq 3 rfl),rfl⟩ (.cons ⟨rfl,(vq 4 rfl),rfl⟩ .nil))))))) (oc (zaq rfl rfl rfl (Arr.zero zen)) (oc (zac rfl rfl rfl (vq 5 rfl) znj (Eq.trans (b:=6) rfl rfl)) o0)))))))) (zz [(3,_),(1,_)] [⟨1,64,ptrH,_⟩,⟨2,32,ptrH,_⟩,⟨3,32,ptrH,_⟩,⟨4,208,ptrH,_⟩] fun a w O=>?_)
 refine zt<|zg [none,none,some (4,_),none] [] [.adr 12 1 (.some 0) True,.val 13 _,.val 14 _,.val 15 _,.cal 16 _ 2] [.g 0,.g 1] O (oc (ob_a rfl rfl (za7 (lz0 0 rfl) zcw)) (zv rfl (za4 0 rfl zk trivial (lz0 0 rfl) (Sub.part 0 rfl rfl) zgu) (zv rfl (znv (m:=1) (lz0 3 rfl) Tryz.underlying208 zk (n_ok zk) (vq 1 rfl) rfl) (zv rfl (zaj (vq 2 rfl) ty_1) (oc (zjn (xs:=[.tmp 1,.tmp 3]) (vs:=[ptr q1,ptr q3]) rfl rfl rfl zzo (vq 3 rfl) (.cons (gq 1 rfl) (.cons (gq 0 rfl) .nil)) (.cons (zbe (lz0 0 rfl)) (.cons arw .nil))) o0))))) (zz [(3,_),(1,_)] [⟨1,64,ptrH,_⟩,⟨2,32,ptrH,_⟩,⟨3,32,ptrH,_⟩,⟨4,208,ptrH,_⟩] fun a w O=>?_)
 refine zt<|zg [none,some (1,_),none,none] [] [.val 17 _,.sto 1] [.g 0,.g 1] O (zv rfl (zam (lz0 2 rfl) zb2) (oc (zac rfl rfl rfl (vq 0 rfl) zb2 (Eq.trans (b:=16) rfl rfl)) o0)) (zz [(3,_),(1,_)] [⟨1,64,ptrH,_⟩,⟨2,32,ptrH,_⟩,⟨3,32,ptrH,_⟩,⟨4,208,ptrH,_⟩] fun a w O=>?_)
 refine za0<|wp_ret<|zae ?_ (zak rfl O (zm 1 rfl) zb2)
 exact (zc8 (.cons (zbg zd) (.cons (zbg zd) (.cons (zbg zd) (.cons (zbg zd) .nil))))).va
theorem rowOfK3 {p q:Rat}(h0:q≠0):Cn Tryz.prog 86 [(QEA 2048 ((3:Nat):Int) p q).va] ((QMA 4099 ⟨1,p/q,0,1⟩).va):=by
 refine Cn.intro Tryz.func86 rfl zk nq (fun B w0 a O=>?_)
 have O:=zn [(0,(QEA 2048 ((3:Nat):Int) p q).va)] [] O
 refine wp_seq<|zg [] [⟨1,64,ptrH,some 0,_,none⟩,⟨2,32,ptrH,some 1,_,none⟩] [.alc 0,.alc 1] [] O (oc (zan rfl rfl rfl (gq 0 rfl)) (oc (zaq rfl rfl rfl (Str.zero zar)) o0)) (zz [] [⟨1,64,ptrH,_⟩,⟨2,32,ptrH,_⟩] fun a w O=>?_)
 refine zt<|zg [none,none] [⟨3,32,ptrH,some 1,_,some (2,_)⟩] [.val 5 _,.alc 2,.sto 2] [] O (zv rfl (za5 (xs:=[]) zg1 .nil) (oc (zaq rfl rfl rfl (Str.zero zar)) (oc (zac rfl rfl rfl (vq 0 rfl) zb2 (Eq.trans (b:=16) rfl rfl)) o0))) (zz [] [⟨1,64,ptrH,_⟩,⟨2,32,ptrH,_⟩,⟨3,32,ptrH,_⟩] fun a w O=>?_)
 refine zt ?_
 obtain ⟨q1,O⟩:=St.nm O 0 rfl
 obtain ⟨q3,O⟩:=St.nm O 2 rfl
 refine zg [none,none,none] [⟨4,208,ptrH,some 6,_,some (7,_)⟩] [.val 6 _,.val 7 _,.val 8 _,.val 9 _,.val 10 _,.val 11 _,.alc 3,.sto 3] [.g 0,.g 1] O (zv rfl (zdx (xs:=[.tmp 1,.tmp 3]) (vs:=[ptr q1,ptr q3]) (.cons (gq 1 rfl) (.cons (gq 0 rfl) .nil))) (zv rfl (zdx (xs:=[.tmp 1,.tmp 3]) (vs:=[ptr q1,ptr q3]) (.cons (gq 1 rfl) (.cons (gq 0 rfl) .nil))) (zv rfl (zdx (xs:=[.tmp 1,.tmp 3]) (vs:=[ptr q1,ptr q3]) (.cons (gq 1 rfl) (.cons (gq 0 rfl) .nil))) (zv rfl (zdx (xs:=[.tmp 1,.tmp 3]) (vs:=[ptr q1,ptr q3]) (.cons (gq 1 rfl) (.cons (gq 0 rfl) .nil))) (zv rfl (zdx (xs:=[.tmp 3]) (vs:=[ptr q3]) (.cons (gq 0 rfl) .nil)) (zv rfl (zh0 (xs:=[(0,.func 150),(1,.tmp 6),(2,.tmp 7),(3,.tmp 8),(4,.tmp 9),(5,.tmp 10)]) (qs:=[(0,_),(1,_),(2,_),(3,_),(4,_),(5,_)]) zen (.cons ⟨rfl,zgr,rfl⟩ (.cons ⟨rfl,(vq 0 rfl),rfl⟩ (.cons ⟨rfl,(vq 1 rfl),rfl⟩ (.cons ⟨rfl,(vq 2 rfl),rfl⟩ (.cons ⟨rfl,(vq 3 rfl),rfl⟩ (.cons ⟨rfl,(vq 4 rfl),rfl⟩ .nil))))))) (oc (zaq rfl rfl rfl (Arr.zero zen)) (oc (zac rfl rfl rfl (vq 5 rfl) znj (Eq.trans (b:=6) rfl rfl)) o0)))))))) (zz [(3,_),(1,_)] [⟨1,64,ptrH,_⟩,⟨2,32,ptrH,_⟩,⟨3,32,ptrH,_⟩,⟨4,208,ptrH,_⟩] fun a w O=>?_)
 refine zt<|zg [none,none,some (4,_),none] [] [.adr 12 1 (.some 0) True,.val 13 _,.val 14 _,.val 15 _,.cal 16 _ 2] [.g 0,.g 1] O (oc (ob_a rfl rfl (za7 (lz0 0 rfl) zcw)) (zv rfl (za4 0 rfl zk trivial (lz0 0 rfl) (Sub.part 0 rfl rfl) zgu) (zv rfl (znv (m:=1) (lz0 3 rfl) Tryz.underlying208 zk (n_ok zk) (vq 1 rfl) rfl) (zv rfl (zaj (vq 2 rfl) ty_1) (oc (zjn (xs:=[.tmp 1,.tmp 3]) (vs:=[ptr q1,ptr q3]) rfl rfl rfl (zzn h0) (vq 3 rfl) (.cons (gq 1 rfl) (.cons (gq 0 rfl) .nil)) (.cons (zbe (lz0 0 rfl)) (.cons arw .nil))) o0))))) (zz [(3,_),(1,_)] [⟨1,64,ptrH,_⟩,⟨2,32,ptrH,_⟩,⟨3,32,ptrH,_⟩,⟨4,208,ptrH,_⟩] fun a w O=>?_)
 refine zt<|zg [none,some (1,_),none,none] [] [.val 17 _,.sto 1] [.g 0,.g 1] O (zv rfl (zam (lz0 2 rfl) zb2) (oc (zac rfl rfl rfl (vq 0 rfl) zb2 (Eq.trans (b:=16) rfl rfl)) o0)) (zz [(3,_),(1,_)] [⟨1,64,ptrH,_⟩,⟨2,32,ptrH,_⟩,⟨3,32,ptrH,_⟩,⟨4,208,ptrH,_⟩] fun a w O=>?_)
 refine za0<|wp_ret<|zae ?_ (zak rfl O (zm 1 rfl) zb2)
 exact (zc8 (.cons (zbg zd) (.cons (zbg zd) (.cons (zbg zd) (.cons (zbg zd) .nil))))).va
theorem rowOfK4 {p q:Rat}  : Cn Tryz.prog 86 [(QEA 2048 ((4:Nat):Int) p q).va] ((QMA 4099 ⟨1,0,0-p*q,1⟩).va):=by
 refine Cn.intro Tryz.func86 rfl zk nq (fun B w0 a O=>?_)
 have O:=zn [(0,(QEA 2048 ((4:Nat):Int) p q).va)] [] O
 refine wp_seq<|zg [] [⟨1,64,ptrH,some 0,_,none⟩,⟨2,32,ptrH,some 1,_,none⟩] [.alc 0,.alc 1] [] O (oc (zan rfl rfl rfl (gq 0 rfl)) (oc (zaq rfl rfl rfl (Str.zero zar)) o0)) (zz [] [⟨1,64,ptrH,_⟩,⟨2,32,ptrH,_⟩] fun a w O=>?_)
 refine zt<|zg [none,none] [⟨3,32,ptrH,some 1,_,some (2,_)⟩] [.val 5 _,.alc 2,.sto 2] [] O (zv rfl (za5 (xs:=[]) zg1 .nil) (oc (zaq rfl rfl rfl (Str.zero zar)) (oc (zac rfl rfl rfl (vq 0 rfl) zb2 (Eq.trans (b:=16) rfl rfl)) o0))) (zz [] [⟨1,64,ptrH,_⟩,⟨2,32,ptrH,_⟩,⟨3,32,ptrH,_⟩] fun a w O=>?_)
 refine zt ?_
 obtain ⟨q1,O⟩:=St.nm O 0 rfl
 obtain ⟨q3,O⟩:=St.nm O 2 rfl
 refine zg [none,none,none] [⟨4,208,ptrH,some 6,_,some (7,_)⟩] [.val 6 _,.val 7 _,.val 8 _,.val 9 _,.val 10 _,.val 11 _,.alc 3,.sto 3] [.g 0,.g 1] O (zv rfl (zdx (xs:=[.tmp 1,.tmp 3]) (vs:=[ptr q1,ptr q3]) (.cons (gq 1 rfl) (.cons (gq 0 rfl) .nil))) (zv rfl (zdx (xs:=[.tmp 1,.tmp 3]) (vs:=[ptr q1,ptr q3]) (.cons (gq 1 rfl) (.cons (gq 0 rfl) .nil))) (zv rfl (zdx (xs:=[.tmp 1,.tmp 3]) (vs:=[ptr q1,ptr q3]) (.cons (gq 1 rfl) (.cons (gq 0 rfl) .nil))) (zv rfl (zdx (xs:=[.tmp 1,.tmp 3]) (vs:=[ptr q1,ptr q3]) (.cons (gq 1 rfl) (.cons (gq 0 rfl) .nil))) (zv rfl (zdx (xs:=[.tmp 3]) (vs:=[ptr q3]) (.cons (gq 0 rfl) .nil)) (zv rfl (zh0 (xs:=[(0,.func 150),(1,.tmp 6),(2,.tmp 7),(3,.tmp 8),(4,.tmp 9),(5,.tmp 10)]) (qs:=[(0,_),(1,_),(2,_),(3,_),(4,_),(5,_)]) zen (.cons ⟨rfl,zgr,rfl⟩ (.cons ⟨rfl,(vq 0 rfl),rfl⟩ (.cons ⟨rfl,(vq 1 rfl),rfl⟩ (.cons ⟨rfl,(vq 2 rfl),rfl⟩ (.cons ⟨rfl,(vq 3 rfl),rfl⟩ (.cons ⟨rfl,(vq 4 rfl),rfl⟩ .nil))))))) (oc (zaq rfl rfl rfl (Arr.zero zen)) (oc (zac rfl rfl rfl (vq 5 rfl) znj (Eq.trans (b:=6) rfl rfl)) o0)))))))) (zz [(3,_),(1,_)] [⟨1,64,ptrH,_⟩,⟨2,32,ptrH,_⟩,⟨3,32,ptrH,_⟩,⟨4,208,ptrH,_⟩] fun a w O=>?_)
 refine zt<|zg [none,none,some (4,_),none] [] [.adr 12 1 (.some 0) True,.val 13 _,.val 14 _,.val 15 _,.cal 16 _ 2] [.g 0,.g 1] O (oc (ob_a rfl rfl (za7 (lz0 0 rfl) zcw)) (zv rfl (za4 0 rfl zk trivial (lz0 0 rfl) (Sub.part 0 rfl rfl) zgu) (zv rfl (znv (m:=1) (lz0 3 rfl) Tryz.underlying208 zk (n_ok zk) (vq 1 rfl) rfl) (zv rfl (zaj (vq 2 rfl) ty_1) (oc (zjn (xs:=[.tmp 1,.tmp 3]) (vs:=[ptr q1,ptr q3]) rfl rfl rfl zzm (vq 3 rfl) (.cons (gq 1 rfl) (.cons (gq 0 rfl) .nil)) (.cons (zbe (lz0 0 rfl)) (.cons arw .nil))) o0))))) (zz [(3,_),(1,_)] [⟨1,64,ptrH,_⟩,⟨2,32,ptrH,_⟩,⟨3,32,ptrH,_⟩,⟨4,208,ptrH,_⟩] fun a w O=>?_)
 refine zt<|zg [none,some (1,_),none,none] [] [.val 17 _,.sto 1] [.g 0,.g 1] O (zv rfl (zam (lz0 2 rfl) zb2) (oc (zac rfl rfl rfl (vq 0 rfl) zb2 (Eq.trans (b:=16) rfl rfl)) o0)) (zz [(3,_),(1,_)] [⟨1,64,ptrH,_⟩,⟨2,32,ptrH,_⟩,⟨3,32,ptrH,_⟩,⟨4,208,ptrH,_⟩] fun a w O=>?_)
 refine za0<|wp_ret<|zae ?_ (zak rfl O (zm 1 rfl) zb2)
 exact (zc8 (.cons (zbg zd) (.cons (zbg zd) (.cons (zbg zd) (.cons (zbg zd) .nil))))).va
theorem rowOfK5 {p q:Rat}  : Cn Tryz.prog 86 [(QEA 2048 ((5:Nat):Int) p q).va] ((QMA 4099 ⟨0-1,0-0,0-0,0-1⟩).va):=by
 refine Cn.intro Tryz.func86 rfl zk nq (fun B w0 a O=>?_)
 have O:=zn [(0,(QEA 2048 ((5:Nat):Int) p q).va)] [] O
 refine wp_seq<|zg [] [⟨1,64,ptrH,some 0,_,none⟩,⟨2,32,ptrH,some 1,_,none⟩] [.alc 0,.alc 1] [] O (oc (zan rfl rfl rfl (gq 0 rfl)) (oc (zaq rfl rfl rfl (Str.zero zar)) o0)) (zz [] [⟨1,64,ptrH,_⟩,⟨2,32,ptrH,_⟩] fun a w O=>?_)
 refine zt<|zg [none,none] [⟨3,32,ptrH,some 1,_,some (2,_)⟩] [.val 5 _,.alc 2,.sto 2] [] O (zv rfl (za5 (xs:=[]) zg1 .nil) (oc (zaq rfl rfl rfl (Str.zero zar)) (oc (zac rfl rfl rfl (vq 0 rfl) zb2 (Eq.trans (b:=16) rfl rfl)) o0))) (zz [] [⟨1,64,ptrH,_⟩,⟨2,32,ptrH,_⟩,⟨3,32,ptrH,_⟩] fun a w O=>?_)
 refine zt ?_
 obtain ⟨q1,O⟩:=St.nm O 0 rfl
 obtain ⟨q3,O⟩:=St.nm O 2 rfl
 refine zg [none,none,none] [⟨4,208,ptrH,some 6,_,some (7,_)⟩] [.val 6 _,.val 7 _,.val 8 _,.val 9 _,.val 10 _,.val 11 _,.alc 3,.sto 3] [.g 0,.g 1] O (zv rfl (zdx (xs:=[.tmp 1,.tmp 3]) (vs:=[ptr q1,ptr q3]) (.cons (gq 1 rfl) (.cons (gq 0 rfl) .nil))) (zv rfl (zdx (xs:=[.tmp 1,.tmp 3]) (vs:=[ptr q1,ptr q3]) (.cons (gq 1 rfl) (.cons (gq 0 rfl) .nil))) (zv rfl (zdx (xs:=[.tmp 1,.tmp 3]) (vs:=[ptr q1,ptr q3]) (.cons (gq 1 rfl) (.cons (gq 0 rfl) .nil))) (zv rfl (zdx (xs:=[.tmp 1,.tmp 3]) (vs:=[ptr q1,ptr q3]) (.cons (gq 1 rfl) (.cons (gq 0 rfl) .nil))) (zv rfl (zdx (xs:=[.tmp 3]) (vs:=[ptr q3]) (.cons (gq 0 rfl) .nil)) (zv rfl (zh0 (xs:=[(0,.func 150),(1,.tmp 6),(2,.tmp 7),(3,.tmp 8),(4,.tmp 9),(5,.tmp 10)]) (qs:=[(0,_),(1,_),(2,_),(3,_),(4,_),(5,_)]) zen (.cons ⟨rfl,zgr,rfl⟩ (.cons ⟨rfl,(vq 0 rfl),rfl⟩ (.cons ⟨rfl,(vq 1 rfl),rfl⟩ (.cons ⟨rfl,(vq 2 rfl),rfl⟩ (.cons ⟨rfl,(vq 3 rfl),rfl⟩ (.cons ⟨rfl,(vq 4 rfl),rfl⟩ .nil))))))) (oc (zaq rfl rfl rfl (Arr.zero zen)) (oc (zac rfl rfl rfl (vq 5 rfl) znj (Eq.trans (b:=6) rfl rfl)) o0)))))))) (zz [(3,_),(1,_)] [⟨1,64,ptrH,_⟩,⟨2,32,ptrH,_⟩,⟨3,32,ptrH,_⟩,⟨4,208,ptrH,_⟩] fun a w O=>?_)
 refine zt<|zg [none,none,some (4,_),none] [] [.adr 12 1 (.some 0) True,.val 13 _,.val 14 _,.val 15 _,.cal 16 _ 2] [.g 0,.g 1] O (oc (ob_a rfl rfl (za7 (lz0 0 rfl) zcw)) (zv rfl (za4 0 rfl zk trivial (lz0 0 rfl) (Sub.part 0 rfl rfl) zgu) (zv rfl (znv (m:=1) (lz0 3 rfl) Tryz.underlying208 zk (n_ok zk) (vq 1 rfl) rfl) (zv rfl (zaj (vq 2 rfl) ty_1) (oc (zjn (xs:=[.tmp 3]) (vs:=[ptr q3]) rfl rfl rfl zzl (vq 3 rfl) (.cons (gq 0 rfl) .nil) (.cons arw .nil)) o0))))) (zz [(3,_),(1,_)] [⟨1,64,ptrH,_⟩,⟨2,32,ptrH,_⟩,⟨3,32,ptrH,_⟩,⟨4,208,ptrH,_⟩] fun a w O=>?_)
 refine zt<|zg [none,some (1,_),none,none] [] [.val 17 _,.sto 1] [.g 0,.g 1] O (zv rfl (zam (lz0 2 rfl) zb2) (oc (zac rfl rfl rfl (vq 0 rfl) zb2 (Eq.trans (b:=16) rfl rfl)) o0)) (zz [(3,_),(1,_)] [⟨1,64,ptrH,_⟩,⟨2,32,ptrH,_⟩,⟨3,32,ptrH,_⟩,⟨4,208,ptrH,_⟩] fun a w O=>?_)
 refine za0<|wp_ret<|zae ?_ (zak rfl O (zm 1 rfl) zb2)
 exact (zc8 (.cons (zbg zd) (.cons (zbg zd) (.cons (zbg zd) (.cons (zbg zd) .nil))))).va
end Go.Proofs.YtndjeibbjjpkfaaGreatDoor
