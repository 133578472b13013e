import Derived.Test.YthncfchnkjemiaaGreatDoorFdAa
import Derived.Test.YthncfchnkjemiaaGreatDoorFdAc
import Derived.Test.YthncfchnkjemiaaGreatDoorFdAy
import Derived.Test.YthncfchnkjemiaaGreatDoorFdBc
import Derived.Test.YthncfchnkjemiaaGreatDoorFdBd
import Derived.Test.YthncfchnkjemiaaGreatDoorFdBe
set_option linter.unusedVariables false
set_option linter.unusedSimpArgs false
set_option linter.unusedSectionVars false
set_option maxRecDepth 100000
namespace Go.Proofs.YthncfchnkjemiaaGreatDoor
open Go Go.RowKit
def RQR (x:RQ4):As:=cat [RGR x.a,RGR x.b,RGR x.c,RGR x.d]
def RQT (x:RQ4):As:=cat [RGT x.a,RGT x.b,RGT x.c,RGT x.d]
def OQ (x:RQ4):As:=cat [OG x.a,OG x.b,OG x.c,OG x.d]
def RQN (x:RQ4):As:=cat [RGN x.a,RGN x.b,RGN x.c,RGN x.d]
def TQD (x:RQ4):As:=DisA (RQT x)
theorem wkA_rqr {x:RQ4}:WkA (RQR x) (RQA x):=zbg (.cons zkj (.cons zkj (.cons zkj (.cons zkj .nil))))
theorem rqt_rqr {x:RQ4}:WkA (RQT x) (RQR x):=zbg (.cons zkr (.cons zkr (.cons zkr (.cons zkr .nil))))
theorem rqt_rqn {x:RQ4}:WkA (RQT x) (RQN x):=zbg (.cons zks (.cons zks (.cons zks (.cons zks .nil))))
theorem up_oq {x:RQ4}:UpA (RQA x) (OQ x):=ze9 (.cons up_og (.cons up_og (.cons up_og (.cons up_og .nil))))
theorem oq_rqa {x:RQ4}:WkA (OQ x) (RQA x):=zbg (.cons og_rga (.cons og_rga (.cons og_rga (.cons og_rga .nil))))
theorem upA_rqr {x:RQ4}:UpA (RQR x) (RQR x):=ze9 (.cons zkk (.cons zkk (.cons zkk (.cons zkk .nil))))
theorem upA_rq (x:RQ4):UpA (RQA x) (RQA x):=ze9 (.cons (zht _) (.cons (zht _) (.cons (zht _) (.cons (zht _) .nil))))
theorem new_rgt {x:RG}:NewA (RGT x):=zez fun A hA=>by
 simp at hA
 rcases hA with rfl | rfl <;> exact new_rft
theorem zie {x:RG}:FreeA (RGT x) (RGT x):=zdk (.cons zh1 (.cons zh1 .nil))
theorem new_tqd {x:RQ4}:NewA (TQD x):=zjg (zez fun A hA=>by
 simp at hA
 rcases hA with rfl | rfl | rfl | rfl <;> exact new_rgt)
theorem free_tqd {x:RQ4}:FreeA (TQD x) (TQD x):=zh9 (zdk (.cons zie (.cons zie (.cons zie (.cons zie .nil)))))
theorem tqd_rqn {x:RQ4}:WkA (TQD x) (DisA (RQN x)):=zf4 rqt_rqn
theorem tq_pins {u v s t:Value} {x:RQ4}:WkA (cat [PinA u ((TGD x.a).and (SepAll [] u)),PinA v ((TGD x.b).and (SepAll [u] v)),PinA s ((TGD x.c).and (SepAll [u,v] s)),PinA t ((TGD x.d).and (SepAll [u,v,s] t))]) (TQD x) :=
 (zh8 (l:=[(u,TGD x.a),(v,TGD x.b),(s,TGD x.c),(t,TGD x.d)]) (fun y hy=>by
  simp at hy
  rcases hy with rfl | rfl | rfl | rfl <;> exact dis_nod)).trans (zf4 (zbg (.cons dis_wk (.cons dis_wk (.cons dis_wk (.cons dis_wk .nil))))))
abbrev bdQ (x:RQ4):Prop:=bdG x.a∧bdG x.b∧bdG x.c∧bdG x.d
theorem rq_eq {x y:RQ4}:(((decide (x.a=y.a) && decide (x.b=y.b)) && decide (x.c=y.c)) && decide (x.d=y.d))=decide (x=y):=by
 cases x; cases y
 simp [Bool.and_assoc,RQ4.mk.injEq]
def GD (k:Nat) (z:GQ):As:=DisA (cat [QD k z.re,QD k z.im])
theorem gd_qga {k:Nat} {z:GQ}:WkA (GD k z) (QGA k z):=dis_wk.trans (zbg (.cons qd_qa (.cons qd_qa .nil)))
theorem gd_rgd {k:Nat} {z:GQ}:WkA (GD k z) (RGD (rgOf z)):=zf4 (zbg (.cons qd_rfn (.cons qd_rfn .nil)))
theorem gd_pins {u v:Value} {k:Nat} {z:GQ}:WkA (cat [PinA u ((QD k z.re).and (SepAll [] u)),PinA v ((QD k z.im).and (SepAll [u] v))]) (GD k z) :=
 zh8 (l:=[(u,QD k z.re),(v,QD k z.im)]) (fun y hy=>by
  simp at hy
  rcases hy with rfl | rfl <;> exact nod_qd)
theorem zeu:Str Tryz.prog 73 [NilF,NilF] :=
 Str.of (z:=.agg (([.bool false,.slice none 0 0,.bool false,.slice none 0 0]:List Value)++([.bool false,.slice none 0 0,.bool false,.slice none 0 0]:List Value)).toArray) zk Tryz.underlying73 zk fun B w=>⟨[([.bool false,.slice none 0 0,.bool false,.slice none 0 0]:List Value),([.bool false,.slice none 0 0,.bool false,.slice none 0 0]:List Value)],rfl,.cons nil_frac (.cons nil_frac .nil)⟩
theorem zg_rgd:WkA (cat [NilF,NilF]) (RGD rg0):=⟨rfl,rfl,fun B cs w h=>by
 have h1:=(zbg (.cons nilF_rfn (.cons nilF_rfn .nil))).2.2 _ _ _ h
 obtain ⟨ps,e,hp⟩:=h
 refine ⟨h1,?_⟩
 rw [e,cbl_nils (fun A hA=>by simp at hA; exact hA) hp]
 exact List.nodup_nil⟩
abbrev GRD (r:RG × Int):VA:=Tu [(RGD r.1).va,In r.2]
section
open Rg
variable {P:Program} {Q:Exit→Act→World→Prop} {B N:Nat} {w0:Bs} {Γ:List (Nat × VA)} {ops:Array Oper} {les:List LeF} {sp:List ((Nat→Value)→Sp)} {anc:Nat→List Nat} {i:Nat}
theorem of_callQ {d f c:Nat} {A:As} {us:(Nat→Value)→List Value} {pre pre':List VA} {xs:List Operand} {at_:Array TypeId} {T:TypeId} {ps:String} {af:Array Edge}
  (hs:sp[i]?=some (fun ν=>.val d (PinA (ν i) (A.and (SepAll (us ν) (ν i)))).va)) (ho:ops[i]?=some ⟨some d,.call ⟨.value (.tmp c),xs.toArray,at_⟩,T,ps,af,none⟩)
  (hc:Cn P f pre' A.va) (hnew:NewA A) (hfree:FreeA A A) (hup:All2 Up pre pre') (hv:∀ ν,Has (fam ops N Γ les sp anc ν) B w0 i (.tmp c) (EqA (.func (.func f) #[] #[])).va) (hx:∀ ν,HasL (fam ops N Γ les sp anc ν) B w0 i xs pre) (hus:∀ ν v,us (nuSet ν i v)=us ν) (hl:∀ ν,LiveR (fam ops N Γ les sp anc ν) B w0 i (us ν)):ObF P Q ops N Γ les sp anc B w0 i:=by
 refine .inr ⟨d,_,hs,fun ν a w av K hK=>?_⟩
 obtain ⟨⟨fn,hf,hn,hb⟩,hcall⟩:=hc
 have ev:a.eval (.tmp c)=.func (.func f) #[] #[]:=eqA_va (hv ν a w av)
 have hrun:(execOp a.eval ⟨some d,.call ⟨.value (.tmp c),xs.toArray,at_⟩,T,ps,af,none⟩).run P w=.ok (.enter f (xs.map a.eval).toArray) w:=by
  simp only [execOp,resolve,ev,Deferred.ofValue,Sem.run_bind,Sem.run_pure,Result.andThen_ok,invoke,zc2 hf hn hb]
  simp
 have hbw:=Av.bw av
 have hargs:All2 (fun (A:VA) v=>A.p w.heap.size v w) pre' (xs.map a.eval):=by
  have h1:=(hx ν).all av
  clear hcall hrun hx hs ho
  generalize xs.map a.eval=vs at h1
  induction hup generalizing vs with
  | nil=>cases h1; exact .nil
  | cons hu _ ih =>
   cases h1 with
   | cons h2 h3=>exact .cons (hu _ _ _ hbw h2) (ih _ h3)
 refine zc5 (R:=fam ops N Γ les sp anc ν) ho rfl ?_
 unfold Oper.wp
 rw [hrun]
 refine (hcall w.heap.size w _ (Nat.le_refl _) hargs).mono fun e w' ⟨v,he,⟨cs,hv,hsh⟩,hg⟩=>?_
 subst he
 refine hK v w' hg ⟨cs,⟨⟨?_,hfree.2.2 _ _ _ _ hbw hv⟩,?_⟩,hsh⟩
 ·rw [hus,zfh]
  intro u hu g hgu hgv
  have h1:=hl ν a w av u hu g hgu
  rw [hsh,zij hv] at hgv
  have h2:=(hnew _ _ _ hv g hgv).1
  omega
 ·rw [zfh]
  exact hsh.symm
end
def detB (q:RQ4):Bool:=(([q.a.re,q.a.im].all okX && [q.b.re,q.b.im].all okX) && [q.c.re,q.c.im].all okX) && [q.d.re,q.d.im].all okX
def dtQ (q:RQ4):GQ:=subG (mulG (toG q.a) (toG q.d)) (mulG (toG q.b) (toG q.c))
def detF (q:RQ4):RG × Int:=if detB q then ansG (dtQ q) else (rg0,1)
theorem det_no {q:RQ4} (h:(((![q.a.re,q.a.im].all okX || ![q.b.re,q.b.im].all okX) || ![q.c.re,q.c.im].all okX) || ![q.d.re,q.d.im].all okX)=true):detF q=(rg0,1):=by
 have:detB q=false:=by
  unfold detB
  cases h1:[q.a.re,q.a.im].all okX <;> cases h2:[q.b.re,q.b.im].all okX <;> cases h3:[q.c.re,q.c.im].all okX <;> cases h4:[q.d.re,q.d.im].all okX <;> simp_all
 rw [detF,this]
 rfl
theorem det_yes {q:RQ4} (h:(((![q.a.re,q.a.im].all okX || ![q.b.re,q.b.im].all okX) || ![q.c.re,q.c.im].all okX) || ![q.d.re,q.d.im].all okX)=false):([q.a.re,q.a.im].all okX=true∧[q.b.re,q.b.im].all okX=true∧[q.c.re,q.c.im].all okX=true∧[q.d.re,q.d.im].all okX=true)∧detF q=ansG (dtQ q):=by
 have hh:[q.a.re,q.a.im].all okX=true∧[q.b.re,q.b.im].all okX=true∧[q.c.re,q.c.im].all okX=true∧[q.d.re,q.d.im].all okX=true:=by
  cases h1:[q.a.re,q.a.im].all okX <;> cases h2:[q.b.re,q.b.im].all okX <;> cases h3:[q.c.re,q.c.im].all okX <;> cases h4:[q.d.re,q.d.im].all okX <;> simp_all
 refine ⟨hh,?_⟩
 rw [detF,if_pos (by unfold detB; rw [hh.1,hh.2.1,hh.2.2.1,hh.2.2.2]; rfl)]
theorem qq_x {q:RQ4} (h:[q.a.re,q.a.im].all okX=true∧[q.b.re,q.b.im].all okX=true∧[q.c.re,q.c.im].all okX=true∧[q.d.re,q.d.im].all okX=true):WkA (RQA q) (cat [QGA 2048 (toG q.a),QGA 2048 (toG q.b),QGA 2048 (toG q.c),QGA 2048 (toG q.d)]) :=
 zbg (.cons (qg_x h.1) (.cons (qg_x h.2.1) (.cons (qg_x h.2.2.1) (.cons (qg_x h.2.2.2) .nil))))
theorem ansG_lo {z:GQ} (h:longG z=true):ansG z=(rg0,4):=by rw [ansG,if_pos h]
theorem ansG_ok {z:GQ} (h:longG z=false):ansG z=(rgOf z,0):=by rw [ansG,if_neg (by rw [h]; decide)]
theorem twinQuadD_c (x:RQ4) (hx:bdQ x):Cn Tryz.prog 78 [(RQA x).va] ((TQD x).va):=by
 refine Cn.intro Tryz.func78 rfl zk nq (fun B w0 a hst=>?_)
 have hst:St B w0 16 [(0,(RQA x).va)] [] a w0.w:=hst
 refine wp_seq ?_
 refine gl (sts:=[]) (news:=[⟨1,98,ptrH,some 0,_,none⟩,⟨2,98,ptrH,some 1,_,none⟩]) (sp:=[.alc 0,.alc 1]) [] hst (oc (zai rfl rfl rfl (gq 0 rfl)) (oc (zan rfl rfl rfl (Str.zero zd7)) o0)) (fun a w hst=>?_)
 have hst:St B w0 16 [] [⟨1,98,ptrH,_⟩,⟨2,98,ptrH,_⟩] a w:=hst
 refine zt ?_
 refine go_drawV' [[],[0],[0,1],[],[3],[0,1,2,3,4],[],[6],[0,1,2,3,4,5,6,7],[],[9],[0,1,2,3,4,5,6,7,8,9,10],[0,1,2,3,4,5,6,7,8,9,10,11],[0,1,2,3,4,5,6,7,8,9,10,11,12]] (sts:=[none,some (13,fun ν=>_)]) (news:=[]) (sp:=[(fun ν=>.adr 3 1 (.some 0) True),(fun ν=>.val 4 _),(fun ν=>.val 5 (PinA (ν 2) ((TGD x.a).and (SepAll [] (ν 2)))).va),(fun ν=>.adr 6 1 (.some 8) True),(fun ν=>.val 7 _),(fun ν=>.val 8 (PinA (ν 5) ((TGD x.b).and (SepAll [ν 2] (ν 5)))).va),(fun ν=>.adr 9 1 (.some 16) True),(fun ν=>.val 10 _),(fun ν=>.val 11 (PinA (ν 8) ((TGD x.c).and (SepAll [ν 2,ν 5] (ν 8)))).va),(fun ν=>.adr 12 1 (.some 24) True),(fun ν=>.val 13 _),(fun ν=>.val 14 (PinA (ν 11) ((TGD x.d).and (SepAll [ν 2,ν 5,ν 8] (ν 11)))).va),(fun ν=>.val 15 _),(fun ν=>.sto 1)]) [] za6 hst ⟨of_u fun ν=>ob_a rfl rfl (za9 (lz0 0 rfl) zdi),⟨of_u fun ν=>ob_v rfl rfl (za4 0 rfl zk trivial (lz0 0 rfl) (Sub.part 0 rfl rfl) zb1),⟨zdd (us:=fun ν=>[]) (xs:=[.tmp 4]) rfl rfl (zeb _ hx.1) zem zid (.cons (zht _).va .nil) (fun ν=>(.cons (vq 1 rfl) .nil)) (fun _ _=>rfl) (fun ν=>zc8),⟨of_u fun ν=>ob_a rfl rfl (za9 (lz0 0 rfl) zdh),⟨of_u fun ν=>ob_v rfl rfl (za4 3 rfl zk trivial (lz0 0 rfl) (Sub.part 1 rfl rfl) zb1),⟨zdd (us:=fun ν=>[ν 2]) (xs:=[.tmp 7]) rfl rfl (zeb _ hx.2.1) zem zid (.cons (zht _).va .nil) (fun ν=>(.cons (vq 4 rfl) .nil)) (fun _ _=>rfl) (fun ν=>(zcs (zcr zem) (vq 2 rfl) zc8)),⟨of_u fun ν=>ob_a rfl rfl (za9 (lz0 0 rfl) zdx),⟨of_u fun ν=>ob_v rfl rfl (za4 6 rfl zk trivial (lz0 0 rfl) (Sub.part 2 rfl rfl) zb1),⟨zdd (us:=fun ν=>[ν 2,ν 5]) (xs:=[.tmp 10]) rfl rfl (zeb _ hx.2.2.1) zem zid (.cons (zht _).va .nil) (fun ν=>(.cons (vq 7 rfl) .nil)) (fun _ _=>rfl) (fun ν=>(zcs (zcr zem) (vq 2 rfl) (zcs (zcr zem) (vq 5 rfl) zc8))),⟨of_u fun ν=>ob_a rfl rfl (za9 (lz0 0 rfl) zdw),⟨of_u fun ν=>ob_v rfl rfl (za4 9 rfl zk trivial (lz0 0 rfl) (Sub.part 3 rfl rfl) zb1),⟨zdd (us:=fun ν=>[ν 2,ν 5,ν 8]) (xs:=[.tmp 13]) rfl rfl (zeb _ hx.2.2.2) zem zid (.cons (zht _).va .nil) (fun ν=>(.cons (vq 10 rfl) .nil)) (fun _ _=>rfl) (fun ν=>(zcs (zcr zem) (vq 2 rfl) (zcs (zcr zem) (vq 5 rfl) (zcs (zcr zem) (vq 8 rfl) zc8)))),⟨of_u fun ν=>ob_v rfl rfl (zb3 (xs:=[(0,.tmp 5),(1,.tmp 8),(2,.tmp 11),(3,.tmp 14)]) (qs:=[(0,_),(1,_),(2,_),(3,_)]) zd7 (.cons ⟨rfl,(vq 2 rfl),rfl⟩ (.cons ⟨rfl,(vq 5 rfl),rfl⟩ (.cons ⟨rfl,(vq 8 rfl),rfl⟩ (.cons ⟨rfl,(vq 11 rfl),rfl⟩ .nil))))),⟨of_u fun ν=>zaa rfl rfl rfl (vq 12 rfl) zea (Eq.trans (b:=32) rfl rfl),trivial⟩⟩⟩⟩⟩⟩⟩⟩⟩⟩⟩⟩⟩⟩ ⟨(fun ν ν' h=>rfl),⟨(fun ν ν' h=>rfl),⟨(fun ν ν' h=>by first | rfl | simp only [h 2 rfl]),⟨(fun ν ν' h=>rfl),⟨(fun ν ν' h=>rfl),⟨(fun ν ν' h=>by first | rfl | simp only [h 2 rfl,h 5 rfl]),⟨(fun ν ν' h=>rfl),⟨(fun ν ν' h=>rfl),⟨(fun ν ν' h=>by first | rfl | simp only [h 2 rfl,h 5 rfl,h 8 rfl]),⟨(fun ν ν' h=>rfl),⟨(fun ν ν' h=>rfl),⟨(fun ν ν' h=>by first | rfl | simp only [h 2 rfl,h 5 rfl,h 8 rfl,h 11 rfl]),⟨(fun ν ν' h=>by first | rfl | simp only [h 2 rfl,h 5 rfl,h 8 rfl,h 11 rfl]),⟨(fun ν ν' h=>by first | rfl | simp only [h 2 rfl,h 5 rfl,h 8 rfl,h 11 rfl]),trivial⟩⟩⟩⟩⟩⟩⟩⟩⟩⟩⟩⟩⟩⟩ ⟨trivial,⟨(fun ν ν' h=>by first | rfl | simp only [h 2 rfl,h 5 rfl,h 8 rfl,h 11 rfl]),trivial⟩⟩ zk zk (fun ν=>by kernel_rfl) (fun ν=>by kernel_rfl) (fun ν1 a w hst=>?_)
 have hst:St B w0 16 [] [⟨1,98,ptrH,_⟩,⟨2,98,ptrH,_⟩] a w:=hst
 refine za0 ?_
 refine wp_ret ?_
 refine zaq ?_ (zal rfl hst (zm 1 rfl) zea)
 exact tq_pins.va
theorem leftQuadR_c (x y:RQ4) (hx:bdQ x):Cn Tryz.prog 82 [(RQR x).va,(RQA y).va] (Bo (decide (x=y))):=by
 refine Cn.intro Tryz.func82 rfl zk nq (fun B w0 a hst=>?_)
 have hst:St B w0 31 [(0,(RQR x).va),(1,(RQA y).va)] [] a w0.w:=hst
 refine wp_seq ?_
 refine gl (sts:=[]) (news:=[⟨2,98,ptrH,some 0,_,none⟩,⟨3,98,ptrH,some 1,_,none⟩]) (sp:=[.alc 0,.alc 1,.val 4 _]) [.o 2] hst (oc (zai rfl rfl rfl (gq 0 rfl)) (oc (zai rfl rfl rfl (gq 1 rfl)) (zv rfl rfl (za2 zb7) o0))) (fun a w hst=>?_)
 have hst:St B w0 31 [(4,_)] [⟨2,98,ptrH,_⟩,⟨3,98,ptrH,_⟩] a w:=hst
 refine zt ?_
 refine gl (sts:=[none,none]) (news:=[]) (sp:=((.adr 5 2 (.some 0) True:Sp)::(.val 6 _)::(.adr 7 3 (.some 0) True)::(.val 8 _)::(.val 9 _)::(.val 10 _)::(.adr 11 2 (.some 8) (_=true))::(.val 12 (Wh (_=true) _))::(.adr 13 3 (.some 8) (_=true))::(.val 14 (Wh (_=true) _))::(.val 15 (Wh (_=true) _))::(.val 16 _)::(.val 17 _)::(.adr 18 2 (.some 16) (_=true))::(.val 19 (Wh (_=true) _))::(.adr 20 3 (.some 16) (_=true))::(.val 21 (Wh (_=true) _))::(.val 22 (Wh (_=true) _))::(.val 23 _)::(.val 24 _)::(.adr 25 2 (.some 24) (_=true))::(.val 26 (Wh (_=true) _))::(.adr 27 3 (.some 24) (_=true))::(.val 28 (Wh (_=true) _))::(.val 29 (Wh (_=true) _))::(.val 30 _)::(.val 4 _)::[])) [.o 26] hst (oc (ob_a rfl rfl (za9 (lz0 0 rfl) zdi)) (zv rfl rfl (za4 0 rfl zk trivial (lz0 0 rfl) (Sub.part 0 rfl rfl) zb1) (oc (ob_a rfl rfl (za9 (lz0 1 rfl) zdi)) (zv rfl rfl (za4 2 rfl zk trivial (lz0 1 rfl) (Sub.part 0 rfl rfl) zb1) (zv rfl rfl (za5 (xs:=[.tmp 6,.tmp 8]) (zef _ _ hx.1) (.cons (vq 1 rfl) (.cons (vq 3 rfl) .nil))) (zv rfl rfl (za1 (vq 4 rfl)) (oc (zcc rfl rfl rfl (vq 5 rfl) nq (fun hg=>za9 (lz0 0 rfl) zdh)) (oc (zam rfl rfl rfl (vq 5 rfl) nq (fun hg=>za4 6 rfl zk hg (lz0 0 rfl) (Sub.part 1 rfl rfl) zb1)) (oc (zcc rfl rfl rfl (vq 5 rfl) nq (fun hg=>za9 (lz0 1 rfl) zdh)) (oc (zam rfl rfl rfl (vq 5 rfl) nq (fun hg=>za4 8 rfl zk hg (lz0 1 rfl) (Sub.part 1 rfl rfl) zb1)) (oc (zam rfl rfl rfl (vq 5 rfl) nq (fun hg=>za5 (xs:=[.tmp 12,.tmp 14]) (zef _ _ hx.2.1) (.cons (zac (vq 7 rfl) hg) (.cons (zac (vq 9 rfl) hg) .nil)))) (zv rfl rfl (zch (vq 5 rfl) (vq 10 rfl)) (zv rfl rfl (za1 (vq 11 rfl)) (oc (zcc rfl rfl rfl (vq 12 rfl) nq (fun hg=>za9 (lz0 0 rfl) zdx)) (oc (zam rfl rfl rfl (vq 12 rfl) nq (fun hg=>za4 13 rfl zk hg (lz0 0 rfl) (Sub.part 2 rfl rfl) zb1)) (oc (zcc rfl rfl rfl (vq 12 rfl) nq (fun hg=>za9 (lz0 1 rfl) zdx)) (oc (zam rfl rfl rfl (vq 12 rfl) nq (fun hg=>za4 15 rfl zk hg (lz0 1 rfl) (Sub.part 2 rfl rfl) zb1)) (oc (zam rfl rfl rfl (vq 12 rfl) nq (fun hg=>za5 (xs:=[.tmp 19,.tmp 21]) (zef _ _ hx.2.2.1) (.cons (zac (vq 14 rfl) hg) (.cons (zac (vq 16 rfl) hg) .nil)))) (zv rfl rfl (zch (vq 12 rfl) (vq 17 rfl)) (zv rfl rfl (za1 (vq 18 rfl)) (oc (zcc rfl rfl rfl (vq 19 rfl) nq (fun hg=>za9 (lz0 0 rfl) zdw)) (oc (zam rfl rfl rfl (vq 19 rfl) nq (fun hg=>za4 20 rfl zk hg (lz0 0 rfl) (Sub.part 3 rfl rfl) zb1)) (oc (zcc rfl rfl rfl (vq 19 rfl) nq (fun hg=>za9 (lz0 1 rfl) zdw)) (oc (zam rfl rfl rfl (vq 19 rfl) nq (fun hg=>za4 22 rfl zk hg (lz0 1 rfl) (Sub.part 3 rfl rfl) zb1)) (oc (zam rfl rfl rfl (vq 19 rfl) nq (fun hg=>za5 (xs:=[.tmp 26,.tmp 28]) (zef _ _ hx.2.2.2) (.cons (zac (vq 21 rfl) hg) (.cons (zac (vq 23 rfl) hg) .nil)))) (zv rfl rfl (zch (vq 19 rfl) (vq 24 rfl)) (zv rfl rfl (za2 (vq 25 rfl)) o0))))))))))))))))))))))))))) (fun a w hst=>?_)
 have hst:St B w0 31 [(4,_)] [⟨2,98,ptrH,_⟩,⟨3,98,ptrH,_⟩] a w:=hst
 refine za0 ?_
 refine wp_ret ?_
 refine zaq ?_ (zah rfl hst (zm 0 rfl))
 exact zc3 (congrArg Bo rq_eq)
theorem zii {x:RG} {m:Nat→Value} {L:List Slot}:addL L (kg x m)=addL (addL L (kf x.re (m 0) (m 1))) (kf x.im (m 2) (m 3)):=by
 unfold kg
 rw [zcx]
def QuaP (x:RQ4) (m:Nat→Value):As:=cat [(GauP x.a (fun i=>m (i+0))),(GauP x.b (fun i=>m (i+4))),(GauP x.c (fun i=>m (i+8))),(GauP x.d (fun i=>m (i+12)))]
abbrev kq (x:RQ4) (m:Nat→Value):KL:=kg x.a (fun i=>m (i+0))++kg x.b (fun i=>m (i+4))++kg x.c (fun i=>m (i+8))++kg x.d (fun i=>m (i+12))
theorem keepQ_c (x:RQ4) (m:Nat→Value) (L:List Slot) (hs:SepL L (kq x m)) (hl:L.length≤999926):CK Tryz.prog 84 59 [59,171] (BkE L) (BkE (addL (addL (addL (addL L (kg x.a (fun i=>m (i+0)))) (kg x.b (fun i=>m (i+4)))) (kg x.c (fun i=>m (i+8)))) (kg x.d (fun i=>m (i+12))))) [(QuaP x m).va] (Tu []):=by
 obtain ⟨hs,hs3⟩:=zdv (l:=(kg x.a (fun i=>m (i+0)))++(kg x.b (fun i=>m (i+4)))++(kg x.c (fun i=>m (i+8)))) (m:=kg x.d (fun i=>m (i+12))) hs
 obtain ⟨hs,hs2⟩:=zdv (l:=(kg x.a (fun i=>m (i+0)))++(kg x.b (fun i=>m (i+4)))) (m:=kg x.c (fun i=>m (i+8))) hs
 obtain ⟨hs0,hs1⟩:=zdv (l:=kg x.a (fun i=>m (i+0))) (m:=kg x.b (fun i=>m (i+4))) hs
 rw [zcx (l:=kg x.a (fun i=>m (i+0))) (m:=kg x.b (fun i=>m (i+4)))] at hs2
 rw [zcx (l:=(kg x.a (fun i=>m (i+0)))++(kg x.b (fun i=>m (i+4)))) (m:=kg x.c (fun i=>m (i+8))),zcx (l:=kg x.a (fun i=>m (i+0))) (m:=kg x.b (fun i=>m (i+4)))] at hs3
 refine CK.intro Tryz.func84 rfl zk nq zk (fun B g w0 a hrm hst=>?_)
 have hst:St B w0 20 [(0,EqV ((ptrH).f g)),(1,(QuaP x m).va)] [⟨0,59,ptrH,BkE L⟩] a w0.w:=hst
 refine wp_seq ?_
 refine gl (sts:=[none]) (news:=[⟨3,98,ptrH,some 0,_,none⟩]) (sp:=[.alc 1]) [.g 0] hst (oc (zai rfl rfl rfl (gq 1 rfl)) o0) (fun a w hst=>?_)
 have hst:St B w0 20 [(0,_)] [⟨0,59,ptrH,_⟩,⟨3,98,ptrH,_⟩] a w:=hst
 refine zt ?_
 refine zcj (sp:=[.val 4 _,.adr 5 3 (.some 0) True,.val 6 _,.val 7 VT]) 3 1 99 3 OneC [.g 0,.o 0,.o 2] hst (zv rfl rfl (za1 (gq 0 rfl)) (oc (ob_a rfl rfl (za9 (lz0 1 rfl) zdi)) (zv rfl rfl (za4 1 rfl zk trivial (lz0 1 rfl) (Sub.part 0 rfl rfl) zb1) o0))) rfl zd zk zk (fun a w hst=>?_)
 have hst:St B w0 20 [(0,_),(4,_),(6,_)] [⟨0,59,ptrH,_⟩,⟨3,98,ptrH,_⟩] a w:=hst
 rw [show List.range' 3 1=[3] from rfl]
 rw [wpOps_cons]
 refine ze2 (A1:=BkE (addL L (kg x.a (fun i=>m (i+0))))) (xs:=[.tmp 6]) [0] [2] 0 rfl hst ((zhq (x.a) (fun i=>m (i+0)) (L) hs0 (by (try simp only [zcw,List.length_append,List.length_cons,List.length_nil]); omega)).wk (fun B cs w h=>by rw [zii]; exact h)) rfl (Eq.trans (b:=ptr g) (hst.vals _ (zm 1 rfl)) (Eq.symm (hst.vals _ (zm 0 rfl)))) (.cons ⟨_,rfl,rfl⟩ .nil) rfl hrm zd zk zk zk zk (fun a w hst=>?_)
 refine zc9 ?_
 have hst:St B w0 20 [(7,_),(0,_)] [⟨0,59,ptrH,BkE (addL L (kg x.a (fun i=>m (i+0))))⟩,⟨3,98,ptrH,_⟩] a w:=hst
 refine zt ?_
 refine zcj (sp:=[.val 8 _,.adr 9 3 (.some 8) True,.val 10 _,.val 11 VT]) 3 1 99 3 OneC [.g 1,.o 0,.o 2] hst (zv rfl rfl (za1 (gq 1 rfl)) (oc (ob_a rfl rfl (za9 (lz0 1 rfl) zdh)) (zv rfl rfl (za4 1 rfl zk trivial (lz0 1 rfl) (Sub.part 1 rfl rfl) zb1) o0))) rfl zd zk zk (fun a w hst=>?_)
 have hst:St B w0 20 [(0,_),(8,_),(10,_)] [⟨0,59,ptrH,_⟩,⟨3,98,ptrH,_⟩] a w:=hst
 rw [show List.range' 3 1=[3] from rfl]
 rw [wpOps_cons]
 refine ze2 (A1:=BkE (addL (addL L (kg x.a (fun i=>m (i+0)))) (kg x.b (fun i=>m (i+4))))) (xs:=[.tmp 10]) [0] [2] 0 rfl hst ((zhq (x.b) (fun i=>m (i+4)) (addL L (kg x.a (fun i=>m (i+0)))) hs1 (by (try simp only [zcw,List.length_append,List.length_cons,List.length_nil]); omega)).wk (fun B cs w h=>by rw [zii]; exact h)) rfl (Eq.trans (b:=ptr g) (hst.vals _ (zm 1 rfl)) (Eq.symm (hst.vals _ (zm 0 rfl)))) (.cons ⟨_,rfl,rfl⟩ .nil) rfl hrm zd zk zk zk zk (fun a w hst=>?_)
 refine zc9 ?_
 have hst:St B w0 20 [(11,_),(0,_)] [⟨0,59,ptrH,BkE (addL (addL L (kg x.a (fun i=>m (i+0)))) (kg x.b (fun i=>m (i+4))))⟩,⟨3,98,ptrH,_⟩] a w:=hst
 refine zt ?_
 refine zcj (sp:=[.val 12 _,.adr 13 3 (.some 16) True,.val 14 _,.val 15 VT]) 3 1 99 3 OneC [.g 1,.o 0,.o 2] hst (zv rfl rfl (za1 (gq 1 rfl)) (oc (ob_a rfl rfl (za9 (lz0 1 rfl) zdx)) (zv rfl rfl (za4 1 rfl zk trivial (lz0 1 rfl) (Sub.part 2 rfl rfl) zb1) o0))) rfl zd zk zk (fun a w hst=>?_)
 have hst:St B w0 20 [(0,_),(12,_),(14,_)] [⟨0,59,ptrH,_⟩,⟨3,98,ptrH,_⟩] a w:=hst
 rw [show List.range' 3 1=[3] from rfl]
 rw [wpOps_cons]
 refine ze2 (A1:=BkE (addL (addL (addL L (kg x.a (fun i=>m (i+0)))) (kg x.b (fun i=>m (i+4)))) (kg x.c (fun i=>m (i+8))))) (xs:=[.tmp 14]) [0] [2] 0 rfl hst ((zhq (x.c) (fun i=>m (i+8)) (addL (addL L (kg x.a (fun i=>m (i+0)))) (kg x.b (fun i=>m (i+4)))) hs2 (by (try simp only [zcw,List.length_append,List.length_cons,List.length_nil]); omega)).wk (fun B cs w h=>by rw [zii]; exact h)) rfl (Eq.trans (b:=ptr g) (hst.vals _ (zm 1 rfl)) (Eq.symm (hst.vals _ (zm 0 rfl)))) (.cons ⟨_,rfl,rfl⟩ .nil) rfl hrm zd zk zk zk zk (fun a w hst=>?_)
 refine zc9 ?_
 have hst:St B w0 20 [(15,_),(0,_)] [⟨0,59,ptrH,BkE (addL (addL (addL L (kg x.a (fun i=>m (i+0)))) (kg x.b (fun i=>m (i+4)))) (kg x.c (fun i=>m (i+8))))⟩,⟨3,98,ptrH,_⟩] a w:=hst
 refine za0 ?_
 refine zcj (sp:=[.val 16 _,.adr 17 3 (.some 24) True,.val 18 _,.val 19 VT]) 3 1 99 3 OneC [.g 1,.o 0,.o 2] hst (zv rfl rfl (za1 (gq 1 rfl)) (oc (ob_a rfl rfl (za9 (lz0 1 rfl) zdw)) (zv rfl rfl (za4 1 rfl zk trivial (lz0 1 rfl) (Sub.part 3 rfl rfl) zb1) o0))) rfl zd zk zk (fun a w hst=>?_)
 have hst:St B w0 20 [(0,_),(16,_),(18,_)] [⟨0,59,ptrH,_⟩,⟨3,98,ptrH,_⟩] a w:=hst
 rw [show List.range' 3 1=[3] from rfl]
 rw [wpOps_cons]
 refine ze2 (A1:=BkE (addL (addL (addL (addL L (kg x.a (fun i=>m (i+0)))) (kg x.b (fun i=>m (i+4)))) (kg x.c (fun i=>m (i+8)))) (kg x.d (fun i=>m (i+12))))) (xs:=[.tmp 18]) [0] [2] 0 rfl hst ((zhq (x.d) (fun i=>m (i+12)) (addL (addL (addL L (kg x.a (fun i=>m (i+0)))) (kg x.b (fun i=>m (i+4)))) (kg x.c (fun i=>m (i+8)))) hs3 (by (try simp only [zcw,List.length_append,List.length_cons,List.length_nil]); omega)).wk (fun B cs w h=>by rw [zii]; exact h)) rfl (Eq.trans (b:=ptr g) (hst.vals _ (zm 1 rfl)) (Eq.symm (hst.vals _ (zm 0 rfl)))) (.cons ⟨_,rfl,rfl⟩ .nil) rfl hrm zd zk zk zk zk (fun a w hst=>?_)
 refine zc9 ?_
 have hst:St B w0 20 [(19,_),(0,_)] [⟨0,59,ptrH,BkE (addL (addL (addL (addL L (kg x.a (fun i=>m (i+0)))) (kg x.b (fun i=>m (i+4)))) (kg x.c (fun i=>m (i+8)))) (kg x.d (fun i=>m (i+12))))⟩,⟨3,98,ptrH,_⟩] a w:=hst
 refine zbn ?_
 refine zjs hst (zm 1 rfl) (zm 0 rfl) ?_
 exact zat (rs:=[]) rfl hst .nil zd
def nm16 (x0 x1 x2 x3 x4 x5 x6 x7 x8 x9 x10 x11 x12 x13 x14 x15:Value):Nat→Value
 | 0=>x0
 | 1=>x1
 | 2=>x2
 | 3=>x3
 | 4=>x4
 | 5=>x5
 | 6=>x6
 | 7=>x7
 | 8=>x8
 | 9=>x9
 | 10=>x10
 | 11=>x11
 | 12=>x12
 | 13=>x13
 | 14=>x14
 | _=>x15
theorem qua_names {x:RQ4} {B:Nat} {cs:List Value} {w:World} (h:(RQN x).p B cs w):∃ m:Nat→Value,(QuaP x m).p B cs w∧cbl cs=kbl (kq x m)∧OkK (kq x m):=by
 obtain ⟨ps,rfl,hp⟩:=h
 cases hp with
 | @cons _ c1 _ _ h1 hp=>cases hp with
  | @cons _ c2 _ _ h2 hp=>cases hp with
   | @cons _ c3 _ _ h3 hp=>cases hp with
    | @cons _ c4 _ _ h4 hp =>
     cases hp
     obtain ⟨p,p1,e1,o1⟩:=zeo h1
     obtain ⟨q,p2,e2,o2⟩:=zeo h2
     obtain ⟨r,p3,e3,o3⟩:=zeo h3
     obtain ⟨s,p4,e4,o4⟩:=zeo h4
     refine ⟨nm16 (p 0) (p 1) (p 2) (p 3) (q 0) (q 1) (q 2) (q 3) (r 0) (r 1) (r 2) (r 3) (s 0) (s 1) (s 2) (s 3),⟨[c1,c2,c3,c4],rfl,.cons p1 (.cons p2 (.cons p3 (.cons p4 .nil)))⟩,?_,zg9 (zg9 (zg9 o1 o2) o3) o4⟩
     have:([c1,c2,c3,c4]:List (List Value)).flatten=((c1++c2)++c3)++c4:=by simp
     rw [this,zf6,zf6,zf6,e1,e2,e3,e4]
     show _=kbl (((kg x.a p++kg x.b q)++kg x.c r)++kg x.d s)
     have k4:∀ a b c d:KL,kbl (((a++b)++c)++d)=((kbl a++kbl b)++kbl c)++kbl d:=fun a b c d=>by rw [kbl_app,kbl_app,kbl_app]
     exact (k4 _ _ _ _).symm
theorem lnK_q {x:RQ4} {m:Nat→Value} (h:bdQ x):LnK (kq x m):=zgc (zgc (zgc (lnK_g h.1) (lnK_g h.2.1)) (lnK_g h.2.2.1)) (lnK_g h.2.2.2)
section
open Go.ChangeShapes Go.WideShapes
variable {H:Type} {enc:TypeId × Value→H} {w:World} {base:Nat} {spare:Nat→Bool} {held:Bool} {cs:List Value} {fuel:Nat} {x:DataW H × List MemPlace}
def wdQ (x:RQ4):Prop:=wdG x.a∧wdG x.b∧wdG x.c∧wdG x.d
theorem rb_rq (h:DataW.trod enc Tryz.prog w base spare held fuel 98 cs=some x) (hw:Wt Tryz.prog 98 x.1):∃ y,(RQA y).p w.heap.size cs w∧wdQ y:=by
 have hl:cs.length=32:=by
  obtain ⟨_,_,_,_,hl,_,_⟩:=DataW.trod_struct Tryz.underlying98 h
  exact hl.trans zk
 obtain ⟨n0,y0,h0,w0⟩:=zek Tryz.underlying98 h hw 0 rfl
 have c0:Tryz.prog.cellsOf 73=8:=by kernel_rfl
 have h0:DataW.trod enc Tryz.prog w base spare held n0 73 ((cs.drop 0).take (Tryz.prog.cellsOf 73))=some y0:=h0
 rw [c0] at h0
 obtain ⟨a0,q0,b0⟩:=rb_rg h0 w0
 obtain ⟨n1,y1,h1,w1⟩:=zek Tryz.underlying98 h hw 1 rfl
 have c1:Tryz.prog.cellsOf 73=8:=by kernel_rfl
 have h1:DataW.trod enc Tryz.prog w base spare held n1 73 ((cs.drop 8).take (Tryz.prog.cellsOf 73))=some y1:=h1
 rw [c1] at h1
 obtain ⟨a1,q1,b1⟩:=rb_rg h1 w1
 obtain ⟨n2,y2,h2,w2⟩:=zek Tryz.underlying98 h hw 2 rfl
 have c2:Tryz.prog.cellsOf 73=8:=by kernel_rfl
 have h2:DataW.trod enc Tryz.prog w base spare held n2 73 ((cs.drop 16).take (Tryz.prog.cellsOf 73))=some y2:=h2
 rw [c2] at h2
 obtain ⟨a2,q2,b2⟩:=rb_rg h2 w2
 obtain ⟨n3,y3,h3,w3⟩:=zek Tryz.underlying98 h hw 3 rfl
 have c3:Tryz.prog.cellsOf 73=8:=by kernel_rfl
 have h3:DataW.trod enc Tryz.prog w base spare held n3 73 ((cs.drop 24).take (Tryz.prog.cellsOf 73))=some y3:=h3
 rw [c3] at h3
 obtain ⟨a3,q3,b3⟩:=rb_rg h3 w3
 exact ⟨⟨a0,a1,a2,a3⟩,cat_four q0 q1 q2 q3 hl,⟨b0,b1,b2,b3⟩⟩
end
theorem eachD_q {c d e:Nat} {z u:GQ} (op:Rat→Rat→Rat) (hc:∀ x y:Rat,Cn Tryz.prog 182 [Qs c x,Qs d y] (QD e (op x y)).va):Cn Tryz.prog 311 [(QGA c z).va,(QGA d u).va,(EqA (.func (.func 182) #[] #[])).va] ((GD e ⟨op z.re u.re,op z.im u.im⟩).va):=by
 refine Cn.intro Tryz.func311 rfl zk nq (fun B w0 a hst=>?_)
 have hst:St B w0 20 [(0,(QGA c z).va),(1,(QGA d u).va),(2,(EqA (.func (.func 182) #[] #[])).va)] [] a w0.w:=hst
 refine wp_seq ?_
 refine gl (sts:=[]) (news:=[⟨3,73,ptrH,some 0,_,none⟩,⟨4,73,ptrH,some 1,_,none⟩,⟨6,73,ptrH,some 2,_,none⟩]) (sp:=[.alc 0,.alc 1,.alc 2]) [.g 2] hst (oc (zai rfl rfl rfl (gq 0 rfl)) (oc (zai rfl rfl rfl (gq 1 rfl)) (oc (zan rfl rfl rfl (Str.zero zeu)) o0))) (fun a w hst=>?_)
 have hst:St B w0 20 [(2,_)] [⟨3,73,ptrH,_⟩,⟨4,73,ptrH,_⟩,⟨6,73,ptrH,_⟩] a w:=hst
 refine zt ?_
 refine go_drawV' [[],[],[1],[],[3],[0,1,2,3,4],[],[],[7],[],[9],[0,1,2,3,4,5,6,7,8,9,10],[0,1,2,3,4,5,6,7,8,9,10,11],[0,1,2,3,4,5,6,7,8,9,10,11,12]] (sts:=[none,none,some (13,fun ν=>_)]) (news:=[]) (sp:=[(fun ν=>.val 7 _),(fun ν=>.adr 8 3 (.some 0) True),(fun ν=>.val 9 _),(fun ν=>.adr 10 4 (.some 0) True),(fun ν=>.val 11 _),(fun ν=>.val 12 (PinA (ν 5) ((QD e (op z.re u.re)).and (SepAll [] (ν 5)))).va),(fun ν=>.val 13 _),(fun ν=>.adr 14 3 (.some 4) True),(fun ν=>.val 15 _),(fun ν=>.adr 16 4 (.some 4) True),(fun ν=>.val 17 _),(fun ν=>.val 18 (PinA (ν 11) ((QD e (op z.im u.im)).and (SepAll [ν 5] (ν 11)))).va),(fun ν=>.val 19 _),(fun ν=>.sto 2)]) [] za6 hst ⟨of_u fun ν=>ob_v rfl rfl (za1 (gq 0 rfl)),⟨of_u fun ν=>ob_a rfl rfl (za9 (lz0 0 rfl) zbk),⟨of_u fun ν=>ob_v rfl rfl (za4 1 rfl zk trivial (lz0 0 rfl) (Sub.part 0 rfl rfl) zae),⟨of_u fun ν=>ob_a rfl rfl (za9 (lz0 1 rfl) zbk),⟨of_u fun ν=>ob_v rfl rfl (za4 3 rfl zk trivial (lz0 1 rfl) (Sub.part 0 rfl rfl) zae),⟨of_callQ (us:=fun ν=>[]) (xs:=[.tmp 9,.tmp 11]) rfl rfl (hc _ _) new_qd free_qd (.cons upA_qa.va (.cons upA_qa.va .nil)) (fun ν=>(vq 0 rfl)) (fun ν=>(.cons (vq 2 rfl) (.cons (vq 4 rfl) .nil))) (fun _ _=>rfl) (fun ν=>zc8),⟨of_u fun ν=>ob_v rfl rfl (za1 (gq 0 rfl)),⟨of_u fun ν=>ob_a rfl rfl (za9 (lz0 0 rfl) zbj),⟨of_u fun ν=>ob_v rfl rfl (za4 7 rfl zk trivial (lz0 0 rfl) (Sub.part 1 rfl rfl) zae),⟨of_u fun ν=>ob_a rfl rfl (za9 (lz0 1 rfl) zbj),⟨of_u fun ν=>ob_v rfl rfl (za4 9 rfl zk trivial (lz0 1 rfl) (Sub.part 1 rfl rfl) zae),⟨of_callQ (us:=fun ν=>[ν 5]) (xs:=[.tmp 15,.tmp 17]) rfl rfl (hc _ _) new_qd free_qd (.cons upA_qa.va (.cons upA_qa.va .nil)) (fun ν=>(vq 6 rfl)) (fun ν=>(.cons (vq 8 rfl) (.cons (vq 10 rfl) .nil))) (fun _ _=>rfl) (fun ν=>(zcs (zcr new_qd) (vq 5 rfl) zc8)),⟨of_u fun ν=>ob_v rfl rfl (zb3 (xs:=[(0,.tmp 12),(1,.tmp 18)]) (qs:=[(0,_),(1,_)]) zeu (.cons ⟨rfl,(vq 5 rfl),rfl⟩ (.cons ⟨rfl,(vq 11 rfl),rfl⟩ .nil))),⟨of_u fun ν=>zaa rfl rfl rfl (vq 12 rfl) zb1 (Eq.trans (b:=8) rfl rfl),trivial⟩⟩⟩⟩⟩⟩⟩⟩⟩⟩⟩⟩⟩⟩ ⟨(fun ν ν' h=>rfl),⟨(fun ν ν' h=>rfl),⟨(fun ν ν' h=>rfl),⟨(fun ν ν' h=>rfl),⟨(fun ν ν' h=>rfl),⟨(fun ν ν' h=>by first | rfl | simp only [h 5 rfl]),⟨(fun ν ν' h=>rfl),⟨(fun ν ν' h=>rfl),⟨(fun ν ν' h=>rfl),⟨(fun ν ν' h=>rfl),⟨(fun ν ν' h=>rfl),⟨(fun ν ν' h=>by first | rfl | simp only [h 5 rfl,h 11 rfl]),⟨(fun ν ν' h=>by first | rfl | simp only [h 5 rfl,h 11 rfl]),⟨(fun ν ν' h=>by first | rfl | simp only [h 5 rfl,h 11 rfl]),trivial⟩⟩⟩⟩⟩⟩⟩⟩⟩⟩⟩⟩⟩⟩ ⟨trivial,⟨trivial,⟨(fun ν ν' h=>by first | rfl | simp only [h 5 rfl,h 11 rfl]),trivial⟩⟩⟩ zk zk (fun ν=>by kernel_rfl) (fun ν=>by kernel_rfl) (fun ν1 a w hst=>?_)
 have hst:St B w0 20 [] [⟨3,73,ptrH,_⟩,⟨4,73,ptrH,_⟩,⟨6,73,ptrH,_⟩] a w:=hst
 refine za0 ?_
 refine wp_ret ?_
 refine zaq ?_ (zal rfl hst (zm 2 rfl) zb1)
 exact (gd_pins (k:=e) (z:=⟨op z.re u.re,op z.im u.im⟩)).va
theorem argMinusD_q {c d:Nat} {z u:GQ} (hk:c+d≤137438953472):Cn Tryz.prog 228 [(QGA c z).va,(QGA d u).va] ((GD (c+d+1) (subG z u)).va):=by
 refine Cn.intro Tryz.func228 rfl zk nq (fun B w0 a hst=>?_)
 have hst:St B w0 8 [(0,(QGA c z).va),(1,(QGA d u).va)] [] a w0.w:=hst
 refine wp_seq ?_
 refine gl (sts:=[]) (news:=[⟨2,73,ptrH,some 0,_,none⟩,⟨3,73,ptrH,some 1,_,none⟩,⟨4,73,ptrH,some 2,_,none⟩]) (sp:=[.alc 0,.alc 1,.alc 2]) [] hst (oc (zai rfl rfl rfl (gq 0 rfl)) (oc (zai rfl rfl rfl (gq 1 rfl)) (oc (zan rfl rfl rfl (Str.zero zeu)) o0))) (fun a w hst=>?_)
 have hst:St B w0 8 [] [⟨2,73,ptrH,_⟩,⟨3,73,ptrH,_⟩,⟨4,73,ptrH,_⟩] a w:=hst
 refine zt ?_
 refine gl (sts:=[none,none,some (3,_)]) (news:=[]) (sp:=[.val 5 _,.val 6 _,.val 7 _,.sto 2]) [] hst (zv rfl rfl (zad (lz0 0 rfl) zb1) (zv rfl rfl (zad (lz0 1 rfl) zb1) (zv rfl rfl (za5 (xs:=[.tmp 5,.tmp 6,.func 182]) (eachD_q (c:=c) (d:=d) (e:=c+d+1) (z:=z) (u:=u) (fun x y=>x - y) (fun x y=>minusD_q hk)) (.cons (vq 0 rfl) (.cons (vq 1 rfl) (.cons has_fnE .nil)))) (oc (zaa rfl rfl rfl (vq 2 rfl) zb1 (Eq.trans (b:=8) rfl rfl)) o0)))) (fun a w hst=>?_)
 have hst:St B w0 8 [] [⟨2,73,ptrH,_⟩,⟨3,73,ptrH,_⟩,⟨4,73,ptrH,_⟩] a w:=hst
 refine za0 ?_
 refine wp_ret ?_
 refine zaq ?_ (zal rfl hst (zm 2 rfl) zb1)
 exact zbt
theorem detD_c (q:RQ4):Cn Tryz.prog 79 [(RQA q).va] (GRD (detF q)):=by
 refine Cn.intro Tryz.func79 rfl zk nq (fun B w0 a hst=>?_)
 have hst:St B w0 48 [(0,(RQA q).va)] [] a w0.w:=hst
 refine wp_seq ?_
 refine gl (sts:=[]) (news:=[⟨1,98,ptrH,some 0,_,none⟩,⟨2,73,ptrH,some 1,_,none⟩]) (sp:=[.alc 0,.alc 1,.val 3 _]) [.o 2] hst (oc (zai rfl rfl rfl (gq 0 rfl)) (oc (zan rfl rfl rfl (Str.zero zeu)) (zv rfl rfl (za2 za3) o0))) (fun a w hst=>?_)
 have hst:St B w0 48 [(3,_)] [⟨1,98,ptrH,_⟩,⟨2,73,ptrH,_⟩] a w:=hst
 refine zt ?_
 refine wp_seq ?_
 refine gl (sts:=[none,none]) (news:=[]) (sp:=[.adr 6 1 (.some 0) True,.val 7 _,.val 8 _,.val 9 _,.val 10 _,.adr 11 1 (.some 8) (_=false),.val 12 (Wh (_=false) _),.val 13 (Wh (_=false) _),.val 14 (Wh (_=false) _),.val 15 _,.val 16 _,.adr 17 1 (.some 16) (_=false),.val 18 (Wh (_=false) _),.val 19 (Wh (_=false) _),.val 20 (Wh (_=false) _),.val 21 _,.val 22 _,.adr 23 1 (.some 24) (_=false),.val 24 (Wh (_=false) _),.val 25 (Wh (_=false) _),.val 26 (Wh (_=false) _),.val 27 _]) [.g 0,.o 21] hst (oc (ob_a rfl rfl (za9 (lz0 0 rfl) zdi)) (zv rfl rfl (za4 0 rfl zk trivial (lz0 0 rfl) (Sub.part 0 rfl rfl) zb1) (zv rfl rfl (za5 (xs:=[.tmp 7]) (zih _) (.cons (vq 1 rfl) .nil)) (zv rfl rfl (zew (vq 2 rfl)) (zv rfl rfl (za1 (vq 3 rfl)) (oc (zcc rfl rfl rfl (vq 4 rfl) nq (fun hg=>za9 (lz0 0 rfl) zdh)) (oc (zam rfl rfl rfl (vq 4 rfl) nq (fun hg=>za4 5 rfl zk hg (lz0 0 rfl) (Sub.part 1 rfl rfl) zb1)) (oc (zam rfl rfl rfl (vq 4 rfl) nq (fun hg=>za5 (xs:=[.tmp 12]) (zih _) (.cons (zac (vq 6 rfl) hg) .nil))) (oc (zam rfl rfl rfl (vq 4 rfl) nq (fun hg=>zew (zac (vq 7 rfl) hg))) (zv rfl rfl (r_or (vq 4 rfl) (vq 8 rfl)) (zv rfl rfl (za1 (vq 9 rfl)) (oc (zcc rfl rfl rfl (vq 10 rfl) nq (fun hg=>za9 (lz0 0 rfl) zdx)) (oc (zam rfl rfl rfl (vq 10 rfl) nq (fun hg=>za4 11 rfl zk hg (lz0 0 rfl) (Sub.part 2 rfl rfl) zb1)) (oc (zam rfl rfl rfl (vq 10 rfl) nq (fun hg=>za5 (xs:=[.tmp 18]) (zih _) (.cons (zac (vq 12 rfl) hg) .nil))) (oc (zam rfl rfl rfl (vq 10 rfl) nq (fun hg=>zew (zac (vq 13 rfl) hg))) (zv rfl rfl (r_or (vq 10 rfl) (vq 14 rfl)) (zv rfl rfl (za1 (vq 15 rfl)) (oc (zcc rfl rfl rfl (vq 16 rfl) nq (fun hg=>za9 (lz0 0 rfl) zdw)) (oc (zam rfl rfl rfl (vq 16 rfl) nq (fun hg=>za4 17 rfl zk hg (lz0 0 rfl) (Sub.part 3 rfl rfl) zb1)) (oc (zam rfl rfl rfl (vq 16 rfl) nq (fun hg=>za5 (xs:=[.tmp 24]) (zih _) (.cons (zac (vq 18 rfl) hg) .nil))) (oc (zam rfl rfl rfl (vq 16 rfl) nq (fun hg=>zew (zac (vq 19 rfl) hg))) (zv rfl rfl (r_or (vq 16 rfl) (vq 20 rfl)) o0)))))))))))))))))))))) (fun a w hst=>?_)
 have hst:St B w0 48 [(3,_),(27,_)] [⟨1,98,ptrH,_⟩,⟨2,73,ptrH,_⟩] a w:=hst
 refine za0 ?_
 refine za8 hst (zm 1 rfl) (fun hb0=>?_) (fun hb0=>?_)
 ·refine wp_seq ?_
  refine gl (sts:=[none,some (1,_)]) (news:=[]) (sp:=[.val 28 _,.sto 1,.val 3 _]) [.o 2] hst (zv rfl rfl (zb3 (xs:=[]) (qs:=[]) zeu .nil) (oc (zaa rfl rfl rfl (vq 0 rfl) zb1 (Eq.trans (b:=8) rfl rfl)) (zv rfl rfl (za2 za3) o0))) (fun a w hst=>?_)
  have hst:St B w0 48 [(3,_)] [⟨1,98,ptrH,_⟩,⟨2,73,ptrH,_⟩] a w:=hst
  refine za0 ?_
  refine wp_ret ?_
  refine zao ?_
  refine zaq ?_ (zat (rs:=[.cell 2 73,.tmp 3]) rfl hst (.cell (zm 1 rfl) zb1 (.tmp (zm 0 rfl) .nil)) zd)
  rw [det_no hb0]; exact tu2w zg_rgd.va zbt
 ·have hy:=det_yes hb0
  have hst:=St.wkL hst 0 rfl (qq_x hy.1)
  refine wp_skip ?_
  refine zt ?_
  refine zau (anc:=[[],[0],[],[2],[0,1,2,3],[],[5],[],[7],[0,1,2,3,4,5,6,7,8],[0,1,2,3,4,5,6,7,8,9],[],[0,1,2,3,4,5,6,7,8,9,10,11]]) (sts:=[none,none]) (news:=[⟨4,73,ptrH,some 11,_,some (12,_)⟩]) (sp:=[.adr 29 1 (.some 0) True,.val 30 _,.adr 31 1 (.some 24) True,.val 32 _,.val 33 _,.adr 34 1 (.some 8) True,.val 35 _,.adr 36 1 (.some 16) True,.val 37 _,.val 38 _,.val 39 _,.alc 2,.sto 2]) [.g 0] za6 hst (oc (ob_a rfl rfl (za9 (lz0 0 rfl) zdi)) (zv rfl rfl (za4 0 rfl zk trivial (lz0 0 rfl) (Sub.part 0 rfl rfl) zb1) (oc (ob_a rfl rfl (za9 (lz0 0 rfl) zdw)) (zv rfl rfl (za4 2 rfl zk trivial (lz0 0 rfl) (Sub.part 3 rfl rfl) zb1) (zv rfl rfl (za5 (xs:=[.tmp 30,.tmp 32]) (zg2 zd) (.cons (vq 1 rfl) (.cons (vq 3 rfl) .nil))) (oc (ob_a rfl rfl (za9 (lz0 0 rfl) zdh)) (zv rfl rfl (za4 5 rfl zk trivial (lz0 0 rfl) (Sub.part 1 rfl rfl) zb1) (oc (ob_a rfl rfl (za9 (lz0 0 rfl) zdx)) (zv rfl rfl (za4 7 rfl zk trivial (lz0 0 rfl) (Sub.part 2 rfl rfl) zb1) (zv rfl rfl (za5 (xs:=[.tmp 35,.tmp 37]) (zg2 zd) (.cons (vq 6 rfl) (.cons (vq 8 rfl) .nil))) (zv rfl rfl (za5 (xs:=[.tmp 33,.tmp 38]) (argMinusD_q zd) (.cons (vq 4 rfl) (.cons (vq 9 rfl) .nil))) (oc (zan rfl rfl rfl (Str.zero zeu)) (oc (zaa rfl rfl rfl (vq 10 rfl) zb1 (Eq.trans (b:=8) rfl rfl)) o0))))))))))))) zk zk zk zk (fun a w hst=>?_)
  have hst:St B w0 48 [(3,_)] [⟨1,98,ptrH,_⟩,⟨2,73,ptrH,_⟩,⟨4,73,ptrH,_⟩] a w:=hst
  refine zt ?_
  refine wp_seq ?_
  refine gl (sts:=[none,none,none]) (news:=[]) (sp:=[.val 40 _,.val 41 _,.val 42 _,.val 5 _]) [.g 0,.o 3] hst (zv rfl rfl (zad (lz0 2 rfl) zb1) (zv rfl rfl (zco (D:=[U32]) (l:=[_]) (xs:=[.tmp 40]) (zf9 zk) sl_193 zk (n_ok zk) nq nq nq (.cons (has_wk' (vq 0 rfl) gd_qga.va) .nil) rfl rfl) (zv rfl rfl (za5 (xs:=[.tmp 41]) (argAnswer_q [dtQ q] (.cons ⟨_,rfl⟩ .nil) nq) (.cons (vq 1 rfl) .nil)) (zv rfl rfl (za2 (vq 2 rfl)) o0)))) (fun a w hst=>?_)
  have hst:St B w0 48 [(3,_),(5,_)] [⟨1,98,ptrH,_⟩,⟨2,73,ptrH,_⟩,⟨4,73,ptrH,_⟩] a w:=hst
  refine zt ?_
  refine gl (sts:=[none,none,none]) (news:=[]) (sp:=[.val 43 _,.val 44 _]) [.g 0,.g 1,.o 1] hst (zv rfl rfl (za1 (gq 1 rfl)) (zv rfl rfl (zd5 (vq 0 rfl) za3) o0)) (fun a w hst=>?_)
  have hst:St B w0 48 [(3,_),(5,_),(44,_)] [⟨1,98,ptrH,_⟩,⟨2,73,ptrH,_⟩,⟨4,73,ptrH,_⟩] a w:=hst
  refine za0 ?_
  refine za8 hst (zm 2 rfl) (fun hb1=>?_) (fun hb1=>?_)
  ·rw [zix,ne0] at hb1
   refine wp_seq ?_
   refine gl (sts:=[none,some (2,_),none]) (news:=[]) (sp:=[.val 45 _,.val 46 _,.sto 1,.val 3 _]) [.o 3] hst (zv rfl rfl (zb3 (xs:=[]) (qs:=[]) zeu .nil) (zv rfl rfl (za1 (gq 1 rfl)) (oc (zaa rfl rfl rfl (vq 0 rfl) zb1 (Eq.trans (b:=8) rfl rfl)) (zv rfl rfl (za2 (vq 1 rfl)) o0)))) (fun a w hst=>?_)
   have hst:St B w0 48 [(3,_)] [⟨1,98,ptrH,_⟩,⟨2,73,ptrH,_⟩,⟨4,73,ptrH,_⟩] a w:=hst
   refine za0 ?_
   refine wp_ret ?_
   refine zao ?_
   refine zaq ?_ (zat (rs:=[.cell 2 73,.tmp 3]) rfl hst (.cell (zm 1 rfl) zb1 (.tmp (zm 0 rfl) .nil)) zd)
   rw [hy.2,ansG_lo hb1]; exact tu2w zg_rgd.va (zc3 (by rw [zix,hb1]; rfl))
  ·rw [zix,ne0] at hb1
   refine wp_skip ?_
   refine zt ?_
   refine gl (sts:=[none,some (1,_),none]) (news:=[]) (sp:=[.val 47 _,.sto 1,.val 3 _]) [.o 2] hst (zv rfl rfl (zad (lz0 2 rfl) zb1) (oc (zaa rfl rfl rfl (vq 0 rfl) zb1 (Eq.trans (b:=8) rfl rfl)) (zv rfl rfl (za2 za3) o0))) (fun a w hst=>?_)
   have hst:St B w0 48 [(3,_)] [⟨1,98,ptrH,_⟩,⟨2,73,ptrH,_⟩,⟨4,73,ptrH,_⟩] a w:=hst
   refine za0 ?_
   refine wp_ret ?_
   refine zaq ?_ (zat (rs:=[.cell 2 73,.tmp 3]) rfl hst (.cell (zm 1 rfl) zb1 (.tmp (zm 0 rfl) .nil)) zd)
   rw [hy.2,ansG_ok hb1]; exact tu2w gd_rgd.va zbt
theorem two_e {z:GQ}:[z.re,z.im].any longQ=longG z:=by simp [longG]
theorem r3answer_q {c:Nat} {z:GQ}:Cn Tryz.prog 232 [(QGA c z).va] (GR (ansG z)):=by
 refine Cn.intro Tryz.func232 rfl zk nq (fun B w0 a hst=>?_)
 have hst:St B w0 16 [(0,(QGA c z).va)] [] a w0.w:=hst
 refine wp_seq ?_
 refine gl (sts:=[]) (news:=[⟨1,73,ptrH,some 0,_,none⟩,⟨2,73,ptrH,some 1,_,none⟩]) (sp:=[.alc 0,.alc 1,.val 3 _]) [.o 2] hst (oc (zai rfl rfl rfl (gq 0 rfl)) (oc (zan rfl rfl rfl (Str.zero zaz)) (zv rfl rfl (za2 za3) o0))) (fun a w hst=>?_)
 have hst:St B w0 16 [(3,_)] [⟨1,73,ptrH,_⟩,⟨2,73,ptrH,_⟩] a w:=hst
 refine zt ?_
 refine gl (sts:=[none,none]) (news:=[]) (sp:=[.adr 5 1 (.some 0) True,.val 6 _,.adr 7 1 (.some 4) True,.val 8 _,.val 9 _,.val 10 _,.val 4 _]) [.g 0,.o 6] hst (oc (ob_a rfl rfl (za9 (lz0 0 rfl) zbk)) (zv rfl rfl (za4 0 rfl zk trivial (lz0 0 rfl) (Sub.part 0 rfl rfl) zae) (oc (ob_a rfl rfl (za9 (lz0 0 rfl) zbj)) (zv rfl rfl (za4 2 rfl zk trivial (lz0 0 rfl) (Sub.part 1 rfl rfl) zae) (zv rfl rfl (zco (D:=[U32]) (l:=[_,_]) (xs:=[.tmp 6,.tmp 8]) (zf9 zk) zdt zk (n_ok zk) nq nq nq (.cons (vq 1 rfl) (.cons (vq 3 rfl) .nil)) rfl rfl) (zv rfl rfl (za5 (xs:=[.tmp 9]) (r2answer_q [z.re,z.im] (.cons ⟨_,rfl⟩ (.cons ⟨_,rfl⟩ .nil)) nq) (.cons (vq 4 rfl) .nil)) (zv rfl rfl (za2 (vq 5 rfl)) o0))))))) (fun a w hst=>?_)
 have hst:St B w0 16 [(3,_),(4,_)] [⟨1,73,ptrH,_⟩,⟨2,73,ptrH,_⟩] a w:=hst
 refine zt ?_
 refine wp_seq ?_
 refine gl (sts:=[none,none]) (news:=[]) (sp:=[.val 11 _,.val 12 _]) [.g 0,.g 1,.o 1] hst (zv rfl rfl (za1 (gq 1 rfl)) (zv rfl rfl (zd5 (vq 0 rfl) za3) o0)) (fun a w hst=>?_)
 have hst:St B w0 16 [(3,_),(4,_),(12,_)] [⟨1,73,ptrH,_⟩,⟨2,73,ptrH,_⟩] a w:=hst
 refine za0 ?_
 refine za8 hst (zm 2 rfl) (fun hb0=>?_) (fun hb0=>?_)
 ·rw [ne0,two_e] at hb0
  refine wp_seq ?_
  refine gl (sts:=[none,some (2,_)]) (news:=[]) (sp:=[.val 13 _,.val 14 _,.sto 1,.val 3 _]) [.o 3] hst (zv rfl rfl (zb3 (xs:=[]) (qs:=[]) zaz .nil) (zv rfl rfl (za1 (gq 1 rfl)) (oc (zaa rfl rfl rfl (vq 0 rfl) zb1 (Eq.trans (b:=8) rfl rfl)) (zv rfl rfl (za2 (vq 1 rfl)) o0)))) (fun a w hst=>?_)
  have hst:St B w0 16 [(3,_)] [⟨1,73,ptrH,_⟩,⟨2,73,ptrH,_⟩] a w:=hst
  refine za0 ?_
  refine wp_ret ?_
  refine zao ?_
  refine zaq ?_ (zat (rs:=[.cell 2 73,.tmp 3]) rfl hst (.cell (zm 1 rfl) zb1 (.tmp (zm 0 rfl) .nil)) zd)
  rw [ansG_lo hb0]; exact tu2w zbt (zc3 (by rw [two_e,hb0]; rfl))
 ·rw [ne0,two_e] at hb0
  refine wp_skip ?_
  refine zt ?_
  refine gl (sts:=[none,some (1,_)]) (news:=[]) (sp:=[.val 15 _,.sto 1,.val 3 _]) [.o 2] hst (zv rfl rfl (zad (lz0 0 rfl) zb1) (oc (zaa rfl rfl rfl (vq 0 rfl) zb1 (Eq.trans (b:=8) rfl rfl)) (zv rfl rfl (za2 za3) o0))) (fun a w hst=>?_)
  have hst:St B w0 16 [(3,_)] [⟨1,73,ptrH,_⟩,⟨2,73,ptrH,_⟩] a w:=hst
  refine za0 ?_
  refine wp_ret ?_
  refine zaq ?_ (zat (rs:=[.cell 2 73,.tmp 3]) rfl hst (.cell (zm 1 rfl) zb1 (.tmp (zm 0 rfl) .nil)) zd)
  rw [ansG_ok hb0]; exact tu2w qgA.va zbt
theorem r18det_c (q:RQ4):Cn Tryz.prog 80 [(RQA q).va] (GR (detF q)):=by
 refine Cn.intro Tryz.func80 rfl zk nq (fun B w0 a hst=>?_)
 have hst:St B w0 41 [(0,(RQA q).va)] [] a w0.w:=hst
 refine wp_seq ?_
 refine gl (sts:=[]) (news:=[⟨1,98,ptrH,some 0,_,none⟩,⟨2,73,ptrH,some 1,_,none⟩]) (sp:=[.alc 0,.alc 1,.val 3 _]) [.o 2] hst (oc (zai rfl rfl rfl (gq 0 rfl)) (oc (zan rfl rfl rfl (Str.zero zaz)) (zv rfl rfl (za2 za3) o0))) (fun a w hst=>?_)
 have hst:St B w0 41 [(3,_)] [⟨1,98,ptrH,_⟩,⟨2,73,ptrH,_⟩] a w:=hst
 refine zt ?_
 refine wp_seq ?_
 refine gl (sts:=[none,none]) (news:=[]) (sp:=[.adr 4 1 (.some 0) True,.val 5 _,.val 6 _,.val 7 _,.val 8 _,.adr 9 1 (.some 8) (_=false),.val 10 (Wh (_=false) _),.val 11 (Wh (_=false) _),.val 12 (Wh (_=false) _),.val 13 _,.val 14 _,.adr 15 1 (.some 16) (_=false),.val 16 (Wh (_=false) _),.val 17 (Wh (_=false) _),.val 18 (Wh (_=false) _),.val 19 _,.val 20 _,.adr 21 1 (.some 24) (_=false),.val 22 (Wh (_=false) _),.val 23 (Wh (_=false) _),.val 24 (Wh (_=false) _),.val 25 _]) [.g 0,.o 21] hst (oc (ob_a rfl rfl (za9 (lz0 0 rfl) zdi)) (zv rfl rfl (za4 0 rfl zk trivial (lz0 0 rfl) (Sub.part 0 rfl rfl) zb1) (zv rfl rfl (za5 (xs:=[.tmp 5]) (zkz _) (.cons (vq 1 rfl) .nil)) (zv rfl rfl (zew (vq 2 rfl)) (zv rfl rfl (za1 (vq 3 rfl)) (oc (zcc rfl rfl rfl (vq 4 rfl) nq (fun hg=>za9 (lz0 0 rfl) zdh)) (oc (zam rfl rfl rfl (vq 4 rfl) nq (fun hg=>za4 5 rfl zk hg (lz0 0 rfl) (Sub.part 1 rfl rfl) zb1)) (oc (zam rfl rfl rfl (vq 4 rfl) nq (fun hg=>za5 (xs:=[.tmp 10]) (zkz _) (.cons (zac (vq 6 rfl) hg) .nil))) (oc (zam rfl rfl rfl (vq 4 rfl) nq (fun hg=>zew (zac (vq 7 rfl) hg))) (zv rfl rfl (r_or (vq 4 rfl) (vq 8 rfl)) (zv rfl rfl (za1 (vq 9 rfl)) (oc (zcc rfl rfl rfl (vq 10 rfl) nq (fun hg=>za9 (lz0 0 rfl) zdx)) (oc (zam rfl rfl rfl (vq 10 rfl) nq (fun hg=>za4 11 rfl zk hg (lz0 0 rfl) (Sub.part 2 rfl rfl) zb1)) (oc (zam rfl rfl rfl (vq 10 rfl) nq (fun hg=>za5 (xs:=[.tmp 16]) (zkz _) (.cons (zac (vq 12 rfl) hg) .nil))) (oc (zam rfl rfl rfl (vq 10 rfl) nq (fun hg=>zew (zac (vq 13 rfl) hg))) (zv rfl rfl (r_or (vq 10 rfl) (vq 14 rfl)) (zv rfl rfl (za1 (vq 15 rfl)) (oc (zcc rfl rfl rfl (vq 16 rfl) nq (fun hg=>za9 (lz0 0 rfl) zdw)) (oc (zam rfl rfl rfl (vq 16 rfl) nq (fun hg=>za4 17 rfl zk hg (lz0 0 rfl) (Sub.part 3 rfl rfl) zb1)) (oc (zam rfl rfl rfl (vq 16 rfl) nq (fun hg=>za5 (xs:=[.tmp 22]) (zkz _) (.cons (zac (vq 18 rfl) hg) .nil))) (oc (zam rfl rfl rfl (vq 16 rfl) nq (fun hg=>zew (zac (vq 19 rfl) hg))) (zv rfl rfl (r_or (vq 16 rfl) (vq 20 rfl)) o0)))))))))))))))))))))) (fun a w hst=>?_)
 have hst:St B w0 41 [(3,_),(25,_)] [⟨1,98,ptrH,_⟩,⟨2,73,ptrH,_⟩] a w:=hst
 refine za0 ?_
 refine za8 hst (zm 1 rfl) (fun hb0=>?_) (fun hb0=>?_)
 ·refine wp_seq ?_
  refine gl (sts:=[none,some (1,_)]) (news:=[]) (sp:=[.val 26 _,.sto 1,.val 3 _]) [.o 2] hst (zv rfl rfl (zb3 (xs:=[]) (qs:=[]) zaz .nil) (oc (zaa rfl rfl rfl (vq 0 rfl) zb1 (Eq.trans (b:=8) rfl rfl)) (zv rfl rfl (za2 za3) o0))) (fun a w hst=>?_)
  have hst:St B w0 41 [(3,_)] [⟨1,98,ptrH,_⟩,⟨2,73,ptrH,_⟩] a w:=hst
  refine za0 ?_
  refine wp_ret ?_
  refine zao ?_
  refine zaq ?_ (zat (rs:=[.cell 2 73,.tmp 3]) rfl hst (.cell (zm 1 rfl) zb1 (.tmp (zm 0 rfl) .nil)) zd)
  rw [det_no hb0]; exact zbt
 ·have hy:=det_yes hb0
  have hst:=St.wkL hst 0 rfl (qq_x hy.1)
  refine wp_skip ?_
  refine zt ?_
  refine zau (anc:=[[],[0],[],[2],[0,1,2,3],[],[5],[],[7],[0,1,2,3,4,5,6,7,8],[0,1,2,3,4,5,6,7,8,9],[0,1,2,3,4,5,6,7,8,9,10],[0,1,2,3,4,5,6,7,8,9,10,11],[0,1,2,3,4,5,6,7,8,9,10,11],[0,1,2,3,4,5,6,7,8,9,10,11,12,13],[0,1,2,3,4,5,6,7,8,9,10,11,12,13,14]]) (sts:=[none,some (14,_)]) (news:=[]) (sp:=[.adr 27 1 (.some 0) True,.val 28 _,.adr 29 1 (.some 24) True,.val 30 _,.val 31 _,.adr 32 1 (.some 8) True,.val 33 _,.adr 34 1 (.some 16) True,.val 35 _,.val 36 _,.val 37 _,.val 38 _,.val 39 _,.val 40 _,.sto 1,.val 3 _]) [.o 15] za6 hst (oc (ob_a rfl rfl (za9 (lz0 0 rfl) zdi)) (zv rfl rfl (za4 0 rfl zk trivial (lz0 0 rfl) (Sub.part 0 rfl rfl) zb1) (oc (ob_a rfl rfl (za9 (lz0 0 rfl) zdw)) (zv rfl rfl (za4 2 rfl zk trivial (lz0 0 rfl) (Sub.part 3 rfl rfl) zb1) (zv rfl rfl (za5 (xs:=[.tmp 28,.tmp 30]) (r3times_q zd) (.cons (vq 1 rfl) (.cons (vq 3 rfl) .nil))) (oc (ob_a rfl rfl (za9 (lz0 0 rfl) zdh)) (zv rfl rfl (za4 5 rfl zk trivial (lz0 0 rfl) (Sub.part 1 rfl rfl) zb1) (oc (ob_a rfl rfl (za9 (lz0 0 rfl) zdx)) (zv rfl rfl (za4 7 rfl zk trivial (lz0 0 rfl) (Sub.part 2 rfl rfl) zb1) (zv rfl rfl (za5 (xs:=[.tmp 33,.tmp 35]) (r3times_q zd) (.cons (vq 6 rfl) (.cons (vq 8 rfl) .nil))) (zv rfl rfl (za5 (xs:=[.tmp 31,.tmp 36]) (r3minus_q zd) (.cons (vq 4 rfl) (.cons (vq 9 rfl) .nil))) (zv rfl rfl (za5 (xs:=[.tmp 37]) r3answer_q (.cons (vq 10 rfl) .nil)) (zv rfl rfl (zgs (vq 11 rfl)) (zv rfl rfl (zgr (vq 11 rfl)) (oc (zaa rfl rfl rfl (vq 12 rfl) zb1 (Eq.trans (b:=8) rfl rfl)) (zv rfl rfl (za2 (vq 13 rfl)) o0)))))))))))))))) zk zk zk zk (fun a w hst=>?_)
  have hst:St B w0 41 [(3,_)] [⟨1,98,ptrH,_⟩,⟨2,73,ptrH,_⟩] a w:=hst
  refine za0 ?_
  refine wp_ret ?_
  refine zaq ?_ (zat (rs:=[.cell 2 73,.tmp 3]) rfl hst (.cell (zm 1 rfl) zb1 (.tmp (zm 0 rfl) .nil)) zd)
  rw [hy.2]; exact zbt
end Go.Proofs.YthncfchnkjemiaaGreatDoor
