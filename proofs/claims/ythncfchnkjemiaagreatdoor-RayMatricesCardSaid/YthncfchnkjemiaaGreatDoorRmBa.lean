import Derived.Test.YthncfchnkjemiaaGreatDoorRmAa
import Derived.Test.YthncfchnkjemiaaGreatDoorRmAc
import Derived.Test.YthncfchnkjemiaaGreatDoorRmAy
import Derived.Test.YthncfchnkjemiaaGreatDoorRmAz
set_option linter.unusedVariables false
set_option linter.unusedSimpArgs false
set_option linter.unusedSectionVars false
set_option maxRecDepth 100000
namespace Go.Proofs.YthncfchnkjemiaaGreatDoor
open Go Go.RowKit
theorem nilI_zn:WkA NilI (ZN 2 0):=⟨rfl,rfl,fun B cs w h=>by
 have e0:riOf 0=⟨false,[]⟩:=by kernel_rfl
 refine ⟨by have h0:lz 0=0:=zk; omega,?_⟩
 rw [e0]
 obtain ⟨ps,rfl,hp⟩:=h
 cases hp with
 | @cons _ c1 _ _ h1 hp=>cases hp with
  | @cons _ c2 _ _ h2 hp =>
   cases hp
   exact ⟨[c1,c2],rfl,.cons h1 (.cons ⟨zdh,.inl ⟨rfl,h2⟩⟩ .nil)⟩⟩
theorem zyx {B:Nat}{cs:List Value}{w:World}(h:NilI.p B cs w):cbl cs=[]:=by
 obtain ⟨ps,rfl,hp⟩:=h
 cases hp with
 | @cons _ c1 _ _ h1 hp=>cases hp with
  | @cons _ c2 _ _ h2 hp =>
   cases hp
   have e1:c1=[.bool false]:=h1
   have e2:c2=[.slice none 0 0]:=h2
   subst e1; subst e2; rfl
theorem qd_nought:WkA (cat [NilI,ZN 2 1]) (QD 2 0):=⟨rfl,rfl,fun B cs w h=>by
 refine ⟨(zc8 (.cons nilI_zn (.cons (WkA.refl _) .nil))).2.2 _ _ _ h,?_⟩
 obtain ⟨ps,rfl,hp⟩:=h
 cases hp with
 | @cons _ c1 _ _ h1 hp=>cases hp with
  | @cons _ c2 _ _ h2 hp =>
   cases hp
   have e:([c1,c2]:List (List Value)).flatten=c1++c2:=by simp
   rw [e,zfn,zyx h1]
   exact nod_zn _ _ _ h2⟩
theorem zne  : Cn Tryz.prog 225 [] ((QD 2 0).va):=by
 refine Cn.intro Tryz.func225 rfl zk nq (fun B w0 a hst=>?_)
 have hst:St B w0 3 [] [] a w0.w:=hst
 refine wp_seq ?_
 refine gl (sts:=[]) (news:=[⟨0,26,ptrH,some 0,_,none⟩]) (sp:=[.alc 0]) [] hst (oc (zas rfl rfl rfl (Str.zero zf2)) o0) (fun a w hst=>?_)
 have hst:St B w0 3 [] [⟨0,26,ptrH,_⟩] a w:=hst
 refine zt<|gl (sts:=[some (2,_)]) (news:=[]) (sp:=[.val 1 _,.val 2 _,.sto 0]) [] hst (zv rfl (za5 (xs:=[.const (.int .i64 (1))]) (of_zn zd zd) (.cons za3 .nil)) (zv rfl (zbb (xs:=[(1,.tmp 1)]) (qs:=[(1,_)]) zf2 (.cons ⟨rfl,(vq 0 rfl),rfl⟩ .nil)) (oc (zag rfl rfl rfl (vq 1 rfl) zaf (Eq.trans (b:=4) rfl rfl)) o0))) (fun a w hst=>?_)
 have hst:St B w0 3 [] [⟨0,26,ptrH,_⟩] a w:=hst
 refine za0 ?_
 refine wp_ret ?_
 refine zan ?_ (zao rfl hst (zm 0 rfl) zaf)
 exact qd_nought.va
theorem zkw {u v s t:Value}{k:Nat}(m:MQ):Cn Tryz.prog 226 [(cat [PinA u ((QD k m.a).and (SepAll [] u)),PinA v ((QD k m.b).and (SepAll [u] v)),PinA s ((QD k m.c).and (SepAll [u,v] s)),PinA t ((QD k m.d).and (SepAll [u,v,s] t))]).va] ((cat [PinA u ((QD k m.a).and (SepAll [] u)),PinA v ((QD k m.b).and (SepAll [u] v)),PinA s ((QD k m.c).and (SepAll [u,v] s)),PinA t ((QD k m.d).and (SepAll [u,v,s] t))]).va):=by
 refine Cn.intro Tryz.func226 rfl zk nq (fun B w0 a hst=>?_)
 have hst:St B w0 12 [(0,(cat [PinA u ((QD k m.a).and (SepAll [] u)),PinA v ((QD k m.b).and (SepAll [u] v)),PinA s ((QD k m.c).and (SepAll [u,v] s)),PinA t ((QD k m.d).and (SepAll [u,v,s] t))]).va)] [] a w0.w:=hst
 refine wp_seq ?_
 refine gl (sts:=[]) (news:=[⟨1,151,ptrH,some 0,_,none⟩,⟨2,28,ptrH,some 1,_,none⟩]) (sp:=[.alc 0,.alc 1]) [] hst (oc (zak rfl rfl rfl (gq 0 rfl)) (oc (zas rfl rfl rfl (Str.zero zen)) o0)) (fun a w hst=>?_)
 have hst:St B w0 12 [] [⟨1,151,ptrH,_⟩,⟨2,28,ptrH,_⟩] a w:=hst
 refine zt<|gl (sts:=[none,some (9,_)]) (news:=[]) (sp:=[.val 3 _,.val 4 _,.val 5 _,.val 6 _,.val 7 _,.val 8 _,.val 9 _,.val 10 _,.val 11 _,.sto 1]) [] hst (zv rfl (zik (m:=4) (lz0 0 rfl) Tryz.underlying151 zk (n_ok zk) (zav 0 rfl) rfl) (zv rfl (zae (vq 0 rfl) zaf) (zv rfl (zik (m:=4) (lz0 0 rfl) Tryz.underlying151 zk (n_ok zk) (zav 1 rfl) rfl) (zv rfl (zae (vq 2 rfl) zaf) (zv rfl (zik (m:=4) (lz0 0 rfl) Tryz.underlying151 zk (n_ok zk) (zav 2 rfl) rfl) (zv rfl (zae (vq 4 rfl) zaf) (zv rfl (zik (m:=4) (lz0 0 rfl) Tryz.underlying151 zk (n_ok zk) (zav 3 rfl) rfl) (zv rfl (zae (vq 6 rfl) zaf) (zv rfl (zbb (xs:=[(0,.tmp 4),(1,.tmp 6),(2,.tmp 8),(3,.tmp 10)]) (qs:=[(0,_),(1,_),(2,_),(3,_)]) zen (.cons ⟨rfl,(vq 1 rfl),rfl⟩ (.cons ⟨rfl,(vq 3 rfl),rfl⟩ (.cons ⟨rfl,(vq 5 rfl),rfl⟩ (.cons ⟨rfl,(vq 7 rfl),rfl⟩ .nil))))) (oc (zag rfl rfl rfl (vq 8 rfl) zb4 (Eq.trans (b:=16) rfl rfl)) o0)))))))))) (fun a w hst=>?_)
 have hst:St B w0 12 [] [⟨1,151,ptrH,_⟩,⟨2,28,ptrH,_⟩] a w:=hst
 refine za0 ?_
 refine wp_ret ?_
 refine zan ?_ (zao rfl hst (zm 1 rfl) zb4)
 exact zbt
theorem zg4 (e:Int)(k:Nat)(m:MQ):Cm Tryz.prog 214 141 (KA e) (KA (ansE e [m.a,m.b,m.c,m.d])) [.w (ptrH),.v (FnX (e=0) [QD k m.a,QD k m.b,QD k m.c,QD k m.d])] (MRD (asM e m)):=by
 refine Cm.intro Tryz.func214 rfl zk nq (fun B g w0 a hst=>?_)
 have hst:St B w0 22 [(0,EqV ((ptrH).f g)),(1,FnX (e=0) [QD k m.a,QD k m.b,QD k m.c,QD k m.d])] [⟨0,141,ptrH,KA e⟩] a w0.w:=hst
 refine wp_seq ?_
 refine gl (sts:=[none]) (news:=[⟨4,28,ptrH,some 0,_,none⟩]) (sp:=[.alc 1,.val 5 _]) [.g 0,.g 1,.o 1] hst (oc (zas rfl rfl rfl (Str.zero zen)) (zv rfl (za1 za3) o0)) (fun a w hst=>?_)
 have hst:St B w0 22 [(0,_),(1,_),(5,_)] [⟨0,141,ptrH,_⟩,⟨4,28,ptrH,_⟩] a w:=hst
 refine zt<|gl (sts:=[some (2,_),none]) (news:=[]) (sp:=[.adr 7 0 (.some 0) True,.val 8 _,.cal 9 _ 0,.val 6 _]) [.g 0,.g 2,.o 3] hst (oc (ob_a rfl rfl (zcq (lz0 0 rfl))) (zv rfl (za2 (gq 1 rfl)) (oc (zef (xs:=[.tmp 7,.tmp 8]) rfl rfl rfl (zif e [QD k m.a,QD k m.b,QD k m.c,QD k m.d] [QA k m.a,QA k m.b,QA k m.c,QA k m.d] [m.a,m.b,m.c,m.d] (.cons ⟨_,rfl⟩ (.cons ⟨_,rfl⟩ (.cons ⟨_,rfl⟩ (.cons ⟨_,rfl⟩ .nil)))) (.cons zon (.cons zon (.cons zon (.cons zon .nil)))) qa4_dep nq) (.cons (arw0 0 rfl zk (lz0 0 rfl)) (.cons (vq 1 rfl) .nil))) (zv rfl (za1 (zhl 2 rfl zk zk)) o0)))) (fun a w hst=>?_)
 have hst:St B w0 22 [(0,_),(5,_),(6,_)] [⟨0,141,ptrH,_⟩,⟨4,28,ptrH,_⟩] a w:=hst
 refine zt ?_
 refine wp_seq ?_
 refine gl (sts:=[none,none]) (news:=[]) (sp:=[.val 10 _,.val 11 _,.val 12 _]) [.g 0,.g 1,.g 2,.o 2] hst (zv rfl (za2 (gq 2 rfl)) (zv rfl (zc7 Tryz.underlying142 (has_wk' (vq 0 rfl) (ztr qd4_dep))) (zv rfl (zba (vq 1 rfl) za3) o0))) (fun a w hst=>?_)
 have hst:St B w0 22 [(0,_),(5,_),(6,_),(12,_)] [⟨0,141,ptrH,_⟩,⟨4,28,ptrH,_⟩] a w:=hst
 refine za0 ?_
 refine za8 hst (zm 3 rfl) (fun hb0=>?_) (fun hb0=>?_)
 ·have hE:=zl8 hb0 (by simp)
  refine wp_seq ?_
  refine zay (anc:=[[],[],[1],[1,2],[1,2,3],[0],[0,1,2,3,4,5]]) (sts:=[none,some (5,_)]) (news:=[]) (sp:=[.val 13 _,.adr 14 0 (.some 0) True,.adr 15 0 (.some 0) True,.adr 16 0 (.some (0+0)) True,.val 17 _,.sto 1,.val 5 _]) [.g 0,.g 2,.o 6] za7 hst (zv rfl (zbb (xs:=[]) (qs:=[]) zen .nil) (oc (ob_a rfl rfl (zcq (lz0 0 rfl))) (oc (ob_a rfl rfl (zek 1 rfl zk (lz0 0 rfl))) (oc (ob_a rfl rfl (zel 2 rfl zk trivial (lz0 0 rfl) zde)) (zv rfl (za4 3 rfl zk trivial (lz0 0 rfl) (Sub.part 0 rfl rfl) zkb) (oc (zag rfl rfl rfl (vq 0 rfl) zb4 (Eq.trans (b:=16) rfl rfl)) (zv rfl (za1 (vq 4 rfl)) o0))))))) zk zk zk zk (fun a w hst=>?_)
  have hst:St B w0 22 [(0,_),(6,_),(5,_)] [⟨0,141,ptrH,_⟩,⟨4,28,ptrH,_⟩] a w:=hst
  refine za0 ?_
  refine wp_ret ?_
  refine zar ?_
  refine zf3 hst (zm 0 rfl) (zm 0 rfl) ?_
  refine zan ?_ (zaq (rs:=[.cell 4 28,.tmp 5]) rfl hst (.cell (zm 1 rfl) zb4 (.tmp (zm 2 rfl) .nil)) zd)
  rw [asM_no hE]; exact tu2w zm_rmd.va zbt
 ·have hE:=zje hb0 zd
  have hst:=St.cvG (A':=(SlX [QD k m.a,QD k m.b,QD k m.c,QD k m.d]).va) hst 2 rfl (by rw [if_pos hE])
  obtain ⟨u1,u2,u3,u4,hst⟩:=St.openX4 hst 2 rfl
  refine wp_skip ?_
  refine zt<|gl (sts:=[none,some (4,_)]) (news:=[]) (sp:=[.val 18 _,.val 19 _,.val 20 _,.val 21 _,.sto 1,.val 5 _]) [.g 0,.o 5] hst (zv rfl (za2 (gq 2 rfl)) (zv rfl (r_arrp Tryz.underlying151 (vq 0 rfl) rfl nq) (zv rfl (zae (vq 1 rfl) zmw) (zv rfl (za5 (xs:=[.tmp 20]) (zkw m) (.cons (vq 2 rfl) .nil)) (oc (zag rfl rfl rfl (vq 3 rfl) zb4 (Eq.trans (b:=16) rfl rfl)) (zv rfl (za1 za3) o0)))))) (fun a w hst=>?_)
  have hst:St B w0 22 [(0,_),(5,_)] [⟨0,141,ptrH,_⟩,⟨4,28,ptrH,_⟩] a w:=hst
  refine za0 ?_
  refine wp_ret ?_
  refine zf3 hst (zm 0 rfl) (zm 0 rfl) ?_
  refine zan ?_ (zaq (rs:=[.cell 4 28,.tmp 5]) rfl hst (.cell (zm 1 rfl) zb4 (.tmp (zm 1 rfl) .nil)) zd)
  rw [asM_yes hE]; exact tu2w md_pins.va zbt
theorem backD1_c (m:MQ):Cn Tryz.prog 217 [(ElP 28 (QMA 2048 m))] ((SlX [QD 2048 (backQ m).a,QD 2048 (backQ m).b,QD 2048 (backQ m).c,QD 2048 (backQ m).d]).va):=by
 refine Cn.intro Tryz.func217 rfl zk nq (fun B w0 a hst=>?_)
 have hst:St B w0 15 [(0,(ElP 28 (QMA 2048 m)))] [] a w0.w:=hst
 refine wp_seq ?_
 refine gl (sts:=[]) (news:=[]) (sp:=[.val 1 _]) [.g 0,.o 0] hst (zv rfl (za1 zbj) o0) (fun a w hst=>?_)
 have hst:St B w0 15 [(0,_),(1,_)] [] a w:=hst
 refine zt ?_
 refine go_drawV' [[],[0],[0,1],[],[3],[0,1,2,3,4],[],[6],[0,1,2,3,4,5,6,7],[],[9],[0,1,2,3,4,5,6,7,8,9,10],[0,1,2,3,4,5,6,7,8,9,10,11],[0,1,2,3,4,5,6,7,8,9,10,11,12]] (sts:=[]) (news:=[]) (sp:=[(fun ν=>.val 2 _),(fun ν=>.val 3 _),(fun ν=>.val 4 (PinA (ν 2) ((QD 2048 (backQ m).a).and (SepAll [] (ν 2)))).va),(fun ν=>.val 5 _),(fun ν=>.val 6 _),(fun ν=>.val 7 (PinA (ν 5) ((QD 2048 (backQ m).b).and (SepAll [ν 2] (ν 5)))).va),(fun ν=>.val 8 _),(fun ν=>.val 9 _),(fun ν=>.val 10 (PinA (ν 8) ((QD 2048 (backQ m).c).and (SepAll [ν 2,ν 5] (ν 8)))).va),(fun ν=>.val 11 _),(fun ν=>.val 12 _),(fun ν=>.val 13 (PinA (ν 11) ((QD 2048 (backQ m).d).and (SepAll [ν 2,ν 5,ν 8] (ν 11)))).va),(fun ν=>.val 14 _),(fun ν=>.val 1 _)]) [.o 13] za7 hst ⟨of_u fun ν=>ob_v rfl rfl (zau (gq 0 rfl) zc1 (Sub.part 3 rfl rfl)),⟨of_u fun ν=>ob_v rfl rfl (zae (vq 0 rfl) zaf),⟨zbw (us:=fun ν=>[]) (xs:=[.tmp 3]) rfl rfl (zih (c:=2048) zd) zcc zdd (.cons upA_qa.va .nil) (fun ν=>(.cons (vq 1 rfl) .nil)) (fun _ _=>rfl) (fun ν=>zb9),⟨of_u fun ν=>ob_v rfl rfl (zau (gq 0 rfl) zca (Sub.part 1 rfl rfl)),⟨of_u fun ν=>ob_v rfl rfl (zae (vq 3 rfl) zaf),⟨zbw (us:=fun ν=>[ν 2]) (xs:=[.tmp 6]) rfl rfl (zmy (c:=2048) zd) zcc zdd (.cons upA_qa.va .nil) (fun ν=>(.cons (vq 4 rfl) .nil)) (fun _ _=>rfl) (fun ν=>(zbh (zb1 zcc) (vq 2 rfl) zb9)),⟨of_u fun ν=>ob_v rfl rfl (zau (gq 0 rfl) zc6 (Sub.part 2 rfl rfl)),⟨of_u fun ν=>ob_v rfl rfl (zae (vq 6 rfl) zaf),⟨zbw (us:=fun ν=>[ν 2,ν 5]) (xs:=[.tmp 9]) rfl rfl (zmy (c:=2048) zd) zcc zdd (.cons upA_qa.va .nil) (fun ν=>(.cons (vq 7 rfl) .nil)) (fun _ _=>rfl) (fun ν=>(zbh (zb1 zcc) (vq 2 rfl) (zbh (zb1 zcc) (vq 5 rfl) zb9))),⟨of_u fun ν=>ob_v rfl rfl (zau (gq 0 rfl) zc4 (Sub.part 0 rfl rfl)),⟨of_u fun ν=>ob_v rfl rfl (zae (vq 9 rfl) zaf),⟨zbw (us:=fun ν=>[ν 2,ν 5,ν 8]) (xs:=[.tmp 12]) rfl rfl (zih (c:=2048) zd) zcc zdd (.cons upA_qa.va .nil) (fun ν=>(.cons (vq 10 rfl) .nil)) (fun _ _=>rfl) (fun ν=>(zbh (zb1 zcc) (vq 2 rfl) (zbh (zb1 zcc) (vq 5 rfl) (zbh (zb1 zcc) (vq 8 rfl) zb9)))),⟨of_u fun ν=>ob_v rfl rfl (zda (D:=[U32]) (l:=[_,_,_,_]) (xs:=[.tmp 4,.tmp 7,.tmp 10,.tmp 13]) (zfz zk) zdu zk (n_ok zk) nq nq nq (.cons (vq 2 rfl) (.cons (vq 5 rfl) (.cons (vq 8 rfl) (.cons (vq 11 rfl) .nil)))) rfl rfl),⟨of_u fun ν=>ob_v rfl rfl (za1 (vq 12 rfl)),trivial⟩⟩⟩⟩⟩⟩⟩⟩⟩⟩⟩⟩⟩⟩ ⟨(fun ν ν' h=>rfl),⟨(fun ν ν' h=>rfl),⟨(fun ν ν' h=>by first | rfl | simp only [h 2 rfl]),⟨(fun ν ν' h=>rfl),⟨(fun ν ν' h=>rfl),⟨(fun ν ν' h=>by first | rfl | simp only [h 2 rfl,h 5 rfl]),⟨(fun ν ν' h=>rfl),⟨(fun ν ν' h=>rfl),⟨(fun ν ν' h=>by first | rfl | simp only [h 2 rfl,h 5 rfl,h 8 rfl]),⟨(fun ν ν' h=>rfl),⟨(fun ν ν' h=>rfl),⟨(fun ν ν' h=>by first | rfl | simp only [h 2 rfl,h 5 rfl,h 8 rfl,h 11 rfl]),⟨(fun ν ν' h=>by first | rfl | simp only [h 2 rfl,h 5 rfl,h 8 rfl,h 11 rfl]),⟨(fun ν ν' h=>by first | rfl | simp only [h 2 rfl,h 5 rfl,h 8 rfl,h 11 rfl]),trivial⟩⟩⟩⟩⟩⟩⟩⟩⟩⟩⟩⟩⟩⟩ trivial zk zk (fun ν=>by kernel_rfl) (fun ν=>by kernel_rfl) (fun ν1 a w hst=>?_)
 have hst:St B w0 15 [(1,_)] [] a w:=hst
 refine za0 ?_
 refine wp_ret ?_
 refine zan ?_ (zai rfl hst (zm 0 rfl))
 exact ztp
theorem backD1_x {m:RM}(h:kM 0 m=0):Cn Tryz.prog 217 [(ElP 28 (RMA m))] (SlX [QD 2048 (backQ (toM m)).a,QD 2048 (backQ (toM m)).b,QD 2048 (backQ (toM m)).c,QD 2048 (backQ (toM m)).d]).va:=(backD1_c (toM m)).wk (.cons (zjz (qm_x (ziq (kM_0 h).1).1)) .nil)
theorem backD_c (m:RM):Cn Tryz.prog 67 [(RMA m).va] (MRD (backF m)):=by
 refine Cn.intro Tryz.func67 rfl zk nq (fun B w0 a hst=>?_)
 have hst:St B w0 15 [(0,(RMA m).va)] [] a w0.w:=hst
 refine wp_seq ?_
 refine gl (sts:=[]) (news:=[⟨1,28,ptrH,some 0,_,none⟩,⟨2,28,ptrH,some 1,_,none⟩]) (sp:=[.alc 0,.alc 1,.val 3 _]) [.o 2] hst (oc (zak rfl rfl rfl (gq 0 rfl)) (oc (zas rfl rfl rfl (Str.zero zen)) (zv rfl (za1 za3) o0))) (fun a w hst=>?_)
 have hst:St B w0 15 [(3,_)] [⟨1,28,ptrH,_⟩,⟨2,28,ptrH,_⟩] a w:=hst
 refine zt<|zcz (sts:=[none,none]) (news:=[⟨6,141,ptrH,some 1,_,none⟩]) (sp:=[.val 5 _,.alc 2,.adr 4 6 .none True]) [.g 0] [(4,6)] [⟨1,28,ptrH,_⟩,⟨2,28,ptrH,_⟩,⟨4,141,ptrH,_⟩] hst (zv rfl (zbb (xs:=[]) (qs:=[]) zf1 .nil) (oc (zak rfl rfl rfl (vq 0 rfl)) (oc (ob_a rfl rfl zgr) o0))) zk zk zk ⟨⟨2,rfl⟩,trivial⟩ rfl zk (fun a w hst=>?_)
 have hst:St B w0 15 [(3,_)] [⟨1,28,ptrH,_⟩,⟨2,28,ptrH,_⟩,⟨4,141,ptrH,_⟩] a w:=hst
 refine zt<|gl (sts:=[none,none,some (2,_)]) (news:=[]) (sp:=[.adr 7 4 (.some 0) True,.val 8 _,.cal 9 _ 2]) [.g 0] hst (oc (ob_a rfl rfl (zcq (lz0 2 rfl))) (zv rfl (zab (lz0 0 rfl) zb4) (oc (zef (xs:=[.tmp 7,.tmp 8]) rfl rfl rfl (zf4 _ _) (.cons (arw0 0 rfl zk (lz0 2 rfl)) (.cons (vq 1 rfl) .nil))) o0))) (fun a w hst=>?_)
 have hst:St B w0 15 [(3,_)] [⟨1,28,ptrH,_⟩,⟨2,28,ptrH,_⟩,⟨4,141,ptrH,_⟩] a w:=hst
 refine zt<|gl (sts:=[none,some (5,_),some (2,_)]) (news:=[]) (sp:=[.adr 10 4 (.some 0) True,.val 11 _,.cal 12 _ 2,.val 13 _,.val 14 _,.sto 1,.val 3 _]) [.o 6] hst (oc (ob_a rfl rfl (zcq (lz0 2 rfl))) (zv rfl (zha (xs:=[.tmp 1]) (D:=[28,30,168]) (pre:=fun _:PLift (kM 0 m=0)=>[]) (post:=fun _=>(SlX [QD 2048 (backQ (toM m)).a,QD 2048 (backQ (toM m)).b,QD 2048 (backQ (toM m)).c,QD 2048 (backQ (toM m)).d]).va) (fun i=>backD1_x i.down) (zvk rfl) (.cons (zbc (lz0 0 rfl)) .nil)) (oc (zef (xs:=[.tmp 10,.tmp 11]) rfl rfl rfl (zg4 _ 2048 (backQ (toM m))) (.cons (arw0 0 rfl zk (lz0 2 rfl)) (.cons (vq 1 rfl) .nil))) (zv rfl (zfs (zhl 2 rfl zk zk)) (zv rfl (zfr (zhl 2 rfl zk zk)) (oc (zag rfl rfl rfl (vq 3 rfl) zb4 (Eq.trans (b:=16) rfl rfl)) (zv rfl (za1 (vq 4 rfl)) o0))))))) (fun a w hst=>?_)
 have hst:St B w0 15 [(3,_)] [⟨1,28,ptrH,_⟩,⟨2,28,ptrH,_⟩,⟨4,141,ptrH,_⟩] a w:=hst
 refine za0 ?_
 refine wp_ret ?_
 refine zan ?_ (zaq (rs:=[.cell 2 28,.tmp 3]) rfl hst (.cell (zm 1 rfl) zb4 (.tmp (zm 0 rfl) .nil)) zd)
 exact zbt
theorem zrz (m:MQ):Cn Tryz.prog 219 [(ElP 28 (QMA 2048 m))] ((SlX [QD 2048 (mirQ m).a,QD 2048 (mirQ m).b,QD 2048 (mirQ m).c,QD 2048 (mirQ m).d]).va):=by
 refine Cn.intro Tryz.func219 rfl zk nq (fun B w0 a hst=>?_)
 have hst:St B w0 15 [(0,(ElP 28 (QMA 2048 m)))] [] a w0.w:=hst
 refine wp_seq ?_
 refine gl (sts:=[]) (news:=[]) (sp:=[.val 1 _]) [.g 0,.o 0] hst (zv rfl (za1 zbj) o0) (fun a w hst=>?_)
 have hst:St B w0 15 [(0,_),(1,_)] [] a w:=hst
 refine zt ?_
 refine go_drawV' [[],[0],[0,1],[],[3],[0,1,2,3,4],[],[6],[0,1,2,3,4,5,6,7],[],[9],[0,1,2,3,4,5,6,7,8,9,10],[0,1,2,3,4,5,6,7,8,9,10,11],[0,1,2,3,4,5,6,7,8,9,10,11,12]] (sts:=[]) (news:=[]) (sp:=[(fun ν=>.val 2 _),(fun ν=>.val 3 _),(fun ν=>.val 4 (PinA (ν 2) ((QD 2048 (mirQ m).a).and (SepAll [] (ν 2)))).va),(fun ν=>.val 5 _),(fun ν=>.val 6 _),(fun ν=>.val 7 (PinA (ν 5) ((QD 2048 (mirQ m).b).and (SepAll [ν 2] (ν 5)))).va),(fun ν=>.val 8 _),(fun ν=>.val 9 _),(fun ν=>.val 10 (PinA (ν 8) ((QD 2048 (mirQ m).c).and (SepAll [ν 2,ν 5] (ν 8)))).va),(fun ν=>.val 11 _),(fun ν=>.val 12 _),(fun ν=>.val 13 (PinA (ν 11) ((QD 2048 (mirQ m).d).and (SepAll [ν 2,ν 5,ν 8] (ν 11)))).va),(fun ν=>.val 14 _),(fun ν=>.val 1 _)]) [.o 13] za7 hst ⟨of_u fun ν=>ob_v rfl rfl (zau (gq 0 rfl) zc1 (Sub.part 3 rfl rfl)),⟨of_u fun ν=>ob_v rfl rfl (zae (vq 0 rfl) zaf),⟨zbw (us:=fun ν=>[]) (xs:=[.tmp 3]) rfl rfl (zih (c:=2048) zd) zcc zdd (.cons upA_qa.va .nil) (fun ν=>(.cons (vq 1 rfl) .nil)) (fun _ _=>rfl) (fun ν=>zb9),⟨of_u fun ν=>ob_v rfl rfl (zau (gq 0 rfl) zca (Sub.part 1 rfl rfl)),⟨of_u fun ν=>ob_v rfl rfl (zae (vq 3 rfl) zaf),⟨zbw (us:=fun ν=>[ν 2]) (xs:=[.tmp 6]) rfl rfl (zih (c:=2048) zd) zcc zdd (.cons upA_qa.va .nil) (fun ν=>(.cons (vq 4 rfl) .nil)) (fun _ _=>rfl) (fun ν=>(zbh (zb1 zcc) (vq 2 rfl) zb9)),⟨of_u fun ν=>ob_v rfl rfl (zau (gq 0 rfl) zc6 (Sub.part 2 rfl rfl)),⟨of_u fun ν=>ob_v rfl rfl (zae (vq 6 rfl) zaf),⟨zbw (us:=fun ν=>[ν 2,ν 5]) (xs:=[.tmp 9]) rfl rfl (zih (c:=2048) zd) zcc zdd (.cons upA_qa.va .nil) (fun ν=>(.cons (vq 7 rfl) .nil)) (fun _ _=>rfl) (fun ν=>(zbh (zb1 zcc) (vq 2 rfl) (zbh (zb1 zcc) (vq 5 rfl) zb9))),⟨of_u fun ν=>ob_v rfl rfl (zau (gq 0 rfl) zc4 (Sub.part 0 rfl rfl)),⟨of_u fun ν=>ob_v rfl rfl (zae (vq 9 rfl) zaf),⟨zbw (us:=fun ν=>[ν 2,ν 5,ν 8]) (xs:=[.tmp 12]) rfl rfl (zih (c:=2048) zd) zcc zdd (.cons upA_qa.va .nil) (fun ν=>(.cons (vq 10 rfl) .nil)) (fun _ _=>rfl) (fun ν=>(zbh (zb1 zcc) (vq 2 rfl) (zbh (zb1 zcc) (vq 5 rfl) (zbh (zb1 zcc) (vq 8 rfl) zb9)))),⟨of_u fun ν=>ob_v rfl rfl (zda (D:=[U32]) (l:=[_,_,_,_]) (xs:=[.tmp 4,.tmp 7,.tmp 10,.tmp 13]) (zfz zk) zdu zk (n_ok zk) nq nq nq (.cons (vq 2 rfl) (.cons (vq 5 rfl) (.cons (vq 8 rfl) (.cons (vq 11 rfl) .nil)))) rfl rfl),⟨of_u fun ν=>ob_v rfl rfl (za1 (vq 12 rfl)),trivial⟩⟩⟩⟩⟩⟩⟩⟩⟩⟩⟩⟩⟩⟩ ⟨(fun ν ν' h=>rfl),⟨(fun ν ν' h=>rfl),⟨(fun ν ν' h=>by first | rfl | simp only [h 2 rfl]),⟨(fun ν ν' h=>rfl),⟨(fun ν ν' h=>rfl),⟨(fun ν ν' h=>by first | rfl | simp only [h 2 rfl,h 5 rfl]),⟨(fun ν ν' h=>rfl),⟨(fun ν ν' h=>rfl),⟨(fun ν ν' h=>by first | rfl | simp only [h 2 rfl,h 5 rfl,h 8 rfl]),⟨(fun ν ν' h=>rfl),⟨(fun ν ν' h=>rfl),⟨(fun ν ν' h=>by first | rfl | simp only [h 2 rfl,h 5 rfl,h 8 rfl,h 11 rfl]),⟨(fun ν ν' h=>by first | rfl | simp only [h 2 rfl,h 5 rfl,h 8 rfl,h 11 rfl]),⟨(fun ν ν' h=>by first | rfl | simp only [h 2 rfl,h 5 rfl,h 8 rfl,h 11 rfl]),trivial⟩⟩⟩⟩⟩⟩⟩⟩⟩⟩⟩⟩⟩⟩ trivial zk zk (fun ν=>by kernel_rfl) (fun ν=>by kernel_rfl) (fun ν1 a w hst=>?_)
 have hst:St B w0 15 [(1,_)] [] a w:=hst
 refine za0 ?_
 refine wp_ret ?_
 refine zan ?_ (zai rfl hst (zm 0 rfl))
 exact ztp
theorem zry {m:RM}(h:kM 0 m=0):Cn Tryz.prog 219 [(ElP 28 (RMA m))] (SlX [QD 2048 (mirQ (toM m)).a,QD 2048 (mirQ (toM m)).b,QD 2048 (mirQ (toM m)).c,QD 2048 (mirQ (toM m)).d]).va:=(zrz (toM m)).wk (.cons (zjz (qm_x (ziq (kM_0 h).1).1)) .nil)
theorem zvn (m:RM):Cn Tryz.prog 68 [(RMA m).va] (MRD (mirF m)):=by
 refine Cn.intro Tryz.func68 rfl zk nq (fun B w0 a hst=>?_)
 have hst:St B w0 15 [(0,(RMA m).va)] [] a w0.w:=hst
 refine wp_seq ?_
 refine gl (sts:=[]) (news:=[⟨1,28,ptrH,some 0,_,none⟩,⟨2,28,ptrH,some 1,_,none⟩]) (sp:=[.alc 0,.alc 1,.val 3 _]) [.o 2] hst (oc (zak rfl rfl rfl (gq 0 rfl)) (oc (zas rfl rfl rfl (Str.zero zen)) (zv rfl (za1 za3) o0))) (fun a w hst=>?_)
 have hst:St B w0 15 [(3,_)] [⟨1,28,ptrH,_⟩,⟨2,28,ptrH,_⟩] a w:=hst
 refine zt<|zcz (sts:=[none,none]) (news:=[⟨6,141,ptrH,some 1,_,none⟩]) (sp:=[.val 5 _,.alc 2,.adr 4 6 .none True]) [.g 0] [(4,6)] [⟨1,28,ptrH,_⟩,⟨2,28,ptrH,_⟩,⟨4,141,ptrH,_⟩] hst (zv rfl (zbb (xs:=[]) (qs:=[]) zf1 .nil) (oc (zak rfl rfl rfl (vq 0 rfl)) (oc (ob_a rfl rfl zgr) o0))) zk zk zk ⟨⟨2,rfl⟩,trivial⟩ rfl zk (fun a w hst=>?_)
 have hst:St B w0 15 [(3,_)] [⟨1,28,ptrH,_⟩,⟨2,28,ptrH,_⟩,⟨4,141,ptrH,_⟩] a w:=hst
 refine zt<|gl (sts:=[none,none,some (2,_)]) (news:=[]) (sp:=[.adr 7 4 (.some 0) True,.val 8 _,.cal 9 _ 2]) [.g 0] hst (oc (ob_a rfl rfl (zcq (lz0 2 rfl))) (zv rfl (zab (lz0 0 rfl) zb4) (oc (zef (xs:=[.tmp 7,.tmp 8]) rfl rfl rfl (zf4 _ _) (.cons (arw0 0 rfl zk (lz0 2 rfl)) (.cons (vq 1 rfl) .nil))) o0))) (fun a w hst=>?_)
 have hst:St B w0 15 [(3,_)] [⟨1,28,ptrH,_⟩,⟨2,28,ptrH,_⟩,⟨4,141,ptrH,_⟩] a w:=hst
 refine zt<|gl (sts:=[none,some (5,_),some (2,_)]) (news:=[]) (sp:=[.adr 10 4 (.some 0) True,.val 11 _,.cal 12 _ 2,.val 13 _,.val 14 _,.sto 1,.val 3 _]) [.o 6] hst (oc (ob_a rfl rfl (zcq (lz0 2 rfl))) (zv rfl (zha (xs:=[.tmp 1]) (D:=[28,30,168]) (pre:=fun _:PLift (kM 0 m=0)=>[]) (post:=fun _=>(SlX [QD 2048 (mirQ (toM m)).a,QD 2048 (mirQ (toM m)).b,QD 2048 (mirQ (toM m)).c,QD 2048 (mirQ (toM m)).d]).va) (fun i=>zry i.down) (zvk rfl) (.cons (zbc (lz0 0 rfl)) .nil)) (oc (zef (xs:=[.tmp 10,.tmp 11]) rfl rfl rfl (zg4 _ 2048 (mirQ (toM m))) (.cons (arw0 0 rfl zk (lz0 2 rfl)) (.cons (vq 1 rfl) .nil))) (zv rfl (zfs (zhl 2 rfl zk zk)) (zv rfl (zfr (zhl 2 rfl zk zk)) (oc (zag rfl rfl rfl (vq 3 rfl) zb4 (Eq.trans (b:=16) rfl rfl)) (zv rfl (za1 (vq 4 rfl)) o0))))))) (fun a w hst=>?_)
 have hst:St B w0 15 [(3,_)] [⟨1,28,ptrH,_⟩,⟨2,28,ptrH,_⟩,⟨4,141,ptrH,_⟩] a w:=hst
 refine za0 ?_
 refine wp_ret ?_
 refine zan ?_ (zaq (rs:=[.cell 2 28,.tmp 3]) rfl hst (.cell (zm 1 rfl) zb4 (.tmp (zm 0 rfl) .nil)) zd)
 exact zbt
theorem zln  : Cn Tryz.prog 76 [] ((RMD (rmOf ⟨1,0,0,1⟩)).va):=by
 refine Cn.intro Tryz.func76 rfl zk nq (fun B w0 a hst=>?_)
 have hst:St B w0 7 [] [] a w0.w:=hst
 refine wp_seq ?_
 refine gl (sts:=[]) (news:=[⟨0,28,ptrH,some 0,_,none⟩]) (sp:=[.alc 0]) [] hst (oc (zas rfl rfl rfl (Str.zero zen)) o0) (fun a w hst=>?_)
 have hst:St B w0 7 [] [⟨0,28,ptrH,_⟩] a w:=hst
 refine zt<|zeh (sts:=[some (6,fun ν=>_)]) (news:=[]) (sp:=[(fun ν=>.val 1 (PinA (ν 0) ((QD 2 1).and (SepAll [] (ν 0)))).va),(fun ν=>.val 2 (PinA (ν 1) ((QD 2 0).and (SepAll [ν 0] (ν 1)))).va),(fun ν=>.val 3 (PinA (ν 2) ((QD 2 0).and (SepAll [ν 0,ν 1] (ν 2)))).va),(fun ν=>.val 4 (PinA (ν 3) ((QD 2 1).and (SepAll [ν 0,ν 1,ν 2] (ν 3)))).va),(fun ν=>.val 5 _),(fun ν=>.val 6 _),(fun ν=>.sto 0)]) [] hst ⟨zbw (us:=fun ν=>[]) (xs:=[]) rfl rfl oneD_q zcc zdd .nil (fun ν=>.nil) (fun _ _=>rfl) (fun ν=>zb9),⟨zbw (us:=fun ν=>[ν 0]) (xs:=[]) rfl rfl zne zcc zdd .nil (fun ν=>.nil) (fun _ _=>rfl) (fun ν=>(zbh (zb1 zcc) (vq 0 rfl) zb9)),⟨zbw (us:=fun ν=>[ν 0,ν 1]) (xs:=[]) rfl rfl zne zcc zdd .nil (fun ν=>.nil) (fun _ _=>rfl) (fun ν=>(zbh (zb1 zcc) (vq 0 rfl) (zbh (zb1 zcc) (vq 1 rfl) zb9))),⟨zbw (us:=fun ν=>[ν 0,ν 1,ν 2]) (xs:=[]) rfl rfl oneD_q zcc zdd .nil (fun ν=>.nil) (fun _ _=>rfl) (fun ν=>(zbh (zb1 zcc) (vq 0 rfl) (zbh (zb1 zcc) (vq 1 rfl) (zbh (zb1 zcc) (vq 2 rfl) zb9)))),⟨of_u fun ν=>ob_v rfl rfl (zq3 (xs:=[(0,.tmp 1),(1,.tmp 2),(2,.tmp 3),(3,.tmp 4)]) (qs:=[(0,_),(1,_),(2,_),(3,_)]) zhw (.cons ⟨rfl,(vq 0 rfl),rfl⟩ (.cons ⟨rfl,(vq 1 rfl),rfl⟩ (.cons ⟨rfl,(vq 2 rfl),rfl⟩ (.cons ⟨rfl,(vq 3 rfl),rfl⟩ .nil))))),⟨of_u fun ν=>ob_v rfl rfl (za5 (xs:=[.tmp 5]) (zkw (k:=2) ⟨1,0,0,1⟩) (.cons (vq 4 rfl) .nil)),⟨of_u fun ν=>zag rfl rfl rfl (vq 5 rfl) zb4 (Eq.trans (b:=16) rfl rfl),trivial⟩⟩⟩⟩⟩⟩⟩ ⟨(fun ν ν' h=>by first | rfl | simp only [h 0 rfl]),⟨(fun ν ν' h=>by first | rfl | simp only [h 0 rfl,h 1 rfl]),⟨(fun ν ν' h=>by first | rfl | simp only [h 0 rfl,h 1 rfl,h 2 rfl]),⟨(fun ν ν' h=>by first | rfl | simp only [h 0 rfl,h 1 rfl,h 2 rfl,h 3 rfl]),⟨(fun ν ν' h=>by first | rfl | simp only [h 0 rfl,h 1 rfl,h 2 rfl,h 3 rfl]),⟨(fun ν ν' h=>by first | rfl | simp only [h 0 rfl,h 1 rfl,h 2 rfl,h 3 rfl]),⟨(fun ν ν' h=>by first | rfl | simp only [h 0 rfl,h 1 rfl,h 2 rfl,h 3 rfl]),trivial⟩⟩⟩⟩⟩⟩⟩ ⟨(fun ν ν' h=>by first | rfl | simp only [h 0 rfl,h 1 rfl,h 2 rfl,h 3 rfl]),trivial⟩ zk (fun ν=>by kernel_rfl) (fun ν=>by kernel_rfl) (fun ν1 a w hst=>?_)
 have hst:St B w0 7 [] [⟨0,28,ptrH,_⟩] a w:=hst
 refine za0 ?_
 refine wp_ret ?_
 refine zan ?_ (zao rfl hst (zm 0 rfl) zb4)
 exact (md_pins (m:=⟨1,0,0,1⟩)).va
end Go.Proofs.YthncfchnkjemiaaGreatDoor
namespace Go.Proofs.YthncfchnkjemiaaGreatDoor
open Go Go.RowKit
def ApA (us:List Value)(A:As):As where
 n:=A.n
 ag:=A.ag
 p B cs w:=A.p B cs w∧∀ u∈us,∀ g∈vbl u,g ∉ cbl cs
 deps:=A.deps
 len:=fun B cs w h=>A.len B cs w h.1
 one:=fun B cs w h=>A.one B cs w h.1
 ag1:=A.ag1
 cg:=fun B cs w w' hg h=>⟨A.cg B cs w w' hg h.1,h.2⟩
 wr:=fun B cs w w' g c T fz h1 h2 h3 h4 h=>⟨A.wr B cs w w' g c T fz h1 h2 h3 h4 h.1,h.2⟩
section
variable {P:Program} {Q:Exit→Act→World→Prop} {R:Rg} {B:Nat} {w0:Bs} {i:Nat}
theorem zok {A:As}{f:FuncId}{us:List Value}{pre pre':List VA}{xs:List Operand}{at_:Array TypeId}(hc:Cn P f pre' A.va)(hnew:NewA A)(hfree:FreeA A A)(hup:All2 Up pre pre')(hx:HasL R B w0 i xs pre)(hl:LiveR R B w0 i us):Wv P Q R B w0 i (.call ⟨.value (.func f),xs.toArray,at_⟩) (ApA us A).va:=by
 intro d T ps af gd a w av K hK
 obtain ⟨⟨fn,hf,hn,hb⟩,hcall⟩:=hc
 have hrun:(execOp a.eval ⟨some d,.call ⟨.value (.func f),xs.toArray,at_⟩,T,ps,af,gd⟩).run P w=.ok (.enter f (xs.map a.eval).toArray) w:=by
  simp only [execOp,resolve,Act.eval,Deferred.ofValue,Sem.run_bind,Sem.run_pure,Result.andThen_ok,invoke,zce hf hn hb]
  simp
 have hbw:=Av.bw av
 have hargs:All2 (fun (A:VA) v=>A.p w.heap.size v w) pre' (xs.map a.eval):=by
  have h1:=hx.all av
  clear hcall hrun hx
  generalize xs.map a.eval=vs at h1
  induction hup generalizing vs with
  | nil=>cases h1; exact .nil
  | cons hu _ ih =>
   cases h1 with
   | cons h2 h3=>exact .cons (hu _ _ _ hbw h2) (ih _ h3)
 unfold Oper.wp
 rw [hrun]
 refine (hcall w.heap.size w _ (Nat.le_refl _) hargs).mono fun e w' ⟨v,he,⟨cs,hv,hsh⟩,hg⟩=>?_
 subst he
 refine hK v w' hg ⟨cs,⟨hfree.2.2 _ _ _ _ hbw hv,fun u hu g hgu hgv=>?_⟩,hsh⟩
 have h1:=hl a w av u hu g hgu
 have h2:=(hnew _ _ _ hv g hgv).1
 omega
theorem znc {B:Nat}{w:World}:∀ {us:List Value} {L:List As} {pre:List Value} {ps:List (List Value)},us.length=L.length→(∀ A∈L,NewA A)→All2 (fun (A:As) c=>A.p B c w) (pins pre (us.zip L)) ps→∀ u∈us,∀ g∈vbl u,g<w.heap.size
 | [],_,_,_,_,_,_=>fun _ h=>by cases h
 | u::us,[],_,_,hl,_,_=>by cases hl
 | u::us,A::L,pre,ps,hl,hn,h=>by
  cases h with
  | @cons _ c _ _ h1 h2 =>
   obtain ⟨⟨hs,hA⟩,hv⟩:=h1
   have hv1:shape A.ag c=u:=hv
   intro v hv' g hg
   rcases List.mem_cons.1 hv' with rfl | hv'
   ·rw [← hv1,zh5 hA] at hg
    exact (hn A (by simp) _ _ _ hA g hg).2
   ·exact znc (by simpa using hl) (fun A hA=>hn A (by simp [hA])) h2 v hv' g hg
theorem live_own {x:Operand}{b m:Nat}{E:TypeId}{D:List TypeId}{us:List Value}{L:List As}(h:Has R B w0 i x (OwnR b E m D (pins [] (us.zip L))))(hl:us.length=L.length)(hn:∀ A∈L,NewA A):LiveR R B w0 i us:=fun a w av u hu g hg=>by
 obtain ⟨_,_,ds,⟨ps,_,hp⟩,_⟩:=h a w av
 exact znc hl hn hp u hu g hg
end
theorem zo7 {α β:Type}{R:α→β→Prop}:∀ {l:List α} {x:α} {ps:List β},All2 R (l++[x]) ps→∃ qs y,ps=qs++[y]∧All2 R l qs∧R x y
 | [],x,ps,h=>by
  cases h with
  | cons h1 h2=>cases h2; exact ⟨[],_,rfl,.nil,h1⟩
 | a::l,x,ps,h=>by
  cases h with
  | cons h1 h2 =>
   obtain ⟨qs,y,rfl,h3,h4⟩:=zo7 h2
   exact ⟨_::qs,y,rfl,.cons h1 h3,h4⟩
theorem all2_snoc' {α β:Type}{R:α→β→Prop}{x:α}{y:β}(h2:R x y):∀ {l:List α} {qs:List β},All2 R l qs→All2 R (l++[x]) (qs++[y])
 | _,_,.nil=>.cons h2 .nil
 | _,_,.cons h1 h=>.cons h1 (all2_snoc' h2 h)
theorem St.nameOwn {B N:Nat}{w0:Bs}{Γ:List (Nat × VA)}{Λ:List Lc}{a:Act}{w:World}(h:St B w0 N Γ Λ a w){t b m:Nat}{E:TypeId}{D:List TypeId}{M:List As}{A:As}{us:List Value}(k:Nat)(hm:Γ[k]?=some (t,OwnR b E m D (M++[ApA us A]))):∃ u,St B w0 N (Γ.set k (t,OwnR b E m D (M++[PinA u (A.and (SepAll us u))]))) Λ a w:=by
 obtain ⟨h1,h2,ds,⟨ps,e,hp⟩,how⟩:=h.vals _ (List.mem_of_getElem? hm)
 obtain ⟨qs,c,rfl,hq,hA,hs⟩:=zo7 hp
 refine ⟨shape A.ag c,h.lo,h.defers,h.size,h.base,fun z hz=>?_,h.locs,h.dis⟩
 rcases List.mem_or_eq_of_mem_set hz with hz | rfl
 ·exact h.vals z hz
 ·refine ⟨fun X hX=>?_,fun X hX=>?_,ds,⟨qs++[c],e,all2_snoc' ⟨⟨fun u hu g hg hg'=>hs u hu g hg (by rw [zh5 hA] at hg'; exact hg'),hA⟩,rfl⟩ hq⟩,?_⟩
  ·rcases List.mem_append.1 hX with hX | hX
   ·exact h1 X (List.mem_append.2 (.inl hX))
   ·simp at hX; subst hX; exact h1 (ApA us A) (by simp)
  ·rcases List.mem_append.1 hX with hX | hX
   ·exact h2 X (List.mem_append.2 (.inl hX))
   ·simp at hX; subst hX; exact h2 (ApA us A) (by simp)
  ·rw [show (M++[PinA (shape A.ag c) (A.and (SepAll us (shape A.ag c)))]).length=(M++[ApA us A]).length from by simp]
   exact how
theorem znb:∀ {us:List Value} {L:List As} {pre:List Value} {u:Value} {A:As},us.length=L.length→pins pre ((us++[u]).zip (L++[A]))=pins pre (us.zip L)++[PinA u (A.and (SepAll (pre++us) u))]
 | [],[],pre,u,A,_=>by simp [pins]
 | [],_::_,_,_,_,h=>by cases h
 | _::_,[],_,_,_,h=>by cases h
 | v::us,X::L,pre,u,A,h=>by
  simp only [List.cons_append,List.zip_cons_cons,pins]
  rw [znb (by simpa using h)]
  simp
theorem zq6:∀ {us:List Value} {L:List As} {pre:List Value},us.length=L.length→(pins pre (us.zip L)).length=L.length
 | [],[],_,_=>rfl
 | [],_::_,_,h=>by cases h
 | _::_,[],_,h=>by cases h
 | v::us,X::L,pre,h=>by
  simp only [List.zip_cons_cons,pins,List.length_cons]
  rw [zq6 (by simpa using h)]
theorem own_slx {b:Nat}{us:List Value}{L:List As}(h:us.length=L.length):Wk (OwnR b 26 4 [U32] (pins [] (us.zip L))) (SlX L).va:=fun B v w hp=>by
 obtain ⟨cs,h1,e⟩:=zq7 B v w hp
 exact ⟨cs,⟨us,h,h1⟩,e⟩
def mulD (m q:MQ)(i:Nat):List As:=(List.range i).map fun j=>QD 8193 (mE m q j)
theorem zhg (m q:MQ)(i:Nat):(mulD m q i).length=i:=by simp [mulD]
theorem zz0 (m q:MQ)(i:Nat):∀ A∈mulD m q i,NewA A:=fun A hA=>by
 obtain ⟨j,_,rfl⟩:=List.mem_map.1 hA
 exact zcc
theorem zvl {m q:MQ}{us:List Value}{u:Value}{i:Nat}(hu:us.length=i):pins [] (us.zip (mulD m q i))++[PinA u ((QD 8193 (mE m q i)).and (SepAll us u))]=pins [] ((us++[u]).zip (mulD m q (i+1))):=by
 rw [show mulD m q (i+1)=mulD m q i++[QD 8193 (mE m q i)] from by simp [mulD,List.range_succ],znb (by rw [zhg,hu]),List.nil_append]
theorem zz1 (m q:MQ):mulD m q 4=[QD 8193 (mulQ m q).a,QD 8193 (mulQ m q).b,QD 8193 (mulQ m q).c,QD 8193 (mulQ m q).d]:=rfl
theorem mulD1_c (m q:MQ):Cn Tryz.prog 215 [(ElP 28 (QMA 2048 m)),(ElP 28 (QMA 2048 q))] ((SlX [QD 8193 (mulQ m q).a,QD 8193 (mulQ m q).b,QD 8193 (mulQ m q).c,QD 8193 (mulQ m q).d]).va):=by
 obtain ⟨it,z,e1,e2,e3,e4,e5⟩:=app_frac
 refine Cn.intro Tryz.func215 rfl zk nq (fun B w0 a hst=>?_)
 have hst:St B w0 41 [(0,(ElP 28 (QMA 2048 m))),(1,(ElP 28 (QMA 2048 q)))] [] a w0.w:=hst
 refine wp_seq ?_
 refine gl (sts:=[]) (news:=[]) (sp:=[.val 2 _]) [.g 0,.g 1,.o 0] hst (zv rfl (za1 zbj) o0) (fun a w hst=>?_)
 have hst:St B w0 41 [(0,_),(1,_),(2,_)] [] a w:=hst
 refine zt<|zay (anc:=[[],[0],[],[0,1,2],[],[],[0,1,2,3,4,5],[0,1,2,3,4,5,6]]) (sts:=[]) (news:=[⟨3,151,ptrH,some 4,_,some (6,_)⟩,⟨4,151,ptrH,some 5,_,some (7,_)⟩]) (sp:=[.val 9 _,.val 10 _,.val 11 _,.val 12 _,.alc 0,.alc 1,.sto 0,.sto 1]) [.g 2] za7 hst (zv rfl (zae (gq 0 rfl) zb4) (zv rfl (za5 (xs:=[.tmp 9]) (zqq _) (.cons (vq 0 rfl) .nil)) (zv rfl (zae (gq 1 rfl) zb4) (zv rfl (za5 (xs:=[.tmp 11]) (zqq _) (.cons (vq 2 rfl) .nil)) (oc (zas rfl rfl rfl (Arr.zero zhw)) (oc (zas rfl rfl rfl (Arr.zero zhw)) (oc (zag rfl rfl rfl (vq 1 rfl) zmw (Eq.trans (b:=16) rfl rfl)) (oc (zag rfl rfl rfl (vq 3 rfl) zmw (Eq.trans (b:=16) rfl rfl)) o0)))))))) zk zk zk zk (fun a w hst=>?_)
 have hst:St B w0 41 [(2,_)] [⟨3,151,ptrH,_⟩,⟨4,151,ptrH,_⟩] a w:=hst
 refine zt<|gl (sts:=[none,none]) (news:=[]) (sp:=[.val 5 _]) [.g 0,.o 0] hst (zv rfl (za1 zbj) o0) (fun a w hst=>?_)
 have hst:St B w0 41 [(2,_),(5,_)] [⟨3,151,ptrH,_⟩,⟨4,151,ptrH,_⟩] a w:=hst
 refine zt ?_
 refine wp_seq ?_
 refine gl (sts:=[none,none]) (news:=[]) (sp:=[.val 13 _]) [.g 0,.g 1,.o 0] hst (zv rfl (za2 za3) o0) (fun a w hst=>?_)
 have hst:St B w0 41 [(2,_),(5,_),(13,_)] [⟨3,151,ptrH,_⟩,⟨4,151,ptrH,_⟩] a w:=hst
 refine za0 ?_
 refine wp_block ?_
 have hst:=St.sel hst [2,1]
 refine wp_loop_ghost (fun n a w=>∃ (i:Nat) (us:List Value),us.length=i∧i+n=4∧St B w0 41 [(13,In (i:Int)),(5,OwnR w0.w.heap.size 26 4 [U32] (pins [] (us.zip (mulD m q i))))] [⟨3,151,ptrH,QMA 2048 m⟩,⟨4,151,ptrH,QMA 2048 q⟩] a w) (4) ?_ ?_
 ·exact ⟨0,[],rfl,rfl,St.wkG hst 1 rfl zlm⟩
 intro n a w hI
 obtain ⟨i,us,hu,hi,hst⟩:=hI
 refine wp_seq ?_
 refine gl (sts:=[none,none]) (news:=[]) (sp:=[.val 14 _]) [.g 0,.g 1,.o 0] hst (zv rfl (zba (gq 0 rfl) za3) o0) (fun a w hst=>?_)
 have hst:St B w0 41 [(13,_),(5,_),(14,_)] [⟨3,151,ptrH,_⟩,⟨4,151,ptrH,_⟩] a w:=hst
 refine zt ?_
 refine za8 hst (zm 2 rfl) (fun hb0=>?_) (fun hb0=>?_)
 ·have hi4:i<4:=(by have:=of_decide_eq_true hb0; omega)
  refine wp_skip ?_
  refine zt ?_
  refine wp_block ?_
  refine wp_seq ?_
  refine gl (sts:=[none,none]) (news:=[]) (sp:=[.val 15 _,.val 6 _]) [.g 0,.g 1,.o 1] hst (zv rfl (za2 (gq 0 rfl)) (zv rfl (za1 (vq 0 rfl)) o0)) (fun a w hst=>?_)
  have hst:St B w0 41 [(13,_),(5,_),(6,_)] [⟨3,151,ptrH,_⟩,⟨4,151,ptrH,_⟩] a w:=hst
  refine zt<|gl (sts:=[none,none]) (news:=[]) (sp:=[.val 16 _,.val 17 _,.val 18 _,.val 19 _,.val 20 _,.val 7 _,.val 8 _]) [.g 0,.g 1,.o 5,.o 6] hst (zv rfl (za2 (gq 2 rfl)) (zv rfl (zjk (vq 0 rfl) za3 zd (ar_quo hi4)) (zv rfl (zkd (vq 1 rfl) za3 (ar_mul hi4)) (zv rfl (za2 (gq 2 rfl)) (zv rfl (zlg (vq 3 rfl) za3 zd (ar_rem hi4)) (zv rfl (za1 (vq 2 rfl)) (zv rfl (za1 (vq 4 rfl)) o0))))))) (fun a w hst=>?_)
  have hst:St B w0 41 [(13,_),(5,_),(7,_),(8,_)] [⟨3,151,ptrH,_⟩,⟨4,151,ptrH,_⟩] a w:=hst
  refine za0 ?_
  refine go_app (sp:=[.val 21 _,.val 22 _,.val 23 _,.val 24 _,.val 25 _,.val 26 _,.val 27 _,.val 28 _,.val 29 _,.val 30 _,.val 31 _,.val 32 _,.val 33 _,.val 34 _,.val 35 _,.val 36 _,.val 37 _,.val 38 VT,.val 5 VT]) [[],[],[1],[1,2],[],[4],[4,5],[],[7],[7,8],[7,8,9],[],[11],[11,12],[11,12,13],[1,2,3,4,5,6,7,8,9,10,11,12,13,14],[1,2,3,4,5,6,7,8,9,10,11,12,13,14,15],[0,1,2,3,4,5,6,7,8,9,10,11,12,13,14,15,16],[0,1,2,3,4,5,6,7,8,9,10,11,12,13,14,15,16,17]] 17 [0] 0 16 za7 hst (zv rfl (za2 (gq 1 rfl)) (zv rfl (za2 (gq 2 rfl)) (zv rfl (zik (m:=4) (lz0 0 rfl) Tryz.underlying151 zk (n_ok zk) (vq 1 rfl) (zrc zo)) (zv rfl (zae (vq 2 rfl) zaf) (zv rfl (za2 (gq 3 rfl)) (zv rfl (zik (m:=4) (lz0 1 rfl) Tryz.underlying151 zk (n_ok zk) (vq 4 rfl) (zrc zo)) (zv rfl (zae (vq 5 rfl) zaf) (zv rfl (za2 (gq 2 rfl)) (zv rfl (zbl (vq 7 rfl) za3 (ar_one hi4)) (zv rfl (zik (m:=4) (lz0 0 rfl) Tryz.underlying151 zk (n_ok zk) (vq 8 rfl) (zrc zo)) (zv rfl (zae (vq 9 rfl) zaf) (zv rfl (za2 (gq 3 rfl)) (zv rfl (zbl (vq 11 rfl) za3 (ar_two hi4)) (zv rfl (zik (m:=4) (lz0 1 rfl) Tryz.underlying151 zk (n_ok zk) (vq 12 rfl) (zrc zo)) (zv rfl (zae (vq 13 rfl) zaf) (zv rfl (zok (us:=us) (xs:=[.tmp 24,.tmp 27,.tmp 31,.tmp 35]) (A:=QD 8193 (mE m q i)) (zlc (c:=2048) (d:=2048) (e:=2048) (f:=2048) zd) zcc zdd (.cons upA_qa.va (.cons upA_qa.va (.cons upA_qa.va (.cons upA_qa.va .nil)))) (.cons (vq 3 rfl) (.cons (vq 6 rfl) (.cons (vq 10 rfl) (.cons (vq 14 rfl) .nil)))) (live_own (gq 1 rfl) (by rw [zhg,hu]) (zz0 m q i))) (zv rfl (zda (D:=[U32]) (l:=[_]) (xs:=[.tmp 36]) (zfz zk) zdu zk (n_ok zk) nq nq nq (.cons (vq 15 rfl) .nil) rfl rfl) o0))))))))))))))))) rfl zk zk zk zk rfl rfl zd rfl zd rfl Tryz.underlying142 e1 e2 e3 e4 e5 zd (by rw [zq6 (by rw [zhg,hu]),zhg]; omega) zd (fun T hT=>hT) zd rfl zk nq nq zk zk (fun a w hst=>?_)
  have hst:St B w0 41 [(5,_),(13,_)] [⟨3,151,ptrH,_⟩,⟨4,151,ptrH,_⟩] a w:=hst
  refine zat ?_
  refine za0 ?_
  refine gl (sts:=[none,none]) (news:=[]) (sp:=[.val 39 _,.val 13 _]) [.g 0,.o 1] hst (zv rfl (zbl (gq 1 rfl) za3 (ar_nxt hi4)) (zv rfl (za2 (vq 0 rfl)) o0)) (fun a w hst=>?_)
  have hst:St B w0 41 [(5,_),(13,_)] [⟨3,151,ptrH,_⟩,⟨4,151,ptrH,_⟩] a w:=hst
  refine za0 ?_
  have hst:=St.sel hst [1,0]
  obtain ⟨u,hst⟩:=St.nameOwn hst 1 rfl
  have hst:=St.wkG (A':=OwnR w0.w.heap.size 26 4 [U32] (pins [] ((us++[u]).zip (mulD m q (i+1))))) hst 1 rfl (zbz (congrArg (OwnR w0.w.heap.size 26 4 [U32]) (zvl hu)))
  obtain ⟨j,rfl⟩:∃ j,n=j+1:=⟨n-1,by omega⟩; exact ⟨j,by omega,i+1,us++[u],by simp [hu],by omega,hst⟩
 ·obtain rfl:i=4:=(by have:=of_decide_eq_false hb0; omega)
  refine wp_exit ?_
  refine za6 ?_
  refine za6 ?_
  refine zaj ?_
  refine zt<|gl (sts:=[none,none]) (news:=[]) (sp:=[.val 40 _,.val 2 _]) [.o 1] hst (zv rfl (za2 (gq 1 rfl)) (zv rfl (za1 (vq 0 rfl)) o0)) (fun a w hst=>?_)
  have hst:St B w0 41 [(2,_)] [⟨3,151,ptrH,_⟩,⟨4,151,ptrH,_⟩] a w:=hst
  refine za0 ?_
  refine wp_ret ?_
  refine zan ?_ (zai rfl hst (zm 0 rfl))
  exact zcv (own_slx (by rw [zhg,hu])) (zbz (by rw [zz1]))
theorem mulD1_x {m q:RM}(h:kM (kM 0 m) q=0):Cn Tryz.prog 215 [(ElP 28 (RMA m)),(ElP 28 (RMA q))] (SlX [QD 8193 (mulQ (toM m) (toM q)).a,QD 8193 (mulQ (toM m) (toM q)).b,QD 8193 (mulQ (toM m) (toM q)).c,QD 8193 (mulQ (toM m) (toM q)).d]).va:=(mulD1_c (toM m) (toM q)).wk (.cons (zjz (qm_x (ziq (kM_0 (kM_0 h).2).1).1)) (.cons (zjz (qm_x (ziq (kM_0 h).1).1)) .nil))
theorem zqd (m q:RM):Cn Tryz.prog 66 [(RMA m).va,(RMA q).va] (MRD (mulM m q)):=by
 refine Cn.intro Tryz.func66 rfl zk nq (fun B w0 a hst=>?_)
 have hst:St B w0 20 [(0,(RMA m).va),(1,(RMA q).va)] [] a w0.w:=hst
 refine wp_seq ?_
 refine gl (sts:=[]) (news:=[⟨2,28,ptrH,some 0,_,none⟩,⟨3,28,ptrH,some 1,_,none⟩,⟨4,28,ptrH,some 2,_,none⟩]) (sp:=[.alc 0,.alc 1,.alc 2,.val 5 _]) [.o 3] hst (oc (zak rfl rfl rfl (gq 0 rfl)) (oc (zak rfl rfl rfl (gq 1 rfl)) (oc (zas rfl rfl rfl (Str.zero zen)) (zv rfl (za1 za3) o0)))) (fun a w hst=>?_)
 have hst:St B w0 20 [(5,_)] [⟨2,28,ptrH,_⟩,⟨3,28,ptrH,_⟩,⟨4,28,ptrH,_⟩] a w:=hst
 refine zt<|zcz (sts:=[none,none,none]) (news:=[⟨8,141,ptrH,some 1,_,none⟩]) (sp:=[.val 7 _,.alc 3,.adr 6 8 .none True]) [.g 0] [(6,8)] [⟨2,28,ptrH,_⟩,⟨3,28,ptrH,_⟩,⟨4,28,ptrH,_⟩,⟨6,141,ptrH,_⟩] hst (zv rfl (zbb (xs:=[]) (qs:=[]) zf1 .nil) (oc (zak rfl rfl rfl (vq 0 rfl)) (oc (ob_a rfl rfl zgr) o0))) zk zk zk ⟨⟨2,rfl⟩,trivial⟩ rfl zk (fun a w hst=>?_)
 have hst:St B w0 20 [(5,_)] [⟨2,28,ptrH,_⟩,⟨3,28,ptrH,_⟩,⟨4,28,ptrH,_⟩,⟨6,141,ptrH,_⟩] a w:=hst
 refine zt<|gl (sts:=[none,none,none,some (2,_)]) (news:=[]) (sp:=[.adr 9 6 (.some 0) True,.val 10 _,.cal 11 _ 3]) [.g 0] hst (oc (ob_a rfl rfl (zcq (lz0 3 rfl))) (zv rfl (zab (lz0 0 rfl) zb4) (oc (zef (xs:=[.tmp 9,.tmp 10]) rfl rfl rfl (zf4 _ _) (.cons (arw0 0 rfl zk (lz0 3 rfl)) (.cons (vq 1 rfl) .nil))) o0))) (fun a w hst=>?_)
 have hst:St B w0 20 [(5,_)] [⟨2,28,ptrH,_⟩,⟨3,28,ptrH,_⟩,⟨4,28,ptrH,_⟩,⟨6,141,ptrH,_⟩] a w:=hst
 refine zt<|gl (sts:=[none,none,none,some (2,_)]) (news:=[]) (sp:=[.adr 12 6 (.some 0) True,.val 13 _,.cal 14 _ 3]) [.g 0] hst (oc (ob_a rfl rfl (zcq (lz0 3 rfl))) (zv rfl (zab (lz0 1 rfl) zb4) (oc (zef (xs:=[.tmp 12,.tmp 13]) rfl rfl rfl (zf4 _ _) (.cons (arw0 0 rfl zk (lz0 3 rfl)) (.cons (vq 1 rfl) .nil))) o0))) (fun a w hst=>?_)
 have hst:St B w0 20 [(5,_)] [⟨2,28,ptrH,_⟩,⟨3,28,ptrH,_⟩,⟨4,28,ptrH,_⟩,⟨6,141,ptrH,_⟩] a w:=hst
 refine zt<|gl (sts:=[none,none,some (5,_),some (2,_)]) (news:=[]) (sp:=[.adr 15 6 (.some 0) True,.val 16 _,.cal 17 _ 3,.val 18 _,.val 19 _,.sto 2,.val 5 _]) [.o 6] hst (oc (ob_a rfl rfl (zcq (lz0 3 rfl))) (zv rfl (zha (xs:=[.tmp 2,.tmp 3]) (D:=[28,30,168]) (pre:=fun _:PLift (kM (kM 0 m) q=0)=>[]) (post:=fun _=>(SlX [QD 8193 (mulQ (toM m) (toM q)).a,QD 8193 (mulQ (toM m) (toM q)).b,QD 8193 (mulQ (toM m) (toM q)).c,QD 8193 (mulQ (toM m) (toM q)).d]).va) (fun i=>mulD1_x i.down) (zvk rfl) (.cons (zbc (lz0 0 rfl)) (.cons (zbc (lz0 1 rfl)) .nil))) (oc (zef (xs:=[.tmp 15,.tmp 16]) rfl rfl rfl (zg4 _ 8193 (mulQ (toM m) (toM q))) (.cons (arw0 0 rfl zk (lz0 3 rfl)) (.cons (vq 1 rfl) .nil))) (zv rfl (zfs (zhl 2 rfl zk zk)) (zv rfl (zfr (zhl 2 rfl zk zk)) (oc (zag rfl rfl rfl (vq 3 rfl) zb4 (Eq.trans (b:=16) rfl rfl)) (zv rfl (za1 (vq 4 rfl)) o0))))))) (fun a w hst=>?_)
 have hst:St B w0 20 [(5,_)] [⟨2,28,ptrH,_⟩,⟨3,28,ptrH,_⟩,⟨4,28,ptrH,_⟩,⟨6,141,ptrH,_⟩] a w:=hst
 refine za0 ?_
 refine wp_ret ?_
 refine zan ?_ (zaq (rs:=[.cell 4 28,.tmp 5]) rfl hst (.cell (zm 2 rfl) zb4 (.tmp (zm 0 rfl) .nil)) zd)
 exact zbt
end Go.Proofs.YthncfchnkjemiaaGreatDoor
namespace Go.Proofs.YthncfchnkjemiaaGreatDoor
open Go Go.RowKit
section
open Rg
variable {P:Program} {Q:Exit→Act→World→Prop} {B N:Nat} {w0:Bs} {Γ:List (Nat × VA)} {Λ:List Lc} {a:Act} {w:World}
theorem go_restK {ops:Array Oper}{sp:List Sp}(Γd:List (Nat × VA))(m:Nat)(src:List Src)(h:St B w0 N (Γd++Γ) Λ a w)(h0:sp.take Γd.length=Γd.map fun x=>Sp.val x.1 x.2)(hsz:ops.size=Γd.length+m)
  (hob:Obs P Q ⟨ops,N,Γ,les0 Λ,sp,fun i=>List.range i⟩ B w0 Γd.length m) (hk:Rg.chk ⟨ops,N,Γ,les0 Λ,sp,fun i=>List.range i⟩=true) (hsrc:src.all (okS ⟨ops,N,Γ,les0 Λ,sp,fun i=>List.range i⟩)=true)
  (hQ:∀ a w,St B w0 N (src.filterMap (takeS ⟨ops,N,Γ,les0 Λ,sp,fun i=>List.range i⟩)) Λ a w→Q .normal a w):wpOps P ops Q (List.range' Γd.length m) a w:=by
 have hat:∀ i,i<Γd.length→∃ x,x∈Γd∧sp[i]?=some (.val x.1 x.2):=fun i hi=>by
  have e:(sp.take Γd.length)[i]?=sp[i]?:=by rw [List.getElem?_take,if_pos hi]
  rw [h0,List.getElem?_map] at e
  refine ⟨Γd[i],List.getElem_mem _,?_⟩
  rw [← e,List.getElem?_eq_getElem hi]; rfl
 have hmem:∀ e∈les0 Λ,e.cr=none∧e.st=none∧(⟨e.s,e.T,e.H,e.A0⟩:Lc)∈Λ:=fun e he=>by
  obtain ⟨l,hl,rfl⟩:=List.mem_map.1 he
  exact ⟨rfl,rfl,hl⟩
 have hcur:∀ e∈les0 Λ,∀ L:Nat→Bool,Rg.cur L e=some e.A0:=fun e he L=>by
  obtain ⟨h1,h2,_⟩:=hmem e he
  unfold Rg.cur
  rw [h1,h2]
  rfl
 have hi0:Rg.Inv ⟨ops,N,Γ,les0 Λ,sp,fun i=>List.range i⟩ B w0 (fun j=>decide (j<Γd.length)) a w:=by
  refine ⟨h.lo,h.defers,h.size,h.base,fun x hx _ _=>h.vals x (List.mem_append.2 (.inr hx)),fun i y d A hs hv hL _=>?_,fun i d b k c hs hL _=>?_,fun e he A hA=>?_,fun e he f hf hne _ _=>?_⟩
  ·obtain ⟨x,hx,hx2⟩:=hat i (of_decide_eq_true hL)
   have hs':sp[i]?=some y:=hs
   rw [hx2] at hs'
   injection hs' with hs'
   subst hs'
   simp only [Sp.vl,Option.some.injEq,Prod.mk.injEq] at hv
   obtain ⟨rfl,rfl⟩:=hv
   exact h.vals x (List.mem_append.2 (.inl hx))
  ·obtain ⟨x,hx,hx2⟩:=hat i (of_decide_eq_true hL)
   have hs':sp[i]?=some (.adr d b k c):=hs
   rw [hx2] at hs'
   cases hs'
  ·rw [hcur e he] at hA
   injection hA with hA
   subst hA
   exact h.locs _ (hmem e he).2.2
  ·exact h.dis _ (hmem e he).2.2 _ (hmem f hf).2.2 hne
 have key:∀ m k,Γd.length≤k→k+m=ops.size→∀ a w,Rg.Inv ⟨ops,N,Γ,les0 Λ,sp,fun i=>List.range i⟩ B w0 (fun j=>decide (j<k)) a w→wpOps P ops Q (List.range' k m) a w:=by
  intro m
  induction m with
  | zero =>
   intro k hk1 hkm a w hi
   have:k=ops.size:=by omega
   subst this
   have:=zh1 hk ⟨hi⟩ src hsrc
   rw [show (Rg.mk ops N Γ (les0 Λ) sp (fun i=>List.range i)).les=les0 Λ from rfl,zw3] at this
   exact hQ a w this
  | succ m ih =>
   intro k hk1 hkm a w hi
   rw [List.range'_succ,wpOps_cons]
   refine Rg.step hk (hob.all k zo zo) hi ?_ (by simp) ?_ _ fun a' w' hi'=>ih (k+1) zo zo a' w' (hi'.congr fun j=>?_)
   ·intro i hi j hj
    have hj:(List.range i).contains j=true:=hj
    simp at hi hj ⊢
    omega
   ·intro j hj
    have hj:(List.range k).contains j=true:=hj
    simpa using hj
   ·unfold upd
    by_cases h1:j=k
    ·subst h1; simp
    ·have h2:(j==k)=false:=by simpa using h1
     rw [h2,Bool.false_or,decide_eq_decide]
     omega
 exact key m Γd.length (Nat.le_refl _) zo a w hi0
theorem St.addT (h:St B w0 N Γ Λ a w)(t:Nat):St B w0 N ((t,VT)::Γ) Λ a w:=⟨h.lo,h.defers,h.size,h.base,fun x hx=>by
 rcases List.mem_cons.1 hx with rfl | hx
 ·trivial
 ·exact h.vals x hx,h.locs,h.dis⟩
theorem op_grd {ops:Array Oper}{i j:Nat}{d:Option Nat}{op:Op}{T:TypeId}{ps:String}{af:Array Edge}{K:Act→World→Prop}(ho:ops[i]?=some ⟨d,op,T,ps,af,some (j,true)⟩)(hw:Region.wanted ⟨d,op,T,ps,af,some (j,true)⟩ (yielded ops a.tmps)=true)(h:wpOp P #[⟨d,op,T,ps,af,none⟩] Q 0 K a w):wpOp P ops Q i K a w:=by
 unfold wpOp at h ⊢
 simp only [ho,hw,if_true]
 exact h
theorem op_ckG {ops:Array Oper}{i:Nat}{K:Act→World→Prop}{d p f sx j dj:Nat}{T T1:TypeId}{Ts:List TypeId}{A0 A1:As}{pre:List VA}{post:VA}{xs:List Operand}{at_:Array TypeId}{ps:String}{af:Array Edge}(src ks:List Nat)(e kb:Nat)(ho:ops[i]?=some ⟨some d,.call ⟨.value (.func f),(.tmp p::xs).toArray,at_⟩,T1,ps,af,some (j,true)⟩)(hj:(ops[j]?).bind (·.dst)=some dj)(hdj:dj<N)(hb:Γ[kb]?=some (dj,Bo true))(h:St B w0 N Γ Λ a w)
  (hc:CK P f T Ts A0 A1 pre post) (hl:Λ[e]?=some ⟨sx,T,ptrH,A0⟩) (hp:a.eval (.tmp p)=a.eval (.tmp sx)) (hx:All2 (fun (A:VA) (kx:Nat × Operand)=>∃ t,kx.2=.tmp t∧Γ[kx.1]?=some (t,A)) pre (ks.zip xs)) (hkl:ks.length=xs.length)
  (hrm:∀ E,Ts.contains E=true→RowMay w0 B E) (hd:d<N) (hΓ:Γ.all (fun x=>x.1 != d)=true) (hΛd:Λ.all (fun l=>l.s != d)=true)
  (hsrc:src.all (fun k=>match Γ[k]? with | some y=>Ts.all (fun E => !y.2.deps.contains E) | none=>false)=true) (hΛ:Λ.zipIdx.all (fun x=>x.2==e || (!Ts.contains x.1.T&&Ts.all (fun E => !x.1.A.deps.contains E)))=true)
  (hK:∀ a' w',St B w0 N ((d,post)::src.filterMap fun k=>Γ[k]?) (Λ.set e ⟨sx,T,ptrH,A1⟩) a' w'→K a' w'):wpOp P ops Q i K a w:=by
 have ev:a.eval (.tmp dj)=.bool true:=zga (h.vals _ (List.mem_of_getElem? hb))
 have hsz:dj<a.tmps.size:=by rw [h.size]; exact hdj
 have hy:yielded ops a.tmps j=some true:=by
  unfold yielded
  rw [hj]
  have:a.tmps[dj]?=some (a.eval (.tmp dj)):=by
   simp only [Act.eval,Array.getD,hsz,dite_true]
   exact Array.getElem?_eq_getElem hsz
  simp only [Option.bind_some,this,ev]
 refine op_grd ho (by simp only [Region.wanted,hy]; rfl) ?_
 have ho':(#[(⟨some d,.call ⟨.value (.func f),(.tmp p::xs).toArray,at_⟩,T1,ps,af,none⟩:Oper)])[0]?=some ⟨some d,.call ⟨.value (.func f),(.tmp p::xs).toArray,at_⟩,T1,ps,af,none⟩:=rfl
 exact zdp src ks e ho' h hc hl hp hx hkl hrm hd hΓ hΛd hsrc hΛ hK
end
theorem mg_live {m:Value}{l:List Nat}{B:Nat}{cs:List Value}{w:World}(h:(PinA m (MgN l)).p B cs w):∀ g,m.ownBlock=some g→g<w.heap.size:=by
 obtain ⟨⟨_,h⟩,hv⟩:=h
 intro g hg
 rcases h with ⟨_,rfl⟩ | ⟨g',ext,rfl,_,_,h4⟩
 ·have hv1:Value.slice none 0 0=m:=hv
  subst hv1
  cases hg
 ·have hv1:Value.slice (some ⟨g',0,none⟩) l.length (l++ext).length=m:=hv
  subst hv1
  have:g'=g:=by simpa [Value.ownBlock] using hg
  subst this
  exact (Array.getElem?_eq_some_iff.1 h4).1
theorem zqk {x:RI}{m:Value}{B:Nat}{cs:List Value}{w:World}(h:(IntP x m).p B cs w):∀ g,m.ownBlock=some g→g<w.heap.size:=by
 obtain ⟨ps,rfl,hp⟩:=h
 cases hp with
 | cons _ hp=>cases hp with
  | cons h2 _=>exact mg_live h2
theorem zie {x:RF}{m1 m2:Value}{B:Nat}{cs:List Value}{w:World}(h:(FracP x m1 m2).p B cs w):∀ g∈kbl (kf x m1 m2),g<w.heap.size:=by
 obtain ⟨ps,rfl,hp⟩:=h
 cases hp with
 | cons h1 hp=>cases hp with
  | cons h2 _ =>
   intro g hg
   obtain ⟨p,hp,hg⟩:=List.mem_filterMap.1 hg
   simp at hp
   rcases hp with rfl | rfl
   ·exact zqk h1 g hg
   ·exact zqk h2 g hg
theorem zdj {x:RM}{m:Nat→Value}{B:Nat}{cs:List Value}{w:World}(h:(MatP x m).p B cs w):∀ g∈kbl (km x m),g<w.heap.size:=by
 obtain ⟨ps,rfl,hp⟩:=h
 cases hp with
 | cons h1 hp=>cases hp with
  | cons h2 hp=>cases hp with
   | cons h3 hp=>cases hp with
    | cons h4 _ =>
     intro g hg
     rw [show kbl (km x m)=((kbl (kf x.a (m 0) (m 1))++kbl (kf x.b (m 2) (m 3)))++kbl (kf x.c (m 4) (m 5)))++kbl (kf x.d (m 6) (m 7)) from by rw [← kbl_app,← kbl_app,← kbl_app]] at hg
     simp only [List.mem_append] at hg
     rcases hg with ((hg | hg) | hg) | hg
     ·exact zie h1 g hg
     ·exact zie h2 g hg
     ·exact zie h3 g hg
     ·exact zie h4 g hg
section
variable {P:Program} {R:Rg} {B:Nat} {w0:Bs} {i:Nat}
theorem zdc {u:Value}{us:List Value}{s:Nat}{T:TypeId}{H:Hd}{A:As}{l:KL}(hA:∀ {B:Nat} {cs:List Value} {w:World},A.p B cs w→∀ g∈kbl l,g<w.heap.size)(hv:vbl u=kbl l)(hx:LocH R i s T H A)(h:LiveR R B w0 i us):LiveR R B w0 i (u::us):=fun a w av v hv'=>by
 rcases List.mem_cons.1 hv' with rfl | hv'
 ·obtain ⟨g,cs,_,_,_,h1⟩:=hx.ok av
  intro g hg
  rw [hv] at hg
  exact hA h1 g hg
 ·exact h a w av v hv'
theorem live_kv {u:Value}{us:List Value}{x:Operand}{A:As}{l:KL}(hA:∀ {B:Nat} {cs:List Value} {w:World},A.p B cs w→∀ g∈kbl l,g<w.heap.size)(hv:vbl u=kbl l)(hx:Has R B w0 i x A.va)(h:LiveR R B w0 i us):LiveR R B w0 i (u::us):=fun a w av v hv'=>by
 rcases List.mem_cons.1 hv' with rfl | hv'
 ·obtain ⟨cs,h1,_⟩:=hx a w av
  intro g hg
  rw [hv] at hg
  exact hA h1 g hg
 ·exact h a w av v hv'
end
theorem St.nameG {M:Type}{B N:Nat}{w0:Bs}{Γ:List (Nat × VA)}{Λ:List Lc}{a:Act}{w:World}{t:Nat}{us:List Value}{A0 A:As}{AP:M→As}{kl:M→KL}(hw:WkA A0 (DisA A))(hs:∀ {B:Nat} {cs:List Value} {w:World},A.p B cs w→∃ m,(AP m).p B cs w∧cbl cs=kbl (kl m)∧OkK (kl m))(hag:∀ m,(AP m).ag=A0.ag)(h:St B w0 N Γ Λ a w)(k:Nat)(hm:Γ[k]?=some (t,(ApA us A0).va)) :
  ∃ (u:Value) (m:M),vbl u=kbl (kl m)∧(kbl (kl m)).Nodup∧OkK (kl m)∧SepAll us u∧St B w0 N (Γ.set k (t,(AP m).va)) Λ a w:=by
 obtain ⟨cs,⟨hp,hsep⟩,hu⟩:=h.vals _ (List.mem_of_getElem? hm)
 obtain ⟨hA,hn⟩:=hw.2.2 _ _ _ hp
 obtain ⟨m,p1,e,ok⟩:=hs hA
 have hu':vbl (shape A0.ag cs)=cbl cs:=zh5 hp
 refine ⟨shape A0.ag cs,m,hu'.trans e,by rw [← e]; exact hn,ok,fun v hv g hg hg'=>hsep v hv g hg (by rw [hu'] at hg'; exact hg'),h.lo,h.defers,h.size,h.base,fun z hz=>?_,h.locs,h.dis⟩
 rcases List.mem_or_eq_of_mem_set hz with hz | rfl
 ·exact h.vals z hz
 ·exact ⟨cs,p1,by rw [hag]; exact hu⟩
end Go.Proofs.YthncfchnkjemiaaGreatDoor
