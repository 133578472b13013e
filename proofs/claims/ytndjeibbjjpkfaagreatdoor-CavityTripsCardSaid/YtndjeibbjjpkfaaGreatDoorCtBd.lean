import Derived.Test.YtndjeibbjjpkfaaGreatDoorCtAa
import Derived.Test.YtndjeibbjjpkfaaGreatDoorCtAc
import Derived.Test.YtndjeibbjjpkfaaGreatDoorCtAy
import Derived.Test.YtndjeibbjjpkfaaGreatDoorCtBa
import Derived.Test.YtndjeibbjjpkfaaGreatDoorCtBb
import Derived.Test.YtndjeibbjjpkfaaGreatDoorCtBc
import Derived.ProofKit
import Derived.OpenShut
import Derived.ChangeOld
import Derived.Below
import Derived.Deep.Slices
import Derived.SizedLaws
import Derived.Laws.AppendOwn
import Derived.Orders
set_option linter.unusedVariables false
set_option linter.unusedSimpArgs false
set_option linter.unusedSectionVars false
set_option maxRecDepth 100000
namespace Go.Proofs.YtndjeibbjjpkfaaGreatDoor
open Go Go.RowKit
theorem zis {B:Nat}{w:World}:(cat [NilI,NilI]).p B ([.bool false,.slice none 0 0,.bool false,.slice none 0 0]:List Value) w:=⟨[[.bool false,.slice none 0 0],[.bool false,.slice none 0 0]],rfl,.cons ⟨[[.bool false],[.slice none 0 0]],rfl,.cons rfl (.cons rfl .nil)⟩ (.cons ⟨[[.bool false],[.slice none 0 0]],rfl,.cons rfl (.cons rfl .nil)⟩ .nil)⟩
abbrev NilF:As:=cat [NilI,NilI]
theorem zfx:Str Tryz.prog 32 [NilF,NilF,NilF,NilF] :=
 Str.of (z:=.agg (([.bool false,.slice none 0 0,.bool false,.slice none 0 0]:List Value)++([.bool false,.slice none 0 0,.bool false,.slice none 0 0]:List Value)++([.bool false,.slice none 0 0,.bool false,.slice none 0 0]:List Value)++([.bool false,.slice none 0 0,.bool false,.slice none 0 0]:List Value)).toArray) zk Tryz.underlying32 zk fun B w=>⟨[([.bool false,.slice none 0 0,.bool false,.slice none 0 0]:List Value),([.bool false,.slice none 0 0,.bool false,.slice none 0 0]:List Value),([.bool false,.slice none 0 0,.bool false,.slice none 0 0]:List Value),([.bool false,.slice none 0 0,.bool false,.slice none 0 0]:List Value)],rfl,.cons zis (.cons zis (.cons zis (.cons zis .nil)))⟩
theorem zit:WkA NilF (RFN rf0):=⟨rfl,rfl,fun B cs w h=>(zf_rfd.2.2 _ _ _ h).1⟩
theorem nilF_cbl {B:Nat}{cs:List Value}{w:World}(h:NilF.p B cs w):cbl cs=[]:=by rw [zo1 h]; rfl
theorem zsl {B:Nat}{w:World}:∀ {l:List As} {ps:List (List Value)},(∀ A∈l,A=NilF)→All2 (fun (A:As) c=>A.p B c w) l ps→cbl ps.flatten=[]
 | [],_,_,h=>by cases h; rfl
 | A::l,_,hn,h=>by
  cases h with
  | cons h1 h2 =>
   rw [hn A (by simp)] at h1
   rw [List.flatten_cons,zdg,nilF_cbl h1,zsl (fun A' hA=>hn A' (by simp [hA])) h2]
   rfl
theorem zm_rmd:WkA (cat [NilF,NilF,NilF,NilF]) (RMD rm0):=⟨rfl,rfl,fun B cs w h=>by
 have h1:=(zc8 (.cons zit (.cons zit (.cons zit (.cons zit .nil))))).2.2 _ _ _ h
 obtain ⟨ps,e,hp⟩:=h
 refine ⟨h1,?_⟩
 rw [e,zsl (fun A hA=>by simp at hA; exact hA) hp]
 exact List.nodup_nil⟩
abbrev MRD (r:RM × Int):VA:=Tu [(RMD r.1).va,In r.2]
theorem md_pins {u v s t:Value}{k1 k2 k3 k4:Nat}{m:MQ}:WkA (cat [PinA u ((QD k1 m.a).and (SepAll [] u)),PinA v ((QD k2 m.b).and (SepAll [u] v)),PinA s ((QD k3 m.c).and (SepAll [u,v] s)),PinA t ((QD k4 m.d).and (SepAll [u,v,s] t))]) (RMD (rmOf m)) :=
 (zj3 (l:=[(u,QD k1 m.a),(v,QD k2 m.b),(s,QD k3 m.c),(t,QD k4 m.d)]) (fun y hy=>by
  simp at hy
  rcases hy with rfl | rfl | rfl | rfl <;> exact nod_qd)).trans (zh9 (zc8 (.cons zr6 (.cons zr6 (.cons zr6 (.cons zr6 .nil))))))
theorem zoq {c:Nat}{m:MQ}(hc:c≤137438953472):Cn Tryz.prog 20 [(QMA c m).va] (MRD (asM 0 m)):=by
 refine Cn.intro Tryz.func20 rfl zk nq (fun B w0 a O=>?_)
 have O:=zn [(0,(QMA c m).va)] [] O
 refine wp_seq<|zg [] [⟨1,32,ptrH,some 0,_,none⟩,⟨2,32,ptrH,some 1,_,none⟩] [.alc 0,.alc 1,.val 3 _] [.o 2] O (oc (zan rfl rfl rfl (gq 0 rfl)) (oc (zaq rfl rfl rfl (Str.zero zfx)) (zv rfl (za1 za3) o0))) (zz [(3,_)] [⟨1,32,ptrH,_⟩,⟨2,32,ptrH,_⟩] fun a w O=>?_)
 refine zt<|wp_seq<|zg [none,none] [] [.adr 5 1 (.some 0) True,.val 6 _,.adr 7 1 (.some 4) True,.val 8 _,.adr 9 1 (.some 8) True,.val 10 _,.adr 11 1 (.some 12) True,.val 12 _,.val 13 _,.val 14 _,.val 4 _] [.g 0,.o 10] O (oc (ob_a rfl rfl (za7 (lz0 0 rfl) zc2)) (zv rfl (za4 0 rfl zk trivial (lz0 0 rfl) (Sub.part 0 rfl rfl) zad) (oc (ob_a rfl rfl (za7 (lz0 0 rfl) zc1)) (zv rfl (za4 2 rfl zk trivial (lz0 0 rfl) (Sub.part 1 rfl rfl) zad) (oc (ob_a rfl rfl (za7 (lz0 0 rfl) zbw)) (zv rfl (za4 4 rfl zk trivial (lz0 0 rfl) (Sub.part 2 rfl rfl) zad) (oc (ob_a rfl rfl (za7 (lz0 0 rfl) zc0)) (zv rfl (za4 6 rfl zk trivial (lz0 0 rfl) (Sub.part 3 rfl rfl) zad) (zv rfl (zcy (D:=[U32]) (l:=[_,_,_,_]) (xs:=[.tmp 6,.tmp 8,.tmp 10,.tmp 12]) (zff zk) zeo zk (n_ok zk) nq nq nq (.cons (vq 1 rfl) (.cons (vq 3 rfl) (.cons (vq 5 rfl) (.cons (vq 7 rfl) .nil)))) rfl rfl) (zv rfl (za5 (xs:=[.tmp 13]) (zk6 [m.a,m.b,m.c,m.d] (.cons ⟨_,rfl⟩ (.cons ⟨_,rfl⟩ (.cons ⟨_,rfl⟩ (.cons ⟨_,rfl⟩ .nil)))) nq) (.cons (vq 8 rfl) .nil)) (zv rfl (za1 (vq 9 rfl)) o0))))))))))) (zz [(3,_),(4,_)] [⟨1,32,ptrH,_⟩,⟨2,32,ptrH,_⟩] fun a w O=>?_)
 refine zt<|zg [none,none] [] [.val 15 _,.val 16 _] [.g 0,.g 1,.o 1] O (zv rfl (za2 (gq 1 rfl)) (zv rfl (zd9 (vq 0 rfl) za3) o0)) (zz [(3,_),(4,_),(16,_)] [⟨1,32,ptrH,_⟩,⟨2,32,ptrH,_⟩] fun a w O=>?_)
 refine za0<|za9 O (zm 2 rfl) (fun hb0=>?_) (fun hb0=>?_)
 ·have hl:=zyh hb0
  refine wp_seq<|zg [none,some (2,_)] [] [.val 17 _,.val 18 _,.sto 1,.val 3 _] [.o 3] O (zv rfl (zb8 (xs:=[]) (qs:=[]) zfx .nil) (zv rfl (za2 (gq 1 rfl)) (oc (zac rfl rfl rfl (vq 0 rfl) zb2 (Eq.trans (b:=16) rfl rfl)) (zv rfl (za1 (vq 1 rfl)) o0)))) (zz [(3,_)] [⟨1,32,ptrH,_⟩,⟨2,32,ptrH,_⟩] fun a w O=>?_)
  refine za0<|wp_ret<|zah ?_
  refine zae ?_ (zb1 (rs:=[.cell 2 32,.tmp 3]) rfl O (.cell (zm 1 rfl) zb2 (.tmp (zm 0 rfl) .nil)) zd)
  have e:asM 0 m=(rm0,4):=by rw [asM,if_pos rfl,if_pos hl]
  rw [e]; exact tu2w zm_rmd.va (zbt (by rw [if_pos hl]))
 ·have hl:=as_no hb0
  refine wp_skip<|zt<|go_drawV' [[],[0],[0,1],[],[3],[0,1,2,3,4],[],[6],[0,1,2,3,4,5,6,7],[],[9],[0,1,2,3,4,5,6,7,8,9,10],[0,1,2,3,4,5,6,7,8,9,10,11],[0,1,2,3,4,5,6,7,8,9,10,11,12],[0,1,2,3,4,5,6,7,8,9,10,11,12,13]] (sts:=[none,some (13,fun ν=>_)]) (news:=[]) (sp:=[(fun ν=>.adr 19 1 (.some 0) True),(fun ν=>.val 20 _),(fun ν=>.val 21 (PinA (ν 2) ((QD c m.a).and (SepAll [] (ν 2)))).va),(fun ν=>.adr 22 1 (.some 4) True),(fun ν=>.val 23 _),(fun ν=>.val 24 (PinA (ν 5) ((QD c m.b).and (SepAll [ν 2] (ν 5)))).va),(fun ν=>.adr 25 1 (.some 8) True),(fun ν=>.val 26 _),(fun ν=>.val 27 (PinA (ν 8) ((QD c m.c).and (SepAll [ν 2,ν 5] (ν 8)))).va),(fun ν=>.adr 28 1 (.some 12) True),(fun ν=>.val 29 _),(fun ν=>.val 30 (PinA (ν 11) ((QD c m.d).and (SepAll [ν 2,ν 5,ν 8] (ν 11)))).va),(fun ν=>.val 31 _),(fun ν=>.sto 1),(fun ν=>.val 3 _)]) [.o 14] za6 O ⟨of_u fun ν=>ob_a rfl rfl (za7 (lz0 0 rfl) zc2),⟨of_u fun ν=>ob_v rfl rfl (za4 0 rfl zk trivial (lz0 0 rfl) (Sub.part 0 rfl rfl) zad),⟨zej (us:=fun ν=>[]) (xs:=[.tmp 20]) rfl rfl (zn7 hc) zgg zms (.cons upA_qa.va .nil) (fun ν=>(.cons (vq 1 rfl) .nil)) (fun _ _=>rfl) (fun ν=>zdp),⟨of_u fun ν=>ob_a rfl rfl (za7 (lz0 0 rfl) zc1),⟨of_u fun ν=>ob_v rfl rfl (za4 3 rfl zk trivial (lz0 0 rfl) (Sub.part 1 rfl rfl) zad),⟨zej (us:=fun ν=>[ν 2]) (xs:=[.tmp 23]) rfl rfl (zn7 hc) zgg zms (.cons upA_qa.va .nil) (fun ν=>(.cons (vq 4 rfl) .nil)) (fun _ _=>rfl) (fun ν=>(zde (zel zgg) (vq 2 rfl) zdp)),⟨of_u fun ν=>ob_a rfl rfl (za7 (lz0 0 rfl) zbw),⟨of_u fun ν=>ob_v rfl rfl (za4 6 rfl zk trivial (lz0 0 rfl) (Sub.part 2 rfl rfl) zad),⟨zej (us:=fun ν=>[ν 2,ν 5]) (xs:=[.tmp 26]) rfl rfl (zn7 hc) zgg zms (.cons upA_qa.va .nil) (fun ν=>(.cons (vq 7 rfl) .nil)) (fun _ _=>rfl) (fun ν=>(zde (zel zgg) (vq 2 rfl) (zde (zel zgg) (vq 5 rfl) zdp))),⟨of_u fun ν=>ob_a rfl rfl (za7 (lz0 0 rfl) zc0),⟨of_u fun ν=>ob_v rfl rfl (za4 9 rfl zk trivial (lz0 0 rfl) (Sub.part 3 rfl rfl) zad),⟨zej (us:=fun ν=>[ν 2,ν 5,ν 8]) (xs:=[.tmp 29]) rfl rfl (zn7 hc) zgg zms (.cons upA_qa.va .nil) (fun ν=>(.cons (vq 10 rfl) .nil)) (fun _ _=>rfl) (fun ν=>(zde (zel zgg) (vq 2 rfl) (zde (zel zgg) (vq 5 rfl) (zde (zel zgg) (vq 8 rfl) zdp)))),⟨of_u fun ν=>ob_v rfl rfl (zb8 (xs:=[(0,.tmp 21),(1,.tmp 24),(2,.tmp 27),(3,.tmp 30)]) (qs:=[(0,_),(1,_),(2,_),(3,_)]) zfx (.cons ⟨rfl,(vq 2 rfl),rfl⟩ (.cons ⟨rfl,(vq 5 rfl),rfl⟩ (.cons ⟨rfl,(vq 8 rfl),rfl⟩ (.cons ⟨rfl,(vq 11 rfl),rfl⟩ .nil))))),⟨of_u fun ν=>zac rfl rfl rfl (vq 12 rfl) zb2 (Eq.trans (b:=16) rfl rfl),⟨of_u fun ν=>ob_v rfl rfl (za1 za3),trivial⟩⟩⟩⟩⟩⟩⟩⟩⟩⟩⟩⟩⟩⟩⟩ ⟨(fun ν ν' h=>rfl),⟨(fun ν ν' h=>rfl),⟨(fun ν ν' h=>by first | rfl | simp only [h 2 rfl]),⟨(fun ν ν' h=>rfl),⟨(fun ν ν' h=>rfl),⟨(fun ν ν' h=>by first | rfl | simp only [h 2 rfl,h 5 rfl]),⟨(fun ν ν' h=>rfl),⟨(fun ν ν' h=>rfl),⟨(fun ν ν' h=>by first | rfl | simp only [h 2 rfl,h 5 rfl,h 8 rfl]),⟨(fun ν ν' h=>rfl),⟨(fun ν ν' h=>rfl),⟨(fun ν ν' h=>by first | rfl | simp only [h 2 rfl,h 5 rfl,h 8 rfl,h 11 rfl]),⟨(fun ν ν' h=>by first | rfl | simp only [h 2 rfl,h 5 rfl,h 8 rfl,h 11 rfl]),⟨(fun ν ν' h=>by first | rfl | simp only [h 2 rfl,h 5 rfl,h 8 rfl,h 11 rfl]),⟨(fun ν ν' h=>by first | rfl | simp only [h 2 rfl,h 5 rfl,h 8 rfl,h 11 rfl]),trivial⟩⟩⟩⟩⟩⟩⟩⟩⟩⟩⟩⟩⟩⟩⟩ ⟨trivial,⟨(fun ν ν' h=>by first | rfl | simp only [h 2 rfl,h 5 rfl,h 8 rfl,h 11 rfl]),trivial⟩⟩ zk zk (fun ν=>by kernel_rfl) (fun ν=>by kernel_rfl) (fun ν4 a w O=>?_)
  have O:=zn [(3,_)] [⟨1,32,ptrH,_⟩,⟨2,32,ptrH,_⟩] O
  refine za0<|wp_ret<|zae ?_ (zb1 (rs:=[.cell 2 32,.tmp 3]) rfl O (.cell (zm 1 rfl) zb2 (.tmp (zm 0 rfl) .nil)) zd)
  have e:asM 0 m=(rmOf m,0):=by rw [asM,if_pos rfl,if_neg hl]
  rw [e]; exact tu2w md_pins.va zbi
end Go.Proofs.YtndjeibbjjpkfaaGreatDoor
namespace Go.Proofs.YtndjeibbjjpkfaaGreatDoor
open Go Go.RowKit
def elCostF (x:RE):Int:=IntKind.i64.wrap (fracCostF x.p+fracCostF x.q)
def elsF (n:Int):List RE→Int
 | []=>n
 | x::xs=>if decide (n≤1048576) then elsF (IntKind.i64.wrap (n+elCostF x)) xs else n
theorem els_go {n:Int}{l:List RE}{j:Nat}(h:j<l.length)(h2:n≤1048576):elsF n (l.drop j)=elsF (IntKind.i64.wrap (n+elCostF l[j])) (l.drop (j+1)):=by
 rw [List.drop_eq_getElem_cons h,elsF,if_pos (decide_eq_true h2)]
theorem els_end {n:Int}{l:List RE}{j:Nat}(h:¬ (j<l.length∧n≤1048576)):elsF n (l.drop j)=n:=by
 by_cases hj:j<l.length
 ·rw [List.drop_eq_getElem_cons hj,elsF,if_neg (by simpa using fun hh=>h ⟨hj,hh⟩)]
 ·rw [List.drop_of_length_le zo]; rfl
theorem elCost_c (x:RE):Cn Tryz.prog 15 [(REA x).va] (In (elCostF x)):=by
 refine Cn.intro Tryz.func15 rfl zk nq (fun B w0 a O=>?_)
 have O:=zn [(0,(REA x).va)] [] O
 refine wp_seq<|zg [] [⟨1,64,ptrH,some 0,_,none⟩] [.alc 0,.val 2 _] [.o 1] O (oc (zan rfl rfl rfl (gq 0 rfl)) (zv rfl (za1 za3) o0)) (zz [(2,_)] [⟨1,64,ptrH,_⟩] fun a w O=>?_)
 refine zt<|zgd [[],[0],[0,1],[],[3],[0,1,2,3,4],[0,1,2,3,4,5],[0,1,2,3,4,5,6]] [none] [] [.adr 3 1 (.some 1) True,.val 4 _,.val 5 _,.adr 6 1 (.some 5) True,.val 7 _,.val 8 _,.val 9 _,.val 2 _] [.o 7] za6 O (oc (ob_a rfl rfl (za7 (lz0 0 rfl) zcd)) (zv rfl (za4 0 rfl zk trivial (lz0 0 rfl) (Sub.part 1 rfl rfl) zad) (zv rfl (za5 (xs:=[.tmp 4]) (zl6 _) (.cons (vq 1 rfl) .nil)) (oc (ob_a rfl rfl (za7 (lz0 0 rfl) zcg)) (zv rfl (za4 3 rfl zk trivial (lz0 0 rfl) (Sub.part 2 rfl rfl) zad) (zv rfl (za5 (xs:=[.tmp 7]) (zl6 _) (.cons (vq 4 rfl) .nil)) (zv rfl (zbb (vq 2 rfl) (vq 5 rfl) (rfl)) (zv rfl (za1 (vq 6 rfl)) o0)))))))) zk zk zk zk (zz [(2,_)] [⟨1,64,ptrH,_⟩] fun a w O=>?_)
 refine za0<|wp_ret<|zae ?_ (zag rfl O (zm 0 rfl))
 exact zbi
theorem zxt (xs:List RE):Cn Tryz.prog 5 [(SlA 64 [U32] (xs.map REA)).va] (In (elsF (xs.length:Nat) xs)):=by
 refine Cn.intro Tryz.func5 rfl zk nq (fun B w0 a O=>?_)
 have O:=zn [(0,(SlA 64 [U32] (xs.map REA)).va)] [] O
 have hl:=zqq (O.vals (0,(SlA 64 [U32] (xs.map REA)).va) (zm 0 rfl))
 refine wp_seq<|zh [.val 2 _] [.g 0,.o 0] O (zv rfl (za1 za3) o0) (zz [(0,_),(2,_)] [] fun a w O=>?_)
 refine zt<|zh [.val 5 _,.val 6 _,.val 3 _] [.g 0,.g 1,.o 2] O (zv rfl (za2 (gq 0 rfl)) (zv rfl (zbq Tryz.underlying22 (vq 0 rfl)) (zv rfl (za1 (vq 1 rfl)) o0))) (zz [(0,_),(2,_),(3,_)] [] fun a w O=>?_)
 refine zt<|wp_seq<|zh [.val 4 _] [.g 0,.g 1,.g 2,.o 0] O (zv rfl (za1 za3) o0) (zz [(0,_),(2,_),(3,_),(4,_)] [] fun a w O=>?_)
 refine za0<|wp_block ?_
 have O:=St.sel O [0,2,3]
 refine wp_loop_ghost (fun n a w=>∃ (j:Nat) (m:Int),(n+j=xs.length∧elsF (xs.length:Nat) xs=elsF m (xs.drop j))∧St B w0 25 [(0,(SlA 64 [U32] (xs.map REA)).va),(3,In m),(4,In (j:Nat))] [] a w) (xs.length) ?_ ?_
 ·exact ⟨0,(xs.length:Nat),⟨by omega,rfl⟩,by rw [List.length_map] at O; exact O⟩
 intro n a w hI
 obtain ⟨j,m,⟨hn,hm⟩,O⟩:=hI
 refine wp_seq<|wp_seq<|zh [.val 7 _,.val 8 _,.val 9 _,.val 10 _,.val 11 _,.val 12 (Wh (_=true) _),.val 13 (Wh (_=true) _),.val 14 _] [.g 0,.g 1,.g 2,.o 7] O (zv rfl (za2 (gq 2 rfl)) (zv rfl (za2 (gq 0 rfl)) (zv rfl (zbq Tryz.underlying22 (vq 1 rfl)) (zv rfl (zb6 (vq 0 rfl) (vq 2 rfl)) (zv rfl (za2 (vq 3 rfl)) (oc (zai rfl rfl rfl (vq 4 rfl) nq (fun hg=>za2 (gq 1 rfl))) (oc (zai rfl rfl rfl (vq 4 rfl) nq (fun hg=>zt3 (zaa (vq 5 rfl) hg) za3)) (zv rfl (zc9 (vq 4 rfl) (vq 6 rfl)) o0)))))))) (zz [(0,_),(3,_),(4,_),(14,_)] [] fun a w O=>?_)
 refine za0<|za9 O (zm 3 rfl) (fun hb0=>?_) (fun hb0=>?_)
 ·rw [Bool.and_eq_true,decide_eq_true_eq,decide_eq_true_eq,List.length_map] at hb0
  have hj:j<xs.length:=by omega
  have hm0:=hb0.2
  refine wp_skip<|zt<|wp_block<|zh [.val 17 _,.val 18 _,.val 19 _,.val 20 _,.val 21 _,.val 22 _,.val 23 _,.val 3 _] [.g 0,.g 2,.o 7] O (zv rfl (za2 (gq 1 rfl)) (zv rfl (za2 (gq 0 rfl)) (zv rfl (za2 (gq 2 rfl)) (zv rfl (zdv zgw (zie fun _=>rfl) (vq 1 rfl) (vq 2 rfl) (zfb hj)) (zv rfl (zaj (vq 3 rfl) zed) (zv rfl (za5 (xs:=[.tmp 21]) (elCost_c _) (.cons (vq 4 rfl) .nil)) (zv rfl (zbb (vq 0 rfl) (vq 5 rfl) (rfl)) (zv rfl (za1 (vq 6 rfl)) o0)))))))) (zz [(0,_),(4,_),(3,_)] [] fun a w O=>?_)
  refine zal ?_
  refine za0<|zh [.val 15 _,.val 16 _,.val 4 _] [.g 0,.g 2,.o 2] O (zv rfl (za2 (gq 1 rfl)) (zv rfl (zbb (vq 0 rfl) za3 (wi_nx hj hl)) (zv rfl (za1 (vq 1 rfl)) o0))) (zz [(0,_),(3,_),(4,_)] [] fun a w O=>?_)
  refine za0 ?_
  have O:=St.sel O [0,1,2]
  exact ⟨n-1,by omega,j+1,_,⟨by omega,hm.trans (els_go hj hm0)⟩,O⟩
 ·have hnj:¬ (j<xs.length∧m≤1048576):=by rintro ⟨h1,h2⟩; rw [List.length_map,decide_eq_true (by omega:(j:Int)<(xs.length:Int)),decide_eq_true h2] at hb0; exact absurd hb0 zd
  refine wp_exit<|za8<|za8<|zat<|zt<|zh [.val 24 _,.val 2 _] [.o 1] O (zv rfl (za2 (gq 1 rfl)) (zv rfl (za1 (vq 0 rfl)) o0)) (zz [(2,_)] [] fun a w O=>?_)
  refine za0<|wp_ret<|zae ?_ (zag rfl O (zm 0 rfl))
  exact zbt (congrArg In (hm.trans (els_end hnj)).symm)
open Go.ChangeShapes Go.WideShapes Go.ChangeAt
def wdE (x:RE):Prop:=wdF x.p∧wdF x.q
section
variable {H:Type} {enc:TypeId × Value→H} {w:World} {base:Nat} {spare:Nat→Bool} {held:Bool} {fuel:Nat} {cs:List Value} {x:DataW H × List MemPlace}
theorem rd_ek (h:DataW.trod enc Tryz.prog w base spare held fuel 62 cs=some x):∃ y,(NumA .u8 y).p w.heap.size cs w:=by
 obtain ⟨a,ha,_⟩:=DataW.trod_int Tryz.underlying62 h
 exact ⟨a,ha⟩
theorem rb_re (h:DataW.trod enc Tryz.prog w base spare held fuel 64 cs=some x)(hw:Wt Tryz.prog 64 x.1):∃ y,(REA y).p w.heap.size cs w∧wdE y:=by
 have hl:cs.length=9:=by
  obtain ⟨_,_,_,_,hl,_,_⟩:=DataW.trod_struct Tryz.underlying64 h
  exact hl.trans zk
 obtain ⟨n0,y0,h0,w0⟩:=zgm Tryz.underlying64 h hw 0 rfl
 have c0:Tryz.prog.cellsOf 62=1:=by kernel_rfl
 have h0:DataW.trod enc Tryz.prog w base spare held n0 62 ((cs.drop 0).take (Tryz.prog.cellsOf 62))=some y0:=h0
 rw [c0] at h0
 obtain ⟨a0,q0⟩:=rd_ek h0
 obtain ⟨n1,y1,h1,w1⟩:=zgm Tryz.underlying64 h hw 1 rfl
 have c1:Tryz.prog.cellsOf 30=4:=by kernel_rfl
 have h1:DataW.trod enc Tryz.prog w base spare held n1 30 ((cs.drop 1).take (Tryz.prog.cellsOf 30))=some y1:=h1
 rw [c1] at h1
 obtain ⟨a1,q1,b1⟩:=rb_rf h1 w1
 obtain ⟨n2,y2,h2,w2⟩:=zgm Tryz.underlying64 h hw 2 rfl
 have c2:Tryz.prog.cellsOf 30=4:=by kernel_rfl
 have h2:DataW.trod enc Tryz.prog w base spare held n2 30 ((cs.drop 5).take (Tryz.prog.cellsOf 30))=some y2:=h2
 rw [c2] at h2
 obtain ⟨a2,q2,b2⟩:=rb_rf h2 w2
 exact ⟨⟨a0,a1,a2⟩,zy8 q0 q1 q2 hl,⟨b1,b2⟩⟩
end
theorem el_cost {x:RE}(h:wdE x):∃ a b:Nat,elCostF x=((a+b:Nat):Int)∧(x.p.num.mag.length+x.p.den.mag.length+2≤a∧x.q.num.mag.length+x.q.den.mag.length+2≤b)∧a+b≤9007199254740992:=by
 obtain ⟨h1,h2⟩:=h
 obtain ⟨a,ea,la,ma⟩:=zog h1
 obtain ⟨b,eb,lb,mb⟩:=zog h2
 refine ⟨a,b,?_,⟨by omega,by omega⟩,by omega⟩
 unfold elCostF
 rw [ea,eb,wi64 zo zo]
 omega
def shE (c:Nat)(x:RE):Prop:=(x.p.num.mag.length≤c∧x.p.den.mag.length≤c)∧x.q.num.mag.length≤c∧x.q.den.mag.length≤c
theorem els_ok:∀ (xs:List RE) (n:Nat),(∀ x∈xs,wdE x)→n≤288230376151711744→∃ c:Nat,elsF (n:Int) xs=(c:Int)∧c≤576460752303423488∧(c≤1048576→n+4*xs.length≤c∧∀ x∈xs,shE c x)
 | [],n,_,hn=>⟨n,rfl,by omega,fun _=>⟨Nat.le_refl _,fun x hx=>by cases hx⟩⟩
 | x::xs,n,hw,hn=>by
  obtain ⟨a,b,e,l,hs⟩:=el_cost (hw x (by simp))
  by_cases h:n≤1048576
  ·obtain ⟨c,h1,h2,h3⟩:=els_ok xs (n+(a+b)) (fun y hy=>hw y (by simp [hy])) zo
   refine ⟨c,?_,h2,fun hc=>?_⟩
   ·rw [elsF,if_pos (decide_eq_true zo),e,wi64 zo zo]
    exact h1
   ·obtain ⟨h4,h5⟩:=h3 hc
    refine ⟨by simp only [List.length_cons]; omega,fun y hy=>?_⟩
    rcases List.mem_cons.1 hy with rfl | hy
    ·unfold shE; omega
    ·exact h5 y hy
  ·refine ⟨n,?_,by omega,fun hc=>absurd hc h⟩
   rw [elsF,if_neg (by intro h2; have:=of_decide_eq_true h2; omega)]
theorem els_bd {xs:List RE}{c:Nat}(h:∀ x∈xs,shE c x)(hc:c≤1048576):∀ x∈xs,bdF x.p∧bdF x.q:=fun x hx=>by
 have:=h x hx
 unfold shE at this
 unfold bdF
 omega
theorem byd_els {xs:List RE}(hs:(∀ y∈xs,wdE y)∧xs.length≤140737488355328)(h:bydF 0 [elsF (xs.length:Nat) xs]=false):xs.length≤209715∧∀ x∈xs,bdF x.p∧bdF x.q:=by
 obtain ⟨c,h1,h2,h3⟩:=els_ok xs xs.length hs.1 zo
 rw [h1] at h
 have:=byd_0 (l:=[c]) (by simp; omega) h
 simp at this
 obtain ⟨h4,h5⟩:=h3 zo
 exact ⟨by omega,els_bd h5 this⟩
theorem zqi {E:TypeId}{D:List TypeId}{l:List As}(h:∀ A∈l,UpA A A):Up (SlA E D l).va (SlA E D l).va:=fun B v w hB hp=>slx _ _ _ ((zp3 h).va B v w hB hp)
end Go.Proofs.YtndjeibbjjpkfaaGreatDoor
namespace Go.Proofs.YtndjeibbjjpkfaaGreatDoor
open Go Go.RowKit
theorem zbk_bkf:WkA (cat ZBk) (BkF [] [] []):=⟨rfl,rfl,fun B cs w ⟨ps,e,hp⟩=>by
 refine ⟨⟨0,.slice none 0 0,[],.slice none 0 0,[],.slice none 0 0,[]⟩,.slice none 0 0,[],⟨rfl,rfl,⟨rfl,fun s hs=>by cases hs⟩,⟨rfl,fun s hs=>by cases hs⟩,⟨rfl,fun s hs=>by cases hs⟩⟩,ps,e,?_⟩
 have hk:∀ {H E m:Nat} {c:List Value},(EqS (.slice none 0 0)).p B c w→(HkA H E m (.slice none 0 0) []).p B c w:=fun {H E m c} h=>⟨h.1,World.ownsRow_nil ..,(fun s hs=>by cases hs),fun i j s t h=>by cases h⟩
 cases hp with
 | cons h1 hp=>cases hp with
  | cons h2 hp=>cases hp with
   | cons h3 hp =>
    refine .cons h1 (.cons ⟨h2.1,World.ownsRow_nil ..,(fun s hs=>by cases hs),fun i j s t h=>by cases h⟩ (.cons (hk h3) ?_))
    iterate 5 (cases hp; rename_i h3 hp; refine .cons h3 ?_)
    cases hp; rename_i h3 hp; refine .cons (hk h3) ?_
    cases hp; rename_i h3 hp; refine .cons (hk h3) ?_
    iterate 7 (cases hp; rename_i h3 hp; refine .cons h3 ?_)
    cases hp
    exact .nil⟩
theorem zpo {x:RM}:NewA (RMN x):=zf1 fun A hA=>by
 simp at hA
 rcases hA with rfl | rfl | rfl | rfl <;> exact zm4
theorem zrn {x:RI}{m:Value}:WkA (IntP x m) (RIA x):=(show WkA (IntP x m) (RIN x) from zc8 (.cons (.refl _) (.cons pin_wk .nil))).trans wkA_riN
theorem zmp {x:RF}{m1 m2:Value}:WkA (FracP x m1 m2) (RFA x):=zc8 (.cons zrn (.cons zrn .nil))
theorem matp_rma {x:RM}{m:Nat→Value}:WkA (MatP x m) (RMA x):=zc8 (.cons zmp (.cons zmp (.cons zmp (.cons zmp .nil))))
theorem lnK_e {x:RE}{m:Nat→Value}(h:bdF x.p∧bdF x.q):LnK (ke x m):=zf5 (ztk h.1) (ztk h.2)
theorem lnK_ls {ms:Nat→Nat→Value}{xs:List RE}(h:∀ x∈xs,bdF x.p∧bdF x.q):LnK (lsK reO ke ms xs xs.length):=by
 have key:∀ i,i≤xs.length→LnK (lsK reO ke ms xs i):=fun i=>by
  induction i with
  | zero=>exact fun _ p hp=>by cases hp
  | succ i ih =>
   intro hi
   rw [zo5]
   refine zf5 (ih zo) (lnK_e (h _ ?_))
   rw [List.getD_eq_getElem?_getD,List.getElem?_eq_getElem zo]
   exact List.getElem_mem _
 exact key _ (Nat.le_refl _)
theorem zp4 {E m:Nat}{xs:List RE}{z:As}{Y:VA}:Wk (andV (TwS E m [U32] (xs.map RET) z) Y) (SlA E [U32] (xs.map REA)).va:=zcj andV_1 (zcj twS_sl (sl_wk (zm8 fun x=>wkA_ret) (zdy (p:=fun A=>∀ T∈A.deps,T∈[U32]) fun x=>ziu zk)).va)
end Go.Proofs.YtndjeibbjjpkfaaGreatDoor
namespace Go.Proofs.YtndjeibbjjpkfaaGreatDoor
open Go Go.RowKit
theorem zyn  : Cn Tryz.prog 14 [] (Bo true):=by
 refine Cn.intro Tryz.func14 rfl zk nq (fun B w0 a O=>?_)
 have O:=zn [] [] O
 refine wp_seq<|zh [.val 0 _] [.o 0] O (zv rfl (za1 zau) o0) (zz [(0,_)] [] fun a w O=>?_)
 refine zt<|zg [] [⟨1,30,ptrH,some 4,_,some (5,_)⟩] [.val 18 _,.val 17 _,.val 19 _,.val 20 _,.alc 0,.sto 0,.val 2 _] [.g 0] O (zv rfl (za5 (xs:=[.const (.int .i64 (1)),.const (.int .i64 (2))]) (ofQ_c zd zd zd zd zd) (.cons za3 (.cons za3 .nil))) (zv rfl (za2 (vq 0 rfl)) (zv rfl (zfe (vq 1 rfl)) (zv rfl (zfd (vq 1 rfl)) (oc (zaq rfl rfl rfl (Str.zero zb3)) (oc (zac rfl rfl rfl (vq 2 rfl) zad (Eq.trans (b:=4) rfl rfl)) (zv rfl (za1 (vq 3 rfl)) o0))))))) (zz [(0,_)] [⟨1,30,ptrH,_⟩] fun a w O=>?_)
 refine zt<|zg [none] [⟨3,30,ptrH,some 4,_,some (5,_)⟩] [.val 22 _,.val 21 _,.val 23 _,.val 24 _,.alc 1,.sto 1,.val 4 _] [.g 0] O (zv rfl (za5 (xs:=[.const (.int .i64 (1)),.const (.int .i64 (1))]) (ofQ_c zd zd zd zd zd) (.cons za3 (.cons za3 .nil))) (zv rfl (za2 (vq 0 rfl)) (zv rfl (zfe (vq 1 rfl)) (zv rfl (zfd (vq 1 rfl)) (oc (zaq rfl rfl rfl (Str.zero zb3)) (oc (zac rfl rfl rfl (vq 2 rfl) zad (Eq.trans (b:=4) rfl rfl)) (zv rfl (za1 (vq 3 rfl)) o0))))))) (zz [(0,_)] [⟨1,30,ptrH,_⟩,⟨3,30,ptrH,_⟩] fun a w O=>?_)
 refine zt<|zg [none,none] [⟨5,30,ptrH,some 4,_,some (5,_)⟩] [.val 26 _,.val 25 _,.val 27 _,.val 28 _,.alc 2,.sto 2,.val 6 _] [.g 0] O (zv rfl (za5 (xs:=[.const (.int .i64 (-1)),.const (.int .i64 (1))]) (ofQ_c zd zd zd zd zd) (.cons za3 (.cons za3 .nil))) (zv rfl (za2 (vq 0 rfl)) (zv rfl (zfe (vq 1 rfl)) (zv rfl (zfd (vq 1 rfl)) (oc (zaq rfl rfl rfl (Str.zero zb3)) (oc (zac rfl rfl rfl (vq 2 rfl) zad (Eq.trans (b:=4) rfl rfl)) (zv rfl (za1 (vq 3 rfl)) o0))))))) (zz [(0,_)] [⟨1,30,ptrH,_⟩,⟨3,30,ptrH,_⟩,⟨5,30,ptrH,_⟩] fun a w O=>?_)
 refine zt<|zg [none,none,none] [⟨7,30,ptrH,some 4,_,some (5,_)⟩] [.val 30 _,.val 29 _,.val 31 _,.val 32 _,.alc 3,.sto 3,.val 8 _] [.g 0] O (zv rfl (za5 (xs:=[.const (.int .i64 (0)),.const (.int .i64 (1))]) (ofQ_c zd zd zd zd zd) (.cons za3 (.cons za3 .nil))) (zv rfl (za2 (vq 0 rfl)) (zv rfl (zfe (vq 1 rfl)) (zv rfl (zfd (vq 1 rfl)) (oc (zaq rfl rfl rfl (Str.zero zb3)) (oc (zac rfl rfl rfl (vq 2 rfl) zad (Eq.trans (b:=4) rfl rfl)) (zv rfl (za1 (vq 3 rfl)) o0))))))) (zz [(0,_)] [⟨1,30,ptrH,_⟩,⟨3,30,ptrH,_⟩,⟨5,30,ptrH,_⟩,⟨7,30,ptrH,_⟩] fun a w O=>?_)
 refine zt<|zg [none,none,none,none] [⟨9,32,ptrH,some 7,_,some (8,_)⟩] [.val 34 _,.val 35 _,.val 36 _,.val 37 _,.val 33 _,.val 38 _,.val 39 _,.alc 4,.sto 4,.val 10 _] [.g 0,.o 9] O (zv rfl (zam (lz0 0 rfl) zad) (zv rfl (zam (lz0 0 rfl) zad) (zv rfl (zam (lz0 1 rfl) zad) (zv rfl (za5 (xs:=[.tmp 34,.tmp 35,.tmp 36]) (two_c _ _ _) (.cons (vq 0 rfl) (.cons (vq 1 rfl) (.cons (vq 2 rfl) .nil)))) (zv rfl (za2 (vq 3 rfl)) (zv rfl (zfe (vq 4 rfl)) (zv rfl (zfd (vq 4 rfl)) (oc (zaq rfl rfl rfl (Str.zero zar)) (oc (zac rfl rfl rfl (vq 5 rfl) zb2 (Eq.trans (b:=16) rfl rfl)) (zv rfl (za1 (vq 6 rfl)) o0)))))))))) (zz [(0,_),(10,_)] [⟨1,30,ptrH,_⟩,⟨3,30,ptrH,_⟩,⟨5,30,ptrH,_⟩,⟨7,30,ptrH,_⟩,⟨9,32,ptrH,_⟩] fun a w O=>?_)
 refine zt<|zg [none,none,none,none,none] [] [.val 41 _,.val 42 _,.val 40 _,.val 43 _,.val 44 _,.val 11 _,.val 12 _] [.g 0,.g 1,.o 5,.o 6] O (zv rfl (zam (lz0 4 rfl) zb2) (zv rfl (za5 (xs:=[.tmp 41]) (zww _) (.cons (vq 0 rfl) .nil)) (zv rfl (za2 (vq 1 rfl)) (zv rfl (zfe (vq 2 rfl)) (zv rfl (zfd (vq 2 rfl)) (zv rfl (za1 (vq 3 rfl)) (zv rfl (za1 (vq 4 rfl)) o0))))))) (zz [(0,_),(10,_),(11,_),(12,_)] [⟨1,30,ptrH,_⟩,⟨3,30,ptrH,_⟩,⟨5,30,ptrH,_⟩,⟨7,30,ptrH,_⟩,⟨9,32,ptrH,_⟩] fun a w O=>?_)
 refine zt<|zg [none,none,none,none,none] [] [.val 46 _,.val 47 _,.val 48 _,.val 49 _,.val 50 _,.val 51 _,.val 45 _,.val 52 _,.val 53 _,.val 13 _,.val 14 _] [.g 0,.g 1,.g 2,.g 3,.o 9,.o 10] O (zv rfl (zam (lz0 2 rfl) zad) (zv rfl (zam (lz0 3 rfl) zad) (zv rfl (zam (lz0 3 rfl) zad) (zv rfl (zam (lz0 2 rfl) zad) (zv rfl (zb8 (xs:=[(0,.tmp 46),(1,.tmp 47),(2,.tmp 48),(3,.tmp 49)]) (qs:=[(0,_),(1,_),(2,_),(3,_)]) zar (.cons ⟨rfl,(vq 0 rfl),rfl⟩ (.cons ⟨rfl,(vq 1 rfl),rfl⟩ (.cons ⟨rfl,(vq 2 rfl),rfl⟩ (.cons ⟨rfl,(vq 3 rfl),rfl⟩ .nil))))) (zv rfl (za5 (xs:=[.tmp 50]) (zww ⟨_,_,_,_⟩) (.cons (vq 4 rfl) .nil)) (zv rfl (za2 (vq 5 rfl)) (zv rfl (zfe (vq 6 rfl)) (zv rfl (zfd (vq 6 rfl)) (zv rfl (za1 (vq 7 rfl)) (zv rfl (za1 (vq 8 rfl)) o0))))))))))) (zz [(0,_),(10,_),(11,_),(12,_),(13,_),(14,_)] [⟨1,30,ptrH,_⟩,⟨3,30,ptrH,_⟩,⟨5,30,ptrH,_⟩,⟨7,30,ptrH,_⟩,⟨9,32,ptrH,_⟩] fun a w O=>?_)
 refine zt<|zg [none,none,none,none,none] [] [.val 55 _,.val 56 _,.val 54 _,.val 57 _,.val 58 _,.val 15 _,.val 16 _] [.g 0,.g 1,.g 2,.g 3,.g 4,.g 5,.o 6] O (zv rfl (zb8 (xs:=[]) (qs:=[]) zar .nil) (zv rfl (za5 (xs:=[.tmp 55]) (zww rm0) (.cons (vq 0 rfl) .nil)) (zv rfl (za2 (vq 1 rfl)) (zv rfl (zfe (vq 2 rfl)) (zv rfl (zfd (vq 2 rfl)) (zv rfl (za1 (vq 3 rfl)) (zv rfl (za1 (vq 4 rfl)) o0))))))) (zz [(0,_),(10,_),(11,_),(12,_),(13,_),(14,_),(16,_)] [⟨1,30,ptrH,_⟩,⟨3,30,ptrH,_⟩,⟨5,30,ptrH,_⟩,⟨7,30,ptrH,_⟩,⟨9,32,ptrH,_⟩] fun a w O=>?_)
 refine zt<|gl (sts:=[none,none,none,none,none]) (news:=[]) (sp:=((.val 59 _:Sp)::(.val 60 _)::(.val 61 _)::(.val 62 (Wh (_=true) _))::(.val 63 (Wh (_=true) _))::(.val 64 _)::(.val 65 _)::(.val 66 (Wh (_=true) _))::(.val 67 (Wh (_=true) _))::(.val 68 _)::(.val 69 _)::(.val 70 (Wh (_=true) _))::(.val 71 (Wh (_=true) _))::(.val 72 _)::(.val 73 _)::(.val 74 (Wh (_=true) _))::(.val 75 (Wh (_=true) _))::(.val 76 _)::(.val 77 _)::(.val 78 (Wh (_=true) _))::(.val 79 (Wh (_=true) _))::(.val 80 _)::(.val 81 _)::(.adr 82 9 (.some 8) (_=true))::(.val 83 (Wh (_=true) _))::(.val 84 (Wh (_=true) _))::(.val 85 (Wh (_=true) _))::(.val 86 _)::(.val 87 _)::(.adr 88 9 (.some 12) (_=true))::(.val 89 (Wh (_=true) _))::(.val 90 (Wh (_=true) _))::(.val 91 (Wh (_=true) _))::(.val 92 _)::(.val 0 _)::[])) [.o 34] O (zv rfl (za2 (gq 1 rfl)) (zv rfl (zc5 (vq 0 rfl) za3) (zv rfl (za2 (vq 1 rfl)) (oc (zai rfl rfl rfl (vq 2 rfl) nq (fun hg=>za2 (gq 3 rfl))) (oc (zai rfl rfl rfl (vq 2 rfl) nq (fun hg=>zc5 (zaa (vq 3 rfl) hg) za3)) (zv rfl (zc9 (vq 2 rfl) (vq 4 rfl)) (zv rfl (za2 (vq 5 rfl)) (oc (zai rfl rfl rfl (vq 6 rfl) nq (fun hg=>za2 (gq 5 rfl))) (oc (zai rfl rfl rfl (vq 6 rfl) nq (fun hg=>zc5 (zaa (vq 7 rfl) hg) za3)) (zv rfl (zc9 (vq 6 rfl) (vq 8 rfl)) (zv rfl (za2 (vq 9 rfl)) (oc (zai rfl rfl rfl (vq 10 rfl) nq (fun hg=>za2 (gq 2 rfl))) (oc (zai rfl rfl rfl (vq 10 rfl) nq (fun hg=>zc5 (zaa (vq 11 rfl) hg) za3)) (zv rfl (zc9 (vq 10 rfl) (vq 12 rfl)) (zv rfl (za2 (vq 13 rfl)) (oc (zai rfl rfl rfl (vq 14 rfl) nq (fun hg=>za2 (gq 4 rfl))) (oc (zai rfl rfl rfl (vq 14 rfl) nq (fun hg=>zc5 (zaa (vq 15 rfl) hg) za3)) (zv rfl (zc9 (vq 14 rfl) (vq 16 rfl)) (zv rfl (za2 (vq 17 rfl)) (oc (zai rfl rfl rfl (vq 18 rfl) nq (fun hg=>za2 (gq 6 rfl))) (oc (zai rfl rfl rfl (vq 18 rfl) nq (fun hg=>zc5 (zaa (vq 19 rfl) hg) za3)) (zv rfl (zc9 (vq 18 rfl) (vq 20 rfl)) (zv rfl (za2 (vq 21 rfl)) (oc (zce rfl rfl rfl (vq 22 rfl) nq (fun hg=>za7 (lz0 4 rfl) zbw)) (oc (zai rfl rfl rfl (vq 22 rfl) nq (fun hg=>za4 23 rfl zk hg (lz0 4 rfl) (Sub.part 2 rfl rfl) zad)) (oc (zai rfl rfl rfl (vq 22 rfl) nq (fun hg=>zam (lz0 2 rfl) zad)) (oc (zai rfl rfl rfl (vq 22 rfl) nq (fun hg=>za5 (xs:=[.tmp 83,.tmp 84]) (ze4 _ _) (.cons (zaa (vq 24 rfl) hg) (.cons (zaa (vq 25 rfl) hg) .nil)))) (zv rfl (zc9 (vq 22 rfl) (vq 26 rfl)) (zv rfl (za2 (vq 27 rfl)) (oc (zce rfl rfl rfl (vq 28 rfl) nq (fun hg=>za7 (lz0 4 rfl) zc0)) (oc (zai rfl rfl rfl (vq 28 rfl) nq (fun hg=>za4 29 rfl zk hg (lz0 4 rfl) (Sub.part 3 rfl rfl) zad)) (oc (zai rfl rfl rfl (vq 28 rfl) nq (fun hg=>zam (lz0 3 rfl) zad)) (oc (zai rfl rfl rfl (vq 28 rfl) nq (fun hg=>za5 (xs:=[.tmp 89,.tmp 90]) (ze4 _ _) (.cons (zaa (vq 30 rfl) hg) (.cons (zaa (vq 31 rfl) hg) .nil)))) (zv rfl (zc9 (vq 28 rfl) (vq 32 rfl)) (zv rfl (za1 (vq 33 rfl)) o0))))))))))))))))))))))))))))))))))) (zz [(0,_)] [⟨1,30,ptrH,_⟩,⟨3,30,ptrH,_⟩,⟨5,30,ptrH,_⟩,⟨7,30,ptrH,_⟩,⟨9,32,ptrH,_⟩] fun a w O=>?_)
 refine za0<|wp_ret<|zae ?_ (zag rfl O (zm 0 rfl))
 exact zbt (congrArg Bo zk)
end Go.Proofs.YtndjeibbjjpkfaaGreatDoor
namespace Go.Proofs.YtndjeibbjjpkfaaGreatDoor
open Go Go.RowKit
theorem zp6:Str Tryz.prog 72 [BoA false,NfA] :=
 Str.of (z:=.agg #[.bool false,.nilFunc]) zk Tryz.underlying72 zk fun _ _=>⟨[[.bool false],[.nilFunc]],rfl,.cons rfl (.cons ⟨rfl,rfl⟩ .nil)⟩
def wayF (j:Nat):FuncId:=if j=0 then 88 else 87
def wayA (j:Nat):As:=cat [BoA (decide (j=0)),EqA (.func (.func (wayF j)) #[] #[])]
def wayL:List As:=[wayA 0,wayA 1]
theorem way_at {j:Nat}(h:j<2):wayL[j]?=some (wayA j) :=
 match j,h with
 | 0,_=>rfl
 | 1,_=>rfl
theorem way_n:∀ A∈wayL,A.n=2:=fun A hA=>by
 rcases List.mem_cons.1 hA with rfl | hA
 ·rfl
 ·obtain rfl:=List.mem_singleton.1 hA
  rfl
theorem zs0 (v:Value):FreeA (EqA v) (EqA v):=⟨rfl,rfl,fun _ _ _ _ _ h=>h⟩
theorem way_free:FreeA (cat wayL) (cat wayL):=zch (.cons (zch (.cons (zdz _) (.cons (zs0 _) .nil))) (.cons (zch (.cons (zdz _) (.cons (zs0 _) .nil))) .nil))
def wayQ (j:Nat)(m:MQ):MQ:=if j=0 then m else mulQ (mirQ m) m
def wayT (ring:Bool)(j:Nat)(m:MQ):MQ:=if decide (j=0)==ring then wayQ j m else m
def tripQ (ring:Bool)(m:MQ):MQ:=if ring then m else mulQ (mirQ m) m
def tripF (xs:List RE)(ring:Bool):RM × Int:=if chF xs=0 then asM 0 (tripQ ring (prodQ xs)) else (rm0,chF xs)
def wayS (ring:Bool)(m:MQ):Nat→MQ
 | 0=>m
 | j+1=>wayT ring j (wayS ring m j)
theorem wayS_2 (ring:Bool)(m:MQ):wayS ring m 2=tripQ ring m:=by cases ring <;> rfl
def wayB:Nat→Nat
 | 0=>16781313
 | j+1=>wayB j+wayB j+(wayB j+wayB j)+1
theorem St.nbR {B N:Nat}{w0:Bs}{Γ:List (Nat × VA)}{Λ:List Lc}{a:Act}{w:World}(h:St B w0 N Γ Λ a w){s:Nat}{E:TypeId}{l:List As}(k:Nat)(hm:Γ[k]?=some (s,NewR w0.w.heap.size E l))(hB:B=w0.w.heap.size):St B w0 N (Γ.set k (s,NewB E l)) Λ a w :=
 ⟨h.lo,h.defers,h.size,h.base,fun x hx=>by
  rcases List.mem_or_eq_of_mem_set hx with hx | rfl
  ·exact h.vals x hx
  ·have:=h.vals _ (List.mem_of_getElem? hm)
   subst hB
   exact this,h.locs,h.dis⟩
theorem r_lenN {P:Program}{R:Rg}{Q:Exit→Act→World→Prop}{B i b:Nat}{w0:Bs}{x:Operand}{S E E':TypeId}{l:List As}(hS:P.underlying S=some (.slice E'))(hx:Has R B w0 i x (NewR b E l)):Wv P Q R B w0 i (.call ⟨.builtin .len,#[x],#[S]⟩) (In l.length) :=
 zbm fun d T ps af gd a w av=>by
  obtain ⟨g,ds,h1,_⟩:=hx a w av
  refine ⟨.int .i64 l.length,w,?_,Grow.refl w,zcq _ _ _ _⟩
  simp [execOp,resolve,invoke,builtin,h1,Builtin.len_,run_underlying hS,goInt]
theorem ways_c  : Cn Tryz.prog 19 [] (NewB 72 wayL):=by
 refine Cn.introW Tryz.func19 rfl zk nq .nil (fun _ _ _ _ hB ⟨g,ds,e,h1,h2,h3⟩=>⟨g,ds,e,Nat.le_trans hB h1,h2,way_free.2.2 _ _ _ _ hB h3⟩) (fun B w0 a hB0 O=>?_)
 have O:=zn [] [] O
 refine wp_seq<|zh [.val 0 _] [.o 0] O (zv rfl (za1 zbp) o0) (zz [(0,_)] [] fun a w O=>?_)
 refine zt<|zh [.val 1 _] [.g 0,.o 0] O (zv rfl (za1 zgr) o0) (zz [(0,_),(1,_)] [] fun a w O=>?_)
 refine zt<|zh [.val 2 _,.val 3 _,.val 4 _,.val 5 _,.val 0 _] [.o 4] O (zv rfl (zb8 (xs:=[(0,.const (.bool true)),(1,.func 88)]) (qs:=[(0,_),(1,_)]) zp6 (.cons ⟨rfl,zau,rfl⟩ (.cons ⟨rfl,zgr,rfl⟩ .nil))) (zv rfl (za2 (gq 1 rfl)) (zv rfl (zb8 (xs:=[(1,.tmp 3)]) (qs:=[(1,_)]) zp6 (.cons ⟨rfl,(vq 1 rfl),rfl⟩ .nil)) (zv rfl (zzw (l:=[_,_]) (xs:=[.tmp 2,.tmp 4]) sl_68 zk (n_ok zk) nq nq nq (.cons (vq 0 rfl) (.cons (vq 2 rfl) .nil)) rfl rfl) (zv rfl (za1 (vq 3 rfl)) o0))))) (zz [(0,_)] [] fun a w O=>?_)
 refine za0<|wp_ret ?_
 have O:=St.nbR O 0 rfl hB0
 refine zae ?_ (zag rfl O (zm 0 rfl))
 exact fun _ _ _ h=>h
theorem ways1_q {c:Nat}{m:MQ}(hc:c≤34359738368):Cn Tryz.prog 87 [(QMA c m).va] ((QMA (c+c+(c+c)+1) (mulQ (mirQ m) m)).va):=by
 refine Cn.intro Tryz.func87 rfl zk nq (fun B w0 a O=>?_)
 have O:=zn [(0,(QMA c m).va)] [] O
 refine wp_seq<|zg [] [⟨1,32,ptrH,some 0,_,none⟩,⟨2,32,ptrH,some 1,_,none⟩] [.alc 0,.alc 1] [] O (oc (zan rfl rfl rfl (gq 0 rfl)) (oc (zaq rfl rfl rfl (Str.zero zar)) o0)) (zz [] [⟨1,32,ptrH,_⟩,⟨2,32,ptrH,_⟩] fun a w O=>?_)
 refine zt<|zg [none,some (11,_)] [] [.adr 3 1 (.some 12) True,.val 4 _,.adr 5 1 (.some 4) True,.val 6 _,.adr 7 1 (.some 8) True,.val 8 _,.adr 9 1 (.some 0) True,.val 10 _,.val 11 _,.val 12 _,.val 13 _,.sto 1] [] O (oc (ob_a rfl rfl (za7 (lz0 0 rfl) zc0)) (zv rfl (za4 0 rfl zk trivial (lz0 0 rfl) (Sub.part 3 rfl rfl) zad) (oc (ob_a rfl rfl (za7 (lz0 0 rfl) zc1)) (zv rfl (za4 2 rfl zk trivial (lz0 0 rfl) (Sub.part 1 rfl rfl) zad) (oc (ob_a rfl rfl (za7 (lz0 0 rfl) zbw)) (zv rfl (za4 4 rfl zk trivial (lz0 0 rfl) (Sub.part 2 rfl rfl) zad) (oc (ob_a rfl rfl (za7 (lz0 0 rfl) zc2)) (zv rfl (za4 6 rfl zk trivial (lz0 0 rfl) (Sub.part 0 rfl rfl) zad) (zv rfl (zb8 (xs:=[(0,.tmp 4),(1,.tmp 6),(2,.tmp 8),(3,.tmp 10)]) (qs:=[(0,_),(1,_),(2,_),(3,_)]) zar (.cons ⟨rfl,(vq 1 rfl),rfl⟩ (.cons ⟨rfl,(vq 3 rfl),rfl⟩ (.cons ⟨rfl,(vq 5 rfl),rfl⟩ (.cons ⟨rfl,(vq 7 rfl),rfl⟩ .nil))))) (zv rfl (zam (lz0 0 rfl) zb2) (zv rfl (za5 (xs:=[.tmp 11,.tmp 12]) (zhm (m:=⟨_,_,_,_⟩) (q:=m) zo) (.cons (vq 8 rfl) (.cons (vq 9 rfl) .nil))) (oc (zac rfl rfl rfl (vq 10 rfl) zb2 (Eq.trans (b:=16) rfl rfl)) o0)))))))))))) (zz [] [⟨1,32,ptrH,_⟩,⟨2,32,ptrH,_⟩] fun a w O=>?_)
 refine za0<|wp_ret<|zae ?_ (zak rfl O (zm 1 rfl) zb2)
 exact zbi
theorem ways2_q {c:Nat}{m:MQ}:Cn Tryz.prog 88 [(QMA c m).va] ((QMA c m).va):=by
 refine Cn.intro Tryz.func88 rfl zk nq (fun B w0 a O=>?_)
 have O:=zn [(0,(QMA c m).va)] [] O
 refine wp_seq<|zg [] [⟨1,32,ptrH,some 0,_,none⟩,⟨2,32,ptrH,some 1,_,none⟩] [.alc 0,.alc 1] [] O (oc (zan rfl rfl rfl (gq 0 rfl)) (oc (zaq rfl rfl rfl (Str.zero zar)) o0)) (zz [] [⟨1,32,ptrH,_⟩,⟨2,32,ptrH,_⟩] fun a w O=>?_)
 refine zt<|zg [none,some (1,_)] [] [.val 3 _,.sto 1] [] O (zv rfl (zam (lz0 0 rfl) zb2) (oc (zac rfl rfl rfl (vq 0 rfl) zb2 (Eq.trans (b:=16) rfl rfl)) o0)) (zz [] [⟨1,32,ptrH,_⟩,⟨2,32,ptrH,_⟩] fun a w O=>?_)
 refine za0<|wp_ret<|zae ?_ (zak rfl O (zm 1 rfl) zb2)
 exact zbi
theorem qm_mono' {k k':Nat}{m:MQ}(h:k≤k'):WkA (QMA k m) (QMA k' m):=zc8 (.cons (zbg h) (.cons (zbg h) (.cons (zbg h) (.cons (zbg h) .nil))))
theorem way_c {c:Nat}{m:MQ}{j:Nat}(hc:c≤34359738368):Cn Tryz.prog (wayF j) [(QMA c m).va] (QMA (c+c+(c+c)+1) (wayQ j m)).va:=by
 unfold wayF wayQ
 by_cases h:j=0
 ·rw [if_pos h,if_pos h]
  exact ways2_q.wkp (qm_mono' zo).va
 ·rw [if_neg h,if_neg h]
  exact ways1_q hc
theorem wayB_le {j:Nat}(h:j≤2):wayB j≤1000000000 :=
 match j,h with
 | 0,_=>by decide
 | 1,_=>by decide
 | 2,_=>by decide
end Go.Proofs.YtndjeibbjjpkfaaGreatDoor
namespace Go.Proofs.YtndjeibbjjpkfaaGreatDoor
open Go Go.RowKit
set_option maxHeartbeats 1000000 in
theorem zp5 (xs:List RE)(ring:Bool):Cn Tryz.prog 7 [(SlA 64 [U32] (xs.map REA)).va,Bo ring] (MRD (tripF xs ring)):=by
 refine Cn.intro Tryz.func7 rfl zk nq (fun B w0 a O=>?_)
 have O:=zn [(0,(SlA 64 [U32] (xs.map REA)).va),(1,Bo ring)] [] O
 refine wp_seq<|zg [] [⟨4,32,ptrH,some 0,_,none⟩] [.alc 0,.val 5 _] [.g 0,.g 1,.o 1] O (oc (zaq rfl rfl rfl (Str.zero zfx)) (zv rfl (za1 za3) o0)) (zz [(0,_),(1,_),(5,_)] [⟨4,32,ptrH,_⟩] fun a w O=>?_)
 refine zt<|wp_seq<|zg [none] [] [.val 10 _,.val 11 _,.val 6 _] [.g 0,.g 1,.g 2,.o 2] O (zv rfl (za2 (gq 0 rfl)) (zv rfl (za5 (xs:=[.tmp 10]) (zu6 xs) (.cons (vq 0 rfl) .nil)) (zv rfl (za1 (vq 1 rfl)) o0))) (zz [(0,_),(1,_),(5,_),(6,_)] [⟨4,32,ptrH,_⟩] fun a w O=>?_)
 refine zt<|zg [none] [] [.val 12 _,.val 13 _] [.g 0,.g 1,.g 2,.g 3,.o 1] O (zv rfl (za2 (gq 3 rfl)) (zv rfl (zd9 (vq 0 rfl) za3) o0)) (zz [(0,_),(1,_),(5,_),(6,_),(13,_)] [⟨4,32,ptrH,_⟩] fun a w O=>?_)
 refine za0<|za9 O (zm 4 rfl) (fun hb0=>?_) (fun hb0=>?_)
 ·have hc:¬ chF xs=0:=by simpa using hb0
  refine wp_seq<|zg [some (2,_)] [] [.val 14 _,.val 15 _,.sto 0,.val 5 _] [.g 0,.g 1,.o 3] O (zv rfl (zb8 (xs:=[]) (qs:=[]) zfx .nil) (zv rfl (za2 (gq 3 rfl)) (oc (zac rfl rfl rfl (vq 0 rfl) zb2 (Eq.trans (b:=16) rfl rfl)) (zv rfl (za1 (vq 1 rfl)) o0)))) (zz [(0,_),(1,_),(5,_)] [⟨4,32,ptrH,_⟩] fun a w O=>?_)
  refine za0<|wp_ret<|zah ?_
  refine zae ?_ (zb1 (rs:=[.cell 4 32,.tmp 5]) rfl O (.cell (zm 0 rfl) zb2 (.tmp (zm 2 rfl) .nil)) zd)
  rw [tripF,if_neg hc]; exact tu2w zm_rmd.va zbi
 ·have hc:chF xs=0:=by simpa using hb0
  have hk:=ch_ok hc
  refine wp_skip<|zt<|zg [none] [⟨7,32,ptrH,some 2,_,some (3,_)⟩] [.val 16 _,.val 17 _,.alc 1,.sto 1] [.g 1,.g 2] O (zv rfl (za2 (gq 0 rfl)) (zv rfl (za5 (xs:=[.tmp 16]) (zpb hk.1 hk.2) (.cons (vq 0 rfl) .nil)) (oc (zaq rfl rfl rfl (Str.zero zfx)) (oc (zac rfl rfl rfl (vq 1 rfl) zb2 (Eq.trans (b:=16) rfl rfl)) o0)))) (zz [(1,_),(5,_)] [⟨4,32,ptrH,_⟩,⟨7,32,ptrH,_⟩] fun a w O=>?_)
  refine zt<|wp_seq<|zg [none,none] [] [.val 18 _,.val 19 _,.val 20 _] [.g 0,.g 1,.o 0,.o 1,.o 2] O (zv rfl (r_callN ways_c way_free) (zv rfl (r_lenN Tryz.underlying68 (vq 0 rfl)) (zv rfl (za2 za3) o0))) (zz [(1,_),(5,_),(18,_),(19,_),(20,_)] [⟨4,32,ptrH,_⟩,⟨7,32,ptrH,_⟩] fun a w O=>?_)
  have O:=St.toLoc O 2 rfl zk
  have O:=zn [(1,_),(5,_),(19,_),(20,_)] [⟨4,32,ptrH,_⟩,⟨7,32,ptrH,_⟩,⟨18,72,slH 2 2,_⟩] O
  refine za0<|wp_block ?_
  have O:=St.sel O [0,2,3]
  refine wp_loop_ghost (fun n a w=>∃ j:Nat,(n+j=2)∧St B w0 37 [(1,Bo ring),(19,In (2:Nat)),(20,In (j:Nat))] [⟨4,32,ptrH,cat [NilF,NilF,NilF,NilF]⟩,⟨7,32,ptrH,QMA (wayB j) (wayS ring (prodQ xs) j)⟩,⟨18,72,slH 2 2,cat wayL⟩] a w) (2) ?_ ?_
  ·exact ⟨0,rfl,O⟩
  intro n a w hI
  obtain ⟨j,hn,O⟩:=hI
  refine wp_seq<|zg [none,none,none] [] [.val 21 _] [.g 0,.g 1,.g 2,.o 0] O (zv rfl (zb6 (gq 2 rfl) (gq 1 rfl)) o0) (zz [(1,_),(19,_),(20,_),(21,_)] [⟨4,32,ptrH,_⟩,⟨7,32,ptrH,_⟩,⟨18,72,slH 2 2,_⟩] fun a w O=>?_)
  refine zt<|za9 O (zm 3 rfl) (fun hb1=>?_) (fun hb1=>?_)
  ·have hj:j<2:=by have:=of_decide_eq_true hb1; omega
   refine wp_skip<|zt<|wp_block<|wp_seq<|zg [none,none,none] [⟨9,72,ptrH,some 2,_,some (3,_)⟩] [.val 22 _,.val 23 _,.alc 3,.sto 3] [.g 0,.g 1,.g 2] O (zv rfl (r_rowv (lz0 2 rfl) sl_68 way_n (gq 2 rfl) (way_at hj) rfl) (zv rfl (zaj (vq 0 rfl) ty_72) (oc (zaq rfl rfl rfl (Str.zero zp6)) (oc (zac rfl rfl rfl (vq 1 rfl) ty_72 (Eq.trans (b:=2) rfl rfl)) o0)))) (zz [(1,_),(19,_),(20,_)] [⟨4,32,ptrH,_⟩,⟨7,32,ptrH,_⟩,⟨18,72,slH 2 2,_⟩,⟨9,72,ptrH,_⟩] fun a w O=>?_)
   refine zt<|zg [none,none,none,none] [] [.adr 24 9 (.some 0) True,.val 25 _,.val 26 _,.val 27 _] [.g 0,.g 1,.g 2,.o 3] O (oc (ob_a rfl rfl (za7 (lz0 3 rfl) fld_72_0)) (zv rfl (za4 0 rfl zk trivial (lz0 3 rfl) (Sub.part 0 rfl rfl) ty_4) (zv rfl (za2 (gq 0 rfl)) (zv rfl (zr3 zk (vq 1 rfl) (vq 2 rfl)) o0)))) (zz [(1,_),(19,_),(20,_),(27,_)] [⟨4,32,ptrH,_⟩,⟨7,32,ptrH,_⟩,⟨18,72,slH 2 2,_⟩,⟨9,72,ptrH,_⟩] fun a w O=>?_)
   refine za0<|zcn (fun a w =>  St B w0 37 [(1,Bo ring),(19,In (2:Nat)),(20,In (j:Nat))] [⟨4,32,ptrH,cat [NilF,NilF,NilF,NilF]⟩,⟨7,32,ptrH,QMA (wayB (j+1)) (wayS ring (prodQ xs) (j+1))⟩,⟨18,72,slH 2 2,cat wayL⟩,⟨9,72,ptrH,wayA j⟩] a w) O (zm 3 rfl) (fun hb2=>?_) (fun hb2=>?_) (fun a w O=>?_)
   ·refine zg [none,some (4,_),none,none] [] [.adr 28 9 (.some 1) True,.val 29 _,.val 30 _,.val 31 _,.sto 1] [.g 0,.g 1,.g 2] O (oc (ob_a rfl rfl (za7 (lz0 3 rfl) fld_72_1)) (zv rfl (za4 0 rfl zk trivial (lz0 3 rfl) (Sub.part 1 rfl rfl) ty_70) (zv rfl (zam (lz0 1 rfl) zb2) (zv rfl (r_callE (xs:=[.tmp 30]) (way_c (Nat.le_trans (wayB_le (Nat.le_of_lt hj)) zd)) (vq 1 rfl) (.cons (vq 2 rfl) .nil)) (oc (zac rfl rfl rfl (vq 3 rfl) zb2 (Eq.trans (b:=16) rfl rfl)) o0))))) (zz [(1,_),(19,_),(20,_)] [⟨4,32,ptrH,_⟩,⟨7,32,ptrH,_⟩,⟨18,72,slH 2 2,_⟩,⟨9,72,ptrH,_⟩] fun a w O=>?_)
    refine za0 ?_
    have O:=St.sel O [0,1,2]
    have e:wayS ring (prodQ xs) (j+1)=wayQ j (wayS ring (prodQ xs) j):=by rw [wayS,wayT,if_pos hb2]
    rw [e]
    exact O
   ·refine wp_skip<|za0 ?_
    have O:=St.sel O [0,1,2]
    have e:wayS ring (prodQ xs) (j+1)=wayS ring (prodQ xs) j:=by rw [wayS,wayT,if_neg (by rw [hb2]; decide)]
    rw [e]
    exact St.wkL O 1 rfl (qm_mono' (by rw [wayB]; omega))
   refine zal ?_
   refine za0<|zg [none,none,none,none] [] [.val 32 _,.val 20 _] [.g 0,.g 1,.o 1] O (zv rfl (zbb (gq 2 rfl) za3 ((wi64 zo zo).trans (by omega:(_:Int)=((j+1:Nat):Int)))) (zv rfl (za2 (vq 0 rfl)) o0)) (zz [(1,_),(19,_),(20,_)] [⟨4,32,ptrH,_⟩,⟨7,32,ptrH,_⟩,⟨18,72,slH 2 2,_⟩,⟨9,72,ptrH,_⟩] fun a w O=>?_)
   refine za0 ?_
   have O:=St.sel O [0,1,2]
   have O:=St.selL O [0,1,2]
   exact ⟨n-1,by omega,j+1,by omega,O⟩
  ·obtain rfl:j=2:=by have:=of_decide_eq_false hb1; omega
   refine wp_exit<|za8<|za8<|zat<|zt<|zg [some (4,_),none,none] [] [.val 33 _,.val 34 _,.val 35 _,.val 36 _,.sto 0,.val 5 _] [.o 5] O (zv rfl (zam (lz0 1 rfl) zb2) (zv rfl (za5 (xs:=[.tmp 33]) (zoq (c:=wayB 2) (m:=wayS ring (prodQ xs) 2) zd) (.cons (vq 0 rfl) .nil)) (zv rfl (zfe (vq 1 rfl)) (zv rfl (zfd (vq 1 rfl)) (oc (zac rfl rfl rfl (vq 2 rfl) zb2 (Eq.trans (b:=16) rfl rfl)) (zv rfl (za1 (vq 3 rfl)) o0)))))) (zz [(5,_)] [⟨4,32,ptrH,_⟩,⟨7,32,ptrH,_⟩,⟨18,72,slH 2 2,_⟩] fun a w O=>?_)
   refine za0<|wp_ret<|zae ?_ (zb1 (rs:=[.cell 4 32,.tmp 5]) rfl O (.cell (zm 0 rfl) zb2 (.tmp (zm 0 rfl) .nil)) zd)
   rw [tripF,if_pos hc,← wayS_2]; exact zbi
end Go.Proofs.YtndjeibbjjpkfaaGreatDoor
