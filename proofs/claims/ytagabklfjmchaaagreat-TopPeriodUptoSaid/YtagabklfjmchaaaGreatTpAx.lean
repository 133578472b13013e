/- TopPeriod: for all rounds whose reading is not beyond the bulk the law through the layers on periods answers true. Condition: the bulk alone, as the statement has it. -/
import Derived.Test.YtagabklfjmchaaaGreatTpAa
import Derived.Test.YtagabklfjmchaaaGreatTpAc
import Derived.Test.YtagabklfjmchaaaGreatTpAu
import Derived.Test.YtagabklfjmchaaaGreatTpAw
import Derived.Test.YtagabklfjmchaaaGreatRows
import Derived.WalkKit
import Derived.ProofKit
import Derived.OpenShut
import Derived.ShutString
import Derived.ChangeOld
import Derived.Below
import Derived.JoinedCond
set_option linter.unusedVariables false
set_option linter.unusedSimpArgs false
set_option linter.unusedSectionVars false
set_option maxRecDepth 100000
namespace Go.Proofs.YtagabklfjmchaaaGreat
open Go Go.RowKit
open Go.ChangeShapes Go.WideShapes Go.ChangeAt
structure RRd where
 xs:List RE
 r:RR
 l:RF
def RoundA (x:RRd):As:=cat [SlA 55 [U32] (x.xs.map REA),RRA x.r,RFA x.l]
section
variable {H:Type} {enc:TypeId × Value→H} {w:World} {base:Nat} {spare:Nat→Bool} {held:Bool} {fuel:Nat} {cs:List Value} {x:DataW H × List MemPlace}
theorem rd_round (h:DataW.trod enc Tryz.prog w base spare held fuel 31 cs=some x):∃ y,(RoundA y).p w.heap.size cs w:=by
 obtain ⟨xs,n,_,_,hl,hlen,hf⟩:=DataW.trod_struct Tryz.underlying31 h
 have hl':cs.length=13:=hl.trans zk
 have c0:Tryz.prog.cellsOf 22=1:=by kernel_rfl
 have c1:Tryz.prog.cellsOf 29=8:=by kernel_rfl
 have c2:Tryz.prog.cellsOf 27=4:=by kernel_rfl
 match xs,hlen with
 | [y0,y1,y2],_ =>
  have h0:DataW.trod enc Tryz.prog w base spare held n 22 ((cs.drop 0).take (Tryz.prog.cellsOf 22))=some y0:=hf 0 _ rfl
  have h1:DataW.trod enc Tryz.prog w base spare held n 29 ((cs.drop 1).take (Tryz.prog.cellsOf 29))=some y1:=hf 1 _ rfl
  have h2:DataW.trod enc Tryz.prog w base spare held n 27 ((cs.drop 9).take (Tryz.prog.cellsOf 27))=some y2:=hf 2 _ rfl
  rw [c0] at h0
  rw [c1] at h1
  rw [c2] at h2
  obtain ⟨a,ha⟩:=rd_sl (A:=REA) (m:=9) (D:=[U32]) Tryz.underlying22 zk zd (fun _=>nd_self zk) rd_re h0
  obtain ⟨b,hb⟩:=rd_rr h1
  obtain ⟨c,hc⟩:=rd_rf h2
  exact ⟨⟨a,b,c⟩,zjb (A0:=SlA 55 [U32] (a.map REA)) ha hb hc hl'⟩
end
def goF' (r:RR):Bool:=((if okX r.y then (0:Int) else 1)==0)&&((if okX r.u then (0:Int) else 1)==0)
abbrev wI (x:Int):Int:=IntKind.i64.wrap x
def limS (m:Int)(x:RE):Int:=wI (wI (wI (wI (m+(x.p.num.mag.length:Nat))+(x.p.den.mag.length:Nat))+(x.q.num.mag.length:Nat))+(x.q.den.mag.length:Nat))
def lim0 (r:RR):Int:=wI (wI (wI ((r.y.num.mag.length:Nat)+(r.y.den.mag.length:Nat))+(r.u.num.mag.length:Nat))+(r.u.den.mag.length:Nat))
def limF (xs:List RE)(r:RR):Int:=xs.foldl limS (lim0 r)
theorem lim_go {m:Int}{xs:List RE}{j:Nat}(h:j<xs.length):(xs.drop j).foldl limS m=(xs.drop (j+1)).foldl limS (limS m xs[j]):=by rw [List.drop_eq_getElem_cons h]; rfl
def cnt (x:Int):Int:=if x.tmod 60<0 then x.tmod 60+60 else x.tmod 60
theorem cnt_r (x:Int):0≤cnt x∧cnt x<60:=by
 have h1:=Int.tmod_lt_of_pos x (show (0:Int)<60 by decide)
 have h2:=Int.lt_tmod_of_pos x (show (0:Int)<60 by decide)
 unfold cnt
 split <;> omega
theorem good_c (r:RR):Cn Tryz.prog 10 [(RRA r).va] (Bo (goF' r)):=by
 refine Cn.intro Tryz.func10 rfl zk nq (fun B w0 a hst=>?_)
 have hst:St B w0 13 [(0,(RRA r).va)] [] a w0.w:=hst
 refine wp_seq ?_
 refine gl (sts:=[]) (news:=[⟨1,29,ptrH,some 0,_,none⟩]) (sp:=[.alc 0,.val 2 _]) [.o 1] hst (oc (zam rfl rfl rfl (gq 0 rfl)) (zv rfl (za1 zbk) o0)) (fun a w hst=>?_)
 have hst:St B w0 13 [(2,_)] [⟨1,29,ptrH,_⟩] a w:=hst
 refine zt<|gl (sts:=[none]) (news:=[]) (sp:=[.adr 3 1 (.some 0) True,.val 4 _,.val 5 _,.val 6 _,.val 7 _,.adr 8 1 (.some 4) (_=true),.val 9 (Wh (_=true) _),.val 10 (Wh (_=true) _),.val 11 (Wh (_=true) _),.val 12 _,.val 2 _]) [.o 10] hst (oc (ob_a rfl rfl (za7 (lz0 0 rfl) zeq)) (zv rfl (za4 0 rfl zk trivial (lz0 0 rfl) (Sub.part 0 rfl rfl) za9) (zv rfl (za5 (xs:=[.tmp 4]) (zgt _) (.cons (vq 1 rfl) .nil)) (zv rfl (zbs (vq 2 rfl) za3) (zv rfl (za2 (vq 3 rfl)) (oc (zc8 rfl rfl rfl (vq 4 rfl) nq (fun hg=>za7 (lz0 0 rfl) zep)) (oc (zal rfl rfl rfl (vq 4 rfl) nq (fun hg=>za4 5 rfl zk hg (lz0 0 rfl) (Sub.part 1 rfl rfl) za9)) (oc (zal rfl rfl rfl (vq 4 rfl) nq (fun hg=>za5 (xs:=[.tmp 9]) (zgt _) (.cons (zaf (vq 6 rfl) hg) .nil))) (oc (zal rfl rfl rfl (vq 4 rfl) nq (fun hg=>zbs (zaf (vq 7 rfl) hg) za3)) (zv rfl (zc9 (vq 4 rfl) (vq 8 rfl)) (zv rfl (za1 (vq 9 rfl)) o0))))))))))) (fun a w hst=>?_)
 have hst:St B w0 13 [(2,_)] [⟨1,29,ptrH,_⟩] a w:=hst
 refine za0 ?_
 refine wp_ret ?_
 refine zag ?_ (zaj rfl hst (zm 0 rfl))
 exact zb2
theorem limbs_c (xs:List RE)(r:RR):Cn Tryz.prog 11 [(SlA 55 [U32] (xs.map REA)).va,(RRA r).va] (In (limF xs r)):=by
 refine Cn.intro Tryz.func11 rfl zk nq (fun B w0 a hst=>?_)
 have hst:St B w0 74 [(0,(SlA 55 [U32] (xs.map REA)).va),(1,(RRA r).va)] [] a w0.w:=hst
 have hl:=zhq (hst.vals (0,(SlA 55 [U32] (xs.map REA)).va) (zm 0 rfl))
 refine wp_seq ?_
 refine gl (sts:=[]) (news:=[⟨3,29,ptrH,some 0,_,none⟩]) (sp:=[.alc 0,.val 4 _]) [.g 0,.o 1] hst (oc (zam rfl rfl rfl (gq 1 rfl)) (zv rfl (za1 za3) o0)) (fun a w hst=>?_)
 have hst:St B w0 74 [(0,_),(4,_)] [⟨3,29,ptrH,_⟩] a w:=hst
 refine zt<|gl (sts:=[none]) (news:=[]) (sp:=((.adr 7 3 (.some 0) True:Sp)::(.adr 8 3 (.some (0+0)) True)::(.adr 9 3 (.some (0+1)) True)::(.val 10 _)::(.val 11 _)::(.adr 12 3 (.some 0) True)::(.adr 13 3 (.some (0+2)) True)::(.adr 14 3 (.some (2+1)) True)::(.val 15 _)::(.val 16 _)::(.val 17 _)::(.adr 18 3 (.some 4) True)::(.adr 19 3 (.some (4+0)) True)::(.adr 20 3 (.some (4+1)) True)::(.val 21 _)::(.val 22 _)::(.val 23 _)::(.adr 24 3 (.some 4) True)::(.adr 25 3 (.some (4+2)) True)::(.adr 26 3 (.some (6+1)) True)::(.val 27 _)::(.val 28 _)::(.val 29 _)::(.val 5 _)::[])) [.g 0,.g 1,.o 23] hst (oc (ob_a rfl rfl (za7 (lz0 0 rfl) zeq)) (oc (ob_a rfl rfl (zd9 0 rfl zk trivial (lz0 0 rfl) zba)) (oc (ob_a rfl rfl (zd9 1 rfl zk trivial (lz0 0 rfl) zap)) (zv rfl (za4 2 rfl zk trivial (lz0 0 rfl) (Sub.trans (Sub.part 0 rfl rfl) (Sub.trans (Sub.part 0 rfl rfl) (Sub.part 1 rfl rfl) rfl) rfl) zbq) (zv rfl (zb6 Tryz.underlying23 (vq 3 rfl)) (oc (ob_a rfl rfl (za7 (lz0 0 rfl) zeq)) (oc (ob_a rfl rfl (zd9 5 rfl zk trivial (lz0 0 rfl) zb5)) (oc (ob_a rfl rfl (zd9 6 rfl zk trivial (lz0 0 rfl) zap)) (zv rfl (za4 7 rfl zk trivial (lz0 0 rfl) (Sub.trans (Sub.part 0 rfl rfl) (Sub.trans (Sub.part 1 rfl rfl) (Sub.part 1 rfl rfl) rfl) rfl) zbq) (zv rfl (zb6 Tryz.underlying23 (vq 8 rfl)) (zv rfl (zb8 (vq 4 rfl) (vq 9 rfl) (rfl)) (oc (ob_a rfl rfl (za7 (lz0 0 rfl) zep)) (oc (ob_a rfl rfl (zd9 11 rfl zk trivial (lz0 0 rfl) zba)) (oc (ob_a rfl rfl (zd9 12 rfl zk trivial (lz0 0 rfl) zap)) (zv rfl (za4 13 rfl zk trivial (lz0 0 rfl) (Sub.trans (Sub.part 1 rfl rfl) (Sub.trans (Sub.part 0 rfl rfl) (Sub.part 1 rfl rfl) rfl) rfl) zbq) (zv rfl (zb6 Tryz.underlying23 (vq 14 rfl)) (zv rfl (zb8 (vq 10 rfl) (vq 15 rfl) (rfl)) (oc (ob_a rfl rfl (za7 (lz0 0 rfl) zep)) (oc (ob_a rfl rfl (zd9 17 rfl zk trivial (lz0 0 rfl) zb5)) (oc (ob_a rfl rfl (zd9 18 rfl zk trivial (lz0 0 rfl) zap)) (zv rfl (za4 19 rfl zk trivial (lz0 0 rfl) (Sub.trans (Sub.part 1 rfl rfl) (Sub.trans (Sub.part 1 rfl rfl) (Sub.part 1 rfl rfl) rfl) rfl) zbq) (zv rfl (zb6 Tryz.underlying23 (vq 20 rfl)) (zv rfl (zb8 (vq 16 rfl) (vq 21 rfl) (rfl)) (zv rfl (za1 (vq 22 rfl)) o0)))))))))))))))))))))))) (fun a w hst=>?_)
 have hst:St B w0 74 [(0,_),(4,_),(5,_)] [⟨3,29,ptrH,_⟩] a w:=hst
 refine zt ?_
 refine wp_seq ?_
 refine gl (sts:=[none]) (news:=[]) (sp:=[.val 6 _]) [.g 0,.g 1,.g 2,.o 0] hst (zv rfl (za1 za3) o0) (fun a w hst=>?_)
 have hst:St B w0 74 [(0,_),(4,_),(5,_),(6,_)] [⟨3,29,ptrH,_⟩] a w:=hst
 refine za0 ?_
 refine wp_block ?_
 have hst:=St.sel hst [0,2,3]
 refine wp_loop_ghost (fun n a w=>∃ (j:Nat) (m:Int),(n+j=xs.length∧limF xs r=(xs.drop j).foldl limS m)∧St B w0 74 [(0,(SlA 55 [U32] (xs.map REA)).va),(5,In m),(6,In (j:Nat))] [⟨3,29,ptrH,RRA r⟩] a w) (xs.length) ?_ ?_
 ·exact ⟨0,_,⟨by omega,rfl⟩,hst⟩
 intro n a w hI
 obtain ⟨j,m,⟨hn,hm⟩,hst⟩:=hI
 refine wp_seq ?_
 refine wp_seq ?_
 refine gl (sts:=[none]) (news:=[]) (sp:=[.val 30 _,.val 31 _,.val 32 _,.val 33 _]) [.g 0,.g 1,.g 2,.o 3] hst (zv rfl (za2 (gq 2 rfl)) (zv rfl (za2 (gq 0 rfl)) (zv rfl (zfb Tryz.underlying22 (vq 1 rfl)) (zv rfl (zc2 (vq 0 rfl) (vq 2 rfl)) o0)))) (fun a w hst=>?_)
 have hst:St B w0 74 [(0,_),(5,_),(6,_),(33,_)] [⟨3,29,ptrH,_⟩] a w:=hst
 refine za0 ?_
 refine zaa hst (zm 3 rfl) (fun hb0=>?_) (fun hb0=>?_)
 ·have hj:j<xs.length:=by simp at hb0; omega
  refine wp_skip ?_
  refine zt ?_
  refine wp_block ?_
  refine zav (anc:=[[],[],[],[1,2],[1,2,3],[1,2,3,4],[1,2,3,4,5],[1,2,3,4,5,6],[1,2,3,4,5,6,7],[0,1,2,3,4,5,6,7,8],[],[],[10,11],[10,11,12],[10,11,12,13],[10,11,12,13,14],[10,11,12,13,14,15],[10,11,12,13,14,15,16],[0,1,2,3,4,5,6,7,8,9,10,11,12,13,14,15,16,17],[],[],[19,20],[19,20,21],[19,20,21,22],[19,20,21,22,23],[19,20,21,22,23,24],[19,20,21,22,23,24,25],[0,1,2,3,4,5,6,7,8,9,10,11,12,13,14,15,16,17,18,19,20,21,22,23,24,25,26],[],[],[28,29],[28,29,30],[28,29,30,31],[28,29,30,31,32],[28,29,30,31,32,33],[28,29,30,31,32,33,34],[0,1,2,3,4,5,6,7,8,9,10,11,12,13,14,15,16,17,18,19,20,21,22,23,24,25,26,27,28,29,30,31,32,33,34,35],[0,1,2,3,4,5,6,7,8,9,10,11,12,13,14,15,16,17,18,19,20,21,22,23,24,25,26,27,28,29,30,31,32,33,34,35,36]]) (sts:=[none]) (news:=[]) (sp:=((.val 36 _:Sp)::(.val 37 _)::(.val 38 _)::(.val 39 _)::(.val 40 _)::(.val 41 _)::(.val 42 _)::(.val 43 _)::(.val 44 _)::(.val 45 _)::(.val 46 _)::(.val 47 _)::(.val 48 _)::(.val 49 _)::(.val 50 _)::(.val 51 _)::(.val 52 _)::(.val 53 _)::(.val 54 _)::(.val 55 _)::(.val 56 _)::(.val 57 _)::(.val 58 _)::(.val 59 _)::(.val 60 _)::(.val 61 _)::(.val 62 _)::(.val 63 _)::(.val 64 _)::(.val 65 _)::(.val 66 _)::(.val 67 _)::(.val 68 _)::(.val 69 _)::(.val 70 _)::(.val 71 _)::(.val 72 _)::(.val 5 _)::[])) [.g 0,.g 2,.o 37] za6 hst (zv rfl (za2 (gq 1 rfl)) (zv rfl (za2 (gq 0 rfl)) (zv rfl (za2 (gq 2 rfl)) (zv rfl (zde zjj (zg7 fun _=>rfl) (vq 1 rfl) (vq 2 rfl) (zf2 hj)) (zv rfl (zbt (vq 3 rfl) zd0 (Sub.part 1 rfl rfl)) (zv rfl (zbt (vq 4 rfl) zba (Sub.part 0 rfl rfl)) (zv rfl (zbt (vq 5 rfl) zap (Sub.part 1 rfl rfl)) (zv rfl (zas (vq 6 rfl) zbq) (zv rfl (zb6 Tryz.underlying23 (vq 7 rfl)) (zv rfl (zb8 (vq 0 rfl) (vq 8 rfl) (rfl)) (zv rfl (za2 (gq 0 rfl)) (zv rfl (za2 (gq 2 rfl)) (zv rfl (zde zjj (zg7 fun _=>rfl) (vq 10 rfl) (vq 11 rfl) (zf2 hj)) (zv rfl (zbt (vq 12 rfl) zd0 (Sub.part 1 rfl rfl)) (zv rfl (zbt (vq 13 rfl) zb5 (Sub.part 1 rfl rfl)) (zv rfl (zbt (vq 14 rfl) zap (Sub.part 1 rfl rfl)) (zv rfl (zas (vq 15 rfl) zbq) (zv rfl (zb6 Tryz.underlying23 (vq 16 rfl)) (zv rfl (zb8 (vq 9 rfl) (vq 17 rfl) (rfl)) (zv rfl (za2 (gq 0 rfl)) (zv rfl (za2 (gq 2 rfl)) (zv rfl (zde zjj (zg7 fun _=>rfl) (vq 19 rfl) (vq 20 rfl) (zf2 hj)) (zv rfl (zbt (vq 21 rfl) zdw (Sub.part 2 rfl rfl)) (zv rfl (zbt (vq 22 rfl) zba (Sub.part 0 rfl rfl)) (zv rfl (zbt (vq 23 rfl) zap (Sub.part 1 rfl rfl)) (zv rfl (zas (vq 24 rfl) zbq) (zv rfl (zb6 Tryz.underlying23 (vq 25 rfl)) (zv rfl (zb8 (vq 18 rfl) (vq 26 rfl) (rfl)) (zv rfl (za2 (gq 0 rfl)) (zv rfl (za2 (gq 2 rfl)) (zv rfl (zde zjj (zg7 fun _=>rfl) (vq 28 rfl) (vq 29 rfl) (zf2 hj)) (zv rfl (zbt (vq 30 rfl) zdw (Sub.part 2 rfl rfl)) (zv rfl (zbt (vq 31 rfl) zb5 (Sub.part 1 rfl rfl)) (zv rfl (zbt (vq 32 rfl) zap (Sub.part 1 rfl rfl)) (zv rfl (zas (vq 33 rfl) zbq) (zv rfl (zb6 Tryz.underlying23 (vq 34 rfl)) (zv rfl (zb8 (vq 27 rfl) (vq 35 rfl) (rfl)) (zv rfl (za1 (vq 36 rfl)) o0)))))))))))))))))))))))))))))))))))))) zk zk zk zk (fun a w hst=>?_)
  have hst:St B w0 74 [(0,_),(6,_),(5,_)] [⟨3,29,ptrH,_⟩] a w:=hst
  refine zan ?_
  refine za0 ?_
  refine gl (sts:=[none]) (news:=[]) (sp:=[.val 34 _,.val 35 _,.val 6 _]) [.g 0,.g 2,.o 2] hst (zv rfl (za2 (gq 1 rfl)) (zv rfl (zb8 (vq 0 rfl) za3 ((wi64 zo zo).trans (by omega:(_:Int)=((j+1:Nat):Int)))) (zv rfl (za1 (vq 1 rfl)) o0))) (fun a w hst=>?_)
  have hst:St B w0 74 [(0,_),(5,_),(6,_)] [⟨3,29,ptrH,_⟩] a w:=hst
  refine za0 ?_
  have hst:=St.sel hst [0,1,2]
  exact ⟨n-1,by omega,j+1,_,⟨by omega,hm.trans (lim_go hj)⟩,hst⟩
 ·obtain rfl:j=xs.length:=by simp at hb0; omega
  refine wp_exit ?_
  refine zae ?_
  refine zae ?_
  refine zaw ?_
  refine zt<|gl (sts:=[none]) (news:=[]) (sp:=[.val 73 _,.val 4 _]) [.o 1] hst (zv rfl (za2 (gq 1 rfl)) (zv rfl (za1 (vq 0 rfl)) o0)) (fun a w hst=>?_)
  have hst:St B w0 74 [(4,_)] [⟨3,29,ptrH,_⟩] a w:=hst
  refine za0 ?_
  refine wp_ret ?_
  refine zag ?_ (zaj rfl hst (zm 0 rfl))
  rw [List.drop_length] at hm; rw [hm]; exact zb2
theorem counted_c (x:Int):Cn Tryz.prog 13 [In x,In 60] (In (cnt x)):=by
 refine Cn.intro Tryz.func13 rfl zk nq (fun B w0 a hst=>?_)
 have hst:St B w0 15 [(0,In x),(1,In 60)] [] a w0.w:=hst
 refine wp_seq ?_
 refine gl (sts:=[]) (news:=[]) (sp:=[.val 4 _]) [.g 0,.g 1,.o 0] hst (zv rfl (za1 za3) o0) (fun a w hst=>?_)
 have hst:St B w0 15 [(0,_),(1,_),(4,_)] [] a w:=hst
 refine zt<|gl (sts:=[]) (news:=[]) (sp:=[.val 6 _,.val 7 _,.val 8 _,.val 5 _]) [.g 1,.g 2,.o 3] hst (zv rfl (za2 (gq 0 rfl)) (zv rfl (za2 (gq 1 rfl)) (zv rfl (r_rem (vq 0 rfl) (vq 1 rfl) zd (rfl)) (zv rfl (za1 (vq 2 rfl)) o0)))) (fun a w hst=>?_)
 have hst:St B w0 15 [(1,_),(4,_),(5,_)] [] a w:=hst
 refine zt ?_
 refine wp_seq ?_
 refine gl (sts:=[]) (news:=[]) (sp:=[.val 9 _,.val 10 _]) [.g 0,.g 1,.g 2,.o 1] hst (zv rfl (za2 (gq 2 rfl)) (zv rfl (zc2 (vq 0 rfl) za3) o0)) (fun a w hst=>?_)
 have hst:St B w0 15 [(1,_),(4,_),(5,_),(10,_)] [] a w:=hst
 refine za0 ?_
 refine zd7 (fun a w =>  St B w0 15 [(5,In (cnt x))] [] a w) hst (zm 3 rfl) (fun hb0=>?_) (fun hb0=>?_) (fun a w hst=>?_)
 ·refine gl (sts:=[]) (news:=[]) (sp:=[.val 11 _,.val 12 _,.val 13 _,.val 5 _]) [.g 1,.o 3] hst (zv rfl (za2 (gq 2 rfl)) (zv rfl (za2 (gq 0 rfl)) (zv rfl (zb8 (vq 0 rfl) (vq 1 rfl) (wi64 (by have:=cnt_r x; have:=of_decide_eq_true hb0; have:=Int.lt_tmod_of_pos x (show (0:Int)<60 by decide); omega) (by have:=of_decide_eq_true hb0; omega))) (zv rfl (za1 (vq 2 rfl)) o0)))) (fun a w hst=>?_)
  have hst:St B w0 15 [(4,_),(5,_)] [] a w:=hst
  refine za0 ?_
  have hst:=St.sel hst [1]
  have he:x.tmod 60+60=cnt x:=by rw [cnt,if_pos (of_decide_eq_true hb0)]
  exact he▸hst
 ·refine wp_skip ?_
  refine za0 ?_
  have hst:=St.sel hst [2]
  have he:x.tmod 60=cnt x:=by rw [cnt,if_neg (of_decide_eq_false hb0)]
  exact he▸hst
 refine zt<|gl (sts:=[]) (news:=[]) (sp:=[.val 14 _,.val 4 _]) [.o 1] hst (zv rfl (za2 (gq 0 rfl)) (zv rfl (za1 (vq 0 rfl)) o0)) (fun a w hst=>?_)
 have hst:St B w0 15 [(4,_)] [] a w:=hst
 refine za0 ?_
 refine wp_ret ?_
 refine zag ?_ (zaj rfl hst (zm 0 rfl))
 exact zb2
theorem tp_ok {xs:List RE}{c d:Bool}(h:((((benF xs).2 != 0) || c) || d)=false):∃ m,benF xs=(m,0)∧okM m=true:=by
 have h0:(benF xs).2=0:=by
  cases h1:((benF xs).2 != 0) with
  | false=>simpa using h1
  | true=>rw [h1] at h; simp at h
 have hc:chF xs=0:=by
  by_cases e:chF xs=0
  ·exact e
  ·rw [benF,if_neg e] at h0; exact absurd h0 e
 have e:benF xs=asM 0 (prodQ xs):=by rw [benF,if_pos hc]
 rw [e] at h0 ⊢
 cases h3:[(prodQ xs).a,(prodQ xs).b,(prodQ xs).c,(prodQ xs).d].any longQ with
 | true=>rw [asM,if_pos rfl,if_pos h3] at h0; exact absurd h0 zd
 | false=>exact ⟨_,by rw [asM,if_pos rfl,if_neg (by rw [h3]; decide)],okM_all h3 (prod_det (ch_ok hc).2)⟩
theorem tp_or {m:RM}(h:okM m=true):orF m=(orQ (toM m),0):=if_pos h
theorem tp_po {m:RM}{k:Nat}(h:okM m=true)(hk:k≤4096):poO m (k:Int)=asM 0 (powQ (toM m) k):=by
 have h0:maO (k:Int)=0:=by rw [maO,if_neg zo,if_neg zo]
 rw [poO,if_pos h,if_pos h0,Int.toNat_natCast]
theorem tp_no {c:Int}{X:RM}(h:((c != c) || ((c==0)&&(!decide (X=X))))=true):False:=by simp at h
theorem tp_P {m:MQ}(h:((asM 0 m).2 != 0)=false):asM 0 m=(rmOf m,0):=by
 cases h3:[m.a,m.b,m.c,m.d].any longQ with
 | true=>rw [asM,if_pos rfl,if_pos h3] at h; exact absurd h zd
 | false=>rw [asM,if_pos rfl,if_neg (by rw [h3]; decide)]
theorem tp_end {m:RM}{i:Nat}(h:okM m=true):((decide (rmOf (powQ (toM m) (i+1))=rmOf ⟨1,0,0,1⟩)==(decide (orQ (toM m)>0)&&((((i+1:Nat):Int).tmod (orQ (toM m)))==0)))&&true)=true:=by
 have key:=ord_ok (zhv h).2 (n:=i)
 have e1:(rmOf (powQ (toM m) (i+1))=rmOf ⟨1,0,0,1⟩)↔powQ (toM m) (i+1)=oneM:=⟨fun e=>by
  have:=congrArg toM e
  rwa [toM_of,toM_of] at this,fun e=>by rw [e]⟩
 rw [Bool.and_true,beq_iff_eq,Bool.eq_iff_iff,decide_eq_true_eq,e1,key,Bool.and_eq_true,decide_eq_true_eq,beq_iff_eq,Int.tmod_eq_emod_of_nonneg zo]
set_option maxHeartbeats 8000000 in
theorem zjh (x:RRd)(k:Int):Cn Tryz.prog 3 [(RoundA x).va,In k] (Bo true):=by
 have hcn:=cnt_r k
 obtain ⟨i,hi⟩:∃ i:Nat,cnt k=(i:Int):=⟨(cnt k).toNat,by omega⟩
 refine Cn.intro Tryz.func3 rfl zk nq (fun B w0 a hst=>?_)
 have hst:St B w0 102 [(0,(RoundA x).va),(1,In k)] [] a w0.w:=hst
 refine wp_seq ?_
 refine gl (sts:=[]) (news:=[⟨2,31,ptrH,some 0,_,none⟩]) (sp:=[.alc 0,.val 4 _]) [.g 1,.o 1] hst (oc (zam rfl rfl rfl (gq 0 rfl)) (zv rfl (za1 zbk) o0)) (fun a w hst=>?_)
 have hst:St B w0 102 [(1,_),(4,_)] [⟨2,31,ptrH,_⟩] a w:=hst
 refine zt ?_
 refine wp_seq ?_
 refine zav (anc:=[[],[0],[0,1],[],[3],[0,1,2,3,4],[],[6],[0,1,2,3,4,5,6,7],[0,1,2,3,4,5,6,7,8],[0,1,2,3,4,5,6,7,8,9]]) (sts:=[none]) (news:=[]) (sp:=[.adr 13 2 (.some 0) True,.val 14 _,.val 15 _,.adr 16 2 (.some 1) True,.val 17 _,.val 18 _,.adr 19 2 (.some 9) True,.val 20 _,.val 21 _,.val 22 _,.val 23 _]) [.g 0,.g 1,.o 10] za6 hst (oc (ob_a rfl rfl (za7 (lz0 0 rfl) zi6)) (zv rfl (za4 0 rfl zk trivial (lz0 0 rfl) (Sub.part 0 rfl rfl) ty_22) (zv rfl (za5 (xs:=[.tmp 14]) (elsCost_c _) (.cons (vq 1 rfl) .nil)) (oc (ob_a rfl rfl (za7 (lz0 0 rfl) zi5)) (zv rfl (za4 3 rfl zk trivial (lz0 0 rfl) (Sub.part 1 rfl rfl) ty_29) (zv rfl (za5 (xs:=[.tmp 17]) (rayCost_c _) (.cons (vq 4 rfl) .nil)) (oc (ob_a rfl rfl (za7 (lz0 0 rfl) fld_31_2)) (zv rfl (za4 6 rfl zk trivial (lz0 0 rfl) (Sub.part 2 rfl rfl) za9) (zv rfl (za5 (xs:=[.tmp 20]) (zdj _) (.cons (vq 7 rfl) .nil)) (zv rfl (zc5 (D:=[]) (l:=[_,_,_]) (xs:=[.tmp 15,.tmp 18,.tmp 21]) (zdh zk) sl_51 zk (n_ok zk) nq nq nq (.cons (vq 2 rfl) (.cons (vq 5 rfl) (.cons (vq 8 rfl) .nil))) rfl rfl) (zv rfl (za5 (xs:=[.tmp 22]) (beyond_c [_,_,_]) (.cons (vq 9 rfl) .nil)) o0))))))))))) zk zk zk zk (fun a w hst=>?_)
 have hst:St B w0 102 [(1,_),(4,_),(23,_)] [⟨2,31,ptrH,_⟩] a w:=hst
 refine za0 ?_
 refine zaa hst (zm 2 rfl) (fun hb0=>?_) (fun hb0=>?_)
 ·refine wp_seq ?_
  refine gl (sts:=[none]) (news:=[]) (sp:=[.val 24 _,.val 4 _]) [.g 0,.o 1] hst (zv rfl (za5 (xs:=[]) zff .nil) (zv rfl (za1 (vq 0 rfl)) o0)) (fun a w hst=>?_)
  have hst:St B w0 102 [(1,_),(4,_)] [⟨2,31,ptrH,_⟩] a w:=hst
  refine za0 ?_
  refine wp_ret ?_
  refine zah ?_
  refine zag ?_ (zaj rfl hst (zm 1 rfl))
  exact zb2
 ·refine wp_skip ?_
  refine zt<|gl (sts:=[none]) (news:=[⟨5,38,ptrH,some 6,_,some (7,_)⟩]) (sp:=[.adr 26 2 (.some 0) True,.val 27 _,.val 28 _,.val 25 _,.val 29 _,.val 30 _,.alc 1,.sto 1,.val 6 _]) [.g 0,.g 1,.o 8] hst (oc (ob_a rfl rfl (za7 (lz0 0 rfl) zi6)) (zv rfl (za4 0 rfl zk trivial (lz0 0 rfl) (Sub.part 0 rfl rfl) ty_22) (zv rfl (za5 (xs:=[.tmp 27]) (zk6 x.xs) (.cons (vq 1 rfl) .nil)) (zv rfl (za2 (vq 2 rfl)) (zv rfl (ze4 (vq 3 rfl)) (zv rfl (ze3 (vq 3 rfl)) (oc (zao rfl rfl rfl (Str.zero zai)) (oc (zad rfl rfl rfl (vq 4 rfl) zat (Eq.trans (b:=16) rfl rfl)) (zv rfl (za1 (vq 5 rfl)) o0))))))))) (fun a w hst=>?_)
  have hst:St B w0 102 [(1,_),(4,_),(6,_)] [⟨2,31,ptrH,_⟩,⟨5,38,ptrH,_⟩] a w:=hst
  refine zt ?_
  refine wp_seq ?_
  refine gl (sts:=[none,none]) (news:=[]) (sp:=[.val 31 _,.val 32 _,.val 33 _,.adr 34 2 (.some 1) (_=false),.val 35 (Wh (_=false) _),.val 36 (Wh (_=false) _),.val 37 (Wh (_=false) _),.val 38 _,.val 39 _,.adr 40 2 (.some 0) (_=false),.val 41 (Wh (_=false) _),.adr 42 2 (.some 1) (_=false),.val 43 (Wh (_=false) _),.val 44 (Wh (_=false) _),.val 45 (Wh (_=false) _),.val 46 _]) [.g 0,.g 1,.g 2,.o 15] hst (zv rfl (za2 (gq 2 rfl)) (zv rfl (zco (vq 0 rfl) za3) (zv rfl (za2 (vq 1 rfl)) (oc (zc8 rfl rfl rfl (vq 2 rfl) nq (fun hg=>za7 (lz0 0 rfl) zi5)) (oc (zal rfl rfl rfl (vq 2 rfl) nq (fun hg=>za4 3 rfl zk hg (lz0 0 rfl) (Sub.part 1 rfl rfl) ty_29)) (oc (zal rfl rfl rfl (vq 2 rfl) nq (fun hg=>za5 (xs:=[.tmp 35]) (good_c x.r) (.cons (zaf (vq 4 rfl) hg) .nil))) (oc (zal rfl rfl rfl (vq 2 rfl) nq (fun hg=>zft (zaf (vq 5 rfl) hg))) (zv rfl (r_or (vq 2 rfl) (vq 6 rfl)) (zv rfl (za2 (vq 7 rfl)) (oc (zc8 rfl rfl rfl (vq 8 rfl) nq (fun hg=>za7 (lz0 0 rfl) zi6)) (oc (zal rfl rfl rfl (vq 8 rfl) nq (fun hg=>za4 9 rfl zk hg (lz0 0 rfl) (Sub.part 0 rfl rfl) ty_22)) (oc (zc8 rfl rfl rfl (vq 8 rfl) nq (fun hg=>za7 (lz0 0 rfl) zi5)) (oc (zal rfl rfl rfl (vq 8 rfl) nq (fun hg=>za4 11 rfl zk hg (lz0 0 rfl) (Sub.part 1 rfl rfl) ty_29)) (oc (zal rfl rfl rfl (vq 8 rfl) nq (fun hg=>za5 (xs:=[.tmp 41,.tmp 43]) (limbs_c x.xs x.r) (.cons (zaf (vq 10 rfl) hg) (.cons (zaf (vq 12 rfl) hg) .nil)))) (oc (zal rfl rfl rfl (vq 8 rfl) nq (fun hg=>zex (zaf (vq 13 rfl) hg) za3)) (zv rfl (r_or (vq 8 rfl) (vq 14 rfl)) o0)))))))))))))))) (fun a w hst=>?_)
  have hst:St B w0 102 [(1,_),(4,_),(6,_),(46,_)] [⟨2,31,ptrH,_⟩,⟨5,38,ptrH,_⟩] a w:=hst
  refine za0 ?_
  refine zaa hst (zm 3 rfl) (fun hb1=>?_) (fun hb1=>?_)
  ·refine wp_seq ?_
   refine gl (sts:=[none,none]) (news:=[]) (sp:=[.val 47 _,.val 4 _]) [.g 0,.g 2,.o 1] hst (zv rfl (za5 (xs:=[]) zff .nil) (zv rfl (za1 (vq 0 rfl)) o0)) (fun a w hst=>?_)
   have hst:St B w0 102 [(1,_),(6,_),(4,_)] [⟨2,31,ptrH,_⟩,⟨5,38,ptrH,_⟩] a w:=hst
   refine za0 ?_
   refine wp_ret ?_
   refine zah ?_
   refine zag ?_ (zaj rfl hst (zm 2 rfl))
   exact zb2
  ·obtain ⟨m,hB,hm⟩:=tp_ok hb1
   have hst:=St.cvA (A':=RMA m) hst 1 rfl (congrArg (fun r:RM × Int=>RMA r.1) hB)
   refine wp_skip ?_
   refine zt<|gl (sts:=[none,none]) (news:=[]) (sp:=[.val 49 _,.val 50 _,.val 48 _,.val 51 _,.val 52 _,.val 7 _,.val 6 _]) [.g 0,.g 1,.o 5,.o 6] hst (zv rfl (zab (lz0 1 rfl) zat) (zv rfl (za5 (xs:=[.tmp 49]) (order_c m) (.cons (vq 0 rfl) .nil)) (zv rfl (za2 (vq 1 rfl)) (zv rfl (ze4 (vq 2 rfl)) (zv rfl (ze3 (vq 2 rfl)) (zv rfl (za1 (vq 3 rfl)) (zv rfl (za1 (vq 4 rfl)) o0))))))) (fun a w hst=>?_)
   have hst:St B w0 102 [(1,_),(4,_),(7,_),(6,_)] [⟨2,31,ptrH,_⟩,⟨5,38,ptrH,_⟩] a w:=hst
   refine zt ?_
   refine wp_seq ?_
   refine gl (sts:=[none,none]) (news:=[]) (sp:=[.val 53 _,.val 54 _]) [.g 0,.g 1,.g 2,.g 3,.o 1] hst (zv rfl (za2 (gq 3 rfl)) (zv rfl (zco (vq 0 rfl) za3) o0)) (fun a w hst=>?_)
   have hst:St B w0 102 [(1,_),(4,_),(7,_),(6,_),(54,_)] [⟨2,31,ptrH,_⟩,⟨5,38,ptrH,_⟩] a w:=hst
   refine za0 ?_
   refine zaa hst (zm 4 rfl) (fun hb2=>?_) (fun hb2=>?_)
   ·rw [tp_or hm] at hb2; simp at hb2
   ·have hst:=St.cvG (A':=In (orQ (toM m))) hst 2 rfl (congrArg (fun r:Int × Int=>In r.1) (tp_or hm))
    refine wp_skip ?_
    refine zt<|gl (sts:=[none,none]) (news:=[]) (sp:=[.val 55 _,.val 56 _,.val 57 _,.val 8 _]) [.g 1,.g 2,.g 3,.o 3] hst (zv rfl (za2 (gq 0 rfl)) (zv rfl (za5 (xs:=[.tmp 55,.const (.int .i64 (60))]) (counted_c k) (.cons (vq 0 rfl) (.cons za3 .nil))) (zv rfl (zb8 za3 (vq 1 rfl) ((wi64 zo zo).trans (by omega:(_:Int)=((i+1:Nat):Int)))) (zv rfl (za1 (vq 2 rfl)) o0)))) (fun a w hst=>?_)
    have hst:St B w0 102 [(4,_),(7,_),(6,_),(8,_)] [⟨2,31,ptrH,_⟩,⟨5,38,ptrH,_⟩] a w:=hst
    refine zt<|gl (sts:=[none,none]) (news:=[⟨9,38,ptrH,some 6,_,some (7,_)⟩]) (sp:=[.val 59 _,.val 60 _,.val 61 _,.val 58 _,.val 62 _,.val 63 _,.alc 2,.sto 2,.val 6 _]) [.g 0,.g 1,.g 3,.o 8] hst (zv rfl (zab (lz0 1 rfl) zat) (zv rfl (za2 (gq 3 rfl)) (zv rfl (za5 (xs:=[.tmp 59,.tmp 60]) (power13_c m ((i+1:Nat):Int)) (.cons (vq 0 rfl) (.cons (vq 1 rfl) .nil))) (zv rfl (za2 (vq 2 rfl)) (zv rfl (ze4 (vq 3 rfl)) (zv rfl (ze3 (vq 3 rfl)) (oc (zao rfl rfl rfl (Str.zero zai)) (oc (zad rfl rfl rfl (vq 4 rfl) zat (Eq.trans (b:=16) rfl rfl)) (zv rfl (za1 (vq 5 rfl)) o0))))))))) (fun a w hst=>?_)
    have hst:St B w0 102 [(4,_),(7,_),(8,_),(6,_)] [⟨2,31,ptrH,_⟩,⟨5,38,ptrH,_⟩,⟨9,38,ptrH,_⟩] a w:=hst
    have hst:=St.cvA (A':=RMA (asM 0 (powQ (toM m) (i+1))).1) hst 2 rfl (congrArg (fun r:RM × Int=>RMA r.1) (tp_po hm zo))
    have hst:=St.cvG (A':=In (asM 0 (powQ (toM m) (i+1))).2) hst 3 rfl (congrArg (fun r:RM × Int=>In r.2) (tp_po hm zo))
    refine zt<|gl (sts:=[none,none,none]) (news:=[⟨10,38,ptrH,some 6,_,some (7,_)⟩]) (sp:=[.val 65 _,.val 66 _,.val 67 _,.val 64 _,.val 68 _,.val 69 _,.alc 3,.sto 3,.val 11 _]) [.g 0,.g 1,.g 2,.g 3,.o 8] hst (zv rfl (zab (lz0 1 rfl) zat) (zv rfl (za2 (gq 2 rfl)) (zv rfl (za5 (xs:=[.tmp 65,.tmp 66]) (perPower_c m hm (x:=i+1) zo) (.cons (vq 0 rfl) (.cons (vq 1 rfl) .nil))) (zv rfl (za2 (vq 2 rfl)) (zv rfl (ze4 (vq 3 rfl)) (zv rfl (ze3 (vq 3 rfl)) (oc (zao rfl rfl rfl (Str.zero zai)) (oc (zad rfl rfl rfl (vq 4 rfl) zat (Eq.trans (b:=16) rfl rfl)) (zv rfl (za1 (vq 5 rfl)) o0))))))))) (fun a w hst=>?_)
    have hst:St B w0 102 [(4,_),(7,_),(8,_),(6,_),(11,_)] [⟨2,31,ptrH,_⟩,⟨5,38,ptrH,_⟩,⟨9,38,ptrH,_⟩,⟨10,38,ptrH,_⟩] a w:=hst
    refine zt ?_
    refine wp_seq ?_
    refine gl (sts:=[none,none,none,none]) (news:=[]) (sp:=[.val 70 _,.val 71 _,.val 72 _,.val 73 _,.val 74 (Wh (_=false) _),.val 75 (Wh (_=false) _),.val 76 (Wh (_=false) _),.val 77 (Wh ((_=false)∧_=true) _),.val 78 (Wh ((_=false)∧_=true) _),.val 79 (Wh ((_=false)∧_=true) _),.val 80 (Wh ((_=false)∧_=true) _),.val 81 (Wh (_=false) _),.val 82 _]) [.g 0,.g 1,.g 2,.g 3,.o 12] hst (zv rfl (za2 (gq 3 rfl)) (zv rfl (za2 (gq 4 rfl)) (zv rfl (zco (vq 0 rfl) (vq 1 rfl)) (zv rfl (za2 (vq 2 rfl)) (oc (zal rfl rfl rfl (vq 3 rfl) nq (fun hg=>za2 (gq 3 rfl))) (oc (zal rfl rfl rfl (vq 3 rfl) nq (fun hg=>zbs (zaf (vq 4 rfl) hg) za3)) (oc (zal rfl rfl rfl (vq 3 rfl) nq (fun hg=>za2 (zaf (vq 5 rfl) hg))) (oc (zcw rfl rfl rfl (vq 6 rfl) nq (fun hg=>zab (lz0 2 rfl) zat)) (oc (zcw rfl rfl rfl (vq 6 rfl) nq (fun hg=>zab (lz0 3 rfl) zat)) (oc (zcw rfl rfl rfl (vq 6 rfl) nq (fun hg=>za5 (xs:=[.tmp 77,.tmp 78]) (zg3 _ _) (.cons (zaf (vq 7 rfl) hg) (.cons (zaf (vq 8 rfl) hg) .nil)))) (oc (zcw rfl rfl rfl (vq 6 rfl) nq (fun hg=>zft (zaf (vq 9 rfl) hg))) (oc (zal rfl rfl rfl (vq 3 rfl) nq (fun hg=>zc9 (zaf (vq 6 rfl) hg) (zgr (vq 10 rfl) hg))) (zv rfl (r_or (vq 3 rfl) (vq 11 rfl)) o0))))))))))))) (fun a w hst=>?_)
    have hst:St B w0 102 [(4,_),(7,_),(8,_),(6,_),(82,_)] [⟨2,31,ptrH,_⟩,⟨5,38,ptrH,_⟩,⟨9,38,ptrH,_⟩,⟨10,38,ptrH,_⟩] a w:=hst
    refine za0 ?_
    refine zaa hst (zm 4 rfl) (fun hb3=>?_) (fun hb3=>?_)
    ·exact (tp_no hb3).elim
    ·refine wp_skip ?_
     refine zt ?_
     refine wp_seq ?_
     refine gl (sts:=[none,none,none,none]) (news:=[]) (sp:=[.val 83 _,.val 84 _]) [.g 0,.g 1,.g 2,.o 1] hst (zv rfl (za2 (gq 3 rfl)) (zv rfl (zco (vq 0 rfl) za3) o0)) (fun a w hst=>?_)
     have hst:St B w0 102 [(4,_),(7,_),(8,_),(84,_)] [⟨2,31,ptrH,_⟩,⟨5,38,ptrH,_⟩,⟨9,38,ptrH,_⟩,⟨10,38,ptrH,_⟩] a w:=hst
     refine za0 ?_
     refine zaa hst (zm 3 rfl) (fun hb4=>?_) (fun hb4=>?_)
     ·refine wp_seq ?_
      refine gl (sts:=[none,none,none,none]) (news:=[]) (sp:=[.val 85 _,.val 4 _]) [.g 1,.g 2,.o 1] hst (zv rfl (za5 (xs:=[]) zff .nil) (zv rfl (za1 (vq 0 rfl)) o0)) (fun a w hst=>?_)
      have hst:St B w0 102 [(7,_),(8,_),(4,_)] [⟨2,31,ptrH,_⟩,⟨5,38,ptrH,_⟩,⟨9,38,ptrH,_⟩,⟨10,38,ptrH,_⟩] a w:=hst
      refine za0 ?_
      refine wp_ret ?_
      refine zah ?_
      refine zag ?_ (zaj rfl hst (zm 2 rfl))
      exact zb2
     ·have hst:=St.cvA (A':=RMA (rmOf (powQ (toM m) (i+1)))) hst 2 rfl (congrArg (fun r:RM × Int=>RMA r.1) (tp_P hb4))
      refine wp_skip ?_
      refine zt<|zav (anc:=[[],[],[0,1],[0,1,2]]) (sts:=[none,none,none,none]) (news:=[]) (sp:=[.val 86 _,.val 87 _,.val 88 _,.val 12 _]) [.g 0,.g 1,.g 2,.o 3] za6 hst (zv rfl (zab (lz0 2 rfl) zat) (zv rfl (za5 (xs:=[]) (one09_q.wkp qmA.va) .nil) (zv rfl (za5 (xs:=[.tmp 86,.tmp 87]) (zg3 _ _) (.cons (vq 0 rfl) (.cons (vq 1 rfl) .nil))) (zv rfl (za1 (vq 2 rfl)) o0)))) zk zk zk zk (fun a w hst=>?_)
      have hst:St B w0 102 [(4,_),(7,_),(8,_),(12,_)] [⟨2,31,ptrH,_⟩,⟨5,38,ptrH,_⟩,⟨9,38,ptrH,_⟩,⟨10,38,ptrH,_⟩] a w:=hst
      refine zt<|gl (sts:=[none,none,none,none]) (news:=[]) (sp:=[.val 89 _,.val 90 _,.val 91 _,.val 92 _,.val 93 (Wh (_=true) _),.val 94 (Wh (_=true) _),.val 95 (Wh (_=true) _),.val 96 (Wh (_=true) _),.val 97 _,.val 98 _,.val 99 _,.val 100 (Wh (_=true) _),.val 101 _,.val 4 _]) [.o 13] hst (zv rfl (za2 (gq 3 rfl)) (zv rfl (za2 (gq 1 rfl)) (zv rfl (zex (vq 1 rfl) za3) (zv rfl (za2 (vq 2 rfl)) (oc (zal rfl rfl rfl (vq 3 rfl) nq (fun hg=>za2 (gq 2 rfl))) (oc (zal rfl rfl rfl (vq 3 rfl) nq (fun hg=>za2 (gq 1 rfl))) (oc (zal rfl rfl rfl (vq 3 rfl) nq (fun hg=>r_rem (zaf (vq 4 rfl) hg) (zaf (vq 5 rfl) hg) (by have:=of_decide_eq_true hg; omega) (rfl))) (oc (zal rfl rfl rfl (vq 3 rfl) nq (fun hg=>zbs (zaf (vq 6 rfl) hg) za3)) (zv rfl (zc9 (vq 3 rfl) (vq 7 rfl)) (zv rfl (r_eqlb zk (vq 0 rfl) (vq 8 rfl)) (zv rfl (za2 (vq 9 rfl)) (oc (zal rfl rfl rfl (vq 10 rfl) nq (fun hg=>za5 (xs:=[]) zff .nil)) (zv rfl (zc9 (vq 10 rfl) (vq 11 rfl)) (zv rfl (za1 (vq 12 rfl)) o0)))))))))))))) (fun a w hst=>?_)
      have hst:St B w0 102 [(4,_)] [⟨2,31,ptrH,_⟩,⟨5,38,ptrH,_⟩,⟨9,38,ptrH,_⟩,⟨10,38,ptrH,_⟩] a w:=hst
      refine za0 ?_
      refine wp_ret ?_
      refine zag ?_ (zaj rfl hst (zm 0 rfl))
      exact zd2 (congrArg Bo (tp_end hm))
open Go.ChangeShapes Go.WideShapes Go.ChangeAt
open Go.ChangeMaps (open_string shut_string)
theorem own:ownKnob Tryz.prog.godebug=none:=by kernel_rfl
theorem laidOut:laidOutB Tryz.prog=true:=by kernel_rfl
theorem wit_some (os:Os)(H:Type)(enc:TypeId × Value→H):(DataW.whole enc Tryz.prog (World.plainHolding Tryz.prog os ⟨#[],#[.agg #[.slice none 0 0,.bool false,.slice none 0 0,.bool false,.slice none 0 0,.bool false,.slice none 0 0,.bool false,.slice none 0 0,.bool false,.slice none 0 0,.bool false,.slice none 0 0],.int .i64 0],[]⟩).memory Tryz.f3.params.toList (Rows.OpenSpec.upto Rows.topPeriodSpec).vars false (#[.agg #[.slice none 0 0,.bool false,.slice none 0 0,.bool false,.slice none 0 0,.bool false,.slice none 0 0,.bool false,.slice none 0 0,.bool false,.slice none 0 0,.bool false,.slice none 0 0],.int .i64 0]:Array Value).toList 8).isSome=true:=by kernel_rfl
theorem lifted (os:Os)(started:os.Started)(H:Type)(enc:TypeId × Value→H)(F:Stop.Interp) :
  ReturnsInHanded {} Tryz.checked os 3 .any ((Rows.OpenSpec.upto Rows.topPeriodSpec).pre6 enc Tryz.prog Tryz.f3 Rows.topPeriodUptoRow.domain false) (((Rows.OpenSpec.upto Rows.topPeriodSpec).at F).post enc Tryz.prog Tryz.f3 false true false false):=by
 refine returnsInHanded_of_cond (C:=Tryz.checked) (s:=(Rows.OpenSpec.upto Rows.topPeriodSpec)) (k:=Rows.uptoSmall) rfl own started zk Tryz.func3
  (OpenSpec.witness (enc:=enc) (C:=Tryz.checked) (s:=(Rows.OpenSpec.upto Rows.topPeriodSpec)) (k:=Rows.uptoSmall) rfl false ⟨#[],#[.agg #[.slice none 0 0,.bool false,.slice none 0 0,.bool false,.slice none 0 0,.bool false,.slice none 0 0,.bool false,.slice none 0 0,.bool false,.slice none 0 0,.bool false,.slice none 0 0],.int .i64 0],[]⟩ 8 zk zk zk (x:=(DataW.whole enc Tryz.prog (World.plainHolding Tryz.prog os ⟨#[],#[.agg #[.slice none 0 0,.bool false,.slice none 0 0,.bool false,.slice none 0 0,.bool false,.slice none 0 0,.bool false,.slice none 0 0,.bool false,.slice none 0 0,.bool false,.slice none 0 0],.int .i64 0],[]⟩).memory Tryz.f3.params.toList (Rows.OpenSpec.upto Rows.topPeriodSpec).vars false (#[.agg #[.slice none 0 0,.bool false,.slice none 0 0,.bool false,.slice none 0 0,.bool false,.slice none 0 0,.bool false,.slice none 0 0,.bool false,.slice none 0 0,.bool false,.slice none 0 0],.int .i64 0]:Array Value).toList 8).get (wit_some os H enc)) (Option.some_get _).symm zk zk) ?_
 intro W base args ds gs before hval0 hW hcnd hkk _
 have hval:∀ (j:Nat) t v,Tryz.f3.params[j]?=some t→args[j]?=some v→Value.okWide Tryz.prog W .any base t v:=hval0
 have hW':=hW
 obtain ⟨p,q,hA0,hV,rfl,hfz,hnd⟩:=hW
 have hA:DataW.TrodAll enc Tryz.prog W 0 (fun _=>true) true Tryz.f3.params.toList args.toList ds p:=hA0
 rw [Tryz.params3] at hA hval
 obtain ⟨v0,vs0,d0,ds0,p0,q0,hargs,rfl,rfl,h0,r0⟩:=trodAll_cons hA
 obtain ⟨v1,vs1,d1,ds1,p1,q1,rfl,rfl,rfl,h1,r1⟩:=trodAll_cons r0
 obtain ⟨rfl,rfl,rfl⟩:=trodAll_nil r1
 obtain rfl:args = #[v0,v1]:=by cases args; simp_all
 obtain ⟨rfl,rfl⟩:=trodVars_none hV
 have k0:=h0
 have lt0:∀ x∈p0,x.block<W.heap.size:=by obtain ⟨m,hm⟩:=k0; exact DataW.trod_lt m _ _ _ hm
 have k1:=h1
 have lt1:∀ x∈p1,x.block<W.heap.size:=by obtain ⟨m,hm⟩:=k1; exact DataW.trod_lt m _ _ _ hm
 obtain ⟨x0,a0⟩:=arg_of (A:=RoundA) (fun _=>rfl) Tryz.underlying31 rd_round (hval 0 31 v0 rfl rfl) h0
 obtain ⟨x1,ex1⟩:=okWide_int Tryz.underlying3 (hval 1 3 v1 rfl rfl)
 have a1:(In x1).p W.heap.size v1 W:=by rw [ex1]; exact zcg _ _ _ _
 clear hA0 hval0
 refine ((zjh x0 x1).2 W.heap.size W [v0,v1] (Nat.le_refl _) (.cons a0 (.cons a1 .nil))).mono fun e W' ⟨v,he,hv,bel⟩=>?_
 have hv':=zee hv
 subst hv' he
 exact ⟨_,rfl,_,_,_,[],_,[],hW',trodAll_mk1 (shut_bool Tryz.underlying4 _),(trodAll_cons_mk (Below.trod laidOut zk (of_decide_eq_true zk) k0 bel lt0) (trodAll_cons_mk (Below.trod laidOut zk (of_decide_eq_true zk) k1 bel lt1) trodAll_mk0)),rfl,bel.frame _,fun h=>by cases h⟩
theorem over:Rows.topPeriodUptoRow.holds Tryz.pinned (Rows.OpenSpec.upto Rows.topPeriodSpec) :=
 OpenClaim.holds_of_cond 3 Tryz.f3 rfl rfl rfl rfl rfl rfl rfl ⟨rfl,rfl,rfl,rfl,rfl⟩ rfl rfl rfl rfl rfl zk Tryz.func3 zk
  (of_decide_eq_true zk) (by unfold Func.isWrapper; rw [if_neg (of_decide_eq_false zk)]; exact ⟨rfl,rfl⟩)
  (fun os started H enc _ F=>lifted os started H enc F)
theorem provedTopPeriod:Rows.TopPeriodUptoSaid:=over
#print axioms provedTopPeriod
end Go.Proofs.YtagabklfjmchaaaGreat
