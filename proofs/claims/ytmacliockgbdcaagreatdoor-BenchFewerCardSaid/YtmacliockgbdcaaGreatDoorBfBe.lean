import Derived.Test.YtmacliockgbdcaaGreatDoorBfAa
import Derived.Test.YtmacliockgbdcaaGreatDoorBfAc
import Derived.Test.YtmacliockgbdcaaGreatDoorBfBd
import Derived.ArgAppend
import Derived.Laws.AppendOwn
import Derived.Laws.OwnMore
import Derived.Orders
set_option linter.unusedVariables false
set_option linter.unusedSimpArgs false
set_option linter.unusedSectionVars false
set_option maxRecDepth 100000
namespace Go.Proofs.YtmacliockgbdcaaGreatDoor
open Go Go.RowKit
def PC (c:Nat)(m:MQ):Prop:=Cn Tryz.prog 42 [(QMA c m).va] (SlR 200000 (partsR m))
theorem fg (m:MQ):0<(tailR m).length∧(tailR m).length≤3:=by
 have h1:=dE ((1-m.a)/m.b)
 have h2:=dE ((1-m.d)/m.b)
 unfold tailR
 simp only [List.length_append,List.length_singleton]
 omega
theorem d5 (m:MQ):(partsR m).length≤5:=by
 have h1:=(fg m).2
 have h2:=(fg (negM m)).2
 have h3:=(fg (preM m)).2
 have h4:=(fg (preM (negM m))).2
 have h5:=dE (0-m.c)
 have h6:=dE m.c
 unfold partsR
 repeat' split
 all_goals first | omega | (simp only [List.length_cons]; omega)
theorem pre_qm {c:Nat}{m:MQ}:WkA (cat [QA c m.a,QA (c+c+1) (m.b-m.a),QA c m.c,QA (c+c+1) (m.d-m.c)]) (QMA (c+c+1) (preM m)):=qm4 zo zo zo zo
theorem gN {K:Nat}{b:Nat}{e:EQ}{L:List EQ}:OwnR b 67 9 [U32] ([e].map (ER K)++L.map (ER K))=OwE b K (e::L):=rfl
theorem sg_g {x:Rat}(h:decide (x.num.sign>0)=true):0<x:=by rw [rZ] at h; exact of_decide_eq_true h
theorem sg_ng {x:Rat}(h:decide (x.num.sign>0)=false):¬ 0<x:=by rw [rZ] at h; exact of_decide_eq_false h
theorem sg_l {x:Rat}(h:decide (x.num.sign<0)=true):x<0:=by rw [mf] at h; exact of_decide_eq_true h
theorem vN {x:Rat}(h:decide (x.num.sign<0)=false):¬ x<0:=by rw [mf] at h; exact of_decide_eq_false h
theorem cm_t {x y:Rat}(h:(cmQ x y==0)=true):x=y:=by rw [uN] at h; exact of_decide_eq_true h
theorem cm_f {x y:Rat}(h:(cmQ x y==0)=false):¬ x=y:=by rw [uN] at h; exact of_decide_eq_false h
theorem iU {k:Nat}(h2:2≤k):CW Tryz.prog 130 [] (fun b=>[]) (fun b=>OwE b k [(5,0)]):=by
 refine CW.intro Tryz.func130 G zk nq (fun B b w0 a hBb hbw hrm U=>?_)
 have U:=zn [] [] U
 refine wp_seq<|zh [.v 0 _] [.o 0] U (zv G (a9 aP) o0) (zz [(0,_)] [] fun a w U=>?_)
 refine zt<|zh [.v 1 _,.v 2 _,.v 3 _,.v 0 _] [.o 3] U (zv G (aa (xs:=[]) fo .nil) (zv G (aa (xs:=[.const (.int .u8 (5)),.tmp 1]) (cO 5 0 (c:=2) h2 h2) (.cons a8 (.cons (vq 0 G) .nil))) (zv G (oX (l:=[_]) (xs:=[.tmp 2]) cC zk (n_ok zk) nq nq nq (.cons (vq 1 G) .nil) G G) (zA 2 G o0)))) (zz [(0,_)] [] fun a w U=>?_)
 refine a7<|wp_ret<|ar ?_ (am G U (zm 0 G))
 exact br (tp (m:=9) (D:=[U32]) (mC rfl) (fun A hA=>by obtain rfl:=List.mem_singleton.1 hA; exact Ca) (by rw [List.length_singleton]; decide)) (own_le hbw)
set_option maxHeartbeats 2000000 in
theorem gJ {c:Nat}(m:MQ)(hc:c≤30000)(h0:m.a≠0∨m.b≠0)(h1:m.b<0∨(m.b=0∧¬ m.a<0∧m.a≠1)→PC (c+3) (negM m))(h2:m.b=0∧m.a<0∧m.a≠0-1→PC (c+c+1) (preM m)):Cn Tryz.prog 42 [(QMA c m).va] (SlR 200000 (partsR m)):=by
 obtain ⟨it,z,e1,e2,e3,e4,e5⟩:=iD
 refine Cn.intro Tryz.func42 G zk nq (fun B w0 a U=>?_)
 have U:=zn [(0,(QMA c m).va)] [] U
 refine wp_seq<|zg [] [⟨1,29,ptrH,some 0,_,none⟩] [.alc 0,.v 2 _] [.o 1] U (oc (ay G G G (gq 0 G)) (zv G (a9 aP) o0)) (zz [(2,_)] [O 1 29 _] fun a w U=>?_)
 refine zt<|zg [none] [⟨3,27,ptrH,some 1,_,some (2,_)⟩] [.v 7 _,.alc 1,.sto 1] [.g 0] U (zv G (aa (xs:=[]) sG .nil) (oc (aJ G G G (Str.zero b4)) (oc (aA G G G (vq 0 G) ax (Eq.trans (b:=4) G G)) o0))) (zz [(2,_)] [O 1 29 _,O 3 27 _] fun a w U=>?_)
 refine zt<|zg [none,none] [] [.adr 8 1 (.some 4) True,.v 9 _,.v 10 _,.v 4 _] [.g 0,.o 3] U (oc (ob_a G G (ac (lz0 0 G) bF)) (zL 0 0 1 G ax (zv G (aa (xs:=[.tmp 9]) fm (.cons (vq 1 G) .nil)) (zA 2 G o0)))) (zz [(2,_),(4,_)] [O 1 29 _,O 3 27 _] fun a w U=>?_)
 refine zt<|wp_block<|wp_seq<|zg [none,none] [] [.v 12 _,.v 13 _,.v 11 _] [.g 0,.g 1,.o 2] U (zM 1 G (zv G (dJ (vq 0 G) a8) (zA 1 G o0))) (zz [(2,_),(4,_),(11,_)] [O 1 29 _,O 3 27 _] fun a w U=>?_)
 refine a7<|ah U (zm 2 G) (fun hb0=>?_) (fun hb0=>?_)
 ·have hb:=sg_g hb0
  have hbz:m.b≠0:=by grind
  refine wp_seq<|cw (sp:=[.v 14 _,.adr 15 1 (.some 0) True,.v 16 _,.v 17 _,.adr 18 1 (.some 4) True,.v 19 _,.v 20 _,.v 21 VT,.v 5 VT]) [[],[],[1],[0,1,2],[],[4],[0,1,2,3,4,5],[0,1,2,3,4,5,6],[0,1,2,3,4,5,6,7]] 7 2 99 7 OneC [.g 0,.o 6] ab U (zl 1 G ax (oc (ob_a G G (ac (lz0 0 G) bG)) (zL 1 0 0 G ax (zv G (aa (xs:=[.tmp 14,.tmp 16]) (dZ zo) (.cons (vq 0 G) (.cons (vq 2 G) .nil))) (oc (ob_a G G (ac (lz0 0 G) bF)) (zL 4 0 1 G ax (zv G (aa (xs:=[.tmp 17,.tmp 19]) (kO zo hbz) (.cons (vq 3 G) (.cons (vq 5 G) .nil))) o0))))))) G zd zd zk (cp zk) zk zk (zz [(2,_),(20,_)] [O 1 29 _,O 3 27 _] fun a w U=>?_)
  rw [show List.range' 7 2=[7,8] from rfl]
  rw [wpOps_cons]
  refine io (xs:=[.const (.slice none 0 0),.tmp 20]) [0] G U (ij [] ((1-m.a)/m.b) (c:=2+c+1+c) (k:=200000) zo zd zd) (.cons (fH _ _ _ G) (.cons (U.vals (20,_) (zm 1 G)) .nil)) zd zk zk zk zk (fun a w U=>?_)
  rw [wpOps_cons]
  refine dh 0 G U G zd zk zk (fun a U=>?_)
  refine bI ?_
  have U:=St.sel U [0,2]
  have U:=zn [(5,_),(2,_)] [O 1 29 _,O 3 27 _] U
  refine zt<|bf (sp:=[.v 22 _,.adr 23 1 (.some 4) True,.v 24 _,.v 25 _,.v 26 _,.v 27 _,.v 28 VT,.v 5 VT]) 6 2 99 6 OneC [.g 1,.o 0,.o 5] U (zM 0 G (oc (ob_a G G (ac (lz0 0 G) bF)) (zL 1 0 1 G ax (zv G (aa (xs:=[.tmp 24]) (ik zo) (.cons (vq 2 G) .nil)) (zv G (aa (xs:=[.const (.int .u8 (1)),.tmp 25]) (cO 1 m.b (c:=c+2+1) (k:=200000) zo zd) (.cons a8 (.cons (vq 3 G) .nil))) (zv G (cz (D:=[U32]) (l:=[_]) (xs:=[.tmp 26]) (dK zk) cC zk (n_ok zk) nq nq nq (.cons (vq 4 G) .nil) G G) o0)))))) G zd zk zk (zz [(2,_),(22,_),(27,_)] [O 1 29 _,O 3 27 _] fun a w U=>?_)
  rw [show List.range' 6 2=[6,7] from rfl]
  rw [wpOps_cons]
  refine gP (Xs:=[ER 200000 (1,m.b)]) [0] 1 2 G U G G Nat.zero_lt_one (U.lo _ (.inl (Nat.le_refl _))) U.base.size j0 zk zk (mC G) Tryz.underlying22 e1 e2 e3 e4 e5 zd (by have:=dE ((1-m.a)/m.b); simp only [List.length_map,List.length_append,List.length_nil,List.length_singleton]; omega) (by have:=dE ((1-m.a)/m.b); simp only [List.length_map,List.length_append,List.length_nil,List.length_singleton]; omega) zd zk zk zk zk (fun a w U=>?_)
  rw [wpOps_cons]
  refine dh 0 G U G zd zk zk (fun a U=>?_)
  refine bI ?_
  have U:=St.sel U [0,2]
  have U:=zn [(5,_),(2,_)] [O 1 29 _,O 3 27 _] U
  refine zt ?_
  have U:=St.wkG (A':=OwE w0.w.heap.size 200000 ([]++lensR ((1-m.a)/m.b)++[(1,m.b)])) U 0 rfl (ol (Nat.le_refl _) (Nat.le_refl _))
  refine cw (sp:=[.v 29 _,.v 30 _,.adr 31 1 (.some 12) True,.v 32 _,.v 33 _,.adr 34 1 (.some 4) True,.v 35 _,.v 36 _,.v 37 VT,.v 2 VT]) [[],[],[],[2],[1,2,3],[],[5],[1,2,3,4,5,6],[0,1,2,3,4,5,6,7],[0,1,2,3,4,5,6,7,8]] 8 2 99 8 OneC [.o 0,.o 7] ab U (zM 0 G (zl 1 G ax (oc (ob_a G G (ac (lz0 0 G) bW)) (zL 2 0 3 G ax (zv G (aa (xs:=[.tmp 30,.tmp 32]) (dZ zo) (.cons (vq 1 G) (.cons (vq 3 G) .nil))) (oc (ob_a G G (ac (lz0 0 G) bF)) (zL 5 0 1 G ax (zv G (aa (xs:=[.tmp 33,.tmp 35]) (kO zo hbz) (.cons (vq 4 G) (.cons (vq 6 G) .nil))) o0)))))))) G zd zd zk (cp zk) zk zk (zz [(29,_),(36,_)] [O 1 29 _,O 3 27 _] fun a w U=>?_)
  rw [show List.range' 8 2=[8,9] from rfl]
  rw [wpOps_cons]
  refine io (xs:=[.tmp 29,.tmp 36]) [] G U (ij ([]++lensR ((1-m.a)/m.b)++[(1,m.b)]) ((1-m.d)/m.b) (c:=2+c+1+c) (k:=200000) zo zd (by have:=dE ((1-m.a)/m.b); simp only [List.length_append,List.length_nil,List.length_singleton]; omega)) (.cons (U.vals (29,_) (zm 0 G)) (.cons (U.vals (36,_) (zm 1 G)) .nil)) zd zk zk zk zk (fun a w U=>?_)
  rw [wpOps_cons]
  refine dh 0 G U G zd zk zk (fun a U=>?_)
  refine bI ?_
  have U:=St.sel U [0]
  have U:=zn [(2,_)] [O 1 29 _,O 3 27 _] U
  refine a7<|wp_ret<|aV ?_
  refine ap ?_
  refine ar ?_ (am G U (zm 0 G))
  rw [partsR,if_pos hb,tailR]; exact iX
 ·have hb:=sg_ng hb0
  refine wp_seq<|zg [none,none] [] [.v 39 _,.v 40 _,.v 38 _] [.g 0,.o 2] U (zM 1 G (zv G (aN (vq 0 G) a8) (zA 1 G o0))) (zz [(2,_),(38,_)] [O 1 29 _,O 3 27 _] fun a w U=>?_)
  refine a7<|ah U (zm 1 G) (fun hb1=>?_) (fun hb1=>?_)
  ·have hbn:=sg_l hb1
   refine wp_seq<|cw (sp:=[.v 41 _,.v 42 _,.v 43 _,.v 44 _,.v 45 VT,.v 2 VT]) [[],[],[0,1],[0,1,2],[0,1,2,3],[0,1,2,3,4]] 4 2 99 4 OneC [.o 0,.o 3] ab U (zv G (kL (xs:=[]) (iU (k:=200000) zd) .nil) (zl 0 G dg (zv G (aa (xs:=[.tmp 42]) (iT (m:=m) zo) (.cons (vq 1 G) .nil)) (zv G (aa (xs:=[.tmp 43]) (h1 (.inl hbn)) (.cons (vq 2 G) .nil)) o0)))) G zd zd zk (cp zk) zk zk (zz [(41,_),(44,_)] [O 1 29 _,O 3 27 _] fun a w U=>?_)
   rw [show List.range' 4 2=[4,5] from rfl]
   rw [wpOps_cons]
   refine gP (Xs:=((partsR (negM m)).map (ER 200000))) [] 0 1 G U G G (by rw [List.length_map,partsR,if_pos (show 0<(negM m).b from (by show 0<0-m.b; grind))]; exact (fg _).1) (U.lo _ (.inl (Nat.le_refl _))) U.base.size j0 zk zk er_n Tryz.underlying22 e1 e2 e3 e4 e5 zd (by simp only [List.length_map,List.length_singleton,List.length_cons,List.length_nil]; have:=d5 (negM m); omega) (by simp only [List.length_map,List.length_singleton,List.length_cons,List.length_nil]; have:=d5 (negM m); omega) zd zk zk zk zk (fun a w U=>?_)
   rw [wpOps_cons]
   refine dh 0 G U G zd zk zk (fun a U=>?_)
   refine bI ?_
   have U:=St.sel U [0]
   have U:=zn [(2,_)] [O 1 29 _,O 3 27 _] U
   refine a7<|wp_ret<|aV ?_
   refine ap ?_
   refine ar ?_ (am G U (zm 0 G))
   rw [sS hbn]; exact br (bc gN) iX
  ·have hb00:m.b=0:=by have:=vN hb1; grind
   refine wp_seq<|zg [none,none] [] [.adr 47 1 (.some 0) True,.v 48 _,.v 49 _,.v 50 _,.v 51 _,.v 46 _] [.g 0,.o 5] U (oc (ob_a G G (ac (lz0 0 G) bG)) (zL 0 0 0 G ax (zl 1 G ax (zv G (aa (xs:=[.tmp 48,.tmp 49]) (nH zo) (.cons (vq 1 G) (.cons (vq 2 G) .nil))) (zv G (bD (vq 3 G) a8) (zA 4 G o0)))))) (zz [(2,_),(46,_)] [O 1 29 _,O 3 27 _] fun a w U=>?_)
   refine a7<|ah U (zm 1 G) (fun hb2=>?_) (fun hb2=>?_)
   ·have ha1:=cm_t hb2
    refine wp_seq<|bf (sp:=[.adr 52 1 (.some 8) True,.v 53 _,.v 54 _,.v 55 VT,.v 2 VT]) 3 2 99 3 OneC [.o 2] U (oc (ob_a G G (ac (lz0 0 G) bU)) (zL 0 0 2 G ax (zv G (aa (xs:=[.tmp 53]) (e8 zo) (.cons (vq 1 G) .nil)) o0))) G zd zk zk (zz [(54,_)] [O 1 29 _,O 3 27 _] fun a w U=>?_)
    rw [show List.range' 3 2=[3,4] from rfl]
    rw [wpOps_cons]
    refine io (xs:=[.const (.slice none 0 0),.tmp 54]) [] G U (ij [] (0-m.c) (c:=2+c+1) (k:=200000) zo zd zd) (.cons (fH _ _ _ G) (.cons (U.vals (54,_) (zm 0 G)) .nil)) zd zk zk zk zk (fun a w U=>?_)
    rw [wpOps_cons]
    refine dh 0 G U G zd zk zk (fun a U=>?_)
    refine bI ?_
    have U:=St.sel U [0]
    have U:=zn [(2,_)] [O 1 29 _,O 3 27 _] U
    refine a7<|wp_ret<|aV ?_
    refine ap ?_
    refine ar ?_ (am G U (zm 0 G))
    rw [partsR,if_neg hb,if_neg (vN hb1),if_pos ha1]; exact iX
   ·have ha1:=cm_f hb2
    refine wp_seq<|zgd [[],[0],[],[2],[0,1,2,3],[0,1,2,3,4],[0,1,2,3,4,5]] [none,none] [] [.adr 57 1 (.some 0) True,.v 58 _,.v 59 _,.v 60 _,.v 61 _,.v 62 _,.v 56 _] [.g 0,.o 6] ab U (oc (ob_a G G (ac (lz0 0 G) bG)) (zL 0 0 0 G ax (zl 1 G ax (zv G (aa (xs:=[.tmp 59]) (e8 zo) (.cons (vq 2 G) .nil)) (zv G (aa (xs:=[.tmp 58,.tmp 60]) (nH zo) (.cons (vq 1 G) (.cons (vq 3 G) .nil))) (zv G (bD (vq 4 G) a8) (zA 5 G o0))))))) zk zk zk zk (zz [(2,_),(56,_)] [O 1 29 _,O 3 27 _] fun a w U=>?_)
    refine a7<|ah U (zm 1 G) (fun hb3=>?_) (fun hb3=>?_)
    ·have ha2:=cm_t hb3
     refine wp_seq<|cw (sp:=[.v 63 _,.adr 64 1 (.some 8) True,.v 65 _,.v 66 _,.v 67 VT,.v 2 VT]) [[],[],[1],[0,1,2],[0,1,2,3],[0,1,2,3,4]] 4 2 99 4 OneC [.o 0,.o 3] ab U (zv G (kL (xs:=[]) (iU (k:=200000) zd) .nil) (oc (ob_a G G (ac (lz0 0 G) bU)) (zL 1 0 2 G ax (zv G (aa (xs:=[.tmp 65]) (ik zo) (.cons (vq 2 G) .nil)) o0)))) G zd zd zk (cp zk) zk zk (zz [(63,_),(66,_)] [O 1 29 _,O 3 27 _] fun a w U=>?_)
     rw [show List.range' 4 2=[4,5] from rfl]
     rw [wpOps_cons]
     refine io (xs:=[.tmp 63,.tmp 66]) [] G U (ij [(5,0)] m.c (c:=c+2+1) (k:=200000) zo zd zd) (.cons (U.vals (63,_) (zm 0 G)) (.cons (U.vals (66,_) (zm 1 G)) .nil)) zd zk zk zk zk (fun a w U=>?_)
     rw [wpOps_cons]
     refine dh 0 G U G zd zk zk (fun a U=>?_)
     refine bI ?_
     have U:=St.sel U [0]
     have U:=zn [(2,_)] [O 1 29 _,O 3 27 _] U
     refine a7<|wp_ret<|aV ?_
     refine ap ?_
     refine ar ?_ (am G U (zm 0 G))
     rw [partsR,if_neg hb,if_neg (vN hb1),if_neg ha1,if_pos ha2]; exact iX
    ·have ha2:=cm_f hb3
     refine wp_seq<|zg [none,none] [] [.adr 69 1 (.some 0) True,.v 70 _,.v 71 _,.v 72 _,.v 68 _] [.g 0,.o 4] U (oc (ob_a G G (ac (lz0 0 G) bG)) (zL 0 0 0 G ax (zv G (aa (xs:=[.tmp 70]) fm (.cons (vq 1 G) .nil)) (zv G (aN (vq 2 G) a8) (zA 3 G o0))))) (zz [(2,_),(68,_)] [O 1 29 _,O 3 27 _] fun a w U=>?_)
     refine a7<|ah U (zm 1 G) (fun hb4=>?_) (fun hb4=>?_)
     ·have ha3:=sg_l hb4
      have hpc:=h2 ⟨hb00,ha3,ha2⟩
      refine wp_seq<|zg [none,none] [] [.v 73 _,.v 74 _,.v 75 _,.v 6 _] [.g 0,.o 3] U (zl 1 G ax (zv G (aa (xs:=[.const (.int .u8 (1)),.tmp 73]) (cO 1 1 (c:=2) (k:=200000) zd zd) (.cons a8 (.cons (vq 0 G) .nil))) (zv G (oX (l:=[_]) (xs:=[.tmp 74]) cC zk (n_ok zk) nq nq nq (.cons (vq 1 G) .nil) G G) (zA 2 G o0)))) (zz [(2,_),(6,_)] [O 1 29 _,O 3 27 _] fun a w U=>?_)
      have U:=St.wkG (A':=OwE w0.w.heap.size 200000 [(1,1)]) U 1 rfl (tp (m:=9) (D:=[U32]) (mC rfl) (fun A hA=>by obtain rfl:=List.mem_singleton.1 hA; exact Ca) (by rw [List.length_singleton]; decide))
      refine zt<|cw (sp:=[.v 76 _,.adr 77 1 (.some 0) True,.v 78 _,.adr 79 1 (.some 4) True,.v 80 _,.adr 81 1 (.some 0) True,.v 82 _,.v 83 _,.adr 84 1 (.some 8) True,.v 85 _,.adr 86 1 (.some 12) True,.v 87 _,.adr 88 1 (.some 8) True,.v 89 _,.v 90 _,.v 91 _,.v 92 _,.v 93 VT,.v 2 VT]) [[],[],[1],[],[3],[],[5],[3,4,5,6],[],[8],[],[10],[],[12],[3,4,5,6,7,10,11,12,13],[1,2,3,4,5,6,7,8,9,10,11,12,13,14],[1,2,3,4,5,6,7,8,9,10,11,12,13,14,15],[0,1,2,3,4,5,6,7,8,9,10,11,12,13,14,15,16],[0,1,2,3,4,5,6,7,8,9,10,11,12,13,14,15,16,17]] 17 2 99 17 OneC [.o 0,.o 16] ab U (zM 1 G (oc (ob_a G G (ac (lz0 0 G) bG)) (zL 1 0 0 G ax (oc (ob_a G G (ac (lz0 0 G) bF)) (zL 3 0 1 G ax (oc (ob_a G G (ac (lz0 0 G) bG)) (zL 5 0 0 G ax (zv G (aa (xs:=[.tmp 80,.tmp 82]) (dZ zo) (.cons (vq 4 G) (.cons (vq 6 G) .nil))) (oc (ob_a G G (ac (lz0 0 G) bU)) (zL 8 0 2 G ax (oc (ob_a G G (ac (lz0 0 G) bW)) (zL 10 0 3 G ax (oc (ob_a G G (ac (lz0 0 G) bU)) (zL 12 0 2 G ax (zv G (aa (xs:=[.tmp 87,.tmp 89]) (dZ zo) (.cons (vq 11 G) (.cons (vq 13 G) .nil))) (zv G (aa (xs:=[.tmp 78,.tmp 83,.tmp 85,.tmp 90]) mv (.cons (vq 2 G) (.cons (vq 7 G) (.cons (vq 9 G) (.cons (vq 14 G) .nil))))) (zv G (aa (xs:=[.tmp 91]) hpc (.cons (has_wk' (vq 15 G) pre_qm.va) .nil)) o0))))))))))))))))) G zd zd zk (cp zk) zk zk (zz [(76,_),(92,_)] [O 1 29 _,O 3 27 _] fun a w U=>?_)
      rw [show List.range' 17 2=[17,18] from rfl]
      rw [wpOps_cons]
      refine gP (Xs:=((partsR (preM m)).map (ER 200000))) [] 0 1 G U G G (by rw [List.length_map,partsR,if_pos (show 0<(preM m).b from (by show 0<m.b-m.a; grind))]; exact (fg _).1) (U.lo _ (.inl (Nat.le_refl _))) U.base.size j0 zk zk er_n Tryz.underlying22 e1 e2 e3 e4 e5 zd (by simp only [List.length_map,List.length_singleton,List.length_cons,List.length_nil]; have:=d5 (preM m); omega) (by simp only [List.length_map,List.length_singleton,List.length_cons,List.length_nil]; have:=d5 (preM m); omega) zd zk zk zk zk (fun a w U=>?_)
      rw [wpOps_cons]
      refine dh 0 G U G zd zk zk (fun a U=>?_)
      refine bI ?_
      have U:=St.sel U [0]
      have U:=zn [(2,_)] [O 1 29 _,O 3 27 _] U
      refine a7<|wp_ret<|aV ?_
      refine ap ?_
      refine ar ?_ (am G U (zm 0 G))
      rw [iW hb00 ha3 ha2]; exact br (bc gN) iX
     ·have ha3:=vN hb4
      have hpc:=h1 (.inr ⟨hb00,ha3,ha1⟩)
      refine wp_skip<|ao ?_
      refine zt<|cw (sp:=[.v 94 _,.v 95 _,.v 96 _,.v 97 _,.v 98 VT,.v 2 VT]) [[],[],[0,1],[0,1,2],[0,1,2,3],[0,1,2,3,4]] 4 2 99 4 OneC [.o 0,.o 3] ab U (zv G (kL (xs:=[]) (iU (k:=200000) zd) .nil) (zl 0 G dg (zv G (aa (xs:=[.tmp 95]) (iT (m:=m) zo) (.cons (vq 1 G) .nil)) (zv G (aa (xs:=[.tmp 96]) hpc (.cons (vq 2 G) .nil)) o0)))) G zd zd zk (cp zk) zk zk (zz [(94,_),(97,_)] [O 1 29 _,O 3 27 _] fun a w U=>?_)
      rw [show List.range' 4 2=[4,5] from rfl]
      rw [wpOps_cons]
      refine gP (Xs:=((partsR (negM m)).map (ER 200000))) [] 0 1 G U G G (by rw [List.length_map,iW (show (negM m).b=0 from (by show 0-m.b=0; grind)) (show (negM m).a<0 from (by show 0-m.a<0; grind)) (show (negM m).a≠0-1 from (by show 0-m.a≠0-1; grind))]; simp) (U.lo _ (.inl (Nat.le_refl _))) U.base.size j0 zk zk er_n Tryz.underlying22 e1 e2 e3 e4 e5 zd (by simp only [List.length_map,List.length_singleton,List.length_cons,List.length_nil]; have:=d5 (negM m); omega) (by simp only [List.length_map,List.length_singleton,List.length_cons,List.length_nil]; have:=d5 (negM m); omega) zd zk zk zk zk (fun a w U=>?_)
      rw [wpOps_cons]
      refine dh 0 G U G zd zk zk (fun a U=>?_)
      refine bI ?_
      have U:=St.sel U [0]
      have U:=zn [(2,_)] [O 1 29 _,O 3 27 _] U
      refine a7<|wp_ret<|ar ?_ (am G U (zm 0 G))
      rw [qF hb00 ha3 (by grind) ha1]; exact br (bc gN) iX
theorem q_pre {m:MQ}(h0:m.b=0)(h:m.a<0):0<(preM m).b:=by show 0<m.b-m.a; grind
theorem q_neg {m:MQ}(h:m.b<0):0<(negM m).b:=by show 0<0-m.b; grind
theorem q_nb {m:MQ}(h0:m.b=0):(negM m).b=0:=by show 0-m.b=0; grind
theorem q_na {m:MQ}(h:¬ m.a<0)(h0:m.a≠0):(negM m).a<0:=by show 0-m.a<0; grind
theorem qB {m:MQ}(hd:m.a*m.d-m.b*m.c=1):PC 2048 m:=by
 have tl:∀ {c:Nat} (m:MQ),c≤30000→0<m.b→PC c m:=fun {c} m hc hb=>gJ m hc (.inr (by grind)) (fun h=>by exfalso; rcases h with h | h <;> grind) (fun h=>by exfalso; grind)
 have pr:∀ {c:Nat} (m:MQ),c≤10000→m.b=0→m.a<0→PC c m:=fun {c} m hc hb ha=>gJ m zo (.inl (by grind)) (fun h=>by exfalso; rcases h with h | h <;> grind) (fun _=>tl (preM m) zo (q_pre hb ha))
 have h0:m.a≠0∨m.b≠0:=by
  by_cases hb:m.b=0
  ·refine .inl fun ha=>?_
   rw [ha,hb] at hd
   grind
  ·exact .inr hb
 refine gJ m zd h0 (fun h=>?_) (fun h=>tl (preM m) zd (q_pre h.1 h.2.1))
 rcases h with h | ⟨h1,h2,h3⟩
 ·exact tl (negM m) zd (q_neg h)
 ·exact pr (negM m) zd (q_nb h1) (q_na h2 (h0.elim id fun h=>absurd h1 h))
abbrev BnRR (k:Nat)(r:List EQ × Int):VA:=Tu [SlR k r.1,In r.2]
theorem AS {m:RM}(h:okM m=true):parF m=toldL (partsR (toM m)):=by rw [parF,if_pos h,sT (tc h).2]
theorem qE (m:RM):Cn Tryz.prog 12 [(RMA m).va] (BnRR 200000 (parF m)):=by
 refine Cn.intro Tryz.func12 G zk nq (fun B w0 a U=>?_)
 have U:=zn [(0,(RMA m).va)] [] U
 refine wp_seq<|zg [] [⟨1,29,ptrH,some 0,_,none⟩] [.alc 0,.v 2 _,.v 3 _] [.o 1,.o 2] U (oc (ay G G G (gq 0 G)) (zv G (a9 aP) (zv G (a9 a8) o0))) (zz [(2,_),(3,_)] [O 1 29 _] fun a w U=>?_)
 refine zt<|wp_seq<|zg [none] [] [.v 4 _,.v 5 _,.v 6 _] [.g 0,.g 1,.o 2] U (zl 0 G dg (zv G (aa (xs:=[.tmp 4]) (sD m) (.cons (vq 0 G) .nil)) (zv G (cI (vq 1 G) a8) o0))) (zz [(2,_),(3,_),(6,_)] [O 1 29 _] fun a w U=>?_)
 refine a7<|ah U (zm 2 G) (fun hb0=>?_) (fun hb0=>?_)
 ·have hm:okM m=false:=by cases h:okM m with | false=>rfl | true=>(rw [h] at hb0; simp at hb0)
  refine wp_seq<|zg [none] [] [.v 2 _,.v 3 _] [.o 0,.o 1] U (zv G (a9 aP) (zv G (a9 a8) o0)) (zz [(2,_),(3,_)] [O 1 29 _] fun a w U=>?_)
  refine a7<|wp_ret<|ap ?_
  refine ar ?_ (aS (rs:=[.tmp 2,.tmp 3]) G U (.tmp (zm 0 G) (.tmp (zm 1 G) .nil)) zd)
  rw [parF,hm]; exact tu2w pf bh
 ·have hm:okM m=true:=by cases h:okM m with | true=>rfl | false=>(rw [h] at hb0; simp at hb0)
  have U:=St.wkL U 0 rfl (qm_x (tc hm).1)
  refine wp_skip<|zt<|zg [none] [] [.v 7 _,.v 8 _,.v 9 _,.v 10 _,.v 11 _,.v 2 _,.v 3 _] [.o 5,.o 6] U (zl 0 G dg (zv G (aa (xs:=[.tmp 7]) (show PC 2048 (toM m) from qB (tc hm).2) (.cons (vq 0 G) .nil)) (zv G (aa (xs:=[.tmp 8]) (iV (partsR (toM m))) (.cons (vq 1 G) .nil)) (zv G (kK (vq 2 G)) (zv G (kJ (vq 2 G)) (zA 3 G (zA 4 G o0))))))) (zz [(2,_),(3,_)] [O 1 29 _] fun a w U=>?_)
  refine a7<|wp_ret<|ar ?_ (aS (rs:=[.tmp 2,.tmp 3]) G U (.tmp (zm 0 G) (.tmp (zm 1 G) .nil)) zd)
  rw [AS hm]; exact bh
end Go.Proofs.YtmacliockgbdcaaGreatDoor
