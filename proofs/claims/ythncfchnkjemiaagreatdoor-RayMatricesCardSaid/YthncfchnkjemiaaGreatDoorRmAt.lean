import Derived.Test.YthncfchnkjemiaaGreatDoorRmAa
import Derived.Test.YthncfchnkjemiaaGreatDoorRmAc
import Derived.Test.YthncfchnkjemiaaGreatDoorRmAs
set_option linter.unusedVariables false
set_option linter.unusedSimpArgs false
set_option linter.unusedSectionVars false
set_option maxRecDepth 100000
namespace Go.Proofs.YthncfchnkjemiaaGreatDoor
open Go Go.RowKit
abbrev filL (L:List Slot):List Slot:=L.map fun s=>s.fil s.xs.length
theorem fil_full {s:Slot}(h:s.new):(s.fil s.xs.length).full:=by
 have e:(s.fil s.xs.length).xs=List.replicate s.xs.length (mkN s.n):=by
  show List.replicate s.xs.length (mkN s.n)++s.xs.drop s.xs.length=_
  rw [List.drop_length,List.append_nil]
 exact ⟨zwh h.towf (Nat.le_refl _),h.uv,rfl,by rw [e,List.length_replicate]; rfl⟩
theorem znw {L:List Slot}(h:∀ s∈L,s.new):∀ s∈filL L,s.full:=fun s hs=>by
 obtain ⟨t,ht,rfl⟩:=List.mem_map.1 hs
 exact fil_full (h t ht)
theorem gk_st {vr:Value}{L:List Slot}{B N:Nat}{w0:Bs}{Γ:List (Nat × VA)}{Λ:List Lc}{a:Act}{w:World}{s:Nat}{T:TypeId}{H:Hd}(h:St B w0 N Γ Λ a w)(k:Nat)(hm:Λ[k]?=some ⟨s,T,H,GkA vr L⟩):∃ M,Gr L M L.length∧St B w0 N Γ (Λ.set k ⟨s,T,H,BkA vr M⟩) a w:=by
 obtain ⟨g,cs,q1,q2,q3,M,hG,q4⟩:=h.locs _ (List.mem_of_getElem? hm)
 obtain ⟨hk,he⟩:=List.getElem?_eq_some_iff.1 hm
 have hs:∀ m∈Λ.set k ⟨s,T,H,BkA vr M⟩,∃ m0∈Λ,m0.s=m.s:=fun m hm'=>by
  rcases List.mem_or_eq_of_mem_set hm' with hm' | rfl
  ·exact ⟨m,hm',rfl⟩
  ·exact ⟨_,List.mem_of_getElem? hm,rfl⟩
 refine ⟨M,hG,h.lo,h.defers,h.size,h.base,h.vals,fun l hl=>?_,fun m1 hm1 m2 hm2 hne=>?_⟩
 ·rcases List.mem_or_eq_of_mem_set hl with hl | rfl
  ·exact h.locs l hl
  ·exact ⟨g,cs,q1,q2,q3,q4⟩
 ·obtain ⟨m3,r1,r2⟩:=hs m1 hm1
  obtain ⟨m4,r3,r4⟩:=hs m2 hm2
  rw [← r2,← r4] at hne ⊢
  exact h.dis m3 r1 m4 r3 hne
theorem apart_c (vr:Value)(L:List Slot)(hnew:∀ s∈L,s.new)(hl:L.length≤1000000):CK Tryz.prog 26 59 [59,171,168] (BkA vr L) (GkA vr (filL L)) [] (Bo true):=by
 refine CK.intro Tryz.func26 rfl zk nq zk (fun B g w0 a hrm hst=>?_)
 have hst:St B w0 129 [(0,EqV ((ptrH).f g)),] [⟨0,59,ptrH,BkA vr L⟩] a w0.w:=hst
 refine wp_seq ?_
 refine gl (sts:=[none]) (news:=[]) (sp:=[.val 2 _]) [.g 0,.o 0] hst (zv rfl (za1 zb7) o0) (fun a w hst=>?_)
 have hst:St B w0 129 [(0,_),(2,_)] [⟨0,59,ptrH,_⟩] a w:=hst
 refine zt<|zch (sp:=[.val 3 _,.val 4 VT]) 1 1 99 1 OneC [.g 0,.g 1,.o 0] hst (zv rfl (za2 (gq 0 rfl)) o0) rfl zd zk zk (fun a w hst=>?_)
 have hst:St B w0 129 [(0,_),(2,_),(3,_)] [⟨0,59,ptrH,_⟩] a w:=hst
 rw [show List.range' 1 1=[1] from rfl]
 rw [wpOps_cons]
 refine zdp (A1:=BkA vr (filL L)) [0,1] [] 0 rfl hst (fill_c vr L hnew hl) rfl (Eq.trans (b:=ptr g) (hst.vals _ (zm 2 rfl)) (Eq.symm (hst.vals _ (zm 0 rfl)))) .nil rfl hrm zd zk zk zk zk (fun a w hst=>?_)
 refine zc5 ?_
 have hst:St B w0 129 [(4,_),(0,_),(2,_)] [⟨0,59,ptrH,BkA vr (filL L)⟩] a w:=hst
 refine zt<|gl (sts:=[none]) (news:=[]) (sp:=[.val 5 _,.val 6 _]) [.g 1,.g 2] hst (zv rfl (za2 (zbc (lz0 0 rfl))) (zv rfl (za5 (xs:=[.tmp 5]) (znv vr (filL L)) (.cons (vq 0 rfl) .nil)) o0)) (fun a w hst=>?_)
 have hst:St B w0 129 [(0,_),(2,_)] [⟨0,59,ptrH,_⟩] a w:=hst
 refine zt<|gl (sts:=[none]) (news:=[]) (sp:=[.val 7 _,.val 8 _]) [.g 0,.g 1] hst (zv rfl (za2 (zbc (lz0 0 rfl))) (zv rfl (za5 (xs:=[.tmp 7]) (zp9 vr (filL L)) (.cons (vq 0 rfl) .nil)) o0)) (fun a w hst=>?_)
 have hst:St B w0 129 [(0,_),(2,_)] [⟨0,59,ptrH,_⟩] a w:=hst
 refine zt<|gl (sts:=[none]) (news:=[]) (sp:=[.val 9 _,.val 10 _]) [.g 0,.g 1] hst (zv rfl (za2 (zbc (lz0 0 rfl))) (zv rfl (za5 (xs:=[.tmp 9]) (zmf vr (filL L)) (.cons (vq 0 rfl) .nil)) o0)) (fun a w hst=>?_)
 have hst:St B w0 129 [(0,_),(2,_)] [⟨0,59,ptrH,_⟩] a w:=hst
 refine zt<|gl (sts:=[none]) (news:=[]) (sp:=[.val 11 _,.val 12 _]) [.g 0,.g 1] hst (zv rfl (za2 (zbc (lz0 0 rfl))) (zv rfl (za5 (xs:=[.tmp 11]) (zsh vr (filL L)) (.cons (vq 0 rfl) .nil)) o0)) (fun a w hst=>?_)
 have hst:St B w0 129 [(0,_),(2,_)] [⟨0,59,ptrH,_⟩] a w:=hst
 refine zt<|gl (sts:=[none]) (news:=[]) (sp:=[.val 13 _,.val 14 _]) [.g 0,.g 1] hst (zv rfl (za2 (zbc (lz0 0 rfl))) (zv rfl (za5 (xs:=[.tmp 13]) (zsk vr (filL L)) (.cons (vq 0 rfl) .nil)) o0)) (fun a w hst=>?_)
 have hst:St B w0 129 [(0,_),(2,_)] [⟨0,59,ptrH,_⟩] a w:=hst
 refine zt<|gl (sts:=[none]) (news:=[]) (sp:=[.val 15 _,.val 16 _]) [.g 0,.g 1] hst (zv rfl (za2 (zbc (lz0 0 rfl))) (zv rfl (za5 (xs:=[.tmp 15]) (zp8 vr (filL L)) (.cons (vq 0 rfl) .nil)) o0)) (fun a w hst=>?_)
 have hst:St B w0 129 [(0,_),(2,_)] [⟨0,59,ptrH,_⟩] a w:=hst
 refine zt<|gl (sts:=[none]) (news:=[]) (sp:=[.val 17 _,.val 18 _]) [.g 0,.g 1] hst (zv rfl (za2 (zbc (lz0 0 rfl))) (zv rfl (za5 (xs:=[.tmp 17]) (zwe vr (filL L)) (.cons (vq 0 rfl) .nil)) o0)) (fun a w hst=>?_)
 have hst:St B w0 129 [(0,_),(2,_)] [⟨0,59,ptrH,_⟩] a w:=hst
 refine zt<|gl (sts:=[none]) (news:=[]) (sp:=[.val 19 _,.val 20 _]) [.g 0,.g 1] hst (zv rfl (za2 (zbc (lz0 0 rfl))) (zv rfl (za5 (xs:=[.tmp 19]) (zme vr (filL L)) (.cons (vq 0 rfl) .nil)) o0)) (fun a w hst=>?_)
 have hst:St B w0 129 [(0,_),(2,_)] [⟨0,59,ptrH,_⟩] a w:=hst
 refine zt<|gl (sts:=[none]) (news:=[]) (sp:=[.val 21 _,.val 22 _]) [.g 0,.g 1] hst (zv rfl (za2 (zbc (lz0 0 rfl))) (zv rfl (za5 (xs:=[.tmp 21]) (zsm vr (filL L)) (.cons (vq 0 rfl) .nil)) o0)) (fun a w hst=>?_)
 have hst:St B w0 129 [(0,_),(2,_)] [⟨0,59,ptrH,_⟩] a w:=hst
 refine zt<|gl (sts:=[none]) (news:=[]) (sp:=[.val 23 _,.val 24 _]) [.g 0,.g 1] hst (zv rfl (za2 (zbc (lz0 0 rfl))) (zv rfl (za5 (xs:=[.tmp 23]) (zsl vr (filL L)) (.cons (vq 0 rfl) .nil)) o0)) (fun a w hst=>?_)
 have hst:St B w0 129 [(0,_),(2,_)] [⟨0,59,ptrH,_⟩] a w:=hst
 refine zt<|gl (sts:=[none]) (news:=[]) (sp:=[.val 25 _,.val 26 _]) [.g 0,.g 1] hst (zv rfl (za2 (zbc (lz0 0 rfl))) (zv rfl (za5 (xs:=[.tmp 25]) (zsi vr (filL L)) (.cons (vq 0 rfl) .nil)) o0)) (fun a w hst=>?_)
 have hst:St B w0 129 [(0,_),(2,_)] [⟨0,59,ptrH,_⟩] a w:=hst
 refine zt<|gl (sts:=[none]) (news:=[]) (sp:=[.val 27 _,.val 28 _]) [.g 0,.g 1] hst (zv rfl (za2 (zbc (lz0 0 rfl))) (zv rfl (za5 (xs:=[.tmp 27]) (zwf vr (filL L)) (.cons (vq 0 rfl) .nil)) o0)) (fun a w hst=>?_)
 have hst:St B w0 129 [(0,_),(2,_)] [⟨0,59,ptrH,_⟩] a w:=hst
 refine zt<|gl (sts:=[none]) (news:=[]) (sp:=[.val 29 _,.val 30 _]) [.g 0,.g 1] hst (zv rfl (za2 (zbc (lz0 0 rfl))) (zv rfl (za5 (xs:=[.tmp 29]) (zsj vr (filL L)) (.cons (vq 0 rfl) .nil)) o0)) (fun a w hst=>?_)
 have hst:St B w0 129 [(0,_),(2,_)] [⟨0,59,ptrH,_⟩] a w:=hst
 refine zt<|gl (sts:=[none]) (news:=[]) (sp:=[.val 31 _,.val 32 _]) [.g 0,.g 1] hst (zv rfl (za2 (zbc (lz0 0 rfl))) (zv rfl (za5 (xs:=[.tmp 31]) (zwg vr (filL L)) (.cons (vq 0 rfl) .nil)) o0)) (fun a w hst=>?_)
 have hst:St B w0 129 [(0,_),(2,_)] [⟨0,59,ptrH,_⟩] a w:=hst
 refine zt<|gl (sts:=[none]) (news:=[]) (sp:=[.val 33 _,.val 34 _]) [.g 0,.g 1] hst (zv rfl (za2 (zbc (lz0 0 rfl))) (zv rfl (za5 (xs:=[.tmp 33]) (zp7 vr (filL L)) (.cons (vq 0 rfl) .nil)) o0)) (fun a w hst=>?_)
 have hst:St B w0 129 [(0,_),(2,_)] [⟨0,59,ptrH,_⟩] a w:=hst
 refine zt<|zch (sp:=[.val 35 _,.val 36 VT]) 1 1 99 1 OneC [.g 0,.g 1,.o 0] hst (zv rfl (za2 (gq 0 rfl)) o0) rfl zd zk zk (fun a w hst=>?_)
 have hst:St B w0 129 [(0,_),(2,_),(35,_)] [⟨0,59,ptrH,_⟩] a w:=hst
 rw [show List.range' 1 1=[1] from rfl]
 rw [wpOps_cons]
 refine zdp (A1:=GkA vr (filL L)) [0,1] [] 0 rfl hst (grow_c vr (filL L) (znw hnew) (by rw [List.length_map]; exact hl)) rfl (Eq.trans (b:=ptr g) (hst.vals _ (zm 2 rfl)) (Eq.symm (hst.vals _ (zm 0 rfl)))) .nil rfl hrm zd zk zk zk zk (fun a w hst=>?_)
 refine zc5 ?_
 have hst:St B w0 129 [(36,_),(0,_),(2,_)] [⟨0,59,ptrH,GkA vr (filL L)⟩] a w:=hst
 obtain ⟨M,hG,hst⟩:=gk_st hst 0 rfl
 have hdone:=gr_done hG (znw hnew)
 have hlM:M.length≤1000000:=by rw [hG.1,List.length_map]; exact hl
 have hst:St B w0 129 [(36,_),(0,_),(2,_)] [⟨0,59,ptrH,BkA vr M⟩] a w:=hst
 refine zt<|gl (sts:=[none]) (news:=[]) (sp:=[.val 37 _,.val 38 _]) [.g 1,.g 2] hst (zv rfl (za2 (zbc (lz0 0 rfl))) (zv rfl (za5 (xs:=[.tmp 37]) (zns vr M) (.cons (vq 0 rfl) .nil)) o0)) (fun a w hst=>?_)
 have hst:St B w0 129 [(0,_),(2,_)] [⟨0,59,ptrH,_⟩] a w:=hst
 refine zt<|gl (sts:=[none]) (news:=[]) (sp:=[.val 39 _,.val 40 _]) [.g 0,.g 1] hst (zv rfl (za2 (zbc (lz0 0 rfl))) (zv rfl (za5 (xs:=[.tmp 39]) (zp4 vr M) (.cons (vq 0 rfl) .nil)) o0)) (fun a w hst=>?_)
 have hst:St B w0 129 [(0,_),(2,_)] [⟨0,59,ptrH,_⟩] a w:=hst
 refine zt<|gl (sts:=[none]) (news:=[]) (sp:=[.val 41 _,.val 42 _]) [.g 0,.g 1] hst (zv rfl (za2 (zbc (lz0 0 rfl))) (zv rfl (za5 (xs:=[.tmp 41]) (zm1 vr M) (.cons (vq 0 rfl) .nil)) o0)) (fun a w hst=>?_)
 have hst:St B w0 129 [(0,_),(2,_)] [⟨0,59,ptrH,_⟩] a w:=hst
 refine zt<|gl (sts:=[none]) (news:=[]) (sp:=[.val 43 _,.val 44 _]) [.g 0,.g 1] hst (zv rfl (za2 (zbc (lz0 0 rfl))) (zv rfl (za5 (xs:=[.tmp 43]) (zs9 vr M) (.cons (vq 0 rfl) .nil)) o0)) (fun a w hst=>?_)
 have hst:St B w0 129 [(0,_),(2,_)] [⟨0,59,ptrH,_⟩] a w:=hst
 refine zt<|gl (sts:=[none]) (news:=[]) (sp:=[.val 45 _,.val 46 _]) [.g 0,.g 1] hst (zv rfl (za2 (zbc (lz0 0 rfl))) (zv rfl (za5 (xs:=[.tmp 45]) (zsc vr M) (.cons (vq 0 rfl) .nil)) o0)) (fun a w hst=>?_)
 have hst:St B w0 129 [(0,_),(2,_)] [⟨0,59,ptrH,_⟩] a w:=hst
 refine zt<|gl (sts:=[none]) (news:=[]) (sp:=[.val 47 _,.val 48 _]) [.g 0,.g 1] hst (zv rfl (za2 (zbc (lz0 0 rfl))) (zv rfl (za5 (xs:=[.tmp 47]) (zp3 vr M) (.cons (vq 0 rfl) .nil)) o0)) (fun a w hst=>?_)
 have hst:St B w0 129 [(0,_),(2,_)] [⟨0,59,ptrH,_⟩] a w:=hst
 refine zt<|gl (sts:=[none]) (news:=[]) (sp:=[.val 49 _,.val 50 _]) [.g 0,.g 1] hst (zv rfl (za2 (zbc (lz0 0 rfl))) (zv rfl (za5 (xs:=[.tmp 49]) (zw8 vr M) (.cons (vq 0 rfl) .nil)) o0)) (fun a w hst=>?_)
 have hst:St B w0 129 [(0,_),(2,_)] [⟨0,59,ptrH,_⟩] a w:=hst
 refine zt<|gl (sts:=[none]) (news:=[]) (sp:=[.val 51 _,.val 52 _]) [.g 0,.g 1] hst (zv rfl (za2 (zbc (lz0 0 rfl))) (zv rfl (za5 (xs:=[.tmp 51]) (zm0 vr M) (.cons (vq 0 rfl) .nil)) o0)) (fun a w hst=>?_)
 have hst:St B w0 129 [(0,_),(2,_)] [⟨0,59,ptrH,_⟩] a w:=hst
 refine zt<|gl (sts:=[none]) (news:=[]) (sp:=[.val 53 _,.val 54 _]) [.g 0,.g 1] hst (zv rfl (za2 (zbc (lz0 0 rfl))) (zv rfl (za5 (xs:=[.tmp 53]) (zse vr M) (.cons (vq 0 rfl) .nil)) o0)) (fun a w hst=>?_)
 have hst:St B w0 129 [(0,_),(2,_)] [⟨0,59,ptrH,_⟩] a w:=hst
 refine zt<|gl (sts:=[none]) (news:=[]) (sp:=[.val 55 _,.val 56 _]) [.g 0,.g 1] hst (zv rfl (za2 (zbc (lz0 0 rfl))) (zv rfl (za5 (xs:=[.tmp 55]) (zsd vr M) (.cons (vq 0 rfl) .nil)) o0)) (fun a w hst=>?_)
 have hst:St B w0 129 [(0,_),(2,_)] [⟨0,59,ptrH,_⟩] a w:=hst
 refine zt<|gl (sts:=[none]) (news:=[]) (sp:=[.val 57 _,.val 58 _]) [.g 0,.g 1] hst (zv rfl (za2 (zbc (lz0 0 rfl))) (zv rfl (za5 (xs:=[.tmp 57]) (zsa vr M) (.cons (vq 0 rfl) .nil)) o0)) (fun a w hst=>?_)
 have hst:St B w0 129 [(0,_),(2,_)] [⟨0,59,ptrH,_⟩] a w:=hst
 refine zt<|gl (sts:=[none]) (news:=[]) (sp:=[.val 59 _,.val 60 _]) [.g 0,.g 1] hst (zv rfl (za2 (zbc (lz0 0 rfl))) (zv rfl (za5 (xs:=[.tmp 59]) (zw9 vr M) (.cons (vq 0 rfl) .nil)) o0)) (fun a w hst=>?_)
 have hst:St B w0 129 [(0,_),(2,_)] [⟨0,59,ptrH,_⟩] a w:=hst
 refine zt<|gl (sts:=[none]) (news:=[]) (sp:=[.val 61 _,.val 62 _]) [.g 0,.g 1] hst (zv rfl (za2 (zbc (lz0 0 rfl))) (zv rfl (za5 (xs:=[.tmp 61]) (zsb vr M) (.cons (vq 0 rfl) .nil)) o0)) (fun a w hst=>?_)
 have hst:St B w0 129 [(0,_),(2,_)] [⟨0,59,ptrH,_⟩] a w:=hst
 refine zt<|gl (sts:=[none]) (news:=[]) (sp:=[.val 63 _,.val 64 _]) [.g 0,.g 1] hst (zv rfl (za2 (zbc (lz0 0 rfl))) (zv rfl (za5 (xs:=[.tmp 63]) (zwa vr M) (.cons (vq 0 rfl) .nil)) o0)) (fun a w hst=>?_)
 have hst:St B w0 129 [(0,_),(2,_)] [⟨0,59,ptrH,_⟩] a w:=hst
 refine zt<|gl (sts:=[none]) (news:=[]) (sp:=[.val 65 _,.val 66 _]) [.g 0,.g 1] hst (zv rfl (za2 (zbc (lz0 0 rfl))) (zv rfl (za5 (xs:=[.tmp 65]) (zp2 vr M) (.cons (vq 0 rfl) .nil)) o0)) (fun a w hst=>?_)
 have hst:St B w0 129 [(0,_),(2,_)] [⟨0,59,ptrH,_⟩] a w:=hst
 refine zt<|gl (sts:=[none]) (news:=[]) (sp:=((.val 67 _:Sp)::(.val 68 _)::(.val 69 _)::(.val 70 (Wh (_=true) _))::(.val 71 (Wh (_=true) _))::(.val 72 _)::(.val 73 _)::(.val 74 (Wh (_=true) _))::(.val 75 (Wh (_=true) _))::(.val 76 _)::(.val 77 _)::(.val 78 (Wh (_=true) _))::(.val 79 (Wh (_=true) _))::(.val 80 _)::(.val 81 _)::(.val 82 (Wh (_=true) _))::(.val 83 (Wh (_=true) _))::(.val 84 _)::(.val 85 _)::(.val 86 (Wh (_=true) _))::(.val 87 (Wh (_=true) _))::(.val 88 _)::(.val 89 _)::(.val 90 (Wh (_=true) _))::(.val 91 (Wh (_=true) _))::(.val 92 _)::(.val 93 _)::(.val 94 (Wh (_=true) _))::(.val 95 (Wh (_=true) _))::(.val 96 _)::(.val 97 _)::(.val 98 (Wh (_=true) _))::(.val 99 (Wh (_=true) _))::(.val 100 _)::(.val 101 _)::(.val 102 (Wh (_=true) _))::(.val 103 (Wh (_=true) _))::(.val 104 _)::(.val 105 _)::(.val 106 (Wh (_=true) _))::(.val 107 (Wh (_=true) _))::(.val 108 _)::(.val 109 _)::(.val 110 (Wh (_=true) _))::(.val 111 (Wh (_=true) _))::(.val 112 _)::(.val 113 _)::(.val 114 (Wh (_=true) _))::(.val 115 (Wh (_=true) _))::(.val 116 _)::(.val 117 _)::(.val 118 (Wh (_=true) _))::(.val 119 (Wh (_=true) _))::(.val 120 _)::(.val 121 _)::(.val 122 (Wh (_=true) _))::(.val 123 (Wh (_=true) _))::(.val 124 _)::(.val 125 _)::(.val 126 (Wh (_=true) _))::(.val 127 (Wh (_=true) _))::(.val 128 _)::(.val 2 _)::[])) [.g 0,.o 62] hst (zv rfl (za2 (zbc (lz0 0 rfl))) (zv rfl (za5 (xs:=[.tmp 67]) (look_c vr M hdone hlM) (.cons (vq 0 rfl) .nil)) (zv rfl (za2 (vq 1 rfl)) (oc (zad rfl rfl rfl (vq 2 rfl) nq (fun hg=>za2 (zbc (lz0 0 rfl)))) (oc (zad rfl rfl rfl (vq 2 rfl) nq (fun hg=>za5 (xs:=[.tmp 70]) (znm vr M) (.cons (za9 (vq 3 rfl) hg) .nil))) (zv rfl (zcm (vq 2 rfl) (vq 4 rfl)) (zv rfl (za2 (vq 5 rfl)) (oc (zad rfl rfl rfl (vq 6 rfl) nq (fun hg=>za2 (zbc (lz0 0 rfl)))) (oc (zad rfl rfl rfl (vq 6 rfl) nq (fun hg=>za5 (xs:=[.tmp 74]) (zoy vr M) (.cons (za9 (vq 7 rfl) hg) .nil))) (zv rfl (zcm (vq 6 rfl) (vq 8 rfl)) (zv rfl (za2 (vq 9 rfl)) (oc (zad rfl rfl rfl (vq 10 rfl) nq (fun hg=>za2 (zbc (lz0 0 rfl)))) (oc (zad rfl rfl rfl (vq 10 rfl) nq (fun hg=>za5 (xs:=[.tmp 78]) (zlx vr M) (.cons (za9 (vq 11 rfl) hg) .nil))) (zv rfl (zcm (vq 10 rfl) (vq 12 rfl)) (zv rfl (za2 (vq 13 rfl)) (oc (zad rfl rfl rfl (vq 14 rfl) nq (fun hg=>za2 (zbc (lz0 0 rfl)))) (oc (zad rfl rfl rfl (vq 14 rfl) nq (fun hg=>za5 (xs:=[.tmp 82]) (zs0 vr M) (.cons (za9 (vq 15 rfl) hg) .nil))) (zv rfl (zcm (vq 14 rfl) (vq 16 rfl)) (zv rfl (za2 (vq 17 rfl)) (oc (zad rfl rfl rfl (vq 18 rfl) nq (fun hg=>za2 (zbc (lz0 0 rfl)))) (oc (zad rfl rfl rfl (vq 18 rfl) nq (fun hg=>za5 (xs:=[.tmp 86]) (zs5 vr M) (.cons (za9 (vq 19 rfl) hg) .nil))) (zv rfl (zcm (vq 18 rfl) (vq 20 rfl)) (zv rfl (za2 (vq 21 rfl)) (oc (zad rfl rfl rfl (vq 22 rfl) nq (fun hg=>za2 (zbc (lz0 0 rfl)))) (oc (zad rfl rfl rfl (vq 22 rfl) nq (fun hg=>za5 (xs:=[.tmp 90]) (zox vr M) (.cons (za9 (vq 23 rfl) hg) .nil))) (zv rfl (zcm (vq 22 rfl) (vq 24 rfl)) (zv rfl (za2 (vq 25 rfl)) (oc (zad rfl rfl rfl (vq 26 rfl) nq (fun hg=>za2 (zbc (lz0 0 rfl)))) (oc (zad rfl rfl rfl (vq 26 rfl) nq (fun hg=>za5 (xs:=[.tmp 94]) (zvx vr M) (.cons (za9 (vq 27 rfl) hg) .nil))) (zv rfl (zcm (vq 26 rfl) (vq 28 rfl)) (zv rfl (za2 (vq 29 rfl)) (oc (zad rfl rfl rfl (vq 30 rfl) nq (fun hg=>za2 (zbc (lz0 0 rfl)))) (oc (zad rfl rfl rfl (vq 30 rfl) nq (fun hg=>za5 (xs:=[.tmp 98]) (zlw vr M) (.cons (za9 (vq 31 rfl) hg) .nil))) (zv rfl (zcm (vq 30 rfl) (vq 32 rfl)) (zv rfl (za2 (vq 33 rfl)) (oc (zad rfl rfl rfl (vq 34 rfl) nq (fun hg=>za2 (zbc (lz0 0 rfl)))) (oc (zad rfl rfl rfl (vq 34 rfl) nq (fun hg=>za5 (xs:=[.tmp 102]) (zs7 vr M) (.cons (za9 (vq 35 rfl) hg) .nil))) (zv rfl (zcm (vq 34 rfl) (vq 36 rfl)) (zv rfl (za2 (vq 37 rfl)) (oc (zad rfl rfl rfl (vq 38 rfl) nq (fun hg=>za2 (zbc (lz0 0 rfl)))) (oc (zad rfl rfl rfl (vq 38 rfl) nq (fun hg=>za5 (xs:=[.tmp 106]) (zs6 vr M) (.cons (za9 (vq 39 rfl) hg) .nil))) (zv rfl (zcm (vq 38 rfl) (vq 40 rfl)) (zv rfl (za2 (vq 41 rfl)) (oc (zad rfl rfl rfl (vq 42 rfl) nq (fun hg=>za2 (zbc (lz0 0 rfl)))) (oc (zad rfl rfl rfl (vq 42 rfl) nq (fun hg=>za5 (xs:=[.tmp 110]) (zs3 vr M) (.cons (za9 (vq 43 rfl) hg) .nil))) (zv rfl (zcm (vq 42 rfl) (vq 44 rfl)) (zv rfl (za2 (vq 45 rfl)) (oc (zad rfl rfl rfl (vq 46 rfl) nq (fun hg=>za2 (zbc (lz0 0 rfl)))) (oc (zad rfl rfl rfl (vq 46 rfl) nq (fun hg=>za5 (xs:=[.tmp 114]) (zvy vr M) (.cons (za9 (vq 47 rfl) hg) .nil))) (zv rfl (zcm (vq 46 rfl) (vq 48 rfl)) (zv rfl (za2 (vq 49 rfl)) (oc (zad rfl rfl rfl (vq 50 rfl) nq (fun hg=>za2 (zbc (lz0 0 rfl)))) (oc (zad rfl rfl rfl (vq 50 rfl) nq (fun hg=>za5 (xs:=[.tmp 118]) (zs4 vr M) (.cons (za9 (vq 51 rfl) hg) .nil))) (zv rfl (zcm (vq 50 rfl) (vq 52 rfl)) (zv rfl (za2 (vq 53 rfl)) (oc (zad rfl rfl rfl (vq 54 rfl) nq (fun hg=>za2 (zbc (lz0 0 rfl)))) (oc (zad rfl rfl rfl (vq 54 rfl) nq (fun hg=>za5 (xs:=[.tmp 122]) (zvz vr M) (.cons (za9 (vq 55 rfl) hg) .nil))) (zv rfl (zcm (vq 54 rfl) (vq 56 rfl)) (zv rfl (za2 (vq 57 rfl)) (oc (zad rfl rfl rfl (vq 58 rfl) nq (fun hg=>za2 (zbc (lz0 0 rfl)))) (oc (zad rfl rfl rfl (vq 58 rfl) nq (fun hg=>za5 (xs:=[.tmp 126]) (zow vr M) (.cons (za9 (vq 59 rfl) hg) .nil))) (zv rfl (zcm (vq 58 rfl) (vq 60 rfl)) (zv rfl (za1 (vq 61 rfl)) o0))))))))))))))))))))))))))))))))))))))))))))))))))))))))))))))) (fun a w hst=>?_)
 have hst:St B w0 129 [(0,_),(2,_)] [⟨0,59,ptrH,_⟩] a w:=hst
 have hst:=St.wkL (A':=GkA vr (filL L)) hst 0 rfl (gk_of hG)
 refine za0 ?_
 refine wp_ret ?_
 refine zf3 hst (zm 0 rfl) (zm 0 rfl) ?_
 exact zai rfl hst (zm 1 rfl)
end Go.Proofs.YthncfchnkjemiaaGreatDoor
namespace Go.Proofs.YthncfchnkjemiaaGreatDoor
open Go Go.RowKit
section
open Rg
variable {P:Program} {Q:Exit→Act→World→Prop} {B N:Nat} {w0:Bs} {Γ:List (Nat × VA)} {Λ:List Lc} {a:Act} {w:World}
theorem inv_stL {R:Rg}{n:Nat}{L:Nat→Bool}(hL:∀ i,n≤i→L i=false)(hles:∀ l'∈Λ,∃ st,(⟨l'.s,l'.T,l'.H,none,l'.A,st⟩:Le)∈R.les)(hles2:∀ y∈R.les,∀ i A,y.st=some (i,A)→n≤i)(hinv:R.Inv B w0 L a w)(src:List Src)
  (hsrc:src.all (fun s=>match s with | .g k=>(match R.Γ[k]? with | some x=>Rg.outG R x.1 | none=>false) | .o i=>L i)=true):St B w0 R.N (src.filterMap (takeS R)) Λ a w:=by
 have hcl:∀ deps,Rg.clash R L deps=false:=fun deps=>by
  unfold Rg.clash
  rw [List.any_eq_false]
  intro y hy
  cases hst:y.st with
  | none=>simp
  | some x =>
   obtain ⟨i,B'⟩:=x
   have:=hles2 y hy i B' hst
   have hno:=hL i zo
   simp [hno]
 have hcur:∀ y∈R.les,y.cr=none→Rg.cur L y=some y.A0:=fun y hy h0=>by
  unfold Rg.cur
  rw [h0]
  simp only [Rg.crOk,if_true]
  cases hst:y.st with
  | none=>rfl
  | some x =>
   obtain ⟨i,B'⟩:=x
   have:=hles2 y hy i B' hst
   have hno:=hL i zo
   simp [hno]
 refine ⟨hinv.lo,hinv.defers,hinv.size,hinv.base,fun x hx=>?_,fun l' hl'=>?_,fun l1 h1 l2 h2 hne=>?_⟩
 rotate_left
 ·obtain ⟨st,hy⟩:=hles l' hl'
  exact hinv.c _ hy l'.A (hcur _ hy rfl)
 ·obtain ⟨s1,hy1⟩:=hles l1 h1
  obtain ⟨s2,hy2⟩:=hles l2 h2
  exact hinv.x _ hy1 _ hy2 hne (by rw [hcur _ hy1 rfl]; rfl) (by rw [hcur _ hy2 rfl]; rfl)
 obtain ⟨s,hs1,hs2⟩:=List.mem_filterMap.1 hx
 have ho:=List.all_eq_true.1 hsrc s hs1
 cases s with
 | g k =>
  simp only [takeS] at hs2
  simp only [hs2] at ho
  refine hinv.g x (List.mem_of_getElem? hs2) (fun q hq hdq=>?_) (hcl _)
  cases h2:R.ops[q]? with
  | none=>unfold Rg.dst at hdq; rw [h2] at hdq; cases hdq
  | some v =>
   have:=List.all_eq_true.1 ho q (by simpa using (Array.getElem?_eq_some_iff.1 h2).1)
   exact absurd hdq (by simpa using this)
 | o i =>
  simp only [takeS] at hs2
  cases hy:R.sp[i]? with
  | none=>rw [hy] at hs2; cases hs2
  | some y =>
   rw [hy] at hs2
   exact hinv.v i y x.1 x.2 hy hs2 ho (hcl _)
end
section
variable {P:Program} {R:Rg} {Q:Exit→Act→World→Prop} {B:Nat} {w0:Bs} {a:Act} {w:World}
open Rg in
theorem Rg.drawZ {id:Nat}{Λ:List Lc}{n m:Nat}(z:Nat)(hz:z<n)(hsz2:R.ops.size=n+m)(hm0:0<m)(hm:P.follows .mixedOrders=true)(hanc:ancOk R=true)(hk:R.chk=true)(h:St B w0 R.N R.Γ Λ a w)(hles:∀ e∈R.les,e.cr=none→(⟨e.s,e.T,e.H,e.A0⟩:Lc)∈Λ)
  (hob:∀ i,i<n→R.Ob P Q B w0 i) (ha0:∀ j,j<n→j≠z→(R.anc n).contains j=true) (ha1:∀ i,n<i→i<n+m→∀ j,j<i→(R.anc i).contains j=true)
  (hQ:∀ a w,R.Inv B w0 (fun k=>decide (k<n)) a w→wpOps P R.ops Q (List.range' n m) a w) (hQz:∀ a w,R.Inv B w0 (fun k=>decide (k<n)&&k != z) a w→wpOps P R.ops Q (n::z::List.range' (n+1) (m-1)) a w) :
  (Code.region id R.ops true).wp P Q a w:=by
 refine wp_region_any hm ?_
 have ho:∀ i,i<R.ops.size→∃ o:Oper,R.ops[i]?=some o∧(∀ j,(R.anc i).contains j=true→∃ e∈o.after,Region.binds .any e=true∧(e.on=j∨(R.anc e.on).contains j=true)) ∧
   ∀ e∈o.after,Region.binds .any e=true→e.on<i:=by
  intro i hi
  have:=List.all_eq_true.1 hanc i (by simpa using hi)
  cases hoi:R.ops[i]? with
  | none=>rw [hoi] at this; cases this
  | some o =>
   rw [hoi] at this
   simp only [Bool.and_eq_true] at this
   refine ⟨o,rfl,fun j hj=>?_,fun e he hb=>?_⟩
   ·have hh:=List.all_eq_true.1 this.1 j (by simpa using hj)
    obtain ⟨e,he,h1⟩:=Array.any_eq_true'.1 hh
    simp only [Bool.and_eq_true,Bool.or_eq_true,beq_iff_eq] at h1
    exact ⟨e,he,h1.1,h1.2⟩
   ·have hh:=Array.all_eq_true'.1 this.2 e he
    simpa [hb] using hh
 have hrd:∀ (listed:Array Bool) i,i∈Region.ready .any R.ops listed→i<R.ops.size∧listed.getD i true=false∧∀ o,R.ops[i]?=some o→∀ e∈o.after,Region.binds .any e=true→listed.getD e.on false=true:=by
  intro listed i hi
  unfold Region.ready at hi
  obtain ⟨h1,h2⟩:=List.mem_filter.1 hi
  simp only [Bool.and_eq_true,Bool.not_eq_true'] at h2
  refine ⟨by simpa using h1,h2.1,fun o hoi e he hb=>?_⟩
  have h3:=h2.2
  rw [hoi] at h3
  simp only [Option.map_some,Option.getD_some] at h3
  have:=Array.all_eq_true'.1 h3 e he
  simpa [hb] using this
 have hset:∀ (listed:Array Bool) (i k:Nat),listed.size=R.ops.size→i<R.ops.size→(listed.setIfInBounds i true).getD k false=upd (fun i=>listed.getD i false) i k:=by
  intro listed i k hsz hi
  unfold upd
  by_cases hki:k=i
  ·subst hki
   simp [hsz,hi]
  ·simp [hki,Array.getElem?_setIfInBounds_ne (fun e=>hki e.symm)]
 have hpos:∀ (listed:Array Bool) (i:Nat),i<R.ops.size→listed.getD i false=false→0<(List.range R.ops.size).countP (fun k => !listed.getD k false):=fun listed i hi hl =>
  List.countP_pos_iff.2 ⟨i,by simpa using hi,by simp only [hl]; rfl⟩
 have hlt:∀ (listed:Array Bool) (i:Nat),listed.size=R.ops.size→i<R.ops.size→listed.getD i false=false→(List.range R.ops.size).countP (fun k => !(listed.setIfInBounds i true).getD k false)<(List.range R.ops.size).countP (fun k => !listed.getD k false):=by
  intro listed i hsz hi hLi
  refine zf7 (x:=i) (fun x hx=>?_) (by simpa using hi) (by rw [hLi]; rfl) (by rw [hset listed i i hsz hi,zck]; rfl)
  have hx':upd (fun i=>listed.getD i false) i x=false:=by
   rw [← hset listed i x hsz hi]
   simpa only [Bool.not_eq_true'] using hx
  rw [(ze7 hx').2]
  rfl
 have hfull:∀ (listed:Array Bool),listed.size=R.ops.size→Region.ready .any R.ops listed=[]→∀ k,k<R.ops.size→listed.getD k false=true:=by
  intro listed hsz hr k
  induction k using Nat.strongRecOn with
  | _ k ih =>
   intro hkn
   cases hl:listed.getD k false with
   | true=>rfl
   | false =>
    exfalso
    obtain ⟨x,ho1,_,ho3⟩:=ho k hkn
    have:k∈Region.ready .any R.ops listed:=by
     unfold Region.ready
     refine List.mem_filter.2 ⟨by simpa using hkn,?_⟩
     have h0:listed.getD k true=false:=by
      simp only [Array.getD,hsz,hkn,dite_true] at hl ⊢
      exact hl
     rw [h0,ho1]
     simp only [Bool.not_false,Bool.true_and,Option.map_some,Option.getD_some]
     refine Array.all_eq_true'.2 fun e he=>?_
     cases hb:Region.binds .any e with
     | false=>rfl
     | true=>simpa using ih e.on (ho3 e he hb) (Nat.lt_trans (ho3 e he hb) hkn)
    rw [hr] at this
    cases this
 have hancL:∀ (listed:Array Bool) i,Closed R (fun i=>listed.getD i false)→i∈Region.ready .any R.ops listed→∀ j,(R.anc i).contains j=true→listed.getD j false=true:=by
  intro listed i hcl hir j hj
  obtain ⟨h1,h2,h3⟩:=hrd listed i hir
  obtain ⟨x,ho1,ho2,_⟩:=ho i h1
  obtain ⟨e,he,hb,hj'⟩:=ho2 j hj
  have hl:=h3 x ho1 e he hb
  rcases hj' with rfl | hj'
  ·exact hl
  ·exact hcl e.on hl j hj'
 have hclN:∀ (listed:Array Bool) i,listed.size=R.ops.size→Closed R (fun i=>listed.getD i false)→i∈Region.ready .any R.ops listed→Closed R (fun k=>(listed.setIfInBounds i true).getD k false):=by
  intro listed i hsz hcl hir k hk' j hj
  obtain ⟨h1,_,_⟩:=hrd listed i hir
  have hk2:upd (fun i=>listed.getD i false) i k=true:=by rw [← hset listed i k hsz h1]; exact hk'
  show (listed.setIfInBounds i true).getD j false=true
  rw [hset listed i j hsz h1]
  rcases znd hk2 with rfl | h4
  ·exact zdm _ (hancL listed k hcl hir j hj)
  ·exact zdm _ (hcl k h4 j hj)
 have tail:∀ q k,k+q=n+m→n≤k→∀ fuel (listed:Array Bool) a w,listed.size=R.ops.size→(List.range R.ops.size).countP (fun i => !listed.getD i false)≤fuel→Closed R (fun i=>listed.getD i false) →
   (∀ j,j<k→listed.getD j false=true)→(∀ j,k≤j→j<n+m→listed.getD j false=false)→wpOps P R.ops Q (List.range' k q) a w→wpAny P .any R.ops Q fuel listed a w:=by
  intro q
  induction q with
  | zero =>
   intro k hkq hnk fuel listed a w hsz hcnt hcl hall _ hwp
   have hr:Region.ready .any R.ops listed=[]:=by
    cases hrr:Region.ready .any R.ops listed with
    | nil=>rfl
    | cons i rest =>
     obtain ⟨h1,h2,_⟩:=hrd listed i (by rw [hrr]; simp)
     have:=hall i zo
     simp only [Array.getD,hsz,h1,dite_true] at h2 this
     rw [h2] at this
     cases this
   cases fuel with
   | zero=>exact ⟨hr,hwp⟩
   | succ fuel=>exact ⟨fun _=>hwp,fun i hir=>by rw [hr] at hir; cases hir⟩
  | succ q ih =>
   intro k hkq hnk fuel listed a w hsz hcnt hcl hall hnone hwp
   have hLk:listed.getD k false=false:=hnone k (Nat.le_refl _) zo
   have hp:=hpos listed k zo hLk
   cases fuel with
   | zero=>omega
   | succ fuel =>
    refine ⟨fun hr=>absurd (hfull listed hsz hr k zo) (by rw [hLk]; decide),fun i hir=>?_⟩
    obtain ⟨h1,h2,h3⟩:=hrd listed i hir
    have hik:i=k:=by
     by_cases e:i=k
     ·exact e
     ·exfalso
      by_cases hlt':i<k
      ·have:=hall i hlt'
       simp only [Array.getD,hsz,h1,dite_true] at h2 this
       rw [h2] at this
       cases this
      ·have:=hancL listed i hcl hir k (ha1 i zo zo k zo)
       rw [hLk] at this
       cases this
    subst hik
    rw [List.range'_succ,wpOps_cons] at hwp
    refine wpOp_mono (fun a' w' hr=>ih (i+1) zo zo fuel _ a' w' (by simpa using hsz) ?_ (hclN listed i hsz hcl hir) (fun j hj=>?_) (fun j hj hj2=>?_) hr) hwp
    ·have:=hlt listed i hsz h1 hLk
     omega
    ·rw [hset listed i j hsz h1]
     by_cases e:j=i
     ·rw [e]; exact zck _ _
     ·exact zdm _ (hall j zo)
    ·rw [hset listed i j hsz h1,zdt _ zo]
     exact hnone j zo hj2
 have tailz:∀ fuel (listed:Array Bool) a w,listed.size=R.ops.size→(List.range R.ops.size).countP (fun i => !listed.getD i false)≤fuel→Closed R (fun i=>listed.getD i false) →
   (∀ j,j<n→j≠z→listed.getD j false=true)→listed.getD z false=false→listed.getD n false=true→(∀ j,n+1≤j→j<n+m→listed.getD j false=false)→wpOps P R.ops Q (z::List.range' (n+1) (m-1)) a w→wpAny P .any R.ops Q fuel listed a w:=by
  intro fuel listed a w hsz hcnt hcl hall hzf hnt hnone hwp
  have hp:=hpos listed z zo hzf
  cases fuel with
  | zero=>omega
  | succ fuel =>
   refine ⟨fun hr=>absurd (hfull listed hsz hr z zo) (by rw [hzf]; decide),fun i hir=>?_⟩
   obtain ⟨h1,h2,h3⟩:=hrd listed i hir
   have hLi:listed.getD i false=false:=by
    simp only [Array.getD,hsz,h1,dite_true] at h2 ⊢
    exact h2
   have hiz:i=z:=by
    by_cases e:i=z
    ·exact e
    ·exfalso
     by_cases hlt':i<n
     ·rw [hall i hlt' e] at hLi; cases hLi
     ·by_cases e2:i=n
      ·rw [e2,hnt] at hLi; cases hLi
      ·have:=hancL listed i hcl hir z (ha1 i zo zo z zo)
       rw [hzf] at this
       cases this
   subst hiz
   rw [wpOps_cons] at hwp
   refine wpOp_mono (fun a' w' hr=>tail (m-1) (n+1) zo zo fuel _ a' w' (by simpa using hsz) ?_ (hclN listed i hsz hcl hir) (fun j hj=>?_) (fun j hj hj2=>?_) hr) hwp
   ·have:=hlt listed i hsz h1 hLi
    omega
   ·rw [hset listed i j hsz h1]
    by_cases e:j=i
    ·rw [e]; exact zck _ _
    ·by_cases e2:j=n
     ·rw [e2]; exact zdm _ hnt
     ·exact zdm _ (hall j zo e)
   ·rw [hset listed i j hsz h1,zdt _ zo]
    exact hnone j zo hj2
 have key:∀ fuel (listed:Array Bool) a w,listed.size=R.ops.size→(List.range R.ops.size).countP (fun i => !listed.getD i false)≤fuel→Closed R (fun i=>listed.getD i false) →
   (∀ j,n≤j→j<n+m→listed.getD j false=false)→R.Inv B w0 (fun i=>listed.getD i false) a w→wpAny P .any R.ops Q fuel listed a w:=by
  intro fuel
  induction fuel with
  | zero =>
   intro listed a w hsz hcnt hcl hn0 hi
   have:=hpos listed n zo (hn0 n (Nat.le_refl _) zo)
   omega
  | succ fuel ih =>
   intro listed a w hsz hcnt hcl hn0 hi
   have hn00:=hn0 n (Nat.le_refl _) zo
   by_cases hdone:∀ j,j<n→listed.getD j false=true
   ·refine tail m n rfl (Nat.le_refl _) (fuel+1) listed a w hsz hcnt hcl hdone hn0 (hQ a w (hi.congr fun k=>?_))
    by_cases hkn:k<n
    ·rw [hdone k hkn]; simp [hkn]
    ·by_cases hkm:k<n+m
     ·rw [hn0 k zo hkm]; simp [hkn]
     ·have:listed.getD k false=false:=by simp [Array.getD,hsz,hsz2,hkm]
      rw [this]; simp [hkn]
   ·refine ⟨fun hr=>absurd (hfull listed hsz hr n zo) (by rw [hn00]; decide),fun i hir=>?_⟩
    obtain ⟨h1,h2,h3⟩:=hrd listed i hir
    have hLi:listed.getD i false=false:=by
     simp only [Array.getD,hsz,h1,dite_true] at h2 ⊢
     exact h2
    by_cases hin:i<n
    ·refine step hk (hob i hin) hi hcl hLi (hancL listed i hcl hir) _ fun a' w' hi'=>ih _ _ _ (by simpa using hsz) ?_ (hclN listed i hsz hcl hir) ?_ (hi'.congr fun k=>hset listed i k hsz h1)
     ·have:=hlt listed i hsz h1 hLi
      omega
     ·intro j hj hj2
      rw [hset listed i j hsz h1,zdt _ zo]
      exact hn0 j hj hj2
    ·by_cases hgt:n<i
     ·exact absurd (fun j hj=>hancL listed i hcl hir j (ha1 i hgt zo j zo)) hdone
     ·have hin':i=n:=by omega
      have hjs:∀ j,j<n→j≠z→listed.getD j false=true:=fun j hj hne=>hancL listed i hcl hir j (by rw [hin']; exact ha0 j hj hne)
      have hzf:listed.getD z false=false:=by
       cases hh:listed.getD z false with
       | false=>rfl
       | true=>exact absurd (fun j hj=>if e:j=z then e▸hh else hjs j hj e) hdone
      have hwp:=hQz a w (hi.congr fun k=>by
       by_cases hkn:k<n
       ·by_cases hkz:k=z
        ·subst hkz; rw [hzf]; simp
        ·rw [hjs k hkn hkz]; simp [hkn,hkz]
       ·by_cases hkm:k<n+m
        ·rw [hn0 k zo hkm]; simp [hkn]
        ·have:listed.getD k false=false:=by simp [Array.getD,hsz,hsz2,hkm]
         rw [this]; simp [hkn])
      rw [wpOps_cons] at hwp
      rw [hin']
      rw [hin'] at hir hLi h1
      refine wpOp_mono (fun a' w' hr=>tailz fuel _ a' w' (by simpa using hsz) ?_ (hclN listed n hsz hcl hir) (fun j hj hne=>?_) ?_ ?_ (fun j hj hj2=>?_) hr) hwp
      ·have:=hlt listed n hsz h1 hLi
       omega
      ·rw [hset listed n j hsz h1]; exact zdm _ (hjs j hj hne)
      ·rw [hset listed n z hsz h1,zdt _ zo]; exact hzf
      ·rw [hset listed n n hsz h1]; exact zck _ _
      ·rw [hset listed n j hsz h1,zdt _ zo]; exact hn0 j zo hj2
 refine key _ _ a _ (by simp) ?_ ?_ ?_ ?_
 ·refine Nat.le_trans (List.countP_le_length) (by simp)
 ·intro i hi
  exfalso
  simp only [Array.getD,Array.size_replicate] at hi
  split at hi <;> simp at hi
 ·intro j hj hj2
  simp only [Array.getD,Array.size_replicate]
  split <;> simp
 ·have hs:=start h hles
  have hd:R.Inv B w0 (fun _=>false) a w.drew:=⟨hs.lo,hs.defers.grow (Grow.drew w) rfl,hs.size,hs.base.drew,fun x hx h1 h2=>x.2.grow _ _ _ _ (Grow.drew w) (hs.g x hx h1 h2),(fun i y d A _ _ hf=>by cases hf),(fun i d b k c _ hf=>by cases hf),
   fun e he A hA=>(hs.c e he A hA).grow (Grow.drew w),hs.x⟩
  refine Inv.congr hd fun k=>?_
  simp only [Array.getD,Array.size_replicate]
  split <;> simp
end
section
open Rg
variable {P:Program} {Q:Exit→Act→World→Prop} {B N:Nat} {w0:Bs} {Γ:List (Nat × VA)} {Λ:List Lc} {a:Act} {w:World}
theorem go_headZ {id:Nat}{ops:Array Oper}{sp:List Sp}(anc:List (List Nat))(n m e j z:Nat)(A:As)(src srcz:List Src)(hmx:P.follows .mixedOrders=true)
  (h:St B w0 N Γ Λ a w) (hob:Obs P Q ⟨ops,N,Γ,lesS Λ e j A,sp,fun i=>anc.getD i []⟩ B w0 0 n) (hsz:ops.size=n+m) (hm:0<m) (hj:n≤j) (hz:z<n) (hanc:Rg.ancOk ⟨ops,N,Γ,lesS Λ e j A,sp,fun i=>anc.getD i []⟩=true)
  (ha0:(List.range n).all (fun j=>j==z || (anc.getD n []).contains j)=true) (hall:∀ i,n+1≤i→i<n+1+(m-1)→∀ j,j<i→(anc.getD i []).contains j=true) (hk:Rg.chk ⟨ops,N,Γ,lesS Λ e j A,sp,fun i=>anc.getD i []⟩=true)
  (hsrc:src.all (fun s=>match s with | .g k=>(match Γ[k]? with | some x=>Rg.outG ⟨ops,N,Γ,lesS Λ e j A,sp,fun i=>anc.getD i []⟩ x.1 | none=>false) | .o i=>decide (i<n))=true)
  (hsrcz:srcz.all (fun s=>match s with | .g k=>(match Γ[k]? with | some x=>Rg.outG ⟨ops,N,Γ,lesS Λ e j A,sp,fun i=>anc.getD i []⟩ x.1 | none=>false) | .o i=>decide (i<n)&&i != z)=true)
  (hQ:∀ a' w',St B w0 N (src.filterMap (takeS ⟨ops,N,Γ,lesS Λ e j A,sp,fun i=>anc.getD i []⟩)) Λ a' w'→wpOps P ops Q (List.range' n m) a' w')
  (hQz:∀ a' w',St B w0 N (srcz.filterMap (takeS ⟨ops,N,Γ,lesS Λ e j A,sp,fun i=>anc.getD i []⟩)) Λ a' w'→wpOps P ops Q (n::z::List.range' (n+1) (m-1)) a' w'):(Code.region id ops true).wp P Q a w:=by
 have hl1:∀ l'∈Λ,∃ st,(⟨l'.s,l'.T,l'.H,none,l'.A,st⟩:Le)∈lesS Λ e j A:=fun l' hl'=>by
  obtain ⟨j',hj'⟩:=List.getElem?_of_mem hl'
  exact ⟨_,List.mem_map.2 ⟨(l',j'),List.mem_zipIdx_iff_getElem?.2 hj',rfl⟩⟩
 have hl2:∀ y∈lesS Λ e j A,∀ i A',y.st=some (i,A')→n≤i:=fun y hy i B' h1=>by have:=(zid y hy).2.2 i B' h1; omega
 refine Rg.drawZ (R:=⟨ops,N,Γ,lesS Λ e j A,sp,fun i=>anc.getD i []⟩) (m:=m) z hz hsz hm hmx hanc hk h (fun y hy _=>(zid y hy).2.1) (fun i hi=>hob.all i zo zo) (fun j hj hne=>?_) (fun i h1 h2 j hj=>hall i zo zo j hj) (fun a1 w1 hinv=>?_) fun a1 w1 hinv=>?_
 ·have:=List.all_eq_true.1 ha0 j (by simpa using hj)
  simpa [hne] using this
 ·exact hQ a1 w1 (zlz hl1 hl2 hinv src hsrc)
 ·exact hQz a1 w1 (inv_stL (n:=n) (fun i hi=>by simp [show ¬ i<n by omega]) hl1 hl2 hinv srcz hsrcz)
theorem op_movS {ops:Array Oper}{i:Nat}{K:Act→World→Prop}{d u:Nat}{T':TypeId}{ps:String}{af:Array Edge}{A:VA}(ku:Nat)(ho:ops[i]?=some ⟨some d,.move (.tmp u),T',ps,af,none⟩)(h:St B w0 N Γ Λ a w)
  (hu:Γ[ku]?=some (u,A)) (hd:d<N) (hΓ:Γ.all (fun x=>x.1 != d)=true) (hΛ:Λ.all (fun l=>l.s != d)=true)
  (hK:∀ a',St B w0 N ((d,A)::Γ) Λ a' w→K a' w):wpOp P ops Q i K a w :=
 zv8 (A:=A) (v:=a.eval (.tmp u)) ho h hd hΓ hΛ (by simp [execOp]) (h.vals _ (List.mem_of_getElem? hu)) (hK _)
end
end Go.Proofs.YthncfchnkjemiaaGreatDoor
namespace Go.Proofs.YthncfchnkjemiaaGreatDoor
open Go Go.RowKit
theorem app_held:∃ it z,Tryz.prog.info? 171=some it∧it.zero=some z∧it.size=3∧it.bytes=56∧z.cells.size=3:=by
 have h:((Tryz.prog.info? 171).bind fun it=>it.zero.map fun z=>(it.size,it.bytes,z.cells.size))=some (3,56,3):=by kernel_rfl
 cases hi:Tryz.prog.info? 171 with
 | none=>rw [hi] at h; simp at h
 | some it =>
  rw [hi] at h
  cases hz:it.zero with
  | none=>simp [hz] at h
  | some z =>
   simp [hz] at h
   exact ⟨it,z,rfl,hz,h.1,h.2.1,h.2.2⟩
def BkN (n:Nat)(vr:Value)(L:List Slot):As:=cat [NumA .i64 (n:Nat),HbA vr L,EqS (.slice none 0 0),EqS (.slice none 0 0),EqS (.slice none 0 0),EqS (.slice none 0 0),EqS (.slice none 0 0),EqS (.slice none 0 0),EqS (.slice none 0 0),EqS (.slice none 0 0),EqS (.slice none 0 0),EqS (.slice none 0 0),EqS (.slice none 0 0),EqS (.slice none 0 0),EqS (.slice none 0 0),EqS (.slice none 0 0),EqS (.slice none 0 0)]
def HxA (c vr:Value)(L:List Slot):As where
 n:=1
 ag:=false
 p B cs w:=cs=[c]∧c.oneCell'=true∧(HbA vr L).p B [vr] w
 deps:=[171,U32]
 len:=by rintro B cs w ⟨rfl,_⟩; rfl
 one:=by rintro B cs w ⟨rfl,h,_⟩ x hx; simp at hx; subst hx; exact h
 ag1:=fun _=>rfl
 cg:=fun B cs w w' hg ⟨h1,h2,h3⟩=>⟨h1,h2,(HbA vr L).cg _ _ _ _ hg h3⟩
 wr:=fun B cs w w' g c T fz h1 h2 h3 h4 ⟨h5,h6,h7⟩=>⟨h5,h6,(HbA vr L).wr _ _ _ _ _ _ _ _ h1 h2 h3 h4 h7⟩
def BkX (n:Nat)(c vr:Value)(L:List Slot):As:=cat [NumA .i64 (n:Nat),HxA c vr L,EqS (.slice none 0 0),EqS (.slice none 0 0),EqS (.slice none 0 0),EqS (.slice none 0 0),EqS (.slice none 0 0),EqS (.slice none 0 0),EqS (.slice none 0 0),EqS (.slice none 0 0),EqS (.slice none 0 0),EqS (.slice none 0 0),EqS (.slice none 0 0),EqS (.slice none 0 0),EqS (.slice none 0 0),EqS (.slice none 0 0),EqS (.slice none 0 0)]
def newS (v:Value)(xs:List Nat)(n:Nat):Slot:=⟨v,xs,v,xs,.slice none 0 0,n⟩
def BkE (L:List Slot):As where
 n:=17
 ag:=true
 p B cs w:=∃ vr,(BkA vr L).p B cs w
 deps:=[171,U32]
 len:=fun B cs w ⟨vr,h⟩=>(BkA vr L).len B cs w h
 one:=fun B cs w ⟨vr,h⟩=>(BkA vr L).one B cs w h
 ag1:=fun h=>by cases h
 cg:=fun B cs w w' hg ⟨vr,h⟩=>⟨vr,(BkA vr L).cg B cs w w' hg h⟩
 wr:=fun B cs w w' g c T fz h1 h2 h3 h4 ⟨vr,h⟩=>⟨vr,(BkA vr L).wr B cs w w' g c T fz h1 h2 h3 h4 h⟩
theorem bk_num {n m:Nat}{vr:Value}{L:List Slot}{B:Nat}{cs:List Value}{w:World}(h:(BkN n vr L).p B cs w):0+0<cs.length∧(BkN m vr L).p B (cs.set (0+0) (.int .i64 (m:Nat))) w:=by
 obtain ⟨ps,e,hp⟩:=h
 cases hp with
 | @cons _ c _ ps h1 hp =>
  have h1':c=[.int .i64 (n:Nat)]:=h1
  subst h1' e
  exact ⟨by simp,[.int .i64 (m:Nat)]::ps,by simp,.cons rfl hp⟩
theorem zxa {n:Nat}{c vr:Value}{L:List Slot}{B:Nat}{cs:List Value}{w:World}(h:(BkX n c vr L).p B cs w):0+1<cs.length∧(BkN n vr L).p B (cs.set (0+1) vr) w:=by
 obtain ⟨ps,e,hp⟩:=h
 cases hp with
 | @cons _ c1 _ ps h1 hp=>cases hp with
  | @cons _ c2 _ ps h2 hp =>
   have h1':c1=[.int .i64 (n:Nat)]:=h1
   obtain ⟨h3,h4,h5⟩:=h2
   subst h1' h3 e
   refine ⟨by simp,[.int .i64 (n:Nat)]::[vr]::ps,by simp,.cons rfl (.cons h5 hp)⟩
theorem mg_own {B:Nat}{w:World}{v:Value}{xs:List Nat}(h:(MgN xs).va.p B v w):w.ownsRow B U32 1 v xs.length (xs.map lv):=by
 obtain ⟨cs,⟨h0,⟨rfl,rfl⟩ | ⟨g,ext,rfl,e1,e2,e3⟩⟩,hv⟩:=h
 ·have hv':v=.slice none 0 0:=hv
  subst hv'
  exact ⟨rfl,.inl ⟨rfl,rfl⟩⟩
 ·have hv':v=.slice (some ⟨g,0,none⟩) xs.length (xs++ext).length:=hv
  subst hv'
  refine ⟨by simp,.inr ⟨g,(xs++ext).length,_,rfl,e2,e3,by simp,e1,by simp,?_⟩⟩
  rw [Nat.mul_one]
  show (List.map _ (xs++ext)).take xs.length=_
  rw [List.map_append,List.take_append_of_le_length (by simp),List.take_of_length_le (by simp)]
  rfl
theorem zx9 {vr v:Value}{L:List Slot}{xs:List Nat}{n B:Nat}{cs:List Value}{w:World}(h:(BkN n vr L).p B cs w)(hm:(MgN xs).va.p B v w)(hsep:∀ t∈L,∀ g,t.has g→v.ownBlock≠some g) :
  w.ownsRow B 171 3 vr L.length (L.flatMap Slot.cells)∧∀ v' w' ds,ds=(newS v xs n).cells→w'.ownsRow B 171 3 v' (L.length+1) (L.flatMap Slot.cells++ds)→w.grownBy w' vr.ownBlock→(v'.ownBlock=vr.ownBlock∨(v'.ownBlock=some w.heap.size∧w.grownBy w' none))→(BkX n vr v' (L++[newS v xs n])).p B cs w':=by
 obtain ⟨ps,e,hp⟩:=h
 cases hp with
 | cons h1 hp=>cases hp with
  | cons h2 hp =>
   obtain ⟨q1,q2,q3,q4⟩:=h2
   refine ⟨q2,fun v' w' ds hds hown hg hb=>⟨_,e,?_⟩⟩
   subst hds
   have hkeep:∀ (g:Nat) (c:Array Value),w.heap[g]?=some (Obj.cells c U32 (0,0))→w'.heap[g]?=some (Obj.cells c U32 (0,0)):=fun g c h8=>by
    refine (hg.block g (Array.getElem?_eq_some_iff.1 h8).1 (fun e9=>?_)).trans h8
    rcases q2.2 with ⟨e1,_⟩ | ⟨g',cap,cur,e1,_,e3,_⟩
    ·rw [e1] at e9; cases e9
    ·rw [e1] at e9
     have:g=g':=by simpa [Value.ownBlock] using e9
     subst this
     rw [h8] at e3
     injection e3 with e3
     injection e3 with _ e3 _
     revert e3
     decide
   have hown1:=mg_own hm
   refine .cons h1 (.cons ⟨q1,(zgj q2).1,rfl,?_,fun t ht=>?_,fun i j s t hi hj hne g hs ht=>?_⟩ ?_)
   ·rw [List.length_append,List.flatMap_append]
    simpa using hown
   ·rcases List.mem_append.1 ht with ht | ht
    ·exact (q3 t ht).keep fun g c _ h8=>hkeep g c h8
    ·obtain rfl:=List.mem_singleton.1 ht
     have h9:w'.ownsRow B U32 1 v xs.length (xs.map lv):=zhe hown1 fun g c _ h8=>hkeep g c h8
     exact ⟨h9,zv4 h9⟩
   ·have hb1:∀ g,(newS v xs n).has g→v.ownBlock=some g:=fun g h=>by
     rcases h with h | h <;> exact h
    have hget:∀ (i:Nat) s,(L++[newS v xs n])[i]?=some s→(L[i]?=some s∧i<L.length)∨(i=L.length∧s=newS v xs n):=fun i s hi=>by
     by_cases h5:i<L.length
     ·rw [List.getElem?_append_left h5] at hi
      exact .inl ⟨hi,h5⟩
     ·rw [List.getElem?_append_right zo] at hi
      have h6:=(List.getElem?_eq_some_iff.1 hi).1
      simp at h6
      have h7:i=L.length:=by omega
      subst h7
      simp at hi
      exact .inr ⟨rfl,hi.symm⟩
    rcases hget i s hi with ⟨h5,h5'⟩ | ⟨h5,rfl⟩ <;> rcases hget j t hj with ⟨h6,h6'⟩ | ⟨h6,rfl⟩
    ·exact q4 i j s t h5 h6 hne g hs ht
    ·exact hsep s (List.mem_of_getElem? h5) g hs (hb1 g ht)
    ·exact hsep t (List.mem_of_getElem? h6) g ht (hb1 g hs)
    ·omega
   ·iterate 15 (cases hp; rename_i h3 hp; refine .cons h3 ?_)
    cases hp
    exact .nil
theorem zw6 {v:Value}{n B:Nat}{w:World}{xs:List Nat}{ds:List Value}(h:(cat [EqS v,EqS (.slice none 0 0),NumA .i64 (n:Nat)]).p B ds w):ds=(newS v xs n).cells:=by
 obtain ⟨ps,rfl,hp⟩:=h
 cases hp with
 | cons h1 hp=>cases hp with
  | cons h2 hp=>cases hp with
   | cons h3 hp =>
    cases hp
    have h3':=h3
    obtain ⟨rfl,_⟩:=h1
    obtain ⟨rfl,_⟩:=h2
    have:_=[Value.int .i64 (n:Nat)]:=h3'
    subst this
    rfl
theorem pin_eq {v:Value}{xs:List Nat}:Wk (PinA v (MgN xs)).va (EqS v).va:=fun B u w ⟨cs,⟨h1,h2⟩,h3⟩=>by
 have h4:u=v:=h3.trans h2
 subst h4
 have hl:=(MgN xs).len _ _ _ h1
 have h5:=(MgN xs).one _ _ _ h1
 match cs,hl with
 | [x],_ =>
  have h6:u=x:=h3
  subst h6
  exact ⟨[u],⟨rfl,h5 u (by simp)⟩,rfl⟩
theorem pin_mg {v u:Value}{xs:List Nat}{B:Nat}{w:World}(h:(PinA v (MgN xs)).va.p B u w):(MgN xs).va.p B v w:=by
 obtain ⟨cs,⟨h1,h2⟩,_⟩:=h
 exact ⟨cs,h1,h2.symm⟩
theorem bkn_e {n:Nat}{vr:Value}{L:List Slot}(h:n=L.length):WkA (BkN n vr L) (BkE L):=by subst h; exact ⟨rfl,rfl,fun B cs w h=>⟨vr,h⟩⟩
theorem bx_one {n:Nat}{c vr:Value}{L:List Slot}{B N:Nat}{w0:Bs}{Γ:List (Nat × VA)}{Λ:List Lc}{a:Act}{w:World}{s:Nat}{T:TypeId}{H:Hd}(h:St B w0 N Γ Λ a w)(k:Nat)(hm:Λ[k]?=some ⟨s,T,H,BkX n c vr L⟩):vr.oneCell'=true∧vr.cells = #[vr]:=by
 obtain ⟨g,cs,_,_,_,ps,e,hp⟩:=h.locs _ (List.mem_of_getElem? hm)
 cases hp with
 | cons h1 hp=>cases hp with
  | cons h2 hp =>
   obtain ⟨_,_,_,h5,_⟩:=h2
   exact ⟨(zgj h5).1,(zgj h5).2.cell⟩
section
open Rg
variable {P:Program} {Q:Exit→Act→World→Prop} {R:Rg} {B i:Nat} {w0:Bs}
theorem zq1 {x:Operand}{g o:Nat}(hx:Has R B w0 i x (EqV (.pointer (some ⟨g,o,none⟩)))):Wv P Q R B w0 i (.nilCheck x) (EqV (.pointer (some ⟨g,o,none⟩))) :=
 zbx fun d T ps af gd a w av=>by
  have h:a.eval x=.pointer (some ⟨g,o,none⟩):=hx a w av
  exact ⟨_,w,by simp [execOp,h],Grow.refl w,rfl⟩
theorem zq2 {x:Operand}{T:TypeId}{f k n g o:Nat}(hx:Has R B w0 i x (EqV (.pointer (some ⟨g,o,none⟩))))(hf:Fld P T f k n):Wv P Q R B w0 i (.fieldAddr T x f) (EqV (.pointer (some ⟨g,o+k,none⟩))) :=
 zbx fun d T ps af gd a w av=>by
  have h:a.eval x=.pointer (some ⟨g,o,none⟩):=hx a w av
  exact ⟨_,w,by simp [execOp,h,zee hf],Grow.refl w,rfl⟩
end
theorem keep_c (vr v:Value)(xs:List Nat)(L:List Slot)(hsep:∀ t∈L,∀ g,t.has g→v.ownBlock≠some g)(hl:L.length≤1000000):CK Tryz.prog 254 59 [59,171] (BkA vr L) (BkE (L++[newS v xs (L.length+1)])) [(PinA v (MgN xs)).va] (Tu []):=by
 obtain ⟨it0,z0,hi0,hz0,hs0,hb0',hc0⟩:=app_held
 refine CK.intro Tryz.func254 rfl zk nq zk (fun B g w0 a hrm hst=>?_)
 have hst:St B w0 26 [(0,EqV ((ptrH).f g)),(1,(PinA v (MgN xs)).va)] [⟨0,59,ptrH,BkA vr L⟩] a w0.w:=hst
 have hst:St B w0 26 _ [⟨0,59,ptrH,BkN L.length vr L⟩] a w0.w:=hst
 refine wp_seq ?_
 refine zch (sp:=[.val 4 _,.val 5 _,.val 6 _,.val 7 _,.val 8 _,.val 9 _,.val 10 _,.sto 0]) 7 1 0 7 OneC [.g 0,.g 1,.o 4,.o 6] hst (zv rfl (za2 (gq 0 rfl)) (zv rfl (zq1 (vq 0 rfl)) (zv rfl (zq2 (vq 1 rfl) zmc) (zv rfl (zdb (vq 2 rfl) (lz0 0 rfl) (gq 0 rfl) (Sub.part 0 rfl rfl) ty_3) (zv rfl (zbl (vq 3 rfl) za3 (zbo zo)) (zv rfl (zq1 (vq 0 rfl)) (zv rfl (zq2 (vq 5 rfl) zmc) o0))))))) rfl zd zk zk (fun a w hst=>?_)
 have hst:St B w0 26 [(0,_),(1,_),(8,_),(10,_)] [⟨0,59,ptrH,_⟩] a w:=hst
 rw [show List.range' 7 1=[7] from rfl]
 have hst:=St.wkG hst 2 rfl wk_nE
 rw [wpOps_cons]
 refine zoq (A1:=BkN (L.length+1) vr L) [0,1] 3 2 0 0 rfl hst rfl rfl rfl rfl rfl ty_3 rfl zk zk rfl (fun cs hp=>bk_num hp) (fun w hst=>?_)
 refine zh2 ?_
 have hst:St B w0 26 [(0,_),(1,_)] [⟨0,59,ptrH,BkN (L.length+1) vr L⟩] a w:=hst
 refine za0 ?_
 refine go_headZ (sp:=[.val 11 _,.val 12 _,.val 13 _,.val 14 _,.val 15 _,.val 16 _,.val 17 _,.val 18 _,.val 19 _,.val 20 _,.val 21 _,.val 22 _,.val 23 VT,.val 24 VT,.val 25 VT,.sto 0]) [[],[],[1],[1,2],[1,2,3],[],[],[6],[6,7],[6,7,8],[5,6,7,8,9],[5,6,7,8,9,10],[1,2,3,4,5,6,7,8,9,10,11],[0,1,2,3,4,5,6,7,8,9,10,11,12],[0,1,2,3,4,5,6,7,8,9,10,11,12,13],[0,1,2,3,4,5,6,7,8,9,10,11,12,13,14]] 12 4 0 15 0 OneC [.g 0,.g 1,.o 0,.o 4,.o 11] [.g 0,.g 1,.o 4,.o 11] za7 hst (zv rfl (za2 (gq 0 rfl)) (zv rfl (za2 (gq 0 rfl)) (zv rfl (zq1 (vq 1 rfl)) (zv rfl (zq2 (vq 2 rfl) ze6) (zv rfl (zdb (vq 3 rfl) (lz0 0 rfl) (gq 0 rfl) (Sub.part 1 rfl rfl) zka) (zv rfl (za2 (has_wk' (gq 1 rfl) pin_eq)) (zv rfl (za2 (gq 0 rfl)) (zv rfl (zq1 (vq 6 rfl)) (zv rfl (zq2 (vq 7 rfl) zmc) (zv rfl (zdb (vq 8 rfl) (lz0 0 rfl) (gq 0 rfl) (Sub.part 0 rfl rfl) ty_3) (zv rfl (zbb (xs:=[(0,.tmp 16),(2,.tmp 20)]) (qs:=[(0,_),(2,_)]) ziu (.cons ⟨rfl,(vq 5 rfl),rfl⟩ (.cons ⟨rfl,(vq 9 rfl),rfl⟩ .nil))) (zv rfl (zda (D:=[U32]) (l:=[_]) (xs:=[.tmp 21]) (zfz zk) sl_42 zk (n_ok zk) nq nq nq (.cons (vq 10 rfl) .nil) rfl rfl) o0)))))))))))) rfl zd zd zd zk zk (zxe zk) zk zk zk (fun a w hst=>?_) (fun a w hst=>?_)
 ·have hst:St B w0 26 [(0,_),(1,_),(11,_),(15,_),(22,_)] [⟨0,59,ptrH,_⟩] a w:=hst
  rw [show List.range' 12 4=[12,13,14,15] from rfl]
  have hst:=St.wkG hst 3 rfl hb_eq
  have hm:=hst.vals _ (zm 1 rfl)
  rw [wpOps_cons]
  refine zot (m:=3) (X:=cat [EqS v,EqS (.slice none 0 0),NumA .i64 ((L.length+1:Nat):Int)]) (A1:=fun v'=>BkX (L.length+1) vr v' (L++[newS v xs (L.length+1)])) (F:=fun ds=>ds=(newS v xs (L.length+1)).cells) [0,2] 3 4 0 rfl hst rfl rfl (fun ds h=>zw6 h) rfl rfl rfl (hrm _ zk) Tryz.underlying42 hi0 hz0 hs0 hb0' hc0 zd (n:=L.length) zo zo zd zk zk zk zk (fun cs hp=>zx9 hp (pin_mg hm) hsep) (fun v' w' hst=>?_)
  rw [wpOps_cons]
  refine zva 2 rfl hst rfl zd zk zk (fun a hst=>?_)
  rw [wpOps_cons]
  refine zos 0 rfl hst ze6 rfl zd zk zk (fun a hst=>?_)
  rw [wpOps_cons]
  have hv1:=(bx_one hst 0 rfl)
  refine zoq (A1:=BkN (L.length+1) v' (L++[newS v xs (L.length+1)])) [3] 0 2 3 0 rfl hst rfl rfl rfl hv1.1 hv1.2 zka rfl zk zk rfl (fun cs hp=>zxa hp) (fun w hst=>?_)
  refine zh2 ?_
  have hst:=St.wkL (A':=BkE (L++[newS v xs (L.length+1)])) hst 0 rfl (bkn_e (by simp))
  have hst:St B w0 26 [(0,_)] [⟨0,59,ptrH,_⟩] a w:=hst
  refine zbm ?_
  refine zf3 hst (zm 0 rfl) (zm 0 rfl) ?_
  exact zaq (rs:=[]) rfl hst .nil zd
 ·have hst:St B w0 26 [(0,_),(1,_),(15,_),(22,_)] [⟨0,59,ptrH,_⟩] a w:=hst
  rw [show List.range' (12+1) (4-1)=[13,14,15] from rfl]
  have hst:=St.wkG hst 2 rfl hb_eq
  have hm:=hst.vals _ (zm 1 rfl)
  rw [wpOps_cons]
  refine zot (m:=3) (X:=cat [EqS v,EqS (.slice none 0 0),NumA .i64 ((L.length+1:Nat):Int)]) (A1:=fun v'=>BkX (L.length+1) vr v' (L++[newS v xs (L.length+1)])) (F:=fun ds=>ds=(newS v xs (L.length+1)).cells) [0] 2 3 0 rfl hst rfl rfl (fun ds h=>zw6 h) rfl rfl rfl (hrm _ zk) Tryz.underlying42 hi0 hz0 hs0 hb0' hc0 zd (n:=L.length) zo zo zd zk zk zk zk (fun cs hp=>zx9 hp (pin_mg hm) hsep) (fun v' w' hst=>?_)
  rw [wpOps_cons]
  refine op_movS 1 rfl hst rfl zd zk zk (fun a hst=>?_)
  rw [wpOps_cons]
  refine zva 0 rfl hst rfl zd zk zk (fun a hst=>?_)
  rw [wpOps_cons]
  refine zos 0 rfl hst ze6 rfl zd zk zk (fun a hst=>?_)
  rw [wpOps_cons]
  have hv1:=(bx_one hst 0 rfl)
  refine zoq (A1:=BkN (L.length+1) v' (L++[newS v xs (L.length+1)])) [4] 0 3 4 0 rfl hst rfl rfl rfl hv1.1 hv1.2 zka rfl zk zk rfl (fun cs hp=>zxa hp) (fun w hst=>?_)
  refine zh2 ?_
  have hst:=St.wkL (A':=BkE (L++[newS v xs (L.length+1)])) hst 0 rfl (bkn_e (by simp))
  have hst:St B w0 26 [(0,_)] [⟨0,59,ptrH,_⟩] a w:=hst
  refine zbm ?_
  refine zf3 hst (zm 0 rfl) (zm 0 rfl) ?_
  exact zaq (rs:=[]) rfl hst .nil zd
end Go.Proofs.YthncfchnkjemiaaGreatDoor
