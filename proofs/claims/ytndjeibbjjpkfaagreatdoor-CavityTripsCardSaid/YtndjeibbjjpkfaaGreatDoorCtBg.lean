import Derived.Test.YtndjeibbjjpkfaaGreatDoorCtAa
import Derived.Test.YtndjeibbjjpkfaaGreatDoorCtAc
import Derived.Test.YtndjeibbjjpkfaaGreatDoorCtBd
import Derived.Test.YtndjeibbjjpkfaaGreatDoorCtBf
set_option linter.unusedVariables false
set_option linter.unusedSimpArgs false
set_option linter.unusedSectionVars false
set_option maxRecDepth 100000
namespace Go.Proofs.YtndjeibbjjpkfaaGreatDoor
open Go Go.RowKit
theorem zqg (xs:List RE)(r:Bool):bdM (tripF xs r).1:=by
 unfold tripF
 split
 ·exact bd_as _
 ·exact ⟨zic,zic,zic,zic⟩
set_option maxHeartbeats 4000000 in
theorem trips_w (xs:List RE)(hxs:(∀ y∈xs,wdE y)∧xs.length≤140737488355328):Cn Tryz.prog 3 [(SlA 64 [U32] (xs.map REA)).va] (Bo true):=by
 refine Cn.introW Tryz.func3 rfl zk nq (.cons (zqi (zdy zj9)) .nil) (zdz _).va (fun B w0 a hB0 O=>?_)
 have O:=zn [(0,(SlA 64 [U32] (xs.map REA)).va)] [] O
 have hB:=hB0
 refine wp_seq<|zh [.val 2 _] [.g 0,.o 0] O (zv rfl (za1 zau) o0) (zz [(0,_),(2,_)] [] fun a w O=>?_)
 refine zt<|wp_seq<|zh [.val 15 _,.val 16 _,.val 17 _,.val 18 _] [.g 0,.g 1,.o 3] O (zv rfl (za2 (gq 0 rfl)) (zv rfl (za5 (xs:=[.tmp 15]) (zxt _) (.cons (vq 0 rfl) .nil)) (zv rfl (zcy (D:=[]) (l:=[_]) (xs:=[.tmp 16]) (zff zk) sl_60 zk (n_ok zk) nq nq nq (.cons (vq 1 rfl) .nil) rfl rfl) (zv rfl (za5 (xs:=[.tmp 17]) (beyond_c [_]) (.cons (vq 2 rfl) .nil)) o0)))) (zz [(0,_),(2,_),(18,_)] [] fun a w O=>?_)
 refine za0<|za9 O (zm 2 rfl) (fun hb0=>?_) (fun hb0=>?_)
 ·refine wp_seq<|zh [.val 2 _] [.g 0,.o 0] O (zv rfl (za1 zau) o0) (zz [(0,_),(2,_)] [] fun a w O=>?_)
  refine za0<|wp_ret<|zah ?_
  refine zae ?_ (zag rfl O (zm 1 rfl))
  exact zbi
 ·obtain ⟨hl,hbs⟩:=byd_els hxs hb0
  refine wp_skip<|zt<|zh [.val 19 _,.val 20 _,.val 3 _] [.g 0,.g 1,.o 2] O (zv rfl (za2 (gq 0 rfl)) (zv rfl (za5 (xs:=[.tmp 19]) (zjb xs zo hbs) (.cons (vq 0 rfl) .nil)) (zv rfl (za1 (vq 1 rfl)) o0))) (zz [(0,_),(2,_),(3,_)] [] fun a w O=>?_)
  have O:=St.setG (A':=andV (TwS 64 9 [U32] (xs.map RET) (REA ⟨77,rf0,rf0⟩)) (LsI 0 w.heap.size 64 9 [U32] (xs.map REN))) O 2 rfl (fun h=>⟨h.1,ls_top (lo:=0) (zdy fun _=>new_ren) (ls_imp (fun _ _=>Nat.zero_le _) _ _ _ h.2)⟩)
  have O:=St.addSz O 9999
  obtain ⟨h1,eh1⟩:∃ h,w.heap.size=h:=⟨_,rfl⟩
  rw [eh1] at O
  have O:=zn [(0,_),(2,_),(3,_),(9999,_)] [] O
  refine zt<|zg [] [⟨4,32,ptrH,some 5,_,some (6,_)⟩] [.val 22 _,.val 23 _,.val 21 _,.val 24 _,.val 25 _,.alc 0,.sto 0,.val 5 _] [.g 0,.g 1,.g 2,.g 3,.o 7] O (zv rfl (za2 (gq 2 rfl)) (zv rfl (zjj (h:=h1) (s:=9999) (xs:=[.tmp 22,.const (.bool true)]) (zp5 xs true) zpp zi1 zmr (zeg _ _) (.cons (zqi (zdy zj9)) (.cons (zui _).va .nil)) (.cons (has_wk' (vq 0 rfl) zp4) (.cons zau .nil)) (gq 3 rfl)) (zv rfl (za2 (vq 1 rfl)) (zv rfl (zfe (vq 2 rfl)) (zv rfl (zfd (vq 2 rfl)) (oc (zaq rfl rfl rfl (Str.zero zar)) (oc (zac rfl rfl rfl (vq 3 rfl) zb2 (Eq.trans (b:=16) rfl rfl)) (zv rfl (za1 (vq 4 rfl)) o0)))))))) (zz [(0,_),(2,_),(3,_),(9999,_),(5,_)] [⟨4,32,ptrH,_⟩] fun a w O=>?_)
  obtain ⟨m4,n4,b4,o4,O⟩:=St.nameL (A:=RMN (tripF xs true).1) (AP:=(fun m:Nat→Value=>MatP (tripF xs true).1 m)) (kl:=(fun m:Nat→Value=>km (tripF xs true).1 m)) dis_wk zpo zjp O 0 rfl
  obtain ⟨qh2,O⟩:=St.newSz O 3 rfl
  obtain ⟨h2,eh2⟩:∃ h,w.heap.size=h:=⟨_,rfl⟩
  rw [eh2] at O qh2 b4
  have O:=zn [(0,_),(2,_),(3,_),(9999,_),(5,_)] [⟨4,32,ptrH,_⟩] O
  refine zt<|zg [none] [⟨6,32,ptrH,some 5,_,some (6,_)⟩] [.val 27 _,.val 28 _,.val 26 _,.val 29 _,.val 30 _,.alc 1,.sto 1,.val 7 _] [.g 0,.g 1,.g 2,.g 3,.g 4,.o 7] O (zv rfl (za2 (gq 2 rfl)) (zv rfl (zjj (h:=h2) (s:=9999) (xs:=[.tmp 27,.const (.bool false)]) (zp5 xs false) zpp zi1 zmr (zeg _ _) (.cons (zqi (zdy zj9)) (.cons (zui _).va .nil)) (.cons (has_wk' (vq 0 rfl) zp4) (.cons zau .nil)) (gq 3 rfl)) (zv rfl (za2 (vq 1 rfl)) (zv rfl (zfe (vq 2 rfl)) (zv rfl (zfd (vq 2 rfl)) (oc (zaq rfl rfl rfl (Str.zero zar)) (oc (zac rfl rfl rfl (vq 3 rfl) zb2 (Eq.trans (b:=16) rfl rfl)) (zv rfl (za1 (vq 4 rfl)) o0)))))))) (zz [(0,_),(2,_),(3,_),(9999,_),(5,_),(7,_)] [⟨4,32,ptrH,_⟩,⟨6,32,ptrH,_⟩] fun a w O=>?_)
  obtain ⟨m6,n6,b6,o6,O⟩:=St.nameL (A:=RMN (tripF xs false).1) (AP:=(fun m:Nat→Value=>MatP (tripF xs false).1 m)) (kl:=(fun m:Nat→Value=>km (tripF xs false).1 m)) dis_wk zpo zjp O 1 rfl
  obtain ⟨qh3,O⟩:=St.newSz O 3 rfl
  obtain ⟨h3,eh3⟩:∃ h,w.heap.size=h:=⟨_,rfl⟩
  rw [eh3] at O qh3 b6
  have O:=zn [(0,_),(2,_),(3,_),(9999,_),(5,_),(7,_)] [⟨4,32,ptrH,_⟩,⟨6,32,ptrH,_⟩] O
  refine zt<|zg [none,none] [⟨8,32,ptrH,some 5,_,some (6,_)⟩] [.val 32 _,.val 33 _,.val 31 _,.val 34 _,.val 35 _,.alc 2,.sto 2,.val 9 _] [.g 0,.g 1,.g 2,.g 3,.g 4,.g 5,.o 7] O (zv rfl (za2 (gq 2 rfl)) (zv rfl (zjj (h:=h3) (s:=9999) (xs:=[.tmp 32,.const (.bool true)]) (zp5 xs true) zpp zi1 zmr (zeg _ _) (.cons (zqi (zdy zj9)) (.cons (zui _).va .nil)) (.cons (has_wk' (vq 0 rfl) zp4) (.cons zau .nil)) (gq 3 rfl)) (zv rfl (za2 (vq 1 rfl)) (zv rfl (zfe (vq 2 rfl)) (zv rfl (zfd (vq 2 rfl)) (oc (zaq rfl rfl rfl (Str.zero zar)) (oc (zac rfl rfl rfl (vq 3 rfl) zb2 (Eq.trans (b:=16) rfl rfl)) (zv rfl (za1 (vq 4 rfl)) o0)))))))) (zz [(0,_),(2,_),(3,_),(9999,_),(5,_),(7,_),(9,_)] [⟨4,32,ptrH,_⟩,⟨6,32,ptrH,_⟩,⟨8,32,ptrH,_⟩] fun a w O=>?_)
  obtain ⟨m8,n8,b8,o8,O⟩:=St.nameL (A:=RMN (tripF xs true).1) (AP:=(fun m:Nat→Value=>MatP (tripF xs true).1 m)) (kl:=(fun m:Nat→Value=>km (tripF xs true).1 m)) dis_wk zpo zjp O 2 rfl
  obtain ⟨qh4,O⟩:=St.newSz O 3 rfl
  obtain ⟨h4,eh4⟩:∃ h,w.heap.size=h:=⟨_,rfl⟩
  rw [eh4] at O qh4 b8
  have O:=zn [(0,_),(2,_),(3,_),(9999,_),(5,_),(7,_),(9,_)] [⟨4,32,ptrH,_⟩,⟨6,32,ptrH,_⟩,⟨8,32,ptrH,_⟩] O
  refine zt<|zg [none,none,none] [⟨10,32,ptrH,some 5,_,some (6,_)⟩] [.val 37 _,.val 38 _,.val 36 _,.val 39 _,.val 40 _,.alc 3,.sto 3,.val 11 _] [.g 0,.g 1,.g 2,.g 3,.g 4,.g 5,.g 6,.o 7] O (zv rfl (za2 (gq 0 rfl)) (zv rfl (za5 (xs:=[.tmp 37,.const (.bool true)]) (znx xs true) (.cons (vq 0 rfl) (.cons zau .nil))) (zv rfl (za2 (vq 1 rfl)) (zv rfl (zfe (vq 2 rfl)) (zv rfl (zfd (vq 2 rfl)) (oc (zaq rfl rfl rfl (Str.zero zar)) (oc (zac rfl rfl rfl (vq 3 rfl) zb2 (Eq.trans (b:=16) rfl rfl)) (zv rfl (za1 (vq 4 rfl)) o0)))))))) (zz [(0,_),(2,_),(3,_),(9999,_),(5,_),(7,_),(9,_),(11,_)] [⟨4,32,ptrH,_⟩,⟨6,32,ptrH,_⟩,⟨8,32,ptrH,_⟩,⟨10,32,ptrH,_⟩] fun a w O=>?_)
  refine zt<|zg [none,none,none,none] [⟨12,32,ptrH,some 5,_,some (6,_)⟩] [.val 42 _,.val 43 _,.val 41 _,.val 44 _,.val 45 _,.alc 4,.sto 4,.val 13 _] [.g 0,.g 1,.g 2,.g 3,.g 4,.g 5,.g 6,.g 7,.o 7] O (zv rfl (za2 (gq 0 rfl)) (zv rfl (za5 (xs:=[.tmp 42,.const (.bool false)]) (znx xs false) (.cons (vq 0 rfl) (.cons zau .nil))) (zv rfl (za2 (vq 1 rfl)) (zv rfl (zfe (vq 2 rfl)) (zv rfl (zfd (vq 2 rfl)) (oc (zaq rfl rfl rfl (Str.zero zar)) (oc (zac rfl rfl rfl (vq 3 rfl) zb2 (Eq.trans (b:=16) rfl rfl)) (zv rfl (za1 (vq 4 rfl)) o0)))))))) (zz [(0,_),(2,_),(3,_),(9999,_),(5,_),(7,_),(9,_),(11,_),(13,_)] [⟨4,32,ptrH,_⟩,⟨6,32,ptrH,_⟩,⟨8,32,ptrH,_⟩,⟨10,32,ptrH,_⟩,⟨12,32,ptrH,_⟩] fun a w O=>?_)
  refine zt<|wp_seq<|gl (sts:=[none,none,none,none,none]) (news:=[]) (sp:=((.val 46 _:Sp)::(.val 47 _)::(.val 48 _)::(.val 49 _)::(.val 50 (Wh (_=false) _))::(.val 51 (Wh (_=false) _))::(.val 52 (Wh (_=false) _))::(.val 53 _)::(.val 54 _)::(.val 55 (Wh (_=false) _))::(.val 56 (Wh (_=false) _))::(.val 57 (Wh (_=false) _))::(.val 58 _)::(.val 59 _)::(.val 60 (Wh (_=false) _))::(.val 61 (Wh (_=false) _))::(.val 62 (Wh (_=false) _))::(.val 63 (Wh (_=false) _))::(.val 64 _)::(.val 65 _)::(.val 66 (Wh (_=false) _))::(.val 67 (Wh (_=false) _))::(.val 68 (Wh (_=false) _))::(.val 69 (Wh (_=false) _))::(.val 70 _)::(.val 71 _)::(.val 72 (Wh (_=false) _))::(.val 73 (Wh (_=false) _))::(.val 74 (Wh (_=false) _))::(.val 75 (Wh (_=false) _))::(.val 76 _)::(.val 77 _)::(.val 78 (Wh (_=false) _))::(.val 79 (Wh (_=false) _))::(.val 80 (Wh (_=false) _))::(.val 81 (Wh (_=false) _))::(.val 82 _)::[])) [.g 1,.g 2,.g 3,.o 36] O (zv rfl (za2 (gq 4 rfl)) (zv rfl (za2 (gq 7 rfl)) (zv rfl (zd9 (vq 0 rfl) (vq 1 rfl)) (zv rfl (za2 (vq 2 rfl)) (oc (zai rfl rfl rfl (vq 3 rfl) nq (fun hg=>za2 (gq 5 rfl))) (oc (zai rfl rfl rfl (vq 3 rfl) nq (fun hg=>za2 (gq 8 rfl))) (oc (zai rfl rfl rfl (vq 3 rfl) nq (fun hg=>zd9 (zaa (vq 4 rfl) hg) (zaa (vq 5 rfl) hg))) (zv rfl (r_or (vq 3 rfl) (vq 6 rfl)) (zv rfl (za2 (vq 7 rfl)) (oc (zai rfl rfl rfl (vq 8 rfl) nq (fun hg=>za2 (gq 6 rfl))) (oc (zai rfl rfl rfl (vq 8 rfl) nq (fun hg=>za2 (gq 7 rfl))) (oc (zai rfl rfl rfl (vq 8 rfl) nq (fun hg=>zd9 (zaa (vq 9 rfl) hg) (zaa (vq 10 rfl) hg))) (zv rfl (r_or (vq 8 rfl) (vq 11 rfl)) (zv rfl (za2 (vq 12 rfl)) (oc (zai rfl rfl rfl (vq 13 rfl) nq (fun hg=>zam (lz0 0 rfl) zb2)) (oc (zai rfl rfl rfl (vq 13 rfl) nq (fun hg=>zam (lz0 3 rfl) zb2)) (oc (zai rfl rfl rfl (vq 13 rfl) nq (fun hg=>za5 (xs:=[.tmp 60,.tmp 61]) (zfk _ _) (.cons (has_wk' (zaa (vq 14 rfl) hg) matp_rma.va) (.cons (zaa (vq 15 rfl) hg) .nil)))) (oc (zai rfl rfl rfl (vq 13 rfl) nq (fun hg=>zep (zaa (vq 16 rfl) hg))) (zv rfl (r_or (vq 13 rfl) (vq 17 rfl)) (zv rfl (za2 (vq 18 rfl)) (oc (zai rfl rfl rfl (vq 19 rfl) nq (fun hg=>zam (lz0 2 rfl) zb2)) (oc (zai rfl rfl rfl (vq 19 rfl) nq (fun hg=>zam (lz0 3 rfl) zb2)) (oc (zai rfl rfl rfl (vq 19 rfl) nq (fun hg=>za5 (xs:=[.tmp 66,.tmp 67]) (zfk _ _) (.cons (has_wk' (zaa (vq 20 rfl) hg) matp_rma.va) (.cons (zaa (vq 21 rfl) hg) .nil)))) (oc (zai rfl rfl rfl (vq 19 rfl) nq (fun hg=>zep (zaa (vq 22 rfl) hg))) (zv rfl (r_or (vq 19 rfl) (vq 23 rfl)) (zv rfl (za2 (vq 24 rfl)) (oc (zai rfl rfl rfl (vq 25 rfl) nq (fun hg=>zam (lz0 1 rfl) zb2)) (oc (zai rfl rfl rfl (vq 25 rfl) nq (fun hg=>zam (lz0 4 rfl) zb2)) (oc (zai rfl rfl rfl (vq 25 rfl) nq (fun hg=>za5 (xs:=[.tmp 72,.tmp 73]) (zfk _ _) (.cons (has_wk' (zaa (vq 26 rfl) hg) matp_rma.va) (.cons (zaa (vq 27 rfl) hg) .nil)))) (oc (zai rfl rfl rfl (vq 25 rfl) nq (fun hg=>zep (zaa (vq 28 rfl) hg))) (zv rfl (r_or (vq 25 rfl) (vq 29 rfl)) (zv rfl (za2 (vq 30 rfl)) (oc (zai rfl rfl rfl (vq 31 rfl) nq (fun hg=>za2 (gq 2 rfl))) (oc (zai rfl rfl rfl (vq 31 rfl) nq (fun hg=>za2 (gq 0 rfl))) (oc (zai rfl rfl rfl (vq 31 rfl) nq (fun hg=>za5 (xs:=[.tmp 78,.tmp 79]) (zkm xs xs zo hbs) (.cons (has_wk' (zaa (vq 32 rfl) hg) andV_1) (.cons (zaa (vq 33 rfl) hg) .nil)))) (oc (zai rfl rfl rfl (vq 31 rfl) nq (fun hg=>zep (zaa (vq 34 rfl) hg))) (zv rfl (r_or (vq 31 rfl) (vq 35 rfl)) o0))))))))))))))))))))))))))))))))))))) (zz [(2,_),(3,_),(9999,_),(82,_)] [⟨4,32,ptrH,_⟩,⟨6,32,ptrH,_⟩,⟨8,32,ptrH,_⟩,⟨10,32,ptrH,_⟩,⟨12,32,ptrH,_⟩] fun a w O=>?_)
  refine za0<|za9 O (zm 3 rfl) (fun hb1=>?_) (fun hb1=>?_)
  ·exact absurd hb1 (by simp)
  ·refine wp_skip<|zt<|zg [none,none,none,none,none] [⟨14,55,ptrH,some 1,_,some (2,_)⟩] [.val 83 _,.alc 5,.sto 5] [.g 0,.g 1,.g 2] O (zv rfl (zb8 (xs:=[]) (qs:=[]) zz4 .nil) (oc (zaq rfl rfl rfl zua) (oc (zac rfl rfl rfl (vq 0 rfl) ty_55 (Eq.trans (b:=17) rfl rfl)) o0))) (zz [(2,_),(3,_),(9999,_)] [⟨4,32,ptrH,_⟩,⟨6,32,ptrH,_⟩,⟨8,32,ptrH,_⟩,⟨10,32,ptrH,_⟩,⟨12,32,ptrH,_⟩,⟨14,55,ptrH,_⟩] fun a w O=>?_)
   have O:=St.wkL (A':=BkF [] [] []) O 5 rfl zbk_bkf
   have O:=St.wkG O 1 rfl andV_2
   obtain ⟨v3,m3,n3,b3,o3,c3,O⟩:=St.nameLs (z:=reO) (AP:=EleP) zxu (fun _ _=>rfl) elp_deps O 1 rfl
   have O:=zn [(2,_),(3,_),(9999,_)] [⟨4,32,ptrH,_⟩,⟨6,32,ptrH,_⟩,⟨8,32,ptrH,_⟩,⟨10,32,ptrH,_⟩,⟨12,32,ptrH,_⟩,⟨14,55,ptrH,_⟩] O
   refine zt ?_
   have hq0:=zmh ivk_nil n4 b4 zmi
   have hq1:=zmh hq0 n6 b6 (zhx zmi zo)
   have hq2:=zmh hq1 n8 b8 (zhx (zhx zmi zo) zo)
   have hq3:=zmh hq2 n3 b3 (zhx (zhx (zhx zmi zo) zo) zo)
   refine zc7 (sp:=[.val 84 _,.val 85 VT]) 1 1 99 1 OneC [.g 0,.g 1,.g 2,.o 0] O (zv rfl (zam (lz0 0 rfl) zb2) o0) rfl zd zk zk (zz [(2,_),(3,_),(9999,_),(84,_)] [⟨4,32,ptrH,_⟩,⟨6,32,ptrH,_⟩,⟨8,32,ptrH,_⟩,⟨10,32,ptrH,_⟩,⟨12,32,ptrH,_⟩,⟨14,55,ptrH,_⟩] fun a w O=>?_)
   rw [show List.range' 1 1=[1] from rfl]
   rw [wpOps_cons]
   refine zd8 (A1:=BkF (([]++km (tripF xs true).1 m4)) [] ([])) (xs:=[.tmp 84]) [0,1,2] [3] 5 rfl O (zmg (tripF xs true).1 m4 ([]) [] ([]) hq0.nd nq) rfl rfl (.cons ⟨_,rfl,rfl⟩ .nil) rfl (zjo hB) zd zk zk zk zk (fun a w O=>?_)
   refine zbs ?_
   have O:=zn [(85,_),(2,_),(3,_),(9999,_)] [⟨4,32,ptrH,_⟩,⟨6,32,ptrH,_⟩,⟨8,32,ptrH,_⟩,⟨10,32,ptrH,_⟩,⟨12,32,ptrH,_⟩,⟨14,55,ptrH,BkF (([]++km (tripF xs true).1 m4)) [] ([])⟩] O
   refine zt<|zc7 (sp:=[.val 86 _,.val 87 VT]) 1 1 99 1 OneC [.g 1,.g 2,.g 3,.o 0] O (zv rfl (zam (lz0 1 rfl) zb2) o0) rfl zd zk zk (zz [(2,_),(3,_),(9999,_),(86,_)] [⟨4,32,ptrH,_⟩,⟨6,32,ptrH,_⟩,⟨8,32,ptrH,_⟩,⟨10,32,ptrH,_⟩,⟨12,32,ptrH,_⟩,⟨14,55,ptrH,_⟩] fun a w O=>?_)
   rw [show List.range' 1 1=[1] from rfl]
   rw [wpOps_cons]
   refine zd8 (A1:=BkF ((([]++km (tripF xs true).1 m4)++km (tripF xs false).1 m6)) [] ([])) (xs:=[.tmp 86]) [0,1,2] [3] 5 rfl O (zmg (tripF xs false).1 m6 (([]++km (tripF xs true).1 m4)) [] ([]) hq1.nd nq) rfl rfl (.cons ⟨_,rfl,rfl⟩ .nil) rfl (zjo hB) zd zk zk zk zk (fun a w O=>?_)
   refine zbs ?_
   have O:=zn [(87,_),(2,_),(3,_),(9999,_)] [⟨4,32,ptrH,_⟩,⟨6,32,ptrH,_⟩,⟨8,32,ptrH,_⟩,⟨10,32,ptrH,_⟩,⟨12,32,ptrH,_⟩,⟨14,55,ptrH,BkF ((([]++km (tripF xs true).1 m4)++km (tripF xs false).1 m6)) [] ([])⟩] O
   refine zt<|zc7 (sp:=[.val 88 _,.val 89 VT]) 1 1 99 1 OneC [.g 1,.g 2,.g 3,.o 0] O (zv rfl (zam (lz0 2 rfl) zb2) o0) rfl zd zk zk (zz [(2,_),(3,_),(9999,_),(88,_)] [⟨4,32,ptrH,_⟩,⟨6,32,ptrH,_⟩,⟨8,32,ptrH,_⟩,⟨10,32,ptrH,_⟩,⟨12,32,ptrH,_⟩,⟨14,55,ptrH,_⟩] fun a w O=>?_)
   rw [show List.range' 1 1=[1] from rfl]
   rw [wpOps_cons]
   refine zd8 (A1:=BkF (((([]++km (tripF xs true).1 m4)++km (tripF xs false).1 m6)++km (tripF xs true).1 m8)) [] ([])) (xs:=[.tmp 88]) [0,1,2] [3] 5 rfl O (zmg (tripF xs true).1 m8 ((([]++km (tripF xs true).1 m4)++km (tripF xs false).1 m6)) [] ([]) hq2.nd nq) rfl rfl (.cons ⟨_,rfl,rfl⟩ .nil) rfl (zjo hB) zd zk zk zk zk (fun a w O=>?_)
   refine zbs ?_
   have O:=zn [(89,_),(2,_),(3,_),(9999,_)] [⟨4,32,ptrH,_⟩,⟨6,32,ptrH,_⟩,⟨8,32,ptrH,_⟩,⟨10,32,ptrH,_⟩,⟨12,32,ptrH,_⟩,⟨14,55,ptrH,BkF (((([]++km (tripF xs true).1 m4)++km (tripF xs false).1 m6)++km (tripF xs true).1 m8)) [] ([])⟩] O
   refine zt<|zc7 (sp:=[.val 90 _,.val 91 VT]) 1 1 99 1 OneC [.g 1,.g 3,.o 0] O (zv rfl (za2 (gq 2 rfl)) o0) rfl zd zk zk (zz [(2,_),(9999,_),(90,_)] [⟨4,32,ptrH,_⟩,⟨6,32,ptrH,_⟩,⟨8,32,ptrH,_⟩,⟨10,32,ptrH,_⟩,⟨12,32,ptrH,_⟩,⟨14,55,ptrH,_⟩] fun a w O=>?_)
   rw [show List.range' 1 1=[1] from rfl]
   rw [wpOps_cons]
   refine zd8 (A1:=BkF ((((([]++km (tripF xs true).1 m4)++km (tripF xs false).1 m6)++km (tripF xs true).1 m8)++lsK reO ke m3 xs xs.length)) [] ([(v3,xs.length)])) (xs:=[.tmp 90]) [0,1] [2] 5 rfl O (zwy (((([]++km (tripF xs true).1 m4)++km (tripF xs false).1 m6)++km (tripF xs true).1 m8)) [] ([]) hq3.nd (fun p hp=>by cases hp) (Nat.le_trans (Nat.add_le_add_right (Nat.add_le_add_right (Nat.add_le_add_left (Nat.mul_le_mul_left 4 hl) _) _) _) nq)) rfl rfl (.cons ⟨_,rfl,rfl⟩ .nil) rfl (zjo hB) zd zk zk zk zk (fun a w O=>?_)
   refine zbs ?_
   have O:=zn [(91,_),(2,_),(9999,_)] [⟨4,32,ptrH,_⟩,⟨6,32,ptrH,_⟩,⟨8,32,ptrH,_⟩,⟨10,32,ptrH,_⟩,⟨12,32,ptrH,_⟩,⟨14,55,ptrH,BkF ((((([]++km (tripF xs true).1 m4)++km (tripF xs false).1 m6)++km (tripF xs true).1 m8)++lsK reO ke m3 xs xs.length)) [] ([(v3,xs.length)])⟩] O
   refine zt ?_
   have O:=St.selL O [5]
   refine go_first (m:=4) zk ?_
   refine zd8 (A1:=JkA) (xs:=[]) [] [] 0 rfl O (apartF_c ((((([]++km (tripF xs true).1 m4)++km (tripF xs false).1 m6)++km (tripF xs true).1 m8)++lsK reO ke m3 xs xs.length)) [] ([(v3,xs.length)]) (okK_len (zf0 (zf0 (zf0 (zf0 okK_nil o4) o6) o8) o3) (zf5 (zf5 (zf5 (zf5 lnK_nil (lnK_m (zqg xs true))) (lnK_m (zqg xs false))) (lnK_m (zqg xs true))) (lnK_ls hbs))) (fun p hp=>by cases hp) (fun p hp=>by simp only [List.mem_cons,List.not_mem_nil,or_false] at hp; rcases hp with rfl <;> (show _≤_; omega)) (by show (((([]++_)++_)++_)++lsK reO ke m3 xs xs.length).length+0+1≤1000000; rw [List.length_append,ze3]; exact Nat.le_trans (Nat.add_le_add_right (Nat.add_le_add_right (Nat.add_le_add_left (Nat.mul_le_mul_left 4 hl) _) _) _) nq)) rfl rfl .nil rfl (zjo hB) zd zk zk zk zk (zz [(92,Bo true)] [⟨14,_,ptrH,JkA⟩] fun a w O=>?_)
   refine go_restM (sp:=[.val 92 (Bo true),.val 93 _,.val 94 (Wh (_=true) _),.val 95 _,.val 2 _]) [.o 4] O rfl zk (zv rfl (za2 (vq 0 rfl)) (oc (zai rfl rfl rfl (vq 1 rfl) nq (fun hg=>za5 (xs:=[]) zyn .nil)) (zv rfl (zc9 (vq 1 rfl) (vq 2 rfl)) (zv rfl (za1 (vq 3 rfl)) o0)))) zk zk (zz [(2,_)] [⟨14,55,ptrH,_⟩] fun a w O=>?_)
   refine za0<|wp_ret<|zae ?_ (zag rfl O (zm 0 rfl))
   refine zbt (congrArg Bo ?_); simp
end Go.Proofs.YtndjeibbjjpkfaaGreatDoor
