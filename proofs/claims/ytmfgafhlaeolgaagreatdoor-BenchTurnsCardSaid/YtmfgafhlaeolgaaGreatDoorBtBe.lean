import Derived.Test.YtmfgafhlaeolgaaGreatDoorBtAa
import Derived.Test.YtmfgafhlaeolgaaGreatDoorBtAc
import Derived.Test.YtmfgafhlaeolgaaGreatDoorBtBa
import Derived.Test.YtmfgafhlaeolgaaGreatDoorBtBb
import Derived.Test.YtmfgafhlaeolgaaGreatDoorBtBd
set_option linter.unusedVariables false
set_option linter.unusedSimpArgs false
set_option linter.unusedSectionVars false
set_option maxRecDepth 100000
namespace Go.Proofs.YtmfgafhlaeolgaaGreatDoor
open Go Go.RowKit
theorem rev_len (xs:List RE):(revF xs).1.length≤4096:=by
 unfold revF
 split
 ·rename_i h
  have:=(zmw h).1
  simpa using this
 ·simp
theorem rev_bd {xs:List RE}(h:∀ x∈xs,bdF x.p∧bdF x.q):∀ x∈(revF xs).1,bdF x.p∧bdF x.q:=fun x hx=>by
 unfold revF at hx
 split at hx
 ·exact h x (List.mem_reverse.1 hx)
 ·cases hx
set_option maxHeartbeats 4000000 in
theorem turns_w (xs:List RE)(hxs:(∀ y∈xs,wdE y)∧xs.length≤140737488355328):Cn Tryz.prog 3 [(SlA 64 [U32] (xs.map REA)).va] (Bo true):=by
 refine Cn.introW Tryz.func3 rfl zk nq (.cons (zsk (zcs zha)) .nil) (zeb _).va (fun B w0 a hB0 O=>?_)
 have O:=zn [(0,(SlA 64 [U32] (xs.map REA)).va)] [] O
 have hB:=hB0
 refine wp_seq<|zh [.v 2 _] [.g 0,.o 0] O (zv rfl (za2 zat) o0) (zz [(0,_),(2,_)] [] fun a w O=>?_)
 refine zt<|wp_seq<|zh [.v 13 _,.v 14 _,.v 15 _,.v 16 _] [.g 0,.g 1,.o 3] O (zv rfl (za1 (gq 0 rfl)) (zv rfl (za5 (xs:=[.tmp 13]) (zwl _) (.cons (vq 0 rfl) .nil)) (zv rfl (zd0 (D:=[]) (l:=[_]) (xs:=[.tmp 14]) (zfv zk) sl_60 zk (n_ok zk) nq nq nq (.cons (vq 1 rfl) .nil) rfl rfl) (zv rfl (za5 (xs:=[.tmp 15]) (beyond_c [_]) (.cons (vq 2 rfl) .nil)) o0)))) (zz [(0,_),(2,_),(16,_)] [] fun a w O=>?_)
 refine za0<|za8 O (zm 2 rfl) (fun hb0=>?_) (fun hb0=>?_)
 ·refine wp_seq<|zh [.v 2 _] [.g 0,.o 0] O (zv rfl (za2 zat) o0) (zz [(0,_),(2,_)] [] fun a w O=>?_)
  refine za0<|wp_ret<|zaf ?_
  refine zal ?_ (zac rfl O (zm 1 rfl))
  exact zbv
 ·obtain ⟨hl,hbs⟩:=byd_els hxs hb0
  refine wp_skip<|zt<|zh [.v 17 _,.v 18 _,.v 3 _] [.g 0,.g 1,.o 2] O (zv rfl (za1 (gq 0 rfl)) (zv rfl (za5 (xs:=[.tmp 17]) (zi4 xs zo hbs) (.cons (vq 0 rfl) .nil)) (zv rfl (za2 (vq 1 rfl)) o0))) (zz [(0,_),(2,_),(3,_)] [] fun a w O=>?_)
  have O:=St.setG (A':=andV (TwS 64 9 [U32] (xs.map RET) (REA ⟨77,rf0,rf0⟩)) (LsI 0 w.heap.size 64 9 [U32] (xs.map REN))) O 2 rfl (fun h=>⟨h.1,ls_top (lo:=0) (zcs fun _=>zku) (zv8 (fun _ _=>Nat.zero_le _) _ _ _ h.2)⟩)
  have O:=St.addSz O 9999
  obtain ⟨h1,eh1⟩:∃ h,w.heap.size=h:=⟨_,rfl⟩
  rw [eh1] at O
  have O:=zn [(0,_),(2,_),(3,_),(9999,_)] [] O
  refine zt<|zh [.v 20 _,.v 21 _,.v 19 _,.v 22 _,.v 23 _,.v 4 _,.v 5 _] [.g 0,.g 1,.g 2,.g 3,.o 5,.o 6] O (zv rfl (za1 (gq 2 rfl)) (zv rfl (zu9 (h:=h1) (s:=9999) (xs:=[.tmp 20]) (zr9 xs) (zcs fun _=>zku) (zcs fun _=>zhs) (ze6 _ _) (.cons (zsk (zcs zha)) .nil) (.cons (has_wk' (vq 0 rfl) zso) .nil) (gq 3 rfl)) (zv rfl (za1 (vq 1 rfl)) (zv rfl (zu8 (vq 2 rfl)) (zv rfl (zu7 (vq 2 rfl)) (zv rfl (za2 (vq 3 rfl)) (zv rfl (za2 (vq 4 rfl)) o0))))))) (zz [(0,_),(2,_),(3,_),(9999,_),(4,_),(5,_)] [] fun a w O=>?_)
  have O:=St.setG (A':=LsI h1 w.heap.size 64 9 [U32] ((revF xs).1.map REN)) O 4 rfl (fun h=>ls_top (zcs fun _=>zku) h)
  obtain ⟨qh2,O⟩:=St.newSz O 3 rfl
  obtain ⟨h2,eh2⟩:∃ h,w.heap.size=h:=⟨_,rfl⟩
  rw [eh2] at O qh2
  have O:=zn [(0,_),(2,_),(3,_),(9999,_),(4,_),(5,_)] [] O
  refine zt<|zg [] [⟨6,33,ptrH,some 5,_,some (6,_)⟩] [.v 25 _,.v 26 _,.v 24 _,.v 27 _,.v 28 _,.alc 0,.sto 0,.v 7 _] [.g 0,.g 1,.g 2,.g 3,.g 4,.g 5,.o 7] O (zv rfl (za1 (gq 2 rfl)) (zv rfl (zua (h:=h2) (s:=9999) (xs:=[.tmp 25]) (zvl xs) new_rfd zit zzp (ze6 _ _) (.cons (zsk (zcs zha)) .nil) (.cons (has_wk' (vq 0 rfl) zso) .nil) (gq 3 rfl)) (zv rfl (za1 (vq 1 rfl)) (zv rfl (zu8 (vq 2 rfl)) (zv rfl (zu7 (vq 2 rfl)) (oc (zb0 rfl rfl rfl (Str.zero zbz)) (oc (zan rfl rfl rfl (vq 3 rfl) zb5 (Eq.trans (b:=4) rfl rfl)) (zv rfl (za2 (vq 4 rfl)) o0)))))))) (zz [(0,_),(2,_),(3,_),(9999,_),(4,_),(5,_),(7,_)] [⟨6,33,ptrH,_⟩] fun a w O=>?_)
  obtain ⟨m6,n6,b6,o6,O⟩:=St.nameL (A:=RFN (lenF xs).1) (AP:=(fun m:Nat→Value=>FracP (lenF xs).1 (m 0) (m 1))) (kl:=(fun m:Nat→Value=>kf (lenF xs).1 (m 0) (m 1))) dis_wk znw zoc O 0 rfl
  obtain ⟨qh3,O⟩:=St.newSz O 3 rfl
  obtain ⟨h3,eh3⟩:∃ h,w.heap.size=h:=⟨_,rfl⟩
  rw [eh3] at O qh3 b6
  have O:=zn [(0,_),(2,_),(3,_),(9999,_),(4,_),(5,_),(7,_)] [⟨6,33,ptrH,_⟩] O
  refine zt<|zg [none] [] [.v 30 _,.v 31 _,.v 29 _,.v 32 _,.v 33 _,.v 8 _,.v 9 _] [.g 0,.g 1,.g 2,.g 3,.g 4,.g 5,.g 6,.o 5,.o 6] O (zv rfl (za1 (gq 0 rfl)) (zv rfl (za5 (xs:=[.tmp 30]) (zm9 xs) (.cons (vq 0 rfl) .nil)) (zv rfl (za1 (vq 1 rfl)) (zv rfl (zu8 (vq 2 rfl)) (zv rfl (zu7 (vq 2 rfl)) (zv rfl (za2 (vq 3 rfl)) (zv rfl (za2 (vq 4 rfl)) o0))))))) (zz [(0,_),(2,_),(3,_),(9999,_),(4,_),(5,_),(7,_),(8,_),(9,_)] [⟨6,33,ptrH,_⟩] fun a w O=>?_)
  refine zt<|zg [none] [⟨10,33,ptrH,some 5,_,some (6,_)⟩] [.v 35 _,.v 36 _,.v 34 _,.v 37 _,.v 38 _,.alc 1,.sto 1,.v 11 _] [.g 0,.g 1,.g 2,.g 3,.g 4,.g 5,.g 6,.g 7,.g 8,.o 7] O (zv rfl (za1 (gq 0 rfl)) (zv rfl (za5 (xs:=[.tmp 35]) (znk xs) (.cons (vq 0 rfl) .nil)) (zv rfl (za1 (vq 1 rfl)) (zv rfl (zu8 (vq 2 rfl)) (zv rfl (zu7 (vq 2 rfl)) (oc (zb0 rfl rfl rfl (Str.zero zbz)) (oc (zan rfl rfl rfl (vq 3 rfl) zb5 (Eq.trans (b:=4) rfl rfl)) (zv rfl (za2 (vq 4 rfl)) o0)))))))) (zz [(0,_),(2,_),(3,_),(9999,_),(4,_),(5,_),(7,_),(8,_),(9,_),(11,_)] [⟨6,33,ptrH,_⟩,⟨10,33,ptrH,_⟩] fun a w O=>?_)
  refine zt<|wp_seq<|gl (sts:=[none,none]) (news:=[]) (sp:=((.v 39 _:Sp)::(.v 40 _)::(.v 41 _)::(.v 42 _)::(.v 43 (Wh (_=false) _))::(.v 44 (Wh (_=false) _))::(.v 45 (Wh (_=false) _))::(.v 46 _)::(.v 47 _)::(.v 48 (Wh (_=false) _))::(.v 49 (Wh (_=false) _))::(.v 50 (Wh (_=false) _))::(.v 51 (Wh (_=false) _))::(.v 52 _)::(.v 53 _)::(.v 54 (Wh (_=false) _))::(.v 55 (Wh (_=false) _))::(.v 56 (Wh (_=false) _))::(.v 57 (Wh (_=false) _))::(.v 58 _)::(.v 59 _)::(.v 60 (Wh (_=false) _))::(.v 61 (Wh (_=false) _))::(.v 62 (Wh (_=false) _))::(.v 63 (Wh (_=false) _))::(.v 64 _)::[])) [.g 1,.g 2,.g 3,.g 4,.o 25] O (zv rfl (za1 (gq 5 rfl)) (zv rfl (za1 (gq 8 rfl)) (zv rfl (zdp (vq 0 rfl) (vq 1 rfl)) (zv rfl (za1 (vq 2 rfl)) (oc (zai rfl rfl rfl (vq 3 rfl) nq (fun hg=>za1 (gq 6 rfl))) (oc (zai rfl rfl rfl (vq 3 rfl) nq (fun hg=>za1 (gq 9 rfl))) (oc (zai rfl rfl rfl (vq 3 rfl) nq (fun hg=>zdp (zaa (vq 4 rfl) hg) (zaa (vq 5 rfl) hg))) (zv rfl (r_or (vq 3 rfl) (vq 6 rfl)) (zv rfl (za1 (vq 7 rfl)) (oc (zai rfl rfl rfl (vq 8 rfl) nq (fun hg=>za1 (gq 4 rfl))) (oc (zai rfl rfl rfl (vq 8 rfl) nq (fun hg=>za1 (gq 7 rfl))) (oc (zai rfl rfl rfl (vq 8 rfl) nq (fun hg=>za5 (xs:=[.tmp 48,.tmp 49]) (zti (revF xs).1 (revF xs).1) (.cons (has_wk' (zaa (vq 9 rfl) hg) lsq_sla) (.cons (zaa (vq 10 rfl) hg) .nil)))) (oc (zai rfl rfl rfl (vq 8 rfl) nq (fun hg=>zf7 (zaa (vq 11 rfl) hg))) (zv rfl (r_or (vq 8 rfl) (vq 12 rfl)) (zv rfl (za1 (vq 13 rfl)) (oc (zai rfl rfl rfl (vq 14 rfl) nq (fun hg=>zay (lz0 0 rfl) zb5)) (oc (zai rfl rfl rfl (vq 14 rfl) nq (fun hg=>zay (lz0 1 rfl) zb5)) (oc (zai rfl rfl rfl (vq 14 rfl) nq (fun hg=>za5 (xs:=[.tmp 54,.tmp 55]) (zgy _ _) (.cons (has_wk' (zaa (vq 15 rfl) hg) frp_rfa.va) (.cons (zaa (vq 16 rfl) hg) .nil)))) (oc (zai rfl rfl rfl (vq 14 rfl) nq (fun hg=>zf7 (zaa (vq 17 rfl) hg))) (zv rfl (r_or (vq 14 rfl) (vq 18 rfl)) (zv rfl (za1 (vq 19 rfl)) (oc (zai rfl rfl rfl (vq 20 rfl) nq (fun hg=>za1 (gq 2 rfl))) (oc (zai rfl rfl rfl (vq 20 rfl) nq (fun hg=>za1 (gq 0 rfl))) (oc (zai rfl rfl rfl (vq 20 rfl) nq (fun hg=>za5 (xs:=[.tmp 60,.tmp 61]) (zjg xs xs zo hbs) (.cons (has_wk' (zaa (vq 21 rfl) hg) andV_1) (.cons (zaa (vq 22 rfl) hg) .nil)))) (oc (zai rfl rfl rfl (vq 20 rfl) nq (fun hg=>zf7 (zaa (vq 23 rfl) hg))) (zv rfl (r_or (vq 20 rfl) (vq 24 rfl)) o0)))))))))))))))))))))))))) (zz [(2,_),(3,_),(9999,_),(4,_),(64,_)] [⟨6,33,ptrH,_⟩,⟨10,33,ptrH,_⟩] fun a w O=>?_)
  refine za0<|za8 O (zm 4 rfl) (fun hb1=>?_) (fun hb1=>?_)
  ·exact absurd hb1 (by simp)
  ·refine wp_skip<|zt<|zg [none,none] [⟨12,55,ptrH,some 1,_,some (2,_)⟩] [.v 65 _,.alc 2,.sto 2] [.g 0,.g 1,.g 2,.g 3] O (zv rfl (zbn (xs:=[]) (qs:=[]) zxv .nil) (oc (zb0 rfl rfl rfl zsf) (oc (zan rfl rfl rfl (vq 0 rfl) ty_55 (Eq.trans (b:=17) rfl rfl)) o0))) (zz [(2,_),(3,_),(9999,_),(4,_)] [⟨6,33,ptrH,_⟩,⟨10,33,ptrH,_⟩,⟨12,55,ptrH,_⟩] fun a w O=>?_)
   have O:=St.wkL (A':=BkF [] [] []) O 2 rfl zbk_bkf
   have O:=St.wkG O 1 rfl andV_2
   obtain ⟨v3,m3,n3,b3,o3,c3,O⟩:=St.nameLs (z:=reO) (AP:=EleP) zmv (fun _ _=>rfl) zqg O 1 rfl
   obtain ⟨v4,m4,n4,b4,o4,c4,O⟩:=St.nameLs (z:=reO) (AP:=EleP) zmv (fun _ _=>rfl) zqg O 3 rfl
   have hry:=rev_len xs
   have es_sep1:∀ p∈[(v3,xs.length)],∀ g,p.1.ownBlock=some g→v4.ownBlock≠some g:=fun p hp g hg hv=>by
    obtain rfl:=List.mem_singleton.1 hp
    have q1:=c3 g hg
    have q2:=c4 g hv
    omega
   have O:=zn [(2,_),(3,_),(9999,_),(4,_)] [⟨6,33,ptrH,_⟩,⟨10,33,ptrH,_⟩,⟨12,55,ptrH,_⟩] O
   refine zt ?_
   have hq0:=zo2 ivk_nil n3 b3 zo3
   have hq1:=zo2 hq0 n4 b4 (zo4 zo3 zo)
   have hq2:=zo2 hq1 n6 b6 (zo4 (zo4 zo3 zo) zo)
   refine zc2 (sp:=[.v 66 _,.v 67 VT]) 1 1 99 1 OneC [.g 0,.g 2,.g 3,.o 0] O (zv rfl (za1 (gq 1 rfl)) o0) rfl zd zk zk (zz [(2,_),(9999,_),(4,_),(66,_)] [⟨6,33,ptrH,_⟩,⟨10,33,ptrH,_⟩,⟨12,55,ptrH,_⟩] fun a w O=>?_)
   rw [show List.range' 1 1=[1] from rfl]
   rw [wpOps_cons]
   refine zdy (A1:=BkF (([]++lsK reO ke m3 xs xs.length)) [] ([(v3,xs.length)])) (xs:=[.tmp 66]) [0,1,2] [3] 2 rfl O (zmj ([]) [] ([]) hq0.nd (fun p hp=>by cases hp) (by show 0+4*xs.length+0+0≤999900; omega)) rfl rfl (.cons ⟨_,rfl,rfl⟩ .nil) rfl (zkx hB) zd zk zk zk zk (fun a w O=>?_)
   refine zby ?_
   have O:=zn [(67,_),(2,_),(9999,_),(4,_)] [⟨6,33,ptrH,_⟩,⟨10,33,ptrH,_⟩,⟨12,55,ptrH,BkF (([]++lsK reO ke m3 xs xs.length)) [] ([(v3,xs.length)])⟩] O
   refine zt<|zc2 (sp:=[.v 68 _,.v 69 VT]) 1 1 99 1 OneC [.g 1,.g 2,.o 0] O (zv rfl (za1 (gq 3 rfl)) o0) rfl zd zk zk (zz [(2,_),(9999,_),(68,_)] [⟨6,33,ptrH,_⟩,⟨10,33,ptrH,_⟩,⟨12,55,ptrH,_⟩] fun a w O=>?_)
   rw [show List.range' 1 1=[1] from rfl]
   rw [wpOps_cons]
   refine zdy (A1:=BkF ((([]++lsK reO ke m3 xs xs.length)++lsK reO ke m4 (revF xs).1 (revF xs).1.length)) [] ([(v3,xs.length),(v4,(revF xs).1.length)])) (xs:=[.tmp 68]) [0,1] [2] 2 rfl O (zmj (([]++lsK reO ke m3 xs xs.length)) [] ([(v3,xs.length)]) hq1.nd (es_sep1) (by have k6:(kf (lenF xs).1 (m6 0) (m6 1)).length=2:=rfl; simp only [List.length_append,List.length_nil,List.length_cons,zcu,k6]; omega)) rfl rfl (.cons ⟨_,rfl,rfl⟩ .nil) rfl (zkx hB) zd zk zk zk zk (fun a w O=>?_)
   refine zby ?_
   have O:=zn [(69,_),(2,_),(9999,_)] [⟨6,33,ptrH,_⟩,⟨10,33,ptrH,_⟩,⟨12,55,ptrH,BkF ((([]++lsK reO ke m3 xs xs.length)++lsK reO ke m4 (revF xs).1 (revF xs).1.length)) [] ([(v3,xs.length),(v4,(revF xs).1.length)])⟩] O
   refine zt<|zc2 (sp:=[.v 70 _,.v 71 VT]) 1 1 99 1 OneC [.g 1,.g 2,.o 0] O (zv rfl (zay (lz0 0 rfl) zb5) o0) rfl zd zk zk (zz [(2,_),(9999,_),(70,_)] [⟨6,33,ptrH,_⟩,⟨10,33,ptrH,_⟩,⟨12,55,ptrH,_⟩] fun a w O=>?_)
   rw [show List.range' 1 1=[1] from rfl]
   rw [wpOps_cons]
   refine zdy (A1:=BkF (((([]++lsK reO ke m3 xs xs.length)++lsK reO ke m4 (revF xs).1 (revF xs).1.length)++kf (lenF xs).1 (m6 0) (m6 1))) [] ([(v3,xs.length),(v4,(revF xs).1.length)])) (xs:=[.tmp 70]) [0,1] [2] 2 rfl O (zl3 (lenF xs).1 (m6 0) (m6 1) ((([]++lsK reO ke m3 xs xs.length)++lsK reO ke m4 (revF xs).1 (revF xs).1.length)) [] ([(v3,xs.length),(v4,(revF xs).1.length)]) hq2.nd (by have k6:(kf (lenF xs).1 (m6 0) (m6 1)).length=2:=rfl; simp only [List.length_append,List.length_nil,List.length_cons,zcu,k6]; omega)) rfl rfl (.cons ⟨_,rfl,rfl⟩ .nil) rfl (zkx hB) zd zk zk zk zk (fun a w O=>?_)
   refine zby ?_
   have O:=zn [(71,_),(2,_),(9999,_)] [⟨6,33,ptrH,_⟩,⟨10,33,ptrH,_⟩,⟨12,55,ptrH,BkF (((([]++lsK reO ke m3 xs xs.length)++lsK reO ke m4 (revF xs).1 (revF xs).1.length)++kf (lenF xs).1 (m6 0) (m6 1))) [] ([(v3,xs.length),(v4,(revF xs).1.length)])⟩] O
   refine zt ?_
   have O:=St.selL O [2]
   refine zzh (m:=1) zk ?_
   refine zdy (A1:=JkA) (xs:=[]) [] [] 0 rfl O (apartF_c (((([]++lsK reO ke m3 xs xs.length)++lsK reO ke m4 (revF xs).1 (revF xs).1.length)++kf (lenF xs).1 (m6 0) (m6 1))) [] ([(v3,xs.length),(v4,(revF xs).1.length)]) (okK_len (zie (zie (zie okK_nil o3) o4) o6) (zif (zif (zif lnK_nil (lnK_ls hbs)) (lnK_ls (rev_bd hbs))) (lnK_f (bd_len xs)))) (fun p hp=>by cases hp) (fun p hp=>by simp only [List.mem_cons,List.not_mem_nil,or_false] at hp; rcases hp with rfl | rfl <;> (show _≤_; omega)) (by have k6:(kf (lenF xs).1 (m6 0) (m6 1)).length=2:=rfl; simp only [List.length_append,List.length_nil,List.length_cons,zcu,k6]; omega)) rfl rfl .nil rfl (zkx hB) zd zk zk zk zk (zz [(72,Bo true)] [⟨12,_,ptrH,JkA⟩] fun a w O=>?_)
   refine zze (sp:=[.v 72 (Bo true),.v 2 _]) [.o 1] O rfl zk (zv rfl (za2 (vq 0 rfl)) o0) zk zk (zz [(2,_)] [⟨12,55,ptrH,_⟩] fun a w O=>?_)
   refine za0<|wp_ret<|zal ?_ (zac rfl O (zm 0 rfl))
   refine zbw (congrArg Bo ?_); simp
end Go.Proofs.YtmfgafhlaeolgaaGreatDoor
