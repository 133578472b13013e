import Derived.Test.YtpnhpldlecmbdaaGreatDoorBmAa
import Derived.Test.YtpnhpldlecmbdaaGreatDoorBmAc
import Derived.Test.YtpnhpldlecmbdaaGreatDoorBmBc
import Derived.Test.YtpnhpldlecmbdaaGreatDoorBmBd
import Derived.Test.YtpnhpldlecmbdaaGreatDoorBmBf
set_option linter.unusedVariables false
set_option linter.unusedSimpArgs false
set_option linter.unusedSectionVars false
set_option maxRecDepth 100000
namespace Go.Proofs.YtpnhpldlecmbdaaGreatDoor
open Go Go.RowKit
theorem bd_ben (xs:List RE):bdM (benF xs).1:=by
 unfold benF
 split
 ·exact bd_as _
 ·exact ⟨zfo,zfo,zfo,zfo⟩
theorem bd_be1 (x:RE):bdM (be1F x).1:=by
 unfold be1F
 split
 ·exact bd_as _
 ·exact ⟨zfo,zfo,zfo,zfo⟩
theorem byd_elp {xs:List RE}{e:RE}(hs:(∀ y∈xs,wdE y)∧xs.length≤140737488355328)(he:wdE e)(h:bydF 0 [elsF (xs.length:Nat) xs,elCostF e]=false):(xs.length≤209715∧∀ x∈xs,bdF x.p∧bdF x.q)∧(bdF e.p∧bdF e.q):=by
 obtain ⟨c,h1,h2,h3⟩:=els_ok xs xs.length hs.1 zo
 obtain ⟨a,b,e1,l,hb⟩:=zyi he
 rw [h1,e1] at h
 have:=byd_0 (l:=[c,a+b]) (by simp; omega) h
 simp at this
 obtain ⟨h4,h5⟩:=h3 zo
 refine ⟨⟨by omega,els_bd h5 zo⟩,?_⟩
 unfold bdF
 omega
section
variable {B N:Nat} {w0:Bs} {Γ:List (Nat × VA)} {Λ:List Lc} {a:Act} {w:World}
theorem St.geIv (h:St B w0 N Γ Λ a w){s lo:Nat}{T:TypeId}{H:Hd}{A:As}(k:Nat)(hm:Λ[k]?=some ⟨s,T,H,GeA lo A⟩)(hnew:NewA A):St B w0 N Γ (Λ.set k ⟨s,T,H,IvA lo w.heap.size A⟩) a w :=
 h.setL k hm fun cs hp=>⟨hp.1,hp.2.1,fun g hg=>⟨hp.2.2 g hg,(hnew _ _ _ hp.1 g hg).2⟩⟩
theorem St.nameI {M:Type}{s lo hi:Nat}{T:TypeId}{H:Hd}{A0 A:As}{AP:M→As}{kl:M→KL}(hw:WkA A0 A)(hs:∀ {B:Nat} {cs:List Value} {w:World},A.p B cs w→∃ m,(AP m).p B cs w∧cbl cs=kbl (kl m)∧OkK (kl m))(h:St B w0 N Γ Λ a w)(k:Nat)(hm:Λ[k]?=some ⟨s,T,H,IvA lo hi A0⟩) :
  ∃ m,(kbl (kl m)).Nodup∧(∀ g∈kbl (kl m),lo≤g∧g<hi)∧OkK (kl m)∧St B w0 N Γ (Λ.set k ⟨s,T,H,AP m⟩) a w:=by
 obtain ⟨g,cs,q1,q2,q3,hp,hn,hl⟩:=h.locs _ (List.mem_of_getElem? hm)
 have hA:=hw.2.2 _ _ _ hp
 obtain ⟨m,p1,e,ok⟩:=hs hA
 refine ⟨m,by rw [← e]; exact hn,fun g hg=>by rw [← e] at hg; exact hl g hg,ok,?_⟩
 have hss:∀ m'∈Λ.set k ⟨s,T,H,AP m⟩,∃ m0∈Λ,m0.s=m'.s:=fun m' hm'=>by
  rcases List.mem_or_eq_of_mem_set hm' with hm' | rfl
  ·exact ⟨m',hm',rfl⟩
  ·exact ⟨_,List.mem_of_getElem? hm,rfl⟩
 refine ⟨h.lo,h.defers,h.size,h.base,h.vals,fun l hl=>?_,fun m1 hm1 m2 hm2 hne=>?_⟩
 ·rcases List.mem_or_eq_of_mem_set hl with hl | rfl
  ·exact h.locs l hl
  ·exact ⟨g,cs,q1,q2,q3,p1⟩
 ·obtain ⟨m3,r1,r2⟩:=hss m1 hm1
  obtain ⟨m4,r3,r4⟩:=hss m2 hm2
  rw [← r2,← r4] at hne ⊢
  exact h.dis m3 r1 m4 r3 hne
end
set_option maxHeartbeats 4000000 in
theorem benms_w (xs:List RE)(hxs:(∀ y∈xs,wdE y)∧xs.length≤140737488355328)(e:RE)(he:wdE e):Cn Tryz.prog 3 [(SlA 30 [U32] (xs.map REA)).va,(REA e).va] (Bo true):=by
 refine Cn.introW Tryz.func3 rfl zk nq (.cons (up_slA (zet zif)) (.cons (zif _).va .nil)) (zev _).va (fun B w0 a hB0 O=>?_)
 have O:=zn [(0,(SlA 30 [U32] (xs.map REA)).va),(1,(REA e).va)] [] O
 have hB:=hB0
 refine wp_seq<|zg [] [⟨3,30,ptrH,some 0,_,none⟩] [.alc 0,.v 4 _] [.g 0,.o 1] O (oc (zal rfl rfl rfl (gq 1 rfl)) (zv rfl (za2 zb0) o0)) (zz [(0,_),(4,_)] [⟨3,30,ptrH,_⟩] fun a w O=>?_)
 refine zt<|wp_seq<|zgd [[],[0],[],[0,1,2],[0,1,2,3],[0,1,2,3,4]] [none] [] [.v 16 _,.v 17 _,.v 18 _,.v 19 _,.v 20 _,.v 21 _] [.g 0,.g 1,.o 5] za6 O (zv rfl (za1 (gq 0 rfl)) (zv rfl (za5 (xs:=[.tmp 16]) (zyh _) (.cons (vq 0 rfl) .nil)) (zv rfl (zaq (lz0 0 rfl) zd8) (zv rfl (za5 (xs:=[.tmp 18]) (zst _) (.cons (vq 2 rfl) .nil)) (zv rfl (zdr (D:=[]) (l:=[_,_]) (xs:=[.tmp 17,.tmp 19]) (zh0 zk) sl_69 zk (n_ok zk) nq nq nq (.cons (vq 1 rfl) (.cons (vq 3 rfl) .nil)) rfl rfl) (zv rfl (za5 (xs:=[.tmp 20]) (beyond_c [_,_]) (.cons (vq 4 rfl) .nil)) o0)))))) zk zk zk zk (zz [(0,_),(4,_),(21,_)] [⟨3,30,ptrH,_⟩] fun a w O=>?_)
 refine za0<|za8 O (zm 2 rfl) (fun hb0=>?_) (fun hb0=>?_)
 ·refine wp_seq<|zg [none] [] [.v 4 _] [.g 0,.o 0] O (zv rfl (za2 zb0) o0) (zz [(0,_),(4,_)] [⟨3,30,ptrH,_⟩] fun a w O=>?_)
  refine za0<|wp_ret<|zak ?_
  refine zag ?_ (zah rfl O (zm 1 rfl))
  exact zbh
 ·obtain ⟨⟨hl,hbs⟩,hbe⟩:=byd_elp hxs he hb0
  refine wp_skip<|zt<|zg [none] [] [.v 22 _,.v 23 _,.v 5 _] [.g 0,.g 1,.o 2] O (zv rfl (za1 (gq 0 rfl)) (zv rfl (za5 (xs:=[.tmp 22]) (zjm xs zo hbs) (.cons (vq 0 rfl) .nil)) (zv rfl (za2 (vq 1 rfl)) o0))) (zz [(0,_),(4,_),(5,_)] [⟨3,30,ptrH,_⟩] fun a w O=>?_)
  have O:=St.setG (A':=andV (TwS 30 9 [U32] (xs.map RET) (REA ⟨77,rf0,rf0⟩)) (LsI 0 w.heap.size 30 9 [U32] (xs.map REN))) O 2 rfl (fun h=>⟨h.1,ls_top (lo:=0) (zet fun _=>new_ren) (ls_imp (fun _ _=>Nat.zero_le _) _ _ _ h.2)⟩)
  have O:=St.addSz O 9999
  obtain ⟨h1,eh1⟩:∃ h,w.heap.size=h:=⟨_,rfl⟩
  rw [eh1] at O
  have O:=zn [(0,_),(4,_),(5,_),(9999,_)] [⟨3,30,ptrH,_⟩] O
  refine zt<|zc6 (sp:=[.v 24 _,.v 25 _,.v 6 VT,.sto 0]) 2 2 0 3 OneC [.g 0,.g 1,.g 2,.g 3,.o 1] O (zv rfl (zaq (lz0 0 rfl) zd8) (zv rfl (zre (h:=h1) (s:=9999) (xs:=[.tmp 24]) (zgm e hbe) zme zic zse (.cons (zif _).va .nil) (.cons (vq 0 rfl) .nil) (gq 3 rfl)) o0)) rfl zd zk zk (zz [(0,_),(4,_),(5,_),(9999,_),(25,_)] [⟨3,30,ptrH,_⟩] fun a w O=>?_)
  rw [show List.range' 2 2=[2,3] from rfl]
  refine zgy (A:=GeA h1 (TED e)) 4 [0,1,2,3] rfl rfl O (Str.zero zf8) rfl zd8 rfl zd rfl zk zk (fun a w O=>?_)
  refine zbt ?_
  have O:=zn [(0,_),(4,_),(5,_),(9999,_)] [⟨3,30,ptrH,_⟩,⟨6,30,ptrH,_⟩] O
  have O:=St.geIv O 1 rfl zme
  obtain ⟨qh2,O⟩:=St.newSz O 3 rfl
  obtain ⟨h2,eh2⟩:∃ h,w.heap.size=h:=⟨_,rfl⟩
  rw [eh2] at O qh2
  have O:=zn [(0,_),(4,_),(5,_),(9999,_)] [⟨3,30,ptrH,_⟩,⟨6,30,ptrH,_⟩] O
  refine zt<|zg [none,none] [⟨7,37,ptrH,some 5,_,some (6,_)⟩] [.v 27 _,.v 28 _,.v 26 _,.v 29 _,.v 30 _,.alc 2,.sto 2,.v 8 _] [.g 0,.g 1,.g 2,.g 3,.o 7] O (zv rfl (za1 (gq 2 rfl)) (zv rfl (zo7 (h:=h2) (s:=9999) (xs:=[.tmp 27]) (zpd xs) zx4 zic zsf (zfi _ _) (.cons (up_slA (zet zif)) .nil) (.cons (has_wk' (vq 0 rfl) zuy) .nil) (gq 3 rfl)) (zv rfl (za1 (vq 1 rfl)) (zv rfl (zo6 (vq 2 rfl)) (zv rfl (zo5 (vq 2 rfl)) (oc (zam rfl rfl rfl (Str.zero zar)) (oc (zaa rfl rfl rfl (vq 3 rfl) zb1 (Eq.trans (b:=16) rfl rfl)) (zv rfl (za2 (vq 4 rfl)) o0)))))))) (zz [(0,_),(4,_),(5,_),(9999,_),(8,_)] [⟨3,30,ptrH,_⟩,⟨6,30,ptrH,_⟩,⟨7,37,ptrH,_⟩] fun a w O=>?_)
  obtain ⟨m7,n7,b7,o7,O⟩:=St.nameL (A:=RMN (benF xs).1) (AP:=(fun m:Nat→Value=>MatP (benF xs).1 m)) (kl:=(fun m:Nat→Value=>km (benF xs).1 m)) dis_wk zx3 zoh O 2 rfl
  obtain ⟨qh3,O⟩:=St.newSz O 3 rfl
  obtain ⟨h3,eh3⟩:∃ h,w.heap.size=h:=⟨_,rfl⟩
  rw [eh3] at O qh3 b7
  have O:=zn [(0,_),(4,_),(5,_),(9999,_),(8,_)] [⟨3,30,ptrH,_⟩,⟨6,30,ptrH,_⟩,⟨7,37,ptrH,_⟩] O
  refine zt<|zg [none,none,none] [⟨9,37,ptrH,some 5,_,some (6,_)⟩] [.v 32 _,.v 33 _,.v 31 _,.v 34 _,.v 35 _,.alc 3,.sto 3,.v 10 _] [.g 0,.g 1,.g 2,.g 3,.g 4,.o 7] O (zv rfl (zaq (lz0 1 rfl) zd8) (zv rfl (zo7 (h:=h3) (s:=9999) (xs:=[.tmp 32]) (zz6 e) zx4 zic zsf (zfi _ _) (.cons (zif _).va .nil) (.cons (has_wk' (has_wk' (vq 0 rfl) (iv_wk.trans dis_wk).va) wkA_ret.va) .nil) (gq 3 rfl)) (zv rfl (za1 (vq 1 rfl)) (zv rfl (zo6 (vq 2 rfl)) (zv rfl (zo5 (vq 2 rfl)) (oc (zam rfl rfl rfl (Str.zero zar)) (oc (zaa rfl rfl rfl (vq 3 rfl) zb1 (Eq.trans (b:=16) rfl rfl)) (zv rfl (za2 (vq 4 rfl)) o0)))))))) (zz [(0,_),(4,_),(5,_),(9999,_),(8,_),(10,_)] [⟨3,30,ptrH,_⟩,⟨6,30,ptrH,_⟩,⟨7,37,ptrH,_⟩,⟨9,37,ptrH,_⟩] fun a w O=>?_)
  obtain ⟨m9,n9,b9,o9,O⟩:=St.nameL (A:=RMN (be1F e).1) (AP:=(fun m:Nat→Value=>MatP (be1F e).1 m)) (kl:=(fun m:Nat→Value=>km (be1F e).1 m)) dis_wk zx3 zoh O 3 rfl
  obtain ⟨qh4,O⟩:=St.newSz O 3 rfl
  obtain ⟨h4,eh4⟩:∃ h,w.heap.size=h:=⟨_,rfl⟩
  rw [eh4] at O qh4 b9
  have O:=zn [(0,_),(4,_),(5,_),(9999,_),(8,_),(10,_)] [⟨3,30,ptrH,_⟩,⟨6,30,ptrH,_⟩,⟨7,37,ptrH,_⟩,⟨9,37,ptrH,_⟩] O
  refine zt<|zg [none,none,none,none] [⟨11,37,ptrH,some 5,_,some (6,_)⟩] [.v 37 _,.v 38 _,.v 36 _,.v 39 _,.v 40 _,.alc 4,.sto 4,.v 12 _] [.g 0,.g 1,.g 2,.g 3,.g 4,.g 5,.o 7] O (zv rfl (za1 (gq 0 rfl)) (zv rfl (za5 (xs:=[.tmp 37]) (zpv xs) (.cons (vq 0 rfl) .nil)) (zv rfl (za1 (vq 1 rfl)) (zv rfl (zo6 (vq 2 rfl)) (zv rfl (zo5 (vq 2 rfl)) (oc (zam rfl rfl rfl (Str.zero zar)) (oc (zaa rfl rfl rfl (vq 3 rfl) zb1 (Eq.trans (b:=16) rfl rfl)) (zv rfl (za2 (vq 4 rfl)) o0)))))))) (zz [(0,_),(4,_),(5,_),(9999,_),(8,_),(10,_),(12,_)] [⟨3,30,ptrH,_⟩,⟨6,30,ptrH,_⟩,⟨7,37,ptrH,_⟩,⟨9,37,ptrH,_⟩,⟨11,37,ptrH,_⟩] fun a w O=>?_)
  refine zt<|zg [none,none,none,none,none] [⟨13,37,ptrH,some 5,_,some (6,_)⟩] [.v 42 _,.v 43 _,.v 41 _,.v 44 _,.v 45 _,.alc 5,.sto 5,.v 14 _] [.g 0,.g 1,.g 2,.g 3,.g 4,.g 5,.g 6,.o 7] O (zv rfl (zaq (lz0 0 rfl) zd8) (zv rfl (za5 (xs:=[.tmp 42]) (r10one_c e) (.cons (vq 0 rfl) .nil)) (zv rfl (za1 (vq 1 rfl)) (zv rfl (zo6 (vq 2 rfl)) (zv rfl (zo5 (vq 2 rfl)) (oc (zam rfl rfl rfl (Str.zero zar)) (oc (zaa rfl rfl rfl (vq 3 rfl) zb1 (Eq.trans (b:=16) rfl rfl)) (zv rfl (za2 (vq 4 rfl)) o0)))))))) (zz [(0,_),(4,_),(5,_),(9999,_),(8,_),(10,_),(12,_),(14,_)] [⟨3,30,ptrH,_⟩,⟨6,30,ptrH,_⟩,⟨7,37,ptrH,_⟩,⟨9,37,ptrH,_⟩,⟨11,37,ptrH,_⟩,⟨13,37,ptrH,_⟩] fun a w O=>?_)
  refine zt<|wp_seq<|gl (sts:=[none,none,none,none,none,none]) (news:=[]) (sp:=((.v 46 _:Sp)::(.v 47 _)::(.v 48 _)::(.v 49 _)::(.v 50 (Wh (_=false) _))::(.v 51 (Wh (_=false) _))::(.v 52 (Wh (_=false) _))::(.v 53 _)::(.v 54 _)::(.v 55 (Wh (_=false) _))::(.v 56 (Wh (_=false) _))::(.v 57 (Wh (_=false) _))::(.v 58 (Wh (_=false) _))::(.v 59 (Wh (_=false) _))::(.v 60 _)::(.v 61 _)::(.v 62 (Wh (_=false) _))::(.v 63 (Wh (_=false) _))::(.v 64 (Wh (_=false) _))::(.v 65 (Wh (_=false) _))::(.v 66 _)::(.v 67 _)::(.v 68 (Wh (_=false) _))::(.v 69 (Wh (_=false) _))::(.v 70 (Wh (_=false) _))::(.v 71 (Wh (_=false) _))::(.v 72 _)::(.v 73 _)::(.v 74 (Wh (_=false) _))::(.v 75 (Wh (_=false) _))::(.v 76 (Wh (_=false) _))::(.v 77 (Wh (_=false) _))::(.v 78 _)::(.v 79 _)::(.v 80 (Wh (_=false) _))::(.v 81 (Wh (_=false) _))::(.v 82 (Wh (_=false) _))::(.v 83 (Wh (_=false) _))::(.v 84 _)::[])) [.g 1,.g 2,.g 3,.o 38] O (zv rfl (za1 (gq 4 rfl)) (zv rfl (za1 (gq 6 rfl)) (zv rfl (ze5 (vq 0 rfl) (vq 1 rfl)) (zv rfl (za1 (vq 2 rfl)) (oc (zao rfl rfl rfl (vq 3 rfl) nq (fun hg=>za1 (gq 5 rfl))) (oc (zao rfl rfl rfl (vq 3 rfl) nq (fun hg=>za1 (gq 7 rfl))) (oc (zao rfl rfl rfl (vq 3 rfl) nq (fun hg=>ze5 (zad (vq 4 rfl) hg) (zad (vq 5 rfl) hg))) (zv rfl (r_or (vq 3 rfl) (vq 6 rfl)) (zv rfl (za1 (vq 7 rfl)) (oc (zao rfl rfl rfl (vq 8 rfl) nq (fun hg=>za1 (gq 2 rfl))) (oc (zao rfl rfl rfl (vq 8 rfl) nq (fun hg=>za5 (xs:=[.tmp 55]) (zlo xs) (.cons (has_wk' (zad (vq 9 rfl) hg) zuy) .nil))) (oc (zao rfl rfl rfl (vq 8 rfl) nq (fun hg=>za1 (gq 0 rfl))) (oc (zao rfl rfl rfl (vq 8 rfl) nq (fun hg=>za5 (xs:=[.tmp 57]) (zlb xs) (.cons (zad (vq 11 rfl) hg) .nil))) (oc (zao rfl rfl rfl (vq 8 rfl) nq (fun hg=>ze5 (zad (vq 10 rfl) hg) (zad (vq 12 rfl) hg))) (zv rfl (r_or (vq 8 rfl) (vq 13 rfl)) (zv rfl (za1 (vq 14 rfl)) (oc (zao rfl rfl rfl (vq 15 rfl) nq (fun hg=>zaq (lz0 2 rfl) zb1)) (oc (zao rfl rfl rfl (vq 15 rfl) nq (fun hg=>zaq (lz0 4 rfl) zb1)) (oc (zao rfl rfl rfl (vq 15 rfl) nq (fun hg=>za5 (xs:=[.tmp 62,.tmp 63]) (zig _ _) (.cons (has_wk' (zad (vq 16 rfl) hg) matp_rma.va) (.cons (zad (vq 17 rfl) hg) .nil)))) (oc (zao rfl rfl rfl (vq 15 rfl) nq (fun hg=>zey (zad (vq 18 rfl) hg))) (zv rfl (r_or (vq 15 rfl) (vq 19 rfl)) (zv rfl (za1 (vq 20 rfl)) (oc (zao rfl rfl rfl (vq 21 rfl) nq (fun hg=>zaq (lz0 3 rfl) zb1)) (oc (zao rfl rfl rfl (vq 21 rfl) nq (fun hg=>zaq (lz0 5 rfl) zb1)) (oc (zao rfl rfl rfl (vq 21 rfl) nq (fun hg=>za5 (xs:=[.tmp 68,.tmp 69]) (zig _ _) (.cons (has_wk' (zad (vq 22 rfl) hg) matp_rma.va) (.cons (zad (vq 23 rfl) hg) .nil)))) (oc (zao rfl rfl rfl (vq 21 rfl) nq (fun hg=>zey (zad (vq 24 rfl) hg))) (zv rfl (r_or (vq 21 rfl) (vq 25 rfl)) (zv rfl (za1 (vq 26 rfl)) (oc (zao rfl rfl rfl (vq 27 rfl) nq (fun hg=>za1 (gq 2 rfl))) (oc (zao rfl rfl rfl (vq 27 rfl) nq (fun hg=>za1 (gq 0 rfl))) (oc (zao rfl rfl rfl (vq 27 rfl) nq (fun hg=>za5 (xs:=[.tmp 74,.tmp 75]) (zkw xs xs zo hbs) (.cons (has_wk' (zad (vq 28 rfl) hg) andV_1) (.cons (zad (vq 29 rfl) hg) .nil)))) (oc (zao rfl rfl rfl (vq 27 rfl) nq (fun hg=>zey (zad (vq 30 rfl) hg))) (zv rfl (r_or (vq 27 rfl) (vq 31 rfl)) (zv rfl (za1 (vq 32 rfl)) (oc (zao rfl rfl rfl (vq 33 rfl) nq (fun hg=>zaq (lz0 1 rfl) zd8)) (oc (zao rfl rfl rfl (vq 33 rfl) nq (fun hg=>zaq (lz0 0 rfl) zd8)) (oc (zao rfl rfl rfl (vq 33 rfl) nq (fun hg=>za5 (xs:=[.tmp 80,.tmp 81]) (zhf e e hbe) (.cons (has_wk' (zad (vq 34 rfl) hg) (iv_wk.trans dis_wk).va) (.cons (zad (vq 35 rfl) hg) .nil)))) (oc (zao rfl rfl rfl (vq 33 rfl) nq (fun hg=>zey (zad (vq 36 rfl) hg))) (zv rfl (r_or (vq 33 rfl) (vq 37 rfl)) o0))))))))))))))))))))))))))))))))))))))) (zz [(4,_),(5,_),(9999,_),(84,_)] [⟨3,30,ptrH,_⟩,⟨6,30,ptrH,_⟩,⟨7,37,ptrH,_⟩,⟨9,37,ptrH,_⟩,⟨11,37,ptrH,_⟩,⟨13,37,ptrH,_⟩] fun a w O=>?_)
  refine za0<|za8 O (zm 3 rfl) (fun hb1=>?_) (fun hb1=>?_)
  ·exact absurd hb1 (by simp)
  ·refine wp_skip<|zt<|zg [none,none,none,none,none,none] [⟨15,63,ptrH,some 1,_,some (2,_)⟩] [.v 85 _,.alc 6,.sto 6] [.g 0,.g 1,.g 2] O (zv rfl (zbf (xs:=[]) (qs:=[]) zzr .nil) (oc (zam rfl rfl rfl zup) (oc (zaa rfl rfl rfl (vq 0 rfl) ty_63 (Eq.trans (b:=17) rfl rfl)) o0))) (zz [(4,_),(5,_),(9999,_)] [⟨3,30,ptrH,_⟩,⟨6,30,ptrH,_⟩,⟨7,37,ptrH,_⟩,⟨9,37,ptrH,_⟩,⟨11,37,ptrH,_⟩,⟨13,37,ptrH,_⟩,⟨15,63,ptrH,_⟩] fun a w O=>?_)
   have O:=St.wkL (A':=BkF [] [] []) O 6 rfl zbk_bkf
   have O:=St.wkG O 1 rfl andV_2
   obtain ⟨v5,m5,n5,b5,o5,c5,O⟩:=St.nameLs (z:=reO) (AP:=EleP) zp1 (fun _ _=>rfl) elp_deps O 1 rfl
   obtain ⟨m6,n6,b6,o6,O⟩:=St.nameI (A:=REN e) (AP:=(fun m:Nat→Value=>EleP e m)) (kl:=(fun m:Nat→Value=>ke e m)) zv9 zp1 O 1 rfl
   have O:=zn [(4,_),(5,_),(9999,_)] [⟨3,30,ptrH,_⟩,⟨6,30,ptrH,_⟩,⟨7,37,ptrH,_⟩,⟨9,37,ptrH,_⟩,⟨11,37,ptrH,_⟩,⟨13,37,ptrH,_⟩,⟨15,63,ptrH,_⟩] O
   refine zt ?_
   have hq0:=zms ivk_nil n5 b5 zmt
   have hq1:=zms hq0 n6 b6 (zi8 zmt zo)
   have hq2:=zms hq1 n7 b7 (zi8 (zi8 zmt zo) zo)
   have hq3:=zms hq2 n9 b9 (zi8 (zi8 (zi8 zmt zo) zo) zo)
   refine zc6 (sp:=[.v 86 _,.v 87 VT]) 1 1 99 1 OneC [.g 0,.g 2,.o 0] O (zv rfl (za1 (gq 1 rfl)) o0) rfl zd zk zk (zz [(4,_),(9999,_),(86,_)] [⟨3,30,ptrH,_⟩,⟨6,30,ptrH,_⟩,⟨7,37,ptrH,_⟩,⟨9,37,ptrH,_⟩,⟨11,37,ptrH,_⟩,⟨13,37,ptrH,_⟩,⟨15,63,ptrH,_⟩] fun a w O=>?_)
   rw [show List.range' 1 1=[1] from rfl]
   rw [wpOps_cons]
   refine zdn (A1:=BkF (([]++lsK reO ke m5 xs xs.length)) [] ([(v5,xs.length)])) (xs:=[.tmp 86]) [0,1] [2] 6 rfl O (zxo ([]) [] ([]) hq0.nd (fun p hp=>by cases hp) (Nat.le_trans (Nat.add_le_add_right (Nat.add_le_add_right (Nat.add_le_add_left (Nat.mul_le_mul_left 4 hl) _) _) _) nq)) rfl rfl (.cons ⟨_,rfl,rfl⟩ .nil) rfl (zjx hB) zd zk zk zk zk (fun a w O=>?_)
   refine zbt ?_
   have O:=zn [(87,_),(4,_),(9999,_)] [⟨3,30,ptrH,_⟩,⟨6,30,ptrH,_⟩,⟨7,37,ptrH,_⟩,⟨9,37,ptrH,_⟩,⟨11,37,ptrH,_⟩,⟨13,37,ptrH,_⟩,⟨15,63,ptrH,BkF (([]++lsK reO ke m5 xs xs.length)) [] ([(v5,xs.length)])⟩] O
   refine zt<|zc6 (sp:=[.v 88 _,.v 89 VT]) 1 1 99 1 OneC [.g 1,.g 2,.o 0] O (zv rfl (zaq (lz0 1 rfl) zd8) o0) rfl zd zk zk (zz [(4,_),(9999,_),(88,_)] [⟨3,30,ptrH,_⟩,⟨6,30,ptrH,_⟩,⟨7,37,ptrH,_⟩,⟨9,37,ptrH,_⟩,⟨11,37,ptrH,_⟩,⟨13,37,ptrH,_⟩,⟨15,63,ptrH,_⟩] fun a w O=>?_)
   rw [show List.range' 1 1=[1] from rfl]
   rw [wpOps_cons]
   refine zdn (A1:=BkF ((([]++lsK reO ke m5 xs xs.length)++ke e m6)) [] ([(v5,xs.length)])) (xs:=[.tmp 88]) [0,1] [2] 6 rfl O (zoo e m6 (([]++lsK reO ke m5 xs xs.length)) [] ([(v5,xs.length)]) hq1.nd (by have k6:(ke e m6).length=4:=rfl; have k7:(km (benF xs).1 m7).length=8:=rfl; have k9:(km (be1F e).1 m9).length=8:=rfl; simp only [List.length_append,List.length_nil,List.length_cons,zd0,k6,k7,k9]; omega)) rfl rfl (.cons ⟨_,rfl,rfl⟩ .nil) rfl (zjx hB) zd zk zk zk zk (fun a w O=>?_)
   refine zbt ?_
   have O:=zn [(89,_),(4,_),(9999,_)] [⟨3,30,ptrH,_⟩,⟨6,30,ptrH,_⟩,⟨7,37,ptrH,_⟩,⟨9,37,ptrH,_⟩,⟨11,37,ptrH,_⟩,⟨13,37,ptrH,_⟩,⟨15,63,ptrH,BkF ((([]++lsK reO ke m5 xs xs.length)++ke e m6)) [] ([(v5,xs.length)])⟩] O
   refine zt<|zc6 (sp:=[.v 90 _,.v 91 VT]) 1 1 99 1 OneC [.g 1,.g 2,.o 0] O (zv rfl (zaq (lz0 2 rfl) zb1) o0) rfl zd zk zk (zz [(4,_),(9999,_),(90,_)] [⟨3,30,ptrH,_⟩,⟨6,30,ptrH,_⟩,⟨7,37,ptrH,_⟩,⟨9,37,ptrH,_⟩,⟨11,37,ptrH,_⟩,⟨13,37,ptrH,_⟩,⟨15,63,ptrH,_⟩] fun a w O=>?_)
   rw [show List.range' 1 1=[1] from rfl]
   rw [wpOps_cons]
   refine zdn (A1:=BkF (((([]++lsK reO ke m5 xs xs.length)++ke e m6)++km (benF xs).1 m7)) [] ([(v5,xs.length)])) (xs:=[.tmp 90]) [0,1] [2] 6 rfl O (zrx (benF xs).1 m7 ((([]++lsK reO ke m5 xs xs.length)++ke e m6)) [] ([(v5,xs.length)]) hq2.nd (by have k6:(ke e m6).length=4:=rfl; have k7:(km (benF xs).1 m7).length=8:=rfl; have k9:(km (be1F e).1 m9).length=8:=rfl; simp only [List.length_append,List.length_nil,List.length_cons,zd0,k6,k7,k9]; omega)) rfl rfl (.cons ⟨_,rfl,rfl⟩ .nil) rfl (zjx hB) zd zk zk zk zk (fun a w O=>?_)
   refine zbt ?_
   have O:=zn [(91,_),(4,_),(9999,_)] [⟨3,30,ptrH,_⟩,⟨6,30,ptrH,_⟩,⟨7,37,ptrH,_⟩,⟨9,37,ptrH,_⟩,⟨11,37,ptrH,_⟩,⟨13,37,ptrH,_⟩,⟨15,63,ptrH,BkF (((([]++lsK reO ke m5 xs xs.length)++ke e m6)++km (benF xs).1 m7)) [] ([(v5,xs.length)])⟩] O
   refine zt<|zc6 (sp:=[.v 92 _,.v 93 VT]) 1 1 99 1 OneC [.g 1,.g 2,.o 0] O (zv rfl (zaq (lz0 3 rfl) zb1) o0) rfl zd zk zk (zz [(4,_),(9999,_),(92,_)] [⟨3,30,ptrH,_⟩,⟨6,30,ptrH,_⟩,⟨7,37,ptrH,_⟩,⟨9,37,ptrH,_⟩,⟨11,37,ptrH,_⟩,⟨13,37,ptrH,_⟩,⟨15,63,ptrH,_⟩] fun a w O=>?_)
   rw [show List.range' 1 1=[1] from rfl]
   rw [wpOps_cons]
   refine zdn (A1:=BkF ((((([]++lsK reO ke m5 xs xs.length)++ke e m6)++km (benF xs).1 m7)++km (be1F e).1 m9)) [] ([(v5,xs.length)])) (xs:=[.tmp 92]) [0,1] [2] 6 rfl O (zrx (be1F e).1 m9 (((([]++lsK reO ke m5 xs xs.length)++ke e m6)++km (benF xs).1 m7)) [] ([(v5,xs.length)]) hq3.nd (by have k6:(ke e m6).length=4:=rfl; have k7:(km (benF xs).1 m7).length=8:=rfl; have k9:(km (be1F e).1 m9).length=8:=rfl; simp only [List.length_append,List.length_nil,List.length_cons,zd0,k6,k7,k9]; omega)) rfl rfl (.cons ⟨_,rfl,rfl⟩ .nil) rfl (zjx hB) zd zk zk zk zk (fun a w O=>?_)
   refine zbt ?_
   have O:=zn [(93,_),(4,_),(9999,_)] [⟨3,30,ptrH,_⟩,⟨6,30,ptrH,_⟩,⟨7,37,ptrH,_⟩,⟨9,37,ptrH,_⟩,⟨11,37,ptrH,_⟩,⟨13,37,ptrH,_⟩,⟨15,63,ptrH,BkF ((((([]++lsK reO ke m5 xs xs.length)++ke e m6)++km (benF xs).1 m7)++km (be1F e).1 m9)) [] ([(v5,xs.length)])⟩] O
   refine zt ?_
   have O:=St.selL O [6]
   refine go_first (m:=1) zk ?_
   refine zdn (A1:=JkA) (xs:=[]) [] [] 0 rfl O (apartF_c ((((([]++lsK reO ke m5 xs xs.length)++ke e m6)++km (benF xs).1 m7)++km (be1F e).1 m9)) [] ([(v5,xs.length)]) (okK_len (zfb (zfb (zfb (zfb okK_nil o5) o6) o7) o9) (zfg (zfg (zfg (zfg lnK_nil (lnK_ls hbs)) (lnK_e hbe)) (lnK_m (bd_ben xs))) (lnK_m (bd_be1 e)))) (fun p hp=>by cases hp) (fun p hp=>by simp only [List.mem_cons,List.not_mem_nil,or_false] at hp; rcases hp with rfl <;> (show _≤_; omega)) (by have k6:(ke e m6).length=4:=rfl; have k7:(km (benF xs).1 m7).length=8:=rfl; have k9:(km (be1F e).1 m9).length=8:=rfl; simp only [List.length_append,List.length_nil,List.length_cons,zd0,k6,k7,k9]; omega)) rfl rfl .nil rfl (zjx hB) zd zk zk zk zk (zz [(94,Bo true)] [⟨15,_,ptrH,JkA⟩] fun a w O=>?_)
   refine go_restM (sp:=[.v 94 (Bo true),.v 4 _]) [.o 1] O rfl zk (zv rfl (za2 (vq 0 rfl)) o0) zk zk (zz [(4,_)] [⟨15,63,ptrH,_⟩] fun a w O=>?_)
   refine za0<|wp_ret<|zag ?_ (zah rfl O (zm 0 rfl))
   refine zbz (congrArg Bo ?_); simp
end Go.Proofs.YtpnhpldlecmbdaaGreatDoor
