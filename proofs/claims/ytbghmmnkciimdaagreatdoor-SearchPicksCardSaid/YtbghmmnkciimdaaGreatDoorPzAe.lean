import Derived.Test.YtbghmmnkciimdaaGreatDoorPzAd
import Derived.Deep.Slices
import Derived.ArgAppend
import Derived.SizedLaws
import Derived.Laws.IdiomStrings
set_option linter.all false
set_option maxRecDepth 100000
set_option autoImplicit true
namespace Go.Proofs.YtbghmmnkciimdaaGreatDoor
open Go Go.RowKit
variable {w:World}{B:Nat}{a:Act}{v:Value}{T:TypeId}{w0:Bs}{Γ:List (Nat × VA)}{Λ:List Lc}{ps:String}{af:Array Edge}{vr:Value}{H:Hd}{cs:List Value}{w':World}{P:Program}{D:List TypeId}
theorem o7 {H E m:Nat}(h:L=[]):Wk (HkA H E m v L).va (SlA H [] []).va:=by
 subst h;exact tk (L:=[]) (λ s hs=>by cases hs)
abbrev FqT (f:FuncId):Prop:=∀ (X:BkRest) (vr:Value) (L:List Slot),Cn Tryz.prog f [ElP 60 (BqA X vr L)] (Tu [])
abbrev FqB (f:FuncId):Prop:=∀ (X:BkRest) (vr:Value) (L:List Slot),Cn Tryz.prog f [ElP 60 (BqA X vr L)] (Bo true)
theorem QX :WkA (BqA X vr L) JkA:=⟨rfl,rfl,λ B cs w h=>⟨(BqA X vr L).len _ _ _ h,(BqA X vr L).one _ _ _ h⟩⟩
theorem sd (X:BkRest)(vr:Yn)(L:List Slot)(hN:X.N=[]):Cn Tryz.prog 39 [ElP 60 (BqA X vr L)] (Tu []):=dp Tryz.func39 rfl zk rfl rfl pK (Sub.part 2 rfl rfl) IB kP (o7 hN)
theorem rX (X:BkRest)(vr:Yn)(L:List Slot)(hN:X.N=[]):Cn Tryz.prog 55 [ElP 60 (BqA X vr L)] (Tu []):=dn Tryz.func55 rfl zk rfl rfl pK (Sub.part 2 rfl rfl) IB kP (o7 hN)
theorem rN (X:BkRest)(vr:Yn)(L:List Slot)(hN:X.N=[]):Cn Tryz.prog 71 [ElP 60 (BqA X vr L)] (Bo true):=dm Tryz.func71 rfl zk rfl rfl pK (Sub.part 2 rfl rfl) IB kP (o7 hN)
theorem tt:FqT 40:=λ _ _ _=>dp Tryz.func40 rfl zk rfl rfl pJ (Sub.part 3 rfl rfl) IA kO bt
theorem tp:FqT 56:=λ _ _ _=>dn Tryz.func56 rfl zk rfl rfl pJ (Sub.part 3 rfl rfl) IA kO bt
theorem td:FqB 72:=λ _ _ _=>dm Tryz.func72 rfl zk rfl rfl pJ (Sub.part 3 rfl rfl) IA kO bt
theorem pM:FqT 41:=λ _ _ _=>dp Tryz.func41 rfl zk rfl rfl pI (Sub.part 4 rfl rfl) Iz kN bt
theorem pv:FqT 57:=λ _ _ _=>dn Tryz.func57 rfl zk rfl rfl pI (Sub.part 4 rfl rfl) Iz kN bt
theorem pl:FqB 73:=λ _ _ _=>dm Tryz.func73 rfl zk rfl rfl pI (Sub.part 4 rfl rfl) Iz kN bt
theorem yW:FqT 42:=λ _ _ _=>dp Tryz.func42 rfl zk rfl rfl pH (Sub.part 5 rfl rfl) Iy kM bt
theorem yO:FqT 58:=λ _ _ _=>dn Tryz.func58 rfl zk rfl rfl pH (Sub.part 5 rfl rfl) Iy kM bt
theorem yF:FqB 74:=λ _ _ _=>dm Tryz.func74 rfl zk rfl rfl pH (Sub.part 5 rfl rfl) Iy kM bt
theorem yZ:FqT 43:=λ _ _ _=>dp Tryz.func43 rfl zk rfl rfl pG (Sub.part 6 rfl rfl) Ix kL bt
theorem yR:FqT 59:=λ _ _ _=>dn Tryz.func59 rfl zk rfl rfl pG (Sub.part 6 rfl rfl) Ix kL bt
theorem yI:FqB 75:=λ _ _ _=>dm Tryz.func75 rfl zk rfl rfl pG (Sub.part 6 rfl rfl) Ix kL bt
theorem tr:FqT 44:=λ _ _ _=>dp Tryz.func44 rfl zk rfl rfl pF (Sub.part 7 rfl rfl) Iw kK bt
theorem tn:FqT 60:=λ _ _ _=>dn Tryz.func60 rfl zk rfl rfl pF (Sub.part 7 rfl rfl) Iw kK bt
theorem tc:FqB 76:=λ _ _ _=>dm Tryz.func76 rfl zk rfl rfl pF (Sub.part 7 rfl rfl) Iw kK bt
theorem D4 (X:BkRest)(vr:Yn)(L:List Slot)(hR:X.R=[]):Cn Tryz.prog 45 [ElP 60 (BqA X vr L)] (Tu []):=dp Tryz.func45 rfl zk rfl rfl pE (Sub.part 8 rfl rfl) Iv kJ (o7 hR)
theorem CR (X:BkRest)(vr:Yn)(L:List Slot)(hR:X.R=[]):Cn Tryz.prog 61 [ElP 60 (BqA X vr L)] (Tu []):=dn Tryz.func61 rfl zk rfl rfl pE (Sub.part 8 rfl rfl) Iv kJ (o7 hR)
theorem Cs (X:BkRest)(vr:Yn)(L:List Slot)(hR:X.R=[]):Cn Tryz.prog 77 [ElP 60 (BqA X vr L)] (Bo true):=dm Tryz.func77 rfl zk rfl rfl pE (Sub.part 8 rfl rfl) Iv kJ (o7 hR)
theorem A4:FqT 47:=λ _ _ _=>dp Tryz.func47 rfl zk rfl rfl mW (Sub.part 10 rfl rfl) Iu kI bt
theorem yT:FqT 63:=λ _ _ _=>dn Tryz.func63 rfl zk rfl rfl mW (Sub.part 10 rfl rfl) Iu kI bt
theorem yK:FqB 79:=λ _ _ _=>dm Tryz.func79 rfl zk rfl rfl mW (Sub.part 10 rfl rfl) Iu kI bt
theorem A3:FqT 48:=λ _ _ _=>dp Tryz.func48 rfl zk rfl rfl mV (Sub.part 11 rfl rfl) It kH bt
theorem yS:FqT 64:=λ _ _ _=>dn Tryz.func64 rfl zk rfl rfl mV (Sub.part 11 rfl rfl) It kH bt
theorem yJ:FqB 80:=λ _ _ _=>dm Tryz.func80 rfl zk rfl rfl mV (Sub.part 11 rfl rfl) It kH bt
theorem yX:FqT 49:=λ _ _ _=>dp Tryz.func49 rfl zk rfl rfl mU (Sub.part 12 rfl rfl) Is kG bt
theorem yP:FqT 65:=λ _ _ _=>dn Tryz.func65 rfl zk rfl rfl mU (Sub.part 12 rfl rfl) Is kG bt
theorem yG:FqB 81:=λ _ _ _=>dm Tryz.func81 rfl zk rfl rfl mU (Sub.part 12 rfl rfl) Is kG bt
theorem D5:FqT 50:=λ _ _ _=>dp Tryz.func50 rfl zk rfl rfl mT (Sub.part 13 rfl rfl) Ir kF bt
theorem CS:FqT 66:=λ _ _ _=>dn Tryz.func66 rfl zk rfl rfl mT (Sub.part 13 rfl rfl) Ir kF bt
theorem Ct:FqB 82:=λ _ _ _=>dm Tryz.func82 rfl zk rfl rfl mT (Sub.part 13 rfl rfl) Ir kF bt
theorem yY:FqT 51:=λ _ _ _=>dp Tryz.func51 rfl zk rfl rfl mS (Sub.part 14 rfl rfl) Iq kE bt
theorem yQ:FqT 67:=λ _ _ _=>dn Tryz.func67 rfl zk rfl rfl mS (Sub.part 14 rfl rfl) Iq kE bt
theorem yH:FqB 83:=λ _ _ _=>dm Tryz.func83 rfl zk rfl rfl mS (Sub.part 14 rfl rfl) Iq kE bt
theorem D6:FqT 52:=λ _ _ _=>dp Tryz.func52 rfl zk rfl rfl mR (Sub.part 15 rfl rfl) Ip kD bt
theorem CT:FqT 68:=λ _ _ _=>dn Tryz.func68 rfl zk rfl rfl mR (Sub.part 15 rfl rfl) Ip kD bt
theorem Cu:FqB 84:=λ _ _ _=>dm Tryz.func84 rfl zk rfl rfl mR (Sub.part 15 rfl rfl) Ip kD bt
theorem tq:FqT 53:=λ _ _ _=>dp Tryz.func53 rfl zk rfl rfl mQ (Sub.part 16 rfl rfl) Io kC bt
theorem tm:FqT 69:=λ _ _ _=>dn Tryz.func69 rfl zk rfl rfl mQ (Sub.part 16 rfl rfl) Io kC bt
theorem tb:FqB 85:=λ _ _ _=>dm Tryz.func85 rfl zk rfl rfl mQ (Sub.part 16 rfl rfl) Io kC bt
set_option maxHeartbeats 1000000 in
theorem E1 (X:BkRest)(vr:Yn)(L:List Slot)(hnew:∀ s∈L,s.new)(hl:L.length≤1000000)(hN:X.N=[])(hR:X.R=[])(hnM:∀ s∈X.M,s.new)(hlM:X.M.length≤1000000):CK Tryz.prog 14 60 [60,137,138,168,124,135,76] (BqA X vr L) (JkA) [] (Bo true):=by
 refine CK.intro Tryz.func14 G zk nq zk (λ B g w0 a hrm U=>?_);have U:=zn [(0,EqV ((ptrH).f g)),] [⟨0,60,ptrH,BqA X vr L⟩] U;refine qb<|zg U6 [] UA Rd U (zE G aE) (zz Re RL λ a w U=>?_);refine zt<|bS (sp:=[.v 3 _,.v 4 VT]) 1 1 99 1 OneC [.g 0,.g 1,.o 0] U (zM 0 G o0) G zd zk zk (zz (Wa 0 2 3) RL λ a w U=>?_);rw [show List.range' 1 1=[1] from rfl];rw [qy];refine ew (A1:=BqA X vr (filL L)) [0,1] [] 0 G U (CK.wkT (L0 X vr L hnew hl) zd) G (xF (b:=ptr g) (U.vals _ (zm 2 G)) (jO (U.vals _ (zm 0 G)))) .nil G hrm zd zk zk zk zk (λ a w U=>?_);refine bU ?_;have U:=zn (Wa 4 0 2) [⟨0,60,ptrH,BqA X vr (filL L)⟩] U;refine zt<|zg U6 [] (W6 5) [.g 1,.g 2] U (zv G (aq (bh (lz0 0 G))) (zQ G (sd (X) vr (filL L) hN) (.o (vq 0 G)) o0)) (zz Re RL ?_);refine ztA<|zgA U4 [] (W6 7) We (zv G (aq (bh (lz0 0 G))) (zQ G (tt (X) vr (filL L)) (.o (vq 0 G)) o0)) (zz Re RL ?_);refine ztA<|zgA U4 [] (W6 9) We (zv G (aq (bh (lz0 0 G))) (zQ G (pM (X) vr (filL L)) (.o (vq 0 G)) o0)) (zz Re RL ?_);refine ztA<|zgA U4 [] (W6 11) We (zv G (aq (bh (lz0 0 G))) (zQ G (yW (X) vr (filL L)) (.o (vq 0 G)) o0)) (zz Re RL ?_);refine ztA<|zgA U4 [] (W6 13) We (zv G (aq (bh (lz0 0 G))) (zQ G (yZ (X) vr (filL L)) (.o (vq 0 G)) o0)) (zz Re RL ?_);refine ztA<|zgA U4 [] (W6 15) We (zv G (aq (bh (lz0 0 G))) (zQ G (tr (X) vr (filL L)) (.o (vq 0 G)) o0)) (zz Re RL ?_);refine ztA<|zgA U4 [] (W6 17) We (zv G (aq (bh (lz0 0 G))) (zQ G (D4 (X) vr (filL L) hR) (.o (vq 0 G)) o0)) (zz Re RL λ a w U=>?_);refine zt<|bS (sp:=[.v 19 _,.v 20 VT]) 1 1 99 1 OneC [.g 0,.g 1,.o 0] U (zM 0 G o0) G zd zk zk (zz (Wa 0 2 19) RL λ a w U=>?_);rw [show List.range' 1 1=[1] from rfl];rw [qy];refine ew (A1:=cQ X vr (filL L) (r7 MkE X.M)) [0,1] [] 0 G U (CK.wkT (pL X vr (filL L) hnM hlM) zd) G (xF (b:=ptr g) (U.vals _ (zm 2 G)) (jO (U.vals _ (zm 0 G)))) .nil G hrm zd zk zk zk zk (λ a w U=>?_);refine bU ?_;obtain ⟨M1,hM1,U⟩:=mu U 0 rfl;have U:=zn (Wa 20 0 2) [⟨0,60,ptrH,BqA { X with M:=M1 } vr (filL L)⟩] U;refine zt<|zg U6 [] (W6 21) [.g 1,.g 2] U (zv G (aq (bh (lz0 0 G))) (zQ G (A4 ({ X with M:=M1 }) vr (filL L)) (.o (vq 0 G)) o0)) (zz Re RL ?_);refine ztA<|zgA U4 [] (W6 23) We (zv G (aq (bh (lz0 0 G))) (zQ G (A3 ({ X with M:=M1 }) vr (filL L)) (.o (vq 0 G)) o0)) (zz Re RL ?_);refine ztA<|zgA U4 [] (W6 25) We (zv G (aq (bh (lz0 0 G))) (zQ G (yX ({ X with M:=M1 }) vr (filL L)) (.o (vq 0 G)) o0)) (zz Re RL ?_);refine ztA<|zgA U4 [] (W6 27) We (zv G (aq (bh (lz0 0 G))) (zQ G (D5 ({ X with M:=M1 }) vr (filL L)) (.o (vq 0 G)) o0)) (zz Re RL ?_);refine ztA<|zgA U4 [] (W6 29) We (zv G (aq (bh (lz0 0 G))) (zQ G (yY ({ X with M:=M1 }) vr (filL L)) (.o (vq 0 G)) o0)) (zz Re RL ?_);refine ztA<|zgA U4 [] (W6 31) We (zv G (aq (bh (lz0 0 G))) (zQ G (D6 ({ X with M:=M1 }) vr (filL L)) (.o (vq 0 G)) o0)) (zz Re RL ?_);refine ztA<|zgA U4 [] (W6 33) We (zv G (aq (bh (lz0 0 G))) (zQ G (tq ({ X with M:=M1 }) vr (filL L)) (.o (vq 0 G)) o0)) (zz Re RL λ a w U=>?_);refine zt<|bS (sp:=[.v 35 _,.v 36 VT]) 1 1 99 1 OneC [.g 0,.g 1,.o 0] U (zM 0 G o0) G zd zk zk (zz (Wa 0 2 35) RL λ a w U=>?_);rw [show List.range' 1 1=[1] from rfl];rw [qy];refine ew (A1:=GqA { X with M:=M1 } vr (filL L)) [0,1] [] 0 G U (CK.wkT (KB { X with M:=M1 } vr (filL L) (se hnew) (by rw [qd];exact hl)) zd) G (xF (b:=ptr g) (U.vals _ (zm 2 G)) (jO (U.vals _ (zm 0 G)))) .nil G hrm zd zk zk zk zk (λ a w U=>?_);refine bU ?_;obtain ⟨L2,hG,U⟩:=Qr U 0 rfl;have hdone:=KH hG (se hnew);have hlM2:L2.length≤1000000:=by rw [hG.1,qd];exact hl
 have U:=zn (Wa 36 0 2) [⟨0,60,ptrH,BqA { X with M:=M1 } vr L2⟩] U;refine zt<|zg U6 [] (W6 37) [.g 1,.g 2] U (zv G (aq (bh (lz0 0 G))) (zQ G (rX ({ X with M:=M1 }) vr L2 hN) (.o (vq 0 G)) o0)) (zz Re RL ?_);refine ztA<|zgA U4 [] (W6 39) We (zv G (aq (bh (lz0 0 G))) (zQ G (tp ({ X with M:=M1 }) vr L2) (.o (vq 0 G)) o0)) (zz Re RL ?_);refine ztA<|zgA U4 [] (W6 41) We (zv G (aq (bh (lz0 0 G))) (zQ G (pv ({ X with M:=M1 }) vr L2) (.o (vq 0 G)) o0)) (zz Re RL ?_);refine ztA<|zgA U4 [] (W6 43) We (zv G (aq (bh (lz0 0 G))) (zQ G (yO ({ X with M:=M1 }) vr L2) (.o (vq 0 G)) o0)) (zz Re RL ?_);refine ztA<|zgA U4 [] (W6 45) We (zv G (aq (bh (lz0 0 G))) (zQ G (yR ({ X with M:=M1 }) vr L2) (.o (vq 0 G)) o0)) (zz Re RL ?_);refine ztA<|zgA U4 [] (W6 47) We (zv G (aq (bh (lz0 0 G))) (zQ G (tn ({ X with M:=M1 }) vr L2) (.o (vq 0 G)) o0)) (zz Re RL ?_);refine ztA<|zgA U4 [] (W6 49) We (zv G (aq (bh (lz0 0 G))) (zQ G (CR ({ X with M:=M1 }) vr L2 hR) (.o (vq 0 G)) o0)) (zz Re RL λ a w U=>?_);refine zt<|bS (sp:=[.v 51 _,.v 52 VT]) 1 1 99 1 OneC [.g 0,.g 1,.o 0] U (zM 0 G o0) G zd zk zk (zz (Wa 0 2 51) RL λ a w U=>?_);rw [show List.range' 1 1=[1] from rfl];rw [qy];refine ew (A1:=cQ { X with M:=M1 } vr L2 (r8 MkE M1)) [0,1] [] 0 G U (CK.wkT (pu { X with M:=M1 } vr L2 hM1.2 (by show M1.length≤_;rw [hM1.1];exact hlM)) zd) G (xF (b:=ptr g) (U.vals _ (zm 2 G)) (jO (U.vals _ (zm 0 G)))) .nil G hrm zd zk zk zk zk (λ a w U=>?_);refine bU ?_;obtain ⟨M2,hM2,U⟩:=mu U 0 rfl;have U:=zn (Wa 52 0 2) [⟨0,60,ptrH,BqA { X with M:=M2 } vr L2⟩] U;refine zt<|zg U6 [] (W6 53) [.g 1,.g 2] U (zv G (aq (bh (lz0 0 G))) (zQ G (yT ({ X with M:=M2 }) vr L2) (.o (vq 0 G)) o0)) (zz Re RL ?_);refine ztA<|zgA U4 [] (W6 55) We (zv G (aq (bh (lz0 0 G))) (zQ G (yS ({ X with M:=M2 }) vr L2) (.o (vq 0 G)) o0)) (zz Re RL ?_);refine ztA<|zgA U4 [] (W6 57) We (zv G (aq (bh (lz0 0 G))) (zQ G (yP ({ X with M:=M2 }) vr L2) (.o (vq 0 G)) o0)) (zz Re RL ?_);refine ztA<|zgA U4 [] (W6 59) We (zv G (aq (bh (lz0 0 G))) (zQ G (CS ({ X with M:=M2 }) vr L2) (.o (vq 0 G)) o0)) (zz Re RL ?_);refine ztA<|zgA U4 [] (W6 61) We (zv G (aq (bh (lz0 0 G))) (zQ G (yQ ({ X with M:=M2 }) vr L2) (.o (vq 0 G)) o0)) (zz Re RL ?_);refine ztA<|zgA U4 [] (W6 63) We (zv G (aq (bh (lz0 0 G))) (zQ G (CT ({ X with M:=M2 }) vr L2) (.o (vq 0 G)) o0)) (zz Re RL ?_);refine ztA<|zgA U4 [] (W6 65) We (zv G (aq (bh (lz0 0 G))) (zQ G (tm ({ X with M:=M2 }) vr L2) (.o (vq 0 G)) o0)) (zz Re RL λ a w U=>?_);refine zt<|gl (sts:=[none]) (news:=[]) (sp:=((.v 67 _:Sp)::(.v 68 _)::(.v 69 _)::(.t 70 _)::(.t 71 _)::(.v 72 _)::(.v 73 _)::(.t 74 _)::(.t 75 _)::(.v 76 _)::(.v 77 _)::(.t 78 _)::(.t 79 _)::(.v 80 _)::(.v 81 _)::(.t 82 _)::(.t 83 _)::(.v 84 _)::(.v 85 _)::(.t 86 _)::(.t 87 _)::(.v 88 _)::(.v 89 _)::(.t 90 _)::(.t 91 _)::(.v 92 _)::(.v 93 _)::(.t 94 _)::(.t 95 _)::(.v 96 _)::(.v 97 _)::(.t 98 _)::(.t 99 _)::(.v 100 _)::(.v 101 _)::(.t 102 _)::(.t 103 _)::(.v 104 _)::(.v 105 _)::(.t 106 _)::(.t 107 _)::(.v 108 _)::(.v 109 _)::(.t 110 _)::(.t 111 _)::(.v 112 _)::(.v 113 _)::(.t 114 _)::(.t 115 _)::(.v 116 _)::(.v 117 _)::(.t 118 _)::(.t 119 _)::(.v 120 _)::(.v 121 _)::(.t 122 _)::(.t 123 _)::(.v 124 _)::(.v 125 _)::(.t 126 _)::(.t 127 _)::(.v 128 _)::(.v 2 _)::[])) [.g 0,.o 62] U (zv G (aq (bh (lz0 0 G))) (zQ G (Ke ({ X with M:=M2 }) vr L2 hdone hlM2) (.o (vq 0 G)) (zV 1 G (zB 2 G (λ hg=>aq (bh (lz0 0 G))) (zB 2 G (λ hg=>be (rN ({ X with M:=M2 }) vr L2 hN) (.o (ae (vq 3 G) hg))) (zv G (bv (vq 2 G) (vq 4 G)) (zV 5 G (zB 6 G (λ hg=>aq (bh (lz0 0 G))) (zB 6 G (λ hg=>be (td ({ X with M:=M2 }) vr L2) (.o (ae (vq 7 G) hg))) (zv G (bv (vq 6 G) (vq 8 G)) (zV 9 G (zB 10 G (λ hg=>aq (bh (lz0 0 G))) (zB 10 G (λ hg=>be (pl ({ X with M:=M2 }) vr L2) (.o (ae (vq 11 G) hg))) (zv G (bv (vq 10 G) (vq 12 G)) (zV 13 G (zB 14 G (λ hg=>aq (bh (lz0 0 G))) (zB 14 G (λ hg=>be (yF ({ X with M:=M2 }) vr L2) (.o (ae (vq 15 G) hg))) (zv G (bv (vq 14 G) (vq 16 G)) (zV 17 G (zB 18 G (λ hg=>aq (bh (lz0 0 G))) (zB 18 G (λ hg=>be (yI ({ X with M:=M2 }) vr L2) (.o (ae (vq 19 G) hg))) (zv G (bv (vq 18 G) (vq 20 G)) (zV 21 G (zB 22 G (λ hg=>aq (bh (lz0 0 G))) (zB 22 G (λ hg=>be (tc ({ X with M:=M2 }) vr L2) (.o (ae (vq 23 G) hg))) (zv G (bv (vq 22 G) (vq 24 G)) (zV 25 G (zB 26 G (λ hg=>aq (bh (lz0 0 G))) (zB 26 G (λ hg=>be (Cs ({ X with M:=M2 }) vr L2 hR) (.o (ae (vq 27 G) hg))) (zv G (bv (vq 26 G) (vq 28 G)) (zV 29 G (zB 30 G (λ hg=>aq (bh (lz0 0 G))) (zB 30 G (λ hg=>be (pj ({ X with M:=M2 }) vr L2 hM2.2 (by show M2.length≤_;rw [hM2.1,hM1.1];exact hlM)) (.o (ae (vq 31 G) hg))) (zv G (bv (vq 30 G) (vq 32 G)) (zV 33 G (zB 34 G (λ hg=>aq (bh (lz0 0 G))) (zB 34 G (λ hg=>be (yK ({ X with M:=M2 }) vr L2) (.o (ae (vq 35 G) hg))) (zv G (bv (vq 34 G) (vq 36 G)) (zV 37 G (zB 38 G (λ hg=>aq (bh (lz0 0 G))) (zB 38 G (λ hg=>be (yJ ({ X with M:=M2 }) vr L2) (.o (ae (vq 39 G) hg))) (zv G (bv (vq 38 G) (vq 40 G)) (zV 41 G (zB 42 G (λ hg=>aq (bh (lz0 0 G))) (zB 42 G (λ hg=>be (yG ({ X with M:=M2 }) vr L2) (.o (ae (vq 43 G) hg))) (zv G (bv (vq 42 G) (vq 44 G)) (zV 45 G (zB 46 G (λ hg=>aq (bh (lz0 0 G))) (zB 46 G (λ hg=>be (Ct ({ X with M:=M2 }) vr L2) (.o (ae (vq 47 G) hg))) (zv G (bv (vq 46 G) (vq 48 G)) (zV 49 G (zB 50 G (λ hg=>aq (bh (lz0 0 G))) (zB 50 G (λ hg=>be (yH ({ X with M:=M2 }) vr L2) (.o (ae (vq 51 G) hg))) (zv G (bv (vq 50 G) (vq 52 G)) (zV 53 G (zB 54 G (λ hg=>aq (bh (lz0 0 G))) (zB 54 G (λ hg=>be (Cu ({ X with M:=M2 }) vr L2) (.o (ae (vq 55 G) hg))) (zv G (bv (vq 54 G) (vq 56 G)) (zV 57 G (zB 58 G (λ hg=>aq (bh (lz0 0 G))) (zB 58 G (λ hg=>be (tb ({ X with M:=M2 }) vr L2) (.o (ae (vq 59 G) hg))) (zv G (bv (vq 58 G) (vq 60 G)) (zA 61 G o0))))))))))))))))))))))))))))))))))))))))))))))))))))))))))))))) (zz Re RL λ a w U=>?_);have U:=St.wkL (A':=JkA) U 0 rfl QX;refine aa<|qi<|ik U (zm 0 G) (zm 0 G) ?_;exact am G U (zm 1 G)
def BqG (n:Nat)(la nu ra el:As):As:=cat [NumA .i64 (n:Nat),la,nu,EqS (.slice none 0 0),EqS (.slice none 0 0),EqS (.slice none 0 0),EqS (.slice none 0 0),EqS (.slice none 0 0),ra,el,EqS (.slice none 0 0),EqS (.slice none 0 0),EqS (.slice none 0 0),EqS (.slice none 0 0),EqS (.slice none 0 0),EqS (.slice none 0 0),EqS (.slice none 0 0)]
theorem DV {n m:Nat}{la nu ra el:As}(h:(BqG n la nu ra el).p B cs w):0+0<cs.length∧(BqG m la nu ra el).p B (cs.set (0+0) (.int .i64 (m:Nat))) w:=by
 obtain ⟨ps,e,hp⟩:=h;cases hp with
 | @cons _ c _ ps h1 hp =>
  have h1':c=[.int .i64 (n:Nat)]:=h1;subst h1' e;exact ⟨by simp,[.int .i64 (m:Nat)]::ps,by simp,.cons G hp⟩
theorem DW {la nu ra el la' nu' ra' el':As}(h:(BqG n la nu ra el).p B cs w)(f1:∀ c,la.p B c w→la'.p B c w')(f2:∀ c,nu.p B c w→nu'.p B c w')(f3:∀ c,ra.p B c w→ra'.p B c w')(f4:∀ c,el.p B c w→el'.p B c w'):(BqG n la' nu' ra' el').p B cs w':=by
 obtain ⟨ps,e,hp⟩:=h;refine ⟨ps,e,?_⟩;cases hp with
 | cons h1 hp=>cases hp with
  | cons h2 hp=>cases hp with
   | cons h3 hp =>
    refine .cons h1 (.cons (f1 _ h2) (.cons (f2 _ h3) ?_))
    iterate 5 (cases hp;rename_i h3 hp;refine .cons h3 ?_)
    cases hp;rename_i h3 hp;refine .cons (f3 _ h3) ?_;cases hp;rename_i h3 hp;refine .cons (f4 _ h3) ?_
    iterate 7 (cases hp;rename_i h3 hp;refine .cons h3 ?_)
    cases hp;exact .nil
def HxG (c:Value)(A:As)(v:Value):As where
 n:=1
 ag:=false
 p B cs w:=cs=[c]∧c.oneCell'=true∧A.p B [v] w∧v.oneCell'=true
 deps:=A.deps
 len:=by rintro B cs w ⟨rfl,_⟩;rfl
 one:=by rintro B cs w ⟨rfl,h,_⟩ x hx;simp at hx;subst hx;exact h
 ag1:=λ _=>rfl
 cg:=λ B cs w w' hg ⟨h1,h2,h3,h4⟩=>⟨h1,h2,A.cg _ _ _ _ hg h3,h4⟩
 wr:=λ B cs w w' g c T fz h1 h2 h3 h4 ⟨h5,h6,h7,h8⟩=>⟨h5,h6,A.wr _ _ _ _ _ _ _ _ h1 h2 h3 h4 h7,h8⟩
theorem HW {c v:Yn}{A nu ra el:As}(h:(BqG n (HxG c A v) nu ra el).p B cs w):0+1<cs.length∧(BqG n A nu ra el).p B (cs.set (0+1) v) w:=by
 obtain ⟨ps,e,hp⟩:=h;cases hp with
 | @cons _ c1 _ ps h1 hp=>cases hp with
  | @cons _ c2 _ ps h2 hp =>
   have h1':c1=[.int .i64 (n:Nat)]:=h1;obtain ⟨h3,h4,h5,_⟩:=h2;subst h1' h3 e;refine ⟨by simp,[.int .i64 (n:Nat)]::[v]::ps,by simp,.cons G (.cons h5 hp)⟩
theorem sZ {A:As}(hA:A.n=1)(h:A.p B c w):∃ x,c=[x]:=List.length_eq_one_iff.1 (by rw [A.len _ _ _ h,hA])
theorem HV {c v:Yn}{la nu ra A:As}(n1:la.n=1)(n2:nu.n=1)(n3:ra.n=1)(h:(BqG n la nu ra (HxG c A v)).p B cs w):0+9<cs.length∧(BqG n la nu ra A).p B (cs.set (0+9) v) w:=by
 obtain ⟨ps,e,hp⟩:=h;cases hp with
 | @cons _ c0 _ ps h0 hp=>cases hp with
  | @cons _ c1 _ ps h1 hp=>cases hp with
   | @cons _ c2 _ ps h2 hp=>cases hp with
    | @cons _ c3 _ ps h3 hp=>cases hp with
     | @cons _ c4 _ ps h4 hp=>cases hp with
      | @cons _ c5 _ ps h5 hp=>cases hp with
       | @cons _ c6 _ ps h6 hp=>cases hp with
        | @cons _ c7 _ ps h7 hp=>cases hp with
         | @cons _ c8 _ ps h8 hp=>cases hp with
          | @cons _ c9 _ ps h9 hp =>
           obtain ⟨x1,rfl⟩:=sZ n1 h1;obtain ⟨x2,rfl⟩:=sZ n2 h2;obtain ⟨x8,rfl⟩:=sZ n3 h8;have h0':c0=[.int .i64 (n:Nat)]:=h0;obtain ⟨rfl,_⟩:=h3;obtain ⟨rfl,_⟩:=h4;obtain ⟨rfl,_⟩:=h5;obtain ⟨rfl,_⟩:=h6;obtain ⟨rfl,_⟩:=h7;obtain ⟨rfl,q4,q5,q6⟩:=h9;subst h0' e;refine ⟨by simp,[.int .i64 (n:Nat)]::[x1]::[x2]::[.slice none 0 0]::[.slice none 0 0]::[.slice none 0 0]::[.slice none 0 0]::[.slice none 0 0]::[x8]::[v]::ps,by simp,?_⟩;exact .cons G (.cons h1 (.cons h2 (.cons ⟨rfl,rfl⟩ (.cons ⟨rfl,rfl⟩ (.cons ⟨rfl,rfl⟩ (.cons ⟨rfl,rfl⟩ (.cons ⟨rfl,rfl⟩ (.cons h8 (.cons q5 hp)))))))))
theorem NP {L:List Slot}{B T:Nat}{row:Yt}(hg:w.grownBy w' row)(hr:gF w B T row)(hT:T≠137∧T≠U32):∀ c,(HbA vr L).p B c w→(HbA vr L).p B c w':=λ c hp=>As.grown hp hg hr (qj _) (show T ∉ [137,U32] by simp [hT.1,hT.2])
theorem rV {H E m:Nat}{L:List Slt}{B T:Nat}{row:Yt}(hg:w.grownBy w' row)(hr:gF w B T row)(hT:T≠H∧T≠E):∀ c,(HkA H E m vr L).p B c w→(HkA H E m vr L).p B c w':=λ c hp=>As.grown hp hg hr (qj _) (show T ∉ [H,E] by simp [hT.1,hT.2])
theorem uW {L:List Slot}{xs:Ya}{n B:Nat}{c:Yl}(h:(HbA vr L).p B c w)(hm:(MgN xs).va.p B v w)(hsep:∀ t∈L,∀ g,t.has g→v.ownBlock≠some g):
  w.ownsRow B 137 3 vr L.length (L.flatMap Slot.cells)∧∀ v' w',w'.ownsRow B 137 3 v' (L.length+1) (L.flatMap Slot.cells++(newS v xs n).cells)→w.grownBy w' vr.ownBlock→(HxG vr (HbA v' (L++[newS v xs n])) v').p B c w':=by
 obtain ⟨q1,q2,q3,q4⟩:=h;refine ⟨q2,λ v' w' hown hg=>?_⟩;have hkeep:∀ (g:Nat) (c:Array Value),w.heap[g]?=some (Obj.cells c U32 (0,0))→w'.heap[g]?=some (Obj.cells c U32 (0,0)):=λ g c h8=>by
  refine (hg.block g (Array.getElem?_eq_some_iff.1 h8).1 (λ e9=>?_)).trans h8;rcases q2.2 with ⟨e1,_⟩|⟨g',cap,cur,e1,_,e3,_⟩
  ·rw [e1] at e9;cases e9
  ·rw [e1] at e9;have:g=g':=by simpa [Value.ownBlock] using e9
   subst this;rw [h8] at e3;injection e3 with e3;injection e3 with _ e3 _;revert e3;decide
 have hown1:=Nq hm;refine ⟨q1,(de q2).1,⟨rfl,?_,λ t ht=>?_,λ i j s t hi hj hne g hs ht=>?_⟩,(de hown).1⟩
 ·rw [qv,kr];simpa using hown
 ·rcases qp.1 ht with ht|ht
  ·exact (q3 t ht).keep λ g c _ h8=>hkeep g c h8
  ·obtain rfl:=qo.1 ht;have h9:w'.ownsRow B U32 1 v xs.length (xs.map lv):=cv hown1 λ g c _ h8=>hkeep g c h8;exact ⟨h9,BW h9⟩
 ·have hb1:∀ g,(newS v xs n).has g→v.ownBlock=some g:=λ g h=>by
   rcases h with h|h <;> exact h
  have hget:∀ (i:Nat) s,(L++[newS v xs n])[i]?=some s→(L[i]?=some s∧i<L.length)∨(i=L.length∧s=newS v xs n):=λ i s hi=>by
   by_cases h5:i<L.length
   ·rw [List.getElem?_append_left h5] at hi;exact .inl ⟨hi,h5⟩
   ·rw [List.getElem?_append_right zo] at hi;have h6:=(List.getElem?_eq_some_iff.1 hi).1;simp at h6;have h7:i=L.length:=by omega
    subst h7;simp at hi;exact .inr ⟨rfl,hi.symm⟩
  rcases hget i s hi with ⟨h5,h5'⟩|⟨h5,rfl⟩ <;> rcases hget j t hj with ⟨h6,h6'⟩|⟨h6,rfl⟩
  ·exact q4 i j s t h5 h6 hne g hs ht
  ·exact hsep s (qa h5) g hs (hb1 g ht)
  ·exact hsep t (qa h6) g ht (hb1 g hs)
  ·omega
def eC (m n:Nat)(ds:List Value):List (List Value):=(List.range n).map λ k=>(ds.drop (k*m)).take m
theorem oa {m n:Nat}{ds:Yl}:(eC m n ds).length=n:=by unfold eC;simp
theorem tG {ds:Yl}(h:ds.length=n*m):∀ x∈eC m n ds,x.length=m:=λ x hx=>by
 obtain ⟨k,hk,rfl⟩:=qr.1 hx;have hk':=jS.1 hk;have:k*m+m≤n*m:=by rw [← xH];exact qK m hk'
 rw [zf,xW];omega
theorem nf :∀ {n:Nat}{ds:Yl},ds.length=n*m→(eC m n ds).flatten=ds
 | 0,ds,h=>by
  have:ds=[]:=xu (by simpa using h);subst this
  rfl
 | n+1,ds,h=>by
  have h1:eC m (n+1) ds=ds.take m::eC m n (ds.drop m):=by
   unfold eC;rw [List.range_succ_eq_map,qT,xE,jK,xl]
   congr 1
   apply jm;intro k _;show (ds.drop ((k+1)*m)).take m=((ds.drop m).drop (k*m)).take m;rw [List.drop_drop,xH,xq m]
  rw [h1,za,nf (by rw [xW,h,xH];omega),xP]
def newK (m:Nat)(v:Value)(a:Nat)(ds:List Value)(n:Nat):Slt:=⟨v,eC m a ds,v,eC m a ds,.slice none 0 0,n⟩
def OwV (E m:Nat)(v:Value)(n:Nat):VA where
 p B u w:=u=v∧∃ ds,w.ownsRow B E m v n ds
 deps:=[E]
 cg:=λ B u w w' hg ⟨h,ds,h2⟩=>⟨h,ds,cv h2 λ g c _ h=>hg.heap h⟩
 wr:=by
  rintro B u w w' g c T fz hgc hT hB hW ⟨h,ds,h2⟩;simp only [qt,zw,or_false] at hT;refine ⟨h,ds,cv h2 λ g' c' _ h3=>?_⟩;rw [hW.block g' (λ e=>?_)]
  ·exact h3
  ·subst e;rw [hgc] at h3;injection h3 with h3;injection h3 with _ h3 _;exact hT h3
theorem N5 :Wk (OwV E m v n) (EqS v).va:=λ B u w ⟨h,ds,h2⟩=>⟨[v],⟨rfl,(de h2).1⟩,h⟩
theorem uU {H E m a n B:Nat}{L:List Slt}{c ds:Yl}(hHE:H≠E)(h:(HkA H E m vr L).p B c w)(hm:w.ownsRow B E m v a ds)(hsep:∀ t∈L,∀ g,t.has g→v.ownBlock≠some g):
  w.ownsRow B H 3 vr L.length (L.flatMap Slt.cells)∧∀ v' w',w'.ownsRow B H 3 v' (L.length+1) (L.flatMap Slt.cells++(newK m v a ds n).cells)→w.grownBy w' vr.ownBlock→(HxG vr (HkA H E m v' (L++[newK m v a ds n])) v').p B c w':=by
 obtain ⟨q1,q2,q3,q4⟩:=h;refine ⟨q2,λ v' w' hown hg=>?_⟩;have hkeep:∀ (g:Nat) (c:Array Value),w.heap[g]?=some (Obj.cells c E (0,0))→w'.heap[g]?=some (Obj.cells c E (0,0)):=λ g c h8=>by
  refine (hg.block g (Array.getElem?_eq_some_iff.1 h8).1 (λ e9=>?_)).trans h8;rcases q2.2 with ⟨e1,_⟩|⟨g',cap,cur,e1,_,e3,_⟩
  ·rw [e1] at e9;cases e9
  ·rw [e1] at e9;have:g=g':=by simpa [Value.ownBlock] using e9
   subst this;rw [h8] at e3;injection e3 with e3;injection e3 with _ e3 _;exact hHE e3.symm
 have hcl:(eC m a ds).length=a:=oa;have hfl:(eC m a ds).flatten=ds:=nf hm.1;refine ⟨q1,(de q2).1,⟨rfl,?_,λ t ht=>?_,λ i j s t hi hj hne g hs ht=>?_⟩,(de hown).1⟩
 ·rw [qv,kr];simpa using hown
 ·rcases qp.1 ht with ht|ht
  ·exact (q3 t ht).keep λ g c _ h8=>hkeep g c h8
  ·obtain rfl:=qo.1 ht;have h9:w'.ownsRow B E m v (eC m a ds).length (eC m a ds).flatten:=by
    rw [hcl,hfl];exact cv hm λ g c _ h8=>hkeep g c h8
   exact ⟨h9,uA (tG hm.1) h9⟩
 ·have hb1:∀ g,(newK m v a ds n).has g→v.ownBlock=some g:=λ g h=>by
   rcases h with h|h <;> exact h
  have hget:∀ (i:Nat) s,(L++[newK m v a ds n])[i]?=some s→(L[i]?=some s∧i<L.length)∨(i=L.length∧s=newK m v a ds n):=λ i s hi=>by
   by_cases h5:i<L.length
   ·rw [List.getElem?_append_left h5] at hi;exact .inl ⟨hi,h5⟩
   ·rw [List.getElem?_append_right zo] at hi;have h6:=(List.getElem?_eq_some_iff.1 hi).1;simp at h6;have h7:i=L.length:=by omega
    subst h7;simp at hi;exact .inr ⟨rfl,hi.symm⟩
  rcases hget i s hi with ⟨h5,h5'⟩|⟨h5,rfl⟩ <;> rcases hget j t hj with ⟨h6,h6'⟩|⟨h6,rfl⟩
  ·exact q4 i j s t h5 h6 hne g hs ht
  ·exact hsep s (qa h5) g hs (hb1 g ht)
  ·exact hsep t (qa h6) g ht (hb1 g hs)
  ·omega
theorem Hu {n B:Nat}{m a:Nat}{es ds:Yl}(h:(cat [EqS v,EqS (.slice none 0 0),NumA .i64 (n:Nat)]).p B ds w):ds=(newK m v a es n).cells:=by
 obtain ⟨ps,rfl,hp⟩:=h;cases hp with
 | cons h1 hp=>cases hp with
  | cons h2 hp=>cases hp with
   | cons h3 hp =>
    cases hp;have h3':=h3;obtain ⟨rfl,_⟩:=h1;obtain ⟨rfl,_⟩:=h2;have:_=[Value.int .i64 (n:Nat)]:=h3';subst this
    rfl
theorem HU {c v:Yn}{A nu ra el:As}{B N:Nat}(h:St B w0 N Γ Λ a w)(k:Nat)(hm:Λ[k]?=some ⟨s,T,H,BqG n (HxG c A v) nu ra el⟩):v.oneCell'=true∧v.cells = #[v]:=by
 obtain ⟨g,cs,_,_,_,hp⟩:=h.locs _ (qa hm);obtain ⟨ps,e,hp⟩:=hp;cases hp with
 | cons h1 hp=>cases hp with
  | cons h2 hp=>exact ⟨h2.2.2.2,ng h2.2.2.2⟩
theorem HS {c v:Yn}{A la nu ra:As}{B N:Nat}(h:St B w0 N Γ Λ a w)(k:Nat)(hm:Λ[k]?=some ⟨s,T,H,BqG n la nu ra (HxG c A v)⟩):v.oneCell'=true∧v.cells = #[v]:=by
 obtain ⟨g,cs,_,_,_,hp⟩:=h.locs _ (qa hm);obtain ⟨ps,e,hp⟩:=hp
 iterate 9 (cases hp;rename_i _ hp)
 cases hp;rename_i h2 hp;exact ⟨h2.2.2.2,ng h2.2.2.2⟩
theorem nr:∃ it z,Tryz.prog.info? 135=some it∧it.zero=some z∧it.size=3∧it.bytes=56∧z.cells.size=3:=by
 have h:((Tryz.prog.info? 135).bind λ it=>it.zero.map λ z=>(it.size,it.bytes,z.cells.size))=some (3,56,3):=by kernel_rfl
 cases hi:Tryz.prog.info? 135 with
 | none=>rw [hi] at h;simp at h
 | some it =>
  rw [hi] at h;cases hz:it.zero with
  | none=>simp [hz] at h
  | some z =>
   simp [hz] at h;exact ⟨it,z,rfl,hz,h.1,h.2.1,h.2.2⟩
def BqE (p:BkRest→List Slot→Prop):As where
 n:=17
 ag:=true
 p B cs w:=∃ X vr L,p X L∧(BqA X vr L).p B cs w
 deps:=[137,U32,141,3,168,124,135,76]
 len:=λ B cs w ⟨X,vr,L,_,h⟩=>(BqA X vr L).len B cs w h
 one:=λ B cs w ⟨X,vr,L,_,h⟩=>(BqA X vr L).one B cs w h
 ag1:=λ h=>by cases h
 cg:=λ B cs w w' hg ⟨X,vr,L,h1,h⟩=>⟨X,vr,L,h1,(BqA X vr L).cg B cs w w' hg h⟩
 wr:=λ B cs w w' g c T fz h1 h2 h3 h4 ⟨X,vr,L,h5,h⟩=>⟨X,vr,L,h5,(BqA X vr L).wr B cs w w' g c T fz h1 h2 h3 h4 h⟩
theorem wZ {p:BkRest→List Slot→Prop}(h:p X L):WkA (BqA X vr L) (BqE p):=⟨rfl,rfl,λ B cs w hp=>⟨X,vr,L,h,hp⟩⟩
theorem uN {X:BkRest}{n:Nat}{L:List Slot}{xs:Ya}(h:(BqG n (HbA vr L) (nuA X) (ryA X) (elA X)).p B cs w)(hm:(MgN xs).va.p B v w)(hsep:∀ t∈L,∀ g,t.has g→v.ownBlock≠some g):
  w.ownsRow B 137 3 vr L.length (L.flatMap Slot.cells)∧∀ v' w' ds,ds=(newS v xs n).cells→w'.ownsRow B 137 3 v' (L.length+1) (L.flatMap Slot.cells++ds)→w.grownBy w' vr.ownBlock→(v'.ownBlock=vr.ownBlock∨(v'.ownBlock=some w.heap.size∧w.grownBy w' none))→(BqG n (HxG vr (HbA v' (L++[newS v xs n])) v') (nuA X) (ryA X) (elA X)).p B cs w':=by
 obtain ⟨⟨c0,h0⟩,_⟩:=cS (X:={ X with n:=n }) h;have hown:=(uW (n:=n) h0 hm hsep).1;refine ⟨hown,λ v' w' ds hds hown' hg hb=>?_⟩;subst hds;have hr:=fb hown;exact DW h (λ c hc=>(uW (n:=n) hc hm hsep).2 v' w' hown' hg) (rV hg hr zd) (rV hg hr zd) (rV hg hr zd)
theorem uQ {X:BkRest}{n a:Nat}{L:List Slot}{es:Yl}(h:(BqG n (HbA vr L) (nuA X) (ryA X) (elA X)).p B cs w)(hm:w.ownsRow B 76 9 v a es)(hsep:∀ t∈X.M,∀ g,t.has g→v.ownBlock≠some g):
  w.ownsRow B 135 3 X.ve X.M.length (X.M.flatMap Slt.cells)∧∀ v' w' ds,ds=(newK 9 v a es n).cells→w'.ownsRow B 135 3 v' (X.M.length+1) (X.M.flatMap Slt.cells++ds)→w.grownBy w' X.ve.ownBlock→(v'.ownBlock=X.ve.ownBlock∨(v'.ownBlock=some w.heap.size∧w.grownBy w' none))→(BqG n (HbA vr L) (nuA X) (ryA X) (HxG X.ve (HkA 135 76 9 v' (X.M++[newK 9 v a es n])) v')).p B cs w':=by
 obtain ⟨_,_,_,⟨c0,h0⟩⟩:=cS (X:={ X with n:=n }) h;have hown:=(uU (n:=n) zd h0 hm hsep).1;refine ⟨hown,λ v' w' ds hds hown' hg hb=>?_⟩;subst hds;have hr:=fb hown;exact DW h (NP hg hr zd) (rV hg hr zd) (rV hg hr zd) (λ c hc=>(uU (n:=n) zd hc hm hsep).2 v' w' hown' hg)
theorem CA (X:BkRest)(vr v:Yn)(xs:Ya)(L:List Slot)(hsep:∀ t∈L,∀ g,t.has g→v.ownBlock≠some g)(hl:L.length≤1000000)(hn:X.n≤10000000):CK Tryz.prog 237 60 [60,137] (BqA X vr L) (BqE (λ X2 L2=>X2.n=X.n+1∧X2.N=X.N∧X2.R=X.R∧X2.M=X.M∧L2=L++[newS v xs (X.n+1)])) [(PinA v (MgN xs)).va] (Tu []):=by
 obtain ⟨it0,z0,hi0,hz0,hs0,hb0',hc0⟩:=Gy;refine CK.intro Tryz.func237 G zk nq zk (λ B g w0 a hrm U=>?_);have U:=zn [(0,EqV ((ptrH).f g)),(1,(PinA v (MgN xs)).va)] [⟨0,60,ptrH,BqA X vr L⟩] U;have U:St B w0 26 _ [⟨0,60,ptrH,BqG X.n (HbA vr L) (nuA X) (ryA X) (elA X)⟩] a w0.w:=U;refine qb<|bS (sp:=[.v 4 _,.v 5 _,.v 6 _,.v 7 _,.v 8 _,.v 9 _,.v 10 _,.sto 0]) 7 1 0 7 OneC [.g 0,.g 1,.o 4,.o 6] U (zM 0 G (zv G (lG (vq 0 G)) (zv G (lH (vq 1 G) gv) (zv G (cD (vq 2 G) (lz0 0 G) (gq 0 G) (Sub.part 0 G G) ty_3) (zv G (aL (vq 3 G) ab (aW zo)) (zv G (lG (vq 0 G)) (zv G (lH (vq 5 G) gv) o0))))))) G zd zk zk (zz (Wf 0 1 8 10) RL λ a w U=>?_);rw [show List.range' 7 1=[7] from rfl];have U:=St.wkG U 2 rfl Id;rw [qy];refine gO (A1:=BqG (X.n+1) (HbA vr L) (nuA X) (ryA X) (elA X)) [0,1] 3 2 0 0 G U G G G G G ty_3 G zk zk G (λ cs hp=>DV hp) (λ w U=>?_);refine dC ?_;have U:=zn Ug [⟨0,60,ptrH,BqG (X.n+1) (HbA vr L) (nuA X) (ryA X) (elA X)⟩] U;refine aa<|uX (sp:=[.v 11 _,.v 12 _,.v 13 _,.v 14 _,.v 15 _,.v 16 _,.v 17 _,.v 18 _,.v 19 _,.v 20 _,.v 21 _,.v 22 _,.v 23 VT,.v 24 VT,.v 25 VT,.sto 0]) [[],[],[1],[1,2],[1,2,3],[],[],[6],[6,7],[6,7,8],[5,6,7,8,9],[5,6,7,8,9,10],[1,2,3,4,5,6,7,8,9,10,11],[0,1,2,3,4,5,6,7,8,9,10,11,12],[0,1,2,3,4,5,6,7,8,9,10,11,12,13],[0,1,2,3,4,5,6,7,8,9,10,11,12,13,14]] 12 4 0 15 0 OneC [.g 0,.g 1,.o 0,.o 4,.o 11] [.g 0,.g 1,.o 4,.o 11] ac U (zM 0 G (zM 0 G (zv G (lG (vq 1 G)) (zv G (lH (vq 2 G) dI) (zv G (cD (vq 3 G) (lz0 0 G) (gq 0 G) (Sub.part 1 G G) nC) (zv G (aq (has_wk' (gq 1 G) N4)) (zM 0 G (zv G (lG (vq 6 G)) (zv G (lH (vq 7 G) gv) (zv G (cD (vq 8 G) (lz0 0 G) (gq 0 G) (Sub.part 0 G G) ty_3) (zv G (aT (qs:=[(0,_),(2,_)]) lW (.cons ⟨rfl,vq 5 rfl,rfl⟩ (.cons ⟨rfl,vq 9 rfl,rfl⟩ .nil))) (zv G (bR (D:=[U32]) (l:=[_]) (xs:=[.tmp 21]) (cO zk) Pm zk (n_ok zk) nq nq nq (.o (vq 10 G)) G G) o0)))))))))))) G zd zd zd zk zk (fx zk) zk zk zk (λ a w U=>?_) (λ a w U=>?_)
 ·have U:=zn (W8 0 1 11 15 22) RL U;rw [show List.range' 12 4=[12,13,14,15] from rfl];have U:=St.wkG U 3 rfl Kw;have hm:=U.vals _ (zm 1 rfl);rw [qy];refine ll (m:=3) (X:=cat [EqS v,EqS (.slice none 0 0),NumA .i64 ((X.n+1:Nat):Int)]) (A1:=λ v'=>BqG (X.n+1) (HxG vr (HbA v' (L++[newS v xs (X.n+1)])) v') (nuA X) (ryA X) (elA X)) (F:=λ ds=>ds=(newS v xs (X.n+1)).cells) [0,2] 3 4 0 G U G G (λ ds h=>CN h) G G G (hrm _ zk) xB hi0 hz0 hs0 hb0' hc0 zd (n:=L.length) zo zo zd zk zk zk zk (λ cs hp=>uN hp (Hc hm) hsep) (λ v' w' U=>?_);rw [qy];refine oR 2 G U G zd zk zk (λ a U=>?_);rw [qy];refine fK 0 G U dI G zd zk zk (λ a U=>?_);rw [qy];have hv1:=(HU U 0 rfl);refine gO (A1:=BqG (X.n+1) (HbA v' (L++[newS v xs (X.n+1)])) (nuA X) (ryA X) (elA X)) [3] 0 2 3 0 G U G G G hv1.1 hv1.2 nC G zk zk G (λ cs hp=>HW hp) (λ w U=>?_);refine dC ?_;have U:=St.wkL (A':=BqE (λ X2 L2=>X2.n=X.n+1∧X2.N=X.N∧X2.R=X.R∧X2.M=X.M∧L2=L++[newS v xs (X.n+1)])) U 0 rfl (wZ (X:={ X with n:=X.n+1 }) (vr:=v') (L:=L++[newS v xs (X.n+1)]) ⟨rfl,rfl,rfl,rfl,rfl⟩);have U:=zn UM RL U;refine dg<|ik U (zm 0 G) (zm 0 G) ?_;exact aP (rs:=[]) G U .nil zd
 ·have U:=zn (Wf 0 1 15 22) RL U;rw [show List.range' (12+1) (4-1)=[13,14,15] from rfl];have U:=St.wkG U 2 rfl Kw;have hm:=U.vals _ (zm 1 rfl);rw [qy];refine ll (m:=3) (X:=cat [EqS v,EqS (.slice none 0 0),NumA .i64 ((X.n+1:Nat):Int)]) (A1:=λ v'=>BqG (X.n+1) (HxG vr (HbA v' (L++[newS v xs (X.n+1)])) v') (nuA X) (ryA X) (elA X)) (F:=λ ds=>ds=(newS v xs (X.n+1)).cells) [0] 2 3 0 G U G G (λ ds h=>CN h) G G G (hrm _ zk) xB hi0 hz0 hs0 hb0' hc0 zd (n:=L.length) zo zo zd zk zk zk zk (λ cs hp=>uN hp (Hc hm) hsep) (λ v' w' U=>?_);rw [qy];refine C1 1 G U G zd zk zk (λ a U=>?_);rw [qy];refine oR 0 G U G zd zk zk (λ a U=>?_);rw [qy];refine fK 0 G U dI G zd zk zk (λ a U=>?_);rw [qy];have hv1:=(HU U 0 rfl);refine gO (A1:=BqG (X.n+1) (HbA v' (L++[newS v xs (X.n+1)])) (nuA X) (ryA X) (elA X)) [4] 0 3 4 0 G U G G G hv1.1 hv1.2 nC G zk zk G (λ cs hp=>HW hp) (λ w U=>?_);refine dC ?_;have U:=St.wkL (A':=BqE (λ X2 L2=>X2.n=X.n+1∧X2.N=X.N∧X2.R=X.R∧X2.M=X.M∧L2=L++[newS v xs (X.n+1)])) U 0 rfl (wZ (X:={ X with n:=X.n+1 }) (vr:=v') (L:=L++[newS v xs (X.n+1)]) ⟨rfl,rfl,rfl,rfl,rfl⟩);have U:=zn UM RL U;refine dg<|ik U (zm 0 G) (zm 0 G) ?_;exact aP (rs:=[]) G U .nil zd
theorem CB (X:BkRest)(vr v:Yn)(na:Nat)(L:List Slot)(hsep:∀ t∈X.M,∀ g,t.has g→v.ownBlock≠some g)(hl:X.M.length≤1000000)(hn:X.n≤10000000):CK Tryz.prog 37 60 [60,135] (BqA X vr L) (BqE (λ X2 L2=>X2.n=X.n+1∧X2.N=X.N∧X2.R=X.R∧L2=L∧∃ es,es.length=na*9∧X2.M=X.M++[newK 9 v na es (X.n+1)])) [OwV 76 9 v na] (Tu []):=by
 obtain ⟨it0,z0,hi0,hz0,hs0,hb0',hc0⟩:=nr;refine CK.intro Tryz.func37 G zk nq zk (λ B g w0 a hrm U=>?_);have U:=zn [(0,EqV ((ptrH).f g)),(1,OwV 76 9 v na)] [⟨0,60,ptrH,BqA X vr L⟩] U;have U:St B w0 26 _ [⟨0,60,ptrH,BqG X.n (HbA vr L) (nuA X) (ryA X) (elA X)⟩] a w0.w:=U;refine qb<|bS (sp:=[.v 4 _,.v 5 _,.v 6 _,.v 7 _,.v 8 _,.v 9 _,.v 10 _,.sto 0]) 7 1 0 7 OneC [.g 0,.g 1,.o 4,.o 6] U (zM 0 G (zv G (lG (vq 0 G)) (zv G (lH (vq 1 G) gv) (zv G (cD (vq 2 G) (lz0 0 G) (gq 0 G) (Sub.part 0 G G) ty_3) (zv G (aL (vq 3 G) ab (aW zo)) (zv G (lG (vq 0 G)) (zv G (lH (vq 5 G) gv) o0))))))) G zd zk zk (zz (Wf 0 1 8 10) RL λ a w U=>?_);rw [show List.range' 7 1=[7] from rfl];have U:=St.wkG U 2 rfl Id;rw [qy];refine gO (A1:=BqG (X.n+1) (HbA vr L) (nuA X) (ryA X) (elA X)) [0,1] 3 2 0 0 G U G G G G G ty_3 G zk zk G (λ cs hp=>DV hp) (λ w U=>?_);refine dC ?_;have U:=zn Ug [⟨0,60,ptrH,BqG (X.n+1) (HbA vr L) (nuA X) (ryA X) (elA X)⟩] U;refine aa<|uX (sp:=[.v 11 _,.v 12 _,.v 13 _,.v 14 _,.v 15 _,.v 16 _,.v 17 _,.v 18 _,.v 19 _,.v 20 _,.v 21 _,.v 22 _,.v 23 VT,.v 24 VT,.v 25 VT,.sto 0]) [[],[],[1],[1,2],[1,2,3],[],[],[6],[6,7],[6,7,8],[5,6,7,8,9],[5,6,7,8,9,10],[1,2,3,4,5,6,7,8,9,10,11],[0,1,2,3,4,5,6,7,8,9,10,11,12],[0,1,2,3,4,5,6,7,8,9,10,11,12,13],[0,1,2,3,4,5,6,7,8,9,10,11,12,13,14]] 12 4 0 15 0 OneC [.g 0,.g 1,.o 0,.o 4,.o 11] [.g 0,.g 1,.o 4,.o 11] ac U (zM 0 G (zM 0 G (zv G (lG (vq 1 G)) (zv G (lH (vq 2 G) dH) (zv G (cD (vq 3 G) (lz0 0 G) (gq 0 G) (Sub.part 9 G G) nB) (zv G (aq (has_wk' (gq 1 G) N5)) (zM 0 G (zv G (lG (vq 6 G)) (zv G (lH (vq 7 G) gv) (zv G (cD (vq 8 G) (lz0 0 G) (gq 0 G) (Sub.part 0 G G) ty_3) (zv G (aT (qs:=[(0,_),(2,_)]) da (.cons ⟨rfl,vq 5 rfl,rfl⟩ (.cons ⟨rfl,vq 9 rfl,rfl⟩ .nil))) (zv G (bR (D:=[U32]) (l:=[_]) (xs:=[.tmp 21]) (cO zk) Pk zk (n_ok zk) nq nq nq (.o (vq 10 G)) G G) o0)))))))))))) G zd zd zd zk zk (fx zk) zk zk zk (λ a w U=>?_) (λ a w U=>?_)
 ·have U:=zn (W8 0 1 11 15 22) RL U;rw [show List.range' 12 4=[12,13,14,15] from rfl];have U:=St.wkG U 3 rfl Ku;have hm:=U.vals _ (zm 1 rfl);obtain ⟨-,es,hm⟩:=hm;rw [qy];refine ll (m:=3) (X:=cat [EqS v,EqS (.slice none 0 0),NumA .i64 ((X.n+1:Nat):Int)]) (A1:=λ v'=>BqG (X.n+1) (HbA vr L) (nuA X) (ryA X) (HxG X.ve (HkA 135 76 9 v' (X.M++[newK 9 v na es (X.n+1)])) v')) (F:=λ ds=>ds=(newK 9 v na es (X.n+1)).cells) [0,2] 3 4 0 G U G G (λ ds h=>Hu h) G G G (hrm _ zk) xA hi0 hz0 hs0 hb0' hc0 zd (n:=X.M.length) zo zo zd zk zk zk zk (λ cs hp=>uQ hp hm hsep) (λ v' w' U=>?_);rw [qy];refine oR 2 G U G zd zk zk (λ a U=>?_);rw [qy];refine fK 0 G U dH G zd zk zk (λ a U=>?_);rw [qy];have hv1:=(HS U 0 rfl);refine gO (A1:=BqG (X.n+1) (HbA vr L) (nuA X) (ryA X) (HkA 135 76 9 v' (X.M++[newK 9 v na es (X.n+1)]))) [3] 0 2 3 0 G U G G G hv1.1 hv1.2 nB G zk zk G (λ cs hp=>HV G G G hp) (λ w U=>?_);refine dC ?_;have U:=St.wkL (A':=BqE (λ X2 L2=>X2.n=X.n+1∧X2.N=X.N∧X2.R=X.R∧L2=L∧∃ es,es.length=na*9∧X2.M=X.M++[newK 9 v na es (X.n+1)])) U 0 rfl (wZ (X:={ X with n:=X.n+1,ve:=v',M:=X.M++[newK 9 v na es (X.n+1)] }) (vr:=vr) (L:=L) ⟨rfl,rfl,rfl,rfl,es,hm.1,rfl⟩);have U:=zn UM RL U;refine dg<|ik U (zm 0 G) (zm 0 G) ?_;exact aP (rs:=[]) G U .nil zd
 ·have U:=zn (Wf 0 1 15 22) RL U;rw [show List.range' (12+1) (4-1)=[13,14,15] from rfl];have U:=St.wkG U 2 rfl Ku;have hm:=U.vals _ (zm 1 rfl);obtain ⟨-,es,hm⟩:=hm;rw [qy];refine ll (m:=3) (X:=cat [EqS v,EqS (.slice none 0 0),NumA .i64 ((X.n+1:Nat):Int)]) (A1:=λ v'=>BqG (X.n+1) (HbA vr L) (nuA X) (ryA X) (HxG X.ve (HkA 135 76 9 v' (X.M++[newK 9 v na es (X.n+1)])) v')) (F:=λ ds=>ds=(newK 9 v na es (X.n+1)).cells) [0] 2 3 0 G U G G (λ ds h=>Hu h) G G G (hrm _ zk) xA hi0 hz0 hs0 hb0' hc0 zd (n:=X.M.length) zo zo zd zk zk zk zk (λ cs hp=>uQ hp hm hsep) (λ v' w' U=>?_);rw [qy];refine C1 1 G U G zd zk zk (λ a U=>?_);rw [qy];refine oR 0 G U G zd zk zk (λ a U=>?_);rw [qy];refine fK 0 G U dH G zd zk zk (λ a U=>?_);rw [qy];have hv1:=(HS U 0 rfl);refine gO (A1:=BqG (X.n+1) (HbA vr L) (nuA X) (ryA X) (HkA 135 76 9 v' (X.M++[newK 9 v na es (X.n+1)]))) [4] 0 3 4 0 G U G G G hv1.1 hv1.2 nB G zk zk G (λ cs hp=>HV G G G hp) (λ w U=>?_);refine dC ?_;have U:=St.wkL (A':=BqE (λ X2 L2=>X2.n=X.n+1∧X2.N=X.N∧X2.R=X.R∧L2=L∧∃ es,es.length=na*9∧X2.M=X.M++[newK 9 v na es (X.n+1)])) U 0 rfl (wZ (X:={ X with n:=X.n+1,ve:=v',M:=X.M++[newK 9 v na es (X.n+1)] }) (vr:=vr) (L:=L) ⟨rfl,rfl,rfl,rfl,es,hm.1,rfl⟩);have U:=zn UM RL U;refine dg<|ik U (zm 0 G) (zm 0 G) ?_;exact aP (rs:=[]) G U .nil zd
def NilM:As where
 n:=1
 ag:=false
 p _ cs _:=cs=[.slice none 0 0]
 deps:=[]
 len:=by rintro B cs w rfl;rfl
 one:=by rintro B cs w rfl x hx;simp at hx;subst hx;rfl
 ag1:=λ _=>rfl
 cg:=λ _ _ _ _ _ h=>h
 wr:=λ _ _ _ _ _ _ _ _ _ _ _ _ h=>h
def NilI:As:=cat [BoA false,NilM]
def RFN (x:RF):As:=cat [RIN x.num,RIN x.den]
def RFD (x:RF):As:=DisA (RFN x)
theorem FJ :FreeA (RFD x) (RFD x):=mh (bN (.cons (dA _) (.cons (dA _) .nil)))
theorem qd_rfd :WkA (QD k q) (RFD (rfOf q)):=gw (br (.cons I4 (.cons I4 .nil)))
theorem rp:Str Tryz.prog 28 [NilI,NilI] :=
 Str.of (z:=.agg #[.bool false,.slice none 0 0,.bool false,.slice none 0 0]) zk jc zk λ B w=>⟨[[.bool false,.slice none 0 0],[.bool false,.slice none 0 0]],rfl,.cons ⟨[[.bool false],[.slice none 0 0]],rfl,.cons rfl (.cons rfl .nil)⟩ (.cons ⟨[[.bool false],[.slice none 0 0]],rfl,.cons rfl (.cons rfl .nil)⟩ .nil)⟩
theorem mL (h:(cat [NilI,NilI]).p B cs w):cs=[.bool false,.slice none 0 0,.bool false,.slice none 0 0]:=by
 obtain ⟨ps,rfl,hp⟩:=h;have hI:∀ c,NilI.p B c w→c=[.bool false,.slice none 0 0]:=λ c ⟨qs,e,hq⟩=>by
  cases hq with
  | @cons _ c1 _ _ h1 hq=>cases hq with
   | @cons _ c2 _ _ h2 hq =>
    cases hq;have h1':c1=[.bool false]:=h1;have h2':c2=[.slice none 0 0]:=h2;rw [e,h1',h2']
    rfl
 cases hp with
 | cons h1 hp=>cases hp with
  | cons h2 hp =>
   cases hp;rw [hI _ h1,hI _ h2]
   rfl
theorem zf_rfd:WkA (cat [NilI,NilI]) (RFD rf0):=⟨rfl,rfl,λ B cs w h=>by
 have hi:(RIN ⟨false,[]⟩).p B [.bool false,.slice none 0 0] w:=⟨[[.bool false],[.slice none 0 0]],rfl,.cons rfl (.cons ⟨cU,.inl ⟨rfl,rfl⟩⟩ .nil)⟩;rw [mL h];exact ⟨⟨[[.bool false,.slice none 0 0],[.bool false,.slice none 0 0]],rfl,.cons hi (.cons hi .nil)⟩,jg⟩⟩
section
open Rg
variable {P:Program}{Q:Exit→Act→World→Prop}{B N:Nat}{w0:Bs}{Γ:List (Nat × VA)}{ops:Array Oper}{les:List LeF}{sp:List ((Nat→Value)→Sp)}{anc:Nat→List Nat}{i:Nat}
end
theorem LB {m:Yn}{xs:Ya}(h:(MgN xs).p B [m] w):blk m=m.ownBlock:=by
 rcases h.2 with ⟨_,e⟩|⟨g,ext,e,_⟩
 ·injection e with e;subst e
  rfl
 ·injection e with e;subst e
  rfl
theorem rT {x:RI}(h:(RIN x).p B cs w):∃ m,(IntP x m).p B cs w∧cbl cs=kbl [(m,x.mag)]:=by
 obtain ⟨ps,rfl,hp⟩:=h;cases hp with
 | @cons _ c1 _ _ h1 hp=>cases hp with
  | @cons _ c2 _ _ h2 hp =>
   cases hp;have h1':c1=[.bool x.neg]:=h1;subst h1';have l2:=(MgN x.mag).len _ _ _ h2
   match c2,l2 with
   | [m],_ =>
    refine ⟨m,⟨[[.bool x.neg],[m]],rfl,.cons G (.cons ⟨h2,rfl⟩ .nil)⟩,?_⟩;have e:=LB h2;show List.filterMap blk [.bool x.neg,m]=List.filterMap (λ p=>p.1.ownBlock) [(m,x.mag)];have:List.filterMap blk [.bool x.neg,m]=List.filterMap blk [m]:=rfl;rw [this];simp [List.filterMap_cons,e]
section
open Rg
variable {P:Program}{Q:Exit→Act→World→Prop}{B N:Nat}{w0:Bs}{Γ:List (Nat × VA)}{ops:Array Oper}{les:List LeF}{sp:List ((Nat→Value)→Sp)}{anc:Nat→List Nat}{i:Nat}
end
section
open Rg
variable {P:Program}{Q:Exit→Act→World→Prop}{B N:Nat}{w0:Bs}{Γ:List (Nat × VA)}{Λ:List Lc}{a:Act}{w:World}
def les0 (Λ:List Lc):List Le:=Λ.map λ l=>⟨l.s,l.T,l.H,none,l.A,none⟩
theorem rQ:(les0 Λ).map (λ e=>(⟨e.s,e.T,e.H,Rg.last e⟩:Lc))=Λ:=by
 unfold les0;rw [xE];have:(λ e:Le=>(⟨e.s,e.T,e.H,Rg.last e⟩:Lc))∘(λ l:Lc=>(⟨l.s,l.T,l.H,none,l.A,none⟩:Le))=id:=by
  funext l
  rfl
 rw [this,vF]
theorem KI {ops:Yg}{sp:Yu}{d0:Nat}{A0:VA}(src:List Src)(h:St B w0 N ((d0,A0)::Γ) Λ a w)(h0:sp[0]?=some (.v d0 A0))(hsz:0<ops.size)
  (hob:Obs P Q ⟨ops,N,Γ,les0 Λ,sp,λ i=>List.range i⟩ B w0 1 (ops.size-1)) (hk:Rg.chk ⟨ops,N,Γ,les0 Λ,sp,λ i=>List.range i⟩=true) (hsrc:src.all (okS ⟨ops,N,Γ,les0 Λ,sp,λ i=>List.range i⟩)=true)
  (hQ:∀ a w,St B w0 N (src.filterMap (cC ⟨ops,N,Γ,les0 Λ,sp,λ i=>List.range i⟩)) Λ a w→Q .normal a w):wpOps P ops Q (List.range' 1 (ops.size-1)) a w:=by
 have hmem:∀ e∈les0 Λ,e.cr=none∧e.st=none∧(⟨e.s,e.T,e.H,e.A0⟩:Lc)∈Λ:=λ e he=>by
  obtain ⟨l,hl,rfl⟩:=qr.1 he;exact ⟨rfl,rfl,hl⟩
 have hcur:∀ e∈les0 Λ,∀ L:Nat→Bool,Rg.cur L e=some e.A0:=λ e he L=>by
  obtain ⟨h1,h2,_⟩:=hmem e he;unfold Rg.cur;rw [h1,h2]
  rfl
 have hi0:Rg.Inv ⟨ops,N,Γ,les0 Λ,sp,λ i=>List.range i⟩ B w0 (λ j=>decide (j<1)) a w:=by
  refine ⟨h.lo,h.defers,h.size,h.base,λ x hx _ _=>h.vals x (zx _ hx),λ i y d A hs hv hL _=>?_,λ i d b k c hs hL _=>?_,λ e he A hA=>?_,λ e he f hf hne _ _=>?_⟩
  ·have hL':i<1:=qu hL;have:i=0:=by omega
   subst this;have hs':sp[0]?=some y:=hs;rw [h0] at hs';injection hs' with hs';subst hs';simp only [Sp.vl,Option.some.injEq,Prod.mk.injEq] at hv;obtain ⟨rfl,rfl⟩:=hv;exact h.vals (d0,A0) (xx ..)
  ·have hL':i<1:=qu hL;have:i=0:=by omega
   subst this;have hs':sp[0]?=some (.adr d b k c):=hs;rw [h0] at hs';cases hs'
  ·rw [hcur e he] at hA;injection hA with hA;subst hA;exact h.locs _ (hmem e he).2.2
  ·exact h.dis _ (hmem e he).2.2 _ (hmem f hf).2.2 hne
 have key:∀ m k,1≤k→k+m=ops.size→∀ a w,Rg.Inv ⟨ops,N,Γ,les0 Λ,sp,λ i=>List.range i⟩ B w0 (λ j=>decide (j<k)) a w→wpOps P ops Q (List.range' k m) a w:=by
  intro m
  induction m with
  | zero =>
   intro k hk1 hkm a w hi;have:k=ops.size:=by omega
   subst this;have:=fp hk ⟨hi⟩ src hsrc;rw [show (Rg.mk ops N Γ (les0 Λ) sp (λ i=>List.range i)).les=les0 Λ from rfl,rQ] at this;exact hQ a w this
  | succ m ih =>
   intro k hk1 hkm a w hi;rw [List.range'_succ,qy];refine Rg.step hk (hob.all k zo zo) hi ?_ (by simp) ?_ _ λ a' w' hi'=>ih (k+1) zo zo a' w' (hi'.congr λ j=>?_)
   ·intro i hi j hj;have hj:(List.range i).contains j=true:=hj;simp at hi hj ⊢;omega
   ·intro j hj;have hj:(List.range k).contains j=true:=hj;simpa using hj
   ·unfold upd;by_cases h1:j=k
    ·subst h1;simp
    ·have h2:(j==k)=false:=by simpa using h1
     rw [h2,xJ,qW];omega
 exact key (ops.size-1) 1 (qj _) zo a w hi0
end
theorem Cn.introD {f : Ym}{fn : Func}{c : Code}{pre : Yc}{post : VA} (hf : P.funcs[f]? = some fn) (hb : fn.body=some c) (hn : (fn.name == "runtime.NumGoroutine")=false) (hsz : pre.length ≤ fn.ntmps)
  (h:∀ (B:Nat) (w0:Bs) (a:Act),(∀ g,¬ w0.F g)→w0.nd=true→NoF w0→St B w0 fn.ntmps (argΓ pre) [] a w0.w→c.wp P (ce P fn (RQ B w0 post)) a w0.w):Cn P f pre post:=by
 refine ⟨⟨fn,hf,hn,by rw [hb];rfl⟩,λ B w args hB ha=>(cm hf hb (h B ⟨w,λ _=>False,true⟩ _ (λ _ h=>h) G (λ _ h=>h.elim) ?_)).mono λ _ _ ⟨v,he,hv,hk⟩=>⟨v,he,hv,⟨hk.os,hk.tape,hk.output,hk.size,λ k hlt=>hk.block k hlt λ h=>h⟩⟩⟩;have hl:=ha.length;refine ⟨λ g hg=>qg hB (hg.resolve_right λ h=>h),DefOk.nil rfl,?_,Kept.refl _,All2.args ha,(λ l hl=>by cases hl),(λ l hl=>by cases hl)⟩;simp only [xj,z9,qP];omega
def now (w:World)(go:Nat):Bs:=⟨w,λ g=>g=go,true⟩
theorem Kept.trans1 {go:Nat}(h:Kept w0 w)(hgo:w0.may go)(h2:Kept (now w go) w'):Kept w0 w' :=
 ⟨h2.os.trans h.os,h2.tape.trans h.tape,h2.output.trans h.output,qg h.size h2.size,λ k hk hf=>(h2.block k (qE hk h.size) λ e=>by
  have e':k=go:=e;subst e';rcases hgo with h1|h1
  ·omega
  ·exact hf h1).trans (h.block k hk hf)⟩
theorem St.rebase {B N:Nat}(h:St B w0 N Γ Λ a w)(hnd:w0.nd=true){go:Nat}(hgo:w0.may go)(hΛ:∀ l∈Λ,blk (a.eval (.tmp l.s))=some go):St B (now w go) N Γ Λ a w :=
 ⟨λ g hg=>by
  rcases hg with h1|h1
  ·exact qg (h.lo w0.w.heap.size (.inl (qj _))) (qg h.base.size h1)
  ·have e:g=go:=h1;rw [e];exact h.lo _ hgo,DefOk.nil (h.defers.none hnd),h.size,Kept.refl _,h.vals,λ l hl=>by
  obtain ⟨g,cs,e1,e2,e3,e4⟩:=h.locs l hl;have:=hΛ l hl;rw [e1,l.H.ok] at this;injection this with this;exact ⟨g,cs,e1,.inr this,e3,e4⟩,h.dis⟩
theorem St.back {B N:Nat}{go:Nat}(h:St B (now w go) N Γ Λ a w')(hlo:∀ g,w0.may g→B≤g)(hk:Kept w0 w)(hgo:w0.may go):St B w0 N Γ Λ a w' :=
 ⟨hlo,DefOk.nil (h.defers.none rfl),h.size,hk.trans1 hgo h.base,h.vals,λ l hl=>by
  obtain ⟨g,cs,e1,e2,e3,e4⟩:=h.locs l hl;refine ⟨g,cs,e1,?_,e3,e4⟩;rcases e2 with e2|e2
  ·exact .inl (qg hk.size e2)
  ·have e:g=go:=e2;rw [e];exact hgo,h.dis⟩
theorem iC {B i:Nat}{A:VA}(hA:∀ w,Kept w0 w→A.p B v w)(h:Has R B w0 i x (EqV v)):Has R B w0 i x A:=λ a w av=>by
 rw [h a w av];exact hA _ av.base
theorem Fq (h:Mag B w A c l)(hs:w.heap.size≤w'.heap.size)(hk:∀ b,A.map (·.block)=some b→b<w.heap.size→w'.heap[b]?=w.heap[b]?):Mag B w' A c l :=
 ⟨h.ok,h.le,h.max,λ hl=>by
  obtain ⟨b,o,rfl,h1,h2,h3⟩:=h.at_ hl;have e:=hk b rfl h1;refine ⟨b,o,rfl,qE h1 hs,?_,λ j hj=>?_⟩
  ·rcases h2 with h2|⟨c',fz,h2⟩
   ·exact .inl h2
   ·exact .inr ⟨c',fz,e.trans h2⟩
  ·rw [← h3 j hj];unfold World.cell?;rw [e]⟩
theorem Ch {l:Ya}{go:Nat}(h:(MgA l).va.p B v w)(hne:blk v≠some go)(hk:Kept (now w go) w'):(MgA l).va.p B v w':=by
 obtain ⟨A,c,rfl,hm⟩:=gS h;refine eG (Fq hm hk.size λ b hb hlt=>hk.block b hlt λ e=>?_) rfl;have e':b=go:=e;subst e';cases A with
 | none=>cases hb
 | some ad=>exact hne hb
structure Rst (B:Nat) (w0:Bs) (a:Act) (w:World) (s8:Nat) (v:Value) (l:List Nat) (go:Nat):Prop where
 mg:(MgA l).va.p B v w
 ne:blk v≠some go
 at8:blk (a.eval (.tmp s8))=some go
 may:w0.may go
 lt:go<w.heap.size
theorem St.eqF {B N:Nat}(h:St B w0 N Γ Λ a w){A:VA}(k:Nat)(hm:Γ[k]?=some (s,EqV v))(hA:A.p B v w):St B w0 N (Γ.set k (s,A)) Λ a w :=
 ⟨h.lo,h.defers,h.size,h.base,λ x hx=>by
  rcases qB hx with hx|rfl
  ·exact h.vals x hx
  ·have e:a.eval (.tmp s)=v:=h.vals _ (qa hm);show A.p B (a.eval (.tmp s)) w;rw [e];exact hA,h.locs,h.dis⟩
theorem St.toE {B N:Nat}(h:St B w0 N Γ Λ a w)(k:Nat)(hm:Γ[k]?=some (s,A)):∃ v,A.p B v w∧St B w0 N (Γ.set k (s,EqV v)) Λ a w :=
 ⟨a.eval (.tmp s),h.vals _ (qa hm),h.lo,h.defers,h.size,h.base,λ x hx=>by
  rcases qB hx with hx|rfl
  ·exact h.vals x hx
  ·exact rfl,h.locs,h.dis⟩
open Rg in
theorem St.putV {B N:Nat}{w w2:Yi}(h:St B w0 N Γ Λ a w){M:VA}(hc:c<N)(hg:Grow w w2)(hp:M.p B v w2)(hΓ:∀ y∈Γ,y.1≠c)(hΛ:∀ l∈Λ,l.s≠c):St B w0 N ((c,M)::Γ) Λ (a.put (some c) v) w2:=by
 have hs:c<a.tmps.size:=by rw [h.size];exact hc
 refine ⟨h.lo,h.defers.grow hg rfl,by rw [size_put];exact h.size,h.base.grow hg,λ y hy=>?_,λ l hl=>?_,λ l hl m hm hne=>?_⟩
 ·rcases qt.1 hy with rfl|hy
  ·show M.p B ((a.put (some c) v).eval (.tmp c)) w2;rw [aM _ _ _ hs];exact hp
  ·rw [an _ _ _ _ (hΓ y hy)];exact VA.grow y.2 _ _ _ _ hg (h.vals y hy)
 ·obtain ⟨g,cs,e1,e2,e3,e4⟩:=LcOk.grow (h.locs l hl) hg;exact ⟨g,cs,by rw [an _ _ _ _ (hΛ l hl)];exact e1,e2,e3,e4⟩
 ·rw [an _ _ _ _ (hΛ l hl),an _ _ _ _ (hΛ m hm)];exact h.dis l hl m hm hne
theorem Bc {w : Yi}{a : Act}{fn : Func}{d : Nat}{T : Yh}{ps : Yv}{af : Yw}{gd : Option (Nat × Bool)}{at_ : Yq}{xs : Yr}(hf : P.funcs[f]? = some fn)(hn : (fn.name == "runtime.NumGoroutine")=false)(hb : fn.body.isNone=false) :
  (execOp a.eval ⟨some d,.call ⟨.value (.func f),xs.toArray,at_⟩,T,ps,af,gd⟩).run P w=.ok (.enter f (xs.map a.eval).toArray) w:=by
 simp only [execOp,resolve,Act.eval,Deferred.ofValue,Sem.run_bind,Sem.run_pure,Result.andThen_ok,invoke,bi hf hn hb];simp
open Rg in
open Rg in
theorem KM {Q:Yd}{B N:Nat}{id:Nat}{ops:Yg}{sp:Yu}(n:Nat)(src:Ya)(i1 i2 k3:Nat){S E T1 T2 T3:Yh}{f:Ym}{M1 M2:VA}{at_:Yq}{s u d c e m bytes b s3:Nat}{ps1 ps2 ps3:Yv}{af1 af2 af3:Yw}{D D':Yp}{l xs:Yb}{A2:VA}{it:TypeInfo}{z:Yn}
  (h:St B w0 N Γ Λ a w) (hob:Obs P Q ⟨ops,N,Γ,lesN Λ,sp,λ i=>List.range i⟩ B w0 0 n) (hn2:ops.size=n+3) (hk:Rg.chk ⟨ops,N,Γ,lesN Λ,sp,λ i=>List.range i⟩=true)
  (ho1:ops[n]?=some ⟨some d,.call ⟨.builtin .append,#[.tmp s,.tmp u],#[S,S]⟩,T1,ps1,af1,none⟩) (ho2:ops[n+1]?=some ⟨some c,.call ⟨.value (.func f),#[.tmp d],at_⟩,T2,ps2,af2,none⟩) (ho9:ops[n+2]?=some ⟨some e,.assign (.tmp c),T3,ps3,af3,none⟩) (hcn:Cn P f [M1] M2) (hM:Wk (OwnB b E m D (l++xs)) M1)
  (hi1:i1<n) (h1:sp[i1]?=some (.v s (OwnB b E m D l))) (hi2:i2<n) (h2:sp[i2]?=some (.v u A2)) (h3:Γ[k3]?=some (s3,LM b)) (ho3:Rg.outG ⟨ops,N,Γ,lesN Λ,sp,λ i=>List.range i⟩ s3=true) (hwb:w0.w.heap.size≤b) (hA2:∀ w u,A2.p B u w→Kept w0 w→(SlA E D' xs).va.p B u w)
  (hS:P.underlying S=some (.slice E)) (hi:P.info? E=some it) (hz:it.zero=some z) (hsz:it.size=m) (hby:it.bytes=bytes) (hzs:z.cells.size=m) (hm0:0<m) (hl:l.length+xs.length≤100000000000) (hb6:bytes≤1000)
  (hD':∀ T∈D',T∈D) (hED:E ∉ D) (hxm:∀ x∈xs,x.n=m) (hde:((d != c)&&(d != e)&&(c != e))=true) (hd:d<N) (hcN:c<N) (he:e<N)
  (hsrc:src.all (λ k=>match Γ[k]? with|some y => !y.2.deps.contains E&&Rg.outG ⟨ops,N,Γ,lesN Λ,sp,λ i=>List.range i⟩ y.1|none=>false)=true)
  (hΛ:Λ.all (λ l=>(l.T != E || l.s==s3) && !l.A.deps.contains E&&l.s != d&&l.s != c&&l.s != e)=true)
  (hQ:∀ a w,St B w0 N ((e,M2)::src.filterMap (λ k=>Γ[k]?)) Λ a w→Q .normal a w):(Code.region id ops false).wp P Q a w:=by
 have hles0:∀ y∈lesN Λ,y.cr=none∧y.st=none∧(⟨y.s,y.T,y.H,y.A0⟩:Lc)∈Λ:=λ y hy=>by
  obtain ⟨l',hl',rfl⟩:=qr.1 hy;exact ⟨rfl,rfl,hl'⟩
 refine Rg.linK (R:=⟨ops,N,Γ,lesN Λ,sp,λ i=>List.range i⟩) (m:=3) hn2 G hk h (λ y hy _=>(hles0 y hy).2.2) (λ i hi=>hob.all i zo zo) λ a1 w1 hinv=>?_;have hcl:∀ deps,Rg.clash ⟨ops,N,Γ,lesN Λ,sp,λ i=>List.range i⟩ (λ k=>decide (k<n)) deps=false:=λ deps=>by
  unfold Rg.clash;rw [xv];intro y hy;rw [(hles0 y hy).2.1];simp
 obtain ⟨hbw,hB,hv⟩:=hinv.v i1 _ s _ h1 rfl (qH hi1) (hcl _);have hout:∀ t,Rg.outG ⟨ops,N,Γ,lesN Λ,sp,λ i=>List.range i⟩ t=true→∀ q,q<ops.size→Rg.dst ⟨ops,N,Γ,lesN Λ,sp,λ i=>List.range i⟩ q≠some t:=λ t ht q hq=>by
  have:=qf.1 ht q (by simpa using hq);simpa using this
 obtain ⟨g3,hg3,hlt3⟩:=hinv.g _ (qa h3) (λ q hq hdq=>absurd hdq (hout _ ho3 q hq)) (hcl _);have hu:=hA2 _ _ (hinv.v i2 _ u _ h2 rfl (qH hi2) (hcl _)) hinv.base;obtain ⟨v',w',hr,r1,r2,r3⟩:=gc (T1:=T1) hS hi hz hsz hby hzs hm0 hl hb6 hv hu hD' hED hxm hbw hB;have hdsz:d<a1.tmps.size:=by rw [hinv.size];exact hd
 simp only [qm,bne_iff_ne] at hde;obtain ⟨⟨hdc,hde⟩,hce⟩:=hde;have hlc:∀ l'∈Λ,(l'.T≠E∨l'.s=s3)∧E ∉ l'.A.deps∧l'.s≠d∧l'.s≠c∧l'.s≠e:=λ l' hl'=>by
  have:=qf.1 hΛ l' hl';simp only [qm,z4,xw,bne_iff_ne,qz,qC,qn] at this;exact ⟨this.1.1.1.1,this.1.1.1.2,this.1.1.2,this.1.2,this.2⟩
 have hcur:∀ l'∈Λ,(⟨l'.s,l'.T,l'.H,none,l'.A,none⟩:Le)∈lesN Λ:=λ l' hl'=>qr.2 ⟨l',hl',rfl⟩;have hsr:∀ y∈src.filterMap (λ k=>Γ[k]?),E ∉ y.2.deps∧y.1≠d∧y.1≠c∧y.1≠e∧y.2.p B (a1.eval (.tmp y.1)) w1:=λ y hy=>by
  obtain ⟨k,hk1,hk2⟩:=qS.1 hy;have hs:=qf.1 hsrc k hk1;simp only [hk2,qm,qz,qC,qn] at hs;have ho:=hout y.1 hs.2;exact ⟨hs.1,λ e1=>ho n zo (by unfold Rg.dst;rw [ho1,e1];rfl),λ e1=>ho (n+1) zo (by unfold Rg.dst;rw [ho2,e1];rfl),λ e1=>ho (n+2) zo (by unfold Rg.dst;rw [ho9,e1];rfl),hinv.g y (qa hk2) (λ q hq hdq=>absurd hdq (ho q hq)) (hcl _)⟩
 have U:St B w0 N ((d,OwnB b E m D (l++xs))::src.filterMap (λ k=>Γ[k]?)) Λ (a1.put (some d) v') w':=by
  refine ⟨hinv.lo,hinv.defers.grown r2 r3 rfl,by rw [size_put];exact hinv.size,?_,?_,?_,?_⟩
  ·exact ⟨r2.os.trans hinv.base.os,r2.tape.trans hinv.base.tape,r2.output.trans hinv.base.output,qg hinv.base.size r2.size,λ k hk hf =>
    (r2.block k (qE hk hinv.base.size) (λ e=>by have:=(r3 k e.symm).1;omega)).trans (hinv.base.block k hk hf)⟩
  ·intro y hy;rcases qt.1 hy with rfl|hy
   ·show (OwnB b E m D (l++xs)).p B ((a1.put (some d) v').eval (.tmp d)) w';rw [aM _ _ _ hdsz];exact ⟨qg hbw r2.size,hB,r1⟩
   ·obtain ⟨q1,q2,_,_,q5⟩:=hsr y hy;rw [an _ _ _ _ q2];exact VA.grown q5 r2 r3 hB q1
  ·intro l' hl';obtain ⟨g1,g2,g3,_⟩:=hlc l' hl';obtain ⟨g,cs,e1,e2,e3,e4⟩:=hinv.c _ (hcur l' hl') l'.A rfl;refine ⟨g,cs,by rw [an _ _ _ _ g3];exact e1,e2,?_,As.grown e4 r2 r3 hB g2⟩;rw [r2.block g (Array.getElem?_eq_some_iff.1 e3).1 (λ e5=>by
    obtain ⟨h8,c,fz,e6⟩:=r3 g e5.symm;rcases g1 with g1|g1
    ·rw [e3] at e6;injection e6 with e6;injection e6 with _ e6 _;exact g1 e6
    ·rw [← g1,e1,l'.H.ok] at hg3;injection hg3 with hg3;omega)]
   exact e3
  ·intro l1 hl1 l2 hl2 hne';obtain ⟨_,_,g3,_⟩:=hlc l1 hl1;obtain ⟨_,_,g5,_⟩:=hlc l2 hl2;rw [an _ _ _ _ g3,an _ _ _ _ g5];exact hinv.x _ (hcur l1 hl1) _ (hcur l2 hl2) hne' G rfl
 rw [List.range'_succ,qy];refine bA (R:=⟨ops,N,Γ,lesN Λ,sp,λ i=>List.range i⟩) ho1 G (bf (w':=w') (v:=v') (by simp [execOp,resolve,invoke,builtin,hr,Result.andThen]) ?_);rw [List.range'_succ,qy];refine bA (R:=⟨ops,N,Γ,lesN Λ,sp,λ i=>List.range i⟩) ho2 G ?_;obtain ⟨⟨fn,hf,hn,hb⟩,hcall⟩:=hcn;have hrun:=Bc (P:=P) (w:=w') (a:=a1.put (some d) v') (d:=c) (T:=T2) (ps:=ps2) (af:=af2) (gd:=none) (at_:=at_) (xs:=[.tmp d]) hf hn hb
 unfold Oper.wp;rw [show (#[Operand.tmp d]:Array Operand)=[Operand.tmp d].toArray from rfl,hrun];have hm1:M1.p B ((a1.put (some d) v').eval (.tmp d)) w':=hM _ _ _ (U.vals _ (xx ..));have hBw:B≤w'.heap.size:=qg (qg hB hbw) r2.size;refine (hcall B w' [(a1.put (some d) v').eval (.tmp d)] hBw (.cons hm1 .nil)).mono λ ex w2 ⟨v2,he2,hp2,hg2⟩=>?_;subst he2;have hst2:=St.putV U (v:=v2) (M:=M2) hcN hg2 hp2 (λ y hy=>by
  rcases qt.1 hy with rfl|hy
  ·exact hdc
  ·exact (hsr y hy).2.2.1) (λ l' hl'=>(hlc l' hl').2.2.2.1)
 have hst3:=St.putV hst2 (c:=e) (v:=v2) (M:=M2) he (Grow.refl w2) hp2 (λ y hy=>by
  rcases qt.1 hy with rfl|hy
  ·exact hce
  ·rcases qt.1 hy with rfl|hy
   ·exact hde
   ·exact (hsr y hy).2.2.2.1) (λ l' hl'=>(hlc l' hl').2.2.2.2)
 show wpOps P ops Q ((n+1+1)::List.range' (n+1+1+1) 0) ((a1.put (some d) v').put (some c) v2) w2;rw [qy];have hcsz:c<(a1.put (some d) v').tmps.size:=by rw [size_put,hinv.size];exact hcN
 refine bA (R:=⟨ops,N,Γ,lesN Λ,sp,λ i=>List.range i⟩) ho9 G (bf (w':=w2) (v:=v2) ?_ (hQ _ _ ?_))
 ·have:=aM (a1.put (some d) v') c v2 hcsz;simp [execOp,this]
 ·exact ⟨hst3.lo,hst3.defers,hst3.size,hst3.base,λ y hy=>hst3.vals y (by
   rcases qt.1 hy with rfl|hy
   ·exact xx ..
   ·exact zx _ (zx _ (zx _ hy))),hst3.locs,hst3.dis⟩
section
variable {P:Program}{R:Rg}{Q:Exit→Act→World→Prop}{B i:Nat}{w0:Bs}
theorem Jl {A:VA}{f:Ym}{xs:Yr}{As:Yc}{mk:Nat→VA}{at_:Yq}(hc:CnI P f As mk)(hw:∀ n,w0.w.heap.size≤n→Wk (mk n) A)(hx:HasL R B w0 i xs As):Wv P Q R B w0 i (.call ⟨.value (.func f),xs.toArray,at_⟩) A:=by
 intro d T ps af gd a w av K hK;obtain ⟨⟨fn,hf,hn,hb⟩,hcall⟩:=hc;have hrun:(execOp a.eval ⟨some d,.call ⟨.value (.func f),xs.toArray,at_⟩,T,ps,af,gd⟩).run P w=.ok (.enter f (xs.map a.eval).toArray) w:=by
  simp only [execOp,resolve,Act.eval,Deferred.ofValue,Sem.run_bind,Sem.run_pure,Result.andThen_ok,invoke,bi hf hn hb];simp
 unfold Oper.wp;rw [hrun];exact (hcall B w _ (Av.bw av) (hx.all av)).mono λ e w' ⟨v,he,hv,hg⟩=>by subst he;exact hK v w' hg (hw _ av.base.size _ _ _ hv)
end
theorem Fo (h:b≤b'):Wk (MgB b' l).va (MgB b l).va:=λ _ _ _ hp=>Ci (rK _ _ _ hp) λ g hg=>qg h (rJ hp g hg)
theorem Fd (ok:okL l):Wk (OwnB b U32 1 [] (NL l)) (MgB b l).va:=λ B v w h=>BX ok B v w h.2.2
theorem rP {D:Nat}(h:(aA D).length=1):(aA D)[0]'zo=D:=by
 have h1:=eX (l:=aA D) (j:=0) zo;rw [xl,aI,zH zo] at h1;simp at h1;exact h1.symm
theorem AH (h:x<4294967296):bx [x]=aA x:=by
 rw [dD (fc h)];simp [val]
theorem AI (h:x<4294967296):bx (x::aA R)=aA (R*4294967296+x):=by
 rw [dD (λ y hy=>by
  rcases qt.1 hy with rfl|hy
  ·exact h
  ·exact (bm _).1 y hy)]
 show aA (x+4294967296*val (aA R))=_;rw [aI]
 congr 1
 omega
theorem cm_lt0 :cmL (aA X) (aA Y)<0↔X<Y:=by
 rw [fV];split
 ·omega
 ·split <;> omega
theorem J1 (hl:okL l)(hd:0<d)(hj:j<l.length)(h:val (l.drop (j+1))%d*4294967296+l[j]<d):rsSt l d (j+1)=rsSt l d j:=by
 rw [← sM hl hd hj,xL h];unfold rsSt;rw [jf,qQ,fH _ _ _ _ (by simp)]
 rfl
theorem St.rowV {B N:Nat}(h:St B w0 N Γ Λ a w){s T:Nat}(e:Nat)(he:Λ[e]?=some ⟨s,T,H,A⟩):∃ v g,blk v=some g∧w0.may g∧g<w.heap.size∧St B w0 N ((s,EqV v)::Γ) Λ a w:=by
 obtain ⟨g,cs,e1,e2,e3,e4⟩:=h.locs _ (qa he);exact ⟨a.eval (.tmp s),g,by rw [e1];exact H.ok g,e2,(Array.getElem?_eq_some_iff.1 e3).1,h.lo,h.defers,h.size,h.base,λ x hx=>by
  rcases qt.1 hx with rfl|hx
  ·exact rfl
  ·exact h.vals x hx,h.locs,h.dis⟩
theorem St.ownT {B N:Nat}(h:St B w0 N Γ Λ a w){s s3 go:Nat}{v8:Yn}{E:Yh}{m:Nat}(k k8:Nat)(hm:Γ[k]?=some (s,EqV (.slice none 0 0)))(h8:Γ[k8]?=some (s3,EqV v8))(hv:blk v8=some go)(hlt:go<w0.w.heap.size):
  ∃ b,w0.w.heap.size≤b∧go<b∧St B w0 N (Γ.set k (s,OwnB b E m D [])++[(s3,LM b)]) Λ a w:=by
 refine ⟨w.heap.size,h.base.size,qE hlt h.base.size,h.lo,h.defers,h.size,h.base,λ x hx=>?_,h.locs,h.dis⟩;rcases qp.1 hx with hx|hx
 ·rcases qB hx with hx|rfl
  ·exact h.vals x hx
  ·exact ⟨qj _,qg (h.lo _ (.inl (qj _))) h.base.size,oQ _ _ _ (h.vals _ (qa hm))⟩
 ·obtain rfl:=qo.1 hx;have e:a.eval (.tmp s3)=v8:=h.vals _ (qa h8);exact ⟨go,by show blk (a.eval (.tmp s3))=_;rw [e];exact hv,qE hlt h.base.size⟩
structure Rs (B:Nat) (w0:Bs) (w:World) (v:Value) (l:List Nat) (go:Nat):Prop where
 mg:(MgA l).va.p B v w
 ne:blk v≠some go
 may:w0.may go
 lt:go<w.heap.size
theorem HI {x V D:Nat}(hD:0<D)(hx:x<4294967296):V%D*4294967296+x<D*4294967296:=by
 have h1:=qX V hD;have h2:(V%D+1)*4294967296≤D*4294967296:=qK _ h1;omega
theorem NC {D x:Nat}(h:x<D*4294967296):(aA x).length≤(aA D).length+1:=by
 have h1:=cz (n:=D) (qj _);refine ez (qE h ?_);rw [zj];exact qK _ (xc h1)
theorem sub_mod' {a b:Nat}:a-b*(a/b)=a%b:=by
 have:=x4 a b;omega
set_option maxHeartbeats 1000000 in
theorem Bz {D:Nat}(l:Ya)(hD:0<D)(hls:l.length≤1000000000)(hds:(aA D).length≤1000000000):Cn Tryz.prog 262 [(MgA l).va,(MgA (aA D)).va] (Tu [(MgA (aA (val l/D))).va,(MgA (aA (val l%D))).va]):=by
 obtain ⟨it,z,e1,e2,e3,e4,e5⟩:=np;refine Cn.introD Tryz.func262 G zk nq (λ B w0 a hF0 hnd hF U=>?_);have U:=zn [(0,(MgA l).va),(1,(MgA (aA D)).va)] [] U;obtain ⟨v0,hv0,U⟩:=St.eqv U 0 rfl;obtain ⟨v1,hv1,U⟩:=St.eqv U 1 rfl;have hl:=(eD hv0).1;have hokD:=(eD hv1).1;refine qb<|zh (W6 4) Ri U (zv G (aR aX) (zE G aX)) (zz WW [] ?_);refine ztA<|zsA<|zhA (Wb 13) RT (zM 1 G (zv G (aK qe (aV hF hv1 (vq 0 G))) (zv G (bC (vq 1 G) ab) o0))) (zz (W8 0 1 4 5 15) [] λ a w U=>?_);refine zJ 4 U G (λ hb0=>?_) (λ hb0=>?_)
 ·have hlen:(aA D).length=1:=by simp at hb0;omega
  have hd0:=rP hlen;refine qb<|zh (Wd 17 (.v 16 _::(W6 22 (W6 6)))) (Wp [.o 8,.o 9]) U (zM 0 G (zM 1 G (zv G (bO bc (aV hF hv1 (vq 1 G)) (aF 0 G) zo) (zv G (ao (vq 2 G) aO) (zQ G (un l ((aA D)[0]'zo) zo (by rw [hd0];exact hD) (hokD _ (qh _))) (.p (aV hF hv0 (vq 0 G)) (vq 3 G)) (zV 4 G (zv G (aQ (vq 5 G) G) (zv G (aQ (vq 5 G) G) (zA 6 G (zA 7 G o0)))))))))) (zz (Wj 0 1 4 5 6 7) [] ?_);refine ztA<|zhA (Ww 24 (W6 4)) (We [.o 4,.o 5]) (zM 4 G (zM 5 G (zv G (dF (l:=[_]) (xs:=[.tmp 25]) bc zk nq nq ((fc (zF (qX _ (by rw [hd0];exact hD)) (hokD _ (qh _))))) (.o (vq 1 G)) G G) (zQ G (eE famA _) (.o (vq 2 G)) (zA 0 G (zA 3 G o0)))))) (zz WW [] λ a w U=>?_);refine aa<|qi<|aj ?_;refine al ?_ (aP (rs:=[.tmp 4,.tmp 5]) G U (.tmp (zm 2 G) (.tmp (zm 3 G) .nil)) zd);rw [hd0];exact tu2w rc (ba (qq (λ l=>(MgA l).va) (AH (zF (qX _ hD) (by rw [← hd0];exact hokD _ (qh _))))))
 ·refine qk<|zt<|dz (sts:=[]) (news:=[⟨30,138,slH _ _,some 2,_,none⟩]) (sp:=[.v 28 _,.v 29 _,.alc 0,.adr 8 30 .none True]) [.g 0,.g 1,.g 2,.g 3] [(8,30)] [zpH 8 138 _] U (zM 0 G (zv G (aK qe (aV hF hv0 (vq 0 G))) (oc (eF G G G fA (vq 1 G) (vq 1 G) zo) (oc (ob_a G G nA) o0)))) zk zk zk ⟨⟨3,rfl⟩,trivial⟩ G zk (zz WW [zpH 8 138 _] ?_);refine ztA<|zgA U4 [] [.v 9 _] Ut (zE G aX) (zz (W8 0 1 4 5 9) [zpH 8 138 _] ?_);refine ztA<|zsA<|zgA U4 [] (Wb 31 [.v 10 _]) (Wi [.o 3]) (zM 0 G (zv G (aK qe (aV hF hv0 (vq 0 G))) (zv G (cH (vq 1 G) ab (wi64 zo zo)) (zA 2 G o0)))) (zz (Wj 0 1 4 5 9 10) [zpH 8 138 _] λ a w U=>?_);obtain ⟨v8,go,hv8,hm8,hl8,U⟩:=St.rowV U 0 rfl;refine aa<|ql ?_;have U:=St.sel U [1,2,0,5,6];refine wp_loop_ghost (λ n a w=>∃ (v9 v8:Value) (go:Nat),(n≤l.length∧Rs B w0 w v9 (aA (val (l.drop n)%D)) go∧blk v8=some go)∧St B w0 68 [(0,EqV v0),(1,EqV v1),(8,EqV v8),(9,EqV v9),(10,In ((n:Int)-1))] [⟨8,138,slH l.length l.length,Nums .u32 (rsSt l D n)⟩] a w) (l.length) ?_ ?_
  ·exact ⟨_,v8,go,⟨qj _,⟨by rw [show aA (val (l.drop l.length)%D)=[] from by simp [bE]];exact ⟨_,fN B _,rfl⟩,(by intro e;cases e),hm8,hl8⟩,hv8⟩,by rw [nS];exact U⟩
  intro n a w hI;clear hv8 hm8 hl8;obtain ⟨v9,v8,go,⟨hn,hR,hv8⟩,U⟩:=hI;have hk0:∀ w',Kept (now w go) w'→(MgA l).va.p B v0 w':=λ w' hk=>(MgA l).va.cg _ _ _ _ (hF.cg (U.base.trans1 hR.may hk)) hv0;have hk1:∀ w',Kept (now w go) w'→(MgA (aA D)).va.p B v1 w':=λ w' hk=>(MgA (aA D)).va.cg _ _ _ _ (hF.cg (U.base.trans1 hR.may hk)) hv1;have hk9:∀ w',Kept (now w go) w'→(MgA (aA (val (l.drop n)%D))).va.p B v9 w':=λ w' hk=>Ch hR.mg hR.ne hk;have hback:∀ {Γ:List (Nat × VA)}{Λ:List Lc}{a:Act}{w':World},St B (now w go) 68 Γ Λ a w'→St B w0 68 Γ Λ a w':=λ h=>h.back U.lo U.base hR.may;have hlt1:go<(now w go).w.heap.size:=hR.lt;have U:=U.rebase hnd hR.may (λ m hm=>by
   obtain rfl:=qo.1 hm;have e:a.eval (.tmp 8)=v8:=U.vals _ (zm 2 rfl);show blk (a.eval (.tmp 8))=_;rw [e];exact hv8)
  have hnd1:(now w go).nd=true:=rfl;have hmay1:(now w go).may go:=.inr rfl;generalize now w go=W1 at U hk0 hk1 hk9 hback hlt1 hnd1 hmay1;refine qb<|qb<|zg U6 [] (W6 34) U8 U (zM 4 G (zv G (dP (vq 0 G) ab) o0)) (λ a w U=>?_);have U:St B W1 68 [(0,_),(1,_),(8,_),(9,_),(10,_),(35,_)] [zpH 8 138 _] a w:=U;refine zJ 5 U G (λ hb1=>?_) (λ hb1=>?_)
  ·obtain ⟨j,rfl⟩:∃ j,n=j+1:=⟨n-1,by simp at hb1;omega⟩;rw [show ((j+1:Nat):Int)-1=(j:Int) from by omega] at U;have hj:j<l.length:=by omega
   have hx:=hl _ (qh hj);have hmd:=qX (val (l.drop (j+1))) hD;refine qk<|zt<|ql<|qb<|zg U6 [] [.v 11 _] U7 U (zE G aX) (λ a w U=>?_);have U:St B W1 68 [(0,_),(1,_),(8,_),(9,_),(10,_),(11,_)] [zpH 8 138 _] a w:=U;refine zt ?_;obtain ⟨b,hwb,hgb,U⟩:=St.ownT (E:=U32) (m:=1) (D:=[]) U 5 2 rfl rfl hv8 hlt1;refine KO (sp:=[.v 38 _,.v 39 _,.v 40 _,.v 41 _,.v 42 _,.v 43 _,.v 44 VT,.v 11 VT]) 6 [0,1,2,3,4,6] 0 5 6 U (zM 5 rfl (zM 0 rfl (zM 4 rfl (zv rfl (bO bc (iC hk0 (vq 1 rfl)) (vq 2 rfl) hj) (zv rfl (ao (vq 3 rfl) aO) (zv rfl (dF (l:=[_]) (xs:=[.tmp 42]) bc zk nq nq ((fc hx)) (.o (vq 4 rfl)) rfl rfl) o0)))))) rfl zk rfl rfl zd rfl zd rfl rfl zk hwb (λ _ _ h _=>(eD h).2) qe e1 e2 e3 e4 e5 zd (by simp) zd (λ T hT=>hT) zd (λ A hA=>by obtain ⟨_,_,rfl⟩:=qr.1 hA;rfl) zk nq nq zk zk (λ a w U=>?_);have U:St B W1 68 [(11,_),(0,_),(1,_),(8,_),(9,_),(10,_),(8,_)] [zpH 8 138 _] a w:=U;refine zt<|KM (sp:=[.v 45 _,.v 46 _,.v 47 VT,.v 48 VT,.v 9 VT]) 2 [1,2,3,5] 0 1 6 (M1:=(MgB b (l[j]::aA (val (l.drop (j+1))%D))).va) (M2:=(MgB b (bx (l[j]::aA (val (l.drop (j+1))%D)))).va) U (zM 0 rfl (zM 4 rfl o0)) rfl zk rfl rfl rfl (eE (famB b) _) (Fd (l:=l[j]::aA (val (l.drop (j+1))%D)) (okL_cons.2 ⟨hx,(bm _).1⟩)) zd rfl zd rfl rfl zk hwb (D':=[]) (xs:=NL (aA (val (l.drop (j+1))%D))) (λ w u e k=>by have e':u=v9:=e;rw [e'];exact (eD (hk9 w k)).2) qe e1 e2 e3 e4 e5 zd (by simp only [qv,qd,xp,z7];have:=cE (xc hmd);omega) zd (λ T hT=>hT) zd (λ A hA=>by obtain ⟨_,_,rfl⟩:=qr.1 hA;rfl) zk nq nq nq zk zk (λ a w U=>?_);have U:St B W1 68 [(9,_),(0,_),(1,_),(8,_),(10,_)] [zpH 8 138 _] a w:=U;have U:=St.wkG (A':=(MgB b (aA ((val (l.drop (j+1))%D)*4294967296+l[j]))).va) U 0 rfl (ba (qq (λ l=>(MgB b l).va) (AI hx)));refine zt<|qb<|zg U6 [] (Ww 49) (Wi [.o 3]) U (zM 0 G (zM 2 G (zQ G ((rz (aA (val (l.drop (j+1))%D*4294967296+l[j])) (aA D)).wk (.cons rK (.cons aG .nil))) (.p (vq 0 G) (iC hk1 (vq 1 G))) (zv G (aN (vq 2 G) ab) o0)))) (λ a w U=>?_);have U:St B W1 68 [(9,_),(0,_),(1,_),(8,_),(10,_),(52,_)] [zpH 8 138 _] a w:=U;refine zJ 5 U G (λ hb2=>?_) (λ hb2=>?_)
   ·have hq:(val (l.drop (j+1))%D*4294967296+l[j])<D:=cm_lt0.1 (qu hb2);refine qM<|ai<|az<|aa<|zg U6 [] (W6 36 [.v 10 _]) RT U (zM 4 G (zv G (cH (vq 0 G) ab (wi64 zo zo)) (zA 1 G o0))) (λ a w U=>?_);have U:St B W1 68 [(9,_),(0,_),(1,_),(8,_),(10,_)] [zpH 8 138 _] a w:=U;refine aa ?_;have U:=St.sel U [1,2,3,0,4];obtain ⟨v9c,h9c,U⟩:=St.toE U 3 rfl;have hne:blk v9c≠some go:=λ e=>by have:=rJ h9c go e;omega
    have hsz:=U.base.size;exact ⟨j,by omega,v9c,v8,go,⟨by omega,⟨by rw [← sN hD hj,zK hq];exact rK _ _ _ h9c,hne,hR.may,by omega⟩,hv8⟩,by have U:=hback U;rw [J1 hl hD hj hq] at U;exact U⟩
   ·have hq:¬ (val (l.drop (j+1))%D*4294967296+l[j])<D:=λ h=>qw hb2 (cm_lt0.2 h);have hsub:(val (l.drop (j+1))%D*4294967296+l[j])-D*((val (l.drop (j+1))%D*4294967296+l[j])/D)=val (aA (val (l.drop (j+1))%D*4294967296+l[j]))-val (aA (val (aA D)*((val (l.drop (j+1))%D*4294967296+l[j])/D))):=by rw [aI,aI,aI]
    have hle:D*((val (l.drop (j+1))%D*4294967296+l[j])/D)≤(val (l.drop (j+1))%D*4294967296+l[j]):=Nat.mul_div_le _ _;have hsl:(aA (val (aA D)*((val (l.drop (j+1))%D*4294967296+l[j])/D))).length≤(aA (val (l.drop (j+1))%D*4294967296+l[j])).length:=by rw [aI];exact cE hle
    have hsv:val (aA (val (aA D)*((val (l.drop (j+1))%D*4294967296+l[j])/D)))≤val (aA (val (l.drop (j+1))%D*4294967296+l[j])):=by rw [aI,aI,aI];exact hle
    have hlen2:(aA (val (l.drop (j+1))%D*4294967296+l[j])).length≤1000000001:=qg (NC (HI hD hx)) zo;refine qk<|zt<|zg U6 [] (Wb 53 [.v 12 _]) (Wi [.o 3]) U (zM 0 G (zM 2 G (zQ G ((Mv (R:=(val (l.drop (j+1))%D*4294967296+l[j])) (D:=D) hD (HI hD hx) zo).wk (.cons rK (.cons aG .nil))) (.p (vq 0 G) (iC hk1 (vq 1 G))) (zA 2 G o0)))) (λ a w U=>?_);have U:St B W1 68 [(9,_),(0,_),(1,_),(8,_),(10,_),(12,_)] [zpH 8 138 _] a w:=U;refine zt ?_;obtain ⟨v9b,h9b,U⟩:=St.toE U 0 rfl;have hk0:∀ w',Kept (now w go) w'→(MgA l).va.p B v0 w':=λ w' hk=>hk0 w' (U.base.trans1 hmay1 hk);have hk1:∀ w',Kept (now w go) w'→(MgA (aA D)).va.p B v1 w':=λ w' hk=>hk1 w' (U.base.trans1 hmay1 hk);have hk9:∀ w',Kept (now w go) w'→(MgA (aA (val (l.drop (j+1))%D*4294967296+l[j]))).va.p B v9b w':=λ w' hk=>Ch (rK _ _ _ h9b) (λ e=>by have:=rJ h9b go e;omega) hk;have hback:∀ {Γ:List (Nat × VA)}{Λ:List Lc}{a:Act}{w':World},St B (now w go) 68 Γ Λ a w'→St B w0 68 Γ Λ a w':=λ h=>hback (h.back U.lo U.base hmay1);have hlt1:go<(now w go).w.heap.size:=qE hlt1 U.base.size;have U:=U.rebase hnd1 hmay1 (λ m hm=>by
     obtain rfl:=qo.1 hm;have e:a.eval (.tmp 8)=v8:=U.vals _ (zm 3 rfl);show blk (a.eval (.tmp 8))=_;rw [e];exact hv8)
    have hnd1:(now w go).nd=true:=rfl;have hmay1:(now w go).may go:=.inr rfl;generalize now w go=W2 at U hk0 hk1 hk9 hback hlt1 hnd1 hmay1;refine zg [some (4,_)] [] (.adr 56 8 .none True::(W6 57 [.adr 59 8 (.some _) True,.sto 0])) Wq U (oc (ob_a G G cW) (zM 4 G (zM 5 G (oc (ob_a G G (eU 0 G zk (lz0 0 G) bc (vq 1 G) hj)) (oc (cJ 3 G G G G zk (λ _=>cw _ _ _ _) (vq 2 G) aO (bJ (by rw [gf zo];omega))) o0))))) (λ a w U=>?_);have U:St B W2 68 [(9,_),(0,_),(1,_),(8,_),(10,_),(12,_)] [zpH 8 138 _] a w:=U;refine aa<|zg U6 [] (Wd 60 [.v 9 _]) [.g 1,.g 2,.g 3,.g 4,.o 5] U (zM 0 G (zM 2 G (zM 5 G (zQ G (um (aA D) ((val (l.drop (j+1))%D*4294967296+l[j])/D) zo (EN hD hx)) (.p (iC hk1 (vq 1 G)) (vq 2 G)) (zv G (Jl (Bk (aA (val (l.drop (j+1))%D*4294967296+l[j])) (aA (val (aA D)*((val (l.drop (j+1))%D*4294967296+l[j])/D))) zo hsl hsv) (λ n hn=>Fo hn) (.p (iC hk9 (vq 0 G)) (vq 3 G))) (zA 4 G o0)))))) (λ a w U=>?_);have U:St B W2 68 [(0,_),(1,_),(8,_),(10,_),(9,_)] [zpH 8 138 _] a w:=U;refine ak ?_;refine aa<|zg U6 [] (W6 36 [.v 10 _]) (W7 [.g 4,.o 2]) U (zM 3 G (zv G (cH (vq 0 G) ab (wi64 zo zo)) (zA 1 G o0))) (λ a w U=>?_);have U:St B W2 68 [(0,_),(1,_),(8,_),(9,_),(10,_)] [zpH 8 138 _] a w:=U;refine aa ?_;have U:=St.sel U [0,1,2,3,4];obtain ⟨v9c,h9c,U⟩:=St.toE U 3 rfl;have hne:blk v9c≠some go:=λ e=>by have:=rJ h9c go e;omega
    have hsz:=U.base.size;exact ⟨j,by omega,v9c,v8,go,⟨by omega,⟨by rw [← sN hD hj,← sub_mod',hsub];exact rK _ _ _ h9c,hne,hR.may,by omega⟩,hv8⟩,by have U:=hback U;rw [sM hl hD hj] at U;exact U⟩
  ·obtain rfl:n=0:=by simp at hb1;omega
   have h9:=hk9 _ U.base;have U:=hback U;have U:=St.eqF U 3 rfl h9;refine qM<|ai<|ai<|az<|zt<|zg U6 [] (.adr 65 8 .none True::(W6 66 (W6 4))) [.g 2,.o 3,.o 4] U (oc (ob_a G G cW) (zQ G (eE famN _) (.o (iB 0 G zk (lz0 0 G) ⟨by rw [gf (zr _)],qj _,by unfold maxLen;omega,Bl⟩ (by rw [gf (zr _)]))) (zM 3 G (zA 1 G (zA 2 G o0))))) (zz (Wa 8 4 5) [zpH 8 138 _] λ a w U=>?_);refine aa<|qi<|al ?_ (aP (rs:=[.tmp 4,.tmp 5]) G U (.tmp (zm 1 G) (.tmp (zm 2 G) .nil)) zd);rw [GY hl,xl];exact tu2w rc aG
theorem Ef (hl:okL l)(hm:okL m):val (digs (addN l m) (val l+val m))=val l+val m:=by
 rw [dU,zK];unfold addN;split
 ·assumption
 ·exact GR hl hm
theorem EO {a b:Int}(h:((riOf a).neg==(riOf b).neg)=true):(RIA (rsig (riOf a).neg (digs (addN (riOf a).mag (riOf b).mag) (val (riOf a).mag+val (riOf b).mag)))).va=Zi (a+b):=by
 have h':decide (a<0)=decide (b<0):=by simpa [riOf] using h
 rw [cj (bY _ _) (z:=a+b) (by rw [Ef (oU a) (oU b),bF,bF];simp only [qW] at h';omega) (λ hz=>by show decide (a<0)=_;simp only [qW] at h' ⊢;omega)]
theorem cm_ge0 :cmL (aA X) (aA Y)≥0↔Y≤X:=by
 rw [fV];split
 ·omega
 ·split <;> omega
theorem oG {a b:Int}(h:decide (cmL (riOf a).mag (riOf b).mag≥0)=true):b.natAbs≤a.natAbs:=cm_ge0.1 (qu h)
theorem oF {a b:Int}(h:decide (cmL (riOf a).mag (riOf b).mag≥0)=false):a.natAbs≤b.natAbs:=xc (jj λ h2=>qw h (cm_ge0.2 h2))
theorem Fm {p q:Int}(h:p*q≠0):(decide (p<0) != decide (q<0))=decide (p*q<0):=by
 have hp:p≠0:=λ e=>h (by rw [e,Int.zero_mul]);have hq:q≠0:=λ e=>h (by rw [e,vv]);rcases Int.lt_or_le p 0 with h1|h1 <;> rcases Int.lt_or_le q 0 with h2|h2
 ·have:=vd h1 h2;rw [qH h1,qH h2,zT zo];rfl
 ·have:=jY h1 (show 0<q by omega);rw [qH h1,zT (show ¬ q<0 by omega),qH this];rfl
 ·have:=jX (show 0<p by omega) h2;rw [zT (show ¬ p<0 by omega),qH h2,qH this];rfl
 ·have:=vG (show 0<p by omega) (show 0<q by omega);rw [zT (show ¬ p<0 by omega),zT (show ¬ q<0 by omega),zT zo];rfl
theorem EL {p q:Int}:(RIA (rsig ((riOf p).neg != (riOf q).neg) (aA (val (riOf p).mag*val (riOf q).mag)))).va=Zi (p*q):=qq (λ x=>(RIA x).va) (cj (bm _).1 (z:=p*q) (by rw [aI,bF,bF,jT]) Fm)
theorem MG {p q:Int}:(RIA (rsig ((riOf p).neg != (riOf q).neg) (aA (val (riOf p).mag/q.natAbs)))).va=Zi (p.tdiv q):=qq (λ x=>(RIA x).va) (cj (bm _).1 (z:=p.tdiv q) (by rw [aI,bF,m6]) wK)
theorem MF {p q:Int}:(RIA (rsig (riOf p).neg (aA (val (riOf p).mag%q.natAbs)))).va=Zi (p.tmod q):=qq (λ x=>(RIA x).va) (cj (bm _).1 (z:=p.tmod q) (by rw [aI,bF,iq]) pf)
theorem uo (p q:Int)(hp:lz p≤1000000000)(hq:lz q≤1000000000):Cn Tryz.prog 229 [Zi p,Zi q] (Zi (p+q)):=by
 refine Cn.intro Tryz.func229 G zk nq (zy [(0,Zi p),(1,Zi q)] λ B w0 a U=>?_);refine qb<|zg [] Ul Um [] U (zW 0 G (zW 1 G (zY G (Str.zero bu) o0))) (zz [] Un ?_);refine ztA<|zsA<|zgA Uo [] (.adr 5 2 (.some 0) True::.v 6 _::.adr 7 3 (.some 0) True::(W6 8)) UP (zO 0 G aY (zL 0 0 0 G ty_4 (zO 1 G aY (zL 2 1 0 G ty_4 (zv G (BC zk (vq 1 G) (vq 3 G)) o0))))) (zz [(9,_)] Un λ a w U=>?_);refine zJ 0 U G (λ hb0=>?_) (λ hb0=>?_)
 ·refine qb<|zgd UQ UR [] (.adr 10 2 (.some 0) True::.v 11 _::.adr 12 2 (.some 1) True::.v 13 _::.adr 14 3 (.some 1) True::(Wb 15 [.sto 2])) [] ac U (zO 0 G aY (zL 0 0 0 G ty_4 (zO 0 G ar (zL 2 0 1 G bb (zO 1 G ar (zL 4 1 1 G bb (zQ G (MM _ _ (qg hp zd) (qg hq zd)) (.p (vq 3 G) (vq 5 G)) (zQ G (cy _ _) (.p (vq 1 G) (vq 6 G)) (zS 7 G ap o0))))))))) zk zk zk zk (zz [] Un λ a w U=>?_);refine aa<|qi<|aj ?_;refine al ?_ (au G U (zm 2 G) ap);exact ba (EO hb0)
 ·refine qk<|zt<|qb<|zg US [] (.adr 18 2 (.some 1) True::.v 19 _::.adr 20 3 (.some 1) True::(Wb 21)) [.o 5] U (zO 0 G ar (zL 0 0 1 G bb (zO 1 G ar (zL 2 1 1 G bb (zQ G (rz _ _) (.p (vq 1 G) (vq 3 G)) (zv G (dP (vq 4 G) ab) o0)))))) (zz [(23,_)] Un λ a w U=>?_);refine zJ 0 U G (λ hb1=>?_) (λ hb1=>?_)
  ·refine qb<|zgd UQ UR [] (.adr 24 2 (.some 0) True::.v 25 _::.adr 26 2 (.some 1) True::.v 27 _::.adr 28 3 (.some 1) True::(Wb 29 [.sto 2])) [] ac U (zO 0 G aY (zL 0 0 0 G ty_4 (zO 0 G ar (zL 2 0 1 G bb (zO 1 G ar (zL 4 1 1 G bb (zQ G (Bi _ _ (qg hp zd) (cE (oG hb1)) (by show val (aA _)≤val (aA _);rw [aI,aI];exact oG hb1)) (.p (vq 3 G) (vq 5 G)) (zQ G (cy _ _) (.p (vq 1 G) (vq 6 G)) (zS 7 G ap o0))))))))) zk zk zk zk (zz [] Un λ a w U=>?_);refine aa<|qi<|aj ?_;refine al ?_ (au G U (zm 2 G) ap);exact ba (BS hb0 (oG hb1))
  ·refine qk<|zt<|zgd UQ UR [] (.adr 32 3 (.some 0) True::.v 33 _::.adr 34 3 (.some 1) True::.v 35 _::.adr 36 2 (.some 1) True::(Wb 37 [.sto 2])) [] ac U (zO 1 G aY (zL 0 1 0 G ty_4 (zO 1 G ar (zL 2 1 1 G bb (zO 0 G ar (zL 4 0 1 G bb (zQ G (Bi _ _ (qg hq zd) (cE (oF hb1)) (by show val (aA _)≤val (aA _);rw [aI,aI];exact oF hb1)) (.p (vq 3 G) (vq 5 G)) (zQ G (cy _ _) (.p (vq 1 G) (vq 6 G)) (zS 7 G ap o0))))))))) zk zk zk zk (zz [] Un λ a w U=>?_);refine aa<|qi<|al ?_ (au G U (zm 2 G) ap);exact ba (BR hb0 (oF hb1))
theorem rx (p q:Int)(hp:lz p≤1000000000)(hq:lz q≤1000000000):Cn Tryz.prog 197 [Zi p,Zi q] (Zi (p-q)):=by
 refine Cn.intro Tryz.func197 G zk nq (zy [(0,Zi p),(1,Zi q)] λ B w0 a U=>?_);refine qb<|zg [] Ul Um [] U (zW 0 G (zW 1 G (zY G (Str.zero bu) o0))) (zz [] Un λ a w U=>?_);refine zt<|zgd [[],[],[1],[0,1,2],(Wm 4)] [none,none,some (4,_)] [] (Ww 5 [.sto 2]) [] ac U (zl 0 G ap (zl 1 G ap (zQ G (Bd q) (.o (vq 1 G)) (zQ G (uo p (-q) hp (by rw [lK];exact hq)) (.p (vq 0 G) (vq 2 G)) (zS 3 G ap o0))))) zk zk zk zk (zz [] Un λ a w U=>?_);refine aa<|qi<|al ?_ (au G U (zm 2 G) ap);exact ba (qq Zi Int.sub_eq_add_neg.symm)
theorem Bf (p q:Int)(hp:lz p≤1000000000)(hq:lz q≤1000000000):Cn Tryz.prog 198 [Zi p,Zi q] (Zi (p*q)):=by
 refine Cn.intro Tryz.func198 G zk nq (zy [(0,Zi p),(1,Zi q)] λ B w0 a U=>?_);refine qb<|zg [] Ul Um [] U (zW 0 G (zW 1 G (zY G (Str.zero bu) o0))) (zz [] Un λ a w U=>?_);refine zt<|zgd [[],[0],[],[2],(Wm 4),[],[5],[],[7],[5,6,7,8],(Wm 10),(Wm 11)] Rv [] (.adr 5 2 (.some 0) True::.v 6 _::.adr 7 3 (.some 0) True::(W6 8 (.adr 10 2 (.some 1) True::.v 11 _::.adr 12 3 (.some 1) True::(Wb 13 [.sto 2])))) [] ac U (zO 0 G aY (zL 0 0 0 G ty_4 (zO 1 G aY (zL 2 1 0 G ty_4 (zv G (mE zk (vq 1 G) (vq 3 G)) (zO 0 G ar (zL 5 0 1 G bb (zO 1 G ar (zL 7 1 1 G bb (zQ G ((Bp _ _ (qg hp zd) (qg hq zd)).wkp rc) (.p (vq 6 G) (vq 8 G)) (zQ G (cy _ _) (.p (vq 4 G) (vq 9 G)) (zS 10 G ap o0)))))))))))) zk zk zk zk (zz [] Un λ a w U=>?_);refine aa<|qi<|al ?_ (au G U (zm 2 G) ap);exact ba EL
theorem nT (p q:Int)(hq0:q≠0)(hp:lz p≤1000000000)(hq:lz q≤1000000000):Cn Tryz.prog 246 [Zi p,Zi q] (Tu [Zi (p.tdiv q),Zi (p.tmod q)]):=by
 refine Cn.intro Tryz.func246 G zk nq (zy [(0,Zi p),(1,Zi q)] λ B w0 a U=>?_);refine qb<|zg [] [zpL 2 26 0 _,zpL 3 26 1 _,zpL 4 26 2 _,zpL 5 26 3 _] [.alc 0,.alc 1,.alc 2,.alc 3] [] U (zW 0 G (zW 1 G (zY G (Str.zero bu) (zY G (Str.zero bu) o0)))) (zz [] Rj ?_);refine ztA<|zgA Uq [] (.adr 9 2 (.some 1) True::.v 10 _::.adr 11 3 (.some 1) True::(W6 12 (.v 8 _::(W6 14 (W6 6))))) [.o 8,.o 9] (zO 0 G ar (zL 0 0 1 G bb (zO 1 G ar (zL 2 1 1 G bb (zQ G (Bz (D:=q.natAbs) (riOf p).mag zo hp hq) (.p (vq 1 G) (vq 3 G)) (zV 4 G (zv G (aQ (vq 5 G) G) (zv G (aQ (vq 5 G) G) (zA 6 G (zA 7 G o0)))))))))) (zz (Wc 6 7) Rj λ a w U=>?_);refine zt<|zgd [[],[0],[],[2],(Wm 4),[],(Wm 6),[],[7],[],(Wm 10),(Wm 11),(Wm 12)] [none,none,some (11,_),some (12,_)] [] (.adr 16 2 (.some 0) True::.v 17 _::.adr 18 3 (.some 0) True::(Ww 19 (.adr 23 2 (.some 0) True::(Wb 24 [.sto 2,.sto 3])))) [] ac U (zO 0 G aY (zL 0 0 0 G ty_4 (zO 1 G aY (zL 2 1 0 G ty_4 (zv G (mE zk (vq 1 G) (vq 3 G)) (zM 0 G (zQ G (cy _ _) (.p (vq 4 G) (vq 5 G)) (zO 0 G aY (zL 7 0 0 G ty_4 (zM 1 G (zQ G (cy _ _) (.p (vq 8 G) (vq 9 G)) (zS 6 G ap (zS 10 G ap o0))))))))))))) zk zk zk zk (zz [] Rj λ a w U=>?_);refine aa<|qi<|al ?_ (aP (rs:=[.cell 4 26,.cell 5 26]) G U (.cell (zm 2 G) ap (.cell (zm 3 G) ap .nil)) zd);exact tu2w (ba MG) (ba MF)
def bln:Nat→Nat
 | 0=>0
 | n+1=>bln ((n+1)/2)+1
decreasing_by omega
theorem PO {t:Nat}(h:t<4294967296):IntKind.u32.wrap ((t:Int).tdiv ((2:Nat):Int))=((t/2:Nat):Int):=by
 rw [jh zo,← j6,wu32 zo]
theorem tO {n:Nat}(h:0<n):bln n=bln (n/2)+1:=by
 cases n with
 | zero=>omega
 | succ n=>rw [bln]
theorem HZ:∀ (k n:Nat),n<2^k→bln n≤k
 | k,0,_=>by rw [bln];omega
 | 0,n+1,h=>by simp at h
 | k+1,n+1,h=>by
  rw [bln];have:=HZ k ((n+1)/2) (by rw [zj] at h;omega);omega
def bitF (p:Int):Nat:=if lz p=0 then 0 else 32*(lz p-1)+bln ((aA p.natAbs).getD (lz p-1) 0)
theorem Mf {p:Int}(h:lz p≠0):0<(aA p.natAbs).getD (lz p-1) 0:=by
 apply Decidable.byContradiction;intro hn;have hlt:lz p-1<(aA p.natAbs).length:=by show lz p-1<lz p;omega
 rw [cV hlt] at hn;have e:aA p.natAbs=(aA p.natAbs).take (lz p-1)++[0]:=by
  have h2:=qx hlt;rw [qG (by show lz p≤lz p-1+1;omega)] at h2;rw [show (aA p.natAbs)[lz p-1]=0 by omega] at h2;exact h2
 have hv:=aI p.natAbs;rw [e,lT,vt,jy] at hv;have h3:=fF (l:=(aA p.natAbs).take (lz p-1)) (λ x hx=>(bm _).1 x (xk hx));rw [hv] at h3;have h4:=ez h3;rw [zf] at h4;have h5:lz p=(aA p.natAbs).length:=rfl;omega
theorem Gu {p:Int}(h:bitF p=1):p.natAbs=1:=by
 unfold bitF at h;split at h
 ·omega
 ·rename_i h0;have h1:=Mf h0;rw [tO h1] at h;have h2:lz p=1:=by omega
  have h3:bln ((aA p.natAbs).getD (lz p-1) 0/2)=0:=by omega
  have h4:(aA p.natAbs).getD (lz p-1) 0=1:=by
   apply Decidable.byContradiction;intro hn;have:=tO (n:=(aA p.natAbs).getD (lz p-1) 0/2) zo;omega
  have h5:=rP (D:=p.natAbs) h2;have h6:(aA p.natAbs).getD 0 0=1:=by rw [h2] at h4;exact h4
  rw [cV (by show 0<lz p;omega)] at h6;omega
theorem sO (p:Int)(hp:lz p≤1000000000):Cn Tryz.prog 244 [Zi p] (In (bitF p:Nat)):=by
 have hrl:(riOf p).mag.length=lz p:=rfl;refine Cn.intro Tryz.func244 G zk nq (zy [(0,Zi p)] λ B w0 a U=>?_);refine qb<|zg [] Uu Uv Uw U (zW 0 G (zE G ab)) (zz Ux Uy ?_);refine ztA<|zsA<|zgA U4 [] (.adr 5 1 (.some 1) True::(Wb 6)) RJ (zO 0 G ar (zL 0 0 1 G bb (zv G (aK qe (vq 1 G)) (zv G (bC (vq 2 G) ab) o0)))) (zz (Wc 2 8) Uy λ a w U=>?_);refine zJ 1 U G (λ hb0=>?_) (λ hb0=>?_)
 ·have h0:lz p=0:=by simp at hb0;rw [← hrl,hb0];rfl
  refine qb<|zg U6 [] UA U2 U (zE G ab) (zz Ux Uy λ a w U=>?_);refine aa<|qi<|aj ?_;refine al ?_ (am G U (zm 0 G));rw [show bitF p=0 by rw [bitF,qD h0]];exact aG
 ·have h0:lz p≠0:=by intro e;rw [← hrl] at e;simp [xu e] at hb0
  have hlt:lz p-1<(aA p.natAbs).length:=by show lz p-1<lz p;omega
  have htop:(aA p.natAbs).getD (lz p-1) 0<4294967296:=fS (bm _).1 _;have hbt:32*(lz p-1)+bln ((aA p.natAbs).getD (lz p-1) 0)=bitF p:=by rw [bitF,qA h0]
  have hb32:=HZ 32 _ htop;refine qk<|zt<|zg U6 [] (.adr 9 1 (.some 1) True::(Ww 10 [.v 3 _])) [.g 0,.o 5] U (zO 0 G ar (zL 0 0 1 G bb (zv G (aK qe (vq 1 G)) (zv G (cH (vq 2 G) ab ((wi64 zo zo).trans (by omega:(_:Int)=((lz p-1:Nat):Int)))) (zv G (mF ab (vq 3 G) ((wi64 zo zo).trans (by omega:(_:Int)=((32*(lz p-1):Nat):Int)))) (zA 4 G o0)))))) (zz (Wc 2 3) Uy ?_);refine ztA<|zsA<|zgA U4 [] (.adr 14 1 (.some 1) True::.v 15 _::.adr 16 1 (.some 1) True::(Wd 17 [.v 4 _])) (We [.o 8]) (zO 0 G ar (zL 0 0 1 G bb (zO 0 G ar (zL 2 0 1 G bb (zv G (aK qe (vq 3 G)) (zv G (cH (vq 4 G) ab ((wi64 zo zo).trans (by omega:(_:Int)=((lz p-1:Nat):Int)))) (zv G (bO bc (vq 1 G) (vq 5 G) hlt) (zv G (ao (vq 6 G) aO) (zA 7 G o0))))))))) (zz (Wa 2 3 4) Uy λ a w U=>?_);refine aa<|ql ?_;have U:=St.sel U [1,2];refine wp_loop_ghost (λ n a w=>∃ s t:Nat,(t<4294967296∧n=t∧s+bln t=bitF p)∧St B w0 29 [(3,In (s:Nat)),(4,(NumA .u32 (t:Nat)).va)] [⟨1,26,ptrH,RIA (riOf p)⟩] a w) ((aA p.natAbs).getD (lz p-1) 0) ?_ ?_
  ·rw [← cV hlt] at U;exact ⟨_,_,⟨htop,rfl,hbt⟩,U⟩
  intro n a w hI;obtain ⟨s,t,⟨ht,hnt,hs⟩,U⟩:=hI;refine qb<|qb<|zg U6 [] (W6 22) UI U (zM 1 G (zv G (cL (vq 0 G) (aF 0 G)) o0)) (zz (Wa 3 4 23) Uy λ a w U=>?_);refine zJ 2 U G (λ hb1=>?_) (λ hb1=>?_)
  ·have hb1:0<t:=by simp at hb1;omega
   refine qk<|zt<|ql<|zg U6 [] (W6 26 [.v 3 _]) Rh U (zM 0 G (zv G (aL (vq 0 G) ab (aW zo)) (zA 1 G o0))) (zz (Wc 4 3) Uy λ a w U=>?_);refine ak ?_;refine aa<|zg U6 [] (W6 24 [.v 4 _]) Rh U (zM 0 G (zv G (nG (vq 0 G) (aF 2 G) zd (PO ht)) (zA 1 G o0))) (zz (Wc 3 4) Uy λ a w U=>?_);refine aa ?_;have U:=St.sel U [0,1];exact ⟨t/2,by omega,s+1,t/2,⟨by omega,rfl,by rw [tO hb1] at hs;omega⟩,U⟩
  ·have ht0:t=0:=by simp at hb1;omega
   refine qM<|ai<|ai<|az<|zt<|zg U6 [] [.v 28 _,.v 2 _] Uw U (zM 0 G (zA 0 G o0)) (zz Ux Uy λ a w U=>?_);refine aa<|qi<|al ?_ (am G U (zm 0 G));rw [show bitF p=s by rw [← hs,ht0,bln];rfl];exact aG
theorem Bh (l:Ya)(x:Nat)(hls:l.length≤1099511627776)(hx:x<4294967296):Cn Tryz.prog 267 [(MgA l).va,(NumA .u32 (x:Nat)).va] ((MgN (aA (val l*x))).va):=by
 refine Cn.intro Tryz.func267 G zk nq (zy [(0,(MgA l).va),(1,(NumA .u32 (x:Nat)).va)] λ B w0 a U=>?_);refine qb<|zh WR WS U (zE G aX) (zz WT [] ?_);refine ztA<|zhA (Wd 5 [.v 4 _]) [.o 5] (zM 0 G (zM 1 G (zv G (dF (l:=[_]) (xs:=[.tmp 6]) bc zk nq nq ((fc hx)) (.o (vq 1 G)) G G) (zQ G (eE famA _) (.o (vq 2 G)) (zQ G (Bp l (bx [x]) hls (qg (lV x).1 zd)) (.p (vq 0 G) (vq 3 G)) (zA 4 G o0)))))) (zz U3 [] λ a w U=>?_);refine aa<|qi<|al ?_ (am G U (zm 0 G));rw [(lV x).2];exact aG
theorem sr {B:Nat}{w:Yi}:∀ (l:Ya),(cat (NL l)).p B (l.map λ (x:Nat)=>Value.int .u32 x) w
 | []=>⟨[],rfl,.nil⟩
 | x::l=>by
  obtain ⟨ps,e,hp⟩:=sr (B:=B) (w:=w) l;exact ⟨[.int .u32 x]::ps,by show _::_=_;rw [za,← e];rfl,.cons G hp⟩
theorem St.rowO {B N:Nat}(h:St B w0 N Γ Λ a w)(hB:B=w0.w.heap.size){l:Ya}(hn:n=l.length)(hl:l.length≤maxLen)(e:Nat)(he:Λ[e]?=some ⟨s,U32,slH n n,Nums .u32 l⟩):
  St B w0 N ((s,OwnR w0.w.heap.size U32 1 [] (NL l))::Γ) (Λ.eraseIdx e) a w:=by
 subst hn;obtain ⟨g,cs,e1,e2,e3,e4⟩:=h.locs _ (qa he);have e4':cs=l.map λ (x:Nat)=>Value.int .u32 x:=e4;refine ⟨h.lo,h.defers,h.size,h.base,λ x hx=>?_,λ m hm=>h.locs m (xT hm),λ m hm m' hm' hne=>h.dis m (xT hm) m' (xT hm') hne⟩;rcases qt.1 hx with rfl|hx
 ·have q1:∀ A∈NL l,A.n=1:=λ A hA=>by
   obtain ⟨_,_,rfl⟩:=qr.1 hA;rfl
  have q2:∀ A∈NL l,∀ T∈A.deps,T∈([]:List TypeId):=oX;have q3:(cat (NL l)).p B cs w:=by rw [e4'];exact sr l
  have q4:a.eval (.tmp s)=.slice (some ⟨g,0,none⟩) l.length l.length:=by rw [e1];rfl
  exact ⟨q1,q2,cs,q3,by rw [e4'];simp,.inr ⟨g,l.length,cs.toArray,by rw [qd];exact q4,by rw [← hB];exact h.lo g e2,e3,by simp,hl,by rw [e4'];simp,by rw [e4'];simp [qG]⟩⟩
 ·exact h.vals x hx
theorem qi64 {x:Nat}(h:x<4611686018427387904):IntKind.i64.wrap ((x:Int).tdiv 32)=((x/32:Nat):Int):=by
 rw [show (32:Int)=((32:Nat):Int) from rfl,jh zo,← j6,wi64 zo zo]
theorem LV {i:Nat}(h:i<31):IntKind.u32.wrap (((2:Nat):Int)*((2^i:Nat):Int))=((2^(i+1):Nat):Int):=by
 have h1:2^(i+1)≤2^31:=zZ zd zo;rw [← xG,zb,← zj,wu32 (qZ h1 zd)]
theorem N1 (k:Nat):4294967296^k=2^(32*k):=by rw [Nat.pow_mul]
theorem F9 {i:Nat}(h:i<32):2^i<4294967296:=qZ (zZ zd (show i≤31 by omega)) zd
theorem QJ {t:Nat}:(RIN (rsig (riOf p).neg (aA (val (List.replicate (t/32) 0++(riOf p).mag)*2^(t%32))))).va=(RIN (riOf (p*((2^t:Nat):Int)))).va:=by
 have hpos:(0:Int)<((2^t:Nat):Int):=by exact_mod_cast zP (by decide:0<2)
 refine qq (λ x=>(RIN x).va) (cj (bm _).1 (z:=p*((2^t:Nat):Int)) ?_ λ hz=>?_)
 ·rw [aI,iX,rh,ze,bF,qV,jT,kA,N1,jQ,← xg,x4,zb]
 ·show decide (p<0)=_;rw [qW];exact ⟨λ h=>jY h hpos,λ h=>by
   apply Decidable.byContradiction;intro hn;have:=Int.mul_nonneg (show 0≤p by omega) (Int.le_of_lt hpos);omega⟩
theorem By (p:Int)(t:Nat)(hp0:p≠0)(hp:lz p≤1000000000)(ht:t≤64000000000):Cn Tryz.prog 261 [Zi p,In (t:Nat)] ((RIN (riOf (p*((2^t:Nat):Int)))).va):=by
 obtain ⟨it,z,e1,e2,e3,e4,e5⟩:=np;refine Cn.introW Tryz.func261 G zk nq (.cons (ye _).va (.cons (lD _ _).va .nil)) (dA _).va (λ B w0 a hB0 U=>?_);have U:=zn [(0,(RIO (riOf p)).va),(1,In (t:Nat))] [] U;refine qb<|zg [] [zpL 2 26 0 _,zpL 4 26 1 _] UU [.g 1] U (zW 0 G (zY G (Str.zero ga) o0)) (zz [(1,_)] RX ?_);refine ztA<|zsA<|zgA UF [] (.adr 8 2 (.some 1) True::(Wb 9)) RJ (zO 0 G ar (zL 0 0 1 G bb (zv G (aK qe (aC (vq 1 G))) (zv G (bC (vq 2 G) ab) o0)))) (zz (Wc 1 11) RX λ a w U=>?_);refine zJ 1 U G (λ hb0=>?_) (λ hb0=>?_)
 ·have h0:(riOf p).mag=[]:=by simpa using hb0
  exact absurd (iw hp0) (by show ¬ 0<(riOf p).mag.length;rw [h0];decide)
 ·refine qk<|zt<|dz (sts:=[none,none]) (news:=[⟨15,138,slH _ _,some 2,_,none⟩]) (sp:=[.v 13 _,.v 14 _,.alc 2,.adr 5 15 .none True]) [.g 0] [(5,15)] [O 2 26 _,O 4 26 _,zpH 5 138 _] U (zM 0 G (zv G (nG (vq 0 G) ab zd (qi64 zo)) (oc (eF G G G fA (vq 1 G) (vq 1 G) zo) (oc (ob_a G G nA) o0)))) zk zk zk ⟨⟨3,rfl⟩,trivial⟩ G zk (zz [(1,_)] [O 2 26 _,O 4 26 _,zpH 5 138 _] λ a w U=>?_);refine zt ?_;have U:=St.rowO U hB0 (l:=List.replicate (t/32) 0) (by simp) (by simp;unfold maxLen;omega) 2 rfl;have U:=zn (Wc 5 1) RX U;refine lr (sp:=[.v 16 _,.adr 17 2 (.some 1) True,.v 18 _,.v 19 VT,.v 5 VT]) 3 [1] 0 2 U (zM 0 rfl (zO 0 rfl ar (zL 1 0 1 rfl bb o0))) rfl zk rfl rfl zd rfl zd rfl (λ w u h k=>by have h2:=SlO.use h;exact (eD h2).2) qe e1 e2 e3 e4 e5 zd (by simp only [qd,ze];have:(riOf p).mag.length=lz p:=rfl;omega) zd (λ T hT=>hT) zd (λ A hA=>by obtain ⟨_,_,rfl⟩:=qr.1 hA;rfl) zk nq nq zk zk (zz (Wc 5 1) RX ?_);refine ztA<|zgA UF [] U5 WS (zv G (aR (aF 1 G)) o0) (zz (Wa 5 1 6) RX ?_);refine ztA<|zsA<|zgA UF [] [.v 7 _] WZ (zE G ab) (zz (Wf 5 1 6 7) RX λ a w U=>?_);refine aa<|ql ?_;have U:=St.sel U [1,0,2,3];refine wp_loop_ghost (λ n a w=>∃ i:Nat,(n+i=t%32)∧St B w0 34 [(1,In (t:Nat)),(5,OwnR w0.w.heap.size U32 1 [] (NL (List.replicate (t/32) 0)++NL (riOf p).mag)),(6,(NumA .u32 (2^i:Nat)).va),(7,In (i:Nat))] [⟨2,26,ptrH,RIO (riOf p)⟩,⟨4,26,ptrH,cat [BoA false,MgO []]⟩] a w) (t%32) ?_ ?_
  ·exact ⟨0,by omega,U⟩
  intro n a w hI;obtain ⟨i,hn,U⟩:=hI;have hm32:=qX t (by decide:0<32);refine qb<|qb<|zg UH [] (Ww 20) (Wp [.o 3]) U (zM 3 G (zM 0 G (zv G (nF (vq 1 G) ab zd (nrem (y:=32))) (zv G (aN (vq 0 G) (vq 2 G)) o0)))) (zz (W8 1 5 6 7 23) RX λ a w U=>?_);refine zJ 4 U G (λ hb1=>?_) (λ hb1=>?_)
  ·have hi:i<t%32:=by have:=qu hb1;omega
   refine qk<|zt<|ql<|zg UH [] (W6 26 [.v 6 _]) Rb U (zM 2 G (zv G (mF (aF 2 G) (vq 0 G) (LV zo)) (zA 1 G o0))) (zz (Wf 1 5 7 6) RX λ a w U=>?_);refine ak ?_;refine aa<|zg UH [] (W6 24 [.v 7 _]) Rb U (zM 2 G (zv G (aL (vq 0 G) ab (aW zo)) (zA 1 G o0))) (zz (Wf 1 5 6 7) RX λ a w U=>?_);refine aa ?_;have U:=St.sel U [0,1,2,3];exact ⟨n-1,by omega,i+1,by omega,U⟩
  ·obtain rfl:i=t%32:=by have:=qw hb1;omega
   have U:=St.wkG (A':=(MgA (List.replicate (t/32) 0++(riOf p).mag)).va) U 1 rfl (by unfold NL;rw [← zD];exact BY (okL_append.2 ⟨λ x hx=>by rw [(xN.1 hx).2];decide,oU p⟩));refine qM<|ai<|ai<|az<|zt<|zgd [[],[0],[],[],[2,3],(Wm 5),(Wm 6)] RS [] (.adr 28 2 (.some 0) True::(Wd 29 [.sto 1])) [] ac U (zO 0 G aY (zL 0 0 0 G ty_4 (zM 1 G (zM 2 G (zQ G (Bh _ (2^(t%32)) (by simp only [qv,ze];have:(riOf p).mag.length=lz p:=rfl;omega) (F9 (qX _ zd))) (.p (vq 2 G) (vq 3 G)) (zQ G (yn _ _) (.p (vq 1 G) (vq 4 G)) (zS 5 G ap o0))))))) zk zk zk zk (zz [] RX λ a w U=>?_);refine aa<|qi<|al ?_ (au G U (zm 1 G) ap);exact ba QJ
theorem lZ (X:Nat)(h:(aA X).length≤1099511627776):Cn Tryz.prog 260 [(MgA (aA X)).va] (MgA (aA (X/2))).va:=by
 have:=J7 (aA X) h;rwa [aI] at this
theorem lL (h:0<X):0<(aA X).length:=by rw [dh zo];simp
theorem m5 (X:Nat)(h:0<X):Cn Tryz.prog 259 [(MgA (aA X)).va] (Bo (((X%2:Nat):Int)==((0:Nat):Int))):=by
 have:=J9 (aA X) (lL h);rwa [aI] at this
theorem Bj (X Y:Nat)(h:Y≤X)(hl:(aA X).length≤10000000000):Cn Tryz.prog 250 [(MgA (aA X)).va,(MgA (aA Y)).va] (MgA (aA (X-Y))).va:=by
 have:=Bi (aA X) (aA Y) hl (cE h) (by rw [aI,aI];exact h);rwa [aI,aI] at this
theorem wD {X:Nat}(h:(((X%2:Nat):Int)==((0:Nat):Int))=true):X%2=0:=by
 have:=beq_iff_eq.1 h;omega
theorem G5 {X:Nat}(h:(((X%2:Nat):Int)==((0:Nat):Int))=false):X%2=1:=by
 have h2:¬ ((X%2:Nat):Int)=((0:Nat):Int):=λ e=>by rw [e] at h;simp at h
 omega
theorem O6 {X Y:Nat}(h:((((X%2:Nat):Int)==((0:Nat):Int))&&(((Y%2:Nat):Int)==((0:Nat):Int)))=true):X%2=0∧Y%2=0:=by
 rw [qm] at h;exact ⟨wD h.1,wD h.2⟩
theorem O7 {X Y:Nat}(h:((((X%2:Nat):Int)==((0:Nat):Int))&&(((Y%2:Nat):Int)==((0:Nat):Int)))=false):X%2=1∨Y%2=1:=by
 rw [jB] at h;rcases h with h|h
 ·exact .inl (G5 h)
 ·exact .inr (G5 h)
theorem w7 (h:Nat.gcd X Y=g)(hg:g%2=1)(hX:X%2=0):Nat.gcd (X/2) Y=g:=by
 have e:X=2*(X/2):=by omega
 apply Nat.dvd_antisymm
 ·rw [← h];exact Nat.dvd_gcd (vg (jC _ _) ⟨2,by omega⟩) (j1 _ _)
 ·refine Nat.dvd_gcd ?_ (h▸j1 _ _);have h1:g∣2*(X/2):=by rw [← e];exact h▸jC _ _
  refine Nat.Coprime.dvd_of_dvd_mul_left ?_ h1;show Nat.gcd g 2=1;have h2:Nat.gcd g 2∣2:=j1 _ _;have h3:Nat.gcd g 2∣g:=jC _ _;have h4:=Nat.le_of_dvd zd h2;rcases Nat.lt_or_ge (Nat.gcd g 2) 2 with h5|h5
  ·have:Nat.gcd g 2≠0:=by intro e0;have:=Nat.gcd_eq_zero_iff.1 e0;omega
   omega
  ·have h6:Nat.gcd g 2=2:=by omega
   rw [h6] at h3;obtain ⟨c,hc⟩:=h3;omega
theorem KP (h:X%2=1∨Y%2=1):Nat.gcd X Y%2=1:=by
 apply Decidable.byContradiction;intro hn;have h2:2∣Nat.gcd X Y:=Nat.dvd_of_mod_eq_zero zo;have h3:=vg h2 (jC X Y);have h4:=vg h2 (j1 X Y);omega
theorem uZ (h:Nat.gcd X Y=g)(hle:Y≤X):Nat.gcd (X-Y) Y=g:=by
 rw [← h,xZ,xZ X Y];have:=Nat.gcd_add_self_right (m:=Y) (n:=X-Y);rw [jP hle] at this;exact this.symm
theorem yf (hX:0<X)(h:X*2^t<4294967296^k):t≤32*k:=by
 rw [N1] at h;have h1:2^t≤X*2^t:=Nat.le_mul_of_pos_left _ hX;exact xc ((Nat.pow_lt_pow_iff_right (by decide:1<2)).1 (qZ h1 h))
structure Tw (P Q X Y t:Nat):Prop where
 x:0<X
 y:0<Y
 p:P=X*2^t
 q:Q=Y*2^t
theorem Tw.next {P Q X Y t:Nat}(h:Tw P Q X Y t)(hX:X%2=0)(hY:Y%2=0):Tw P Q (X/2) (Y/2) (t+1) :=
 ⟨by have:=h.x;omega,by have:=h.y;omega,by rw [h.p,zj,zb (2^t),← zc];congr 1;omega,by rw [h.q,zj,zb (2^t),← zc];congr 1;omega⟩
theorem Tw.xle {P Q X Y t:Nat}(h:Tw P Q X Y t):X≤P∧Y≤Q:=by
 have h1:0<2^t:=zP zd;rw [h.p,h.q];exact ⟨j4 _ h1,j4 _ h1⟩
theorem Tw.tle {P Q X Y t:Nat}(h:Tw P Q X Y t)(hl:(aA P).length≤1000000000):t≤32000000000:=by
 have h1:=cz (n:=P) (qj _);rw [h.p] at h1;have h2:=yf h.x h1;rw [← h.p] at h2;omega
theorem lenM (h:X≤M)(hM:(aA M).length≤1000000000):(aA X).length≤1000000000:=qg (cE h) hM
theorem Kj (h:decide (((aA X).length:Int)>0)=true):0<X:=by
 apply Decidable.byContradiction;intro hn;obtain rfl:X=0:=by omega
 rw [bE] at h;exact absurd h zd
theorem Kk (h:decide (((aA X).length:Int)>0)=false):X=0:=by
 apply Decidable.byContradiction;intro hn;have:=lL (X:=X) zo;exact absurd (qw h) zo
theorem Pp {Y:Nat}:(RIA (rsig false (aA Y))).va=Zi ((Y:Nat):Int):=by
 rw [cj (bm _).1 (z:=((Y:Nat):Int)) (by rw [aI];omega) (λ hz=>by simp)]
theorem mag0 (h:(((riOf p).mag.length:Int)==0)=true):p=0:=by
 apply Decidable.byContradiction;intro hn;have h1:=iw hn;have h2:(riOf p).mag.length=lz p:=rfl;simp at h;rw [h] at h2;simp at h2;omega
theorem mag1 {p:Int}(h:(((riOf p).mag.length:Int)==0)=false):0<p.natAbs:=by
 apply Decidable.byContradiction;intro hn;obtain rfl:p=0:=by omega
 exact absurd h (by rw [show (riOf (0:Int)).mag=[] from bE];decide)
set_option maxHeartbeats 1000000 in
theorem nU (p q:Int)(hp:lz p≤1000000000)(hq:lz q≤1000000000):Cn Tryz.prog 245 [Zi p,Zi q] (Zi ((Int.gcd p q:Nat):Int)):=by
 refine Cn.intro Tryz.func245 G zk nq (zy [(0,Zi p),(1,Zi q)] λ B w0 a U=>?_);refine qb<|zg [] Ul Um [] U (zW 0 G (zW 1 G (zY G (Str.zero bu) o0))) (zz [] Un ?_);refine ztA<|zgA Uo [] [.adr 9 2 (.some 1) True,.v 10 _,.v 5 _] Ud (zO 0 G ar (zL 0 0 1 G bb (zA 1 G o0))) (zz [(5,_)] Un ?_);refine ztA<|zgA Uo [] [.adr 11 3 (.some 1) True,.v 12 _,.v 6 _] Ui (zO 1 G ar (zL 0 1 1 G bb (zA 1 G o0))) (zz (Wc 5 6) Un ?_);refine ztA<|zsA<|zgA Uo [] (Wb 13) U1 (zM 0 G (zv G (aK qe (vq 0 G)) (zv G (bC (vq 1 G) ab) o0))) (zz (Wa 5 6 15) Un λ a w U=>?_);refine zJ 2 U G (λ hb0=>?_) (λ hb0=>?_)
 ·obtain rfl:=mag0 hb0;refine qb<|zg [η,η,some (2,_)] [] (W6 16 [.sto 2]) We U (zM 1 G (zQ G (cy _ _) (.cons aE (.o (vq 0 G))) (zS 1 G ap o0))) (zz (Wc 5 6) Un λ a w U=>?_);refine aa<|qi<|aj ?_;refine al ?_ (au G U (zm 2 G) ap);exact ba (size_e.trans (by rw [show Int.gcd 0 q=q.natAbs from Int.gcd_zero_left ..]))
 ·have hp0:=mag1 hb0;refine qk<|zt<|qb<|zg US [] (Wb 18) U1 U (zM 1 G (zv G (aK qe (vq 0 G)) (zv G (bC (vq 1 G) ab) o0))) (zz (Wa 5 6 20) Un λ a w U=>?_);refine zJ 2 U G (λ hb1=>?_) (λ hb1=>?_)
  ·obtain rfl:=mag0 hb1;refine qb<|zg [η,η,some (2,_)] [] (W6 21 [.sto 2]) We U (zM 0 G (zQ G (cy _ _) (.cons aE (.o (vq 0 G))) (zS 1 G ap o0))) (zz (Wc 5 6) Un λ a w U=>?_);refine aa<|qi<|aj ?_;refine al ?_ (au G U (zm 2 G) ap);exact ba (size_e.trans (by rw [show Int.gcd p 0=p.natAbs from Int.gcd_zero_right ..]))
  ·have hq0:=mag1 hb1;obtain ⟨M,hM0⟩:∃ M,M=max p.natAbs q.natAbs:=⟨_,rfl⟩;have hPM:p.natAbs≤M:=by omega
   have hQM:q.natAbs≤M:=by omega
   have hM:(aA M).length≤1000000000:=by
    rcases Nat.le_total p.natAbs q.natAbs with h|h
    ·rw [show M=q.natAbs by omega];exact hq
    ·rw [show M=p.natAbs by omega];exact hp
   refine qk<|zt<|zg US [] [.v 7 _] WS U (zE G ab) (zz (Wa 5 6 7) Un λ a w U=>?_);refine zt<|ql ?_;have U:=St.sel U [0,1,2];refine wp_loop_ghost (λ n a w=>∃ X Y t:Nat,(Tw p.natAbs q.natAbs X Y t∧n=X)∧St B w0 60 [(5,(MgA (aA X)).va),(6,(MgA (aA Y)).va),(7,In (t:Nat))] [⟨2,26,ptrH,RIA (riOf p)⟩,⟨3,26,ptrH,RIA (riOf q)⟩,⟨4,26,ptrH,cat [BoA false,MgA []]⟩] a w) (p.natAbs) ?_ ?_
   ·exact ⟨p.natAbs,q.natAbs,0,⟨⟨hp0,hq0,(z8 _).symm,(z8 _).symm⟩,rfl⟩,U⟩
   intro n a w hI;obtain ⟨X,Y,t,⟨hT,hnX⟩,U⟩:=hI;have htl:=hT.tle hp;have hTx:=hT.x;refine qb<|qb<|zg US [] (Wb 23 [.t 26 _,.t 27 _,.v 28 _]) (W7 [.o 5]) U (zM 0 G (zQ G (m5 X hT.x) (.o (vq 0 G)) (zV 1 G (zB 2 G (λ hg=>aq (gq 1 G)) (zB 2 G (λ hg=>be (m5 Y hT.y) (.o (ae (vq 3 G) hg))) (zv G (bv (vq 2 G) (vq 4 G)) o0)))))) (zz (Wf 5 6 7 28) Un λ a w U=>?_);refine zJ 3 U G (λ hb2=>?_) (λ hb2=>?_)
   ·have hev:=O6 hb2;refine qk<|aa<|ql<|qb<|zg US [] (W6 29 [.v 5 _]) WQ U (zM 0 G (zQ G (lZ X (qg (lenM (qg hT.xle.1 hPM) hM) zd)) (.o (vq 0 G)) (zA 1 G o0))) (zz (Wa 6 7 5) Un ?_);refine ztA<|zgA Uo [] (W6 31 [.v 6 _]) WQ (zM 0 G (zQ G (lZ Y (qg (lenM (qg hT.xle.2 hQM) hM) zd)) (.o (vq 0 G)) (zA 1 G o0))) (zz (Wa 7 5 6) Un ?_);refine znA<|zgA Uo [] (W6 33 [.v 7 _]) WQ (zM 0 G (zv G (aL (vq 0 G) ab (aW zo)) (zA 1 G o0))) (zz (Wa 5 6 7) Un λ a w U=>?_);refine ak ?_;refine aa ?_;have U:=St.sel U [0,1,2];exact ⟨X/2,by omega,X/2,Y/2,t+1,⟨hT.next hev.1 hev.2,rfl⟩,U⟩
   ·have hgo0:=KP (O7 hb2);obtain ⟨g,hgd⟩:∃ g,Nat.gcd X Y=g:=⟨_,rfl⟩;have hgo:g%2=1:=by rw [← hgd];exact hgo0
    have hgp:Int.gcd p q=g*2^t:=by show Nat.gcd p.natAbs q.natAbs=_;rw [hT.p,hT.q,Nat.gcd_mul_right,hgd]
    refine qM<|ai<|ai<|az<|zt<|ql ?_;have U:=St.sel U [0,1,2];refine wp_loop_ghost (λ n a w=>∃ X Y:Nat,(0<Y∧X≤M∧Y≤M∧Nat.gcd X Y=g∧n=X+Y)∧St B w0 60 [(5,(MgA (aA X)).va),(6,(MgA (aA Y)).va),(7,In (t:Nat))] [⟨2,26,ptrH,RIA (riOf p)⟩,⟨3,26,ptrH,RIA (riOf q)⟩,⟨4,26,ptrH,cat [BoA false,MgA []]⟩] a w) (X+Y) ?_ ?_
    ·exact ⟨X,Y,⟨hT.y,qg hT.xle.1 hPM,qg hT.xle.2 hQM,hgd,rfl⟩,U⟩
    intro n a w hI;clear hgd;obtain ⟨X,Y,⟨hY0,hXM,hYM,hg1,hn1⟩,U⟩:=hI;obtain ⟨n1,hn2⟩:∃ n1,n1=n:=⟨n,rfl⟩;refine qb<|qb<|zg US [] (Wb 35) UG U (zM 0 G (zv G (aK qe (vq 0 G)) (zv G (cL (vq 1 G) ab) o0))) (zz (Wf 5 6 7 37) Un λ a w U=>?_);refine zJ 3 U G (λ hb3=>?_) (λ hb3=>?_)
    ·have hX0:=Kj hb3;refine qk<|aa<|ql<|qb<|ql ?_;have U:=St.sel U [0,1,2];refine wp_loop_ghost (λ n a w=>∃ X2:Nat,(0<X2∧X2≤X∧Nat.gcd X2 Y=g∧n=X2)∧St B w0 60 [(5,(MgA (aA X2)).va),(6,(MgA (aA Y)).va),(7,In (t:Nat))] [⟨2,26,ptrH,RIA (riOf p)⟩,⟨3,26,ptrH,RIA (riOf q)⟩,⟨4,26,ptrH,cat [BoA false,MgA []]⟩] a w) (X) ?_ ?_
     ·exact ⟨X,⟨hX0,qj _,hg1,rfl⟩,U⟩
     intro n a w hI;obtain ⟨X2,⟨hX3,hX4,hg2,hn3⟩,U⟩:=hI;have hXM2:=qg hX4 hXM;refine qb<|qb<|zg US [] (W6 38) WX U (zM 0 G (zQ G (m5 X2 hX3) (.o (vq 0 G)) o0)) (zz (Wf 5 6 7 39) Un λ a w U=>?_);refine zJ 3 U G (λ hb4=>?_) (λ hb4=>?_)
     ·have hev:=wD hb4;refine qk<|aa<|ql<|zg US [] (W6 40 [.v 5 _]) WQ U (zM 0 G (zQ G (lZ X2 (qg (lenM hXM2 hM) zd)) (.o (vq 0 G)) (zA 1 G o0))) (zz (Wa 6 7 5) Un λ a w U=>?_);refine ak ?_;refine aa ?_;have U:=St.sel U [2,0,1];exact ⟨X2/2,by omega,X2/2,⟨by omega,by omega,w7 hg2 hgo hev,rfl⟩,U⟩
     ·have hoX:=G5 hb4;refine qM<|ai<|ai<|az<|zt<|ql ?_;have U:=St.sel U [0,1,2];refine wp_loop_ghost (λ n a w=>∃ Y2:Nat,(0<Y2∧Y2≤Y∧Nat.gcd X2 Y2=g∧n=Y2)∧St B w0 60 [(5,(MgA (aA X2)).va),(6,(MgA (aA Y2)).va),(7,In (t:Nat))] [⟨2,26,ptrH,RIA (riOf p)⟩,⟨3,26,ptrH,RIA (riOf q)⟩,⟨4,26,ptrH,cat [BoA false,MgA []]⟩] a w) (Y) ?_ ?_
      ·exact ⟨Y,⟨hY0,qj _,hg2,rfl⟩,U⟩
      intro n a w hI;obtain ⟨Y2,⟨hY3,hY4,hg3,hn4⟩,U⟩:=hI;have hYM2:=qg hY4 hYM;refine qb<|qb<|zg US [] (W6 42) WX U (zM 1 G (zQ G (m5 Y2 hY3) (.o (vq 0 G)) o0)) (zz (Wf 5 6 7 43) Un λ a w U=>?_);refine zJ 3 U G (λ hb5=>?_) (λ hb5=>?_)
      ·have hev:=wD hb5;refine qk<|aa<|ql<|zg US [] (W6 44 [.v 6 _]) [.g 0,.g 2,.o 2] U (zM 1 G (zQ G (lZ Y2 (qg (lenM hYM2 hM) zd)) (.o (vq 0 G)) (zA 1 G o0))) (zz (Wa 5 7 6) Un λ a w U=>?_);refine ak ?_;refine aa ?_;have U:=St.sel U [0,2,1];exact ⟨Y2/2,by omega,Y2/2,⟨by omega,by omega,by rw [xZ];exact w7 (by rw [xZ];exact hg3) hgo hev,rfl⟩,U⟩
      ·have hoY:=G5 hb5;refine qM<|ai<|ai<|az<|zt<|qb<|zg US [] (Ww 46) WV U (zM 0 G (zM 1 G (zQ G (rz _ _) (.p (vq 0 G) (vq 1 G)) (zv G (aN (vq 2 G) ab) o0)))) (zz (Wf 5 6 7 49) Un λ a w U=>?_);refine zJ 3 U G (λ hb6=>?_) (λ hb6=>?_)
       ·have hcm:X2<Y2:=cm_lt0.1 (qu hb6);refine qb<|zg US [] [.v 50 _,.v 8 _] WX U (zM 0 G (zA 0 G o0)) (zz (Wf 5 6 7 8) Un ?_);refine ztA<|zgA Uo [] [.v 51 _,.v 5 _] [.g 1,.g 2,.g 3,.o 1] (zM 1 G (zA 0 G o0)) (zz (Wf 6 7 8 5) Un ?_);refine znA<|zgA Uo [] [.v 52 _,.v 6 _] [.g 1,.g 3,.o 1] (zM 2 G (zA 0 G o0)) (zz (Wa 7 5 6) Un ?_);refine znA<|zgA Uo [] (Wb 53 [.v 5 _]) [.g 0,.g 2,.o 3] (zM 1 G (zM 2 G (zQ G (Bj Y2 X2 (xc hcm) (qg (lenM hYM2 hM) zd)) (.p (vq 0 G) (vq 1 G)) (zA 2 G o0)))) (zz (Wa 7 6 5) Un λ a w U=>?_);refine ak ?_;refine aa ?_;have U:=St.sel U [2,1,0];exact ⟨Y2-X2+X2,by omega,Y2-X2,X2,⟨hX3,by omega,hXM2,uZ (by rw [xZ];exact hg3) (xc hcm),rfl⟩,U⟩
       ·have hcm:Y2≤X2:=kX λ h=>qw hb6 (cm_lt0.2 h);refine qk<|aa<|zg US [] (Wb 53 [.v 5 _]) [.g 1,.g 2,.o 3] U (zM 0 G (zM 1 G (zQ G (Bj X2 Y2 hcm (qg (lenM hXM2 hM) zd)) (.p (vq 0 G) (vq 1 G)) (zA 2 G o0)))) (zz (Wa 6 7 5) Un λ a w U=>?_);refine ak ?_;refine aa ?_;have U:=St.sel U [2,0,1];exact ⟨X2-Y2+Y2,by omega,X2-Y2,Y2,⟨hY3,by omega,hYM2,uZ hg3 hcm,rfl⟩,U⟩
    ·obtain rfl:=Kk hb3;rw [Nat.gcd_zero_left] at hg1;refine qM<|ai<|ai<|az<|zt<|zg [η,η,some (4,_)] [] (Ww 56 [.sto 2]) [] U (zM 1 G (zQ G ((cy false (aA Y)).post Pp) (.cons aE (.o (vq 0 G))) (zM 2 G (zQ G ((By ((Y:Nat):Int) t zo (lenM hYM hM) zo).wkp lB) (.p (vq 1 G) (vq 2 G)) (zS 3 G ap o0))))) (zz [] Un λ a w U=>?_);refine aa<|qi<|al ?_ (au G U (zm 2 G) ap);exact ba (qq Zi (by rw [hgp,← hg1];push_cast;rfl))
def ElO (T:TypeId)(A:As):VA where
 p B v w:=∃ b cs,v=ptr b∧b<B∧w.heap[b]?=some (.cells (List.toArray cs) T (0,0))∧A.p B cs w
 deps:=A.deps
 cg:=λ B v w w' hg ⟨b,cs,h1,h2,h3,h4⟩=>⟨b,cs,h1,h2,hg.heap h3,A.cg _ _ _ _ hg h4⟩
 wr:=λ B v w w' g c T' fz q1 q2 q3 q4 ⟨b,cs,h1,h2,h3,h4⟩=>⟨b,cs,h1,h2,by rw [q4.block b zo];exact h3,A.wr _ _ _ _ _ _ _ _ q1 q2 q3 q4 h4⟩
theorem tz :Wk (ElO T A) (ElP T A):=λ B v w ⟨b,cs,h1,h2,h3,h4⟩ =>
 ⟨b,0,cs,h1,(Array.getElem?_eq_some_iff.1 h3).1,.inl h2,h4,λ j u hu=>by
  have:=iR (k:=0) h3 cs.length j u (by rw [xl,qI];exact hu);exact this⟩
def AllG (a:Act)(w:World):List (Nat × VA)→Prop
 | []=>True
 | x::l=>x.2.p w.heap.size (a.eval (.tmp x.1)) w∧AllG a w l
theorem AllG.mem {a:Act}{w:Yi}:∀ {l:Yf},AllG a w l→∀ x∈l,x.2.p w.heap.size (a.eval (.tmp x.1)) w
 | y::l,h,x,hx=>by
  rcases qt.1 hx with rfl|hx
  ·exact h.1
  ·exact AllG.mem h.2 x hx
section
variable {P:Program}{B N:Nat}{w0:Bs}{Γ:List (Nat × VA)}{Λ:List Lc}{a:Act}{w:World}
theorem St.bw (h:St B w0 N Γ Λ a w):B≤w.heap.size:=qg (h.lo _ (.inl (qj _))) h.base.size
theorem oe {fn:Func}{R R':Ending→Yi→Prop}(h:ce P fn R e a w)(k:∀ v w',R (.returned v) w'→R' (.returned v) w'):ce P fn R' e a w:=by
 cases e with
 | normal =>
  obtain ⟨Ds,e,nd,hD,hr⟩:=h;exact ⟨Ds,e,nd,hD,λ w' hs=>by obtain ⟨v,h1,h2⟩:=hr w' hs;exact ⟨v,h1,k v w' h2⟩⟩
 | ret =>
  obtain ⟨Ds,e,nd,hD,hr⟩:=h;exact ⟨Ds,e,nd,hD,λ w' hs=>by obtain ⟨v,h1,h2⟩:=hr w' hs;exact ⟨v,h1,k v w' h2⟩⟩
 | _=>exact h.elim
theorem R9 {fn:Func}{c:Code}{b:Bool}(Γ':Yf)(h:St B w0 N Γ Λ a w)(hnd:w0.nd=true)(hΓ:AllG a w Γ')
  (k:∀ (B:Nat) (w1:Bs) (w:World),w1.nd=true→(∀ g,¬ w1.F g)→B=w1.w.heap.size→St B w1 N Γ' [] a w→Exit.then (λ a w=>c.wp P (ce P fn (RQ B w1 (Bo b))) a w) (ce P fn (RQ B w1 (Bo b))) .normal a w) :
  Exit.then (λ a w=>c.wp P (ce P fn (RQ B w0 (Bo b))) a w) (ce P fn (RQ B w0 (Bo b))) .normal a w:=by
 have h1:=k w.heap.size ⟨w,λ _=>False,true⟩ w rfl (λ _ h=>h) rfl ⟨λ g hg=>hg.resolve_right λ h=>h,DefOk.nil (h.defers.none hnd),h.size,Kept.refl _,hΓ.mem,(λ l hl=>by cases hl),(λ l hl=>by cases hl)⟩;refine wp_mono (c:=c) (show c.wp P _ a w from h1) λ e a' w' hp=>oe hp ?_;rintro v w2 ⟨u,hu,hp,hk⟩;exact ⟨u,hu,hp,h.base.grow ⟨hk.os,hk.tape,hk.output,hk.size,λ k hlt=>hk.block k hlt (λ h=>h)⟩⟩
end
section
variable {P:Program}{Q:Exit→Act→World→Prop}{B N:Nat}{w0:Bs}{Γ:List (Nat × VA)}{Λ:List Lc}{a:Act}{w:World}{ops:Array Oper}
theorem FC {id m:Nat}(hsz:ops.size=m+1)(h:wpOp P ops Q 0 (wpOps P ops Q (List.range' 1 m)) a w):(Code.region id ops false).wp P Q a w:=by
 refine wp_region ?_;rw [List.range_eq_range',hsz,List.range'_succ,qy];exact h
theorem Fy {sp:Yu}{d0 m:Nat}{A0:VA}(src:List Src)(h:St B w0 N ((d0,A0)::Γ) Λ a w)(h0:sp[0]?=some (.v d0 A0))(hsz:ops.size=m+1)
  (hob:Obs P Q ⟨ops,N,Γ,les0 Λ,sp,λ i=>List.range i⟩ B w0 1 m) (hk:Rg.chk ⟨ops,N,Γ,les0 Λ,sp,λ i=>List.range i⟩=true) (hsrc:src.all (okS ⟨ops,N,Γ,les0 Λ,sp,λ i=>List.range i⟩)=true)
  (hQ:∀ a w,St B w0 N (src.filterMap (cC ⟨ops,N,Γ,les0 Λ,sp,λ i=>List.range i⟩)) Λ a w→Q .normal a w):wpOps P ops Q (List.range' 1 m) a w:=by
 have e:m=ops.size-1:=by omega
 subst e;exact KI src h h0 zo hob hk hsrc hQ
end
theorem t7 {w1:Bs}{Ts:Yp}(hB:B=w1.w.heap.size):∀ E,Ts.contains E=true→fC w1 B E:=λ E _ w g c fz _ h _=>.inl (hB▸h)
def ZBk:List As:=[NumA .i64 0,EqS (.slice none 0 0),EqS (.slice none 0 0),EqS (.slice none 0 0),EqS (.slice none 0 0),EqS (.slice none 0 0),EqS (.slice none 0 0),EqS (.slice none 0 0),EqS (.slice none 0 0),EqS (.slice none 0 0),EqS (.slice none 0 0),EqS (.slice none 0 0),EqS (.slice none 0 0),EqS (.slice none 0 0),EqS (.slice none 0 0),EqS (.slice none 0 0),EqS (.slice none 0 0)]
theorem Et:Str Tryz.prog 60 ZBk :=
 Str.of (z:=.agg ([Value.int .i64 0]++List.replicate 16 (Value.slice none 0 0)).toArray) zk Tryz.underlying60 zk λ B w=>⟨[Value.int .i64 0]::List.replicate 16 [Value.slice none 0 0],rfl,.cons rfl (.cons ⟨rfl,rfl⟩ (.cons ⟨rfl,rfl⟩ (.cons ⟨rfl,rfl⟩ (.cons ⟨rfl,rfl⟩ (.cons ⟨rfl,rfl⟩ (.cons ⟨rfl,rfl⟩ (.cons ⟨rfl,rfl⟩ (.cons ⟨rfl,rfl⟩ (.cons ⟨rfl,rfl⟩ (.cons ⟨rfl,rfl⟩ (.cons ⟨rfl,rfl⟩ (.cons ⟨rfl,rfl⟩ (.cons ⟨rfl,rfl⟩ (.cons ⟨rfl,rfl⟩ (.cons ⟨rfl,rfl⟩ (.cons ⟨rfl,rfl⟩ .nil))))))))))))))))⟩
section
open Rg
variable {P:Program}{Q:Exit→Act→World→Prop}{R:Rg}{B i:Nat}{w0:Bs}
end
section
variable {P:Program}{R:Rg}{Q:Exit→Act→World→Prop}{B i:Nat}{w0:Bs}
end
theorem Cb :NewA (RFN x):=pc λ A hA=>by
 simp at hA;rcases hA with rfl|rfl <;> exact Ca _
theorem w9 :FreeA (RFN x) (RFN x):=bN (.cons (dA _) (.cons (dA _) .nil))
theorem Bq :WkA (RFN x) (RFA x):=br (.cons An (.cons An .nil))
theorem qd_rfn :WkA (QD k q) (RFN (rfOf q)):=qd_rfd.trans dis_wk
theorem kbl_app :kbl (l++m)=kbl l++kbl m:=vx ..
theorem H3 (h:(RIN x).p B cs w):okL x.mag:=by
 obtain ⟨ps,rfl,hp⟩:=h;cases hp with
 | cons h1 hp=>cases hp with
  | cons h2 hp=>exact h2.1
abbrev OkK (l:KL):Prop:=∀ p∈l,okL p.2
theorem oW (h:OkK l)(k:OkK m):OkK (l++m):=λ p hp=>by
 rcases qp.1 hp with hp|hp
 ·exact h p hp
 ·exact k p hp
abbrev LnK (l:KL):Prop:=∀ p∈l,p.2.length≤2000000000000
theorem pm (h:LnK l)(k:LnK m):LnK (l++m):=λ p hp=>by
 rcases qp.1 hp with hp|hp
 ·exact h p hp
 ·exact k p hp
theorem Q3 {x:RF}(h1:okL x.num.mag)(h2:okL x.den.mag):OkK (kf x m1 m2):=λ p hp=>by
 simp only [qt,zw,or_false] at hp;rcases hp with rfl|rfl
 ·exact h1
 ·exact h2
theorem Nz (h:bdF x):LnK (kf x m1 m2):=λ p hp=>by
 simp only [qt,zw,or_false] at hp;rcases hp with rfl|rfl
 ·exact qg h.1 zd
 ·exact qg h.2 zd
theorem JL (h:OkK l)(k:LnK l):∀ p∈l,okL p.2∧p.2.length≤2000000000000:=λ p hp=>⟨h p hp,k p hp⟩
theorem o8 (h:(RFN x).p B cs w):∃ m1 m2,(E9 x m1 m2).p B cs w∧cbl cs=kbl (kf x m1 m2)∧OkK (kf x m1 m2):=by
 obtain ⟨ps,rfl,hp⟩:=h;cases hp with
 | @cons _ c1 _ _ h1 hp=>cases hp with
  | @cons _ c2 _ _ h2 hp =>
   cases hp;obtain ⟨m1,p1,e1⟩:=rT h1;obtain ⟨m2,p2,e2⟩:=rT h2;refine ⟨m1,m2,⟨[c1,c2],rfl,.cons p1 (.cons p2 .nil)⟩,?_,Q3 (H3 h1) (H3 h2)⟩;have:([c1,c2]:List (List Value)).flatten=c1++c2:=by simp
   rw [this,dB,e1,e2];exact kbl_app.symm
def nm4 (a b c d:Value):Nat→Value
 | 0=>a
 | 1=>b
 | 2=>c
 | _=>d
theorem JK:OkK []:=λ p h=>by cases h
theorem Ki:LnK []:=λ p h=>by cases h
theorem R1 (h:¬ dX q=true):bdF (rfOf q):=by
 have h':dX q=false:=by cases hq:dX q with
  | true=>exact absurd hq h
  | false=>rfl
 unfold dX at h';simp only [List.any_cons,List.any_nil,Bool.or_false,qO] at h';have h1:=qw h'.1;have h2:=qw h'.2;refine ⟨?_,?_⟩
 ·show (riOf q.num).mag.length≤_;omega
 ·show (riOf (q.den:Int)).mag.length≤_;omega
def p4 (m:MQ)(j:Nat):Rat:=[m.a,m.b,m.c,m.d].getD j 0
def mulQ (m q:MQ):MQ:=⟨m.a*q.a+m.b*q.c,m.a*q.b+m.b*q.d,m.c*q.a+m.d*q.c,m.c*q.b+m.d*q.d⟩
theorem sub_self :Sub A 0 A:=λ B cs w h=>by
 have hl:=A.len B cs w h;refine ⟨?_,by omega⟩;rw [xl,qG zo];exact h
def bQ (k:Nat)(r:Rat):Prop:=lz r.num≤k∧lz (r.den:Int)≤k
theorem P0 (hx:bQ c x)(hy:bQ d y):bQ (c+d) (x*y):=by
 obtain ⟨x1,x2⟩:=hx;obtain ⟨y1,y2⟩:=hy;rw [← sP];obtain ⟨h1,h2⟩:=gU (p:=x.num*y.num) (q:=(x.den:Int)*(y.den:Int)) (den_nz x y);have h4:=iy x.num y.num;have h6:=iy x.den y.den;exact ⟨by omega,by omega⟩
theorem Qd (x:Rat):x=(x.num:Rat)/((x.den:Int):Rat):=by rw [← jx];exact (kw x).symm
theorem Od (x:Rat):((x.den:Int):Rat)≠0:=by
 have:=x.den_nz;intro h;exact this (by exact_mod_cast h)
section
variable {P:Program}{R:Rg}{Q:Exit→Act→World→Prop}{B i:Nat}{w0:Bs}
end
def EqA (v:Value):As where
 n:=1
 ag:=false
 p _ cs _:=cs=[v]∧v.oneCell'=true
 deps:=[]
 len:=by rintro B cs w ⟨rfl,_⟩;rfl
 one:=by rintro B cs w ⟨rfl,h⟩ c hc;simp at hc;subst hc;exact h
 ag1:=λ _=>rfl
 cg:=λ _ _ _ _ _ h=>h
 wr:=λ _ _ _ _ _ _ _ _ _ _ _ _ h=>h
theorem tZ (h:v.oneCell'=true):(EqA v).va.p B v w:=⟨[v],⟨rfl,h⟩,rfl⟩
theorem lM {v u:Yn}(h:(EqA v).va.p B u w):u=v:=by
 obtain ⟨cs,⟨rfl,_⟩,h2⟩:=h;exact h2
theorem St.nm {B N:Nat}(h:St B w0 N Γ Λ a w){s T:Nat}(k:Nat)(hm:Λ[k]?=some ⟨s,T,ptrH,A⟩):∃ g,St B w0 N ((s,EqV (ptr g))::Γ) Λ a w:=by
 obtain ⟨g,cs,e,_⟩:=h.locs _ (qa hm);refine ⟨g,h.lo,h.defers,h.size,h.base,λ x hx=>?_,h.locs,h.dis⟩;rcases qt.1 hx with rfl|hx
 ·exact e
 ·exact h.vals x hx
section
variable {P:Program}{R:Rg}{Q:Exit→Act→World→Prop}{B i:Nat}{w0:Bs}
theorem L7 {xs:Yr}{vs:Yl}(hx:HasL R B w0 i xs (vs.map EqV))(av:R.Av B w0 i a w):xs.map a.eval=vs:=by
 induction vs generalizing xs with
 | nil=>cases hx;rfl
 | cons v vs ih =>
  cases hx with
  | cons h1 h2 =>
   rw [qT,ih h2];have:_=v:=h1 a w av;rw [this]
theorem MP {f:Ym}{xs:Yr}{vs:Yl}(hx:HasL R B w0 i xs (vs.map EqV)):Wv P Q R B w0 i (.makeFunc (.func f) #[] xs.toArray) (EqA (.func (.func f) #[] vs.toArray)).va :=
 bk λ _ _ _ _ _ a w av=>by
  have e:=L7 hx av;refine ⟨.func (.func f) #[] vs.toArray,w,?_,Grow.refl w,tZ rfl⟩;simp [execOp,Instr.makeFunc,e]
end
structure RE where
 k:Int
 p:RF
 q:RF
 deriving DecidableEq
def REA (x:RE):As:=cat [NumA .u8 x.k,RFA x.p,RFA x.q]
def QEA (c:Nat)(k:Int)(p q:Rat):As:=cat [NumA .u8 k,QA c p,QA c q]
theorem dE:Str Tryz.prog 76 [NumA .u8 0,RFA rf0,RFA rf0] :=
 Str.of (z:=.agg #[.int .u8 0,.bool false,.slice none 0 0,.bool false,.slice none 0 0,.bool false,.slice none 0 0,.bool false,.slice none 0 0]) zk ja zk λ B w=>⟨[[.int .u8 0],[.bool false,.slice none 0 0,.bool false,.slice none 0 0],[.bool false,.slice none 0 0,.bool false,.slice none 0 0]],rfl,.cons rfl (.cons (f9 B w) (.cons (f9 B w) .nil))⟩
def elK (k ps qs:Int):Bool:=if k==1 then decide (ps≥0)&&(qs==0) else if k==2 then (qs==0) else if k==3 then decide (ps≥0)&&decide (qs>0) else if k==4 then true else ((k==5)&&(ps==0))&&(qs==0)
def elF (x:RE):Bool:=[x.p,x.q].all okX&&elK x.k (toQ x.p).num.sign (toQ x.q).num.sign
def elQ (k:Int)(p q:Rat):MQ:=if k=1 then ⟨1,p,0,1⟩ else if k=2 then ⟨1,0,0-p,1⟩ else if k=3 then ⟨1,p/q,0,1⟩ else if k=4 then ⟨1,0,0-p*q,1⟩ else ⟨0-1,0-0,0-0,0-1⟩
def elM (x:RE):MQ:=elQ x.k (toQ x.p) (toQ x.q)
def ei (xs:List RE):MQ:=xs.foldl (λ m x=>mulQ (elM x) m) ⟨1,0,0,1⟩
def chF (xs:List RE):Int:=if xs.length>4096 then 4 else if xs.all elF then 0 else 1
theorem HE {x:RE}(h:(![x.p,x.q].all okX)=true):elF x=false:=by rw [qz] at h;rw [elF,h];rfl
theorem HD {x:RE}(h:(![x.p,x.q].all okX)=false):[x.p,x.q].all okX=true∧elF x=elK x.k (toQ x.p).num.sign (toQ x.q).num.sign:=by rw [jv] at h;exact ⟨h,by rw [elF,h];rfl⟩
theorem el_q {x:RE}(h:[x.p,x.q].all okX=true):WkA (REA x) (QEA 2048 x.k (toQ x.p) (toQ x.q)):=by
 simp only [xI,xR,xK,qm] at h;exact br (.cons (WkA.refl _) (.cons (qa_x h.1 (qj _)) (.cons (qa_x h.2 (qj _)) .nil)))
theorem GM (x:RE):UpA (REA x) (REA x):=iS (.cons (lD _ _) (.cons (eI _) (.cons (eI _) .nil)))
theorem kd1 {k ps qs:Int}(h:(k==1)=true):elK k ps qs=(decide (ps≥0)&&(qs==0)):=by rw [elK,h];rfl
theorem kd2 {k ps qs:Int}(h1:(k==1)=false)(h:(k==2)=true):elK k ps qs=(qs==0):=by rw [elK,h1,h];rfl
theorem kd3 {k ps qs:Int}(h1:(k==1)=false)(h2:(k==2)=false)(h:(k==3)=true):elK k ps qs=(decide (ps≥0)&&decide (qs>0)):=by rw [elK,h1,h2,h];rfl
theorem kd4 {k ps qs:Int}(h1:(k==1)=false)(h2:(k==2)=false)(h3:(k==3)=false)(h:(k==4)=true):elK k ps qs=true:=by rw [elK,h1,h2,h3,h];rfl
theorem kd5 {k ps qs:Int}(h1:(k==1)=false)(h2:(k==2)=false)(h3:(k==3)=false)(h4:(k==4)=false):elK k ps qs=(((k==5)&&(ps==0))&&(qs==0)):=by rw [elK,h1,h2,h3,h4];rfl
theorem L8 (x:RE):Cn Tryz.prog 179 [(REA x).va] (Bo (elF x)):=by
 refine Cn.intro Tryz.func179 G zk nq (zy [(0,(REA x).va)] λ B w0 a U=>?_);refine qb<|zg [] [zpL 1 76 0 _] Uv Uw U (zW 0 G (zE G aE)) (zz Ux RY ?_);refine ztA<|zsA<|zgA U4 [] (.adr 5 1 (.some 1) True::.v 6 _::.adr 7 1 (.some 5) True::(Ww 8)) [.g 0,.o 6] (zO 0 G bL (zL 0 0 1 G ax (zO 0 G bZ (zL 2 0 2 G ax (zv G (bR (D:=[U32]) (l:=[_,_]) (xs:=[.tmp 6,.tmp 8]) (cO zk) du zk (n_ok zk) nq nq nq (.p (vq 1 G) (vq 3 G)) G G) (zQ G (Gk [x.p,x.q] nq) (.o (vq 4 G)) (zv G (dc (vq 5 G)) o0))))))) (zz (Wc 2 11) RY λ a w U=>?_);refine zJ 1 U G (λ hb0=>?_) (λ hb0=>?_)
 ·refine qb<|zg U6 [] UA U2 U (zE G aE) (zz Ux RY λ a w U=>?_);refine aa<|qi<|aj ?_;refine al ?_ (am G U (zm 0 G));rw [HE hb0];exact aG
 ·obtain ⟨hx,he⟩:=HD hb0;have U:=St.wkL U 0 rfl (el_q hx);refine qk<|zt<|zgd RK U4 [] (.adr 12 1 (.some 1) True::(W6 13 (.adr 15 1 (.some 5) True::(W6 16 (W6 3))))) [.g 0,.o 6,.o 7] ac U (zO 0 G bL (zL 0 0 1 G ax (zQ G sign_q (.o (vq 1 G)) (zO 0 G bZ (zL 3 0 2 G ax (zQ G sign_q (.o (vq 4 G)) (zA 2 G (zA 5 G o0)))))))) zk zk zk zk (zz (Wa 2 3 4) RY ?_);refine ztA<|zsA<|zgA U4 [] [.adr 18 1 (.some 0) True,.v 19 _] WX (zO 0 G cR (zL 0 0 0 G lO o0)) (zz (Wf 2 3 4 19) RY λ a w U=>?_);refine aa<|ql<|qb<|zg U6 [] [.v 21 _,.v 20 _] Ra U (zv G (bC (gq 3 G) ab) (zA 0 G o0)) (zz (W8 2 3 4 19 20) RY λ a w U=>?_);refine zJ 4 U G (λ hb1=>?_) (λ hb1=>?_)
  ·refine qb<|zg U6 [] (Wb 22 [.t 25 _,.t 26 _,.v 27 _,.v 2 _]) [.g 1,.g 2,.o 6] U (zM 1 G (zv G (dP (vq 0 G) ab) (zV 1 G (zB 2 G (λ hg=>aq (gq 2 G)) (zB 2 G (λ hg=>bC (ae (vq 3 G) hg) ab) (zv G (bv (vq 2 G) (vq 4 G)) (zA 5 G o0))))))) (zz (Wa 3 4 2) RY λ a w U=>?_);refine aa<|qi<|aD ?_;refine aj ?_;refine al ?_ (am G U (zm 2 G));rw [he,kd1 hb1];exact aG
  ·refine qb<|zg U6 [] [.v 29 _,.v 28 _] Ra U (zv G (bC (gq 3 G) ab) (zA 0 G o0)) (zz (W8 2 3 4 19 28) RY λ a w U=>?_);refine zJ 4 U G (λ hb2=>?_) (λ hb2=>?_)
   ·refine qb<|zg U6 [] (W6 30 [.v 2 _]) WQ U (zM 2 G (zv G (bC (vq 0 G) ab) (zA 1 G o0))) (zz (Wa 3 4 2) RY λ a w U=>?_);refine aa<|qi<|aD ?_;refine aj ?_;refine al ?_ (am G U (zm 2 G));rw [he,kd2 hb1 hb2];exact aG
   ·refine qb<|zg U6 [] [.v 33 _,.v 32 _] Ra U (zv G (bC (gq 3 G) ab) (zA 0 G o0)) (zz (W8 2 3 4 19 32) RY λ a w U=>?_);refine zJ 4 U G (λ hb3=>?_) (λ hb3=>?_)
    ·refine qb<|zg U6 [] (Wb 34 [.t 37 _,.t 38 _,.v 39 _,.v 2 _]) [.g 1,.g 2,.o 6] U (zM 1 G (zv G (dP (vq 0 G) ab) (zV 1 G (zB 2 G (λ hg=>aq (gq 2 G)) (zB 2 G (λ hg=>cL (ae (vq 3 G) hg) ab) (zv G (bv (vq 2 G) (vq 4 G)) (zA 5 G o0))))))) (zz (Wa 3 4 2) RY λ a w U=>?_);refine aa<|qi<|aD ?_;refine aj ?_;refine al ?_ (am G U (zm 2 G));rw [he,kd3 hb1 hb2 hb3];exact aG
    ·refine qb<|zg U6 [] [.v 41 _,.v 40 _] WX U (zv G (bC (gq 3 G) ab) (zA 0 G o0)) (zz (Wf 2 3 4 40) RY λ a w U=>?_);refine zJ 3 U G (λ hb4=>?_) (λ hb4=>?_)
     ·refine qb<|zg U6 [] UA [.g 1,.g 2,.o 0] U (zE G aE) (zz (Wa 3 4 2) RY λ a w U=>?_);refine aa<|qi<|aD ?_;refine aj ?_;refine al ?_ (am G U (zm 2 G));rw [he,kd4 hb1 hb2 hb3 hb4];exact aG
     ·refine qk<|ak ?_;refine zt<|zg U6 [] (.adr 42 1 (.some 0) True::(Wb 43 (.t 46 _::.t 47 _::(W6 48 [.t 50 _,.t 51 _,.v 52 _,.v 2 _])))) [.o 11] U (zO 0 G cR (zL 0 0 0 G lO (zv G (bC (vq 1 G) ab) (zV 2 G (zB 3 G (λ hg=>aq (gq 1 G)) (zB 3 G (λ hg=>bC (ae (vq 4 G) hg) ab) (zv G (bv (vq 3 G) (vq 5 G)) (zV 6 G (zB 7 G (λ hg=>aq (gq 2 G)) (zB 7 G (λ hg=>bC (ae (vq 8 G) hg) ab) (zv G (bv (vq 7 G) (vq 9 G)) (zA 10 G o0)))))))))))) (zz Ux RY λ a w U=>?_);refine aa<|qi<|al ?_ (am G U (zm 0 G));rw [he,kd5 hb1 hb2 hb3 hb4];exact aG
theorem nv {α:Type}{p:α→Bool}{l:List α}{j:Nat}(h:j<l.length)(h2:p l[j]=false):l.all p=false:=wa.2 ⟨_,qh h,by simp [h2]⟩
theorem nw {α:Type}{p:α→Bool}{l:List α}{j:Nat}(h:j<l.length)(h1:(l.take j).all p=true)(h2:p l[j]=true):(l.take (j+1)).all p=true:=by
 rw [qx h,wt,h1];simp [h2]
theorem Ae (xs:List RE):Cn Tryz.prog 103 [(SlA 76 [U32] (xs.map REA)).va] (In (chF xs)):=by
 refine Cn.introW Tryz.func103 rfl zk nq (.cons (iY (λ A hA=>by obtain ⟨x,_,rfl⟩:=qr.1 hA;exact GM x)).va .nil) (co _ _).va (λ B w0 a hB0 U=>?_);have U:=zn [(0,(SlO 76 [U32] (xs.map REA) True).va)] [] U;have hl:=IR (U.vals (0,(SlO 76 [U32] (xs.map REA) True).va) (zm 0 rfl));rw [qd] at hl;refine qb<|zh UA Rd U (zE G ab) (zz Re [] ?_);refine ztA<|zsA<|zhA (Wb 5) U1 (zM 0 G (zv G (bg zq (bz (aC (vq 0 G)))) (zv G (cL (vq 1 G) ab) o0))) (zz (Wa 0 2 7) [] λ a w U=>?_);refine zJ 2 U G (λ hb0=>?_) (λ hb0=>?_)
 ·have hbig:xs.length>4096:=by rw [qd] at hb0;have:=qu hb0;omega
  refine qb<|zh UA Rd U (zE G ab) (zz Re [] λ a w U=>?_);refine aa<|qi<|aj ?_;refine al ?_ (am G U (zm 1 G));rw [chF,qD hbig];exact aG
 ·have hbig:¬ xs.length>4096:=by rw [qd] at hb0;have:=qw hb0;omega
  refine qk<|zt<|qb<|zh (Wb 8) Ur U (zM 0 G (zv G (bg zq (bz (aC (vq 0 G)))) (zv G (aq ab) o0))) (zz (Wf 2 8 9 10) [] λ a w U=>?_);refine aa<|ql ?_;have U:=St.sel U [1,2,3];refine wp_loop_ghost (λ n a w=>∃ j:Nat,(n+j=xs.length∧(xs.take j).all elF=true)∧St B w0 18 [(8,(SlO 76 [U32] (xs.map REA) True).va),(9,In (xs.length:Nat)),(10,In (j:Nat))] [] a w) (xs.length) ?_ ?_
  ·exact ⟨0,⟨by omega,rfl⟩,by rw [qd] at U;exact U⟩
  intro n a w hI;obtain ⟨j,⟨hn,hno⟩,U⟩:=hI;refine qb<|zh [.v 11 _] WZ U (zv G (aN (gq 2 G) (gq 1 G)) o0) (zz (Wf 8 9 10 11) [] λ a w U=>?_);refine zt<|cd U (zm 3 G) (λ hb1=>?_) (λ hb1=>?_)
  ·have hj:j<xs.length:=by simp at hb1;omega
   refine qk<|zt<|ql<|qb<|zg [] [⟨4,76,ptrH,some 2,_,some (3,_)⟩] (W6 12 [.alc 0,.sto 0]) W7 U (zv G (bB mx (bX λ _=>rfl) (bz (aC (gq 0 G))) (gq 2 G) (bn hj)) (zv G (ao (vq 0 G) dq) (zY G (Str.zero dE) (zS 1 G dq o0)))) (zz (Wa 8 9 10) [O 4 76 _] ?_);refine ztA<|zgA U4 [] (Wb 14) UG (zl 0 G dq (zQ G (L8 _) (.o (vq 0 G)) (zv G (dc (vq 1 G)) o0))) (zz (Wf 8 9 10 16) [O 4 76 _] λ a w U=>?_);refine zJ 3 U G (λ hb2=>?_) (λ hb2=>?_)
   ·refine qb<|zg U6 [] UA WZ U (zE G ab) (zz (Wf 8 9 10 2) [O 4 76 _] λ a w U=>?_);refine aa<|qi<|aD ?_;refine aj ?_;refine aj ?_;refine aD ?_;refine aj ?_;refine al ?_ (am G U (zm 3 G));rw [chF,qA hbig,nv hj (by simpa using hb2)];exact aG
   ·refine qk<|ak ?_;refine aa<|zg U6 [] [.v 17 _,.v 10 _] UI U (zv G (aL (gq 2 G) ab ((wi64 zo zo).trans (by omega:(_:Int)=((j+1:Nat):Int)))) (zV 0 G o0)) (zz (Wa 8 9 10) [O 4 76 _] λ a w U=>?_);refine aa ?_;have U:=St.sel U [0,1,2];have U:=St.selL U [];exact ⟨n-1,by omega,j+1,⟨by omega,nw hj hno (by simpa using hb2)⟩,U⟩
  ·obtain rfl:j=xs.length:=by simp at hb1;omega
   refine qM<|ai<|ai<|az<|zt<|zh UA U2 U (zE G ab) (zz Ux [] λ a w U=>?_);refine aa<|qi<|al ?_ (am G U (zm 0 G));rw [qI] at hno;rw [chF,qA hbig,hno];exact aG
def RepM (b:Nat)(m:MQ):Prop:=∃ n1 n2 n3 n4 D:Int,D≠0∧m.a=(n1:Rat)/(D:Rat)∧m.b=(n2:Rat)/(D:Rat)∧m.c=(n3:Rat)/(D:Rat)∧m.d=(n4:Rat)/(D:Rat)∧lz n1≤b∧lz n2≤b∧lz n3≤b∧lz n4≤b∧lz D≤b
theorem Bu (h:RepM b m):bQ b m.a∧bQ b m.b∧bQ b m.c∧bQ b m.d:=by
 obtain ⟨n1,n2,n3,n4,D,hD,e1,e2,e3,e4,h1,h2,h3,h4,h5⟩:=h;rw [e1,e2,e3,e4,← jx,← jx,← jx,← jx];obtain ⟨a1,a2⟩:=gU (p:=n1) hD;obtain ⟨b1,b2⟩:=gU (p:=n2) hD;obtain ⟨c1,c2⟩:=gU (p:=n3) hD;obtain ⟨d1,d2⟩:=gU (p:=n4) hD;exact ⟨⟨by omega,by omega⟩,⟨by omega,by omega⟩,⟨by omega,by omega⟩,⟨by omega,by omega⟩⟩
theorem pd {a b c d D E:Rat}(hD:D≠0)(hE:E≠0):a/D*(c/E)+b/D*(d/E)=(a*c+b*d)/(D*E):=by grind
theorem uJ {a b x y:Int}(ha:lz a≤c)(hb:lz b≤c)(hx:lz x≤d)(hy:lz y≤d):lz (a*x+b*y)≤c+d+1:=by
 have h1:=rL (a*x) (b*y);have h2:=iy a x;have h3:=iy b y;omega
theorem Bt (hm:RepM c m)(hq:RepM d q):RepM (c+d+1) (mulQ m q):=by
 obtain ⟨n1,n2,n3,n4,D,hD,e1,e2,e3,e4,h1,h2,h3,h4,h5⟩:=hm;obtain ⟨k1,k2,k3,k4,E,hE,f1,f2,f3,f4,g1,g2,g3,g4,g5⟩:=hq;have hDr:(D:Rat)≠0:=λ e=>hD (by exact_mod_cast e);have hEr:(E:Rat)≠0:=λ e=>hE (by exact_mod_cast e);refine ⟨n1*k1+n2*k3,n1*k2+n2*k4,n3*k1+n4*k3,n3*k2+n4*k4,D*E,k9 hD hE,?_,?_,?_,?_,uJ h1 h2 g1 g3,uJ h1 h2 g2 g4,uJ h3 h4 g1 g3,uJ h3 h4 g2 g4,?_⟩
 ·simp only [mulQ,e1,e2,f1,f3,j9,j8];exact pd hDr hEr
 ·simp only [mulQ,e1,e2,f2,f4,j9,j8];exact pd hDr hEr
 ·simp only [mulQ,e3,e4,f1,f3,j9,j8];exact pd hDr hEr
 ·simp only [mulQ,e3,e4,f2,f4,j9,j8];exact pd hDr hEr
 ·have:=iy D E;omega
theorem uq {m:MQ}(n1 n2 n3 n4 D:Int)(hD:D≠0)(e1:m.a*(D:Rat)=(n1:Rat))(e2:m.b*(D:Rat)=(n2:Rat))(e3:m.c*(D:Rat)=(n3:Rat))(e4:m.d*(D:Rat)=(n4:Rat))(h1:lz n1≤b)(h2:lz n2≤b)(h3:lz n3≤b)(h4:lz n4≤b)(h5:lz D≤b):RepM b m:=by
 have hDr:(D:Rat)≠0:=λ e=>hD (by exact_mod_cast e);have key:∀ {x:Rat}{n:Int},x*(D:Rat)=(n:Rat)→x=(n:Rat)/(D:Rat):=λ h=>by rw [← h];exact (Rat.mul_div_cancel hDr).symm
 exact ⟨n1,n2,n3,n4,D,hD,key e1,key e2,key e3,key e4,h1,h2,h3,h4,h5⟩
theorem DE (x:Rat):x*((x.den:Int):Rat)=(x.num:Rat):=by
 have:=Qd x;have hd:=Od x;generalize ((x.den:Int):Rat)=d at *;generalize (x.num:Rat)=n at *
 grind
theorem lz_0:lz 0=0:=by kernel_rfl
theorem ph:lz 1≤1:=jz zk
theorem MB (h:bQ k x):RepM k ⟨1,x,0,1⟩:=uq (x.den:Int) x.num 0 (x.den:Int) (x.den:Int) (by have:=x.den_pos;omega) (jZ _) (DE x) (vp _) (jZ _) h.2 h.1 (by rw [lz_0];omega) h.2 h.2
theorem MA (h:bQ k x):RepM k ⟨1,0,x,1⟩:=uq (x.den:Int) 0 x.num (x.den:Int) (x.den:Int) (by have:=x.den_pos;omega) (jZ _) (vp _) (DE x) (jZ _) h.2 (by rw [lz_0];omega) h.1 h.2 h.2
theorem Pw:RepM 1 ⟨1,0,0,1⟩:=uq 1 0 0 1 1 zd (by grind) (by grind) (by grind) (by grind) ph (by rw [lz_0];omega) (by rw [lz_0];omega) ph ph
theorem Pv:RepM 1 ⟨0-1,0-0,0-0,0-1⟩:=uq (-1) 0 0 (-1) 1 zd (by grind) (by grind) (by grind) (by grind) nq (by rw [lz_0];omega) (by rw [lz_0];omega) nq ph
theorem il (h:RepM b m)(hc:b≤c):RepM c m:=by
 obtain ⟨n1,n2,n3,n4,D,hD,e1,e2,e3,e4,h1,h2,h3,h4,h5⟩:=h;exact ⟨n1,n2,n3,n4,D,hD,e1,e2,e3,e4,by omega,by omega,by omega,by omega,by omega⟩
theorem I3 (h:bQ k x):bQ k (0-x):=by
 have e:0-x = -x:=by grind
 rw [e];exact ⟨by rw [vA,lK];exact h.1,by rw [vB];exact h.2⟩
theorem P1 (hx:bQ c x)(hy:bQ d y)(h0:y≠0):bQ (c+d) (x/y):=by
 rw [← sQ];obtain ⟨h1,h2⟩:=gU (p:=x.num*(y.den:Int)) (C8 x h0);have h3:=iy x.num (y.den:Int);have h4:=iy (x.den:Int) y.num;obtain ⟨x1,x2⟩:=hx;obtain ⟨y1,y2⟩:=hy;exact ⟨by omega,by omega⟩
theorem Hf (h:okX x=true):bQ 2048 (toQ x):=(yC h).2
theorem fq (h:elF x=true):[x.p,x.q].all okX=true∧(x.k=1∨x.k=2∨(x.k=3∧toQ x.q≠0)∨x.k=4∨x.k=5):=by
 unfold elF at h;rw [qm] at h;refine ⟨h.1,?_⟩;have h2:=h.2;by_cases h1:x.k=1
 ·exact .inl h1
 ·by_cases h3:x.k=2
  ·exact .inr (.inl h3)
  ·by_cases h4:x.k=3
   ·rw [kd3 (by simpa using h1) (by simpa using h3) (by simpa using h4),qm] at h2;refine .inr (.inr (.inl ⟨h4,λ e=>?_⟩));rw [e] at h2;have:=qu h2.2;exact absurd this zd
   ·by_cases h5:x.k=4
    ·exact .inr (.inr (.inr (.inl h5)))
    ·rw [kd5 (by simpa using h1) (by simpa using h3) (by simpa using h4) (by simpa using h5)] at h2;simp only [qm,xw] at h2;exact .inr (.inr (.inr (.inr h2.1.1)))
theorem HC (h:elF x=true):RepM 4096 (elM x):=by
 obtain ⟨hx,hk⟩:=fq h;simp only [xI,xR,xK,qm] at hx;have bp:=Hf hx.1;have bq:=Hf hx.2;unfold elM;rcases hk with hk|hk|⟨hk,h0⟩|hk|hk <;> rw [hk]
 ·exact il (MB bp) zd
 ·exact il (MA (I3 bp)) zd
 ·exact MB (P1 bp bq h0)
 ·exact MA (I3 (P0 bp bq))
 ·exact il Pv zd
theorem BO {xs:List RE}(h:j<xs.length):ei (xs.take (j+1))=mulQ (elM xs[j]) (ei (xs.take j)):=by
 rw [qx h];unfold ei;rw [v7]
 rfl
theorem oN {xs:List RE}(h:xs.all elF=true):∀ j,j≤xs.length→RepM (1+4097*j) (ei (xs.take j))
 | 0,_=>Pw
 | j+1,hj=>by
  rw [BO zo];exact il (Bt (HC (qf.1 h _ (qh zo))) (oN h j zo)) zo
theorem F8 (h:bQ k' x):WkA (QA k x) (QA k' x):=qaA.trans (F7 h.1 h.2)
theorem QR {xs:List RE}(h:chF xs=0):xs.length≤4096∧xs.all elF=true:=by
 unfold chF at h;by_cases h1:xs.length>4096
 ·rw [qD h1] at h;exact absurd h zd
 ·rw [qA h1] at h;cases h2:xs.all elF with
  | true=>exact ⟨by omega,rfl⟩
  | false=>rw [h2] at h;exact absurd h zd
theorem y8:∃ it z,Tryz.prog.info? 76=some it∧it.zero=some z∧it.size=9∧it.bytes=136∧z.cells.size=9:=by
 have h:((Tryz.prog.info? 76).bind λ it=>it.zero.map λ z=>(it.size,it.bytes,z.cells.size))=some (9,136,9):=by kernel_rfl
 cases hi:Tryz.prog.info? 76 with
 | none=>rw [hi] at h;simp at h
 | some it =>
  rw [hi] at h;cases hz:it.zero with
  | none=>simp [hz] at h
  | some z =>
   simp [hz] at h;exact ⟨it,z,rfl,hz,h.1,h.2.1,h.2.2⟩
open Go.ChangeShapes Go.WideShapes Go.ChangeAt
theorem GC {α β:Type}{R':α→β→Prop}{l1 l2:List α}{m1 m2:List β}(h:All2 R' l1 m1)(h':All2 R' l2 m2):All2 R' (l1++l2) (m1++m2):=by
 induction h with
 | nil=>exact h'
 | cons h1 _ ih=>exact .cons h1 ih
theorem Lt {l l':Yb}{ds ds':Yl}(h:(cat l).p B ds w)(h':(cat l').p B ds' w):(cat (l++l')).p B (ds++ds') w:=by
 obtain ⟨ps,rfl,h1⟩:=h;obtain ⟨ps',rfl,h2⟩:=h';exact ⟨ps++ps',by simp,GC h1 h2⟩
theorem Gn {A:As}{ds:Yl}(h:A.p B ds w):(cat [A]).p B ds w:=⟨[ds],by simp,.cons h .nil⟩
section
variable {H:Type}{enc:TypeId × Value→H}{w:World}{base:Nat}{spare:Nat→Bool}{held:Bool}{fuel:Nat}{cs:List Value}{x:DataW H × List MemPlace}
end
open Go.ChangeShapes Go.WideShapes Go.ChangeAt
theorem t5 {A:As}(h:(A.deps.all λ T=>D.contains T)=true):∀ T∈A.deps,T∈D:=λ T hT=>by
 have:=qf.1 h T hT;simpa using this
theorem nh {A0 A1 A2:As}(h0:A0.p B ((cs.drop 0).take A0.n) w)(h1:A1.p B ((cs.drop A0.n).take A1.n) w)(h2:A2.p B ((cs.drop (A0.n+A1.n)).take A2.n) w)(hl:cs.length=A0.n+(A1.n+A2.n)):(cat [A0,A1,A2]).p B cs w :=
 DP (by simpa using hl) λ k A hk=>by
  match k,hk with
  | 0,hk=>simp at hk;subst hk;exact h0
  | 1,hk=>simp at hk;subst hk;simpa [offs] using h1
  | 2,hk=>simp at hk;subst hk;simpa [offs] using h2
section
variable {H:Type}{enc:TypeId × Value→H}{w:World}{base:Nat}{spare:Nat→Bool}{held:Bool}{fuel:Nat}{cs:List Value}{x:DataW H × List MemPlace}
end
abbrev VL:=List (Value × Nat)
def FrK (n:Nat)(M:List Slt)(Es:VL):Prop:=M.map (λ s=>(s.v,s.xs.length))=Es∧∀ s∈M,s.u=s.v∧s.ys=s.xs∧s.z=.slice none 0 0∧s.n≤n
def FrL (n:Nat)(L:List Slot)(K:KL):Prop:=L.map (λ s=>(s.v,s.xs))=K∧∀ s∈L,s.u=s.v∧s.ys=s.xs∧s.z=.slice none 0 0∧s.n≤n
def KsP (K:KL)(Rs Es:VL)(X:BkRest)(L:List Slot):Prop:=X.n=K.length+Rs.length+Es.length∧X.N=[]∧FrL X.n L K∧FrK X.n X.R Rs∧FrK X.n X.M Es
def BkF (K:KL)(Rs Es:VL):As:=BqE (KsP K Rs Es)
theorem me {n m:Nat}{M:List Slt}{Es:VL}(h:FrK n M Es)(hn:n≤m):FrK m M Es:=⟨h.1,λ s hs=>⟨(h.2 s hs).1,(h.2 s hs).2.1,(h.2 s hs).2.2.1,qg (h.2 s hs).2.2.2 hn⟩⟩
theorem wy {n m:Nat}{M:List Slot}{Es:KL}(h:FrL n M Es)(hn:n≤m):FrL m M Es:=⟨h.1,λ s hs=>⟨(h.2 s hs).1,(h.2 s hs).2.1,(h.2 s hs).2.2.1,qg (h.2 s hs).2.2.2 hn⟩⟩
theorem KW {n m a:Nat}{M:List Slt}{Es:VL}{ds:Yl}(h:FrK n M Es):FrK (n+1) (M++[newK m v a ds (n+1)]) (Es++[(v,a)]):=by
 refine ⟨?_,λ s hs=>?_⟩
 ·rw [zD,h.1];show Es++[(v,(eC m a ds).length)]=_;rw [oa]
 ·rcases qp.1 hs with hs|hs
  ·exact (me h (jF n)).2 s hs
  ·obtain rfl:=qo.1 hs;exact ⟨rfl,rfl,rfl,qj _⟩
theorem KV {n:Nat}{L:List Slot}{K:KL}{xs:Ya}(h:FrL n L K):FrL (n+1) (L++[newS v xs (n+1)]) (K++[(v,xs)]):=by
 refine ⟨by rw [zD,h.1];rfl,λ s hs=>?_⟩;rcases qp.1 hs with hs|hs
 ·exact (wy h (jF n)).2 s hs
 ·obtain rfl:=qo.1 hs;exact ⟨rfl,rfl,rfl,qj _⟩
theorem CK.exT {α : Type}{f : Ym}{T : Yh}{Ts : Yp}{A0 A1 : As}{A : α→As}{c : α→Prop}{pre : Yc}{post : VA} (hex : ∃ fn, P.funcs[f]? = some fn∧(fn.name == "runtime.NumGoroutine")=false∧fn.body.isNone=false) (h : ∀ x, c x→CK P f T Ts (A x) A1 pre post) (hp : ∀ B cs w, A0.p B cs w→∃ x, c x∧(A x).p B cs w) : CK P f T Ts A0 A1 pre post :=
 ⟨hex,λ B w g cs args hB hg hp0 ha=>by
  obtain ⟨x,hc,hx⟩:=hp B cs w hp0;exact (h x hc).2 B w g cs args hB hg hx ha⟩
theorem po {α β:Type}{f:α→β}{l:List α}{m:List β}(h:l.map f=m):l.length=m.length:=by rw [← h,qd]
theorem Pq (h:FrL n L K)(hs:∀ p∈K,∀ g,p.1.ownBlock=some g→v.ownBlock≠some g):∀ t∈L,∀ g,t.has g→v.ownBlock≠some g:=λ t ht g hg=>by
 obtain ⟨e1,_,_,_⟩:=h.2 t ht;have hv:t.v.ownBlock=some g:=by
  rcases hg with hg|hg
  ·exact hg
  ·rwa [e1] at hg
 exact hs (t.v,t.xs) (by rw [← h.1];exact qr.2 ⟨t,ht,rfl⟩) g hv
theorem Pr (h:FrK n L K)(hs:∀ p∈K,∀ g,p.1.ownBlock=some g→v.ownBlock≠some g):∀ t∈L,∀ g,t.has g→v.ownBlock≠some g:=λ t ht g hg=>by
 obtain ⟨e1,_,_,_⟩:=h.2 t ht;have hv:t.v.ownBlock=some g:=by
  rcases hg with hg|hg
  ·exact hg
  ·rwa [e1] at hg
 exact hs (t.v,t.xs.length) (by rw [← h.1];exact qr.2 ⟨t,ht,rfl⟩) g hv
theorem Fs (K:KL)(Rs Es:VL)(v:Yn)(xs:Ya)(hsep:∀ p∈K,∀ g,p.1.ownBlock=some g→v.ownBlock≠some g)(hl:K.length+Rs.length+Es.length≤1000000):CK Tryz.prog 237 60 [60,137] (BkF K Rs Es) (BkF (K++[(v,xs)]) Rs Es) [(PinA v (MgN xs)).va] (Tu []) :=
 CK.exT (c:=λ x:BkRest × Value × List Slot=>KsP K Rs Es x.1 x.2.2) (A:=λ x=>BqA x.1 x.2.1 x.2.2) (CA ⟨0,undef,[],undef,[],undef,[]⟩ undef v xs [] (λ t ht=>by cases ht) zd zd).1
  (λ x hx=>(CA x.1 x.2.1 v xs x.2.2 (Pq hx.2.2.1 hsep) (by have:=po hx.2.2.1.1;omega) (by have:=hx.1;omega)).wk λ B cs w ⟨X,vr,L,hp,h⟩=>by
   obtain ⟨h1,h2,h3,h4,h5⟩:=hp;obtain ⟨k1,k2,k3,k4,k5⟩:=hx;refine ⟨X,vr,L,⟨by rw [h1,k1,qv];simp;omega,h2.trans k2,?_,?_,?_⟩,h⟩
   ·rw [h1,h5];exact KV k3
   ·rw [h1,h3];exact me k4 (jF _)
   ·rw [h1,h4];exact me k5 (jF _)) λ B cs w ⟨X,vr,L,hp,h⟩=>⟨(X,vr,L),hp,h⟩
theorem Ft (K:KL)(Rs Es:VL)(v:Yn)(na:Nat)(hsep:∀ p∈Es,∀ g,p.1.ownBlock=some g→v.ownBlock≠some g)(hl:K.length+Rs.length+Es.length≤1000000):CK Tryz.prog 37 60 [60,135] (BkF K Rs Es) (BkF K Rs (Es++[(v,na)])) [OwV 76 9 v na] (Tu []) :=
 CK.exT (c:=λ x:BkRest × Value × List Slot=>KsP K Rs Es x.1 x.2.2) (A:=λ x=>BqA x.1 x.2.1 x.2.2) (CB ⟨0,undef,[],undef,[],undef,[]⟩ undef v na [] (λ t ht=>by cases ht) zd zd).1
  (λ x hx=>(CB x.1 x.2.1 v na x.2.2 (Pr hx.2.2.2.2 hsep) (by have:=po hx.2.2.2.2.1;omega) (by have:=hx.1;omega)).wk λ B cs w ⟨X,vr,L,hp,h⟩=>by
   obtain ⟨h1,h2,h3,h4,es,_,h5⟩:=hp;obtain ⟨k1,k2,k3,k4,k5⟩:=hx;refine ⟨X,vr,L,⟨by rw [h1,k1,qv];simp;omega,h2.trans k2,?_,?_,?_⟩,h⟩
   ·rw [h1,h4];exact wy k3 (jF _)
   ·rw [h1,h3];exact me k4 (jF _)
   ·rw [h1,h5];exact KW k5) λ B cs w ⟨X,vr,L,hp,h⟩=>⟨(X,vr,L),hp,h⟩
theorem Qb (h:FrL n L K)(hn:n≤1000000)(hp:(HbA vr L).p B c w)(hok:∀ p∈K,okL p.2∧p.2.length≤2000000000000):∀ s∈L,s.new:=λ s hs=>by
 obtain ⟨e1,e2,e3,e4⟩:=h.2 s hs;have hm:(s.v,s.xs)∈K:=by rw [← h.1];exact qr.2 ⟨s,hs,rfl⟩
 obtain ⟨o1,o2⟩:=hok _ hm;exact { rv:=(hp.2.2.1 s hs).2.1,ox:=o1,oy:=by rw [e2];exact o1,z1:=by rw [e3];rfl,n1:=by omega,lx:=o2,uv:=e1,yx:=e2 }
theorem Qc {H E m n:Nat}(h:FrK n L K)(hn:n≤1000000)(hp:(HkA H E m vr L).p B c w)(hok:∀ p∈K,p.2≤2000000000):∀ s∈L,s.new:=λ s hs=>by
 obtain ⟨e1,e2,e3,e4⟩:=h.2 s hs;have hm:(s.v,s.xs.length)∈K:=by rw [← h.1];exact qr.2 ⟨s,hs,rfl⟩
 exact { rv:=(hp.2.2.1 s hs).2.1,z1:=by rw [e3];rfl,n1:=by omega,lx:=hok _ hm,uv:=e1,yx:=e2 }
theorem Gz (K:KL)(Rs Es:VL)(hK:∀ p∈K,okL p.2∧p.2.length≤2000000000000)(hR:∀ p∈Rs,False)(hE:∀ p∈Es,p.2≤2000000000)(hl:K.length+Rs.length+Es.length≤1000000):CK Tryz.prog 14 60 [60,137,138,168,124,135,76] (BkF K Rs Es) JkA [] (Bo true) :=
 CK.exT (c:=λ x:BkRest × Value × List Slot=>KsP K Rs Es x.1 x.2.2∧(∀ s∈x.2.2,s.new)∧x.1.R=[]∧(∀ s∈x.1.M,s.new)) (A:=λ x=>BqA x.1 x.2.1 x.2.2)
  (E1 ⟨0,undef,[],undef,[],undef,[]⟩ undef [] (λ s hs=>by cases hs) zd rfl rfl (λ s hs=>by cases hs) zd).1
  (λ x hx=>E1 x.1 x.2.1 x.2.2 hx.2.1 (by have:=po hx.1.2.2.1.1;omega) hx.1.2.1 hx.2.2.1 hx.2.2.2 (by have:=po hx.1.2.2.2.2.1;omega))
  λ B cs w ⟨X,vr,L,hp,h⟩=>by
   obtain ⟨⟨c1,h1⟩,_,⟨c3,h3⟩,⟨c4,h4⟩⟩:=cS h;have hn:X.n≤1000000:=by have:=hp.1;omega
   exact ⟨(X,vr,L),⟨hp,Qb hp.2.2.1 hn h1 hK,List.map_eq_nil_iff.1 (hp.2.2.2.1.1.trans (List.eq_nil_iff_forall_not_mem.2 hR)),Qc hp.2.2.2.2 hn h4 hE⟩,h⟩
theorem Nn {K:KL}{xs:Ya}(h:(kbl (K++[(v,xs)])).Nodup):∀ p∈K,∀ g,p.1.ownBlock=some g→v.ownBlock≠some g:=λ p hp g hg hv=>by
 rw [kbl_app] at h;have h2:=(xD.1 h).2.2;have m1:g∈kbl K:=qS.2 ⟨p,hp,hg⟩;have m2:g∈kbl [(v,xs)]:=qS.2 ⟨(v,xs),by simp,hv⟩;exact h2 g m1 g m2 rfl
theorem Cd (h:(kbl (K++l)).Nodup):(kbl K).Nodup:=by
 rw [kbl_app] at h;exact (xD.1 h).1
def EleP (x:RE)(m:Nat→Value):As:=cat [NumA .u8 x.k,E9 x.p (m 0) (m 1),E9 x.q (m 2) (m 3)]
abbrev ke (x:RE)(m:Nat→Value):KL:=kf x.p (m 0) (m 1)++kf x.q (m 2) (m 3)
theorem uO (x:RI)(m:Yn)(K:KL)(Rs Es:VL)(hs:(kbl (K++[(m,x.mag)])).Nodup)(hl:K.length+Rs.length+Es.length≤999999):CK Tryz.prog 210 60 [60,137] (BkF (K) Rs Es) (BkF (K++([(m,x.mag)])) Rs Es) [(IntP x m).va] (Tu []):=by
 refine CK.intro Tryz.func210 G zk nq zk (λ B g w0 a hrm U=>?_);have U:=zn [(0,EqV ((ptrH).f g)),(1,(IntP x m).va)] [⟨0,60,ptrH,BkF (K) Rs Es⟩] U;refine qb<|zg U6 [zpL 3 26 0 _] [.alc 1] UL U (zW 1 G o0) (zz UM [O 0 60 _,O 3 26 _] λ a w U=>?_);refine aa<|bS (sp:=[.v 4 _,.adr 5 3 (.some 1) True,.v 6 _,.v 7 VT]) 3 1 99 3 OneC [.g 0,.o 0,.o 2] U (zM 0 G (zO 1 G ar (zL 1 1 1 G bb o0))) G zd zk zk (zz (Wa 0 4 6) [O 0 60 _,O 3 26 _] λ a w U=>?_);rw [show List.range' 3 1=[3] from rfl];rw [qy];refine ew (A1:=BkF (K++[(m,x.mag)]) Rs Es) (xs:=[.tmp 6]) [0] [2] 0 G U (Fs K Rs Es m x.mag (Nn hs) zo) G (xF (b:=ptr g) (U.vals _ (zm 1 G)) (jO (U.vals _ (zm 0 G)))) (.cons ⟨_,rfl,rfl⟩ .nil) G hrm zd zk zk zk zk (λ a w U=>?_);refine bU ?_;have U:=St.cvA (A':=BkF (K++([(m,x.mag)])) Rs Es) U 0 rfl (qq (λ k=>BkF k Rs Es) (by simp [qQ]));have U:=zn (Wc 7 0) [⟨0,60,ptrH,BkF (K++([(m,x.mag)])) Rs Es⟩,O 3 26 _] U;refine dg<|ik U (zm 1 G) (zm 0 G) ?_;exact aP (rs:=[]) G U .nil zd
theorem uP (x:RF)(m1 m2:Yn)(K:KL)(Rs Es:VL)(hs:(kbl (K++([(m1,x.num.mag)]++[(m2,x.den.mag)]))).Nodup)(hl:K.length+Rs.length+Es.length≤999990):CK Tryz.prog 133 60 [60,137] (BkF (K) Rs Es) (BkF (K++([(m1,x.num.mag)]++[(m2,x.den.mag)])) Rs Es) [(E9 x m1 m2).va] (Tu []):=by
 have g1:(kbl ((K++[(m1,x.num.mag)])++[(m2,x.den.mag)])).Nodup:=by simpa [qQ] using hs
 have g0:=Cd g1;refine CK.intro Tryz.func133 G zk nq zk (λ B g w0 a hrm U=>?_);have U:=zn [(0,EqV ((ptrH).f g)),(1,(E9 x m1 m2).va)] [⟨0,60,ptrH,BkF (K) Rs Es⟩] U;refine qb<|zg U6 [zpL 3 28 0 _] [.alc 1] UL U (zW 1 G o0) (zz UM [O 0 60 _,O 3 28 _] λ a w U=>?_);refine zt<|bS (sp:=[.v 4 _,.adr 5 3 (.some 0) True,.v 6 _,.v 7 VT]) 3 1 99 3 OneC [.g 0,.o 0,.o 2] U (zM 0 G (zO 1 G aZ (zL 1 1 0 G ap o0))) G zd zk zk (zz (Wa 0 4 6) [O 0 60 _,O 3 28 _] λ a w U=>?_);rw [show List.range' 3 1=[3] from rfl];rw [qy];refine ew (A1:=BkF (K++[(m1,x.num.mag)]) Rs Es) (xs:=[.tmp 6]) [0] [2] 0 G U (uO x.num m1 K Rs Es g0 (by (try simp only [qv,zi,xp]);omega)) G (xF (b:=ptr g) (U.vals _ (zm 1 G)) (jO (U.vals _ (zm 0 G)))) (.cons ⟨_,rfl,rfl⟩ .nil) G hrm zd zk zk zk zk (λ a w U=>?_)
 refine bU ?_;have U:=zn (Wc 7 0) [⟨0,60,ptrH,BkF (K++[(m1,x.num.mag)]) Rs Es⟩,O 3 28 _] U;refine aa<|bS (sp:=[.v 8 _,.adr 9 3 (.some 2) True,.v 10 _,.v 11 VT]) 3 1 99 3 OneC [.g 1,.o 0,.o 2] U (zM 1 G (zO 1 G aU (zL 1 1 1 G ap o0))) G zd zk zk (zz (Wa 0 8 10) [O 0 60 _,O 3 28 _] λ a w U=>?_);rw [show List.range' 3 1=[3] from rfl];rw [qy];refine ew (A1:=BkF ((K++[(m1,x.num.mag)])++[(m2,x.den.mag)]) Rs Es) (xs:=[.tmp 10]) [0] [2] 0 G U (uO x.den m2 (K++[(m1,x.num.mag)]) Rs Es g1 (by (try simp only [qv,zi,xp]);omega)) G (xF (b:=ptr g) (U.vals _ (zm 1 G)) (jO (U.vals _ (zm 0 G)))) (.cons ⟨_,rfl,rfl⟩ .nil) G hrm zd zk zk zk zk (λ a w U=>?_)
 refine bU ?_;have U:=St.cvA (A':=BkF (K++([(m1,x.num.mag)]++[(m2,x.den.mag)])) Rs Es) U 0 rfl (qq (λ k=>BkF k Rs Es) (by simp [qQ]));have U:=zn (Wc 11 0) [⟨0,60,ptrH,BkF (K++([(m1,x.num.mag)]++[(m2,x.den.mag)])) Rs Es⟩,O 3 28 _] U;refine dg<|ik U (zm 1 G) (zm 0 G) ?_;exact aP (rs:=[]) G U .nil zd
theorem CC (x:RE)(m:Yy)(K:KL)(Rs Es:VL)(hs:(kbl (K++ke x m)).Nodup)(hl:K.length+Rs.length+Es.length≤999982):CK Tryz.prog 36 60 [60,137] (BkF (K) Rs Es) (BkF (K++(ke x m)) Rs Es) [(EleP x m).va] (Tu []):=by
 have g1:(kbl ((K++(kf x.p (m 0) (m 1)))++(kf x.q (m 2) (m 3)))).Nodup:=by simpa [qQ] using hs
 have g0:=Cd g1;refine CK.intro Tryz.func36 G zk nq zk (λ B g w0 a hrm U=>?_);have U:=zn [(0,EqV ((ptrH).f g)),(1,(EleP x m).va)] [⟨0,60,ptrH,BkF (K) Rs Es⟩] U;refine qb<|zg U6 [zpL 3 76 0 _] [.alc 1] UL U (zW 1 G o0) (zz UM [O 0 60 _,O 3 76 _] λ a w U=>?_);refine zt<|bS (sp:=[.v 4 _,.adr 5 3 (.some 1) True,.v 6 _,.v 7 VT]) 3 1 99 3 OneC [.g 0,.o 0,.o 2] U (zM 0 G (zO 1 G bL (zL 1 1 1 G ax o0))) G zd zk zk (zz (Wa 0 4 6) [O 0 60 _,O 3 76 _] λ a w U=>?_);rw [show List.range' 3 1=[3] from rfl];rw [qy];refine ew (A1:=BkF (K++(kf x.p (m 0) (m 1))) Rs Es) (xs:=[.tmp 6]) [0] [2] 0 G U (uP x.p (m 0) (m 1) K Rs Es g0 (by (try simp only [qv,zi,xp]);omega)) G (xF (b:=ptr g) (U.vals _ (zm 1 G)) (jO (U.vals _ (zm 0 G)))) (.cons ⟨_,rfl,rfl⟩ .nil) G hrm zd zk zk zk zk (λ a w U=>?_)
 refine bU ?_;have U:=zn (Wc 7 0) [⟨0,60,ptrH,BkF (K++(kf x.p (m 0) (m 1))) Rs Es⟩,O 3 76 _] U;refine aa<|bS (sp:=[.v 8 _,.adr 9 3 (.some 5) True,.v 10 _,.v 11 VT]) 3 1 99 3 OneC [.g 1,.o 0,.o 2] U (zM 1 G (zO 1 G bZ (zL 1 1 2 G ax o0))) G zd zk zk (zz (Wa 0 8 10) [O 0 60 _,O 3 76 _] λ a w U=>?_);rw [show List.range' 3 1=[3] from rfl];rw [qy];refine ew (A1:=BkF ((K++(kf x.p (m 0) (m 1)))++(kf x.q (m 2) (m 3))) Rs Es) (xs:=[.tmp 10]) [0] [2] 0 G U (uP x.q (m 2) (m 3) (K++(kf x.p (m 0) (m 1))) Rs Es g1 (by (try simp only [qv,zi,xp]);omega)) G (xF (b:=ptr g) (U.vals _ (zm 1 G)) (jO (U.vals _ (zm 0 G)))) (.cons ⟨_,rfl,rfl⟩ .nil) G hrm zd zk zk zk zk (λ a w U=>?_)
 refine bU ?_;have U:=St.cvA (A':=BkF (K++(ke x m)) Rs Es) U 0 rfl (qq (λ k=>BkF k Rs Es) (by simp [qQ]));have U:=zn (Wc 11 0) [⟨0,60,ptrH,BkF (K++(ke x m)) Rs Es⟩,O 3 76 _] U;refine dg<|ik U (zm 1 G) (zm 0 G) ?_;exact aP (rs:=[]) G U .nil zd
def SzV (h:Nat):VA where
 p _ _ w:=h≤w.heap.size
 deps:=[]
 cg:=λ _ _ _ _ hg hh=>qg hh hg.le
 wr:=λ _ _ _ _ _ _ _ _ _ _ _ hW hh=>by rw [hW.size];exact hh
def GeA (h:Nat)(A:As):As where
 n:=A.n
 ag:=A.ag
 p B cs w:=A.p B cs w∧(cbl cs).Nodup∧∀ g∈cbl cs,h≤g
 deps:=A.deps
 len:=λ B cs w hp=>A.len B cs w hp.1
 one:=λ B cs w hp=>A.one B cs w hp.1
 ag1:=A.ag1
 cg:=λ B cs w w' hg hp=>⟨A.cg B cs w w' hg hp.1,hp.2⟩
 wr:=λ B cs w w' g c T fz h1 h2 h3 h4 hp=>⟨A.wr B cs w w' g c T fz h1 h2 h3 h4 hp.1,hp.2⟩
section
variable {B N:Nat}{w0:Bs}{Γ:List (Nat × VA)}{Λ:List Lc}{a:Act}{w:World}
theorem St.setG (h:St B w0 N Γ Λ a w){A A':VA}(k:Nat)(hm:Γ[k]?=some (s,A))(hp:A.p B (a.eval (.tmp s)) w→A'.p B (a.eval (.tmp s)) w):St B w0 N (Γ.set k (s,A')) Λ a w :=
 ⟨h.lo,h.defers,h.size,h.base,λ x hx=>by
  rcases qB hx with hx|rfl
  ·exact h.vals x hx
  ·exact hp (h.vals _ (qa hm)),h.locs,h.dis⟩
theorem St.getG (h:St B w0 N Γ Λ a w)(k:Nat)(hm:Γ[k]?=some (s,A)):A.p B (a.eval (.tmp s)) w:=h.vals _ (qa hm)
theorem St.addSz (h:St B w0 N Γ Λ a w)(s:Nat):St B w0 N (Γ++[(s,SzV w.heap.size)]) Λ a w :=
 ⟨h.lo,h.defers,h.size,h.base,λ x hx=>by
  rcases qp.1 hx with hx|hx
  ·exact h.vals x hx
  ·obtain rfl:=qo.1 hx;exact qj _,h.locs,h.dis⟩
theorem St.newSz (h:St B w0 N Γ Λ a w)(k:Nat)(hm:Γ[k]?=some (s,SzV h0)):h0≤w.heap.size∧St B w0 N (Γ.set k (s,SzV w.heap.size)) Λ a w:=⟨h.getG k hm,h.setG k hm λ _=>qj _⟩
end
section
open Rg
variable {P:Program}{Q:Exit→Act→World→Prop}{R:Rg}{B i:Nat}{w0:Bs}
theorem DZ {pre pre':Yc}{xs:Yr}(hup:All2 Up pre pre')(hx:HasL R B w0 i xs pre)(av:R.Av B w0 i a w):All2 (λ (A:VA) v=>A.p w.heap.size v w) pre' (xs.map a.eval):=by
 have hbw:=Av.bw av;have h1:=hx.all av;clear hx;generalize xs.map a.eval=vs at h1
 induction hup generalizing vs with
 | nil=>cases h1;exact .nil
 | cons hu _ ih =>
  cases h1 with
  | cons h2 h3=>exact .cons (hu _ _ _ hbw h2) (ih _ h3)
theorem EY {f h s:Nat}{A:As}{pre pre':Yc}{xs:Yr}{at_:Yq}(hc:Cn P f pre' A.va)(hnew:NewA A)(hnod:NodA A)(hfree:FreeA A A)(hup:All2 Up pre pre')(hx:HasL R B w0 i xs pre)(hs:Has R B w0 i (.tmp s) (SzV h)):Wv P Q R B w0 i (.call ⟨.value (.func f),xs.toArray,at_⟩) (GeA h A).va:=by
 intro d T ps af gd a w av K hK;obtain ⟨⟨fn,hf,hn,hb⟩,hcall⟩:=hc;have hrun:(execOp a.eval ⟨some d,.call ⟨.value (.func f),xs.toArray,at_⟩,T,ps,af,gd⟩).run P w=.ok (.enter f (xs.map a.eval).toArray) w:=by
  simp only [execOp,resolve,Act.eval,Deferred.ofValue,Sem.run_bind,Sem.run_pure,Result.andThen_ok,invoke,bi hf hn hb];simp
 have hsz:h≤w.heap.size:=hs a w av;unfold Oper.wp;rw [hrun];refine (hcall w.heap.size w _ (qj _) (DZ hup hx av)).mono ?_;rintro e w' ⟨v,rfl,⟨cs,hv,hsh⟩,hg⟩;exact hK v w' hg ⟨cs,⟨hfree.2.2 _ _ _ _ (Av.bw av) hv,hnod _ _ _ hv,λ g hg'=>qg hsz (hnew _ _ _ hv g hg').1⟩,hsh⟩
end
structure IvK (k:KL) (I:List (Nat × Nat)):Prop where
 nd:(kbl k).Nodup
 iv:∀ g∈kbl k,∃ x∈I,x.1≤g∧g<x.2
theorem Ko:IvK [] []:=⟨jg,λ g hg=>by cases hg⟩
theorem CH {k l:KL}{I:List (Nat × Nat)}{lo hi:Nat}(h:IvK k I)(nl:(kbl l).Nodup)(hl:∀ g∈kbl l,lo≤g∧g<hi)(hI:∀ x∈I,x.2≤lo∨hi≤x.1):IvK (k++l) (I++[(lo,hi)]):=by
 refine ⟨?_,λ g hg=>?_⟩
 ·rw [kbl_app];refine xD.2 ⟨h.nd,nl,λ x hx y hy e=>?_⟩;subst e;obtain ⟨z,hz,q1,q2⟩:=h.iv x hx;have q3:=hl x hy;rcases hI z hz with q|q <;> omega
 ·rw [kbl_app] at hg;rcases qp.1 hg with hg|hg
  ·obtain ⟨x,hx,q⟩:=h.iv g hg;exact ⟨x,by simp [hx],q⟩
  ·exact ⟨(lo,hi),by simp,hl g hg⟩
theorem CI {lo hi:Nat}:∀ x∈([]:List (Nat × Nat)),x.2≤lo∨hi≤x.1:=λ x hx=>by cases hx
theorem Kp {I:List (Nat × Nat)}{lo hi l2 h2:Nat}(h:∀ x∈I,x.2≤lo∨hi≤x.1)(k:h2≤lo∨hi≤l2):∀ x∈I++[(l2,h2)],x.2≤lo∨hi≤x.1:=λ x hx=>by
 rcases qp.1 hx with hx|hx
 ·exact h x hx
 ·obtain rfl:=qo.1 hx;exact k
def NewR (b:Nat)(E:TypeId)(l:List As):VA where
 p B v w:=∃ g ds,v=.slice (some ⟨g,0,none⟩) l.length l.length∧b≤g∧w.heap[g]?=some (.cells (List.toArray ds) E (0,0))∧(cat l).p B ds w
 deps:=E::(cat l).deps
 cg:=by
  rintro B v w w' hg ⟨g,ds,e,h1,h2,h3⟩;exact ⟨g,ds,e,h1,hg.heap h2,(cat l).cg _ _ _ _ hg h3⟩
 wr:=by
  rintro B v w w' g c T fz hgc hT hB hW ⟨g0,ds,e,h1,h2,h3⟩;simp only [qt,not_or] at hT;have n1:g0≠g:=by
   rintro rfl;rw [hgc] at h2;injection h2 with h2;injection h2 with _ h2 _;exact hT.1 h2
  exact ⟨g0,ds,e,h1,by rw [hW.block g0 n1];exact h2,(cat l).wr _ _ _ _ _ _ _ _ hgc hT.2 hB hW h3⟩
theorem DN {l:Yb}{m B:Nat}{ds:Yl}(hm:∀ A∈l,A.n=m)(h:(cat l).p B ds w):∀ k,(cat (l.take k)).p B (ds.take (k*m)) w∧(cat (l.drop k)).p B (ds.drop (k*m)) w:=by
 obtain ⟨ps,rfl,h⟩:=h
 induction h with
 | nil=>intro k;simp only [List.take_nil,List.drop_nil,List.flatten_nil];exact ⟨⟨[],rfl,.nil⟩,⟨[],rfl,.nil⟩⟩
 | @cons A c ls bs h1 h2 ih =>
  intro k;cases k with
  | zero =>
   simp only [kl,jK,xl];exact ⟨⟨[],rfl,.nil⟩,⟨c::bs,rfl,.cons h1 h2⟩⟩
  | succ k =>
   obtain ⟨i1,i2⟩:=ih (λ A' hA=>hm A' (zx _ hA)) k;have hl:c.length=m:=(A.len _ _ _ h1).trans (hm A (by simp));have e1:(c::bs).flatten.take ((k+1)*m)=c++bs.flatten.take (k*m):=by
    rw [za,kY,qG (by rw [hl,xX];omega),hl]
    congr 2
    rw [xX];omega
   have e2:(c::bs).flatten.drop ((k+1)*m)=bs.flatten.drop (k*m):=by
    rw [za,wh,zH (by rw [hl,xX];omega),jH,hl]
    congr 1
    rw [xX];omega
   rw [e1,e2,vJ,List.drop_succ_cons];refine ⟨?_,i2⟩;obtain ⟨qs,e,hq⟩:=i1;exact ⟨c::qs,by rw [za,← e],.cons h1 hq⟩
section
variable {P:Program}{R:Rg}{Q:Exit→Act→World→Prop}{B i:Nat}{w0:Bs}
theorem ut {S E:Yh}{l:Yb}{m:Nat}{xs:Yr}(hS:Sl P S E m)(hz:((P.info? E).bind (·.zero)).isSome=true)(hm:∀ A∈l,A.n=m)(hm0:0<m)(hl0:0<l.length)(hsmall:l.length*m≤16777216)
  (hx:All2 (λ (A:As) x=>Has R B w0 i x A.va) l xs) {ps':Array (Nat × Operand)} (hps:ps'.toList=(xs.zipIdx 0).map λ x=>(x.2,x.1)) {n:Nat} (hn:n=l.length):Wv P Q R B w0 i (.buildSlice S n ps') (NewR w0.w.heap.size E l) :=
 bk λ d T ps af gd a w av=>by
  subst hn;obtain ⟨hs1,hs2⟩:=hS;cases hi:P.info? E with
  | none=>rw [hi] at hs2;simp at hs2
  | some it =>
   rw [hi] at hs2 hz;have hsz:it.size=m:=by simpa using hs2
   obtain ⟨z,hzz⟩:=vf.1 hz;simp only [wc] at hzz;have hvs:All2 (λ (A:As) v=>A.va.p B v w) l (xs.map a.eval):=by
    clear hps hm hl0 hsmall
    induction hx with
    | nil=>exact .nil
    | cons h _ ih=>exact .cons (h a w av) ih
   have hlen:=hvs.length;have hvn:∀ v∈xs.map a.eval,v.cells.size=m:=by
    intro v hv;obtain ⟨k,hk⟩:=List.getElem?_of_mem hv;have hkl:k<l.length:=by rw [hlen];exact (List.getElem?_eq_some_iff.1 hk).1
    obtain ⟨v',hv',cs,hp,he⟩:=hvs.get (List.getElem?_eq_getElem hkl);rw [hk] at hv';injection hv' with hv';subst hv';rw [he,As.cells_shape _ hp];have:=As.len _ _ _ _ hp;simp [this];exact hm _ (by simp)
   have hf:=Great.fill_whole hm0 (xs.map a.eval) ((Array.range (l.length*m)).map (z.cells[· % z.cells.size]!)) hvn (by simp [hlen]);have hrun:=run_buildSlice (P:=P) w S E l.length (ps'.map λ x=>(x.1,a.eval x.2)) ((xs.map a.eval).flatMap λ v=>v.cells.toList).toArray it z hs1 hi hzz (by rw [hsz];omega) (by rw [hsz];exact Nat.ne_of_gt (jE hl0 hm0)) (by
    rw [hsz,← hf]
    congr 1
    rw [wj,hps];simp [wo,xE,Function.comp_def])
   refine ⟨.slice (some ⟨w.heap.size,0,none⟩) l.length l.length,w.alloc (.cells ((xs.map a.eval).flatMap λ v=>v.cells.toList).toArray E),?_,Grow.alloc _ _,w.heap.size,_,rfl,av.base.size,heap_alloc_new w _,(cat l).grow _ _ _ _ (Grow.alloc _ _) (o9 hvs)⟩;simp [execOp,hrun]
end
def TwK (g c:Nat)(E:TypeId)(m:Nat)(D:List TypeId)(l:List As)(x:As):VA where
 p B v w:=v=.slice (some ⟨g,0,none⟩) l.length c∧B≤g∧(OwnR 0 E m D (l++[x])).p B (.slice (some ⟨g,0,none⟩) (l.length+1) c) w
 deps:=E::D
 cg:=λ B v w w' hg h=>⟨h.1,h.2.1,(OwnR 0 E m D (l++[x])).cg _ _ _ _ hg h.2.2⟩
 wr:=λ B v w w' g c T fz h1 h2 h3 h4 h=>⟨h.1,h.2.1,(OwnR 0 E m D (l++[x])).wr _ _ _ _ _ _ _ _ h1 h2 h3 h4 h.2.2⟩
def TwS (E:TypeId)(m:Nat)(D:List TypeId)(l:List As)(x:As):VA where
 p B v w:=∃ g c,(TwK g c E m D l x).p B v w
 deps:=E::D
 cg:=λ B v w w' hg ⟨g,c,h⟩=>⟨g,c,(TwK g c E m D l x).cg _ _ _ _ hg h⟩
 wr:=λ B v w w' g c T fz h1 h2 h3 h4 ⟨g',c',h⟩=>⟨g',c',(TwK g' c' E m D l x).wr _ _ _ _ _ _ _ _ h1 h2 h3 h4 h⟩
theorem wx {l:Yb}{B B':Nat}(hB:B'≤B)(hl:∀ A∈l,FreeA A A){ds:Yl}(h:(cat l).p B ds w):(cat l).p B' ds w:=by
 obtain ⟨ps,rfl,h⟩:=h;refine ⟨ps,rfl,?_⟩
 induction h with
 | nil=>exact .nil
 | cons h _ ih=>exact .cons ((hl _ (by simp)).2.2 _ _ _ _ hB h) (ih λ A hA=>hl A (by simp [hA]))
theorem pz {E:Yh}{m:Nat}{l:Yb}{x:As}(hl:∀ A∈l++[x],FreeA A A):Free (TwS E m D l x) (TwS E m D l x):=λ B B' v w hB ⟨g,c,h1,h2,h3,h4,ds,h5,h6⟩=>⟨g,c,h1,qg hB h2,h3,h4,ds,wx hB hl h5,h6⟩
theorem St.exK {B N:Nat}(h:St B w0 N Γ Λ a w){E:Yh}(k:Nat)(hm:Γ[k]?=some (s,TwS E m D l x)):∃ g c,St B w0 N (Γ.set k (s,TwK g c E m D l x)) Λ a w:=by
 obtain ⟨g,c,hv⟩:=h.vals _ (qa hm);exact ⟨g,c,h.lo,h.defers,h.size,h.base,λ y hy=>by
  rcases qB hy with hy|rfl
  ·exact h.vals y hy
  ·exact hv,h.locs,h.dis⟩
theorem ot {E:Yh}(h:(TwK g c E m D l x).p B v w):l.length+1≤c∧c≤maxLen:=by
 obtain ⟨_,_,_,_,ds,_,_,h6⟩:=h;rcases h6 with ⟨h6,_⟩|⟨g',cap,cur,e1,e2,e3,e4,e5,e6,e7⟩
 ·cases h6
 ·injection e1 with _ _ e1;rw [qv] at e4;exact ⟨by rw [e1];exact e4,by rw [e1];exact e5⟩
theorem PV {E:Yh}(h:(OwnR b E m D l).p B v w):(SlA E D l).va.p B v w:=ip _ _ _ h
theorem mp {g c:Nat}{E:Yh}{m:Nat}{l:Yb}{x:As}:Wk (TwK g c E m D l x) (SlA E D l).va:=λ B v w h=>by
 obtain ⟨h1,h2,h3,h4,ds,h5,h6,h7⟩:=h;rcases h7 with ⟨h7,_⟩|⟨g',cap,cur,e1,e2,e3,e4,e5,e6,e7⟩
 ·cases h7
 ·injection e1 with eg _ e1;injection eg with eg;injection eg with eg;subst eg e1 h1;have hs:=(DN h3 h5 l.length).1;rw [kn] at hs;refine ⟨[.slice (some ⟨g,0,none⟩) l.length c],⟨λ A hA=>h4 A (by simp [hA]),_,c,ds.take (l.length*m),rfl,by rw [qv] at e4;exact xc e4,e5,hs,λ _=>⟨g,0,rfl,(Array.getElem?_eq_some_iff.1 e3).1,.inr ⟨_,_,e3⟩,λ j u hu=>?_⟩⟩,rfl⟩;rw [cell_of_row w g (0+j) cur E _ e3,qV];rw [List.getElem?_take] at hu;split at hu
  ·rw [← e7,List.getElem?_take] at hu;split at hu
   ·simpa using hu
   ·cases hu
  ·cases hu
theorem AD {E:Yh}:Wk (TwS E m D l x) (SlA E D l).va:=λ B v w ⟨g,c,h⟩=>mp _ _ _ h
section
variable {P:Program}{R:Rg}{Q:Exit→Act→World→Prop}{B i:Nat}{w0:Bs}
theorem BD {S E E':Yh}{g c m:Nat}(hS:P.underlying S=some (.slice E'))(hx:Has R B w0 i x (TwK g c E m D l z)):Wv P Q R B w0 i (.call ⟨.builtin .cap,#[x],#[S]⟩) (In (c:Int)) :=
 bk λ d T ps af gd a w av=>by
  have hv:=(hx a w av).1;refine ⟨.int .i64 (c:Int),w,?_,Grow.refl w,bV _ _ _ _⟩;simp [execOp,resolve,invoke,builtin,hv,Builtin.cap_,run_underlying hS,goInt]
theorem sR {S E:Yh}{l:Yb}(hS:Sl P S E m)(hx:Has R B w0 i x (TwK g c E m D l z))(hy:Has R B w0 i y (In ((l.length+1:Nat):Int))):Wv P Q R B w0 i (.slice S x none (some y) none) (SlA E D (l++[z])).va :=
 bk λ d T ps af gd a w av=>by
  have hk:=hx a w av;have hc:=ot hk;obtain ⟨hs1,hs2⟩:=hS;have e1:=hk.1;have e3:=bj (hy a w av);have hE:P.elem S=E:=by simp [Program.elem,hs1]
  have hs1':P.underlying S=some (.slice (P.elem S)):=by rw [hE];exact hs1
  have hsz:∀ w,(sizeOf E).run P w=.ok m w:=λ w=>by
   cases hi:P.info? E with
   | none=>rw [hi] at hs2;simp at hs2
   | some it=>rw [hi] at hs2;simp [sizeOf,typeInfo,hi];simpa using hs2
  refine ⟨.slice (some ⟨g,0,none⟩) (l.length+1) c,w,?_,Grow.refl w,PV hk.2.2⟩;have hr:=run_slice_h (P:=P) w S (some ⟨g,0,none⟩) l.length c hs1' .i64 ((l.length+1:Nat):Int) zo zo;rw [hE,hsz] at hr;have hne:¬ c=0:=by omega
  simp only [Result.andThen_ok,sliced,xa,hne,if_false,jK,qU,jL] at hr;simp only [execOp,e1,e3,qU,run_sliceAt_slice _ _ _ _ _ _ hs1',Sem.run_bind,Sem.run_pure]
  erw [hr]
  simp [Addr.add]
theorem sS {S E:Yh}{m bytes n:Nat}{x y:Yj}{it:TypeInfo}{z:Yn}(hS:P.underlying S=some (.slice E))(hi:P.info? E=some it)(hz:it.zero=some z)(hsz:it.size=m)(hby:it.bytes=bytes)(hzs:z.cells.size=m)(hm0:0<m)(hb6:bytes≤1000)(hB:B≤w0.w.heap.size)(hx:Has R B w0 i x (In 0))(hy:Has R B w0 i y (In n))(hn:n≤17592186044):Wv P Q R B w0 i (.makeSlice S x y) (OwnR w0.w.heap.size E m D []) :=
 bk λ d T ps af gd a w av=>by
  have hbn:bytes*n≤1000*n:=qK _ hb6;have hm:=run_make (P:=P) w S E it z hS hi hz .i64 .i64 0 n zo zo (by
   have h6:((it.bytes*n:Nat):Int)≤281474976710656:=by rw [hby];omega
   rwa [xG] at h6) zo
  have e1:=bj (hx a w av);have e2:=bj (hy a w av);refine ⟨.slice (some ⟨w.heap.size,0,none⟩) 0 n,w.alloc (.cells (madeCells z.cells (n*it.size)) E),?_,Grow.alloc _ _,(λ A hA=>by cases hA),(λ A hA=>by cases hA),[],⟨[],rfl,.nil⟩,by simp,.inr ⟨w.heap.size,n,madeCells z.cells (n*it.size),rfl,av.base.size,by simpa using heap_alloc_new w _,zr _,by unfold maxLen;omega,?_,by simp⟩⟩
  ·simp only [xa] at hm;simp [execOp,e1,e2,hm]
  ·rw [hsz];simp [madeCells]
end
open Rg in
theorem px {Q:Yd}{B N:Nat}{id:Nat}{ops:Yg}{sp:Yu}(n:Nat)(src:Ya)(i1 i2:Nat){S E T1 T2 T3 T4 T5:Yh}{s u d e f c0 c1 c2 m bytes:Nat}{ps1 ps2 ps3 ps4 ps5:Yv}{af1 af2 af3 af4 af5:Yw}{D D':Yp}{l:Yb}{x:As}{A2 X:VA}{it:TypeInfo}{z:Yn}
  (h:St B w0 N Γ Λ a w) (hob:Obs P Q ⟨ops,N,Γ,lesN Λ,sp,λ i=>List.range i⟩ B w0 0 n) (hn2:ops.size=n+5) (hk:Rg.chk ⟨ops,N,Γ,lesN Λ,sp,λ i=>List.range i⟩=true)
  (ho1:ops[n]?=some ⟨some d,.call ⟨.builtin .append,#[.tmp s,.tmp u],#[S,S]⟩,T1,ps1,af1,none⟩) (ho2:ops[n+1]?=some ⟨some c1,.move (.tmp c0),T2,ps2,af2,none⟩)
  (ho3:ops[n+2]?=some ⟨some c2,.call ⟨.builtin .len,#[.tmp c1],#[S]⟩,T3,ps3,af3,none⟩) (ho4:ops[n+3]?=some ⟨some f,.slice S (.tmp d) none (some (.tmp c2)) none,T4,ps4,af4,none⟩) (ho5:ops[n+4]?=some ⟨some e,.assign (.tmp f),T5,ps5,af5,none⟩)
  (kx:Nat) (hkx:Γ[kx]?=some (c0,X)) (hX:∀ B u w,X.p B u w→∃ A c,u=.slice A l.length c) (hXo:Rg.outG ⟨ops,N,Γ,lesN Λ,sp,λ i=>List.range i⟩ c0=true)
  (hi1:i1<n) (h1:sp[i1]?=some (.v s (OwnR w0.w.heap.size E m D l))) (hi2:i2<n) (h2:sp[i2]?=some (.v u A2)) (hA2:∀ w u,A2.p B u w→Kept w0 w→(SlA E D' [x]).va.p B u w)
  (hS:P.underlying S=some (.slice E)) (hi:P.info? E=some it) (hz:it.zero=some z) (hsz:it.size=m) (hby:it.bytes=bytes) (hzs:z.cells.size=m) (hm0:0<m) (hl:l.length+1≤100000000000) (hb6:bytes≤1000)
  (hD':∀ T∈D',T∈D) (hED:E ∉ D) (hxm:x.n=m) (hnd:decide ([d,c1,c2,f,e,c0].Nodup)=true) (hd:d<N) (he:e<N) (hc1:c1<N) (hc2:c2<N) (hf:f<N)
  (hsrc:src.all (λ k=>match Γ[k]? with|some y => !y.2.deps.contains E&&Rg.outG ⟨ops,N,Γ,lesN Λ,sp,λ i=>List.range i⟩ y.1|none=>false)=true)
  (hΛ:Λ.all (λ l=>l.T != E && !l.A.deps.contains E&&l.s != d&&l.s != e&&l.s != c1&&l.s != c2&&l.s != f)=true)
  (hQ:∀ a w,St B w0 N ((e,TwS E m D l x)::src.filterMap (λ k=>Γ[k]?)) Λ a w→Q .normal a w):(Code.region id ops false).wp P Q a w:=by
 have hles0:∀ y∈lesN Λ,y.cr=none∧y.st=none∧(⟨y.s,y.T,y.H,y.A0⟩:Lc)∈Λ:=λ y hy=>by
  obtain ⟨l',hl',rfl⟩:=qr.1 hy;exact ⟨rfl,rfl,hl'⟩
 refine Rg.linK (R:=⟨ops,N,Γ,lesN Λ,sp,λ i=>List.range i⟩) (m:=5) hn2 G hk h (λ y hy _=>(hles0 y hy).2.2) (λ i hi=>hob.all i zo zo) λ a1 w1 hinv=>?_;have hcl:∀ deps,Rg.clash ⟨ops,N,Γ,lesN Λ,sp,λ i=>List.range i⟩ (λ k=>decide (k<n)) deps=false:=λ deps=>by
  unfold Rg.clash;rw [xv];intro y hy;rw [(hles0 y hy).2.1];simp
 have hv:=hinv.v i1 _ s _ h1 rfl (qH hi1) (hcl _);have hu:=hA2 _ _ (hinv.v i2 _ u _ h2 rfl (qH hi2) (hcl _)) hinv.base;have hB:B≤w0.w.heap.size:=hinv.lo _ (.inl (qj _));obtain ⟨v',w',hr,r1,r2,r3⟩:=gc (xs:=[x]) (T1:=T1) hS hi hz hsz hby hzs hm0 (by simpa using hl) hb6 hv hu hD' hED (λ y hy=>by simp at hy;subst hy;exact hxm) hinv.base.size hB;have hnd':=qu hnd;simp only [jr,qt,zw,or_false,not_or,jg,and_true,not_false_iff] at hnd';obtain ⟨⟨n1,n2,n3,n4,n5⟩,⟨n6,n7,n8,n9⟩,⟨n10,n11,n12⟩,⟨n13,n14⟩,n15⟩:=hnd';have hgc:∀ q,q<ops.size→Rg.dst ⟨ops,N,Γ,lesN Λ,sp,λ i=>List.range i⟩ q≠some c0:=λ q hq=>by
  have:=qf.1 hXo q (by simpa using hq);simpa using this
 obtain ⟨Ax,cx,ex⟩:=hX _ _ _ (hinv.g (c0,X) (qa hkx) (λ q hq hdq=>absurd hdq (hgc q hq)) (hcl _));obtain ⟨q1,q2,ds,q3,q4,q5⟩:=r1;rcases q5 with ⟨_,q5⟩|⟨g,cap,cur,e1,e2,e3,e4,e5,e6,e7⟩
 ·simp at q5
 rw [qv,z7] at e1 e4;subst e1;have hsza:a1.tmps.size=N:=hinv.size;obtain ⟨a2,ha2⟩:∃ a2,a2=a1.put (some d) (.slice (some ⟨g,0,none⟩) (l.length+1) cap):=⟨_,rfl⟩;obtain ⟨a3,ha3⟩:∃ a3,a3=a2.put (some c1) (.slice Ax l.length cx):=⟨_,rfl⟩;obtain ⟨a4,ha4⟩:∃ a4,a4=a3.put (some c2) (.int .i64 (l.length:Int)):=⟨_,rfl⟩;obtain ⟨a5,ha5⟩:∃ a5,a5=a4.put (some f) (.slice (some ⟨g,0,none⟩) l.length cap):=⟨_,rfl⟩;obtain ⟨a6,ha6⟩:∃ a6,a6=a5.put (some e) (.slice (some ⟨g,0,none⟩) l.length cap):=⟨_,rfl⟩;have s2:a2.tmps.size=N:=by rw [ha2,size_put];exact hsza
 have s3:a3.tmps.size=N:=by rw [ha3,size_put];exact s2
 have s4:a4.tmps.size=N:=by rw [ha4,size_put];exact s3
 have s5:a5.tmps.size=N:=by rw [ha5,size_put];exact s4
 have s6:a6.tmps.size=N:=by rw [ha6,size_put];exact s5
 have hE:P.elem S=E:=by simp [Program.elem,hS]
 have hs1':P.underlying S=some (.slice (P.elem S)):=by rw [hE];exact hS
 have hszo:∀ w,(sizeOf E).run P w=.ok m w:=λ w=>by simp [sizeOf,typeInfo,hi,hsz]
 rw [List.range'_succ,qy];refine bA (R:=⟨ops,N,Γ,lesN Λ,sp,λ i=>List.range i⟩) ho1 G (bf (w':=w') (v:=.slice (some ⟨g,0,none⟩) (l.length+1) cap) (by simp [execOp,resolve,invoke,builtin,hr,Result.andThen]) ?_);show wpOps P ops Q _ (a1.put (some d) _) w';rw [← ha2];rw [List.range'_succ,qy];refine bA (R:=⟨ops,N,Γ,lesN Λ,sp,λ i=>List.range i⟩) ho2 G (bf (w':=w') (v:=.slice Ax l.length cx) (by
  have:a2.eval (.tmp c0)=.slice Ax l.length cx:=by rw [ha2,an _ _ _ _ (λ h=>n5 h.symm)];exact ex
  simp [execOp,this]) ?_)
 show wpOps P ops Q _ (a2.put (some c1) _) w';rw [← ha3];rw [List.range'_succ,qy];refine bA (R:=⟨ops,N,Γ,lesN Λ,sp,λ i=>List.range i⟩) ho3 G (bf (w':=w') (v:=.int .i64 (l.length:Int)) (by
  have:a3.eval (.tmp c1)=.slice Ax l.length cx:=by rw [ha3];exact aM _ _ _ (by rw [s2];exact hc1)
  simp [execOp,resolve,invoke,builtin,this,Builtin.len_,run_underlying hS,goInt]) ?_)
 show wpOps P ops Q _ (a3.put (some c2) _) w';rw [← ha4];have d4:a4.eval (.tmp d)=.slice (some ⟨g,0,none⟩) (l.length+1) cap:=by rw [ha4,an _ _ _ _ n2,ha3,an _ _ _ _ n1,ha2];exact aM _ _ _ (by rw [hsza];exact hd)
 have c4:a4.eval (.tmp c2)=.int .i64 (l.length:Int):=by rw [ha4];exact aM _ _ _ (by rw [s3];exact hc2)
 rw [List.range'_succ,qy];refine bA (R:=⟨ops,N,Γ,lesN Λ,sp,λ i=>List.range i⟩) ho4 G (bf (w':=w') (v:=.slice (some ⟨g,0,none⟩) l.length cap) (by
  have hr2:=run_slice_h (P:=P) w' S (some ⟨g,0,none⟩) (l.length+1) cap hs1' .i64 (l.length:Int) zo zo;rw [hE,hszo] at hr2;have hne:¬ cap=0:=by omega
  simp only [Result.andThen_ok,sliced,xa,hne,if_false,jK,qU,jL] at hr2;simp only [execOp,d4,c4,qU,run_sliceAt_slice _ _ _ _ _ _ hs1',Sem.run_bind,Sem.run_pure]
  erw [hr2]
  simp [Addr.add]) ?_)
 show wpOps P ops Q _ (a4.put (some f) _) w';rw [← ha5];rw [List.range'_succ,qy];refine bA (R:=⟨ops,N,Γ,lesN Λ,sp,λ i=>List.range i⟩) ho5 G (bf (w':=w') (v:=.slice (some ⟨g,0,none⟩) l.length cap) ?_ ?_)
 ·have:a5.eval (.tmp f)=.slice (some ⟨g,0,none⟩) l.length cap:=by rw [ha5];exact aM _ _ _ (by rw [s4];exact hf)
  simp [execOp,this]
 show wpOps P ops Q _ (a5.put (some e) _) w';rw [← ha6];refine hQ _ _ ?_;have hother:∀ t,t≠d→t≠c1→t≠c2→t≠f→t≠e→a6.eval (.tmp t)=a1.eval (.tmp t):=λ t h1 h2 h3 h4 h5=>by
  rw [ha6,an _ _ _ _ h5,ha5,an _ _ _ _ h4,ha4,an _ _ _ _ h3,ha3,an _ _ _ _ h2,ha2,an _ _ _ _ h1]
 have hdf:a6.defers=a1.defers:=by rw [ha6,ha5,ha4,ha3,ha2];rfl
 have hlc:∀ l'∈Λ,l'.T≠E∧E ∉ l'.A.deps∧a6.eval (.tmp l'.s)=a1.eval (.tmp l'.s):=λ l' hl'=>by
  have:=qf.1 hΛ l' hl';simp only [qm,bne_iff_ne,qz,qC,qn] at this;exact ⟨this.1.1.1.1.1.1,this.1.1.1.1.1.2,hother _ this.1.1.1.1.2 this.1.1.2 this.1.2 this.2 this.1.1.1.2⟩
 have hcur:∀ l'∈Λ,(⟨l'.s,l'.T,l'.H,none,l'.A,none⟩:Le)∈lesN Λ:=λ l' hl'=>qr.2 ⟨l',hl',rfl⟩;refine ⟨hinv.lo,hinv.defers.grown r2 r3 hdf,s6,?_,?_,?_,?_⟩
 ·exact ⟨r2.os.trans hinv.base.os,r2.tape.trans hinv.base.tape,r2.output.trans hinv.base.output,qg hinv.base.size r2.size,λ k hk hf =>
   (r2.block k (qE hk hinv.base.size) (λ e=>by have:=(r3 k e.symm).1;omega)).trans (hinv.base.block k hk hf)⟩
 ·intro y hy;rcases qt.1 hy with rfl|hy
  ·show (TwS E m D l x).p B (a6.eval (.tmp e)) w';rw [ha6,aM _ _ _ (by rw [s5];exact he)];exact ⟨g,cap,rfl,qg hB e2,q1,q2,ds,q3,q4,.inr ⟨g,cap,cur,by rw [qv];rfl,zr _,e3,by rw [qv];exact e4,e5,e6,e7⟩⟩
  ·obtain ⟨k,hk1,hk2⟩:=qS.1 hy;have hs:=qf.1 hsrc k hk1;simp only [hk2,qm,qz,qC,qn] at hs;have hout:∀ q,q<ops.size→Rg.dst ⟨ops,N,Γ,lesN Λ,sp,λ i=>List.range i⟩ q≠some y.1:=λ q hq=>by
    have:=qf.1 hs.2 q (by simpa using hq);simpa using this
   rw [hother _ (λ e1=>hout n zo (by unfold Rg.dst;rw [ho1,e1];rfl)) (λ e1=>hout (n+1) zo (by unfold Rg.dst;rw [ho2,e1];rfl)) (λ e1=>hout (n+2) zo (by unfold Rg.dst;rw [ho3,e1];rfl)) (λ e1=>hout (n+3) zo (by unfold Rg.dst;rw [ho4,e1];rfl)) (λ e1=>hout (n+4) zo (by unfold Rg.dst;rw [ho5,e1];rfl))];exact VA.grown (hinv.g y (qa hk2) (λ q hq hdq=>absurd hdq (hout q hq)) (hcl _)) r2 r3 hB hs.1
 ·intro l' hl';obtain ⟨g1,g2,g3⟩:=hlc l' hl';obtain ⟨g,cs,e1,e2,e3,e4⟩:=hinv.c _ (hcur l' hl') l'.A rfl;refine ⟨g,cs,by rw [g3];exact e1,e2,?_,As.grown e4 r2 r3 hB g2⟩;rw [r2.block g (Array.getElem?_eq_some_iff.1 e3).1 (λ e5=>by
   obtain ⟨_,c,fz,e6⟩:=r3 g e5.symm;rw [e3] at e6;injection e6 with e6;injection e6 with _ e6 _;exact g1 e6)]
  exact e3
 ·intro l1 hl1 l2 hl2 hne';rw [(hlc l1 hl1).2.2,(hlc l2 hl2).2.2];exact hinv.x _ (hcur l1 hl1) _ (hcur l2 hl2) hne' G rfl
theorem Bn {α:Type}{f:α→As}{xs:List α}{j:Nat}(h:j<xs.length):(xs.take j).map f++[f xs[j]]=(xs.take (j+1)).map f:=by
 rw [qx h,zD]
 rfl
theorem pC (x:RF):FreeA (RFT x) (RFT x):=bN (.cons (pB _) (.cons (pB _) .nil))
theorem gi {p:As→Prop}(h1:∀ A∈l,p A)(h2:p z):∀ A∈l++[z],p A:=λ A hA=>by
 rcases qp.1 hA with hA|hA
 ·exact h1 A hA
 ·obtain rfl:=qo.1 hA;exact h2
theorem cq {α:Type}{p:As→Prop}{f:α→As}{xs:List α}(h:∀ x,p (f x)):∀ A∈xs.map f,p A:=λ A hA=>by
 obtain ⟨x,_,rfl⟩:=qr.1 hA;exact h x
theorem iu {α:Type}{f k:α→As}(h:∀ x,WkA (f x) (k x)):∀ {xs:List α},All2 WkA (xs.map f) (xs.map k)
 | []=>.nil
 | x::xs=>.cons (h x) (iu h)
theorem mc:FreeA (MgA []) (MgA []):=⟨rfl,rfl,λ B B' cs w hB ⟨ok,hD,A,c,ds,h0,h1,h2,⟨ps,h3,h4⟩,h5⟩=>⟨ok,hD,A,c,ds,h0,h1,h2,by cases h4;exact ⟨[],h3,.nil⟩,λ h=>absurd h zd⟩⟩
theorem yb {α β:Type}{f:α→β}{xs:List α}(h:xs.length<4611686018427387903):IntKind.i64.wrap (((xs.map f).length:Int)+1)=((xs.length+1:Nat):Int):=by rw [qd];exact aW zo
theorem AW {E:Yh}{p:Prop}:∀ B u w,(SlO E D l p).va.p B u w→∃ A c,u=.slice A l.length c:=λ B u w ⟨cs,⟨_,_,A,c,ds,h0,_⟩,hv⟩=>by
 subst h0;exact ⟨A,c,hv⟩
theorem tf {α β:Type}{f:α→As}{k:β→As}{xs:List α}{ys:List β}{c:Nat}(h:(((((xs.map f).length:Nat):Int) != (((ys.map k).length:Nat):Int)) || decide ((c:Int)≤(((ys.map k).length:Nat):Int)))=false):xs.length=ys.length:=by
 simp only [qO,qd,bne_eq_false_iff_eq] at h;have:=h.1;omega
theorem te {α:Type}[DecidableEq α]{f k:α→As}{xs ys:List α}{c:Nat}(hc:xs.length+1≤c)(h:(((((xs.map f).length:Nat):Int) != (((ys.map k).length:Nat):Int)) || decide ((c:Int)≤(((ys.map k).length:Nat):Int)))=true):false=decide (xs=ys):=by
 symm;apply zT;rintro rfl;simp at h;omega
theorem oz {α:Type}[DecidableEq α]{xs ys:List α}(h2:j<ys.length)(h1:j<xs.length)(ht:xs.take j=ys.take j)(h:(!decide (xs[j]=ys[j]))=false):xs.take (j+1)=ys.take (j+1):=by
 rw [qx h1,qx h2,ht];simp at h;rw [h]
theorem ow {α:Type}[DecidableEq α]{xs ys:List α}(h2:j<ys.length)(h1:j<xs.length)(h:(!decide (xs[j]=ys[j]))=true):false=decide (xs=ys):=by
 symm;apply zT;rintro rfl;simp at h
open Go.ChangeShapes Go.WideShapes Go.ChangeAt
theorem fe {A:As}(h:(A.deps.all λ T=>D.contains T)=true):∀ T∈A.deps,T∈D:=λ T hT=>by
 have:=qf.1 h T hT;simpa using this
def wdI (x:RI):Prop:=x.mag.length≤140737488355328
def wdF (x:RF):Prop:=wdI x.num∧wdI x.den
abbrev Wt {H:Type}(P:Program)(t:TypeId)(d:DataW H):Prop:=∀ n∈d.weights P t,n≤reachBytes
section
variable {H:Type}{enc:TypeId × Value→H}{w:World}{base:Nat}{spare:Nat→Bool}{held:Bool}{fuel:Nat}{cs:List Value}{x:DataW H × List MemPlace}
theorem PK (h:DataW.trod enc Tryz.prog w base spare held fuel 24 cs=some x)(hw:Wt Tryz.prog 24 x.1):∃ l,(MgA l).p w.heap.size cs w∧l.length≤140737488355328:=by
 obtain ⟨l,hl⟩:=Py h;refine ⟨l,hl,?_⟩;rcases open_ints qe vO zk h with ⟨hcs,_⟩|⟨a,len,cap,zs,rfl,_,h1,hm,hz,hx,hcell,hwz⟩
 ·subst hcs;obtain ⟨_,_,A,c,ds,e,_⟩:=hl;rw [qd] at e;simp only [List.cons.injEq,Value.slice.injEq,and_true] at e;omega
 ·obtain ⟨_,_,A,c,ds,e,_⟩:=hl;rw [qd] at e;simp only [List.cons.injEq,Value.slice.injEq,and_true] at e;have h4:Tryz.prog.bytesOf 138=4:=by kernel_rfl
  have:=hw (((lits .u32 (zs.take len):List (DataW H)).length+(lits .u32 (zs.drop len):List (DataW H)).length)*Tryz.prog.bytesOf 138) (by rw [hx];simp [DataW.weights,qe,lits]);rw [h4] at this;simp only [lits,qd,zf,xW] at this;have hlen:len≤zs.length:=by rw [hz];split <;> omega
  unfold reachBytes at this;omega
theorem dw {t:Yh}{fs:Array Field}(ht:P.underlying t=some (.struct fs))(h:DataW.trod enc P w base spare held fuel t cs=some x)(hw:Wt P t x.1)(j:Nat){f:Field}(hf:fs[j]?=some f):
  ∃ n y,DataW.trod enc P w base spare held n f.type ((cs.drop f.offset).take (P.cellsOf f.type))=some y∧Wt P f.type y.1:=by
 obtain ⟨xs,n,_,hx,_,hlen,hel⟩:=DataW.trod_struct ht h;have hj:j<fs.size:=(Array.getElem?_eq_some_iff.1 hf).1;have h1:=hel j f hf;rw [List.getElem?_eq_getElem zo] at h1;refine ⟨n,_,h1,λ k hk=>hw k ?_⟩;rw [hx];simp only [DataW.weights,ht];exact DataW.weights_mem_each (j:=j) (by rw [List.getElem?_map];show (fs.toList[j]?).map _=_;rw [Array.getElem?_toList,hf];rfl) (by rw [List.getElem?_map,List.getElem?_eq_getElem zo];rfl) k hk
theorem MK (h:DataW.trod enc Tryz.prog w base spare held fuel 26 cs=some x)(hw:Wt Tryz.prog 26 x.1):∃ y,(RIA y).p w.heap.size cs w∧wdI y:=by
 have hl:cs.length=2:=by
  obtain ⟨_,_,_,_,hl,_,_⟩:=DataW.trod_struct xQ h;exact hl.trans zk
 obtain ⟨n0,y0,h0,w0⟩:=dw xQ h hw 0 rfl;have c0:Tryz.prog.cellsOf 4=1:=by kernel_rfl
 have h0:DataW.trod enc Tryz.prog w base spare held n0 4 ((cs.drop 0).take (Tryz.prog.cellsOf 4))=some y0:=h0;rw [c0] at h0;obtain ⟨a0,q0⟩:=PA h0;obtain ⟨n1,y1,h1,w1⟩:=dw xQ h hw 1 rfl;have c1:Tryz.prog.cellsOf 24=1:=by kernel_rfl
 have h1:DataW.trod enc Tryz.prog w base spare held n1 24 ((cs.drop 1).take (Tryz.prog.cellsOf 24))=some y1:=h1;rw [c1] at h1;obtain ⟨a1,q1,b1⟩:=PK h1 w1;exact ⟨⟨a0,a1⟩,DM q0 q1 hl,b1⟩
theorem EW (h:DataW.trod enc Tryz.prog w base spare held fuel 28 cs=some x)(hw:Wt Tryz.prog 28 x.1):∃ y,(RFA y).p w.heap.size cs w∧wdF y:=by
 have hl:cs.length=4:=by
  obtain ⟨_,_,_,_,hl,_,_⟩:=DataW.trod_struct jc h;exact hl.trans zk
 obtain ⟨n0,y0,h0,w0⟩:=dw jc h hw 0 rfl;have c0:Tryz.prog.cellsOf 26=2:=by kernel_rfl
 have h0:DataW.trod enc Tryz.prog w base spare held n0 26 ((cs.drop 0).take (Tryz.prog.cellsOf 26))=some y0:=h0;rw [c0] at h0;obtain ⟨a0,q0,b0⟩:=MK h0 w0;obtain ⟨n1,y1,h1,w1⟩:=dw jc h hw 1 rfl;have c1:Tryz.prog.cellsOf 26=2:=by kernel_rfl
 have h1:DataW.trod enc Tryz.prog w base spare held n1 26 ((cs.drop 2).take (Tryz.prog.cellsOf 26))=some y1:=h1;rw [c1] at h1;obtain ⟨a1,q1,b1⟩:=MK h1 w1;exact ⟨⟨a0,a1⟩,DM q0 q1 hl,⟨b0,b1⟩⟩
theorem LF {α:Type}{A:α→As}{bd:α→Prop}{t:Yh}{fs:Array Field}{r:Reach}{b0:Nat}{d:DataW H}{p:List MemPlace}(hag:∀ y,(A y).ag=true)(ht:P.underlying t=some (.struct fs))
  (rd:∀ {fuel:Nat}{cs:List Value}{x:DataW H × List MemPlace},DataW.trod enc P w base spare held fuel t cs=some x→Wt P t x.1→∃ y,(A y).p w.heap.size cs w∧bd y)
  (hv:Value.okWide P w r b0 t v) (h:DataW.Trod enc P w base spare held t v d p) (hw:Wt P t d):∃ y,(A y).va.p w.heap.size v w∧bd y:=by
 obtain ⟨cs,hcs,_⟩:=okWide_struct ht hv;subst hcs;obtain ⟨fuel,hf⟩:=h;obtain ⟨y,hy,hb⟩:=rd hf hw;refine ⟨y,⟨cs.toList,hy,?_⟩,hb⟩;unfold cN;rw [hag y,qD rfl]
theorem Ic {ts:Yp}{ds:List (DataW H)}(h:(DataW.weightsEach P ts ds).all (· ≤ reachBytes)=true)(j:Nat){t:Yh}{d:DataW H}(ht:ts[j]?=some t)(hd:ds[j]?=some d):Wt P t d:=λ n hn=>by
 have:=qf.1 h n (DataW.weights_mem_each ht hd n hn);simpa using this
theorem gG {P:Program}{e:Yh}:∀ {l:List (DataW H)}{d:DataW H},d∈l→∀ n∈d.weights P e,n∈DataW.weightsAll P e l
 | [],_,h,_,_=>by cases h
 | x::l,d,h,n,hn=>by
  simp only [DataW.weightsAll,qp];rcases qt.1 h with rfl|h
  ·exact .inl hn
  ·exact .inr (gG h n hn)
theorem Jc {α:Type}{A:α→As}{bd:α→Prop}{t e:Yh}{m:Nat}(ht:P.underlying t=some (.slice e))(hc:P.cellsOf e=m)(hm0:0<m)(hby:0<P.bytesOf e)(hD:∀ y,∀ T∈(A y).deps,T∈D)
  (rd:∀ {fuel:Nat}{cs:List Value}{x:DataW H × List MemPlace},DataW.trod enc P w base spare held fuel e cs=some x→Wt P e x.1→∃ y,(A y).p w.heap.size cs w∧bd y)
  (h:DataW.trod enc P w base spare held fuel t cs=some x) (hw:Wt P t x.1):∃ l:List α,(SlA e D (l.map A)).p w.heap.size cs w∧(∀ y∈l,bd y)∧l.length≤140737488355328:=by
 rcases Go.Deep.open_slice ht h with ⟨rfl,_⟩|⟨a,len,cap,m',n,Df,Pl,rfl,hb,hl,hmx,hm',hxx,hel⟩
 ·exact ⟨[],⟨λ A hA=>by simp at hA,none,0,[],rfl,qj _,zr _,⟨[],rfl,.nil⟩,λ h=>absurd h (by simp)⟩,λ y hy=>(by cases hy),by simp⟩
 ·rw [hc] at hel;have hle:len≤m':=by rw [hm'];split <;> omega
  have hwt:∀ k,k<len→Wt P e (Df k):=λ k hk n hn=>hw n (by
   rw [hxx];simp only [DataW.weights,ht];exact zx _ (vE _ (gG (qr.2 ⟨k,jS.2 hk,rfl⟩) n hn)))
  have hlw:len≤140737488355328:=by
   have:=hw ((((List.range len).map Df).length+((List.range (m'-len)).map λ j=>Df (len+j)).length)*P.bytesOf e) (by rw [hxx];simp [DataW.weights,ht]);simp only [qd,List.length_range] at this;unfold reachBytes at this;have h1:(len+(m'-len))*1≤(len+(m'-len))*P.bytesOf e:=zU _ hby;omega
  have key:∀ k,k≤len→∃ (l:List α) (ds:List Value),l.length=k∧ds.length=k*m∧(cat (l.map A)).p w.heap.size ds w∧(∀ y∈l,bd y)∧∀ (j:Nat) v,ds[j]?=some v→w.cell? (a.add j)=some v:=by
   intro k
   induction k with
   | zero=>exact λ _=>⟨[],[],rfl,by simp,⟨[],rfl,.nil⟩,λ y hy=>(by cases hy),λ j v hv=>by simp at hv⟩
   | succ k ih =>
    intro hk;obtain ⟨l,ds,h1,h2,h3,hbd,h4⟩:=ih zo;obtain ⟨cs',q1,q2⟩:=hel k zo;obtain ⟨y,hy,hyb⟩:=rd q2 (hwt k zo);obtain ⟨_,q3,q4⟩:=World.cells?_some q1;refine ⟨l++[y],ds++cs',by simp [h1],by rw [qv,h2,q3,xX,j0],?_,λ z hz=>by
     rcases qp.1 hz with hz|hz
     ·exact hbd z hz
     ·obtain rfl:=qo.1 hz;exact hyb,λ j v hv=>?_⟩
    ·rw [zD];exact Lt h3 (Gn hy)
    ·by_cases hj:j<ds.length
     ·rw [List.getElem?_append_left hj] at hv;exact h4 j v hv
     ·rw [List.getElem?_append_right zo] at hv;have hlt:j-ds.length<cs'.length:=(List.getElem?_eq_some_iff.1 hv).1;have:=q4 (j-ds.length) zo;rw [Go.Deep.add_add,show k*m+(j-ds.length)=j by omega] at this;rw [this,hv]
  obtain ⟨l,ds,h1,h2,h3,hbd,h4⟩:=key len (qj _);refine ⟨l,⟨λ A' hA=>?_,some a,cap,ds,by rw [qd,h1],by rw [qd,h1];exact hl,hmx,h3,λ hpos=>?_⟩,hbd,by omega⟩
  ·obtain ⟨y,_,rfl⟩:=qr.1 hA;exact hD y
  ·rw [qd,h1] at hpos;have hds:0<ds.length:=by rw [h2];exact jE hpos hm0
   obtain ⟨b,off,spot⟩:=a;have h0:=h4 0 (ds[0]) (List.getElem?_eq_getElem hds);have hspot:spot=none:=by simpa [Addr.add] using World.cell?_spot h0
   subst hspot;have hblk:b<w.heap.size:=World.block_lt_of_cell? w _ (by rw [Go.WideShapes.add_plain] at h0;exact h0);exact ⟨b,off,rfl,hblk,.inl hblk,λ j v hv=>by rw [← Go.WideShapes.add_plain];exact h4 j v hv⟩
theorem E0 {α:Type}{A:α→As}{bd:α→Prop}{t e:Yh}{m:Nat}{r:Reach}{b0:Nat}{d:DataW H}{p:List MemPlace}(ht:P.underlying t=some (.slice e))(hc:P.cellsOf e=m)(hm0:0<m)(hby:0<P.bytesOf e)(hD:∀ y,∀ T∈(A y).deps,T∈D)
  (rd:∀ {fuel:Nat}{cs:List Value}{x:DataW H × List MemPlace},DataW.trod enc P w base spare held fuel e cs=some x→Wt P e x.1→∃ y,(A y).p w.heap.size cs w∧bd y)
  (hv:Value.okWide P w r b0 t v) (h:DataW.Trod enc P w base spare held t v d p) (hw:Wt P t d):∃ l:List α,(SlA e D (l.map A)).va.p w.heap.size v w∧(∀ y∈l,bd y)∧l.length≤140737488355328:=by
 obtain ⟨a,len,cap,rfl⟩:=okWide_slice ht hv;obtain ⟨fuel,hf⟩:=h;obtain ⟨l,hl,h2⟩:=Jc ht hc hm0 hby hD rd hf hw;exact ⟨l,⟨_,hl,rfl⟩,h2⟩
end
theorem iG (h:wdF x):∃ c:Nat,dN x=(c:Int)∧x.num.mag.length+x.den.mag.length+2≤c∧c≤4503599627370496:=by
 obtain ⟨h1,h2⟩:=h;unfold wdI at h1 h2;have e1:fk x.num=((1+x.num.mag.length:Nat):Int):=by unfold fk;rw [wi64 zo zo];omega
 have e2:fk x.den=((1+x.den.mag.length:Nat):Int):=by unfold fk;rw [wi64 zo zo];omega
 have e3:iH x=((2+x.num.mag.length+x.den.mag.length:Nat):Int):=by unfold iH;rw [e1,e2,wi64 zo zo];omega
 obtain ⟨u,hu⟩:∃ u:Nat,u=min x.num.mag.length 1048576:=⟨_,rfl⟩;obtain ⟨v,hv⟩:∃ v:Nat,v=min x.den.mag.length 1048576:=⟨_,rfl⟩;have hu':min (x.num.mag.length:Int) 1048576=(u:Int):=by omega
 have hv':min (x.den.mag.length:Int) 1048576=(v:Int):=by omega
 have huv:u*v≤1048576*1048576:=xV zo zo;have h16:u*v/16≤68719476736:=qg (Nat.div_le_div_right huv) zd;have e4:m7 x.num x.den=((u*v/16*1024:Nat):Int):=by
  unfold m7;have t1:IntKind.i64.wrap (((u*v:Nat):Int))=((u*v:Nat):Int):=wi64 zo zo;have t2:(((u*v:Nat):Int)).tdiv 16=((u*v/16:Nat):Int):=by rw [show (16:Int)=((16:Nat):Int) from rfl,jh zo,← j6]
  have t3:IntKind.i64.wrap (((u*v/16:Nat):Int))=((u*v/16:Nat):Int):=wi64 zo zo;rw [hu',hv',← xG,t1,t2,t3,wi64 zo zo];omega
 refine ⟨2+x.num.mag.length+x.den.mag.length+u*v/16*1024,?_,by omega,by omega⟩;unfold dN;rw [e3,e4,wi64 zo zo];omega
theorem Lx {n:Nat}{l:Ya}(hn:n+l.sum≤9223372036854775807)(h:bydF (n:Int) (l.map λ (x:Nat)=>(x:Int))=false):n≤1048576∨l=[]→n+l.sum≤1048576∨l=[]:=by
 induction l generalizing n with
 | nil=>exact λ _=>.inr rfl
 | cons x l ih =>
  intro _;simp only [xf] at hn;simp only [qT,bydF] at h;rw [wi64 zo zo] at h;split at h
  ·cases h
  ·rename_i h1;have h2:n+x≤1048576:=by
    rw [qJ] at h1;omega
   rw [show ((n:Int)+(x:Int))=((n+x:Nat):Int) from rfl] at h;rcases ih (n:=n+x) zo h (.inl h2) with h3|h3
   ·left;simp only [xf];omega
   ·subst h3;left;simp;omega
theorem QW {l:Ya}(hn:l.sum≤9223372036854775807)(h:bydF 0 (l.map λ (x:Nat)=>(x:Int))=false):l.sum≤1048576:=by
 rcases Lx (n:=0) zo h (.inl zd) with h|h
 ·omega
 ·subst h;decide
def RET (x:RE):As:=cat [NumA .u8 x.k,RFT x.p,RFT x.q]
theorem If :WkA (RET x) (REA x):=br (.cons (.refl _) (.cons ol (.cons ol .nil)))
theorem FK (x:RE):FreeA (RET x) (RET x):=bN (.cons (co _ _) (.cons (pC _) (.cons (pC _) .nil)))
theorem rZ:FreeA (RFA rf0) (RFA rf0):=bN (.cons (bN (.cons (ep _) (.cons mc .nil))) (.cons (bN (.cons (ep _) (.cons mc .nil))) .nil))
theorem ME {x y:RE}:(((x.k==y.k)&&decide (x.p=y.p))&&decide (x.q=y.q))=decide (x=y):=by
 obtain ⟨a,b,c⟩:=x;obtain ⟨d,e,f⟩:=y;by_cases h1:a=d <;> by_cases h2:b=e <;> by_cases h3:c=f <;> simp [h1,h2,h3]
theorem oq (x:RE)(hx:bdF x.p∧bdF x.q):Cn Tryz.prog 174 [(REA x).va] ((RET x).va):=by
 refine Cn.intro Tryz.func174 G zk nq (zy [(0,(REA x).va)] λ B w0 a U=>?_);refine qb<|zg [] [zpL 1 76 0 _,zpL 2 76 1 _] UU [] U (zW 0 G (zY G (Str.zero dE) o0)) (zz [] [O 1 76 _,O 2 76 _] λ a w U=>?_);refine zt<|zgd [[],[0],[],[2],[2,3],[],[5],[2,3,4,5,6],(Wm 8),(Wm 9)] [none,some (9,_)] [] (.adr 3 1 (.some 0) True::.v 4 _::.adr 5 1 (.some 1) True::(W6 6 (.adr 8 1 (.some 5) True::(Wb 9 [.sto 1])))) [] ac U (zO 0 G cR (zL 0 0 0 G lO (zO 0 G bL (zL 2 0 1 G ax (zQ G (fZ _ hx.1) (.o (vq 3 G)) (zO 0 G bZ (zL 5 0 2 G ax (zQ G (fZ _ hx.2) (.o (vq 6 G)) (zv G (aT (qs:=[(0,_),(1,_),(2,_)]) dE (.cons ⟨rfl,vq 1 rfl,rfl⟩ (.cons ⟨rfl,vq 4 rfl,rfl⟩ (.cons ⟨rfl,vq 7 rfl,rfl⟩ .nil)))) (zS 8 G dq o0)))))))))) zk zk zk zk (zz [] [O 1 76 _,O 2 76 _] λ a w U=>?_);refine aa<|qi<|al ?_ (au G U (zm 1 G) dq);exact aG
theorem pp (x y:RE)(hx:bdF x.p∧bdF x.q):Cn Tryz.prog 214 [(RET x).va,(REA y).va] (Bo (decide (x=y))):=by
 refine Cn.intro Tryz.func214 G zk nq (zy [(0,(RET x).va),(1,(REA y).va)] λ B w0 a U=>?_);refine qb<|zg [] [zpL 2 76 0 _,zpL 3 76 1 _] UC Ud U (zW 0 G (zW 1 G (zE G aE))) (zz U3 RZ ?_);refine ztA<|zgA UF [] (.adr 5 2 (.some 0) True::.v 6 _::.adr 7 3 (.some 0) True::(Wb 8 (.adr 11 2 (.some 1) (_=true)::.t 12 _::.adr 13 3 (.some 1) (_=true)::.t 14 _::.t 15 _::(W6 16 [.adr 18 2 (.some 5) (_=true),.t 19 _,.adr 20 3 (.some 5) (_=true),.t 21 _,.t 22 _,.v 23 _,.v 4 _])))) [.o 19] (zO 0 G cR (zL 0 0 0 G lO (zO 1 G cR (zL 2 1 0 G lO (zv G (bC (vq 1 G) (vq 3 G)) (zV 4 G (zC 5 0 G bL (zB 5 G (λ hg=>aB 6 G zk hg (lz0 0 G) (Sub.part 1 G G) ax) (zC 5 1 G bL (zB 5 G (λ hg=>aB 8 G zk hg (lz0 1 G) (Sub.part 1 G G) ax) (zB 5 G (λ hg=>be (gk _ _ hx.1) (.p (ae (vq 7 G) hg) (ae (vq 9 G) hg))) (zv G (bv (vq 5 G) (vq 10 G)) (zV 11 G (zC 12 0 G bZ (zB 12 G (λ hg=>aB 13 G zk hg (lz0 0 G) (Sub.part 2 G G) ax) (zC 12 1 G bZ (zB 12 G (λ hg=>aB 15 G zk hg (lz0 1 G) (Sub.part 2 G G) ax) (zB 12 G (λ hg=>be (gk _ _ hx.2) (.p (ae (vq 14 G) hg) (ae (vq 16 G) hg))) (zv G (bv (vq 12 G) (vq 17 G)) (zA 18 G o0)))))))))))))))))))) (zz U3 RZ λ a w U=>?_);refine aa<|qi<|al ?_ (am G U (zm 0 G));exact ba (qq Bo ME)
def LsQ (q:Nat→Prop)(E m:Nat)(D:List TypeId)(Xs:List As):VA where
 p B v w:=(∀ A∈Xs,A.n=m)∧(∀ A∈Xs,∀ T∈A.deps,T∈D)∧(∃ ds,(cat Xs).p B ds w∧w.ownsRow B E m v Xs.length ds∧(cbl ds).Nodup∧∀ g∈cbl ds,q g)∧∀ g,v.ownBlock=some g→q g
 deps:=E::D
 cg:=λ B v w w' hg ⟨h1,h2,⟨ds,h3,h4,h5⟩,h6⟩=>⟨h1,h2,⟨ds,(cat Xs).cg _ _ _ _ hg h3,cv h4 λ g c _ h=>hg.heap h,h5⟩,h6⟩
 wr:=by
  rintro B v w w' g c T fz hgc hT hB hW ⟨h1,h2,⟨ds,h3,h4,h5⟩,h6⟩;simp only [qt,not_or] at hT;refine ⟨h1,h2,⟨ds,(cat Xs).wr _ _ _ _ _ _ _ _ hgc (λ hh=>?_) hB hW h3,cv h4 λ g' c' _ h7=>?_,h5⟩,h6⟩
  ·obtain ⟨A,hA,hd⟩:=jD.1 hh;exact hT.2 (h2 A hA T hd)
  ·rw [hW.block g' (λ e=>?_)]
   ·exact h7
   ·subst e;rw [hgc] at h7;injection h7 with h7;injection h7 with _ h7 _;exact hT.1 h7
abbrev LsN (E m:Nat)(D:List TypeId)(Xs:List As):VA:=LsQ (λ _=>True) E m D Xs
abbrev LsG (lo E m:Nat)(D:List TypeId)(Xs:List As):VA:=LsQ (λ g=>lo≤g) E m D Xs
abbrev LsI (lo hi E m:Nat)(D:List TypeId)(Xs:List As):VA:=LsQ (λ g=>lo≤g∧g<hi) E m D Xs
theorem K9 {q:Nat→Prop}{E m:Nat}{Xs:Yb}:Wk (LsQ q E m D Xs) (SlA E D Xs).va:=λ B v w ⟨h1,h2,⟨ds,h3,h4,_⟩,_⟩=>ip (b:=B) B v w ⟨h1,h2,ds,h3,h4⟩
theorem KS {q:Nat→Prop}{E m:Nat}{Xs:Yb}(hX:∀ A∈Xs,FreeA A A):Free (LsQ q E m D Xs) (LsQ q E m D Xs):=λ B B' v w hB ⟨h1,h2,⟨ds,h3,h4,h5⟩,h6⟩=>by
 refine ⟨h1,h2,⟨ds,wx hB hX h3,⟨h4.1,?_⟩,h5⟩,h6⟩;rcases h4.2 with h|⟨g,cap,cur,e1,e2,e3⟩
 ·exact .inl h
 ·exact .inr ⟨g,cap,cur,e1,qg hB e2,e3⟩
theorem Hj {E m:Nat}{Xs:Yb}(hX:∀ A∈Xs,NewA A){q:Nat→Prop}(h:(LsQ q E m D Xs).p B v w):(LsQ (λ g=>q g∧B≤g∧g<w.heap.size) E m D Xs).p B v w:=by
 obtain ⟨h1,h2,⟨ds,h3,h4,h5,h5'⟩,h6⟩:=h;refine ⟨h1,h2,⟨ds,h3,h4,h5,λ g hg=>⟨h5' g hg,?_⟩⟩,λ g hg=>⟨h6 g hg,?_⟩⟩
 ·obtain ⟨ps,rfl,hp⟩:=h3;exact pb hX hp g hg
 ·obtain ⟨q1,c,fz,q2⟩:=fb h4 g hg;exact ⟨q1,(Array.getElem?_eq_some_iff.1 q2).1⟩
theorem Hr {q q':Nat→Prop}(h:∀ g,q g→q' g){E m:Nat}{Xs:Yb}:Wk (LsQ q E m D Xs) (LsQ q' E m D Xs):=λ B v w ⟨h1,h2,⟨ds,h3,h4,h5,h5'⟩,h6⟩=>⟨h1,h2,⟨ds,h3,h4,h5,λ g hg=>h _ (h5' g hg)⟩,λ g hg=>h _ (h6 g hg)⟩
theorem Kb {q:Nat→Prop}{E m:Nat}{Xs:Yb}(hX:∀ A∈Xs,FreeA A A)(hN:∀ A∈Xs,NewA A){B h lo:Nat}(hB:B≤h)(hlo:lo≤h)(hp:(LsQ q E m D Xs).p h v w):(LsG lo E m D Xs).p B v w :=
 Hr (λ g hg=>qg hlo hg.2.1) _ _ _ (KS hX _ _ _ _ hB (Hj hN hp))
theorem Hq {lo:Nat}{E m:Nat}{Xs:Yb}(hX:∀ A∈Xs,NewA A)(h:(LsG lo E m D Xs).p B v w):(LsI lo w.heap.size E m D Xs).p B v w:=Hr (λ g hg=>⟨hg.1,hg.2.2⟩) _ _ _ (Hj hX h)
def lsP {α:Type}(z:α)(AP:α→(Nat→Value)→As)(ms:Nat→Nat→Value)(xs:List α):List As:=(List.range xs.length).map λ j=>AP (xs.getD j z) (ms j)
def lsK {α:Type}(z:α)(kx:α→(Nat→Value)→KL)(ms:Nat→Nat→Value)(xs:List α)(i:Nat):KL:=((List.range i).map λ j=>kx (xs.getD j z) (ms j)).flatten
theorem Qh {α:Type}{z:α}{kx:α→(Yy)→KL}{ms:Nat→Nat→Yn}{xs:List α}:lsK z kx ms xs 0=[]:=rfl
theorem rM {α:Type}{z:α}{kx:α→(Yy)→KL}{ms:Nat→Nat→Yn}{xs:List α}{i:Nat}:lsK z kx ms xs (i+1)=lsK z kx ms xs i++kx (xs.getD i z) (ms i):=by
 unfold lsK;rw [List.range_succ,zD,jn];simp
theorem pi {α:Type}{z:α}{AP:α→(Yy)→As}{ms:Nat→Nat→Yn}{xs:List α}:(lsP z AP ms xs).length=xs.length:=by unfold lsP;simp
theorem Nw {α:Type}{z:α}{AP:α→(Yy)→As}{ms:Nat→Nat→Yn}{xs:List α}{i:Nat}(h:i<xs.length):(lsP z AP ms xs)[i]?=some (AP (xs.getD i z) (ms i)):=by
 unfold lsP;rw [List.getElem?_map,List.getElem?_range h]
 rfl
theorem t9 {α:Type}{z:α}{AP:α→(Yy)→As}{ms:Nat→Nat→Yn}{xs:List α}{p:As→Prop}(h:∀ x m,p (AP x m)):∀ A∈lsP z AP ms xs,p A:=λ A hA=>by
 obtain ⟨j,_,rfl⟩:=qr.1 hA;exact h _ _
theorem uK {α:Type}{z:α}{AN:α→As}{AP:α→(Yy)→As}{kx:α→(Yy)→KL}(hs:∀ {x:α}{B:Nat}{cs:Yl}{w:Yi},(AN x).p B cs w→∃ m,(AP x m).p B cs w∧cbl cs=kbl (kx x m)∧OkK (kx x m)){B:Nat}{w:Yi} :
  ∀ {xs:List α}{ds:List Value},(cat (xs.map AN)).p B ds w→∃ ms,(cat (lsP z AP ms xs)).p B ds w∧cbl ds=kbl (lsK z kx ms xs xs.length)∧OkK (lsK z kx ms xs xs.length)
 | [],ds,⟨ps,e,hp⟩=>by
  cases hp;subst e;exact ⟨λ _ _=>undef,⟨[],rfl,.nil⟩,rfl,λ p hp=>by cases hp⟩
 | x::xs,ds,⟨ps,e,hp⟩=>by
  cases hp with
  | @cons _ c _ ps h1 hp =>
   obtain ⟨m,p1,e1,o1⟩:=hs h1;obtain ⟨ms,⟨qs,e2,hq⟩,e3,o3⟩:=uK hs (xs:=xs) (ds:=ps.flatten) ⟨ps,rfl,hp⟩;have hP:lsP z AP (λ j=>match j with|0=>m|j+1=>ms j) (x::xs)=AP x m::lsP z AP ms xs:=by
    unfold lsP;rw [zi,List.range_succ_eq_map,qT,xE]
    rfl
   have hK:lsK z kx (λ j=>match j with|0=>m|j+1=>ms j) (x::xs) (x::xs).length=kx x m++lsK z kx ms xs xs.length:=by
    unfold lsK;rw [zi,List.range_succ_eq_map,qT,xE,za]
    rfl
   refine ⟨λ j=>match j with|0=>m|j+1=>ms j,?_,?_,?_⟩
   ·rw [hP];exact ⟨c::qs,by rw [e,za,za,e2],.cons p1 hq⟩
   ·rw [hK,e,za,dB,e1,e3,kbl_app]
   ·rw [hK];exact oW o1 o3
def LsP (E m:Nat)(D:List TypeId)(l:List As)(v:Value):VA where
 p B u w:=u=v∧(OwnR B E m D l).p B u w
 deps:=E::D
 cg:=λ B u w w' hg h=>⟨h.1,(OwnR B E m D l).cg _ _ _ _ hg h.2⟩
 wr:=λ B u w w' g c T fz h1 h2 h3 h4 h=>⟨h.1,(OwnR B E m D l).wr _ _ _ _ _ _ _ _ h1 h2 h3 h4 h.2⟩
theorem Nu {l:Yb}(hn:l.length=n):Wk (LsP E m D l v) (OwV E m v n):=λ B u w ⟨h,_,_,ds,_,h4⟩=>by
 subst h hn;exact ⟨rfl,ds,h4⟩
theorem Hp :Wk (LsP E m D l v) (SlA E D l).va:=λ B u w ⟨_,h⟩=>ip _ _ _ h
theorem St.nameLs {α:Type}{z:α}{AN:α→As}{AP:α→(Yy)→As}{kx:α→(Yy)→KL}(hs:∀ {x:α}{B:Nat}{cs:Yl}{w:Yi},(AN x).p B cs w→∃ m,(AP x m).p B cs w∧cbl cs=kbl (kx x m)∧OkK (kx x m))
  {B N:Nat}{w0:Bs}{Γ:List (Nat × VA)}{Λ:List Lc}{a:Act}{w:World}{s E m:Nat}{D:List TypeId}{q:Nat→Prop}{xs:List α} (hn:∀ x m',(AP x m').n=m) (hd:∀ x m',∀ T∈(AP x m').deps,T∈D) (h:St B w0 N Γ Λ a w) (k:Nat) (hm:Γ[k]?=some (s,LsQ q E m D (xs.map AN))) :
  ∃ v ms,(kbl (lsK z kx ms xs xs.length)).Nodup∧(∀ g∈kbl (lsK z kx ms xs xs.length),q g)∧OkK (lsK z kx ms xs xs.length)∧(∀ g,v.ownBlock=some g→q g)∧St B w0 N (Γ.set k (s,LsP E m D (lsP z AP ms xs) v)) Λ a w:=by
 obtain ⟨h1,h2,⟨ds,h3,h4,h5,h6⟩,h7⟩:=h.getG k hm;obtain ⟨ms,p1,e1,o1⟩:=uK (z:=z) hs h3;refine ⟨a.eval (.tmp s),ms,by rw [← e1];exact h5,λ g hg=>h6 g (by rw [e1];exact hg),o1,h7,h.setG k hm λ _=>⟨rfl,t9 hn,t9 hd,ds,p1,?_⟩⟩;rw [pi];rw [qd] at h4;exact h4
def reO:RE:=⟨0,rf0,rf0⟩
def REN (x:RE):As:=cat [NumA .u8 x.k,RFN x.p,RFN x.q]
theorem mM :NewA (REN x):=pc λ A hA=>by
 simp at hA;rcases hA with rfl|rfl|rfl
 ·exact JW _ _
 ·exact Cb
 ·exact Cb
theorem pD :FreeA (REN x) (REN x):=bN (.cons (co _ _) (.cons w9 (.cons w9 .nil)))
theorem Ja :WkA (REN x) (REA x):=br (.cons (.refl _) (.cons Bq (.cons Bq .nil)))
theorem pT (h:(NumA k n).p B cs w):cbl cs=[]:=by
 have h':cs=[.int k n]:=h;subst h'
 rfl
theorem sg (h:(REN x).p B cs w):∃ m:Yy,(EleP x m).p B cs w∧cbl cs=kbl (ke x m)∧OkK (ke x m):=by
 obtain ⟨ps,rfl,hp⟩:=h;cases hp with
 | @cons _ c0 _ _ h0 hp=>cases hp with
  | @cons _ c1 _ _ h1 hp=>cases hp with
   | @cons _ c2 _ _ h2 hp =>
    cases hp;obtain ⟨m1,m2,p1,e1,o1⟩:=o8 h1;obtain ⟨m3,m4,p2,e2,o2⟩:=o8 h2;refine ⟨nm4 m1 m2 m3 m4,⟨[c0,c1,c2],rfl,.cons h0 (.cons p1 (.cons p2 .nil))⟩,?_,oW o1 o2⟩;have:([c0,c1,c2]:List (List Value)).flatten=c0++(c1++c2):=by simp
    rw [this,dB,dB,pT h0,e1,e2];exact kbl_app.symm
theorem wF (x:RE)(m:Yy):∀ T∈(EleP x m).deps,T∈[U32]:=λ T hT=>by
 have h:=qf.1 (show ((EleP x m).deps.all λ T=>[U32].contains T)=true by kernel_rfl) T hT;simpa using h
theorem wM {A:As}(hA:∀ B cs w,A.p B cs w→cbl cs=[])(h:WkA (cat l) (DisA (cat l'))):WkA (cat (A::l)) (DisA (cat (A::l'))):=by
 refine ⟨?_,rfl,λ B cs w ⟨ps,e,hp⟩=>?_⟩
 ·have h1:=h.1;show ((A::l').map (·.n)).sum=((A::l).map (·.n)).sum;rw [qT,xf,qT,xf];exact qq (A.n + ·) h1
 ·cases hp with
  | @cons _ c _ ps h1 hp =>
   obtain ⟨⟨qs,e2,hq⟩,hn⟩:=h.2.2 B ps.flatten w ⟨ps,rfl,hp⟩;subst e;refine ⟨⟨c::qs,by rw [za,za,e2],.cons h1 hq⟩,?_⟩;rw [za,dB,hA _ _ _ h1];exact hn
theorem di {ms:Nat→Nat→Yn}{xs:List RE}:∀ {i:Nat},(lsK reO ke ms xs i).length=4*i
 | 0=>rfl
 | i+1=>by rw [rM,qv,di];simp only [qv,zi,xp];omega
theorem oO {ms:Nat→Nat→Yn}{xs:List RE}{K:KL}{i:Nat}(hi:i<xs.length)(h:(kbl (K++lsK reO ke ms xs xs.length)).Nodup):(kbl ((K++lsK reO ke ms xs i)++ke (xs.getD i reO) (ms i))).Nodup:=by
 have key:∀ d,i+1+d=xs.length→(kbl (K++lsK reO ke ms xs (i+1))).Nodup:=λ d hd=>by
  have:∀ d n,(kbl (K++lsK reO ke ms xs (n+d))).Nodup→(kbl (K++lsK reO ke ms xs n)).Nodup:=λ d=>by
   induction d with
   | zero=>exact λ n h=>h
   | succ d ih=>exact λ n h=>ih n (by rw [← jo,rM,← qQ] at h;exact Cd h)
  exact this d _ (by rw [hd];exact h)
 have:=key (xs.length-(i+1)) zo;rwa [rM,← qQ] at this
theorem rS {ms:Nat→Nat→Yn}{xs:List RE}(K:KL)(Rs Es:VL)(hs:(kbl (K++lsK reO ke ms xs xs.length)).Nodup)(hv:∀ p∈Es,∀ g,p.1.ownBlock=some g→v.ownBlock≠some g)(hl:K.length+4*xs.length+Rs.length+Es.length≤999900):CK Tryz.prog 13 60 [60,137,135] (BkF (K) Rs Es) (BkF (K++lsK reO ke ms xs xs.length) Rs (Es++[(v,xs.length)])) [LsP 76 9 [U32] (lsP reO EleP ms xs) v] (Tu []):=by
 refine CK.intro Tryz.func13 G zk nq zk (λ B g w0 a hrm U=>?_);have U:=zn [(0,EqV ((ptrH).f g)),(1,LsP 76 9 [U32] (lsP reO EleP ms xs) v)] [⟨0,60,ptrH,BkF (K) Rs Es⟩] U;refine qb<|qb<|zg U6 [] WR WS U (zE G ab) (zz WT RL λ a w U=>?_);refine aa<|ql ?_;have U:=St.sel U [0,1,2];refine wp_loop_ghost (λ n a w=>∃ (i:Nat),n+i=xs.length∧St B w0 20 [(0,EqV (ptrH.f g)),(1,LsP 76 9 [U32] (lsP reO EleP ms xs) v),(4,In (i:Nat))] [⟨0,60,ptrH,BkF (K++lsK reO ke ms xs i) Rs Es⟩] a w) (xs.length) ?_ ?_
 ·exact ⟨0,by omega,St.cvA U 0 G (qq (λ k=>BkF k Rs Es) (show K=K++lsK reO ke ms xs 0 by rw [Qh,zX]))⟩
 intro n a w hI;obtain ⟨i,hn,U⟩:=hI;refine qb<|qb<|zg U6 [] (Ww 5) WV U (zM 2 G (zM 1 G (zv G (bg zq (has_wk' (vq 1 G) Hp)) (zv G (aN (vq 0 G) (vq 2 G)) o0)))) (zz (Wf 0 1 4 8) RL λ a w U=>?_);refine zJ 3 U G (λ hb0=>?_) (λ hb0=>?_)
 ·have hi:i<xs.length:=by have:=qu hb0;rw [pi] at this;omega
  refine qk<|zt<|ql<|bS (sp:=[.v 11 _,.v 12 _,.v 13 _,.v 14 _,.v 15 _,.v 16 VT]) 5 1 99 5 OneC [.g 0,.g 1,.g 2,.o 0,.o 4] U (zM 0 G (zM 1 G (zM 2 G (zv G (bB mx (t9 λ _ _=>rfl) (has_wk' (vq 1 G) Hp) (vq 2 G) (Nw hi)) (zv G (ao (vq 3 G) dq) o0))))) G zd zk zk (zz (W8 0 1 4 11 15) RL λ a w U=>?_);rw [show List.range' 5 1=[5] from rfl];rw [qy];refine ew (A1:=BkF ((K++lsK reO ke ms xs i)++ke (xs.getD i reO) (ms i)) Rs Es) (xs:=[.tmp 15]) [0,1,2] [4] 0 G U (CK.wkT (CC (xs.getD i reO) (ms i) (K++lsK reO ke ms xs i) Rs Es (oO hi hs) (by rw [qv,di];omega)) zd) G (xF (b:=ptr g) (U.vals _ (zm 3 G)) (jO (U.vals _ (zm 0 G)))) (.cons ⟨_,rfl,rfl⟩ .nil) G hrm zd zk zk zk zk (λ a w U=>?_);refine bU ?_;have U:=zn (Wf 16 0 1 4) [⟨0,60,ptrH,BkF ((K++lsK reO ke ms xs i)++ke (xs.getD i reO) (ms i)) Rs Es⟩] U;refine ak ?_;refine aa<|zg U6 [] (W6 9 [.v 4 _]) WQ U (zM 3 G (zv G (aL (vq 0 G) ab (aW zo)) (zA 1 G o0))) (zz WT RL λ a w U=>?_);refine aa ?_;have U:=St.sel U [0,1,2];exact ⟨n-1,by omega,i+1,by omega,St.cvA U 0 G (qq (λ k=>BkF k Rs Es) (show (K++lsK reO ke ms xs i)++ke (xs.getD i reO) (ms i)=K++lsK reO ke ms xs (i+1) by rw [rM,qQ]))⟩
 ·obtain rfl:i=xs.length:=by have:=qw hb0;rw [pi] at this;omega
  refine qM<|ai<|ai<|az<|aa<|bS (sp:=[.v 17 _,.v 18 _,.v 19 VT]) 2 1 99 2 OneC [.g 0,.g 1,.o 0,.o 1] U (zM 0 G (zv G (aq (has_wk' (gq 1 G) (Nu pi))) o0)) G zd zk zk (zz (Wf 0 1 17 18) RL λ a w U=>?_);rw [show List.range' 2 1=[2] from rfl];rw [qy];refine ew (A1:=BkF (K++lsK reO ke ms xs xs.length) Rs (Es++[(v,xs.length)])) (xs:=[.tmp 18]) [0,1] [3] 0 G U (CK.wkT (Ft (K++lsK reO ke ms xs xs.length) Rs Es v xs.length hv (by rw [qv,di];omega)) zd) G (xF (b:=ptr g) (U.vals _ (zm 2 G)) (jO (U.vals _ (zm 0 G)))) (.cons ⟨_,rfl,rfl⟩ .nil) G hrm zd zk zk zk zk (λ a w U=>?_);refine bU ?_;have U:=zn (Wa 19 0 1) [⟨0,60,ptrH,BkF (K++lsK reO ke ms xs xs.length) Rs (Es++[(v,xs.length)])⟩] U;refine dg<|ik U (zm 1 G) (zm 0 G) ?_;exact aP (rs:=[]) G U .nil zd
theorem Gp {l l':Yb}(h:All2 WkA l l'){ds:Yl}(hp:(cat l).p B ds w):(cat l').p B ds w:=by
 obtain ⟨ps,e,hp⟩:=hp;refine ⟨ps,e,?_⟩;clear e
 induction h generalizing ps with
 | nil=>cases hp;exact .nil
 | cons h1 _ ih=>cases hp with|cons p1 p2=>exact .cons (h1.2.2 _ _ _ p1) (ih _ p2)
theorem E6 (h:All2 WkA l l'):l'.length=l.length:=by
 induction h with
 | nil=>rfl
 | cons _ _ ih=>simp [ih]
theorem LI (h:All2 WkA l l')(hn:∀ A∈l,A.n=m):∀ A∈l',A.n=m:=by
 induction h with
 | nil=>exact λ A hA=>by cases hA
 | @cons X X' l l' h1 _ ih =>
  intro A hA;rcases qt.1 hA with rfl|hA
  ·rw [h1.1];exact hn X (by simp)
  ·exact ih (λ A hA=>hn A (by simp [hA])) A hA
theorem Ka {q:Nat→Prop}{E m:Nat}{l l':Yb}(h:All2 WkA l l')(hd:∀ A∈l',∀ T∈A.deps,T∈D):Wk (LsQ q E m D l) (LsQ q E m D l'):=λ B v w ⟨h1,h2,⟨ds,h3,h4,h5⟩,h6⟩ =>
 ⟨LI h h1,hd,⟨ds,Gp h h3,by rw [E6 h];exact h4,h5⟩,h6⟩
theorem I8:WkA (cat ZBk) (BkF [] [] []):=⟨rfl,rfl,λ B cs w ⟨ps,e,hp⟩=>by
 refine ⟨⟨0,.slice none 0 0,[],.slice none 0 0,[],.slice none 0 0,[]⟩,.slice none 0 0,[],⟨rfl,rfl,⟨rfl,λ s hs=>by cases hs⟩,⟨rfl,λ s hs=>by cases hs⟩,⟨rfl,λ s hs=>by cases hs⟩⟩,ps,e,?_⟩;have hk:∀ {H E m:Nat}{c:List Value},(EqS (.slice none 0 0)).p B c w→(HkA H E m (.slice none 0 0) []).p B c w:=λ {H E m c} h=>⟨h.1,World.ownsRow_nil ..,(λ s hs=>by cases hs),λ i j s t h=>by cases h⟩;cases hp with
 | cons h1 hp=>cases hp with
  | cons h2 hp=>cases hp with
   | cons h3 hp =>
    refine .cons h1 (.cons ⟨h2.1,World.ownsRow_nil ..,(λ s hs=>by cases hs),λ i j s t h=>by cases h⟩ (.cons (hk h3) ?_))
    iterate 5 (cases hp;rename_i h3 hp;refine .cons h3 ?_)
    cases hp;rename_i h3 hp;refine .cons (hk h3) ?_;cases hp;rename_i h3 hp;refine .cons (hk h3) ?_
    iterate 7 (cases hp;rename_i h3 hp;refine .cons h3 ?_)
    cases hp;exact .nil⟩
theorem Qj {x:RE}(h:bdF x.p∧bdF x.q):LnK (ke x m):=pm (Nz h.1) (Nz h.2)
theorem Ht {ms:Nat→Nat→Yn}{xs:List RE}(h:∀ x∈xs,bdF x.p∧bdF x.q):LnK (lsK reO ke ms xs xs.length):=by
 have key:∀ i,i≤xs.length→LnK (lsK reO ke ms xs i):=λ i=>by
  induction i with
  | zero=>exact λ _ p hp=>by cases hp
  | succ i ih =>
   intro hi;rw [rM];refine pm (ih zo) (Qj (h _ ?_));rw [List.getD_eq_getElem?_getD,List.getElem?_eq_getElem zo];exact qh _
 exact key _ (qj _)
theorem Cl {q:Nat→Prop}{xs:List RE}:Wk (LsQ q E m [U32] (xs.map REN)) (SlA E [U32] (xs.map REA)).va:=cB K9 (AU (iu λ x=>Ja) (cq (p:=λ A=>∀ T∈A.deps,T∈[U32]) λ x=>fe zk)).va
section
variable {B N:Nat}{w0:Bs}{Γ:List (Nat × VA)}{Λ:List Lc}{a:Act}{w:World}
end
theorem Hi {q:Nat→Prop}:Wk (EqV (.slice none 0 0)) (LsQ q E m D []):=λ B v w h=>by
 have h':v=.slice none 0 0:=h;subst h';exact ⟨λ A hA=>(by cases hA),λ A hA=>(by cases hA),⟨[],⟨[],rfl,.nil⟩,World.ownsRow_nil ..,jg,λ g hg=>(by cases hg)⟩,λ g hg=>by cases hg⟩
section
open Rg
variable {P:Program}{Q:Exit→Act→World→Prop}{R:Rg}{B i:Nat}{w0:Bs}
theorem rD {f h s E m:Nat}{Xs:Yb}{C:As}{pre pre':Yc}{xs:Yr}{at_:Yq}(hc:Cn P f pre' (Tu [LsN E m D Xs,C.va]))(hN:∀ A∈Xs,NewA A)(hF:∀ A∈Xs,FreeA A A)(hfC:FreeA C C)(hup:All2 Up pre pre')(hx:HasL R B w0 i xs pre)(hs:Has R B w0 i (.tmp s) (SzV h)):Wv P Q R B w0 i (.call ⟨.value (.func f),xs.toArray,at_⟩) (Tu [LsG h E m D Xs,C.va]):=by
 intro d T ps af gd a w av K hK;obtain ⟨⟨fn,hf,hn,hb⟩,hcall⟩:=hc;have hrun:(execOp a.eval ⟨some d,.call ⟨.value (.func f),xs.toArray,at_⟩,T,ps,af,gd⟩).run P w=.ok (.enter f (xs.map a.eval).toArray) w:=by
  simp only [execOp,resolve,Act.eval,Deferred.ofValue,Sem.run_bind,Sem.run_pure,Result.andThen_ok,invoke,bi hf hn hb];simp
 have hsz:h≤w.heap.size:=hs a w av;unfold Oper.wp;rw [hrun];refine (hcall w.heap.size w _ (qj _) (DZ hup hx av)).mono ?_;rintro e w' ⟨v,rfl,⟨vs,hv,h2⟩,hg⟩;cases h2 with
 | @cons _ x _ vs h2 h3=>cases h3 with
  | @cons _ y _ vs h3 h4 =>
   cases h4;obtain ⟨ds,hq,hsq⟩:=h3;exact hK v w' hg ⟨[x,y],hv,.cons (Kb hF hN (Av.bw av) hsz h2) (.cons ⟨ds,hfC.2.2 _ _ _ _ (Av.bw av) hq,hsq⟩ .nil)⟩
end
def byL (s:ByteArray):List Nat:=s.data.toList.map UInt8.toNat
theorem pV (s:ByteArray):(byL s).length=s.size:=by unfold byL;rw [qd];rfl
def BbA (n:Nat):As:=NumA .u8 (n:Int)
def bOk (b:Nat):Bool := !(((decide ((b:Int)<97) || decide ((b:Int)>122))&&(decide ((b:Int)<48) || decide ((b:Int)>57)))&&((b:Int) != 45))
def nmH (s:ByteArray):Bool:=((decide ((s.size:Int)<1) || decide ((s.size:Int)>32)) || decide ((((byL s).getD 0 0:Nat):Int)<97)) || decide ((((byL s).getD 0 0:Nat):Int)>122)
def namF (s:ByteArray):Bool:=if nmH s then false else (byL s).all bOk
theorem st_0 {s:ByteArray}(h:(decide ((s.size:Int)<1) || decide ((s.size:Int)>32))=false):s[0]?=some (s.data.toList.getD 0 0)∧((s.data.toList.getD 0 0).toNat:Nat)=(byL s).getD 0 0:=by
 rw [qO,qn] at h;have h0:0<s.size:=by omega
 have h1:0<s.data.toList.length:=by simpa using h0
 constructor
 ·rw [getElem?_pos s 0 h0];simp only [Option.some.injEq,List.getD];rw [List.getElem?_eq_getElem h1];simp [ByteArray.getElem_eq_getElem_data]
 ·unfold byL;simp only [List.getD];rw [List.getElem?_eq_getElem h1,List.getElem?_eq_getElem (by simpa using h1)];simp
theorem nm_1 {a b:Bool}(h:(a || b)=false):a=false:=by rw [qO] at h;exact h.1
theorem by_0 (s:ByteArray):(s.data.toList.getD 0 0).toNat=(byL s).getD 0 0:=by
 unfold byL;cases s.data.toList <;> rfl
theorem nm_y {s:ByteArray}(h:(((decide ((s.size:Int)<1) || decide ((s.size:Int)>32)) || decide ((((s.data.toList.getD 0 0).toNat:Nat):Int)<97)) || decide ((((s.data.toList.getD 0 0).toNat:Nat):Int)>122))=b):nmH s=b:=by
 unfold nmH;rw [← by_0];exact h
theorem JS (h:nmH s=false):s.size≤32:=by
 unfold nmH at h;simp only [qO,qn] at h;omega
section
open Rg
variable {P:Program}{Q:Exit→Act→World→Prop}{R:Rg}{B i:Nat}{w0:Bs}
theorem gg {S:Yh}{s:ByteArray}(hS:P.underlying S=some .string)(hx:Has R B w0 i x (EqV (.string s))):Wv P Q R B w0 i (.call ⟨.builtin .len,#[x],#[S]⟩) (In (s.size:Nat)) :=
 bk λ d T ps af gd a w av=>by
  refine ⟨.int .i64 (s.size:Nat),w,?_,Grow.refl w,bV _ _ _ _⟩;have hv':a.eval x=.string s:=hx a w av;simp [execOp,resolve,invoke,builtin,hv',run_len_string _ _ _ _ hS,goInt]
theorem Jm {S T E:Yh}(hs:P.underlying S=some .string)(hd:P.underlying T=some (.slice E))(he:P.underlying E=some (.int .u8))(hx:Has R B w0 i x (EqV (.string s)))(hl:s.size≤4096):Wv P Q R B w0 i (.convert S T x) (SlA E [] ((byL s).map BbA)).va :=
 bk λ d T' ps af gd a w av=>by
  have e1:a.eval x=.string s:=hx a w av;refine ⟨.slice (some ⟨w.heap.size,0,none⟩) s.size (grownCap w s.size 0 E),w.drew.alloc (.cells (bytesRow s (grownCap w s.size 0 E)) E ((bytesRow s (grownCap w s.size 0 E)).size,(bytesRow s (grownCap w s.size 0 E)).size+1)),?_,(Grow.drew w).trans (Grow.alloc w.drew _),?_⟩
  ·simp [execOp,e1,run_bytes_of_string w S T E s hs hd he]
  ·have hcg:=grownCap_ge w s.size 0 E;have hcm:=grownCap_le_maxLen w s.size 0 E (by unfold maxLen;omega);have hlen:((byL s).map BbA).length=s.size:=by rw [qd,pV]
   have hcell:∀ j (hj:j<s.data.size),(w.drew.alloc (.cells (bytesRow s (grownCap w s.size 0 E)) E ((bytesRow s (grownCap w s.size 0 E)).size,(bytesRow s (grownCap w s.size 0 E)).size+1))).cell? ⟨w.heap.size,0+j,none⟩=some (.int .u8 (s.data[j].toNat:Int)):=λ j hj=>by
    rw [qV];exact (World.cell?_alloc_mark w.drew _ E _ j).trans (bytesRow_at s _ j hj)
   refine ⟨[.slice (some ⟨w.heap.size,0,none⟩) s.size (grownCap w s.size 0 E)],⟨λ A hA=>?_,some ⟨w.heap.size,0,none⟩,grownCap w s.size 0 E,(byL s).map λ (n:Nat)=>Value.int .u8 (n:Int),?_,by rw [hlen];exact hcg,hcm,?_,λ _=>⟨w.heap.size,0,rfl,?_,?_,λ j v hv=>?_⟩⟩,rfl⟩
   ·obtain ⟨n,_,rfl⟩:=qr.1 hA;intro T hT;cases hT
   ·rw [hlen]
   ·refine ⟨(byL s).map λ (n:Nat)=>[Value.int .u8 (n:Int)],?_,?_⟩
    ·induction byL s with
     | nil=>rfl
     | cons y l ih=>rw [qT,qT,ih,za];rfl
    ·induction byL s with
     | nil=>exact .nil
     | cons y l ih=>exact .cons rfl ih
   ·show w.heap.size<(w.heap.push _).size;simp
   ·refine .inr ⟨bytesRow s (grownCap w s.size 0 E),((bytesRow s (grownCap w s.size 0 E)).size,(bytesRow s (grownCap w s.size 0 E)).size+1),?_⟩;show (w.heap.push _)[w.heap.size]?=_;simp
   ·have hj:j<s.data.size:=by
     have:=(List.getElem?_eq_some_iff.1 hv).1;rw [qd,pV] at this;exact this
    rw [hcell j hj];unfold byL at hv;rw [xE,List.getElem?_map,List.getElem?_eq_getElem (by simpa using hj)] at hv;simpa using hv
end
theorem JX (s:ByteArray):Cn Tryz.prog 102 [EqV (.string s)] (Bo (namF s)):=by
 refine Cn.intro Tryz.func102 G zk nq (zy [(0,EqV (.string s))] λ B w0 a U=>?_);refine qb<|zh UA Rd U (zE G aE) (zz Re [] ?_);refine ztA<|zsA<|zhA (Ww 5 (.f 9 _::.f 10 _::.f 11 _::(W6 12 (.f 14 _::.f 15 _::.f 16 _::(W6 17 [.f 19 _,.f 20 _,.f 21 _,.v 22 _]))))) (We [.o 17]) (zM 0 G (zv G (gg zk (vq 0 G)) (zv G (aN (vq 1 G) ab) (zV 2 G (zB 3 G (λ hg=>aq (gq 0 G)) (zB 3 G (λ hg=>gg zk (ae (vq 4 G) hg)) (zB 3 G (λ hg=>cL (ae (vq 5 G) hg) ab) (zv G (r_or (vq 3 G) (vq 6 G)) (zV 7 G (zB 8 G (λ hg=>aq (gq 0 G)) (zB 8 G (λ hg=>dy zk (ae (vq 9 G) hg) ab (st_0 hg).1) (zB 8 G (λ hg=>aN (ae (vq 10 G) hg) ab) (zv G (r_or (vq 8 G) (vq 11 G)) (zV 12 G (zB 13 G (λ hg=>aq (gq 0 G)) (zB 13 G (λ hg=>dy zk (ae (vq 14 G) hg) ab (st_0 (nm_1 hg)).1) (zB 13 G (λ hg=>cL (ae (vq 15 G) hg) ab) (zv G (r_or (vq 13 G) (vq 16 G)) o0)))))))))))))))))) (zz (Wa 0 2 22) [] λ a w U=>?_);refine zJ 2 U G (λ hb0=>?_) (λ hb0=>?_)
 ·have hd:nmH s=true:=nm_y hb0;refine qb<|zh UA Rd U (zE G aE) (zz Re [] λ a w U=>?_);refine aa<|qi<|aj ?_;refine al ?_ (am G U (zm 1 G));rw [namF,qD hd];exact aG
 ·have hd:nmH s=false:=nm_y hb0;have hsz:=JS hd;have hbl:=pV s;refine qk<|zt<|qb<|zh (Ww 23) [.g 1,.o 1,.o 2,.o 3] U (zM 0 G (zv G (Jm zk vN zk (vq 0 G) zo) (zv G (bg vN (vq 1 G)) (zv G (aq ab) o0)))) (zz (Wf 2 24 25 26) [] λ a w U=>?_);refine aa<|ql ?_;have U:=St.sel U [1,2,3];refine wp_loop_ghost (λ n a w=>∃ j:Nat,(n+j=(byL s).length∧((byL s).take j).all bOk=true)∧St B w0 49 [(24,(SlA 5 [] ((byL s).map BbA)).va),(25,In ((byL s).length:Nat)),(26,In (j:Nat))] [] a w) ((byL s).length) ?_ ?_
  ·exact ⟨0,⟨by omega,rfl⟩,by rw [qd] at U;exact U⟩
  intro n a w hI;obtain ⟨j,⟨hn,hno⟩,U⟩:=hI;refine qb<|zh [.v 27 _] WZ U (zv G (aN (gq 2 G) (gq 1 G)) o0) (zz (Wf 24 25 26 27) [] λ a w U=>?_);refine zt<|cd U (zm 3 G) (λ hb1=>?_) (λ hb1=>?_)
  ·have hj:j<(byL s).length:=by have:=qu hb1;omega
   refine qk<|zt<|ql<|qb<|zh (W6 28 [.v 4 _]) UG U (zv G (bB Mn (bX λ _=>rfl) (gq 0 G) (gq 2 G) (bn hj)) (zv G (ao (vq 0 G) ty_5) (zA 1 G o0))) (zz (Wf 24 25 26 4) [] ?_);refine ztA<|zhA (Wb 30 (.f 33 _::.f 34 _::(W6 35 (.t 37 _::.t 38 _::.t 39 _::.v 40 (Wh ((_=true)∧_=false) _)::.v 41 (Wh ((_=true)∧_=false) _)::.t 42 _::(W6 43 [.t 45 _,.t 46 _,.v 47 _]))))) (W7 [.o 17]) (zM 3 G (zv G (aN (vq 0 G) ab) (zV 1 G (zB 2 G (λ hg=>aq (gq 3 G)) (zB 2 G (λ hg=>cL (ae (vq 3 G) hg) ab) (zv G (r_or (vq 2 G) (vq 4 G)) (zV 5 G (zB 6 G (λ hg=>aq (gq 3 G)) (zB 6 G (λ hg=>aN (ae (vq 7 G) hg) ab) (zB 6 G (λ hg=>aq (ae (vq 8 G) hg)) (oc (bT G G G (vq 9 G) nq (λ hg=>aq (gq 3 G))) (oc (bT G G G (vq 9 G) nq (λ hg=>cL (ae (vq 10 G) hg) ab)) (zB 6 G (λ hg=>r_or (ae (vq 9 G) hg) (fR (vq 11 G) hg)) (zv G (bv (vq 6 G) (vq 12 G)) (zV 13 G (zB 14 G (λ hg=>aq (gq 3 G)) (zB 14 G (λ hg=>ca (ae (vq 15 G) hg) ab) (zv G (bv (vq 14 G) (vq 16 G)) o0)))))))))))))))))) (zz (Wf 24 25 26 47) [] λ a w U=>?_);refine zJ 3 U G (λ hb2=>?_) (λ hb2=>?_)
   ·refine qb<|zh UA WZ U (zE G aE) (zz (Wf 24 25 26 2) [] λ a w U=>?_);refine aa<|qi<|aD ?_;refine aj ?_;refine aj ?_;refine aD ?_;refine aj ?_;refine al ?_ (am G U (zm 3 G));rw [namF,qA (by rw [hd];decide),nv hj (by unfold bOk;rw [hb2];rfl)];exact aG
   ·refine qk<|ak ?_;refine aa<|zh [.v 48 _,.v 26 _] UI U (zv G (aL (gq 2 G) ab ((wi64 zo zo).trans (by omega:(_:Int)=((j+1:Nat):Int)))) (zV 0 G o0)) (zz (Wa 24 25 26) [] λ a w U=>?_);refine aa ?_;have U:=St.sel U [0,1,2];exact ⟨n-1,by omega,j+1,⟨by omega,nw hj hno (by unfold bOk;rw [hb2];rfl)⟩,U⟩
  ·obtain rfl:j=(byL s).length:=by have:=qw hb1;omega
   refine qM<|ai<|ai<|az<|zt<|zh UA U2 U (zE G aE) (zz Ux [] λ a w U=>?_);refine aa<|qi<|al ?_ (am G U (zm 0 G));rw [qI] at hno;rw [namF,qA (by rw [hd];decide),hno];exact aG
structure RPt where
 nm:ByteArray
 e:RE
 c:Int
structure RTk where
 sp:List RF
 ps:List RPt
 tg:RF
def InA (n:Int):As:=NumA .i64 n
def PtA (x:RPt):As:=cat [EqA (.string x.nm),REA x.e,InA x.c]
def TkA (t:RTk):As:=cat [SlA 28 [U32] (t.sp.map RFA),SlA 79 [U32] (t.ps.map PtA),RFA t.tg]
theorem Dn:Wk (EqA v).va (EqV v):=λ B u w h=>lM h
theorem JY (s:ByteArray):Cn Tryz.prog 102 [(EqA (.string s)).va] (Bo (namF s)):=(JX s).wk (.cons Dn .nil)
def sloF (t:RTk):Int:=IntKind.i64.wrap ((t.sp.length:Int)-1)
def pkQ (t:RTk)(i:Int):Bool:=decide (i<0) || decide (i≥(t.ps.length:Int))
def pkF (t:RTk)(l:List Int):Bool:=decide ((l.length:Int)≤sloF t) && !l.any (pkQ t)
def whF (t:RTk)(l:List Int):Bool:=((l.length:Int)==sloF t)&&pkF t l
def FnC (f:FuncId)(PT:VA):VA where
 p B v w:=∃ g,v=.func (.func f) #[] #[ptr g]∧PT.p B (ptr g) w
 deps:=PT.deps
 cg:=λ B v w w' hg ⟨g,h1,h2⟩=>⟨g,h1,PT.cg _ _ _ _ hg h2⟩
 wr:=λ B v w w' g c T fz q1 q2 q3 q4 ⟨g',h1,h2⟩=>⟨g',h1,PT.wr _ _ _ _ _ _ _ _ q1 q2 q3 q4 h2⟩
def fstI (q:Int→Bool):List Int→Nat→Int
 | [],_ => -1
 | x::l,k=>if q x then (k:Int) else fstI q l (k+1)
theorem w8 (q:Int→Bool):∀ (l:Yk) (k:Nat),decide (fstI q l k≥0)=l.any q
 | [],k=>rfl
 | x::l,k=>by
  rw [fstI,List.any_cons];by_cases h:q x=true
  ·rw [qD h,h,Bool.true_or];exact qH (Int.natCast_nonneg k)
  ·rw [qA h,w8 q l,xS.2 h,xJ]
theorem NV {l:Yk}(h:j<l.length)(h2:q l[j]=false):fstI q (l.drop j) j=fstI q (l.drop (j+1)) (j+1):=by rw [qL h,fstI,h2];rfl
theorem KQ {l:Yk}{j:Nat}(h:j<l.length)(h2:q l[j]=true):fstI q (l.drop j) j=(j:Int):=by rw [qL h,fstI,h2];rfl
section
open Rg
variable {P:Program}{Q:Exit→Act→World→Prop}{R:Rg}{B i:Nat}{w0:Bs}
theorem PL {T1:Yh}(h1:Loc R i s1 T1 A1):Wv P Q R B w0 i (.makeFunc (.func f) #[] #[.tmp s1]) (FnC f (ElP T1 A1)) :=
 bk λ _ _ _ _ _ a w av=>by
  obtain ⟨g1,c1,e1,m1,h3,h4⟩:=h1.ok av;have e1':a.eval (.tmp s1)=ptr g1:=e1;refine ⟨.func (.func f) #[] (#[Operand.tmp s1].map a.eval),w,by simp [execOp,Instr.makeFunc],Grow.refl w,g1,by simp [e1'],g1,0,c1,rfl,(Array.getElem?_eq_some_iff.1 h3).1,.inr ⟨_,_,h3⟩,h4,λ j u hu=>?_⟩;have:=iR (k:=0) h3 c1.length j u (by rw [xl,qI];exact hu);exact this
theorem Jk {c:Nat}{f:Ym}{xs:Yr}{As':Yc}{A PT:VA}{at_:Yq}(hc:Cn P f (As'++[PT]) A)(hv:Has R B w0 i (.tmp c) (FnC f PT))(hx:HasL R B w0 i xs As'):Wv P Q R B w0 i (.call ⟨.value (.tmp c),xs.toArray,at_⟩) A:=by
 intro d T ps af gd a w av K hK;obtain ⟨⟨fn,hf,hn,hb⟩,hcall⟩:=hc;obtain ⟨g,ev,hp⟩:=hv a w av;have hrun:(execOp a.eval ⟨some d,.call ⟨.value (.tmp c),xs.toArray,at_⟩,T,ps,af,gd⟩).run P w=.ok (.enter f (xs.map a.eval++[ptr g]).toArray) w:=by
  simp only [execOp,resolve,ev,Deferred.ofValue,Sem.run_bind,Sem.run_pure,Result.andThen_ok,invoke,bi hf hn hb];simp
 unfold Oper.wp;rw [hrun];have key:∀ {ls:List VA}{vs:List Value},All2 (λ (A:VA) v=>A.p B v w) ls vs→All2 (λ (A:VA) v=>A.p B v w) (ls++[PT]) (vs++[ptr g]):=λ {ls vs} h=>by
  induction h with
  | nil=>exact .cons hp .nil
  | cons h _ ih=>exact .cons h ih
 exact (hcall B w _ (Av.bw av) (key (hx.all av))).mono λ e w' ⟨v,he,hv,hg⟩=>by subst he;exact hK v w' hg hv
end
theorem oD (t:RTk):Cn Tryz.prog 104 [(TkA t).va] (In (sloF t)):=by
 refine Cn.intro Tryz.func104 G zk nq (zy [(0,(TkA t).va)] λ B w0 a U=>?_);refine qb<|zg [] S0 Uv Uw U (zW 0 G (zE G ab)) (zz Ux S1 ?_);refine ztA<|zgA U4 [] (.adr 3 1 (.some 0) True::(Wb 4 [.v 2 _])) UP (zO 0 G cb (zL 0 0 0 G eY (zv G (bg qR (vq 1 G)) (zv G (cH (vq 2 G) ab (G)) (zA 3 G o0))))) (zz Ux S1 λ a w U=>?_);refine aa<|qi<|al ?_ (am G U (zm 0 G));simp only [qd];exact aG
theorem BU (t:RTk)(i:Int):Cn Tryz.prog 181 [In i,ElP 30 (TkA t)] (Bo (pkQ t i)):=by
 refine Cn.intro Tryz.func181 G zk nq (zy [(0,In i),(1,ElP 30 (TkA t))] λ B w0 a U=>?_);refine qb<|zh [.v 3 _] WS U (zE G aE) (zz (Wa 0 1 3) [] ?_);refine ztA<|zhA (Wb 4 [.f 7 _,.f 8 _,.f 9 _,.f 10 _,.f 11 _,.v 12 _,.v 3 _]) [.o 9] (zM 0 G (zv G (aN (vq 0 G) ab) (zV 1 G (zB 2 G (λ hg=>aq (gq 0 G)) (zB 2 G (λ hg=>bK (gq 1 G) bM (Sub.part 1 G G)) (zB 2 G (λ hg=>ao (ae (vq 4 G) hg) ec) (zB 2 G (λ hg=>bg qN (ae (vq 5 G) hg)) (zB 2 G (λ hg=>dP (ae (vq 3 G) hg) (ae (vq 6 G) hg)) (zv G (r_or (vq 2 G) (vq 7 G)) (zA 8 G o0)))))))))) (zz RH [] λ a w U=>?_);refine aa<|qi<|al ?_ (am G U (zm 0 G));simp only [qd];exact aG
theorem NM {f:Ym}{q:Int→Bool}{PT:VA}(hc:∀ n,Cn Tryz.prog f [In n,PT] (Bo (q n)))(xs:Yk):Cn Tryz.prog 220 [(SlA 3 [] (xs.map InA)).va,FnC f PT] (In (fstI q xs 0)):=by
 refine Cn.intro Tryz.func220 G zk nq (zy [(0,(SlA 3 [] (xs.map InA)).va),(1,FnC f PT)] λ B w0 a U=>?_);have hl:=eu (U.vals (0,(SlA 3 [] (xs.map InA)).va) (zm 0 rfl));refine qb<|zh WR WS U (zE G ab) (zz WT [] ?_);refine ztA<|zsA<|zhA (Wb 6) (W7 [.o 1,.o 2]) (zM 0 G (zv G (bg qF (vq 0 G)) (zv G (aq ab) o0))) (zz (W8 0 1 4 7 8) [] λ a w U=>?_);refine aa<|ql ?_;have U:=St.sel U [0,1,3,4];refine wp_loop_ghost (λ n a w=>∃ j:Nat,(n+j=xs.length∧fstI q xs 0=fstI q (xs.drop j) j)∧St B w0 19 [(0,(SlA 3 [] (xs.map InA)).va),(1,FnC f PT),(7,In (xs.length:Nat)),(8,In (j:Nat))] [] a w) (xs.length) ?_ ?_
 ·exact ⟨0,⟨by omega,rfl⟩,by rw [qd] at U;exact U⟩
 intro n a w hI;obtain ⟨j,⟨hn,hno⟩,U⟩:=hI;refine qb<|zh [.v 9 _] Ut U (zv G (aN (gq 3 G) (gq 2 G)) o0) (zz (W8 0 1 7 8 9) [] λ a w U=>?_);refine zt<|cd U (zm 4 G) (λ hb0=>?_) (λ hb0=>?_)
 ·have hj:j<xs.length:=by have:=qu hb0;omega
  refine qk<|zt<|ql<|qb<|zh [.v 10 _,.v 5 _] Ra U (zM 3 G (zA 0 G o0)) (zz (W8 0 1 7 8 5) [] ?_);refine ztA<|zhA (Wl 11) (Wi [.o 5]) (zM 1 G (zM 0 G (zM 4 G (zv G (bB dr (bX λ _=>rfl) (vq 1 G) (vq 2 G) (bn hj)) (zv G (ao (vq 3 G) ty_3) (zv G (Jk (As':=[In xs[j]]) (hc _) (vq 0 G) (.o (vq 4 G))) o0)))))) (zz (Wj 0 1 7 8 5 16) [] λ a w U=>?_);refine zJ 5 U G (λ hb1=>?_) (λ hb1=>?_)
  ·refine qb<|zh [.v 17 _,.v 4 _] Ra U (zM 4 G (zA 0 G o0)) (zz (W8 0 1 7 8 4) [] λ a w U=>?_);refine aa<|qi<|aD ?_;refine aj ?_;refine aj ?_;refine aD ?_;refine aj ?_;refine al ?_ (am G U (zm 4 G));rw [hno,KQ hj hb1];exact aG
  ·refine qk<|ak ?_;refine aa<|zh [.v 18 _,.v 8 _] WX U (zv G (aL (gq 3 G) ab ((wi64 zo zo).trans (by omega:(_:Int)=((j+1:Nat):Int)))) (zV 0 G o0)) (zz (Wf 0 1 7 8) [] λ a w U=>?_);refine aa ?_;have U:=St.sel U [0,1,2,3];exact ⟨n-1,by omega,j+1,⟨by omega,hno.trans (NV hj hb1)⟩,U⟩
 ·obtain rfl:j=xs.length:=by have:=qw hb0;omega
  refine qM<|ai<|ai<|az<|zt<|zh WR U2 U (zE G ab) (zz U3 [] λ a w U=>?_);refine aa<|qi<|al ?_ (am G U (zm 0 G));rw [hno,xM];exact aG
theorem Oj {f:Ym}{q:Int→Bool}{PT:VA}(hc:∀ n,Cn Tryz.prog f [In n,PT] (Bo (q n)))(xs:Yk):Cn Tryz.prog 180 [(SlA 3 [] (xs.map InA)).va,FnC f PT] (Bo (xs.any q)):=by
 refine Cn.intro Tryz.func180 G zk nq (zy [(0,(SlA 3 [] (xs.map InA)).va),(1,FnC f PT)] λ B w0 a U=>?_);refine qb<|zh WR WS U (zE G aE) (zz WT [] ?_);refine ztA<|zhA (Ww 5 [.v 4 _]) UP (zM 0 G (zM 1 G (zQ G (NM hc xs) (.p (vq 0 G) (vq 1 G)) (zv G (dP (vq 2 G) ab) (zA 3 G o0))))) (zz U3 [] λ a w U=>?_);refine aa<|qi<|al ?_ (am G U (zm 0 G));rw [← w8 q xs 0];exact aG
theorem uz (t:RTk)(xs:Yk):Cn Tryz.prog 105 [(TkA t).va,(SlA 3 [] (xs.map InA)).va] (Bo (pkF t xs)):=by
 refine Cn.intro Tryz.func105 G zk nq (zy [(0,(TkA t).va),(1,(SlA 3 [] (xs.map InA)).va)] λ B w0 a U=>?_);refine qb<|zg [] S2 RU RD U (zW 0 G (zE G aE)) (zz (Wc 1 4) S3 ?_);refine ztA<|zgA U4 [] (Wl 5 [.t 11 _,.t 12 _,.t 13 _,.t 14 _,.v 15 _,.v 4 _]) [.o 11] (zM 0 G (zv G (bg qF (vq 0 G)) (zl 0 G cp (zQ G (oD t) (.o (vq 2 G)) (zv G (l9 (vq 1 G) (vq 3 G)) (zV 4 G (zB 5 G (λ hg=>aq (gq 0 G)) (zB 5 G (λ hg=>PL (lz0 0 G)) (zB 5 G (λ hg=>be (Oj (BU t) xs) (.p (ae (vq 6 G) hg) (ae (vq 7 G) hg))) (zB 5 G (λ hg=>dc (ae (vq 8 G) hg)) (zv G (bv (vq 5 G) (vq 9 G)) (zA 10 G o0)))))))))))) (zz U3 S3 λ a w U=>?_);refine aa<|qi<|al ?_ (am G U (zm 0 G));simp only [qd];exact aG
theorem sA (t:RTk)(xs:Yk):Cn Tryz.prog 25 [(TkA t).va,(SlA 3 [] (xs.map InA)).va] (Bo (whF t xs)):=by
 refine Cn.intro Tryz.func25 G zk nq (zy [(0,(TkA t).va),(1,(SlA 3 [] (xs.map InA)).va)] λ B w0 a U=>?_);refine qb<|zg [] S2 RU RD U (zW 0 G (zE G aE)) (zz (Wc 1 4) S3 ?_);refine ztA<|zgA U4 [] (Wl 5 [.t 11 _,.t 12 _,.t 13 _,.v 14 _,.v 4 _]) [.o 10] (zM 0 G (zv G (bg qF (vq 0 G)) (zl 0 G cp (zQ G (oD t) (.o (vq 2 G)) (zv G (bC (vq 1 G) (vq 3 G)) (zV 4 G (zB 5 G (λ hg=>eL (lz0 0 G) cp) (zB 5 G (λ hg=>aq (gq 0 G)) (zB 5 G (λ hg=>be (uz t xs) (.p (ae (vq 6 G) hg) (ae (vq 7 G) hg))) (zv G (bv (vq 5 G) (vq 8 G)) (zA 9 G o0))))))))))) (zz U3 S3 λ a w U=>?_);refine aa<|qi<|al ?_ (am G U (zm 0 G));simp only [qd];exact aG
def CoA (k:Nat)(m:MQ):As:=cat [QA k m.a,QA k m.c]
theorem tD {m:MQ}(hy:y=m.a)(hu:u=m.c)(h:RepM b m):WkA (cat [QA k y,QA k' u]) (CoA b m):=by
 subst hy;subst hu;exact br (.cons (F8 (Bu h).1) (.cons (F8 (Bu h).2.2.1) .nil))
def spE (x:RF):RE:=⟨1,x,rfOf 0⟩
theorem Mk {x:RE}(h:x.k=1):elM x=⟨1,toQ x.p,0,1⟩:=by unfold elM elQ;rw [h];rfl
theorem Ph {x:RE}(h:x.k=2):elM x=⟨1,0,0-toQ x.p,1⟩:=by unfold elM elQ;rw [h];rfl
theorem Pg {x:RE}(h:x.k=3):elM x=⟨1,toQ x.p/toQ x.q,0,1⟩:=by unfold elM elQ;rw [h];rfl
theorem Pf {x:RE}(h:x.k=4):elM x=⟨1,0,0-toQ x.p*toQ x.q,1⟩:=by unfold elM elQ;rw [h];rfl
theorem Pe {x:RE}(h:x.k=5):elM x=⟨0-1,0-0,0-0,0-1⟩:=by unfold elM elQ;rw [h];rfl
theorem gM (h:elF x=true)(hm:RepM b m):RepM (b+4097) (mulQ (elM x) m):=by
 have:=Bt (HC h) hm;rwa [show 4096+b+1=b+4097 by omega] at this
def cmp1 (x y:Int):Int:=if x<y then -1 else if x>y then 1 else 0
def cmpL:List Int→List Int→Int
 | [],[]=>0
 | [],_::_ => -1
 | _::_,[]=>1
 | x::xs,y::ys=>if cmp1 x y=0 then cmpL xs ys else cmp1 x y
theorem DI {xs ys:Yk}(h:j<xs.length)(h':j<ys.length)(e:cmp1 xs[j] ys[j]=0):cmpL (xs.drop j) (ys.drop j)=cmpL (xs.drop (j+1)) (ys.drop (j+1)):=by
 rw [qL h,qL h',cmpL,qD e]
theorem DH {xs ys:Yk}(h:j<xs.length)(h':j<ys.length)(e:cmp1 xs[j] ys[j]≠0):cmpL (xs.drop j) (ys.drop j)=cmp1 xs[j] ys[j]:=by
 rw [qL h,qL h',cmpL,qA e]
theorem Lp {xs ys:Yk}(h:j<xs.length)(h':ys.length≤j):cmpL (xs.drop j) (ys.drop j)=1:=by
 rw [qL h,zH h'];rfl
theorem pS {xs ys:Yk}:cmpL (xs.drop xs.length) (ys.drop xs.length)=if xs.length<ys.length then -1 else 0:=by
 rw [xM];by_cases h:xs.length<ys.length
 ·rw [qD h,qL h];rfl
 ·rw [qA h,zH zo];rfl
theorem CJ (x:Int):Cn Tryz.prog 228 [In x] (Bo false):=by
 refine Cn.intro Tryz.func228 G zk nq (zy [(0,In x)] λ B w0 a U=>?_);refine qb<|zh UA Rd U (zE G aE) (zz Re [] ?_);refine ztA<|zhA (Wb 3 [.v 2 _]) UJ (zM 0 G (zM 0 G (zv G (ca (vq 0 G) (vq 1 G)) (zA 2 G o0)))) (zz Ux [] λ a w U=>?_);refine aa<|qi<|al ?_ (am G U (zm 0 G));refine ba (qq Bo ?_);simp
theorem Ot (x y:Int):Cn Tryz.prog 196 [In x,In y] (In (cmp1 x y)):=by
 refine Cn.intro Tryz.func196 G zk nq (zy [(0,In x),(1,In y)] λ B w0 a U=>?_);refine qb<|zh WR WS U (zE G ab) (zz WT [] ?_);refine ztA<|zhA (W6 7 [.v 5 _]) UG (zM 0 G (zQ G (CJ _) (.o (vq 0 G)) (zA 1 G o0))) (zz WW [] ?_);refine ztA<|zhA (W6 9 [.v 6 _]) RT (zM 1 G (zQ G (CJ _) (.o (vq 0 G)) (zA 1 G o0))) (zz UZ [] ?_);refine ztA<|zsA<|zhA [.v 11 _] (W7 [.g 4,.o 0]) (zM 3 G o0) (zz (W8 0 1 4 6 11) [] λ a w U=>?_);refine zJ 4 U G (λ hb0=>?_) (λ hb0=>?_)
 ·exact absurd hb0 zd
 ·refine qk<|zt<|qb<|zh [.v 13 _] WZ U (zM 3 G o0) (zz (Wf 0 1 4 13) [] λ a w U=>?_);refine zJ 3 U G (λ hb1=>?_) (λ hb1=>?_)
  ·exact absurd hb1 zd
  ·refine qk<|zt<|qb<|zh (Wb 14) UG U (zM 0 G (zM 1 G (zv G (aN (vq 0 G) (vq 1 G)) o0))) (zz (Wf 0 1 4 16) [] λ a w U=>?_);refine zJ 3 U G (λ hb2=>?_) (λ hb2=>?_)
   ·have h:x<y:=qu hb2;refine qb<|zh WR WS U (zE G ab) (zz WT [] λ a w U=>?_);refine aa<|qi<|aj ?_;refine al ?_ (am G U (zm 2 G));rw [cmp1,qD h];exact aG
   ·have h:¬ x<y:=qw hb2;refine qk<|zt<|qb<|zh (Wb 17) [.g 2,.o 2] U (zM 0 G (zM 1 G (zv G (cL (vq 0 G) (vq 1 G)) o0))) (zz (Wc 4 19) [] λ a w U=>?_);refine zJ 1 U G (λ hb3=>?_) (λ hb3=>?_)
    ·have h2:x>y:=qu hb3;refine qb<|zh WR U2 U (zE G ab) (zz U3 [] λ a w U=>?_);refine aa<|qi<|aj ?_;refine al ?_ (am G U (zm 0 G));rw [cmp1,qA h,qD h2];exact aG
    ·have h2:¬ x>y:=qw hb3;refine qk<|zt<|zh WR U2 U (zE G ab) (zz U3 [] λ a w U=>?_);refine aa<|qi<|al ?_ (am G U (zm 0 G));rw [cmp1,qA h,qA h2];exact aG
theorem Ou (xs ys:Yk):Cn Tryz.prog 125 [(SlA 3 [] (xs.map InA)).va,(SlA 3 [] (ys.map InA)).va] (In (cmpL xs ys)):=by
 refine Cn.intro Tryz.func125 G zk nq (zy [(0,(SlA 3 [] (xs.map InA)).va),(1,(SlA 3 [] (ys.map InA)).va)] λ B w0 a U=>?_);have hl:=eu (U.vals (0,(SlA 3 [] (xs.map InA)).va) (zm 0 rfl));refine qb<|zh WR WS U (zE G ab) (zz WT [] ?_);refine ztA<|zsA<|zhA (Wb 9) (W7 [.o 0,.o 1,.o 2]) (zM 0 G (zv G (bg qF (vq 0 G)) (zv G (aq ab) o0))) (zz (Wj 0 1 4 9 10 11) [] λ a w U=>?_);refine aa<|ql ?_;have U:=St.sel U [0,1,3,4,5];refine wp_loop_ghost (λ n a w=>∃ j:Nat,(n+j=xs.length∧cmpL xs ys=cmpL (xs.drop j) (ys.drop j))∧St B w0 36 [(0,(SlA 3 [] (xs.map InA)).va),(1,(SlA 3 [] (ys.map InA)).va),(9,(SlA 3 [] (xs.map InA)).va),(10,In (xs.length:Nat)),(11,In (j:Nat))] [] a w) (xs.length) ?_ ?_
 ·exact ⟨0,⟨by omega,rfl⟩,by rw [qd] at U;exact U⟩
 intro n a w hI;obtain ⟨j,⟨hn,hno⟩,U⟩:=hI;refine qb<|zh [.v 12 _] U7 U (zv G (aN (gq 4 G) (gq 3 G)) o0) (zz (Wj 0 1 9 10 11 12) [] λ a w U=>?_);refine zt<|cd U (zm 5 G) (λ hb0=>?_) (λ hb0=>?_)
 ·have hj:j<xs.length:=by have:=qu hb0;omega
  refine qk<|zt<|ql<|qb<|zh (Wb 13 (W6 5)) (Wi [.o 3,.o 4]) U (zM 4 G (zv G (bB dr (bX λ _=>rfl) (gq 2 G) (gq 4 G) (bn hj)) (zv G (ao (vq 1 G) ty_3) (zA 0 G (zA 2 G o0))))) (zz (Wu 0 1 9 10 11 5 6) [] ?_);refine ztA<|zsA<|zhA (Ww 16) (Wx [.o 3]) (zM 5 G (zM 1 G (zv G (bg qF (vq 1 G)) (zv G (dP (vq 0 G) (vq 2 G)) o0)))) (zz (Wy 0 1 9 10 11 5 6 19) [] λ a w U=>?_);refine zJ 7 U G (λ hb1=>?_) (λ hb1=>?_)
  ·have hjy:ys.length≤j:=by rw [qd] at hb1;have:=qu hb1;omega
   refine qb<|zh WR (Wx [.o 0]) U (zE G ab) (zz (Wy 0 1 9 10 11 5 6 4) [] λ a w U=>?_);refine aa<|qi<|aj ?_;refine aD ?_;refine aj ?_;refine aj ?_;refine aD ?_;refine aj ?_;refine al ?_ (am G U (zm 7 G));rw [hno,Lp hj hjy];exact aG
  ·have hjy:j<ys.length:=by rw [qd] at hb1;have:=qw hb1;omega
   refine qk<|zt<|zh (Ww 20 [.v 7 _]) (Wi [.g 6,.o 4]) U (zM 1 G (zM 5 G (zv G (bB dr (bX λ _=>rfl) (vq 0 G) (vq 1 G) (bn hjy)) (zv G (ao (vq 2 G) ty_3) (zA 3 G o0))))) (zz (Wu 0 1 9 10 11 6 7) [] ?_);refine ztA<|zhA (Wb 24 [.v 8 _]) (Wi [.o 3]) (zM 5 G (zM 6 G (zQ G (Ot _ _) (.p (vq 0 G) (vq 1 G)) (zA 2 G o0)))) (zz (Wj 0 1 9 10 11 8) [] ?_);refine ztA<|zhA (W6 27) (Wq [.o 1]) (zM 5 G (zv G (ca (vq 0 G) ab) o0)) (zz (Wu 0 1 9 10 11 8 28) [] λ a w U=>?_);refine zJ 6 U G (λ hb2=>?_) (λ hb2=>?_)
   ·refine qb<|zh [.v 29 _,.v 4 _] U8 U (zM 5 G (zA 0 G o0)) (zz (Wj 0 1 9 10 11 4) [] λ a w U=>?_);refine aa<|qi<|aD ?_;refine aj ?_;refine aj ?_;refine aD ?_;refine aj ?_;refine al ?_ (am G U (zm 5 G));rw [hno,DH hj hjy (by simpa using hb2)];exact aG
   ·refine qk<|ak ?_;refine aa<|zh [.v 30 _,.v 11 _] Ra U (zv G (aL (gq 4 G) ab ((wi64 zo zo).trans (by omega:(_:Int)=((j+1:Nat):Int)))) (zV 0 G o0)) (zz (W8 0 1 9 10 11) [] λ a w U=>?_);refine aa ?_;have U:=St.sel U [0,1,2,3,4];exact ⟨n-1,by omega,j+1,⟨by omega,hno.trans (DI hj hjy (by simpa using hb2))⟩,U⟩
 ·obtain rfl:j=xs.length:=by have:=qw hb0;omega
  refine qM<|ai<|ai<|az<|zt<|qb<|zh (Wd 31) UP U (zM 0 G (zv G (bg qF (vq 0 G)) (zM 1 G (zv G (bg qF (vq 2 G)) (zv G (aN (vq 1 G) (vq 3 G)) o0))))) (zz [(35,_)] [] λ a w U=>?_);refine zJ 0 U G (λ hb3=>?_) (λ hb3=>?_)
  ·have hle:xs.length<ys.length:=by simp only [qd] at hb3;have:=qu hb3;omega
   refine qb<|zh WR U2 U (zE G ab) (zz U3 [] λ a w U=>?_);refine aa<|qi<|aj ?_;refine al ?_ (am G U (zm 0 G));rw [hno,pS,qD hle];exact aG
  ·have hle:¬ xs.length<ys.length:=by simp only [qd] at hb3;have:=qw hb3;omega
   refine qk<|zt<|zh WR U2 U (zE G ab) (zz U3 [] λ a w U=>?_);refine aa<|qi<|al ?_ (am G U (zm 0 G));rw [hno,pS,qA hle];exact aG
structure WyQ where
 l:List Int
 pw:Rat
 aw:Rat
 c:Int
def WyA (k:Nat)(x:WyQ):As:=cat [SlA 3 [] (x.l.map InA),QA k x.pw,QA k x.aw,InA x.c]
def betF (a b:WyQ):Bool:=if (cmQ a.aw b.aw != 0) then decide (cmQ a.aw b.aw<0) else if (a.c != b.c) then decide (a.c<b.c) else decide (cmpL a.l b.l<0)
theorem y4 (hk:k≤400000000)(x y:WyQ):Cn Tryz.prog 32 [(WyA k x).va,(WyA k y).va] (Bo (betF x y)):=by
 refine Cn.intro Tryz.func32 G zk nq (zy [(0,(WyA k x).va),(1,(WyA k y).va)] λ B w0 a U=>?_);refine qb<|zg [] [zpL 2 82 0 _,zpL 3 82 1 _] UC Ud U (zW 0 G (zW 1 G (zE G aE))) (zz U3 S4 ?_);refine ztA<|zsA<|zgA UF [] (.adr 6 2 (.some 5) True::.v 7 _::.adr 8 3 (.some 5) True::(W6 9 [.v 5 _])) [.g 0,.o 5] (zO 0 G gr (zL 0 0 2 G ax (zO 1 G gr (zL 2 1 2 G ax (zQ G (Lo zo) (.p (vq 1 G) (vq 3 G)) (zA 4 G o0)))))) (zz (Wc 4 5) S4 ?_);refine ztA<|zgA UF [] (W6 11) UI (zM 1 G (zv G (ca (vq 0 G) ab) o0)) (zz (Wa 4 5 12) S4 λ a w U=>?_);refine zJ 2 U G (λ hb0=>?_) (λ hb0=>?_)
 ·refine qb<|zg UH [] (W6 13 [.v 4 _]) Ud U (zM 1 G (zv G (aN (vq 0 G) ab) (zA 1 G o0))) (zz U3 S4 λ a w U=>?_);refine aa<|qi<|aj ?_;refine al ?_ (am G U (zm 0 G));rw [betF,qD hb0];exact aG
 ·refine qk<|zt<|qb<|zg UH [] (.adr 15 2 (.some 9) True::.v 16 _::.adr 17 3 (.some 9) True::(W6 18)) Uz U (zO 0 G iI (zL 0 0 3 G ty_3 (zO 1 G iI (zL 2 1 3 G ty_3 (zv G (ca (vq 1 G) (vq 3 G)) o0))))) (zz (Wc 4 19) S4 λ a w U=>?_);refine zJ 1 U G (λ hb1=>?_) (λ hb1=>?_)
  ·refine qb<|zg UH [] (.adr 20 2 (.some 9) True::.v 21 _::.adr 22 3 (.some 9) True::(W6 23 [.v 4 _])) [.o 5] U (zO 0 G iI (zL 0 0 3 G ty_3 (zO 1 G iI (zL 2 1 3 G ty_3 (zv G (aN (vq 1 G) (vq 3 G)) (zA 4 G o0)))))) (zz U3 S4 λ a w U=>?_);refine aa<|qi<|aj ?_;refine al ?_ (am G U (zm 0 G));rw [betF,qA (by rw [hb0];decide),qD hb1];exact aG
  ·refine qk<|zt<|zg UH [] (.adr 25 2 (.some 0) True::.v 26 _::.adr 27 3 (.some 0) True::(Wb 28 [.v 4 _])) [.o 6] U (zO 0 G gu (zL 0 0 0 G eJ (zO 1 G gu (zL 2 1 0 G eJ (zQ G (Ou _ _) (.p (vq 1 G) (vq 3 G)) (zv G (aN (vq 4 G) ab) (zA 5 G o0))))))) (zz U3 S4 λ a w U=>?_);refine aa<|qi<|al ?_ (am G U (zm 0 G));rw [betF,qA (by rw [hb0];decide),qA (by rw [hb1];decide)];exact aG
theorem JF {Q:Yd}{B N:Nat}{ops:Yg}{i:Nat}{K:Ye}{p d g k sx:Nat}{ty T T':Yh}{A0 A A1:As}(src:Ya)(kp kd ks e:Nat)(ho:ops[i]?=some ⟨none,.store ty (.tmp p) (.tmp d),T',ps,af,none⟩)(h:St B w0 N Γ Λ a w)
  (hp:Γ[kp]?=some (p,EqV (.pointer (some ⟨g,k,none⟩)))) (hd:Γ[kd]?=some (d,A.va)) (hs:Γ[ks]?=some (sx,EqV (H.f g))) (ht:Ty P ty A.n A.ag) (hl:Λ[e]?=some ⟨sx,T,H,A0⟩)
  (hput:Put A0 k A A1) (hsrc:src.all (λ k=>match Γ[k]? with|some y => !y.2.deps.contains T|none=>false)=true) (hΛ:Λ.zipIdx.all (λ x=>x.2==e || (x.1.s != sx && !x.1.A.deps.contains T))=true) (hT:A1.deps.contains T=false)
  (hK:∀ w',St B w0 N (src.filterMap λ k=>Γ[k]?) (Λ.set e ⟨sx,T,H,A1⟩) a w'→K (a.put none undef) w'):wpOp P ops Q i K a w:=by
 have e1:a.eval (.tmp p)=.pointer (some ⟨g,k,none⟩):=h.vals _ (qa hp);obtain ⟨cs',hpA,e2⟩:=h.vals _ (qa hd);have e2:a.eval (.tmp d)=cN A.ag cs':=e2;have e0:a.eval (.tmp sx)=H.f g:=h.vals _ (qa hs);obtain ⟨g0,cs,q1,q2,q3,q4⟩:=h.locs _ (qa hl);have:g0=g:=by
  have:=qq blk (q1.symm.trans e0);rw [H.ok,H.ok] at this;injection this
 subst this;obtain ⟨hkc,hp1⟩:=hput B cs cs' w q4 hpA;have lA:=A.len _ _ _ hpA;have hrun:=bW ht w g0 k T cs.toArray _ cs' (A.cells_shape hpA) lA (by simpa using hkc) (A.one _ _ _ hpA) q3;have e3:cs.toArray.toList.take k++cs'++cs.toArray.toList.drop (k+A.n)=dt cs k cs':=by simp [dt,lA]
 rw [e3] at hrun;have hW:=Wr.setRow w g0 (dt cs k cs').toArray;have hB:B≤g0:=h.lo g0 q2;have hTn:T ∉ A1.deps:=by simpa using hT
 unfold wpOp;simp only [ho,Region.wanted,if_true];refine .inl (wp_skip' (w':=w.setRow g0 (dt cs k cs').toArray) ?_ (hK _ ⟨h.lo,h.defers.keep rfl λ D hD=>(hW.block D (λ e=>by subst e;rw [q3] at hD;cases hD)).trans hD,h.size,h.base.wr hW q2,λ x hx=>?_,λ m hm=>?_,λ m1 hm1 m2 hm2 hne=>?_⟩))
 ·simp [execOp,e1,e2,Instr.storeAt,Instr.sureAddr,hrun]
 ·obtain ⟨k',hk1,hk2⟩:=qS.1 hx;have:=qf.1 hsrc k' hk1;simp only [hk2,qz,qC,qn] at this;exact x.2.wr _ _ _ _ _ _ _ _ q3 this hB hW (h.vals x (qa hk2))
 ·obtain ⟨j,hj⟩:=List.getElem?_of_mem hm;by_cases e5:j=e
  ·subst e5;have:m=⟨sx,T,H,A1⟩:=by
    rw [List.getElem?_set_self (List.getElem?_eq_some_iff.1 hl).1] at hj;injection hj with hj;exact hj.symm
   subst this;exact ⟨g0,dt cs k cs',q1,q2,setRow_heap w g0 _ _ _ _ q3,A1.wr _ _ _ _ _ _ _ _ q3 hTn hB hW hp1⟩
  ·rw [List.getElem?_set_ne (λ e2=>e5 e2.symm)] at hj;have hc:=qf.1 hΛ (m,j) (zp.2 hj);simp only [z4,xw,qm,bne_iff_ne,qz,qC,qn] at hc;have hc':=hc.resolve_left e5;obtain ⟨g',cs2,p1,p2,p3,p4⟩:=h.locs m (qa hj);have hne:g'≠g0:=λ hh=>h.dis m (qa hj) _ (qa hl) hc'.1 (by rw [p1,q1,hh,m.H.ok,Hd.ok]);exact ⟨g',cs2,p1,p2,(hW.block g' hne).trans p3,m.A.wr _ _ _ _ _ _ _ _ q3 hc'.2 hB hW p4⟩
 ·have hs:∀ m∈Λ.set e ⟨sx,T,H,A1⟩,∃ m0∈Λ,m0.s=m.s:=λ m hm=>by
   rcases qB hm with hm|rfl
   ·exact ⟨m,hm,rfl⟩
   ·exact ⟨_,qa hl,rfl⟩
  obtain ⟨m3,r1,r2⟩:=hs m1 hm1;obtain ⟨m4,r3,r4⟩:=hs m2 hm2;rw [← r2,← r4] at hne ⊢;exact h.dis m3 r1 m4 r3 hne
def lamT (Λ:List Lc)(e:Nat)(A:As):List Lc:=Λ.zipIdx.map λ x=>⟨x.1.s,x.1.T,x.1.H,if x.2=e then A else x.1.A⟩
section
open Rg
variable {P:Program}{Q:Exit→Act→World→Prop}{B N:Nat}{w0:Bs}{Γ:List (Nat × VA)}{Λ:List Lc}{a:Act}{w:World}
theorem Kr {R:Rg}{n:Nat}{Λ':List Lc}(hles:∀ l'∈Λ',∃ y∈R.les,y.s=l'.s∧y.T=l'.T∧y.H=l'.H∧y.cr=none∧Rg.cur (λ k=>decide (k<n)) y=some l'.A)(hinv:R.Inv B w0 (λ k=>decide (k<n)) a w)(src:List Src)
  (hsrc:src.all (λ s=>match s with | .g k=>(match R.Γ[k]? with|some x=>Rg.outG R x.1 && !Rg.clash R (λ k=>decide (k<n)) x.2.deps|none=>false) | .o i=>decide (i<n)&&(match R.sp[i]? with|some y=>(match y.vl with|some z => !Rg.clash R (λ k=>decide (k<n)) z.2.deps|none=>true) | none=>true))=true):St B w0 R.N (src.filterMap (cC R)) Λ' a w:=by
 refine ⟨hinv.lo,hinv.defers,hinv.size,hinv.base,λ x hx=>?_,λ l' hl'=>?_,λ l1 h1 l2 h2 hne=>?_⟩
 rotate_left
 ·obtain ⟨y,hy,e1,e2,e3,_,e4⟩:=hles l' hl';have:=hinv.c _ hy l'.A e4;rw [e1,e2,e3] at this;exact this
 ·obtain ⟨y1,hy1,e1,_,_,_,f1⟩:=hles l1 h1;obtain ⟨y2,hy2,e2,_,_,_,f2⟩:=hles l2 h2;rw [← e1,← e2] at hne ⊢;exact hinv.x _ hy1 _ hy2 hne (by rw [f1];rfl) (by rw [f2];rfl)
 obtain ⟨s,hs1,hs2⟩:=qS.1 hx;have ho:=qf.1 hsrc s hs1;cases s with
 | g k =>
  simp only [cC] at hs2;simp only [hs2,qm,qz] at ho;refine hinv.g x (qa hs2) (λ q hq hdq=>?_) ho.2;cases h2:R.ops[q]? with
  | none=>unfold Rg.dst at hdq;rw [h2] at hdq;cases hdq
  | some v =>
   have:=qf.1 ho.1 q (by simpa using (Array.getElem?_eq_some_iff.1 h2).1);exact absurd hdq (by simpa using this)
 | o i =>
  simp only [cC] at hs2;cases hy:R.sp[i]? with
  | none=>rw [hy] at hs2;cases hs2
  | some y =>
   rw [hy] at hs2;have hs3:y.vl=some x:=hs2;simp only [hy,hs3,qm,qz] at ho;exact hinv.v i y x.1 x.2 hy hs3 ho.1 ho.2
theorem FA {id:Nat}{ops:Yg}{sp:Yu}(anc:List (Ya))(n m e j:Nat)(A1:As)(src:List Src)(hmx:P.follows .mixedOrders=true)
  (h:St B w0 N Γ Λ a w) (hob:Obs P Q ⟨ops,N,Γ,lesS Λ e j A1,sp,λ i=>anc.getD i []⟩ B w0 0 n) (hsz:ops.size=n+m) (hm:0<m) (hj:j<n) (hanc:Rg.ancOk ⟨ops,N,Γ,lesS Λ e j A1,sp,λ i=>anc.getD i []⟩=true) (hall:∀ i,n≤i→i<n+m→∀ j,j<i→(anc.getD i []).contains j=true) (hk:Rg.chk ⟨ops,N,Γ,lesS Λ e j A1,sp,λ i=>anc.getD i []⟩=true)
  (hsrc:src.all (λ s=>match s with | .g k=>(match Γ[k]? with|some x=>Rg.outG ⟨ops,N,Γ,lesS Λ e j A1,sp,λ i=>anc.getD i []⟩ x.1 && !Rg.clash ⟨ops,N,Γ,lesS Λ e j A1,sp,λ i=>anc.getD i []⟩ (λ k=>decide (k<n)) x.2.deps|none=>false) | .o i=>decide (i<n)&&(match sp[i]? with|some y=>(match y.vl with|some z => !Rg.clash ⟨ops,N,Γ,lesS Λ e j A1,sp,λ i=>anc.getD i []⟩ (λ k=>decide (k<n)) z.2.deps|none=>true) | none=>true))=true)
  (hQ:∀ a' w',St B w0 N (src.filterMap (cC ⟨ops,N,Γ,lesS Λ e j A1,sp,λ i=>anc.getD i []⟩)) (lamT Λ e A1) a' w'→wpOps P ops Q (List.range' n m) a' w'):(Code.region id ops true).wp P Q a w:=by
 refine Rg.drawK (R:=⟨ops,N,Γ,lesS Λ e j A1,sp,λ i=>anc.getD i []⟩) (m:=m) hsz hm hmx hanc hk h (λ y hy _=>?_) (λ i hi=>hob.all i zo zo) (λ i h1 h2 j hj=>hall i h1 h2 j hj) λ a1 w1 hinv=>?_
 ·exact (ek y hy).2.1
 ·refine hQ a1 w1 (Kr (λ l' hl'=>?_) hinv src hsrc);obtain ⟨x,hx,rfl⟩:=qr.1 hl';refine ⟨⟨x.1.s,x.1.T,x.1.H,none,x.1.A,if x.2=e then some (j,A1) else none⟩,qr.2 ⟨x,hx,rfl⟩,?_⟩
  by_cases h1:x.2=e
  ·simp only [h1,if_true];exact ⟨by trivial,by trivial,by trivial,by trivial,by simp [Rg.cur,Rg.crOk,hj]⟩
  ·simp only [h1,if_false];exact ⟨by trivial,by trivial,by trivial,by trivial,by simp [Rg.cur,Rg.crOk]⟩
end
theorem Ec {ops:Yg}{Q:Yd}(h:Q .normal a w):wpOps P ops Q [] (a.put none undef) w:=h
set_option maxHeartbeats 1000000 in
theorem AK {x:RE}{b:Nat}{m:MQ}(hx:elF x=true)(hm:RepM b m)(hb:b≤1000000):Cn Tryz.prog 122 [(REA x).va,(CoA b m).va] ((CoA (b+4097) (mulQ (elM x) m)).va):=by
 refine Cn.intro Tryz.func122 G zk nq (zy [(0,(REA x).va),(1,(CoA b m).va)] λ B w0 a U=>?_);refine qb<|zg [] [zpL 2 76 0 _,zpL 3 124 1 _,zpL 4 124 2 _] Um [] U (zW 0 G (zW 1 G (zY G (Str.zero l5) o0))) (zz [] S5 λ a w U=>?_);have U:=St.wkL U 0 rfl (el_q (fq hx).1);have U:=zn [] S5 U;refine zt<|qb<|zg US [] [.adr 5 2 (.some 0) True,.v 6 _] Uw U (zO 0 G cR (zL 0 0 0 G lO o0)) (zz [(6,_)] S5 λ a w U=>?_);refine aa<|ql<|qb<|zg US [] [.v 8 _,.v 7 _] Rc U (zv G (bC (gq 0 G) ab) (zA 0 G o0)) (zz (Wc 6 7) S5 λ a w U=>?_);refine aa<|bP (λ a w =>  St B w0 68 [] [⟨2,76,ptrH,QEA 2048 x.k (toQ x.p) (toQ x.q)⟩,⟨3,124,ptrH,CoA (b+4097) (mulQ (elM x) m)⟩,⟨4,124,ptrH,cat [RFA rf0,RFA rf0]⟩] a w) U (zm 1 G) (λ hb0=>?_) (λ hb0=>?_) (λ a w U=>?_)
 ·refine zgd [[],[0],[],[2],[],[4],[2,3,4,5],(Wm 7),(Wm 8),(Wm 9)] [none,some (9,_),none] [] (.adr 9 3 (.some 0) True::.v 10 _::.adr 11 2 (.some 1) True::.v 12 _::.adr 13 3 (.some 4) True::(Wb 14 [.adr 17 3 (.some 0) True,.sto 1])) [] ac U (zO 1 G cF (zL 0 1 0 G ax (zO 0 G bL (zL 2 0 1 G ax (zO 1 G cA (zL 4 1 1 G ax (zQ G (l4 zo) (.p (vq 3 G) (vq 5 G)) (zQ G (BQ zo) (.p (vq 1 G) (vq 6 G)) (zO 1 G cF (oc (df 8 G G G G zk (vq 7 G) ax (Put.part 0 G G G)) o0)))))))))) zk zk zk zk (zz [] S5 λ a w U=>?_);refine aa ?_;have U:=St.sel U [];have e:=Mk (x:=x) (by simpa using hb0);exact St.wkL U 1 G (tD (by rw [e];show _=_*m.a+_*m.c;grind) (by rw [e];show _=_*m.a+_*m.c;grind) (gM hx hm))
 ·refine qb<|zg US [] [.v 19 _,.v 18 _] Rc U (zv G (bC (gq 0 G) ab) (zA 0 G o0)) (zz (Wc 6 18) S5 λ a w U=>?_);refine aa<|bP (λ a w =>  St B w0 68 [] [⟨2,76,ptrH,QEA 2048 x.k (toQ x.p) (toQ x.q)⟩,⟨3,124,ptrH,CoA (b+4097) (mulQ (elM x) m)⟩,⟨4,124,ptrH,cat [RFA rf0,RFA rf0]⟩] a w) U (zm 1 G) (λ hb1=>?_) (λ hb1=>?_) (λ a w U=>?_)
  ·refine zgd [[],[0],[],[2],[],[4],[2,3,4,5],[],[7],[2,3,4,5,6,7,8],(Wm 10),(Wm 11),(Wm 12)] [none,some (12,_),none] [] (.adr 20 3 (.some 0) True::.v 21 _::.adr 22 2 (.some 1) True::.v 23 _::.adr 24 2 (.some 5) True::(W6 25 (.adr 27 3 (.some 4) True::(Wb 28 [.adr 31 3 (.some 0) True,.sto 1])))) [] ac U (zO 1 rfl cF (zL 0 1 0 rfl ax (zO 0 rfl bL (zL 2 0 1 rfl ax (zO 0 rfl bZ (zL 4 0 2 rfl ax (zQ rfl (N8 zo (by rcases (fq hx).2 with h|h|h|h|h <;> simp_all)) (.p (vq 3 rfl) (vq 5 rfl)) (zO 1 rfl cA (zL 7 1 1 rfl ax (zQ rfl (l4 zo) (.p (vq 6 rfl) (vq 8 rfl)) (zQ rfl (BQ zo) (.p (vq 1 rfl) (vq 9 rfl)) (zO 1 rfl cF (oc (df 11 rfl rfl rfl rfl zk (vq 10 rfl) ax (Put.part 0 rfl rfl rfl)) o0))))))))))))) zk zk zk zk (zz [] S5 λ a w U=>?_);refine aa ?_;have U:=St.sel U [];have e:=Pg (x:=x) (by simpa using hb1);exact St.wkL U 1 G (tD (by rw [e];show _=_*m.a+_*m.c;grind) (by rw [e];show _=_*m.a+_*m.c;grind) (gM hx hm))
  ·refine qb<|zg US [] [.v 33 _,.v 32 _] Rc U (zv G (bC (gq 0 G) ab) (zA 0 G o0)) (zz (Wc 6 32) S5 λ a w U=>?_);refine aa<|bP (λ a w =>  St B w0 68 [] [⟨2,76,ptrH,QEA 2048 x.k (toQ x.p) (toQ x.q)⟩,⟨3,124,ptrH,CoA (b+4097) (mulQ (elM x) m)⟩,⟨4,124,ptrH,cat [RFA rf0,RFA rf0]⟩] a w) U (zm 1 G) (λ hb2=>?_) (λ hb2=>?_) (λ a w U=>?_)
   ·refine zgd [[],[0],[],[2],[],[4],[2,3,4,5],(Wm 7),(Wm 8),(Wm 9)] [none,some (9,_),none] [] (.adr 34 3 (.some 4) True::.v 35 _::.adr 36 2 (.some 1) True::.v 37 _::.adr 38 3 (.some 0) True::(Wb 39 [.adr 42 3 (.some 4) True,.sto 1])) [] ac U (zO 1 G cA (zL 0 1 1 G ax (zO 0 G bL (zL 2 0 1 G ax (zO 1 G cF (zL 4 1 0 G ax (zQ G (l4 zo) (.p (vq 3 G) (vq 5 G)) (zQ G (t6 zo) (.p (vq 1 G) (vq 6 G)) (zO 1 G cA (oc (df 8 G G G G zk (vq 7 G) ax (Put.part 1 G G G)) o0)))))))))) zk zk zk zk (zz [] S5 λ a w U=>?_);refine aa ?_;have U:=St.sel U [];have e:=Ph (x:=x) (by simpa using hb2);exact St.wkL U 1 G (tD (by rw [e];show _=_*m.a+_*m.c;grind) (by rw [e];show _=_*m.a+_*m.c;grind) (gM hx hm))
   ·refine qb<|zg US [] [.v 44 _,.v 43 _] Rc U (zv G (bC (gq 0 G) ab) (zA 0 G o0)) (zz (Wc 6 43) S5 λ a w U=>?_);refine aa<|bP (λ a w =>  St B w0 68 [] [⟨2,76,ptrH,QEA 2048 x.k (toQ x.p) (toQ x.q)⟩,⟨3,124,ptrH,CoA (b+4097) (mulQ (elM x) m)⟩,⟨4,124,ptrH,cat [RFA rf0,RFA rf0]⟩] a w) U (zm 1 G) (λ hb3=>?_) (λ hb3=>?_) (λ a w U=>?_)
    ·refine zgd [[],[0],[],[2],[],[4],[2,3,4,5],[],[7],[2,3,4,5,6,7,8],(Wm 10),(Wm 11),(Wm 12)] [none,some (12,_),none] [] (.adr 45 3 (.some 4) True::.v 46 _::.adr 47 2 (.some 1) True::.v 48 _::.adr 49 2 (.some 5) True::(W6 50 (.adr 52 3 (.some 0) True::(Wb 53 [.adr 56 3 (.some 4) True,.sto 1])))) [] ac U (zO 1 G cA (zL 0 1 1 G ax (zO 0 G bL (zL 2 0 1 G ax (zO 0 G bZ (zL 4 0 2 G ax (zQ G (l4 zo) (.p (vq 3 G) (vq 5 G)) (zO 1 G cF (zL 7 1 0 G ax (zQ G (l4 zo) (.p (vq 6 G) (vq 8 G)) (zQ G (t6 zo) (.p (vq 1 G) (vq 9 G)) (zO 1 G cA (oc (df 11 G G G G zk (vq 10 G) ax (Put.part 1 G G G)) o0))))))))))))) zk zk zk zk (zz [] S5 λ a w U=>?_);refine aa ?_;have U:=St.sel U [];have e:=Pf (x:=x) (by simpa using hb3);exact St.wkL U 1 G (tD (by rw [e];show _=_*m.a+_*m.c;grind) (by rw [e];show _=_*m.a+_*m.c;grind) (gM hx hm))
    ·refine qb<|zg US [] [.v 58 _,.v 57 _] Uw U (zv G (bC (gq 0 G) ab) (zA 0 G o0)) (zz [(57,_)] S5 λ a w U=>?_);refine aa<|bP (λ a w =>  St B w0 68 [] [⟨2,76,ptrH,QEA 2048 x.k (toQ x.p) (toQ x.q)⟩,⟨3,124,ptrH,CoA (b+4097) (mulQ (elM x) m)⟩,⟨4,124,ptrH,cat [RFA rf0,RFA rf0]⟩] a w) U (zm 0 G) (λ hb4=>?_) (λ hb4=>?_) (λ a w U=>?_)
     ·obtain ⟨q3,U⟩:=St.nm U 1 rfl;refine FA (sp:=[.adr 59 3 (.some 0) True,.v 60 _,.v 61 _,.adr 62 3 (.some 4) True,.v 63 _,.v 64 _,.adr 65 3 (.some 0) True,.sto 1,.skp,.skp]) [[],[0],[0,1],[],[3],[0,1,2,3,4],[0,1,2,3,4],[0,1,2,3,4,5,6],[0,1,2,3,4,5,6,7],[0,1,2,3,4,5,6,7,8]] 8 2 1 7 (cat [QA b (-m.a),QA b m.c]) [.g 0,.o 5] ac U (zO 1 G cF (zL 0 1 0 G ax (zQ G (lU zo) (.o (vq 1 G)) (zO 1 G cA (zL 3 1 1 G ax (zQ G (lU zo) (.o (vq 4 G)) (zO 1 G cF (oc (df 6 G G G G zk (vq 2 G) ax (Put.part 0 G G G)) o0)))))))) G zd zd zk (fx zk) zk zk (zz (Wc 3 64) S5 λ a w U=>?_);rw [show List.range' 8 2=[8,9] from rfl];rw [qy];refine fK 0 G U cA G zd zk zk (λ a U=>?_);rw [qy];refine JF (A:=QA b (-m.c)) (A1:=cat [QA b (-m.a),QA b (-m.c)]) [] 0 2 1 1 G U G G G ax G (Put.part 1 G G G) zk zk zk (λ w U=>?_);refine Ec ?_;have U:St B w0 68 [] [O 2 76 _,O 3 124 _,O 4 124 _] _ w:=U;refine aa ?_;have U:=St.sel U [];have e:=Pe (x:=x) (by simpa using hb4);exact St.wkL U 1 G (tD (by rw [e];show _=_*m.a+_*m.c;grind) (by rw [e];show _=_*m.a+_*m.c;grind) (gM hx hm))
     ·refine qk<|aa ?_;have U:=St.sel U [];exact absurd (fq hx).2 (by simp at hb0 hb1 hb2 hb3 hb4;simp [hb0,hb1,hb2,hb3,hb4])
     refine aa ?_;have U:=St.sel U [];exact U
    refine aa ?_;have U:=St.sel U [];exact U
   refine aa ?_;have U:=St.sel U [];exact U
  refine aa ?_;have U:=St.sel U [];exact U
 refine ak ?_;refine zt<|zg [η,η,some (1,_)] [] [.v 67 _,.sto 2] [] U (zl 1 G i7 (zS 0 G i7 o0)) (zz [] S5 λ a w U=>?_);refine aa<|qi<|al ?_ (au G U (zm 2 G) i7);exact aG
end Go.Proofs.YtbghmmnkciimdaaGreatDoor
