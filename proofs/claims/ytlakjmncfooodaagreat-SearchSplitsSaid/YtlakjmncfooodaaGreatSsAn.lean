import Derived.Test.YtlakjmncfooodaaGreatSsAm
import Derived.Laws.IdiomStrings
set_option linter.all false
set_option maxRecDepth 100000
namespace Go.Proofs.YtlakjmncfooodaaGreat
open Go Go.RowKit
variable {w:World}{B:Nat}{a:Act}{v:Value}{T:TypeId}{w0:Bs}{Γ:List (Nat × VA)}{Λ:List Lc}{ps:String}{af:Array Edge}{vr:Value}{H:Hd}{cs:List Value}{w':World}{P:Program}{D:List TypeId}
def byL (s:ByteArray):List Nat:=s.data.toList.map UInt8.toNat
theorem byL_len (s:ByteArray):(byL s).length=s.size:=by unfold byL; rw [qc]; rfl
def BbA (n:Nat):As:=NumA .u8 (n:Int)
def bOk (b:Nat):Bool := !(((decide ((b:Int)<97) || decide ((b:Int)>122))&&(decide ((b:Int)<48) || decide ((b:Int)>57)))&&((b:Int) != 45))
def nmH (s:ByteArray):Bool:=((decide ((s.size:Int)<1) || decide ((s.size:Int)>32)) || decide ((((byL s).getD 0 0:Nat):Int)<97)) || decide ((((byL s).getD 0 0:Nat):Int)>122)
def namF (s:ByteArray):Bool:=if nmH s then false else (byL s).all bOk
theorem st_0 {s:ByteArray}(h:(decide ((s.size:Int)<1) || decide ((s.size:Int)>32))=false):s[0]?=some (s.data.toList.getD 0 0)∧((s.data.toList.getD 0 0).toNat:Nat)=(byL s).getD 0 0:=by
 rw [qI,qw] at h
 have h0:0<s.size:=by omega
 have h1:0<s.data.toList.length:=by simpa using h0
 constructor
 ·rw [getElem?_pos s 0 h0]
  simp only [Option.some.injEq,List.getD]
  rw [List.getElem?_eq_getElem h1]
  simp [ByteArray.getElem_eq_getElem_data]
 ·unfold byL
  simp only [List.getD]
  rw [List.getElem?_eq_getElem h1,List.getElem?_eq_getElem (by simpa using h1)]
  simp
theorem nm_1 {a b:Bool}(h:(a || b)=false):a=false:=by rw [qI] at h; exact h.1
theorem by_0 (s:ByteArray):(s.data.toList.getD 0 0).toNat=(byL s).getD 0 0:=by
 unfold byL
 cases s.data.toList <;> rfl
theorem nm_y {s:ByteArray}{b:Bool}(h:(((decide ((s.size:Int)<1) || decide ((s.size:Int)>32)) || decide ((((s.data.toList.getD 0 0).toNat:Nat):Int)<97)) || decide ((((s.data.toList.getD 0 0).toNat:Nat):Int)>122))=b):nmH s=b:=by
 unfold nmH
 rw [← by_0]
 exact h
theorem nm_sz {s:ByteArray}(h:nmH s=false):s.size≤32:=by
 unfold nmH at h
 simp only [qI,qw] at h
 omega
section
open Rg
variable {P:Program} {Q:Exit→Act→World→Prop} {R:Rg} {B i:Nat} {w0:Bs}
theorem gI {x:Operand}{S:TypeId}{s:ByteArray}(hS:P.underlying S=some .string)(hx:Has R B w0 i x (EqV (.string s))):Wv P Q R B w0 i (.call ⟨.builtin .len,#[x],#[S]⟩) (In (s.size:Nat)) :=
 aQ λ d T ps af gd a w av=>by
  refine ⟨.int .i64 (s.size:Nat),w,?_,Grow.refl w,bm _ _ _ _⟩
  have hv':a.eval x=.string s:=hx a w av
  simp [execOp,resolve,invoke,builtin,hv',run_len_string _ _ _ _ hS,goInt]
theorem r_bytes {x:Operand}{S T E:TypeId}{s:ByteArray}(hs:P.underlying S=some .string)(hd:P.underlying T=some (.slice E))(he:P.underlying E=some (.int .u8))(hx:Has R B w0 i x (EqV (.string s)))(hl:s.size≤4096):Wv P Q R B w0 i (.convert S T x) (SlA E [] ((byL s).map BbA)).va :=
 aQ λ d T' ps af gd a w av=>by
  have e1:a.eval x=.string s:=hx a w av
  refine ⟨.slice (some ⟨w.heap.size,0,none⟩) s.size (grownCap w s.size 0 E),w.drew.alloc (.cells (bytesRow s (grownCap w s.size 0 E)) E ((bytesRow s (grownCap w s.size 0 E)).size,(bytesRow s (grownCap w s.size 0 E)).size+1)),?_,(Grow.drew w).trans (Grow.alloc w.drew _),?_⟩
  ·simp [execOp,e1,run_bytes_of_string w S T E s hs hd he]
  ·have hcg:=grownCap_ge w s.size 0 E
   have hcm:=grownCap_le_maxLen w s.size 0 E (by unfold maxLen; omega)
   have hlen:((byL s).map BbA).length=s.size:=by rw [qc,byL_len]
   have hcell:∀ j (hj:j<s.data.size),(w.drew.alloc (.cells (bytesRow s (grownCap w s.size 0 E)) E ((bytesRow s (grownCap w s.size 0 E)).size,(bytesRow s (grownCap w s.size 0 E)).size+1))).cell? ⟨w.heap.size,0+j,none⟩=some (.int .u8 (s.data[j].toNat:Int)):=λ j hj=>by
    rw [qC]
    exact (World.cell?_alloc_mark w.drew _ E _ j).trans (bytesRow_at s _ j hj)
   refine ⟨[.slice (some ⟨w.heap.size,0,none⟩) s.size (grownCap w s.size 0 E)],⟨λ A hA=>?_,some ⟨w.heap.size,0,none⟩,grownCap w s.size 0 E,(byL s).map λ (n:Nat)=>Value.int .u8 (n:Int),?_,by rw [hlen]; exact hcg,hcm,?_,λ _=>⟨w.heap.size,0,rfl,?_,?_,λ j v hv=>?_⟩⟩,rfl⟩
   ·obtain ⟨n,_,rfl⟩:=qp.1 hA
    intro T hT
    cases hT
   ·rw [hlen]
   ·refine ⟨(byL s).map λ (n:Nat)=>[Value.int .u8 (n:Int)],?_,?_⟩
    ·induction byL s with
     | nil=>rfl
     | cons y l ih=>rw [qF,qF,ih,zK]; rfl
    ·induction byL s with
     | nil=>exact .nil
     | cons y l ih=>exact .cons rfl ih
   ·show w.heap.size<(w.heap.push _).size
    simp
   ·refine .inr ⟨bytesRow s (grownCap w s.size 0 E),((bytesRow s (grownCap w s.size 0 E)).size,(bytesRow s (grownCap w s.size 0 E)).size+1),?_⟩
    show (w.heap.push _)[w.heap.size]?=_
    simp
   ·have hj:j<s.data.size:=by
     have:=(List.getElem?_eq_some_iff.1 hv).1
     rw [qc,byL_len] at this
     exact this
    rw [hcell j hj]
    unfold byL at hv
    rw [zH,List.getElem?_map,List.getElem?_eq_getElem (by simpa using hj)] at hv
    simpa using hv
end
theorem named_c (s:ByteArray):Cn Tryz.prog 47 [EqV (.string s)] (Bo (namF s)):=by
 refine Cn.intro Tryz.func47 G zk nq (λ B w0 a U=>?_)
 have U:=zn [(0,EqV (.string s))] [] U
 refine qa<|zh [.v 2 _] [.g 0,.o 0] U (zv G (a6 aH) o0) (zz [(0,_),(2,_)] [] λ a w U=>?_)
 refine zt<|qa<|zh [.v 5 _,.v 6 _,.v 7 _,.v 8 _,.f 9 _,.f 10 _,.f 11 _,.v 12 _,.v 13 _,.f 14 _,.f 15 _,.f 16 _,.v 17 _,.v 18 _,.f 19 _,.f 20 _,.f 21 _,.v 22 _] [.g 0,.g 1,.o 17] U (zM 0 G (zv G (gI zk (vq 0 G)) (zv G (aX (vq 1 G) a5) (zv G (a8 (vq 2 G)) (zB 3 G (λ hg=>a8 (gq 0 G)) (zB 3 G (λ hg=>gI zk (aa (vq 4 G) hg)) (zB 3 G (λ hg=>cD (aa (vq 5 G) hg) a5) (zv G (r_or (vq 3 G) (vq 6 G)) (zv G (a8 (vq 7 G)) (zB 8 G (λ hg=>a8 (gq 0 G)) (zB 8 G (λ hg=>eF zk (aa (vq 9 G) hg) a5 (st_0 hg).1) (zB 8 G (λ hg=>aX (aa (vq 10 G) hg) a5) (zv G (r_or (vq 8 G) (vq 11 G)) (zv G (a8 (vq 12 G)) (zB 13 G (λ hg=>a8 (gq 0 G)) (zB 13 G (λ hg=>eF zk (aa (vq 14 G) hg) a5 (st_0 (nm_1 hg)).1) (zB 13 G (λ hg=>cD (aa (vq 15 G) hg) a5) (zv G (r_or (vq 13 G) (vq 16 G)) o0)))))))))))))))))) (zz [(0,_),(2,_),(22,_)] [] λ a w U=>?_)
 refine a4<|a9 U (zm 2 G) (λ hb0=>?_) (λ hb0=>?_)
 ·have hd:nmH s=true:=nm_y hb0
  refine qa<|zh [.v 2 _] [.g 0,.o 0] U (zv G (a6 aH) o0) (zz [(0,_),(2,_)] [] λ a w U=>?_)
  refine a4<|qe<|ab ?_
  refine aj ?_ (ai G U (zm 1 G))
  rw [namF,ql hd]; exact ay
 ·have hd:nmH s=false:=nm_y hb0
  have hsz:=nm_sz hd
  have hbl:=byL_len s
  refine qk<|zt<|qa<|zh [.v 23 _,.v 24 _,.v 25 _,.v 26 _] [.g 1,.o 1,.o 2,.o 3] U (zM 0 G (zv G (r_bytes zk Tryz.underlying118 zk (vq 0 G) zo) (zv G (bn Tryz.underlying118 (vq 1 G)) (zv G (a8 a5) o0)))) (zz [(2,_),(24,_),(25,_),(26,_)] [] λ a w U=>?_)
  refine a4<|qq ?_
  have U:=St.sel U [1,2,3]
  refine wp_loop_ghost (λ n a w=>∃ j:Nat,(n+j=(byL s).length∧((byL s).take j).all bOk=true)∧St B w0 49 [(24,(SlA 5 [] ((byL s).map BbA)).va),(25,In ((byL s).length:Nat)),(26,In (j:Nat))] [] a w) ((byL s).length) ?_ ?_
  ·exact ⟨0,⟨by omega,rfl⟩,by rw [qc] at U; exact U⟩
  intro n a w hI
  obtain ⟨j,⟨hn,hno⟩,U⟩:=hI
  refine qa<|zh [.v 27 _] [.g 0,.g 1,.g 2,.o 0] U (zv G (aX (gq 2 G) (gq 1 G)) o0) (zz [(24,_),(25,_),(26,_),(27,_)] [] λ a w U=>?_)
  refine zt<|a9 U (zm 3 G) (λ hb1=>?_) (λ hb1=>?_)
  ·have hj:j<(byL s).length:=by have:=qo hb1; omega
   refine qk<|zt<|qq<|qa<|zh [.v 28 _,.v 29 _,.v 4 _] [.g 0,.g 1,.g 2,.o 2] U (zv G (cn sl_118 (cE λ _=>rfl) (gq 0 G) (gq 2 G) (bI hj)) (zv G (am (vq 0 G) ty_5) (zA 1 G o0))) (zz [(24,_),(25,_),(26,_),(4,_)] [] λ a w U=>?_)
   refine zt<|zh [.v 30 _,.v 31 _,.v 32 _,.f 33 _,.f 34 _,.v 35 _,.v 36 _,.t 37 _,.t 38 _,.t 39 _,.v 40 (Wh ((_=true)∧_=false) _),.v 41 (Wh ((_=true)∧_=false) _),.t 42 _,.v 43 _,.v 44 _,.t 45 _,.t 46 _,.v 47 _] [.g 0,.g 1,.g 2,.o 17] U (zM 3 G (zv G (aX (vq 0 G) a5) (zv G (a8 (vq 1 G)) (zB 2 G (λ hg=>a8 (gq 3 G)) (zB 2 G (λ hg=>cD (aa (vq 3 G) hg) a5) (zv G (r_or (vq 2 G) (vq 4 G)) (zv G (a8 (vq 5 G)) (zB 6 G (λ hg=>a8 (gq 3 G)) (zB 6 G (λ hg=>aX (aa (vq 7 G) hg) a5) (zB 6 G (λ hg=>a8 (aa (vq 8 G) hg)) (oc (bH G G G (vq 9 G) nq (λ hg=>a8 (gq 3 G))) (oc (bH G G G (vq 9 G) nq (λ hg=>cD (aa (vq 10 G) hg) a5)) (zB 6 G (λ hg=>r_or (aa (vq 9 G) hg) (eK (vq 11 G) hg)) (zv G (bF (vq 6 G) (vq 12 G)) (zv G (a8 (vq 13 G)) (zB 14 G (λ hg=>a8 (gq 3 G)) (zB 14 G (λ hg=>bz (aa (vq 15 G) hg) a5) (zv G (bF (vq 14 G) (vq 16 G)) o0)))))))))))))))))) (zz [(24,_),(25,_),(26,_),(47,_)] [] λ a w U=>?_)
   refine a4<|a9 U (zm 3 G) (λ hb2=>?_) (λ hb2=>?_)
   ·refine qa<|zh [.v 2 _] [.g 0,.g 1,.g 2,.o 0] U (zv G (a6 aH) o0) (zz [(24,_),(25,_),(26,_),(2,_)] [] λ a w U=>?_)
    refine a4<|qe<|aD ?_
    refine ab ?_
    refine ab ?_
    refine aD ?_
    refine ab ?_
    refine aj ?_ (ai G U (zm 3 G))
    rw [namF,qj (by rw [hd]; decide),all_so hj (by unfold bOk; rw [hb2]; rfl)]; exact ay
   ·refine qk<|al ?_
    refine a4<|zh [.v 48 _,.v 26 _] [.g 0,.g 1,.o 1] U (zv G (aJ (gq 2 G) a5 ((wi64 zo zo).trans (by omega:(_:Int)=((j+1:Nat):Int)))) (zv G (a8 (vq 0 G)) o0)) (zz [(24,_),(25,_),(26,_)] [] λ a w U=>?_)
    refine a4 ?_
    have U:=St.sel U [0,1,2]
    exact ⟨n-1,by omega,j+1,⟨by omega,all_nx hj hno (by unfold bOk; rw [hb2]; rfl)⟩,U⟩
  ·obtain rfl:j=(byL s).length:=by have:=qx hb1; omega
   refine za<|ak<|ak<|aC<|zt<|zh [.v 2 _] [.o 0] U (zv G (a6 aH) o0) (zz [(2,_)] [] λ a w U=>?_)
   refine a4<|qe<|aj ?_ (ai G U (zm 0 G))
   rw [qO] at hno; rw [namF,qj (by rw [hd]; decide),hno]; exact ay
structure RPt where
 nm:ByteArray
 e:RE
 c:Int
structure RTk where
 sp:List RF
 ps:List RPt
 tg:RF
def InA (n:Int):As:=NumA .i64 n
def PtA (x:RPt):As:=cat [EqA (.string x.nm),REA x.e,InA x.c]
def TkA (t:RTk):As:=cat [SlA 28 [U32] (t.sp.map RFA),SlA 56 [U32] (t.ps.map PtA),RFA t.tg]
theorem eqa_v:Wk (EqA v).va (EqV v):=λ B u w h=>fJ h
theorem named_a (s:ByteArray):Cn Tryz.prog 47 [(EqA (.string s)).va] (Bo (namF s)):=(named_c s).wk (.cons eqa_v .nil)
def sloF (t:RTk):Int:=IntKind.i64.wrap ((t.sp.length:Int)-1)
def pkQ (t:RTk)(i:Int):Bool:=decide (i<0) || decide (i≥(t.ps.length:Int))
def pkF (t:RTk)(l:List Int):Bool:=decide ((l.length:Int)≤sloF t) && !l.any (pkQ t)
def whF (t:RTk)(l:List Int):Bool:=((l.length:Int)==sloF t)&&pkF t l
def FnC (f:FuncId)(PT:VA):VA where
 p B v w:=∃ g,v=.func (.func f) #[] #[ptr g]∧PT.p B (ptr g) w
 deps:=PT.deps
 cg:=λ B v w w' hg ⟨g,h1,h2⟩=>⟨g,h1,PT.cg _ _ _ _ hg h2⟩
 wr:=λ B v w w' g c T fz q1 q2 q3 q4 ⟨g',h1,h2⟩=>⟨g',h1,PT.wr _ _ _ _ _ _ _ _ q1 q2 q3 q4 h2⟩
def fstI (q:Int→Bool):List Int→Nat→Int
 | [],_ => -1
 | x::l,k=>if q x then (k:Int) else fstI q l (k+1)
theorem fstI_any (q:Int→Bool):∀ (l:List Int) (k:Nat),decide (fstI q l k≥0)=l.any q
 | [],k=>rfl
 | x::l,k=>by
  rw [fstI,List.any_cons]
  by_cases h:q x=true
  ·rw [ql h,h,Bool.true_or]
   exact qK (Int.natCast_nonneg k)
  ·rw [qj h,fstI_any q l,zD.2 h,xb]
theorem fst_go {q:Int→Bool}{l:List Int}{j:Nat}(h:j<l.length)(h2:q l[j]=false):fstI q (l.drop j) j=fstI q (l.drop (j+1)) (j+1):=by rw [qz h,fstI,h2]; rfl
theorem fst_hit {q:Int→Bool}{l:List Int}{j:Nat}(h:j<l.length)(h2:q l[j]=true):fstI q (l.drop j) j=(j:Int):=by rw [qz h,fstI,h2]; rfl
section
open Rg
variable {P:Program} {Q:Exit→Act→World→Prop} {R:Rg} {B i:Nat} {w0:Bs}
theorem r_mkC {f:FuncId}{T1:TypeId}{A1:As}{s1:Nat}(h1:Loc R i s1 T1 A1):Wv P Q R B w0 i (.makeFunc (.func f) #[] #[.tmp s1]) (FnC f (ElP T1 A1)) :=
 aQ λ _ _ _ _ _ a w av=>by
  obtain ⟨g1,c1,e1,m1,h3,h4⟩:=h1.ok av
  have e1':a.eval (.tmp s1)=ptr g1:=e1
  refine ⟨.func (.func f) #[] (#[Operand.tmp s1].map a.eval),w,by simp [execOp,Instr.makeFunc],Grow.refl w,g1,by simp [e1'],g1,0,c1,rfl,(Array.getElem?_eq_some_iff.1 h3).1,.inr ⟨_,_,h3⟩,h4,λ j u hu=>?_⟩
  have:=fe (k:=0) h3 c1.length j u (by rw [xZ,qO]; exact hu)
  exact this
theorem r_callC {c:Nat}{f:FuncId}{xs:List Operand}{As':List VA}{A PT:VA}{at_:Array TypeId}(hc:Cn P f (As'++[PT]) A)(hv:Has R B w0 i (.tmp c) (FnC f PT))(hx:HasL R B w0 i xs As'):Wv P Q R B w0 i (.call ⟨.value (.tmp c),xs.toArray,at_⟩) A:=by
 intro d T ps af gd a w av K hK
 obtain ⟨⟨fn,hf,hn,hb⟩,hcall⟩:=hc
 obtain ⟨g,ev,hp⟩:=hv a w av
 have hrun:(execOp a.eval ⟨some d,.call ⟨.value (.tmp c),xs.toArray,at_⟩,T,ps,af,gd⟩).run P w=.ok (.enter f (xs.map a.eval++[ptr g]).toArray) w:=by
  simp only [execOp,resolve,ev,Deferred.ofValue,Sem.run_bind,Sem.run_pure,Result.andThen_ok,invoke,aZ hf hn hb]
  simp
 unfold Oper.wp
 rw [hrun]
 have key:∀ {ls:List VA} {vs:List Value},All2 (λ (A:VA) v=>A.p B v w) ls vs→All2 (λ (A:VA) v=>A.p B v w) (ls++[PT]) (vs++[ptr g]):=λ {ls vs} h=>by
  induction h with
  | nil=>exact .cons hp .nil
  | cons h _ ih=>exact .cons h ih
 exact (hcall B w _ (Av.bw av) (key (hx.all av))).mono λ e w' ⟨v,he,hv,hg⟩=>by subst he; exact hK v w' hg hv
end
theorem gF (t:RTk):Cn Tryz.prog 49 [(TkA t).va] (In (sloF t)):=by
 refine Cn.intro Tryz.func49 G zk nq (λ B w0 a U=>?_)
 have U:=zn [(0,(TkA t).va)] [] U
 refine qa<|zg [] [⟨1,30,ptrH,some 0,_,none⟩] [.alc 0,.v 2 _] [.o 1] U (zW 0 G (zv G (a6 a5) o0)) (zz [(2,_)] [O 1 30 _] λ a w U=>?_)
 refine zt<|zg [η] [] [.adr 3 1 (.some 0) True,.v 4 _,.v 5 _,.v 6 _,.v 2 _] [.o 4] U (zO 0 G cw (zL 0 0 0 G gy (zv G (bn Tryz.underlying22 (vq 1 G)) (zv G (cu (vq 2 G) a5 (G)) (zA 3 G o0))))) (zz [(2,_)] [O 1 30 _] λ a w U=>?_)
 refine a4<|qe<|aj ?_ (ai G U (zm 0 G))
 simp only [qc]; exact ay
theorem picked1_c (t:RTk)(i:Int):Cn Tryz.prog 51 [In i,ElP 30 (TkA t)] (Bo (pkQ t i)):=by
 refine Cn.intro Tryz.func51 G zk nq (λ B w0 a U=>?_)
 have U:=zn [(0,In i),(1,ElP 30 (TkA t))] [] U
 refine qa<|zh [.v 3 _] [.g 0,.g 1,.o 0] U (zv G (a6 aH) o0) (zz [(0,_),(1,_),(3,_)] [] λ a w U=>?_)
 refine zt<|zh [.v 4 _,.v 5 _,.v 6 _,.f 7 _,.f 8 _,.f 9 _,.f 10 _,.f 11 _,.v 12 _,.v 3 _] [.o 9] U (zM 0 G (zv G (aX (vq 0 G) a5) (zv G (a8 (vq 1 G)) (zB 2 G (λ hg=>a8 (gq 0 G)) (zB 2 G (λ hg=>bj (gq 1 G) cd (Sub.part 1 G G)) (zB 2 G (λ hg=>am (aa (vq 4 G) hg) fU) (zB 2 G (λ hg=>bn Tryz.underlying23 (aa (vq 5 G) hg)) (zB 2 G (λ hg=>dN (aa (vq 3 G) hg) (aa (vq 6 G) hg)) (zv G (r_or (vq 2 G) (vq 7 G)) (zA 8 G o0)))))))))) (zz [(3,_)] [] λ a w U=>?_)
 refine a4<|qe<|aj ?_ (ai G U (zm 0 G))
 simp only [qc]; exact ay
theorem idxF_c {f:FuncId}{q:Int→Bool}{PT:VA}(hc:∀ n,Cn Tryz.prog f [In n,PT] (Bo (q n)))(xs:List Int):Cn Tryz.prog 81 [(SlA 3 [] (xs.map InA)).va,FnC f PT] (In (fstI q xs 0)):=by
 refine Cn.intro Tryz.func81 G zk nq (λ B w0 a U=>?_)
 have U:=zn [(0,(SlA 3 [] (xs.map InA)).va),(1,FnC f PT)] [] U
 have hl:=dz (U.vals (0,(SlA 3 [] (xs.map InA)).va) (zm 0 rfl))
 refine qa<|zh [.v 4 _] [.g 0,.g 1,.o 0] U (zv G (a6 a5) o0) (zz [(0,_),(1,_),(4,_)] [] λ a w U=>?_)
 refine zt<|qa<|zh [.v 6 _,.v 7 _,.v 8 _] [.g 0,.g 1,.g 2,.o 1,.o 2] U (zM 0 G (zv G (bn Tryz.underlying31 (vq 0 G)) (zv G (a8 a5) o0))) (zz [(0,_),(1,_),(4,_),(7,_),(8,_)] [] λ a w U=>?_)
 refine a4<|qq ?_
 have U:=St.sel U [0,1,3,4]
 refine wp_loop_ghost (λ n a w=>∃ j:Nat,(n+j=xs.length∧fstI q xs 0=fstI q (xs.drop j) j)∧St B w0 19 [(0,(SlA 3 [] (xs.map InA)).va),(1,FnC f PT),(7,In (xs.length:Nat)),(8,In (j:Nat))] [] a w) (xs.length) ?_ ?_
 ·exact ⟨0,⟨by omega,rfl⟩,by rw [qc] at U; exact U⟩
 intro n a w hI
 obtain ⟨j,⟨hn,hno⟩,U⟩:=hI
 refine qa<|zh [.v 9 _] [.g 0,.g 1,.g 2,.g 3,.o 0] U (zv G (aX (gq 3 G) (gq 2 G)) o0) (zz [(0,_),(1,_),(7,_),(8,_),(9,_)] [] λ a w U=>?_)
 refine zt<|a9 U (zm 4 G) (λ hb0=>?_) (λ hb0=>?_)
 ·have hj:j<xs.length:=by have:=qo hb0; omega
  refine qk<|zt<|qq<|qa<|zh [.v 10 _,.v 5 _] [.g 0,.g 1,.g 2,.g 3,.o 1] U (zM 3 G (zA 0 G o0)) (zz [(0,_),(1,_),(7,_),(8,_),(5,_)] [] λ a w U=>?_)
  refine zt<|zh [.v 11 _,.v 12 _,.v 13 _,.v 14 _,.v 15 _,.v 16 _] [.g 0,.g 1,.g 2,.g 3,.g 4,.o 5] U (zM 1 G (zM 0 G (zM 4 G (zv G (cn eT (cE λ _=>rfl) (vq 1 G) (vq 2 G) (bI hj)) (zv G (am (vq 3 G) ty_3) (zv G (r_callC (As':=[In xs[j]]) (hc _) (vq 0 G) (.o (vq 4 G))) o0)))))) (zz [(0,_),(1,_),(7,_),(8,_),(5,_),(16,_)] [] λ a w U=>?_)
  refine a4<|a9 U (zm 5 G) (λ hb1=>?_) (λ hb1=>?_)
  ·refine qa<|zh [.v 17 _,.v 4 _] [.g 0,.g 1,.g 2,.g 3,.o 1] U (zM 4 G (zA 0 G o0)) (zz [(0,_),(1,_),(7,_),(8,_),(4,_)] [] λ a w U=>?_)
   refine a4<|qe<|aD ?_
   refine ab ?_
   refine ab ?_
   refine aD ?_
   refine ab ?_
   refine aj ?_ (ai G U (zm 4 G))
   rw [hno,fst_hit hj hb1]; exact ay
  ·refine qk<|al ?_
   refine a4<|zh [.v 18 _,.v 8 _] [.g 0,.g 1,.g 2,.o 1] U (zv G (aJ (gq 3 G) a5 ((wi64 zo zo).trans (by omega:(_:Int)=((j+1:Nat):Int)))) (zv G (a8 (vq 0 G)) o0)) (zz [(0,_),(1,_),(7,_),(8,_)] [] λ a w U=>?_)
   refine a4 ?_
   have U:=St.sel U [0,1,2,3]
   exact ⟨n-1,by omega,j+1,⟨by omega,hno.trans (fst_go hj hb1)⟩,U⟩
 ·obtain rfl:j=xs.length:=by have:=qx hb0; omega
  refine za<|ak<|ak<|aC<|zt<|zh [.v 4 _] [.o 0] U (zv G (a6 a5) o0) (zz [(4,_)] [] λ a w U=>?_)
  refine a4<|qe<|aj ?_ (ai G U (zm 0 G))
  rw [hno,xr]; exact ay
theorem conF_c {f:FuncId}{q:Int→Bool}{PT:VA}(hc:∀ n,Cn Tryz.prog f [In n,PT] (Bo (q n)))(xs:List Int):Cn Tryz.prog 50 [(SlA 3 [] (xs.map InA)).va,FnC f PT] (Bo (xs.any q)):=by
 refine Cn.intro Tryz.func50 G zk nq (λ B w0 a U=>?_)
 have U:=zn [(0,(SlA 3 [] (xs.map InA)).va),(1,FnC f PT)] [] U
 refine qa<|zh [.v 4 _] [.g 0,.g 1,.o 0] U (zv G (a6 aH) o0) (zz [(0,_),(1,_),(4,_)] [] λ a w U=>?_)
 refine zt<|zh [.v 5 _,.v 6 _,.v 7 _,.v 8 _,.v 4 _] [.o 4] U (zM 0 G (zM 1 G (zQ G (idxF_c hc xs) (.p (vq 0 G) (vq 1 G)) (zv G (dN (vq 2 G) a5) (zA 3 G o0))))) (zz [(4,_)] [] λ a w U=>?_)
 refine a4<|qe<|aj ?_ (ai G U (zm 0 G))
 rw [← fstI_any q xs 0]; exact ay
theorem picked_c (t:RTk)(xs:List Int):Cn Tryz.prog 23 [(TkA t).va,(SlA 3 [] (xs.map InA)).va] (Bo (pkF t xs)):=by
 refine Cn.intro Tryz.func23 G zk nq (λ B w0 a U=>?_)
 have U:=zn [(0,(TkA t).va),(1,(SlA 3 [] (xs.map InA)).va)] [] U
 refine qa<|zg [] [⟨2,30,ptrH,some 0,_,none⟩] [.alc 0,.v 4 _] [.g 1,.o 1] U (zW 0 G (zv G (a6 aH) o0)) (zz [(1,_),(4,_)] [O 2 30 _] λ a w U=>?_)
 refine zt<|zg [η] [] [.v 5 _,.v 6 _,.v 7 _,.v 8 _,.v 9 _,.v 10 _,.t 11 _,.t 12 _,.t 13 _,.t 14 _,.v 15 _,.v 4 _] [.o 11] U (zM 0 G (zv G (bn Tryz.underlying31 (vq 0 G)) (zl 0 G cS (zQ G (gF t) (.o (vq 2 G)) (zv G (r_leq (vq 1 G) (vq 3 G)) (zv G (a8 (vq 4 G)) (zB 5 G (λ hg=>a8 (gq 0 G)) (zB 5 G (λ hg=>r_mkC (lz0 0 G)) (zB 5 G (λ hg=>aW (conF_c (picked1_c t) xs) (.p (aa (vq 6 G) hg) (aa (vq 7 G) hg))) (zB 5 G (λ hg=>fu (aa (vq 8 G) hg)) (zv G (bF (vq 5 G) (vq 9 G)) (zA 10 G o0)))))))))))) (zz [(4,_)] [O 2 30 _] λ a w U=>?_)
 refine a4<|qe<|aj ?_ (ai G U (zm 0 G))
 simp only [qc]; exact ay
theorem whole_c (t:RTk)(xs:List Int):Cn Tryz.prog 37 [(TkA t).va,(SlA 3 [] (xs.map InA)).va] (Bo (whF t xs)):=by
 refine Cn.intro Tryz.func37 G zk nq (λ B w0 a U=>?_)
 have U:=zn [(0,(TkA t).va),(1,(SlA 3 [] (xs.map InA)).va)] [] U
 refine qa<|zg [] [⟨2,30,ptrH,some 0,_,none⟩] [.alc 0,.v 4 _] [.g 1,.o 1] U (zW 0 G (zv G (a6 aH) o0)) (zz [(1,_),(4,_)] [O 2 30 _] λ a w U=>?_)
 refine zt<|zg [η] [] [.v 5 _,.v 6 _,.v 7 _,.v 8 _,.v 9 _,.v 10 _,.t 11 _,.t 12 _,.t 13 _,.v 14 _,.v 4 _] [.o 10] U (zM 0 G (zv G (bn Tryz.underlying31 (vq 0 G)) (zl 0 G cS (zQ G (gF t) (.o (vq 2 G)) (zv G (bv (vq 1 G) (vq 3 G)) (zv G (a8 (vq 4 G)) (zB 5 G (λ hg=>dh (lz0 0 G) cS) (zB 5 G (λ hg=>a8 (gq 0 G)) (zB 5 G (λ hg=>aW (picked_c t xs) (.p (aa (vq 6 G) hg) (aa (vq 7 G) hg))) (zv G (bF (vq 5 G) (vq 8 G)) (zA 9 G o0))))))))))) (zz [(4,_)] [O 2 30 _] λ a w U=>?_)
 refine a4<|qe<|aj ?_ (ai G U (zm 0 G))
 simp only [qc]; exact ay
def CoA (k:Nat)(m:MQ):As:=cat [QA k m.a,QA k m.c]
theorem co_of {k k' b:Nat}{y u:Rat}{m:MQ}(hy:y=m.a)(hu:u=m.c)(h:RepM b m):WkA (cat [QA k y,QA k' u]) (CoA b m):=by
 subst hy
 subst hu
 exact aS (.cons (qa_bQ (rep_bQ h).1) (.cons (qa_bQ (rep_bQ h).2.2.1) .nil))
def spE (x:RF):RE:=⟨1,x,rfOf 0⟩
theorem thr_1 {x:RE}(h:x.k=1):elM x=⟨1,toQ x.p,0,1⟩:=by unfold elM elQ; rw [h]; rfl
theorem thr_2 {x:RE}(h:x.k=2):elM x=⟨1,0,0-toQ x.p,1⟩:=by unfold elM elQ; rw [h]; rfl
theorem thr_3 {x:RE}(h:x.k=3):elM x=⟨1,toQ x.p/toQ x.q,0,1⟩:=by unfold elM elQ; rw [h]; rfl
theorem thr_4 {x:RE}(h:x.k=4):elM x=⟨1,0,0-toQ x.p*toQ x.q,1⟩:=by unfold elM elQ; rw [h]; rfl
theorem thr_5 {x:RE}(h:x.k=5):elM x=⟨0-1,0-0,0-0,0-1⟩:=by unfold elM elQ; rw [h]; rfl
theorem dQ {x:RE}{b:Nat}{m:MQ}(h:elF x=true)(hm:RepM b m):RepM (b+4097) (mulQ (elM x) m):=by
 have:=rep_mul (el_rep h) hm
 rwa [show 4096+b+1=b+4097 by omega] at this
theorem sp_re {x:RF}(h:okX x=true){k:Nat}:WkA (cat [NumA .u8 1,QA k (toQ x),QA 2 0]) (REA (spE x)):=aS (.cons (.refl _) (.cons (qaA.trans (eO (qt RFA (k6 h).1.symm))) (.cons qaA .nil)))
theorem space_c {x:RF}(hx:okX x=true):Cn Tryz.prog 66 [(RFA x).va] ((REA (spE x)).va):=by
 refine Cn.intro Tryz.func66 G zk nq (λ B w0 a U=>?_)
 have U:=zn [(0,(RFA x).va)] [] U
 refine qa<|zg [] [⟨1,28,ptrH,some 0,_,none⟩,⟨2,54,ptrH,some 1,_,none⟩] [.alc 0,.alc 1] [] U (zW 0 G (zY G (Str.zero cZ) o0)) (zz [] [O 1 28 _,O 2 54 _] λ a w U=>?_)
 have U:=St.wkL U 0 rfl (qa_x hx (qf _))
 have U:=zn [] [O 1 28 _,O 2 54 _] U
 refine zt<|zg [η,some (4,_)] [] [.v 3 _,.v 4 _,.v 5 _,.v 6 _,.sto 1] [] U (zl 0 G ac (zQ G (iO zo) (.o (vq 0 G)) (zQ G ej .nil (zv G (aI (qs:=[(0,_),(1,_),(2,_)]) cZ (.cons ⟨rfl,a5,rfl⟩ (.cons ⟨rfl,vq 1 rfl,rfl⟩ (.cons ⟨rfl,vq 2 rfl,rfl⟩ .nil)))) (zS 3 G eA o0))))) (zz [] [O 1 28 _,O 2 54 _] λ a w U=>?_)
 refine a4<|qe<|aj ?_ (au G U (zm 1 G) eA)
 exact (sp_re hx).va
def cmp1 (x y:Int):Int:=if x<y then -1 else if x>y then 1 else 0
def cmpL:List Int→List Int→Int
 | [],[]=>0
 | [],_::_ => -1
 | _::_,[]=>1
 | x::xs,y::ys=>if cmp1 x y=0 then cmpL xs ys else cmp1 x y
theorem cmpL_nx {xs ys:List Int}{j:Nat}(h:j<xs.length)(h':j<ys.length)(e:cmp1 xs[j] ys[j]=0):cmpL (xs.drop j) (ys.drop j)=cmpL (xs.drop (j+1)) (ys.drop (j+1)):=by
 rw [qz h,qz h',cmpL,ql e]
theorem cmpL_so {xs ys:List Int}{j:Nat}(h:j<xs.length)(h':j<ys.length)(e:cmp1 xs[j] ys[j]≠0):cmpL (xs.drop j) (ys.drop j)=cmp1 xs[j] ys[j]:=by
 rw [qz h,qz h',cmpL,qj e]
theorem cmpL_lo {xs ys:List Int}{j:Nat}(h:j<xs.length)(h':ys.length≤j):cmpL (xs.drop j) (ys.drop j)=1:=by
 rw [qz h,qV h']; rfl
theorem cmpL_end {xs ys:List Int}:cmpL (xs.drop xs.length) (ys.drop xs.length)=if xs.length<ys.length then -1 else 0:=by
 rw [xr]
 by_cases h:xs.length<ys.length
 ·rw [ql h,qz h]; rfl
 ·rw [qj h,qV zo]; rfl
theorem isNan_c (x:Int):Cn Tryz.prog 112 [In x] (Bo false):=by
 refine Cn.intro Tryz.func112 G zk nq (λ B w0 a U=>?_)
 have U:=zn [(0,In x)] [] U
 refine qa<|zh [.v 2 _] [.g 0,.o 0] U (zv G (a6 aH) o0) (zz [(0,_),(2,_)] [] λ a w U=>?_)
 refine zt<|zh [.v 3 _,.v 4 _,.v 5 _,.v 2 _] [.o 3] U (zM 0 G (zM 0 G (zv G (bz (vq 0 G) (vq 1 G)) (zA 2 G o0)))) (zz [(2,_)] [] λ a w U=>?_)
 refine a4<|qe<|aj ?_ (ai G U (zm 0 G))
 refine bA (qt Bo ?_); simp
theorem cmpZ_c (x y:Int):Cn Tryz.prog 95 [In x,In y] (In (cmp1 x y)):=by
 refine Cn.intro Tryz.func95 G zk nq (λ B w0 a U=>?_)
 have U:=zn [(0,In x),(1,In y)] [] U
 refine qa<|zh [.v 4 _] [.g 0,.g 1,.o 0] U (zv G (a6 a5) o0) (zz [(0,_),(1,_),(4,_)] [] λ a w U=>?_)
 refine zt<|zh [.v 7 _,.v 8 _,.v 5 _] [.g 0,.g 1,.g 2,.o 2] U (zM 0 G (zQ G (isNan_c _) (.o (vq 0 G)) (zA 1 G o0))) (zz [(0,_),(1,_),(4,_),(5,_)] [] λ a w U=>?_)
 refine zt<|zh [.v 9 _,.v 10 _,.v 6 _] [.g 0,.g 1,.g 2,.g 3,.o 2] U (zM 1 G (zQ G (isNan_c _) (.o (vq 0 G)) (zA 1 G o0))) (zz [(0,_),(1,_),(4,_),(5,_),(6,_)] [] λ a w U=>?_)
 refine zt<|qa<|zh [.v 11 _] [.g 0,.g 1,.g 2,.g 4,.o 0] U (zM 3 G o0) (zz [(0,_),(1,_),(4,_),(6,_),(11,_)] [] λ a w U=>?_)
 refine a4<|a9 U (zm 4 G) (λ hb0=>?_) (λ hb0=>?_)
 ·exact absurd hb0 zd
 ·refine qk<|zt<|qa<|zh [.v 13 _] [.g 0,.g 1,.g 2,.o 0] U (zM 3 G o0) (zz [(0,_),(1,_),(4,_),(13,_)] [] λ a w U=>?_)
  refine a4<|a9 U (zm 3 G) (λ hb1=>?_) (λ hb1=>?_)
  ·exact absurd hb1 zd
  ·refine qk<|zt<|qa<|zh [.v 14 _,.v 15 _,.v 16 _] [.g 0,.g 1,.g 2,.o 2] U (zM 0 G (zM 1 G (zv G (aX (vq 0 G) (vq 1 G)) o0))) (zz [(0,_),(1,_),(4,_),(16,_)] [] λ a w U=>?_)
   refine a4<|a9 U (zm 3 G) (λ hb2=>?_) (λ hb2=>?_)
   ·have h:x<y:=qo hb2
    refine qa<|zh [.v 4 _] [.g 0,.g 1,.o 0] U (zv G (a6 a5) o0) (zz [(0,_),(1,_),(4,_)] [] λ a w U=>?_)
    refine a4<|qe<|ab ?_
    refine aj ?_ (ai G U (zm 2 G))
    rw [cmp1,ql h]; exact ay
   ·have h:¬ x<y:=qx hb2
    refine qk<|zt<|qa<|zh [.v 17 _,.v 18 _,.v 19 _] [.g 2,.o 2] U (zM 0 G (zM 1 G (zv G (cD (vq 0 G) (vq 1 G)) o0))) (zz [(4,_),(19,_)] [] λ a w U=>?_)
    refine a4<|a9 U (zm 1 G) (λ hb3=>?_) (λ hb3=>?_)
    ·have h2:x>y:=qo hb3
     refine qa<|zh [.v 4 _] [.o 0] U (zv G (a6 a5) o0) (zz [(4,_)] [] λ a w U=>?_)
     refine a4<|qe<|ab ?_
     refine aj ?_ (ai G U (zm 0 G))
     rw [cmp1,qj h,ql h2]; exact ay
    ·have h2:¬ x>y:=qx hb3
     refine qk<|zt<|zh [.v 4 _] [.o 0] U (zv G (a6 a5) o0) (zz [(4,_)] [] λ a w U=>?_)
     refine a4<|qe<|aj ?_ (ai G U (zm 0 G))
     rw [cmp1,qj h,qj h2]; exact ay
theorem cmpS_c (xs ys:List Int):Cn Tryz.prog 71 [(SlA 3 [] (xs.map InA)).va,(SlA 3 [] (ys.map InA)).va] (In (cmpL xs ys)):=by
 refine Cn.intro Tryz.func71 G zk nq (λ B w0 a U=>?_)
 have U:=zn [(0,(SlA 3 [] (xs.map InA)).va),(1,(SlA 3 [] (ys.map InA)).va)] [] U
 have hl:=dz (U.vals (0,(SlA 3 [] (xs.map InA)).va) (zm 0 rfl))
 refine qa<|zh [.v 4 _] [.g 0,.g 1,.o 0] U (zv G (a6 a5) o0) (zz [(0,_),(1,_),(4,_)] [] λ a w U=>?_)
 refine zt<|qa<|zh [.v 9 _,.v 10 _,.v 11 _] [.g 0,.g 1,.g 2,.o 0,.o 1,.o 2] U (zM 0 G (zv G (bn Tryz.underlying31 (vq 0 G)) (zv G (a8 a5) o0))) (zz [(0,_),(1,_),(4,_),(9,_),(10,_),(11,_)] [] λ a w U=>?_)
 refine a4<|qq ?_
 have U:=St.sel U [0,1,3,4,5]
 refine wp_loop_ghost (λ n a w=>∃ j:Nat,(n+j=xs.length∧cmpL xs ys=cmpL (xs.drop j) (ys.drop j))∧St B w0 36 [(0,(SlA 3 [] (xs.map InA)).va),(1,(SlA 3 [] (ys.map InA)).va),(9,(SlA 3 [] (xs.map InA)).va),(10,In (xs.length:Nat)),(11,In (j:Nat))] [] a w) (xs.length) ?_ ?_
 ·exact ⟨0,⟨by omega,rfl⟩,by rw [qc] at U; exact U⟩
 intro n a w hI
 obtain ⟨j,⟨hn,hno⟩,U⟩:=hI
 refine qa<|zh [.v 12 _] [.g 0,.g 1,.g 2,.g 3,.g 4,.o 0] U (zv G (aX (gq 4 G) (gq 3 G)) o0) (zz [(0,_),(1,_),(9,_),(10,_),(11,_),(12,_)] [] λ a w U=>?_)
 refine zt<|a9 U (zm 5 G) (λ hb0=>?_) (λ hb0=>?_)
 ·have hj:j<xs.length:=by have:=qo hb0; omega
  refine qk<|zt<|qq<|qa<|zh [.v 13 _,.v 14 _,.v 15 _,.v 5 _,.v 6 _] [.g 0,.g 1,.g 2,.g 3,.g 4,.o 3,.o 4] U (zM 4 G (zv G (cn eT (cE λ _=>rfl) (gq 2 G) (gq 4 G) (bI hj)) (zv G (am (vq 1 G) ty_3) (zA 0 G (zA 2 G o0))))) (zz [(0,_),(1,_),(9,_),(10,_),(11,_),(5,_),(6,_)] [] λ a w U=>?_)
  refine zt<|qa<|zh [.v 16 _,.v 17 _,.v 18 _,.v 19 _] [.g 0,.g 1,.g 2,.g 3,.g 4,.g 5,.g 6,.o 3] U (zM 5 G (zM 1 G (zv G (bn Tryz.underlying31 (vq 1 G)) (zv G (dN (vq 0 G) (vq 2 G)) o0)))) (zz [(0,_),(1,_),(9,_),(10,_),(11,_),(5,_),(6,_),(19,_)] [] λ a w U=>?_)
  refine a4<|a9 U (zm 7 G) (λ hb1=>?_) (λ hb1=>?_)
  ·have hjy:ys.length≤j:=by rw [qc] at hb1; have:=qo hb1; omega
   refine qa<|zh [.v 4 _] [.g 0,.g 1,.g 2,.g 3,.g 4,.g 5,.g 6,.o 0] U (zv G (a6 a5) o0) (zz [(0,_),(1,_),(9,_),(10,_),(11,_),(5,_),(6,_),(4,_)] [] λ a w U=>?_)
   refine a4<|qe<|ab ?_
   refine aD ?_
   refine ab ?_
   refine ab ?_
   refine aD ?_
   refine ab ?_
   refine aj ?_ (ai G U (zm 7 G))
   rw [hno,cmpL_lo hj hjy]; exact ay
  ·have hjy:j<ys.length:=by rw [qc] at hb1; have:=qx hb1; omega
   refine qk<|zt<|zh [.v 20 _,.v 21 _,.v 22 _,.v 23 _,.v 7 _] [.g 0,.g 1,.g 2,.g 3,.g 4,.g 6,.o 4] U (zM 1 G (zM 5 G (zv G (cn eT (cE λ _=>rfl) (vq 0 G) (vq 1 G) (bI hjy)) (zv G (am (vq 2 G) ty_3) (zA 3 G o0))))) (zz [(0,_),(1,_),(9,_),(10,_),(11,_),(6,_),(7,_)] [] λ a w U=>?_)
   refine zt<|zh [.v 24 _,.v 25 _,.v 26 _,.v 8 _] [.g 0,.g 1,.g 2,.g 3,.g 4,.o 3] U (zM 5 G (zM 6 G (zQ G (cmpZ_c _ _) (.p (vq 0 G) (vq 1 G)) (zA 2 G o0)))) (zz [(0,_),(1,_),(9,_),(10,_),(11,_),(8,_)] [] λ a w U=>?_)
   refine zt<|zh [.v 27 _,.v 28 _] [.g 0,.g 1,.g 2,.g 3,.g 4,.g 5,.o 1] U (zM 5 G (zv G (bz (vq 0 G) a5) o0)) (zz [(0,_),(1,_),(9,_),(10,_),(11,_),(8,_),(28,_)] [] λ a w U=>?_)
   refine a4<|a9 U (zm 6 G) (λ hb2=>?_) (λ hb2=>?_)
   ·refine qa<|zh [.v 29 _,.v 4 _] [.g 0,.g 1,.g 2,.g 3,.g 4,.o 1] U (zM 5 G (zA 0 G o0)) (zz [(0,_),(1,_),(9,_),(10,_),(11,_),(4,_)] [] λ a w U=>?_)
    refine a4<|qe<|aD ?_
    refine ab ?_
    refine ab ?_
    refine aD ?_
    refine ab ?_
    refine aj ?_ (ai G U (zm 5 G))
    rw [hno,cmpL_so hj hjy (by simpa using hb2)]; exact ay
   ·refine qk<|al ?_
    refine a4<|zh [.v 30 _,.v 11 _] [.g 0,.g 1,.g 2,.g 3,.o 1] U (zv G (aJ (gq 4 G) a5 ((wi64 zo zo).trans (by omega:(_:Int)=((j+1:Nat):Int)))) (zv G (a8 (vq 0 G)) o0)) (zz [(0,_),(1,_),(9,_),(10,_),(11,_)] [] λ a w U=>?_)
    refine a4 ?_
    have U:=St.sel U [0,1,2,3,4]
    exact ⟨n-1,by omega,j+1,⟨by omega,hno.trans (cmpL_nx hj hjy (by simpa using hb2))⟩,U⟩
 ·obtain rfl:j=xs.length:=by have:=qx hb0; omega
  refine za<|ak<|ak<|aC<|zt<|qa<|zh [.v 31 _,.v 32 _,.v 33 _,.v 34 _,.v 35 _] [.o 4] U (zM 0 G (zv G (bn Tryz.underlying31 (vq 0 G)) (zM 1 G (zv G (bn Tryz.underlying31 (vq 2 G)) (zv G (aX (vq 1 G) (vq 3 G)) o0))))) (zz [(35,_)] [] λ a w U=>?_)
  refine a4<|a9 U (zm 0 G) (λ hb3=>?_) (λ hb3=>?_)
  ·have hle:xs.length<ys.length:=by simp only [qc] at hb3; have:=qo hb3; omega
   refine qa<|zh [.v 4 _] [.o 0] U (zv G (a6 a5) o0) (zz [(4,_)] [] λ a w U=>?_)
   refine a4<|qe<|ab ?_
   refine aj ?_ (ai G U (zm 0 G))
   rw [hno,cmpL_end,ql hle]; exact ay
  ·have hle:¬ xs.length<ys.length:=by simp only [qc] at hb3; have:=qx hb3; omega
   refine qk<|zt<|zh [.v 4 _] [.o 0] U (zv G (a6 a5) o0) (zz [(4,_)] [] λ a w U=>?_)
   refine a4<|qe<|aj ?_ (ai G U (zm 0 G))
   rw [hno,cmpL_end,qj hle]; exact ay
structure WyQ where
 l:List Int
 pw:Rat
 aw:Rat
 c:Int
def WyA (k:Nat)(x:WyQ):As:=cat [SlA 3 [] (x.l.map InA),QA k x.pw,QA k x.aw,InA x.c]
def betF (a b:WyQ):Bool:=if (cmQ a.aw b.aw != 0) then decide (cmQ a.aw b.aw<0) else if (a.c != b.c) then decide (a.c<b.c) else decide (cmpL a.l b.l<0)
theorem better_c {k:Nat}(hk:k≤400000000)(x y:WyQ):Cn Tryz.prog 35 [(WyA k x).va,(WyA k y).va] (Bo (betF x y)):=by
 refine Cn.intro Tryz.func35 G zk nq (λ B w0 a U=>?_)
 have U:=zn [(0,(WyA k x).va),(1,(WyA k y).va)] [] U
 refine qa<|zg [] [⟨2,69,ptrH,some 0,_,none⟩,⟨3,69,ptrH,some 1,_,none⟩] [.alc 0,.alc 1,.v 4 _] [.o 2] U (zW 0 G (zW 1 G (zv G (a6 aH) o0))) (zz [(4,_)] [O 2 69 _,O 3 69 _] λ a w U=>?_)
 refine zt<|qa<|zg [η,η] [] [.adr 6 2 (.some 5) True,.v 7 _,.adr 8 3 (.some 5) True,.v 9 _,.v 10 _,.v 5 _] [.g 0,.o 5] U (zO 0 G dG (zL 0 0 2 G ac (zO 1 G dG (zL 2 1 2 G ac (zQ G (cmp_q zo) (.p (vq 1 G) (vq 3 G)) (zA 4 G o0)))))) (zz [(4,_),(5,_)] [O 2 69 _,O 3 69 _] λ a w U=>?_)
 refine zt<|zg [η,η] [] [.v 11 _,.v 12 _] [.g 0,.g 1,.o 1] U (zM 1 G (zv G (bz (vq 0 G) a5) o0)) (zz [(4,_),(5,_),(12,_)] [O 2 69 _,O 3 69 _] λ a w U=>?_)
 refine a4<|a9 U (zm 2 G) (λ hb0=>?_) (λ hb0=>?_)
 ·refine qa<|zg [η,η] [] [.v 13 _,.v 14 _,.v 4 _] [.o 2] U (zM 1 G (zv G (aX (vq 0 G) a5) (zA 1 G o0))) (zz [(4,_)] [O 2 69 _,O 3 69 _] λ a w U=>?_)
  refine a4<|qe<|ab ?_
  refine aj ?_ (ai G U (zm 0 G))
  rw [betF,ql hb0]; exact ay
 ·refine qk<|zt<|qa<|zg [η,η] [] [.adr 15 2 (.some 9) True,.v 16 _,.adr 17 3 (.some 9) True,.v 18 _,.v 19 _] [.g 0,.o 4] U (zO 0 G en (zL 0 0 3 G ty_3 (zO 1 G en (zL 2 1 3 G ty_3 (zv G (bz (vq 1 G) (vq 3 G)) o0))))) (zz [(4,_),(19,_)] [O 2 69 _,O 3 69 _] λ a w U=>?_)
  refine a4<|a9 U (zm 1 G) (λ hb1=>?_) (λ hb1=>?_)
  ·refine qa<|zg [η,η] [] [.adr 20 2 (.some 9) True,.v 21 _,.adr 22 3 (.some 9) True,.v 23 _,.v 24 _,.v 4 _] [.o 5] U (zO 0 G en (zL 0 0 3 G ty_3 (zO 1 G en (zL 2 1 3 G ty_3 (zv G (aX (vq 1 G) (vq 3 G)) (zA 4 G o0)))))) (zz [(4,_)] [O 2 69 _,O 3 69 _] λ a w U=>?_)
   refine a4<|qe<|ab ?_
   refine aj ?_ (ai G U (zm 0 G))
   rw [betF,qj (by rw [hb0]; decide),ql hb1]; exact ay
  ·refine qk<|zt<|zg [η,η] [] [.adr 25 2 (.some 0) True,.v 26 _,.adr 27 3 (.some 0) True,.v 28 _,.v 29 _,.v 30 _,.v 4 _] [.o 6] U (zO 0 G dH (zL 0 0 0 G eB (zO 1 G dH (zL 2 1 0 G eB (zQ G (cmpS_c _ _) (.p (vq 1 G) (vq 3 G)) (zv G (aX (vq 4 G) a5) (zA 5 G o0))))))) (zz [(4,_)] [O 2 69 _,O 3 69 _] λ a w U=>?_)
   refine a4<|qe<|aj ?_ (ai G U (zm 0 G))
   rw [betF,qj (by rw [hb0]; decide),qj (by rw [hb1]; decide)]; exact ay
end Go.Proofs.YtlakjmncfooodaaGreat
