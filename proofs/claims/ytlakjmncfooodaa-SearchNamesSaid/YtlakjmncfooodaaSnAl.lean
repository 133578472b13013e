import Derived.Test.YtlakjmncfooodaaSnAk
import Derived.ArgAppend
import Derived.Laws.IdiomStrings
set_option linter.all false
set_option maxRecDepth 100000
namespace Go.Proofs.Ytlakjmncfooodaa
open Go Go.RowKit
variable {w:World}{B:Nat}{a:Act}{v:Value}{T:TypeId}{w0:Bs}{Γ:List (Nat × VA)}{Λ:List Lc}{ps:String}{af:Array Edge}{vr:Value}{H:Hd}{cs:List Value}{w':World}{P:Program}{D:List TypeId}
def NewR (b:Nat)(E:TypeId)(l:List As):VA where
 p B v w:=∃ g ds,v=.slice (some ⟨g,0,none⟩) l.length l.length∧b≤g∧w.heap[g]?=some (.cells (List.toArray ds) E (0,0))∧(cat l).p B ds w
 deps:=E::(cat l).deps
 cg:=by
  rintro B v w w' hg ⟨g,ds,e,h1,h2,h3⟩
  exact ⟨g,ds,e,h1,hg.heap h2,(cat l).cg _ _ _ _ hg h3⟩
 wr:=by
  rintro B v w w' g c T fz hgc hT hB hW ⟨g0,ds,e,h1,h2,h3⟩
  simp only [ql,not_or] at hT
  have n1:g0≠g:=by
   rintro rfl
   rw [hgc] at h2
   injection h2 with h2
   injection h2 with _ h2 _
   exact hT.1 h2
  exact ⟨g0,ds,e,h1,by rw [hW.block g0 n1]; exact h2,(cat l).wr _ _ _ _ _ _ _ _ hgc hT.2 hB hW h3⟩
theorem cat_split {l:List As}{m B:Nat}{ds:List Value}(hm:∀ A∈l,A.n=m)(h:(cat l).p B ds w):∀ k,(cat (l.take k)).p B (ds.take (k*m)) w∧(cat (l.drop k)).p B (ds.drop (k*m)) w:=by
 obtain ⟨ps,rfl,h⟩:=h
 induction h with
 | nil=>intro k; simp only [List.take_nil,List.drop_nil,List.flatten_nil]; exact ⟨⟨[],rfl,.nil⟩,⟨[],rfl,.nil⟩⟩
 | @cons A c ls bs h1 h2 ih =>
  intro k
  cases k with
  | zero =>
   simp only [ji,jw,xl]
   exact ⟨⟨[],rfl,.nil⟩,⟨c::bs,rfl,.cons h1 h2⟩⟩
  | succ k =>
   obtain ⟨i1,i2⟩:=ih (λ A' hA=>hm A' (zc _ hA)) k
   have hl:c.length=m:=(A.len _ _ _ h1).trans (hm A (by simp))
   have e1:(c::bs).flatten.take ((k+1)*m)=c++bs.flatten.take (k*m):=by
    rw [za,j3,qA (by rw [hl,xh]; omega),hl]
    congr 2
    rw [xh]
    omega
   have e2:(c::bs).flatten.drop ((k+1)*m)=bs.flatten.drop (k*m):=by
    rw [za,j6,q6 (by rw [hl,xh]; omega),xO,hl]
    congr 1
    rw [xh]
    omega
   rw [e1,e2,List.take_succ_cons,List.drop_succ_cons]
   refine ⟨?_,i2⟩
   obtain ⟨qs,e,hq⟩:=i1
   exact ⟨c::qs,by rw [za,← e],.cons h1 hq⟩
section
variable {P:Program} {R:Rg} {Q:Exit→Act→World→Prop} {B i:Nat} {w0:Bs}
theorem gk {S E:TypeId}{l:List As}{m:Nat}{xs:List Operand}(hS:Sl P S E m)(hz:((P.info? E).bind (·.zero)).isSome=true)(hm:∀ A∈l,A.n=m)(hm0:0<m)(hl0:0<l.length)(hsmall:l.length*m≤16777216)
  (hx:All2 (λ (A:As) x=>Has R B w0 i x A.va) l xs) {ps':Array (Nat × Operand)} (hps:ps'.toList=(xs.zipIdx 0).map λ x=>(x.2,x.1)) {n:Nat} (hn:n=l.length):Wv P Q R B w0 i (.buildSlice S n ps') (NewR w0.w.heap.size E l) :=
 aK λ d T ps af gd a w av=>by
  subst hn
  obtain ⟨hs1,hs2⟩:=hS
  cases hi:P.info? E with
  | none=>rw [hi] at hs2; simp at hs2
  | some it =>
   rw [hi] at hs2 hz
   have hsz:it.size=m:=by simpa using hs2
   obtain ⟨z,hzz⟩:=jo.1 hz
   simp only [j1] at hzz
   have hvs:All2 (λ (A:As) v=>A.va.p B v w) l (xs.map a.eval):=by
    clear hps hm hl0 hsmall
    induction hx with
    | nil=>exact .nil
    | cons h _ ih=>exact .cons (h a w av) ih
   have hlen:=hvs.length
   have hvn:∀ v∈xs.map a.eval,v.cells.size=m:=by
    intro v hv
    obtain ⟨k,hk⟩:=List.getElem?_of_mem hv
    have hkl:k<l.length:=by rw [hlen]; exact (List.getElem?_eq_some_iff.1 hk).1
    obtain ⟨v',hv',cs,hp,he⟩:=hvs.get (List.getElem?_eq_getElem hkl)
    rw [hk] at hv'
    injection hv' with hv'
    subst hv'
    rw [he,As.cells_shape _ hp]
    have:=As.len _ _ _ _ hp
    simp [this]
    exact hm _ (by simp)
   have hf:=Great.fill_whole hm0 (xs.map a.eval) ((Array.range (l.length*m)).map (z.cells[· % z.cells.size]!)) hvn (by simp [hlen])
   have hrun:=run_buildSlice (P:=P) w S E l.length (ps'.map λ x=>(x.1,a.eval x.2)) ((xs.map a.eval).flatMap λ v=>v.cells.toList).toArray it z hs1 hi hzz (by rw [hsz]; omega) (by rw [hsz]; exact Nat.ne_of_gt (xC hl0 hm0)) (by
    rw [hsz,← hf]
    congr 1
    rw [j8,hps]
    simp [kf,xa,Function.comp_def])
   refine ⟨.slice (some ⟨w.heap.size,0,none⟩) l.length l.length,w.alloc (.cells ((xs.map a.eval).flatMap λ v=>v.cells.toList).toArray E),?_,Grow.alloc _ _,w.heap.size,_,rfl,av.base.size,heap_alloc_new w _,(cat l).grow _ _ _ _ (Grow.alloc _ _) (fS hvs)⟩
   simp [execOp,hrun]
theorem r_slH {x y:Operand}{S E:TypeId}{l:List As}{m k:Nat}{kd:IntKind}(hS:Sl P S E m)(hm:∀ A∈l,A.n=m)(hx:Has R B w0 i x (SlA E D l).va)(hy:Has R B w0 i y (NumA kd k).va)(hk:k≤l.length):Wv P Q R B w0 i (.slice S x none (some y) none) (SlA E D (l.take k)).va :=
 aK λ d T ps af gd a w av=>by
  obtain ⟨cs,⟨hD,Ad,c,ds,rfl,h1,h2,h3,h4⟩,hv⟩:=hx a w av
  have hv':a.eval x=.slice Ad l.length c:=hv
  obtain ⟨hs1,hs2⟩:=hS
  have e:=aF (hy a w av)
  have hE:P.elem S=E:=by simp [Program.elem,hs1]
  have hs1':P.underlying S=some (.slice (P.elem S)):=by rw [hE]; exact hs1
  have hr:=run_slice_h (P:=P) w S Ad l.length c hs1' kd (k:Int) zo zo
  have hsz:(sizeOf (P.elem S)).run P w=.ok m w:=by
   rw [hE]
   cases hi:P.info? E with
   | none=>rw [hi] at hs2; simp at hs2
   | some it=>rw [hi] at hs2; simp [sizeOf,typeInfo,hi]; simpa using hs2
  rw [hsz] at hr
  have hlen:(l.take k).length=k:=by rw [zT]; omega
  refine ⟨_,w,?_,Grow.refl w,[.slice (if c=0 then Ad else Ad.map (·.add 0)) k c],⟨λ A hA=>hD A (z7 hA),_,c,ds.take (k*m),by rw [hlen],by rw [hlen]; omega,h2,(cat_split hm h3 k).1,λ hpos=>?_⟩,rfl⟩
  ·simp only [execOp,hv',e,qV,Option.map_none,run_sliceAt_slice _ _ _ _ _ _ hs1',Sem.run_bind,Sem.run_pure]
   erw [hr]
   simp [sliced,shape]
   rfl
  ·rw [hlen] at hpos
   obtain ⟨b,o,rfl,h6,h7,h8⟩:=h4 zo
   have hne:¬ c=0:=by omega
   refine ⟨b,o,by rw [qm hne]; simp [add_k],h6,h7,λ j v hj=>?_⟩
   rw [List.getElem?_take] at hj
   split at hj
   ·exact h8 _ v hj
   ·cases hj
end
def byL (s:ByteArray):List Nat:=s.data.toList.map UInt8.toNat
theorem k9 (s:ByteArray):(byL s).length=s.size:=by unfold byL; rw [qd]; rfl
def BbA (n:Nat):As:=NumA .u8 (n:Int)
def bOk (b:Nat):Bool := !(((decide ((b:Int)<97) || decide ((b:Int)>122))&&(decide ((b:Int)<48) || decide ((b:Int)>57)))&&((b:Int) != 45))
def nmH (s:ByteArray):Bool:=((decide ((s.size:Int)<1) || decide ((s.size:Int)>32)) || decide ((((byL s).getD 0 0:Nat):Int)<97)) || decide ((((byL s).getD 0 0:Nat):Int)>122)
def namF (s:ByteArray):Bool:=if nmH s then false else (byL s).all bOk
theorem st_0 {s:ByteArray}(h:(decide ((s.size:Int)<1) || decide ((s.size:Int)>32))=false):s[0]?=some (s.data.toList.getD 0 0)∧((s.data.toList.getD 0 0).toNat:Nat)=(byL s).getD 0 0:=by
 rw [qJ,qn] at h
 have h0:0<s.size:=by omega
 have h1:0<s.data.toList.length:=by simpa using h0
 constructor
 ·rw [getElem?_pos s 0 h0]
  simp only [Option.some.injEq,List.getD]
  rw [List.getElem?_eq_getElem h1]
  simp [ByteArray.getElem_eq_getElem_data]
 ·unfold byL
  simp only [List.getD]
  rw [List.getElem?_eq_getElem h1,List.getElem?_eq_getElem (by simpa using h1)]
  simp
theorem nm_1 {a b:Bool}(h:(a || b)=false):a=false:=by rw [qJ] at h; exact h.1
theorem by_0 (s:ByteArray):(s.data.toList.getD 0 0).toNat=(byL s).getD 0 0:=by
 unfold byL
 cases s.data.toList <;> rfl
theorem nm_y {s:ByteArray}{b:Bool}(h:(((decide ((s.size:Int)<1) || decide ((s.size:Int)>32)) || decide ((((s.data.toList.getD 0 0).toNat:Nat):Int)<97)) || decide ((((s.data.toList.getD 0 0).toNat:Nat):Int)>122))=b):nmH s=b:=by
 unfold nmH
 rw [← by_0]
 exact h
theorem nm_sz {s:ByteArray}(h:nmH s=false):s.size≤32:=by
 unfold nmH at h
 simp only [qJ,qn] at h
 omega
section
open Rg
variable {P:Program} {Q:Exit→Act→World→Prop} {R:Rg} {B i:Nat} {w0:Bs}
theorem r_lenstr {x:Operand}{S:TypeId}{s:ByteArray}(hS:P.underlying S=some .string)(hx:Has R B w0 i x (EqV (.string s))):Wv P Q R B w0 i (.call ⟨.builtin .len,#[x],#[S]⟩) (In (s.size:Nat)) :=
 aK λ d T ps af gd a w av=>by
  refine ⟨.int .i64 (s.size:Nat),w,?_,Grow.refl w,br _ _ _ _⟩
  have hv':a.eval x=.string s:=hx a w av
  simp [execOp,resolve,invoke,builtin,hv',run_len_string _ _ _ _ hS,goInt]
theorem r_bytes {x:Operand}{S T E:TypeId}{s:ByteArray}(hs:P.underlying S=some .string)(hd:P.underlying T=some (.slice E))(he:P.underlying E=some (.int .u8))(hx:Has R B w0 i x (EqV (.string s)))(hl:s.size≤4096):Wv P Q R B w0 i (.convert S T x) (SlA E [] ((byL s).map BbA)).va :=
 aK λ d T' ps af gd a w av=>by
  have e1:a.eval x=.string s:=hx a w av
  refine ⟨.slice (some ⟨w.heap.size,0,none⟩) s.size (grownCap w s.size 0 E),w.drew.alloc (.cells (bytesRow s (grownCap w s.size 0 E)) E ((bytesRow s (grownCap w s.size 0 E)).size,(bytesRow s (grownCap w s.size 0 E)).size+1)),?_,(Grow.drew w).trans (Grow.alloc w.drew _),?_⟩
  ·simp [execOp,e1,run_bytes_of_string w S T E s hs hd he]
  ·have hcg:=grownCap_ge w s.size 0 E
   have hcm:=grownCap_le_maxLen w s.size 0 E (by unfold maxLen; omega)
   have hlen:((byL s).map BbA).length=s.size:=by rw [qd,k9]
   have hcell:∀ j (hj:j<s.data.size),(w.drew.alloc (.cells (bytesRow s (grownCap w s.size 0 E)) E ((bytesRow s (grownCap w s.size 0 E)).size,(bytesRow s (grownCap w s.size 0 E)).size+1))).cell? ⟨w.heap.size,0+j,none⟩=some (.int .u8 (s.data[j].toNat:Int)):=λ j hj=>by
    rw [qB]
    exact (World.cell?_alloc_mark w.drew _ E _ j).trans (bytesRow_at s _ j hj)
   refine ⟨[.slice (some ⟨w.heap.size,0,none⟩) s.size (grownCap w s.size 0 E)],⟨λ A hA=>?_,some ⟨w.heap.size,0,none⟩,grownCap w s.size 0 E,(byL s).map λ (n:Nat)=>Value.int .u8 (n:Int),?_,by rw [hlen]; exact hcg,hcm,?_,λ _=>⟨w.heap.size,0,rfl,?_,?_,λ j v hv=>?_⟩⟩,rfl⟩
   ·obtain ⟨n,_,rfl⟩:=qo.1 hA
    intro T hT
    cases hT
   ·rw [hlen]
   ·refine ⟨(byL s).map λ (n:Nat)=>[Value.int .u8 (n:Int)],?_,?_⟩
    ·induction byL s with
     | nil=>rfl
     | cons y l ih=>rw [qH,qH,ih,za]; rfl
    ·induction byL s with
     | nil=>exact .nil
     | cons y l ih=>exact .cons rfl ih
   ·show w.heap.size<(w.heap.push _).size
    simp
   ·refine .inr ⟨bytesRow s (grownCap w s.size 0 E),((bytesRow s (grownCap w s.size 0 E)).size,(bytesRow s (grownCap w s.size 0 E)).size+1),?_⟩
    show (w.heap.push _)[w.heap.size]?=_
    simp
   ·have hj:j<s.data.size:=by
     have:=(List.getElem?_eq_some_iff.1 hv).1
     rw [qd,k9] at this
     exact this
    rw [hcell j hj]
    unfold byL at hv
    rw [xa,List.getElem?_map,List.getElem?_eq_getElem (by simpa using hj)] at hv
    simpa using hv
end
theorem named_c (s:ByteArray):Cn Try.prog 28 [EqV (.string s)] (Bo (namF s)):=by
 refine Cn.intro Try.func28 G zk nq (λ B w0 a U=>?_)
 have U:=zn [(0,EqV (.string s))] [] U
 refine qb<|zh [.v 2 _] [.g 0,.o 0] U (zv G (a6 aE) o0) (zz [(0,_),(2,_)] [] λ a w U=>?_)
 refine zt<|qb<|zh [.v 5 _,.v 6 _,.v 7 _,.v 8 _,.f 9 _,.f 10 _,.f 11 _,.v 12 _,.v 13 _,.f 14 _,.f 15 _,.f 16 _,.v 17 _,.v 18 _,.f 19 _,.f 20 _,.f 21 _,.v 22 _] [.g 0,.g 1,.o 17] U (zM 0 G (zv G (r_lenstr zk (vq 0 G)) (zv G (aY (vq 1 G) a5) (zv G (a7 (vq 2 G)) (zB 3 G (λ hg=>a7 (gq 0 G)) (zB 3 G (λ hg=>r_lenstr zk (a9 (vq 4 G) hg)) (zB 3 G (λ hg=>cZ (a9 (vq 5 G) hg) a5) (zv G (r_or (vq 3 G) (vq 6 G)) (zv G (a7 (vq 7 G)) (zB 8 G (λ hg=>a7 (gq 0 G)) (zB 8 G (λ hg=>eu zk (a9 (vq 9 G) hg) a5 (st_0 hg).1) (zB 8 G (λ hg=>aY (a9 (vq 10 G) hg) a5) (zv G (r_or (vq 8 G) (vq 11 G)) (zv G (a7 (vq 12 G)) (zB 13 G (λ hg=>a7 (gq 0 G)) (zB 13 G (λ hg=>eu zk (a9 (vq 14 G) hg) a5 (st_0 (nm_1 hg)).1) (zB 13 G (λ hg=>cZ (a9 (vq 15 G) hg) a5) (zv G (r_or (vq 13 G) (vq 16 G)) o0)))))))))))))))))) (zz [(0,_),(2,_),(22,_)] [] λ a w U=>?_)
 refine a4<|aa U (zm 2 G) (λ hb0=>?_) (λ hb0=>?_)
 ·have hd:nmH s=true:=nm_y hb0
  refine qb<|zh [.v 2 _] [.g 0,.o 0] U (zv G (a6 aE) o0) (zz [(0,_),(2,_)] [] λ a w U=>?_)
  refine a4<|qh<|ac ?_
  refine an ?_ (ae G U (zm 1 G))
  rw [namF,qy hd]; exact aC
 ·have hd:nmH s=false:=nm_y hb0
  have hsz:=nm_sz hd
  have hbl:=k9 s
  refine qk<|zt<|qb<|zh [.v 23 _,.v 24 _,.v 25 _,.v 26 _] [.g 1,.o 1,.o 2,.o 3] U (zM 0 G (zv G (r_bytes zk Try.underlying97 zk (vq 0 G) zo) (zv G (bH Try.underlying97 (vq 1 G)) (zv G (a7 a5) o0)))) (zz [(2,_),(24,_),(25,_),(26,_)] [] λ a w U=>?_)
  refine a4<|qt ?_
  have U:=St.sel U [1,2,3]
  refine wp_loop_ghost (λ n a w=>∃ j:Nat,(n+j=(byL s).length∧((byL s).take j).all bOk=true)∧St B w0 49 [(24,(SlA 5 [] ((byL s).map BbA)).va),(25,In ((byL s).length:Nat)),(26,In (j:Nat))] [] a w) ((byL s).length) ?_ ?_
  ·exact ⟨0,⟨by omega,rfl⟩,by rw [qd] at U; exact U⟩
  intro n a w hI
  obtain ⟨j,⟨hn,hno⟩,U⟩:=hI
  refine qb<|zh [.v 27 _] [.g 0,.g 1,.g 2,.o 0] U (zv G (aY (gq 2 G) (gq 1 G)) o0) (zz [(24,_),(25,_),(26,_),(27,_)] [] λ a w U=>?_)
  refine zt<|aa U (zm 3 G) (λ hb1=>?_) (λ hb1=>?_)
  ·have hj:j<(byL s).length:=by have:=qw hb1; omega
   refine qk<|zt<|qt<|qb<|zh [.v 28 _,.v 29 _,.v 4 _] [.g 0,.g 1,.g 2,.o 2] U (zv G (cy sl_97 (cE λ _=>rfl) (gq 0 G) (gq 2 G) (cb hj)) (zv G (al (vq 0 G) ty_5) (zA 1 G o0))) (zz [(24,_),(25,_),(26,_),(4,_)] [] λ a w U=>?_)
   refine zt<|zh [.v 30 _,.v 31 _,.v 32 _,.f 33 _,.f 34 _,.v 35 _,.v 36 _,.t 37 _,.t 38 _,.t 39 _,.v 40 (Wh ((_=true)∧_=false) _),.v 41 (Wh ((_=true)∧_=false) _),.t 42 _,.v 43 _,.v 44 _,.t 45 _,.t 46 _,.v 47 _] [.g 0,.g 1,.g 2,.o 17] U (zM 3 G (zv G (aY (vq 0 G) a5) (zv G (a7 (vq 1 G)) (zB 2 G (λ hg=>a7 (gq 3 G)) (zB 2 G (λ hg=>cZ (a9 (vq 3 G) hg) a5) (zv G (r_or (vq 2 G) (vq 4 G)) (zv G (a7 (vq 5 G)) (zB 6 G (λ hg=>a7 (gq 3 G)) (zB 6 G (λ hg=>aY (a9 (vq 7 G) hg) a5) (zB 6 G (λ hg=>a7 (a9 (vq 8 G) hg)) (oc (dA G G G (vq 9 G) nq (λ hg=>a7 (gq 3 G))) (oc (dA G G G (vq 9 G) nq (λ hg=>cZ (a9 (vq 10 G) hg) a5)) (zB 6 G (λ hg=>r_or (a9 (vq 9 G) hg) (iO (vq 11 G) hg)) (zv G (bi (vq 6 G) (vq 12 G)) (zv G (a7 (vq 13 G)) (zB 14 G (λ hg=>a7 (gq 3 G)) (zB 14 G (λ hg=>bM (a9 (vq 15 G) hg) a5) (zv G (bi (vq 14 G) (vq 16 G)) o0)))))))))))))))))) (zz [(24,_),(25,_),(26,_),(47,_)] [] λ a w U=>?_)
   refine a4<|aa U (zm 3 G) (λ hb2=>?_) (λ hb2=>?_)
   ·refine qb<|zh [.v 2 _] [.g 0,.g 1,.g 2,.o 0] U (zv G (a6 aE) o0) (zz [(24,_),(25,_),(26,_),(2,_)] [] λ a w U=>?_)
    refine a4<|qh<|aA ?_
    refine ac ?_
    refine ac ?_
    refine aA ?_
    refine ac ?_
    refine an ?_ (ae G U (zm 3 G))
    rw [namF,qm (by rw [hd]; decide),all_so hj (by unfold bOk; rw [hb2]; rfl)]; exact aC
   ·refine qk<|ai ?_
    refine a4<|zh [.v 48 _,.v 26 _] [.g 0,.g 1,.o 1] U (zv G (aU (gq 2 G) a5 ((wi64 zo zo).trans (by omega:(_:Int)=((j+1:Nat):Int)))) (zv G (a7 (vq 0 G)) o0)) (zz [(24,_),(25,_),(26,_)] [] λ a w U=>?_)
    refine a4 ?_
    have U:=St.sel U [0,1,2]
    exact ⟨n-1,by omega,j+1,⟨by omega,all_nx hj hno (by unfold bOk; rw [hb2]; rfl)⟩,U⟩
  ·obtain rfl:j=(byL s).length:=by have:=qx hb1; omega
   refine zf<|aj<|aj<|az<|zt<|zh [.v 2 _] [.o 0] U (zv G (a6 aE) o0) (zz [(2,_)] [] λ a w U=>?_)
   refine a4<|qh<|an ?_ (ae G U (zm 0 G))
   rw [qN] at hno; rw [namF,qm (by rw [hd]; decide),hno]; exact aC
structure RPt where
 nm:ByteArray
 e:RE
 c:Int
structure RTk where
 sp:List RF
 ps:List RPt
 tg:RF
def InA (n:Int):As:=NumA .i64 n
def PtA (x:RPt):As:=cat [EqA (.string x.nm),REA x.e,InA x.c]
def TkA (t:RTk):As:=cat [SlA 27 [U32] (t.sp.map RFA),SlA 52 [U32] (t.ps.map PtA),RFA t.tg]
theorem eqa_v:Wk (EqA v).va (EqV v):=λ B u w h=>fT h
theorem named_a (s:ByteArray):Cn Try.prog 28 [(EqA (.string s)).va] (Bo (namF s)):=(named_c s).wk (.cons eqa_v .nil)
def sloF (t:RTk):Int:=IntKind.i64.wrap ((t.sp.length:Int)-1)
def pkQ (t:RTk)(i:Int):Bool:=decide (i<0) || decide (i≥(t.ps.length:Int))
def pkF (t:RTk)(l:List Int):Bool:=decide ((l.length:Int)≤sloF t) && !l.any (pkQ t)
def whF (t:RTk)(l:List Int):Bool:=((l.length:Int)==sloF t)&&pkF t l
def FnC (f:FuncId)(PT:VA):VA where
 p B v w:=∃ g,v=.func (.func f) #[] #[ptr g]∧PT.p B (ptr g) w
 deps:=PT.deps
 cg:=λ B v w w' hg ⟨g,h1,h2⟩=>⟨g,h1,PT.cg _ _ _ _ hg h2⟩
 wr:=λ B v w w' g c T fz q1 q2 q3 q4 ⟨g',h1,h2⟩=>⟨g',h1,PT.wr _ _ _ _ _ _ _ _ q1 q2 q3 q4 h2⟩
def fstI (q:Int→Bool):List Int→Nat→Int
 | [],_ => -1
 | x::l,k=>if q x then (k:Int) else fstI q l (k+1)
theorem fstI_any (q:Int→Bool):∀ (l:List Int) (k:Nat),decide (fstI q l k≥0)=l.any q
 | [],k=>rfl
 | x::l,k=>by
  rw [fstI,List.any_cons]
  by_cases h:q x=true
  ·rw [qy h,h,Bool.true_or]
   exact zw (Int.natCast_nonneg k)
  ·rw [qm h,fstI_any q l,zK.2 h,xc]
theorem fst_go {q:Int→Bool}{l:List Int}{j:Nat}(h:j<l.length)(h2:q l[j]=false):fstI q (l.drop j) j=fstI q (l.drop (j+1)) (j+1):=by rw [qP h,fstI,h2]; rfl
theorem fst_hit {q:Int→Bool}{l:List Int}{j:Nat}(h:j<l.length)(h2:q l[j]=true):fstI q (l.drop j) j=(j:Int):=by rw [qP h,fstI,h2]; rfl
section
open Rg
variable {P:Program} {Q:Exit→Act→World→Prop} {R:Rg} {B i:Nat} {w0:Bs}
theorem r_mkC {f:FuncId}{T1:TypeId}{A1:As}{s1:Nat}(h1:Loc R i s1 T1 A1):Wv P Q R B w0 i (.makeFunc (.func f) #[] #[.tmp s1]) (FnC f (ElP T1 A1)) :=
 aK λ _ _ _ _ _ a w av=>by
  obtain ⟨g1,c1,e1,m1,h3,h4⟩:=h1.ok av
  have e1':a.eval (.tmp s1)=ptr g1:=e1
  refine ⟨.func (.func f) #[] (#[Operand.tmp s1].map a.eval),w,by simp [execOp,Instr.makeFunc],Grow.refl w,g1,by simp [e1'],g1,0,c1,rfl,(Array.getElem?_eq_some_iff.1 h3).1,.inr ⟨_,_,h3⟩,h4,λ j u hu=>?_⟩
  have:=ee (k:=0) h3 c1.length j u (by rw [xl,qN]; exact hu)
  exact this
theorem r_callC {c:Nat}{f:FuncId}{xs:List Operand}{As':List VA}{A PT:VA}{at_:Array TypeId}(hc:Cn P f (As'++[PT]) A)(hv:Has R B w0 i (.tmp c) (FnC f PT))(hx:HasL R B w0 i xs As'):Wv P Q R B w0 i (.call ⟨.value (.tmp c),xs.toArray,at_⟩) A:=by
 intro d T ps af gd a w av K hK
 obtain ⟨⟨fn,hf,hn,hb⟩,hcall⟩:=hc
 obtain ⟨g,ev,hp⟩:=hv a w av
 have hrun:(execOp a.eval ⟨some d,.call ⟨.value (.tmp c),xs.toArray,at_⟩,T,ps,af,gd⟩).run P w=.ok (.enter f (xs.map a.eval++[ptr g]).toArray) w:=by
  simp only [execOp,resolve,ev,Deferred.ofValue,Sem.run_bind,Sem.run_pure,Result.andThen_ok,invoke,aX hf hn hb]
  simp
 unfold Oper.wp
 rw [hrun]
 have key:∀ {ls:List VA} {vs:List Value},All2 (λ (A:VA) v=>A.p B v w) ls vs→All2 (λ (A:VA) v=>A.p B v w) (ls++[PT]) (vs++[ptr g]):=λ {ls vs} h=>by
  induction h with
  | nil=>exact .cons hp .nil
  | cons h _ ih=>exact .cons h ih
 exact (hcall B w _ (Av.bw av) (key (hx.all av))).mono λ e w' ⟨v,he,hv,hg⟩=>by subst he; exact hK v w' hg hv
end
theorem gf (t:RTk):Cn Try.prog 30 [(TkA t).va] (In (sloF t)):=by
 refine Cn.intro Try.func30 G zk nq (λ B w0 a U=>?_)
 have U:=zn [(0,(TkA t).va)] [] U
 refine qb<|zg [] [⟨1,36,ptrH,some 0,_,none⟩] [.alc 0,.v 2 _] [.o 1] U (zW 0 G (zv G (a6 a5) o0)) (zz [(2,_)] [O 1 36 _] λ a w U=>?_)
 refine zt<|zg [η] [] [.adr 3 1 (.some 0) True,.v 4 _,.v 5 _,.v 6 _,.v 2 _] [.o 4] U (zO 0 G bF (zL 0 0 0 G el (zv G (bH Try.underlying33 (vq 1 G)) (zv G (cu (vq 2 G) a5 (G)) (zA 3 G o0))))) (zz [(2,_)] [O 1 36 _] λ a w U=>?_)
 refine a4<|qh<|an ?_ (ae G U (zm 0 G))
 simp only [qd]; exact aC
theorem picked1_c (t:RTk)(i:Int):Cn Try.prog 45 [In i,ElP 36 (TkA t)] (Bo (pkQ t i)):=by
 refine Cn.intro Try.func45 G zk nq (λ B w0 a U=>?_)
 have U:=zn [(0,In i),(1,ElP 36 (TkA t))] [] U
 refine qb<|zh [.v 3 _] [.g 0,.g 1,.o 0] U (zv G (a6 aE) o0) (zz [(0,_),(1,_),(3,_)] [] λ a w U=>?_)
 refine zt<|zh [.v 4 _,.v 5 _,.v 6 _,.f 7 _,.f 8 _,.f 9 _,.f 10 _,.f 11 _,.v 12 _,.v 3 _] [.o 9] U (zM 0 G (zv G (aY (vq 0 G) a5) (zv G (a7 (vq 1 G)) (zB 2 G (λ hg=>a7 (gq 0 G)) (zB 2 G (λ hg=>bv (gq 1 G) bE (Sub.part 1 G G)) (zB 2 G (λ hg=>al (a9 (vq 4 G) hg) ek) (zB 2 G (λ hg=>bH Try.underlying34 (a9 (vq 5 G) hg)) (zB 2 G (λ hg=>dH (a9 (vq 3 G) hg) (a9 (vq 6 G) hg)) (zv G (r_or (vq 2 G) (vq 7 G)) (zA 8 G o0)))))))))) (zz [(3,_)] [] λ a w U=>?_)
 refine a4<|qh<|an ?_ (ae G U (zm 0 G))
 simp only [qd]; exact aC
theorem idxF_c {f:FuncId}{q:Int→Bool}{PT:VA}(hc:∀ n,Cn Try.prog f [In n,PT] (Bo (q n)))(xs:List Int):Cn Try.prog 64 [(SlA 3 [] (xs.map InA)).va,FnC f PT] (In (fstI q xs 0)):=by
 refine Cn.intro Try.func64 G zk nq (λ B w0 a U=>?_)
 have U:=zn [(0,(SlA 3 [] (xs.map InA)).va),(1,FnC f PT)] [] U
 have hl:=gg (U.vals (0,(SlA 3 [] (xs.map InA)).va) (zm 0 rfl))
 refine qb<|zh [.v 4 _] [.g 0,.g 1,.o 0] U (zv G (a6 a5) o0) (zz [(0,_),(1,_),(4,_)] [] λ a w U=>?_)
 refine zt<|qb<|zh [.v 6 _,.v 7 _,.v 8 _] [.g 0,.g 1,.g 2,.o 1,.o 2] U (zM 0 G (zv G (bH Try.underlying22 (vq 0 G)) (zv G (a7 a5) o0))) (zz [(0,_),(1,_),(4,_),(7,_),(8,_)] [] λ a w U=>?_)
 refine a4<|qt ?_
 have U:=St.sel U [0,1,3,4]
 refine wp_loop_ghost (λ n a w=>∃ j:Nat,(n+j=xs.length∧fstI q xs 0=fstI q (xs.drop j) j)∧St B w0 19 [(0,(SlA 3 [] (xs.map InA)).va),(1,FnC f PT),(7,In (xs.length:Nat)),(8,In (j:Nat))] [] a w) (xs.length) ?_ ?_
 ·exact ⟨0,⟨by omega,rfl⟩,by rw [qd] at U; exact U⟩
 intro n a w hI
 obtain ⟨j,⟨hn,hno⟩,U⟩:=hI
 refine qb<|zh [.v 9 _] [.g 0,.g 1,.g 2,.g 3,.o 0] U (zv G (aY (gq 3 G) (gq 2 G)) o0) (zz [(0,_),(1,_),(7,_),(8,_),(9,_)] [] λ a w U=>?_)
 refine zt<|aa U (zm 4 G) (λ hb0=>?_) (λ hb0=>?_)
 ·have hj:j<xs.length:=by have:=qw hb0; omega
  refine qk<|zt<|qt<|qb<|zh [.v 10 _,.v 5 _] [.g 0,.g 1,.g 2,.g 3,.o 1] U (zM 3 G (zA 0 G o0)) (zz [(0,_),(1,_),(7,_),(8,_),(5,_)] [] λ a w U=>?_)
  refine zt<|zh [.v 11 _,.v 12 _,.v 13 _,.v 14 _,.v 15 _,.v 16 _] [.g 0,.g 1,.g 2,.g 3,.g 4,.o 5] U (zM 1 G (zM 0 G (zM 4 G (zv G (cy cD (cE λ _=>rfl) (vq 1 G) (vq 2 G) (cb hj)) (zv G (al (vq 3 G) ty_3) (zv G (r_callC (As':=[In xs[j]]) (hc _) (vq 0 G) (.o (vq 4 G))) o0)))))) (zz [(0,_),(1,_),(7,_),(8,_),(5,_),(16,_)] [] λ a w U=>?_)
  refine a4<|aa U (zm 5 G) (λ hb1=>?_) (λ hb1=>?_)
  ·refine qb<|zh [.v 17 _,.v 4 _] [.g 0,.g 1,.g 2,.g 3,.o 1] U (zM 4 G (zA 0 G o0)) (zz [(0,_),(1,_),(7,_),(8,_),(4,_)] [] λ a w U=>?_)
   refine a4<|qh<|aA ?_
   refine ac ?_
   refine ac ?_
   refine aA ?_
   refine ac ?_
   refine an ?_ (ae G U (zm 4 G))
   rw [hno,fst_hit hj hb1]; exact aC
  ·refine qk<|ai ?_
   refine a4<|zh [.v 18 _,.v 8 _] [.g 0,.g 1,.g 2,.o 1] U (zv G (aU (gq 3 G) a5 ((wi64 zo zo).trans (by omega:(_:Int)=((j+1:Nat):Int)))) (zv G (a7 (vq 0 G)) o0)) (zz [(0,_),(1,_),(7,_),(8,_)] [] λ a w U=>?_)
   refine a4 ?_
   have U:=St.sel U [0,1,2,3]
   exact ⟨n-1,by omega,j+1,⟨by omega,hno.trans (fst_go hj hb1)⟩,U⟩
 ·obtain rfl:j=xs.length:=by have:=qx hb0; omega
  refine zf<|aj<|aj<|az<|zt<|zh [.v 4 _] [.o 0] U (zv G (a6 a5) o0) (zz [(4,_)] [] λ a w U=>?_)
  refine a4<|qh<|an ?_ (ae G U (zm 0 G))
  rw [hno,xr]; exact aC
theorem conF_c {f:FuncId}{q:Int→Bool}{PT:VA}(hc:∀ n,Cn Try.prog f [In n,PT] (Bo (q n)))(xs:List Int):Cn Try.prog 44 [(SlA 3 [] (xs.map InA)).va,FnC f PT] (Bo (xs.any q)):=by
 refine Cn.intro Try.func44 G zk nq (λ B w0 a U=>?_)
 have U:=zn [(0,(SlA 3 [] (xs.map InA)).va),(1,FnC f PT)] [] U
 refine qb<|zh [.v 4 _] [.g 0,.g 1,.o 0] U (zv G (a6 aE) o0) (zz [(0,_),(1,_),(4,_)] [] λ a w U=>?_)
 refine zt<|zh [.v 5 _,.v 6 _,.v 7 _,.v 8 _,.v 4 _] [.o 4] U (zM 0 G (zM 1 G (zQ G (idxF_c hc xs) (.p (vq 0 G) (vq 1 G)) (zv G (dH (vq 2 G) a5) (zA 3 G o0))))) (zz [(4,_)] [] λ a w U=>?_)
 refine a4<|qh<|an ?_ (ae G U (zm 0 G))
 rw [← fstI_any q xs 0]; exact aC
theorem picked_c (t:RTk)(xs:List Int):Cn Try.prog 22 [(TkA t).va,(SlA 3 [] (xs.map InA)).va] (Bo (pkF t xs)):=by
 refine Cn.intro Try.func22 G zk nq (λ B w0 a U=>?_)
 have U:=zn [(0,(TkA t).va),(1,(SlA 3 [] (xs.map InA)).va)] [] U
 refine qb<|zg [] [⟨2,36,ptrH,some 0,_,none⟩] [.alc 0,.v 4 _] [.g 1,.o 1] U (zW 0 G (zv G (a6 aE) o0)) (zz [(1,_),(4,_)] [O 2 36 _] λ a w U=>?_)
 refine zt<|zg [η] [] [.v 5 _,.v 6 _,.v 7 _,.v 8 _,.v 9 _,.v 10 _,.t 11 _,.t 12 _,.t 13 _,.t 14 _,.v 15 _,.v 4 _] [.o 11] U (zM 0 G (zv G (bH Try.underlying22 (vq 0 G)) (zl 0 G bG (zQ G (gf t) (.o (vq 2 G)) (zv G (r_leq (vq 1 G) (vq 3 G)) (zv G (a7 (vq 4 G)) (zB 5 G (λ hg=>a7 (gq 0 G)) (zB 5 G (λ hg=>r_mkC (lz0 0 G)) (zB 5 G (λ hg=>aW (conF_c (picked1_c t) xs) (.p (a9 (vq 6 G) hg) (a9 (vq 7 G) hg))) (zB 5 G (λ hg=>fh (a9 (vq 8 G) hg)) (zv G (bi (vq 5 G) (vq 9 G)) (zA 10 G o0)))))))))))) (zz [(4,_)] [O 2 36 _] λ a w U=>?_)
 refine a4<|qh<|an ?_ (ae G U (zm 0 G))
 simp only [qd]; exact aC
theorem iC (t:RTk)(xs:List Int):Cn Try.prog 20 [(TkA t).va,(SlA 3 [] (xs.map InA)).va] (Bo (whF t xs)):=by
 refine Cn.intro Try.func20 G zk nq (λ B w0 a U=>?_)
 have U:=zn [(0,(TkA t).va),(1,(SlA 3 [] (xs.map InA)).va)] [] U
 refine qb<|zg [] [⟨2,36,ptrH,some 0,_,none⟩] [.alc 0,.v 4 _] [.g 1,.o 1] U (zW 0 G (zv G (a6 aE) o0)) (zz [(1,_),(4,_)] [O 2 36 _] λ a w U=>?_)
 refine zt<|zg [η] [] [.v 5 _,.v 6 _,.v 7 _,.v 8 _,.v 9 _,.v 10 _,.t 11 _,.t 12 _,.t 13 _,.v 14 _,.v 4 _] [.o 10] U (zM 0 G (zv G (bH Try.underlying22 (vq 0 G)) (zl 0 G bG (zQ G (gf t) (.o (vq 2 G)) (zv G (bd (vq 1 G) (vq 3 G)) (zv G (a7 (vq 4 G)) (zB 5 G (λ hg=>d0 (lz0 0 G) bG) (zB 5 G (λ hg=>a7 (gq 0 G)) (zB 5 G (λ hg=>aW (picked_c t xs) (.p (a9 (vq 6 G) hg) (a9 (vq 7 G) hg))) (zv G (bi (vq 5 G) (vq 8 G)) (zA 9 G o0))))))))))) (zz [(4,_)] [O 2 36 _] λ a w U=>?_)
 refine a4<|qh<|an ?_ (ae G U (zm 0 G))
 simp only [qd]; exact aC
def CoA (k:Nat)(m:MQ):As:=cat [QA k m.a,QA k m.c]
theorem iV {k k' b:Nat}{y u:Rat}{m:MQ}(hy:y=m.a)(hu:u=m.c)(h:RepM b m):WkA (cat [QA k y,QA k' u]) (CoA b m):=by
 subst hy
 subst hu
 exact bc (.cons (qa_bQ (rep_bQ h).1) (.cons (qa_bQ (rep_bQ h).2.2.1) .nil))
def spE (x:RF):RE:=⟨1,x,rfOf 0⟩
theorem thr_1 {x:RE}(h:x.k=1):elM x=⟨1,toQ x.p,0,1⟩:=by unfold elM elQ; rw [h]; rfl
theorem thr_2 {x:RE}(h:x.k=2):elM x=⟨1,0,0-toQ x.p,1⟩:=by unfold elM elQ; rw [h]; rfl
theorem thr_3 {x:RE}(h:x.k=3):elM x=⟨1,toQ x.p/toQ x.q,0,1⟩:=by unfold elM elQ; rw [h]; rfl
theorem thr_4 {x:RE}(h:x.k=4):elM x=⟨1,0,0-toQ x.p*toQ x.q,1⟩:=by unfold elM elQ; rw [h]; rfl
theorem thr_5 {x:RE}(h:x.k=5):elM x=⟨0-1,0-0,0-0,0-1⟩:=by unfold elM elQ; rw [h]; rfl
theorem dE {x:RE}{b:Nat}{m:MQ}(h:elF x=true)(hm:RepM b m):RepM (b+4097) (mulQ (elM x) m):=by
 have:=rep_mul (el_rep h) hm
 rwa [show 4096+b+1=b+4097 by omega] at this
theorem sp_re {x:RF}(h:okX x=true){k:Nat}:WkA (cat [NumA .u8 1,QA k (toQ x),QA 2 0]) (REA (spE x)):=bc (.cons (.refl _) (.cons (qaA.trans (eX (qu RFA (okX_q h).1.symm))) (.cons qaA .nil)))
theorem space_c {x:RF}(hx:okX x=true):Cn Try.prog 21 [(RFA x).va] ((REA (spE x)).va):=by
 refine Cn.intro Try.func21 G zk nq (λ B w0 a U=>?_)
 have U:=zn [(0,(RFA x).va)] [] U
 refine qb<|zg [] [⟨1,27,ptrH,some 0,_,none⟩,⟨2,50,ptrH,some 1,_,none⟩] [.alc 0,.alc 1] [] U (zW 0 G (zY G (Str.zero df) o0)) (zz [] [O 1 27 _,O 2 50 _] λ a w U=>?_)
 have U:=St.wkL U 0 rfl (qa_x hx (qf _))
 have U:=zn [] [O 1 27 _,O 2 50 _] U
 refine zt<|zg [η,some (4,_)] [] [.v 3 _,.v 4 _,.v 5 _,.v 6 _,.sto 1] [] U (zl 0 G ar (zQ G (copy_q zo) (.o (vq 0 G)) (zQ G nought_q .nil (zv G (aO (qs:=[(0,_),(1,_),(2,_)]) df (.cons ⟨rfl,a5,rfl⟩ (.cons ⟨rfl,vq 1 rfl,rfl⟩ (.cons ⟨rfl,vq 2 rfl,rfl⟩ .nil)))) (zS 3 G fZ o0))))) (zz [] [O 1 27 _,O 2 50 _] λ a w U=>?_)
 refine a4<|qh<|an ?_ (ax G U (zm 1 G) fZ)
 exact (sp_re hx).va
def cmp1 (x y:Int):Int:=if x<y then -1 else if x>y then 1 else 0
def cmpL:List Int→List Int→Int
 | [],[]=>0
 | [],_::_ => -1
 | _::_,[]=>1
 | x::xs,y::ys=>if cmp1 x y=0 then cmpL xs ys else cmp1 x y
theorem cmpL_nx {xs ys:List Int}{j:Nat}(h:j<xs.length)(h':j<ys.length)(e:cmp1 xs[j] ys[j]=0):cmpL (xs.drop j) (ys.drop j)=cmpL (xs.drop (j+1)) (ys.drop (j+1)):=by
 rw [qP h,qP h',cmpL,qy e]
theorem cmpL_so {xs ys:List Int}{j:Nat}(h:j<xs.length)(h':j<ys.length)(e:cmp1 xs[j] ys[j]≠0):cmpL (xs.drop j) (ys.drop j)=cmp1 xs[j] ys[j]:=by
 rw [qP h,qP h',cmpL,qm e]
theorem cmpL_lo {xs ys:List Int}{j:Nat}(h:j<xs.length)(h':ys.length≤j):cmpL (xs.drop j) (ys.drop j)=1:=by
 rw [qP h,q6 h']; rfl
theorem cmpL_end {xs ys:List Int}:cmpL (xs.drop xs.length) (ys.drop xs.length)=if xs.length<ys.length then -1 else 0:=by
 rw [xr]
 by_cases h:xs.length<ys.length
 ·rw [qy h,qP h]; rfl
 ·rw [qm h,q6 zo]; rfl
theorem isNan_c (x:Int):Cn Try.prog 69 [In x] (Bo false):=by
 refine Cn.intro Try.func69 G zk nq (λ B w0 a U=>?_)
 have U:=zn [(0,In x)] [] U
 refine qb<|zh [.v 2 _] [.g 0,.o 0] U (zv G (a6 aE) o0) (zz [(0,_),(2,_)] [] λ a w U=>?_)
 refine zt<|zh [.v 3 _,.v 4 _,.v 5 _,.v 2 _] [.o 3] U (zM 0 G (zM 0 G (zv G (bM (vq 0 G) (vq 1 G)) (zA 2 G o0)))) (zz [(2,_)] [] λ a w U=>?_)
 refine a4<|qh<|an ?_ (ae G U (zm 0 G))
 refine cd (qu Bo ?_); simp
theorem cmpZ_c (x y:Int):Cn Try.prog 58 [In x,In y] (In (cmp1 x y)):=by
 refine Cn.intro Try.func58 G zk nq (λ B w0 a U=>?_)
 have U:=zn [(0,In x),(1,In y)] [] U
 refine qb<|zh [.v 4 _] [.g 0,.g 1,.o 0] U (zv G (a6 a5) o0) (zz [(0,_),(1,_),(4,_)] [] λ a w U=>?_)
 refine zt<|zh [.v 7 _,.v 8 _,.v 5 _] [.g 0,.g 1,.g 2,.o 2] U (zM 0 G (zQ G (isNan_c _) (.o (vq 0 G)) (zA 1 G o0))) (zz [(0,_),(1,_),(4,_),(5,_)] [] λ a w U=>?_)
 refine zt<|zh [.v 9 _,.v 10 _,.v 6 _] [.g 0,.g 1,.g 2,.g 3,.o 2] U (zM 1 G (zQ G (isNan_c _) (.o (vq 0 G)) (zA 1 G o0))) (zz [(0,_),(1,_),(4,_),(5,_),(6,_)] [] λ a w U=>?_)
 refine zt<|qb<|zh [.v 11 _] [.g 0,.g 1,.g 2,.g 4,.o 0] U (zM 3 G o0) (zz [(0,_),(1,_),(4,_),(6,_),(11,_)] [] λ a w U=>?_)
 refine a4<|aa U (zm 4 G) (λ hb0=>?_) (λ hb0=>?_)
 ·exact absurd hb0 zd
 ·refine qk<|zt<|qb<|zh [.v 13 _] [.g 0,.g 1,.g 2,.o 0] U (zM 3 G o0) (zz [(0,_),(1,_),(4,_),(13,_)] [] λ a w U=>?_)
  refine a4<|aa U (zm 3 G) (λ hb1=>?_) (λ hb1=>?_)
  ·exact absurd hb1 zd
  ·refine qk<|zt<|qb<|zh [.v 14 _,.v 15 _,.v 16 _] [.g 0,.g 1,.g 2,.o 2] U (zM 0 G (zM 1 G (zv G (aY (vq 0 G) (vq 1 G)) o0))) (zz [(0,_),(1,_),(4,_),(16,_)] [] λ a w U=>?_)
   refine a4<|aa U (zm 3 G) (λ hb2=>?_) (λ hb2=>?_)
   ·have h:x<y:=qw hb2
    refine qb<|zh [.v 4 _] [.g 0,.g 1,.o 0] U (zv G (a6 a5) o0) (zz [(0,_),(1,_),(4,_)] [] λ a w U=>?_)
    refine a4<|qh<|ac ?_
    refine an ?_ (ae G U (zm 2 G))
    rw [cmp1,qy h]; exact aC
   ·have h:¬ x<y:=qx hb2
    refine qk<|zt<|qb<|zh [.v 17 _,.v 18 _,.v 19 _] [.g 2,.o 2] U (zM 0 G (zM 1 G (zv G (cZ (vq 0 G) (vq 1 G)) o0))) (zz [(4,_),(19,_)] [] λ a w U=>?_)
    refine a4<|aa U (zm 1 G) (λ hb3=>?_) (λ hb3=>?_)
    ·have h2:x>y:=qw hb3
     refine qb<|zh [.v 4 _] [.o 0] U (zv G (a6 a5) o0) (zz [(4,_)] [] λ a w U=>?_)
     refine a4<|qh<|ac ?_
     refine an ?_ (ae G U (zm 0 G))
     rw [cmp1,qm h,qy h2]; exact aC
    ·have h2:¬ x>y:=qx hb3
     refine qk<|zt<|zh [.v 4 _] [.o 0] U (zv G (a6 a5) o0) (zz [(4,_)] [] λ a w U=>?_)
     refine a4<|qh<|an ?_ (ae G U (zm 0 G))
     rw [cmp1,qm h,qm h2]; exact aC
theorem cmpS_c (xs ys:List Int):Cn Try.prog 40 [(SlA 3 [] (xs.map InA)).va,(SlA 3 [] (ys.map InA)).va] (In (cmpL xs ys)):=by
 refine Cn.intro Try.func40 G zk nq (λ B w0 a U=>?_)
 have U:=zn [(0,(SlA 3 [] (xs.map InA)).va),(1,(SlA 3 [] (ys.map InA)).va)] [] U
 have hl:=gg (U.vals (0,(SlA 3 [] (xs.map InA)).va) (zm 0 rfl))
 refine qb<|zh [.v 4 _] [.g 0,.g 1,.o 0] U (zv G (a6 a5) o0) (zz [(0,_),(1,_),(4,_)] [] λ a w U=>?_)
 refine zt<|qb<|zh [.v 9 _,.v 10 _,.v 11 _] [.g 0,.g 1,.g 2,.o 0,.o 1,.o 2] U (zM 0 G (zv G (bH Try.underlying22 (vq 0 G)) (zv G (a7 a5) o0))) (zz [(0,_),(1,_),(4,_),(9,_),(10,_),(11,_)] [] λ a w U=>?_)
 refine a4<|qt ?_
 have U:=St.sel U [0,1,3,4,5]
 refine wp_loop_ghost (λ n a w=>∃ j:Nat,(n+j=xs.length∧cmpL xs ys=cmpL (xs.drop j) (ys.drop j))∧St B w0 36 [(0,(SlA 3 [] (xs.map InA)).va),(1,(SlA 3 [] (ys.map InA)).va),(9,(SlA 3 [] (xs.map InA)).va),(10,In (xs.length:Nat)),(11,In (j:Nat))] [] a w) (xs.length) ?_ ?_
 ·exact ⟨0,⟨by omega,rfl⟩,by rw [qd] at U; exact U⟩
 intro n a w hI
 obtain ⟨j,⟨hn,hno⟩,U⟩:=hI
 refine qb<|zh [.v 12 _] [.g 0,.g 1,.g 2,.g 3,.g 4,.o 0] U (zv G (aY (gq 4 G) (gq 3 G)) o0) (zz [(0,_),(1,_),(9,_),(10,_),(11,_),(12,_)] [] λ a w U=>?_)
 refine zt<|aa U (zm 5 G) (λ hb0=>?_) (λ hb0=>?_)
 ·have hj:j<xs.length:=by have:=qw hb0; omega
  refine qk<|zt<|qt<|qb<|zh [.v 13 _,.v 14 _,.v 15 _,.v 5 _,.v 6 _] [.g 0,.g 1,.g 2,.g 3,.g 4,.o 3,.o 4] U (zM 4 G (zv G (cy cD (cE λ _=>rfl) (gq 2 G) (gq 4 G) (cb hj)) (zv G (al (vq 1 G) ty_3) (zA 0 G (zA 2 G o0))))) (zz [(0,_),(1,_),(9,_),(10,_),(11,_),(5,_),(6,_)] [] λ a w U=>?_)
  refine zt<|qb<|zh [.v 16 _,.v 17 _,.v 18 _,.v 19 _] [.g 0,.g 1,.g 2,.g 3,.g 4,.g 5,.g 6,.o 3] U (zM 5 G (zM 1 G (zv G (bH Try.underlying22 (vq 1 G)) (zv G (dH (vq 0 G) (vq 2 G)) o0)))) (zz [(0,_),(1,_),(9,_),(10,_),(11,_),(5,_),(6,_),(19,_)] [] λ a w U=>?_)
  refine a4<|aa U (zm 7 G) (λ hb1=>?_) (λ hb1=>?_)
  ·have hjy:ys.length≤j:=by rw [qd] at hb1; have:=qw hb1; omega
   refine qb<|zh [.v 4 _] [.g 0,.g 1,.g 2,.g 3,.g 4,.g 5,.g 6,.o 0] U (zv G (a6 a5) o0) (zz [(0,_),(1,_),(9,_),(10,_),(11,_),(5,_),(6,_),(4,_)] [] λ a w U=>?_)
   refine a4<|qh<|ac ?_
   refine aA ?_
   refine ac ?_
   refine ac ?_
   refine aA ?_
   refine ac ?_
   refine an ?_ (ae G U (zm 7 G))
   rw [hno,cmpL_lo hj hjy]; exact aC
  ·have hjy:j<ys.length:=by rw [qd] at hb1; have:=qx hb1; omega
   refine qk<|zt<|zh [.v 20 _,.v 21 _,.v 22 _,.v 23 _,.v 7 _] [.g 0,.g 1,.g 2,.g 3,.g 4,.g 6,.o 4] U (zM 1 G (zM 5 G (zv G (cy cD (cE λ _=>rfl) (vq 0 G) (vq 1 G) (cb hjy)) (zv G (al (vq 2 G) ty_3) (zA 3 G o0))))) (zz [(0,_),(1,_),(9,_),(10,_),(11,_),(6,_),(7,_)] [] λ a w U=>?_)
   refine zt<|zh [.v 24 _,.v 25 _,.v 26 _,.v 8 _] [.g 0,.g 1,.g 2,.g 3,.g 4,.o 3] U (zM 5 G (zM 6 G (zQ G (cmpZ_c _ _) (.p (vq 0 G) (vq 1 G)) (zA 2 G o0)))) (zz [(0,_),(1,_),(9,_),(10,_),(11,_),(8,_)] [] λ a w U=>?_)
   refine zt<|zh [.v 27 _,.v 28 _] [.g 0,.g 1,.g 2,.g 3,.g 4,.g 5,.o 1] U (zM 5 G (zv G (bM (vq 0 G) a5) o0)) (zz [(0,_),(1,_),(9,_),(10,_),(11,_),(8,_),(28,_)] [] λ a w U=>?_)
   refine a4<|aa U (zm 6 G) (λ hb2=>?_) (λ hb2=>?_)
   ·refine qb<|zh [.v 29 _,.v 4 _] [.g 0,.g 1,.g 2,.g 3,.g 4,.o 1] U (zM 5 G (zA 0 G o0)) (zz [(0,_),(1,_),(9,_),(10,_),(11,_),(4,_)] [] λ a w U=>?_)
    refine a4<|qh<|aA ?_
    refine ac ?_
    refine ac ?_
    refine aA ?_
    refine ac ?_
    refine an ?_ (ae G U (zm 5 G))
    rw [hno,cmpL_so hj hjy (by simpa using hb2)]; exact aC
   ·refine qk<|ai ?_
    refine a4<|zh [.v 30 _,.v 11 _] [.g 0,.g 1,.g 2,.g 3,.o 1] U (zv G (aU (gq 4 G) a5 ((wi64 zo zo).trans (by omega:(_:Int)=((j+1:Nat):Int)))) (zv G (a7 (vq 0 G)) o0)) (zz [(0,_),(1,_),(9,_),(10,_),(11,_)] [] λ a w U=>?_)
    refine a4 ?_
    have U:=St.sel U [0,1,2,3,4]
    exact ⟨n-1,by omega,j+1,⟨by omega,hno.trans (cmpL_nx hj hjy (by simpa using hb2))⟩,U⟩
 ·obtain rfl:j=xs.length:=by have:=qx hb0; omega
  refine zf<|aj<|aj<|az<|zt<|qb<|zh [.v 31 _,.v 32 _,.v 33 _,.v 34 _,.v 35 _] [.o 4] U (zM 0 G (zv G (bH Try.underlying22 (vq 0 G)) (zM 1 G (zv G (bH Try.underlying22 (vq 2 G)) (zv G (aY (vq 1 G) (vq 3 G)) o0))))) (zz [(35,_)] [] λ a w U=>?_)
  refine a4<|aa U (zm 0 G) (λ hb3=>?_) (λ hb3=>?_)
  ·have hle:xs.length<ys.length:=by simp only [qd] at hb3; have:=qw hb3; omega
   refine qb<|zh [.v 4 _] [.o 0] U (zv G (a6 a5) o0) (zz [(4,_)] [] λ a w U=>?_)
   refine a4<|qh<|ac ?_
   refine an ?_ (ae G U (zm 0 G))
   rw [hno,cmpL_end,qy hle]; exact aC
  ·have hle:¬ xs.length<ys.length:=by simp only [qd] at hb3; have:=qx hb3; omega
   refine qk<|zt<|zh [.v 4 _] [.o 0] U (zv G (a6 a5) o0) (zz [(4,_)] [] λ a w U=>?_)
   refine a4<|qh<|an ?_ (ae G U (zm 0 G))
   rw [hno,cmpL_end,qm hle]; exact aC
structure WyQ where
 l:List Int
 pw:Rat
 aw:Rat
 c:Int
def WyA (k:Nat)(x:WyQ):As:=cat [SlA 3 [] (x.l.map InA),QA k x.pw,QA k x.aw,InA x.c]
def betF (a b:WyQ):Bool:=if (cmQ a.aw b.aw != 0) then decide (cmQ a.aw b.aw<0) else if (a.c != b.c) then decide (a.c<b.c) else decide (cmpL a.l b.l<0)
theorem better_c {k:Nat}(hk:k≤400000000)(x y:WyQ):Cn Try.prog 16 [(WyA k x).va,(WyA k y).va] (Bo (betF x y)):=by
 refine Cn.intro Try.func16 G zk nq (λ B w0 a U=>?_)
 have U:=zn [(0,(WyA k x).va),(1,(WyA k y).va)] [] U
 refine qb<|zg [] [⟨2,59,ptrH,some 0,_,none⟩,⟨3,59,ptrH,some 1,_,none⟩] [.alc 0,.alc 1,.v 4 _] [.o 2] U (zW 0 G (zW 1 G (zv G (a6 aE) o0))) (zz [(4,_)] [O 2 59 _,O 3 59 _] λ a w U=>?_)
 refine zt<|qb<|zg [η,η] [] [.adr 6 2 (.some 5) True,.v 7 _,.adr 8 3 (.some 5) True,.v 9 _,.v 10 _,.v 5 _] [.g 0,.o 5] U (zO 0 G dk (zL 0 0 2 G ar (zO 1 G dk (zL 2 1 2 G ar (zQ G (cmp_q zo) (.p (vq 1 G) (vq 3 G)) (zA 4 G o0)))))) (zz [(4,_),(5,_)] [O 2 59 _,O 3 59 _] λ a w U=>?_)
 refine zt<|zg [η,η] [] [.v 11 _,.v 12 _] [.g 0,.g 1,.o 1] U (zM 1 G (zv G (bM (vq 0 G) a5) o0)) (zz [(4,_),(5,_),(12,_)] [O 2 59 _,O 3 59 _] λ a w U=>?_)
 refine a4<|aa U (zm 2 G) (λ hb0=>?_) (λ hb0=>?_)
 ·refine qb<|zg [η,η] [] [.v 13 _,.v 14 _,.v 4 _] [.o 2] U (zM 1 G (zv G (aY (vq 0 G) a5) (zA 1 G o0))) (zz [(4,_)] [O 2 59 _,O 3 59 _] λ a w U=>?_)
  refine a4<|qh<|ac ?_
  refine an ?_ (ae G U (zm 0 G))
  rw [betF,qy hb0]; exact aC
 ·refine qk<|zt<|qb<|zg [η,η] [] [.adr 15 2 (.some 9) True,.v 16 _,.adr 17 3 (.some 9) True,.v 18 _,.v 19 _] [.g 0,.o 4] U (zO 0 G dX (zL 0 0 3 G ty_3 (zO 1 G dX (zL 2 1 3 G ty_3 (zv G (bM (vq 1 G) (vq 3 G)) o0))))) (zz [(4,_),(19,_)] [O 2 59 _,O 3 59 _] λ a w U=>?_)
  refine a4<|aa U (zm 1 G) (λ hb1=>?_) (λ hb1=>?_)
  ·refine qb<|zg [η,η] [] [.adr 20 2 (.some 9) True,.v 21 _,.adr 22 3 (.some 9) True,.v 23 _,.v 24 _,.v 4 _] [.o 5] U (zO 0 G dX (zL 0 0 3 G ty_3 (zO 1 G dX (zL 2 1 3 G ty_3 (zv G (aY (vq 1 G) (vq 3 G)) (zA 4 G o0)))))) (zz [(4,_)] [O 2 59 _,O 3 59 _] λ a w U=>?_)
   refine a4<|qh<|ac ?_
   refine an ?_ (ae G U (zm 0 G))
   rw [betF,qm (by rw [hb0]; decide),qy hb1]; exact aC
  ·refine qk<|zt<|zg [η,η] [] [.adr 25 2 (.some 0) True,.v 26 _,.adr 27 3 (.some 0) True,.v 28 _,.v 29 _,.v 30 _,.v 4 _] [.o 6] U (zO 0 G dm (zL 0 0 0 G dD (zO 1 G dm (zL 2 1 0 G dD (zQ G (cmpS_c _ _) (.p (vq 1 G) (vq 3 G)) (zv G (aY (vq 4 G) a5) (zA 5 G o0))))))) (zz [(4,_)] [O 2 59 _,O 3 59 _] λ a w U=>?_)
   refine a4<|qh<|an ?_ (ae G U (zm 0 G))
   rw [betF,qm (by rw [hb0]; decide),qm (by rw [hb1]; decide)]; exact aC
end Go.Proofs.Ytlakjmncfooodaa
