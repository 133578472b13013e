import Derived.Test.YtckfapioofbfpaaGreatDoorBwAd
import Derived.SizedLaws
import Derived.Laws.IdiomStrings
import Derived.Maps.Own
import Derived.Maps.OwnSet
import Derived.Maps.Views
import Derived.Carry
import Derived.StringKeys
set_option linter.all false
set_option maxRecDepth 100000
namespace Go.Proofs.YtckfapioofbfpaaGreatDoor
open Go Go.RowKit
variable {w:World}{B:Nat}{a:Act}{v:Value}{T:TypeId}{w0:Bs}{Γ:List (Nat × VA)}{Λ:List Lc}{ps:String}{af:Array Edge}{vr:Value}{H:Hd}{cs:List Value}{w':World}{P:Program}{D:List TypeId}
open Go.ChangeShapes Go.WideShapes Go.ChangeAt
theorem tJ {A:As}(h:(A.deps.all λ T=>D.contains T)=true):∀ T∈A.deps,T∈D:=λ T hT=>by
 have:=qe.1 h T hT;simpa using this
def wdI (x:RI):Prop:=x.mag.length≤140737488355328
def wdF (x:RF):Prop:=wdI x.num∧wdI x.den
abbrev Wt {H:Type}(P:Program)(t:TypeId)(d:DataW H):Prop:=∀ n∈d.weights P t,n≤reachBytes
section
variable {H:Type}{enc:TypeId × Value→H}{w:World}{base:Nat}{spare:Nat→Bool}{held:Bool}{fuel:Nat}{cs:List Value}{x:DataW H × List MemPlace}
theorem OR (h:DataW.trod enc Tryz.prog w base spare held fuel 24 cs=some x)(hw:Wt Tryz.prog 24 x.1):∃ l,(MgA l).p w.heap.size cs w∧l.length≤140737488355328:=by
 obtain ⟨l,hl⟩:=OE h;refine ⟨l,hl,?_⟩;rcases open_ints qc vN zk h with ⟨hcs,_⟩|⟨a,len,cap,zs,rfl,_,h1,hm,hz,hx,hcell,hwz⟩
 ·subst hcs;obtain ⟨_,_,A,c,ds,e,_⟩:=hl;rw [qd] at e;simp only [List.cons.injEq,Value.slice.injEq,and_true] at e;omega
 ·obtain ⟨_,_,A,c,ds,e,_⟩:=hl;rw [qd] at e;simp only [List.cons.injEq,Value.slice.injEq,and_true] at e;have h4:Tryz.prog.bytesOf 139=4:=by kernel_rfl
  have:=hw (((lits .u32 (zs.take len):List (DataW H)).length+(lits .u32 (zs.drop len):List (DataW H)).length)*Tryz.prog.bytesOf 139) (by rw [hx];simp [DataW.weights,qc,lits]);rw [h4] at this;simp only [lits,qd,qX,xM] at this;have hlen:len≤zs.length:=by rw [hz];split <;> omega
  unfold reachBytes at this;omega
theorem df {t:Yh}{fs:Array Field}(ht:P.underlying t=some (.struct fs))(h:DataW.trod enc P w base spare held fuel t cs=some x)(hw:Wt P t x.1)(j:Nat){f:Field}(hf:fs[j]?=some f):
  ∃ n y,DataW.trod enc P w base spare held n f.type ((cs.drop f.offset).take (P.cellsOf f.type))=some y∧Wt P f.type y.1:=by
 obtain ⟨xs,n,_,hx,_,hlen,hel⟩:=DataW.trod_struct ht h;have hj:j<fs.size:=(Array.getElem?_eq_some_iff.1 hf).1;have h1:=hel j f hf;rw [List.getElem?_eq_getElem zo] at h1;refine ⟨n,_,h1,λ k hk=>hw k ?_⟩;rw [hx];simp only [DataW.weights,ht];exact DataW.weights_mem_each (j:=j) (by rw [List.getElem?_map];show (fs.toList[j]?).map _=_;rw [Array.getElem?_toList,hf];rfl) (by rw [List.getElem?_map,List.getElem?_eq_getElem zo];rfl) k hk
theorem LM (h:DataW.trod enc Tryz.prog w base spare held fuel 26 cs=some x)(hw:Wt Tryz.prog 26 x.1):∃ y,(RIA y).p w.heap.size cs w∧wdI y:=by
 have hl:cs.length=2:=by
  obtain ⟨_,_,_,_,hl,_,_⟩:=DataW.trod_struct x3 h;exact hl.trans zk
 obtain ⟨n0,y0,h0,w0⟩:=df x3 h hw 0 rfl;have c0:Tryz.prog.cellsOf 4=1:=by kernel_rfl
 have h0:DataW.trod enc Tryz.prog w base spare held n0 4 ((cs.drop 0).take (Tryz.prog.cellsOf 4))=some y0:=h0;rw [c0] at h0;obtain ⟨a0,q0⟩:=OH h0;obtain ⟨n1,y1,h1,w1⟩:=df x3 h hw 1 rfl;have c1:Tryz.prog.cellsOf 24=1:=by kernel_rfl
 have h1:DataW.trod enc Tryz.prog w base spare held n1 24 ((cs.drop 1).take (Tryz.prog.cellsOf 24))=some y1:=h1;rw [c1] at h1;obtain ⟨a1,q1,b1⟩:=OR h1 w1;exact ⟨⟨a0,a1⟩,CE q0 q1 hl,b1⟩
theorem DT (h:DataW.trod enc Tryz.prog w base spare held fuel 28 cs=some x)(hw:Wt Tryz.prog 28 x.1):∃ y,(RFA y).p w.heap.size cs w∧wdF y:=by
 have hl:cs.length=4:=by
  obtain ⟨_,_,_,_,hl,_,_⟩:=DataW.trod_struct jT h;exact hl.trans zk
 obtain ⟨n0,y0,h0,w0⟩:=df jT h hw 0 rfl;have c0:Tryz.prog.cellsOf 26=2:=by kernel_rfl
 have h0:DataW.trod enc Tryz.prog w base spare held n0 26 ((cs.drop 0).take (Tryz.prog.cellsOf 26))=some y0:=h0;rw [c0] at h0;obtain ⟨a0,q0,b0⟩:=LM h0 w0;obtain ⟨n1,y1,h1,w1⟩:=df jT h hw 1 rfl;have c1:Tryz.prog.cellsOf 26=2:=by kernel_rfl
 have h1:DataW.trod enc Tryz.prog w base spare held n1 26 ((cs.drop 2).take (Tryz.prog.cellsOf 26))=some y1:=h1;rw [c1] at h1;obtain ⟨a1,q1,b1⟩:=LM h1 w1;exact ⟨⟨a0,a1⟩,CE q0 q1 hl,⟨b0,b1⟩⟩
theorem KI {α:Type}{A:α→As}{bd:α→Prop}{t:Yh}{fs:Array Field}{r:Reach}{b0:Nat}{d:DataW H}{p:List MemPlace}(hag:∀ y,(A y).ag=true)(ht:P.underlying t=some (.struct fs))
  (rd:∀ {fuel:Nat}{cs:List Value}{x:DataW H × List MemPlace},DataW.trod enc P w base spare held fuel t cs=some x→Wt P t x.1→∃ y,(A y).p w.heap.size cs w∧bd y)
  (hv:Value.okWide P w r b0 t v) (h:DataW.Trod enc P w base spare held t v d p) (hw:Wt P t d):∃ y,(A y).va.p w.heap.size v w∧bd y:=by
 obtain ⟨cs,hcs,_⟩:=okWide_struct ht hv;subst hcs;obtain ⟨fuel,hf⟩:=h;obtain ⟨y,hy,hb⟩:=rd hf hw;refine ⟨y,⟨cs.toList,hy,?_⟩,hb⟩;unfold cE;rw [hag y,qC rfl]
theorem Of {ts:Yq}{ds:List (DataW H)}(h:(DataW.weightsEach P ts ds).all (· ≤ reachBytes)=true)(j:Nat){t:Yh}{d:DataW H}(ht:ts[j]?=some t)(hd:ds[j]?=some d):Wt P t d:=λ n hn=>by
 have:=qe.1 h n (DataW.weights_mem_each ht hd n hn);simpa using this
theorem gk {P:Program}{e:Yh}:∀ {l:List (DataW H)}{d:DataW H},d∈l→∀ n∈d.weights P e,n∈DataW.weightsAll P e l
 | [],_,h,_,_=>by cases h
 | x::l,d,h,n,hn=>by
  simp only [DataW.weightsAll,qn];rcases qr.1 h with rfl|h
  ·exact .inl hn
  ·exact .inr (gk h n hn)
theorem LL {α:Type}{A:α→As}{bd:α→Prop}{t e:Yh}{m:Nat}(ht:P.underlying t=some (.slice e))(hc:P.cellsOf e=m)(hm0:0<m)(hby:0<P.bytesOf e)(hD:∀ y,∀ T∈(A y).deps,T∈D)
  (rd:∀ {fuel:Nat}{cs:List Value}{x:DataW H × List MemPlace},DataW.trod enc P w base spare held fuel e cs=some x→Wt P e x.1→∃ y,(A y).p w.heap.size cs w∧bd y)
  (h:DataW.trod enc P w base spare held fuel t cs=some x) (hw:Wt P t x.1):∃ l:List α,(SlA e D (l.map A)).p w.heap.size cs w∧(∀ y∈l,bd y)∧l.length≤140737488355328:=by
 rcases Go.Deep.open_slice ht h with ⟨rfl,_⟩|⟨a,len,cap,m',n,Df,Pl,rfl,hb,hl,hmx,hm',hxx,hel⟩
 ·exact ⟨[],⟨λ A hA=>by simp at hA,none,0,[],rfl,qh _,zf _,⟨[],rfl,.nil⟩,λ h=>absurd h (by simp)⟩,λ y hy=>(by cases hy),by simp⟩
 ·rw [hc] at hel;have hle:len≤m':=by rw [hm'];split <;> omega
  have hwt:∀ k,k<len→Wt P e (Df k):=λ k hk n hn=>hw n (by
   rw [hxx];simp only [DataW.weights,ht];exact zi _ (vF _ (gk (qp.2 ⟨k,jI.2 hk,rfl⟩) n hn)))
  have hlw:len≤140737488355328:=by
   have:=hw ((((List.range len).map Df).length+((List.range (m'-len)).map λ j=>Df (len+j)).length)*P.bytesOf e) (by rw [hxx];simp [DataW.weights,ht]);simp only [qd,List.length_range] at this;unfold reachBytes at this;have h1:(len+(m'-len))*1≤(len+(m'-len))*P.bytesOf e:=zP _ hby;omega
  have key:∀ k,k≤len→∃ (l:List α) (ds:List Value),l.length=k∧ds.length=k*m∧(cat (l.map A)).p w.heap.size ds w∧(∀ y∈l,bd y)∧∀ (j:Nat) v,ds[j]?=some v→w.cell? (a.add j)=some v:=by
   intro k
   induction k with
   | zero=>exact λ _=>⟨[],[],rfl,by simp,⟨[],rfl,.nil⟩,λ y hy=>(by cases hy),λ j v hv=>by simp at hv⟩
   | succ k ih =>
    intro hk;obtain ⟨l,ds,h1,h2,h3,hbd,h4⟩:=ih zo;obtain ⟨cs',q1,q2⟩:=hel k zo;obtain ⟨y,hy,hyb⟩:=rd q2 (hwt k zo);obtain ⟨_,q3,q4⟩:=World.cells?_some q1;refine ⟨l++[y],ds++cs',by simp [h1],by rw [qx,h2,q3,xS,jV],?_,λ z hz=>by
     rcases qn.1 hz with hz|hz
     ·exact hbd z hz
     ·obtain rfl:=ql.1 hz;exact hyb,λ j v hv=>?_⟩
    ·rw [zT];exact Kt h3 (Fy hy)
    ·by_cases hj:j<ds.length
     ·rw [List.getElem?_append_left hj] at hv;exact h4 j v hv
     ·rw [List.getElem?_append_right zo] at hv;have hlt:j-ds.length<cs'.length:=(List.getElem?_eq_some_iff.1 hv).1;have:=q4 (j-ds.length) zo;rw [Go.Deep.add_add,show k*m+(j-ds.length)=j by omega] at this;rw [this,hv]
  obtain ⟨l,ds,h1,h2,h3,hbd,h4⟩:=key len (qh _);refine ⟨l,⟨λ A' hA=>?_,some a,cap,ds,by rw [qd,h1],by rw [qd,h1];exact hl,hmx,h3,λ hpos=>?_⟩,hbd,by omega⟩
  ·obtain ⟨y,_,rfl⟩:=qp.1 hA;exact hD y
  ·rw [qd,h1] at hpos;have hds:0<ds.length:=by rw [h2];exact jz hpos hm0
   obtain ⟨b,off,spot⟩:=a;have h0:=h4 0 (ds[0]) (List.getElem?_eq_getElem hds);have hspot:spot=none:=by simpa [Addr.add] using World.cell?_spot h0
   subst hspot;have hblk:b<w.heap.size:=World.block_lt_of_cell? w _ (by rw [Go.WideShapes.add_plain] at h0;exact h0);exact ⟨b,off,rfl,hblk,.inl hblk,λ j v hv=>by rw [← Go.WideShapes.add_plain];exact h4 j v hv⟩
end
theorem ic {x:RF}(h:wdF x):∃ c:Nat,dB x=(c:Int)∧x.num.mag.length+x.den.mag.length+2≤c∧c≤4503599627370496:=by
 obtain ⟨h1,h2⟩:=h;unfold wdI at h1 h2;have e1:eQ x.num=((1+x.num.mag.length:Nat):Int):=by unfold eQ;rw [wi64 zo zo];omega
 have e2:eQ x.den=((1+x.den.mag.length:Nat):Int):=by unfold eQ;rw [wi64 zo zo];omega
 have e3:ig x=((2+x.num.mag.length+x.den.mag.length:Nat):Int):=by unfold ig;rw [e1,e2,wi64 zo zo];omega
 obtain ⟨u,hu⟩:∃ u:Nat,u=min x.num.mag.length 1048576:=⟨_,rfl⟩;obtain ⟨v,hv⟩:∃ v:Nat,v=min x.den.mag.length 1048576:=⟨_,rfl⟩;have hu':min (x.num.mag.length:Int) 1048576=(u:Int):=by omega
 have hv':min (x.den.mag.length:Int) 1048576=(v:Int):=by omega
 have huv:u*v≤1048576*1048576:=xR zo zo;have h16:u*v/16≤68719476736:=qf (Nat.div_le_div_right huv) zd;have e4:lF x.num x.den=((u*v/16*1024:Nat):Int):=by
  unfold lF;have t1:IntKind.i64.wrap (((u*v:Nat):Int))=((u*v:Nat):Int):=wi64 zo zo;have t2:(((u*v:Nat):Int)).tdiv 16=((u*v/16:Nat):Int):=by rw [show (16:Int)=((16:Nat):Int) from rfl,x7 zo,← j3]
  have t3:IntKind.i64.wrap (((u*v/16:Nat):Int))=((u*v/16:Nat):Int):=wi64 zo zo;rw [hu',hv',← xJ,t1,t2,t3,wi64 zo zo];omega
 refine ⟨2+x.num.mag.length+x.den.mag.length+u*v/16*1024,?_,by omega,by omega⟩;unfold dB;rw [e3,e4,wi64 zo zo];omega
theorem Kx {n:Nat}{l:Ya}(hn:n+l.sum≤9223372036854775807)(h:bydF (n:Int) (l.map λ (x:Nat)=>(x:Int))=false):n≤1048576∨l=[]→n+l.sum≤1048576∨l=[]:=by
 induction l generalizing n with
 | nil=>exact λ _=>.inr rfl
 | cons x l ih =>
  intro _;simp only [xo] at hn;simp only [qS,bydF] at h;rw [wi64 zo zo] at h;split at h
  ·cases h
  ·rename_i h1;have h2:n+x≤1048576:=by
    rw [qK] at h1;omega
   rw [show ((n:Int)+(x:Int))=((n+x:Nat):Int) from rfl] at h;rcases ih (n:=n+x) zo h (.inl h2) with h3|h3
   ·left;simp only [xo];omega
   ·subst h3;left;simp;omega
theorem PV {l:Ya}(hn:l.sum≤9223372036854775807)(h:bydF 0 (l.map λ (x:Nat)=>(x:Int))=false):l.sum≤1048576:=by
 rcases Kx (n:=0) zo h (.inl zd) with h|h
 ·omega
 ·subst h;decide
def RET (x:RE):As:=cat [NumA .u8 x.k,RFT x.p,RFT x.q]
theorem Hq {x:RE}:WkA (RET x) (REA x):=bi (.cons (.refl _) (.cons nI (.cons nI .nil)))
theorem EQ (x:RE):FreeA (RET x) (RET x):=bI (.cons (cq _ _) (.cons (oD _) (.cons (oD _) .nil)))
theorem r8:FreeA (RFA rf0) (RFA rf0):=bI (.cons (bI (.cons (dT _) (.cons lI .nil))) (.cons (bI (.cons (dT _) (.cons lI .nil))) .nil))
theorem LG {x y:RE}:(((x.k==y.k)&&decide (x.p=y.p))&&decide (x.q=y.q))=decide (x=y):=by
 obtain ⟨a,b,c⟩:=x;obtain ⟨d,e,f⟩:=y;by_cases h1:a=d <;> by_cases h2:b=e <;> by_cases h3:c=f <;> simp [h1,h2,h3]
theorem nK (x:RE)(hx:bdF x.p∧bdF x.q):Cn Tryz.prog 178 [(REA x).va] ((RET x).va):=by
 refine Cn.intro Tryz.func178 G zk nq (zy [(0,(REA x).va)] λ B w0 a U=>?_);refine qb<|zg [] [zpL 1 91 0 _,zpL 2 91 1 _] UQ [] U (zW 0 G (zY G (Str.zero fN) o0)) (zz [] [O 1 91 _,O 2 91 _] λ a w U=>?_);refine zt<|zgd [[],[0],[],[2],[2,3],[],[5],[2,3,4,5,6],(Wm 8),(Wm 9)] [none,some (9,_)] [] (.adr 3 1 (.some 0) True::.v 4 _::.adr 5 1 (.some 1) True::(W6 6 (.adr 8 1 (.some 5) True::(Wb 9 [.sto 1])))) [] ac U (zO 0 G ei (zL 0 0 0 G pi (zO 0 G c6 (zL 2 0 1 G au (zQ G (fJ _ hx.1) (.o (vq 3 G)) (zO 0 G cu (zL 5 0 2 G au (zQ G (fJ _ hx.2) (.o (vq 6 G)) (zv G (aS (qs:=[(0,_),(1,_),(2,_)]) fN (.cons ⟨rfl,vq 1 rfl,rfl⟩ (.cons ⟨rfl,vq 4 rfl,rfl⟩ (.cons ⟨rfl,vq 7 rfl,rfl⟩ .nil)))) (zS 8 G gf o0)))))))))) zk zk zk zk (zz [] [O 1 91 _,O 2 91 _] λ a w U=>?_);refine aa<|qi<|am ?_ (ax G U (zm 1 G) gf);exact aM
theorem ot (x y:RE)(hx:bdF x.p∧bdF x.q):Cn Tryz.prog 216 [(RET x).va,(REA y).va] (Bo (decide (x=y))):=by
 refine Cn.intro Tryz.func216 G zk nq (zy [(0,(RET x).va),(1,(REA y).va)] λ B w0 a U=>?_);refine qb<|zg [] [zpL 2 91 0 _,zpL 3 91 1 _] Uz U9 U (zW 0 G (zW 1 G (zE G aJ))) (zz U0 [O 2 91 _,O 3 91 _] ?_);refine ztA<|zgA UC [] (.adr 5 2 (.some 0) True::.v 6 _::.adr 7 3 (.some 0) True::(Wb 8 (.adr 11 2 (.some 1) (_=true)::.t 12 _::.adr 13 3 (.some 1) (_=true)::.t 14 _::.t 15 _::(W6 16 [.adr 18 2 (.some 5) (_=true),.t 19 _,.adr 20 3 (.some 5) (_=true),.t 21 _,.t 22 _,.v 23 _,.v 4 _])))) [.o 19] (zO 0 G ei (zL 0 0 0 G pi (zO 1 G ei (zL 2 1 0 G pi (zv G (bF (vq 1 G) (vq 3 G)) (zV 4 G (zC 5 0 G c6 (zB 5 G (λ hg=>aC 6 G zk hg (lz0 0 G) (Sub.part 1 G G) au) (zC 5 1 G c6 (zB 5 G (λ hg=>aC 8 G zk hg (lz0 1 G) (Sub.part 1 G G) au) (zB 5 G (λ hg=>ba (fU _ _ hx.1) (.p (ae (vq 7 G) hg) (ae (vq 9 G) hg))) (zv G (bE (vq 5 G) (vq 10 G)) (zV 11 G (zC 12 0 G cu (zB 12 G (λ hg=>aC 13 G zk hg (lz0 0 G) (Sub.part 2 G G) au) (zC 12 1 G cu (zB 12 G (λ hg=>aC 15 G zk hg (lz0 1 G) (Sub.part 2 G G) au) (zB 12 G (λ hg=>ba (fU _ _ hx.2) (.p (ae (vq 14 G) hg) (ae (vq 16 G) hg))) (zv G (bE (vq 12 G) (vq 17 G)) (zA 18 G o0)))))))))))))))))))) (zz U0 [O 2 91 _,O 3 91 _] λ a w U=>?_);refine aa<|qi<|am ?_ (ak G U (zm 0 G));exact bf (qt Bo LG)
def byL (s:ByteArray):List Nat:=s.data.toList.map UInt8.toNat
theorem oT (s:ByteArray):(byL s).length=s.size:=by unfold byL;rw [qd];rfl
def BbA (n:Nat):As:=NumA .u8 (n:Int)
def bOk (b:Nat):Bool := !(((decide ((b:Int)<97) || decide ((b:Int)>122))&&(decide ((b:Int)<48) || decide ((b:Int)>57)))&&((b:Int) != 45))
def nmH (s:ByteArray):Bool:=((decide ((s.size:Int)<1) || decide ((s.size:Int)>32)) || decide ((((byL s).getD 0 0:Nat):Int)<97)) || decide ((((byL s).getD 0 0:Nat):Int)>122)
def namF (s:ByteArray):Bool:=if nmH s then false else (byL s).all bOk
theorem st_0 {s:ByteArray}(h:(decide ((s.size:Int)<1) || decide ((s.size:Int)>32))=false):s[0]?=some (s.data.toList.getD 0 0)∧((s.data.toList.getD 0 0).toNat:Nat)=(byL s).getD 0 0:=by
 rw [qN,qm] at h;have h0:0<s.size:=by omega
 have h1:0<s.data.toList.length:=by simpa using h0
 constructor
 ·rw [getElem?_pos s 0 h0];simp only [Option.some.injEq,List.getD];rw [List.getElem?_eq_getElem h1];simp [ByteArray.getElem_eq_getElem_data]
 ·unfold byL;simp only [List.getD];rw [List.getElem?_eq_getElem h1,List.getElem?_eq_getElem (by simpa using h1)];simp
theorem nm_1 {a b:Bool}(h:(a || b)=false):a=false:=by rw [qN] at h;exact h.1
theorem by_0 (s:ByteArray):(s.data.toList.getD 0 0).toNat=(byL s).getD 0 0:=by
 unfold byL;cases s.data.toList <;> rfl
theorem nm_y {s:ByteArray}{b:Bool}(h:(((decide ((s.size:Int)<1) || decide ((s.size:Int)>32)) || decide ((((s.data.toList.getD 0 0).toNat:Nat):Int)<97)) || decide ((((s.data.toList.getD 0 0).toNat:Nat):Int)>122))=b):nmH s=b:=by
 unfold nmH;rw [← by_0];exact h
theorem J2 {s:ByteArray}(h:nmH s=false):s.size≤32:=by
 unfold nmH at h;simp only [qN,qm] at h;omega
section
open Rg
variable {P:Program}{Q:Exit→Act→World→Prop}{R:Rg}{B i:Nat}{w0:Bs}
theorem fR {x:Yj}{S:Yh}{s:ByteArray}(hS:P.underlying S=some .string)(hx:Has R B w0 i x (EqV (.string s))):Wv P Q R B w0 i (.call ⟨.builtin .len,#[x],#[S]⟩) (In (s.size:Nat)) :=
 bj λ d T ps af gd a w av=>by
  refine ⟨.int .i64 (s.size:Nat),w,?_,Grow.refl w,bS _ _ _ _⟩;have hv':a.eval x=.string s:=hx a w av;simp [execOp,resolve,invoke,builtin,hv',run_len_string _ _ _ _ hS,goInt]
theorem It {x:Yj}{S T E:Yh}{s:ByteArray}(hs:P.underlying S=some .string)(hd:P.underlying T=some (.slice E))(he:P.underlying E=some (.int .u8))(hx:Has R B w0 i x (EqV (.string s)))(hl:s.size≤4096):Wv P Q R B w0 i (.convert S T x) (SlA E [] ((byL s).map BbA)).va :=
 bj λ d T' ps af gd a w av=>by
  have e1:a.eval x=.string s:=hx a w av;refine ⟨.slice (some ⟨w.heap.size,0,none⟩) s.size (grownCap w s.size 0 E),w.drew.alloc (.cells (bytesRow s (grownCap w s.size 0 E)) E ((bytesRow s (grownCap w s.size 0 E)).size,(bytesRow s (grownCap w s.size 0 E)).size+1)),?_,(Grow.drew w).trans (Grow.alloc w.drew _),?_⟩
  ·simp [execOp,e1,run_bytes_of_string w S T E s hs hd he]
  ·have hcg:=grownCap_ge w s.size 0 E;have hcm:=grownCap_le_maxLen w s.size 0 E (by unfold maxLen;omega);have hlen:((byL s).map BbA).length=s.size:=by rw [qd,oT]
   have hcell:∀ j (hj:j<s.data.size),(w.drew.alloc (.cells (bytesRow s (grownCap w s.size 0 E)) E ((bytesRow s (grownCap w s.size 0 E)).size,(bytesRow s (grownCap w s.size 0 E)).size+1))).cell? ⟨w.heap.size,0+j,none⟩=some (.int .u8 (s.data[j].toNat:Int)):=λ j hj=>by
    rw [qV];exact (World.cell?_alloc_mark w.drew _ E _ j).trans (bytesRow_at s _ j hj)
   refine ⟨[.slice (some ⟨w.heap.size,0,none⟩) s.size (grownCap w s.size 0 E)],⟨λ A hA=>?_,some ⟨w.heap.size,0,none⟩,grownCap w s.size 0 E,(byL s).map λ (n:Nat)=>Value.int .u8 (n:Int),?_,by rw [hlen];exact hcg,hcm,?_,λ _=>⟨w.heap.size,0,rfl,?_,?_,λ j v hv=>?_⟩⟩,rfl⟩
   ·obtain ⟨n,_,rfl⟩:=qp.1 hA;intro T hT;cases hT
   ·rw [hlen]
   ·refine ⟨(byL s).map λ (n:Nat)=>[Value.int .u8 (n:Int)],?_,?_⟩
    ·induction byL s with
     | nil=>rfl
     | cons y l ih=>rw [qS,qS,ih,zZ];rfl
    ·induction byL s with
     | nil=>exact .nil
     | cons y l ih=>exact .cons rfl ih
   ·show w.heap.size<(w.heap.push _).size;simp
   ·refine .inr ⟨bytesRow s (grownCap w s.size 0 E),((bytesRow s (grownCap w s.size 0 E)).size,(bytesRow s (grownCap w s.size 0 E)).size+1),?_⟩;show (w.heap.push _)[w.heap.size]?=_;simp
   ·have hj:j<s.data.size:=by
     have:=(List.getElem?_eq_some_iff.1 hv).1;rw [qd,oT] at this;exact this
    rw [hcell j hj];unfold byL at hv;rw [xq,List.getElem?_map,List.getElem?_eq_getElem (by simpa using hj)] at hv;simpa using hv
end
theorem J7 (s:ByteArray):Cn Tryz.prog 36 [EqV (.string s)] (Bo (namF s)):=by
 refine Cn.intro Tryz.func36 G zk nq (zy [(0,EqV (.string s))] λ B w0 a U=>?_);refine qb<|zh Ux UZ U (zE G aJ) (zz R1 [] ?_);refine ztA<|zsA<|zhA (Ww 5 (.f 9 _::.f 10 _::.f 11 _::(W6 12 (.f 14 _::.f 15 _::.f 16 _::(W6 17 [.f 19 _,.f 20 _,.f 21 _,.v 22 _]))))) (We [.o 17]) (zM 0 G (zv G (fR zk (vq 0 G)) (zv G (aO (vq 1 G) ab) (zV 2 G (zB 3 G (λ hg=>aA (gq 0 G)) (zB 3 G (λ hg=>fR zk (ae (vq 4 G) hg)) (zB 3 G (λ hg=>cD (ae (vq 5 G) hg) ab) (zv G (r_or (vq 3 G) (vq 6 G)) (zV 7 G (zB 8 G (λ hg=>aA (gq 0 G)) (zB 8 G (λ hg=>dg zk (ae (vq 9 G) hg) ab (st_0 hg).1) (zB 8 G (λ hg=>aO (ae (vq 10 G) hg) ab) (zv G (r_or (vq 8 G) (vq 11 G)) (zV 12 G (zB 13 G (λ hg=>aA (gq 0 G)) (zB 13 G (λ hg=>dg zk (ae (vq 14 G) hg) ab (st_0 (nm_1 hg)).1) (zB 13 G (λ hg=>cD (ae (vq 15 G) hg) ab) (zv G (r_or (vq 13 G) (vq 16 G)) o0)))))))))))))))))) (zz (Wa 0 2 22) [] λ a w U=>?_);refine zJ 2 U G (λ hb0=>?_) (λ hb0=>?_)
 ·have hd:nmH s=true:=nm_y hb0;refine qb<|zh Ux UZ U (zE G aJ) (zz R1 [] λ a w U=>?_);refine aa<|qi<|aj ?_;refine am ?_ (ak G U (zm 1 G));rw [namF,qC hd];exact aM
 ·have hd:nmH s=false:=nm_y hb0;have hsz:=J2 hd;have hbl:=oT s;refine qj<|zt<|qb<|zh (Ww 23) [.g 1,.o 1,.o 2,.o 3] U (zM 0 G (zv G (It zk vO zk (vq 0 G) zo) (zv G (bn vO (vq 1 G)) (zv G (aA ab) o0)))) (zz (Wf 2 24 25 26) [] λ a w U=>?_);refine aa<|qk ?_;have U:=St.sel U [1,2,3];refine wp_loop_ghost (λ n a w=>∃ j:Nat,(n+j=(byL s).length∧((byL s).take j).all bOk=true)∧St B w0 49 [(24,(SlA 5 [] ((byL s).map BbA)).va),(25,In ((byL s).length:Nat)),(26,In (j:Nat))] [] a w) ((byL s).length) ?_ ?_
  ·exact ⟨0,⟨by omega,rfl⟩,by rw [qd] at U;exact U⟩
  intro n a w hI;obtain ⟨j,⟨hn,hno⟩,U⟩:=hI;refine qb<|zh [.v 27 _] WX U (zv G (aO (gq 2 G) (gq 1 G)) o0) (zz (Wf 24 25 26 27) [] λ a w U=>?_);refine zt<|c7 U (zm 3 G) (λ hb1=>?_) (λ hb1=>?_)
  ·have hj:j<(byL s).length:=by have:=qu hb1;omega
   refine qj<|zt<|qk<|qb<|zh (W6 28 [.v 4 _]) UD U (zv G (bM Ls (cc λ _=>rfl) (gq 0 G) (gq 2 G) (bG hj)) (zv G (ap (vq 0 G) ty_5) (zA 1 G o0))) (zz (Wf 24 25 26 4) [] ?_);refine ztA<|zhA (Wb 30 (.f 33 _::.f 34 _::(W6 35 (.t 37 _::.t 38 _::.t 39 _::.v 40 (Wh ((_=true)∧_=false) _)::.v 41 (Wh ((_=true)∧_=false) _)::.t 42 _::(W6 43 [.t 45 _,.t 46 _,.v 47 _]))))) (W7 [.o 17]) (zM 3 G (zv G (aO (vq 0 G) ab) (zV 1 G (zB 2 G (λ hg=>aA (gq 3 G)) (zB 2 G (λ hg=>cD (ae (vq 3 G) hg) ab) (zv G (r_or (vq 2 G) (vq 4 G)) (zV 5 G (zB 6 G (λ hg=>aA (gq 3 G)) (zB 6 G (λ hg=>aO (ae (vq 7 G) hg) ab) (zB 6 G (λ hg=>aA (ae (vq 8 G) hg)) (oc (bO G G G (vq 9 G) nq (λ hg=>aA (gq 3 G))) (oc (bO G G G (vq 9 G) nq (λ hg=>cD (ae (vq 10 G) hg) ab)) (zB 6 G (λ hg=>r_or (ae (vq 9 G) hg) (fx (vq 11 G) hg)) (zv G (bE (vq 6 G) (vq 12 G)) (zV 13 G (zB 14 G (λ hg=>aA (gq 3 G)) (zB 14 G (λ hg=>c9 (ae (vq 15 G) hg) ab) (zv G (bE (vq 14 G) (vq 16 G)) o0)))))))))))))))))) (zz (Wf 24 25 26 47) [] λ a w U=>?_);refine zJ 3 U G (λ hb2=>?_) (λ hb2=>?_)
   ·refine qb<|zh Ux WX U (zE G aJ) (zz (Wf 24 25 26 2) [] λ a w U=>?_);refine aa<|qi<|aD ?_;refine aj ?_;refine aj ?_;refine aD ?_;refine aj ?_;refine am ?_ (ak G U (zm 3 G));rw [namF,qy (by rw [hd];decide),mK hj (by unfold bOk;rw [hb2];rfl)];exact aM
   ·refine qj<|al ?_;refine aa<|zh [.v 48 _,.v 26 _] UF U (zv G (aL (gq 2 G) ab ((wi64 zo zo).trans (by omega:(_:Int)=((j+1:Nat):Int)))) (zV 0 G o0)) (zz (Wa 24 25 26) [] λ a w U=>?_);refine aa ?_;have U:=St.sel U [0,1,2];exact ⟨n-1,by omega,j+1,⟨by omega,mL hj hno (by unfold bOk;rw [hb2];rfl)⟩,U⟩
  ·obtain rfl:j=(byL s).length:=by have:=qw hb1;omega
   refine qP<|ai<|ai<|az<|zt<|zh Ux WZ U (zE G aJ) (zz Uu [] λ a w U=>?_);refine aa<|qi<|am ?_ (ak G U (zm 0 G));rw [qJ] at hno;rw [namF,qy (by rw [hd];decide),hno];exact aM
structure RPt where
 nm:ByteArray
 e:RE
 c:Int
structure RTk where
 sp:List RF
 ps:List RPt
 tg:RF
def InA (n:Int):As:=NumA .i64 n
def PtA (x:RPt):As:=cat [EqA (.string x.nm),REA x.e,InA x.c]
def TkA (t:RTk):As:=cat [SlA 28 [U32] (t.sp.map RFA),SlA 93 [U32] (t.ps.map PtA),RFA t.tg]
theorem Ch:Wk (EqA v).va (EqV v):=λ B u w h=>lh h
theorem J8 (s:ByteArray):Cn Tryz.prog 36 [(EqA (.string s)).va] (Bo (namF s)):=(J7 s).wk (.cons Ch .nil)
def sloF (t:RTk):Int:=IntKind.i64.wrap ((t.sp.length:Int)-1)
def pkQ (t:RTk)(i:Int):Bool:=decide (i<0) || decide (i≥(t.ps.length:Int))
def pkF (t:RTk)(l:List Int):Bool:=decide ((l.length:Int)≤sloF t) && !l.any (pkQ t)
def FnC (f:FuncId)(PT:VA):VA where
 p B v w:=∃ g,v=.func (.func f) #[] #[ptr g]∧PT.p B (ptr g) w
 deps:=PT.deps
 cg:=λ B v w w' hg ⟨g,h1,h2⟩=>⟨g,h1,PT.cg _ _ _ _ hg h2⟩
 wr:=λ B v w w' g c T fz q1 q2 q3 q4 ⟨g',h1,h2⟩=>⟨g',h1,PT.wr _ _ _ _ _ _ _ _ q1 q2 q3 q4 h2⟩
def fstI (q:Int→Bool):List Int→Nat→Int
 | [],_ => -1
 | x::l,k=>if q x then (k:Int) else fstI q l (k+1)
theorem u6 (q:Int→Bool):∀ (l:Yl) (k:Nat),decide (fstI q l k≥0)=l.any q
 | [],k=>rfl
 | x::l,k=>by
  rw [fstI,List.any_cons];by_cases h:q x=true
  ·rw [qC h,h,Bool.true_or];exact qE (Int.natCast_nonneg k)
  ·rw [qy h,u6 q l,xI.2 h,xQ]
theorem N3 {q:Int→Bool}{l:Yl}{j:Nat}(h:j<l.length)(h2:q l[j]=false):fstI q (l.drop j) j=fstI q (l.drop (j+1)) (j+1):=by rw [qG h,fstI,h2];rfl
theorem JW {q:Int→Bool}{l:Yl}{j:Nat}(h:j<l.length)(h2:q l[j]=true):fstI q (l.drop j) j=(j:Int):=by rw [qG h,fstI,h2];rfl
section
open Rg
variable {P:Program}{Q:Exit→Act→World→Prop}{R:Rg}{B i:Nat}{w0:Bs}
theorem OS {f:Yn}{T1:Yh}{A1:As}{s1:Nat}(h1:Loc R i s1 T1 A1):Wv P Q R B w0 i (.makeFunc (.func f) #[] #[.tmp s1]) (FnC f (ElP T1 A1)) :=
 bj λ _ _ _ _ _ a w av=>by
  obtain ⟨g1,c1,e1,m1,h3,h4⟩:=h1.ok av;have e1':a.eval (.tmp s1)=ptr g1:=e1;refine ⟨.func (.func f) #[] (#[Operand.tmp s1].map a.eval),w,by simp [execOp,Instr.makeFunc],Grow.refl w,g1,by simp [e1'],g1,0,c1,rfl,(Array.getElem?_eq_some_iff.1 h3).1,.inr ⟨_,_,h3⟩,h4,λ j u hu=>?_⟩;have:=iy (k:=0) h3 c1.length j u (by rw [xl,qJ];exact hu);exact this
theorem Ir {c:Nat}{f:Yn}{xs:Ys}{As':Yc}{A PT:VA}{at_:Yr}(hc:Cn P f (As'++[PT]) A)(hv:Has R B w0 i (.tmp c) (FnC f PT))(hx:HasL R B w0 i xs As'):Wv P Q R B w0 i (.call ⟨.value (.tmp c),xs.toArray,at_⟩) A:=by
 intro d T ps af gd a w av K hK;obtain ⟨⟨fn,hf,hn,hb⟩,hcall⟩:=hc;obtain ⟨g,ev,hp⟩:=hv a w av;have hrun:(execOp a.eval ⟨some d,.call ⟨.value (.tmp c),xs.toArray,at_⟩,T,ps,af,gd⟩).run P w=.ok (.enter f (xs.map a.eval++[ptr g]).toArray) w:=by
  simp only [execOp,resolve,ev,Deferred.ofValue,Sem.run_bind,Sem.run_pure,Result.andThen_ok,invoke,bb hf hn hb];simp
 unfold Oper.wp;rw [hrun];have key:∀ {ls:List VA}{vs:List Value},All2 (λ (A:VA) v=>A.p B v w) ls vs→All2 (λ (A:VA) v=>A.p B v w) (ls++[PT]) (vs++[ptr g]):=λ {ls vs} h=>by
  induction h with
  | nil=>exact .cons hp .nil
  | cons h _ ih=>exact .cons h ih
 exact (hcall B w _ (Av.bw av) (key (hx.all av))).mono λ e w' ⟨v,he,hv,hg⟩=>by subst he;exact hK v w' hg hv
end
theorem rO (t:RTk):Cn Tryz.prog 38 [(TkA t).va] (In (sloF t)):=by
 refine Cn.intro Tryz.func38 G zk nq (zy [(0,(TkA t).va)] λ B w0 a U=>?_);refine qb<|zg [] Ry Us Ut U (zW 0 G (zE G ab)) (zz Uu Rz ?_);refine ztA<|zgA U1 [] (.adr 3 1 (.some 0) True::(Wb 4 [.v 2 _])) UL (zO 0 G ca (zL 0 0 0 G fc (zv G (bn qQ (vq 1 G)) (zv G (ce (vq 2 G) ab (G)) (zA 3 G o0))))) (zz Uu Rz λ a w U=>?_);refine aa<|qi<|am ?_ (ak G U (zm 0 G));simp only [qd];exact aM
theorem AL (t:RTk)(i:Int):Cn Tryz.prog 218 [In i,ElP 30 (TkA t)] (Bo (pkQ t i)):=by
 refine Cn.intro Tryz.func218 G zk nq (zy [(0,In i),(1,ElP 30 (TkA t))] λ B w0 a U=>?_);refine qb<|zh Rr WQ U (zE G aJ) (zz (Wa 0 1 3) [] ?_);refine ztA<|zhA (Wb 4 [.f 7 _,.f 8 _,.f 9 _,.f 10 _,.f 11 _,.v 12 _,.v 3 _]) [.o 9] (zM 0 G (zv G (aO (vq 0 G) ab) (zV 1 G (zB 2 G (λ hg=>aA (gq 0 G)) (zB 2 G (λ hg=>bP (gq 1 G) bK (Sub.part 1 G G)) (zB 2 G (λ hg=>ap (ae (vq 4 G) hg) dW) (zB 2 G (λ hg=>bn qM (ae (vq 5 G) hg)) (zB 2 G (λ hg=>dD (ae (vq 3 G) hg) (ae (vq 6 G) hg)) (zv G (r_or (vq 2 G) (vq 7 G)) (zA 8 G o0)))))))))) (zz Rn [] λ a w U=>?_);refine aa<|qi<|am ?_ (ak G U (zm 0 G));simp only [qd];exact aM
theorem MS {f:Yn}{q:Int→Bool}{PT:VA}(hc:∀ n,Cn Tryz.prog f [In n,PT] (Bo (q n)))(xs:Yl):Cn Tryz.prog 242 [(SlA 3 [] (xs.map InA)).va,FnC f PT] (In (fstI q xs 0)):=by
 refine Cn.intro Tryz.func242 G zk nq (zy [(0,(SlA 3 [] (xs.map InA)).va),(1,FnC f PT)] λ B w0 a U=>?_);have hl:=fO (U.vals (0,(SlA 3 [] (xs.map InA)).va) (zm 0 rfl));refine qb<|zh WP WQ U (zE G ab) (zz WR [] ?_);refine ztA<|zsA<|zhA (Wb 6) (W7 [.o 1,.o 2]) (zM 0 G (zv G (bn qL (vq 0 G)) (zv G (aA ab) o0))) (zz (W8 0 1 4 7 8) [] λ a w U=>?_);refine aa<|qk ?_;have U:=St.sel U [0,1,3,4];refine wp_loop_ghost (λ n a w=>∃ j:Nat,(n+j=xs.length∧fstI q xs 0=fstI q (xs.drop j) j)∧St B w0 19 [(0,(SlA 3 [] (xs.map InA)).va),(1,FnC f PT),(7,In (xs.length:Nat)),(8,In (j:Nat))] [] a w) (xs.length) ?_ ?_
 ·exact ⟨0,⟨by omega,rfl⟩,by rw [qd] at U;exact U⟩
 intro n a w hI;obtain ⟨j,⟨hn,hno⟩,U⟩:=hI;refine qb<|zh [.v 9 _] Uq U (zv G (aO (gq 3 G) (gq 2 G)) o0) (zz (W8 0 1 7 8 9) [] λ a w U=>?_);refine zt<|c7 U (zm 4 G) (λ hb0=>?_) (λ hb0=>?_)
 ·have hj:j<xs.length:=by have:=qu hb0;omega
  refine qj<|zt<|qk<|qb<|zh [.v 10 _,.v 5 _] UW U (zM 3 G (zA 0 G o0)) (zz (W8 0 1 7 8 5) [] ?_);refine ztA<|zhA (Wl 11) (Wi [.o 5]) (zM 1 G (zM 0 G (zM 4 G (zv G (bM dN (cc λ _=>rfl) (vq 1 G) (vq 2 G) (bG hj)) (zv G (ap (vq 3 G) ty_3) (zv G (Ir (As':=[In xs[j]]) (hc _) (vq 0 G) (.o (vq 4 G))) o0)))))) (zz (Wj 0 1 7 8 5 16) [] λ a w U=>?_);refine zJ 5 U G (λ hb1=>?_) (λ hb1=>?_)
  ·refine qb<|zh [.v 17 _,.v 4 _] UW U (zM 4 G (zA 0 G o0)) (zz (W8 0 1 7 8 4) [] λ a w U=>?_);refine aa<|qi<|aD ?_;refine aj ?_;refine aj ?_;refine aD ?_;refine aj ?_;refine am ?_ (ak G U (zm 4 G));rw [hno,JW hj hb1];exact aM
  ·refine qj<|al ?_;refine aa<|zh [.v 18 _,.v 8 _] WV U (zv G (aL (gq 3 G) ab ((wi64 zo zo).trans (by omega:(_:Int)=((j+1:Nat):Int)))) (zV 0 G o0)) (zz (Wf 0 1 7 8) [] λ a w U=>?_);refine aa ?_;have U:=St.sel U [0,1,2,3];exact ⟨n-1,by omega,j+1,⟨by omega,hno.trans (N3 hj hb1)⟩,U⟩
 ·obtain rfl:j=xs.length:=by have:=qw hb0;omega
  refine qP<|ai<|ai<|az<|zt<|zh WP WZ U (zE G ab) (zz U0 [] λ a w U=>?_);refine aa<|qi<|am ?_ (ak G U (zm 0 G));rw [hno,xz];exact aM
theorem Nq {f:Yn}{q:Int→Bool}{PT:VA}(hc:∀ n,Cn Tryz.prog f [In n,PT] (Bo (q n)))(xs:Yl):Cn Tryz.prog 217 [(SlA 3 [] (xs.map InA)).va,FnC f PT] (Bo (xs.any q)):=by
 refine Cn.intro Tryz.func217 G zk nq (zy [(0,(SlA 3 [] (xs.map InA)).va),(1,FnC f PT)] λ B w0 a U=>?_);refine qb<|zh WP WQ U (zE G aJ) (zz WR [] ?_);refine ztA<|zhA (Ww 5 [.v 4 _]) UL (zM 0 G (zM 1 G (zQ G (MS hc xs) (.p (vq 0 G) (vq 1 G)) (zv G (dD (vq 2 G) ab) (zA 3 G o0))))) (zz U0 [] λ a w U=>?_);refine aa<|qi<|am ?_ (ak G U (zm 0 G));rw [← u6 q xs 0];exact aM
theorem E8 (t:RTk)(xs:Yl):Cn Tryz.prog 175 [(TkA t).va,(SlA 3 [] (xs.map InA)).va] (Bo (pkF t xs)):=by
 refine Cn.intro Tryz.func175 G zk nq (zy [(0,(TkA t).va),(1,(SlA 3 [] (xs.map InA)).va)] λ B w0 a U=>?_);refine qb<|zg [] [zpL 2 30 0 _] [.alc 0,.v 4 _] [.g 1,.o 1] U (zW 0 G (zE G aJ)) (zz (Wc 1 4) RA ?_);refine ztA<|zgA U1 [] (Wl 5 [.t 11 _,.t 12 _,.t 13 _,.t 14 _,.v 15 _,.v 4 _]) [.o 11] (zM 0 G (zv G (bn qL (vq 0 G)) (zl 0 G cU (zQ G (rO t) (.o (vq 2 G)) (zv G (ll (vq 1 G) (vq 3 G)) (zV 4 G (zB 5 G (λ hg=>aA (gq 0 G)) (zB 5 G (λ hg=>OS (lz0 0 G)) (zB 5 G (λ hg=>ba (Nq (AL t) xs) (.p (ae (vq 6 G) hg) (ae (vq 7 G) hg))) (zB 5 G (λ hg=>er (ae (vq 8 G) hg)) (zv G (bE (vq 5 G) (vq 9 G)) (zA 10 G o0)))))))))))) (zz U0 RA λ a w U=>?_);refine aa<|qi<|am ?_ (ak G U (zm 0 G));simp only [qd];exact aM
def CoA (k:Nat)(m:MQ):As:=cat [QA k m.a,QA k m.c]
theorem sE {k k' b:Nat}{y u:Rat}{m:MQ}(hy:y=m.a)(hu:u=m.c)(h:RepM b m):WkA (cat [QA k y,QA k' u]) (CoA b m):=by
 subst hy;subst hu;exact bi (.cons (E2 (A9 h).1) (.cons (E2 (A9 h).2.2.1) .nil))
def spE (x:RF):RE:=⟨1,x,rfOf 0⟩
theorem Lo {x:RE}(h:x.k=1):elM x=⟨1,toQ x.p,0,1⟩:=by unfold elM elQ;rw [h];rfl
theorem On {x:RE}(h:x.k=2):elM x=⟨1,0,0-toQ x.p,1⟩:=by unfold elM elQ;rw [h];rfl
theorem Om {x:RE}(h:x.k=3):elM x=⟨1,toQ x.p/toQ x.q,0,1⟩:=by unfold elM elQ;rw [h];rfl
theorem Ol {x:RE}(h:x.k=4):elM x=⟨1,0,0-toQ x.p*toQ x.q,1⟩:=by unfold elM elQ;rw [h];rfl
theorem Oj {x:RE}(h:x.k=5):elM x=⟨0-1,0-0,0-0,0-1⟩:=by unfold elM elQ;rw [h];rfl
theorem gv {x:RE}{b:Nat}{m:MQ}(h:elF x=true)(hm:RepM b m):RepM (b+4097) (mulQ (elM x) m):=by
 have:=A8 (GM h) hm;rwa [show 4096+b+1=b+4097 by omega] at this
def cmp1 (x y:Int):Int:=if x<y then -1 else if x>y then 1 else 0
def cmpL:List Int→List Int→Int
 | [],[]=>0
 | [],_::_ => -1
 | _::_,[]=>1
 | x::xs,y::ys=>if cmp1 x y=0 then cmpL xs ys else cmp1 x y
theorem Cz {xs ys:Yl}{j:Nat}(h:j<xs.length)(h':j<ys.length)(e:cmp1 xs[j] ys[j]=0):cmpL (xs.drop j) (ys.drop j)=cmpL (xs.drop (j+1)) (ys.drop (j+1)):=by
 rw [qG h,qG h',cmpL,qC e]
theorem Cy {xs ys:Yl}{j:Nat}(h:j<xs.length)(h':j<ys.length)(e:cmp1 xs[j] ys[j]≠0):cmpL (xs.drop j) (ys.drop j)=cmp1 xs[j] ys[j]:=by
 rw [qG h,qG h',cmpL,qy e]
theorem Kq {xs ys:Yl}{j:Nat}(h:j<xs.length)(h':ys.length≤j):cmpL (xs.drop j) (ys.drop j)=1:=by
 rw [qG h,zq h'];rfl
theorem oS {xs ys:Yl}:cmpL (xs.drop xs.length) (ys.drop xs.length)=if xs.length<ys.length then -1 else 0:=by
 rw [xz];by_cases h:xs.length<ys.length
 ·rw [qC h,qG h];rfl
 ·rw [qy h,zq zo];rfl
theorem BJ (x:Int):Cn Tryz.prog 220 [In x] (Bo false):=by
 refine Cn.intro Tryz.func220 G zk nq (zy [(0,In x)] λ B w0 a U=>?_);refine qb<|zh Ux UZ U (zE G aJ) (zz R1 [] ?_);refine ztA<|zhA (Wb 3 [.v 2 _]) UG (zM 0 G (zM 0 G (zv G (c9 (vq 0 G) (vq 1 G)) (zA 2 G o0)))) (zz Uu [] λ a w U=>?_);refine aa<|qi<|am ?_ (ak G U (zm 0 G));refine bf (qt Bo ?_);simp
theorem Nw (x y:Int):Cn Tryz.prog 185 [In x,In y] (In (cmp1 x y)):=by
 refine Cn.intro Tryz.func185 G zk nq (zy [(0,In x),(1,In y)] λ B w0 a U=>?_);refine qb<|zh WP WQ U (zE G ab) (zz WR [] ?_);refine ztA<|zhA (W6 7 [.v 5 _]) UD (zM 0 G (zQ G (BJ _) (.o (vq 0 G)) (zA 1 G o0))) (zz WU [] ?_);refine ztA<|zhA (W6 9 [.v 6 _]) Rv (zM 1 G (zQ G (BJ _) (.o (vq 0 G)) (zA 1 G o0))) (zz UV [] ?_);refine ztA<|zsA<|zhA [.v 11 _] (W7 [.g 4,.o 0]) (zM 3 G o0) (zz (W8 0 1 4 6 11) [] λ a w U=>?_);refine zJ 4 U G (λ hb0=>?_) (λ hb0=>?_)
 ·exact absurd hb0 zd
 ·refine qj<|zt<|qb<|zh [.v 13 _] WX U (zM 3 G o0) (zz (Wf 0 1 4 13) [] λ a w U=>?_);refine zJ 3 U G (λ hb1=>?_) (λ hb1=>?_)
  ·exact absurd hb1 zd
  ·refine qj<|zt<|qb<|zh (Wb 14) UD U (zM 0 G (zM 1 G (zv G (aO (vq 0 G) (vq 1 G)) o0))) (zz (Wf 0 1 4 16) [] λ a w U=>?_);refine zJ 3 U G (λ hb2=>?_) (λ hb2=>?_)
   ·have h:x<y:=qu hb2;refine qb<|zh WP WQ U (zE G ab) (zz WR [] λ a w U=>?_);refine aa<|qi<|aj ?_;refine am ?_ (ak G U (zm 2 G));rw [cmp1,qC h];exact aM
   ·have h:¬ x<y:=qw hb2;refine qj<|zt<|qb<|zh (Wb 17) [.g 2,.o 2] U (zM 0 G (zM 1 G (zv G (cD (vq 0 G) (vq 1 G)) o0))) (zz (Wc 4 19) [] λ a w U=>?_);refine zJ 1 U G (λ hb3=>?_) (λ hb3=>?_)
    ·have h2:x>y:=qu hb3;refine qb<|zh WP WZ U (zE G ab) (zz U0 [] λ a w U=>?_);refine aa<|qi<|aj ?_;refine am ?_ (ak G U (zm 0 G));rw [cmp1,qy h,qC h2];exact aM
    ·have h2:¬ x>y:=qw hb3;refine qj<|zt<|zh WP WZ U (zE G ab) (zz U0 [] λ a w U=>?_);refine aa<|qi<|am ?_ (ak G U (zm 0 G));rw [cmp1,qy h,qy h2];exact aM
theorem Nx (xs ys:Yl):Cn Tryz.prog 115 [(SlA 3 [] (xs.map InA)).va,(SlA 3 [] (ys.map InA)).va] (In (cmpL xs ys)):=by
 refine Cn.intro Tryz.func115 G zk nq (zy [(0,(SlA 3 [] (xs.map InA)).va),(1,(SlA 3 [] (ys.map InA)).va)] λ B w0 a U=>?_);have hl:=fO (U.vals (0,(SlA 3 [] (xs.map InA)).va) (zm 0 rfl));refine qb<|zh WP WQ U (zE G ab) (zz WR [] ?_);refine ztA<|zsA<|zhA (Wb 9) (W7 [.o 0,.o 1,.o 2]) (zM 0 G (zv G (bn qL (vq 0 G)) (zv G (aA ab) o0))) (zz (Wj 0 1 4 9 10 11) [] λ a w U=>?_);refine aa<|qk ?_;have U:=St.sel U [0,1,3,4,5];refine wp_loop_ghost (λ n a w=>∃ j:Nat,(n+j=xs.length∧cmpL xs ys=cmpL (xs.drop j) (ys.drop j))∧St B w0 36 [(0,(SlA 3 [] (xs.map InA)).va),(1,(SlA 3 [] (ys.map InA)).va),(9,(SlA 3 [] (xs.map InA)).va),(10,In (xs.length:Nat)),(11,In (j:Nat))] [] a w) (xs.length) ?_ ?_
 ·exact ⟨0,⟨by omega,rfl⟩,by rw [qd] at U;exact U⟩
 intro n a w hI;obtain ⟨j,⟨hn,hno⟩,U⟩:=hI;refine qb<|zh [.v 12 _] U4 U (zv G (aO (gq 4 G) (gq 3 G)) o0) (zz (Wj 0 1 9 10 11 12) [] λ a w U=>?_);refine zt<|c7 U (zm 5 G) (λ hb0=>?_) (λ hb0=>?_)
 ·have hj:j<xs.length:=by have:=qu hb0;omega
  refine qj<|zt<|qk<|qb<|zh (Wb 13 (W6 5)) (Wi [.o 3,.o 4]) U (zM 4 G (zv G (bM dN (cc λ _=>rfl) (gq 2 G) (gq 4 G) (bG hj)) (zv G (ap (vq 1 G) ty_3) (zA 0 G (zA 2 G o0))))) (zz (Wu 0 1 9 10 11 5 6) [] ?_);refine ztA<|zsA<|zhA (Ww 16) (Wx [.o 3]) (zM 5 G (zM 1 G (zv G (bn qL (vq 1 G)) (zv G (dD (vq 0 G) (vq 2 G)) o0)))) (zz (Wy 0 1 9 10 11 5 6 19) [] λ a w U=>?_);refine zJ 7 U G (λ hb1=>?_) (λ hb1=>?_)
  ·have hjy:ys.length≤j:=by rw [qd] at hb1;have:=qu hb1;omega
   refine qb<|zh WP (Wx [.o 0]) U (zE G ab) (zz (Wy 0 1 9 10 11 5 6 4) [] λ a w U=>?_);refine aa<|qi<|aj ?_;refine aD ?_;refine aj ?_;refine aj ?_;refine aD ?_;refine aj ?_;refine am ?_ (ak G U (zm 7 G));rw [hno,Kq hj hjy];exact aM
  ·have hjy:j<ys.length:=by rw [qd] at hb1;have:=qw hb1;omega
   refine qj<|zt<|zh (Ww 20 [.v 7 _]) (Wi [.g 6,.o 4]) U (zM 1 G (zM 5 G (zv G (bM dN (cc λ _=>rfl) (vq 0 G) (vq 1 G) (bG hjy)) (zv G (ap (vq 2 G) ty_3) (zA 3 G o0))))) (zz (Wu 0 1 9 10 11 6 7) [] ?_);refine ztA<|zhA (Wb 24 [.v 8 _]) (Wi [.o 3]) (zM 5 G (zM 6 G (zQ G (Nw _ _) (.p (vq 0 G) (vq 1 G)) (zA 2 G o0)))) (zz (Wj 0 1 9 10 11 8) [] ?_);refine ztA<|zhA (W6 27) (Wq [.o 1]) (zM 5 G (zv G (c9 (vq 0 G) ab) o0)) (zz (Wu 0 1 9 10 11 8 28) [] λ a w U=>?_);refine zJ 6 U G (λ hb2=>?_) (λ hb2=>?_)
   ·refine qb<|zh [.v 29 _,.v 4 _] (Wi [.o 1]) U (zM 5 G (zA 0 G o0)) (zz (Wj 0 1 9 10 11 4) [] λ a w U=>?_);refine aa<|qi<|aD ?_;refine aj ?_;refine aj ?_;refine aD ?_;refine aj ?_;refine am ?_ (ak G U (zm 5 G));rw [hno,Cy hj hjy (by simpa using hb2)];exact aM
   ·refine qj<|al ?_;refine aa<|zh [.v 30 _,.v 11 _] UW U (zv G (aL (gq 4 G) ab ((wi64 zo zo).trans (by omega:(_:Int)=((j+1:Nat):Int)))) (zV 0 G o0)) (zz (W8 0 1 9 10 11) [] λ a w U=>?_);refine aa ?_;have U:=St.sel U [0,1,2,3,4];exact ⟨n-1,by omega,j+1,⟨by omega,hno.trans (Cz hj hjy (by simpa using hb2))⟩,U⟩
 ·obtain rfl:j=xs.length:=by have:=qw hb0;omega
  refine qP<|ai<|ai<|az<|zt<|qb<|zh (Wd 31) UL U (zM 0 G (zv G (bn qL (vq 0 G)) (zM 1 G (zv G (bn qL (vq 2 G)) (zv G (aO (vq 1 G) (vq 3 G)) o0))))) (zz [(35,_)] [] λ a w U=>?_);refine zJ 0 U G (λ hb3=>?_) (λ hb3=>?_)
  ·have hle:xs.length<ys.length:=by simp only [qd] at hb3;have:=qu hb3;omega
   refine qb<|zh WP WZ U (zE G ab) (zz U0 [] λ a w U=>?_);refine aa<|qi<|aj ?_;refine am ?_ (ak G U (zm 0 G));rw [hno,oS,qC hle];exact aM
  ·have hle:¬ xs.length<ys.length:=by simp only [qd] at hb3;have:=qw hb3;omega
   refine qj<|zt<|zh WP WZ U (zE G ab) (zz U0 [] λ a w U=>?_);refine aa<|qi<|am ?_ (ak G U (zm 0 G));rw [hno,oS,qy hle];exact aM
structure WyQ where
 l:List Int
 pw:Rat
 aw:Rat
 c:Int
def WyA (k:Nat)(x:WyQ):As:=cat [SlA 3 [] (x.l.map InA),QA k x.pw,QA k x.aw,InA x.c]
def betF (a b:WyQ):Bool:=if (cmQ a.aw b.aw != 0) then decide (cmQ a.aw b.aw<0) else if (a.c != b.c) then decide (a.c<b.c) else decide (cmpL a.l b.l<0)
theorem FE {k:Nat}(hk:k≤400000000)(x y:WyQ):Cn Tryz.prog 23 [(WyA k x).va,(WyA k y).va] (Bo (betF x y)):=by
 refine Cn.intro Tryz.func23 G zk nq (zy [(0,(WyA k x).va),(1,(WyA k y).va)] λ B w0 a U=>?_);refine qb<|zg [] [zpL 2 71 0 _,zpL 3 71 1 _] Uz U9 U (zW 0 G (zW 1 G (zE G aJ))) (zz U0 RB ?_);refine ztA<|zsA<|zgA UC [] (.adr 6 2 (.some 5) True::.v 7 _::.adr 8 3 (.some 5) True::(W6 9 [.v 5 _])) [.g 0,.o 5] (zO 0 G fX (zL 0 0 2 G au (zO 1 G fX (zL 2 1 2 G au (zQ G (Kp zo) (.p (vq 1 G) (vq 3 G)) (zA 4 G o0)))))) (zz (Wc 4 5) RB ?_);refine ztA<|zgA UC [] (W6 11) UF (zM 1 G (zv G (c9 (vq 0 G) ab) o0)) (zz (Wa 4 5 12) RB λ a w U=>?_);refine zJ 2 U G (λ hb0=>?_) (λ hb0=>?_)
 ·refine qb<|zg UE [] (W6 13 [.v 4 _]) U9 U (zM 1 G (zv G (aO (vq 0 G) ab) (zA 1 G o0))) (zz U0 RB λ a w U=>?_);refine aa<|qi<|aj ?_;refine am ?_ (ak G U (zm 0 G));rw [betF,qC hb0];exact aM
 ·refine qj<|zt<|qb<|zg UE [] (.adr 15 2 (.some 9) True::.v 16 _::.adr 17 3 (.some 9) True::(W6 18)) Uw U (zO 0 G ii (zL 0 0 3 G ty_3 (zO 1 G ii (zL 2 1 3 G ty_3 (zv G (c9 (vq 1 G) (vq 3 G)) o0))))) (zz (Wc 4 19) RB λ a w U=>?_);refine zJ 1 U G (λ hb1=>?_) (λ hb1=>?_)
  ·refine qb<|zg UE [] (.adr 20 2 (.some 9) True::.v 21 _::.adr 22 3 (.some 9) True::(W6 23 [.v 4 _])) [.o 5] U (zO 0 G ii (zL 0 0 3 G ty_3 (zO 1 G ii (zL 2 1 3 G ty_3 (zv G (aO (vq 1 G) (vq 3 G)) (zA 4 G o0)))))) (zz U0 RB λ a w U=>?_);refine aa<|qi<|aj ?_;refine am ?_ (ak G U (zm 0 G));rw [betF,qy (by rw [hb0];decide),qC hb1];exact aM
  ·refine qj<|zt<|zg UE [] (.adr 25 2 (.some 0) True::.v 26 _::.adr 27 3 (.some 0) True::(Wb 28 [.v 4 _])) [.o 6] U (zO 0 G fY (zL 0 0 0 G cC (zO 1 G fY (zL 2 1 0 G cC (zQ G (Nx _ _) (.p (vq 1 G) (vq 3 G)) (zv G (aO (vq 4 G) ab) (zA 5 G o0))))))) (zz U0 RB λ a w U=>?_);refine aa<|qi<|am ?_ (ak G U (zm 0 G));rw [betF,qy (by rw [hb0];decide),qy (by rw [hb1];decide)];exact aM
theorem IL {Q:Yd}{B N:Nat}{ops:Yg}{i:Nat}{K:Ye}{p d g k sx:Nat}{ty T T':Yh}{A0 A A1:As}(src:Ya)(kp kd ks e:Nat)(ho:ops[i]?=some ⟨none,.store ty (.tmp p) (.tmp d),T',ps,af,none⟩)(h:St B w0 N Γ Λ a w)
  (hp:Γ[kp]?=some (p,EqV (.pointer (some ⟨g,k,none⟩)))) (hd:Γ[kd]?=some (d,A.va)) (hs:Γ[ks]?=some (sx,EqV (H.f g))) (ht:Ty P ty A.n A.ag) (hl:Λ[e]?=some ⟨sx,T,H,A0⟩)
  (hput:Put A0 k A A1) (hsrc:src.all (λ k=>match Γ[k]? with|some y => !y.2.deps.contains T|none=>false)=true) (hΛ:Λ.zipIdx.all (λ x=>x.2==e || (x.1.s != sx && !x.1.A.deps.contains T))=true) (hT:A1.deps.contains T=false)
  (hK:∀ w',St B w0 N (src.filterMap λ k=>Γ[k]?) (Λ.set e ⟨sx,T,H,A1⟩) a w'→K (a.put none undef) w'):wpOp P ops Q i K a w:=by
 have e1:a.eval (.tmp p)=.pointer (some ⟨g,k,none⟩):=h.vals _ (qa hp);obtain ⟨cs',hpA,e2⟩:=h.vals _ (qa hd);have e2:a.eval (.tmp d)=cE A.ag cs':=e2;have e0:a.eval (.tmp sx)=H.f g:=h.vals _ (qa hs);obtain ⟨g0,cs,q1,q2,q3,q4⟩:=h.locs _ (qa hl);have:g0=g:=by
  have:=qt blk (q1.symm.trans e0);rw [H.ok,H.ok] at this;injection this
 subst this;obtain ⟨hkc,hp1⟩:=hput B cs cs' w q4 hpA;have lA:=A.len _ _ _ hpA;have hrun:=bT ht w g0 k T cs.toArray _ cs' (A.cells_shape hpA) lA (by simpa using hkc) (A.one _ _ _ hpA) q3;have e3:cs.toArray.toList.take k++cs'++cs.toArray.toList.drop (k+A.n)=dc cs k cs':=by simp [dc,lA]
 rw [e3] at hrun;have hW:=Wr.setRow w g0 (dc cs k cs').toArray;have hB:B≤g0:=h.lo g0 q2;have hTn:T ∉ A1.deps:=by simpa using hT
 unfold wpOp;simp only [ho,Region.wanted,if_true];refine .inl (wp_skip' (w':=w.setRow g0 (dc cs k cs').toArray) ?_ (hK _ ⟨h.lo,h.defers.keep rfl λ D hD=>(hW.block D (λ e=>by subst e;rw [q3] at hD;cases hD)).trans hD,h.size,h.base.wr hW q2,λ x hx=>?_,λ m hm=>?_,λ m1 hm1 m2 hm2 hne=>?_⟩))
 ·simp [execOp,e1,e2,Instr.storeAt,Instr.sureAddr,hrun]
 ·obtain ⟨k',hk1,hk2⟩:=qH.1 hx;have:=qe.1 hsrc k' hk1;simp only [hk2,qz,qB,qm] at this;exact x.2.wr _ _ _ _ _ _ _ _ q3 this hB hW (h.vals x (qa hk2))
 ·obtain ⟨j,hj⟩:=List.getElem?_of_mem hm;by_cases e5:j=e
  ·subst e5;have:m=⟨sx,T,H,A1⟩:=by
    rw [List.getElem?_set_self (List.getElem?_eq_some_iff.1 hl).1] at hj;injection hj with hj;exact hj.symm
   subst this;exact ⟨g0,dc cs k cs',q1,q2,setRow_heap w g0 _ _ _ _ q3,A1.wr _ _ _ _ _ _ _ _ q3 hTn hB hW hp1⟩
  ·rw [List.getElem?_set_ne (λ e2=>e5 e2.symm)] at hj;have hc:=qe.1 hΛ (m,j) (zj.2 hj);simp only [zU,xr,qo,bne_iff_ne,qz,qB,qm] at hc;have hc':=hc.resolve_left e5;obtain ⟨g',cs2,p1,p2,p3,p4⟩:=h.locs m (qa hj);have hne:g'≠g0:=λ hh=>h.dis m (qa hj) _ (qa hl) hc'.1 (by rw [p1,q1,hh,m.H.ok,Hd.ok]);exact ⟨g',cs2,p1,p2,(hW.block g' hne).trans p3,m.A.wr _ _ _ _ _ _ _ _ q3 hc'.2 hB hW p4⟩
 ·have hs:∀ m∈Λ.set e ⟨sx,T,H,A1⟩,∃ m0∈Λ,m0.s=m.s:=λ m hm=>by
   rcases qq hm with hm|rfl
   ·exact ⟨m,hm,rfl⟩
   ·exact ⟨_,qa hl,rfl⟩
  obtain ⟨m3,r1,r2⟩:=hs m1 hm1;obtain ⟨m4,r3,r4⟩:=hs m2 hm2;rw [← r2,← r4] at hne ⊢;exact h.dis m3 r1 m4 r3 hne
def lamT (Λ:List Lc)(e:Nat)(A:As):List Lc:=Λ.zipIdx.map λ x=>⟨x.1.s,x.1.T,x.1.H,if x.2=e then A else x.1.A⟩
section
open Rg
variable {P:Program}{Q:Exit→Act→World→Prop}{B N:Nat}{w0:Bs}{Γ:List (Nat × VA)}{Λ:List Lc}{a:Act}{w:World}
theorem JA {R:Rg}{n:Nat}{Λ':Yk}(hles:∀ l'∈Λ',∃ y∈R.les,y.s=l'.s∧y.T=l'.T∧y.H=l'.H∧y.cr=none∧Rg.cur (λ k=>decide (k<n)) y=some l'.A)(hinv:R.Inv B w0 (λ k=>decide (k<n)) a w)(src:List Src)
  (hsrc:src.all (λ s=>match s with | .g k=>(match R.Γ[k]? with|some x=>Rg.outG R x.1 && !Rg.clash R (λ k=>decide (k<n)) x.2.deps|none=>false) | .o i=>decide (i<n)&&(match R.sp[i]? with|some y=>(match y.vl with|some z => !Rg.clash R (λ k=>decide (k<n)) z.2.deps|none=>true) | none=>true))=true):St B w0 R.N (src.filterMap (cA R)) Λ' a w:=by
 refine ⟨hinv.lo,hinv.defers,hinv.size,hinv.base,λ x hx=>?_,λ l' hl'=>?_,λ l1 h1 l2 h2 hne=>?_⟩
 rotate_left
 ·obtain ⟨y,hy,e1,e2,e3,_,e4⟩:=hles l' hl';have:=hinv.c _ hy l'.A e4;rw [e1,e2,e3] at this;exact this
 ·obtain ⟨y1,hy1,e1,_,_,_,f1⟩:=hles l1 h1;obtain ⟨y2,hy2,e2,_,_,_,f2⟩:=hles l2 h2;rw [← e1,← e2] at hne ⊢;exact hinv.x _ hy1 _ hy2 hne (by rw [f1];rfl) (by rw [f2];rfl)
 obtain ⟨s,hs1,hs2⟩:=qH.1 hx;have ho:=qe.1 hsrc s hs1;cases s with
 | g k =>
  simp only [cA] at hs2;simp only [hs2,qo,qz] at ho;refine hinv.g x (qa hs2) (λ q hq hdq=>?_) ho.2;cases h2:R.ops[q]? with
  | none=>unfold Rg.dst at hdq;rw [h2] at hdq;cases hdq
  | some v =>
   have:=qe.1 ho.1 q (by simpa using (Array.getElem?_eq_some_iff.1 h2).1);exact absurd hdq (by simpa using this)
 | o i =>
  simp only [cA] at hs2;cases hy:R.sp[i]? with
  | none=>rw [hy] at hs2;cases hs2
  | some y =>
   rw [hy] at hs2;have hs3:y.vl=some x:=hs2;simp only [hy,hs3,qo,qz] at ho;exact hinv.v i y x.1 x.2 hy hs3 ho.1 ho.2
theorem EG {id:Nat}{ops:Yg}{sp:Yu}(anc:List (Ya))(n m e j:Nat)(A1:As)(src:List Src)(hmx:P.follows .mixedOrders=true)
  (h:St B w0 N Γ Λ a w) (hob:Obs P Q ⟨ops,N,Γ,lesS Λ e j A1,sp,λ i=>anc.getD i []⟩ B w0 0 n) (hsz:ops.size=n+m) (hm:0<m) (hj:j<n) (hanc:Rg.ancOk ⟨ops,N,Γ,lesS Λ e j A1,sp,λ i=>anc.getD i []⟩=true) (hall:∀ i,n≤i→i<n+m→∀ j,j<i→(anc.getD i []).contains j=true) (hk:Rg.chk ⟨ops,N,Γ,lesS Λ e j A1,sp,λ i=>anc.getD i []⟩=true)
  (hsrc:src.all (λ s=>match s with | .g k=>(match Γ[k]? with|some x=>Rg.outG ⟨ops,N,Γ,lesS Λ e j A1,sp,λ i=>anc.getD i []⟩ x.1 && !Rg.clash ⟨ops,N,Γ,lesS Λ e j A1,sp,λ i=>anc.getD i []⟩ (λ k=>decide (k<n)) x.2.deps|none=>false) | .o i=>decide (i<n)&&(match sp[i]? with|some y=>(match y.vl with|some z => !Rg.clash ⟨ops,N,Γ,lesS Λ e j A1,sp,λ i=>anc.getD i []⟩ (λ k=>decide (k<n)) z.2.deps|none=>true) | none=>true))=true)
  (hQ:∀ a' w',St B w0 N (src.filterMap (cA ⟨ops,N,Γ,lesS Λ e j A1,sp,λ i=>anc.getD i []⟩)) (lamT Λ e A1) a' w'→wpOps P ops Q (List.range' n m) a' w'):(Code.region id ops true).wp P Q a w:=by
 refine Rg.drawK (R:=⟨ops,N,Γ,lesS Λ e j A1,sp,λ i=>anc.getD i []⟩) (m:=m) hsz hm hmx hanc hk h (λ y hy _=>?_) (λ i hi=>hob.all i zo zo) (λ i h1 h2 j hj=>hall i h1 h2 j hj) λ a1 w1 hinv=>?_
 ·exact (eO y hy).2.1
 ·refine hQ a1 w1 (JA (λ l' hl'=>?_) hinv src hsrc);obtain ⟨x,hx,rfl⟩:=qp.1 hl';refine ⟨⟨x.1.s,x.1.T,x.1.H,none,x.1.A,if x.2=e then some (j,A1) else none⟩,qp.2 ⟨x,hx,rfl⟩,?_⟩
  by_cases h1:x.2=e
  ·simp only [h1,if_true];exact ⟨by trivial,by trivial,by trivial,by trivial,by simp [Rg.cur,Rg.crOk,hj]⟩
  ·simp only [h1,if_false];exact ⟨by trivial,by trivial,by trivial,by trivial,by simp [Rg.cur,Rg.crOk]⟩
end
theorem D0 {ops:Yg}{Q:Yd}(h:Q .normal a w):wpOps P ops Q [] (a.put none undef) w:=h
set_option maxHeartbeats 1000000 in
theorem yC {x:RE}{b:Nat}{m:MQ}(hx:elF x=true)(hm:RepM b m)(hb:b≤1000000):Cn Tryz.prog 111 [(REA x).va,(CoA b m).va] ((CoA (b+4097) (mulQ (elM x) m)).va):=by
 refine Cn.intro Tryz.func111 G zk nq (zy [(0,(REA x).va),(1,(CoA b m).va)] λ B w0 a U=>?_);refine qb<|zg [] [zpL 2 91 0 _,zpL 3 117 1 _,zpL 4 117 2 _] Uj [] U (zW 0 G (zW 1 G (zY G (Str.zero iL) o0))) (zz [] RC λ a w U=>?_);have U:=St.wkL U 0 rfl (el_q (iq hx).1);have U:=zn [] RC U;refine zt<|qb<|zg UO [] [.adr 5 2 (.some 0) True,.v 6 _] Ut U (zO 0 G ei (zL 0 0 0 G pi o0)) (zz [(6,_)] RC λ a w U=>?_);refine aa<|qk<|qb<|zg UO [] [.v 8 _,.v 7 _] UY U (zv G (bF (gq 0 G) ab) (zA 0 G o0)) (zz (Wc 6 7) RC λ a w U=>?_);refine aa<|bN (λ a w =>  St B w0 68 [] [⟨2,91,ptrH,QEA 2048 x.k (toQ x.p) (toQ x.q)⟩,⟨3,117,ptrH,CoA (b+4097) (mulQ (elM x) m)⟩,⟨4,117,ptrH,cat [RFA rf0,RFA rf0]⟩] a w) U (zm 1 G) (λ hb0=>?_) (λ hb0=>?_) (λ a w U=>?_)
 ·refine zgd [[],[0],[],[2],[],[4],[2,3,4,5],(Wm 7),(Wm 8),(Wm 9)] [none,some (9,_),none] [] (.adr 9 3 (.some 0) True::.v 10 _::.adr 11 2 (.some 1) True::.v 12 _::.adr 13 3 (.some 4) True::(Wb 14 [.adr 17 3 (.some 0) True,.sto 1])) [] ac U (zO 1 G cv (zL 0 1 0 G au (zO 0 G c6 (zL 2 0 1 G au (zO 1 G cj (zL 4 1 1 G au (zQ G (iK zo) (.p (vq 3 G) (vq 5 G)) (zQ G (AG zo) (.p (vq 1 G) (vq 6 G)) (zO 1 G cv (oc (cX 8 G G G G zk (vq 7 G) au (Put.part 0 G G G)) o0)))))))))) zk zk zk zk (zz [] RC λ a w U=>?_);refine aa ?_;have U:=St.sel U [];have e:=Lo (x:=x) (by simpa using hb0);exact St.wkL U 1 G (sE (by rw [e];show _=_*m.a+_*m.c;grind) (by rw [e];show _=_*m.a+_*m.c;grind) (gv hx hm))
 ·refine qb<|zg UO [] [.v 19 _,.v 18 _] UY U (zv G (bF (gq 0 G) ab) (zA 0 G o0)) (zz (Wc 6 18) RC λ a w U=>?_);refine aa<|bN (λ a w =>  St B w0 68 [] [⟨2,91,ptrH,QEA 2048 x.k (toQ x.p) (toQ x.q)⟩,⟨3,117,ptrH,CoA (b+4097) (mulQ (elM x) m)⟩,⟨4,117,ptrH,cat [RFA rf0,RFA rf0]⟩] a w) U (zm 1 G) (λ hb1=>?_) (λ hb1=>?_) (λ a w U=>?_)
  ·refine zgd [[],[0],[],[2],[],[4],[2,3,4,5],[],[7],[2,3,4,5,6,7,8],(Wm 10),(Wm 11),(Wm 12)] [none,some (12,_),none] [] (.adr 20 3 (.some 0) True::.v 21 _::.adr 22 2 (.some 1) True::.v 23 _::.adr 24 2 (.some 5) True::(W6 25 (.adr 27 3 (.some 4) True::(Wb 28 [.adr 31 3 (.some 0) True,.sto 1])))) [] ac U (zO 1 rfl cv (zL 0 1 0 rfl au (zO 0 rfl c6 (zL 2 0 1 rfl au (zO 0 rfl cu (zL 4 0 2 rfl au (zQ rfl (M9 zo (by rcases (iq hx).2 with h|h|h|h|h <;> simp_all)) (.p (vq 3 rfl) (vq 5 rfl)) (zO 1 rfl cj (zL 7 1 1 rfl au (zQ rfl (iK zo) (.p (vq 6 rfl) (vq 8 rfl)) (zQ rfl (AG zo) (.p (vq 1 rfl) (vq 9 rfl)) (zO 1 rfl cv (oc (cX 11 rfl rfl rfl rfl zk (vq 10 rfl) au (Put.part 0 rfl rfl rfl)) o0))))))))))))) zk zk zk zk (zz [] RC λ a w U=>?_);refine aa ?_;have U:=St.sel U [];have e:=Om (x:=x) (by simpa using hb1);exact St.wkL U 1 G (sE (by rw [e];show _=_*m.a+_*m.c;grind) (by rw [e];show _=_*m.a+_*m.c;grind) (gv hx hm))
  ·refine qb<|zg UO [] [.v 33 _,.v 32 _] UY U (zv G (bF (gq 0 G) ab) (zA 0 G o0)) (zz (Wc 6 32) RC λ a w U=>?_);refine aa<|bN (λ a w =>  St B w0 68 [] [⟨2,91,ptrH,QEA 2048 x.k (toQ x.p) (toQ x.q)⟩,⟨3,117,ptrH,CoA (b+4097) (mulQ (elM x) m)⟩,⟨4,117,ptrH,cat [RFA rf0,RFA rf0]⟩] a w) U (zm 1 G) (λ hb2=>?_) (λ hb2=>?_) (λ a w U=>?_)
   ·refine zgd [[],[0],[],[2],[],[4],[2,3,4,5],(Wm 7),(Wm 8),(Wm 9)] [none,some (9,_),none] [] (.adr 34 3 (.some 4) True::.v 35 _::.adr 36 2 (.some 1) True::.v 37 _::.adr 38 3 (.some 0) True::(Wb 39 [.adr 42 3 (.some 4) True,.sto 1])) [] ac U (zO 1 G cj (zL 0 1 1 G au (zO 0 G c6 (zL 2 0 1 G au (zO 1 G cv (zL 4 1 0 G au (zQ G (iK zo) (.p (vq 3 G) (vq 5 G)) (zQ G (s7 zo) (.p (vq 1 G) (vq 6 G)) (zO 1 G cj (oc (cX 8 G G G G zk (vq 7 G) au (Put.part 1 G G G)) o0)))))))))) zk zk zk zk (zz [] RC λ a w U=>?_);refine aa ?_;have U:=St.sel U [];have e:=On (x:=x) (by simpa using hb2);exact St.wkL U 1 G (sE (by rw [e];show _=_*m.a+_*m.c;grind) (by rw [e];show _=_*m.a+_*m.c;grind) (gv hx hm))
   ·refine qb<|zg UO [] [.v 44 _,.v 43 _] UY U (zv G (bF (gq 0 G) ab) (zA 0 G o0)) (zz (Wc 6 43) RC λ a w U=>?_);refine aa<|bN (λ a w =>  St B w0 68 [] [⟨2,91,ptrH,QEA 2048 x.k (toQ x.p) (toQ x.q)⟩,⟨3,117,ptrH,CoA (b+4097) (mulQ (elM x) m)⟩,⟨4,117,ptrH,cat [RFA rf0,RFA rf0]⟩] a w) U (zm 1 G) (λ hb3=>?_) (λ hb3=>?_) (λ a w U=>?_)
    ·refine zgd [[],[0],[],[2],[],[4],[2,3,4,5],[],[7],[2,3,4,5,6,7,8],(Wm 10),(Wm 11),(Wm 12)] [none,some (12,_),none] [] (.adr 45 3 (.some 4) True::.v 46 _::.adr 47 2 (.some 1) True::.v 48 _::.adr 49 2 (.some 5) True::(W6 50 (.adr 52 3 (.some 0) True::(Wb 53 [.adr 56 3 (.some 4) True,.sto 1])))) [] ac U (zO 1 G cj (zL 0 1 1 G au (zO 0 G c6 (zL 2 0 1 G au (zO 0 G cu (zL 4 0 2 G au (zQ G (iK zo) (.p (vq 3 G) (vq 5 G)) (zO 1 G cv (zL 7 1 0 G au (zQ G (iK zo) (.p (vq 6 G) (vq 8 G)) (zQ G (s7 zo) (.p (vq 1 G) (vq 9 G)) (zO 1 G cj (oc (cX 11 G G G G zk (vq 10 G) au (Put.part 1 G G G)) o0))))))))))))) zk zk zk zk (zz [] RC λ a w U=>?_);refine aa ?_;have U:=St.sel U [];have e:=Ol (x:=x) (by simpa using hb3);exact St.wkL U 1 G (sE (by rw [e];show _=_*m.a+_*m.c;grind) (by rw [e];show _=_*m.a+_*m.c;grind) (gv hx hm))
    ·refine qb<|zg UO [] [.v 58 _,.v 57 _] Ut U (zv G (bF (gq 0 G) ab) (zA 0 G o0)) (zz [(57,_)] RC λ a w U=>?_);refine aa<|bN (λ a w =>  St B w0 68 [] [⟨2,91,ptrH,QEA 2048 x.k (toQ x.p) (toQ x.q)⟩,⟨3,117,ptrH,CoA (b+4097) (mulQ (elM x) m)⟩,⟨4,117,ptrH,cat [RFA rf0,RFA rf0]⟩] a w) U (zm 0 G) (λ hb4=>?_) (λ hb4=>?_) (λ a w U=>?_)
     ·obtain ⟨q3,U⟩:=St.nm U 1 rfl;refine EG (sp:=[.adr 59 3 (.some 0) True,.v 60 _,.v 61 _,.adr 62 3 (.some 4) True,.v 63 _,.v 64 _,.adr 65 3 (.some 0) True,.sto 1,.skp,.skp]) [[],[0],[0,1],[],[3],[0,1,2,3,4],[0,1,2,3,4],[0,1,2,3,4,5,6],[0,1,2,3,4,5,6,7],[0,1,2,3,4,5,6,7,8]] 8 2 1 7 (cat [QA b (-m.a),QA b m.c]) [.g 0,.o 5] ac U (zO 1 G cv (zL 0 1 0 G au (zQ G (lr zo) (.o (vq 1 G)) (zO 1 G cj (zL 3 1 1 G au (zQ G (lr zo) (.o (vq 4 G)) (zO 1 G cv (oc (cX 6 G G G G zk (vq 2 G) au (Put.part 0 G G G)) o0)))))))) G zd zd zk (fI zk) zk zk (zz (Wc 3 64) RC λ a w U=>?_);rw [show List.range' 8 2=[8,9] from rfl];rw [qv];refine fj 0 G U cj G zd zk zk (λ a U=>?_);rw [qv];refine IL (A:=QA b (-m.c)) (A1:=cat [QA b (-m.a),QA b (-m.c)]) [] 0 2 1 1 G U G G G au G (Put.part 1 G G G) zk zk zk (λ w U=>?_);refine D0 ?_;have U:St B w0 68 [] [O 2 91 _,O 3 117 _,O 4 117 _] _ w:=U;refine aa ?_;have U:=St.sel U [];have e:=Oj (x:=x) (by simpa using hb4);exact St.wkL U 1 G (sE (by rw [e];show _=_*m.a+_*m.c;grind) (by rw [e];show _=_*m.a+_*m.c;grind) (gv hx hm))
     ·refine qj<|aa ?_;have U:=St.sel U [];exact absurd (iq hx).2 (by simp at hb0 hb1 hb2 hb3 hb4;simp [hb0,hb1,hb2,hb3,hb4])
     refine aa ?_;have U:=St.sel U [];exact U
    refine aa ?_;have U:=St.sel U [];exact U
   refine aa ?_;have U:=St.sel U [];exact U
  refine aa ?_;have U:=St.sel U [];exact U
 refine al ?_;refine zt<|zg [η,η,some (1,_)] [] [.v 67 _,.sto 2] [] U (zl 1 G gJ (zS 0 G gJ o0)) (zz [] RC λ a w U=>?_);refine aa<|qi<|am ?_ (ax G U (zm 2 G) gJ);exact aM
abbrev ky (s:ByteArray):Lit:=.string s.data.toList
def dupB (ns:List ByteArray):Bool := !decide (ns.map λ s=>s.data.toList).Nodup
def MpI (P:Program)(K E:TypeId)(w:World)(b:Nat)(ns:List ByteArray):Prop :=
 ∃ D:DataW Unit,w.ownsMap P K (plainElem P E) b ns.length D∧Maps.Tidy D∧(∀ s:ByteArray,Maps.has D (ky s)=(ns.map λ s=>s.data.toList).contains s.data.toList)∧decide (Maps.size D<ns.length)=dupB ns
section
variable {P:Program}{K E T:TypeId}{w:World}{b:Nat}{ns:List ByteArray}
theorem My:MpI P K E (w.alloc (.map #[] 0)) w.heap.size [] :=
 ⟨.map [],World.ownsMap_made w P K _,Maps.tidy_empty,λ s=>rfl,rfl⟩
theorem MpI.at_ (h:MpI P K E w b ns):∃ es clock,w.heap[b]?=some (.map es clock):=by
 obtain ⟨D,⟨es,clock,hb,_⟩,_⟩:=h;exact ⟨es,clock,hb⟩
theorem MpI.kept (h:MpI P K E w b ns)(hk:w'.heap[b]?=w.heap[b]?):MpI P K E w' b ns:=by
 obtain ⟨D,⟨es,clock,hb,F,hs,hD⟩,h2,h3,h4⟩:=h;exact ⟨D,⟨es,clock,hk.trans hb,F,hs,hD⟩,h2,h3,h4⟩
theorem MpI.len (h:MpI P K E w b ns)(ht:P.underlying T=some (.map K E))(ty:Yh):∃ n:Nat,(Builtin.len_ #[T] ty #[.map (some b)]).run P w=.ok (.int .i64 n) w∧decide ((n:Int)<(ns.length:Int))=dupB ns:=by
 obtain ⟨D,h1,h2,h3,h4⟩:=h;exact ⟨_,h1.len ht ty,by rw [← h4,q9];omega⟩
theorem uk (ns:List ByteArray)(s:ByteArray):dupB (ns++[s])=(dupB ns || (ns.map λ s=>s.data.toList).contains s.data.toList):=by
 unfold dupB;rw [zT,vW];by_cases h1:(ns.map λ s=>s.data.toList).Nodup
 ·by_cases h2:s.data.toList∈ns.map λ s=>s.data.toList
  ·have:¬ ((ns.map λ s=>s.data.toList)++[s.data.toList]).Nodup:=λ h=>(xE.1 h).2.2 _ h2 _ (by simp) rfl;rw [zK this,qB,qE h2];simp
  ·have:((ns.map λ s=>s.data.toList)++[s.data.toList]).Nodup:=xE.2 ⟨h1,by simp,λ a ha c hc e=>by
    obtain rfl:=ql.1 hc;exact h2 (e▸ha)⟩
   rw [qE this,qE h1,qB,zK h2];rfl
 ·have:¬ ((ns.map λ s=>s.data.toList)++[s.data.toList]).Nodup:=λ h=>h1 (xE.1 h).1;rw [zK this,zK h1];rfl
theorem MpI.add (h:MpI P K E w b ns)(hK:P.underlying K=some .string)(ht:P.underlying T=some (.map K E))(hE:P.underlying E=some (.int .i64))(hz:(zeroValue E).run P w=.ok (.int .i64 0) w)(hn:ns.length<4096){s:ByteArray}(hs:s.size≤4096) :
  ∃ c:Int,(Instr.lookup T (.map (some b)) (.string s) false).run P w=.ok (.int .i64 c) w∧∃ w',(Instr.mapUpdate T (.map (some b)) (.string s) (.int .i64 (IntKind.i64.wrap (c+1)))).run P w=.ok () w'∧MpI P K E w' b (ns++[s])∧w.grownBy w' (some b):=by
 obtain ⟨D,h1,h2,h3,h4⟩:=h;have hkey:keyOf P K (.string s)=some (ky s):=WideMaps.keyOf_string_mk hK (by unfold maxLen;omega);have hkl:WideAt.IsKeyLit (ky s):=by trivial
 obtain ⟨c,hr,_,_⟩:=h1.lookup_int (Maps.string_keyed hK) ht hE hz hkey;have hwf:(Lit.int .i64 (IntKind.i64.wrap (c+1))).wf=true:=wf_wrap _ _;obtain ⟨w',hr',ho,hg⟩:=h1.update (Maps.string_keyed hK) ht (by unfold maxLen;omega) hkey (plainElem_int (H:=Unit) hE hwf);refine ⟨c,hr,w',hr',⟨_,by rw [qx];exact ho,h2.put hkl _,λ s'=>?_,?_⟩,hg⟩
 ·rw [zT,vW];by_cases e:s'.data.toList=s.data.toList
  ·rw [show ky s'=ky s from qt Lit.string e,Maps.has_put_same h2.isMap hkl,e];simp
  ·rw [Maps.has_put_other (λ h=>e (by injection h)),h3];simp [qB,e]
 ·rw [uk,Maps.size_put h2,h3 s,← h4];have hle:=h1.size_le;rw [qx,z8];by_cases e:(ns.map λ s=>s.data.toList).contains s.data.toList=true
  ·rw [qC e,e,vw];exact qE zo
  ·rw [qy e,xI.2 e,Bool.or_false,q9];omega
end
def locV (Λ:List Lc)(a:Act)(k:Nat):Prop:=∃ l∈Λ,blk (a.eval (.tmp l.s))=some k
def defV (w0:Bs)(w:World)(k:Nat):Prop:=w0.may k∧w.heap[k]?=some (.deferred (some []))
theorem St.frameM {B N:Nat}(h:St B w0 N Γ Λ a w):∃ w1:Bs,St B w1 N Γ Λ a w∧∀ {N':Nat}{Γ':Yf}{Λ':Yk}{a':Act}{w':Yi},St B w1 N' Γ' Λ' a' w' →
  St B w0 N' Γ' Λ' a' w'∧∀ (k:Nat) (es:Array MapEntry) (clock:Nat),w.heap[k]?=some (.map es clock)→w'.heap[k]?=some (.map es clock):=by
 have hloc:∀ k,locV Λ a k→w0.may k∧∃ l∈Λ,blk (a.eval (.tmp l.s))=some k∧∃ cs,w.heap[k]?=some (.cells cs l.T (0,0)):=λ k ⟨l,hl,hb⟩=>by
  obtain ⟨g,cs,e1,e2,e3,_⟩:=h.locs l hl;have:g=k:=by rw [e1,l.H.ok] at hb;injection hb
  subst this;exact ⟨e2,l,hl,hb,_,e3⟩
 have hmay:∀ k,(⟨w,λ k=>locV Λ a k∨defV w0 w k,w0.nd⟩:Bs).may k→w0.may k:=λ k hk=>by
  rcases hk with hk|hk|hk
  ·exact .inl (qf h.base.size hk)
  ·exact (hloc k hk).1
  ·exact hk.1
 refine ⟨⟨w,λ k=>locV Λ a k∨defV w0 w k,w0.nd⟩,⟨?_,⟨λ d hd=>?_,h.defers.nodup,h.defers.none⟩,h.size,Kept.refl _,h.vals,λ l hl=>?_,h.dis⟩,λ {N' Γ' Λ' a' w'} h'=>⟨⟨h.lo,⟨λ d hd=>?_,h'.defers.nodup,h'.defers.none⟩,h'.size,?_,h'.vals,λ l hl=>?_,h'.dis⟩,?_⟩⟩
 ·exact λ g hg=>h.lo g (hmay g hg)
 ·obtain ⟨D,e1,e2,e3⟩:=h.defers.all d hd;exact ⟨D,e1,.inr (.inr ⟨e2,e3⟩),e3⟩
 ·obtain ⟨g,cs,e1,e2,e3,e4⟩:=h.locs l hl;exact ⟨g,cs,e1,.inr (.inl ⟨l,hl,by rw [e1];exact l.H.ok g⟩),e3,e4⟩
 ·obtain ⟨D,e1,e2,e3⟩:=h'.defers.all d hd;exact ⟨D,e1,hmay D e2,e3⟩
 ·refine ⟨h'.base.os.trans h.base.os,h'.base.tape.trans h.base.tape,h'.base.output.trans h.base.output,qf h.base.size h'.base.size,λ k hk hf=>?_⟩;refine (h'.base.block k (qF hk h.base.size) (λ hF=>?_)).trans (h.base.block k hk hf);rcases hmay k (.inr hF) with h1|h1
  ·omega
  ·exact hf h1
 ·obtain ⟨g,cs,e1,e2,e3,e4⟩:=h'.locs l hl;exact ⟨g,cs,e1,hmay g e2,e3,e4⟩
 ·intro k es clock hk;refine (h'.base.block k (Array.getElem?_eq_some_iff.1 hk).1 λ hF=>?_).trans hk;rcases hF with hF|hF
  ·obtain ⟨_,_,_,_,cs,hc⟩:=hloc k hF;rw [hk] at hc;cases hc
  ·rw [hF.2] at hk;cases hk
theorem MpI.kept2 {K E:Yh}{b:Nat}{ns:List ByteArray}(h:MpI P K E w b ns)(hk:∀ (k:Nat) (es:Array MapEntry) (clock:Nat),w.heap[k]?=some (.map es clock)→w'.heap[k]?=some (.map es clock)):MpI P K E w' b ns:=by
 obtain ⟨es,clock,hb⟩:=h.at_;exact h.kept ((hk b es clock hb).trans hb.symm)
section
variable {P:Program}{Q:Exit→Act→World→Prop}{B N:Nat}{w0:Bs}{Γ:List (Nat × VA)}{Λ:List Lc}{a:Act}{w:World}
theorem St.growM (h:St B w0 N Γ Λ a w)(hg:Grow w w'):St B w0 N Γ Λ a w':=⟨h.lo,h.defers.grow hg rfl,h.size,h.base.grow hg,λ x hx=>x.2.grow _ _ _ _ hg (h.vals x hx),λ l hl=>(h.locs l hl).grow hg,h.dis⟩
theorem St.turnM {b:Nat}{es:Array MapEntry}{clock:Nat}(h:St B w0 N Γ Λ a w)(hb:w.heap[b]?=some (.map es clock))(hge:w0.w.heap.size≤b)(hg:w.grownBy w' (some b)):St B w0 N Γ Λ a w':=by
 have hblk:∀ k,k<w.heap.size→k≠b→w'.heap[k]?=w.heap[k]?:=λ k hk hne=>hg.block k hk (λ e=>hne (by injection e));have hc:Cg w w':=⟨hg.size,λ k c T fz hk=>(hblk k (Array.getElem?_eq_some_iff.1 hk).1 (λ e=>by subst e;rw [hb] at hk;cases hk)).trans hk⟩;refine ⟨h.lo,h.defers.keep rfl λ D hD=>(hblk D (Array.getElem?_eq_some_iff.1 hD).1 (λ e=>by subst e;rw [hb] at hD;cases hD)).trans hD,h.size,⟨hg.os.trans h.base.os,hg.tape.trans h.base.tape,hg.output.trans h.base.output,qf h.base.size hg.size,λ k hk hf=>(hblk k (qF hk h.base.size) zo).trans (h.base.block k hk hf)⟩,
  λ x hx=>x.2.cg _ _ _ _ hc (h.vals x hx),λ l hl=>?_,h.dis⟩
 obtain ⟨g,cs,e1,e2,e3,e4⟩:=h.locs l hl;exact ⟨g,cs,e1,e2,hc.heap e3,l.A.cg _ _ _ _ hc e4⟩
theorem BS {id n:Nat}{ops:Yg}(hsz:ops.size=n)(h:wpOps P ops Q (List.range' 0 n) a w):(Code.region id ops false).wp P Q a w:=by
 refine wp_region ?_;rw [List.range_eq_range',hsz];exact h
variable {ops:Array Oper}{i:Nat}{K:Act→World→Prop}
theorem Eb {d:Nat}{T KT E T':Yh}(ho:ops[i]?=some ⟨some d,.makeMap T none,T',ps,af,none⟩)(h:St B w0 N Γ Λ a w)(hd:d<N)(hΓ:Γ.all (λ x=>x.1 != d)=true)(hΛ:Λ.all (λ l=>l.s != d)=true)
  (hK:∀ a' w' b,St B w0 N ((d,EqV (.map (some b)))::Γ) Λ a' w'→MpI P KT E w' b []→w0.w.heap.size≤b→K a' w'):wpOp P ops Q i K a w:=by
 unfold wpOp;simp only [ho,Region.wanted,if_true];refine .inl (aY (w':=w.alloc (.map #[] 0)) (v:=.map (some w.heap.size)) (by simp [execOp,run_makeMap]) (hK _ _ _ ((h.growM (Grow.alloc _ _)).addV hd hΓ hΛ (show (EqV (.map (some w.heap.size))).p _ _ _ from G)) My h.base.size))
theorem Ec {m s u:Nat}{T KT E T1:Yh}{ps1:Yv}{af1:Yw}{b:Nat}{ns:List ByteArray}{x:ByteArray}(km ks:Nat)
  (h:St B w0 N Γ Λ a w) (hM:MpI P KT E w b ns) (hge:w0.w.heap.size≤b) (hKT:P.underlying KT=some .string) (ht:P.underlying T=some (.map KT E)) (hE:P.underlying E=some (.int .i64)) (hz:∀ w,(zeroValue E).run P w=.ok (.int .i64 0) w) (hn:ns.length<4096) (hs:x.size≤4096)
  (hm:Γ[km]?=some (m,EqV (.map (some b)))) (hx:Γ[ks]?=some (s,EqV (.string x))) (ho:ops[i]?=some ⟨some u,.lookup T (.tmp m) (.tmp s) false,T1,ps1,af1,none⟩) (hu:u<N) (hΓ:Γ.all (λ x=>x.1 != u)=true) (hΛ:Λ.all (λ l=>l.s != u)=true)
  (hK:∀ (c:Int) (a':Act),St B w0 N ((u,In c)::Γ) Λ a' w→(∃ w',(Instr.mapUpdate T (.map (some b)) (.string x) (.int .i64 (IntKind.i64.wrap (c+1)))).run P w=.ok () w'∧MpI P KT E w' b (ns++[x])∧w.grownBy w' (some b))→K a' w):wpOp P ops Q i K a w:=by
 obtain ⟨c,hr,hup⟩:=hM.add hKT ht hE (hz w) hn hs;have e1:a.eval (.tmp m)=.map (some b):=h.vals _ (qa hm);have e2:a.eval (.tmp s)=.string x:=h.vals _ (qa hx);exact lm (A:=In c) (v:=.int .i64 c) ho h hu hΓ hΛ (by simp [execOp,e1,e2,hr]) (bS _ _ _ _) λ U=>hK c _ U hup
theorem IM {m s v:Nat}{T KT E T1:Yh}{ps1:Yv}{af1:Yw}{b:Nat}{ns:List ByteArray}{x:ByteArray}{c:Int}(km ks kv:Nat)
  (h:St B w0 N Γ Λ a w) (hM:MpI P KT E w b ns) (hge:w0.w.heap.size≤b) (hup:∃ w',(Instr.mapUpdate T (.map (some b)) (.string x) (.int .i64 c)).run P w=.ok () w'∧MpI P KT E w' b (ns++[x])∧w.grownBy w' (some b))
  (hm:Γ[km]?=some (m,EqV (.map (some b)))) (hx:Γ[ks]?=some (s,EqV (.string x))) (hv:Γ[kv]?=some (v,In c)) (ho:ops[i]?=some ⟨none,.mapUpdate T (.tmp m) (.tmp s) (.tmp v),T1,ps1,af1,none⟩)
  (hK:∀ w',St B w0 N Γ Λ a w'→MpI P KT E w' b (ns++[x])→K (a.put none undef) w'):wpOp P ops Q i K a w:=by
 obtain ⟨w',hr,hM',hg⟩:=hup;obtain ⟨es,clock,hb⟩:=hM.at_;have e1:a.eval (.tmp m)=.map (some b):=h.vals _ (qa hm);have e2:a.eval (.tmp s)=.string x:=h.vals _ (qa hx);have e3:a.eval (.tmp v)=.int .i64 c:=bg (h.vals _ (qa hv));unfold wpOp;simp only [ho,Region.wanted,if_true];refine .inl ?_;unfold Oper.wp;simp [execOp,e1,e2,e3,hr,Result.andThen];exact hK w' (h.turnM hb hge hg) hM'
end
theorem slo_A {E:Yh}{l:Yb}:WkA (SlO E D l True) (SlA E D l):=⟨rfl,rfl,λ B cs w ⟨_,hD,A,c,ds,e,h1,h2,h3,h4⟩=>⟨hD,A,c,ds,e,h1,h2,h3,λ hn=>by
 obtain ⟨b,o,e1,e2,e3,e4⟩:=h4 hn;exact ⟨b,o,e1,e2,.inl e3,e4⟩⟩⟩
theorem L7 (v:Yo):UpA (EqA v) (EqA v):=⟨rfl,rfl,λ _ _ _ _ h=>h⟩
theorem yq (x:RPt):UpA (PtA x) (PtA x):=iz (.cons (L7 _) (.cons (FW _) (.cons (mX _ _) .nil)))
def TkO (t:RTk):As:=cat [SlO 28 [U32] (t.sp.map RFA) True,SlO 93 [U32] (t.ps.map PtA) True,RFA t.tg]
theorem yo (t:RTk):UpA (TkA t) (TkO t):=iz (.cons (iG (λ A hA=>by obtain ⟨x,_,rfl⟩:=qp.1 hA;exact gH x)) (.cons (iG (λ A hA=>by obtain ⟨x,_,rfl⟩:=qp.1 hA;exact yq x)) (.cons (gH _) .nil)))
theorem tko_A {t:RTk}:WkA (TkO t) (TkA t):=bi (.cons slo_A (.cons slo_A (.cons (.refl _) .nil)))
def spcF (x:RF):Bool := !(((if okX x then (0:Int) else 1) != 0) || decide ((toQ x).num.sign<0))
def ptF (p:RPt):Bool := !(((!namF p.nm || (chF [p.e] != 0)) || decide (p.c<0)) || decide (p.c>1073741824))
def hdF (t:RTk):Bool:=(((decide ((t.sp.length:Int)<2) || decide ((t.sp.length:Int)>13)) || decide ((t.ps.length:Int)<1)) || decide ((t.ps.length:Int)>64)) || ((if okX t.tg then (0:Int) else 1) != 0)
def wayB (p:Nat):Nat→Bool
 | 0=>false
 | k+1=>wayB p k || decide (p^(k+1)>65536)
def ckF (t:RTk):Int:=if hdF t then 1 else if !t.sp.all spcF then 1 else if !t.ps.all ptF then 1 else if dupB (t.ps.map RPt.nm) then 10 else if wayB t.ps.length (t.sp.length-1) then 4 else 0
theorem Pe {p:RPt}(h:ptF p=true):p.nm.size≤32:=by
 unfold ptF at h;simp only [qz,qN,jM] at h;have h1:=h.1.1.1;unfold namF at h1;split at h1
 ·cases h1
 ·rename_i h2;exact J2 (by simpa using h2)
theorem Ox {x:RF}(h:((if okX x then (0:Int) else 1) != 0)=false):Cn Tryz.prog 35 [(RFA x).va] (In (toQ x).num.sign):=by
 have hx:okX x=true:=by
  by_cases h1:okX x=true
  ·exact h1
  ·rw [qy h1] at h;exact absurd h zd
 exact sign_q.wk (.cons (qa_x hx (qh _)).va .nil)
section
open Rg
variable {P:Program}{Q:Exit→Act→World→Prop}{B N:Nat}{w0:Bs}{Γ:List (Nat × VA)}{Λ:List Lc}{a:Act}{w:World}
theorem EF {ops:Yg}{sp:Yu}(Γd:Yf)(m:Nat)(src:List Src)(h:St B w0 N (Γd++Γ) Λ a w)(h0:sp.take Γd.length=Γd.map λ x=>Sp.v x.1 x.2)(hsz:ops.size=Γd.length+m)
  (hob:Obs P Q ⟨ops,N,Γ,les0 Λ,sp,λ i=>List.range i⟩ B w0 Γd.length m) (hk:Rg.chk ⟨ops,N,Γ,les0 Λ,sp,λ i=>List.range i⟩=true) (hsrc:src.all (okS ⟨ops,N,Γ,les0 Λ,sp,λ i=>List.range i⟩)=true)
  (hQ:∀ a w,St B w0 N (src.filterMap (cA ⟨ops,N,Γ,les0 Λ,sp,λ i=>List.range i⟩)) Λ a w→Q .normal a w):wpOps P ops Q (List.range' Γd.length m) a w:=by
 have hat:∀ i,i<Γd.length→∃ x,x∈Γd∧sp[i]?=some (.v x.1 x.2):=λ i hi=>by
  have e:(sp.take Γd.length)[i]?=sp[i]?:=by rw [List.getElem?_take,qC hi]
  rw [h0,List.getElem?_map] at e;refine ⟨Γd[i],qg _,?_⟩;rw [← e,List.getElem?_eq_getElem hi];rfl
 have hmem:∀ e∈les0 Λ,e.cr=none∧e.st=none∧(⟨e.s,e.T,e.H,e.A0⟩:Lc)∈Λ:=λ e he=>by
  obtain ⟨l,hl,rfl⟩:=qp.1 he;exact ⟨rfl,rfl,hl⟩
 have hcur:∀ e∈les0 Λ,∀ L:Nat→Bool,Rg.cur L e=some e.A0:=λ e he L=>by
  obtain ⟨h1,h2,_⟩:=hmem e he;unfold Rg.cur;rw [h1,h2]
  rfl
 have hi0:Rg.Inv ⟨ops,N,Γ,les0 Λ,sp,λ i=>List.range i⟩ B w0 (λ j=>decide (j<Γd.length)) a w:=by
  refine ⟨h.lo,h.defers,h.size,h.base,λ x hx _ _=>h.vals x (qn.2 (.inr hx)),λ i y d A hs hv hL _=>?_,λ i d b k c hs hL _=>?_,λ e he A hA=>?_,λ e he f hf hne _ _=>?_⟩
  ·obtain ⟨x,hx,hx2⟩:=hat i (qu hL);have hs':sp[i]?=some y:=hs;rw [hx2] at hs';injection hs' with hs';subst hs';simp only [Sp.vl,Option.some.injEq,Prod.mk.injEq] at hv;obtain ⟨rfl,rfl⟩:=hv;exact h.vals x (qn.2 (.inl hx))
  ·obtain ⟨x,hx,hx2⟩:=hat i (qu hL);have hs':sp[i]?=some (.adr d b k c):=hs;rw [hx2] at hs';cases hs'
  ·rw [hcur e he] at hA;injection hA with hA;subst hA;exact h.locs _ (hmem e he).2.2
  ·exact h.dis _ (hmem e he).2.2 _ (hmem f hf).2.2 hne
 have key:∀ m k,Γd.length≤k→k+m=ops.size→∀ a w,Rg.Inv ⟨ops,N,Γ,les0 Λ,sp,λ i=>List.range i⟩ B w0 (λ j=>decide (j<k)) a w→wpOps P ops Q (List.range' k m) a w:=by
  intro m
  induction m with
  | zero =>
   intro k hk1 hkm a w hi;have:k=ops.size:=by omega
   subst this;have:=fD hk ⟨hi⟩ src hsrc;rw [show (Rg.mk ops N Γ (les0 Λ) sp (λ i=>List.range i)).les=les0 Λ from rfl,pR] at this;exact hQ a w this
  | succ m ih =>
   intro k hk1 hkm a w hi;rw [List.range'_succ,qv];refine Rg.step hk (hob.all k zo zo) hi ?_ (by simp) ?_ _ λ a' w' hi'=>ih (k+1) zo zo a' w' (hi'.congr λ j=>?_)
   ·intro i hi j hj;have hj:(List.range i).contains j=true:=hj;simp at hi hj ⊢;omega
   ·intro j hj;have hj:(List.range k).contains j=true:=hj;simpa using hj
   ·unfold upd;by_cases h1:j=k
    ·subst h1;simp
    ·have h2:(j==k)=false:=by simpa using h1
     rw [h2,xQ,q9];omega
 exact key m Γd.length (qh _) zo a w hi0
variable {ops:Array Oper}{i:Nat}{K:Act→World→Prop}
theorem Mc {d u:Nat}{T':Yh}{A:VA}(ku:Nat)(ho:ops[i]?=some ⟨some d,.move (.tmp u),T',ps,af,none⟩)(h:St B w0 N Γ Λ a w)
  (hu:Γ[ku]?=some (u,A)) (hd:d<N) (hΓ:Γ.all (λ x=>x.1 != d)=true) (hΛ:Λ.all (λ l=>l.s != d)=true)
  (hK:∀ a',St B w0 N ((d,A)::Γ) Λ a' w→K a' w):wpOp P ops Q i K a w :=
 lm (A:=A) (v:=a.eval (.tmp u)) ho h hd hΓ hΛ (by simp [execOp]) (h.vals _ (qa hu)) (hK _)
theorem Me {d:Nat}{k:Yp}{n:Int}{T':Yh}(ho:ops[i]?=some ⟨some d,.assign (.const (.int k n)),T',ps,af,none⟩)(h:St B w0 N Γ Λ a w)
  (hd:d<N) (hΓ:Γ.all (λ x=>x.1 != d)=true) (hΛ:Λ.all (λ l=>l.s != d)=true)
  (hK:∀ a',St B w0 N ((d,(NumA k n).va)::Γ) Λ a' w→K a' w):wpOp P ops Q i K a w :=
 lm (A:=(NumA k n).va) (v:=.int k n) ho h hd hΓ hΛ (by simp [execOp,Act.eval]) (bS _ _ _ _) (hK _)
theorem Mf {d u:Nat}{c n:Int}{xt yt T':Yh}(ku:Nat)(ho:ops[i]?=some ⟨some d,.binOp .add xt (.tmp u) (.const (.int .i64 n)) yt,T',ps,af,none⟩)(h:St B w0 N Γ Λ a w)
  (hu:Γ[ku]?=some (u,In c)) (hd:d<N) (hΓ:Γ.all (λ x=>x.1 != d)=true) (hΛ:Λ.all (λ l=>l.s != d)=true)
  (hK:∀ a',St B w0 N ((d,In (IntKind.i64.wrap (c+n)))::Γ) Λ a' w→K a' w):wpOp P ops Q i K a w:=by
 have e:a.eval (.tmp u)=.int .i64 c:=bg (h.vals _ (qa hu));refine lm (A:=In (IntKind.i64.wrap (c+n))) (v:=.int .i64 (IntKind.i64.wrap (c+n))) ho h hd hΓ hΛ ?_ (bS _ _ _ _) (hK _);have e2:a.eval (.const (.int .i64 n))=.int .i64 n:=rfl;simp only [execOp,e,e2,Sem.run_bind,binOp_add]
 rfl
theorem IN {d m:Nat}{T KT E T':Yh}{b:Nat}{ns:List ByteArray}(km:Nat)(ho:ops[i]?=some ⟨some d,.call ⟨.builtin .len,#[.tmp m],#[T]⟩,T',ps,af,none⟩)(h:St B w0 N Γ Λ a w)(hM:MpI P KT E w b ns)(ht:P.underlying T=some (.map KT E))
  (hm:Γ[km]?=some (m,EqV (.map (some b)))) (hd:d<N) (hΓ:Γ.all (λ x=>x.1 != d)=true) (hΛ:Λ.all (λ l=>l.s != d)=true)
  (hK:∀ (n:Nat) a',decide ((n:Int)<(ns.length:Int))=dupB ns→St B w0 N ((d,In (n:Nat))::Γ) Λ a' w→K a' w):wpOp P ops Q i K a w:=by
 obtain ⟨n,hr,hn⟩:=hM.len ht T';have e1:a.eval (.tmp m)=.map (some b):=h.vals _ (qa hm);exact lm (A:=In (n:Nat)) (v:=.int .i64 n) ho h hd hΓ hΛ (by simp [execOp,resolve,invoke,builtin,e1,hr]) (bS _ _ _ _) (hK n _ hn)
end
theorem dY:Str Tryz.prog 93 [EqA (.string ⟨#[]⟩),cat [NumA .u8 0,RFA rf0,RFA rf0],NumA .i64 0] :=
 Str.of (z:=.agg #[.string ⟨#[]⟩,.int .u8 0,.bool false,.slice none 0 0,.bool false,.slice none 0 0,.bool false,.slice none 0 0,.bool false,.slice none 0 0,.int .i64 0]) zk jn zk λ B w=>⟨[[.string ⟨#[]⟩],[.int .u8 0,.bool false,.slice none 0 0,.bool false,.slice none 0 0,.bool false,.slice none 0 0,.bool false,.slice none 0 0],[.int .i64 0]],rfl,.cons ⟨rfl,rfl⟩ (.cons ⟨[[.int .u8 0],[.bool false,.slice none 0 0,.bool false,.slice none 0 0],[.bool false,.slice none 0 0,.bool false,.slice none 0 0]],rfl,.cons rfl (.cons (eI B w) (.cons (eI B w) .nil))⟩ (.cons rfl .nil))⟩
theorem hd_b {t:RTk}(h:hdF t=false):2≤t.sp.length∧t.sp.length≤13∧1≤t.ps.length∧t.ps.length≤64∧okX t.tg=true:=by
 unfold hdF at h;simp only [qN,qm] at h;refine ⟨by omega,by omega,by omega,by omega,?_⟩;by_cases h1:okX t.tg=true
 ·exact h1
 ·have:=h.2;rw [qy h1] at this;exact absurd this zd
theorem NC {t:RTk}(h1:hdF t=false)(h2:t.sp.all spcF=false):ckF t=1:=by rw [ckF,qy (by rw [h1];decide),qC (by rw [h2];rfl)]
theorem ND {t:RTk}(h1:hdF t=false)(h2:t.sp.all spcF=true)(h3:t.ps.all ptF=false):ckF t=1:=by rw [ckF,qy (by rw [h1];decide),qy (by rw [h2];decide),qC (by rw [h3];rfl)]
theorem NE {t:RTk}(h1:hdF t=false)(h2:t.sp.all spcF=true)(h3:t.ps.all ptF=true)(h4:dupB (t.ps.map RPt.nm)=true):ckF t=10:=by rw [ckF,qy (by rw [h1];decide),qy (by rw [h2];decide),qy (by rw [h3];decide),qC h4]
theorem Fu {t:RTk}(h1:hdF t=false)(h2:t.sp.all spcF=true)(h3:t.ps.all ptF=true)(h4:dupB (t.ps.map RPt.nm)=false):ckF t=if wayB t.ps.length (t.sp.length-1) then 4 else 0:=by rw [ckF,qy (by rw [h1];decide),qy (by rw [h2];decide),qy (by rw [h3];decide),qy (by rw [h4];decide)]
theorem Dq {t:RTk}(h1:2≤t.sp.length)(h2:t.sp.length≤13):sloF t=((t.sp.length-1:Nat):Int):=by
 unfold sloF;rw [wi64 zo zo];omega
theorem FT {p:Nat}:∀ {j:Nat},wayB p j=false→p^j≤65536
 | 0,_=>by rw [j4];decide
 | j+1,h=>by
  rw [wayB,qN,qm] at h;omega
theorem Hu {p j:Nat}(h:wayB p j=false)(hp:p≤64):IntKind.i64.wrap (((p^j:Nat):Int)*((p:Nat):Int))=((p^(j+1):Nat):Int):=by
 have h1:=FT h;have h2:p^j*p≤65536*64:=xR h1 hp;rw [← xJ,wi64 zo zo,ze]
theorem t5 {p:Nat}:∀ {n j:Nat},j≤n→wayB p j=true→wayB p n=true
 | 0,j,h,hw=>by
  obtain rfl:j=0:=by omega
  exact hw
 | n+1,j,h,hw=>by
  by_cases e:j=n+1
  ·rw [← e];exact hw
  ·rw [wayB,t5 (n:=n) zo hw];rfl
theorem Nl {m:Nat}:decide (((m:Nat):Int)>65536)=decide (m>65536):=by
 rw [q9];omega
theorem dX {ops:Yg}{Q:Yd}(h:Q .normal a w):wpOps P ops Q [] a w:=h
theorem sY {ops:Yg}{Q:Yd}(h:Q .normal a w):wpOps P ops Q [] (a.put none undef) w:=h
set_option maxHeartbeats 2000000 in
theorem nR (t:RTk):Cn Tryz.prog 10 [(TkA t).va] (In (ckF t)):=by
 refine Cn.introW Tryz.func10 G zk nq (.cons (yo t).va .nil) (cq _ _).va (λ B w0 a hB0 U=>?_);have U:=zn [(0,(TkO t).va)] [] U;refine qb<|zg [] Ry Us Ut U (zW 0 G (zE G ab)) (zz Uu Rz λ a w U=>?_);refine zt<|qb<|gl (sts:=[none]) (news:=[]) (sp:=((.adr 9 1 (.some 0) True:Sp)::(.v 10 _)::(.v 11 _)::(.v 12 _)::(.v 13 _)::(.adr 14 1 (.some 0) (_=false))::(.f 15 _)::(.f 16 _)::(.f 17 _)::(.v 18 _)::(.v 19 _)::(.adr 20 1 (.some 1) (_=false))::(.f 21 _)::(.f 22 _)::(.f 23 _)::(.v 24 _)::(.v 25 _)::(.adr 26 1 (.some 1) (_=false))::(.f 27 _)::(.f 28 _)::(.f 29 _)::(.v 30 _)::(.v 31 _)::(.adr 32 1 (.some 2) (_=false))::(.f 33 _)::(.f 34 _)::(.f 35 _)::(.v 36 _)::[])) [.g 0,.o 27] U (zO 0 G ca (zL 0 0 0 G fc (zv G (bn qQ (bu (aB (vq 1 G)))) (zv G (aO (vq 2 G) ab) (zV 3 G (zC 4 0 G ca (zB 4 G (λ hg=>aC 5 G zk hg (lz0 0 G) (Sub.part 0 G G) fc) (zB 4 G (λ hg=>bn qQ (bu (aB (ae (vq 6 G) hg)))) (zB 4 G (λ hg=>cD (ae (vq 7 G) hg) ab) (zv G (r_or (vq 4 G) (vq 8 G)) (zV 9 G (zC 10 0 G bK (zB 10 G (λ hg=>aC 11 G zk hg (lz0 0 G) (Sub.part 1 G G) dW) (zB 10 G (λ hg=>bn qM (bu (aB (ae (vq 12 G) hg)))) (zB 10 G (λ hg=>aO (ae (vq 13 G) hg) ab) (zv G (r_or (vq 10 G) (vq 14 G)) (zV 15 G (zC 16 0 G bK (zB 16 G (λ hg=>aC 17 G zk hg (lz0 0 G) (Sub.part 1 G G) dW) (zB 16 G (λ hg=>bn qM (bu (aB (ae (vq 18 G) hg)))) (zB 16 G (λ hg=>cD (ae (vq 19 G) hg) ab) (zv G (r_or (vq 16 G) (vq 20 G)) (zV 21 G (zC 22 0 G ek (zB 22 G (λ hg=>aC 23 G zk hg (lz0 0 G) (Sub.part 2 G G) au) (zB 22 G (λ hg=>ba (sJ _) (.o (ae (vq 24 G) hg))) (zB 22 G (λ hg=>c9 (ae (vq 25 G) hg) ab) (zv G (r_or (vq 22 G) (vq 26 G)) o0)))))))))))))))))))))))))))) (zz (Wc 2 36) Rz λ a w U=>?_);refine zJ 1 U G (λ hb0=>?_) (λ hb0=>?_)
 ·have hd:hdF t=true:=by simp only [qd] at hb0;exact hb0
  refine qb<|zg U3 [] Ux WZ U (zE G ab) (zz Uu Rz λ a w U=>?_);refine aa<|qi<|aj ?_;refine am ?_ (ak G U (zm 0 G));rw [ckF,qC hd];exact aM
 ·have hd:hdF t=false:=by simp only [qd] at hb0;exact hb0
  obtain ⟨hs2,hs13,hp1,hp64,htg⟩:=hd_b hd;refine qj<|zt<|qb<|zg U3 [] (.adr 37 1 (.some 0) True::(Wb 38)) [.g 0,.o 1,.o 2,.o 3] U (zO 0 G ca (zL 0 0 0 G fc (zv G (bn qQ (bu (aB (vq 1 G)))) (zv G (aA ab) o0)))) (zz (Wf 2 38 39 40) Rz λ a w U=>?_);refine aa<|qk ?_;have U:=St.sel U [1,2,3];refine wp_loop_ghost (λ n a w=>∃ j:Nat,(n+j=t.sp.length∧(t.sp.take j).all spcF=true)∧St B w0 106 [(38,(SlO 28 [U32] (t.sp.map RFA) True).va),(39,In (t.sp.length:Nat)),(40,In (j:Nat))] [⟨1,30,ptrH,TkO t⟩] a w) (t.sp.length) ?_ ?_
  ·exact ⟨0,⟨by omega,rfl⟩,by rw [qd] at U;exact U⟩
  intro n a w hI;obtain ⟨j,⟨hn,hno⟩,U⟩:=hI;refine qb<|zg U3 [] [.v 41 _] WX U (zv G (aO (gq 2 G) (gq 1 G)) o0) (zz (Wf 38 39 40 41) Rz λ a w U=>?_);refine zt<|c7 U (zm 3 G) (λ hb1=>?_) (λ hb1=>?_)
  ·have hj:j<t.sp.length:=by have:=qu hb1;omega
   refine qj<|zt<|qk<|qb<|zg U3 [⟨4,28,ptrH,some 2,_,some (3,_)⟩] (W6 42 [.alc 1,.sto 1]) W7 U (zv G (bM db (cc λ _=>rfl) (bu (aB (gq 0 G))) (gq 2 G) (bG hj)) (zv G (ap (vq 0 G) au) (zY G (Str.zero aQ) (zS 1 G au o0)))) (zz (Wa 38 39 40) RD ?_);refine ztA<|zgA UC [] (Ww 44 [.f 48 _,.f 49 _,.f 50 _,.v 51 _]) (W7 [.o 7]) (zl 1 G au (zQ G (sJ _) (.o (vq 0 G)) (zv G (c9 (vq 1 G) ab) (zV 2 G (zB 3 G (λ hg=>gn (lz0 1 G) au) (zB 3 G (λ hg=>ba (Ox hg) (.o (ae (vq 4 G) hg))) (zB 3 G (λ hg=>aO (ae (vq 5 G) hg) ab) (zv G (r_or (vq 3 G) (vq 6 G)) o0)))))))) (zz (Wf 38 39 40 51) RD λ a w U=>?_);refine zJ 3 U G (λ hb2=>?_) (λ hb2=>?_)
   ·refine qb<|zg UE [] Ux WX U (zE G ab) (zz (Wf 38 39 40 2) RD λ a w U=>?_);refine aa<|qi<|aD ?_;refine aj ?_;refine aj ?_;refine aD ?_;refine aj ?_;refine am ?_ (ak G U (zm 3 G));rw [NC hd (mK hj (by unfold spcF;rw [hb2];rfl))];exact aM
   ·refine qj<|al ?_;refine aa<|zg UE [] [.v 52 _,.v 40 _] UF U (zv G (aL (gq 2 G) ab ((wi64 zo zo).trans (by omega:(_:Int)=((j+1:Nat):Int)))) (zV 0 G o0)) (zz (Wa 38 39 40) RD λ a w U=>?_);refine aa ?_;have U:=St.sel U [0,1,2];have U:=St.selL U [0];exact ⟨n-1,by omega,j+1,⟨by omega,mL hj hno (by unfold spcF;rw [hb2];rfl)⟩,U⟩
  ·obtain rfl:j=t.sp.length:=by have:=qw hb1;omega
   rw [qJ] at hno;have hsp:=hno;refine qP<|ai<|ai<|az<|zt<|BS (n:=3) G ?_;rw [show List.range' 0 3=[0,1,2] from rfl,qv];refine Eb (KT:=9) (E:=3) G U zd zk zk (λ a w b U hM hgb=>?_);rw [qv];refine o3 0 G U G zd zk zk (λ a U=>?_);rw [qv];refine Me G U zd zk zk (λ a U=>?_);refine dX ?_;have U:=zn (Wu 6 5 53 38 39 40 41) Rz U;obtain ⟨w1,U,hback⟩:=St.frameM U;refine zt<|qb<|zg U3 [] (.adr 54 1 (.some 1) True::(Wb 55)) (We [.o 1,.o 2,.o 3]) U (zO 0 G bK (zL 0 0 1 G dW (zv G (bn qM (bu (aB (vq 1 G)))) (zv G (aA ab) o0)))) (λ a w U=>?_);have U:St B w1 106 [(6,_),(5,_),(55,_),(56,_),(57,_)] [O 1 30 _] a w:=U;obtain ⟨U,hob⟩:=hback U;have hM:=hM.kept2 hob;refine aa<|qk ?_;have U:=St.sel U [1,0,2,3,4];refine wp_loop_ghost (λ n a w=>∃ j:Nat,(n+j=t.ps.length∧(t.ps.take j).all ptF=true∧MpI Tryz.prog 9 3 w b ((t.ps.take j).map RPt.nm))∧St B w0 106 [(5,EqV (.map (some b))),(6,In 1),(55,(SlO 93 [U32] (t.ps.map PtA) True).va),(56,In (t.ps.length:Nat)),(57,In (j:Nat))] [⟨1,30,ptrH,TkO t⟩] a w) (t.ps.length) ?_ ?_
   ·exact ⟨0,⟨by omega,rfl,hM⟩,by rw [qd] at U;exact U⟩
   intro n a w hI;obtain ⟨j,⟨hn,hno,hM⟩,U⟩:=hI;obtain ⟨w1,U,hback⟩:=St.frameM U;refine qb<|zg U3 [] [.v 58 _] U4 U (zv G (aO (gq 4 G) (gq 3 G)) o0) (λ a w U=>?_);have U:St B w1 106 [(5,_),(6,_),(55,_),(56,_),(57,_),(58,_)] [O 1 30 _] a w:=U;refine zt<|c7 U (zm 5 G) (λ hb3=>?_) (λ hb3=>?_)
   ·have hj:j<t.ps.length:=by have:=qu hb3;omega
    refine qj<|zt<|qk<|qb<|zg U3 [⟨8,93,ptrH,some 2,_,some (3,_)⟩] (W6 59 [.alc 1,.sto 1]) Wi U (zv G (bM fg (cc λ _=>rfl) (bu (aB (gq 2 G))) (gq 4 G) (bG hj)) (zv G (ap (vq 0 G) gI) (zY G (Str.zero dY) (zS 1 G gI o0)))) (λ a w U=>?_);have U:St B w1 106 [(5,_),(6,_),(55,_),(56,_),(57,_)] [O 1 30 _,O 8 93 _] a w:=U;refine zt<|qb<|zg UE [] (.adr 61 8 (.some 0) True::(Ww 62 (.adr 66 8 (.some 1) (_=false)::.f 67 _::.f 68 _::.f 69 _::.f 70 _::(W6 71 (.adr 73 8 (.some 10) (_=false)::.f 74 _::.f 75 _::(W6 76 [.adr 78 8 (.some 10) (_=false),.f 79 _,.f 80 _,.v 81 _])))))) (Wi [.o 20]) U (zO 1 G dK (zL 0 1 0 G ty_9 (zQ G (J8 _) (.o (vq 1 G)) (zv G (er (vq 2 G)) (zV 3 G (zC 4 1 G eh (zB 4 G (λ hg=>aC 5 G zk hg (lz0 1 G) (Sub.part 1 G G) gf) (zB 4 G (λ hg=>bW (D:=[U32]) (l:=[_]) (xs:=[.tmp 67]) (dh zk) yH zk (n_ok zk) nq nq nq (.o (ae (vq 6 G) hg)) G G) (zB 4 G (λ hg=>ba (y7 [_]) (.o (ae (vq 7 G) hg))) (zB 4 G (λ hg=>c9 (ae (vq 8 G) hg) ab) (zv G (r_or (vq 4 G) (vq 9 G)) (zV 10 G (zC 11 1 G dr (zB 11 G (λ hg=>aC 12 G zk hg (lz0 1 G) (Sub.part 2 G G) ty_3) (zB 11 G (λ hg=>aO (ae (vq 13 G) hg) ab) (zv G (r_or (vq 11 G) (vq 14 G)) (zV 15 G (zC 16 1 G dr (zB 16 G (λ hg=>aC 17 G zk hg (lz0 1 G) (Sub.part 2 G G) ty_3) (zB 16 G (λ hg=>cD (ae (vq 18 G) hg) ab) (zv G (r_or (vq 16 G) (vq 19 G)) o0))))))))))))))))))))) (λ a w U=>?_);have U:St B w1 106 [(5,_),(6,_),(55,_),(56,_),(57,_),(81,_)] [O 1 30 _,O 8 93 _] a w:=U;refine zJ 5 U G (λ hb4=>?_) (λ hb4=>?_)
    ·have hpt:ptF t.ps[j]=false:=by unfold ptF;rw [hb4];rfl
     refine qb<|zg UE [] Ux U4 U (zE G ab) (λ a w U=>?_);have U:St B w1 106 [(5,_),(6,_),(55,_),(56,_),(57,_),(2,_)] [O 1 30 _,O 8 93 _] a w:=U;refine aa<|qi<|aj ?_;refine aD ?_;refine aj ?_;refine aj ?_;refine aD ?_;refine aj ?_;obtain ⟨U,_⟩:=hback U;refine am ?_ (ak G U (zm 5 G));rw [ND hd hsp (mK hj hpt)];exact aM
    ·have hpt:ptF t.ps[j]=true:=by unfold ptF;rw [hb4];rfl
     refine qj<|aa<|bJ (sp:=[.v 82 _,.adr 83 8 (.some 0) True,.v 84 _,.v 85 VT,.v 86 VT,.skp]) 3 3 99 3 OneC [.g 0,.g 1,.g 2,.g 3,.g 4,.o 0,.o 2] U (zM 0 G (zO 1 G dK (zL 1 1 0 G ty_9 o0))) G zd zk zk (λ a w U=>?_);have U:St B w1 106 [(5,_),(6,_),(55,_),(56,_),(57,_),(82,_),(84,_)] [O 1 30 _,O 8 93 _] a w:=U;rw [show List.range' 3 3=[3,4,5] from rfl];obtain ⟨U,hob⟩:=hback U;have hM:=hM.kept2 hob;have U:=St.wkG U 6 rfl Ch;rw [qv];refine Ec (KT:=9) (E:=3) 5 6 U hM hgb zk vZ zk (λ w=>rfl) (by rw [qd,qX];omega) (by have:=Pe hpt;omega) G G G zd zk zk (λ c a U hup=>?_);rw [qv];refine Mf 0 G U G zd zk zk (λ a U=>?_);rw [qv];refine IM 7 8 0 U hM hgb hup G G G G (λ w U hM=>?_);refine sY ?_;have U:St B w0 106 [(86,_),(85,_),(5,_),(6,_),(55,_),(56,_),(57,_),(82,_),(84,_)] [O 1 30 _,O 8 93 _] _ w:=U;have hM:MpI Tryz.prog 9 3 w b ((t.ps.take (j+1)).map RPt.nm):=by rw [qA hj,zT];exact hM
     obtain ⟨w1,U,hback⟩:=St.frameM U;refine al ?_;refine aa<|zg UE [] [.v 87 _,.v 57 _] [.g 2,.g 3,.g 4,.g 5,.o 1] U (zv G (aL (gq 6 G) ab ((wi64 zo zo).trans (by omega:(_:Int)=((j+1:Nat):Int)))) (zV 0 G o0)) (λ a w U=>?_);have U:St B w1 106 [(5,_),(6,_),(55,_),(56,_),(57,_)] [O 1 30 _,O 8 93 _] a w:=U;obtain ⟨U,hob⟩:=hback U;have hM:=hM.kept2 hob;refine aa ?_;have U:=St.sel U [0,1,2,3,4];have U:=St.selL U [0];exact ⟨n-1,by omega,j+1,⟨by omega,mL hj hno hpt,hM⟩,U⟩
   ·obtain rfl:j=t.ps.length:=by have:=qw hb3;omega
    obtain ⟨U,hob⟩:=hback U;have hM:=hM.kept2 hob;rw [qJ] at hno hM;have hps:=hno;refine qP<|ai<|ai<|az<|zt<|qb<|BS (n:=6) G ?_;rw [show List.range' 0 6=0::1::List.range' 2 4 from rfl,qv];refine Mc 0 G U G zd zk zk (λ a U=>?_);rw [qv];refine IN 0 G U hM vZ G zd zk zk (λ nm a hnm U=>?_);have U:=St.sel U [1,0,2,3,4,5,6,7];refine EF (sp:=[.v 88 (EqV (.map (some b))),.v 89 (In (nm:Nat)),.adr 90 1 (.some 1) True,.v 91 _,.v 92 _,.v 93 _]) [(88,(EqV (.map (some b)))),(89,(In (nm:Nat)))] 4 [.g 1,.o 5] U G zk (zO 0 G bK (zL 2 0 1 G dW (zv G (bn qM (bu (aB (vq 3 G)))) (zv G (aO (vq 1 G) (vq 4 G)) o0)))) zk zk (zz (Wc 6 93) Rz λ a w U=>?_);refine zJ 1 U G (λ hb5=>?_) (λ hb5=>?_)
    ·have hdu:dupB (t.ps.map RPt.nm)=true:=by rw [← hnm];simp only [qd] at hb5 ⊢;exact hb5
     refine qb<|zg U3 [] Ux UZ U (zE G ab) (zz (Wc 6 2) Rz λ a w U=>?_);refine aa<|qi<|aj ?_;refine am ?_ (ak G U (zm 1 G));rw [NE hd hsp hps hdu];exact aM
    ·have hdu:dupB (t.ps.map RPt.nm)=false:=by rw [← hnm];simp only [qd] at hb5 ⊢;exact hb5
     refine qj<|zt<|qb<|zg U3 [] (Wb 94) [.g 0,.o 1,.o 2] U (zl 0 G cU (zQ G ((rO t).wk (.cons tko_A.va .nil)) (.o (vq 0 G)) (zv G (aA ab) o0))) (zz (Wa 6 95 96) Rz λ a w U=>?_);refine aa<|qk ?_;have U:=St.sel U [0,1,2];refine wp_loop_ghost (λ n a w=>∃ j:Nat,(n+j=t.sp.length-1∧wayB t.ps.length j=false)∧St B w0 106 [(6,In ((t.ps.length^j:Nat):Int)),(95,In ((t.sp.length-1:Nat):Int)),(96,In (j:Nat))] [⟨1,30,ptrH,TkO t⟩] a w) (t.sp.length-1) ?_ ?_
     ·have e:=Dq hs2 hs13;rw [e] at U;exact ⟨0,⟨by omega,rfl⟩,U⟩
     intro n a w hI;obtain ⟨j,⟨hn,hno⟩,U⟩:=hI;refine qb<|zg U3 [] [.v 97 _] WX U (zv G (aO (gq 2 G) (gq 1 G)) o0) (zz (Wf 6 95 96 97) Rz λ a w U=>?_);refine zt<|c7 U (zm 3 G) (λ hb6=>?_) (λ hb6=>?_)
     ·have hj:j<t.sp.length-1:=by have:=qu hb6;omega
      refine qj<|zt<|qk<|qb<|zg U3 [] (.v 98 _::.adr 99 1 (.some 1) True::(Wb 100 [.v 6 _])) [.g 1,.g 2,.o 5] U (zM 0 G (zO 0 G bK (zL 1 0 1 G dW (zv G (bn qM (bu (aB (vq 2 G)))) (zv G (mc (vq 0 G) (vq 3 G) (((qt (λ z:Nat=>IntKind.i64.wrap (((t.ps.length^j:Nat):Int)*(z:Int))) (qd PtA)).trans (Hu hno hp64)))) (zA 4 G o0)))))) (zz (Wa 95 96 6) Rz ?_);refine ztA<|zgA U1 [] (W6 103) WV (zM 2 G (zv G (cD (vq 0 G) ab) o0)) (zz (Wf 95 96 6 104) Rz λ a w U=>?_);refine zJ 3 U G (λ hb7=>?_) (λ hb7=>?_)
      ·have hw:wayB t.ps.length (t.sp.length-1)=true:=t5 (j:=j+1) zo (by rw [wayB,hno,xQ,← Nl];exact hb7);refine qb<|zg U3 [] Ux WX U (zE G ab) (zz (Wf 95 96 6 2) Rz λ a w U=>?_);refine aa<|qi<|aD ?_;refine aj ?_;refine aj ?_;refine aD ?_;refine aj ?_;refine am ?_ (ak G U (zm 3 G));rw [Fu hd hsp hps hdu,qC hw];exact aM
      ·have hw:decide (t.ps.length^(j+1)>65536)=false:=by rw [← Nl];exact hb7
       refine qj<|al ?_;refine aa<|zg U3 [] [.v 105 _,.v 96 _] [.g 0,.g 2,.o 1] U (zv G (aL (gq 1 G) ab ((wi64 zo zo).trans (by omega:(_:Int)=((j+1:Nat):Int)))) (zV 0 G o0)) (zz (Wa 95 6 96) Rz λ a w U=>?_);refine aa ?_;have U:=St.sel U [1,0,2];exact ⟨n-1,by omega,j+1,⟨by omega,by rw [wayB,hno,xQ];exact hw⟩,U⟩
     ·obtain rfl:j=t.sp.length-1:=by have:=qw hb6;omega
      refine qP<|ai<|ai<|az<|zt<|zg U3 [] Ux WZ U (zE G ab) (zz Uu Rz λ a w U=>?_);refine aa<|qi<|am ?_ (ak G U (zm 0 G));rw [Fu hd hsp hps hdu,qy (by rw [hno];decide)];exact aM
def cntW (p a:Nat):Nat→Nat→Nat
 | 0,_=>1
 | f+1,i=>if i<a then cntW p a f (i+1) else p*cntW p a f (i+1)
def exW (p:Nat)(ah:List Nat):Nat→Nat→Nat→List Nat
 | 0,_,_=>[]
 | f+1,i,r=>if i<ah.length then ah.getD i 0::exW p ah f (i+1) r else (r/cntW p ah.length f (i+1))::exW p ah f (i+1) (r%cntW p ah.length f (i+1))
theorem dL {p a:Nat}(hp:0<p):∀ f i,0<cntW p a f i
 | 0,_=>Nat.one_pos
 | f+1,i=>by
  unfold cntW;split
  ·exact dL hp f (i+1)
  ·exact jz hp (dL hp f (i+1))
theorem d6 (p:Nat)(ah:Ya):∀ f i r,(exW p ah f i r).length=f
 | 0,_,_=>rfl
 | f+1,i,r=>by
  unfold exW;split <;> rw [zc,d6]
theorem rk {p:Nat}{ah:Ya}(hp:0<p)(hah:∀ x∈ah,x<p):∀ f i r,r<cntW p ah.length f i→∀ x∈exW p ah f i r,x<p
 | 0,_,_,_,x,hx=>by cases hx
 | f+1,i,r,hr,x,hx=>by
  unfold exW at hx;unfold cntW at hr;by_cases h:i<ah.length
  ·rw [qC h] at hx hr;rcases qr.1 hx with rfl|hx
   ·rw [List.getD,List.getElem?_eq_getElem h];exact hah _ (qg h)
   ·exact rk hp hah f (i+1) r hr x hx
  ·rw [qy h] at hx hr;rcases qr.1 hx with rfl|hx
   ·exact z4 (by rw [qW];exact hr)
   ·exact rk hp hah f (i+1) _ (qU _ (dL hp f (i+1))) x hx
theorem Cf {p:Nat}{ah:Ya}{f i q r:Nat}(h:¬ i<ah.length)(hr:r<cntW p ah.length f (i+1)):exW p ah (f+1) i (q*cntW p ah.length f (i+1)+r)=q::exW p ah f (i+1) r:=by
 have hc:0<cntW p ah.length f (i+1):=by omega
 rw [exW,qy h];have e1:(q*cntW p ah.length f (i+1)+r)/cntW p ah.length f (i+1)=q:=by
  rw [qW,wq hc,xL hr,xU]
 have e2:(q*cntW p ah.length f (i+1)+r)%cntW p ah.length f (i+1)=r:=by
  rw [qW,wo,zD hr]
 rw [e1,e2]
theorem rl {p:Nat}{ah:Ya}{f i r:Nat}(h:i<ah.length):exW p ah (f+1) i r=ah[i]::exW p ah f (i+1) r:=by
 rw [exW,qC h,List.getD,List.getElem?_eq_getElem h];rfl
theorem sG {p a f i:Nat}(h:i<a):cntW p a (f+1) i=cntW p a f (i+1):=by rw [cntW,qC h]
theorem sF {p a f i:Nat}(h:¬ i<a):cntW p a (f+1) i=p*cntW p a f (i+1):=by rw [cntW,qy h]
theorem Cx {p a:Nat}(hp:0<p):∀ f i,cntW p a f i≤p^f
 | 0,_=>by rw [j4];exact qh _
 | f+1,i=>by
  have h:=Cx (a:=a) hp f (i+1);unfold cntW;rw [ze];split
  ·exact qf h (jZ _ hp)
  ·rw [qW];exact qI _ h
def benP (t:RTk)(l:List Nat):List RE:=(List.range l.length).flatMap λ i=>[spE (t.sp.getD i rf0),(t.ps.getD (l.getD i 0) ⟨⟨#[]⟩,⟨0,rf0,rf0⟩,0⟩).e]
def benW (t:RTk)(l:List Nat):List RE:=benP t l++[spE (t.sp.getD l.length rf0)]
def cosW (t:RTk)(l:List Nat):Int:=(l.map λ k=>(t.ps.getD k ⟨⟨#[]⟩,⟨0,rf0,rf0⟩,0⟩).c).sum
def powW (t:RTk)(l:List Nat):Rat := -(dQ (benW t l)).c
def awaW (t:RTk)(l:List Nat):Rat:=if (powW t l-toQ t.tg).num.sign<0 then -(powW t l-toQ t.tg) else powW t l-toQ t.tg
def wayW (t:RTk)(l:List Nat):WyQ:=⟨l.map λ (k:Nat)=>(k:Int),powW t l,awaW t l,cosW t l⟩
theorem rB (t:RTk)(l:Ya)(k:Nat):benP t (l++[k])=benP t l++[spE (t.sp.getD l.length rf0),(t.ps.getD k ⟨⟨#[]⟩,⟨0,rf0,rf0⟩,0⟩).e]:=by
 unfold benP;rw [qx,z8,List.range_succ,kt];have h1:∀ i∈List.range l.length,(λ i=>[spE (t.sp.getD i rf0),(t.ps.getD ((l++[k]).getD i 0) ⟨⟨#[]⟩,⟨0,rf0,rf0⟩,0⟩).e]) i=(λ i=>[spE (t.sp.getD i rf0),(t.ps.getD (l.getD i 0) ⟨⟨#[]⟩,⟨0,rf0,rf0⟩,0⟩).e]) i:=λ i hi=>by
  have hi':i<l.length:=jI.1 hi;simp [List.getD,List.getElem?_append_left hi']
 rw [wi,ko h1,← wi];simp [List.getD]
theorem nv (xs:List RE)(x:RE):dQ (xs++[x])=mulQ (elM x) (dQ xs):=by
 unfold dQ;rw [wb];rfl
theorem w7 (t:RTk)(l:Ya)(k:Nat):dQ (benP t (l++[k]))=mulQ (elM (t.ps.getD k ⟨⟨#[]⟩,⟨0,rf0,rf0⟩,0⟩).e) (dQ (benW t l)):=by
 rw [rB,show benP t l++[spE (t.sp.getD l.length rf0),(t.ps.getD k ⟨⟨#[]⟩,⟨0,rf0,rf0⟩,0⟩).e]=(benW t l)++[(t.ps.getD k ⟨⟨#[]⟩,⟨0,rf0,rf0⟩,0⟩).e] from by unfold benW;simp,nv]
theorem uw (t:RTk)(l:Ya)(k:Nat):cosW t (l++[k])=cosW t l+(t.ps.getD k ⟨⟨#[]⟩,⟨0,rf0,rf0⟩,0⟩).c:=by
 unfold cosW;rw [zT,wu];simp
theorem cR {n:Int}(h1 : -9223372036854775808≤n)(h2:n<9223372036854775808):Cn Tryz.prog 99 [In n] ((RFA (rfOf (Rat.divInt n 1))).va):=by
 refine Cn.intro Tryz.func99 G zk nq (zy [(0,In n)] λ B w0 a U=>?_);refine qb<|zg [] [zpL 2 28 0 _] Ub UH U (zY G (Str.zero aQ) o0) (zz UI [O 2 28 _] ?_);refine ztA<|zgA U1 [⟨3,28,ptrH,some 5,_,some (6,_)⟩] (W6 6 (.v 5 _::(W6 8 [.alc 1,.sto 1,.v 4 _]))) [] (zM 0 G (zQ G (P7 h1 h2 zd zd zd) (.cons (vq 0 G) (.cons ab .nil)) (zV 1 G (zv G (pC (vq 2 G)) (zv G (pB (vq 2 G)) (zY G (Str.zero aQ) (zS 3 G au (zA 4 G o0)))))))) (zz [] Rk ?_);refine ztA<|zgA [some (1,_),none] [] Ug [] (zl 1 G au (zS 0 G au o0)) (zz [] Rk λ a w U=>?_);refine aa<|qi<|am ?_ (ax G U (zm 0 G) au);exact aM
theorem tL (s:ByteArray){p c:Int}(h1 : -9223372036854775808≤p)(h2:p<9223372036854775808):Cn Tryz.prog 174 [(EqA (.string s)).va,In p,In c] ((PtA ⟨s,⟨2,rfOf (Rat.divInt p 1),rfOf (Rat.divInt 0 1)⟩,c⟩).va):=by
 refine Cn.intro Tryz.func174 G zk nq (zy [(0,(EqA (.string s)).va),(1,In p),(2,In c)] λ B w0 a U=>?_);refine qb<|zg [] [zpL 6 93 0 _] Ub W7 U (zY G (Str.zero dY) o0) (zz (Wa 0 1 2) [O 6 93 _] ?_);refine ztA<|zgA [some (7,_)] [] (WG 7 [.sto 0]) [] (zM 0 G (zM 1 G (zQ G (cR zo zo) (.o (vq 1 G)) (zQ G (cR zd zd) (.cons ab .nil) (zv G (aS (qs:=[(0,_),(1,_),(2,_)]) fN (.cons ⟨rfl,ab,rfl⟩ (.cons ⟨rfl,vq 2 rfl,rfl⟩ (.cons ⟨rfl,vq 3 rfl,rfl⟩ .nil)))) (zM 2 G (zv G (aS (qs:=[(0,_),(1,_),(2,_)]) dY (.cons ⟨rfl,vq 0 rfl,rfl⟩ (.cons ⟨rfl,vq 4 rfl,rfl⟩ (.cons ⟨rfl,vq 5 rfl,rfl⟩ .nil)))) (zS 6 G gI o0)))))))) (zz [] [O 6 93 _] λ a w U=>?_);refine aa<|qi<|am ?_ (ax G U (zm 0 G) gI);exact aM
theorem gN:Str Tryz.prog 30 [EqA (.slice none 0 0),EqA (.slice none 0 0),RFA rf0] :=
 Str.of (z:=.agg #[.slice none 0 0,.slice none 0 0,.bool false,.slice none 0 0,.bool false,.slice none 0 0]) zk xZ zk λ B w=>⟨[[.slice none 0 0],[.slice none 0 0],[.bool false,.slice none 0 0,.bool false,.slice none 0 0]],rfl,.cons ⟨rfl,rfl⟩ (.cons ⟨rfl,rfl⟩ (.cons (eI B w) .nil))⟩
def frI (n:Int):RF:=rfOf (Rat.divInt n 1)
def lnT (s:ByteArray)(p c:Int):RPt:=⟨s,⟨2,frI p,frI 0⟩,c⟩
def twoT (n:Int):RTk:=⟨[frI 0,frI 1,frI 0],[lnT ⟨#[97]⟩ 1 5,lnT ⟨#[98]⟩ 2 3],frI n⟩
theorem BM {R:Rg}{B i:Nat}{s:ByteArray}:Has R B w0 i (.const (.string s)) (EqA (.string s)).va:=λ _ _ _=>t7 rfl
theorem yu {n:Int}(h1 : -9223372036854775808≤n)(h2:n<9223372036854775808):Cn Tryz.prog 97 [In n] ((TkA (twoT n)).va):=by
 refine Cn.intro Tryz.func97 G zk nq (zy [(0,In n)] λ B w0 a U=>?_);refine qb<|zg [] [zpL 2 30 0 _] Ub UH U (zY G (Str.zero gN) o0) (zz UI RA ?_);refine ztA<|zgA [some (10,_)] [] (Wn 3 [.sto 0]) [] (zQ G (cR (n:=0) zd zd) (.cons ab .nil) (zQ G (cR (n:=1) zd zd) (.cons ab .nil) (zQ G (cR (n:=0) zd zd) (.cons ab .nil) (zv G (bW (D:=[U32]) (l:=[_,_,_]) (xs:=[.tmp 3,.tmp 4,.tmp 5]) (dh zk) db zk (n_ok zk) nq nq nq (.cons (vq 0 G) (.p (vq 1 G) (vq 2 G))) G G) (zv G (ba (xs:=[.const (.string ⟨#[97]⟩),.const (.int .i64 1),.const (.int .i64 5)]) (tL ⟨#[97]⟩ (p:=1) (c:=5) zd zd) (.cons BM (.cons ab (.cons ab .nil)))) (zv G (ba (xs:=[.const (.string ⟨#[98]⟩),.const (.int .i64 2),.const (.int .i64 3)]) (tL ⟨#[98]⟩ (p:=2) (c:=3) zd zd) (.cons BM (.cons ab (.cons ab .nil)))) (zv G (bW (D:=[U32]) (l:=[_,_]) (xs:=[.tmp 7,.tmp 8]) (dh zk) fg zk (n_ok zk) nq nq nq (.p (vq 4 G) (vq 5 G)) G G) (zM 0 G (zQ G (cR h1 h2) (.o (vq 7 G)) (zv G (aS (qs:=[(0,_),(1,_),(2,_)]) gN (.cons ⟨rfl,vq 3 rfl,rfl⟩ (.cons ⟨rfl,vq 6 rfl,rfl⟩ (.cons ⟨rfl,vq 8 rfl,rfl⟩ .nil)))) (zS 9 G cU o0))))))))))) (zz [] RA λ a w U=>?_);refine aa<|qi<|am ?_ (ax G U (zm 0 G) cU);exact aM
def Nmd (Γ:List (Nat × VA)):List (Nat × Nat)→List Nat→Prop
 | [],[]=>True
 | p::ps,k::ks=>Γ[k]?=some (p.1,EqV (ptr p.2))∧Nmd Γ ps ks
 | _,_=>False
section
variable {P:Program}{R:Rg}{Q:Exit→Act→World→Prop}{B i:Nat}{w0:Bs}
inductive Nmo (R:Rg) (B:Nat) (w0:Bs) (i:Nat):List (Nat × Nat)→Prop
 | nil:Nmo R B w0 i []
 | cons {s g T:Nat}{A:As}{l:List (Nat × Nat)}:Has R B w0 i (.tmp s) (EqV (ptr g))→Loc R i s T A→Nmo R B w0 i l→Nmo R B w0 i ((s,g)::l)
theorem Nmo.lt {l:List (Nat × Nat)}(h:Nmo R B w0 i l)(av:R.Av B w0 i a w):∀ p∈l,p.2<w.heap.size:=by
 induction h with
 | nil=>intro p hp;cases hp
 | cons h1 h2 _ ih =>
  intro p hp;rcases qr.1 hp with rfl|hp
  ·obtain ⟨g,cs,e1,_,e3,_⟩:=h2.ok av;have e2:=h1 a w av;have e2':a.eval (.tmp _)=ptr _:=e2;rw [e2'] at e1;have:ptr _=ptr g:=e1;injection this with this;injection this with this;injection this with this;rw [this];exact (Array.getElem?_eq_some_iff.1 e3).1
  ·exact ih p hp
theorem JI {x:Yj}(h:v.oneCell'=true)(h1:Has R B w0 i x (EqV v)):Has R B w0 i x (EqA v).va:=λ a w av=>by
 have e:a.eval x=v:=h1 a w av;rw [e];exact t7 h
end
def prvB (lo hi:Nat)(Tp:List TypeId)(gs:List Nat)(W:World):Bs:=⟨W,λ k=>k∈gs∨(lo≤k∧k<hi∧∃ c T fz,W.heap[k]?=some (.cells c T fz)∧T∈Tp),true⟩
abbrev StpV (lo hi:Nat)(Tp:List TypeId)(gs:List Nat)(W W':World):Prop:=Kept (prvB lo hi Tp gs W) W'
def StV (lo hi:Nat)(Tp Tc:List TypeId)(A:VA):Prop:=∀ (B:Nat) (v:Value) (gs:List Nat) (W W':World),B≤lo→A.p B v W→StpV lo hi Tp gs W W'→CellsT Tc gs W→(∀ g∈gs,B≤g)→A.p B v W'
def StVA (lo hi:Nat)(Tp Tc:List TypeId)(A:As):Prop:=∀ (B:Nat) (cs:List Value) (gs:List Nat) (W W':World),B≤lo→A.p B cs W→StpV lo hi Tp gs W W'→CellsT Tc gs W→(∀ g∈gs,B≤g)→A.p B cs W'
theorem HU {lo hi:Nat}{Tp Tc:Yq}{A:VA}(h:offD (Tc++Tp) A.deps=true):StV lo hi Tp Tc A:=λ B v gs W W' hlo hp hs hc hb=>by
 have hD:=fk h;refine VA.many (gs++(List.range W.heap.size).filter λ k=>match (W.heap[k]?:Option Obj) with|some (Obj.cells _ T _)=>Tp.contains T&&decide (lo≤k) | _=>false) hp hs.os hs.tape hs.output hs.size (λ k c T fz hk hn=>?_) (λ g hg=>?_)
 ·refine hs.block k (Array.getElem?_eq_some_iff.1 hk).1 λ hF=>hn ?_;rcases hF with hF|⟨h1,h2,c',T',fz',h3,h4⟩
  ·exact qn.2 (.inl hF)
  ·have h3':W.heap[k]?=_:=h3;refine qn.2 (.inr (z5.2 ⟨by simpa using (Array.getElem?_eq_some_iff.1 hk).1,?_⟩));rw [h3'];simp only [qo,qB,qK];exact ⟨h4,h1⟩
 ·rcases qn.1 hg with hg|hg
  ·obtain ⟨c,T,fz,h1,h2⟩:=hc g hg;exact ⟨hb g hg,c,T,fz,h1,hD T (qn.2 (.inl h2))⟩
  ·obtain ⟨_,h2⟩:=z5.1 hg;split at h2
   ·rename_i c T fz h3;simp only [qo,qB,qK] at h2;exact ⟨qf hlo h2.2,c,T,fz,h3,hD T (qn.2 (.inr h2.1))⟩
   ·cases h2
theorem dZ {lo hi:Nat}{Tp Tc:Yq}{A:As}(h:offD (Tc++Tp) A.deps=true):StVA lo hi Tp Tc A:=λ B cs gs W W' hlo hp hs hc hb=>HU (A:=As.vaC A cs) h B undef gs W W' hlo hp hs hc hb
theorem G1 {lo:Nat}{Tp:Yq}{gs:Ya}{W W':Yi}(h:StpI gs W W'):StpV lo lo Tp gs W W':=⟨h.os,h.tape,h.output,h.size,λ k hk hf=>h.block k hk λ hF=>hf (.inl hF)⟩
def StG (lo0:Nat)(Tp Tc:List TypeId)(gb:List Nat)(A:VA):Prop:=∀ (B:Nat) (v:Value) (lo hi:Nat) (W W':World),B≤lo→lo0≤lo→A.p B v W→StpV lo hi Tp gb W W'→CellsT Tc gb W→(∀ g∈gb,B≤g)→A.p B v W'
def StGL (lo0:Nat)(Tp Tc:List TypeId)(gb:List Nat):List (Nat × VA)→Prop
 | []=>True
 | x::l=>StG lo0 Tp Tc gb x.2∧StGL lo0 Tp Tc gb l
theorem StGL.all {lo0:Nat}{Tp Tc:Yq}{gb:Ya}:∀ {l:Yf},StGL lo0 Tp Tc gb l→∀ x∈l,StG lo0 Tp Tc gb x.2
 | _::_,h,x,hx=>by
  rcases qr.1 hx with rfl|hx
  ·exact h.1
  ·exact StGL.all h.2 x hx
theorem StpV.noncell {lo hi:Nat}{Tp Tc:Yq}{gs:Ya}{W W':Yi}(h:StpV lo hi Tp gs W W')(hc:CellsT Tc gs W){k:Nat}{o:Obj}(hk:W.heap[k]?=some o)(ho:o.isCells=false):W'.heap[k]?=some o :=
 (h.block k (Array.getElem?_eq_some_iff.1 hk).1 (λ hF=>by
  rcases hF with hF|⟨_,_,c,T,fz,h1,_⟩
  ·obtain ⟨c,T,fz,h1,_⟩:=hc k hF;rw [h1] at hk;injection hk with hk;subst hk;cases ho
  ·have h1':W.heap[k]?=_:=h1;rw [h1'] at hk;injection hk with hk;subst hk;cases ho)).trans hk
theorem St.stpV {B N:Nat}{W W':Yi}{gs:Ya}{Tp Tc:Yq}{lo hi:Nat}(h:St B w0 N Γ Λ a W)(hB:B=w0.w.heap.size)(hlo:B≤lo)(hs:StpV lo hi Tp gs W W')(hc:CellsT Tc gs W)(hb:∀ g∈gs,B≤g)(hΓ:∀ x∈Γ,x.2.p B (a.eval (.tmp x.1)) W→x.2.p B (a.eval (.tmp x.1)) W')(hΛ:∀ l∈Λ,∀ cs,l.A.p B cs W→l.A.p B cs W')
  (hdis:∀ l∈Λ,∀ g,blk (a.eval (.tmp l.s))=some g→g ∉ gs) (hlt:∀ l∈Λ,∀ g,blk (a.eval (.tmp l.s))=some g→g<lo):St B w0 N Γ Λ a W':=by
 refine ⟨h.lo,h.defers.keep rfl λ Dm hD=>hs.noncell hc hD rfl,h.size,⟨hs.os.trans h.base.os,hs.tape.trans h.base.tape,hs.output.trans h.base.output,qf h.base.size hs.size,λ k hk hf=>(hs.block k (qF hk h.base.size) (λ hF=>by
   rcases hF with hF|⟨h1,_⟩
   ·have:=hb k hF;omega
   ·omega)).trans (h.base.block k hk hf)⟩,
  λ x hx=>hΓ x hx (h.vals x hx),λ l hl=>?_,h.dis⟩
 obtain ⟨g,cs,e1,e2,e3,e4⟩:=h.locs l hl;exact ⟨g,cs,e1,e2,(hs.block g (Array.getElem?_eq_some_iff.1 e3).1 (λ hF=>by
  have hbk:blk (a.eval (.tmp l.s))=some g:=by rw [e1];exact l.H.ok g
  rcases hF with hF|⟨h1,_⟩
  ·exact hdis l hl g hbk hF
  ·have:=hlt l hl g hbk;omega)).trans e3,hΛ l hl _ e4⟩
structure ItHp (P:Program) (l B:Nat) (Db Tc Tp:List TypeId) (gs:List Nat) (Y:Nat→List VA) (inf:Bool) (M lo:Nat) (J0:World→Prop) (J:Nat→Nat→World→Prop) (Jx:World→Prop):Prop where
 inf':inf=true→∀ hi W,¬ J hi M W
 st0:∀ W W',J0 W→StpI gs W W'→CellsT Tc gs W'→J0 W'
 go:∀ hi W,hi≤W.heap.size→J0 W→J hi 0 W
 st:∀ hi k W W',k<M→J hi k W→StpV lo hi Tp gs W W'→CellsT Tc gs W'→J hi k W'
 stM:∀ hi W W',J hi M W→StpI gs W W'→CellsT Tc gs W'→J hi M W'
 stx:∀ W W',Jx W→StpI gs W W'→CellsT Tc gs W'→Jx W'
 ct0:∀ W,J0 W→CellsT Tc gs W
 ct:∀ hi k W,J hi k W→CellsT Tc gs W
 ctx:∀ W,Jx W→CellsT Tc gs W
 yd:∀ hi k W args,k<M→J hi k W→All2 (λ (A:VA) v=>A.p B v W) (Y k) args→YieldAt Fence.wide 0 P l args.toArray W λ e W'=>(e=.returned (.bool true)∧J hi (k+1) W'∧Stp B Db (gs++List.range' lo (hi-lo)) W W') ∨
  (e=.returned (.bool false)∧Jx W'∧W.heap.size≤W'.heap.size∧∀ D:Nat,W.heap[D]?=some (.deferred (some []))→W'.heap[D]?=some (.deferred (some [])))
def ItPg (P:Program)(f:FuncId)(caps:List (TypeId × As))(gs:List Nat)(Y:Nat→List VA)(inf:Bool)(M:Nat)(Dd Tp:List TypeId):Prop :=
 (∃ fn, P.funcs[f]? = some fn∧(fn.name == "runtime.NumGoroutine")=false∧fn.body.isNone=false) ∧
 ∀ (l B:Nat) (w:World) (Db:List TypeId) (J0:World→Prop) (J:Nat→Nat→World→Prop) (Jx:World→Prop),B≤w.heap.size→gs.Nodup→nH B w caps gs→offD Db Dd=true→ItHp P l B Db (caps.map xb) Tp gs Y inf M w.heap.size J0 J Jx→J0 w →
  Calls P f (.func (.yield l) #[] #[]::gs.map ptr).toArray w λ e W'=>∃ v,e=.returned v∧((∃ hi,J hi M W')∨Jx W')
section
variable {P:Program}{Q:Exit→Act→World→Prop}{B N:Nat}{w0:Bs}{Γ:List (Nat × VA)}{a:Act}{w:World}
theorem r5 {gs k0:Nat}{ps:Ya}{assign body:Code}(Λ0:Yk)(Λ:Nat→Nat→Yk)(Λr:Option (Yk))(Λx:Nat→Option (Yk)){f:Yn}{caps:List (Yh × As)}{gb:Ya}{Y:Nat→Yc}{inf:Bool}{M:Nat}{Dd Db Tp:Yq}
  (h:St B w0 N Γ Λ0 a w) (hB:B=w0.w.heap.size) (hN0:w0.nd=false) (hk0:Γ[k0]?=some (gs,ItV f caps gb)) (hit:ItPg P f caps gb Y inf M Dd Tp) (hM:inf=true→0<M) (hDd:offD Db Dd=true)
  (ks:List Nat) (hΓ:ks.all (λ k=>match Γ[k]? with|some x=>offD Db x.2.deps && !ps.contains x.1|none=>false)=true) (hΓs:StGL w.heap.size Tp (caps.map xb) gb (ks.filterMap λ k=>Γ[k]?))
  (hΛ:∀ hi k,(Λ hi k).all (λ l => !ps.contains l.s&&Db.contains l.T)=true) (hΛs:∀ lo hi k,k<M→B≤lo→w.heap.size≤lo→∀ l∈Λ hi k,StVA lo hi Tp (caps.map xb) l.A) (hΛM:∀ hi,(Λ hi M).all (λ l=>offD (caps.map xb) l.A.deps)=true) (hΛ0:Λ0.all (λ l=>offD (caps.map xb) l.A.deps)=true) (sl:List Nat) (hsl:∀ hi k,(Λ hi k).all (λ l=>sl.contains l.s)=true) (hsl0:Λ0.all (λ l=>sl.contains l.s)=true) (hsl1:sl.all (λ s=>Λ0.any λ l=>l.s==s)=true) (hdis:∀ s∈sl,∀ g,blk (a.eval (.tmp s))=some g→g ∉ gb)
  (hΛr:∀ L,Λr=some L→L.all (λ l=>offD (caps.map xb) l.A.deps&&sl.contains l.s)=true) (hΛx:∀ id L,Λx id=some L→L.all (λ l=>offD (caps.map xb) l.A.deps&&sl.contains l.s)=true)
  (hps:∀ k,(Y k).length=ps.length) (hnd:ps.Nodup) (hpN:ps.all (λ p=>p<N)=true)
  (hgo:∀ hi Γ a W,hi≤W.heap.size→St B w0 N Γ Λ0 a W→St B w0 N Γ (Λ hi 0) a W) (hM0:0<M)
  (hround:∀ l lo hi k a1 Ws,k<M→B≤lo→w.heap.size≤lo→hi≤Ws.heap.size→B≤Ws.heap.size→CellsT (caps.map xb) gb Ws→St B (rndB B Db (gb++List.range' lo (hi-lo)) Ws Ws) N (ks.filterMap (λ k=>Γ[k]?)++(ps.zip (Y k)++(Λ hi k).map λ l=>(l.s,EqV (a.eval (.tmp l.s))))) (Λ hi k) a1 Ws →
   assign.wpIn (fw (some l)) 0 P (Exit.then (λ a2 W2=>Kept (rndB B Db (gb++List.range' lo (hi-lo)) Ws Ws) W2∧∀ W3,Bg l W2 W3→body.wpIn (fw (some l)) 0 P (OU B N (rndB B Db (gb++List.range' lo (hi-lo)) Ws W3) a (inf=true→k+1<M) (Λ hi (k+1)) Λr Λx) a2 W3) (λ _ _ _=>False)) a1 Ws)
  (hdone:∀ hi a' W,St B w0 N (ks.filterMap (λ k=>Γ[k]?)) (Λ hi M) a' W→Q .normal a' W) (hret:∀ L,Λr=some L→∀ a' W,St B w0 N (ks.filterMap (λ k=>Γ[k]?)) L a' W→Q .ret a' W) (hexit:∀ id L,Λx id=some L→∀ a' W,St B w0 N (ks.filterMap (λ k=>Γ[k]?)) L a' W→Q (.exit id) a' W) :
  (Code.rangeFunc (.tmp gs) ps.toArray assign body).wp P Q a w:=by
 refine (wpIn_wide (n:=0)).1 (wpIn_rangeFunc ?_);intro fn hfn;obtain ⟨⟨ff,hf,hn,hb⟩,hcall⟩:=hit;obtain ⟨hev,hgn,hcaps⟩:=h.vals _ (qa hk0);have hev':a.eval (.tmp gs)=.func (.func f) #[] (gb.map ptr).toArray:=hev;obtain ⟨hct,hcb⟩:=eD hcaps
 replace h:=h.sel ks
 obtain ⟨Γ,hΓe⟩:∃ Γ',ks.filterMap (λ k=>Γ[k]?)=Γ':=⟨_,rfl⟩;rw [hΓe] at h hΓs hround hdone hret hexit
 replace hΓ:∀ x∈Γ,(offD Db x.2.deps && !ps.contains x.1)=true:=λ x hx=>by
  rw [← hΓe] at hx;obtain ⟨k,hk1,hk2⟩:=qH.1 hx;have:=qe.1 hΓ k hk1;rwa [hk2] at this
 clear hΓe;obtain ⟨rec,hrec⟩:∃ rec:LoopState→Option Code→Loop,rec=λ st pe=>{ state:=st,pending:=pe,fn,tmps:=a.tmps,params:=ps.toArray,assign,body,defers:=w.heap.size }:=⟨_,rfl⟩;obtain ⟨W1,hW1⟩:∃ W1,(w.alloc (.deferred (some []))).alloc (.loop (rec .ready none))=W1:=⟨_,rfl⟩;have hgr:Grow w W1:=by rw [← hW1];exact (Grow.alloc _ _).trans (Grow.alloc _ _)
 have hL1:W1.heap[w.heap.size+1]?=some (.loop (rec .ready none)):=by
  rw [← hW1];have:=World.alloc_heap_new (w.alloc (.deferred (some []))) (.loop (rec .ready none));rwa [World.size_alloc] at this
 have hK1:W1.heap[w.heap.size]?=some (.deferred (some [])):=by
  rw [← hW1];exact (Below.heap_alloc _ _ _ (by simp)).trans (World.alloc_heap_new w _)
 have hws:w0.w.heap.size≤w.heap.size:=h.base.size;have h1:St B w0 N Γ Λ0 a W1:=⟨h.lo,h.defers.grow hgr rfl,h.size,h.base.grow hgr,λ x hx=>x.2.grow _ _ _ _ hgr (h.vals x hx),λ l hl=>(h.locs l hl).grow hgr,h.dis⟩;have hΓ':∀ x∈Γ,True∧offD Db x.2.deps=true∧x.1 ∉ ps:=λ x hx=>by
  have:=hΓ x hx;simp only [qo,qz,qB,qm] at this;exact ⟨trivial,this.1,this.2⟩
 have hΓg:=StGL.all hΓs;have hΛ':∀ hi k,∀ l∈Λ hi k,True∧l.s ∉ ps∧l.T∈Db:=λ hi k l hl=>by
  have:=qe.1 (hΛ hi k) l hl;simp only [qo,qz,qB,qm,qK] at this;exact ⟨trivial,this.1,this.2⟩
 have hlo:B≤W1.heap.size:=by have:=hgr.size;omega
 have hlt:∀ s∈sl,∀ g,blk (a.eval (.tmp s))=some g→g<W1.heap.size:=λ s hs g hg=>by
  obtain ⟨l,hl,e⟩:=jy.1 (qe.1 hsl1 s hs);obtain ⟨g',cs,e1,e2,e3,_⟩:=h1.locs l hl;have e':l.s=s:=by simpa using e
  rw [← e',e1,l.H.ok] at hg;injection hg with hg;subst hg;exact (Array.getElem?_eq_some_iff.1 e3).1
 have stp:∀ {L:List Lc}{W W':World},L.all (λ l=>offD (caps.map xb) l.A.deps&&sl.contains l.s)=true→St B w0 N Γ L a W→CellsT (caps.map xb) gb W→StpI gb W W'→St B w0 N Γ L a W':=λ {L W W'} hL hs hc hk=>by
  have hL':∀ l∈L,offD (caps.map xb) l.A.deps=true∧l.s∈sl:=λ l hl=>by
   have:=qe.1 hL l hl;simpa using this
  exact St.stpV (lo:=W1.heap.size) (hi:=W1.heap.size) (Tp:=Tp) hs hB hlo (G1 hk) hc hcb (λ x hx hp=>hΓg x hx _ _ _ _ _ _ hlo hgr.size hp (G1 hk) hc hcb) (λ l hl cs hp=>As.stpI hp hk hc hcb (fk (hL' l hl).1)) (λ l hl g hg=>hdis l.s (hL' l hl).2 g hg) λ l hl g hg=>hlt l.s (hL' l hl).2 g hg
 have and2:∀ {L:List Lc},L.all (λ l=>offD (caps.map xb) l.A.deps)=true→L.all (λ l=>sl.contains l.s)=true→L.all (λ l=>offD (caps.map xb) l.A.deps&&sl.contains l.s)=true:=λ {L} h1 h2=>qe.2 λ l hl=>by
  rw [qe.1 h1 l hl,qe.1 h2 l hl]
  rfl
 have stpv:∀ {hi k:Nat}{W W':World},k<M→St B w0 N Γ (Λ hi k) a W→CellsT (caps.map xb) gb W→StpV W1.heap.size hi Tp gb W W'→St B w0 N Γ (Λ hi k) a W':=λ {hi k W W'} hk hs hc hv =>
  St.stpV hs hB hlo hv hc hcb (λ x hx hp=>hΓg x hx _ _ _ _ _ _ hlo hgr.size hp hv hc hcb) (λ l hl cs hp=>hΛs _ hi k hk hlo hgr.size l hl _ _ _ _ _ hlo hp hv hc hcb) (λ l hl g hg=>hdis l.s (by have:=qe.1 (hsl hi k) l hl;simpa using this) g hg) λ l hl g hg=>hlt l.s (by have:=qe.1 (hsl hi k) l hl;simpa using this) g hg
 have back:∀ {L:List Lc}{Ws W3 W:World}{a':Act} (hi k:Nat) (r:Loop) (st:LoopState) (pe:Option Code),St B w0 N Γ (Λ hi k) a Ws→Ws.heap[w.heap.size+1]?=some (.loop (rec .ready none))→Ws.heap[w.heap.size]?=some (.deferred (some [])) →
   (∀ j,j<Ws.heap.size→j≠w.heap.size+1→¬ (rndB B Db (gb++List.range' W1.heap.size (hi-W1.heap.size)) Ws W3).F j→W3.heap[j]?=Ws.heap[j]?)→Ws.heap.size≤W3.heap.size→W3.os=Ws.os∧W3.tape=Ws.tape∧W3.output=Ws.output→W3.heap[w.heap.size+1]?=some (.loop r)→REnd B N (rndB B Db (gb++List.range' W1.heap.size (hi-W1.heap.size)) Ws W3) a L a' W →
   W.heap[w.heap.size+1]?=some (.loop r)∧St B w0 N Γ L a (W.putObj (w.heap.size+1) (.loop (rec st pe)))∧(W.putObj (w.heap.size+1) (.loop (rec st pe))).heap[w.heap.size+1]?=some (.loop (rec st pe)) ∧
    (W.putObj (w.heap.size+1) (.loop (rec st pe))).heap[w.heap.size]?=some (.deferred (some []))∧(st=.ready→pe=none→Stp B Db (gb++List.range' W1.heap.size (hi-W1.heap.size)) Ws (W.putObj (w.heap.size+1) (.loop (rec st pe))))∧(∀ g∈gb,g<Ws.heap.size→g≠w.heap.size+1→(W.putObj (w.heap.size+1) (.loop (rec st pe))).heap[g]?=Ws.heap[g]?)∧Ws.heap.size≤(W.putObj (w.heap.size+1) (.loop (rec st pe))).heap.size∧∀ D:Nat,Ws.heap[D]?=some (.deferred (some []))→(W.putObj (w.heap.size+1) (.loop (rec st pe))).heap[D]?=some (.deferred (some [])):=by
  rintro L Ws W3 W a' hi k r st pe hs hl hd hc0 hsz ho hl3 ⟨Γ3,h3,heq⟩;have hnF:∀ {j:Nat}{o:Obj},Ws.heap[j]?=some o→o.isCells=false→¬ (rndB B Db (gb++List.range' W1.heap.size (hi-W1.heap.size)) Ws W3).F j:=λ {j o} hj ho hF=>by
   rcases hF.2 with h4|⟨_,c,T,fz,h4,_⟩
   ·have:=(Array.getElem?_eq_some_iff.1 hj).1;omega
   ·rw [hj] at h4;injection h4 with h4;subst h4;cases ho
  have hlt1:=(Array.getElem?_eq_some_iff.1 hl).1;have hWl:W.heap[w.heap.size+1]?=some (.loop r):=(h3.base.block _ (by show _<W3.heap.size;omega) (hnF hl rfl)).trans hl3;have hlt2:=(Array.getElem?_eq_some_iff.1 hWl).1;have hnew:=World.putObj_heap_same (w:=W) (o:=.loop (rec st pe)) hlt2;have hblk:∀ j,j<Ws.heap.size→j≠w.heap.size+1→¬ (rndB B Db (gb++List.range' W1.heap.size (hi-W1.heap.size)) Ws W3).F j→(W.putObj (w.heap.size+1) (.loop (rec st pe))).heap[j]?=Ws.heap[j]?:=λ j hj hne hF =>
   (World.putObj_heap_other hne).trans ((h3.base.block j (by show _<W3.heap.size;omega) hF).trans (hc0 j hj hne hF))
  have hD':(W.putObj (w.heap.size+1) (.loop (rec st pe))).heap[w.heap.size]?=some (.deferred (some [])):=(hblk _ (Array.getElem?_eq_some_iff.1 hd).1 zo (hnF hd rfl)).trans hd;have hsz3:W3.heap.size≤W.heap.size:=h3.base.size;have hcg:=Bl hWl (.loop (rec st pe));have hDk:∀ D:Nat,Ws.heap[D]?=some (.deferred (some []))→(W.putObj (w.heap.size+1) (.loop (rec st pe))).heap[D]?=some (.deferred (some [])):=λ D hDd=>by
   have hne:D≠w.heap.size+1:=λ e=>by rw [e,hl] at hDd;cases hDd
   exact (hblk D (Array.getElem?_eq_some_iff.1 hDd).1 hne (hnF hDd G)).trans hDd
  refine ⟨hWl,⟨h.lo,hs.defers.keep rfl λ D hDd=>?_,hs.size,?_,λ x hx=>?_,λ m hm=>?_,λ m hm m' hm' hne=>?_⟩,hnew,hD',λ e1 e2=>?_,λ g hg hlt hne=>hblk g hlt hne (λ hF=>by rcases hF.2 with h4|h4;omega;exact h4.1 (qn.2 (.inl hg))),by rw [World.putObj_size];omega,hDk⟩
  ·exact hDk D hDd
  ·refine ⟨(h3.base.os.trans ho.1).trans hs.base.os,(h3.base.tape.trans ho.2.1).trans hs.base.tape,(h3.base.output.trans ho.2.2).trans hs.base.output,?_,λ j hj hf=>?_⟩
   ·have:=hs.base.size;rw [World.putObj_size];omega
   ·have hjs:j<Ws.heap.size:=qF hj hs.base.size;exact (hblk j hjs zo (λ hF=>by have:=hF.1;omega)).trans (hs.base.block j hj hf)
  ·
   have hb:=(hΓ' x hx).2.1;refine VA.many ((List.range Ws.heap.size).filter λ j=>match Ws.heap[j]? with|some (.cells _ T _)=>Db.contains T&&decide (B≤j) | _=>false) (hs.vals x hx) (h3.base.os.trans ho.1) (h3.base.tape.trans ho.2.1) (h3.base.output.trans ho.2.2) (by rw [World.putObj_size];omega) (λ j c T fz hj hn=>?_) (λ g hg=>?_)
   ·refine hblk j (Array.getElem?_eq_some_iff.1 hj).1 (λ e=>by rw [e,hl] at hj;cases hj) λ hF=>hn (z5.2 ⟨by simpa using (Array.getElem?_eq_some_iff.1 hj).1,?_⟩);rcases hF.2 with h4|⟨_,c',T',fz',hc,hD''⟩
    ·have:=(Array.getElem?_eq_some_iff.1 hj).1;omega
    ·rw [hj] at hc;injection hc with hc;injection hc with _ hc _;subst hc;rw [hj];simp only [qo,qB,qK];exact ⟨hD'',hF.1⟩
   ·obtain ⟨_,h2⟩:=z5.1 hg;split at h2
    ·rename_i c T fz hc;simp only [qo,qB,qK] at h2;exact ⟨h2.2,c,T,fz,hc,fk hb T h2.1⟩
    ·cases h2
  ·obtain ⟨g,cs,e1,e2,e3,e4⟩:=h3.locs m hm;refine ⟨g,cs,(heq m hm).symm.trans e1,.inl ?_,hcg.heap e3,m.A.cg _ _ _ _ hcg e4⟩;have:=h3.lo g e2;omega
  ·rw [← heq m hm,← heq m' hm'];exact h3.dis m hm m' hm' hne
  ·subst e1 e2;refine ⟨h3.base.os.trans ho.1,h3.base.tape.trans ho.2.1,h3.base.output.trans ho.2.2,by rw [World.putObj_size];show Ws.heap.size≤_;omega,λ j hj hF=>?_⟩;have hj':j<Ws.heap.size:=hj;by_cases e:j=w.heap.size+1
   ·subst e;show _=Ws.heap[w.heap.size+1]?;rw [hnew,hl]
   ·exact hblk j hj' e hF
 refine ⟨w.heap.size+1,[mark w.heap.size],W1,{ target:=.fn (.func f) (gb.map ptr).toArray,args := #[.func (.yield (w.heap.size+1)) #[] #[]] },W1,f,
  #[.func (.yield (w.heap.size+1)) #[] #[]]++(gb.map ptr).toArray,W1,?_,?_,λ _ _=>trivial,?_,(λ hh=>by cases hh),?_⟩
 ·rw [← hW1,hrec];exact run_enterLoop_outer _ _ _ _ _
 ·simp only [resolve,hev'];simp [go_sem]
 ·simp [invoke,bb hf hn hb]
 ·refine callsIn_wide.2 ?_;have hargs:(#[.func (.yield (w.heap.size+1)) #[] #[]]++(gb.map ptr).toArray:Array Value)=(.func (.yield (w.heap.size+1)) #[] #[]::gb.map ptr).toArray:=by simp
  rw [hargs];have hcaps1:nH B W1 caps gb:=hcaps.mono λ c g ⟨h3,cs,h4,h5⟩=>⟨h3,cs,hgr.heap h4,c.2.grow _ _ _ _ hgr h5⟩;have hgl:∀ g∈gb,g≠w.heap.size+1:=λ g hg=>by
   obtain ⟨c,T,fz,h1,_⟩:=hct g hg;have:=(Array.getElem?_eq_some_iff.1 h1).1;omega
  refine (hcall (w.heap.size+1) B W1 Db
   (λ W=>(St B w0 N Γ Λ0 a W∧W.heap[w.heap.size+1]?=some (.loop (rec .ready none))∧W.heap[w.heap.size]?=some (.deferred (some [])))∧CellsT (caps.map xb) gb W)
   (λ hi k W=>((St B w0 N Γ (Λ hi k) a W∧W.heap[w.heap.size+1]?=some (.loop (rec .ready none))∧W.heap[w.heap.size]?=some (.deferred (some [])))∧(inf=true→k<M)∧hi≤W.heap.size)∧CellsT (caps.map xb) gb W)
   (λ W=>(∃ c,((c=.ret∧∃ L,Λr=some L∧St B w0 N Γ L a W)∨(∃ id L,c=.exit id∧Λx id=some L∧St B w0 N Γ L a W))∧W.heap[w.heap.size+1]?=some (.loop (rec .done (some c)))∧W.heap[w.heap.size]?=some (.deferred (some [])))∧CellsT (caps.map xb) gb W)
   (by have:=hgr.size;omega) hgn hcaps1 hDd ⟨λ hi2 hi W hJ=>absurd (hJ.1.2.1 hi2) (Nat.lt_irrefl M),?_,?_,?_,?_,?_,λ W hJ=>hJ.2,λ hi k W hJ=>hJ.2,λ W hJ=>hJ.2,?_⟩ ⟨⟨h1,hL1,hK1⟩,(eD hcaps1).1⟩).mono ?_
  ·rintro W W' ⟨⟨hs,hl,hd⟩,hcc⟩ hk hcc';exact ⟨⟨stp (and2 hΛ0 hsl0) hs hcc hk,hk.noncell hcc hl rfl,hk.noncell hcc hd rfl⟩,hcc'⟩
  ·rintro hi W hhi ⟨⟨hs,hl,hd⟩,hcc⟩;exact ⟨⟨⟨hgo hi _ _ _ hhi hs,hl,hd⟩,(λ _=>hM0),hhi⟩,hcc⟩
  ·rintro hi k W W' hkM ⟨⟨⟨hs,hl,hd⟩,hc,hhi⟩,hcc⟩ hk hcc';exact ⟨⟨⟨stpv hkM hs hcc hk,hk.noncell hcc hl rfl,hk.noncell hcc hd rfl⟩,hc,qf hhi hk.size⟩,hcc'⟩
  ·rintro hi W W' ⟨⟨⟨hs,hl,hd⟩,hc,hhi⟩,hcc⟩ hk hcc';exact ⟨⟨⟨stp (and2 (hΛM hi) (hsl hi M)) hs hcc hk,hk.noncell hcc hl rfl,hk.noncell hcc hd rfl⟩,hc,qf hhi hk.size⟩,hcc'⟩
  ·rintro W W' ⟨⟨c,hc,hl,hd⟩,hcc⟩ hk hcc';refine ⟨⟨c,?_,hk.noncell hcc hl rfl,hk.noncell hcc hd rfl⟩,hcc'⟩;rcases hc with ⟨e,L,hL,hs⟩|⟨id,L,e,hL,hs⟩
   ·exact .inl ⟨e,L,hL,stp (hΛr L hL) hs hcc hk⟩
   ·exact .inr ⟨id,L,e,hL,stp (hΛx id L hL) hs hcc hk⟩
  ·rintro hi k W args hkM ⟨⟨⟨hs,hl,hd⟩,hc,hhi⟩,hcc⟩ hargs';have hla:args.length=ps.length:=by rw [← hargs'.length,hps k]
   have hy:=run_yield (P:=P) (args:=args.toArray) hl (by rw [hrec];simpa using hla);rw [hrec] at hy;have hlt':=hlt;have hlt:w.heap.size+1<W.heap.size:=(Array.getElem?_eq_some_iff.1 hl).1;have hBW:B≤W.heap.size:=by have:=hs.base.size;omega
   have hzip:(ps.toArray.zip args.toArray).foldl (λ (t:Array Value) (x:Nat × Value)=>t.setIfInBounds x.1 x.2) a.tmps=(ps.zip args).foldl (λ t x=>t.setIfInBounds x.1 x.2) a.tmps:=by
    rw [List.zip_toArray,List.foldl_toArray]
   obtain ⟨z1,z2,z3⟩:=yS (ps.zip args) a.tmps;have hfst:(ps.zip args).map xb=ps:=by rw [List.map_fst_zip];omega
   rw [hfst] at z2 z3;refine ⟨fn,_,assign,body,hy,roundIn_of_wpIn hfn ?_⟩;have hst1:St B (rndB B Db (gb++List.range' W1.heap.size (hi-W1.heap.size)) W W) N (Γ++(ps.zip (Y k)++(Λ hi k).map λ l=>(l.s,EqV (a.eval (.tmp l.s))))) (Λ hi k) { tmps:=(ps.zip args).foldl (λ t x=>t.setIfInBounds x.1 x.2) a.tmps,defers:=[] } W:=by
    have hold:∀ s,s ∉ ps→({ tmps:=(ps.zip args).foldl (λ t x=>t.setIfInBounds x.1 x.2) a.tmps,defers:=[] }:Act).eval (.tmp s)=a.eval (.tmp s):=λ s hs'=>by
     rw [ip,ip];show ((_:Array Value)[s]?).getD undef=_;rw [z2 s hs']
    refine ⟨λ g hg=>?_,DefOk.nil rfl,by rw [z1];exact hs.size,Kept.refl _,λ x hx=>?_,λ m hm=>?_,λ m hm m' hm' hne=>?_⟩
    ·rcases hg with hg|hg
     ·exact qf hBW hg
     ·exact hg.1
    ·rcases qn.1 hx with hx|hx
     ·rw [hold _ (hΓ' x hx).2.2];exact hs.vals x hx
     ·rcases qn.1 hx with hx|hx
      ·obtain ⟨i,hi⟩:=List.getElem?_of_mem hx;obtain ⟨p,A,e1,e2,rfl⟩:∃ p A,ps[i]?=some p∧(Y k)[i]?=some A∧x=(p,A):=by
        rw [List.getElem?_zip_eq_some] at hi;exact ⟨x.1,x.2,hi.1,hi.2,rfl⟩
       obtain ⟨v,hv1,hv2⟩:=hargs'.get e2;have hm:(p,v)∈ps.zip args:=qa (i:=i) (by rw [List.getElem?_zip_eq_some];exact ⟨e1,hv1⟩);have hpl:p<a.tmps.size:=by
        rw [hs.size];have:=qe.1 hpN p (qa e1);simpa using this
       show A.p B _ W;rw [ip];show A.p B (((_:Array Value)[p]?).getD undef) W;rw [z3 hnd (p,v) hm hpl];exact hv2
      ·obtain ⟨m,hm,rfl⟩:=qp.1 hx;exact hold m.s (hΛ' hi k m hm).2.1
    ·obtain ⟨g,cs,e1,e2,e3,e4⟩:=hs.locs m hm;exact ⟨g,cs,(hold m.s (hΛ' hi k m hm).2.1).trans e1,.inr ⟨h.lo g e2,.inr ⟨(λ hm2=>by
      rcases qn.1 hm2 with hm2|hm2
      ·exact hdis m.s (by have:=qe.1 (hsl hi k) m hm;simpa using this) g (by rw [e1];exact m.H.ok g) hm2
      ·have h8:=hlt' m.s (by have:=qe.1 (hsl hi k) m hm;simpa using this) g (by rw [e1];exact m.H.ok g);have h9:=(v7.1 hm2).1;omega),_,_,_,e3,(hΛ' hi k m hm).2.2⟩⟩,e3,e4⟩
    ·rw [hold m.s (hΛ' hi k m hm).2.1,hold m'.s (hΛ' hi k m' hm').2.1];exact hs.dis m hm m' hm' hne
   have hasg:=hround (w.heap.size+1) W1.heap.size hi k _ W hkM hlo hgr.size hhi hBW hcc hst1;rw [← hzip] at hasg;refine wpIn_mono hasg ?_;rintro e a2 W2 hq;cases e with
   | normal =>
    obtain ⟨hk2,hbody⟩:=hq;have hnF:∀ {j:Nat}{o:Obj},W.heap[j]?=some o→o.isCells=false→¬ (rndB B Db (gb++List.range' W1.heap.size (hi-W1.heap.size)) W W).F j:=λ {j o} hj ho hF=>by
     rcases hF.2 with h4|⟨_,c,T,fz,h4,_⟩
     ·have:=(Array.getElem?_eq_some_iff.1 hj).1;omega
     ·rw [hj] at h4;injection h4 with h4;subst h4;cases ho
    have hl2:W2.heap[w.heap.size+1]?=some (.loop (rec .ready none)):=(hk2.block _ hlt (hnF hl rfl)).trans hl;have hlt2:=(Array.getElem?_eq_some_iff.1 hl2).1;refine ⟨_,run_beginRound hl2 (by rw [hrec]),?_⟩;obtain ⟨W3,hW3⟩:∃ W3,W2.putObj (w.heap.size+1) (.loop { rec .ready none with state:=.busy })=W3:=⟨_,rfl⟩;rw [hW3];have hl3:W3.heap[w.heap.size+1]?=some (.loop { rec .ready none with state:=.busy }):=by rw [← hW3];exact World.putObj_heap_same hlt2
    have hc0:∀ j,j<W.heap.size→j≠w.heap.size+1→¬ (rndB B Db (gb++List.range' W1.heap.size (hi-W1.heap.size)) W W3).F j→W3.heap[j]?=W.heap[j]?:=λ j hj hne hF=>by rw [← hW3];exact (World.putObj_heap_other hne).trans (hk2.block j hj hF)
    have hsz3:W.heap.size≤W3.heap.size:=by rw [← hW3,World.putObj_size];exact hk2.size
    have ho3:W3.os=W.os∧W3.tape=W.tape∧W3.output=W.output:=by rw [← hW3];exact ⟨hk2.os,hk2.tape,hk2.output⟩
    refine wpIn_mono (hbody W3 ⟨_,_,hl2,hW3.symm⟩) ?_;rintro e a3 W4 hp;have fin:∀ {L:List Lc} (jump:Option Code),REnd B N (rndB B Db (gb++List.range' W1.heap.size (hi-W1.heap.size)) W W3) a L a3 W4→∃ W5,(Instr.endRound (w.heap.size+1) jump).run P W4=.ok (.bool jump.isNone) W5∧St B w0 N Γ L a W5∧W5.heap[w.heap.size+1]?=some (.loop (rec (if jump.isNone then .ready else .done) jump))∧W5.heap[w.heap.size]?=some (.deferred (some []))∧(jump=none→Stp B Db (gb++List.range' W1.heap.size (hi-W1.heap.size)) W W5)∧CellsT (caps.map xb) gb W5∧W.heap.size≤W5.heap.size∧(∀ D:Nat,W.heap[D]?=some (.deferred (some []))→W5.heap[D]?=some (.deferred (some []))):=λ {L} jump hr=>by
     obtain ⟨b1,b2,b3,b4,b5,b6,b7,b8⟩:=back hi k _ (if jump.isNone then .ready else .done) jump hs hl hd hc0 hsz3 ho3 hl3 hr
     have hrun:=run_endRound (P:=P) jump b1;refine ⟨_,?_,b2,b3,b4,(λ e=>b5 (by rw [e];rfl) e),(λ g hg=>?_),b7,b8⟩
     rotate_left
     ·obtain ⟨c,T,fz,h5,h6⟩:=hcc g hg;exact ⟨c,T,fz,(b6 g hg (Array.getElem?_eq_some_iff.1 h5).1 (hgl g hg)).trans h5,h6⟩
     rw [hrun,hrec]
    cases e with
    | normal =>
     obtain ⟨hci,hr⟩:=hp;obtain ⟨W5,f1,f2,f3,f4,f5,f6,f7,_⟩:=fin none hr;exact ⟨_,_,f1,.inl ⟨rfl,⟨⟨⟨f2,f3,f4⟩,hci,qf hhi f7⟩,f6⟩,f5 rfl⟩⟩
    | ret =>
     obtain ⟨L,hL,hr⟩:=hp;obtain ⟨W5,f1,f2,f3,f4,_,f6,f7,f8⟩:=fin (some .ret) hr;exact ⟨_,_,f1,.inr ⟨rfl,⟨⟨.ret,.inl ⟨rfl,L,hL,f2⟩,f3,f4⟩,f6⟩,f7,f8⟩⟩
    | exit id =>
     obtain ⟨L,hL,hr⟩:=hp;obtain ⟨W5,f1,f2,f3,f4,_,f6,f7,f8⟩:=fin (some (.exit id)) hr;exact ⟨_,_,f1,.inr ⟨rfl,⟨⟨.exit id,.inr ⟨id,L,rfl,hL,f2⟩,f3,f4⟩,f6⟩,f7,f8⟩⟩
    | goto t=>exact hp.elim
    | panic ch=>exact hp.elim
    | outgrown=>exact hp.elim
   | exit id=>exact hq.elim
   | goto t=>exact hq.elim
   | ret=>exact hq.elim
   | panic ch=>exact hq.elim
   | outgrown=>exact hq.elim
  ·have fin:∀ {L:List Lc}{W:World}{st:LoopState}{pe:Option Code},st≠.busy→St B w0 N Γ L a W→W.heap[w.heap.size+1]?=some (.loop (rec st pe))→W.heap[w.heap.size]?=some (.deferred (some []))→∃ W',(Instr.endLoop (w.heap.size+1)).run P W=.ok pe W'∧St B w0 N Γ L { a with defers:=[mark w.heap.size]++a.defers } W':=λ {L W st pe} U hs hl hd=>by
    have hrun:=run_endLoop (P:=P) hl (by rw [hrec];exact U);have hpe:(rec st pe).pending=pe:=by rw [hrec]
    refine ⟨W.putObj (w.heap.size+1) (.loop { rec st pe with state:=.exhausted }),hrun.trans (qt (λ x=>Result.ok x _) hpe),?_⟩;have h5:=hs.put (o':=.loop { rec st pe with state:=.exhausted }) hl rfl (by simp) zo;refine ⟨h5.lo,⟨λ d hd'=>?_,?_,λ hn=>by rw [hN0] at hn;cases hn⟩,h5.size,h5.base,h5.vals,h5.locs,h5.dis⟩
    ·rcases qr.1 hd' with rfl|hd'
     ·exact ⟨_,rfl,.inl hws,(World.putObj_heap_other zo).trans hd⟩
     ·exact h5.defers.all d hd'
    ·refine jj.2 ⟨λ hm=>?_,h5.defers.nodup⟩;obtain ⟨D,e1,_,e3⟩:=h.defers.all _ hm;have e1':w.heap.size=D:=by
      have:=qt Deferred.target e1;simpa using this
     rw [← e1'] at e3;have:=(Array.getElem?_eq_some_iff.1 e3).1;omega
   rintro e W ⟨v,rfl,(⟨hi,⟨⟨hs,hl,hd⟩,_⟩,_⟩|⟨⟨c,hc,hl,hd⟩,_⟩)⟩
   ·obtain ⟨W',f1,f2⟩:=fin (by simp) hs hl hd;exact ⟨none,W',f1,hdone _ _ _ f2⟩
   ·rcases hc with ⟨rfl,L,hL,hs⟩|⟨id,L,rfl,hL,hs⟩
    ·obtain ⟨W',f1,f2⟩:=fin (by simp) hs hl hd;exact ⟨some .ret,W',f1,wpIn_ret (hret L hL _ _ f2)⟩
    ·obtain ⟨W',f1,f2⟩:=fin (by simp) hs hl hd;exact ⟨some (.exit id),W',f1,wpIn_exit (hexit id L hL _ _ f2)⟩
end
def kdB (B lo hi:Nat)(Tp Db:List TypeId)(gs:List Nat)(W:World):Bs:=⟨W,λ k=>k∈gs∨(lo≤k∧k<hi∧∃ c T fz,W.heap[k]?=some (.cells c T fz)∧T∈Tp)∨(B≤k∧∃ c T fz,W.heap[k]?=some (.cells c T fz)∧T∈Db),true⟩
abbrev KD (B lo hi:Nat)(Tp Db:List TypeId)(gs:List Nat)(W W':World):Prop:=Kept (kdB B lo hi Tp Db gs W) W'
theorem BC {B lo hi:Nat}{Tp Db:Yq}{gs:Ya}{W:Yi}:KD B lo hi Tp Db gs W W:=Kept.refl _
theorem BE {B lo hi:Nat}{Tp Db:Yq}{gs:Ya}{W W' W'':Yi}(h:KD B lo hi Tp Db gs W W')(hg:Grow W' W''):KD B lo hi Tp Db gs W W'':=h.grow hg
theorem BB {B lo hi:Nat}{Tp Db:Yq}{gs:Ya}{W W':Yi}(h:StpV lo hi Tp gs W W'):KD B lo hi Tp Db gs W W' :=
 ⟨h.os,h.tape,h.output,h.size,λ k hk hf=>h.block k hk λ hF=>hf (by
  rcases hF with hF|hF
  ·exact .inl hF
  ·exact .inr (.inl hF))⟩
theorem VA.kd {A:VA}{B lo hi:Nat}{Tp Db Tc:Yq}{gs:Ya}{W W':Yi}(hp:A.p B v W)(h:KD B lo hi Tp Db gs W W')(hlo:B≤lo)(hc:CellsT Tc gs W)(hb:∀ g∈gs,B≤g)(hD:offD (Tc++Tp++Db) A.deps=true):A.p B v W':=by
 have hD:=fk hD;refine VA.many (gs++(List.range W.heap.size).filter λ k=>match (W.heap[k]?:Option Obj) with|some (Obj.cells _ T _)=>(Tp++Db).contains T&&decide (B≤k) | _=>false) hp h.os h.tape h.output h.size (λ k c T fz hk hn=>?_) (λ g hg=>?_)
 ·have hin:∀ T',(∃ c T fz,W.heap[k]?=some (.cells c T fz)∧T=T')→T'∈Tp++Db→B≤k→k∈gs++(List.range W.heap.size).filter λ k=>match (W.heap[k]?:Option Obj) with|some (Obj.cells _ T _)=>(Tp++Db).contains T&&decide (B≤k) | _=>false:=λ T' ⟨c',T'',fz',h3,e⟩ hT hB=>by
   refine qn.2 (.inr (z5.2 ⟨by simpa using (Array.getElem?_eq_some_iff.1 hk).1,?_⟩));rw [h3];subst e;simp only [qo,qB,qK];exact ⟨hT,hB⟩
  refine h.block k (Array.getElem?_eq_some_iff.1 hk).1 λ hF=>hn ?_;rcases hF with hF|⟨h1,h2,c',T',fz',h3,h4⟩|⟨h1,c',T',fz',h3,h4⟩
  ·exact qn.2 (.inl hF)
  ·exact hin T' ⟨c',T',fz',h3,rfl⟩ (qn.2 (.inl h4)) (qf hlo h1)
  ·exact hin T' ⟨c',T',fz',h3,rfl⟩ (qn.2 (.inr h4)) h1
 ·rcases qn.1 hg with hg|hg
  ·obtain ⟨c,T,fz,h1,h2⟩:=hc g hg;exact ⟨hb g hg,c,T,fz,h1,hD T (qn.2 (.inl (qn.2 (.inl h2))))⟩
  ·obtain ⟨_,h2⟩:=z5.1 hg;split at h2
   ·rename_i c T fz h3;simp only [qo,qB,qK,qn] at h2;refine ⟨h2.2,c,T,fz,h3,hD T ?_⟩;rcases h2.1 with h4|h4
    ·exact qn.2 (.inl (qn.2 (.inr h4)))
    ·exact qn.2 (.inr h4)
   ·cases h2
def bm (W:World):Bs:=⟨W,λ _=>False,true⟩
theorem St.anew {B lo hi N:Nat}{a a':Act}{W W':Yi}{Tp Db Tc:Yq}{gs:Ya}(src:Ya)(h:St B w0 N Γ Λ a W)(hnd:w0.nd=true)(hk:KD B lo hi Tp Db gs W W')(hlo:B≤lo)(hc:CellsT Tc gs W)(hb:∀ g∈gs,B≤g)
  (hsrc:src.all (λ k=>match Γ[k]? with|some y=>offD (Tc++Tp++Db) y.2.deps|none=>false)=true) (ha:∀ k∈src,∀ y,Γ[k]?=some y→a'.eval (.tmp y.1)=a.eval (.tmp y.1)) (hd:a'.defers=a.defers) (hs:a'.tmps.size=a.tmps.size):St B (bm W') N (src.filterMap λ k=>Γ[k]?) [] a' W':=by
 have hBW:B≤W.heap.size:=qf (h.lo _ (.inl (qh _))) h.base.size;refine ⟨λ g hg=>?_,DefOk.nil (hd.trans (h.defers.none hnd)),hs.trans h.size,Kept.refl _,λ x hx=>?_,(λ _ h=>by cases h),(λ _ h=>by cases h)⟩
 ·rcases hg with hg|hg
  ·exact qf hBW (qf hk.size hg)
  ·exact hg.elim
 ·obtain ⟨k,hk1,hk2⟩:=qH.1 hx;have hs':=qe.1 hsrc k hk1;rw [hk2] at hs';rw [ha k hk1 x hk2];exact VA.kd (h.vals x (qa hk2)) hk hlo hc hb hs'
section
variable {P:Program}{Q:Exit→Act→World→Prop}{ops:Array Oper}{i:Nat}{K:Act→World→Prop}{a:Act}{w:World}
theorem tB {d c : Nat}{f : Yn}{xs : Ys}{gs : Ym}{at_ : Yr}{T : Yh}{ps : Yv}{af : Yw}{R : Ending→Yi→Prop} (ho : ops[i]? = some ⟨some d, .call ⟨.value (.tmp c), xs.toArray, at_⟩, T, ps, af, none⟩) (hex : ∃ fn, P.funcs[f]? = some fn∧(fn.name == "runtime.NumGoroutine")=false∧fn.body.isNone=false)
  (hv:a.eval (.tmp c)=.func (.func f) #[] gs.toArray) (hc:Calls P f (xs.map a.eval++gs).toArray w R) (hK:∀ e w',R e w'→∃ v,e=.returned v∧K (a.put (some d) v) w'):wpOp P ops Q i K a w:=by
 obtain ⟨fn,hf,hn,hb⟩:=hex;have hrun:(execOp a.eval ⟨some d,.call ⟨.value (.tmp c),xs.toArray,at_⟩,T,ps,af,none⟩).run P w=.ok (.enter f (xs.map a.eval++gs).toArray) w:=by
  simp only [execOp,resolve,hv,Deferred.ofValue,Sem.run_bind,Sem.run_pure,Result.andThen_ok,invoke,bb hf hn hb];simp
 unfold wpOp;simp only [ho,Region.wanted,if_true];refine .inl ?_;unfold Oper.wp;rw [hrun];exact hc.mono λ e w' hr=>by
  obtain ⟨v,rfl,hk⟩:=hK e w' hr;exact hk
end
section
open Rg
variable {P:Program}{Q:Exit→Act→World→Prop}{B N:Nat}{w0:Bs}{Γ:List (Nat × VA)}{Λ:List Lc}{a:Act}{w:World}
theorem EH {id:Nat}{ops:Yg}{sp:Yu}(n m e j:Nat)(A:As)(src:List Src)
  (hnd:fo ops=true) (hQ0:¬ LetsOut Q) (h:St B w0 N Γ Λ a w) (hob:Obs P Q ⟨ops,N,Γ,lesS Λ e j A,sp,λ i=>List.range i⟩ B w0 0 n) (hsz:ops.size=n+m) (hj:n≤j) (hk:Rg.chk ⟨ops,N,Γ,lesS Λ e j A,sp,λ i=>List.range i⟩=true)
  (hsrc:src.all (λ s=>match s with | .g k=>(match Γ[k]? with|some x=>Rg.outG ⟨ops,N,Γ,lesS Λ e j A,sp,λ i=>List.range i⟩ x.1|none=>false) | .o i=>decide (i<n))=true)
  (hQ:∀ a' w',St B w0 N (src.filterMap (cA ⟨ops,N,Γ,lesS Λ e j A,sp,λ i=>List.range i⟩)) Λ a' w'→wpOpsIn (fw none) 0 P ops Q (List.range' n m) a' w'):(Code.region id ops false).wpIn (fw none) 0 P Q a w:=by
 refine Rg.linKF (R:=⟨ops,N,Γ,lesS Λ e j A,sp,λ i=>List.range i⟩) (m:=m) hnd hQ0 hsz G hk h (λ y hy _=>?_) (λ i hi=>hob.all i zo zo) λ a1 w1 hinv=>?_
 ·exact (eO y hy).2.1
 ·exact hQ a1 w1 (mp (λ l' hl'=>by
   obtain ⟨j',hj'⟩:=List.getElem?_of_mem hl';exact ⟨_,qp.2 ⟨(l',j'),zj.2 hj',rfl⟩⟩) (λ y hy i B' h1=>by have:=(eO y hy).2.2 i B' h1;omega) hinv src hsrc)
theorem AU {ops:Yg}{i d c l:Nat}{xs:Ys}{at_:Yr}{K:Ye}{R:Ending→Yi→Prop}(ho:ops[i]?=some ⟨some d,.call ⟨.value (.tmp c),xs.toArray,at_⟩,T,ps,af,none⟩)
  (hv:a.eval (.tmp c)=.func (.yield l) #[] #[]) (hy:YieldAt Fence.wide 0 P l (xs.map a.eval).toArray w R) (hK:∀ e w',R e w'→∃ v,e=.returned v∧K (a.put (some d) v) w'):wpOpIn (fw none) 0 P ops Q i K a w:=by
 obtain ⟨fn,tmps,assign,body,hy,hR⟩:=hy;have hrun:(execOp a.eval ⟨some d,.call ⟨.value (.tmp c),xs.toArray,at_⟩,T,ps,af,none⟩).run P w=.ok (.round l fn tmps assign body) w:=by
  have hy':(Instr.yield l (xs.map a.eval).toArray).run P w=.ok (.round l fn tmps assign body) w:=hy;simp only [execOp,resolve,hv,Deferred.ofValue,Sem.run_bind,Sem.run_pure,Result.andThen_ok,invoke];simpa using hy'
 have hwant:Region.wanted (⟨some d,.call ⟨.value (.tmp c),xs.toArray,at_⟩,T,ps,af,none⟩:Oper) (yielded ops a.tmps)=true:=rfl
 unfold wpOpIn;rw [ho];simp only [hwant,if_true];refine ⟨λ _ _=>trivial,?_⟩;rw [show Oper.semAt (fw none).round a.eval _=execOp a.eval _ from rfl,hrun];refine ⟨λ hh=>(by cases hh),?_⟩;refine RoundIn.mono hR ?_;intro e w' hr;obtain ⟨v,rfl,hk⟩:=hK e w' hr;exact hk
theorem AW {ops:Yg}{i e d:Nat}{K:Ye}{b:Bool}(ho:ops[i]?=some ⟨some e,.assign (.tmp d),T,ps,af,none⟩)(hv:a.eval (.tmp d)=.bool b)(hK:K (a.put (some e) (.bool b)) w):wpOpIn (fw none) 0 P ops Q i K a w:=by
 have hwant:Region.wanted (⟨some e,.assign (.tmp d),T,ps,af,none⟩:Oper) (yielded ops a.tmps)=true:=rfl;unfold wpOpIn;rw [ho];simp only [hwant,if_true];refine ⟨λ _ _=>trivial,?_⟩;rw [show Oper.semAt (fw none).round a.eval _=execOp a.eval _ from rfl,O7 a w b hv];exact hK
theorem Hs {c:Code}(h:c.wpIn (fw none) 0 P Q a w):c.wp P Q a w:=wpIn_wide.1 h
end
def PkR (E:TypeId)(hp:Nat)(w:World)(q:List Int):Prop:=w.heap[hp]?=some (.cells (q.map λ (n:Int)=>Value.int .i64 n).toArray E (0,0))
theorem rF {lo hi g:Nat}{Tp:Yq}{gs:Ya}{c:Array Yo}{fz:Nat × Nat}(h:Wr g w w')(hg:w.heap[g]?=some (.cells c T fz))(h1:lo≤g)(h2:g<hi)(hT:T∈Tp):StpV lo hi Tp gs w w' :=
 ⟨h.os,h.tape,h.output,xK h.size.symm,λ k hk hf=>h.block k λ e=>hf (by subst e;exact .inr ⟨h1,h2,c,T,fz,hg,hT⟩)⟩
section
variable {P:Program}{Q:Exit→Act→World→Prop}{ops:Array Oper}{i:Nat}{K:Act→World→Prop}{a:Act}{w:World}
theorem IK {p d hp j:Nat}{k:Int}{E ty T':Yh}{q:Yl}(ho:ops[i]?=some ⟨none,.store ty (.tmp p) (.tmp d),T',ps,af,none⟩)(hpv:a.eval (.tmp p)=.pointer (some ⟨hp,j,none⟩))(hdv:a.eval (.tmp d)=.int .i64 k)
  (hq:PkR E hp w q) (hj:j<q.length) (ht:Ty P ty 1 false) (hK:∀ w',PkR E hp w' (q.set j k)→Wr hp w w'→K (a.put none undef) w'):wpOp P ops Q i K a w:=by
 unfold PkR at hq;have hrun:=bT ht w hp j E (q.map λ (n:Int)=>Value.int .i64 n).toArray (.int .i64 k) [.int .i64 k] rfl rfl (by simp;omega) (by intro x hx;simp at hx;subst hx;rfl) hq;have e3:(((q.map λ (n:Int)=>Value.int .i64 n).take j)++[Value.int .i64 k]++((q.map λ (n:Int)=>Value.int .i64 n).drop (j+1)))=(q.set j k).map λ (n:Int)=>Value.int .i64 n:=by
  rw [List.map_set,xA,qC (by simpa using hj)];simp
 simp only [e3] at hrun;unfold wpOp;simp only [ho,Region.wanted,if_true];refine .inl (wp_skip' (w':=w.setRow hp ((q.set j k).map λ (n:Int)=>Value.int .i64 n).toArray) ?_ (hK _ ?_ (Wr.setRow w hp _)))
 ·simp [execOp,hpv,hdv,Instr.storeAt,Instr.sureAddr,hrun]
 ·exact setRow_heap w hp _ _ _ _ hq
end
structure DnE where
 l:Nat
 B:Nat
 lo:Nat
 hi:Nat
 hp:Nat
 n:Nat
 gT:Nat
 gP:Nat
 gY:Nat
 gA:Nat
 gD:Nat
 t:RTk
 ah:List Nat
 Db:List TypeId
 gs:List Nat
 M:Nat
 J:Nat→World→Prop
 Jx:World→Prop
def DnE.cap (e:DnE):List Value:=[ptr e.gT,ptr e.gP,ptr e.gY,ptr e.gA,ptr e.gD]
def DnE.pk (e:DnE)(k:Nat):List Nat:=exW e.t.ps.length e.ah e.n 0 k
def dnK (i:Nat):Nat:=1+4097*(2*i)
def DnE.F (e:DnE)(w:World):Prop :=
 (ElP 30 (TkO e.t)).p e.B (ptr e.gT) w∧(ElP 34 (EqA (.slice (some ⟨e.hp,0,none⟩) e.n e.n))).p e.B (ptr e.gP) w∧(ElP 114 (EqA (.func (.yield e.l) #[] #[]))).p e.B (ptr e.gY) w ∧
  (ElP 34 (SlO 3 [] (e.ah.map λ (k:Nat)=>InA (k:Int)) True)).p e.B (ptr e.gA) w∧(ElP 115 (EqA (.func (.func 106) #[] e.cap.toArray))).p e.B (ptr e.gD) w
def DnE.Y (e:DnE)(k:Nat):List VA:=[(WyA (dnK (e.n+2)+4200) (wayW e.t (e.pk k))).va]
structure DnE.Ok (e:DnE):Prop where
 lo:e.B≤e.lo
 gs:∀ g∈e.gs,e.B≤g
 hp:e.lo≤e.hp∧e.hp<e.hi
 ck:ckF e.t=0
 n:e.t.sp.length=e.n+1
 ah:e.ah.length≤e.n∧∀ x∈e.ah,x<e.t.ps.length
 M:e.M=cntW e.t.ps.length e.ah.length e.n 0
 Db:offD e.Db [30,34,114,115,U32,28,117]=true
 st:∀ k W W',k<e.M→e.J k W→StpV e.lo e.hi [3] e.gs W W'→CellsT [30,34] e.gs W'→e.J k W'
 stM:∀ W W',e.J e.M W→StpI e.gs W W'→CellsT [30,34] e.gs W'→e.J e.M W'
 stx:∀ W W',e.Jx W→StpI e.gs W W'→CellsT [30,34] e.gs W'→e.Jx W'
 ct:∀ k W,e.J k W→CellsT [30,34] e.gs W
 ctx:∀ W,e.Jx W→CellsT [30,34] e.gs W
 yd:∀ k W args,k<e.M→e.J k W→All2 (λ (A:VA) v=>A.p e.B v W) (e.Y k) args→YieldAt Fence.wide 0 Tryz.prog e.l args.toArray W λ x W'=>(x=.returned (.bool true)∧e.J (k+1) W'∧Stp e.B e.Db (e.gs++List.range' e.lo (e.hi-e.lo)) W W') ∨
  (x=.returned (.bool false)∧e.Jx W'∧W.heap.size≤W'.heap.size∧∀ D:Nat,W.heap[D]?=some (.deferred (some []))→W'.heap[D]?=some (.deferred (some [])))
def DnC (e:DnE)(f i:Nat):Prop:=∀ (pre:List Nat) (k:Nat) (w:World) (q:List Int) (vr:Value),pre.length=i→i+f=e.n→(∀ x∈pre,x<e.t.ps.length) →
 (∀ r,r<cntW e.t.ps.length e.ah.length f i→e.pk (k+r)=pre++exW e.t.ps.length e.ah f i r)→k+cntW e.t.ps.length e.ah.length f i≤e.M→e.J k w→e.F w→PkR 3 e.hp w q→q.length=e.n→q.take i=pre.map (λ (x:Nat)=>(x:Int)) →
 (CoA (dnK i) (dQ (benP e.t pre))).va.p e.B vr w →
 Calls Tryz.prog 106 ([.int .i64 (i:Nat),.int .i64 (cosW e.t pre),vr]++e.cap).toArray w λ x w' =>
  (x=.returned (.bool true)∧e.J (k+cntW e.t.ps.length e.ah.length f i) w'∧KD e.B e.lo e.hi [3] e.Db [] w w'∧∃ q',PkR 3 e.hp w' q'∧q'.length=e.n∧q'.take i=q.take i)∨(x=.returned (.bool false)∧e.Jx w'∧w.heap.size≤w'.heap.size)
theorem DnE.F.kd {e:DnE}(ok:e.Ok){w w':Yi}(h:e.F w)(hk:KD e.B e.lo e.hi [3] e.Db [] w w'):e.F w':=by
 obtain ⟨h1,h2,h3,h4,h5⟩:=h;have hD:∀ T∈e.Db,T ∉ [30,34,114,115,U32,28,117]:=fk ok.Db;have key:∀ {deps:List TypeId},deps.all (λ T=>[30,34,114,115,U32,28,117].contains T)=true→offD ([]++[3]++e.Db) deps=true:=λ {deps} hd=>qe.2 λ T hT=>by
  have hd':=qe.1 hd T hT;have hm:T∈[30,34,114,115,U32,28,117]:=by simpa using hd'
  have hn:T ∉ []++[3]++e.Db:=λ hh=>by
   rcases qn.1 hh with hh|hh
   ·have:T=3:=by simpa using hh
    subst this;exact absurd hm zd
   ·refine hD T hh ?_;simp only [qr,zF,or_false] at hm ⊢;rcases hm with h|h|h|h|h|h|h <;> simp [h]
  simpa using hn
 have hv:=λ {A:VA}{v:Value} (hp:A.p e.B v w) (hd:A.deps.all (λ T=>[30,34,114,115,U32,28,117].contains T)=true)=>VA.kd (Tc:=[]) hp hk ok.lo (λ g hg=>by cases hg) (λ g hg=>by cases hg) (key hd);exact ⟨hv h1 zk,hv h2 zk,hv h3 zk,hv h4 zk,hv h5 zk⟩
theorem Nh {t:RTk}{l:Ya}(h:(benP t l).all elF=true):RepM (1+4097*(benP t l).length) (dQ (benP t l)):=by
 have:=nX h (benP t l).length (qh _);rwa [qJ] at this
theorem uJ (t:RTk):∀ l:Ya,(benP t l).length=2*l.length:=λ l=>by
 unfold benP;rw [List.length_flatMap];have h:∀ m:Nat,((List.range m).map λ _=>2).sum=2*m:=λ m=>by
  induction m with
  | zero=>rfl
  | succ m ih=>rw [List.range_succ,zT,wu,ih];simp;omega
 exact h l.length
theorem eP {B lo hi:Nat}{Tp Db:Yq}{gs:Ya}{W W' W'':Yi}(h:KD B lo hi Tp Db gs W W')(h':KD B lo hi Tp Db gs W' W''):KD B lo hi Tp Db gs W W'':=by
 refine ⟨h'.os.trans h.os,h'.tape.trans h.tape,h'.output.trans h.output,qf h.size h'.size,λ k hk hf=>?_⟩;have hk1:k<W.heap.size:=hk;have e1:W'.heap[k]?=W.heap[k]?:=h.block k hk hf;refine (h'.block k (qF hk1 h.size) λ hF=>hf ?_).trans e1;rcases hF with hF|⟨h1,h2,c,T,fz,h3,h4⟩|⟨h1,c,T,fz,h3,h4⟩
 ·exact .inl hF
 ·exact .inr (.inl ⟨h1,h2,c,T,fz,e1.symm.trans h3,h4⟩)
 ·exact .inr (.inr ⟨h1,c,T,fz,e1.symm.trans h3,h4⟩)
theorem St.entry {B N:Nat}{pre:Yc}{args:Ym}(hB:B≤w.heap.size)(ha:All2 (λ (A:VA) v=>A.p B v w) pre args)(hn:pre.length≤N):St B (bm w) N (argΓ pre) [] { tmps:=args.toArray++Array.replicate (N-args.toArray.size) undef,defers:=[] } w:=by
 have hl:=ha.length;refine ⟨λ g hg=>qf hB (hg.resolve_right λ h=>h),DefOk.nil rfl,?_,Kept.refl _,All2.args ha,(λ l hl=>by cases hl),(λ l hl=>by cases hl)⟩;simp only [xj,z7,qO];omega
theorem dn_s {e:DnE}(ok:e.Ok){i:Nat}(hi:i≤e.n):∃ h:i<e.t.sp.length,okX e.t.sp[i]=true∧elF (spE e.t.sp[i])=true:=by
 have hlt:i<e.t.sp.length:=by rw [ok.n];omega
 refine ⟨hlt,?_⟩;have hc:=ok.ck;unfold ckF at hc;have h0:hdF e.t=false:=by
  by_cases h:hdF e.t=true
  ·rw [qC h] at hc;exact absurd hc zd
  ·exact xI.2 h
 rw [qy (by rw [h0];decide)] at hc;have h1:e.t.sp.all spcF=true:=by
  by_cases h:e.t.sp.all spcF=true
  ·exact h
  ·rw [qC (by rw [xI.2 h];rfl)] at hc;exact absurd hc zd
 have h2:=qe.1 h1 _ (qg hlt);unfold spcF at h2;simp only [qz,qN,qm] at h2;have h3:okX e.t.sp[i]=true:=by
  by_cases h:okX e.t.sp[i]=true
  ·exact h
  ·have:=h2.1;rw [qy h] at this;exact absurd this zd
 refine ⟨h3,?_⟩;unfold elF spE;rw [qo];refine ⟨?_,?_⟩
 ·simp only [jf,jt,jg,qo];exact ⟨h3,by kernel_rfl⟩
 ·show elK 1 _ _=true;rw [kd1 (by rfl)];rw [qo];refine ⟨qE (show (toQ e.t.sp[i]).num.sign≥0 from by have:=h2.2;omega),by kernel_rfl⟩
theorem gh {t:RTk}(h:ckF t=0):hdF t=false∧t.sp.all spcF=true∧t.ps.all ptF=true:=by
 unfold ckF at h;by_cases h0:hdF t=true
 ·rw [qC h0] at h;exact absurd h zd
 ·rw [qy h0] at h;by_cases h1:t.sp.all spcF=true
  ·rw [qy (by rw [h1];decide)] at h;by_cases h2:t.ps.all ptF=true
   ·exact ⟨xI.2 h0,h1,h2⟩
   ·rw [qC (by rw [xI.2 h2];rfl)] at h;exact absurd h zd
  ·rw [qC (by rw [xI.2 h1];rfl)] at h;exact absurd h zd
theorem dn_p {t:RTk}(h:ckF t=0){x:Nat}(hx:x<t.ps.length):elF (t.ps.getD x ⟨⟨#[]⟩,⟨0,rf0,rf0⟩,0⟩).e=true:=by
 have h1:=qe.1 (gh h).2.2 _ (qg hx);unfold ptF at h1;simp only [qz,qN] at h1;have h2:chF [t.ps[x].e]=0:=by simpa using h1.1.1.2
 have h3:=(PO h2).2;rw [show t.ps.getD x ⟨⟨#[]⟩,⟨0,rf0,rf0⟩,0⟩=t.ps[x] from by simp [List.getD,hx]];simpa using h3
theorem Ni {e:DnE}(ok:e.Ok){l:Ya}(hl:l.length≤e.n)(hp:∀ x∈l,x<e.t.ps.length):(benP e.t l).all elF=true:=by
 rw [qe];intro y hy;unfold benP at hy;obtain ⟨i,hi,hy⟩:=kY.1 hy;have hi':i<l.length:=jI.1 hi;simp only [qr,zF,or_false] at hy;rcases hy with rfl|rfl
 ·obtain ⟨hlt,_,h⟩:=dn_s ok (i:=i) zo;rw [show e.t.sp.getD i rf0=e.t.sp[i] from by simp [List.getD,hlt]];exact h
 ·refine dn_p ok.ck ?_;rw [show l.getD i 0=l[i] from by simp [List.getD,hi']];exact hp _ (qg hi')
theorem dn_m {e:DnE}(ok:e.Ok){l:Ya}(hl:l.length≤e.n)(hp:∀ x∈l,x<e.t.ps.length):RepM (dnK l.length) (dQ (benP e.t l)):=by
 have h:=Nh (Ni ok hl hp);rw [uJ] at h;exact h
theorem dn_n {e:DnE}(ok:e.Ok):1≤e.n∧e.n≤12:=by
 have:=hd_b (gh ok.ck).1;have:=ok.n;omega
theorem dn_K {e:DnE}(ok:e.Ok){i:Nat}(hi:i≤e.n):dnK i≤200000:=by
 have:=(dn_n ok).2;unfold dnK;omega
theorem lT:Str Tryz.prog 71 [EqA (.slice none 0 0),RFA rf0,RFA rf0,NumA .i64 0] :=
 Str.of (z:=.agg #[.slice none 0 0,.bool false,.slice none 0 0,.bool false,.slice none 0 0,.bool false,.slice none 0 0,.bool false,.slice none 0 0,.int .i64 0]) zk Tryz.underlying71 zk λ B w=>⟨[[.slice none 0 0],[.bool false,.slice none 0 0,.bool false,.slice none 0 0],[.bool false,.slice none 0 0,.bool false,.slice none 0 0],[.int .i64 0]],rfl,.cons ⟨rfl,rfl⟩ (.cons (eI B w) (.cons (eI B w) (.cons rfl .nil)))⟩
theorem G2 (x:RF)(m:MQ):m.a+toQ x*m.c=(mulQ (elM (spE x)) m).a∧m.c=(mulQ (elM (spE x)) m).c:=by
 rw [Lo (x:=spE x) rfl];constructor
 ·show m.a+toQ x*m.c=1*m.a+toQ x*m.c;rw [jU]
 ·show m.c=0*m.a+1*m.c;rw [vp,jU,Rat.zero_add]
theorem mI {f:Yn}{fn:Func}{c:Code}{R:Ending→Yi→Prop}(pre:Yc){args:Ym}(hf:P.funcs[f]?=some fn)(hb:fn.body=some c)(hB:B≤w.heap.size)(ha:All2 (λ (A:VA) v=>A.p B v w) pre args)(hn:pre.length≤fn.ntmps)
  (h:∀ (w0:Bs) (a:Act),w0=bm w→St B w0 fn.ntmps (argΓ pre) [] a w→c.wp P (bZ P fn R) a w):Calls P f args.toArray w R:=c8 hf hb (h _ _ rfl (St.entry hB ha hn))
section
open Rg
variable {P:Program}{Q:Exit→Act→World→Prop}{R:Rg}{B i:Nat}{w0:Bs}
theorem LT {x:Yj}{S E':Yh}{A:Option Addr}{n c:Nat}(hS:P.underlying S=some (.slice E'))(hx:Has R B w0 i x (EqA (.slice A n c)).va):Wv P Q R B w0 i (.call ⟨.builtin .len,#[x],#[S]⟩) (In (n:Nat)) :=
 bj λ d T ps af gd a w av=>by
  have hv':a.eval x=.slice A n c:=lh (hx a w av);refine ⟨.int .i64 n,w,?_,Grow.refl w,bS _ _ _ _⟩;simp [execOp,resolve,invoke,builtin,hv',Builtin.len_,run_underlying hS,goInt]
end
theorem BO {lo hi:Nat}{Tp:Yq}{gs:Ya}(h:Grow w w'):StpV lo hi Tp gs w w':=⟨h.os,h.tape,h.output,h.size,λ k hk _=>h.block k hk⟩
theorem d5 {gs:Ya}(h:Grow w w'):StpI gs w w':=⟨h.os,h.tape,h.output,h.size,λ k hk _=>h.block k hk⟩
theorem CellsT.grow {Tc:Yq}{gs:Ya}(h:CellsT Tc gs w)(hg:Grow w w'):CellsT Tc gs w':=λ g hm=>by
 obtain ⟨c,T,fz,h1,h2⟩:=h g hm;exact ⟨c,T,fz,hg.heap h1,h2⟩
theorem bH (h:Kept (bm w) w'):Grow w w':=⟨h.os,h.tape,h.output,h.size,λ k hk=>h.block k hk (λ h=>h)⟩
theorem BD {B lo hi:Nat}{Tp Db:Yq}{gs:Ya}(h:Grow w w'):KD B lo hi Tp Db gs w w':=BE BC h
theorem eJ {E:Yh}{hp:Nat}{q:Yl}(h:PkR E hp w q)(hg:Grow w w'):PkR E hp w' q:=hg.heap h
theorem DnE.F.grow {e:DnE}{w w':Yi}(h:e.F w)(hg:Grow w w'):e.F w':=by
 obtain ⟨h1,h2,h3,h4,h5⟩:=h;exact ⟨VA.grow _ _ _ _ _ hg h1,VA.grow _ _ _ _ _ hg h2,VA.grow _ _ _ _ _ hg h3,VA.grow _ _ _ _ _ hg h4,VA.grow _ _ _ _ _ hg h5⟩
theorem DnE.Ok.grow {e:DnE}(ok:e.Ok){k:Nat}{w w':Yi}(hk:k≤e.M)(hJ:e.J k w)(hg:Grow w w'):e.J k w':=by
 have hc:=(ok.ct k w hJ).grow hg;by_cases h:k=e.M
 ·rw [h] at hJ ⊢;exact ok.stM _ _ hJ (d5 hg) hc
 ·exact ok.st _ _ _ zo hJ (BO hg) hc
theorem DnE.Ok.growx {e:DnE}(ok:e.Ok)(hJ:e.Jx w)(hg:Grow w w'):e.Jx w':=ok.stx _ _ hJ (d5 hg) ((ok.ctx w hJ).grow hg)
def DnE.R (e:DnE)(f i k:Nat)(q:List Int)(w:World):Ending→World→Prop:=λ x w' =>
 (x=.returned (.bool true)∧e.J (k+cntW e.t.ps.length e.ah.length f i) w'∧KD e.B e.lo e.hi [3] e.Db [] w w'∧∃ q',PkR 3 e.hp w' q'∧q'.length=e.n∧q'.take i=q.take i)∨(x=.returned (.bool false)∧e.Jx w'∧w.heap.size≤w'.heap.size)
theorem DnE.R.grow {e:DnE}(ok:e.Ok){f i k:Nat}{q:Yl}{w:Yi}{x:Ending}{w1 w2:Yi}(hk:k+cntW e.t.ps.length e.ah.length f i≤e.M)(h:e.R f i k q w x w1)(hg:Grow w1 w2):e.R f i k q w x w2:=by
 rcases h with ⟨h1,h2,h3,q',h4,h5⟩|⟨h1,h2,h3⟩
 ·exact .inl ⟨h1,ok.grow hk h2 hg,BE h3 hg,q',eJ h4 hg,h5⟩
 ·exact .inr ⟨h1,ok.growx h2 hg,qf h3 hg.size⟩
theorem St.bare {B N:Nat}(h:St B w0 N Γ Λ a w)(hnd:w0.nd=true)(hs:w.heap.size≤w'.heap.size):St B (bm w') N [] [] a w':=by
 have hBW:B≤w.heap.size:=qf (h.lo _ (.inl (qh _))) h.base.size;refine ⟨λ g hg=>?_,DefOk.nil (h.defers.none hnd),h.size,Kept.refl _,(λ _ h=>by cases h),(λ _ h=>by cases h),(λ _ h=>by cases h)⟩;rcases hg with hg|hg
 ·exact qf hBW (qf hs hg)
 ·exact hg.elim
theorem St.ofPtr {B N:Nat}(h:St B w0 N Γ Λ a w){s:Nat}{A:As}(k:Nat)(hm:Λ[k]?=some ⟨s,T,ptrH,A⟩):St B w0 N ((s,ElP T A)::Γ) (Λ.eraseIdx k) a w:=by
 have hsub:∀ l'∈Λ.eraseIdx k,l'∈Λ:=λ l' hl'=>xG hl';refine ⟨h.lo,h.defers,h.size,h.base,λ x hx'=>?_,λ l' hl'=>h.locs l' (hsub l' hl'),λ l1 h1 l2 h2 hne=>h.dis l1 (hsub l1 h1) l2 (hsub l2 h2) hne⟩;rcases qr.1 hx' with rfl|hx'
 ·obtain ⟨g,cs,h1,_,h3,h4⟩:=h.locs _ (qa hm);refine ⟨g,0,cs,h1,(Array.getElem?_eq_some_iff.1 h3).1,.inr ⟨_,_,h3⟩,h4,λ j v hv=>?_⟩;rw [qV,cell_of_row w g j cs.toArray T _ h3];simpa using hv
 ·exact h.vals x hx'
theorem um {fn:Func}{R:Ending→Yi→Prop}{B N t:Nat}{b:Bool}(hr:fn.results = #[.tmp t])(h:St B w0 N Γ Λ a w)(hnd:w0.nd=true)(hm:(t,Bo b)∈Γ)(hR:R (.returned (.bool b)) w)(hg:∀ x w1 w2,R x w1→Grow w1 w2→R x w2):bZ P fn R .ret a w:=by
 refine ⟨[],h.defers.none hnd,.nil,(λ _ h=>by cases h),λ w' hs=>⟨_,results_tmp hr a.tmps P w',?_⟩⟩;have e:a.tmps.getD t undef=.bool b:=dG (h.vals _ hm);rw [e];exact hg _ _ _ hR ⟨hs.os,hs.tape,hs.output,xK hs.size.symm,λ k _=>hs.block k (by simp)⟩
theorem cQ {B:Nat}{w:Yi}:∀ (ws:Yl),(cat (ws.map InA)).p B (ws.map λ (n:Int)=>Value.int .i64 n) w
 | []=>⟨[],rfl,.nil⟩
 | n::ws=>by
  obtain ⟨ps,h1,h2⟩:=cQ (B:=B) (w:=w) ws;exact ⟨[.int .i64 n]::ps,by rw [qS,h1];rfl,.cons G h2⟩
theorem L6 {k k1 k2 B hp n:Nat}{ws:Yl}{p q:Rat}{c:Int}(h:(cat [EqA (.slice (some ⟨hp,0,none⟩) n n),QA k1 p,QA k2 q,NumA .i64 c]).va.p B v w)(hr:PkR 3 hp w ws)(hn:ws.length=n)(hm:n≤1000)(h1:WkA (QA k1 p) (QA k p))(h2:WkA (QA k2 q) (QA k q)):(WyA k ⟨ws,p,q,c⟩).va.p B v w:=by
 obtain ⟨cs,⟨ps,rfl,hps⟩,rfl⟩:=h;cases hps with
 | cons q1 hps =>
  cases hps with
  | cons q2 hps =>
   cases hps with
   | cons q3 hps =>
    refine ⟨_,⟨_,rfl,.cons ?_ (.cons (h1.2.2 _ _ _ q2) (.cons (h2.2.2 _ _ _ q3) hps))⟩,rfl⟩;obtain ⟨rfl,_⟩:=q1;refine ⟨λ A hA T hT=>?_,_,n,_,by rw [qd,hn],by rw [qd,hn];exact qh _,by unfold maxLen;omega,cQ ws,λ _=>⟨hp,0,rfl,(Array.getElem?_eq_some_iff.1 hr).1,.inr ⟨_,_,hr⟩,λ j u hu=>?_⟩⟩
    ·obtain ⟨x,_,rfl⟩:=qp.1 hA;cases hT
    ·rw [qV,cell_of_row w hp j _ 3 _ hr];simpa using hu
theorem ux {t:RTk}(h:ckF t=0):∀ {l:Ya},(∀ x∈l,x<t.ps.length)→0≤cosW t l∧cosW t l≤1073741824*(l.length:Int)
 | [],_=>by simp [cosW]
 | x::l,hp=>by
  obtain ⟨h1,h2⟩:=ux h (l:=l) λ y hy=>hp y (zi _ hy);have hx:x<t.ps.length:=hp x xx;have h3:=qe.1 (gh h).2.2 _ (qg hx);unfold ptF at h3;simp only [qz,qN,qm] at h3;have h4:cosW t (x::l)=t.ps[x].c+cosW t l:=by
   unfold cosW;rw [qS,xo,show t.ps.getD x ⟨⟨#[]⟩,⟨0,rf0,rf0⟩,0⟩=t.ps[x] from by simp [List.getD,hx]]
  rw [h4,zc];have:=h3.1.2;have:=h3.2;omega
def dnD (e:DnE)(f i j:Nat):Nat:=if i<e.ah.length then (if e.ah.getD i 0<j then cntW e.t.ps.length e.ah.length f (i+1) else 0) else j*cntW e.t.ps.length e.ah.length f (i+1)
theorem PE (e:DnE)(f i:Nat):dnD e f i 0=0:=by
 unfold dnD;split
 ·rw [qy zo]
 ·rw [x9]
theorem Cs {e:DnE}(ok:e.Ok)(f i:Nat):dnD e f i e.t.ps.length=cntW e.t.ps.length e.ah.length (f+1) i:=by
 unfold dnD;split
 ·rename_i h;rw [qC,sG h];rw [List.getD,List.getElem?_eq_getElem h];exact ok.ah.2 _ (qg h)
 ·rename_i h;rw [sF h]
theorem Fn {e:DnE}{f i j:Nat}(h:i<e.ah.length)(h2:e.ah.getD i 0≠j):dnD e f i (j+1)=dnD e f i j:=by
 unfold dnD;rw [qC h,qC h];by_cases h3:e.ah.getD i 0<j
 ·rw [qC h3,qC zo]
 ·rw [qy h3,qy zo]
theorem GR {e:DnE}{f i j:Nat}(h:i<e.ah.length→e.ah.getD i 0=j):dnD e f i (j+1)=dnD e f i j+cntW e.t.ps.length e.ah.length f (i+1):=by
 unfold dnD;by_cases h1:i<e.ah.length
 ·rw [qC h1,qC h1,qC (by have:=h h1;omega),qy (by have:=h h1;omega),qV]
 ·rw [qy h1,qy h1,xS,jV]
theorem GP {e:DnE}{f i j:Nat}(hj:j<e.t.ps.length)(h:i<e.ah.length→e.ah.getD i 0=j):dnD e f i j+cntW e.t.ps.length e.ah.length f (i+1)≤cntW e.t.ps.length e.ah.length (f+1) i:=by
 rw [← GR h];unfold dnD;by_cases h1:i<e.ah.length
 ·rw [qC h1,qC (by have:=h h1;omega),sG h1];exact qh _
 ·rw [qy h1,sF h1];exact qI _ hj
theorem PD {e:DnE}{f i j k:Nat}{pre:Ya}(hp:∀ r,r<cntW e.t.ps.length e.ah.length (f+1) i→e.pk (k+r)=pre++exW e.t.ps.length e.ah (f+1) i r)(hj:j<e.t.ps.length)(h:i<e.ah.length→e.ah.getD i 0=j) :
  ∀ r,r<cntW e.t.ps.length e.ah.length f (i+1)→e.pk (k+dnD e f i j+r)=(pre++[j])++exW e.t.ps.length e.ah f (i+1) r:=λ r hr=>by
 have hle:=GP (f:=f) hj h;rw [je,hp _ zo,qY];refine qt (pre ++ ·) ?_;unfold dnD;by_cases h1:i<e.ah.length
 ·have h2:=h h1;rw [qC h1,qy zo,qV,rl h1,xX];rw [List.getD,List.getElem?_eq_getElem h1] at h2;have h2':e.ah[i]=j:=h2;rw [h2']
 ·rw [qy h1,Cf h1 hr,xX]
theorem nM {q p:Yl}{i:Nat}{v:Int}(h:q.take i=p)(hi:i<q.length):(q.set i v).take (i+1)=p++[v]:=by
 rw [qA (by rw [qZ];exact hi),vJ (qh _),h,List.getElem_set_self]
theorem Fx {Tc:Yq}{gs:Ya}{g:Nat}{c:Array Yo}{fz:Nat × Nat}(h:CellsT Tc gs w)(hw:Wr g w w')(hg:w.heap[g]?=some (.cells c T fz))(hT:T ∉ Tc):CellsT Tc gs w':=λ k hk=>by
 obtain ⟨c',T',fz',h1,h2⟩:=h k hk;exact ⟨c',T',fz',(hw.block k (λ e=>by
  subst e;rw [hg] at h1;injection h1 with h1;injection h1 with _ h1 _;exact hT (by rw [h1];exact h2))).trans h1,h2⟩
theorem M0 {b lo hi:Nat}{gs:Ya}{W W':Yi}{E:Yh}{hp:Nat}{q:Yl}(h:Stp b D (gs++List.range' lo (hi-lo)) W W')(h1:lo≤hp)(h2:hp<hi)(hq:PkR E hp W q):PkR E hp W' q :=
 h.held hq (qn.2 (.inr (v7.2 ⟨h1,by omega⟩)))
theorem mV {o:Yt}{n:Nat}{ops:Yg}{Q:Yd}(h:Q .normal a w):wpOpsIn (fw o) n P ops Q [] a w:=h
theorem Ju {B lo hi:Nat}{Tp Db:Yq}{gs:Ya}{W W':Yi}(h:Stp B Db gs W W'):KD B lo hi Tp Db [] W W' :=
 ⟨h.os,h.tape,h.output,h.size,λ k hk hf=>h.block k hk λ hF=>hf (by
  rcases hF with ⟨h1,h2|⟨_,h2⟩⟩
  ·have hk':k<W.heap.size:=hk;omega
  ·exact .inr (.inr ⟨h1,h2⟩))⟩
theorem Q6 {ah:Ya}{i:Nat}(h:i<ah.length):(ah.map λ (k:Nat)=>InA (k:Int))[i]?=some (InA ((ah.getD i 0:Nat):Int)):=by
 rw [List.getElem?_map,List.getElem?_eq_getElem h,List.getD,List.getElem?_eq_getElem h];rfl
theorem St.anewD {e:DnE}(ok:e.Ok){N:Nat}{a a':Act}{W W':Yi}(src:Ya)(h:St e.B w0 N Γ Λ a W)(hnd:w0.nd=true)(hk:KD e.B e.lo e.hi [3] e.Db [] W W')
  (hsrc:src.all (λ k=>match Γ[k]? with|some y=>y.2.deps.all (λ T=>[30,34,114,115,U32,28,117].contains T) | none=>false)=true) (ha:∀ k∈src,∀ y,Γ[k]?=some y→a'.eval (.tmp y.1)=a.eval (.tmp y.1)) (hd:a'.defers=a.defers) (hs:a'.tmps.size=a.tmps.size):St e.B (bm W') N (src.filterMap λ k=>Γ[k]?) [] a' W':=by
 have hD:∀ T∈e.Db,T ∉ [30,34,114,115,U32,28,117]:=fk ok.Db;have key:∀ {deps:List TypeId},deps.all (λ T=>[30,34,114,115,U32,28,117].contains T)=true→offD ([]++[3]++e.Db) deps=true:=λ {deps} hd=>qe.2 λ T hT=>by
  have hd':=qe.1 hd T hT;have hm:T∈[30,34,114,115,U32,28,117]:=by simpa using hd'
  have hn:T ∉ []++[3]++e.Db:=λ hh=>by
   rcases qn.1 hh with hh|hh
   ·have:T=3:=by simpa using hh
    subst this;exact absurd hm zd
   ·refine hD T hh ?_;simp only [qr,zF,or_false] at hm ⊢;rcases hm with h|h|h|h|h|h|h <;> simp [h]
  simpa using hn
 refine h.anew (Tc:=[]) src hnd hk ok.lo (λ g hg=>by cases hg) (λ g hg=>by cases hg) (qe.2 λ k hk=>?_) ha hd hs;have:=qe.1 hsrc k hk;cases hy:Γ[k]? with
 | none=>rw [hy] at this;cases this
 | some y=>rw [hy] at this;exact key this
set_option maxHeartbeats 4000000 in
theorem Cp {e:DnE}(ok:e.Ok){f i:Nat}(ih:∀ f',f'+1=f→∀ i,DnC e f' i):DnC e f i:=by
 intro pre k wE q vr hpl hif hpp hpk hkM hJ hF hq hql hqi hvr;obtain ⟨hlt,hsx,hel⟩:=dn_s ok (i:=i) zo;have htg:okX e.t.tg=true:=(hd_b (gh ok.ck).1).2.2.2.2;have hn12:=dn_n ok;have hsl:=ok.n;obtain ⟨m,hme⟩:∃ m,dQ (benP e.t pre)=m:=⟨_,rfl⟩;have hbw0:=nv (benP e.t pre) (spE (e.t.sp.getD pre.length rf0));rw [hme] at hvr hbw0;have hm:RepM (dnK i) m:=by rw [← hme,← hpl];exact dn_m ok zo hpp
 have hKb:dnK i≤200000:=dn_K ok zo;have hBw:e.B≤wE.heap.size:=by have:=(Array.getElem?_eq_some_iff.1 hq).1;have:=ok.lo;have:=ok.hp;omega
 obtain ⟨hco1,hco2⟩:=ux ok.ck hpp;obtain ⟨B,hBe⟩:∃ B,e.B=B:=⟨_,rfl⟩;have hKi:dnK (i+1)=dnK i+4097+4097:=by unfold dnK;omega
 obtain ⟨K,hK⟩:∃ K,dnK i=K:=⟨_,rfl⟩;rw [hK] at hvr hm hKb hKi;have hxe:e.t.sp.getD pre.length rf0=e.t.sp[i]:=by rw [hpl];simp [List.getD,hlt]
 obtain ⟨x,hx⟩:∃ x,e.t.sp[i]=x:=⟨_,rfl⟩;rw [hx] at hsx hel hxe;rw [hxe] at hbw0;obtain ⟨m1,hm1⟩:∃ m1,mulQ (elM (spE x)) m=m1:=⟨_,rfl⟩;have hm1r:RepM (K+4097) m1:=by rw [← hm1];exact gv hel hm
 have hbw:dQ (benW e.t pre)=m1:=by rw [← hm1,← hbw0];unfold benW;rw [hxe]
 have hpw:powW e.t pre = -m1.c:=by unfold powW;rw [hbw]
 have haw:awaW e.t pre=if (-m1.c-toQ e.t.tg).num.sign<0 then -(-m1.c-toQ e.t.tg) else -m1.c-toQ e.t.tg:=by unfold awaW;rw [hpw]
 obtain ⟨F1,F2,F3,F4,F5⟩:=id hF;rw [hBe] at F1 F2 F3 F4 F5 hvr hBw;refine mI (R:=e.R f i k q wE) (B:=B) [In (i:Nat),In (cosW e.t pre),(CoA K m).va,ElP 30 (TkO e.t),ElP 34 (EqA (.slice (some ⟨e.hp,0,none⟩) e.n e.n)),ElP 114 (EqA (.func (.yield e.l) #[] #[])),ElP 34 (SlO 3 [] (e.ah.map λ (k:Nat)=>InA (k:Int)) True),ElP 115 (EqA (.func (.func 106) #[] e.cap.toArray))] Tryz.func106 G hBw (.cons (bS _ _ _ _) (.cons (bS _ _ _ _) (.cons hvr (.cons F1 (.cons F2 (.cons F3 (.cons F4 (.cons F5 .nil)))))))) nq (λ w0 a hw0 U=>?_);subst hw0;obtain ⟨w,hw⟩:∃ w,w=wE:=⟨_,rfl⟩;have U:St B (bm wE) 92 [(0,_),(1,_),(2,_),(3,_),(4,_),(5,_),(6,_),(7,_)] [] a wE:=U;refine qb<|zg [] [zpL 10 117 0 _] [.alc 0,.v 11 _] (We [.g 3,.g 4,.g 5,.g 6,.g 7,.o 1]) U (zW 2 G (zE G aJ)) (λ a w U=>?_);have U:St B (bm wE) 92 [(0,_),(1,_),(3,_),(4,_),(5,_),(6,_),(7,_),(11,_)] [O 10 117 _] a w:=U;refine aa<|wp_scope_straight ?_;refine qb<|zgd [[],[0],[],[2],[],[2,3,4],[2,3,4,5],[],[7],[2,3,4,5,6,7,8],(Wm 10),(Wm 11),(Wm 12)] [some (12,_)] [] (.adr 15 10 (.some 0) True::(Wl 16 (.adr 22 10 (.some 4) True::(Wb 23 [.adr 26 10 (.some 0) True,.sto 0])))) WE ac U (zO 0 G cv (zL 0 0 0 G au (zv G (bP (gq 2 G) ca (Sub.part 0 G G)) (zv G (ap (vq 2 G) fc) (zM 0 G (zv G (bM db (cc λ _=>rfl) (bu (aB (vq 3 G))) (vq 4 G) (bG hlt)) (zv G (ap (vq 5 G) au) (zO 0 G cj (zL 7 0 1 G au (zQ G ((iK (c:=2048) (d:=K) (x:=toQ x) (y:=m.c) zo).wk (.cons (cz (bf (qt (λ z=>(RFA z).va) hx)) (qa_x hsx (qh _)).va) (.cons aM .nil))) (.p (vq 6 G) (vq 8 G)) (zQ G (AG zo) (.p (vq 1 G) (vq 9 G)) (zO 0 G cv (oc (cX 11 G G G G zk (vq 10 G) au (Put.part 0 G G G)) o0))))))))))))) zk zk zk zk (λ a w U=>?_);have U:St B (bm wE) 92 [(0,_),(1,_),(3,_),(4,_),(5,_),(6,_),(7,_),(11,_)] [O 10 117 _] a w:=U;have U:=St.wkL (A':=CoA (K+4097) m1) U 0 rfl (by rw [← hm1];exact sE (G2 x m).1 (G2 x m).2 (gv hel hm));have U:St B (bm wE) 92 [(0,_),(1,_),(3,_),(4,_),(5,_),(6,_),(7,_),(11,_)] [O 10 117 _] a w:=U;refine zt<|qb<|zg U3 [] (Ww 27) (WE [.o 3]) U (zM 0 G (zv G (ap (gq 3 G) cC) (zv G (LT qL (vq 1 G)) (zv G (bF (vq 0 G) (vq 2 G)) o0)))) (λ a w U=>?_);have U:St B (bm wE) 92 [(0,_),(1,_),(3,_),(4,_),(5,_),(6,_),(7,_),(11,_),(30,_)] [O 10 117 _] a w:=U;refine zJ 8 U G (λ hb0=>?_) (λ hb0=>?_)
 ·have hin:i=e.n:=by have h:((i:Nat):Int)=((e.n:Nat):Int):=eq_of_beq hb0;omega
  obtain rfl:f=0:=by omega
  have hc0:cntW e.t.ps.length e.ah.length 0 i=1:=rfl;have hpk0:e.pk k=pre:=by have:=hpk 0 zo;simpa [exW] using this
  refine qb<|zgd [[],[],[1],[1,2],[],(Wm 5),[],(Wm 7)] U1 [⟨12,71,ptrH,some 6,_,some (7,_)⟩] (.v 31 _::.adr 32 10 (.some 4) True::(Ww 33 [.alc 1,.sto 1])) WE ac U (zv G (ap (gq 3 G) cC) (zO 0 G cj (zL 1 0 1 G au (zQ G (lr zo) (.o (vq 2 G)) (zM 1 G (zv G (aS (qs:=[(0,_),(1,_),(3,_)]) lT (.cons ⟨rfl,vq 0 rfl,rfl⟩ (.cons ⟨rfl,vq 3 rfl,rfl⟩ (.cons ⟨rfl,vq 4 rfl,rfl⟩ .nil)))) (zY G (Str.zero lT) (zS 5 G pj o0)))))))) zk zk zk zk (λ a w U=>?_);have U:St B (bm wE) 92 [(0,_),(1,_),(3,_),(4,_),(5,_),(6,_),(7,_),(11,_)] [O 10 117 _,O 12 71 _] a w:=U;refine zt<|zg [η,some (6,_)] [] (.adr 37 12 (.some 1) True::(Ww 38 [.adr 42 12 (.some 5) True,.sto 1])) WE U (zO 1 G eT (zL 0 1 1 G au (zv G (bP (gq 2 G) ek (Sub.part 2 G G)) (zv G (ap (vq 2 G) au) (zQ G ((s7 (c:=K+4097) (d:=2048) (x := -m1.c) (y:=toQ e.t.tg) zo).wk (.cons aM (.cons (qa_x htg (qh _)).va .nil))) (.p (vq 1 G) (vq 3 G)) (zO 1 G fX (oc (cX 5 G G G G zk (vq 4 G) au (Put.part 2 G G G)) o0))))))) (λ a w U=>?_);have U:St B (bm wE) 92 [(0,_),(1,_),(3,_),(4,_),(5,_),(6,_),(7,_),(11,_)] [O 10 117 _,O 12 71 _] a w:=U;refine zt<|qb<|zg UE [] (.adr 43 12 (.some 5) True::(Wb 44)) (WE [.o 3]) U (zO 1 G fX (zL 0 1 2 G au (zQ G sign_q (.o (vq 1 G)) (zv G (aO (vq 2 G) ab) o0)))) (λ a w U=>?_);have U:St B (bm wE) 92 [(0,_),(1,_),(3,_),(4,_),(5,_),(6,_),(7,_),(11,_),(46,_)] [O 10 117 _,O 12 71 _] a w:=U;refine aa<|bN (λ a w =>  St B (bm wE) 92 [(5,ElP 114 (EqA (.func (.yield e.l) #[] #[])))] [⟨10,117,ptrH,CoA (K+4097) m1⟩,⟨12,71,ptrH,cat [EqA (.slice (some ⟨e.hp,0,none⟩) e.n e.n),QA (K+4097) (powW e.t pre),QA (K+4097+2048+1) (awaW e.t pre),NumA .i64 (cosW e.t pre)]⟩] a w) U (zm 8 G) (λ hb1=>?_) (λ hb1=>?_) (λ a w U=>?_)
  ·refine zg [η,some (4,_)] [] (.adr 47 12 (.some 5) True::(W6 48 [.adr 50 12 (.some 5) True,.sto 1])) WE U (zO 1 G fX (zL 0 1 2 G au (zQ G (lr zo) (.o (vq 1 G)) (zO 1 G fX (oc (cX 3 G G G G zk (vq 2 G) au (Put.part 2 G G G)) o0))))) (λ a w U=>?_);have U:St B (bm wE) 92 [(0,_),(1,_),(3,_),(4,_),(5,_),(6,_),(7,_),(11,_)] [O 10 117 _,O 12 71 _] a w:=U;refine aa ?_;have U:=St.sel U [4];rw [hpw,haw,qC (qu hb1)];exact U
  ·refine qj<|aa ?_;have U:=St.sel U [4];rw [hpw,haw,qy (qw hb1)];exact U
  refine zt<|Hs ?_;refine EH (sp:=[.v 51 _,.v 52 _,.v 53 VT,.v 11 VT]) 2 2 99 2 OneC [.g 0,.o 0,.o 1] zk (fm λ _ _ h=>h) U (zv G (ap (gq 0 G) Ld) (zl 1 G pj o0)) G zd zk zk (λ a w U=>?_);have U:St B (bm wE) 92 [(5,_),(51,_),(52,_)] [O 10 117 _,O 12 71 _] a w:=U;rw [show List.range' 2 2=[2,3] from rfl];have hgw:=bH U.base;have e51:=lh (U.vals (51,_) (zm 1 rfl));have hqe:q=pre.map (λ (x:Nat)=>(x:Int)):=by rw [← hqi,qD zo]
  have hway:(WyA (dnK (e.n+2)+4200) (wayW e.t (e.pk k))).va.p e.B (a.eval (.tmp 52)) w:=by rw [hBe,hpk0];exact L6 (U.vals (52,_) (zm 2 rfl)) (by rw [← hqe];exact eJ hq hgw) (by rw [qd];omega) zo (bY (by rw [← hK];unfold dnK;omega)) (bY (by rw [← hK];unfold dnK;omega))
  rw [wpOpsIn_cons];refine AU (xs:=[.tmp 52]) G e51 (ok.yd k w [a.eval (.tmp 52)] zo (ok.grow zo hJ hgw) (.cons hway .nil)) (λ x w3 hR3=>?_);rcases hR3 with ⟨rfl,hJ3,hs3⟩|⟨rfl,hx3,hsz3,_⟩
  ·refine ⟨_,rfl,?_⟩;have U:=(St.bare U rfl hs3.size).addV (d:=53) (v:=.bool true) (A:=Bo true) zd zk zk (dw _ _ _);rw [wpOpsIn_cons];refine AW (b:=true) G (dG (U.vals (53,_) (zm 0 G))) ?_;refine mV ?_;have U:=U.addV (d:=11) (v:=.bool true) (A:=Bo true) zd zk zk (dw _ _ _);have hR:e.R 0 i k q wE (.returned (.bool true)) w3:=.inl ⟨rfl,hJ3,eP (BD hgw) (Ju hs3),q,M0 hs3 ok.hp.1 ok.hp.2 (eJ hq hgw),hql,rfl⟩;refine aa<|qi<|aj ?_;refine lZ ?_;exact um G U G (zm 0 G) hR (λ x w1 w2=>DnE.R.grow ok hkM)
  ·refine ⟨_,rfl,?_⟩;have U:=(St.bare U rfl hsz3).addV (d:=53) (v:=.bool false) (A:=Bo false) zd zk zk (dw _ _ _);rw [wpOpsIn_cons];refine AW (b:=false) G (dG (U.vals (53,_) (zm 0 G))) ?_;refine mV ?_;have U:=U.addV (d:=11) (v:=.bool false) (A:=Bo false) zd zk zk (dw _ _ _);have hR:e.R 0 i k q wE (.returned (.bool false)) w3:=.inr ⟨rfl,hx3,qf hgw.size hsz3⟩;refine aa<|qi<|aj ?_;refine lZ ?_;exact um G U G (zm 0 G) hR (λ x w1 w2=>DnE.R.grow ok hkM)
 ·have hin:i≠e.n:=λ h=>by rw [h] at hb0;simp at hb0
  obtain ⟨f,rfl⟩:∃ f0,f=f0+1:=⟨f-1,by omega⟩;have hlen64:=(hd_b (gh ok.ck).1).2.2.2.1;refine qj<|zt<|wp_label<|zt<|qb ?_;have U:=St.ofPtr U 0 rfl;have U:St B (bm wE) 92 [(10,_),(0,_),(1,_),(3,_),(4,_),(5,_),(6,_),(7,_),(11,_),(30,_)] [] a w:=U;refine zh (Ww 54) (WD [.o 1,.o 2,.o 3]) U (zv G (bP (gq 3 G) bK (Sub.part 1 G G)) (zv G (ap (vq 0 G) dW) (zv G (bn qM (bu (aB (vq 1 G)))) (zv G (aA ab) o0)))) (λ a w U=>?_);have U:St B (bm wE) 92 [(10,_),(0,_),(1,_),(3,_),(4,_),(5,_),(6,_),(7,_),(11,_),(55,_),(56,_),(57,_)] [] a w:=U;refine aa<|qk ?_;have U:=St.sel U [1,2,3,4,5,6,7,0,9,10,11];refine wp_loop_ghost (λ n a w=>∃ (j:Nat) (W1:World) (q1:List Int),(n+j=e.t.ps.length∧e.J (k+dnD e f i j) W1∧KD e.B e.lo e.hi [3] e.Db [] wE W1∧PkR 3 e.hp W1 q1∧q1.length=e.n∧q1.take i=q.take i)∧St B (bm W1) 92 [(0,In (i:Nat)),(1,In (cosW e.t pre)),(3,ElP 30 (TkO e.t)),(4,ElP 34 (EqA (.slice (some ⟨e.hp,0,none⟩) e.n e.n))),(5,ElP 114 (EqA (.func (.yield e.l) #[] #[]))),(6,ElP 34 (SlO 3 [] (e.ah.map λ (k:Nat)=>InA (k:Int)) True)),(7,ElP 115 (EqA (.func (.func 106) #[] e.cap.toArray))),(10,ElP 117 (CoA (K+4097) m1)),(55,(SlO 93 [U32] (e.t.ps.map PtA) True).va),(56,In (e.t.ps.length:Nat)),(57,In (j:Nat))] [] a w) (e.t.ps.length) ?_ ?_
  ·rw [qd] at U;exact ⟨0,wE,q,⟨by omega,by rw [PE];exact hJ,BC,hq,hql,rfl⟩,U⟩
  intro n a w hI;obtain ⟨j,W1,q1,⟨hn,hJ1,hkd,hq1,hql1,hqt⟩,U⟩:=hI;refine qb<|zh [.v 58 _] (WL [.o 0]) U (zv G (aO (gq 10 G) (gq 9 G)) o0) (λ a w U=>?_);have U:St B (bm W1) 92 [(0,_),(1,_),(3,_),(4,_),(5,_),(6,_),(7,_),(10,_),(55,_),(56,_),(57,_),(58,_)] [] a w:=U;refine zt<|c7 U (zm 11 G) (λ hb2=>?_) (λ hb2=>?_)
  ·have hj:j<e.t.ps.length:=by have:=qu hb2;omega
   have hpj:e.t.ps.getD j ⟨⟨#[]⟩,⟨0,rf0,rf0⟩,0⟩=e.t.ps[j]:=by simp [List.getD,hj]
   have hpe:elF e.t.ps[j].e=true:=by rw [← hpj];exact dn_p ok.ck hj
   have hpc:=ux ok.ck (l:=[j]) (λ y hy=>by rw [ql.1 hy];exact hj);rw [show cosW e.t [j]=e.t.ps[j].c from by unfold cosW;rw [qS,js,xo,List.sum_nil,hpj,jF]] at hpc;obtain ⟨hpc1,hpc2⟩:=hpc;refine qj<|zt<|qk<|qb<|zg [] [⟨14,93,ptrH,some 3,_,some (5,_)⟩] (Wb 59 [.alc 0,.v 13 _,.sto 0]) (WL [.o 4]) U (zM 10 G (zv G (bM fg (cc λ _=>rfl) (bu (aB (gq 8 G))) (gq 10 G) (bG hj)) (zv G (ap (vq 1 G) gI) (zY G (Str.zero dY) (zA 0 G (zS 2 G gI o0)))))) (λ a w U=>?_);have U:St B (bm W1) 92 [(0,_),(1,_),(3,_),(4,_),(5,_),(6,_),(7,_),(10,_),(55,_),(56,_),(57,_),(13,_)] [O 14 93 _] a w:=U;have U:=St.ofPtr U 0 rfl;have U:St B (bm W1) 92 [(14,_),(0,_),(1,_),(3,_),(4,_),(5,_),(6,_),(7,_),(10,_),(55,_),(56,_),(57,_),(13,_)] [] a w:=U;refine zt<|qb<|zh (Wd 62 [.t 67 _,.t 68 _,.t 69 _,.t 70 _,.t 71 _,.t 72 _,.v 73 _]) (WN [.o 11]) U (zM 1 G (zv G (ap (gq 6 G) cC) (zv G (bn qL (bu (aB (vq 1 G)))) (zv G (aO (vq 0 G) (vq 2 G)) (zV 3 G (zB 4 G (λ hg=>aA (gq 12 G)) (zB 4 G (λ hg=>ap (gq 6 G) cC) (zB 4 G (λ hg=>aA (gq 1 G)) (zB 4 G (λ hg=>bM dN (cc λ _=>rfl) (bu (aB (ae (vq 6 G) hg))) (ae (vq 7 G) hg) (Q6 (by have:=qu hg;simp only [qd] at this;omega))) (zB 4 G (λ hg=>ap (ae (vq 8 G) hg) ty_3) (zB 4 G (λ hg=>c9 (ae (vq 5 G) hg) (ae (vq 9 G) hg)) (zv G (bE (vq 4 G) (vq 10 G)) o0)))))))))))) (λ a w U=>?_);have U:St B (bm W1) 92 [(14,_),(0,_),(1,_),(3,_),(4,_),(5,_),(6,_),(7,_),(10,_),(55,_),(56,_),(57,_),(13,_),(73,_)] [] a w:=U;refine zJ 13 U G (λ hb3=>?_) (λ hb3=>?_)
   ·have hsk:i<e.ah.length∧e.ah.getD i 0≠j:=by
     simp only [qd,qo,qK,bne_iff_ne,ne_eq] at hb3;exact ⟨by omega,by omega⟩
    refine qP<|ai<|az<|aa<|zh [.v 91 _,.v 57 _] (WL [.g 12,.o 1]) U (zv G (aL (gq 11 G) ab ((wi64 zo zo).trans (by omega:(_:Int)=((j+1:Nat):Int)))) (zV 0 G o0)) (λ a w U=>?_);have U:St B (bm W1) 92 [(14,_),(0,_),(1,_),(3,_),(4,_),(5,_),(6,_),(7,_),(10,_),(55,_),(56,_),(13,_),(57,_)] [] a w:=U;refine aa ?_;have U:=St.sel U [1,2,3,4,5,6,7,8,9,10,12];exact ⟨n-1,by omega,j+1,W1,q1,⟨by omega,by rw [Fn hsk.1 hsk.2];exact hJ1,hkd,hq1,hql1,hqt⟩,U⟩
   ·have hgo:i<e.ah.length→e.ah.getD i 0=j:=λ h=>by
     simp only [qd,jw,qm,bne_eq_false_iff_eq] at hb3;rcases hb3 with h1|h1 <;> omega
    have hdl:=GP (f:=f) hj hgo;have hcp:0<cntW e.t.ps.length e.ah.length f (i+1):=dL zo _ _;refine qj<|zt<|bJ (sp:=[.v 74 _,.v 75 _,.v 76 _,.v 77 VT,.skp]) 3 2 99 3 OneC [.g 0,.g 1,.g 2,.g 3,.g 4,.g 5,.g 6,.g 7,.g 8,.g 9,.g 10,.g 11,.g 12,.o 0,.o 1,.o 2] U (zv G (ap (gq 4 G) cC) (zM 1 G (zM 12 G o0))) G zd zk zk (λ a w U=>?_);have U:St B (bm W1) 92 [(14,_),(0,_),(1,_),(3,_),(4,_),(5,_),(6,_),(7,_),(10,_),(55,_),(56,_),(57,_),(13,_),(74,_),(75,_),(76,_)] [] a w:=U;rw [show List.range' 3 2=[3,4] from rfl];have hgw:=bH U.base;have hJw:=ok.grow zo hJ1 hgw;have hq2:=eJ hq1 hgw;have U:=St.wkG U 13 rfl Ch;rw [qv];refine ml 13 14 G U dN zd G G zo zd zk zk (λ a U=>?_);have e77:=U.vals (77,_) (zm 0 rfl);have e77:a.eval (.tmp 77)=.pointer (some ⟨e.hp,i,none⟩):=by rw [← zH i];exact e77
    rw [qv];refine IK (q:=q1) (k:=(j:Nat)) G e77 (bg (U.vals (76,_) (zm 16 G))) hq2 zo ty_3 (λ W2 hq3 hwr=>?_);refine sY ?_;have hsv:StpV e.lo e.hi [3] e.gs w W2:=rF hwr hq2 ok.hp.1 ok.hp.2 zd;have hkd0:KD e.B e.lo e.hi [3] e.Db [] w W2:=BB (rF hwr hq2 ok.hp.1 ok.hp.2 zd);have hJ2:e.J (k+dnD e f i j) W2:=ok.st _ _ _ zo hJw hsv (Fx (ok.ct _ _ hJw) hwr hq2 zd);have hkd2:=eP (eP hkd (BD hgw)) hkd0;have hloB:B≤e.lo:=by rw [← hBe];exact ok.lo
    have U:=St.anew (Tp:=[3]) (Db:=[]) (Tc:=[]) (gs:=[]) (lo:=e.lo) (hi:=e.hi) (a':=a) [1,2,3,4,5,6,7,8,9,10,11,12,13] U rfl (BB (rF hwr hq2 ok.hp.1 ok.hp.2 zd)) hloB (λ _ h=>by cases h) (λ _ h=>by cases h) zk (λ _ _ _ _=>rfl) rfl rfl;have U:St B (bm W2) 92 [(14,_),(0,_),(1,_),(3,_),(4,_),(5,_),(6,_),(7,_),(10,_),(55,_),(56,_),(57,_),(13,_)] [] _ W2:=U;refine zt<|ia (sp:=[.v 78 _,.v 79 _,.v 80 _,.v 81 _,.v 82 _,.v 83 _,.v 84 _,.v 85 _,.v 86 _,.v 87 _,.v 88 _,.v 89 VT,.v 90 VT]) [[],[],[1],[],[],[4],[3,4,5],[],[7],[],[7,8,9],[0,1,2,3,4,5,6,7,8,9,10],[0,1,2,3,4,5,6,7,8,9,10,11]] 11 2 99 11 OneC [.g 0,.g 1,.g 2,.g 3,.g 4,.g 5,.g 6,.g 7,.g 8,.g 9,.g 10,.g 11,.g 12,.o 0,.o 2,.o 6,.o 10] ac U (zv G (ap (gq 7 G) yr) (zM 1 G (zv G (aL (vq 1 G) ab ((wi64 zo zo).trans (by omega:(_:Int)=((i+1:Nat):Int)))) (zM 2 G (zv G (bP (gq 0 G) dr (Sub.part 2 G G)) (zv G (ap (vq 4 G) ty_3) (zv G (aL (vq 3 G) (vq 5 G) ((wi64 (by simp only [z8] at hpc2;omega) (by simp only [z8] at hpc2;omega)))) (zv G (bP (gq 0 G) eh (Sub.part 1 G G)) (zv G (ap (vq 7 G) gf) (zv G (ap (gq 8 G) gJ) (zQ G (yC (x:=e.t.ps[j].e) (b:=K+4097) (m:=m1) hpe hm1r zo) (.p (vq 8 G) (vq 9 G)) o0))))))))))) G zd zd zk (fI zk) zk zk (λ a w U=>?_);have U:St B (bm W2) 92 [(14,_),(0,_),(1,_),(3,_),(4,_),(5,_),(6,_),(7,_),(10,_),(55,_),(56,_),(57,_),(13,_),(78,_),(80,_),(84,_),(88,_)] [] a w:=U;rw [show List.range' 11 2=[11,12] from rfl];have hgw2:=bH U.base;have e78:=lh (U.vals (78,_) (zm 13 rfl));have e80:=bg (U.vals (80,_) (zm 14 rfl));have e84:=bg (U.vals (84,_) (zm 15 rfl));have hvr2:=(U.vals (88,_) (zm 16 rfl));have hl2:(pre++[j]).length=i+1:=by rw [qx,hpl];rfl
    have hmem2:∀ y∈pre++[j],y<e.t.ps.length:=λ y hy=>by
     rcases qn.1 hy with hy|hy
     ·exact hpp y hy
     ·rw [ql.1 hy];exact hj
    have hqt2:(q1.set i (j:Int)).take (i+1)=(pre++[j]).map (λ (y:Nat)=>(y:Int)):=by
     rw [nM (hqt.trans hqi) zo,zT];rfl
    have hm2:dQ (benP e.t (pre++[j]))=mulQ (elM e.t.ps[j].e) m1:=by rw [w7,hpj,hbw]
    have hc2:cosW e.t (pre++[j])=cosW e.t pre+e.t.ps[j].c:=by rw [uw,hpj]
    have hcall:=ih f rfl (i+1) (pre++[j]) (k+dnD e f i j) w (q1.set i (j:Int)) (a.eval (.tmp 88)) hl2 zo hmem2 (PD hpk hj hgo) zo (ok.grow zo hJ2 hgw2) ((hF.kd ok hkd2).grow hgw2) (eJ hq3 hgw2) (by rw [qZ];exact hql1) hqt2 (by rw [hBe,hm2,hKi];exact hvr2);rw [qv];refine tB (f:=106) (xs:=[.tmp 80,.tmp 84,.tmp 88]) (gs:=e.cap) G ⟨_,Tryz.func106,by kernel_rfl,by kernel_rfl⟩ e78 (by rw [hc2] at hcall;rw [show [Operand.tmp 80,.tmp 84,.tmp 88].map a.eval=[a.eval (.tmp 80),a.eval (.tmp 84),a.eval (.tmp 88)] from rfl,e80,e84];exact hcall) (λ x w3 hR3=>?_);rcases hR3 with ⟨rfl,hJ3,hkd3,q3,hq4,hql4,hqt4⟩|⟨rfl,hx3,hsz3⟩
    ·refine ⟨_,rfl,?_⟩;have U:=St.anewD (a':=a) ok [1,2,3,4,5,6,7,8,9,10,11] (by rw [hBe];exact U) rfl hkd3 zk (λ _ _ _ _=>rfl) rfl rfl;rw [hBe] at U;have U:=U.addV (d:=89) (v:=.bool true) (A:=Bo true) zd zk zk (dw _ _ _);rw [qv];refine lm (A:=Bo false) (v:=.bool false) G U zd zk zk (Gq _ _ _ (dG (U.vals (89,_) (zm 0 G)))) (dw _ _ _) (λ U=>?_);refine dX ?_;have U:St B (bm w3) 92 [(90,_),(89,_),(0,_),(1,_),(3,_),(4,_),(5,_),(6,_),(7,_),(10,_),(55,_),(56,_),(57,_)] [] _ w3:=U;have hkd4:=eP (eP hkd2 (BD hgw2)) hkd3;have hqt5:q3.take i=q.take i:=by
      rw [← hqt,show q3.take i=(q3.take (i+1)).take i by rw [x5,xc zo],hqt4,x5,xc zo,vJ zo]
     have hJ4:e.J (k+dnD e f i (j+1)) w3:=by rw [GR hgo,← je];exact hJ3
     refine zJ 0 U G (λ hb4=>?_) (λ hb4=>?_)
     ·cases hb4
     ·refine qj<|al ?_;refine aa<|zh [.v 91 _,.v 57 _] [.g 2,.g 3,.g 4,.g 5,.g 6,.g 7,.g 8,.g 9,.g 10,.g 11,.o 1] U (zv G (aL (gq 12 G) ab ((wi64 zo zo).trans (by omega:(_:Int)=((j+1:Nat):Int)))) (zV 0 G o0)) (λ a w U=>?_);have U:St B (bm w3) 92 [(0,_),(1,_),(3,_),(4,_),(5,_),(6,_),(7,_),(10,_),(55,_),(56,_),(57,_)] [] a w:=U;refine aa ?_;have U:=St.sel U [0,1,2,3,4,5,6,7,8,9,10];exact ⟨n-1,by omega,j+1,w3,q3,⟨by omega,hJ4,hkd4,hq4,hql4,hqt5⟩,U⟩
    ·refine ⟨_,rfl,?_⟩;have U:=St.bare (w':=w3) U rfl hsz3;have U:=U.addV (d:=89) (v:=.bool false) (A:=Bo false) zd zk zk (dw _ _ _);rw [qv];refine lm (A:=Bo true) (v:=.bool true) G U zd zk zk (Gq _ _ _ (dG (U.vals (89,_) (zm 0 G)))) (dw _ _ _) (λ U=>?_);refine dX ?_;refine zJ 0 U G (λ hb5=>?_) (λ hb5=>?_)
     ·refine qb<|zh [.v 11 _] WZ U (zE G aJ) (λ a w U=>?_);have U:St B (bm w3) 92 [(11,_)] [] a w:=U;have hR:e.R (f+1) i k q wE (.returned (.bool false)) w:=.inr ⟨rfl,ok.growx hx3 (bH U.base),qf (qf (eP hkd2 (BD (lo:=e.lo) (hi:=e.hi) hgw2)).size hsz3) (bH U.base).size⟩;refine aa<|qi<|aD ?_;refine aj ?_;refine aj ?_;refine aD ?_;refine aj ?_;refine lZ ?_;exact um G U G (zm 0 G) hR (λ x w1 w2=>DnE.R.grow ok hkM)
     ·cases hb5
  ·obtain rfl:j=e.t.ps.length:=by have:=qw hb2;omega
   refine qP<|ai<|ai<|az<|zt<|zh [.v 11 _] (WL [.o 0]) U (zE G aJ) (λ a w U=>?_);have U:St B (bm W1) 92 [(0,_),(1,_),(3,_),(4,_),(5,_),(6,_),(7,_),(10,_),(55,_),(56,_),(57,_),(11,_)] [] a w:=U;have hR:e.R (f+1) i k q wE (.returned (.bool true)) w:=.inl ⟨rfl,by rw [← Cs ok];exact ok.grow (by rw [Cs ok];omega) hJ1 (bH U.base),eP hkd (BD (bH U.base)),q1,eJ hq1 (bH U.base),hql1,hqt⟩;refine aa<|qi<|lZ ?_;exact um G U G (zm 11 G) hR (λ x w1 w2=>DnE.R.grow ok hkM)
theorem Cq {e:DnE}(ok:e.Ok):∀ f i,DnC e f i
 | 0,i=>Cp ok (λ f' h=>absurd h zo)
 | f+1,i=>Cp ok (λ f' h i'=>by
  obtain rfl:f'=f:=by omega
  exact Cq ok f' i')
theorem Hi:Zero Tryz.prog 34 (EqA (.slice none 0 0)):=Zero.of (z:=.slice none 0 0) zk (λ _ _=>⟨rfl,rfl⟩)
theorem Hj:Zero Tryz.prog 115 (EqA .nilFunc):=Zero.of (z:=.nilFunc) zk (λ _ _=>⟨rfl,rfl⟩)
def KB (A A':VA):VA where
 p B v w:=A.p B v w∧A'.p B v w
 deps:=A.deps++A'.deps
 cg:=λ B v w w' hg h=>⟨A.cg _ _ _ _ hg h.1,A'.cg _ _ _ _ hg h.2⟩
 wr:=λ B v w w' g c T fz h1 hT h3 h4 h=>by
  simp only [qn,not_or] at hT;exact ⟨A.wr _ _ _ _ _ _ _ _ h1 hT.1 h3 h4 h.1,A'.wr _ _ _ _ _ _ _ _ h1 hT.2 h3 h4 h.2⟩
theorem NX {A A':VA}:Wk (KB A A') A:=λ _ _ _ h=>h.1
theorem NW {A A':VA}:Wk (KB A A') A':=λ _ _ _ h=>h.2
theorem L1 (h:v.oneCell'=true):Wk (EqV v) (EqA v).va:=λ B u w e=>by
 have e':u=v:=e;rw [e'];exact t7 h
theorem Ci {B g:Nat}{A:As}(h:w.heap[g]?=some (.cells (List.toArray cs) T (0,0)))(hp:A.p B cs w):(ElP T A).p B (ptr g) w:=by
 refine ⟨g,0,cs,rfl,(Array.getElem?_eq_some_iff.1 h).1,.inr ⟨_,_,h⟩,hp,λ j v hv=>?_⟩;rw [qV,cell_of_row w g j cs.toArray T _ h];simpa using hv
theorem sw {B N:Nat}(h:St B w0 N Γ Λ a w){s g:Nat}{A:As}(k j:Nat)(h1:Γ[k]?=some (s,EqV (ptr g)))(h2:Λ[j]?=some ⟨s,T,ptrH,A⟩):(ElP T A).p B (ptr g) w:=by
 obtain ⟨g',cs,e1,_,e3,e4⟩:=h.locs _ (qa h2);have e:a.eval (.tmp s)=ptr g:=h.vals _ (qa h1);have e1':a.eval (.tmp s)=ptr g':=e1;rw [← e,e1'];exact Ci e3 e4
theorem St.elpG {B N:Nat}(h:St B w0 N Γ Λ a w){s:Nat}{A:VA}(k:Nat)(h1:Γ[k]?=some (s,EqV v))(hA:A.p B v w):St B w0 N (Γ.set k (s,A)) Λ a w:=by
 refine ⟨h.lo,h.defers,h.size,h.base,λ x hx=>?_,h.locs,h.dis⟩;rcases qq hx with hx|rfl
 ·exact h.vals x hx
 ·have e:a.eval (.tmp s)=v:=h.vals _ (qa h1);show A.p B (a.eval (.tmp s)) w;rw [e];exact hA
theorem St.here {B N:Nat}(h:St B w0 N Γ Λ a w)(hnd:w0.nd=true)(src:Ya):St B (bm w) N (src.filterMap λ k=>Γ[k]?) [] a w:=by
 refine ⟨λ g hg=>?_,DefOk.nil (h.defers.none hnd),h.size,Kept.refl _,λ x hx=>?_,(λ _ h=>by cases h),(λ _ h=>by cases h)⟩
 ·rcases hg with hg|hg
  ·exact qf (qf (h.lo _ (.inl (qh _))) h.base.size) hg
  ·exact hg.elim
 ·obtain ⟨k,_,hk2⟩:=qH.1 hx;exact h.vals x (qa hk2)
theorem Gl {Q:Yd}{B N:Nat}{ops:Yg}{i:Nat}{K:Ye}{d u n:Nat}{S E T':Yh}(ku:Nat)(ho:ops[i]?=some ⟨some d,.makeSlice S (.tmp u) (.tmp u),T',ps,af,none⟩)(h:St B w0 N Γ Λ a w)
  (hM:rE P S E .i64) (hu:Γ[ku]?=some (u,In (n:Nat))) (hn:n≤17592186044416) (hd:d<N) (hΓ:Γ.all (λ x=>x.1 != d)=true) (hΛ:Λ.all (λ l=>l.s != d)=true)
  (hK:∀ a' w' hp,St B w0 N ((d,EqV (.slice (some ⟨hp,0,none⟩) n n))::Γ) Λ a' w'→PkR E hp w' (List.replicate n 0)→w.heap.size≤hp→Grow w w'→K a' w'):wpOp P ops Q i K a w:=by
 obtain ⟨h1,h2,h3,h4,h5⟩:=hM;obtain ⟨it,hi,hz⟩:=vk.1 h2;have hsz:it.size=1:=by rw [hi] at h3;simpa using h3
 have hby:=h5 it hi;have hm:=run_make (P:=P) w S E it (.int .i64 0) h1 hi hz .i64 .i64 n n zo (Int.le_refl _) (by
  have:it.bytes*n≤8*n:=qI _ hby;have h6:((it.bytes*n:Nat):Int)≤281474976710656:=by omega
  rwa [xJ] at h6) zo
 have e1:a.eval (.tmp u)=.int .i64 (n:Nat):=bg (h.vals _ (qa hu));have hcells:madeCells (Value.int .i64 0).cells (n*it.size)=((List.replicate n 0).map λ (x:Int)=>Value.int .i64 x).toArray:=by
  rw [hsz,zH];apply jN;intro j;simp only [madeCells,Value.cells,jJ];by_cases hj:j<n
  ·simp [hj,vD]
  ·simp [hj]
 simp only [xi] at hm;rw [hcells] at hm;have hg:Grow w (w.alloc (.cells ((List.replicate n 0).map λ (x:Int)=>Value.int .i64 x).toArray E)):=Grow.alloc _ _;unfold wpOp;simp only [ho,Region.wanted,if_true];exact .inl (aY (w':=w.alloc (.cells ((List.replicate n 0).map λ (x:Int)=>Value.int .i64 x).toArray E)) (v:=.slice (some ⟨w.heap.size,0,none⟩) n n) (by simp [execOp,e1,hm]) (hK _ _ w.heap.size ((h.growM hg).addV hd hΓ hΛ G) (heap_alloc_new w _) (qh _) hg))
theorem Kl {fn:Func}{R:Ending→Yi→Prop}{B N:Nat}(hr:fn.results = #[])(h:St B w0 N Γ Λ a w)(hnd:w0.nd=true)(hR:∀ v w1,Grow w w1→R (.returned v) w1):bZ P fn R .ret a w:=by
 refine ⟨[],h.defers.none hnd,.nil,(λ _ h=>by cases h),λ w' hs=>⟨_,results_none hr _ _ _,hR _ _ ⟨hs.os,hs.tape,hs.output,xK hs.size.symm,λ k _=>hs.block k (by simp)⟩⟩⟩
theorem Mz:rE Tryz.prog 34 3 .i64:=⟨by kernel_rfl,by kernel_rfl,by kernel_rfl,by kernel_rfl,λ it h=>by
 have h2:(Tryz.prog.info? 3).map (·.bytes)=some 8:=by kernel_rfl
 rw [h] at h2;exact xK (Option.some.inj h2)⟩
set_option maxHeartbeats 2000000 in
theorem CW {t:RTk}{ah:Ya}{nn:Nat}(hck:ckF t=0)(hnn:t.sp.length=nn+1)(hah:ah.length≤nn∧∀ x∈ah,x<t.ps.length):∀ gs,ItPg Tryz.prog 105 [(30,TkO t),(34,SlO 3 [] (ah.map λ (k:Nat)=>InA (k:Int)) True)] gs (λ k=>[(WyA (dnK (nn+2)+4200) (wayW t (exW t.ps.length ah nn 0 k))).va]) false (cntW t.ps.length ah.length nn 0) [30,34,114,115,U32,28,117] [3]:=by
 intro gs;obtain ⟨hs2,hs13,_⟩:=hd_b (gh hck).1;refine ⟨⟨_,Tryz.func105,by kernel_rfl,by kernel_rfl⟩,λ l B wE Db J0 J Jx hB hgn hcaps hoff hIt hJ0=>?_⟩;have hgb:=(eD hcaps).2;obtain ⟨g0,g1,rfl,c1,c2⟩:=All2.two hcaps;obtain ⟨hb0,cs0,hh0,hp0⟩:=c1;obtain ⟨hb1,cs1,hh1,hp1⟩:=c2;have hT:(ElP 30 (TkO t)).p B (ptr g0) wE:=Ci hh0 hp0;have hA:(ElP 34 (SlO 3 [] (ah.map λ (k:Nat)=>InA (k:Int)) True)).p B (ptr g1) wE:=Ci hh1 hp1;have hsz:wE.heap.size≤wE.heap.size:=qh _;refine mI (B:=B) [EqV (.func (.yield l) #[] #[]),KB (EqV (ptr g0)) (ElP 30 (TkO t)),EqV (ptr g1)] Tryz.func105 G hB (.cons G (.cons ⟨rfl,hT⟩ (.cons G .nil))) nq (λ w0 a hw0 U=>?_);subst hw0;have U:St B (bm wE) 15 [(0,_),(1,_),(2,_)] [] a wE:=U;refine qb<|zg [] [zpL 3 114 0 _] Ub [.g 1,.g 2] U (oc (B1 G G G (JI G (gq 0 G))) o0) (λ a w U=>?_);have U:St B (bm wE) 15 [(1,_),(2,_)] [O 3 114 _] a w:=U;obtain ⟨q3,U⟩:=St.nm U 0 rfl;have U:St B (bm wE) 15 [(3,_),(1,_),(2,_)] [O 3 114 _] a w:=U;have hY:=sw U 0 0 rfl rfl;have hgr:=bH U.base;have hT:=VA.grow _ _ _ _ _ hgr hT;have hA:=VA.grow _ _ _ _ _ hgr hA;have hJ0:=hIt.st0 _ _ hJ0 (d5 hgr) ((hIt.ct0 _ hJ0).grow hgr);have hsz:=qf hsz hgr.size;have U:=U.here rfl [0,1,2];obtain ⟨w1,rfl⟩:∃ x,x=w:=⟨_,rfl⟩;have U:St B (bm w1) 15 [(3,_),(1,_),(2,_)] [] _ w1:=U;refine zt<|bJ (sp:=[.v 6 _,.v 7 _,.skp,.skp,.skp]) 2 3 99 2 OneC [.g 0,.g 1,.g 2,.o 1] U (zv G (ap (has_wk' (gq 1 G) NW) cU) (zQ G ((rO t).wk (.cons tko_A.va .nil)) (.o (vq 0 G)) o0)) G zd zk zk (λ a w U=>?_);have U:St B (bm w1) 15 [(3,_),(1,_),(2,_),(7,_)] [] a w:=U;rw [show List.range' 2 3=[2,3,4] from rfl];have U:=St.wkG U 1 rfl NX;have U:St B (bm w1) 15 [(3,_),(1,_),(2,_),(7,_)] [] a w:=U;rw [qv];rw [Dq hs2 hs13,show t.sp.length-1=nn by omega] at U;have hsz1:=qf hsz (bH U.base).size;refine Gl (n:=nn) 3 G U Mz G zo zd zk zk (λ a W hp U hqp hge hgp=>?_);obtain ⟨w,rfl⟩:∃ x,x=W:=⟨_,rfl⟩;have U:St B (bm w1) 15 [(8,_),(3,_),(1,_),(2,_),(7,_)] [] a w:=U;have hloh:wE.heap.size≤hp:=qf hsz1 hge;have hgr:=bH U.base;have hT:=VA.grow _ _ _ _ _ hgr hT;have hA:=VA.grow _ _ _ _ _ hgr hA;have hY:=VA.grow _ _ _ _ _ hgr hY;have hJ0:=hIt.st0 _ _ hJ0 (d5 hgr) ((hIt.ct0 _ hJ0).grow hgr);have hsz:=qf hsz hgr.size;have U:=U.here rfl [0,1,2,3,4];obtain ⟨w2,rfl⟩:∃ x,x=w:=⟨_,rfl⟩;have U:St B (bm w2) 15 [(8,_),(3,_),(1,_),(2,_),(7,_)] [] _ w2:=U;have U:=St.wkG U 0 rfl (L1 rfl);have U:St B (bm w2) 15 [(8,_),(3,_),(1,_),(2,_),(7,_)] [] _ w2:=U;refine gy 0 [1,2,3] G G U Hi G cC G zd zk zk zk (λ a w U=>?_);refine dX ?_;have U:St B (bm w2) 15 [(3,_),(1,_),(2,_)] [O 4 34 _] a w:=U;obtain ⟨q4,U⟩:=St.nm U 0 rfl;have U:St B (bm w2) 15 [(4,_),(3,_),(1,_),(2,_)] [O 4 34 _] a w:=U;have hP:=sw U 0 0 rfl rfl;have hqp:=eJ hqp (bH U.base);have hgr:=bH U.base;have hT:=VA.grow _ _ _ _ _ hgr hT;have hA:=VA.grow _ _ _ _ _ hgr hA;have hY:=VA.grow _ _ _ _ _ hgr hY;have hJ0:=hIt.st0 _ _ hJ0 (d5 hgr) ((hIt.ct0 _ hJ0).grow hgr);have hsz:=qf hsz hgr.size;have U:=U.here rfl [0,1,2,3];obtain ⟨w3,rfl⟩:∃ x,x=w:=⟨_,rfl⟩;have U:St B (bm w3) 15 [(4,_),(3,_),(1,_),(2,_)] [] _ w3:=U;refine zt<|zg [] [zpL 5 115 0 _] Ub Wp U (zY G Hj o0) (λ a w U=>?_);have U:St B (bm w3) 15 [(4,_),(3,_),(1,_),(2,_)] [O 5 115 _] a w:=U;obtain ⟨q5,U⟩:=St.nm U 0 rfl;have U:St B (bm w3) 15 [(5,_),(4,_),(3,_),(1,_),(2,_)] [O 5 115 _] a w:=U;refine zt<|zg Uf [] [.v 9 _,.sto 0] Wi U (zv G (LQ (vs:=[ptr g0,ptr q4,ptr q3,ptr g1,ptr q5]) (.cons (gq 3 G) (.cons (gq 1 G) (.cons (gq 2 G) (.p (gq 4 G) (gq 0 G)))))) (zS 0 G yr o0)) (λ a w U=>?_);have U:St B (bm w3) 15 [(5,_),(4,_),(3,_),(1,_),(2,_)] [O 5 115 _] a w:=U;have hD:=sw U 0 0 rfl rfl;have hqp:=eJ hqp (bH U.base);have hgr:=bH U.base;have hT:=VA.grow _ _ _ _ _ hgr hT;have hA:=VA.grow _ _ _ _ _ hgr hA;have hY:=VA.grow _ _ _ _ _ hgr hY;have hP:=VA.grow _ _ _ _ _ hgr hP;have hJ0:=hIt.st0 _ _ hJ0 (d5 hgr) ((hIt.ct0 _ hJ0).grow hgr);have hsz:=qf hsz hgr.size;have U:=U.here rfl [0,1,2,3,4];obtain ⟨w4,rfl⟩:∃ x,x=w:=⟨_,rfl⟩;have U:St B (bm w4) 15 [(5,_),(4,_),(3,_),(1,_),(2,_)] [] _ w4:=U;have U:=St.elpG U 0 rfl hD;have U:St B (bm w4) 15 [(5,_),(4,_),(3,_),(1,_),(2,_)] [] _ w4:=U;refine aa<|ia (sp:=[.v 10 _,.v 11 _,.v 12 _,.v 13 _,.skp]) [[],[],[1],[1,2],[0,1,2,3]] 4 1 99 4 OneC [.g 0,.g 1,.g 2,.g 3,.g 4,.o 0,.o 3] ac U (zv G (ap (gq 0 G) yr) (zQ G P4 .nil (zQ G Eh .nil (zv G (aS (qs:=[(0,_),(1,_)]) iL (.cons ⟨rfl,vq 1 rfl,rfl⟩ (.cons ⟨rfl,vq 2 rfl,rfl⟩ .nil))) o0)))) G zd zd zk (fI zk) zk zk (λ a w U=>?_);have U:St B (bm w4) 15 [(5,_),(4,_),(3,_),(1,_),(2,_),(10,_),(13,_)] [] a w:=U;rw [show List.range' 4 1=[4] from rfl];have e10:=lh (U.vals (10,_) (zm 5 rfl));have hvr:=(U.vals (13,_) (zm 6 rfl));have hqp:=eJ hqp (bH U.base);have hgr:=bH U.base;have hT:=VA.grow _ _ _ _ _ hgr hT;have hA:=VA.grow _ _ _ _ _ hgr hA;have hY:=VA.grow _ _ _ _ _ hgr hY;have hP:=VA.grow _ _ _ _ _ hgr hP;have hD:=VA.grow _ _ _ _ _ hgr hD;have hJ0:=hIt.st0 _ _ hJ0 (d5 hgr) ((hIt.ct0 _ hJ0).grow hgr);obtain ⟨hi,hhi⟩:∃ x,w.heap.size=x:=⟨_,rfl⟩;have hlt:=(Array.getElem?_eq_some_iff.1 hqp).1;have hJ1:=hIt.go hi w zo hJ0;obtain ⟨e,he⟩:∃ e:DnE,e=⟨l,B,wE.heap.size,hi,hp,nn,g0,q4,q3,g1,q5,t,ah,Db,[g0,g1],cntW t.ps.length ah.length nn 0,J hi,Jx⟩:=⟨_,rfl⟩;have ok:e.Ok:=by subst he;exact ⟨hB,hgb,⟨hloh,by show hp<hi;omega⟩,hck,by show t.sp.length=nn+1;omega,hah,rfl,hoff,λ k W W' hk hj hs hc=>hIt.st hi k W W' hk hj hs hc,λ W W' hj hs hc=>hIt.stM hi W W' hj hs hc,hIt.stx,hIt.ct hi,hIt.ctx,λ k W args hk hj ha=>hIt.yd hi k W args hk hj ha⟩
 have hcall:=Cq ok nn 0 [] 0 w (List.replicate nn 0) (a.eval (.tmp 13)) rfl (by subst he;exact qV _) (λ x hx=>by cases hx) (λ r hr=>by subst he;rw [qV];rfl) (by subst he;rw [qV];exact qh _) (by subst he;exact hJ1) (by subst he;exact ⟨hT,hP,hY,hA,hD⟩) (by subst he;exact hqp) (by subst he;exact qR) rfl (by have h1:=dn_m ok (l:=[]) (zf _) (λ x hx=>by cases hx);subst he;exact (sE rfl rfl h1).va _ _ _ hvr);rw [qv];refine tB (f:=106) (xs:=[.const (.int .i64 0),.const (.int .i64 0),.tmp 13]) (gs:=e.cap) G ⟨_,Tryz.func106,by kernel_rfl,by kernel_rfl⟩ (by subst he;exact e10) hcall (λ x w5 hR=>?_);have hR2:∃ b,x=.returned b∧w.heap.size≤w5.heap.size∧((∃ hi,J hi (cntW t.ps.length ah.length nn 0) w5)∨Jx w5):=by
  subst he;rcases hR with ⟨h1,h2,h3,_⟩|⟨h1,h2,h3⟩
  ·exact ⟨_,h1,h3.size,.inl ⟨hi,by rw [qV] at h2;exact h2⟩⟩
  ·exact ⟨_,h1,h3,.inr h2⟩
 obtain ⟨b,hx,hsz5,hR3⟩:=hR2;refine ⟨_,hx,?_⟩;have U:=(St.bare U rfl hsz5).addV (d:=14) (v:=b) (A:=VT) zd zk zk trivial;refine dX ?_;refine cY<|Kl G U G (λ v w6 hg6=>⟨v,rfl,?_⟩);rcases hR3 with ⟨hi,h1⟩|h1
 ·exact .inl ⟨hi,hIt.stM hi _ _ h1 (d5 hg6) ((hIt.ct hi _ _ h1).grow hg6)⟩
 ·exact .inr (hIt.stx _ _ h1 (d5 hg6) ((hIt.ctx _ h1).grow hg6))
def ItB (b:Nat)(f:FuncId)(cf:List Nat→List (TypeId × As))(D:List TypeId)(hD:∀ gs,(ItV f (cf gs) gs).deps=D):VA where
 p B v w:=∃ gs,(ItV f (cf gs) gs).p B v w∧∀ g∈gs,b≤g
 deps:=D
 cg:=λ B v w w' hg ⟨gs,h1,h2⟩=>⟨gs,(ItV f (cf gs) gs).cg B v w w' hg h1,h2⟩
 wr:=λ B v w w' g c T fz h1 hT h3 h4 ⟨gs,h5,h6⟩=>⟨gs,(ItV f (cf gs) gs).wr B v w w' g c T fz h1 (by rw [hD gs];exact hT) h3 h4 h5,h6⟩
def ItM (f:FuncId)(cf:List Nat→List (TypeId × As))(D:List TypeId)(hD:∀ gs,(ItV f (cf gs) gs).deps=D)(ns:List Nat):VA where
 p B v w:=∃ gs,(ItV f (cf gs) gs).p B v w∧∀ n∈ns,n ∉ gs
 deps:=D
 cg:=λ B v w w' hg ⟨gs,h1,h2⟩=>⟨gs,(ItV f (cf gs) gs).cg B v w w' hg h1,h2⟩
 wr:=λ B v w w' g c T fz h1 hT h3 h4 ⟨gs,h5,h6⟩=>⟨gs,(ItV f (cf gs) gs).wr B v w w' g c T fz h1 (by rw [hD gs];exact hT) h3 h4 h5,h6⟩
def CapN (Γ:List (Nat × VA))(Λ:List Lc):List Nat→List (TypeId × As)→List Nat→List (Nat × Nat)→Prop
 | [],[],[],[]=>True
 | g::gs,c::cs,s::ss,(x,y)::ix=>(Γ[x]?=some (s,EqV (ptr g))∧Λ[y]?=some ⟨s,c.1,ptrH,c.2⟩)∧CapN Γ Λ gs cs ss ix
 | _,_,_,_=>False
theorem sL {B N:Nat}{w0:Bs}{Γ:Yf}{Λ:Yk}{a:Act}{w:Yi}(h:St B w0 N Γ Λ a w):∀ {gs:Ya}{cs:List (Yh × As)}{ss:Ya}{ix:List (Nat × Nat)},CapN Γ Λ gs cs ss ix →
  nH B w cs gs∧(∀ g∈gs,w0.may g)∧∀ g∈gs,∃ s∈ss,∃ l∈Λ,l.s=s∧a.eval (.tmp s)=ptr g
 | [],[],[],[],_=>⟨.nil,(λ _ h=>by cases h),(λ _ h=>by cases h)⟩
 | g::gs,c::cs,s::ss,(x,y)::ix,hc=>by
  obtain ⟨⟨e1,e2⟩,h3⟩:=hc;obtain ⟨i1,i2,i3⟩:=sL h h3;have hn:a.eval (.tmp s)=ptr g:=h.vals _ (qa e1);obtain ⟨g',ds,f1,f2,f3,f4⟩:=h.locs _ (qa e2);have f1':a.eval (.tmp s)=ptr g':=f1;have eg:g'=g:=by rw [hn] at f1';injection f1' with f1';injection f1' with f1';injection f1' with f1';exact f1'.symm
  subst eg;refine ⟨.cons ⟨h.lo _ f2,ds,f3,f4⟩ i1,λ g hg=>?_,λ g hg=>?_⟩
  ·rcases qr.1 hg with rfl|hg
   ·exact f2
   ·exact i2 g hg
  ·rcases qr.1 hg with rfl|hg
   ·exact ⟨s,xx,_,qa e2,rfl,hn⟩
   ·obtain ⟨s',q1,q2⟩:=i3 g hg;exact ⟨s',zi _ q1,q2⟩
 | [],_::_,_,_,h=>h.elim
 | [],[],_::_,_,h=>h.elim
 | [],[],[],_::_,h=>h.elim
 | _::_,[],_,_,h=>h.elim
 | _::_,_::_,[],_,h=>h.elim
 | _::_,_::_,_::_,[],h=>h.elim
theorem CL {B N:Nat}{w0:Bs}{Γ:Yf}{Λ:Yk}{a:Act}{w:Yi}(h:St B w0 N Γ Λ a w):∀ {gs:Ya}{cs:List (Yh × As)}{ss:Ya}{ix:List (Nat × Nat)},CapN Γ Λ gs cs ss ix→ss.Nodup→gs.Nodup
 | [],_,_,_,_,_=>jr
 | g::gs,c::cs,s::ss,(x,y)::ix,hc,hn=>by
  obtain ⟨⟨e1,e2⟩,h3⟩:=hc;obtain ⟨n1,n2⟩:=jj.1 hn;refine jj.2 ⟨λ hm=>?_,CL h h3 n2⟩;obtain ⟨s',q1,l,q2,q3,q4⟩:=(sL h h3).2.2 g hm;have hg:a.eval (.tmp s)=ptr g:=h.vals _ (qa e1);refine h.dis _ (qa e2) l q2 (λ e=>n1 ?_) ?_
  ·have e':s=l.s:=e;rw [e',q3];exact q1
  ·show blk (a.eval (.tmp s))=blk (a.eval (.tmp l.s));rw [q3,q4,hg]
 | _::_,[],_,_,h,_=>by simp [CapN] at h
 | _::_,_::_,[],_,h,_=>by simp [CapN] at h
 | _::_,_::_,_::_,[],h,_=>by simp [CapN] at h
theorem LD {fn:Func}{B N t:Nat}{f:Yn}{cf:Ya→List (Yh × As)}{hD:∀ gs,(ItV f (cf gs) gs).deps=D}(gs ss:Ya)(ix:List (Nat × Nat))(hr:fn.results = #[.tmp t])(h:St B w0 N Γ Λ a w)(hF:∀ g,¬ w0.F g)
  (hm:(t,(EqA (.func (.func f) #[] (gs.map ptr).toArray)).va)∈Γ) (hc:CapN Γ Λ gs (cf gs) ss ix) (hs:ss.Nodup):bZ P fn (RQ B w0 (ItB w0.w.heap.size f cf D hD)) .ret a w :=
 g9 h λ w h=>by
  have h1:=sL h hc;refine ⟨_,results_tmp hr a.tmps P w,_,rfl,⟨gs,⟨lh (h.vals _ hm),CL h hc hs,h1.1⟩,λ g hg=>?_⟩,h.base⟩;rcases h1.2.1 g hg with q|q
  ·exact q
  ·exact absurd q (hF _)
theorem St.itm {B N:Nat}{s:Nat}{f:Yn}{cf:Ya→List (Yh × As)}{hD:∀ gs,(ItV f (cf gs) gs).deps=D}{ps:List (Nat × Nat)}(k:Nat)(ks:Ya)(h:St B w0 N Γ Λ a w)(hm:Γ[k]?=some (s,ItM f cf D hD (ps.map Prod.snd)))(hn:Nmd Γ ps ks):
  ∃ gb,St B w0 N (Γ.set k (s,ItV f (cf gb) gb)) Λ a w∧∀ t∈ps.map xb,∀ g,blk (a.eval (.tmp t))=some g→g ∉ gb:=by
 obtain ⟨gb,h1,h2⟩:=h.vals _ (qa hm);refine ⟨gb,⟨h.lo,h.defers,h.size,h.base,λ x hx=>?_,h.locs,h.dis⟩,λ t ht g hg=>?_⟩
 ·rcases qq hx with hx|rfl
  ·exact h.vals x hx
  ·exact h1
 ·have key:∀ (ps:List (Nat × Nat)) (ks:List Nat),Nmd Γ ps ks→∀ p∈ps,a.eval (.tmp p.1)=ptr p.2:=by
   intro ps
   induction ps with
   | nil=>intro _ _ p hp;cases hp
   | cons q ps ih =>
    intro ks hk p hp;cases ks with
    | nil=>exact hk.elim
    | cons k ks =>
     obtain ⟨e1,e2⟩:=hk;rcases qr.1 hp with rfl|hp
     ·exact h.vals _ (qa e1)
     ·exact ih ks e2 p hp
  obtain ⟨p,hp,rfl⟩:=qp.1 ht;rw [key ps ks hn p hp] at hg;have:p.2=g:=by injection hg
  rw [← this];exact h2 p.2 (qp.2 ⟨p,hp,rfl⟩)
section
variable {P:Program}{R:Rg}{Q:Exit→Act→World→Prop}{B i:Nat}{w0:Bs}
theorem An {f f':Yn}{pre:Yc}{cf:Ya→List (Yh × As)}{hD:∀ gs,(ItV f (cf gs) gs).deps=D}{xs:Ys}{at_:Yr}(ns:List (Nat × Nat))(hc:CnI P f' pre (λ b=>ItB b f cf D hD))(hx:HasL R B w0 i xs pre)(hns:Nmo R B w0 i ns):
  Wv P Q R B w0 i (.call ⟨.value (.func f'),xs.toArray,at_⟩) (ItM f cf D hD (ns.map Prod.snd)):=by
 intro d T' ps af gd a w av K hK;obtain ⟨⟨fn,hf,hn,hb⟩,hcall⟩:=hc;have hrun:(execOp a.eval ⟨some d,.call ⟨.value (.func f'),xs.toArray,at_⟩,T',ps,af,gd⟩).run P w=.ok (.enter f' (xs.map a.eval).toArray) w:=by
  have e1:a.eval (.func f')=.func (.func f') #[] #[]:=rfl;simp only [execOp,resolve,e1,Deferred.ofValue,Sem.run_bind,Sem.run_pure,Result.andThen_ok,invoke,bb hf hn hb];simp
 unfold Oper.wp;rw [hrun];refine (hcall B w _ (Av.bw av) (hx.all av)).mono λ e w' ⟨v,he,⟨gs,h1,h2⟩,hg⟩=>?_;subst he;refine hK v w' hg ⟨gs,h1,λ n hn' hm=>?_⟩;obtain ⟨p,hp',rfl⟩:=qp.1 hn';have h3:=hns.lt av p hp';have h4:=h2 _ hm;omega
end
abbrev alC (t:RTk)(ah:List Nat)(_:List Nat):List (TypeId × As):=[(30,TkO t),(34,SlO 3 [] (ah.map λ (k:Nat)=>InA (k:Int)) True)]
abbrev alDs:List TypeId:=[30,34,U32,U32,U32,U32]
theorem al_D (t:RTk)(ah:Ya):∀ gs,(ItV 105 (alC t ah gs) gs).deps=alDs:=λ _=>rfl
theorem KM (t:RTk)(ah:Ya):CnI Tryz.prog 22 [(TkO t).va,(SlO 3 [] (ah.map λ (k:Nat)=>InA (k:Int)) True).va] (λ b=>ItB b 105 (alC t ah) alDs (al_D t ah)):=by
 refine CnI.introF Tryz.func22 G zk nq (λ B w0 a hF0 hF U=>?_);have U:=zn [(0,(TkO t).va),(1,(SlO 3 [] (ah.map λ (k:Nat)=>InA (k:Int)) True).va)] [] U;refine qb<|zg [] [zpL 2 30 0 _,zpL 3 34 1 _] Uz U9 U (zW 0 G (zW 1 G (zE G b9))) (zz U0 [O 2 30 _,O 3 34 _] λ a w U=>?_);refine zt ?_;obtain ⟨q2,U⟩:=St.nm U 0 rfl;obtain ⟨q3,U⟩:=St.nm U 1 rfl;refine zg UE [] [.v 5 _,.v 4 _] UF U (zv G (LQ (vs:=[ptr q2,ptr q3]) (.p (gq 1 G) (gq 0 G))) (zA 0 G o0)) (zz (Wa 3 2 4) [O 2 30 _,O 3 34 _] λ a w U=>?_);exact aa<|qi<|LD [q2,q3] [2,3] [(1,0),(0,1)] G U hF0 (zm 2 G) ⟨⟨rfl,rfl⟩,⟨rfl,rfl⟩,trivial⟩ zd
def SlP (q:Nat→Prop)(E:TypeId)(D:List TypeId)(l:List As):As where
 n:=1
 ag:=false
 p B cs w:=(SlA E D l).p B cs w∧∀ v∈cs,∀ g,blk v=some g→q g
 deps:=E::D
 len:=λ B cs w h=>(SlA E D l).len B cs w h.1
 one:=λ B cs w h=>(SlA E D l).one B cs w h.1
 ag1:=λ _=>rfl
 cg:=λ B cs w w' hg h=>⟨(SlA E D l).cg B cs w w' hg h.1,h.2⟩
 wr:=λ B cs w w' g c T fz h1 h2 h3 h4 h=>⟨(SlA E D l).wr B cs w w' g c T fz h1 h2 h3 h4 h.1,h.2⟩
theorem Lt {q:Nat→Prop}{E:Yh}{l:Yb}:WkA (SlP q E D l) (SlA E D l):=⟨rfl,rfl,λ _ _ _ h=>h.1⟩
theorem Dt {q q':Nat→Prop}{E:Yh}{l:Yb}(h:∀ g,q g→q' g):WkA (SlP q E D l) (SlP q' E D l):=⟨rfl,rfl,λ _ _ _ hp=>⟨hp.1,λ v hv g hg=>h g (hp.2 v hv g hg)⟩⟩
theorem Dp {lo hi:Nat}{Tp Tc:Yq}:∀ {l:Yb},(∀ A∈l,StVA lo hi Tp Tc A)→StVA lo hi Tp Tc (cat l):=λ {l} hl B cs gs W W' hlo hp hs hc hb=>by
 obtain ⟨ps,rfl,h2⟩:=hp;refine ⟨ps,rfl,?_⟩;revert hl
 induction h2 with
 | nil=>exact λ _=>.nil
 | cons h _ ih=>exact λ hl=>.cons (hl _ xx _ _ _ _ _ hlo h hs hc hb) (ih λ A hA=>hl A (zi _ hA))
def Od (lo hi:Nat)(Tp Tc:List TypeId):List Lc→Prop
 | []=>True
 | l::L=>StVA lo hi Tp Tc l.A∧Od lo hi Tp Tc L
theorem stVL {lo hi:Nat}{Tp Tc:Yq}:∀ {L:Yk},Od lo hi Tp Tc L→∀ l∈L,StVA lo hi Tp Tc l.A
 | _::_,h,l,hl=>by
  rcases qr.1 hl with rfl|hl
  ·exact h.1
  ·exact stVL h.2 l hl
def optA (k:Nat)(Z X:As)(h:X.n=Z.n∧X.ag=Z.ag):As where
 n:=Z.n
 ag:=Z.ag
 p B cs w:=(k=0∧Z.p B cs w)∨(k≠0∧X.p B cs w)
 deps:=Z.deps++X.deps
 len:=λ B cs w hp=>by
  rcases hp with ⟨_,hp⟩|⟨_,hp⟩
  ·exact Z.len _ _ _ hp
  ·exact (X.len _ _ _ hp).trans h.1
 one:=λ B cs w hp=>by
  rcases hp with ⟨_,hp⟩|⟨_,hp⟩
  ·exact Z.one _ _ _ hp
  ·exact X.one _ _ _ hp
 ag1:=Z.ag1
 cg:=λ B cs w w' hg hp=>by
  rcases hp with ⟨h1,hp⟩|⟨h1,hp⟩
  ·exact .inl ⟨h1,Z.cg _ _ _ _ hg hp⟩
  ·exact .inr ⟨h1,X.cg _ _ _ _ hg hp⟩
 wr:=λ B cs w w' g c T fz h1 h2 h3 h4 hp=>by
  simp only [qn,not_or] at h2;rcases hp with ⟨h5,hp⟩|⟨h5,hp⟩
  ·exact .inl ⟨h5,Z.wr _ _ _ _ _ _ _ _ h1 h2.1 h3 h4 hp⟩
  ·exact .inr ⟨h5,X.wr _ _ _ _ _ _ _ _ h1 h2.2 h3 h4 hp⟩
theorem AT {Z X:As}{h:X.n=Z.n∧X.ag=Z.ag}:WkA Z (optA 0 Z X h):=⟨rfl,rfl,λ _ _ _ hp=>.inl ⟨rfl,hp⟩⟩
theorem AS {k:Nat}{Z X:As}{h:X.n=Z.n∧X.ag=Z.ag}(hk:k≠0):WkA X (optA k Z X h):=⟨h.1.symm,h.2.symm,λ _ _ _ hp=>.inr ⟨hk,hp⟩⟩
theorem AR {k:Nat}{Z X:As}{h:X.n=Z.n∧X.ag=Z.ag}(hk:k≠0):WkA (optA k Z X h) X:=⟨h.1,h.2,λ _ _ _ hp=>by
 rcases hp with ⟨h1,_⟩|⟨_,hp⟩
 ·exact absurd h1 hk
 ·exact hp⟩
theorem Do {lo hi k:Nat}{Tp Tc:Yq}{Z X:As}{h:X.n=Z.n∧X.ag=Z.ag}(hZ:StVA lo hi Tp Tc Z)(hX:k≠0→StVA lo hi Tp Tc X):StVA lo hi Tp Tc (optA k Z X h):=λ B cs gs W W' hlo hp hs hc hb=>by
 rcases hp with ⟨h1,hp⟩|⟨h1,hp⟩
 ·exact .inl ⟨h1,hZ _ _ _ _ _ hlo hp hs hc hb⟩
 ·exact .inr ⟨h1,hX h1 _ _ _ _ _ hlo hp hs hc hb⟩
theorem Ew (l:Yl):offD D (cat (l.map InA)).deps=true:=qe.2 λ T hT=>by
 obtain ⟨A,hA,hT⟩:=kY.1 hT;obtain ⟨x,_,rfl⟩:=qp.1 hA;cases hT
theorem St.upL {B N:Nat}(h:St B w0 N Γ Λ a w){s T:Nat}{A A':As}(i:Nat)(hm:Λ[i]?=some ⟨s,T,H,A⟩)(hA:∀ cs,A.p B cs w→A'.p B cs w):St B w0 N Γ (Λ.set i ⟨s,T,H,A'⟩) a w:=by
 have hin:∀ m∈Λ.set i ⟨s,T,H,A'⟩,∃ m'∈Λ,m'.s=m.s:=λ m hm'=>by
  rcases qq hm' with hm' | rfl
  ·exact ⟨m,hm',rfl⟩
  ·exact ⟨_,qa hm,rfl⟩
 refine ⟨h.lo,h.defers,h.size,h.base,h.vals,λ m hm'=>?_,λ m h1 m' h2 hne=>?_⟩
 ·rcases qq hm' with hm' | rfl
  ·exact h.locs m hm'
  ·obtain ⟨g,cs,e1,e2,e3,e4⟩:=h.locs _ (qa hm);exact ⟨g,cs,e1,e2,e3,hA cs e4⟩
 ·obtain ⟨p,q1,q2⟩:=hin m h1;obtain ⟨p',q3,q4⟩:=hin m' h2;rw [← q2,← q4];exact h.dis p q1 p' q3 (by rw [q2,q4];exact hne)
def ElQ (gb:List Nat)(b0:Nat)(E:TypeId)(A:As):VA where
 p B v w:=(ElP E A).p B v w∧∃ g,v=ptr g∧g ∉ gb∧g<b0
 deps:=E::A.deps
 cg:=λ B v w w' hg h=>⟨(ElP E A).cg _ _ _ _ hg h.1,h.2⟩
 wr:=λ B v w w' g c T fz h1 h2 h3 h4 h=>⟨(ElP E A).wr _ _ _ _ _ _ _ _ h1 h2 h3 h4 h.1,h.2⟩
theorem St.toQ {B N:Nat}(h:St B w0 N Γ Λ a w){s:Nat}{A:As}{gb:Ya}(k:Nat)(hm:Λ[k]?=some ⟨s,T,ptrH,A⟩)(hd:∀ g,blk (a.eval (.tmp s))=some g→g ∉ gb):St B w0 N ((s,ElQ gb w.heap.size T A)::Γ) (Λ.eraseIdx k) a w:=by
 have h2:=St.ofPtr h k hm;obtain ⟨g,cs,e1,_,e3,e4⟩:=h.locs _ (qa hm);have e1':a.eval (.tmp s)=ptr g:=e1;refine ⟨h2.lo,h2.defers,h2.size,h2.base,λ x hx=>?_,h2.locs,h2.dis⟩;rcases qr.1 hx with rfl|hx
 ·exact ⟨h2.vals _ xx,g,e1',hd g (by rw [e1'];rfl),(Array.getElem?_eq_some_iff.1 e3).1⟩
 ·exact h2.vals x (zi _ hx)
def natL (l:List Int):List Nat:=l.map Int.toNat
theorem Lr {l:Yl}{m:Ya}(h:l=m.map (λ (k:Nat)=>(k:Int))):SlO 3 [] (l.map InA) True=SlO 3 [] (m.map λ (k:Nat)=>InA (k:Int)) True:=by rw [h,xq];rfl
theorem Og (l:Yl):UpA (SlA 3 [] (l.map InA)) (SlO 3 [] (l.map InA) True):=iG λ A hA=>by
 obtain ⟨x,_,rfl⟩:=qp.1 hA;exact mX _ _
abbrev WyZ:As:=cat [EqA (.slice none 0 0),RFA rf0,RFA rf0,NumA .i64 0]
abbrev Wk26 (nn:Nat):Nat:=dnK (nn+2)+4200
theorem iE {nn:Nat}(h:nn≤12):Wk26 nn≤400000000:=by unfold Wk26 dnK;omega
abbrev WyX (t:RTk)(nn:Nat)(a:List Nat):As:=WyA (Wk26 nn) (wayW t a)
theorem CY:Zero Tryz.prog 3 (NumA .i64 0):=Zero.of (z:=.int .i64 0) zk (λ _ _=>rfl)
def G2N (x:RF × RF):As:=cat [RFN x.1,RFN x.2]
def G2D (x:RF × RF):As:=DisA (G2N x)
theorem AC {k:Nat}{q:Rat}:WkA (QD k q) (RFN (rfOf q)):=qd_rfd.trans dis_wk
theorem lU:Str Tryz.prog 106 [cat [NilI,NilI],cat [NilI,NilI]] :=
 Str.of (z:=.agg #[.bool false,.slice none 0 0,.bool false,.slice none 0 0,.bool false,.slice none 0 0,.bool false,.slice none 0 0]) zk vP zk λ B w=>⟨[[.bool false,.slice none 0 0,.bool false,.slice none 0 0],[.bool false,.slice none 0 0,.bool false,.slice none 0 0]],rfl,.cons ⟨[[.bool false,.slice none 0 0],[.bool false,.slice none 0 0]],rfl,.cons ⟨[[.bool false],[.slice none 0 0]],rfl,.cons rfl (.cons rfl .nil)⟩ (.cons ⟨[[.bool false],[.slice none 0 0]],rfl,.cons rfl (.cons rfl .nil)⟩ .nil)⟩ (.cons ⟨[[.bool false,.slice none 0 0],[.bool false,.slice none 0 0]],rfl,.cons ⟨[[.bool false],[.slice none 0 0]],rfl,.cons rfl (.cons rfl .nil)⟩ (.cons ⟨[[.bool false],[.slice none 0 0]],rfl,.cons rfl (.cons rfl .nil)⟩ .nil)⟩ .nil)⟩
theorem zg2_d:WkA (cat [cat [NilI,NilI],cat [NilI,NilI]]) (G2D (rf0,rf0)):=⟨rfl,rfl,λ B cs w ⟨ps,e,hq⟩=>by
 cases hq with
 | @cons _ c0 _ _ h0 hq=>cases hq with
  | @cons _ c1 _ _ h1 hq =>
   cases hq;refine ⟨⟨[c0,c1],e,.cons (zf_rfd.2.2 _ _ _ h0).1 (.cons (zf_rfd.2.2 _ _ _ h1).1 .nil)⟩,?_⟩;rw [e,mo h0,mo h1];exact jr⟩
theorem g2_pins {u v:Yo}{c d:Nat}{x y:Rat}:WkA (cat [PinA u ((QD c x).and (eY [] u)),PinA v ((QD d y).and (eY [u] v))]) (G2D (rfOf x,rfOf y)) :=
 (uq (l:=[(u,QD c x),(v,QD d y)]) (λ y hy=>by
  simp at hy;rcases hy with rfl|rfl <;> exact Mt)).trans (lM (bi (.cons AC (.cons AC .nil))))
abbrev RwD (r:Int × (RF × RF) × Int):VA:=Tu [In r.1,(G2D r.2.1).va,In r.2.2]
theorem EN {r:Int × (RF × RF) × Int}:Free (RwD r) (RwD r):=sm (.cons (cq _ _).va (.cons (ir (bI (.cons (bI (.cons (dk _) (.cons (dk _) .nil))) (.cons (bI (.cons (dk _) (.cons (dk _) .nil))) .nil)))).va (.cons (cq _ _).va .nil)))
def loW (f:Nat→Rat):Nat→Rat
 | 0=>0
 | k+1=>if ((((k:Nat):Int)==0) || decide (cmQ (f k) (loW f k)<0))=true then f k else loW f k
def hiW (f:Nat→Rat):Nat→Rat
 | 0=>0
 | k+1=>if ((((k:Nat):Int)==0) || decide (cmQ (f k) (hiW f k)>0))=true then f k else hiW f k
def pwK (t:RTk)(ah:List Nat)(nn k:Nat):Rat:=powW t (exW t.ps.length ah nn 0 k)
abbrev NF:As:=cat [NilI,NilI]
abbrev lqA (b k:Nat)(x:Rat):As:=optA k NF (QA b x) ⟨rfl,rfl⟩
theorem lq_s {b k:Nat}{x:Rat}:WkA (QA b x) (lqA b (k+1) x):=AS (ja k)
theorem lq_x {b k:Nat}{x:Rat}(h:k≠0):WkA (lqA b k x) (QA b x):=AR h
theorem lq_0 {b:Nat}{x:Rat}:WkA NF (lqA b 0 x):=AT
theorem k_ne {k:Nat}(h:(((k:Nat):Int)==0)=false):k≠0:=λ e=>by subst e;cases h
theorem Jv {k:Nat}{b:Bool}(h:((((k:Nat):Int)==0) || b)=false):k≠0:=λ e=>by subst e;simp at h
abbrev GpO (b:Nat)(f:Nat→Rat)(j k:Nat):As:=cat [lqA b j (loW f j),lqA b k (hiW f k)]
theorem NB {t:RTk}(h:ckF t=0):wayB t.ps.length (t.sp.length-1)=false:=by
 obtain ⟨h1,h2,h3⟩:=gh h;unfold ckF at h;rw [qy (by rw [h1];decide),qy (by rw [h2];decide),qy (by rw [h3];decide)] at h;split at h
 ·cases h
 ·split at h
  ·cases h
  ·rename_i h5;simpa using h5
theorem Nr {t:RTk}{nn a:Nat}(h:ckF t=0)(hn:t.sp.length=nn+1):cntW t.ps.length a nn 0≤65536:=by
 have hp:=(hd_b (gh h).1).2.2.1;have h1:=FT (NB h);rw [hn,jl] at h1;exact qf (Cx zo nn 0) h1
theorem M4 {t:RTk}{l:Yl}{nn:Nat}(h:pkF t l=true)(h1:t.sp.length=nn+1)(h2:nn≤12):l=(natL l).map (λ (k:Nat)=>(k:Int))∧(natL l).length≤nn∧∀ x∈natL l,x<t.ps.length:=by
 unfold pkF at h;simp only [qo,qK,qz] at h;obtain ⟨h3,h4⟩:=h;have hs:sloF t=(nn:Int):=by
  unfold sloF;rw [wi64 zo zo];omega
 rw [hs] at h3;have h5:∀ x∈l,0≤x∧x<(t.ps.length:Int):=λ x hx=>by
  have:=xF.1 h4 x hx;unfold pkQ at this;simp only [zU,qK,not_or] at this;omega
 refine ⟨?_,by unfold natL;rw [qd];omega,λ x hx=>?_⟩
 ·unfold natL;rw [xq];exact (List.map_id l).symm.trans (ko λ x hx=>by
   have:=(h5 x hx).1;show x=((x.toNat:Nat):Int);omega)
 ·obtain ⟨y,hy,rfl⟩:=qp.1 hx;have:=h5 y hy;omega
def rowM (t:RTk)(xs:List Int):Nat:=cntW t.ps.length (natL xs).length (t.sp.length-1) 0
def rowP (t:RTk)(xs:List Int):Nat→Rat:=pwK t (natL xs) (t.sp.length-1)
def rowF (t:RTk)(xs:List Int):Int × (RF × RF) × Int:=if (ckF t != 0)=true then (0,(rf0,rf0),ckF t) else if (!pkF t xs)=true then (0,(rf0,rf0),1) else
 if [loW (rowP t xs) (rowM t xs),hiW (rowP t xs) (rowM t xs)].any cZ=true then (0,(rf0,rf0),4) else ((rowM t xs:Nat),(rfOf (loW (rowP t xs) (rowM t xs)),rfOf (hiW (rowP t xs) (rowM t xs))),0)
theorem oX (b:Bool):((if b then (4:Int) else 0) != 0)=b:=by cases b <;> rfl
set_option maxHeartbeats 2000000 in
theorem Lz (t:RTk)(xs:Yl):Cn Tryz.prog 98 [(TkA t).va,(SlA 3 [] (xs.map InA)).va] (RwD (rowF t xs)):=by
 refine Cn.introR Tryz.func98 G zk nq (.cons (yo t).va (.cons (Og xs).va .nil)) EN (λ B w0 a hB0 hN0 U=>?_);have U:=zn [(0,(TkO t).va),(1,(SlO 3 [] (xs.map InA) True).va)] [] U;refine qb<|zg [] [zpL 2 30 0 _,zpL 4 3 1 _,zpL 5 106 2 _] [.alc 0,.alc 1,.alc 2,.v 6 _] [.g 1,.o 3] U (zW 0 G (zY G CY (zY G (Str.zero lU) (zE G ab)))) (zz (Wc 1 6) RH ?_);refine ztA<|zsA<|zgA Ul [] (W6 10 [.v 7 _]) WY (zl 0 G cU (zQ G ((nR t).wk (.cons tko_A.va .nil)) (.o (vq 0 G)) (zA 1 G o0))) (zz (Wa 1 6 7) RH ?_);refine ztA<|zgA Ul [] (W6 12) WV (zM 2 G (zv G (c9 (vq 0 G) ab) o0)) (zz (Wf 1 6 7 13) RH λ a w U=>?_);refine zJ 3 U G (λ hb0=>?_) (λ hb0=>?_)
 ·refine qb<|zg [η,some (2,_),some (3,_)] [] (W6 14 [.sto 1,.sto 2,.v 6 _]) Uw U (zv G (aS (qs:=[]) lU .nil) (zM 2 G (oc (mn G G G ab ty_3 (xH (b:=1) G G)) (zS 0 G gK (zA 1 G o0))))) (zz (Wc 1 6) RH λ a w U=>?_);refine aa<|qi<|aj ?_;refine am ?_ (aX (rs:=[.cell 4 3,.cell 5 106,.tmp 6]) G U (.cell (zm 1 G) ty_3 (.cell (zm 2 G) gK (.tmp (zm 1 G) .nil))) zd);rw [show rowF t xs=(0,(rf0,rf0),ckF t) from qC hb0];exact tu3w aM zg2_d.va aM
 ·have hck:ckF t=0:=by simpa using hb0
  obtain ⟨hs2,hs13,hp1,_⟩:=hd_b (gh hck).1;obtain ⟨nn,hnn⟩:∃ nn,t.sp.length=nn+1:=⟨t.sp.length-1,by omega⟩;have hn12:nn≤12:=by omega
  refine qj<|zt<|qb<|zg UO [] (Ww 16) (We [.o 3]) U (zl 0 G cU (zM 0 G (zQ G ((E8 t xs).wk (.cons tko_A.va (.cons slo_A.va .nil))) (.p (vq 0 G) (vq 1 G)) (zv G (er (vq 2 G)) o0)))) (zz (Wa 1 6 19) RH λ a w U=>?_);refine zJ 2 U G (λ hb1=>?_) (λ hb1=>?_)
  ·refine qb<|zg [η,some (1,_),some (2,_)] [] [.v 20 _,.sto 1,.sto 2,.v 6 _] Ro U (zv G (aS (qs:=[]) lU .nil) (oc (mn G G G ab ty_3 (xH (b:=1) G G)) (zS 0 G gK (zE G ab)))) (zz (Wc 1 6) RH λ a w U=>?_);refine aa<|qi<|aj ?_;refine am ?_ (aX (rs:=[.cell 4 3,.cell 5 106,.tmp 6]) G U (.cell (zm 1 G) ty_3 (.cell (zm 2 G) gK (.tmp (zm 1 G) .nil))) zd);have e:rowF t xs=(0,(rf0,rf0),1):=by rw [rowF,qy (by rw [hb0];decide),qC hb1]
   rw [e];exact tu3w aM zg2_d.va aM
  ·obtain ⟨hxe,hxl,hxp⟩:=M4 (by simpa using hb1) hnn hn12;have hrM:rowM t xs=cntW t.ps.length (natL xs).length nn 0:=by unfold rowM;rw [hnn];rfl
   have hrP:rowP t xs=pwK t (natL xs) nn:=by unfold rowP;rw [hnn];rfl
   obtain ⟨u1,hu1⟩:∃ l,natL xs=l:=⟨_,rfl⟩;rw [hu1] at hxe hxl hxp hrM hrP;have hcm:=Nr (a:=u1.length) hck hnn;have hcp:0<cntW t.ps.length u1.length nn 0:=dL zo _ _;refine qj<|zt<|qb ?_;have U:=St.wkG U 0 rfl (bf (qt As.va (Lr hxe)));have U:=zn (Wa 1 6 19) RH U;obtain ⟨q4,U⟩:=St.nm U 1 rfl;obtain ⟨q5,U⟩:=St.nm U 2 rfl;refine zg UO [] (Wb 21) UX U (zl 0 G cU (zM 2 G (zv G (An [(4,q4),(5,q5)] (KM t u1) (.p (vq 0 G) (vq 1 G)) (.cons (gq 1 G) (lz0 1 G) (.cons (gq 0 G) (lz0 2 G) .nil))) o0))) (zz (Wf 5 4 6 23) RH λ a w U=>?_);obtain ⟨gb,U,hds⟩:=St.itm (ps:=[(4,q4),(5,q5)]) 3 [1,0] U rfl ⟨rfl,rfl,trivial⟩;have U:=zn (Wf 5 4 6 23) RH U;have U:=St.wkL (A':=GpO (Wk26 nn) (pwK t u1 nn) 0 0) U 2 rfl (bi (.cons lq_0 (.cons lq_0 .nil)));have U:=zn (Wf 5 4 6 23) RH U;refine aa<|qk ?_;have U:=St.selL U [1,2];refine r5 (k0:=3) (gb:=gb) (Dd:=[30,34,114,115,U32,28,117]) (Db:=[3,106]) (Tp:=[3]) [⟨4,3,ptrH,NumA .i64 ((0:Nat):Int)⟩,⟨5,106,ptrH,GpO (Wk26 nn) (pwK t u1 nn) 0 0⟩] (λ hi k=>[⟨4,3,ptrH,NumA .i64 ((k:Nat):Int)⟩,⟨5,106,ptrH,GpO (Wk26 nn) (pwK t u1 nn) k k⟩]) none (λ _=>none) U hB0 hN0 rfl (CW hck hnn ⟨hxl,hxp⟩ gb) (M:=cntW t.ps.length u1.length nn 0) (Y:=λ k=>[(WyX t nn (exW t.ps.length u1 nn 0 k)).va]) (λ h=>by cases h) zk [] zk trivial (λ hi k=>by kernel_rfl) (λ lo hi k hk hlo hw=>stVL ⟨dZ zk,dZ zk,trivial⟩) (λ _=>by kernel_rfl) zk [4,5] (λ _ k=>by kernel_rfl) zk zk hds (λ L hL=>by cases hL) (λ _ L hL=>by cases hL) (λ _=>rfl) zd zk (λ hi Γ a W hhi h=>h) hcp (λ l lo hi k a1 Ws hk hlo1 hlo2 hhi hBs hct U=>?_) (λ hi a w U=>?_) (λ L hL=>by cases hL) (λ _ L hL=>by cases hL)
   ·obtain ⟨a0,rfl⟩:∃ x,x=a:=⟨_,rfl⟩;have hk2:k+1≤65536:=by omega
    have U:St B (rndB B [3,106] (gb++List.range' lo (hi-lo)) Ws Ws) 71 [(24,_),(4,_),(5,_)] [⟨4,3,ptrH,NumA .i64 ((k:Nat):Int)⟩,⟨5,106,ptrH,GpO (Wk26 nn) (pwK t u1 nn) k k⟩] a1 Ws:=U;refine tX 0 [0,1,2] U G G G zk (fm λ _ _ h=>h) (Str.zero lT) G pj G zd G zk zk (λ a w U=>?_);have U:St B (rndB B [3,106] (gb++List.range' lo (hi-lo)) Ws Ws) 71 [(24,_),(4,_),(5,_)] [O 4 3 _,O 5 106 _,O 8 71 _] a w:=U;refine aa<|⟨U.base,λ W3 hbg=>?_⟩;have U:=St.begin U (qh _) hBs hbg;refine wpIn_block ?_;refine wpIn_seq ?_;refine wpIn_seq ?_;refine fy (sts:=[none,none,none]) (news:=[]) (sp:=[.v 25 _,.v 26 _,.v 27 _,.adr 28 8 (.some 1) (_=false),.f 29 _,.adr 30 5 (.some 0) (_=false),.f 31 _,.f 32 _,.f 33 _,.v 34 _]) [.g 0,.g 1,.g 2,.o 9] zk (fm λ _ _ h=>h) U (zl 0 G ty_3 (zv G (bF (vq 0 G) ab) (zV 1 G (zC 2 2 G eT (zB 2 G (λ hg=>aC 3 G zk hg (lz0 2 G) (Sub.part 1 G G) au) (zC 2 1 G fC (zB 2 G (λ hg=>aC 5 G zk hg (lz0 1 G) (Sub.part 0 G G) au) (zB 2 G (λ hg=>ba ((Kp (c:=Wk26 nn) (d:=Wk26 nn) (by have:=iE hn12;omega)).wk (.cons aM (.cons (lq_x (k_ne hg)).va .nil))) (.p (ae (vq 4 G) hg) (ae (vq 6 G) hg))) (zB 2 G (λ hg=>aO (ae (vq 7 G) hg) ab) (zv G (r_or (vq 2 G) (vq 8 G)) o0)))))))))) zk zk zk (λ a w U=>?_);have U:St B (rndB B [3,106] (gb++List.range' lo (hi-lo)) Ws W3) 71 [(24,_),(4,_),(5,_),(34,_)] [O 4 3 _,O 5 106 _,O 8 71 _] a w:=U;refine aa<|iX (λ a w =>  St B (rndB B [3,106] (gb++List.range' lo (hi-lo)) Ws W3) 71 [(4,EqV (a0.eval (.tmp 4))),(5,EqV (a0.eval (.tmp 5)))] [⟨4,3,ptrH,NumA .i64 ((k:Nat):Int)⟩,⟨5,106,ptrH,cat [QA (Wk26 nn) (loW (pwK t u1 nn) (k+1)),lqA (Wk26 nn) k (hiW (pwK t u1 nn) k)]⟩,⟨8,71,ptrH,WyX t nn (exW t.ps.length u1 nn 0 k)⟩] a w) U (zm 3 G) (λ hb2=>?_) (λ hb2=>?_) (λ a w U=>?_)
    ·refine fy (sts:=[none,some (3,_),none]) (news:=[]) (sp:=[.adr 35 8 (.some 1) True,.v 36 _,.adr 37 5 (.some 0) True,.sto 1]) [.g 0,.g 1,.g 2] zk (fm λ _ _ h=>h) U (zO 2 G eT (zL 0 2 1 G au (zO 1 G fC (oc (cX 2 G G G G zk (vq 1 G) au (Put.part 0 G G G)) o0)))) zk zk zk (λ a w U=>?_);have U:St B (rndB B [3,106] (gb++List.range' lo (hi-lo)) Ws W3) 71 [(24,_),(4,_),(5,_)] [O 4 3 _,O 5 106 _,O 8 71 _] a w:=U;refine aa ?_;have U:=St.sel U [1,2];exact St.wkL U 1 G (bi (.cons (show WkA (QA (Wk26 nn) (pwK t u1 nn k)) (QA (Wk26 nn) (loW (pwK t u1 nn) (k+1))) from by rw [show loW (pwK t u1 nn) (k+1)=pwK t u1 nn k from qC hb2];exact .refl _) (.cons (.refl _) .nil)))
    ·refine wpIn_skip ?_;refine aa ?_;have U:=St.sel U [1,2];exact St.wkL U 1 G (bi (.cons (show WkA (lqA (Wk26 nn) k (loW (pwK t u1 nn) k)) (QA (Wk26 nn) (loW (pwK t u1 nn) (k+1))) from by rw [show loW (pwK t u1 nn) (k+1)=loW (pwK t u1 nn) k from qy (λ h=>Bool.noConfusion (xH hb2.symm h))];exact lq_x (Jv hb2)) (.cons (.refl _) .nil)))
    refine aa<|wpIn_seq ?_;refine wpIn_seq ?_;refine fy (sts:=[none,none,none]) (news:=[]) (sp:=[.v 38 _,.v 39 _,.v 40 _,.adr 41 8 (.some 1) (_=false),.f 42 _,.adr 43 5 (.some 4) (_=false),.f 44 _,.f 45 _,.f 46 _,.v 47 _]) [.g 0,.g 1,.o 9] zk (fm λ _ _ h=>h) U (zl 0 G ty_3 (zv G (bF (vq 0 G) ab) (zV 1 G (zC 2 2 G eT (zB 2 G (λ hg=>aC 3 G zk hg (lz0 2 G) (Sub.part 1 G G) au) (zC 2 1 G fB (zB 2 G (λ hg=>aC 5 G zk hg (lz0 1 G) (Sub.part 1 G G) au) (zB 2 G (λ hg=>ba ((Kp (c:=Wk26 nn) (d:=Wk26 nn) (by have:=iE hn12;omega)).wk (.cons aM (.cons (lq_x (k_ne hg)).va .nil))) (.p (ae (vq 4 G) hg) (ae (vq 6 G) hg))) (zB 2 G (λ hg=>cD (ae (vq 7 G) hg) ab) (zv G (r_or (vq 2 G) (vq 8 G)) o0)))))))))) zk zk zk (λ a w U=>?_);have U:St B (rndB B [3,106] (gb++List.range' lo (hi-lo)) Ws W3) 71 [(4,_),(5,_),(47,_)] [O 4 3 _,O 5 106 _,O 8 71 _] a w:=U;refine aa<|iX (λ a w =>  St B (rndB B [3,106] (gb++List.range' lo (hi-lo)) Ws W3) 71 [(4,EqV (a0.eval (.tmp 4))),(5,EqV (a0.eval (.tmp 5)))] [⟨4,3,ptrH,NumA .i64 ((k:Nat):Int)⟩,⟨5,106,ptrH,cat [QA (Wk26 nn) (loW (pwK t u1 nn) (k+1)),QA (Wk26 nn) (hiW (pwK t u1 nn) (k+1))]⟩,⟨8,71,ptrH,WyX t nn (exW t.ps.length u1 nn 0 k)⟩] a w) U (zm 2 G) (λ hb3=>?_) (λ hb3=>?_) (λ a w U=>?_)
    ·refine fy (sts:=[none,some (3,_),none]) (news:=[]) (sp:=[.adr 48 8 (.some 1) True,.v 49 _,.adr 50 5 (.some 4) True,.sto 1]) [.g 0,.g 1] zk (fm λ _ _ h=>h) U (zO 2 G eT (zL 0 2 1 G au (zO 1 G fB (oc (cX 2 G G G G zk (vq 1 G) au (Put.part 1 G G G)) o0)))) zk zk zk (λ a w U=>?_);have U:St B (rndB B [3,106] (gb++List.range' lo (hi-lo)) Ws W3) 71 [(4,_),(5,_)] [O 4 3 _,O 5 106 _,O 8 71 _] a w:=U;refine aa ?_;have U:=St.sel U [0,1];exact St.wkL U 1 G (bi (.cons (.refl _) (.cons (show WkA (QA (Wk26 nn) (pwK t u1 nn k)) (QA (Wk26 nn) (hiW (pwK t u1 nn) (k+1))) from by rw [show hiW (pwK t u1 nn) (k+1)=pwK t u1 nn k from qC hb3];exact .refl _) .nil)))
    ·refine wpIn_skip ?_;refine aa ?_;have U:=St.sel U [0,1];exact St.wkL U 1 G (bi (.cons (.refl _) (.cons (show WkA (lqA (Wk26 nn) k (hiW (pwK t u1 nn) k)) (QA (Wk26 nn) (hiW (pwK t u1 nn) (k+1))) from by rw [show hiW (pwK t u1 nn) (k+1)=hiW (pwK t u1 nn) k from qy (λ h=>Bool.noConfusion (xH hb3.symm h))];exact lq_x (Jv hb3)) .nil)))
    refine aa ?_;have U:=St.selL U [0,1];have U:St B (rndB B [3,106] (gb++List.range' lo (hi-lo)) Ws W3) 71 [(4,_),(5,_)] [O 4 3 _,O 5 106 _] a w:=U;refine fy (sts:=[some (2,_),none]) (news:=[]) (sp:=[.v 51 _,.v 52 _,.sto 0]) [.g 0,.g 1] zk (fm λ _ _ h=>h) U (zl 0 G ty_3 (zv G (aL (vq 0 G) ab ((wi64 zo zo).trans (by omega:(_:Int)=((k+1:Nat):Int)))) (zS 1 G ty_3 o0))) zk zk zk (λ a w U=>?_);have U:St B (rndB B [3,106] (gb++List.range' lo (hi-lo)) Ws W3) 71 [(4,_),(5,_)] [O 4 3 _,O 5 106 _] a w:=U;refine al ?_;have U:=St.wkL (A':=GpO (Wk26 nn) (pwK t u1 nn) (k+1) (k+1)) U 1 rfl (bi (.cons lq_s (.cons lq_s .nil)));have U:St B (rndB B [3,106] (gb++List.range' lo (hi-lo)) Ws W3) 71 [(4,_),(5,_)] [O 4 3 _,O 5 106 _] a w:=U;have U:=St.selL U [0,1];exact ⟨(λ h=>by cases h),Ab [0,1] U ⟨rfl,⟨rfl,trivial⟩⟩⟩
   ·have U:=zn [] RJ U;obtain ⟨m,hm⟩:∃ m,cntW t.ps.length u1.length nn 0=m:=⟨_,rfl⟩;rw [hm] at U hcp hcm;have U:=St.wkL U 1 rfl (bi (.cons (lq_x zo) (.cons (lq_x zo) .nil)));refine al ?_;refine zt<|qb<|zg UE [] (.adr 53 5 (.some 0) True::.v 54 _::.adr 55 5 (.some 4) True::(Wb 56 [.v 9 _])) [.o 6] U (zO 1 G fC (zL 0 1 0 G au (zO 1 G fB (zL 2 1 1 G au (zv G (bW (D:=[U32]) (l:=[_,_]) (xs:=[.tmp 54,.tmp 56]) (dh zk) db zk (n_ok zk) nq nq nq (.p (vq 1 G) (vq 3 G)) G G) (zQ G (oW [(loW (pwK t u1 nn) m),(hiW (pwK t u1 nn) m)] (.cons ⟨_,rfl⟩ (.cons ⟨_,rfl⟩ .nil)) nq) (.o (vq 4 G)) (zA 5 G o0))))))) (zz [(9,_)] RJ ?_);refine ztA<|zgA UC [] (W6 59) UY (zM 0 G (zv G (c9 (vq 0 G) ab) o0)) (zz (Wc 9 60) RJ λ a w U=>?_);refine zJ 1 U G (λ hb4=>?_) (λ hb4=>?_)
    ·rw [oX] at hb4;refine qb<|zg [some (2,_),some (3,_)] [] (W6 61 [.sto 0,.sto 1,.v 6 _]) UL U (zv G (aS (qs:=[]) lU .nil) (zM 0 G (oc (mn G G G ab ty_3 (xH (b:=1) G G)) (zS 0 G gK (zA 1 G o0))))) (zz [(6,_)] RJ λ a w U=>?_);refine aa<|qi<|aj ?_;refine am ?_ (aX (rs:=[.cell 4 3,.cell 5 106,.tmp 6]) G U (.cell (zm 0 G) ty_3 (.cell (zm 1 G) gK (.tmp (zm 0 G) .nil))) zd);have e:rowF t xs=(0,(rf0,rf0),4):=by rw [rowF,qy (by rw [hb0];decide),qy (by rw [hb1];decide),qC (by rw [hrM,hrP,hm];exact hb4)]
     rw [e];exact tu3w aM zg2_d.va (bf (by rw [hb4];rfl))
    ·rw [oX] at hb4;refine qj<|zt<|go_drawV' [[],[],[1],[1,2],[],[4],[1,2,3,4,5],[1,2,3,4,5,6],[0,1,2,3,4,5,6],[0,1,2,3,4,5,6,7,8],[0,1,2,3,4,5,6,7,8,9]] (sts:=[some (8,λ ν=>_),some (9,λ ν=>_)]) (news:=[]) (sp:=[(λ ν=>.v 63 _),(λ ν=>.adr 64 5 (.some 0) True),(λ ν=>.v 65 _),(λ ν=>.v 66 (PinA (ν 3) ((QD (Wk26 nn) (loW (pwK t u1 nn) m)).and (eY [] (ν 3)))).va),(λ ν=>.adr 67 5 (.some 4) True),(λ ν=>.v 68 _),(λ ν=>.v 69 (PinA (ν 6) ((QD (Wk26 nn) (hiW (pwK t u1 nn) m)).and (eY [ν 3] (ν 6)))).va),(λ ν=>.v 70 _),(λ ν=>.sto 0),(λ ν=>.sto 1),(λ ν=>.v 6 _)]) [.o 10] ac U ⟨of_u λ ν=>ob_v rfl rfl (gn (lz0 0 rfl) ty_3),⟨of_u λ ν=>ob_a rfl rfl (gi (lz0 1 rfl) fC),⟨of_u λ ν=>ob_v rfl rfl (aC 1 rfl zk trivial (lz0 1 rfl) (Sub.part 0 rfl rfl) au),⟨o9 (us:=λ ν=>[]) (xs:=[.tmp 65]) rfl rfl (sD (qf (iE hn12) zd)) Bb BW (.cons upA_qa.va .nil) (λ ν=>(.o (vq 2 rfl))) (λ _ _=>rfl) (λ ν=>lG),⟨of_u λ ν=>ob_a rfl rfl (gi (lz0 1 rfl) fB),⟨of_u λ ν=>ob_v rfl rfl (aC 4 rfl zk trivial (lz0 1 rfl) (Sub.part 1 rfl rfl) au),⟨o9 (us:=λ ν=>[ν 3]) (xs:=[.tmp 68]) rfl rfl (sD (qf (iE hn12) zd)) Bb BW (.cons upA_qa.va .nil) (λ ν=>(.o (vq 5 rfl))) (λ _ _=>rfl) (λ ν=>(pO (rZ Bb) (vq 3 rfl) lG)),⟨of_u λ ν=>ob_v rfl rfl (aS (qs:=[(0,_),(1,_)]) lU (.cons ⟨rfl,vq 3 rfl,rfl⟩ (.cons ⟨rfl,vq 6 rfl,rfl⟩ .nil))),⟨of_u λ ν=>mn rfl rfl rfl (vq 0 rfl) ty_3 (xH (b:=1) rfl rfl),⟨of_u λ ν=>mn rfl rfl rfl (vq 7 rfl) gK (xH (b:=8) rfl rfl),⟨of_u λ ν=>ob_v rfl rfl (bc ab),trivial⟩⟩⟩⟩⟩⟩⟩⟩⟩⟩⟩ ⟨(λ ν ν' h=>rfl),⟨(λ ν ν' h=>rfl),⟨(λ ν ν' h=>rfl),⟨(λ ν ν' h=>by first|rfl|simp only [h 3 rfl]),⟨(λ ν ν' h=>rfl),⟨(λ ν ν' h=>rfl),⟨(λ ν ν' h=>by first|rfl|simp only [h 3 rfl,h 6 rfl]),⟨(λ ν ν' h=>by first|rfl|simp only [h 3 rfl,h 6 rfl]),⟨(λ ν ν' h=>by first|rfl|simp only [h 3 rfl,h 6 rfl]),⟨(λ ν ν' h=>by first|rfl|simp only [h 3 rfl,h 6 rfl]),⟨(λ ν ν' h=>by first|rfl|simp only [h 3 rfl,h 6 rfl]),trivial⟩⟩⟩⟩⟩⟩⟩⟩⟩⟩⟩ ⟨(λ ν ν' h=>by first|rfl|simp only [h 3 rfl,h 6 rfl]),⟨(λ ν ν' h=>by first|rfl|simp only [h 3 rfl,h 6 rfl]),trivial⟩⟩ zk zk (λ ν=>by kernel_rfl) (λ ν=>by kernel_rfl) (λ ν16 a w U=>?_)
     have U:=zn [(6,_)] RJ U;refine aa<|qi<|am ?_ (aX (rs:=[.cell 4 3,.cell 5 106,.tmp 6]) G U (.cell (zm 0 G) ty_3 (.cell (zm 1 G) gK (.tmp (zm 0 G) .nil))) zd);have e:rowF t xs=(((m:Nat):Int),(rfOf (loW (pwK t u1 nn) m),rfOf (hiW (pwK t u1 nn) m)),0):=by rw [rowF,qy (by rw [hb0];decide),qy (by rw [hb1];decide),qy (by rw [hrM,hrP,hm,hb4];decide),hrM,hrP,hm]
     rw [e];exact tu3w aM g2_pins.va aM
theorem gF {ops:Yg}{rest:List Oper}{o:Oper}{Q:Yd}(hgd:o.guard=none)(s x:Yj)(t:Yh)(ho:o.op=.call { callee:=.builtin .append,args := #[s,x],argTypes := #[t,t] })
  (e:TypeId) (i:TypeInfo) (z:Value) (ht:P.underlying t=some (.slice e)) (hi:P.info? e=some i) (hz:i.zero=some z) (hsize:i.size=1) (hby:i.bytes=8)
  (b:Addr) (hs:a.eval s=.slice (some b) 0 0) (ad:Addr) (m c:Nat) (news:List Value) (hx:a.eval x=.slice (some ad) m c) (hl:news.length=m) (hnews:∀ j u,news[j]?=some u→w.cell? (ad.add j)=some u) (hm:0<m) (hbytes:m*8≤140737488355328)
  (h:wpList P ops Q rest (a.put o.dst (.slice (some ⟨w.heap.size,0,none⟩) m (grownCap w m 0 e))) (w.drew.alloc (.cells (news.toArray++Builtin.zeroCells z.cells (grownCap w m 0 e-m)) e))):wpList P ops Q (o::rest) a w:=by
 refine wpList_plain hgd λ K hK=>?_;have hr:=run_append_grow (P:=P) w t o.type e i z ht hi hz b 0 0 [] (by simp) (λ j v hj=>by simp at hj) ad m c news (by rw [hl,hsize,zH]) hnews zo zo (growslice_fits zo (by rw [hby];omega));simp only [qV,vY] at hr;unfold Oper.wp execOp;simp only [ho,resolve,invoke,builtin,Sem.run_bind,Sem.run_pure,Result.andThen_ok,j1,qS,js,hs,hx,hr];exact hK _ _ h
theorem tS:∃ i,Tryz.prog.info? 3=some i∧i.zero=some (.int .i64 0)∧i.size=1∧i.bytes=8:=by
 have h:(Tryz.prog.info? 3).map (λ i=>(i.zero,i.size,i.bytes))=some (some (.int .i64 0),1,8):=by kernel_rfl
 cases hi:Tryz.prog.info? 3 with
 | none=>rw [hi] at h;cases h
 | some i =>
  rw [hi] at h;have h2:(i.zero,i.size,i.bytes)=(some (.int .i64 0),1,8):=Option.some.inj h;injection h2 with h3 h4;injection h4 with h5 h6;exact ⟨i,rfl,h3,h5,h6⟩
set_option maxHeartbeats 2000000 in
theorem sH (b off n c:Nat)(zs:Yl)(w:Yi)(hn:n=zs.length)(h0:0<n)(hbig:n*8≤140737488355328)(hc:∀ j (h:j<zs.length),w.cell? ⟨b,off+j,none⟩=some (.int .i64 zs[j])) :
  Calls Tryz.prog 24 #[.slice (some ⟨b,off,none⟩) n c] w λ e w'=>∃ g c ext,e=.returned (.slice (some ⟨g,0,none⟩) n c)∧w.heap.size≤g∧n≤c∧c≤maxLen∧zs.length+ext.length=c∧w'.heap[g]?=some (.cells ((zs.map λ (x:Int)=>Value.int .i64 x)++ext).toArray 3 (0,0))∧Grow w w':=by
 have t22:Tryz.prog.underlying 34=some (.slice 3):=by kernel_rfl
 obtain ⟨i0,hi,hz0,hz1,hz2⟩:=tS;have q22:∀ (w:World) (a:Option Addr) (n c n' c':Nat),(binOp .eql 34 (.slice a n c) (.slice none n' c')).run Tryz.prog w=.ok (.bool a.isNone) w:=λ w a n c n' c'=>Lib.run_eql_slice_nil w _ _ a n c n' c' t22;have u22:∀ w,Sem.run Tryz.prog (underlying 34) w=.ok (TypeDesc.slice 3) w:=run_underlying t22;have A:Aside (∀ j (h:j<zs.length),w.cell? ⟨b,off+j,none⟩=some (.int .i64 zs[j])):=hc;have HN:Aside (n=zs.length):=hn;clear hc hn
 go_enter Tryz.func24,Tryz.ntmps24
 go_wp2_with (at_builtin;refine gF rfl _ _ 34 rfl 3 i0 (.int .i64 0) t22 hi hz0 hz1 hz2 _ rfl ⟨b,off,none⟩ n c (zs.map λ (x:Int)=>Value.int .i64 x) rfl ?qc1 ?qc2 h0 hbig ?_)
 case qc1=>simp;exact HN.out.symm
 case qc2 =>
  intro j u hj;have hjn:j<zs.length:=by
   have:=(List.getElem?_eq_some_iff.1 hj).1;simpa using this
  rw [Addr.add_lit];refine Lib.cell?_alloc_some _ ?_;rw [A.out j hjn];simpa [hjn] using hj
 go_wp2
 go_ret
 refine ⟨_,_,(Builtin.zeroCells (Value.int .i64 0).cells (grownCap (w.alloc (.cells #[] 3)) n 0 3-n)).toList,rfl,by omega,grownCap_ge _ _ _ _,grownCap_le_maxLen _ _ _ _ (by unfold maxLen;omega),?_,?_,?_⟩
 ·have h9:n≤grownCap (w.alloc (.cells #[] 3)) n 0 3:=grownCap_ge _ _ _ _;have h8:∀ q:Nat,(Builtin.zeroCells (Value.int .i64 0).cells q).toList.length=q:=λ q=>by rw [vM,size_zeroCells,show (Value.int .i64 0).cells.size=1 from rfl,zH]
  rw [h8,← HN.out];omega
 ·have e:(w.alloc (.cells #[] 3)).heap.size=w.heap.size+1:=by simp
  rw [← e,← vL,Array.toArray_toList];exact heap_alloc_new _ _
 ·exact ((Grow.alloc w _).trans (Grow.alloc _ _)).trans (Grow.drew _)
theorem iA {B:Nat}{cs:Ym}{w:Yi}:∀ {l:Yl},(cat (l.map InA)).p B cs w→cs=l.map λ (n:Int)=>Value.int .i64 n
 | [],⟨ps,e,h⟩=>by cases h;exact e
 | n::l,⟨ps,e,h⟩=>by
  cases h with
  | @cons _ c _ ps' h1 h2 =>
   have h3:=iA (B:=B) (w:=w) (l:=l) ⟨ps',rfl,h2⟩;have h1':c=[.int .i64 n]:=h1;rw [e,qS,← h3,h1'];rfl
def OwP (q:Nat→Prop)(l:List Int):As where
 n:=1
 ag:=false
 p B cs w:=(OwnC 3 1 [] (l.map InA)).p B cs w∧∀ v∈cs,∀ g,blk v=some g→q g
 deps:=[3]
 len:=λ B cs w h=>(OwnC 3 1 [] (l.map InA)).len B cs w h.1
 one:=λ B cs w h=>(OwnC 3 1 [] (l.map InA)).one B cs w h.1
 ag1:=λ _=>rfl
 cg:=λ B cs w w' hg h=>⟨(OwnC 3 1 [] (l.map InA)).cg B cs w w' hg h.1,h.2⟩
 wr:=λ B cs w w' g c T fz h1 h2 h3 h4 h=>⟨(OwnC 3 1 [] (l.map InA)).wr B cs w w' g c T fz h1 h2 h3 h4 h.1,h.2⟩
theorem ownC_AI {E:Yh}{m:Nat}{l:Yb}:WkA (OwnC E m D l) (SlA E D l):=⟨rfl,rfl,λ B cs w h=>by
 obtain ⟨cs',h1,h2⟩:=IH B (cE false cs) w ⟨cs,h,rfl⟩;have l1:=(OwnC E m D l).len _ _ _ h;have l2:=(SlA E D l).len _ _ _ h1
 match cs,cs',l1,l2 with
 | [c],[c'],_,_ =>
  have e:c=c':=h2;subst e;exact h1⟩
theorem P0 {q:Nat→Prop}{l:Yl}:WkA (OwP q l) (SlA 3 [] (l.map InA)):=⟨rfl,rfl,λ B cs w h=>ownC_AI.2.2 _ _ _ h.1⟩
theorem Ea {q q':Nat→Prop}{l:Yl}(h:∀ g,q g→q' g):WkA (OwP q l) (OwP q' l):=⟨rfl,rfl,λ _ _ _ hp=>⟨hp.1,λ v hv g hg=>h g (hp.2 v hv g hg)⟩⟩
theorem int_nD {l:Yl}:(∀ A∈l.map InA,A.n=1)∧∀ A∈l.map InA,∀ T∈A.deps,T∈([]:Yq) :=
 ⟨λ A hA=>by obtain ⟨x,_,rfl⟩:=qp.1 hA;rfl,λ A hA T hT=>by obtain ⟨x,_,rfl⟩:=qp.1 hA;exact hT⟩
theorem Ft (l:Yl)(h0:0<l.length)(hs:l.length≤1000):CnI Tryz.prog 24 [(SlA 3 [] (l.map InA)).va] (λ b=>(OwP (λ g=>b≤g) l).va):=by
 refine ⟨iw Tryz.func24 zk zk,λ B w args hB ha=>?_⟩;obtain ⟨v,rfl,cs,⟨hD,A,c,ds,rfl,h1,h2,h3,h4⟩,hv⟩:=ha.one;have hv':v=.slice A l.length c:=by rw [hv,← qd (f:=InA)];rfl
 subst hv';obtain ⟨b,o,rfl,_,_,h5⟩:=h4 (by rw [qd];exact h0);have hds:=iA h3;refine (sH b o l.length c l w G h0 zo (λ j hj=>h5 j _ (by rw [hds];simp [hj]))).mono λ e w' ⟨g,c',ext,he,h6,h7,h8,h10,h9,hg⟩=>⟨_,he,⟨[.slice (some ⟨g,0,none⟩) l.length c'],⟨⟨_,rfl,int_nD.1,int_nD.2,_,cQ l,by rw [qd,qd,zH],.inr ⟨g,c',_,by rw [qd],qf hB h6,h9,by rw [qd];exact h7,h8,?_,?_⟩⟩,λ u hu g' hg'=>?_⟩,rfl⟩,hg⟩
 ·rw [z7,qx,qd,zH];exact h10
 ·rw [qd,zH];show ((l.map λ (x:Int)=>Value.int .i64 x)++ext).take l.length=_;exact List.take_left' (by rw [qd])
 ·obtain rfl:=ql.1 hu;have:g=g':=by simpa [blk] using hg'
  omega
abbrev SlW (l:List Int):As:=OwnC 3 1 [] (l.map InA)
theorem HZ {l:Yl}:WkA (SlW l) (SlA 3 [] (l.map InA)):=ownC_AI
theorem u9 {l:Yl}:FreeA (SlW l) (SlW l):=⟨rfl,rfl,λ B B' cs w hB hp=>by
 obtain ⟨v,rfl,h1,h2,ds,h3,h4,h5⟩:=hp;refine ⟨v,rfl,h1,h2,ds,by rw [iA h3];exact cQ l,h4,?_⟩;rcases h5 with h5|⟨g,cap,cur,e1,e2,e3⟩
 ·exact .inl h5
 ·exact .inr ⟨g,cap,cur,e1,qf hB e2,e3⟩⟩
theorem nil_slW:WkA (EqA (.slice none 0 0)) (SlW []):=⟨rfl,rfl,λ B cs w h=>by
 obtain ⟨rfl,_⟩:=h;exact ⟨_,rfl,mj B _ w rfl⟩⟩
theorem Dn {lo hi:Nat}{Tp Tc:Yq}{q:Nat→Prop}{l:Yl}(hE:Tc.contains 3=false)(hl:offD (Tc++Tp) (cat (l.map InA)).deps=true)(hq:∀ g,q g→¬ (lo≤g∧g<hi)):StVA lo hi Tp Tc (OwP q l):=by
 rintro B cs gs W W' hlo ⟨⟨v,rfl,h1,h2,ds,h3,h4,h5⟩,h6⟩ hs hc hb;refine ⟨⟨v,rfl,h1,h2,ds,dZ hl _ _ _ _ _ hlo h3 hs hc hb,h4,?_⟩,h6⟩;rcases h5 with h5|⟨g,cap,cur,rfl,e2,e3,e4⟩
 ·exact .inl h5
 ·refine .inr ⟨g,cap,cur,rfl,e2,?_,e4⟩;rw [hs.block g (Array.getElem?_eq_some_iff.1 e3).1 (λ hF=>?_)]
  ·exact e3
  ·rcases hF with hF|⟨q1,q2,_⟩
   ·obtain ⟨c2,T,fz2,k1,k2⟩:=hc g hF;rw [e3] at k1;injection k1 with k1;injection k1 with _ k1 _;rw [← k1] at k2;have hE':3 ∉ Tc:=by simpa using hE
    exact hE' k2
   ·exact hq g (h6 _ (ql.2 G) g G) ⟨q1,q2⟩
def WyV (q:Nat→Prop)(k:Nat)(x:WyQ):As:=cat [OwP q x.l,QA k x.pw,QA k x.aw,InA x.c]
theorem KS {q:Nat→Prop}{k:Nat}{x:WyQ}:WkA (WyV q k x) (WyA k x):=bi (.cons P0 (.cons (.refl _) (.cons (.refl _) (.cons (.refl _) .nil))))
theorem ly:Str Tryz.prog 36 [EqA (.slice none 0 0),cat [NilI,NilI],NumA .i64 0] :=
 Str.of (z:=.agg #[.slice none 0 0,.bool false,.slice none 0 0,.bool false,.slice none 0 0,.int .i64 0]) zk v4 zk λ B w=>⟨[[.slice none 0 0],[.bool false,.slice none 0 0,.bool false,.slice none 0 0],[.int .i64 0]],rfl,.cons ⟨rfl,rfl⟩ (.cons ⟨[[.bool false,.slice none 0 0],[.bool false,.slice none 0 0]],rfl,.cons ⟨[[.bool false],[.slice none 0 0]],rfl,.cons rfl (.cons rfl .nil)⟩ (.cons ⟨[[.bool false],[.slice none 0 0]],rfl,.cons rfl (.cons rfl .nil)⟩ .nil)⟩ (.cons rfl .nil))⟩
structure RCh where
 l:List Int
 pw:RF
 c:Int
def ch0:RCh:=⟨[],rf0,0⟩
def ChD (x:RCh):As:=cat [SlW x.l,RFD x.pw,InA x.c]
abbrev BsD (r:RCh × Int):VA:=Tu [(ChD r.1).va,In r.2]
theorem ET {r:RCh × Int}:Free (BsD r) (BsD r):=sm (.cons (bI (.cons u9 (.cons EP (.cons (cq _ _) .nil)))).va (.cons (cq _ _).va .nil))
theorem zch_d:WkA (cat [EqA (.slice none 0 0),cat [NilI,NilI],NumA .i64 0]) (ChD ch0):=bi (.cons nil_slW (.cons zf_rfd (.cons (.refl _) .nil)))
def bsW (f:Nat→WyQ):Nat→WyQ
 | 0=>⟨[],0,0,0⟩
 | k+1=>if ((((k:Nat):Int)==0) || betF (f k) (bsW f k))=true then f k else bsW f k
theorem uG {f:Nat→WyQ}:∀ {k},k≠0→∃ j,j<k∧bsW f k=f j
 | 0,h=>absurd rfl h
 | k+1,_=>by
  unfold bsW;by_cases h:((((k:Nat):Int)==0) || betF (f k) (bsW f k))=true
  ·rw [qC h];exact ⟨k,Nat.lt_succ_self k,rfl⟩
  ·rw [qy h];have hk:k≠0:=λ e=>by subst e;simp at h
   obtain ⟨j,h1,h2⟩:=uG (f:=f) hk;exact ⟨j,kP h1,h2⟩
abbrev BeO (q:Nat→Prop)(b k:Nat)(x:WyQ):As:=cat [optA k (EqA (.slice none 0 0)) (OwP q x.l) ⟨rfl,rfl⟩,optA k (RFA rf0) (QA b x.pw) ⟨rfl,rfl⟩,optA k (RFA rf0) (QA b x.aw) ⟨rfl,rfl⟩,optA k (NumA .i64 0) (InA x.c) ⟨rfl,rfl⟩]
theorem be_0 {q:Nat→Prop}{b:Nat}{x:WyQ}:WkA WyZ (BeO q b 0 x):=bi (.cons AT (.cons AT (.cons AT (.cons AT .nil))))
theorem be_s {q:Nat→Prop}{b k:Nat}{x:WyQ}:WkA (WyV q b x) (BeO q b (k+1) x):=bi (.cons (AS (ja k)) (.cons (AS (ja k)) (.cons (AS (ja k)) (.cons (AS (ja k)) .nil))))
theorem be_x {q:Nat→Prop}{b k:Nat}{x:WyQ}(h:k≠0):WkA (BeO q b k x) (WyV q b x):=bi (.cons (AR h) (.cons (AR h) (.cons (AR h) (.cons (AR h) .nil))))
theorem be_k {q:Nat→Prop}{b k:Nat}{x:WyQ}(h:k≠0):WkA (BeO q b k x) (BeO q b (k+1) x):=(be_x h).trans be_s
theorem PZ {q:Nat→Prop}{b k lo hi:Nat}{x:WyQ}(hq:∀ g,q g→¬ (lo≤g∧g<hi)):StVA lo hi [3] [30,34] (BeO q b k x):=Dp λ A hA=>by
 simp only [qr,zF,or_false] at hA;rcases hA with rfl|rfl|rfl|rfl
 ·exact Do (dZ zk) (λ _=>Dn zd (Ew _) hq)
 ·exact dZ zk
 ·exact dZ zk
 ·exact dZ zk
section
open Rg
variable {P:Program}{Q:Exit→Act→World→Prop}{R:Rg}{B i:Nat}{w0:Bs}
theorem LP {x:Yj}{S E:Yh}{k:Nat}{q:Nat→Prop}{l:Yl}{h:(OwP q l).n=(EqA (.slice none 0 0)).n∧(OwP q l).ag=(EqA (.slice none 0 0)).ag}{yt:Yh}(hS:P.underlying S=some (.slice E))(hx:Has R B w0 i x (optA k (EqA (.slice none 0 0)) (OwP q l) h).va)(hl:k≠0→0<l.length):Wv P Q R B w0 i (.binOp .eql S x (.const (.slice none 0 0)) yt) (Bo (((k:Nat):Int)==0)) :=
 bj λ d T ps af gd a w av=>by
  obtain ⟨cs,hp,hv⟩:=hx a w av;have e2:a.eval (.const (.slice none 0 0))=.slice none 0 0:=rfl;rcases hp with ⟨hk,hp⟩|⟨hk,hp,_⟩
  ·obtain ⟨rfl,_⟩:=hp;have e1:a.eval x=.slice none 0 0:=hv;have hq:=Lib.run_eql_slice_nil w S E none 0 0 0 0 hS;have hg:(eqGuard .eql S x (.const (.slice none 0 0)) (.slice none 0 0) (.slice none 0 0)).run P w=.ok () w:=by unfold eqGuard;split <;> rfl
   refine ⟨.bool true,w,?_,Grow.refl w,by subst hk;exact dw _ _ _⟩;simp only [execOp,e1,e2,Sem.run_bind,hg,hq,Result.andThen_ok,Sem.run_pure]
   rfl
  ·obtain ⟨_,A,c,ds,rfl,_,_,_,h4⟩:=ownC_AI.2.2 _ _ _ hp;obtain ⟨b,o,rfl,_⟩:=h4 (by rw [qd];exact hl hk);have e1:a.eval x=.slice (some ⟨b,o,none⟩) (l.map InA).length c:=hv;have hq:=Lib.run_eql_slice_nil w S E (some ⟨b,o,none⟩) (l.map InA).length c 0 0 hS;have hg:(eqGuard .eql S x (.const (.slice none 0 0)) (.slice (some ⟨b,o,none⟩) (l.map InA).length c) (.slice none 0 0)).run P w=.ok () w:=by unfold eqGuard;split <;> rfl
   refine ⟨.bool false,w,?_,Grow.refl w,?_⟩
   ·simp only [execOp,e1,e2,Sem.run_bind,hg,hq,Result.andThen_ok,Sem.run_pure]
    rfl
   ·rw [show (((k:Nat):Int)==0)=false from by simpa using hk];exact dw _ _ _
theorem Iq {f':Yn}{pre:Yc}{mk:Nat→VA}{A:VA}{xs:Ys}{at_:Yr}(hc:CnI P f' pre mk)(hx:HasL R B w0 i xs pre)(hm:∀ b,w0.w.heap.size≤b→Wk (mk b) A):Wv P Q R B w0 i (.call ⟨.value (.func f'),xs.toArray,at_⟩) A:=by
 intro d T' ps af gd a w av K hK;obtain ⟨⟨fn,hf,hn,hb⟩,hcall⟩:=hc;have hrun:(execOp a.eval ⟨some d,.call ⟨.value (.func f'),xs.toArray,at_⟩,T',ps,af,gd⟩).run P w=.ok (.enter f' (xs.map a.eval).toArray) w:=by
  have e1:a.eval (.func f')=.func (.func f') #[] #[]:=rfl;simp only [execOp,resolve,e1,Deferred.ofValue,Sem.run_bind,Sem.run_pure,Result.andThen_ok,invoke,bb hf hn hb];simp
 unfold Oper.wp;rw [hrun];refine (hcall B w _ (Av.bw av) (hx.all av)).mono λ e w' ⟨v,he,h1,hg⟩=>?_;subst he;exact hK v w' hg (hm _ av.base.size _ _ _ h1)
end
theorem all_nil (t:RTk):CnI Tryz.prog 22 [(TkO t).va,EqV (.slice none 0 0)] (λ b=>ItB b 105 (alC t []) alDs (al_D t [])) :=
 ⟨(KM t []).1,λ B w args hB ha=>(KM t []).2 B w args hB (by
  obtain ⟨v1,v2,rfl,h1,h2⟩:=All2.two ha;have h2':v2=.slice none 0 0:=h2;subst h2';exact .cons h1 (.cons ⟨_,⟨trivial,(λ A hA=>by cases hA),none,0,[],rfl,qh _,zf _,⟨[],rfl,.nil⟩,λ h=>absurd h zd⟩,rfl⟩ .nil))⟩
abbrev WyW (b:Nat)(x:WyQ):As:=cat [SlW x.l,QA b x.pw,QA b x.aw,InA x.c]
theorem Hm {q:Nat→Prop}{b B:Nat}{x:WyQ}(hq:∀ g,q g→B≤g)(h:(WyV q b x).p B cs w):(WyW b x).p B cs w:=by
 obtain ⟨ps,rfl,h2⟩:=h;refine ⟨ps,rfl,?_⟩;cases h2 with
 | cons h1 h2=>exact .cons h1.1 h2
def bstN (t:RTk):WyQ:=bsW (λ k=>wayW t (exW t.ps.length [] (t.sp.length-1) 0 k)) (cntW t.ps.length 0 (t.sp.length-1) 0)
def bR (t:RTk):RCh × Int:=if (ckF t != 0)=true then (ch0,ckF t) else if cZ (bstN t).pw=true then (ch0,4) else (⟨(bstN t).l,rfOf (bstN t).pw,(bstN t).c⟩,0)
theorem pH {x:Rat}:[x].any cZ=cZ x:=by simp
set_option maxHeartbeats 2000000 in
theorem Hb (t:RTk):Cn Tryz.prog 7 [(TkA t).va] (BsD (bR t)):=by
 refine Cn.introR Tryz.func7 G zk nq (.cons (yo t).va .nil) ET (λ B w0 a hB0 hN0 U=>?_);have U:=zn [(0,(TkO t).va)] [] U;refine qb<|zg [] [zpL 1 30 0 _,zpL 2 36 1 _] [.alc 0,.alc 1,.v 3 _] U9 U (zW 0 G (zY G (Str.zero ly) (zE G ab))) (zz Rn RK ?_);refine ztA<|zsA<|zgA UC [] (W6 8 [.v 4 _]) Ue (zl 0 G cU (zQ G ((nR t).wk (.cons tko_A.va .nil)) (.o (vq 0 G)) (zA 1 G o0))) (zz (Wc 3 4) RK ?_);refine ztA<|zgA UC [] (W6 10) UF (zM 1 G (zv G (c9 (vq 0 G) ab) o0)) (zz (Wa 3 4 11) RK λ a w U=>?_);refine zJ 2 U G (λ hb0=>?_) (λ hb0=>?_)
 ·refine qb<|zg Rp [] (W6 12 [.sto 1,.v 3 _]) UG U (zv G (aS (qs:=[]) ly .nil) (zM 1 G (zS 0 G dV (zA 1 G o0)))) (zz Rn RK λ a w U=>?_);refine aa<|qi<|aj ?_;refine am ?_ (aX (rs:=[.cell 2 36,.tmp 3]) G U (.cell (zm 1 G) dV (.tmp (zm 0 G) .nil)) zd);rw [show bR t=(ch0,ckF t) from qC hb0];exact tu2w zch_d.va aM
 ·have hck:ckF t=0:=by simpa using hb0
  obtain ⟨hs2,hs13,hp1,_⟩:=hd_b (gh hck).1;obtain ⟨nn,hnn⟩:∃ nn,t.sp.length=nn+1:=⟨t.sp.length-1,by omega⟩;have hn12:nn≤12:=by omega
  have hcp:0<cntW t.ps.length 0 nn 0:=dL zo _ _;have hbN:bstN t=bsW (λ k=>wayW t (exW t.ps.length [] nn 0 k)) (cntW t.ps.length 0 nn 0):=by unfold bstN;rw [hnn];rfl
  refine qj<|zt<|zg UE [zpL 5 71 0 _] [.alc 2] UH U (zY G (Str.zero lT) o0) (zz Rn RL λ a w U=>?_);refine zt<|qb ?_;obtain ⟨q2,U⟩:=St.nm U 1 rfl;obtain ⟨q5,U⟩:=St.nm U 2 rfl;refine zg UO [] (W6 14) WV U (zl 0 G cU (zv G (An [(2,q2),(5,q5)] (all_nil t) (.cons (vq 0 G) (.cons b9 .nil)) (.cons (gq 1 G) (lz0 1 G) (.cons (gq 0 G) (lz0 2 G) .nil))) o0)) (zz (Wf 5 2 3 15) RL λ a w U=>?_);obtain ⟨gb,U,hds⟩:=St.itm (ps:=[(2,q2),(5,q5)]) 3 [1,0] U rfl ⟨rfl,rfl,trivial⟩;have U:=zn (Wf 5 2 3 15) RL U;refine aa<|qk ?_;have U:=St.selL U [1,2];refine r5 (k0:=3) (gb:=gb) (Dd:=[30,34,114,115,U32,28,117]) (Db:=[36,71]) (Tp:=[3]) [⟨2,36,ptrH,cat [EqA (.slice none 0 0),cat [NilI,NilI],NumA .i64 0]⟩,⟨5,71,ptrH,WyZ⟩] (λ hi k=>[⟨2,36,ptrH,cat [EqA (.slice none 0 0),cat [NilI,NilI],NumA .i64 0]⟩,⟨5,71,ptrH,BeO (λ g=>hi≤g∧B≤g) (Wk26 nn) k (bsW (λ k=>wayW t (exW t.ps.length [] nn 0 k)) k)⟩]) none (λ _=>none) U hB0 hN0 rfl (CW hck hnn ⟨zf _,λ x hx=>by cases hx⟩ gb) (M:=cntW t.ps.length 0 nn 0) (Y:=λ k=>[(WyX t nn (exW t.ps.length [] nn 0 k)).va]) (λ h=>by cases h) zk [] zk trivial (λ hi k=>by kernel_rfl) (λ lo hi k hk hlo hw=>stVL ⟨dZ zk,PZ (λ g hg h=>by omega),trivial⟩) (λ _=>by kernel_rfl) zk [2,5] (λ _ k=>by kernel_rfl) zk zk hds (λ L hL=>by cases hL) (λ _ L hL=>by cases hL) (λ _=>rfl) zd zk (λ hi Γ a W hhi h=>St.wkL h 1 rfl be_0) hcp (λ l lo hi k a1 Ws hk hlo1 hlo2 hhi hBs hct U=>?_) (λ hi a w U=>?_) (λ L hL=>by cases hL) (λ _ L hL=>by cases hL)
  ·obtain ⟨a0,rfl⟩:∃ x,x=a:=⟨_,rfl⟩;have hlw:0<(wayW t (exW t.ps.length [] nn 0 k)).l.length:=by show 0<(List.map _ _).length;rw [qd,d6];omega
   have U:St B (rndB B [36,71] (gb++List.range' lo (hi-lo)) Ws Ws) 46 [(16,_),(2,_),(5,_)] [⟨2,36,ptrH,cat [EqA (.slice none 0 0),cat [NilI,NilI],NumA .i64 0]⟩,⟨5,71,ptrH,BeO (λ g=>hi≤g∧B≤g) (Wk26 nn) k (bsW (λ k=>wayW t (exW t.ps.length [] nn 0 k)) k)⟩] a1 Ws:=U;refine tX 0 [0,1,2] U G G G zk (fm λ _ _ h=>h) (Str.zero lT) G pj G zd G zk zk (λ a w U=>?_);have U:St B (rndB B [36,71] (gb++List.range' lo (hi-lo)) Ws Ws) 46 [(16,_),(2,_),(5,_)] [O 2 36 _,O 5 71 _,O 6 71 _] a w:=U;refine aa<|⟨U.base,λ W3 hbg=>?_⟩;have hlw2:(wayW t (exW t.ps.length [] nn 0 k)).l.length≤1000:=by show (List.map _ _).length≤1000;rw [qd,d6];omega
   have hlb:k≠0→0<(bsW (λ k=>wayW t (exW t.ps.length [] nn 0 k)) k).l.length:=λ hk0=>by
    obtain ⟨j,_,hj⟩:=uG (f:=(λ k=>wayW t (exW t.ps.length [] nn 0 k))) hk0;rw [hj];show 0<(List.map _ _).length;rw [qd,d6];omega
   have hW3a:=U.base.size;have hW3b:W3.heap.size=w.heap.size:=by obtain ⟨_,_,_,he⟩:=hbg;rw [he,World.putObj_size]
   have hW3:hi≤W3.heap.size:=by rw [hW3b];exact qf hhi hW3a
   have hB3:B≤W3.heap.size:=by rw [hW3b];exact qf hBs hW3a
   have U:=St.begin U (qh _) hBs hbg;refine wpIn_block ?_;refine wpIn_seq ?_;refine fy (sts:=[none,none,none]) (news:=[]) (sp:=[.adr 17 5 (.some 0) True,.v 18 _,.v 19 _,.v 20 _,.f 21 _,.f 22 _,.f 23 _,.v 24 _]) [.g 0,.g 1,.g 2,.o 7] zk (fm λ _ _ h=>h) U (zO 1 G fY (zL 0 1 0 G cC (zv G (LP qL (vq 1 G) hlb) (zV 2 G (zB 3 G (λ hg=>gn (lz0 2 G) pj) (zB 3 G (λ hg=>gn (lz0 1 G) pj) (zB 3 G (λ hg=>ba ((FE (iE hn12) _ _).wk (.cons aM (.cons ((be_x (k_ne hg)).trans KS).va .nil))) (.p (ae (vq 4 G) hg) (ae (vq 5 G) hg))) (zv G (r_or (vq 3 G) (vq 6 G)) o0)))))))) zk zk zk (λ a w U=>?_);have U:St B (rndB B [36,71] (gb++List.range' lo (hi-lo)) Ws W3) 46 [(16,_),(2,_),(5,_),(24,_)] [O 2 36 _,O 5 71 _,O 6 71 _] a w:=U;refine aa<|iX (λ a w =>  St B (rndB B [36,71] (gb++List.range' lo (hi-lo)) Ws W3) 46 [(2,EqV (a0.eval (.tmp 2))),(5,EqV (a0.eval (.tmp 5)))] [⟨2,36,ptrH,cat [EqA (.slice none 0 0),cat [NilI,NilI],NumA .i64 0]⟩,⟨5,71,ptrH,BeO (λ g=>hi≤g∧B≤g) (Wk26 nn) (k+1) (bsW (λ k=>wayW t (exW t.ps.length [] nn 0 k)) (k+1))⟩,⟨6,71,ptrH,WyX t nn (exW t.ps.length [] nn 0 k)⟩] a w) U (zm 3 G) (λ hb1=>?_) (λ hb1=>?_) (λ a w U=>?_)
   ·refine wpIn_seq ?_;refine fy (sts:=[none,none,some (4,_)]) (news:=[]) (sp:=[.adr 25 6 (.some 0) True,.v 26 _,.v 27 _,.adr 28 6 (.some 0) True,.sto 2]) [.g 0,.g 1,.g 2] zk (fm λ _ _ h=>h) U (zO 2 G fY (zL 0 2 0 G cC (zv G (Iq (A:=(OwP (λ g=>hi≤g∧B≤g) (wayW t (exW t.ps.length [] nn 0 k)).l).va) (Ft _ hlw hlw2) (.o (vq 1 G)) (λ b hb=>(Ea (λ g hg=>⟨qf hW3 (qf hb hg),qf hB3 (qf hb hg)⟩)).va)) (zO 2 G fY (oc (cX 3 G G G G zk (vq 2 G) cC (Put.part 0 G G G)) o0))))) zk zk zk (λ a w U=>?_);have U:St B (rndB B [36,71] (gb++List.range' lo (hi-lo)) Ws W3) 46 [(16,_),(2,_),(5,_)] [O 2 36 _,O 5 71 _,O 6 71 _] a w:=U;refine aa<|fy (sts:=[none,some (1,_),none]) (news:=[]) (sp:=[.v 29 _,.sto 1]) [.g 0,.g 1,.g 2] zk (fm λ _ _ h=>h) U (zl 2 G pj (zS 0 G pj o0)) zk zk zk (λ a w U=>?_);have U:St B (rndB B [36,71] (gb++List.range' lo (hi-lo)) Ws W3) 46 [(16,_),(2,_),(5,_)] [O 2 36 _,O 5 71 _,O 6 71 _] a w:=U;refine aa ?_;have U:=St.sel U [1,2];have U:=St.wkL U 2 rfl KS;exact St.wkL U 1 G (by rw [show bsW (λ k=>wayW t (exW t.ps.length [] nn 0 k)) (k+1)=wayW t (exW t.ps.length [] nn 0 k) from qC hb1];exact be_s)
   ·refine wpIn_skip ?_;refine aa ?_;have U:=St.sel U [1,2];exact St.wkL U 1 G (by rw [show bsW (λ k=>wayW t (exW t.ps.length [] nn 0 k)) (k+1)=bsW (λ k=>wayW t (exW t.ps.length [] nn 0 k)) k from qy (λ h=>Bool.noConfusion (xH hb1.symm h))];exact be_k (Jv hb1))
   refine al ?_;have U:=St.selL U [0,1];exact ⟨(λ h=>by cases h),Ab [0,1] U ⟨rfl,⟨rfl,trivial⟩⟩⟩
  ·have U:=zn [] RN U;obtain ⟨m,hm⟩:∃ m,cntW t.ps.length 0 nn 0=m:=⟨_,rfl⟩;rw [hm] at U hcp;have U:=St.wkL U 1 rfl (be_x zo);have U:=St.upL U 1 rfl (λ cs h=>Hm (λ g hg=>hg.2) h);refine al ?_;refine zt<|qb<|zg UE [] (.adr 30 5 (.some 1) True::(Wb 31 [.v 7 _])) UL U (zO 1 G eT (zL 0 1 1 G au (zv G (bW (D:=[U32]) (l:=[_]) (xs:=[.tmp 31]) (dh zk) db zk (n_ok zk) nq nq nq (.o (vq 1 G)) G G) (zQ G (oW [(bsW (λ k=>wayW t (exW t.ps.length [] nn 0 k)) m).pw] (.cons ⟨_,rfl⟩ .nil) nq) (.o (vq 2 G)) (zA 3 G o0))))) (zz [(7,_)] RN ?_);refine ztA<|zgA UC [] (W6 34) UY (zM 0 G (zv G (c9 (vq 0 G) ab) o0)) (zz (Wc 7 35) RN λ a w U=>?_);refine zJ 1 U G (λ hb2=>?_) (λ hb2=>?_)
   ·rw [oX,pH] at hb2;refine qb<|zg [some (2,_),η] [] (W6 36 [.sto 0,.v 3 _]) UG U (zv G (aS (qs:=[]) ly .nil) (zM 0 G (zS 0 G dV (zA 1 G o0)))) (zz Rn RN λ a w U=>?_);refine aa<|qi<|aj ?_;refine am ?_ (aX (rs:=[.cell 2 36,.tmp 3]) G U (.cell (zm 0 G) dV (.tmp (zm 0 G) .nil)) zd);have e:bR t=(ch0,4):=by rw [bR,qy (by rw [hb0];decide),qC (by rw [hbN,hm];exact hb2)]
    rw [e];exact tu2w zch_d.va (bf (by rw [pH,hb2];rfl))
   ·rw [oX,pH] at hb2;refine qj<|zt<|zgd [[],[0],[],[2],[2,3],[],[5],(Wm 7),(Wm 8),(Wm 9)] [some (8,_),none] [] (.adr 38 5 (.some 0) True::.v 39 _::.adr 40 5 (.some 1) True::(W6 41 (.adr 43 5 (.some 9) True::(W6 44 [.sto 0,.v 3 _])))) [.o 9] ac U (zO 1 G fY (zL 0 1 0 G cC (zO 1 G eT (zL 2 1 1 G au (zQ G (sD (qf (iE hn12) zd)) (.o (vq 3 G)) (zO 1 G ii (zL 5 1 3 G ty_3 (zv G (aS (qs:=[(0,_),(1,_),(2,_)]) ly (.cons ⟨rfl,vq 1 rfl,rfl⟩ (.cons ⟨rfl,vq 4 rfl,rfl⟩ (.cons ⟨rfl,vq 6 rfl,rfl⟩ .nil)))) (zS 7 G dV (zE G ab)))))))))) zk zk zk zk (zz Rn RN λ a w U=>?_);refine aa<|qi<|am ?_ (aX (rs:=[.cell 2 36,.tmp 3]) G U (.cell (zm 0 G) dV (.tmp (zm 0 G) .nil)) zd);have e:bR t=(⟨(bsW (λ k=>wayW t (exW t.ps.length [] nn 0 k)) m).l,rfOf (bsW (λ k=>wayW t (exW t.ps.length [] nn 0 k)) m).pw,(bsW (λ k=>wayW t (exW t.ps.length [] nn 0 k)) m).c⟩,0):=by rw [bR,qy (by rw [hb0];decide),qy (by rw [hbN,hm,hb2];decide),hbN,hm]
    rw [e];exact tu2w (bi (.cons (.refl _) (.cons qd_rfd (.cons (.refl _) .nil)))).va aM
end Go.Proofs.YtckfapioofbfpaaGreatDoor
