import Derived.Test.YthdbhckhignfcaaGreatDoorBxAa
import Derived.Test.YthdbhckhignfcaaGreatDoorBxAc
import Derived.Test.YthdbhckhignfcaaGreatDoorBxAo
import Derived.Test.YthdbhckhignfcaaGreatDoorBxBa
import Derived.Test.YthdbhckhignfcaaGreatDoorBxBb
import Derived.Test.YthdbhckhignfcaaGreatDoorBxBc
import Derived.ProofKit
import Derived.OpenShut
import Derived.ChangeOld
import Derived.Below
import Derived.Deep.Slices
import Derived.SizedLaws
set_option linter.unusedVariables false
set_option linter.unusedSimpArgs false
set_option linter.unusedSectionVars false
set_option maxRecDepth 100000
namespace Go.Proofs.YthdbhckhignfcaaGreatDoor
open Go Go.RowKit
def andV (A A':VA):VA where
 p B v w:=A.p B v w∧A'.p B v w
 deps:=A.deps++A'.deps
 cg:=fun B v w w' hg h=>⟨A.cg _ _ _ _ hg h.1,A'.cg _ _ _ _ hg h.2⟩
 wr:=fun B v w w' g c T fz h1 h2 h3 h4 h=>by
  simp only [List.mem_append,not_or] at h2
  exact ⟨A.wr _ _ _ _ _ _ _ _ h1 h2.1 h3 h4 h.1,A'.wr _ _ _ _ _ _ _ _ h1 h2.2 h3 h4 h.2⟩
theorem zzn {A A':VA}:Wk (andV A A') A:=fun _ _ _ h=>h.1
theorem andV_2 {A A':VA}:Wk (andV A A') A':=fun _ _ _ h=>h.2
theorem zye {A A':VA}(h:Free A A)(h':Free A' A'):Free (andV A A') (andV A A'):=fun B B' v w hB hp=>⟨h _ _ _ _ hB hp.1,h' _ _ _ _ hB hp.2⟩
def LsQ (q:Nat→Prop)(E m:Nat)(D:List TypeId)(Xs:List As):VA where
 p B v w:=(∀ A∈Xs,A.n=m)∧(∀ A∈Xs,∀ T∈A.deps,T∈D)∧(∃ ds,(cat Xs).p B ds w∧w.ownsRow B E m v Xs.length ds∧(cbl ds).Nodup∧∀ g∈cbl ds,q g)∧∀ g,v.ownBlock=some g→q g
 deps:=E::D
 cg:=fun B v w w' hg ⟨h1,h2,⟨ds,h3,h4,h5⟩,h6⟩=>⟨h1,h2,⟨ds,(cat Xs).cg _ _ _ _ hg h3,zcw h4 fun g c _ h=>hg.heap h,h5⟩,h6⟩
 wr:=by
  rintro B v w w' g c T fz hgc hT hB hW ⟨h1,h2,⟨ds,h3,h4,h5⟩,h6⟩
  simp only [List.mem_cons,not_or] at hT
  refine ⟨h1,h2,⟨ds,(cat Xs).wr _ _ _ _ _ _ _ _ hgc (fun hh=>?_) hB hW h3,zcw h4 fun g' c' _ h7=>?_,h5⟩,h6⟩
  ·obtain ⟨A,hA,hd⟩:=List.mem_flatMap.1 hh
   exact hT.2 (h2 A hA T hd)
  ·rw [hW.block g' (fun e=>?_)]
   ·exact h7
   ·subst e
    rw [hgc] at h7
    injection h7 with h7
    injection h7 with _ h7 _
    exact hT.1 h7
abbrev LsN (E m:Nat)(D:List TypeId)(Xs:List As):VA:=LsQ (fun _=>True) E m D Xs
abbrev LsG (lo E m:Nat)(D:List TypeId)(Xs:List As):VA:=LsQ (fun g=>lo≤g) E m D Xs
abbrev LsI (lo hi E m:Nat)(D:List TypeId)(Xs:List As):VA:=LsQ (fun g=>lo≤g∧g<hi) E m D Xs
theorem lsq_own {q:Nat→Prop}{E m:Nat}{D:List TypeId}{Xs:List As}:Wk (LsQ q E m D Xs) (SlA E D Xs).va:=fun B v w ⟨h1,h2,⟨ds,h3,h4,_⟩,_⟩=>zhj (b:=B) B v w ⟨h1,h2,ds,h3,h4⟩
theorem zyd {q:Nat→Prop}{E m:Nat}{D:List TypeId}{Xs:List As}(hX:∀ A∈Xs,FreeA A A):Free (LsQ q E m D Xs) (LsQ q E m D Xs):=fun B B' v w hB ⟨h1,h2,⟨ds,h3,h4,h5⟩,h6⟩=>by
 refine ⟨h1,h2,⟨ds,zsm hB hX h3,⟨h4.1,?_⟩,h5⟩,h6⟩
 rcases h4.2 with h | ⟨g,cap,cur,e1,e2,e3⟩
 ·exact .inl h
 ·exact .inr ⟨g,cap,cur,e1,Nat.le_trans hB e2,e3⟩
theorem new_ls {E m:Nat}{D:List TypeId}{Xs:List As}(hX:∀ A∈Xs,NewA A){B:Nat}{v:Value}{w:World}{q:Nat→Prop}(h:(LsQ q E m D Xs).p B v w):(LsQ (fun g=>q g∧B≤g∧g<w.heap.size) E m D Xs).p B v w:=by
 obtain ⟨h1,h2,⟨ds,h3,h4,h5,h5'⟩,h6⟩:=h
 refine ⟨h1,h2,⟨ds,h3,h4,h5,fun g hg=>⟨h5' g hg,?_⟩⟩,fun g hg=>⟨h6 g hg,?_⟩⟩
 ·obtain ⟨ps,rfl,hp⟩:=h3
  exact zmy hX hp g hg
 ·obtain ⟨q1,c,fz,q2⟩:=zfb h4 g hg
  exact ⟨q1,(Array.getElem?_eq_some_iff.1 q2).1⟩
theorem zxc {q q':Nat→Prop}(h:∀ g,q g→q' g){E m:Nat}{D:List TypeId}{Xs:List As}:Wk (LsQ q E m D Xs) (LsQ q' E m D Xs):=fun B v w ⟨h1,h2,⟨ds,h3,h4,h5,h5'⟩,h6⟩=>⟨h1,h2,⟨ds,h3,h4,h5,fun g hg=>h _ (h5' g hg)⟩,fun g hg=>h _ (h6 g hg)⟩
theorem ls_free {q:Nat→Prop}{E m:Nat}{D:List TypeId}{Xs:List As}(hX:∀ A∈Xs,FreeA A A)(hN:∀ A∈Xs,NewA A){B h lo:Nat}{v:Value}{w:World}(hB:B≤h)(hlo:lo≤h)(hp:(LsQ q E m D Xs).p h v w):(LsG lo E m D Xs).p B v w :=
 zxc (fun g hg=>Nat.le_trans hlo hg.2.1) _ _ _ (zyd hX _ _ _ _ hB (new_ls hN hp))
theorem ls_top {lo:Nat}{E m:Nat}{D:List TypeId}{Xs:List As}(hX:∀ A∈Xs,NewA A){B:Nat}{v:Value}{w:World}(h:(LsG lo E m D Xs).p B v w):(LsI lo w.heap.size E m D Xs).p B v w:=zxc (fun g hg=>⟨hg.1,hg.2.2⟩) _ _ _ (new_ls hX h)
def ivZ (I:List (Nat × Nat))(Xs:List As):List As:=List.zipWith (fun x A=>IvA x.1 x.2 A) I Xs
def Srt (I:List (Nat × Nat))(top:Nat):Prop:=I.Pairwise (fun x y=>x.2≤y.1)∧∀ x∈I,x.2≤top
theorem zve {t:Nat}:Srt [] t:=⟨.nil,fun x hx=>by cases hx⟩
theorem zvf {I:List (Nat × Nat)}{t lo hi:Nat}(h:Srt I t)(h1:t≤lo)(h2:lo≤hi):Srt (I++[(lo,hi)]) hi:=by
 refine ⟨List.pairwise_append.2 ⟨h.1,List.pairwise_singleton ..,fun x hx y hy=>?_⟩,fun x hx=>?_⟩
 ·obtain rfl:=List.mem_singleton.1 hy
  exact Nat.le_trans (h.2 x hx) h1
 ·rcases List.mem_append.1 hx with hx | hx
  ·exact Nat.le_trans (h.2 x hx) zo
  ·obtain rfl:=List.mem_singleton.1 hx
   exact Nat.le_refl _
theorem zxw {I:List (Nat × Nat)}{Xs:List As}{lo hi:Nat}{X:As}(h:I.length=Xs.length):ivZ I Xs++[IvA lo hi X]=ivZ (I++[(lo,hi)]) (Xs++[X]):=by
 unfold ivZ
 rw [List.zipWith_append h]
 rfl
theorem zn8 {I:List (Nat × Nat)}{Xs:List As}(h:I.length=Xs.length):(ivZ I Xs).length=Xs.length:=by unfold ivZ; rw [List.length_zipWith,h]; omega
theorem zxv {B:Nat}{w:World}:∀ {I:List (Nat × Nat)} {Xs:List As} {ds:List Value},I.length=Xs.length→I.Pairwise (fun x y=>x.2≤y.1)→(cat (ivZ I Xs)).p B ds w→(cat Xs).p B ds w∧(cbl ds).Nodup∧∀ g∈cbl ds,∃ x∈I,x.1≤g∧g<x.2
 | [],[],ds,_,_,⟨ps,e,hp⟩=>by
  cases hp
  subst e
  exact ⟨⟨[],rfl,.nil⟩,List.nodup_nil,fun g hg=>by cases hg⟩
 | x::I,X::Xs,ds,hl,hs,h=>by
  obtain ⟨ps,e,hp⟩:=(show (cat (IvA x.1 x.2 X::ivZ I Xs)).p B ds w from h)
  cases hp with
  | @cons _ c _ ps h1 hp =>
   obtain ⟨q1,q2,q3⟩:=zxv (ds:=ps.flatten) (by simpa using hl) (List.pairwise_cons.1 hs).2 ⟨ps,rfl,hp⟩
   obtain ⟨⟨qs,e2,hq⟩⟩:=id (⟨q1⟩:PLift _)
   obtain ⟨p1,p2,p3⟩:=h1
   subst e
   refine ⟨⟨c::qs,by rw [List.flatten_cons,List.flatten_cons,e2],.cons p1 hq⟩,?_,fun g hg=>?_⟩
   ·rw [List.flatten_cons,zec]
    refine List.nodup_append.2 ⟨p2,q2,fun a ha b hb e=>?_⟩
    subst e
    obtain ⟨y,hy,r1,r2⟩:=q3 a hb
    have r3:=(List.pairwise_cons.1 hs).1 y hy
    have r4:=p3 a ha
    omega
   ·rw [List.flatten_cons,zec] at hg
    rcases List.mem_append.1 hg with hg | hg
    ·exact ⟨x,by simp,p3 g hg⟩
    ·obtain ⟨y,hy,r⟩:=q3 g hg
     exact ⟨y,by simp [hy],r⟩
theorem own_up {b E m h:Nat}{D:List TypeId}{l:List As}{X:As}(hX:NewA X){B:Nat}{v:Value}{w:World}(hp:(OwnR b E m D (l++[GeA h X])).p B v w):(OwnR b E m D (l++[IvA h w.heap.size X])).p B v w:=by
 obtain ⟨h1,h2,ds,⟨ps,e,hc⟩,h4⟩:=hp
 have hcg:∀ {l:List As} {ps:List (List Value)},All2 (fun (A:As) c=>A.p B c w) (l++[GeA h X]) ps→All2 (fun (A:As) c=>A.p B c w) (l++[IvA h w.heap.size X]) ps:=fun {l}=>by
  induction l with
  | nil =>
   intro ps hc
   cases hc with
   | cons q1 q2 =>
    cases q2
    exact .cons ⟨q1.1,q1.2.1,fun g hg=>⟨q1.2.2 g hg,(hX _ _ _ q1.1 g hg).2⟩⟩ .nil
  | cons A l ih =>
   intro ps hc
   cases hc with
   | cons q1 q2=>exact .cons q1 (ih q2)
 refine ⟨fun A hA=>?_,fun A hA=>?_,ds,⟨ps,e,hcg hc⟩,?_⟩
 ·rcases List.mem_append.1 hA with hA | hA
  ·exact h1 A (by simp [hA])
  ·obtain rfl:=List.mem_singleton.1 hA
   exact h1 (GeA h X) (by simp)
 ·rcases List.mem_append.1 hA with hA | hA
  ·exact h2 A (by simp [hA])
  ·obtain rfl:=List.mem_singleton.1 hA
   exact h2 (GeA h X) (by simp)
 ·simpa using h4
theorem zwr {b E m:Nat}{D:List TypeId}{I:List (Nat × Nat)}{Xs:List As}{top:Nat}(hl:I.length=Xs.length)(hs:Srt I top):∀ {B:Nat} {v:Value} {w:World},B≤b→(OwnR b E m D (ivZ I Xs)).p B v w→(LsN E m D Xs).p B v w:=fun {B v w} hb ⟨h1,h2,ds,h3,h4⟩=>by
 obtain ⟨q1,q2,q3⟩:=zxv hl hs.1 h3
 have hmem:∀ {I:List (Nat × Nat)} {Xs:List As},I.length=Xs.length→∀ A∈Xs,∃ x:Nat × Nat,IvA x.1 x.2 A∈ivZ I Xs:=fun {I}=>by
  induction I with
  | nil=>intro Xs hl A hA; cases Xs with | nil=>cases hA | cons=>cases hl
  | cons x I ih =>
   intro Xs hl A hA
   cases Xs with
   | nil=>cases hA
   | cons X Xs =>
    rcases List.mem_cons.1 hA with rfl | hA
    ·exact ⟨x,List.mem_cons_self ..⟩
    ·obtain ⟨y,hy⟩:=ih (by simpa using hl) A hA
     exact ⟨y,List.mem_cons_of_mem _ hy⟩
 refine ⟨fun A hA=>?_,fun A hA=>?_,⟨ds,q1,?_,q2,fun _ _=>trivial⟩,fun _ _=>trivial⟩
 ·obtain ⟨x,hx⟩:=hmem hl A hA; have:=h1 _ hx; exact this
 ·obtain ⟨x,hx⟩:=hmem hl A hA; have:=h2 _ hx; exact this
 ·rw [zn8 hl] at h4
  refine ⟨h4.1,?_⟩
  rcases h4.2 with h | ⟨g,cap,cur,e1,e2,e3⟩
  ·exact .inl h
  ·exact .inr ⟨g,cap,cur,e1,Nat.le_trans hb e2,e3⟩
def lsP {α:Type}(z:α)(AP:α→(Nat→Value)→As)(ms:Nat→Nat→Value)(xs:List α):List As:=(List.range xs.length).map fun j=>AP (xs.getD j z) (ms j)
def lsK {α:Type}(z:α)(kx:α→(Nat→Value)→KL)(ms:Nat→Nat→Value)(xs:List α)(i:Nat):KL:=((List.range i).map fun j=>kx (xs.getD j z) (ms j)).flatten
theorem lsK_0 {α:Type}{z:α}{kx:α→(Nat→Value)→KL}{ms:Nat→Nat→Value}{xs:List α}:lsK z kx ms xs 0=[]:=rfl
theorem zgv {α:Type}{z:α}{kx:α→(Nat→Value)→KL}{ms:Nat→Nat→Value}{xs:List α}{i:Nat}:lsK z kx ms xs (i+1)=lsK z kx ms xs i++kx (xs.getD i z) (ms i):=by
 unfold lsK
 rw [List.range_succ,List.map_append,List.flatten_append]
 simp
theorem zh2 {α:Type}{z:α}{AP:α→(Nat→Value)→As}{ms:Nat→Nat→Value}{xs:List α}:(lsP z AP ms xs).length=xs.length:=by unfold lsP; simp
theorem lsP_at {α:Type}{z:α}{AP:α→(Nat→Value)→As}{ms:Nat→Nat→Value}{xs:List α}{i:Nat}(h:i<xs.length):(lsP z AP ms xs)[i]?=some (AP (xs.getD i z) (ms i)):=by
 unfold lsP
 rw [List.getElem?_map,List.getElem?_range h]
 rfl
theorem zn3 {α:Type}{z:α}{AP:α→(Nat→Value)→As}{ms:Nat→Nat→Value}{xs:List α}{p:As→Prop}(h:∀ x m,p (AP x m)):∀ A∈lsP z AP ms xs,p A:=fun A hA=>by
 obtain ⟨j,_,rfl⟩:=List.mem_map.1 hA
 exact h _ _
theorem zs0 {α:Type}{z:α}{AN:α→As}{AP:α→(Nat→Value)→As}{kx:α→(Nat→Value)→KL}(hs:∀ {x:α} {B:Nat} {cs:List Value} {w:World},(AN x).p B cs w→∃ m,(AP x m).p B cs w∧cbl cs=kbl (kx x m)∧OkK (kx x m)){B:Nat}{w:World} :
  ∀ {xs:List α} {ds:List Value},(cat (xs.map AN)).p B ds w→∃ ms,(cat (lsP z AP ms xs)).p B ds w∧cbl ds=kbl (lsK z kx ms xs xs.length)∧OkK (lsK z kx ms xs xs.length)
 | [],ds,⟨ps,e,hp⟩=>by
  cases hp
  subst e
  exact ⟨fun _ _=>undef,⟨[],rfl,.nil⟩,rfl,fun p hp=>by cases hp⟩
 | x::xs,ds,⟨ps,e,hp⟩=>by
  cases hp with
  | @cons _ c _ ps h1 hp =>
   obtain ⟨m,p1,e1,o1⟩:=hs h1
   obtain ⟨ms,⟨qs,e2,hq⟩,e3,o3⟩:=zs0 hs (xs:=xs) (ds:=ps.flatten) ⟨ps,rfl,hp⟩
   have hP:lsP z AP (fun j=>match j with | 0=>m | j+1=>ms j) (x::xs)=AP x m::lsP z AP ms xs:=by
    unfold lsP
    rw [List.length_cons,List.range_succ_eq_map,List.map_cons,List.map_map]
    rfl
   have hK:lsK z kx (fun j=>match j with | 0=>m | j+1=>ms j) (x::xs) (x::xs).length=kx x m++lsK z kx ms xs xs.length:=by
    unfold lsK
    rw [List.length_cons,List.range_succ_eq_map,List.map_cons,List.map_map,List.flatten_cons]
    rfl
   refine ⟨fun j=>match j with | 0=>m | j+1=>ms j,?_,?_,?_⟩
   ·rw [hP]
    exact ⟨c::qs,by rw [e,List.flatten_cons,List.flatten_cons,e2],.cons p1 hq⟩
   ·rw [hK,e,List.flatten_cons,zec,e1,e3,kbl_app]
   ·rw [hK]
    exact zil o1 o3
def LsP (E m:Nat)(D:List TypeId)(l:List As)(v:Value):VA where
 p B u w:=u=v∧(OwnR B E m D l).p B u w
 deps:=E::D
 cg:=fun B u w w' hg h=>⟨h.1,(OwnR B E m D l).cg _ _ _ _ hg h.2⟩
 wr:=fun B u w w' g c T fz h1 h2 h3 h4 h=>⟨h.1,(OwnR B E m D l).wr _ _ _ _ _ _ _ _ h1 h2 h3 h4 h.2⟩
theorem lsp_ow {E m:Nat}{D:List TypeId}{l:List As}{v:Value}{n:Nat}(hn:l.length=n):Wk (LsP E m D l v) (OwV E m v n):=fun B u w ⟨h,_,_,ds,_,h4⟩=>by
 subst h hn
 exact ⟨rfl,ds,h4⟩
theorem zrz {E m:Nat}{D:List TypeId}{l:List As}{v:Value}:Wk (LsP E m D l v) (SlA E D l).va:=fun B u w ⟨_,h⟩=>zhj _ _ _ h
theorem St.nameLs {α:Type}{z:α}{AN:α→As}{AP:α→(Nat→Value)→As}{kx:α→(Nat→Value)→KL}(hs:∀ {x:α} {B:Nat} {cs:List Value} {w:World},(AN x).p B cs w→∃ m,(AP x m).p B cs w∧cbl cs=kbl (kx x m)∧OkK (kx x m))
  {B N:Nat} {w0:Bs} {Γ:List (Nat × VA)} {Λ:List Lc} {a:Act} {w:World} {s E m:Nat} {D:List TypeId} {q:Nat→Prop} {xs:List α} (hn:∀ x m',(AP x m').n=m) (hd:∀ x m',∀ T∈(AP x m').deps,T∈D) (h:St B w0 N Γ Λ a w) (k:Nat) (hm:Γ[k]?=some (s,LsQ q E m D (xs.map AN))) :
  ∃ v ms,(kbl (lsK z kx ms xs xs.length)).Nodup∧(∀ g∈kbl (lsK z kx ms xs xs.length),q g)∧OkK (lsK z kx ms xs xs.length)∧(∀ g,v.ownBlock=some g→q g)∧St B w0 N (Γ.set k (s,LsP E m D (lsP z AP ms xs) v)) Λ a w:=by
 obtain ⟨h1,h2,⟨ds,h3,h4,h5,h6⟩,h7⟩:=h.getG k hm
 obtain ⟨ms,p1,e1,o1⟩:=zs0 (z:=z) hs h3
 refine ⟨a.eval (.tmp s),ms,by rw [← e1]; exact h5,fun g hg=>h6 g (by rw [e1]; exact hg),o1,h7,h.setG k hm fun _=>⟨rfl,zn3 hn,zn3 hd,ds,p1,?_⟩⟩
 rw [zh2]
 rw [List.length_map] at h4
 exact h4
def reO:RE:=⟨0,rf0,rf0⟩
def REN (x:RE):As:=cat [NumA .u8 x.k,RFN x.p,RFN x.q]
theorem new_ren {x:RE}:NewA (REN x):=zep fun A hA=>by
 simp at hA
 rcases hA with rfl | rfl | rfl
 ·exact zx3 _ _
 ·exact zq2
 ·exact zq2
theorem free_ren {x:RE}:FreeA (REN x) (REN x):=zcj (.cons (zgh _ _) (.cons zjo (.cons zjo .nil)))
theorem zza {k:IntKind}{n:Int}{B:Nat}{cs:List Value}{w:World}(h:(NumA k n).p B cs w):cbl cs=[]:=by
 have h':cs=[.int k n]:=h
 subst h'
 rfl
theorem zyy {x:RE}{B:Nat}{cs:List Value}{w:World}(h:(REN x).p B cs w):∃ m:Nat→Value,(EleP x m).p B cs w∧cbl cs=kbl (ke x m)∧OkK (ke x m):=by
 obtain ⟨ps,rfl,hp⟩:=h
 cases hp with
 | @cons _ c0 _ _ h0 hp=>cases hp with
  | @cons _ c1 _ _ h1 hp=>cases hp with
   | @cons _ c2 _ _ h2 hp =>
    cases hp
    obtain ⟨m1,m2,p1,e1,o1⟩:=zgi h1
    obtain ⟨m3,m4,p2,e2,o2⟩:=zgi h2
    refine ⟨nm4 m1 m2 m3 m4,⟨[c0,c1,c2],rfl,.cons h0 (.cons p1 (.cons p2 .nil))⟩,?_,zil o1 o2⟩
    have:([c0,c1,c2]:List (List Value)).flatten=c0++(c1++c2):=by simp
    rw [this,zec,zec,zza h0,e1,e2]
    exact kbl_app.symm
theorem elp_deps (x:RE)(m:Nat→Value):∀ T∈(EleP x m).deps,T∈[U32]:=fun T hT=>by
 have h:=List.all_eq_true.1 (show ((EleP x m).deps.all fun T=>[U32].contains T)=true by kernel_rfl) T hT
 simpa using h
theorem dis_cons {A:As}{l l':List As}(hA:∀ B cs w,A.p B cs w→cbl cs=[])(h:WkA (cat l) (DisA (cat l'))):WkA (cat (A::l)) (DisA (cat (A::l'))):=by
 refine ⟨?_,rfl,fun B cs w ⟨ps,e,hp⟩=>?_⟩
 ·have h1:=h.1
  show ((A::l').map (·.n)).sum=((A::l).map (·.n)).sum
  rw [List.map_cons,List.sum_cons,List.map_cons,List.sum_cons]
  exact congrArg (A.n + ·) h1
 ·cases hp with
  | @cons _ c _ ps h1 hp =>
   obtain ⟨⟨qs,e2,hq⟩,hn⟩:=h.2.2 B ps.flatten w ⟨ps,rfl,hp⟩
   subst e
   refine ⟨⟨c::qs,by rw [List.flatten_cons,List.flatten_cons,e2],.cons h1 hq⟩,?_⟩
   rw [List.flatten_cons,zec,hA _ _ _ h1]
   exact hn
theorem zd5 {ms:Nat→Nat→Value}{xs:List RE}:∀ {i:Nat},(lsK reO ke ms xs i).length=4*i
 | 0=>rfl
 | i+1=>by rw [zgv,List.length_append,zd5]; simp only [List.length_append,List.length_cons,List.length_nil]; omega
theorem zmn {ms:Nat→Nat→Value}{xs:List RE}{K:KL}{i:Nat}(hi:i<xs.length)(h:(kbl (K++lsK reO ke ms xs xs.length)).Nodup):(kbl ((K++lsK reO ke ms xs i)++ke (xs.getD i reO) (ms i))).Nodup:=by
 have key:∀ d,i+1+d=xs.length→(kbl (K++lsK reO ke ms xs (i+1))).Nodup:=fun d hd=>by
  have:∀ d n,(kbl (K++lsK reO ke ms xs (n+d))).Nodup→(kbl (K++lsK reO ke ms xs n)).Nodup:=fun d=>by
   induction d with
   | zero=>exact fun n h=>h
   | succ d ih=>exact fun n h=>ih n (by rw [← Nat.add_assoc,zgv,← List.append_assoc] at h; exact zoo h)
  exact this d _ (by rw [hd]; exact h)
 have:=key (xs.length-(i+1)) zo
 rwa [zgv,← List.append_assoc] at this
theorem zxs {v:Value}{ms:Nat→Nat→Value}{xs:List RE}(K:KL)(Rs Es:VL)(hs:(kbl (K++lsK reO ke ms xs xs.length)).Nodup)(hv:∀ p∈Es,∀ g,p.1.ownBlock=some g→v.ownBlock≠some g)(hl:K.length+4*xs.length+Rs.length+Es.length≤999900):CK Tryz.prog 14 59 [59,105,100] (BkF (K) Rs Es) (BkF (K++lsK reO ke ms xs xs.length) Rs (Es++[(v,xs.length)])) [LsP 69 9 [U32] (lsP reO EleP ms xs) v] (Tu []):=by
 refine CK.intro Tryz.func14 rfl zk nq zk (fun B g w0 a hrm O=>?_)
 have O:=zn [(0,EqV ((ptrH).f g)),(1,LsP 69 9 [U32] (lsP reO EleP ms xs) v)] [⟨0,59,ptrH,BkF (K) Rs Es⟩] O
 refine wp_seq<|wp_seq<|zg [none] [] [.v 4 _] [.g 0,.g 1,.o 0] O (zv rfl (za2 za3) o0) (zz [(0,_),(1,_),(4,_)] [⟨0,59,ptrH,_⟩] fun a w O=>?_)
 refine za0<|wp_block ?_
 have O:=St.sel O [0,1,2]
 refine wp_loop_ghost (fun n a w=>∃ (i:Nat),n+i=xs.length∧St B w0 20 [(0,EqV (ptrH.f g)),(1,LsP 69 9 [U32] (lsP reO EleP ms xs) v),(4,In (i:Nat))] [⟨0,59,ptrH,BkF (K++lsK reO ke ms xs i) Rs Es⟩] a w) (xs.length) ?_ ?_
 ·exact ⟨0,by omega,St.cvA O 0 rfl (congrArg (fun k=>BkF k Rs Es) (show K=K++lsK reO ke ms xs 0 by rw [lsK_0,List.append_nil]))⟩
 intro n a w hI
 obtain ⟨i,hn,O⟩:=hI
 refine wp_seq<|wp_seq<|zg [none] [] [.v 5 _,.v 6 _,.v 7 _,.v 8 _] [.g 0,.g 1,.g 2,.o 3] O (zv rfl (za1 (gq 2 rfl)) (zv rfl (za1 (gq 1 rfl)) (zv rfl (zbk Tryz.underlying22 (has_wk' (vq 1 rfl) zrz)) (zv rfl (zb1 (vq 0 rfl) (vq 2 rfl)) o0)))) (zz [(0,_),(1,_),(4,_),(8,_)] [⟨0,59,ptrH,_⟩] fun a w O=>?_)
 refine za0<|za8 O (zm 3 rfl) (fun hb0=>?_) (fun hb0=>?_)
 ·have hi:i<xs.length:=by have:=of_decide_eq_true hb0; rw [zh2] at this; omega
  refine wp_skip<|zt<|wp_block<|zbs (sp:=[.v 11 _,.v 12 _,.v 13 _,.v 14 _,.v 15 _,.v 16 VT]) 5 1 99 5 OneC [.g 0,.g 1,.g 2,.o 0,.o 4] O (zv rfl (za1 (gq 0 rfl)) (zv rfl (za1 (gq 1 rfl)) (zv rfl (za1 (gq 2 rfl)) (zv rfl (zd0 zhc (zn3 fun _ _=>rfl) (has_wk' (vq 1 rfl) zrz) (vq 2 rfl) (lsP_at hi)) (zv rfl (zad (vq 3 rfl) zeg) o0))))) rfl zd zk zk (zz [(0,_),(1,_),(4,_),(11,_),(15,_)] [⟨0,59,ptrH,_⟩] fun a w O=>?_)
  rw [show List.range' 5 1=[5] from rfl]
  rw [wpOps_cons]
  refine zd8 (A1:=BkF ((K++lsK reO ke ms xs i)++ke (xs.getD i reO) (ms i)) Rs Es) (xs:=[.tmp 15]) [0,1,2] [4] 0 rfl O (CK.wkT (zxu (xs.getD i reO) (ms i) (K++lsK reO ke ms xs i) Rs Es (zmn hi hs) (by rw [List.length_append,zd5]; omega)) zd) rfl (Eq.trans (b:=ptr g) (O.vals _ (zm 3 rfl)) (Eq.symm (O.vals _ (zm 0 rfl)))) (.cons ⟨_,rfl,rfl⟩ .nil) rfl hrm zd zk zk zk zk (fun a w O=>?_)
  refine zbi ?_
  have O:=zn [(16,_),(0,_),(1,_),(4,_)] [⟨0,59,ptrH,BkF ((K++lsK reO ke ms xs i)++ke (xs.getD i reO) (ms i)) Rs Es⟩] O
  refine zae ?_
  refine za0<|zg [none] [] [.v 9 _,.v 10 _,.v 4 _] [.g 1,.g 2,.o 2] O (zv rfl (za1 (gq 3 rfl)) (zv rfl (zb5 (vq 0 rfl) za3 (zb3 zo)) (zv rfl (za2 (vq 1 rfl)) o0))) (zz [(0,_),(1,_),(4,_)] [⟨0,59,ptrH,_⟩] fun a w O=>?_)
  refine za0 ?_
  have O:=St.sel O [0,1,2]
  exact ⟨n-1,by omega,i+1,by omega,St.cvA O 0 rfl (congrArg (fun k=>BkF k Rs Es) (show (K++lsK reO ke ms xs i)++ke (xs.getD i reO) (ms i)=K++lsK reO ke ms xs (i+1) by rw [zgv,List.append_assoc]))⟩
 ·obtain rfl:i=xs.length:=by have:=of_decide_eq_false hb0; rw [zh2] at this; omega
  refine wp_exit<|za7<|za7<|zap<|za0<|zbs (sp:=[.v 17 _,.v 18 _,.v 19 VT]) 2 1 99 2 OneC [.g 0,.g 1,.o 0,.o 1] O (zv rfl (za1 (gq 0 rfl)) (zv rfl (za1 (has_wk' (gq 1 rfl) (lsp_ow zh2))) o0)) rfl zd zk zk (zz [(0,_),(1,_),(17,_),(18,_)] [⟨0,59,ptrH,_⟩] fun a w O=>?_)
  rw [show List.range' 2 1=[2] from rfl]
  rw [wpOps_cons]
  refine zd8 (A1:=BkF (K++lsK reO ke ms xs xs.length) Rs (Es++[(v,xs.length)])) (xs:=[.tmp 18]) [0,1] [3] 0 rfl O (CK.wkT (keepEF_c (K++lsK reO ke ms xs xs.length) Rs Es v xs.length hv (by rw [List.length_append,zd5]; omega)) zd) rfl (Eq.trans (b:=ptr g) (O.vals _ (zm 2 rfl)) (Eq.symm (O.vals _ (zm 0 rfl)))) (.cons ⟨_,rfl,rfl⟩ .nil) rfl hrm zd zk zk zk zk (fun a w O=>?_)
  refine zbi ?_
  have O:=zn [(19,_),(0,_),(1,_)] [⟨0,59,ptrH,BkF (K++lsK reO ke ms xs xs.length) Rs (Es++[(v,xs.length)])⟩] O
  refine zc9<|zen O (zm 1 rfl) (zm 0 rfl) ?_
  exact zb6 (rs:=[]) rfl O .nil zd
def rrO:RR:=⟨rf0,rf0⟩
theorem zw8 (x:RR)(m:Nat→Value):∀ T∈(RayP x m).deps,T∈[U32]:=fun T hT=>by
 have h:=List.all_eq_true.1 (show ((RayP x m).deps.all fun T=>[U32].contains T)=true by kernel_rfl) T hT
 simpa using h
theorem zd4 {ms:Nat→Nat→Value}{xs:List RR}:∀ {i:Nat},(lsK rrO kr ms xs i).length=4*i
 | 0=>rfl
 | i+1=>by rw [zgv,List.length_append,zd4]; simp only [List.length_append,List.length_cons,List.length_nil]; omega
theorem zmm {ms:Nat→Nat→Value}{xs:List RR}{K:KL}{i:Nat}(hi:i<xs.length)(h:(kbl (K++lsK rrO kr ms xs xs.length)).Nodup):(kbl ((K++lsK rrO kr ms xs i)++kr (xs.getD i rrO) (ms i))).Nodup:=by
 have key:∀ d,i+1+d=xs.length→(kbl (K++lsK rrO kr ms xs (i+1))).Nodup:=fun d hd=>by
  have:∀ d n,(kbl (K++lsK rrO kr ms xs (n+d))).Nodup→(kbl (K++lsK rrO kr ms xs n)).Nodup:=fun d=>by
   induction d with
   | zero=>exact fun n h=>h
   | succ d ih=>exact fun n h=>ih n (by rw [← Nat.add_assoc,zgv,← List.append_assoc] at h; exact zoo h)
  exact this d _ (by rw [hd]; exact h)
 have:=key (xs.length-(i+1)) zo
 rwa [zgv,← List.append_assoc] at this
theorem zxp {v:Value}{ms:Nat→Nat→Value}{xs:List RR}(K:KL)(Rs Es:VL)(hs:(kbl (K++lsK rrO kr ms xs xs.length)).Nodup)(hv:∀ p∈Rs,∀ g,p.1.ownBlock=some g→v.ownBlock≠some g)(hl:K.length+4*xs.length+Rs.length+Es.length≤999900):CK Tryz.prog 16 59 [59,105,103] (BkF (K) Rs Es) (BkF (K++lsK rrO kr ms xs xs.length) (Rs++[(v,xs.length)]) Es) [LsP 29 8 [U32] (lsP rrO RayP ms xs) v] (Tu []):=by
 refine CK.intro Tryz.func16 rfl zk nq zk (fun B g w0 a hrm O=>?_)
 have O:=zn [(0,EqV ((ptrH).f g)),(1,LsP 29 8 [U32] (lsP rrO RayP ms xs) v)] [⟨0,59,ptrH,BkF (K) Rs Es⟩] O
 refine wp_seq<|wp_seq<|zg [none] [] [.v 4 _] [.g 0,.g 1,.o 0] O (zv rfl (za2 za3) o0) (zz [(0,_),(1,_),(4,_)] [⟨0,59,ptrH,_⟩] fun a w O=>?_)
 refine za0<|wp_block ?_
 have O:=St.sel O [0,1,2]
 refine wp_loop_ghost (fun n a w=>∃ (i:Nat),n+i=xs.length∧St B w0 20 [(0,EqV (ptrH.f g)),(1,LsP 29 8 [U32] (lsP rrO RayP ms xs) v),(4,In (i:Nat))] [⟨0,59,ptrH,BkF (K++lsK rrO kr ms xs i) Rs Es⟩] a w) (xs.length) ?_ ?_
 ·exact ⟨0,by omega,St.cvA O 0 rfl (congrArg (fun k=>BkF k Rs Es) (show K=K++lsK rrO kr ms xs 0 by rw [lsK_0,List.append_nil]))⟩
 intro n a w hI
 obtain ⟨i,hn,O⟩:=hI
 refine wp_seq<|wp_seq<|zg [none] [] [.v 5 _,.v 6 _,.v 7 _,.v 8 _] [.g 0,.g 1,.g 2,.o 3] O (zv rfl (za1 (gq 2 rfl)) (zv rfl (za1 (gq 1 rfl)) (zv rfl (zbk Tryz.underlying35 (has_wk' (vq 1 rfl) zrz)) (zv rfl (zb1 (vq 0 rfl) (vq 2 rfl)) o0)))) (zz [(0,_),(1,_),(4,_),(8,_)] [⟨0,59,ptrH,_⟩] fun a w O=>?_)
 refine za0<|za8 O (zm 3 rfl) (fun hb0=>?_) (fun hb0=>?_)
 ·have hi:i<xs.length:=by have:=of_decide_eq_true hb0; rw [zh2] at this; omega
  refine wp_skip<|zt<|wp_block<|zbs (sp:=[.v 11 _,.v 12 _,.v 13 _,.v 14 _,.v 15 _,.v 16 VT]) 5 1 99 5 OneC [.g 0,.g 1,.g 2,.o 0,.o 4] O (zv rfl (za1 (gq 0 rfl)) (zv rfl (za1 (gq 1 rfl)) (zv rfl (za1 (gq 2 rfl)) (zv rfl (zd0 zoe (zn3 fun _ _=>rfl) (has_wk' (vq 1 rfl) zrz) (vq 2 rfl) (lsP_at hi)) (zv rfl (zad (vq 3 rfl) zdg) o0))))) rfl zd zk zk (zz [(0,_),(1,_),(4,_),(11,_),(15,_)] [⟨0,59,ptrH,_⟩] fun a w O=>?_)
  rw [show List.range' 5 1=[5] from rfl]
  rw [wpOps_cons]
  refine zd8 (A1:=BkF ((K++lsK rrO kr ms xs i)++kr (xs.getD i rrO) (ms i)) Rs Es) (xs:=[.tmp 15]) [0,1,2] [4] 0 rfl O (CK.wkT (zs6 (xs.getD i rrO) (ms i) (K++lsK rrO kr ms xs i) Rs Es (zmm hi hs) (by rw [List.length_append,zd4]; omega)) zd) rfl (Eq.trans (b:=ptr g) (O.vals _ (zm 3 rfl)) (Eq.symm (O.vals _ (zm 0 rfl)))) (.cons ⟨_,rfl,rfl⟩ .nil) rfl hrm zd zk zk zk zk (fun a w O=>?_)
  refine zbi ?_
  have O:=zn [(16,_),(0,_),(1,_),(4,_)] [⟨0,59,ptrH,BkF ((K++lsK rrO kr ms xs i)++kr (xs.getD i rrO) (ms i)) Rs Es⟩] O
  refine zae ?_
  refine za0<|zg [none] [] [.v 9 _,.v 10 _,.v 4 _] [.g 1,.g 2,.o 2] O (zv rfl (za1 (gq 3 rfl)) (zv rfl (zb5 (vq 0 rfl) za3 (zb3 zo)) (zv rfl (za2 (vq 1 rfl)) o0))) (zz [(0,_),(1,_),(4,_)] [⟨0,59,ptrH,_⟩] fun a w O=>?_)
  refine za0 ?_
  have O:=St.sel O [0,1,2]
  exact ⟨n-1,by omega,i+1,by omega,St.cvA O 0 rfl (congrArg (fun k=>BkF k Rs Es) (show (K++lsK rrO kr ms xs i)++kr (xs.getD i rrO) (ms i)=K++lsK rrO kr ms xs (i+1) by rw [zgv,List.append_assoc]))⟩
 ·obtain rfl:i=xs.length:=by have:=of_decide_eq_false hb0; rw [zh2] at this; omega
  refine wp_exit<|za7<|za7<|zap<|za0<|zbs (sp:=[.v 17 _,.v 18 _,.v 19 VT]) 2 1 99 2 OneC [.g 0,.g 1,.o 0,.o 1] O (zv rfl (za1 (gq 0 rfl)) (zv rfl (za1 (has_wk' (gq 1 rfl) (lsp_ow zh2))) o0)) rfl zd zk zk (zz [(0,_),(1,_),(17,_),(18,_)] [⟨0,59,ptrH,_⟩] fun a w O=>?_)
  rw [show List.range' 2 1=[2] from rfl]
  rw [wpOps_cons]
  refine zd8 (A1:=BkF (K++lsK rrO kr ms xs xs.length) (Rs++[(v,xs.length)]) Es) (xs:=[.tmp 18]) [0,1] [3] 0 rfl O (CK.wkT (zxo (K++lsK rrO kr ms xs xs.length) Rs Es v xs.length hv (by rw [List.length_append,zd4]; omega)) zd) rfl (Eq.trans (b:=ptr g) (O.vals _ (zm 2 rfl)) (Eq.symm (O.vals _ (zm 0 rfl)))) (.cons ⟨_,rfl,rfl⟩ .nil) rfl hrm zd zk zk zk zk (fun a w O=>?_)
  refine zbi ?_
  have O:=zn [(19,_),(0,_),(1,_)] [⟨0,59,ptrH,BkF (K++lsK rrO kr ms xs xs.length) (Rs++[(v,xs.length)]) Es⟩] O
  refine zc9<|zen O (zm 1 rfl) (zm 0 rfl) ?_
  exact zb6 (rs:=[]) rfl O .nil zd
end Go.Proofs.YthdbhckhignfcaaGreatDoor
namespace Go.Proofs.YthdbhckhignfcaaGreatDoor
open Go Go.RowKit
def TED (x:RE):As:=DisA (RET x)
theorem zx1 {x:RE}:NewA (TED x):=ziv (zep fun A hA=>by
 simp at hA
 rcases hA with rfl | rfl | rfl
 ·exact zx3 _ _
 ·exact zmx
 ·exact zmx)
theorem free_ted {x:RE}:FreeA (TED x) (TED x):=zi0 (zsk x)
theorem te_pins {u v:Value}{x:RE}:WkA (cat [NumA .u8 x.k,PinA u ((TFD x.p).and (SepAll [] u)),PinA v ((TFD x.q).and (SepAll [u] v))]) (TED x) :=
 (dis_cons (fun _ _ _ h=>zza h) (zhz (l:=[(u,TFD x.p),(v,TFD x.q)]) (fun y hy=>by
  simp at hy
  rcases hy with rfl | rfl <;> exact ziu))).trans (zel (zc1 (.cons (.refl _) (.cons dis_wk (.cons dis_wk .nil)))))
theorem ret_ren {x:RE}:WkA (RET x) (REN x):=zc1 (.cons (.refl _) (.cons zmc (.cons zmc .nil)))
theorem ted_ren {x:RE}:WkA (TED x) (REN x):=dis_wk.trans ret_ren
theorem zt9 {l l':List As}(h:All2 WkA l l'){B:Nat}{ds:List Value}{w:World}(hp:(cat l).p B ds w):(cat l').p B ds w:=by
 obtain ⟨ps,e,hp⟩:=hp
 refine ⟨ps,e,?_⟩
 clear e
 induction h generalizing ps with
 | nil=>cases hp; exact .nil
 | cons h1 _ ih=>cases hp with | cons p1 p2=>exact .cons (h1.2.2 _ _ _ p1) (ih _ p2)
theorem zi5 {l l':List As}(h:All2 WkA l l'):l'.length=l.length:=by
 induction h with
 | nil=>rfl
 | cons _ _ ih=>simp [ih]
theorem zzp {l l':List As}{m:Nat}(h:All2 WkA l l')(hn:∀ A∈l,A.n=m):∀ A∈l',A.n=m:=by
 induction h with
 | nil=>exact fun A hA=>by cases hA
 | @cons X X' l l' h1 _ ih =>
  intro A hA
  rcases List.mem_cons.1 hA with rfl | hA
  ·rw [h1.1]; exact hn X (by simp)
  ·exact ih (fun A hA=>hn A (by simp [hA])) A hA
theorem own_mono {b E m:Nat}{D:List TypeId}{l l':List As}(h:All2 WkA l l')(hd:∀ A∈l',∀ T∈A.deps,T∈D):Wk (OwnR b E m D l) (OwnR b E m D l'):=fun B v w ⟨h1,h2,ds,h3,h4⟩ =>
 ⟨zzp h h1,hd,ds,zt9 h h3,by rw [zi5 h]; exact h4⟩
theorem zzo {l l':List As}{x:As}(h:All2 WkA l l'):All2 WkA (l++[x]) (l'++[x]):=by
 induction h with
 | nil=>exact .cons (.refl _) .nil
 | cons h1 _ ih=>exact .cons h1 ih
theorem zzv {E m:Nat}{D:List TypeId}{l l':List As}{x:As}(h:All2 WkA l l')(hd:∀ A∈l',∀ T∈A.deps,T∈D):Wk (TwS E m D l x) (TwS E m D l' x):=fun B v w ⟨g,c,h1,h2,h3⟩=>by
 have hx:∀ T∈x.deps,T∈D:=h3.2.1 x (by simp)
 refine ⟨g,c,by rw [zi5 h]; exact h1,h2,?_⟩
 rw [zi5 h]
 exact own_mono (zzo h) (fun A hA=>by
  rcases List.mem_append.1 hA with hA | hA
  ·exact hd A hA
  ·obtain rfl:=List.mem_singleton.1 hA; exact hx) _ _ _ h3
theorem zxb {q:Nat→Prop}{E m:Nat}{D:List TypeId}{l l':List As}(h:All2 WkA l l')(hd:∀ A∈l',∀ T∈A.deps,T∈D):Wk (LsQ q E m D l) (LsQ q E m D l'):=fun B v w ⟨h1,h2,⟨ds,h3,h4,h5⟩,h6⟩ =>
 ⟨zzp h h1,hd,⟨ds,zt9 h h3,by rw [zi5 h]; exact h4,h5⟩,h6⟩
theorem twS_own {E m:Nat}{D:List TypeId}{l:List As}{x:As}{B:Nat}{v:Value}{w:World}(h:(TwS E m D l x).p B v w):(OwnR B E m D l).p B v w:=by
 obtain ⟨g,c,h1,h2,h3,h4,ds,h5,h6,h7⟩:=h
 rcases h7 with ⟨h7,_⟩ | ⟨g',cap,cur,e1,e2,e3,e4,e5,e6,e7⟩
 ·cases h7
 ·injection e1 with eg _ e1
  injection eg with eg
  injection eg with eg
  subst eg e1 h1
  have hs:=(zpe h3 h5 l.length).1
  rw [List.take_left] at hs
  have hl:(ds.take (l.length*m)).length=l.length*m:=by
   rw [(cat l).len _ _ _ hs,zze fun A hA=>h3 A (by simp [hA])]
  refine ⟨fun A hA=>h3 A (by simp [hA]),fun A hA=>h4 A (by simp [hA]),ds.take (l.length*m),hs,hl,.inr ⟨g,c,cur,rfl,h2,e3,?_,e5,e6,?_⟩⟩
  ·rw [List.length_append] at e4
   exact Nat.le_of_lt e4
  ·rw [← e7,List.take_take,Nat.min_eq_left]
   rw [List.length_append]
   exact Nat.mul_le_mul_right m zo
theorem tws_d {α:Type}{E m:Nat}{D:List TypeId}{I:List (Nat × Nat)}{top:Nat}{xs:List α}{AD AT AN:α→As}{z:As}(hl:I.length=xs.length)(hs:Srt I top)(h1:∀ x,WkA (AD x) (AT x))(h2:∀ x,WkA (AD x) (AN x))(d1:∀ x,∀ T∈(AT x).deps,T∈D)(d2:∀ x,∀ T∈(AN x).deps,T∈D):Wk (TwS E m D (ivZ I (xs.map AD)) z) (andV (TwS E m D (xs.map AT) z) (LsN E m D (xs.map AN))):=fun B v w h=>by
 have hl':I.length=(xs.map AD).length:=by rw [List.length_map]; exact hl
 refine ⟨zzv ?_ (zd6 d1) _ _ _ h,zxb (zgf h2) (zd6 d2) _ _ _ (zwr hl' hs (Nat.le_refl _) (twS_own h))⟩
 clear h hs hl'
 induction xs generalizing I with
 | nil=>cases I with | nil=>exact .nil | cons=>cases hl
 | cons x xs ih=>cases I with
  | nil=>cases hl
  | cons i I=>exact .cons (iv_wk.trans (h1 x)) (ih (by simpa using hl))
theorem iv_len {α:Type}{I:List (Nat × Nat)}{xs:List α}{j:Nat}{f:α→As}(h:I.length=j)(hj:j≤xs.length):I.length=((xs.take j).map f).length:=by rw [List.length_map,List.length_take,Nat.min_eq_left hj]; exact h
theorem zl6 (x:RE)(hx:bdF x.p∧bdF x.q):Cn Tryz.prog 20 [(REA x).va] ((TED x).va):=by
 refine Cn.intro Tryz.func20 rfl zk nq (fun B w0 a O=>?_)
 have O:=zn [(0,(REA x).va)] [] O
 refine wp_seq<|zg [] [⟨1,69,ptrH,some 0,_,none⟩,⟨2,69,ptrH,some 1,_,none⟩] [.alc 0,.alc 1] [] O (oc (zam rfl rfl rfl (gq 0 rfl)) (oc (zas rfl rfl rfl (Str.zero zgb)) o0)) (zz [] [⟨1,69,ptrH,_⟩,⟨2,69,ptrH,_⟩] fun a w O=>?_)
 refine zt<|go_drawV' [[],[0],[],[2],[2,3],[],[5],[2,3,4,5,6],[0,1,2,3,4,5,6,7],[0,1,2,3,4,5,6,7,8]] (sts:=[none,some (9,fun ν=>_)]) (news:=[]) (sp:=[(fun ν=>.adr 3 1 (.some 0) True),(fun ν=>.v 4 _),(fun ν=>.adr 5 1 (.some 1) True),(fun ν=>.v 6 _),(fun ν=>.v 7 (PinA (ν 4) ((TFD x.p).and (SepAll [] (ν 4)))).va),(fun ν=>.adr 8 1 (.some 5) True),(fun ν=>.v 9 _),(fun ν=>.v 10 (PinA (ν 7) ((TFD x.q).and (SepAll [ν 4] (ν 7)))).va),(fun ν=>.v 11 _),(fun ν=>.sto 1)]) [] za6 O ⟨of_u fun ν=>ob_a rfl rfl (za9 (lz0 0 rfl) zcy),⟨of_u fun ν=>ob_v rfl rfl (za4 0 rfl zk trivial (lz0 0 rfl) (Sub.part 0 rfl rfl) zha),⟨of_u fun ν=>ob_a rfl rfl (za9 (lz0 0 rfl) zc8),⟨of_u fun ν=>ob_v rfl rfl (za4 2 rfl zk trivial (lz0 0 rfl) (Sub.part 1 rfl rfl) zar),⟨zdy (us:=fun ν=>[]) (xs:=[.tmp 6]) rfl rfl (zf6 _ hx.1) zin zjn (.cons (zgr _).va .nil) (fun ν=>(.cons (vq 3 rfl) .nil)) (fun _ _=>rfl) (fun ν=>zcx),⟨of_u fun ν=>ob_a rfl rfl (za9 (lz0 0 rfl) zcf),⟨of_u fun ν=>ob_v rfl rfl (za4 5 rfl zk trivial (lz0 0 rfl) (Sub.part 2 rfl rfl) zar),⟨zdy (us:=fun ν=>[ν 4]) (xs:=[.tmp 9]) rfl rfl (zf6 _ hx.2) zin zjn (.cons (zgr _).va .nil) (fun ν=>(.cons (vq 6 rfl) .nil)) (fun _ _=>rfl) (fun ν=>(zex (zfh zin) (vq 4 rfl) zcx)),⟨of_u fun ν=>ob_v rfl rfl (zbg (xs:=[(0,.tmp 4),(1,.tmp 7),(2,.tmp 10)]) (qs:=[(0,_),(1,_),(2,_)]) zgb (.cons ⟨rfl,(vq 1 rfl),rfl⟩ (.cons ⟨rfl,(vq 4 rfl),rfl⟩ (.cons ⟨rfl,(vq 7 rfl),rfl⟩ .nil)))),⟨of_u fun ν=>zak rfl rfl rfl (vq 8 rfl) zeg (Eq.trans (b:=9) rfl rfl),trivial⟩⟩⟩⟩⟩⟩⟩⟩⟩⟩ ⟨(fun ν ν' h=>rfl),⟨(fun ν ν' h=>rfl),⟨(fun ν ν' h=>rfl),⟨(fun ν ν' h=>rfl),⟨(fun ν ν' h=>by first | rfl | simp only [h 4 rfl]),⟨(fun ν ν' h=>rfl),⟨(fun ν ν' h=>rfl),⟨(fun ν ν' h=>by first | rfl | simp only [h 4 rfl,h 7 rfl]),⟨(fun ν ν' h=>by first | rfl | simp only [h 4 rfl,h 7 rfl]),⟨(fun ν ν' h=>by first | rfl | simp only [h 4 rfl,h 7 rfl]),trivial⟩⟩⟩⟩⟩⟩⟩⟩⟩⟩ ⟨trivial,⟨(fun ν ν' h=>by first | rfl | simp only [h 4 rfl,h 7 rfl]),trivial⟩⟩ zk zk (fun ν=>by kernel_rfl) (fun ν=>by kernel_rfl) (fun ν1 a w O=>?_)
 have O:=zn [] [⟨1,69,ptrH,_⟩,⟨2,69,ptrH,_⟩] O
 refine za0<|wp_ret<|zai ?_ (zaj rfl O (zm 1 rfl) zeg)
 exact te_pins.va
theorem zjw (xs:List RE)(hl:xs.length≤10000000)(hx:bdLElements xs):Cn Tryz.prog 7 [(SlA 69 [U32] (xs.map REA)).va] (andV (TwS 69 9 [U32] (xs.map RET) (REA ⟨77,rf0,rf0⟩)) (LsN 69 9 [U32] (xs.map REN))):=by
 obtain ⟨it,z,e1,e2,e3,e4,e5⟩:=zlc
 refine Cn.introW Tryz.func7 rfl zk nq (.cons (zpl (zd6 zo6)).va .nil) (zye (free_twS (zrx (zd6 zsk) zyc)) (zyd (zd6 fun _=>free_ren))) (fun B w0 a hB0 O=>?_)
 have O:=zn [(0,(SlO 69 [U32] (xs.map REA) True).va)] [] O
 refine wp_seq<|zh [.v 2 _] [.g 0,.o 0] O (zv rfl (za2 zb8) o0) (zz [(0,_),(2,_)] [] fun a w O=>?_)
 refine zt<|zh [.v 5 _,.v 6 _,.v 7 (In ((xs.length+1:Nat):Int)),.v 8 (OwnR w0.w.heap.size 69 9 [U32] []),.v 3 _] [.g 0,.o 4] O (zv rfl (za1 (gq 0 rfl)) (zv rfl (zbk Tryz.underlying22 (zd7 (zaz (vq 0 rfl)))) (zv rfl (zb5 (vq 1 rfl) za3 (wi_lm zo)) (zv rfl (r_makeR Tryz.underlying22 e1 e2 e3 e4 e5 zd zd (Nat.le_of_eq hB0) za3 (vq 2 rfl) zo) (zv rfl (za2 (vq 3 rfl)) o0))))) (fun a w O=>?_)
 have O:=St.addSz O 9999
 obtain ⟨top0,et0⟩:∃ t,w.heap.size=t:=⟨_,rfl⟩
 rw [et0] at O
 have O:=zn [(0,_),(3,_),(9999,_)] [] O
 refine zt<|wp_seq<|zh [.v 4 _] [.g 0,.g 1,.g 2,.o 0] O (zv rfl (za2 za3) o0) (zz [(0,_),(3,_),(9999,_),(4,_)] [] fun a w O=>?_)
 refine za0<|wp_block ?_
 have O:=St.sel O [0,1,3,2]
 refine wp_loop_ghost (fun n a w=>∃ (j:Nat) (I:List (Nat × Nat)) (top:Nat),(n+j=xs.length∧I.length=j∧Srt I top)∧St B w0 30 [(0,(SlO 69 [U32] (xs.map REA) True).va),(3,OwnR w0.w.heap.size 69 9 [U32] (ivZ I ((xs.take j).map TED))),(4,In (j:Nat)),(9999,SzV top)] [] a w) (xs.length) ?_ ?_
 ·exact ⟨0,[],top0,⟨by omega,rfl,zve⟩,O⟩
 intro n a w hI
 obtain ⟨j,I,top,⟨hn,hIl,hS⟩,O⟩:=hI
 refine wp_seq<|wp_seq<|zh [.v 9 _,.v 10 _,.v 11 _,.v 12 _] [.g 0,.g 1,.g 2,.g 3,.o 3] O (zv rfl (za1 (gq 2 rfl)) (zv rfl (za1 (gq 0 rfl)) (zv rfl (zbk Tryz.underlying22 (zd7 (zaz (vq 1 rfl)))) (zv rfl (zb1 (vq 0 rfl) (vq 2 rfl)) o0)))) (zz [(0,_),(3,_),(4,_),(9999,_),(12,_)] [] fun a w O=>?_)
 refine za0<|za8 O (zm 4 rfl) (fun hb0=>?_) (fun hb0=>?_)
 ·have hj:j<xs.length:=by simp at hb0; omega
  refine wp_skip<|zt<|wp_block ?_
  obtain ⟨ht0,O⟩:=St.newSz O 3 rfl
  obtain ⟨h1,eh1⟩:∃ h1,w.heap.size=h1:=⟨_,rfl⟩
  rw [eh1] at O ht0
  have O:=zn [(0,_),(3,_),(4,_),(9999,_),(12,_)] [] O
  refine zkf (sp:=[.v 15 _,.v 16 _,.v 17 _,.v 18 _,.v 19 _,.v 20 _,.v 21 _,.v 22 VT,.v 3 VT]) 7 [0,2,3] 0 6 O (zv rfl (za1 (gq 1 rfl)) (zv rfl (za1 (gq 0 rfl)) (zv rfl (za1 (gq 2 rfl)) (zv rfl (zd0 zhc (zgp fun _=>rfl) (zd7 (zaz (vq 1 rfl))) (vq 2 rfl) (ze1 hj)) (zv rfl (zad (vq 3 rfl) zeg) (zv rfl (zmk (h:=h1) (s:=9999) (zl6 xs[j] (hx _ (List.getElem_mem hj))) zx1 ziu free_ted (.cons (zo6 _).va .nil) (.cons (vq 4 rfl) .nil) (gq 3 rfl)) (zv rfl (zcr (D:=[U32]) (l:=[_]) (xs:=[.tmp 20]) (zeq zk) zhc zk (n_ok zk) nq nq nq (.cons (vq 5 rfl) .nil) rfl rfl) o0))))))) rfl zk rfl rfl zd rfl zd rfl (fun _ _ h _=>h) Tryz.underlying22 e1 e2 e3 e4 e5 zd (by rw [zn8 (iv_len hIl zo)]; simp only [List.length_map,List.length_take,List.length_singleton]; omega) zd (fun T hT=>hT) zd (fun A hA=>by obtain rfl:=List.mem_singleton.1 hA; rfl) zk nq nq zk zk (zz [(3,_),(0,_),(4,_),(9999,_)] [] fun a w O=>?_)
  have O:=St.setG (A':=OwnR w0.w.heap.size 69 9 [U32] (ivZ I ((xs.take j).map TED)++[IvA h1 w.heap.size (TED xs[j])])) O 0 rfl (own_up zx1)
  obtain ⟨hq,O⟩:=St.newSz O 3 rfl
  obtain ⟨h2,eh2⟩:∃ h2,w.heap.size=h2:=⟨_,rfl⟩
  rw [eh2] at O hq
  have O:=zn [(3,_),(0,_),(4,_),(9999,_)] [] O
  refine zae ?_
  refine za0<|zh [.v 13 _,.v 14 _,.v 4 _] [.g 0,.g 1,.g 3,.o 2] O (zv rfl (za1 (gq 2 rfl)) (zv rfl (zb5 (vq 0 rfl) za3 (zb3 zo)) (zv rfl (za2 (vq 1 rfl)) o0))) (zz [(3,_),(0,_),(9999,_),(4,_)] [] fun a w O=>?_)
  refine za0 ?_
  have O:=St.sel O [1,0,3,2]
  exact ⟨n-1,by omega,j+1,I++[(h1,h2)],h2,⟨by omega,by rw [List.length_append,hIl]; rfl,zvf hS ht0 hq⟩,St.wkG (A':=OwnR w0.w.heap.size 69 9 [U32] (ivZ (I++[(h1,h2)]) ((xs.take (j+1)).map TED))) O 1 rfl (zbt (congrArg (OwnR w0.w.heap.size 69 9 [U32]) ((zxw (iv_len hIl zo)).trans (congrArg (ivZ _) (row_nx hj)))))⟩
 ·obtain rfl:j=xs.length:=by simp at hb0; omega
  refine wp_exit<|za7<|za7<|zap<|zt ?_
  have hIl2:(ivZ I (xs.map TED)).length=xs.length:=by rw [zn8 (by rw [List.length_map]; exact hIl),List.length_map]
  have O:=St.wkG (A':=OwnR w0.w.heap.size 69 9 [U32] (ivZ I (xs.map TED))) O 1 rfl (zbt (by rw [List.take_length]))
  refine go_appSl (sp:=[.v 23 _,.v 24 _,.v 25 _,.v 26 VT,.v 27 VT,.v 28 VT,.v 29 VT,.v 2 VT]) 3 [] 0 2 O (zv rfl (za1 (gq 1 rfl)) (zv rfl (zbg (xs:=[(0,.const (.int .u8 77))]) (qs:=[(0,_)]) zgb (.cons ⟨rfl,za3,rfl⟩ .nil)) (zv rfl (zcr (D:=[U32]) (l:=[REA ⟨77,rf0,rf0⟩]) (xs:=[.tmp 24]) (zeq zk) zhc zk (n_ok zk) nq nq nq (.cons (vq 1 rfl) .nil) rfl rfl) (o0)))) rfl zk rfl rfl rfl rfl rfl 0 rfl (fun B u w h=>by have h2:=sl_len B u w h; rw [List.length_map] at h2; rw [hIl2]; exact h2) zk zd rfl zd rfl (fun _ _ h _=>h) Tryz.underlying22 e1 e2 e3 e4 e5 zd (by rw [hIl2]; omega) zd (fun T hT=>hT) zd zk zd nq nq nq nq nq zk zk (zz [(2,_)] [] fun a w O=>?_)
  refine za0<|wp_ret<|zai ?_ (zaf rfl O (zm 0 rfl))
  exact tws_d hIl hS (fun _=>dis_wk) (fun _=>ted_ren) (fun _=>zfi zk) (fun _=>zfi zk)
end Go.Proofs.YthdbhckhignfcaaGreatDoor
namespace Go.Proofs.YthdbhckhignfcaaGreatDoor
open Go Go.RowKit
def elCostF (x:RE):Int:=IntKind.i64.wrap (fracCostF x.p+fracCostF x.q)
def elsF (n:Int):List RE→Int
 | []=>n
 | x::xs=>if decide (n≤1048576) then elsF (IntKind.i64.wrap (n+elCostF x)) xs else n
theorem els_go {n:Int}{l:List RE}{j:Nat}(h:j<l.length)(h2:n≤1048576):elsF n (l.drop j)=elsF (IntKind.i64.wrap (n+elCostF l[j])) (l.drop (j+1)):=by
 rw [List.drop_eq_getElem_cons h,elsF,if_pos (decide_eq_true h2)]
theorem els_end {n:Int}{l:List RE}{j:Nat}(h:¬ (j<l.length∧n≤1048576)):elsF n (l.drop j)=n:=by
 by_cases hj:j<l.length
 ·rw [List.drop_eq_getElem_cons hj,elsF,if_neg (by simpa using fun hh=>h ⟨hj,hh⟩)]
 ·rw [List.drop_of_length_le zo]; rfl
theorem elCost_c (x:RE):Cn Tryz.prog 18 [(REA x).va] (In (elCostF x)):=by
 refine Cn.intro Tryz.func18 rfl zk nq (fun B w0 a O=>?_)
 have O:=zn [(0,(REA x).va)] [] O
 refine wp_seq<|zg [] [⟨1,69,ptrH,some 0,_,none⟩] [.alc 0,.v 2 _] [.o 1] O (oc (zam rfl rfl rfl (gq 0 rfl)) (zv rfl (za2 za3) o0)) (zz [(2,_)] [⟨1,69,ptrH,_⟩] fun a w O=>?_)
 refine zt<|zgd [[],[0],[0,1],[],[3],[0,1,2,3,4],[0,1,2,3,4,5],[0,1,2,3,4,5,6]] [none] [] [.adr 3 1 (.some 1) True,.v 4 _,.v 5 _,.adr 6 1 (.some 5) True,.v 7 _,.v 8 _,.v 9 _,.v 2 _] [.o 7] za6 O (oc (ob_a rfl rfl (za9 (lz0 0 rfl) zc8)) (zv rfl (za4 0 rfl zk trivial (lz0 0 rfl) (Sub.part 1 rfl rfl) zar) (zv rfl (za5 (xs:=[.tmp 4]) (zgj _) (.cons (vq 1 rfl) .nil)) (oc (ob_a rfl rfl (za9 (lz0 0 rfl) zcf)) (zv rfl (za4 3 rfl zk trivial (lz0 0 rfl) (Sub.part 2 rfl rfl) zar) (zv rfl (za5 (xs:=[.tmp 7]) (zgj _) (.cons (vq 4 rfl) .nil)) (zv rfl (zb5 (vq 2 rfl) (vq 5 rfl) (rfl)) (zv rfl (za2 (vq 6 rfl)) o0)))))))) zk zk zk zk (zz [(2,_)] [⟨1,69,ptrH,_⟩] fun a w O=>?_)
 refine za0<|wp_ret<|zai ?_ (zaf rfl O (zm 0 rfl))
 exact zbn
theorem zyx (xs:List RE):Cn Tryz.prog 5 [(SlA 69 [U32] (xs.map REA)).va] (In (elsF (xs.length:Nat) xs)):=by
 refine Cn.intro Tryz.func5 rfl zk nq (fun B w0 a O=>?_)
 have O:=zn [(0,(SlA 69 [U32] (xs.map REA)).va)] [] O
 have hl:=zm8 (O.vals (0,(SlA 69 [U32] (xs.map REA)).va) (zm 0 rfl))
 refine wp_seq<|zh [.v 2 _] [.g 0,.o 0] O (zv rfl (za2 za3) o0) (zz [(0,_),(2,_)] [] fun a w O=>?_)
 refine zt<|zh [.v 5 _,.v 6 _,.v 3 _] [.g 0,.g 1,.o 2] O (zv rfl (za1 (gq 0 rfl)) (zv rfl (zbk Tryz.underlying22 (vq 0 rfl)) (zv rfl (za2 (vq 1 rfl)) o0))) (zz [(0,_),(2,_),(3,_)] [] fun a w O=>?_)
 refine zt<|wp_seq<|zh [.v 4 _] [.g 0,.g 1,.g 2,.o 0] O (zv rfl (za2 za3) o0) (zz [(0,_),(2,_),(3,_),(4,_)] [] fun a w O=>?_)
 refine za0<|wp_block ?_
 have O:=St.sel O [0,2,3]
 refine wp_loop_ghost (fun n a w=>∃ (j:Nat) (m:Int),(n+j=xs.length∧elsF (xs.length:Nat) xs=elsF m (xs.drop j))∧St B w0 25 [(0,(SlA 69 [U32] (xs.map REA)).va),(3,In m),(4,In (j:Nat))] [] a w) (xs.length) ?_ ?_
 ·exact ⟨0,(xs.length:Nat),⟨by omega,rfl⟩,by rw [List.length_map] at O; exact O⟩
 intro n a w hI
 obtain ⟨j,m,⟨hn,hm⟩,O⟩:=hI
 refine wp_seq<|wp_seq<|zh [.v 7 _,.v 8 _,.v 9 _,.v 10 _,.v 11 _,.v 12 (Wh (_=true) _),.v 13 (Wh (_=true) _),.v 14 _] [.g 0,.g 1,.g 2,.o 7] O (zv rfl (za1 (gq 2 rfl)) (zv rfl (za1 (gq 0 rfl)) (zv rfl (zbk Tryz.underlying22 (vq 1 rfl)) (zv rfl (zb1 (vq 0 rfl) (vq 2 rfl)) (zv rfl (za1 (vq 3 rfl)) (oc (zan rfl rfl rfl (vq 4 rfl) nq (fun hg=>za1 (gq 1 rfl))) (oc (zan rfl rfl rfl (vq 4 rfl) nq (fun hg=>ztn (zab (vq 5 rfl) hg) za3)) (zv rfl (zcc (vq 4 rfl) (vq 6 rfl)) o0)))))))) (zz [(0,_),(3,_),(4,_),(14,_)] [] fun a w O=>?_)
 refine za0<|za8 O (zm 3 rfl) (fun hb0=>?_) (fun hb0=>?_)
 ·rw [Bool.and_eq_true,decide_eq_true_eq,decide_eq_true_eq,List.length_map] at hb0
  have hj:j<xs.length:=by omega
  have hm0:=hb0.2
  refine wp_skip<|zt<|wp_block<|zh [.v 17 _,.v 18 _,.v 19 _,.v 20 _,.v 21 _,.v 22 _,.v 23 _,.v 3 _] [.g 0,.g 2,.o 7] O (zv rfl (za1 (gq 1 rfl)) (zv rfl (za1 (gq 0 rfl)) (zv rfl (za1 (gq 2 rfl)) (zv rfl (zd0 zhc (zgp fun _=>rfl) (vq 1 rfl) (vq 2 rfl) (ze1 hj)) (zv rfl (zad (vq 3 rfl) zeg) (zv rfl (za5 (xs:=[.tmp 21]) (elCost_c _) (.cons (vq 4 rfl) .nil)) (zv rfl (zb5 (vq 0 rfl) (vq 5 rfl) (rfl)) (zv rfl (za2 (vq 6 rfl)) o0)))))))) (zz [(0,_),(4,_),(3,_)] [] fun a w O=>?_)
  refine zae ?_
  refine za0<|zh [.v 15 _,.v 16 _,.v 4 _] [.g 0,.g 2,.o 2] O (zv rfl (za1 (gq 1 rfl)) (zv rfl (zb5 (vq 0 rfl) za3 (wi_nx hj hl)) (zv rfl (za2 (vq 1 rfl)) o0))) (zz [(0,_),(3,_),(4,_)] [] fun a w O=>?_)
  refine za0 ?_
  have O:=St.sel O [0,1,2]
  exact ⟨n-1,by omega,j+1,_,⟨by omega,hm.trans (els_go hj hm0)⟩,O⟩
 ·have hnj:¬ (j<xs.length∧m≤1048576):=by rintro ⟨h1,h2⟩; rw [List.length_map,decide_eq_true (by omega:(j:Int)<(xs.length:Int)),decide_eq_true h2] at hb0; exact absurd hb0 zd
  refine wp_exit<|za7<|za7<|zap<|zt<|zh [.v 24 _,.v 2 _] [.o 1] O (zv rfl (za1 (gq 1 rfl)) (zv rfl (za2 (vq 0 rfl)) o0)) (zz [(2,_)] [] fun a w O=>?_)
  refine za0<|wp_ret<|zai ?_ (zaf rfl O (zm 0 rfl))
  exact zbt (congrArg In (hm.trans (els_end hnj)).symm)
open Go.ChangeShapes Go.WideShapes Go.ChangeAt
def wdE (x:RE):Prop:=wdF x.p∧wdF x.q
section
variable {H:Type} {enc:TypeId × Value→H} {w:World} {base:Nat} {spare:Nat→Bool} {held:Bool} {fuel:Nat} {cs:List Value} {x:DataW H × List MemPlace}
theorem rd_ek (h:DataW.trod enc Tryz.prog w base spare held fuel 67 cs=some x):∃ y,(NumA .u8 y).p w.heap.size cs w:=by
 obtain ⟨a,ha,_⟩:=DataW.trod_int Tryz.underlying67 h
 exact ⟨a,ha⟩
theorem rb_re (h:DataW.trod enc Tryz.prog w base spare held fuel 69 cs=some x)(hw:Wt Tryz.prog 69 x.1):∃ y,(REA y).p w.heap.size cs w∧wdE y:=by
 have hl:cs.length=9:=by
  obtain ⟨_,_,_,_,hl,_,_⟩:=DataW.trod_struct Tryz.underlying69 h
  exact hl.trans zk
 obtain ⟨n0,y0,h0,w0⟩:=zfa Tryz.underlying69 h hw 0 rfl
 have c0:Tryz.prog.cellsOf 67=1:=by kernel_rfl
 have h0:DataW.trod enc Tryz.prog w base spare held n0 67 ((cs.drop 0).take (Tryz.prog.cellsOf 67))=some y0:=h0
 rw [c0] at h0
 obtain ⟨a0,q0⟩:=rd_ek h0
 obtain ⟨n1,y1,h1,w1⟩:=zfa Tryz.underlying69 h hw 1 rfl
 have c1:Tryz.prog.cellsOf 27=4:=by kernel_rfl
 have h1:DataW.trod enc Tryz.prog w base spare held n1 27 ((cs.drop 1).take (Tryz.prog.cellsOf 27))=some y1:=h1
 rw [c1] at h1
 obtain ⟨a1,q1,b1⟩:=rb_rf h1 w1
 obtain ⟨n2,y2,h2,w2⟩:=zfa Tryz.underlying69 h hw 2 rfl
 have c2:Tryz.prog.cellsOf 27=4:=by kernel_rfl
 have h2:DataW.trod enc Tryz.prog w base spare held n2 27 ((cs.drop 5).take (Tryz.prog.cellsOf 27))=some y2:=h2
 rw [c2] at h2
 obtain ⟨a2,q2,b2⟩:=rb_rf h2 w2
 exact ⟨⟨a0,a1,a2⟩,zzb q0 q1 q2 hl,⟨b1,b2⟩⟩
end
theorem el_cost {x:RE}(h:wdE x):∃ a b:Nat,elCostF x=((a+b:Nat):Int)∧(x.p.num.mag.length+x.p.den.mag.length+2≤a∧x.q.num.mag.length+x.q.den.mag.length+2≤b)∧a+b≤9007199254740992:=by
 obtain ⟨h1,h2⟩:=h
 obtain ⟨a,ea,la,ma⟩:=zhq h1
 obtain ⟨b,eb,lb,mb⟩:=zhq h2
 refine ⟨a,b,?_,⟨by omega,by omega⟩,by omega⟩
 unfold elCostF
 rw [ea,eb,wi64 zo zo]
 omega
def shE (c:Nat)(x:RE):Prop:=(x.p.num.mag.length≤c∧x.p.den.mag.length≤c)∧x.q.num.mag.length≤c∧x.q.den.mag.length≤c
theorem els_ok:∀ (xs:List RE) (n:Nat),(∀ x∈xs,wdE x)→n≤288230376151711744→∃ c:Nat,elsF (n:Int) xs=(c:Int)∧c≤576460752303423488∧(c≤1048576→n+4*xs.length≤c∧∀ x∈xs,shE c x)
 | [],n,_,hn=>⟨n,rfl,by omega,fun _=>⟨Nat.le_refl _,fun x hx=>by cases hx⟩⟩
 | x::xs,n,hw,hn=>by
  obtain ⟨a,b,e,l,hs⟩:=el_cost (hw x (by simp))
  by_cases h:n≤1048576
  ·obtain ⟨c,h1,h2,h3⟩:=els_ok xs (n+(a+b)) (fun y hy=>hw y (by simp [hy])) zo
   refine ⟨c,?_,h2,fun hc=>?_⟩
   ·rw [elsF,if_pos (decide_eq_true zo),e,wi64 zo zo]
    exact h1
   ·obtain ⟨h4,h5⟩:=h3 hc
    refine ⟨by simp only [List.length_cons]; omega,fun y hy=>?_⟩
    rcases List.mem_cons.1 hy with rfl | hy
    ·unfold shE; omega
    ·exact h5 y hy
  ·refine ⟨n,?_,by omega,fun hc=>absurd hc h⟩
   rw [elsF,if_neg (by intro h2; have:=of_decide_eq_true h2; omega)]
theorem els_bd {xs:List RE}{c:Nat}(h:∀ x∈xs,shE c x)(hc:c≤1048576):∀ x∈xs,bdF x.p∧bdF x.q:=fun x hx=>by
 have:=h x hx
 unfold shE at this
 unfold bdF
 omega
theorem up_slA {E:TypeId}{D:List TypeId}{l:List As}(h:∀ A∈l,UpA A A):Up (SlA E D l).va (SlA E D l).va:=fun B v w hB hp=>slx _ _ _ ((zpl h).va B v w hB hp)
end Go.Proofs.YthdbhckhignfcaaGreatDoor
namespace Go.Proofs.YthdbhckhignfcaaGreatDoor
open Go Go.RowKit
theorem zbk_bkf:WkA (cat ZBk) (BkF [] [] []):=⟨rfl,rfl,fun B cs w ⟨ps,e,hp⟩=>by
 refine ⟨⟨0,.slice none 0 0,[],.slice none 0 0,[],.slice none 0 0,[]⟩,.slice none 0 0,[],⟨rfl,rfl,⟨rfl,fun s hs=>by cases hs⟩,⟨rfl,fun s hs=>by cases hs⟩,⟨rfl,fun s hs=>by cases hs⟩⟩,ps,e,?_⟩
 have hk:∀ {H E m:Nat} {c:List Value},(EqS (.slice none 0 0)).p B c w→(HkA H E m (.slice none 0 0) []).p B c w:=fun {H E m c} h=>⟨h.1,World.ownsRow_nil ..,(fun s hs=>by cases hs),fun i j s t h=>by cases h⟩
 cases hp with
 | cons h1 hp=>cases hp with
  | cons h2 hp=>cases hp with
   | cons h3 hp =>
    refine .cons h1 (.cons ⟨h2.1,World.ownsRow_nil ..,(fun s hs=>by cases hs),fun i j s t h=>by cases h⟩ (.cons (hk h3) ?_))
    iterate 5 (cases hp; rename_i h3 hp; refine .cons h3 ?_)
    cases hp; rename_i h3 hp; refine .cons (hk h3) ?_
    cases hp; rename_i h3 hp; refine .cons (hk h3) ?_
    iterate 7 (cases hp; rename_i h3 hp; refine .cons h3 ?_)
    cases hp
    exact .nil⟩
theorem zq1 {x:RR}:NewA (RRN x):=zep fun A hA=>by
 simp at hA
 rcases hA with rfl | rfl <;> exact zq2
theorem lnK_e {x:RE}{m:Nat→Value}(h:bdF x.p∧bdF x.q):LnK (ke x m):=zh3 (lnK_f h.1) (lnK_f h.2)
theorem lnK_ls {ms:Nat→Nat→Value}{xs:List RE}(h:∀ x∈xs,bdF x.p∧bdF x.q):LnK (lsK reO ke ms xs xs.length):=by
 have key:∀ i,i≤xs.length→LnK (lsK reO ke ms xs i):=fun i=>by
  induction i with
  | zero=>exact fun _ p hp=>by cases hp
  | succ i ih =>
   intro hi
   rw [zgv]
   refine zh3 (ih zo) (lnK_e (h _ ?_))
   rw [List.getD_eq_getElem?_getD,List.getElem?_eq_getElem zo]
   exact List.getElem_mem _
 exact key _ (Nat.le_refl _)
theorem tws_sla {E m:Nat}{xs:List RE}{z:As}{Y:VA}:Wk (andV (TwS E m [U32] (xs.map RET) z) Y) (SlA E [U32] (xs.map REA)).va:=zc6 zzn (zc6 twS_sl (zth (zgf fun x=>wkA_ret) (zd6 (p:=fun A=>∀ T∈A.deps,T∈[U32]) fun x=>zfi zk)).va)
end Go.Proofs.YthdbhckhignfcaaGreatDoor
namespace Go.Proofs.YthdbhckhignfcaaGreatDoor
open Go Go.RowKit
section
variable {B N:Nat} {w0:Bs} {Γ:List (Nat × VA)} {Λ:List Lc} {a:Act} {w:World}
end
theorem zwz {q:Nat→Prop}{E m:Nat}{D:List TypeId}:Wk (EqV (.slice none 0 0)) (LsQ q E m D []):=fun B v w h=>by
 have h':v=.slice none 0 0:=h
 subst h'
 exact ⟨fun A hA=>(by cases hA),fun A hA=>(by cases hA),⟨[],⟨[],rfl,.nil⟩,World.ownsRow_nil ..,List.nodup_nil,fun g hg=>(by cases hg)⟩,fun g hg=>by cases hg⟩
section
open Rg
variable {P:Program} {Q:Exit→Act→World→Prop} {R:Rg} {B i:Nat} {w0:Bs}
theorem zwd {f h s E m:Nat}{D:List TypeId}{Xs:List As}{C:As}{pre pre':List VA}{xs:List Operand}{at_:Array TypeId}(hc:Cn P f pre' (Tu [LsN E m D Xs,C.va]))(hN:∀ A∈Xs,NewA A)(hF:∀ A∈Xs,FreeA A A)(hfC:FreeA C C)(hup:All2 Up pre pre')(hx:HasL R B w0 i xs pre)(hs:Has R B w0 i (.tmp s) (SzV h)):Wv P Q R B w0 i (.call ⟨.value (.func f),xs.toArray,at_⟩) (Tu [LsG h E m D Xs,C.va]):=by
 intro d T ps af gd a w av K hK
 obtain ⟨⟨fn,hf,hn,hb⟩,hcall⟩:=hc
 have hrun:(execOp a.eval ⟨some d,.call ⟨.value (.func f),xs.toArray,at_⟩,T,ps,af,gd⟩).run P w=.ok (.enter f (xs.map a.eval).toArray) w:=by
  simp only [execOp,resolve,Act.eval,Deferred.ofValue,Sem.run_bind,Sem.run_pure,Result.andThen_ok,invoke,zbz hf hn hb]
  simp
 have hsz:h≤w.heap.size:=hs a w av
 unfold Oper.wp
 rw [hrun]
 refine (hcall w.heap.size w _ (Nat.le_refl _) (zzi hup hx av)).mono ?_
 rintro e w' ⟨v,rfl,⟨vs,hv,h2⟩,hg⟩
 cases h2 with
 | @cons _ x _ vs h2 h3=>cases h3 with
  | @cons _ y _ vs h3 h4 =>
   cases h4
   obtain ⟨ds,hq,hsq⟩:=h3
   exact hK v w' hg ⟨[x,y],hv,.cons (ls_free hF hN (Av.bw av) hsz h2) (.cons ⟨ds,hfC.2.2 _ _ _ _ (Av.bw av) hq,hsq⟩ .nil)⟩
end
end Go.Proofs.YthdbhckhignfcaaGreatDoor
