import Derived.Test.YtbghmmnkciimdaaGreatDoorPzAe
import Derived.Maps.Own
import Derived.Maps.OwnSet
import Derived.Maps.Views
import Derived.Carry
import Derived.StringKeys
import Derived.ChangeArms
import Derived.Laws.Strings
import Derived.WideShapes
set_option linter.all false
set_option maxRecDepth 100000
set_option autoImplicit true
namespace Go.Proofs.YtbghmmnkciimdaaGreatDoor
open Go Go.RowKit
variable {w:World}{B:Nat}{a:Act}{v:Value}{T:TypeId}{w0:Bs}{Γ:List (Nat × VA)}{Λ:List Lc}{ps:String}{af:Array Edge}{vr:Value}{H:Hd}{cs:List Value}{w':World}{P:Program}{D:List TypeId}
abbrev ky (s:ByteArray):Lit:=.string s.data.toList
def dupB (ns:List ByteArray):Bool := !decide (ns.map λ s=>s.data.toList).Nodup
def MpI (P:Program)(K E:TypeId)(w:World)(b:Nat)(ns:List ByteArray):Prop :=
 ∃ D:DataW Unit,w.ownsMap P K (plainElem P E) b ns.length D∧Maps.Tidy D∧(∀ s:ByteArray,Maps.has D (ky s)=(ns.map λ s=>s.data.toList).contains s.data.toList)∧decide (Maps.size D<ns.length)=dupB ns
section
variable {P:Program}{K E T:TypeId}{w:World}{b:Nat}{ns:List ByteArray}
theorem No:MpI P K E (w.alloc (.map #[] 0)) w.heap.size [] :=
 ⟨.map [],World.ownsMap_made w P K _,Maps.tidy_empty,λ s=>rfl,rfl⟩
theorem MpI.at_ (h:MpI P K E w b ns):∃ es clock,w.heap[b]?=some (.map es clock):=by
 obtain ⟨D,⟨es,clock,hb,_⟩,_⟩:=h;exact ⟨es,clock,hb⟩
theorem MpI.kept (h:MpI P K E w b ns)(hk:w'.heap[b]?=w.heap[b]?):MpI P K E w' b ns:=by
 obtain ⟨D,⟨es,clock,hb,F,hs,hD⟩,h2,h3,h4⟩:=h;exact ⟨D,⟨es,clock,hk.trans hb,F,hs,hD⟩,h2,h3,h4⟩
theorem MpI.len (h:MpI P K E w b ns)(ht:P.underlying T=some (.map K E))(ty:Yh):∃ n:Nat,(Builtin.len_ #[T] ty #[.map (some b)]).run P w=.ok (.int .i64 n) w∧decide ((n:Int)<(ns.length:Int))=dupB ns:=by
 obtain ⟨D,h1,h2,h3,h4⟩:=h;exact ⟨_,h1.len ht ty,by rw [← h4,qW];omega⟩
theorem wH (ns:List ByteArray)(s:ByteArray):dupB (ns++[s])=(dupB ns || (ns.map λ s=>s.data.toList).contains s.data.toList):=by
 unfold dupB;rw [zD,vW];by_cases h1:(ns.map λ s=>s.data.toList).Nodup
 ·by_cases h2:s.data.toList∈ns.map λ s=>s.data.toList
  ·have:¬ ((ns.map λ s=>s.data.toList)++[s.data.toList]).Nodup:=λ h=>(xD.1 h).2.2 _ h2 _ (by simp) rfl;rw [zT this,qC,qH h2];simp
  ·have:((ns.map λ s=>s.data.toList)++[s.data.toList]).Nodup:=xD.2 ⟨h1,by simp,λ a ha c hc e=>by
    obtain rfl:=qo.1 hc;exact h2 (e▸ha)⟩
   rw [qH this,qH h1,qC,zT h2];rfl
 ·have:¬ ((ns.map λ s=>s.data.toList)++[s.data.toList]).Nodup:=λ h=>h1 (xD.1 h).1;rw [zT this,zT h1];rfl
theorem MpI.add (h:MpI P K E w b ns)(hK:P.underlying K=some .string)(ht:P.underlying T=some (.map K E))(hE:P.underlying E=some (.int .i64))(hz:(zeroValue E).run P w=.ok (.int .i64 0) w)(hn:ns.length<4096){s:ByteArray}(hs:s.size≤4096) :
  ∃ c:Int,(Instr.lookup T (.map (some b)) (.string s) false).run P w=.ok (.int .i64 c) w∧∃ w',(Instr.mapUpdate T (.map (some b)) (.string s) (.int .i64 (IntKind.i64.wrap (c+1)))).run P w=.ok () w'∧MpI P K E w' b (ns++[s])∧w.grownBy w' (some b):=by
 obtain ⟨D,h1,h2,h3,h4⟩:=h;have hkey:keyOf P K (.string s)=some (ky s):=WideMaps.keyOf_string_mk hK (by unfold maxLen;omega);have hkl:WideAt.IsKeyLit (ky s):=by trivial
 obtain ⟨c,hr,_,_⟩:=h1.lookup_int (Maps.string_keyed hK) ht hE hz hkey;have hwf:(Lit.int .i64 (IntKind.i64.wrap (c+1))).wf=true:=wf_wrap _ _;obtain ⟨w',hr',ho,hg⟩:=h1.update (Maps.string_keyed hK) ht (by unfold maxLen;omega) hkey (plainElem_int (H:=Unit) hE hwf);refine ⟨c,hr,w',hr',⟨_,by rw [qv];exact ho,h2.put hkl _,λ s'=>?_,?_⟩,hg⟩
 ·rw [zD,vW];by_cases e:s'.data.toList=s.data.toList
  ·rw [show ky s'=ky s from qq Lit.string e,Maps.has_put_same h2.isMap hkl,e];simp
  ·rw [Maps.has_put_other (λ h=>e (by injection h)),h3];simp [qC,e]
 ·rw [wH,Maps.size_put h2,h3 s,← h4];have hle:=h1.size_le;rw [qv,z7];by_cases e:(ns.map λ s=>s.data.toList).contains s.data.toList=true
  ·rw [qD e,e,Bool.or_true];exact qH zo
  ·rw [qA e,xS.2 e,Bool.or_false,qW];omega
end
def locV (Λ:List Lc)(a:Act)(k:Nat):Prop:=∃ l∈Λ,blk (a.eval (.tmp l.s))=some k
def defV (w0:Bs)(w:World)(k:Nat):Prop:=w0.may k∧w.heap[k]?=some (.deferred (some []))
theorem St.frameM {B N:Nat}(h:St B w0 N Γ Λ a w):∃ w1:Bs,St B w1 N Γ Λ a w∧∀ {N':Nat}{Γ':Yf}{Λ':List Lc}{a':Act}{w':Yi},St B w1 N' Γ' Λ' a' w' →
  St B w0 N' Γ' Λ' a' w'∧∀ (k:Nat) (es:Array MapEntry) (clock:Nat),w.heap[k]?=some (.map es clock)→w'.heap[k]?=some (.map es clock):=by
 have hloc:∀ k,locV Λ a k→w0.may k∧∃ l∈Λ,blk (a.eval (.tmp l.s))=some k∧∃ cs,w.heap[k]?=some (.cells cs l.T (0,0)):=λ k ⟨l,hl,hb⟩=>by
  obtain ⟨g,cs,e1,e2,e3,_⟩:=h.locs l hl;have:g=k:=by rw [e1,l.H.ok] at hb;injection hb
  subst this;exact ⟨e2,l,hl,hb,_,e3⟩
 have hmay:∀ k,(⟨w,λ k=>locV Λ a k∨defV w0 w k,w0.nd⟩:Bs).may k→w0.may k:=λ k hk=>by
  rcases hk with hk|hk|hk
  ·exact .inl (qg h.base.size hk)
  ·exact (hloc k hk).1
  ·exact hk.1
 refine ⟨⟨w,λ k=>locV Λ a k∨defV w0 w k,w0.nd⟩,⟨?_,⟨λ d hd=>?_,h.defers.nodup,h.defers.none⟩,h.size,Kept.refl _,h.vals,λ l hl=>?_,h.dis⟩,λ {N' Γ' Λ' a' w'} h'=>⟨⟨h.lo,⟨λ d hd=>?_,h'.defers.nodup,h'.defers.none⟩,h'.size,?_,h'.vals,λ l hl=>?_,h'.dis⟩,?_⟩⟩
 ·exact λ g hg=>h.lo g (hmay g hg)
 ·obtain ⟨D,e1,e2,e3⟩:=h.defers.all d hd;exact ⟨D,e1,.inr (.inr ⟨e2,e3⟩),e3⟩
 ·obtain ⟨g,cs,e1,e2,e3,e4⟩:=h.locs l hl;exact ⟨g,cs,e1,.inr (.inl ⟨l,hl,by rw [e1];exact l.H.ok g⟩),e3,e4⟩
 ·obtain ⟨D,e1,e2,e3⟩:=h'.defers.all d hd;exact ⟨D,e1,hmay D e2,e3⟩
 ·refine ⟨h'.base.os.trans h.base.os,h'.base.tape.trans h.base.tape,h'.base.output.trans h.base.output,qg h.base.size h'.base.size,λ k hk hf=>?_⟩;refine (h'.base.block k (qE hk h.base.size) (λ hF=>?_)).trans (h.base.block k hk hf);rcases hmay k (.inr hF) with h1|h1
  ·omega
  ·exact hf h1
 ·obtain ⟨g,cs,e1,e2,e3,e4⟩:=h'.locs l hl;exact ⟨g,cs,e1,hmay g e2,e3,e4⟩
 ·intro k es clock hk;refine (h'.base.block k (Array.getElem?_eq_some_iff.1 hk).1 λ hF=>?_).trans hk;rcases hF with hF|hF
  ·obtain ⟨_,_,_,_,cs,hc⟩:=hloc k hF;rw [hk] at hc;cases hc
  ·rw [hF.2] at hk;cases hk
theorem MpI.kept2 {K E:Yh}{b:Nat}{ns:List ByteArray}(h:MpI P K E w b ns)(hk:∀ (k:Nat) (es:Array MapEntry) (clock:Nat),w.heap[k]?=some (.map es clock)→w'.heap[k]?=some (.map es clock)):MpI P K E w' b ns:=by
 obtain ⟨es,clock,hb⟩:=h.at_;exact h.kept ((hk b es clock hb).trans hb.symm)
section
variable {P:Program}{Q:Exit→Act→World→Prop}{B N:Nat}{w0:Bs}{Γ:List (Nat × VA)}{Λ:List Lc}{a:Act}{w:World}
theorem St.growM (h:St B w0 N Γ Λ a w)(hg:Grow w w'):St B w0 N Γ Λ a w':=⟨h.lo,h.defers.grow hg rfl,h.size,h.base.grow hg,λ x hx=>x.2.grow _ _ _ _ hg (h.vals x hx),λ l hl=>(h.locs l hl).grow hg,h.dis⟩
theorem St.turnM {b:Nat}{es:Array MapEntry}{clock:Nat}(h:St B w0 N Γ Λ a w)(hb:w.heap[b]?=some (.map es clock))(hge:w0.w.heap.size≤b)(hg:w.grownBy w' (some b)):St B w0 N Γ Λ a w':=by
 have hblk:∀ k,k<w.heap.size→k≠b→w'.heap[k]?=w.heap[k]?:=λ k hk hne=>hg.block k hk (λ e=>hne (by injection e));have hc:Cg w w':=⟨hg.size,λ k c T fz hk=>(hblk k (Array.getElem?_eq_some_iff.1 hk).1 (λ e=>by subst e;rw [hb] at hk;cases hk)).trans hk⟩;refine ⟨h.lo,h.defers.keep rfl λ D hD=>(hblk D (Array.getElem?_eq_some_iff.1 hD).1 (λ e=>by subst e;rw [hb] at hD;cases hD)).trans hD,h.size,⟨hg.os.trans h.base.os,hg.tape.trans h.base.tape,hg.output.trans h.base.output,qg h.base.size hg.size,λ k hk hf=>(hblk k (qE hk h.base.size) zo).trans (h.base.block k hk hf)⟩,
  λ x hx=>x.2.cg _ _ _ _ hc (h.vals x hx),λ l hl=>?_,h.dis⟩
 obtain ⟨g,cs,e1,e2,e3,e4⟩:=h.locs l hl;exact ⟨g,cs,e1,e2,hc.heap e3,l.A.cg _ _ _ _ hc e4⟩
theorem CW {id n:Nat}{ops:Yg}(hsz:ops.size=n)(h:wpOps P ops Q (List.range' 0 n) a w):(Code.region id ops false).wp P Q a w:=by
 refine wp_region ?_;rw [List.range_eq_range',hsz];exact h
variable {ops:Array Oper}{i:Nat}{K:Act→World→Prop}
theorem Fe {d:Nat}{T KT E T':Yh}(ho:ops[i]?=some ⟨some d,.makeMap T none,T',ps,af,none⟩)(h:St B w0 N Γ Λ a w)(hd:d<N)(hΓ:Γ.all (λ x=>x.1 != d)=true)(hΛ:Λ.all (λ l=>l.s != d)=true)
  (hK:∀ a' w' b,St B w0 N ((d,EqV (.map (some b)))::Γ) Λ a' w'→MpI P KT E w' b []→w0.w.heap.size≤b→K a' w'):wpOp P ops Q i K a w:=by
 unfold wpOp;simp only [ho,Region.wanted,if_true];refine .inl (bf (w':=w.alloc (.map #[] 0)) (v:=.map (some w.heap.size)) (by simp [execOp,run_makeMap]) (hK _ _ _ ((h.growM (Grow.alloc _ _)).addV hd hΓ hΛ (show (EqV (.map (some w.heap.size))).p _ _ _ from G)) No h.base.size))
theorem Ff {m s u:Nat}{T KT E T1:Yh}{ps1:Yv}{af1:Yw}{b:Nat}{ns:List ByteArray}{x:ByteArray}(km ks:Nat)
  (h:St B w0 N Γ Λ a w) (hM:MpI P KT E w b ns) (hge:w0.w.heap.size≤b) (hKT:P.underlying KT=some .string) (ht:P.underlying T=some (.map KT E)) (hE:P.underlying E=some (.int .i64)) (hz:∀ w,(zeroValue E).run P w=.ok (.int .i64 0) w) (hn:ns.length<4096) (hs:x.size≤4096)
  (hm:Γ[km]?=some (m,EqV (.map (some b)))) (hx:Γ[ks]?=some (s,EqV (.string x))) (ho:ops[i]?=some ⟨some u,.lookup T (.tmp m) (.tmp s) false,T1,ps1,af1,none⟩) (hu:u<N) (hΓ:Γ.all (λ x=>x.1 != u)=true) (hΛ:Λ.all (λ l=>l.s != u)=true)
  (hK:∀ (c:Int) (a':Act),St B w0 N ((u,In c)::Γ) Λ a' w→(∃ w',(Instr.mapUpdate T (.map (some b)) (.string x) (.int .i64 (IntKind.i64.wrap (c+1)))).run P w=.ok () w'∧MpI P KT E w' b (ns++[x])∧w.grownBy w' (some b))→K a' w):wpOp P ops Q i K a w:=by
 obtain ⟨c,hr,hup⟩:=hM.add hKT ht hE (hz w) hn hs;have e1:a.eval (.tmp m)=.map (some b):=h.vals _ (qa hm);have e2:a.eval (.tmp s)=.string x:=h.vals _ (qa hx);exact lQ (A:=In c) (v:=.int .i64 c) ho h hu hΓ hΛ (by simp [execOp,e1,e2,hr]) (bV _ _ _ _) λ U=>hK c _ U hup
theorem JG {m s v:Nat}{T KT E T1:Yh}{ps1:Yv}{af1:Yw}{b:Nat}{ns:List ByteArray}{x:ByteArray}{c:Int}(km ks kv:Nat)
  (h:St B w0 N Γ Λ a w) (hM:MpI P KT E w b ns) (hge:w0.w.heap.size≤b) (hup:∃ w',(Instr.mapUpdate T (.map (some b)) (.string x) (.int .i64 c)).run P w=.ok () w'∧MpI P KT E w' b (ns++[x])∧w.grownBy w' (some b))
  (hm:Γ[km]?=some (m,EqV (.map (some b)))) (hx:Γ[ks]?=some (s,EqV (.string x))) (hv:Γ[kv]?=some (v,In c)) (ho:ops[i]?=some ⟨none,.mapUpdate T (.tmp m) (.tmp s) (.tmp v),T1,ps1,af1,none⟩)
  (hK:∀ w',St B w0 N Γ Λ a w'→MpI P KT E w' b (ns++[x])→K (a.put none undef) w'):wpOp P ops Q i K a w:=by
 obtain ⟨w',hr,hM',hg⟩:=hup;obtain ⟨es,clock,hb⟩:=hM.at_;have e1:a.eval (.tmp m)=.map (some b):=h.vals _ (qa hm);have e2:a.eval (.tmp s)=.string x:=h.vals _ (qa hx);have e3:a.eval (.tmp v)=.int .i64 c:=bj (h.vals _ (qa hv));unfold wpOp;simp only [ho,Region.wanted,if_true];refine .inl ?_;unfold Oper.wp;simp [execOp,e1,e2,e3,hr,Result.andThen];exact hK w' (h.turnM hb hge hg) hM'
end
theorem slo_A {E:Yh}:WkA (SlO E D l True) (SlA E D l):=⟨rfl,rfl,λ B cs w ⟨_,hD,A,c,ds,e,h1,h2,h3,h4⟩=>⟨hD,A,c,ds,e,h1,h2,h3,λ hn=>by
 obtain ⟨b,o,e1,e2,e3,e4⟩:=h4 hn;exact ⟨b,o,e1,e2,.inl e3,e4⟩⟩⟩
theorem M6 (v:Yn):UpA (EqA v) (EqA v):=⟨rfl,rfl,λ _ _ _ _ h=>h⟩
theorem AA (x:RPt):UpA (PtA x) (PtA x):=iS (.cons (M6 _) (.cons (GM _) (.cons (lD _ _) .nil)))
def TkO (t:RTk):As:=cat [SlO 28 [U32] (t.sp.map RFA) True,SlO 79 [U32] (t.ps.map PtA) True,RFA t.tg]
theorem u5 (t:RTk):UpA (TkA t) (TkO t):=iS (.cons (iY (λ A hA=>by obtain ⟨x,_,rfl⟩:=qr.1 hA;exact eI x)) (.cons (iY (λ A hA=>by obtain ⟨x,_,rfl⟩:=qr.1 hA;exact AA x)) (.cons (eI _) .nil)))
theorem tko_A :WkA (TkO t) (TkA t):=br (.cons slo_A (.cons slo_A (.cons (.refl _) .nil)))
def spcF (x:RF):Bool := !(((if okX x then (0:Int) else 1) != 0) || decide ((toQ x).num.sign<0))
def ptF (p:RPt):Bool := !(((!namF p.nm || (chF [p.e] != 0)) || decide (p.c<0)) || decide (p.c>1073741824))
def hdF (t:RTk):Bool:=(((decide ((t.sp.length:Int)<2) || decide ((t.sp.length:Int)>13)) || decide ((t.ps.length:Int)<1)) || decide ((t.ps.length:Int)>64)) || ((if okX t.tg then (0:Int) else 1) != 0)
def wayB (p:Nat):Nat→Bool
 | 0=>false
 | k+1=>wayB p k || decide (p^(k+1)>65536)
def ckF (t:RTk):Int:=if hdF t then 1 else if !t.sp.all spcF then 1 else if !t.ps.all ptF then 1 else if dupB (t.ps.map RPt.nm) then 10 else if wayB t.ps.length (t.sp.length-1) then 4 else 0
theorem Qa (h:ptF p=true):p.nm.size≤32:=by
 unfold ptF at h;simp only [qz,qO,jv] at h;have h1:=h.1.1.1;unfold namF at h1;split at h1
 ·cases h1
 ·rename_i h2;exact JS (by simpa using h2)
theorem Po (h:((if okX x then (0:Int) else 1) != 0)=false):Cn Tryz.prog 101 [(RFA x).va] (In (toQ x).num.sign):=by
 have hx:okX x=true:=by
  by_cases h1:okX x=true
  ·exact h1
  ·rw [qA h1] at h;exact absurd h zd
 exact sign_q.wk (.cons (qa_x hx (qj _)).va .nil)
section
open Rg
variable {P:Program}{Q:Exit→Act→World→Prop}{B N:Nat}{w0:Bs}{Γ:List (Nat × VA)}{Λ:List Lc}{a:Act}{w:World}
theorem Fz {ops:Yg}{sp:Yu}(Γd:Yf)(m:Nat)(src:List Src)(h:St B w0 N (Γd++Γ) Λ a w)(h0:sp.take Γd.length=Γd.map λ x=>Sp.v x.1 x.2)(hsz:ops.size=Γd.length+m)
  (hob:Obs P Q ⟨ops,N,Γ,les0 Λ,sp,λ i=>List.range i⟩ B w0 Γd.length m) (hk:Rg.chk ⟨ops,N,Γ,les0 Λ,sp,λ i=>List.range i⟩=true) (hsrc:src.all (okS ⟨ops,N,Γ,les0 Λ,sp,λ i=>List.range i⟩)=true)
  (hQ:∀ a w,St B w0 N (src.filterMap (cC ⟨ops,N,Γ,les0 Λ,sp,λ i=>List.range i⟩)) Λ a w→Q .normal a w):wpOps P ops Q (List.range' Γd.length m) a w:=by
 have hat:∀ i,i<Γd.length→∃ x,x∈Γd∧sp[i]?=some (.v x.1 x.2):=λ i hi=>by
  have e:(sp.take Γd.length)[i]?=sp[i]?:=by rw [List.getElem?_take,qD hi]
  rw [h0,List.getElem?_map] at e;refine ⟨Γd[i],qh _,?_⟩;rw [← e,List.getElem?_eq_getElem hi];rfl
 have hmem:∀ e∈les0 Λ,e.cr=none∧e.st=none∧(⟨e.s,e.T,e.H,e.A0⟩:Lc)∈Λ:=λ e he=>by
  obtain ⟨l,hl,rfl⟩:=qr.1 he;exact ⟨rfl,rfl,hl⟩
 have hcur:∀ e∈les0 Λ,∀ L:Nat→Bool,Rg.cur L e=some e.A0:=λ e he L=>by
  obtain ⟨h1,h2,_⟩:=hmem e he;unfold Rg.cur;rw [h1,h2]
  rfl
 have hi0:Rg.Inv ⟨ops,N,Γ,les0 Λ,sp,λ i=>List.range i⟩ B w0 (λ j=>decide (j<Γd.length)) a w:=by
  refine ⟨h.lo,h.defers,h.size,h.base,λ x hx _ _=>h.vals x (qp.2 (.inr hx)),λ i y d A hs hv hL _=>?_,λ i d b k c hs hL _=>?_,λ e he A hA=>?_,λ e he f hf hne _ _=>?_⟩
  ·obtain ⟨x,hx,hx2⟩:=hat i (qu hL);have hs':sp[i]?=some y:=hs;rw [hx2] at hs';injection hs' with hs';subst hs';simp only [Sp.vl,Option.some.injEq,Prod.mk.injEq] at hv;obtain ⟨rfl,rfl⟩:=hv;exact h.vals x (qp.2 (.inl hx))
  ·obtain ⟨x,hx,hx2⟩:=hat i (qu hL);have hs':sp[i]?=some (.adr d b k c):=hs;rw [hx2] at hs';cases hs'
  ·rw [hcur e he] at hA;injection hA with hA;subst hA;exact h.locs _ (hmem e he).2.2
  ·exact h.dis _ (hmem e he).2.2 _ (hmem f hf).2.2 hne
 have key:∀ m k,Γd.length≤k→k+m=ops.size→∀ a w,Rg.Inv ⟨ops,N,Γ,les0 Λ,sp,λ i=>List.range i⟩ B w0 (λ j=>decide (j<k)) a w→wpOps P ops Q (List.range' k m) a w:=by
  intro m
  induction m with
  | zero =>
   intro k hk1 hkm a w hi;have:k=ops.size:=by omega
   subst this;have:=fp hk ⟨hi⟩ src hsrc;rw [show (Rg.mk ops N Γ (les0 Λ) sp (λ i=>List.range i)).les=les0 Λ from rfl,rQ] at this;exact hQ a w this
  | succ m ih =>
   intro k hk1 hkm a w hi;rw [List.range'_succ,qy];refine Rg.step hk (hob.all k zo zo) hi ?_ (by simp) ?_ _ λ a' w' hi'=>ih (k+1) zo zo a' w' (hi'.congr λ j=>?_)
   ·intro i hi j hj;have hj:(List.range i).contains j=true:=hj;simp at hi hj ⊢;omega
   ·intro j hj;have hj:(List.range k).contains j=true:=hj;simpa using hj
   ·unfold upd;by_cases h1:j=k
    ·subst h1;simp
    ·have h2:(j==k)=false:=by simpa using h1
     rw [h2,xJ,qW];omega
 exact key m Γd.length (qj _) zo a w hi0
variable {ops:Array Oper}{i:Nat}{K:Act→World→Prop}
theorem Nb {d u:Nat}{T':Yh}{A:VA}(ku:Nat)(ho:ops[i]?=some ⟨some d,.move (.tmp u),T',ps,af,none⟩)(h:St B w0 N Γ Λ a w)
  (hu:Γ[ku]?=some (u,A)) (hd:d<N) (hΓ:Γ.all (λ x=>x.1 != d)=true) (hΛ:Λ.all (λ l=>l.s != d)=true)
  (hK:∀ a',St B w0 N ((d,A)::Γ) Λ a' w→K a' w):wpOp P ops Q i K a w :=
 lQ (A:=A) (v:=a.eval (.tmp u)) ho h hd hΓ hΛ (by simp [execOp]) (h.vals _ (qa hu)) (hK _)
theorem Nd {d:Nat}{k:Yo}{n:Int}{T':Yh}(ho:ops[i]?=some ⟨some d,.assign (.const (.int k n)),T',ps,af,none⟩)(h:St B w0 N Γ Λ a w)
  (hd:d<N) (hΓ:Γ.all (λ x=>x.1 != d)=true) (hΛ:Λ.all (λ l=>l.s != d)=true)
  (hK:∀ a',St B w0 N ((d,(NumA k n).va)::Γ) Λ a' w→K a' w):wpOp P ops Q i K a w :=
 lQ (A:=(NumA k n).va) (v:=.int k n) ho h hd hΓ hΛ (by simp [execOp,Act.eval]) (bV _ _ _ _) (hK _)
theorem Nf {d u:Nat}{c n:Int}{xt yt T':Yh}(ku:Nat)(ho:ops[i]?=some ⟨some d,.binOp .add xt (.tmp u) (.const (.int .i64 n)) yt,T',ps,af,none⟩)(h:St B w0 N Γ Λ a w)
  (hu:Γ[ku]?=some (u,In c)) (hd:d<N) (hΓ:Γ.all (λ x=>x.1 != d)=true) (hΛ:Λ.all (λ l=>l.s != d)=true)
  (hK:∀ a',St B w0 N ((d,In (IntKind.i64.wrap (c+n)))::Γ) Λ a' w→K a' w):wpOp P ops Q i K a w:=by
 have e:a.eval (.tmp u)=.int .i64 c:=bj (h.vals _ (qa hu));refine lQ (A:=In (IntKind.i64.wrap (c+n))) (v:=.int .i64 (IntKind.i64.wrap (c+n))) ho h hd hΓ hΛ ?_ (bV _ _ _ _) (hK _);have e2:a.eval (.const (.int .i64 n))=.int .i64 n:=rfl;simp only [execOp,e,e2,Sem.run_bind,binOp_add]
 rfl
theorem JH {d m:Nat}{T KT E T':Yh}{b:Nat}{ns:List ByteArray}(km:Nat)(ho:ops[i]?=some ⟨some d,.call ⟨.builtin .len,#[.tmp m],#[T]⟩,T',ps,af,none⟩)(h:St B w0 N Γ Λ a w)(hM:MpI P KT E w b ns)(ht:P.underlying T=some (.map KT E))
  (hm:Γ[km]?=some (m,EqV (.map (some b)))) (hd:d<N) (hΓ:Γ.all (λ x=>x.1 != d)=true) (hΛ:Λ.all (λ l=>l.s != d)=true)
  (hK:∀ (n:Nat) a',decide ((n:Int)<(ns.length:Int))=dupB ns→St B w0 N ((d,In (n:Nat))::Γ) Λ a' w→K a' w):wpOp P ops Q i K a w:=by
 obtain ⟨n,hr,hn⟩:=hM.len ht T';have e1:a.eval (.tmp m)=.map (some b):=h.vals _ (qa hm);exact lQ (A:=In (n:Nat)) (v:=.int .i64 n) ho h hd hΓ hΛ (by simp [execOp,resolve,invoke,builtin,e1,hr]) (bV _ _ _ _) (hK n _ hn)
end
theorem et:Str Tryz.prog 79 [EqA (.string ⟨#[]⟩),cat [NumA .u8 0,RFA rf0,RFA rf0],NumA .i64 0] :=
 Str.of (z:=.agg #[.string ⟨#[]⟩,.int .u8 0,.bool false,.slice none 0 0,.bool false,.slice none 0 0,.bool false,.slice none 0 0,.bool false,.slice none 0 0,.int .i64 0]) zk jw zk λ B w=>⟨[[.string ⟨#[]⟩],[.int .u8 0,.bool false,.slice none 0 0,.bool false,.slice none 0 0,.bool false,.slice none 0 0,.bool false,.slice none 0 0],[.int .i64 0]],rfl,.cons ⟨rfl,rfl⟩ (.cons ⟨[[.int .u8 0],[.bool false,.slice none 0 0,.bool false,.slice none 0 0],[.bool false,.slice none 0 0,.bool false,.slice none 0 0]],rfl,.cons rfl (.cons (f9 B w) (.cons (f9 B w) .nil))⟩ (.cons rfl .nil))⟩
theorem hd_b (h:hdF t=false):2≤t.sp.length∧t.sp.length≤13∧1≤t.ps.length∧t.ps.length≤64∧okX t.tg=true:=by
 unfold hdF at h;simp only [qO,qn] at h;refine ⟨by omega,by omega,by omega,by omega,?_⟩;by_cases h1:okX t.tg=true
 ·exact h1
 ·have:=h.2;rw [qA h1] at this;exact absurd this zd
theorem Oz (h1:hdF t=false)(h2:t.sp.all spcF=false):ckF t=1:=by rw [ckF,qA (by rw [h1];decide),qD (by rw [h2];rfl)]
theorem OA (h1:hdF t=false)(h2:t.sp.all spcF=true)(h3:t.ps.all ptF=false):ckF t=1:=by rw [ckF,qA (by rw [h1];decide),qA (by rw [h2];decide),qD (by rw [h3];rfl)]
theorem OB (h1:hdF t=false)(h2:t.sp.all spcF=true)(h3:t.ps.all ptF=true)(h4:dupB (t.ps.map RPt.nm)=true):ckF t=10:=by rw [ckF,qA (by rw [h1];decide),qA (by rw [h2];decide),qA (by rw [h3];decide),qD h4]
theorem Gj (h1:hdF t=false)(h2:t.sp.all spcF=true)(h3:t.ps.all ptF=true)(h4:dupB (t.ps.map RPt.nm)=false):ckF t=if wayB t.ps.length (t.sp.length-1) then 4 else 0:=by rw [ckF,qA (by rw [h1];decide),qA (by rw [h2];decide),qA (by rw [h3];decide),qA (by rw [h4];decide)]
theorem IQ {t:RTk}(h1:2≤t.sp.length)(h2:t.sp.length≤13):sloF t=((t.sp.length-1:Nat):Int):=by
 unfold sloF;rw [wi64 zo zo];omega
theorem GJ :∀ {j:Nat},wayB p j=false→p^j≤65536
 | 0,_=>by rw [j7];decide
 | j+1,h=>by
  rw [wayB,qO,qn] at h;omega
theorem Ik {p j:Nat}(h:wayB p j=false)(hp:p≤64):IntKind.i64.wrap (((p^j:Nat):Int)*((p:Nat):Int))=((p^(j+1):Nat):Int):=by
 have h1:=GJ h;have h2:p^j*p≤65536*64:=xV h1 hp;rw [← xG,wi64 zo zo,zj]
theorem tX :∀ {n j:Nat},j≤n→wayB p j=true→wayB p n=true
 | 0,j,h,hw=>by
  obtain rfl:j=0:=by omega
  exact hw
 | n+1,j,h,hw=>by
  by_cases e:j=n+1
  ·rw [← e];exact hw
  ·rw [wayB,tX (n:=n) zo hw];rfl
theorem Oe {m:Nat}:decide (((m:Nat):Int)>65536)=decide (m>65536):=by
 rw [qW];omega
theorem eV {ops:Yg}{Q:Yd}(h:Q .normal a w):wpOps P ops Q [] a w:=h
theorem tV {ops:Yg}{Q:Yd}(h:Q .normal a w):wpOps P ops Q [] (a.put none undef) w:=h
set_option maxHeartbeats 2000000 in
theorem lY (t:RTk):Cn Tryz.prog 24 [(TkA t).va] (In (ckF t)):=by
 refine Cn.introW Tryz.func24 G zk nq (.cons (u5 t).va .nil) (co _ _).va (λ B w0 a hB0 U=>?_);have U:=zn [(0,(TkO t).va)] [] U;refine qb<|zg [] S0 Uv Uw U (zW 0 G (zE G ab)) (zz Ux S1 λ a w U=>?_);refine zt<|qb<|gl (sts:=[none]) (news:=[]) (sp:=((.adr 9 1 (.some 0) True:Sp)::(.v 10 _)::(.v 11 _)::(.v 12 _)::(.v 13 _)::(.adr 14 1 (.some 0) (_=false))::(.f 15 _)::(.f 16 _)::(.f 17 _)::(.v 18 _)::(.v 19 _)::(.adr 20 1 (.some 1) (_=false))::(.f 21 _)::(.f 22 _)::(.f 23 _)::(.v 24 _)::(.v 25 _)::(.adr 26 1 (.some 1) (_=false))::(.f 27 _)::(.f 28 _)::(.f 29 _)::(.v 30 _)::(.v 31 _)::(.adr 32 1 (.some 2) (_=false))::(.f 33 _)::(.f 34 _)::(.f 35 _)::(.v 36 _)::[])) [.g 0,.o 27] U (zO 0 G cb (zL 0 0 0 G eY (zv G (bg qR (bz (aC (vq 1 G)))) (zv G (aN (vq 2 G) ab) (zV 3 G (zC 4 0 G cb (zB 4 G (λ hg=>aB 5 G zk hg (lz0 0 G) (Sub.part 0 G G) eY) (zB 4 G (λ hg=>bg qR (bz (aC (ae (vq 6 G) hg)))) (zB 4 G (λ hg=>cL (ae (vq 7 G) hg) ab) (zv G (r_or (vq 4 G) (vq 8 G)) (zV 9 G (zC 10 0 G bM (zB 10 G (λ hg=>aB 11 G zk hg (lz0 0 G) (Sub.part 1 G G) ec) (zB 10 G (λ hg=>bg qN (bz (aC (ae (vq 12 G) hg)))) (zB 10 G (λ hg=>aN (ae (vq 13 G) hg) ab) (zv G (r_or (vq 10 G) (vq 14 G)) (zV 15 G (zC 16 0 G bM (zB 16 G (λ hg=>aB 17 G zk hg (lz0 0 G) (Sub.part 1 G G) ec) (zB 16 G (λ hg=>bg qN (bz (aC (ae (vq 18 G) hg)))) (zB 16 G (λ hg=>cL (ae (vq 19 G) hg) ab) (zv G (r_or (vq 16 G) (vq 20 G)) (zV 21 G (zC 22 0 G eB (zB 22 G (λ hg=>aB 23 G zk hg (lz0 0 G) (Sub.part 2 G G) ax) (zB 22 G (λ hg=>be (tH _) (.o (ae (vq 24 G) hg))) (zB 22 G (λ hg=>ca (ae (vq 25 G) hg) ab) (zv G (r_or (vq 22 G) (vq 26 G)) o0)))))))))))))))))))))))))))) (zz (Wc 2 36) S1 λ a w U=>?_);refine zJ 1 U G (λ hb0=>?_) (λ hb0=>?_)
 ·have hd:hdF t=true:=by simp only [qd] at hb0;exact hb0
  refine qb<|zg U6 [] UA U2 U (zE G ab) (zz Ux S1 λ a w U=>?_);refine aa<|qi<|aj ?_;refine al ?_ (am G U (zm 0 G));rw [ckF,qD hd];exact aG
 ·have hd:hdF t=false:=by simp only [qd] at hb0;exact hb0
  obtain ⟨hs2,hs13,hp1,hp64,htg⟩:=hd_b hd;refine qk<|zt<|qb<|zg U6 [] (.adr 37 1 (.some 0) True::(Wb 38)) [.g 0,.o 1,.o 2,.o 3] U (zO 0 G cb (zL 0 0 0 G eY (zv G (bg qR (bz (aC (vq 1 G)))) (zv G (aq ab) o0)))) (zz (Wf 2 38 39 40) S1 λ a w U=>?_);refine aa<|ql ?_;have U:=St.sel U [1,2,3];refine wp_loop_ghost (λ n a w=>∃ j:Nat,(n+j=t.sp.length∧(t.sp.take j).all spcF=true)∧St B w0 106 [(38,(SlO 28 [U32] (t.sp.map RFA) True).va),(39,In (t.sp.length:Nat)),(40,In (j:Nat))] [⟨1,30,ptrH,TkO t⟩] a w) (t.sp.length) ?_ ?_
  ·exact ⟨0,⟨by omega,rfl⟩,by rw [qd] at U;exact U⟩
  intro n a w hI;obtain ⟨j,⟨hn,hno⟩,U⟩:=hI;refine qb<|zg U6 [] [.v 41 _] WZ U (zv G (aN (gq 2 G) (gq 1 G)) o0) (zz (Wf 38 39 40 41) S1 λ a w U=>?_);refine zt<|cd U (zm 3 G) (λ hb1=>?_) (λ hb1=>?_)
  ·have hj:j<t.sp.length:=by have:=qu hb1;omega
   refine qk<|zt<|ql<|qb<|zg U6 [⟨4,28,ptrH,some 2,_,some (3,_)⟩] (W6 42 [.alc 1,.sto 1]) W7 U (zv G (bB du (bX λ _=>rfl) (bz (aC (gq 0 G))) (gq 2 G) (bn hj)) (zv G (ao (vq 0 G) ax) (zY G (Str.zero aS) (zS 1 G ax o0)))) (zz (Wa 38 39 40) S6 ?_);refine ztA<|zgA UF [] (Ww 44 [.f 48 _,.f 49 _,.f 50 _,.v 51 _]) (W7 [.o 7]) (zl 1 G ax (zQ G (tH _) (.o (vq 0 G)) (zv G (ca (vq 1 G) ab) (zV 2 G (zB 3 G (λ hg=>eL (lz0 1 G) ax) (zB 3 G (λ hg=>be (Po hg) (.o (ae (vq 4 G) hg))) (zB 3 G (λ hg=>aN (ae (vq 5 G) hg) ab) (zv G (r_or (vq 3 G) (vq 6 G)) o0)))))))) (zz (Wf 38 39 40 51) S6 λ a w U=>?_);refine zJ 3 U G (λ hb2=>?_) (λ hb2=>?_)
   ·refine qb<|zg UH [] UA WZ U (zE G ab) (zz (Wf 38 39 40 2) S6 λ a w U=>?_);refine aa<|qi<|aD ?_;refine aj ?_;refine aj ?_;refine aD ?_;refine aj ?_;refine al ?_ (am G U (zm 3 G));rw [Oz hd (nv hj (by unfold spcF;rw [hb2];rfl))];exact aG
   ·refine qk<|ak ?_;refine aa<|zg UH [] [.v 52 _,.v 40 _] UI U (zv G (aL (gq 2 G) ab ((wi64 zo zo).trans (by omega:(_:Int)=((j+1:Nat):Int)))) (zV 0 G o0)) (zz (Wa 38 39 40) S6 λ a w U=>?_);refine aa ?_;have U:=St.sel U [0,1,2];have U:=St.selL U [0];exact ⟨n-1,by omega,j+1,⟨by omega,nw hj hno (by unfold spcF;rw [hb2];rfl)⟩,U⟩
  ·obtain rfl:j=t.sp.length:=by have:=qw hb1;omega
   rw [qI] at hno;have hsp:=hno;refine qM<|ai<|ai<|az<|zt<|CW (n:=3) G ?_;rw [show List.range' 0 3=[0,1,2] from rfl,qy];refine Fe (KT:=9) (E:=3) G U zd zk zk (λ a w b U hM hgb=>?_);rw [qy];refine oS 0 G U G zd zk zk (λ a U=>?_);rw [qy];refine Nd G U zd zk zk (λ a U=>?_);refine eV ?_;have U:=zn (Wu 6 5 53 38 39 40 41) S1 U;obtain ⟨w1,U,hback⟩:=St.frameM U;refine zt<|qb<|zg U6 [] (.adr 54 1 (.some 1) True::(Wb 55)) (We [.o 1,.o 2,.o 3]) U (zO 0 G bM (zL 0 0 1 G ec (zv G (bg qN (bz (aC (vq 1 G)))) (zv G (aq ab) o0)))) (λ a w U=>?_);have U:St B w1 106 [(6,_),(5,_),(55,_),(56,_),(57,_)] [O 1 30 _] a w:=U;obtain ⟨U,hob⟩:=hback U;have hM:=hM.kept2 hob;refine aa<|ql ?_;have U:=St.sel U [1,0,2,3,4];refine wp_loop_ghost (λ n a w=>∃ j:Nat,(n+j=t.ps.length∧(t.ps.take j).all ptF=true∧MpI Tryz.prog 9 3 w b ((t.ps.take j).map RPt.nm))∧St B w0 106 [(5,EqV (.map (some b))),(6,In 1),(55,(SlO 79 [U32] (t.ps.map PtA) True).va),(56,In (t.ps.length:Nat)),(57,In (j:Nat))] [⟨1,30,ptrH,TkO t⟩] a w) (t.ps.length) ?_ ?_
   ·exact ⟨0,⟨by omega,rfl,hM⟩,by rw [qd] at U;exact U⟩
   intro n a w hI;obtain ⟨j,⟨hn,hno,hM⟩,U⟩:=hI;obtain ⟨w1,U,hback⟩:=St.frameM U;refine qb<|zg U6 [] [.v 58 _] U7 U (zv G (aN (gq 4 G) (gq 3 G)) o0) (λ a w U=>?_);have U:St B w1 106 [(5,_),(6,_),(55,_),(56,_),(57,_),(58,_)] [O 1 30 _] a w:=U;refine zt<|cd U (zm 5 G) (λ hb3=>?_) (λ hb3=>?_)
   ·have hj:j<t.ps.length:=by have:=qu hb3;omega
    refine qk<|zt<|ql<|qb<|zg U6 [⟨8,79,ptrH,some 2,_,some (3,_)⟩] (W6 59 [.alc 1,.sto 1]) Wi U (zv G (bB fD (bX λ _=>rfl) (bz (aC (gq 2 G))) (gq 4 G) (bn hj)) (zv G (ao (vq 0 G) i6) (zY G (Str.zero et) (zS 1 G i6 o0)))) (λ a w U=>?_);have U:St B w1 106 [(5,_),(6,_),(55,_),(56,_),(57,_)] [O 1 30 _,O 8 79 _] a w:=U;refine zt<|qb<|zg UH [] (.adr 61 8 (.some 0) True::(Ww 62 (.adr 66 8 (.some 1) (_=false)::.f 67 _::.f 68 _::.f 69 _::.f 70 _::(W6 71 (.adr 73 8 (.some 10) (_=false)::.f 74 _::.f 75 _::(W6 76 [.adr 78 8 (.some 10) (_=false),.f 79 _,.f 80 _,.v 81 _])))))) (Wi [.o 20]) U (zO 1 G e8 (zL 0 1 0 G ty_9 (zQ G (JY _) (.o (vq 1 G)) (zv G (dc (vq 2 G)) (zV 3 G (zC 4 1 G dZ (zB 4 G (λ hg=>aB 5 G zk hg (lz0 1 G) (Sub.part 1 G G) dq) (zB 4 G (λ hg=>bR (D:=[U32]) (l:=[_]) (xs:=[.tmp 67]) (cO zk) mx zk (n_ok zk) nq nq nq (.o (ae (vq 6 G) hg)) G G) (zB 4 G (λ hg=>be (Ae [_]) (.o (ae (vq 7 G) hg))) (zB 4 G (λ hg=>ca (ae (vq 8 G) hg) ab) (zv G (r_or (vq 4 G) (vq 9 G)) (zV 10 G (zC 11 1 G dG (zB 11 G (λ hg=>aB 12 G zk hg (lz0 1 G) (Sub.part 2 G G) ty_3) (zB 11 G (λ hg=>aN (ae (vq 13 G) hg) ab) (zv G (r_or (vq 11 G) (vq 14 G)) (zV 15 G (zC 16 1 G dG (zB 16 G (λ hg=>aB 17 G zk hg (lz0 1 G) (Sub.part 2 G G) ty_3) (zB 16 G (λ hg=>cL (ae (vq 18 G) hg) ab) (zv G (r_or (vq 16 G) (vq 19 G)) o0))))))))))))))))))))) (λ a w U=>?_);have U:St B w1 106 [(5,_),(6,_),(55,_),(56,_),(57,_),(81,_)] [O 1 30 _,O 8 79 _] a w:=U;refine zJ 5 U G (λ hb4=>?_) (λ hb4=>?_)
    ·have hpt:ptF t.ps[j]=false:=by unfold ptF;rw [hb4];rfl
     refine qb<|zg UH [] UA U7 U (zE G ab) (λ a w U=>?_);have U:St B w1 106 [(5,_),(6,_),(55,_),(56,_),(57,_),(2,_)] [O 1 30 _,O 8 79 _] a w:=U;refine aa<|qi<|aj ?_;refine aD ?_;refine aj ?_;refine aj ?_;refine aD ?_;refine aj ?_;obtain ⟨U,_⟩:=hback U;refine al ?_ (am G U (zm 5 G));rw [OA hd hsp (nv hj hpt)];exact aG
    ·have hpt:ptF t.ps[j]=true:=by unfold ptF;rw [hb4];rfl
     refine qk<|aa<|bS (sp:=[.v 82 _,.adr 83 8 (.some 0) True,.v 84 _,.v 85 VT,.v 86 VT,.skp]) 3 3 99 3 OneC [.g 0,.g 1,.g 2,.g 3,.g 4,.o 0,.o 2] U (zM 0 G (zO 1 G e8 (zL 1 1 0 G ty_9 o0))) G zd zk zk (λ a w U=>?_);have U:St B w1 106 [(5,_),(6,_),(55,_),(56,_),(57,_),(82,_),(84,_)] [O 1 30 _,O 8 79 _] a w:=U;rw [show List.range' 3 3=[3,4,5] from rfl];obtain ⟨U,hob⟩:=hback U;have hM:=hM.kept2 hob;have U:=St.wkG U 6 rfl Dn;rw [qy];refine Ff (KT:=9) (E:=3) 5 6 U hM hgb zk vP zk (λ w=>rfl) (by rw [qd,zf];omega) (by have:=Qa hpt;omega) G G G zd zk zk (λ c a U hup=>?_);rw [qy];refine Nf 0 G U G zd zk zk (λ a U=>?_);rw [qy];refine JG 7 8 0 U hM hgb hup G G G G (λ w U hM=>?_);refine tV ?_;have U:St B w0 106 [(86,_),(85,_),(5,_),(6,_),(55,_),(56,_),(57,_),(82,_),(84,_)] [O 1 30 _,O 8 79 _] _ w:=U;have hM:MpI Tryz.prog 9 3 w b ((t.ps.take (j+1)).map RPt.nm):=by rw [qx hj,zD];exact hM
     obtain ⟨w1,U,hback⟩:=St.frameM U;refine ak ?_;refine aa<|zg UH [] [.v 87 _,.v 57 _] [.g 2,.g 3,.g 4,.g 5,.o 1] U (zv G (aL (gq 6 G) ab ((wi64 zo zo).trans (by omega:(_:Int)=((j+1:Nat):Int)))) (zV 0 G o0)) (λ a w U=>?_);have U:St B w1 106 [(5,_),(6,_),(55,_),(56,_),(57,_)] [O 1 30 _,O 8 79 _] a w:=U;obtain ⟨U,hob⟩:=hback U;have hM:=hM.kept2 hob;refine aa ?_;have U:=St.sel U [0,1,2,3,4];have U:=St.selL U [0];exact ⟨n-1,by omega,j+1,⟨by omega,nw hj hno hpt,hM⟩,U⟩
   ·obtain rfl:j=t.ps.length:=by have:=qw hb3;omega
    obtain ⟨U,hob⟩:=hback U;have hM:=hM.kept2 hob;rw [qI] at hno hM;have hps:=hno;refine qM<|ai<|ai<|az<|zt<|qb<|CW (n:=6) G ?_;rw [show List.range' 0 6=0::1::List.range' 2 4 from rfl,qy];refine Nb 0 G U G zd zk zk (λ a U=>?_);rw [qy];refine JH 0 G U hM vP G zd zk zk (λ nm a hnm U=>?_);have U:=St.sel U [1,0,2,3,4,5,6,7];refine Fz (sp:=[.v 88 (EqV (.map (some b))),.v 89 (In (nm:Nat)),.adr 90 1 (.some 1) True,.v 91 _,.v 92 _,.v 93 _]) [(88,(EqV (.map (some b)))),(89,(In (nm:Nat)))] 4 [.g 1,.o 5] U G zk (zO 0 G bM (zL 2 0 1 G ec (zv G (bg qN (bz (aC (vq 3 G)))) (zv G (aN (vq 1 G) (vq 4 G)) o0)))) zk zk (zz (Wc 6 93) S1 λ a w U=>?_);refine zJ 1 U G (λ hb5=>?_) (λ hb5=>?_)
    ·have hdu:dupB (t.ps.map RPt.nm)=true:=by rw [← hnm];simp only [qd] at hb5 ⊢;exact hb5
     refine qb<|zg U6 [] UA Rd U (zE G ab) (zz (Wc 6 2) S1 λ a w U=>?_);refine aa<|qi<|aj ?_;refine al ?_ (am G U (zm 1 G));rw [OB hd hsp hps hdu];exact aG
    ·have hdu:dupB (t.ps.map RPt.nm)=false:=by rw [← hnm];simp only [qd] at hb5 ⊢;exact hb5
     refine qk<|zt<|qb<|zg U6 [] (Wb 94) [.g 0,.o 1,.o 2] U (zl 0 G cp (zQ G ((oD t).wk (.cons tko_A.va .nil)) (.o (vq 0 G)) (zv G (aq ab) o0))) (zz (Wa 6 95 96) S1 λ a w U=>?_);refine aa<|ql ?_;have U:=St.sel U [0,1,2];refine wp_loop_ghost (λ n a w=>∃ j:Nat,(n+j=t.sp.length-1∧wayB t.ps.length j=false)∧St B w0 106 [(6,In ((t.ps.length^j:Nat):Int)),(95,In ((t.sp.length-1:Nat):Int)),(96,In (j:Nat))] [⟨1,30,ptrH,TkO t⟩] a w) (t.sp.length-1) ?_ ?_
     ·have e:=IQ hs2 hs13;rw [e] at U;exact ⟨0,⟨by omega,rfl⟩,U⟩
     intro n a w hI;obtain ⟨j,⟨hn,hno⟩,U⟩:=hI;refine qb<|zg U6 [] [.v 97 _] WZ U (zv G (aN (gq 2 G) (gq 1 G)) o0) (zz (Wf 6 95 96 97) S1 λ a w U=>?_);refine zt<|cd U (zm 3 G) (λ hb6=>?_) (λ hb6=>?_)
     ·have hj:j<t.sp.length-1:=by have:=qu hb6;omega
      refine qk<|zt<|ql<|qb<|zg U6 [] (.v 98 _::.adr 99 1 (.some 1) True::(Wb 100 [.v 6 _])) [.g 1,.g 2,.o 5] U (zM 0 G (zO 0 G bM (zL 1 0 1 G ec (zv G (bg qN (bz (aC (vq 2 G)))) (zv G (mF (vq 0 G) (vq 3 G) (((qq (λ z:Nat=>IntKind.i64.wrap (((t.ps.length^j:Nat):Int)*(z:Int))) (qd PtA)).trans (Ik hno hp64)))) (zA 4 G o0)))))) (zz (Wa 95 96 6) S1 ?_);refine ztA<|zgA U4 [] (W6 103) WX (zM 2 G (zv G (cL (vq 0 G) ab) o0)) (zz (Wf 95 96 6 104) S1 λ a w U=>?_);refine zJ 3 U G (λ hb7=>?_) (λ hb7=>?_)
      ·have hw:wayB t.ps.length (t.sp.length-1)=true:=tX (j:=j+1) zo (by rw [wayB,hno,xJ,← Oe];exact hb7);refine qb<|zg U6 [] UA WZ U (zE G ab) (zz (Wf 95 96 6 2) S1 λ a w U=>?_);refine aa<|qi<|aD ?_;refine aj ?_;refine aj ?_;refine aD ?_;refine aj ?_;refine al ?_ (am G U (zm 3 G));rw [Gj hd hsp hps hdu,qD hw];exact aG
      ·have hw:decide (t.ps.length^(j+1)>65536)=false:=by rw [← Oe];exact hb7
       refine qk<|ak ?_;refine aa<|zg U6 [] [.v 105 _,.v 96 _] [.g 0,.g 2,.o 1] U (zv G (aL (gq 1 G) ab ((wi64 zo zo).trans (by omega:(_:Int)=((j+1:Nat):Int)))) (zV 0 G o0)) (zz (Wa 95 6 96) S1 λ a w U=>?_);refine aa ?_;have U:=St.sel U [1,0,2];exact ⟨n-1,by omega,j+1,⟨by omega,by rw [wayB,hno,xJ];exact hw⟩,U⟩
     ·obtain rfl:j=t.sp.length-1:=by have:=qw hb6;omega
      refine qM<|ai<|ai<|az<|zt<|zg U6 [] UA U2 U (zE G ab) (zz Ux S1 λ a w U=>?_);refine aa<|qi<|al ?_ (am G U (zm 0 G));rw [Gj hd hsp hps hdu,qA (by rw [hno];decide)];exact aG
def cntW (p a:Nat):Nat→Nat→Nat
 | 0,_=>1
 | f+1,i=>if i<a then cntW p a f (i+1) else p*cntW p a f (i+1)
def exW (p:Nat)(ah:List Nat):Nat→Nat→Nat→List Nat
 | 0,_,_=>[]
 | f+1,i,r=>if i<ah.length then ah.getD i 0::exW p ah f (i+1) r else (r/cntW p ah.length f (i+1))::exW p ah f (i+1) (r%cntW p ah.length f (i+1))
theorem iP {p a:Nat}(hp:0<p):∀ f i,0<cntW p a f i
 | 0,_=>k6
 | f+1,i=>by
  unfold cntW;split
  ·exact iP hp f (i+1)
  ·exact jE hp (iP hp f (i+1))
theorem pN (p:Nat)(ah:Ya):∀ f i r,(exW p ah f i r).length=f
 | 0,_,_=>rfl
 | f+1,i,r=>by
  unfold exW;split <;> rw [zi,pN]
theorem O4 {ah:Ya}(h:¬ i<ah.length)(hr:r<cntW p ah.length f (i+1)):exW p ah (f+1) i (q*cntW p ah.length f (i+1)+r)=q::exW p ah f (i+1) r:=by
 have hc:0<cntW p ah.length f (i+1):=by omega
 rw [exW,qA h];have e1:(q*cntW p ah.length f (i+1)+r)/cntW p ah.length f (i+1)=q:=by
  rw [zb,wn hc,xL hr,jy]
 have e2:(q*cntW p ah.length f (i+1)+r)%cntW p ah.length f (i+1)=r:=by
  rw [zb,wm,zK hr]
 rw [e1,e2]
theorem HB {ah:Ya}(h:i<ah.length):exW p ah (f+1) i r=ah[i]::exW p ah f (i+1) r:=by
 rw [exW,qD h,List.getD,List.getElem?_eq_getElem h];rfl
theorem tE {p a f i:Nat}(h:i<a):cntW p a (f+1) i=cntW p a f (i+1):=by rw [cntW,qD h]
theorem DG {p a f i:Nat}(h:¬ i<a):cntW p a (f+1) i=p*cntW p a f (i+1):=by rw [cntW,qA h]
theorem DF {p a:Nat}(hp:0<p):∀ f i,cntW p a f i≤p^f
 | 0,_=>by rw [j7];exact qj _
 | f+1,i=>by
  have h:=DF (a:=a) hp f (i+1);unfold cntW;rw [zj];split
  ·exact qg h (j4 _ hp)
  ·rw [zb];exact qK _ h
theorem sk :∀ f i a,i+f≤a→cntW p a f i=1
 | 0,_,_,_=>rfl
 | f+1,i,a,h=>by rw [tE zo,sk f (i+1) a zo]
def benP (t:RTk)(l:List Nat):List RE:=(List.range l.length).flatMap λ i=>[spE (t.sp.getD i rf0),(t.ps.getD (l.getD i 0) ⟨⟨#[]⟩,⟨0,rf0,rf0⟩,0⟩).e]
def benW (t:RTk)(l:List Nat):List RE:=benP t l++[spE (t.sp.getD l.length rf0)]
def cosW (t:RTk)(l:List Nat):Int:=(l.map λ k=>(t.ps.getD k ⟨⟨#[]⟩,⟨0,rf0,rf0⟩,0⟩).c).sum
def powW (t:RTk)(l:List Nat):Rat := -(ei (benW t l)).c
def awaW (t:RTk)(l:List Nat):Rat:=if (powW t l-toQ t.tg).num.sign<0 then -(powW t l-toQ t.tg) else powW t l-toQ t.tg
def wayW (t:RTk)(l:List Nat):WyQ:=⟨l.map λ (k:Nat)=>(k:Int),powW t l,awaW t l,cosW t l⟩
theorem sv (t:RTk)(l:Ya)(k:Nat):benP t (l++[k])=benP t l++[spE (t.sp.getD l.length rf0),(t.ps.getD k ⟨⟨#[]⟩,⟨0,rf0,rf0⟩,0⟩).e]:=by
 unfold benP;rw [qv,z7,List.range_succ,kr];have h1:∀ i∈List.range l.length,(λ i=>[spE (t.sp.getD i rf0),(t.ps.getD ((l++[k]).getD i 0) ⟨⟨#[]⟩,⟨0,rf0,rf0⟩,0⟩).e]) i=(λ i=>[spE (t.sp.getD i rf0),(t.ps.getD (l.getD i 0) ⟨⟨#[]⟩,⟨0,rf0,rf0⟩,0⟩).e]) i:=λ i hi=>by
  have hi':i<l.length:=jS.1 hi;simp [List.getD,List.getElem?_append_left hi']
 rw [wg,jm h1,← wg];simp [List.getD]
theorem o4 (xs:List RE)(x:RE):ei (xs++[x])=mulQ (elM x) (ei xs):=by
 unfold ei;rw [v7];rfl
theorem yy (t:RTk)(l:Ya)(k:Nat):ei (benP t (l++[k]))=mulQ (elM (t.ps.getD k ⟨⟨#[]⟩,⟨0,rf0,rf0⟩,0⟩).e) (ei (benW t l)):=by
 rw [sv,show benP t l++[spE (t.sp.getD l.length rf0),(t.ps.getD k ⟨⟨#[]⟩,⟨0,rf0,rf0⟩,0⟩).e]=(benW t l)++[(t.ps.getD k ⟨⟨#[]⟩,⟨0,rf0,rf0⟩,0⟩).e] from by unfold benW;simp,o4]
theorem wQ (t:RTk)(l:Ya)(k:Nat):cosW t (l++[k])=cosW t l+(t.ps.getD k ⟨⟨#[]⟩,⟨0,rf0,rf0⟩,0⟩).c:=by
 unfold cosW;rw [zD,wq];simp
theorem d6 (h1 : -9223372036854775808≤n)(h2:n<9223372036854775808):Cn Tryz.prog 93 [In n] ((RFA (rfOf (Rat.divInt n 1))).va):=by
 refine Cn.intro Tryz.func93 G zk nq (zy [(0,In n)] λ B w0 a U=>?_);refine qb<|zg [] [zpL 2 28 0 _] Uf UL U (zY G (Str.zero aS) o0) (zz UM [O 2 28 _] ?_);refine ztA<|zgA U4 [⟨3,28,ptrH,some 5,_,some (6,_)⟩] (W6 6 (.v 5 _::(W6 8 [.alc 1,.sto 1,.v 4 _]))) [] (zM 0 G (zQ G (Q6 h1 h2 zd zd zd) (.cons (vq 0 G) (.cons ab .nil)) (zV 1 G (zv G (nI (vq 2 G)) (zv G (nH (vq 2 G)) (zY G (Str.zero aS) (zS 3 G ax (zA 4 G o0)))))))) (zz [] RA ?_);refine ztA<|zgA [some (1,_),none] [] Uk [] (zl 1 G ax (zS 0 G ax o0)) (zz [] RA λ a w U=>?_);refine aa<|qi<|al ?_ (au G U (zm 0 G) ax);exact aG
theorem uL (s:ByteArray)(h1 : -9223372036854775808≤p)(h2:p<9223372036854775808):Cn Tryz.prog 170 [(EqA (.string s)).va,In p,In c] ((PtA ⟨s,⟨2,rfOf (Rat.divInt p 1),rfOf (Rat.divInt 0 1)⟩,c⟩).va):=by
 refine Cn.intro Tryz.func170 G zk nq (zy [(0,(EqA (.string s)).va),(1,In p),(2,In c)] λ B w0 a U=>?_);refine qb<|zg [] [zpL 6 79 0 _] Uf W7 U (zY G (Str.zero et) o0) (zz (Wa 0 1 2) [O 6 79 _] ?_);refine ztA<|zgA [some (7,_)] [] (WG 7 [.sto 0]) [] (zM 0 G (zM 1 G (zQ G (d6 zo zo) (.o (vq 1 G)) (zQ G (d6 zd zd) (.cons ab .nil) (zv G (aT (qs:=[(0,_),(1,_),(2,_)]) dE (.cons ⟨rfl,ab,rfl⟩ (.cons ⟨rfl,vq 2 rfl,rfl⟩ (.cons ⟨rfl,vq 3 rfl,rfl⟩ .nil)))) (zM 2 G (zv G (aT (qs:=[(0,_),(1,_),(2,_)]) et (.cons ⟨rfl,vq 0 rfl,rfl⟩ (.cons ⟨rfl,vq 4 rfl,rfl⟩ (.cons ⟨rfl,vq 5 rfl,rfl⟩ .nil)))) (zS 6 G i6 o0)))))))) (zz [] [O 6 79 _] λ a w U=>?_);refine aa<|qi<|al ?_ (au G U (zm 0 G) i6);exact aG
theorem ig:Str Tryz.prog 30 [EqA (.slice none 0 0),EqA (.slice none 0 0),RFA rf0] :=
 Str.of (z:=.agg #[.slice none 0 0,.slice none 0 0,.bool false,.slice none 0 0,.bool false,.slice none 0 0]) zk jb zk λ B w=>⟨[[.slice none 0 0],[.slice none 0 0],[.bool false,.slice none 0 0,.bool false,.slice none 0 0]],rfl,.cons ⟨rfl,rfl⟩ (.cons ⟨rfl,rfl⟩ (.cons (f9 B w) .nil))⟩
def frI (n:Int):RF:=rfOf (Rat.divInt n 1)
def lnT (s:ByteArray)(p c:Int):RPt:=⟨s,⟨2,frI p,frI 0⟩,c⟩
def twoT (n:Int):RTk:=⟨[frI 0,frI 1,frI 0],[lnT ⟨#[97]⟩ 1 5,lnT ⟨#[98]⟩ 2 3],frI n⟩
theorem CO {B i:Nat}:Has R B w0 i (.const (.string s)) (EqA (.string s)).va:=λ _ _ _=>tZ rfl
theorem AC (h1 : -9223372036854775808≤n)(h2:n<9223372036854775808):Cn Tryz.prog 90 [In n] ((TkA (twoT n)).va):=by
 refine Cn.intro Tryz.func90 G zk nq (zy [(0,In n)] λ B w0 a U=>?_);refine qb<|zg [] S2 Uf UL U (zY G (Str.zero ig) o0) (zz UM S3 ?_);refine ztA<|zgA [some (10,_)] [] (Wn 3 [.sto 0]) [] (zQ G (d6 (n:=0) zd zd) (.cons ab .nil) (zQ G (d6 (n:=1) zd zd) (.cons ab .nil) (zQ G (d6 (n:=0) zd zd) (.cons ab .nil) (zv G (bR (D:=[U32]) (l:=[_,_,_]) (xs:=[.tmp 3,.tmp 4,.tmp 5]) (cO zk) du zk (n_ok zk) nq nq nq (.cons (vq 0 G) (.p (vq 1 G) (vq 2 G))) G G) (zv G (be (xs:=[.const (.string ⟨#[97]⟩),.const (.int .i64 1),.const (.int .i64 5)]) (uL ⟨#[97]⟩ (p:=1) (c:=5) zd zd) (.cons CO (.cons ab (.cons ab .nil)))) (zv G (be (xs:=[.const (.string ⟨#[98]⟩),.const (.int .i64 2),.const (.int .i64 3)]) (uL ⟨#[98]⟩ (p:=2) (c:=3) zd zd) (.cons CO (.cons ab (.cons ab .nil)))) (zv G (bR (D:=[U32]) (l:=[_,_]) (xs:=[.tmp 7,.tmp 8]) (cO zk) fD zk (n_ok zk) nq nq nq (.p (vq 4 G) (vq 5 G)) G G) (zM 0 G (zQ G (d6 h1 h2) (.o (vq 7 G)) (zv G (aT (qs:=[(0,_),(1,_),(2,_)]) ig (.cons ⟨rfl,vq 3 rfl,rfl⟩ (.cons ⟨rfl,vq 6 rfl,rfl⟩ (.cons ⟨rfl,vq 8 rfl,rfl⟩ .nil)))) (zS 9 G cp o0))))))))))) (zz [] S3 λ a w U=>?_);refine aa<|qi<|al ?_ (au G U (zm 0 G) cp);exact aG
def Nmd (Γ:List (Nat × VA)):List (Nat × Nat)→List Nat→Prop
 | [],[]=>True
 | p::ps,k::ks=>Γ[k]?=some (p.1,EqV (ptr p.2))∧Nmd Γ ps ks
 | _,_=>False
section
variable {P:Program}{R:Rg}{Q:Exit→Act→World→Prop}{B i:Nat}{w0:Bs}
inductive Nmo (R:Rg) (B:Nat) (w0:Bs) (i:Nat):List (Nat × Nat)→Prop
 | nil:Nmo R B w0 i []
 | cons {s g T:Nat}{A:As}{l:List (Nat × Nat)}:Has R B w0 i (.tmp s) (EqV (ptr g))→Loc R i s T A→Nmo R B w0 i l→Nmo R B w0 i ((s,g)::l)
theorem Nmo.lt (h:Nmo R B w0 i l)(av:R.Av B w0 i a w):∀ p∈l,p.2<w.heap.size:=by
 induction h with
 | nil=>intro p hp;cases hp
 | cons h1 h2 _ ih =>
  intro p hp;rcases qt.1 hp with rfl|hp
  ·obtain ⟨g,cs,e1,_,e3,_⟩:=h2.ok av;have e2:=h1 a w av;have e2':a.eval (.tmp _)=ptr _:=e2;rw [e2'] at e1;have:ptr _=ptr g:=e1;injection this with this;injection this with this;injection this with this;rw [this];exact (Array.getElem?_eq_some_iff.1 e3).1
  ·exact ih p hp
theorem Kz (h:v.oneCell'=true)(h1:Has R B w0 i x (EqV v)):Has R B w0 i x (EqA v).va:=λ a w av=>by
 have e:a.eval x=v:=h1 a w av;rw [e];exact tZ h
end
def prvB (lo hi:Nat)(Tp:List TypeId)(gs:List Nat)(W:World):Bs:=⟨W,λ k=>k∈gs∨(lo≤k∧k<hi∧∃ c T fz,W.heap[k]?=some (.cells c T fz)∧T∈Tp),true⟩
abbrev StpV (lo hi:Nat)(Tp:List TypeId)(gs:List Nat)(W W':World):Prop:=Kept (prvB lo hi Tp gs W) W'
def StV (lo hi:Nat)(Tp Tc:List TypeId)(A:VA):Prop:=∀ (B:Nat) (v:Value) (gs:List Nat) (W W':World),B≤lo→A.p B v W→StpV lo hi Tp gs W W'→CellsT Tc gs W→(∀ g∈gs,B≤g)→A.p B v W'
def StVA (lo hi:Nat)(Tp Tc:List TypeId)(A:As):Prop:=∀ (B:Nat) (cs:List Value) (gs:List Nat) (W W':World),B≤lo→A.p B cs W→StpV lo hi Tp gs W W'→CellsT Tc gs W→(∀ g∈gs,B≤g)→A.p B cs W'
theorem AT {lo hi:Nat}{Tp Tc:Yp}{A:VA}(h:offD (Tc++Tp) A.deps=true):StV lo hi Tp Tc A:=λ B v gs W W' hlo hp hs hc hb=>by
 have hD:=fL h;refine VA.many (gs++(List.range W.heap.size).filter λ k=>match (W.heap[k]?:Option Obj) with|some (Obj.cells _ T _)=>Tp.contains T&&decide (lo≤k) | _=>false) hp hs.os hs.tape hs.output hs.size (λ k c T fz hk hn=>?_) (λ g hg=>?_)
 ·refine hs.block k (Array.getElem?_eq_some_iff.1 hk).1 λ hF=>hn ?_;rcases hF with hF|⟨h1,h2,c',T',fz',h3,h4⟩
  ·exact qp.2 (.inl hF)
  ·have h3':W.heap[k]?=_:=h3;refine qp.2 (.inr (z5.2 ⟨by simpa using (Array.getElem?_eq_some_iff.1 hk).1,?_⟩));rw [h3'];simp only [qm,qC,qJ];exact ⟨h4,h1⟩
 ·rcases qp.1 hg with hg|hg
  ·obtain ⟨c,T,fz,h1,h2⟩:=hc g hg;exact ⟨hb g hg,c,T,fz,h1,hD T (qp.2 (.inl h2))⟩
  ·obtain ⟨_,h2⟩:=z5.1 hg;split at h2
   ·rename_i c T fz h3;simp only [qm,qC,qJ] at h2;exact ⟨qg hlo h2.2,c,T,fz,h3,hD T (qp.2 (.inr h2.1))⟩
   ·cases h2
theorem cK {lo hi:Nat}{Tp Tc:Yp}{A:As}(h:offD (Tc++Tp) A.deps=true):StVA lo hi Tp Tc A:=λ B cs gs W W' hlo hp hs hc hb=>AT (A:=As.vaC A cs) h B undef gs W W' hlo hp hs hc hb
theorem GS {lo:Nat}{Tp:Yp}{gs:Ya}{W W':Yi}(h:StpI gs W W'):StpV lo lo Tp gs W W':=⟨h.os,h.tape,h.output,h.size,λ k hk hf=>h.block k hk λ hF=>hf (.inl hF)⟩
def StG (lo0:Nat)(Tp Tc:List TypeId)(gb:List Nat)(A:VA):Prop:=∀ (B:Nat) (v:Value) (lo hi:Nat) (W W':World),B≤lo→lo0≤lo→A.p B v W→StpV lo hi Tp gb W W'→CellsT Tc gb W→(∀ g∈gb,B≤g)→A.p B v W'
def StGL (lo0:Nat)(Tp Tc:List TypeId)(gb:List Nat):List (Nat × VA)→Prop
 | []=>True
 | x::l=>StG lo0 Tp Tc gb x.2∧StGL lo0 Tp Tc gb l
theorem StGL.all {lo0:Nat}{Tp Tc:Yp}{gb:Ya}:∀ {l:Yf},StGL lo0 Tp Tc gb l→∀ x∈l,StG lo0 Tp Tc gb x.2
 | _::_,h,x,hx=>by
  rcases qt.1 hx with rfl|hx
  ·exact h.1
  ·exact StGL.all h.2 x hx
theorem IK {lo0:Nat}{Tp Tc:Yp}{gb:Ya}{A:VA}(h:offD (Tc++Tp) A.deps=true):StG lo0 Tp Tc gb A:=λ B v lo hi W W' hlo _ hp hs hc hb=>AT h B v gb W W' hlo hp hs hc hb
theorem StpV.noncell {lo hi:Nat}{Tp Tc:Yp}{gs:Ya}{W W':Yi}(h:StpV lo hi Tp gs W W')(hc:CellsT Tc gs W){k:Nat}{o:Obj}(hk:W.heap[k]?=some o)(ho:o.isCells=false):W'.heap[k]?=some o :=
 (h.block k (Array.getElem?_eq_some_iff.1 hk).1 (λ hF=>by
  rcases hF with hF|⟨_,_,c,T,fz,h1,_⟩
  ·obtain ⟨c,T,fz,h1,_⟩:=hc k hF;rw [h1] at hk;injection hk with hk;subst hk;cases ho
  ·have h1':W.heap[k]?=_:=h1;rw [h1'] at hk;injection hk with hk;subst hk;cases ho)).trans hk
theorem St.stpV {B N:Nat}{W W':Yi}{gs:Ya}{Tp Tc:Yp}{lo hi:Nat}(h:St B w0 N Γ Λ a W)(hB:B=w0.w.heap.size)(hlo:B≤lo)(hs:StpV lo hi Tp gs W W')(hc:CellsT Tc gs W)(hb:∀ g∈gs,B≤g)(hΓ:∀ x∈Γ,x.2.p B (a.eval (.tmp x.1)) W→x.2.p B (a.eval (.tmp x.1)) W')(hΛ:∀ l∈Λ,∀ cs,l.A.p B cs W→l.A.p B cs W')
  (hdis:∀ l∈Λ,∀ g,blk (a.eval (.tmp l.s))=some g→g ∉ gs) (hlt:∀ l∈Λ,∀ g,blk (a.eval (.tmp l.s))=some g→g<lo):St B w0 N Γ Λ a W':=by
 refine ⟨h.lo,h.defers.keep rfl λ Dm hD=>hs.noncell hc hD rfl,h.size,⟨hs.os.trans h.base.os,hs.tape.trans h.base.tape,hs.output.trans h.base.output,qg h.base.size hs.size,λ k hk hf=>(hs.block k (qE hk h.base.size) (λ hF=>by
   rcases hF with hF|⟨h1,_⟩
   ·have:=hb k hF;omega
   ·omega)).trans (h.base.block k hk hf)⟩,
  λ x hx=>hΓ x hx (h.vals x hx),λ l hl=>?_,h.dis⟩
 obtain ⟨g,cs,e1,e2,e3,e4⟩:=h.locs l hl;exact ⟨g,cs,e1,e2,(hs.block g (Array.getElem?_eq_some_iff.1 e3).1 (λ hF=>by
  have hbk:blk (a.eval (.tmp l.s))=some g:=by rw [e1];exact l.H.ok g
  rcases hF with hF|⟨h1,_⟩
  ·exact hdis l hl g hbk hF
  ·have:=hlt l hl g hbk;omega)).trans e3,hΛ l hl _ e4⟩
structure ItHp (P:Program) (l B:Nat) (Db Tc Tp:List TypeId) (gs:List Nat) (Y:Nat→List VA) (inf:Bool) (M lo:Nat) (J0:World→Prop) (J:Nat→Nat→World→Prop) (Jx:World→Prop):Prop where
 inf':inf=true→∀ hi W,¬ J hi M W
 st0:∀ W W',J0 W→StpI gs W W'→CellsT Tc gs W'→J0 W'
 go:∀ hi W,hi≤W.heap.size→J0 W→J hi 0 W
 st:∀ hi k W W',k<M→J hi k W→StpV lo hi Tp gs W W'→CellsT Tc gs W'→J hi k W'
 stM:∀ hi W W',J hi M W→StpI gs W W'→CellsT Tc gs W'→J hi M W'
 stx:∀ W W',Jx W→StpI gs W W'→CellsT Tc gs W'→Jx W'
 ct0:∀ W,J0 W→CellsT Tc gs W
 ct:∀ hi k W,J hi k W→CellsT Tc gs W
 ctx:∀ W,Jx W→CellsT Tc gs W
 yd:∀ hi k W args,k<M→J hi k W→All2 (λ (A:VA) v=>A.p B v W) (Y k) args→YieldAt Fence.wide 0 P l args.toArray W λ e W'=>(e=.returned (.bool true)∧J hi (k+1) W'∧Stp B Db (gs++List.range' lo (hi-lo)) W W') ∨
  (e=.returned (.bool false)∧Jx W'∧W.heap.size≤W'.heap.size∧∀ D:Nat,W.heap[D]?=some (.deferred (some []))→W'.heap[D]?=some (.deferred (some [])))
def ItPg (P:Program)(f:FuncId)(caps:List (TypeId × As))(gs:List Nat)(Y:Nat→List VA)(inf:Bool)(M:Nat)(Dd Tp:List TypeId):Prop :=
 (∃ fn, P.funcs[f]? = some fn∧(fn.name == "runtime.NumGoroutine")=false∧fn.body.isNone=false) ∧
 ∀ (l B:Nat) (w:World) (Db:List TypeId) (J0:World→Prop) (J:Nat→Nat→World→Prop) (Jx:World→Prop),B≤w.heap.size→gs.Nodup→oj B w caps gs→offD Db Dd=true→ItHp P l B Db (caps.map xe) Tp gs Y inf M w.heap.size J0 J Jx→J0 w →
  Calls P f (.func (.yield l) #[] #[]::gs.map ptr).toArray w λ e W'=>∃ v,e=.returned v∧((∃ hi,J hi M W')∨Jx W')
section
variable {P:Program}{Q:Exit→Act→World→Prop}{B N:Nat}{w0:Bs}{Γ:List (Nat × VA)}{a:Act}{w:World}
theorem iD {gs k0:Nat}{ps:Ya}{assign body:Code}(Λ0:List Lc)(Λ:Nat→Nat→List Lc)(Λr:Option (List Lc))(Λx:Nat→Option (List Lc)){f:Ym}{caps:List (Yh × As)}{gb:Ya}{Y:Nat→Yc}{inf:Bool}{M:Nat}{Dd Db Tp:Yp}
  (h:St B w0 N Γ Λ0 a w) (hB:B=w0.w.heap.size) (hN0:w0.nd=false) (hk0:Γ[k0]?=some (gs,ItV f caps gb)) (hit:ItPg P f caps gb Y inf M Dd Tp) (hM:inf=true→0<M) (hDd:offD Db Dd=true)
  (ks:List Nat) (hΓ:ks.all (λ k=>match Γ[k]? with|some x=>offD Db x.2.deps && !ps.contains x.1|none=>false)=true) (hΓs:StGL w.heap.size Tp (caps.map xe) gb (ks.filterMap λ k=>Γ[k]?))
  (hΛ:∀ hi k,(Λ hi k).all (λ l => !ps.contains l.s&&Db.contains l.T)=true) (hΛs:∀ lo hi k,k<M→B≤lo→w.heap.size≤lo→∀ l∈Λ hi k,StVA lo hi Tp (caps.map xe) l.A) (hΛM:∀ hi,(Λ hi M).all (λ l=>offD (caps.map xe) l.A.deps)=true) (hΛ0:Λ0.all (λ l=>offD (caps.map xe) l.A.deps)=true) (sl:List Nat) (hsl:∀ hi k,(Λ hi k).all (λ l=>sl.contains l.s)=true) (hsl0:Λ0.all (λ l=>sl.contains l.s)=true) (hsl1:sl.all (λ s=>Λ0.any λ l=>l.s==s)=true) (hdis:∀ s∈sl,∀ g,blk (a.eval (.tmp s))=some g→g ∉ gb)
  (hΛr:∀ L,Λr=some L→L.all (λ l=>offD (caps.map xe) l.A.deps&&sl.contains l.s)=true) (hΛx:∀ id L,Λx id=some L→L.all (λ l=>offD (caps.map xe) l.A.deps&&sl.contains l.s)=true)
  (hps:∀ k,(Y k).length=ps.length) (hnd:ps.Nodup) (hpN:ps.all (λ p=>p<N)=true)
  (hgo:∀ hi Γ a W,hi≤W.heap.size→St B w0 N Γ Λ0 a W→St B w0 N Γ (Λ hi 0) a W) (hM0:0<M)
  (hround:∀ l lo hi k a1 Ws,k<M→B≤lo→w.heap.size≤lo→hi≤Ws.heap.size→B≤Ws.heap.size→CellsT (caps.map xe) gb Ws→St B (rndB B Db (gb++List.range' lo (hi-lo)) Ws Ws) N (ks.filterMap (λ k=>Γ[k]?)++(ps.zip (Y k)++(Λ hi k).map λ l=>(l.s,EqV (a.eval (.tmp l.s))))) (Λ hi k) a1 Ws →
   assign.wpIn (fw (some l)) 0 P (Exit.then (λ a2 W2=>Kept (rndB B Db (gb++List.range' lo (hi-lo)) Ws Ws) W2∧∀ W3,Bg l W2 W3→body.wpIn (fw (some l)) 0 P (PN B N (rndB B Db (gb++List.range' lo (hi-lo)) Ws W3) a (inf=true→k+1<M) (Λ hi (k+1)) Λr Λx) a2 W3) (λ _ _ _=>False)) a1 Ws)
  (hdone:∀ hi a' W,St B w0 N (ks.filterMap (λ k=>Γ[k]?)) (Λ hi M) a' W→Q .normal a' W) (hret:∀ L,Λr=some L→∀ a' W,St B w0 N (ks.filterMap (λ k=>Γ[k]?)) L a' W→Q .ret a' W) (hexit:∀ id L,Λx id=some L→∀ a' W,St B w0 N (ks.filterMap (λ k=>Γ[k]?)) L a' W→Q (.exit id) a' W) :
  (Code.rangeFunc (.tmp gs) ps.toArray assign body).wp P Q a w:=by
 refine (wpIn_wide (n:=0)).1 (wpIn_rangeFunc ?_);intro fn hfn;obtain ⟨⟨ff,hf,hn,hb⟩,hcall⟩:=hit;obtain ⟨hev,hgn,hcaps⟩:=h.vals _ (qa hk0);have hev':a.eval (.tmp gs)=.func (.func f) #[] (gb.map ptr).toArray:=hev;obtain ⟨hct,hcb⟩:=eT hcaps
 replace h:=h.sel ks
 obtain ⟨Γ,hΓe⟩:∃ Γ',ks.filterMap (λ k=>Γ[k]?)=Γ':=⟨_,rfl⟩;rw [hΓe] at h hΓs hround hdone hret hexit
 replace hΓ:∀ x∈Γ,(offD Db x.2.deps && !ps.contains x.1)=true:=λ x hx=>by
  rw [← hΓe] at hx;obtain ⟨k,hk1,hk2⟩:=qS.1 hx;have:=qf.1 hΓ k hk1;rwa [hk2] at this
 clear hΓe;obtain ⟨rec,hrec⟩:∃ rec:LoopState→Option Code→Loop,rec=λ st pe=>{ state:=st,pending:=pe,fn,tmps:=a.tmps,params:=ps.toArray,assign,body,defers:=w.heap.size }:=⟨_,rfl⟩;obtain ⟨W1,hW1⟩:∃ W1,(w.alloc (.deferred (some []))).alloc (.loop (rec .ready none))=W1:=⟨_,rfl⟩;have hgr:Grow w W1:=by rw [← hW1];exact (Grow.alloc _ _).trans (Grow.alloc _ _)
 have hL1:W1.heap[w.heap.size+1]?=some (.loop (rec .ready none)):=by
  rw [← hW1];have:=World.alloc_heap_new (w.alloc (.deferred (some []))) (.loop (rec .ready none));rwa [World.size_alloc] at this
 have hK1:W1.heap[w.heap.size]?=some (.deferred (some [])):=by
  rw [← hW1];exact (Below.heap_alloc _ _ _ (by simp)).trans (World.alloc_heap_new w _)
 have hws:w0.w.heap.size≤w.heap.size:=h.base.size;have h1:St B w0 N Γ Λ0 a W1:=⟨h.lo,h.defers.grow hgr rfl,h.size,h.base.grow hgr,λ x hx=>x.2.grow _ _ _ _ hgr (h.vals x hx),λ l hl=>(h.locs l hl).grow hgr,h.dis⟩;have hΓ':∀ x∈Γ,True∧offD Db x.2.deps=true∧x.1 ∉ ps:=λ x hx=>by
  have:=hΓ x hx;simp only [qm,qz,qC,qn] at this;exact ⟨trivial,this.1,this.2⟩
 have hΓg:=StGL.all hΓs;have hΛ':∀ hi k,∀ l∈Λ hi k,True∧l.s ∉ ps∧l.T∈Db:=λ hi k l hl=>by
  have:=qf.1 (hΛ hi k) l hl;simp only [qm,qz,qC,qn,qJ] at this;exact ⟨trivial,this.1,this.2⟩
 have hlo:B≤W1.heap.size:=by have:=hgr.size;omega
 have hlt:∀ s∈sl,∀ g,blk (a.eval (.tmp s))=some g→g<W1.heap.size:=λ s hs g hg=>by
  obtain ⟨l,hl,e⟩:=jl.1 (qf.1 hsl1 s hs);obtain ⟨g',cs,e1,e2,e3,_⟩:=h1.locs l hl;have e':l.s=s:=by simpa using e
  rw [← e',e1,l.H.ok] at hg;injection hg with hg;subst hg;exact (Array.getElem?_eq_some_iff.1 e3).1
 have stp:∀ {L:List Lc}{W W':World},L.all (λ l=>offD (caps.map xe) l.A.deps&&sl.contains l.s)=true→St B w0 N Γ L a W→CellsT (caps.map xe) gb W→StpI gb W W'→St B w0 N Γ L a W':=λ {L W W'} hL hs hc hk=>by
  have hL':∀ l∈L,offD (caps.map xe) l.A.deps=true∧l.s∈sl:=λ l hl=>by
   have:=qf.1 hL l hl;simpa using this
  exact St.stpV (lo:=W1.heap.size) (hi:=W1.heap.size) (Tp:=Tp) hs hB hlo (GS hk) hc hcb (λ x hx hp=>hΓg x hx _ _ _ _ _ _ hlo hgr.size hp (GS hk) hc hcb) (λ l hl cs hp=>As.stpI hp hk hc hcb (fL (hL' l hl).1)) (λ l hl g hg=>hdis l.s (hL' l hl).2 g hg) λ l hl g hg=>hlt l.s (hL' l hl).2 g hg
 have and2:∀ {L:List Lc},L.all (λ l=>offD (caps.map xe) l.A.deps)=true→L.all (λ l=>sl.contains l.s)=true→L.all (λ l=>offD (caps.map xe) l.A.deps&&sl.contains l.s)=true:=λ {L} h1 h2=>qf.2 λ l hl=>by
  rw [qf.1 h1 l hl,qf.1 h2 l hl]
  rfl
 have stpv:∀ {hi k:Nat}{W W':World},k<M→St B w0 N Γ (Λ hi k) a W→CellsT (caps.map xe) gb W→StpV W1.heap.size hi Tp gb W W'→St B w0 N Γ (Λ hi k) a W':=λ {hi k W W'} hk hs hc hv =>
  St.stpV hs hB hlo hv hc hcb (λ x hx hp=>hΓg x hx _ _ _ _ _ _ hlo hgr.size hp hv hc hcb) (λ l hl cs hp=>hΛs _ hi k hk hlo hgr.size l hl _ _ _ _ _ hlo hp hv hc hcb) (λ l hl g hg=>hdis l.s (by have:=qf.1 (hsl hi k) l hl;simpa using this) g hg) λ l hl g hg=>hlt l.s (by have:=qf.1 (hsl hi k) l hl;simpa using this) g hg
 have back:∀ {L:List Lc}{Ws W3 W:World}{a':Act} (hi k:Nat) (r:Loop) (st:LoopState) (pe:Option Code),St B w0 N Γ (Λ hi k) a Ws→Ws.heap[w.heap.size+1]?=some (.loop (rec .ready none))→Ws.heap[w.heap.size]?=some (.deferred (some [])) →
   (∀ j,j<Ws.heap.size→j≠w.heap.size+1→¬ (rndB B Db (gb++List.range' W1.heap.size (hi-W1.heap.size)) Ws W3).F j→W3.heap[j]?=Ws.heap[j]?)→Ws.heap.size≤W3.heap.size→W3.os=Ws.os∧W3.tape=Ws.tape∧W3.output=Ws.output→W3.heap[w.heap.size+1]?=some (.loop r)→REnd B N (rndB B Db (gb++List.range' W1.heap.size (hi-W1.heap.size)) Ws W3) a L a' W →
   W.heap[w.heap.size+1]?=some (.loop r)∧St B w0 N Γ L a (W.putObj (w.heap.size+1) (.loop (rec st pe)))∧(W.putObj (w.heap.size+1) (.loop (rec st pe))).heap[w.heap.size+1]?=some (.loop (rec st pe)) ∧
    (W.putObj (w.heap.size+1) (.loop (rec st pe))).heap[w.heap.size]?=some (.deferred (some []))∧(st=.ready→pe=none→Stp B Db (gb++List.range' W1.heap.size (hi-W1.heap.size)) Ws (W.putObj (w.heap.size+1) (.loop (rec st pe))))∧(∀ g∈gb,g<Ws.heap.size→g≠w.heap.size+1→(W.putObj (w.heap.size+1) (.loop (rec st pe))).heap[g]?=Ws.heap[g]?)∧Ws.heap.size≤(W.putObj (w.heap.size+1) (.loop (rec st pe))).heap.size∧∀ D:Nat,Ws.heap[D]?=some (.deferred (some []))→(W.putObj (w.heap.size+1) (.loop (rec st pe))).heap[D]?=some (.deferred (some [])):=by
  rintro L Ws W3 W a' hi k r st pe hs hl hd hc0 hsz ho hl3 ⟨Γ3,h3,heq⟩;have hnF:∀ {j:Nat}{o:Obj},Ws.heap[j]?=some o→o.isCells=false→¬ (rndB B Db (gb++List.range' W1.heap.size (hi-W1.heap.size)) Ws W3).F j:=λ {j o} hj ho hF=>by
   rcases hF.2 with h4|⟨_,c,T,fz,h4,_⟩
   ·have:=(Array.getElem?_eq_some_iff.1 hj).1;omega
   ·rw [hj] at h4;injection h4 with h4;subst h4;cases ho
  have hlt1:=(Array.getElem?_eq_some_iff.1 hl).1;have hWl:W.heap[w.heap.size+1]?=some (.loop r):=(h3.base.block _ (by show _<W3.heap.size;omega) (hnF hl rfl)).trans hl3;have hlt2:=(Array.getElem?_eq_some_iff.1 hWl).1;have hnew:=World.putObj_heap_same (w:=W) (o:=.loop (rec st pe)) hlt2;have hblk:∀ j,j<Ws.heap.size→j≠w.heap.size+1→¬ (rndB B Db (gb++List.range' W1.heap.size (hi-W1.heap.size)) Ws W3).F j→(W.putObj (w.heap.size+1) (.loop (rec st pe))).heap[j]?=Ws.heap[j]?:=λ j hj hne hF =>
   (World.putObj_heap_other hne).trans ((h3.base.block j (by show _<W3.heap.size;omega) hF).trans (hc0 j hj hne hF))
  have hD':(W.putObj (w.heap.size+1) (.loop (rec st pe))).heap[w.heap.size]?=some (.deferred (some [])):=(hblk _ (Array.getElem?_eq_some_iff.1 hd).1 zo (hnF hd rfl)).trans hd;have hsz3:W3.heap.size≤W.heap.size:=h3.base.size;have hcg:=Cq hWl (.loop (rec st pe));have hDk:∀ D:Nat,Ws.heap[D]?=some (.deferred (some []))→(W.putObj (w.heap.size+1) (.loop (rec st pe))).heap[D]?=some (.deferred (some [])):=λ D hDd=>by
   have hne:D≠w.heap.size+1:=λ e=>by rw [e,hl] at hDd;cases hDd
   exact (hblk D (Array.getElem?_eq_some_iff.1 hDd).1 hne (hnF hDd G)).trans hDd
  refine ⟨hWl,⟨h.lo,hs.defers.keep rfl λ D hDd=>?_,hs.size,?_,λ x hx=>?_,λ m hm=>?_,λ m hm m' hm' hne=>?_⟩,hnew,hD',λ e1 e2=>?_,λ g hg hlt hne=>hblk g hlt hne (λ hF=>by rcases hF.2 with h4|h4;omega;exact h4.1 (qp.2 (.inl hg))),by rw [World.putObj_size];omega,hDk⟩
  ·exact hDk D hDd
  ·refine ⟨(h3.base.os.trans ho.1).trans hs.base.os,(h3.base.tape.trans ho.2.1).trans hs.base.tape,(h3.base.output.trans ho.2.2).trans hs.base.output,?_,λ j hj hf=>?_⟩
   ·have:=hs.base.size;rw [World.putObj_size];omega
   ·have hjs:j<Ws.heap.size:=qE hj hs.base.size;exact (hblk j hjs zo (λ hF=>by have:=hF.1;omega)).trans (hs.base.block j hj hf)
  ·-- what was known is known: by the blocks that turned
   have hb:=(hΓ' x hx).2.1;refine VA.many ((List.range Ws.heap.size).filter λ j=>match Ws.heap[j]? with|some (.cells _ T _)=>Db.contains T&&decide (B≤j) | _=>false) (hs.vals x hx) (h3.base.os.trans ho.1) (h3.base.tape.trans ho.2.1) (h3.base.output.trans ho.2.2) (by rw [World.putObj_size];omega) (λ j c T fz hj hn=>?_) (λ g hg=>?_)
   ·refine hblk j (Array.getElem?_eq_some_iff.1 hj).1 (λ e=>by rw [e,hl] at hj;cases hj) λ hF=>hn (z5.2 ⟨by simpa using (Array.getElem?_eq_some_iff.1 hj).1,?_⟩);rcases hF.2 with h4|⟨_,c',T',fz',hc,hD''⟩
    ·have:=(Array.getElem?_eq_some_iff.1 hj).1;omega
    ·rw [hj] at hc;injection hc with hc;injection hc with _ hc _;subst hc;rw [hj];simp only [qm,qC,qJ];exact ⟨hD'',hF.1⟩
   ·obtain ⟨_,h2⟩:=z5.1 hg;split at h2
    ·rename_i c T fz hc;simp only [qm,qC,qJ] at h2;exact ⟨h2.2,c,T,fz,hc,fL hb T h2.1⟩
    ·cases h2
  ·obtain ⟨g,cs,e1,e2,e3,e4⟩:=h3.locs m hm;refine ⟨g,cs,(heq m hm).symm.trans e1,.inl ?_,hcg.heap e3,m.A.cg _ _ _ _ hcg e4⟩;have:=h3.lo g e2;omega
  ·rw [← heq m hm,← heq m' hm'];exact h3.dis m hm m' hm' hne
  ·subst e1 e2;refine ⟨h3.base.os.trans ho.1,h3.base.tape.trans ho.2.1,h3.base.output.trans ho.2.2,by rw [World.putObj_size];show Ws.heap.size≤_;omega,λ j hj hF=>?_⟩;have hj':j<Ws.heap.size:=hj;by_cases e:j=w.heap.size+1
   ·subst e;show _=Ws.heap[w.heap.size+1]?;rw [hnew,hl]
   ·exact hblk j hj' e hF
 refine ⟨w.heap.size+1,[mark w.heap.size],W1,{ target:=.fn (.func f) (gb.map ptr).toArray,args := #[.func (.yield (w.heap.size+1)) #[] #[]] },W1,f,
  #[.func (.yield (w.heap.size+1)) #[] #[]]++(gb.map ptr).toArray,W1,?_,?_,λ _ _=>trivial,?_,(λ hh=>by cases hh),?_⟩
 ·rw [← hW1,hrec];exact run_enterLoop_outer _ _ _ _ _
 ·simp only [resolve,hev'];simp [go_sem]
 ·simp [invoke,bi hf hn hb]
 ·refine callsIn_wide.2 ?_;have hargs:(#[.func (.yield (w.heap.size+1)) #[] #[]]++(gb.map ptr).toArray:Array Value)=(.func (.yield (w.heap.size+1)) #[] #[]::gb.map ptr).toArray:=by simp
  rw [hargs];have hcaps1:oj B W1 caps gb:=hcaps.mono λ c g ⟨h3,cs,h4,h5⟩=>⟨h3,cs,hgr.heap h4,c.2.grow _ _ _ _ hgr h5⟩;have hgl:∀ g∈gb,g≠w.heap.size+1:=λ g hg=>by
   obtain ⟨c,T,fz,h1,_⟩:=hct g hg;have:=(Array.getElem?_eq_some_iff.1 h1).1;omega
  refine (hcall (w.heap.size+1) B W1 Db
   (λ W=>(St B w0 N Γ Λ0 a W∧W.heap[w.heap.size+1]?=some (.loop (rec .ready none))∧W.heap[w.heap.size]?=some (.deferred (some [])))∧CellsT (caps.map xe) gb W)
   (λ hi k W=>((St B w0 N Γ (Λ hi k) a W∧W.heap[w.heap.size+1]?=some (.loop (rec .ready none))∧W.heap[w.heap.size]?=some (.deferred (some [])))∧(inf=true→k<M)∧hi≤W.heap.size)∧CellsT (caps.map xe) gb W)
   (λ W=>(∃ c,((c=.ret∧∃ L,Λr=some L∧St B w0 N Γ L a W)∨(∃ id L,c=.exit id∧Λx id=some L∧St B w0 N Γ L a W))∧W.heap[w.heap.size+1]?=some (.loop (rec .done (some c)))∧W.heap[w.heap.size]?=some (.deferred (some [])))∧CellsT (caps.map xe) gb W)
   (by have:=hgr.size;omega) hgn hcaps1 hDd ⟨λ hi2 hi W hJ=>absurd (hJ.1.2.1 hi2) (Nat.lt_irrefl M),?_,?_,?_,?_,?_,λ W hJ=>hJ.2,λ hi k W hJ=>hJ.2,λ W hJ=>hJ.2,?_⟩ ⟨⟨h1,hL1,hK1⟩,(eT hcaps1).1⟩).mono ?_
  ·rintro W W' ⟨⟨hs,hl,hd⟩,hcc⟩ hk hcc';exact ⟨⟨stp (and2 hΛ0 hsl0) hs hcc hk,hk.noncell hcc hl rfl,hk.noncell hcc hd rfl⟩,hcc'⟩
  ·rintro hi W hhi ⟨⟨hs,hl,hd⟩,hcc⟩;exact ⟨⟨⟨hgo hi _ _ _ hhi hs,hl,hd⟩,(λ _=>hM0),hhi⟩,hcc⟩
  ·rintro hi k W W' hkM ⟨⟨⟨hs,hl,hd⟩,hc,hhi⟩,hcc⟩ hk hcc';exact ⟨⟨⟨stpv hkM hs hcc hk,hk.noncell hcc hl rfl,hk.noncell hcc hd rfl⟩,hc,qg hhi hk.size⟩,hcc'⟩
  ·rintro hi W W' ⟨⟨⟨hs,hl,hd⟩,hc,hhi⟩,hcc⟩ hk hcc';exact ⟨⟨⟨stp (and2 (hΛM hi) (hsl hi M)) hs hcc hk,hk.noncell hcc hl rfl,hk.noncell hcc hd rfl⟩,hc,qg hhi hk.size⟩,hcc'⟩
  ·rintro W W' ⟨⟨c,hc,hl,hd⟩,hcc⟩ hk hcc';refine ⟨⟨c,?_,hk.noncell hcc hl rfl,hk.noncell hcc hd rfl⟩,hcc'⟩;rcases hc with ⟨e,L,hL,hs⟩|⟨id,L,e,hL,hs⟩
   ·exact .inl ⟨e,L,hL,stp (hΛr L hL) hs hcc hk⟩
   ·exact .inr ⟨id,L,e,hL,stp (hΛx id L hL) hs hcc hk⟩
  ·rintro hi k W args hkM ⟨⟨⟨hs,hl,hd⟩,hc,hhi⟩,hcc⟩ hargs';have hla:args.length=ps.length:=by rw [← hargs'.length,hps k]
   have hy:=run_yield (P:=P) (args:=args.toArray) hl (by rw [hrec];simpa using hla);rw [hrec] at hy;have hlt':=hlt;have hlt:w.heap.size+1<W.heap.size:=(Array.getElem?_eq_some_iff.1 hl).1;have hBW:B≤W.heap.size:=by have:=hs.base.size;omega
   have hzip:(ps.toArray.zip args.toArray).foldl (λ (t:Array Value) (x:Nat × Value)=>t.setIfInBounds x.1 x.2) a.tmps=(ps.zip args).foldl (λ t x=>t.setIfInBounds x.1 x.2) a.tmps:=by
    rw [List.zip_toArray,List.foldl_toArray]
   obtain ⟨z1,z2,z3⟩:=B9 (ps.zip args) a.tmps;have hfst:(ps.zip args).map xe=ps:=by rw [List.map_fst_zip];omega
   rw [hfst] at z2 z3;refine ⟨fn,_,assign,body,hy,roundIn_of_wpIn hfn ?_⟩;have hst1:St B (rndB B Db (gb++List.range' W1.heap.size (hi-W1.heap.size)) W W) N (Γ++(ps.zip (Y k)++(Λ hi k).map λ l=>(l.s,EqV (a.eval (.tmp l.s))))) (Λ hi k) { tmps:=(ps.zip args).foldl (λ t x=>t.setIfInBounds x.1 x.2) a.tmps,defers:=[] } W:=by
    have hold:∀ s,s ∉ ps→({ tmps:=(ps.zip args).foldl (λ t x=>t.setIfInBounds x.1 x.2) a.tmps,defers:=[] }:Act).eval (.tmp s)=a.eval (.tmp s):=λ s hs'=>by
     rw [iN,iN];show ((_:Array Value)[s]?).getD undef=_;rw [z2 s hs']
    refine ⟨λ g hg=>?_,DefOk.nil rfl,by rw [z1];exact hs.size,Kept.refl _,λ x hx=>?_,λ m hm=>?_,λ m hm m' hm' hne=>?_⟩
    ·rcases hg with hg|hg
     ·exact qg hBW hg
     ·exact hg.1
    ·rcases qp.1 hx with hx|hx
     ·rw [hold _ (hΓ' x hx).2.2];exact hs.vals x hx
     ·rcases qp.1 hx with hx|hx
      ·obtain ⟨i,hi⟩:=List.getElem?_of_mem hx;obtain ⟨p,A,e1,e2,rfl⟩:∃ p A,ps[i]?=some p∧(Y k)[i]?=some A∧x=(p,A):=by
        rw [List.getElem?_zip_eq_some] at hi;exact ⟨x.1,x.2,hi.1,hi.2,rfl⟩
       obtain ⟨v,hv1,hv2⟩:=hargs'.get e2;have hm:(p,v)∈ps.zip args:=qa (i:=i) (by rw [List.getElem?_zip_eq_some];exact ⟨e1,hv1⟩);have hpl:p<a.tmps.size:=by
        rw [hs.size];have:=qf.1 hpN p (qa e1);simpa using this
       show A.p B _ W;rw [iN];show A.p B (((_:Array Value)[p]?).getD undef) W;rw [z3 hnd (p,v) hm hpl];exact hv2
      ·obtain ⟨m,hm,rfl⟩:=qr.1 hx;exact hold m.s (hΛ' hi k m hm).2.1
    ·obtain ⟨g,cs,e1,e2,e3,e4⟩:=hs.locs m hm;exact ⟨g,cs,(hold m.s (hΛ' hi k m hm).2.1).trans e1,.inr ⟨h.lo g e2,.inr ⟨(λ hm2=>by
      rcases qp.1 hm2 with hm2|hm2
      ·exact hdis m.s (by have:=qf.1 (hsl hi k) m hm;simpa using this) g (by rw [e1];exact m.H.ok g) hm2
      ·have h8:=hlt' m.s (by have:=qf.1 (hsl hi k) m hm;simpa using this) g (by rw [e1];exact m.H.ok g);have h9:=(v5.1 hm2).1;omega),_,_,_,e3,(hΛ' hi k m hm).2.2⟩⟩,e3,e4⟩
    ·rw [hold m.s (hΛ' hi k m hm).2.1,hold m'.s (hΛ' hi k m' hm').2.1];exact hs.dis m hm m' hm' hne
   have hasg:=hround (w.heap.size+1) W1.heap.size hi k _ W hkM hlo hgr.size hhi hBW hcc hst1;rw [← hzip] at hasg;refine wpIn_mono hasg ?_;rintro e a2 W2 hq;cases e with
   | normal =>
    obtain ⟨hk2,hbody⟩:=hq;have hnF:∀ {j:Nat}{o:Obj},W.heap[j]?=some o→o.isCells=false→¬ (rndB B Db (gb++List.range' W1.heap.size (hi-W1.heap.size)) W W).F j:=λ {j o} hj ho hF=>by
     rcases hF.2 with h4|⟨_,c,T,fz,h4,_⟩
     ·have:=(Array.getElem?_eq_some_iff.1 hj).1;omega
     ·rw [hj] at h4;injection h4 with h4;subst h4;cases ho
    have hl2:W2.heap[w.heap.size+1]?=some (.loop (rec .ready none)):=(hk2.block _ hlt (hnF hl rfl)).trans hl;have hlt2:=(Array.getElem?_eq_some_iff.1 hl2).1;refine ⟨_,run_beginRound hl2 (by rw [hrec]),?_⟩;obtain ⟨W3,hW3⟩:∃ W3,W2.putObj (w.heap.size+1) (.loop { rec .ready none with state:=.busy })=W3:=⟨_,rfl⟩;rw [hW3];have hl3:W3.heap[w.heap.size+1]?=some (.loop { rec .ready none with state:=.busy }):=by rw [← hW3];exact World.putObj_heap_same hlt2
    have hc0:∀ j,j<W.heap.size→j≠w.heap.size+1→¬ (rndB B Db (gb++List.range' W1.heap.size (hi-W1.heap.size)) W W3).F j→W3.heap[j]?=W.heap[j]?:=λ j hj hne hF=>by rw [← hW3];exact (World.putObj_heap_other hne).trans (hk2.block j hj hF)
    have hsz3:W.heap.size≤W3.heap.size:=by rw [← hW3,World.putObj_size];exact hk2.size
    have ho3:W3.os=W.os∧W3.tape=W.tape∧W3.output=W.output:=by rw [← hW3];exact ⟨hk2.os,hk2.tape,hk2.output⟩
    refine wpIn_mono (hbody W3 ⟨_,_,hl2,hW3.symm⟩) ?_;rintro e a3 W4 hp;have fin:∀ {L:List Lc} (jump:Option Code),REnd B N (rndB B Db (gb++List.range' W1.heap.size (hi-W1.heap.size)) W W3) a L a3 W4→∃ W5,(Instr.endRound (w.heap.size+1) jump).run P W4=.ok (.bool jump.isNone) W5∧St B w0 N Γ L a W5∧W5.heap[w.heap.size+1]?=some (.loop (rec (if jump.isNone then .ready else .done) jump))∧W5.heap[w.heap.size]?=some (.deferred (some []))∧(jump=none→Stp B Db (gb++List.range' W1.heap.size (hi-W1.heap.size)) W W5)∧CellsT (caps.map xe) gb W5∧W.heap.size≤W5.heap.size∧(∀ D:Nat,W.heap[D]?=some (.deferred (some []))→W5.heap[D]?=some (.deferred (some []))):=λ {L} jump hr=>by
     obtain ⟨b1,b2,b3,b4,b5,b6,b7,b8⟩:=back hi k _ (if jump.isNone then .ready else .done) jump hs hl hd hc0 hsz3 ho3 hl3 hr
     have hrun:=run_endRound (P:=P) jump b1;refine ⟨_,?_,b2,b3,b4,(λ e=>b5 (by rw [e];rfl) e),(λ g hg=>?_),b7,b8⟩
     rotate_left
     ·obtain ⟨c,T,fz,h5,h6⟩:=hcc g hg;exact ⟨c,T,fz,(b6 g hg (Array.getElem?_eq_some_iff.1 h5).1 (hgl g hg)).trans h5,h6⟩
     rw [hrun,hrec]
    cases e with
    | normal =>
     obtain ⟨hci,hr⟩:=hp;obtain ⟨W5,f1,f2,f3,f4,f5,f6,f7,_⟩:=fin none hr;exact ⟨_,_,f1,.inl ⟨rfl,⟨⟨⟨f2,f3,f4⟩,hci,qg hhi f7⟩,f6⟩,f5 rfl⟩⟩
    | ret =>
     obtain ⟨L,hL,hr⟩:=hp;obtain ⟨W5,f1,f2,f3,f4,_,f6,f7,f8⟩:=fin (some .ret) hr;exact ⟨_,_,f1,.inr ⟨rfl,⟨⟨.ret,.inl ⟨rfl,L,hL,f2⟩,f3,f4⟩,f6⟩,f7,f8⟩⟩
    | exit id =>
     obtain ⟨L,hL,hr⟩:=hp;obtain ⟨W5,f1,f2,f3,f4,_,f6,f7,f8⟩:=fin (some (.exit id)) hr;exact ⟨_,_,f1,.inr ⟨rfl,⟨⟨.exit id,.inr ⟨id,L,rfl,hL,f2⟩,f3,f4⟩,f6⟩,f7,f8⟩⟩
    | goto t=>exact hp.elim
    | panic ch=>exact hp.elim
    | outgrown=>exact hp.elim
   | exit id=>exact hq.elim
   | goto t=>exact hq.elim
   | ret=>exact hq.elim
   | panic ch=>exact hq.elim
   | outgrown=>exact hq.elim
  ·have fin:∀ {L:List Lc}{W:World}{st:LoopState}{pe:Option Code},st≠.busy→St B w0 N Γ L a W→W.heap[w.heap.size+1]?=some (.loop (rec st pe))→W.heap[w.heap.size]?=some (.deferred (some []))→∃ W',(Instr.endLoop (w.heap.size+1)).run P W=.ok pe W'∧St B w0 N Γ L { a with defers:=[mark w.heap.size]++a.defers } W':=λ {L W st pe} U hs hl hd=>by
    have hrun:=run_endLoop (P:=P) hl (by rw [hrec];exact U);have hpe:(rec st pe).pending=pe:=by rw [hrec]
    refine ⟨W.putObj (w.heap.size+1) (.loop { rec st pe with state:=.exhausted }),hrun.trans (qq (λ x=>Result.ok x _) hpe),?_⟩;have h5:=hs.put (o':=.loop { rec st pe with state:=.exhausted }) hl rfl (by simp) zo;refine ⟨h5.lo,⟨λ d hd'=>?_,?_,λ hn=>by rw [hN0] at hn;cases hn⟩,h5.size,h5.base,h5.vals,h5.locs,h5.dis⟩
    ·rcases qt.1 hd' with rfl|hd'
     ·exact ⟨_,rfl,.inl hws,(World.putObj_heap_other zo).trans hd⟩
     ·exact h5.defers.all d hd'
    ·refine jr.2 ⟨λ hm=>?_,h5.defers.nodup⟩;obtain ⟨D,e1,_,e3⟩:=h.defers.all _ hm;have e1':w.heap.size=D:=by
      have:=qq Deferred.target e1;simpa using this
     rw [← e1'] at e3;have:=(Array.getElem?_eq_some_iff.1 e3).1;omega
   rintro e W ⟨v,rfl,(⟨hi,⟨⟨hs,hl,hd⟩,_⟩,_⟩|⟨⟨c,hc,hl,hd⟩,_⟩)⟩
   ·obtain ⟨W',f1,f2⟩:=fin (by simp) hs hl hd;exact ⟨none,W',f1,hdone _ _ _ f2⟩
   ·rcases hc with ⟨rfl,L,hL,hs⟩|⟨id,L,rfl,hL,hs⟩
    ·obtain ⟨W',f1,f2⟩:=fin (by simp) hs hl hd;exact ⟨some .ret,W',f1,wpIn_ret (hret L hL _ _ f2)⟩
    ·obtain ⟨W',f1,f2⟩:=fin (by simp) hs hl hd;exact ⟨some (.exit id),W',f1,wpIn_exit (hexit id L hL _ _ f2)⟩
end
def kdB (B lo hi:Nat)(Tp Db:List TypeId)(gs:List Nat)(W:World):Bs:=⟨W,λ k=>k∈gs∨(lo≤k∧k<hi∧∃ c T fz,W.heap[k]?=some (.cells c T fz)∧T∈Tp)∨(B≤k∧∃ c T fz,W.heap[k]?=some (.cells c T fz)∧T∈Db),true⟩
abbrev KD (B lo hi:Nat)(Tp Db:List TypeId)(gs:List Nat)(W W':World):Prop:=Kept (kdB B lo hi Tp Db gs W) W'
theorem CE {B lo hi:Nat}{Tp Db:Yp}{gs:Ya}{W:Yi}:KD B lo hi Tp Db gs W W:=Kept.refl _
theorem CG {B lo hi:Nat}{Tp Db:Yp}{gs:Ya}{W W' W'':Yi}(h:KD B lo hi Tp Db gs W W')(hg:Grow W' W''):KD B lo hi Tp Db gs W W'':=h.grow hg
theorem CD {B lo hi:Nat}{Tp Db:Yp}{gs:Ya}{W W':Yi}(h:StpV lo hi Tp gs W W'):KD B lo hi Tp Db gs W W' :=
 ⟨h.os,h.tape,h.output,h.size,λ k hk hf=>h.block k hk λ hF=>hf (by
  rcases hF with hF|hF
  ·exact .inl hF
  ·exact .inr (.inl hF))⟩
theorem VA.kd {A:VA}{B lo hi:Nat}{Tp Db Tc:Yp}{gs:Ya}{W W':Yi}(hp:A.p B v W)(h:KD B lo hi Tp Db gs W W')(hlo:B≤lo)(hc:CellsT Tc gs W)(hb:∀ g∈gs,B≤g)(hD:offD (Tc++Tp++Db) A.deps=true):A.p B v W':=by
 have hD:=fL hD;refine VA.many (gs++(List.range W.heap.size).filter λ k=>match (W.heap[k]?:Option Obj) with|some (Obj.cells _ T _)=>(Tp++Db).contains T&&decide (B≤k) | _=>false) hp h.os h.tape h.output h.size (λ k c T fz hk hn=>?_) (λ g hg=>?_)
 ·have hin:∀ T',(∃ c T fz,W.heap[k]?=some (.cells c T fz)∧T=T')→T'∈Tp++Db→B≤k→k∈gs++(List.range W.heap.size).filter λ k=>match (W.heap[k]?:Option Obj) with|some (Obj.cells _ T _)=>(Tp++Db).contains T&&decide (B≤k) | _=>false:=λ T' ⟨c',T'',fz',h3,e⟩ hT hB=>by
   refine qp.2 (.inr (z5.2 ⟨by simpa using (Array.getElem?_eq_some_iff.1 hk).1,?_⟩));rw [h3];subst e;simp only [qm,qC,qJ];exact ⟨hT,hB⟩
  refine h.block k (Array.getElem?_eq_some_iff.1 hk).1 λ hF=>hn ?_;rcases hF with hF|⟨h1,h2,c',T',fz',h3,h4⟩|⟨h1,c',T',fz',h3,h4⟩
  ·exact qp.2 (.inl hF)
  ·exact hin T' ⟨c',T',fz',h3,rfl⟩ (qp.2 (.inl h4)) (qg hlo h1)
  ·exact hin T' ⟨c',T',fz',h3,rfl⟩ (qp.2 (.inr h4)) h1
 ·rcases qp.1 hg with hg|hg
  ·obtain ⟨c,T,fz,h1,h2⟩:=hc g hg;exact ⟨hb g hg,c,T,fz,h1,hD T (qp.2 (.inl (qp.2 (.inl h2))))⟩
  ·obtain ⟨_,h2⟩:=z5.1 hg;split at h2
   ·rename_i c T fz h3;simp only [qm,qC,qJ,qp] at h2;refine ⟨h2.2,c,T,fz,h3,hD T ?_⟩;rcases h2.1 with h4|h4
    ·exact qp.2 (.inl (qp.2 (.inr h4)))
    ·exact qp.2 (.inr h4)
   ·cases h2
def bo (W:World):Bs:=⟨W,λ _=>False,true⟩
theorem St.anew {B lo hi N:Nat}{a a':Act}{W W':Yi}{Tp Db Tc:Yp}{gs:Ya}(src:Ya)(h:St B w0 N Γ Λ a W)(hnd:w0.nd=true)(hk:KD B lo hi Tp Db gs W W')(hlo:B≤lo)(hc:CellsT Tc gs W)(hb:∀ g∈gs,B≤g)
  (hsrc:src.all (λ k=>match Γ[k]? with|some y=>offD (Tc++Tp++Db) y.2.deps|none=>false)=true) (ha:∀ k∈src,∀ y,Γ[k]?=some y→a'.eval (.tmp y.1)=a.eval (.tmp y.1)) (hd:a'.defers=a.defers) (hs:a'.tmps.size=a.tmps.size):St B (bo W') N (src.filterMap λ k=>Γ[k]?) [] a' W':=by
 have hBW:B≤W.heap.size:=qg (h.lo _ (.inl (qj _))) h.base.size;refine ⟨λ g hg=>?_,DefOk.nil (hd.trans (h.defers.none hnd)),hs.trans h.size,Kept.refl _,λ x hx=>?_,(λ _ h=>by cases h),(λ _ h=>by cases h)⟩
 ·rcases hg with hg|hg
  ·exact qg hBW (qg hk.size hg)
  ·exact hg.elim
 ·obtain ⟨k,hk1,hk2⟩:=qS.1 hx;have hs':=qf.1 hsrc k hk1;rw [hk2] at hs';rw [ha k hk1 x hk2];exact VA.kd (h.vals x (qa hk2)) hk hlo hc hb hs'
section
variable {P:Program}{Q:Exit→Act→World→Prop}{ops:Array Oper}{i:Nat}{K:Act→World→Prop}{a:Act}{w:World}
theorem uB {d c : Nat}{f : Ym}{xs : Yr}{gs : Yl}{at_ : Yq}{T : Yh}{ps : Yv}{af : Yw}{R : Ending→Yi→Prop} (ho : ops[i]? = some ⟨some d, .call ⟨.value (.tmp c), xs.toArray, at_⟩, T, ps, af, none⟩) (hex : ∃ fn, P.funcs[f]? = some fn∧(fn.name == "runtime.NumGoroutine")=false∧fn.body.isNone=false)
  (hv:a.eval (.tmp c)=.func (.func f) #[] gs.toArray) (hc:Calls P f (xs.map a.eval++gs).toArray w R) (hK:∀ e w',R e w'→∃ v,e=.returned v∧K (a.put (some d) v) w'):wpOp P ops Q i K a w:=by
 obtain ⟨fn,hf,hn,hb⟩:=hex;have hrun:(execOp a.eval ⟨some d,.call ⟨.value (.tmp c),xs.toArray,at_⟩,T,ps,af,none⟩).run P w=.ok (.enter f (xs.map a.eval++gs).toArray) w:=by
  simp only [execOp,resolve,hv,Deferred.ofValue,Sem.run_bind,Sem.run_pure,Result.andThen_ok,invoke,bi hf hn hb];simp
 unfold wpOp;simp only [ho,Region.wanted,if_true];refine .inl ?_;unfold Oper.wp;rw [hrun];exact hc.mono λ e w' hr=>by
  obtain ⟨v,rfl,hk⟩:=hK e w' hr;exact hk
end
section
open Rg
variable {P:Program}{Q:Exit→Act→World→Prop}{B N:Nat}{w0:Bs}{Γ:List (Nat × VA)}{Λ:List Lc}{a:Act}{w:World}
theorem FB {id:Nat}{ops:Yg}{sp:Yu}(n m e j:Nat)(A:As)(src:List Src)
  (hnd:fM ops=true) (hQ0:¬ LetsOut Q) (h:St B w0 N Γ Λ a w) (hob:Obs P Q ⟨ops,N,Γ,lesS Λ e j A,sp,λ i=>List.range i⟩ B w0 0 n) (hsz:ops.size=n+m) (hj:n≤j) (hk:Rg.chk ⟨ops,N,Γ,lesS Λ e j A,sp,λ i=>List.range i⟩=true)
  (hsrc:src.all (λ s=>match s with | .g k=>(match Γ[k]? with|some x=>Rg.outG ⟨ops,N,Γ,lesS Λ e j A,sp,λ i=>List.range i⟩ x.1|none=>false) | .o i=>decide (i<n))=true)
  (hQ:∀ a' w',St B w0 N (src.filterMap (cC ⟨ops,N,Γ,lesS Λ e j A,sp,λ i=>List.range i⟩)) Λ a' w'→wpOpsIn (fw none) 0 P ops Q (List.range' n m) a' w'):(Code.region id ops false).wpIn (fw none) 0 P Q a w:=by
 refine Rg.linKF (R:=⟨ops,N,Γ,lesS Λ e j A,sp,λ i=>List.range i⟩) (m:=m) hnd hQ0 hsz G hk h (λ y hy _=>?_) (λ i hi=>hob.all i zo zo) λ a1 w1 hinv=>?_
 ·exact (ek y hy).2.1
 ·exact hQ a1 w1 (ln (λ l' hl'=>by
   obtain ⟨j',hj'⟩:=List.getElem?_of_mem hl';exact ⟨_,qr.2 ⟨(l',j'),zp.2 hj',rfl⟩⟩) (λ y hy i B' h1=>by have:=(ek y hy).2.2 i B' h1;omega) hinv src hsrc)
theorem C0 {ops:Yg}{i d c l:Nat}{xs:Yr}{at_:Yq}{K:Ye}{R:Ending→Yi→Prop}(ho:ops[i]?=some ⟨some d,.call ⟨.value (.tmp c),xs.toArray,at_⟩,T,ps,af,none⟩)
  (hv:a.eval (.tmp c)=.func (.yield l) #[] #[]) (hy:YieldAt Fence.wide 0 P l (xs.map a.eval).toArray w R) (hK:∀ e w',R e w'→∃ v,e=.returned v∧K (a.put (some d) v) w'):wpOpIn (fw none) 0 P ops Q i K a w:=by
 obtain ⟨fn,tmps,assign,body,hy,hR⟩:=hy;have hrun:(execOp a.eval ⟨some d,.call ⟨.value (.tmp c),xs.toArray,at_⟩,T,ps,af,none⟩).run P w=.ok (.round l fn tmps assign body) w:=by
  have hy':(Instr.yield l (xs.map a.eval).toArray).run P w=.ok (.round l fn tmps assign body) w:=hy;simp only [execOp,resolve,hv,Deferred.ofValue,Sem.run_bind,Sem.run_pure,Result.andThen_ok,invoke];simpa using hy'
 have hwant:Region.wanted (⟨some d,.call ⟨.value (.tmp c),xs.toArray,at_⟩,T,ps,af,none⟩:Oper) (yielded ops a.tmps)=true:=rfl
 unfold wpOpIn;rw [ho];simp only [hwant,if_true];refine ⟨λ _ _=>trivial,?_⟩;rw [show Oper.semAt (fw none).round a.eval _=execOp a.eval _ from rfl,hrun];refine ⟨λ hh=>(by cases hh),?_⟩;refine RoundIn.mono hR ?_;intro e w' hr;obtain ⟨v,rfl,hk⟩:=hK e w' hr;exact hk
theorem C2 {ops:Yg}{i e d:Nat}{K:Ye}{b:Bool}(ho:ops[i]?=some ⟨some e,.assign (.tmp d),T,ps,af,none⟩)(hv:a.eval (.tmp d)=.bool b)(hK:K (a.put (some e) (.bool b)) w):wpOpIn (fw none) 0 P ops Q i K a w:=by
 have hwant:Region.wanted (⟨some e,.assign (.tmp d),T,ps,af,none⟩:Oper) (yielded ops a.tmps)=true:=rfl;unfold wpOpIn;rw [ho];simp only [hwant,if_true];refine ⟨λ _ _=>trivial,?_⟩;rw [show Oper.semAt (fw none).round a.eval _=execOp a.eval _ from rfl,P2 a w b hv];exact hK
theorem Ih {c:Code}(h:c.wpIn (fw none) 0 P Q a w):c.wp P Q a w:=wpIn_wide.1 h
end
def PkR (E:TypeId)(hp:Nat)(w:World)(q:List Int):Prop:=w.heap[hp]?=some (.cells (q.map λ (n:Int)=>Value.int .i64 n).toArray E (0,0))
theorem sz {lo hi g:Nat}{Tp:Yp}{gs:Ya}{c:Array Yn}{fz:Nat × Nat}(h:Wr g w w')(hg:w.heap[g]?=some (.cells c T fz))(h1:lo≤g)(h2:g<hi)(hT:T∈Tp):StpV lo hi Tp gs w w' :=
 ⟨h.os,h.tape,h.output,xC h.size.symm,λ k hk hf=>h.block k λ e=>hf (by subst e;exact .inr ⟨h1,h2,c,T,fz,hg,hT⟩)⟩
section
variable {P:Program}{Q:Exit→Act→World→Prop}{ops:Array Oper}{i:Nat}{K:Act→World→Prop}{a:Act}{w:World}
theorem JE {p d hp j:Nat}{k:Int}{E ty T':Yh}{q:Yk}(ho:ops[i]?=some ⟨none,.store ty (.tmp p) (.tmp d),T',ps,af,none⟩)(hpv:a.eval (.tmp p)=.pointer (some ⟨hp,j,none⟩))(hdv:a.eval (.tmp d)=.int .i64 k)
  (hq:PkR E hp w q) (hj:j<q.length) (ht:Ty P ty 1 false) (hK:∀ w',PkR E hp w' (q.set j k)→Wr hp w w'→K (a.put none undef) w'):wpOp P ops Q i K a w:=by
 unfold PkR at hq;have hrun:=bW ht w hp j E (q.map λ (n:Int)=>Value.int .i64 n).toArray (.int .i64 k) [.int .i64 k] rfl rfl (by simp;omega) (by intro x hx;simp at hx;subst hx;rfl) hq;have e3:(((q.map λ (n:Int)=>Value.int .i64 n).take j)++[Value.int .i64 k]++((q.map λ (n:Int)=>Value.int .i64 n).drop (j+1)))=(q.set j k).map λ (n:Int)=>Value.int .i64 n:=by
  rw [List.map_set,xz,qD (by simpa using hj)];simp
 simp only [e3] at hrun;unfold wpOp;simp only [ho,Region.wanted,if_true];refine .inl (wp_skip' (w':=w.setRow hp ((q.set j k).map λ (n:Int)=>Value.int .i64 n).toArray) ?_ (hK _ ?_ (Wr.setRow w hp _)))
 ·simp [execOp,hpv,hdv,Instr.storeAt,Instr.sureAddr,hrun]
 ·exact setRow_heap w hp _ _ _ _ hq
end
structure DnE where
 l:Nat
 B:Nat
 lo:Nat
 hi:Nat
 hp:Nat
 n:Nat
 gT:Nat
 gP:Nat
 gY:Nat
 gA:Nat
 gD:Nat
 t:RTk
 ah:List Nat
 Db:List TypeId
 gs:List Nat
 M:Nat
 J:Nat→World→Prop
 Jx:World→Prop
def DnE.cap (e:DnE):List Value:=[ptr e.gT,ptr e.gP,ptr e.gY,ptr e.gA,ptr e.gD]
def DnE.pk (e:DnE)(k:Nat):List Nat:=exW e.t.ps.length e.ah e.n 0 k
def dnK (i:Nat):Nat:=1+4097*(2*i)
def DnE.F (e:DnE)(w:World):Prop :=
 (ElP 30 (TkO e.t)).p e.B (ptr e.gT) w∧(ElP 31 (EqA (.slice (some ⟨e.hp,0,none⟩) e.n e.n))).p e.B (ptr e.gP) w∧(ElP 121 (EqA (.func (.yield e.l) #[] #[]))).p e.B (ptr e.gY) w ∧
  (ElP 31 (SlO 3 [] (e.ah.map λ (k:Nat)=>InA (k:Int)) True)).p e.B (ptr e.gA) w∧(ElP 122 (EqA (.func (.func 117) #[] e.cap.toArray))).p e.B (ptr e.gD) w
def DnE.Y (e:DnE)(k:Nat):List VA:=[(WyA (dnK (e.n+2)+4200) (wayW e.t (e.pk k))).va]
structure DnE.Ok (e:DnE):Prop where
 lo:e.B≤e.lo
 gs:∀ g∈e.gs,e.B≤g
 hp:e.lo≤e.hp∧e.hp<e.hi
 ck:ckF e.t=0
 n:e.t.sp.length=e.n+1
 ah:e.ah.length≤e.n∧∀ x∈e.ah,x<e.t.ps.length
 M:e.M=cntW e.t.ps.length e.ah.length e.n 0
 Db:offD e.Db [30,31,121,122,U32,28,124]=true
 st:∀ k W W',k<e.M→e.J k W→StpV e.lo e.hi [3] e.gs W W'→CellsT [30,31] e.gs W'→e.J k W'
 stM:∀ W W',e.J e.M W→StpI e.gs W W'→CellsT [30,31] e.gs W'→e.J e.M W'
 stx:∀ W W',e.Jx W→StpI e.gs W W'→CellsT [30,31] e.gs W'→e.Jx W'
 ct:∀ k W,e.J k W→CellsT [30,31] e.gs W
 ctx:∀ W,e.Jx W→CellsT [30,31] e.gs W
 yd:∀ k W args,k<e.M→e.J k W→All2 (λ (A:VA) v=>A.p e.B v W) (e.Y k) args→YieldAt Fence.wide 0 Tryz.prog e.l args.toArray W λ x W'=>(x=.returned (.bool true)∧e.J (k+1) W'∧Stp e.B e.Db (e.gs++List.range' e.lo (e.hi-e.lo)) W W') ∨
  (x=.returned (.bool false)∧e.Jx W'∧W.heap.size≤W'.heap.size∧∀ D:Nat,W.heap[D]?=some (.deferred (some []))→W'.heap[D]?=some (.deferred (some [])))
def DnC (e:DnE)(f i:Nat):Prop:=∀ (pre:List Nat) (k:Nat) (w:World) (q:List Int) (vr:Value),pre.length=i→i+f=e.n→(∀ x∈pre,x<e.t.ps.length) →
 (∀ r,r<cntW e.t.ps.length e.ah.length f i→e.pk (k+r)=pre++exW e.t.ps.length e.ah f i r)→k+cntW e.t.ps.length e.ah.length f i≤e.M→e.J k w→e.F w→PkR 3 e.hp w q→q.length=e.n→q.take i=pre.map (λ (x:Nat)=>(x:Int)) →
 (CoA (dnK i) (ei (benP e.t pre))).va.p e.B vr w →
 Calls Tryz.prog 117 ([.int .i64 (i:Nat),.int .i64 (cosW e.t pre),vr]++e.cap).toArray w λ x w' =>
  (x=.returned (.bool true)∧e.J (k+cntW e.t.ps.length e.ah.length f i) w'∧KD e.B e.lo e.hi [3] e.Db [] w w'∧∃ q',PkR 3 e.hp w' q'∧q'.length=e.n∧q'.take i=q.take i)∨(x=.returned (.bool false)∧e.Jx w'∧w.heap.size≤w'.heap.size)
theorem DnE.F.kd {e:DnE}(ok:e.Ok){w w':Yi}(h:e.F w)(hk:KD e.B e.lo e.hi [3] e.Db [] w w'):e.F w':=by
 obtain ⟨h1,h2,h3,h4,h5⟩:=h;have hD:∀ T∈e.Db,T ∉ [30,31,121,122,U32,28,124]:=fL ok.Db;have key:∀ {deps:List TypeId},deps.all (λ T=>[30,31,121,122,U32,28,124].contains T)=true→offD ([]++[3]++e.Db) deps=true:=λ {deps} hd=>qf.2 λ T hT=>by
  have hd':=qf.1 hd T hT;have hm:T∈[30,31,121,122,U32,28,124]:=by simpa using hd'
  have hn:T ∉ []++[3]++e.Db:=λ hh=>by
   rcases qp.1 hh with hh|hh
   ·have:T=3:=by simpa using hh
    subst this;exact absurd hm zd
   ·refine hD T hh ?_;simp only [qt,zw,or_false] at hm ⊢;rcases hm with h|h|h|h|h|h|h <;> simp [h]
  simpa using hn
 have hv:=λ {A:VA}{v:Value} (hp:A.p e.B v w) (hd:A.deps.all (λ T=>[30,31,121,122,U32,28,124].contains T)=true)=>VA.kd (Tc:=[]) hp hk ok.lo (λ g hg=>by cases hg) (λ g hg=>by cases hg) (key hd);exact ⟨hv h1 zk,hv h2 zk,hv h3 zk,hv h4 zk,hv h5 zk⟩
theorem O9 (h:(benP t l).all elF=true):RepM (1+4097*(benP t l).length) (ei (benP t l)):=by
 have:=oN h (benP t l).length (qj _);rwa [qI] at this
theorem y7 (t:RTk):∀ l:Ya,(benP t l).length=2*l.length:=λ l=>by
 unfold benP;rw [List.length_flatMap];have h:∀ m:Nat,((List.range m).map λ _=>2).sum=2*m:=λ m=>by
  induction m with
  | zero=>rfl
  | succ m ih=>rw [List.range_succ,zD,wq,ih];simp;omega
 exact h l.length
theorem fj {B lo hi:Nat}{Tp Db:Yp}{gs:Ya}{W W' W'':Yi}(h:KD B lo hi Tp Db gs W W')(h':KD B lo hi Tp Db gs W' W''):KD B lo hi Tp Db gs W W'':=by
 refine ⟨h'.os.trans h.os,h'.tape.trans h.tape,h'.output.trans h.output,qg h.size h'.size,λ k hk hf=>?_⟩;have hk1:k<W.heap.size:=hk;have e1:W'.heap[k]?=W.heap[k]?:=h.block k hk hf;refine (h'.block k (qE hk1 h.size) λ hF=>hf ?_).trans e1;rcases hF with hF|⟨h1,h2,c,T,fz,h3,h4⟩|⟨h1,c,T,fz,h3,h4⟩
 ·exact .inl hF
 ·exact .inr (.inl ⟨h1,h2,c,T,fz,e1.symm.trans h3,h4⟩)
 ·exact .inr (.inr ⟨h1,c,T,fz,e1.symm.trans h3,h4⟩)
theorem St.entry {B N:Nat}{pre:Yc}{args:Yl}(hB:B≤w.heap.size)(ha:All2 (λ (A:VA) v=>A.p B v w) pre args)(hn:pre.length≤N):St B (bo w) N (argΓ pre) [] { tmps:=args.toArray++Array.replicate (N-args.toArray.size) undef,defers:=[] } w:=by
 have hl:=ha.length;refine ⟨λ g hg=>qg hB (hg.resolve_right λ h=>h),DefOk.nil rfl,?_,Kept.refl _,All2.args ha,(λ l hl=>by cases hl),(λ l hl=>by cases hl)⟩;simp only [xj,z9,qP];omega
theorem dn_s {e:DnE}(ok:e.Ok)(hi:i≤e.n):∃ h:i<e.t.sp.length,okX e.t.sp[i]=true∧elF (spE e.t.sp[i])=true:=by
 have hlt:i<e.t.sp.length:=by rw [ok.n];omega
 refine ⟨hlt,?_⟩;have hc:=ok.ck;unfold ckF at hc;have h0:hdF e.t=false:=by
  by_cases h:hdF e.t=true
  ·rw [qD h] at hc;exact absurd hc zd
  ·exact xS.2 h
 rw [qA (by rw [h0];decide)] at hc;have h1:e.t.sp.all spcF=true:=by
  by_cases h:e.t.sp.all spcF=true
  ·exact h
  ·rw [qD (by rw [xS.2 h];rfl)] at hc;exact absurd hc zd
 have h2:=qf.1 h1 _ (qh hlt);unfold spcF at h2;simp only [qz,qO,qn] at h2;have h3:okX e.t.sp[i]=true:=by
  by_cases h:okX e.t.sp[i]=true
  ·exact h
  ·have:=h2.1;rw [qA h] at this;exact absurd this zd
 refine ⟨h3,?_⟩;unfold elF spE;rw [qm];refine ⟨?_,?_⟩
 ·simp only [xI,xR,xK,qm];exact ⟨h3,by kernel_rfl⟩
 ·show elK 1 _ _=true;rw [kd1 (by rfl)];rw [qm];refine ⟨qH (show (toQ e.t.sp[i]).num.sign≥0 from by have:=h2.2;omega),by kernel_rfl⟩
theorem ft (h:ckF t=0):hdF t=false∧t.sp.all spcF=true∧t.ps.all ptF=true:=by
 unfold ckF at h;by_cases h0:hdF t=true
 ·rw [qD h0] at h;exact absurd h zd
 ·rw [qA h0] at h;by_cases h1:t.sp.all spcF=true
  ·rw [qA (by rw [h1];decide)] at h;by_cases h2:t.ps.all ptF=true
   ·exact ⟨xS.2 h0,h1,h2⟩
   ·rw [qD (by rw [xS.2 h2];rfl)] at h;exact absurd h zd
  ·rw [qD (by rw [xS.2 h1];rfl)] at h;exact absurd h zd
theorem dn_p (h:ckF t=0)(hx:x<t.ps.length):elF (t.ps.getD x ⟨⟨#[]⟩,⟨0,rf0,rf0⟩,0⟩).e=true:=by
 have h1:=qf.1 (ft h).2.2 _ (qh hx);unfold ptF at h1;simp only [qz,qO] at h1;have h2:chF [t.ps[x].e]=0:=by simpa using h1.1.1.2
 have h3:=(QR h2).2;rw [show t.ps.getD x ⟨⟨#[]⟩,⟨0,rf0,rf0⟩,0⟩=t.ps[x] from by simp [List.getD,hx]];simpa using h3
theorem Oa {e:DnE}(ok:e.Ok){l:Ya}(hl:l.length≤e.n)(hp:∀ x∈l,x<e.t.ps.length):(benP e.t l).all elF=true:=by
 rw [qf];intro y hy;unfold benP at hy;obtain ⟨i,hi,hy⟩:=jD.1 hy;have hi':i<l.length:=jS.1 hi;simp only [qt,zw,or_false] at hy;rcases hy with rfl|rfl
 ·obtain ⟨hlt,_,h⟩:=dn_s ok (i:=i) zo;rw [show e.t.sp.getD i rf0=e.t.sp[i] from by simp [List.getD,hlt]];exact h
 ·refine dn_p ok.ck ?_;rw [show l.getD i 0=l[i] from by simp [List.getD,hi']];exact hp _ (qh hi')
theorem dn_m {e:DnE}(ok:e.Ok){l:Ya}(hl:l.length≤e.n)(hp:∀ x∈l,x<e.t.ps.length):RepM (dnK l.length) (ei (benP e.t l)):=by
 have h:=O9 (Oa ok hl hp);rw [y7] at h;exact h
theorem dn_n {e:DnE}(ok:e.Ok):1≤e.n∧e.n≤12:=by
 have:=hd_b (ft ok.ck).1;have:=ok.n;omega
theorem dn_K {e:DnE}(ok:e.Ok)(hi:i≤e.n):dnK i≤200000:=by
 have:=(dn_n ok).2;unfold dnK;omega
theorem eZ:Str Tryz.prog 82 [EqA (.slice none 0 0),RFA rf0,RFA rf0,NumA .i64 0] :=
 Str.of (z:=.agg #[.slice none 0 0,.bool false,.slice none 0 0,.bool false,.slice none 0 0,.bool false,.slice none 0 0,.bool false,.slice none 0 0,.int .i64 0]) zk Tryz.underlying82 zk λ B w=>⟨[[.slice none 0 0],[.bool false,.slice none 0 0,.bool false,.slice none 0 0],[.bool false,.slice none 0 0,.bool false,.slice none 0 0],[.int .i64 0]],rfl,.cons ⟨rfl,rfl⟩ (.cons (f9 B w) (.cons (f9 B w) (.cons rfl .nil)))⟩
theorem GU (x:RF)(m:MQ):m.a+toQ x*m.c=(mulQ (elM (spE x)) m).a∧m.c=(mulQ (elM (spE x)) m).c:=by
 rw [Mk (x:=spE x) rfl];constructor
 ·show m.a+toQ x*m.c=1*m.a+toQ x*m.c;rw [jZ]
 ·show m.c=0*m.a+1*m.c;rw [vp,jZ,Rat.zero_add]
theorem nk {f:Ym}{fn:Func}{c:Code}{R:Ending→Yi→Prop}(pre:Yc){args:Yl}(hf:P.funcs[f]?=some fn)(hb:fn.body=some c)(hB:B≤w.heap.size)(ha:All2 (λ (A:VA) v=>A.p B v w) pre args)(hn:pre.length≤fn.ntmps)
  (h:∀ (w0:Bs) (a:Act),w0=bo w→St B w0 fn.ntmps (argΓ pre) [] a w→c.wp P (ce P fn R) a w):Calls P f args.toArray w R:=cm hf hb (h _ _ rfl (St.entry hB ha hn))
section
open Rg
variable {P:Program}{Q:Exit→Act→World→Prop}{R:Rg}{B i:Nat}{w0:Bs}
theorem MU {S E':Yh}{n c:Nat}(hS:P.underlying S=some (.slice E'))(hx:Has R B w0 i x (EqA (.slice A n c)).va):Wv P Q R B w0 i (.call ⟨.builtin .len,#[x],#[S]⟩) (In (n:Nat)) :=
 bk λ d T ps af gd a w av=>by
  have hv':a.eval x=.slice A n c:=lM (hx a w av);refine ⟨.int .i64 n,w,?_,Grow.refl w,bV _ _ _ _⟩;simp [execOp,resolve,invoke,builtin,hv',Builtin.len_,run_underlying hS,goInt]
end
theorem CQ {lo hi:Nat}{Tp:Yp}{gs:Ya}(h:Grow w w'):StpV lo hi Tp gs w w':=⟨h.os,h.tape,h.output,h.size,λ k hk _=>h.block k hk⟩
theorem dk {gs:Ya}(h:Grow w w'):StpI gs w w':=⟨h.os,h.tape,h.output,h.size,λ k hk _=>h.block k hk⟩
theorem CellsT.grow {Tc:Yp}{gs:Ya}(h:CellsT Tc gs w)(hg:Grow w w'):CellsT Tc gs w':=λ g hm=>by
 obtain ⟨c,T,fz,h1,h2⟩:=h g hm;exact ⟨c,T,fz,hg.heap h1,h2⟩
theorem bI (h:Kept (bo w) w'):Grow w w':=⟨h.os,h.tape,h.output,h.size,λ k hk=>h.block k hk (λ h=>h)⟩
theorem CF {B lo hi:Nat}{Tp Db:Yp}{gs:Ya}(h:Grow w w'):KD B lo hi Tp Db gs w w':=CG CE h
theorem fa {E:Yh}{hp:Nat}{q:Yk}(h:PkR E hp w q)(hg:Grow w w'):PkR E hp w' q:=hg.heap h
theorem DnE.F.grow {e:DnE}{w w':Yi}(h:e.F w)(hg:Grow w w'):e.F w':=by
 obtain ⟨h1,h2,h3,h4,h5⟩:=h;exact ⟨VA.grow _ _ _ _ _ hg h1,VA.grow _ _ _ _ _ hg h2,VA.grow _ _ _ _ _ hg h3,VA.grow _ _ _ _ _ hg h4,VA.grow _ _ _ _ _ hg h5⟩
theorem DnE.Ok.grow {e:DnE}(ok:e.Ok){k:Nat}{w w':Yi}(hk:k≤e.M)(hJ:e.J k w)(hg:Grow w w'):e.J k w':=by
 have hc:=(ok.ct k w hJ).grow hg;by_cases h:k=e.M
 ·rw [h] at hJ ⊢;exact ok.stM _ _ hJ (dk hg) hc
 ·exact ok.st _ _ _ zo hJ (CQ hg) hc
theorem DnE.Ok.growx {e:DnE}(ok:e.Ok)(hJ:e.Jx w)(hg:Grow w w'):e.Jx w':=ok.stx _ _ hJ (dk hg) ((ok.ctx w hJ).grow hg)
def DnE.R (e:DnE)(f i k:Nat)(q:List Int)(w:World):Ending→World→Prop:=λ x w' =>
 (x=.returned (.bool true)∧e.J (k+cntW e.t.ps.length e.ah.length f i) w'∧KD e.B e.lo e.hi [3] e.Db [] w w'∧∃ q',PkR 3 e.hp w' q'∧q'.length=e.n∧q'.take i=q.take i)∨(x=.returned (.bool false)∧e.Jx w'∧w.heap.size≤w'.heap.size)
theorem DnE.R.grow {e:DnE}(ok:e.Ok){f i k:Nat}{q:Yk}{w:Yi}{x:Ending}{w1 w2:Yi}(hk:k+cntW e.t.ps.length e.ah.length f i≤e.M)(h:e.R f i k q w x w1)(hg:Grow w1 w2):e.R f i k q w x w2:=by
 rcases h with ⟨h1,h2,h3,q',h4,h5⟩|⟨h1,h2,h3⟩
 ·exact .inl ⟨h1,ok.grow hk h2 hg,CG h3 hg,q',fa h4 hg,h5⟩
 ·exact .inr ⟨h1,ok.growx h2 hg,qg h3 hg.size⟩
theorem St.bare {B N:Nat}(h:St B w0 N Γ Λ a w)(hnd:w0.nd=true)(hs:w.heap.size≤w'.heap.size):St B (bo w') N [] [] a w':=by
 have hBW:B≤w.heap.size:=qg (h.lo _ (.inl (qj _))) h.base.size;refine ⟨λ g hg=>?_,DefOk.nil (h.defers.none hnd),h.size,Kept.refl _,(λ _ h=>by cases h),(λ _ h=>by cases h),(λ _ h=>by cases h)⟩;rcases hg with hg|hg
 ·exact qg hBW (qg hs hg)
 ·exact hg.elim
theorem St.ofPtr {B N:Nat}(h:St B w0 N Γ Λ a w)(k:Nat)(hm:Λ[k]?=some ⟨s,T,ptrH,A⟩):St B w0 N ((s,ElP T A)::Γ) (Λ.eraseIdx k) a w:=by
 have hsub:∀ l'∈Λ.eraseIdx k,l'∈Λ:=λ l' hl'=>xT hl';refine ⟨h.lo,h.defers,h.size,h.base,λ x hx'=>?_,λ l' hl'=>h.locs l' (hsub l' hl'),λ l1 h1 l2 h2 hne=>h.dis l1 (hsub l1 h1) l2 (hsub l2 h2) hne⟩;rcases qt.1 hx' with rfl|hx'
 ·obtain ⟨g,cs,h1,_,h3,h4⟩:=h.locs _ (qa hm);refine ⟨g,0,cs,h1,(Array.getElem?_eq_some_iff.1 h3).1,.inr ⟨_,_,h3⟩,h4,λ j v hv=>?_⟩;rw [qV,cell_of_row w g j cs.toArray T _ h3];simpa using hv
 ·exact h.vals x hx'
theorem wJ {fn:Func}{R:Ending→Yi→Prop}{B N t:Nat}(hr:fn.results = #[.tmp t])(h:St B w0 N Γ Λ a w)(hnd:w0.nd=true)(hm:(t,Bo b)∈Γ)(hR:R (.returned (.bool b)) w)(hg:∀ x w1 w2,R x w1→Grow w1 w2→R x w2):ce P fn R .ret a w:=by
 refine ⟨[],h.defers.none hnd,.nil,(λ _ h=>by cases h),λ w' hs=>⟨_,results_tmp hr a.tmps P w',?_⟩⟩;have e:a.tmps.getD t undef=.bool b:=dS (h.vals _ hm);rw [e];exact hg _ _ _ hR ⟨hs.os,hs.tape,hs.output,xC hs.size.symm,λ k _=>hs.block k (by simp)⟩
theorem gy {B:Nat}{w:Yi}:∀ (ws:Yk),(cat (ws.map InA)).p B (ws.map λ (n:Int)=>Value.int .i64 n) w
 | []=>⟨[],rfl,.nil⟩
 | n::ws=>by
  obtain ⟨ps,h1,h2⟩:=gy (B:=B) (w:=w) ws;exact ⟨[.int .i64 n]::ps,by rw [qT,h1];rfl,.cons G h2⟩
theorem M5 {k k1 k2 B hp n:Nat}{ws:Yk}{p q:Rat}{c:Int}(h:(cat [EqA (.slice (some ⟨hp,0,none⟩) n n),QA k1 p,QA k2 q,NumA .i64 c]).va.p B v w)(hr:PkR 3 hp w ws)(hn:ws.length=n)(hm:n≤1000)(h1:WkA (QA k1 p) (QA k p))(h2:WkA (QA k2 q) (QA k q)):(WyA k ⟨ws,p,q,c⟩).va.p B v w:=by
 obtain ⟨cs,⟨ps,rfl,hps⟩,rfl⟩:=h;cases hps with
 | cons q1 hps =>
  cases hps with
  | cons q2 hps =>
   cases hps with
   | cons q3 hps =>
    refine ⟨_,⟨_,rfl,.cons ?_ (.cons (h1.2.2 _ _ _ q2) (.cons (h2.2.2 _ _ _ q3) hps))⟩,rfl⟩;obtain ⟨rfl,_⟩:=q1;refine ⟨λ A hA T hT=>?_,_,n,_,by rw [qd,hn],by rw [qd,hn];exact qj _,by unfold maxLen;omega,gy ws,λ _=>⟨hp,0,rfl,(Array.getElem?_eq_some_iff.1 hr).1,.inr ⟨_,_,hr⟩,λ j u hu=>?_⟩⟩
    ·obtain ⟨x,_,rfl⟩:=qr.1 hA;cases hT
    ·rw [qV,cell_of_row w hp j _ 3 _ hr];simpa using hu
theorem wR (h:ckF t=0):∀ {l:Ya},(∀ x∈l,x<t.ps.length)→0≤cosW t l∧cosW t l≤1073741824*(l.length:Int)
 | [],_=>by simp [cosW]
 | x::l,hp=>by
  obtain ⟨h1,h2⟩:=wR h (l:=l) λ y hy=>hp y (zx _ hy);have hx:x<t.ps.length:=hp x xx;have h3:=qf.1 (ft h).2.2 _ (qh hx);unfold ptF at h3;simp only [qz,qO,qn] at h3;have h4:cosW t (x::l)=t.ps[x].c+cosW t l:=by
   unfold cosW;rw [qT,xf,show t.ps.getD x ⟨⟨#[]⟩,⟨0,rf0,rf0⟩,0⟩=t.ps[x] from by simp [List.getD,hx]]
  rw [h4,zi];have:=h3.1.2;have:=h3.2;omega
def dnD (e:DnE)(f i j:Nat):Nat:=if i<e.ah.length then (if e.ah.getD i 0<j then cntW e.t.ps.length e.ah.length f (i+1) else 0) else j*cntW e.t.ps.length e.ah.length f (i+1)
theorem QI (e:DnE)(f i:Nat):dnD e f i 0=0:=by
 unfold dnD;split
 ·rw [qA zo]
 ·rw [jK]
theorem Dy {e:DnE}(ok:e.Ok)(f i:Nat):dnD e f i e.t.ps.length=cntW e.t.ps.length e.ah.length (f+1) i:=by
 unfold dnD;split
 ·rename_i h;rw [qD,tE h];rw [List.getD,List.getElem?_eq_getElem h];exact ok.ah.2 _ (qh h)
 ·rename_i h;rw [DG h]
theorem Gc {e:DnE}(h:i<e.ah.length)(h2:e.ah.getD i 0≠j):dnD e f i (j+1)=dnD e f i j:=by
 unfold dnD;rw [qD h,qD h];by_cases h3:e.ah.getD i 0<j
 ·rw [qD h3,qD zo]
 ·rw [qA h3,qA zo]
theorem HG {e:DnE}(h:i<e.ah.length→e.ah.getD i 0=j):dnD e f i (j+1)=dnD e f i j+cntW e.t.ps.length e.ah.length f (i+1):=by
 unfold dnD;by_cases h1:i<e.ah.length
 ·rw [qD h1,qD h1,qD (by have:=h h1;omega),qA (by have:=h h1;omega),qV]
 ·rw [qA h1,qA h1,xX,j0]
theorem HF {e:DnE}(hj:j<e.t.ps.length)(h:i<e.ah.length→e.ah.getD i 0=j):dnD e f i j+cntW e.t.ps.length e.ah.length f (i+1)≤cntW e.t.ps.length e.ah.length (f+1) i:=by
 rw [← HG h];unfold dnD;by_cases h1:i<e.ah.length
 ·rw [qD h1,qD (by have:=h h1;omega),tE h1];exact qj _
 ·rw [qA h1,DG h1];exact qK _ hj
theorem QH {e:DnE}{f i j k:Nat}{pre:Ya}(hp:∀ r,r<cntW e.t.ps.length e.ah.length (f+1) i→e.pk (k+r)=pre++exW e.t.ps.length e.ah (f+1) i r)(hj:j<e.t.ps.length)(h:i<e.ah.length→e.ah.getD i 0=j) :
  ∀ r,r<cntW e.t.ps.length e.ah.length f (i+1)→e.pk (k+dnD e f i j+r)=(pre++[j])++exW e.t.ps.length e.ah f (i+1) r:=λ r hr=>by
 have hle:=HF (f:=f) hj h;rw [jo,hp _ zo,qQ];refine qq (pre ++ ·) ?_;unfold dnD;by_cases h1:i<e.ah.length
 ·have h2:=h h1;rw [qD h1,qA zo,qV,HB h1,x6];rw [List.getD,List.getElem?_eq_getElem h1] at h2;have h2':e.ah[i]=j:=h2;rw [h2']
 ·rw [qA h1,O4 h1 hr,x6]
theorem ov {q p:Yk}{v:Int}(h:q.take i=p)(hi:i<q.length):(q.set i v).take (i+1)=p++[v]:=by
 rw [qx (by rw [qY];exact hi),vK (qj _),h,List.getElem_set_self]
theorem Gm {Tc:Yp}{gs:Ya}{g:Nat}{c:Array Yn}{fz:Nat × Nat}(h:CellsT Tc gs w)(hw:Wr g w w')(hg:w.heap[g]?=some (.cells c T fz))(hT:T ∉ Tc):CellsT Tc gs w':=λ k hk=>by
 obtain ⟨c',T',fz',h1,h2⟩:=h k hk;exact ⟨c',T',fz',(hw.block k (λ e=>by
  subst e;rw [hg] at h1;injection h1 with h1;injection h1 with _ h1 _;exact hT (by rw [h1];exact h2))).trans h1,h2⟩
theorem N2 {b lo hi:Nat}{gs:Ya}{W W':Yi}{E:Yh}{hp:Nat}{q:Yk}(h:Stp b D (gs++List.range' lo (hi-lo)) W W')(h1:lo≤hp)(h2:hp<hi)(hq:PkR E hp W q):PkR E hp W' q :=
 h.held hq (qp.2 (.inr (v5.2 ⟨h1,by omega⟩)))
theorem nL {o:Yt}{n:Nat}{ops:Yg}{Q:Yd}(h:Q .normal a w):wpOpsIn (fw o) n P ops Q [] a w:=h
theorem Km {B lo hi:Nat}{Tp Db:Yp}{gs:Ya}{W W':Yi}(h:Stp B Db gs W W'):KD B lo hi Tp Db [] W W' :=
 ⟨h.os,h.tape,h.output,h.size,λ k hk hf=>h.block k hk λ hF=>hf (by
  rcases hF with ⟨h1,h2|⟨_,h2⟩⟩
  ·have hk':k<W.heap.size:=hk;omega
  ·exact .inr (.inr ⟨h1,h2⟩))⟩
theorem R6 {ah:Ya}{i:Nat}(h:i<ah.length):(ah.map λ (k:Nat)=>InA (k:Int))[i]?=some (InA ((ah.getD i 0:Nat):Int)):=by
 rw [List.getElem?_map,List.getElem?_eq_getElem h,List.getD,List.getElem?_eq_getElem h];rfl
theorem St.anewD {e:DnE}(ok:e.Ok){N:Nat}{a a':Act}{W W':Yi}(src:Ya)(h:St e.B w0 N Γ Λ a W)(hnd:w0.nd=true)(hk:KD e.B e.lo e.hi [3] e.Db [] W W')
  (hsrc:src.all (λ k=>match Γ[k]? with|some y=>y.2.deps.all (λ T=>[30,31,121,122,U32,28,124].contains T) | none=>false)=true) (ha:∀ k∈src,∀ y,Γ[k]?=some y→a'.eval (.tmp y.1)=a.eval (.tmp y.1)) (hd:a'.defers=a.defers) (hs:a'.tmps.size=a.tmps.size):St e.B (bo W') N (src.filterMap λ k=>Γ[k]?) [] a' W':=by
 have hD:∀ T∈e.Db,T ∉ [30,31,121,122,U32,28,124]:=fL ok.Db;have key:∀ {deps:List TypeId},deps.all (λ T=>[30,31,121,122,U32,28,124].contains T)=true→offD ([]++[3]++e.Db) deps=true:=λ {deps} hd=>qf.2 λ T hT=>by
  have hd':=qf.1 hd T hT;have hm:T∈[30,31,121,122,U32,28,124]:=by simpa using hd'
  have hn:T ∉ []++[3]++e.Db:=λ hh=>by
   rcases qp.1 hh with hh|hh
   ·have:T=3:=by simpa using hh
    subst this;exact absurd hm zd
   ·refine hD T hh ?_;simp only [qt,zw,or_false] at hm ⊢;rcases hm with h|h|h|h|h|h|h <;> simp [h]
  simpa using hn
 refine h.anew (Tc:=[]) src hnd hk ok.lo (λ g hg=>by cases hg) (λ g hg=>by cases hg) (qf.2 λ k hk=>?_) ha hd hs;have:=qf.1 hsrc k hk;cases hy:Γ[k]? with
 | none=>rw [hy] at this;cases this
 | some y=>rw [hy] at this;exact key this
set_option maxHeartbeats 4000000 in
theorem Du {e:DnE}(ok:e.Ok){f i:Nat}(ih:∀ f',f'+1=f→∀ i,DnC e f' i):DnC e f i:=by
 intro pre k wE q vr hpl hif hpp hpk hkM hJ hF hq hql hqi hvr;obtain ⟨hlt,hsx,hel⟩:=dn_s ok (i:=i) zo;have htg:okX e.t.tg=true:=(hd_b (ft ok.ck).1).2.2.2.2;have hn12:=dn_n ok;have hsl:=ok.n;obtain ⟨m,hme⟩:∃ m,ei (benP e.t pre)=m:=⟨_,rfl⟩;have hbw0:=o4 (benP e.t pre) (spE (e.t.sp.getD pre.length rf0));rw [hme] at hvr hbw0;have hm:RepM (dnK i) m:=by rw [← hme,← hpl];exact dn_m ok zo hpp
 have hKb:dnK i≤200000:=dn_K ok zo;have hBw:e.B≤wE.heap.size:=by have:=(Array.getElem?_eq_some_iff.1 hq).1;have:=ok.lo;have:=ok.hp;omega
 obtain ⟨hco1,hco2⟩:=wR ok.ck hpp;obtain ⟨B,hBe⟩:∃ B,e.B=B:=⟨_,rfl⟩;have hKi:dnK (i+1)=dnK i+4097+4097:=by unfold dnK;omega
 obtain ⟨K,hK⟩:∃ K,dnK i=K:=⟨_,rfl⟩;rw [hK] at hvr hm hKb hKi;have hxe:e.t.sp.getD pre.length rf0=e.t.sp[i]:=by rw [hpl];simp [List.getD,hlt]
 obtain ⟨x,hx⟩:∃ x,e.t.sp[i]=x:=⟨_,rfl⟩;rw [hx] at hsx hel hxe;rw [hxe] at hbw0;obtain ⟨m1,hm1⟩:∃ m1,mulQ (elM (spE x)) m=m1:=⟨_,rfl⟩;have hm1r:RepM (K+4097) m1:=by rw [← hm1];exact gM hel hm
 have hbw:ei (benW e.t pre)=m1:=by rw [← hm1,← hbw0];unfold benW;rw [hxe]
 have hpw:powW e.t pre = -m1.c:=by unfold powW;rw [hbw]
 have haw:awaW e.t pre=if (-m1.c-toQ e.t.tg).num.sign<0 then -(-m1.c-toQ e.t.tg) else -m1.c-toQ e.t.tg:=by unfold awaW;rw [hpw]
 obtain ⟨F1,F2,F3,F4,F5⟩:=id hF;rw [hBe] at F1 F2 F3 F4 F5 hvr hBw;refine nk (R:=e.R f i k q wE) (B:=B) [In (i:Nat),In (cosW e.t pre),(CoA K m).va,ElP 30 (TkO e.t),ElP 31 (EqA (.slice (some ⟨e.hp,0,none⟩) e.n e.n)),ElP 121 (EqA (.func (.yield e.l) #[] #[])),ElP 31 (SlO 3 [] (e.ah.map λ (k:Nat)=>InA (k:Int)) True),ElP 122 (EqA (.func (.func 117) #[] e.cap.toArray))] Tryz.func117 G hBw (.cons (bV _ _ _ _) (.cons (bV _ _ _ _) (.cons hvr (.cons F1 (.cons F2 (.cons F3 (.cons F4 (.cons F5 .nil)))))))) nq (λ w0 a hw0 U=>?_);subst hw0;obtain ⟨w,hw⟩:∃ w,w=wE:=⟨_,rfl⟩;have U:St B (bo wE) 92 [(0,_),(1,_),(2,_),(3,_),(4,_),(5,_),(6,_),(7,_)] [] a wE:=U;refine qb<|zg [] [zpL 10 124 0 _] [.alc 0,.v 11 _] (We [.g 3,.g 4,.g 5,.g 6,.g 7,.o 1]) U (zW 2 G (zE G aE)) (λ a w U=>?_);have U:St B (bo wE) 92 [(0,_),(1,_),(3,_),(4,_),(5,_),(6,_),(7,_),(11,_)] [O 10 124 _] a w:=U;refine aa<|wp_scope_straight ?_;refine qb<|zgd [[],[0],[],[2],[],[2,3,4],[2,3,4,5],[],[7],[2,3,4,5,6,7,8],(Wm 10),(Wm 11),(Wm 12)] [some (12,_)] [] (.adr 15 10 (.some 0) True::(Wl 16 (.adr 22 10 (.some 4) True::(Wb 23 [.adr 26 10 (.some 0) True,.sto 0])))) WE ac U (zO 0 G cF (zL 0 0 0 G ax (zv G (bK (gq 2 G) cb (Sub.part 0 G G)) (zv G (ao (vq 2 G) eY) (zM 0 G (zv G (bB du (bX λ _=>rfl) (bz (aC (vq 3 G))) (vq 4 G) (bn hlt)) (zv G (ao (vq 5 G) ax) (zO 0 G cA (zL 7 0 1 G ax (zQ G ((l4 (c:=2048) (d:=K) (x:=toQ x) (y:=m.c) zo).wk (.cons (cB (ba (qq (λ z=>(RFA z).va) hx)) (qa_x hsx (qj _)).va) (.cons aG .nil))) (.p (vq 6 G) (vq 8 G)) (zQ G (BQ zo) (.p (vq 1 G) (vq 9 G)) (zO 0 G cF (oc (df 11 G G G G zk (vq 10 G) ax (Put.part 0 G G G)) o0))))))))))))) zk zk zk zk (λ a w U=>?_);have U:St B (bo wE) 92 [(0,_),(1,_),(3,_),(4,_),(5,_),(6,_),(7,_),(11,_)] [O 10 124 _] a w:=U;have U:=St.wkL (A':=CoA (K+4097) m1) U 0 rfl (by rw [← hm1];exact tD (GU x m).1 (GU x m).2 (gM hel hm));have U:St B (bo wE) 92 [(0,_),(1,_),(3,_),(4,_),(5,_),(6,_),(7,_),(11,_)] [O 10 124 _] a w:=U;refine zt<|qb<|zg U6 [] (Ww 27) (WE [.o 3]) U (zM 0 G (zv G (ao (gq 3 G) eJ) (zv G (MU qF (vq 1 G)) (zv G (bC (vq 0 G) (vq 2 G)) o0)))) (λ a w U=>?_);have U:St B (bo wE) 92 [(0,_),(1,_),(3,_),(4,_),(5,_),(6,_),(7,_),(11,_),(30,_)] [O 10 124 _] a w:=U;refine zJ 8 U G (λ hb0=>?_) (λ hb0=>?_)
 ·have hin:i=e.n:=by have h:((i:Nat):Int)=((e.n:Nat):Int):=eq_of_beq hb0;omega
  obtain rfl:f=0:=by omega
  have hc0:cntW e.t.ps.length e.ah.length 0 i=1:=rfl;have hpk0:e.pk k=pre:=by have:=hpk 0 zo;simpa [exW] using this
  refine qb<|zgd [[],[],[1],[1,2],[],(Wm 5),[],(Wm 7)] U4 [⟨12,82,ptrH,some 6,_,some (7,_)⟩] (.v 31 _::.adr 32 10 (.some 4) True::(Ww 33 [.alc 1,.sto 1])) WE ac U (zv G (ao (gq 3 G) eJ) (zO 0 G cA (zL 1 0 1 G ax (zQ G (lU zo) (.o (vq 2 G)) (zM 1 G (zv G (aT (qs:=[(0,_),(1,_),(3,_)]) eZ (.cons ⟨rfl,vq 0 rfl,rfl⟩ (.cons ⟨rfl,vq 3 rfl,rfl⟩ (.cons ⟨rfl,vq 4 rfl,rfl⟩ .nil)))) (zY G (Str.zero eZ) (zS 5 G gE o0)))))))) zk zk zk zk (λ a w U=>?_);have U:St B (bo wE) 92 [(0,_),(1,_),(3,_),(4,_),(5,_),(6,_),(7,_),(11,_)] [O 10 124 _,O 12 82 _] a w:=U;refine zt<|zg [η,some (6,_)] [] (.adr 37 12 (.some 1) True::(Ww 38 [.adr 42 12 (.some 5) True,.sto 1])) WE U (zO 1 G fo (zL 0 1 1 G ax (zv G (bK (gq 2 G) eB (Sub.part 2 G G)) (zv G (ao (vq 2 G) ax) (zQ G ((t6 (c:=K+4097) (d:=2048) (x := -m1.c) (y:=toQ e.t.tg) zo).wk (.cons aG (.cons (qa_x htg (qj _)).va .nil))) (.p (vq 1 G) (vq 3 G)) (zO 1 G gr (oc (df 5 G G G G zk (vq 4 G) ax (Put.part 2 G G G)) o0))))))) (λ a w U=>?_);have U:St B (bo wE) 92 [(0,_),(1,_),(3,_),(4,_),(5,_),(6,_),(7,_),(11,_)] [O 10 124 _,O 12 82 _] a w:=U;refine zt<|qb<|zg UH [] (.adr 43 12 (.some 5) True::(Wb 44)) (WE [.o 3]) U (zO 1 G gr (zL 0 1 2 G ax (zQ G sign_q (.o (vq 1 G)) (zv G (aN (vq 2 G) ab) o0)))) (λ a w U=>?_);have U:St B (bo wE) 92 [(0,_),(1,_),(3,_),(4,_),(5,_),(6,_),(7,_),(11,_),(46,_)] [O 10 124 _,O 12 82 _] a w:=U;refine aa<|bP (λ a w =>  St B (bo wE) 92 [(5,ElP 121 (EqA (.func (.yield e.l) #[] #[])))] [⟨10,124,ptrH,CoA (K+4097) m1⟩,⟨12,82,ptrH,cat [EqA (.slice (some ⟨e.hp,0,none⟩) e.n e.n),QA (K+4097) (powW e.t pre),QA (K+4097+2048+1) (awaW e.t pre),NumA .i64 (cosW e.t pre)]⟩] a w) U (zm 8 G) (λ hb1=>?_) (λ hb1=>?_) (λ a w U=>?_)
  ·refine zg [η,some (4,_)] [] (.adr 47 12 (.some 5) True::(W6 48 [.adr 50 12 (.some 5) True,.sto 1])) WE U (zO 1 G gr (zL 0 1 2 G ax (zQ G (lU zo) (.o (vq 1 G)) (zO 1 G gr (oc (df 3 G G G G zk (vq 2 G) ax (Put.part 2 G G G)) o0))))) (λ a w U=>?_);have U:St B (bo wE) 92 [(0,_),(1,_),(3,_),(4,_),(5,_),(6,_),(7,_),(11,_)] [O 10 124 _,O 12 82 _] a w:=U;refine aa ?_;have U:=St.sel U [4];rw [hpw,haw,qD (qu hb1)];exact U
  ·refine qk<|aa ?_;have U:=St.sel U [4];rw [hpw,haw,qA (qw hb1)];exact U
  refine zt<|Ih ?_;refine FB (sp:=[.v 51 _,.v 52 _,.v 53 VT,.v 11 VT]) 2 2 99 2 OneC [.g 0,.o 0,.o 1] zk (ej λ _ _ h=>h) U (zv G (ao (gq 0 G) Mb) (zl 1 G gE o0)) G zd zk zk (λ a w U=>?_);have U:St B (bo wE) 92 [(5,_),(51,_),(52,_)] [O 10 124 _,O 12 82 _] a w:=U;rw [show List.range' 2 2=[2,3] from rfl];have hgw:=bI U.base;have e51:=lM (U.vals (51,_) (zm 1 rfl));have hqe:q=pre.map (λ (x:Nat)=>(x:Int)):=by rw [← hqi,qG zo]
  have hway:(WyA (dnK (e.n+2)+4200) (wayW e.t (e.pk k))).va.p e.B (a.eval (.tmp 52)) w:=by rw [hBe,hpk0];exact M5 (U.vals (52,_) (zm 2 rfl)) (by rw [← hqe];exact fa hq hgw) (by rw [qd];omega) zo (cc (by rw [← hK];unfold dnK;omega)) (cc (by rw [← hK];unfold dnK;omega))
  rw [wpOpsIn_cons];refine C0 (xs:=[.tmp 52]) G e51 (ok.yd k w [a.eval (.tmp 52)] zo (ok.grow zo hJ hgw) (.cons hway .nil)) (λ x w3 hR3=>?_);rcases hR3 with ⟨rfl,hJ3,hs3⟩|⟨rfl,hx3,hsz3,_⟩
  ·refine ⟨_,rfl,?_⟩;have U:=(St.bare U rfl hs3.size).addV (d:=53) (v:=.bool true) (A:=Bo true) zd zk zk (dJ _ _ _);rw [wpOpsIn_cons];refine C2 (b:=true) G (dS (U.vals (53,_) (zm 0 G))) ?_;refine nL ?_;have U:=U.addV (d:=11) (v:=.bool true) (A:=Bo true) zd zk zk (dJ _ _ _);have hR:e.R 0 i k q wE (.returned (.bool true)) w3:=.inl ⟨rfl,hJ3,fj (CF hgw) (Km hs3),q,N2 hs3 ok.hp.1 ok.hp.2 (fa hq hgw),hql,rfl⟩;refine aa<|qi<|aj ?_;refine mz ?_;exact wJ G U G (zm 0 G) hR (λ x w1 w2=>DnE.R.grow ok hkM)
  ·refine ⟨_,rfl,?_⟩;have U:=(St.bare U rfl hsz3).addV (d:=53) (v:=.bool false) (A:=Bo false) zd zk zk (dJ _ _ _);rw [wpOpsIn_cons];refine C2 (b:=false) G (dS (U.vals (53,_) (zm 0 G))) ?_;refine nL ?_;have U:=U.addV (d:=11) (v:=.bool false) (A:=Bo false) zd zk zk (dJ _ _ _);have hR:e.R 0 i k q wE (.returned (.bool false)) w3:=.inr ⟨rfl,hx3,qg hgw.size hsz3⟩;refine aa<|qi<|aj ?_;refine mz ?_;exact wJ G U G (zm 0 G) hR (λ x w1 w2=>DnE.R.grow ok hkM)
 ·have hin:i≠e.n:=λ h=>by rw [h] at hb0;simp at hb0
  obtain ⟨f,rfl⟩:∃ f0,f=f0+1:=⟨f-1,by omega⟩;have hlen64:=(hd_b (ft ok.ck).1).2.2.2.1;refine qk<|zt<|wp_label<|zt<|qb ?_;have U:=St.ofPtr U 0 rfl;have U:St B (bo wE) 92 [(10,_),(0,_),(1,_),(3,_),(4,_),(5,_),(6,_),(7,_),(11,_),(30,_)] [] a w:=U;refine zh (Ww 54) (WD [.o 1,.o 2,.o 3]) U (zv G (bK (gq 3 G) bM (Sub.part 1 G G)) (zv G (ao (vq 0 G) ec) (zv G (bg qN (bz (aC (vq 1 G)))) (zv G (aq ab) o0)))) (λ a w U=>?_);have U:St B (bo wE) 92 [(10,_),(0,_),(1,_),(3,_),(4,_),(5,_),(6,_),(7,_),(11,_),(55,_),(56,_),(57,_)] [] a w:=U;refine aa<|ql ?_;have U:=St.sel U [1,2,3,4,5,6,7,0,9,10,11];refine wp_loop_ghost (λ n a w=>∃ (j:Nat) (W1:World) (q1:List Int),(n+j=e.t.ps.length∧e.J (k+dnD e f i j) W1∧KD e.B e.lo e.hi [3] e.Db [] wE W1∧PkR 3 e.hp W1 q1∧q1.length=e.n∧q1.take i=q.take i)∧St B (bo W1) 92 [(0,In (i:Nat)),(1,In (cosW e.t pre)),(3,ElP 30 (TkO e.t)),(4,ElP 31 (EqA (.slice (some ⟨e.hp,0,none⟩) e.n e.n))),(5,ElP 121 (EqA (.func (.yield e.l) #[] #[]))),(6,ElP 31 (SlO 3 [] (e.ah.map λ (k:Nat)=>InA (k:Int)) True)),(7,ElP 122 (EqA (.func (.func 117) #[] e.cap.toArray))),(10,ElP 124 (CoA (K+4097) m1)),(55,(SlO 79 [U32] (e.t.ps.map PtA) True).va),(56,In (e.t.ps.length:Nat)),(57,In (j:Nat))] [] a w) (e.t.ps.length) ?_ ?_
  ·rw [qd] at U;exact ⟨0,wE,q,⟨by omega,by rw [QI];exact hJ,CE,hq,hql,rfl⟩,U⟩
  intro n a w hI;obtain ⟨j,W1,q1,⟨hn,hJ1,hkd,hq1,hql1,hqt⟩,U⟩:=hI;refine qb<|zh [.v 58 _] (WL [.o 0]) U (zv G (aN (gq 10 G) (gq 9 G)) o0) (λ a w U=>?_);have U:St B (bo W1) 92 [(0,_),(1,_),(3,_),(4,_),(5,_),(6,_),(7,_),(10,_),(55,_),(56,_),(57,_),(58,_)] [] a w:=U;refine zt<|cd U (zm 11 G) (λ hb2=>?_) (λ hb2=>?_)
  ·have hj:j<e.t.ps.length:=by have:=qu hb2;omega
   have hpj:e.t.ps.getD j ⟨⟨#[]⟩,⟨0,rf0,rf0⟩,0⟩=e.t.ps[j]:=by simp [List.getD,hj]
   have hpe:elF e.t.ps[j].e=true:=by rw [← hpj];exact dn_p ok.ck hj
   have hpc:=wR ok.ck (l:=[j]) (λ y hy=>by rw [qo.1 hy];exact hj);rw [show cosW e.t [j]=e.t.ps[j].c from by unfold cosW;rw [qT,jM,xf,List.sum_nil,hpj,jN]] at hpc;obtain ⟨hpc1,hpc2⟩:=hpc;refine qk<|zt<|ql<|qb<|zg [] [⟨14,79,ptrH,some 3,_,some (5,_)⟩] (Wb 59 [.alc 0,.v 13 _,.sto 0]) (WL [.o 4]) U (zM 10 G (zv G (bB fD (bX λ _=>rfl) (bz (aC (gq 8 G))) (gq 10 G) (bn hj)) (zv G (ao (vq 1 G) i6) (zY G (Str.zero et) (zA 0 G (zS 2 G i6 o0)))))) (λ a w U=>?_);have U:St B (bo W1) 92 [(0,_),(1,_),(3,_),(4,_),(5,_),(6,_),(7,_),(10,_),(55,_),(56,_),(57,_),(13,_)] [O 14 79 _] a w:=U;have U:=St.ofPtr U 0 rfl;have U:St B (bo W1) 92 [(14,_),(0,_),(1,_),(3,_),(4,_),(5,_),(6,_),(7,_),(10,_),(55,_),(56,_),(57,_),(13,_)] [] a w:=U;refine zt<|qb<|zh (Wd 62 [.t 67 _,.t 68 _,.t 69 _,.t 70 _,.t 71 _,.t 72 _,.v 73 _]) (WN [.o 11]) U (zM 1 G (zv G (ao (gq 6 G) eJ) (zv G (bg qF (bz (aC (vq 1 G)))) (zv G (aN (vq 0 G) (vq 2 G)) (zV 3 G (zB 4 G (λ hg=>aq (gq 12 G)) (zB 4 G (λ hg=>ao (gq 6 G) eJ) (zB 4 G (λ hg=>aq (gq 1 G)) (zB 4 G (λ hg=>bB dr (bX λ _=>rfl) (bz (aC (ae (vq 6 G) hg))) (ae (vq 7 G) hg) (R6 (by have:=qu hg;simp only [qd] at this;omega))) (zB 4 G (λ hg=>ao (ae (vq 8 G) hg) ty_3) (zB 4 G (λ hg=>ca (ae (vq 5 G) hg) (ae (vq 9 G) hg)) (zv G (bv (vq 4 G) (vq 10 G)) o0)))))))))))) (λ a w U=>?_);have U:St B (bo W1) 92 [(14,_),(0,_),(1,_),(3,_),(4,_),(5,_),(6,_),(7,_),(10,_),(55,_),(56,_),(57,_),(13,_),(73,_)] [] a w:=U;refine zJ 13 U G (λ hb3=>?_) (λ hb3=>?_)
   ·have hsk:i<e.ah.length∧e.ah.getD i 0≠j:=by
     simp only [qd,qm,qJ,bne_iff_ne,ne_eq] at hb3;exact ⟨by omega,by omega⟩
    refine qM<|ai<|az<|aa<|zh [.v 91 _,.v 57 _] (WL [.g 12,.o 1]) U (zv G (aL (gq 11 G) ab ((wi64 zo zo).trans (by omega:(_:Int)=((j+1:Nat):Int)))) (zV 0 G o0)) (λ a w U=>?_);have U:St B (bo W1) 92 [(14,_),(0,_),(1,_),(3,_),(4,_),(5,_),(6,_),(7,_),(10,_),(55,_),(56,_),(13,_),(57,_)] [] a w:=U;refine aa ?_;have U:=St.sel U [1,2,3,4,5,6,7,8,9,10,12];exact ⟨n-1,by omega,j+1,W1,q1,⟨by omega,by rw [Gc hsk.1 hsk.2];exact hJ1,hkd,hq1,hql1,hqt⟩,U⟩
   ·have hgo:i<e.ah.length→e.ah.getD i 0=j:=λ h=>by
     simp only [qd,jB,qn,bne_eq_false_iff_eq] at hb3;rcases hb3 with h1|h1 <;> omega
    have hdl:=HF (f:=f) hj hgo;have hcp:0<cntW e.t.ps.length e.ah.length f (i+1):=iP zo _ _;refine qk<|zt<|bS (sp:=[.v 74 _,.v 75 _,.v 76 _,.v 77 VT,.skp]) 3 2 99 3 OneC [.g 0,.g 1,.g 2,.g 3,.g 4,.g 5,.g 6,.g 7,.g 8,.g 9,.g 10,.g 11,.g 12,.o 0,.o 1,.o 2] U (zv G (ao (gq 4 G) eJ) (zM 1 G (zM 12 G o0))) G zd zk zk (λ a w U=>?_);have U:St B (bo W1) 92 [(14,_),(0,_),(1,_),(3,_),(4,_),(5,_),(6,_),(7,_),(10,_),(55,_),(56,_),(57,_),(13,_),(74,_),(75,_),(76,_)] [] a w:=U;rw [show List.range' 3 2=[3,4] from rfl];have hgw:=bI U.base;have hJw:=ok.grow zo hJ1 hgw;have hq2:=fa hq1 hgw;have U:=St.wkG U 13 rfl Dn;rw [qy];refine mJ 13 14 G U dr zd G G zo zd zk zk (λ a U=>?_);have e77:=U.vals (77,_) (zm 0 rfl);have e77:a.eval (.tmp 77)=.pointer (some ⟨e.hp,i,none⟩):=by rw [← z8 i];exact e77
    rw [qy];refine JE (q:=q1) (k:=(j:Nat)) G e77 (bj (U.vals (76,_) (zm 16 G))) hq2 zo ty_3 (λ W2 hq3 hwr=>?_);refine tV ?_;have hsv:StpV e.lo e.hi [3] e.gs w W2:=sz hwr hq2 ok.hp.1 ok.hp.2 zd;have hkd0:KD e.B e.lo e.hi [3] e.Db [] w W2:=CD (sz hwr hq2 ok.hp.1 ok.hp.2 zd);have hJ2:e.J (k+dnD e f i j) W2:=ok.st _ _ _ zo hJw hsv (Gm (ok.ct _ _ hJw) hwr hq2 zd);have hkd2:=fj (fj hkd (CF hgw)) hkd0;have hloB:B≤e.lo:=by rw [← hBe];exact ok.lo
    have U:=St.anew (Tp:=[3]) (Db:=[]) (Tc:=[]) (gs:=[]) (lo:=e.lo) (hi:=e.hi) (a':=a) [1,2,3,4,5,6,7,8,9,10,11,12,13] U rfl (CD (sz hwr hq2 ok.hp.1 ok.hp.2 zd)) hloB (λ _ h=>by cases h) (λ _ h=>by cases h) zk (λ _ _ _ _=>rfl) rfl rfl;have U:St B (bo W2) 92 [(14,_),(0,_),(1,_),(3,_),(4,_),(5,_),(6,_),(7,_),(10,_),(55,_),(56,_),(57,_),(13,_)] [] _ W2:=U;refine zt<|iE (sp:=[.v 78 _,.v 79 _,.v 80 _,.v 81 _,.v 82 _,.v 83 _,.v 84 _,.v 85 _,.v 86 _,.v 87 _,.v 88 _,.v 89 VT,.v 90 VT]) [[],[],[1],[],[],[4],[3,4,5],[],[7],[],[7,8,9],[0,1,2,3,4,5,6,7,8,9,10],[0,1,2,3,4,5,6,7,8,9,10,11]] 11 2 99 11 OneC [.g 0,.g 1,.g 2,.g 3,.g 4,.g 5,.g 6,.g 7,.g 8,.g 9,.g 10,.g 11,.g 12,.o 0,.o 2,.o 6,.o 10] ac U (zv G (ao (gq 7 G) AB) (zM 1 G (zv G (aL (vq 1 G) ab ((wi64 zo zo).trans (by omega:(_:Int)=((i+1:Nat):Int)))) (zM 2 G (zv G (bK (gq 0 G) dG (Sub.part 2 G G)) (zv G (ao (vq 4 G) ty_3) (zv G (aL (vq 3 G) (vq 5 G) ((wi64 (by simp only [z7] at hpc2;omega) (by simp only [z7] at hpc2;omega)))) (zv G (bK (gq 0 G) dZ (Sub.part 1 G G)) (zv G (ao (vq 7 G) dq) (zv G (ao (gq 8 G) i7) (zQ G (AK (x:=e.t.ps[j].e) (b:=K+4097) (m:=m1) hpe hm1r zo) (.p (vq 8 G) (vq 9 G)) o0))))))))))) G zd zd zk (fx zk) zk zk (λ a w U=>?_);have U:St B (bo W2) 92 [(14,_),(0,_),(1,_),(3,_),(4,_),(5,_),(6,_),(7,_),(10,_),(55,_),(56,_),(57,_),(13,_),(78,_),(80,_),(84,_),(88,_)] [] a w:=U;rw [show List.range' 11 2=[11,12] from rfl];have hgw2:=bI U.base;have e78:=lM (U.vals (78,_) (zm 13 rfl));have e80:=bj (U.vals (80,_) (zm 14 rfl));have e84:=bj (U.vals (84,_) (zm 15 rfl));have hvr2:=(U.vals (88,_) (zm 16 rfl));have hl2:(pre++[j]).length=i+1:=by rw [qv,hpl];rfl
    have hmem2:∀ y∈pre++[j],y<e.t.ps.length:=λ y hy=>by
     rcases qp.1 hy with hy|hy
     ·exact hpp y hy
     ·rw [qo.1 hy];exact hj
    have hqt2:(q1.set i (j:Int)).take (i+1)=(pre++[j]).map (λ (y:Nat)=>(y:Int)):=by
     rw [ov (hqt.trans hqi) zo,zD];rfl
    have hm2:ei (benP e.t (pre++[j]))=mulQ (elM e.t.ps[j].e) m1:=by rw [yy,hpj,hbw]
    have hc2:cosW e.t (pre++[j])=cosW e.t pre+e.t.ps[j].c:=by rw [wQ,hpj]
    have hcall:=ih f rfl (i+1) (pre++[j]) (k+dnD e f i j) w (q1.set i (j:Int)) (a.eval (.tmp 88)) hl2 zo hmem2 (QH hpk hj hgo) zo (ok.grow zo hJ2 hgw2) ((hF.kd ok hkd2).grow hgw2) (fa hq3 hgw2) (by rw [qY];exact hql1) hqt2 (by rw [hBe,hm2,hKi];exact hvr2);rw [qy];refine uB (f:=117) (xs:=[.tmp 80,.tmp 84,.tmp 88]) (gs:=e.cap) G ⟨_,Tryz.func117,by kernel_rfl,by kernel_rfl⟩ e78 (by rw [hc2] at hcall;rw [show [Operand.tmp 80,.tmp 84,.tmp 88].map a.eval=[a.eval (.tmp 80),a.eval (.tmp 84),a.eval (.tmp 88)] from rfl,e80,e84];exact hcall) (λ x w3 hR3=>?_);rcases hR3 with ⟨rfl,hJ3,hkd3,q3,hq4,hql4,hqt4⟩|⟨rfl,hx3,hsz3⟩
    ·refine ⟨_,rfl,?_⟩;have U:=St.anewD (a':=a) ok [1,2,3,4,5,6,7,8,9,10,11] (by rw [hBe];exact U) rfl hkd3 zk (λ _ _ _ _=>rfl) rfl rfl;rw [hBe] at U;have U:=U.addV (d:=89) (v:=.bool true) (A:=Bo true) zd zk zk (dJ _ _ _);rw [qy];refine lQ (A:=Bo false) (v:=.bool false) G U zd zk zk (Hg _ _ _ (dS (U.vals (89,_) (zm 0 G)))) (dJ _ _ _) (λ U=>?_);refine eV ?_;have U:St B (bo w3) 92 [(90,_),(89,_),(0,_),(1,_),(3,_),(4,_),(5,_),(6,_),(7,_),(10,_),(55,_),(56,_),(57,_)] [] _ w3:=U;have hkd4:=fj (fj hkd2 (CF hgw2)) hkd3;have hqt5:q3.take i=q.take i:=by
      rw [← hqt,show q3.take i=(q3.take (i+1)).take i by rw [je,xo zo],hqt4,je,xo zo,vK zo]
     have hJ4:e.J (k+dnD e f i (j+1)) w3:=by rw [HG hgo,← jo];exact hJ3
     refine zJ 0 U G (λ hb4=>?_) (λ hb4=>?_)
     ·cases hb4
     ·refine qk<|ak ?_;refine aa<|zh [.v 91 _,.v 57 _] [.g 2,.g 3,.g 4,.g 5,.g 6,.g 7,.g 8,.g 9,.g 10,.g 11,.o 1] U (zv G (aL (gq 12 G) ab ((wi64 zo zo).trans (by omega:(_:Int)=((j+1:Nat):Int)))) (zV 0 G o0)) (λ a w U=>?_);have U:St B (bo w3) 92 [(0,_),(1,_),(3,_),(4,_),(5,_),(6,_),(7,_),(10,_),(55,_),(56,_),(57,_)] [] a w:=U;refine aa ?_;have U:=St.sel U [0,1,2,3,4,5,6,7,8,9,10];exact ⟨n-1,by omega,j+1,w3,q3,⟨by omega,hJ4,hkd4,hq4,hql4,hqt5⟩,U⟩
    ·refine ⟨_,rfl,?_⟩;have U:=St.bare (w':=w3) U rfl hsz3;have U:=U.addV (d:=89) (v:=.bool false) (A:=Bo false) zd zk zk (dJ _ _ _);rw [qy];refine lQ (A:=Bo true) (v:=.bool true) G U zd zk zk (Hg _ _ _ (dS (U.vals (89,_) (zm 0 G)))) (dJ _ _ _) (λ U=>?_);refine eV ?_;refine zJ 0 U G (λ hb5=>?_) (λ hb5=>?_)
     ·refine qb<|zh [.v 11 _] U2 U (zE G aE) (λ a w U=>?_);have U:St B (bo w3) 92 [(11,_)] [] a w:=U;have hR:e.R (f+1) i k q wE (.returned (.bool false)) w:=.inr ⟨rfl,ok.growx hx3 (bI U.base),qg (qg (fj hkd2 (CF (lo:=e.lo) (hi:=e.hi) hgw2)).size hsz3) (bI U.base).size⟩;refine aa<|qi<|aD ?_;refine aj ?_;refine aj ?_;refine aD ?_;refine aj ?_;refine mz ?_;exact wJ G U G (zm 0 G) hR (λ x w1 w2=>DnE.R.grow ok hkM)
     ·cases hb5
  ·obtain rfl:j=e.t.ps.length:=by have:=qw hb2;omega
   refine qM<|ai<|ai<|az<|zt<|zh [.v 11 _] (WL [.o 0]) U (zE G aE) (λ a w U=>?_);have U:St B (bo W1) 92 [(0,_),(1,_),(3,_),(4,_),(5,_),(6,_),(7,_),(10,_),(55,_),(56,_),(57,_),(11,_)] [] a w:=U;have hR:e.R (f+1) i k q wE (.returned (.bool true)) w:=.inl ⟨rfl,by rw [← Dy ok];exact ok.grow (by rw [Dy ok];omega) hJ1 (bI U.base),fj hkd (CF (bI U.base)),q1,fa hq1 (bI U.base),hql1,hqt⟩;refine aa<|qi<|mz ?_;exact wJ G U G (zm 11 G) hR (λ x w1 w2=>DnE.R.grow ok hkM)
theorem Dw {e:DnE}(ok:e.Ok):∀ f i,DnC e f i
 | 0,i=>Du ok (λ f' h=>absurd h zo)
 | f+1,i=>Du ok (λ f' h i'=>by
  obtain rfl:f'=f:=by omega
  exact Dw ok f' i')
theorem I6:Zero Tryz.prog 31 (EqA (.slice none 0 0)):=Zero.of (z:=.slice none 0 0) zk (λ _ _=>⟨rfl,rfl⟩)
theorem I7:Zero Tryz.prog 122 (EqA .nilFunc):=Zero.of (z:=.nilFunc) zk (λ _ _=>⟨rfl,rfl⟩)
def LA (A A':VA):VA where
 p B v w:=A.p B v w∧A'.p B v w
 deps:=A.deps++A'.deps
 cg:=λ B v w w' hg h=>⟨A.cg _ _ _ _ hg h.1,A'.cg _ _ _ _ hg h.2⟩
 wr:=λ B v w w' g c T fz h1 hT h3 h4 h=>by
  simp only [qp,not_or] at hT;exact ⟨A.wr _ _ _ _ _ _ _ _ h1 hT.1 h3 h4 h.1,A'.wr _ _ _ _ _ _ _ _ h1 hT.2 h3 h4 h.2⟩
theorem OR :Wk (LA A A') A:=λ _ _ _ h=>h.1
theorem OQ :Wk (LA A A') A':=λ _ _ _ h=>h.2
theorem LY (h:v.oneCell'=true):Wk (EqV v) (EqA v).va:=λ B u w e=>by
 have e':u=v:=e;rw [e'];exact tZ h
theorem Do {B g:Nat}{A:As}(h:w.heap[g]?=some (.cells (List.toArray cs) T (0,0)))(hp:A.p B cs w):(ElP T A).p B (ptr g) w:=by
 refine ⟨g,0,cs,rfl,(Array.getElem?_eq_some_iff.1 h).1,.inr ⟨_,_,h⟩,hp,λ j v hv=>?_⟩;rw [qV,cell_of_row w g j cs.toArray T _ h];simpa using hv
theorem tx {B N:Nat}(h:St B w0 N Γ Λ a w)(k j:Nat)(h1:Γ[k]?=some (s,EqV (ptr g)))(h2:Λ[j]?=some ⟨s,T,ptrH,A⟩):(ElP T A).p B (ptr g) w:=by
 obtain ⟨g',cs,e1,_,e3,e4⟩:=h.locs _ (qa h2);have e:a.eval (.tmp s)=ptr g:=h.vals _ (qa h1);have e1':a.eval (.tmp s)=ptr g':=e1;rw [← e,e1'];exact Do e3 e4
theorem St.elpG {B N:Nat}(h:St B w0 N Γ Λ a w){A:VA}(k:Nat)(h1:Γ[k]?=some (s,EqV v))(hA:A.p B v w):St B w0 N (Γ.set k (s,A)) Λ a w:=by
 refine ⟨h.lo,h.defers,h.size,h.base,λ x hx=>?_,h.locs,h.dis⟩;rcases qB hx with hx|rfl
 ·exact h.vals x hx
 ·have e:a.eval (.tmp s)=v:=h.vals _ (qa h1);show A.p B (a.eval (.tmp s)) w;rw [e];exact hA
theorem St.here {B N:Nat}(h:St B w0 N Γ Λ a w)(hnd:w0.nd=true)(src:Ya):St B (bo w) N (src.filterMap λ k=>Γ[k]?) [] a w:=by
 refine ⟨λ g hg=>?_,DefOk.nil (h.defers.none hnd),h.size,Kept.refl _,λ x hx=>?_,(λ _ h=>by cases h),(λ _ h=>by cases h)⟩
 ·rcases hg with hg|hg
  ·exact qg (qg (h.lo _ (.inl (qj _))) h.base.size) hg
  ·exact hg.elim
 ·obtain ⟨k,_,hk2⟩:=qS.1 hx;exact h.vals x (qa hk2)
theorem Nc {Q:Yd}{B N:Nat}{ops:Yg}{i:Nat}{K:Ye}{d u n:Nat}{S E T':Yh}(ku:Nat)(ho:ops[i]?=some ⟨some d,.makeSlice S (.tmp u) (.tmp u),T',ps,af,none⟩)(h:St B w0 N Γ Λ a w)
  (hM:oi P S E .i64) (hu:Γ[ku]?=some (u,In (n:Nat))) (hn:n≤17592186044416) (hd:d<N) (hΓ:Γ.all (λ x=>x.1 != d)=true) (hΛ:Λ.all (λ l=>l.s != d)=true)
  (hK:∀ a' w' hp,St B w0 N ((d,EqV (.slice (some ⟨hp,0,none⟩) n n))::Γ) Λ a' w'→PkR E hp w' (List.replicate n 0)→w.heap.size≤hp→Grow w w'→K a' w'):wpOp P ops Q i K a w:=by
 obtain ⟨h1,h2,h3,h4,h5⟩:=hM;obtain ⟨it,hi,hz⟩:=j3.1 h2;have hsz:it.size=1:=by rw [hi] at h3;simpa using h3
 have hby:=h5 it hi;have hm:=run_make (P:=P) w S E it (.int .i64 0) h1 hi hz .i64 .i64 n n zo (Int.le_refl _) (by
  have:it.bytes*n≤8*n:=qK _ hby;have h6:((it.bytes*n:Nat):Int)≤281474976710656:=by omega
  rwa [xG] at h6) zo
 have e1:a.eval (.tmp u)=.int .i64 (n:Nat):=bj (h.vals _ (qa hu));have hcells:madeCells (Value.int .i64 0).cells (n*it.size)=((List.replicate n 0).map λ (x:Int)=>Value.int .i64 x).toArray:=by
  rw [hsz,z8];apply kB;intro j;simp only [madeCells,Value.cells,kz];by_cases hj:j<n
  ·simp [hj,vC]
  ·simp [hj]
 simp only [xa] at hm;rw [hcells] at hm;have hg:Grow w (w.alloc (.cells ((List.replicate n 0).map λ (x:Int)=>Value.int .i64 x).toArray E)):=Grow.alloc _ _;unfold wpOp;simp only [ho,Region.wanted,if_true];exact .inl (bf (w':=w.alloc (.cells ((List.replicate n 0).map λ (x:Int)=>Value.int .i64 x).toArray E)) (v:=.slice (some ⟨w.heap.size,0,none⟩) n n) (by simp [execOp,e1,hm]) (hK _ _ w.heap.size ((h.growM hg).addV hd hΓ hΛ G) (heap_alloc_new w _) (qj _) hg))
theorem Lk {fn:Func}{R:Ending→Yi→Prop}{B N:Nat}(hr:fn.results = #[])(h:St B w0 N Γ Λ a w)(hnd:w0.nd=true)(hR:∀ v w1,Grow w w1→R (.returned v) w1):ce P fn R .ret a w:=by
 refine ⟨[],h.defers.none hnd,.nil,(λ _ h=>by cases h),λ w' hs=>⟨_,results_none hr _ _ _,hR _ _ ⟨hs.os,hs.tape,hs.output,xC hs.size.symm,λ k _=>hs.block k (by simp)⟩⟩⟩
theorem Qe:oi Tryz.prog 31 3 .i64:=⟨by kernel_rfl,by kernel_rfl,by kernel_rfl,by kernel_rfl,λ it h=>by
 have h2:(Tryz.prog.info? 3).map (·.bytes)=some 8:=by kernel_rfl
 rw [h] at h2;exact xC (Option.some.inj h2)⟩
set_option maxHeartbeats 2000000 in
theorem tS {t:RTk}{ah:Ya}{nn:Nat}(hck:ckF t=0)(hnn:t.sp.length=nn+1)(hah:ah.length≤nn∧∀ x∈ah,x<t.ps.length):∀ gs,ItPg Tryz.prog 116 [(30,TkO t),(31,SlO 3 [] (ah.map λ (k:Nat)=>InA (k:Int)) True)] gs (λ k=>[(WyA (dnK (nn+2)+4200) (wayW t (exW t.ps.length ah nn 0 k))).va]) false (cntW t.ps.length ah.length nn 0) [30,31,121,122,U32,28,124] [3]:=by
 intro gs;obtain ⟨hs2,hs13,_⟩:=hd_b (ft hck).1;refine ⟨⟨_,Tryz.func116,by kernel_rfl,by kernel_rfl⟩,λ l B wE Db J0 J Jx hB hgn hcaps hoff hIt hJ0=>?_⟩;have hgb:=(eT hcaps).2;obtain ⟨g0,g1,rfl,c1,c2⟩:=All2.two hcaps;obtain ⟨hb0,cs0,hh0,hp0⟩:=c1;obtain ⟨hb1,cs1,hh1,hp1⟩:=c2;have hT:(ElP 30 (TkO t)).p B (ptr g0) wE:=Do hh0 hp0;have hA:(ElP 31 (SlO 3 [] (ah.map λ (k:Nat)=>InA (k:Int)) True)).p B (ptr g1) wE:=Do hh1 hp1;have hsz:wE.heap.size≤wE.heap.size:=qj _;refine nk (B:=B) [EqV (.func (.yield l) #[] #[]),LA (EqV (ptr g0)) (ElP 30 (TkO t)),EqV (ptr g1)] Tryz.func116 G hB (.cons G (.cons ⟨rfl,hT⟩ (.cons G .nil))) nq (λ w0 a hw0 U=>?_);subst hw0;have U:St B (bo wE) 15 [(0,_),(1,_),(2,_)] [] a wE:=U;refine qb<|zg [] [zpL 3 121 0 _] Uf [.g 1,.g 2] U (oc (C7 G G G (Kz G (gq 0 G))) o0) (λ a w U=>?_);have U:St B (bo wE) 15 [(1,_),(2,_)] [O 3 121 _] a w:=U;obtain ⟨q3,U⟩:=St.nm U 0 rfl;have U:St B (bo wE) 15 [(3,_),(1,_),(2,_)] [O 3 121 _] a w:=U;have hY:=tx U 0 0 rfl rfl;have hgr:=bI U.base;have hT:=VA.grow _ _ _ _ _ hgr hT;have hA:=VA.grow _ _ _ _ _ hgr hA;have hJ0:=hIt.st0 _ _ hJ0 (dk hgr) ((hIt.ct0 _ hJ0).grow hgr);have hsz:=qg hsz hgr.size;have U:=U.here rfl [0,1,2];obtain ⟨w1,rfl⟩:∃ x,x=w:=⟨_,rfl⟩;have U:St B (bo w1) 15 [(3,_),(1,_),(2,_)] [] _ w1:=U;refine zt<|bS (sp:=[.v 6 _,.v 7 _,.skp,.skp,.skp]) 2 3 99 2 OneC [.g 0,.g 1,.g 2,.o 1] U (zv G (ao (has_wk' (gq 1 G) OQ) cp) (zQ G ((oD t).wk (.cons tko_A.va .nil)) (.o (vq 0 G)) o0)) G zd zk zk (λ a w U=>?_);have U:St B (bo w1) 15 [(3,_),(1,_),(2,_),(7,_)] [] a w:=U;rw [show List.range' 2 3=[2,3,4] from rfl];have U:=St.wkG U 1 rfl OR;have U:St B (bo w1) 15 [(3,_),(1,_),(2,_),(7,_)] [] a w:=U;rw [qy];rw [IQ hs2 hs13,show t.sp.length-1=nn by omega] at U;have hsz1:=qg hsz (bI U.base).size;refine Nc (n:=nn) 3 G U Qe G zo zd zk zk (λ a W hp U hqp hge hgp=>?_);obtain ⟨w,rfl⟩:∃ x,x=W:=⟨_,rfl⟩;have U:St B (bo w1) 15 [(8,_),(3,_),(1,_),(2,_),(7,_)] [] a w:=U;have hloh:wE.heap.size≤hp:=qg hsz1 hge;have hgr:=bI U.base;have hT:=VA.grow _ _ _ _ _ hgr hT;have hA:=VA.grow _ _ _ _ _ hgr hA;have hY:=VA.grow _ _ _ _ _ hgr hY;have hJ0:=hIt.st0 _ _ hJ0 (dk hgr) ((hIt.ct0 _ hJ0).grow hgr);have hsz:=qg hsz hgr.size;have U:=U.here rfl [0,1,2,3,4];obtain ⟨w2,rfl⟩:∃ x,x=w:=⟨_,rfl⟩;have U:St B (bo w2) 15 [(8,_),(3,_),(1,_),(2,_),(7,_)] [] _ w2:=U;have U:=St.wkG U 0 rfl (LY rfl);have U:St B (bo w2) 15 [(8,_),(3,_),(1,_),(2,_),(7,_)] [] _ w2:=U;refine fJ 0 [1,2,3] G G U I6 G eJ G zd zk zk zk (λ a w U=>?_);refine eV ?_;have U:St B (bo w2) 15 [(3,_),(1,_),(2,_)] [O 4 31 _] a w:=U;obtain ⟨q4,U⟩:=St.nm U 0 rfl;have U:St B (bo w2) 15 [(4,_),(3,_),(1,_),(2,_)] [O 4 31 _] a w:=U;have hP:=tx U 0 0 rfl rfl;have hqp:=fa hqp (bI U.base);have hgr:=bI U.base;have hT:=VA.grow _ _ _ _ _ hgr hT;have hA:=VA.grow _ _ _ _ _ hgr hA;have hY:=VA.grow _ _ _ _ _ hgr hY;have hJ0:=hIt.st0 _ _ hJ0 (dk hgr) ((hIt.ct0 _ hJ0).grow hgr);have hsz:=qg hsz hgr.size;have U:=U.here rfl [0,1,2,3];obtain ⟨w3,rfl⟩:∃ x,x=w:=⟨_,rfl⟩;have U:St B (bo w3) 15 [(4,_),(3,_),(1,_),(2,_)] [] _ w3:=U;refine zt<|zg [] [zpL 5 122 0 _] Uf Wp U (zY G I7 o0) (λ a w U=>?_);have U:St B (bo w3) 15 [(4,_),(3,_),(1,_),(2,_)] [O 5 122 _] a w:=U;obtain ⟨q5,U⟩:=St.nm U 0 rfl;have U:St B (bo w3) 15 [(5,_),(4,_),(3,_),(1,_),(2,_)] [O 5 122 _] a w:=U;refine zt<|zg Uj [] [.v 9 _,.sto 0] Wi U (zv G (MP (vs:=[ptr g0,ptr q4,ptr q3,ptr g1,ptr q5]) (.cons (gq 3 G) (.cons (gq 1 G) (.cons (gq 2 G) (.p (gq 4 G) (gq 0 G)))))) (zS 0 G AB o0)) (λ a w U=>?_);have U:St B (bo w3) 15 [(5,_),(4,_),(3,_),(1,_),(2,_)] [O 5 122 _] a w:=U;have hD:=tx U 0 0 rfl rfl;have hqp:=fa hqp (bI U.base);have hgr:=bI U.base;have hT:=VA.grow _ _ _ _ _ hgr hT;have hA:=VA.grow _ _ _ _ _ hgr hA;have hY:=VA.grow _ _ _ _ _ hgr hY;have hP:=VA.grow _ _ _ _ _ hgr hP;have hJ0:=hIt.st0 _ _ hJ0 (dk hgr) ((hIt.ct0 _ hJ0).grow hgr);have hsz:=qg hsz hgr.size;have U:=U.here rfl [0,1,2,3,4];obtain ⟨w4,rfl⟩:∃ x,x=w:=⟨_,rfl⟩;have U:St B (bo w4) 15 [(5,_),(4,_),(3,_),(1,_),(2,_)] [] _ w4:=U;have U:=St.elpG U 0 rfl hD;have U:St B (bo w4) 15 [(5,_),(4,_),(3,_),(1,_),(2,_)] [] _ w4:=U;refine aa<|iE (sp:=[.v 10 _,.v 11 _,.v 12 _,.v 13 _,.skp]) [[],[],[1],[1,2],[0,1,2,3]] 4 1 99 4 OneC [.g 0,.g 1,.g 2,.g 3,.g 4,.o 0,.o 3] ac U (zv G (ao (gq 0 G) AB) (zQ G Q0 .nil (zQ G Fj .nil (zv G (aT (qs:=[(0,_),(1,_)]) l5 (.cons ⟨rfl,vq 1 rfl,rfl⟩ (.cons ⟨rfl,vq 2 rfl,rfl⟩ .nil))) o0)))) G zd zd zk (fx zk) zk zk (λ a w U=>?_);have U:St B (bo w4) 15 [(5,_),(4,_),(3,_),(1,_),(2,_),(10,_),(13,_)] [] a w:=U;rw [show List.range' 4 1=[4] from rfl];have e10:=lM (U.vals (10,_) (zm 5 rfl));have hvr:=(U.vals (13,_) (zm 6 rfl));have hqp:=fa hqp (bI U.base);have hgr:=bI U.base;have hT:=VA.grow _ _ _ _ _ hgr hT;have hA:=VA.grow _ _ _ _ _ hgr hA;have hY:=VA.grow _ _ _ _ _ hgr hY;have hP:=VA.grow _ _ _ _ _ hgr hP;have hD:=VA.grow _ _ _ _ _ hgr hD;have hJ0:=hIt.st0 _ _ hJ0 (dk hgr) ((hIt.ct0 _ hJ0).grow hgr);obtain ⟨hi,hhi⟩:∃ x,w.heap.size=x:=⟨_,rfl⟩;have hlt:=(Array.getElem?_eq_some_iff.1 hqp).1;have hJ1:=hIt.go hi w zo hJ0;obtain ⟨e,he⟩:∃ e:DnE,e=⟨l,B,wE.heap.size,hi,hp,nn,g0,q4,q3,g1,q5,t,ah,Db,[g0,g1],cntW t.ps.length ah.length nn 0,J hi,Jx⟩:=⟨_,rfl⟩;have ok:e.Ok:=by subst he;exact ⟨hB,hgb,⟨hloh,by show hp<hi;omega⟩,hck,by show t.sp.length=nn+1;omega,hah,rfl,hoff,λ k W W' hk hj hs hc=>hIt.st hi k W W' hk hj hs hc,λ W W' hj hs hc=>hIt.stM hi W W' hj hs hc,hIt.stx,hIt.ct hi,hIt.ctx,λ k W args hk hj ha=>hIt.yd hi k W args hk hj ha⟩
 have hcall:=Dw ok nn 0 [] 0 w (List.replicate nn 0) (a.eval (.tmp 13)) rfl (by subst he;exact qV _) (λ x hx=>by cases hx) (λ r hr=>by subst he;rw [qV];rfl) (by subst he;rw [qV];exact qj _) (by subst he;exact hJ1) (by subst he;exact ⟨hT,hP,hY,hA,hD⟩) (by subst he;exact hqp) (by subst he;exact ze) rfl (by have h1:=dn_m ok (l:=[]) (zr _) (λ x hx=>by cases hx);subst he;exact (tD rfl rfl h1).va _ _ _ hvr);rw [qy];refine uB (f:=117) (xs:=[.const (.int .i64 0),.const (.int .i64 0),.tmp 13]) (gs:=e.cap) G ⟨_,Tryz.func117,by kernel_rfl,by kernel_rfl⟩ (by subst he;exact e10) hcall (λ x w5 hR=>?_);have hR2:∃ b,x=.returned b∧w.heap.size≤w5.heap.size∧((∃ hi,J hi (cntW t.ps.length ah.length nn 0) w5)∨Jx w5):=by
  subst he;rcases hR with ⟨h1,h2,h3,_⟩|⟨h1,h2,h3⟩
  ·exact ⟨_,h1,h3.size,.inl ⟨hi,by rw [qV] at h2;exact h2⟩⟩
  ·exact ⟨_,h1,h3,.inr h2⟩
 obtain ⟨b,hx,hsz5,hR3⟩:=hR2;refine ⟨_,hx,?_⟩;have U:=(St.bare U rfl hsz5).addV (d:=14) (v:=b) (A:=VT) zd zk zk trivial;refine eV ?_;refine dg<|Lk G U G (λ v w6 hg6=>⟨v,rfl,?_⟩);rcases hR3 with ⟨hi,h1⟩|h1
 ·exact .inl ⟨hi,hIt.stM hi _ _ h1 (dk hg6) ((hIt.ct hi _ _ h1).grow hg6)⟩
 ·exact .inr (hIt.stx _ _ h1 (dk hg6) ((hIt.ctx _ h1).grow hg6))
def ItB (b:Nat)(f:FuncId)(cf:List Nat→List (TypeId × As))(D:List TypeId)(hD:∀ gs,(ItV f (cf gs) gs).deps=D):VA where
 p B v w:=∃ gs,(ItV f (cf gs) gs).p B v w∧∀ g∈gs,b≤g
 deps:=D
 cg:=λ B v w w' hg ⟨gs,h1,h2⟩=>⟨gs,(ItV f (cf gs) gs).cg B v w w' hg h1,h2⟩
 wr:=λ B v w w' g c T fz h1 hT h3 h4 ⟨gs,h5,h6⟩=>⟨gs,(ItV f (cf gs) gs).wr B v w w' g c T fz h1 (by rw [hD gs];exact hT) h3 h4 h5,h6⟩
def ItM (f:FuncId)(cf:List Nat→List (TypeId × As))(D:List TypeId)(hD:∀ gs,(ItV f (cf gs) gs).deps=D)(ns:List Nat):VA where
 p B v w:=∃ gs,(ItV f (cf gs) gs).p B v w∧∀ n∈ns,n ∉ gs
 deps:=D
 cg:=λ B v w w' hg ⟨gs,h1,h2⟩=>⟨gs,(ItV f (cf gs) gs).cg B v w w' hg h1,h2⟩
 wr:=λ B v w w' g c T fz h1 hT h3 h4 ⟨gs,h5,h6⟩=>⟨gs,(ItV f (cf gs) gs).wr B v w w' g c T fz h1 (by rw [hD gs];exact hT) h3 h4 h5,h6⟩
def CapN (Γ:List (Nat × VA))(Λ:List Lc):List Nat→List (TypeId × As)→List Nat→List (Nat × Nat)→Prop
 | [],[],[],[]=>True
 | g::gs,c::cs,s::ss,(x,y)::ix=>(Γ[x]?=some (s,EqV (ptr g))∧Λ[y]?=some ⟨s,c.1,ptrH,c.2⟩)∧CapN Γ Λ gs cs ss ix
 | _,_,_,_=>False
theorem tK {B N:Nat}{w0:Bs}{Γ:Yf}{Λ:List Lc}{a:Act}{w:Yi}(h:St B w0 N Γ Λ a w):∀ {gs:Ya}{cs:List (Yh × As)}{ss:Ya}{ix:List (Nat × Nat)},CapN Γ Λ gs cs ss ix →
  oj B w cs gs∧(∀ g∈gs,w0.may g)∧∀ g∈gs,∃ s∈ss,∃ l∈Λ,l.s=s∧a.eval (.tmp s)=ptr g
 | [],[],[],[],_=>⟨.nil,(λ _ h=>by cases h),(λ _ h=>by cases h)⟩
 | g::gs,c::cs,s::ss,(x,y)::ix,hc=>by
  obtain ⟨⟨e1,e2⟩,h3⟩:=hc;obtain ⟨i1,i2,i3⟩:=tK h h3;have hn:a.eval (.tmp s)=ptr g:=h.vals _ (qa e1);obtain ⟨g',ds,f1,f2,f3,f4⟩:=h.locs _ (qa e2);have f1':a.eval (.tmp s)=ptr g':=f1;have eg:g'=g:=by rw [hn] at f1';injection f1' with f1';injection f1' with f1';injection f1' with f1';exact f1'.symm
  subst eg;refine ⟨.cons ⟨h.lo _ f2,ds,f3,f4⟩ i1,λ g hg=>?_,λ g hg=>?_⟩
  ·rcases qt.1 hg with rfl|hg
   ·exact f2
   ·exact i2 g hg
  ·rcases qt.1 hg with rfl|hg
   ·exact ⟨s,xx,_,qa e2,rfl,hn⟩
   ·obtain ⟨s',q1,q2⟩:=i3 g hg;exact ⟨s',zx _ q1,q2⟩
 | [],_::_,_,_,h=>h.elim
 | [],[],_::_,_,h=>h.elim
 | [],[],[],_::_,h=>h.elim
 | _::_,[],_,_,h=>h.elim
 | _::_,_::_,[],_,h=>h.elim
 | _::_,_::_,_::_,[],h=>h.elim
theorem DR {B N:Nat}{w0:Bs}{Γ:Yf}{Λ:List Lc}{a:Act}{w:Yi}(h:St B w0 N Γ Λ a w):∀ {gs:Ya}{cs:List (Yh × As)}{ss:Ya}{ix:List (Nat × Nat)},CapN Γ Λ gs cs ss ix→ss.Nodup→gs.Nodup
 | [],_,_,_,_,_=>jg
 | g::gs,c::cs,s::ss,(x,y)::ix,hc,hn=>by
  obtain ⟨⟨e1,e2⟩,h3⟩:=hc;obtain ⟨n1,n2⟩:=jr.1 hn;refine jr.2 ⟨λ hm=>?_,DR h h3 n2⟩;obtain ⟨s',q1,l,q2,q3,q4⟩:=(tK h h3).2.2 g hm;have hg:a.eval (.tmp s)=ptr g:=h.vals _ (qa e1);refine h.dis _ (qa e2) l q2 (λ e=>n1 ?_) ?_
  ·have e':s=l.s:=e;rw [e',q3];exact q1
  ·show blk (a.eval (.tmp s))=blk (a.eval (.tmp l.s));rw [q3,q4,hg]
 | _::_,[],_,_,h,_=>by simp [CapN] at h
 | _::_,_::_,[],_,h,_=>by simp [CapN] at h
 | _::_,_::_,_::_,[],h,_=>by simp [CapN] at h
theorem Mz {fn:Func}{B N t:Nat}{f:Ym}{cf:Ya→List (Yh × As)}{hD:∀ gs,(ItV f (cf gs) gs).deps=D}(gs ss:Ya)(ix:List (Nat × Nat))(hr:fn.results = #[.tmp t])(h:St B w0 N Γ Λ a w)(hF:∀ g,¬ w0.F g)
  (hm:(t,(EqA (.func (.func f) #[] (gs.map ptr).toArray)).va)∈Γ) (hc:CapN Γ Λ gs (cf gs) ss ix) (hs:ss.Nodup):ce P fn (RQ B w0 (ItB w0.w.heap.size f cf D hD)) .ret a w :=
 gz h λ w h=>by
  have h1:=tK h hc;refine ⟨_,results_tmp hr a.tmps P w,_,rfl,⟨gs,⟨lM (h.vals _ hm),DR h hc hs,h1.1⟩,λ g hg=>?_⟩,h.base⟩;rcases h1.2.1 g hg with q|q
  ·exact q
  ·exact absurd q (hF _)
theorem St.itm {B N:Nat}{s:Nat}{f:Ym}{cf:Ya→List (Yh × As)}{hD:∀ gs,(ItV f (cf gs) gs).deps=D}{ps:List (Nat × Nat)}(k:Nat)(ks:Ya)(h:St B w0 N Γ Λ a w)(hm:Γ[k]?=some (s,ItM f cf D hD (ps.map Prod.snd)))(hn:Nmd Γ ps ks):
  ∃ gb,St B w0 N (Γ.set k (s,ItV f (cf gb) gb)) Λ a w∧∀ t∈ps.map xe,∀ g,blk (a.eval (.tmp t))=some g→g ∉ gb:=by
 obtain ⟨gb,h1,h2⟩:=h.vals _ (qa hm);refine ⟨gb,⟨h.lo,h.defers,h.size,h.base,λ x hx=>?_,h.locs,h.dis⟩,λ t ht g hg=>?_⟩
 ·rcases qB hx with hx|rfl
  ·exact h.vals x hx
  ·exact h1
 ·have key:∀ (ps:List (Nat × Nat)) (ks:List Nat),Nmd Γ ps ks→∀ p∈ps,a.eval (.tmp p.1)=ptr p.2:=by
   intro ps
   induction ps with
   | nil=>intro _ _ p hp;cases hp
   | cons q ps ih =>
    intro ks hk p hp;cases ks with
    | nil=>exact hk.elim
    | cons k ks =>
     obtain ⟨e1,e2⟩:=hk;rcases qt.1 hp with rfl|hp
     ·exact h.vals _ (qa e1)
     ·exact ih ks e2 p hp
  obtain ⟨p,hp,rfl⟩:=qr.1 ht;rw [key ps ks hn p hp] at hg;have:p.2=g:=by injection hg
  rw [← this];exact h2 p.2 (qr.2 ⟨p,hp,rfl⟩)
section
variable {P:Program}{R:Rg}{Q:Exit→Act→World→Prop}{B i:Nat}{w0:Bs}
theorem oK {f f':Ym}{pre:Yc}{cf:Ya→List (Yh × As)}{hD:∀ gs,(ItV f (cf gs) gs).deps=D}{xs:Yr}{at_:Yq}(ns:List (Nat × Nat))(hc:CnI P f' pre (λ b=>ItB b f cf D hD))(hx:HasL R B w0 i xs pre)(hns:Nmo R B w0 i ns):
  Wv P Q R B w0 i (.call ⟨.value (.func f'),xs.toArray,at_⟩) (ItM f cf D hD (ns.map Prod.snd)):=by
 intro d T' ps af gd a w av K hK;obtain ⟨⟨fn,hf,hn,hb⟩,hcall⟩:=hc;have hrun:(execOp a.eval ⟨some d,.call ⟨.value (.func f'),xs.toArray,at_⟩,T',ps,af,gd⟩).run P w=.ok (.enter f' (xs.map a.eval).toArray) w:=by
  have e1:a.eval (.func f')=.func (.func f') #[] #[]:=rfl;simp only [execOp,resolve,e1,Deferred.ofValue,Sem.run_bind,Sem.run_pure,Result.andThen_ok,invoke,bi hf hn hb];simp
 unfold Oper.wp;rw [hrun];refine (hcall B w _ (Av.bw av) (hx.all av)).mono λ e w' ⟨v,he,⟨gs,h1,h2⟩,hg⟩=>?_;subst he;refine hK v w' hg ⟨gs,h1,λ n hn' hm=>?_⟩;obtain ⟨p,hp',rfl⟩:=qr.1 hn';have h3:=hns.lt av p hp';have h4:=h2 _ hm;omega
end
abbrev alC (t:RTk)(ah:List Nat)(_:List Nat):List (TypeId × As):=[(30,TkO t),(31,SlO 3 [] (ah.map λ (k:Nat)=>InA (k:Int)) True)]
abbrev alDs:List TypeId:=[30,31,U32,U32,U32,U32]
theorem al_D (t:RTk)(ah:Ya):∀ gs,(ItV 116 (alC t ah gs) gs).deps=alDs:=λ _=>rfl
theorem E5 (t:RTk)(ah:Ya):CnI Tryz.prog 31 [(TkO t).va,(SlO 3 [] (ah.map λ (k:Nat)=>InA (k:Int)) True).va] (λ b=>ItB b 116 (alC t ah) alDs (al_D t ah)):=by
 refine CnI.introF Tryz.func31 G zk nq (λ B w0 a hF0 hF U=>?_);have U:=zn [(0,(TkO t).va),(1,(SlO 3 [] (ah.map λ (k:Nat)=>InA (k:Int)) True).va)] [] U;refine qb<|zg [] [zpL 2 30 0 _,zpL 3 31 1 _] UC Ud U (zW 0 G (zW 1 G (zE G aX))) (zz U3 [O 2 30 _,O 3 31 _] λ a w U=>?_);refine zt ?_;obtain ⟨q2,U⟩:=St.nm U 0 rfl;obtain ⟨q3,U⟩:=St.nm U 1 rfl;refine zg UH [] [.v 5 _,.v 4 _] UI U (zv G (MP (vs:=[ptr q2,ptr q3]) (.p (gq 1 G) (gq 0 G))) (zA 0 G o0)) (zz (Wa 3 2 4) [O 2 30 _,O 3 31 _] λ a w U=>?_);exact aa<|qi<|Mz [q2,q3] [2,3] [(1,0),(0,1)] G U hF0 (zm 2 G) ⟨⟨rfl,rfl⟩,⟨rfl,rfl⟩,trivial⟩ zd
def SlP (q:Nat→Prop)(E:TypeId)(D:List TypeId)(l:List As):As where
 n:=1
 ag:=false
 p B cs w:=(SlA E D l).p B cs w∧∀ v∈cs,∀ g,blk v=some g→q g
 deps:=E::D
 len:=λ B cs w h=>(SlA E D l).len B cs w h.1
 one:=λ B cs w h=>(SlA E D l).one B cs w h.1
 ag1:=λ _=>rfl
 cg:=λ B cs w w' hg h=>⟨(SlA E D l).cg B cs w w' hg h.1,h.2⟩
 wr:=λ B cs w w' g c T fz h1 h2 h3 h4 h=>⟨(SlA E D l).wr B cs w w' g c T fz h1 h2 h3 h4 h.1,h.2⟩
theorem Mo {q:Nat→Prop}{E:Yh}:WkA (SlP q E D l) (SlA E D l):=⟨rfl,rfl,λ _ _ _ h=>h.1⟩
theorem Ew {q q':Nat→Prop}{E:Yh}(h:∀ g,q g→q' g):WkA (SlP q E D l) (SlP q' E D l):=⟨rfl,rfl,λ _ _ _ hp=>⟨hp.1,λ v hv g hg=>h g (hp.2 v hv g hg)⟩⟩
theorem uc {lo hi:Nat}{Tp Tc:Yp}{q:Nat→Prop}{E:Yh}{l:Yb}(hE:Tc.contains E=false)(hl:offD (Tc++Tp) (cat l).deps=true)(hq:∀ g,q g→¬ (lo≤g∧g<hi)):StVA lo hi Tp Tc (SlP q E D l):=by
 rintro B cs gs W W' hlo ⟨⟨hD,A,c,ds,rfl,h1,h2,h3,h4⟩,h5⟩ hs hc hb;refine ⟨⟨hD,A,c,ds,rfl,h1,h2,cK hl _ _ _ _ _ hlo h3 hs hc hb,λ hn=>?_⟩,h5⟩;obtain ⟨b,o,rfl,h6,h7,h8⟩:=h4 hn;have hbk:W'.heap[b]?=W.heap[b]?:=hs.block b h6 (λ hF=>by
  rcases hF with hF|⟨q1,q2,_⟩
  ·rcases h7 with h7|⟨c',fz,h7⟩
   ·have:=hb b hF;omega
   ·obtain ⟨c2,T,fz2,e1,e2⟩:=hc b hF;rw [h7] at e1;injection e1 with e1;injection e1 with _ e1 _;rw [← e1] at e2;have hE':E ∉ Tc:=by simpa using hE
    exact hE' e2
  ·exact hq b (h5 _ (qo.2 G) b G) ⟨q1,q2⟩)
 refine ⟨b,o,rfl,qE h6 hs.size,?_,λ j v hv=>?_⟩
 ·rcases h7 with h7|⟨c',fz,h7⟩
  ·exact .inl h7
  ·exact .inr ⟨c',fz,hbk.trans h7⟩
 ·rw [← h8 j v hv];exact World.cell?_of_block hbk
theorem ue {lo hi:Nat}{Tp Tc:Yp}:∀ {l:Yb},(∀ A∈l,StVA lo hi Tp Tc A)→StVA lo hi Tp Tc (cat l):=λ {l} hl B cs gs W W' hlo hp hs hc hb=>by
 obtain ⟨ps,rfl,h2⟩:=hp;refine ⟨ps,rfl,?_⟩;revert hl
 induction h2 with
 | nil=>exact λ _=>.nil
 | cons h _ ih=>exact λ hl=>.cons (hl _ xx _ _ _ _ _ hlo h hs hc hb) (ih λ A hA=>hl A (zx _ hA))
def Pa (lo hi:Nat)(Tp Tc:List TypeId):List Lc→Prop
 | []=>True
 | l::L=>StVA lo hi Tp Tc l.A∧Pa lo hi Tp Tc L
theorem stVL {lo hi:Nat}{Tp Tc:Yp}:∀ {L:List Lc},Pa lo hi Tp Tc L→∀ l∈L,StVA lo hi Tp Tc l.A
 | _::_,h,l,hl=>by
  rcases qt.1 hl with rfl|hl
  ·exact h.1
  ·exact stVL h.2 l hl
def optA (k:Nat)(Z X:As)(h:X.n=Z.n∧X.ag=Z.ag):As where
 n:=Z.n
 ag:=Z.ag
 p B cs w:=(k=0∧Z.p B cs w)∨(k≠0∧X.p B cs w)
 deps:=Z.deps++X.deps
 len:=λ B cs w hp=>by
  rcases hp with ⟨_,hp⟩|⟨_,hp⟩
  ·exact Z.len _ _ _ hp
  ·exact (X.len _ _ _ hp).trans h.1
 one:=λ B cs w hp=>by
  rcases hp with ⟨_,hp⟩|⟨_,hp⟩
  ·exact Z.one _ _ _ hp
  ·exact X.one _ _ _ hp
 ag1:=Z.ag1
 cg:=λ B cs w w' hg hp=>by
  rcases hp with ⟨h1,hp⟩|⟨h1,hp⟩
  ·exact .inl ⟨h1,Z.cg _ _ _ _ hg hp⟩
  ·exact .inr ⟨h1,X.cg _ _ _ _ hg hp⟩
 wr:=λ B cs w w' g c T fz h1 h2 h3 h4 hp=>by
  simp only [qp,not_or] at h2;rcases hp with ⟨h5,hp⟩|⟨h5,hp⟩
  ·exact .inl ⟨h5,Z.wr _ _ _ _ _ _ _ _ h1 h2.1 h3 h4 hp⟩
  ·exact .inr ⟨h5,X.wr _ _ _ _ _ _ _ _ h1 h2.2 h3 h4 hp⟩
theorem yB {Z X:As}{h:X.n=Z.n∧X.ag=Z.ag}:WkA Z (optA 0 Z X h):=⟨rfl,rfl,λ _ _ _ hp=>.inl ⟨rfl,hp⟩⟩
theorem yA {k:Nat}{Z X:As}{h:X.n=Z.n∧X.ag=Z.ag}(hk:k≠0):WkA X (optA k Z X h):=⟨h.1.symm,h.2.symm,λ _ _ _ hp=>.inr ⟨hk,hp⟩⟩
theorem yz {k:Nat}{Z X:As}{h:X.n=Z.n∧X.ag=Z.ag}(hk:k≠0):WkA (optA k Z X h) X:=⟨h.1,h.2,λ _ _ _ hp=>by
 rcases hp with ⟨h1,_⟩|⟨_,hp⟩
 ·exact absurd h1 hk
 ·exact hp⟩
theorem ud {lo hi k:Nat}{Tp Tc:Yp}{Z X:As}{h:X.n=Z.n∧X.ag=Z.ag}(hZ:StVA lo hi Tp Tc Z)(hX:k≠0→StVA lo hi Tp Tc X):StVA lo hi Tp Tc (optA k Z X h):=λ B cs gs W W' hlo hp hs hc hb=>by
 rcases hp with ⟨h1,hp⟩|⟨h1,hp⟩
 ·exact .inl ⟨h1,hZ _ _ _ _ _ hlo hp hs hc hb⟩
 ·exact .inr ⟨h1,hX h1 _ _ _ _ _ hlo hp hs hc hb⟩
def WyP (q:Nat→Prop)(k:Nat)(x:WyQ):As:=cat [SlP q 3 [] (x.l.map InA),QA k x.pw,QA k x.aw,InA x.c]
theorem Ib {q:Nat→Prop}:WkA (WyP q k x) (WyA k x):=br (.cons Mo (.cons (.refl _) (.cons (.refl _) (.cons (.refl _) .nil))))
theorem uS (l:Yk):offD D (cat (l.map InA)).deps=true:=qf.2 λ T hT=>by
 obtain ⟨A,hA,hT⟩:=jD.1 hT;obtain ⟨x,_,rfl⟩:=qr.1 hA;cases hT
theorem Eu {lo hi k:Nat}{q:Nat→Prop}{x:WyQ}(hq:∀ g,q g→¬ (lo≤g∧g<hi)):StVA lo hi [3] [30,31] (WyP q k x):=ue λ A hA=>by
 simp only [qt,zw,or_false] at hA;rcases hA with rfl|rfl|rfl|rfl
 ·exact uc zd (uS _) hq
 ·exact cK zk
 ·exact cK zk
 ·exact cK zk
theorem Pb {k B:Nat}{x:WyQ}(hl:0<x.l.length)(h:(WyA k x).p B cs w):(WyP (λ g=>g<w.heap.size) k x).p B cs w:=by
 obtain ⟨ps,rfl,h2⟩:=h;refine ⟨ps,rfl,?_⟩;cases h2 with
 | cons h1 h2 =>
  refine .cons ⟨h1,?_⟩ h2;obtain ⟨_,A,c,ds,rfl,_,_,h3,h4⟩:=h1;intro v hv g hg;obtain rfl:=qo.1 hv;obtain ⟨b,o,rfl,h6,_⟩:=h4 (by rw [qd];exact hl);have:b=g:=by simpa [blk] using hg
  omega
theorem St.upL {B N:Nat}(h:St B w0 N Γ Λ a w){s T:Nat}{A A':As}(i:Nat)(hm:Λ[i]?=some ⟨s,T,H,A⟩)(hA:∀ cs,A.p B cs w→A'.p B cs w):St B w0 N Γ (Λ.set i ⟨s,T,H,A'⟩) a w:=by
 have hin:∀ m∈Λ.set i ⟨s,T,H,A'⟩,∃ m'∈Λ,m'.s=m.s:=λ m hm'=>by
  rcases qB hm' with hm' | rfl
  ·exact ⟨m,hm',rfl⟩
  ·exact ⟨_,qa hm,rfl⟩
 refine ⟨h.lo,h.defers,h.size,h.base,h.vals,λ m hm'=>?_,λ m h1 m' h2 hne=>?_⟩
 ·rcases qB hm' with hm' | rfl
  ·exact h.locs m hm'
  ·obtain ⟨g,cs,e1,e2,e3,e4⟩:=h.locs _ (qa hm);exact ⟨g,cs,e1,e2,e3,hA cs e4⟩
 ·obtain ⟨p,q1,q2⟩:=hin m h1;obtain ⟨p',q3,q4⟩:=hin m' h2;rw [← q2,← q4];exact h.dis p q1 p' q3 (by rw [q2,q4];exact hne)
def ElQ (gb:List Nat)(b0:Nat)(E:TypeId)(A:As):VA where
 p B v w:=(ElP E A).p B v w∧∃ g,v=ptr g∧g ∉ gb∧g<b0
 deps:=E::A.deps
 cg:=λ B v w w' hg h=>⟨(ElP E A).cg _ _ _ _ hg h.1,h.2⟩
 wr:=λ B v w w' g c T fz h1 h2 h3 h4 h=>⟨(ElP E A).wr _ _ _ _ _ _ _ _ h1 h2 h3 h4 h.1,h.2⟩
theorem Qy {gb:Ya}{b0:Nat}{E:Yh}{A:As}:Wk (ElQ gb b0 E A) (ElP E A):=λ _ _ _ h=>h.1
theorem IL {lo0:Nat}{Tp Tc:Yp}{gb:Ya}{E:Yh}{A:As}(hA:offD (Tc++Tp) A.deps=true):StG lo0 Tp Tc gb (ElQ gb lo0 E A):=by
 rintro B v lo hi W W' hlo hlo0 ⟨⟨b,o,cs,rfl,h1,h2,h3,h4⟩,g,hg,hgb,hg0⟩ hs hc hb;have e:b=g:=by injection hg with hg;injection hg with hg;injection hg
 subst e;have hbk:W'.heap[b]?=W.heap[b]?:=hs.block b h1 (λ hF=>by
  rcases hF with hF|⟨q1,_⟩
  ·exact hgb hF
  ·omega)
 refine ⟨⟨b,o,cs,rfl,qE h1 hs.size,?_,cK hA _ _ _ _ _ hlo h3 hs hc hb,λ j u hu=>?_⟩,b,hg,hgb,hg0⟩
 ·rcases h2 with h7|⟨c',fz,h7⟩
  ·exact .inl h7
  ·exact .inr ⟨c',fz,hbk.trans h7⟩
 ·rw [← h4 j u hu];exact World.cell?_of_block hbk
theorem St.toQ {B N:Nat}(h:St B w0 N Γ Λ a w){s:Nat}{A:As}{gb:Ya}(k:Nat)(hm:Λ[k]?=some ⟨s,T,ptrH,A⟩)(hd:∀ g,blk (a.eval (.tmp s))=some g→g ∉ gb):St B w0 N ((s,ElQ gb w.heap.size T A)::Γ) (Λ.eraseIdx k) a w:=by
 have h2:=St.ofPtr h k hm;obtain ⟨g,cs,e1,_,e3,e4⟩:=h.locs _ (qa hm);have e1':a.eval (.tmp s)=ptr g:=e1;refine ⟨h2.lo,h2.defers,h2.size,h2.base,λ x hx=>?_,h2.locs,h2.dis⟩;rcases qt.1 hx with rfl|hx
 ·exact ⟨h2.vals _ xx,g,e1',hd g (by rw [e1'];rfl),(Array.getElem?_eq_some_iff.1 e3).1⟩
 ·exact h2.vals x (zx _ hx)
theorem pO {ah:Ya}:∀ f i,i+f=ah.length→exW p ah f i 0=ah.drop i
 | 0,i,h=>by rw [zH zo];rfl
 | f+1,i,h=>by rw [HB zo,pO f (i+1) zo,← qL zo]
def natL (l:List Int):List Nat:=l.map Int.toNat
theorem mm {t:RTk}{l:Yk}{nn:Nat}(h:whF t l=true)(h1:t.sp.length=nn+1)(h2:nn≤12):l=(natL l).map (λ (k:Nat)=>(k:Int))∧(natL l).length=nn∧∀ x∈natL l,x<t.ps.length:=by
 unfold whF pkF at h;simp only [qm,xw,qJ,qz] at h;obtain ⟨h3,_,h4⟩:=h;have hs:sloF t=(nn:Int):=by
  unfold sloF;rw [wi64 zo zo];omega
 rw [hs] at h3;have h5:∀ x∈l,0≤x∧x<(t.ps.length:Int):=λ x hx=>by
  have:=xv.1 h4 x hx;unfold pkQ at this;simp only [z4,qJ,not_or] at this;omega
 refine ⟨?_,by unfold natL;rw [qd];omega,λ x hx=>?_⟩
 ·unfold natL;rw [xE];exact (vF l).symm.trans (jm λ x hx=>by
   have:=(h5 x hx).1;show x=((x.toNat:Nat):Int);omega)
 ·obtain ⟨y,hy,rfl⟩:=qr.1 hx;have:=h5 y hy;omega
theorem AV {m:Ya}(h:l=m.map (λ (k:Nat)=>(k:Int))):SlO 3 [] (l.map InA) True=SlO 3 [] (m.map λ (k:Nat)=>InA (k:Int)) True:=by rw [h,xE];rfl
theorem Il (l:Yk):UpA (SlA 3 [] (l.map InA)) (SlO 3 [] (l.map InA) True):=iY λ A hA=>by
 obtain ⟨x,_,rfl⟩:=qr.1 hA;exact lD _ _
theorem sy {t:RTk}{ah:Ya}{nn:Nat}(hck:ckF t=0)(hnn:t.sp.length=nn+1)(hl:ah.length=nn)(hah:∀ x∈ah,x<t.ps.length)(gs:Ya):ItPg Tryz.prog 116 (alC t ah gs) gs (λ k=>[(WyA (dnK (nn+2)+4200) (wayW t (exW t.ps.length ah nn 0 k))).va]) false 1 [30,31,121,122,U32,28,124] [3]:=by
 have h:=tS hck hnn ⟨xC hl,hah⟩ gs;rwa [sk nn 0 ah.length zo] at h
def btF (t:RTk)(xs ys:List Int):Bool × Int:=if ckF t != 0 then (false,ckF t) else if whF t xs&&whF t ys then (betF (wayW t (natL xs)) (wayW t (natL ys)),0) else (false,1)
theorem KU (b:Bool)(k:Int):Free (Tu [Bo b,In k]) (Tu [Bo b,In k]):=pA (.cons (ep _).va (.cons (co _ _).va .nil))
abbrev WyZ:As:=cat [EqA (.slice none 0 0),RFA rf0,RFA rf0,NumA .i64 0]
abbrev Wk26 (nn:Nat):Nat:=dnK (nn+2)+4200
theorem gL {nn:Nat}(h:nn≤12):Wk26 nn≤400000000:=by unfold Wk26 dnK;omega
abbrev WyX (t:RTk)(nn:Nat)(a:List Nat):As:=WyA (Wk26 nn) (wayW t a)
theorem GT {lo hi:Nat}:StVA lo hi [3] [30,31] WyZ:=cK zk
abbrev WyO (t:RTk)(nn:Nat)(a:List Nat)(k:Nat):As:=optA k WyZ (WyX t nn a) ⟨rfl,rfl⟩
theorem LR {t:RTk}{nn:Nat}{a:Ya}:WkA WyZ (WyO t nn a 0):=yB
theorem LQ {t:RTk}{nn k:Nat}{a:Ya}:WkA (WyX t nn a) (WyO t nn a (k+1)):=yA (xU k)
theorem LP {t:RTk}{nn k:Nat}{a:Ya}:WkA (WyO t nn a (k+1)) (WyX t nn a):=yz (xU k)
theorem GG {t:RTk}{nn k lo hi:Nat}{a:Ya}(hk:k<1):StVA lo hi [3] [30,31] (WyO t nn a k):=ud GT λ h=>absurd h zo
theorem Ij {t:RTk}{a:Ya}{nn:Nat}(h:a.length=nn)(h1:0<nn):0<(wayW t a).l.length:=by
 show 0<(a.map _).length;rw [qd];omega
set_option maxHeartbeats 2000000 in
theorem Ac (t:RTk)(xs ys:Yk):Cn Tryz.prog 10 [(TkA t).va,(SlA 3 [] (xs.map InA)).va,(SlA 3 [] (ys.map InA)).va] (Tu [Bo (btF t xs ys).1,In (btF t xs ys).2]):=by
 refine Cn.introR Tryz.func10 G zk nq (.cons (u5 t).va (.cons (Il xs).va (.cons (Il ys).va .nil))) (KU _ _) (λ B w0 a hB0 hN0 U=>?_);have U:=zn [(0,(TkO t).va),(1,(SlO 3 [] (xs.map InA) True).va),(2,(SlO 3 [] (ys.map InA) True).va)] [] U;refine qb<|zg [] [zpL 3 30 0 _] (.alc 0::(W6 6)) [.g 1,.g 2,.o 1,.o 2] U (zW 0 G (zv G (aR aE) (zE G ab))) (zz (Wf 1 2 6 7) S7 ?_);refine ztA<|zsA<|zgA U4 [] (W6 13 [.v 8 _]) RT (zl 0 G cp (zQ G ((lY t).wk (.cons tko_A.va .nil)) (.o (vq 0 G)) (zA 1 G o0))) (zz (W8 1 2 6 7 8) S7 ?_);refine ztA<|zgA U4 [] (W6 15) U8 (zM 4 G (zv G (ca (vq 0 G) ab) o0)) (zz (Wj 1 2 6 7 8 16) S7 λ a w U=>?_);refine zJ 5 U G (λ hb0=>?_) (λ hb0=>?_)
 ·refine qb<|zg U6 [] (.v 17 _::(W6 6)) (We [.o 1,.o 2]) U (zM 4 G (zv G (aR aE) (zA 0 G o0))) (zz (Wf 1 2 6 7) S7 λ a w U=>?_);refine aa<|qi<|aj ?_;refine al ?_ (aP (rs:=[.tmp 6,.tmp 7]) G U (.tmp (zm 2 G) (.tmp (zm 3 G) .nil)) zd);rw [btF,qD hb0];exact aG
 ·have hck:ckF t=0:=by simpa using hb0
  obtain ⟨hs2,hs13,_⟩:=hd_b (ft hck).1;obtain ⟨nn,hnn⟩:∃ nn,t.sp.length=nn+1:=⟨t.sp.length-1,by omega⟩;have hn1:0<nn:=by omega
  have hn12:nn≤12:=by omega
  refine qk<|zt<|qb<|zg U6 [] (Wd 18 [.f 23 _,.f 24 _,.f 25 _,.f 26 _,.v 27 _]) (Wp [.o 9]) U (zl 0 G cp (zM 0 G (zQ G ((sA t xs).wk (.cons tko_A.va (.cons slo_A.va .nil))) (.p (vq 0 G) (vq 1 G)) (zv G (dc (vq 2 G)) (zV 3 G (zB 4 G (λ hg=>eL (lz0 0 G) cp) (zB 4 G (λ hg=>aq (gq 1 G)) (zB 4 G (λ hg=>be ((sA t ys).wk (.cons tko_A.va (.cons slo_A.va .nil))) (.p (ae (vq 5 G) hg) (ae (vq 6 G) hg))) (zB 4 G (λ hg=>dc (ae (vq 7 G) hg)) (zv G (r_or (vq 4 G) (vq 8 G)) o0)))))))))) (zz (W8 1 2 6 7 27) S7 λ a w U=>?_);refine zJ 4 U G (λ hb1=>?_) (λ hb1=>?_)
  ·have hw:(whF t xs&&whF t ys)=false:=by cases h1:whF t xs <;> cases h2:whF t ys <;> simp_all
   refine qb<|zg U6 [] (W6 6) Ri U (zv G (aR aE) (zE G ab)) (zz (Wf 1 2 6 7) S7 λ a w U=>?_);refine aa<|qi<|aj ?_;refine al ?_ (aP (rs:=[.tmp 6,.tmp 7]) G U (.tmp (zm 2 G) (.tmp (zm 3 G) .nil)) zd);rw [btF,qA (by rw [hb0];decide),qA (by rw [hw];decide)];exact aG
  ·have hw:(whF t xs&&whF t ys)=true:=by cases h1:whF t xs <;> cases h2:whF t ys <;> simp_all
   have hw2:=hw;rw [qm] at hw2;obtain ⟨hxe,hxl,hxp⟩:=mm hw2.1 hnn hn12;obtain ⟨hye,hyl,hyp⟩:=mm hw2.2 hnn hn12;obtain ⟨u1,ha1⟩:∃ l,natL xs=l:=⟨_,rfl⟩;obtain ⟨v1,hb1e⟩:∃ l,natL ys=l:=⟨_,rfl⟩;rw [ha1] at hxe hxl hxp;rw [hb1e] at hye hyl hyp;refine qk<|zt ?_;have U:=St.wkG U 0 rfl (ba (qq As.va (AV hxe)));have U:=St.wkG U 1 rfl (ba (qq As.va (AV hye)));have U:=zn (W8 1 2 6 7 27) S7 U;refine zg U6 [zpL 9 82 0 _,zpL 10 82 1 _] [.alc 1,.alc 2] Wp U (zY G (Str.zero eZ) (zY G (Str.zero eZ) o0)) (zz (Wf 1 2 6 7) S8 λ a w U=>?_);refine zt<|qb ?_;obtain ⟨q3,U⟩:=St.nm U 0 rfl;obtain ⟨q9,U⟩:=St.nm U 1 rfl;obtain ⟨q10,U⟩:=St.nm U 2 rfl;refine zg US [] (Wb 28) (W7 [.g 4,.g 5,.g 6,.o 2]) U (zl 0 G cp (zM 3 G (zv G (oK [(3,q3),(9,q9),(10,q10)] (E5 t u1) (.p (vq 0 G) (vq 1 G)) (.cons (gq 2 G) (lz0 0 G) (.cons (gq 1 G) (lz0 1 G) (.cons (gq 0 G) (lz0 2 G) .nil)))) o0))) (zz (Wu 10 9 3 2 6 7 30) S8 λ a w U=>?_);obtain ⟨gb,U,hds⟩:=St.itm (ps:=[(3,q3),(9,q9),(10,q10)]) 6 [2,1,0] U rfl ⟨rfl,rfl,rfl,trivial⟩;have U:=zn (Wu 10 9 3 2 6 7 30) S8 U;have U:=St.toQ U 0 rfl (hds 3 xx);have U:=St.sel U [0,1,2,4,5,6,7];have U:=zn (Wu 3 10 9 2 6 7 30) S9 U;have hdis:∀ s∈[9,10],∀ g,blk (a.eval (.tmp s))=some g→g ∉ gb:=λ s hs=>hds s (zx _ hs);refine aa<|ql ?_;have U:=St.selL U [0,1];refine iD (k0:=6) (gb:=gb) (Dd:=[30,31,121,122,U32,28,124]) (Db:=[82]) (Tp:=[3]) [⟨9,82,ptrH,WyZ⟩,⟨10,82,ptrH,WyZ⟩] (λ hi k=>[⟨9,82,ptrH,WyO t nn u1 k⟩,⟨10,82,ptrH,WyZ⟩]) none (λ _=>none) U hB0 hN0 rfl (sy hck hnn hxl hxp gb) (M:=1) (Y:=λ k=>[(WyX t nn (exW t.ps.length u1 nn 0 k)).va]) (λ h=>by cases h) zk [0,3] zk ⟨IL zk,IK zk,trivial⟩ (λ hi k=>by kernel_rfl) (λ lo hi k hk hlo hw=>stVL ⟨GG hk,GT,trivial⟩) (λ _=>by kernel_rfl) zk [9,10] (λ _ k=>by kernel_rfl) zk zk hdis (λ L hL=>by cases hL) (λ _ L hL=>by cases hL) (λ _=>rfl) zd zk (λ hi Γ a W hhi h=>St.wkL h 0 rfl LR) k6 (λ l lo hi k a1 Ws hk hlo1 hlo2 hhi hBs hct U=>?_) (λ hi a w U=>?_) (λ L hL=>by cases hL) (λ _ L hL=>by cases hL)
   ·have hk0:k=0:=by omega
    have U:St B (rndB B [82] (gb++List.range' lo (hi-lo)) Ws Ws) 41 [(3,_),(2,_),(31,_),(9,_),(10,_)] [⟨9,82,ptrH,WyO t nn u1 k⟩,⟨10,82,ptrH,WyZ⟩] a1 Ws:=U;refine m8 2 [0,1,2,3,4] U G G G zk (ej λ _ _ h=>h) (Str.zero eZ) G gE G zd G zk zk (λ a w U=>?_);have U:St B (rndB B [82] (gb++List.range' lo (hi-lo)) Ws Ws) 41 [(3,_),(2,_),(31,_),(9,_),(10,_)] [O 9 82 _,O 10 82 _,O 11 82 _] a w:=U;refine aa<|⟨U.base,λ W3 hbg=>?_⟩;have U:=St.begin U (qj _) hBs hbg;refine wpIn_block ?_;refine eH (sts:=[some (1,_),none,none]) (news:=[]) (sp:=[.v 32 _,.sto 0]) [.g 0,.g 1,.g 2,.g 3,.g 4] zk (ej λ _ _ h=>h) U (zl 2 G gE (zS 0 G gE o0)) zk zk zk (λ a w U=>?_);have U:St B (rndB B [82] (gb++List.range' lo (hi-lo)) Ws W3) 41 [(3,_),(2,_),(31,_),(9,_),(10,_)] [O 9 82 _,O 10 82 _,O 11 82 _] a w:=U;refine ak ?_;subst hk0;rw [pO nn 0 zo,xl] at U;have U:=St.wkL U 0 rfl (LQ (k:=0));have U:St B (rndB B [82] (gb++List.range' lo (hi-lo)) Ws W3) 41 [(3,_),(2,_),(31,_),(9,_),(10,_)] [O 9 82 _,O 10 82 _,O 11 82 _] a w:=U;have U:=St.selL U [0,1];exact ⟨(λ h=>by cases h),oI [3,4] U ⟨rfl,⟨rfl,trivial⟩⟩⟩
   ·have U:=zn (Wc 3 2) S9 U;have U:=St.wkL U 0 rfl LP;refine ak ?_;refine zt<|qb ?_;obtain ⟨q9,U⟩:=St.nm U 0 rfl;obtain ⟨q10,U⟩:=St.nm U 1 rfl;refine zg UH [] (Wb 33) UG U (zv G (ao (has_wk' (gq 2 G) Qy) cp) (zM 3 G (zv G (oK [(9,q9),(10,q10)] (E5 t v1) (.p (vq 0 G) (vq 1 G)) (.cons (gq 1 G) (lz0 0 G) (.cons (gq 0 G) (lz0 1 G) .nil))) o0))) (zz (Wf 10 9 3 35) S9 λ a w U=>?_);obtain ⟨gb,U,hds⟩:=St.itm (ps:=[(9,q9),(10,q10)]) 3 [1,0] U rfl ⟨rfl,rfl,trivial⟩;have U:=zn (Wf 10 9 3 35) S9 U;have hdis:∀ s∈[9,10],∀ g,blk (a.eval (.tmp s))=some g→g ∉ gb:=hds;have U:=St.upL U 0 rfl (λ cs=>Pb (Ij hxl hn1));obtain ⟨b9,hb9⟩:∃ b,w.heap.size=b:=⟨_,rfl⟩;rw [hb9] at U;have U:=zn (Wf 10 9 3 35) S9 U;refine aa<|ql ?_;have U:=St.selL U [0,1];refine iD (k0:=3) (gb:=gb) (Dd:=[30,31,121,122,U32,28,124]) (Db:=[82]) (Tp:=[3]) [⟨9,82,ptrH,WyP (λ g=>g<b9) (Wk26 nn) (wayW t u1)⟩,⟨10,82,ptrH,WyZ⟩] (λ hi k=>[⟨9,82,ptrH,WyP (λ g=>g<b9) (Wk26 nn) (wayW t u1)⟩,⟨10,82,ptrH,WyO t nn v1 k⟩]) none (λ _=>none) U hB0 hN0 rfl (sy hck hnn hyl hyp gb) (M:=1) (Y:=λ k=>[(WyX t nn (exW t.ps.length v1 nn 0 k)).va]) (λ h=>by cases h) zk [] zk trivial (λ hi k=>by kernel_rfl) (λ lo hi k hk hlo hw=>stVL ⟨Eu (λ g hg h=>by omega),GG hk,trivial⟩) (λ _=>by kernel_rfl) zk [9,10] (λ _ k=>by kernel_rfl) zk zk hdis (λ L hL=>by cases hL) (λ _ L hL=>by cases hL) (λ _=>rfl) zd zk (λ hi Γ a W hhi h=>St.wkL h 1 rfl LR) k6 (λ l lo hi k a1 Ws hk hlo1 hlo2 hhi hBs hct U=>?_) (λ hi a w U=>?_) (λ L hL=>by cases hL) (λ _ L hL=>by cases hL)
    ·have hk0:k=0:=by omega
     have U:St B (rndB B [82] (gb++List.range' lo (hi-lo)) Ws Ws) 41 [(36,_),(9,_),(10,_)] [⟨9,82,ptrH,WyP (λ g=>g<b9) (Wk26 nn) (wayW t u1)⟩,⟨10,82,ptrH,WyO t nn v1 k⟩] a1 Ws:=U;refine m8 0 [0,1,2] U G G G zk (ej λ _ _ h=>h) (Str.zero eZ) G gE G zd G zk zk (λ a w U=>?_);have U:St B (rndB B [82] (gb++List.range' lo (hi-lo)) Ws Ws) 41 [(36,_),(9,_),(10,_)] [O 9 82 _,O 10 82 _,O 12 82 _] a w:=U;refine aa<|⟨U.base,λ W3 hbg=>?_⟩;have U:=St.begin U (qj _) hBs hbg;refine wpIn_block ?_;refine eH (sts:=[none,some (1,_),none]) (news:=[]) (sp:=[.v 37 _,.sto 1]) [.g 0,.g 1,.g 2] zk (ej λ _ _ h=>h) U (zl 2 G gE (zS 0 G gE o0)) zk zk zk (λ a w U=>?_);have U:St B (rndB B [82] (gb++List.range' lo (hi-lo)) Ws W3) 41 [(36,_),(9,_),(10,_)] [O 9 82 _,O 10 82 _,O 12 82 _] a w:=U;refine ak ?_;subst hk0;rw [pO nn 0 zo,xl] at U;have U:=St.wkL U 1 rfl (LQ (k:=0));have U:St B (rndB B [82] (gb++List.range' lo (hi-lo)) Ws W3) 41 [(36,_),(9,_),(10,_)] [O 9 82 _,O 10 82 _,O 12 82 _] a w:=U;have U:=St.selL U [0,1];exact ⟨(λ h=>by cases h),oI [1,2] U ⟨rfl,⟨rfl,trivial⟩⟩⟩
    ·have U:=zn [] S9 U;have U:=St.wkL U 1 rfl LP;have U:=St.wkL U 0 rfl Ib;refine ak ?_;refine zt<|zg UH [] (Wb 38 (W6 6)) [.o 3,.o 4] U (zl 0 G gE (zl 1 G gE (zQ G (y4 (gL hn12) (wayW t u1) (wayW t v1)) (.p (vq 0 G) (vq 1 G)) (zA 2 G (zE G ab))))) (zz (Wc 6 7) S9 λ a w U=>?_);refine aa<|qi<|al ?_ (aP (rs:=[.tmp 6,.tmp 7]) G U (.tmp (zm 0 G) (.tmp (zm 1 G) .nil)) zd);rw [btF,qA (by rw [hb0];decide),qD hw,ha1,hb1e];exact aG
theorem Ea:Zero Tryz.prog 3 (NumA .i64 0):=Zero.of (z:=.int .i64 0) zk (λ _ _=>rfl)
def G2N (x:RF × RF):As:=cat [RFN x.1,RFN x.2]
def G2D (x:RF × RF):As:=DisA (G2N x)
theorem qd_rfn2 :WkA (QD k q) (RFN (rfOf q)):=qd_rfd.trans dis_wk
theorem mt:Str Tryz.prog 103 [cat [NilI,NilI],cat [NilI,NilI]] :=
 Str.of (z:=.agg #[.bool false,.slice none 0 0,.bool false,.slice none 0 0,.bool false,.slice none 0 0,.bool false,.slice none 0 0]) zk vQ zk λ B w=>⟨[[.bool false,.slice none 0 0,.bool false,.slice none 0 0],[.bool false,.slice none 0 0,.bool false,.slice none 0 0]],rfl,.cons ⟨[[.bool false,.slice none 0 0],[.bool false,.slice none 0 0]],rfl,.cons ⟨[[.bool false],[.slice none 0 0]],rfl,.cons rfl (.cons rfl .nil)⟩ (.cons ⟨[[.bool false],[.slice none 0 0]],rfl,.cons rfl (.cons rfl .nil)⟩ .nil)⟩ (.cons ⟨[[.bool false,.slice none 0 0],[.bool false,.slice none 0 0]],rfl,.cons ⟨[[.bool false],[.slice none 0 0]],rfl,.cons rfl (.cons rfl .nil)⟩ (.cons ⟨[[.bool false],[.slice none 0 0]],rfl,.cons rfl (.cons rfl .nil)⟩ .nil)⟩ .nil)⟩
theorem zg2_d:WkA (cat [cat [NilI,NilI],cat [NilI,NilI]]) (G2D (rf0,rf0)):=⟨rfl,rfl,λ B cs w ⟨ps,e,hq⟩=>by
 cases hq with
 | @cons _ c0 _ _ h0 hq=>cases hq with
  | @cons _ c1 _ _ h1 hq =>
   cases hq;refine ⟨⟨[c0,c1],e,.cons (zf_rfd.2.2 _ _ _ h0).1 (.cons (zf_rfd.2.2 _ _ _ h1).1 .nil)⟩,?_⟩;rw [e,mL h0,mL h1];exact jg⟩
theorem g2_pins {u v:Yn}:WkA (cat [PinA u ((QD c x).and (cu [] u)),PinA v ((QD d y).and (cu [u] v))]) (G2D (rfOf x,rfOf y)) :=
 (mf (l:=[(u,QD c x),(v,QD d y)]) (λ y hy=>by
  simp at hy;rcases hy with rfl|rfl <;> exact rI)).trans (gw (br (.cons qd_rfn2 (.cons qd_rfn2 .nil))))
abbrev RwD (r:Int × (RF × RF) × Int):VA:=Tu [In r.1,(G2D r.2.1).va,In r.2.2]
theorem FI :Free (RwD r) (RwD r):=pA (.cons (co _ _).va (.cons (mh (bN (.cons (bN (.cons (dA _) (.cons (dA _) .nil))) (.cons (bN (.cons (dA _) (.cons (dA _) .nil))) .nil)))).va (.cons (co _ _).va .nil)))
def loW (f:Nat→Rat):Nat→Rat
 | 0=>0
 | k+1=>if ((((k:Nat):Int)==0) || decide (cmQ (f k) (loW f k)<0))=true then f k else loW f k
def hiW (f:Nat→Rat):Nat→Rat
 | 0=>0
 | k+1=>if ((((k:Nat):Int)==0) || decide (cmQ (f k) (hiW f k)>0))=true then f k else hiW f k
def pwK (t:RTk)(ah:List Nat)(nn k:Nat):Rat:=powW t (exW t.ps.length ah nn 0 k)
abbrev NF:As:=cat [NilI,NilI]
abbrev lqA (b k:Nat)(x:Rat):As:=optA k NF (QA b x) ⟨rfl,rfl⟩
theorem lq_s {b k:Nat}{x:Rat}:WkA (QA b x) (lqA b (k+1) x):=yA (xU k)
theorem lq_x {b k:Nat}{x:Rat}(h:k≠0):WkA (lqA b k x) (QA b x):=yz h
theorem lq_0 {b:Nat}{x:Rat}:WkA NF (lqA b 0 x):=yB
theorem k_ne {k:Nat}(h:(((k:Nat):Int)==0)=false):k≠0:=λ e=>by subst e;cases h
theorem Kn {k:Nat}(h:((((k:Nat):Int)==0) || b)=false):k≠0:=λ e=>by subst e;simp at h
abbrev GpO (b:Nat)(f:Nat→Rat)(j k:Nat):As:=cat [lqA b j (loW f j),lqA b k (hiW f k)]
theorem Oy (h:ckF t=0):wayB t.ps.length (t.sp.length-1)=false:=by
 obtain ⟨h1,h2,h3⟩:=ft h;unfold ckF at h;rw [qA (by rw [h1];decide),qA (by rw [h2];decide),qA (by rw [h3];decide)] at h;split at h
 ·cases h
 ·split at h
  ·cases h
  ·rename_i h5;simpa using h5
theorem Ol {nn a:Nat}(h:ckF t=0)(hn:t.sp.length=nn+1):cntW t.ps.length a nn 0≤65536:=by
 have hp:=(hd_b (ft h).1).2.2.1;have h1:=GJ (Oy h);rw [hn,jt] at h1;exact qg (DF zo nn 0) h1
theorem N3 {t:RTk}{l:Yk}{nn:Nat}(h:pkF t l=true)(h1:t.sp.length=nn+1)(h2:nn≤12):l=(natL l).map (λ (k:Nat)=>(k:Int))∧(natL l).length≤nn∧∀ x∈natL l,x<t.ps.length:=by
 unfold pkF at h;simp only [qm,qJ,qz] at h;obtain ⟨h3,h4⟩:=h;have hs:sloF t=(nn:Int):=by
  unfold sloF;rw [wi64 zo zo];omega
 rw [hs] at h3;have h5:∀ x∈l,0≤x∧x<(t.ps.length:Int):=λ x hx=>by
  have:=xv.1 h4 x hx;unfold pkQ at this;simp only [z4,qJ,not_or] at this;omega
 refine ⟨?_,by unfold natL;rw [qd];omega,λ x hx=>?_⟩
 ·unfold natL;rw [xE];exact (vF l).symm.trans (jm λ x hx=>by
   have:=(h5 x hx).1;show x=((x.toNat:Nat):Int);omega)
 ·obtain ⟨y,hy,rfl⟩:=qr.1 hx;have:=h5 y hy;omega
def rowM (t:RTk)(xs:List Int):Nat:=cntW t.ps.length (natL xs).length (t.sp.length-1) 0
def rowP (t:RTk)(xs:List Int):Nat→Rat:=pwK t (natL xs) (t.sp.length-1)
def rowF (t:RTk)(xs:List Int):Int × (RF × RF) × Int:=if (ckF t != 0)=true then (0,(rf0,rf0),ckF t) else if (!pkF t xs)=true then (0,(rf0,rf0),1) else
 if [loW (rowP t xs) (rowM t xs),hiW (rowP t xs) (rowM t xs)].any dX=true then (0,(rf0,rf0),4) else ((rowM t xs:Nat),(rfOf (loW (rowP t xs) (rowM t xs)),rfOf (hiW (rowP t xs) (rowM t xs))),0)
theorem r6 (b:Bool):((if b then (4:Int) else 0) != 0)=b:=by cases b <;> rfl
set_option maxHeartbeats 2000000 in
theorem Mu (t:RTk)(xs:Yk):Cn Tryz.prog 91 [(TkA t).va,(SlA 3 [] (xs.map InA)).va] (RwD (rowF t xs)):=by
 refine Cn.introR Tryz.func91 G zk nq (.cons (u5 t).va (.cons (Il xs).va .nil)) FI (λ B w0 a hB0 hN0 U=>?_);have U:=zn [(0,(TkO t).va),(1,(SlO 3 [] (xs.map InA) True).va)] [] U;refine qb<|zg [] [zpL 2 30 0 _,zpL 4 3 1 _,zpL 5 103 2 _] [.alc 0,.alc 1,.alc 2,.v 6 _] [.g 1,.o 3] U (zW 0 G (zY G Ea (zY G (Str.zero mt) (zE G ab)))) (zz (Wc 1 6) Sa ?_);refine ztA<|zsA<|zgA Uo [] (W6 10 [.v 7 _]) U1 (zl 0 G cp (zQ G ((lY t).wk (.cons tko_A.va .nil)) (.o (vq 0 G)) (zA 1 G o0))) (zz (Wa 1 6 7) Sa ?_);refine ztA<|zgA Uo [] (W6 12) WX (zM 2 G (zv G (ca (vq 0 G) ab) o0)) (zz (Wf 1 6 7 13) Sa λ a w U=>?_);refine zJ 3 U G (λ hb0=>?_) (λ hb0=>?_)
 ·refine qb<|zg [η,some (2,_),some (3,_)] [] (W6 14 [.sto 1,.sto 2,.v 6 _]) Uz U (zv G (aT (qs:=[]) mt .nil) (zM 2 G (oc (lI G G G ab ty_3 (xF (b:=1) G G)) (zS 0 G ia (zA 1 G o0))))) (zz (Wc 1 6) Sa λ a w U=>?_);refine aa<|qi<|aj ?_;refine al ?_ (aP (rs:=[.cell 4 3,.cell 5 103,.tmp 6]) G U (.cell (zm 1 G) ty_3 (.cell (zm 2 G) ia (.tmp (zm 1 G) .nil))) zd);rw [show rowF t xs=(0,(rf0,rf0),ckF t) from qD hb0];exact tu3w aG zg2_d.va aG
 ·have hck:ckF t=0:=by simpa using hb0
  obtain ⟨hs2,hs13,hp1,_⟩:=hd_b (ft hck).1;obtain ⟨nn,hnn⟩:∃ nn,t.sp.length=nn+1:=⟨t.sp.length-1,by omega⟩;have hn12:nn≤12:=by omega
  refine qk<|zt<|qb<|zg US [] (Ww 16) (We [.o 3]) U (zl 0 G cp (zM 0 G (zQ G ((uz t xs).wk (.cons tko_A.va (.cons slo_A.va .nil))) (.p (vq 0 G) (vq 1 G)) (zv G (dc (vq 2 G)) o0)))) (zz (Wa 1 6 19) Sa λ a w U=>?_);refine zJ 2 U G (λ hb1=>?_) (λ hb1=>?_)
  ·refine qb<|zg [η,some (1,_),some (2,_)] [] [.v 20 _,.sto 1,.sto 2,.v 6 _] RJ U (zv G (aT (qs:=[]) mt .nil) (oc (lI G G G ab ty_3 (xF (b:=1) G G)) (zS 0 G ia (zE G ab)))) (zz (Wc 1 6) Sa λ a w U=>?_);refine aa<|qi<|aj ?_;refine al ?_ (aP (rs:=[.cell 4 3,.cell 5 103,.tmp 6]) G U (.cell (zm 1 G) ty_3 (.cell (zm 2 G) ia (.tmp (zm 1 G) .nil))) zd);have e:rowF t xs=(0,(rf0,rf0),1):=by rw [rowF,qA (by rw [hb0];decide),qD hb1]
   rw [e];exact tu3w aG zg2_d.va aG
  ·obtain ⟨hxe,hxl,hxp⟩:=N3 (by simpa using hb1) hnn hn12;have hrM:rowM t xs=cntW t.ps.length (natL xs).length nn 0:=by unfold rowM;rw [hnn];rfl
   have hrP:rowP t xs=pwK t (natL xs) nn:=by unfold rowP;rw [hnn];rfl
   obtain ⟨u1,hu1⟩:∃ l,natL xs=l:=⟨_,rfl⟩;rw [hu1] at hxe hxl hxp hrM hrP;have hcm:=Ol (a:=u1.length) hck hnn;have hcp:0<cntW t.ps.length u1.length nn 0:=iP zo _ _;refine qk<|zt<|qb ?_;have U:=St.wkG U 0 rfl (ba (qq As.va (AV hxe)));have U:=zn (Wa 1 6 19) Sa U;obtain ⟨q4,U⟩:=St.nm U 1 rfl;obtain ⟨q5,U⟩:=St.nm U 2 rfl;refine zg US [] (Wb 21) Rb U (zl 0 G cp (zM 2 G (zv G (oK [(4,q4),(5,q5)] (E5 t u1) (.p (vq 0 G) (vq 1 G)) (.cons (gq 1 G) (lz0 1 G) (.cons (gq 0 G) (lz0 2 G) .nil))) o0))) (zz (Wf 5 4 6 23) Sa λ a w U=>?_);obtain ⟨gb,U,hds⟩:=St.itm (ps:=[(4,q4),(5,q5)]) 3 [1,0] U rfl ⟨rfl,rfl,trivial⟩;have U:=zn (Wf 5 4 6 23) Sa U;have U:=St.wkL (A':=GpO (Wk26 nn) (pwK t u1 nn) 0 0) U 2 rfl (br (.cons lq_0 (.cons lq_0 .nil)));have U:=zn (Wf 5 4 6 23) Sa U;refine aa<|ql ?_;have U:=St.selL U [1,2];refine iD (k0:=3) (gb:=gb) (Dd:=[30,31,121,122,U32,28,124]) (Db:=[3,103]) (Tp:=[3]) [⟨4,3,ptrH,NumA .i64 ((0:Nat):Int)⟩,⟨5,103,ptrH,GpO (Wk26 nn) (pwK t u1 nn) 0 0⟩] (λ hi k=>[⟨4,3,ptrH,NumA .i64 ((k:Nat):Int)⟩,⟨5,103,ptrH,GpO (Wk26 nn) (pwK t u1 nn) k k⟩]) none (λ _=>none) U hB0 hN0 rfl (tS hck hnn ⟨hxl,hxp⟩ gb) (M:=cntW t.ps.length u1.length nn 0) (Y:=λ k=>[(WyX t nn (exW t.ps.length u1 nn 0 k)).va]) (λ h=>by cases h) zk [] zk trivial (λ hi k=>by kernel_rfl) (λ lo hi k hk hlo hw=>stVL ⟨cK zk,cK zk,trivial⟩) (λ _=>by kernel_rfl) zk [4,5] (λ _ k=>by kernel_rfl) zk zk hds (λ L hL=>by cases hL) (λ _ L hL=>by cases hL) (λ _=>rfl) zd zk (λ hi Γ a W hhi h=>h) hcp (λ l lo hi k a1 Ws hk hlo1 hlo2 hhi hBs hct U=>?_) (λ hi a w U=>?_) (λ L hL=>by cases hL) (λ _ L hL=>by cases hL)
   ·obtain ⟨a0,rfl⟩:∃ x,x=a:=⟨_,rfl⟩;have hk2:k+1≤65536:=by omega
    have U:St B (rndB B [3,103] (gb++List.range' lo (hi-lo)) Ws Ws) 71 [(24,_),(4,_),(5,_)] [⟨4,3,ptrH,NumA .i64 ((k:Nat):Int)⟩,⟨5,103,ptrH,GpO (Wk26 nn) (pwK t u1 nn) k k⟩] a1 Ws:=U;refine m8 0 [0,1,2] U G G G zk (ej λ _ _ h=>h) (Str.zero eZ) G gE G zd G zk zk (λ a w U=>?_);have U:St B (rndB B [3,103] (gb++List.range' lo (hi-lo)) Ws Ws) 71 [(24,_),(4,_),(5,_)] [O 4 3 _,O 5 103 _,O 8 82 _] a w:=U;refine aa<|⟨U.base,λ W3 hbg=>?_⟩;have U:=St.begin U (qj _) hBs hbg;refine wpIn_block ?_;refine wpIn_seq ?_;refine wpIn_seq ?_;refine eH (sts:=[none,none,none]) (news:=[]) (sp:=[.v 25 _,.v 26 _,.v 27 _,.adr 28 8 (.some 1) (_=false),.f 29 _,.adr 30 5 (.some 0) (_=false),.f 31 _,.f 32 _,.f 33 _,.v 34 _]) [.g 0,.g 1,.g 2,.o 9] zk (ej λ _ _ h=>h) U (zl 0 G ty_3 (zv G (bC (vq 0 G) ab) (zV 1 G (zC 2 2 G fo (zB 2 G (λ hg=>aB 3 G zk hg (lz0 2 G) (Sub.part 1 G G) ax) (zC 2 1 G fU (zB 2 G (λ hg=>aB 5 G zk hg (lz0 1 G) (Sub.part 0 G G) ax) (zB 2 G (λ hg=>be ((Lo (c:=Wk26 nn) (d:=Wk26 nn) (by have:=gL hn12;omega)).wk (.cons aG (.cons (lq_x (k_ne hg)).va .nil))) (.p (ae (vq 4 G) hg) (ae (vq 6 G) hg))) (zB 2 G (λ hg=>aN (ae (vq 7 G) hg) ab) (zv G (r_or (vq 2 G) (vq 8 G)) o0)))))))))) zk zk zk (λ a w U=>?_);have U:St B (rndB B [3,103] (gb++List.range' lo (hi-lo)) Ws W3) 71 [(24,_),(4,_),(5,_),(34,_)] [O 4 3 _,O 5 103 _,O 8 82 _] a w:=U;refine aa<|ly (λ a w =>  St B (rndB B [3,103] (gb++List.range' lo (hi-lo)) Ws W3) 71 [(4,EqV (a0.eval (.tmp 4))),(5,EqV (a0.eval (.tmp 5)))] [⟨4,3,ptrH,NumA .i64 ((k:Nat):Int)⟩,⟨5,103,ptrH,cat [QA (Wk26 nn) (loW (pwK t u1 nn) (k+1)),lqA (Wk26 nn) k (hiW (pwK t u1 nn) k)]⟩,⟨8,82,ptrH,WyX t nn (exW t.ps.length u1 nn 0 k)⟩] a w) U (zm 3 G) (λ hb2=>?_) (λ hb2=>?_) (λ a w U=>?_)
    ·refine eH (sts:=[none,some (3,_),none]) (news:=[]) (sp:=[.adr 35 8 (.some 1) True,.v 36 _,.adr 37 5 (.some 0) True,.sto 1]) [.g 0,.g 1,.g 2] zk (ej λ _ _ h=>h) U (zO 2 G fo (zL 0 2 1 G ax (zO 1 G fU (oc (df 2 G G G G zk (vq 1 G) ax (Put.part 0 G G G)) o0)))) zk zk zk (λ a w U=>?_);have U:St B (rndB B [3,103] (gb++List.range' lo (hi-lo)) Ws W3) 71 [(24,_),(4,_),(5,_)] [O 4 3 _,O 5 103 _,O 8 82 _] a w:=U;refine aa ?_;have U:=St.sel U [1,2];exact St.wkL U 1 G (br (.cons (show WkA (QA (Wk26 nn) (pwK t u1 nn k)) (QA (Wk26 nn) (loW (pwK t u1 nn) (k+1))) from by rw [show loW (pwK t u1 nn) (k+1)=pwK t u1 nn k from qD hb2];exact .refl _) (.cons (.refl _) .nil)))
    ·refine wpIn_skip ?_;refine aa ?_;have U:=St.sel U [1,2];exact St.wkL U 1 G (br (.cons (show WkA (lqA (Wk26 nn) k (loW (pwK t u1 nn) k)) (QA (Wk26 nn) (loW (pwK t u1 nn) (k+1))) from by rw [show loW (pwK t u1 nn) (k+1)=loW (pwK t u1 nn) k from qA (λ h=>Bool.noConfusion (xF hb2.symm h))];exact lq_x (Kn hb2)) (.cons (.refl _) .nil)))
    refine aa<|wpIn_seq ?_;refine wpIn_seq ?_;refine eH (sts:=[none,none,none]) (news:=[]) (sp:=[.v 38 _,.v 39 _,.v 40 _,.adr 41 8 (.some 1) (_=false),.f 42 _,.adr 43 5 (.some 4) (_=false),.f 44 _,.f 45 _,.f 46 _,.v 47 _]) [.g 0,.g 1,.o 9] zk (ej λ _ _ h=>h) U (zl 0 G ty_3 (zv G (bC (vq 0 G) ab) (zV 1 G (zC 2 2 G fo (zB 2 G (λ hg=>aB 3 G zk hg (lz0 2 G) (Sub.part 1 G G) ax) (zC 2 1 G fT (zB 2 G (λ hg=>aB 5 G zk hg (lz0 1 G) (Sub.part 1 G G) ax) (zB 2 G (λ hg=>be ((Lo (c:=Wk26 nn) (d:=Wk26 nn) (by have:=gL hn12;omega)).wk (.cons aG (.cons (lq_x (k_ne hg)).va .nil))) (.p (ae (vq 4 G) hg) (ae (vq 6 G) hg))) (zB 2 G (λ hg=>cL (ae (vq 7 G) hg) ab) (zv G (r_or (vq 2 G) (vq 8 G)) o0)))))))))) zk zk zk (λ a w U=>?_);have U:St B (rndB B [3,103] (gb++List.range' lo (hi-lo)) Ws W3) 71 [(4,_),(5,_),(47,_)] [O 4 3 _,O 5 103 _,O 8 82 _] a w:=U;refine aa<|ly (λ a w =>  St B (rndB B [3,103] (gb++List.range' lo (hi-lo)) Ws W3) 71 [(4,EqV (a0.eval (.tmp 4))),(5,EqV (a0.eval (.tmp 5)))] [⟨4,3,ptrH,NumA .i64 ((k:Nat):Int)⟩,⟨5,103,ptrH,cat [QA (Wk26 nn) (loW (pwK t u1 nn) (k+1)),QA (Wk26 nn) (hiW (pwK t u1 nn) (k+1))]⟩,⟨8,82,ptrH,WyX t nn (exW t.ps.length u1 nn 0 k)⟩] a w) U (zm 2 G) (λ hb3=>?_) (λ hb3=>?_) (λ a w U=>?_)
    ·refine eH (sts:=[none,some (3,_),none]) (news:=[]) (sp:=[.adr 48 8 (.some 1) True,.v 49 _,.adr 50 5 (.some 4) True,.sto 1]) [.g 0,.g 1] zk (ej λ _ _ h=>h) U (zO 2 G fo (zL 0 2 1 G ax (zO 1 G fT (oc (df 2 G G G G zk (vq 1 G) ax (Put.part 1 G G G)) o0)))) zk zk zk (λ a w U=>?_);have U:St B (rndB B [3,103] (gb++List.range' lo (hi-lo)) Ws W3) 71 [(4,_),(5,_)] [O 4 3 _,O 5 103 _,O 8 82 _] a w:=U;refine aa ?_;have U:=St.sel U [0,1];exact St.wkL U 1 G (br (.cons (.refl _) (.cons (show WkA (QA (Wk26 nn) (pwK t u1 nn k)) (QA (Wk26 nn) (hiW (pwK t u1 nn) (k+1))) from by rw [show hiW (pwK t u1 nn) (k+1)=pwK t u1 nn k from qD hb3];exact .refl _) .nil)))
    ·refine wpIn_skip ?_;refine aa ?_;have U:=St.sel U [0,1];exact St.wkL U 1 G (br (.cons (.refl _) (.cons (show WkA (lqA (Wk26 nn) k (hiW (pwK t u1 nn) k)) (QA (Wk26 nn) (hiW (pwK t u1 nn) (k+1))) from by rw [show hiW (pwK t u1 nn) (k+1)=hiW (pwK t u1 nn) k from qA (λ h=>Bool.noConfusion (xF hb3.symm h))];exact lq_x (Kn hb3)) .nil)))
    refine aa ?_;have U:=St.selL U [0,1];have U:St B (rndB B [3,103] (gb++List.range' lo (hi-lo)) Ws W3) 71 [(4,_),(5,_)] [O 4 3 _,O 5 103 _] a w:=U;refine eH (sts:=[some (2,_),none]) (news:=[]) (sp:=[.v 51 _,.v 52 _,.sto 0]) [.g 0,.g 1] zk (ej λ _ _ h=>h) U (zl 0 G ty_3 (zv G (aL (vq 0 G) ab ((wi64 zo zo).trans (by omega:(_:Int)=((k+1:Nat):Int)))) (zS 1 G ty_3 o0))) zk zk zk (λ a w U=>?_);have U:St B (rndB B [3,103] (gb++List.range' lo (hi-lo)) Ws W3) 71 [(4,_),(5,_)] [O 4 3 _,O 5 103 _] a w:=U;refine ak ?_;have U:=St.wkL (A':=GpO (Wk26 nn) (pwK t u1 nn) (k+1) (k+1)) U 1 rfl (br (.cons lq_s (.cons lq_s .nil)));have U:St B (rndB B [3,103] (gb++List.range' lo (hi-lo)) Ws W3) 71 [(4,_),(5,_)] [O 4 3 _,O 5 103 _] a w:=U;have U:=St.selL U [0,1];exact ⟨(λ h=>by cases h),oI [0,1] U ⟨rfl,⟨rfl,trivial⟩⟩⟩
   ·have U:=zn [] Sb U;obtain ⟨m,hm⟩:∃ m,cntW t.ps.length u1.length nn 0=m:=⟨_,rfl⟩;rw [hm] at U hcp hcm;have U:=St.wkL U 1 rfl (br (.cons (lq_x zo) (.cons (lq_x zo) .nil)));refine ak ?_;refine zt<|qb<|zg UH [] (.adr 53 5 (.some 0) True::.v 54 _::.adr 55 5 (.some 4) True::(Wb 56 [.v 9 _])) [.o 6] U (zO 1 G fU (zL 0 1 0 G ax (zO 1 G fT (zL 2 1 1 G ax (zv G (bR (D:=[U32]) (l:=[_,_]) (xs:=[.tmp 54,.tmp 56]) (cO zk) du zk (n_ok zk) nq nq nq (.p (vq 1 G) (vq 3 G)) G G) (zQ G (r5 [(loW (pwK t u1 nn) m),(hiW (pwK t u1 nn) m)] (.cons ⟨_,rfl⟩ (.cons ⟨_,rfl⟩ .nil)) nq) (.o (vq 4 G)) (zA 5 G o0))))))) (zz [(9,_)] Sb ?_);refine ztA<|zgA UF [] (W6 59) Rc (zM 0 G (zv G (ca (vq 0 G) ab) o0)) (zz (Wc 9 60) Sb λ a w U=>?_);refine zJ 1 U G (λ hb4=>?_) (λ hb4=>?_)
    ·rw [r6] at hb4;refine qb<|zg [some (2,_),some (3,_)] [] (W6 61 [.sto 0,.sto 1,.v 6 _]) UP U (zv G (aT (qs:=[]) mt .nil) (zM 0 G (oc (lI G G G ab ty_3 (xF (b:=1) G G)) (zS 0 G ia (zA 1 G o0))))) (zz [(6,_)] Sb λ a w U=>?_);refine aa<|qi<|aj ?_;refine al ?_ (aP (rs:=[.cell 4 3,.cell 5 103,.tmp 6]) G U (.cell (zm 0 G) ty_3 (.cell (zm 1 G) ia (.tmp (zm 0 G) .nil))) zd);have e:rowF t xs=(0,(rf0,rf0),4):=by rw [rowF,qA (by rw [hb0];decide),qA (by rw [hb1];decide),qD (by rw [hrM,hrP,hm];exact hb4)]
     rw [e];exact tu3w aG zg2_d.va (ba (by rw [hb4];rfl))
    ·rw [r6] at hb4;refine qk<|zt<|go_drawV' [[],[],[1],[1,2],[],[4],[1,2,3,4,5],[1,2,3,4,5,6],[0,1,2,3,4,5,6],[0,1,2,3,4,5,6,7,8],[0,1,2,3,4,5,6,7,8,9]] (sts:=[some (8,λ ν=>_),some (9,λ ν=>_)]) (news:=[]) (sp:=[(λ ν=>.v 63 _),(λ ν=>.adr 64 5 (.some 0) True),(λ ν=>.v 65 _),(λ ν=>.v 66 (PinA (ν 3) ((QD (Wk26 nn) (loW (pwK t u1 nn) m)).and (cu [] (ν 3)))).va),(λ ν=>.adr 67 5 (.some 4) True),(λ ν=>.v 68 _),(λ ν=>.v 69 (PinA (ν 6) ((QD (Wk26 nn) (hiW (pwK t u1 nn) m)).and (cu [ν 3] (ν 6)))).va),(λ ν=>.v 70 _),(λ ν=>.sto 0),(λ ν=>.sto 1),(λ ν=>.v 6 _)]) [.o 10] ac U ⟨of_u λ ν=>ob_v rfl rfl (eL (lz0 0 rfl) ty_3),⟨of_u λ ν=>ob_a rfl rfl (fY (lz0 1 rfl) fU),⟨of_u λ ν=>ob_v rfl rfl (aB 1 rfl zk trivial (lz0 1 rfl) (Sub.part 0 rfl rfl) ax),⟨lm (us:=λ ν=>[]) (xs:=[.tmp 65]) rfl rfl (nc (qg (gL hn12) zd)) eM lu (.cons upA_qa.va .nil) (λ ν=>(.o (vq 2 rfl))) (λ _ _=>rfl) (λ ν=>dY),⟨of_u λ ν=>ob_a rfl rfl (fY (lz0 1 rfl) fT),⟨of_u λ ν=>ob_v rfl rfl (aB 4 rfl zk trivial (lz0 1 rfl) (Sub.part 1 rfl rfl) ax),⟨lm (us:=λ ν=>[ν 3]) (xs:=[.tmp 68]) rfl rfl (nc (qg (gL hn12) zd)) eM lu (.cons upA_qa.va .nil) (λ ν=>(.o (vq 5 rfl))) (λ _ _=>rfl) (λ ν=>(eN (gR eM) (vq 3 rfl) dY)),⟨of_u λ ν=>ob_v rfl rfl (aT (qs:=[(0,_),(1,_)]) mt (.cons ⟨rfl,vq 3 rfl,rfl⟩ (.cons ⟨rfl,vq 6 rfl,rfl⟩ .nil))),⟨of_u λ ν=>lI rfl rfl rfl (vq 0 rfl) ty_3 (xF (b:=1) rfl rfl),⟨of_u λ ν=>lI rfl rfl rfl (vq 7 rfl) ia (xF (b:=8) rfl rfl),⟨of_u λ ν=>ob_v rfl rfl (aR ab),trivial⟩⟩⟩⟩⟩⟩⟩⟩⟩⟩⟩ ⟨(λ ν ν' h=>rfl),⟨(λ ν ν' h=>rfl),⟨(λ ν ν' h=>rfl),⟨(λ ν ν' h=>by first|rfl|simp only [h 3 rfl]),⟨(λ ν ν' h=>rfl),⟨(λ ν ν' h=>rfl),⟨(λ ν ν' h=>by first|rfl|simp only [h 3 rfl,h 6 rfl]),⟨(λ ν ν' h=>by first|rfl|simp only [h 3 rfl,h 6 rfl]),⟨(λ ν ν' h=>by first|rfl|simp only [h 3 rfl,h 6 rfl]),⟨(λ ν ν' h=>by first|rfl|simp only [h 3 rfl,h 6 rfl]),⟨(λ ν ν' h=>by first|rfl|simp only [h 3 rfl,h 6 rfl]),trivial⟩⟩⟩⟩⟩⟩⟩⟩⟩⟩⟩ ⟨(λ ν ν' h=>by first|rfl|simp only [h 3 rfl,h 6 rfl]),⟨(λ ν ν' h=>by first|rfl|simp only [h 3 rfl,h 6 rfl]),trivial⟩⟩ zk zk (λ ν=>by kernel_rfl) (λ ν=>by kernel_rfl) (λ ν16 a w U=>?_)
     have U:=zn [(6,_)] Sb U;refine aa<|qi<|al ?_ (aP (rs:=[.cell 4 3,.cell 5 103,.tmp 6]) G U (.cell (zm 0 G) ty_3 (.cell (zm 1 G) ia (.tmp (zm 0 G) .nil))) zd);have e:rowF t xs=(((m:Nat):Int),(rfOf (loW (pwK t u1 nn) m),rfOf (hiW (pwK t u1 nn) m)),0):=by rw [rowF,qA (by rw [hb0];decide),qA (by rw [hb1];decide),qA (by rw [hrM,hrP,hm,hb4];decide),hrM,hrP,hm]
     rw [e];exact tu3w aG g2_pins.va aG
theorem gW {ops:Yg}{rest:List Oper}{o:Oper}{Q:Yd}(hgd:o.guard=none)(s x:Yj)(t:Yh)(ho:o.op=.call { callee:=.builtin .append,args := #[s,x],argTypes := #[t,t] })
  (e:TypeId) (i:TypeInfo) (z:Value) (ht:P.underlying t=some (.slice e)) (hi:P.info? e=some i) (hz:i.zero=some z) (hsize:i.size=1) (hby:i.bytes=8)
  (b:Addr) (hs:a.eval s=.slice (some b) 0 0) (ad:Addr) (m c:Nat) (news:List Value) (hx:a.eval x=.slice (some ad) m c) (hl:news.length=m) (hnews:∀ j u,news[j]?=some u→w.cell? (ad.add j)=some u) (hm:0<m) (hbytes:m*8≤140737488355328)
  (h:wpList P ops Q rest (a.put o.dst (.slice (some ⟨w.heap.size,0,none⟩) m (grownCap w m 0 e))) (w.drew.alloc (.cells (news.toArray++Builtin.zeroCells z.cells (grownCap w m 0 e-m)) e))):wpList P ops Q (o::rest) a w:=by
 refine wpList_plain hgd λ K hK=>?_;have hr:=run_append_grow (P:=P) w t o.type e i z ht hi hz b 0 0 [] (by simp) (λ j v hj=>by simp at hj) ad m c news (by rw [hl,hsize,z8]) hnews zo zo (growslice_fits zo (by rw [hby];omega));simp only [qV,vX] at hr;unfold Oper.wp execOp;simp only [ho,resolve,invoke,builtin,Sem.run_bind,Sem.run_pure,Result.andThen_ok,kZ,qT,jM,hs,hx,hr];exact hK _ _ h
theorem uT:∃ i,Tryz.prog.info? 3=some i∧i.zero=some (.int .i64 0)∧i.size=1∧i.bytes=8:=by
 have h:(Tryz.prog.info? 3).map (λ i=>(i.zero,i.size,i.bytes))=some (some (.int .i64 0),1,8):=by kernel_rfl
 cases hi:Tryz.prog.info? 3 with
 | none=>rw [hi] at h;cases h
 | some i =>
  rw [hi] at h;have h2:(i.zero,i.size,i.bytes)=(some (.int .i64 0),1,8):=Option.some.inj h;injection h2 with h3 h4;injection h4 with h5 h6;exact ⟨i,rfl,h3,h5,h6⟩
set_option maxHeartbeats 2000000 in
theorem tF (b off n c:Nat)(zs:Yk)(w:Yi)(hn:n=zs.length)(h0:0<n)(hbig:n*8≤140737488355328)(hc:∀ j (h:j<zs.length),w.cell? ⟨b,off+j,none⟩=some (.int .i64 zs[j])) :
  Calls Tryz.prog 168 #[.slice (some ⟨b,off,none⟩) n c] w λ e w'=>∃ g c ext,e=.returned (.slice (some ⟨g,0,none⟩) n c)∧w.heap.size≤g∧n≤c∧c≤maxLen∧w'.heap[g]?=some (.cells ((zs.map λ (x:Int)=>Value.int .i64 x)++ext).toArray 3 (0,0))∧Grow w w':=by
 have t22:Tryz.prog.underlying 31=some (.slice 3):=by kernel_rfl
 obtain ⟨i0,hi,hz0,hz1,hz2⟩:=uT;have q22:∀ (w:World) (a:Option Addr) (n c n' c':Nat),(binOp .eql 31 (.slice a n c) (.slice none n' c')).run Tryz.prog w=.ok (.bool a.isNone) w:=λ w a n c n' c'=>Lib.run_eql_slice_nil w _ _ a n c n' c' t22;have u22:∀ w,Sem.run Tryz.prog (underlying 31) w=.ok (TypeDesc.slice 3) w:=run_underlying t22;have A:Aside (∀ j (h:j<zs.length),w.cell? ⟨b,off+j,none⟩=some (.int .i64 zs[j])):=hc;have HN:Aside (n=zs.length):=hn;clear hc hn
 go_enter Tryz.func168,Tryz.ntmps168
 go_wp2_with (at_builtin;refine gW rfl _ _ 31 rfl 3 i0 (.int .i64 0) t22 hi hz0 hz1 hz2 _ rfl ⟨b,off,none⟩ n c (zs.map λ (x:Int)=>Value.int .i64 x) rfl ?qc1 ?qc2 h0 hbig ?_)
 case qc1=>simp;exact HN.out.symm
 case qc2 =>
  intro j u hj;have hjn:j<zs.length:=by
   have:=(List.getElem?_eq_some_iff.1 hj).1;simpa using this
  rw [Addr.add_lit];refine Lib.cell?_alloc_some _ ?_;rw [A.out j hjn];simpa [hjn] using hj
 go_wp2
 go_ret
 refine ⟨_,_,(Builtin.zeroCells (Value.int .i64 0).cells (grownCap (w.alloc (.cells #[] 3)) n 0 3-n)).toList,rfl,by omega,grownCap_ge _ _ _ _,grownCap_le_maxLen _ _ _ _ (by unfold maxLen;omega),?_,?_⟩
 ·have e:(w.alloc (.cells #[] 3)).heap.size=w.heap.size+1:=by simp
  rw [← e,← vM,Array.toArray_toList];exact heap_alloc_new _ _
 ·exact ((Grow.alloc w _).trans (Grow.alloc _ _)).trans (Grow.drew _)
theorem pU {B:Nat}{cs:Yl}{w:Yi}:∀ {l:Yk},(cat (l.map InA)).p B cs w→cs=l.map λ (n:Int)=>Value.int .i64 n
 | [],⟨ps,e,h⟩=>by cases h;exact e
 | n::l,⟨ps,e,h⟩=>by
  cases h with
  | @cons _ c _ ps' h1 h2 =>
   have h3:=pU (B:=B) (w:=w) (l:=l) ⟨ps',rfl,h2⟩;have h1':c=[.int .i64 n]:=h1;rw [e,qT,← h3,h1'];rfl
theorem Gi (l:Yk)(h0:0<l.length)(hs:l.length≤1000):CnI Tryz.prog 168 [(SlA 3 [] (l.map InA)).va] (λ b=>(SlP (λ g=>b≤g) 3 [] (l.map InA)).va):=by
 refine ⟨iQ Tryz.func168 zk zk,λ B w args hB ha=>?_⟩;obtain ⟨v,rfl,cs,⟨hD,A,c,ds,rfl,h1,h2,h3,h4⟩,hv⟩:=ha.one;have hv':v=.slice A l.length c:=by rw [hv,← qd (f:=InA)];rfl
 subst hv';obtain ⟨b,o,rfl,_,_,h5⟩:=h4 (by rw [qd];exact h0);have hds:=pU h3;refine (tF b o l.length c l w G h0 zo (λ j hj=>h5 j _ (by rw [hds];simp [hj]))).mono λ e w' ⟨g,c',ext,he,h6,h7,h8,h9,hg⟩=>⟨_,he,⟨[.slice (some ⟨g,0,none⟩) l.length c'],⟨⟨hD,_,c',_,by rw [qd],by rw [qd];exact h7,h8,gy l,λ _=>⟨g,0,rfl,(Array.getElem?_eq_some_iff.1 h9).1,.inr ⟨_,_,h9⟩,λ j u hu=>?_⟩⟩,λ u hu g' hg'=>?_⟩,rfl⟩,hg⟩
 ·rw [qV,cell_of_row w' g j _ 3 _ h9];have hj:=(List.getElem?_eq_some_iff.1 hu).1;simp only [List.getElem?_toArray];rw [List.getElem?_append_left hj];exact hu
 ·obtain rfl:=qo.1 hu;have:g=g':=by simpa [blk] using hg'
  omega
def SlW (l:List Int):As where
 n:=1
 ag:=false
 p B cs w:=(SlA 3 [] (l.map InA)).p B cs w∧∀ v∈cs,∀ g,blk v=some g→B≤g
 deps:=[3]
 len:=λ B cs w h=>(SlA 3 [] (l.map InA)).len B cs w h.1
 one:=λ B cs w h=>(SlA 3 [] (l.map InA)).one B cs w h.1
 ag1:=λ _=>rfl
 cg:=λ B cs w w' hg h=>⟨(SlA 3 [] (l.map InA)).cg B cs w w' hg h.1,h.2⟩
 wr:=λ B cs w w' g c T fz h1 h2 h3 h4 h=>⟨(SlA 3 [] (l.map InA)).wr B cs w w' g c T fz h1 h2 h3 h4 h.1,h.2⟩
theorem Pn :WkA (SlW l) (SlA 3 [] (l.map InA)):=⟨rfl,rfl,λ _ _ _ h=>h.1⟩
theorem FH :FreeA (SlW l) (SlW l):=⟨rfl,rfl,λ B B' cs w hB hp=>by
 obtain ⟨⟨hD,A,c,ds,rfl,h1,h2,h3,h4⟩,h5⟩:=hp;refine ⟨⟨hD,A,c,ds,rfl,h1,h2,by rw [pU h3];exact gy l,λ hn=>?_⟩,λ v hv g hg=>qg hB (h5 v hv g hg)⟩;obtain ⟨b,o,rfl,h6,h7,h8⟩:=h4 hn;refine ⟨b,o,rfl,h6,?_,h8⟩;rcases h7 with h7|h7
 ·have:=h5 _ (qo.2 rfl) b rfl;omega
 ·exact .inr h7⟩
theorem JT:WkA (EqA (.slice none 0 0)) (SlW []):=⟨rfl,rfl,λ B cs w h=>by
 obtain ⟨rfl,_⟩:=h;refine ⟨⟨(λ A hA=>by cases hA),none,0,[],rfl,qj _,zr _,⟨[],rfl,.nil⟩,λ h=>absurd h zd⟩,λ v hv g hg=>?_⟩;obtain rfl:=qo.1 hv;cases hg⟩
theorem lX:Str Tryz.prog 98 [EqA (.slice none 0 0),cat [NilI,NilI],NumA .i64 0] :=
 Str.of (z:=.agg #[.slice none 0 0,.bool false,.slice none 0 0,.bool false,.slice none 0 0,.int .i64 0]) zk vY zk λ B w=>⟨[[.slice none 0 0],[.bool false,.slice none 0 0,.bool false,.slice none 0 0],[.int .i64 0]],rfl,.cons ⟨rfl,rfl⟩ (.cons ⟨[[.bool false,.slice none 0 0],[.bool false,.slice none 0 0]],rfl,.cons ⟨[[.bool false],[.slice none 0 0]],rfl,.cons rfl (.cons rfl .nil)⟩ (.cons ⟨[[.bool false],[.slice none 0 0]],rfl,.cons rfl (.cons rfl .nil)⟩ .nil)⟩ (.cons rfl .nil))⟩
structure RCh where
 l:List Int
 pw:RF
 c:Int
def ch0:RCh:=⟨[],rf0,0⟩
def ChD (x:RCh):As:=cat [SlW x.l,RFD x.pw,InA x.c]
abbrev BsD (r:RCh × Int):VA:=Tu [(ChD r.1).va,In r.2]
theorem FM :Free (BsD r) (BsD r):=pA (.cons (bN (.cons FH (.cons FJ (.cons (co _ _) .nil)))).va (.cons (co _ _).va .nil))
theorem zch_d:WkA (cat [EqA (.slice none 0 0),cat [NilI,NilI],NumA .i64 0]) (ChD ch0):=br (.cons JT (.cons zf_rfd (.cons (.refl _) .nil)))
def bsW (f:Nat→WyQ):Nat→WyQ
 | 0=>⟨[],0,0,0⟩
 | k+1=>if ((((k:Nat):Int)==0) || betF (f k) (bsW f k))=true then f k else bsW f k
theorem HR :∀ {k},k≠0→∃ j,j<k∧bsW f k=f j
 | 0,h=>absurd rfl h
 | k+1,_=>by
  unfold bsW;by_cases h:((((k:Nat):Int)==0) || betF (f k) (bsW f k))=true
  ·rw [qD h];exact ⟨k,Nat.lt_succ_self k,rfl⟩
  ·rw [qA h];have hk:k≠0:=λ e=>by subst e;simp at h
   obtain ⟨j,h1,h2⟩:=HR (f:=f) hk;exact ⟨j,kQ h1,h2⟩
abbrev BeO (q:Nat→Prop)(b k:Nat)(x:WyQ):As:=cat [optA k (EqA (.slice none 0 0)) (SlP q 3 [] (x.l.map InA)) ⟨rfl,rfl⟩,optA k (RFA rf0) (QA b x.pw) ⟨rfl,rfl⟩,optA k (RFA rf0) (QA b x.aw) ⟨rfl,rfl⟩,optA k (NumA .i64 0) (InA x.c) ⟨rfl,rfl⟩]
theorem be_0 {q:Nat→Prop}{b:Nat}{x:WyQ}:WkA WyZ (BeO q b 0 x):=br (.cons yB (.cons yB (.cons yB (.cons yB .nil))))
theorem be_s {q:Nat→Prop}{b k:Nat}{x:WyQ}:WkA (WyP q b x) (BeO q b (k+1) x):=br (.cons (yA (xU k)) (.cons (yA (xU k)) (.cons (yA (xU k)) (.cons (yA (xU k)) .nil))))
theorem be_x {q:Nat→Prop}{b k:Nat}{x:WyQ}(h:k≠0):WkA (BeO q b k x) (WyP q b x):=br (.cons (yz h) (.cons (yz h) (.cons (yz h) (.cons (yz h) .nil))))
theorem be_k {q:Nat→Prop}(h:k≠0):WkA (BeO q b k x) (BeO q b (k+1) x):=(be_x h).trans be_s
theorem QZ {q:Nat→Prop}{b k lo hi:Nat}{x:WyQ}(hq:∀ g,q g→¬ (lo≤g∧g<hi)):StVA lo hi [3] [30,31] (BeO q b k x):=ue λ A hA=>by
 simp only [qt,zw,or_false] at hA;rcases hA with rfl|rfl|rfl|rfl
 ·exact ud (cK zk) (λ _=>uc zd (uS _) hq)
 ·exact cK zk
 ·exact cK zk
 ·exact cK zk
section
open Rg
variable {P:Program}{Q:Exit→Act→World→Prop}{R:Rg}{B i:Nat}{w0:Bs}
theorem MO {x:Yj}{S E:Yh}{k:Nat}{q:Nat→Prop}{l:Yk}{h:(SlP q 3 [] (l.map InA)).n=(EqA (.slice none 0 0)).n∧(SlP q 3 [] (l.map InA)).ag=(EqA (.slice none 0 0)).ag}{yt:Yh}(hS:P.underlying S=some (.slice E))(hx:Has R B w0 i x (optA k (EqA (.slice none 0 0)) (SlP q 3 [] (l.map InA)) h).va)(hl:k≠0→0<l.length):Wv P Q R B w0 i (.binOp .eql S x (.const (.slice none 0 0)) yt) (Bo (((k:Nat):Int)==0)) :=
 bk λ d T ps af gd a w av=>by
  obtain ⟨cs,hp,hv⟩:=hx a w av;have e2:a.eval (.const (.slice none 0 0))=.slice none 0 0:=rfl;rcases hp with ⟨hk,hp⟩|⟨hk,hp,_⟩
  ·obtain ⟨rfl,_⟩:=hp;have e1:a.eval x=.slice none 0 0:=hv;have hq:=Lib.run_eql_slice_nil w S E none 0 0 0 0 hS;have hg:(eqGuard .eql S x (.const (.slice none 0 0)) (.slice none 0 0) (.slice none 0 0)).run P w=.ok () w:=by unfold eqGuard;split <;> rfl
   refine ⟨.bool true,w,?_,Grow.refl w,by subst hk;exact dJ _ _ _⟩;simp only [execOp,e1,e2,Sem.run_bind,hg,hq,Result.andThen_ok,Sem.run_pure]
   rfl
  ·obtain ⟨_,A,c,ds,rfl,_,_,_,h4⟩:=hp;obtain ⟨b,o,rfl,_⟩:=h4 (by rw [qd];exact hl hk);have e1:a.eval x=.slice (some ⟨b,o,none⟩) (l.map InA).length c:=hv;have hq:=Lib.run_eql_slice_nil w S E (some ⟨b,o,none⟩) (l.map InA).length c 0 0 hS;have hg:(eqGuard .eql S x (.const (.slice none 0 0)) (.slice (some ⟨b,o,none⟩) (l.map InA).length c) (.slice none 0 0)).run P w=.ok () w:=by unfold eqGuard;split <;> rfl
   refine ⟨.bool false,w,?_,Grow.refl w,?_⟩
   ·simp only [execOp,e1,e2,Sem.run_bind,hg,hq,Result.andThen_ok,Sem.run_pure]
    rfl
   ·rw [show (((k:Nat):Int)==0)=false from by simpa using hk];exact dJ _ _ _
theorem Jj {f':Ym}{pre:Yc}{mk:Nat→VA}{A:VA}{xs:Yr}{at_:Yq}(hc:CnI P f' pre mk)(hx:HasL R B w0 i xs pre)(hm:∀ b,w0.w.heap.size≤b→Wk (mk b) A):Wv P Q R B w0 i (.call ⟨.value (.func f'),xs.toArray,at_⟩) A:=by
 intro d T' ps af gd a w av K hK;obtain ⟨⟨fn,hf,hn,hb⟩,hcall⟩:=hc;have hrun:(execOp a.eval ⟨some d,.call ⟨.value (.func f'),xs.toArray,at_⟩,T',ps,af,gd⟩).run P w=.ok (.enter f' (xs.map a.eval).toArray) w:=by
  have e1:a.eval (.func f')=.func (.func f') #[] #[]:=rfl;simp only [execOp,resolve,e1,Deferred.ofValue,Sem.run_bind,Sem.run_pure,Result.andThen_ok,invoke,bi hf hn hb];simp
 unfold Oper.wp;rw [hrun];refine (hcall B w _ (Av.bw av) (hx.all av)).mono λ e w' ⟨v,he,h1,hg⟩=>?_;subst he;exact hK v w' hg (hm _ av.base.size _ _ _ h1)
end
theorem all_nil (t:RTk):CnI Tryz.prog 31 [(TkO t).va,EqV (.slice none 0 0)] (λ b=>ItB b 116 (alC t []) alDs (al_D t [])) :=
 ⟨(E5 t []).1,λ B w args hB ha=>(E5 t []).2 B w args hB (by
  obtain ⟨v1,v2,rfl,h1,h2⟩:=All2.two ha;have h2':v2=.slice none 0 0:=h2;subst h2';exact .cons h1 (.cons ⟨_,⟨trivial,(λ A hA=>by cases hA),none,0,[],rfl,qj _,zr _,⟨[],rfl,.nil⟩,λ h=>absurd h zd⟩,rfl⟩ .nil))⟩
abbrev WyW (b:Nat)(x:WyQ):As:=cat [SlW x.l,QA b x.pw,QA b x.aw,InA x.c]
theorem Ia {q:Nat→Prop}{b B:Nat}(hq:∀ g,q g→B≤g)(h:(WyP q b x).p B cs w):(WyW b x).p B cs w:=by
 obtain ⟨ps,rfl,h2⟩:=h;refine ⟨ps,rfl,?_⟩;cases h2 with
 | cons h1 h2=>exact .cons ⟨h1.1,λ v hv g hg=>hq g (h1.2 v hv g hg)⟩ h2
def bstN (t:RTk):WyQ:=bsW (λ k=>wayW t (exW t.ps.length [] (t.sp.length-1) 0 k)) (cntW t.ps.length 0 (t.sp.length-1) 0)
def lR (t:RTk):RCh × Int:=if (ckF t != 0)=true then (ch0,ckF t) else if dX (bstN t).pw=true then (ch0,4) else (⟨(bstN t).l,rfOf (bstN t).pw,(bstN t).c⟩,0)
theorem C3 :[x].any dX=dX x:=by simp
set_option maxHeartbeats 2000000 in
theorem OY (t:RTk):Cn Tryz.prog 89 [(TkA t).va] (BsD (lR t)):=by
 refine Cn.introR Tryz.func89 G zk nq (.cons (u5 t).va .nil) FM (λ B w0 a hB0 hN0 U=>?_);have U:=zn [(0,(TkO t).va)] [] U;refine qb<|zg [] [zpL 1 30 0 _,zpL 2 98 1 _] [.alc 0,.alc 1,.v 3 _] Ud U (zW 0 G (zY G (Str.zero lX) (zE G ab))) (zz RH Sc ?_);refine ztA<|zsA<|zgA UF [] (W6 8 [.v 4 _]) Ui (zl 0 G cp (zQ G ((lY t).wk (.cons tko_A.va .nil)) (.o (vq 0 G)) (zA 1 G o0))) (zz (Wc 3 4) Sc ?_);refine ztA<|zgA UF [] (W6 10) UI (zM 1 G (zv G (ca (vq 0 G) ab) o0)) (zz (Wa 3 4 11) Sc λ a w U=>?_);refine zJ 2 U G (λ hb0=>?_) (λ hb0=>?_)
 ·refine qb<|zg [η,some (2,_)] [] (W6 12 [.sto 1,.v 3 _]) UJ U (zv G (aT (qs:=[]) lX .nil) (zM 1 G (zS 0 G sG (zA 1 G o0)))) (zz RH Sc λ a w U=>?_);refine aa<|qi<|aj ?_;refine al ?_ (aP (rs:=[.cell 2 98,.tmp 3]) G U (.cell (zm 1 G) sG (.tmp (zm 0 G) .nil)) zd);rw [show lR t=(ch0,ckF t) from qD hb0];exact tu2w zch_d.va aG
 ·have hck:ckF t=0:=by simpa using hb0
  obtain ⟨hs2,hs13,hp1,_⟩:=hd_b (ft hck).1;obtain ⟨nn,hnn⟩:∃ nn,t.sp.length=nn+1:=⟨t.sp.length-1,by omega⟩;have hn12:nn≤12:=by omega
  have hcp:0<cntW t.ps.length 0 nn 0:=iP zo _ _;have hbN:bstN t=bsW (λ k=>wayW t (exW t.ps.length [] nn 0 k)) (cntW t.ps.length 0 nn 0):=by unfold bstN;rw [hnn];rfl
  refine qk<|zt<|zg UH [zpL 5 82 0 _] [.alc 2] UL U (zY G (Str.zero eZ) o0) (zz RH Sd λ a w U=>?_);refine zt<|qb ?_;obtain ⟨q2,U⟩:=St.nm U 1 rfl;obtain ⟨q5,U⟩:=St.nm U 2 rfl;refine zg US [] (W6 14) WX U (zl 0 G cp (zv G (oK [(2,q2),(5,q5)] (all_nil t) (.cons (vq 0 G) (.cons aX .nil)) (.cons (gq 1 G) (lz0 1 G) (.cons (gq 0 G) (lz0 2 G) .nil))) o0)) (zz (Wf 5 2 3 15) Sd λ a w U=>?_);obtain ⟨gb,U,hds⟩:=St.itm (ps:=[(2,q2),(5,q5)]) 3 [1,0] U rfl ⟨rfl,rfl,trivial⟩;have U:=zn (Wf 5 2 3 15) Sd U;refine aa<|ql ?_;have U:=St.selL U [1,2];refine iD (k0:=3) (gb:=gb) (Dd:=[30,31,121,122,U32,28,124]) (Db:=[98,82]) (Tp:=[3]) [⟨2,98,ptrH,cat [EqA (.slice none 0 0),cat [NilI,NilI],NumA .i64 0]⟩,⟨5,82,ptrH,WyZ⟩] (λ hi k=>[⟨2,98,ptrH,cat [EqA (.slice none 0 0),cat [NilI,NilI],NumA .i64 0]⟩,⟨5,82,ptrH,BeO (λ g=>hi≤g∧B≤g) (Wk26 nn) k (bsW (λ k=>wayW t (exW t.ps.length [] nn 0 k)) k)⟩]) none (λ _=>none) U hB0 hN0 rfl (tS hck hnn ⟨zr _,λ x hx=>by cases hx⟩ gb) (M:=cntW t.ps.length 0 nn 0) (Y:=λ k=>[(WyX t nn (exW t.ps.length [] nn 0 k)).va]) (λ h=>by cases h) zk [] zk trivial (λ hi k=>by kernel_rfl) (λ lo hi k hk hlo hw=>stVL ⟨cK zk,QZ (λ g hg h=>by omega),trivial⟩) (λ _=>by kernel_rfl) zk [2,5] (λ _ k=>by kernel_rfl) zk zk hds (λ L hL=>by cases hL) (λ _ L hL=>by cases hL) (λ _=>rfl) zd zk (λ hi Γ a W hhi h=>St.wkL h 1 rfl be_0) hcp (λ l lo hi k a1 Ws hk hlo1 hlo2 hhi hBs hct U=>?_) (λ hi a w U=>?_) (λ L hL=>by cases hL) (λ _ L hL=>by cases hL)
  ·obtain ⟨a0,rfl⟩:∃ x,x=a:=⟨_,rfl⟩;have hlw:0<(wayW t (exW t.ps.length [] nn 0 k)).l.length:=by show 0<(List.map _ _).length;rw [qd,pN];omega
   have U:St B (rndB B [98,82] (gb++List.range' lo (hi-lo)) Ws Ws) 46 [(16,_),(2,_),(5,_)] [⟨2,98,ptrH,cat [EqA (.slice none 0 0),cat [NilI,NilI],NumA .i64 0]⟩,⟨5,82,ptrH,BeO (λ g=>hi≤g∧B≤g) (Wk26 nn) k (bsW (λ k=>wayW t (exW t.ps.length [] nn 0 k)) k)⟩] a1 Ws:=U;refine m8 0 [0,1,2] U G G G zk (ej λ _ _ h=>h) (Str.zero eZ) G gE G zd G zk zk (λ a w U=>?_);have U:St B (rndB B [98,82] (gb++List.range' lo (hi-lo)) Ws Ws) 46 [(16,_),(2,_),(5,_)] [O 2 98 _,O 5 82 _,O 6 82 _] a w:=U;refine aa<|⟨U.base,λ W3 hbg=>?_⟩;have hlw2:(wayW t (exW t.ps.length [] nn 0 k)).l.length≤1000:=by show (List.map _ _).length≤1000;rw [qd,pN];omega
   have hlb:k≠0→0<(bsW (λ k=>wayW t (exW t.ps.length [] nn 0 k)) k).l.length:=λ hk0=>by
    obtain ⟨j,_,hj⟩:=HR (f:=(λ k=>wayW t (exW t.ps.length [] nn 0 k))) hk0;rw [hj];show 0<(List.map _ _).length;rw [qd,pN];omega
   have hW3a:=U.base.size;have hW3b:W3.heap.size=w.heap.size:=by obtain ⟨_,_,_,he⟩:=hbg;rw [he,World.putObj_size]
   have hW3:hi≤W3.heap.size:=by rw [hW3b];exact qg hhi hW3a
   have hB3:B≤W3.heap.size:=by rw [hW3b];exact qg hBs hW3a
   have U:=St.begin U (qj _) hBs hbg;refine wpIn_block ?_;refine wpIn_seq ?_;refine eH (sts:=[none,none,none]) (news:=[]) (sp:=[.adr 17 5 (.some 0) True,.v 18 _,.v 19 _,.v 20 _,.f 21 _,.f 22 _,.f 23 _,.v 24 _]) [.g 0,.g 1,.g 2,.o 7] zk (ej λ _ _ h=>h) U (zO 1 G gu (zL 0 1 0 G eJ (zv G (MO qF (vq 1 G) hlb) (zV 2 G (zB 3 G (λ hg=>eL (lz0 2 G) gE) (zB 3 G (λ hg=>eL (lz0 1 G) gE) (zB 3 G (λ hg=>be ((y4 (gL hn12) _ _).wk (.cons aG (.cons ((be_x (k_ne hg)).trans Ib).va .nil))) (.p (ae (vq 4 G) hg) (ae (vq 5 G) hg))) (zv G (r_or (vq 3 G) (vq 6 G)) o0)))))))) zk zk zk (λ a w U=>?_);have U:St B (rndB B [98,82] (gb++List.range' lo (hi-lo)) Ws W3) 46 [(16,_),(2,_),(5,_),(24,_)] [O 2 98 _,O 5 82 _,O 6 82 _] a w:=U;refine aa<|ly (λ a w =>  St B (rndB B [98,82] (gb++List.range' lo (hi-lo)) Ws W3) 46 [(2,EqV (a0.eval (.tmp 2))),(5,EqV (a0.eval (.tmp 5)))] [⟨2,98,ptrH,cat [EqA (.slice none 0 0),cat [NilI,NilI],NumA .i64 0]⟩,⟨5,82,ptrH,BeO (λ g=>hi≤g∧B≤g) (Wk26 nn) (k+1) (bsW (λ k=>wayW t (exW t.ps.length [] nn 0 k)) (k+1))⟩,⟨6,82,ptrH,WyX t nn (exW t.ps.length [] nn 0 k)⟩] a w) U (zm 3 G) (λ hb1=>?_) (λ hb1=>?_) (λ a w U=>?_)
   ·refine wpIn_seq ?_;refine eH (sts:=[none,none,some (4,_)]) (news:=[]) (sp:=[.adr 25 6 (.some 0) True,.v 26 _,.v 27 _,.adr 28 6 (.some 0) True,.sto 2]) [.g 0,.g 1,.g 2] zk (ej λ _ _ h=>h) U (zO 2 G gu (zL 0 2 0 G eJ (zv G (Jj (A:=(SlP (λ g=>hi≤g∧B≤g) 3 [] ((wayW t (exW t.ps.length [] nn 0 k)).l.map InA)).va) (Gi _ hlw hlw2) (.o (vq 1 G)) (λ b hb=>(Ew (λ g hg=>⟨qg hW3 (qg hb hg),qg hB3 (qg hb hg)⟩)).va)) (zO 2 G gu (oc (df 3 G G G G zk (vq 2 G) eJ (Put.part 0 G G G)) o0))))) zk zk zk (λ a w U=>?_);have U:St B (rndB B [98,82] (gb++List.range' lo (hi-lo)) Ws W3) 46 [(16,_),(2,_),(5,_)] [O 2 98 _,O 5 82 _,O 6 82 _] a w:=U;refine aa<|eH (sts:=[none,some (1,_),none]) (news:=[]) (sp:=[.v 29 _,.sto 1]) [.g 0,.g 1,.g 2] zk (ej λ _ _ h=>h) U (zl 2 G gE (zS 0 G gE o0)) zk zk zk (λ a w U=>?_);have U:St B (rndB B [98,82] (gb++List.range' lo (hi-lo)) Ws W3) 46 [(16,_),(2,_),(5,_)] [O 2 98 _,O 5 82 _,O 6 82 _] a w:=U;refine aa ?_;have U:=St.sel U [1,2];have U:=St.wkL U 2 rfl Ib;exact St.wkL U 1 G (by rw [show bsW (λ k=>wayW t (exW t.ps.length [] nn 0 k)) (k+1)=wayW t (exW t.ps.length [] nn 0 k) from qD hb1];exact be_s)
   ·refine wpIn_skip ?_;refine aa ?_;have U:=St.sel U [1,2];exact St.wkL U 1 G (by rw [show bsW (λ k=>wayW t (exW t.ps.length [] nn 0 k)) (k+1)=bsW (λ k=>wayW t (exW t.ps.length [] nn 0 k)) k from qA (λ h=>Bool.noConfusion (xF hb1.symm h))];exact be_k (Kn hb1))
   refine ak ?_;have U:=St.selL U [0,1];exact ⟨(λ h=>by cases h),oI [0,1] U ⟨rfl,⟨rfl,trivial⟩⟩⟩
  ·have U:=zn [] Se U;obtain ⟨m,hm⟩:∃ m,cntW t.ps.length 0 nn 0=m:=⟨_,rfl⟩;rw [hm] at U hcp;have U:=St.wkL U 1 rfl (be_x zo);have U:=St.upL U 1 rfl (λ cs h=>Ia (λ g hg=>hg.2) h);refine ak ?_;refine zt<|qb<|zg UH [] (.adr 30 5 (.some 1) True::(Wb 31 [.v 7 _])) UP U (zO 1 G fo (zL 0 1 1 G ax (zv G (bR (D:=[U32]) (l:=[_]) (xs:=[.tmp 31]) (cO zk) du zk (n_ok zk) nq nq nq (.o (vq 1 G)) G G) (zQ G (r5 [(bsW (λ k=>wayW t (exW t.ps.length [] nn 0 k)) m).pw] (.cons ⟨_,rfl⟩ .nil) nq) (.o (vq 2 G)) (zA 3 G o0))))) (zz [(7,_)] Se ?_);refine ztA<|zgA UF [] (W6 34) Rc (zM 0 G (zv G (ca (vq 0 G) ab) o0)) (zz (Wc 7 35) Se λ a w U=>?_);refine zJ 1 U G (λ hb2=>?_) (λ hb2=>?_)
   ·rw [r6,C3] at hb2;refine qb<|zg [some (2,_),η] [] (W6 36 [.sto 0,.v 3 _]) UJ U (zv G (aT (qs:=[]) lX .nil) (zM 0 G (zS 0 G sG (zA 1 G o0)))) (zz RH Se λ a w U=>?_);refine aa<|qi<|aj ?_;refine al ?_ (aP (rs:=[.cell 2 98,.tmp 3]) G U (.cell (zm 0 G) sG (.tmp (zm 0 G) .nil)) zd);have e:lR t=(ch0,4):=by rw [lR,qA (by rw [hb0];decide),qD (by rw [hbN,hm];exact hb2)]
    rw [e];exact tu2w zch_d.va (ba (by rw [C3,hb2];rfl))
   ·rw [r6,C3] at hb2;refine qk<|zt<|zgd [[],[0],[],[2],[2,3],[],[5],(Wm 7),(Wm 8),(Wm 9)] [some (8,_),none] [] (.adr 38 5 (.some 0) True::.v 39 _::.adr 40 5 (.some 1) True::(W6 41 (.adr 43 5 (.some 9) True::(W6 44 [.sto 0,.v 3 _])))) [.o 9] ac U (zO 1 G gu (zL 0 1 0 G eJ (zO 1 G fo (zL 2 1 1 G ax (zQ G (nc (qg (gL hn12) zd)) (.o (vq 3 G)) (zO 1 G iI (zL 5 1 3 G ty_3 (zv G (aT (qs:=[(0,_),(1,_),(2,_)]) lX (.cons ⟨rfl,vq 1 rfl,rfl⟩ (.cons ⟨rfl,vq 4 rfl,rfl⟩ (.cons ⟨rfl,vq 6 rfl,rfl⟩ .nil)))) (zS 7 G sG (zE G ab)))))))))) zk zk zk zk (zz RH Se λ a w U=>?_);refine aa<|qi<|al ?_ (aP (rs:=[.cell 2 98,.tmp 3]) G U (.cell (zm 0 G) sG (.tmp (zm 0 G) .nil)) zd);have e:lR t=(⟨(bsW (λ k=>wayW t (exW t.ps.length [] nn 0 k)) m).l,rfOf (bsW (λ k=>wayW t (exW t.ps.length [] nn 0 k)) m).pw,(bsW (λ k=>wayW t (exW t.ps.length [] nn 0 k)) m).c⟩,0):=by rw [lR,qA (by rw [hb0];decide),qA (by rw [hbN,hm,hb2];decide),hbN,hm]
    rw [e];exact tu2w (br (.cons (.refl _) (.cons qd_rfd (.cons (.refl _) .nil)))).va aG
deriving instance DecidableEq for RPt
deriving instance DecidableEq for RTk
def PtT (x:RPt):As:=cat [EqA (.string x.nm),RET x.e,InA x.c]
theorem Ig :WkA (PtT x) (PtA x):=br (.cons (.refl _) (.cons If (.cons (.refl _) .nil)))
theorem ww:FreeA (EqA v) (EqA v):=⟨rfl,rfl,λ _ _ _ _ _ h=>h⟩
theorem FL (x:RPt):FreeA (PtT x) (PtT x):=bN (.cons ww (.cons (FK _) (.cons (co _ _) .nil)))
theorem CZ:FreeA (REA ⟨0,rf0,rf0⟩) (REA ⟨0,rf0,rf0⟩):=bN (.cons (co _ _) (.cons rZ (.cons rZ .nil)))
theorem D0:FreeA (PtA ⟨⟨#[]⟩,⟨0,rf0,rf0⟩,7777⟩) (PtA ⟨⟨#[]⟩,⟨0,rf0,rf0⟩,7777⟩):=bN (.cons ww (.cons CZ (.cons (co _ _) .nil)))
theorem yU:FreeA (RFA ⟨⟨true,[]⟩,⟨false,[]⟩⟩) (RFA ⟨⟨true,[]⟩,⟨false,[]⟩⟩):=bN (.cons (bN (.cons (ep _) (.cons mc .nil))) (.cons (bN (.cons (ep _) (.cons mc .nil))) .nil))
theorem N0 {x y:RPt}:((decide (x.nm=y.nm)&&decide (x.e=y.e))&&(x.c==y.c))=decide (x=y):=by
 obtain ⟨a,b,c⟩:=x;obtain ⟨d,e,f⟩:=y;by_cases h1:a=d <;> by_cases h2:b=e <;> by_cases h3:c=f <;> simp [h1,h2,h3]
section
open Rg
variable {P:Program}{Q:Exit→Act→World→Prop}{R:Rg}{B i:Nat}{w0:Bs}
theorem DT (p q:ByteArray):(p.toList==q.toList)=decide (p=q):=by
 rw [js,xw,qJ];exact ⟨λ h=>Go.WideShapes.bytes_inj (by rw [← ByteArray.toList_eq,← ByteArray.toList_eq,h]),λ h=>h▸rfl⟩
theorem H7 {xt yt:Yh}(hx:Has R B w0 i x (EqA (.string p)).va)(hy:Has R B w0 i y (EqA (.string q)).va):Wv P Q R B w0 i (.binOp .eql xt x y yt) (Bo (decide (p=q))) :=
 bk λ _ _ _ _ _ a w av=>by
  have e1:=lM (hx a w av);have e2:=lM (hy a w av);exact ⟨.bool (decide (p=q)),w,(by simp [execOp,e1,e2,eqGuard,binOp,Op.stringOp,DT]),Grow.refl w,dJ _ _ _⟩
end
theorem yh (x:RPt)(hx:bdF x.e.p∧bdF x.e.q):Cn Tryz.prog 98 [(PtA x).va] ((PtT x).va):=by
 refine Cn.intro Tryz.func98 G zk nq (zy [(0,(PtA x).va)] λ B w0 a U=>?_);refine qb<|zg [] [zpL 1 79 0 _,zpL 2 79 1 _] UU [] U (zW 0 G (zY G (Str.zero et) o0)) (zz [] [O 1 79 _,O 2 79 _] λ a w U=>?_);refine zt<|zgd [[],[0],[],[2],[2,3],[],[5],(Wm 7),(Wm 8)] [none,some (8,_)] [] (.adr 3 1 (.some 0) True::.v 4 _::.adr 5 1 (.some 1) True::(W6 6 (.adr 8 1 (.some 10) True::(W6 9 [.sto 1])))) [] ac U (zO 0 G e8 (zL 0 0 0 G ty_9 (zO 0 G dZ (zL 2 0 1 G dq (zQ G (oq _ hx) (.o (vq 3 G)) (zO 0 G dG (zL 5 0 2 G ty_3 (zv G (aT (qs:=[(0,_),(1,_),(2,_)]) et (.cons ⟨rfl,vq 1 rfl,rfl⟩ (.cons ⟨rfl,vq 4 rfl,rfl⟩ (.cons ⟨rfl,vq 6 rfl,rfl⟩ .nil)))) (zS 7 G i6 o0))))))))) zk zk zk zk (zz [] [O 1 79 _,O 2 79 _] λ a w U=>?_);refine aa<|qi<|al ?_ (au G U (zm 1 G) i6);exact aG
theorem yM (x y:RPt)(hx:bdF x.e.p∧bdF x.e.q):Cn Tryz.prog 166 [(PtT x).va,(PtA y).va] (Bo (decide (x=y))):=by
 refine Cn.intro Tryz.func166 G zk nq (zy [(0,(PtT x).va),(1,(PtA y).va)] λ B w0 a U=>?_);refine qb<|zg [] [zpL 2 79 0 _,zpL 3 79 1 _] UC Ud U (zW 0 G (zW 1 G (zE G aE))) (zz U3 [O 2 79 _,O 3 79 _] ?_);refine ztA<|zgA UF [] (.adr 5 2 (.some 0) True::.v 6 _::.adr 7 3 (.some 0) True::(Wb 8 (.adr 11 2 (.some 1) (_=true)::.t 12 _::.adr 13 3 (.some 1) (_=true)::.t 14 _::.t 15 _::(W6 16 [.adr 18 2 (.some 10) (_=true),.t 19 _,.adr 20 3 (.some 10) (_=true),.t 21 _,.t 22 _,.v 23 _,.v 4 _])))) [.o 19] (zO 0 G e8 (zL 0 0 0 G ty_9 (zO 1 G e8 (zL 2 1 0 G ty_9 (zv G (H7 (vq 1 G) (vq 3 G)) (zV 4 G (zC 5 0 G dZ (zB 5 G (λ hg=>aB 6 G zk hg (lz0 0 G) (Sub.part 1 G G) dq) (zC 5 1 G dZ (zB 5 G (λ hg=>aB 8 G zk hg (lz0 1 G) (Sub.part 1 G G) dq) (zB 5 G (λ hg=>be (pp _ _ hx) (.p (ae (vq 7 G) hg) (ae (vq 9 G) hg))) (zv G (bv (vq 5 G) (vq 10 G)) (zV 11 G (zC 12 0 G dG (zB 12 G (λ hg=>aB 13 G zk hg (lz0 0 G) (Sub.part 2 G G) ty_3) (zC 12 1 G dG (zB 12 G (λ hg=>aB 15 G zk hg (lz0 1 G) (Sub.part 2 G G) ty_3) (zB 12 G (λ hg=>bC (ae (vq 14 G) hg) (ae (vq 16 G) hg)) (zv G (bv (vq 12 G) (vq 17 G)) (zA 18 G o0)))))))))))))))))))) (zz U3 [O 2 79 _,O 3 79 _] λ a w U=>?_);refine aa<|qi<|al ?_ (am G U (zm 0 G));exact ba (qq Bo N0)
theorem tR:∃ it z,Tryz.prog.info? 28=some it∧it.zero=some z∧it.size=4∧it.bytes=64∧z.cells.size=4:=by
 have h:((Tryz.prog.info? 28).bind λ it=>it.zero.map λ z=>(it.size,it.bytes,z.cells.size))=some (4,64,4):=by kernel_rfl
 cases hi:Tryz.prog.info? 28 with
 | none=>rw [hi] at h;simp at h
 | some it =>
  rw [hi] at h;cases hz:it.zero with
  | none=>simp [hz] at h
  | some z =>
   simp [hz] at h;exact ⟨it,z,rfl,hz,h.1,h.2.1,h.2.2⟩
abbrev pX (xs:List RF):Prop:=∀ x∈xs,bdF x
theorem sJ (xs:List RF)(hl:xs.length≤10000000)(hx:pX xs):Cn Tryz.prog 21 [(SlA 28 [U32] (xs.map RFA)).va] (TwS 28 4 [U32] (xs.map RFT) (RFA ⟨⟨true,[]⟩,⟨false,[]⟩⟩)):=by
 obtain ⟨it,z,e1,e2,e3,e4,e5⟩:=tR;refine Cn.introW Tryz.func21 G zk nq (.cons (iY (cq eI)).va .nil) (pz (gi (cq pC) yU)) (λ B w0 a hB0 U=>?_);have U:=zn [(0,(SlO 28 [U32] (xs.map RFA) True).va)] [] U;refine qb<|zh UA Rd U (zE G aX) (zz Re [] ?_);refine ztA<|zhA (W6 5 [.v 7 (In ((xs.length+1:Nat):Int)),.v 8 (OwnR w0.w.heap.size 28 4 [U32] []),.v 3 _]) Uz (zM 0 G (zv G (bg qR (bz (aC (vq 0 G)))) (zv G (aL (vq 1 G) ab (yb zo)) (zv G (sS qR e1 e2 e3 e4 e5 zd zd (xC hB0) ab (vq 2 G) zo) (zA 3 G o0))))) (zz UO [] ?_);refine ztA<|zsA<|zhA WR WS (zE G ab) (zz (Wa 0 3 4) [] λ a w U=>?_);refine aa<|ql ?_;have U:=St.sel U [0,1,2];refine wp_loop_ghost (λ n a w=>∃ j:Nat,(n+j=xs.length)∧St B w0 31 [(0,(SlO 28 [U32] (xs.map RFA) True).va),(3,OwnR w0.w.heap.size 28 4 [U32] ((xs.take j).map RFT)),(4,In (j:Nat))] [] a w) (xs.length) ?_ ?_
 ·exact ⟨0,by omega,U⟩
 intro n a w hI;obtain ⟨j,hn,U⟩:=hI;refine qb<|qb<|zh (Ww 9) WV U (zM 2 G (zM 0 G (zv G (bg qR (bz (aC (vq 1 G)))) (zv G (aN (vq 0 G) (vq 2 G)) o0)))) (zz (Wf 0 3 4 12) [] λ a w U=>?_);refine zJ 3 U G (λ hb0=>?_) (λ hb0=>?_)
 ·have hj:j<xs.length:=by simp at hb0;omega
  refine qk<|zt<|ql<|lr (sp:=[.v 15 _,.v 16 _,.v 17 _,.v 18 _,.v 19 _,.v 20 _,.v 21 _,.v 22 VT,.v 3 VT]) 7 [0,2] 0 6 U (zM 1 rfl (zM 0 rfl (zM 2 rfl (zv rfl (bB du (bX λ _=>rfl) (bz (aC (vq 1 rfl))) (vq 2 rfl) (bn hj)) (zv rfl (ao (vq 3 rfl) ax) (zQ rfl (fZ xs[j] (hx _ (qh hj))) (.o (vq 4 rfl)) (zv rfl (bR (D:=[U32]) (l:=[_]) (xs:=[.tmp 20]) (cO zk) du zk (n_ok zk) nq nq nq (.o (vq 5 rfl)) rfl rfl) o0))))))) rfl zk rfl rfl zd rfl zd rfl (λ _ _ h _=>h) qR e1 e2 e3 e4 e5 zd (by simp only [qd,zf,z7];omega) zd (λ T hT=>hT) zd (λ A hA=>by obtain rfl:=qo.1 hA;rfl) zk nq nq zk zk (zz (Wa 3 0 4) [] λ a w U=>?_);refine ak ?_;refine aa<|zh (W6 13 [.v 4 _]) U1 U (zM 2 G (zv G (aL (vq 0 G) ab (aW zo)) (zA 1 G o0))) (zz (Wa 3 0 4) [] λ a w U=>?_);refine aa ?_;have U:=St.sel U [1,0,2];exact ⟨n-1,by omega,j+1,by omega,St.wkG (A':=OwnR w0.w.heap.size 28 4 [U32] ((xs.take (j+1)).map RFT)) U 1 G (ba (qq (OwnR w0.w.heap.size 28 4 [U32]) (Bn hj)))⟩
 ·obtain rfl:j=xs.length:=by simp at hb0;omega
  refine qM<|ai<|ai<|az<|zt ?_;have U:=St.wkG (A':=OwnR w0.w.heap.size 28 4 [U32] (xs.map RFT)) U 1 rfl (ba (by rw [qI]));refine px (sp:=[.v 23 _,.v 24 _,.v 25 _,.v 26 _,.v 27 VT,.v 28 VT,.v 29 VT,.v 30 VT,.v 2 VT]) 4 [] 0 3 U (zM 1 rfl (zv rfl (aT (qs:=[(0,_)]) bu (.cons ⟨rfl,aE,rfl⟩ .nil)) (zv rfl (aT (qs:=[(0,_)]) aS (.cons ⟨rfl,vq 1 rfl,rfl⟩ .nil)) (zv rfl (bR (D:=[U32]) (l:=[RFA ⟨⟨true,[]⟩,⟨false,[]⟩⟩]) (xs:=[.tmp 25]) (cO zk) du zk (n_ok zk) nq nq nq (.o (vq 2 rfl)) rfl rfl) (o0))))) rfl zk rfl rfl rfl rfl rfl 0 rfl (λ B u w h=>by have h2:=AW B u w h;rw [qd] at h2;rw [qd];exact h2) zk zd rfl zd rfl (λ _ _ h _=>h) qR e1 e2 e3 e4 e5 zd (by rw [qd];omega) zd (λ T hT=>hT) zd zk zd nq nq nq nq nq zk zk (zz Ux [] λ a w U=>?_);refine aa<|qi<|al ?_ (am G U (zm 0 G));exact aG
theorem ti (xs ys:List RF)(hl:ys.length≤10000000)(hx:pX xs):Cn Tryz.prog 86 [TwS 28 4 [U32] (xs.map RFT) (RFA ⟨⟨true,[]⟩,⟨false,[]⟩⟩),(SlA 28 [U32] (ys.map RFA)).va] (Bo (decide (xs=ys))):=by
 refine Cn.intro Tryz.func86 G zk nq (zy [(0,TwS 28 4 [U32] (xs.map RFT) (RFA ⟨⟨true,[]⟩,⟨false,[]⟩⟩)),(1,(SlA 28 [U32] (ys.map RFA)).va)] λ B w0 a U=>?_);obtain ⟨g,c,U⟩:=St.exK U 0 rfl;have hcap:=ot (U.vals (0,_) (zm 0 rfl));rw [qd] at hcap;refine qb<|zh WR WS U (zE G aE) (zz WT [] ?_);refine ztA<|zsA<|zhA (Wl 7 [.f 13 _,.f 14 _,.f 15 _,.f 16 _,.f 17 _,.v 18 _]) (W7 [.o 11]) (zM 0 G (zv G (bg qR (has_wk' (vq 0 G) mp)) (zM 1 G (zv G (bg qR (vq 2 G)) (zv G (ca (vq 1 G) (vq 3 G)) (zV 4 G (zB 5 G (λ hg=>aq (gq 0 G)) (zB 5 G (λ hg=>BD qR (ae (vq 6 G) hg)) (zB 5 G (λ hg=>aq (gq 1 G)) (zB 5 G (λ hg=>bg qR (ae (vq 8 G) hg)) (zB 5 G (λ hg=>l9 (ae (vq 7 G) hg) (ae (vq 9 G) hg)) (zv G (r_or (vq 5 G) (vq 10 G)) o0)))))))))))) (zz (Wf 0 1 4 18) [] λ a w U=>?_);refine zJ 3 U G (λ hb0=>?_) (λ hb0=>?_)
 ·refine qb<|zh WR WS U (zE G aE) (zz WT [] λ a w U=>?_);refine aa<|qi<|aj ?_;refine al ?_ (am G U (zm 2 G));exact ba (qq Bo (te hcap.1 hb0))
 ·have hlen:=tf hb0;refine qk<|zt<|qb<|zh UY WZ U (zE G ab) (zz WW [] λ a w U=>?_);refine aa<|ql ?_;have U:=St.sel U [0,1,3];refine wp_loop_ghost (λ n a w=>∃ j:Nat,(n+j=ys.length∧xs.take j=ys.take j)∧St B w0 59 [(0,TwK g c 28 4 [U32] (xs.map RFT) (RFA ⟨⟨true,[]⟩,⟨false,[]⟩⟩)),(1,(SlA 28 [U32] (ys.map RFA)).va),(5,In (j:Nat))] [] a w) (ys.length) ?_ ?_
  ·exact ⟨0,⟨by omega,rfl⟩,U⟩
  intro n a w hI;obtain ⟨j,⟨hn,ht⟩,U⟩:=hI;refine qb<|qb<|zh (Ww 19) WV U (zM 2 G (zM 1 G (zv G (bg qR (vq 1 G)) (zv G (aN (vq 0 G) (vq 2 G)) o0)))) (zz (Wf 0 1 5 22) [] λ a w U=>?_);refine zJ 3 U G (λ hb1=>?_) (λ hb1=>?_)
  ·have hj2:j<ys.length:=by rw [qd] at hb1;simp at hb1;omega
   have hj:j<xs.length:=by omega
   refine qk<|zt<|ql<|qb<|zgd Sf [] [] (Wn 25) (W7 [.o 9]) ac U (zM 0 G (zM 2 G (zv G (bB du (bX λ _=>rfl) (has_wk' (vq 0 G) mp) (vq 1 G) (bn hj)) (zv G (ao (vq 2 G) ax) (zM 1 G (zM 2 G (zv G (bB du (bX λ _=>rfl) (vq 4 G) (vq 5 G) (bn hj2)) (zv G (ao (vq 6 G) ax) (zQ G (gk xs[j] ys[j] (hx _ (qh hj))) (.p (vq 3 G) (vq 7 G)) (zv G (dc (vq 8 G)) o0)))))))))) zk zk zk zk (zz (Wf 0 1 5 34) [] λ a w U=>?_);refine zJ 3 U G (λ hb2=>?_) (λ hb2=>?_)
   ·refine qb<|zh WR WZ U (zE G aE) (zz U0 [] λ a w U=>?_);refine aa<|qi<|aD ?_;refine aj ?_;refine aj ?_;refine aD ?_;refine aj ?_;refine al ?_ (am G U (zm 3 G));exact ba (qq Bo (ow hj2 hj hb2))
   ·refine qk<|ak ?_;refine aa<|zh (W6 23 [.v 5 _]) U1 U (zM 2 G (zv G (aL (vq 0 G) ab (aW zo)) (zA 1 G o0))) (zz (Wa 0 1 5) [] λ a w U=>?_);refine aa ?_;have U:=St.sel U [0,1,2];exact ⟨n-1,by omega,j+1,⟨by omega,oz hj2 hj ht hb2⟩,U⟩
  ·obtain rfl:j=ys.length:=by rw [qd] at hb1;simp at hb1;omega
   refine qM<|ai<|ai<|az<|zt<|zg [] [⟨6,28,ptrH,some 9,_,some (10,_)⟩] (Wo 35 [.alc 0,.sto 0]) [] U (zM 0 G (zM 1 G (zv G (bg qR (vq 1 G)) (zv G (aL (vq 2 G) ab (yb zo)) (zv G (sR du (vq 0 G) (has_wk' (vq 3 G) (ba (qq (λ k:Nat=>In ((k+1:Nat):Int)) (hlen.symm.trans (qd ..).symm))))) (zM 1 G (zv G (bg qR (vq 5 G)) (zv G (bB du (gi (cq λ _=>rfl) G) (vq 4 G) (has_wk' (vq 6 G) (ba (qq (λ k:Nat=>In (k:Int)) (qd ..)))) (k:=ys.length) (by rw [List.getElem?_append_right (by rw [qd];omega),qd,hlen,xY];rfl)) (zv G (ao (vq 7 G) ax) (zY G (Str.zero aS) (zS 8 G ax o0))))))))))) (zz [] [O 6 28 _] λ a w U=>?_);refine zt<|zg U6 [] (.adr 44 6 (.some 0) True::.adr 45 6 (.some (0+0)) True::(W6 46 [.adr 48 6 (.some 0) (_=true),.adr 49 6 (.some (0+1)) (_=true),.t 50 _,.t 51 _,.adr 52 6 (.some 2) (_=true),.adr 53 6 (.some (2+1)) (_=true),.t 54 _,.t 55 _,.t 56 _,.t 57 _,.v 58 _,.v 4 _])) [.o 15] U (zO 0 G aZ (oc (ob_a G G (dT 0 G zk trivial (lz0 0 G) aY)) (zv G (aB 1 G zk trivial (lz0 0 G) (Sub.trans (Sub.part 0 G G) (Sub.part 0 G G) G) ty_4) (zV 2 G (zC 3 0 G aZ (oc (yD G G G (vq 3 G) nq (λ hg=>dT 4 G zk hg (lz0 0 G) ar)) (zB 3 G (λ hg=>aB 5 G zk hg (lz0 0 G) (Sub.trans (Sub.part 0 G G) (Sub.part 1 G G) G) bb) (zB 3 G (λ hg=>aK qe (ae (vq 6 G) hg)) (zC 3 0 G aU (oc (yD G G G (vq 3 G) nq (λ hg=>dT 8 G zk hg (lz0 0 G) ar)) (zB 3 G (λ hg=>aB 9 G zk hg (lz0 0 G) (Sub.trans (Sub.part 1 G G) (Sub.part 1 G G) G) bb) (zB 3 G (λ hg=>aK qe (ae (vq 10 G) hg)) (zB 3 G (λ hg=>aL (ae (vq 7 G) hg) (ae (vq 11 G) hg) (G)) (zB 3 G (λ hg=>bC (ae (vq 12 G) hg) ab) (zv G (bv (vq 3 G) (vq 13 G)) (zA 14 G o0)))))))))))))))) (zz U3 [O 6 28 _] λ a w U=>?_);refine aa<|qi<|al ?_ (am G U (zm 0 G));have e:xs=ys:=by rw [qG zo,qI] at ht;exact ht
   refine ba (qq Bo ?_);rw [qH e];rfl
theorem tQ:∃ it z,Tryz.prog.info? 79=some it∧it.zero=some z∧it.size=11∧it.bytes=160∧z.cells.size=11:=by
 have h:((Tryz.prog.info? 79).bind λ it=>it.zero.map λ z=>(it.size,it.bytes,z.cells.size))=some (11,160,11):=by kernel_rfl
 cases hi:Tryz.prog.info? 79 with
 | none=>rw [hi] at h;simp at h
 | some it =>
  rw [hi] at h;cases hz:it.zero with
  | none=>simp [hz] at h
  | some z =>
   simp [hz] at h;exact ⟨it,z,rfl,hz,h.1,h.2.1,h.2.2⟩
abbrev pW (xs:List RPt):Prop:=∀ x∈xs,bdF x.e.p∧bdF x.e.q
theorem sI (xs:List RPt)(hl:xs.length≤10000000)(hx:pW xs):Cn Tryz.prog 22 [(SlA 79 [U32] (xs.map PtA)).va] (TwS 79 11 [U32] (xs.map PtT) (PtA ⟨⟨#[]⟩,⟨0,rf0,rf0⟩,7777⟩)):=by
 obtain ⟨it,z,e1,e2,e3,e4,e5⟩:=tQ;refine Cn.introW Tryz.func22 G zk nq (.cons (iY (cq AA)).va .nil) (pz (gi (cq FL) D0)) (λ B w0 a hB0 U=>?_);have U:=zn [(0,(SlO 79 [U32] (xs.map PtA) True).va)] [] U;refine qb<|zh UA Rd U (zE G aX) (zz Re [] ?_);refine ztA<|zhA (W6 5 [.v 7 (In ((xs.length+1:Nat):Int)),.v 8 (OwnR w0.w.heap.size 79 11 [U32] []),.v 3 _]) Uz (zM 0 G (zv G (bg qN (bz (aC (vq 0 G)))) (zv G (aL (vq 1 G) ab (yb zo)) (zv G (sS qN e1 e2 e3 e4 e5 zd zd (xC hB0) ab (vq 2 G) zo) (zA 3 G o0))))) (zz UO [] ?_);refine ztA<|zsA<|zhA WR WS (zE G ab) (zz (Wa 0 3 4) [] λ a w U=>?_);refine aa<|ql ?_;have U:=St.sel U [0,1,2];refine wp_loop_ghost (λ n a w=>∃ j:Nat,(n+j=xs.length)∧St B w0 30 [(0,(SlO 79 [U32] (xs.map PtA) True).va),(3,OwnR w0.w.heap.size 79 11 [U32] ((xs.take j).map PtT)),(4,In (j:Nat))] [] a w) (xs.length) ?_ ?_
 ·exact ⟨0,by omega,U⟩
 intro n a w hI;obtain ⟨j,hn,U⟩:=hI;refine qb<|qb<|zh (Ww 9) WV U (zM 2 G (zM 0 G (zv G (bg qN (bz (aC (vq 1 G)))) (zv G (aN (vq 0 G) (vq 2 G)) o0)))) (zz (Wf 0 3 4 12) [] λ a w U=>?_);refine zJ 3 U G (λ hb0=>?_) (λ hb0=>?_)
 ·have hj:j<xs.length:=by simp at hb0;omega
  refine qk<|zt<|ql<|lr (sp:=[.v 15 _,.v 16 _,.v 17 _,.v 18 _,.v 19 _,.v 20 _,.v 21 _,.v 22 VT,.v 3 VT]) 7 [0,2] 0 6 U (zM 1 rfl (zM 0 rfl (zM 2 rfl (zv rfl (bB fD (bX λ _=>rfl) (bz (aC (vq 1 rfl))) (vq 2 rfl) (bn hj)) (zv rfl (ao (vq 3 rfl) i6) (zQ rfl (yh xs[j] (hx _ (qh hj))) (.o (vq 4 rfl)) (zv rfl (bR (D:=[U32]) (l:=[_]) (xs:=[.tmp 20]) (cO zk) fD zk (n_ok zk) nq nq nq (.o (vq 5 rfl)) rfl rfl) o0))))))) rfl zk rfl rfl zd rfl zd rfl (λ _ _ h _=>h) qN e1 e2 e3 e4 e5 zd (by simp only [qd,zf,z7];omega) zd (λ T hT=>hT) zd (λ A hA=>by obtain rfl:=qo.1 hA;rfl) zk nq nq zk zk (zz (Wa 3 0 4) [] λ a w U=>?_);refine ak ?_;refine aa<|zh (W6 13 [.v 4 _]) U1 U (zM 2 G (zv G (aL (vq 0 G) ab (aW zo)) (zA 1 G o0))) (zz (Wa 3 0 4) [] λ a w U=>?_);refine aa ?_;have U:=St.sel U [1,0,2];exact ⟨n-1,by omega,j+1,by omega,St.wkG (A':=OwnR w0.w.heap.size 79 11 [U32] ((xs.take (j+1)).map PtT)) U 1 G (ba (qq (OwnR w0.w.heap.size 79 11 [U32]) (Bn hj)))⟩
 ·obtain rfl:j=xs.length:=by simp at hb0;omega
  refine qM<|ai<|ai<|az<|zt ?_;have U:=St.wkG (A':=OwnR w0.w.heap.size 79 11 [U32] (xs.map PtT)) U 1 rfl (ba (by rw [qI]));refine px (sp:=[.v 23 _,.v 24 _,.v 25 _,.v 26 VT,.v 27 VT,.v 28 VT,.v 29 VT,.v 2 VT]) 3 [] 0 2 U (zM 1 rfl (zv rfl (aT (qs:=[(2,_)]) et (.cons ⟨rfl,ab,rfl⟩ .nil)) (zv rfl (bR (D:=[U32]) (l:=[PtA ⟨⟨#[]⟩,⟨0,rf0,rf0⟩,7777⟩]) (xs:=[.tmp 24]) (cO zk) fD zk (n_ok zk) nq nq nq (.o (vq 1 rfl)) rfl rfl) (o0)))) rfl zk rfl rfl rfl rfl rfl 0 rfl (λ B u w h=>by have h2:=AW B u w h;rw [qd] at h2;rw [qd];exact h2) zk zd rfl zd rfl (λ _ _ h _=>h) qN e1 e2 e3 e4 e5 zd (by rw [qd];omega) zd (λ T hT=>hT) zd zk zd nq nq nq nq nq zk zk (zz Ux [] λ a w U=>?_);refine aa<|qi<|al ?_ (am G U (zm 0 G));exact aG
theorem th (xs ys:List RPt)(hl:ys.length≤10000000)(hx:pW xs):Cn Tryz.prog 87 [TwS 79 11 [U32] (xs.map PtT) (PtA ⟨⟨#[]⟩,⟨0,rf0,rf0⟩,7777⟩),(SlA 79 [U32] (ys.map PtA)).va] (Bo (decide (xs=ys))):=by
 refine Cn.intro Tryz.func87 G zk nq (zy [(0,TwS 79 11 [U32] (xs.map PtT) (PtA ⟨⟨#[]⟩,⟨0,rf0,rf0⟩,7777⟩)),(1,(SlA 79 [U32] (ys.map PtA)).va)] λ B w0 a U=>?_);obtain ⟨g,c,U⟩:=St.exK U 0 rfl;have hcap:=ot (U.vals (0,_) (zm 0 rfl));rw [qd] at hcap;refine qb<|zh WR WS U (zE G aE) (zz WT [] ?_);refine ztA<|zsA<|zhA (Wl 7 [.f 13 _,.f 14 _,.f 15 _,.f 16 _,.f 17 _,.v 18 _]) (W7 [.o 11]) (zM 0 G (zv G (bg qN (has_wk' (vq 0 G) mp)) (zM 1 G (zv G (bg qN (vq 2 G)) (zv G (ca (vq 1 G) (vq 3 G)) (zV 4 G (zB 5 G (λ hg=>aq (gq 0 G)) (zB 5 G (λ hg=>BD qN (ae (vq 6 G) hg)) (zB 5 G (λ hg=>aq (gq 1 G)) (zB 5 G (λ hg=>bg qN (ae (vq 8 G) hg)) (zB 5 G (λ hg=>l9 (ae (vq 7 G) hg) (ae (vq 9 G) hg)) (zv G (r_or (vq 5 G) (vq 10 G)) o0)))))))))))) (zz (Wf 0 1 4 18) [] λ a w U=>?_);refine zJ 3 U G (λ hb0=>?_) (λ hb0=>?_)
 ·refine qb<|zh WR WS U (zE G aE) (zz WT [] λ a w U=>?_);refine aa<|qi<|aj ?_;refine al ?_ (am G U (zm 2 G));exact ba (qq Bo (te hcap.1 hb0))
 ·have hlen:=tf hb0;refine qk<|zt<|qb<|zh UY WZ U (zE G ab) (zz WW [] λ a w U=>?_);refine aa<|ql ?_;have U:=St.sel U [0,1,3];refine wp_loop_ghost (λ n a w=>∃ j:Nat,(n+j=ys.length∧xs.take j=ys.take j)∧St B w0 47 [(0,TwK g c 79 11 [U32] (xs.map PtT) (PtA ⟨⟨#[]⟩,⟨0,rf0,rf0⟩,7777⟩)),(1,(SlA 79 [U32] (ys.map PtA)).va),(5,In (j:Nat))] [] a w) (ys.length) ?_ ?_
  ·exact ⟨0,⟨by omega,rfl⟩,U⟩
  intro n a w hI;obtain ⟨j,⟨hn,ht⟩,U⟩:=hI;refine qb<|qb<|zh (Ww 19) WV U (zM 2 G (zM 1 G (zv G (bg qN (vq 1 G)) (zv G (aN (vq 0 G) (vq 2 G)) o0)))) (zz (Wf 0 1 5 22) [] λ a w U=>?_);refine zJ 3 U G (λ hb1=>?_) (λ hb1=>?_)
  ·have hj2:j<ys.length:=by rw [qd] at hb1;simp at hb1;omega
   have hj:j<xs.length:=by omega
   refine qk<|zt<|ql<|qb<|zgd Sf [] [] (Wn 25) (W7 [.o 9]) ac U (zM 0 G (zM 2 G (zv G (bB fD (bX λ _=>rfl) (has_wk' (vq 0 G) mp) (vq 1 G) (bn hj)) (zv G (ao (vq 2 G) i6) (zM 1 G (zM 2 G (zv G (bB fD (bX λ _=>rfl) (vq 4 G) (vq 5 G) (bn hj2)) (zv G (ao (vq 6 G) i6) (zQ G (yM xs[j] ys[j] (hx _ (qh hj))) (.p (vq 3 G) (vq 7 G)) (zv G (dc (vq 8 G)) o0)))))))))) zk zk zk zk (zz (Wf 0 1 5 34) [] λ a w U=>?_);refine zJ 3 U G (λ hb2=>?_) (λ hb2=>?_)
   ·refine qb<|zh WR WZ U (zE G aE) (zz U0 [] λ a w U=>?_);refine aa<|qi<|aD ?_;refine aj ?_;refine aj ?_;refine aD ?_;refine aj ?_;refine al ?_ (am G U (zm 3 G));exact ba (qq Bo (ow hj2 hj hb2))
   ·refine qk<|ak ?_;refine aa<|zh (W6 23 [.v 5 _]) U1 U (zM 2 G (zv G (aL (vq 0 G) ab (aW zo)) (zA 1 G o0))) (zz (Wa 0 1 5) [] λ a w U=>?_);refine aa ?_;have U:=St.sel U [0,1,2];exact ⟨n-1,by omega,j+1,⟨by omega,oz hj2 hj ht hb2⟩,U⟩
  ·obtain rfl:j=ys.length:=by rw [qd] at hb1;simp at hb1;omega
   refine qM<|ai<|ai<|az<|zt<|zg [] [⟨6,79,ptrH,some 9,_,some (10,_)⟩] (Wo 35 [.alc 0,.sto 0]) [] U (zM 0 G (zM 1 G (zv G (bg qN (vq 1 G)) (zv G (aL (vq 2 G) ab (yb zo)) (zv G (sR fD (vq 0 G) (has_wk' (vq 3 G) (ba (qq (λ k:Nat=>In ((k+1:Nat):Int)) (hlen.symm.trans (qd ..).symm))))) (zM 1 G (zv G (bg qN (vq 5 G)) (zv G (bB fD (gi (cq λ _=>rfl) G) (vq 4 G) (has_wk' (vq 6 G) (ba (qq (λ k:Nat=>In (k:Int)) (qd ..)))) (k:=ys.length) (by rw [List.getElem?_append_right (by rw [qd];omega),qd,hlen,xY];rfl)) (zv G (ao (vq 7 G) i6) (zY G (Str.zero et) (zS 8 G i6 o0))))))))))) (zz [] [O 6 79 _] λ a w U=>?_);refine zt<|zg U6 [] (.adr 44 6 (.some 10) True::(W6 45 [.v 4 _])) UJ U (zO 0 G dG (zL 0 0 2 G ty_3 (zv G (bC (vq 1 G) ab) (zA 2 G o0)))) (zz U3 [O 6 79 _] λ a w U=>?_);refine aa<|qi<|al ?_ (am G U (zm 0 G));have e:xs=ys:=by rw [qG zo,qI] at ht;exact ht
   refine ba (qq Bo ?_);rw [qH e];rfl
theorem pY:∃ it z,Tryz.prog.info? 3=some it∧it.zero=some z∧it.size=1∧it.bytes=8∧z.cells.size=1:=by
 have h:((Tryz.prog.info? 3).bind λ it=>it.zero.map λ z=>(it.size,it.bytes,z.cells.size))=some (1,8,1):=by kernel_rfl
 cases hi:Tryz.prog.info? 3 with
 | none=>rw [hi] at h;simp at h
 | some it =>
  rw [hi] at h;cases hz:it.zero with
  | none=>simp [hz] at h
  | some z =>
   simp [hz] at h;exact ⟨it,z,rfl,hz,h.1,h.2.1,h.2.2⟩
abbrev od (xs:List Int):Prop:=∀ x∈xs,True
theorem ib (xs:Yk)(hl:xs.length≤10000000)(hx:od xs):Cn Tryz.prog 7 [(SlA 3 [] (xs.map InA)).va] (TwS 3 1 [] (xs.map InA) (InA 7777)):=by
 obtain ⟨it,z,e1,e2,e3,e4,e5⟩:=pY;refine Cn.introW Tryz.func7 G zk nq (.cons (iY (cq λ _=>lD _ _)).va .nil) (pz (gi (cq λ _=>co _ _) (co _ _))) (λ B w0 a hB0 U=>?_);have U:=zn [(0,(SlO 3 [] (xs.map InA) True).va)] [] U;refine qb<|zh UA Rd U (zE G aX) (zz Re [] ?_);refine ztA<|zhA (W6 5 [.v 7 (In ((xs.length+1:Nat):Int)),.v 8 (OwnR w0.w.heap.size 3 1 [] []),.v 3 _]) Uz (zM 0 G (zv G (bg qF (bz (aC (vq 0 G)))) (zv G (aL (vq 1 G) ab (yb zo)) (zv G (sS qF e1 e2 e3 e4 e5 zd zd (xC hB0) ab (vq 2 G) zo) (zA 3 G o0))))) (zz UO [] ?_);refine ztA<|zsA<|zhA WR WS (zE G ab) (zz (Wa 0 3 4) [] λ a w U=>?_);refine aa<|ql ?_;have U:=St.sel U [0,1,2];refine wp_loop_ghost (λ n a w=>∃ j:Nat,(n+j=xs.length)∧St B w0 28 [(0,(SlO 3 [] (xs.map InA) True).va),(3,OwnR w0.w.heap.size 3 1 [] ((xs.take j).map InA)),(4,In (j:Nat))] [] a w) (xs.length) ?_ ?_
 ·exact ⟨0,by omega,U⟩
 intro n a w hI;obtain ⟨j,hn,U⟩:=hI;refine qb<|qb<|zh (Ww 9) WV U (zM 2 G (zM 0 G (zv G (bg qF (bz (aC (vq 1 G)))) (zv G (aN (vq 0 G) (vq 2 G)) o0)))) (zz (Wf 0 3 4 12) [] λ a w U=>?_);refine zJ 3 U G (λ hb0=>?_) (λ hb0=>?_)
 ·have hj:j<xs.length:=by simp at hb0;omega
  refine qk<|zt<|ql<|lr (sp:=[.v 15 _,.v 16 _,.v 17 _,.v 18 _,.v 19 _,.v 20 _,.v 21 VT,.v 3 VT]) 6 [0,2] 0 5 U (zM 1 rfl (zM 0 rfl (zM 2 rfl (zv rfl (bB dr (bX λ _=>rfl) (bz (aC (vq 1 rfl))) (vq 2 rfl) (bn hj)) (zv rfl (ao (vq 3 rfl) ty_3) (zv rfl (bR (D:=[]) (l:=[_]) (xs:=[.tmp 19]) (cO zk) dr zk (n_ok zk) nq nq nq (.o (vq 4 rfl)) rfl rfl) o0)))))) rfl zk rfl rfl zd rfl zd rfl (λ _ _ h _=>h) qF e1 e2 e3 e4 e5 zd (by simp only [qd,zf,z7];omega) zd (λ T hT=>hT) zd (λ A hA=>by obtain rfl:=qo.1 hA;rfl) zk nq nq zk zk (zz (Wa 3 0 4) [] λ a w U=>?_);refine ak ?_;refine aa<|zh (W6 13 [.v 4 _]) U1 U (zM 2 G (zv G (aL (vq 0 G) ab (aW zo)) (zA 1 G o0))) (zz (Wa 3 0 4) [] λ a w U=>?_);refine aa ?_;have U:=St.sel U [1,0,2];exact ⟨n-1,by omega,j+1,by omega,St.wkG (A':=OwnR w0.w.heap.size 3 1 [] ((xs.take (j+1)).map InA)) U 1 G (ba (qq (OwnR w0.w.heap.size 3 1 []) (Bn hj)))⟩
 ·obtain rfl:j=xs.length:=by simp at hb0;omega
  refine qM<|ai<|ai<|az<|zt ?_;have U:=St.wkG (A':=OwnR w0.w.heap.size 3 1 [] (xs.map InA)) U 1 rfl (ba (by rw [qI]));refine px (sp:=[.v 22 _,.v 23 _,.v 24 VT,.v 25 VT,.v 26 VT,.v 27 VT,.v 2 VT]) 2 [] 0 1 U (zM 1 rfl (zv rfl (bR (D:=[]) (l:=[InA 7777]) (xs:=[.const (.int .i64 7777)]) (cO zk) dr zk (n_ok zk) nq nq nq (.cons ab .nil) rfl rfl) (o0))) rfl zk rfl rfl rfl rfl rfl 0 rfl (λ B u w h=>by have h2:=AW B u w h;rw [qd] at h2;rw [qd];exact h2) zk zd rfl zd rfl (λ _ _ h _=>h) qF e1 e2 e3 e4 e5 zd (by rw [qd];omega) zd (λ T hT=>hT) zd zk zd nq nq nq nq nq zk zk (zz Ux [] λ a w U=>?_);refine aa<|qi<|al ?_ (am G U (zm 0 G));exact aG
theorem iA (xs ys:Yk)(hl:ys.length≤10000000)(hx:od xs):Cn Tryz.prog 16 [TwS 3 1 [] (xs.map InA) (InA 7777),(SlA 3 [] (ys.map InA)).va] (Bo (decide (xs=ys))):=by
 refine Cn.intro Tryz.func16 G zk nq (zy [(0,TwS 3 1 [] (xs.map InA) (InA 7777)),(1,(SlA 3 [] (ys.map InA)).va)] λ B w0 a U=>?_);obtain ⟨g,c,U⟩:=St.exK U 0 rfl;have hcap:=ot (U.vals (0,_) (zm 0 rfl));rw [qd] at hcap;refine qb<|zh WR WS U (zE G aE) (zz WT [] ?_);refine ztA<|zsA<|zhA (Wl 7 [.f 13 _,.f 14 _,.f 15 _,.f 16 _,.f 17 _,.v 18 _]) (W7 [.o 11]) (zM 0 G (zv G (bg qF (has_wk' (vq 0 G) mp)) (zM 1 G (zv G (bg qF (vq 2 G)) (zv G (ca (vq 1 G) (vq 3 G)) (zV 4 G (zB 5 G (λ hg=>aq (gq 0 G)) (zB 5 G (λ hg=>BD qF (ae (vq 6 G) hg)) (zB 5 G (λ hg=>aq (gq 1 G)) (zB 5 G (λ hg=>bg qF (ae (vq 8 G) hg)) (zB 5 G (λ hg=>l9 (ae (vq 7 G) hg) (ae (vq 9 G) hg)) (zv G (r_or (vq 5 G) (vq 10 G)) o0)))))))))))) (zz (Wf 0 1 4 18) [] λ a w U=>?_);refine zJ 3 U G (λ hb0=>?_) (λ hb0=>?_)
 ·refine qb<|zh WR WS U (zE G aE) (zz WT [] λ a w U=>?_);refine aa<|qi<|aj ?_;refine al ?_ (am G U (zm 2 G));exact ba (qq Bo (te hcap.1 hb0))
 ·have hlen:=tf hb0;refine qk<|zt<|qb<|zh UY WZ U (zE G ab) (zz WW [] λ a w U=>?_);refine aa<|ql ?_;have U:=St.sel U [0,1,3];refine wp_loop_ghost (λ n a w=>∃ j:Nat,(n+j=ys.length∧xs.take j=ys.take j)∧St B w0 45 [(0,TwK g c 3 1 [] (xs.map InA) (InA 7777)),(1,(SlA 3 [] (ys.map InA)).va),(5,In (j:Nat))] [] a w) (ys.length) ?_ ?_
  ·exact ⟨0,⟨by omega,rfl⟩,U⟩
  intro n a w hI;obtain ⟨j,⟨hn,ht⟩,U⟩:=hI;refine qb<|qb<|zh (Ww 19) WV U (zM 2 G (zM 1 G (zv G (bg qF (vq 1 G)) (zv G (aN (vq 0 G) (vq 2 G)) o0)))) (zz (Wf 0 1 5 22) [] λ a w U=>?_);refine zJ 3 U G (λ hb1=>?_) (λ hb1=>?_)
  ·have hj2:j<ys.length:=by rw [qd] at hb1;simp at hb1;omega
   have hj:j<xs.length:=by omega
   refine qk<|zt<|ql<|qb<|zgd WY [] [] (Wo 25) (W7 [.o 8]) ac U (zM 0 G (zM 2 G (zv G (bB dr (bX λ _=>rfl) (has_wk' (vq 0 G) mp) (vq 1 G) (bn hj)) (zv G (ao (vq 2 G) ty_3) (zM 1 G (zM 2 G (zv G (bB dr (bX λ _=>rfl) (vq 4 G) (vq 5 G) (bn hj2)) (zv G (ao (vq 6 G) ty_3) (zv G (ca (vq 3 G) (vq 7 G)) o0))))))))) zk zk zk zk (zz (Wf 0 1 5 33) [] λ a w U=>?_);refine zJ 3 U G (λ hb2=>?_) (λ hb2=>?_)
   ·refine qb<|zh WR WZ U (zE G aE) (zz U0 [] λ a w U=>?_);refine aa<|qi<|aD ?_;refine aj ?_;refine aj ?_;refine aD ?_;refine aj ?_;refine al ?_ (am G U (zm 3 G));exact ba (qq Bo (ow hj2 hj hb2))
   ·refine qk<|ak ?_;refine aa<|zh (W6 23 [.v 5 _]) U1 U (zM 2 G (zv G (aL (vq 0 G) ab (aW zo)) (zA 1 G o0))) (zz (Wa 0 1 5) [] λ a w U=>?_);refine aa ?_;have U:=St.sel U [0,1,2];exact ⟨n-1,by omega,j+1,⟨by omega,oz hj2 hj ht hb2⟩,U⟩
  ·obtain rfl:j=ys.length:=by rw [qd] at hb1;simp at hb1;omega
   refine qM<|ai<|ai<|az<|zt<|zh (Wo 34 [.v 6 _]) [.o 9] U (zM 0 G (zM 1 G (zv G (bg qF (vq 1 G)) (zv G (aL (vq 2 G) ab (yb zo)) (zv G (sR dr (vq 0 G) (has_wk' (vq 3 G) (ba (qq (λ k:Nat=>In ((k+1:Nat):Int)) (hlen.symm.trans (qd ..).symm))))) (zM 1 G (zv G (bg qF (vq 5 G)) (zv G (bB dr (gi (cq λ _=>rfl) G) (vq 4 G) (has_wk' (vq 6 G) (ba (qq (λ k:Nat=>In (k:Int)) (qd ..)))) (k:=ys.length) (by rw [List.getElem?_append_right (by rw [qd];omega),qd,hlen,xY];rfl)) (zv G (ao (vq 7 G) ty_3) (zA 8 G o0)))))))))) (zz [(6,_)] [] λ a w U=>?_);refine zt<|zh (W6 43 [.v 4 _]) Ud U (zM 0 G (zv G (bC (vq 0 G) ab) (zA 1 G o0))) (zz U3 [] λ a w U=>?_);refine aa<|qi<|al ?_ (am G U (zm 0 G));have e:xs=ys:=by rw [qG zo,qI] at ht;exact ht
   refine ba (qq Bo ?_);rw [qH e];rfl
def TwA (E:TypeId)(m:Nat)(D:List TypeId)(l:List As)(x:As):As where
 n:=1
 ag:=false
 p B cs w:=∃ v,cs=[v]∧(TwS E m D l x).p B v w
 deps:=E::D
 len:=by rintro B cs w ⟨v,rfl,_⟩;rfl
 one:=by
  rintro B cs w ⟨v,rfl,g,c,h1,_⟩ u hu;obtain rfl:=qo.1 hu;rw [h1];rfl
 ag1:=λ _=>rfl
 cg:=λ B cs w w' hg ⟨v,h1,h2⟩=>⟨v,h1,(TwS E m D l x).cg _ _ _ _ hg h2⟩
 wr:=λ B cs w w' g c T fz q1 q2 q3 q4 ⟨v,h1,h2⟩=>⟨v,h1,(TwS E m D l x).wr _ _ _ _ _ _ _ _ q1 q2 q3 q4 h2⟩
theorem Mc {E:Yh}:Wk (TwS E m D l x) (TwA E m D l x).va:=λ B v w h=>⟨[v],⟨v,rfl,h⟩,rfl⟩
theorem Md {E:Yh}:Wk (TwA E m D l x).va (TwS E m D l x):=λ B v w ⟨cs,⟨u,h1,h2⟩,h3⟩=>by
 subst h1;have e:v=u:=h3;subst e;exact h2
theorem twA_wkA {E:Yh}:WkA (TwA E m D l x) (SlA E D l):=⟨rfl,rfl,λ B cs w ⟨v,h1,h2⟩=>by
 subst h1;obtain ⟨cs',h3,h4⟩:=AD B v w h2;have l2:=(SlA E D l).len _ _ _ h3
 match cs',l2 with
 | [c],_ =>
  have e:v=c:=h4;subst e;exact h3⟩
def TkT (t:RTk):As:=cat [TwA 28 4 [U32] (t.sp.map RFT) (RFA ⟨⟨true,[]⟩,⟨false,[]⟩⟩),TwA 79 11 [U32] (t.ps.map PtT) (PtA ⟨⟨#[]⟩,⟨0,rf0,rf0⟩,7777⟩),RFT t.tg]
theorem tkT_A :WkA (TkT t) (TkA t):=br (.cons (twA_wkA.trans (AU (iu λ x=>ol) (cq (p:=λ A=>∀ T∈A.deps,T∈[U32]) λ x=>fe zk))) (.cons (twA_wkA.trans (AU (iu λ x=>Ig) (cq (p:=λ A=>∀ T∈A.deps,T∈[U32]) λ x=>fe zk))) (.cons ol .nil)))
structure bdTk (t:RTk):Prop where
 l1:t.sp.length≤10000000
 l2:t.ps.length≤10000000
 b1:pX t.sp
 b2:pW t.ps
 b3:bdF t.tg
theorem Mj {x y:RTk}:((decide (x.sp=y.sp)&&decide (x.ps=y.ps))&&decide (x.tg=y.tg))=decide (x=y):=by
 obtain ⟨a,b,c⟩:=x;obtain ⟨d,e,f⟩:=y;by_cases h1:a=d <;> by_cases h2:b=e <;> by_cases h3:c=f <;> simp [h1,h2,h3]
theorem yg (t:RTk)(ht:bdTk t):Cn Tryz.prog 6 [(TkA t).va] ((TkT t).va):=by
 refine Cn.intro Tryz.func6 G zk nq (zy [(0,(TkA t).va)] λ B w0 a U=>?_);refine qb<|zg [] [zpL 1 30 0 _,zpL 2 30 1 _] UU [] U (zW 0 G (zY G (Str.zero ig) o0)) (zz [] [O 1 30 _,O 2 30 _] λ a w U=>?_);refine zt<|zgd [[],[0],[0,1],[],[3],(Wm 5),[],[6],(Wm 8),(Wm 9),(Wm 10)] [none,some (10,_)] [] (.adr 3 1 (.some 0) True::(W6 4 (.adr 6 1 (.some 1) True::(W6 7 (.adr 9 1 (.some 2) True::(Wb 10 [.sto 1])))))) [] ac U (zO 0 G cb (zL 0 0 0 G eY (zQ G (sJ t.sp ht.l1 ht.b1) (.o (vq 1 G)) (zO 0 G bM (zL 3 0 1 G ec (zQ G (sI t.ps ht.l2 ht.b2) (.o (vq 4 G)) (zO 0 G eB (zL 6 0 2 G ax (zQ G (fZ _ ht.b3) (.o (vq 7 G)) (zv G (aT (qs:=[(0,TwA 28 4 [U32] (t.sp.map RFT) (RFA ⟨⟨true,[]⟩,⟨false,[]⟩⟩)),(1,TwA 79 11 [U32] (t.ps.map PtT) (PtA ⟨⟨#[]⟩,⟨0,rf0,rf0⟩,7777⟩)),(2,RFT t.tg)]) ig (.cons ⟨rfl,(has_wk' (vq 2 G) Mc),rfl⟩ (.cons ⟨rfl,(has_wk' (vq 5 G) Mc),rfl⟩ (.cons ⟨rfl,vq 8 rfl,rfl⟩ .nil)))) (zS 9 G cp o0))))))))))) zk zk zk zk (zz [] [O 1 30 _,O 2 30 _] λ a w U=>?_);refine aa<|qi<|al ?_ (au G U (zm 1 G) cp);exact aG
theorem yL (x y:RTk)(hx:bdTk x)(hy:bdTk y):Cn Tryz.prog 15 [(TkT x).va,(TkA y).va] (Bo (decide (x=y))):=by
 refine Cn.intro Tryz.func15 G zk nq (zy [(0,(TkT x).va),(1,(TkA y).va)] λ B w0 a U=>?_);refine qb<|zg [] [zpL 2 30 0 _,zpL 3 30 1 _] UC Ud U (zW 0 G (zW 1 G (zE G aE))) (zz U3 [O 2 30 _,O 3 30 _] ?_);refine ztA<|zgA UF [] (.adr 5 2 (.some 0) True::.v 6 _::.adr 7 3 (.some 0) True::(Wb 8 (.adr 11 2 (.some 1) (_=true)::.t 12 _::.adr 13 3 (.some 1) (_=true)::.t 14 _::.t 15 _::(W6 16 [.adr 18 2 (.some 2) (_=true),.t 19 _,.adr 20 3 (.some 2) (_=true),.t 21 _,.t 22 _,.v 23 _,.v 4 _])))) [.o 19] (zO 0 G cb (zL 0 0 0 G eY (zO 1 G cb (zL 2 1 0 G eY (zQ G (ti x.sp y.sp hy.l1 hx.b1) (.p (has_wk' (vq 1 G) Md) (vq 3 G)) (zV 4 G (zC 5 0 G bM (zB 5 G (λ hg=>aB 6 G zk hg (lz0 0 G) (Sub.part 1 G G) ec) (zC 5 1 G bM (zB 5 G (λ hg=>aB 8 G zk hg (lz0 1 G) (Sub.part 1 G G) ec) (zB 5 G (λ hg=>be (th x.ps y.ps hy.l2 hx.b2) (.p (has_wk' (ae (vq 7 G) hg) Md) (ae (vq 9 G) hg))) (zv G (bv (vq 5 G) (vq 10 G)) (zV 11 G (zC 12 0 G eB (zB 12 G (λ hg=>aB 13 G zk hg (lz0 0 G) (Sub.part 2 G G) ax) (zC 12 1 G eB (zB 12 G (λ hg=>aB 15 G zk hg (lz0 1 G) (Sub.part 2 G G) ax) (zB 12 G (λ hg=>be (gk _ _ hx.b3) (.p (ae (vq 14 G) hg) (ae (vq 16 G) hg))) (zv G (bv (vq 12 G) (vq 17 G)) (zA 18 G o0)))))))))))))))))))) (zz U3 [O 2 30 _,O 3 30 _] λ a w U=>?_);refine aa<|qi<|al ?_ (am G U (zm 0 G));exact ba (qq Bo Mj)
theorem uI {E:Yh}(h1:∀ A∈l,A.n=m)(h2:∀ A∈l,∀ T∈A.deps,T∈D)(h3:l.length≤1000):Wk (NewR b E l) (OwnR b E m D l):=λ B v w ⟨g,ds,e1,e2,e3,e4⟩=>by
 have hl:ds.length=l.length*m:=by
  rw [(cat l).len _ _ _ e4];have:=uE h1 (qj l.length);unfold offs at this;rw [qI] at this;exact this
 refine ⟨h1,h2,ds,e4,by simp [hl],.inr ⟨g,l.length,ds.toArray,e1,e2,e3,qj _,by unfold maxLen;omega,by simp [hl],by rw [← hl];simp⟩⟩
def bnF (t:RTk)(xs:List Int):List RE × Int:=if (ckF t != 0)=true then ([],ckF t) else if (!whF t xs)=true then ([],1) else (benW t (natL xs),0)
theorem I0 {l:Ya}(h:j<l.length):benW t (l.take (j+1))=benW t (l.take j)++[(t.ps.getD l[j] ⟨⟨#[]⟩,⟨0,rf0,rf0⟩,0⟩).e,spE (t.sp.getD (j+1) rf0)]:=by
 rw [qx h];unfold benW;rw [sv,qv,zf,xo zo];simp
theorem OZ (t:RTk):benW t []=[spE (t.sp.getD 0 rf0)]:=rfl
theorem Lq (h:ckF t=0)(hj:j<t.sp.length):okX t.sp[j]=true:=by
 have h2:=qf.1 (ft h).2.1 _ (qh hj);unfold spcF at h2;simp only [qz,qO,qn] at h2;by_cases h3:okX t.sp[j]=true
 ·exact h3
 ·have:=h2.1;rw [qA h3] at this;exact absurd this zd
theorem ml (t:RTk)(l:Ya):(benW t l).length=2*l.length+1:=by
 unfold benW;rw [qv,y7];rfl
theorem oE {m:Ya}(h:l=m.map (λ (k:Nat)=>(k:Int))):SlA 3 [] (l.map InA)=SlA 3 [] (m.map λ (k:Nat)=>InA (k:Int)):=by rw [h,xE];rfl
end Go.Proofs.YtbghmmnkciimdaaGreatDoor
