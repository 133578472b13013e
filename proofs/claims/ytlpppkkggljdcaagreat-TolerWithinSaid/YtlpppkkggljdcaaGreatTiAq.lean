import Derived.Test.YtlpppkkggljdcaaGreatTiAa
import Derived.Test.YtlpppkkggljdcaaGreatTiAc
import Derived.Test.YtlpppkkggljdcaaGreatTiAp
import Derived.ProofKit
import Derived.OpenShut
import Derived.ChangeOld
import Derived.Below
set_option linter.unusedVariables false
set_option linter.unusedSimpArgs false
set_option linter.unusedSectionVars false
set_option maxRecDepth 100000
namespace Go.Proofs.YtlpppkkggljdcaaGreat
open Go Go.RowKit
def mulQ (m q:MQ):MQ:=⟨m.a*q.a+m.b*q.c,m.a*q.b+m.b*q.d,m.c*q.a+m.d*q.c,m.c*q.b+m.d*q.d⟩
end Go.Proofs.YtlpppkkggljdcaaGreat
namespace Go.Proofs.YtlpppkkggljdcaaGreat
open Go Go.RowKit
theorem det_mul (m q:MQ):detM (mulQ m q)=detM m*detM q:=by unfold detM mulQ; grind
end Go.Proofs.YtlpppkkggljdcaaGreat
namespace Go.Proofs.YtlpppkkggljdcaaGreat
open Go Go.RowKit
theorem Cm.introK {P : Program} {f : FuncId} {fn : Func} {c : Code} {T : TypeId} {A0 A1 : As} {H : Hd} {pre : List Ar} {post : VA} (p : Nat) (hf : P.funcs[f]? = some fn) (hb : fn.body = some c) (hn : (fn.name == "runtime.NumGoroutine") = false) (hsz : pre.length ≤ fn.ntmps)
  (hm:∀ g,(p,EqV (H.f g))∈argΓ (pre.map (Ar.va g)))
  (h:∀ (B g:Nat) (w0:Bs) (a:Act),St B w0 fn.ntmps (argΓ (pre.map (Ar.va g))) [⟨p,T,H,A0⟩] a w0.w→c.wp P (bPost P fn (RQm B w0 g T A1 post)) a w0.w):Cm P f T A0 A1 pre post:=by
 refine ⟨⟨fn,hf,hn,by rw [hb]; rfl⟩,fun B w g cs args hB hg hp ha=>(zc8 hf hb (h B g ⟨w,fun k=>k=g,false⟩ _ ?_)).mono fun _ _ ⟨v,cs',he,hv,hk,h1,h2⟩=>⟨v,cs',he,hv,hk,h1,h2⟩⟩
 have hl:=ha.length
 have hgw:=(Array.getElem?_eq_some_iff.1 hg).1
 have ha':All2 (fun (A:VA) v=>A.p B v w) (pre.map (Ar.va g)) args:=by
  clear hl hm h hsz
  induction ha with
  | nil=>exact .nil
  | @cons x y xs ys h1 _ ih =>
   refine .cons ?_ ih
   cases x with
   | v A=>exact h1
   | w H=>exact h1
 have h0:(⟨args.toArray++Array.replicate (fn.ntmps-args.toArray.size) undef,[]⟩:Act).eval (.tmp p)=H.f g :=
  All2.args (N:=fn.ntmps-args.toArray.size) ha' (p,EqV (H.f g)) (hm g)
 refine ⟨fun k hk=>?_,DefOk.nil rfl,?_,Kept.refl _,All2.args ha',fun l hl=>?_,fun l hl m hm hne=>?_⟩
 ·rcases hk with hk | hk
  ·exact Nat.le_trans hB (Nat.le_trans (Nat.le_of_lt hgw) hk)
  ·have:k=g:=hk
   omega
 ·simp only [Array.size_append,List.size_toArray,Array.size_replicate]
  omega
 ·simp at hl
  subst hl
  exact ⟨g,cs,h0,.inr rfl,hg,hp⟩
 ·simp at hl hm
  subst hl hm
  exact absurd rfl hne
theorem zh5 {P:Program}{fn:Func}{B N g p:Nat}{w0:Bs}{Γ:List (Nat × VA)}{Λ:List Lc}{a:Act}{w:World}{T:TypeId}{H:Hd}{A1:As}{post:VA}(h:St B w0 N Γ Λ a w)(hm:(p,EqV (H.f g))∈Γ)(hl:(⟨p,T,H,A1⟩:Lc)∈Λ)
  (hb:bPost P fn (RQ B w0 post) .ret a w):bPost P fn (RQm B w0 g T A1 post) .ret a w:=by
 refine zhn h hb fun v w h ⟨v',e1,e2,e3⟩=>?_
 obtain ⟨g',cs,f1,_,f3,f4⟩:=h.locs _ hl
 replace f1:a.eval (.tmp p)=H.f g':=f1
 have f0:a.eval (.tmp p)=H.f g:=h.vals _ hm
 have:g'=g:=Rg.Hd.inj (H:=H) (H':=H) (by rw [← f1,← f0])
 subst this
 exact ⟨v',cs,e1,e2,e3,f3,f4⟩
theorem sub_self {A:As}:Sub A 0 A:=fun B cs w h=>by
 have hl:=A.len B cs w h
 refine ⟨?_,by omega⟩
 rw [List.drop_zero,List.take_of_length_le zo]
 exact h
end Go.Proofs.YtlpppkkggljdcaaGreat
namespace Go.Proofs.YtlpppkkggljdcaaGreat
open Go Go.RowKit
def bQ (k:Nat)(r:Rat):Prop:=lz r.num≤k∧lz (r.den:Int)≤k
theorem zkl {c d:Nat}{x y:Rat}(hx:bQ c x)(hy:bQ d y):bQ (c+d+1) (x+y):=by
 obtain ⟨x1,x2⟩:=hx
 obtain ⟨y1,y2⟩:=hy
 rw [← zkv]
 obtain ⟨h1,h2⟩:=ze6 (p:=x.num*(y.den:Int)+y.num*(x.den:Int)) (q:=(x.den:Int)*(y.den:Int)) (den_nz x y)
 have h3:=zk4 (x.num*(y.den:Int)) (y.num*(x.den:Int))
 have h4:=zeh x.num y.den
 have h5:=zeh y.num x.den
 have h6:=zeh x.den y.den
 exact ⟨by omega,by omega⟩
theorem bQ_mul {c d:Nat}{x y:Rat}(hx:bQ c x)(hy:bQ d y):bQ (c+d) (x*y):=by
 obtain ⟨x1,x2⟩:=hx
 obtain ⟨y1,y2⟩:=hy
 rw [← rat_mul]
 obtain ⟨h1,h2⟩:=ze6 (p:=x.num*y.num) (q:=(x.den:Int)*(y.den:Int)) (den_nz x y)
 have h4:=zeh x.num y.num
 have h6:=zeh x.den y.den
 exact ⟨by omega,by omega⟩
theorem zcn {k:Nat}{r:Rat}(h:bQ k r)(hk:k≤2048):longQ r=false:=zfq h hk
def szQ (r:Rat):Nat:=lz r.num+lz (r.den:Int)
theorem bQ_sz (r:Rat):bQ (szQ r) r:=⟨by unfold szQ; omega,by unfold szQ; omega⟩
theorem frac_sz {r:Rat}(h:longQ r=false):fracSizeF (rfOf r)=((szQ r+2:Nat):Int):=by
 obtain ⟨h1,h2⟩:=longQ_false.1 h
 unfold fracSizeF intSizeF szQ
 show IntKind.i64.wrap (IntKind.i64.wrap (1+((lz r.num:Nat):Int))+IntKind.i64.wrap (1+((lz (r.den:Int):Nat):Int)))=_
 rw [wi64 (x:=1+((lz r.num:Nat):Int)) zo zo,wi64 (x:=1+((lz (r.den:Int):Nat):Int)) zo zo,wi64 zo zo]
 omega
theorem sz_le {r:Rat}(h:longQ r=false):szQ r≤4096:=by
 obtain ⟨h1,h2⟩:=longQ_false.1 h
 unfold szQ
 omega
end Go.Proofs.YtlpppkkggljdcaaGreat
namespace Go.Proofs.YtlpppkkggljdcaaGreat
open Go Go.RowKit
theorem nd_eq (x:Rat):x=(x.num:Rat)/((x.den:Int):Rat):=by rw [← Rat.divInt_eq_div]; exact (Rat.num_divInt_den x).symm
theorem den_ne (x:Rat):((x.den:Int):Rat)≠0:=by
 have:=x.den_nz
 intro h
 exact this (by exact_mod_cast h)
theorem mul_assoc3 (m n o:MQ):mulQ m (mulQ n o)=mulQ (mulQ m n) o:=by
 unfold mulQ
 simp only [MQ.mk.injEq]
 refine ⟨by grind,by grind,by grind,by grind⟩
end Go.Proofs.YtlpppkkggljdcaaGreat
namespace Go.Proofs.YtlpppkkggljdcaaGreat
open Go Go.RowKit
section
variable {P:Program} {R:Rg} {Q:Exit→Act→World→Prop} {B i:Nat} {w0:Bs}
end
end Go.Proofs.YtlpppkkggljdcaaGreat
namespace Go.Proofs.YtlpppkkggljdcaaGreat
open Go Go.RowKit
end Go.Proofs.YtlpppkkggljdcaaGreat
namespace Go.Proofs.YtlpppkkggljdcaaGreat
open Go Go.RowKit
theorem zfp {c d e f:Nat}{x y z u:Rat}(hk:c+d+e+f≤137438953472):Cn Tryz.prog 120 [Qs c x,Qs d y,Qs e z,Qs f u] (Qs (c+d+(e+f)+1) (x*y+z*u)):=by
 refine Cn.intro Tryz.func120 rfl zk nq (fun B w0 a hst=>?_)
 have hst:St B w0 16 [(0,Qs c x),(1,Qs d y),(2,Qs e z),(3,Qs f u)] [] a w0.w:=hst
 refine wp_seq ?_
 refine gl (sts:=[]) (news:=[⟨4,37,ptrH,some 0,_,none⟩,⟨5,37,ptrH,some 1,_,none⟩,⟨6,37,ptrH,some 2,_,none⟩,⟨7,37,ptrH,some 3,_,none⟩,⟨8,37,ptrH,some 4,_,none⟩]) (sp:=[.alc 0,.alc 1,.alc 2,.alc 3,.alc 4]) [] hst (oc (zak rfl rfl rfl (gq 0 rfl)) (oc (zak rfl rfl rfl (gq 1 rfl)) (oc (zak rfl rfl rfl (gq 2 rfl)) (oc (zak rfl rfl rfl (gq 3 rfl)) (oc (zag rfl rfl rfl (Str.zero zam)) o0))))) (fun a w hst=>?_)
 have hst:St B w0 16 [] [⟨4,37,ptrH,_⟩,⟨5,37,ptrH,_⟩,⟨6,37,ptrH,_⟩,⟨7,37,ptrH,_⟩,⟨8,37,ptrH,_⟩] a w:=hst
 refine zt<|zav (anc:=[[],[],[0,1],[],[],[0,1,2,3,4],[0,1,2,3,4,5],[0,1,2,3,4,5,6]]) (sts:=[none,none,none,none,some (7,_)]) (news:=[]) (sp:=[.val 9 _,.val 10 _,.val 11 _,.val 12 _,.val 13 _,.val 14 _,.val 15 _,.sto 4]) [] za6 hst (zv rfl (zac (lz0 0 rfl) za7) (zv rfl (zac (lz0 1 rfl) za7) (zv rfl (za5 (xs:=[.tmp 9,.tmp 10]) (zds zo) (.cons (vq 0 rfl) (.cons (vq 1 rfl) .nil))) (zv rfl (zac (lz0 2 rfl) za7) (zv rfl (zac (lz0 3 rfl) za7) (zv rfl (za5 (xs:=[.tmp 12,.tmp 13]) (zds zo) (.cons (vq 3 rfl) (.cons (vq 4 rfl) .nil))) (zv rfl (za5 (xs:=[.tmp 11,.tmp 14]) (plus_q zo) (.cons (vq 2 rfl) (.cons (vq 5 rfl) .nil))) (oc (za9 rfl rfl rfl (vq 6 rfl) za7 (Eq.trans (b:=4) rfl rfl)) o0)))))))) zk zk zk zk (fun a w hst=>?_)
 have hst:St B w0 16 [] [⟨4,37,ptrH,_⟩,⟨5,37,ptrH,_⟩,⟨6,37,ptrH,_⟩,⟨7,37,ptrH,_⟩,⟨8,37,ptrH,_⟩] a w:=hst
 refine za0 ?_
 refine wp_ret ?_
 refine zad ?_ (zao rfl hst (zm 4 rfl) za7)
 exact zay
theorem zhy {c d:Nat}{m q:MQ}(hk:c+d≤68719476736):Cn Tryz.prog 87 [(QMA c m).va,(QMA d q).va] ((QMA (c+d+(c+d)+1) (mulQ m q)).va):=by
 refine Cn.intro Tryz.func87 rfl zk nq (fun B w0 a hst=>?_)
 have hst:St B w0 42 [(0,(QMA c m).va),(1,(QMA d q).va)] [] a w0.w:=hst
 refine wp_seq ?_
 refine gl (sts:=[]) (news:=[⟨2,56,ptrH,some 0,_,none⟩,⟨3,56,ptrH,some 1,_,none⟩,⟨4,56,ptrH,some 2,_,none⟩]) (sp:=[.alc 0,.alc 1,.alc 2]) [] hst (oc (zak rfl rfl rfl (gq 0 rfl)) (oc (zak rfl rfl rfl (gq 1 rfl)) (oc (zag rfl rfl rfl (Str.zero zaw)) o0))) (fun a w hst=>?_)
 have hst:St B w0 42 [] [⟨2,56,ptrH,_⟩,⟨3,56,ptrH,_⟩,⟨4,56,ptrH,_⟩] a w:=hst
 refine zt<|zav (anc:=[[],[0],[],[2],[],[4],[],[6],[0,1,2,3,4,5,6,7],[],[9],[],[11],[],[13],[],[15],[0,1,2,3,4,5,6,7,8,9,10,11,12,13,14,15,16],[],[18],[],[20],[],[22],[],[24],[0,1,2,3,4,5,6,7,8,9,10,11,12,13,14,15,16,17,18,19,20,21,22,23,24,25],[],[27],[],[29],[],[31],[],[33],[0,1,2,3,4,5,6,7,8,9,10,11,12,13,14,15,16,17,18,19,20,21,22,23,24,25,26,27,28,29,30,31,32,33,34],[0,1,2,3,4,5,6,7,8,9,10,11,12,13,14,15,16,17,18,19,20,21,22,23,24,25,26,27,28,29,30,31,32,33,34,35],[0,1,2,3,4,5,6,7,8,9,10,11,12,13,14,15,16,17,18,19,20,21,22,23,24,25,26,27,28,29,30,31,32,33,34,35,36]]) (sts:=[none,none,some (37,_)]) (news:=[]) (sp:=((.adr 5 2 (.some 0) True:Sp)::(.val 6 _)::(.adr 7 3 (.some 0) True)::(.val 8 _)::(.adr 9 2 (.some 4) True)::(.val 10 _)::(.adr 11 3 (.some 8) True)::(.val 12 _)::(.val 13 _)::(.adr 14 2 (.some 0) True)::(.val 15 _)::(.adr 16 3 (.some 4) True)::(.val 17 _)::(.adr 18 2 (.some 4) True)::(.val 19 _)::(.adr 20 3 (.some 12) True)::(.val 21 _)::(.val 22 _)::(.adr 23 2 (.some 8) True)::(.val 24 _)::(.adr 25 3 (.some 0) True)::(.val 26 _)::(.adr 27 2 (.some 12) True)::(.val 28 _)::(.adr 29 3 (.some 8) True)::(.val 30 _)::(.val 31 _)::(.adr 32 2 (.some 8) True)::(.val 33 _)::(.adr 34 3 (.some 4) True)::(.val 35 _)::(.adr 36 2 (.some 12) True)::(.val 37 _)::(.adr 38 3 (.some 12) True)::(.val 39 _)::(.val 40 _)::(.val 41 _)::(.sto 2)::[])) [] za6 hst (oc (ob_a rfl rfl (za8 (lz0 0 rfl) zbu)) (zv rfl (za4 0 rfl zk trivial (lz0 0 rfl) (Sub.part 0 rfl rfl) za7) (oc (ob_a rfl rfl (za8 (lz0 1 rfl) zbu)) (zv rfl (za4 2 rfl zk trivial (lz0 1 rfl) (Sub.part 0 rfl rfl) za7) (oc (ob_a rfl rfl (za8 (lz0 0 rfl) zc6)) (zv rfl (za4 4 rfl zk trivial (lz0 0 rfl) (Sub.part 1 rfl rfl) za7) (oc (ob_a rfl rfl (za8 (lz0 1 rfl) zbt)) (zv rfl (za4 6 rfl zk trivial (lz0 1 rfl) (Sub.part 2 rfl rfl) za7) (zv rfl (za5 (xs:=[.tmp 6,.tmp 8,.tmp 10,.tmp 12]) (zfp zo) (.cons (vq 1 rfl) (.cons (vq 3 rfl) (.cons (vq 5 rfl) (.cons (vq 7 rfl) .nil))))) (oc (ob_a rfl rfl (za8 (lz0 0 rfl) zbu)) (zv rfl (za4 9 rfl zk trivial (lz0 0 rfl) (Sub.part 0 rfl rfl) za7) (oc (ob_a rfl rfl (za8 (lz0 1 rfl) zc6)) (zv rfl (za4 11 rfl zk trivial (lz0 1 rfl) (Sub.part 1 rfl rfl) za7) (oc (ob_a rfl rfl (za8 (lz0 0 rfl) zc6)) (zv rfl (za4 13 rfl zk trivial (lz0 0 rfl) (Sub.part 1 rfl rfl) za7) (oc (ob_a rfl rfl (za8 (lz0 1 rfl) zc0)) (zv rfl (za4 15 rfl zk trivial (lz0 1 rfl) (Sub.part 3 rfl rfl) za7) (zv rfl (za5 (xs:=[.tmp 15,.tmp 17,.tmp 19,.tmp 21]) (zfp zo) (.cons (vq 10 rfl) (.cons (vq 12 rfl) (.cons (vq 14 rfl) (.cons (vq 16 rfl) .nil))))) (oc (ob_a rfl rfl (za8 (lz0 0 rfl) zbt)) (zv rfl (za4 18 rfl zk trivial (lz0 0 rfl) (Sub.part 2 rfl rfl) za7) (oc (ob_a rfl rfl (za8 (lz0 1 rfl) zbu)) (zv rfl (za4 20 rfl zk trivial (lz0 1 rfl) (Sub.part 0 rfl rfl) za7) (oc (ob_a rfl rfl (za8 (lz0 0 rfl) zc0)) (zv rfl (za4 22 rfl zk trivial (lz0 0 rfl) (Sub.part 3 rfl rfl) za7) (oc (ob_a rfl rfl (za8 (lz0 1 rfl) zbt)) (zv rfl (za4 24 rfl zk trivial (lz0 1 rfl) (Sub.part 2 rfl rfl) za7) (zv rfl (za5 (xs:=[.tmp 24,.tmp 26,.tmp 28,.tmp 30]) (zfp zo) (.cons (vq 19 rfl) (.cons (vq 21 rfl) (.cons (vq 23 rfl) (.cons (vq 25 rfl) .nil))))) (oc (ob_a rfl rfl (za8 (lz0 0 rfl) zbt)) (zv rfl (za4 27 rfl zk trivial (lz0 0 rfl) (Sub.part 2 rfl rfl) za7) (oc (ob_a rfl rfl (za8 (lz0 1 rfl) zc6)) (zv rfl (za4 29 rfl zk trivial (lz0 1 rfl) (Sub.part 1 rfl rfl) za7) (oc (ob_a rfl rfl (za8 (lz0 0 rfl) zc0)) (zv rfl (za4 31 rfl zk trivial (lz0 0 rfl) (Sub.part 3 rfl rfl) za7) (oc (ob_a rfl rfl (za8 (lz0 1 rfl) zc0)) (zv rfl (za4 33 rfl zk trivial (lz0 1 rfl) (Sub.part 3 rfl rfl) za7) (zv rfl (za5 (xs:=[.tmp 33,.tmp 35,.tmp 37,.tmp 39]) (zfp zo) (.cons (vq 28 rfl) (.cons (vq 30 rfl) (.cons (vq 32 rfl) (.cons (vq 34 rfl) .nil))))) (zv rfl (zb0 (xs:=[(0,.tmp 13),(1,.tmp 22),(2,.tmp 31),(3,.tmp 40)]) (qs:=[(0,_),(1,_),(2,_),(3,_)]) zaw (.cons ⟨rfl,(vq 8 rfl),rfl⟩ (.cons ⟨rfl,(vq 17 rfl),rfl⟩ (.cons ⟨rfl,(vq 26 rfl),rfl⟩ (.cons ⟨rfl,(vq 35 rfl),rfl⟩ .nil))))) (oc (za9 rfl rfl rfl (vq 36 rfl) zbc (Eq.trans (b:=16) rfl rfl)) o0)))))))))))))))))))))))))))))))))))))) zk zk zk zk (fun a w hst=>?_)
 have hst:St B w0 42 [] [⟨2,56,ptrH,_⟩,⟨3,56,ptrH,_⟩,⟨4,56,ptrH,_⟩] a w:=hst
 refine za0 ?_
 refine wp_ret ?_
 refine zad ?_ (zao rfl hst (zm 2 rfl) zbc)
 exact zay
theorem zf0  : Cn Tryz.prog 86 [] ((QMA 2 ⟨1,0,0,1⟩).va):=by
 refine Cn.intro Tryz.func86 rfl zk nq (fun B w0 a hst=>?_)
 have hst:St B w0 6 [] [] a w0.w:=hst
 refine wp_seq ?_
 refine gl (sts:=[]) (news:=[⟨0,56,ptrH,some 0,_,none⟩]) (sp:=[.alc 0]) [] hst (oc (zag rfl rfl rfl (Str.zero zaw)) o0) (fun a w hst=>?_)
 have hst:St B w0 6 [] [⟨0,56,ptrH,_⟩] a w:=hst
 refine zt<|gl (sts:=[some (5,_)]) (news:=[]) (sp:=[.val 1 _,.val 2 _,.val 3 _,.val 4 _,.val 5 _,.sto 0]) [] hst (zv rfl (za5 (xs:=[]) one_q .nil) (zv rfl (za5 (xs:=[]) ziz .nil) (zv rfl (za5 (xs:=[]) ziz .nil) (zv rfl (za5 (xs:=[]) one_q .nil) (zv rfl (zb0 (xs:=[(0,.tmp 1),(1,.tmp 2),(2,.tmp 3),(3,.tmp 4)]) (qs:=[(0,_),(1,_),(2,_),(3,_)]) zaw (.cons ⟨rfl,(vq 0 rfl),rfl⟩ (.cons ⟨rfl,(vq 1 rfl),rfl⟩ (.cons ⟨rfl,(vq 2 rfl),rfl⟩ (.cons ⟨rfl,(vq 3 rfl),rfl⟩ .nil))))) (oc (za9 rfl rfl rfl (vq 4 rfl) zbc (Eq.trans (b:=16) rfl rfl)) o0)))))) (fun a w hst=>?_)
 have hst:St B w0 6 [] [⟨0,56,ptrH,_⟩] a w:=hst
 refine za0 ?_
 refine wp_ret ?_
 refine zad ?_ (zao rfl hst (zm 0 rfl) zbc)
 exact zay
def oneQ (m:MQ)(s:Int):Bool:=(((m.b.num.sign==0)&&(m.c.num.sign==0))&&(cmQ m.a (Rat.divInt s 1)==0))&&(cmQ m.d m.a==0)
def trsQ (m:MQ):Rat:=(m.a+m.d)*(m.a+m.d)
def kiQ (m:MQ):Int:=if cmQ (trsQ m) (Rat.divInt 4 1)<0 then 1 else if oneQ m 1 then 2 else if oneQ m (-1) then 2 else if cmQ (trsQ m) (Rat.divInt 4 1)==0 then 3 else 4
def kiF (m:RM):Int × Int:=if okM m then (kiQ (toM m),0) else (0,1)
abbrev KiR (r:Int × Int):VA:=Tu [(NumA .u8 r.1).va,In r.2]
theorem ki_1 {m:MQ}(h:decide (cmQ (trsQ m) (Rat.divInt 4 1)<0)=true):kiQ m=1:=if_pos (of_decide_eq_true h)
theorem ki_2 {m:MQ}(h:decide (cmQ (trsQ m) (Rat.divInt 4 1)<0)=false)(h1:oneQ m 1=true):kiQ m=2:=by rw [kiQ,if_neg (of_decide_eq_false h),if_pos h1]
theorem ki_2n {m:MQ}(h:decide (cmQ (trsQ m) (Rat.divInt 4 1)<0)=false)(h1:oneQ m 1=false)(h2:oneQ m (-1)=true):kiQ m=2:=by rw [kiQ,if_neg (of_decide_eq_false h),if_neg (by rw [h1]; decide),if_pos h2]
theorem ki_3 {m:MQ}(h:decide (cmQ (trsQ m) (Rat.divInt 4 1)<0)=false)(h1:oneQ m 1=false)(h2:oneQ m (-1)=false)(h3:(cmQ (trsQ m) (Rat.divInt 4 1)==0)=true):kiQ m=3:=by rw [kiQ,if_neg (of_decide_eq_false h),if_neg (by rw [h1]; decide),if_neg (by rw [h2]; decide),if_pos h3]
theorem ki_4 {m:MQ}(h:decide (cmQ (trsQ m) (Rat.divInt 4 1)<0)=false)(h1:oneQ m 1=false)(h2:oneQ m (-1)=false)(h3:(cmQ (trsQ m) (Rat.divInt 4 1)==0)=false):kiQ m=4:=by rw [kiQ,if_neg (of_decide_eq_false h),if_neg (by rw [h1]; decide),if_neg (by rw [h2]; decide),if_neg (by rw [h3]; decide)]
theorem cavOne_q {m:MQ}{s:Int}(hs : -9223372036854775808≤s)(hs1:s<9223372036854775808):Cn Tryz.prog 68 [(QMA 2048 m).va,In s] (Bo (oneQ m s)):=by
 refine Cn.intro Tryz.func68 rfl zk nq (fun B w0 a hst=>?_)
 have hst:St B w0 31 [(0,(QMA 2048 m).va),(1,In s)] [] a w0.w:=hst
 refine wp_seq ?_
 refine gl (sts:=[]) (news:=[⟨2,56,ptrH,some 0,_,none⟩]) (sp:=[.alc 0,.val 4 _]) [.g 1,.o 1] hst (oc (zak rfl rfl rfl (gq 0 rfl)) (zv rfl (za1 zbk) o0)) (fun a w hst=>?_)
 have hst:St B w0 31 [(1,_),(4,_)] [⟨2,56,ptrH,_⟩] a w:=hst
 refine zt<|zav (anc:=[[],[0],[0,1],[0,1,2],[0,1,2,3],[0,1,2,3,4],[0,1,2,3,4,5],[0,1,2,3,4,5,6],[0,1,2,3,4,5,6,7],[0,1,2,3,4,5,6,7,8],[0,1,2,3,4,5,6,7,8,9],[0,1,2,3,4,5,6,7,8,9,10],[0,1,2,3,4,5,6,7,8,9,10,11],[0,1,2,3,4,5,6,7,8,9,10],[0,1,2,3,4,5,6,7,8,9,10,13],[0,1,2,3,4,5,6,7,8,9,10,11,12,13,14],[0,1,2,3,4,5,6,7,8,9,10,11,12,13,14,15],[0,1,2,3,4,5,6,7,8,9,10,11,12,13,14,15,16],[0,1,2,3,4,5,6,7,8,9,10,11,12,13,14,15,16,17],[0,1,2,3,4,5,6,7,8,9,10,11,12,13,14,15,16,17,18],[0,1,2,3,4,5,6,7,8,9,10,11,12,13,14,15,16,17,18,19],[0,1,2,3,4,5,6,7,8,9,10,11,12,13,14,15,16,17,18],[0,1,2,3,4,5,6,7,8,9,10,11,12,13,14,15,16,17,18,21],[0,1,2,3,4,5,6,7,8,9,10,11,12,13,14,15,16,17,18,19,20,21,22],[0,1,2,3,4,5,6,7,8,9,10,11,12,13,14,15,16,17,18,19,20,21,22,23],[0,1,2,3,4,5,6,7,8,9,10,11,12,13,14,15,16,17,18,19,20,21,22,23,24],[0,1,2,3,4,5,6,7,8,9,10,11,12,13,14,15,16,17,18,19,20,21,22,23,24,25]]) (sts:=[none]) (news:=[]) (sp:=((.adr 5 2 (.some 4) True:Sp)::(.val 6 _)::(.val 7 _)::(.val 8 _)::(.val 9 _)::(.adr 10 2 (.some 8) (_=true))::(.val 11 (Wh (_=true) _))::(.val 12 (Wh (_=true) _))::(.val 13 (Wh (_=true) _))::(.val 14 _)::(.val 15 _)::(.adr 16 2 (.some 0) (_=true))::(.val 17 (Wh (_=true) _))::(.val 18 (Wh (_=true) _))::(.val 19 (Wh (_=true) _))::(.val 20 (Wh (_=true) _))::(.val 21 (Wh (_=true) _))::(.val 22 _)::(.val 23 _)::(.adr 24 2 (.some 12) (_=true))::(.val 25 (Wh (_=true) _))::(.adr 26 2 (.some 0) (_=true))::(.val 27 (Wh (_=true) _))::(.val 28 (Wh (_=true) _))::(.val 29 (Wh (_=true) _))::(.val 30 _)::(.val 4 _)::[])) [.o 26] za6 hst (oc (ob_a rfl rfl (za8 (lz0 0 rfl) zc6)) (zv rfl (za4 0 rfl zk trivial (lz0 0 rfl) (Sub.part 1 rfl rfl) za7) (zv rfl (za5 (xs:=[.tmp 6]) sign_q (.cons (vq 1 rfl) .nil)) (zv rfl (zcc (vq 2 rfl) za3) (zv rfl (za2 (vq 3 rfl)) (oc (zd5 rfl rfl rfl (vq 4 rfl) nq (fun hg=>za8 (lz0 0 rfl) zbt)) (oc (zan rfl rfl rfl (vq 4 rfl) nq (fun hg=>za4 5 rfl zk hg (lz0 0 rfl) (Sub.part 2 rfl rfl) za7)) (oc (zan rfl rfl rfl (vq 4 rfl) nq (fun hg=>za5 (xs:=[.tmp 11]) sign_q (.cons (zah (vq 6 rfl) hg) .nil))) (oc (zan rfl rfl rfl (vq 4 rfl) nq (fun hg=>zcc (zah (vq 7 rfl) hg) za3)) (zv rfl (zcq (vq 4 rfl) (vq 8 rfl)) (zv rfl (za2 (vq 9 rfl)) (oc (zd5 rfl rfl rfl (vq 10 rfl) nq (fun hg=>za8 (lz0 0 rfl) zbu)) (oc (zan rfl rfl rfl (vq 10 rfl) nq (fun hg=>za4 11 rfl zk hg (lz0 0 rfl) (Sub.part 0 rfl rfl) za7)) (oc (zan rfl rfl rfl (vq 10 rfl) nq (fun hg=>za2 (gq 0 rfl))) (oc (zan rfl rfl rfl (vq 10 rfl) nq (fun hg=>za5 (xs:=[.tmp 18,.const (.int .i64 (1))]) (zin hs hs1 zd zd zd) (.cons (zah (vq 13 rfl) hg) (.cons za3 .nil)))) (oc (zan rfl rfl rfl (vq 10 rfl) nq (fun hg=>za5 (xs:=[.tmp 17,.tmp 19]) (zhr zo) (.cons (zah (vq 12 rfl) hg) (.cons (zah (vq 14 rfl) hg) .nil)))) (oc (zan rfl rfl rfl (vq 10 rfl) nq (fun hg=>zcc (zah (vq 15 rfl) hg) za3)) (zv rfl (zcq (vq 10 rfl) (vq 16 rfl)) (zv rfl (za2 (vq 17 rfl)) (oc (zd5 rfl rfl rfl (vq 18 rfl) nq (fun hg=>za8 (lz0 0 rfl) zc0)) (oc (zan rfl rfl rfl (vq 18 rfl) nq (fun hg=>za4 19 rfl zk hg (lz0 0 rfl) (Sub.part 3 rfl rfl) za7)) (oc (zd5 rfl rfl rfl (vq 18 rfl) nq (fun hg=>za8 (lz0 0 rfl) zbu)) (oc (zan rfl rfl rfl (vq 18 rfl) nq (fun hg=>za4 21 rfl zk hg (lz0 0 rfl) (Sub.part 0 rfl rfl) za7)) (oc (zan rfl rfl rfl (vq 18 rfl) nq (fun hg=>za5 (xs:=[.tmp 25,.tmp 27]) (zhr zo) (.cons (zah (vq 20 rfl) hg) (.cons (zah (vq 22 rfl) hg) .nil)))) (oc (zan rfl rfl rfl (vq 18 rfl) nq (fun hg=>zcc (zah (vq 23 rfl) hg) za3)) (zv rfl (zcq (vq 18 rfl) (vq 24 rfl)) (zv rfl (za1 (vq 25 rfl)) o0))))))))))))))))))))))))))) zk zk zk zk (fun a w hst=>?_)
 have hst:St B w0 31 [(4,_)] [⟨2,56,ptrH,_⟩] a w:=hst
 refine za0 ?_
 refine wp_ret ?_
 refine zad ?_ (zaj rfl hst (zm 0 rfl))
 exact zay
theorem kind_c (m:RM):Cn Tryz.prog 32 [(RMA m).va] (KiR (kiF m)):=by
 refine Cn.intro Tryz.func32 rfl zk nq (fun B w0 a hst=>?_)
 have hst:St B w0 33 [(0,(RMA m).va)] [] a w0.w:=hst
 refine wp_seq ?_
 refine gl (sts:=[]) (news:=[⟨1,56,ptrH,some 0,_,none⟩]) (sp:=[.alc 0,.val 2 _,.val 3 _]) [.o 1,.o 2] hst (oc (zak rfl rfl rfl (gq 0 rfl)) (zv rfl (za1 za3) (zv rfl (za1 za3) o0))) (fun a w hst=>?_)
 have hst:St B w0 33 [(2,_),(3,_)] [⟨1,56,ptrH,_⟩] a w:=hst
 refine zt ?_
 refine wp_seq ?_
 refine gl (sts:=[none]) (news:=[]) (sp:=[.val 7 _,.val 8 _,.val 9 _]) [.g 0,.g 1,.o 2] hst (zv rfl (zac (lz0 0 rfl) zbc) (zv rfl (za5 (xs:=[.tmp 7]) (rowMay_c m) (.cons (vq 0 rfl) .nil)) (zv rfl (zdl (vq 1 rfl)) o0))) (fun a w hst=>?_)
 have hst:St B w0 33 [(2,_),(3,_),(9,_)] [⟨1,56,ptrH,_⟩] a w:=hst
 refine za0 ?_
 refine zaa hst (zm 2 rfl) (fun hb0=>?_) (fun hb0=>?_)
 ·rw [Bool.not_eq_true'] at hb0
  refine wp_seq ?_
  refine gl (sts:=[none]) (news:=[]) (sp:=[.val 2 _,.val 3 _]) [.o 0,.o 1] hst (zv rfl (za1 za3) (zv rfl (za1 za3) o0)) (fun a w hst=>?_)
  have hst:St B w0 33 [(2,_),(3,_)] [⟨1,56,ptrH,_⟩] a w:=hst
  refine za0 ?_
  refine wp_ret ?_
  refine zaf ?_
  refine zad ?_ (zar (rs:=[.tmp 2,.tmp 3]) rfl hst (.tmp (zm 0 rfl) (.tmp (zm 1 rfl) .nil)) zd)
  rw [kiF,if_neg (by rw [hb0]; decide)]; exact zay
 ·rw [Bool.not_eq_false'] at hb0
  have hst:=St.wkL hst 0 rfl (qm_x (okM_q hb0).1)
  have ek:kiF m=(kiQ (toM m),0):=by rw [kiF,if_pos hb0]
  refine wp_skip ?_
  refine zt<|gl (sts:=[none]) (news:=[⟨4,37,ptrH,some 5,_,some (6,_)⟩]) (sp:=[.adr 10 1 (.some 0) True,.val 11 _,.adr 12 1 (.some 12) True,.val 13 _,.val 14 _,.alc 1,.sto 1]) [.g 0,.g 1] hst (oc (ob_a rfl rfl (za8 (lz0 0 rfl) zbu)) (zv rfl (za4 0 rfl zk trivial (lz0 0 rfl) (Sub.part 0 rfl rfl) za7) (oc (ob_a rfl rfl (za8 (lz0 0 rfl) zc0)) (zv rfl (za4 2 rfl zk trivial (lz0 0 rfl) (Sub.part 3 rfl rfl) za7) (zv rfl (za5 (xs:=[.tmp 11,.tmp 13]) (plus_q zo) (.cons (vq 1 rfl) (.cons (vq 3 rfl) .nil))) (oc (zag rfl rfl rfl (Str.zero zam)) (oc (za9 rfl rfl rfl (vq 4 rfl) za7 (Eq.trans (b:=4) rfl rfl)) o0))))))) (fun a w hst=>?_)
  have hst:St B w0 33 [(2,_),(3,_)] [⟨1,56,ptrH,_⟩,⟨4,37,ptrH,_⟩] a w:=hst
  refine zt<|gl (sts:=[none,none]) (news:=[⟨5,37,ptrH,some 3,_,some (4,_)⟩]) (sp:=[.val 15 _,.val 16 _,.val 17 _,.alc 2,.sto 2]) [.g 0,.g 1] hst (zv rfl (zac (lz0 1 rfl) za7) (zv rfl (zac (lz0 1 rfl) za7) (zv rfl (za5 (xs:=[.tmp 15,.tmp 16]) (zds zo) (.cons (vq 0 rfl) (.cons (vq 1 rfl) .nil))) (oc (zag rfl rfl rfl (Str.zero zam)) (oc (za9 rfl rfl rfl (vq 2 rfl) za7 (Eq.trans (b:=4) rfl rfl)) o0))))) (fun a w hst=>?_)
  have hst:St B w0 33 [(2,_),(3,_)] [⟨1,56,ptrH,_⟩,⟨4,37,ptrH,_⟩,⟨5,37,ptrH,_⟩] a w:=hst
  refine zt ?_
  refine wp_seq ?_
  refine zav (anc:=[[],[],[0,1],[0,1,2]]) (sts:=[none,none,none]) (news:=[]) (sp:=[.val 18 _,.val 19 _,.val 20 _,.val 6 _]) [.g 0,.g 1,.o 3] za6 hst (zv rfl (zac (lz0 2 rfl) za7) (zv rfl (za5 (xs:=[.const (.int .i64 (4)),.const (.int .i64 (1))]) (zin zd zd zd zd zd) (.cons za3 (.cons za3 .nil))) (zv rfl (za5 (xs:=[.tmp 18,.tmp 19]) (zhr zo) (.cons (vq 0 rfl) (.cons (vq 1 rfl) .nil))) (zv rfl (za1 (vq 2 rfl)) o0)))) zk zk zk zk (fun a w hst=>?_)
  have hst:St B w0 33 [(2,_),(3,_),(6,_)] [⟨1,56,ptrH,_⟩,⟨4,37,ptrH,_⟩,⟨5,37,ptrH,_⟩] a w:=hst
  refine za0 ?_
  refine wp_block ?_
  refine wp_seq ?_
  refine wp_block ?_
  refine wp_seq ?_
  refine wp_block ?_
  refine wp_block ?_
  refine wp_seq ?_
  refine wp_block ?_
  refine wp_seq ?_
  refine wp_seq ?_
  refine wp_seq ?_
  refine gl (sts:=[none,none,none]) (news:=[]) (sp:=[.val 22 _,.val 23 _,.val 21 _]) [.g 0,.g 1,.g 2,.o 2] hst (zv rfl (za2 (gq 2 rfl)) (zv rfl (zc2 (vq 0 rfl) za3) (zv rfl (za1 (vq 1 rfl)) o0))) (fun a w hst=>?_)
  have hst:St B w0 33 [(2,_),(3,_),(6,_),(21,_)] [⟨1,56,ptrH,_⟩,⟨4,37,ptrH,_⟩,⟨5,37,ptrH,_⟩] a w:=hst
  refine za0 ?_
  refine zaa hst (zm 3 rfl) (fun hb1=>?_) (fun hb1=>?_)
  ·refine wp_exit ?_
   refine zae ?_
   refine zae ?_
   refine zaz ?_
   refine zt ?_
   refine wp_seq ?_
   refine gl (sts:=[none,none,none]) (news:=[]) (sp:=[.val 2 _,.val 3 _]) [.o 0,.o 1] hst (zv rfl (za1 za3) (zv rfl (za1 za3) o0)) (fun a w hst=>?_)
   have hst:St B w0 33 [(2,_),(3,_)] [⟨1,56,ptrH,_⟩,⟨4,37,ptrH,_⟩,⟨5,37,ptrH,_⟩] a w:=hst
   refine za0 ?_
   refine wp_ret ?_
   refine zaf ?_
   refine zb4 ?_
   refine zb4 ?_
   refine zaf ?_
   refine zb4 ?_
   refine zaf ?_
   refine zb4 ?_
   refine zaf ?_
   refine zad ?_ (zar (rs:=[.tmp 2,.tmp 3]) rfl hst (.tmp (zm 0 rfl) (.tmp (zm 1 rfl) .nil)) zd)
   rw [ek,ki_1 (m:=toM m) hb1]; exact zay
  ·refine wp_skip ?_
   refine zt ?_
   refine wp_seq ?_
   refine gl (sts:=[none,none,none]) (news:=[]) (sp:=[.val 25 _,.val 26 _,.val 24 _]) [.g 0,.g 1,.g 2,.o 2] hst (zv rfl (zac (lz0 0 rfl) zbc) (zv rfl (za5 (xs:=[.tmp 25,.const (.int .i64 (1))]) (cavOne_q (m:=⟨_,_,_,_⟩) zd zd) (.cons (vq 0 rfl) (.cons za3 .nil))) (zv rfl (za1 (vq 1 rfl)) o0))) (fun a w hst=>?_)
   have hst:St B w0 33 [(2,_),(3,_),(6,_),(24,_)] [⟨1,56,ptrH,_⟩,⟨4,37,ptrH,_⟩,⟨5,37,ptrH,_⟩] a w:=hst
   refine za0 ?_
   refine zaa hst (zm 3 rfl) (fun hb2=>?_) (fun hb2=>?_)
   ·refine wp_exit ?_
    refine zae ?_
    refine zae ?_
    refine blk_exit' zd ?_
    refine zae ?_
    refine zaz ?_
    refine zap ?_
    refine zt ?_
    refine wp_seq ?_
    refine gl (sts:=[none,none,none]) (news:=[]) (sp:=[.val 2 _,.val 3 _]) [.o 0,.o 1] hst (zv rfl (za1 za3) (zv rfl (za1 za3) o0)) (fun a w hst=>?_)
    have hst:St B w0 33 [(2,_),(3,_)] [⟨1,56,ptrH,_⟩,⟨4,37,ptrH,_⟩,⟨5,37,ptrH,_⟩] a w:=hst
    refine za0 ?_
    refine wp_ret ?_
    refine zaf ?_
    refine zb4 ?_
    refine zaf ?_
    refine zb4 ?_
    refine zaf ?_
    refine zad ?_ (zar (rs:=[.tmp 2,.tmp 3]) rfl hst (.tmp (zm 0 rfl) (.tmp (zm 1 rfl) .nil)) zd)
    rw [ek,ki_2 (m:=toM m) hb1 hb2]; exact zay
   ·refine wp_skip ?_
    refine zt ?_
    refine wp_seq ?_
    refine gl (sts:=[none,none,none]) (news:=[]) (sp:=[.val 28 _,.val 29 _,.val 27 _]) [.g 0,.g 1,.g 2,.o 2] hst (zv rfl (zac (lz0 0 rfl) zbc) (zv rfl (za5 (xs:=[.tmp 28,.const (.int .i64 (-1))]) (cavOne_q (m:=⟨_,_,_,_⟩) zd zd) (.cons (vq 0 rfl) (.cons za3 .nil))) (zv rfl (za1 (vq 1 rfl)) o0))) (fun a w hst=>?_)
    have hst:St B w0 33 [(2,_),(3,_),(6,_),(27,_)] [⟨1,56,ptrH,_⟩,⟨4,37,ptrH,_⟩,⟨5,37,ptrH,_⟩] a w:=hst
    refine za0 ?_
    refine zaa hst (zm 3 rfl) (fun hb3=>?_) (fun hb3=>?_)
    ·refine wp_exit ?_
     refine zae ?_
     refine zae ?_
     refine blk_exit' zd ?_
     refine zae ?_
     refine blk_exit' zd ?_
     refine zaz ?_
     refine zt ?_
     refine wp_seq ?_
     refine gl (sts:=[none,none,none]) (news:=[]) (sp:=[.val 2 _,.val 3 _]) [.o 0,.o 1] hst (zv rfl (za1 za3) (zv rfl (za1 za3) o0)) (fun a w hst=>?_)
     have hst:St B w0 33 [(2,_),(3,_)] [⟨1,56,ptrH,_⟩,⟨4,37,ptrH,_⟩,⟨5,37,ptrH,_⟩] a w:=hst
     refine za0 ?_
     refine wp_ret ?_
     refine zaf ?_
     refine zb4 ?_
     refine zaf ?_
     refine zb4 ?_
     refine zaf ?_
     refine zad ?_ (zar (rs:=[.tmp 2,.tmp 3]) rfl hst (.tmp (zm 0 rfl) (.tmp (zm 1 rfl) .nil)) zd)
     rw [ek,ki_2n (m:=toM m) hb1 hb2 hb3]; exact zay
    ·refine wp_skip ?_
     refine zt<|gl (sts:=[none,none,none]) (news:=[]) (sp:=[.val 31 _,.val 32 _,.val 30 _]) [.g 0,.g 1,.o 2] hst (zv rfl (za2 (gq 2 rfl)) (zv rfl (zcc (vq 0 rfl) za3) (zv rfl (za1 (vq 1 rfl)) o0))) (fun a w hst=>?_)
     have hst:St B w0 33 [(2,_),(3,_),(30,_)] [⟨1,56,ptrH,_⟩,⟨4,37,ptrH,_⟩,⟨5,37,ptrH,_⟩] a w:=hst
     refine za0 ?_
     refine zaa hst (zm 2 rfl) (fun hb4=>?_) (fun hb4=>?_)
     ·refine wp_exit ?_
      refine zae ?_
      refine blk_exit' zd ?_
      refine zae ?_
      refine blk_exit' zd ?_
      refine blk_exit' zd ?_
      refine zae ?_
      refine zaz ?_
      refine zt ?_
      refine wp_seq ?_
      refine gl (sts:=[none,none,none]) (news:=[]) (sp:=[.val 2 _,.val 3 _]) [.o 0,.o 1] hst (zv rfl (za1 za3) (zv rfl (za1 za3) o0)) (fun a w hst=>?_)
      have hst:St B w0 33 [(2,_),(3,_)] [⟨1,56,ptrH,_⟩,⟨4,37,ptrH,_⟩,⟨5,37,ptrH,_⟩] a w:=hst
      refine za0 ?_
      refine wp_ret ?_
      refine zaf ?_
      refine zb4 ?_
      refine zaf ?_
      refine zad ?_ (zar (rs:=[.tmp 2,.tmp 3]) rfl hst (.tmp (zm 0 rfl) (.tmp (zm 1 rfl) .nil)) zd)
      rw [ek,ki_3 (m:=toM m) hb1 hb2 hb3 hb4]; exact zay
     ·refine wp_skip ?_
      refine za0 ?_
      refine wp_exit ?_
      refine blk_exit' zd ?_
      refine zae ?_
      refine blk_exit' zd ?_
      refine blk_exit' zd ?_
      refine zae ?_
      refine blk_exit' zd ?_
      refine zae ?_
      refine zaz ?_
      refine zt<|gl (sts:=[none,none,none]) (news:=[]) (sp:=[.val 2 _,.val 3 _]) [.o 0,.o 1] hst (zv rfl (za1 za3) (zv rfl (za1 za3) o0)) (fun a w hst=>?_)
      have hst:St B w0 33 [(2,_),(3,_)] [⟨1,56,ptrH,_⟩,⟨4,37,ptrH,_⟩,⟨5,37,ptrH,_⟩] a w:=hst
      refine za0 ?_
      refine wp_ret ?_
      refine zad ?_ (zar (rs:=[.tmp 2,.tmp 3]) rfl hst (.tmp (zm 0 rfl) (.tmp (zm 1 rfl) .nil)) zd)
      rw [ek,ki_4 (m:=toM m) hb1 hb2 hb3 hb4]; exact zay
theorem as_no {c:Prop}[Decidable c](h:((if c then (4:Int) else 0) != 0)=false):¬ c:=fun hc=>by rw [if_pos hc] at h; simp at h
theorem as_yes {c:Prop}[Decidable c](h:((if c then (4:Int) else 0) != 0)=true):c:=Decidable.byContradiction fun hc=>by rw [if_neg hc] at h; simp at h
theorem cavAnswer_q {L:List As}(qs:List Rat)(hL:All2 IsQ L qs)(hl:qs.length≤1099511627776):Cn Tryz.prog 95 [(SlA 37 [U32] L).va] (In (if qs.any longQ then 4 else 0)):=by
 refine Cn.intro Tryz.func95 rfl zk nq (fun B w0 a hst=>?_)
 have hst:St B w0 5 [(0,(SlA 37 [U32] L).va)] [] a w0.w:=hst
 refine wp_seq ?_
 refine gl (sts:=[]) (news:=[]) (sp:=[.val 2 _]) [.g 0,.o 0] hst (zv rfl (za1 za3) o0) (fun a w hst=>?_)
 have hst:St B w0 5 [(0,_),(2,_)] [] a w:=hst
 refine zt<|gl (sts:=[]) (news:=[]) (sp:=[.val 3 _,.val 4 _,.val 2 _]) [.o 2] hst (zv rfl (za2 (gq 0 rfl)) (zv rfl (za5 (xs:=[.tmp 3]) (zg0 qs hL hl) (.cons (vq 0 rfl) .nil)) (zv rfl (za1 (vq 1 rfl)) o0))) (fun a w hst=>?_)
 have hst:St B w0 5 [(2,_)] [] a w:=hst
 refine za0 ?_
 refine wp_ret ?_
 refine zad ?_ (zaj rfl hst (zm 0 rfl))
 exact zay
theorem cavMatrix_q {c:Nat}{m:MQ}(hc:c≤549755813888):Cn Tryz.prog 56 [(QMA c m).va] (MR (asM 0 m)):=by
 refine Cn.intro Tryz.func56 rfl zk nq (fun B w0 a hst=>?_)
 have hst:St B w0 32 [(0,(QMA c m).va)] [] a w0.w:=hst
 refine wp_seq ?_
 refine gl (sts:=[]) (news:=[⟨1,56,ptrH,some 0,_,none⟩,⟨2,56,ptrH,some 1,_,none⟩]) (sp:=[.alc 0,.alc 1,.val 3 _]) [.o 2] hst (oc (zak rfl rfl rfl (gq 0 rfl)) (oc (zag rfl rfl rfl (Str.zero zaw)) (zv rfl (za1 za3) o0))) (fun a w hst=>?_)
 have hst:St B w0 32 [(3,_)] [⟨1,56,ptrH,_⟩,⟨2,56,ptrH,_⟩] a w:=hst
 refine zt ?_
 refine wp_seq ?_
 refine gl (sts:=[none,none]) (news:=[]) (sp:=[.adr 5 1 (.some 0) True,.val 6 _,.adr 7 1 (.some 4) True,.val 8 _,.adr 9 1 (.some 8) True,.val 10 _,.adr 11 1 (.some 12) True,.val 12 _,.val 13 _,.val 14 _,.val 4 _]) [.g 0,.o 10] hst (oc (ob_a rfl rfl (za8 (lz0 0 rfl) zbu)) (zv rfl (za4 0 rfl zk trivial (lz0 0 rfl) (Sub.part 0 rfl rfl) za7) (oc (ob_a rfl rfl (za8 (lz0 0 rfl) zc6)) (zv rfl (za4 2 rfl zk trivial (lz0 0 rfl) (Sub.part 1 rfl rfl) za7) (oc (ob_a rfl rfl (za8 (lz0 0 rfl) zbt)) (zv rfl (za4 4 rfl zk trivial (lz0 0 rfl) (Sub.part 2 rfl rfl) za7) (oc (ob_a rfl rfl (za8 (lz0 0 rfl) zc0)) (zv rfl (za4 6 rfl zk trivial (lz0 0 rfl) (Sub.part 3 rfl rfl) za7) (zv rfl (zc5 (D:=[U32]) (l:=[_,_,_,_]) (xs:=[.tmp 6,.tmp 8,.tmp 10,.tmp 12]) (zdt zk) zdf zk (n_ok zk) nq nq nq (.cons (vq 1 rfl) (.cons (vq 3 rfl) (.cons (vq 5 rfl) (.cons (vq 7 rfl) .nil)))) rfl rfl) (zv rfl (za5 (xs:=[.tmp 13]) (cavAnswer_q [m.a,m.b,m.c,m.d] (.cons ⟨_,rfl⟩ (.cons ⟨_,rfl⟩ (.cons ⟨_,rfl⟩ (.cons ⟨_,rfl⟩ .nil)))) nq) (.cons (vq 8 rfl) .nil)) (zv rfl (za1 (vq 9 rfl)) o0))))))))))) (fun a w hst=>?_)
 have hst:St B w0 32 [(3,_),(4,_)] [⟨1,56,ptrH,_⟩,⟨2,56,ptrH,_⟩] a w:=hst
 refine zt<|gl (sts:=[none,none]) (news:=[]) (sp:=[.val 15 _,.val 16 _]) [.g 0,.g 1,.o 1] hst (zv rfl (za2 (gq 1 rfl)) (zv rfl (zcf (vq 0 rfl) za3) o0)) (fun a w hst=>?_)
 have hst:St B w0 32 [(3,_),(4,_),(16,_)] [⟨1,56,ptrH,_⟩,⟨2,56,ptrH,_⟩] a w:=hst
 refine za0 ?_
 refine zaa hst (zm 2 rfl) (fun hb0=>?_) (fun hb0=>?_)
 ·have hl:=as_yes hb0
  refine wp_seq ?_
  refine gl (sts:=[none,some (2,_)]) (news:=[]) (sp:=[.val 17 _,.val 18 _,.sto 1,.val 3 _]) [.o 3] hst (zv rfl (zb0 (xs:=[]) (qs:=[]) zaw .nil) (zv rfl (za2 (gq 1 rfl)) (oc (za9 rfl rfl rfl (vq 0 rfl) zbc (Eq.trans (b:=16) rfl rfl)) (zv rfl (za1 (vq 1 rfl)) o0)))) (fun a w hst=>?_)
  have hst:St B w0 32 [(3,_)] [⟨1,56,ptrH,_⟩,⟨2,56,ptrH,_⟩] a w:=hst
  refine za0 ?_
  refine wp_ret ?_
  refine zaf ?_
  refine zad ?_ (zar (rs:=[.cell 2 56,.tmp 3]) rfl hst (.cell (zm 1 rfl) zbc (.tmp (zm 0 rfl) .nil)) zd)
  have e:asM 0 m=(rm0,4):=by rw [asM,if_pos rfl,if_pos hl]
  rw [e]; exact tu2w zay (zcp (by rw [if_pos hl]))
 ·have hl:=as_no hb0
  refine wp_skip ?_
  refine zt<|zav (anc:=[[],[0],[0,1],[],[3],[0,1,2,3,4],[],[6],[0,1,2,3,4,5,6,7],[],[9],[0,1,2,3,4,5,6,7,8,9,10],[0,1,2,3,4,5,6,7,8,9,10,11],[0,1,2,3,4,5,6,7,8,9,10,11,12],[0,1,2,3,4,5,6,7,8,9,10,11,12,13]]) (sts:=[none,some (13,_)]) (news:=[]) (sp:=[.adr 19 1 (.some 0) True,.val 20 _,.val 21 _,.adr 22 1 (.some 4) True,.val 23 _,.val 24 _,.adr 25 1 (.some 8) True,.val 26 _,.val 27 _,.adr 28 1 (.some 12) True,.val 29 _,.val 30 _,.val 31 _,.sto 1,.val 3 _]) [.o 14] za6 hst (oc (ob_a rfl rfl (za8 (lz0 0 rfl) zbu)) (zv rfl (za4 0 rfl zk trivial (lz0 0 rfl) (Sub.part 0 rfl rfl) za7) (zv rfl (za5 (xs:=[.tmp 20]) (zfy zo) (.cons (vq 1 rfl) .nil)) (oc (ob_a rfl rfl (za8 (lz0 0 rfl) zc6)) (zv rfl (za4 3 rfl zk trivial (lz0 0 rfl) (Sub.part 1 rfl rfl) za7) (zv rfl (za5 (xs:=[.tmp 23]) (zfy zo) (.cons (vq 4 rfl) .nil)) (oc (ob_a rfl rfl (za8 (lz0 0 rfl) zbt)) (zv rfl (za4 6 rfl zk trivial (lz0 0 rfl) (Sub.part 2 rfl rfl) za7) (zv rfl (za5 (xs:=[.tmp 26]) (zfy zo) (.cons (vq 7 rfl) .nil)) (oc (ob_a rfl rfl (za8 (lz0 0 rfl) zc0)) (zv rfl (za4 9 rfl zk trivial (lz0 0 rfl) (Sub.part 3 rfl rfl) za7) (zv rfl (za5 (xs:=[.tmp 29]) (zfy zo) (.cons (vq 10 rfl) .nil)) (zv rfl (zb0 (xs:=[(0,.tmp 21),(1,.tmp 24),(2,.tmp 27),(3,.tmp 30)]) (qs:=[(0,_),(1,_),(2,_),(3,_)]) zaw (.cons ⟨rfl,(vq 2 rfl),rfl⟩ (.cons ⟨rfl,(vq 5 rfl),rfl⟩ (.cons ⟨rfl,(vq 8 rfl),rfl⟩ (.cons ⟨rfl,(vq 11 rfl),rfl⟩ .nil))))) (oc (za9 rfl rfl rfl (vq 12 rfl) zbc (Eq.trans (b:=16) rfl rfl)) (zv rfl (za1 za3) o0))))))))))))))) zk zk zk zk (fun a w hst=>?_)
  have hst:St B w0 32 [(3,_)] [⟨1,56,ptrH,_⟩,⟨2,56,ptrH,_⟩] a w:=hst
  refine za0 ?_
  refine wp_ret ?_
  refine zad ?_ (zar (rs:=[.cell 2 56,.tmp 3]) rfl hst (.cell (zm 1 rfl) zbc (.tmp (zm 0 rfl) .nil)) zd)
  have e:asM 0 m=(rmOf m,0):=by rw [asM,if_pos rfl,if_neg hl]
  rw [e]; exact tu2w qmA.va zay
end Go.Proofs.YtlpppkkggljdcaaGreat
