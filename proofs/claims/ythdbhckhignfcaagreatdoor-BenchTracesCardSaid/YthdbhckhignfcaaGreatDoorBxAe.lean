import Derived.Test.YthdbhckhignfcaaGreatDoorBxAa
import Derived.Test.YthdbhckhignfcaaGreatDoorBxAc
import Derived.Test.YthdbhckhignfcaaGreatDoorBxAd
set_option linter.unusedVariables false
set_option linter.unusedSimpArgs false
set_option linter.unusedSectionVars false
set_option maxRecDepth 100000
namespace Go.Proofs.YthdbhckhignfcaaGreatDoor
open Go Go.RowKit
theorem tu2 {a b c d:VA}(h:a=c)(h':b=d):Tu [a,b]=Tu [c,d]:=by rw [h,h']
theorem nu {k:IntKind}{m n:Int}(h:m=n):(NumA k m).va=(NumA k n).va:=by rw [h]
theorem zta {x y c:Nat}(hx:x<4294967296)(hy:y<4294967296)(hc:c<4294967296):IntKind.u64.wrap (IntKind.u64.wrap (IntKind.u64.wrap (x:Int)+IntKind.u64.wrap (y:Int))+IntKind.u64.wrap (c:Int))=((x+y+c:Nat):Int):=by
 rw [wu64 zo,wu64 zo,wadd64 zo,wu64 zo,wadd64 zo]
theorem zz4 {h l d:Nat}(hh:h<d)(hl:l<4294967296)(hd:d<4294967296):bits .or .u64 (IntKind.u64.wrap (IntKind.u64.wrap (h:Int)*2^((32:Int).toNat))) (IntKind.u64.wrap (l:Int))=((h*4294967296+l:Nat):Int):=by
 rw [wu64 (x:=h) zo,wu64 (x:=l) zo,wshl32 zo,or64 zo hl]
theorem zqj {h l d:Nat}(hh:h<d)(hl:l<4294967296):(h*4294967296+l)/d<4294967296:=by
 apply Nat.div_lt_of_lt_mul
 have:(h+1)*4294967296≤d*4294967296:=Nat.mul_le_mul_right _ hh
 omega
theorem zkz {x y c:Nat}(hx:x<4294967296)(hy:y<4294967296)(hc:c<4294967296):Cn Tryz.prog 210 [(NumA .u32 (x:Nat)).va,(NumA .u32 (y:Nat)).va,(NumA .u32 (c:Nat)).va] (Tu [(NumA .u32 ((x+y+c)%4294967296:Nat)).va,(NumA .u32 ((x+y+c)/4294967296:Nat)).va]):=by
 refine Cn.intro Tryz.func210 rfl zk nq (fun B w0 a O=>?_)
 have O:=zn [(0,(NumA .u32 (x:Nat)).va),(1,(NumA .u32 (y:Nat)).va),(2,(NumA .u32 (c:Nat)).va)] [] O
 refine wp_seq<|zh [.v 6 _,.v 7 _] [.g 0,.g 1,.g 2,.o 0,.o 1] O (zv rfl (za2 za3) (zv rfl (za2 za3) o0)) (zz [(0,_),(1,_),(2,_),(6,_),(7,_)] [] fun a w O=>?_)
 refine zt<|zh [.v 9 _,.v 10 _,.v 11 _,.v 12 _,.v 13 _,.v 14 _,.v 15 _,.v 16 _,.v 8 _] [.g 3,.g 4,.o 8] O (zv rfl (za1 (gq 0 rfl)) (zv rfl (zaw .u64 zk zk (vq 0 rfl) (rfl)) (zv rfl (za1 (gq 1 rfl)) (zv rfl (zaw .u64 zk zk (vq 2 rfl) (rfl)) (zv rfl (zb5 (vq 1 rfl) (vq 3 rfl) (rfl)) (zv rfl (za1 (gq 2 rfl)) (zv rfl (zaw .u64 zk zk (vq 5 rfl) (rfl)) (zv rfl (zb5 (vq 4 rfl) (vq 6 rfl) (rfl)) (zv rfl (za2 (vq 7 rfl)) o0))))))))) (zz [(6,_),(7,_),(8,_)] [] fun a w O=>?_)
 refine zt<|zh [.v 17 _,.v 18 _,.v 6 _] [.g 1,.g 2,.o 2] O (zv rfl (za1 (gq 2 rfl)) (zv rfl (zaw .u32 zk zk (vq 0 rfl) (rfl)) (zv rfl (za2 (vq 1 rfl)) o0))) (zz [(7,_),(8,_),(6,_)] [] fun a w O=>?_)
 refine zt<|zh [.v 19 _,.v 20 _,.v 21 _,.v 7 _] [.g 2,.o 3] O (zv rfl (za1 (gq 1 rfl)) (zv rfl (zj7 (vq 0 rfl) za3 zd (rfl)) (zv rfl (zaw .u32 zk zk (vq 1 rfl) (rfl)) (zv rfl (za2 (vq 2 rfl)) o0)))) (zz [(6,_),(7,_)] [] fun a w O=>?_)
 refine za0<|wp_ret<|zao ?_ (zb6 (rs:=[.tmp 6,.tmp 7]) rfl O (.tmp (zm 0 rfl) (.tmp (zm 1 rfl) .nil)) zd)
 exact tu2 (nu (by rw [zta hx hy hc,wu32'])) (nu (by rw [zta hx hy hc]; exact (congrArg _ nshr).trans (wu32 (by show (x+y+c)/4294967296<_; omega))))
theorem zvd {x y c:Nat}(hx:x<4294967296)(hy:y<4294967296)(hc:c<2):Cn Tryz.prog 211 [(NumA .u32 (x:Nat)).va,(NumA .u32 (y:Nat)).va,(NumA .u32 (c:Nat)).va] (Tu [(NumA .u32 ((x+8589934592-y-c)%4294967296:Nat)).va,(NumA .u32 (if x<y+c then 1 else 0:Nat)).va]):=by
 refine Cn.intro Tryz.func211 rfl zk nq (fun B w0 a O=>?_)
 have O:=zn [(0,(NumA .u32 (x:Nat)).va),(1,(NumA .u32 (y:Nat)).va),(2,(NumA .u32 (c:Nat)).va)] [] O
 refine wp_seq<|zh [.v 6 _,.v 7 _] [.g 0,.g 1,.g 2,.o 0,.o 1] O (zv rfl (za2 za3) (zv rfl (za2 za3) o0)) (zz [(0,_),(1,_),(2,_),(6,_),(7,_)] [] fun a w O=>?_)
 refine zt<|zh [.v 8 _,.v 9 _,.v 10 _,.v 11 _,.v 12 _,.v 6 _] [.g 0,.g 1,.g 4,.o 5] O (zv rfl (za1 (gq 0 rfl)) (zv rfl (za1 (gq 1 rfl)) (zv rfl (zd1 (vq 0 rfl) (vq 1 rfl) (rfl)) (zv rfl (za1 (gq 2 rfl)) (zv rfl (zd1 (vq 2 rfl) (vq 3 rfl) (rfl)) (zv rfl (za2 (vq 4 rfl)) o0)))))) (zz [(0,_),(1,_),(7,_),(6,_)] [] fun a w O=>?_)
 refine zt<|zh [.v 13 _,.v 14 _,.v 15 _,.v 16 _,.v 17 _,.v 18 _,.v 19 _,.v 20 _,.v 21 _,.v 22 _,.v 23 _,.v 24 _,.v 7 _] [.g 3,.o 12] O (zv rfl (za1 (gq 0 rfl)) (zv rfl (r_bnot (vq 0 rfl) (rfl)) (zv rfl (za1 (gq 1 rfl)) (zv rfl (r_band (vq 1 rfl) (vq 2 rfl) (rfl)) (zv rfl (za1 (gq 0 rfl)) (zv rfl (za1 (gq 1 rfl)) (zv rfl (r_bxor (vq 4 rfl) (vq 5 rfl) (rfl)) (zv rfl (r_bnot (vq 6 rfl) (rfl)) (zv rfl (za1 (gq 3 rfl)) (zv rfl (r_band (vq 7 rfl) (vq 8 rfl) (rfl)) (zv rfl (zto (vq 3 rfl) (vq 9 rfl) (rfl)) (zv rfl (zj7 (vq 10 rfl) za3 zd (rfl)) (zv rfl (za2 (vq 11 rfl)) o0))))))))))))) (zz [(6,_),(7,_)] [] fun a w O=>?_)
 refine za0<|wp_ret<|zao ?_ (zb6 (rs:=[.tmp 6,.tmp 7]) rfl O (.tmp (zm 0 rfl) (.tmp (zm 1 rfl) .nil)) zd)
 exact tu2 (nu (zvc hx hy hc)) (nu (sub32_e2 hx hy hc))
theorem div32_c {h l d:Nat}(hh:h<d)(hl:l<4294967296)(hd:d<4294967296):Cn Tryz.prog 224 [(NumA .u32 (h:Nat)).va,(NumA .u32 (l:Nat)).va,(NumA .u32 (d:Nat)).va] (Tu [(NumA .u32 ((h*4294967296+l)/d:Nat)).va,(NumA .u32 ((h*4294967296+l)%d:Nat)).va]):=by
 refine Cn.intro Tryz.func224 rfl zk nq (fun B w0 a O=>?_)
 have O:=zn [(0,(NumA .u32 (h:Nat)).va),(1,(NumA .u32 (l:Nat)).va),(2,(NumA .u32 (d:Nat)).va)] [] O
 refine wp_seq<|zh [.v 6 _,.v 7 _] [.g 0,.g 1,.g 2,.o 0,.o 1] O (zv rfl (za2 za3) (zv rfl (za2 za3) o0)) (zz [(0,_),(1,_),(2,_),(6,_),(7,_)] [] fun a w O=>?_)
 refine zt<|wp_seq<|zh [.v 9 _,.v 10 _,.v 11 _,.v 12 (Wh (_=true) _),.v 13 (Wh (_=true) _),.v 14 (Wh (_=true) _),.v 15 _] [.g 0,.g 1,.g 2,.g 3,.g 4,.o 6] O (zv rfl (za1 (gq 2 rfl)) (zv rfl (zdw (vq 0 rfl) za3) (zv rfl (za1 (vq 1 rfl)) (oc (zan rfl rfl rfl (vq 2 rfl) nq (fun hg=>za1 (gq 2 rfl))) (oc (zan rfl rfl rfl (vq 2 rfl) nq (fun hg=>za1 (gq 0 rfl))) (oc (zan rfl rfl rfl (vq 2 rfl) nq (fun hg=>ztn (zab (vq 3 rfl) hg) (zab (vq 4 rfl) hg))) (zv rfl (zcc (vq 2 rfl) (vq 5 rfl)) o0))))))) (zz [(0,_),(1,_),(2,_),(6,_),(7,_),(15,_)] [] fun a w O=>?_)
 refine za0<|za8 O (zm 5 rfl) (fun hb0=>?_) (fun hb0=>?_)
 ·exact absurd hb0 (by simp; omega)
 ·refine wp_skip<|zt<|zh [.v 17 _,.v 18 _,.v 19 _,.v 20 _,.v 21 _,.v 22 _,.v 8 _] [.g 2,.g 3,.g 4,.o 6] O (zv rfl (za1 (gq 0 rfl)) (zv rfl (zaw .u64 zk zk (vq 0 rfl) (rfl)) (zv rfl (ztl (vq 1 rfl) za3 zd (rfl)) (zv rfl (za1 (gq 1 rfl)) (zv rfl (zaw .u64 zk zk (vq 3 rfl) (rfl)) (zv rfl (zto (vq 2 rfl) (vq 4 rfl) (rfl)) (zv rfl (za2 (vq 5 rfl)) o0))))))) (zz [(2,_),(6,_),(7,_),(8,_)] [] fun a w O=>?_)
  refine zt<|zgd [[],[],[1],[0,1,2],[0,1,2,3],[],[],[6],[5,6,7],[5,6,7,8],[0,1,2,3,4],[0,1,2,3,4,5,6,7,8,9,10]] [] [] [.v 23 _,.v 24 _,.v 25 _,.v 26 _,.v 27 _,.v 28 _,.v 29 _,.v 30 _,.v 31 _,.v 32 _,.v 6 _,.v 7 _] [.o 10,.o 11] za6 O (zv rfl (za1 (gq 3 rfl)) (zv rfl (za1 (gq 0 rfl)) (zv rfl (zaw .u64 zk zk (vq 1 rfl) (rfl)) (zv rfl (zla (vq 0 rfl) (vq 2 rfl) (by rw [wu64 zo]; omega) (rfl)) (zv rfl (zaw .u32 zk zk (vq 3 rfl) (rfl)) (zv rfl (za1 (gq 3 rfl)) (zv rfl (za1 (gq 0 rfl)) (zv rfl (zaw .u64 zk zk (vq 6 rfl) (rfl)) (zv rfl (zl9 (vq 5 rfl) (vq 7 rfl) (by rw [wu64 zo]; omega) (rfl)) (zv rfl (zaw .u32 zk zk (vq 8 rfl) (rfl)) (zv rfl (za2 (vq 4 rfl)) (zv rfl (za2 (vq 9 rfl)) o0)))))))))))) zk zk zk zk (zz [(6,_),(7,_)] [] fun a w O=>?_)
  refine za0<|wp_ret<|zao ?_ (zb6 (rs:=[.tmp 6,.tmp 7]) rfl O (.tmp (zm 0 rfl) (.tmp (zm 1 rfl) .nil)) zd)
  exact tu2 (nu (by rw [zz4 hh hl hd,wu64 (x:=d) zo]; exact (congrArg _ (nquo (by have:=zqj hh hl; omega))).trans (wu32 (zqj hh hl)))) (nu (by rw [zz4 hh hl hd,wu64 (x:=d) zo]; exact (congrArg _ nrem).trans (wu32 (by have:=Nat.mod_lt (h*4294967296+l) (show 0<d by omega); omega))))
end Go.Proofs.YthdbhckhignfcaaGreatDoor
namespace Go.Proofs.YthdbhckhignfcaaGreatDoor
open Go Go.RowKit
theorem size_e0 {l m:List Nat}(ha:l.length≤9223372036854775807)(hb:m.length≤9223372036854775807)(h:((l.length:Int) != (m.length:Int))=true):IntKind.i64.wrap ((l.length:Int)-(m.length:Int))=sizeL l m:=by
 have h':l.length≠m.length:=by simp at h; omega
 unfold sizeL
 rw [if_pos h',wi64 zo zo]
theorem size_e1 {l m:List Nat}{j:Nat}(ha:okL l)(hl:l.length=m.length)(hj:j<l.length)(hd:l.drop (j+1)=m.drop (j+1))(h:decide (((l[j]:Nat):Int)<((m[j]'zo:Nat):Int))=true):(-1:Int)=sizeL l m:=by
 have:=zr3 (a:=l) (b:=m) ha hj zo hd (by simpa using h)
 unfold sizeL
 rw [if_neg zo,if_pos this]
theorem size_e2 {l m:List Nat}{j:Nat}(hb:okL m)(hl:l.length=m.length)(hj:j<l.length)(hd:l.drop (j+1)=m.drop (j+1))(hne:(((l[j]:Nat):Int) != ((m[j]'zo:Nat):Int))=true)(h:decide (((l[j]:Nat):Int)<((m[j]'zo:Nat):Int))=false):(1:Int)=sizeL l m:=by
 have:=zr3 (a:=m) (b:=l) hb zo hj hd.symm (by simp at h hne; omega)
 unfold sizeL
 rw [if_neg zo,if_neg zo,if_pos this]
theorem size_e3 {l m:List Nat}(hd:l.drop 0=m.drop 0):(0:Int)=sizeL l m:=by
 have:l=m:=by simpa using hd
 subst this
 simp [sizeL]
theorem zr8 (l m:List Nat):Cn Tryz.prog 182 [(MgA l).va,(MgA m).va] (In (sizeL l m)):=by
 refine Cn.intro Tryz.func182 rfl zk nq (fun B w0 a O=>?_)
 have O:=zn [(0,(MgA l).va),(1,(MgA m).va)] [] O
 obtain ⟨ha,hla⟩:=O.mag 0 rfl; obtain ⟨hb,hlb⟩:=O.mag 1 rfl
 refine wp_seq<|zh [.v 4 _] [.g 0,.g 1,.o 0] O (zv rfl (za2 za3) o0) (zz [(0,_),(1,_),(4,_)] [] fun a w O=>?_)
 refine zt<|wp_seq<|zh [.v 6 _,.v 7 _,.v 8 _,.v 9 _,.v 10 _] [.g 0,.g 1,.g 2,.o 4] O (zv rfl (za1 (gq 0 rfl)) (zv rfl (zax Tryz.underlying23 (vq 0 rfl)) (zv rfl (za1 (gq 1 rfl)) (zv rfl (zax Tryz.underlying23 (vq 2 rfl)) (zv rfl (zdw (vq 1 rfl) (vq 3 rfl)) o0))))) (zz [(0,_),(1,_),(4,_),(10,_)] [] fun a w O=>?_)
 refine za0<|za8 O (zm 3 rfl) (fun hb0=>?_) (fun hb0=>?_)
 ·refine wp_seq<|zh [.v 11 _,.v 12 _,.v 13 _,.v 14 _,.v 15 _,.v 4 _] [.g 0,.g 1,.o 5] O (zv rfl (za1 (gq 0 rfl)) (zv rfl (zax Tryz.underlying23 (vq 0 rfl)) (zv rfl (za1 (gq 1 rfl)) (zv rfl (zax Tryz.underlying23 (vq 2 rfl)) (zv rfl (zd1 (vq 1 rfl) (vq 3 rfl) (rfl)) (zv rfl (za2 (vq 4 rfl)) o0)))))) (zz [(0,_),(1,_),(4,_)] [] fun a w O=>?_)
  refine za0<|wp_ret<|zag ?_
  refine zao ?_ (zaf rfl O (zm 2 rfl))
  exact nu (size_e0 hla hlb hb0)
 ·have hl:l.length=m.length:=by simp at hb0; omega
  refine wp_skip<|zt<|wp_seq<|zh [.v 16 _,.v 17 _,.v 18 _,.v 5 _] [.g 0,.g 1,.g 2,.o 3] O (zv rfl (za1 (gq 0 rfl)) (zv rfl (zax Tryz.underlying23 (vq 0 rfl)) (zv rfl (zd1 (vq 1 rfl) za3 (wi64 zo zo)) (zv rfl (za2 (vq 2 rfl)) o0)))) (zz [(0,_),(1,_),(4,_),(5,_)] [] fun a w O=>?_)
  refine za0<|wp_block ?_
  have O:=St.sel O [0,1,3]
  refine wp_loop_ghost (fun n a w=>n≤l.length∧l.drop n=m.drop n∧St B w0 41 [(0,(MgA l).va),(1,(MgA m).va),(5,In ((n:Int)-1))] [] a w) (l.length) ?_ ?_
  ·exact ⟨Nat.le_refl _,by rw [List.drop_length,hl,List.drop_length],O⟩
  intro n a w hI
  obtain ⟨hi,hd,O⟩:=hI
  refine wp_seq<|wp_seq<|zh [.v 19 _,.v 20 _] [.g 0,.g 1,.g 2,.o 1] O (zv rfl (za1 (gq 2 rfl)) (zv rfl (zfu (vq 0 rfl) za3) o0)) (zz [(0,_),(1,_),(5,_),(20,_)] [] fun a w O=>?_)
  refine za0<|za8 O (zm 3 rfl) (fun hb1=>?_) (fun hb1=>?_)
  ·obtain ⟨j,rfl⟩:∃ j,n=j+1:=⟨n-1,by simp at hb1; omega⟩; rw [show ((j+1:Nat):Int)-1=(j:Int) from by omega] at O
   refine wp_skip<|zt<|wp_block<|wp_seq<|zgd [[],[],[0,1],[0,1,2],[],[],[4,5],[4,5,6],[0,1,2,3,4,5,6,7]] [] [] [.v 23 _,.v 24 _,.v 25 _,.v 26 _,.v 27 _,.v 28 _,.v 29 _,.v 30 _,.v 31 _] [.g 0,.g 1,.g 2,.o 8] za6 O (zv rfl (za1 (gq 0 rfl)) (zv rfl (za1 (gq 2 rfl)) (zv rfl (zc4 zbc (vq 0 rfl) (vq 1 rfl) zo) (zv rfl (zad (vq 2 rfl) zb0) (zv rfl (za1 (gq 1 rfl)) (zv rfl (za1 (gq 2 rfl)) (zv rfl (zc4 zbc (vq 4 rfl) (vq 5 rfl) zo) (zv rfl (zad (vq 6 rfl) zb0) (zv rfl (zdw (vq 3 rfl) (vq 7 rfl)) o0))))))))) zk zk zk zk (zz [(0,_),(1,_),(5,_),(31,_)] [] fun a w O=>?_)
   refine za0<|za8 O (zm 3 rfl) (fun hb2=>?_) (fun hb2=>?_)
   ·refine wp_seq<|wp_seq<|zgd [[],[],[0,1],[0,1,2],[],[],[4,5],[4,5,6],[0,1,2,3,4,5,6,7]] [] [] [.v 32 _,.v 33 _,.v 34 _,.v 35 _,.v 36 _,.v 37 _,.v 38 _,.v 39 _,.v 40 _] [.g 0,.g 1,.g 2,.o 8] za6 O (zv rfl (za1 (gq 0 rfl)) (zv rfl (za1 (gq 2 rfl)) (zv rfl (zc4 zbc (vq 0 rfl) (vq 1 rfl) zo) (zv rfl (zad (vq 2 rfl) zb0) (zv rfl (za1 (gq 1 rfl)) (zv rfl (za1 (gq 2 rfl)) (zv rfl (zc4 zbc (vq 4 rfl) (vq 5 rfl) zo) (zv rfl (zad (vq 6 rfl) zb0) (zv rfl (zb1 (vq 3 rfl) (vq 7 rfl)) o0))))))))) zk zk zk zk (zz [(0,_),(1,_),(5,_),(40,_)] [] fun a w O=>?_)
    refine za0<|za8 O (zm 3 rfl) (fun hb3=>?_) (fun hb3=>?_)
    ·refine wp_seq<|zh [.v 4 _] [.g 0,.g 1,.g 2,.o 0] O (zv rfl (za2 za3) o0) (zz [(0,_),(1,_),(5,_),(4,_)] [] fun a w O=>?_)
     refine za0<|wp_ret<|zag ?_
     refine zba ?_
     refine zag ?_
     refine zag ?_
     refine zba ?_
     refine zag ?_
     refine zao ?_ (zaf rfl O (zm 3 rfl))
     exact nu (size_e1 ha hl zo hd hb3)
    ·refine wp_skip<|zt<|zh [.v 4 _] [.g 0,.g 1,.g 2,.o 0] O (zv rfl (za2 za3) o0) (zz [(0,_),(1,_),(5,_),(4,_)] [] fun a w O=>?_)
     refine za0<|wp_ret<|zba ?_
     refine zag ?_
     refine zag ?_
     refine zba ?_
     refine zag ?_
     refine zao ?_ (zaf rfl O (zm 3 rfl))
     exact nu (size_e2 hb hl zo hd hb2 hb3)
   ·refine wp_skip<|zae ?_
    refine za0<|zh [.v 21 _,.v 22 _,.v 5 _] [.g 0,.g 1,.o 2] O (zv rfl (za1 (gq 2 rfl)) (zv rfl (zd1 (vq 0 rfl) za3 (wi64 zo zo)) (zv rfl (za2 (vq 1 rfl)) o0))) (zz [(0,_),(1,_),(5,_)] [] fun a w O=>?_)
    refine za0 ?_
    have O:=St.sel O [0,1,2]
    exact ⟨j,by omega,by omega,zj5 zo zo hd (by simp at hb2; omega),O⟩
  ·obtain rfl:n=0:=by simp at hb1; omega
   refine wp_exit<|za7<|za7<|zap<|zt<|zh [.v 4 _] [.o 0] O (zv rfl (za2 za3) o0) (zz [(4,_)] [] fun a w O=>?_)
   refine za0<|wp_ret<|zao ?_ (zaf rfl O (zm 0 rfl))
   exact nu (size_e3 hd)
end Go.Proofs.YthdbhckhignfcaaGreatDoor
namespace Go.Proofs.YthdbhckhignfcaaGreatDoor
open Go Go.RowKit
def addSt (l m:List Nat)(i:Nat):List Nat:=digs i (sumTo l m i)++List.replicate (l.length+1-i) 0
theorem zd9 {l m:List Nat}{i:Nat}(h:i≤l.length):(addSt l m i).length=l.length+1:=by simp [addSt,zal]; omega
theorem zm3 (l m:List Nat):addSt l m 0=List.replicate (l.length+1) 0:=by simp [addSt,digs]
theorem zfy {α:Type}(p q:List α)(x:α)(k:Nat)(h:p.length=k):(p++q).set k x=p++q.set 0 x:=by subst h; rw [List.set_append_right _ _ (Nat.le_refl _),Nat.sub_self]
theorem zk4 (n:Nat)(x:Nat)(h:0<n):(List.replicate n 0).set 0 x=x::List.replicate (n-1) 0:=by
 cases n with
 | zero=>omega
 | succ n=>simp [List.replicate_succ]
theorem zgo {l m:List Nat}{i:Nat}(h:i<l.length){y:Nat}(hy:m.getD i 0=y):(addSt l m i).set i ((l[i]+y+sumTo l m i/4294967296^i)%4294967296)=addSt l m (i+1):=by
 unfold addSt
 rw [zfy _ _ _ _ (zal _ _),zk4 _ _ zo,zg9 h,zeb,hy]
 simp only [List.append_assoc,List.singleton_append]
 rw [Nat.add_comm (l[i]+y)]
 congr 3
theorem zi6 {l m:List Nat}{i:Nat}(h:i<l.length){y:Nat}(hy:m.getD i 0=y):(l[i]+y+sumTo l m i/4294967296^i)/4294967296=sumTo l m (i+1)/4294967296^(i+1):=by
 rw [zg9 h,carry_step',hy,Nat.add_comm (l[i]+y)]
theorem zi7 {l m:List Nat}(hl:okL l)(hm:okL m)(h:m.length≤l.length):(addSt l m l.length).set l.length (sumTo l m l.length/4294967296^l.length)=digs (l.length+1) (val l+val m):=by
 unfold addSt
 rw [zfy _ _ _ _ (zal _ _),zk4 _ _ zo,zi1,zoa h]
 have:=zfo hl hm l.length
 rw [zoa h] at this
 rw [Nat.mod_eq_of_lt zo]
 simp
theorem zdc {l:List Nat}{i:Nat}(h:i<l.length):l.getD i 0=l[i]:=by simp [List.getD,h]
theorem zea {l:List Nat}{i:Nat}(h:l.length≤i):l.getD i 0=0:=by simp [List.getD,h]
theorem add_c (l m:List Nat)(hls:l.length≤1099511627776)(hms:m.length≤1099511627776):Cn Tryz.prog 187 [(MgA l).va,(MgA m).va] ((MgN (digs (max l.length m.length+1) (val l+val m))).va):=by
 refine Cn.introW Tryz.func187 rfl zk nq (.cons (zjv _).va (.cons (zjv _).va .nil)) (zek _).va (fun B w0 a hB0 O=>?_)
 have O:=zn [(0,(MgO l).va),(1,(MgO m).va)] [] O
 have hl:=(O.magO 0 rfl).1; have hm:=(O.magO 1 rfl).1
 refine wp_seq<|zh [.v 4 _] [.g 0,.g 1,.o 0] O (zv rfl (za2 zb8) o0) (zz [(0,_),(1,_),(4,_)] [] fun a w O=>?_)
 refine zt<|wp_seq<|zh [.v 9 _,.v 10 _,.v 11 _,.v 12 _,.v 13 _] [.g 0,.g 1,.g 2,.o 4] O (zv rfl (za1 (gq 0 rfl)) (zv rfl (zax Tryz.underlying23 (zaz (vq 0 rfl))) (zv rfl (za1 (gq 1 rfl)) (zv rfl (zax Tryz.underlying23 (zaz (vq 2 rfl))) (zv rfl (zb1 (vq 1 rfl) (vq 3 rfl)) o0))))) (zz [(0,_),(1,_),(4,_),(13,_)] [] fun a w O=>?_)
 refine za0<|za8 O (zm 3 rfl) (fun hb0=>?_) (fun hb0=>?_)
 ·have hlt:l.length<m.length:=by simp at hb0; omega
  refine zh [.v 14 _,.v 15 _,.v 0 _,.v 1 _] [.g 2,.o 2,.o 3] O (zv rfl (za1 (gq 1 rfl)) (zv rfl (za1 (gq 0 rfl)) (zv rfl (za2 (vq 0 rfl)) (zv rfl (za2 (vq 1 rfl)) o0)))) (zz [(4,_),(0,_),(1,_)] [] fun a w O=>?_)
  refine zt<|zdm (sts:=[]) (news:=[⟨19,106,slH _ _,some 3,_,none⟩]) (sp:=[.v 16 _,.v 17 _,.v 18 _,.alc 0,.adr 5 19 .none True]) [.g 0,.g 1,.g 2] [(5,19)] [⟨5,106,slH _ _,_⟩] O (zv rfl (za1 (gq 1 rfl)) (zv rfl (zax Tryz.underlying23 (zaz (vq 0 rfl))) (zv rfl (zb5 (vq 1 rfl) za3 (zb3 zo)) (oc (zeo rfl rfl rfl zfs (vq 2 rfl) (vq 2 rfl) zo) (oc (ob_a rfl rfl zl0) o0))))) zk zk zk ⟨⟨4,rfl⟩,trivial⟩ rfl zk (zz [(4,_),(0,_),(1,_)] [⟨5,106,slH _ _,_⟩] fun a w O=>?_)
  refine zt<|zg [none] [] [.v 6 _] [.g 0,.g 1,.g 2,.o 0] O (zv rfl (za2 (zau 0 rfl)) o0) (zz [(4,_),(0,_),(1,_),(6,_)] [⟨5,106,slH _ _,_⟩] fun a w O=>?_)
  refine zt<|wp_seq<|zg [none] [] [.v 20 _,.v 21 _,.v 22 _] [.g 0,.g 1,.g 2,.g 3,.o 1,.o 2] O (zv rfl (za1 (gq 1 rfl)) (zv rfl (zax Tryz.underlying23 (zaz (vq 0 rfl))) (zv rfl (za1 za3) o0))) (zz [(4,_),(0,_),(1,_),(6,_),(21,_),(22,_)] [⟨5,106,slH _ _,_⟩] fun a w O=>?_)
  refine za0<|wp_block ?_
  have O:=St.sel O [1,2,3,4,5]
  refine wp_loop_ghost (fun n a w=>∃ i:Nat,n+i=m.length∧St B w0 53 [(0,(MgO m).va),(1,(MgO l).va),(6,(NumA .u32 (sumTo m l i/4294967296^i:Nat)).va),(21,In (m.length:Nat)),(22,In (i:Nat))] [⟨5,106,slH (m.length+1) (m.length+1),Nums .u32 (addSt m l i)⟩] a w) (m.length) ?_ ?_
  ·exact ⟨0,by omega,by rw [zm3,show sumTo m l 0/4294967296^0=0 from by simp [zg8]]; exact O⟩
  intro n a w hI
  obtain ⟨i,hn,O⟩:=hI
  refine wp_seq<|zg [none] [] [.v 23 _] [.g 0,.g 1,.g 2,.g 3,.g 4,.o 0] O (zv rfl (zb1 (gq 4 rfl) (gq 3 rfl)) o0) (zz [(0,_),(1,_),(6,_),(21,_),(22,_),(23,_)] [⟨5,106,slH _ _,_⟩] fun a w O=>?_)
  refine zt<|za8 O (zm 5 rfl) (fun hb1=>?_) (fun hb1=>?_)
  ·have hi:i<m.length:=by simp at hb1; omega
   refine wp_skip<|zt<|wp_block<|wp_seq<|zg [none] [] [.v 24 _,.v 7 _] [.g 0,.g 1,.g 2,.g 3,.g 4,.o 1] O (zv rfl (za1 (gq 4 rfl)) (zv rfl (za2 (vq 0 rfl)) o0)) (zz [(0,_),(1,_),(6,_),(21,_),(22,_),(7,_)] [⟨5,106,slH _ _,_⟩] fun a w O=>?_)
   refine zt<|zg [none] [] [.v 8 _] [.g 0,.g 1,.g 2,.g 3,.g 4,.g 5,.o 0] O (zv rfl (za2 (zau 0 rfl)) o0) (zz [(0,_),(1,_),(6,_),(21,_),(22,_),(7,_),(8,_)] [⟨5,106,slH _ _,_⟩] fun a w O=>?_)
   refine zt<|wp_seq<|zg [none] [] [.v 25 _,.v 26 _,.v 27 _,.v 28 _] [.g 0,.g 1,.g 2,.g 3,.g 4,.g 5,.g 6,.o 3] O (zv rfl (za1 (gq 5 rfl)) (zv rfl (za1 (gq 1 rfl)) (zv rfl (zax Tryz.underlying23 (zaz (vq 1 rfl))) (zv rfl (zb1 (vq 0 rfl) (vq 2 rfl)) o0)))) (zz [(0,_),(1,_),(6,_),(21,_),(22,_),(7,_),(8,_),(28,_)] [⟨5,106,slH _ _,_⟩] fun a w O=>?_)
   refine za0<|za8 O (zm 7 rfl) (fun hb2=>?_) (fun hb2=>?_)
   ·refine zg [none] [] [.v 29 _,.v 30 _,.v 31 _,.v 32 _,.v 8 _] [.g 0,.g 1,.g 2,.g 3,.g 4,.g 5,.o 4] O (zv rfl (za1 (gq 1 rfl)) (zv rfl (za1 (gq 5 rfl)) (zv rfl (zc4 zbc (zaz (vq 0 rfl)) (vq 1 rfl) (by first | omega | (simp at hb2; omega) | (simp at hb4; omega))) (zv rfl (zad (vq 2 rfl) zb0) (zv rfl (za2 (vq 3 rfl)) o0))))) (zz [(0,_),(1,_),(6,_),(21,_),(22,_),(7,_),(8,_)] [⟨5,106,slH _ _,_⟩] fun a w O=>?_)
    refine za0<|zg [some (13,_)] [] [.adr 34 5 .none True,.v 35 _,.v 36 _,.v 37 _,.v 38 _,.v 39 _,.v 40 _,.v 41 _,.v 42 _,.v 33 _,.v 43 _,.v 44 _,.adr 45 5 (.some _) True,.sto 0,.v 6 _] [.g 0,.g 1,.g 3,.g 4,.o 14] O (oc (ob_a rfl rfl zdd) (zv rfl (za1 (gq 5 rfl)) (zv rfl (za1 (gq 0 rfl)) (zv rfl (za1 (gq 5 rfl)) (zv rfl (zc4 zbc (zaz (vq 2 rfl)) (vq 3 rfl) (by first | omega | (simp at hb2; omega) | (simp at hb4; omega))) (zv rfl (zad (vq 4 rfl) zb0) (zv rfl (za1 (gq 6 rfl)) (zv rfl (za1 (gq 2 rfl)) (zv rfl (za5 (xs:=[.tmp 39,.tmp 40,.tmp 41]) (zkz (hm _ (List.getElem_mem _)) (hl _ (List.getElem_mem _)) (Nat.lt_of_le_of_lt (zfo hm hl _) zd)) (.cons (vq 5 rfl) (.cons (vq 6 rfl) (.cons (vq 7 rfl) .nil)))) (zv rfl (za1 (vq 8 rfl)) (zv rfl (zb4 (vq 9 rfl) rfl) (zv rfl (zb4 (vq 9 rfl) rfl) (oc (ob_a rfl rfl (zf3 0 rfl zk (lz0 0 rfl) zbc (vq 1 rfl) zo)) (oc (zd2 12 rfl rfl rfl rfl zk (fun _=>zck _ _ _ _) (vq 10 rfl) zb0 (zc2 (by rw [zd9 zo]; omega))) (zv rfl (za2 (vq 11 rfl)) o0))))))))))))))) (zz [(0,_),(1,_),(21,_),(22,_),(6,_)] [⟨5,106,slH _ _,_⟩] fun a w O=>?_)
    refine zae ?_
    refine za0<|zg [none] [] [.v 46 _,.v 22 _] [.g 0,.g 1,.g 2,.g 4,.o 1] O (zv rfl (zb5 (gq 3 rfl) za3 (zb3 zo)) (zv rfl (za1 (vq 0 rfl)) o0)) (zz [(0,_),(1,_),(21,_),(6,_),(22,_)] [⟨5,106,slH _ _,_⟩] fun a w O=>?_)
    refine za0 ?_
    have O:=St.sel O [0,1,3,2,4]
    rw [zgo hi (y:=_) (zdc (by simp at hb2; omega)),zi6 hi (zdc (by simp at hb2; omega))] at O; exact ⟨n-1,by omega,i+1,by omega,O⟩
   ·refine wp_skip<|za0<|zg [some (13,_)] [] [.adr 34 5 .none True,.v 35 _,.v 36 _,.v 37 _,.v 38 _,.v 39 _,.v 40 _,.v 41 _,.v 42 _,.v 33 _,.v 43 _,.v 44 _,.adr 45 5 (.some _) True,.sto 0,.v 6 _] [.g 0,.g 1,.g 3,.g 4,.o 14] O (oc (ob_a rfl rfl zdd) (zv rfl (za1 (gq 5 rfl)) (zv rfl (za1 (gq 0 rfl)) (zv rfl (za1 (gq 5 rfl)) (zv rfl (zc4 zbc (zaz (vq 2 rfl)) (vq 3 rfl) (by first | omega | (simp at hb2; omega) | (simp at hb4; omega))) (zv rfl (zad (vq 4 rfl) zb0) (zv rfl (za1 (gq 6 rfl)) (zv rfl (za1 (gq 2 rfl)) (zv rfl (za5 (xs:=[.tmp 39,.tmp 40,.tmp 41]) (zkz (hm _ (List.getElem_mem _)) (y:=0) zd (Nat.lt_of_le_of_lt (zfo hm hl _) zd)) (.cons (vq 5 rfl) (.cons (vq 6 rfl) (.cons (vq 7 rfl) .nil)))) (zv rfl (za1 (vq 8 rfl)) (zv rfl (zb4 (vq 9 rfl) rfl) (zv rfl (zb4 (vq 9 rfl) rfl) (oc (ob_a rfl rfl (zf3 0 rfl zk (lz0 0 rfl) zbc (vq 1 rfl) zo)) (oc (zd2 12 rfl rfl rfl rfl zk (fun _=>zck _ _ _ _) (vq 10 rfl) zb0 (zc2 (by rw [zd9 zo]; omega))) (zv rfl (za2 (vq 11 rfl)) o0))))))))))))))) (zz [(0,_),(1,_),(21,_),(22,_),(6,_)] [⟨5,106,slH _ _,_⟩] fun a w O=>?_)
    refine zae ?_
    refine za0<|zg [none] [] [.v 46 _,.v 22 _] [.g 0,.g 1,.g 2,.g 4,.o 1] O (zv rfl (zb5 (gq 3 rfl) za3 (zb3 zo)) (zv rfl (za1 (vq 0 rfl)) o0)) (zz [(0,_),(1,_),(21,_),(6,_),(22,_)] [⟨5,106,slH _ _,_⟩] fun a w O=>?_)
    refine za0 ?_
    have O:=St.sel O [0,1,3,2,4]
    rw [zgo hi (y:=_) (zea (by simp at hb2; omega)),zi6 hi (zea (by simp at hb2; omega))] at O; exact ⟨n-1,by omega,i+1,by omega,O⟩
  ·obtain rfl:i=m.length:=by simp at hb1; omega
   refine wp_exit<|za7<|za7<|zap<|zt<|zg [some (5,_)] [] [.adr 47 5 .none True,.v 48 _,.v 49 _,.v 50 _,.adr 51 5 (.some _) True,.sto 0] [] O (oc (ob_a rfl rfl zdd) (zv rfl (za1 (gq 0 rfl)) (zv rfl (zax Tryz.underlying23 (zaz (vq 1 rfl))) (zv rfl (za1 (gq 2 rfl)) (oc (ob_a rfl rfl (zf3 0 rfl zk (lz0 0 rfl) zbc (vq 2 rfl) zo)) (oc (zd2 4 rfl rfl rfl rfl zk (fun _=>zck _ _ _ _) (vq 3 rfl) zb0 (zc2 (by rw [zd9 zo]; omega))) o0)))))) (zz [] [⟨5,106,slH _ _,_⟩] fun a w O=>?_)
   refine zt<|zdm (sts:=[none]) (news:=[]) (sp:=[.adr 52 5 .none True,.adr 4 5 .none True]) [] [(4,5)] [⟨4,106,slH _ _,_⟩] O (oc (ob_a rfl rfl zdd) (oc (ob_a rfl rfl (zzq 0 rfl zk)) o0)) zk zk zk ⟨⟨1,rfl⟩,trivial⟩ rfl zk (zz [] [⟨4,106,slH _ _,_⟩] fun a w O=>?_)
   refine za0<|wp_ret<|zao ?_ (zw4 rfl O (zm 0 rfl) ⟨by simp [zd9],Nat.le_refl _,by unfold maxLen; omega,by rw [zi7 hm hl zo]; exact zc7 _ _⟩ (by simp [zd9]))
   rw [zi7 hm hl zo,Nat.max_eq_right zo,Nat.add_comm (val m)]
 ·have hlt:m.length≤l.length:=by simp at hb0; omega
  refine wp_skip<|zt<|zdm (sts:=[]) (news:=[⟨19,106,slH _ _,some 3,_,none⟩]) (sp:=[.v 16 _,.v 17 _,.v 18 _,.alc 0,.adr 5 19 .none True]) [.g 0,.g 1,.g 2] [(5,19)] [⟨5,106,slH _ _,_⟩] O (zv rfl (za1 (gq 0 rfl)) (zv rfl (zax Tryz.underlying23 (zaz (vq 0 rfl))) (zv rfl (zb5 (vq 1 rfl) za3 (zb3 zo)) (oc (zeo rfl rfl rfl zfs (vq 2 rfl) (vq 2 rfl) zo) (oc (ob_a rfl rfl zl0) o0))))) zk zk zk ⟨⟨4,rfl⟩,trivial⟩ rfl zk (zz [(0,_),(1,_),(4,_)] [⟨5,106,slH _ _,_⟩] fun a w O=>?_)
  refine zt<|zg [none] [] [.v 6 _] [.g 0,.g 1,.g 2,.o 0] O (zv rfl (za2 (zau 0 rfl)) o0) (zz [(0,_),(1,_),(4,_),(6,_)] [⟨5,106,slH _ _,_⟩] fun a w O=>?_)
  refine zt<|wp_seq<|zg [none] [] [.v 20 _,.v 21 _,.v 22 _] [.g 0,.g 1,.g 2,.g 3,.o 1,.o 2] O (zv rfl (za1 (gq 0 rfl)) (zv rfl (zax Tryz.underlying23 (zaz (vq 0 rfl))) (zv rfl (za1 za3) o0))) (zz [(0,_),(1,_),(4,_),(6,_),(21,_),(22,_)] [⟨5,106,slH _ _,_⟩] fun a w O=>?_)
  refine za0<|wp_block ?_
  have O:=St.sel O [0,1,3,4,5]
  refine wp_loop_ghost (fun n a w=>∃ i:Nat,n+i=l.length∧St B w0 53 [(0,(MgO l).va),(1,(MgO m).va),(6,(NumA .u32 (sumTo l m i/4294967296^i:Nat)).va),(21,In (l.length:Nat)),(22,In (i:Nat))] [⟨5,106,slH (l.length+1) (l.length+1),Nums .u32 (addSt l m i)⟩] a w) (l.length) ?_ ?_
  ·exact ⟨0,by omega,by rw [zm3,show sumTo l m 0/4294967296^0=0 from by simp [zg8]]; exact O⟩
  intro n a w hI
  obtain ⟨i,hn,O⟩:=hI
  refine wp_seq<|zg [none] [] [.v 23 _] [.g 0,.g 1,.g 2,.g 3,.g 4,.o 0] O (zv rfl (zb1 (gq 4 rfl) (gq 3 rfl)) o0) (zz [(0,_),(1,_),(6,_),(21,_),(22,_),(23,_)] [⟨5,106,slH _ _,_⟩] fun a w O=>?_)
  refine zt<|za8 O (zm 5 rfl) (fun hb3=>?_) (fun hb3=>?_)
  ·have hi:i<l.length:=by simp at hb3; omega
   refine wp_skip<|zt<|wp_block<|wp_seq<|zg [none] [] [.v 24 _,.v 7 _] [.g 0,.g 1,.g 2,.g 3,.g 4,.o 1] O (zv rfl (za1 (gq 4 rfl)) (zv rfl (za2 (vq 0 rfl)) o0)) (zz [(0,_),(1,_),(6,_),(21,_),(22,_),(7,_)] [⟨5,106,slH _ _,_⟩] fun a w O=>?_)
   refine zt<|zg [none] [] [.v 8 _] [.g 0,.g 1,.g 2,.g 3,.g 4,.g 5,.o 0] O (zv rfl (za2 (zau 0 rfl)) o0) (zz [(0,_),(1,_),(6,_),(21,_),(22,_),(7,_),(8,_)] [⟨5,106,slH _ _,_⟩] fun a w O=>?_)
   refine zt<|wp_seq<|zg [none] [] [.v 25 _,.v 26 _,.v 27 _,.v 28 _] [.g 0,.g 1,.g 2,.g 3,.g 4,.g 5,.g 6,.o 3] O (zv rfl (za1 (gq 5 rfl)) (zv rfl (za1 (gq 1 rfl)) (zv rfl (zax Tryz.underlying23 (zaz (vq 1 rfl))) (zv rfl (zb1 (vq 0 rfl) (vq 2 rfl)) o0)))) (zz [(0,_),(1,_),(6,_),(21,_),(22,_),(7,_),(8,_),(28,_)] [⟨5,106,slH _ _,_⟩] fun a w O=>?_)
   refine za0<|za8 O (zm 7 rfl) (fun hb4=>?_) (fun hb4=>?_)
   ·refine zg [none] [] [.v 29 _,.v 30 _,.v 31 _,.v 32 _,.v 8 _] [.g 0,.g 1,.g 2,.g 3,.g 4,.g 5,.o 4] O (zv rfl (za1 (gq 1 rfl)) (zv rfl (za1 (gq 5 rfl)) (zv rfl (zc4 zbc (zaz (vq 0 rfl)) (vq 1 rfl) (by first | omega | (simp at hb2; omega) | (simp at hb4; omega))) (zv rfl (zad (vq 2 rfl) zb0) (zv rfl (za2 (vq 3 rfl)) o0))))) (zz [(0,_),(1,_),(6,_),(21,_),(22,_),(7,_),(8,_)] [⟨5,106,slH _ _,_⟩] fun a w O=>?_)
    refine za0<|zg [some (13,_)] [] [.adr 34 5 .none True,.v 35 _,.v 36 _,.v 37 _,.v 38 _,.v 39 _,.v 40 _,.v 41 _,.v 42 _,.v 33 _,.v 43 _,.v 44 _,.adr 45 5 (.some _) True,.sto 0,.v 6 _] [.g 0,.g 1,.g 3,.g 4,.o 14] O (oc (ob_a rfl rfl zdd) (zv rfl (za1 (gq 5 rfl)) (zv rfl (za1 (gq 0 rfl)) (zv rfl (za1 (gq 5 rfl)) (zv rfl (zc4 zbc (zaz (vq 2 rfl)) (vq 3 rfl) (by first | omega | (simp at hb2; omega) | (simp at hb4; omega))) (zv rfl (zad (vq 4 rfl) zb0) (zv rfl (za1 (gq 6 rfl)) (zv rfl (za1 (gq 2 rfl)) (zv rfl (za5 (xs:=[.tmp 39,.tmp 40,.tmp 41]) (zkz (hl _ (List.getElem_mem _)) (hm _ (List.getElem_mem _)) (Nat.lt_of_le_of_lt (zfo hl hm _) zd)) (.cons (vq 5 rfl) (.cons (vq 6 rfl) (.cons (vq 7 rfl) .nil)))) (zv rfl (za1 (vq 8 rfl)) (zv rfl (zb4 (vq 9 rfl) rfl) (zv rfl (zb4 (vq 9 rfl) rfl) (oc (ob_a rfl rfl (zf3 0 rfl zk (lz0 0 rfl) zbc (vq 1 rfl) zo)) (oc (zd2 12 rfl rfl rfl rfl zk (fun _=>zck _ _ _ _) (vq 10 rfl) zb0 (zc2 (by rw [zd9 zo]; omega))) (zv rfl (za2 (vq 11 rfl)) o0))))))))))))))) (zz [(0,_),(1,_),(21,_),(22,_),(6,_)] [⟨5,106,slH _ _,_⟩] fun a w O=>?_)
    refine zae ?_
    refine za0<|zg [none] [] [.v 46 _,.v 22 _] [.g 0,.g 1,.g 2,.g 4,.o 1] O (zv rfl (zb5 (gq 3 rfl) za3 (zb3 zo)) (zv rfl (za1 (vq 0 rfl)) o0)) (zz [(0,_),(1,_),(21,_),(6,_),(22,_)] [⟨5,106,slH _ _,_⟩] fun a w O=>?_)
    refine za0 ?_
    have O:=St.sel O [0,1,3,2,4]
    rw [zgo hi (y:=_) (zdc (by simp at hb4; omega)),zi6 hi (zdc (by simp at hb4; omega))] at O; exact ⟨n-1,by omega,i+1,by omega,O⟩
   ·refine wp_skip<|za0<|zg [some (13,_)] [] [.adr 34 5 .none True,.v 35 _,.v 36 _,.v 37 _,.v 38 _,.v 39 _,.v 40 _,.v 41 _,.v 42 _,.v 33 _,.v 43 _,.v 44 _,.adr 45 5 (.some _) True,.sto 0,.v 6 _] [.g 0,.g 1,.g 3,.g 4,.o 14] O (oc (ob_a rfl rfl zdd) (zv rfl (za1 (gq 5 rfl)) (zv rfl (za1 (gq 0 rfl)) (zv rfl (za1 (gq 5 rfl)) (zv rfl (zc4 zbc (zaz (vq 2 rfl)) (vq 3 rfl) (by first | omega | (simp at hb2; omega) | (simp at hb4; omega))) (zv rfl (zad (vq 4 rfl) zb0) (zv rfl (za1 (gq 6 rfl)) (zv rfl (za1 (gq 2 rfl)) (zv rfl (za5 (xs:=[.tmp 39,.tmp 40,.tmp 41]) (zkz (hl _ (List.getElem_mem _)) (y:=0) zd (Nat.lt_of_le_of_lt (zfo hl hm _) zd)) (.cons (vq 5 rfl) (.cons (vq 6 rfl) (.cons (vq 7 rfl) .nil)))) (zv rfl (za1 (vq 8 rfl)) (zv rfl (zb4 (vq 9 rfl) rfl) (zv rfl (zb4 (vq 9 rfl) rfl) (oc (ob_a rfl rfl (zf3 0 rfl zk (lz0 0 rfl) zbc (vq 1 rfl) zo)) (oc (zd2 12 rfl rfl rfl rfl zk (fun _=>zck _ _ _ _) (vq 10 rfl) zb0 (zc2 (by rw [zd9 zo]; omega))) (zv rfl (za2 (vq 11 rfl)) o0))))))))))))))) (zz [(0,_),(1,_),(21,_),(22,_),(6,_)] [⟨5,106,slH _ _,_⟩] fun a w O=>?_)
    refine zae ?_
    refine za0<|zg [none] [] [.v 46 _,.v 22 _] [.g 0,.g 1,.g 2,.g 4,.o 1] O (zv rfl (zb5 (gq 3 rfl) za3 (zb3 zo)) (zv rfl (za1 (vq 0 rfl)) o0)) (zz [(0,_),(1,_),(21,_),(6,_),(22,_)] [⟨5,106,slH _ _,_⟩] fun a w O=>?_)
    refine za0 ?_
    have O:=St.sel O [0,1,3,2,4]
    rw [zgo hi (y:=_) (zea (by simp at hb4; omega)),zi6 hi (zea (by simp at hb4; omega))] at O; exact ⟨n-1,by omega,i+1,by omega,O⟩
  ·obtain rfl:i=l.length:=by simp at hb3; omega
   refine wp_exit<|za7<|za7<|zap<|zt<|zg [some (5,_)] [] [.adr 47 5 .none True,.v 48 _,.v 49 _,.v 50 _,.adr 51 5 (.some _) True,.sto 0] [] O (oc (ob_a rfl rfl zdd) (zv rfl (za1 (gq 0 rfl)) (zv rfl (zax Tryz.underlying23 (zaz (vq 1 rfl))) (zv rfl (za1 (gq 2 rfl)) (oc (ob_a rfl rfl (zf3 0 rfl zk (lz0 0 rfl) zbc (vq 2 rfl) zo)) (oc (zd2 4 rfl rfl rfl rfl zk (fun _=>zck _ _ _ _) (vq 3 rfl) zb0 (zc2 (by rw [zd9 zo]; omega))) o0)))))) (zz [] [⟨5,106,slH _ _,_⟩] fun a w O=>?_)
   refine zt<|zdm (sts:=[none]) (news:=[]) (sp:=[.adr 52 5 .none True,.adr 4 5 .none True]) [] [(4,5)] [⟨4,106,slH _ _,_⟩] O (oc (ob_a rfl rfl zdd) (oc (ob_a rfl rfl (zzq 0 rfl zk)) o0)) zk zk zk ⟨⟨1,rfl⟩,trivial⟩ rfl zk (zz [] [⟨4,106,slH _ _,_⟩] fun a w O=>?_)
   refine za0<|wp_ret<|zao ?_ (zw4 rfl O (zm 0 rfl) ⟨by simp [zd9],Nat.le_refl _,by unfold maxLen; omega,by rw [zi7 hl hm zo]; exact zc7 _ _⟩ (by simp [zd9]))
   rw [zi7 hl hm zo,Nat.max_eq_left zo]
def dif (l m:List Nat)(i:Nat):Nat:=val (l.take i)+4294967296^i-val (m.take i)
def subSt (l m:List Nat)(i:Nat):List Nat:=digs i (dif l m i)++List.replicate (l.length-i) 0
theorem zhb {l m:List Nat}{i:Nat}(h:i≤l.length):(subSt l m i).length=l.length:=by simp [subSt,zal]; omega
theorem ztg (l m:List Nat):subSt l m 0=List.replicate l.length 0:=by simp [subSt,digs]
theorem zsz (l m:List Nat):1-dif l m 0/4294967296^0=0:=by simp [dif]
theorem zf4 (m:List Nat)(i:Nat):val (m.take (i+1))=val (m.take i)+4294967296^i*m.getD i 0:=by
 by_cases h:i<m.length
 ·rw [zby h,zdc h]
 ·rw [List.take_of_length_le zo,List.take_of_length_le zo,zea zo,Nat.mul_zero,Nat.add_zero]
theorem zg3 {m:List Nat}(hm:okL m)(i:Nat):m.getD i 0<4294967296:=by
 by_cases h:i<m.length
 ·rw [zdc h]; exact hm _ (List.getElem_mem _)
 ·rw [zea zo]; decide
theorem znv {l m:List Nat}{i:Nat}(h:i<l.length)(hm:okL m):dif l m (i+1)=dif l m i+4294967296^i*(l[i]+4294967295-m.getD i 0):=by
 have h1:=zdb hm i
 have h2:=zg3 hm i
 unfold dif
 rw [zby h,zf4,Nat.pow_succ]
 generalize 4294967296^i=p at *
 obtain ⟨e,he⟩:∃ e,l[i]+4294967295=m.getD i 0+e:=⟨l[i]+4294967295-m.getD i 0,by omega⟩
 rw [he,Nat.add_sub_cancel_left]
 have h3:p*(l[i]+4294967295)=p*(m.getD i 0+e):=by rw [he]
 rw [Nat.mul_add,Nat.mul_add] at h3
 omega
theorem zt0 {l m:List Nat}(hl:okL l)(i:Nat):dif l m i/4294967296^i≤1:=by
 have h1:=zdb hl i
 have h2:0<4294967296^i:=Nat.pow_pos zd
 unfold dif
 rw [Nat.div_le_iff_le_mul_add_pred h2]
 omega
theorem zll {l m:List Nat}{i:Nat}(h:i<l.length)(hl:okL l)(hm:okL m){y:Nat}(hy:m.getD i 0=y):(subSt l m i).set i ((l[i]+8589934592-y-(1-dif l m i/4294967296^i))%4294967296)=subSt l m (i+1):=by
 have h1:=zg3 hm i
 have h2:=zt0 (m:=m) hl i
 unfold subSt
 rw [zfy _ _ _ _ (zal _ _),zk4 _ _ zo,znv h hm,zeb,hy]
 rw [hy] at h1
 simp only [List.append_assoc,List.singleton_append]
 have e:(l[i]+8589934592-y-(1-dif l m i/4294967296^i))%4294967296=(dif l m i/4294967296^i+(l[i]+4294967295-y))%4294967296:=by
  generalize dif l m i/4294967296^i=q at *
  omega
 rw [e,Nat.sub_add_eq]
theorem zjy {l m:List Nat}{i:Nat}(h:i<l.length)(hl:okL l)(hm:okL m){y:Nat}(hy:m.getD i 0=y):(if l[i]<y+(1-dif l m i/4294967296^i) then 1 else 0)=1-dif l m (i+1)/4294967296^(i+1):=by
 have h1:=zg3 hm i
 have h2:=zt0 (m:=m) hl i
 have h3:=hl _ (List.getElem_mem h)
 rw [znv h hm,carry_step',hy]
 rw [hy] at h1
 generalize dif l m i/4294967296^i=q at *
 split <;> omega
theorem zob {l m:List Nat}(hl:okL l)(hm:m.length≤l.length)(hv:val m≤val l):trimL (subSt l m l.length)=limbs (val l-val m):=by
 unfold subSt dif
 rw [Nat.sub_self,List.replicate_zero,List.append_nil,List.take_length,List.take_of_length_le hm]
 have h1:=zfw hl
 rw [zgm (m':=val l-val m),zic zo]
 rw [show val l+4294967296^l.length-val m=(val l-val m)+4294967296^l.length from by omega,Nat.add_mod_right]
theorem ok_subSt {l m:List Nat}{i:Nat}:okL (subSt l m i):=okL_append.2 ⟨zc7 _ _,fun x hx=>by rw [(List.mem_replicate.1 hx).2]; decide⟩
theorem sub_c (l m:List Nat)(hls:l.length≤1099511627776)(hml:m.length≤l.length)(hv:val m≤val l):Cn Tryz.prog 188 [(MgA l).va,(MgA m).va] ((MgN (limbs (val l-val m))).va):=by
 refine Cn.introW Tryz.func188 rfl zk nq (.cons (zjv _).va (.cons (zjv _).va .nil)) (zek _).va (fun B w0 a hB0 O=>?_)
 have O:=zn [(0,(MgO l).va),(1,(MgO m).va)] [] O
 have hl:=(O.magO 0 rfl).1; have hm:=(O.magO 1 rfl).1
 refine wp_seq<|zh [.v 4 _] [.g 0,.g 1,.o 0] O (zv rfl (za2 zb8) o0) (zz [(0,_),(1,_),(4,_)] [] fun a w O=>?_)
 refine zt<|zdm (sts:=[]) (news:=[⟨11,106,slH _ _,some 2,_,none⟩]) (sp:=[.v 9 _,.v 10 _,.alc 0,.adr 5 11 .none True]) [.g 0,.g 1,.g 2] [(5,11)] [⟨5,106,slH _ _,_⟩] O (zv rfl (za1 (gq 0 rfl)) (zv rfl (zax Tryz.underlying23 (zaz (vq 0 rfl))) (oc (zeo rfl rfl rfl zfs (vq 1 rfl) (vq 1 rfl) zo) (oc (ob_a rfl rfl zl0) o0)))) zk zk zk ⟨⟨3,rfl⟩,trivial⟩ rfl zk (zz [(0,_),(1,_),(4,_)] [⟨5,106,slH _ _,_⟩] fun a w O=>?_)
 refine zt<|zg [none] [] [.v 6 _] [.g 0,.g 1,.g 2,.o 0] O (zv rfl (za2 (zau 0 rfl)) o0) (zz [(0,_),(1,_),(4,_),(6,_)] [⟨5,106,slH _ _,_⟩] fun a w O=>?_)
 refine zt<|wp_seq<|zg [none] [] [.v 12 _,.v 13 _,.v 14 _] [.g 0,.g 1,.g 2,.g 3,.o 1,.o 2] O (zv rfl (za1 (gq 0 rfl)) (zv rfl (zax Tryz.underlying23 (zaz (vq 0 rfl))) (zv rfl (za1 za3) o0))) (zz [(0,_),(1,_),(4,_),(6,_),(13,_),(14,_)] [⟨5,106,slH _ _,_⟩] fun a w O=>?_)
 refine za0<|wp_block ?_
 have O:=St.sel O [0,1,3,4,5]
 refine wp_loop_ghost (fun n a w=>∃ i:Nat,n+i=l.length∧St B w0 41 [(0,(MgO l).va),(1,(MgO m).va),(6,(NumA .u32 (1-dif l m i/4294967296^i:Nat)).va),(13,In (l.length:Nat)),(14,In (i:Nat))] [⟨5,106,slH l.length l.length,Nums .u32 (subSt l m i)⟩] a w) (l.length) ?_ ?_
 ·exact ⟨0,by omega,by rw [ztg,zsz]; exact O⟩
 intro n a w hI
 obtain ⟨i,hn,O⟩:=hI
 refine wp_seq<|zg [none] [] [.v 15 _] [.g 0,.g 1,.g 2,.g 3,.g 4,.o 0] O (zv rfl (zb1 (gq 4 rfl) (gq 3 rfl)) o0) (zz [(0,_),(1,_),(6,_),(13,_),(14,_),(15,_)] [⟨5,106,slH _ _,_⟩] fun a w O=>?_)
 refine zt<|za8 O (zm 5 rfl) (fun hb0=>?_) (fun hb0=>?_)
 ·have hi:i<l.length:=by simp at hb0; omega
  refine wp_skip<|zt<|wp_block<|wp_seq<|zg [none] [] [.v 16 _,.v 7 _] [.g 0,.g 1,.g 2,.g 3,.g 4,.o 1] O (zv rfl (za1 (gq 4 rfl)) (zv rfl (za2 (vq 0 rfl)) o0)) (zz [(0,_),(1,_),(6,_),(13,_),(14,_),(7,_)] [⟨5,106,slH _ _,_⟩] fun a w O=>?_)
  refine zt<|zg [none] [] [.v 8 _] [.g 0,.g 1,.g 2,.g 3,.g 4,.g 5,.o 0] O (zv rfl (za2 (zau 0 rfl)) o0) (zz [(0,_),(1,_),(6,_),(13,_),(14,_),(7,_),(8,_)] [⟨5,106,slH _ _,_⟩] fun a w O=>?_)
  refine zt<|wp_seq<|zg [none] [] [.v 17 _,.v 18 _,.v 19 _,.v 20 _] [.g 0,.g 1,.g 2,.g 3,.g 4,.g 5,.g 6,.o 3] O (zv rfl (za1 (gq 5 rfl)) (zv rfl (za1 (gq 1 rfl)) (zv rfl (zax Tryz.underlying23 (zaz (vq 1 rfl))) (zv rfl (zb1 (vq 0 rfl) (vq 2 rfl)) o0)))) (zz [(0,_),(1,_),(6,_),(13,_),(14,_),(7,_),(8,_),(20,_)] [⟨5,106,slH _ _,_⟩] fun a w O=>?_)
  refine za0<|za8 O (zm 7 rfl) (fun hb1=>?_) (fun hb1=>?_)
  ·refine zg [none] [] [.v 21 _,.v 22 _,.v 23 _,.v 24 _,.v 8 _] [.g 0,.g 1,.g 2,.g 3,.g 4,.g 5,.o 4] O (zv rfl (za1 (gq 1 rfl)) (zv rfl (za1 (gq 5 rfl)) (zv rfl (zc4 zbc (zaz (vq 0 rfl)) (vq 1 rfl) (by first | omega | (simp at hb1; omega))) (zv rfl (zad (vq 2 rfl) zb0) (zv rfl (za2 (vq 3 rfl)) o0))))) (zz [(0,_),(1,_),(6,_),(13,_),(14,_),(7,_),(8,_)] [⟨5,106,slH _ _,_⟩] fun a w O=>?_)
   refine za0<|zg [some (13,_)] [] [.adr 26 5 .none True,.v 27 _,.v 28 _,.v 29 _,.v 30 _,.v 31 _,.v 32 _,.v 33 _,.v 34 _,.v 25 _,.v 35 _,.v 36 _,.adr 37 5 (.some _) True,.sto 0,.v 6 _] [.g 0,.g 1,.g 3,.g 4,.o 14] O (oc (ob_a rfl rfl zdd) (zv rfl (za1 (gq 5 rfl)) (zv rfl (za1 (gq 0 rfl)) (zv rfl (za1 (gq 5 rfl)) (zv rfl (zc4 zbc (zaz (vq 2 rfl)) (vq 3 rfl) (by first | omega | (simp at hb1; omega))) (zv rfl (zad (vq 4 rfl) zb0) (zv rfl (za1 (gq 6 rfl)) (zv rfl (za1 (gq 2 rfl)) (zv rfl (za5 (xs:=[.tmp 31,.tmp 32,.tmp 33]) (zvd (hl _ (List.getElem_mem _)) (hm _ (List.getElem_mem _)) (Nat.lt_of_le_of_lt (Nat.sub_le _ _) zd)) (.cons (vq 5 rfl) (.cons (vq 6 rfl) (.cons (vq 7 rfl) .nil)))) (zv rfl (za1 (vq 8 rfl)) (zv rfl (zb4 (vq 9 rfl) rfl) (zv rfl (zb4 (vq 9 rfl) rfl) (oc (ob_a rfl rfl (zf3 0 rfl zk (lz0 0 rfl) zbc (vq 1 rfl) zo)) (oc (zd2 12 rfl rfl rfl rfl zk (fun _=>zck _ _ _ _) (vq 10 rfl) zb0 (zc2 (by rw [zhb zo]; omega))) (zv rfl (za2 (vq 11 rfl)) o0))))))))))))))) (zz [(0,_),(1,_),(13,_),(14,_),(6,_)] [⟨5,106,slH _ _,_⟩] fun a w O=>?_)
   refine zae ?_
   refine za0<|zg [none] [] [.v 38 _,.v 14 _] [.g 0,.g 1,.g 2,.g 4,.o 1] O (zv rfl (zb5 (gq 3 rfl) za3 (zb3 zo)) (zv rfl (za1 (vq 0 rfl)) o0)) (zz [(0,_),(1,_),(13,_),(6,_),(14,_)] [⟨5,106,slH _ _,_⟩] fun a w O=>?_)
   refine za0 ?_
   have O:=St.sel O [0,1,3,2,4]
   rw [zll hi hl hm (y:=_) (zdc (by simp at hb1; omega)),zjy hi hl hm (zdc (by simp at hb1; omega))] at O; exact ⟨n-1,by omega,i+1,by omega,O⟩
  ·refine wp_skip<|za0<|zg [some (13,_)] [] [.adr 26 5 .none True,.v 27 _,.v 28 _,.v 29 _,.v 30 _,.v 31 _,.v 32 _,.v 33 _,.v 34 _,.v 25 _,.v 35 _,.v 36 _,.adr 37 5 (.some _) True,.sto 0,.v 6 _] [.g 0,.g 1,.g 3,.g 4,.o 14] O (oc (ob_a rfl rfl zdd) (zv rfl (za1 (gq 5 rfl)) (zv rfl (za1 (gq 0 rfl)) (zv rfl (za1 (gq 5 rfl)) (zv rfl (zc4 zbc (zaz (vq 2 rfl)) (vq 3 rfl) (by first | omega | (simp at hb1; omega))) (zv rfl (zad (vq 4 rfl) zb0) (zv rfl (za1 (gq 6 rfl)) (zv rfl (za1 (gq 2 rfl)) (zv rfl (za5 (xs:=[.tmp 31,.tmp 32,.tmp 33]) (zvd (hl _ (List.getElem_mem _)) (y:=0) zd (Nat.lt_of_le_of_lt (Nat.sub_le _ _) zd)) (.cons (vq 5 rfl) (.cons (vq 6 rfl) (.cons (vq 7 rfl) .nil)))) (zv rfl (za1 (vq 8 rfl)) (zv rfl (zb4 (vq 9 rfl) rfl) (zv rfl (zb4 (vq 9 rfl) rfl) (oc (ob_a rfl rfl (zf3 0 rfl zk (lz0 0 rfl) zbc (vq 1 rfl) zo)) (oc (zd2 12 rfl rfl rfl rfl zk (fun _=>zck _ _ _ _) (vq 10 rfl) zb0 (zc2 (by rw [zhb zo]; omega))) (zv rfl (za2 (vq 11 rfl)) o0))))))))))))))) (zz [(0,_),(1,_),(13,_),(14,_),(6,_)] [⟨5,106,slH _ _,_⟩] fun a w O=>?_)
   refine zae ?_
   refine za0<|zg [none] [] [.v 38 _,.v 14 _] [.g 0,.g 1,.g 2,.g 4,.o 1] O (zv rfl (zb5 (gq 3 rfl) za3 (zb3 zo)) (zv rfl (za1 (vq 0 rfl)) o0)) (zz [(0,_),(1,_),(13,_),(6,_),(14,_)] [⟨5,106,slH _ _,_⟩] fun a w O=>?_)
   refine za0 ?_
   have O:=St.sel O [0,1,3,2,4]
   rw [zll hi hl hm (y:=_) (zea (by simp at hb1; omega)),zjy hi hl hm (zea (by simp at hb1; omega))] at O; exact ⟨n-1,by omega,i+1,by omega,O⟩
 ·obtain rfl:i=l.length:=by simp at hb0; omega
  refine wp_exit<|za7<|za7<|zap<|zt<|zg [none] [] [.adr 39 5 .none True,.v 40 _,.v 4 _] [.o 2] O (oc (ob_a rfl rfl zdd) (zv rfl (za5 (xs:=[.tmp 39]) (zr2 famN _) (.cons (zhn 0 rfl zk (lz0 0 rfl) ⟨by rw [zhb (Nat.le_refl _)],Nat.le_refl _,by unfold maxLen; omega,ok_subSt⟩ (by rw [zhb (Nat.le_refl _)])) .nil)) (zv rfl (za2 (vq 1 rfl)) o0))) (zz [(4,_)] [⟨5,106,slH _ _,_⟩] fun a w O=>?_)
  refine za0<|wp_ret<|zao ?_ (zaf rfl O (zm 0 rfl))
  rw [zob hl hml hv]
end Go.Proofs.YthdbhckhignfcaaGreatDoor
