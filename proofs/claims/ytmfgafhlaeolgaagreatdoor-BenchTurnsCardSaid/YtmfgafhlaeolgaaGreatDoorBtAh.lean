import Derived.Test.YtmfgafhlaeolgaaGreatDoorBtAa
import Derived.Test.YtmfgafhlaeolgaaGreatDoorBtAc
import Derived.Test.YtmfgafhlaeolgaaGreatDoorBtAg
set_option linter.unusedVariables false
set_option linter.unusedSimpArgs false
set_option linter.unusedSectionVars false
set_option maxRecDepth 100000
namespace Go.Proofs.YtmfgafhlaeolgaaGreatDoor
open Go Go.RowKit
theorem wsub64 {u x:Nat}(h:x<18446744073709551616)(hu:u<18446744073709551616):IntKind.u64.wrap ((u:Int)-(x:Int))=(((u+18446744073709551616-x)%18446744073709551616:Nat):Int):=by
 simp [IntKind.wrap,IntKind.bits,IntKind.signed]; omega
theorem wsubl {u x:Nat}(hu:u<4294967296)(hx:x<4294967296):IntKind.u32.wrap (((u+18446744073709551616-x)%18446744073709551616:Nat):Int)=(((u+4294967296-x)%4294967296:Nat):Int):=by
 rw [wlow]; congr 1; omega
theorem wsubs {u x:Nat}(hu:u<4294967296)(hx:x<4294967296):(((u+18446744073709551616-x)%18446744073709551616:Nat):Int)/2^((63:Int).toNat)=((if u<x then 1 else 0:Nat):Int):=by
 refine (nshr (k:=63)).trans ?_
 congr 1
 split <;> omega
theorem sgn1 {u x:Nat}:(((if u<x then 1 else 0:Nat):Int)==((1:Nat):Int))=decide (u<x):=by
 split <;> simp [*]
theorem less_c (L Dx:List Nat)(o m c0 c1 q:Nat)(hL:okL L)(hDx:okL Dx)(hm:m≤Dx.length)(hlo:o+m+1≤L.length)(hms:m≤1099511627776)(hq:q<4294967296):Cm2 Tryz.prog 189 88 (winH o (m+1) c0) (slH m c1) (Nums .u32 L) (Nums .u32 (spl L o (digs (m+1) (val ((L.drop o).take (m+1))+(if val ((L.drop o).take (m+1))<q*val (Dx.take m) then 4294967296^(m+1) else 0)-q*val (Dx.take m))))) .u32 (Dx) [(NumA .u64 (q:Nat)).va] (Bo (decide (val ((L.drop o).take (m+1))<q*val (Dx.take m)))):=by
 refine Cm2.intro Tryz.func189 rfl zk nq (fun B g0 g1 w0 a O=>?_)
 have O:=zn [(0,EqV ((winH o (m+1) c0).f g0)),(1,EqV ((slH m c1).f g1)),(2,(NumA .u64 (q:Nat)).va)] [⟨0,88,winH o (m+1) c0,Nums .u32 L⟩,⟨1,88,slH m c1,Nums .u32 (Dx)⟩] O
 have hW:okL ((L.drop o).take (m+1)):=zkp (zyx hL _) _
 have hD:okL (Dx.take m):=zkp hDx _
 have hWl:(((L.drop o).take (m+1))).length=m+1:=by simp; omega
 have hDl:((Dx.take m)).length=m:=by simp; omega
 refine wp_seq<|zg [none,none] [] [.v 6 _] [.g 0,.g 1,.g 2,.o 0] O (zv rfl (za2 zat) o0) (zz [(0,_),(1,_),(2,_),(6,_)] [⟨0,88,winH o (m+1) c0,_⟩,⟨1,88,slH m c1,_⟩] fun a w O=>?_)
 refine zt<|zg [none,none] [] [.v 7 _] [.g 0,.g 1,.g 2,.g 3,.o 0] O (zv rfl (za2 (zap 0 rfl)) o0) (zz [(0,_),(1,_),(2,_),(6,_),(7,_)] [⟨0,88,winH o (m+1) c0,_⟩,⟨1,88,slH m c1,_⟩] fun a w O=>?_)
 refine zt<|wp_seq<|zg [none,none] [] [.v 12 _,.v 13 _,.v 14 _] [.g 0,.g 1,.g 2,.g 3,.g 4,.o 0,.o 1,.o 2] O (zv rfl (za1 (gq 1 rfl)) (zv rfl (zdq Tryz.underlying29 (vq 0 rfl)) (zv rfl (za1 za3) o0))) (zz [(0,_),(1,_),(2,_),(6,_),(7,_),(12,_),(13,_),(14,_)] [⟨0,88,winH o (m+1) c0,_⟩,⟨1,88,slH m c1,_⟩] fun a w O=>?_)
 refine za0<|wp_block ?_
 have O:=St.sel O [0,1,2,4,5,6,7]
 refine wp_loop_ghost (fun n a w=>∃ k:Nat,n+k=m∧St B w0 62 [(0,EqV ((winH o (m+1) c0).f g0)),(1,EqV ((slH m c1).f g1)),(2,(NumA .u64 (q:Nat)).va),(7,(NumA .u64 (lsB ((L.drop o).take (m+1)) (Dx.take m) q k:Nat)).va),(12,EqV ((slH m c1).f g1)),(13,In (m:Nat)),(14,In (k:Nat))] [⟨0,88,winH o (m+1) c0,Nums .u32 (spl L o (lsO ((L.drop o).take (m+1)) (Dx.take m) q k))⟩,⟨1,88,slH m c1,Nums .u32 Dx⟩] a w) (m) ?_ ?_
 ·exact ⟨0,by omega,by rw [show lsO ((L.drop o).take (m+1)) (Dx.take m) q 0=[] from rfl,zne]; exact O⟩
 intro n a w hI
 obtain ⟨k,hn,O⟩:=hI
 refine wp_seq<|zg [none,none] [] [.v 15 _] [.g 0,.g 1,.g 2,.g 3,.g 4,.g 5,.g 6,.o 0] O (zv rfl (zaz (gq 6 rfl) (gq 5 rfl)) o0) (zz [(0,_),(1,_),(2,_),(7,_),(12,_),(13,_),(14,_),(15,_)] [⟨0,88,winH o (m+1) c0,_⟩,⟨1,88,slH m c1,_⟩] fun a w O=>?_)
 refine zt<|za8 O (zm 7 rfl) (fun hb0=>?_) (fun hb0=>?_)
 ·have hk:k<m:=by simp at hb0; omega
  have hdk:=zij hD k
  have hwk:=zij hW k
  have hbk:=zv9 (W:=((L.drop o).take (m+1))) (q:=q) hD k
  have hdx:Dx[0+k]?=some (((Dx.take m)).getD k 0):=by rw [zlz hk,Nat.zero_add]; exact getD_some zo
  have hwx:(spl L o (lsO ((L.drop o).take (m+1)) (Dx.take m) q k))[o+k]?=some ((((L.drop o).take (m+1))).getD k 0):=by rw [zhj zo,zi8 (by rw [zet]; omega) zo]
  have hpk:q*((Dx.take m)).getD k 0≤q*4294967295:=Nat.mul_le_mul_left _ zo
  refine wp_skip<|zt<|wp_block<|wp_seq<|zg [none,none] [] [.v 16 _,.v 17 _,.v 18 _,.v 8 _,.v 9 _] [.g 0,.g 1,.g 2,.g 3,.g 4,.g 5,.g 6,.o 3,.o 4] O (zv rfl (za1 (gq 6 rfl)) (zv rfl (zd4 zb4 (gq 4 rfl) (gq 6 rfl) zo) (zv rfl (zck (vq 1 rfl) (lz0 1 rfl) (gq 1 rfl) (nums_at' hdx) zbd) (zv rfl (za2 (vq 0 rfl)) (zv rfl (za2 (vq 2 rfl)) o0))))) (zz [(0,_),(1,_),(2,_),(7,_),(12,_),(13,_),(14,_),(8,_),(9,_)] [⟨0,88,winH o (m+1) c0,_⟩,⟨1,88,slH m c1,_⟩] fun a w O=>?_)
  refine zt<|zg [none,none] [] [.v 19 _,.v 20 _,.v 21 _,.v 22 _,.v 23 _,.v 24 _,.v 7 _] [.g 0,.g 1,.g 2,.g 4,.g 5,.g 6,.g 7,.o 6] O (zv rfl (za1 (gq 3 rfl)) (zv rfl (za1 (gq 2 rfl)) (zv rfl (za1 (gq 8 rfl)) (zv rfl (zao .u64 zk zk (vq 2 rfl) (wu64 zo)) (zv rfl (zki (vq 1 rfl) (vq 3 rfl) (wmul64 zo)) (zv rfl (zb2 (vq 0 rfl) (vq 4 rfl) (wadd64 zo)) (zv rfl (za2 (vq 5 rfl)) o0))))))) (zz [(0,_),(1,_),(2,_),(12,_),(13,_),(14,_),(8,_),(7,_)] [⟨0,88,winH o (m+1) c0,_⟩,⟨1,88,slH m c1,_⟩] fun a w O=>?_)
  refine zt<|zg [none,none] [] [.v 25 _,.v 26 _,.v 27 _,.v 28 _,.v 29 _,.v 30 _,.v 31 _,.v 32 _,.v 33 _,.v 10 _] [.g 0,.g 1,.g 2,.g 3,.g 4,.g 5,.g 6,.g 7,.o 9] O (zv rfl (za1 (gq 0 rfl)) (zv rfl (za1 (gq 6 rfl)) (zv rfl (zd4 zb4 (vq 0 rfl) (vq 1 rfl) zo) (zv rfl (zck (vq 2 rfl) (lz0 0 rfl) (gq 0 rfl) (nums_at' hwx) zbd) (zv rfl (zao .u64 zk zk (vq 3 rfl) (wu64 zo)) (zv rfl (za1 (gq 7 rfl)) (zv rfl (zao .u32 zk zk (vq 5 rfl) (wlow)) (zv rfl (zao .u64 zk zk (vq 6 rfl) (wu64 zo)) (zv rfl (zcj (vq 4 rfl) (vq 7 rfl) (wsub64 zo zo)) (zv rfl (za2 (vq 8 rfl)) o0)))))))))) (zz [(0,_),(1,_),(2,_),(12,_),(13,_),(14,_),(8,_),(7,_),(10,_)] [⟨0,88,winH o (m+1) c0,_⟩,⟨1,88,slH m c1,_⟩] fun a w O=>?_)
  refine zt<|zg [some (5,_),none] [] [.v 34 _,.v 35 _,.v 36 _,.v 37 _,.v 38 _,.sto 0] [.g 0,.g 1,.g 2,.g 3,.g 4,.g 5,.g 7,.g 8] O (zv rfl (za1 (gq 0 rfl)) (zv rfl (za1 (gq 6 rfl)) (zv rfl (za1 (gq 8 rfl)) (zv rfl (zao .u32 zk zk (vq 2 rfl) (wsubl hwk zo)) (zv rfl (zd4 zb4 (vq 0 rfl) (vq 1 rfl) zo) (oc (zg4 rfl rfl rfl (vq 4 rfl) (gq 0 rfl) (vq 3 rfl) zbd (zbu (by rw [zgx (by rw [zet]; omega)]; omega))) o0)))))) (zz [(0,_),(1,_),(2,_),(12,_),(13,_),(14,_),(7,_),(10,_)] [⟨0,88,winH o (m+1) c0,_⟩,⟨1,88,slH m c1,_⟩] fun a w O=>?_)
  refine za0<|zg [none,none] [] [.v 39 _,.v 40 _,.v 41 _,.v 42 _,.v 43 _,.v 7 _] [.g 0,.g 1,.g 2,.g 3,.g 4,.g 5,.o 5] O (zv rfl (za1 (gq 6 rfl)) (zv rfl (zh0 (vq 0 rfl) (zap 32 rfl) zd (nshr)) (zv rfl (za1 (gq 7 rfl)) (zv rfl (zh0 (vq 2 rfl) (zap 63 rfl) zd (wsubs hwk zo)) (zv rfl (zb2 (vq 1 rfl) (vq 3 rfl) (wadd64 (by split <;> omega))) (zv rfl (za2 (vq 4 rfl)) o0)))))) (zz [(0,_),(1,_),(2,_),(12,_),(13,_),(14,_),(7,_)] [⟨0,88,winH o (m+1) c0,_⟩,⟨1,88,slH m c1,_⟩] fun a w O=>?_)
  refine zab ?_
  refine za0<|zg [none,none] [] [.v 44 _,.v 14 _] [.g 0,.g 1,.g 2,.g 3,.g 4,.g 6,.o 1] O (zv rfl (zb2 (gq 5 rfl) za3 (zb3 zo)) (zv rfl (za1 (vq 0 rfl)) o0)) (zz [(0,_),(1,_),(2,_),(12,_),(13,_),(7,_),(14,_)] [⟨0,88,winH o (m+1) c0,_⟩,⟨1,88,slH m c1,_⟩] fun a w O=>?_)
  refine za0 ?_
  have O:=St.sel O [0,1,2,5,3,4,6]
  rw [zi7 (zet _ _ _ _) zo] at O
  exact ⟨n-1,by omega,k+1,by omega,O⟩
 ·obtain rfl:m=k:=by simp at hb0; omega
  have hbk:=zv9 (W:=((L.drop o).take (m+1))) (q:=q) hD m
  have hwk:=zij hW m
  have hwx:(spl L o (lsO ((L.drop o).take (m+1)) (Dx.take m) q m))[o+m]?=some ((((L.drop o).take (m+1))).getD m 0):=by rw [zhj zo,zi8 (by rw [zet]; omega) zo]
  refine wp_exit<|za7<|za7<|zam<|zt<|zg [none,none] [] [.v 45 _,.v 46 _,.v 47 _,.v 48 _,.v 49 _,.v 50 _,.v 51 _,.v 52 _,.v 11 _] [.g 0,.g 1,.o 8] O (zv rfl (za1 (gq 0 rfl)) (zv rfl (za1 (gq 1 rfl)) (zv rfl (zdq Tryz.underlying29 (vq 1 rfl)) (zv rfl (zd4 zb4 (vq 0 rfl) (vq 2 rfl) zo) (zv rfl (zck (vq 3 rfl) (lz0 0 rfl) (gq 0 rfl) (nums_at' hwx) zbd) (zv rfl (zao .u64 zk zk (vq 4 rfl) (wu64 zo)) (zv rfl (za1 (gq 3 rfl)) (zv rfl (zcj (vq 5 rfl) (vq 6 rfl) (wsub64 zo zo)) (zv rfl (za2 (vq 7 rfl)) o0))))))))) (zz [(0,_),(1,_),(11,_)] [⟨0,88,winH o (m+1) c0,_⟩,⟨1,88,slH m c1,_⟩] fun a w O=>?_)
  refine zt<|zg [some (6,_),none] [] [.v 53 _,.v 54 _,.v 55 _,.v 56 _,.v 57 _,.v 58 _,.sto 0] [.g 0,.g 1,.g 2] O (zv rfl (za1 (gq 0 rfl)) (zv rfl (za1 (gq 1 rfl)) (zv rfl (zdq Tryz.underlying29 (vq 1 rfl)) (zv rfl (za1 (gq 2 rfl)) (zv rfl (zao .u32 zk zk (vq 3 rfl) (wsubl hwk zo)) (zv rfl (zd4 zb4 (vq 0 rfl) (vq 2 rfl) zo) (oc (zg4 rfl rfl rfl (vq 5 rfl) (gq 0 rfl) (vq 4 rfl) zbd (zbu (by rw [zgx (by rw [zet]; omega)]; omega))) o0))))))) (zz [(0,_),(1,_),(11,_)] [⟨0,88,winH o (m+1) c0,_⟩,⟨1,88,slH m c1,_⟩] fun a w O=>?_)
  refine zt<|zg [none,none] [] [.v 59 _,.v 60 _,.v 61 _,.v 6 _] [.g 0,.g 1,.o 3] O (zv rfl (za1 (gq 2 rfl)) (zv rfl (zh0 (vq 0 rfl) (zap 63 rfl) zd (wsubs hwk zo)) (zv rfl (zc3 (vq 1 rfl) (zap 1 rfl)) (zv rfl (za2 (vq 2 rfl)) o0)))) (zz [(0,_),(1,_),(6,_)] [⟨0,88,winH o (m+1) c0,_⟩,⟨1,88,slH m c1,_⟩] fun a w O=>?_)
  refine za0<|wp_ret ?_
  rw [zi7 (zet _ _ _ _) zo,(ls_end hW hD hDl hWl hq).2] at O
  refine ret_m2 O (zm 0 rfl) (zm 1 rfl) (zm 0 rfl) (zm 1 rfl) ?_
  refine zak ?_ (zac rfl O (zm 2 rfl))
  rw [sgn1,(ls_end hW hD hDl hWl hq).1]
end Go.Proofs.YtmfgafhlaeolgaaGreatDoor
namespace Go.Proofs.YtmfgafhlaeolgaaGreatDoor
open Go Go.RowKit
def tab8:ByteArray:=⟨(([0,1,2,2,3,3,3,3,4,4,4,4,4,4,4,4,5,5,5,5,5,5,5,5,5,5,5,5,5,5,5,5,6,6,6,6,6,6,6,6,6,6,6,6,6,6,6,6,6,6,6,6,6,6,6,6,6,6,6,6,6,6,6,6,7,7,7,7,7,7,7,7,7,7,7,7,7,7,7,7,7,7,7,7,7,7,7,7,7,7,7,7,7,7,7,7,7,7,7,7,7,7,7,7,7,7,7,7,7,7,7,7,7,7,7,7,7,7,7,7,7,7,7,7,7,7,7,7]:List UInt8)++[8,8,8,8,8,8,8,8,8,8,8,8,8,8,8,8,8,8,8,8,8,8,8,8,8,8,8,8,8,8,8,8,8,8,8,8,8,8,8,8,8,8,8,8,8,8,8,8,8,8,8,8,8,8,8,8,8,8,8,8,8,8,8,8,8,8,8,8,8,8,8,8,8,8,8,8,8,8,8,8,8,8,8,8,8,8,8,8,8,8,8,8,8,8,8,8,8,8,8,8,8,8,8,8,8,8,8,8,8,8,8,8,8,8,8,8,8,8,8,8,8,8,8,8,8,8,8,8]).toArray⟩
theorem zxt:(List.range 256).all (fun n=>tab8[n]? == some (UInt8.ofNat (bl n)))=true:=by kernel_rfl
theorem zka {n:Nat}(h:n<256):tab8[n]?=some (UInt8.ofNat (bl n)):=by
 have:=List.all_eq_true.1 zxt n (by simpa using h)
 simpa using this
theorem zds {n:Nat}(h:n<256):(UInt8.ofNat (bl n)).toNat=bl n:=by
 have:=zf2 (k:=8) h
 simp
 omega
theorem wu8 {x:Nat}(h:x<256):IntKind.u8.wrap (x:Int)=(x:Int):=by simp [IntKind.wrap,IntKind.bits,IntKind.signed]; omega
theorem len32_c (x:Nat)(hx:x<4294967296):Cn Tryz.prog 201 [(NumA .u32 (x:Nat)).va] (In (bl x:Nat)):=by
 refine Cn.intro Tryz.func201 rfl zk nq (fun B w0 a O=>?_)
 have O:=zn [(0,(NumA .u32 (x:Nat)).va)] [] O
 refine wp_seq<|zh [.v 2 _] [.g 0,.o 0] O (zv rfl (za2 za3) o0) (zz [(0,_),(2,_)] [] fun a w O=>?_)
 refine zt<|wp_seq<|zh [.v 3 _,.v 4 _] [.g 0,.g 1,.o 1] O (zv rfl (za1 (gq 0 rfl)) (zv rfl (zeo (vq 0 rfl) (zap 65536 rfl)) o0)) (zz [(0,_),(2,_),(4,_)] [] fun a w O=>?_)
 refine za0<|za8 O (zm 2 rfl) (fun hb0=>?_) (fun hb0=>?_)
 ·have h1:65536≤x:=by simp at hb0; omega
  have e1:=zx7 x 16 h1
  refine wp_seq<|zh [.v 5 _,.v 6 _,.v 0 _] [.g 1,.o 2] O (zv rfl (za1 (gq 0 rfl)) (zv rfl (zh0 (vq 0 rfl) (zap 16 rfl) zd (nshr)) (zv rfl (za2 (vq 1 rfl)) o0))) (zz [(2,_),(0,_)] [] fun a w O=>?_)
  refine za0<|zh [.v 2 _] [.g 1,.o 0] O (zv rfl (za2 za3) o0) (zz [(0,_),(2,_)] [] fun a w O=>?_)
  refine zt<|wp_seq<|zh [.v 7 _,.v 8 _] [.g 0,.g 1,.o 1] O (zv rfl (za1 (gq 0 rfl)) (zv rfl (zeo (vq 0 rfl) (zap 256 rfl)) o0)) (zz [(0,_),(2,_),(8,_)] [] fun a w O=>?_)
  refine za0<|za8 O (zm 2 rfl) (fun hb1=>?_) (fun hb1=>?_)
  ·have h2:256≤x/2^16:=by simp at hb1; omega
   have e2:=zx7 (x/2^16) 8 h2
   refine wp_seq<|zh [.v 9 _,.v 10 _,.v 0 _] [.g 1,.o 2] O (zv rfl (za1 (gq 0 rfl)) (zv rfl (zh0 (vq 0 rfl) (zap 8 rfl) zd (nshr)) (zv rfl (za2 (vq 1 rfl)) o0))) (zz [(2,_),(0,_)] [] fun a w O=>?_)
   refine za0<|zh [.v 11 _,.v 12 _,.v 2 _] [.g 1,.o 2] O (zv rfl (za1 (gq 0 rfl)) (zv rfl (zb2 (vq 0 rfl) za3 (wi64 zo zo)) (zv rfl (za2 (vq 1 rfl)) o0))) (zz [(0,_),(2,_)] [] fun a w O=>?_)
   refine zt<|zh [.v 13 _,.v 14 _,.v 15 _,.v 16 _,.v 17 _,.v 18 _,.v 2 _] [.o 6] O (zv rfl (za1 (gq 1 rfl)) (zv rfl (za1 (gq 0 rfl)) (zv rfl (zao .u8 zk zk (vq 1 rfl) (wu8 zo)) (zv rfl (zkj zk zbb (vq 2 rfl) (zka zo)) (zv rfl (zao .i64 zk zk (vq 3 rfl) (wi64 zo (by rw [zds zo]; have:=zf2 (k:=8) (n:=x/2^16/2^8) zo; omega))) (zv rfl (zb2 (vq 0 rfl) (vq 4 rfl) (wi64 (by rw [zds zo]; omega) (by rw [zds zo]; have:=zf2 (k:=8) (n:=x/2^16/2^8) zo; omega))) (zv rfl (za2 (vq 5 rfl)) o0))))))) (zz [(2,_)] [] fun a w O=>?_)
   refine za0<|wp_ret<|zak ?_ (zac rfl O (zm 0 rfl))
   rw [e1,e2,zds zo]; congr 2; omega
  ·have h2:x/2^16<256:=by simp at hb1; omega
   refine wp_skip<|zt<|zh [.v 13 _,.v 14 _,.v 15 _,.v 16 _,.v 17 _,.v 18 _,.v 2 _] [.o 6] O (zv rfl (za1 (gq 1 rfl)) (zv rfl (za1 (gq 0 rfl)) (zv rfl (zao .u8 zk zk (vq 1 rfl) (wu8 h2)) (zv rfl (zkj zk zbb (vq 2 rfl) (zka h2)) (zv rfl (zao .i64 zk zk (vq 3 rfl) (wi64 zo (by rw [zds h2]; have:=zf2 (k:=8) h2; omega))) (zv rfl (zb2 (vq 0 rfl) (vq 4 rfl) (wi64 (by rw [zds h2]; omega) (by rw [zds h2]; have:=zf2 (k:=8) h2; omega))) (zv rfl (za2 (vq 5 rfl)) o0))))))) (zz [(2,_)] [] fun a w O=>?_)
   refine za0<|wp_ret<|zak ?_ (zac rfl O (zm 0 rfl))
   rw [e1,zds h2]; congr 2; omega
 ·have h1:x<65536:=by simp at hb0; omega
  refine wp_skip<|zt<|wp_seq<|zh [.v 7 _,.v 8 _] [.g 0,.g 1,.o 1] O (zv rfl (za1 (gq 0 rfl)) (zv rfl (zeo (vq 0 rfl) (zap 256 rfl)) o0)) (zz [(0,_),(2,_),(8,_)] [] fun a w O=>?_)
  refine za0<|za8 O (zm 2 rfl) (fun hb2=>?_) (fun hb2=>?_)
  ·have h2:256≤x:=by simp at hb2; omega
   have e2:=zx7 x 8 h2
   refine wp_seq<|zh [.v 9 _,.v 10 _,.v 0 _] [.g 1,.o 2] O (zv rfl (za1 (gq 0 rfl)) (zv rfl (zh0 (vq 0 rfl) (zap 8 rfl) zd (nshr)) (zv rfl (za2 (vq 1 rfl)) o0))) (zz [(2,_),(0,_)] [] fun a w O=>?_)
   refine za0<|zh [.v 11 _,.v 12 _,.v 2 _] [.g 1,.o 2] O (zv rfl (za1 (gq 0 rfl)) (zv rfl (zb2 (vq 0 rfl) za3 (wi64 zo zo)) (zv rfl (za2 (vq 1 rfl)) o0))) (zz [(0,_),(2,_)] [] fun a w O=>?_)
   refine zt<|zh [.v 13 _,.v 14 _,.v 15 _,.v 16 _,.v 17 _,.v 18 _,.v 2 _] [.o 6] O (zv rfl (za1 (gq 1 rfl)) (zv rfl (za1 (gq 0 rfl)) (zv rfl (zao .u8 zk zk (vq 1 rfl) (wu8 zo)) (zv rfl (zkj zk zbb (vq 2 rfl) (zka zo)) (zv rfl (zao .i64 zk zk (vq 3 rfl) (wi64 zo (by rw [zds zo]; have:=zf2 (k:=8) (n:=x/2^8) zo; omega))) (zv rfl (zb2 (vq 0 rfl) (vq 4 rfl) (wi64 (by rw [zds zo]; omega) (by rw [zds zo]; have:=zf2 (k:=8) (n:=x/2^8) zo; omega))) (zv rfl (za2 (vq 5 rfl)) o0))))))) (zz [(2,_)] [] fun a w O=>?_)
   refine za0<|wp_ret<|zak ?_ (zac rfl O (zm 0 rfl))
   rw [e2,zds zo]; congr 2; omega
  ·have h2:x<256:=by simp at hb2; omega
   refine wp_skip<|zt<|zh [.v 13 _,.v 14 _,.v 15 _,.v 16 _,.v 17 _,.v 18 _,.v 2 _] [.o 6] O (zv rfl (za1 (gq 1 rfl)) (zv rfl (za1 (gq 0 rfl)) (zv rfl (zao .u8 zk zk (vq 1 rfl) (wu8 h2)) (zv rfl (zkj zk zbb (vq 2 rfl) (zka h2)) (zv rfl (zao .i64 zk zk (vq 3 rfl) (wi64 zo (by rw [zds h2]; have:=zf2 (k:=8) h2; omega))) (zv rfl (zb2 (vq 0 rfl) (vq 4 rfl) (wi64 (by rw [zds h2]; omega) (by rw [zds h2]; have:=zf2 (k:=8) h2; omega))) (zv rfl (za2 (vq 5 rfl)) o0))))))) (zz [(2,_)] [] fun a w O=>?_)
   refine za0<|wp_ret<|zak ?_ (zac rfl O (zm 0 rfl))
   rw [zds h2]; congr 2; omega
theorem lz32_c (x:Nat)(hx:x<4294967296):Cn Tryz.prog 187 [(NumA .u32 (x:Nat)).va] (In (32-bl x:Nat)):=by
 refine Cn.intro Tryz.func187 rfl zk nq (fun B w0 a O=>?_)
 have O:=zn [(0,(NumA .u32 (x:Nat)).va)] [] O
 have hb:=zf2 (k:=32) hx
 refine wp_seq<|zh [.v 2 _] [.g 0,.o 0] O (zv rfl (za2 za3) o0) (zz [(0,_),(2,_)] [] fun a w O=>?_)
 refine zt<|zh [.v 3 _,.v 4 _,.v 5 _,.v 2 _] [.o 3] O (zv rfl (za1 (gq 0 rfl)) (zv rfl (za5 (xs:=[.tmp 3]) (len32_c x hx) (.cons (vq 0 rfl) .nil)) (zv rfl (zcj za3 (vq 1 rfl) ((wi64 zo zo).trans (show (32:Int)-(bl x:Nat)=((32-bl x:Nat):Int) by omega))) (zv rfl (za2 (vq 2 rfl)) o0)))) (zz [(2,_)] [] fun a w O=>?_)
 exact za0<|wp_ret<|zac rfl O (zm 0 rfl)
end Go.Proofs.YtmfgafhlaeolgaaGreatDoor
