import Derived.Test.YtmfgafhlaeolgaaGreatDoorBtAa
import Derived.Test.YtmfgafhlaeolgaaGreatDoorBtAc
import Derived.Test.YtmfgafhlaeolgaaGreatDoorBtAf
set_option linter.unusedVariables false
set_option linter.unusedSimpArgs false
set_option linter.unusedSectionVars false
set_option maxRecDepth 100000
namespace Go.Proofs.YtmfgafhlaeolgaaGreatDoor
open Go Go.RowKit
def shSt (l ext:List Nat)(d i:Nat):List Nat:=l.take i++digs (l.length-i) (val (l.drop i)/d)++ext
theorem zxz (l ext:List Nat)(d:Nat):shSt l ext d l.length=l++ext:=by simp [shSt,digs]
theorem zy1 (l ext:List Nat)(d:Nat):shSt l ext d 0=digs l.length (val l/d)++ext:=by simp [shSt]
theorem zy0 {l ext:List Nat}{d i:Nat}(h:i≤l.length):(shSt l ext d i).length=l.length+ext.length:=by simp [shSt,zag]; omega
theorem zp1 {l ext:List Nat}{d i:Nat}(h:i<l.length)(h2:i<(shSt l ext d (i+1)).length):(shSt l ext d (i+1))[i]=l[i]:=by
 simp only [shSt,List.append_assoc]
 rw [List.getElem_append_left (by simp; omega),List.getElem_take]
theorem sh_eq (V x d:Nat):x+4294967296*V=d*(4294967296*(V/d))+(V%d*4294967296+x):=by
 have h:=Nat.div_add_mod V d
 have e:4294967296*V=4294967296*(d*(V/d)+V%d):=by rw [h]
 rw [Nat.mul_add,← Nat.mul_assoc,Nat.mul_comm 4294967296 d,Nat.mul_assoc] at e
 omega
theorem sh_div {V x d:Nat}(hd:0<d):(x+4294967296*V)/d=4294967296*(V/d)+(V%d*4294967296+x)/d:=by rw [sh_eq,Nat.mul_add_div hd]
theorem sh_mod {V x d:Nat}:(x+4294967296*V)%d=(V%d*4294967296+x)%d:=by rw [sh_eq,Nat.mul_add_mod]
theorem zqi {l:List Nat}{i:Nat}(h:i<l.length):val (l.drop i)=l[i]+4294967296*val (l.drop (i+1)):=by rw [List.drop_eq_getElem_cons h]; rfl
theorem zn0 (n q V:Nat)(hq:q<4294967296):digs (n+1) (4294967296*V+q)=q::digs n V:=by
 show (4294967296*V+q)%4294967296::digs n ((4294967296*V+q)/4294967296)=_
 rw [show (4294967296*V+q)%4294967296=q from by omega,show (4294967296*V+q)/4294967296=V from by omega]
theorem zte {l ext:List Nat}{d i:Nat}(h:i<l.length)(hl:okL l)(hd:0<d):(shSt l ext d (i+1)).set i ((val (l.drop (i+1))%d*4294967296+l[i])/d)=shSt l ext d i:=by
 have hq:=zoi (h:=val (l.drop (i+1))%d) (l:=l[i]) (d:=d) (Nat.mod_lt _ hd) (hl _ (List.getElem_mem h))
 unfold shSt
 rw [zqi h,sh_div hd,show l.length-i=(l.length-(i+1))+1 from by omega,zn0 _ _ _ hq,List.take_succ_eq_append_getElem h,List.append_assoc,List.append_assoc,List.append_assoc,zf6 _ _ _ _ (by simp; omega)]
 simp
theorem short_c (l ext:List Nat)(c d:Nat)(hl:okL l)(hls:l.length≤1099511627776)(hd0:0<d)(hd:d<4294967296):Cm Tryz.prog 171 88 (Nums .u32 (l++ext)) (Nums .u32 (digs l.length (val l/d)++ext)) [.w (slH l.length c),.v ((NumA .u32 (d:Nat)).va)] ((NumA .u32 (val l%d:Nat)).va):=by
 refine Cm.intro Tryz.func171 rfl zk nq (fun B g w0 a O=>?_)
 have O:=zn [(0,EqV ((slH l.length c).f g)),(1,(NumA .u32 (d:Nat)).va)] [⟨0,88,slH l.length c,Nums .u32 (l++ext)⟩] O
 refine wp_seq<|zg [none] [] [.v 4 _] [.g 0,.g 1,.o 0] O (zv rfl (za2 (zap 0 rfl)) o0) (zz [(0,_),(1,_),(4,_)] [⟨0,88,slH _ _,_⟩] fun a w O=>?_)
 refine zt<|zg [none] [] [.v 5 _] [.g 0,.g 1,.g 2,.o 0] O (zv rfl (za2 (zap 0 rfl)) o0) (zz [(0,_),(1,_),(4,_),(5,_)] [⟨0,88,slH _ _,_⟩] fun a w O=>?_)
 refine zt<|wp_seq<|zg [none] [] [.adr 7 0 .none True,.v 8 _,.v 9 _,.v 6 _] [.g 0,.g 1,.g 2,.g 3,.o 3] O (oc (ob_a rfl rfl zd3) (zv rfl (r_lenx 0 rfl zk (lz0 0 rfl) Tryz.underlying29) (zv rfl (zcj (vq 1 rfl) za3 (wi64 zo zo)) (zv rfl (za2 (vq 2 rfl)) o0)))) (zz [(0,_),(1,_),(4,_),(5,_),(6,_)] [⟨0,88,slH _ _,_⟩] fun a w O=>?_)
 refine za0<|wp_block ?_
 have O:=St.sel O [0,1,3,4]
 refine wp_loop_ghost (fun n a w=>n≤l.length∧St B w0 28 [(0,EqV ((slH l.length c).f g)),(1,(NumA .u32 (d:Nat)).va),(5,(NumA .u32 (val (l.drop n)%d:Nat)).va),(6,In ((n:Int)-1))] [⟨0,88,slH l.length c,Nums .u32 (shSt l ext d n)⟩] a w) (l.length) ?_ ?_
 ·exact ⟨Nat.le_refl _,by rw [zxz,List.drop_length,show val []%d=0 from by simp [val]]; exact O⟩
 intro n a w hI
 obtain ⟨hn,O⟩:=hI; have hlen:=zy0 (ext:=ext) (d:=d) hn
 refine wp_seq<|wp_seq<|zg [none] [] [.v 10 _,.v 11 _] [.g 0,.g 1,.g 2,.g 3,.o 1] O (zv rfl (za1 (gq 3 rfl)) (zv rfl (zeo (vq 0 rfl) za3) o0)) (zz [(0,_),(1,_),(5,_),(6,_),(11,_)] [⟨0,88,slH _ _,_⟩] fun a w O=>?_)
 refine za0<|za8 O (zm 4 rfl) (fun hb0=>?_) (fun hb0=>?_)
 ·obtain ⟨j,rfl⟩:∃ j,n=j+1:=⟨n-1,by simp at hb0; omega⟩; rw [show ((j+1:Nat):Int)-1=(j:Int) from by omega] at O
  refine wp_skip<|zt<|wp_block<|zg [some (13,_)] [] [.adr 15 0 .none True,.v 16 _,.v 17 _,.adr 18 0 .none True,.v 19 _,.adr 20 0 (.some _) True,.v 21 _,.v 22 _,.v 23 _,.v 14 _,.v 24 _,.v 25 _,.adr 26 0 (.some _) True,.sto 0,.v 5 _] [.g 0,.g 1,.g 3,.o 14] O (oc (ob_a rfl rfl zd3) (zv rfl (za1 (gq 3 rfl)) (zv rfl (za1 (gq 2 rfl)) (oc (ob_a rfl rfl zd3) (zv rfl (za1 (gq 3 rfl)) (oc (ob_a rfl rfl (zek 3 rfl zk (lz0 0 rfl) zb4 (vq 4 rfl) zo)) (zv rfl (zni 5 rfl zk (lz0 0 rfl) (fun _=>zcd _ _ _ _) (zks zo) zbd) (zv rfl (za1 (gq 1 rfl)) (zv rfl (za5 (xs:=[.tmp 17,.tmp 21,.tmp 22]) (div32_c (Nat.mod_lt _ hd0) (by rw [zp1 zo zo]; exact hl _ (List.getElem_mem _)) hd) (.cons (vq 2 rfl) (.cons (vq 6 rfl) (.cons (vq 7 rfl) .nil)))) (zv rfl (za1 (vq 8 rfl)) (zv rfl (zb1 (vq 9 rfl) rfl) (zv rfl (zb1 (vq 9 rfl) rfl) (oc (ob_a rfl rfl (zek 0 rfl zk (lz0 0 rfl) zb4 (vq 1 rfl) zo)) (oc (zcr 12 rfl rfl rfl rfl zk (fun _=>zcd _ _ _ _) (vq 10 rfl) zbd (zbu zo)) (zv rfl (za2 (vq 11 rfl)) o0))))))))))))))) (zz [(0,_),(1,_),(6,_),(5,_)] [⟨0,88,slH _ _,_⟩] fun a w O=>?_)
  refine zab ?_
  refine za0<|zg [none] [] [.v 12 _,.v 13 _,.v 6 _] [.g 0,.g 1,.g 3,.o 2] O (zv rfl (za1 (gq 2 rfl)) (zv rfl (zcj (vq 0 rfl) za3 (wi64 zo zo)) (zv rfl (za2 (vq 1 rfl)) o0))) (zz [(0,_),(1,_),(5,_),(6,_)] [⟨0,88,slH _ _,_⟩] fun a w O=>?_)
  refine za0 ?_
  have O:=St.sel O [0,1,2,3]
  rw [zp1 zo zo,zte zo hl hd0,← sh_mod,← zqi zo] at O; exact ⟨j,by omega,by omega,O⟩
 ·obtain rfl:n=0:=(by simp at hb0; omega); rw [zy1] at O
  refine wp_exit<|za7<|za7<|zam<|zt<|zg [none] [] [.v 27 _,.v 4 _] [.g 0,.o 1] O (zv rfl (za1 (gq 2 rfl)) (zv rfl (za2 (vq 0 rfl)) o0)) (zz [(0,_),(4,_)] [⟨0,88,slH _ _,_⟩] fun a w O=>?_)
  refine za0<|wp_ret<|zgb O (zm 0 rfl) (zm 0 rfl) ?_
  exact zac rfl O (zm 1 rfl)
end Go.Proofs.YtmfgafhlaeolgaaGreatDoor
namespace Go.Proofs.YtmfgafhlaeolgaaGreatDoor
open Go Go.RowKit
theorem wshl {u s:Nat}:IntKind.u32.wrap ((u:Int)*2^((s:Int).toNat))=((u*2^s%4294967296:Nat):Int):=by
 rw [Int.toNat_natCast,show (u:Int)*2^s=((u*2^s:Nat):Int) from by simp]; exact wu32'
theorem shl_lt {u s:Nat}(hu:u<4294967296)(hs:s<32):u*2^s<18446744073709551616:=by
 have h1:2^s≤2^31:=Nat.pow_le_pow_right zd zo
 have h2:u*2^s≤4294967295*2^31:=Nat.mul_le_mul zo h1
 omega
theorem wshl64 {u s:Nat}(hu:u<4294967296)(hs:s<32):IntKind.u64.wrap ((u:Int)*2^((s:Int).toNat))=((u*2^s:Nat):Int):=by
 rw [Int.toNat_natCast,show (u:Int)*2^s=((u*2^s:Nat):Int) from by simp]; exact wu64 (shl_lt hu hs)
theorem zsl {u s:Nat}(hs:s<32):u*2^s%4294967296=2^s*(u%2^(32-s)):=by
 rw [show (4294967296:Nat)=2^s*2^(32-s) from by rw [← Nat.pow_add,show s+(32-s)=32 from by omega],Nat.mul_comm u,Nat.mul_mod_mul_left]
theorem up_or {u s c:Nat}(hs:s<32)(hc:c<2^s):u*2^s%4294967296 ||| c=(c+u*2^s)%4294967296:=by
 rw [zsl hs,← Nat.two_pow_add_eq_or_of_lt hc]
 have h1:u%2^(32-s)<2^(32-s):=Nat.mod_lt _ (Nat.pow_pos zd)
 have h2:2^s*(u%2^(32-s)+1)≤2^s*2^(32-s):=Nat.mul_le_mul_left _ h1
 rw [← Nat.pow_add,show s+(32-s)=32 from by omega,Nat.mul_add,Nat.mul_one] at h2
 have h3:=zsl (u:=u) hs
 have h4:=Nat.div_add_mod (u*2^s) 4294967296
 omega
theorem up_div {u s c:Nat}(hs:s<32)(hc:c<2^s):u*2^s/4294967296=(c+u*2^s)/4294967296:=by
 have h1:u%2^(32-s)<2^(32-s):=Nat.mod_lt _ (Nat.pow_pos zd)
 have h2:2^s*(u%2^(32-s)+1)≤2^s*2^(32-s):=Nat.mul_le_mul_left _ h1
 rw [← Nat.pow_add,show s+(32-s)=32 from by omega,Nat.mul_add,Nat.mul_one] at h2
 have h3:=zsl (u:=u) hs
 have h4:=Nat.div_add_mod (u*2^s) 4294967296
 omega
def upSt (l:List Nat)(s i:Nat):List Nat:=digs i (val (l.take i)*2^s)++List.replicate (l.length+1-i) 0
theorem zot {l:List Nat}{s i:Nat}(h:i≤l.length):(upSt l s i).length=l.length+1:=by simp [upSt,zag]; omega
theorem zsm (l:List Nat)(s:Nat):upSt l s 0=List.replicate (l.length+1) 0:=by simp [upSt,digs]
theorem up_val {l:List Nat}{s i:Nat}(h:i<l.length):val (l.take (i+1))*2^s=val (l.take i)*2^s+4294967296^i*(l[i]*2^s):=by rw [zbp h,Nat.add_mul,Nat.mul_assoc]
theorem up_cl {l:List Nat}(hl:okL l)(s i:Nat):val (l.take i)*2^s/4294967296^i<2^s:=by
 apply Nat.div_lt_of_lt_mul
 exact Nat.mul_lt_mul_of_pos_right (zcz hl i) (Nat.pow_pos zd)
theorem zsn {l:List Nat}{s i:Nat}(h:i<l.length):(upSt l s i).set i ((val (l.take i)*2^s/4294967296^i+l[i]*2^s)%4294967296)=upSt l s (i+1):=by
 unfold upSt
 rw [zf6 _ _ _ _ (zag _ _),zib _ _ zo,up_val h,ze0]
 simp only [List.append_assoc,List.singleton_append]
 congr 3
theorem zxj {l:List Nat}{s i:Nat}(h:i<l.length):(val (l.take i)*2^s/4294967296^i+l[i]*2^s)/4294967296=val (l.take (i+1))*2^s/4294967296^(i+1):=by rw [up_val h,carry_step']
theorem zxk {l:List Nat}(hl:okL l){s:Nat}(hs:s<32):(upSt l s l.length).set l.length (val (l.take l.length)*2^s/4294967296^l.length)=digs (l.length+1) (val l*2^s):=by
 have h:=up_cl hl s l.length
 have h1:2^s≤2^31:=Nat.pow_le_pow_right zd zo
 unfold upSt
 rw [zf6 _ _ _ _ (zag _ _),zib _ _ zo,zgm,List.take_length] at *
 rw [Nat.mod_eq_of_lt zo]
 simp
theorem up_c (l:List Nat)(s:Nat)(hls:l.length≤1099511627776)(hs:s<32):Cr Tryz.prog 188 88 (slH (l.length+1) (l.length+1)) (Nums .u32 (digs (l.length+1) (val l*2^s))) [(MgA l).va,(NumA .u64 (s:Nat)).va]:=by
 refine Cr.introW Tryz.func188 rfl zk nq (.cons (zi2 _).va (.cons (zos _ _).va .nil)) (fun _ _ _ _ h=>h) (fun B w0 a hB0 O=>?_)
 have O:=zn [(0,(MgO l).va),(1,(NumA .u64 (s:Nat)).va)] [] O
 have hl:=(O.magO 0 rfl).1
 refine wp_seq<|zh [.v 4 _] [.g 0,.g 1,.o 0] O (zv rfl (za2 zbb) o0) (zz [(0,_),(1,_),(4,_)] [] fun a w O=>?_)
 refine zt<|zdh (sts:=[]) (news:=[⟨12,88,slH _ _,some 3,_,none⟩]) (sp:=[.v 9 _,.v 10 _,.v 11 _,.alc 0,.adr 5 12 .none True]) [.g 0,.g 1,.g 2] [(5,12)] [⟨5,88,slH _ _,_⟩] O (zv rfl (za1 (gq 0 rfl)) (zv rfl (zas Tryz.underlying29 (zar (vq 0 rfl))) (zv rfl (zb2 (vq 1 rfl) za3 (zb3 zo)) (oc (ze9 rfl rfl rfl zf0 (vq 2 rfl) (vq 2 rfl) zo) (oc (ob_a rfl rfl zj7) o0))))) zk zk zk ⟨⟨4,rfl⟩,trivial⟩ rfl zk (zz [(0,_),(1,_),(4,_)] [⟨5,88,slH _ _,_⟩] fun a w O=>?_)
 refine zt<|zg [none] [] [.v 6 _] [.g 0,.g 1,.g 2,.o 0] O (zv rfl (za2 (zap 0 rfl)) o0) (zz [(0,_),(1,_),(4,_),(6,_)] [⟨5,88,slH _ _,_⟩] fun a w O=>?_)
 refine zt<|wp_seq<|zg [none] [] [.v 13 _,.v 14 _,.v 15 _] [.g 0,.g 1,.g 2,.g 3,.o 0,.o 1,.o 2] O (zv rfl (za1 (gq 0 rfl)) (zv rfl (zas Tryz.underlying29 (zar (vq 0 rfl))) (zv rfl (za1 za3) o0))) (zz [(0,_),(1,_),(4,_),(6,_),(13,_),(14,_),(15,_)] [⟨5,88,slH _ _,_⟩] fun a w O=>?_)
 refine za0<|wp_block ?_
 have O:=St.sel O [0,1,3,4,5,6]
 refine wp_loop_ghost (fun n a w=>∃ i:Nat,n+i=l.length∧St B w0 41 [(0,(MgO l).va),(1,(NumA .u64 (s:Nat)).va),(6,(NumA .u32 (val (l.take i)*2^s/4294967296^i:Nat)).va),(13,(MgO l).va),(14,In (l.length:Nat)),(15,In (i:Nat))] [⟨5,88,slH (l.length+1) (l.length+1),Nums .u32 (upSt l s i)⟩] a w) (l.length) ?_ ?_
 ·exact ⟨0,by omega,by rw [zsm,show val (l.take 0)*2^s/4294967296^0=0 from by simp]; exact O⟩
 intro n a w hI
 obtain ⟨i,hn,O⟩:=hI; have hc:=up_cl hl s i; have h31:2^s≤2^31:=Nat.pow_le_pow_right zd zo
 refine wp_seq<|zg [none] [] [.v 16 _] [.g 0,.g 1,.g 2,.g 3,.g 4,.g 5,.o 0] O (zv rfl (zaz (gq 5 rfl) (gq 4 rfl)) o0) (zz [(0,_),(1,_),(6,_),(13,_),(14,_),(15,_),(16,_)] [⟨5,88,slH _ _,_⟩] fun a w O=>?_)
 refine zt<|za8 O (zm 6 rfl) (fun hb0=>?_) (fun hb0=>?_)
 ·have hi:i<l.length:=by simp at hb0; omega
  refine wp_skip<|zt<|wp_block<|wp_seq<|zg [none] [] [.v 17 _,.v 18 _,.v 19 _,.v 7 _,.v 8 _] [.g 0,.g 1,.g 2,.g 3,.g 4,.g 5,.o 3,.o 4] O (zv rfl (za1 (gq 5 rfl)) (zv rfl (zc0 zb4 (zar (gq 3 rfl)) (gq 5 rfl) zo) (zv rfl (zad (vq 1 rfl) zbd) (zv rfl (za2 (vq 0 rfl)) (zv rfl (za2 (vq 2 rfl)) o0))))) (zz [(0,_),(1,_),(6,_),(13,_),(14,_),(15,_),(7,_),(8,_)] [⟨5,88,slH _ _,_⟩] fun a w O=>?_)
  refine zt<|zg [some (8,_)] [] [.adr 20 5 .none True,.v 21 _,.v 22 _,.v 23 _,.v 24 _,.v 25 _,.v 26 _,.adr 27 5 (.some _) True,.sto 0] [.g 0,.g 1,.g 2,.g 3,.g 4,.g 5,.g 7] O (oc (ob_a rfl rfl zd3) (zv rfl (za1 (gq 6 rfl)) (zv rfl (za1 (gq 7 rfl)) (zv rfl (za1 (gq 1 rfl)) (zv rfl (zra (vq 2 rfl) (vq 3 rfl) (⟨by omega,by show (s:Int)≤32; omega⟩) (wshl)) (zv rfl (za1 (gq 2 rfl)) (zv rfl (zrd (vq 4 rfl) (vq 5 rfl) ((bor32 (Nat.mod_lt _ zd) zo).trans (congrArg _ (up_or hs hc)))) (oc (ob_a rfl rfl (zek 0 rfl zk (lz0 0 rfl) zb4 (vq 1 rfl) zo)) (oc (zcr 7 rfl rfl rfl rfl zk (fun _=>zcd _ _ _ _) (vq 6 rfl) zbd (zbu (by rw [zot zo]; omega))) o0))))))))) (zz [(0,_),(1,_),(6,_),(13,_),(14,_),(15,_),(8,_)] [⟨5,88,slH _ _,_⟩] fun a w O=>?_)
  refine za0<|zg [none] [] [.v 28 _,.v 29 _,.v 30 _,.v 31 _,.v 32 _,.v 33 _,.v 6 _] [.g 0,.g 1,.g 3,.g 4,.g 5,.o 6] O (zv rfl (za1 (gq 6 rfl)) (zv rfl (zao .u64 zk zk (vq 0 rfl) (wu64 (Nat.lt_trans (hl _ (List.getElem_mem _)) zd))) (zv rfl (za1 (gq 1 rfl)) (zv rfl (zra (vq 1 rfl) (vq 2 rfl) (⟨by omega,by show (s:Int)≤64; omega⟩) (wshl64 (hl _ (List.getElem_mem _)) hs)) (zv rfl (zh0 (vq 3 rfl) (zap 32 rfl) zd (nshr)) (zv rfl (zao .u32 zk zk (vq 4 rfl) ((wu32 (Nat.div_lt_of_lt_mul (shl_lt (hl _ (List.getElem_mem _)) hs))).trans (congrArg _ (up_div hs hc)))) (zv rfl (za2 (vq 5 rfl)) o0))))))) (zz [(0,_),(1,_),(13,_),(14,_),(15,_),(6,_)] [⟨5,88,slH _ _,_⟩] fun a w O=>?_)
  refine zab ?_
  refine za0<|zg [none] [] [.v 34 _,.v 15 _] [.g 0,.g 1,.g 2,.g 3,.g 5,.o 1] O (zv rfl (zb2 (gq 4 rfl) za3 (zb3 zo)) (zv rfl (za1 (vq 0 rfl)) o0)) (zz [(0,_),(1,_),(13,_),(14,_),(6,_),(15,_)] [⟨5,88,slH _ _,_⟩] fun a w O=>?_)
  refine za0 ?_
  have O:=St.sel O [0,1,4,2,3,5]
  rw [zsn hi,zxj hi] at O; exact ⟨n-1,by omega,i+1,by omega,O⟩
 ·obtain rfl:i=l.length:=by simp at hb0; omega
  refine wp_exit<|za7<|za7<|zam<|zt<|zg [some (5,_)] [] [.adr 35 5 .none True,.v 36 _,.v 37 _,.v 38 _,.adr 39 5 (.some _) True,.sto 0] [] O (oc (ob_a rfl rfl zd3) (zv rfl (za1 (gq 0 rfl)) (zv rfl (zas Tryz.underlying29 (zar (vq 1 rfl))) (zv rfl (za1 (gq 2 rfl)) (oc (ob_a rfl rfl (zek 0 rfl zk (lz0 0 rfl) zb4 (vq 2 rfl) zo)) (oc (zcr 4 rfl rfl rfl rfl zk (fun _=>zcd _ _ _ _) (vq 3 rfl) zbd (zbu (by rw [zot zo]; omega))) o0)))))) (zz [] [⟨5,88,slH _ _,_⟩] fun a w O=>?_)
  refine zt<|zdh (sts:=[none]) (news:=[]) (sp:=[.adr 40 5 .none True,.adr 4 5 .none True]) [] [(4,5)] [⟨4,88,slH _ _,_⟩] O (oc (ob_a rfl rfl zd3) (oc (ob_a rfl rfl (zxd 0 rfl zk)) o0)) zk zk zk ⟨⟨1,rfl⟩,trivial⟩ rfl zk (zz [] [⟨4,88,slH _ _,_⟩] fun a w O=>?_)
  refine za0<|wp_ret ?_
  rw [zxk hl hs] at O
  exact zyf rfl O hB0 (zm 0 rfl)
end Go.Proofs.YtmfgafhlaeolgaaGreatDoor
namespace Go.Proofs.YtmfgafhlaeolgaaGreatDoor
theorem kn_top {Y DD Bm dl d2 top wl u2 u1 u0:Nat}(hY:Y=wl+Bm*(u2+4294967296*(u1+4294967296*u0)))(hD:DD=dl+Bm*(d2+4294967296*top))(hdl:dl<Bm)(hd2:d2<4294967296)(h:Y<DD*4294967296):u0≤top:=by
 rcases Nat.lt_or_ge top u0 with hlt | hge
 ·exfalso
  have h1:Bm*(4294967296*(4294967296*(top+1)))≤Bm*(u2+4294967296*(u1+4294967296*u0)):=Nat.mul_le_mul_left _ zo
  have h2:DD+1≤Bm*(4294967296*(top+1)):=by
   have:Bm*(d2+4294967296*top)+Bm≤Bm*(4294967296*(top+1)):=by
    rw [← Nat.mul_succ]; exact Nat.mul_le_mul_left _ zo
   omega
  have h3:Bm*(4294967296*(4294967296*(top+1)))=4294967296*(Bm*(4294967296*(top+1))):=by
   rw [← Nat.mul_assoc,Nat.mul_comm Bm,Nat.mul_assoc]
  omega
 ·exact hge
theorem kn_lo {Y DD Bm dl d2 top wl u2 head:Nat}(hY:Y=wl+Bm*(u2+4294967296*head))(hD:DD=dl+Bm*(d2+4294967296*top))(hwl:wl<Bm):Y/DD*(top*4294967296+d2)≤head*4294967296+u2:=by
 have h1:Y/DD*DD≤Y:=Nat.div_mul_le_self _ _
 generalize Y/DD=q at *
 have h2:Bm*(q*(d2+4294967296*top))≤q*DD:=by
  rw [hD,Nat.mul_add q dl,← Nat.mul_assoc q Bm,Nat.mul_comm q Bm,Nat.mul_assoc]; omega
 have h3:Bm*(q*(d2+4294967296*top))<Bm*(u2+4294967296*head+1):=by
  rw [Nat.mul_succ]; omega
 have h4:=Nat.lt_of_mul_lt_mul_left h3
 rw [show top*4294967296+d2=d2+4294967296*top by omega]
 omega
theorem kn_hi {Y DD Bm dl d2 top wl u2 head g:Nat}(hY:Y=wl+Bm*(u2+4294967296*head))(hD:DD=dl+Bm*(d2+4294967296*top))(hdl:dl<Bm)(ht:0<top)(hg:g<4294967296)(h:g*(top*4294967296+d2)≤head*4294967296+u2):g*DD≤Y+DD:=by
 have h1:Bm*(g*(d2+4294967296*top))≤Bm*(u2+4294967296*head):=Nat.mul_le_mul_left _ (by rw [show d2+4294967296*top=top*4294967296+d2 by omega]; omega)
 have h2:g*DD≤g*Bm+Bm*(g*(d2+4294967296*top)):=by
  rw [hD,Nat.mul_add g dl,← Nat.mul_assoc g Bm,Nat.mul_comm g Bm,Nat.mul_assoc]
  have:g*dl≤Bm*g:=by rw [Nat.mul_comm]; exact Nat.mul_le_mul_right _ zo
  omega
 have h3:g*Bm≤Bm*(d2+4294967296*top):=by
  rw [Nat.mul_comm]; exact Nat.mul_le_mul_left _ zo
 omega
theorem kn_pm {Y DD g:Nat}(h0:0<DD)(h1:Y/DD≤g)(h2:g*DD≤Y+DD):g=Y/DD∨g=Y/DD+1:=by
 have h3:Y<(Y/DD+1)*DD:=by rw [Nat.mul_comm]; exact Nat.lt_mul_div_succ Y h0
 have h4:g*DD<(Y/DD+2)*DD:=by rw [show Y/DD+2=(Y/DD+1)+1 from rfl,Nat.succ_mul (Y/DD+1)]; omega
 have:=Nat.lt_of_mul_lt_mul_right h4
 omega
def lsB (W D:List Nat)(q:Nat):Nat→Nat
 | 0=>0
 | k+1=>(lsB W D q k+q*D.getD k 0)/4294967296+if W.getD k 0<(lsB W D q k+q*D.getD k 0)%4294967296 then 1 else 0
def lsO (W D:List Nat)(q:Nat):Nat→List Nat
 | 0=>[]
 | k+1=>lsO W D q k++[(W.getD k 0+4294967296-(lsB W D q k+q*D.getD k 0)%4294967296)%4294967296]
theorem zet (W D:List Nat)(q k:Nat):(lsO W D q k).length=k:=by
 induction k with
 | zero=>rfl
 | succ k ih=>simp [lsO,ih]
theorem lsO_ok (W D:List Nat)(q k:Nat):okL (lsO W D q k):=by
 induction k with
 | zero=>exact zd1
 | succ k ih=>exact okL_append.2 ⟨ih,okL_cons.2 ⟨Nat.mod_lt _ zo,zd1⟩⟩
theorem zij {l:List Nat}(h:okL l)(k:Nat):l.getD k 0<4294967296:=by
 by_cases hk:k<l.length
 ·simp only [List.getD_eq_getElem?_getD,List.getElem?_eq_getElem hk,Option.getD_some]; exact h _ (List.getElem_mem hk)
 ·simp [List.getD_eq_getElem?_getD,List.getElem?_eq_none (by omega:l.length≤k)]
theorem zv9 {W D:List Nat}{q:Nat}(hD:okL D)(k:Nat):lsB W D q k≤q:=by
 induction k with
 | zero=>exact Nat.zero_le _
 | succ k ih =>
  unfold lsB
  have h1:=zij hD k
  generalize D.getD k 0=v at *
  generalize lsB W D q k=b at *
  generalize W.getD k 0=u at *
  have h2:q*v≤q*4294967295:=Nat.mul_le_mul_left _ zo
  generalize q*v=p at *
  split <;> omega
theorem ls_val {W D:List Nat}{q k:Nat}(hW:okL W)(hkW:k≤W.length)(hkD:k≤D.length):val (lsO W D q k)+q*val (D.take k)=val (W.take k)+4294967296^k*lsB W D q k:=by
 induction k with
 | zero=>simp [lsO,lsB]
 | succ k ih =>
  have ih:=ih zo zo
  have h1:=zij hW k
  rw [lsO,zhk,zet,zbp (by omega:k<D.length),zbp (by omega:k<W.length),lsB,Nat.mul_add,Nat.pow_succ]
  have e1:D[k]'zo=D.getD k 0:=by simp [List.getD_eq_getElem?_getD,List.getElem?_eq_getElem (by omega:k<D.length)]
  have e2:W[k]'zo=W.getD k 0:=by simp [List.getD_eq_getElem?_getD,List.getElem?_eq_getElem (by omega:k<W.length)]
  rw [e1,e2]
  generalize hv:D.getD k 0=v at *
  generalize lsB W D q k=b at *
  generalize W.getD k 0=u at *
  have e3:q*(4294967296^k*v)=4294967296^k*(q*v):=by rw [← Nat.mul_assoc,Nat.mul_comm q,Nat.mul_assoc]
  rw [e3]
  generalize q*v=p at *
  generalize 4294967296^k=E at *
  have e4:E*((u+4294967296-(b+p)%4294967296)%4294967296)+E*p+E*b=E*u+E*4294967296*((b+p)/4294967296+if u<(b+p)%4294967296 then 1 else 0):=by
   rw [← Nat.mul_add,← Nat.mul_add,Nat.mul_assoc,← Nat.mul_add]
   congr 1
   split <;> omega
  omega
theorem ls_end {W D:List Nat}{q m:Nat}(hW:okL W)(hD:okL D)(hm:D.length=m)(hlW:W.length=m+1)(hq:q<4294967296) :
  decide (W.getD m 0<lsB W D q m)=decide (val W<q*val D) ∧
  lsO W D q m++[(W.getD m 0+4294967296-lsB W D q m)%4294967296]=digs (m+1) (val W+(if val W<q*val D then 4294967296^(m+1) else 0)-q*val D):=by
 have h1:=ls_val (q:=q) hW (by omega:m≤W.length) (by omega:m≤D.length)
 have h2:=zv9 (W:=W) (q:=q) hD m
 have h3:=zij hW m
 have h4:val W=val (W.take m)+4294967296^m*W.getD m 0:=by
  have:=zbp (l:=W) (i:=m) zo
  rw [List.take_of_length_le zo] at this
  rw [this]
  simp [List.getD_eq_getElem?_getD,List.getElem?_eq_getElem (by omega:m<W.length)]
 have h5:D.take m=D:=List.take_of_length_le zo
 rw [h5] at h1
 have ho:okL (lsO W D q m++[(W.getD m 0+4294967296-lsB W D q m)%4294967296]):=okL_append.2 ⟨lsO_ok _ _ _ _,okL_cons.2 ⟨Nat.mod_lt _ zo,zd1⟩⟩
 have hv:=zhk (lsO W D q m) ((W.getD m 0+4294967296-lsB W D q m)%4294967296)
 have hlt:=zf4 ho
 simp only [List.length_append,zet,List.length_cons,List.length_nil,Nat.zero_add] at hlt hv
 have hlen:(lsO W D q m++[(W.getD m 0+4294967296-lsB W D q m)%4294967296]).length=m+1:=by simp [zet]
 generalize lsO W D q m=o at *
 generalize lsB W D q m=b at *
 generalize W.getD m 0=u at *
 generalize hS:q*val D=S at *
 rw [Nat.pow_succ] at *
 have key:val (o++[(u+4294967296-b)%4294967296])+S=val W+if u<b then 4294967296^m*4294967296 else 0:=by
  rw [hv,h4]
  have:4294967296^m*((u+4294967296-b)%4294967296)+4294967296^m*b=4294967296^m*u+if u<b then 4294967296^m*4294967296 else 0:=by
   rw [← Nat.mul_add]
   split
   ·rw [← Nat.mul_add]; congr 1; omega
   ·rw [Nat.add_zero]; congr 1; omega
  omega
 have hc:(u<b)↔(val W<S):=by
  constructor
  ·intro h; rw [if_pos h] at key; omega
  ·intro h; apply Decidable.byContradiction; intro hn; rw [if_neg hn] at key; omega
 refine ⟨by rw [decide_eq_decide]; exact hc,ziv ho hlen ?_⟩
 by_cases h:u<b
 ·rw [if_pos h] at key; rw [if_pos (hc.1 h)]; omega
 ·rw [if_neg h] at key; rw [if_neg (fun hh=>h (hc.2 hh))]; omega
def spl (l:List Nat)(o:Nat)(c:List Nat):List Nat:=l.take o++c++l.drop (o+c.length)
theorem zne (l:List Nat)(o:Nat):spl l o []=l:=by simp [spl]
theorem zgx {l:List Nat}{o:Nat}{c:List Nat}(h:o+c.length≤l.length):(spl l o c).length=l.length:=by simp [spl]; omega
theorem zi7 {l:List Nat}{o k x:Nat}{c:List Nat}(hk:c.length=k)(h:o+k<l.length):(spl l o c).set (o+k) x=spl l o (c++[x]):=by
 subst hk
 unfold spl
 rw [List.append_assoc,List.set_append_right _ _ (by simp; omega),List.length_take,Nat.min_eq_left zo,Nat.add_sub_cancel_left,List.set_append_right _ _ (Nat.le_refl _),Nat.sub_self,
  List.drop_eq_getElem_cons h,List.set_cons_zero]
 simp [List.append_assoc,Nat.add_assoc]
theorem zi8 {l:List Nat}{o j:Nat}{c:List Nat}(h:o+c.length≤j)(hj:j<l.length):(spl l o c)[j]?=some (l.getD j 0):=by
 unfold spl
 rw [List.getElem?_append_right (by simp; omega),List.getElem?_drop]
 simp only [List.length_append,List.length_take]
 rw [Nat.min_eq_left zo,show o+c.length+(j-(o+c.length))=j by omega,List.getElem?_eq_getElem hj]
 simp [List.getD_eq_getElem?_getD,List.getElem?_eq_getElem hj]
theorem spl_spl {l:List Nat}{o:Nat}{c c':List Nat}(h:c.length=c'.length)(ho:o+c.length≤l.length):spl (spl l o c) o c'=spl l o c':=by
 unfold spl
 rw [← h,List.take_append_of_le_length (by simp; omega),List.take_append_of_le_length (by simp; omega),List.take_take,Nat.min_self,List.drop_append_of_le_length (by simp; omega),List.drop_of_length_le (by simp; omega)]
 simp
theorem spl_win {l:List Nat}{o:Nat}{c:List Nat}(h:o+c.length≤l.length):((spl l o c).drop o).take c.length=c:=by
 unfold spl
 rw [List.append_assoc,List.drop_append_of_le_length (by simp; omega),List.drop_of_length_le (by simp; omega),List.nil_append,List.take_append_of_le_length (Nat.le_refl _),List.take_length]
theorem zhj {l:List Nat}{o n k:Nat}(h:k<n):((l.drop o).take n).getD k 0=l.getD (o+k) 0:=by
 simp [List.getD_eq_getElem?_getD,List.getElem?_take_of_lt h]
theorem getD_some {l:List Nat}{k:Nat}(h:k<l.length):l[k]?=some (l.getD k 0):=by
 simp [List.getD_eq_getElem?_getD,List.getElem?_eq_getElem h]
theorem zlz {l:List Nat}{m k:Nat}(h:k<m):(l.take m).getD k 0=l.getD k 0:=by
 simp [List.getD_eq_getElem?_getD,List.getElem?_take_of_lt h]
theorem zkp {l:List Nat}(h:okL l)(n:Nat):okL (l.take n):=fun x hx=>h x (List.mem_of_mem_take hx)
theorem zyx {l:List Nat}(h:okL l)(n:Nat):okL (l.drop n):=fun x hx=>h x (List.mem_of_mem_drop hx)
theorem zhz (a b m:Nat):digs (a+b) m=digs a m++digs b (m/4294967296^a):=by
 induction a generalizing m with
 | zero=>simp [digs]
 | succ a ih=>rw [show a+1+b=a+b+1 by omega,digs,digs,ih,Nat.div_div_eq_div_mul,Nat.pow_succ,Nat.mul_comm (4294967296^a)]; rfl
theorem ziw {a n m:Nat}(h:a≤n):(digs n m).take a=digs a m:=by
 obtain ⟨b,rfl⟩:∃ b,n=a+b:=⟨n-a,by omega⟩
 rw [zhz,List.take_append_of_le_length (by rw [zag]; omega),List.take_of_length_le (by rw [zag]; omega)]
theorem zmz {a n m:Nat}(h:a≤n):(digs n m).drop a=digs (n-a) (m/4294967296^a):=by
 obtain ⟨b,rfl⟩:∃ b,n=a+b:=⟨n-a,by omega⟩
 rw [zhz,List.drop_append_of_le_length (by rw [zag]; omega),List.drop_of_length_le (by rw [zag]; omega),show a+b-a=b by omega]; rfl
theorem zix {n m k:Nat}(h:k<n):(digs n m).getD k 0=m/4294967296^k%4294967296:=by
 induction n generalizing m k with
 | zero=>omega
 | succ n ih =>
  cases k with
  | zero=>simp [digs]
  | succ k=>rw [digs,List.getD_cons_succ,ih zo,Nat.div_div_eq_div_mul,Nat.pow_succ,Nat.mul_comm (4294967296^k)]
theorem digs_spl {n V i k Y:Nat}(hi:i+k≤n)(hV:V<4294967296^(i+k))(hY:Y<4294967296^k):spl (digs n V) i (digs k Y)=digs n (V%4294967296^i+4294967296^i*Y):=by
 obtain ⟨r,rfl⟩:∃ r,n=i+k+r:=⟨n-(i+k),by omega⟩
 have hp:0<4294967296^i:=Nat.pow_pos zo
 unfold spl
 rw [zag,ziw zo,zmz zo,zhz (i+k),zhz i]
 have e1:(V%4294967296^i+4294967296^i*Y)/4294967296^i=Y:=by
  rw [Nat.add_mul_div_left _ _ hp,Nat.div_eq_of_lt (Nat.mod_lt _ hp),Nat.zero_add]
 have e2:(V%4294967296^i+4294967296^i*Y)/4294967296^(i+k)=V/4294967296^(i+k):=by
  rw [Nat.pow_add,← Nat.div_div_eq_div_mul,e1,Nat.div_eq_of_lt hY,← Nat.pow_add,Nat.div_eq_of_lt hV]
 rw [e1,e2,show i+k+r-(i+k)=r by omega]
 congr 2
 exact zfq (by rw [Nat.add_mul_mod_self_left,Nat.mod_mod])
def bl (n:Nat):Nat:=if n=0 then 0 else n.log2+1
theorem bl_succ {n:Nat}(h:n≠0):bl n=bl (n/2)+1:=by
 unfold bl
 rw [if_neg h,Nat.log2_def]
 by_cases h2:2≤n
 ·rw [if_pos h2,if_neg zo]
 ·rw [if_neg h2,if_pos zo]
theorem zx7 (n k:Nat)(h:2^k≤n):bl n=bl (n/2^k)+k:=by
 induction k with
 | zero=>simp
 | succ k ih =>
  rw [Nat.pow_succ] at h
  have hp:0<2^k:=Nat.pow_pos zo
  rw [ih zo,Nat.pow_succ,← Nat.div_div_eq_div_mul,bl_succ (n:=n/2^k)]
  ·omega
  ·have:0<n/2^k:=Nat.div_pos zo hp
   omega
theorem bl_lt (n:Nat):n<2^bl n:=by
 unfold bl
 split
 ·omega
 ·exact Nat.lt_log2_self
theorem bl_le {n:Nat}(h:n≠0):2^(bl n-1)≤n:=by
 unfold bl
 rw [if_neg h,Nat.add_sub_cancel]
 exact Nat.log2_self_le h
theorem zf2 {n k:Nat}(h:n<2^k):bl n≤k:=by
 by_cases h0:n=0
 ·subst h0; simp [bl]
 ·have h1:=bl_le h0
  apply Decidable.byContradiction
  intro hc
  have:2^k≤2^(bl n-1):=Nat.pow_le_pow_right zo zo
  omega
theorem bl_pos {n:Nat}(h:n≠0):0<bl n:=by unfold bl; rw [if_neg h]; omega
theorem zx6 {n:Nat}(h:n≠0)(h2:n<4294967296):2147483648≤n*2^(32-bl n)∧n*2^(32-bl n)<4294967296∧32-bl n<32:=by
 have h1:=bl_le h
 have h3:=bl_lt n
 have h4:=bl_pos h
 have h5:bl n≤32:=zf2 (k:=32) zo
 refine ⟨?_,?_,by omega⟩
 ·have:2^(bl n-1)*2^(32-bl n)≤n*2^(32-bl n):=Nat.mul_le_mul_right _ h1
  rw [← Nat.pow_add,show bl n-1+(32-bl n)=31 by omega] at this
  omega
 ·have:n*2^(32-bl n)<2^bl n*2^(32-bl n):=Nat.mul_lt_mul_of_pos_right h3 (Nat.pow_pos zo)
  rw [← Nat.pow_add,show bl n+(32-bl n)=32 by omega] at this
  omega
theorem dv_Y (X DD i:Nat)(h:0<DD):X%(DD*4294967296^(i+1))/4294967296^i<DD*4294967296:=by
 apply Nat.div_lt_of_lt_mul
 have h1:X%(DD*4294967296^(i+1))<DD*4294967296^(i+1):=Nat.mod_lt _ (Nat.mul_pos h (Nat.pow_pos zo))
 rw [Nat.pow_succ,← Nat.mul_assoc,Nat.mul_right_comm,Nat.mul_comm] at h1
 rw [Nat.pow_succ,← Nat.mul_assoc,Nat.mul_right_comm,Nat.mul_comm (DD*4294967296)]
 exact h1
theorem dv_q (X DD i:Nat):X%(DD*4294967296^(i+1))/4294967296^i/DD=X/(DD*4294967296^i)%4294967296:=by
 rw [Nat.div_div_eq_div_mul,Nat.mul_comm _ DD,Nat.pow_succ,← Nat.mul_assoc,Nat.mod_mul_right_div_self]
theorem dv_r (X DD i:Nat):X%(DD*4294967296^(i+1))%4294967296^i+4294967296^i*(X%(DD*4294967296^(i+1))/4294967296^i%DD)=X%(DD*4294967296^i):=by
 rw [← Nat.mod_mul,Nat.mul_comm _ DD,Nat.pow_succ,← Nat.mul_assoc,Nat.mod_mul_right_mod]
theorem dec2 {D k:Nat}(h:D<4294967296^(k+2)):D=D%4294967296^k+4294967296^k*(D/4294967296^k%4294967296+4294967296*(D/4294967296^(k+1)%4294967296)):=by
 have h1:D/4294967296^(k+1)<4294967296:=Nat.div_lt_of_lt_mul h
 rw [Nat.mod_eq_of_lt h1,Nat.pow_succ,← Nat.div_div_eq_div_mul,Nat.mod_add_div,Nat.mod_add_div]
theorem dec3 {Y k:Nat}(h:Y<4294967296^(k+3)):Y=Y%4294967296^k+4294967296^k*(Y/4294967296^k%4294967296+4294967296*(Y/4294967296^(k+1)%4294967296+4294967296*(Y/4294967296^(k+2)%4294967296))):=by
 have h1:Y/4294967296^(k+2)<4294967296:=Nat.div_lt_of_lt_mul h
 rw [Nat.mod_eq_of_lt h1,Nat.pow_succ _ (k+1),← Nat.div_div_eq_div_mul Y (4294967296^(k+1)),Nat.mod_add_div (Y/4294967296^(k+1)),Nat.pow_succ _ k,← Nat.div_div_eq_div_mul,Nat.mod_add_div,Nat.mod_add_div]
structure Dv (n k i V DD:Nat):Prop where
 hn:i+(k+3)≤n
 d1:4294967296^(k+1)*2147483648≤DD
 d2:DD<4294967296^(k+2)
 y:V/4294967296^i<DD*4294967296
section
variable {n k i V DD:Nat} (h:Dv n k i V DD)
include h
theorem Dv.pos:0<DD:=Nat.lt_of_lt_of_le (Nat.mul_pos (Nat.pow_pos zo) zo) h.d1
theorem Dv.y3:V/4294967296^i<4294967296^(k+3):=by
 have h1:=h.y
 have h2:=Nat.mul_le_mul_right 4294967296 (Nat.le_of_lt h.d2)
 have h3:4294967296^(k+3)=4294967296^(k+2)*4294967296:=Nat.pow_succ _ (k+2)
 rw [h3]
 exact Nat.lt_of_lt_of_le h1 h2
theorem Dv.v3:V<4294967296^(i+(k+3)):=by
 have h1:=h.y3
 rw [Nat.div_lt_iff_lt_mul (Nat.pow_pos zo),Nat.mul_comm,← Nat.pow_add] at h1
 exact h1
theorem Dv.u (j:Nat)(hj:j<k+3):(digs n V).getD (i+j) 0=V/4294967296^i/4294967296^j%4294967296:=by
 rw [zix (by have:=h.hn; omega),Nat.pow_add,Nat.div_div_eq_div_mul]
theorem Dv.win:((digs n V).drop i).take (k+3)=digs (k+3) (V/4294967296^i):=by
 rw [zmz (by have:=h.hn; omega),ziw (by have:=h.hn; omega)]
theorem Dv.winv:val (((digs n V).drop i).take (k+3))=V/4294967296^i:=by rw [h.win,zdu,Nat.mod_eq_of_lt h.y3]
theorem Dv.dd:val ((digs (k+3) DD).take (k+2))=DD:=by rw [ziw zo,zdu,Nat.mod_eq_of_lt h.d2]
theorem Dv.top:2147483648≤DD/4294967296^(k+1)%4294967296:=by
 have h1:DD/4294967296^(k+1)<4294967296:=Nat.div_lt_of_lt_mul h.d2
 rw [Nat.mod_eq_of_lt h1]
 rw [Nat.le_div_iff_mul_le (Nat.pow_pos zo),Nat.mul_comm]
 exact h.d1
end
structure Gs (k Y DD g r:Nat):Prop where
 eq:g*(DD/4294967296^(k+1)%4294967296)+r=Y/4294967296^(k+2)%4294967296*4294967296+Y/4294967296^(k+1)%4294967296
 ge:Y/DD≤g
 r:r<4294967296
theorem Gs.next {k Y DD g r:Nat}(hg:Gs k Y DD g r)(hlt:Y/DD<g)(hr:r+DD/4294967296^(k+1)%4294967296<4294967296):Gs k Y DD (g-1) (r+DD/4294967296^(k+1)%4294967296):=by
 refine ⟨?_,Nat.le_sub_one_of_lt hlt,hr⟩
 have h1:=hg.eq
 obtain ⟨g',rfl⟩:∃ g',g=g'+1:=⟨g-1,(Nat.sub_add_cancel (Nat.lt_of_le_of_lt (Nat.zero_le _) hlt)).symm⟩
 rw [Nat.add_sub_cancel]
 rw [Nat.succ_mul] at h1
 omega
section
variable {n k i V DD:Nat} (h:Dv n k i V DD)
include h
theorem Dv.lo:V/4294967296^i/DD*(DD/4294967296^(k+1)%4294967296*4294967296+DD/4294967296^k%4294967296) ≤
  (V/4294967296^i/4294967296^(k+2)%4294967296*4294967296+V/4294967296^i/4294967296^(k+1)%4294967296)*4294967296+V/4294967296^i/4294967296^k%4294967296:=by
 have e1:=dec3 h.y3
 have e2:=dec2 h.d2
 refine kn_lo (wl:=V/4294967296^i%4294967296^k) (dl:=DD%4294967296^k) (Bm:=4294967296^k) ?_ e2 (Nat.mod_lt _ (Nat.pow_pos zo))
 refine e1.trans ?_
 congr 3
 omega
theorem Dv.u0:V/4294967296^i/4294967296^(k+2)%4294967296≤DD/4294967296^(k+1)%4294967296 :=
 kn_top (dec3 h.y3) (dec2 h.d2) (Nat.mod_lt _ (Nat.pow_pos zo)) (Nat.mod_lt _ zo) h.y
theorem Dv.gs0 {head top:Nat}(hh:head=V/4294967296^i/4294967296^(k+2)%4294967296*4294967296+V/4294967296^i/4294967296^(k+1)%4294967296)(ht:top=DD/4294967296^(k+1)%4294967296) :
  Gs k (V/4294967296^i) DD (head/top) (head%top):=by
 have htop:=h.top
 have hlo:=h.lo
 have e:=Nat.div_add_mod' head top
 have h3:head%top<top:=Nat.mod_lt _ zo
 subst hh ht
 refine ⟨e,?_,by omega⟩
 rw [Nat.le_div_iff_mul_le zo]
 generalize V/4294967296^i/DD=q at *
 generalize DD/4294967296^(k+1)%4294967296=t at *
 rw [Nat.mul_add,← Nat.mul_assoc] at hlo
 have:V/4294967296^i/4294967296^k%4294967296<4294967296:=Nat.mod_lt _ zo
 generalize q*t=p at *
 omega
variable {g r:Nat} (hg:Gs k (V/4294967296^i) DD g r)
include hg
theorem Dv.gmax:g≤4294967297:=by
 have h1:=hg.eq
 have h2:=h.u0
 have h3:=h.top
 have h4:V/4294967296^i/4294967296^(k+1)%4294967296<4294967296:=Nat.mod_lt _ zo
 generalize DD/4294967296^(k+1)%4294967296=t at *
 apply Decidable.byContradiction
 intro hc
 have:4294967298*t≤g*t:=Nat.mul_le_mul_right _ zo
 omega
theorem Dv.down (hb:4294967296≤g∨r*4294967296+V/4294967296^i/4294967296^k%4294967296<g*(DD/4294967296^k%4294967296)):V/4294967296^i/DD<g:=by
 rcases hb with hb | hb
 ·have:V/4294967296^i/DD<4294967296:=Nat.div_lt_of_lt_mul h.y
  omega
 ·have hlo:=h.lo
  have h1:=hg.eq
  generalize V/4294967296^i/DD=q at *
  generalize DD/4294967296^(k+1)%4294967296=t at *
  generalize DD/4294967296^k%4294967296=d at *
  have:q*(t*4294967296+d)<g*(t*4294967296+d):=by
   rw [Nat.mul_add g,← Nat.mul_assoc]
   generalize g*t=p at *
   generalize g*d=s at *
   omega
  exact Nat.lt_of_mul_lt_mul_right this
theorem Dv.end1 (hb:g<4294967296)(hr:g*(DD/4294967296^k%4294967296)≤r*4294967296+V/4294967296^i/4294967296^k%4294967296):g=V/4294967296^i/DD∨g=V/4294967296^i/DD+1:=by
 refine kn_pm h.pos hg.ge ?_
 have h1:=hg.eq
 refine kn_hi (wl:=V/4294967296^i%4294967296^k) (dl:=DD%4294967296^k) (Bm:=4294967296^k) (head:=V/4294967296^i/4294967296^(k+2)%4294967296*4294967296+V/4294967296^i/4294967296^(k+1)%4294967296) (u2:=V/4294967296^i/4294967296^k%4294967296) ?_ (dec2 h.d2) (Nat.mod_lt _ (Nat.pow_pos zo)) (by have:=h.top; omega) hb ?_
 ·refine (dec3 h.y3).trans ?_
  congr 3
  omega
 ·rw [Nat.mul_add,← Nat.mul_assoc]
  generalize g*(DD/4294967296^(k+1)%4294967296)=p at *
  omega
theorem Dv.end2 (hlt:V/4294967296^i/DD<g)(hr:4294967296≤r+DD/4294967296^(k+1)%4294967296):g-1<4294967296∧(g-1=V/4294967296^i/DD∨g-1=V/4294967296^i/DD+1):=by
 have h1:=hg.eq
 have h2:=h.u0
 have h3:=h.top
 have h4:V/4294967296^i/4294967296^(k+1)%4294967296<4294967296:=Nat.mod_lt _ zo
 obtain ⟨g',rfl⟩:∃ g',g=g'+1:=⟨g-1,(Nat.sub_add_cancel (Nat.lt_of_le_of_lt (Nat.zero_le _) hlt)).symm⟩
 rw [Nat.add_sub_cancel]
 have hd:DD/4294967296^k%4294967296<4294967296:=Nat.mod_lt _ zo
 have hg':g'<4294967296:=by
  apply Decidable.byContradiction
  intro hc
  generalize DD/4294967296^(k+1)%4294967296=t at *
  have:4294967296*t≤g'*t:=Nat.mul_le_mul_right _ zo
  rw [Nat.succ_mul] at h1
  omega
 refine ⟨hg',kn_pm h.pos (Nat.le_of_lt_succ hlt) ?_⟩
 refine kn_hi (wl:=V/4294967296^i%4294967296^k) (dl:=DD%4294967296^k) (Bm:=4294967296^k) (head:=V/4294967296^i/4294967296^(k+2)%4294967296*4294967296+V/4294967296^i/4294967296^(k+1)%4294967296) (u2:=V/4294967296^i/4294967296^k%4294967296) ?_ (dec2 h.d2) (Nat.mod_lt _ (Nat.pow_pos zo)) zo hg' ?_
 ·refine (dec3 h.y3).trans ?_
  congr 3
  omega
 ·rw [Nat.mul_add,← Nat.mul_assoc]
  rw [Nat.succ_mul] at h1
  have:g'*(DD/4294967296^k%4294967296)≤4294967295*4294967295:=Nat.mul_le_mul zo zo
  generalize g'*(DD/4294967296^(k+1)%4294967296)=p at *
  omega
end
def dvL (n X DD i:Nat):List Nat:=digs n (X%(DD*4294967296^i))
def dvQ (lq X DD i:Nat):List Nat:=List.replicate i 0++digs (lq-i) (X/(DD*4294967296^i))
theorem zwm {lq X DD i:Nat}(h:i≤lq):(dvQ lq X DD i).length=lq:=by simp [dvQ,zag]; omega
theorem zqh {lq X DD i:Nat}(h:i<lq):(dvQ lq X DD (i+1)).set i (X/(DD*4294967296^i)%4294967296)=dvQ lq X DD i:=by
 unfold dvQ
 rw [List.replicate_succ',List.append_assoc,List.set_append_right _ _ (by simp),List.length_replicate,Nat.sub_self,show lq-i=(lq-(i+1))+1 by omega,digs,Nat.div_div_eq_div_mul,Nat.mul_assoc,← Nat.pow_succ]
 rfl
theorem dvQ_top {lq X DD:Nat}:dvQ lq X DD lq=List.replicate lq 0:=by simp [dvQ,digs]
theorem dvL_top {n lq X DD:Nat}(h:X<DD*4294967296^lq):dvL n X DD lq=digs n X:=by rw [dvL,Nat.mod_eq_of_lt h]
theorem zv0 (Y D:Nat):Y%D=Y-Y/D*D:=by
 have:=Nat.mod_add_div Y D
 rw [Nat.mul_comm (Y/D)]
 omega
theorem lt_ds {Y D:Nat}(h:0<D):Y<(Y/D+1)*D:=by rw [Nat.mul_comm]; exact Nat.lt_mul_div_succ Y h
theorem dv_mk {n k i X DD:Nat}(hn:i+(k+3)≤n)(d1:4294967296^(k+1)*2147483648≤DD)(d2:DD<4294967296^(k+2)):Dv n k i (X%(DD*4294967296^(i+1))) DD :=
 ⟨hn,d1,d2,dv_Y X DD i (Nat.lt_of_lt_of_le (Nat.mul_pos (Nat.pow_pos zo) zo) d1)⟩
section
variable {n k i X DD:Nat} (h:Dv n k i (X%(DD*4294967296^(i+1))) DD)
include h
theorem Dv.fin1 {Z:Nat}(hZ:digs (k+3) Z=digs (k+3) (X%(DD*4294967296^(i+1))/4294967296^i%DD)):spl (dvL n X DD (i+1)) i (digs (k+3) Z)=dvL n X DD i:=by
 rw [hZ,dvL,dvL,digs_spl h.hn h.v3 (Nat.lt_trans (Nat.mod_lt _ h.pos) (Nat.lt_trans h.d2 (Nat.pow_lt_pow_right zo zo))),dv_r]
omit h in
theorem Dv.no:¬ (X%(DD*4294967296^(i+1))/4294967296^i<X%(DD*4294967296^(i+1))/4294967296^i/DD*DD):=by
 have:=Nat.div_mul_le_self (X%(DD*4294967296^(i+1))/4294967296^i) DD
 omega
theorem Dv.yes:X%(DD*4294967296^(i+1))/4294967296^i<(X%(DD*4294967296^(i+1))/4294967296^i/DD+1)*DD:=by
 exact lt_ds h.pos
theorem Dv.ls {g:Nat}:(val (((dvL n X DD (i+1)).drop i).take (k+3))<g*val ((digs (k+3) DD).take (k+2)))↔X%(DD*4294967296^(i+1))/4294967296^i<g*DD:=by
 rw [dvL,h.winv,h.dd]
theorem Dv.end_no {g:Nat}(hg:g=X%(DD*4294967296^(i+1))/4294967296^i/DD) :
  spl (dvL n X DD (i+1)) i (digs (k+3) (val (((dvL n X DD (i+1)).drop i).take (k+3))+(if val (((dvL n X DD (i+1)).drop i).take (k+3))<g*val ((digs (k+3) DD).take (k+2)) then 4294967296^(k+3) else 0)-g*val ((digs (k+3) DD).take (k+2))))=dvL n X DD i:=by
 apply h.fin1
 rw [if_neg (by rw [h.ls,hg]; exact Dv.no),h.dd]
 rw [dvL,h.winv,hg]
 rw [zv0 _ DD]
 simp only [Nat.add_zero]
theorem Dv.end_yes {g:Nat}(hg:g=X%(DD*4294967296^(i+1))/4294967296^i/DD+1){M W:List Nat}
  (hM:M=spl (dvL n X DD (i+1)) i (digs (k+3) (val (((dvL n X DD (i+1)).drop i).take (k+3))+(if val (((dvL n X DD (i+1)).drop i).take (k+3))<g*val ((digs (k+3) DD).take (k+2)) then 4294967296^(k+3) else 0)-g*val ((digs (k+3) DD).take (k+2)))))
  (hW:W=(M.drop i).take (k+3)):M.length=n∧W.length=k+3∧okL W ∧
  spl M i (digs (k+2) (sumTo W ((digs (k+3) DD).take (k+2)) (k+2))++[(W.getD (k+2) 0+sumTo W ((digs (k+3) DD).take (k+2)) (k+2)/4294967296^(k+2))%4294967296])=dvL n X DD i:=by
 have hlen:(dvL n X DD (i+1)).length=n:=zag _ _
 have hMl:M.length=n:=by rw [hM,zgx (by rw [zag,hlen]; exact h.hn),hlen]
 have hWl:W.length=k+3:=by rw [hW]; have:=h.hn; simp; omega
 have hy:=h.yes
 have hWd:W=digs (k+3) (X%(DD*4294967296^(i+1))/4294967296^i+4294967296^(k+3)-g*DD):=by
  have:=spl_win (l:=dvL n X DD (i+1)) (o:=i) (c:=digs (k+3) (val (((dvL n X DD (i+1)).drop i).take (k+3))+(if val (((dvL n X DD (i+1)).drop i).take (k+3))<g*val ((digs (k+3) DD).take (k+2)) then 4294967296^(k+3) else 0)-g*val ((digs (k+3) DD).take (k+2)))) (by rw [zag,hlen]; exact h.hn)
  rw [← hM,zag,← hW] at this
  rw [this,if_pos (by rw [h.ls,hg]; exact hy),h.dd]
  rw [dvL,h.winv]
 have hok:okL W:=by rw [hWd]; exact zc1 _ _
 refine ⟨hMl,hWl,hok,?_⟩
 have hDl:((digs (k+3) DD).take (k+2)).length=k+2:=by simp [zag]
 have e1:sumTo W ((digs (k+3) DD).take (k+2)) (k+2)+4294967296^(k+2)*W.getD (k+2) 0=val W+DD:=by
  unfold sumTo
  rw [List.take_of_length_le (l:=(digs (k+3) DD).take (k+2)) zo,h.dd]
  have:=zbp (l:=W) (i:=k+2) zo
  rw [List.take_of_length_le zo] at this
  rw [this,show W.getD (k+2) 0=W[k+2]'zo from by simp [List.getD_eq_getElem?_getD,List.getElem?_eq_getElem (by omega:k+2<W.length)]]
  omega
 have e2:digs (k+2) (sumTo W ((digs (k+3) DD).take (k+2)) (k+2))++[(W.getD (k+2) 0+sumTo W ((digs (k+3) DD).take (k+2)) (k+2)/4294967296^(k+2))%4294967296]=digs (k+3) (val W+DD):=by
  rw [← e1,ze0,Nat.add_comm (W.getD (k+2) 0)]
 have hlt:X%(DD*4294967296^(i+1))/4294967296^i/DD*DD≤X%(DD*4294967296^(i+1))/4294967296^i:=Nat.div_mul_le_self _ _
 have hd:=h.d2
 have hp:4294967296^(k+2)≤4294967296^(k+3):=Nat.pow_le_pow_right zo zo
 rw [e2,hM,spl_spl (by simp [zag]) (by rw [zag,hlen]; exact h.hn)]
 apply h.fin1
 rw [hWd,zdu]
 apply zfq
 rw [hg,Nat.succ_mul] at *
 have hm:X%(DD*4294967296^(i+1))/4294967296^i%DD=X%(DD*4294967296^(i+1))/4294967296^i-X%(DD*4294967296^(i+1))/4294967296^i/DD*DD:=zv0 _ _
 rw [hm]
 have hz:=h.y3
 generalize X%(DD*4294967296^(i+1))/4294967296^i/DD*DD=p at *
 generalize X%(DD*4294967296^(i+1))/4294967296^i=Y at *
 generalize 4294967296^(k+3)=E at *
 rw [Nat.mod_eq_of_lt (show Y+E-(p+DD)<E by omega),show Y+E-(p+DD)+DD=(Y-p)+E by omega,Nat.add_mod_right]
end
theorem sh_limb {R s j:Nat}(hs:s<32):(R/4294967296^(j+1)%4294967296*4294967296+R/4294967296^j%4294967296)/2^s%4294967296=R/2^s/4294967296^j%4294967296:=by
 rw [Nat.div_div_eq_div_mul R (2^s),Nat.mul_comm (2^s),← Nat.div_div_eq_div_mul,Nat.pow_succ,← Nat.div_div_eq_div_mul]
 generalize R/4294967296^j=T
 have e1:T=(T/4294967296%4294967296*4294967296+T%4294967296)+2^s*(4294967296*(2^(32-s)*(T/4294967296/4294967296))):=by
  have:2^s*(4294967296*(2^(32-s)*(T/4294967296/4294967296)))=4294967296*(4294967296*(T/4294967296/4294967296)):=by
   rw [Nat.mul_left_comm (2^s),← Nat.mul_assoc (2^s),← Nat.pow_add,show s+(32-s)=32 by omega]
  rw [this]
  omega
 have e2:T/2^s=(T/4294967296%4294967296*4294967296+T%4294967296)/2^s+4294967296*(2^(32-s)*(T/4294967296/4294967296)):=by
  have h1:=congrArg (· / 2^s) e1
  rw [Nat.add_mul_div_left _ _ (Nat.pow_pos zo)] at h1
  exact h1
 rw [e2,Nat.add_mul_mod_self_left]
def dvF (n R s j:Nat):List Nat:=spl (digs n R) 0 (digs j (R/2^s))
theorem dvF_zero (n R s:Nat):dvF n R s 0=digs n R:=zne _ _
theorem dvF_len {n R s j:Nat}(h:j≤n):(dvF n R s j).length=n:=by rw [dvF,zgx (by rw [zag,zag]; omega),zag]
theorem zwn {n R s j i:Nat}(h:j≤i)(hi:i<n):(dvF n R s j)[i]?=some (R/4294967296^i%4294967296):=by
 rw [dvF,zi8 (by rw [zag]; omega) (by rw [zag]; omega),zix hi]
theorem dvF_step {n R s j:Nat}(hs:s<32)(h:j<n):(dvF n R s j).set j ((R/4294967296^(j+1)%4294967296*4294967296+R/4294967296^j%4294967296)/2^s%4294967296)=dvF n R s (j+1):=by
 rw [sh_limb hs,dvF,dvF,zgm]
 have:=zi7 (l:=digs n R) (o:=0) (k:=j) (x:=R/2^s/4294967296^j%4294967296) (zag j (R/2^s)) (by rw [zag]; omega)
 rw [Nat.zero_add] at this
 exact this
theorem dvF_end {n R s m:Nat}:dvF n R s m=digs m (R/2^s)++(digs n R).drop m:=by
 rw [dvF,spl,zag]
 simp
theorem dv_norm {d:List Nat}{k:Nat}(hd:okL d)(hl:d.length=k+2)(h0:d.getD (k+1) 0≠0) :
  4294967296^(k+1)*2147483648≤val d*2^(32-bl (d.getD (k+1) 0))∧val d*2^(32-bl (d.getD (k+1) 0))<4294967296^(k+2):=by
 have h1:=zbp (l:=d) (i:=k+1) zo
 rw [List.take_of_length_le zo] at h1
 have h2:d[k+1]'zo=d.getD (k+1) 0:=by simp [List.getD_eq_getElem?_getD,List.getElem?_eq_getElem (by omega:k+1<d.length)]
 rw [h2] at h1
 have h3:=zcz hd (k+1)
 have h4:=zx6 h0 (zij hd (k+1))
 have h5:=bl_lt (d.getD (k+1) 0)
 have h6:=zf2 (k:=32) (zij hd (k+1))
 generalize d.getD (k+1) 0=t at *
 generalize val (d.take (k+1))=v at *
 constructor
 ·refine Nat.le_trans (Nat.mul_le_mul_left _ h4.1) ?_
  rw [← Nat.mul_assoc]
  exact Nat.mul_le_mul_right _ zo
 ·have e:val d<4294967296^(k+1)*2^bl t:=by
   rw [h1]
   have:4294967296^(k+1)*(t+1)≤4294967296^(k+1)*2^bl t:=Nat.mul_le_mul_left _ h5
   rw [Nat.mul_succ] at this
   omega
  have h7:=Nat.mul_lt_mul_of_pos_right e (show 0<2^(32-bl t) from Nat.pow_pos zo)
  rw [Nat.mul_assoc,← Nat.pow_add,show bl t+(32-bl t)=32 by omega] at h7
  exact h7
theorem dv_start {a:List Nat}{DD k s la:Nat}(ha:okL a)(hla:a.length=la)(hk:k+2≤la)(hs:s<32)(d1:4294967296^(k+1)*2147483648≤DD):val a*2^s<DD*4294967296^(la+1-(k+2)):=by
 have h1:=zf4 ha
 rw [hla] at h1
 have h2:2^s≤2^31:=Nat.pow_le_pow_right zo zo
 have h3:val a*2^s≤val a*2147483648:=Nat.mul_le_mul_left _ h2
 have h4:val a*2147483648<4294967296^la*2147483648:=Nat.mul_lt_mul_of_pos_right h1 zo
 have h5:4294967296^(k+1)*2147483648*4294967296^(la+1-(k+2))≤DD*4294967296^(la+1-(k+2)):=Nat.mul_le_mul_right _ d1
 rw [Nat.mul_right_comm,← Nat.pow_add,show k+1+(la+1-(k+2))=la by omega] at h5
 omega
theorem zws {n m j:Nat}(h:j<n):(digs n m)[0+j]?=some (m/4294967296^j%4294967296):=by
 rw [Nat.zero_add,getD_some (by rw [zag]; omega),zix h]
theorem Dv.at_ {n k i X DD:Nat}(h:Dv n k i (X%(DD*4294967296^(i+1))) DD)(j:Nat)(hj:j<k+3):(dvL n X DD (i+1))[i+j]?=some (X%(DD*4294967296^(i+1))/4294967296^i/4294967296^j%4294967296):=by
 have:=h.hn
 rw [dvL,getD_some (by rw [zag]; omega),h.u j hj]
theorem Dv.yes_ex {n k i X DD:Nat}(h:Dv n k i (X%(DD*4294967296^(i+1))) DD){g:Nat}(hg:g=X%(DD*4294967296^(i+1))/4294967296^i/DD+1) :
  ∃ M,spl (dvL n X DD (i+1)) i (digs (k+3) (val (((dvL n X DD (i+1)).drop i).take (k+3))+(if val (((dvL n X DD (i+1)).drop i).take (k+3))<g*val ((digs (k+3) DD).take (k+2)) then 4294967296^(k+3) else 0)-g*val ((digs (k+3) DD).take (k+2))))=M ∧
   M.length=n∧((M.drop i).take (k+3)).length=k+3∧okL ((M.drop i).take (k+3)) ∧
   spl M i (digs (k+2) (sumTo ((M.drop i).take (k+3)) ((digs (k+3) DD).take (k+2)) (k+2))++[(((M.drop i).take (k+3)).getD (k+2) 0+sumTo ((M.drop i).take (k+3)) ((digs (k+3) DD).take (k+2)) (k+2)/4294967296^(k+2))%4294967296])=dvL n X DD i :=
 ⟨_,rfl,h.end_yes hg rfl rfl⟩
theorem dvQ_end {lq X DD:Nat}:dvQ lq X DD 0=digs lq (X/DD):=by simp [dvQ]
theorem ab_step {W D:List Nat}{j:Nat}(hW:j<W.length):digs j (sumTo W D j)++[(W.getD j 0+D.getD j 0+sumTo W D j/4294967296^j)%4294967296]=digs (j+1) (sumTo W D (j+1)):=by
 rw [zfi hW,ze0,show W[j]=W.getD j 0 from by simp [List.getD_eq_getElem?_getD,List.getElem?_eq_getElem hW],Nat.add_comm (sumTo W D j/_)]
theorem ab_carry {W D:List Nat}{j:Nat}(hW:j<W.length):(W.getD j 0+D.getD j 0+sumTo W D j/4294967296^j)/4294967296=sumTo W D (j+1)/4294967296^(j+1):=by
 rw [zfi hW,carry_step',show W[j]=W.getD j 0 from by simp [List.getD_eq_getElem?_getD,List.getElem?_eq_getElem hW],Nat.add_comm (sumTo W D j/_)]
theorem win_ok {i k n:Nat}(h:i+(k+2)+1≤n):i≤i+(k+2)+1∧i+(k+2)+1≤n∧i<n∧0+i=i∧i+(k+2)+1-i=k+3∧n-i=n-i:=⟨by omega,h,by omega,by omega,by omega,rfl⟩
theorem zz2 {x y:Nat}(hx:x<4294967296)(hy:y<4294967296):x*y<18446744073709551616:=by
 have:x*y≤4294967295*4294967295:=Nat.mul_le_mul zo zo
 omega
theorem or_yes {n m p q:Nat}(h:(decide ((n:Int)≥((m:Nat):Int)) || decide (((p:Nat):Int)>((q:Nat):Int)))=true):m≤n∨q<p:=by
 rcases Bool.or_eq_true _ _▸h with h | h
 ·exact .inl (Int.ofNat_le.1 (of_decide_eq_true h))
 ·exact .inr (Int.ofNat_lt.1 (of_decide_eq_true h))
theorem or_no {n m p q:Nat}(h:(decide ((n:Int)≥((m:Nat):Int)) || decide (((p:Nat):Int)>((q:Nat):Int)))=false):n<m∧p≤q:=by
 rw [Bool.or_eq_false_iff] at h
 exact ⟨Nat.lt_of_not_le fun hh=>of_decide_eq_false h.1 (Int.ofNat_le.2 hh),Nat.le_of_not_lt fun hh=>of_decide_eq_false h.2 (Int.ofNat_lt.2 hh)⟩
theorem ge_yes {n m:Nat}(h:decide ((n:Int)≥((m:Nat):Int))=true):m≤n:=Int.ofNat_le.1 (of_decide_eq_true h)
theorem ge_no {n m:Nat}(h:decide ((n:Int)≥((m:Nat):Int))=false):n<m:=Nat.lt_of_not_le fun hh=>of_decide_eq_false h (Int.ofNat_le.2 hh)
end Go.Proofs.YtmfgafhlaeolgaaGreatDoor
