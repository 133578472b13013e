import Derived.Test.YtmacliockgbdcaaGreatDoorBfAa
import Derived.Test.YtmacliockgbdcaaGreatDoorBfAb
import Derived.Test.YtmacliockgbdcaaGreatDoorProg
set_option linter.unusedVariables false
set_option linter.unusedSimpArgs false
set_option linter.unusedSectionVars false
set_option maxRecDepth 100000
namespace Go.Proofs.YtmacliockgbdcaaGreatDoor
open Go Go.RowKit
theorem ei:Fld Tryz.prog 105 0 0 1:=⟨_,_,Tryz.underlying105,rfl,rfl,by kernel_rfl,by decide⟩
theorem gj:Fld Tryz.prog 105 1 1 1:=⟨_,_,Tryz.underlying105,rfl,rfl,by kernel_rfl,by decide⟩
theorem gi:Fld Tryz.prog 105 2 2 1:=⟨_,_,Tryz.underlying105,rfl,rfl,by kernel_rfl,by decide⟩
theorem eh:Fld Tryz.prog 108 0 0 1:=⟨_,_,Tryz.underlying108,rfl,rfl,by kernel_rfl,by decide⟩
theorem gh:Fld Tryz.prog 108 1 1 1:=⟨_,_,Tryz.underlying108,rfl,rfl,by kernel_rfl,by decide⟩
theorem gf:Fld Tryz.prog 108 2 2 1:=⟨_,_,Tryz.underlying108,rfl,rfl,by kernel_rfl,by decide⟩
theorem aU:Fld Tryz.prog 25 0 0 1:=⟨_,_,Tryz.underlying25,rfl,rfl,by kernel_rfl,by decide⟩
theorem au:Fld Tryz.prog 25 1 1 1:=⟨_,_,Tryz.underlying25,rfl,rfl,by kernel_rfl,by decide⟩
theorem aY:Fld Tryz.prog 27 0 0 2:=⟨_,_,Tryz.underlying27,rfl,rfl,by kernel_rfl,by decide⟩
theorem aT:Fld Tryz.prog 27 1 2 2:=⟨_,_,Tryz.underlying27,rfl,rfl,by kernel_rfl,by decide⟩
theorem bG:Fld Tryz.prog 29 0 0 4:=⟨_,_,Tryz.underlying29,rfl,rfl,by kernel_rfl,by decide⟩
theorem bF:Fld Tryz.prog 29 1 4 4:=⟨_,_,Tryz.underlying29,rfl,rfl,by kernel_rfl,by decide⟩
theorem bU:Fld Tryz.prog 29 2 8 4:=⟨_,_,Tryz.underlying29,rfl,rfl,by kernel_rfl,by decide⟩
theorem bW:Fld Tryz.prog 29 3 12 4:=⟨_,_,Tryz.underlying29,rfl,rfl,by kernel_rfl,by decide⟩
theorem fu:Fld Tryz.prog 58 0 0 1:=⟨_,_,Tryz.underlying58,rfl,rfl,by kernel_rfl,by decide⟩
theorem dc:Fld Tryz.prog 58 1 1 1:=⟨_,_,Tryz.underlying58,rfl,rfl,by kernel_rfl,by decide⟩
theorem je:Fld Tryz.prog 58 10 10 1:=⟨_,_,Tryz.underlying58,rfl,rfl,by kernel_rfl,by decide⟩
theorem jd:Fld Tryz.prog 58 11 11 1:=⟨_,_,Tryz.underlying58,rfl,rfl,by kernel_rfl,by decide⟩
theorem jc:Fld Tryz.prog 58 12 12 1:=⟨_,_,Tryz.underlying58,rfl,rfl,by kernel_rfl,by decide⟩
theorem jb:Fld Tryz.prog 58 13 13 1:=⟨_,_,Tryz.underlying58,rfl,rfl,by kernel_rfl,by decide⟩
theorem ja:Fld Tryz.prog 58 14 14 1:=⟨_,_,Tryz.underlying58,rfl,rfl,by kernel_rfl,by decide⟩
theorem j9:Fld Tryz.prog 58 15 15 1:=⟨_,_,Tryz.underlying58,rfl,rfl,by kernel_rfl,by decide⟩
theorem j8:Fld Tryz.prog 58 16 16 1:=⟨_,_,Tryz.underlying58,rfl,rfl,by kernel_rfl,by decide⟩
theorem ly:Fld Tryz.prog 58 2 2 1:=⟨_,_,Tryz.underlying58,rfl,rfl,by kernel_rfl,by decide⟩
theorem lw:Fld Tryz.prog 58 3 3 1:=⟨_,_,Tryz.underlying58,rfl,rfl,by kernel_rfl,by decide⟩
theorem lu:Fld Tryz.prog 58 4 4 1:=⟨_,_,Tryz.underlying58,rfl,rfl,by kernel_rfl,by decide⟩
theorem lr:Fld Tryz.prog 58 5 5 1:=⟨_,_,Tryz.underlying58,rfl,rfl,by kernel_rfl,by decide⟩
theorem lp:Fld Tryz.prog 58 6 6 1:=⟨_,_,Tryz.underlying58,rfl,rfl,by kernel_rfl,by decide⟩
theorem ln:Fld Tryz.prog 58 7 7 1:=⟨_,_,Tryz.underlying58,rfl,rfl,by kernel_rfl,by decide⟩
theorem lm:Fld Tryz.prog 58 8 8 1:=⟨_,_,Tryz.underlying58,rfl,rfl,by kernel_rfl,by decide⟩
theorem db:Fld Tryz.prog 58 9 9 1:=⟨_,_,Tryz.underlying58,rfl,rfl,by kernel_rfl,by decide⟩
theorem bP:Fld Tryz.prog 67 0 0 1:=⟨_,_,Tryz.underlying67,rfl,rfl,by kernel_rfl,by decide⟩
theorem bg:Fld Tryz.prog 67 1 1 4:=⟨_,_,Tryz.underlying67,rfl,rfl,by kernel_rfl,by decide⟩
theorem bK:Fld Tryz.prog 67 2 5 4:=⟨_,_,Tryz.underlying67,rfl,rfl,by kernel_rfl,by decide⟩
theorem fS:Sl Tryz.prog 128 27 4:=⟨by kernel_rfl,by kernel_rfl⟩
theorem xX:Sl Tryz.prog 211 25 2:=⟨by kernel_rfl,by kernel_rfl⟩
theorem cC:Sl Tryz.prog 22 67 9:=⟨by kernel_rfl,by kernel_rfl⟩
theorem aZ:Sl Tryz.prog 23 109 1:=⟨by kernel_rfl,by kernel_rfl⟩
theorem sl_41:Sl Tryz.prog 41 108 3:=⟨by kernel_rfl,by kernel_rfl⟩
theorem sl_49:Sl Tryz.prog 49 105 3:=⟨by kernel_rfl,by kernel_rfl⟩
theorem Do:Sl Tryz.prog 63 3 1:=⟨by kernel_rfl,by kernel_rfl⟩
theorem jP:Ty Tryz.prog 105 3 true:=⟨by kernel_rfl,by kernel_rfl⟩
theorem jO:Ty Tryz.prog 108 3 true:=⟨by kernel_rfl,by kernel_rfl⟩
theorem aO:Ty Tryz.prog 109 1 false:=⟨by kernel_rfl,by kernel_rfl⟩
theorem dQ:Ty Tryz.prog 22 1 false:=⟨by kernel_rfl,by kernel_rfl⟩
theorem aW:Ty Tryz.prog 23 1 false:=⟨by kernel_rfl,by kernel_rfl⟩
theorem al:Ty Tryz.prog 25 2 true:=⟨by kernel_rfl,by kernel_rfl⟩
theorem ax:Ty Tryz.prog 27 4 true:=⟨by kernel_rfl,by kernel_rfl⟩
theorem dg:Ty Tryz.prog 29 16 true:=⟨by kernel_rfl,by kernel_rfl⟩
theorem ty_3:Ty Tryz.prog 3 1 false:=⟨by kernel_rfl,by kernel_rfl⟩
theorem ty_4:Ty Tryz.prog 4 1 false:=⟨by kernel_rfl,by kernel_rfl⟩
theorem jA:Ty Tryz.prog 41 1 false:=⟨by kernel_rfl,by kernel_rfl⟩
theorem zP:Ty Tryz.prog 42 1 false:=⟨by kernel_rfl,by kernel_rfl⟩
theorem zO:Ty Tryz.prog 43 1 false:=⟨by kernel_rfl,by kernel_rfl⟩
theorem zN:Ty Tryz.prog 44 1 false:=⟨by kernel_rfl,by kernel_rfl⟩
theorem zK:Ty Tryz.prog 45 1 false:=⟨by kernel_rfl,by kernel_rfl⟩
theorem zJ:Ty Tryz.prog 46 1 false:=⟨by kernel_rfl,by kernel_rfl⟩
theorem zH:Ty Tryz.prog 47 1 false:=⟨by kernel_rfl,by kernel_rfl⟩
theorem zG:Ty Tryz.prog 48 1 false:=⟨by kernel_rfl,by kernel_rfl⟩
theorem jz:Ty Tryz.prog 49 1 false:=⟨by kernel_rfl,by kernel_rfl⟩
theorem zF:Ty Tryz.prog 50 1 false:=⟨by kernel_rfl,by kernel_rfl⟩
theorem zE:Ty Tryz.prog 51 1 false:=⟨by kernel_rfl,by kernel_rfl⟩
theorem zD:Ty Tryz.prog 52 1 false:=⟨by kernel_rfl,by kernel_rfl⟩
theorem zC:Ty Tryz.prog 53 1 false:=⟨by kernel_rfl,by kernel_rfl⟩
theorem zB:Ty Tryz.prog 54 1 false:=⟨by kernel_rfl,by kernel_rfl⟩
theorem zy:Ty Tryz.prog 55 1 false:=⟨by kernel_rfl,by kernel_rfl⟩
theorem zx:Ty Tryz.prog 56 1 false:=⟨by kernel_rfl,by kernel_rfl⟩
theorem ty_58:Ty Tryz.prog 58 17 true:=⟨by kernel_rfl,by kernel_rfl⟩
theorem er:Ty Tryz.prog 65 1 false:=⟨by kernel_rfl,by kernel_rfl⟩
theorem cb:Ty Tryz.prog 67 9 true:=⟨by kernel_rfl,by kernel_rfl⟩
theorem lS:Ty Tryz.prog 74 1 false:=⟨by kernel_rfl,by kernel_rfl⟩
end Go.Proofs.YtmacliockgbdcaaGreatDoor
