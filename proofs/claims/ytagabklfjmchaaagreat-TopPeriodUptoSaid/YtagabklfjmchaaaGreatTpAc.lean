import Derived.Test.YtagabklfjmchaaaGreatTpAa
import Derived.Test.YtagabklfjmchaaaGreatTpAb
import Derived.Test.YtagabklfjmchaaaGreatProg
set_option linter.unusedVariables false
set_option linter.unusedSimpArgs false
set_option linter.unusedSectionVars false
set_option maxRecDepth 100000
namespace Go.Proofs.YtagabklfjmchaaaGreat
open Go Go.RowKit
theorem zbm:Fld Tryz.prog 25 0 0 1:=⟨_,_,Tryz.underlying25,rfl,rfl,by kernel_rfl,by decide⟩
theorem zap:Fld Tryz.prog 25 1 1 1:=⟨_,_,Tryz.underlying25,rfl,rfl,by kernel_rfl,by decide⟩
theorem zba:Fld Tryz.prog 27 0 0 2:=⟨_,_,Tryz.underlying27,rfl,rfl,by kernel_rfl,by decide⟩
theorem zb5:Fld Tryz.prog 27 1 2 2:=⟨_,_,Tryz.underlying27,rfl,rfl,by kernel_rfl,by decide⟩
theorem zeq:Fld Tryz.prog 29 0 0 4:=⟨_,_,Tryz.underlying29,rfl,rfl,by kernel_rfl,by decide⟩
theorem zep:Fld Tryz.prog 29 1 4 4:=⟨_,_,Tryz.underlying29,rfl,rfl,by kernel_rfl,by decide⟩
theorem zi6:Fld Tryz.prog 31 0 0 1:=⟨_,_,Tryz.underlying31,rfl,rfl,by kernel_rfl,by decide⟩
theorem zi5:Fld Tryz.prog 31 1 1 8:=⟨_,_,Tryz.underlying31,rfl,rfl,by kernel_rfl,by decide⟩
theorem fld_31_2:Fld Tryz.prog 31 2 9 4:=⟨_,_,Tryz.underlying31,rfl,rfl,by kernel_rfl,by decide⟩
theorem zbc:Fld Tryz.prog 38 0 0 4:=⟨_,_,Tryz.underlying38,rfl,rfl,by kernel_rfl,by decide⟩
theorem zbi:Fld Tryz.prog 38 1 4 4:=⟨_,_,Tryz.underlying38,rfl,rfl,by kernel_rfl,by decide⟩
theorem zbh:Fld Tryz.prog 38 2 8 4:=⟨_,_,Tryz.underlying38,rfl,rfl,by kernel_rfl,by decide⟩
theorem zbf:Fld Tryz.prog 38 3 12 4:=⟨_,_,Tryz.underlying38,rfl,rfl,by kernel_rfl,by decide⟩
theorem zdx:Fld Tryz.prog 55 0 0 1:=⟨_,_,Tryz.underlying55,rfl,rfl,by kernel_rfl,by decide⟩
theorem zd0:Fld Tryz.prog 55 1 1 4:=⟨_,_,Tryz.underlying55,rfl,rfl,by kernel_rfl,by decide⟩
theorem zdw:Fld Tryz.prog 55 2 5 4:=⟨_,_,Tryz.underlying55,rfl,rfl,by kernel_rfl,by decide⟩
theorem zi4:Fld Tryz.prog 77 0 0 4:=⟨_,_,Tryz.underlying77,rfl,rfl,by kernel_rfl,by decide⟩
theorem zga:Fld Tryz.prog 77 1 4 4:=⟨_,_,Tryz.underlying77,rfl,rfl,by kernel_rfl,by decide⟩
theorem fld_77_2:Fld Tryz.prog 77 2 8 4:=⟨_,_,Tryz.underlying77,rfl,rfl,by kernel_rfl,by decide⟩
theorem zcz:Sl Tryz.prog 101 27 4:=⟨by kernel_rfl,by kernel_rfl⟩
theorem sl_110:Sl Tryz.prog 110 1 1:=⟨by kernel_rfl,by kernel_rfl⟩
theorem ze5:Sl Tryz.prog 114 25 2:=⟨by kernel_rfl,by kernel_rfl⟩
theorem zjj:Sl Tryz.prog 22 55 9:=⟨by kernel_rfl,by kernel_rfl⟩
theorem zbg:Sl Tryz.prog 23 120 1:=⟨by kernel_rfl,by kernel_rfl⟩
theorem sl_51:Sl Tryz.prog 51 3 1:=⟨by kernel_rfl,by kernel_rfl⟩
theorem ty_1:Ty Tryz.prog 1 1 false:=⟨by kernel_rfl,by kernel_rfl⟩
theorem zez:Ty Tryz.prog 114 1 false:=⟨by kernel_rfl,by kernel_rfl⟩
theorem zb4:Ty Tryz.prog 120 1 false:=⟨by kernel_rfl,by kernel_rfl⟩
theorem zik:Ty Tryz.prog 125 6 true:=⟨by kernel_rfl,by kernel_rfl⟩
theorem ty_22:Ty Tryz.prog 22 1 false:=⟨by kernel_rfl,by kernel_rfl⟩
theorem zbq:Ty Tryz.prog 23 1 false:=⟨by kernel_rfl,by kernel_rfl⟩
theorem zak:Ty Tryz.prog 25 2 true:=⟨by kernel_rfl,by kernel_rfl⟩
theorem za9:Ty Tryz.prog 27 4 true:=⟨by kernel_rfl,by kernel_rfl⟩
theorem ty_29:Ty Tryz.prog 29 8 true:=⟨by kernel_rfl,by kernel_rfl⟩
theorem ty_3:Ty Tryz.prog 3 1 false:=⟨by kernel_rfl,by kernel_rfl⟩
theorem zat:Ty Tryz.prog 38 16 true:=⟨by kernel_rfl,by kernel_rfl⟩
theorem zij:Ty Tryz.prog 39 1 false:=⟨by kernel_rfl,by kernel_rfl⟩
theorem ty_4:Ty Tryz.prog 4 1 false:=⟨by kernel_rfl,by kernel_rfl⟩
theorem zjf:Ty Tryz.prog 53 1 false:=⟨by kernel_rfl,by kernel_rfl⟩
theorem zje:Ty Tryz.prog 55 9 true:=⟨by kernel_rfl,by kernel_rfl⟩
theorem ty_97:Ty Tryz.prog 97 4 true:=⟨by kernel_rfl,by kernel_rfl⟩
theorem ty_98:Ty Tryz.prog 98 1 false:=⟨by kernel_rfl,by kernel_rfl⟩
end Go.Proofs.YtagabklfjmchaaaGreat
