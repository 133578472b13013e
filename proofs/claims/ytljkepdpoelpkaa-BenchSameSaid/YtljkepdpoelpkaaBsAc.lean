import Derived.Test.YtljkepdpoelpkaaBsAa
import Derived.Test.YtljkepdpoelpkaaBsAb
import Derived.Test.YtljkepdpoelpkaaProg
set_option linter.unusedVariables false
set_option linter.unusedSimpArgs false
set_option linter.unusedSectionVars false
set_option maxRecDepth 100000
namespace Go.Proofs.Ytljkepdpoelpkaa
open Go Go.RowKit
theorem zb3:Fld Try.prog 33 0 0 1:=⟨_,_,Try.underlying33,rfl,rfl,by kernel_rfl,by decide⟩
theorem zal:Fld Try.prog 33 1 1 1:=⟨_,_,Try.underlying33,rfl,rfl,by kernel_rfl,by decide⟩
theorem zbh:Fld Try.prog 35 0 0 2:=⟨_,_,Try.underlying35,rfl,rfl,by kernel_rfl,by decide⟩
theorem zb2:Fld Try.prog 35 1 2 2:=⟨_,_,Try.underlying35,rfl,rfl,by kernel_rfl,by decide⟩
theorem fld_37_0:Fld Try.prog 37 0 0 4:=⟨_,_,Try.underlying37,rfl,rfl,by kernel_rfl,by decide⟩
theorem zcp:Fld Try.prog 37 1 4 4:=⟨_,_,Try.underlying37,rfl,rfl,by kernel_rfl,by decide⟩
theorem zco:Fld Try.prog 37 2 8 4:=⟨_,_,Try.underlying37,rfl,rfl,by kernel_rfl,by decide⟩
theorem fld_37_3:Fld Try.prog 37 3 12 4:=⟨_,_,Try.underlying37,rfl,rfl,by kernel_rfl,by decide⟩
theorem zbz:Fld Try.prog 49 0 0 1:=⟨_,_,Try.underlying49,rfl,rfl,by kernel_rfl,by decide⟩
theorem zbp:Fld Try.prog 49 1 1 4:=⟨_,_,Try.underlying49,rfl,rfl,by kernel_rfl,by decide⟩
theorem fld_49_2:Fld Try.prog 49 2 5 4:=⟨_,_,Try.underlying49,rfl,rfl,by kernel_rfl,by decide⟩
theorem sl_22:Sl Try.prog 22 49 9:=⟨by kernel_rfl,by kernel_rfl⟩
theorem zb6:Sl Try.prog 31 91 1:=⟨by kernel_rfl,by kernel_rfl⟩
theorem sl_62:Sl Try.prog 62 3 1:=⟨by kernel_rfl,by kernel_rfl⟩
theorem sl_80:Sl Try.prog 80 35 4:=⟨by kernel_rfl,by kernel_rfl⟩
theorem sl_95:Sl Try.prog 95 33 2:=⟨by kernel_rfl,by kernel_rfl⟩
theorem ty_1:Ty Try.prog 1 1 false:=⟨by kernel_rfl,by kernel_rfl⟩
theorem ty_22:Ty Try.prog 22 1 false:=⟨by kernel_rfl,by kernel_rfl⟩
theorem ty_3:Ty Try.prog 3 1 false:=⟨by kernel_rfl,by kernel_rfl⟩
theorem zbm:Ty Try.prog 31 1 false:=⟨by kernel_rfl,by kernel_rfl⟩
theorem zad:Ty Try.prog 33 2 true:=⟨by kernel_rfl,by kernel_rfl⟩
theorem zam:Ty Try.prog 35 4 true:=⟨by kernel_rfl,by kernel_rfl⟩
theorem zb9:Ty Try.prog 37 16 true:=⟨by kernel_rfl,by kernel_rfl⟩
theorem ty_4:Ty Try.prog 4 1 false:=⟨by kernel_rfl,by kernel_rfl⟩
theorem ty_46:Ty Try.prog 46 1 false:=⟨by kernel_rfl,by kernel_rfl⟩
theorem ty_49:Ty Try.prog 49 9 true:=⟨by kernel_rfl,by kernel_rfl⟩
theorem ty_54:Ty Try.prog 54 1 false:=⟨by kernel_rfl,by kernel_rfl⟩
theorem zbf:Ty Try.prog 91 1 false:=⟨by kernel_rfl,by kernel_rfl⟩
theorem ty_98:Ty Try.prog 98 6 true:=⟨by kernel_rfl,by kernel_rfl⟩
end Go.Proofs.Ytljkepdpoelpkaa
