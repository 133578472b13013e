import Derived.Test.YtlpppkkggljdcaaGreatTcAa
import Derived.Test.YtlpppkkggljdcaaGreatTcAb
import Derived.Test.YtlpppkkggljdcaaGreatProg
set_option linter.unusedVariables false
set_option linter.unusedSimpArgs false
set_option linter.unusedSectionVars false
set_option maxRecDepth 100000
namespace Go.Proofs.YtlpppkkggljdcaaGreat
open Go Go.RowKit
theorem zb2:Fld Tryz.prog 35 0 0 1:=⟨_,_,Tryz.underlying35,rfl,rfl,by kernel_rfl,by decide⟩
theorem zag:Fld Tryz.prog 35 1 1 1:=⟨_,_,Tryz.underlying35,rfl,rfl,by kernel_rfl,by decide⟩
theorem zbf:Fld Tryz.prog 37 0 0 2:=⟨_,_,Tryz.underlying37,rfl,rfl,by kernel_rfl,by decide⟩
theorem zb5:Fld Tryz.prog 37 1 2 2:=⟨_,_,Tryz.underlying37,rfl,rfl,by kernel_rfl,by decide⟩
theorem zbw:Fld Tryz.prog 39 0 0 4:=⟨_,_,Tryz.underlying39,rfl,rfl,by kernel_rfl,by decide⟩
theorem zby:Fld Tryz.prog 39 1 4 4:=⟨_,_,Tryz.underlying39,rfl,rfl,by kernel_rfl,by decide⟩
theorem zcz:Fld Tryz.prog 41 0 0 1:=⟨_,_,Tryz.underlying41,rfl,rfl,by kernel_rfl,by decide⟩
theorem zc5:Fld Tryz.prog 41 1 1 8:=⟨_,_,Tryz.underlying41,rfl,rfl,by kernel_rfl,by decide⟩
theorem zcb:Fld Tryz.prog 41 2 9 8:=⟨_,_,Tryz.underlying41,rfl,rfl,by kernel_rfl,by decide⟩
theorem zfl:Fld Tryz.prog 56 0 0 4:=⟨_,_,Tryz.underlying56,rfl,rfl,by kernel_rfl,by decide⟩
theorem zem:Fld Tryz.prog 56 1 4 4:=⟨_,_,Tryz.underlying56,rfl,rfl,by kernel_rfl,by decide⟩
theorem zel:Fld Tryz.prog 56 2 8 4:=⟨_,_,Tryz.underlying56,rfl,rfl,by kernel_rfl,by decide⟩
theorem zfk:Fld Tryz.prog 56 3 12 4:=⟨_,_,Tryz.underlying56,rfl,rfl,by kernel_rfl,by decide⟩
theorem ze0:Fld Tryz.prog 62 0 0 1:=⟨_,_,Tryz.underlying62,rfl,rfl,by kernel_rfl,by decide⟩
theorem zdb:Fld Tryz.prog 62 1 1 4:=⟨_,_,Tryz.underlying62,rfl,rfl,by kernel_rfl,by decide⟩
theorem zda:Fld Tryz.prog 62 2 5 4:=⟨_,_,Tryz.underlying62,rfl,rfl,by kernel_rfl,by decide⟩
theorem zg4:Sl Tryz.prog 101 37 4:=⟨by kernel_rfl,by kernel_rfl⟩
theorem sl_153:Sl Tryz.prog 153 35 2:=⟨by kernel_rfl,by kernel_rfl⟩
theorem zeu:Sl Tryz.prog 22 41 17:=⟨by kernel_rfl,by kernel_rfl⟩
theorem zb4:Sl Tryz.prog 33 130 1:=⟨by kernel_rfl,by kernel_rfl⟩
theorem sl_51:Sl Tryz.prog 51 62 9:=⟨by kernel_rfl,by kernel_rfl⟩
theorem sl_69:Sl Tryz.prog 69 3 1:=⟨by kernel_rfl,by kernel_rfl⟩
theorem ty_1:Ty Tryz.prog 1 1 false:=⟨by kernel_rfl,by kernel_rfl⟩
theorem ty_119:Ty Tryz.prog 119 1 false:=⟨by kernel_rfl,by kernel_rfl⟩
theorem zb0:Ty Tryz.prog 130 1 false:=⟨by kernel_rfl,by kernel_rfl⟩
theorem zkg:Ty Tryz.prog 141 6 true:=⟨by kernel_rfl,by kernel_rfl⟩
theorem ty_22:Ty Tryz.prog 22 1 false:=⟨by kernel_rfl,by kernel_rfl⟩
theorem ty_26:Ty Tryz.prog 26 1 false:=⟨by kernel_rfl,by kernel_rfl⟩
theorem ty_3:Ty Tryz.prog 3 1 false:=⟨by kernel_rfl,by kernel_rfl⟩
theorem zeb:Ty Tryz.prog 32 1 false:=⟨by kernel_rfl,by kernel_rfl⟩
theorem zb8:Ty Tryz.prog 33 1 false:=⟨by kernel_rfl,by kernel_rfl⟩
theorem zab:Ty Tryz.prog 35 2 true:=⟨by kernel_rfl,by kernel_rfl⟩
theorem zao:Ty Tryz.prog 37 4 true:=⟨by kernel_rfl,by kernel_rfl⟩
theorem zc6:Ty Tryz.prog 39 8 true:=⟨by kernel_rfl,by kernel_rfl⟩
theorem ty_4:Ty Tryz.prog 4 1 false:=⟨by kernel_rfl,by kernel_rfl⟩
theorem zg2:Ty Tryz.prog 41 17 true:=⟨by kernel_rfl,by kernel_rfl⟩
theorem zco:Ty Tryz.prog 56 16 true:=⟨by kernel_rfl,by kernel_rfl⟩
theorem zkf:Ty Tryz.prog 62 9 true:=⟨by kernel_rfl,by kernel_rfl⟩
theorem ty_80:Ty Tryz.prog 80 1 false:=⟨by kernel_rfl,by kernel_rfl⟩
end Go.Proofs.YtlpppkkggljdcaaGreat
