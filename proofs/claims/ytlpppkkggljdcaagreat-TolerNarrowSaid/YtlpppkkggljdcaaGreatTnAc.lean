import Derived.Test.YtlpppkkggljdcaaGreatTnAa
import Derived.Test.YtlpppkkggljdcaaGreatTnAb
import Derived.Test.YtlpppkkggljdcaaGreatProg
set_option linter.unusedVariables false
set_option linter.unusedSimpArgs false
set_option linter.unusedSectionVars false
set_option maxRecDepth 100000
namespace Go.Proofs.YtlpppkkggljdcaaGreat
open Go Go.RowKit
theorem zb5:Fld Tryz.prog 35 0 0 1:=⟨_,_,Tryz.underlying35,rfl,rfl,by kernel_rfl,by decide⟩
theorem zar:Fld Tryz.prog 35 1 1 1:=⟨_,_,Tryz.underlying35,rfl,rfl,by kernel_rfl,by decide⟩
theorem zbg:Fld Tryz.prog 37 0 0 2:=⟨_,_,Tryz.underlying37,rfl,rfl,by kernel_rfl,by decide⟩
theorem zb2:Fld Tryz.prog 37 1 2 2:=⟨_,_,Tryz.underlying37,rfl,rfl,by kernel_rfl,by decide⟩
theorem zbj:Fld Tryz.prog 39 0 0 4:=⟨_,_,Tryz.underlying39,rfl,rfl,by kernel_rfl,by decide⟩
theorem zbq:Fld Tryz.prog 39 1 4 4:=⟨_,_,Tryz.underlying39,rfl,rfl,by kernel_rfl,by decide⟩
theorem zgi:Fld Tryz.prog 41 0 0 1:=⟨_,_,Tryz.underlying41,rfl,rfl,by kernel_rfl,by decide⟩
theorem zcf:Fld Tryz.prog 41 1 1 8:=⟨_,_,Tryz.underlying41,rfl,rfl,by kernel_rfl,by decide⟩
theorem zcx:Fld Tryz.prog 41 2 9 8:=⟨_,_,Tryz.underlying41,rfl,rfl,by kernel_rfl,by decide⟩
theorem zex:Fld Tryz.prog 56 0 0 4:=⟨_,_,Tryz.underlying56,rfl,rfl,by kernel_rfl,by decide⟩
theorem ze4:Fld Tryz.prog 56 1 4 4:=⟨_,_,Tryz.underlying56,rfl,rfl,by kernel_rfl,by decide⟩
theorem zdk:Fld Tryz.prog 56 2 8 4:=⟨_,_,Tryz.underlying56,rfl,rfl,by kernel_rfl,by decide⟩
theorem zew:Fld Tryz.prog 56 3 12 4:=⟨_,_,Tryz.underlying56,rfl,rfl,by kernel_rfl,by decide⟩
theorem ze3:Fld Tryz.prog 62 0 0 1:=⟨_,_,Tryz.underlying62,rfl,rfl,by kernel_rfl,by decide⟩
theorem zev:Fld Tryz.prog 62 1 1 4:=⟨_,_,Tryz.underlying62,rfl,rfl,by kernel_rfl,by decide⟩
theorem zfq:Fld Tryz.prog 62 2 5 4:=⟨_,_,Tryz.underlying62,rfl,rfl,by kernel_rfl,by decide⟩
theorem zf7:Sl Tryz.prog 101 37 4:=⟨by kernel_rfl,by kernel_rfl⟩
theorem sl_153:Sl Tryz.prog 153 35 2:=⟨by kernel_rfl,by kernel_rfl⟩
theorem zf4:Sl Tryz.prog 22 41 17:=⟨by kernel_rfl,by kernel_rfl⟩
theorem sl_31:Sl Tryz.prog 31 5 1:=⟨by kernel_rfl,by kernel_rfl⟩
theorem zbb:Sl Tryz.prog 33 130 1:=⟨by kernel_rfl,by kernel_rfl⟩
theorem sl_51:Sl Tryz.prog 51 62 9:=⟨by kernel_rfl,by kernel_rfl⟩
theorem ty_1:Ty Tryz.prog 1 1 false:=⟨by kernel_rfl,by kernel_rfl⟩
theorem ty_119:Ty Tryz.prog 119 1 false:=⟨by kernel_rfl,by kernel_rfl⟩
theorem zaw:Ty Tryz.prog 130 1 false:=⟨by kernel_rfl,by kernel_rfl⟩
theorem zja:Ty Tryz.prog 141 6 true:=⟨by kernel_rfl,by kernel_rfl⟩
theorem ty_22:Ty Tryz.prog 22 1 false:=⟨by kernel_rfl,by kernel_rfl⟩
theorem ty_26:Ty Tryz.prog 26 1 false:=⟨by kernel_rfl,by kernel_rfl⟩
theorem zgo:Ty Tryz.prog 32 1 false:=⟨by kernel_rfl,by kernel_rfl⟩
theorem zbs:Ty Tryz.prog 33 1 false:=⟨by kernel_rfl,by kernel_rfl⟩
theorem zae:Ty Tryz.prog 35 2 true:=⟨by kernel_rfl,by kernel_rfl⟩
theorem zaa:Ty Tryz.prog 37 4 true:=⟨by kernel_rfl,by kernel_rfl⟩
theorem zbl:Ty Tryz.prog 39 8 true:=⟨by kernel_rfl,by kernel_rfl⟩
theorem ty_4:Ty Tryz.prog 4 1 false:=⟨by kernel_rfl,by kernel_rfl⟩
theorem ty_41:Ty Tryz.prog 41 17 true:=⟨by kernel_rfl,by kernel_rfl⟩
theorem ty_5:Ty Tryz.prog 5 1 false:=⟨by kernel_rfl,by kernel_rfl⟩
theorem zc8:Ty Tryz.prog 56 16 true:=⟨by kernel_rfl,by kernel_rfl⟩
theorem zj9:Ty Tryz.prog 62 9 true:=⟨by kernel_rfl,by kernel_rfl⟩
theorem ty_80:Ty Tryz.prog 80 1 false:=⟨by kernel_rfl,by kernel_rfl⟩
theorem ty_86:Ty Tryz.prog 86 1 false:=⟨by kernel_rfl,by kernel_rfl⟩
end Go.Proofs.YtlpppkkggljdcaaGreat
