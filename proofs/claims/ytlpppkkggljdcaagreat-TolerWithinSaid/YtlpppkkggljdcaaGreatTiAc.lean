import Derived.Test.YtlpppkkggljdcaaGreatTiAa
import Derived.Test.YtlpppkkggljdcaaGreatTiAb
import Derived.Test.YtlpppkkggljdcaaGreatProg
set_option linter.unusedVariables false
set_option linter.unusedSimpArgs false
set_option linter.unusedSectionVars false
set_option maxRecDepth 100000
namespace Go.Proofs.YtlpppkkggljdcaaGreat
open Go Go.RowKit
theorem zb8:Fld Tryz.prog 35 0 0 1:=⟨_,_,Tryz.underlying35,rfl,rfl,by kernel_rfl,by decide⟩
theorem zas:Fld Tryz.prog 35 1 1 1:=⟨_,_,Tryz.underlying35,rfl,rfl,by kernel_rfl,by decide⟩
theorem zbi:Fld Tryz.prog 37 0 0 2:=⟨_,_,Tryz.underlying37,rfl,rfl,by kernel_rfl,by decide⟩
theorem zb5:Fld Tryz.prog 37 1 2 2:=⟨_,_,Tryz.underlying37,rfl,rfl,by kernel_rfl,by decide⟩
theorem zbs:Fld Tryz.prog 39 0 0 4:=⟨_,_,Tryz.underlying39,rfl,rfl,by kernel_rfl,by decide⟩
theorem zc1:Fld Tryz.prog 39 1 4 4:=⟨_,_,Tryz.underlying39,rfl,rfl,by kernel_rfl,by decide⟩
theorem zgs:Fld Tryz.prog 41 0 0 1:=⟨_,_,Tryz.underlying41,rfl,rfl,by kernel_rfl,by decide⟩
theorem zck:Fld Tryz.prog 41 1 1 8:=⟨_,_,Tryz.underlying41,rfl,rfl,by kernel_rfl,by decide⟩
theorem zd7:Fld Tryz.prog 41 2 9 8:=⟨_,_,Tryz.underlying41,rfl,rfl,by kernel_rfl,by decide⟩
theorem zbu:Fld Tryz.prog 56 0 0 4:=⟨_,_,Tryz.underlying56,rfl,rfl,by kernel_rfl,by decide⟩
theorem zc6:Fld Tryz.prog 56 1 4 4:=⟨_,_,Tryz.underlying56,rfl,rfl,by kernel_rfl,by decide⟩
theorem zbt:Fld Tryz.prog 56 2 8 4:=⟨_,_,Tryz.underlying56,rfl,rfl,by kernel_rfl,by decide⟩
theorem zc0:Fld Tryz.prog 56 3 12 4:=⟨_,_,Tryz.underlying56,rfl,rfl,by kernel_rfl,by decide⟩
theorem zed:Fld Tryz.prog 62 0 0 1:=⟨_,_,Tryz.underlying62,rfl,rfl,by kernel_rfl,by decide⟩
theorem zf6:Fld Tryz.prog 62 1 1 4:=⟨_,_,Tryz.underlying62,rfl,rfl,by kernel_rfl,by decide⟩
theorem zfv:Fld Tryz.prog 62 2 5 4:=⟨_,_,Tryz.underlying62,rfl,rfl,by kernel_rfl,by decide⟩
theorem fld_94_0:Fld Tryz.prog 94 0 0 1:=⟨_,_,Tryz.underlying94,rfl,rfl,by kernel_rfl,by decide⟩
theorem fld_94_1:Fld Tryz.prog 94 1 1 1:=⟨_,_,Tryz.underlying94,rfl,rfl,by kernel_rfl,by decide⟩
theorem zf5:Fld Tryz.prog 98 0 0 1:=⟨_,_,Tryz.underlying98,rfl,rfl,by kernel_rfl,by decide⟩
theorem zdf:Sl Tryz.prog 101 37 4:=⟨by kernel_rfl,by kernel_rfl⟩
theorem sl_153:Sl Tryz.prog 153 35 2:=⟨by kernel_rfl,by kernel_rfl⟩
theorem zfg:Sl Tryz.prog 22 41 17:=⟨by kernel_rfl,by kernel_rfl⟩
theorem sl_31:Sl Tryz.prog 31 5 1:=⟨by kernel_rfl,by kernel_rfl⟩
theorem zbg:Sl Tryz.prog 33 130 1:=⟨by kernel_rfl,by kernel_rfl⟩
theorem sl_51:Sl Tryz.prog 51 62 9:=⟨by kernel_rfl,by kernel_rfl⟩
theorem sl_90:Sl Tryz.prog 90 94 2:=⟨by kernel_rfl,by kernel_rfl⟩
theorem ty_1:Ty Tryz.prog 1 1 false:=⟨by kernel_rfl,by kernel_rfl⟩
theorem ty_119:Ty Tryz.prog 119 1 false:=⟨by kernel_rfl,by kernel_rfl⟩
theorem zb1:Ty Tryz.prog 130 1 false:=⟨by kernel_rfl,by kernel_rfl⟩
theorem zjo:Ty Tryz.prog 141 6 true:=⟨by kernel_rfl,by kernel_rfl⟩
theorem ty_22:Ty Tryz.prog 22 1 false:=⟨by kernel_rfl,by kernel_rfl⟩
theorem zgm:Ty Tryz.prog 26 1 false:=⟨by kernel_rfl,by kernel_rfl⟩
theorem zgx:Ty Tryz.prog 32 1 false:=⟨by kernel_rfl,by kernel_rfl⟩
theorem zbr:Ty Tryz.prog 33 1 false:=⟨by kernel_rfl,by kernel_rfl⟩
theorem zal:Ty Tryz.prog 35 2 true:=⟨by kernel_rfl,by kernel_rfl⟩
theorem za7:Ty Tryz.prog 37 4 true:=⟨by kernel_rfl,by kernel_rfl⟩
theorem zby:Ty Tryz.prog 39 8 true:=⟨by kernel_rfl,by kernel_rfl⟩
theorem ty_4:Ty Tryz.prog 4 1 false:=⟨by kernel_rfl,by kernel_rfl⟩
theorem ty_41:Ty Tryz.prog 41 17 true:=⟨by kernel_rfl,by kernel_rfl⟩
theorem ty_5:Ty Tryz.prog 5 1 false:=⟨by kernel_rfl,by kernel_rfl⟩
theorem zbc:Ty Tryz.prog 56 16 true:=⟨by kernel_rfl,by kernel_rfl⟩
theorem zjn:Ty Tryz.prog 62 9 true:=⟨by kernel_rfl,by kernel_rfl⟩
theorem ty_80:Ty Tryz.prog 80 1 false:=⟨by kernel_rfl,by kernel_rfl⟩
theorem ty_86:Ty Tryz.prog 86 1 false:=⟨by kernel_rfl,by kernel_rfl⟩
theorem ty_92:Ty Tryz.prog 92 1 false:=⟨by kernel_rfl,by kernel_rfl⟩
theorem ty_94:Ty Tryz.prog 94 2 true:=⟨by kernel_rfl,by kernel_rfl⟩
end Go.Proofs.YtlpppkkggljdcaaGreat
