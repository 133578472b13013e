import Derived.Test.YthncfchnkjemiaaGreatDoorRmAa
import Derived.Test.YthncfchnkjemiaaGreatDoorRmAb
import Derived.Test.YthncfchnkjemiaaGreatDoorProg
set_option linter.unusedVariables false
set_option linter.unusedSimpArgs false
set_option linter.unusedSectionVars false
set_option maxRecDepth 100000
namespace Go.Proofs.YthncfchnkjemiaaGreatDoor
open Go Go.RowKit
theorem zde:Fld Tryz.prog 141 0 0 1:=⟨_,_,Tryz.underlying141,rfl,rfl,by kernel_rfl,by decide⟩
theorem zf6:Fld Tryz.prog 171 0 0 1:=⟨_,_,Tryz.underlying171,rfl,rfl,by kernel_rfl,by decide⟩
theorem zhr:Fld Tryz.prog 171 1 1 1:=⟨_,_,Tryz.underlying171,rfl,rfl,by kernel_rfl,by decide⟩
theorem zhq:Fld Tryz.prog 171 2 2 1:=⟨_,_,Tryz.underlying171,rfl,rfl,by kernel_rfl,by decide⟩
theorem zbd:Fld Tryz.prog 24 0 0 1:=⟨_,_,Tryz.underlying24,rfl,rfl,by kernel_rfl,by decide⟩
theorem zal:Fld Tryz.prog 24 1 1 1:=⟨_,_,Tryz.underlying24,rfl,rfl,by kernel_rfl,by decide⟩
theorem zbn:Fld Tryz.prog 26 0 0 2:=⟨_,_,Tryz.underlying26,rfl,rfl,by kernel_rfl,by decide⟩
theorem zbf:Fld Tryz.prog 26 1 2 2:=⟨_,_,Tryz.underlying26,rfl,rfl,by kernel_rfl,by decide⟩
theorem zc4:Fld Tryz.prog 28 0 0 4:=⟨_,_,Tryz.underlying28,rfl,rfl,by kernel_rfl,by decide⟩
theorem zca:Fld Tryz.prog 28 1 4 4:=⟨_,_,Tryz.underlying28,rfl,rfl,by kernel_rfl,by decide⟩
theorem zc6:Fld Tryz.prog 28 2 8 4:=⟨_,_,Tryz.underlying28,rfl,rfl,by kernel_rfl,by decide⟩
theorem zc1:Fld Tryz.prog 28 3 12 4:=⟨_,_,Tryz.underlying28,rfl,rfl,by kernel_rfl,by decide⟩
theorem zj5:Fld Tryz.prog 30 0 0 4:=⟨_,_,Tryz.underlying30,rfl,rfl,by kernel_rfl,by decide⟩
theorem zj4:Fld Tryz.prog 30 1 4 4:=⟨_,_,Tryz.underlying30,rfl,rfl,by kernel_rfl,by decide⟩
theorem zmc:Fld Tryz.prog 59 0 0 1:=⟨_,_,Tryz.underlying59,rfl,rfl,by kernel_rfl,by decide⟩
theorem ze6:Fld Tryz.prog 59 1 1 1:=⟨_,_,Tryz.underlying59,rfl,rfl,by kernel_rfl,by decide⟩
theorem zjy:Fld Tryz.prog 59 10 10 1:=⟨_,_,Tryz.underlying59,rfl,rfl,by kernel_rfl,by decide⟩
theorem zjx:Fld Tryz.prog 59 11 11 1:=⟨_,_,Tryz.underlying59,rfl,rfl,by kernel_rfl,by decide⟩
theorem zjw:Fld Tryz.prog 59 12 12 1:=⟨_,_,Tryz.underlying59,rfl,rfl,by kernel_rfl,by decide⟩
theorem zjv:Fld Tryz.prog 59 13 13 1:=⟨_,_,Tryz.underlying59,rfl,rfl,by kernel_rfl,by decide⟩
theorem zju:Fld Tryz.prog 59 14 14 1:=⟨_,_,Tryz.underlying59,rfl,rfl,by kernel_rfl,by decide⟩
theorem zjt:Fld Tryz.prog 59 15 15 1:=⟨_,_,Tryz.underlying59,rfl,rfl,by kernel_rfl,by decide⟩
theorem zjs:Fld Tryz.prog 59 16 16 1:=⟨_,_,Tryz.underlying59,rfl,rfl,by kernel_rfl,by decide⟩
theorem zmb:Fld Tryz.prog 59 2 2 1:=⟨_,_,Tryz.underlying59,rfl,rfl,by kernel_rfl,by decide⟩
theorem zma:Fld Tryz.prog 59 3 3 1:=⟨_,_,Tryz.underlying59,rfl,rfl,by kernel_rfl,by decide⟩
theorem zm9:Fld Tryz.prog 59 4 4 1:=⟨_,_,Tryz.underlying59,rfl,rfl,by kernel_rfl,by decide⟩
theorem zm8:Fld Tryz.prog 59 5 5 1:=⟨_,_,Tryz.underlying59,rfl,rfl,by kernel_rfl,by decide⟩
theorem zm7:Fld Tryz.prog 59 6 6 1:=⟨_,_,Tryz.underlying59,rfl,rfl,by kernel_rfl,by decide⟩
theorem zm6:Fld Tryz.prog 59 7 7 1:=⟨_,_,Tryz.underlying59,rfl,rfl,by kernel_rfl,by decide⟩
theorem zm5:Fld Tryz.prog 59 8 8 1:=⟨_,_,Tryz.underlying59,rfl,rfl,by kernel_rfl,by decide⟩
theorem zm4:Fld Tryz.prog 59 9 9 1:=⟨_,_,Tryz.underlying59,rfl,rfl,by kernel_rfl,by decide⟩
theorem sl_114:Sl Tryz.prog 114 3 1:=⟨by kernel_rfl,by kernel_rfl⟩
theorem zdu:Sl Tryz.prog 142 26 4:=⟨by kernel_rfl,by kernel_rfl⟩
theorem zbi:Sl Tryz.prog 22 168 1:=⟨by kernel_rfl,by kernel_rfl⟩
theorem zts:Sl Tryz.prog 306 24 2:=⟨by kernel_rfl,by kernel_rfl⟩
theorem sl_42:Sl Tryz.prog 42 171 3:=⟨by kernel_rfl,by kernel_rfl⟩
theorem zmw:Ty Tryz.prog 151 16 true:=⟨by kernel_rfl,by kernel_rfl⟩
theorem zb3:Ty Tryz.prog 168 1 false:=⟨by kernel_rfl,by kernel_rfl⟩
theorem zkh:Ty Tryz.prog 171 3 true:=⟨by kernel_rfl,by kernel_rfl⟩
theorem zbg:Ty Tryz.prog 22 1 false:=⟨by kernel_rfl,by kernel_rfl⟩
theorem zac:Ty Tryz.prog 24 2 true:=⟨by kernel_rfl,by kernel_rfl⟩
theorem zaf:Ty Tryz.prog 26 4 true:=⟨by kernel_rfl,by kernel_rfl⟩
theorem zb4:Ty Tryz.prog 28 16 true:=⟨by kernel_rfl,by kernel_rfl⟩
theorem ty_3:Ty Tryz.prog 3 1 false:=⟨by kernel_rfl,by kernel_rfl⟩
theorem zri:Ty Tryz.prog 30 8 true:=⟨by kernel_rfl,by kernel_rfl⟩
theorem zkb:Ty Tryz.prog 34 1 false:=⟨by kernel_rfl,by kernel_rfl⟩
theorem ty_4:Ty Tryz.prog 4 1 false:=⟨by kernel_rfl,by kernel_rfl⟩
theorem zka:Ty Tryz.prog 42 1 false:=⟨by kernel_rfl,by kernel_rfl⟩
theorem ty_43:Ty Tryz.prog 43 1 false:=⟨by kernel_rfl,by kernel_rfl⟩
theorem ty_44:Ty Tryz.prog 44 1 false:=⟨by kernel_rfl,by kernel_rfl⟩
theorem ty_45:Ty Tryz.prog 45 1 false:=⟨by kernel_rfl,by kernel_rfl⟩
theorem ty_46:Ty Tryz.prog 46 1 false:=⟨by kernel_rfl,by kernel_rfl⟩
theorem ty_47:Ty Tryz.prog 47 1 false:=⟨by kernel_rfl,by kernel_rfl⟩
theorem ty_48:Ty Tryz.prog 48 1 false:=⟨by kernel_rfl,by kernel_rfl⟩
theorem ty_49:Ty Tryz.prog 49 1 false:=⟨by kernel_rfl,by kernel_rfl⟩
theorem ty_50:Ty Tryz.prog 50 1 false:=⟨by kernel_rfl,by kernel_rfl⟩
theorem ty_51:Ty Tryz.prog 51 1 false:=⟨by kernel_rfl,by kernel_rfl⟩
theorem ty_52:Ty Tryz.prog 52 1 false:=⟨by kernel_rfl,by kernel_rfl⟩
theorem ty_53:Ty Tryz.prog 53 1 false:=⟨by kernel_rfl,by kernel_rfl⟩
theorem ty_54:Ty Tryz.prog 54 1 false:=⟨by kernel_rfl,by kernel_rfl⟩
theorem ty_55:Ty Tryz.prog 55 1 false:=⟨by kernel_rfl,by kernel_rfl⟩
theorem ty_56:Ty Tryz.prog 56 1 false:=⟨by kernel_rfl,by kernel_rfl⟩
theorem ty_57:Ty Tryz.prog 57 1 false:=⟨by kernel_rfl,by kernel_rfl⟩
theorem ty_59:Ty Tryz.prog 59 17 true:=⟨by kernel_rfl,by kernel_rfl⟩
end Go.Proofs.YthncfchnkjemiaaGreatDoor
