import Derived.Test.YthdbhckhignfcaaGreatDoorBxAa
import Derived.Test.YthdbhckhignfcaaGreatDoorBxAb
import Derived.Test.YthdbhckhignfcaaGreatDoorProg
set_option linter.unusedVariables false
set_option linter.unusedSimpArgs false
set_option linter.unusedSectionVars false
set_option maxRecDepth 100000
namespace Go.Proofs.YthdbhckhignfcaaGreatDoor
open Go Go.RowKit
theorem zf0:Fld Tryz.prog 100 0 0 1:=⟨_,_,Tryz.underlying100,rfl,rfl,by kernel_rfl,by decide⟩
theorem zhx:Fld Tryz.prog 100 1 1 1:=⟨_,_,Tryz.underlying100,rfl,rfl,by kernel_rfl,by decide⟩
theorem zhw:Fld Tryz.prog 100 2 2 1:=⟨_,_,Tryz.underlying100,rfl,rfl,by kernel_rfl,by decide⟩
theorem zez:Fld Tryz.prog 103 0 0 1:=⟨_,_,Tryz.underlying103,rfl,rfl,by kernel_rfl,by decide⟩
theorem zhv:Fld Tryz.prog 103 1 1 1:=⟨_,_,Tryz.underlying103,rfl,rfl,by kernel_rfl,by decide⟩
theorem zhu:Fld Tryz.prog 103 2 2 1:=⟨_,_,Tryz.underlying103,rfl,rfl,by kernel_rfl,by decide⟩
theorem zey:Fld Tryz.prog 105 0 0 1:=⟨_,_,Tryz.underlying105,rfl,rfl,by kernel_rfl,by decide⟩
theorem zht:Fld Tryz.prog 105 1 1 1:=⟨_,_,Tryz.underlying105,rfl,rfl,by kernel_rfl,by decide⟩
theorem zhs:Fld Tryz.prog 105 2 2 1:=⟨_,_,Tryz.underlying105,rfl,rfl,by kernel_rfl,by decide⟩
theorem zb7:Fld Tryz.prog 25 0 0 1:=⟨_,_,Tryz.underlying25,rfl,rfl,by kernel_rfl,by decide⟩
theorem zah:Fld Tryz.prog 25 1 1 1:=⟨_,_,Tryz.underlying25,rfl,rfl,by kernel_rfl,by decide⟩
theorem zbf:Fld Tryz.prog 27 0 0 2:=⟨_,_,Tryz.underlying27,rfl,rfl,by kernel_rfl,by decide⟩
theorem zbb:Fld Tryz.prog 27 1 2 2:=⟨_,_,Tryz.underlying27,rfl,rfl,by kernel_rfl,by decide⟩
theorem zci:Fld Tryz.prog 29 0 0 4:=⟨_,_,Tryz.underlying29,rfl,rfl,by kernel_rfl,by decide⟩
theorem zch:Fld Tryz.prog 29 1 4 4:=⟨_,_,Tryz.underlying29,rfl,rfl,by kernel_rfl,by decide⟩
theorem ze4:Fld Tryz.prog 59 0 0 1:=⟨_,_,Tryz.underlying59,rfl,rfl,by kernel_rfl,by decide⟩
theorem zdr:Fld Tryz.prog 59 1 1 1:=⟨_,_,Tryz.underlying59,rfl,rfl,by kernel_rfl,by decide⟩
theorem zko:Fld Tryz.prog 59 10 10 1:=⟨_,_,Tryz.underlying59,rfl,rfl,by kernel_rfl,by decide⟩
theorem zkn:Fld Tryz.prog 59 11 11 1:=⟨_,_,Tryz.underlying59,rfl,rfl,by kernel_rfl,by decide⟩
theorem zkm:Fld Tryz.prog 59 12 12 1:=⟨_,_,Tryz.underlying59,rfl,rfl,by kernel_rfl,by decide⟩
theorem zkl:Fld Tryz.prog 59 13 13 1:=⟨_,_,Tryz.underlying59,rfl,rfl,by kernel_rfl,by decide⟩
theorem zkk:Fld Tryz.prog 59 14 14 1:=⟨_,_,Tryz.underlying59,rfl,rfl,by kernel_rfl,by decide⟩
theorem zkj:Fld Tryz.prog 59 15 15 1:=⟨_,_,Tryz.underlying59,rfl,rfl,by kernel_rfl,by decide⟩
theorem zki:Fld Tryz.prog 59 16 16 1:=⟨_,_,Tryz.underlying59,rfl,rfl,by kernel_rfl,by decide⟩
theorem znp:Fld Tryz.prog 59 2 2 1:=⟨_,_,Tryz.underlying59,rfl,rfl,by kernel_rfl,by decide⟩
theorem zno:Fld Tryz.prog 59 3 3 1:=⟨_,_,Tryz.underlying59,rfl,rfl,by kernel_rfl,by decide⟩
theorem znn:Fld Tryz.prog 59 4 4 1:=⟨_,_,Tryz.underlying59,rfl,rfl,by kernel_rfl,by decide⟩
theorem znm:Fld Tryz.prog 59 5 5 1:=⟨_,_,Tryz.underlying59,rfl,rfl,by kernel_rfl,by decide⟩
theorem znl:Fld Tryz.prog 59 6 6 1:=⟨_,_,Tryz.underlying59,rfl,rfl,by kernel_rfl,by decide⟩
theorem znk:Fld Tryz.prog 59 7 7 1:=⟨_,_,Tryz.underlying59,rfl,rfl,by kernel_rfl,by decide⟩
theorem zdq:Fld Tryz.prog 59 8 8 1:=⟨_,_,Tryz.underlying59,rfl,rfl,by kernel_rfl,by decide⟩
theorem zdp:Fld Tryz.prog 59 9 9 1:=⟨_,_,Tryz.underlying59,rfl,rfl,by kernel_rfl,by decide⟩
theorem zcy:Fld Tryz.prog 69 0 0 1:=⟨_,_,Tryz.underlying69,rfl,rfl,by kernel_rfl,by decide⟩
theorem zc8:Fld Tryz.prog 69 1 1 4:=⟨_,_,Tryz.underlying69,rfl,rfl,by kernel_rfl,by decide⟩
theorem zcf:Fld Tryz.prog 69 2 5 4:=⟨_,_,Tryz.underlying69,rfl,rfl,by kernel_rfl,by decide⟩
theorem zjq:Fld Tryz.prog 78 0 0 4:=⟨_,_,Tryz.underlying78,rfl,rfl,by kernel_rfl,by decide⟩
theorem zgl:Fld Tryz.prog 78 1 4 4:=⟨_,_,Tryz.underlying78,rfl,rfl,by kernel_rfl,by decide⟩
theorem zgk:Fld Tryz.prog 78 2 8 4:=⟨_,_,Tryz.underlying78,rfl,rfl,by kernel_rfl,by decide⟩
theorem zjp:Fld Tryz.prog 78 3 12 4:=⟨_,_,Tryz.underlying78,rfl,rfl,by kernel_rfl,by decide⟩
theorem zvg:Sl Tryz.prog 217 25 2:=⟨by kernel_rfl,by kernel_rfl⟩
theorem zhc:Sl Tryz.prog 22 69 9:=⟨by kernel_rfl,by kernel_rfl⟩
theorem zbc:Sl Tryz.prog 23 106 1:=⟨by kernel_rfl,by kernel_rfl⟩
theorem zoe:Sl Tryz.prog 35 29 8:=⟨by kernel_rfl,by kernel_rfl⟩
theorem sl_42:Sl Tryz.prog 42 105 3:=⟨by kernel_rfl,by kernel_rfl⟩
theorem sl_49:Sl Tryz.prog 49 103 3:=⟨by kernel_rfl,by kernel_rfl⟩
theorem sl_50:Sl Tryz.prog 50 100 3:=⟨by kernel_rfl,by kernel_rfl⟩
theorem sl_65:Sl Tryz.prog 65 3 1:=⟨by kernel_rfl,by kernel_rfl⟩
theorem zk1:Sl Tryz.prog 75 27 4:=⟨by kernel_rfl,by kernel_rfl⟩
theorem ty_1:Ty Tryz.prog 1 1 false:=⟨by kernel_rfl,by kernel_rfl⟩
theorem zli:Ty Tryz.prog 100 3 true:=⟨by kernel_rfl,by kernel_rfl⟩
theorem zlh:Ty Tryz.prog 103 3 true:=⟨by kernel_rfl,by kernel_rfl⟩
theorem zlg:Ty Tryz.prog 105 3 true:=⟨by kernel_rfl,by kernel_rfl⟩
theorem zb0:Ty Tryz.prog 106 1 false:=⟨by kernel_rfl,by kernel_rfl⟩
theorem zl5:Ty Tryz.prog 22 1 false:=⟨by kernel_rfl,by kernel_rfl⟩
theorem zb9:Ty Tryz.prog 23 1 false:=⟨by kernel_rfl,by kernel_rfl⟩
theorem zac:Ty Tryz.prog 25 2 true:=⟨by kernel_rfl,by kernel_rfl⟩
theorem zar:Ty Tryz.prog 27 4 true:=⟨by kernel_rfl,by kernel_rfl⟩
theorem zdg:Ty Tryz.prog 29 8 true:=⟨by kernel_rfl,by kernel_rfl⟩
theorem ty_3:Ty Tryz.prog 3 1 false:=⟨by kernel_rfl,by kernel_rfl⟩
theorem zl4:Ty Tryz.prog 35 1 false:=⟨by kernel_rfl,by kernel_rfl⟩
theorem ty_4:Ty Tryz.prog 4 1 false:=⟨by kernel_rfl,by kernel_rfl⟩
theorem zl3:Ty Tryz.prog 42 1 false:=⟨by kernel_rfl,by kernel_rfl⟩
theorem ty_43:Ty Tryz.prog 43 1 false:=⟨by kernel_rfl,by kernel_rfl⟩
theorem ty_44:Ty Tryz.prog 44 1 false:=⟨by kernel_rfl,by kernel_rfl⟩
theorem ty_45:Ty Tryz.prog 45 1 false:=⟨by kernel_rfl,by kernel_rfl⟩
theorem ty_46:Ty Tryz.prog 46 1 false:=⟨by kernel_rfl,by kernel_rfl⟩
theorem ty_47:Ty Tryz.prog 47 1 false:=⟨by kernel_rfl,by kernel_rfl⟩
theorem ty_48:Ty Tryz.prog 48 1 false:=⟨by kernel_rfl,by kernel_rfl⟩
theorem zl2:Ty Tryz.prog 49 1 false:=⟨by kernel_rfl,by kernel_rfl⟩
theorem zl1:Ty Tryz.prog 50 1 false:=⟨by kernel_rfl,by kernel_rfl⟩
theorem ty_51:Ty Tryz.prog 51 1 false:=⟨by kernel_rfl,by kernel_rfl⟩
theorem ty_52:Ty Tryz.prog 52 1 false:=⟨by kernel_rfl,by kernel_rfl⟩
theorem ty_53:Ty Tryz.prog 53 1 false:=⟨by kernel_rfl,by kernel_rfl⟩
theorem ty_54:Ty Tryz.prog 54 1 false:=⟨by kernel_rfl,by kernel_rfl⟩
theorem ty_55:Ty Tryz.prog 55 1 false:=⟨by kernel_rfl,by kernel_rfl⟩
theorem ty_56:Ty Tryz.prog 56 1 false:=⟨by kernel_rfl,by kernel_rfl⟩
theorem ty_57:Ty Tryz.prog 57 1 false:=⟨by kernel_rfl,by kernel_rfl⟩
theorem ty_59:Ty Tryz.prog 59 17 true:=⟨by kernel_rfl,by kernel_rfl⟩
theorem zha:Ty Tryz.prog 67 1 false:=⟨by kernel_rfl,by kernel_rfl⟩
theorem zeg:Ty Tryz.prog 69 9 true:=⟨by kernel_rfl,by kernel_rfl⟩
theorem zcb:Ty Tryz.prog 78 16 true:=⟨by kernel_rfl,by kernel_rfl⟩
theorem zv0:Ty Tryz.prog 95 6 true:=⟨by kernel_rfl,by kernel_rfl⟩
end Go.Proofs.YthdbhckhignfcaaGreatDoor
