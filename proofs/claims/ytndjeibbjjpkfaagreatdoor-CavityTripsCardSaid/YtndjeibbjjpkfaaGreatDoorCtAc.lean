import Derived.Test.YtndjeibbjjpkfaaGreatDoorCtAa
import Derived.Test.YtndjeibbjjpkfaaGreatDoorCtAb
import Derived.Test.YtndjeibbjjpkfaaGreatDoorProg
set_option linter.unusedVariables false
set_option linter.unusedSimpArgs false
set_option linter.unusedSectionVars false
set_option maxRecDepth 100000
namespace Go.Proofs.YtndjeibbjjpkfaaGreatDoor
open Go Go.RowKit
theorem zba:Fld Tryz.prog 28 0 0 1:=⟨_,_,Tryz.underlying28,rfl,rfl,by kernel_rfl,by decide⟩
theorem zao:Fld Tryz.prog 28 1 1 1:=⟨_,_,Tryz.underlying28,rfl,rfl,by kernel_rfl,by decide⟩
theorem zbf:Fld Tryz.prog 30 0 0 2:=⟨_,_,Tryz.underlying30,rfl,rfl,by kernel_rfl,by decide⟩
theorem zb9:Fld Tryz.prog 30 1 2 2:=⟨_,_,Tryz.underlying30,rfl,rfl,by kernel_rfl,by decide⟩
theorem zc2:Fld Tryz.prog 32 0 0 4:=⟨_,_,Tryz.underlying32,rfl,rfl,by kernel_rfl,by decide⟩
theorem zc1:Fld Tryz.prog 32 1 4 4:=⟨_,_,Tryz.underlying32,rfl,rfl,by kernel_rfl,by decide⟩
theorem zbw:Fld Tryz.prog 32 2 8 4:=⟨_,_,Tryz.underlying32,rfl,rfl,by kernel_rfl,by decide⟩
theorem zc0:Fld Tryz.prog 32 3 12 4:=⟨_,_,Tryz.underlying32,rfl,rfl,by kernel_rfl,by decide⟩
theorem zg8:Fld Tryz.prog 55 0 0 1:=⟨_,_,Tryz.underlying55,rfl,rfl,by kernel_rfl,by decide⟩
theorem zdr:Fld Tryz.prog 55 1 1 1:=⟨_,_,Tryz.underlying55,rfl,rfl,by kernel_rfl,by decide⟩
theorem zjy:Fld Tryz.prog 55 10 10 1:=⟨_,_,Tryz.underlying55,rfl,rfl,by kernel_rfl,by decide⟩
theorem zjx:Fld Tryz.prog 55 11 11 1:=⟨_,_,Tryz.underlying55,rfl,rfl,by kernel_rfl,by decide⟩
theorem zjw:Fld Tryz.prog 55 12 12 1:=⟨_,_,Tryz.underlying55,rfl,rfl,by kernel_rfl,by decide⟩
theorem zjv:Fld Tryz.prog 55 13 13 1:=⟨_,_,Tryz.underlying55,rfl,rfl,by kernel_rfl,by decide⟩
theorem zju:Fld Tryz.prog 55 14 14 1:=⟨_,_,Tryz.underlying55,rfl,rfl,by kernel_rfl,by decide⟩
theorem zjt:Fld Tryz.prog 55 15 15 1:=⟨_,_,Tryz.underlying55,rfl,rfl,by kernel_rfl,by decide⟩
theorem zjs:Fld Tryz.prog 55 16 16 1:=⟨_,_,Tryz.underlying55,rfl,rfl,by kernel_rfl,by decide⟩
theorem zmz:Fld Tryz.prog 55 2 2 1:=⟨_,_,Tryz.underlying55,rfl,rfl,by kernel_rfl,by decide⟩
theorem zmy:Fld Tryz.prog 55 3 3 1:=⟨_,_,Tryz.underlying55,rfl,rfl,by kernel_rfl,by decide⟩
theorem zmx:Fld Tryz.prog 55 4 4 1:=⟨_,_,Tryz.underlying55,rfl,rfl,by kernel_rfl,by decide⟩
theorem zmw:Fld Tryz.prog 55 5 5 1:=⟨_,_,Tryz.underlying55,rfl,rfl,by kernel_rfl,by decide⟩
theorem zmv:Fld Tryz.prog 55 6 6 1:=⟨_,_,Tryz.underlying55,rfl,rfl,by kernel_rfl,by decide⟩
theorem zmu:Fld Tryz.prog 55 7 7 1:=⟨_,_,Tryz.underlying55,rfl,rfl,by kernel_rfl,by decide⟩
theorem zmt:Fld Tryz.prog 55 8 8 1:=⟨_,_,Tryz.underlying55,rfl,rfl,by kernel_rfl,by decide⟩
theorem zdq:Fld Tryz.prog 55 9 9 1:=⟨_,_,Tryz.underlying55,rfl,rfl,by kernel_rfl,by decide⟩
theorem zcw:Fld Tryz.prog 64 0 0 1:=⟨_,_,Tryz.underlying64,rfl,rfl,by kernel_rfl,by decide⟩
theorem zcd:Fld Tryz.prog 64 1 1 4:=⟨_,_,Tryz.underlying64,rfl,rfl,by kernel_rfl,by decide⟩
theorem zcg:Fld Tryz.prog 64 2 5 4:=⟨_,_,Tryz.underlying64,rfl,rfl,by kernel_rfl,by decide⟩
theorem fld_72_0:Fld Tryz.prog 72 0 0 1:=⟨_,_,Tryz.underlying72,rfl,rfl,by kernel_rfl,by decide⟩
theorem fld_72_1:Fld Tryz.prog 72 1 1 1:=⟨_,_,Tryz.underlying72,rfl,rfl,by kernel_rfl,by decide⟩
theorem zg7:Fld Tryz.prog 95 0 0 1:=⟨_,_,Tryz.underlying95,rfl,rfl,by kernel_rfl,by decide⟩
theorem zj2:Fld Tryz.prog 95 1 1 1:=⟨_,_,Tryz.underlying95,rfl,rfl,by kernel_rfl,by decide⟩
theorem zj1:Fld Tryz.prog 95 2 2 1:=⟨_,_,Tryz.underlying95,rfl,rfl,by kernel_rfl,by decide⟩
theorem zg6:Fld Tryz.prog 97 0 0 1:=⟨_,_,Tryz.underlying97,rfl,rfl,by kernel_rfl,by decide⟩
theorem zj0:Fld Tryz.prog 97 1 1 1:=⟨_,_,Tryz.underlying97,rfl,rfl,by kernel_rfl,by decide⟩
theorem ziz:Fld Tryz.prog 97 2 2 1:=⟨_,_,Tryz.underlying97,rfl,rfl,by kernel_rfl,by decide⟩
theorem zeo:Sl Tryz.prog 117 30 4:=⟨by kernel_rfl,by kernel_rfl⟩
theorem zgw:Sl Tryz.prog 22 64 9:=⟨by kernel_rfl,by kernel_rfl⟩
theorem zuw:Sl Tryz.prog 237 28 2:=⟨by kernel_rfl,by kernel_rfl⟩
theorem zbh:Sl Tryz.prog 26 98 1:=⟨by kernel_rfl,by kernel_rfl⟩
theorem sl_38:Sl Tryz.prog 38 97 3:=⟨by kernel_rfl,by kernel_rfl⟩
theorem sl_46:Sl Tryz.prog 46 95 3:=⟨by kernel_rfl,by kernel_rfl⟩
theorem sl_60:Sl Tryz.prog 60 3 1:=⟨by kernel_rfl,by kernel_rfl⟩
theorem sl_68:Sl Tryz.prog 68 72 2:=⟨by kernel_rfl,by kernel_rfl⟩
theorem ty_1:Ty Tryz.prog 1 1 false:=⟨by kernel_rfl,by kernel_rfl⟩
theorem znj:Ty Tryz.prog 208 6 true:=⟨by kernel_rfl,by kernel_rfl⟩
theorem zkg:Ty Tryz.prog 22 1 false:=⟨by kernel_rfl,by kernel_rfl⟩
theorem zbd:Ty Tryz.prog 26 1 false:=⟨by kernel_rfl,by kernel_rfl⟩
theorem zaf:Ty Tryz.prog 28 2 true:=⟨by kernel_rfl,by kernel_rfl⟩
theorem ty_3:Ty Tryz.prog 3 1 false:=⟨by kernel_rfl,by kernel_rfl⟩
theorem zad:Ty Tryz.prog 30 4 true:=⟨by kernel_rfl,by kernel_rfl⟩
theorem zb2:Ty Tryz.prog 32 16 true:=⟨by kernel_rfl,by kernel_rfl⟩
theorem zkf:Ty Tryz.prog 38 1 false:=⟨by kernel_rfl,by kernel_rfl⟩
theorem ty_39:Ty Tryz.prog 39 1 false:=⟨by kernel_rfl,by kernel_rfl⟩
theorem ty_4:Ty Tryz.prog 4 1 false:=⟨by kernel_rfl,by kernel_rfl⟩
theorem ty_40:Ty Tryz.prog 40 1 false:=⟨by kernel_rfl,by kernel_rfl⟩
theorem ty_41:Ty Tryz.prog 41 1 false:=⟨by kernel_rfl,by kernel_rfl⟩
theorem ty_42:Ty Tryz.prog 42 1 false:=⟨by kernel_rfl,by kernel_rfl⟩
theorem ty_43:Ty Tryz.prog 43 1 false:=⟨by kernel_rfl,by kernel_rfl⟩
theorem ty_44:Ty Tryz.prog 44 1 false:=⟨by kernel_rfl,by kernel_rfl⟩
theorem ty_45:Ty Tryz.prog 45 1 false:=⟨by kernel_rfl,by kernel_rfl⟩
theorem zke:Ty Tryz.prog 46 1 false:=⟨by kernel_rfl,by kernel_rfl⟩
theorem ty_47:Ty Tryz.prog 47 1 false:=⟨by kernel_rfl,by kernel_rfl⟩
theorem ty_48:Ty Tryz.prog 48 1 false:=⟨by kernel_rfl,by kernel_rfl⟩
theorem ty_49:Ty Tryz.prog 49 1 false:=⟨by kernel_rfl,by kernel_rfl⟩
theorem ty_50:Ty Tryz.prog 50 1 false:=⟨by kernel_rfl,by kernel_rfl⟩
theorem ty_51:Ty Tryz.prog 51 1 false:=⟨by kernel_rfl,by kernel_rfl⟩
theorem ty_52:Ty Tryz.prog 52 1 false:=⟨by kernel_rfl,by kernel_rfl⟩
theorem ty_53:Ty Tryz.prog 53 1 false:=⟨by kernel_rfl,by kernel_rfl⟩
theorem ty_55:Ty Tryz.prog 55 17 true:=⟨by kernel_rfl,by kernel_rfl⟩
theorem zgu:Ty Tryz.prog 62 1 false:=⟨by kernel_rfl,by kernel_rfl⟩
theorem zed:Ty Tryz.prog 64 9 true:=⟨by kernel_rfl,by kernel_rfl⟩
theorem ty_70:Ty Tryz.prog 70 1 false:=⟨by kernel_rfl,by kernel_rfl⟩
theorem ty_72:Ty Tryz.prog 72 2 true:=⟨by kernel_rfl,by kernel_rfl⟩
theorem zsv:Ty Tryz.prog 95 3 true:=⟨by kernel_rfl,by kernel_rfl⟩
theorem zsu:Ty Tryz.prog 97 3 true:=⟨by kernel_rfl,by kernel_rfl⟩
theorem zbj:Ty Tryz.prog 98 1 false:=⟨by kernel_rfl,by kernel_rfl⟩
end Go.Proofs.YtndjeibbjjpkfaaGreatDoor
