import Derived.Test.YtmfgafhlaeolgaaGreatDoorBtAa
import Derived.Test.YtmfgafhlaeolgaaGreatDoorBtAb
import Derived.Test.YtmfgafhlaeolgaaGreatDoorProg
set_option linter.unusedVariables false
set_option linter.unusedSimpArgs false
set_option linter.unusedSectionVars false
set_option maxRecDepth 100000
namespace Go.Proofs.YtmfgafhlaeolgaaGreatDoor
open Go Go.RowKit
theorem zb6:Fld Tryz.prog 31 0 0 1:=⟨_,_,Tryz.underlying31,rfl,rfl,by kernel_rfl,by decide⟩
theorem zaj:Fld Tryz.prog 31 1 1 1:=⟨_,_,Tryz.underlying31,rfl,rfl,by kernel_rfl,by decide⟩
theorem zbx:Fld Tryz.prog 33 0 0 2:=⟨_,_,Tryz.underlying33,rfl,rfl,by kernel_rfl,by decide⟩
theorem zbq:Fld Tryz.prog 33 1 2 2:=⟨_,_,Tryz.underlying33,rfl,rfl,by kernel_rfl,by decide⟩
theorem zfo:Fld Tryz.prog 55 0 0 1:=⟨_,_,Tryz.underlying55,rfl,rfl,by kernel_rfl,by decide⟩
theorem zdm:Fld Tryz.prog 55 1 1 1:=⟨_,_,Tryz.underlying55,rfl,rfl,by kernel_rfl,by decide⟩
theorem zir:Fld Tryz.prog 55 10 10 1:=⟨_,_,Tryz.underlying55,rfl,rfl,by kernel_rfl,by decide⟩
theorem ziq:Fld Tryz.prog 55 11 11 1:=⟨_,_,Tryz.underlying55,rfl,rfl,by kernel_rfl,by decide⟩
theorem zio:Fld Tryz.prog 55 12 12 1:=⟨_,_,Tryz.underlying55,rfl,rfl,by kernel_rfl,by decide⟩
theorem zin:Fld Tryz.prog 55 13 13 1:=⟨_,_,Tryz.underlying55,rfl,rfl,by kernel_rfl,by decide⟩
theorem zim:Fld Tryz.prog 55 14 14 1:=⟨_,_,Tryz.underlying55,rfl,rfl,by kernel_rfl,by decide⟩
theorem zil:Fld Tryz.prog 55 15 15 1:=⟨_,_,Tryz.underlying55,rfl,rfl,by kernel_rfl,by decide⟩
theorem zik:Fld Tryz.prog 55 16 16 1:=⟨_,_,Tryz.underlying55,rfl,rfl,by kernel_rfl,by decide⟩
theorem zlg:Fld Tryz.prog 55 2 2 1:=⟨_,_,Tryz.underlying55,rfl,rfl,by kernel_rfl,by decide⟩
theorem zlf:Fld Tryz.prog 55 3 3 1:=⟨_,_,Tryz.underlying55,rfl,rfl,by kernel_rfl,by decide⟩
theorem zle:Fld Tryz.prog 55 4 4 1:=⟨_,_,Tryz.underlying55,rfl,rfl,by kernel_rfl,by decide⟩
theorem zld:Fld Tryz.prog 55 5 5 1:=⟨_,_,Tryz.underlying55,rfl,rfl,by kernel_rfl,by decide⟩
theorem zlc:Fld Tryz.prog 55 6 6 1:=⟨_,_,Tryz.underlying55,rfl,rfl,by kernel_rfl,by decide⟩
theorem zlb:Fld Tryz.prog 55 7 7 1:=⟨_,_,Tryz.underlying55,rfl,rfl,by kernel_rfl,by decide⟩
theorem zla:Fld Tryz.prog 55 8 8 1:=⟨_,_,Tryz.underlying55,rfl,rfl,by kernel_rfl,by decide⟩
theorem zdl:Fld Tryz.prog 55 9 9 1:=⟨_,_,Tryz.underlying55,rfl,rfl,by kernel_rfl,by decide⟩
theorem zcc:Fld Tryz.prog 64 0 0 1:=⟨_,_,Tryz.underlying64,rfl,rfl,by kernel_rfl,by decide⟩
theorem zc4:Fld Tryz.prog 64 1 1 4:=⟨_,_,Tryz.underlying64,rfl,rfl,by kernel_rfl,by decide⟩
theorem zc7:Fld Tryz.prog 64 2 5 4:=⟨_,_,Tryz.underlying64,rfl,rfl,by kernel_rfl,by decide⟩
theorem zfn:Fld Tryz.prog 90 0 0 1:=⟨_,_,Tryz.underlying90,rfl,rfl,by kernel_rfl,by decide⟩
theorem zhx:Fld Tryz.prog 90 1 1 1:=⟨_,_,Tryz.underlying90,rfl,rfl,by kernel_rfl,by decide⟩
theorem zhw:Fld Tryz.prog 90 2 2 1:=⟨_,_,Tryz.underlying90,rfl,rfl,by kernel_rfl,by decide⟩
theorem zfm:Fld Tryz.prog 93 0 0 1:=⟨_,_,Tryz.underlying93,rfl,rfl,by kernel_rfl,by decide⟩
theorem zhv:Fld Tryz.prog 93 1 1 1:=⟨_,_,Tryz.underlying93,rfl,rfl,by kernel_rfl,by decide⟩
theorem zhu:Fld Tryz.prog 93 2 2 1:=⟨_,_,Tryz.underlying93,rfl,rfl,by kernel_rfl,by decide⟩
theorem zt5:Sl Tryz.prog 212 31 2:=⟨by kernel_rfl,by kernel_rfl⟩
theorem ze3:Sl Tryz.prog 22 64 9:=⟨by kernel_rfl,by kernel_rfl⟩
theorem zb4:Sl Tryz.prog 29 88 1:=⟨by kernel_rfl,by kernel_rfl⟩
theorem sl_38:Sl Tryz.prog 38 93 3:=⟨by kernel_rfl,by kernel_rfl⟩
theorem sl_46:Sl Tryz.prog 46 90 3:=⟨by kernel_rfl,by kernel_rfl⟩
theorem sl_60:Sl Tryz.prog 60 3 1:=⟨by kernel_rfl,by kernel_rfl⟩
theorem zkc:Sl Tryz.prog 86 33 4:=⟨by kernel_rfl,by kernel_rfl⟩
theorem zg1:Ty Tryz.prog 22 1 false:=⟨by kernel_rfl,by kernel_rfl⟩
theorem zb7:Ty Tryz.prog 29 1 false:=⟨by kernel_rfl,by kernel_rfl⟩
theorem ty_3:Ty Tryz.prog 3 1 false:=⟨by kernel_rfl,by kernel_rfl⟩
theorem zah:Ty Tryz.prog 31 2 true:=⟨by kernel_rfl,by kernel_rfl⟩
theorem zb5:Ty Tryz.prog 33 4 true:=⟨by kernel_rfl,by kernel_rfl⟩
theorem zja:Ty Tryz.prog 38 1 false:=⟨by kernel_rfl,by kernel_rfl⟩
theorem ty_39:Ty Tryz.prog 39 1 false:=⟨by kernel_rfl,by kernel_rfl⟩
theorem ty_4:Ty Tryz.prog 4 1 false:=⟨by kernel_rfl,by kernel_rfl⟩
theorem ty_40:Ty Tryz.prog 40 1 false:=⟨by kernel_rfl,by kernel_rfl⟩
theorem ty_41:Ty Tryz.prog 41 1 false:=⟨by kernel_rfl,by kernel_rfl⟩
theorem ty_42:Ty Tryz.prog 42 1 false:=⟨by kernel_rfl,by kernel_rfl⟩
theorem ty_43:Ty Tryz.prog 43 1 false:=⟨by kernel_rfl,by kernel_rfl⟩
theorem ty_44:Ty Tryz.prog 44 1 false:=⟨by kernel_rfl,by kernel_rfl⟩
theorem ty_45:Ty Tryz.prog 45 1 false:=⟨by kernel_rfl,by kernel_rfl⟩
theorem zj9:Ty Tryz.prog 46 1 false:=⟨by kernel_rfl,by kernel_rfl⟩
theorem ty_47:Ty Tryz.prog 47 1 false:=⟨by kernel_rfl,by kernel_rfl⟩
theorem ty_48:Ty Tryz.prog 48 1 false:=⟨by kernel_rfl,by kernel_rfl⟩
theorem ty_49:Ty Tryz.prog 49 1 false:=⟨by kernel_rfl,by kernel_rfl⟩
theorem ty_50:Ty Tryz.prog 50 1 false:=⟨by kernel_rfl,by kernel_rfl⟩
theorem ty_51:Ty Tryz.prog 51 1 false:=⟨by kernel_rfl,by kernel_rfl⟩
theorem ty_52:Ty Tryz.prog 52 1 false:=⟨by kernel_rfl,by kernel_rfl⟩
theorem ty_53:Ty Tryz.prog 53 1 false:=⟨by kernel_rfl,by kernel_rfl⟩
theorem ty_55:Ty Tryz.prog 55 17 true:=⟨by kernel_rfl,by kernel_rfl⟩
theorem zfu:Ty Tryz.prog 62 1 false:=⟨by kernel_rfl,by kernel_rfl⟩
theorem zd5:Ty Tryz.prog 64 9 true:=⟨by kernel_rfl,by kernel_rfl⟩
theorem zbd:Ty Tryz.prog 88 1 false:=⟨by kernel_rfl,by kernel_rfl⟩
theorem zr2:Ty Tryz.prog 90 3 true:=⟨by kernel_rfl,by kernel_rfl⟩
theorem zr1:Ty Tryz.prog 93 3 true:=⟨by kernel_rfl,by kernel_rfl⟩
end Go.Proofs.YtmfgafhlaeolgaaGreatDoor
