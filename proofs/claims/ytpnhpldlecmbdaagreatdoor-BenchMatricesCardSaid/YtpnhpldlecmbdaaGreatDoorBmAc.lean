import Derived.Test.YtpnhpldlecmbdaaGreatDoorBmAa
import Derived.Test.YtpnhpldlecmbdaaGreatDoorBmAb
import Derived.Test.YtpnhpldlecmbdaaGreatDoorProg
set_option linter.unusedVariables false
set_option linter.unusedSimpArgs false
set_option linter.unusedSectionVars false
set_option maxRecDepth 100000
namespace Go.Proofs.YtpnhpldlecmbdaaGreatDoor
open Go Go.RowKit
theorem zb8:Fld Tryz.prog 26 0 0 1:=⟨_,_,Tryz.underlying26,rfl,rfl,by kernel_rfl,by decide⟩
theorem zaj:Fld Tryz.prog 26 1 1 1:=⟨_,_,Tryz.underlying26,rfl,rfl,by kernel_rfl,by decide⟩
theorem zbd:Fld Tryz.prog 28 0 0 2:=⟨_,_,Tryz.underlying28,rfl,rfl,by kernel_rfl,by decide⟩
theorem zb6:Fld Tryz.prog 28 1 2 2:=⟨_,_,Tryz.underlying28,rfl,rfl,by kernel_rfl,by decide⟩
theorem zcj:Fld Tryz.prog 30 0 0 1:=⟨_,_,Tryz.underlying30,rfl,rfl,by kernel_rfl,by decide⟩
theorem zc5:Fld Tryz.prog 30 1 1 4:=⟨_,_,Tryz.underlying30,rfl,rfl,by kernel_rfl,by decide⟩
theorem zci:Fld Tryz.prog 30 2 5 4:=⟨_,_,Tryz.underlying30,rfl,rfl,by kernel_rfl,by decide⟩
theorem zcp:Fld Tryz.prog 37 0 0 4:=⟨_,_,Tryz.underlying37,rfl,rfl,by kernel_rfl,by decide⟩
theorem zcc:Fld Tryz.prog 37 1 4 4:=⟨_,_,Tryz.underlying37,rfl,rfl,by kernel_rfl,by decide⟩
theorem zcb:Fld Tryz.prog 37 2 8 4:=⟨_,_,Tryz.underlying37,rfl,rfl,by kernel_rfl,by decide⟩
theorem zco:Fld Tryz.prog 37 3 12 4:=⟨_,_,Tryz.underlying37,rfl,rfl,by kernel_rfl,by decide⟩
theorem zgh:Fld Tryz.prog 63 0 0 1:=⟨_,_,Tryz.underlying63,rfl,rfl,by kernel_rfl,by decide⟩
theorem ze3:Fld Tryz.prog 63 1 1 1:=⟨_,_,Tryz.underlying63,rfl,rfl,by kernel_rfl,by decide⟩
theorem zk7:Fld Tryz.prog 63 10 10 1:=⟨_,_,Tryz.underlying63,rfl,rfl,by kernel_rfl,by decide⟩
theorem zk6:Fld Tryz.prog 63 11 11 1:=⟨_,_,Tryz.underlying63,rfl,rfl,by kernel_rfl,by decide⟩
theorem zk5:Fld Tryz.prog 63 12 12 1:=⟨_,_,Tryz.underlying63,rfl,rfl,by kernel_rfl,by decide⟩
theorem zk4:Fld Tryz.prog 63 13 13 1:=⟨_,_,Tryz.underlying63,rfl,rfl,by kernel_rfl,by decide⟩
theorem zk3:Fld Tryz.prog 63 14 14 1:=⟨_,_,Tryz.underlying63,rfl,rfl,by kernel_rfl,by decide⟩
theorem zk2:Fld Tryz.prog 63 15 15 1:=⟨_,_,Tryz.underlying63,rfl,rfl,by kernel_rfl,by decide⟩
theorem zk1:Fld Tryz.prog 63 16 16 1:=⟨_,_,Tryz.underlying63,rfl,rfl,by kernel_rfl,by decide⟩
theorem zn8:Fld Tryz.prog 63 2 2 1:=⟨_,_,Tryz.underlying63,rfl,rfl,by kernel_rfl,by decide⟩
theorem zn7:Fld Tryz.prog 63 3 3 1:=⟨_,_,Tryz.underlying63,rfl,rfl,by kernel_rfl,by decide⟩
theorem zn6:Fld Tryz.prog 63 4 4 1:=⟨_,_,Tryz.underlying63,rfl,rfl,by kernel_rfl,by decide⟩
theorem zn5:Fld Tryz.prog 63 5 5 1:=⟨_,_,Tryz.underlying63,rfl,rfl,by kernel_rfl,by decide⟩
theorem zn4:Fld Tryz.prog 63 6 6 1:=⟨_,_,Tryz.underlying63,rfl,rfl,by kernel_rfl,by decide⟩
theorem zn3:Fld Tryz.prog 63 7 7 1:=⟨_,_,Tryz.underlying63,rfl,rfl,by kernel_rfl,by decide⟩
theorem zn2:Fld Tryz.prog 63 8 8 1:=⟨_,_,Tryz.underlying63,rfl,rfl,by kernel_rfl,by decide⟩
theorem ze2:Fld Tryz.prog 63 9 9 1:=⟨_,_,Tryz.underlying63,rfl,rfl,by kernel_rfl,by decide⟩
theorem zgg:Fld Tryz.prog 94 0 0 1:=⟨_,_,Tryz.underlying94,rfl,rfl,by kernel_rfl,by decide⟩
theorem zjd:Fld Tryz.prog 94 1 1 1:=⟨_,_,Tryz.underlying94,rfl,rfl,by kernel_rfl,by decide⟩
theorem zjc:Fld Tryz.prog 94 2 2 1:=⟨_,_,Tryz.underlying94,rfl,rfl,by kernel_rfl,by decide⟩
theorem zgf:Fld Tryz.prog 97 0 0 1:=⟨_,_,Tryz.underlying97,rfl,rfl,by kernel_rfl,by decide⟩
theorem zjb:Fld Tryz.prog 97 1 1 1:=⟨_,_,Tryz.underlying97,rfl,rfl,by kernel_rfl,by decide⟩
theorem zja:Fld Tryz.prog 97 2 2 1:=⟨_,_,Tryz.underlying97,rfl,rfl,by kernel_rfl,by decide⟩
theorem zvd:Sl Tryz.prog 207 26 2:=⟨by kernel_rfl,by kernel_rfl⟩
theorem zh6:Sl Tryz.prog 22 30 9:=⟨by kernel_rfl,by kernel_rfl⟩
theorem zbe:Sl Tryz.prog 24 98 1:=⟨by kernel_rfl,by kernel_rfl⟩
theorem sl_46:Sl Tryz.prog 46 97 3:=⟨by kernel_rfl,by kernel_rfl⟩
theorem sl_54:Sl Tryz.prog 54 94 3:=⟨by kernel_rfl,by kernel_rfl⟩
theorem sl_69:Sl Tryz.prog 69 3 1:=⟨by kernel_rfl,by kernel_rfl⟩
theorem zks:Sl Tryz.prog 84 28 4:=⟨by kernel_rfl,by kernel_rfl⟩
theorem ty_1:Ty Tryz.prog 1 1 false:=⟨by kernel_rfl,by kernel_rfl⟩
theorem zkq:Ty Tryz.prog 22 1 false:=⟨by kernel_rfl,by kernel_rfl⟩
theorem zf6:Ty Tryz.prog 23 1 false:=⟨by kernel_rfl,by kernel_rfl⟩
theorem zbc:Ty Tryz.prog 24 1 false:=⟨by kernel_rfl,by kernel_rfl⟩
theorem zab:Ty Tryz.prog 26 2 true:=⟨by kernel_rfl,by kernel_rfl⟩
theorem zap:Ty Tryz.prog 28 4 true:=⟨by kernel_rfl,by kernel_rfl⟩
theorem ty_3:Ty Tryz.prog 3 1 false:=⟨by kernel_rfl,by kernel_rfl⟩
theorem zd8:Ty Tryz.prog 30 9 true:=⟨by kernel_rfl,by kernel_rfl⟩
theorem zb1:Ty Tryz.prog 37 16 true:=⟨by kernel_rfl,by kernel_rfl⟩
theorem ty_4:Ty Tryz.prog 4 1 false:=⟨by kernel_rfl,by kernel_rfl⟩
theorem zkp:Ty Tryz.prog 46 1 false:=⟨by kernel_rfl,by kernel_rfl⟩
theorem ty_47:Ty Tryz.prog 47 1 false:=⟨by kernel_rfl,by kernel_rfl⟩
theorem ty_48:Ty Tryz.prog 48 1 false:=⟨by kernel_rfl,by kernel_rfl⟩
theorem ty_49:Ty Tryz.prog 49 1 false:=⟨by kernel_rfl,by kernel_rfl⟩
theorem ty_50:Ty Tryz.prog 50 1 false:=⟨by kernel_rfl,by kernel_rfl⟩
theorem ty_51:Ty Tryz.prog 51 1 false:=⟨by kernel_rfl,by kernel_rfl⟩
theorem ty_52:Ty Tryz.prog 52 1 false:=⟨by kernel_rfl,by kernel_rfl⟩
theorem ty_53:Ty Tryz.prog 53 1 false:=⟨by kernel_rfl,by kernel_rfl⟩
theorem zko:Ty Tryz.prog 54 1 false:=⟨by kernel_rfl,by kernel_rfl⟩
theorem ty_55:Ty Tryz.prog 55 1 false:=⟨by kernel_rfl,by kernel_rfl⟩
theorem ty_56:Ty Tryz.prog 56 1 false:=⟨by kernel_rfl,by kernel_rfl⟩
theorem ty_57:Ty Tryz.prog 57 1 false:=⟨by kernel_rfl,by kernel_rfl⟩
theorem ty_58:Ty Tryz.prog 58 1 false:=⟨by kernel_rfl,by kernel_rfl⟩
theorem ty_59:Ty Tryz.prog 59 1 false:=⟨by kernel_rfl,by kernel_rfl⟩
theorem ty_60:Ty Tryz.prog 60 1 false:=⟨by kernel_rfl,by kernel_rfl⟩
theorem ty_61:Ty Tryz.prog 61 1 false:=⟨by kernel_rfl,by kernel_rfl⟩
theorem ty_63:Ty Tryz.prog 63 17 true:=⟨by kernel_rfl,by kernel_rfl⟩
theorem zkn:Ty Tryz.prog 88 6 true:=⟨by kernel_rfl,by kernel_rfl⟩
theorem zte:Ty Tryz.prog 94 3 true:=⟨by kernel_rfl,by kernel_rfl⟩
theorem ztd:Ty Tryz.prog 97 3 true:=⟨by kernel_rfl,by kernel_rfl⟩
theorem zbj:Ty Tryz.prog 98 1 false:=⟨by kernel_rfl,by kernel_rfl⟩
end Go.Proofs.YtpnhpldlecmbdaaGreatDoor
