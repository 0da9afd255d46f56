/- YtadkonppommbbaaGreatDoorWa: part of the proof that laws hold, for every input that the row speaks of (no condition of ours). -/
import Derived.Test.YtadkonppommbbaaGreatDoorEc
import Derived.Test.YtadkonppommbbaaGreatDoorEd
import Derived.Test.YtadkonppommbbaaGreatDoorProg
import Derived.KernelRfl
import Derived.BigQuiet
import Derived.Lib.Hide
import Derived.Lib.ItoaLen
import Derived.Test.YtadkonppommbbaaGreatDoorShelf
import Derived.Lib.SmallJoins
import Derived.Lib.IndexMore
import Derived.Lib.IndexBytes
import Derived.Lib.AtoiAllCases
import Derived.WalkKit
import Derived.LaidEql
import Derived.Stop.Asserts
import Derived.RowKitTokens
import Derived.Outline
import Derived.Test.YtadkonppommbbaaGreatDoorChecked
import Derived.Lib.Overlaps
set_option linter.unusedVariables false
set_option linter.unusedSimpArgs false
section
namespace Go.Proofs.W
open Go Go.Eng Go.RowKit
set_option maxRecDepth 20000
abbrev iv (n:Int):AV:=.v (.int .i64 n)
abbrev bv (b:Bool):AV:=.v (.bool b)
def ty2:TyI:={ size:=1,agg:=false,zero:=[.int .i64 0],fields:=[],elem:=none,ik:=some .i64,isb:=false,eq2:=false,iss:=false,ifc:=false,np:=true,emp:=false,ptr:=false }
theorem ok2:TyOk Tryz.prog 2 ty2:=tyOk_of (by kernel_rfl) rfl Tryz.underlying2 rfl rfl rfl rfl rfl rfl (fun h=>by cases h) (fun h=>by cases h) (fun _=>rfl)
def ty3:TyI:={ size:=1,agg:=false,zero:=[.int .i64 0],fields:=[],elem:=none,ik:=some .i64,isb:=false,eq2:=false,iss:=false,ifc:=false,np:=true,emp:=false,ptr:=false }
theorem ok3:TyOk Tryz.prog 3 ty3:=tyOk_of (by kernel_rfl) rfl Tryz.underlying3 rfl rfl rfl rfl rfl rfl (fun h=>by cases h) (fun h=>by cases h) (fun _=>rfl)
def ty4:TyI:={ size:=1,agg:=false,zero:=[.bool false],fields:=[],elem:=none,ik:=none,isb:=true,eq2:=false,iss:=false,ifc:=false,np:=true,emp:=false,ptr:=false }
theorem ok4:TyOk Tryz.prog 4 ty4:=tyOk_of (by kernel_rfl) rfl Tryz.underlying4 rfl rfl rfl rfl rfl rfl (fun h=>by cases h) (fun h=>by cases h) (fun _=>rfl)
def ty5:TyI:={ size:=1,agg:=false,zero:=[.int .u8 0],fields:=[],elem:=none,ik:=some .u8,isb:=false,eq2:=false,iss:=false,ifc:=false,np:=true,emp:=false,ptr:=false }
theorem ok5:TyOk Tryz.prog 5 ty5:=tyOk_of (by kernel_rfl) rfl Tryz.underlying5 rfl rfl rfl rfl rfl rfl (fun h=>by cases h) (fun h=>by cases h) (fun _=>rfl)
def ty9:TyI:={ size:=1,agg:=false,zero:=[.string ⟨#[]⟩],fields:=[],elem:=none,ik:=none,isb:=false,eq2:=false,iss:=true,ifc:=false,np:=true,emp:=false,ptr:=false }
theorem ok9:TyOk Tryz.prog 9 ty9:=tyOk_of (by kernel_rfl) rfl Tryz.underlying9 rfl rfl rfl rfl rfl rfl (fun h=>by cases h) (fun h=>by cases h) (fun _=>rfl)
def ty12:TyI:={ size:=1,agg:=false,zero:=[.int .u64 0],fields:=[],elem:=none,ik:=some .u64,isb:=false,eq2:=false,iss:=false,ifc:=false,np:=true,emp:=false,ptr:=false }
theorem ok12:TyOk Tryz.prog 12 ty12:=tyOk_of (by kernel_rfl) rfl Tryz.underlying12 rfl rfl rfl rfl rfl rfl (fun h=>by cases h) (fun h=>by cases h) (fun _=>rfl)
def ty21:TyI:={ size:=1,agg:=false,zero:=[.int .i32 0],fields:=[],elem:=none,ik:=some .i32,isb:=false,eq2:=false,iss:=false,ifc:=false,np:=true,emp:=false,ptr:=false }
theorem ok21:TyOk Tryz.prog 21 ty21:=tyOk_of (by kernel_rfl) rfl Tryz.underlying21 rfl rfl rfl rfl rfl rfl (fun h=>by cases h) (fun h=>by cases h) (fun _=>rfl)
def ty22:TyI:={ size:=1,agg:=false,zero:=[.slice none 0 0],fields:=[],elem:=some 5,ik:=none,isb:=false,eq2:=false,iss:=false,ifc:=false,np:=true,emp:=false,ptr:=false }
theorem ok22:TyOk Tryz.prog 22 ty22:=tyOk_of (by kernel_rfl) rfl Tryz.underlying22 rfl rfl rfl rfl rfl rfl (fun h=>by cases h) (fun h=>by cases h) (fun _=>rfl)
def ty23:TyI:={ size:=1,agg:=false,zero:=[.slice none 0 0],fields:=[],elem:=some 35,ik:=none,isb:=false,eq2:=false,iss:=false,ifc:=false,np:=true,emp:=false,ptr:=false }
theorem ok23:TyOk Tryz.prog 23 ty23:=tyOk_of (by kernel_rfl) rfl Tryz.underlying23 rfl rfl rfl rfl rfl rfl (fun h=>by cases h) (fun h=>by cases h) (fun _=>rfl)
def ty25:TyI:={ size:=1,agg:=false,zero:=[.slice none 0 0],fields:=[],elem:=some 32,ik:=none,isb:=false,eq2:=false,iss:=false,ifc:=false,np:=true,emp:=false,ptr:=false }
theorem ok25:TyOk Tryz.prog 25 ty25:=tyOk_of (by kernel_rfl) rfl Tryz.underlying25 rfl rfl rfl rfl rfl rfl (fun h=>by cases h) (fun h=>by cases h) (fun _=>rfl)
def ty29:TyI:={ size:=2,agg:=true,zero:=[.int .i64 0,.int .i64 0],fields:=[(0,3),(1,3)],elem:=none,ik:=none,isb:=false,eq2:=true,iss:=false,ifc:=false,np:=true,emp:=false,ptr:=false }
theorem ok29:TyOk Tryz.prog 29 ty29:=tyOk_of (by kernel_rfl) rfl Tryz.underlying29 rfl rfl rfl rfl rfl rfl (fun _=>eq2_of Tryz.underlying29 (by kernel_rfl) (by kernel_rfl) (by decide) (by decide) rfl rfl rfl rfl Tryz.underlying3 Tryz.underlying3) (fun h=>by cases h) (fun _=>rfl)
def ty30:TyI:={ size:=2,agg:=true,zero:=[.int .i64 0,.int .i64 0],fields:=[(0,3),(1,3)],elem:=none,ik:=none,isb:=false,eq2:=true,iss:=false,ifc:=false,np:=true,emp:=false,ptr:=false }
theorem ok30:TyOk Tryz.prog 30 ty30:=tyOk_of (by kernel_rfl) rfl Tryz.underlying30 rfl rfl rfl rfl rfl rfl (fun _=>eq2_of Tryz.underlying30 (by kernel_rfl) (by kernel_rfl) (by decide) (by decide) rfl rfl rfl rfl Tryz.underlying3 Tryz.underlying3) (fun h=>by cases h) (fun _=>rfl)
def ty31:TyI:={ size:=3,agg:=true,zero:=[.int .i64 0,.int .i64 0,.int .i64 0],fields:=[(0,30),(2,3)],elem:=none,ik:=none,isb:=false,eq2:=false,iss:=false,ifc:=false,np:=true,emp:=false,ptr:=false,eq3:=true }
theorem ok31:TyOk Tryz.prog 31 ty31:=tyOk_of (by kernel_rfl) rfl Tryz.underlying31 rfl rfl rfl rfl rfl rfl (fun h=>by cases h) (fun h=>by cases h) (fun _=>rfl) (h15:=fun _=>eq3_of Tryz.underlying31 (by kernel_rfl) (by kernel_rfl) (by decide) (by decide) rfl rfl rfl rfl Tryz.underlying30 Tryz.underlying3 (by kernel_rfl) (by kernel_rfl) (by decide) (by decide) rfl rfl rfl rfl Tryz.underlying3 Tryz.underlying3)
def ty32:TyI:={ size:=3,agg:=true,zero:=[.int .i64 0,.int .i64 0,.int .i64 0],fields:=[(0,30),(2,3)],elem:=none,ik:=none,isb:=false,eq2:=false,iss:=false,ifc:=false,np:=true,emp:=false,ptr:=false,eq3:=true }
theorem ok32:TyOk Tryz.prog 32 ty32:=tyOk_of (by kernel_rfl) rfl Tryz.underlying32 rfl rfl rfl rfl rfl rfl (fun h=>by cases h) (fun h=>by cases h) (fun _=>rfl) (h15:=fun _=>eq3_of Tryz.underlying32 (by kernel_rfl) (by kernel_rfl) (by decide) (by decide) rfl rfl rfl rfl Tryz.underlying30 Tryz.underlying3 (by kernel_rfl) (by kernel_rfl) (by decide) (by decide) rfl rfl rfl rfl Tryz.underlying3 Tryz.underlying3)
def ty33:TyI:={ size:=1,agg:=false,zero:=[.slice none 0 0],fields:=[],elem:=some 3,ik:=none,isb:=false,eq2:=false,iss:=false,ifc:=false,np:=true,emp:=false,ptr:=false }
theorem ok33:TyOk Tryz.prog 33 ty33:=tyOk_of (by kernel_rfl) rfl Tryz.underlying33 rfl rfl rfl rfl rfl rfl (fun h=>by cases h) (fun h=>by cases h) (fun _=>rfl)
def ty34:TyI:={ size:=5,agg:=true,zero:=[.int .i64 0,.int .i64 0,.slice none 0 0,.int .i64 0,.slice none 0 0],fields:=[(0,30),(2,33),(3,3),(4,33)],elem:=none,ik:=none,isb:=false,eq2:=false,iss:=false,ifc:=false,np:=true,emp:=false,ptr:=false }
theorem ok34:TyOk Tryz.prog 34 ty34:=tyOk_of (by kernel_rfl) rfl Tryz.underlying34 rfl rfl rfl rfl rfl rfl (fun h=>by cases h) (fun h=>by cases h) (fun _=>rfl)
def ty35:TyI:={ size:=5,agg:=true,zero:=[.int .i64 0,.int .i64 0,.slice none 0 0,.int .i64 0,.slice none 0 0],fields:=[(0,30),(2,33),(3,3),(4,33)],elem:=none,ik:=none,isb:=false,eq2:=false,iss:=false,ifc:=false,np:=true,emp:=false,ptr:=false }
theorem ok35:TyOk Tryz.prog 35 ty35:=tyOk_of (by kernel_rfl) rfl Tryz.underlying35 rfl rfl rfl rfl rfl rfl (fun h=>by cases h) (fun h=>by cases h) (fun _=>rfl)
def ty38:TyI:={ size:=1,agg:=false,zero:=[.pointer none],fields:=[],elem:=none,ik:=none,isb:=false,eq2:=false,iss:=false,ifc:=false,np:=true,emp:=false,ptr:=true }
theorem ok38:TyOk Tryz.prog 38 ty38:=tyOk_of (by kernel_rfl) rfl Tryz.underlying38 rfl rfl rfl rfl rfl rfl (fun h=>by cases h) (fun h=>by cases h) (fun _=>rfl) (h13:=fun _=>⟨_,rfl⟩)
def ty40:TyI:={ size:=1,agg:=false,zero:=[.slice none 0 0],fields:=[],elem:=some 54,ik:=none,isb:=false,eq2:=false,iss:=false,ifc:=false,np:=true,emp:=false,ptr:=false }
theorem ok40:TyOk Tryz.prog 40 ty40:=tyOk_of (by kernel_rfl) rfl Tryz.underlying40 rfl rfl rfl rfl rfl rfl (fun h=>by cases h) (fun h=>by cases h) (fun _=>rfl)
def ty41:TyI:={ size:=1,agg:=false,zero:=[.slice none 0 0],fields:=[],elem:=some 56,ik:=none,isb:=false,eq2:=false,iss:=false,ifc:=false,np:=true,emp:=false,ptr:=false }
theorem ok41:TyOk Tryz.prog 41 ty41:=tyOk_of (by kernel_rfl) rfl Tryz.underlying41 rfl rfl rfl rfl rfl rfl (fun h=>by cases h) (fun h=>by cases h) (fun _=>rfl)
def ty50:TyI:={ size:=2,agg:=true,zero:=[.slice none 0 0,.int .i64 0],fields:=[(0,22),(1,3)],elem:=none,ik:=none,isb:=false,eq2:=false,iss:=false,ifc:=false,np:=true,emp:=false,ptr:=false }
theorem ok50:TyOk Tryz.prog 50 ty50:=tyOk_of (by kernel_rfl) rfl Tryz.underlying50 rfl rfl rfl rfl rfl rfl (fun h=>by cases h) (fun h=>by cases h) (fun _=>rfl)
def ty51:TyI:={ size:=2,agg:=true,zero:=[.slice none 0 0,.int .i64 0],fields:=[(0,22),(1,3)],elem:=none,ik:=none,isb:=false,eq2:=false,iss:=false,ifc:=false,np:=true,emp:=false,ptr:=false }
theorem ok51:TyOk Tryz.prog 51 ty51:=tyOk_of (by kernel_rfl) rfl Tryz.underlying51 rfl rfl rfl rfl rfl rfl (fun h=>by cases h) (fun h=>by cases h) (fun _=>rfl)
def ty52:TyI:={ size:=1,agg:=false,zero:=[.slice none 0 0],fields:=[],elem:=some 75,ik:=none,isb:=false,eq2:=false,iss:=false,ifc:=false,np:=true,emp:=false,ptr:=false }
theorem ok52:TyOk Tryz.prog 52 ty52:=tyOk_of (by kernel_rfl) rfl Tryz.underlying52 rfl rfl rfl rfl rfl rfl (fun h=>by cases h) (fun h=>by cases h) (fun _=>rfl)
def ty53:TyI:={ size:=3,agg:=true,zero:=[.int .i64 0,.bool false,.slice none 0 0],fields:=[(0,3),(1,4),(2,52)],elem:=none,ik:=none,isb:=false,eq2:=false,iss:=false,ifc:=false,np:=true,emp:=false,ptr:=false }
theorem ok53:TyOk Tryz.prog 53 ty53:=tyOk_of (by kernel_rfl) rfl Tryz.underlying53 rfl rfl rfl rfl rfl rfl (fun h=>by cases h) (fun h=>by cases h) (fun _=>rfl)
def ty54:TyI:={ size:=3,agg:=true,zero:=[.int .i64 0,.bool false,.slice none 0 0],fields:=[(0,3),(1,4),(2,52)],elem:=none,ik:=none,isb:=false,eq2:=false,iss:=false,ifc:=false,np:=true,emp:=false,ptr:=false }
theorem ok54:TyOk Tryz.prog 54 ty54:=tyOk_of (by kernel_rfl) rfl Tryz.underlying54 rfl rfl rfl rfl rfl rfl (fun h=>by cases h) (fun h=>by cases h) (fun _=>rfl)
def ty56:TyI:={ size:=1,agg:=false,zero:=[.slice none 0 0],fields:=[],elem:=some 77,ik:=none,isb:=false,eq2:=false,iss:=false,ifc:=false,np:=true,emp:=false,ptr:=false }
theorem ok56:TyOk Tryz.prog 56 ty56:=tyOk_of (by kernel_rfl) rfl Tryz.underlying56 rfl rfl rfl rfl rfl rfl (fun h=>by cases h) (fun h=>by cases h) (fun _=>rfl)
def ty74:TyI:={ size:=6,agg:=true,zero:=[.int .i64 0,.int .i64 0,.slice none 0 0,.int .i64 0,.slice none 0 0,.bool false],fields:=[(0,35),(5,4)],elem:=none,ik:=none,isb:=false,eq2:=false,iss:=false,ifc:=false,np:=true,emp:=false,ptr:=false }
theorem ok74:TyOk Tryz.prog 74 ty74:=tyOk_of (by kernel_rfl) rfl Tryz.underlying74 rfl rfl rfl rfl rfl rfl (fun h=>by cases h) (fun h=>by cases h) (fun _=>rfl)
def ty75:TyI:={ size:=6,agg:=true,zero:=[.int .i64 0,.int .i64 0,.slice none 0 0,.int .i64 0,.slice none 0 0,.bool false],fields:=[(0,35),(5,4)],elem:=none,ik:=none,isb:=false,eq2:=false,iss:=false,ifc:=false,np:=true,emp:=false,ptr:=false }
theorem ok75:TyOk Tryz.prog 75 ty75:=tyOk_of (by kernel_rfl) rfl Tryz.underlying75 rfl rfl rfl rfl rfl rfl (fun h=>by cases h) (fun h=>by cases h) (fun _=>rfl)
def ty76:TyI:={ size:=8,agg:=true,zero:=[.int .i64 0,.int .i64 0,.int .i64 0,.int .i64 0,.bool false,.int .i64 0,.int .i64 0,.int .i64 0],fields:=[(0,3),(1,3),(2,30),(4,4),(5,3),(6,3),(7,3)],elem:=none,ik:=none,isb:=false,eq2:=false,iss:=false,ifc:=false,np:=true,emp:=false,ptr:=false }
theorem ok76:TyOk Tryz.prog 76 ty76:=tyOk_of (by kernel_rfl) rfl Tryz.underlying76 rfl rfl rfl rfl rfl rfl (fun h=>by cases h) (fun h=>by cases h) (fun _=>rfl)
def ty77:TyI:={ size:=8,agg:=true,zero:=[.int .i64 0,.int .i64 0,.int .i64 0,.int .i64 0,.bool false,.int .i64 0,.int .i64 0,.int .i64 0],fields:=[(0,3),(1,3),(2,30),(4,4),(5,3),(6,3),(7,3)],elem:=none,ik:=none,isb:=false,eq2:=false,iss:=false,ifc:=false,np:=true,emp:=false,ptr:=false }
theorem ok77:TyOk Tryz.prog 77 ty77:=tyOk_of (by kernel_rfl) rfl Tryz.underlying77 rfl rfl rfl rfl rfl rfl (fun h=>by cases h) (fun h=>by cases h) (fun _=>rfl)
def ty88:TyI:={ size:=1,agg:=false,zero:=[.int .u64 0],fields:=[],elem:=none,ik:=some .u64,isb:=false,eq2:=false,iss:=false,ifc:=false,np:=true,emp:=false,ptr:=false }
theorem ok88:TyOk Tryz.prog 88 ty88:=tyOk_of (by kernel_rfl) rfl Tryz.underlying88 rfl rfl rfl rfl rfl rfl (fun h=>by cases h) (fun h=>by cases h) (fun _=>rfl)
def ty89:TyI:={ size:=2,agg:=true,zero:=[.int .u64 0,.slice none 0 0],fields:=[(0,88),(1,33)],elem:=none,ik:=none,isb:=false,eq2:=false,iss:=false,ifc:=false,np:=true,emp:=false,ptr:=false }
theorem ok89:TyOk Tryz.prog 89 ty89:=tyOk_of (by kernel_rfl) rfl Tryz.underlying89 rfl rfl rfl rfl rfl rfl (fun h=>by cases h) (fun h=>by cases h) (fun _=>rfl)
def ty90:TyI:={ size:=2,agg:=true,zero:=[.int .u64 0,.slice none 0 0],fields:=[(0,88),(1,33)],elem:=none,ik:=none,isb:=false,eq2:=false,iss:=false,ifc:=false,np:=true,emp:=false,ptr:=false }
theorem ok90:TyOk Tryz.prog 90 ty90:=tyOk_of (by kernel_rfl) rfl Tryz.underlying90 rfl rfl rfl rfl rfl rfl (fun h=>by cases h) (fun h=>by cases h) (fun _=>rfl)
def ty92:TyI:={ size:=1,agg:=false,zero:=[.nilIface],fields:=[],elem:=none,ik:=none,isb:=false,eq2:=false,iss:=false,ifc:=true,np:=false,emp:=false,ptr:=false }
theorem ok92:TyOk Tryz.prog 92 ty92:=tyOk_of (by kernel_rfl) rfl Tryz.underlying92 rfl rfl rfl rfl rfl rfl (fun h=>by cases h) (fun _=>rfl)
def ty111:TyI:={ size:=1,agg:=false,zero:=[.slice none 0 0],fields:=[],elem:=some 92,ik:=none,isb:=false,eq2:=false,iss:=false,ifc:=false,np:=true,emp:=false,ptr:=false }
theorem ok111:TyOk Tryz.prog 111 ty111:=tyOk_of (by kernel_rfl) rfl Tryz.underlying111 rfl rfl rfl rfl rfl rfl (fun h=>by cases h) (fun h=>by cases h) (fun _=>rfl)
def ty112:TyI:={ size:=1,agg:=false,zero:=[.pointer none],fields:=[],elem:=none,ik:=none,isb:=false,eq2:=false,iss:=false,ifc:=false,np:=true,emp:=false,ptr:=true }
theorem ok112:TyOk Tryz.prog 112 ty112:=tyOk_of (by kernel_rfl) rfl Tryz.underlying112 rfl rfl rfl rfl rfl rfl (fun h=>by cases h) (fun h=>by cases h) (fun _=>rfl) (h13:=fun _=>⟨_,rfl⟩)
def ty113:TyI:={ size:=1,agg:=true,zero:=[.slice none 0 0],fields:=[(0,111)],elem:=none,ik:=none,isb:=false,eq2:=false,iss:=false,ifc:=false,np:=true,emp:=false,ptr:=false }
theorem ok113:TyOk Tryz.prog 113 ty113:=tyOk_of (by kernel_rfl) rfl Tryz.underlying113 rfl rfl rfl rfl rfl rfl (fun h=>by cases h) (fun h=>by cases h) (fun _=>rfl)
def ty114:TyI:={ size:=1,agg:=true,zero:=[.slice none 0 0],fields:=[(0,111)],elem:=none,ik:=none,isb:=false,eq2:=false,iss:=false,ifc:=false,np:=true,emp:=false,ptr:=false }
theorem ok114:TyOk Tryz.prog 114 ty114:=tyOk_of (by kernel_rfl) rfl Tryz.underlying114 rfl rfl rfl rfl rfl rfl (fun h=>by cases h) (fun h=>by cases h) (fun _=>rfl)
def ty115:TyI:={ size:=1,agg:=false,zero:=[.pointer none],fields:=[],elem:=none,ik:=none,isb:=false,eq2:=false,iss:=false,ifc:=false,np:=true,emp:=false,ptr:=true }
theorem ok115:TyOk Tryz.prog 115 ty115:=tyOk_of (by kernel_rfl) rfl Tryz.underlying115 rfl rfl rfl rfl rfl rfl (fun h=>by cases h) (fun h=>by cases h) (fun _=>rfl) (h13:=fun _=>⟨_,rfl⟩)
def ty116:TyI:={ size:=1,agg:=true,zero:=[.string ⟨#[]⟩],fields:=[(0,9)],elem:=none,ik:=none,isb:=false,eq2:=false,iss:=false,ifc:=false,np:=true,emp:=false,ptr:=false }
theorem ok116:TyOk Tryz.prog 116 ty116:=tyOk_of (by kernel_rfl) rfl Tryz.underlying116 rfl rfl rfl rfl rfl rfl (fun h=>by cases h) (fun h=>by cases h) (fun _=>rfl)
def ty117:TyI:={ size:=1,agg:=true,zero:=[.string ⟨#[]⟩],fields:=[(0,9)],elem:=none,ik:=none,isb:=false,eq2:=false,iss:=false,ifc:=false,np:=true,emp:=false,ptr:=false }
theorem ok117:TyOk Tryz.prog 117 ty117:=tyOk_of (by kernel_rfl) rfl Tryz.underlying117 rfl rfl rfl rfl rfl rfl (fun h=>by cases h) (fun h=>by cases h) (fun _=>rfl)
def ty131:TyI:={ size:=1,agg:=false,zero:=[.int .u64 0],fields:=[],elem:=none,ik:=some .u64,isb:=false,eq2:=false,iss:=false,ifc:=false,np:=true,emp:=false,ptr:=false }
theorem ok131:TyOk Tryz.prog 131 ty131:=tyOk_of (by kernel_rfl) rfl Tryz.underlying131 rfl rfl rfl rfl rfl rfl (fun h=>by cases h) (fun h=>by cases h) (fun _=>rfl)
def ty138:TyI:={ size:=1,agg:=false,zero:=[.int .u32 0],fields:=[],elem:=none,ik:=some .u32,isb:=false,eq2:=false,iss:=false,ifc:=false,np:=true,emp:=false,ptr:=false }
theorem ok138:TyOk Tryz.prog 138 ty138:=tyOk_of (by kernel_rfl) rfl Tryz.underlying138 rfl rfl rfl rfl rfl rfl (fun h=>by cases h) (fun h=>by cases h) (fun _=>rfl)
def ty153:TyI:={ size:=1,agg:=false,zero:=[.pointer none],fields:=[],elem:=none,ik:=none,isb:=false,eq2:=false,iss:=false,ifc:=false,np:=true,emp:=false,ptr:=true }
theorem ok153:TyOk Tryz.prog 153 ty153:=tyOk_of (by kernel_rfl) rfl Tryz.underlying153 rfl rfl rfl rfl rfl rfl (fun h=>by cases h) (fun h=>by cases h) (fun _=>rfl) (h13:=fun _=>⟨_,rfl⟩)
def ty169:TyI:={ size:=1,agg:=false,zero:=[.int .u16 0],fields:=[],elem:=none,ik:=some .u16,isb:=false,eq2:=false,iss:=false,ifc:=false,np:=true,emp:=false,ptr:=false }
theorem ok169:TyOk Tryz.prog 169 ty169:=tyOk_of (by kernel_rfl) rfl Tryz.underlying169 rfl rfl rfl rfl rfl rfl (fun h=>by cases h) (fun h=>by cases h) (fun _=>rfl)
def TT:List (TypeId × TyI):=[(2,ty2),(3,ty3),(4,ty4),(5,ty5),(9,ty9),(12,ty12),(21,ty21),(22,ty22),(23,ty23),(25,ty25),(29,ty29),(30,ty30),(31,ty31),(32,ty32),(33,ty33),(34,ty34),(35,ty35),(38,ty38),(40,ty40),(41,ty41),(50,ty50),(51,ty51),(52,ty52),(53,ty53),(54,ty54),(56,ty56),(74,ty74),(75,ty75),(76,ty76),(77,ty77),(88,ty88),(89,ty89),(90,ty90),(92,ty92),(111,ty111),(112,ty112),(113,ty113),(114,ty114),(115,ty115),(116,ty116),(117,ty117),(131,ty131),(138,ty138),(153,ty153),(169,ty169)]
theorem tt:TysOk Tryz.prog TT:=tysOk_cons ok2 (tysOk_cons ok3 (tysOk_cons ok4 (tysOk_cons ok5 (tysOk_cons ok9 (tysOk_cons ok12 (tysOk_cons ok21 (tysOk_cons ok22 (tysOk_cons ok23 (tysOk_cons ok25 (tysOk_cons ok29 (tysOk_cons ok30 (tysOk_cons ok31 (tysOk_cons ok32 (tysOk_cons ok33 (tysOk_cons ok34 (tysOk_cons ok35 (tysOk_cons ok38 (tysOk_cons ok40 (tysOk_cons ok41 (tysOk_cons ok50 (tysOk_cons ok51 (tysOk_cons ok52 (tysOk_cons ok53 (tysOk_cons ok54 (tysOk_cons ok56 (tysOk_cons ok74 (tysOk_cons ok75 (tysOk_cons ok76 (tysOk_cons ok77 (tysOk_cons ok88 (tysOk_cons ok89 (tysOk_cons ok90 (tysOk_cons ok92 (tysOk_cons ok111 (tysOk_cons ok112 (tysOk_cons ok113 (tysOk_cons ok114 (tysOk_cons ok115 (tysOk_cons ok116 (tysOk_cons ok117 (tysOk_cons ok131 (tysOk_cons ok138 (tysOk_cons ok153 (tysOk_cons ok169 tysOk_nil))))))))))))))))))))))))))))))))))))))))))))
theorem tyk2:tyk 2 TT=some ty2:=rfl
theorem tyk3:tyk 3 TT=some ty3:=rfl
theorem tyk4:tyk 4 TT=some ty4:=rfl
theorem tyk5:tyk 5 TT=some ty5:=rfl
theorem tyk9:tyk 9 TT=some ty9:=rfl
theorem tyk12:tyk 12 TT=some ty12:=rfl
theorem tyk21:tyk 21 TT=some ty21:=rfl
theorem tyk22:tyk 22 TT=some ty22:=rfl
theorem tyk23:tyk 23 TT=some ty23:=rfl
theorem tyk25:tyk 25 TT=some ty25:=rfl
theorem tyk29:tyk 29 TT=some ty29:=rfl
theorem tyk30:tyk 30 TT=some ty30:=rfl
theorem tyk31:tyk 31 TT=some ty31:=rfl
theorem tyk32:tyk 32 TT=some ty32:=rfl
theorem tyk33:tyk 33 TT=some ty33:=rfl
theorem tyk34:tyk 34 TT=some ty34:=rfl
theorem tyk35:tyk 35 TT=some ty35:=rfl
theorem tyk38:tyk 38 TT=some ty38:=rfl
theorem tyk40:tyk 40 TT=some ty40:=rfl
theorem tyk41:tyk 41 TT=some ty41:=rfl
theorem tyk50:tyk 50 TT=some ty50:=rfl
theorem tyk51:tyk 51 TT=some ty51:=rfl
theorem tyk52:tyk 52 TT=some ty52:=rfl
theorem tyk53:tyk 53 TT=some ty53:=rfl
theorem tyk54:tyk 54 TT=some ty54:=rfl
theorem tyk56:tyk 56 TT=some ty56:=rfl
theorem tyk74:tyk 74 TT=some ty74:=rfl
theorem tyk75:tyk 75 TT=some ty75:=rfl
theorem tyk76:tyk 76 TT=some ty76:=rfl
theorem tyk77:tyk 77 TT=some ty77:=rfl
theorem tyk88:tyk 88 TT=some ty88:=rfl
theorem tyk89:tyk 89 TT=some ty89:=rfl
theorem tyk90:tyk 90 TT=some ty90:=rfl
theorem tyk92:tyk 92 TT=some ty92:=rfl
theorem tyk111:tyk 111 TT=some ty111:=rfl
theorem tyk112:tyk 112 TT=some ty112:=rfl
theorem tyk113:tyk 113 TT=some ty113:=rfl
theorem tyk114:tyk 114 TT=some ty114:=rfl
theorem tyk115:tyk 115 TT=some ty115:=rfl
theorem tyk116:tyk 116 TT=some ty116:=rfl
theorem tyk117:tyk 117 TT=some ty117:=rfl
theorem tyk131:tyk 131 TT=some ty131:=rfl
theorem tyk138:tyk 138 TT=some ty138:=rfl
theorem tyk153:tyk 153 TT=some ty153:=rfl
theorem tyk169:tyk 169 TT=some ty169:=rfl
attribute [go_sem] ty2 tyk2 ty3 tyk3 ty4 tyk4 ty5 tyk5 ty9 tyk9 ty12 tyk12 ty21 tyk21 ty22 tyk22 ty23 tyk23 ty25 tyk25 ty29 tyk29 ty30 tyk30 ty31 tyk31 ty32 tyk32 ty33 tyk33 ty34 tyk34 ty35 tyk35 ty38 tyk38 ty40 tyk40 ty41 tyk41 ty50 tyk50 ty51 tyk51 ty52 tyk52 ty53 tyk53 ty54 tyk54 ty56 tyk56 ty74 tyk74 ty75 tyk75 ty76 tyk76 ty77 tyk77 ty88 tyk88 ty89 tyk89 ty90 tyk90 ty92 tyk92 ty111 tyk111 ty112 tyk112 ty113 tyk113 ty114 tyk114 ty115 tyk115 ty116 tyk116 ty117 tyk117 ty131 tyk131 ty138 tyk138 ty153 tyk153 ty169 tyk169
set_option maxRecDepth 10000
theorem byteRows_len (bs:List Nat):(byteRows bs).length=bs.length:=by simp [byteRows]
theorem byteRows_get (bs:List Nat) (k:Nat) (h:k < bs.length):(byteRows bs)[k]? = some [.v (.int .u8 ((bs.getD k 0:Nat):Int))]:=by
 simp [byteRows,List.getD_eq_getElem?_getD,h]
theorem getD_lt {bs:List Nat} (h:∀ b ∈ bs,b < 256) (k:Nat):bs.getD k 0 < 256:=by
 rw [List.getD_eq_getElem?_getD]
 cases hk:bs[k]? with
 | none=>simp
 | some b=>simpa using h b (List.mem_of_getElem? hk)
theorem mod_lt (a:Int) (l:Nat) (ha:0≤a) (hl:0 < l):(a.tmod (l:Int)).toNat < l:=by
 rw [Int.tmod_eq_emod_of_nonneg ha]
 have:=Int.emod_lt_of_pos a (show (0:Int) < l by omega)
 have:=Int.emod_nonneg a (show (l:Int)≠0 by omega)
 omega
theorem wrapB (u:Nat) (h:u < 256):IntKind.i64.wrap (u:Int)=u:=wrap64_in _ (by omega)
theorem xor_nonneg (x y:Int) (hx:0≤x) (hx1:x < 9223372036854775807) (hy:0≤y) (hy1:y < 9223372036854775807):∃ z:Int,IntKind.i64.wrap ((BitVec.ofInt 64 x ^^^ BitVec.ofInt 64 y).toNat:Int)=z∧0≤z:=by
 obtain ⟨a,rfl⟩:=Int.eq_ofNat_of_zero_le hx
 obtain ⟨b,rfl⟩:=Int.eq_ofNat_of_zero_le hy
 have e1:BitVec.ofInt 64 (a:Int)=BitVec.ofNat 64 a:=by simp
 have e2:BitVec.ofInt 64 (b:Int)=BitVec.ofNat 64 b:=by simp
 rw [e1,e2,BitVec.toNat_xor,BitVec.toNat_ofNat,BitVec.toNat_ofNat,Nat.mod_eq_of_lt (by omega),Nat.mod_eq_of_lt (by omega)]
 have h:=Nat.xor_lt_two_pow (n:=63) (x:=a) (y:=b) (by omega) (by omega)
 exact ⟨_,wrap64_in _ (by omega),by omega⟩
def pickSt (bs:List Nat) (p n:Int) (k:Nat):St:=⟨99,[(0,.el [.sl (byteRows bs),.v (.int .i64 p)]),(1,iv n),(4,iv 0)],[],k⟩
def pickOk (n:Int) (st:St):Prop:=∃ x:Int,lk 4 st.σ=iv x∧0≤x∧(x < n∨x=0)
theorem pick_rest {E:En} (hE:TbOk E { T:=TT,G:=[],D:=[],draws:=false }) (bs:List Nat) (hbs:∀ b ∈ bs,b < 256) (hlen:bs.length≤2000) (p n:Int) (hp:1≤p) (hp2:p≤1099511627776) (k:Nat) {Q:Exit→St→Prop} (hQ:∀ st,pickOk n st→Q .ret st) {a b rest:Code} (hbody:Tryz.f12.body=some (.seq a (.seq b rest))) :
  Aw E rest (pickSt bs p n k) Q:=by
 obtain ⟨rfl,h⟩:=Code.seq.inj (Option.some.inj hbody)
 obtain ⟨rfl,rfl⟩:=Code.seq.inj h
 unfold pickSt
 refine Aw_sq fun B hB hR hX=>?_
 refine Aw_st hE [0,1,4,24] [] fun K hK=>?_
 simp only [go_sem,reduceIte,Nat.reduceLT,Nat.reduceLeDiff,Nat.reduceEqDiff,Nat.reduceAdd,Nat.reduceMul,Nat.reduceSub,Nat.reduceBEq,Int.reduceToNat,List.reduceReplicate,reduceCtorEq]
 have e0:∀ st,K st→True:=fun _ _=>trivial
 clear e0
 refine ⟨fun h1=>?_,fun h1=>?_⟩
 ·refine hK _ (Aw_cond rfl (fun _=>?_) (fun hcc=>by cases hcc))
  refine Aw_st hE [4] [] fun K hK=>?_
  simp only [go_sem,reduceIte,Nat.reduceLT,Nat.reduceLeDiff,Nat.reduceEqDiff,Nat.reduceAdd,Nat.reduceMul,Nat.reduceSub,Nat.reduceBEq,Int.reduceToNat,List.reduceReplicate,reduceCtorEq]
  exact hK _ (Aw_ret (hR _ (hQ _ ⟨0,rfl,by omega,.inr rfl⟩)))
 simp only [dfn] at h1
 refine hK _ (Aw_cond rfl (fun hcc=>?_) (fun hcc=>Aw_skip (hB _ ?_)))
 ·skip
  refine Aw_st hE [4] [] fun K hK=>?_
  simp only [go_sem,reduceIte,Nat.reduceLT,Nat.reduceLeDiff,Nat.reduceEqDiff,Nat.reduceAdd,Nat.reduceMul,Nat.reduceSub,Nat.reduceBEq,Int.reduceToNat,List.reduceReplicate,reduceCtorEq]
  exact hK _ (Aw_ret (hR _ (hQ _ ⟨0,rfl,by omega,.inr rfl⟩)))
 simp only [dfn,byteRows_len] at hcc
 clear hR hX hB hK B K
 refine Aw_st hE [0,1,4,5] [] fun K hK=>?_
 simp only [go_sem,reduceIte,Nat.reduceLT,Nat.reduceLeDiff,Nat.reduceEqDiff,Nat.reduceAdd,Nat.reduceMul,Nat.reduceSub,Nat.reduceBEq,Int.reduceToNat,List.reduceReplicate,reduceCtorEq]
 refine ⟨by omega,?_⟩
 refine hK _ ?_;clear hK K
 refine Aw_sq fun B hB hR hX=>?_
 refine Aw_st hE [0,1,4,5,36] [] fun K hK=>?_
 simp only [go_sem,reduceIte,Nat.reduceLT,Nat.reduceLeDiff,Nat.reduceEqDiff,Nat.reduceAdd,Nat.reduceMul,Nat.reduceSub,Nat.reduceBEq,Int.reduceToNat,List.reduceReplicate,reduceCtorEq]
 refine hK _ (Aw_cond rfl (fun hcc=>?_) (fun hcc=>Aw_skip (hB _ ?_)))
 ·simp only [dte,byteRows_len] at hcc
  have hget:=byteRows_get bs (p - 1).toNat (by omega)
  have hb:bs.getD (p - 1).toNat 0 < 256:=getD_lt hbs _
  refine Aw_st hE [4] [] fun K hK=>?_
  simp only [go_sem,reduceIte,Nat.reduceLT,Nat.reduceLeDiff,Nat.reduceEqDiff,Nat.reduceAdd,Nat.reduceMul,Nat.reduceSub,Nat.reduceBEq,Int.reduceToNat,List.reduceReplicate,reduceCtorEq,hget]
  rw [wrapB _ hb]
  refine ⟨by omega,by omega,hK _ (Aw_ret (hR _ (hQ _ ⟨_,rfl,?_,.inl ?_⟩)))⟩
  ·exact Int.tmod_nonneg _ (by omega)
  ·rw [Int.tmod_eq_emod_of_nonneg (by omega)];exact Int.emod_lt_of_pos _ (by omega)
 rename_i hl0
 simp only [dfn,byteRows_len] at hcc
 have g1:=byteRows_get bs ((p - 1).tmod (bs.length:Int)).toNat (mod_lt _ _ (by omega) (by omega))
 have g2:=byteRows_get bs (((p - 1) * 7 + 3).tmod (bs.length:Int)).toNat (mod_lt _ _ (by omega) (by omega))
 clear hR hX hB hK B K
 refine Aw_sd hE [1,6] [] 6 (by kernel_rfl) fun K hK=>?_
 simp only [go_sem,reduceIte,Nat.reduceLT,Nat.reduceLeDiff,Nat.reduceEqDiff,Nat.reduceAdd,Nat.reduceMul,Nat.reduceSub,Nat.reduceBEq,Int.reduceToNat,List.reduceReplicate,reduceCtorEq,g1,g2,byteRows_len]
 have b1:=getD_lt hbs ((p - 1).tmod (bs.length:Int)).toNat
 have b2:=getD_lt hbs (((p - 1) * 7 + 3).tmod (bs.length:Int)).toNat
 simp only [wrapB _ b1,wrapB _ b2]
 generalize bs.getD ((p - 1).tmod (bs.length:Int)).toNat 0=u1 at b1
 generalize bs.getD (((p - 1) * 7 + 3).tmod (bs.length:Int)).toNat 0=u2 at b2
 have m1:0≤(p - 1).tmod (bs.length:Int):=Int.tmod_nonneg _ (by omega)
 have m2:0≤((p - 1) * 7 + 3).tmod (bs.length:Int):=Int.tmod_nonneg _ (by omega)
 have q1:0≤(p - 1).tdiv (bs.length:Int):=Int.tdiv_nonneg (by omega) (by omega)
 have q2:(p - 1).tdiv (bs.length:Int)≤p - 1:=by
  rw [Int.tdiv_eq_ediv_of_nonneg (by omega)]
  exact Int.ediv_le_self _ (by omega)
 generalize (p - 1).tdiv (bs.length:Int)=q at q1 q2
 refine ⟨by omega,m1,by omega,by omega,by omega,by omega,m2,by omega,by omega,by omega,by omega,by omega,by omega,by omega,?_⟩
 generalize hx:(u1:Int) * 131 + (u2:Int) * 1117 + (p - 1) * 29 + q * 53=x
 have x0:0≤x:=by omega
 have x1:x < 9223372036854775807:=by omega
 refine hK _ ?_;clear hK K
 refine Aw_st hE [1,6] [] fun K hK=>?_
 simp only [go_sem,reduceIte,Nat.reduceLT,Nat.reduceLeDiff,Nat.reduceEqDiff,Nat.reduceAdd,Nat.reduceMul,Nat.reduceSub,Nat.reduceBEq,Int.reduceToNat,List.reduceReplicate,reduceCtorEq]
 have d1:0≤x.tdiv 64:=Int.tdiv_nonneg x0 (by omega)
 have d2:x.tdiv 64≤x:=by rw [Int.tdiv_eq_ediv_of_nonneg x0];exact Int.ediv_le_self _ x0
 refine ⟨⟨by omega,by omega,by omega⟩,?_⟩
 obtain ⟨y,hy,hy0⟩:=xor_nonneg x (x.tdiv 64) x0 x1 d1 (by omega)
 erw [hy]
 refine hK _ ?_;clear hK K
 refine Aw_st hE [4] [] fun K hK=>?_
 simp only [go_sem,reduceIte,Nat.reduceLT,Nat.reduceLeDiff,Nat.reduceEqDiff,Nat.reduceAdd,Nat.reduceMul,Nat.reduceSub,Nat.reduceBEq,Int.reduceToNat,List.reduceReplicate,reduceCtorEq]
 refine ⟨by omega,hK _ (Aw_ret (hQ _ ⟨_,rfl,Int.tmod_nonneg _ hy0,.inl ?_⟩))⟩
 rw [Int.tmod_eq_emod_of_nonneg hy0];exact Int.emod_lt_of_pos _ (by omega)
set_option maxRecDepth 100000
def cPick:Con:={ pre:=fun args=>∃ n:Int,args=[.rd,iv n],post:=fun args r=>∀ n:Int,args=[.rd,iv n]→∃ x:Int,r=iv x∧0≤x∧(x < n∨x=0),cost:=1,draws:=true }
theorem cPick_own:cPick.own=false:=rfl
theorem cPick_draws:cPick.draws=true:=rfl
theorem cPick_cost:cPick.cost=1:=rfl
attribute [go_sem] cPick_own cPick_draws cPick_cost
theorem pick_head (w:World) (g:Nat) (T:TypeId) (bv:Value) (p n:Int) (hp:0≤p) (hp2:p < 1099511627776) (hg:w.heap[g]? = some (.cells #[bv,.int .i64 p] T (0,0))) {Post:Ending→World→Prop}
  (h:∀ (a:Act) (rest:Code),(∃ c0 c1,Tryz.f12.body=some (.seq c0 (.seq c1 rest)))→a.tmps.size=99→a.defers=[]→a.tmps.getD 0 undef = .pointer (some ⟨g,0,none⟩)→a.tmps.getD 1 undef = .int .i64 n→a.tmps.getD 4 undef = .int .i64 0→
   rest.wp Tryz.prog (bodyPost Tryz.prog Tryz.f12 Post) a (w.setCell ⟨g,1,none⟩ (.int .i64 (p + 1)))) :
  Calls Tryz.prog 12 #[.pointer (some ⟨g,0,none⟩),.int .i64 n] w Post:=by
 have c1:w.cell? ⟨g,1,none⟩=some (.int .i64 p):=by rw [cell_of_row w g 1 _ T _ hg];rfl
 have hf:w.frozen? ⟨g,1,none⟩=false:=by simp [World.frozen?,hg]
 go_enter Tryz.func12,Tryz.ntmps12
 refine wp_seq_k fun K hK=>?_
 have hB:PLift _:=⟨hK⟩
 clear hK
 go_wp2
 refine hB.down _ _ ?_
 clear hB K
 refine wp_seq_k fun K hK=>?_
 have hB:PLift _:=⟨hK⟩
 clear hK
 go_wp2
 refine hB.down _ _ ?_
 clear hB K
 refine h _ _ ⟨_,_,rfl⟩ ?_ ?_ ?_ ?_ ?_
 all_goals rfl
theorem setCell_same {w:World} {g i:Nat} {cs:Array Value} {T:TypeId} {fr:Nat × Nat} (hb:w.heap[g]? = some (.cells cs T fr)) (v:Value) :
  (w.setCell ⟨g,i,none⟩ v).heap[g]? = some (.cells (cs.setIfInBounds i v) T fr):=by
 simp [World.setCell,Array.getElem?_modify,hb]
theorem grownBy_setCell (w:World) (g i:Nat) (v:Value):w.grownBy (w.setCell ⟨g,i,none⟩ v) (some g) :=
 ⟨rfl,rfl,rfl,by simp [World.setCell],fun k _ hr=>Below.heap_setCell w ⟨g,i,none⟩ v k (fun e=>hr (by rw [e]))⟩
theorem rdd_bytes {w:World} {S:Nat→Nat→Prop} {cb off len cap:Nat} {f:Nat→Nat} (hlc:len≤cap) (h:∀ k,k < len→S cb (off + k)∧w.cell? ⟨cb,off + k,none⟩=some (.int .u8 (f k))) :
  RdD w S (.sl (byteRows ((List.range len).map f))) (.slice (some ⟨cb,off,none⟩) len cap):=by
 refine .sl _ cb off len cap 1 (fun k=>.int .u8 (f k)) (by simp [byteRows]) hlc ?_ (fun k hk=>h k (by omega)) ?_
 ·intro row hr
  simp only [byteRows,List.map_map,List.mem_map] at hr
  obtain ⟨x,_,rfl⟩:=hr
  rfl
 ·intro i j row x hi hj
  simp only [byteRows,List.map_map,List.getElem?_map,Option.map_eq_some_iff] at hi
  obtain ⟨y,hy,rfl⟩:=hi
  have hil:i < len:=by
   have:=(List.getElem?_eq_some_iff.1 hy).1
   simpa using this
  match j,hj with
  | 0,hj =>
   obtain rfl:=Option.some.inj hj
   have e:y=i:=by rw [List.getElem?_range hil] at hy;exact (Option.some.inj hy).symm
   subst e
   simp only [Nat.mul_one,Nat.add_zero]
   exact .v _ rfl
theorem pick_ok : Fine Tryz.prog 12 cPick := by
  refine ⟨⟨_, Tryz.func12, rfl, rfl⟩, ?_⟩
  rintro c args vs bv B n hsz hrd her ⟨m, rfl⟩ - hsx hs1 hdr
  obtain ⟨hsg, hrk, hB, hlim⟩ := hdr rfl
  have hrk0 := hrk
  obtain ⟨hgB, T, p, hg, hp0, hp1, hbv⟩ := hrk
  have hlim' : n + 1 ≤ lim := hlim
  unfold lim at hlim'
  have evs : vs = #[.pointer (some ⟨c.g, 0, none⟩), .int .i64 m] := by
    have h0 := hrd 0 .rd rfl
    have h1 := hrd 1 (iv m) rfl
    apply Array.ext
    · simpa using hsz
    · intro i h2 h3
      have e : vs.getD i undef = vs[i] := by simp [Array.getD_eq_getD_getElem?, h2]
      have : i = 0 ∨ i = 1 := by simp at h3; omega
      rcases this with rfl | rfl
      · rw [e] at h0; generalize vs[0] = u at h0; cases h0; rfl
      · rw [e] at h1; generalize vs[1] = u at h1; cases h1; rfl
  subst evs
  refine pick_head c.w c.g T bv p m hp0 (by omega) hg ?_
  intro a rest ⟨k0, k1, hbody⟩ hasz had ha0 ha1 ha4
  -- the world behind the store
  have hw1g : (c.w.setCell ⟨c.g, 1, none⟩ (.int .i64 (p + 1))).heap[c.g]? = some (.cells #[bv, .int .i64 (p + 1)] T (0, 0)) := by
    rw [setCell_same hg]; rfl
  have hw1o : ∀ k, k ≠ c.g → (c.w.setCell ⟨c.g, 1, none⟩ (.int .i64 (p + 1))).heap[k]? = c.w.heap[k]? := fun k hk => Below.heap_setCell c.w _ _ k hk
  have hgr := grownBy_setCell c.w c.g 1 (.int .i64 (p + 1))
  generalize c.w.setCell ⟨c.g, 1, none⟩ (.int .i64 (p + 1)) = w1 at hw1g hw1o hgr
  have hsize : c.w.heap.size ≤ w1.heap.size := hgr.size
  obtain ⟨bs, S1, hbs, hbl, hrd1, hsx1, hs11⟩ : ∃ (bs : List Nat) (S1 : Nat → Nat → Prop), (∀ b ∈ bs, b < 256) ∧ bs.length ≤ 2000 ∧ RdD w1 S1 (.sl (byteRows bs)) bv ∧
      (∀ b o, S1 b o → b ≠ c.g ∧ ∃ v, w1.cell? ⟨b, o, none⟩ = some v) ∧ (∀ b o v, S1 b o → w1.cell? ⟨b, o, none⟩ = some v → v.oneCell' = true) := by
    rcases hbv with rfl | ⟨cb, off, len, cap, f, rfl, h12, h3, h4⟩ | ⟨ad, rfl⟩
    rotate_left 2
    · exact ⟨[], fun _ _ => False, by simp, by simp, .em ad, fun _ _ h => h.elim, fun _ _ _ h => h.elim⟩
    · exact ⟨[], fun _ _ => False, by simp, by simp, .nil, fun _ _ h => h.elim, fun _ _ _ h => h.elim⟩
    · obtain ⟨h3, hlc⟩ := h3
      have hcell : ∀ k, k < len → w1.cell? ⟨cb, off + k, none⟩ = some (.int .u8 (f k)) := fun k hk =>
        (World.cell?_of_block (w := c.w) (a := ⟨cb, off + k, none⟩) (hw1o cb (h12 (by omega)).1)).trans (h4 k hk).2
      refine ⟨(List.range len).map f, fun b o => b = cb ∧ off ≤ o ∧ o < off + len, ?_, by simpa using h3, rdd_bytes hlc fun k hk => ⟨⟨rfl, by omega, by omega⟩, hcell k hk⟩, ?_, ?_⟩
      · intro b hb
        simp only [List.mem_map, List.mem_range] at hb
        obtain ⟨k, hk, rfl⟩ := hb
        exact (h4 k hk).1
      · rintro b o ⟨rfl, h5, h6⟩
        refine ⟨(h12 (by omega)).1, .int .u8 (f (o - off)), ?_⟩
        have := hcell (o - off) (by omega)
        rwa [show off + (o - off) = o by omega] at this
      · rintro b o v ⟨rfl, h5, h6⟩ hv
        have := hcell (o - off) (by omega)
        rw [show off + (o - off) = o by omega, hv] at this
        obtain rfl := Option.some.inj this
        rfl
  let S2 : Nat → Nat → Prop := fun b o => S1 b o ∨ (b = c.g ∧ o < 2)
  let E1 : En := { P := Tryz.prog, w0 := w1, draws := false, g := c.g, bv := bv, S0 := S2 }
  have hcg : ∀ o, w1.cell? ⟨c.g, o, none⟩ = (#[bv, .int .i64 (p + 1)] : Array Value)[o]? := fun o => by rw [cell_of_row w1 c.g o _ T _ hw1g]
  have hbv1 : bv.oneCell' = true := by
    rcases hbv with rfl | ⟨cb, off, len, cap, f, rfl, _⟩ | ⟨ad, rfl⟩ <;> rfl
  have hE : TbOk E1 { T := TT, G := [], D := [], draws := false } := ⟨tt, fun _ h => (by cases h), fun _ h => (by cases h), fun _ h => (by cases h), fun _ h => (by cases h), rfl, fun _ h => (by cases h), fun _ _ h => h, rfl, fun _ h => (by cases h), fun _ h => (by cases h), fun _ h => (by cases h), fun _ h => (by cases h)⟩
  have key := pick_rest hE bs hbs hbl (p + 1) m (by omega) (by omega) 0 (Q := fun e st => e = .ret ∧ pickOk m st) (fun st h => ⟨rfl, h⟩) hbody
  have hR : R E1 (pickSt bs (p + 1) m 0) a w1 := by
    let c1 : Gh := { w := w1, S := S2, β := fun _ => 0, tv := fun _ _ => .slice none 0 0, te := fun _ _ => 0, g := c.g }
    refine ⟨c1, rfl, ?_, ?_, by rw [hasz]; rfl, had⟩
    · exact { bl := fun _ _ => rfl, cg := rfl, fr := ⟨rfl, rfl, rfl, Nat.le_refl _, fun _ _ _ _ => rfl⟩, lx := fun _ _ h => h.elim,
              sx := fun b o h => by
                rcases h with h | ⟨rfl, h⟩
                · exact .inl (hsx1 b o h).2
                · refine .inl ⟨(#[bv, .int .i64 (p + 1)] : Array Value)[o], ?_⟩
                  rw [hcg]; exact Array.getElem?_eq_getElem h
              s1 := fun b o v h hv => by
                rcases h with h | ⟨rfl, h⟩
                · exact hs11 b o v h hv
                · rw [hcg] at hv
                  have : o = 0 ∨ o = 1 := by omega
                  rcases this with rfl | rfl
                  · obtain rfl := Option.some.inj hv; exact hbv1
                  · obtain rfl := Option.some.inj hv; rfl
              sS := fun _ _ h => .inr h, sg := fun h => (by cases h), box := fun d ls hl => by simp [pickSt, lkm] at hl, boxinj := fun d d' l l' hl => by simp [pickSt, lkm] at hl,
              tok := fun _ _ => .inl rfl, toktok := fun _ _ _ _ b hb => by simp [c1, Value.ownBlock] at hb, tokbox := fun _ _ b _ _ hb => by simp [c1, Value.ownBlock] at hb,
              rk := fun h => (by cases h) }
    · intro x
      simp only [pickSt, lk]
      split
      · rename_i e; subst e
        rw [ha0]
        refine .el _ c.g 0 (fun k => (#[bv, .int .i64 (p + 1)] : Array Value).getD k undef) (fun k hk => ?_) (fun j x hx => ?_)
        · simp only [List.length_cons, List.length_nil] at hk
          refine ⟨.inr ⟨rfl, by omega⟩, ?_⟩
          show w1.cell? _ = _
          rw [Nat.zero_add, hcg]
          have : k = 0 ∨ k = 1 := by omega
          rcases this with rfl | rfl <;> rfl
        · match j, hx with
          | 0, hx =>
            obtain rfl := Option.some.inj hx
            exact RdD.keep (w := w1) (S := S1) (Keeps.same (fun _ _ h => .inl h) fun _ _ _ => rfl) hrd1
          | 1, hx =>
            obtain rfl := Option.some.inj hx
            exact .v _ rfl
      · split
        · rename_i e; subst e; rw [ha1]; exact .v _ rfl
        · split
          · rename_i e; subst e; rw [ha4]; exact .v _ rfl
          · exact .junk _
  refine Go.wp_mono (key a w1 hR) ?_
  rintro e a' w' ⟨st', ⟨c1, rfl, G, hσ, hn, hd⟩, rfl, x, hx, hx0, hxn⟩
  have h4 := hσ 4
  rw [hx] at h4
  have e4 : a'.tmps.getD 4 undef = .int .i64 x := by generalize a'.tmps.getD 4 undef = u at h4; cases h4; rfl
  have hgr2 : w1.grownBy c1.w none := G.fr.by (fun _ h => h)
  have hkeep : ∀ k, k < w1.heap.size → c1.w.heap[k]? = w1.heap[k]? := fun k hk => hgr2.block k hk (by simp)
  have hglt : c.g < w1.heap.size := (Array.getElem?_eq_some_iff.1 hw1g).1
  refine ⟨hd, .int .i64 x, ?_, .int .i64 x, iv x, { w := c1.w, S := c.S, β := fun _ => 0, tv := fun _ _ => .slice none 0 0, te := fun _ _ => 0, g := c.g }, rfl, fun m' hm' => ?_, ?_⟩
  · rw [results_rv, Tryz.results12]
    simp [rv, e4]
  · simp only [List.cons.injEq, AV.v.injEq, Value.int.injEq, true_and, and_true] at hm'
    subst hm'
    exact ⟨x, rfl, hx0, hxn⟩
  · have hkp : Keeps c.w c.S c1.w c.S := keeps_of_lt (fun _ _ h => h) fun b o h hlt => by
      have hne : b ≠ c.g := fun e => hsg o (e ▸ h)
      exact (hkeep b (by omega)).trans (hw1o b hne)
    exact { w := rfl, g := rfl, rd := .v _ rfl, fr := by
              have e : (if cPick.draws then some c.g else none) = some c.g := rfl
              show c.w.grownBy c1.w (if cPick.draws then some c.g else none)
              rw [e]
              exact grownBy_trans hgr ⟨hgr2.os, hgr2.tape, hgr2.output, hgr2.size, fun i hi _ => hgr2.block i hi (by simp)⟩
            S := fun b o h => .inr h, sx := fun b o h => by
              exact hkp.lk h (hsx b o h)
            s1 := fun b o v h hv => by
              rcases hsx b o h with ⟨u, hu⟩ | ⟨rfl, es, ck, hb⟩
              · have := (hkp.1 b o u h hu).2
                rw [hv] at this
                obtain rfl := Option.some.inj this
                exact hs1 b o v h hu
              · have h1 := (hkp.2 b es ck h hb).2
                simp [World.cell?, h1] at hv
            tok := fun _ _ => .inl rfl, toktok := fun _ _ _ _ b hb => by simp [Value.ownBlock] at hb
            rk := fun _ => by
              have hgB' := hgB
              refine ⟨hgB', T, p + 1, (hkeep c.g hglt).trans hw1g, by omega, by show p + 1 ≤ ((n + 1 : Nat) : Int); omega, ?_⟩
              rcases hbv with h | ⟨cb, off, len, cap, f, h1, h23, h4, h5⟩ | h
              · exact .inl h
              rotate_left
              · exact .inr (.inr h)
              · refine .inr (.inl ⟨cb, off, len, cap, f, h1, h23, h4, fun k hk => ⟨(h5 k hk).1, ?_⟩⟩)
                have h2 := (h23 (by omega)).1
                have h3 := (h23 (by omega)).2
                exact (World.cell?_of_block (w := c.w) (a := ⟨cb, off + k, none⟩) ((hkeep cb (by omega)).trans (hw1o cb h2))).trans (h5 k hk).2 }
theorem alloc_old (w:World) (o:Obj) (k:Nat) (hk:k < w.heap.size):(w.alloc o).heap[k]? = w.heap[k]? := by
 show (w.heap.push o)[k]? = _
 rw [Array.getElem?_push,if_neg (by omega)]
theorem alloc_new (w:World) (o:Obj):(w.alloc o).heap[w.heap.size]? = some o:=by
 show (w.heap.push o)[w.heap.size]? = _
 rw [Array.getElem?_push,if_pos rfl]
theorem alloc_size (w:World) (o:Obj):(w.alloc o).heap.size=w.heap.size + 1:=Array.size_push ..
theorem grownBy_alloc (w:World) (o:Obj) (r:Option Nat):w.grownBy (w.alloc o) r :=
 ⟨rfl,rfl,rfl,by rw [alloc_size];omega,fun i hi _=>alloc_old w o i hi⟩
theorem opened_mk (w:World) (v:Value) (hv:BytesAt w v) (hlen:∀ cb len cap,v = .slice cb len cap→len≤2000) :
  ∀ u,(∀ b,bvB v b→bvB u b)→Opened u w (.returned (.pointer (some ⟨w.heap.size,0,none⟩))) (w.alloc (.cells #[v,.int .i64 0] 51 (0,0))):=by
 intro u hu
 refine ⟨_,v,rfl,grownBy_alloc _ _ _,Nat.le_refl _,⟨by rw [alloc_size];omega,_,0,alloc_new _ _,by omega,by omega,?_⟩,hu⟩
 rcases hv with h | ⟨cb,off,len,cap,f,rfl,h1,h2,h3⟩ | h
 ·exact .inl h
 rotate_left
 ·exact .inr (.inr h)
 ·refine .inr (.inl ⟨cb,off,len,cap,f,rfl,fun h0=>⟨by have:=h2 h0;omega,by have:=h2 h0;rw [alloc_size];omega⟩,⟨hlen _ _ _ rfl,h1⟩,fun k hk=>⟨(h3 k hk).1,?_⟩⟩)
  exact (World.cell?_of_block (w:=w) (a:=⟨cb,off + k,none⟩) (alloc_old w _ cb (h2 (by omega)))).trans (h3 k hk).2
theorem open_calls (w:World) (v:Value) (hv:BytesAt w v):Calls Tryz.prog 9 #[v] w (Opened v w):=by
 rcases hv with rfl | ⟨cb,off,len,cap,f,rfl,h1,h2,h3⟩ | ⟨ad,rfl⟩
 rotate_left 2
 ·have H:=opened_mk w (.slice (some ad) 0 0) (.inr (.inr ⟨ad,rfl⟩)) (fun cb len cap h=>by cases h;omega) _ (fun _ h=>h)
  go_enter Tryz.func9,Tryz.ntmps9
  go_wp2
  all_goals go_ret
  all_goals exact H
 ·have H:=opened_mk w (.slice none 0 0) (.inl rfl) (fun cb len cap h=>by cases h;omega) _ (fun _ h=>h)
  go_enter Tryz.func9,Tryz.ntmps9
  go_wp2
  all_goals go_ret
  all_goals exact H
 ·by_cases hl:len≤2000
  ·have H:=Lib.hid (opened_mk w (.slice (some ⟨cb,off,none⟩) len cap) (.inr (.inl ⟨cb,off,len,cap,f,rfl,h1,h2,h3⟩)) (fun cb len cap h=>by cases h;exact hl) _ (fun _ h=>h))
   clear h3
   have hl':decide (2000 < len)=false:=by simpa using hl
   go_enter Tryz.func9,Tryz.ntmps9
   go_wp2
   all_goals go_ret
   all_goals exact H.out
  ·have H:=Lib.hid (opened_mk w (.slice (some ⟨cb,off,none⟩) 2000 cap) (.inr (.inl ⟨cb,off,2000,cap,f,rfl,by omega,fun _=>h2 (by omega),fun k hk=>h3 k (by omega)⟩)) (fun cb len cap h=>by cases h;omega) (.slice (some ⟨cb,off,none⟩) len cap) (fun b ⟨o',l',c',h,h0⟩=>by cases h;exact ⟨off,len,cap,rfl,by omega⟩))
   clear h3
   have hl':decide (2000 < len)=true:=by simpa using hl
   go_enter Tryz.func9,Tryz.ntmps9
   go_wp2
   all_goals go_ret
   all_goals exact H.out
set_option maxRecDepth 10000
def szR (b:Int):Int:=2 ^ (8 - b).toNat
def rngOk (f b:Int):Bool:=decide (0≤b) && (decide (b≤8) && ((decide (0≤f) && decide (f≤255)) && decide (f.tmod (szR b)=0)))
theorem szR_ne (b:Int):szR b≠0:=by
 unfold szR
 have:(2:Int) ^ (8 - b).toNat > 0:=Int.pow_pos (by omega)
 omega
theorem wrap_shl (b:Int) (h1:0≤b) (h2:b≤8):IntKind.i64.wrap (1 * 2 ^ min (8 - b).toNat 64)=szR b:=by
 unfold szR
 have:b=0∨b=1∨b=2∨b=3∨b=4∨b=5∨b=6∨b=7∨b=8:=by omega
 rcases this with rfl | rfl | rfl | rfl | rfl | rfl | rfl | rfl | rfl<;>decide
def gIsAddr:List AV→Option (Prop × AV) | [.v (.int .i64 n)]=>some (True,bv (decide (0≤n) && decide (n≤255))) | _=>none
def dIsAddr:DFn:={ g:=gIsAddr }
def gMany:List AV→Option (Prop × AV) | [.agg [.v (.int .i64 _),.v (.int .i64 b)]]=>some (0≤b∧b≤8,iv (szR b)) | _=>none
def dMany:DFn:={ g:=gMany }
def gRangeOk:List AV→Option (Prop × AV) | [.agg [.v (.int .i64 f),.v (.int .i64 b)]]=>some (True,bv (rngOk f b)) | _=>none
def dRangeOk:DFn:={ g:=gRangeOk }
def gIn:List AV→Option (Prop × AV) | [.v (.int .i64 x),.v (.int .i64 a),.v (.int .i64 b)]=>some (True,bv (decide (a≤x) && decide (x≤b))) | _=>none
def dIn:DFn:={ g:=gIn }
def gSize:List AV→Option (Prop × AV) | [.v (.int .i64 b)]=>some (0≤b∧b≤8,iv (szR b)) | _=>none
def dSize:DFn:={ g:=gSize }
attribute [go_sem] gIsAddr dIsAddr gMany dMany gRangeOk dRangeOk gIn dIn gSize dSize
theorem isAddr_ok:Fine Tryz.prog 53 dIsAddr.con:=by
 refine fine_det (T:=TT) Tryz.func53 rfl Tryz.ntmps53 (by rw [Tryz.results53]) rfl rfl tt (gs_nil) (ds_nil) ?_
 intro args c r h hc
 simp only [dIsAddr,gIsAddr] at h
 split at h
 rotate_left
 ·cases h
 obtain ⟨rfl,rfl⟩:=Prod.mk.inj (Option.some.inj h)
 refine ⟨by simp,fun k E hE Q hQ=>?_⟩
 refine Aw_st hE [0] [] fun K hK=>?_
 simp only [go_sem,reduceIte,Nat.reduceLT,Nat.reduceLeDiff,Nat.reduceEqDiff,Nat.reduceAdd,Nat.reduceMul,Nat.reduceSub,Nat.reduceBEq,Int.reduceToNat,List.reduceReplicate,reduceCtorEq]
 refine hK _ ?_
 clear hK K
 refine Aw_st hE [2] [] fun K hK=>?_
 simp only [go_sem,reduceIte,Nat.reduceLT,Nat.reduceLeDiff,Nat.reduceEqDiff,Nat.reduceAdd,Nat.reduceMul,Nat.reduceSub,Nat.reduceBEq,Int.reduceToNat,List.reduceReplicate,reduceCtorEq]
 refine ⟨fun h1=>hK _ (Aw_ret (hQ _ ?_)),fun h1=>hK _ (Aw_ret (hQ _ ?_))⟩<;>simp only [go_sem,reduceIte,Nat.reduceLT,Nat.reduceLeDiff,Nat.reduceEqDiff,Nat.reduceAdd,Nat.reduceMul,Nat.reduceSub,Nat.reduceBEq,Int.reduceToNat,List.reduceReplicate,reduceCtorEq,h1,Bool.true_and,Bool.false_and]
theorem many_ok:Fine Tryz.prog 54 dMany.con:=by
 refine fine_det (T:=TT) Tryz.func54 rfl Tryz.ntmps54 (by rw [Tryz.results54]) rfl rfl tt (gs_nil) (ds_nil) ?_
 intro args c r h hc
 simp only [dMany,gMany] at h
 split at h
 rotate_left
 ·cases h
 obtain ⟨rfl,rfl⟩:=Prod.mk.inj (Option.some.inj h)
 refine ⟨by simp,fun k E hE Q hQ=>?_⟩
 refine Aw_st hE [1] [1] fun K hK=>?_
 simp only [go_sem,reduceIte,Nat.reduceLT,Nat.reduceLeDiff,Nat.reduceEqDiff,Nat.reduceAdd,Nat.reduceMul,Nat.reduceSub,Nat.reduceBEq,Int.reduceToNat,List.reduceReplicate,reduceCtorEq]
 refine hK _ ?_
 clear hK K
 refine Aw_st hE [2] [] fun K hK=>?_
 simp only [go_sem,reduceIte,Nat.reduceLT,Nat.reduceLeDiff,Nat.reduceEqDiff,Nat.reduceAdd,Nat.reduceMul,Nat.reduceSub,Nat.reduceBEq,Int.reduceToNat,List.reduceReplicate,reduceCtorEq]
 refine ⟨by omega,by omega,hK _ (Aw_ret (hQ _ ?_))⟩
 simp only [go_sem,reduceIte,Nat.reduceLT,Nat.reduceLeDiff,Nat.reduceEqDiff,Nat.reduceAdd,Nat.reduceMul,Nat.reduceSub,Nat.reduceBEq,Int.reduceToNat,List.reduceReplicate,reduceCtorEq,wrap_shl _ hc.1 hc.2]
theorem rangeOk_ok:Fine Tryz.prog 33 dRangeOk.con:=by
 refine fine_det (T:=TT) Tryz.func33 rfl Tryz.ntmps33 (by rw [Tryz.results33]) rfl rfl tt (gs_nil) (ds_cons isAddr_ok (ds_cons many_ok ds_nil)) ?_
 intro args c r h hc
 simp only [dRangeOk,gRangeOk] at h
 split at h
 rotate_left
 ·cases h
 obtain ⟨rfl,rfl⟩:=Prod.mk.inj (Option.some.inj h)
 refine ⟨by simp,fun k E hE Q hQ=>?_⟩
 refine Aw_st hE [1] [1] fun K hK=>?_
 simp only [go_sem,reduceIte,Nat.reduceLT,Nat.reduceLeDiff,Nat.reduceEqDiff,Nat.reduceAdd,Nat.reduceMul,Nat.reduceSub,Nat.reduceBEq,Int.reduceToNat,List.reduceReplicate,reduceCtorEq]
 refine hK _ ?_
 clear hK K
 refine Aw_sd hE [2] [] 3 (by kernel_rfl) fun K hK=>?_
 simp only [go_sem,reduceIte,Nat.reduceLT,Nat.reduceLeDiff,Nat.reduceEqDiff,Nat.reduceAdd,Nat.reduceMul,Nat.reduceSub,Nat.reduceBEq,Int.reduceToNat,List.reduceReplicate,reduceCtorEq]
 repeat' (first | exact szR_ne _ | (refine ⟨?_,?_⟩) | (intro _))
 all_goals first | (refine hK _ (Aw_ret (hQ _ ?_));simp only [go_sem,reduceIte,Nat.reduceLT,Nat.reduceLeDiff,Nat.reduceEqDiff,Nat.reduceAdd,Nat.reduceMul,Nat.reduceSub,Nat.reduceBEq,Int.reduceToNat,List.reduceReplicate,reduceCtorEq,rngOk, *,Bool.true_and,Bool.false_and,Bool.and_true,Bool.and_false];done) | (simp only [dte] at *;omega)
theorem in_ok:Fine Tryz.prog 29 dIn.con:=by
 refine fine_det (T:=TT) Tryz.func29 rfl Tryz.ntmps29 (by rw [Tryz.results29]) rfl rfl tt (gs_nil) (ds_nil) ?_
 intro args c r h hc
 simp only [dIn,gIn] at h
 split at h
 rotate_left
 ·cases h
 obtain ⟨rfl,rfl⟩:=Prod.mk.inj (Option.some.inj h)
 refine ⟨by simp,fun k E hE Q hQ=>?_⟩
 refine Aw_st hE [0,1,2] [] fun K hK=>?_
 simp only [go_sem,reduceIte,Nat.reduceLT,Nat.reduceLeDiff,Nat.reduceEqDiff,Nat.reduceAdd,Nat.reduceMul,Nat.reduceSub,Nat.reduceBEq,Int.reduceToNat,List.reduceReplicate,reduceCtorEq]
 refine hK _ ?_
 clear hK K
 refine Aw_st hE [6] [] fun K hK=>?_
 simp only [go_sem,reduceIte,Nat.reduceLT,Nat.reduceLeDiff,Nat.reduceEqDiff,Nat.reduceAdd,Nat.reduceMul,Nat.reduceSub,Nat.reduceBEq,Int.reduceToNat,List.reduceReplicate,reduceCtorEq]
 refine ⟨fun h1=>hK _ (Aw_ret (hQ _ ?_)),fun h1=>hK _ (Aw_ret (hQ _ ?_))⟩<;>simp only [go_sem,reduceIte,Nat.reduceLT,Nat.reduceLeDiff,Nat.reduceEqDiff,Nat.reduceAdd,Nat.reduceMul,Nat.reduceSub,Nat.reduceBEq,Int.reduceToNat,List.reduceReplicate,reduceCtorEq,h1,Bool.true_and,Bool.false_and]
theorem size_step (i:Nat) (h:i < 8):((2:Int) ^ (8 - i)).tdiv 2=2 ^ (8 - (i + 1)):=by
 have:i=0∨i=1∨i=2∨i=3∨i=4∨i=5∨i=6∨i=7:=by omega
 rcases this with rfl | rfl | rfl | rfl | rfl | rfl | rfl | rfl<;>decide
theorem pow_le8 (i:Nat):(2:Int) ^ (8 - i)≤256∧0≤(2:Int) ^ (8 - i):=by
 have h:8 - i≤8:=by omega
 generalize 8 - i=j at h
 have:j=0∨j=1∨j=2∨j=3∨j=4∨j=5∨j=6∨j=7∨j=8:=by omega
 rcases this with rfl | rfl | rfl | rfl | rfl | rfl | rfl | rfl | rfl<;>decide
theorem size_ok:Fine Tryz.prog 52 dSize.con:=by
 refine fine_det (T:=TT) Tryz.func52 rfl Tryz.ntmps52 (by rw [Tryz.results52]) rfl rfl tt (gs_nil) (ds_nil) ?_
 intro args c r h hc
 simp only [dSize,gSize] at h
 split at h
 rotate_left
 ·cases h
 obtain ⟨rfl,rfl⟩:=Prod.mk.inj (Option.some.inj h)
 refine ⟨by simp,fun k E hE Q hQ=>?_⟩
 rename_i b
 refine Aw_st hE [0] [] fun K hK=>?_
 simp only [go_sem,reduceIte,Nat.reduceLT,Nat.reduceLeDiff,Nat.reduceEqDiff,Nat.reduceAdd,Nat.reduceMul,Nat.reduceSub,Nat.reduceBEq,Int.reduceToNat,List.reduceReplicate,reduceCtorEq]
 refine hK _ ?_
 clear hK K
 refine Aw_st hE [0,3] [] fun K hK=>?_
 simp only [go_sem,reduceIte,Nat.reduceLT,Nat.reduceLeDiff,Nat.reduceEqDiff,Nat.reduceAdd,Nat.reduceMul,Nat.reduceSub,Nat.reduceBEq,Int.reduceToNat,List.reduceReplicate,reduceCtorEq]
 refine hK _ ?_
 clear hK K
 refine Aw_sq fun B hB _ _=>?_
 refine Aw_st hE [0,3,4] [] fun K hK=>?_
 simp only [go_sem,reduceIte,Nat.reduceLT,Nat.reduceLeDiff,Nat.reduceEqDiff,Nat.reduceAdd,Nat.reduceMul,Nat.reduceSub,Nat.reduceBEq,Int.reduceToNat,List.reduceReplicate,reduceCtorEq]
 refine hK _ ?_
 clear hK K
 refine Aw_bk fun B1 h1 h2 h3 h4=>?_
 refine Aw_lp (fun i:Nat=>⟨13,[(0,iv b),(3,iv (2 ^ (8 - i))),(4,iv i)],[],k⟩) (fun i=>(i:Int)≤b) (fun i=>b.toNat - i) 0 (Le.refl _) (by omega) fun i hi B2 g1 g2 g3=>?_
 refine Aw_sq fun B3 e1 e2 e3=>?_
 refine Aw_st hE [0,3,4,7] [] fun K hK=>?_
 simp only [go_sem,reduceIte,Nat.reduceLT,Nat.reduceLeDiff,Nat.reduceEqDiff,Nat.reduceAdd,Nat.reduceMul,Nat.reduceSub,Nat.reduceBEq,Int.reduceToNat,List.reduceReplicate,reduceCtorEq]
 refine hK _ ?_
 clear hK K
 refine Aw_cond rfl (fun hcc=>Aw_skip (e1 _ ?_)) (fun hcc=>Aw_exit (e3 _ _ (g3 _ _ (h2 _ (hB _ ?_)))))
 ·have hlt:(i:Int) < b:=by simpa using hcc
  refine Aw_sq fun B4 q1 q2 q3=>?_
  refine Aw_bk fun B5 r1 r2 r3 r4=>?_
  refine Aw_tx hE [0,3,4] [] fun K hK=>?_
  simp only [go_sem,reduceIte,Nat.reduceLT,Nat.reduceLeDiff,Nat.reduceEqDiff,Nat.reduceAdd,Nat.reduceMul,Nat.reduceSub,Nat.reduceBEq,Int.reduceToNat,List.reduceReplicate,reduceCtorEq]
  have hb:(2:Int) ^ (8 - i)≤256∧0≤(2:Int) ^ (8 - i):=pow_le8 i
  rw [size_step i (by omega)]
  have hb1:(2:Int) ^ (8 - (i + 1))≤256∧0≤(2:Int) ^ (8 - (i + 1)):=pow_le8 (i + 1)
  refine ⟨⟨by omega,by omega,by omega⟩,hK _ (r1 _ (q1 _ ?_))⟩
  clear hK K
  refine Aw_tx hE [0,3,4] [] fun K hK=>?_
  simp only [go_sem,reduceIte,Nat.reduceLT,Nat.reduceLeDiff,Nat.reduceEqDiff,Nat.reduceAdd,Nat.reduceMul,Nat.reduceSub,Nat.reduceBEq,Int.reduceToNat,List.reduceReplicate,reduceCtorEq]
  refine ⟨by omega,hK _ (g1 (i + 1) _ (by omega) (by omega) (Le.refl _))⟩
 ·have hge:b≤(i:Int):=by simpa using hcc
  refine Aw_st hE [2] [] fun K hK=>?_
  simp only [go_sem,reduceIte,Nat.reduceLT,Nat.reduceLeDiff,Nat.reduceEqDiff,Nat.reduceAdd,Nat.reduceMul,Nat.reduceSub,Nat.reduceBEq,Int.reduceToNat,List.reduceReplicate,reduceCtorEq]
  refine hK _ (Aw_ret (hQ _ ?_))
  simp only [go_sem,reduceIte,Nat.reduceLT,Nat.reduceLeDiff,Nat.reduceEqDiff,Nat.reduceAdd,Nat.reduceMul,Nat.reduceSub,Nat.reduceBEq,Int.reduceToNat,List.reduceReplicate,reduceCtorEq]
  unfold szR
  rw [show (8 - b).toNat=8 - i by omega]
abbrev sv (l:List UInt8):AV:=.v (.string ⟨l.toArray⟩)
theorem sz_mk (a:List UInt8):(ByteArray.mk a.toArray).size=a.length:=by simp [ByteArray.size]
theorem dec_len (n:Nat) (h:n < 4611686018427387904):(Lib.decDigits n).length≤21:=by
 have:=Lib.itoa_length_le (n:Int) (by omega) (by omega)
 rwa [Lib.itoa_nonneg] at this
def gDecK (k:Nat):List AV→Option (Prop × AV) | [.v (.int .i64 n)]=>some (0≤n∧n < k∧n < 4611686018427387904,sv (Lib.decDigits n.toNat)) | _=>none
def dDecK (k:Nat):DFn:={ g:=gDecK k }
attribute [go_sem] gDecK dDecK
def dDec:DFn:=dDecK 4611686018427387904
attribute [go_sem] dDec
def rngText (f b:Int):List UInt8:=Lib.decDigits f.toNat++47::Lib.decDigits b.toNat
def gText1:List AV→Option (Prop × AV) | [.agg [.v (.int .i64 f),.v (.int .i64 b)]]=>some (0≤f∧f≤255∧0≤b∧b≤8,sv (rngText f b)) | _=>none
def dText1:DFn:={ g:=gText1 }
def gRText:List AV→Option (Prop × AV) | [.agg [.v (.int .i64 f),.v (.int .i64 b)]]=>some (True,sv (bif rngOk f b then rngText f b else [])) | _=>none
def dRText:DFn:={ g:=gRText }
attribute [go_sem] gText1 dText1 gRText dRText
theorem sRangeOk_ok:Fine Tryz.prog 27 dRangeOk.con:=by
 refine fine_det (T:=TT) Tryz.func27 rfl Tryz.ntmps27 (by rw [Tryz.results27]) rfl rfl tt (gs_nil) (ds_cons in_ok (ds_cons size_ok ds_nil)) ?_
 intro args c r h hc
 simp only [dRangeOk,gRangeOk] at h
 split at h
 rotate_left
 ·cases h
 obtain ⟨rfl,rfl⟩:=Prod.mk.inj (Option.some.inj h)
 refine ⟨by simp,fun k E hE Q hQ=>?_⟩
 rename_i f b
 refine Aw_st hE [1] [1] fun K hK=>?_
 simp only [go_sem,reduceIte,Nat.reduceLT,Nat.reduceLeDiff,Nat.reduceEqDiff,Nat.reduceAdd,Nat.reduceMul,Nat.reduceSub,Nat.reduceBEq,Int.reduceToNat,List.reduceReplicate,reduceCtorEq]
 refine hK _ ?_;clear hK K
 refine Aw_sd hE [2] [] 6 (by kernel_rfl) fun K hK=>?_
 simp only [go_sem,reduceIte,Nat.reduceLT,Nat.reduceLeDiff,Nat.reduceEqDiff,Nat.reduceAdd,Nat.reduceMul,Nat.reduceSub,Nat.reduceBEq,Int.reduceToNat,List.reduceReplicate,reduceCtorEq]
 refine ⟨fun h1=>⟨fun h2=>⟨by simp only [Bool.and_eq_true,dte] at h1;omega,szR_ne _,?_⟩,fun h2=>?_⟩,fun h1=>?_⟩
 all_goals
  refine hK _ (Aw_ret (hQ _ ?_))
  simp only [go_sem,reduceIte,Nat.reduceLT,Nat.reduceLeDiff,Nat.reduceEqDiff,Nat.reduceAdd,Nat.reduceMul,Nat.reduceSub,Nat.reduceBEq,Int.reduceToNat,List.reduceReplicate,reduceCtorEq,rngOk]
  simp only [← Bool.and_assoc,h1,Bool.true_and,Bool.false_and]
  try simp only [Bool.and_assoc,h2,Bool.true_and,Bool.false_and]
  try simp only [← Bool.and_assoc,h2,Bool.true_and,Bool.false_and]
theorem pick_pre (n:Int):cPick.pre [.rd,iv n]=True:=by simp [cPick]
theorem pick_post (n:Int) (K:AV→Prop):(∀ r,cPick.post [.rd,iv n] r→K r)=(∀ x:Int,0≤x→(x < n∨x=0)→K (iv x)):=by
 apply propext
 constructor
 ·intro h x h1 h2
  refine h _ fun m hm=>?_
  simp only [List.cons.injEq,AV.v.injEq,Value.int.injEq,true_and,and_true] at hm
  subst hm
  exact ⟨x,rfl,h1,h2⟩
 ·intro h r hr
  obtain ⟨x,rfl,h1,h2⟩:=hr n rfl
  exact h x h1 h2
theorem pick_ex (n:Int):(∃ r,cPick.post [.rd,iv n] r)=True:=by
 refine eq_true ⟨iv 0,fun m hm=>⟨0,rfl,by omega,.inr rfl⟩⟩
attribute [go_sem] pick_pre pick_post pick_ex lim
def okRng (f b:Int):Prop:=-2≤f∧f≤257∧-1≤b∧b≤9
instance (f b:Int):Decidable (okRng f b):=by unfold okRng;infer_instance
def cRange:Con:={ pre:=fun args=>args=[.rd],post:=fun _ r=>∃ f b:Int,okRng f b∧r = .agg [iv f,iv b],cost:=8,draws:=true }
theorem cRange_own:cRange.own=false:=rfl
theorem cRange_draws:cRange.draws=true:=rfl
theorem cRange_cost:cRange.cost=8:=rfl
attribute [go_sem] cRange_own cRange_draws cRange_cost
theorem range_pre:cRange.pre [.rd]=True:=by simp [cRange]
theorem range_post (args:List AV) (K:AV→Prop):(∀ r,cRange.post args r→K r)=(∀ f b:Int,okRng f b→K (.agg [iv f,iv b])):=by
 apply propext
 exact ⟨fun h f b hk=>h _ ⟨f,b,hk,rfl⟩,fun h r ⟨f,b,hk,e⟩=>e ▸ h f b hk⟩
theorem range_ex (args:List AV):(∃ r,cRange.post args r)=True:=eq_true ⟨_,0,0,by decide,rfl⟩
attribute [go_sem] range_pre range_post range_ex
theorem tdiv_szR (x b:Int) (hx:0≤x) (hx2:x < 256) (hb:0≤b) (hb2:b≤8):0≤x.tdiv (szR b) * szR b∧x.tdiv (szR b) * szR b≤255∧0≤x.tdiv (szR b)∧szR b≠0∧x.tdiv (szR b)≤255:=by
 have h:0 < szR b:=by
  have:=szR_ne b
  unfold szR at this ⊢
  have:(0:Int)≤2 ^ (8 - b).toNat:=Int.pow_nonneg (by omega)
  omega
 rw [Int.tdiv_eq_ediv_of_nonneg hx]
 have h1:=Int.ediv_mul_le x (b:=szR b) (by omega)
 have h2:0≤x / szR b:=Int.ediv_nonneg hx (by omega)
 have h3:0≤x / szR b * szR b:=Int.mul_nonneg h2 (by omega)
 have h4:x / szR b≤x:=Int.ediv_le_self _ hx
 exact ⟨h3,by omega,h2,by omega,by omega⟩
theorem l91Range_ok:Fine Tryz.prog 24 cRange:=by
 refine fine_of (T:=TT) Tryz.func24 rfl Tryz.ntmps24 (by rw [Tryz.results24]) rfl rfl tt (gs_cons pick_ok gs_nil) (ds_cons size_ok ds_nil) ?_
 rintro args rfl
 refine ⟨by simp,fun k hk E hE Q hQ=>?_⟩
 have hk:=hk rfl
 simp only [go_sem] at hk
 refine Aw_st hE [0,2] [2] fun K hK=>?_
 simp only [go_sem,reduceIte,Nat.reduceLT,Nat.reduceLeDiff,Nat.reduceEqDiff,Nat.reduceAdd,Nat.reduceMul,Nat.reduceSub,Nat.reduceBEq,Int.reduceToNat,List.reduceReplicate,reduceCtorEq]
 refine hK _ ?_;clear hK K
 refine Aw_st hE [0,2,3] [2] fun K hK=>?_
 simp only [go_sem,reduceIte,Nat.reduceLT,Nat.reduceLeDiff,Nat.reduceEqDiff,Nat.reduceAdd,Nat.reduceMul,Nat.reduceSub,Nat.reduceBEq,Int.reduceToNat,List.reduceReplicate,reduceCtorEq]
 have H:∀ b:Int,0≤b→b≤8→K { nt:=40,σ:=[(0,.rd),(2,.loc 2 0),(3,iv b)],m:=[(2,[iv 0,iv 0])],rn:=k + 1 + 1 + 1 + 1 }:=fun b hb1 hb2=>by
  refine hK _ ?_;clear hK K
  refine Aw_st hE [0,2,3,4] [2,4] fun K hK=>?_
  simp only [go_sem,reduceIte,Nat.reduceLT,Nat.reduceLeDiff,Nat.reduceEqDiff,Nat.reduceAdd,Nat.reduceMul,Nat.reduceSub,Nat.reduceBEq,Int.reduceToNat,List.reduceReplicate,reduceCtorEq]
  refine hK _ ?_;clear hK K
  refine Aw_sd hE [0,2,4] [2,4] 6 (by kernel_rfl) fun K hK=>?_
  simp only [go_sem,reduceIte,Nat.reduceLT,Nat.reduceLeDiff,Nat.reduceEqDiff,Nat.reduceAdd,Nat.reduceMul,Nat.reduceSub,Nat.reduceBEq,Int.reduceToNat,List.reduceReplicate,reduceCtorEq]
  repeat' (first | (refine And.intro (by first | omega | decide) ?_) | intro)
  rename_i x h1 h2
  obtain ⟨t1,t2,t3,t4,t5⟩:=tdiv_szR x b h1 (by omega) hb1 hb2
  refine ⟨⟨t4,by omega,by omega⟩,⟨hb1,hb2⟩,⟨by omega,by omega⟩,?_⟩
  refine hK _ ?_;clear hK K
  refine Aw_sq fun B1 hB1 hR1 hX1=>?_
  refine Aw_st hE [0,2,4,31] [2,4] fun K hK=>?_
  simp only [go_sem,reduceIte,Nat.reduceLT,Nat.reduceLeDiff,Nat.reduceEqDiff,Nat.reduceAdd,Nat.reduceMul,Nat.reduceSub,Nat.reduceBEq,Int.reduceToNat,List.reduceReplicate,reduceCtorEq]
  repeat' (first | (refine And.intro (by first | omega | decide) ?_) | intro)
  refine hK _ (Aw_cond rfl (fun hc2=>?_) (fun hc2=>?_))
  ·refine Aw_st hE [2] [2] fun K hK=>?_
   simp only [go_sem,reduceIte,Nat.reduceLT,Nat.reduceLeDiff,Nat.reduceEqDiff,Nat.reduceAdd,Nat.reduceMul,Nat.reduceSub,Nat.reduceBEq,Int.reduceToNat,List.reduceReplicate,reduceCtorEq]
   repeat' (first | (refine And.intro (by first | omega | decide) ?_) | intro)
   refine hK _ (Aw_ret (hR1 _ (hQ _ ?_)))
   simp only [go_sem,reduceIte,Nat.reduceLT,Nat.reduceLeDiff,Nat.reduceEqDiff,Nat.reduceAdd,Nat.reduceMul,Nat.reduceSub,Nat.reduceBEq,Int.reduceToNat,List.reduceReplicate,reduceCtorEq]
   exact ⟨_,_,⟨by omega,by omega,by omega,by omega⟩,rfl⟩
  ·refine Aw_skip (hB1 _ ?_)
   refine Aw_st hE [2] [2] fun K hK=>?_
   simp only [go_sem,reduceIte,Nat.reduceLT,Nat.reduceLeDiff,Nat.reduceEqDiff,Nat.reduceAdd,Nat.reduceMul,Nat.reduceSub,Nat.reduceBEq,Int.reduceToNat,List.reduceReplicate,reduceCtorEq]
   refine hK _ (Aw_ret (hQ _ ?_))
   simp only [go_sem,reduceIte,Nat.reduceLT,Nat.reduceLeDiff,Nat.reduceEqDiff,Nat.reduceAdd,Nat.reduceMul,Nat.reduceSub,Nat.reduceBEq,Int.reduceToNat,List.reduceReplicate,reduceCtorEq]
   exact ⟨by omega,_,_,⟨by omega,by omega,by omega,by omega⟩,rfl⟩
 repeat' (first | (refine And.intro (by first | omega | decide) ?_) | intro)
 rename_i x0 _ _ x1 _ _ x2 _ _ x3 _ _
 have h3:x3=0∨x3=1∨x3=2:=by omega
 rcases h3 with rfl | rfl | rfl<;>simp only [go_sem,reduceIte,Nat.reduceLT,Nat.reduceLeDiff,Nat.reduceEqDiff,Nat.reduceAdd,Nat.reduceMul,Nat.reduceSub,Nat.reduceBEq,Int.reduceToNat,List.reduceReplicate,reduceCtorEq]<;>refine ⟨by omega,H _ (by omega) (by omega)⟩
structure WTab (w:World):Prop where
 tab:Lib.TabIs Tryz.prog w "internal/strconv.uint64pow10" .u64 Lib.pow10Tab
theorem wtab_inh:Inh WTab WTab false:=fun _ _ _ h hg=>⟨var_grown hg h.tab⟩
def gItoa:List AV→Option (Prop × AV) | [.v (.int .i64 n)]=>some (0≤n∧n≤9223372036854775807,sv (Lib.decDigits n.toNat)) | _=>none
def dItoa:DFn:={ g:=gItoa,inv:=WTab }
def dRTextI:DFn:={ g:=gRText,inv:=WTab }
attribute [go_sem] gItoa dItoa dRTextI
theorem itoa_ok:Fine Tryz.prog 70 dItoa.con:=by
 refine lib_fine ⟨_,Tryz.func70,rfl,rfl⟩ ?_
 intro args c r h hc
 simp only [dItoa,gItoa] at h
 split at h
 rotate_left
 ·cases h
 rename_i n
 obtain ⟨rfl,rfl⟩:=Prod.mk.inj (Option.some.inj h)
 refine ⟨[.int .i64 n],.string ⟨(Lib.decDigits n.toNat).toArray⟩,rfl,fun c0=>.v _ rfl,fun w hw=>?_⟩
 refine (Tryz.strconv_Itoa n (by omega) (by omega) w hw.tab).mono ?_
 rintro e w' ⟨rfl,k,os,rfl⟩
 refine ⟨?_,grownBy_grow w k os⟩
 obtain ⟨u,rfl⟩:=Int.eq_ofNat_of_zero_le hc.1
 rw [Lib.itoa_nonneg,Int.toNat_natCast]
end Go.Proofs.W
end
section
namespace Go.Proofs.W
open Go
def val (l:List UInt8):Nat:=l.foldl (fun a c=>10 * a + (c.toNat - 48)) 0
def numGo:List UInt8→Int→Int
 | [],n=>n
 | c::l,n=>if c.toNat < 48∨57 < c.toNat then -1 else numGo l (10 * n + ((c.toNat:Int) - 48))
def num3 (l:List UInt8):Int:=if 1≤l.length∧l.length≤3 then numGo l 0 else -1
end Go.Proofs.W
end
section
namespace Go.Proofs.W
open Go Go.Eng Go.RowKit
set_option maxRecDepth 10000

theorem mk_extract (l:List UInt8) (i j:Nat):(ByteArray.mk l.toArray).extract i j=⟨((l.take j).drop i).toArray⟩:=by
 apply ByteArray.ext
 rw [ByteArray.data_extract]
 simp [List.drop_take]
theorem mk_get (l:List UInt8) (i:Nat):l.toArray.getD i 0=l.getD i 0:=by
 simp [Array.getD_eq_getD_getElem?,List.getD_eq_getElem?_getD]
theorem mk_toList (l:List UInt8):(ByteArray.mk l.toArray).toList=l:=by rw [ByteArray.toList_eq]
attribute [go_sem] mk_extract mk_get mk_toList sz_mk
def gNum:List AV→Option (Prop × AV) | [.v (.string s)]=>some (True,iv (num3 s.data.toList)) | _=>none
def dNum:DFn:={ g:=gNum }
attribute [go_sem] gNum dNum
def gCut:List AV→Option (Prop × AV) | [.v (.string s),.v (.string p)]=>some (s.size < 4294967281,.tup [sv (Lib.cut s.data.toList p.data.toList).1,sv (Lib.cut s.data.toList p.data.toList).2.1,bv (Lib.cut s.data.toList p.data.toList).2.2]) | _=>none
attribute [go_sem] gCut
def codeArg (args:List AV):Prop:=∃ bs:List Nat,(∀ b ∈ bs,b < 256)∧args=[.sl none (byteRows bs)]
def cDRange:Con:={ pre:=codeArg,post:=fun _ r=>∃ f b:Int,okRng f b∧r = .agg [iv f,iv b] }
theorem cDRange_own:cDRange.own=false:=rfl
theorem cDRange_draws:cDRange.draws=false:=rfl
theorem cDRange_cost:cDRange.cost=0:=rfl
attribute [go_sem] cDRange_own cDRange_draws cDRange_cost
theorem drange_post (args:List AV) (K:AV→Prop):(∀ r,cDRange.post args r→K r)=(∀ f b:Int,okRng f b→K (.agg [iv f,iv b])):=by
 apply propext
 exact ⟨fun h f b hk=>h _ ⟨f,b,hk,rfl⟩,fun h r ⟨f,b,hk,e⟩=>e ▸ h f b hk⟩
attribute [go_sem] drange_post

def rows (l:List Int):List (List DV):=l.map fun n=>[DV.v (.int .i64 n)]
abbrev isl (l:List Int):AV:=.sl none (rows l)
def intsL:List (List DV)→Option (List Int)
 | []=>some []
 | [.v (.int .i64 n)]::l=>match intsL l with
  | some r=>some (n::r)
  | none=>none
 | _=>none
theorem rows_nil:rows []=[]:=rfl
theorem rows_cons (n:Int) (l:List Int):rows (n::l)=[DV.v (.int .i64 n)]::rows l:=rfl
theorem intsL_rows (l:List Int):intsL (rows l)=some l:=by
 induction l with
 | nil=>rfl
 | cons n l ih=>simp only [rows_cons,intsL,ih]
theorem intsL_eq {els:List (List DV)}:∀ {l:List Int},intsL els=some l→els=rows l:=by
 induction els with
 | nil=>intro l h;obtain rfl:=Option.some.inj h;rfl
 | cons row els ih =>
  intro l h
  unfold intsL at h
  split at h
  ·rename_i e;cases e
  ·rename_i n l' e
   obtain ⟨rfl,rfl⟩:=List.cons.inj e
   split at h
   ·rename_i r hr
    obtain rfl:=Option.some.inj h
    rw [ih hr];rfl
   ·cases h
  ·cases h
theorem rows_len (l:List Int):(rows l).length=l.length:=by simp [rows]
theorem rows_get (l:List Int) (i:Nat) (h:i < l.length):(rows l)[i]? = some [.v (.int .i64 (l.getD i 0))]:=by simp [rows,List.getD_eq_getElem?_getD,h]
theorem rows_app (a b:List Int):rows a++rows b=rows (a++b):=by simp [rows]
theorem rows_take (l:List Int) (n:Nat):(rows l).take n=rows (l.take n):=by simp [rows,List.map_take]
theorem rows_drop (l:List Int) (n:Nat):(rows l).drop n=rows (l.drop n):=by simp [rows,List.map_drop]
theorem rows_one (n:Int):[[DV.v (.int .i64 n)]]=rows [n]:=rfl
theorem rows_row (l:List Int):∀ row ∈ rows l,row.length=1:=by simp [rows]
attribute [go_sem] intsL_rows rows_len rows_nil rows_take rows_drop rows_app
def isH (h:Int):Bool:=decide (1≤h) && decide (h≤5)
def gIsH:List AV→Option (Prop × AV) | [.v (.int .i64 n)]=>some (True,bv (isH n)) | _=>none
def dIsH:DFn:={ g:=gIsH }
def gHas:List AV→Option (Prop × AV) | [.sl _ els,.v (.int .i64 n)]=>(match intsL els with | some l=>some (l.length≤4294967296,bv (l.contains n)) | none=>none) | _=>none
def dHas:DFn:={ g:=gHas }
attribute [go_sem] gIsH dIsH gHas dHas
theorem iIsH_ok:Fine Tryz.prog 66 dIsH.con:=by
 refine fine_det (T:=TT) Tryz.func66 rfl Tryz.ntmps66 (by rw [Tryz.results66]) rfl rfl tt (gs_nil) (ds_nil) ?_
 intro args c r h hc
 simp only [dIsH,gIsH] at h
 split at h
 rotate_left
 ·cases h
 obtain ⟨rfl,rfl⟩:=Prod.mk.inj (Option.some.inj h)
 refine ⟨by simp,fun k E hE Q hQ=>?_⟩
 refine Aw_st hE [0] [] fun K hK=>?_
 simp only [go_sem,seval]
 repeat refine sd0 ?_
 refine hK _ ?_;clear hK K
 refine Aw_st hE [2] [] fun K hK=>?_
 simp only [go_sem,seval]
 repeat refine sd0 ?_
 refine ⟨fun h1=>?_,fun h1=>?_⟩
 all_goals
  refine hK _ (Aw_ret (hQ _ ?_))
  simp only [go_sem,seval,isH,h1,Bool.true_and,Bool.false_and]
theorem sIsH_ok:Fine Tryz.prog 46 dIsH.con:=by
 refine fine_det (T:=TT) Tryz.func46 rfl Tryz.ntmps46 (by rw [Tryz.results46]) rfl rfl tt (gs_nil) (ds_cons in_ok ds_nil) ?_
 intro args c r h hc
 simp only [dIsH,gIsH] at h
 split at h
 rotate_left
 ·cases h
 obtain ⟨rfl,rfl⟩:=Prod.mk.inj (Option.some.inj h)
 refine ⟨by simp,fun k E hE Q hQ=>?_⟩
 refine Aw_st hE [0] [] fun K hK=>?_
 simp only [go_sem,seval]
 repeat refine sd0 ?_
 refine hK _ ?_;clear hK K
 refine Aw_st hE [2] [] fun K hK=>?_
 simp only [go_sem,seval]
 repeat refine sd0 ?_
 refine hK _ (Aw_ret (hQ _ ?_))
 simp only [go_sem,seval,isH]
theorem contains_take (l:List Int) (i:Nat) (h:i < l.length) (n:Int):(l.take (i + 1)).contains n=((l.take i).contains n || decide (l.getD i 0=n)):=by
 rw [Bool.eq_iff_iff]
 simp only [List.take_succ_eq_append_getElem h,List.getD_eq_getElem?_getD,List.getElem?_eq_getElem h,Option.getD_some,List.contains_eq_mem,List.mem_append,List.mem_singleton,Bool.or_eq_true,dte]
 constructor
 ·rintro (h1 | h1)
  ·exact .inl h1
  ·exact .inr h1.symm
 ·rintro (h1 | h1)
  ·exact .inl h1
  ·exact .inr h1.symm
theorem getD_mem (l:List Int) (i:Nat) (h:i < l.length):l.getD i 0 ∈ l:=by
 rw [List.getD_eq_getElem?_getD,List.getElem?_eq_getElem h]
 exact List.getElem_mem h
theorem has3_ok:Fine Tryz.prog 49 dHas.con:=by
 refine fine_det (T:=TT) Tryz.func49 rfl Tryz.ntmps49 (by rw [Tryz.results49]) rfl rfl tt (gs_nil) (ds_nil) ?_
 intro args c r h hc
 simp only [dHas,gHas] at h
 split at h
 rotate_left
 ·cases h
 split at h
 rotate_left
 ·cases h
 rename_i t els n _ l hl
 obtain rfl:=intsL_eq hl
 obtain ⟨rfl,rfl⟩:=Prod.mk.inj (Option.some.inj h)
 refine ⟨by simp,fun k E hE Q hQ=>?_⟩
 refine Aw_st hE [0,1] [] fun K hK=>?_
 simp only [go_sem,seval]
 repeat refine sd0 ?_
 refine hK _ ?_;clear hK K
 refine Aw_sq fun B1 hB1 hR1 hX1=>?_
 refine Aw_st hE [0,1,5] [] fun K hK=>?_
 simp only [go_sem,seval]
 repeat refine sd0 ?_
 refine hK _ ?_;clear hK K
 refine Aw_bk fun B2 hN2 hE2 hR2 hX2=>?_
 refine Aw_lp (fun i:Nat=>⟨18,[(0,.sl t (rows l)),(1,iv n),(5,iv i)],[],k⟩) (fun i:Nat=>i≤l.length∧(l.take i).contains n=false) (fun i:Nat=>l.length - i) (0) (Le.refl _) (⟨by omega,by simp⟩) fun i hi B3 hN3 hR3 hX3=>?_
 refine Aw_sq fun B4 hB4 hR4 hX4=>?_
 refine Aw_st hE [0,1,5,9] [] fun K hK=>?_
 simp only [go_sem,seval]
 repeat refine sd0 ?_
 refine hK _ (Aw_cond rfl (fun hc5=>?_) (fun hc5=>?_))
 ·simp only [dte] at hc5
  have hil:i < l.length:=by omega
  have hs:=contains_take l i hil n
  refine Aw_skip (hB4 _ ?_)
  refine Aw_sq fun B6 hB6 hR6 hX6=>?_
  refine Aw_bk fun B7 hN7 hE7 hR7 hX7=>?_
  refine Aw_st hE [0,1,5,17] [] fun K hK=>?_
  simp only [go_sem,seval,rows_get l i hil]
  repeat refine sd0 ?_
  refine hK _ (Aw_cond rfl (fun hc8=>?_) (fun hc8=>?_))
  ·simp only [dte] at hc8
   refine Aw_st hE [4] [] fun K hK=>?_
   simp only [go_sem,seval]
   repeat refine sd0 ?_
   refine hK _ (Aw_ret (hR7 _ (hR6 _ (hR3 _ (hR2 _ (hR1 _ (hQ _ ?_)))))))
   simp only [go_sem,seval]
   rw [← hc8]
   exact (by simpa using getD_mem l i hil)
  ·refine Aw_skip (hN7 _ (hB6 _ ?_))
   refine Aw_tx hE [0,1,5] [] fun K hK=>?_
   simp only [go_sem,seval]
   repeat refine sd0 ?_
   have hs':(l.take (i + 1)).contains n=false:=by simp_all
   refine hK _ (hN3 (i + 1) _ (⟨by omega,hs'⟩) (by omega) (Le.refl _))
 ·simp only [dfn] at hc5
  refine Aw_exit (hX4 _ _ (hX3 _ _ (hE2 _ (hB1 _ ?_))))
  refine Aw_st hE [4] [] fun K hK=>?_
  simp only [go_sem,seval]
  repeat refine sd0 ?_
  refine hK _ (Aw_ret (hQ _ ?_))
  simp only [go_sem,seval]
  have e:=hi.2
  rw [List.take_of_length_le (by omega)] at e
  exact e.symm
def pathOk (p:List Int):Bool:=p.all isH && decide p.Nodup
theorem pathOk_nil:pathOk []=true:=rfl
theorem pathOk_take {p:List Int} (h:pathOk p=true) (n:Nat):pathOk (p.take n)=true:=by
 simp only [pathOk,Bool.and_eq_true,List.all_eq_true,dte] at *
 exact ⟨fun x hx=>h.1 x (List.mem_of_mem_take hx),h.2.sublist (List.take_sublist n p)⟩
theorem pathOk_step (p:List Int) (i:Nat) (h:i < p.length):pathOk (p.take (i + 1))=(pathOk (p.take i) && (isH (p.getD i 0) && !(p.take i).contains (p.getD i 0))):=by
 rw [Bool.eq_iff_iff]
 simp only [pathOk,List.take_succ_eq_append_getElem h,List.getD_eq_getElem?_getD,List.getElem?_eq_getElem h,Option.getD_some,List.all_append,List.nodup_append,Bool.and_eq_true,dte,List.all_cons,List.all_nil,Bool.not_eq_true',List.contains_eq_mem,dfn,and_true]
 constructor
 ·rintro ⟨⟨h1,h2⟩,h3,_,h4⟩
  exact ⟨⟨h1,h3⟩,h2,fun hm=>h4 _ hm _ (List.mem_singleton.2 rfl) rfl⟩
 ·rintro ⟨⟨h1,h3⟩,h2,h4⟩
  exact ⟨⟨h1,h2⟩,h3,by simp,fun a ha b hb e=>by rw [List.mem_singleton] at hb;subst hb;subst e;exact h4 ha⟩
theorem pathOk_stop {p:List Int} {i:Nat} (h:i < p.length) (hn:(isH (p.getD i 0) && !(p.take i).contains (p.getD i 0))=false):pathOk p=false:=by
 cases he:pathOk p
 ·rfl
 ·have h1:=pathOk_take he (i + 1)
  rw [pathOk_step p i h,hn,Bool.and_false] at h1
  cases h1
def gPathOk:List AV→Option (Prop × AV) | [.sl _ els]=>(match intsL els with | some p=>some (p.length≤4294967296,bv (pathOk p)) | none=>none) | _=>none
def dPathOk:DFn:={ g:=gPathOk }
attribute [go_sem] gPathOk dPathOk
theorem sPathOk_ok:Fine Tryz.prog 28 dPathOk.con:=by
 refine fine_det (T:=TT) Tryz.func28 rfl Tryz.ntmps28 (by rw [Tryz.results28]) rfl rfl tt (gs_nil) (ds_cons sIsH_ok (ds_cons has3_ok ds_nil)) ?_
 intro args c r h hc
 simp only [dPathOk,gPathOk] at h
 split at h
 rotate_left
 ·cases h
 split at h
 rotate_left
 ·cases h
 rename_i t els _ p hl
 obtain rfl:=intsL_eq hl
 obtain ⟨rfl,rfl⟩:=Prod.mk.inj (Option.some.inj h)
 refine ⟨by simp,fun k E hE Q hQ=>?_⟩
 refine Aw_st hE [0] [] fun K hK=>?_
 simp only [go_sem,seval]
 repeat refine sd0 ?_
 refine hK _ ?_;clear hK K
 refine Aw_sq fun B1 hB1 hR1 hX1=>?_
 refine Aw_st hE [0,3] [] fun K hK=>?_
 simp only [go_sem,seval]
 repeat refine sd0 ?_
 refine hK _ ?_;clear hK K
 refine Aw_bk fun B2 hN2 hE2 hR2 hX2=>?_
 refine Aw_lp (fun i:Nat=>⟨26,[(0,.sl t (rows p)),(3,iv i)],[],k⟩) (fun i:Nat=>i≤p.length∧pathOk (p.take i)=true) (fun i:Nat=>p.length - i) (0) (Le.refl _) (⟨by omega,by simp [pathOk_nil]⟩) fun i hi B3 hN3 hR3 hX3=>?_
 refine Aw_sq fun B4 hB4 hR4 hX4=>?_
 refine Aw_st hE [0,3,7] [] fun K hK=>?_
 simp only [go_sem,seval]
 repeat refine sd0 ?_
 refine hK _ (Aw_cond rfl (fun hc5=>?_) (fun hc5=>?_))
 ·simp only [dte] at hc5
  have hil:i < p.length:=by omega
  have hs:=pathOk_step p i hil
  rw [hi.2,Bool.true_and] at hs
  refine Aw_skip (hB4 _ ?_)
  refine Aw_sq fun B6 hB6 hR6 hX6=>?_
  refine Aw_bk fun B7 hN7 hE7 hR7 hX7=>?_
  refine Aw_sd hE [0,3,25] [] 6 (by kernel_rfl) fun K hK=>?_
  simp only [go_sem,seval,rows_get p i hil]
  repeat refine sd0 ?_
  refine ⟨fun hg9=>?_,fun hg9=>?_⟩
  ·simp only [Bool.not_eq_true'] at hg9
   repeat refine sd0 ?_
   refine hK _ (Aw_yes rfl ?_)
   refine Aw_st hE [2] [] fun K hK=>?_
   simp only [go_sem,seval]
   repeat refine sd0 ?_
   refine hK _ (Aw_ret (hR7 _ (hR6 _ (hR3 _ (hR2 _ (hR1 _ (hQ _ ?_)))))))
   simp only [go_sem,seval,pathOk_stop hil (by rw [hg9];rfl)]
  ·simp only [Bool.not_eq_false'] at hg9
   repeat refine sd0 ?_
   refine hK _ (Aw_cond rfl (fun hc10=>?_) (fun hc10=>?_))
   ·have hst:=pathOk_stop hil (by rw [hg9,hc10];rfl)
    refine Aw_st hE [2] [] fun K hK=>?_
    simp only [go_sem,seval]
    repeat refine sd0 ?_
    refine hK _ (Aw_ret (hR7 _ (hR6 _ (hR3 _ (hR2 _ (hR1 _ (hQ _ ?_)))))))
    simp only [go_sem,seval,hst]
   ·rw [hg9,hc10] at hs
    refine Aw_skip (hN7 _ (hB6 _ ?_))
    refine Aw_tx hE [0,3] [] fun K hK=>?_
    simp only [go_sem,seval]
    repeat refine sd0 ?_
    refine hK _ (hN3 (i + 1) _ (⟨by omega,hs⟩) (by omega) (Le.refl _))
 ·simp only [dfn] at hc5
  refine Aw_exit (hX4 _ _ (hX3 _ _ (hE2 _ (hB1 _ ?_))))
  refine Aw_st hE [2] [] fun K hK=>?_
  simp only [go_sem,seval]
  repeat refine sd0 ?_
  refine hK _ (Aw_ret (hQ _ ?_))
  simp only [go_sem,seval]
  have e:=hi.2
  rw [List.take_of_length_le (by omega)] at e
  exact e.symm
end Go.Proofs.W
end
section
namespace Go.Proofs.W
open Go Go.Eng Go.RowKit Go.Extern.Stop Go.Stop Go.Extern
set_option maxRecDepth 100000
abbrev errS (s:ByteArray):AV:=.dv (.ifc 115 (.ptr [.v (.string s)]))
def gNew:List AV→Option (Prop × AV) | [.v (.string s)]=>some (True,errS s) | _=>none
def dNew:DFn:={ g:=gNew }
attribute [go_sem] gNew dNew
theorem new_ok:Fine Tryz.prog 69 dNew.con:=by
 refine fine_det (T:=TT) Tryz.func69 rfl Tryz.ntmps69 (by rw [Tryz.results69]) rfl rfl tt (gs_nil) (ds_nil) ?_
 intro args c r h hc
 simp only [dNew,gNew] at h
 split at h
 rotate_left
 ·cases h
 obtain ⟨rfl,rfl⟩:=Prod.mk.inj (Option.some.inj h)
 refine ⟨by simp,fun k E hE Q hQ=>?_⟩
 refine Aw_st hE [0] [] fun K hK=>?_
 simp only [go_sem,seval]
 refine hK _ ?_;clear hK K
 refine Aw_st hE [2] [] fun K hK=>?_
 simp only [go_sem,seval]
 refine hK _ (Aw_ret (hQ _ ?_))
 simp only [go_sem,seval]
def gJoin:List AV→Option (Prop × AV) | [.sl _ [[.v (.iface t v)],[.ifc t' x]]]=>some (True,.dv (.ifc 112 (.ptr [.sl [[.v (.iface t v)],[.ifc t' x]]]))) | _=>none
def dJoin:DFn:={ g:=gJoin }
attribute [go_sem] gJoin dJoin
theorem join_ok:Fine Tryz.prog 68 dJoin.con:=by
 refine fine_det (T:=TT) Tryz.func68 rfl Tryz.ntmps68 (by rw [Tryz.results68]) rfl rfl tt (gs_nil) (ds_nil) ?_
 intro args c r h hc
 simp only [dJoin,gJoin] at h
 split at h
 rotate_left
 ·cases h
 obtain ⟨rfl,rfl⟩:=Prod.mk.inj (Option.some.inj h)
 refine ⟨by simp,fun k E hE Q hQ=>?_⟩
 refine Aw_st hE [0] [] fun K hK=>?_
 simp only [go_sem,seval]
 repeat refine sd0 ?_
 refine hK _ ?_;clear hK K
 refine Aw_st hE [0,3] [] fun K hK=>?_
 simp only [go_sem,seval]
 repeat refine sd0 ?_
 refine hK _ ?_;clear hK K
 refine Aw_sq fun B1 hB1 hR1 hX1=>?_
 refine Aw_st hE [0,3,9,10,11] [] fun K hK=>?_
 simp only [go_sem,seval]
 repeat refine sd0 ?_
 refine hK _ ?_;clear hK K
 refine Aw_bk fun B2 hN2 hE2 hR2 hX2=>?_
 refine Aw_unr 3 ?_
 refine Aw_rd fun B3 hN3 hR3 hX3=>?_
 refine Aw_st hE [0,3,9,10,11,12] [] fun K hK=>?_
 simp only [go_sem,seval]
 repeat refine sd0 ?_
 refine hK _ ?_;clear hK K
 refine Aw_sq fun B4 hB4 hR4 hX4=>?_
 refine Aw_yes rfl ?_
 refine Aw_skip (hB4 _ ?_)
 refine Aw_sq fun B6 hB6 hR6 hX6=>?_
 refine Aw_bk fun B7 hN7 hE7 hR7 hX7=>?_
 refine Aw_st hE [0,3,5,9,10,11] [] fun K hK=>?_
 simp only [go_sem,seval]
 repeat refine sd0 ?_
 refine hK _ ?_;clear hK K
 refine Aw_st hE [0,3,9,10,11,16] [] fun K hK=>?_
 simp only [go_sem,seval]
 repeat refine sd0 ?_
 refine hK _ (Aw_yes rfl ?_)
 refine Aw_tx hE [0,3,9,10,11] [] fun K hK=>?_
 simp only [go_sem,seval]
 repeat refine sd0 ?_
 refine hK _ (hN7 _ (hB6 _ ?_))
 refine Aw_tx hE [0,3,9,10,11] [] fun K hK=>?_
 simp only [go_sem,seval]
 repeat refine sd0 ?_
 refine hK _ (hN3 _ ?_)
 refine Aw_rd fun B9 hN9 hR9 hX9=>?_
 refine Aw_st hE [0,3,9,10,11,12] [] fun K hK=>?_
 simp only [go_sem,seval]
 repeat refine sd0 ?_
 refine hK _ ?_;clear hK K
 refine Aw_sq fun B10 hB10 hR10 hX10=>?_
 refine Aw_yes rfl ?_
 refine Aw_skip (hB10 _ ?_)
 refine Aw_sq fun B12 hB12 hR12 hX12=>?_
 refine Aw_bk fun B13 hN13 hE13 hR13 hX13=>?_
 refine Aw_st hE [0,3,5,9,10,11] [] fun K hK=>?_
 simp only [go_sem,seval]
 repeat refine sd0 ?_
 refine hK _ ?_;clear hK K
 refine Aw_st hE [0,3,9,10,11,16] [] fun K hK=>?_
 simp only [go_sem,seval]
 repeat refine sd0 ?_
 refine hK _ (Aw_yes rfl ?_)
 refine Aw_tx hE [0,3,9,10,11] [] fun K hK=>?_
 simp only [go_sem,seval]
 repeat refine sd0 ?_
 refine hK _ (hN13 _ (hB12 _ ?_))
 refine Aw_tx hE [0,3,9,10,11] [] fun K hK=>?_
 simp only [go_sem,seval]
 repeat refine sd0 ?_
 refine hK _ (hN9 _ ?_)
 refine Aw_rd fun B15 hN15 hR15 hX15=>?_
 refine Aw_st hE [0,3,9,10,11,12] [] fun K hK=>?_
 simp only [go_sem,seval]
 repeat refine sd0 ?_
 refine hK _ ?_;clear hK K
 refine Aw_sq fun B16 hB16 hR16 hX16=>?_
 refine Aw_no rfl ?_
 refine Aw_exit (hX16 _ _ (hX15 _ _ (hE2 _ (hB1 _ ?_))))
 refine Aw_sq fun B18 hB18 hR18 hX18=>?_
 refine Aw_st hE [0,3,21] [] fun K hK=>?_
 simp only [go_sem,seval]
 repeat refine sd0 ?_
 refine hK _ (Aw_no rfl ?_)
 refine Aw_skip (hB18 _ ?_)
 refine Aw_st hE [0,6] [25] fun K hK=>?_
 simp only [go_sem,seval]
 repeat refine sd0 ?_
 refine hK _ ?_;clear hK K
 refine Aw_sq fun B20 hB20 hR20 hX20=>?_
 refine Aw_st hE [6,26,27,28] [25] fun K hK=>?_
 simp only [go_sem,seval]
 repeat refine sd0 ?_
 refine hK _ ?_;clear hK K
 refine Aw_bk fun B21 hN21 hE21 hR21 hX21=>?_
 refine Aw_unr 3 ?_
 refine Aw_rd fun B22 hN22 hR22 hX22=>?_
 refine Aw_st hE [6,26,27,28,29] [25] fun K hK=>?_
 simp only [go_sem,seval]
 repeat refine sd0 ?_
 refine hK _ ?_;clear hK K
 refine Aw_sq fun B23 hB23 hR23 hX23=>?_
 refine Aw_yes rfl ?_
 refine Aw_skip (hB23 _ ?_)
 refine Aw_sq fun B25 hB25 hR25 hX25=>?_
 refine Aw_bk fun B26 hN26 hE26 hR26 hX26=>?_
 refine Aw_st hE [6,8,26,27,28] [25] fun K hK=>?_
 simp only [go_sem,seval]
 repeat refine sd0 ?_
 refine hK _ ?_;clear hK K
 refine Aw_st hE [6,8,26,27,28,33] [25] fun K hK=>?_
 simp only [go_sem,seval]
 repeat refine sd0 ?_
 refine hK _ (Aw_yes rfl ?_)
 refine Aw_tx hE [6,26,27,28] [25] fun K hK=>?_
 simp only [go_sem,seval]
 repeat refine sd0 ?_
 refine hK _ (hN26 _ (hB25 _ ?_))
 refine Aw_tx hE [6,26,27,28] [25] fun K hK=>?_
 simp only [go_sem,seval]
 repeat refine sd0 ?_
 refine hK _ (hN22 _ ?_)
 refine Aw_rd fun B28 hN28 hR28 hX28=>?_
 refine Aw_st hE [6,26,27,28,29] [25] fun K hK=>?_
 simp only [go_sem,seval]
 repeat refine sd0 ?_
 refine hK _ ?_;clear hK K
 refine Aw_sq fun B29 hB29 hR29 hX29=>?_
 refine Aw_yes rfl ?_
 refine Aw_skip (hB29 _ ?_)
 refine Aw_sq fun B31 hB31 hR31 hX31=>?_
 refine Aw_bk fun B32 hN32 hE32 hR32 hX32=>?_
 refine Aw_st hE [6,8,26,27,28] [25] fun K hK=>?_
 simp only [go_sem,seval]
 repeat refine sd0 ?_
 refine hK _ ?_;clear hK K
 refine Aw_st hE [6,8,26,27,28,33] [25] fun K hK=>?_
 simp only [go_sem,seval]
 repeat refine sd0 ?_
 refine hK _ (Aw_yes rfl ?_)
 refine Aw_tx hE [6,26,27,28] [25] fun K hK=>?_
 simp only [go_sem,seval]
 repeat refine sd0 ?_
 refine hK _ (hN32 _ (hB31 _ ?_))
 refine Aw_tx hE [6,26,27,28] [25] fun K hK=>?_
 simp only [go_sem,seval]
 repeat refine sd0 ?_
 refine hK _ (hN28 _ ?_)
 refine Aw_rd fun B34 hN34 hR34 hX34=>?_
 refine Aw_st hE [6,26,27,28,29] [25] fun K hK=>?_
 simp only [go_sem,seval]
 repeat refine sd0 ?_
 refine hK _ ?_;clear hK K
 refine Aw_sq fun B35 hB35 hR35 hX35=>?_
 refine Aw_no rfl ?_
 refine Aw_exit (hX35 _ _ (hX34 _ _ (hE21 _ (hB20 _ ?_))))
 refine Aw_st hE [2] [] fun K hK=>?_
 simp only [go_sem,seval]
 repeat refine sd0 ?_
 refine hK _ (Aw_ret (hQ _ ?_))
 simp only [go_sem,seval]
theorem isTypeOf (v:Value) (w:World):(Extern.ReflectliteType.typeOf #[.iface 115 v]).run Tryz.prog w = .ok (.iface 119 (.agg #[.pointer (some ⟨4,115,none⟩)])) w:=by kernel_rfl
theorem isComparable (w:World):((Extern.ReflectliteType.method fun t=>do Go.Extern.Rtype.noPackHeld "Comparable" t;(fun a=>Value.bool a.comparable) <$> typeInfo t) #[.agg #[.pointer (some ⟨4,115,none⟩)]]).run Tryz.prog w = .ok (.bool true) w:=by kernel_rfl
theorem isMethodComparable (v:Value) (w:World):(Go.method 276 119 v "Comparable").run Tryz.prog w = .ok (110,v) w:=by kernel_rfl
theorem isComp:(Tryz.prog.info? 115).map (·.comparable)=some true:=by kernel_rfl
theorem isSize:(Tryz.prog.info? 117).map (·.size)=some 1:=by kernel_rfl
theorem noIsJ (v:Value) (xT:TypeId) (w:World):(Instr.typeAssert (.iface 112 v) xT 121 true).run Tryz.prog w = .ok (.tuple #[.nilIface,.bool false]) w:=run_typeAssert_lacksB Tryz.underlying121 (by kernel_rfl) (by kernel_rfl) v xT w
theorem noUnwrapJ (v:Value) (xT:TypeId) (w:World):(Instr.typeAssert (.iface 112 v) xT 124 true).run Tryz.prog w = .ok (.tuple #[.nilIface,.bool false]) w:=run_typeAssert_lacksB Tryz.underlying124 (by kernel_rfl) (by kernel_rfl) v xT w
theorem hasUnwrapJ (v:Value) (xT:TypeId) (w:World):(Instr.typeAssert (.iface 112 v) xT 126 true).run Tryz.prog w = .ok (.tuple #[.iface 112 v,.bool true]) w:=run_typeAssert_hasB Tryz.underlying126 (by kernel_rfl) v xT w
theorem methodUnwrapJ (v:Value) (w:World):(Go.method 276 112 v "Unwrap").run Tryz.prog w = .ok (105,v) w:=by kernel_rfl
theorem nilJ (a:Addr) (w:World):(nilAhead 276 112 (.pointer (some a)) "Unwrap").run Tryz.prog w = .ok (some false) w:=by kernel_rfl
theorem unwrapJ (a:Addr) (v:Value) (w:World) (h1:w.cell? a=some v) (ha:v.oneCell'=true):Calls Tryz.prog 105 #[.pointer (some a)] w fun e w'=>e = .returned v∧w'=w:=by
 go_enter Tryz.func105,Tryz.ntmps105
 go_wp2
 go_ret
 exact ⟨rfl,rfl⟩
theorem is2_same (a:Addr) (w:World) :
  Calls Tryz.prog 72 #[.iface 115 (.pointer (some a)),.iface 115 (.pointer (some a)),.bool true] w fun e w'=>e = .returned (.bool true)∧w'=w:=by
 obtain ⟨i,hi,hcmp⟩:=Option.map_eq_some_iff.1 isComp
 obtain ⟨j,hj,hjs⟩:=Option.map_eq_some_iff.1 isSize
 have heq:=run_eql_iface_ptr_same (P:=Tryz.prog) w a Tryz.underlying92 Tryz.underlying115 hi hcmp hj
 go_enter Tryz.func72,Tryz.ntmps72
 go_wp2
 refine wp_loop_rounds 1 ?_
 rw [rounds_succ]
 go_wp2
 go_ret
 exact ⟨rfl,rfl⟩
theorem is_join (pb po sb so n cap:Nat) (a:Addr) (w:World) (h0:0 < n) (h1:w.cell? ⟨pb,po,none⟩=some (.slice (some ⟨sb,so,none⟩) n cap)) (h2:w.cell? ⟨sb,so,none⟩=some (.iface 115 (.pointer (some a)))) :
  Calls Tryz.prog 72 #[.iface 112 (.pointer (some ⟨pb,po,none⟩)),.iface 115 (.pointer (some a)),.bool true] w fun e w'=>e = .returned (.bool true)∧w'=w:=by
 have nI:=noIsJ
 have nU:=noUnwrapJ
 have hU:=hasUnwrapJ
 have mU:=methodUnwrapJ
 have nJ:=nilJ
 have hty:=run_eql_iface_types (P:=Tryz.prog) 112 115 (.pointer (some ⟨pb,po,none⟩)) (.pointer (some a)) Tryz.underlying92 (by decide) w
 go_enter Tryz.func72,Tryz.ntmps72
 go_wp2
 refine wp_loop_rounds 1 ?_
 rw [rounds_succ]
 go_wp2_with (first | (go_at_call 105;refine (unwrapJ _ _ _ h1 rfl).mono ?_;rintro e w' ⟨rfl,rfl⟩) | (go_at_call 72;refine (is2_same _ _).mono ?_;rintro e w' ⟨rfl,rfl⟩))
 refine wp_loop_rounds 1 ?_
 rw [rounds_succ]
 go_wp2_with (go_at_call 72;refine (is2_same _ _).mono ?_;rintro e w' ⟨rfl,rfl⟩)
 go_ret
 exact ⟨rfl,rfl⟩
theorem Is_nil (b:Addr) (w:World) :
  Calls Tryz.prog 56 #[.nilIface,.iface 115 (.pointer (some b))] w fun e w'=>e = .returned (.bool false)∧w'=w:=by
 have hn:=run_eql_iface_nil_left (P:=Tryz.prog) w 115 (.pointer (some b)) Tryz.underlying92
 go_enter Tryz.func56,Tryz.ntmps56
 go_wp2
 go_ret
 exact ⟨rfl,rfl⟩
theorem Is_join (pb po sb so n cap:Nat) (a:Addr) (w:World) (h0:0 < n) (h1:w.cell? ⟨pb,po,none⟩=some (.slice (some ⟨sb,so,none⟩) n cap)) (h2:w.cell? ⟨sb,so,none⟩=some (.iface 115 (.pointer (some a)))) :
  Calls Tryz.prog 56 #[.iface 112 (.pointer (some ⟨pb,po,none⟩)),.iface 115 (.pointer (some a))] w fun e w'=>e = .returned (.bool true)∧w'=w:=by
 have h8:=@run_callFunc_extern Tryz.prog 71 _ Extern.ReflectliteType.typeOf Tryz.func71 (by kernel_rfl) (by kernel_rfl) (by kernel_rfl) (by kernel_rfl)
 have h32:=@run_callFunc_extern Tryz.prog 110 _ (Extern.ReflectliteType.method fun t=>do Go.Extern.Rtype.noPackHeld "Comparable" t;pure (.bool (← typeInfo t).comparable)) Tryz.func110 (by kernel_rfl) (by kernel_rfl) (by kernel_rfl) (by kernel_rfl)
 have tT:=isTypeOf
 have cT:=isComparable
 have mR:=isMethodComparable
 go_enter Tryz.func56,Tryz.ntmps56
 go_wp2_with (go_at_call 72;refine (is_join _ _ _ _ _ _ _ _ h0 h1 h2).mono ?_;rintro e w' ⟨rfl,rfl⟩)
 go_ret
 exact ⟨rfl,rfl⟩
def gIs:List AV→Option (Prop × AV)
 | [.v .nilIface,.v (.iface t (.pointer (some _)))]=>some (t=115,bv false)
 | [.dv (.ifc tj (.ptr [.sl ([.v x]::_)])),.v (.iface t (.pointer (some a)))]=>some (tj=112∧t=115∧x = .iface t (.pointer (some a)),bv true)
 | _=>none
def dIs:DFn:={ g:=gIs }
attribute [go_sem] gIs dIs
theorem is_ok:Fine Tryz.prog 56 dIs.con:=by
 refine raw_fine ⟨_,Tryz.func56,rfl,rfl⟩ rfl ?_
 intro c args vs hsz hrd hsx hpre _
 obtain ⟨cc,r,hg,hc⟩:=hpre
 simp only [dIs,gIs] at hg
 split at hg
 ·rename_i t a
  obtain ⟨rfl,rfl⟩:=Prod.mk.inj (Option.some.inj hg)
  subst hc
  have h0:=hrd 0 _ rfl
  have h1:=hrd 1 _ rfl
  have e0:vs = #[.nilIface,.iface 115 (.pointer (some a))]:=by
   obtain ⟨l⟩:=vs
   match l,hsz with
   | [x,y],_=>cases h0;cases h1;rfl
  subst e0
  refine (Is_nil a c.w).mono ?_
  rintro e w' ⟨rfl,rfl⟩
  exact ⟨_,_,fun _ _=>False,rfl,⟨_,rfl⟩,grownBy_refl _ _,fun _ _ h=>h.elim,.v _ rfl⟩
 ·rename_i tj x rest t a
  obtain ⟨rfl,rfl⟩:=Prod.mk.inj (Option.some.inj hg)
  obtain ⟨rfl,rfl,rfl⟩:=hc
  have h0:=hrd 0 _ rfl
  have h1:=hrd 1 _ rfl
  obtain ⟨pb,po,sb,so,n,cap,e0,hn,c1,c2⟩:∃ pb po sb so n cap,vs = #[.iface 112 (.pointer (some ⟨pb,po,none⟩)),.iface 115 (.pointer (some a))]∧0 < n∧c.w.cell? ⟨pb,po,none⟩=some (.slice (some ⟨sb,so,none⟩) n cap)∧c.w.cell? ⟨sb,so,none⟩=some (.iface 115 (.pointer (some a))):=by
   obtain ⟨l⟩:=vs
   match l,hsz with
   | [x,y],_ =>
    have h0':Rd c _ x:=h0
    have h1':Rd c _ y:=h1
    cases h1'
    cases h0' with
    | dv _ _ h =>
     cases h with
     | ifc _ _ _ h =>
      cases h with
      | ptr ls b off f hcell hh =>
       have k0:=(hcell 0 (by simp)).2
       have k1:=hh 0 _ rfl
       generalize hf0:f 0=u at k0 k1
       cases k1 with
       | sl els b2 off2 n cap size f2 hn2 hcap hs2 hc2 hh2 =>
        have hsz1:size=1:=by have:=hs2 _ (List.mem_cons_self ..);simpa using this.symm
        subst hsz1
        have k2:=(hc2 0 (by rw [hn2];simp)).2
        have k3:=hh2 0 0 _ _ rfl rfl
        simp only [Nat.zero_mul,Nat.add_zero] at k0 k2 k3
        generalize hf1:f2 0=u2 at k2 k3
        cases k3
        exact ⟨b,off,b2,off2,n,cap,rfl,by rw [hn2];simp,k0,k2⟩
  subst e0
  refine (Is_join pb po sb so n cap a c.w hn c1 c2).mono ?_
  rintro e w' ⟨rfl,rfl⟩
  exact ⟨_,_,fun _ _=>False,rfl,⟨_,rfl⟩,grownBy_refl _ _,fun _ _ h=>h.elim,.v _ rfl⟩
 ·cases hg
end Go.Proofs.W
end
section
namespace Go.Proofs.W
open Go Go.Eng Go.RowKit
set_option maxRecDepth 10000
def bt (l:List Int) (h:Int):Int:=if l.contains h then 1 else 0
def setv (l:List Int):Int:=2 * bt l 1 + 4 * bt l 2 + 8 * bt l 3 + 16 * bt l 4 + 32 * bt l 5
def bitOf (s h:Int):Bool:=decide (s / 2 ^ h.toNat % 2=1)
theorem bt_01 (l:List Int) (h:Int):bt l h=0∨bt l h=1:=by unfold bt;split<;>simp
theorem setv_bd (l:List Int):0≤setv l∧setv l < 64:=by
 unfold setv
 have h1:=bt_01 l 1;have h2:=bt_01 l 2;have h3:=bt_01 l 3;have h4:=bt_01 l 4;have h5:=bt_01 l 5
 omega
theorem isH_cases {h:Int} (hh:isH h=true):h=1∨h=2∨h=3∨h=4∨h=5:=by
 simp only [isH,Bool.and_eq_true,dte] at hh;omega
theorem bitOf_setv (l:List Int) (h:Int) (hh:isH h=true):bitOf (setv l) h=l.contains h:=by
 have e:∀ h:Int,l.contains h=decide (bt l h=1):=fun h=>by unfold bt;split<;>simp_all
 rw [e]
 unfold bitOf setv
 have h1:=bt_01 l 1;have h2:=bt_01 l 2;have h3:=bt_01 l 3;have h4:=bt_01 l 4;have h5:=bt_01 l 5
 rcases isH_cases hh with rfl | rfl | rfl | rfl | rfl<;>(simp only [Int.reduceToNat,Int.reducePow];congr 1;apply propext;omega)
theorem contains_app (l:List Int) (h x:Int):(l++[h]).contains x=(l.contains x || (x == h)):=by
 simp [List.contains_eq_mem,Bool.decide_or,Bool.beq_eq_decide_eq]
theorem setv_app (l:List Int) (h:Int) (hh:isH h=true) (hn:l.contains h=false):setv (l++[h])=setv l + 2 ^ h.toNat:=by
 have e:∀ x,bt (l++[h]) x=if x=h then 1 else bt l x:=fun x=>by
  unfold bt
  rw [contains_app]
  by_cases hx:x=h
  ·simp [hx]
  ·simp [hx]
 have hb:bt l h=0:=by unfold bt;rw [hn];rfl
 simp only [setv,e]
 rcases isH_cases hh with rfl | rfl | rfl | rfl | rfl<;>simp [hb]<;>omega
theorem bit_and:∀ (s:Fin 64) (h:Fin 6),IntKind.u64.wrap ((BitVec.ofInt 64 ((s.val:Int).fdiv (2 ^ (min h.val 64))) &&& BitVec.ofInt 64 1).toNat)=(s.val:Int) / 2 ^ h.val % 2:=by decide +kernel
theorem bit_or:∀ (s:Fin 64) (h:Fin 6),(s.val:Int) / 2 ^ h.val % 2=0→IntKind.u64.wrap ((BitVec.ofInt 64 (s.val:Int) ||| BitVec.ofInt 64 (IntKind.u64.wrap (1 * 2 ^ (min h.val 64)))).toNat)=(s.val:Int) + 2 ^ h.val:=by decide +kernel
theorem has_bit (s h:Int) (h0:0≤s) (h1:s < 64) (hh:isH h=true):decide (IntKind.u64.wrap ((BitVec.ofInt 64 (s.fdiv (2 ^ (min h.toNat 64))) &&& BitVec.ofInt 64 1).toNat)=1)=bitOf s h:=by
 obtain ⟨u,rfl⟩:=Int.eq_ofNat_of_zero_le h0
 have hc:=isH_cases hh
 obtain ⟨v,rfl⟩:=Int.eq_ofNat_of_zero_le (a:=h) (by omega)
 have:=bit_and ⟨u,by omega⟩ ⟨v,by omega⟩
 simp only at this
 rw [Int.toNat_natCast,this,bitOf,Int.toNat_natCast]
theorem or_bit (s h:Int) (h0:0≤s) (h1:s < 64) (hh:isH h=true) (hb:bitOf s h=false):IntKind.u64.wrap ((BitVec.ofInt 64 s ||| BitVec.ofInt 64 (IntKind.u64.wrap (1 * 2 ^ (min h.toNat 64)))).toNat)=s + 2 ^ h.toNat:=by
 obtain ⟨u,rfl⟩:=Int.eq_ofNat_of_zero_le h0
 have hc:=isH_cases hh
 obtain ⟨v,rfl⟩:=Int.eq_ofNat_of_zero_le (a:=h) (by omega)
 unfold bitOf at hb
 rw [Int.toNat_natCast] at hb ⊢
 simp only [dfn] at hb
 exact bit_or ⟨u,by omega⟩ ⟨v,by omega⟩ (by simp only;omega)
theorem has_bit' (s h:Int) (h0:0≤s) (h1:s < 64) (hh:isH h=true):decide (iAnd .u64 (s.fdiv (2 ^ (min h.toNat 64))) 1=1)=bitOf s h:=has_bit s h h0 h1 hh
theorem or_bit' (s h:Int) (h0:0≤s) (h1:s < 64) (hh:isH h=true) (hb:bitOf s h=false):iOr .u64 s (IntKind.u64.wrap (1 * 2 ^ (min h.toNat 64)))=s + 2 ^ h.toNat:=or_bit s h h0 h1 hh hb
def gTHas:List AV→Option (Prop × AV) | [.agg [.v (.int .u64 s),.sl _ _],.v (.int .i64 h)]=>some (0≤s∧s < 64,bv (isH h && bitOf s h)) | _=>none
def dTHas:DFn:={ g:=gTHas }
attribute [go_sem] gTHas dTHas
theorem thas_ok:Fine Tryz.prog 67 dTHas.con:=by
 refine fine_det (T:=TT) Tryz.func67 rfl Tryz.ntmps67 (by rw [Tryz.results67]) rfl rfl tt (gs_nil) (ds_cons iIsH_ok ds_nil) ?_
 intro args c r h hc
 simp only [dTHas,gTHas] at h
 split at h
 rotate_left
 ·cases h
 obtain ⟨rfl,rfl⟩:=Prod.mk.inj (Option.some.inj h)
 refine ⟨by simp,fun k E hE Q hQ=>?_⟩
 rename_i s _ _ n
 obtain ⟨hc1,hc2⟩:=hc
 refine Aw_st hE [1,2] [2] fun K hK=>?_
 simp only [go_sem,seval]
 repeat refine sd0 ?_
 refine hK _ ?_;clear hK K
 refine Aw_st hE [4] [] fun K hK=>?_
 simp only [go_sem,seval]
 repeat refine sd0 ?_
 refine ⟨fun h1=>?_,fun h1=>?_⟩
 ·have hle:1≤n:=by have:=isH_cases h1;omega
  repeat refine sd0 ?_
  refine hK _ (Aw_ret (hQ _ ?_))
  simp only [go_sem,seval,has_bit' s n hc1 hc2 h1,h1,Bool.true_and]
 refine hK _ (Aw_ret (hQ _ ?_))
 simp only [go_sem,seval,h1,Bool.false_and]
structure WP (pb:Addr) (w:World):Prop where
 tab:WTab w
 err:w.cell? ⟨0,0,none⟩=some (.iface 115 (.pointer (some pb)))
theorem wp_inh (pb:Addr):Inh (WP pb) (WP pb) false:=fun _ _ _ h hg=>⟨wtab_inh _ _ 0 h.tab hg,cell_grown hg h.err⟩
theorem wpt_inh (pb:Addr):Inh (WP pb) WTab false:=fun _ _ _ h hg=>wtab_inh _ _ 0 h.tab hg
abbrev errV (pb:Addr):Value:=.iface 115 (.pointer (some pb))
theorem wp_gl (pb:Addr):GlOk (WP pb) false [(0,errV pb)]:=fun p hp=>by
 obtain rfl:=List.mem_singleton.1 hp
 exact ⟨rfl,fun w w' g h hg=>cell_grown hg h.err⟩
abbrev pathErr (pb:Addr) (s:ByteArray):AV:=.dv (.ifc 112 (.ptr [.sl [[.v (errV pb)],[.ifc 115 (.ptr [.v (.string s)])]]]))
def cTrail (pb:Addr):Con:={ pre:=fun args=>∃ p,args=[isl p]∧p.length≤4294967296,post:=fun args r=>∀ p,args=[isl p]→(pathOk p=true∧r = .tup [.agg [.v (.int .u64 (setv p)),isl p],.v .nilIface])∨(pathOk p=false∧∃ s,r = .tup [.agg [.v (.int .u64 0),.sl none []],pathErr pb s]),inv:=WP pb }
theorem cTrail_own (pb:Addr):(cTrail pb).own=false:=rfl
theorem cTrail_draws (pb:Addr):(cTrail pb).draws=false:=rfl
theorem cTrail_cost (pb:Addr):(cTrail pb).cost=0:=rfl
theorem cTrail_pre (pb:Addr) (p:List Int):(cTrail pb).pre [isl p]=(p.length≤4294967296):=by
 apply propext
 constructor
 ·rintro ⟨q,e,h⟩
  have:=List.cons.inj e
  have e2:=AV.sl.inj this.1
  have e3:intsL (rows p)=intsL (rows q):=by rw [e2.2]
  rw [intsL_rows,intsL_rows] at e3
  obtain rfl:=Option.some.inj e3
  exact h
 ·exact fun h=>⟨p,rfl,h⟩
theorem cTrail_post (pb:Addr) (p:List Int) (K:AV→Prop):(∀ r,(cTrail pb).post [isl p] r→K r)=((pathOk p=true→K (.tup [.agg [.v (.int .u64 (setv p)),isl p],.v .nilIface]))∧(pathOk p=false→∀ s,K (.tup [.agg [.v (.int .u64 0),.sl none []],pathErr pb s]))):=by
 apply propext
 constructor
 ·intro h
  have inj:∀ q,[isl p]=[isl q]→p=q:=fun q e=>by
   have e2:=AV.sl.inj (List.cons.inj e).1
   have e3:intsL (rows p)=intsL (rows q):=by rw [e2.2]
   rw [intsL_rows,intsL_rows] at e3
   exact Option.some.inj e3
  refine ⟨fun hp=>h _ fun q e=>?_,fun hp s=>h _ fun q e=>?_⟩
  ·obtain rfl:=inj q e;exact .inl ⟨hp,rfl⟩
  ·obtain rfl:=inj q e;exact .inr ⟨hp,s,rfl⟩
 ·rintro ⟨h1,h2⟩ r hr
  rcases hr p rfl with ⟨h,rfl⟩ | ⟨h,s,rfl⟩
  ·exact h1 h
  ·exact h2 h s
attribute [go_sem] cTrail_own cTrail_draws cTrail_cost cTrail_pre cTrail_post
theorem trail_ok (pb:Addr):Fine Tryz.prog 55 (cTrail pb):=by
 refine fine_ofG [(0,errV pb)] (wp_gl pb) [] ms_nil (T:=TT) Tryz.func55 rfl Tryz.ntmps55 (by rw [Tryz.results55]) rfl rfl tt gs_nil (ds_cons iIsH_ok (ds_cons thas_ok (ds_cons itoa_ok (ds_cons new_ok (ds_cons join_ok ds_nil)) (wpt_inh pb)))) ?_
 rintro args ⟨p,rfl,hp⟩
 refine ⟨by simp,fun k _ E hE Q hQ=>?_⟩
 refine Aw_st hE [0,2] [2] fun K hK=>?_
 simp only [go_sem,seval]
 repeat refine sd0 ?_
 refine hK _ ?_;clear hK K
 refine Aw_st hE [0,2,4] [2,4] fun K hK=>?_
 simp only [go_sem,seval]
 repeat refine sd0 ?_
 refine hK _ ?_;clear hK K
 refine Aw_sq fun B1 hB1 hR1 hX1=>?_
 refine Aw_st hE [2,4,9,10,11] [2,4] fun K hK=>?_
 simp only [go_sem,seval]
 repeat refine sd0 ?_
 refine hK _ ?_;clear hK K
 refine Aw_bk fun B2 hN2 hE2 hR2 hX2=>?_
 refine Aw_lp (fun i:Nat=>⟨40,[(2,.loc 2 0),(4,.loc 4 0),(9,isl p),(10,iv p.length),(11,iv i)],[(2,[.v (.int .u64 0),.nl]),(4,[.v (.int .u64 (setv (p.take i))),isl p])],k⟩) (fun i:Nat=>i≤p.length∧pathOk (p.take i)=true) (fun i:Nat=>p.length - i) (0) (Le.refl _) (⟨by omega,by simp [pathOk_nil]⟩) fun i hi B3 hN3 hR3 hX3=>?_
 refine Aw_st hE [2,4,9,10,11,12] [2,4] fun K hK=>?_
 simp only [go_sem,seval]
 repeat refine sd0 ?_
 refine hK _ ?_;clear hK K
 refine Aw_sq fun B4 hB4 hR4 hX4=>?_
 refine Aw_cond rfl (fun hc5=>?_) (fun hc5=>?_)
 ·simp only [dte] at hc5
  have hil:i < p.length:=by omega
  have hs:=pathOk_step p i hil
  rw [hi.2,Bool.true_and] at hs
  have hbd:=setv_bd (p.take i)
  have hdl:=dec_len i (by omega)
  refine Aw_skip (hB4 _ ?_)
  refine Aw_sq fun B6 hB6 hR6 hX6=>?_
  refine Aw_bk fun B7 hN7 hE7 hR7 hX7=>?_
  refine Aw_st hE [2,4,5,6,9,10,11] [2,4] fun K hK=>?_
  simp only [go_sem,seval,rows_get p i hil]
  repeat refine sd0 ?_
  refine hK _ ?_;clear hK K
  refine Aw_sq fun B8 hB8 hR8 hX8=>?_
  refine Aw_st hE [2,4,5,6,9,10,11,23] [2,4] fun K hK=>?_
  simp only [go_sem,seval]
  repeat refine sd0 ?_
  refine ⟨fun hg10=>?_,fun hg10=>?_⟩
  ·simp only [Bool.not_eq_true'] at hg10
   have hst:=pathOk_stop hil (by rw [hg10];rfl)
   repeat refine sd0 ?_
   refine hK _ (Aw_yes rfl ?_)
   refine Aw_sd hE [2,3] [2] 6 (by kernel_rfl) fun K hK=>?_
   simp only [go_sem,seval]
   repeat refine sd0 ?_
   refine hK _ (Aw_ret (hR8 _ (hR7 _ (hR6 _ (hR3 _ (hR2 _ (hR1 _ (hQ _ ?_))))))))
   simp only [go_sem,seval]
   intro q hq
   have e3:intsL (rows p)=intsL (rows q):=by rw [(AV.sl.inj (List.cons.inj hq).1).2]
   rw [intsL_rows,intsL_rows] at e3
   obtain rfl:=Option.some.inj e3
   exact .inr ⟨hst,_,rfl⟩
  ·simp only [Bool.not_eq_false'] at hg10
   repeat refine sd0 ?_
   refine hK _ (Aw_cond rfl (fun hc11=>?_) (fun hc11=>?_))
   ·have hst:=pathOk_stop hil (by
     rw [hg10,Bool.true_and,bitOf_setv _ _ hg10] at hc11
     rw [hg10,hc11];rfl)
    refine Aw_sd hE [2,3] [2] 6 (by kernel_rfl) fun K hK=>?_
    simp only [go_sem,seval]
    repeat refine sd0 ?_
    refine hK _ (Aw_ret (hR8 _ (hR7 _ (hR6 _ (hR3 _ (hR2 _ (hR1 _ (hQ _ ?_))))))))
    simp only [go_sem,seval]
    intro q hq
    have e3:intsL (rows p)=intsL (rows q):=by rw [(AV.sl.inj (List.cons.inj hq).1).2]
    rw [intsL_rows,intsL_rows] at e3
    obtain rfl:=Option.some.inj e3
    exact .inr ⟨hst,_,rfl⟩
   ·have hge:1≤p.getD i 0:=by have:=isH_cases hg10;omega
    rw [hg10,Bool.true_and] at hc11
    have hor:=or_bit' _ _ hbd.1 hbd.2 hg10 hc11
    rw [bitOf_setv _ _ hg10] at hc11
    rw [hg10,hc11] at hs
    have hsv:setv (p.take (i + 1))=setv (p.take i) + 2 ^ (p.getD i 0).toNat:=by
     rw [List.take_succ_eq_append_getElem hil]
     have e:p[i]=p.getD i 0:=by simp [List.getD_eq_getElem?_getD,hil]
     rw [e]
     exact setv_app _ _ hg10 hc11
    refine Aw_skip (hB8 _ ?_)
    refine Aw_td hE [2,4,9,10,11] [2,4] 6 (by kernel_rfl) fun K hK=>?_
    simp only [go_sem,seval]
    repeat refine sd0 ?_
    rw [hor,← hsv]
    refine hK _ (hN7 _ (hB6 _ ?_))
    refine Aw_tx hE [2,4,9,10,11] [2,4] fun K hK=>?_
    simp only [go_sem,seval]
    repeat refine sd0 ?_
    refine hK _ (hN3 (i + 1) _ (⟨by omega,hs⟩) (by omega) (Le.refl _))
 ·simp only [dfn] at hc5
  have e:=hi.2
  rw [List.take_of_length_le (by omega)] at e ⊢
  refine Aw_exit (hX4 _ _ (hX3 _ _ (hE2 _ (hB1 _ ?_))))
  refine Aw_st hE [2,3] [2] fun K hK=>?_
  simp only [go_sem,seval]
  repeat refine sd0 ?_
  refine hK _ (Aw_ret (hQ _ ?_))
  simp only [go_sem,seval]
  intro q hq
  have e3:intsL (rows p)=intsL (rows q):=by rw [(AV.sl.inj (List.cons.inj hq).1).2]
  rw [intsL_rows,intsL_rows] at e3
  obtain rfl:=Option.some.inj e3
  exact .inl ⟨e,rfl⟩
def dPathOkI (pb:Addr):DFn:={ g:=gPathOk,inv:=WP pb }
attribute [go_sem] dPathOkI
theorem iPathOk_ok (pb:Addr):Fine Tryz.prog 34 (dPathOkI pb).con:=by
 refine fine_detG [(0,errV pb)] (wp_gl pb) [] ms_nil (T:=TT) Tryz.func34 rfl Tryz.ntmps34 (by rw [Tryz.results34]) rfl rfl tt (gs_cons (trail_ok pb) gs_nil (wp_inh pb)) (ds_cons is_ok ds_nil) ?_
 intro args c r h hc
 simp only [dPathOkI,gPathOk] at h
 split at h
 rotate_left
 ·cases h
 split at h
 rotate_left
 ·cases h
 rename_i t els _ p hl
 obtain rfl:=intsL_eq hl
 obtain ⟨rfl,rfl⟩:=Prod.mk.inj (Option.some.inj h)
 refine ⟨by simp,fun k E hE Q hQ=>?_⟩
 refine Aw_st hE [0] [] fun K hK=>?_
 simp only [go_sem,seval]
 repeat refine sd0 ?_
 refine hK _ ?_;clear hK K
 refine Aw_st hE [4] [] fun K hK=>?_
 simp only [go_sem,seval]
 repeat refine sd0 ?_
 refine ⟨fun hp=>?_,fun hp s=>?_⟩
 all_goals
  refine hK _ ?_;clear hK K
  refine Aw_st hE [2] [] fun K hK=>?_
  simp only [go_sem,seval]
  repeat refine sd0 ?_
  refine hK _ (Aw_ret (hQ _ ?_))
  simp only [go_sem,seval,hp]

def rowsS (l:List ByteArray):List (List DV):=l.map fun s=>[DV.v (.string s)]
theorem rowsS_len (l:List ByteArray):(rowsS l).length=l.length:=by simp [rowsS]
def cOf:Con:={ pre:=fun args=>∃ l:List ByteArray,args=[.rd,.sl none (rowsS l)]∧0 < l.length∧l.length≤100∧∀ s ∈ l,s.size≤8,post:=fun _ r=>∃ s:ByteArray,s.size≤8∧r = .v (.string s),cost:=1,draws:=true }
theorem cOf_own:cOf.own=false:=rfl
theorem cOf_draws:cOf.draws=true:=rfl
theorem cOf_cost:cOf.cost=1:=rfl
attribute [go_sem] cOf_own cOf_draws cOf_cost
theorem of_post (args:List AV) (K:AV→Prop):(∀ r,cOf.post args r→K r)=(∀ s:ByteArray,s.size≤8→K (.v (.string s))):=by
 apply propext
 exact ⟨fun h s hs=>h _ ⟨s,hs,rfl⟩,fun h r ⟨s,hs,e⟩=>e ▸ h s hs⟩
theorem of_ex (args:List AV):(∃ r,cOf.post args r)=True:=eq_true ⟨_,ByteArray.empty,by decide,rfl⟩
attribute [go_sem] of_post of_ex rowsS_len
def cDRead:Con:={ pre:=codeArg,post:=fun _ r=>∃ s:ByteArray,s.size≤1000∧r = .v (.string s) }
theorem cDRead_own:cDRead.own=false:=rfl
theorem cDRead_draws:cDRead.draws=false:=rfl
theorem cDRead_cost:cDRead.cost=0:=rfl
attribute [go_sem] cDRead_own cDRead_draws cDRead_cost
theorem dread_post (args:List AV) (K:AV→Prop):(∀ r,cDRead.post args r→K r)=(∀ s:ByteArray,s.size≤1000→K (.v (.string s))):=by
 apply propext
 exact ⟨fun h s hs=>h _ ⟨s,hs,rfl⟩,fun h r ⟨s,hs,e⟩=>e ▸ h s hs⟩
attribute [go_sem] dread_post
def cLawP (pb:Addr):Con:={ pre:=codeArg,post:=fun _ r=>r=bv true,inv:=WP pb }
theorem cLawP_own (pb:Addr):(cLawP pb).own=false:=rfl
theorem cLawP_draws (pb:Addr):(cLawP pb).draws=false:=rfl
theorem cLawP_cost (pb:Addr):(cLawP pb).cost=0:=rfl
theorem cLawP_post (pb:Addr) (args:List AV) (r:AV):(cLawP pb).post args r=(r=bv true):=rfl
attribute [go_sem] cLawP_own cLawP_draws cLawP_cost cLawP_post
def codeArg2 (args:List AV):Prop:=∃ bs bs2:List Nat,(∀ b ∈ bs,b < 256)∧(∀ b ∈ bs2,b < 256)∧args=[.sl none (byteRows bs),.sl none (byteRows bs2)]
def cLawP2 (pb:Addr):Con:={ pre:=codeArg2,post:=fun _ r=>r=bv true,inv:=WP pb }
theorem cLawP2_own (pb:Addr):(cLawP2 pb).own=false:=rfl
theorem cLawP2_draws (pb:Addr):(cLawP2 pb).draws=false:=rfl
theorem cLawP2_cost (pb:Addr):(cLawP2 pb).cost=0:=rfl
theorem cLawP2_post (pb:Addr) (args:List AV) (r:AV):(cLawP2 pb).post args r=(r=bv true):=rfl
attribute [go_sem] cLawP2_own cLawP2_draws cLawP2_cost cLawP2_post
structure Rt where
 f:Int
 b:Int
 path:List Int
 like:Int
 marks:List Int
def Rt.row (r:Rt):List DV:=[.v (.int .i64 r.f),.v (.int .i64 r.b),.sl (rows r.path),.v (.int .i64 r.like),.sl (rows r.marks)]
abbrev Rt.av (r:Rt):AV:=.agg [iv r.f,iv r.b,isl r.path,iv r.like,isl r.marks]
def okRt (r:Rt):Prop:=okRng r.f r.b∧r.path.length≤8∧(∀ h ∈ r.path,isH h=true)∧-2≤r.like∧r.like≤11∧r.marks.length≤16
def cPathD:Con:={ pre:=fun args=>args=[.rd],post:=fun _ r=>∃ p:List Int,(p.length≤4∧∀ h ∈ p,isH h=true)∧r=isl p,cost:=9,draws:=true }
theorem cPathD_own:cPathD.own=false:=rfl
theorem cPathD_draws:cPathD.draws=true:=rfl
theorem cPathD_cost:cPathD.cost=9:=rfl
attribute [go_sem] cPathD_own cPathD_draws cPathD_cost
theorem pathD_pre:cPathD.pre [.rd]=True:=by simp [cPathD]
theorem pathD_post (args:List AV) (K:AV→Prop):(∀ r,cPathD.post args r→K r)=(∀ p:List Int,(p.length≤4∧∀ h ∈ p,isH h=true)→K (isl p)):=by
 apply propext
 exact ⟨fun h p hp=>h _ ⟨p,hp,rfl⟩,fun h r ⟨p,hp,e⟩=>e ▸ h p hp⟩
theorem pathD_ex (args:List AV):(∃ r,cPathD.post args r)=True:=eq_true ⟨_,[],by simp,rfl⟩
attribute [go_sem] pathD_pre pathD_post pathD_ex
theorem l91Path_ok:Fine Tryz.prog 25 cPathD:=by
 refine fine_of (T:=TT) Tryz.func25 rfl Tryz.ntmps25 (by rw [Tryz.results25]) rfl rfl tt (gs_cons pick_ok gs_nil) (ds_cons has3_ok ds_nil) ?_
 rintro args rfl
 refine ⟨by simp,fun k hk E hE Q hQ=>?_⟩
 have hk:=hk rfl
 simp only [go_sem] at hk
 refine Aw_st hE [0] [] fun K hK=>?_
 simp only [go_sem,seval]
 repeat refine sd0 ?_
 refine hK _ ?_;clear hK K
 refine Aw_st hE [0,3] [] fun K hK=>?_
 simp only [go_sem,seval]
 repeat refine sd0 ?_
 refine hK _ ?_;clear hK K
 refine Aw_sq fun B1 hB1 hR1 hX1=>?_
 refine Aw_st hE [0,3,4] [] fun K hK=>?_
 simp only [go_sem,seval]
 repeat refine sd0 ?_
 repeat' (first | (refine And.intro (by first | omega | decide) ?_) | intro)
 rename_i n0 hn1 hn2
 refine hK _ ?_;clear hK K
 refine Aw_bk fun B2 hN2 hE2 hR2 hX2=>?_
 refine Aw_lp (fun (i:List Int × Int)=>⟨30,[(0,.rd),(3,.sl (some (6,0,3)) (rows i.1)),(4,iv i.2)],[],k + 9 - 2 * i.2.toNat⟩) (fun (i:List Int × Int)=>i.1.length + i.2≤4∧0≤i.2∧∀ h ∈ i.1,isH h=true) (fun (i:List Int × Int)=>i.2.toNat) (([],n0)) (Le_rn (by first | omega | (dsimp only;omega) | (simp only;omega) | (simp;omega))) (⟨by simp;omega,by simp;omega,by simp⟩) fun i hi B3 hN3 hR3 hX3=>?_
 refine Aw_sq fun B4 hB4 hR4 hX4=>?_
 refine Aw_st hE [0,3,4,10] [] fun K hK=>?_
 simp only [go_sem,seval]
 repeat refine sd0 ?_
 refine hK _ (Aw_cond rfl (fun hc5=>?_) (fun hc5=>?_))
 ·simp only [dte] at hc5
  refine Aw_skip (hB4 _ ?_)
  refine Aw_sq fun B6 hB6 hR6 hX6=>?_
  refine Aw_bk fun B7 hN7 hE7 hR7 hX7=>?_
  refine Aw_st hE [0,3,4,5] [] fun K hK=>?_
  simp only [go_sem,seval]
  repeat refine sd0 ?_
  repeat' (first | (refine And.intro (by first | omega | decide) ?_) | intro)
  rename_i x hx1 hx2
  have hx:isH (1 + x)=true:=by simp [isH];omega
  refine hK _ ?_;clear hK K
  refine Aw_st hE [0,3,4,5,24] [] fun K hK=>?_
  simp only [go_sem,seval]
  repeat refine sd0 ?_
  have happ:((i.1++[1 + x]).length:Int) + (i.2 - 1)≤4∧0≤i.2 - 1∧∀ h ∈ i.1++[1 + x],isH h=true:=by
   refine ⟨by simp;omega,by omega,fun h hm=>?_⟩
   rcases List.mem_append.1 hm with hm | hm
   ·exact hi.2.2 h hm
   ·rw [List.mem_singleton] at hm;rw [hm];exact hx
  refine ⟨fun hg9=>?_,fun hg9=>?_⟩
  ·repeat refine sd0 ?_
   refine hK _ (Aw_yes rfl ?_)
   refine Aw_tx hE [0,3,4] [] fun K hK=>?_
   simp only [go_sem,seval,rows_one]
   repeat refine sd0 ?_
   refine hK _ (hN7 _ (hB6 _ ?_))
   refine Aw_tx hE [0,3,4] [] fun K hK=>?_
   simp only [go_sem,seval]
   repeat refine sd0 ?_
   refine hK _ (hN3 ((i.1++[1 + x],i.2 - 1)) _ (happ) (by first | omega | (dsimp only;omega) | (simp only;omega) | (simp;omega)) ((Le_tk 28 6 rfl).trans (Le_rn (by first | omega | (dsimp only;omega) | (simp only;omega) | (simp;omega)))))
  ·repeat' (first | (refine And.intro (by first | omega | decide) ?_) | intro)
   repeat refine sd0 ?_
   refine hK _ (Aw_cond rfl (fun hc10=>?_) (fun hc10=>?_))
   ·refine Aw_tx hE [0,3,4] [] fun K hK=>?_
    simp only [go_sem,seval,rows_one]
    repeat refine sd0 ?_
    refine hK _ (hN7 _ (hB6 _ ?_))
    refine Aw_tx hE [0,3,4] [] fun K hK=>?_
    simp only [go_sem,seval]
    repeat refine sd0 ?_
    refine hK _ (hN3 ((i.1++[1 + x],i.2 - 1)) _ (happ) (by first | omega | (dsimp only;omega) | (simp only;omega) | (simp;omega)) ((Le_tk 28 6 rfl).trans (Le_rn (by first | omega | (dsimp only;omega) | (simp only;omega) | (simp;omega)))))
   ·simp only [Bool.not_eq_false'] at hg9
    refine Aw_skip (hN7 _ (hB6 _ ?_))
    refine Aw_tx hE [0,3,4] [] fun K hK=>?_
    simp only [go_sem,seval]
    repeat refine sd0 ?_
    refine hK _ (hN3 ((i.1,i.2 - 1)) _ (⟨by first | omega | (dsimp only;omega) | (simp only;omega) | (simp;omega),by first | omega | (dsimp only;omega) | (simp only;omega) | (simp;omega),hi.2.2⟩) (by first | omega | (dsimp only;omega) | (simp only;omega) | (simp;omega)) (Le_rn (by first | omega | (dsimp only;omega) | (simp only;omega) | (simp;omega))))
 ·simp only [dfn] at hc5
  refine Aw_exit (hX4 _ _ (hX3 _ _ (hE2 _ (hB1 _ ?_))))
  refine Aw_st hE [2] [] fun K hK=>?_
  simp only [go_sem,seval]
  repeat refine sd0 ?_
  refine hK _ (Aw_ret (hQ _ ?_))
  simp only [go_sem,seval]
  exact ⟨by omega,_,⟨by omega,hi.2.2⟩,rfl⟩
def cMarksD:Con:={ pre:=fun args=>args=[.rd],post:=fun _ r=>∃ p:List Int,p.length≤9∧r = .sl (some (0,0,3)) (rows p),cost:=9,draws:=true,own:=true }
theorem cMarksD_own:cMarksD.own=true:=rfl
theorem cMarksD_draws:cMarksD.draws=true:=rfl
theorem cMarksD_cost:cMarksD.cost=9:=rfl
attribute [go_sem] cMarksD_own cMarksD_draws cMarksD_cost
theorem marksD_pre:cMarksD.pre [.rd]=True:=by simp [cMarksD]
theorem marksD_post (args:List AV) (K:AV→Prop):(∀ r,cMarksD.post args r→K r)=(∀ p:List Int,p.length≤9→K (.sl (some (0,0,3)) (rows p))):=by
 apply propext
 exact ⟨fun h p hp=>h _ ⟨p,hp,rfl⟩,fun h r ⟨p,hp,e⟩=>e ▸ h p hp⟩
theorem marksD_ex (args:List AV):(∃ r,cMarksD.post args r)=True:=eq_true ⟨_,[],by simp,rfl⟩
attribute [go_sem] marksD_pre marksD_post marksD_ex
theorem l91Marks_ok:Fine Tryz.prog 26 cMarksD:=by
 refine fine_of (T:=TT) Tryz.func26 rfl Tryz.ntmps26 (by rw [Tryz.results26]) rfl rfl tt (gs_cons pick_ok gs_nil) (ds_nil) ?_
 rintro args rfl
 refine ⟨by simp,fun k hk E hE Q hQ=>?_⟩
 have hk:=hk rfl
 simp only [go_sem] at hk
 refine Aw_st hE [0] [] fun K hK=>?_
 simp only [go_sem,seval]
 repeat refine sd0 ?_
 refine hK _ ?_;clear hK K
 refine Aw_st hE [0,3] [] fun K hK=>?_
 simp only [go_sem,seval]
 repeat refine sd0 ?_
 refine hK _ ?_;clear hK K
 refine Aw_sq fun B1 hB1 hR1 hX1=>?_
 refine Aw_st hE [0,3,4] [] fun K hK=>?_
 simp only [go_sem,seval]
 repeat refine sd0 ?_
 refine hK _ ?_;clear hK K
 refine Aw_bk fun B2 hN2 hE2 hR2 hX2=>?_
 refine Aw_lp (fun (i:List Int × Nat)=>⟨18,[(0,.rd),(3,.sl (some (5,0,3)) (rows i.1)),(4,iv i.2)],[],k + (i.2 - 1)⟩) (fun (i:List Int × Nat)=>i.1.length≤i.2 - 1∧1≤i.2∧i.2≤10) (fun (i:List Int × Nat)=>10 - i.2) (([],1)) (Le.refl _) (⟨by simp,by simp,by simp⟩) fun i hi B3 hN3 hR3 hX3=>?_
 refine Aw_sq fun B4 hB4 hR4 hX4=>?_
 refine Aw_st hE [0,3,4,7] [] fun K hK=>?_
 simp only [go_sem,seval]
 repeat refine sd0 ?_
 refine hK _ (Aw_cond rfl (fun hc5=>?_) (fun hc5=>?_))
 ·simp only [dte] at hc5
  refine Aw_skip (hB4 _ ?_)
  refine Aw_sq fun B6 hB6 hR6 hX6=>?_
  refine Aw_bk fun B7 hN7 hE7 hR7 hX7=>?_
  refine Aw_st hE [0,3,4,12] [] fun K hK=>?_
  simp only [go_sem,seval]
  repeat refine sd0 ?_
  repeat' (first | (refine And.intro (by first | omega | decide) ?_) | intro)
  refine hK _ (Aw_cond rfl (fun hc8=>?_) (fun hc8=>?_))
  ·refine Aw_tx hE [0,3,4] [] fun K hK=>?_
   simp only [go_sem,seval,rows_one]
   repeat refine sd0 ?_
   refine hK _ (hN7 _ (hB6 _ ?_))
   refine Aw_tx hE [0,3,4] [] fun K hK=>?_
   simp only [go_sem,seval]
   repeat refine sd0 ?_
   refine hK _ (hN3 ((i.1++[(i.2:Int)],i.2 + 1)) _ (⟨by simp;omega,by first | omega | (dsimp only;omega) | (simp only;omega) | (simp;omega),by first | omega | (dsimp only;omega) | (simp only;omega) | (simp;omega)⟩) (by first | omega | (dsimp only;omega) | (simp only;omega) | (simp;omega)) ((Le_tk 16 5 rfl).trans (Le_rn (by first | omega | (dsimp only;omega) | (simp only;omega) | (simp;omega)))))
  ·refine Aw_skip (hN7 _ (hB6 _ ?_))
   refine Aw_tx hE [0,3,4] [] fun K hK=>?_
   simp only [go_sem,seval]
   repeat refine sd0 ?_
   refine hK _ (hN3 ((i.1,i.2 + 1)) _ (⟨by first | omega | (dsimp only;omega) | (simp only;omega) | (simp;omega),by first | omega | (dsimp only;omega) | (simp only;omega) | (simp;omega),by first | omega | (dsimp only;omega) | (simp only;omega) | (simp;omega)⟩) (by first | omega | (dsimp only;omega) | (simp only;omega) | (simp;omega)) (Le_rn (by first | omega | (dsimp only;omega) | (simp only;omega) | (simp;omega))))
 ·simp only [dfn] at hc5
  refine Aw_exit (hX4 _ _ (hX3 _ _ (hE2 _ (hB1 _ ?_))))
  refine Aw_st hE [2] [] fun K hK=>?_
  simp only [go_sem,seval]
  repeat refine sd0 ?_
  refine hK _ (Aw_ret (hQ _ ?_))
  simp only [go_sem,seval]
  exact ⟨by omega,_,by omega,rfl⟩
def cRouteD:Con:={ pre:=fun args=>args=[.rd],post:=fun _ r=>∃ x:Rt,okRt x∧r=x.av,cost:=40,draws:=true }
theorem cRouteD_own:cRouteD.own=false:=rfl
theorem cRouteD_draws:cRouteD.draws=true:=rfl
theorem cRouteD_cost:cRouteD.cost=40:=rfl
attribute [go_sem] cRouteD_own cRouteD_draws cRouteD_cost
theorem routeD_pre:cRouteD.pre [.rd]=True:=by simp [cRouteD]
theorem routeD_post (args:List AV) (K:AV→Prop):(∀ r,cRouteD.post args r→K r)=(∀ x:Rt,okRt x→K x.av):=by
 apply propext
 exact ⟨fun h p hp=>h _ ⟨p,hp,rfl⟩,fun h r ⟨p,hp,e⟩=>e ▸ h p hp⟩
theorem routeD_ex (args:List AV):(∃ r,cRouteD.post args r)=True:=eq_true ⟨_,⟨0,0,[],0,[]⟩,by simp [okRt,okRng],rfl⟩
attribute [go_sem] routeD_pre routeD_post routeD_ex
theorem l91Route_ok:Fine Tryz.prog 13 cRouteD:=by
 refine fine_of (T:=TT) Tryz.func13 rfl Tryz.ntmps13 (by rw [Tryz.results13]) rfl rfl tt (gs_cons l91Range_ok (gs_cons l91Path_ok (gs_cons pick_ok (gs_cons l91Marks_ok gs_nil)))) (ds_nil) ?_
 rintro args rfl
 refine ⟨by simp,fun k hk E hE Q hQ=>?_⟩
 have hk:=hk rfl
 simp only [go_sem] at hk
 refine Aw_st hE [0,2] [2] fun K hK=>?_
 simp only [go_sem,seval]
 repeat refine sd0 ?_
 refine hK _ ?_;clear hK K
 refine Aw_st hE [0,2,3] [2,3] fun K hK=>?_
 simp only [go_sem,seval]
 repeat refine sd0 ?_
 repeat' (first | (refine And.intro (by first | omega | decide) ?_) | intro)
 rename_i f b hfb p hp like hl1 hl2 ms hms
 refine hK _ ?_;clear hK K
 refine Aw_sqJ (fun q:List Int=>⟨47,[(0,.rd),(2,.loc 2 0),(3,.loc 3 0)],[(2,[iv 0,iv 0,.nl,iv 0,.nl]),(3,[iv f,iv b,isl q,iv like,.sl (some (11,0,3)) (rows ms)])],k + 30⟩) (fun q:List Int=>q.length≤4∧(∀ h ∈ q,isH h=true)) (fun i hi=>?_) fun B1 hB1 hR1 hX1=>?_
 ·refine Aw_sq fun B2 hB2 hR2 hX2=>?_
  refine Aw_st hE [0,2,3,28] [2,3] fun K hK=>?_
  simp only [go_sem,seval]
  repeat refine sd0 ?_
  repeat' (first | (refine And.intro (by first | omega | decide) ?_) | intro)
  rename_i u hu1 hu2
  refine hK _ ?_;clear hK K
  refine Aw_bk fun B3 hN3 hE3 hR3 hX3=>?_
  refine Aw_st hE [0,2,3,28,29] [2,3] fun K hK=>?_
  simp only [go_sem,seval]
  repeat refine sd0 ?_
  refine hK _ (Aw_cond rfl (fun hc4=>?_) (fun hc4=>?_))
  ·refine Aw_tx hE [2,3] [2,3] fun K hK=>?_
   simp only [go_sem,seval]
   repeat refine sd0 ?_
   repeat' (first | (refine And.intro (by first | omega | decide) ?_) | intro)
   rename_i v hv1 hv2
   have hv:v=0∨v=1∨v=2:=by omega
   rcases hv with rfl | rfl | rfl<;>simp only [go_sem,seval]
   all_goals repeat refine sd0 ?_
   all_goals
    refine hK _ (hN3 _ (hB2 _ ?_))
    refine Aw_st hE [2] [2] fun K hK=>?_
    simp only [go_sem,seval]
    repeat refine sd0 ?_
    refine hK _ (Aw_ret (hQ _ ?_))
    simp only [go_sem,seval]
    exact ⟨by omega,⟨f,b,i,_,ms⟩,⟨hfb,by first | omega | (dsimp only;omega) | (simp only;omega) | (simp;omega),hi.2,by first | omega | (dsimp only;omega) | (simp only;omega) | (simp;omega),by first | omega | (dsimp only;omega) | (simp only;omega) | (simp;omega),by first | omega | (dsimp only;omega) | (simp only;omega) | (simp;omega)⟩,rfl⟩
  ·refine Aw_st hE [0,2,3,37] [2,3] fun K hK=>?_
   simp only [go_sem,seval]
   repeat refine sd0 ?_
   refine hK _ (Aw_cond rfl (fun hc5=>?_) (fun hc5=>?_))
   ·refine Aw_td hE [2,3] [2,3] 6 (by kernel_rfl) fun K hK=>?_
    simp only [go_sem,seval,rows_one]
    repeat refine sd0 ?_
    repeat' (first | (refine And.intro (by first | omega | decide) ?_) | intro)
    rename_i v hv1 hv2
    refine ⟨⟨rows_row _,by omega⟩,?_⟩
    refine hK _ (hN3 _ (hB2 _ ?_))
    refine Aw_st hE [2] [2] fun K hK=>?_
    simp only [go_sem,seval]
    repeat refine sd0 ?_
    refine hK _ (Aw_ret (hQ _ ?_))
    simp only [go_sem,seval]
    exact ⟨by omega,⟨f,b,i,_,_⟩,⟨hfb,by first | omega | (dsimp only;omega) | (simp only;omega) | (simp;omega),hi.2,by first | omega | (dsimp only;omega) | (simp only;omega) | (simp;omega),by first | omega | (dsimp only;omega) | (simp only;omega) | (simp;omega),by first | omega | (dsimp only;omega) | (simp only;omega) | (simp;omega)⟩,rfl⟩
   ·refine Aw_skip (hN3 _ (hB2 _ ?_))
    refine Aw_st hE [2] [2] fun K hK=>?_
    simp only [go_sem,seval]
    repeat refine sd0 ?_
    refine hK _ (Aw_ret (hQ _ ?_))
    simp only [go_sem,seval]
    exact ⟨by omega,⟨f,b,i,_,ms⟩,⟨hfb,by first | omega | (dsimp only;omega) | (simp only;omega) | (simp;omega),hi.2,by first | omega | (dsimp only;omega) | (simp only;omega) | (simp;omega),by first | omega | (dsimp only;omega) | (simp only;omega) | (simp;omega),by first | omega | (dsimp only;omega) | (simp only;omega) | (simp;omega)⟩,rfl⟩
 refine Aw_st hE [0,2,3,21] [2,3] fun K hK=>?_
 simp only [go_sem,seval]
 repeat refine sd0 ?_
 refine ⟨fun hg7=>?_,fun hg7=>?_⟩
 ·repeat' (first | (refine And.intro (by first | omega | decide) ?_) | intro)
  repeat refine sd0 ?_
  refine hK _ (Aw_cond rfl (fun hc8=>?_) (fun hc8=>?_))
  ·refine Aw_tx hE [0,2,3] [2,3] fun K hK=>?_
   simp only [go_sem,seval]
   repeat refine sd0 ?_
   repeat' (first | (refine And.intro (by first | omega | decide) ?_) | intro)
   rename_i z hz1 hz2
   simp only [rows_one]
   have hz:isH (1 + z)=true:=by simp [isH];omega
   refine hK _ (hB1 ([1 + z]) _ (⟨by simp,by simpa using hz⟩) ((Le_wa) E))
  ·refine Aw_skip (hB1 (p) _ (⟨hp.1,hp.2⟩) ((Le_wa) E))
 ·repeat refine sd0 ?_
  refine hK _ (Aw_no rfl ?_)
  refine Aw_skip (hB1 (p) _ (⟨hp.1,hp.2⟩) ((Le_wa) E))
def cI (l:List Int):List AV:=l.map fun n=>iv n
theorem cI_len (l:List Int):(cI l).length=l.length:=by simp [cI]
theorem flatA_rows (l:List Int):flatA (rows l)=cI l:=by
 induction l with
 | nil=>rfl
 | cons n l ih =>
  have:flatA (rows (n::l))=iv n::flatA (rows l):=rfl
  rw [this,ih];rfl
theorem strip_cI (d:Nat) (l:List Int):AV.stripLAll d (cI l)=cI l:=by
 rw [AV.stripLAll_eq];simp [cI,AV.stripL]
theorem stripLAll_app (d:Nat) (a b:List AV):AV.stripLAll d (a++b)=AV.stripLAll d a++AV.stripLAll d b:=by simp [AV.stripLAll_eq]
theorem stripLAll_junk (d n:Nat):AV.stripLAll d (List.replicate n .junk)=List.replicate n .junk:=by simp [AV.stripLAll_eq,AV.stripL]
theorem nt_cI (l:List Int):AV.ntAll (cI l)=cI l:=by
 rw [ntAll_eq];simp [cI,AV.nt]
theorem ntAll_app (a b:List AV):AV.ntAll (a++b)=AV.ntAll a++AV.ntAll b:=by simp [ntAll_eq]
theorem ntAll_junk (n:Nat):AV.ntAll (List.replicate n .junk)=List.replicate n .junk:=by simp [ntAll_eq,AV.nt]
theorem mvn_cI (f:Nat→Option Nat) (l:List Int):AV.mvnAll f (cI l)=cI l:=by
 rw [mvnAll_eq];simp [cI,AV.mvn]
theorem mvnAll_app (f:Nat→Option Nat) (a b:List AV):AV.mvnAll f (a++b)=AV.mvnAll f a++AV.mvnAll f b:=by simp [mvnAll_eq]
theorem allLeaf_cI (l:List Int):allLeaf (cI l)=true:=by
 induction l with
 | nil=>rfl
 | cons n l ih=>exact ih
theorem mvnAll_junk (f:Nat→Option Nat) (n:Nat):AV.mvnAll f (List.replicate n .junk)=List.replicate n .junk:=by simp [mvnAll_eq,AV.mvn]
theorem stripFAll_cI (F:Nat→Bool) (l:List Int):AV.stripFAll F (cI l)=cI l:=by
 rw [stripFAll_eq];simp [cI,AV.stripF]
theorem stripFAll_app (F:Nat→Bool) (a b:List AV):AV.stripFAll F (a++b)=AV.stripFAll F a++AV.stripFAll F b:=by simp [stripFAll_eq]
theorem stripFAll_junk (F:Nat→Bool) (n:Nat):AV.stripFAll F (List.replicate n .junk)=List.replicate n .junk:=by simp [stripFAll_eq,AV.stripF]
theorem frzAll_app (d:Nat) (ys:List DV) (a b:List AV):AV.frzAll d ys (a++b)=AV.frzAll d ys a++AV.frzAll d ys b:=by
 induction a with
 | nil=>rfl
 | cons x a ih=>simp only [List.cons_append,AV.frzAll,ih]
theorem frzAll_cI (d:Nat) (ys:List DV) (l:List Int):AV.frzAll d ys (cI l)=cI l:=by
 induction l with
 | nil=>rfl
 | cons n l ih =>
  have:cI (n::l)=iv n::cI l:=rfl
  rw [this,AV.frzAll,ih];rfl
theorem frzAll_junk (d:Nat) (ys:List DV) (n:Nat):AV.frzAll d ys (List.replicate n .junk)=List.replicate n .junk:=by
 induction n with
 | zero=>rfl
 | succ n ih=>rw [List.replicate_succ,AV.frzAll,ih];rfl
attribute [go_sem] frzAll_app frzAll_cI frzAll_junk
attribute [go_sem] mvnAll_junk stripFAll_cI stripFAll_app stripFAll_junk
attribute [go_sem] cI_len strip_cI stripLAll_app stripLAll_junk nt_cI ntAll_app ntAll_junk mvn_cI mvnAll_app flatA_rows allLeaf_cI
def gOver:ExG:=fun args m=>match args with
 | [.xs k1 _ _ _ _,.xs k2 _ _ _ _]=>match lkm k1 m,lkm k2 m with
  | some _,some l2=>some (k1≠k2∧l2.length≠0,bv false)
  | _,_=>none
 | _=>none
attribute [go_sem] gOver
def gLess:List AV→Option (Prop × AV) | [.v (.int .i64 x),.v (.int .i64 y)]=>some (True,bv (decide (x < y))) | _=>none
def dLess:DFn:={ g:=gLess }
def gNaN:List AV→Option (Prop × AV) | [.v (.int .i64 x)]=>some (True,bv false) | _=>none
def dNaN:DFn:={ g:=gNaN }
attribute [go_sem] gLess dLess gNaN dNaN
theorem nan_ok:Fine Tryz.prog 58 dNaN.con:=by
 refine fine_det (T:=TT) Tryz.func58 rfl Tryz.ntmps58 (by rw [Tryz.results58]) rfl rfl tt (gs_nil) (ds_nil) ?_
 intro args c r h hc
 simp only [dNaN,gNaN] at h
 split at h
 rotate_left
 ·cases h
 obtain ⟨rfl,rfl⟩:=Prod.mk.inj (Option.some.inj h)
 refine ⟨by simp,fun k E hE Q hQ=>?_⟩
 refine Aw_st hE [0] [] fun K hK=>?_
 simp only [go_sem,reduceIte,Nat.reduceLT,Nat.reduceLeDiff,Nat.reduceEqDiff,Nat.reduceAdd,Nat.reduceMul,Nat.reduceSub,Nat.reduceBEq,Int.reduceToNat,List.reduceReplicate,reduceCtorEq]
 repeat refine sd0 ?_
 refine hK _ ?_;clear hK K
 refine Aw_st hE [2] [] fun K hK=>?_
 simp only [go_sem,reduceIte,Nat.reduceLT,Nat.reduceLeDiff,Nat.reduceEqDiff,Nat.reduceAdd,Nat.reduceMul,Nat.reduceSub,Nat.reduceBEq,Int.reduceToNat,List.reduceReplicate,reduceCtorEq]
 repeat refine sd0 ?_
 refine hK _ (Aw_ret (hQ _ ?_))
 simp only [go_sem,reduceIte,Nat.reduceLT,Nat.reduceLeDiff,Nat.reduceEqDiff,Nat.reduceAdd,Nat.reduceMul,Nat.reduceSub,Nat.reduceBEq,Int.reduceToNat,List.reduceReplicate,reduceCtorEq]
 simp
def isM (n:Int):Bool:=decide (1≤n) && decide (n≤9)
def gIsM:List AV→Option (Prop × AV) | [.v (.int .i64 n)]=>some (True,bv (isM n)) | _=>none
def dIsM:DFn:={ g:=gIsM }
attribute [go_sem] gIsM dIsM
theorem iIsM_ok:Fine Tryz.prog 57 dIsM.con:=by
 refine fine_det (T:=TT) Tryz.func57 rfl Tryz.ntmps57 (by rw [Tryz.results57]) rfl rfl tt (gs_nil) (ds_nil) ?_
 intro args c r h hc
 simp only [dIsM,gIsM] at h
 split at h
 rotate_left
 ·cases h
 obtain ⟨rfl,rfl⟩:=Prod.mk.inj (Option.some.inj h)
 refine ⟨by simp,fun k E hE Q hQ=>?_⟩
 refine Aw_st hE [0] [] fun K hK=>?_
 simp only [go_sem,seval]
 repeat refine sd0 ?_
 refine hK _ ?_;clear hK K
 refine Aw_st hE [2] [] fun K hK=>?_
 simp only [go_sem,seval]
 repeat refine sd0 ?_
 refine ⟨fun h1=>?_,fun h1=>?_⟩
 all_goals
  refine hK _ (Aw_ret (hQ _ ?_))
  simp only [go_sem,seval,isM,h1,Bool.true_and,Bool.false_and]
def mOkN (l:List Int):Nat→Bool
 | 0=>true
 | n + 1=>mOkN l n && (isM (l.getD n 0) && (decide (n=0) || decide (l.getD (n - 1) 0 < l.getD n 0)))
def mOk (l:List Int):Bool:=mOkN l l.length
theorem mOkN_stop {l : List Int} {n : Nat} (h : mOkN l n = false) : ∀ k, n ≤ k → mOkN l k = false
  | 0, hk => by obtain rfl : n = 0 := by omega
                cases h
  | k + 1, hk => by
    by_cases he : n = k + 1
    · subst he; exact h
    · rw [mOkN, mOkN_stop h k (by omega)]; rfl
def gMOk:List AV→Option (Prop × AV) | [.sl _ els]=>(match intsL els with | some p=>some (p.length≤4294967296,bv (mOk p)) | none=>none) | _=>none
def dMOk:DFn:={ g:=gMOk }
attribute [go_sem] gMOk dMOk
theorem iMOk_ok:Fine Tryz.prog 35 dMOk.con:=by
 refine fine_det (T:=TT) Tryz.func35 rfl Tryz.ntmps35 (by rw [Tryz.results35]) rfl rfl tt (gs_nil) (ds_cons iIsM_ok ds_nil) ?_
 intro args c r h hc
 simp only [dMOk,gMOk] at h
 split at h
 rotate_left
 ·cases h
 split at h
 rotate_left
 ·cases h
 rename_i t els _ l hl
 obtain rfl:=intsL_eq hl
 obtain ⟨rfl,rfl⟩:=Prod.mk.inj (Option.some.inj h)
 refine ⟨by simp,fun k E hE Q hQ=>?_⟩
 refine Aw_st hE [0] [] fun K hK=>?_
 simp only [go_sem,seval]
 repeat refine sd0 ?_
 refine hK _ ?_;clear hK K
 refine Aw_sq fun B1 hB1 hR1 hX1=>?_
 refine Aw_st hE [0,5,6,7] [] fun K hK=>?_
 simp only [go_sem,seval]
 repeat refine sd0 ?_
 refine hK _ ?_;clear hK K
 refine Aw_bk fun B2 hN2 hE2 hR2 hX2=>?_
 refine Aw_lp (fun i:Nat=>⟨29,[(0,.sl t (rows l)),(5,.sl t (rows l)),(6,iv l.length),(7,iv i)],[],k⟩) (fun i:Nat=>i≤l.length∧mOkN l i=true) (fun i:Nat=>l.length - i) (0) (Le.refl _) (⟨by omega,rfl⟩) fun i hi B3 hN3 hR3 hX3=>?_
 refine Aw_st hE [0,5,6,7,8] [] fun K hK=>?_
 simp only [go_sem,seval]
 repeat refine sd0 ?_
 refine hK _ ?_;clear hK K
 refine Aw_sq fun B4 hB4 hR4 hX4=>?_
 refine Aw_cond rfl (fun hc5=>?_) (fun hc5=>?_)
 ·simp only [dte] at hc5
  have hil:i < l.length:=by omega
  have e1:((i:Int) - 1).toNat=i - 1:=by omega
  refine Aw_skip (hB4 _ ?_)
  refine Aw_sq fun B6 hB6 hR6 hX6=>?_
  refine Aw_bk fun B7 hN7 hE7 hR7 hX7=>?_
  refine Aw_st hE [0,3,4,5,6,7] [] fun K hK=>?_
  simp only [go_sem,seval,rows_get l i hil]
  repeat refine sd0 ?_
  refine hK _ ?_;clear hK K
  refine Aw_st hE [0,5,6,7,27] [] fun K hK=>?_
  simp only [go_sem,seval,e1,rows_get l (i - 1) (by omega)]
  repeat refine sd0 ?_
  refine ⟨fun hg9=>?_,fun hg9=>?_⟩
  ·repeat refine sd0 ?_
   refine hK _ (Aw_yes rfl ?_)
   refine Aw_st hE [2] [] fun K hK=>?_
   simp only [go_sem,seval]
   repeat refine sd0 ?_
   refine hK _ (Aw_ret (hR7 _ (hR6 _ (hR3 _ (hR2 _ (hR1 _ (hQ _ ?_)))))))
   simp only [go_sem,seval]
   have hst:mOkN l (i + 1)=false:=by rw [mOkN];simp at hg9;simp [hg9]
   rw [mOk,mOkN_stop hst _ (by omega)]
  ·simp only [Bool.not_eq_false'] at hg9
   repeat refine sd0 ?_
   refine ⟨fun hg10=>?_,fun hg10=>?_⟩
   ·simp only [dte] at hg10
    repeat refine sd0 ?_
    refine hK _ (Aw_cond rfl (fun hc11=>?_) (fun hc11=>?_))
    ·simp only [dte] at hc11
     refine Aw_st hE [2] [] fun K hK=>?_
     simp only [go_sem,seval]
     repeat refine sd0 ?_
     refine hK _ (Aw_ret (hR7 _ (hR6 _ (hR3 _ (hR2 _ (hR1 _ (hQ _ ?_)))))))
     simp only [go_sem,seval]
     have hst:mOkN l (i + 1)=false:=by rw [mOkN,decide_eq_false (show ¬i=0 by omega),decide_eq_false (show ¬l.getD (i - 1) 0 < l.getD i 0 by omega)];simp
     rw [mOk,mOkN_stop hst _ (by omega)]
    ·simp only [dfn,Int.not_le] at hc11
     refine Aw_skip (hN7 _ (hB6 _ ?_))
     refine Aw_tx hE [0,5,6,7] [] fun K hK=>?_
     simp only [go_sem,seval]
     repeat refine sd0 ?_
     refine hK _ (hN3 (i + 1) _ (⟨by omega,by rw [mOkN,hi.2,hg9,decide_eq_true hc11];simp⟩) (by omega) (Le.refl _))
   ·simp only [dfn] at hg10
    repeat refine sd0 ?_
    refine hK _ (Aw_no rfl ?_)
    refine Aw_skip (hN7 _ (hB6 _ ?_))
    refine Aw_tx hE [0,5,6,7] [] fun K hK=>?_
    simp only [go_sem,seval]
    repeat refine sd0 ?_
    refine hK _ (hN3 (i + 1) _ (⟨by omega,by rw [mOkN,hi.2,hg9,decide_eq_true (show i=0 by omega)];simp⟩) (by omega) (Le.refl _))
 ·simp only [dfn] at hc5
  refine Aw_exit (hX4 _ _ (hX3 _ _ (hE2 _ (hB1 _ ?_))))
  refine Aw_st hE [2] [] fun K hK=>?_
  simp only [go_sem,seval]
  repeat refine sd0 ?_
  refine hK _ (Aw_ret (hQ _ ?_))
  simp only [go_sem,seval]
  rw [mOk,show l.length=i by omega,hi.2]
theorem sMOk_ok:Fine Tryz.prog 30 dMOk.con:=by
 refine fine_det (T:=TT) Tryz.func30 rfl Tryz.ntmps30 (by rw [Tryz.results30]) rfl rfl tt (gs_nil) (ds_cons in_ok ds_nil) ?_
 intro args c r h hc
 simp only [dMOk,gMOk] at h
 split at h
 rotate_left
 ·cases h
 split at h
 rotate_left
 ·cases h
 rename_i t els _ l hl
 obtain rfl:=intsL_eq hl
 obtain ⟨rfl,rfl⟩:=Prod.mk.inj (Option.some.inj h)
 refine ⟨by simp,fun k E hE Q hQ=>?_⟩
 refine Aw_st hE [0] [] fun K hK=>?_
 simp only [go_sem,seval]
 repeat refine sd0 ?_
 refine hK _ ?_;clear hK K
 refine Aw_sq fun B1 hB1 hR1 hX1=>?_
 refine Aw_st hE [0,3] [] fun K hK=>?_
 simp only [go_sem,seval]
 repeat refine sd0 ?_
 refine hK _ ?_;clear hK K
 refine Aw_bk fun B2 hN2 hE2 hR2 hX2=>?_
 refine Aw_lp (fun i:Nat=>⟨32,[(0,.sl t (rows l)),(3,iv i)],[],k⟩) (fun i:Nat=>i≤l.length∧mOkN l i=true) (fun i:Nat=>l.length - i) (0) (Le.refl _) (⟨by omega,rfl⟩) fun i hi B3 hN3 hR3 hX3=>?_
 refine Aw_sq fun B4 hB4 hR4 hX4=>?_
 refine Aw_st hE [0,3,7] [] fun K hK=>?_
 simp only [go_sem,seval]
 repeat refine sd0 ?_
 refine hK _ (Aw_cond rfl (fun hc5=>?_) (fun hc5=>?_))
 ·simp only [dte] at hc5
  have hil:i < l.length:=by omega
  have e1:((i:Int) - 1).toNat=i - 1:=by omega
  have hisM:∀ x,(decide (1≤x) && decide (x≤9))=isM x:=fun _=>rfl
  refine Aw_skip (hB4 _ ?_)
  refine Aw_sq fun B6 hB6 hR6 hX6=>?_
  refine Aw_bk fun B7 hN7 hE7 hR7 hX7=>?_
  refine Aw_sd hE [0,3,31] [] 6 (by kernel_rfl) fun K hK=>?_
  simp only [go_sem,seval,e1,rows_get l (i - 1) (by omega),rows_get l i hil]
  repeat refine sd0 ?_
  refine ⟨fun hg9=>?_,fun hg9=>?_⟩
  ·repeat refine sd0 ?_
   refine hK _ (Aw_yes rfl ?_)
   refine Aw_st hE [2] [] fun K hK=>?_
   simp only [go_sem,seval]
   repeat refine sd0 ?_
   refine hK _ (Aw_ret (hR7 _ (hR6 _ (hR3 _ (hR2 _ (hR1 _ (hQ _ ?_)))))))
   simp only [go_sem,seval]
   have hst:mOkN l (i + 1)=false:=by rw [mOkN];rw [hisM] at hg9;simp at hg9;simp [hg9]
   rw [mOk,mOkN_stop hst _ (by omega)]
  ·simp only [Bool.not_eq_false',hisM] at hg9
   repeat refine sd0 ?_
   refine ⟨fun hg10=>?_,fun hg10=>?_⟩
   ·simp only [dte] at hg10
    repeat refine sd0 ?_
    refine hK _ (Aw_cond rfl (fun hc11=>?_) (fun hc11=>?_))
    ·simp only [dte] at hc11
     refine Aw_st hE [2] [] fun K hK=>?_
     simp only [go_sem,seval]
     repeat refine sd0 ?_
     refine hK _ (Aw_ret (hR7 _ (hR6 _ (hR3 _ (hR2 _ (hR1 _ (hQ _ ?_)))))))
     simp only [go_sem,seval]
     have hst:mOkN l (i + 1)=false:=by rw [mOkN,decide_eq_false (show ¬i=0 by omega),decide_eq_false (show ¬l.getD (i - 1) 0 < l.getD i 0 by omega)];simp
     rw [mOk,mOkN_stop hst _ (by omega)]
    ·simp only [dfn,Int.not_le] at hc11
     refine Aw_skip (hN7 _ (hB6 _ ?_))
     refine Aw_tx hE [0,3] [] fun K hK=>?_
     simp only [go_sem,seval]
     repeat refine sd0 ?_
     refine hK _ (hN3 (i + 1) _ (⟨by omega,by rw [mOkN,hi.2,hg9,decide_eq_true hc11];simp⟩) (by omega) (Le.refl _))
   ·simp only [dfn] at hg10
    repeat refine sd0 ?_
    refine hK _ (Aw_no rfl ?_)
    refine Aw_skip (hN7 _ (hB6 _ ?_))
    refine Aw_tx hE [0,3] [] fun K hK=>?_
    simp only [go_sem,seval]
    repeat refine sd0 ?_
    refine hK _ (hN3 (i + 1) _ (⟨by omega,by rw [mOkN,hi.2,hg9,decide_eq_true (show i=0 by omega)];simp⟩) (by omega) (Le.refl _))
 ·simp only [dfn] at hc5
  refine Aw_exit (hX4 _ _ (hX3 _ _ (hE2 _ (hB1 _ ?_))))
  refine Aw_st hE [2] [] fun K hK=>?_
  simp only [go_sem,seval]
  repeat refine sd0 ?_
  refine hK _ (Aw_ret (hQ _ ?_))
  simp only [go_sem,seval]
  rw [mOk,show l.length=i by omega,hi.2]
def rtOk (f b:Int) (p:List Int) (k:Int) (m:List Int):Bool:=rngOk f b && (decide (0 < p.length) && (pathOk p && (decide (0≤k) && (decide (k≤9) && mOk m))))
def gRtOk:List AV→Option (Prop × AV)
 | [.agg [.v (.int .i64 f),.v (.int .i64 b),.sl _ e1,.v (.int .i64 k),.sl _ e2]]=>(match intsL e1,intsL e2 with | some p,some m=>some (p.length≤4294967296∧m.length≤4294967296,bv (rtOk f b p k m)) | _,_=>none)
 | _=>none
def dRtOk:DFn:={ g:=gRtOk }
def dRtOkI (pb:Addr):DFn:={ g:=gRtOk,inv:=WP pb }
attribute [go_sem] gRtOk dRtOk dRtOkI
theorem iRtOk_ok (pb:Addr):Fine Tryz.prog 16 (dRtOkI pb).con:=by
 refine fine_det (T:=TT) Tryz.func16 rfl Tryz.ntmps16 (by rw [Tryz.results16]) rfl rfl tt gs_nil (ds_cons rangeOk_ok (ds_cons (iPathOk_ok pb) (ds_cons iMOk_ok ds_nil) (wp_inh pb))) ?_
 intro args c r h hc
 simp only [dRtOkI,gRtOk] at h
 split at h
 rotate_left
 ·cases h
 split at h
 rotate_left
 ·cases h
 rename_i f b t1 e1 lk t2 e2 _ _ p m hl1 hl2
 obtain rfl:=intsL_eq hl1
 obtain rfl:=intsL_eq hl2
 obtain ⟨rfl,rfl⟩:=Prod.mk.inj (Option.some.inj h)
 refine ⟨by simp,fun k E hE Q hQ=>?_⟩
 refine Aw_st hE [1] [1] fun K hK=>?_
 simp only [go_sem,seval]
 refine hK _ ?_;clear hK K
 refine Aw_st hE [2] [] fun K hK=>?_
 simp only [go_sem,seval]
 have H:∀ v,v=rtOk f b p lk m→K { nt:=32,σ:=[(2,bv v)],m:=[],rn:=k }:=fun v hv=>by
  subst hv
  refine hK _ (Aw_ret (hQ _ ?_))
  simp only [go_sem,seval]
 clear hK
 repeat' (first | exact hc.1 | exact hc.2 | refine ⟨?_,?_⟩ | intro _)
 all_goals (apply H;simp_all [rtOk])
 all_goals (intros;omega)
theorem sRtOk_ok:Fine Tryz.prog 14 dRtOk.con:=by
 refine fine_det (T:=TT) Tryz.func14 rfl Tryz.ntmps14 (by rw [Tryz.results14]) rfl rfl tt gs_nil (ds_cons sRangeOk_ok (ds_cons sPathOk_ok (ds_cons in_ok (ds_cons sMOk_ok ds_nil)))) ?_
 intro args c r h hc
 simp only [dRtOk,gRtOk] at h
 split at h
 rotate_left
 ·cases h
 split at h
 rotate_left
 ·cases h
 rename_i f b t1 e1 lk t2 e2 _ _ p m hl1 hl2
 obtain rfl:=intsL_eq hl1
 obtain rfl:=intsL_eq hl2
 obtain ⟨rfl,rfl⟩:=Prod.mk.inj (Option.some.inj h)
 refine ⟨by simp,fun k E hE Q hQ=>?_⟩
 refine Aw_st hE [1] [1] fun K hK=>?_
 simp only [go_sem,seval]
 refine hK _ ?_;clear hK K
 refine Aw_st hE [2] [] fun K hK=>?_
 simp only [go_sem,seval]
 have H:∀ v,v=rtOk f b p lk m→K { nt:=27,σ:=[(2,bv v)],m:=[],rn:=k }:=fun v hv=>by
  subst hv
  refine hK _ (Aw_ret (hQ _ ?_))
  simp only [go_sem,seval]
 clear hK
 repeat' (first | exact hc.1 | exact hc.2 | refine ⟨?_,?_⟩ | intro _)
 all_goals (apply H;simp_all [rtOk])
 all_goals (intros;omega)
theorem isl_inj {a b:List Int} (h:[isl a]=[isl b]):a=b:=by
 have e2:=AV.sl.inj (List.cons.inj h).1
 have e3:intsL (rows a)=intsL (rows b):=by rw [e2.2]
 rw [intsL_rows,intsL_rows] at e3
 exact Option.some.inj e3
def cClone:ConM:={
 pre:=fun args m1=>∃ l:List Int,args=[isl l]∧m1=[]∧l.length≤1000000
 post:=fun args _ r m2=>∀ l:List Int,args=[isl l]→(l=[]∧((r = .nl∧m2=[])∨(r = .xs 5 0 0 0 1∧m2=[(5,[])])))∨(l≠[]∧∃ cap,l.length≤cap∧r = .xs 7 0 l.length cap 1∧m2=[(5,[]),(7,cI l++List.replicate (cap - l.length) .junk)]) }
theorem clone_pre (l:List Int):cClone.pre [isl l] []=(l.length≤1000000):=by
 apply propext
 constructor
 ·rintro ⟨l',h,_,h2⟩;rwa [isl_inj h]
 ·exact fun h=>⟨l,rfl,rfl,h⟩
theorem clone_post (l:List Int) (m1:List (Nat × List AV)) (K:AV→List (Nat × List AV)→Prop):(∀ r m2,cClone.post [isl l] m1 r m2→K r m2)=((l=[]→K .nl []∧K (.xs 5 0 0 0 1) [(5,[])])∧(l≠[]→∀ cap,l.length≤cap→K (.xs 7 0 l.length cap 1) [(5,[]),(7,cI l++List.replicate (cap - l.length) .junk)])):=by
 apply propext
 constructor
 ·intro h
  exact ⟨fun e=>⟨h _ _ fun l' h'=>by obtain rfl:=isl_inj h';exact .inl ⟨e,.inl ⟨rfl,rfl⟩⟩,h _ _ fun l' h'=>by obtain rfl:=isl_inj h';exact .inl ⟨e,.inr ⟨rfl,rfl⟩⟩⟩,fun e cap hc=>h _ _ fun l' h'=>by obtain rfl:=isl_inj h';exact .inr ⟨e,cap,hc,rfl,rfl⟩⟩
 ·intro h r m2 hp
  rcases hp l rfl with ⟨e,⟨rfl,rfl⟩ | ⟨rfl,rfl⟩⟩ | ⟨e,cap,hc,rfl,rfl⟩
  ·exact (h.1 e).1
  ·exact (h.1 e).2
  ·exact h.2 e cap hc
theorem clone_ex (l:List Int) (m1:List (Nat × List AV)):(∃ r m2,cClone.post [isl l] m1 r m2)=True:=by
 refine eq_true ?_
 by_cases e:l=[]
 ·exact ⟨.nl,[],fun l' h'=>by obtain rfl:=isl_inj h';exact .inl ⟨e,.inl ⟨rfl,rfl⟩⟩⟩
 ·exact ⟨_,_,fun l' h'=>by obtain rfl:=isl_inj h';exact .inr ⟨e,l.length,Nat.le_refl _,rfl,rfl⟩⟩
attribute [go_sem] clone_pre clone_post clone_ex
abbrev jk (n:Nat):List AV:=List.replicate n .junk
def copyCs (f b:Int) (p:List Int) (k:Int) (m:List Int) (K:AV→List (Nat × List AV)→Prop):Prop :=
 ∀ cap,p.length≤cap→(m=[]→K (.agg [iv f,iv b,.xs 405 0 p.length cap 1,iv k,.nl]) [(2,[iv f,iv b,.xs 405 0 p.length cap 1,iv k,.nl]),(205,[]),(405,cI p++jk (cap - p.length))]∧
   K (.agg [iv f,iv b,.xs 405 0 p.length cap 1,iv k,.xs 208 0 0 0 1]) [(2,[iv f,iv b,.xs 405 0 p.length cap 1,iv k,.xs 208 0 0 0 1]),(205,[]),(405,cI p++jk (cap - p.length)),(208,[])])∧
  (m≠[]→∀ cap2,m.length≤cap2→K (.agg [iv f,iv b,.xs 405 0 p.length cap 1,iv k,.xs 408 0 m.length cap2 1]) [(2,[iv f,iv b,.xs 405 0 p.length cap 1,iv k,.xs 408 0 m.length cap2 1]),(205,[]),(405,cI p++jk (cap - p.length)),(208,[]),(408,cI m++jk (cap2 - m.length))])
theorem rav_inj {f b k f' b' k':Int} {p m p' m':List Int} (h:[AV.agg [iv f,iv b,isl p,iv k,isl m]]=[AV.agg [iv f',iv b',isl p',iv k',isl m']]):f=f'∧b=b'∧p=p'∧k=k'∧m=m':=by
 simp only [List.cons.injEq,AV.agg.injEq,AV.v.injEq,Value.int.injEq,true_and,and_true] at h
 exact ⟨h.1,h.2.1,isl_inj (by rw [h.2.2.1]),h.2.2.2.1,isl_inj (by rw [h.2.2.2.2])⟩
def cCopyR:ConM:={
 pre:=fun args m1=>∃ (f b:Int) (p:List Int) (k:Int) (m:List Int),args=[.agg [iv f,iv b,isl p,iv k,isl m]]∧m1=[]∧p.length≤1000000∧m.length≤1000000∧p≠[]
 post:=fun args _ r m2=>∀ (f b:Int) (p:List Int) (k:Int) (m:List Int),args=[.agg [iv f,iv b,isl p,iv k,isl m]]→∀ K:AV→List (Nat × List AV)→Prop,copyCs f b p k m K→K r m2 }
theorem copyR_pre (f b:Int) (p:List Int) (k:Int) (m:List Int):cCopyR.pre [.agg [iv f,iv b,isl p,iv k,isl m]] []=(p.length≤1000000∧m.length≤1000000∧p≠[]):=by
 apply propext
 constructor
 ·rintro ⟨f',b',p',k',m',h,_,h2⟩
  obtain ⟨rfl,rfl,rfl,rfl,rfl⟩:=rav_inj h
  exact h2
 ·exact fun h=>⟨f,b,p,k,m,rfl,rfl,h⟩
theorem copyR_post (f b:Int) (p:List Int) (k:Int) (m:List Int) (m1:List (Nat × List AV)) (K:AV→List (Nat × List AV)→Prop):(∀ r m2,cCopyR.post [.agg [iv f,iv b,isl p,iv k,isl m]] m1 r m2→K r m2)=copyCs f b p k m K:=by
 apply propext
 constructor
 ·intro h cap hcap
  refine ⟨fun hm0=>⟨h _ _ ?_,h _ _ ?_⟩,fun hm0 cap2 hcap2=>h _ _ ?_⟩
  all_goals
   intro f' b' p' k' m' he K' hK'
   obtain ⟨rfl,rfl,rfl,rfl,rfl⟩:=rav_inj he
   have h:=hK' cap hcap
   first | exact (h.1 hm0).1 | exact (h.1 hm0).2 | exact h.2 hm0 cap2 hcap2
 ·exact fun h r m2 hp=>hp f b p k m rfl K h
attribute [go_sem] copyR_pre copyR_post copyCs
def mkGo (x:Int):List Int→List Int × Bool→List Int × Bool
 | [],s=>s
 | y::l,(out,inn)=>mkGo x l ((out++(if !inn && decide (x≤y) then [x] else []))++(if decide (y=x) then [] else [y]),inn || decide (x≤y))
def mkL (l:List Int) (x:Int):List Int:=let s:=mkGo x l ([],false);if s.2 then s.1 else s.1++[x]
def gMark:List AV→Option (Prop × AV)
 | [.agg [.v (.int .i64 f),.v (.int .i64 b),.sl _ e1,.v (.int .i64 k),.sl _ e2],.v (.int .i64 x)]=>(match intsL e1,intsL e2 with
  | some p,some m=>some (p.length≤1000000∧m.length≤1000000,.tup [if rtOk f b p k m && isM x then .agg [iv f,iv b,isl p,iv k,isl (mkL m x)] else .agg [iv 0,iv 0,isl [],iv 0,isl []],bv (rtOk f b p k m && isM x)])
  | _,_=>none)
 | _=>none
def dMark:DFn:={ g:=gMark }
def dMarkI (pb:Addr):DFn:={ g:=gMark,inv:=WP pb }
attribute [go_sem] gMark dMark dMarkI
theorem mOkN_lt {l:List Int}:∀ {n:Nat},mOkN l n=true→∀ a b,a < b→b < n→l.getD a 0 < l.getD b 0
 | n + 1,h,a,b,hab,hb=>by
  simp only [mOkN,Bool.and_eq_true,Bool.or_eq_true,dte] at h
  obtain ⟨h1,_,h2⟩:=h
  by_cases hbn:b=n
  ·subst hbn
   have h3:l.getD (b - 1) 0 < l.getD b 0:=h2.resolve_left (by omega)
   by_cases ha:a=b - 1
   ·rw [ha];exact h3
   ·have:=mOkN_lt h1 a (b - 1) (by omega) (by omega);omega
  ·exact mOkN_lt h1 a b hab (by omega)
theorem mOk_srt {l:List Int} (h:mOk l=true):l.Pairwise (· < ·):=by
 rw [List.pairwise_iff_getElem]
 intro i j hi hj hij
 have:=mOkN_lt h i j hij hj
 simpa [List.getD_eq_getElem?_getD,hi,hj] using this
theorem mkGo_lt (x:Int) (b:List Int):∀ (a:List Int) (out:List Int),(∀ y ∈ a,y < x)→mkGo x (a++b) (out,false)=mkGo x b (out++a,false)
 | [],out,_=>by simp
 | y::a,out,h=>by
  have hy:=h y (by simp)
  rw [List.cons_append,mkGo]
  simp only [Bool.not_false,Bool.true_and,Bool.false_or,decide_eq_false (by omega:¬ x≤y),decide_eq_false (by omega:¬ y=x)]
  simp only [Bool.false_eq_true,if_false,List.append_nil]
  rw [mkGo_lt x b a (out++[y]) fun z hz=>h z (by simp [hz])]
  simp
theorem mkGo_in (x:Int):∀ (b out:List Int),mkGo x b (out,true)=(out++b.filter (fun y=>!decide (y=x)),true)
 | [],out=>by simp [mkGo]
 | y::b,out=>by
  rw [mkGo]
  simp only [Bool.not_true,Bool.false_and,Bool.false_eq_true,if_false,List.append_nil,Bool.true_or]
  rw [mkGo_in x b]
  by_cases h:y=x<;>simp [h]
theorem mkL_eq (x:Int) (a b:List Int) (ha:∀ y ∈ a,y < x) (hb:∀ y ∈ b,x≤y):mkL (a++b) x=a++x::b.filter (fun y=>!decide (y=x)):=by
 unfold mkL
 rw [mkGo_lt x b a [] ha]
 cases b with
 | nil=>simp [mkGo]
 | cons y b =>
  have hy:=hb y (by simp)
  simp only [mkGo,Bool.not_false,Bool.true_and,Bool.false_or,decide_eq_true hy,if_true,mkGo_in]
  by_cases h:y=x<;>simp [h]
def gMk:List AV→Option (Prop × AV) | [.sl _ els,.v (.int .i64 x)]=>(match intsL els with | some l=>some (l.length≤1000000,isl (mkL l x)) | none=>none) | _=>none
def dMk:DFn:={ g:=gMk }
attribute [go_sem] gMk dMk
theorem mkGo_app (x:Int):∀ (a b:List Int) (s:List Int × Bool),mkGo x (a++b) s=mkGo x b (mkGo x a s)
 | [],b,s=>rfl
 | y::a,b,s=>by obtain ⟨o,i⟩:=s;rw [List.cons_append,mkGo,mkGo_app,mkGo]
theorem mkGo_step (x:Int) (l:List Int) (i:Nat) (h:i < l.length) {o:List Int} {n:Bool} (hs:mkGo x (l.take i) ([],false)=(o,n)):mkGo x (l.take (i + 1)) ([],false)=((o++(if !n && decide (x≤l.getD i 0) then [x] else []))++(if decide (l.getD i 0=x) then [] else [l.getD i 0]),n || decide (x≤l.getD i 0)):=by
 have e:l.getD i 0=l[i]:=by simp [List.getD_eq_getElem?_getD,h]
 rw [List.take_succ_eq_append_getElem h,mkGo_app,hs,e];rfl
theorem l4Mark_ok:Fine Tryz.prog 63 dMk.con:=by
 refine fine_det (T:=TT) Tryz.func63 rfl Tryz.ntmps63 (by rw [Tryz.results63]) rfl rfl tt (gs_nil) (ds_nil) ?_
 intro args c r h hc
 simp only [dMk,gMk] at h
 split at h
 rotate_left
 ·cases h
 split at h
 rotate_left
 ·cases h
 rename_i t els x _ l hl
 obtain rfl:=intsL_eq hl
 obtain ⟨rfl,rfl⟩:=Prod.mk.inj (Option.some.inj h)
 refine ⟨by simp,fun k E hE Q hQ=>?_⟩
 refine Aw_st hE [0,1] [] fun K hK=>?_
 simp only [go_sem,reduceIte,Nat.reduceLT,Nat.reduceLeDiff,Nat.reduceEqDiff,Nat.reduceAdd,Nat.reduceMul,Nat.reduceSub,Nat.reduceBEq,Int.reduceToNat,List.reduceReplicate,reduceCtorEq]
 repeat refine sd0 ?_
 refine hK _ ?_;clear hK K
 refine Aw_st hE [0,1,5] [] fun K hK=>?_
 simp only [go_sem,reduceIte,Nat.reduceLT,Nat.reduceLeDiff,Nat.reduceEqDiff,Nat.reduceAdd,Nat.reduceMul,Nat.reduceSub,Nat.reduceBEq,Int.reduceToNat,List.reduceReplicate,reduceCtorEq]
 repeat refine sd0 ?_
 refine hK _ ?_;clear hK K
 refine Aw_st hE [0,1,5,6] [] fun K hK=>?_
 simp only [go_sem,reduceIte,Nat.reduceLT,Nat.reduceLeDiff,Nat.reduceEqDiff,Nat.reduceAdd,Nat.reduceMul,Nat.reduceSub,Nat.reduceBEq,Int.reduceToNat,List.reduceReplicate,reduceCtorEq]
 repeat refine sd0 ?_
 refine hK _ ?_;clear hK K
 refine Aw_sq fun B1 hB1 hR1 hX1=>?_
 refine Aw_st hE [0,1,5,6,7] [] fun K hK=>?_
 simp only [go_sem,reduceIte,Nat.reduceLT,Nat.reduceLeDiff,Nat.reduceEqDiff,Nat.reduceAdd,Nat.reduceMul,Nat.reduceSub,Nat.reduceBEq,Int.reduceToNat,List.reduceReplicate,reduceCtorEq]
 repeat refine sd0 ?_
 refine hK _ ?_;clear hK K
 refine Aw_bk fun B2 hN2 hE2 hR2 hX2=>?_
 refine Aw_lp (fun i:Nat × (List Int × Bool)=>⟨49,[(0,isl l),(1,iv x),(5,.sl (some (8,0,3)) (rows i.2.1)),(6,bv i.2.2),(7,iv i.1)],[],k⟩) (fun i:Nat × (List Int × Bool)=>i.1≤l.length∧mkGo x (l.take i.1) ([],false)=i.2∧i.2.1.length≤2 * i.1) (fun i:Nat × (List Int × Bool)=>l.length - i.1) ((0,([],false))) (Le_wk (by first | omega | (dsimp only;omega) | (simp only;omega) | (simp;omega)) (by simp only [go_sem,reduceIte,Nat.reduceLT,Nat.reduceLeDiff,Nat.reduceEqDiff,Nat.reduceAdd,Nat.reduceMul,Nat.reduceSub,Nat.reduceBEq,Int.reduceToNat,List.reduceReplicate,reduceCtorEq];rfl) (by simp only [go_sem,reduceIte,Nat.reduceLT,Nat.reduceLeDiff,Nat.reduceEqDiff,Nat.reduceAdd,Nat.reduceMul,Nat.reduceSub,Nat.reduceBEq,Int.reduceToNat,List.reduceReplicate,reduceCtorEq])) (⟨by omega,rfl,by simp⟩) fun i hi B3 hN3 hR3 hX3=>?_
 refine Aw_sq fun B4 hB4 hR4 hX4=>?_
 refine Aw_st hE [0,1,5,6,7,12] [] fun K hK=>?_
 simp only [go_sem,reduceIte,Nat.reduceLT,Nat.reduceLeDiff,Nat.reduceEqDiff,Nat.reduceAdd,Nat.reduceMul,Nat.reduceSub,Nat.reduceBEq,Int.reduceToNat,List.reduceReplicate,reduceCtorEq]
 repeat refine sd0 ?_
 refine hK _ (Aw_cond rfl (fun hc5=>?_) (fun hc5=>?_))
 ·simp only [dte] at hc5
  obtain ⟨i,o,n⟩:=i
  obtain ⟨hi1,hi2,hi3⟩:=hi
  simp only at hi1 hi2 hi3 hc5 ⊢
  have hil:i < l.length:=by omega
  have hst:=mkGo_step x l i hil hi2
  refine Aw_skip (hB4 _ ?_)
  refine Aw_sq fun B6 hB6 hR6 hX6=>?_
  refine Aw_bk fun B7 hN7 hE7 hR7 hX7=>?_
  refine Aw_sq fun B8 hB8 hR8 hX8=>?_
  refine Aw_st hE [0,1,5,6,7,24] [] fun K hK=>?_
  simp only [go_sem,reduceIte,Nat.reduceLT,Nat.reduceLeDiff,Nat.reduceEqDiff,Nat.reduceAdd,Nat.reduceMul,Nat.reduceSub,Nat.reduceBEq,Int.reduceToNat,List.reduceReplicate,reduceCtorEq,rows_get l i hil]
  repeat refine sd0 ?_
  refine ⟨fun hg10=>?_,fun hg10=>?_⟩
  ·have hn:n=false:=by simpa using hg10
   repeat refine sd0 ?_
   refine hK _ (Aw_cond rfl (fun hc11=>?_) (fun hc11=>?_))
   ·have hle:x≤l.getD i 0:=by simpa using hc11
    refine Aw_st hE [0,1,5,7] [] fun K hK=>?_
    simp only [go_sem,reduceIte,Nat.reduceLT,Nat.reduceLeDiff,Nat.reduceEqDiff,Nat.reduceAdd,Nat.reduceMul,Nat.reduceSub,Nat.reduceBEq,Int.reduceToNat,List.reduceReplicate,reduceCtorEq,rows_one]
    repeat refine sd0 ?_
    refine hK _ ?_;clear hK K
    refine Aw_tx hE [0,1,5,6,7] [] fun K hK=>?_
    simp only [go_sem,reduceIte,Nat.reduceLT,Nat.reduceLeDiff,Nat.reduceEqDiff,Nat.reduceAdd,Nat.reduceMul,Nat.reduceSub,Nat.reduceBEq,Int.reduceToNat,List.reduceReplicate,reduceCtorEq]
    repeat refine sd0 ?_
    refine hK _ (hB8 _ ?_)
    refine Aw_st hE [0,1,5,6,7,34] [] fun K hK=>?_
    simp only [go_sem,reduceIte,Nat.reduceLT,Nat.reduceLeDiff,Nat.reduceEqDiff,Nat.reduceAdd,Nat.reduceMul,Nat.reduceSub,Nat.reduceBEq,Int.reduceToNat,List.reduceReplicate,reduceCtorEq,rows_get l i hil]
    repeat refine sd0 ?_
    refine hK _ (Aw_cond rfl (fun hc12=>?_) (fun hc12=>?_))
    ·have hne:¬ l.getD i 0=x:=by simpa using hc12
     refine Aw_tx hE [0,1,5,6,7] [] fun K hK=>?_
     simp only [go_sem,reduceIte,Nat.reduceLT,Nat.reduceLeDiff,Nat.reduceEqDiff,Nat.reduceAdd,Nat.reduceMul,Nat.reduceSub,Nat.reduceBEq,Int.reduceToNat,List.reduceReplicate,reduceCtorEq,rows_get l i hil,rows_one]
     repeat refine sd0 ?_
     refine hK _ (hN7 _ (hB6 _ ?_))
     refine Aw_tx hE [0,1,5,6,7] [] fun K hK=>?_
     simp only [go_sem,reduceIte,Nat.reduceLT,Nat.reduceLeDiff,Nat.reduceEqDiff,Nat.reduceAdd,Nat.reduceMul,Nat.reduceSub,Nat.reduceBEq,Int.reduceToNat,List.reduceReplicate,reduceCtorEq]
     repeat refine sd0 ?_
     refine hK _ (hN3 ((i + 1,(o++[x]++[l.getD i 0],true))) _ (⟨by omega,by rw [hst,hn,decide_eq_true hle,decide_eq_false hne];rfl,by simp;omega⟩) (by omega) (Le_tk 41 8 rfl))
    ·have hne:l.getD i 0=x:=by simpa using hc12
     refine Aw_skip (hN7 _ (hB6 _ ?_))
     refine Aw_tx hE [0,1,5,6,7] [] fun K hK=>?_
     simp only [go_sem,reduceIte,Nat.reduceLT,Nat.reduceLeDiff,Nat.reduceEqDiff,Nat.reduceAdd,Nat.reduceMul,Nat.reduceSub,Nat.reduceBEq,Int.reduceToNat,List.reduceReplicate,reduceCtorEq]
     repeat refine sd0 ?_
     refine hK _ (hN3 ((i + 1,(o++[x],true))) _ (⟨by omega,by rw [hst,hn,decide_eq_true hle,decide_eq_true hne];simp,by simp;omega⟩) (by omega) (Le_tk 28 8 rfl))
   ·have hle:¬ x≤l.getD i 0:=by simpa using hc11
    refine Aw_skip (hB8 _ ?_)
    refine Aw_st hE [0,1,5,6,7,34] [] fun K hK=>?_
    simp only [go_sem,reduceIte,Nat.reduceLT,Nat.reduceLeDiff,Nat.reduceEqDiff,Nat.reduceAdd,Nat.reduceMul,Nat.reduceSub,Nat.reduceBEq,Int.reduceToNat,List.reduceReplicate,reduceCtorEq,rows_get l i hil]
    repeat refine sd0 ?_
    refine hK _ (Aw_cond rfl (fun hc13=>?_) (fun hc13=>?_))
    ·have hne:¬ l.getD i 0=x:=by simpa using hc13
     refine Aw_tx hE [0,1,5,6,7] [] fun K hK=>?_
     simp only [go_sem,reduceIte,Nat.reduceLT,Nat.reduceLeDiff,Nat.reduceEqDiff,Nat.reduceAdd,Nat.reduceMul,Nat.reduceSub,Nat.reduceBEq,Int.reduceToNat,List.reduceReplicate,reduceCtorEq,rows_get l i hil,rows_one]
     repeat refine sd0 ?_
     refine hK _ (hN7 _ (hB6 _ ?_))
     refine Aw_tx hE [0,1,5,6,7] [] fun K hK=>?_
     simp only [go_sem,reduceIte,Nat.reduceLT,Nat.reduceLeDiff,Nat.reduceEqDiff,Nat.reduceAdd,Nat.reduceMul,Nat.reduceSub,Nat.reduceBEq,Int.reduceToNat,List.reduceReplicate,reduceCtorEq]
     repeat refine sd0 ?_
     refine hK _ (hN3 ((i + 1,(o++[l.getD i 0],n))) _ (⟨by omega,by rw [hst,hn,decide_eq_false hle,decide_eq_false hne];simp,by simp;omega⟩) (by omega) (Le_tk 41 8 rfl))
    ·have hne:l.getD i 0=x:=by simpa using hc13
     refine Aw_skip (hN7 _ (hB6 _ ?_))
     refine Aw_tx hE [0,1,5,6,7] [] fun K hK=>?_
     simp only [go_sem,reduceIte,Nat.reduceLT,Nat.reduceLeDiff,Nat.reduceEqDiff,Nat.reduceAdd,Nat.reduceMul,Nat.reduceSub,Nat.reduceBEq,Int.reduceToNat,List.reduceReplicate,reduceCtorEq]
     repeat refine sd0 ?_
     refine hK _ (hN3 ((i + 1,(o,n))) _ (⟨by omega,by exact absurd (by omega) hle,by omega⟩) (by omega) (Le.refl _))
  ·have hn:n=true:=by simpa using hg10
   repeat refine sd0 ?_
   refine hK _ (Aw_no rfl ?_)
   refine Aw_skip (hB8 _ ?_)
   refine Aw_st hE [0,1,5,6,7,34] [] fun K hK=>?_
   simp only [go_sem,reduceIte,Nat.reduceLT,Nat.reduceLeDiff,Nat.reduceEqDiff,Nat.reduceAdd,Nat.reduceMul,Nat.reduceSub,Nat.reduceBEq,Int.reduceToNat,List.reduceReplicate,reduceCtorEq,rows_get l i hil]
   repeat refine sd0 ?_
   refine hK _ (Aw_cond rfl (fun hc14=>?_) (fun hc14=>?_))
   ·have hne:¬ l.getD i 0=x:=by simpa using hc14
    refine Aw_tx hE [0,1,5,6,7] [] fun K hK=>?_
    simp only [go_sem,reduceIte,Nat.reduceLT,Nat.reduceLeDiff,Nat.reduceEqDiff,Nat.reduceAdd,Nat.reduceMul,Nat.reduceSub,Nat.reduceBEq,Int.reduceToNat,List.reduceReplicate,reduceCtorEq,rows_get l i hil,rows_one]
    repeat refine sd0 ?_
    refine hK _ (hN7 _ (hB6 _ ?_))
    refine Aw_tx hE [0,1,5,6,7] [] fun K hK=>?_
    simp only [go_sem,reduceIte,Nat.reduceLT,Nat.reduceLeDiff,Nat.reduceEqDiff,Nat.reduceAdd,Nat.reduceMul,Nat.reduceSub,Nat.reduceBEq,Int.reduceToNat,List.reduceReplicate,reduceCtorEq]
    repeat refine sd0 ?_
    refine hK _ (hN3 ((i + 1,(o++[l.getD i 0],n))) _ (⟨by omega,by rw [hst,hn,decide_eq_false hne];simp,by simp;omega⟩) (by omega) (Le_tk 41 8 rfl))
   ·have hne:l.getD i 0=x:=by simpa using hc14
    refine Aw_skip (hN7 _ (hB6 _ ?_))
    refine Aw_tx hE [0,1,5,6,7] [] fun K hK=>?_
    simp only [go_sem,reduceIte,Nat.reduceLT,Nat.reduceLeDiff,Nat.reduceEqDiff,Nat.reduceAdd,Nat.reduceMul,Nat.reduceSub,Nat.reduceBEq,Int.reduceToNat,List.reduceReplicate,reduceCtorEq]
    repeat refine sd0 ?_
    refine hK _ (hN3 ((i + 1,(o,n))) _ (⟨by omega,by rw [hst,hn,decide_eq_true hne];simp,by simp only;omega⟩) (by omega) (Le.refl _))
 ·simp only [dfn] at hc5
  obtain ⟨i,o,n⟩:=i
  obtain ⟨hi1,hi2,hi3⟩:=hi
  simp only at hi1 hi2 hi3 hc5 ⊢
  rw [List.take_of_length_le (by omega)] at hi2
  have hmk:mkL l x=if n then o else o++[x]:=by unfold mkL;rw [hi2]
  refine Aw_exit (hX4 _ _ (hX3 _ _ (hE2 _ (hB1 _ ?_))))
  refine Aw_sq fun B15 hB15 hR15 hX15=>?_
  refine Aw_st hE [1,5,43] [] fun K hK=>?_
  simp only [go_sem,reduceIte,Nat.reduceLT,Nat.reduceLeDiff,Nat.reduceEqDiff,Nat.reduceAdd,Nat.reduceMul,Nat.reduceSub,Nat.reduceBEq,Int.reduceToNat,List.reduceReplicate,reduceCtorEq]
  repeat refine sd0 ?_
  refine hK _ (Aw_cond rfl (fun hc16=>?_) (fun hc16=>?_))
  ·have hn:n=false:=by simpa using hc16
   refine Aw_tx hE [5] [] fun K hK=>?_
   simp only [go_sem,reduceIte,Nat.reduceLT,Nat.reduceLeDiff,Nat.reduceEqDiff,Nat.reduceAdd,Nat.reduceMul,Nat.reduceSub,Nat.reduceBEq,Int.reduceToNat,List.reduceReplicate,reduceCtorEq,rows_one]
   repeat refine sd0 ?_
   refine hK _ (hB15 _ ?_)
   refine Aw_st hE [4] [] fun K hK=>?_
   simp only [go_sem,reduceIte,Nat.reduceLT,Nat.reduceLeDiff,Nat.reduceEqDiff,Nat.reduceAdd,Nat.reduceMul,Nat.reduceSub,Nat.reduceBEq,Int.reduceToNat,List.reduceReplicate,reduceCtorEq]
   repeat refine sd0 ?_
   refine hK _ (Aw_ret (hQ _ ?_))
   simp only [go_sem,reduceIte,Nat.reduceLT,Nat.reduceLeDiff,Nat.reduceEqDiff,Nat.reduceAdd,Nat.reduceMul,Nat.reduceSub,Nat.reduceBEq,Int.reduceToNat,List.reduceReplicate,reduceCtorEq]
   rw [hmk,hn];rfl
  ·have hn:n=true:=by simpa using hc16
   refine Aw_skip (hB15 _ ?_)
   refine Aw_st hE [4] [] fun K hK=>?_
   simp only [go_sem,reduceIte,Nat.reduceLT,Nat.reduceLeDiff,Nat.reduceEqDiff,Nat.reduceAdd,Nat.reduceMul,Nat.reduceSub,Nat.reduceBEq,Int.reduceToNat,List.reduceReplicate,reduceCtorEq]
   repeat refine sd0 ?_
   refine hK _ (Aw_ret (hQ _ ?_))
   simp only [go_sem,reduceIte,Nat.reduceLT,Nat.reduceLeDiff,Nat.reduceEqDiff,Nat.reduceAdd,Nat.reduceMul,Nat.reduceSub,Nat.reduceBEq,Int.reduceToNat,List.reduceReplicate,reduceCtorEq]
   rw [hmk,hn];rfl
def gCopyR:List AV→Option (Prop × AV)
 | [.agg [.v (.int .i64 f),.v (.int .i64 b),.sl _ e1,.v (.int .i64 k),.sl _ e2]]=>(match intsL e1,intsL e2 with | some p,some m=>some (p.length≤1000000∧m.length≤1000000,.agg [iv f,iv b,isl p,iv k,isl m]) | _,_=>none)
 | _=>none
def dCopyR:DFn:={ g:=gCopyR }
attribute [go_sem] gCopyR dCopyR
theorem l4Copy_ok:Fine Tryz.prog 60 dCopyR.con:=by
 refine fine_det (T:=TT) Tryz.func60 rfl Tryz.ntmps60 (by rw [Tryz.results60]) rfl rfl tt gs_nil ds_nil ?_
 intro args c r h hc
 simp only [dCopyR,gCopyR] at h
 split at h
 rotate_left
 ·cases h
 split at h
 rotate_left
 ·cases h
 rename_i f b t1 e1 lk t2 e2 _ _ p m hl1 hl2
 obtain rfl:=intsL_eq hl1
 obtain rfl:=intsL_eq hl2
 obtain ⟨rfl,rfl⟩:=Prod.mk.inj (Option.some.inj h)
 refine ⟨by simp,fun k E hE Q hQ=>?_⟩
 refine Aw_st hE [1,2] [1,2] fun K hK=>?_
 simp only [go_sem,reduceIte,Nat.reduceLT,Nat.reduceLeDiff,Nat.reduceEqDiff,Nat.reduceAdd,Nat.reduceMul,Nat.reduceSub,Nat.reduceBEq,Int.reduceToNat,List.reduceReplicate,reduceCtorEq]
 repeat refine sd0 ?_
 refine hK _ ?_;clear hK K
 refine Aw_st hE [1,2] [1,2] fun K hK=>?_
 simp only [go_sem,reduceIte,Nat.reduceLT,Nat.reduceLeDiff,Nat.reduceEqDiff,Nat.reduceAdd,Nat.reduceMul,Nat.reduceSub,Nat.reduceBEq,Int.reduceToNat,List.reduceReplicate,reduceCtorEq]
 repeat refine sd0 ?_
 refine hK _ ?_;clear hK K
 refine Aw_st hE [1,2] [1,2] fun K hK=>?_
 simp only [go_sem,reduceIte,Nat.reduceLT,Nat.reduceLeDiff,Nat.reduceEqDiff,Nat.reduceAdd,Nat.reduceMul,Nat.reduceSub,Nat.reduceBEq,Int.reduceToNat,List.reduceReplicate,reduceCtorEq]
 repeat refine sd0 ?_
 refine hK _ ?_;clear hK K
 refine Aw_st hE [2] [2] fun K hK=>?_
 simp only [go_sem,reduceIte,Nat.reduceLT,Nat.reduceLeDiff,Nat.reduceEqDiff,Nat.reduceAdd,Nat.reduceMul,Nat.reduceSub,Nat.reduceBEq,Int.reduceToNat,List.reduceReplicate,reduceCtorEq]
 repeat refine sd0 ?_
 refine hK _ (Aw_ret (hQ _ ?_))
 simp only [go_sem,reduceIte,Nat.reduceLT,Nat.reduceLeDiff,Nat.reduceEqDiff,Nat.reduceAdd,Nat.reduceMul,Nat.reduceSub,Nat.reduceBEq,Int.reduceToNat,List.reduceReplicate,reduceCtorEq]
def clL (l:List Int) (x:Int):List Int:=l.filter fun y=>!decide (y=x)
theorem clL_step (x:Int) (l:List Int) (i:Nat) (h:i < l.length):clL (l.take (i + 1)) x=clL (l.take i) x++(if decide (l.getD i 0=x) then [] else [l.getD i 0]):=by
 have e:l.getD i 0=l[i]:=by simp [List.getD_eq_getElem?_getD,h]
 unfold clL
 rw [List.take_succ_eq_append_getElem h,List.filter_append,e]
 by_cases hx:l[i]=x<;>simp [hx]
def gCl:List AV→Option (Prop × AV) | [.sl _ els,.v (.int .i64 x)]=>(match intsL els with | some l=>some (l.length≤1000000,isl (clL l x)) | none=>none) | _=>none
def dCl:DFn:={ g:=gCl }
def gClear:List AV→Option (Prop × AV)
 | [.agg [.v (.int .i64 f),.v (.int .i64 b),.sl _ e1,.v (.int .i64 k),.sl _ e2],.v (.int .i64 x)]=>(match intsL e1,intsL e2 with
  | some p,some m=>some (p.length≤1000000∧m.length≤1000000,.tup [if rtOk f b p k m && isM x then .agg [iv f,iv b,isl p,iv k,isl (clL m x)] else .agg [iv 0,iv 0,isl [],iv 0,isl []],bv (rtOk f b p k m && isM x)])
  | _,_=>none)
 | _=>none
def dClear:DFn:={ g:=gClear }
def dClearI (pb:Addr):DFn:={ g:=gClear,inv:=WP pb }
attribute [go_sem] gCl dCl gClear dClear dClearI
theorem l4Clear_ok:Fine Tryz.prog 64 dCl.con:=by
 refine fine_det (T:=TT) Tryz.func64 rfl Tryz.ntmps64 (by rw [Tryz.results64]) rfl rfl tt (gs_nil) (ds_nil) ?_
 intro args c r h hc
 simp only [dCl,gCl] at h
 split at h
 rotate_left
 ·cases h
 split at h
 rotate_left
 ·cases h
 rename_i t els x _ l hl
 obtain rfl:=intsL_eq hl
 obtain ⟨rfl,rfl⟩:=Prod.mk.inj (Option.some.inj h)
 refine ⟨by simp,fun k E hE Q hQ=>?_⟩
 refine Aw_st hE [0,1] [] fun K hK=>?_
 simp only [go_sem,reduceIte,Nat.reduceLT,Nat.reduceLeDiff,Nat.reduceEqDiff,Nat.reduceAdd,Nat.reduceMul,Nat.reduceSub,Nat.reduceBEq,Int.reduceToNat,List.reduceReplicate,reduceCtorEq]
 repeat refine sd0 ?_
 refine hK _ ?_;clear hK K
 refine Aw_st hE [0,1,5] [] fun K hK=>?_
 simp only [go_sem,reduceIte,Nat.reduceLT,Nat.reduceLeDiff,Nat.reduceEqDiff,Nat.reduceAdd,Nat.reduceMul,Nat.reduceSub,Nat.reduceBEq,Int.reduceToNat,List.reduceReplicate,reduceCtorEq]
 repeat refine sd0 ?_
 refine hK _ ?_;clear hK K
 refine Aw_sq fun B1 hB1 hR1 hX1=>?_
 refine Aw_st hE [0,1,5,6] [] fun K hK=>?_
 simp only [go_sem,reduceIte,Nat.reduceLT,Nat.reduceLeDiff,Nat.reduceEqDiff,Nat.reduceAdd,Nat.reduceMul,Nat.reduceSub,Nat.reduceBEq,Int.reduceToNat,List.reduceReplicate,reduceCtorEq]
 repeat refine sd0 ?_
 refine hK _ ?_;clear hK K
 refine Aw_bk fun B2 hN2 hE2 hR2 hX2=>?_
 refine Aw_lp (fun i:Nat × List Int=>⟨28,[(0,isl l),(1,iv x),(5,.sl (some (7,0,3)) (rows i.2)),(6,iv i.1)],[],k⟩) (fun i:Nat × List Int=>i.1≤l.length∧clL (l.take i.1) x=i.2∧i.2.length≤i.1) (fun i:Nat × List Int=>l.length - i.1) ((0,[])) (Le_wk (by first | omega | (dsimp only;omega) | (simp only;omega) | (simp;omega)) (by simp only [go_sem,reduceIte,Nat.reduceLT,Nat.reduceLeDiff,Nat.reduceEqDiff,Nat.reduceAdd,Nat.reduceMul,Nat.reduceSub,Nat.reduceBEq,Int.reduceToNat,List.reduceReplicate,reduceCtorEq];rfl) (by simp only [go_sem,reduceIte,Nat.reduceLT,Nat.reduceLeDiff,Nat.reduceEqDiff,Nat.reduceAdd,Nat.reduceMul,Nat.reduceSub,Nat.reduceBEq,Int.reduceToNat,List.reduceReplicate,reduceCtorEq])) (⟨by omega,rfl,by simp⟩) fun i hi B3 hN3 hR3 hX3=>?_
 refine Aw_sq fun B4 hB4 hR4 hX4=>?_
 refine Aw_st hE [0,1,5,6,11] [] fun K hK=>?_
 simp only [go_sem,reduceIte,Nat.reduceLT,Nat.reduceLeDiff,Nat.reduceEqDiff,Nat.reduceAdd,Nat.reduceMul,Nat.reduceSub,Nat.reduceBEq,Int.reduceToNat,List.reduceReplicate,reduceCtorEq]
 repeat refine sd0 ?_
 refine hK _ (Aw_cond rfl (fun hc5=>?_) (fun hc5=>?_))
 ·simp only [dte] at hc5
  obtain ⟨i,o⟩:=i
  obtain ⟨hi1,hi2,hi3⟩:=hi
  simp only at hi1 hi2 hi3 hc5 ⊢
  have hil:i < l.length:=by omega
  have hst:=clL_step x l i hil
  refine Aw_skip (hB4 _ ?_)
  refine Aw_sq fun B6 hB6 hR6 hX6=>?_
  refine Aw_bk fun B7 hN7 hE7 hR7 hX7=>?_
  refine Aw_st hE [0,1,5,6,19] [] fun K hK=>?_
  simp only [go_sem,reduceIte,Nat.reduceLT,Nat.reduceLeDiff,Nat.reduceEqDiff,Nat.reduceAdd,Nat.reduceMul,Nat.reduceSub,Nat.reduceBEq,Int.reduceToNat,List.reduceReplicate,reduceCtorEq,rows_get l i hil]
  repeat refine sd0 ?_
  refine hK _ (Aw_cond rfl (fun hc8=>?_) (fun hc8=>?_))
  ·have hne:¬ l.getD i 0=x:=by simpa using hc8
   refine Aw_tx hE [0,1,5,6] [] fun K hK=>?_
   simp only [go_sem,reduceIte,Nat.reduceLT,Nat.reduceLeDiff,Nat.reduceEqDiff,Nat.reduceAdd,Nat.reduceMul,Nat.reduceSub,Nat.reduceBEq,Int.reduceToNat,List.reduceReplicate,reduceCtorEq,rows_get l i hil,rows_one]
   repeat refine sd0 ?_
   refine hK _ (hN7 _ (hB6 _ ?_))
   refine Aw_tx hE [0,1,5,6] [] fun K hK=>?_
   simp only [go_sem,reduceIte,Nat.reduceLT,Nat.reduceLeDiff,Nat.reduceEqDiff,Nat.reduceAdd,Nat.reduceMul,Nat.reduceSub,Nat.reduceBEq,Int.reduceToNat,List.reduceReplicate,reduceCtorEq]
   repeat refine sd0 ?_
   refine hK _ (hN3 ((i + 1,o++[l.getD i 0])) _ (⟨by omega,by rw [hst,hi2,decide_eq_false hne];rfl,by simp;omega⟩) (by omega) (Le_tk 26 7 rfl))
  ·have hne:l.getD i 0=x:=by simpa using hc8
   refine Aw_skip (hN7 _ (hB6 _ ?_))
   refine Aw_tx hE [0,1,5,6] [] fun K hK=>?_
   simp only [go_sem,reduceIte,Nat.reduceLT,Nat.reduceLeDiff,Nat.reduceEqDiff,Nat.reduceAdd,Nat.reduceMul,Nat.reduceSub,Nat.reduceBEq,Int.reduceToNat,List.reduceReplicate,reduceCtorEq]
   repeat refine sd0 ?_
   refine hK _ (hN3 ((i + 1,o)) _ (⟨by omega,by rw [hst,hi2,decide_eq_true hne];simp,by simp only;omega⟩) (by omega) (Le.refl _))
 ·simp only [dfn] at hc5
  obtain ⟨i,o⟩:=i
  obtain ⟨hi1,hi2,hi3⟩:=hi
  simp only at hi1 hi2 hi3 hc5 ⊢
  rw [List.take_of_length_le (by omega)] at hi2
  refine Aw_exit (hX4 _ _ (hX3 _ _ (hE2 _ (hB1 _ ?_))))
  refine Aw_st hE [4] [] fun K hK=>?_
  simp only [go_sem,reduceIte,Nat.reduceLT,Nat.reduceLeDiff,Nat.reduceEqDiff,Nat.reduceAdd,Nat.reduceMul,Nat.reduceSub,Nat.reduceBEq,Int.reduceToNat,List.reduceReplicate,reduceCtorEq]
  repeat refine sd0 ?_
  refine hK _ (Aw_ret (hQ _ ?_))
  simp only [go_sem,reduceIte,Nat.reduceLT,Nat.reduceLeDiff,Nat.reduceEqDiff,Nat.reduceAdd,Nat.reduceMul,Nat.reduceSub,Nat.reduceBEq,Int.reduceToNat,List.reduceReplicate,reduceCtorEq]
  rw [hi2]
def gEqC:List AV→Option (Prop × AV) | [.v (.int .i64 y),.el [.v (.int .i64 x)]]=>some (True,bv (decide (y=x))) | _=>none
def dEqC:DFn:={ g:=gEqC }
attribute [go_sem] gEqC dEqC

def gLyI:List AV→Option (Prop × AV) | [.sl _ e1,.sl _ e2]=>(match intsL e1,intsL e2 with | some a,some b=>some (a.length≤4294967296∧b.length≤4294967296,bv (decide (a=b))) | _,_=>none) | _=>none
def dLyI:DFn:={ g:=gLyI }
attribute [go_sem] gLyI dLyI
def gLyR:List AV→Option (Prop × AV)
 | [.agg [.v (.int .i64 f),.v (.int .i64 b),.sl _ e1,.v (.int .i64 k),.sl _ e2],.agg [.v (.int .i64 f'),.v (.int .i64 b'),.sl _ e3,.v (.int .i64 k'),.sl _ e4]]=>(match intsL e1,intsL e2,intsL e3,intsL e4 with
  | some p,some m,some p',some m'=>some ((p.length≤4294967296∧p'.length≤4294967296)∧m.length≤4294967296∧m'.length≤4294967296,bv (decide (f=f'∧b=b'∧p=p'∧k=k'∧m=m')))
  | _,_,_,_=>none)
 | _=>none
def dLyR:DFn:={ g:=gLyR }
attribute [go_sem] gLyR dLyR
def cDRM:Con:={ pre:=codeArg,post:=fun _ r=>∃ (x:Rt) (n:Int),okRt x∧-10≤n∧n≤100∧r = .tup [x.av,iv n] }
theorem cDRM_own:cDRM.own=false:=rfl
theorem cDRM_draws:cDRM.draws=false:=rfl
theorem cDRM_cost:cDRM.cost=0:=rfl
attribute [go_sem] cDRM_own cDRM_draws cDRM_cost
theorem drm_post (args:List AV) (K:AV→Prop):(∀ r,cDRM.post args r→K r)=(∀ (x:Rt) (n:Int),okRt x→-10≤n→n≤100→K (.tup [x.av,iv n])):=by
 apply propext
 exact ⟨fun h x n h1 h2 h3=>h _ ⟨x,n,h1,h2,h3,rfl⟩,fun h r ⟨x,n,h1,h2,h3,e⟩=>e ▸ h x n h1 h2 h3⟩
attribute [go_sem] drm_post
theorem srt_part (x:Int):∀ {l:List Int},l.Pairwise (· < ·)→∃ a b,l=a++b∧(∀ y ∈ a,y < x)∧∀ y ∈ b,x≤y
 | [],_=>⟨[],[],rfl,by simp,by simp⟩
 | y::l,h=>by
  obtain ⟨h1,h2⟩:=List.pairwise_cons.1 h
  by_cases hy:y < x
  ·obtain ⟨a,b,rfl,ha,hb⟩:=srt_part x h2
   exact ⟨y::a,b,rfl,by simp only [List.mem_cons];rintro z (rfl | hz);exact hy;exact ha z hz,hb⟩
  ·exact ⟨[],y::l,rfl,by simp,by simp only [List.mem_cons];rintro z (rfl | hz);omega;have:=h1 z hz;omega⟩
theorem mkL_len {l:List Int} (h:l.Pairwise (· < ·)) (x:Int):(mkL l x).length≤l.length + 1:=by
 obtain ⟨a,b,rfl,ha,hb⟩:=srt_part x h
 rw [mkL_eq x a b ha hb]
 have:=List.length_filter_le (fun y=>!decide (y=x)) b
 simp;omega
theorem clL_len (l:List Int) (x:Int):(clL l x).length≤l.length:=List.length_filter_le _ _
set_option maxRecDepth 100000
structure Cl where
 ci:Int
 n:Int
 f:Int
 b:Int
 ref:Bool
 like:Int
 mark:Int
 clear:Int
def Cl.row (c:Cl):List DV:=[.v (.int .i64 c.ci),.v (.int .i64 c.n),.v (.int .i64 c.f),.v (.int .i64 c.b),.v (.bool c.ref),.v (.int .i64 c.like),.v (.int .i64 c.mark),.v (.int .i64 c.clear)]
abbrev Cl.av (c:Cl):AV:=.agg [iv c.ci,iv c.n,iv c.f,iv c.b,bv c.ref,iv c.like,iv c.mark,iv c.clear]
def crows (l:List Cl):List (List DV):=l.map Cl.row
def rrows (l:List Rt):List (List DV):=l.map Rt.row
def rHas (f b a:Int):Bool:=decide (a.tdiv (szR b)=f.tdiv (szR b))
def rIn (f b f' b':Int):Bool:=decide (b'≤b) && rHas f' b' f
def subOk (ci n f b:Int):Bool :=
 if ci=1 then decide (n=0) && decide (f=0) && decide (b=0)
 else if ci=2 then decide (n=0) && rngOk f b
 else if ci=3 then isM n && decide (f=0) && decide (b=0)
 else if ci=4∨ci=5 then isH n && decide (f=0) && decide (b=0) else false
def clOk (c:Cl):Bool:=(decide (-1≤c.like) && decide (c.like≤9)) && (decide (0≤c.mark) && decide (c.mark≤9)) && (decide (0≤c.clear) && decide (c.clear≤9)) && subOk c.ci c.n c.f c.b
def fitsB (c:Cl) (r:Rt):Bool :=
 if c.ci=2 then rIn r.f r.b c.f c.b
 else if c.ci=3 then r.marks.contains c.n
 else if c.ci=4 then r.path.contains c.n
 else if c.ci=5 then decide ((r.path.length:Int)≤c.n) else true
def okR (r:Rt):Bool:=rtOk r.f r.b r.path r.like r.marks
def marksC (c:Cl) (m:List Int):List Int:=if 0 < c.clear then clL (if 0 < c.mark then mkL m c.mark else m) c.clear else (if 0 < c.mark then mkL m c.mark else m)
def doC (c:Cl) (r:Rt):Rt:=⟨r.f,r.b,r.path,if 0≤c.like then c.like else r.like,marksC c r.marks⟩
def polOk (l:List Cl):Bool:=decide (l.length≤5) && l.all clOk
def polDo:List Cl→Rt→Option Rt
 | [],_=>none
 | c::l,r=>if fitsB c r then (if c.ref then none else some (doC c r)) else polDo l r
def policyDo (l:List Cl) (r:Rt):Option Rt:=if polOk l && okR r then polDo l r else none
theorem okR_parts {r:Rt} (h:okR r=true):rngOk r.f r.b=true∧0 < r.path.length∧pathOk r.path=true∧(0≤r.like∧r.like≤9)∧mOk r.marks=true:=by
 simp only [okR,rtOk,Bool.and_eq_true,dte] at h
 exact ⟨h.1,h.2.1,h.2.2.1,⟨h.2.2.2.1,h.2.2.2.2.1⟩,h.2.2.2.2.2⟩
theorem clOk_parts {c:Cl} (h:clOk c=true):(-1≤c.like∧c.like≤9)∧(0≤c.mark∧c.mark≤9)∧(0≤c.clear∧c.clear≤9)∧subOk c.ci c.n c.f c.b=true:=by
 simp only [clOk,Bool.and_eq_true,dte] at h
 exact ⟨h.1.1.1,h.1.1.2,h.1.2,h.2⟩
theorem polDo_some:∀ {l:List Cl} {r x:Rt},polDo l r=some x→∃ c ∈ l,fitsB c r=true∧c.ref=false∧x=doC c r
 | [],_,_,h=>by simp [polDo] at h
 | c::l,r,x,h=>by
  rw [polDo] at h
  cases hf:fitsB c r with
  | true =>
   rw [hf,if_pos rfl] at h
   cases hr:c.ref with
   | true=>rw [hr] at h;simp at h
   | false=>rw [hr] at h;exact ⟨c,by simp,hf,hr,by simpa using h.symm⟩
  | false =>
   rw [hf] at h
   obtain ⟨d,hd,h2⟩:=polDo_some (l:=l) (by simpa using h)
   exact ⟨d,by simp [hd],h2⟩
def polAll (l:List Cl) (rs:List Rt):List Rt:=if polOk l && rs.all okR then rs.filterMap (polDo l) else []
def clsL:List (List DV)→Option (List Cl)
 | []=>some []
 | [.v (.int .i64 ci),.v (.int .i64 n),.v (.int .i64 f),.v (.int .i64 b),.v (.bool ref),.v (.int .i64 like),.v (.int .i64 mark),.v (.int .i64 clear)]::l=>match clsL l with
  | some r=>some (⟨ci,n,f,b,ref,like,mark,clear⟩::r)
  | none=>none
 | _=>none
theorem crows_nil:crows []=[]:=rfl
theorem crows_cons (c:Cl) (l:List Cl):crows (c::l)=c.row::crows l:=rfl
theorem clsL_rows (l:List Cl):clsL (crows l)=some l:=by
 induction l with
 | nil=>rfl
 | cons n l ih=>simp only [crows_cons,Cl.row,clsL,ih]
theorem clsL_eq {els:List (List DV)}:∀ {l:List Cl},clsL els=some l→els=crows l:=by
 induction els with
 | nil=>intro l h;obtain rfl:=Option.some.inj h;rfl
 | cons row els ih =>
  intro l h
  unfold clsL at h
  split at h
  ·rename_i e;cases e
  ·rename_i l' e
   obtain ⟨rfl,rfl⟩:=List.cons.inj e
   split at h
   ·rename_i r hr
    obtain rfl:=Option.some.inj h
    rw [ih hr];rfl
   ·cases h
  ·cases h
theorem crows_len (l:List Cl):(crows l).length=l.length:=by simp [crows]
theorem crows_get (l:List Cl) (i:Nat) (h:i < l.length):(crows l)[i]? = some (l[i]).row:=by simp [crows,h]
theorem crows_app (a b:List Cl):crows a++crows b=crows (a++b):=by simp [crows]
theorem crows_row (l:List Cl):∀ row ∈ crows l,row.length=8:=by simp [crows,Cl.row]
theorem crows_one (ci n f b:Int) (ref:Bool) (like mark clear:Int):[[DV.v (.int .i64 ci),.v (.int .i64 n),.v (.int .i64 f),.v (.int .i64 b),.v (.bool ref),.v (.int .i64 like),.v (.int .i64 mark),.v (.int .i64 clear)]]=crows [⟨ci,n,f,b,ref,like,mark,clear⟩]:=rfl
attribute [go_sem] clsL_rows crows_len crows_nil crows_app Cl.row
def rtsL:List (List DV)→Option (List Rt)
 | []=>some []
 | [.v (.int .i64 f),.v (.int .i64 b),.sl e1,.v (.int .i64 like),.sl e2]::l=>match intsL e1,intsL e2,rtsL l with
  | some p,some m,some r=>some (⟨f,b,p,like,m⟩::r)
  | _,_,_=>none
 | _=>none
theorem rrows_nil:rrows []=[]:=rfl
theorem rrows_cons (c:Rt) (l:List Rt):rrows (c::l)=c.row::rrows l:=rfl
theorem rtsL_rows (l:List Rt):rtsL (rrows l)=some l:=by
 induction l with
 | nil=>rfl
 | cons n l ih=>simp only [rrows_cons,Rt.row,rtsL,ih,intsL_rows]
theorem rtsL_eq {els:List (List DV)}:∀ {l:List Rt},rtsL els=some l→els=rrows l:=by
 induction els with
 | nil=>intro l h;obtain rfl:=Option.some.inj h;rfl
 | cons row els ih =>
  intro l h
  unfold rtsL at h
  split at h
  ·rename_i e;cases e
  ·rename_i l' e
   obtain ⟨rfl,rfl⟩:=List.cons.inj e
   split at h
   ·rename_i p m r hp hm hr
    obtain rfl:=Option.some.inj h
    rw [ih hr,intsL_eq hp,intsL_eq hm];rfl
   ·cases h
  ·cases h
theorem rrows_len (l:List Rt):(rrows l).length=l.length:=by simp [rrows]
theorem rrows_get (l:List Rt) (i:Nat) (h:i < l.length):(rrows l)[i]? = some (l[i]).row:=by simp [rrows,h]
theorem rrows_app (a b:List Rt):rrows a++rrows b=rrows (a++b):=by simp [rrows]
theorem rrows_row (l:List Rt):∀ row ∈ rrows l,row.length=5:=by simp [rrows,Rt.row]
theorem rrows_one (f b:Int) (p:List Int) (like:Int) (m:List Int):[[DV.v (.int .i64 f),.v (.int .i64 b),.sl (rows p),.v (.int .i64 like),.sl (rows m)]]=rrows [⟨f,b,p,like,m⟩]:=rfl
attribute [go_sem] rtsL_rows rrows_len rrows_nil rrows_app Rt.row
def cClauseD:Con:={ pre:=fun args=>args=[.rd],post:=fun _ r=>∃ c:Cl,r=c.av,cost:=16,draws:=true }
theorem cClauseD_own:cClauseD.own=false:=rfl
theorem cClauseD_draws:cClauseD.draws=true:=rfl
theorem cClauseD_cost:cClauseD.cost=16:=rfl
attribute [go_sem] cClauseD_own cClauseD_draws cClauseD_cost
theorem clauseD_pre:cClauseD.pre [.rd]=True:=by simp [cClauseD]
theorem clauseD_post (args:List AV) (K:AV→Prop):(∀ r,cClauseD.post args r→K r)=(∀ c:Cl,K c.av):=by
 apply propext
 exact ⟨fun h p=>h _ ⟨p,rfl⟩,fun h r ⟨p,e⟩=>e ▸ h p⟩
theorem clauseD_ex (args:List AV):(∃ r,cClauseD.post args r)=True:=eq_true ⟨_,⟨0,0,0,0,false,0,0,0⟩,rfl⟩
attribute [go_sem] clauseD_pre clauseD_post clauseD_ex
theorem l91Clause_ok:Fine Tryz.prog 43 cClauseD:=by
 refine fine_of (T:=TT) Tryz.func43 rfl Tryz.ntmps43 (by rw [Tryz.results43]) rfl rfl tt (gs_cons l91Range_ok (gs_cons pick_ok gs_nil)) (ds_nil) ?_
 rintro args rfl
 refine ⟨by simp,fun k hk E hE Q hQ=>?_⟩
 have hk:=hk rfl
 simp only [go_sem] at hk
 refine Aw_st hE [0,2] [2] fun K hK=>?_
 simp only [go_sem,reduceIte,Nat.reduceLT,Nat.reduceLeDiff,Nat.reduceEqDiff,Nat.reduceAdd,Nat.reduceMul,Nat.reduceSub,Nat.reduceBEq,Int.reduceToNat,List.reduceReplicate,reduceCtorEq]
 repeat refine sd0 ?_
 refine hK _ ?_;clear hK K
 refine Aw_st hE [0,2,3] [2,3] fun K hK=>?_
 simp only [go_sem,reduceIte,Nat.reduceLT,Nat.reduceLeDiff,Nat.reduceEqDiff,Nat.reduceAdd,Nat.reduceMul,Nat.reduceSub,Nat.reduceBEq,Int.reduceToNat,List.reduceReplicate,reduceCtorEq]
 repeat refine sd0 ?_
 repeat' (first | (refine And.intro (by first | omega | decide) ?_) | intro)
 rename_i ci0 h1 h2 rf0 h3 h4 lk0 h5 h6 mk0 h7 h8 cl0 h9 h10
 refine hK _ ?_;clear hK K
 refine Aw_sqJ (fun q:Int × Int × Int=>⟨49,[(0,.rd),(2,.loc 2 0),(3,.loc 3 0)],[(2,[iv 0,iv 0,iv 0,iv 0,bv false,iv 0,iv 0,iv 0]),(3,[iv (1 + ci0),iv q.1,iv q.2.1,iv q.2.2,bv (decide (rf0=0)),iv (lk0 - 1),iv mk0,iv cl0])],k + 13⟩) (fun q:Int × Int × Int=>True) (fun i hi=>?_) fun B1 hB1 hR1 hX1=>?_
 ·refine Aw_sq fun B2 hB2 hR2 hX2=>?_
  refine Aw_st hE [0,2,3,34] [2,3] fun K hK=>?_
  simp only [go_sem,reduceIte,Nat.reduceLT,Nat.reduceLeDiff,Nat.reduceEqDiff,Nat.reduceAdd,Nat.reduceMul,Nat.reduceSub,Nat.reduceBEq,Int.reduceToNat,List.reduceReplicate,reduceCtorEq]
  repeat refine sd0 ?_
  repeat' (first | (refine And.intro (by first | omega | decide) ?_) | intro)
  refine hK _ ?_;clear hK K
  refine Aw_bk fun B3 hN3 hE3 hR3 hX3=>?_
  refine Aw_st hE [0,2,3,34,35] [2,3] fun K hK=>?_
  simp only [go_sem,reduceIte,Nat.reduceLT,Nat.reduceLeDiff,Nat.reduceEqDiff,Nat.reduceAdd,Nat.reduceMul,Nat.reduceSub,Nat.reduceBEq,Int.reduceToNat,List.reduceReplicate,reduceCtorEq]
  repeat refine sd0 ?_
  refine hK _ (Aw_cond rfl (fun hc4=>?_) (fun hc4=>?_))
  ·refine Aw_tx hE [2,3] [2,3] fun K hK=>?_
   simp only [go_sem,reduceIte,Nat.reduceLT,Nat.reduceLeDiff,Nat.reduceEqDiff,Nat.reduceAdd,Nat.reduceMul,Nat.reduceSub,Nat.reduceBEq,Int.reduceToNat,List.reduceReplicate,reduceCtorEq]
   repeat refine sd0 ?_
   repeat' (first | (refine And.intro (by first | omega | decide) ?_) | intro)
   refine hK _ (hN3 _ (hB2 _ ?_))
   refine Aw_st hE [2] [2] fun K hK=>?_
   simp only [go_sem,reduceIte,Nat.reduceLT,Nat.reduceLeDiff,Nat.reduceEqDiff,Nat.reduceAdd,Nat.reduceMul,Nat.reduceSub,Nat.reduceBEq,Int.reduceToNat,List.reduceReplicate,reduceCtorEq]
   repeat refine sd0 ?_
   refine hK _ (Aw_ret (hQ _ ?_))
   simp only [go_sem,reduceIte,Nat.reduceLT,Nat.reduceLeDiff,Nat.reduceEqDiff,Nat.reduceAdd,Nat.reduceMul,Nat.reduceSub,Nat.reduceBEq,Int.reduceToNat,List.reduceReplicate,reduceCtorEq]
   exact ⟨by omega,⟨_,_,_,_,_,_,_,_⟩,rfl⟩
  ·refine Aw_st hE [0,2,3,34,40] [2,3] fun K hK=>?_
   simp only [go_sem,reduceIte,Nat.reduceLT,Nat.reduceLeDiff,Nat.reduceEqDiff,Nat.reduceAdd,Nat.reduceMul,Nat.reduceSub,Nat.reduceBEq,Int.reduceToNat,List.reduceReplicate,reduceCtorEq]
   repeat refine sd0 ?_
   refine hK _ (Aw_cond rfl (fun hc5=>?_) (fun hc5=>?_))
   ·refine Aw_tx hE [2,3] [2,3] fun K hK=>?_
    simp only [go_sem,reduceIte,Nat.reduceLT,Nat.reduceLeDiff,Nat.reduceEqDiff,Nat.reduceAdd,Nat.reduceMul,Nat.reduceSub,Nat.reduceBEq,Int.reduceToNat,List.reduceReplicate,reduceCtorEq]
    repeat refine sd0 ?_
    refine hK _ (hN3 _ (hB2 _ ?_))
    refine Aw_st hE [2] [2] fun K hK=>?_
    simp only [go_sem,reduceIte,Nat.reduceLT,Nat.reduceLeDiff,Nat.reduceEqDiff,Nat.reduceAdd,Nat.reduceMul,Nat.reduceSub,Nat.reduceBEq,Int.reduceToNat,List.reduceReplicate,reduceCtorEq]
    repeat refine sd0 ?_
    refine hK _ (Aw_ret (hQ _ ?_))
    simp only [go_sem,reduceIte,Nat.reduceLT,Nat.reduceLeDiff,Nat.reduceEqDiff,Nat.reduceAdd,Nat.reduceMul,Nat.reduceSub,Nat.reduceBEq,Int.reduceToNat,List.reduceReplicate,reduceCtorEq]
    exact ⟨by omega,⟨_,_,_,_,_,_,_,_⟩,rfl⟩
   ·refine Aw_st hE [0,2,3,43] [2,3] fun K hK=>?_
    simp only [go_sem,reduceIte,Nat.reduceLT,Nat.reduceLeDiff,Nat.reduceEqDiff,Nat.reduceAdd,Nat.reduceMul,Nat.reduceSub,Nat.reduceBEq,Int.reduceToNat,List.reduceReplicate,reduceCtorEq]
    repeat refine sd0 ?_
    refine hK _ (Aw_cond rfl (fun hc6=>?_) (fun hc6=>?_))
    ·refine Aw_tx hE [2,3] [2,3] fun K hK=>?_
     simp only [go_sem,reduceIte,Nat.reduceLT,Nat.reduceLeDiff,Nat.reduceEqDiff,Nat.reduceAdd,Nat.reduceMul,Nat.reduceSub,Nat.reduceBEq,Int.reduceToNat,List.reduceReplicate,reduceCtorEq]
     repeat refine sd0 ?_
     repeat' (first | (refine And.intro (by first | omega | decide) ?_) | intro)
     refine hK _ (hN3 _ (hB2 _ ?_))
     refine Aw_st hE [2] [2] fun K hK=>?_
     simp only [go_sem,reduceIte,Nat.reduceLT,Nat.reduceLeDiff,Nat.reduceEqDiff,Nat.reduceAdd,Nat.reduceMul,Nat.reduceSub,Nat.reduceBEq,Int.reduceToNat,List.reduceReplicate,reduceCtorEq]
     repeat refine sd0 ?_
     refine hK _ (Aw_ret (hQ _ ?_))
     simp only [go_sem,reduceIte,Nat.reduceLT,Nat.reduceLeDiff,Nat.reduceEqDiff,Nat.reduceAdd,Nat.reduceMul,Nat.reduceSub,Nat.reduceBEq,Int.reduceToNat,List.reduceReplicate,reduceCtorEq]
     exact ⟨by omega,⟨_,_,_,_,_,_,_,_⟩,rfl⟩
    ·refine Aw_skip (hN3 _ (hB2 _ ?_))
     refine Aw_st hE [2] [2] fun K hK=>?_
     simp only [go_sem,reduceIte,Nat.reduceLT,Nat.reduceLeDiff,Nat.reduceEqDiff,Nat.reduceAdd,Nat.reduceMul,Nat.reduceSub,Nat.reduceBEq,Int.reduceToNat,List.reduceReplicate,reduceCtorEq]
     repeat refine sd0 ?_
     refine hK _ (Aw_ret (hQ _ ?_))
     simp only [go_sem,reduceIte,Nat.reduceLT,Nat.reduceLeDiff,Nat.reduceEqDiff,Nat.reduceAdd,Nat.reduceMul,Nat.reduceSub,Nat.reduceBEq,Int.reduceToNat,List.reduceReplicate,reduceCtorEq]
     exact ⟨by omega,⟨_,_,_,_,_,_,_,_⟩,rfl⟩
 refine Aw_st hE [0,2,3,19] [2,3] fun K hK=>?_
 simp only [go_sem,reduceIte,Nat.reduceLT,Nat.reduceLeDiff,Nat.reduceEqDiff,Nat.reduceAdd,Nat.reduceMul,Nat.reduceSub,Nat.reduceBEq,Int.reduceToNat,List.reduceReplicate,reduceCtorEq]
 repeat refine sd0 ?_
 refine hK _ ?_;clear hK K
 refine Aw_bk fun B7 hN7 hE7 hR7 hX7=>?_
 refine Aw_st hE [0,2,3,19,20] [2,3] fun K hK=>?_
 simp only [go_sem,reduceIte,Nat.reduceLT,Nat.reduceLeDiff,Nat.reduceEqDiff,Nat.reduceAdd,Nat.reduceMul,Nat.reduceSub,Nat.reduceBEq,Int.reduceToNat,List.reduceReplicate,reduceCtorEq]
 repeat refine sd0 ?_
 refine hK _ (Aw_cond rfl (fun hc8=>?_) (fun hc8=>?_))
 ·refine Aw_tx hE [0,2,3] [2,3] fun K hK=>?_
  simp only [go_sem,reduceIte,Nat.reduceLT,Nat.reduceLeDiff,Nat.reduceEqDiff,Nat.reduceAdd,Nat.reduceMul,Nat.reduceSub,Nat.reduceBEq,Int.reduceToNat,List.reduceReplicate,reduceCtorEq]
  repeat refine sd0 ?_
  repeat' (first | (refine And.intro (by first | omega | decide) ?_) | intro)
  rename_i f b hfb
  refine hK _ (hN7 _ (hB1 ((0,f,b)) _ (trivial) ((Le_wc (by simp only [go_sem,reduceIte,Nat.reduceLT,Nat.reduceLeDiff,Nat.reduceEqDiff,Nat.reduceAdd,Nat.reduceMul,Nat.reduceSub,Nat.reduceBEq,Int.reduceToNat,List.reduceReplicate,reduceCtorEq]) (by simp only [go_sem,reduceIte,Nat.reduceLT,Nat.reduceLeDiff,Nat.reduceEqDiff,Nat.reduceAdd,Nat.reduceMul,Nat.reduceSub,Nat.reduceBEq,Int.reduceToNat,List.reduceReplicate,reduceCtorEq])) E)))
 ·refine Aw_sq fun B9 hB9 hR9 hX9=>?_
  refine Aw_st hE [0,2,3,19,25] [2,3] fun K hK=>?_
  simp only [go_sem,reduceIte,Nat.reduceLT,Nat.reduceLeDiff,Nat.reduceEqDiff,Nat.reduceAdd,Nat.reduceMul,Nat.reduceSub,Nat.reduceBEq,Int.reduceToNat,List.reduceReplicate,reduceCtorEq]
  repeat refine sd0 ?_
  refine hK _ (Aw_cond rfl (fun hc10=>?_) (fun hc10=>?_))
  ·refine Aw_skip (hB9 _ ?_)
   refine Aw_cond rfl (fun hc11=>?_) (fun hc11=>?_)
   ·refine Aw_tx hE [0,2,3] [2,3] fun K hK=>?_
    simp only [go_sem,reduceIte,Nat.reduceLT,Nat.reduceLeDiff,Nat.reduceEqDiff,Nat.reduceAdd,Nat.reduceMul,Nat.reduceSub,Nat.reduceBEq,Int.reduceToNat,List.reduceReplicate,reduceCtorEq]
    repeat refine sd0 ?_
    repeat' (first | (refine And.intro (by first | omega | decide) ?_) | intro)
    rename_i n hn1 hn2
    refine hK _ (hN7 _ (hB1 ((1 + n,0,0)) _ (trivial) ((Le_wc (by simp only [go_sem,reduceIte,Nat.reduceLT,Nat.reduceLeDiff,Nat.reduceEqDiff,Nat.reduceAdd,Nat.reduceMul,Nat.reduceSub,Nat.reduceBEq,Int.reduceToNat,List.reduceReplicate,reduceCtorEq]) (by simp only [go_sem,reduceIte,Nat.reduceLT,Nat.reduceLeDiff,Nat.reduceEqDiff,Nat.reduceAdd,Nat.reduceMul,Nat.reduceSub,Nat.reduceBEq,Int.reduceToNat,List.reduceReplicate,reduceCtorEq])) E)))
   ·refine Aw_skip (hN7 _ (hB1 ((0,0,0)) _ (trivial) ((Le_wc (by simp only [go_sem,reduceIte,Nat.reduceLT,Nat.reduceLeDiff,Nat.reduceEqDiff,Nat.reduceAdd,Nat.reduceMul,Nat.reduceSub,Nat.reduceBEq,Int.reduceToNat,List.reduceReplicate,reduceCtorEq]) (by simp only [go_sem,reduceIte,Nat.reduceLT,Nat.reduceLeDiff,Nat.reduceEqDiff,Nat.reduceAdd,Nat.reduceMul,Nat.reduceSub,Nat.reduceBEq,Int.reduceToNat,List.reduceReplicate,reduceCtorEq])) E)))
  ·refine Aw_st hE [0,2,3,19,25] [2,3] fun K hK=>?_
   simp only [go_sem,reduceIte,Nat.reduceLT,Nat.reduceLeDiff,Nat.reduceEqDiff,Nat.reduceAdd,Nat.reduceMul,Nat.reduceSub,Nat.reduceBEq,Int.reduceToNat,List.reduceReplicate,reduceCtorEq]
   repeat refine sd0 ?_
   refine hK _ (Aw_cond rfl (fun hc12=>?_) (fun hc12=>?_))
   ·refine Aw_skip (hB9 _ ?_)
    refine Aw_cond rfl (fun hc13=>?_) (fun hc13=>?_)
    ·refine Aw_tx hE [0,2,3] [2,3] fun K hK=>?_
     simp only [go_sem,reduceIte,Nat.reduceLT,Nat.reduceLeDiff,Nat.reduceEqDiff,Nat.reduceAdd,Nat.reduceMul,Nat.reduceSub,Nat.reduceBEq,Int.reduceToNat,List.reduceReplicate,reduceCtorEq]
     repeat refine sd0 ?_
     repeat' (first | (refine And.intro (by first | omega | decide) ?_) | intro)
     rename_i n hn1 hn2
     refine hK _ (hN7 _ (hB1 ((1 + n,0,0)) _ (trivial) ((Le_wc (by simp only [go_sem,reduceIte,Nat.reduceLT,Nat.reduceLeDiff,Nat.reduceEqDiff,Nat.reduceAdd,Nat.reduceMul,Nat.reduceSub,Nat.reduceBEq,Int.reduceToNat,List.reduceReplicate,reduceCtorEq]) (by simp only [go_sem,reduceIte,Nat.reduceLT,Nat.reduceLeDiff,Nat.reduceEqDiff,Nat.reduceAdd,Nat.reduceMul,Nat.reduceSub,Nat.reduceBEq,Int.reduceToNat,List.reduceReplicate,reduceCtorEq])) E)))
    ·refine Aw_skip (hN7 _ (hB1 ((0,0,0)) _ (trivial) ((Le_wc (by simp only [go_sem,reduceIte,Nat.reduceLT,Nat.reduceLeDiff,Nat.reduceEqDiff,Nat.reduceAdd,Nat.reduceMul,Nat.reduceSub,Nat.reduceBEq,Int.reduceToNat,List.reduceReplicate,reduceCtorEq]) (by simp only [go_sem,reduceIte,Nat.reduceLT,Nat.reduceLeDiff,Nat.reduceEqDiff,Nat.reduceAdd,Nat.reduceMul,Nat.reduceSub,Nat.reduceBEq,Int.reduceToNat,List.reduceReplicate,reduceCtorEq])) E)))
   ·refine Aw_tx hE [0,2,3,25] [2,3] fun K hK=>?_
    simp only [go_sem,reduceIte,Nat.reduceLT,Nat.reduceLeDiff,Nat.reduceEqDiff,Nat.reduceAdd,Nat.reduceMul,Nat.reduceSub,Nat.reduceBEq,Int.reduceToNat,List.reduceReplicate,reduceCtorEq]
    repeat refine sd0 ?_
    refine hK _ (hB9 _ ?_)
    refine Aw_cond rfl (fun hc14=>?_) (fun hc14=>?_)
    ·refine Aw_tx hE [0,2,3] [2,3] fun K hK=>?_
     simp only [go_sem,reduceIte,Nat.reduceLT,Nat.reduceLeDiff,Nat.reduceEqDiff,Nat.reduceAdd,Nat.reduceMul,Nat.reduceSub,Nat.reduceBEq,Int.reduceToNat,List.reduceReplicate,reduceCtorEq]
     repeat refine sd0 ?_
     repeat' (first | (refine And.intro (by first | omega | decide) ?_) | intro)
     rename_i n hn1 hn2
     refine hK _ (hN7 _ (hB1 ((1 + n,0,0)) _ (trivial) ((Le_wc (by simp only [go_sem,reduceIte,Nat.reduceLT,Nat.reduceLeDiff,Nat.reduceEqDiff,Nat.reduceAdd,Nat.reduceMul,Nat.reduceSub,Nat.reduceBEq,Int.reduceToNat,List.reduceReplicate,reduceCtorEq]) (by simp only [go_sem,reduceIte,Nat.reduceLT,Nat.reduceLeDiff,Nat.reduceEqDiff,Nat.reduceAdd,Nat.reduceMul,Nat.reduceSub,Nat.reduceBEq,Int.reduceToNat,List.reduceReplicate,reduceCtorEq])) E)))
    ·refine Aw_skip (hN7 _ (hB1 ((0,0,0)) _ (trivial) ((Le_wc (by simp only [go_sem,reduceIte,Nat.reduceLT,Nat.reduceLeDiff,Nat.reduceEqDiff,Nat.reduceAdd,Nat.reduceMul,Nat.reduceSub,Nat.reduceBEq,Int.reduceToNat,List.reduceReplicate,reduceCtorEq]) (by simp only [go_sem,reduceIte,Nat.reduceLT,Nat.reduceLeDiff,Nat.reduceEqDiff,Nat.reduceAdd,Nat.reduceMul,Nat.reduceSub,Nat.reduceBEq,Int.reduceToNat,List.reduceReplicate,reduceCtorEq])) E)))
def cPolD:Con:={ pre:=fun args=>args=[.rd],post:=fun _ r=>∃ l:List Cl,l.length≤4∧r = .sl none (crows l),cost:=60,draws:=true }
theorem cPolD_own:cPolD.own=false:=rfl
theorem cPolD_draws:cPolD.draws=true:=rfl
theorem cPolD_cost:cPolD.cost=60:=rfl
attribute [go_sem] cPolD_own cPolD_draws cPolD_cost
theorem polD_pre:cPolD.pre [.rd]=True:=by simp [cPolD]
theorem polD_post (args:List AV) (K:AV→Prop):(∀ r,cPolD.post args r→K r)=(∀ l:List Cl,l.length≤4→K (.sl none (crows l))):=by
 apply propext
 exact ⟨fun h p hp=>h _ ⟨p,hp,rfl⟩,fun h r ⟨p,hp,e⟩=>e ▸ h p hp⟩
theorem polD_ex (args:List AV):(∃ r,cPolD.post args r)=True:=eq_true ⟨_,[],by simp,rfl⟩
attribute [go_sem] polD_pre polD_post polD_ex
theorem l91Policy_ok:Fine Tryz.prog 20 cPolD:=by
 refine fine_of (T:=TT) Tryz.func20 rfl Tryz.ntmps20 (by rw [Tryz.results20]) rfl rfl tt (gs_cons pick_ok (gs_cons l91Clause_ok gs_nil)) (ds_nil) ?_
 rintro args rfl
 refine ⟨by simp,fun k hk E hE Q hQ=>?_⟩
 have hk:=hk rfl
 simp only [go_sem] at hk
 refine Aw_st hE [0] [] fun K hK=>?_
 simp only [go_sem,reduceIte,Nat.reduceLT,Nat.reduceLeDiff,Nat.reduceEqDiff,Nat.reduceAdd,Nat.reduceMul,Nat.reduceSub,Nat.reduceBEq,Int.reduceToNat,List.reduceReplicate,reduceCtorEq]
 repeat refine sd0 ?_
 refine hK _ ?_;clear hK K
 refine Aw_st hE [0,3] [] fun K hK=>?_
 simp only [go_sem,reduceIte,Nat.reduceLT,Nat.reduceLeDiff,Nat.reduceEqDiff,Nat.reduceAdd,Nat.reduceMul,Nat.reduceSub,Nat.reduceBEq,Int.reduceToNat,List.reduceReplicate,reduceCtorEq]
 repeat refine sd0 ?_
 refine hK _ ?_;clear hK K
 refine Aw_sq fun B1 hB1 hR1 hX1=>?_
 refine Aw_st hE [0,3,4] [] fun K hK=>?_
 simp only [go_sem,reduceIte,Nat.reduceLT,Nat.reduceLeDiff,Nat.reduceEqDiff,Nat.reduceAdd,Nat.reduceMul,Nat.reduceSub,Nat.reduceBEq,Int.reduceToNat,List.reduceReplicate,reduceCtorEq]
 repeat refine sd0 ?_
 repeat' (first | (refine And.intro (by first | omega | decide) ?_) | intro)
 rename_i n0 hn1 hn2
 refine hK _ ?_;clear hK K
 refine Aw_bk fun B2 hN2 hE2 hR2 hX2=>?_
 refine Aw_lp (fun (i:List Cl × Int)=>⟨25,[(0,.rd),(3,.sl (some (5,0,77)) (crows i.1)),(4,iv i.2)],[],k + 55 - 16 * i.2.toNat⟩) (fun (i:List Cl × Int)=>i.1.length + i.2≤3∧0≤i.2) (fun (i:List Cl × Int)=>i.2.toNat) (([],n0)) (Le_rn (by first | omega | (dsimp only;omega) | (simp only;omega) | (simp;omega))) (⟨by simp;omega,by simp;omega⟩) fun i hi B3 hN3 hR3 hX3=>?_
 refine Aw_sq fun B4 hB4 hR4 hX4=>?_
 refine Aw_st hE [0,3,4,9] [] fun K hK=>?_
 simp only [go_sem,reduceIte,Nat.reduceLT,Nat.reduceLeDiff,Nat.reduceEqDiff,Nat.reduceAdd,Nat.reduceMul,Nat.reduceSub,Nat.reduceBEq,Int.reduceToNat,List.reduceReplicate,reduceCtorEq]
 repeat refine sd0 ?_
 refine hK _ (Aw_cond rfl (fun hc5=>?_) (fun hc5=>?_))
 ·simp only [dte] at hc5
  refine Aw_skip (hB4 _ ?_)
  refine Aw_sq fun B6 hB6 hR6 hX6=>?_
  refine Aw_bk fun B7 hN7 hE7 hR7 hX7=>?_
  refine Aw_tx hE [0,3,4] [] fun K hK=>?_
  simp only [go_sem,reduceIte,Nat.reduceLT,Nat.reduceLeDiff,Nat.reduceEqDiff,Nat.reduceAdd,Nat.reduceMul,Nat.reduceSub,Nat.reduceBEq,Int.reduceToNat,List.reduceReplicate,reduceCtorEq,crows_one]
  repeat refine sd0 ?_
  intro c
  refine ⟨⟨crows_row _,by omega⟩,?_⟩
  refine hK _ (hN7 _ (hB6 _ ?_))
  refine Aw_tx hE [0,3,4] [] fun K hK=>?_
  simp only [go_sem,reduceIte,Nat.reduceLT,Nat.reduceLeDiff,Nat.reduceEqDiff,Nat.reduceAdd,Nat.reduceMul,Nat.reduceSub,Nat.reduceBEq,Int.reduceToNat,List.reduceReplicate,reduceCtorEq]
  repeat refine sd0 ?_
  refine hK _ (hN3 ((i.1++[c],i.2 - 1)) _ (⟨by simp;omega,by first | omega | (dsimp only;omega) | (simp only;omega) | (simp;omega)⟩) (by first | omega | (dsimp only;omega) | (simp only;omega) | (simp;omega)) ((Le_tk 16 5 rfl).trans (Le_rn (by first | omega | (dsimp only;omega) | (simp only;omega) | (simp;omega)))))
 ·simp only [dfn] at hc5
  refine Aw_exit (hX4 _ _ (hX3 _ _ (hE2 _ (hB1 _ ?_))))
  refine Aw_sq fun B8 hB8 hR8 hX8=>?_
  refine Aw_st hE [3,19] [] fun K hK=>?_
  simp only [go_sem,reduceIte,Nat.reduceLT,Nat.reduceLeDiff,Nat.reduceEqDiff,Nat.reduceAdd,Nat.reduceMul,Nat.reduceSub,Nat.reduceBEq,Int.reduceToNat,List.reduceReplicate,reduceCtorEq]
  repeat refine sd0 ?_
  repeat' (first | (refine And.intro (by first | omega | decide) ?_) | intro)
  refine hK _ (Aw_cond rfl (fun hc9=>?_) (fun hc9=>?_))
  ·refine Aw_tx hE [3] [] fun K hK=>?_
   simp only [go_sem,reduceIte,Nat.reduceLT,Nat.reduceLeDiff,Nat.reduceEqDiff,Nat.reduceAdd,Nat.reduceMul,Nat.reduceSub,Nat.reduceBEq,Int.reduceToNat,List.reduceReplicate,reduceCtorEq,crows_one]
   repeat refine sd0 ?_
   refine ⟨⟨crows_row _,by omega⟩,?_⟩
   refine hK _ (hB8 _ ?_)
   refine Aw_st hE [2] [] fun K hK=>?_
   simp only [go_sem,reduceIte,Nat.reduceLT,Nat.reduceLeDiff,Nat.reduceEqDiff,Nat.reduceAdd,Nat.reduceMul,Nat.reduceSub,Nat.reduceBEq,Int.reduceToNat,List.reduceReplicate,reduceCtorEq]
   repeat refine sd0 ?_
   refine hK _ (Aw_ret (hQ _ ?_))
   simp only [go_sem,reduceIte,Nat.reduceLT,Nat.reduceLeDiff,Nat.reduceEqDiff,Nat.reduceAdd,Nat.reduceMul,Nat.reduceSub,Nat.reduceBEq,Int.reduceToNat,List.reduceReplicate,reduceCtorEq]
   exact ⟨by omega,_,by simp;omega,rfl⟩
  ·refine Aw_skip (hB8 _ ?_)
   refine Aw_st hE [2] [] fun K hK=>?_
   simp only [go_sem,reduceIte,Nat.reduceLT,Nat.reduceLeDiff,Nat.reduceEqDiff,Nat.reduceAdd,Nat.reduceMul,Nat.reduceSub,Nat.reduceBEq,Int.reduceToNat,List.reduceReplicate,reduceCtorEq]
   repeat refine sd0 ?_
   refine hK _ (Aw_ret (hQ _ ?_))
   simp only [go_sem,reduceIte,Nat.reduceLT,Nat.reduceLeDiff,Nat.reduceEqDiff,Nat.reduceAdd,Nat.reduceMul,Nat.reduceSub,Nat.reduceBEq,Int.reduceToNat,List.reduceReplicate,reduceCtorEq]
   exact ⟨by omega,_,by omega,rfl⟩
def cRtsD:Con:={ pre:=fun args=>∃ n:Int,0≤n∧n≤5∧args=[.rd,iv n],post:=fun _ r=>∃ l:List Rt,(l.length≤5∧∀ x ∈ l,okRt x)∧r = .sl none (rrows l),cost:=201,draws:=true }
theorem cRtsD_own:cRtsD.own=false:=rfl
theorem cRtsD_draws:cRtsD.draws=true:=rfl
theorem cRtsD_cost:cRtsD.cost=201:=rfl
attribute [go_sem] cRtsD_own cRtsD_draws cRtsD_cost
theorem rtsD_pre (n:Int):cRtsD.pre [.rd,iv n]=(0≤n∧n≤5):=by
 apply propext
 simp [cRtsD]
theorem rtsD_post (args:List AV) (K:AV→Prop):(∀ r,cRtsD.post args r→K r)=(∀ l:List Rt,(l.length≤5∧∀ x ∈ l,okRt x)→K (.sl none (rrows l))):=by
 apply propext
 exact ⟨fun h p hp=>h _ ⟨p,hp,rfl⟩,fun h r ⟨p,hp,e⟩=>e ▸ h p hp⟩
theorem rtsD_ex (args:List AV):(∃ r,cRtsD.post args r)=True:=eq_true ⟨_,[],by simp,rfl⟩
attribute [go_sem] rtsD_pre rtsD_post rtsD_ex
def cDPD:Con:={ pre:=codeArg,post:=fun _ r=>∃ (l:List Cl) (x:Rt),l.length≤4∧okRt x∧r = .tup [.sl none (crows l),x.av] }
theorem cDPD_own:cDPD.own=false:=rfl
theorem cDPD_draws:cDPD.draws=false:=rfl
theorem cDPD_cost:cDPD.cost=0:=rfl
attribute [go_sem] cDPD_own cDPD_draws cDPD_cost
theorem dpd_post (args:List AV) (K:AV→Prop):(∀ r,cDPD.post args r→K r)=(∀ (l:List Cl) (x:Rt),l.length≤4→okRt x→K (.tup [.sl none (crows l),x.av])):=by
 apply propext
 exact ⟨fun h x n h1 h2=>h _ ⟨x,n,h1,h2,rfl⟩,fun h r ⟨x,n,h1,h2,e⟩=>e ▸ h x n h1 h2⟩
attribute [go_sem] dpd_post
def cDPA:Con:={ pre:=codeArg,post:=fun _ r=>∃ (l:List Cl) (x:List Rt),l.length≤4∧(x.length≤5∧∀ y ∈ x,okRt y)∧r = .tup [.sl none (crows l),.sl none (rrows x)] }
theorem cDPA_own:cDPA.own=false:=rfl
theorem cDPA_draws:cDPA.draws=false:=rfl
theorem cDPA_cost:cDPA.cost=0:=rfl
attribute [go_sem] cDPA_own cDPA_draws cDPA_cost
theorem dpa_post (args:List AV) (K:AV→Prop):(∀ r,cDPA.post args r→K r)=(∀ (l:List Cl) (x:List Rt),l.length≤4→(x.length≤5∧∀ y ∈ x,okRt y)→K (.tup [.sl none (crows l),.sl none (rrows x)])):=by
 apply propext
 exact ⟨fun h x n h1 h2=>h _ ⟨x,n,h1,h2,rfl⟩,fun h r ⟨x,n,h1,h2,e⟩=>e ▸ h x n h1 h2⟩
attribute [go_sem] dpa_post
def gHas1:List AV→Option (Prop × AV) | [.agg [.v (.int .i64 f),.v (.int .i64 b)],.v (.int .i64 a)]=>some (rngOk f b=true∧0≤a∧a≤255,bv (rHas f b a)) | _=>none
def dHas1:DFn:={ g:=gHas1 }
def gIn1:List AV→Option (Prop × AV) | [.agg [.v (.int .i64 f),.v (.int .i64 b)],.agg [.v (.int .i64 f'),.v (.int .i64 b')]]=>some (rngOk f b=true∧rngOk f' b'=true,bv (rIn f b f' b')) | _=>none
def dIn1:DFn:={ g:=gIn1 }
attribute [go_sem] gHas1 dHas1 gIn1 dIn1
theorem rngOk_parts {f b:Int} (h:rngOk f b=true):(0≤b∧b≤8)∧(0≤f∧f≤255)∧f.tmod (szR b)=0:=by
 simp only [rngOk,Bool.and_eq_true,dte] at h
 exact ⟨⟨h.1,h.2.1⟩,h.2.2.1,h.2.2.2⟩
theorem has1_ok:Fine Tryz.prog 76 dHas1.con:=by
 refine fine_det (T:=TT) Tryz.func76 rfl Tryz.ntmps76 (by rw [Tryz.results76]) rfl rfl tt (gs_nil) (ds_cons size_ok ds_nil) ?_
 intro args c r h hc
 simp only [dHas1,gHas1] at h
 split at h
 rotate_left
 ·cases h
 obtain ⟨rfl,rfl⟩:=Prod.mk.inj (Option.some.inj h)
 refine ⟨by simp,fun k E hE Q hQ=>?_⟩
 rename_i f b a
 obtain ⟨hr,ha1,ha2⟩:=hc
 obtain ⟨⟨hb1,hb2⟩,⟨hf1,hf2⟩,_⟩:=rngOk_parts hr
 obtain ⟨_,_,t1,t2,t3⟩:=tdiv_szR a b ha1 (by omega) hb1 hb2
 obtain ⟨_,_,u1,u2,u3⟩:=tdiv_szR f b hf1 (by omega) hb1 hb2
 refine Aw_st hE [1,2] [2] fun K hK=>?_
 simp only [go_sem,reduceIte,Nat.reduceLT,Nat.reduceLeDiff,Nat.reduceEqDiff,Nat.reduceAdd,Nat.reduceMul,Nat.reduceSub,Nat.reduceBEq,Int.reduceToNat,List.reduceReplicate,reduceCtorEq]
 repeat refine sd0 ?_
 refine hK _ ?_;clear hK K
 refine Aw_sd hE [4] [] 6 (by kernel_rfl) fun K hK=>?_
 simp only [go_sem,reduceIte,Nat.reduceLT,Nat.reduceLeDiff,Nat.reduceEqDiff,Nat.reduceAdd,Nat.reduceMul,Nat.reduceSub,Nat.reduceBEq,Int.reduceToNat,List.reduceReplicate,reduceCtorEq]
 repeat refine sd0 ?_
 repeat' (first | exact t2 | (refine And.intro (by first | omega | exact t2) ?_))
 refine hK _ (Aw_ret (hQ _ ?_))
 simp only [go_sem,reduceIte,Nat.reduceLT,Nat.reduceLeDiff,Nat.reduceEqDiff,Nat.reduceAdd,Nat.reduceMul,Nat.reduceSub,Nat.reduceBEq,Int.reduceToNat,List.reduceReplicate,reduceCtorEq,rHas]
theorem in1_ok:Fine Tryz.prog 73 dIn1.con:=by
 refine fine_det (T:=TT) Tryz.func73 rfl Tryz.ntmps73 (by rw [Tryz.results73]) rfl rfl tt (gs_nil) (ds_cons has1_ok ds_nil) ?_
 intro args c r h hc
 simp only [dIn1,gIn1] at h
 split at h
 rotate_left
 ·cases h
 obtain ⟨rfl,rfl⟩:=Prod.mk.inj (Option.some.inj h)
 refine ⟨by simp,fun k E hE Q hQ=>?_⟩
 rename_i f b f' b'
 obtain ⟨hr,hr'⟩:=hc
 obtain ⟨⟨hb1,hb2⟩,⟨hf1,hf2⟩,_⟩:=rngOk_parts hr
 refine Aw_st hE [2,3] [2,3] fun K hK=>?_
 simp only [go_sem,reduceIte,Nat.reduceLT,Nat.reduceLeDiff,Nat.reduceEqDiff,Nat.reduceAdd,Nat.reduceMul,Nat.reduceSub,Nat.reduceBEq,Int.reduceToNat,List.reduceReplicate,reduceCtorEq]
 repeat refine sd0 ?_
 refine hK _ ?_;clear hK K
 refine Aw_st hE [4] [] fun K hK=>?_
 simp only [go_sem,reduceIte,Nat.reduceLT,Nat.reduceLeDiff,Nat.reduceEqDiff,Nat.reduceAdd,Nat.reduceMul,Nat.reduceSub,Nat.reduceBEq,Int.reduceToNat,List.reduceReplicate,reduceCtorEq]
 repeat refine sd0 ?_
 refine ⟨fun h1=>⟨⟨hr',hf1,hf2⟩,?_⟩,fun h1=>?_⟩
 all_goals
  refine hK _ (Aw_ret (hQ _ ?_))
  simp only [go_sem,reduceIte,Nat.reduceLT,Nat.reduceLeDiff,Nat.reduceEqDiff,Nat.reduceAdd,Nat.reduceMul,Nat.reduceSub,Nat.reduceBEq,Int.reduceToNat,List.reduceReplicate,reduceCtorEq,rIn,h1,Bool.true_and,Bool.false_and]
def gFits:List AV→Option (Prop × AV)
 | [.agg [.v (.int .i64 ci),.v (.int .i64 n),.v (.int .i64 f),.v (.int .i64 b),.v (.bool ref),.v (.int .i64 like),.v (.int .i64 mark),.v (.int .i64 clear)],.agg [.v (.int .i64 rf),.v (.int .i64 rb),.sl _ e1,.v (.int .i64 rk),.sl _ e2]]=>(match intsL e1,intsL e2 with
  | some p,some m=>some ((clOk ⟨ci,n,f,b,ref,like,mark,clear⟩=true∧okR ⟨rf,rb,p,rk,m⟩=true)∧p.length≤1000000∧m.length≤1000000,bv (fitsB ⟨ci,n,f,b,ref,like,mark,clear⟩ ⟨rf,rb,p,rk,m⟩))
  | _,_=>none)
 | _=>none
def dFits:DFn:={ g:=gFits }
def gClOk:List AV→Option (Prop × AV) | [.agg [.v (.int .i64 ci),.v (.int .i64 n),.v (.int .i64 f),.v (.int .i64 b),.v (.bool ref),.v (.int .i64 like),.v (.int .i64 mark),.v (.int .i64 clear)]]=>some (True,bv (clOk ⟨ci,n,f,b,ref,like,mark,clear⟩)) | _=>none
def dClOk:DFn:={ g:=gClOk }
attribute [go_sem] gFits dFits gClOk dClOk
theorem fits11_ok:Fine Tryz.prog 62 dFits.con:=by
 refine fine_det (T:=TT) Tryz.func62 rfl Tryz.ntmps62 (by rw [Tryz.results62]) rfl rfl tt (gs_nil) (ds_cons in1_ok (ds_cons has3_ok ds_nil)) ?_
 intro args c r h hc
 simp only [dFits,gFits] at h
 split at h
 rotate_left
 ·cases h
 split at h
 rotate_left
 ·cases h
 rename_i ci n f b ref like mark clear rf rb t1 e1 rk t2 e2 _ _ p m hl1 hl2
 obtain rfl:=intsL_eq hl1
 obtain rfl:=intsL_eq hl2
 obtain ⟨rfl,rfl⟩:=Prod.mk.inj (Option.some.inj h)
 refine ⟨by simp,fun k E hE Q hQ=>?_⟩
 obtain ⟨⟨hck,hrk⟩,hp,hm⟩:=hc
 have hrr:=(okR_parts hrk).1
 have hsub:=(clOk_parts hck).2.2.2
 simp only at hrr hsub
 refine Aw_st hE [2,3] [2,3] fun K hK=>?_
 simp only [go_sem,reduceIte,Nat.reduceLT,Nat.reduceLeDiff,Nat.reduceEqDiff,Nat.reduceAdd,Nat.reduceMul,Nat.reduceSub,Nat.reduceBEq,Int.reduceToNat,List.reduceReplicate,reduceCtorEq]
 repeat refine sd0 ?_
 refine hK _ ?_;clear hK K
 refine Aw_sq fun B1 hB1 hR1 hX1=>?_
 refine Aw_st hE [2,3,6] [2,3] fun K hK=>?_
 simp only [go_sem,reduceIte,Nat.reduceLT,Nat.reduceLeDiff,Nat.reduceEqDiff,Nat.reduceAdd,Nat.reduceMul,Nat.reduceSub,Nat.reduceBEq,Int.reduceToNat,List.reduceReplicate,reduceCtorEq]
 repeat refine sd0 ?_
 refine hK _ ?_;clear hK K
 refine Aw_bk fun B2 hN2 hE2 hR2 hX2=>?_
 refine Aw_st hE [2,3,6,7] [2,3] fun K hK=>?_
 simp only [go_sem,reduceIte,Nat.reduceLT,Nat.reduceLeDiff,Nat.reduceEqDiff,Nat.reduceAdd,Nat.reduceMul,Nat.reduceSub,Nat.reduceBEq,Int.reduceToNat,List.reduceReplicate,reduceCtorEq]
 repeat refine sd0 ?_
 refine hK _ (Aw_cond rfl (fun hc3=>?_) (fun hc3=>?_))
 ·simp only [dte] at hc3
  have hcr:rngOk f b=true:=by simp [subOk,hc3] at hsub;exact hsub.2
  refine Aw_st hE [4] [] fun K hK=>?_
  simp only [go_sem,reduceIte,Nat.reduceLT,Nat.reduceLeDiff,Nat.reduceEqDiff,Nat.reduceAdd,Nat.reduceMul,Nat.reduceSub,Nat.reduceBEq,Int.reduceToNat,List.reduceReplicate,reduceCtorEq,hrr,hcr]
  repeat refine sd0 ?_
  skip
  refine hK _ (Aw_ret (hR2 _ (hR1 _ (hQ _ ?_))))
  simp only [go_sem,reduceIte,Nat.reduceLT,Nat.reduceLeDiff,Nat.reduceEqDiff,Nat.reduceAdd,Nat.reduceMul,Nat.reduceSub,Nat.reduceBEq,Int.reduceToNat,List.reduceReplicate,reduceCtorEq]
  simp [fitsB,hc3]
 ·simp only [dfn] at hc3
  refine Aw_st hE [2,3,6,14] [2,3] fun K hK=>?_
  simp only [go_sem,reduceIte,Nat.reduceLT,Nat.reduceLeDiff,Nat.reduceEqDiff,Nat.reduceAdd,Nat.reduceMul,Nat.reduceSub,Nat.reduceBEq,Int.reduceToNat,List.reduceReplicate,reduceCtorEq]
  repeat refine sd0 ?_
  refine hK _ (Aw_cond rfl (fun hc4=>?_) (fun hc4=>?_))
  ·simp only [dte] at hc4
   refine Aw_st hE [4] [] fun K hK=>?_
   simp only [go_sem,reduceIte,Nat.reduceLT,Nat.reduceLeDiff,Nat.reduceEqDiff,Nat.reduceAdd,Nat.reduceMul,Nat.reduceSub,Nat.reduceBEq,Int.reduceToNat,List.reduceReplicate,reduceCtorEq]
   repeat refine sd0 ?_
   refine hK _ (Aw_ret (hR2 _ (hR1 _ (hQ _ ?_))))
   simp only [go_sem,reduceIte,Nat.reduceLT,Nat.reduceLeDiff,Nat.reduceEqDiff,Nat.reduceAdd,Nat.reduceMul,Nat.reduceSub,Nat.reduceBEq,Int.reduceToNat,List.reduceReplicate,reduceCtorEq]
   simp [fitsB,hc4]
  ·simp only [dfn] at hc4
   refine Aw_st hE [2,3,6,21] [2,3] fun K hK=>?_
   simp only [go_sem,reduceIte,Nat.reduceLT,Nat.reduceLeDiff,Nat.reduceEqDiff,Nat.reduceAdd,Nat.reduceMul,Nat.reduceSub,Nat.reduceBEq,Int.reduceToNat,List.reduceReplicate,reduceCtorEq]
   repeat refine sd0 ?_
   refine hK _ (Aw_cond rfl (fun hc5=>?_) (fun hc5=>?_))
   ·simp only [dte] at hc5
    refine Aw_st hE [4] [] fun K hK=>?_
    simp only [go_sem,reduceIte,Nat.reduceLT,Nat.reduceLeDiff,Nat.reduceEqDiff,Nat.reduceAdd,Nat.reduceMul,Nat.reduceSub,Nat.reduceBEq,Int.reduceToNat,List.reduceReplicate,reduceCtorEq]
    repeat refine sd0 ?_
    refine hK _ (Aw_ret (hR2 _ (hR1 _ (hQ _ ?_))))
    simp only [go_sem,reduceIte,Nat.reduceLT,Nat.reduceLeDiff,Nat.reduceEqDiff,Nat.reduceAdd,Nat.reduceMul,Nat.reduceSub,Nat.reduceBEq,Int.reduceToNat,List.reduceReplicate,reduceCtorEq]
    simp [fitsB,hc5]
   ·simp only [dfn] at hc5
    refine Aw_st hE [2,3,28] [2,3] fun K hK=>?_
    simp only [go_sem,reduceIte,Nat.reduceLT,Nat.reduceLeDiff,Nat.reduceEqDiff,Nat.reduceAdd,Nat.reduceMul,Nat.reduceSub,Nat.reduceBEq,Int.reduceToNat,List.reduceReplicate,reduceCtorEq]
    repeat refine sd0 ?_
    refine hK _ (Aw_cond rfl (fun hc6=>?_) (fun hc6=>?_))
    ·simp only [dte] at hc6
     refine Aw_st hE [4] [] fun K hK=>?_
     simp only [go_sem,reduceIte,Nat.reduceLT,Nat.reduceLeDiff,Nat.reduceEqDiff,Nat.reduceAdd,Nat.reduceMul,Nat.reduceSub,Nat.reduceBEq,Int.reduceToNat,List.reduceReplicate,reduceCtorEq]
     repeat refine sd0 ?_
     refine hK _ (Aw_ret (hR2 _ (hR1 _ (hQ _ ?_))))
     simp only [go_sem,reduceIte,Nat.reduceLT,Nat.reduceLeDiff,Nat.reduceEqDiff,Nat.reduceAdd,Nat.reduceMul,Nat.reduceSub,Nat.reduceBEq,Int.reduceToNat,List.reduceReplicate,reduceCtorEq]
     simp [fitsB,hc6]
    ·simp only [dfn] at hc6
     refine Aw_skip (hN2 _ (hB1 _ ?_))
     refine Aw_st hE [4] [] fun K hK=>?_
     simp only [go_sem,reduceIte,Nat.reduceLT,Nat.reduceLeDiff,Nat.reduceEqDiff,Nat.reduceAdd,Nat.reduceMul,Nat.reduceSub,Nat.reduceBEq,Int.reduceToNat,List.reduceReplicate,reduceCtorEq]
     repeat refine sd0 ?_
     refine hK _ (Aw_ret (hQ _ ?_))
     simp only [go_sem,reduceIte,Nat.reduceLT,Nat.reduceLeDiff,Nat.reduceEqDiff,Nat.reduceAdd,Nat.reduceMul,Nat.reduceSub,Nat.reduceBEq,Int.reduceToNat,List.reduceReplicate,reduceCtorEq]
     simp [fitsB,hc3,hc4,hc5,hc6]
theorem beqI (a b:Int):(a == b)=decide (a=b):=rfl
theorem sClOk_ok:Fine Tryz.prog 61 dClOk.con:=by
 refine fine_det (T:=TT) Tryz.func61 rfl Tryz.ntmps61 (by rw [Tryz.results61]) rfl rfl tt (gs_nil) (ds_cons in_ok (ds_cons sRangeOk_ok (ds_cons sIsH_ok ds_nil))) ?_
 intro args c r h hc
 simp only [dClOk,gClOk] at h
 split at h
 rotate_left
 ·cases h
 obtain ⟨rfl,rfl⟩:=Prod.mk.inj (Option.some.inj h)
 refine ⟨by simp,fun k E hE Q hQ=>?_⟩
 rename_i ci n f b ref like mark clear
 have hH:∀ x,(decide (1≤x) && decide (x≤9))=isM x:=fun _=>rfl
 refine Aw_st hE [1] [1] fun K hK=>?_
 simp only [go_sem,reduceIte,Nat.reduceLT,Nat.reduceLeDiff,Nat.reduceEqDiff,Nat.reduceAdd,Nat.reduceMul,Nat.reduceSub,Nat.reduceBEq,Int.reduceToNat,List.reduceReplicate,reduceCtorEq]
 repeat refine sd0 ?_
 refine hK _ ?_;clear hK K
 refine Aw_sq fun B1 hB1 hR1 hX1=>?_
 refine Aw_st hE [1,18] [1] fun K hK=>?_
 simp only [go_sem,reduceIte,Nat.reduceLT,Nat.reduceLeDiff,Nat.reduceEqDiff,Nat.reduceAdd,Nat.reduceMul,Nat.reduceSub,Nat.reduceBEq,Int.reduceToNat,List.reduceReplicate,reduceCtorEq]
 repeat refine sd0 ?_
 refine ⟨fun hg3=>?_,fun hg3=>?_⟩
 ·repeat refine sd0 ?_
  refine hK _ (Aw_yes rfl ?_)
  refine Aw_st hE [2] [] fun K hK=>?_
  simp only [go_sem,reduceIte,Nat.reduceLT,Nat.reduceLeDiff,Nat.reduceEqDiff,Nat.reduceAdd,Nat.reduceMul,Nat.reduceSub,Nat.reduceBEq,Int.reduceToNat,List.reduceReplicate,reduceCtorEq]
  repeat refine sd0 ?_
  refine hK _ (Aw_ret (hR1 _ (hQ _ ?_)))
  simp only [go_sem,reduceIte,Nat.reduceLT,Nat.reduceLeDiff,Nat.reduceEqDiff,Nat.reduceAdd,Nat.reduceMul,Nat.reduceSub,Nat.reduceBEq,Int.reduceToNat,List.reduceReplicate,reduceCtorEq]
  simp_all [clOk]
  all_goals (intros;omega)
 ·repeat refine sd0 ?_
  refine ⟨fun hg4=>?_,fun hg4=>?_⟩
  ·repeat refine sd0 ?_
   refine hK _ (Aw_yes rfl ?_)
   refine Aw_st hE [2] [] fun K hK=>?_
   simp only [go_sem,reduceIte,Nat.reduceLT,Nat.reduceLeDiff,Nat.reduceEqDiff,Nat.reduceAdd,Nat.reduceMul,Nat.reduceSub,Nat.reduceBEq,Int.reduceToNat,List.reduceReplicate,reduceCtorEq]
   repeat refine sd0 ?_
   refine hK _ (Aw_ret (hR1 _ (hQ _ ?_)))
   simp only [go_sem,reduceIte,Nat.reduceLT,Nat.reduceLeDiff,Nat.reduceEqDiff,Nat.reduceAdd,Nat.reduceMul,Nat.reduceSub,Nat.reduceBEq,Int.reduceToNat,List.reduceReplicate,reduceCtorEq]
   simp_all [clOk]
   all_goals (intros;omega)
  ·repeat refine sd0 ?_
   refine hK _ (Aw_cond rfl (fun hc5=>?_) (fun hc5=>?_))
   ·refine Aw_st hE [2] [] fun K hK=>?_
    simp only [go_sem,reduceIte,Nat.reduceLT,Nat.reduceLeDiff,Nat.reduceEqDiff,Nat.reduceAdd,Nat.reduceMul,Nat.reduceSub,Nat.reduceBEq,Int.reduceToNat,List.reduceReplicate,reduceCtorEq]
    repeat refine sd0 ?_
    refine hK _ (Aw_ret (hR1 _ (hQ _ ?_)))
    simp only [go_sem,reduceIte,Nat.reduceLT,Nat.reduceLeDiff,Nat.reduceEqDiff,Nat.reduceAdd,Nat.reduceMul,Nat.reduceSub,Nat.reduceBEq,Int.reduceToNat,List.reduceReplicate,reduceCtorEq]
    simp_all [clOk]
    all_goals (intros;omega)
   ·simp only [Bool.not_eq_false',Bool.and_eq_true,dte] at hg3 hg4 hc5
    refine Aw_skip (hB1 _ ?_)
    refine Aw_sq fun B6 hB6 hR6 hX6=>?_
    refine Aw_st hE [1,20] [1] fun K hK=>?_
    simp only [go_sem,reduceIte,Nat.reduceLT,Nat.reduceLeDiff,Nat.reduceEqDiff,Nat.reduceAdd,Nat.reduceMul,Nat.reduceSub,Nat.reduceBEq,Int.reduceToNat,List.reduceReplicate,reduceCtorEq]
    repeat refine sd0 ?_
    refine hK _ ?_;clear hK K
    refine Aw_bk fun B7 hN7 hE7 hR7 hX7=>?_
    refine Aw_st hE [1,20,21] [1] fun K hK=>?_
    simp only [go_sem,reduceIte,Nat.reduceLT,Nat.reduceLeDiff,Nat.reduceEqDiff,Nat.reduceAdd,Nat.reduceMul,Nat.reduceSub,Nat.reduceBEq,Int.reduceToNat,List.reduceReplicate,reduceCtorEq]
    repeat refine sd0 ?_
    refine hK _ (Aw_cond rfl (fun hc8=>?_) (fun hc8=>?_))
    ·simp only [dte] at hc8
     refine Aw_st hE [2] [] fun K hK=>?_
     simp only [go_sem,reduceIte,Nat.reduceLT,Nat.reduceLeDiff,Nat.reduceEqDiff,Nat.reduceAdd,Nat.reduceMul,Nat.reduceSub,Nat.reduceBEq,Int.reduceToNat,List.reduceReplicate,reduceCtorEq]
     repeat refine sd0 ?_
     refine ⟨fun h1=>?_,fun h1=>?_⟩
     all_goals
      refine hK _ (Aw_ret (hR7 _ (hR6 _ (hQ _ ?_))))
      simp only [go_sem,reduceIte,Nat.reduceLT,Nat.reduceLeDiff,Nat.reduceEqDiff,Nat.reduceAdd,Nat.reduceMul,Nat.reduceSub,Nat.reduceBEq,Int.reduceToNat,List.reduceReplicate,reduceCtorEq]
      simp [clOk,subOk,hg3,hg4,hc5,beqI,hc8,h1]
    ·simp only [dfn] at hc8
     refine Aw_st hE [1,20,32] [1] fun K hK=>?_
     simp only [go_sem,reduceIte,Nat.reduceLT,Nat.reduceLeDiff,Nat.reduceEqDiff,Nat.reduceAdd,Nat.reduceMul,Nat.reduceSub,Nat.reduceBEq,Int.reduceToNat,List.reduceReplicate,reduceCtorEq]
     repeat refine sd0 ?_
     refine hK _ (Aw_cond rfl (fun hc9=>?_) (fun hc9=>?_))
     ·simp only [dte] at hc9
      refine Aw_st hE [2] [] fun K hK=>?_
      simp only [go_sem,reduceIte,Nat.reduceLT,Nat.reduceLeDiff,Nat.reduceEqDiff,Nat.reduceAdd,Nat.reduceMul,Nat.reduceSub,Nat.reduceBEq,Int.reduceToNat,List.reduceReplicate,reduceCtorEq]
      repeat refine sd0 ?_
      refine ⟨fun h1=>?_,fun h1=>?_⟩
      all_goals
       refine hK _ (Aw_ret (hR7 _ (hR6 _ (hQ _ ?_))))
       simp only [go_sem,reduceIte,Nat.reduceLT,Nat.reduceLeDiff,Nat.reduceEqDiff,Nat.reduceAdd,Nat.reduceMul,Nat.reduceSub,Nat.reduceBEq,Int.reduceToNat,List.reduceReplicate,reduceCtorEq]
       simp [clOk,subOk,hg3,hg4,hc5,beqI,hc9,h1]
     ·simp only [dfn] at hc9
      refine Aw_st hE [1,20,42] [1] fun K hK=>?_
      simp only [go_sem,reduceIte,Nat.reduceLT,Nat.reduceLeDiff,Nat.reduceEqDiff,Nat.reduceAdd,Nat.reduceMul,Nat.reduceSub,Nat.reduceBEq,Int.reduceToNat,List.reduceReplicate,reduceCtorEq]
      repeat refine sd0 ?_
      refine hK _ (Aw_cond rfl (fun hc10=>?_) (fun hc10=>?_))
      ·simp only [dte] at hc10
       refine Aw_st hE [2] [] fun K hK=>?_
       simp only [go_sem,reduceIte,Nat.reduceLT,Nat.reduceLeDiff,Nat.reduceEqDiff,Nat.reduceAdd,Nat.reduceMul,Nat.reduceSub,Nat.reduceBEq,Int.reduceToNat,List.reduceReplicate,reduceCtorEq]
       repeat refine sd0 ?_
       refine ⟨fun h1=>?_,fun h1=>?_⟩
       all_goals
        refine hK _ (Aw_ret (hR7 _ (hR6 _ (hQ _ ?_))))
        simp only [go_sem,reduceIte,Nat.reduceLT,Nat.reduceLeDiff,Nat.reduceEqDiff,Nat.reduceAdd,Nat.reduceMul,Nat.reduceSub,Nat.reduceBEq,Int.reduceToNat,List.reduceReplicate,reduceCtorEq]
        rw [hH] at h1
        simp [clOk,subOk,hg3,hg4,hc5,beqI,hc10,h1]
      ·simp only [dfn] at hc10
       refine Aw_sq fun B11 hB11 hR11 hX11=>?_
       refine Aw_st hE [1,20,53] [1] fun K hK=>?_
       simp only [go_sem,reduceIte,Nat.reduceLT,Nat.reduceLeDiff,Nat.reduceEqDiff,Nat.reduceAdd,Nat.reduceMul,Nat.reduceSub,Nat.reduceBEq,Int.reduceToNat,List.reduceReplicate,reduceCtorEq]
       repeat refine sd0 ?_
       refine hK _ (Aw_cond rfl (fun hc12=>?_) (fun hc12=>?_))
       ·simp only [dte] at hc12
        refine Aw_skip (hB11 _ ?_)
        refine Aw_cond rfl (fun hc13=>?_) (fun hc13=>?_)
        ·refine Aw_st hE [2] [] fun K hK=>?_
         simp only [go_sem,reduceIte,Nat.reduceLT,Nat.reduceLeDiff,Nat.reduceEqDiff,Nat.reduceAdd,Nat.reduceMul,Nat.reduceSub,Nat.reduceBEq,Int.reduceToNat,List.reduceReplicate,reduceCtorEq]
         repeat refine sd0 ?_
         refine ⟨fun h1=>?_,fun h1=>?_⟩
         all_goals
          refine hK _ (Aw_ret (hR7 _ (hR6 _ (hQ _ ?_))))
          simp only [go_sem,reduceIte,Nat.reduceLT,Nat.reduceLeDiff,Nat.reduceEqDiff,Nat.reduceAdd,Nat.reduceMul,Nat.reduceSub,Nat.reduceBEq,Int.reduceToNat,List.reduceReplicate,reduceCtorEq]
          simp [clOk,subOk,hg3,hg4,hc5,beqI,hc8,hc9,hc10,hc12,h1]
        ·refine Aw_skip (hN7 _ (hB6 _ ?_))
         refine Aw_st hE [2] [] fun K hK=>?_
         simp only [go_sem,reduceIte,Nat.reduceLT,Nat.reduceLeDiff,Nat.reduceEqDiff,Nat.reduceAdd,Nat.reduceMul,Nat.reduceSub,Nat.reduceBEq,Int.reduceToNat,List.reduceReplicate,reduceCtorEq]
         repeat refine sd0 ?_
         refine hK _ (Aw_ret (hQ _ ?_))
         simp only [go_sem,reduceIte,Nat.reduceLT,Nat.reduceLeDiff,Nat.reduceEqDiff,Nat.reduceAdd,Nat.reduceMul,Nat.reduceSub,Nat.reduceBEq,Int.reduceToNat,List.reduceReplicate,reduceCtorEq]
         simp only [dfn] at hc13
         exact absurd hc12 hc13
       ·simp only [dfn] at hc12
        refine Aw_tx hE [1,53] [1] fun K hK=>?_
        simp only [go_sem,reduceIte,Nat.reduceLT,Nat.reduceLeDiff,Nat.reduceEqDiff,Nat.reduceAdd,Nat.reduceMul,Nat.reduceSub,Nat.reduceBEq,Int.reduceToNat,List.reduceReplicate,reduceCtorEq]
        repeat refine sd0 ?_
        refine hK _ (hB11 _ ?_)
        refine Aw_cond rfl (fun hc14=>?_) (fun hc14=>?_)
        ·refine Aw_st hE [2] [] fun K hK=>?_
         simp only [go_sem,reduceIte,Nat.reduceLT,Nat.reduceLeDiff,Nat.reduceEqDiff,Nat.reduceAdd,Nat.reduceMul,Nat.reduceSub,Nat.reduceBEq,Int.reduceToNat,List.reduceReplicate,reduceCtorEq]
         repeat refine sd0 ?_
         refine ⟨fun h1=>?_,fun h1=>?_⟩
         all_goals
          refine hK _ (Aw_ret (hR7 _ (hR6 _ (hQ _ ?_))))
          simp only [go_sem,reduceIte,Nat.reduceLT,Nat.reduceLeDiff,Nat.reduceEqDiff,Nat.reduceAdd,Nat.reduceMul,Nat.reduceSub,Nat.reduceBEq,Int.reduceToNat,List.reduceReplicate,reduceCtorEq]
          simp only [dte] at hc14
          simp [clOk,subOk,hg3,hg4,hc5,beqI,hc14,h1]
        ·refine Aw_skip (hN7 _ (hB6 _ ?_))
         refine Aw_st hE [2] [] fun K hK=>?_
         simp only [go_sem,reduceIte,Nat.reduceLT,Nat.reduceLeDiff,Nat.reduceEqDiff,Nat.reduceAdd,Nat.reduceMul,Nat.reduceSub,Nat.reduceBEq,Int.reduceToNat,List.reduceReplicate,reduceCtorEq]
         repeat refine sd0 ?_
         refine hK _ (Aw_ret (hQ _ ?_))
         simp only [go_sem,reduceIte,Nat.reduceLT,Nat.reduceLeDiff,Nat.reduceEqDiff,Nat.reduceAdd,Nat.reduceMul,Nat.reduceSub,Nat.reduceBEq,Int.reduceToNat,List.reduceReplicate,reduceCtorEq]
         simp only [dfn] at hc14
         simp [clOk,subOk,hg3,hg4,hc5,hc8,hc9,hc10,hc12,hc14]
def cl0:Cl:=⟨0,0,0,0,false,0,0,0⟩
def rt0:Rt:=⟨0,0,[],0,[]⟩
def gPolOk:List AV→Option (Prop × AV) | [.sl _ els]=>(match clsL els with | some l=>some (l.length≤1000000,bv (polOk l)) | none=>none) | _=>none
def dPolOk:DFn:={ g:=gPolOk }
def resR:Option Rt→AV
 | some x=>.tup [x.av,bv true]
 | none=>.tup [rt0.av,bv false]
def gDo:List AV→Option (Prop × AV)
 | [.sl _ els,.agg [.v (.int .i64 rf),.v (.int .i64 rb),.sl _ e1,.v (.int .i64 rk),.sl _ e2]]=>(match clsL els,intsL e1,intsL e2 with
  | some l,some p,some m=>some (((∀ c ∈ l,clOk c=true)∧okR ⟨rf,rb,p,rk,m⟩=true)∧l.length≤1000000∧p.length≤1000000∧m.length≤1000,resR (polDo l ⟨rf,rb,p,rk,m⟩))
  | _,_,_=>none)
 | _=>none
def dDo:DFn:={ g:=gDo }
def gPDo:List AV→Option (Prop × AV)
 | [.sl _ els,.agg [.v (.int .i64 rf),.v (.int .i64 rb),.sl _ e1,.v (.int .i64 rk),.sl _ e2]]=>(match clsL els,intsL e1,intsL e2 with
  | some l,some p,some m=>some (l.length≤1000000∧p.length≤1000000∧m.length≤1000,resR (policyDo l ⟨rf,rb,p,rk,m⟩))
  | _,_,_=>none)
 | _=>none
def dPDo:DFn:={ g:=gPDo }
attribute [go_sem] gPolOk dPolOk gDo dDo gPDo dPDo
theorem all_take {l:List Cl} {i:Nat} (h:i < l.length) (f:Cl→Bool):(l.take (i + 1)).all f=((l.take i).all f && f l[i]):=by
 rw [List.take_succ_eq_append_getElem h,List.all_append]
 simp only [List.all_cons,List.all_nil,Bool.and_true]
theorem all_stop {l:List Cl} {i:Nat} (h:i < l.length) {f:Cl→Bool} (hf:f l[i]=false):l.all f=false:=by
 rw [List.all_eq_false]
 exact ⟨l[i],List.getElem_mem h,by simp [hf]⟩
theorem sPolOk_ok:Fine Tryz.prog 45 dPolOk.con:=by
 refine fine_det (T:=TT) Tryz.func45 rfl Tryz.ntmps45 (by rw [Tryz.results45]) rfl rfl tt (gs_nil) (ds_cons sClOk_ok ds_nil) ?_
 intro args c r h hc
 simp only [dPolOk,gPolOk] at h
 split at h
 rotate_left
 ·cases h
 split at h
 rotate_left
 ·cases h
 rename_i t els _ l hcl
 obtain rfl:=clsL_eq hcl
 obtain ⟨rfl,rfl⟩:=Prod.mk.inj (Option.some.inj h)
 refine ⟨by simp,fun k E hE Q hQ=>?_⟩
 refine Aw_st hE [0] [] fun K hK=>?_
 simp only [go_sem,reduceIte,Nat.reduceLT,Nat.reduceLeDiff,Nat.reduceEqDiff,Nat.reduceAdd,Nat.reduceMul,Nat.reduceSub,Nat.reduceBEq,Int.reduceToNat,List.reduceReplicate,reduceCtorEq]
 repeat refine sd0 ?_
 refine hK _ ?_;clear hK K
 refine Aw_sq fun B1 hB1 hR1 hX1=>?_
 refine Aw_st hE [0,3] [] fun K hK=>?_
 simp only [go_sem,reduceIte,Nat.reduceLT,Nat.reduceLeDiff,Nat.reduceEqDiff,Nat.reduceAdd,Nat.reduceMul,Nat.reduceSub,Nat.reduceBEq,Int.reduceToNat,List.reduceReplicate,reduceCtorEq]
 repeat refine sd0 ?_
 refine hK _ ?_;clear hK K
 refine Aw_bk fun B2 hN2 hE2 hR2 hX2=>?_
 refine Aw_lp (fun i:Nat=>⟨19,[(0,.sl t (crows l)),(3,iv i)],[],k⟩) (fun i:Nat=>i≤l.length∧(l.take i).all clOk=true) (fun i:Nat=>l.length - i) (0) (Le.refl _) (⟨by omega,by simp⟩) fun i hi B3 hN3 hR3 hX3=>?_
 refine Aw_sq fun B4 hB4 hR4 hX4=>?_
 refine Aw_st hE [0,3,7] [] fun K hK=>?_
 simp only [go_sem,reduceIte,Nat.reduceLT,Nat.reduceLeDiff,Nat.reduceEqDiff,Nat.reduceAdd,Nat.reduceMul,Nat.reduceSub,Nat.reduceBEq,Int.reduceToNat,List.reduceReplicate,reduceCtorEq]
 repeat refine sd0 ?_
 refine hK _ (Aw_cond rfl (fun hc5=>?_) (fun hc5=>?_))
 ·simp only [dte] at hc5
  have hil:i < l.length:=by omega
  have hs:=all_take hil clOk
  refine Aw_skip (hB4 _ ?_)
  refine Aw_sq fun B6 hB6 hR6 hX6=>?_
  refine Aw_bk fun B7 hN7 hE7 hR7 hX7=>?_
  refine Aw_st hE [0,3,15] [] fun K hK=>?_
  simp only [go_sem,reduceIte,Nat.reduceLT,Nat.reduceLeDiff,Nat.reduceEqDiff,Nat.reduceAdd,Nat.reduceMul,Nat.reduceSub,Nat.reduceBEq,Int.reduceToNat,List.reduceReplicate,reduceCtorEq,crows_get l i hil]
  repeat refine sd0 ?_
  refine hK _ (Aw_cond rfl (fun hc8=>?_) (fun hc8=>?_))
  ·simp only [Bool.not_eq_true'] at hc8
   refine Aw_st hE [2] [] fun K hK=>?_
   simp only [go_sem,reduceIte,Nat.reduceLT,Nat.reduceLeDiff,Nat.reduceEqDiff,Nat.reduceAdd,Nat.reduceMul,Nat.reduceSub,Nat.reduceBEq,Int.reduceToNat,List.reduceReplicate,reduceCtorEq]
   repeat refine sd0 ?_
   refine hK _ (Aw_ret (hR7 _ (hR6 _ (hR3 _ (hR2 _ (hR1 _ (hQ _ ?_)))))))
   simp only [go_sem,reduceIte,Nat.reduceLT,Nat.reduceLeDiff,Nat.reduceEqDiff,Nat.reduceAdd,Nat.reduceMul,Nat.reduceSub,Nat.reduceBEq,Int.reduceToNat,List.reduceReplicate,reduceCtorEq]
   rw [polOk,all_stop hil hc8,Bool.and_false]
  ·simp only [Bool.not_eq_false'] at hc8
   rw [hi.2,hc8] at hs
   refine Aw_skip (hN7 _ (hB6 _ ?_))
   refine Aw_tx hE [0,3] [] fun K hK=>?_
   simp only [go_sem,reduceIte,Nat.reduceLT,Nat.reduceLeDiff,Nat.reduceEqDiff,Nat.reduceAdd,Nat.reduceMul,Nat.reduceSub,Nat.reduceBEq,Int.reduceToNat,List.reduceReplicate,reduceCtorEq]
   repeat refine sd0 ?_
   refine hK _ (hN3 (i + 1) _ (⟨by omega,hs⟩) (by omega) (Le.refl _))
 ·simp only [dfn] at hc5
  refine Aw_exit (hX4 _ _ (hX3 _ _ (hE2 _ (hB1 _ ?_))))
  refine Aw_st hE [2] [] fun K hK=>?_
  simp only [go_sem,reduceIte,Nat.reduceLT,Nat.reduceLeDiff,Nat.reduceEqDiff,Nat.reduceAdd,Nat.reduceMul,Nat.reduceSub,Nat.reduceBEq,Int.reduceToNat,List.reduceReplicate,reduceCtorEq]
  repeat refine sd0 ?_
  refine hK _ (Aw_ret (hQ _ ?_))
  simp only [go_sem,reduceIte,Nat.reduceLT,Nat.reduceLeDiff,Nat.reduceEqDiff,Nat.reduceAdd,Nat.reduceMul,Nat.reduceSub,Nat.reduceBEq,Int.reduceToNat,List.reduceReplicate,reduceCtorEq]
  have e:=hi.2
  rw [List.take_of_length_le (by omega)] at e
  rw [polOk,e,Bool.and_true]
  congr 1
  exact propext (by omega)
end Go.Proofs.W
end
