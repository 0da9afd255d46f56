/- YtadkonppommbbaaDoorWa: part of the proof that laws hold, for every input that the row speaks of (no condition of ours). -/
import Derived.Test.YtadkonppommbbaaDoorEc
import Derived.Test.YtadkonppommbbaaDoorEd
import Derived.Test.YtadkonppommbbaaDoorProg
import Derived.KernelRfl
import Derived.BigQuiet
import Derived.Lib.Hide
import Derived.Lib.ItoaLen
import Derived.Test.YtadkonppommbbaaDoorShelf
import Derived.Lib.SmallJoins
import Derived.Lib.IndexMore
import Derived.Lib.IndexBytes
import Derived.Lib.AtoiAllCases
import Derived.ProofKit
import Derived.OpenShut
import Derived.Below
import Derived.ChangeSame
import Derived.Deep.DeepHandedRow
import Derived.Deep.DeepWitnessRowRef
import Derived.Lib.LaidTab
import Derived.Stop.LaidErr
import Derived.WalkKit
import Derived.LaidEql
import Derived.Stop.Asserts
import Derived.RowKitTokens
import Derived.Outline
import Derived.Test.YtadkonppommbbaaDoorChecked
import Derived.Lib.Overlaps
set_option linter.unusedVariables false
set_option linter.unusedSimpArgs false
section
namespace Go.Proofs.W
open Go Go.Eng Go.RowKit
set_option maxRecDepth 20000
abbrev iv (n:Int):AV:=.v (.int .i64 n)
abbrev bv (b:Bool):AV:=.v (.bool b)
def ty2:TyI:={ size:=1,agg:=false,zero:=[.int .i64 0],fields:=[],elem:=none,ik:=some .i64,isb:=false,eq2:=false,iss:=false,ifc:=false,np:=true,emp:=false,ptr:=false }
theorem ok2:TyOk Tryd.prog 2 ty2:=tyOk_of (by kernel_rfl) rfl Tryd.underlying2 rfl rfl rfl rfl rfl rfl (fun h=>by cases h) (fun h=>by cases h) (fun _=>rfl)
def ty3:TyI:={ size:=1,agg:=false,zero:=[.int .i64 0],fields:=[],elem:=none,ik:=some .i64,isb:=false,eq2:=false,iss:=false,ifc:=false,np:=true,emp:=false,ptr:=false }
theorem ok3:TyOk Tryd.prog 3 ty3:=tyOk_of (by kernel_rfl) rfl Tryd.underlying3 rfl rfl rfl rfl rfl rfl (fun h=>by cases h) (fun h=>by cases h) (fun _=>rfl)
def ty4:TyI:={ size:=1,agg:=false,zero:=[.bool false],fields:=[],elem:=none,ik:=none,isb:=true,eq2:=false,iss:=false,ifc:=false,np:=true,emp:=false,ptr:=false }
theorem ok4:TyOk Tryd.prog 4 ty4:=tyOk_of (by kernel_rfl) rfl Tryd.underlying4 rfl rfl rfl rfl rfl rfl (fun h=>by cases h) (fun h=>by cases h) (fun _=>rfl)
def ty5:TyI:={ size:=1,agg:=false,zero:=[.int .u8 0],fields:=[],elem:=none,ik:=some .u8,isb:=false,eq2:=false,iss:=false,ifc:=false,np:=true,emp:=false,ptr:=false }
theorem ok5:TyOk Tryd.prog 5 ty5:=tyOk_of (by kernel_rfl) rfl Tryd.underlying5 rfl rfl rfl rfl rfl rfl (fun h=>by cases h) (fun h=>by cases h) (fun _=>rfl)
def ty9:TyI:={ size:=1,agg:=false,zero:=[.string ⟨#[]⟩],fields:=[],elem:=none,ik:=none,isb:=false,eq2:=false,iss:=true,ifc:=false,np:=true,emp:=false,ptr:=false }
theorem ok9:TyOk Tryd.prog 9 ty9:=tyOk_of (by kernel_rfl) rfl Tryd.underlying9 rfl rfl rfl rfl rfl rfl (fun h=>by cases h) (fun h=>by cases h) (fun _=>rfl)
def ty12:TyI:={ size:=1,agg:=false,zero:=[.int .u64 0],fields:=[],elem:=none,ik:=some .u64,isb:=false,eq2:=false,iss:=false,ifc:=false,np:=true,emp:=false,ptr:=false }
theorem ok12:TyOk Tryd.prog 12 ty12:=tyOk_of (by kernel_rfl) rfl Tryd.underlying12 rfl rfl rfl rfl rfl rfl (fun h=>by cases h) (fun h=>by cases h) (fun _=>rfl)
def ty21:TyI:={ size:=1,agg:=false,zero:=[.int .i32 0],fields:=[],elem:=none,ik:=some .i32,isb:=false,eq2:=false,iss:=false,ifc:=false,np:=true,emp:=false,ptr:=false }
theorem ok21:TyOk Tryd.prog 21 ty21:=tyOk_of (by kernel_rfl) rfl Tryd.underlying21 rfl rfl rfl rfl rfl rfl (fun h=>by cases h) (fun h=>by cases h) (fun _=>rfl)
def ty22:TyI:={ size:=1,agg:=false,zero:=[.slice none 0 0],fields:=[],elem:=some 5,ik:=none,isb:=false,eq2:=false,iss:=false,ifc:=false,np:=true,emp:=false,ptr:=false }
theorem ok22:TyOk Tryd.prog 22 ty22:=tyOk_of (by kernel_rfl) rfl Tryd.underlying22 rfl rfl rfl rfl rfl rfl (fun h=>by cases h) (fun h=>by cases h) (fun _=>rfl)
def ty23:TyI:={ size:=1,agg:=false,zero:=[.slice none 0 0],fields:=[],elem:=some 58,ik:=none,isb:=false,eq2:=false,iss:=false,ifc:=false,np:=true,emp:=false,ptr:=false }
theorem ok23:TyOk Tryd.prog 23 ty23:=tyOk_of (by kernel_rfl) rfl Tryd.underlying23 rfl rfl rfl rfl rfl rfl (fun h=>by cases h) (fun h=>by cases h) (fun _=>rfl)
def ty24:TyI:={ size:=1,agg:=false,zero:=[.slice none 0 0],fields:=[],elem:=some 37,ik:=none,isb:=false,eq2:=false,iss:=false,ifc:=false,np:=true,emp:=false,ptr:=false }
theorem ok24:TyOk Tryd.prog 24 ty24:=tyOk_of (by kernel_rfl) rfl Tryd.underlying24 rfl rfl rfl rfl rfl rfl (fun h=>by cases h) (fun h=>by cases h) (fun _=>rfl)
def ty25:TyI:={ size:=2,agg:=true,zero:=[.int .i64 0,.int .i64 0],fields:=[(0,3),(1,3)],elem:=none,ik:=none,isb:=false,eq2:=true,iss:=false,ifc:=false,np:=true,emp:=false,ptr:=false }
theorem ok25:TyOk Tryd.prog 25 ty25:=tyOk_of (by kernel_rfl) rfl Tryd.underlying25 rfl rfl rfl rfl rfl rfl (fun _=>eq2_of Tryd.underlying25 (by kernel_rfl) (by kernel_rfl) (by decide) (by decide) rfl rfl rfl rfl Tryd.underlying3 Tryd.underlying3) (fun h=>by cases h) (fun _=>rfl)
def ty26:TyI:={ size:=2,agg:=true,zero:=[.int .i64 0,.int .i64 0],fields:=[(0,3),(1,3)],elem:=none,ik:=none,isb:=false,eq2:=true,iss:=false,ifc:=false,np:=true,emp:=false,ptr:=false }
theorem ok26:TyOk Tryd.prog 26 ty26:=tyOk_of (by kernel_rfl) rfl Tryd.underlying26 rfl rfl rfl rfl rfl rfl (fun _=>eq2_of Tryd.underlying26 (by kernel_rfl) (by kernel_rfl) (by decide) (by decide) rfl rfl rfl rfl Tryd.underlying3 Tryd.underlying3) (fun h=>by cases h) (fun _=>rfl)
def ty27:TyI:={ size:=1,agg:=false,zero:=[.slice none 0 0],fields:=[],elem:=some 3,ik:=none,isb:=false,eq2:=false,iss:=false,ifc:=false,np:=true,emp:=false,ptr:=false }
theorem ok27:TyOk Tryd.prog 27 ty27:=tyOk_of (by kernel_rfl) rfl Tryd.underlying27 rfl rfl rfl rfl rfl rfl (fun h=>by cases h) (fun h=>by cases h) (fun _=>rfl)
def ty28:TyI:={ size:=5,agg:=true,zero:=[.int .i64 0,.int .i64 0,.slice none 0 0,.int .i64 0,.slice none 0 0],fields:=[(0,26),(2,27),(3,3),(4,27)],elem:=none,ik:=none,isb:=false,eq2:=false,iss:=false,ifc:=false,np:=true,emp:=false,ptr:=false }
theorem ok28:TyOk Tryd.prog 28 ty28:=tyOk_of (by kernel_rfl) rfl Tryd.underlying28 rfl rfl rfl rfl rfl rfl (fun h=>by cases h) (fun h=>by cases h) (fun _=>rfl)
def ty29:TyI:={ size:=5,agg:=true,zero:=[.int .i64 0,.int .i64 0,.slice none 0 0,.int .i64 0,.slice none 0 0],fields:=[(0,26),(2,27),(3,3),(4,27)],elem:=none,ik:=none,isb:=false,eq2:=false,iss:=false,ifc:=false,np:=true,emp:=false,ptr:=false }
theorem ok29:TyOk Tryd.prog 29 ty29:=tyOk_of (by kernel_rfl) rfl Tryd.underlying29 rfl rfl rfl rfl rfl rfl (fun h=>by cases h) (fun h=>by cases h) (fun _=>rfl)
def ty36:TyI:={ size:=5,agg:=true,zero:=[.int .i64 0,.int .i64 0,.int .i64 0,.int .i64 0,.slice none 0 0],fields:=[(0,3),(1,3),(2,26),(4,27)],elem:=none,ik:=none,isb:=false,eq2:=false,iss:=false,ifc:=false,np:=true,emp:=false,ptr:=false }
theorem ok36:TyOk Tryd.prog 36 ty36:=tyOk_of (by kernel_rfl) rfl Tryd.underlying36 rfl rfl rfl rfl rfl rfl (fun h=>by cases h) (fun h=>by cases h) (fun _=>rfl)
def ty37:TyI:={ size:=5,agg:=true,zero:=[.int .i64 0,.int .i64 0,.int .i64 0,.int .i64 0,.slice none 0 0],fields:=[(0,3),(1,3),(2,26),(4,27)],elem:=none,ik:=none,isb:=false,eq2:=false,iss:=false,ifc:=false,np:=true,emp:=false,ptr:=false }
theorem ok37:TyOk Tryd.prog 37 ty37:=tyOk_of (by kernel_rfl) rfl Tryd.underlying37 rfl rfl rfl rfl rfl rfl (fun h=>by cases h) (fun h=>by cases h) (fun _=>rfl)
def ty40:TyI:={ size:=1,agg:=false,zero:=[.pointer none],fields:=[],elem:=none,ik:=none,isb:=false,eq2:=false,iss:=false,ifc:=false,np:=true,emp:=false,ptr:=true }
theorem ok40:TyOk Tryd.prog 40 ty40:=tyOk_of (by kernel_rfl) rfl Tryd.underlying40 rfl rfl rfl rfl rfl rfl (fun h=>by cases h) (fun h=>by cases h) (fun _=>rfl) (h13:=fun _=>⟨_,rfl⟩)
def ty43:TyI:={ size:=1,agg:=false,zero:=[.int .u64 0],fields:=[],elem:=none,ik:=some .u64,isb:=false,eq2:=false,iss:=false,ifc:=false,np:=true,emp:=false,ptr:=false }
theorem ok43:TyOk Tryd.prog 43 ty43:=tyOk_of (by kernel_rfl) rfl Tryd.underlying43 rfl rfl rfl rfl rfl rfl (fun h=>by cases h) (fun h=>by cases h) (fun _=>rfl)
def ty44:TyI:={ size:=2,agg:=true,zero:=[.int .u64 0,.slice none 0 0],fields:=[(0,43),(1,27)],elem:=none,ik:=none,isb:=false,eq2:=false,iss:=false,ifc:=false,np:=true,emp:=false,ptr:=false }
theorem ok44:TyOk Tryd.prog 44 ty44:=tyOk_of (by kernel_rfl) rfl Tryd.underlying44 rfl rfl rfl rfl rfl rfl (fun h=>by cases h) (fun h=>by cases h) (fun _=>rfl)
def ty45:TyI:={ size:=2,agg:=true,zero:=[.int .u64 0,.slice none 0 0],fields:=[(0,43),(1,27)],elem:=none,ik:=none,isb:=false,eq2:=false,iss:=false,ifc:=false,np:=true,emp:=false,ptr:=false }
theorem ok45:TyOk Tryd.prog 45 ty45:=tyOk_of (by kernel_rfl) rfl Tryd.underlying45 rfl rfl rfl rfl rfl rfl (fun h=>by cases h) (fun h=>by cases h) (fun _=>rfl)
def ty47:TyI:={ size:=1,agg:=false,zero:=[.nilIface],fields:=[],elem:=none,ik:=none,isb:=false,eq2:=false,iss:=false,ifc:=true,np:=false,emp:=false,ptr:=false }
theorem ok47:TyOk Tryd.prog 47 ty47:=tyOk_of (by kernel_rfl) rfl Tryd.underlying47 rfl rfl rfl rfl rfl rfl (fun h=>by cases h) (fun _=>rfl)
def ty57:TyI:={ size:=3,agg:=true,zero:=[.int .i64 0,.int .i64 0,.int .i64 0],fields:=[(0,3),(1,26)],elem:=none,ik:=none,isb:=false,eq2:=false,iss:=false,ifc:=false,np:=true,emp:=false,ptr:=false }
theorem ok57:TyOk Tryd.prog 57 ty57:=tyOk_of (by kernel_rfl) rfl Tryd.underlying57 rfl rfl rfl rfl rfl rfl (fun h=>by cases h) (fun h=>by cases h) (fun _=>rfl)
def ty58:TyI:={ size:=3,agg:=true,zero:=[.int .i64 0,.int .i64 0,.int .i64 0],fields:=[(0,3),(1,26)],elem:=none,ik:=none,isb:=false,eq2:=false,iss:=false,ifc:=false,np:=true,emp:=false,ptr:=false }
theorem ok58:TyOk Tryd.prog 58 ty58:=tyOk_of (by kernel_rfl) rfl Tryd.underlying58 rfl rfl rfl rfl rfl rfl (fun h=>by cases h) (fun h=>by cases h) (fun _=>rfl)
def ty59:TyI:={ size:=2,agg:=true,zero:=[.slice none 0 0,.int .i64 0],fields:=[(0,22),(1,3)],elem:=none,ik:=none,isb:=false,eq2:=false,iss:=false,ifc:=false,np:=true,emp:=false,ptr:=false }
theorem ok59:TyOk Tryd.prog 59 ty59:=tyOk_of (by kernel_rfl) rfl Tryd.underlying59 rfl rfl rfl rfl rfl rfl (fun h=>by cases h) (fun h=>by cases h) (fun _=>rfl)
def ty60:TyI:={ size:=2,agg:=true,zero:=[.slice none 0 0,.int .i64 0],fields:=[(0,22),(1,3)],elem:=none,ik:=none,isb:=false,eq2:=false,iss:=false,ifc:=false,np:=true,emp:=false,ptr:=false }
theorem ok60:TyOk Tryd.prog 60 ty60:=tyOk_of (by kernel_rfl) rfl Tryd.underlying60 rfl rfl rfl rfl rfl rfl (fun h=>by cases h) (fun h=>by cases h) (fun _=>rfl)
def ty62:TyI:={ size:=1,agg:=false,zero:=[.map none],fields:=[],elem:=none,ik:=none,isb:=false,eq2:=false,iss:=false,ifc:=false,np:=true,emp:=false,ptr:=false,mp:=some (2,.agg #[]) }
theorem ok62:TyOk Tryd.prog 62 ty62:=tyOk_of (by kernel_rfl) rfl Tryd.underlying62 rfl rfl rfl rfl rfl rfl (fun h=>by cases h) (fun h=>by cases h) (fun _=>rfl) (h14:=fun _ _ h=>by cases h;exact mpTy_seal Tryd.underlying62 (by kernel_rfl) rfl Tryd.underlying67 (by kernel_rfl) (by decide) (by decide) (by decide) (by decide) rfl rfl rfl rfl rfl rfl rfl rfl Tryd.underlying3 Tryd.underlying3 Tryd.underlying26 Tryd.underlying9 (by kernel_rfl) (by kernel_rfl) (by decide) (by decide) rfl rfl rfl rfl Tryd.underlying3 Tryd.underlying3)
def ty63:TyI:={ size:=1,agg:=false,zero:=[.map none],fields:=[],elem:=none,ik:=none,isb:=false,eq2:=false,iss:=false,ifc:=false,np:=true,emp:=false,ptr:=false,mp:=some (2,.agg #[]) }
theorem ok63:TyOk Tryd.prog 63 ty63:=tyOk_of (by kernel_rfl) rfl Tryd.underlying63 rfl rfl rfl rfl rfl rfl (fun h=>by cases h) (fun h=>by cases h) (fun _=>rfl) (h14:=fun _ _ h=>by cases h;exact mpTy_seal Tryd.underlying63 (by kernel_rfl) rfl Tryd.underlying67 (by kernel_rfl) (by decide) (by decide) (by decide) (by decide) rfl rfl rfl rfl rfl rfl rfl rfl Tryd.underlying3 Tryd.underlying3 Tryd.underlying26 Tryd.underlying9 (by kernel_rfl) (by kernel_rfl) (by decide) (by decide) rfl rfl rfl rfl Tryd.underlying3 Tryd.underlying3)
def ty66:TyI:={ size:=5,agg:=true,zero:=[.int .i64 0,.int .i64 0,.int .i64 0,.int .i64 0,.string ⟨#[]⟩],fields:=[(0,3),(1,3),(2,26),(4,9)],elem:=none,ik:=none,isb:=false,eq2:=false,iss:=false,ifc:=false,np:=true,emp:=false,ptr:=false }
theorem ok66:TyOk Tryd.prog 66 ty66:=tyOk_of (by kernel_rfl) rfl Tryd.underlying66 rfl rfl rfl rfl rfl rfl (fun h=>by cases h) (fun h=>by cases h) (fun _=>rfl)
def ty67:TyI:={ size:=5,agg:=true,zero:=[.int .i64 0,.int .i64 0,.int .i64 0,.int .i64 0,.string ⟨#[]⟩],fields:=[(0,3),(1,3),(2,26),(4,9)],elem:=none,ik:=none,isb:=false,eq2:=false,iss:=false,ifc:=false,np:=true,emp:=false,ptr:=false }
theorem ok67:TyOk Tryd.prog 67 ty67:=tyOk_of (by kernel_rfl) rfl Tryd.underlying67 rfl rfl rfl rfl rfl rfl (fun h=>by cases h) (fun h=>by cases h) (fun _=>rfl)
def ty80:TyI:={ size:=1,agg:=false,zero:=[.slice none 0 0],fields:=[],elem:=some 27,ik:=none,isb:=false,eq2:=false,iss:=false,ifc:=false,np:=true,emp:=false,ptr:=false }
theorem ok80:TyOk Tryd.prog 80 ty80:=tyOk_of (by kernel_rfl) rfl Tryd.underlying80 rfl rfl rfl rfl rfl rfl (fun h=>by cases h) (fun h=>by cases h) (fun _=>rfl)
def ty89:TyI:={ size:=0,agg:=true,zero:=[],fields:=[],elem:=none,ik:=none,isb:=false,eq2:=false,iss:=false,ifc:=false,np:=true,emp:=true,ptr:=false }
theorem ok89:TyOk Tryd.prog 89 ty89:=tyOk_of (by kernel_rfl) rfl Tryd.underlying89 rfl rfl rfl rfl rfl rfl (fun h=>by cases h) (fun h=>by cases h) (fun _=>rfl) (fun _=>⟨rfl,rfl⟩)
def ty95:TyI:={ size:=1,agg:=false,zero:=[.slice none 0 0],fields:=[],elem:=some 47,ik:=none,isb:=false,eq2:=false,iss:=false,ifc:=false,np:=true,emp:=false,ptr:=false }
theorem ok95:TyOk Tryd.prog 95 ty95:=tyOk_of (by kernel_rfl) rfl Tryd.underlying95 rfl rfl rfl rfl rfl rfl (fun h=>by cases h) (fun h=>by cases h) (fun _=>rfl)
def ty96:TyI:={ size:=1,agg:=false,zero:=[.pointer none],fields:=[],elem:=none,ik:=none,isb:=false,eq2:=false,iss:=false,ifc:=false,np:=true,emp:=false,ptr:=true }
theorem ok96:TyOk Tryd.prog 96 ty96:=tyOk_of (by kernel_rfl) rfl Tryd.underlying96 rfl rfl rfl rfl rfl rfl (fun h=>by cases h) (fun h=>by cases h) (fun _=>rfl) (h13:=fun _=>⟨_,rfl⟩)
def ty97:TyI:={ size:=1,agg:=true,zero:=[.slice none 0 0],fields:=[(0,95)],elem:=none,ik:=none,isb:=false,eq2:=false,iss:=false,ifc:=false,np:=true,emp:=false,ptr:=false }
theorem ok97:TyOk Tryd.prog 97 ty97:=tyOk_of (by kernel_rfl) rfl Tryd.underlying97 rfl rfl rfl rfl rfl rfl (fun h=>by cases h) (fun h=>by cases h) (fun _=>rfl)
def ty98:TyI:={ size:=1,agg:=true,zero:=[.slice none 0 0],fields:=[(0,95)],elem:=none,ik:=none,isb:=false,eq2:=false,iss:=false,ifc:=false,np:=true,emp:=false,ptr:=false }
theorem ok98:TyOk Tryd.prog 98 ty98:=tyOk_of (by kernel_rfl) rfl Tryd.underlying98 rfl rfl rfl rfl rfl rfl (fun h=>by cases h) (fun h=>by cases h) (fun _=>rfl)
def ty99:TyI:={ size:=1,agg:=false,zero:=[.pointer none],fields:=[],elem:=none,ik:=none,isb:=false,eq2:=false,iss:=false,ifc:=false,np:=true,emp:=false,ptr:=true }
theorem ok99:TyOk Tryd.prog 99 ty99:=tyOk_of (by kernel_rfl) rfl Tryd.underlying99 rfl rfl rfl rfl rfl rfl (fun h=>by cases h) (fun h=>by cases h) (fun _=>rfl) (h13:=fun _=>⟨_,rfl⟩)
def ty100:TyI:={ size:=1,agg:=true,zero:=[.string ⟨#[]⟩],fields:=[(0,9)],elem:=none,ik:=none,isb:=false,eq2:=false,iss:=false,ifc:=false,np:=true,emp:=false,ptr:=false }
theorem ok100:TyOk Tryd.prog 100 ty100:=tyOk_of (by kernel_rfl) rfl Tryd.underlying100 rfl rfl rfl rfl rfl rfl (fun h=>by cases h) (fun h=>by cases h) (fun _=>rfl)
def ty101:TyI:={ size:=1,agg:=true,zero:=[.string ⟨#[]⟩],fields:=[(0,9)],elem:=none,ik:=none,isb:=false,eq2:=false,iss:=false,ifc:=false,np:=true,emp:=false,ptr:=false }
theorem ok101:TyOk Tryd.prog 101 ty101:=tyOk_of (by kernel_rfl) rfl Tryd.underlying101 rfl rfl rfl rfl rfl rfl (fun h=>by cases h) (fun h=>by cases h) (fun _=>rfl)
def ty117:TyI:={ size:=1,agg:=false,zero:=[.int .u64 0],fields:=[],elem:=none,ik:=some .u64,isb:=false,eq2:=false,iss:=false,ifc:=false,np:=true,emp:=false,ptr:=false }
theorem ok117:TyOk Tryd.prog 117 ty117:=tyOk_of (by kernel_rfl) rfl Tryd.underlying117 rfl rfl rfl rfl rfl rfl (fun h=>by cases h) (fun h=>by cases h) (fun _=>rfl)
def ty124:TyI:={ size:=1,agg:=false,zero:=[.int .u32 0],fields:=[],elem:=none,ik:=some .u32,isb:=false,eq2:=false,iss:=false,ifc:=false,np:=true,emp:=false,ptr:=false }
theorem ok124:TyOk Tryd.prog 124 ty124:=tyOk_of (by kernel_rfl) rfl Tryd.underlying124 rfl rfl rfl rfl rfl rfl (fun h=>by cases h) (fun h=>by cases h) (fun _=>rfl)
def ty139:TyI:={ size:=1,agg:=false,zero:=[.pointer none],fields:=[],elem:=none,ik:=none,isb:=false,eq2:=false,iss:=false,ifc:=false,np:=true,emp:=false,ptr:=true }
theorem ok139:TyOk Tryd.prog 139 ty139:=tyOk_of (by kernel_rfl) rfl Tryd.underlying139 rfl rfl rfl rfl rfl rfl (fun h=>by cases h) (fun h=>by cases h) (fun _=>rfl) (h13:=fun _=>⟨_,rfl⟩)
def ty155:TyI:={ size:=1,agg:=false,zero:=[.int .u16 0],fields:=[],elem:=none,ik:=some .u16,isb:=false,eq2:=false,iss:=false,ifc:=false,np:=true,emp:=false,ptr:=false }
theorem ok155:TyOk Tryd.prog 155 ty155:=tyOk_of (by kernel_rfl) rfl Tryd.underlying155 rfl rfl rfl rfl rfl rfl (fun h=>by cases h) (fun h=>by cases h) (fun _=>rfl)
def TT:List (TypeId × TyI):=[(2,ty2),(3,ty3),(4,ty4),(5,ty5),(9,ty9),(12,ty12),(21,ty21),(22,ty22),(23,ty23),(24,ty24),(25,ty25),(26,ty26),(27,ty27),(28,ty28),(29,ty29),(36,ty36),(37,ty37),(40,ty40),(43,ty43),(44,ty44),(45,ty45),(47,ty47),(57,ty57),(58,ty58),(59,ty59),(60,ty60),(62,ty62),(63,ty63),(66,ty66),(67,ty67),(80,ty80),(89,ty89),(95,ty95),(96,ty96),(97,ty97),(98,ty98),(99,ty99),(100,ty100),(101,ty101),(117,ty117),(124,ty124),(139,ty139),(155,ty155)]
theorem tt:TysOk Tryd.prog TT:=tysOk_cons ok2 (tysOk_cons ok3 (tysOk_cons ok4 (tysOk_cons ok5 (tysOk_cons ok9 (tysOk_cons ok12 (tysOk_cons ok21 (tysOk_cons ok22 (tysOk_cons ok23 (tysOk_cons ok24 (tysOk_cons ok25 (tysOk_cons ok26 (tysOk_cons ok27 (tysOk_cons ok28 (tysOk_cons ok29 (tysOk_cons ok36 (tysOk_cons ok37 (tysOk_cons ok40 (tysOk_cons ok43 (tysOk_cons ok44 (tysOk_cons ok45 (tysOk_cons ok47 (tysOk_cons ok57 (tysOk_cons ok58 (tysOk_cons ok59 (tysOk_cons ok60 (tysOk_cons ok62 (tysOk_cons ok63 (tysOk_cons ok66 (tysOk_cons ok67 (tysOk_cons ok80 (tysOk_cons ok89 (tysOk_cons ok95 (tysOk_cons ok96 (tysOk_cons ok97 (tysOk_cons ok98 (tysOk_cons ok99 (tysOk_cons ok100 (tysOk_cons ok101 (tysOk_cons ok117 (tysOk_cons ok124 (tysOk_cons ok139 (tysOk_cons ok155 tysOk_nil))))))))))))))))))))))))))))))))))))))))))
theorem tyk2:tyk 2 TT=some ty2:=rfl
theorem tyk3:tyk 3 TT=some ty3:=rfl
theorem tyk4:tyk 4 TT=some ty4:=rfl
theorem tyk5:tyk 5 TT=some ty5:=rfl
theorem tyk9:tyk 9 TT=some ty9:=rfl
theorem tyk12:tyk 12 TT=some ty12:=rfl
theorem tyk21:tyk 21 TT=some ty21:=rfl
theorem tyk22:tyk 22 TT=some ty22:=rfl
theorem tyk23:tyk 23 TT=some ty23:=rfl
theorem tyk24:tyk 24 TT=some ty24:=rfl
theorem tyk25:tyk 25 TT=some ty25:=rfl
theorem tyk26:tyk 26 TT=some ty26:=rfl
theorem tyk27:tyk 27 TT=some ty27:=rfl
theorem tyk28:tyk 28 TT=some ty28:=rfl
theorem tyk29:tyk 29 TT=some ty29:=rfl
theorem tyk36:tyk 36 TT=some ty36:=rfl
theorem tyk37:tyk 37 TT=some ty37:=rfl
theorem tyk40:tyk 40 TT=some ty40:=rfl
theorem tyk43:tyk 43 TT=some ty43:=rfl
theorem tyk44:tyk 44 TT=some ty44:=rfl
theorem tyk45:tyk 45 TT=some ty45:=rfl
theorem tyk47:tyk 47 TT=some ty47:=rfl
theorem tyk57:tyk 57 TT=some ty57:=rfl
theorem tyk58:tyk 58 TT=some ty58:=rfl
theorem tyk59:tyk 59 TT=some ty59:=rfl
theorem tyk60:tyk 60 TT=some ty60:=rfl
theorem tyk62:tyk 62 TT=some ty62:=rfl
theorem tyk63:tyk 63 TT=some ty63:=rfl
theorem tyk66:tyk 66 TT=some ty66:=rfl
theorem tyk67:tyk 67 TT=some ty67:=rfl
theorem tyk80:tyk 80 TT=some ty80:=rfl
theorem tyk89:tyk 89 TT=some ty89:=rfl
theorem tyk95:tyk 95 TT=some ty95:=rfl
theorem tyk96:tyk 96 TT=some ty96:=rfl
theorem tyk97:tyk 97 TT=some ty97:=rfl
theorem tyk98:tyk 98 TT=some ty98:=rfl
theorem tyk99:tyk 99 TT=some ty99:=rfl
theorem tyk100:tyk 100 TT=some ty100:=rfl
theorem tyk101:tyk 101 TT=some ty101:=rfl
theorem tyk117:tyk 117 TT=some ty117:=rfl
theorem tyk124:tyk 124 TT=some ty124:=rfl
theorem tyk139:tyk 139 TT=some ty139:=rfl
theorem tyk155:tyk 155 TT=some ty155:=rfl
attribute [go_sem] ty2 tyk2 ty3 tyk3 ty4 tyk4 ty5 tyk5 ty9 tyk9 ty12 tyk12 ty21 tyk21 ty22 tyk22 ty23 tyk23 ty24 tyk24 ty25 tyk25 ty26 tyk26 ty27 tyk27 ty28 tyk28 ty29 tyk29 ty36 tyk36 ty37 tyk37 ty40 tyk40 ty43 tyk43 ty44 tyk44 ty45 tyk45 ty47 tyk47 ty57 tyk57 ty58 tyk58 ty59 tyk59 ty60 tyk60 ty62 tyk62 ty63 tyk63 ty66 tyk66 ty67 tyk67 ty80 tyk80 ty89 tyk89 ty95 tyk95 ty96 tyk96 ty97 tyk97 ty98 tyk98 ty99 tyk99 ty100 tyk100 ty101 tyk101 ty117 tyk117 ty124 tyk124 ty139 tyk139 ty155 tyk155
set_option maxRecDepth 10000
theorem byteRows_len (bs:List Nat):(byteRows bs).length=bs.length:=by simp [byteRows]
theorem byteRows_get (bs:List Nat) (k:Nat) (h:k < bs.length):(byteRows bs)[k]? = some [.v (.int .u8 ((bs.getD k 0:Nat):Int))]:=by
 simp [byteRows,List.getD_eq_getElem?_getD,h]
theorem getD_lt {bs:List Nat} (h:∀ b ∈ bs,b < 256) (k:Nat):bs.getD k 0 < 256:=by
 rw [List.getD_eq_getElem?_getD]
 cases hk:bs[k]? with
 | none=>simp
 | some b=>simpa using h b (List.mem_of_getElem? hk)
theorem mod_lt (a:Int) (l:Nat) (ha:0≤a) (hl:0 < l):(a.tmod (l:Int)).toNat < l:=by
 rw [Int.tmod_eq_emod_of_nonneg ha]
 have:=Int.emod_lt_of_pos a (show (0:Int) < l by omega)
 have:=Int.emod_nonneg a (show (l:Int)≠0 by omega)
 omega
theorem wrapB (u:Nat) (h:u < 256):IntKind.i64.wrap (u:Int)=u:=wrap64_in _ (by omega)
theorem xor_nonneg (x y:Int) (hx:0≤x) (hx1:x < 9223372036854775807) (hy:0≤y) (hy1:y < 9223372036854775807):∃ z:Int,IntKind.i64.wrap ((BitVec.ofInt 64 x ^^^ BitVec.ofInt 64 y).toNat:Int)=z∧0≤z:=by
 obtain ⟨a,rfl⟩:=Int.eq_ofNat_of_zero_le hx
 obtain ⟨b,rfl⟩:=Int.eq_ofNat_of_zero_le hy
 have e1:BitVec.ofInt 64 (a:Int)=BitVec.ofNat 64 a:=by simp
 have e2:BitVec.ofInt 64 (b:Int)=BitVec.ofNat 64 b:=by simp
 rw [e1,e2,BitVec.toNat_xor,BitVec.toNat_ofNat,BitVec.toNat_ofNat,Nat.mod_eq_of_lt (by omega),Nat.mod_eq_of_lt (by omega)]
 have h:=Nat.xor_lt_two_pow (n:=63) (x:=a) (y:=b) (by omega) (by omega)
 exact ⟨_,wrap64_in _ (by omega),by omega⟩
def pickSt (bs:List Nat) (p n:Int) (k:Nat):St:=⟨99,[(0,.el [.sl (byteRows bs),.v (.int .i64 p)]),(1,iv n),(4,iv 0)],[],k⟩
def pickOk (n:Int) (st:St):Prop:=∃ x:Int,lk 4 st.σ=iv x∧0≤x∧(x < n∨x=0)
theorem pick_rest {E:En} (hE:TbOk E { T:=TT,G:=[],D:=[],draws:=false }) (bs:List Nat) (hbs:∀ b ∈ bs,b < 256) (hlen:bs.length≤2000) (p n:Int) (hp:1≤p) (hp2:p≤1099511627776) (k:Nat) {Q:Exit→St→Prop} (hQ:∀ st,pickOk n st→Q .ret st) {a b rest:Code} (hbody:Tryd.f19.body=some (.seq a (.seq b rest))) :
  Aw E rest (pickSt bs p n k) Q:=by
 obtain ⟨rfl,h⟩:=Code.seq.inj (Option.some.inj hbody)
 obtain ⟨rfl,rfl⟩:=Code.seq.inj h
 unfold pickSt
 refine Aw_sq fun B hB hR hX=>?_
 refine Aw_st hE [0,1,4,24] [] fun K hK=>?_
 simp only [go_sem,reduceIte,Nat.reduceLT,Nat.reduceLeDiff,Nat.reduceEqDiff,Nat.reduceAdd,Nat.reduceMul,Nat.reduceSub,Nat.reduceBEq,Int.reduceToNat,List.reduceReplicate,reduceCtorEq]
 have e0:∀ st,K st→True:=fun _ _=>trivial
 clear e0
 refine ⟨fun h1=>?_,fun h1=>?_⟩
 ·refine hK _ (Aw_cond rfl (fun _=>?_) (fun hcc=>by cases hcc))
  refine Aw_st hE [4] [] fun K hK=>?_
  simp only [go_sem,reduceIte,Nat.reduceLT,Nat.reduceLeDiff,Nat.reduceEqDiff,Nat.reduceAdd,Nat.reduceMul,Nat.reduceSub,Nat.reduceBEq,Int.reduceToNat,List.reduceReplicate,reduceCtorEq]
  exact hK _ (Aw_ret (hR _ (hQ _ ⟨0,rfl,by omega,.inr rfl⟩)))
 simp only [dfn] at h1
 refine hK _ (Aw_cond rfl (fun hcc=>?_) (fun hcc=>Aw_skip (hB _ ?_)))
 ·skip
  refine Aw_st hE [4] [] fun K hK=>?_
  simp only [go_sem,reduceIte,Nat.reduceLT,Nat.reduceLeDiff,Nat.reduceEqDiff,Nat.reduceAdd,Nat.reduceMul,Nat.reduceSub,Nat.reduceBEq,Int.reduceToNat,List.reduceReplicate,reduceCtorEq]
  exact hK _ (Aw_ret (hR _ (hQ _ ⟨0,rfl,by omega,.inr rfl⟩)))
 simp only [dfn,byteRows_len] at hcc
 clear hR hX hB hK B K
 refine Aw_st hE [0,1,4,5] [] fun K hK=>?_
 simp only [go_sem,reduceIte,Nat.reduceLT,Nat.reduceLeDiff,Nat.reduceEqDiff,Nat.reduceAdd,Nat.reduceMul,Nat.reduceSub,Nat.reduceBEq,Int.reduceToNat,List.reduceReplicate,reduceCtorEq]
 refine ⟨by omega,?_⟩
 refine hK _ ?_;clear hK K
 refine Aw_sq fun B hB hR hX=>?_
 refine Aw_st hE [0,1,4,5,36] [] fun K hK=>?_
 simp only [go_sem,reduceIte,Nat.reduceLT,Nat.reduceLeDiff,Nat.reduceEqDiff,Nat.reduceAdd,Nat.reduceMul,Nat.reduceSub,Nat.reduceBEq,Int.reduceToNat,List.reduceReplicate,reduceCtorEq]
 refine hK _ (Aw_cond rfl (fun hcc=>?_) (fun hcc=>Aw_skip (hB _ ?_)))
 ·simp only [dte,byteRows_len] at hcc
  have hget:=byteRows_get bs (p - 1).toNat (by omega)
  have hb:bs.getD (p - 1).toNat 0 < 256:=getD_lt hbs _
  refine Aw_st hE [4] [] fun K hK=>?_
  simp only [go_sem,reduceIte,Nat.reduceLT,Nat.reduceLeDiff,Nat.reduceEqDiff,Nat.reduceAdd,Nat.reduceMul,Nat.reduceSub,Nat.reduceBEq,Int.reduceToNat,List.reduceReplicate,reduceCtorEq,hget]
  rw [wrapB _ hb]
  refine ⟨by omega,by omega,hK _ (Aw_ret (hR _ (hQ _ ⟨_,rfl,?_,.inl ?_⟩)))⟩
  ·exact Int.tmod_nonneg _ (by omega)
  ·rw [Int.tmod_eq_emod_of_nonneg (by omega)];exact Int.emod_lt_of_pos _ (by omega)
 rename_i hl0
 simp only [dfn,byteRows_len] at hcc
 have g1:=byteRows_get bs ((p - 1).tmod (bs.length:Int)).toNat (mod_lt _ _ (by omega) (by omega))
 have g2:=byteRows_get bs (((p - 1) * 7 + 3).tmod (bs.length:Int)).toNat (mod_lt _ _ (by omega) (by omega))
 clear hR hX hB hK B K
 refine Aw_sd hE [1,6] [] 6 (by kernel_rfl) fun K hK=>?_
 simp only [go_sem,reduceIte,Nat.reduceLT,Nat.reduceLeDiff,Nat.reduceEqDiff,Nat.reduceAdd,Nat.reduceMul,Nat.reduceSub,Nat.reduceBEq,Int.reduceToNat,List.reduceReplicate,reduceCtorEq,g1,g2,byteRows_len]
 have b1:=getD_lt hbs ((p - 1).tmod (bs.length:Int)).toNat
 have b2:=getD_lt hbs (((p - 1) * 7 + 3).tmod (bs.length:Int)).toNat
 simp only [wrapB _ b1,wrapB _ b2]
 generalize bs.getD ((p - 1).tmod (bs.length:Int)).toNat 0=u1 at b1
 generalize bs.getD (((p - 1) * 7 + 3).tmod (bs.length:Int)).toNat 0=u2 at b2
 have m1:0≤(p - 1).tmod (bs.length:Int):=Int.tmod_nonneg _ (by omega)
 have m2:0≤((p - 1) * 7 + 3).tmod (bs.length:Int):=Int.tmod_nonneg _ (by omega)
 have q1:0≤(p - 1).tdiv (bs.length:Int):=Int.tdiv_nonneg (by omega) (by omega)
 have q2:(p - 1).tdiv (bs.length:Int)≤p - 1:=by
  rw [Int.tdiv_eq_ediv_of_nonneg (by omega)]
  exact Int.ediv_le_self _ (by omega)
 generalize (p - 1).tdiv (bs.length:Int)=q at q1 q2
 refine ⟨by omega,m1,by omega,by omega,by omega,by omega,m2,by omega,by omega,by omega,by omega,by omega,by omega,by omega,?_⟩
 generalize hx:(u1:Int) * 131 + (u2:Int) * 1117 + (p - 1) * 29 + q * 53=x
 have x0:0≤x:=by omega
 have x1:x < 9223372036854775807:=by omega
 refine hK _ ?_;clear hK K
 refine Aw_st hE [1,6] [] fun K hK=>?_
 simp only [go_sem,reduceIte,Nat.reduceLT,Nat.reduceLeDiff,Nat.reduceEqDiff,Nat.reduceAdd,Nat.reduceMul,Nat.reduceSub,Nat.reduceBEq,Int.reduceToNat,List.reduceReplicate,reduceCtorEq]
 have d1:0≤x.tdiv 64:=Int.tdiv_nonneg x0 (by omega)
 have d2:x.tdiv 64≤x:=by rw [Int.tdiv_eq_ediv_of_nonneg x0];exact Int.ediv_le_self _ x0
 refine ⟨⟨by omega,by omega,by omega⟩,?_⟩
 obtain ⟨y,hy,hy0⟩:=xor_nonneg x (x.tdiv 64) x0 x1 d1 (by omega)
 erw [hy]
 refine hK _ ?_;clear hK K
 refine Aw_st hE [4] [] fun K hK=>?_
 simp only [go_sem,reduceIte,Nat.reduceLT,Nat.reduceLeDiff,Nat.reduceEqDiff,Nat.reduceAdd,Nat.reduceMul,Nat.reduceSub,Nat.reduceBEq,Int.reduceToNat,List.reduceReplicate,reduceCtorEq]
 refine ⟨by omega,hK _ (Aw_ret (hQ _ ⟨_,rfl,Int.tmod_nonneg _ hy0,.inl ?_⟩))⟩
 rw [Int.tmod_eq_emod_of_nonneg hy0];exact Int.emod_lt_of_pos _ (by omega)
set_option maxRecDepth 100000
def cPick:Con:={ pre:=fun args=>∃ n:Int,args=[.rd,iv n],post:=fun args r=>∀ n:Int,args=[.rd,iv n]→∃ x:Int,r=iv x∧0≤x∧(x < n∨x=0),cost:=1,draws:=true }
theorem cPick_own:cPick.own=false:=rfl
theorem cPick_draws:cPick.draws=true:=rfl
theorem cPick_cost:cPick.cost=1:=rfl
attribute [go_sem] cPick_own cPick_draws cPick_cost
theorem pick_head (w:World) (g:Nat) (T:TypeId) (bv:Value) (p n:Int) (hp:0≤p) (hp2:p < 1099511627776) (hg:w.heap[g]? = some (.cells #[bv,.int .i64 p] T (0,0))) {Post:Ending→World→Prop}
  (h:∀ (a:Act) (rest:Code),(∃ c0 c1,Tryd.f19.body=some (.seq c0 (.seq c1 rest)))→a.tmps.size=99→a.defers=[]→a.tmps.getD 0 undef = .pointer (some ⟨g,0,none⟩)→a.tmps.getD 1 undef = .int .i64 n→a.tmps.getD 4 undef = .int .i64 0→
   rest.wp Tryd.prog (bodyPost Tryd.prog Tryd.f19 Post) a (w.setCell ⟨g,1,none⟩ (.int .i64 (p + 1)))) :
  Calls Tryd.prog 19 #[.pointer (some ⟨g,0,none⟩),.int .i64 n] w Post:=by
 have c1:w.cell? ⟨g,1,none⟩=some (.int .i64 p):=by rw [cell_of_row w g 1 _ T _ hg];rfl
 have hf:w.frozen? ⟨g,1,none⟩=false:=by simp [World.frozen?,hg]
 go_enter Tryd.func19,Tryd.ntmps19
 refine wp_seq_k fun K hK=>?_
 have hB:PLift _:=⟨hK⟩
 clear hK
 go_wp2
 refine hB.down _ _ ?_
 clear hB K
 refine wp_seq_k fun K hK=>?_
 have hB:PLift _:=⟨hK⟩
 clear hK
 go_wp2
 refine hB.down _ _ ?_
 clear hB K
 refine h _ _ ⟨_,_,rfl⟩ ?_ ?_ ?_ ?_ ?_
 all_goals rfl
theorem setCell_same {w:World} {g i:Nat} {cs:Array Value} {T:TypeId} {fr:Nat × Nat} (hb:w.heap[g]? = some (.cells cs T fr)) (v:Value) :
  (w.setCell ⟨g,i,none⟩ v).heap[g]? = some (.cells (cs.setIfInBounds i v) T fr):=by
 simp [World.setCell,Array.getElem?_modify,hb]
theorem grownBy_setCell (w:World) (g i:Nat) (v:Value):w.grownBy (w.setCell ⟨g,i,none⟩ v) (some g) :=
 ⟨rfl,rfl,rfl,by simp [World.setCell],fun k _ hr=>Below.heap_setCell w ⟨g,i,none⟩ v k (fun e=>hr (by rw [e]))⟩
theorem rdd_bytes {w:World} {S:Nat→Nat→Prop} {cb off len cap:Nat} {f:Nat→Nat} (hlc:len≤cap) (h:∀ k,k < len→S cb (off + k)∧w.cell? ⟨cb,off + k,none⟩=some (.int .u8 (f k))) :
  RdD w S (.sl (byteRows ((List.range len).map f))) (.slice (some ⟨cb,off,none⟩) len cap):=by
 refine .sl _ cb off len cap 1 (fun k=>.int .u8 (f k)) (by simp [byteRows]) hlc ?_ (fun k hk=>h k (by omega)) ?_
 ·intro row hr
  simp only [byteRows,List.map_map,List.mem_map] at hr
  obtain ⟨x,_,rfl⟩:=hr
  rfl
 ·intro i j row x hi hj
  simp only [byteRows,List.map_map,List.getElem?_map,Option.map_eq_some_iff] at hi
  obtain ⟨y,hy,rfl⟩:=hi
  have hil:i < len:=by
   have:=(List.getElem?_eq_some_iff.1 hy).1
   simpa using this
  match j,hj with
  | 0,hj =>
   obtain rfl:=Option.some.inj hj
   have e:y=i:=by rw [List.getElem?_range hil] at hy;exact (Option.some.inj hy).symm
   subst e
   simp only [Nat.mul_one,Nat.add_zero]
   exact .v _ rfl
theorem pick_ok : Fine Tryd.prog 19 cPick := by
  refine ⟨⟨_, Tryd.func19, rfl, rfl⟩, ?_⟩
  rintro c args vs bv B n hsz hrd her ⟨m, rfl⟩ - hsx hs1 hdr
  obtain ⟨hsg, hrk, hB, hlim⟩ := hdr rfl
  have hrk0 := hrk
  obtain ⟨hgB, T, p, hg, hp0, hp1, hbv⟩ := hrk
  have hlim' : n + 1 ≤ lim := hlim
  unfold lim at hlim'
  have evs : vs = #[.pointer (some ⟨c.g, 0, none⟩), .int .i64 m] := by
    have h0 := hrd 0 .rd rfl
    have h1 := hrd 1 (iv m) rfl
    apply Array.ext
    · simpa using hsz
    · intro i h2 h3
      have e : vs.getD i undef = vs[i] := by simp [Array.getD_eq_getD_getElem?, h2]
      have : i = 0 ∨ i = 1 := by simp at h3; omega
      rcases this with rfl | rfl
      · rw [e] at h0; generalize vs[0] = u at h0; cases h0; rfl
      · rw [e] at h1; generalize vs[1] = u at h1; cases h1; rfl
  subst evs
  refine pick_head c.w c.g T bv p m hp0 (by omega) hg ?_
  intro a rest ⟨k0, k1, hbody⟩ hasz had ha0 ha1 ha4
  -- the world behind the store
  have hw1g : (c.w.setCell ⟨c.g, 1, none⟩ (.int .i64 (p + 1))).heap[c.g]? = some (.cells #[bv, .int .i64 (p + 1)] T (0, 0)) := by
    rw [setCell_same hg]; rfl
  have hw1o : ∀ k, k ≠ c.g → (c.w.setCell ⟨c.g, 1, none⟩ (.int .i64 (p + 1))).heap[k]? = c.w.heap[k]? := fun k hk => Below.heap_setCell c.w _ _ k hk
  have hgr := grownBy_setCell c.w c.g 1 (.int .i64 (p + 1))
  generalize c.w.setCell ⟨c.g, 1, none⟩ (.int .i64 (p + 1)) = w1 at hw1g hw1o hgr
  have hsize : c.w.heap.size ≤ w1.heap.size := hgr.size
  obtain ⟨bs, S1, hbs, hbl, hrd1, hsx1, hs11⟩ : ∃ (bs : List Nat) (S1 : Nat → Nat → Prop), (∀ b ∈ bs, b < 256) ∧ bs.length ≤ 2000 ∧ RdD w1 S1 (.sl (byteRows bs)) bv ∧
      (∀ b o, S1 b o → b ≠ c.g ∧ ∃ v, w1.cell? ⟨b, o, none⟩ = some v) ∧ (∀ b o v, S1 b o → w1.cell? ⟨b, o, none⟩ = some v → v.oneCell' = true) := by
    rcases hbv with rfl | ⟨cb, off, len, cap, f, rfl, h12, h3, h4⟩ | ⟨ad, rfl⟩
    rotate_left 2
    · exact ⟨[], fun _ _ => False, by simp, by simp, .em ad, fun _ _ h => h.elim, fun _ _ _ h => h.elim⟩
    · exact ⟨[], fun _ _ => False, by simp, by simp, .nil, fun _ _ h => h.elim, fun _ _ _ h => h.elim⟩
    · obtain ⟨h3, hlc⟩ := h3
      have hcell : ∀ k, k < len → w1.cell? ⟨cb, off + k, none⟩ = some (.int .u8 (f k)) := fun k hk =>
        (World.cell?_of_block (w := c.w) (a := ⟨cb, off + k, none⟩) (hw1o cb (h12 (by omega)).1)).trans (h4 k hk).2
      refine ⟨(List.range len).map f, fun b o => b = cb ∧ off ≤ o ∧ o < off + len, ?_, by simpa using h3, rdd_bytes hlc fun k hk => ⟨⟨rfl, by omega, by omega⟩, hcell k hk⟩, ?_, ?_⟩
      · intro b hb
        simp only [List.mem_map, List.mem_range] at hb
        obtain ⟨k, hk, rfl⟩ := hb
        exact (h4 k hk).1
      · rintro b o ⟨rfl, h5, h6⟩
        refine ⟨(h12 (by omega)).1, .int .u8 (f (o - off)), ?_⟩
        have := hcell (o - off) (by omega)
        rwa [show off + (o - off) = o by omega] at this
      · rintro b o v ⟨rfl, h5, h6⟩ hv
        have := hcell (o - off) (by omega)
        rw [show off + (o - off) = o by omega, hv] at this
        obtain rfl := Option.some.inj this
        rfl
  let S2 : Nat → Nat → Prop := fun b o => S1 b o ∨ (b = c.g ∧ o < 2)
  let E1 : En := { P := Tryd.prog, w0 := w1, draws := false, g := c.g, bv := bv, S0 := S2 }
  have hcg : ∀ o, w1.cell? ⟨c.g, o, none⟩ = (#[bv, .int .i64 (p + 1)] : Array Value)[o]? := fun o => by rw [cell_of_row w1 c.g o _ T _ hw1g]
  have hbv1 : bv.oneCell' = true := by
    rcases hbv with rfl | ⟨cb, off, len, cap, f, rfl, _⟩ | ⟨ad, rfl⟩ <;> rfl
  have hE : TbOk E1 { T := TT, G := [], D := [], draws := false } := ⟨tt, fun _ h => (by cases h), fun _ h => (by cases h), fun _ h => (by cases h), fun _ h => (by cases h), rfl, fun _ h => (by cases h), fun _ _ h => h, rfl, fun _ h => (by cases h), fun _ h => (by cases h), fun _ h => (by cases h), fun _ h => (by cases h)⟩
  have key := pick_rest hE bs hbs hbl (p + 1) m (by omega) (by omega) 0 (Q := fun e st => e = .ret ∧ pickOk m st) (fun st h => ⟨rfl, h⟩) hbody
  have hR : R E1 (pickSt bs (p + 1) m 0) a w1 := by
    let c1 : Gh := { w := w1, S := S2, β := fun _ => 0, tv := fun _ _ => .slice none 0 0, te := fun _ _ => 0, g := c.g }
    refine ⟨c1, rfl, ?_, ?_, by rw [hasz]; rfl, had⟩
    · exact { bl := fun _ _ => rfl, cg := rfl, fr := ⟨rfl, rfl, rfl, Nat.le_refl _, fun _ _ _ _ => rfl⟩, lx := fun _ _ h => h.elim,
              sx := fun b o h => by
                rcases h with h | ⟨rfl, h⟩
                · exact .inl (hsx1 b o h).2
                · refine .inl ⟨(#[bv, .int .i64 (p + 1)] : Array Value)[o], ?_⟩
                  rw [hcg]; exact Array.getElem?_eq_getElem h
              s1 := fun b o v h hv => by
                rcases h with h | ⟨rfl, h⟩
                · exact hs11 b o v h hv
                · rw [hcg] at hv
                  have : o = 0 ∨ o = 1 := by omega
                  rcases this with rfl | rfl
                  · obtain rfl := Option.some.inj hv; exact hbv1
                  · obtain rfl := Option.some.inj hv; rfl
              sS := fun _ _ h => .inr h, sg := fun h => (by cases h), box := fun d ls hl => by simp [pickSt, lkm] at hl, boxinj := fun d d' l l' hl => by simp [pickSt, lkm] at hl,
              tok := fun _ _ => .inl rfl, toktok := fun _ _ _ _ b hb => by simp [c1, Value.ownBlock] at hb, tokbox := fun _ _ b _ _ hb => by simp [c1, Value.ownBlock] at hb,
              rk := fun h => (by cases h) }
    · intro x
      simp only [pickSt, lk]
      split
      · rename_i e; subst e
        rw [ha0]
        refine .el _ c.g 0 (fun k => (#[bv, .int .i64 (p + 1)] : Array Value).getD k undef) (fun k hk => ?_) (fun j x hx => ?_)
        · simp only [List.length_cons, List.length_nil] at hk
          refine ⟨.inr ⟨rfl, by omega⟩, ?_⟩
          show w1.cell? _ = _
          rw [Nat.zero_add, hcg]
          have : k = 0 ∨ k = 1 := by omega
          rcases this with rfl | rfl <;> rfl
        · match j, hx with
          | 0, hx =>
            obtain rfl := Option.some.inj hx
            exact RdD.keep (w := w1) (S := S1) (Keeps.same (fun _ _ h => .inl h) fun _ _ _ => rfl) hrd1
          | 1, hx =>
            obtain rfl := Option.some.inj hx
            exact .v _ rfl
      · split
        · rename_i e; subst e; rw [ha1]; exact .v _ rfl
        · split
          · rename_i e; subst e; rw [ha4]; exact .v _ rfl
          · exact .junk _
  refine Go.wp_mono (key a w1 hR) ?_
  rintro e a' w' ⟨st', ⟨c1, rfl, G, hσ, hn, hd⟩, rfl, x, hx, hx0, hxn⟩
  have h4 := hσ 4
  rw [hx] at h4
  have e4 : a'.tmps.getD 4 undef = .int .i64 x := by generalize a'.tmps.getD 4 undef = u at h4; cases h4; rfl
  have hgr2 : w1.grownBy c1.w none := G.fr.by (fun _ h => h)
  have hkeep : ∀ k, k < w1.heap.size → c1.w.heap[k]? = w1.heap[k]? := fun k hk => hgr2.block k hk (by simp)
  have hglt : c.g < w1.heap.size := (Array.getElem?_eq_some_iff.1 hw1g).1
  refine ⟨hd, .int .i64 x, ?_, .int .i64 x, iv x, { w := c1.w, S := c.S, β := fun _ => 0, tv := fun _ _ => .slice none 0 0, te := fun _ _ => 0, g := c.g }, rfl, fun m' hm' => ?_, ?_⟩
  · rw [results_rv, Tryd.results19]
    simp [rv, e4]
  · simp only [List.cons.injEq, AV.v.injEq, Value.int.injEq, true_and, and_true] at hm'
    subst hm'
    exact ⟨x, rfl, hx0, hxn⟩
  · have hkp : Keeps c.w c.S c1.w c.S := keeps_of_lt (fun _ _ h => h) fun b o h hlt => by
      have hne : b ≠ c.g := fun e => hsg o (e ▸ h)
      exact (hkeep b (by omega)).trans (hw1o b hne)
    exact { w := rfl, g := rfl, rd := .v _ rfl, fr := by
              have e : (if cPick.draws then some c.g else none) = some c.g := rfl
              show c.w.grownBy c1.w (if cPick.draws then some c.g else none)
              rw [e]
              exact grownBy_trans hgr ⟨hgr2.os, hgr2.tape, hgr2.output, hgr2.size, fun i hi _ => hgr2.block i hi (by simp)⟩
            S := fun b o h => .inr h, sx := fun b o h => by
              exact hkp.lk h (hsx b o h)
            s1 := fun b o v h hv => by
              rcases hsx b o h with ⟨u, hu⟩ | ⟨rfl, es, ck, hb⟩
              · have := (hkp.1 b o u h hu).2
                rw [hv] at this
                obtain rfl := Option.some.inj this
                exact hs1 b o v h hu
              · have h1 := (hkp.2 b es ck h hb).2
                simp [World.cell?, h1] at hv
            tok := fun _ _ => .inl rfl, toktok := fun _ _ _ _ b hb => by simp [Value.ownBlock] at hb
            rk := fun _ => by
              have hgB' := hgB
              refine ⟨hgB', T, p + 1, (hkeep c.g hglt).trans hw1g, by omega, by show p + 1 ≤ ((n + 1 : Nat) : Int); omega, ?_⟩
              rcases hbv with h | ⟨cb, off, len, cap, f, h1, h23, h4, h5⟩ | h
              · exact .inl h
              rotate_left
              · exact .inr (.inr h)
              · refine .inr (.inl ⟨cb, off, len, cap, f, h1, h23, h4, fun k hk => ⟨(h5 k hk).1, ?_⟩⟩)
                have h2 := (h23 (by omega)).1
                have h3 := (h23 (by omega)).2
                exact (World.cell?_of_block (w := c.w) (a := ⟨cb, off + k, none⟩) ((hkeep cb (by omega)).trans (hw1o cb h2))).trans (h5 k hk).2 }
theorem alloc_old (w:World) (o:Obj) (k:Nat) (hk:k < w.heap.size):(w.alloc o).heap[k]? = w.heap[k]? := by
 show (w.heap.push o)[k]? = _
 rw [Array.getElem?_push,if_neg (by omega)]
theorem alloc_new (w:World) (o:Obj):(w.alloc o).heap[w.heap.size]? = some o:=by
 show (w.heap.push o)[w.heap.size]? = _
 rw [Array.getElem?_push,if_pos rfl]
theorem alloc_size (w:World) (o:Obj):(w.alloc o).heap.size=w.heap.size + 1:=Array.size_push ..
theorem grownBy_alloc (w:World) (o:Obj) (r:Option Nat):w.grownBy (w.alloc o) r :=
 ⟨rfl,rfl,rfl,by rw [alloc_size];omega,fun i hi _=>alloc_old w o i hi⟩
theorem opened_mk (w:World) (v:Value) (hv:BytesAt w v) (hlen:∀ cb len cap,v = .slice cb len cap→len≤2000) :
  ∀ u,(∀ b,bvB v b→bvB u b)→Opened u w (.returned (.pointer (some ⟨w.heap.size,0,none⟩))) (w.alloc (.cells #[v,.int .i64 0] 60 (0,0))):=by
 intro u hu
 refine ⟨_,v,rfl,grownBy_alloc _ _ _,Nat.le_refl _,⟨by rw [alloc_size];omega,_,0,alloc_new _ _,by omega,by omega,?_⟩,hu⟩
 rcases hv with h | ⟨cb,off,len,cap,f,rfl,h1,h2,h3⟩ | h
 ·exact .inl h
 rotate_left
 ·exact .inr (.inr h)
 ·refine .inr (.inl ⟨cb,off,len,cap,f,rfl,fun h0=>⟨by have:=h2 h0;omega,by have:=h2 h0;rw [alloc_size];omega⟩,⟨hlen _ _ _ rfl,h1⟩,fun k hk=>⟨(h3 k hk).1,?_⟩⟩)
  exact (World.cell?_of_block (w:=w) (a:=⟨cb,off + k,none⟩) (alloc_old w _ cb (h2 (by omega)))).trans (h3 k hk).2
theorem open_calls (w:World) (v:Value) (hv:BytesAt w v):Calls Tryd.prog 10 #[v] w (Opened v w):=by
 rcases hv with rfl | ⟨cb,off,len,cap,f,rfl,h1,h2,h3⟩ | ⟨ad,rfl⟩
 rotate_left 2
 ·have H:=opened_mk w (.slice (some ad) 0 0) (.inr (.inr ⟨ad,rfl⟩)) (fun cb len cap h=>by cases h;omega) _ (fun _ h=>h)
  go_enter Tryd.func10,Tryd.ntmps10
  go_wp2
  all_goals go_ret
  all_goals exact H
 ·have H:=opened_mk w (.slice none 0 0) (.inl rfl) (fun cb len cap h=>by cases h;omega) _ (fun _ h=>h)
  go_enter Tryd.func10,Tryd.ntmps10
  go_wp2
  all_goals go_ret
  all_goals exact H
 ·by_cases hl:len≤2000
  ·have H:=Lib.hid (opened_mk w (.slice (some ⟨cb,off,none⟩) len cap) (.inr (.inl ⟨cb,off,len,cap,f,rfl,h1,h2,h3⟩)) (fun cb len cap h=>by cases h;exact hl) _ (fun _ h=>h))
   clear h3
   have hl':decide (2000 < len)=false:=by simpa using hl
   go_enter Tryd.func10,Tryd.ntmps10
   go_wp2
   all_goals go_ret
   all_goals exact H.out
  ·have H:=Lib.hid (opened_mk w (.slice (some ⟨cb,off,none⟩) 2000 cap) (.inr (.inl ⟨cb,off,2000,cap,f,rfl,by omega,fun _=>h2 (by omega),fun k hk=>h3 k (by omega)⟩)) (fun cb len cap h=>by cases h;omega) (.slice (some ⟨cb,off,none⟩) len cap) (fun b ⟨o',l',c',h,h0⟩=>by cases h;exact ⟨off,len,cap,rfl,by omega⟩))
   clear h3
   have hl':decide (2000 < len)=true:=by simpa using hl
   go_enter Tryd.func10,Tryd.ntmps10
   go_wp2
   all_goals go_ret
   all_goals exact H.out
set_option maxRecDepth 10000
def szR (b:Int):Int:=2 ^ (8 - b).toNat
def rngOk (f b:Int):Bool:=decide (0≤b) && (decide (b≤8) && ((decide (0≤f) && decide (f≤255)) && decide (f.tmod (szR b)=0)))
theorem szR_ne (b:Int):szR b≠0:=by
 unfold szR
 have:(2:Int) ^ (8 - b).toNat > 0:=Int.pow_pos (by omega)
 omega
theorem wrap_shl (b:Int) (h1:0≤b) (h2:b≤8):IntKind.i64.wrap (1 * 2 ^ min (8 - b).toNat 64)=szR b:=by
 unfold szR
 have:b=0∨b=1∨b=2∨b=3∨b=4∨b=5∨b=6∨b=7∨b=8:=by omega
 rcases this with rfl | rfl | rfl | rfl | rfl | rfl | rfl | rfl | rfl<;>decide
def gIsAddr:List AV→Option (Prop × AV) | [.v (.int .i64 n)]=>some (True,bv (decide (0≤n) && decide (n≤255))) | _=>none
def dIsAddr:DFn:={ g:=gIsAddr }
def gMany:List AV→Option (Prop × AV) | [.agg [.v (.int .i64 _),.v (.int .i64 b)]]=>some (0≤b∧b≤8,iv (szR b)) | _=>none
def dMany:DFn:={ g:=gMany }
def gRangeOk:List AV→Option (Prop × AV) | [.agg [.v (.int .i64 f),.v (.int .i64 b)]]=>some (True,bv (rngOk f b)) | _=>none
def dRangeOk:DFn:={ g:=gRangeOk }
def gIn:List AV→Option (Prop × AV) | [.v (.int .i64 x),.v (.int .i64 a),.v (.int .i64 b)]=>some (True,bv (decide (a≤x) && decide (x≤b))) | _=>none
def dIn:DFn:={ g:=gIn }
def gSize:List AV→Option (Prop × AV) | [.v (.int .i64 b)]=>some (0≤b∧b≤8,iv (szR b)) | _=>none
def dSize:DFn:={ g:=gSize }
attribute [go_sem] gIsAddr dIsAddr gMany dMany gRangeOk dRangeOk gIn dIn gSize dSize
theorem isAddr_ok:Fine Tryd.prog 64 dIsAddr.con:=by
 refine fine_det (T:=TT) Tryd.func64 rfl Tryd.ntmps64 (by rw [Tryd.results64]) rfl rfl tt (gs_nil) (ds_nil) ?_
 intro args c r h hc
 simp only [dIsAddr,gIsAddr] at h
 split at h
 rotate_left
 ·cases h
 obtain ⟨rfl,rfl⟩:=Prod.mk.inj (Option.some.inj h)
 refine ⟨by simp,fun k E hE Q hQ=>?_⟩
 refine Aw_st hE [0] [] fun K hK=>?_
 simp only [go_sem,reduceIte,Nat.reduceLT,Nat.reduceLeDiff,Nat.reduceEqDiff,Nat.reduceAdd,Nat.reduceMul,Nat.reduceSub,Nat.reduceBEq,Int.reduceToNat,List.reduceReplicate,reduceCtorEq]
 refine hK _ ?_
 clear hK K
 refine Aw_st hE [2] [] fun K hK=>?_
 simp only [go_sem,reduceIte,Nat.reduceLT,Nat.reduceLeDiff,Nat.reduceEqDiff,Nat.reduceAdd,Nat.reduceMul,Nat.reduceSub,Nat.reduceBEq,Int.reduceToNat,List.reduceReplicate,reduceCtorEq]
 refine ⟨fun h1=>hK _ (Aw_ret (hQ _ ?_)),fun h1=>hK _ (Aw_ret (hQ _ ?_))⟩<;>simp only [go_sem,reduceIte,Nat.reduceLT,Nat.reduceLeDiff,Nat.reduceEqDiff,Nat.reduceAdd,Nat.reduceMul,Nat.reduceSub,Nat.reduceBEq,Int.reduceToNat,List.reduceReplicate,reduceCtorEq,h1,Bool.true_and,Bool.false_and]
theorem many_ok:Fine Tryd.prog 65 dMany.con:=by
 refine fine_det (T:=TT) Tryd.func65 rfl Tryd.ntmps65 (by rw [Tryd.results65]) rfl rfl tt (gs_nil) (ds_nil) ?_
 intro args c r h hc
 simp only [dMany,gMany] at h
 split at h
 rotate_left
 ·cases h
 obtain ⟨rfl,rfl⟩:=Prod.mk.inj (Option.some.inj h)
 refine ⟨by simp,fun k E hE Q hQ=>?_⟩
 refine Aw_st hE [1] [1] fun K hK=>?_
 simp only [go_sem,reduceIte,Nat.reduceLT,Nat.reduceLeDiff,Nat.reduceEqDiff,Nat.reduceAdd,Nat.reduceMul,Nat.reduceSub,Nat.reduceBEq,Int.reduceToNat,List.reduceReplicate,reduceCtorEq]
 refine hK _ ?_
 clear hK K
 refine Aw_st hE [2] [] fun K hK=>?_
 simp only [go_sem,reduceIte,Nat.reduceLT,Nat.reduceLeDiff,Nat.reduceEqDiff,Nat.reduceAdd,Nat.reduceMul,Nat.reduceSub,Nat.reduceBEq,Int.reduceToNat,List.reduceReplicate,reduceCtorEq]
 refine ⟨by omega,by omega,hK _ (Aw_ret (hQ _ ?_))⟩
 simp only [go_sem,reduceIte,Nat.reduceLT,Nat.reduceLeDiff,Nat.reduceEqDiff,Nat.reduceAdd,Nat.reduceMul,Nat.reduceSub,Nat.reduceBEq,Int.reduceToNat,List.reduceReplicate,reduceCtorEq,wrap_shl _ hc.1 hc.2]
theorem rangeOk_ok:Fine Tryd.prog 57 dRangeOk.con:=by
 refine fine_det (T:=TT) Tryd.func57 rfl Tryd.ntmps57 (by rw [Tryd.results57]) rfl rfl tt (gs_nil) (ds_cons isAddr_ok (ds_cons many_ok ds_nil)) ?_
 intro args c r h hc
 simp only [dRangeOk,gRangeOk] at h
 split at h
 rotate_left
 ·cases h
 obtain ⟨rfl,rfl⟩:=Prod.mk.inj (Option.some.inj h)
 refine ⟨by simp,fun k E hE Q hQ=>?_⟩
 refine Aw_st hE [1] [1] fun K hK=>?_
 simp only [go_sem,reduceIte,Nat.reduceLT,Nat.reduceLeDiff,Nat.reduceEqDiff,Nat.reduceAdd,Nat.reduceMul,Nat.reduceSub,Nat.reduceBEq,Int.reduceToNat,List.reduceReplicate,reduceCtorEq]
 refine hK _ ?_
 clear hK K
 refine Aw_sd hE [2] [] 3 (by kernel_rfl) fun K hK=>?_
 simp only [go_sem,reduceIte,Nat.reduceLT,Nat.reduceLeDiff,Nat.reduceEqDiff,Nat.reduceAdd,Nat.reduceMul,Nat.reduceSub,Nat.reduceBEq,Int.reduceToNat,List.reduceReplicate,reduceCtorEq]
 repeat' (first | exact szR_ne _ | (refine ⟨?_,?_⟩) | (intro _))
 all_goals first | (refine hK _ (Aw_ret (hQ _ ?_));simp only [go_sem,reduceIte,Nat.reduceLT,Nat.reduceLeDiff,Nat.reduceEqDiff,Nat.reduceAdd,Nat.reduceMul,Nat.reduceSub,Nat.reduceBEq,Int.reduceToNat,List.reduceReplicate,reduceCtorEq,rngOk, *,Bool.true_and,Bool.false_and,Bool.and_true,Bool.and_false];done) | (simp only [dte] at *;omega)
theorem in_ok:Fine Tryd.prog 51 dIn.con:=by
 refine fine_det (T:=TT) Tryd.func51 rfl Tryd.ntmps51 (by rw [Tryd.results51]) rfl rfl tt (gs_nil) (ds_nil) ?_
 intro args c r h hc
 simp only [dIn,gIn] at h
 split at h
 rotate_left
 ·cases h
 obtain ⟨rfl,rfl⟩:=Prod.mk.inj (Option.some.inj h)
 refine ⟨by simp,fun k E hE Q hQ=>?_⟩
 refine Aw_st hE [0,1,2] [] fun K hK=>?_
 simp only [go_sem,reduceIte,Nat.reduceLT,Nat.reduceLeDiff,Nat.reduceEqDiff,Nat.reduceAdd,Nat.reduceMul,Nat.reduceSub,Nat.reduceBEq,Int.reduceToNat,List.reduceReplicate,reduceCtorEq]
 refine hK _ ?_
 clear hK K
 refine Aw_st hE [6] [] fun K hK=>?_
 simp only [go_sem,reduceIte,Nat.reduceLT,Nat.reduceLeDiff,Nat.reduceEqDiff,Nat.reduceAdd,Nat.reduceMul,Nat.reduceSub,Nat.reduceBEq,Int.reduceToNat,List.reduceReplicate,reduceCtorEq]
 refine ⟨fun h1=>hK _ (Aw_ret (hQ _ ?_)),fun h1=>hK _ (Aw_ret (hQ _ ?_))⟩<;>simp only [go_sem,reduceIte,Nat.reduceLT,Nat.reduceLeDiff,Nat.reduceEqDiff,Nat.reduceAdd,Nat.reduceMul,Nat.reduceSub,Nat.reduceBEq,Int.reduceToNat,List.reduceReplicate,reduceCtorEq,h1,Bool.true_and,Bool.false_and]
theorem size_step (i:Nat) (h:i < 8):((2:Int) ^ (8 - i)).tdiv 2=2 ^ (8 - (i + 1)):=by
 have:i=0∨i=1∨i=2∨i=3∨i=4∨i=5∨i=6∨i=7:=by omega
 rcases this with rfl | rfl | rfl | rfl | rfl | rfl | rfl | rfl<;>decide
theorem pow_le8 (i:Nat):(2:Int) ^ (8 - i)≤256∧0≤(2:Int) ^ (8 - i):=by
 have h:8 - i≤8:=by omega
 generalize 8 - i=j at h
 have:j=0∨j=1∨j=2∨j=3∨j=4∨j=5∨j=6∨j=7∨j=8:=by omega
 rcases this with rfl | rfl | rfl | rfl | rfl | rfl | rfl | rfl | rfl<;>decide
theorem size_ok:Fine Tryd.prog 56 dSize.con:=by
 refine fine_det (T:=TT) Tryd.func56 rfl Tryd.ntmps56 (by rw [Tryd.results56]) rfl rfl tt (gs_nil) (ds_nil) ?_
 intro args c r h hc
 simp only [dSize,gSize] at h
 split at h
 rotate_left
 ·cases h
 obtain ⟨rfl,rfl⟩:=Prod.mk.inj (Option.some.inj h)
 refine ⟨by simp,fun k E hE Q hQ=>?_⟩
 rename_i b
 refine Aw_st hE [0] [] fun K hK=>?_
 simp only [go_sem,reduceIte,Nat.reduceLT,Nat.reduceLeDiff,Nat.reduceEqDiff,Nat.reduceAdd,Nat.reduceMul,Nat.reduceSub,Nat.reduceBEq,Int.reduceToNat,List.reduceReplicate,reduceCtorEq]
 refine hK _ ?_
 clear hK K
 refine Aw_st hE [0,3] [] fun K hK=>?_
 simp only [go_sem,reduceIte,Nat.reduceLT,Nat.reduceLeDiff,Nat.reduceEqDiff,Nat.reduceAdd,Nat.reduceMul,Nat.reduceSub,Nat.reduceBEq,Int.reduceToNat,List.reduceReplicate,reduceCtorEq]
 refine hK _ ?_
 clear hK K
 refine Aw_sq fun B hB _ _=>?_
 refine Aw_st hE [0,3,4] [] fun K hK=>?_
 simp only [go_sem,reduceIte,Nat.reduceLT,Nat.reduceLeDiff,Nat.reduceEqDiff,Nat.reduceAdd,Nat.reduceMul,Nat.reduceSub,Nat.reduceBEq,Int.reduceToNat,List.reduceReplicate,reduceCtorEq]
 refine hK _ ?_
 clear hK K
 refine Aw_bk fun B1 h1 h2 h3 h4=>?_
 refine Aw_lp (fun i:Nat=>⟨13,[(0,iv b),(3,iv (2 ^ (8 - i))),(4,iv i)],[],k⟩) (fun i=>(i:Int)≤b) (fun i=>b.toNat - i) 0 (Le.refl _) (by omega) fun i hi B2 g1 g2 g3=>?_
 refine Aw_sq fun B3 e1 e2 e3=>?_
 refine Aw_st hE [0,3,4,7] [] fun K hK=>?_
 simp only [go_sem,reduceIte,Nat.reduceLT,Nat.reduceLeDiff,Nat.reduceEqDiff,Nat.reduceAdd,Nat.reduceMul,Nat.reduceSub,Nat.reduceBEq,Int.reduceToNat,List.reduceReplicate,reduceCtorEq]
 refine hK _ ?_
 clear hK K
 refine Aw_cond rfl (fun hcc=>Aw_skip (e1 _ ?_)) (fun hcc=>Aw_exit (e3 _ _ (g3 _ _ (h2 _ (hB _ ?_)))))
 ·have hlt:(i:Int) < b:=by simpa using hcc
  refine Aw_sq fun B4 q1 q2 q3=>?_
  refine Aw_bk fun B5 r1 r2 r3 r4=>?_
  refine Aw_tx hE [0,3,4] [] fun K hK=>?_
  simp only [go_sem,reduceIte,Nat.reduceLT,Nat.reduceLeDiff,Nat.reduceEqDiff,Nat.reduceAdd,Nat.reduceMul,Nat.reduceSub,Nat.reduceBEq,Int.reduceToNat,List.reduceReplicate,reduceCtorEq]
  have hb:(2:Int) ^ (8 - i)≤256∧0≤(2:Int) ^ (8 - i):=pow_le8 i
  rw [size_step i (by omega)]
  have hb1:(2:Int) ^ (8 - (i + 1))≤256∧0≤(2:Int) ^ (8 - (i + 1)):=pow_le8 (i + 1)
  refine ⟨⟨by omega,by omega,by omega⟩,hK _ (r1 _ (q1 _ ?_))⟩
  clear hK K
  refine Aw_tx hE [0,3,4] [] fun K hK=>?_
  simp only [go_sem,reduceIte,Nat.reduceLT,Nat.reduceLeDiff,Nat.reduceEqDiff,Nat.reduceAdd,Nat.reduceMul,Nat.reduceSub,Nat.reduceBEq,Int.reduceToNat,List.reduceReplicate,reduceCtorEq]
  refine ⟨by omega,hK _ (g1 (i + 1) _ (by omega) (by omega) (Le.refl _))⟩
 ·have hge:b≤(i:Int):=by simpa using hcc
  refine Aw_st hE [2] [] fun K hK=>?_
  simp only [go_sem,reduceIte,Nat.reduceLT,Nat.reduceLeDiff,Nat.reduceEqDiff,Nat.reduceAdd,Nat.reduceMul,Nat.reduceSub,Nat.reduceBEq,Int.reduceToNat,List.reduceReplicate,reduceCtorEq]
  refine hK _ (Aw_ret (hQ _ ?_))
  simp only [go_sem,reduceIte,Nat.reduceLT,Nat.reduceLeDiff,Nat.reduceEqDiff,Nat.reduceAdd,Nat.reduceMul,Nat.reduceSub,Nat.reduceBEq,Int.reduceToNat,List.reduceReplicate,reduceCtorEq]
  unfold szR
  rw [show (8 - b).toNat=8 - i by omega]
abbrev sv (l:List UInt8):AV:=.v (.string ⟨l.toArray⟩)
theorem mk_app (a b:List UInt8):(ByteArray.mk a.toArray++ByteArray.mk b.toArray)=⟨(a++b).toArray⟩:=by
 apply ByteArray.ext;simp
theorem sz_mk (a:List UInt8):(ByteArray.mk a.toArray).size=a.length:=by simp [ByteArray.size]
theorem dec_len (n:Nat) (h:n < 4611686018427387904):(Lib.decDigits n).length≤21:=by
 have:=Lib.itoa_length_le (n:Int) (by omega) (by omega)
 rwa [Lib.itoa_nonneg] at this
def gDecK (k:Nat):List AV→Option (Prop × AV) | [.v (.int .i64 n)]=>some (0≤n∧n < k∧n < 4611686018427387904,sv (Lib.decDigits n.toNat)) | _=>none
def dDecK (k:Nat):DFn:={ g:=gDecK k }
attribute [go_sem] gDecK dDecK
def dDec:DFn:=dDecK 4611686018427387904
attribute [go_sem] dDec
def rngText (f b:Int):List UInt8:=Lib.decDigits f.toNat++47::Lib.decDigits b.toNat
def gText1:List AV→Option (Prop × AV) | [.agg [.v (.int .i64 f),.v (.int .i64 b)]]=>some (0≤f∧f≤255∧0≤b∧b≤8,sv (rngText f b)) | _=>none
def dText1:DFn:={ g:=gText1 }
def gRText:List AV→Option (Prop × AV) | [.agg [.v (.int .i64 f),.v (.int .i64 b)]]=>some (True,sv (bif rngOk f b then rngText f b else [])) | _=>none
def dRText:DFn:={ g:=gRText }
attribute [go_sem] gText1 dText1 gRText dRText
theorem sRangeOk_ok:Fine Tryd.prog 49 dRangeOk.con:=by
 refine fine_det (T:=TT) Tryd.func49 rfl Tryd.ntmps49 (by rw [Tryd.results49]) rfl rfl tt (gs_nil) (ds_cons in_ok (ds_cons size_ok ds_nil)) ?_
 intro args c r h hc
 simp only [dRangeOk,gRangeOk] at h
 split at h
 rotate_left
 ·cases h
 obtain ⟨rfl,rfl⟩:=Prod.mk.inj (Option.some.inj h)
 refine ⟨by simp,fun k E hE Q hQ=>?_⟩
 rename_i f b
 refine Aw_st hE [1] [1] fun K hK=>?_
 simp only [go_sem,reduceIte,Nat.reduceLT,Nat.reduceLeDiff,Nat.reduceEqDiff,Nat.reduceAdd,Nat.reduceMul,Nat.reduceSub,Nat.reduceBEq,Int.reduceToNat,List.reduceReplicate,reduceCtorEq]
 refine hK _ ?_;clear hK K
 refine Aw_sd hE [2] [] 6 (by kernel_rfl) fun K hK=>?_
 simp only [go_sem,reduceIte,Nat.reduceLT,Nat.reduceLeDiff,Nat.reduceEqDiff,Nat.reduceAdd,Nat.reduceMul,Nat.reduceSub,Nat.reduceBEq,Int.reduceToNat,List.reduceReplicate,reduceCtorEq]
 refine ⟨fun h1=>⟨fun h2=>⟨by simp only [Bool.and_eq_true,dte] at h1;omega,szR_ne _,?_⟩,fun h2=>?_⟩,fun h1=>?_⟩
 all_goals
  refine hK _ (Aw_ret (hQ _ ?_))
  simp only [go_sem,reduceIte,Nat.reduceLT,Nat.reduceLeDiff,Nat.reduceEqDiff,Nat.reduceAdd,Nat.reduceMul,Nat.reduceSub,Nat.reduceBEq,Int.reduceToNat,List.reduceReplicate,reduceCtorEq,rngOk]
  simp only [← Bool.and_assoc,h1,Bool.true_and,Bool.false_and]
  try simp only [Bool.and_assoc,h2,Bool.true_and,Bool.false_and]
  try simp only [← Bool.and_assoc,h2,Bool.true_and,Bool.false_and]
theorem pick_pre (n:Int):cPick.pre [.rd,iv n]=True:=by simp [cPick]
theorem pick_post (n:Int) (K:AV→Prop):(∀ r,cPick.post [.rd,iv n] r→K r)=(∀ x:Int,0≤x→(x < n∨x=0)→K (iv x)):=by
 apply propext
 constructor
 ·intro h x h1 h2
  refine h _ fun m hm=>?_
  simp only [List.cons.injEq,AV.v.injEq,Value.int.injEq,true_and,and_true] at hm
  subst hm
  exact ⟨x,rfl,h1,h2⟩
 ·intro h r hr
  obtain ⟨x,rfl,h1,h2⟩:=hr n rfl
  exact h x h1 h2
theorem pick_ex (n:Int):(∃ r,cPick.post [.rd,iv n] r)=True:=by
 refine eq_true ⟨iv 0,fun m hm=>⟨0,rfl,by omega,.inr rfl⟩⟩
attribute [go_sem] pick_pre pick_post pick_ex lim
def okRng (f b:Int):Prop:=-2≤f∧f≤257∧-1≤b∧b≤9
instance (f b:Int):Decidable (okRng f b):=by unfold okRng;infer_instance
def cRange:Con:={ pre:=fun args=>args=[.rd],post:=fun _ r=>∃ f b:Int,okRng f b∧r = .agg [iv f,iv b],cost:=8,draws:=true }
theorem cRange_own:cRange.own=false:=rfl
theorem cRange_draws:cRange.draws=true:=rfl
theorem cRange_cost:cRange.cost=8:=rfl
attribute [go_sem] cRange_own cRange_draws cRange_cost
theorem range_pre:cRange.pre [.rd]=True:=by simp [cRange]
theorem range_post (args:List AV) (K:AV→Prop):(∀ r,cRange.post args r→K r)=(∀ f b:Int,okRng f b→K (.agg [iv f,iv b])):=by
 apply propext
 exact ⟨fun h f b hk=>h _ ⟨f,b,hk,rfl⟩,fun h r ⟨f,b,hk,e⟩=>e ▸ h f b hk⟩
theorem range_ex (args:List AV):(∃ r,cRange.post args r)=True:=eq_true ⟨_,0,0,by decide,rfl⟩
attribute [go_sem] range_pre range_post range_ex
theorem tdiv_szR (x b:Int) (hx:0≤x) (hx2:x < 256) (hb:0≤b) (hb2:b≤8):0≤x.tdiv (szR b) * szR b∧x.tdiv (szR b) * szR b≤255∧0≤x.tdiv (szR b)∧szR b≠0∧x.tdiv (szR b)≤255:=by
 have h:0 < szR b:=by
  have:=szR_ne b
  unfold szR at this ⊢
  have:(0:Int)≤2 ^ (8 - b).toNat:=Int.pow_nonneg (by omega)
  omega
 rw [Int.tdiv_eq_ediv_of_nonneg hx]
 have h1:=Int.ediv_mul_le x (b:=szR b) (by omega)
 have h2:0≤x / szR b:=Int.ediv_nonneg hx (by omega)
 have h3:0≤x / szR b * szR b:=Int.mul_nonneg h2 (by omega)
 have h4:x / szR b≤x:=Int.ediv_le_self _ hx
 exact ⟨h3,by omega,h2,by omega,by omega⟩
theorem l91Range_ok:Fine Tryd.prog 39 cRange:=by
 refine fine_of (T:=TT) Tryd.func39 rfl Tryd.ntmps39 (by rw [Tryd.results39]) rfl rfl tt (gs_cons pick_ok gs_nil) (ds_cons size_ok ds_nil) ?_
 rintro args rfl
 refine ⟨by simp,fun k hk E hE Q hQ=>?_⟩
 have hk:=hk rfl
 simp only [go_sem] at hk
 refine Aw_st hE [0,2] [2] fun K hK=>?_
 simp only [go_sem,reduceIte,Nat.reduceLT,Nat.reduceLeDiff,Nat.reduceEqDiff,Nat.reduceAdd,Nat.reduceMul,Nat.reduceSub,Nat.reduceBEq,Int.reduceToNat,List.reduceReplicate,reduceCtorEq]
 refine hK _ ?_;clear hK K
 refine Aw_st hE [0,2,3] [2] fun K hK=>?_
 simp only [go_sem,reduceIte,Nat.reduceLT,Nat.reduceLeDiff,Nat.reduceEqDiff,Nat.reduceAdd,Nat.reduceMul,Nat.reduceSub,Nat.reduceBEq,Int.reduceToNat,List.reduceReplicate,reduceCtorEq]
 have H:∀ b:Int,0≤b→b≤8→K { nt:=40,σ:=[(0,.rd),(2,.loc 2 0),(3,iv b)],m:=[(2,[iv 0,iv 0])],rn:=k + 1 + 1 + 1 + 1 }:=fun b hb1 hb2=>by
  refine hK _ ?_;clear hK K
  refine Aw_st hE [0,2,3,4] [2,4] fun K hK=>?_
  simp only [go_sem,reduceIte,Nat.reduceLT,Nat.reduceLeDiff,Nat.reduceEqDiff,Nat.reduceAdd,Nat.reduceMul,Nat.reduceSub,Nat.reduceBEq,Int.reduceToNat,List.reduceReplicate,reduceCtorEq]
  refine hK _ ?_;clear hK K
  refine Aw_sd hE [0,2,4] [2,4] 6 (by kernel_rfl) fun K hK=>?_
  simp only [go_sem,reduceIte,Nat.reduceLT,Nat.reduceLeDiff,Nat.reduceEqDiff,Nat.reduceAdd,Nat.reduceMul,Nat.reduceSub,Nat.reduceBEq,Int.reduceToNat,List.reduceReplicate,reduceCtorEq]
  repeat' (first | (refine And.intro (by first | omega | decide) ?_) | intro)
  rename_i x h1 h2
  obtain ⟨t1,t2,t3,t4,t5⟩:=tdiv_szR x b h1 (by omega) hb1 hb2
  refine ⟨⟨t4,by omega,by omega⟩,⟨hb1,hb2⟩,⟨by omega,by omega⟩,?_⟩
  refine hK _ ?_;clear hK K
  refine Aw_sq fun B1 hB1 hR1 hX1=>?_
  refine Aw_st hE [0,2,4,31] [2,4] fun K hK=>?_
  simp only [go_sem,reduceIte,Nat.reduceLT,Nat.reduceLeDiff,Nat.reduceEqDiff,Nat.reduceAdd,Nat.reduceMul,Nat.reduceSub,Nat.reduceBEq,Int.reduceToNat,List.reduceReplicate,reduceCtorEq]
  repeat' (first | (refine And.intro (by first | omega | decide) ?_) | intro)
  refine hK _ (Aw_cond rfl (fun hc2=>?_) (fun hc2=>?_))
  ·refine Aw_st hE [2] [2] fun K hK=>?_
   simp only [go_sem,reduceIte,Nat.reduceLT,Nat.reduceLeDiff,Nat.reduceEqDiff,Nat.reduceAdd,Nat.reduceMul,Nat.reduceSub,Nat.reduceBEq,Int.reduceToNat,List.reduceReplicate,reduceCtorEq]
   repeat' (first | (refine And.intro (by first | omega | decide) ?_) | intro)
   refine hK _ (Aw_ret (hR1 _ (hQ _ ?_)))
   simp only [go_sem,reduceIte,Nat.reduceLT,Nat.reduceLeDiff,Nat.reduceEqDiff,Nat.reduceAdd,Nat.reduceMul,Nat.reduceSub,Nat.reduceBEq,Int.reduceToNat,List.reduceReplicate,reduceCtorEq]
   exact ⟨_,_,⟨by omega,by omega,by omega,by omega⟩,rfl⟩
  ·refine Aw_skip (hB1 _ ?_)
   refine Aw_st hE [2] [2] fun K hK=>?_
   simp only [go_sem,reduceIte,Nat.reduceLT,Nat.reduceLeDiff,Nat.reduceEqDiff,Nat.reduceAdd,Nat.reduceMul,Nat.reduceSub,Nat.reduceBEq,Int.reduceToNat,List.reduceReplicate,reduceCtorEq]
   refine hK _ (Aw_ret (hQ _ ?_))
   simp only [go_sem,reduceIte,Nat.reduceLT,Nat.reduceLeDiff,Nat.reduceEqDiff,Nat.reduceAdd,Nat.reduceMul,Nat.reduceSub,Nat.reduceBEq,Int.reduceToNat,List.reduceReplicate,reduceCtorEq]
   exact ⟨by omega,_,_,⟨by omega,by omega,by omega,by omega⟩,rfl⟩
 repeat' (first | (refine And.intro (by first | omega | decide) ?_) | intro)
 rename_i x0 _ _ x1 _ _ x2 _ _ x3 _ _
 have h3:x3=0∨x3=1∨x3=2:=by omega
 rcases h3 with rfl | rfl | rfl<;>simp only [go_sem,reduceIte,Nat.reduceLT,Nat.reduceLeDiff,Nat.reduceEqDiff,Nat.reduceAdd,Nat.reduceMul,Nat.reduceSub,Nat.reduceBEq,Int.reduceToNat,List.reduceReplicate,reduceCtorEq]<;>refine ⟨by omega,H _ (by omega) (by omega)⟩
structure WTab (w:World):Prop where
 tab:Lib.TabIs Tryd.prog w "internal/strconv.uint64pow10" .u64 Lib.pow10Tab
theorem wtab_inh:Inh WTab WTab false:=fun _ _ _ h hg=>⟨var_grown hg h.tab⟩
def gItoa:List AV→Option (Prop × AV) | [.v (.int .i64 n)]=>some (0≤n∧n≤9223372036854775807,sv (Lib.decDigits n.toNat)) | _=>none
def dItoa:DFn:={ g:=gItoa,inv:=WTab }
def dRTextI:DFn:={ g:=gRText,inv:=WTab }
attribute [go_sem] gItoa dItoa dRTextI
theorem itoa_ok:Fine Tryd.prog 35 dItoa.con:=by
 refine lib_fine ⟨_,Tryd.func35,rfl,rfl⟩ ?_
 intro args c r h hc
 simp only [dItoa,gItoa] at h
 split at h
 rotate_left
 ·cases h
 rename_i n
 obtain ⟨rfl,rfl⟩:=Prod.mk.inj (Option.some.inj h)
 refine ⟨[.int .i64 n],.string ⟨(Lib.decDigits n.toNat).toArray⟩,rfl,fun c0=>.v _ rfl,fun w hw=>?_⟩
 refine (Tryd.strconv_Itoa n (by omega) (by omega) w hw.tab).mono ?_
 rintro e w' ⟨rfl,k,os,rfl⟩
 refine ⟨?_,grownBy_grow w k os⟩
 obtain ⟨u,rfl⟩:=Int.eq_ofNat_of_zero_le hc.1
 rw [Lib.itoa_nonneg,Int.toNat_natCast]
end Go.Proofs.W
end
section
namespace Go.Proofs.W
open Go
def val (l:List UInt8):Nat:=l.foldl (fun a c=>10 * a + (c.toNat - 48)) 0
def numGo:List UInt8→Int→Int
 | [],n=>n
 | c::l,n=>if c.toNat < 48∨57 < c.toNat then -1 else numGo l (10 * n + ((c.toNat:Int) - 48))
def num3 (l:List UInt8):Int:=if 1≤l.length∧l.length≤3 then numGo l 0 else -1
end Go.Proofs.W
end
section
namespace Go.Proofs.W
open Go Go.Eng Go.RowKit
set_option maxRecDepth 10000

theorem mk_extract (l:List UInt8) (i j:Nat):(ByteArray.mk l.toArray).extract i j=⟨((l.take j).drop i).toArray⟩:=by
 apply ByteArray.ext
 rw [ByteArray.data_extract]
 simp [List.drop_take]
theorem mk_get (l:List UInt8) (i:Nat):l.toArray.getD i 0=l.getD i 0:=by
 simp [Array.getD_eq_getD_getElem?,List.getD_eq_getElem?_getD]
theorem mk_toList (l:List UInt8):(ByteArray.mk l.toArray).toList=l:=by rw [ByteArray.toList_eq]
attribute [go_sem] mk_extract mk_get mk_toList sz_mk
def gNum:List AV→Option (Prop × AV) | [.v (.string s)]=>some (True,iv (num3 s.data.toList)) | _=>none
def dNum:DFn:={ g:=gNum }
attribute [go_sem] gNum dNum
def gCut:List AV→Option (Prop × AV) | [.v (.string s),.v (.string p)]=>some (s.size < 4294967281,.tup [sv (Lib.cut s.data.toList p.data.toList).1,sv (Lib.cut s.data.toList p.data.toList).2.1,bv (Lib.cut s.data.toList p.data.toList).2.2]) | _=>none
attribute [go_sem] gCut
def codeArg (args:List AV):Prop:=∃ bs:List Nat,(∀ b ∈ bs,b < 256)∧args=[.sl none (byteRows bs)]
def cDRange:Con:={ pre:=codeArg,post:=fun _ r=>∃ f b:Int,okRng f b∧r = .agg [iv f,iv b] }
theorem cDRange_own:cDRange.own=false:=rfl
theorem cDRange_draws:cDRange.draws=false:=rfl
theorem cDRange_cost:cDRange.cost=0:=rfl
attribute [go_sem] cDRange_own cDRange_draws cDRange_cost
theorem drange_post (args:List AV) (K:AV→Prop):(∀ r,cDRange.post args r→K r)=(∀ f b:Int,okRng f b→K (.agg [iv f,iv b])):=by
 apply propext
 exact ⟨fun h f b hk=>h _ ⟨f,b,hk,rfl⟩,fun h r ⟨f,b,hk,e⟩=>e ▸ h f b hk⟩
attribute [go_sem] drange_post

end Go.Proofs.W
end
section
namespace Go.Proofs.W
open Go Go.Eng Go.RowKit Go.WideShapes Go.ChangeShapes
set_option maxRecDepth 100000
def InBytes (W:World) (v:Value):Prop :=
 v = .slice none 0 0∨∃ b off len cap,∃ zs:List Int,v = .slice (some ⟨b,off,none⟩) len cap∧len≤cap∧len≤zs.length∧(∀ i,i < zs.length→W.cell? ⟨b,off + i,none⟩=some (.int .u8 (zs.getD i 0)))∧∀ n ∈ zs,0≤n∧n < 256
theorem inBytes_rdd {W:World} {v:Value} (h:InBytes W v) (S:Nat→Nat→Prop) (hS:∀ b o,(∃ x,W.cell? ⟨b,o,none⟩=some x∧x.oneCell'=true)→S b o):∃ bs:List Nat,(∀ b ∈ bs,b < 256)∧RdD W S (.sl (byteRows bs)) v:=by
 rcases h with rfl | ⟨b,off,len,cap,zs,rfl,h1,h2,h3,h4⟩
 ·exact ⟨[],by simp,.nil⟩
 ·have hz:∀ i,i < zs.length→0≤zs.getD i 0∧zs.getD i 0 < 256:=fun i hi=>by
   have:zs.getD i 0=zs[i]:=by simp [List.getD_eq_getElem?_getD,hi]
   rw [this];exact h4 _ (List.getElem_mem hi)
  refine ⟨(List.range len).map fun i=>(zs.getD i 0).toNat,?_,rdd_bytes h1 fun k hk=>?_⟩
  ·intro x hx
   simp only [List.mem_map,List.mem_range] at hx
   obtain ⟨i,hi,rfl⟩:=hx
   have:=hz i (by omega);omega
  ·have e:((zs.getD k 0).toNat:Int)=zs.getD k 0:=Int.toNat_of_nonneg (hz k (by omega)).1
   have hc:=h3 k (by omega)
   rw [← e] at hc
   exact ⟨hS _ _ ⟨_,hc,rfl⟩,hc⟩
theorem post_below {H:Type} {enc:TypeId × Value→H} {P:Program} {f:Func} {s:ChangeSpec} {apart fresh handsOn again:Bool} {W W':World} {args:Array Value} {v:Value} {ds gs:List (DataW H)} {before pa pv:List MemPlace}
  (hW:DataW.Whole enc P f.params.toList s.vars apart W args.toList ds gs before)
  (hres:∀ (b:Nat) (sp:Nat→Bool) (hd:Bool),DataW.TrodAll enc P W' b sp hd f.resultTypes.toList (v.resultList f.resultTypes.size) (s.fn H (ds++gs)).results [])
  (hargs:∀ sp:Nat→Bool,(∀ p ∈ before,sp p.block=true)→DataW.TrodAll enc P W' 0 sp true f.params.toList args.toList (s.fn H (ds++gs)).args pa)
  (hvars:∀ sp:Nat→Bool,(∀ p ∈ before,sp p.block=true)→DataW.TrodVars enc P W' sp s.vars (s.fn H (ds++gs)).vars pv)
  (hps:before=pa++pv) (hb:Below W.heap.size W W')
  (hok:∀ (j:Nat) (t:TypeId) (r:Value),f.resultTypes[j]? = some t→(v.resultList f.resultTypes.size)[j]? = some r→Value.okWide P W' .any 0 t r) :
  s.post enc P f apart fresh handsOn again W args v W':=by
 have hlt:∀ p ∈ before,p.block < W.heap.size:=fun p hp=>hW.lt p hp
 have hold:∀ p ∈ before,(fun b=>decide (b < W.heap.size)) p.block=true:=fun p hp=>by simpa using hlt p hp
 refine ⟨ds,gs,before,[],pa,pv,hW,hres _ _ _,hargs _ hold,hvars _ hold,World.keptBut_mono (fun p hp=>⟨hp,?_⟩) (hb.frame (· ∈ before)),fun _=>?_⟩
 ·rw [hps,List.mem_append] at hp
  exact Or.inr hp
 ·obtain ⟨_,_,_,_,_,hz,hn⟩:=hW
  refine ⟨hok,_,_,([]++pa)++pv,⟨[]++pa,pv,trodAll_append (hargs _ (fun _ _=>rfl)) (hres _ _ _),hvars _ (fun _ _=>rfl),rfl,?_,?_⟩,?_⟩
  ·intro b off hp
   have hin:MemPlace.cell b off ∈ before:=by rw [hps];simpa using hp
   rw [hb.frozen (hlt _ hin)]
   exact hz b off hin
  ·intro ha
   have:=hn ha
   rw [hps] at this
   simpa using this
  ·intro p hp _
   rw [hps]
   simpa using hp
theorem open_arg {H:Type} {enc:TypeId × Value→H} {W:World} {base:Nat} {v:Value} {d:DataW H} {p:List MemPlace} (hval:Value.okWide Tryd.prog W .any base 22 v) (h:DataW.Trod enc Tryd.prog W 0 (fun _=>true) true 22 v d p) :
  InBytes W v∧∀ W':World,Below W.heap.size W W'→∀ sp:Nat→Bool,(∀ x ∈ p,sp x.block=true)→DataW.Trod enc Tryd.prog W' 0 sp true 22 v d p:=by
 obtain ⟨a1,len,cap,rfl⟩:=okWide_slice Tryd.underlying22 hval
 have hspot:∀ a,a1=some a→a.spot=none:=fun a e=>by
  subst e
  simp only [Value.okWide,Tryd.underlying22,Cell.okWide,Cell.ok] at hval
  exact hval.2.2.2.1
 obtain ⟨fuel,hf⟩:=h
 rcases open_ints Tryd.underlying22 Tryd.underlying5 (by kernel_rfl) hf with ⟨hcs,hx⟩ | ⟨a,len',cap',zs,hcs,hba,hl,hm,hz,hx,hcell,hwz⟩
 ·simp [Value.cells] at hcs
  obtain ⟨rfl,rfl,rfl⟩:=hcs
  simp only [Prod.mk.injEq] at hx
  obtain ⟨rfl,rfl⟩:=hx
  refine ⟨.inl rfl,fun W' _ sp _=>⟨1,?_⟩⟩
  simp [DataW.trod,Tryd.underlying22,Value.cells]
 ·simp [Value.cells] at hcs
  obtain ⟨rfl,rfl,rfl⟩:=hcs
  simp only [Prod.mk.injEq] at hx
  obtain ⟨rfl,rfl⟩:=hx
  simp only [if_true] at hz
  obtain ⟨b,off,spot⟩:=a
  obtain rfl:spot=none:=hspot _ rfl
  have hcell':∀ i,i < zs.length→W.cell? ⟨b,off + i,none⟩=some (.int .u8 (zs.getD i 0)):=fun i hi=>by
   have:=hcell i hi
   rwa [add_none] at this
  refine ⟨.inr ⟨b,off,len,cap,zs,rfl,hl,by omega,hcell',fun n hn=>?_⟩,fun W' hB sp hsp=>⟨2,?_⟩⟩
  ·have:=bounds_u8 (hwz n hn)
   omega
  ·have hpos:0 < zs.length→sp b=true:=fun h0=>by
    have:=hsp (.cell b off) (by simp only [MemPlace.row,List.mem_map,List.mem_range];exact ⟨0,h0,rfl⟩)
    exact this
   refine shut_ints (a:=⟨b,off,none⟩) 0 Tryd.underlying22 Tryd.underlying5 (by kernel_rfl) hba hl hm ?_ (fun i hi=>?_) hwz
   ·by_cases h0:0 < zs.length
    ·rw [if_pos (hpos h0)];exact hz
    ·have:zs.length=0:=by omega
     split<;>omega
   ·rw [add_none]
    exact (hB.cell (p:=⟨b,off + i,none⟩) (World.block_lt_of_cell? W ⟨b,off + i,none⟩ (hcell' i hi))).trans (hcell' i hi)
end Go.Proofs.W
end
section
namespace Go.Proofs.W
open Go Go.Eng Go.RowKit
set_option maxRecDepth 10000
def rows (l:List Int):List (List DV):=l.map fun n=>[DV.v (.int .i64 n)]
abbrev isl (l:List Int):AV:=.sl none (rows l)
def intsL:List (List DV)→Option (List Int)
 | []=>some []
 | [.v (.int .i64 n)]::l=>match intsL l with
  | some r=>some (n::r)
  | none=>none
 | _=>none
theorem rows_nil:rows []=[]:=rfl
theorem rows_cons (n:Int) (l:List Int):rows (n::l)=[DV.v (.int .i64 n)]::rows l:=rfl
theorem intsL_rows (l:List Int):intsL (rows l)=some l:=by
 induction l with
 | nil=>rfl
 | cons n l ih=>simp only [rows_cons,intsL,ih]
theorem intsL_eq {els:List (List DV)}:∀ {l:List Int},intsL els=some l→els=rows l:=by
 induction els with
 | nil=>intro l h;obtain rfl:=Option.some.inj h;rfl
 | cons row els ih =>
  intro l h
  unfold intsL at h
  split at h
  ·rename_i e;cases e
  ·rename_i n l' e
   obtain ⟨rfl,rfl⟩:=List.cons.inj e
   split at h
   ·rename_i r hr
    obtain rfl:=Option.some.inj h
    rw [ih hr];rfl
   ·cases h
  ·cases h
theorem rows_len (l:List Int):(rows l).length=l.length:=by simp [rows]
theorem rows_get (l:List Int) (i:Nat) (h:i < l.length):(rows l)[i]? = some [.v (.int .i64 (l.getD i 0))]:=by simp [rows,List.getD_eq_getElem?_getD,h]
theorem rows_app (a b:List Int):rows a++rows b=rows (a++b):=by simp [rows]
theorem rows_take (l:List Int) (n:Nat):(rows l).take n=rows (l.take n):=by simp [rows,List.map_take]
theorem rows_drop (l:List Int) (n:Nat):(rows l).drop n=rows (l.drop n):=by simp [rows,List.map_drop]
theorem rows_one (n:Int):[[DV.v (.int .i64 n)]]=rows [n]:=rfl
theorem rows_row (l:List Int):∀ row ∈ rows l,row.length=1:=by simp [rows]
attribute [go_sem] intsL_rows rows_len rows_nil rows_take rows_drop rows_app
def isH (h:Int):Bool:=decide (1≤h) && decide (h≤5)
def gIsH:List AV→Option (Prop × AV) | [.v (.int .i64 n)]=>some (True,bv (isH n)) | _=>none
def dIsH:DFn:={ g:=gIsH }
def gHas:List AV→Option (Prop × AV) | [.sl _ els,.v (.int .i64 n)]=>(match intsL els with | some l=>some (l.length≤4294967296,bv (l.contains n)) | none=>none) | _=>none
def dHas:DFn:={ g:=gHas }
attribute [go_sem] gIsH dIsH gHas dHas
theorem iIsH_ok:Fine Tryd.prog 15 dIsH.con:=by
 refine fine_det (T:=TT) Tryd.func15 rfl Tryd.ntmps15 (by rw [Tryd.results15]) rfl rfl tt (gs_nil) (ds_nil) ?_
 intro args c r h hc
 simp only [dIsH,gIsH] at h
 split at h
 rotate_left
 ·cases h
 obtain ⟨rfl,rfl⟩:=Prod.mk.inj (Option.some.inj h)
 refine ⟨by simp,fun k E hE Q hQ=>?_⟩
 refine Aw_st hE [0] [] fun K hK=>?_
 simp only [go_sem,seval]
 repeat refine sd0 ?_
 refine hK _ ?_;clear hK K
 refine Aw_st hE [2] [] fun K hK=>?_
 simp only [go_sem,seval]
 repeat refine sd0 ?_
 refine ⟨fun h1=>?_,fun h1=>?_⟩
 all_goals
  refine hK _ (Aw_ret (hQ _ ?_))
  simp only [go_sem,seval,isH,h1,Bool.true_and,Bool.false_and]
theorem sIsH_ok:Fine Tryd.prog 29 dIsH.con:=by
 refine fine_det (T:=TT) Tryd.func29 rfl Tryd.ntmps29 (by rw [Tryd.results29]) rfl rfl tt (gs_nil) (ds_cons in_ok ds_nil) ?_
 intro args c r h hc
 simp only [dIsH,gIsH] at h
 split at h
 rotate_left
 ·cases h
 obtain ⟨rfl,rfl⟩:=Prod.mk.inj (Option.some.inj h)
 refine ⟨by simp,fun k E hE Q hQ=>?_⟩
 refine Aw_st hE [0] [] fun K hK=>?_
 simp only [go_sem,seval]
 repeat refine sd0 ?_
 refine hK _ ?_;clear hK K
 refine Aw_st hE [2] [] fun K hK=>?_
 simp only [go_sem,seval]
 repeat refine sd0 ?_
 refine hK _ (Aw_ret (hQ _ ?_))
 simp only [go_sem,seval,isH]
theorem contains_take (l:List Int) (i:Nat) (h:i < l.length) (n:Int):(l.take (i + 1)).contains n=((l.take i).contains n || decide (l.getD i 0=n)):=by
 rw [Bool.eq_iff_iff]
 simp only [List.take_succ_eq_append_getElem h,List.getD_eq_getElem?_getD,List.getElem?_eq_getElem h,Option.getD_some,List.contains_eq_mem,List.mem_append,List.mem_singleton,Bool.or_eq_true,dte]
 constructor
 ·rintro (h1 | h1)
  ·exact .inl h1
  ·exact .inr h1.symm
 ·rintro (h1 | h1)
  ·exact .inl h1
  ·exact .inr h1.symm
theorem getD_mem (l:List Int) (i:Nat) (h:i < l.length):l.getD i 0 ∈ l:=by
 rw [List.getD_eq_getElem?_getD,List.getElem?_eq_getElem h]
 exact List.getElem_mem h
theorem has3_ok:Fine Tryd.prog 20 dHas.con:=by
 refine fine_det (T:=TT) Tryd.func20 rfl Tryd.ntmps20 (by rw [Tryd.results20]) rfl rfl tt (gs_nil) (ds_nil) ?_
 intro args c r h hc
 simp only [dHas,gHas] at h
 split at h
 rotate_left
 ·cases h
 split at h
 rotate_left
 ·cases h
 rename_i t els n _ l hl
 obtain rfl:=intsL_eq hl
 obtain ⟨rfl,rfl⟩:=Prod.mk.inj (Option.some.inj h)
 refine ⟨by simp,fun k E hE Q hQ=>?_⟩
 refine Aw_st hE [0,1] [] fun K hK=>?_
 simp only [go_sem,seval]
 repeat refine sd0 ?_
 refine hK _ ?_;clear hK K
 refine Aw_sq fun B1 hB1 hR1 hX1=>?_
 refine Aw_st hE [0,1,5] [] fun K hK=>?_
 simp only [go_sem,seval]
 repeat refine sd0 ?_
 refine hK _ ?_;clear hK K
 refine Aw_bk fun B2 hN2 hE2 hR2 hX2=>?_
 refine Aw_lp (fun i:Nat=>⟨18,[(0,.sl t (rows l)),(1,iv n),(5,iv i)],[],k⟩) (fun i:Nat=>i≤l.length∧(l.take i).contains n=false) (fun i:Nat=>l.length - i) (0) (Le.refl _) (⟨by omega,by simp⟩) fun i hi B3 hN3 hR3 hX3=>?_
 refine Aw_sq fun B4 hB4 hR4 hX4=>?_
 refine Aw_st hE [0,1,5,9] [] fun K hK=>?_
 simp only [go_sem,seval]
 repeat refine sd0 ?_
 refine hK _ (Aw_cond rfl (fun hc5=>?_) (fun hc5=>?_))
 ·simp only [dte] at hc5
  have hil:i < l.length:=by omega
  have hs:=contains_take l i hil n
  refine Aw_skip (hB4 _ ?_)
  refine Aw_sq fun B6 hB6 hR6 hX6=>?_
  refine Aw_bk fun B7 hN7 hE7 hR7 hX7=>?_
  refine Aw_st hE [0,1,5,17] [] fun K hK=>?_
  simp only [go_sem,seval,rows_get l i hil]
  repeat refine sd0 ?_
  refine hK _ (Aw_cond rfl (fun hc8=>?_) (fun hc8=>?_))
  ·simp only [dte] at hc8
   refine Aw_st hE [4] [] fun K hK=>?_
   simp only [go_sem,seval]
   repeat refine sd0 ?_
   refine hK _ (Aw_ret (hR7 _ (hR6 _ (hR3 _ (hR2 _ (hR1 _ (hQ _ ?_)))))))
   simp only [go_sem,seval]
   rw [← hc8]
   exact (by simpa using getD_mem l i hil)
  ·refine Aw_skip (hN7 _ (hB6 _ ?_))
   refine Aw_tx hE [0,1,5] [] fun K hK=>?_
   simp only [go_sem,seval]
   repeat refine sd0 ?_
   have hs':(l.take (i + 1)).contains n=false:=by simp_all
   refine hK _ (hN3 (i + 1) _ (⟨by omega,hs'⟩) (by omega) (Le.refl _))
 ·simp only [dfn] at hc5
  refine Aw_exit (hX4 _ _ (hX3 _ _ (hE2 _ (hB1 _ ?_))))
  refine Aw_st hE [4] [] fun K hK=>?_
  simp only [go_sem,seval]
  repeat refine sd0 ?_
  refine hK _ (Aw_ret (hQ _ ?_))
  simp only [go_sem,seval]
  have e:=hi.2
  rw [List.take_of_length_le (by omega)] at e
  exact e.symm
def pathOk (p:List Int):Bool:=p.all isH && decide p.Nodup
theorem pathOk_nil:pathOk []=true:=rfl
theorem pathOk_take {p:List Int} (h:pathOk p=true) (n:Nat):pathOk (p.take n)=true:=by
 simp only [pathOk,Bool.and_eq_true,List.all_eq_true,dte] at *
 exact ⟨fun x hx=>h.1 x (List.mem_of_mem_take hx),h.2.sublist (List.take_sublist n p)⟩
theorem pathOk_step (p:List Int) (i:Nat) (h:i < p.length):pathOk (p.take (i + 1))=(pathOk (p.take i) && (isH (p.getD i 0) && !(p.take i).contains (p.getD i 0))):=by
 rw [Bool.eq_iff_iff]
 simp only [pathOk,List.take_succ_eq_append_getElem h,List.getD_eq_getElem?_getD,List.getElem?_eq_getElem h,Option.getD_some,List.all_append,List.nodup_append,Bool.and_eq_true,dte,List.all_cons,List.all_nil,Bool.not_eq_true',List.contains_eq_mem,dfn,and_true]
 constructor
 ·rintro ⟨⟨h1,h2⟩,h3,_,h4⟩
  exact ⟨⟨h1,h3⟩,h2,fun hm=>h4 _ hm _ (List.mem_singleton.2 rfl) rfl⟩
 ·rintro ⟨⟨h1,h3⟩,h2,h4⟩
  exact ⟨⟨h1,h2⟩,h3,by simp,fun a ha b hb e=>by rw [List.mem_singleton] at hb;subst hb;subst e;exact h4 ha⟩
theorem pathOk_stop {p:List Int} {i:Nat} (h:i < p.length) (hn:(isH (p.getD i 0) && !(p.take i).contains (p.getD i 0))=false):pathOk p=false:=by
 cases he:pathOk p
 ·rfl
 ·have h1:=pathOk_take he (i + 1)
  rw [pathOk_step p i h,hn,Bool.and_false] at h1
  cases h1
def gPathOk:List AV→Option (Prop × AV) | [.sl _ els]=>(match intsL els with | some p=>some (p.length≤4294967296,bv (pathOk p)) | none=>none) | _=>none
def dPathOk:DFn:={ g:=gPathOk }
attribute [go_sem] gPathOk dPathOk
theorem sPathOk_ok:Fine Tryd.prog 50 dPathOk.con:=by
 refine fine_det (T:=TT) Tryd.func50 rfl Tryd.ntmps50 (by rw [Tryd.results50]) rfl rfl tt (gs_nil) (ds_cons sIsH_ok (ds_cons has3_ok ds_nil)) ?_
 intro args c r h hc
 simp only [dPathOk,gPathOk] at h
 split at h
 rotate_left
 ·cases h
 split at h
 rotate_left
 ·cases h
 rename_i t els _ p hl
 obtain rfl:=intsL_eq hl
 obtain ⟨rfl,rfl⟩:=Prod.mk.inj (Option.some.inj h)
 refine ⟨by simp,fun k E hE Q hQ=>?_⟩
 refine Aw_st hE [0] [] fun K hK=>?_
 simp only [go_sem,seval]
 repeat refine sd0 ?_
 refine hK _ ?_;clear hK K
 refine Aw_sq fun B1 hB1 hR1 hX1=>?_
 refine Aw_st hE [0,3] [] fun K hK=>?_
 simp only [go_sem,seval]
 repeat refine sd0 ?_
 refine hK _ ?_;clear hK K
 refine Aw_bk fun B2 hN2 hE2 hR2 hX2=>?_
 refine Aw_lp (fun i:Nat=>⟨26,[(0,.sl t (rows p)),(3,iv i)],[],k⟩) (fun i:Nat=>i≤p.length∧pathOk (p.take i)=true) (fun i:Nat=>p.length - i) (0) (Le.refl _) (⟨by omega,by simp [pathOk_nil]⟩) fun i hi B3 hN3 hR3 hX3=>?_
 refine Aw_sq fun B4 hB4 hR4 hX4=>?_
 refine Aw_st hE [0,3,7] [] fun K hK=>?_
 simp only [go_sem,seval]
 repeat refine sd0 ?_
 refine hK _ (Aw_cond rfl (fun hc5=>?_) (fun hc5=>?_))
 ·simp only [dte] at hc5
  have hil:i < p.length:=by omega
  have hs:=pathOk_step p i hil
  rw [hi.2,Bool.true_and] at hs
  refine Aw_skip (hB4 _ ?_)
  refine Aw_sq fun B6 hB6 hR6 hX6=>?_
  refine Aw_bk fun B7 hN7 hE7 hR7 hX7=>?_
  refine Aw_sd hE [0,3,25] [] 6 (by kernel_rfl) fun K hK=>?_
  simp only [go_sem,seval,rows_get p i hil]
  repeat refine sd0 ?_
  refine ⟨fun hg9=>?_,fun hg9=>?_⟩
  ·simp only [Bool.not_eq_true'] at hg9
   repeat refine sd0 ?_
   refine hK _ (Aw_yes rfl ?_)
   refine Aw_st hE [2] [] fun K hK=>?_
   simp only [go_sem,seval]
   repeat refine sd0 ?_
   refine hK _ (Aw_ret (hR7 _ (hR6 _ (hR3 _ (hR2 _ (hR1 _ (hQ _ ?_)))))))
   simp only [go_sem,seval,pathOk_stop hil (by rw [hg9];rfl)]
  ·simp only [Bool.not_eq_false'] at hg9
   repeat refine sd0 ?_
   refine hK _ (Aw_cond rfl (fun hc10=>?_) (fun hc10=>?_))
   ·have hst:=pathOk_stop hil (by rw [hg9,hc10];rfl)
    refine Aw_st hE [2] [] fun K hK=>?_
    simp only [go_sem,seval]
    repeat refine sd0 ?_
    refine hK _ (Aw_ret (hR7 _ (hR6 _ (hR3 _ (hR2 _ (hR1 _ (hQ _ ?_)))))))
    simp only [go_sem,seval,hst]
   ·rw [hg9,hc10] at hs
    refine Aw_skip (hN7 _ (hB6 _ ?_))
    refine Aw_tx hE [0,3] [] fun K hK=>?_
    simp only [go_sem,seval]
    repeat refine sd0 ?_
    refine hK _ (hN3 (i + 1) _ (⟨by omega,hs⟩) (by omega) (Le.refl _))
 ·simp only [dfn] at hc5
  refine Aw_exit (hX4 _ _ (hX3 _ _ (hE2 _ (hB1 _ ?_))))
  refine Aw_st hE [2] [] fun K hK=>?_
  simp only [go_sem,seval]
  repeat refine sd0 ?_
  refine hK _ (Aw_ret (hQ _ ?_))
  simp only [go_sem,seval]
  have e:=hi.2
  rw [List.take_of_length_le (by omega)] at e
  exact e.symm
end Go.Proofs.W
end
section
namespace Go.Proofs.W
open Go Go.Eng Go.RowKit Go.Extern.Stop Go.Stop Go.Extern
set_option maxRecDepth 100000
abbrev errS (s:ByteArray):AV:=.dv (.ifc 99 (.ptr [.v (.string s)]))
def gNew:List AV→Option (Prop × AV) | [.v (.string s)]=>some (True,errS s) | _=>none
def dNew:DFn:={ g:=gNew }
attribute [go_sem] gNew dNew
theorem new_ok:Fine Tryd.prog 34 dNew.con:=by
 refine fine_det (T:=TT) Tryd.func34 rfl Tryd.ntmps34 (by rw [Tryd.results34]) rfl rfl tt (gs_nil) (ds_nil) ?_
 intro args c r h hc
 simp only [dNew,gNew] at h
 split at h
 rotate_left
 ·cases h
 obtain ⟨rfl,rfl⟩:=Prod.mk.inj (Option.some.inj h)
 refine ⟨by simp,fun k E hE Q hQ=>?_⟩
 refine Aw_st hE [0] [] fun K hK=>?_
 simp only [go_sem,seval]
 refine hK _ ?_;clear hK K
 refine Aw_st hE [2] [] fun K hK=>?_
 simp only [go_sem,seval]
 refine hK _ (Aw_ret (hQ _ ?_))
 simp only [go_sem,seval]
def gJoin:List AV→Option (Prop × AV) | [.sl _ [[.v (.iface t v)],[.ifc t' x]]]=>some (True,.dv (.ifc 96 (.ptr [.sl [[.v (.iface t v)],[.ifc t' x]]]))) | _=>none
def dJoin:DFn:={ g:=gJoin }
attribute [go_sem] gJoin dJoin
theorem join_ok:Fine Tryd.prog 33 dJoin.con:=by
 refine fine_det (T:=TT) Tryd.func33 rfl Tryd.ntmps33 (by rw [Tryd.results33]) rfl rfl tt (gs_nil) (ds_nil) ?_
 intro args c r h hc
 simp only [dJoin,gJoin] at h
 split at h
 rotate_left
 ·cases h
 obtain ⟨rfl,rfl⟩:=Prod.mk.inj (Option.some.inj h)
 refine ⟨by simp,fun k E hE Q hQ=>?_⟩
 refine Aw_st hE [0] [] fun K hK=>?_
 simp only [go_sem,seval]
 repeat refine sd0 ?_
 refine hK _ ?_;clear hK K
 refine Aw_st hE [0,3] [] fun K hK=>?_
 simp only [go_sem,seval]
 repeat refine sd0 ?_
 refine hK _ ?_;clear hK K
 refine Aw_sq fun B1 hB1 hR1 hX1=>?_
 refine Aw_st hE [0,3,9,10,11] [] fun K hK=>?_
 simp only [go_sem,seval]
 repeat refine sd0 ?_
 refine hK _ ?_;clear hK K
 refine Aw_bk fun B2 hN2 hE2 hR2 hX2=>?_
 refine Aw_unr 3 ?_
 refine Aw_rd fun B3 hN3 hR3 hX3=>?_
 refine Aw_st hE [0,3,9,10,11,12] [] fun K hK=>?_
 simp only [go_sem,seval]
 repeat refine sd0 ?_
 refine hK _ ?_;clear hK K
 refine Aw_sq fun B4 hB4 hR4 hX4=>?_
 refine Aw_yes rfl ?_
 refine Aw_skip (hB4 _ ?_)
 refine Aw_sq fun B6 hB6 hR6 hX6=>?_
 refine Aw_bk fun B7 hN7 hE7 hR7 hX7=>?_
 refine Aw_st hE [0,3,5,9,10,11] [] fun K hK=>?_
 simp only [go_sem,seval]
 repeat refine sd0 ?_
 refine hK _ ?_;clear hK K
 refine Aw_st hE [0,3,9,10,11,16] [] fun K hK=>?_
 simp only [go_sem,seval]
 repeat refine sd0 ?_
 refine hK _ (Aw_yes rfl ?_)
 refine Aw_tx hE [0,3,9,10,11] [] fun K hK=>?_
 simp only [go_sem,seval]
 repeat refine sd0 ?_
 refine hK _ (hN7 _ (hB6 _ ?_))
 refine Aw_tx hE [0,3,9,10,11] [] fun K hK=>?_
 simp only [go_sem,seval]
 repeat refine sd0 ?_
 refine hK _ (hN3 _ ?_)
 refine Aw_rd fun B9 hN9 hR9 hX9=>?_
 refine Aw_st hE [0,3,9,10,11,12] [] fun K hK=>?_
 simp only [go_sem,seval]
 repeat refine sd0 ?_
 refine hK _ ?_;clear hK K
 refine Aw_sq fun B10 hB10 hR10 hX10=>?_
 refine Aw_yes rfl ?_
 refine Aw_skip (hB10 _ ?_)
 refine Aw_sq fun B12 hB12 hR12 hX12=>?_
 refine Aw_bk fun B13 hN13 hE13 hR13 hX13=>?_
 refine Aw_st hE [0,3,5,9,10,11] [] fun K hK=>?_
 simp only [go_sem,seval]
 repeat refine sd0 ?_
 refine hK _ ?_;clear hK K
 refine Aw_st hE [0,3,9,10,11,16] [] fun K hK=>?_
 simp only [go_sem,seval]
 repeat refine sd0 ?_
 refine hK _ (Aw_yes rfl ?_)
 refine Aw_tx hE [0,3,9,10,11] [] fun K hK=>?_
 simp only [go_sem,seval]
 repeat refine sd0 ?_
 refine hK _ (hN13 _ (hB12 _ ?_))
 refine Aw_tx hE [0,3,9,10,11] [] fun K hK=>?_
 simp only [go_sem,seval]
 repeat refine sd0 ?_
 refine hK _ (hN9 _ ?_)
 refine Aw_rd fun B15 hN15 hR15 hX15=>?_
 refine Aw_st hE [0,3,9,10,11,12] [] fun K hK=>?_
 simp only [go_sem,seval]
 repeat refine sd0 ?_
 refine hK _ ?_;clear hK K
 refine Aw_sq fun B16 hB16 hR16 hX16=>?_
 refine Aw_no rfl ?_
 refine Aw_exit (hX16 _ _ (hX15 _ _ (hE2 _ (hB1 _ ?_))))
 refine Aw_sq fun B18 hB18 hR18 hX18=>?_
 refine Aw_st hE [0,3,21] [] fun K hK=>?_
 simp only [go_sem,seval]
 repeat refine sd0 ?_
 refine hK _ (Aw_no rfl ?_)
 refine Aw_skip (hB18 _ ?_)
 refine Aw_st hE [0,6] [25] fun K hK=>?_
 simp only [go_sem,seval]
 repeat refine sd0 ?_
 refine hK _ ?_;clear hK K
 refine Aw_sq fun B20 hB20 hR20 hX20=>?_
 refine Aw_st hE [6,26,27,28] [25] fun K hK=>?_
 simp only [go_sem,seval]
 repeat refine sd0 ?_
 refine hK _ ?_;clear hK K
 refine Aw_bk fun B21 hN21 hE21 hR21 hX21=>?_
 refine Aw_unr 3 ?_
 refine Aw_rd fun B22 hN22 hR22 hX22=>?_
 refine Aw_st hE [6,26,27,28,29] [25] fun K hK=>?_
 simp only [go_sem,seval]
 repeat refine sd0 ?_
 refine hK _ ?_;clear hK K
 refine Aw_sq fun B23 hB23 hR23 hX23=>?_
 refine Aw_yes rfl ?_
 refine Aw_skip (hB23 _ ?_)
 refine Aw_sq fun B25 hB25 hR25 hX25=>?_
 refine Aw_bk fun B26 hN26 hE26 hR26 hX26=>?_
 refine Aw_st hE [6,8,26,27,28] [25] fun K hK=>?_
 simp only [go_sem,seval]
 repeat refine sd0 ?_
 refine hK _ ?_;clear hK K
 refine Aw_st hE [6,8,26,27,28,33] [25] fun K hK=>?_
 simp only [go_sem,seval]
 repeat refine sd0 ?_
 refine hK _ (Aw_yes rfl ?_)
 refine Aw_tx hE [6,26,27,28] [25] fun K hK=>?_
 simp only [go_sem,seval]
 repeat refine sd0 ?_
 refine hK _ (hN26 _ (hB25 _ ?_))
 refine Aw_tx hE [6,26,27,28] [25] fun K hK=>?_
 simp only [go_sem,seval]
 repeat refine sd0 ?_
 refine hK _ (hN22 _ ?_)
 refine Aw_rd fun B28 hN28 hR28 hX28=>?_
 refine Aw_st hE [6,26,27,28,29] [25] fun K hK=>?_
 simp only [go_sem,seval]
 repeat refine sd0 ?_
 refine hK _ ?_;clear hK K
 refine Aw_sq fun B29 hB29 hR29 hX29=>?_
 refine Aw_yes rfl ?_
 refine Aw_skip (hB29 _ ?_)
 refine Aw_sq fun B31 hB31 hR31 hX31=>?_
 refine Aw_bk fun B32 hN32 hE32 hR32 hX32=>?_
 refine Aw_st hE [6,8,26,27,28] [25] fun K hK=>?_
 simp only [go_sem,seval]
 repeat refine sd0 ?_
 refine hK _ ?_;clear hK K
 refine Aw_st hE [6,8,26,27,28,33] [25] fun K hK=>?_
 simp only [go_sem,seval]
 repeat refine sd0 ?_
 refine hK _ (Aw_yes rfl ?_)
 refine Aw_tx hE [6,26,27,28] [25] fun K hK=>?_
 simp only [go_sem,seval]
 repeat refine sd0 ?_
 refine hK _ (hN32 _ (hB31 _ ?_))
 refine Aw_tx hE [6,26,27,28] [25] fun K hK=>?_
 simp only [go_sem,seval]
 repeat refine sd0 ?_
 refine hK _ (hN28 _ ?_)
 refine Aw_rd fun B34 hN34 hR34 hX34=>?_
 refine Aw_st hE [6,26,27,28,29] [25] fun K hK=>?_
 simp only [go_sem,seval]
 repeat refine sd0 ?_
 refine hK _ ?_;clear hK K
 refine Aw_sq fun B35 hB35 hR35 hX35=>?_
 refine Aw_no rfl ?_
 refine Aw_exit (hX35 _ _ (hX34 _ _ (hE21 _ (hB20 _ ?_))))
 refine Aw_st hE [2] [] fun K hK=>?_
 simp only [go_sem,seval]
 repeat refine sd0 ?_
 refine hK _ (Aw_ret (hQ _ ?_))
 simp only [go_sem,seval]
theorem isTypeOf (v:Value) (w:World):(Extern.ReflectliteType.typeOf #[.iface 99 v]).run Tryd.prog w = .ok (.iface 103 (.agg #[.pointer (some ⟨4,99,none⟩)])) w:=by kernel_rfl
theorem isComparable (w:World):((Extern.ReflectliteType.method fun t=>do Go.Extern.Rtype.noPackHeld "Comparable" t;(fun a=>Value.bool a.comparable) <$> typeInfo t) #[.agg #[.pointer (some ⟨4,99,none⟩)]]).run Tryd.prog w = .ok (.bool true) w:=by kernel_rfl
theorem isMethodComparable (v:Value) (w:World):(Go.method 262 103 v "Comparable").run Tryd.prog w = .ok (100,v) w:=by kernel_rfl
theorem isComp:(Tryd.prog.info? 99).map (·.comparable)=some true:=by kernel_rfl
theorem isSize:(Tryd.prog.info? 101).map (·.size)=some 1:=by kernel_rfl
theorem noIsJ (v:Value) (xT:TypeId) (w:World):(Instr.typeAssert (.iface 96 v) xT 105 true).run Tryd.prog w = .ok (.tuple #[.nilIface,.bool false]) w:=run_typeAssert_lacksB Tryd.underlying105 (by kernel_rfl) (by kernel_rfl) v xT w
theorem noUnwrapJ (v:Value) (xT:TypeId) (w:World):(Instr.typeAssert (.iface 96 v) xT 108 true).run Tryd.prog w = .ok (.tuple #[.nilIface,.bool false]) w:=run_typeAssert_lacksB Tryd.underlying108 (by kernel_rfl) (by kernel_rfl) v xT w
theorem hasUnwrapJ (v:Value) (xT:TypeId) (w:World):(Instr.typeAssert (.iface 96 v) xT 110 true).run Tryd.prog w = .ok (.tuple #[.iface 96 v,.bool true]) w:=run_typeAssert_hasB Tryd.underlying110 (by kernel_rfl) v xT w
theorem methodUnwrapJ (v:Value) (w:World):(Go.method 262 96 v "Unwrap").run Tryd.prog w = .ok (95,v) w:=by kernel_rfl
theorem nilJ (a:Addr) (w:World):(nilAhead 262 96 (.pointer (some a)) "Unwrap").run Tryd.prog w = .ok (some false) w:=by kernel_rfl
theorem unwrapJ (a:Addr) (v:Value) (w:World) (h1:w.cell? a=some v) (ha:v.oneCell'=true):Calls Tryd.prog 95 #[.pointer (some a)] w fun e w'=>e = .returned v∧w'=w:=by
 go_enter Tryd.func95,Tryd.ntmps95
 go_wp2
 go_ret
 exact ⟨rfl,rfl⟩
theorem is2_same (a:Addr) (w:World) :
  Calls Tryd.prog 37 #[.iface 99 (.pointer (some a)),.iface 99 (.pointer (some a)),.bool true] w fun e w'=>e = .returned (.bool true)∧w'=w:=by
 obtain ⟨i,hi,hcmp⟩:=Option.map_eq_some_iff.1 isComp
 obtain ⟨j,hj,hjs⟩:=Option.map_eq_some_iff.1 isSize
 have heq:=run_eql_iface_ptr_same (P:=Tryd.prog) w a Tryd.underlying47 Tryd.underlying99 hi hcmp hj
 go_enter Tryd.func37,Tryd.ntmps37
 go_wp2
 refine wp_loop_rounds 1 ?_
 rw [rounds_succ]
 go_wp2
 go_ret
 exact ⟨rfl,rfl⟩
theorem is_join (pb po sb so n cap:Nat) (a:Addr) (w:World) (h0:0 < n) (h1:w.cell? ⟨pb,po,none⟩=some (.slice (some ⟨sb,so,none⟩) n cap)) (h2:w.cell? ⟨sb,so,none⟩=some (.iface 99 (.pointer (some a)))) :
  Calls Tryd.prog 37 #[.iface 96 (.pointer (some ⟨pb,po,none⟩)),.iface 99 (.pointer (some a)),.bool true] w fun e w'=>e = .returned (.bool true)∧w'=w:=by
 have nI:=noIsJ
 have nU:=noUnwrapJ
 have hU:=hasUnwrapJ
 have mU:=methodUnwrapJ
 have nJ:=nilJ
 have hty:=run_eql_iface_types (P:=Tryd.prog) 96 99 (.pointer (some ⟨pb,po,none⟩)) (.pointer (some a)) Tryd.underlying47 (by decide) w
 go_enter Tryd.func37,Tryd.ntmps37
 go_wp2
 refine wp_loop_rounds 1 ?_
 rw [rounds_succ]
 go_wp2_with (first | (go_at_call 95;refine (unwrapJ _ _ _ h1 rfl).mono ?_;rintro e w' ⟨rfl,rfl⟩) | (go_at_call 37;refine (is2_same _ _).mono ?_;rintro e w' ⟨rfl,rfl⟩))
 refine wp_loop_rounds 1 ?_
 rw [rounds_succ]
 go_wp2_with (go_at_call 37;refine (is2_same _ _).mono ?_;rintro e w' ⟨rfl,rfl⟩)
 go_ret
 exact ⟨rfl,rfl⟩
theorem Is_nil (b:Addr) (w:World) :
  Calls Tryd.prog 14 #[.nilIface,.iface 99 (.pointer (some b))] w fun e w'=>e = .returned (.bool false)∧w'=w:=by
 have hn:=run_eql_iface_nil_left (P:=Tryd.prog) w 99 (.pointer (some b)) Tryd.underlying47
 go_enter Tryd.func14,Tryd.ntmps14
 go_wp2
 go_ret
 exact ⟨rfl,rfl⟩
theorem Is_join (pb po sb so n cap:Nat) (a:Addr) (w:World) (h0:0 < n) (h1:w.cell? ⟨pb,po,none⟩=some (.slice (some ⟨sb,so,none⟩) n cap)) (h2:w.cell? ⟨sb,so,none⟩=some (.iface 99 (.pointer (some a)))) :
  Calls Tryd.prog 14 #[.iface 96 (.pointer (some ⟨pb,po,none⟩)),.iface 99 (.pointer (some a))] w fun e w'=>e = .returned (.bool true)∧w'=w:=by
 have h8:=@run_callFunc_extern Tryd.prog 36 _ Extern.ReflectliteType.typeOf Tryd.func36 (by kernel_rfl) (by kernel_rfl) (by kernel_rfl) (by kernel_rfl)
 have h32:=@run_callFunc_extern Tryd.prog 100 _ (Extern.ReflectliteType.method fun t=>do Go.Extern.Rtype.noPackHeld "Comparable" t;pure (.bool (← typeInfo t).comparable)) Tryd.func100 (by kernel_rfl) (by kernel_rfl) (by kernel_rfl) (by kernel_rfl)
 have tT:=isTypeOf
 have cT:=isComparable
 have mR:=isMethodComparable
 go_enter Tryd.func14,Tryd.ntmps14
 go_wp2_with (go_at_call 37;refine (is_join _ _ _ _ _ _ _ _ h0 h1 h2).mono ?_;rintro e w' ⟨rfl,rfl⟩)
 go_ret
 exact ⟨rfl,rfl⟩
def gIs:List AV→Option (Prop × AV)
 | [.v .nilIface,.v (.iface t (.pointer (some _)))]=>some (t=99,bv false)
 | [.dv (.ifc tj (.ptr [.sl ([.v x]::_)])),.v (.iface t (.pointer (some a)))]=>some (tj=96∧t=99∧x = .iface t (.pointer (some a)),bv true)
 | _=>none
def dIs:DFn:={ g:=gIs }
attribute [go_sem] gIs dIs
theorem is_ok:Fine Tryd.prog 14 dIs.con:=by
 refine raw_fine ⟨_,Tryd.func14,rfl,rfl⟩ rfl ?_
 intro c args vs hsz hrd hsx hpre _
 obtain ⟨cc,r,hg,hc⟩:=hpre
 simp only [dIs,gIs] at hg
 split at hg
 ·rename_i t a
  obtain ⟨rfl,rfl⟩:=Prod.mk.inj (Option.some.inj hg)
  subst hc
  have h0:=hrd 0 _ rfl
  have h1:=hrd 1 _ rfl
  have e0:vs = #[.nilIface,.iface 99 (.pointer (some a))]:=by
   obtain ⟨l⟩:=vs
   match l,hsz with
   | [x,y],_=>cases h0;cases h1;rfl
  subst e0
  refine (Is_nil a c.w).mono ?_
  rintro e w' ⟨rfl,rfl⟩
  exact ⟨_,_,fun _ _=>False,rfl,⟨_,rfl⟩,grownBy_refl _ _,fun _ _ h=>h.elim,.v _ rfl⟩
 ·rename_i tj x rest t a
  obtain ⟨rfl,rfl⟩:=Prod.mk.inj (Option.some.inj hg)
  obtain ⟨rfl,rfl,rfl⟩:=hc
  have h0:=hrd 0 _ rfl
  have h1:=hrd 1 _ rfl
  obtain ⟨pb,po,sb,so,n,cap,e0,hn,c1,c2⟩:∃ pb po sb so n cap,vs = #[.iface 96 (.pointer (some ⟨pb,po,none⟩)),.iface 99 (.pointer (some a))]∧0 < n∧c.w.cell? ⟨pb,po,none⟩=some (.slice (some ⟨sb,so,none⟩) n cap)∧c.w.cell? ⟨sb,so,none⟩=some (.iface 99 (.pointer (some a))):=by
   obtain ⟨l⟩:=vs
   match l,hsz with
   | [x,y],_ =>
    have h0':Rd c _ x:=h0
    have h1':Rd c _ y:=h1
    cases h1'
    cases h0' with
    | dv _ _ h =>
     cases h with
     | ifc _ _ _ h =>
      cases h with
      | ptr ls b off f hcell hh =>
       have k0:=(hcell 0 (by simp)).2
       have k1:=hh 0 _ rfl
       generalize hf0:f 0=u at k0 k1
       cases k1 with
       | sl els b2 off2 n cap size f2 hn2 hcap hs2 hc2 hh2 =>
        have hsz1:size=1:=by have:=hs2 _ (List.mem_cons_self ..);simpa using this.symm
        subst hsz1
        have k2:=(hc2 0 (by rw [hn2];simp)).2
        have k3:=hh2 0 0 _ _ rfl rfl
        simp only [Nat.zero_mul,Nat.add_zero] at k0 k2 k3
        generalize hf1:f2 0=u2 at k2 k3
        cases k3
        exact ⟨b,off,b2,off2,n,cap,rfl,by rw [hn2];simp,k0,k2⟩
  subst e0
  refine (Is_join pb po sb so n cap a c.w hn c1 c2).mono ?_
  rintro e w' ⟨rfl,rfl⟩
  exact ⟨_,_,fun _ _=>False,rfl,⟨_,rfl⟩,grownBy_refl _ _,fun _ _ h=>h.elim,.v _ rfl⟩
 ·cases hg
end Go.Proofs.W
end
section
namespace Go.Proofs.W
open Go Go.Eng Go.RowKit
set_option maxRecDepth 10000
def bt (l:List Int) (h:Int):Int:=if l.contains h then 1 else 0
def setv (l:List Int):Int:=2 * bt l 1 + 4 * bt l 2 + 8 * bt l 3 + 16 * bt l 4 + 32 * bt l 5
def bitOf (s h:Int):Bool:=decide (s / 2 ^ h.toNat % 2=1)
theorem bt_01 (l:List Int) (h:Int):bt l h=0∨bt l h=1:=by unfold bt;split<;>simp
theorem setv_bd (l:List Int):0≤setv l∧setv l < 64:=by
 unfold setv
 have h1:=bt_01 l 1;have h2:=bt_01 l 2;have h3:=bt_01 l 3;have h4:=bt_01 l 4;have h5:=bt_01 l 5
 omega
theorem isH_cases {h:Int} (hh:isH h=true):h=1∨h=2∨h=3∨h=4∨h=5:=by
 simp only [isH,Bool.and_eq_true,dte] at hh;omega
theorem bitOf_setv (l:List Int) (h:Int) (hh:isH h=true):bitOf (setv l) h=l.contains h:=by
 have e:∀ h:Int,l.contains h=decide (bt l h=1):=fun h=>by unfold bt;split<;>simp_all
 rw [e]
 unfold bitOf setv
 have h1:=bt_01 l 1;have h2:=bt_01 l 2;have h3:=bt_01 l 3;have h4:=bt_01 l 4;have h5:=bt_01 l 5
 rcases isH_cases hh with rfl | rfl | rfl | rfl | rfl<;>(simp only [Int.reduceToNat,Int.reducePow];congr 1;apply propext;omega)
theorem contains_app (l:List Int) (h x:Int):(l++[h]).contains x=(l.contains x || (x == h)):=by
 simp [List.contains_eq_mem,Bool.decide_or,Bool.beq_eq_decide_eq]
theorem setv_app (l:List Int) (h:Int) (hh:isH h=true) (hn:l.contains h=false):setv (l++[h])=setv l + 2 ^ h.toNat:=by
 have e:∀ x,bt (l++[h]) x=if x=h then 1 else bt l x:=fun x=>by
  unfold bt
  rw [contains_app]
  by_cases hx:x=h
  ·simp [hx]
  ·simp [hx]
 have hb:bt l h=0:=by unfold bt;rw [hn];rfl
 simp only [setv,e]
 rcases isH_cases hh with rfl | rfl | rfl | rfl | rfl<;>simp [hb]<;>omega
theorem bit_and:∀ (s:Fin 64) (h:Fin 6),IntKind.u64.wrap ((BitVec.ofInt 64 ((s.val:Int).fdiv (2 ^ (min h.val 64))) &&& BitVec.ofInt 64 1).toNat)=(s.val:Int) / 2 ^ h.val % 2:=by decide +kernel
theorem bit_or:∀ (s:Fin 64) (h:Fin 6),(s.val:Int) / 2 ^ h.val % 2=0→IntKind.u64.wrap ((BitVec.ofInt 64 (s.val:Int) ||| BitVec.ofInt 64 (IntKind.u64.wrap (1 * 2 ^ (min h.val 64)))).toNat)=(s.val:Int) + 2 ^ h.val:=by decide +kernel
theorem has_bit (s h:Int) (h0:0≤s) (h1:s < 64) (hh:isH h=true):decide (IntKind.u64.wrap ((BitVec.ofInt 64 (s.fdiv (2 ^ (min h.toNat 64))) &&& BitVec.ofInt 64 1).toNat)=1)=bitOf s h:=by
 obtain ⟨u,rfl⟩:=Int.eq_ofNat_of_zero_le h0
 have hc:=isH_cases hh
 obtain ⟨v,rfl⟩:=Int.eq_ofNat_of_zero_le (a:=h) (by omega)
 have:=bit_and ⟨u,by omega⟩ ⟨v,by omega⟩
 simp only at this
 rw [Int.toNat_natCast,this,bitOf,Int.toNat_natCast]
theorem or_bit (s h:Int) (h0:0≤s) (h1:s < 64) (hh:isH h=true) (hb:bitOf s h=false):IntKind.u64.wrap ((BitVec.ofInt 64 s ||| BitVec.ofInt 64 (IntKind.u64.wrap (1 * 2 ^ (min h.toNat 64)))).toNat)=s + 2 ^ h.toNat:=by
 obtain ⟨u,rfl⟩:=Int.eq_ofNat_of_zero_le h0
 have hc:=isH_cases hh
 obtain ⟨v,rfl⟩:=Int.eq_ofNat_of_zero_le (a:=h) (by omega)
 unfold bitOf at hb
 rw [Int.toNat_natCast] at hb ⊢
 simp only [dfn] at hb
 exact bit_or ⟨u,by omega⟩ ⟨v,by omega⟩ (by simp only;omega)
theorem has_bit' (s h:Int) (h0:0≤s) (h1:s < 64) (hh:isH h=true):decide (iAnd .u64 (s.fdiv (2 ^ (min h.toNat 64))) 1=1)=bitOf s h:=has_bit s h h0 h1 hh
theorem or_bit' (s h:Int) (h0:0≤s) (h1:s < 64) (hh:isH h=true) (hb:bitOf s h=false):iOr .u64 s (IntKind.u64.wrap (1 * 2 ^ (min h.toNat 64)))=s + 2 ^ h.toNat:=or_bit s h h0 h1 hh hb
def gTHas:List AV→Option (Prop × AV) | [.agg [.v (.int .u64 s),.sl _ _],.v (.int .i64 h)]=>some (0≤s∧s < 64,bv (isH h && bitOf s h)) | _=>none
def dTHas:DFn:={ g:=gTHas }
attribute [go_sem] gTHas dTHas
theorem thas_ok:Fine Tryd.prog 16 dTHas.con:=by
 refine fine_det (T:=TT) Tryd.func16 rfl Tryd.ntmps16 (by rw [Tryd.results16]) rfl rfl tt (gs_nil) (ds_cons iIsH_ok ds_nil) ?_
 intro args c r h hc
 simp only [dTHas,gTHas] at h
 split at h
 rotate_left
 ·cases h
 obtain ⟨rfl,rfl⟩:=Prod.mk.inj (Option.some.inj h)
 refine ⟨by simp,fun k E hE Q hQ=>?_⟩
 rename_i s _ _ n
 obtain ⟨hc1,hc2⟩:=hc
 refine Aw_st hE [1,2] [2] fun K hK=>?_
 simp only [go_sem,seval]
 repeat refine sd0 ?_
 refine hK _ ?_;clear hK K
 refine Aw_st hE [4] [] fun K hK=>?_
 simp only [go_sem,seval]
 repeat refine sd0 ?_
 refine ⟨fun h1=>?_,fun h1=>?_⟩
 ·have hle:1≤n:=by have:=isH_cases h1;omega
  repeat refine sd0 ?_
  refine hK _ (Aw_ret (hQ _ ?_))
  simp only [go_sem,seval,has_bit' s n hc1 hc2 h1,h1,Bool.true_and]
 refine hK _ (Aw_ret (hQ _ ?_))
 simp only [go_sem,seval,h1,Bool.false_and]
structure WP (pb:Addr) (w:World):Prop where
 tab:WTab w
 err:w.cell? ⟨0,0,none⟩=some (.iface 99 (.pointer (some pb)))
theorem wp_inh (pb:Addr):Inh (WP pb) (WP pb) false:=fun _ _ _ h hg=>⟨wtab_inh _ _ 0 h.tab hg,cell_grown hg h.err⟩
theorem wpt_inh (pb:Addr):Inh (WP pb) WTab false:=fun _ _ _ h hg=>wtab_inh _ _ 0 h.tab hg
abbrev errV (pb:Addr):Value:=.iface 99 (.pointer (some pb))
theorem wp_gl (pb:Addr):GlOk (WP pb) false [(0,errV pb)]:=fun p hp=>by
 obtain rfl:=List.mem_singleton.1 hp
 exact ⟨rfl,fun w w' g h hg=>cell_grown hg h.err⟩
abbrev pathErr (pb:Addr) (s:ByteArray):AV:=.dv (.ifc 96 (.ptr [.sl [[.v (errV pb)],[.ifc 99 (.ptr [.v (.string s)])]]]))
def cTrail (pb:Addr):Con:={ pre:=fun args=>∃ p,args=[isl p]∧p.length≤4294967296,post:=fun args r=>∀ p,args=[isl p]→(pathOk p=true∧r = .tup [.agg [.v (.int .u64 (setv p)),isl p],.v .nilIface])∨(pathOk p=false∧∃ s,r = .tup [.agg [.v (.int .u64 0),.sl none []],pathErr pb s]),inv:=WP pb }
theorem cTrail_own (pb:Addr):(cTrail pb).own=false:=rfl
theorem cTrail_draws (pb:Addr):(cTrail pb).draws=false:=rfl
theorem cTrail_cost (pb:Addr):(cTrail pb).cost=0:=rfl
theorem cTrail_pre (pb:Addr) (p:List Int):(cTrail pb).pre [isl p]=(p.length≤4294967296):=by
 apply propext
 constructor
 ·rintro ⟨q,e,h⟩
  have:=List.cons.inj e
  have e2:=AV.sl.inj this.1
  have e3:intsL (rows p)=intsL (rows q):=by rw [e2.2]
  rw [intsL_rows,intsL_rows] at e3
  obtain rfl:=Option.some.inj e3
  exact h
 ·exact fun h=>⟨p,rfl,h⟩
theorem cTrail_post (pb:Addr) (p:List Int) (K:AV→Prop):(∀ r,(cTrail pb).post [isl p] r→K r)=((pathOk p=true→K (.tup [.agg [.v (.int .u64 (setv p)),isl p],.v .nilIface]))∧(pathOk p=false→∀ s,K (.tup [.agg [.v (.int .u64 0),.sl none []],pathErr pb s]))):=by
 apply propext
 constructor
 ·intro h
  have inj:∀ q,[isl p]=[isl q]→p=q:=fun q e=>by
   have e2:=AV.sl.inj (List.cons.inj e).1
   have e3:intsL (rows p)=intsL (rows q):=by rw [e2.2]
   rw [intsL_rows,intsL_rows] at e3
   exact Option.some.inj e3
  refine ⟨fun hp=>h _ fun q e=>?_,fun hp s=>h _ fun q e=>?_⟩
  ·obtain rfl:=inj q e;exact .inl ⟨hp,rfl⟩
  ·obtain rfl:=inj q e;exact .inr ⟨hp,s,rfl⟩
 ·rintro ⟨h1,h2⟩ r hr
  rcases hr p rfl with ⟨h,rfl⟩ | ⟨h,s,rfl⟩
  ·exact h1 h
  ·exact h2 h s
attribute [go_sem] cTrail_own cTrail_draws cTrail_cost cTrail_pre cTrail_post
theorem trail_ok (pb:Addr):Fine Tryd.prog 13 (cTrail pb):=by
 refine fine_ofG [(0,errV pb)] (wp_gl pb) [] ms_nil (T:=TT) Tryd.func13 rfl Tryd.ntmps13 (by rw [Tryd.results13]) rfl rfl tt gs_nil (ds_cons iIsH_ok (ds_cons thas_ok (ds_cons itoa_ok (ds_cons new_ok (ds_cons join_ok ds_nil)) (wpt_inh pb)))) ?_
 rintro args ⟨p,rfl,hp⟩
 refine ⟨by simp,fun k _ E hE Q hQ=>?_⟩
 refine Aw_st hE [0,2] [2] fun K hK=>?_
 simp only [go_sem,seval]
 repeat refine sd0 ?_
 refine hK _ ?_;clear hK K
 refine Aw_st hE [0,2,4] [2,4] fun K hK=>?_
 simp only [go_sem,seval]
 repeat refine sd0 ?_
 refine hK _ ?_;clear hK K
 refine Aw_sq fun B1 hB1 hR1 hX1=>?_
 refine Aw_st hE [2,4,9,10,11] [2,4] fun K hK=>?_
 simp only [go_sem,seval]
 repeat refine sd0 ?_
 refine hK _ ?_;clear hK K
 refine Aw_bk fun B2 hN2 hE2 hR2 hX2=>?_
 refine Aw_lp (fun i:Nat=>⟨40,[(2,.loc 2 0),(4,.loc 4 0),(9,isl p),(10,iv p.length),(11,iv i)],[(2,[.v (.int .u64 0),.nl]),(4,[.v (.int .u64 (setv (p.take i))),isl p])],k⟩) (fun i:Nat=>i≤p.length∧pathOk (p.take i)=true) (fun i:Nat=>p.length - i) (0) (Le.refl _) (⟨by omega,by simp [pathOk_nil]⟩) fun i hi B3 hN3 hR3 hX3=>?_
 refine Aw_st hE [2,4,9,10,11,12] [2,4] fun K hK=>?_
 simp only [go_sem,seval]
 repeat refine sd0 ?_
 refine hK _ ?_;clear hK K
 refine Aw_sq fun B4 hB4 hR4 hX4=>?_
 refine Aw_cond rfl (fun hc5=>?_) (fun hc5=>?_)
 ·simp only [dte] at hc5
  have hil:i < p.length:=by omega
  have hs:=pathOk_step p i hil
  rw [hi.2,Bool.true_and] at hs
  have hbd:=setv_bd (p.take i)
  have hdl:=dec_len i (by omega)
  refine Aw_skip (hB4 _ ?_)
  refine Aw_sq fun B6 hB6 hR6 hX6=>?_
  refine Aw_bk fun B7 hN7 hE7 hR7 hX7=>?_
  refine Aw_st hE [2,4,5,6,9,10,11] [2,4] fun K hK=>?_
  simp only [go_sem,seval,rows_get p i hil]
  repeat refine sd0 ?_
  refine hK _ ?_;clear hK K
  refine Aw_sq fun B8 hB8 hR8 hX8=>?_
  refine Aw_st hE [2,4,5,6,9,10,11,23] [2,4] fun K hK=>?_
  simp only [go_sem,seval]
  repeat refine sd0 ?_
  refine ⟨fun hg10=>?_,fun hg10=>?_⟩
  ·simp only [Bool.not_eq_true'] at hg10
   have hst:=pathOk_stop hil (by rw [hg10];rfl)
   repeat refine sd0 ?_
   refine hK _ (Aw_yes rfl ?_)
   refine Aw_sd hE [2,3] [2] 6 (by kernel_rfl) fun K hK=>?_
   simp only [go_sem,seval]
   repeat refine sd0 ?_
   refine hK _ (Aw_ret (hR8 _ (hR7 _ (hR6 _ (hR3 _ (hR2 _ (hR1 _ (hQ _ ?_))))))))
   simp only [go_sem,seval]
   intro q hq
   have e3:intsL (rows p)=intsL (rows q):=by rw [(AV.sl.inj (List.cons.inj hq).1).2]
   rw [intsL_rows,intsL_rows] at e3
   obtain rfl:=Option.some.inj e3
   exact .inr ⟨hst,_,rfl⟩
  ·simp only [Bool.not_eq_false'] at hg10
   repeat refine sd0 ?_
   refine hK _ (Aw_cond rfl (fun hc11=>?_) (fun hc11=>?_))
   ·have hst:=pathOk_stop hil (by
     rw [hg10,Bool.true_and,bitOf_setv _ _ hg10] at hc11
     rw [hg10,hc11];rfl)
    refine Aw_sd hE [2,3] [2] 6 (by kernel_rfl) fun K hK=>?_
    simp only [go_sem,seval]
    repeat refine sd0 ?_
    refine hK _ (Aw_ret (hR8 _ (hR7 _ (hR6 _ (hR3 _ (hR2 _ (hR1 _ (hQ _ ?_))))))))
    simp only [go_sem,seval]
    intro q hq
    have e3:intsL (rows p)=intsL (rows q):=by rw [(AV.sl.inj (List.cons.inj hq).1).2]
    rw [intsL_rows,intsL_rows] at e3
    obtain rfl:=Option.some.inj e3
    exact .inr ⟨hst,_,rfl⟩
   ·have hge:1≤p.getD i 0:=by have:=isH_cases hg10;omega
    rw [hg10,Bool.true_and] at hc11
    have hor:=or_bit' _ _ hbd.1 hbd.2 hg10 hc11
    rw [bitOf_setv _ _ hg10] at hc11
    rw [hg10,hc11] at hs
    have hsv:setv (p.take (i + 1))=setv (p.take i) + 2 ^ (p.getD i 0).toNat:=by
     rw [List.take_succ_eq_append_getElem hil]
     have e:p[i]=p.getD i 0:=by simp [List.getD_eq_getElem?_getD,hil]
     rw [e]
     exact setv_app _ _ hg10 hc11
    refine Aw_skip (hB8 _ ?_)
    refine Aw_td hE [2,4,9,10,11] [2,4] 6 (by kernel_rfl) fun K hK=>?_
    simp only [go_sem,seval]
    repeat refine sd0 ?_
    rw [hor,← hsv]
    refine hK _ (hN7 _ (hB6 _ ?_))
    refine Aw_tx hE [2,4,9,10,11] [2,4] fun K hK=>?_
    simp only [go_sem,seval]
    repeat refine sd0 ?_
    refine hK _ (hN3 (i + 1) _ (⟨by omega,hs⟩) (by omega) (Le.refl _))
 ·simp only [dfn] at hc5
  have e:=hi.2
  rw [List.take_of_length_le (by omega)] at e ⊢
  refine Aw_exit (hX4 _ _ (hX3 _ _ (hE2 _ (hB1 _ ?_))))
  refine Aw_st hE [2,3] [2] fun K hK=>?_
  simp only [go_sem,seval]
  repeat refine sd0 ?_
  refine hK _ (Aw_ret (hQ _ ?_))
  simp only [go_sem,seval]
  intro q hq
  have e3:intsL (rows p)=intsL (rows q):=by rw [(AV.sl.inj (List.cons.inj hq).1).2]
  rw [intsL_rows,intsL_rows] at e3
  obtain rfl:=Option.some.inj e3
  exact .inl ⟨e,rfl⟩
def dPathOkI (pb:Addr):DFn:={ g:=gPathOk,inv:=WP pb }
attribute [go_sem] dPathOkI
theorem iPathOk_ok (pb:Addr):Fine Tryd.prog 58 (dPathOkI pb).con:=by
 refine fine_detG [(0,errV pb)] (wp_gl pb) [] ms_nil (T:=TT) Tryd.func58 rfl Tryd.ntmps58 (by rw [Tryd.results58]) rfl rfl tt (gs_cons (trail_ok pb) gs_nil (wp_inh pb)) (ds_cons is_ok ds_nil) ?_
 intro args c r h hc
 simp only [dPathOkI,gPathOk] at h
 split at h
 rotate_left
 ·cases h
 split at h
 rotate_left
 ·cases h
 rename_i t els _ p hl
 obtain rfl:=intsL_eq hl
 obtain ⟨rfl,rfl⟩:=Prod.mk.inj (Option.some.inj h)
 refine ⟨by simp,fun k E hE Q hQ=>?_⟩
 refine Aw_st hE [0] [] fun K hK=>?_
 simp only [go_sem,seval]
 repeat refine sd0 ?_
 refine hK _ ?_;clear hK K
 refine Aw_st hE [4] [] fun K hK=>?_
 simp only [go_sem,seval]
 repeat refine sd0 ?_
 refine ⟨fun hp=>?_,fun hp s=>?_⟩
 all_goals
  refine hK _ ?_;clear hK K
  refine Aw_st hE [2] [] fun K hK=>?_
  simp only [go_sem,seval]
  repeat refine sd0 ?_
  refine hK _ (Aw_ret (hQ _ ?_))
  simp only [go_sem,seval,hp]

def rowsS (l:List ByteArray):List (List DV):=l.map fun s=>[DV.v (.string s)]
theorem rowsS_len (l:List ByteArray):(rowsS l).length=l.length:=by simp [rowsS]
def cOf:Con:={ pre:=fun args=>∃ l:List ByteArray,args=[.rd,.sl none (rowsS l)]∧0 < l.length∧l.length≤100∧∀ s ∈ l,s.size≤8,post:=fun _ r=>∃ s:ByteArray,s.size≤8∧r = .v (.string s),cost:=1,draws:=true }
theorem cOf_own:cOf.own=false:=rfl
theorem cOf_draws:cOf.draws=true:=rfl
theorem cOf_cost:cOf.cost=1:=rfl
attribute [go_sem] cOf_own cOf_draws cOf_cost
theorem of_post (args:List AV) (K:AV→Prop):(∀ r,cOf.post args r→K r)=(∀ s:ByteArray,s.size≤8→K (.v (.string s))):=by
 apply propext
 exact ⟨fun h s hs=>h _ ⟨s,hs,rfl⟩,fun h r ⟨s,hs,e⟩=>e ▸ h s hs⟩
theorem of_ex (args:List AV):(∃ r,cOf.post args r)=True:=eq_true ⟨_,ByteArray.empty,by decide,rfl⟩
attribute [go_sem] of_post of_ex rowsS_len
def cDRead:Con:={ pre:=codeArg,post:=fun _ r=>∃ s:ByteArray,s.size≤1000∧r = .v (.string s) }
theorem cDRead_own:cDRead.own=false:=rfl
theorem cDRead_draws:cDRead.draws=false:=rfl
theorem cDRead_cost:cDRead.cost=0:=rfl
attribute [go_sem] cDRead_own cDRead_draws cDRead_cost
theorem dread_post (args:List AV) (K:AV→Prop):(∀ r,cDRead.post args r→K r)=(∀ s:ByteArray,s.size≤1000→K (.v (.string s))):=by
 apply propext
 exact ⟨fun h s hs=>h _ ⟨s,hs,rfl⟩,fun h r ⟨s,hs,e⟩=>e ▸ h s hs⟩
attribute [go_sem] dread_post
def cLawP (pb:Addr):Con:={ pre:=codeArg,post:=fun _ r=>r=bv true,inv:=WP pb }
theorem cLawP_own (pb:Addr):(cLawP pb).own=false:=rfl
theorem cLawP_draws (pb:Addr):(cLawP pb).draws=false:=rfl
theorem cLawP_cost (pb:Addr):(cLawP pb).cost=0:=rfl
theorem cLawP_post (pb:Addr) (args:List AV) (r:AV):(cLawP pb).post args r=(r=bv true):=rfl
attribute [go_sem] cLawP_own cLawP_draws cLawP_cost cLawP_post
def codeArg2 (args:List AV):Prop:=∃ bs bs2:List Nat,(∀ b ∈ bs,b < 256)∧(∀ b ∈ bs2,b < 256)∧args=[.sl none (byteRows bs),.sl none (byteRows bs2)]
def cLawP2 (pb:Addr):Con:={ pre:=codeArg2,post:=fun _ r=>r=bv true,inv:=WP pb }
theorem cLawP2_own (pb:Addr):(cLawP2 pb).own=false:=rfl
theorem cLawP2_draws (pb:Addr):(cLawP2 pb).draws=false:=rfl
theorem cLawP2_cost (pb:Addr):(cLawP2 pb).cost=0:=rfl
theorem cLawP2_post (pb:Addr) (args:List AV) (r:AV):(cLawP2 pb).post args r=(r=bv true):=rfl
attribute [go_sem] cLawP2_own cLawP2_draws cLawP2_cost cLawP2_post
end Go.Proofs.W
end
section
namespace Go.Proofs.W
open Go Go.Eng Go.RowKit Go.WideShapes Go.ChangeShapes
set_option maxRecDepth 100000
theorem law_callsP2 {f:FuncId} {pb:Addr} (h:Fine Tryd.prog f (cLawP2 pb)) (W:World) (hI:WP pb W) (v v2:Value) (hv:InBytes W v) (hv2:InBytes W v2):Calls Tryd.prog f #[v,v2] W fun e w'=>e = .returned (.bool true)∧Below W.heap.size W w':=by
 let S:Nat→Nat→Prop:=fun b o=>∃ x,W.cell? ⟨b,o,none⟩=some x∧x.oneCell'=true
 obtain ⟨bs,hbs,hr⟩:=inBytes_rdd hv S (fun _ _ h=>h)
 obtain ⟨bs2,hbs2,hr2⟩:=inBytes_rdd hv2 S (fun _ _ h=>h)
 let c:Gh:={ w:=W,S:=S,β:=fun _=>0,tv:=fun _ _=>.slice none 0 0,te:=fun _ _=>0,g:=0 }
 have hrd:∀ (j:Nat) (x:AV),[AV.sl none (byteRows bs),AV.sl none (byteRows bs2)][j]? = some x→Rd c x ((#[v,v2]:Array Value).getD j undef):=fun j x hx=>by
  match j,hx with
  | 0,hx=>obtain rfl:=Option.some.inj hx;exact .sl none _ v hr trivial
  | 1,hx=>obtain rfl:=Option.some.inj hx;exact .sl none _ v2 hr2 trivial
 refine (h.2 c [.sl none (byteRows bs),.sl none (byteRows bs2)] #[v,v2] .nilIface 0 0 rfl hrd (fun x hx=>by
   simp only [List.mem_cons,List.not_mem_nil,or_false] at hx
   rcases hx with rfl | rfl<;>rfl) ⟨bs,bs2,hbs,hbs2,rfl⟩ hI (fun b o ⟨x,hx,_⟩=>.inl ⟨x,hx⟩) (fun b o x ⟨y,hy,h1⟩ hx=>?_) (fun e=>by cases e)).mono ?_
 ·have hx':W.cell? ⟨b,o,none⟩=some x:=hx
  rw [hy] at hx';obtain rfl:=Option.some.inj hx';exact h1
 ·rintro e w' ⟨u,r,c',rfl,hp,O⟩
  obtain rfl:r=bv true:=hp
  have h1:=O.rd
  have e1:u = .bool true:=by generalize u=z at h1;cases h1;rfl
  have hg:=O.fr
  exact ⟨by rw [e1],hg.os,hg.tape,hg.output,hg.size,fun i hi=>hg.block i hi (by simp [cLawP2])⟩
theorem var_below' {P:Program} {w w':World} {n:String} {g:Nat} {cs:Array Value} (h:w.var? P n=some cs) (hg:P.globalNamed n=some g) (hb:Below w.heap.size w w'):w'.var? P n=some cs:=by
 have hlt:g < w.heap.size:=by
  unfold World.var? at h
  rw [hg] at h
  simp only [Option.bind_some] at h
  rcases Nat.lt_or_ge g w.heap.size with h' | h'
  ·exact h'
  ·simp [Array.getElem?_eq_none h'] at h
 unfold World.var? at h ⊢
 rw [hg] at h ⊢
 simp only [Option.bind_some] at h ⊢
 rw [hb.block g hlt]
 exact h
end Go.Proofs.W
end
section
namespace Go.Proofs.W
open Go Go.Eng Go.RowKit
set_option maxRecDepth 10000
structure Rt where
 f:Int
 b:Int
 path:List Int
 like:Int
 marks:List Int
def Rt.row (r:Rt):List DV:=[.v (.int .i64 r.f),.v (.int .i64 r.b),.sl (rows r.path),.v (.int .i64 r.like),.sl (rows r.marks)]
abbrev Rt.av (r:Rt):AV:=.agg [iv r.f,iv r.b,isl r.path,iv r.like,isl r.marks]
def okRt (r:Rt):Prop:=okRng r.f r.b∧r.path.length≤8∧(∀ h ∈ r.path,isH h=true)∧-2≤r.like∧r.like≤11∧r.marks.length≤16
def cPathD:Con:={ pre:=fun args=>args=[.rd],post:=fun _ r=>∃ p:List Int,(p.length≤4∧∀ h ∈ p,isH h=true)∧r=isl p,cost:=9,draws:=true }
theorem cPathD_own:cPathD.own=false:=rfl
theorem cPathD_draws:cPathD.draws=true:=rfl
theorem cPathD_cost:cPathD.cost=9:=rfl
attribute [go_sem] cPathD_own cPathD_draws cPathD_cost
theorem pathD_pre:cPathD.pre [.rd]=True:=by simp [cPathD]
theorem pathD_post (args:List AV) (K:AV→Prop):(∀ r,cPathD.post args r→K r)=(∀ p:List Int,(p.length≤4∧∀ h ∈ p,isH h=true)→K (isl p)):=by
 apply propext
 exact ⟨fun h p hp=>h _ ⟨p,hp,rfl⟩,fun h r ⟨p,hp,e⟩=>e ▸ h p hp⟩
theorem pathD_ex (args:List AV):(∃ r,cPathD.post args r)=True:=eq_true ⟨_,[],by simp,rfl⟩
attribute [go_sem] pathD_pre pathD_post pathD_ex
theorem l91Path_ok:Fine Tryd.prog 40 cPathD:=by
 refine fine_of (T:=TT) Tryd.func40 rfl Tryd.ntmps40 (by rw [Tryd.results40]) rfl rfl tt (gs_cons pick_ok gs_nil) (ds_cons has3_ok ds_nil) ?_
 rintro args rfl
 refine ⟨by simp,fun k hk E hE Q hQ=>?_⟩
 have hk:=hk rfl
 simp only [go_sem] at hk
 refine Aw_st hE [0] [] fun K hK=>?_
 simp only [go_sem,seval]
 repeat refine sd0 ?_
 refine hK _ ?_;clear hK K
 refine Aw_st hE [0,3] [] fun K hK=>?_
 simp only [go_sem,seval]
 repeat refine sd0 ?_
 refine hK _ ?_;clear hK K
 refine Aw_sq fun B1 hB1 hR1 hX1=>?_
 refine Aw_st hE [0,3,4] [] fun K hK=>?_
 simp only [go_sem,seval]
 repeat refine sd0 ?_
 repeat' (first | (refine And.intro (by first | omega | decide) ?_) | intro)
 rename_i n0 hn1 hn2
 refine hK _ ?_;clear hK K
 refine Aw_bk fun B2 hN2 hE2 hR2 hX2=>?_
 refine Aw_lp (fun (i:List Int × Int)=>⟨30,[(0,.rd),(3,.sl (some (6,0,3)) (rows i.1)),(4,iv i.2)],[],k + 9 - 2 * i.2.toNat⟩) (fun (i:List Int × Int)=>i.1.length + i.2≤4∧0≤i.2∧∀ h ∈ i.1,isH h=true) (fun (i:List Int × Int)=>i.2.toNat) (([],n0)) (Le_rn (by first | omega | (dsimp only;omega) | (simp only;omega) | (simp;omega))) (⟨by simp;omega,by simp;omega,by simp⟩) fun i hi B3 hN3 hR3 hX3=>?_
 refine Aw_sq fun B4 hB4 hR4 hX4=>?_
 refine Aw_st hE [0,3,4,10] [] fun K hK=>?_
 simp only [go_sem,seval]
 repeat refine sd0 ?_
 refine hK _ (Aw_cond rfl (fun hc5=>?_) (fun hc5=>?_))
 ·simp only [dte] at hc5
  refine Aw_skip (hB4 _ ?_)
  refine Aw_sq fun B6 hB6 hR6 hX6=>?_
  refine Aw_bk fun B7 hN7 hE7 hR7 hX7=>?_
  refine Aw_st hE [0,3,4,5] [] fun K hK=>?_
  simp only [go_sem,seval]
  repeat refine sd0 ?_
  repeat' (first | (refine And.intro (by first | omega | decide) ?_) | intro)
  rename_i x hx1 hx2
  have hx:isH (1 + x)=true:=by simp [isH];omega
  refine hK _ ?_;clear hK K
  refine Aw_st hE [0,3,4,5,24] [] fun K hK=>?_
  simp only [go_sem,seval]
  repeat refine sd0 ?_
  have happ:((i.1++[1 + x]).length:Int) + (i.2 - 1)≤4∧0≤i.2 - 1∧∀ h ∈ i.1++[1 + x],isH h=true:=by
   refine ⟨by simp;omega,by omega,fun h hm=>?_⟩
   rcases List.mem_append.1 hm with hm | hm
   ·exact hi.2.2 h hm
   ·rw [List.mem_singleton] at hm;rw [hm];exact hx
  refine ⟨fun hg9=>?_,fun hg9=>?_⟩
  ·repeat refine sd0 ?_
   refine hK _ (Aw_yes rfl ?_)
   refine Aw_tx hE [0,3,4] [] fun K hK=>?_
   simp only [go_sem,seval,rows_one]
   repeat refine sd0 ?_
   refine hK _ (hN7 _ (hB6 _ ?_))
   refine Aw_tx hE [0,3,4] [] fun K hK=>?_
   simp only [go_sem,seval]
   repeat refine sd0 ?_
   refine hK _ (hN3 ((i.1++[1 + x],i.2 - 1)) _ (happ) (by first | omega | (dsimp only;omega) | (simp only;omega) | (simp;omega)) ((Le_tk 28 6 rfl).trans (Le_rn (by first | omega | (dsimp only;omega) | (simp only;omega) | (simp;omega)))))
  ·repeat' (first | (refine And.intro (by first | omega | decide) ?_) | intro)
   repeat refine sd0 ?_
   refine hK _ (Aw_cond rfl (fun hc10=>?_) (fun hc10=>?_))
   ·refine Aw_tx hE [0,3,4] [] fun K hK=>?_
    simp only [go_sem,seval,rows_one]
    repeat refine sd0 ?_
    refine hK _ (hN7 _ (hB6 _ ?_))
    refine Aw_tx hE [0,3,4] [] fun K hK=>?_
    simp only [go_sem,seval]
    repeat refine sd0 ?_
    refine hK _ (hN3 ((i.1++[1 + x],i.2 - 1)) _ (happ) (by first | omega | (dsimp only;omega) | (simp only;omega) | (simp;omega)) ((Le_tk 28 6 rfl).trans (Le_rn (by first | omega | (dsimp only;omega) | (simp only;omega) | (simp;omega)))))
   ·simp only [Bool.not_eq_false'] at hg9
    refine Aw_skip (hN7 _ (hB6 _ ?_))
    refine Aw_tx hE [0,3,4] [] fun K hK=>?_
    simp only [go_sem,seval]
    repeat refine sd0 ?_
    refine hK _ (hN3 ((i.1,i.2 - 1)) _ (⟨by first | omega | (dsimp only;omega) | (simp only;omega) | (simp;omega),by first | omega | (dsimp only;omega) | (simp only;omega) | (simp;omega),hi.2.2⟩) (by first | omega | (dsimp only;omega) | (simp only;omega) | (simp;omega)) (Le_rn (by first | omega | (dsimp only;omega) | (simp only;omega) | (simp;omega))))
 ·simp only [dfn] at hc5
  refine Aw_exit (hX4 _ _ (hX3 _ _ (hE2 _ (hB1 _ ?_))))
  refine Aw_st hE [2] [] fun K hK=>?_
  simp only [go_sem,seval]
  repeat refine sd0 ?_
  refine hK _ (Aw_ret (hQ _ ?_))
  simp only [go_sem,seval]
  exact ⟨by omega,_,⟨by omega,hi.2.2⟩,rfl⟩
def cMarksD:Con:={ pre:=fun args=>args=[.rd],post:=fun _ r=>∃ p:List Int,p.length≤9∧r = .sl (some (0,0,3)) (rows p),cost:=9,draws:=true,own:=true }
theorem cMarksD_own:cMarksD.own=true:=rfl
theorem cMarksD_draws:cMarksD.draws=true:=rfl
theorem cMarksD_cost:cMarksD.cost=9:=rfl
attribute [go_sem] cMarksD_own cMarksD_draws cMarksD_cost
theorem marksD_pre:cMarksD.pre [.rd]=True:=by simp [cMarksD]
theorem marksD_post (args:List AV) (K:AV→Prop):(∀ r,cMarksD.post args r→K r)=(∀ p:List Int,p.length≤9→K (.sl (some (0,0,3)) (rows p))):=by
 apply propext
 exact ⟨fun h p hp=>h _ ⟨p,hp,rfl⟩,fun h r ⟨p,hp,e⟩=>e ▸ h p hp⟩
theorem marksD_ex (args:List AV):(∃ r,cMarksD.post args r)=True:=eq_true ⟨_,[],by simp,rfl⟩
attribute [go_sem] marksD_pre marksD_post marksD_ex
theorem l91Marks_ok:Fine Tryd.prog 41 cMarksD:=by
 refine fine_of (T:=TT) Tryd.func41 rfl Tryd.ntmps41 (by rw [Tryd.results41]) rfl rfl tt (gs_cons pick_ok gs_nil) (ds_nil) ?_
 rintro args rfl
 refine ⟨by simp,fun k hk E hE Q hQ=>?_⟩
 have hk:=hk rfl
 simp only [go_sem] at hk
 refine Aw_st hE [0] [] fun K hK=>?_
 simp only [go_sem,seval]
 repeat refine sd0 ?_
 refine hK _ ?_;clear hK K
 refine Aw_st hE [0,3] [] fun K hK=>?_
 simp only [go_sem,seval]
 repeat refine sd0 ?_
 refine hK _ ?_;clear hK K
 refine Aw_sq fun B1 hB1 hR1 hX1=>?_
 refine Aw_st hE [0,3,4] [] fun K hK=>?_
 simp only [go_sem,seval]
 repeat refine sd0 ?_
 refine hK _ ?_;clear hK K
 refine Aw_bk fun B2 hN2 hE2 hR2 hX2=>?_
 refine Aw_lp (fun (i:List Int × Nat)=>⟨18,[(0,.rd),(3,.sl (some (5,0,3)) (rows i.1)),(4,iv i.2)],[],k + (i.2 - 1)⟩) (fun (i:List Int × Nat)=>i.1.length≤i.2 - 1∧1≤i.2∧i.2≤10) (fun (i:List Int × Nat)=>10 - i.2) (([],1)) (Le.refl _) (⟨by simp,by simp,by simp⟩) fun i hi B3 hN3 hR3 hX3=>?_
 refine Aw_sq fun B4 hB4 hR4 hX4=>?_
 refine Aw_st hE [0,3,4,7] [] fun K hK=>?_
 simp only [go_sem,seval]
 repeat refine sd0 ?_
 refine hK _ (Aw_cond rfl (fun hc5=>?_) (fun hc5=>?_))
 ·simp only [dte] at hc5
  refine Aw_skip (hB4 _ ?_)
  refine Aw_sq fun B6 hB6 hR6 hX6=>?_
  refine Aw_bk fun B7 hN7 hE7 hR7 hX7=>?_
  refine Aw_st hE [0,3,4,12] [] fun K hK=>?_
  simp only [go_sem,seval]
  repeat refine sd0 ?_
  repeat' (first | (refine And.intro (by first | omega | decide) ?_) | intro)
  refine hK _ (Aw_cond rfl (fun hc8=>?_) (fun hc8=>?_))
  ·refine Aw_tx hE [0,3,4] [] fun K hK=>?_
   simp only [go_sem,seval,rows_one]
   repeat refine sd0 ?_
   refine hK _ (hN7 _ (hB6 _ ?_))
   refine Aw_tx hE [0,3,4] [] fun K hK=>?_
   simp only [go_sem,seval]
   repeat refine sd0 ?_
   refine hK _ (hN3 ((i.1++[(i.2:Int)],i.2 + 1)) _ (⟨by simp;omega,by first | omega | (dsimp only;omega) | (simp only;omega) | (simp;omega),by first | omega | (dsimp only;omega) | (simp only;omega) | (simp;omega)⟩) (by first | omega | (dsimp only;omega) | (simp only;omega) | (simp;omega)) ((Le_tk 16 5 rfl).trans (Le_rn (by first | omega | (dsimp only;omega) | (simp only;omega) | (simp;omega)))))
  ·refine Aw_skip (hN7 _ (hB6 _ ?_))
   refine Aw_tx hE [0,3,4] [] fun K hK=>?_
   simp only [go_sem,seval]
   repeat refine sd0 ?_
   refine hK _ (hN3 ((i.1,i.2 + 1)) _ (⟨by first | omega | (dsimp only;omega) | (simp only;omega) | (simp;omega),by first | omega | (dsimp only;omega) | (simp only;omega) | (simp;omega),by first | omega | (dsimp only;omega) | (simp only;omega) | (simp;omega)⟩) (by first | omega | (dsimp only;omega) | (simp only;omega) | (simp;omega)) (Le_rn (by first | omega | (dsimp only;omega) | (simp only;omega) | (simp;omega))))
 ·simp only [dfn] at hc5
  refine Aw_exit (hX4 _ _ (hX3 _ _ (hE2 _ (hB1 _ ?_))))
  refine Aw_st hE [2] [] fun K hK=>?_
  simp only [go_sem,seval]
  repeat refine sd0 ?_
  refine hK _ (Aw_ret (hQ _ ?_))
  simp only [go_sem,seval]
  exact ⟨by omega,_,by omega,rfl⟩
def cRouteD:Con:={ pre:=fun args=>args=[.rd],post:=fun _ r=>∃ x:Rt,okRt x∧r=x.av,cost:=40,draws:=true }
theorem cRouteD_own:cRouteD.own=false:=rfl
theorem cRouteD_draws:cRouteD.draws=true:=rfl
theorem cRouteD_cost:cRouteD.cost=40:=rfl
attribute [go_sem] cRouteD_own cRouteD_draws cRouteD_cost
theorem routeD_pre:cRouteD.pre [.rd]=True:=by simp [cRouteD]
theorem routeD_post (args:List AV) (K:AV→Prop):(∀ r,cRouteD.post args r→K r)=(∀ x:Rt,okRt x→K x.av):=by
 apply propext
 exact ⟨fun h p hp=>h _ ⟨p,hp,rfl⟩,fun h r ⟨p,hp,e⟩=>e ▸ h p hp⟩
theorem routeD_ex (args:List AV):(∃ r,cRouteD.post args r)=True:=eq_true ⟨_,⟨0,0,[],0,[]⟩,by simp [okRt,okRng],rfl⟩
attribute [go_sem] routeD_pre routeD_post routeD_ex
theorem l91Route_ok:Fine Tryd.prog 18 cRouteD:=by
 refine fine_of (T:=TT) Tryd.func18 rfl Tryd.ntmps18 (by rw [Tryd.results18]) rfl rfl tt (gs_cons l91Range_ok (gs_cons l91Path_ok (gs_cons pick_ok (gs_cons l91Marks_ok gs_nil)))) (ds_nil) ?_
 rintro args rfl
 refine ⟨by simp,fun k hk E hE Q hQ=>?_⟩
 have hk:=hk rfl
 simp only [go_sem] at hk
 refine Aw_st hE [0,2] [2] fun K hK=>?_
 simp only [go_sem,seval]
 repeat refine sd0 ?_
 refine hK _ ?_;clear hK K
 refine Aw_st hE [0,2,3] [2,3] fun K hK=>?_
 simp only [go_sem,seval]
 repeat refine sd0 ?_
 repeat' (first | (refine And.intro (by first | omega | decide) ?_) | intro)
 rename_i f b hfb p hp like hl1 hl2 ms hms
 refine hK _ ?_;clear hK K
 refine Aw_sqJ (fun q:List Int=>⟨47,[(0,.rd),(2,.loc 2 0),(3,.loc 3 0)],[(2,[iv 0,iv 0,.nl,iv 0,.nl]),(3,[iv f,iv b,isl q,iv like,.sl (some (11,0,3)) (rows ms)])],k + 30⟩) (fun q:List Int=>q.length≤4∧(∀ h ∈ q,isH h=true)) (fun i hi=>?_) fun B1 hB1 hR1 hX1=>?_
 ·refine Aw_sq fun B2 hB2 hR2 hX2=>?_
  refine Aw_st hE [0,2,3,28] [2,3] fun K hK=>?_
  simp only [go_sem,seval]
  repeat refine sd0 ?_
  repeat' (first | (refine And.intro (by first | omega | decide) ?_) | intro)
  rename_i u hu1 hu2
  refine hK _ ?_;clear hK K
  refine Aw_bk fun B3 hN3 hE3 hR3 hX3=>?_
  refine Aw_st hE [0,2,3,28,29] [2,3] fun K hK=>?_
  simp only [go_sem,seval]
  repeat refine sd0 ?_
  refine hK _ (Aw_cond rfl (fun hc4=>?_) (fun hc4=>?_))
  ·refine Aw_tx hE [2,3] [2,3] fun K hK=>?_
   simp only [go_sem,seval]
   repeat refine sd0 ?_
   repeat' (first | (refine And.intro (by first | omega | decide) ?_) | intro)
   rename_i v hv1 hv2
   have hv:v=0∨v=1∨v=2:=by omega
   rcases hv with rfl | rfl | rfl<;>simp only [go_sem,seval]
   all_goals repeat refine sd0 ?_
   all_goals
    refine hK _ (hN3 _ (hB2 _ ?_))
    refine Aw_st hE [2] [2] fun K hK=>?_
    simp only [go_sem,seval]
    repeat refine sd0 ?_
    refine hK _ (Aw_ret (hQ _ ?_))
    simp only [go_sem,seval]
    exact ⟨by omega,⟨f,b,i,_,ms⟩,⟨hfb,by first | omega | (dsimp only;omega) | (simp only;omega) | (simp;omega),hi.2,by first | omega | (dsimp only;omega) | (simp only;omega) | (simp;omega),by first | omega | (dsimp only;omega) | (simp only;omega) | (simp;omega),by first | omega | (dsimp only;omega) | (simp only;omega) | (simp;omega)⟩,rfl⟩
  ·refine Aw_st hE [0,2,3,37] [2,3] fun K hK=>?_
   simp only [go_sem,seval]
   repeat refine sd0 ?_
   refine hK _ (Aw_cond rfl (fun hc5=>?_) (fun hc5=>?_))
   ·refine Aw_td hE [2,3] [2,3] 6 (by kernel_rfl) fun K hK=>?_
    simp only [go_sem,seval,rows_one]
    repeat refine sd0 ?_
    repeat' (first | (refine And.intro (by first | omega | decide) ?_) | intro)
    rename_i v hv1 hv2
    refine ⟨⟨rows_row _,by omega⟩,?_⟩
    refine hK _ (hN3 _ (hB2 _ ?_))
    refine Aw_st hE [2] [2] fun K hK=>?_
    simp only [go_sem,seval]
    repeat refine sd0 ?_
    refine hK _ (Aw_ret (hQ _ ?_))
    simp only [go_sem,seval]
    exact ⟨by omega,⟨f,b,i,_,_⟩,⟨hfb,by first | omega | (dsimp only;omega) | (simp only;omega) | (simp;omega),hi.2,by first | omega | (dsimp only;omega) | (simp only;omega) | (simp;omega),by first | omega | (dsimp only;omega) | (simp only;omega) | (simp;omega),by first | omega | (dsimp only;omega) | (simp only;omega) | (simp;omega)⟩,rfl⟩
   ·refine Aw_skip (hN3 _ (hB2 _ ?_))
    refine Aw_st hE [2] [2] fun K hK=>?_
    simp only [go_sem,seval]
    repeat refine sd0 ?_
    refine hK _ (Aw_ret (hQ _ ?_))
    simp only [go_sem,seval]
    exact ⟨by omega,⟨f,b,i,_,ms⟩,⟨hfb,by first | omega | (dsimp only;omega) | (simp only;omega) | (simp;omega),hi.2,by first | omega | (dsimp only;omega) | (simp only;omega) | (simp;omega),by first | omega | (dsimp only;omega) | (simp only;omega) | (simp;omega),by first | omega | (dsimp only;omega) | (simp only;omega) | (simp;omega)⟩,rfl⟩
 refine Aw_st hE [0,2,3,21] [2,3] fun K hK=>?_
 simp only [go_sem,seval]
 repeat refine sd0 ?_
 refine ⟨fun hg7=>?_,fun hg7=>?_⟩
 ·repeat' (first | (refine And.intro (by first | omega | decide) ?_) | intro)
  repeat refine sd0 ?_
  refine hK _ (Aw_cond rfl (fun hc8=>?_) (fun hc8=>?_))
  ·refine Aw_tx hE [0,2,3] [2,3] fun K hK=>?_
   simp only [go_sem,seval]
   repeat refine sd0 ?_
   repeat' (first | (refine And.intro (by first | omega | decide) ?_) | intro)
   rename_i z hz1 hz2
   simp only [rows_one]
   have hz:isH (1 + z)=true:=by simp [isH];omega
   refine hK _ (hB1 ([1 + z]) _ (⟨by simp,by simpa using hz⟩) ((Le_wa) E))
  ·refine Aw_skip (hB1 (p) _ (⟨hp.1,hp.2⟩) ((Le_wa) E))
 ·repeat refine sd0 ?_
  refine hK _ (Aw_no rfl ?_)
  refine Aw_skip (hB1 (p) _ (⟨hp.1,hp.2⟩) ((Le_wa) E))
def cI (l:List Int):List AV:=l.map fun n=>iv n
theorem cI_len (l:List Int):(cI l).length=l.length:=by simp [cI]
theorem flatA_rows (l:List Int):flatA (rows l)=cI l:=by
 induction l with
 | nil=>rfl
 | cons n l ih =>
  have:flatA (rows (n::l))=iv n::flatA (rows l):=rfl
  rw [this,ih];rfl
theorem setL_mid (a b c r:List AV) (off:Nat) (ho:off=a.length) (h:c.length=b.length):setL (a++b++r) off c=a++c++r:=by
 subst ho
 induction c generalizing a b with
 | nil=>cases b with
  | nil=>rfl
  | cons=>simp at h
 | cons x c ih =>
  cases b with
  | nil=>simp at h
  | cons y b =>
   simp only [setL]
   have e:(a++y::b++r).set a.length x=(a++[x])++b++r:=by simp [List.set_append]
   rw [e,show a.length + 1=(a++[x]).length by simp,ih (a++[x]) b (by simpa using h)]
   simp
theorem setL_at (L c:List AV) (off:Nat) (h:off + c.length≤L.length):setL L off c=L.take off++c++L.drop (off + c.length):=by
 have:=setL_mid (L.take off) ((L.drop off).take c.length) c (L.drop (off + c.length)) off (by simp;omega) (by simp;omega)
 rw [← this];congr 1
 rw [List.append_assoc,← List.drop_drop,List.take_append_drop,List.take_append_drop]
theorem strip_cI (d:Nat) (l:List Int):AV.stripLAll d (cI l)=cI l:=by
 rw [AV.stripLAll_eq];simp [cI,AV.stripL]
theorem stripLAll_app (d:Nat) (a b:List AV):AV.stripLAll d (a++b)=AV.stripLAll d a++AV.stripLAll d b:=by simp [AV.stripLAll_eq]
theorem stripLAll_junk (d n:Nat):AV.stripLAll d (List.replicate n .junk)=List.replicate n .junk:=by simp [AV.stripLAll_eq,AV.stripL]
theorem nt_cI (l:List Int):AV.ntAll (cI l)=cI l:=by
 rw [ntAll_eq];simp [cI,AV.nt]
theorem ntAll_app (a b:List AV):AV.ntAll (a++b)=AV.ntAll a++AV.ntAll b:=by simp [ntAll_eq]
theorem ntAll_junk (n:Nat):AV.ntAll (List.replicate n .junk)=List.replicate n .junk:=by simp [ntAll_eq,AV.nt]
theorem mvn_cI (f:Nat→Option Nat) (l:List Int):AV.mvnAll f (cI l)=cI l:=by
 rw [mvnAll_eq];simp [cI,AV.mvn]
theorem mvnAll_app (f:Nat→Option Nat) (a b:List AV):AV.mvnAll f (a++b)=AV.mvnAll f a++AV.mvnAll f b:=by simp [mvnAll_eq]
theorem allLeaf_cI (l:List Int):allLeaf (cI l)=true:=by
 induction l with
 | nil=>rfl
 | cons n l ih=>exact ih
theorem ofAll_cI (l:List Int):DV.ofAll (cI l)=some (l.map fun n=>.v (.int .i64 n)):=by
 induction l with
 | nil=>rfl
 | cons n l ih=>simp only [cI,List.map_cons,DV.ofAll,DV.ofAV] at *;rw [ih]
theorem chunks_one (l:List Int):chunks 1 l.length (l.map fun n=>DV.v (.int .i64 n))=rows l:=by
 induction l with
 | nil=>rfl
 | cons n l ih=>simp only [List.length_cons,List.map_cons,chunks,List.take_succ_cons,List.take_zero,List.drop_succ_cons,List.drop_zero,ih];rfl
theorem mvnAll_junk (f:Nat→Option Nat) (n:Nat):AV.mvnAll f (List.replicate n .junk)=List.replicate n .junk:=by simp [mvnAll_eq,AV.mvn]
theorem stripFAll_cI (F:Nat→Bool) (l:List Int):AV.stripFAll F (cI l)=cI l:=by
 rw [stripFAll_eq];simp [cI,AV.stripF]
theorem stripFAll_app (F:Nat→Bool) (a b:List AV):AV.stripFAll F (a++b)=AV.stripFAll F a++AV.stripFAll F b:=by simp [stripFAll_eq]
theorem stripFAll_junk (F:Nat→Bool) (n:Nat):AV.stripFAll F (List.replicate n .junk)=List.replicate n .junk:=by simp [stripFAll_eq,AV.stripF]
theorem frz_rows (l:List Int):chunks 1 l.length (List.take l.length (l.map fun n=>DV.v (.int .i64 n)))=rows l:=by
 rw [List.take_of_length_le (by simp),chunks_one]
theorem frzAll_app (d:Nat) (ys:List DV) (a b:List AV):AV.frzAll d ys (a++b)=AV.frzAll d ys a++AV.frzAll d ys b:=by
 induction a with
 | nil=>rfl
 | cons x a ih=>simp only [List.cons_append,AV.frzAll,ih]
theorem frzAll_cI (d:Nat) (ys:List DV) (l:List Int):AV.frzAll d ys (cI l)=cI l:=by
 induction l with
 | nil=>rfl
 | cons n l ih =>
  have:cI (n::l)=iv n::cI l:=rfl
  rw [this,AV.frzAll,ih];rfl
theorem frzAll_junk (d:Nat) (ys:List DV) (n:Nat):AV.frzAll d ys (List.replicate n .junk)=List.replicate n .junk:=by
 induction n with
 | zero=>rfl
 | succ n ih=>rw [List.replicate_succ,AV.frzAll,ih];rfl
attribute [go_sem] frzAll_app frzAll_cI frzAll_junk
attribute [go_sem] mvnAll_junk stripFAll_cI stripFAll_app stripFAll_junk
attribute [go_sem] cI_len strip_cI stripLAll_app stripLAll_junk nt_cI ntAll_app ntAll_junk mvn_cI mvnAll_app flatA_rows allLeaf_cI
def gOver:ExG:=fun args m=>match args with
 | [.xs k1 _ _ _ _,.xs k2 _ _ _ _]=>match lkm k1 m,lkm k2 m with
  | some _,some l2=>some (k1≠k2∧l2.length≠0,bv false)
  | _,_=>none
 | _=>none
attribute [go_sem] gOver
def gLess:List AV→Option (Prop × AV) | [.v (.int .i64 x),.v (.int .i64 y)]=>some (True,bv (decide (x < y))) | _=>none
def dLess:DFn:={ g:=gLess }
def gNaN:List AV→Option (Prop × AV) | [.v (.int .i64 x)]=>some (True,bv false) | _=>none
def dNaN:DFn:={ g:=gNaN }
attribute [go_sem] gLess dLess gNaN dNaN
def isM (n:Int):Bool:=decide (1≤n) && decide (n≤9)
def gIsM:List AV→Option (Prop × AV) | [.v (.int .i64 n)]=>some (True,bv (isM n)) | _=>none
def dIsM:DFn:={ g:=gIsM }
attribute [go_sem] gIsM dIsM
theorem iIsM_ok:Fine Tryd.prog 66 dIsM.con:=by
 refine fine_det (T:=TT) Tryd.func66 rfl Tryd.ntmps66 (by rw [Tryd.results66]) rfl rfl tt (gs_nil) (ds_nil) ?_
 intro args c r h hc
 simp only [dIsM,gIsM] at h
 split at h
 rotate_left
 ·cases h
 obtain ⟨rfl,rfl⟩:=Prod.mk.inj (Option.some.inj h)
 refine ⟨by simp,fun k E hE Q hQ=>?_⟩
 refine Aw_st hE [0] [] fun K hK=>?_
 simp only [go_sem,seval]
 repeat refine sd0 ?_
 refine hK _ ?_;clear hK K
 refine Aw_st hE [2] [] fun K hK=>?_
 simp only [go_sem,seval]
 repeat refine sd0 ?_
 refine ⟨fun h1=>?_,fun h1=>?_⟩
 all_goals
  refine hK _ (Aw_ret (hQ _ ?_))
  simp only [go_sem,seval,isM,h1,Bool.true_and,Bool.false_and]
def mOkN (l:List Int):Nat→Bool
 | 0=>true
 | n + 1=>mOkN l n && (isM (l.getD n 0) && (decide (n=0) || decide (l.getD (n - 1) 0 < l.getD n 0)))
def mOk (l:List Int):Bool:=mOkN l l.length
theorem mOkN_stop {l : List Int} {n : Nat} (h : mOkN l n = false) : ∀ k, n ≤ k → mOkN l k = false
  | 0, hk => by obtain rfl : n = 0 := by omega
                cases h
  | k + 1, hk => by
    by_cases he : n = k + 1
    · subst he; exact h
    · rw [mOkN, mOkN_stop h k (by omega)]; rfl
def gMOk:List AV→Option (Prop × AV) | [.sl _ els]=>(match intsL els with | some p=>some (p.length≤4294967296,bv (mOk p)) | none=>none) | _=>none
def dMOk:DFn:={ g:=gMOk }
attribute [go_sem] gMOk dMOk
theorem iMOk_ok:Fine Tryd.prog 59 dMOk.con:=by
 refine fine_det (T:=TT) Tryd.func59 rfl Tryd.ntmps59 (by rw [Tryd.results59]) rfl rfl tt (gs_nil) (ds_cons iIsM_ok ds_nil) ?_
 intro args c r h hc
 simp only [dMOk,gMOk] at h
 split at h
 rotate_left
 ·cases h
 split at h
 rotate_left
 ·cases h
 rename_i t els _ l hl
 obtain rfl:=intsL_eq hl
 obtain ⟨rfl,rfl⟩:=Prod.mk.inj (Option.some.inj h)
 refine ⟨by simp,fun k E hE Q hQ=>?_⟩
 refine Aw_st hE [0] [] fun K hK=>?_
 simp only [go_sem,seval]
 repeat refine sd0 ?_
 refine hK _ ?_;clear hK K
 refine Aw_sq fun B1 hB1 hR1 hX1=>?_
 refine Aw_st hE [0,5,6,7] [] fun K hK=>?_
 simp only [go_sem,seval]
 repeat refine sd0 ?_
 refine hK _ ?_;clear hK K
 refine Aw_bk fun B2 hN2 hE2 hR2 hX2=>?_
 refine Aw_lp (fun i:Nat=>⟨29,[(0,.sl t (rows l)),(5,.sl t (rows l)),(6,iv l.length),(7,iv i)],[],k⟩) (fun i:Nat=>i≤l.length∧mOkN l i=true) (fun i:Nat=>l.length - i) (0) (Le.refl _) (⟨by omega,rfl⟩) fun i hi B3 hN3 hR3 hX3=>?_
 refine Aw_st hE [0,5,6,7,8] [] fun K hK=>?_
 simp only [go_sem,seval]
 repeat refine sd0 ?_
 refine hK _ ?_;clear hK K
 refine Aw_sq fun B4 hB4 hR4 hX4=>?_
 refine Aw_cond rfl (fun hc5=>?_) (fun hc5=>?_)
 ·simp only [dte] at hc5
  have hil:i < l.length:=by omega
  have e1:((i:Int) - 1).toNat=i - 1:=by omega
  refine Aw_skip (hB4 _ ?_)
  refine Aw_sq fun B6 hB6 hR6 hX6=>?_
  refine Aw_bk fun B7 hN7 hE7 hR7 hX7=>?_
  refine Aw_st hE [0,3,4,5,6,7] [] fun K hK=>?_
  simp only [go_sem,seval,rows_get l i hil]
  repeat refine sd0 ?_
  refine hK _ ?_;clear hK K
  refine Aw_st hE [0,5,6,7,27] [] fun K hK=>?_
  simp only [go_sem,seval,e1,rows_get l (i - 1) (by omega)]
  repeat refine sd0 ?_
  refine ⟨fun hg9=>?_,fun hg9=>?_⟩
  ·repeat refine sd0 ?_
   refine hK _ (Aw_yes rfl ?_)
   refine Aw_st hE [2] [] fun K hK=>?_
   simp only [go_sem,seval]
   repeat refine sd0 ?_
   refine hK _ (Aw_ret (hR7 _ (hR6 _ (hR3 _ (hR2 _ (hR1 _ (hQ _ ?_)))))))
   simp only [go_sem,seval]
   have hst:mOkN l (i + 1)=false:=by rw [mOkN];simp at hg9;simp [hg9]
   rw [mOk,mOkN_stop hst _ (by omega)]
  ·simp only [Bool.not_eq_false'] at hg9
   repeat refine sd0 ?_
   refine ⟨fun hg10=>?_,fun hg10=>?_⟩
   ·simp only [dte] at hg10
    repeat refine sd0 ?_
    refine hK _ (Aw_cond rfl (fun hc11=>?_) (fun hc11=>?_))
    ·simp only [dte] at hc11
     refine Aw_st hE [2] [] fun K hK=>?_
     simp only [go_sem,seval]
     repeat refine sd0 ?_
     refine hK _ (Aw_ret (hR7 _ (hR6 _ (hR3 _ (hR2 _ (hR1 _ (hQ _ ?_)))))))
     simp only [go_sem,seval]
     have hst:mOkN l (i + 1)=false:=by rw [mOkN,decide_eq_false (show ¬i=0 by omega),decide_eq_false (show ¬l.getD (i - 1) 0 < l.getD i 0 by omega)];simp
     rw [mOk,mOkN_stop hst _ (by omega)]
    ·simp only [dfn,Int.not_le] at hc11
     refine Aw_skip (hN7 _ (hB6 _ ?_))
     refine Aw_tx hE [0,5,6,7] [] fun K hK=>?_
     simp only [go_sem,seval]
     repeat refine sd0 ?_
     refine hK _ (hN3 (i + 1) _ (⟨by omega,by rw [mOkN,hi.2,hg9,decide_eq_true hc11];simp⟩) (by omega) (Le.refl _))
   ·simp only [dfn] at hg10
    repeat refine sd0 ?_
    refine hK _ (Aw_no rfl ?_)
    refine Aw_skip (hN7 _ (hB6 _ ?_))
    refine Aw_tx hE [0,5,6,7] [] fun K hK=>?_
    simp only [go_sem,seval]
    repeat refine sd0 ?_
    refine hK _ (hN3 (i + 1) _ (⟨by omega,by rw [mOkN,hi.2,hg9,decide_eq_true (show i=0 by omega)];simp⟩) (by omega) (Le.refl _))
 ·simp only [dfn] at hc5
  refine Aw_exit (hX4 _ _ (hX3 _ _ (hE2 _ (hB1 _ ?_))))
  refine Aw_st hE [2] [] fun K hK=>?_
  simp only [go_sem,seval]
  repeat refine sd0 ?_
  refine hK _ (Aw_ret (hQ _ ?_))
  simp only [go_sem,seval]
  rw [mOk,show l.length=i by omega,hi.2]
theorem sMOk_ok:Fine Tryd.prog 52 dMOk.con:=by
 refine fine_det (T:=TT) Tryd.func52 rfl Tryd.ntmps52 (by rw [Tryd.results52]) rfl rfl tt (gs_nil) (ds_cons in_ok ds_nil) ?_
 intro args c r h hc
 simp only [dMOk,gMOk] at h
 split at h
 rotate_left
 ·cases h
 split at h
 rotate_left
 ·cases h
 rename_i t els _ l hl
 obtain rfl:=intsL_eq hl
 obtain ⟨rfl,rfl⟩:=Prod.mk.inj (Option.some.inj h)
 refine ⟨by simp,fun k E hE Q hQ=>?_⟩
 refine Aw_st hE [0] [] fun K hK=>?_
 simp only [go_sem,seval]
 repeat refine sd0 ?_
 refine hK _ ?_;clear hK K
 refine Aw_sq fun B1 hB1 hR1 hX1=>?_
 refine Aw_st hE [0,3] [] fun K hK=>?_
 simp only [go_sem,seval]
 repeat refine sd0 ?_
 refine hK _ ?_;clear hK K
 refine Aw_bk fun B2 hN2 hE2 hR2 hX2=>?_
 refine Aw_lp (fun i:Nat=>⟨32,[(0,.sl t (rows l)),(3,iv i)],[],k⟩) (fun i:Nat=>i≤l.length∧mOkN l i=true) (fun i:Nat=>l.length - i) (0) (Le.refl _) (⟨by omega,rfl⟩) fun i hi B3 hN3 hR3 hX3=>?_
 refine Aw_sq fun B4 hB4 hR4 hX4=>?_
 refine Aw_st hE [0,3,7] [] fun K hK=>?_
 simp only [go_sem,seval]
 repeat refine sd0 ?_
 refine hK _ (Aw_cond rfl (fun hc5=>?_) (fun hc5=>?_))
 ·simp only [dte] at hc5
  have hil:i < l.length:=by omega
  have e1:((i:Int) - 1).toNat=i - 1:=by omega
  have hisM:∀ x,(decide (1≤x) && decide (x≤9))=isM x:=fun _=>rfl
  refine Aw_skip (hB4 _ ?_)
  refine Aw_sq fun B6 hB6 hR6 hX6=>?_
  refine Aw_bk fun B7 hN7 hE7 hR7 hX7=>?_
  refine Aw_sd hE [0,3,31] [] 6 (by kernel_rfl) fun K hK=>?_
  simp only [go_sem,seval,e1,rows_get l (i - 1) (by omega),rows_get l i hil]
  repeat refine sd0 ?_
  refine ⟨fun hg9=>?_,fun hg9=>?_⟩
  ·repeat refine sd0 ?_
   refine hK _ (Aw_yes rfl ?_)
   refine Aw_st hE [2] [] fun K hK=>?_
   simp only [go_sem,seval]
   repeat refine sd0 ?_
   refine hK _ (Aw_ret (hR7 _ (hR6 _ (hR3 _ (hR2 _ (hR1 _ (hQ _ ?_)))))))
   simp only [go_sem,seval]
   have hst:mOkN l (i + 1)=false:=by rw [mOkN];rw [hisM] at hg9;simp at hg9;simp [hg9]
   rw [mOk,mOkN_stop hst _ (by omega)]
  ·simp only [Bool.not_eq_false',hisM] at hg9
   repeat refine sd0 ?_
   refine ⟨fun hg10=>?_,fun hg10=>?_⟩
   ·simp only [dte] at hg10
    repeat refine sd0 ?_
    refine hK _ (Aw_cond rfl (fun hc11=>?_) (fun hc11=>?_))
    ·simp only [dte] at hc11
     refine Aw_st hE [2] [] fun K hK=>?_
     simp only [go_sem,seval]
     repeat refine sd0 ?_
     refine hK _ (Aw_ret (hR7 _ (hR6 _ (hR3 _ (hR2 _ (hR1 _ (hQ _ ?_)))))))
     simp only [go_sem,seval]
     have hst:mOkN l (i + 1)=false:=by rw [mOkN,decide_eq_false (show ¬i=0 by omega),decide_eq_false (show ¬l.getD (i - 1) 0 < l.getD i 0 by omega)];simp
     rw [mOk,mOkN_stop hst _ (by omega)]
    ·simp only [dfn,Int.not_le] at hc11
     refine Aw_skip (hN7 _ (hB6 _ ?_))
     refine Aw_tx hE [0,3] [] fun K hK=>?_
     simp only [go_sem,seval]
     repeat refine sd0 ?_
     refine hK _ (hN3 (i + 1) _ (⟨by omega,by rw [mOkN,hi.2,hg9,decide_eq_true hc11];simp⟩) (by omega) (Le.refl _))
   ·simp only [dfn] at hg10
    repeat refine sd0 ?_
    refine hK _ (Aw_no rfl ?_)
    refine Aw_skip (hN7 _ (hB6 _ ?_))
    refine Aw_tx hE [0,3] [] fun K hK=>?_
    simp only [go_sem,seval]
    repeat refine sd0 ?_
    refine hK _ (hN3 (i + 1) _ (⟨by omega,by rw [mOkN,hi.2,hg9,decide_eq_true (show i=0 by omega)];simp⟩) (by omega) (Le.refl _))
 ·simp only [dfn] at hc5
  refine Aw_exit (hX4 _ _ (hX3 _ _ (hE2 _ (hB1 _ ?_))))
  refine Aw_st hE [2] [] fun K hK=>?_
  simp only [go_sem,seval]
  repeat refine sd0 ?_
  refine hK _ (Aw_ret (hQ _ ?_))
  simp only [go_sem,seval]
  rw [mOk,show l.length=i by omega,hi.2]
def rtOk (f b:Int) (p:List Int) (k:Int) (m:List Int):Bool:=rngOk f b && (decide (0 < p.length) && (pathOk p && (decide (0≤k) && (decide (k≤9) && mOk m))))
def gRtOk:List AV→Option (Prop × AV)
 | [.agg [.v (.int .i64 f),.v (.int .i64 b),.sl _ e1,.v (.int .i64 k),.sl _ e2]]=>(match intsL e1,intsL e2 with | some p,some m=>some (p.length≤4294967296∧m.length≤4294967296,bv (rtOk f b p k m)) | _,_=>none)
 | _=>none
def dRtOk:DFn:={ g:=gRtOk }
def dRtOkI (pb:Addr):DFn:={ g:=gRtOk,inv:=WP pb }
attribute [go_sem] gRtOk dRtOk dRtOkI
theorem iRtOk_ok (pb:Addr):Fine Tryd.prog 42 (dRtOkI pb).con:=by
 refine fine_det (T:=TT) Tryd.func42 rfl Tryd.ntmps42 (by rw [Tryd.results42]) rfl rfl tt gs_nil (ds_cons rangeOk_ok (ds_cons (iPathOk_ok pb) (ds_cons iMOk_ok ds_nil) (wp_inh pb))) ?_
 intro args c r h hc
 simp only [dRtOkI,gRtOk] at h
 split at h
 rotate_left
 ·cases h
 split at h
 rotate_left
 ·cases h
 rename_i f b t1 e1 lk t2 e2 _ _ p m hl1 hl2
 obtain rfl:=intsL_eq hl1
 obtain rfl:=intsL_eq hl2
 obtain ⟨rfl,rfl⟩:=Prod.mk.inj (Option.some.inj h)
 refine ⟨by simp,fun k E hE Q hQ=>?_⟩
 refine Aw_st hE [1] [1] fun K hK=>?_
 simp only [go_sem,seval]
 refine hK _ ?_;clear hK K
 refine Aw_st hE [2] [] fun K hK=>?_
 simp only [go_sem,seval]
 have H:∀ v,v=rtOk f b p lk m→K { nt:=32,σ:=[(2,bv v)],m:=[],rn:=k }:=fun v hv=>by
  subst hv
  refine hK _ (Aw_ret (hQ _ ?_))
  simp only [go_sem,seval]
 clear hK
 repeat' (first | exact hc.1 | exact hc.2 | refine ⟨?_,?_⟩ | intro _)
 all_goals (apply H;simp_all [rtOk])
 all_goals (intros;omega)
theorem sRtOk_ok:Fine Tryd.prog 28 dRtOk.con:=by
 refine fine_det (T:=TT) Tryd.func28 rfl Tryd.ntmps28 (by rw [Tryd.results28]) rfl rfl tt gs_nil (ds_cons sRangeOk_ok (ds_cons sPathOk_ok (ds_cons in_ok (ds_cons sMOk_ok ds_nil)))) ?_
 intro args c r h hc
 simp only [dRtOk,gRtOk] at h
 split at h
 rotate_left
 ·cases h
 split at h
 rotate_left
 ·cases h
 rename_i f b t1 e1 lk t2 e2 _ _ p m hl1 hl2
 obtain rfl:=intsL_eq hl1
 obtain rfl:=intsL_eq hl2
 obtain ⟨rfl,rfl⟩:=Prod.mk.inj (Option.some.inj h)
 refine ⟨by simp,fun k E hE Q hQ=>?_⟩
 refine Aw_st hE [1] [1] fun K hK=>?_
 simp only [go_sem,seval]
 refine hK _ ?_;clear hK K
 refine Aw_st hE [2] [] fun K hK=>?_
 simp only [go_sem,seval]
 have H:∀ v,v=rtOk f b p lk m→K { nt:=27,σ:=[(2,bv v)],m:=[],rn:=k }:=fun v hv=>by
  subst hv
  refine hK _ (Aw_ret (hQ _ ?_))
  simp only [go_sem,seval]
 clear hK
 repeat' (first | exact hc.1 | exact hc.2 | refine ⟨?_,?_⟩ | intro _)
 all_goals (apply H;simp_all [rtOk])
 all_goals (intros;omega)
theorem isl_inj {a b:List Int} (h:[isl a]=[isl b]):a=b:=by
 have e2:=AV.sl.inj (List.cons.inj h).1
 have e3:intsL (rows a)=intsL (rows b):=by rw [e2.2]
 rw [intsL_rows,intsL_rows] at e3
 exact Option.some.inj e3
def cClone:ConM:={
 pre:=fun args m1=>∃ l:List Int,args=[isl l]∧m1=[]∧l.length≤1000000
 post:=fun args _ r m2=>∀ l:List Int,args=[isl l]→(l=[]∧((r = .nl∧m2=[])∨(r = .xs 5 0 0 0 1∧m2=[(5,[])])))∨(l≠[]∧∃ cap,l.length≤cap∧r = .xs 7 0 l.length cap 1∧m2=[(5,[]),(7,cI l++List.replicate (cap - l.length) .junk)]) }
theorem clone_pre (l:List Int):cClone.pre [isl l] []=(l.length≤1000000):=by
 apply propext
 constructor
 ·rintro ⟨l',h,_,h2⟩;rwa [isl_inj h]
 ·exact fun h=>⟨l,rfl,rfl,h⟩
theorem clone_post (l:List Int) (m1:List (Nat × List AV)) (K:AV→List (Nat × List AV)→Prop):(∀ r m2,cClone.post [isl l] m1 r m2→K r m2)=((l=[]→K .nl []∧K (.xs 5 0 0 0 1) [(5,[])])∧(l≠[]→∀ cap,l.length≤cap→K (.xs 7 0 l.length cap 1) [(5,[]),(7,cI l++List.replicate (cap - l.length) .junk)])):=by
 apply propext
 constructor
 ·intro h
  exact ⟨fun e=>⟨h _ _ fun l' h'=>by obtain rfl:=isl_inj h';exact .inl ⟨e,.inl ⟨rfl,rfl⟩⟩,h _ _ fun l' h'=>by obtain rfl:=isl_inj h';exact .inl ⟨e,.inr ⟨rfl,rfl⟩⟩⟩,fun e cap hc=>h _ _ fun l' h'=>by obtain rfl:=isl_inj h';exact .inr ⟨e,cap,hc,rfl,rfl⟩⟩
 ·intro h r m2 hp
  rcases hp l rfl with ⟨e,⟨rfl,rfl⟩ | ⟨rfl,rfl⟩⟩ | ⟨e,cap,hc,rfl,rfl⟩
  ·exact (h.1 e).1
  ·exact (h.1 e).2
  ·exact h.2 e cap hc
theorem clone_ex (l:List Int) (m1:List (Nat × List AV)):(∃ r m2,cClone.post [isl l] m1 r m2)=True:=by
 refine eq_true ?_
 by_cases e:l=[]
 ·exact ⟨.nl,[],fun l' h'=>by obtain rfl:=isl_inj h';exact .inl ⟨e,.inl ⟨rfl,rfl⟩⟩⟩
 ·exact ⟨_,_,fun l' h'=>by obtain rfl:=isl_inj h';exact .inr ⟨e,l.length,Nat.le_refl _,rfl,rfl⟩⟩
attribute [go_sem] clone_pre clone_post clone_ex
abbrev jk (n:Nat):List AV:=List.replicate n .junk
def copyCs (f b:Int) (p:List Int) (k:Int) (m:List Int) (K:AV→List (Nat × List AV)→Prop):Prop :=
 ∀ cap,p.length≤cap→(m=[]→K (.agg [iv f,iv b,.xs 405 0 p.length cap 1,iv k,.nl]) [(2,[iv f,iv b,.xs 405 0 p.length cap 1,iv k,.nl]),(205,[]),(405,cI p++jk (cap - p.length))]∧
   K (.agg [iv f,iv b,.xs 405 0 p.length cap 1,iv k,.xs 208 0 0 0 1]) [(2,[iv f,iv b,.xs 405 0 p.length cap 1,iv k,.xs 208 0 0 0 1]),(205,[]),(405,cI p++jk (cap - p.length)),(208,[])])∧
  (m≠[]→∀ cap2,m.length≤cap2→K (.agg [iv f,iv b,.xs 405 0 p.length cap 1,iv k,.xs 408 0 m.length cap2 1]) [(2,[iv f,iv b,.xs 405 0 p.length cap 1,iv k,.xs 408 0 m.length cap2 1]),(205,[]),(405,cI p++jk (cap - p.length)),(208,[]),(408,cI m++jk (cap2 - m.length))])
theorem rav_inj {f b k f' b' k':Int} {p m p' m':List Int} (h:[AV.agg [iv f,iv b,isl p,iv k,isl m]]=[AV.agg [iv f',iv b',isl p',iv k',isl m']]):f=f'∧b=b'∧p=p'∧k=k'∧m=m':=by
 simp only [List.cons.injEq,AV.agg.injEq,AV.v.injEq,Value.int.injEq,true_and,and_true] at h
 exact ⟨h.1,h.2.1,isl_inj (by rw [h.2.2.1]),h.2.2.2.1,isl_inj (by rw [h.2.2.2.2])⟩
def cCopyR:ConM:={
 pre:=fun args m1=>∃ (f b:Int) (p:List Int) (k:Int) (m:List Int),args=[.agg [iv f,iv b,isl p,iv k,isl m]]∧m1=[]∧p.length≤1000000∧m.length≤1000000∧p≠[]
 post:=fun args _ r m2=>∀ (f b:Int) (p:List Int) (k:Int) (m:List Int),args=[.agg [iv f,iv b,isl p,iv k,isl m]]→∀ K:AV→List (Nat × List AV)→Prop,copyCs f b p k m K→K r m2 }
theorem copyR_pre (f b:Int) (p:List Int) (k:Int) (m:List Int):cCopyR.pre [.agg [iv f,iv b,isl p,iv k,isl m]] []=(p.length≤1000000∧m.length≤1000000∧p≠[]):=by
 apply propext
 constructor
 ·rintro ⟨f',b',p',k',m',h,_,h2⟩
  obtain ⟨rfl,rfl,rfl,rfl,rfl⟩:=rav_inj h
  exact h2
 ·exact fun h=>⟨f,b,p,k,m,rfl,rfl,h⟩
theorem copyR_post (f b:Int) (p:List Int) (k:Int) (m:List Int) (m1:List (Nat × List AV)) (K:AV→List (Nat × List AV)→Prop):(∀ r m2,cCopyR.post [.agg [iv f,iv b,isl p,iv k,isl m]] m1 r m2→K r m2)=copyCs f b p k m K:=by
 apply propext
 constructor
 ·intro h cap hcap
  refine ⟨fun hm0=>⟨h _ _ ?_,h _ _ ?_⟩,fun hm0 cap2 hcap2=>h _ _ ?_⟩
  all_goals
   intro f' b' p' k' m' he K' hK'
   obtain ⟨rfl,rfl,rfl,rfl,rfl⟩:=rav_inj he
   have h:=hK' cap hcap
   first | exact (h.1 hm0).1 | exact (h.1 hm0).2 | exact h.2 hm0 cap2 hcap2
 ·exact fun h r m2 hp=>hp f b p k m rfl K h
attribute [go_sem] copyR_pre copyR_post copyCs
def mkGo (x:Int):List Int→List Int × Bool→List Int × Bool
 | [],s=>s
 | y::l,(out,inn)=>mkGo x l ((out++(if !inn && decide (x≤y) then [x] else []))++(if decide (y=x) then [] else [y]),inn || decide (x≤y))
def mkL (l:List Int) (x:Int):List Int:=let s:=mkGo x l ([],false);if s.2 then s.1 else s.1++[x]
def gMark:List AV→Option (Prop × AV)
 | [.agg [.v (.int .i64 f),.v (.int .i64 b),.sl _ e1,.v (.int .i64 k),.sl _ e2],.v (.int .i64 x)]=>(match intsL e1,intsL e2 with
  | some p,some m=>some (p.length≤1000000∧m.length≤1000000,.tup [if rtOk f b p k m && isM x then .agg [iv f,iv b,isl p,iv k,isl (mkL m x)] else .agg [iv 0,iv 0,isl [],iv 0,isl []],bv (rtOk f b p k m && isM x)])
  | _,_=>none)
 | _=>none
def dMark:DFn:={ g:=gMark }
def dMarkI (pb:Addr):DFn:={ g:=gMark,inv:=WP pb }
attribute [go_sem] gMark dMark dMarkI
def gMk:List AV→Option (Prop × AV) | [.sl _ els,.v (.int .i64 x)]=>(match intsL els with | some l=>some (l.length≤1000000,isl (mkL l x)) | none=>none) | _=>none
def dMk:DFn:={ g:=gMk }
attribute [go_sem] gMk dMk
def gCopyR:List AV→Option (Prop × AV)
 | [.agg [.v (.int .i64 f),.v (.int .i64 b),.sl _ e1,.v (.int .i64 k),.sl _ e2]]=>(match intsL e1,intsL e2 with | some p,some m=>some (p.length≤1000000∧m.length≤1000000,.agg [iv f,iv b,isl p,iv k,isl m]) | _,_=>none)
 | _=>none
def dCopyR:DFn:={ g:=gCopyR }
attribute [go_sem] gCopyR dCopyR
def clL (l:List Int) (x:Int):List Int:=l.filter fun y=>!decide (y=x)
def gCl:List AV→Option (Prop × AV) | [.sl _ els,.v (.int .i64 x)]=>(match intsL els with | some l=>some (l.length≤1000000,isl (clL l x)) | none=>none) | _=>none
def dCl:DFn:={ g:=gCl }
def gClear:List AV→Option (Prop × AV)
 | [.agg [.v (.int .i64 f),.v (.int .i64 b),.sl _ e1,.v (.int .i64 k),.sl _ e2],.v (.int .i64 x)]=>(match intsL e1,intsL e2 with
  | some p,some m=>some (p.length≤1000000∧m.length≤1000000,.tup [if rtOk f b p k m && isM x then .agg [iv f,iv b,isl p,iv k,isl (clL m x)] else .agg [iv 0,iv 0,isl [],iv 0,isl []],bv (rtOk f b p k m && isM x)])
  | _,_=>none)
 | _=>none
def dClear:DFn:={ g:=gClear }
def dClearI (pb:Addr):DFn:={ g:=gClear,inv:=WP pb }
attribute [go_sem] gCl dCl gClear dClear dClearI
def gEqC:List AV→Option (Prop × AV) | [.v (.int .i64 y),.el [.v (.int .i64 x)]]=>some (True,bv (decide (y=x))) | _=>none
def dEqC:DFn:={ g:=gEqC }
attribute [go_sem] gEqC dEqC

theorem lyIn_ok:Fine Tryd.prog 8 dHas.con:=by
 refine fine_det (T:=TT) Tryd.func8 rfl Tryd.ntmps8 (by rw [Tryd.results8]) rfl rfl tt (gs_nil) (ds_nil) ?_
 intro args c r h hc
 simp only [dHas,gHas] at h
 split at h
 rotate_left
 ·cases h
 split at h
 rotate_left
 ·cases h
 rename_i t els n _ l hl
 obtain rfl:=intsL_eq hl
 obtain ⟨rfl,rfl⟩:=Prod.mk.inj (Option.some.inj h)
 refine ⟨by simp,fun k E hE Q hQ=>?_⟩
 refine Aw_st hE [0,1] [] fun K hK=>?_
 simp only [go_sem,reduceIte,Nat.reduceLT,Nat.reduceLeDiff,Nat.reduceEqDiff,Nat.reduceAdd,Nat.reduceMul,Nat.reduceSub,Nat.reduceBEq,Int.reduceToNat,List.reduceReplicate,reduceCtorEq]
 repeat refine sd0 ?_
 refine hK _ ?_;clear hK K
 refine Aw_sq fun B1 hB1 hR1 hX1=>?_
 refine Aw_st hE [0,1,5] [] fun K hK=>?_
 simp only [go_sem,reduceIte,Nat.reduceLT,Nat.reduceLeDiff,Nat.reduceEqDiff,Nat.reduceAdd,Nat.reduceMul,Nat.reduceSub,Nat.reduceBEq,Int.reduceToNat,List.reduceReplicate,reduceCtorEq]
 repeat refine sd0 ?_
 refine hK _ ?_;clear hK K
 refine Aw_bk fun B2 hN2 hE2 hR2 hX2=>?_
 refine Aw_lp (fun i:Nat=>⟨18,[(0,.sl t (rows l)),(1,iv n),(5,iv i)],[],k⟩) (fun i:Nat=>i≤l.length∧(l.take i).contains n=false) (fun i:Nat=>l.length - i) (0) (Le.refl _) (⟨by omega,by simp⟩) fun i hi B3 hN3 hR3 hX3=>?_
 refine Aw_sq fun B4 hB4 hR4 hX4=>?_
 refine Aw_st hE [0,1,5,9] [] fun K hK=>?_
 simp only [go_sem,reduceIte,Nat.reduceLT,Nat.reduceLeDiff,Nat.reduceEqDiff,Nat.reduceAdd,Nat.reduceMul,Nat.reduceSub,Nat.reduceBEq,Int.reduceToNat,List.reduceReplicate,reduceCtorEq]
 repeat refine sd0 ?_
 refine hK _ (Aw_cond rfl (fun hc5=>?_) (fun hc5=>?_))
 ·simp only [dte] at hc5
  have hil:i < l.length:=by omega
  have hs:=contains_take l i hil n
  refine Aw_skip (hB4 _ ?_)
  refine Aw_sq fun B6 hB6 hR6 hX6=>?_
  refine Aw_bk fun B7 hN7 hE7 hR7 hX7=>?_
  refine Aw_st hE [0,1,5,17] [] fun K hK=>?_
  simp only [go_sem,reduceIte,Nat.reduceLT,Nat.reduceLeDiff,Nat.reduceEqDiff,Nat.reduceAdd,Nat.reduceMul,Nat.reduceSub,Nat.reduceBEq,Int.reduceToNat,List.reduceReplicate,reduceCtorEq,rows_get l i hil]
  repeat refine sd0 ?_
  refine hK _ (Aw_cond rfl (fun hc8=>?_) (fun hc8=>?_))
  ·simp only [dte] at hc8
   refine Aw_st hE [4] [] fun K hK=>?_
   simp only [go_sem,reduceIte,Nat.reduceLT,Nat.reduceLeDiff,Nat.reduceEqDiff,Nat.reduceAdd,Nat.reduceMul,Nat.reduceSub,Nat.reduceBEq,Int.reduceToNat,List.reduceReplicate,reduceCtorEq]
   repeat refine sd0 ?_
   refine hK _ (Aw_ret (hR7 _ (hR6 _ (hR3 _ (hR2 _ (hR1 _ (hQ _ ?_)))))))
   simp only [go_sem,reduceIte,Nat.reduceLT,Nat.reduceLeDiff,Nat.reduceEqDiff,Nat.reduceAdd,Nat.reduceMul,Nat.reduceSub,Nat.reduceBEq,Int.reduceToNat,List.reduceReplicate,reduceCtorEq]
   rw [← hc8]
   exact (by simpa using getD_mem l i hil)
  ·rw [hi.2,hc8] at hs
   refine Aw_skip (hN7 _ (hB6 _ ?_))
   refine Aw_tx hE [0,1,5] [] fun K hK=>?_
   simp only [go_sem,reduceIte,Nat.reduceLT,Nat.reduceLeDiff,Nat.reduceEqDiff,Nat.reduceAdd,Nat.reduceMul,Nat.reduceSub,Nat.reduceBEq,Int.reduceToNat,List.reduceReplicate,reduceCtorEq]
   repeat refine sd0 ?_
   refine hK _ (hN3 (i + 1) _ (⟨by omega,hs⟩) (by omega) (Le.refl _))
 ·simp only [dfn] at hc5
  refine Aw_exit (hX4 _ _ (hX3 _ _ (hE2 _ (hB1 _ ?_))))
  refine Aw_st hE [4] [] fun K hK=>?_
  simp only [go_sem,reduceIte,Nat.reduceLT,Nat.reduceLeDiff,Nat.reduceEqDiff,Nat.reduceAdd,Nat.reduceMul,Nat.reduceSub,Nat.reduceBEq,Int.reduceToNat,List.reduceReplicate,reduceCtorEq]
  repeat refine sd0 ?_
  refine hK _ (Aw_ret (hQ _ ?_))
  simp only [go_sem,reduceIte,Nat.reduceLT,Nat.reduceLeDiff,Nat.reduceEqDiff,Nat.reduceAdd,Nat.reduceMul,Nat.reduceSub,Nat.reduceBEq,Int.reduceToNat,List.reduceReplicate,reduceCtorEq]
  have e:=hi.2
  rw [List.take_of_length_le (by omega)] at e
  exact e.symm
def gLyI:List AV→Option (Prop × AV) | [.sl _ e1,.sl _ e2]=>(match intsL e1,intsL e2 with | some a,some b=>some (a.length≤4294967296∧b.length≤4294967296,bv (decide (a=b))) | _,_=>none) | _=>none
def dLyI:DFn:={ g:=gLyI }
attribute [go_sem] gLyI dLyI
def gLyR:List AV→Option (Prop × AV)
 | [.agg [.v (.int .i64 f),.v (.int .i64 b),.sl _ e1,.v (.int .i64 k),.sl _ e2],.agg [.v (.int .i64 f'),.v (.int .i64 b'),.sl _ e3,.v (.int .i64 k'),.sl _ e4]]=>(match intsL e1,intsL e2,intsL e3,intsL e4 with
  | some p,some m,some p',some m'=>some ((p.length≤4294967296∧p'.length≤4294967296)∧m.length≤4294967296∧m'.length≤4294967296,bv (decide (f=f'∧b=b'∧p=p'∧k=k'∧m=m')))
  | _,_,_,_=>none)
 | _=>none
def dLyR:DFn:={ g:=gLyR }
attribute [go_sem] gLyR dLyR
def cmpI (a b:Int):Int:=if a < b then -1 else if b < a then 1 else 0
def orL:List Int→Int
 | []=>0
 | x::l=>if x=0 then orL l else x
def cmpL:List Int→List Int→Int
 | [],[]=>0
 | [],_::_=>-1
 | _::_,[]=>1
 | x::a,y::b=>if cmpI x y=0 then cmpL a b else cmpI x y
def pCmp (a b:List Int):Int:=orL [cmpI a.length b.length,cmpL a b]
def rCmp (f b f' b':Int):Int:=orL [cmpI f f',cmpI b b']
theorem cmpI_lt {a b:Int} (h:a < b):cmpI a b = -1:=if_pos h
theorem cmpI_gt {a b:Int} (h:b < a):cmpI a b=1:=by unfold cmpI;rw [if_neg (by omega),if_pos h]
theorem cmpI_eq (a:Int):cmpI a a=0:=by unfold cmpI;simp
theorem cmpI_zero {a b:Int} (h:cmpI a b=0):a=b:=by
 unfold cmpI at h
 split at h
 ·cases h
 ·split at h
  ·cases h
  ·omega
theorem cmpL_drop (a b:List Int) (i:Nat) (h:i < a.length) (k:i < b.length):cmpL (a.drop i) (b.drop i)=if cmpI (a.getD i 0) (b.getD i 0)=0 then cmpL (a.drop (i + 1)) (b.drop (i + 1)) else cmpI (a.getD i 0) (b.getD i 0):=by
 rw [List.drop_eq_getElem_cons h,List.drop_eq_getElem_cons k,cmpL]
 simp [List.getD_eq_getElem?_getD,h,k]
theorem cmpL_end (a b:List Int) (i:Nat) (h:a.length≤i) (k:b.length≤i):cmpL (a.drop i) (b.drop i)=0:=by
 rw [List.drop_of_length_le k,List.drop_of_length_le h,cmpL]
def gCmpI:List AV→Option (Prop × AV) | [.v (.int .i64 x),.v (.int .i64 y)]=>some (True,iv (cmpI x y)) | _=>none
def dCmpI:DFn:={ g:=gCmpI }
def gOrL:List AV→Option (Prop × AV) | [.sl _ els]=>(match intsL els with | some l=>some (l.length≤1000000,iv (orL l)) | none=>none) | _=>none
def dOrL:DFn:={ g:=gOrL }
def gCmpL:List AV→Option (Prop × AV) | [.sl _ e1,.sl _ e2]=>(match intsL e1,intsL e2 with | some a,some b=>some (a.length≤4294967296∧b.length≤4294967296,iv (cmpL a b)) | _,_=>none) | _=>none
def dCmpL:DFn:={ g:=gCmpL }
attribute [go_sem] gCmpI dCmpI gOrL dOrL gCmpL dCmpL
def gPCmp:List AV→Option (Prop × AV) | [.sl _ e1,.sl _ e2]=>(match intsL e1,intsL e2 with | some a,some b=>some (a.length≤4294967296∧b.length≤4294967296,iv (if pathOk a && pathOk b then pCmp a b else 0)) | _,_=>none) | _=>none
def dPCmpI (pb:Addr):DFn:={ g:=gPCmp,inv:=WP pb }
def gRgCmp:List AV→Option (Prop × AV) | [.agg [.v (.int .i64 f),.v (.int .i64 b)],.agg [.v (.int .i64 f'),.v (.int .i64 b')]]=>some (True,iv (if rngOk f b && rngOk f' b' then rCmp f b f' b' else 0)) | _=>none
def dRgCmp:DFn:={ g:=gRgCmp }
attribute [go_sem] gPCmp dPCmpI gRgCmp dRgCmp
def rtCmp (f b:Int) (p:List Int) (k:Int) (m:List Int) (f' b':Int) (p':List Int) (k':Int) (m':List Int):Int:=orL [cmpI k' k,pCmp p p',rCmp f b f' b',pCmp m m']
def gRtCmp:List AV→Option (Prop × AV)
 | [.agg [.v (.int .i64 f),.v (.int .i64 b),.sl _ e1,.v (.int .i64 k),.sl _ e2],.agg [.v (.int .i64 f'),.v (.int .i64 b'),.sl _ e3,.v (.int .i64 k'),.sl _ e4]]=>(match intsL e1,intsL e2,intsL e3,intsL e4 with
  | some p,some m,some p',some m'=>some ((p.length≤4294967296∧p'.length≤4294967296)∧m.length≤4294967296∧m'.length≤4294967296,iv (if rtOk f b p k m && rtOk f' b' p' k' m' then rtCmp f b p k m f' b' p' k' m' else 0))
  | _,_,_,_=>none)
 | _=>none
def dRtCmp:DFn:={ g:=gRtCmp }
def dRtCmpI (pb:Addr):DFn:={ g:=gRtCmp,inv:=WP pb }
def gL4Cmp:List AV→Option (Prop × AV)
 | [.agg [.v (.int .i64 f),.v (.int .i64 b),.sl _ e1,.v (.int .i64 k),.sl _ e2],.agg [.v (.int .i64 f'),.v (.int .i64 b'),.sl _ e3,.v (.int .i64 k'),.sl _ e4]]=>(match intsL e1,intsL e2,intsL e3,intsL e4 with
  | some p,some m,some p',some m'=>some ((p.length≤4294967296∧p'.length≤4294967296)∧m.length≤4294967296∧m'.length≤4294967296,iv (rtCmp f b p k m f' b' p' k' m'))
  | _,_,_,_=>none)
 | _=>none
def dL4Cmp:DFn:={ g:=gL4Cmp }
def gL3Cmp:List AV→Option (Prop × AV) | [.sl _ e1,.sl _ e2]=>(match intsL e1,intsL e2 with | some a,some b=>some (a.length≤4294967296∧b.length≤4294967296,iv (pCmp a b)) | _,_=>none) | _=>none
def dL3Cmp:DFn:={ g:=gL3Cmp }
def gL1Cmp:List AV→Option (Prop × AV) | [.agg [.v (.int .i64 f),.v (.int .i64 b)],.agg [.v (.int .i64 f'),.v (.int .i64 b')]]=>some (True,iv (rCmp f b f' b')) | _=>none
def dL1Cmp:DFn:={ g:=gL1Cmp }
attribute [go_sem] gRtCmp dRtCmp dRtCmpI gL4Cmp dL4Cmp gL3Cmp dL3Cmp gL1Cmp dL1Cmp
theorem l3Cmp_ok:Fine Tryd.prog 54 dL3Cmp.con:=by
 refine fine_det (T:=TT) Tryd.func54 rfl Tryd.ntmps54 (by rw [Tryd.results54]) rfl rfl tt (gs_nil) (ds_nil) ?_
 intro args c r h hc
 simp only [dL3Cmp,gL3Cmp] at h
 split at h
 rotate_left
 ·cases h
 split at h
 rotate_left
 ·cases h
 rename_i t1 e1 t2 e2 _ _ a b hl1 hl2
 obtain rfl:=intsL_eq hl1
 obtain rfl:=intsL_eq hl2
 obtain ⟨rfl,rfl⟩:=Prod.mk.inj (Option.some.inj h)
 refine ⟨by simp,fun k E hE Q hQ=>?_⟩
 refine Aw_st hE [0,1] [] fun K hK=>?_
 simp only [go_sem,seval]
 repeat refine sd0 ?_
 refine hK _ ?_;clear hK K
 refine Aw_sq fun B1 hB1 hR1 hX1=>?_
 refine Aw_st hE [0,1,10] [] fun K hK=>?_
 simp only [go_sem,seval]
 repeat refine sd0 ?_
 refine hK _ (Aw_cond rfl (fun hc2=>?_) (fun hc2=>?_))
 ·have hne:¬ (a.length:Int)=b.length:=by simpa using hc2
  refine Aw_sq fun B3 hB3 hR3 hX3=>?_
  refine Aw_st hE [15] [] fun K hK=>?_
  simp only [go_sem,seval]
  repeat refine sd0 ?_
  refine hK _ (Aw_cond rfl (fun hc4=>?_) (fun hc4=>?_))
  ·simp only [dte] at hc4
   refine Aw_st hE [4] [] fun K hK=>?_
   simp only [go_sem,seval]
   repeat refine sd0 ?_
   refine hK _ (Aw_ret (hR3 _ (hR1 _ (hQ _ ?_))))
   simp only [go_sem,seval]
   simp [pCmp,orL,cmpI_lt hc4]
  ·simp only [dfn] at hc4
   refine Aw_skip (hB3 _ ?_)
   refine Aw_st hE [4] [] fun K hK=>?_
   simp only [go_sem,seval]
   repeat refine sd0 ?_
   refine hK _ (Aw_ret (hR1 _ (hQ _ ?_)))
   simp only [go_sem,seval]
   simp [pCmp,orL,cmpI_gt (show (b.length:Int) < a.length by omega)]
 ·have heq:(a.length:Int)=b.length:=by simpa using hc2
  refine Aw_skip (hB1 _ ?_)
  refine Aw_sq fun B5 hB5 hR5 hX5=>?_
  refine Aw_st hE [0,1,5] [] fun K hK=>?_
  simp only [go_sem,seval]
  repeat refine sd0 ?_
  refine hK _ ?_;clear hK K
  refine Aw_bk fun B6 hN6 hE6 hR6 hX6=>?_
  refine Aw_lp (fun i:Nat=>⟨40,[(0,.sl t1 (rows a)),(1,.sl t2 (rows b)),(5,iv i)],[],k⟩) (fun i:Nat=>i≤a.length∧cmpL (a.drop i) (b.drop i)=cmpL a b) (fun i:Nat=>a.length - i) (0) (Le.refl _) (⟨by omega,by simp⟩) fun i hi B7 hN7 hR7 hX7=>?_
  refine Aw_sq fun B8 hB8 hR8 hX8=>?_
  refine Aw_st hE [0,1,5,19] [] fun K hK=>?_
  simp only [go_sem,seval]
  repeat refine sd0 ?_
  refine hK _ (Aw_cond rfl (fun hc9=>?_) (fun hc9=>?_))
  ·simp only [dte] at hc9
   have hil:i < a.length:=by omega
   have hib:i < b.length:=by omega
   have hst:=cmpL_drop a b i hil hib
   refine Aw_skip (hB8 _ ?_)
   refine Aw_sq fun B10 hB10 hR10 hX10=>?_
   refine Aw_bk fun B11 hN11 hE11 hR11 hX11=>?_
   refine Aw_sq fun B12 hB12 hR12 hX12=>?_
   refine Aw_sd hE [0,1,5,30] [] 6 (by kernel_rfl) fun K hK=>?_
   simp only [go_sem,seval,rows_get a i hil,rows_get b i hib]
   repeat refine sd0 ?_
   refine hK _ (Aw_cond rfl (fun hc13=>?_) (fun hc13=>?_))
   ·simp only [dte] at hc13
    refine Aw_st hE [4] [] fun K hK=>?_
    simp only [go_sem,seval]
    repeat refine sd0 ?_
    refine hK _ (Aw_ret (hR12 _ (hR11 _ (hR10 _ (hR7 _ (hR6 _ (hR5 _ (hQ _ ?_))))))))
    simp only [go_sem,seval]
    rw [cmpI_lt hc13] at hst;simp at hst;rw [pCmp,heq,cmpI_eq,← hi.2,hst];rfl
   ·simp only [dfn] at hc13
    refine Aw_skip (hB12 _ ?_)
    refine Aw_sd hE [0,1,5,39] [] 6 (by kernel_rfl) fun K hK=>?_
    simp only [go_sem,seval,rows_get a i hil,rows_get b i hib]
    repeat refine sd0 ?_
    refine hK _ (Aw_cond rfl (fun hc14=>?_) (fun hc14=>?_))
    ·simp only [dte] at hc14
     refine Aw_st hE [4] [] fun K hK=>?_
     simp only [go_sem,seval]
     repeat refine sd0 ?_
     refine hK _ (Aw_ret (hR11 _ (hR10 _ (hR7 _ (hR6 _ (hR5 _ (hQ _ ?_)))))))
     simp only [go_sem,seval]
     rw [cmpI_gt hc14] at hst;simp at hst;rw [pCmp,heq,cmpI_eq,← hi.2,hst];rfl
    ·simp only [dfn] at hc14
     refine Aw_skip (hN11 _ (hB10 _ ?_))
     refine Aw_tx hE [0,1,5] [] fun K hK=>?_
     simp only [go_sem,seval]
     repeat refine sd0 ?_
     refine hK _ (hN7 (i + 1) _ (⟨by omega,by rw [show a.getD i 0=b.getD i 0 by omega,cmpI_eq] at hst;simp at hst;rw [← hst];exact hi.2⟩) (by omega) (Le.refl _))
  ·simp only [dfn] at hc9
   refine Aw_exit (hX8 _ _ (hX7 _ _ (hE6 _ (hB5 _ ?_))))
   refine Aw_st hE [4] [] fun K hK=>?_
   simp only [go_sem,seval]
   repeat refine sd0 ?_
   refine hK _ (Aw_ret (hQ _ ?_))
   simp only [go_sem,seval]
   rw [pCmp,heq,cmpI_eq,← hi.2,cmpL_end a b i (by omega) (by omega)];rfl
def minF (m:List Int) (l:List (List Int)):List Int:=l.foldl (fun m y=>if pCmp y m < 0 then y else m) m
def minL:List (List Int)→List Int
 | []=>[]
 | x::l=>minF x l
abbrev Rel:=Int→Int→Int
abbrev Sta:=Int→List Int
def hI (n:Nat) (x:Int):Prop:=1≤x∧x≤n
def hs (n:Nat):List Int:=(List.range n).map fun (i:Nat)=>(i:Int) + 1
def nxt (w:List Int):Int:=w.getD 1 0
def upW (of:Rel) (b:Int) (w:List Int):Bool:=nxt w == 0 || of b (nxt w) == 1
def tells (of:Rel) (w:List Int) (b h:Int):Bool:=!w.isEmpty && !w.contains h && !(of b h == 0) && (upW of b w || of b h == 1)
def cnd (of:Rel) (W:Sta) (h rel b:Int):Bool:=of h b == rel && tells of (W b) b h
def cands (n:Nat) (of:Rel) (W:Sta) (h rel:Int):List (List Int):=((hs n).filter (cnd of W h rel)).map W
def frst (h:Int):List (List (List Int))→List Int
 | []=>[]
 | []::r=>frst h r
 | (x::l)::_=>h::minL (x::l)
def pickN (n:Nat) (of:Rel) (home:Int) (W:Sta) (h:Int):List Int :=
 if h=home then [home] else frst h [cands n of W h 1,cands n of W h 2,cands n of W h 3]
def mirr (x:Int):Int:=if x=1 then 3 else if x=3 then 1 else x
def hds (n:Nat) (W:Sta):Prop:=∀ b,hI n b→W b=[]∨(W b).head? = some b
section
variable {n:Nat} {of:Rel} {home:Int} {W:Sta} {h:Int}
theorem cnd_of {rel b:Int} (h1:cnd of W h rel b=true):of h b=rel∧tells of (W b) b h=true:=by
 simp only [cnd,Bool.and_eq_true,beq_iff_eq] at h1
 exact h1
theorem tells_ne {w:List Int} {b:Int} (h1:tells of w b h=true):w≠[]∧w.contains h=false∧of b h≠0:=by
 simp only [tells,Bool.and_eq_true,Bool.not_eq_true',beq_eq_false_iff_ne,ne_eq,List.isEmpty_eq_false_iff] at h1
 exact ⟨h1.1.1.1,h1.1.1.2,h1.1.2⟩
theorem nxt_cons (W1:hds n W) {b:Int} (hb:hI n b) (hne:W b≠[]):nxt (h::W b)=b:=by
 rcases W1 b hb with e | e
 ·exact absurd e hne
 ·cases hw:W b with
  | nil=>exact absurd hw hne
  | cons x l =>
   rw [hw] at e
   simp only [List.head?_cons,Option.some.injEq] at e
   subst e;rfl
end
def cvw (of:Rel) (b:Int) (w:List Int):List Int:=if !w.isEmpty && upW of b w then w else []
def pvw (of:Rel) (b:Int) (w:List Int):List Int:=if !w.isEmpty && (upW of b w || of b (nxt w) == 2) then w else []
section
variable {n:Nat} {of:Rel} {home:Int} {W:Sta} {h:Int}
theorem kinds (hd:hds n W) {rel b:Int} (hr:rel=1∨rel=2∨rel=3) (hb:hI n b) (hc:cnd of W h rel b=true) :
  cvw of h (h::W b)=(if rel=1 then h::W b else [])∧pvw of h (h::W b)=if rel=3 then [] else h::W b:=by
 obtain ⟨c1,c2⟩:=cnd_of hc
 obtain ⟨t1,_,_⟩:=tells_ne c2
 have hx:=nxt_cons (h:=h) hd hb t1
 have hb0:(b == 0)=false:=by have:=hb.1;simp;omega
 unfold cvw pvw upW
 rw [hx,hb0,c1]
 rcases hr with rfl | rfl | rfl<;>exact ⟨rfl,rfl⟩
end
def full (n:Nat) (l:List Int):Prop:=(∀ x ∈ l,hI n x)∧∀ h,hI n h→h ∈ l
section
variable {n:Nat} {of:Rel} {home:Int} {α:Type} {I:Sta→Prop} {v:Int→List Int→α} {T:Int→α} {r:Int→Nat}
end
section
variable {n:Nat} {of:Rel} {home:Int} {rk:Int→Nat}
end
def toS (L:List (List Int)):Sta:=fun x=>if 1≤x then L.getD (x - 1).toNat [] else []
def ofR (R:List (List Int)):Rel:=fun a b=>if 1≤a∧1≤b then (R.getD (a - 1).toNat []).getD (b - 1).toNat 0 else 0
def stpL (n:Nat) (of:Rel) (home:Int) (L:List (List Int)) (h:Int):List (List Int):=L.set (h - 1).toNat (pickN n of home (toS L) h)
def runL (n:Nat) (of:Rel) (home:Int) (L:List (List Int)) (l:List Int):List (List Int):=l.foldl (stpL n of home) L
def noneL (n:Nat) (home:Int):List (List Int):=(List.replicate n []).set (home - 1).toNat [home]
def rndL (n k:Nat):List Int:=(List.replicate k (hs n)).flatten
def endL (n:Nat) (of:Rel) (home:Int):List (List Int):=runL n of home (noneL n home) (rndL n (4 * n))
section
variable {n:Nat} {of:Rel} {home:Int} {L:List (List Int)} {h:Int}
def lnk (of:Rel):List Int→Bool
 | x::y::l=>!(of x y == 0) && lnk of (y::l)
 | _=>true
def wayOk (n:Nat) (of:Rel) (home h:Int) (w:List Int):Bool :=
 if w.isEmpty then !(h == home)
 else w.all (fun x=>decide (1≤x) && decide (x≤n)) && lnk of w && pathOk w && w.head? == some h && w.getLast? == some home && (!(h == home) || w.length == 1)
end
section
variable {n:Nat} {of:Rel} {home:Int} {h:Int} {rk:Int→Nat} {W:Sta}
end
def relsOk (R:List (List Int)):Bool :=
 decide (1≤R.length) && decide (R.length≤5) && R.all (fun r=>r.length == R.length) &&
  (hs R.length).all fun a=>(hs R.length).all fun b=>decide (0≤ofR R a b) && decide (ofR R a b≤3) && ofR R b a == mirr (ofR R a b) && (!(a == b) || ofR R a b == 0)
def netOk (R:List (List Int)) (home:Int) (L:List (List Int)):Bool :=
 relsOk R && (decide (1≤home) && decide (home≤R.length)) && L.length == R.length && (hs R.length).all fun h=>wayOk R.length (ofR R) home h (toS L h)
def wrow (w:List Int):List DV:=[.sl (rows w)]
def wrows (W:List (List Int)):List (List DV):=W.map wrow
def waysL:List (List DV)→Option (List (List Int))
 | []=>some []
 | [.sl e]::l=>match intsL e,waysL l with
  | some a,some r=>some (a::r)
  | _,_=>none
 | _=>none
theorem wrows_nil:wrows []=[]:=rfl
theorem wrows_cons (c:List Int) (l:List (List Int)):wrows (c::l)=wrow c::wrows l:=rfl
theorem waysL_rows (l:List (List Int)):waysL (wrows l)=some l:=by
 induction l with
 | nil=>rfl
 | cons n l ih=>simp only [wrows_cons,wrow,waysL,ih,intsL_rows]
theorem waysL_eq {els:List (List DV)}:∀ {l:List (List Int)},waysL els=some l→els=wrows l:=by
 induction els with
 | nil=>intro l h;obtain rfl:=Option.some.inj h;rfl
 | cons row els ih =>
  intro l h
  unfold waysL at h
  split at h
  ·rename_i e;cases e
  ·rename_i l' e
   obtain ⟨rfl,rfl⟩:=List.cons.inj e
   split at h
   ·rename_i p r hp hr
    obtain rfl:=Option.some.inj h
    rw [ih hr,intsL_eq hp];rfl
   ·cases h
  ·cases h
theorem wrows_len (l:List (List Int)):(wrows l).length=l.length:=by simp [wrows]
theorem wrows_app (a b:List (List Int)):wrows a++wrows b=wrows (a++b):=by simp [wrows]
theorem wrows_row (l:List (List Int)):∀ row ∈ wrows l,row.length=1:=by simp [wrows,wrow]
theorem wrows_drop (l:List (List Int)) (n:Nat):(wrows l).drop n=wrows (l.drop n):=by simp [wrows]
theorem wrows_take (l:List (List Int)) (n:Nat):(wrows l).take n=wrows (l.take n):=by simp [wrows]
attribute [go_sem] waysL_rows wrows_len wrows_nil wrows_app wrows_drop wrows_take
abbrev wsl (W:List (List Int)):AV:=.sl none (wrows W)
def sqR (R:List (List Int)):Prop:=R.length≤1000∧∀ r ∈ R,r.length=R.length
def inW (n:Nat) (W:List (List Int)):Prop:=W.length=n∧∀ w ∈ W,w.length≤5∧∀ x ∈ w,hI n x
set_option maxRecDepth 100000
def gBack:List AV→Option (Prop × AV) | [.v (.int .i64 x)]=>some (0≤x∧x≤3,iv (mirr x)) | _=>none
def dBack:DFn:={ g:=gBack }
attribute [go_sem] gBack dBack
def gOf:List AV→Option (Prop × AV)
 | [.sl _ els,.v (.int .i64 a),.v (.int .i64 b)]=>(match waysL els with
  | some R=>some (sqR R∧(1≤a∧a≤R.length)∧1≤b∧b≤R.length,iv (ofR R a b))
  | none=>none)
 | _=>none
def dOf:DFn:={ g:=gOf }
attribute [go_sem] gOf dOf
def mayB (of:Rel) (h o t:Int):Bool:=!(of h t == 0) && (o == 0 || of h o == 1 || of h t == 1)
def gMay:List AV→Option (Prop × AV)
 | [.sl _ els,.v (.int .i64 h),.v (.int .i64 o),.v (.int .i64 t)]=>(match waysL els with
  | some R=>some (sqR R∧(1≤h∧h≤R.length)∧(0≤o∧o≤R.length)∧1≤t∧t≤R.length,bv (mayB (ofR R) h o t))
  | none=>none)
 | _=>none
def dMay:DFn:={ g:=gMay }
attribute [go_sem] gMay dMay
def gTells:List AV→Option (Prop × AV)
 | [.sl _ els,.sl _ e2,.v (.int .i64 b),.v (.int .i64 h)]=>(match waysL els,intsL e2 with
  | some R,some w=>some ((sqR R∧w.length≤5∧∀ x ∈ w,hI R.length x)∧(1≤h∧h≤R.length)∧1≤b∧b≤R.length,bv (tells (ofR R) w b h))
  | _,_=>none)
 | _=>none
def dTells:DFn:={ g:=gTells }
attribute [go_sem] gTells dTells
def bigM (M:List (List Int)):Prop:=M.length≤2000000∧∀ r ∈ M,r.length≤2000000
def gRelsOk:List AV→Option (Prop × AV)
 | [.sl _ els]=>(match waysL els with
  | some R=>some (bigM R,bv (relsOk R))
  | none=>none)
 | _=>none
def dRelsOk:DFn:={ g:=gRelsOk }
attribute [go_sem] gRelsOk dRelsOk
section
variable {of:Rel} {W:Sta} {h rel:Int} {j:Nat}
end
def gPickN:List AV→Option (Prop × AV)
 | [.sl _ els,.v (.int .i64 home),.sl _ e2,.v (.int .i64 h)]=>(match waysL els,waysL e2 with
  | some R,some W=>some ((sqR R∧inW R.length W)∧1≤h∧h≤R.length,isl (pickN R.length (ofR R) home (toS W) h))
  | _,_=>none)
 | _=>none
def dPickN:DFn:={ g:=gPickN }
attribute [go_sem] gPickN dPickN
def hIb (n:Nat) (x:Int):Bool:=decide (1≤x) && decide (x≤n)
def stepC (n:Nat) (of:Rel) (home:Int) (L:List (List Int)) (h:Int):List (List Int):=if hIb n h then stpL n of home L h else L
def gNone:List AV→Option (Prop × AV)
 | [.sl _ els,.v (.int .i64 home)]=>(match waysL els with
  | some R=>some (R.length≤1000∧1≤home∧home≤R.length,wsl (noneL R.length home))
  | none=>none)
 | _=>none
def dNone:DFn:={ g:=gNone }
attribute [go_sem] gNone dNone
def gStepL:List AV→Option (Prop × AV)
 | [.sl _ els,.v (.int .i64 home),.sl _ e2,.v (.int .i64 h)]=>(match waysL els,waysL e2 with
  | some R,some W=>some (sqR R∧inW R.length W,wsl (stepC R.length (ofR R) home W h))
  | _,_=>none)
 | _=>none
def dStepL:DFn:={ g:=gStepL }
attribute [go_sem] gStepL dStepL
def gNetNone:List AV→Option (Prop × AV)
 | [.sl _ els,.v (.int .i64 home)]=>(match waysL els with
  | some R=>some (bigM R,wsl (if relsOk R && hIb R.length home then noneL R.length home else []))
  | none=>none)
 | _=>none
def dNetNone:DFn:={ g:=gNetNone }
attribute [go_sem] gNetNone dNetNone
def gEndL:List AV→Option (Prop × AV)
 | [.sl _ els,.v (.int .i64 home)]=>(match waysL els with
  | some R=>some (relsOk R=true∧1≤home∧home≤R.length,wsl (endL R.length (ofR R) home))
  | none=>none)
 | _=>none
def dEndL:DFn:={ g:=gEndL }
attribute [go_sem] gEndL dEndL
def gNetEnd:List AV→Option (Prop × AV)
 | [.sl _ els,.v (.int .i64 home)]=>(match waysL els with
  | some R=>some (bigM R,wsl (if relsOk R && hIb R.length home then endL R.length (ofR R) home else []))
  | none=>none)
 | _=>none
def dNetEnd:DFn:={ g:=gNetEnd }
attribute [go_sem] gNetEnd dNetEnd
def gWayOk:List AV→Option (Prop × AV)
 | [.sl _ els,.v (.int .i64 home),.sl _ e2,.v (.int .i64 h)]=>(match waysL els,intsL e2 with
  | some R,some w=>some (sqR R∧w.length≤4294967296,bv (wayOk R.length (ofR R) home h w))
  | _,_=>none)
 | _=>none
def dWayOk:DFn:={ g:=gWayOk }
attribute [go_sem] gWayOk dWayOk
def gNetOk:List AV→Option (Prop × AV)
 | [.sl _ els,.v (.int .i64 home),.sl _ e2]=>(match waysL els,waysL e2 with
  | some R,some W=>some (bigM R∧bigM W,bv (netOk R home W))
  | _,_=>none)
 | _=>none
def dNetOk:DFn:={ g:=gNetOk }
attribute [go_sem] gNetOk dNetOk
theorem cmpL_z:∀ {a b:List Int},cmpL a b=0→a=b
 | [],[],_=>rfl
 | [],_::_,h=>by simp [cmpL] at h
 | _::_,[],h=>by simp [cmpL] at h
 | x::a,y::b,h=>by
  simp only [cmpL] at h
  split at h
  ·rename_i e;rw [cmpI_zero e,cmpL_z h]
  ·rename_i e;exact absurd h e
theorem pCmp_z {a b:List Int} (h:pCmp a b=0):a=b:=by
 unfold pCmp at h
 simp only [orL] at h
 split at h
 ·split at h
  ·rename_i e;exact cmpL_z e
  ·rename_i e;exact absurd h e
 ·rename_i e;exact absurd h e
def gNetPick:List AV→Option (Prop × AV)
 | [.sl _ els,.v (.int .i64 home),.sl _ e2,.v (.int .i64 h)]=>(match waysL els,waysL e2 with
  | some R,some W=>some (bigM R∧bigM W,isl (if netOk R home W && hIb R.length h then pickN R.length (ofR R) home (toS W) h else []))
  | _,_=>none)
 | _=>none
def dNetPick:DFn:={ g:=gNetPick }
def gNetStep:List AV→Option (Prop × AV)
 | [.sl _ els,.v (.int .i64 home),.sl _ e2,.v (.int .i64 h)]=>(match waysL els,waysL e2 with
  | some R,some W=>some (bigM R∧bigM W,wsl (if netOk R home W && hIb R.length h then stpL R.length (ofR R) home W h else []))
  | _,_=>none)
 | _=>none
def dNetStep:DFn:={ g:=gNetStep }
def stillB (n:Nat) (of:Rel) (home:Int) (W:List (List Int)):Bool:=(hs n).all fun h=>decide (pickN n of home (toS W) h=toS W h)
def gStill:List AV→Option (Prop × AV)
 | [.sl _ els,.v (.int .i64 home),.sl _ e2]=>(match waysL els,waysL e2 with
  | some R,some W=>some (netOk R home W=true,bv (stillB R.length (ofR R) home W))
  | _,_=>none)
 | _=>none
def dStill:DFn:={ g:=gStill }
def gNetStill:List AV→Option (Prop × AV)
 | [.sl _ els,.v (.int .i64 home),.sl _ e2]=>(match waysL els,waysL e2 with
  | some R,some W=>some (bigM R∧bigM W,bv (netOk R home W && stillB R.length (ofR R) home W))
  | _,_=>none)
 | _=>none
def dNetStill:DFn:={ g:=gNetStill }
def playOk (R:List (List Int)) (home:Int) (W:List (List Int)) (o:List Int):Bool:=netOk R home W && decide (o.length≤200) && o.all (hIb R.length)
def gNetPlay:List AV→Option (Prop × AV)
 | [.sl _ els,.v (.int .i64 home),.sl _ e2,.sl _ e3]=>(match waysL els,waysL e2,intsL e3 with
  | some R,some W,some o=>some ((bigM R∧bigM W)∧o.length≤4294967296,.tup [wsl (if playOk R home W o then runL R.length (ofR R) home W o else []),bv (playOk R home W o)])
  | _,_,_=>none)
 | _=>none
def dNetPlay:DFn:={ g:=gNetPlay }
attribute [go_sem] gNetPick dNetPick gNetStep dNetStep gStill dStill gNetStill dNetStill gNetPlay dNetPlay
def kc (a b:Int):Value:=.agg #[.int .i64 a,.int .i64 b]
def lkF (t:List (Value × Value)):Rel:=fun a b=>match fndT 1 (kc a b) t with
 | some (.int .i64 x)=>x
 | _=>0
def mpI (t:List (Value × Value)):Prop:=∀ p ∈ t,∃ a b x:Int,p=(kc a b,.int .i64 x)
def rAV (n:Int) (t:List (Value × Value)):AV:=.agg [iv n,.dv (.mp t)]
def gMirr:List AV→Option (Prop × AV) | [.v (.int .i64 x)]=>some (True,iv (mirr x)) | _=>none
def dMirr:DFn:={ g:=gMirr }
attribute [go_sem] gMirr dMirr
def gOfM:List AV→Option (Prop × AV)
 | [.agg [.v (.int .i64 _),.dv (.mp t)],.v (.int .i64 a),.v (.int .i64 b)]=>some (mpI t,iv (lkF t a b))
 | _=>none
def dOfM:DFn:={ g:=gOfM }
def gHasM:List AV→Option (Prop × AV)
 | [.agg [.v (.int .i64 n),_],.v (.int .i64 a)]=>some (True,bv (decide (1≤a) && decide (a≤n)))
 | _=>none
def dHasM:DFn:={ g:=gHasM }
def gExpM:List AV→Option (Prop × AV)
 | [.agg [.v (.int .i64 _),.dv (.mp t)],.v (.int .i64 h),.v (.int .i64 o),.v (.int .i64 u)]=>some (mpI t,bv (mayB (lkF t) h o u))
 | _=>none
def dExpM:DFn:={ g:=gExpM }
attribute [go_sem] gOfM dOfM gHasM dHasM gExpM dExpM
def rrK (R:List (List Int)) (K:AV→Prop):Prop :=
 (relsOk R=false→K (.tup [.agg [iv 0,.v (.map none)],bv false]))∧(relsOk R=true→∀ t,mpI t→lkF t=ofR R→K (.tup [rAV R.length t,bv true]))
def cRR:Con:={ pre:=fun args=>∃ R,args=[wsl R]∧bigM R,post:=fun args r=>∀ R,args=[wsl R]→∀ K:AV→Prop,rrK R K→K r }
theorem cRR_own:cRR.own=false:=rfl
theorem cRR_draws:cRR.draws=false:=rfl
theorem cRR_cost:cRR.cost=0:=rfl
attribute [go_sem] cRR_own cRR_draws cRR_cost
theorem wsl_inj {a b:List (List Int)} (h:[wsl a]=[wsl b]):a=b:=by
 simp only [List.cons.injEq,AV.sl.injEq,true_and,and_true] at h
 have:=congrArg waysL h
 rw [waysL_rows,waysL_rows] at this
 exact Option.some.inj this
theorem rr_pre (R:List (List Int)):cRR.pre [wsl R]=bigM R:=by
 apply propext
 exact ⟨fun ⟨R',e,h⟩=>by rw [wsl_inj e];exact h,fun h=>⟨R,rfl,h⟩⟩
theorem rr_post (R:List (List Int)) (K:AV→Prop):(∀ r,cRR.post [wsl R] r→K r)=rrK R K:=by
 apply propext
 constructor
 ·intro h
  refine ⟨fun h0=>h _ ?_,fun h1 t ht hl=>h _ ?_⟩
  ·intro R' e K' hK'
   rw [← wsl_inj e] at hK'
   exact hK'.1 h0
  ·intro R' e K' hK'
   rw [← wsl_inj e] at hK'
   exact hK'.2 h1 t ht hl
 ·exact fun h r hr=>hr R rfl K h
attribute [go_sem] rr_pre rr_post rAV
def gCloneD:List AV→Option (Prop × AV) | [.sl _ els]=>(match intsL els with | some l=>some (l.length≤2000000,isl l) | none=>none) | _=>none
def dCloneD:DFn:={ g:=gCloneD }
attribute [go_sem] gCloneD dCloneD
theorem cloneD_ok:Fine Tryd.prog 44 dCloneD.con:=by
 refine fine_det (T:=TT) Tryd.func44 rfl Tryd.ntmps44 (by rw [Tryd.results44]) rfl rfl tt (gs_nil) (ds_nil) ?_
 intro args c r h hc
 simp only [dCloneD,gCloneD] at h
 split at h
 rotate_left
 ·cases h
 split at h
 rotate_left
 ·cases h
 rename_i t els _ l hl
 obtain rfl:=intsL_eq hl
 obtain ⟨rfl,rfl⟩:=Prod.mk.inj (Option.some.inj h)
 refine ⟨by simp,fun k E hE Q hQ=>?_⟩
 refine Aw_st hE [0] [] fun K hK=>?_
 simp only [go_sem,reduceIte,Nat.reduceLT,Nat.reduceLeDiff,Nat.reduceEqDiff,Nat.reduceAdd,Nat.reduceMul,Nat.reduceSub,Nat.reduceBEq,Int.reduceToNat,List.reduceReplicate,reduceCtorEq]
 repeat refine sd0 ?_
 refine hK _ ?_;clear hK K
 refine Aw_sq fun B1 hB1 hR1 hX1=>?_
 refine Aw_st hE [0,4] [] fun K hK=>?_
 simp only [go_sem,reduceIte,Nat.reduceLT,Nat.reduceLeDiff,Nat.reduceEqDiff,Nat.reduceAdd,Nat.reduceMul,Nat.reduceSub,Nat.reduceBEq,Int.reduceToNat,List.reduceReplicate,reduceCtorEq]
 repeat refine sd0 ?_
 rintro b _ hb rfl
 refine hK _ (Aw_cond rfl (fun hc2=>?_) (fun hc2=>?_))
 ·refine Aw_st hE [2] [] fun K hK=>?_
  simp only [go_sem,reduceIte,Nat.reduceLT,Nat.reduceLeDiff,Nat.reduceEqDiff,Nat.reduceAdd,Nat.reduceMul,Nat.reduceSub,Nat.reduceBEq,Int.reduceToNat,List.reduceReplicate,reduceCtorEq]
  repeat refine sd0 ?_
  refine hK _ (Aw_ret (hR1 _ (hQ _ ?_)))
  simp only [go_sem,reduceIte,Nat.reduceLT,Nat.reduceLeDiff,Nat.reduceEqDiff,Nat.reduceAdd,Nat.reduceMul,Nat.reduceSub,Nat.reduceBEq,Int.reduceToNat,List.reduceReplicate,reduceCtorEq]
  have:l=[]:=by
   cases l with
   | nil=>rfl
   | cons x l=>have:=hb (by simp [rows]);rw [this] at hc2;cases hc2
  rw [this];rfl
 ·refine Aw_skip (hB1 _ ?_)
  refine Aw_st hE [2] [] fun K hK=>?_
  simp only [go_sem,reduceIte,Nat.reduceLT,Nat.reduceLeDiff,Nat.reduceEqDiff,Nat.reduceAdd,Nat.reduceMul,Nat.reduceSub,Nat.reduceBEq,Int.reduceToNat,List.reduceReplicate,reduceCtorEq]
  repeat refine sd0 ?_
  refine hK _ (Aw_ret (hQ _ ?_))
  simp only [go_sem,reduceIte,Nat.reduceLT,Nat.reduceLeDiff,Nat.reduceEqDiff,Nat.reduceAdd,Nat.reduceMul,Nat.reduceSub,Nat.reduceBEq,Int.reduceToNat,List.reduceReplicate,reduceCtorEq]
def gCopyD:List AV→Option (Prop × AV)
 | [.agg [.v (.int .i64 f),.v (.int .i64 b),.sl _ e1,.v (.int .i64 k),.sl _ e2]]=>(match intsL e1,intsL e2 with
  | some p,some m=>some (p.length≤2000000∧m.length≤2000000,.agg [iv f,iv b,isl p,iv k,isl m])
  | _,_=>none)
 | _=>none
def dCopyD:DFn:={ g:=gCopyD }
attribute [go_sem] gCopyD dCopyD
def cWs (W:List (List Int)):List AV:=W.map fun w=>isl w
theorem cWs_len (W:List (List Int)):(cWs W).length=W.length:=List.length_map _
theorem cWs_map {f:AV→AV} (W:List (List Int)) (h:∀ w,f (isl w)=isl w):(cWs W).map f=cWs W:=by
 unfold cWs;rw [List.map_map];exact List.map_congr_left fun w _=>h w
theorem cWs_strip (d:Nat) (W:List (List Int)):AV.stripLAll d (cWs W)=cWs W:=by rw [AV.stripLAll_eq];exact cWs_map W fun _=>rfl
theorem cWs_nt (W:List (List Int)):AV.ntAll (cWs W)=cWs W:=by rw [ntAll_eq];exact cWs_map W fun _=>rfl
theorem cWs_mvn (f:Nat→Option Nat) (W:List (List Int)):AV.mvnAll f (cWs W)=cWs W:=by rw [mvnAll_eq];exact cWs_map W fun _=>rfl
theorem cWs_stripF (F:Nat→Bool) (W:List (List Int)):AV.stripFAll F (cWs W)=cWs W:=by rw [stripFAll_eq];exact cWs_map W fun _=>rfl
theorem cWs_stripA (d:Nat) (W:List (List Int)):AV.stripAll d (cWs W)=cWs W:=by rw [AV.stripAll_eq];exact cWs_map W fun _=>rfl
theorem cWs_frz (d:Nat) (ys:List DV) (W:List (List Int)):AV.frzAll d ys (cWs W)=cWs W:=by rw [frzAll_eq];exact cWs_map W fun _=>rfl
theorem cWs_frzM (d:Nat) (t:List (Value × Value)) (W:List (List Int)):AV.frzMAll d t (cWs W)=cWs W:=by rw [frzMAll_eq];exact cWs_map W fun _=>rfl
theorem cWs_swb (d d':Nat) (W:List (List Int)):AV.swbAll d d' (cWs W)=cWs W:=by rw [AV.swbAll_eq];exact cWs_map W fun _=>rfl
theorem cWs_set (W:List (List Int)) (i:Nat) (w:List Int):(cWs W).set i (isl w)=cWs (W.set i w):=by
 unfold cWs;rw [List.map_set]
theorem rhoS_cWs (m:List (Nat × List AV)):∀ (W:List (List Int)) (f n:Nat) (ρ:List (Nat × Nat)),rhoS m f n (cWs W) ρ=ρ
 | [],0,_,_=>rfl
 | [],_ + 1,_,_=>rfl
 | _::_,0,_,_=>rfl
 | w::W,f + 1,n,ρ=>rhoS_cWs m W f n ρ
theorem cWs_le:∀ W:List (List Int),avLeL (cWs W) (cWs W)=True
 | []=>by simp [cWs,avLeL]
 | w::W=>by
  have ih:=cWs_le W
  simp only [cWs,List.map_cons] at ih ⊢
  simp only [avLeL,ih,and_true,avLe,lfLe,AV.els]
attribute [go_sem] cWs_le rhoS_cWs cWs_len cWs_strip cWs_nt cWs_mvn cWs_stripF cWs_stripA cWs_frz cWs_frzM cWs_swb cWs_set
structure Nt where
 n:Int
 t:List (Value × Value)
 home:Int
 W:List (List Int)
def Nt.M (N:Nt) (b w:Nat):List (Nat × List AV):=[(b,[iv N.n,.dv (.mp N.t),iv N.home,.xs w 0 N.W.length N.W.length 1]),(w,cWs N.W)]
attribute [go_sem] Nt.M
def mkM (I:World→Prop) {ι:Type} (enc:ι→List AV × List (Nat × List AV)) (cnd:ι→Prop) (out:ι→AV→List (Nat × List AV)→Prop):ConM:={
 pre:=fun a m=>∃ i,enc i=(a,m)∧cnd i
 post:=fun a m r m2=>∃ i,enc i=(a,m)∧out i r m2
 inv:=I }
theorem mkM_pre {I:World→Prop} {ι:Type} {enc:ι→List AV × List (Nat × List AV)} {cnd:ι→Prop} {out:ι→AV→List (Nat × List AV)→Prop} (hj:∀ i j,enc i=enc j→i=j) (i:ι) {a:List AV} {m:List (Nat × List AV)} (h:enc i=(a,m)):(mkM I enc cnd out).pre a m=cnd i:=by
 apply propext
 exact ⟨fun ⟨j,e,hc⟩=>by rw [hj i j (h.trans e.symm)];exact hc,fun hc=>⟨i,h,hc⟩⟩
theorem mkM_post {I:World→Prop} {ι:Type} {enc:ι→List AV × List (Nat × List AV)} {cnd:ι→Prop} {out:ι→AV→List (Nat × List AV)→Prop} (hj:∀ i j,enc i=enc j→i=j) (i:ι) {a:List AV} {m:List (Nat × List AV)} (h:enc i=(a,m)) (K:AV→List (Nat × List AV)→Prop) :
  (∀ r m2,(mkM I enc cnd out).post a m r m2→K r m2) = ∀ r m2,out i r m2→K r m2:=by
 apply propext
 exact ⟨fun hk r m2 ho=>hk r m2 ⟨i,h,ho⟩,fun hk r m2 ⟨j,e,ho⟩=>by rw [hj j i (e.trans h.symm)] at ho;exact hk r m2 ho⟩
theorem mkM_fn {P:AV→List (Nat × List AV)→Prop} (r0:AV) (m0:List (Nat × List AV)):(∀ r m2,(r=r0∧m2=m0)→P r m2)=P r0 m0:=by
 apply propext
 exact ⟨fun h=>h _ _ ⟨rfl,rfl⟩,fun h r m2 ⟨e1,e2⟩=>by rw [e1,e2];exact h⟩
def gEqI:List AV→Option (Prop × AV)
 | [.sl _ e1,.sl _ e2]=>(match intsL e1,intsL e2 with
  | some a,some b=>some (a.length≤4294967296∧b.length≤4294967296,bv (decide (a=b)))
  | _,_=>none)
 | _=>none
def dEqI:DFn:={ g:=gEqI }
attribute [go_sem] gEqI dEqI
def cCopyW:ConM:=mkM (fun _=>True) (fun W:List (List Int)=>([wsl W],[])) (fun W=>bigM W) fun W r m2=>r = .xs 8 0 W.length W.length 1∧m2=[(8,cWs W)]
theorem copyW_inj (i j:List (List Int)) (h:(([wsl i],[]):List AV × List (Nat × List AV))=([wsl j],[])):i=j:=wsl_inj (Prod.mk.inj h).1
theorem copyW_pre (W:List (List Int)):cCopyW.pre [wsl W] []=bigM W:=mkM_pre copyW_inj W rfl
theorem copyW_post (W:List (List Int)) (K:AV→List (Nat × List AV)→Prop):(∀ r m2,cCopyW.post [wsl W] [] r m2→K r m2)=K (.xs 8 0 W.length W.length 1) [(8,cWs W)]:=(mkM_post copyW_inj W rfl K).trans (mkM_fn _ _)
attribute [go_sem] copyW_pre copyW_post
theorem flat_nl:∀ n:Nat,(List.replicate n [AV.nl]).flatten=List.replicate n .nl
 | 0=>rfl
 | n + 1=>by rw [List.replicate_succ,List.flatten_cons,flat_nl n];rfl
theorem nl_strip (d n:Nat):AV.stripLAll d (List.replicate n .nl)=List.replicate n .nl:=by rw [AV.stripLAll_eq,List.map_replicate];rfl
theorem cWs_nil:cWs []=[]:=rfl
theorem nl_le:∀ n:Nat,avLeL (List.replicate n .nl) (List.replicate n .nl)=True
 | 0=>by simp [avLeL]
 | n + 1=>by rw [List.replicate_succ];simp only [avLeL,nl_le n,and_true,avLe,lfLe]
attribute [go_sem] flat_nl nl_strip cWs_nil nl_le
def cGrow:ConM:=mkM (fun _=>True) (fun n:Int=>([.nl,iv n],[])) (fun n=>0 < n∧n≤2000000) fun n r m2=>∃ cap:Nat,n.toNat≤cap∧r = .xs 22 0 0 cap 1∧m2=[(22,List.replicate cap .junk)]
theorem grow_inj (i j:Int) (h:(([.nl,iv i],[]):List AV × List (Nat × List AV))=([.nl,iv j],[])):i=j:=by simpa using h
theorem grow_pre (n:Int):cGrow.pre [.nl,iv n] []=(0 < n∧n≤2000000):=mkM_pre grow_inj n rfl
theorem grow_post (n:Int) (K:AV→List (Nat × List AV)→Prop):(∀ r m2,cGrow.post [.nl,iv n] [] r m2→K r m2) = ∀ cap:Nat,n.toNat≤cap→K (.xs 22 0 0 cap 1) [(22,List.replicate cap .junk)] :=
 (mkM_post grow_inj n rfl K).trans (propext ⟨fun h cap hc=>h _ _ ⟨cap,hc,rfl,rfl⟩,fun h r m2 ⟨cap,hc,e1,e2⟩=>by rw [e1,e2];exact h cap hc⟩)
theorem junk_strip (d n:Nat):AV.stripLAll d (List.replicate n .junk)=List.replicate n .junk:=by rw [AV.stripLAll_eq,List.map_replicate];rfl
theorem junk_stripF (F:Nat→Bool) (n:Nat):AV.stripFAll F (List.replicate n .junk)=List.replicate n .junk:=by rw [stripFAll_eq,List.map_replicate];rfl
theorem junk_nt (n:Nat):AV.ntAll (List.replicate n .junk)=List.replicate n .junk:=by rw [ntAll_eq,List.map_replicate];rfl
theorem junk_mvn (f:Nat→Option Nat) (n:Nat):AV.mvnAll f (List.replicate n .junk)=List.replicate n .junk:=by rw [mvnAll_eq,List.map_replicate];rfl
theorem junk_A (d n:Nat):AV.stripAll d (List.replicate n .junk)=List.replicate n .junk:=by rw [AV.stripAll_eq,List.map_replicate];rfl
attribute [go_sem] grow_pre grow_post junk_strip junk_stripF junk_nt junk_mvn junk_A
theorem grow_ok:FineM Tryd.prog 38 cGrow:=by
 refine fineM_of [] ms_nil [] mm_nil [22] [] ex_nil (T:=TT) Tryd.func38 rfl Tryd.ntmps38 (by rw [Tryd.results38]) rfl rfl tt gs_nil ds_nil ?_
 rintro args m1 ⟨n,e,hn0,hn1⟩
 obtain ⟨rfl,rfl⟩:=Prod.mk.inj e.symm
 refine ⟨by simp,fun E hE Q hQ=>?_⟩
 have h1d:decide (n < 0)=false:=decide_eq_false (by omega)
 have h2d:decide ((0:Int) < n)=true:=decide_eq_true hn0
 refine Aw_st hE [0,1] [22] fun K hK=>?_
 simp only [go_sem,seval]
 refine hK _ ?_;clear hK K
 refine Aw_sq fun B1 hB1 hR1 hX1=>?_
 refine Aw_st hE [0,1,6] [22] fun K hK=>?_
 simp only [go_sem,seval,h1d]
 refine hK _ (Aw_no rfl (Aw_skip (hB1 _ ?_)))
 refine Aw_sq fun B3 hB3 hR3 hX3=>?_
 refine Aw_st hE [0,1] [22] fun K hK=>?_
 simp only [go_sem,seval,Int.sub_zero]
 repeat refine sd0 ?_
 refine hK _ ?_;clear hK K
 refine Aw_st hE [0,1,16] [22] fun K hK=>?_
 simp only [go_sem,seval,h2d]
 refine hK _ (Aw_yes rfl ?_)
 refine Aw_tx hE [0] [22] fun K hK=>?_
 simp only [go_sem,seval]
 refine ⟨⟨⟨by omega,by decide⟩,by omega⟩,fun cap hcap=>⟨by omega,?_⟩⟩
 refine hK _ (hB3 _ ?_)
 refine Aw_st hE [4] [22] fun K hK=>?_
 simp only [go_sem,seval]
 refine hK _ (Aw_ret (hQ _ ?_))
 simp only [go_sem,seval]
 exact ⟨n,rfl,cap,hcap,rfl,rfl⟩
def gConc:List AV→Option (Prop × AV)
 | [.sl _ els]=>(match waysL els with
  | some [[h],w]=>some (w.length≤1000,isl (h::w))
  | _=>none)
 | _=>none
def dConc:DFn:={ g:=gConc }
attribute [go_sem] gConc dConc
theorem conc_ok:Fine Tryd.prog 17 dConc.con:=by
 refine fine_detX [] gl_nil [] ms_nil [(38,(cGrow,[],[(22,400)]))] (mm_cons grow_ok (by decide) mm_nil) [] [] ex_nil (T:=TT) Tryd.func17 rfl Tryd.ntmps17 (by rw [Tryd.results17]) rfl rfl tt gs_nil ds_nil ?_
 intro args c r h hc
 simp only [dConc,gConc] at h
 split at h
 rotate_left
 ·cases h
 split at h
 rotate_left
 ·cases h
 rename_i t els _ y w hiw
 obtain rfl:=waysL_eq hiw
 obtain ⟨rfl,rfl⟩:=Prod.mk.inj (Option.some.inj h)
 refine ⟨by simp,fun k E hE Q hQ=>?_⟩
 have hw0:(wrows [[y],w])[0]? = some [.sl (rows [y])]:=rfl
 have hw1:(wrows [[y],w])[1]? = some [.sl (rows w)]:=rfl
 have hs1:decide ((0:Int) + 1 < 0)=false:=rfl
 have hs2:decide ((0:Int) + 1 + (w.length:Int) < 0)=false:=decide_eq_false (by omega)
 refine Aw_st hE [0] [424] fun K hK=>?_
 simp only [go_sem,seval]
 refine hK _ ?_;clear hK K
 refine Aw_st hE [0,3] [424] fun K hK=>?_
 simp only [go_sem,seval]
 refine hK _ ?_;clear hK K
 refine Aw_sq fun B1 hB1 hR1 hX1=>?_
 refine Aw_st hE [0,3,9,10,11] [424] fun K hK=>?_
 simp only [go_sem,seval]
 refine hK _ ?_;clear hK K
 refine Aw_bk fun B2 hN2 hE2 hR2 hX2=>?_
 refine Aw_unr 3 ?_
 refine Aw_rd fun B3 hN3 hR3 hX3=>?_
 refine Aw_st hE [0,3,9,10,11,12] [424] fun K hK=>?_
 simp only [go_sem,seval]
 refine hK _ ?_;clear hK K
 refine Aw_sq fun B4 hB4 hR4 hX4=>?_
 refine Aw_yes rfl (Aw_skip (hB4 _ ?_))
 refine Aw_sq fun B6 hB6 hR6 hX6=>?_
 refine Aw_bk fun B7 hN7 hE7 hR7 hX7=>?_
 refine Aw_st hE [0,3,5,9,10,11] [424] fun K hK=>?_
 simp only [go_sem,seval,hw0]
 repeat refine sd0 ?_
 refine hK _ ?_;clear hK K
 refine Aw_st hE [0,3,9,10,11] [424] fun K hK=>?_
 simp only [go_sem,seval]
 repeat refine sd0 ?_
 refine hK _ ?_;clear hK K
 refine Aw_st hE [0,3,9,10,11,20] [424] fun K hK=>?_
 simp only [go_sem,seval,hs1]
 refine hK _ (Aw_no rfl (Aw_skip (hN7 _ (hB6 _ ?_))))
 refine Aw_tx hE [0,3,9,10,11] [424] fun K hK=>?_
 simp only [go_sem,seval]
 repeat refine sd0 ?_
 refine hK _ (hN3 _ ?_)
 refine Aw_rd fun B9 hN9 hR9 hX9=>?_
 refine Aw_st hE [0,3,9,10,11,12] [424] fun K hK=>?_
 simp only [go_sem,seval]
 refine hK _ ?_;clear hK K
 refine Aw_sq fun B10 hB10 hR10 hX10=>?_
 refine Aw_yes rfl (Aw_skip (hB10 _ ?_))
 refine Aw_sq fun B12 hB12 hR12 hX12=>?_
 refine Aw_bk fun B13 hN13 hE13 hR13 hX13=>?_
 refine Aw_st hE [0,3,5,9,10,11] [424] fun K hK=>?_
 simp only [go_sem,seval,hw1]
 repeat refine sd0 ?_
 refine hK _ ?_;clear hK K
 refine Aw_st hE [0,3,9,10,11] [424] fun K hK=>?_
 simp only [go_sem,seval]
 repeat refine sd0 ?_
 refine hK _ ?_;clear hK K
 refine Aw_st hE [0,3,9,10,11,20] [424] fun K hK=>?_
 simp only [go_sem,seval,hs2]
 refine hK _ (Aw_no rfl (Aw_skip (hN13 _ (hB12 _ ?_))))
 refine Aw_tx hE [0,3,9,10,11] [424] fun K hK=>?_
 simp only [go_sem,seval]
 repeat refine sd0 ?_
 refine hK _ (hN9 _ ?_)
 refine Aw_rd fun B15 hN15 hR15 hX15=>?_
 refine Aw_st hE [0,3,9,10,11,12] [424] fun K hK=>?_
 simp only [go_sem,seval]
 refine hK _ ?_;clear hK K
 refine Aw_sq fun B16 hB16 hR16 hX16=>?_
 refine Aw_no rfl (Aw_exit (hX16 _ _ (hX15 _ _ (hE2 _ (hB1 _ ?_)))))
 refine Aw_st hE [0,6] [424] fun K hK=>?_
 simp only [go_sem,seval]
 refine ⟨by decide,⟨by omega,by omega⟩,fun cap hcap=>?_⟩
 obtain ⟨r,rfl⟩:∃ r,cap=1 + (w.length + r):=⟨cap - 1 - w.length,by omega⟩
 refine hK _ ?_;clear hK K
 refine Aw_sq fun B21 hB21 hR21 hX21=>?_
 refine Aw_st hE [6,25,26,27] [424] fun K hK=>?_
 simp only [go_sem,seval]
 refine hK _ ?_;clear hK K
 refine Aw_bk fun B22 hN22 hE22 hR22 hX22=>?_
 refine Aw_unr 3 ?_
 refine Aw_rd fun B23 hN23 hR23 hX23=>?_
 refine Aw_st hE [6,25,26,27,28] [424] fun K hK=>?_
 simp only [go_sem,seval]
 refine hK _ ?_;clear hK K
 refine Aw_sq fun B24 hB24 hR24 hX24=>?_
 refine Aw_yes rfl (Aw_skip (hB24 _ ?_))
 refine Aw_sq fun B26 hB26 hR26 hX26=>?_
 refine Aw_bk fun B27 hN27 hE27 hR27 hX27=>?_
 refine Aw_st hE [6,8,25,26,27] [424] fun K hK=>?_
 simp only [go_sem,seval,hw0]
 repeat refine sd0 ?_
 refine hK _ ?_;clear hK K
 have hset1:setL (List.replicate (1 + (w.length + r)) AV.junk) 0 (List.take 1 (cI [y]))=cI [y]++List.replicate (w.length + r) AV.junk:=by
  rw [setL_at _ _ _ (by simp [cI])]
  have:(List.take 1 (cI [y])).length=1:=rfl
  rw [this,List.drop_replicate,show 1 + (w.length + r) - (0 + 1)=w.length + r by omega]
  rfl
 have hset2:setL (cI [y]++List.replicate (w.length + r) AV.junk) 1 (List.take w.length (cI w))=cI (y::w)++List.replicate r AV.junk:=by
  rw [List.take_of_length_le (by rw [cI_len];exact Nat.le_refl _),setL_at _ _ _ (by simp [cI];omega),cI_len]
  have e1:List.take 1 (cI [y]++List.replicate (w.length + r) AV.junk)=cI [y]:=rfl
  have e2:List.drop (1 + w.length) (cI [y]++List.replicate (w.length + r) AV.junk)=List.replicate r AV.junk:=by
   have:cI [y]++List.replicate (w.length + r) AV.junk=(iv y::List.replicate w.length AV.junk)++List.replicate r AV.junk:=by
    rw [← List.replicate_append_replicate];rfl
   rw [this,List.drop_left' (by simp;omega)]
  rw [e1,e2];rfl
 have hlf1:allLeaf (List.take 1 (cI [y]))=true:=rfl
 have hlf2:allLeaf (List.take w.length (cI w))=true:=by rw [List.take_of_length_le (by rw [cI_len];exact Nat.le_refl _),allLeaf_cI]
 refine Aw_tx hE [6,25,26,27] [424] fun K hK=>?_
 simp only [go_sem,seval,hset1,hlf1]
 refine ⟨⟨rows_row _,by rw [List.length_replicate];exact Nat.le_refl _⟩,fun _=>?_,fun h=>absurd h (by omega)⟩
 refine hK _ (hN27 _ (hB26 _ ?_))
 refine Aw_tx hE [6,25,26,27] [424] fun K hK=>?_
 simp only [go_sem,seval]
 repeat refine sd0 ?_
 refine hK _ (hN23 _ ?_)
 refine Aw_rd fun B28 hN28 hR28 hX28=>?_
 refine Aw_st hE [6,25,26,27,28] [424] fun K hK=>?_
 simp only [go_sem,seval]
 refine hK _ ?_;clear hK K
 refine Aw_sq fun B29 hB29 hR29 hX29=>?_
 refine Aw_yes rfl (Aw_skip (hB29 _ ?_))
 refine Aw_sq fun B31 hB31 hR31 hX31=>?_
 refine Aw_bk fun B32 hN32 hE32 hR32 hX32=>?_
 refine Aw_st hE [6,8,25,26,27] [424] fun K hK=>?_
 simp only [go_sem,seval,hw1]
 repeat refine sd0 ?_
 refine hK _ ?_;clear hK K
 refine Aw_tx hE [6,25,26,27] [424] fun K hK=>?_
 simp only [go_sem,seval,hset2,hlf2]
 refine ⟨⟨rows_row _,by omega,by simp [cI];omega⟩,fun _=>?_,fun h=>absurd h (by omega)⟩
 refine hK _ (hN32 _ (hB31 _ ?_))
 refine Aw_tx hE [6,25,26,27] [424] fun K hK=>?_
 simp only [go_sem,seval]
 repeat refine sd0 ?_
 refine hK _ (hN28 _ ?_)
 refine Aw_rd fun B33 hN33 hR33 hX33=>?_
 refine Aw_st hE [6,25,26,27,28] [424] fun K hK=>?_
 simp only [go_sem,seval]
 refine hK _ ?_;clear hK K
 refine Aw_sq fun B34 hB34 hR34 hX34=>?_
 refine Aw_no rfl (Aw_exit (hX34 _ _ (hX33 _ _ (hE22 _ (hB21 _ ?_)))))
 refine Aw_st hE [2] [424] fun K hK=>?_
 simp only [go_sem,seval]
 refine hK _ ?_
 have hcy:(cI (y::w)++List.replicate r AV.junk).take (1 + w.length)=cI (y::w):=List.take_left' (by rw [cI_len,List.length_cons];omega)
 refine Aw_frz hE rfl 424 (1 + w.length) (ls:=cI (y::w)++List.replicate r AV.junk) (ys:=(y::w).map fun n=>.v (.int .i64 n)) rfl (by rw [hcy];exact ofAll_cI _) ?_
 have hch:chunks 1 (1 + w.length) (List.take (1 + w.length) ((y::w).map fun n=>DV.v (.int .i64 n)))=rows (y::w):=by
  have:=frz_rows (y::w)
  rw [List.length_cons,Nat.add_comm] at this
  exact this
 have hln:1 + w.length≤(w.map fun n=>DV.v (Value.int .i64 n)).length + 1:=by simp;omega
 simp only [go_sem,seval]
 refine Aw_ret (hQ _ ?_)
 simp only [go_sem,seval]
 rw [if_pos hln,show chunks 1 (1 + w.length) (List.take (1 + w.length) (DV.v (.int .i64 y)::w.map fun n=>DV.v (.int .i64 n)))=rows (y::w) from hch]
 rfl
set_option maxRecDepth 10000
def cDRM:Con:={ pre:=codeArg,post:=fun _ r=>∃ (x:Rt) (n:Int),okRt x∧-10≤n∧n≤100∧r = .tup [x.av,iv n] }
theorem cDRM_own:cDRM.own=false:=rfl
theorem cDRM_draws:cDRM.draws=false:=rfl
theorem cDRM_cost:cDRM.cost=0:=rfl
attribute [go_sem] cDRM_own cDRM_draws cDRM_cost
theorem drm_post (args:List AV) (K:AV→Prop):(∀ r,cDRM.post args r→K r)=(∀ (x:Rt) (n:Int),okRt x→-10≤n→n≤100→K (.tup [x.av,iv n])):=by
 apply propext
 exact ⟨fun h x n h1 h2 h3=>h _ ⟨x,n,h1,h2,h3,rfl⟩,fun h r ⟨x,n,h1,h2,h3,e⟩=>e ▸ h x n h1 h2 h3⟩
attribute [go_sem] drm_post

set_option maxRecDepth 100000
structure Cl where
 ci:Int
 n:Int
 f:Int
 b:Int
 ref:Bool
 like:Int
 mark:Int
 clear:Int
def Cl.row (c:Cl):List DV:=[.v (.int .i64 c.ci),.v (.int .i64 c.n),.v (.int .i64 c.f),.v (.int .i64 c.b),.v (.bool c.ref),.v (.int .i64 c.like),.v (.int .i64 c.mark),.v (.int .i64 c.clear)]
abbrev Cl.av (c:Cl):AV:=.agg [iv c.ci,iv c.n,iv c.f,iv c.b,bv c.ref,iv c.like,iv c.mark,iv c.clear]
def crows (l:List Cl):List (List DV):=l.map Cl.row
def rrows (l:List Rt):List (List DV):=l.map Rt.row
def rHas (f b a:Int):Bool:=decide (a.tdiv (szR b)=f.tdiv (szR b))
def rIn (f b f' b':Int):Bool:=decide (b'≤b) && rHas f' b' f
def subOk (ci n f b:Int):Bool :=
 if ci=1 then decide (n=0) && decide (f=0) && decide (b=0)
 else if ci=2 then decide (n=0) && rngOk f b
 else if ci=3 then isM n && decide (f=0) && decide (b=0)
 else if ci=4∨ci=5 then isH n && decide (f=0) && decide (b=0) else false
def clOk (c:Cl):Bool:=(decide (-1≤c.like) && decide (c.like≤9)) && (decide (0≤c.mark) && decide (c.mark≤9)) && (decide (0≤c.clear) && decide (c.clear≤9)) && subOk c.ci c.n c.f c.b
def fitsB (c:Cl) (r:Rt):Bool :=
 if c.ci=2 then rIn r.f r.b c.f c.b
 else if c.ci=3 then r.marks.contains c.n
 else if c.ci=4 then r.path.contains c.n
 else if c.ci=5 then decide ((r.path.length:Int)≤c.n) else true
def okR (r:Rt):Bool:=rtOk r.f r.b r.path r.like r.marks
def marksC (c:Cl) (m:List Int):List Int:=if 0 < c.clear then clL (if 0 < c.mark then mkL m c.mark else m) c.clear else (if 0 < c.mark then mkL m c.mark else m)
def doC (c:Cl) (r:Rt):Rt:=⟨r.f,r.b,r.path,if 0≤c.like then c.like else r.like,marksC c r.marks⟩
def polOk (l:List Cl):Bool:=decide (l.length≤5) && l.all clOk
def polDo:List Cl→Rt→Option Rt
 | [],_=>none
 | c::l,r=>if fitsB c r then (if c.ref then none else some (doC c r)) else polDo l r
def policyDo (l:List Cl) (r:Rt):Option Rt:=if polOk l && okR r then polDo l r else none
theorem okR_parts {r:Rt} (h:okR r=true):rngOk r.f r.b=true∧0 < r.path.length∧pathOk r.path=true∧(0≤r.like∧r.like≤9)∧mOk r.marks=true:=by
 simp only [okR,rtOk,Bool.and_eq_true,dte] at h
 exact ⟨h.1,h.2.1,h.2.2.1,⟨h.2.2.2.1,h.2.2.2.2.1⟩,h.2.2.2.2.2⟩
theorem okR_of {r:Rt} (h1:rngOk r.f r.b=true) (h2:0 < r.path.length) (h3:pathOk r.path=true) (h4:0≤r.like∧r.like≤9) (h5:mOk r.marks=true):okR r=true:=by
 simp only [okR,rtOk,Bool.and_eq_true,dte]
 exact ⟨h1,h2,h3,h4.1,h4.2,h5⟩
def clsL:List (List DV)→Option (List Cl)
 | []=>some []
 | [.v (.int .i64 ci),.v (.int .i64 n),.v (.int .i64 f),.v (.int .i64 b),.v (.bool ref),.v (.int .i64 like),.v (.int .i64 mark),.v (.int .i64 clear)]::l=>match clsL l with
  | some r=>some (⟨ci,n,f,b,ref,like,mark,clear⟩::r)
  | none=>none
 | _=>none
theorem crows_nil:crows []=[]:=rfl
theorem crows_cons (c:Cl) (l:List Cl):crows (c::l)=c.row::crows l:=rfl
theorem clsL_rows (l:List Cl):clsL (crows l)=some l:=by
 induction l with
 | nil=>rfl
 | cons n l ih=>simp only [crows_cons,Cl.row,clsL,ih]
theorem crows_len (l:List Cl):(crows l).length=l.length:=by simp [crows]
theorem crows_app (a b:List Cl):crows a++crows b=crows (a++b):=by simp [crows]
theorem crows_row (l:List Cl):∀ row ∈ crows l,row.length=8:=by simp [crows,Cl.row]
attribute [go_sem] clsL_rows crows_len crows_nil crows_app Cl.row
def rtsL:List (List DV)→Option (List Rt)
 | []=>some []
 | [.v (.int .i64 f),.v (.int .i64 b),.sl e1,.v (.int .i64 like),.sl e2]::l=>match intsL e1,intsL e2,rtsL l with
  | some p,some m,some r=>some (⟨f,b,p,like,m⟩::r)
  | _,_,_=>none
 | _=>none
theorem rrows_nil:rrows []=[]:=rfl
theorem rrows_cons (c:Rt) (l:List Rt):rrows (c::l)=c.row::rrows l:=rfl
theorem rtsL_rows (l:List Rt):rtsL (rrows l)=some l:=by
 induction l with
 | nil=>rfl
 | cons n l ih=>simp only [rrows_cons,Rt.row,rtsL,ih,intsL_rows]
theorem rrows_len (l:List Rt):(rrows l).length=l.length:=by simp [rrows]
theorem rrows_app (a b:List Rt):rrows a++rrows b=rrows (a++b):=by simp [rrows]
theorem rrows_row (l:List Rt):∀ row ∈ rrows l,row.length=5:=by simp [rrows,Rt.row]
attribute [go_sem] rtsL_rows rrows_len rrows_nil rrows_app Rt.row
def cClauseD:Con:={ pre:=fun args=>args=[.rd],post:=fun _ r=>∃ c:Cl,r=c.av,cost:=16,draws:=true }
theorem cClauseD_own:cClauseD.own=false:=rfl
theorem cClauseD_draws:cClauseD.draws=true:=rfl
theorem cClauseD_cost:cClauseD.cost=16:=rfl
attribute [go_sem] cClauseD_own cClauseD_draws cClauseD_cost
theorem clauseD_pre:cClauseD.pre [.rd]=True:=by simp [cClauseD]
theorem clauseD_post (args:List AV) (K:AV→Prop):(∀ r,cClauseD.post args r→K r)=(∀ c:Cl,K c.av):=by
 apply propext
 exact ⟨fun h p=>h _ ⟨p,rfl⟩,fun h r ⟨p,e⟩=>e ▸ h p⟩
theorem clauseD_ex (args:List AV):(∃ r,cClauseD.post args r)=True:=eq_true ⟨_,⟨0,0,0,0,false,0,0,0⟩,rfl⟩
attribute [go_sem] clauseD_pre clauseD_post clauseD_ex
def cPolD:Con:={ pre:=fun args=>args=[.rd],post:=fun _ r=>∃ l:List Cl,l.length≤4∧r = .sl none (crows l),cost:=60,draws:=true }
theorem cPolD_own:cPolD.own=false:=rfl
theorem cPolD_draws:cPolD.draws=true:=rfl
theorem cPolD_cost:cPolD.cost=60:=rfl
attribute [go_sem] cPolD_own cPolD_draws cPolD_cost
theorem polD_pre:cPolD.pre [.rd]=True:=by simp [cPolD]
theorem polD_post (args:List AV) (K:AV→Prop):(∀ r,cPolD.post args r→K r)=(∀ l:List Cl,l.length≤4→K (.sl none (crows l))):=by
 apply propext
 exact ⟨fun h p hp=>h _ ⟨p,hp,rfl⟩,fun h r ⟨p,hp,e⟩=>e ▸ h p hp⟩
theorem polD_ex (args:List AV):(∃ r,cPolD.post args r)=True:=eq_true ⟨_,[],by simp,rfl⟩
attribute [go_sem] polD_pre polD_post polD_ex
def cRtsD:Con:={ pre:=fun args=>∃ n:Int,0≤n∧n≤5∧args=[.rd,iv n],post:=fun _ r=>∃ l:List Rt,(l.length≤5∧∀ x ∈ l,okRt x)∧r = .sl none (rrows l),cost:=201,draws:=true }
theorem cRtsD_own:cRtsD.own=false:=rfl
theorem cRtsD_draws:cRtsD.draws=true:=rfl
theorem cRtsD_cost:cRtsD.cost=201:=rfl
attribute [go_sem] cRtsD_own cRtsD_draws cRtsD_cost
theorem rtsD_pre (n:Int):cRtsD.pre [.rd,iv n]=(0≤n∧n≤5):=by
 apply propext
 simp [cRtsD]
theorem rtsD_post (args:List AV) (K:AV→Prop):(∀ r,cRtsD.post args r→K r)=(∀ l:List Rt,(l.length≤5∧∀ x ∈ l,okRt x)→K (.sl none (rrows l))):=by
 apply propext
 exact ⟨fun h p hp=>h _ ⟨p,hp,rfl⟩,fun h r ⟨p,hp,e⟩=>e ▸ h p hp⟩
theorem rtsD_ex (args:List AV):(∃ r,cRtsD.post args r)=True:=eq_true ⟨_,[],by simp,rfl⟩
attribute [go_sem] rtsD_pre rtsD_post rtsD_ex
def cDPD:Con:={ pre:=codeArg,post:=fun _ r=>∃ (l:List Cl) (x:Rt),l.length≤4∧okRt x∧r = .tup [.sl none (crows l),x.av] }
theorem cDPD_own:cDPD.own=false:=rfl
theorem cDPD_draws:cDPD.draws=false:=rfl
theorem cDPD_cost:cDPD.cost=0:=rfl
attribute [go_sem] cDPD_own cDPD_draws cDPD_cost
theorem dpd_post (args:List AV) (K:AV→Prop):(∀ r,cDPD.post args r→K r)=(∀ (l:List Cl) (x:Rt),l.length≤4→okRt x→K (.tup [.sl none (crows l),x.av])):=by
 apply propext
 exact ⟨fun h x n h1 h2=>h _ ⟨x,n,h1,h2,rfl⟩,fun h r ⟨x,n,h1,h2,e⟩=>e ▸ h x n h1 h2⟩
attribute [go_sem] dpd_post
def cDPA:Con:={ pre:=codeArg,post:=fun _ r=>∃ (l:List Cl) (x:List Rt),l.length≤4∧(x.length≤5∧∀ y ∈ x,okRt y)∧r = .tup [.sl none (crows l),.sl none (rrows x)] }
theorem cDPA_own:cDPA.own=false:=rfl
theorem cDPA_draws:cDPA.draws=false:=rfl
theorem cDPA_cost:cDPA.cost=0:=rfl
attribute [go_sem] cDPA_own cDPA_draws cDPA_cost
theorem dpa_post (args:List AV) (K:AV→Prop):(∀ r,cDPA.post args r→K r)=(∀ (l:List Cl) (x:List Rt),l.length≤4→(x.length≤5∧∀ y ∈ x,okRt y)→K (.tup [.sl none (crows l),.sl none (rrows x)])):=by
 apply propext
 exact ⟨fun h x n h1 h2=>h _ ⟨x,n,h1,h2,rfl⟩,fun h r ⟨x,n,h1,h2,e⟩=>e ▸ h x n h1 h2⟩
attribute [go_sem] dpa_post
def gHas1:List AV→Option (Prop × AV) | [.agg [.v (.int .i64 f),.v (.int .i64 b)],.v (.int .i64 a)]=>some (rngOk f b=true∧0≤a∧a≤255,bv (rHas f b a)) | _=>none
def dHas1:DFn:={ g:=gHas1 }
def gIn1:List AV→Option (Prop × AV) | [.agg [.v (.int .i64 f),.v (.int .i64 b)],.agg [.v (.int .i64 f'),.v (.int .i64 b')]]=>some (rngOk f b=true∧rngOk f' b'=true,bv (rIn f b f' b')) | _=>none
def dIn1:DFn:={ g:=gIn1 }
attribute [go_sem] gHas1 dHas1 gIn1 dIn1
theorem rngOk_parts {f b:Int} (h:rngOk f b=true):(0≤b∧b≤8)∧(0≤f∧f≤255)∧f.tmod (szR b)=0:=by
 simp only [rngOk,Bool.and_eq_true,dte] at h
 exact ⟨⟨h.1,h.2.1⟩,h.2.2.1,h.2.2.2⟩
theorem has1_ok:Fine Tryd.prog 67 dHas1.con:=by
 refine fine_det (T:=TT) Tryd.func67 rfl Tryd.ntmps67 (by rw [Tryd.results67]) rfl rfl tt (gs_nil) (ds_cons size_ok ds_nil) ?_
 intro args c r h hc
 simp only [dHas1,gHas1] at h
 split at h
 rotate_left
 ·cases h
 obtain ⟨rfl,rfl⟩:=Prod.mk.inj (Option.some.inj h)
 refine ⟨by simp,fun k E hE Q hQ=>?_⟩
 rename_i f b a
 obtain ⟨hr,ha1,ha2⟩:=hc
 obtain ⟨⟨hb1,hb2⟩,⟨hf1,hf2⟩,_⟩:=rngOk_parts hr
 obtain ⟨_,_,t1,t2,t3⟩:=tdiv_szR a b ha1 (by omega) hb1 hb2
 obtain ⟨_,_,u1,u2,u3⟩:=tdiv_szR f b hf1 (by omega) hb1 hb2
 refine Aw_st hE [1,2] [2] fun K hK=>?_
 simp only [go_sem,reduceIte,Nat.reduceLT,Nat.reduceLeDiff,Nat.reduceEqDiff,Nat.reduceAdd,Nat.reduceMul,Nat.reduceSub,Nat.reduceBEq,Int.reduceToNat,List.reduceReplicate,reduceCtorEq]
 repeat refine sd0 ?_
 refine hK _ ?_;clear hK K
 refine Aw_sd hE [4] [] 6 (by kernel_rfl) fun K hK=>?_
 simp only [go_sem,reduceIte,Nat.reduceLT,Nat.reduceLeDiff,Nat.reduceEqDiff,Nat.reduceAdd,Nat.reduceMul,Nat.reduceSub,Nat.reduceBEq,Int.reduceToNat,List.reduceReplicate,reduceCtorEq]
 repeat refine sd0 ?_
 repeat' (first | exact t2 | (refine And.intro (by first | omega | exact t2) ?_))
 refine hK _ (Aw_ret (hQ _ ?_))
 simp only [go_sem,reduceIte,Nat.reduceLT,Nat.reduceLeDiff,Nat.reduceEqDiff,Nat.reduceAdd,Nat.reduceMul,Nat.reduceSub,Nat.reduceBEq,Int.reduceToNat,List.reduceReplicate,reduceCtorEq,rHas]
theorem in1_ok:Fine Tryd.prog 62 dIn1.con:=by
 refine fine_det (T:=TT) Tryd.func62 rfl Tryd.ntmps62 (by rw [Tryd.results62]) rfl rfl tt (gs_nil) (ds_cons has1_ok ds_nil) ?_
 intro args c r h hc
 simp only [dIn1,gIn1] at h
 split at h
 rotate_left
 ·cases h
 obtain ⟨rfl,rfl⟩:=Prod.mk.inj (Option.some.inj h)
 refine ⟨by simp,fun k E hE Q hQ=>?_⟩
 rename_i f b f' b'
 obtain ⟨hr,hr'⟩:=hc
 obtain ⟨⟨hb1,hb2⟩,⟨hf1,hf2⟩,_⟩:=rngOk_parts hr
 refine Aw_st hE [2,3] [2,3] fun K hK=>?_
 simp only [go_sem,reduceIte,Nat.reduceLT,Nat.reduceLeDiff,Nat.reduceEqDiff,Nat.reduceAdd,Nat.reduceMul,Nat.reduceSub,Nat.reduceBEq,Int.reduceToNat,List.reduceReplicate,reduceCtorEq]
 repeat refine sd0 ?_
 refine hK _ ?_;clear hK K
 refine Aw_st hE [4] [] fun K hK=>?_
 simp only [go_sem,reduceIte,Nat.reduceLT,Nat.reduceLeDiff,Nat.reduceEqDiff,Nat.reduceAdd,Nat.reduceMul,Nat.reduceSub,Nat.reduceBEq,Int.reduceToNat,List.reduceReplicate,reduceCtorEq]
 repeat refine sd0 ?_
 refine ⟨fun h1=>⟨⟨hr',hf1,hf2⟩,?_⟩,fun h1=>?_⟩
 all_goals
  refine hK _ (Aw_ret (hQ _ ?_))
  simp only [go_sem,reduceIte,Nat.reduceLT,Nat.reduceLeDiff,Nat.reduceEqDiff,Nat.reduceAdd,Nat.reduceMul,Nat.reduceSub,Nat.reduceBEq,Int.reduceToNat,List.reduceReplicate,reduceCtorEq,rIn,h1,Bool.true_and,Bool.false_and]
def gFits:List AV→Option (Prop × AV)
 | [.agg [.v (.int .i64 ci),.v (.int .i64 n),.v (.int .i64 f),.v (.int .i64 b),.v (.bool ref),.v (.int .i64 like),.v (.int .i64 mark),.v (.int .i64 clear)],.agg [.v (.int .i64 rf),.v (.int .i64 rb),.sl _ e1,.v (.int .i64 rk),.sl _ e2]]=>(match intsL e1,intsL e2 with
  | some p,some m=>some ((clOk ⟨ci,n,f,b,ref,like,mark,clear⟩=true∧okR ⟨rf,rb,p,rk,m⟩=true)∧p.length≤1000000∧m.length≤1000000,bv (fitsB ⟨ci,n,f,b,ref,like,mark,clear⟩ ⟨rf,rb,p,rk,m⟩))
  | _,_=>none)
 | _=>none
def dFits:DFn:={ g:=gFits }
def gClOk:List AV→Option (Prop × AV) | [.agg [.v (.int .i64 ci),.v (.int .i64 n),.v (.int .i64 f),.v (.int .i64 b),.v (.bool ref),.v (.int .i64 like),.v (.int .i64 mark),.v (.int .i64 clear)]]=>some (True,bv (clOk ⟨ci,n,f,b,ref,like,mark,clear⟩)) | _=>none
def dClOk:DFn:={ g:=gClOk }
attribute [go_sem] gFits dFits gClOk dClOk
def rt0:Rt:=⟨0,0,[],0,[]⟩
def gPolOk:List AV→Option (Prop × AV) | [.sl _ els]=>(match clsL els with | some l=>some (l.length≤1000000,bv (polOk l)) | none=>none) | _=>none
def dPolOk:DFn:={ g:=gPolOk }
def resR:Option Rt→AV
 | some x=>.tup [x.av,bv true]
 | none=>.tup [rt0.av,bv false]
def gDo:List AV→Option (Prop × AV)
 | [.sl _ els,.agg [.v (.int .i64 rf),.v (.int .i64 rb),.sl _ e1,.v (.int .i64 rk),.sl _ e2]]=>(match clsL els,intsL e1,intsL e2 with
  | some l,some p,some m=>some (((∀ c ∈ l,clOk c=true)∧okR ⟨rf,rb,p,rk,m⟩=true)∧l.length≤1000000∧p.length≤1000000∧m.length≤1000,resR (polDo l ⟨rf,rb,p,rk,m⟩))
  | _,_,_=>none)
 | _=>none
def dDo:DFn:={ g:=gDo }
def gPDo:List AV→Option (Prop × AV)
 | [.sl _ els,.agg [.v (.int .i64 rf),.v (.int .i64 rb),.sl _ e1,.v (.int .i64 rk),.sl _ e2]]=>(match clsL els,intsL e1,intsL e2 with
  | some l,some p,some m=>some (l.length≤1000000∧p.length≤1000000∧m.length≤1000,resR (policyDo l ⟨rf,rb,p,rk,m⟩))
  | _,_,_=>none)
 | _=>none
def dPDo:DFn:={ g:=gPDo }
attribute [go_sem] gPolOk dPolOk gDo dDo gPDo dPDo
def idxB {α:Type} (f:α→Bool):List α→Nat→Int
 | [],_=>-1
 | x::l,k=>if f x then k else idxB f l (k + 1)
theorem idxB_drop {α:Type} {f:α→Bool} {l:List α} {i:Nat} (h:i < l.length):idxB f (l.drop i) i=if f l[i] then (i:Int) else idxB f (l.drop (i + 1)) (i + 1):=by
 rw [List.drop_eq_getElem_cons h,idxB]
theorem idxB_any {α:Type} {f:α→Bool}:∀ (l:List α) (k:Nat),decide (0≤idxB f l k)=l.any f
 | [],_=>rfl
 | x::l,k=>by
  rw [idxB,List.any_cons]
  cases hf:f x with
  | true =>
   rw [if_pos rfl,Bool.true_or]
   exact decide_eq_true (by omega)
  | false =>
   rw [if_neg (by simp),Bool.false_or]
   exact idxB_any l (k + 1)
def gIdxI:List AV→Option (Prop × AV) | [.sl _ els,.v (.int .i64 n)]=>(match intsL els with | some l=>some (l.length≤4294967296,iv (idxB (fun x=>decide (n=x)) l 0)) | none=>none) | _=>none
def dIdxI:DFn:={ g:=gIdxI }
attribute [go_sem] gIdxI dIdxI
def gPHas:List AV→Option (Prop × AV) | [.sl _ els,.v (.int .i64 n)]=>(match intsL els with | some l=>some (l.length≤4294967296,bv (pathOk l && (isH n && l.contains n))) | none=>none) | _=>none
def dPHasI (pb:Addr):DFn:={ g:=gPHas,inv:=WP pb }
attribute [go_sem] gPHas dPHasI
theorem iPHas_ok (pb:Addr):Fine Tryd.prog 43 (dPHasI pb).con:=by
 refine fine_detG [(0,errV pb)] (wp_gl pb) [] ms_nil (T:=TT) Tryd.func43 rfl Tryd.ntmps43 (by rw [Tryd.results43]) rfl rfl tt (gs_cons (trail_ok pb) gs_nil (wp_inh pb)) (ds_cons is_ok (ds_cons thas_ok ds_nil)) ?_
 intro args c r h hc
 simp only [dPHasI,gPHas] at h
 split at h
 rotate_left
 ·cases h
 split at h
 rotate_left
 ·cases h
 rename_i t els n _ p hl
 obtain rfl:=intsL_eq hl
 obtain ⟨rfl,rfl⟩:=Prod.mk.inj (Option.some.inj h)
 refine ⟨by simp,fun k E hE Q hQ=>?_⟩
 have hbd:=setv_bd p
 refine Aw_st hE [0,1] [] fun K hK=>?_
 simp only [go_sem,reduceIte,Nat.reduceLT,Nat.reduceLeDiff,Nat.reduceEqDiff,Nat.reduceAdd,Nat.reduceMul,Nat.reduceSub,Nat.reduceBEq,Int.reduceToNat,List.reduceReplicate,reduceCtorEq]
 repeat refine sd0 ?_
 refine hK _ ?_;clear hK K
 refine Aw_st hE [1,5,6] [5] fun K hK=>?_
 simp only [go_sem,reduceIte,Nat.reduceLT,Nat.reduceLeDiff,Nat.reduceEqDiff,Nat.reduceAdd,Nat.reduceMul,Nat.reduceSub,Nat.reduceBEq,Int.reduceToNat,List.reduceReplicate,reduceCtorEq]
 repeat refine sd0 ?_
 refine ⟨fun hp=>?_,fun hp s=>?_⟩
 all_goals
  refine hK _ ?_;clear hK K
  refine Aw_st hE [4] [] fun K hK=>?_
  simp only [go_sem,reduceIte,Nat.reduceLT,Nat.reduceLeDiff,Nat.reduceEqDiff,Nat.reduceAdd,Nat.reduceMul,Nat.reduceSub,Nat.reduceBEq,Int.reduceToNat,List.reduceReplicate,reduceCtorEq,hp]
  repeat refine sd0 ?_
  skip
  refine hK _ (Aw_ret (hQ _ ?_))
  simp only [go_sem,reduceIte,Nat.reduceLT,Nat.reduceLeDiff,Nat.reduceEqDiff,Nat.reduceAdd,Nat.reduceMul,Nat.reduceSub,Nat.reduceBEq,Int.reduceToNat,List.reduceReplicate,reduceCtorEq,hp,Bool.true_and,Bool.false_and]
  all_goals (cases hh:isH n<;>simp [hh,bitOf_setv])
theorem covers_eq {f b a:Int} (h:rngOk f b=true) (ha:0≤a):(decide (f≤a) && decide (a < f + szR b))=rHas f b a:=by
 obtain ⟨⟨hb1,hb2⟩,⟨hf1,hf2⟩,hm⟩:=rngOk_parts h
 have hs:0 < szR b:=by unfold szR;exact Int.pow_pos (by omega)
 unfold rHas
 generalize szR b=s at hs hm
 rw [Int.tmod_eq_emod_of_nonneg hf1] at hm
 rw [Int.tdiv_eq_ediv_of_nonneg hf1,Int.tdiv_eq_ediv_of_nonneg ha,← Bool.decide_and]
 have e1:=Int.mul_ediv_add_emod f s
 have e2:=Int.mul_ediv_add_emod a s
 have e3:=Int.emod_nonneg a (show s≠0 by omega)
 have e4:=Int.emod_lt_of_pos a hs
 rw [hm] at e1
 generalize f / s=q at e1 ⊢
 generalize a / s=p at e2 ⊢
 generalize a % s=r at e2 e3 e4
 congr 1
 apply propext
 constructor
 ·rintro ⟨h1,h2⟩
  have h3:¬ p < q:=fun hlt=>by
   have:=Int.mul_le_mul_of_nonneg_left (show p + 1≤q by omega) (show 0≤s by omega)
   rw [Int.mul_add,Int.mul_one] at this
   omega
  have h4:¬ q < p:=fun hlt=>by
   have:=Int.mul_le_mul_of_nonneg_left (show q + 1≤p by omega) (show 0≤s by omega)
   rw [Int.mul_add,Int.mul_one] at this
   omega
  omega
 ·intro h
  rw [h] at e2
  omega
def gCov:List AV→Option (Prop × AV) | [.agg [.v (.int .i64 f),.v (.int .i64 b)],.v (.int .i64 a)]=>some (rngOk f b=true∧0≤a∧a≤255,bv (rHas f b a)) | _=>none
def dCov:DFn:={ g:=gCov }
def gRIn:List AV→Option (Prop × AV) | [.agg [.v (.int .i64 f),.v (.int .i64 b)],.agg [.v (.int .i64 f'),.v (.int .i64 b')]]=>some (True,bv (rngOk f b && (rngOk f' b' && rIn f b f' b'))) | _=>none
def dRIn:DFn:={ g:=gRIn }
attribute [go_sem] gCov dCov gRIn dRIn
theorem szR_bd {b:Int} (h1:0≤b) (h2:b≤8):1≤szR b∧szR b≤256:=by
 have:b=0∨b=1∨b=2∨b=3∨b=4∨b=5∨b=6∨b=7∨b=8:=by omega
 rcases this with rfl | rfl | rfl | rfl | rfl | rfl | rfl | rfl | rfl<;>decide
theorem covers_ok:Fine Tryd.prog 61 dCov.con:=by
 refine fine_det (T:=TT) Tryd.func61 rfl Tryd.ntmps61 (by rw [Tryd.results61]) rfl rfl tt (gs_nil) (ds_cons many_ok ds_nil) ?_
 intro args c r h hc
 simp only [dCov,gCov] at h
 split at h
 rotate_left
 ·cases h
 obtain ⟨rfl,rfl⟩:=Prod.mk.inj (Option.some.inj h)
 refine ⟨by simp,fun k E hE Q hQ=>?_⟩
 rename_i f b a
 obtain ⟨hr,ha1,ha2⟩:=hc
 obtain ⟨⟨hb1,hb2⟩,⟨hf1,hf2⟩,_⟩:=rngOk_parts hr
 have hsz:=szR_bd hb1 hb2
 refine Aw_st hE [1,2] [2] fun K hK=>?_
 simp only [go_sem,reduceIte,Nat.reduceLT,Nat.reduceLeDiff,Nat.reduceEqDiff,Nat.reduceAdd,Nat.reduceMul,Nat.reduceSub,Nat.reduceBEq,Int.reduceToNat,List.reduceReplicate,reduceCtorEq]
 repeat refine sd0 ?_
 refine hK _ ?_;clear hK K
 refine Aw_sd hE [4] [] 6 (by kernel_rfl) fun K hK=>?_
 simp only [go_sem,reduceIte,Nat.reduceLT,Nat.reduceLeDiff,Nat.reduceEqDiff,Nat.reduceAdd,Nat.reduceMul,Nat.reduceSub,Nat.reduceBEq,Int.reduceToNat,List.reduceReplicate,reduceCtorEq]
 repeat refine sd0 ?_
 refine ⟨fun h1=>⟨⟨by omega,by omega⟩,⟨by omega,by omega⟩,?_⟩,fun h1=>?_⟩
 all_goals
  refine hK _ (Aw_ret (hQ _ ?_))
  simp only [go_sem,reduceIte,Nat.reduceLT,Nat.reduceLeDiff,Nat.reduceEqDiff,Nat.reduceAdd,Nat.reduceMul,Nat.reduceSub,Nat.reduceBEq,Int.reduceToNat,List.reduceReplicate,reduceCtorEq]
  rw [← covers_eq hr ha1,h1]
  simp
theorem iRIn_ok:Fine Tryd.prog 47 dRIn.con:=by
 refine fine_det (T:=TT) Tryd.func47 rfl Tryd.ntmps47 (by rw [Tryd.results47]) rfl rfl tt (gs_nil) (ds_cons rangeOk_ok (ds_cons covers_ok ds_nil)) ?_
 intro args c r h hc
 simp only [dRIn,gRIn] at h
 split at h
 rotate_left
 ·cases h
 obtain ⟨rfl,rfl⟩:=Prod.mk.inj (Option.some.inj h)
 refine ⟨by simp,fun k E hE Q hQ=>?_⟩
 rename_i f b f' b'
 refine Aw_st hE [2,3] [2,3] fun K hK=>?_
 simp only [go_sem,reduceIte,Nat.reduceLT,Nat.reduceLeDiff,Nat.reduceEqDiff,Nat.reduceAdd,Nat.reduceMul,Nat.reduceSub,Nat.reduceBEq,Int.reduceToNat,List.reduceReplicate,reduceCtorEq]
 repeat refine sd0 ?_
 refine hK _ ?_;clear hK K
 refine Aw_st hE [4] [] fun K hK=>?_
 simp only [go_sem,reduceIte,Nat.reduceLT,Nat.reduceLeDiff,Nat.reduceEqDiff,Nat.reduceAdd,Nat.reduceMul,Nat.reduceSub,Nat.reduceBEq,Int.reduceToNat,List.reduceReplicate,reduceCtorEq]
 repeat refine sd0 ?_
 refine ⟨fun h1=>⟨fun h2=>⟨fun h3=>⟨⟨h2,(rngOk_parts h1).2.1⟩,?_⟩,fun h3=>?_⟩,fun h2=>?_⟩,fun h1=>?_⟩
 all_goals
  refine hK _ (Aw_ret (hQ _ ?_))
  simp only [go_sem,reduceIte,Nat.reduceLT,Nat.reduceLeDiff,Nat.reduceEqDiff,Nat.reduceAdd,Nat.reduceMul,Nat.reduceSub,Nat.reduceBEq,Int.reduceToNat,List.reduceReplicate,reduceCtorEq]
  first | (simp [rIn,h1,h2,h3];done) | (simp [h1,h2];done) | (simp [h1];done) | fail
end Go.Proofs.W
end
