/- YtbjdeohccjmaiaaDoorWa: part of the proof that laws hold, for every input that the row speaks of (no condition of ours). -/
import Derived.Test.YtbjdeohccjmaiaaDoorEc
import Derived.Test.YtbjdeohccjmaiaaDoorEd
import Derived.Test.YtbjdeohccjmaiaaDoorProg
import Derived.KernelRfl
import Derived.BigQuiet
import Derived.Lib.Hide
import Derived.Lib.ItoaLen
import Derived.Test.YtbjdeohccjmaiaaDoorShelf
import Derived.Lib.SmallJoins
import Derived.Lib.IndexMore
import Derived.Lib.IndexBytes
import Derived.Lib.AtoiAllCases
import Derived.ProofKit
import Derived.OpenShut
import Derived.Below
import Derived.ChangeSame
import Derived.Deep.DeepHandedRow
import Derived.Deep.DeepWitnessRowRef
import Derived.Lib.LaidTab
import Derived.Stop.LaidErr
import Derived.WalkKit
import Derived.LaidEql
import Derived.Stop.Asserts
import Derived.RowKitTokens
import Derived.Outline
import Derived.Test.YtbjdeohccjmaiaaDoorChecked
import Derived.Lib.Overlaps
set_option linter.unusedVariables false
set_option linter.unusedSimpArgs false
section
namespace Go.Proofs.W
open Go Go.Eng Go.RowKit
set_option maxRecDepth 20000
abbrev iv (n:Int):AV:=.v (.int .i64 n)
abbrev bv (b:Bool):AV:=.v (.bool b)
def ty2:TyI:={ size:=1,agg:=false,zero:=[.int .i64 0],fields:=[],elem:=none,ik:=some .i64,isb:=false,eq2:=false,iss:=false,ifc:=false,np:=true,emp:=false,ptr:=false }
theorem ok2:TyOk Tryd.prog 2 ty2:=tyOk_of (by kernel_rfl) rfl Tryd.underlying2 rfl rfl rfl rfl rfl rfl (fun h=>by cases h) (fun h=>by cases h) (fun _=>rfl)
def ty3:TyI:={ size:=1,agg:=false,zero:=[.int .i64 0],fields:=[],elem:=none,ik:=some .i64,isb:=false,eq2:=false,iss:=false,ifc:=false,np:=true,emp:=false,ptr:=false }
theorem ok3:TyOk Tryd.prog 3 ty3:=tyOk_of (by kernel_rfl) rfl Tryd.underlying3 rfl rfl rfl rfl rfl rfl (fun h=>by cases h) (fun h=>by cases h) (fun _=>rfl)
def ty4:TyI:={ size:=1,agg:=false,zero:=[.bool false],fields:=[],elem:=none,ik:=none,isb:=true,eq2:=false,iss:=false,ifc:=false,np:=true,emp:=false,ptr:=false }
theorem ok4:TyOk Tryd.prog 4 ty4:=tyOk_of (by kernel_rfl) rfl Tryd.underlying4 rfl rfl rfl rfl rfl rfl (fun h=>by cases h) (fun h=>by cases h) (fun _=>rfl)
def ty5:TyI:={ size:=1,agg:=false,zero:=[.int .u8 0],fields:=[],elem:=none,ik:=some .u8,isb:=false,eq2:=false,iss:=false,ifc:=false,np:=true,emp:=false,ptr:=false }
theorem ok5:TyOk Tryd.prog 5 ty5:=tyOk_of (by kernel_rfl) rfl Tryd.underlying5 rfl rfl rfl rfl rfl rfl (fun h=>by cases h) (fun h=>by cases h) (fun _=>rfl)
def ty9:TyI:={ size:=1,agg:=false,zero:=[.string ⟨#[]⟩],fields:=[],elem:=none,ik:=none,isb:=false,eq2:=false,iss:=true,ifc:=false,np:=true,emp:=false,ptr:=false }
theorem ok9:TyOk Tryd.prog 9 ty9:=tyOk_of (by kernel_rfl) rfl Tryd.underlying9 rfl rfl rfl rfl rfl rfl (fun h=>by cases h) (fun h=>by cases h) (fun _=>rfl)
def ty12:TyI:={ size:=1,agg:=false,zero:=[.int .u64 0],fields:=[],elem:=none,ik:=some .u64,isb:=false,eq2:=false,iss:=false,ifc:=false,np:=true,emp:=false,ptr:=false }
theorem ok12:TyOk Tryd.prog 12 ty12:=tyOk_of (by kernel_rfl) rfl Tryd.underlying12 rfl rfl rfl rfl rfl rfl (fun h=>by cases h) (fun h=>by cases h) (fun _=>rfl)
def ty21:TyI:={ size:=1,agg:=false,zero:=[.int .i32 0],fields:=[],elem:=none,ik:=some .i32,isb:=false,eq2:=false,iss:=false,ifc:=false,np:=true,emp:=false,ptr:=false }
theorem ok21:TyOk Tryd.prog 21 ty21:=tyOk_of (by kernel_rfl) rfl Tryd.underlying21 rfl rfl rfl rfl rfl rfl (fun h=>by cases h) (fun h=>by cases h) (fun _=>rfl)
def ty22:TyI:={ size:=1,agg:=false,zero:=[.slice none 0 0],fields:=[],elem:=some 24,ik:=none,isb:=false,eq2:=false,iss:=false,ifc:=false,np:=true,emp:=false,ptr:=false }
theorem ok22:TyOk Tryd.prog 22 ty22:=tyOk_of (by kernel_rfl) rfl Tryd.underlying22 rfl rfl rfl rfl rfl rfl (fun h=>by cases h) (fun h=>by cases h) (fun _=>rfl)
def ty24:TyI:={ size:=1,agg:=false,zero:=[.slice none 0 0],fields:=[],elem:=some 3,ik:=none,isb:=false,eq2:=false,iss:=false,ifc:=false,np:=true,emp:=false,ptr:=false }
theorem ok24:TyOk Tryd.prog 24 ty24:=tyOk_of (by kernel_rfl) rfl Tryd.underlying24 rfl rfl rfl rfl rfl rfl (fun h=>by cases h) (fun h=>by cases h) (fun _=>rfl)
def ty40:TyI:={ size:=1,agg:=false,zero:=[.pointer none],fields:=[],elem:=none,ik:=none,isb:=false,eq2:=false,iss:=false,ifc:=false,np:=true,emp:=false,ptr:=true }
theorem ok40:TyOk Tryd.prog 40 ty40:=tyOk_of (by kernel_rfl) rfl Tryd.underlying40 rfl rfl rfl rfl rfl rfl (fun h=>by cases h) (fun h=>by cases h) (fun _=>rfl) (h13:=fun _=>⟨_,rfl⟩)
def ty44:TyI:={ size:=1,agg:=false,zero:=[.map none],fields:=[],elem:=none,ik:=none,isb:=false,eq2:=false,iss:=false,ifc:=false,np:=true,emp:=false,ptr:=false,mp:=some (1,.int .i64 0) }
theorem ok44:TyOk Tryd.prog 44 ty44:=tyOk_of (by kernel_rfl) rfl Tryd.underlying44 rfl rfl rfl rfl rfl rfl (fun h=>by cases h) (fun h=>by cases h) (fun _=>rfl) (h14:=fun _ _ h=>by cases h;exact mpTy_couple Tryd.underlying44 (by kernel_rfl) rfl Tryd.underlying67 (by kernel_rfl) (by decide) (by decide) rfl rfl rfl rfl Tryd.underlying3 Tryd.underlying3)
def ty45:TyI:={ size:=2,agg:=true,zero:=[.int .i64 0,.map none],fields:=[(0,3),(1,44)],elem:=none,ik:=none,isb:=false,eq2:=false,iss:=false,ifc:=false,np:=true,emp:=false,ptr:=false }
theorem ok45:TyOk Tryd.prog 45 ty45:=tyOk_of (by kernel_rfl) rfl Tryd.underlying45 rfl rfl rfl rfl rfl rfl (fun h=>by cases h) (fun h=>by cases h) (fun _=>rfl)
def ty46:TyI:={ size:=2,agg:=true,zero:=[.int .i64 0,.map none],fields:=[(0,3),(1,44)],elem:=none,ik:=none,isb:=false,eq2:=false,iss:=false,ifc:=false,np:=true,emp:=false,ptr:=false }
theorem ok46:TyOk Tryd.prog 46 ty46:=tyOk_of (by kernel_rfl) rfl Tryd.underlying46 rfl rfl rfl rfl rfl rfl (fun h=>by cases h) (fun h=>by cases h) (fun _=>rfl)
def ty47:TyI:={ size:=4,agg:=true,zero:=[.int .i64 0,.map none,.int .i64 0,.slice none 0 0],fields:=[(0,46),(2,3),(3,22)],elem:=none,ik:=none,isb:=false,eq2:=false,iss:=false,ifc:=false,np:=true,emp:=false,ptr:=false }
theorem ok47:TyOk Tryd.prog 47 ty47:=tyOk_of (by kernel_rfl) rfl Tryd.underlying47 rfl rfl rfl rfl rfl rfl (fun h=>by cases h) (fun h=>by cases h) (fun _=>rfl)
def ty48:TyI:={ size:=4,agg:=true,zero:=[.int .i64 0,.map none,.int .i64 0,.slice none 0 0],fields:=[(0,46),(2,3),(3,22)],elem:=none,ik:=none,isb:=false,eq2:=false,iss:=false,ifc:=false,np:=true,emp:=false,ptr:=false }
theorem ok48:TyOk Tryd.prog 48 ty48:=tyOk_of (by kernel_rfl) rfl Tryd.underlying48 rfl rfl rfl rfl rfl rfl (fun h=>by cases h) (fun h=>by cases h) (fun _=>rfl)
def ty66:TyI:={ size:=2,agg:=true,zero:=[.int .i64 0,.int .i64 0],fields:=[(0,3),(1,3)],elem:=none,ik:=none,isb:=false,eq2:=true,iss:=false,ifc:=false,np:=true,emp:=false,ptr:=false }
theorem ok66:TyOk Tryd.prog 66 ty66:=tyOk_of (by kernel_rfl) rfl Tryd.underlying66 rfl rfl rfl rfl rfl rfl (fun _=>eq2_of Tryd.underlying66 (by kernel_rfl) (by kernel_rfl) (by decide) (by decide) rfl rfl rfl rfl Tryd.underlying3 Tryd.underlying3) (fun h=>by cases h) (fun _=>rfl)
def ty67:TyI:={ size:=2,agg:=true,zero:=[.int .i64 0,.int .i64 0],fields:=[(0,3),(1,3)],elem:=none,ik:=none,isb:=false,eq2:=true,iss:=false,ifc:=false,np:=true,emp:=false,ptr:=false }
theorem ok67:TyOk Tryd.prog 67 ty67:=tyOk_of (by kernel_rfl) rfl Tryd.underlying67 rfl rfl rfl rfl rfl rfl (fun _=>eq2_of Tryd.underlying67 (by kernel_rfl) (by kernel_rfl) (by decide) (by decide) rfl rfl rfl rfl Tryd.underlying3 Tryd.underlying3) (fun h=>by cases h) (fun _=>rfl)
def ty74:TyI:={ size:=1,agg:=false,zero:=[.int .u64 0],fields:=[],elem:=none,ik:=some .u64,isb:=false,eq2:=false,iss:=false,ifc:=false,np:=true,emp:=false,ptr:=false }
theorem ok74:TyOk Tryd.prog 74 ty74:=tyOk_of (by kernel_rfl) rfl Tryd.underlying74 rfl rfl rfl rfl rfl rfl (fun h=>by cases h) (fun h=>by cases h) (fun _=>rfl)
def ty75:TyI:={ size:=2,agg:=true,zero:=[.int .u64 0,.slice none 0 0],fields:=[(0,74),(1,24)],elem:=none,ik:=none,isb:=false,eq2:=false,iss:=false,ifc:=false,np:=true,emp:=false,ptr:=false }
theorem ok75:TyOk Tryd.prog 75 ty75:=tyOk_of (by kernel_rfl) rfl Tryd.underlying75 rfl rfl rfl rfl rfl rfl (fun h=>by cases h) (fun h=>by cases h) (fun _=>rfl)
def ty76:TyI:={ size:=2,agg:=true,zero:=[.int .u64 0,.slice none 0 0],fields:=[(0,74),(1,24)],elem:=none,ik:=none,isb:=false,eq2:=false,iss:=false,ifc:=false,np:=true,emp:=false,ptr:=false }
theorem ok76:TyOk Tryd.prog 76 ty76:=tyOk_of (by kernel_rfl) rfl Tryd.underlying76 rfl rfl rfl rfl rfl rfl (fun h=>by cases h) (fun h=>by cases h) (fun _=>rfl)
def ty78:TyI:={ size:=1,agg:=false,zero:=[.nilIface],fields:=[],elem:=none,ik:=none,isb:=false,eq2:=false,iss:=false,ifc:=true,np:=false,emp:=false,ptr:=false }
theorem ok78:TyOk Tryd.prog 78 ty78:=tyOk_of (by kernel_rfl) rfl Tryd.underlying78 rfl rfl rfl rfl rfl rfl (fun h=>by cases h) (fun _=>rfl)
def ty90:TyI:={ size:=1,agg:=false,zero:=[.slice none 0 0],fields:=[],elem:=some 78,ik:=none,isb:=false,eq2:=false,iss:=false,ifc:=false,np:=true,emp:=false,ptr:=false }
theorem ok90:TyOk Tryd.prog 90 ty90:=tyOk_of (by kernel_rfl) rfl Tryd.underlying90 rfl rfl rfl rfl rfl rfl (fun h=>by cases h) (fun h=>by cases h) (fun _=>rfl)
def ty91:TyI:={ size:=1,agg:=false,zero:=[.pointer none],fields:=[],elem:=none,ik:=none,isb:=false,eq2:=false,iss:=false,ifc:=false,np:=true,emp:=false,ptr:=true }
theorem ok91:TyOk Tryd.prog 91 ty91:=tyOk_of (by kernel_rfl) rfl Tryd.underlying91 rfl rfl rfl rfl rfl rfl (fun h=>by cases h) (fun h=>by cases h) (fun _=>rfl) (h13:=fun _=>⟨_,rfl⟩)
def ty92:TyI:={ size:=1,agg:=true,zero:=[.slice none 0 0],fields:=[(0,90)],elem:=none,ik:=none,isb:=false,eq2:=false,iss:=false,ifc:=false,np:=true,emp:=false,ptr:=false }
theorem ok92:TyOk Tryd.prog 92 ty92:=tyOk_of (by kernel_rfl) rfl Tryd.underlying92 rfl rfl rfl rfl rfl rfl (fun h=>by cases h) (fun h=>by cases h) (fun _=>rfl)
def ty93:TyI:={ size:=1,agg:=true,zero:=[.slice none 0 0],fields:=[(0,90)],elem:=none,ik:=none,isb:=false,eq2:=false,iss:=false,ifc:=false,np:=true,emp:=false,ptr:=false }
theorem ok93:TyOk Tryd.prog 93 ty93:=tyOk_of (by kernel_rfl) rfl Tryd.underlying93 rfl rfl rfl rfl rfl rfl (fun h=>by cases h) (fun h=>by cases h) (fun _=>rfl)
def ty94:TyI:={ size:=1,agg:=false,zero:=[.pointer none],fields:=[],elem:=none,ik:=none,isb:=false,eq2:=false,iss:=false,ifc:=false,np:=true,emp:=false,ptr:=true }
theorem ok94:TyOk Tryd.prog 94 ty94:=tyOk_of (by kernel_rfl) rfl Tryd.underlying94 rfl rfl rfl rfl rfl rfl (fun h=>by cases h) (fun h=>by cases h) (fun _=>rfl) (h13:=fun _=>⟨_,rfl⟩)
def ty95:TyI:={ size:=1,agg:=true,zero:=[.string ⟨#[]⟩],fields:=[(0,9)],elem:=none,ik:=none,isb:=false,eq2:=false,iss:=false,ifc:=false,np:=true,emp:=false,ptr:=false }
theorem ok95:TyOk Tryd.prog 95 ty95:=tyOk_of (by kernel_rfl) rfl Tryd.underlying95 rfl rfl rfl rfl rfl rfl (fun h=>by cases h) (fun h=>by cases h) (fun _=>rfl)
def ty96:TyI:={ size:=1,agg:=true,zero:=[.string ⟨#[]⟩],fields:=[(0,9)],elem:=none,ik:=none,isb:=false,eq2:=false,iss:=false,ifc:=false,np:=true,emp:=false,ptr:=false }
theorem ok96:TyOk Tryd.prog 96 ty96:=tyOk_of (by kernel_rfl) rfl Tryd.underlying96 rfl rfl rfl rfl rfl rfl (fun h=>by cases h) (fun h=>by cases h) (fun _=>rfl)
def ty109:TyI:={ size:=1,agg:=false,zero:=[.int .u64 0],fields:=[],elem:=none,ik:=some .u64,isb:=false,eq2:=false,iss:=false,ifc:=false,np:=true,emp:=false,ptr:=false }
theorem ok109:TyOk Tryd.prog 109 ty109:=tyOk_of (by kernel_rfl) rfl Tryd.underlying109 rfl rfl rfl rfl rfl rfl (fun h=>by cases h) (fun h=>by cases h) (fun _=>rfl)
def ty112:TyI:={ size:=1,agg:=false,zero:=[.slice none 0 0],fields:=[],elem:=some 5,ik:=none,isb:=false,eq2:=false,iss:=false,ifc:=false,np:=true,emp:=false,ptr:=false }
theorem ok112:TyOk Tryd.prog 112 ty112:=tyOk_of (by kernel_rfl) rfl Tryd.underlying112 rfl rfl rfl rfl rfl rfl (fun h=>by cases h) (fun h=>by cases h) (fun _=>rfl)
def ty117:TyI:={ size:=1,agg:=false,zero:=[.int .u32 0],fields:=[],elem:=none,ik:=some .u32,isb:=false,eq2:=false,iss:=false,ifc:=false,np:=true,emp:=false,ptr:=false }
theorem ok117:TyOk Tryd.prog 117 ty117:=tyOk_of (by kernel_rfl) rfl Tryd.underlying117 rfl rfl rfl rfl rfl rfl (fun h=>by cases h) (fun h=>by cases h) (fun _=>rfl)
def ty133:TyI:={ size:=1,agg:=false,zero:=[.pointer none],fields:=[],elem:=none,ik:=none,isb:=false,eq2:=false,iss:=false,ifc:=false,np:=true,emp:=false,ptr:=true }
theorem ok133:TyOk Tryd.prog 133 ty133:=tyOk_of (by kernel_rfl) rfl Tryd.underlying133 rfl rfl rfl rfl rfl rfl (fun h=>by cases h) (fun h=>by cases h) (fun _=>rfl) (h13:=fun _=>⟨_,rfl⟩)
def ty149:TyI:={ size:=1,agg:=false,zero:=[.int .u16 0],fields:=[],elem:=none,ik:=some .u16,isb:=false,eq2:=false,iss:=false,ifc:=false,np:=true,emp:=false,ptr:=false }
theorem ok149:TyOk Tryd.prog 149 ty149:=tyOk_of (by kernel_rfl) rfl Tryd.underlying149 rfl rfl rfl rfl rfl rfl (fun h=>by cases h) (fun h=>by cases h) (fun _=>rfl)
def TT:List (TypeId × TyI):=[(2,ty2),(3,ty3),(4,ty4),(5,ty5),(9,ty9),(12,ty12),(21,ty21),(22,ty22),(24,ty24),(40,ty40),(44,ty44),(45,ty45),(46,ty46),(47,ty47),(48,ty48),(66,ty66),(67,ty67),(74,ty74),(75,ty75),(76,ty76),(78,ty78),(90,ty90),(91,ty91),(92,ty92),(93,ty93),(94,ty94),(95,ty95),(96,ty96),(109,ty109),(112,ty112),(117,ty117),(133,ty133),(149,ty149)]
theorem tt:TysOk Tryd.prog TT:=tysOk_cons ok2 (tysOk_cons ok3 (tysOk_cons ok4 (tysOk_cons ok5 (tysOk_cons ok9 (tysOk_cons ok12 (tysOk_cons ok21 (tysOk_cons ok22 (tysOk_cons ok24 (tysOk_cons ok40 (tysOk_cons ok44 (tysOk_cons ok45 (tysOk_cons ok46 (tysOk_cons ok47 (tysOk_cons ok48 (tysOk_cons ok66 (tysOk_cons ok67 (tysOk_cons ok74 (tysOk_cons ok75 (tysOk_cons ok76 (tysOk_cons ok78 (tysOk_cons ok90 (tysOk_cons ok91 (tysOk_cons ok92 (tysOk_cons ok93 (tysOk_cons ok94 (tysOk_cons ok95 (tysOk_cons ok96 (tysOk_cons ok109 (tysOk_cons ok112 (tysOk_cons ok117 (tysOk_cons ok133 (tysOk_cons ok149 tysOk_nil))))))))))))))))))))))))))))))))
theorem tyk2:tyk 2 TT=some ty2:=rfl
theorem tyk3:tyk 3 TT=some ty3:=rfl
theorem tyk4:tyk 4 TT=some ty4:=rfl
theorem tyk5:tyk 5 TT=some ty5:=rfl
theorem tyk9:tyk 9 TT=some ty9:=rfl
theorem tyk12:tyk 12 TT=some ty12:=rfl
theorem tyk21:tyk 21 TT=some ty21:=rfl
theorem tyk22:tyk 22 TT=some ty22:=rfl
theorem tyk24:tyk 24 TT=some ty24:=rfl
theorem tyk40:tyk 40 TT=some ty40:=rfl
theorem tyk44:tyk 44 TT=some ty44:=rfl
theorem tyk45:tyk 45 TT=some ty45:=rfl
theorem tyk46:tyk 46 TT=some ty46:=rfl
theorem tyk47:tyk 47 TT=some ty47:=rfl
theorem tyk48:tyk 48 TT=some ty48:=rfl
theorem tyk66:tyk 66 TT=some ty66:=rfl
theorem tyk67:tyk 67 TT=some ty67:=rfl
theorem tyk74:tyk 74 TT=some ty74:=rfl
theorem tyk75:tyk 75 TT=some ty75:=rfl
theorem tyk76:tyk 76 TT=some ty76:=rfl
theorem tyk78:tyk 78 TT=some ty78:=rfl
theorem tyk90:tyk 90 TT=some ty90:=rfl
theorem tyk91:tyk 91 TT=some ty91:=rfl
theorem tyk92:tyk 92 TT=some ty92:=rfl
theorem tyk93:tyk 93 TT=some ty93:=rfl
theorem tyk94:tyk 94 TT=some ty94:=rfl
theorem tyk95:tyk 95 TT=some ty95:=rfl
theorem tyk96:tyk 96 TT=some ty96:=rfl
theorem tyk109:tyk 109 TT=some ty109:=rfl
theorem tyk112:tyk 112 TT=some ty112:=rfl
theorem tyk117:tyk 117 TT=some ty117:=rfl
theorem tyk133:tyk 133 TT=some ty133:=rfl
theorem tyk149:tyk 149 TT=some ty149:=rfl
attribute [go_sem] ty2 tyk2 ty3 tyk3 ty4 tyk4 ty5 tyk5 ty9 tyk9 ty12 tyk12 ty21 tyk21 ty22 tyk22 ty24 tyk24 ty40 tyk40 ty44 tyk44 ty45 tyk45 ty46 tyk46 ty47 tyk47 ty48 tyk48 ty66 tyk66 ty67 tyk67 ty74 tyk74 ty75 tyk75 ty76 tyk76 ty78 tyk78 ty90 tyk90 ty91 tyk91 ty92 tyk92 ty93 tyk93 ty94 tyk94 ty95 tyk95 ty96 tyk96 ty109 tyk109 ty112 tyk112 ty117 tyk117 ty133 tyk133 ty149 tyk149
set_option maxRecDepth 10000
theorem mod_lt (a:Int) (l:Nat) (ha:0≤a) (hl:0 < l):(a.tmod (l:Int)).toNat < l:=by
 rw [Int.tmod_eq_emod_of_nonneg ha]
 have:=Int.emod_lt_of_pos a (show (0:Int) < l by omega)
 have:=Int.emod_nonneg a (show (l:Int)≠0 by omega)
 omega
set_option maxRecDepth 100000
def cPick:Con:={ pre:=fun args=>∃ n:Int,args=[.rd,iv n],post:=fun args r=>∀ n:Int,args=[.rd,iv n]→∃ x:Int,r=iv x∧0≤x∧(x < n∨x=0),cost:=1,draws:=true }
theorem cPick_own:cPick.own=false:=rfl
theorem cPick_draws:cPick.draws=true:=rfl
theorem cPick_cost:cPick.cost=1:=rfl
attribute [go_sem] cPick_own cPick_draws cPick_cost


set_option maxRecDepth 10000
def szR (b:Int):Int:=2 ^ (8 - b).toNat
def rngOk (f b:Int):Bool:=decide (0≤b) && (decide (b≤8) && ((decide (0≤f) && decide (f≤255)) && decide (f.tmod (szR b)=0)))
def gIsAddr:List AV→Option (Prop × AV) | [.v (.int .i64 n)]=>some (True,bv (decide (0≤n) && decide (n≤255))) | _=>none
def dIsAddr:DFn:={ g:=gIsAddr }
def gMany:List AV→Option (Prop × AV) | [.agg [.v (.int .i64 _),.v (.int .i64 b)]]=>some (0≤b∧b≤8,iv (szR b)) | _=>none
def dMany:DFn:={ g:=gMany }
def gRangeOk:List AV→Option (Prop × AV) | [.agg [.v (.int .i64 f),.v (.int .i64 b)]]=>some (True,bv (rngOk f b)) | _=>none
def dRangeOk:DFn:={ g:=gRangeOk }
def gIn:List AV→Option (Prop × AV) | [.v (.int .i64 x),.v (.int .i64 a),.v (.int .i64 b)]=>some (True,bv (decide (a≤x) && decide (x≤b))) | _=>none
def dIn:DFn:={ g:=gIn }
def gSize:List AV→Option (Prop × AV) | [.v (.int .i64 b)]=>some (0≤b∧b≤8,iv (szR b)) | _=>none
def dSize:DFn:={ g:=gSize }
attribute [go_sem] gIsAddr dIsAddr gMany dMany gRangeOk dRangeOk gIn dIn gSize dSize
theorem in_ok:Fine Tryd.prog 26 dIn.con:=by
 refine fine_det (T:=TT) Tryd.func26 rfl Tryd.ntmps26 (by rw [Tryd.results26]) rfl rfl tt (gs_nil) (ds_nil) ?_
 intro args c r h hc
 simp only [dIn,gIn] at h
 split at h
 rotate_left
 ·cases h
 obtain ⟨rfl,rfl⟩:=Prod.mk.inj (Option.some.inj h)
 refine ⟨by simp,fun k E hE Q hQ=>?_⟩
 refine Aw_st hE [0,1,2] [] fun K hK=>?_
 simp only [go_sem,reduceIte,Nat.reduceLT,Nat.reduceLeDiff,Nat.reduceEqDiff,Nat.reduceAdd,Nat.reduceMul,Nat.reduceSub,Nat.reduceBEq,Int.reduceToNat,List.reduceReplicate,reduceCtorEq]
 refine hK _ ?_
 clear hK K
 refine Aw_st hE [6] [] fun K hK=>?_
 simp only [go_sem,reduceIte,Nat.reduceLT,Nat.reduceLeDiff,Nat.reduceEqDiff,Nat.reduceAdd,Nat.reduceMul,Nat.reduceSub,Nat.reduceBEq,Int.reduceToNat,List.reduceReplicate,reduceCtorEq]
 refine ⟨fun h1=>hK _ (Aw_ret (hQ _ ?_)),fun h1=>hK _ (Aw_ret (hQ _ ?_))⟩<;>simp only [go_sem,reduceIte,Nat.reduceLT,Nat.reduceLeDiff,Nat.reduceEqDiff,Nat.reduceAdd,Nat.reduceMul,Nat.reduceSub,Nat.reduceBEq,Int.reduceToNat,List.reduceReplicate,reduceCtorEq,h1,Bool.true_and,Bool.false_and]
abbrev sv (l:List UInt8):AV:=.v (.string ⟨l.toArray⟩)
theorem sz_mk (a:List UInt8):(ByteArray.mk a.toArray).size=a.length:=by simp [ByteArray.size]
theorem dec_len (n:Nat) (h:n < 4611686018427387904):(Lib.decDigits n).length≤21:=by
 have:=Lib.itoa_length_le (n:Int) (by omega) (by omega)
 rwa [Lib.itoa_nonneg] at this
def gDecK (k:Nat):List AV→Option (Prop × AV) | [.v (.int .i64 n)]=>some (0≤n∧n < k∧n < 4611686018427387904,sv (Lib.decDigits n.toNat)) | _=>none
def dDecK (k:Nat):DFn:={ g:=gDecK k }
attribute [go_sem] gDecK dDecK
def dDec:DFn:=dDecK 4611686018427387904
attribute [go_sem] dDec
def rngText (f b:Int):List UInt8:=Lib.decDigits f.toNat++47::Lib.decDigits b.toNat
def gText1:List AV→Option (Prop × AV) | [.agg [.v (.int .i64 f),.v (.int .i64 b)]]=>some (0≤f∧f≤255∧0≤b∧b≤8,sv (rngText f b)) | _=>none
def dText1:DFn:={ g:=gText1 }
def gRText:List AV→Option (Prop × AV) | [.agg [.v (.int .i64 f),.v (.int .i64 b)]]=>some (True,sv (bif rngOk f b then rngText f b else [])) | _=>none
def dRText:DFn:={ g:=gRText }
attribute [go_sem] gText1 dText1 gRText dRText
theorem pick_pre (n:Int):cPick.pre [.rd,iv n]=True:=by simp [cPick]
theorem pick_post (n:Int) (K:AV→Prop):(∀ r,cPick.post [.rd,iv n] r→K r)=(∀ x:Int,0≤x→(x < n∨x=0)→K (iv x)):=by
 apply propext
 constructor
 ·intro h x h1 h2
  refine h _ fun m hm=>?_
  simp only [List.cons.injEq,AV.v.injEq,Value.int.injEq,true_and,and_true] at hm
  subst hm
  exact ⟨x,rfl,h1,h2⟩
 ·intro h r hr
  obtain ⟨x,rfl,h1,h2⟩:=hr n rfl
  exact h x h1 h2
theorem pick_ex (n:Int):(∃ r,cPick.post [.rd,iv n] r)=True:=by
 refine eq_true ⟨iv 0,fun m hm=>⟨0,rfl,by omega,.inr rfl⟩⟩
attribute [go_sem] pick_pre pick_post pick_ex lim
def okRng (f b:Int):Prop:=-2≤f∧f≤257∧-1≤b∧b≤9
instance (f b:Int):Decidable (okRng f b):=by unfold okRng;infer_instance
def cRange:Con:={ pre:=fun args=>args=[.rd],post:=fun _ r=>∃ f b:Int,okRng f b∧r = .agg [iv f,iv b],cost:=8,draws:=true }
theorem cRange_own:cRange.own=false:=rfl
theorem cRange_draws:cRange.draws=true:=rfl
theorem cRange_cost:cRange.cost=8:=rfl
attribute [go_sem] cRange_own cRange_draws cRange_cost
theorem range_pre:cRange.pre [.rd]=True:=by simp [cRange]
theorem range_post (args:List AV) (K:AV→Prop):(∀ r,cRange.post args r→K r)=(∀ f b:Int,okRng f b→K (.agg [iv f,iv b])):=by
 apply propext
 exact ⟨fun h f b hk=>h _ ⟨f,b,hk,rfl⟩,fun h r ⟨f,b,hk,e⟩=>e ▸ h f b hk⟩
theorem range_ex (args:List AV):(∃ r,cRange.post args r)=True:=eq_true ⟨_,0,0,by decide,rfl⟩
attribute [go_sem] range_pre range_post range_ex
structure WTab (w:World):Prop where
 tab:Lib.TabIs Tryd.prog w "internal/strconv.uint64pow10" .u64 Lib.pow10Tab
theorem wtab_inh:Inh WTab WTab false:=fun _ _ _ h hg=>⟨var_grown hg h.tab⟩
def gItoa:List AV→Option (Prop × AV) | [.v (.int .i64 n)]=>some (0≤n∧n≤9223372036854775807,sv (Lib.decDigits n.toNat)) | _=>none
def dItoa:DFn:={ g:=gItoa,inv:=WTab }
def dRTextI:DFn:={ g:=gRText,inv:=WTab }
attribute [go_sem] gItoa dItoa dRTextI
theorem itoa_ok:Fine Tryd.prog 76 dItoa.con:=by
 refine lib_fine ⟨_,Tryd.func76,rfl,rfl⟩ ?_
 intro args c r h hc
 simp only [dItoa,gItoa] at h
 split at h
 rotate_left
 ·cases h
 rename_i n
 obtain ⟨rfl,rfl⟩:=Prod.mk.inj (Option.some.inj h)
 refine ⟨[.int .i64 n],.string ⟨(Lib.decDigits n.toNat).toArray⟩,rfl,fun c0=>.v _ rfl,fun w hw=>?_⟩
 refine (Tryd.strconv_Itoa n (by omega) (by omega) w hw.tab).mono ?_
 rintro e w' ⟨rfl,k,os,rfl⟩
 refine ⟨?_,grownBy_grow w k os⟩
 obtain ⟨u,rfl⟩:=Int.eq_ofNat_of_zero_le hc.1
 rw [Lib.itoa_nonneg,Int.toNat_natCast]
end Go.Proofs.W
end
section
namespace Go.Proofs.W
open Go
def val (l:List UInt8):Nat:=l.foldl (fun a c=>10 * a + (c.toNat - 48)) 0
def numGo:List UInt8→Int→Int
 | [],n=>n
 | c::l,n=>if c.toNat < 48∨57 < c.toNat then -1 else numGo l (10 * n + ((c.toNat:Int) - 48))
def num3 (l:List UInt8):Int:=if 1≤l.length∧l.length≤3 then numGo l 0 else -1
end Go.Proofs.W
end
section
namespace Go.Proofs.W
open Go Go.Eng Go.RowKit
set_option maxRecDepth 10000

theorem mk_extract (l:List UInt8) (i j:Nat):(ByteArray.mk l.toArray).extract i j=⟨((l.take j).drop i).toArray⟩:=by
 apply ByteArray.ext
 rw [ByteArray.data_extract]
 simp [List.drop_take]
theorem mk_get (l:List UInt8) (i:Nat):l.toArray.getD i 0=l.getD i 0:=by
 simp [Array.getD_eq_getD_getElem?,List.getD_eq_getElem?_getD]
theorem mk_toList (l:List UInt8):(ByteArray.mk l.toArray).toList=l:=by rw [ByteArray.toList_eq]
attribute [go_sem] mk_extract mk_get mk_toList sz_mk
def gNum:List AV→Option (Prop × AV) | [.v (.string s)]=>some (True,iv (num3 s.data.toList)) | _=>none
def dNum:DFn:={ g:=gNum }
attribute [go_sem] gNum dNum
def gCut:List AV→Option (Prop × AV) | [.v (.string s),.v (.string p)]=>some (s.size < 4294967281,.tup [sv (Lib.cut s.data.toList p.data.toList).1,sv (Lib.cut s.data.toList p.data.toList).2.1,bv (Lib.cut s.data.toList p.data.toList).2.2]) | _=>none
attribute [go_sem] gCut
def codeArg (args:List AV):Prop:=∃ bs:List Nat,(∀ b ∈ bs,b < 256)∧args=[.sl none (byteRows bs)]
def cDRange:Con:={ pre:=codeArg,post:=fun _ r=>∃ f b:Int,okRng f b∧r = .agg [iv f,iv b] }
theorem cDRange_own:cDRange.own=false:=rfl
theorem cDRange_draws:cDRange.draws=false:=rfl
theorem cDRange_cost:cDRange.cost=0:=rfl
attribute [go_sem] cDRange_own cDRange_draws cDRange_cost
theorem drange_post (args:List AV) (K:AV→Prop):(∀ r,cDRange.post args r→K r)=(∀ f b:Int,okRng f b→K (.agg [iv f,iv b])):=by
 apply propext
 exact ⟨fun h f b hk=>h _ ⟨f,b,hk,rfl⟩,fun h r ⟨f,b,hk,e⟩=>e ▸ h f b hk⟩
attribute [go_sem] drange_post

end Go.Proofs.W
end
section
namespace Go.Proofs.W
open Go Go.Eng Go.RowKit Go.WideShapes Go.ChangeShapes
set_option maxRecDepth 100000
theorem post_below {H:Type} {enc:TypeId × Value→H} {P:Program} {f:Func} {s:ChangeSpec} {apart fresh handsOn again:Bool} {W W':World} {args:Array Value} {v:Value} {ds gs:List (DataW H)} {before pa pv:List MemPlace}
  (hW:DataW.Whole enc P f.params.toList s.vars apart W args.toList ds gs before)
  (hres:∀ (b:Nat) (sp:Nat→Bool) (hd:Bool),DataW.TrodAll enc P W' b sp hd f.resultTypes.toList (v.resultList f.resultTypes.size) (s.fn H (ds++gs)).results [])
  (hargs:∀ sp:Nat→Bool,(∀ p ∈ before,sp p.block=true)→DataW.TrodAll enc P W' 0 sp true f.params.toList args.toList (s.fn H (ds++gs)).args pa)
  (hvars:∀ sp:Nat→Bool,(∀ p ∈ before,sp p.block=true)→DataW.TrodVars enc P W' sp s.vars (s.fn H (ds++gs)).vars pv)
  (hps:before=pa++pv) (hb:Below W.heap.size W W')
  (hok:∀ (j:Nat) (t:TypeId) (r:Value),f.resultTypes[j]? = some t→(v.resultList f.resultTypes.size)[j]? = some r→Value.okWide P W' .any 0 t r) :
  s.post enc P f apart fresh handsOn again W args v W':=by
 have hlt:∀ p ∈ before,p.block < W.heap.size:=fun p hp=>hW.lt p hp
 have hold:∀ p ∈ before,(fun b=>decide (b < W.heap.size)) p.block=true:=fun p hp=>by simpa using hlt p hp
 refine ⟨ds,gs,before,[],pa,pv,hW,hres _ _ _,hargs _ hold,hvars _ hold,World.keptBut_mono (fun p hp=>⟨hp,?_⟩) (hb.frame (· ∈ before)),fun _=>?_⟩
 ·rw [hps,List.mem_append] at hp
  exact Or.inr hp
 ·obtain ⟨_,_,_,_,_,hz,hn⟩:=hW
  refine ⟨hok,_,_,([]++pa)++pv,⟨[]++pa,pv,trodAll_append (hargs _ (fun _ _=>rfl)) (hres _ _ _),hvars _ (fun _ _=>rfl),rfl,?_,?_⟩,?_⟩
  ·intro b off hp
   have hin:MemPlace.cell b off ∈ before:=by rw [hps];simpa using hp
   rw [hb.frozen (hlt _ hin)]
   exact hz b off hin
  ·intro ha
   have:=hn ha
   rw [hps] at this
   simpa using this
  ·intro p hp _
   rw [hps]
   simpa using hp
end Go.Proofs.W
end
section
namespace Go.Proofs.W
open Go Go.Eng Go.RowKit
set_option maxRecDepth 10000
def rows (l:List Int):List (List DV):=l.map fun n=>[DV.v (.int .i64 n)]
abbrev isl (l:List Int):AV:=.sl none (rows l)
def intsL:List (List DV)→Option (List Int)
 | []=>some []
 | [.v (.int .i64 n)]::l=>match intsL l with
  | some r=>some (n::r)
  | none=>none
 | _=>none
theorem rows_nil:rows []=[]:=rfl
theorem rows_cons (n:Int) (l:List Int):rows (n::l)=[DV.v (.int .i64 n)]::rows l:=rfl
theorem intsL_rows (l:List Int):intsL (rows l)=some l:=by
 induction l with
 | nil=>rfl
 | cons n l ih=>simp only [rows_cons,intsL,ih]
theorem intsL_eq {els:List (List DV)}:∀ {l:List Int},intsL els=some l→els=rows l:=by
 induction els with
 | nil=>intro l h;obtain rfl:=Option.some.inj h;rfl
 | cons row els ih =>
  intro l h
  unfold intsL at h
  split at h
  ·rename_i e;cases e
  ·rename_i n l' e
   obtain ⟨rfl,rfl⟩:=List.cons.inj e
   split at h
   ·rename_i r hr
    obtain rfl:=Option.some.inj h
    rw [ih hr];rfl
   ·cases h
  ·cases h
theorem rows_len (l:List Int):(rows l).length=l.length:=by simp [rows]
theorem rows_get (l:List Int) (i:Nat) (h:i < l.length):(rows l)[i]? = some [.v (.int .i64 (l.getD i 0))]:=by simp [rows,List.getD_eq_getElem?_getD,h]
theorem rows_app (a b:List Int):rows a++rows b=rows (a++b):=by simp [rows]
theorem rows_take (l:List Int) (n:Nat):(rows l).take n=rows (l.take n):=by simp [rows,List.map_take]
theorem rows_drop (l:List Int) (n:Nat):(rows l).drop n=rows (l.drop n):=by simp [rows,List.map_drop]
theorem rows_row (l:List Int):∀ row ∈ rows l,row.length=1:=by simp [rows]
attribute [go_sem] intsL_rows rows_len rows_nil rows_take rows_drop rows_app
def isH (h:Int):Bool:=decide (1≤h) && decide (h≤5)
def gIsH:List AV→Option (Prop × AV) | [.v (.int .i64 n)]=>some (True,bv (isH n)) | _=>none
def dIsH:DFn:={ g:=gIsH }
def gHas:List AV→Option (Prop × AV) | [.sl _ els,.v (.int .i64 n)]=>(match intsL els with | some l=>some (l.length≤4294967296,bv (l.contains n)) | none=>none) | _=>none
def dHas:DFn:={ g:=gHas }
attribute [go_sem] gIsH dIsH gHas dHas
theorem iIsH_ok:Fine Tryd.prog 72 dIsH.con:=by
 refine fine_det (T:=TT) Tryd.func72 rfl Tryd.ntmps72 (by rw [Tryd.results72]) rfl rfl tt (gs_nil) (ds_nil) ?_
 intro args c r h hc
 simp only [dIsH,gIsH] at h
 split at h
 rotate_left
 ·cases h
 obtain ⟨rfl,rfl⟩:=Prod.mk.inj (Option.some.inj h)
 refine ⟨by simp,fun k E hE Q hQ=>?_⟩
 refine Aw_st hE [0] [] fun K hK=>?_
 simp only [go_sem,seval]
 repeat refine sd0 ?_
 refine hK _ ?_;clear hK K
 refine Aw_st hE [2] [] fun K hK=>?_
 simp only [go_sem,seval]
 repeat refine sd0 ?_
 refine ⟨fun h1=>?_,fun h1=>?_⟩
 all_goals
  refine hK _ (Aw_ret (hQ _ ?_))
  simp only [go_sem,seval,isH,h1,Bool.true_and,Bool.false_and]
theorem sIsH_ok:Fine Tryd.prog 67 dIsH.con:=by
 refine fine_det (T:=TT) Tryd.func67 rfl Tryd.ntmps67 (by rw [Tryd.results67]) rfl rfl tt (gs_nil) (ds_cons in_ok ds_nil) ?_
 intro args c r h hc
 simp only [dIsH,gIsH] at h
 split at h
 rotate_left
 ·cases h
 obtain ⟨rfl,rfl⟩:=Prod.mk.inj (Option.some.inj h)
 refine ⟨by simp,fun k E hE Q hQ=>?_⟩
 refine Aw_st hE [0] [] fun K hK=>?_
 simp only [go_sem,seval]
 repeat refine sd0 ?_
 refine hK _ ?_;clear hK K
 refine Aw_st hE [2] [] fun K hK=>?_
 simp only [go_sem,seval]
 repeat refine sd0 ?_
 refine hK _ (Aw_ret (hQ _ ?_))
 simp only [go_sem,seval,isH]
theorem contains_take (l:List Int) (i:Nat) (h:i < l.length) (n:Int):(l.take (i + 1)).contains n=((l.take i).contains n || decide (l.getD i 0=n)):=by
 rw [Bool.eq_iff_iff]
 simp only [List.take_succ_eq_append_getElem h,List.getD_eq_getElem?_getD,List.getElem?_eq_getElem h,Option.getD_some,List.contains_eq_mem,List.mem_append,List.mem_singleton,Bool.or_eq_true,dte]
 constructor
 ·rintro (h1 | h1)
  ·exact .inl h1
  ·exact .inr h1.symm
 ·rintro (h1 | h1)
  ·exact .inl h1
  ·exact .inr h1.symm
theorem getD_mem (l:List Int) (i:Nat) (h:i < l.length):l.getD i 0 ∈ l:=by
 rw [List.getD_eq_getElem?_getD,List.getElem?_eq_getElem h]
 exact List.getElem_mem h
theorem has3_ok:Fine Tryd.prog 56 dHas.con:=by
 refine fine_det (T:=TT) Tryd.func56 rfl Tryd.ntmps56 (by rw [Tryd.results56]) rfl rfl tt (gs_nil) (ds_nil) ?_
 intro args c r h hc
 simp only [dHas,gHas] at h
 split at h
 rotate_left
 ·cases h
 split at h
 rotate_left
 ·cases h
 rename_i t els n _ l hl
 obtain rfl:=intsL_eq hl
 obtain ⟨rfl,rfl⟩:=Prod.mk.inj (Option.some.inj h)
 refine ⟨by simp,fun k E hE Q hQ=>?_⟩
 refine Aw_st hE [0,1] [] fun K hK=>?_
 simp only [go_sem,seval]
 repeat refine sd0 ?_
 refine hK _ ?_;clear hK K
 refine Aw_sq fun B1 hB1 hR1 hX1=>?_
 refine Aw_st hE [0,1,5] [] fun K hK=>?_
 simp only [go_sem,seval]
 repeat refine sd0 ?_
 refine hK _ ?_;clear hK K
 refine Aw_bk fun B2 hN2 hE2 hR2 hX2=>?_
 refine Aw_lp (fun i:Nat=>⟨18,[(0,.sl t (rows l)),(1,iv n),(5,iv i)],[],k⟩) (fun i:Nat=>i≤l.length∧(l.take i).contains n=false) (fun i:Nat=>l.length - i) (0) (Le.refl _) (⟨by omega,by simp⟩) fun i hi B3 hN3 hR3 hX3=>?_
 refine Aw_sq fun B4 hB4 hR4 hX4=>?_
 refine Aw_st hE [0,1,5,9] [] fun K hK=>?_
 simp only [go_sem,seval]
 repeat refine sd0 ?_
 refine hK _ (Aw_cond rfl (fun hc5=>?_) (fun hc5=>?_))
 ·simp only [dte] at hc5
  have hil:i < l.length:=by omega
  have hs:=contains_take l i hil n
  refine Aw_skip (hB4 _ ?_)
  refine Aw_sq fun B6 hB6 hR6 hX6=>?_
  refine Aw_bk fun B7 hN7 hE7 hR7 hX7=>?_
  refine Aw_st hE [0,1,5,17] [] fun K hK=>?_
  simp only [go_sem,seval,rows_get l i hil]
  repeat refine sd0 ?_
  refine hK _ (Aw_cond rfl (fun hc8=>?_) (fun hc8=>?_))
  ·simp only [dte] at hc8
   refine Aw_st hE [4] [] fun K hK=>?_
   simp only [go_sem,seval]
   repeat refine sd0 ?_
   refine hK _ (Aw_ret (hR7 _ (hR6 _ (hR3 _ (hR2 _ (hR1 _ (hQ _ ?_)))))))
   simp only [go_sem,seval]
   rw [← hc8]
   exact (by simpa using getD_mem l i hil)
  ·refine Aw_skip (hN7 _ (hB6 _ ?_))
   refine Aw_tx hE [0,1,5] [] fun K hK=>?_
   simp only [go_sem,seval]
   repeat refine sd0 ?_
   have hs':(l.take (i + 1)).contains n=false:=by simp_all
   refine hK _ (hN3 (i + 1) _ (⟨by omega,hs'⟩) (by omega) (Le.refl _))
 ·simp only [dfn] at hc5
  refine Aw_exit (hX4 _ _ (hX3 _ _ (hE2 _ (hB1 _ ?_))))
  refine Aw_st hE [4] [] fun K hK=>?_
  simp only [go_sem,seval]
  repeat refine sd0 ?_
  refine hK _ (Aw_ret (hQ _ ?_))
  simp only [go_sem,seval]
  have e:=hi.2
  rw [List.take_of_length_le (by omega)] at e
  exact e.symm
def pathOk (p:List Int):Bool:=p.all isH && decide p.Nodup
theorem pathOk_nil:pathOk []=true:=rfl
theorem pathOk_take {p:List Int} (h:pathOk p=true) (n:Nat):pathOk (p.take n)=true:=by
 simp only [pathOk,Bool.and_eq_true,List.all_eq_true,dte] at *
 exact ⟨fun x hx=>h.1 x (List.mem_of_mem_take hx),h.2.sublist (List.take_sublist n p)⟩
theorem pathOk_step (p:List Int) (i:Nat) (h:i < p.length):pathOk (p.take (i + 1))=(pathOk (p.take i) && (isH (p.getD i 0) && !(p.take i).contains (p.getD i 0))):=by
 rw [Bool.eq_iff_iff]
 simp only [pathOk,List.take_succ_eq_append_getElem h,List.getD_eq_getElem?_getD,List.getElem?_eq_getElem h,Option.getD_some,List.all_append,List.nodup_append,Bool.and_eq_true,dte,List.all_cons,List.all_nil,Bool.not_eq_true',List.contains_eq_mem,dfn,and_true]
 constructor
 ·rintro ⟨⟨h1,h2⟩,h3,_,h4⟩
  exact ⟨⟨h1,h3⟩,h2,fun hm=>h4 _ hm _ (List.mem_singleton.2 rfl) rfl⟩
 ·rintro ⟨⟨h1,h3⟩,h2,h4⟩
  exact ⟨⟨h1,h2⟩,h3,by simp,fun a ha b hb e=>by rw [List.mem_singleton] at hb;subst hb;subst e;exact h4 ha⟩
theorem pathOk_stop {p:List Int} {i:Nat} (h:i < p.length) (hn:(isH (p.getD i 0) && !(p.take i).contains (p.getD i 0))=false):pathOk p=false:=by
 cases he:pathOk p
 ·rfl
 ·have h1:=pathOk_take he (i + 1)
  rw [pathOk_step p i h,hn,Bool.and_false] at h1
  cases h1
def gPathOk:List AV→Option (Prop × AV) | [.sl _ els]=>(match intsL els with | some p=>some (p.length≤4294967296,bv (pathOk p)) | none=>none) | _=>none
def dPathOk:DFn:={ g:=gPathOk }
attribute [go_sem] gPathOk dPathOk
theorem sPathOk_ok:Fine Tryd.prog 55 dPathOk.con:=by
 refine fine_det (T:=TT) Tryd.func55 rfl Tryd.ntmps55 (by rw [Tryd.results55]) rfl rfl tt (gs_nil) (ds_cons sIsH_ok (ds_cons has3_ok ds_nil)) ?_
 intro args c r h hc
 simp only [dPathOk,gPathOk] at h
 split at h
 rotate_left
 ·cases h
 split at h
 rotate_left
 ·cases h
 rename_i t els _ p hl
 obtain rfl:=intsL_eq hl
 obtain ⟨rfl,rfl⟩:=Prod.mk.inj (Option.some.inj h)
 refine ⟨by simp,fun k E hE Q hQ=>?_⟩
 refine Aw_st hE [0] [] fun K hK=>?_
 simp only [go_sem,seval]
 repeat refine sd0 ?_
 refine hK _ ?_;clear hK K
 refine Aw_sq fun B1 hB1 hR1 hX1=>?_
 refine Aw_st hE [0,3] [] fun K hK=>?_
 simp only [go_sem,seval]
 repeat refine sd0 ?_
 refine hK _ ?_;clear hK K
 refine Aw_bk fun B2 hN2 hE2 hR2 hX2=>?_
 refine Aw_lp (fun i:Nat=>⟨26,[(0,.sl t (rows p)),(3,iv i)],[],k⟩) (fun i:Nat=>i≤p.length∧pathOk (p.take i)=true) (fun i:Nat=>p.length - i) (0) (Le.refl _) (⟨by omega,by simp [pathOk_nil]⟩) fun i hi B3 hN3 hR3 hX3=>?_
 refine Aw_sq fun B4 hB4 hR4 hX4=>?_
 refine Aw_st hE [0,3,7] [] fun K hK=>?_
 simp only [go_sem,seval]
 repeat refine sd0 ?_
 refine hK _ (Aw_cond rfl (fun hc5=>?_) (fun hc5=>?_))
 ·simp only [dte] at hc5
  have hil:i < p.length:=by omega
  have hs:=pathOk_step p i hil
  rw [hi.2,Bool.true_and] at hs
  refine Aw_skip (hB4 _ ?_)
  refine Aw_sq fun B6 hB6 hR6 hX6=>?_
  refine Aw_bk fun B7 hN7 hE7 hR7 hX7=>?_
  refine Aw_sd hE [0,3,25] [] 6 (by kernel_rfl) fun K hK=>?_
  simp only [go_sem,seval,rows_get p i hil]
  repeat refine sd0 ?_
  refine ⟨fun hg9=>?_,fun hg9=>?_⟩
  ·simp only [Bool.not_eq_true'] at hg9
   repeat refine sd0 ?_
   refine hK _ (Aw_yes rfl ?_)
   refine Aw_st hE [2] [] fun K hK=>?_
   simp only [go_sem,seval]
   repeat refine sd0 ?_
   refine hK _ (Aw_ret (hR7 _ (hR6 _ (hR3 _ (hR2 _ (hR1 _ (hQ _ ?_)))))))
   simp only [go_sem,seval,pathOk_stop hil (by rw [hg9];rfl)]
  ·simp only [Bool.not_eq_false'] at hg9
   repeat refine sd0 ?_
   refine hK _ (Aw_cond rfl (fun hc10=>?_) (fun hc10=>?_))
   ·have hst:=pathOk_stop hil (by rw [hg9,hc10];rfl)
    refine Aw_st hE [2] [] fun K hK=>?_
    simp only [go_sem,seval]
    repeat refine sd0 ?_
    refine hK _ (Aw_ret (hR7 _ (hR6 _ (hR3 _ (hR2 _ (hR1 _ (hQ _ ?_)))))))
    simp only [go_sem,seval,hst]
   ·rw [hg9,hc10] at hs
    refine Aw_skip (hN7 _ (hB6 _ ?_))
    refine Aw_tx hE [0,3] [] fun K hK=>?_
    simp only [go_sem,seval]
    repeat refine sd0 ?_
    refine hK _ (hN3 (i + 1) _ (⟨by omega,hs⟩) (by omega) (Le.refl _))
 ·simp only [dfn] at hc5
  refine Aw_exit (hX4 _ _ (hX3 _ _ (hE2 _ (hB1 _ ?_))))
  refine Aw_st hE [2] [] fun K hK=>?_
  simp only [go_sem,seval]
  repeat refine sd0 ?_
  refine hK _ (Aw_ret (hQ _ ?_))
  simp only [go_sem,seval]
  have e:=hi.2
  rw [List.take_of_length_le (by omega)] at e
  exact e.symm
end Go.Proofs.W
end
section
namespace Go.Proofs.W
open Go Go.Eng Go.RowKit Go.Extern.Stop Go.Stop Go.Extern
set_option maxRecDepth 100000
abbrev errS (s:ByteArray):AV:=.dv (.ifc 94 (.ptr [.v (.string s)]))
def gNew:List AV→Option (Prop × AV) | [.v (.string s)]=>some (True,errS s) | _=>none
def dNew:DFn:={ g:=gNew }
attribute [go_sem] gNew dNew
theorem new_ok:Fine Tryd.prog 75 dNew.con:=by
 refine fine_det (T:=TT) Tryd.func75 rfl Tryd.ntmps75 (by rw [Tryd.results75]) rfl rfl tt (gs_nil) (ds_nil) ?_
 intro args c r h hc
 simp only [dNew,gNew] at h
 split at h
 rotate_left
 ·cases h
 obtain ⟨rfl,rfl⟩:=Prod.mk.inj (Option.some.inj h)
 refine ⟨by simp,fun k E hE Q hQ=>?_⟩
 refine Aw_st hE [0] [] fun K hK=>?_
 simp only [go_sem,seval]
 refine hK _ ?_;clear hK K
 refine Aw_st hE [2] [] fun K hK=>?_
 simp only [go_sem,seval]
 refine hK _ (Aw_ret (hQ _ ?_))
 simp only [go_sem,seval]
def gJoin:List AV→Option (Prop × AV) | [.sl _ [[.v (.iface t v)],[.ifc t' x]]]=>some (True,.dv (.ifc 91 (.ptr [.sl [[.v (.iface t v)],[.ifc t' x]]]))) | _=>none
def dJoin:DFn:={ g:=gJoin }
attribute [go_sem] gJoin dJoin
theorem join_ok:Fine Tryd.prog 74 dJoin.con:=by
 refine fine_det (T:=TT) Tryd.func74 rfl Tryd.ntmps74 (by rw [Tryd.results74]) rfl rfl tt (gs_nil) (ds_nil) ?_
 intro args c r h hc
 simp only [dJoin,gJoin] at h
 split at h
 rotate_left
 ·cases h
 obtain ⟨rfl,rfl⟩:=Prod.mk.inj (Option.some.inj h)
 refine ⟨by simp,fun k E hE Q hQ=>?_⟩
 refine Aw_st hE [0] [] fun K hK=>?_
 simp only [go_sem,seval]
 repeat refine sd0 ?_
 refine hK _ ?_;clear hK K
 refine Aw_st hE [0,3] [] fun K hK=>?_
 simp only [go_sem,seval]
 repeat refine sd0 ?_
 refine hK _ ?_;clear hK K
 refine Aw_sq fun B1 hB1 hR1 hX1=>?_
 refine Aw_st hE [0,3,9,10,11] [] fun K hK=>?_
 simp only [go_sem,seval]
 repeat refine sd0 ?_
 refine hK _ ?_;clear hK K
 refine Aw_bk fun B2 hN2 hE2 hR2 hX2=>?_
 refine Aw_unr 3 ?_
 refine Aw_rd fun B3 hN3 hR3 hX3=>?_
 refine Aw_st hE [0,3,9,10,11,12] [] fun K hK=>?_
 simp only [go_sem,seval]
 repeat refine sd0 ?_
 refine hK _ ?_;clear hK K
 refine Aw_sq fun B4 hB4 hR4 hX4=>?_
 refine Aw_yes rfl ?_
 refine Aw_skip (hB4 _ ?_)
 refine Aw_sq fun B6 hB6 hR6 hX6=>?_
 refine Aw_bk fun B7 hN7 hE7 hR7 hX7=>?_
 refine Aw_st hE [0,3,5,9,10,11] [] fun K hK=>?_
 simp only [go_sem,seval]
 repeat refine sd0 ?_
 refine hK _ ?_;clear hK K
 refine Aw_st hE [0,3,9,10,11,16] [] fun K hK=>?_
 simp only [go_sem,seval]
 repeat refine sd0 ?_
 refine hK _ (Aw_yes rfl ?_)
 refine Aw_tx hE [0,3,9,10,11] [] fun K hK=>?_
 simp only [go_sem,seval]
 repeat refine sd0 ?_
 refine hK _ (hN7 _ (hB6 _ ?_))
 refine Aw_tx hE [0,3,9,10,11] [] fun K hK=>?_
 simp only [go_sem,seval]
 repeat refine sd0 ?_
 refine hK _ (hN3 _ ?_)
 refine Aw_rd fun B9 hN9 hR9 hX9=>?_
 refine Aw_st hE [0,3,9,10,11,12] [] fun K hK=>?_
 simp only [go_sem,seval]
 repeat refine sd0 ?_
 refine hK _ ?_;clear hK K
 refine Aw_sq fun B10 hB10 hR10 hX10=>?_
 refine Aw_yes rfl ?_
 refine Aw_skip (hB10 _ ?_)
 refine Aw_sq fun B12 hB12 hR12 hX12=>?_
 refine Aw_bk fun B13 hN13 hE13 hR13 hX13=>?_
 refine Aw_st hE [0,3,5,9,10,11] [] fun K hK=>?_
 simp only [go_sem,seval]
 repeat refine sd0 ?_
 refine hK _ ?_;clear hK K
 refine Aw_st hE [0,3,9,10,11,16] [] fun K hK=>?_
 simp only [go_sem,seval]
 repeat refine sd0 ?_
 refine hK _ (Aw_yes rfl ?_)
 refine Aw_tx hE [0,3,9,10,11] [] fun K hK=>?_
 simp only [go_sem,seval]
 repeat refine sd0 ?_
 refine hK _ (hN13 _ (hB12 _ ?_))
 refine Aw_tx hE [0,3,9,10,11] [] fun K hK=>?_
 simp only [go_sem,seval]
 repeat refine sd0 ?_
 refine hK _ (hN9 _ ?_)
 refine Aw_rd fun B15 hN15 hR15 hX15=>?_
 refine Aw_st hE [0,3,9,10,11,12] [] fun K hK=>?_
 simp only [go_sem,seval]
 repeat refine sd0 ?_
 refine hK _ ?_;clear hK K
 refine Aw_sq fun B16 hB16 hR16 hX16=>?_
 refine Aw_no rfl ?_
 refine Aw_exit (hX16 _ _ (hX15 _ _ (hE2 _ (hB1 _ ?_))))
 refine Aw_sq fun B18 hB18 hR18 hX18=>?_
 refine Aw_st hE [0,3,21] [] fun K hK=>?_
 simp only [go_sem,seval]
 repeat refine sd0 ?_
 refine hK _ (Aw_no rfl ?_)
 refine Aw_skip (hB18 _ ?_)
 refine Aw_st hE [0,6] [25] fun K hK=>?_
 simp only [go_sem,seval]
 repeat refine sd0 ?_
 refine hK _ ?_;clear hK K
 refine Aw_sq fun B20 hB20 hR20 hX20=>?_
 refine Aw_st hE [6,26,27,28] [25] fun K hK=>?_
 simp only [go_sem,seval]
 repeat refine sd0 ?_
 refine hK _ ?_;clear hK K
 refine Aw_bk fun B21 hN21 hE21 hR21 hX21=>?_
 refine Aw_unr 3 ?_
 refine Aw_rd fun B22 hN22 hR22 hX22=>?_
 refine Aw_st hE [6,26,27,28,29] [25] fun K hK=>?_
 simp only [go_sem,seval]
 repeat refine sd0 ?_
 refine hK _ ?_;clear hK K
 refine Aw_sq fun B23 hB23 hR23 hX23=>?_
 refine Aw_yes rfl ?_
 refine Aw_skip (hB23 _ ?_)
 refine Aw_sq fun B25 hB25 hR25 hX25=>?_
 refine Aw_bk fun B26 hN26 hE26 hR26 hX26=>?_
 refine Aw_st hE [6,8,26,27,28] [25] fun K hK=>?_
 simp only [go_sem,seval]
 repeat refine sd0 ?_
 refine hK _ ?_;clear hK K
 refine Aw_st hE [6,8,26,27,28,33] [25] fun K hK=>?_
 simp only [go_sem,seval]
 repeat refine sd0 ?_
 refine hK _ (Aw_yes rfl ?_)
 refine Aw_tx hE [6,26,27,28] [25] fun K hK=>?_
 simp only [go_sem,seval]
 repeat refine sd0 ?_
 refine hK _ (hN26 _ (hB25 _ ?_))
 refine Aw_tx hE [6,26,27,28] [25] fun K hK=>?_
 simp only [go_sem,seval]
 repeat refine sd0 ?_
 refine hK _ (hN22 _ ?_)
 refine Aw_rd fun B28 hN28 hR28 hX28=>?_
 refine Aw_st hE [6,26,27,28,29] [25] fun K hK=>?_
 simp only [go_sem,seval]
 repeat refine sd0 ?_
 refine hK _ ?_;clear hK K
 refine Aw_sq fun B29 hB29 hR29 hX29=>?_
 refine Aw_yes rfl ?_
 refine Aw_skip (hB29 _ ?_)
 refine Aw_sq fun B31 hB31 hR31 hX31=>?_
 refine Aw_bk fun B32 hN32 hE32 hR32 hX32=>?_
 refine Aw_st hE [6,8,26,27,28] [25] fun K hK=>?_
 simp only [go_sem,seval]
 repeat refine sd0 ?_
 refine hK _ ?_;clear hK K
 refine Aw_st hE [6,8,26,27,28,33] [25] fun K hK=>?_
 simp only [go_sem,seval]
 repeat refine sd0 ?_
 refine hK _ (Aw_yes rfl ?_)
 refine Aw_tx hE [6,26,27,28] [25] fun K hK=>?_
 simp only [go_sem,seval]
 repeat refine sd0 ?_
 refine hK _ (hN32 _ (hB31 _ ?_))
 refine Aw_tx hE [6,26,27,28] [25] fun K hK=>?_
 simp only [go_sem,seval]
 repeat refine sd0 ?_
 refine hK _ (hN28 _ ?_)
 refine Aw_rd fun B34 hN34 hR34 hX34=>?_
 refine Aw_st hE [6,26,27,28,29] [25] fun K hK=>?_
 simp only [go_sem,seval]
 repeat refine sd0 ?_
 refine hK _ ?_;clear hK K
 refine Aw_sq fun B35 hB35 hR35 hX35=>?_
 refine Aw_no rfl ?_
 refine Aw_exit (hX35 _ _ (hX34 _ _ (hE21 _ (hB20 _ ?_))))
 refine Aw_st hE [2] [] fun K hK=>?_
 simp only [go_sem,seval]
 repeat refine sd0 ?_
 refine hK _ (Aw_ret (hQ _ ?_))
 simp only [go_sem,seval]
theorem isTypeOf (v:Value) (w:World):(Extern.ReflectliteType.typeOf #[.iface 94 v]).run Tryd.prog w = .ok (.iface 98 (.agg #[.pointer (some ⟨4,94,none⟩)])) w:=by kernel_rfl
theorem isComparable (w:World):((Extern.ReflectliteType.method fun t=>do Go.Extern.Rtype.noPackHeld "Comparable" t;(fun a=>Value.bool a.comparable) <$> typeInfo t) #[.agg #[.pointer (some ⟨4,94,none⟩)]]).run Tryd.prog w = .ok (.bool true) w:=by kernel_rfl
theorem isMethodComparable (v:Value) (w:World):(Go.method 256 98 v "Comparable").run Tryd.prog w = .ok (113,v) w:=by kernel_rfl
theorem isComp:(Tryd.prog.info? 94).map (·.comparable)=some true:=by kernel_rfl
theorem isSize:(Tryd.prog.info? 96).map (·.size)=some 1:=by kernel_rfl
theorem noIsJ (v:Value) (xT:TypeId) (w:World):(Instr.typeAssert (.iface 91 v) xT 100 true).run Tryd.prog w = .ok (.tuple #[.nilIface,.bool false]) w:=run_typeAssert_lacksB Tryd.underlying100 (by kernel_rfl) (by kernel_rfl) v xT w
theorem noUnwrapJ (v:Value) (xT:TypeId) (w:World):(Instr.typeAssert (.iface 91 v) xT 103 true).run Tryd.prog w = .ok (.tuple #[.nilIface,.bool false]) w:=run_typeAssert_lacksB Tryd.underlying103 (by kernel_rfl) (by kernel_rfl) v xT w
theorem hasUnwrapJ (v:Value) (xT:TypeId) (w:World):(Instr.typeAssert (.iface 91 v) xT 105 true).run Tryd.prog w = .ok (.tuple #[.iface 91 v,.bool true]) w:=run_typeAssert_hasB Tryd.underlying105 (by kernel_rfl) v xT w
theorem methodUnwrapJ (v:Value) (w:World):(Go.method 256 91 v "Unwrap").run Tryd.prog w = .ok (108,v) w:=by kernel_rfl
theorem nilJ (a:Addr) (w:World):(nilAhead 256 91 (.pointer (some a)) "Unwrap").run Tryd.prog w = .ok (some false) w:=by kernel_rfl
theorem unwrapJ (a:Addr) (v:Value) (w:World) (h1:w.cell? a=some v) (ha:v.oneCell'=true):Calls Tryd.prog 108 #[.pointer (some a)] w fun e w'=>e = .returned v∧w'=w:=by
 go_enter Tryd.func108,Tryd.ntmps108
 go_wp2
 go_ret
 exact ⟨rfl,rfl⟩
theorem is2_same (a:Addr) (w:World) :
  Calls Tryd.prog 78 #[.iface 94 (.pointer (some a)),.iface 94 (.pointer (some a)),.bool true] w fun e w'=>e = .returned (.bool true)∧w'=w:=by
 obtain ⟨i,hi,hcmp⟩:=Option.map_eq_some_iff.1 isComp
 obtain ⟨j,hj,hjs⟩:=Option.map_eq_some_iff.1 isSize
 have heq:=run_eql_iface_ptr_same (P:=Tryd.prog) w a Tryd.underlying78 Tryd.underlying94 hi hcmp hj
 go_enter Tryd.func78,Tryd.ntmps78
 go_wp2
 refine wp_loop_rounds 1 ?_
 rw [rounds_succ]
 go_wp2
 go_ret
 exact ⟨rfl,rfl⟩
theorem is_join (pb po sb so n cap:Nat) (a:Addr) (w:World) (h0:0 < n) (h1:w.cell? ⟨pb,po,none⟩=some (.slice (some ⟨sb,so,none⟩) n cap)) (h2:w.cell? ⟨sb,so,none⟩=some (.iface 94 (.pointer (some a)))) :
  Calls Tryd.prog 78 #[.iface 91 (.pointer (some ⟨pb,po,none⟩)),.iface 94 (.pointer (some a)),.bool true] w fun e w'=>e = .returned (.bool true)∧w'=w:=by
 have nI:=noIsJ
 have nU:=noUnwrapJ
 have hU:=hasUnwrapJ
 have mU:=methodUnwrapJ
 have nJ:=nilJ
 have hty:=run_eql_iface_types (P:=Tryd.prog) 91 94 (.pointer (some ⟨pb,po,none⟩)) (.pointer (some a)) Tryd.underlying78 (by decide) w
 go_enter Tryd.func78,Tryd.ntmps78
 go_wp2
 refine wp_loop_rounds 1 ?_
 rw [rounds_succ]
 go_wp2_with (first | (go_at_call 108;refine (unwrapJ _ _ _ h1 rfl).mono ?_;rintro e w' ⟨rfl,rfl⟩) | (go_at_call 78;refine (is2_same _ _).mono ?_;rintro e w' ⟨rfl,rfl⟩))
 refine wp_loop_rounds 1 ?_
 rw [rounds_succ]
 go_wp2_with (go_at_call 78;refine (is2_same _ _).mono ?_;rintro e w' ⟨rfl,rfl⟩)
 go_ret
 exact ⟨rfl,rfl⟩
theorem Is_nil (b:Addr) (w:World) :
  Calls Tryd.prog 69 #[.nilIface,.iface 94 (.pointer (some b))] w fun e w'=>e = .returned (.bool false)∧w'=w:=by
 have hn:=run_eql_iface_nil_left (P:=Tryd.prog) w 94 (.pointer (some b)) Tryd.underlying78
 go_enter Tryd.func69,Tryd.ntmps69
 go_wp2
 go_ret
 exact ⟨rfl,rfl⟩
theorem Is_join (pb po sb so n cap:Nat) (a:Addr) (w:World) (h0:0 < n) (h1:w.cell? ⟨pb,po,none⟩=some (.slice (some ⟨sb,so,none⟩) n cap)) (h2:w.cell? ⟨sb,so,none⟩=some (.iface 94 (.pointer (some a)))) :
  Calls Tryd.prog 69 #[.iface 91 (.pointer (some ⟨pb,po,none⟩)),.iface 94 (.pointer (some a))] w fun e w'=>e = .returned (.bool true)∧w'=w:=by
 have h8:=@run_callFunc_extern Tryd.prog 77 _ Extern.ReflectliteType.typeOf Tryd.func77 (by kernel_rfl) (by kernel_rfl) (by kernel_rfl) (by kernel_rfl)
 have h32:=@run_callFunc_extern Tryd.prog 113 _ (Extern.ReflectliteType.method fun t=>do Go.Extern.Rtype.noPackHeld "Comparable" t;pure (.bool (← typeInfo t).comparable)) Tryd.func113 (by kernel_rfl) (by kernel_rfl) (by kernel_rfl) (by kernel_rfl)
 have tT:=isTypeOf
 have cT:=isComparable
 have mR:=isMethodComparable
 go_enter Tryd.func69,Tryd.ntmps69
 go_wp2_with (go_at_call 78;refine (is_join _ _ _ _ _ _ _ _ h0 h1 h2).mono ?_;rintro e w' ⟨rfl,rfl⟩)
 go_ret
 exact ⟨rfl,rfl⟩
def gIs:List AV→Option (Prop × AV)
 | [.v .nilIface,.v (.iface t (.pointer (some _)))]=>some (t=94,bv false)
 | [.dv (.ifc tj (.ptr [.sl ([.v x]::_)])),.v (.iface t (.pointer (some a)))]=>some (tj=91∧t=94∧x = .iface t (.pointer (some a)),bv true)
 | _=>none
def dIs:DFn:={ g:=gIs }
attribute [go_sem] gIs dIs
theorem is_ok:Fine Tryd.prog 69 dIs.con:=by
 refine raw_fine ⟨_,Tryd.func69,rfl,rfl⟩ rfl ?_
 intro c args vs hsz hrd hsx hpre _
 obtain ⟨cc,r,hg,hc⟩:=hpre
 simp only [dIs,gIs] at hg
 split at hg
 ·rename_i t a
  obtain ⟨rfl,rfl⟩:=Prod.mk.inj (Option.some.inj hg)
  subst hc
  have h0:=hrd 0 _ rfl
  have h1:=hrd 1 _ rfl
  have e0:vs = #[.nilIface,.iface 94 (.pointer (some a))]:=by
   obtain ⟨l⟩:=vs
   match l,hsz with
   | [x,y],_=>cases h0;cases h1;rfl
  subst e0
  refine (Is_nil a c.w).mono ?_
  rintro e w' ⟨rfl,rfl⟩
  exact ⟨_,_,fun _ _=>False,rfl,⟨_,rfl⟩,grownBy_refl _ _,fun _ _ h=>h.elim,.v _ rfl⟩
 ·rename_i tj x rest t a
  obtain ⟨rfl,rfl⟩:=Prod.mk.inj (Option.some.inj hg)
  obtain ⟨rfl,rfl,rfl⟩:=hc
  have h0:=hrd 0 _ rfl
  have h1:=hrd 1 _ rfl
  obtain ⟨pb,po,sb,so,n,cap,e0,hn,c1,c2⟩:∃ pb po sb so n cap,vs = #[.iface 91 (.pointer (some ⟨pb,po,none⟩)),.iface 94 (.pointer (some a))]∧0 < n∧c.w.cell? ⟨pb,po,none⟩=some (.slice (some ⟨sb,so,none⟩) n cap)∧c.w.cell? ⟨sb,so,none⟩=some (.iface 94 (.pointer (some a))):=by
   obtain ⟨l⟩:=vs
   match l,hsz with
   | [x,y],_ =>
    have h0':Rd c _ x:=h0
    have h1':Rd c _ y:=h1
    cases h1'
    cases h0' with
    | dv _ _ h =>
     cases h with
     | ifc _ _ _ h =>
      cases h with
      | ptr ls b off f hcell hh =>
       have k0:=(hcell 0 (by simp)).2
       have k1:=hh 0 _ rfl
       generalize hf0:f 0=u at k0 k1
       cases k1 with
       | sl els b2 off2 n cap size f2 hn2 hcap hs2 hc2 hh2 =>
        have hsz1:size=1:=by have:=hs2 _ (List.mem_cons_self ..);simpa using this.symm
        subst hsz1
        have k2:=(hc2 0 (by rw [hn2];simp)).2
        have k3:=hh2 0 0 _ _ rfl rfl
        simp only [Nat.zero_mul,Nat.add_zero] at k0 k2 k3
        generalize hf1:f2 0=u2 at k2 k3
        cases k3
        exact ⟨b,off,b2,off2,n,cap,rfl,by rw [hn2];simp,k0,k2⟩
  subst e0
  refine (Is_join pb po sb so n cap a c.w hn c1 c2).mono ?_
  rintro e w' ⟨rfl,rfl⟩
  exact ⟨_,_,fun _ _=>False,rfl,⟨_,rfl⟩,grownBy_refl _ _,fun _ _ h=>h.elim,.v _ rfl⟩
 ·cases hg
end Go.Proofs.W
end
section
namespace Go.Proofs.W
open Go Go.Eng Go.RowKit
set_option maxRecDepth 10000
def bt (l:List Int) (h:Int):Int:=if l.contains h then 1 else 0
def setv (l:List Int):Int:=2 * bt l 1 + 4 * bt l 2 + 8 * bt l 3 + 16 * bt l 4 + 32 * bt l 5
def bitOf (s h:Int):Bool:=decide (s / 2 ^ h.toNat % 2=1)
theorem bt_01 (l:List Int) (h:Int):bt l h=0∨bt l h=1:=by unfold bt;split<;>simp
theorem setv_bd (l:List Int):0≤setv l∧setv l < 64:=by
 unfold setv
 have h1:=bt_01 l 1;have h2:=bt_01 l 2;have h3:=bt_01 l 3;have h4:=bt_01 l 4;have h5:=bt_01 l 5
 omega
theorem isH_cases {h:Int} (hh:isH h=true):h=1∨h=2∨h=3∨h=4∨h=5:=by
 simp only [isH,Bool.and_eq_true,dte] at hh;omega
theorem bitOf_setv (l:List Int) (h:Int) (hh:isH h=true):bitOf (setv l) h=l.contains h:=by
 have e:∀ h:Int,l.contains h=decide (bt l h=1):=fun h=>by unfold bt;split<;>simp_all
 rw [e]
 unfold bitOf setv
 have h1:=bt_01 l 1;have h2:=bt_01 l 2;have h3:=bt_01 l 3;have h4:=bt_01 l 4;have h5:=bt_01 l 5
 rcases isH_cases hh with rfl | rfl | rfl | rfl | rfl<;>(simp only [Int.reduceToNat,Int.reducePow];congr 1;apply propext;omega)
theorem contains_app (l:List Int) (h x:Int):(l++[h]).contains x=(l.contains x || (x == h)):=by
 simp [List.contains_eq_mem,Bool.decide_or,Bool.beq_eq_decide_eq]
theorem setv_app (l:List Int) (h:Int) (hh:isH h=true) (hn:l.contains h=false):setv (l++[h])=setv l + 2 ^ h.toNat:=by
 have e:∀ x,bt (l++[h]) x=if x=h then 1 else bt l x:=fun x=>by
  unfold bt
  rw [contains_app]
  by_cases hx:x=h
  ·simp [hx]
  ·simp [hx]
 have hb:bt l h=0:=by unfold bt;rw [hn];rfl
 simp only [setv,e]
 rcases isH_cases hh with rfl | rfl | rfl | rfl | rfl<;>simp [hb]<;>omega
theorem bit_and:∀ (s:Fin 64) (h:Fin 6),IntKind.u64.wrap ((BitVec.ofInt 64 ((s.val:Int).fdiv (2 ^ (min h.val 64))) &&& BitVec.ofInt 64 1).toNat)=(s.val:Int) / 2 ^ h.val % 2:=by decide +kernel
theorem bit_or:∀ (s:Fin 64) (h:Fin 6),(s.val:Int) / 2 ^ h.val % 2=0→IntKind.u64.wrap ((BitVec.ofInt 64 (s.val:Int) ||| BitVec.ofInt 64 (IntKind.u64.wrap (1 * 2 ^ (min h.val 64)))).toNat)=(s.val:Int) + 2 ^ h.val:=by decide +kernel
theorem has_bit (s h:Int) (h0:0≤s) (h1:s < 64) (hh:isH h=true):decide (IntKind.u64.wrap ((BitVec.ofInt 64 (s.fdiv (2 ^ (min h.toNat 64))) &&& BitVec.ofInt 64 1).toNat)=1)=bitOf s h:=by
 obtain ⟨u,rfl⟩:=Int.eq_ofNat_of_zero_le h0
 have hc:=isH_cases hh
 obtain ⟨v,rfl⟩:=Int.eq_ofNat_of_zero_le (a:=h) (by omega)
 have:=bit_and ⟨u,by omega⟩ ⟨v,by omega⟩
 simp only at this
 rw [Int.toNat_natCast,this,bitOf,Int.toNat_natCast]
theorem or_bit (s h:Int) (h0:0≤s) (h1:s < 64) (hh:isH h=true) (hb:bitOf s h=false):IntKind.u64.wrap ((BitVec.ofInt 64 s ||| BitVec.ofInt 64 (IntKind.u64.wrap (1 * 2 ^ (min h.toNat 64)))).toNat)=s + 2 ^ h.toNat:=by
 obtain ⟨u,rfl⟩:=Int.eq_ofNat_of_zero_le h0
 have hc:=isH_cases hh
 obtain ⟨v,rfl⟩:=Int.eq_ofNat_of_zero_le (a:=h) (by omega)
 unfold bitOf at hb
 rw [Int.toNat_natCast] at hb ⊢
 simp only [dfn] at hb
 exact bit_or ⟨u,by omega⟩ ⟨v,by omega⟩ (by simp only;omega)
theorem has_bit' (s h:Int) (h0:0≤s) (h1:s < 64) (hh:isH h=true):decide (iAnd .u64 (s.fdiv (2 ^ (min h.toNat 64))) 1=1)=bitOf s h:=has_bit s h h0 h1 hh
theorem or_bit' (s h:Int) (h0:0≤s) (h1:s < 64) (hh:isH h=true) (hb:bitOf s h=false):iOr .u64 s (IntKind.u64.wrap (1 * 2 ^ (min h.toNat 64)))=s + 2 ^ h.toNat:=or_bit s h h0 h1 hh hb
def gTHas:List AV→Option (Prop × AV) | [.agg [.v (.int .u64 s),.sl _ _],.v (.int .i64 h)]=>some (0≤s∧s < 64,bv (isH h && bitOf s h)) | _=>none
def dTHas:DFn:={ g:=gTHas }
attribute [go_sem] gTHas dTHas
theorem thas_ok:Fine Tryd.prog 73 dTHas.con:=by
 refine fine_det (T:=TT) Tryd.func73 rfl Tryd.ntmps73 (by rw [Tryd.results73]) rfl rfl tt (gs_nil) (ds_cons iIsH_ok ds_nil) ?_
 intro args c r h hc
 simp only [dTHas,gTHas] at h
 split at h
 rotate_left
 ·cases h
 obtain ⟨rfl,rfl⟩:=Prod.mk.inj (Option.some.inj h)
 refine ⟨by simp,fun k E hE Q hQ=>?_⟩
 rename_i s _ _ n
 obtain ⟨hc1,hc2⟩:=hc
 refine Aw_st hE [1,2] [2] fun K hK=>?_
 simp only [go_sem,seval]
 repeat refine sd0 ?_
 refine hK _ ?_;clear hK K
 refine Aw_st hE [4] [] fun K hK=>?_
 simp only [go_sem,seval]
 repeat refine sd0 ?_
 refine ⟨fun h1=>?_,fun h1=>?_⟩
 ·have hle:1≤n:=by have:=isH_cases h1;omega
  repeat refine sd0 ?_
  refine hK _ (Aw_ret (hQ _ ?_))
  simp only [go_sem,seval,has_bit' s n hc1 hc2 h1,h1,Bool.true_and]
 refine hK _ (Aw_ret (hQ _ ?_))
 simp only [go_sem,seval,h1,Bool.false_and]
structure WP (pb:Addr) (w:World):Prop where
 tab:WTab w
 err:w.cell? ⟨0,0,none⟩=some (.iface 94 (.pointer (some pb)))
theorem wp_inh (pb:Addr):Inh (WP pb) (WP pb) false:=fun _ _ _ h hg=>⟨wtab_inh _ _ 0 h.tab hg,cell_grown hg h.err⟩
theorem wpt_inh (pb:Addr):Inh (WP pb) WTab false:=fun _ _ _ h hg=>wtab_inh _ _ 0 h.tab hg
abbrev errV (pb:Addr):Value:=.iface 94 (.pointer (some pb))
theorem wp_gl (pb:Addr):GlOk (WP pb) false [(0,errV pb)]:=fun p hp=>by
 obtain rfl:=List.mem_singleton.1 hp
 exact ⟨rfl,fun w w' g h hg=>cell_grown hg h.err⟩
abbrev pathErr (pb:Addr) (s:ByteArray):AV:=.dv (.ifc 91 (.ptr [.sl [[.v (errV pb)],[.ifc 94 (.ptr [.v (.string s)])]]]))
def cTrail (pb:Addr):Con:={ pre:=fun args=>∃ p,args=[isl p]∧p.length≤4294967296,post:=fun args r=>∀ p,args=[isl p]→(pathOk p=true∧r = .tup [.agg [.v (.int .u64 (setv p)),isl p],.v .nilIface])∨(pathOk p=false∧∃ s,r = .tup [.agg [.v (.int .u64 0),.sl none []],pathErr pb s]),inv:=WP pb }
theorem cTrail_own (pb:Addr):(cTrail pb).own=false:=rfl
theorem cTrail_draws (pb:Addr):(cTrail pb).draws=false:=rfl
theorem cTrail_cost (pb:Addr):(cTrail pb).cost=0:=rfl
theorem cTrail_pre (pb:Addr) (p:List Int):(cTrail pb).pre [isl p]=(p.length≤4294967296):=by
 apply propext
 constructor
 ·rintro ⟨q,e,h⟩
  have:=List.cons.inj e
  have e2:=AV.sl.inj this.1
  have e3:intsL (rows p)=intsL (rows q):=by rw [e2.2]
  rw [intsL_rows,intsL_rows] at e3
  obtain rfl:=Option.some.inj e3
  exact h
 ·exact fun h=>⟨p,rfl,h⟩
theorem cTrail_post (pb:Addr) (p:List Int) (K:AV→Prop):(∀ r,(cTrail pb).post [isl p] r→K r)=((pathOk p=true→K (.tup [.agg [.v (.int .u64 (setv p)),isl p],.v .nilIface]))∧(pathOk p=false→∀ s,K (.tup [.agg [.v (.int .u64 0),.sl none []],pathErr pb s]))):=by
 apply propext
 constructor
 ·intro h
  have inj:∀ q,[isl p]=[isl q]→p=q:=fun q e=>by
   have e2:=AV.sl.inj (List.cons.inj e).1
   have e3:intsL (rows p)=intsL (rows q):=by rw [e2.2]
   rw [intsL_rows,intsL_rows] at e3
   exact Option.some.inj e3
  refine ⟨fun hp=>h _ fun q e=>?_,fun hp s=>h _ fun q e=>?_⟩
  ·obtain rfl:=inj q e;exact .inl ⟨hp,rfl⟩
  ·obtain rfl:=inj q e;exact .inr ⟨hp,s,rfl⟩
 ·rintro ⟨h1,h2⟩ r hr
  rcases hr p rfl with ⟨h,rfl⟩ | ⟨h,s,rfl⟩
  ·exact h1 h
  ·exact h2 h s
attribute [go_sem] cTrail_own cTrail_draws cTrail_cost cTrail_pre cTrail_post
theorem trail_ok (pb:Addr):Fine Tryd.prog 68 (cTrail pb):=by
 refine fine_ofG [(0,errV pb)] (wp_gl pb) [] ms_nil (T:=TT) Tryd.func68 rfl Tryd.ntmps68 (by rw [Tryd.results68]) rfl rfl tt gs_nil (ds_cons iIsH_ok (ds_cons thas_ok (ds_cons itoa_ok (ds_cons new_ok (ds_cons join_ok ds_nil)) (wpt_inh pb)))) ?_
 rintro args ⟨p,rfl,hp⟩
 refine ⟨by simp,fun k _ E hE Q hQ=>?_⟩
 refine Aw_st hE [0,2] [2] fun K hK=>?_
 simp only [go_sem,seval]
 repeat refine sd0 ?_
 refine hK _ ?_;clear hK K
 refine Aw_st hE [0,2,4] [2,4] fun K hK=>?_
 simp only [go_sem,seval]
 repeat refine sd0 ?_
 refine hK _ ?_;clear hK K
 refine Aw_sq fun B1 hB1 hR1 hX1=>?_
 refine Aw_st hE [2,4,9,10,11] [2,4] fun K hK=>?_
 simp only [go_sem,seval]
 repeat refine sd0 ?_
 refine hK _ ?_;clear hK K
 refine Aw_bk fun B2 hN2 hE2 hR2 hX2=>?_
 refine Aw_lp (fun i:Nat=>⟨40,[(2,.loc 2 0),(4,.loc 4 0),(9,isl p),(10,iv p.length),(11,iv i)],[(2,[.v (.int .u64 0),.nl]),(4,[.v (.int .u64 (setv (p.take i))),isl p])],k⟩) (fun i:Nat=>i≤p.length∧pathOk (p.take i)=true) (fun i:Nat=>p.length - i) (0) (Le.refl _) (⟨by omega,by simp [pathOk_nil]⟩) fun i hi B3 hN3 hR3 hX3=>?_
 refine Aw_st hE [2,4,9,10,11,12] [2,4] fun K hK=>?_
 simp only [go_sem,seval]
 repeat refine sd0 ?_
 refine hK _ ?_;clear hK K
 refine Aw_sq fun B4 hB4 hR4 hX4=>?_
 refine Aw_cond rfl (fun hc5=>?_) (fun hc5=>?_)
 ·simp only [dte] at hc5
  have hil:i < p.length:=by omega
  have hs:=pathOk_step p i hil
  rw [hi.2,Bool.true_and] at hs
  have hbd:=setv_bd (p.take i)
  have hdl:=dec_len i (by omega)
  refine Aw_skip (hB4 _ ?_)
  refine Aw_sq fun B6 hB6 hR6 hX6=>?_
  refine Aw_bk fun B7 hN7 hE7 hR7 hX7=>?_
  refine Aw_st hE [2,4,5,6,9,10,11] [2,4] fun K hK=>?_
  simp only [go_sem,seval,rows_get p i hil]
  repeat refine sd0 ?_
  refine hK _ ?_;clear hK K
  refine Aw_sq fun B8 hB8 hR8 hX8=>?_
  refine Aw_st hE [2,4,5,6,9,10,11,23] [2,4] fun K hK=>?_
  simp only [go_sem,seval]
  repeat refine sd0 ?_
  refine ⟨fun hg10=>?_,fun hg10=>?_⟩
  ·simp only [Bool.not_eq_true'] at hg10
   have hst:=pathOk_stop hil (by rw [hg10];rfl)
   repeat refine sd0 ?_
   refine hK _ (Aw_yes rfl ?_)
   refine Aw_sd hE [2,3] [2] 6 (by kernel_rfl) fun K hK=>?_
   simp only [go_sem,seval]
   repeat refine sd0 ?_
   refine hK _ (Aw_ret (hR8 _ (hR7 _ (hR6 _ (hR3 _ (hR2 _ (hR1 _ (hQ _ ?_))))))))
   simp only [go_sem,seval]
   intro q hq
   have e3:intsL (rows p)=intsL (rows q):=by rw [(AV.sl.inj (List.cons.inj hq).1).2]
   rw [intsL_rows,intsL_rows] at e3
   obtain rfl:=Option.some.inj e3
   exact .inr ⟨hst,_,rfl⟩
  ·simp only [Bool.not_eq_false'] at hg10
   repeat refine sd0 ?_
   refine hK _ (Aw_cond rfl (fun hc11=>?_) (fun hc11=>?_))
   ·have hst:=pathOk_stop hil (by
     rw [hg10,Bool.true_and,bitOf_setv _ _ hg10] at hc11
     rw [hg10,hc11];rfl)
    refine Aw_sd hE [2,3] [2] 6 (by kernel_rfl) fun K hK=>?_
    simp only [go_sem,seval]
    repeat refine sd0 ?_
    refine hK _ (Aw_ret (hR8 _ (hR7 _ (hR6 _ (hR3 _ (hR2 _ (hR1 _ (hQ _ ?_))))))))
    simp only [go_sem,seval]
    intro q hq
    have e3:intsL (rows p)=intsL (rows q):=by rw [(AV.sl.inj (List.cons.inj hq).1).2]
    rw [intsL_rows,intsL_rows] at e3
    obtain rfl:=Option.some.inj e3
    exact .inr ⟨hst,_,rfl⟩
   ·have hge:1≤p.getD i 0:=by have:=isH_cases hg10;omega
    rw [hg10,Bool.true_and] at hc11
    have hor:=or_bit' _ _ hbd.1 hbd.2 hg10 hc11
    rw [bitOf_setv _ _ hg10] at hc11
    rw [hg10,hc11] at hs
    have hsv:setv (p.take (i + 1))=setv (p.take i) + 2 ^ (p.getD i 0).toNat:=by
     rw [List.take_succ_eq_append_getElem hil]
     have e:p[i]=p.getD i 0:=by simp [List.getD_eq_getElem?_getD,hil]
     rw [e]
     exact setv_app _ _ hg10 hc11
    refine Aw_skip (hB8 _ ?_)
    refine Aw_td hE [2,4,9,10,11] [2,4] 6 (by kernel_rfl) fun K hK=>?_
    simp only [go_sem,seval]
    repeat refine sd0 ?_
    rw [hor,← hsv]
    refine hK _ (hN7 _ (hB6 _ ?_))
    refine Aw_tx hE [2,4,9,10,11] [2,4] fun K hK=>?_
    simp only [go_sem,seval]
    repeat refine sd0 ?_
    refine hK _ (hN3 (i + 1) _ (⟨by omega,hs⟩) (by omega) (Le.refl _))
 ·simp only [dfn] at hc5
  have e:=hi.2
  rw [List.take_of_length_le (by omega)] at e ⊢
  refine Aw_exit (hX4 _ _ (hX3 _ _ (hE2 _ (hB1 _ ?_))))
  refine Aw_st hE [2,3] [2] fun K hK=>?_
  simp only [go_sem,seval]
  repeat refine sd0 ?_
  refine hK _ (Aw_ret (hQ _ ?_))
  simp only [go_sem,seval]
  intro q hq
  have e3:intsL (rows p)=intsL (rows q):=by rw [(AV.sl.inj (List.cons.inj hq).1).2]
  rw [intsL_rows,intsL_rows] at e3
  obtain rfl:=Option.some.inj e3
  exact .inl ⟨e,rfl⟩
def dPathOkI (pb:Addr):DFn:={ g:=gPathOk,inv:=WP pb }
attribute [go_sem] dPathOkI
theorem iPathOk_ok (pb:Addr):Fine Tryd.prog 59 (dPathOkI pb).con:=by
 refine fine_detG [(0,errV pb)] (wp_gl pb) [] ms_nil (T:=TT) Tryd.func59 rfl Tryd.ntmps59 (by rw [Tryd.results59]) rfl rfl tt (gs_cons (trail_ok pb) gs_nil (wp_inh pb)) (ds_cons is_ok ds_nil) ?_
 intro args c r h hc
 simp only [dPathOkI,gPathOk] at h
 split at h
 rotate_left
 ·cases h
 split at h
 rotate_left
 ·cases h
 rename_i t els _ p hl
 obtain rfl:=intsL_eq hl
 obtain ⟨rfl,rfl⟩:=Prod.mk.inj (Option.some.inj h)
 refine ⟨by simp,fun k E hE Q hQ=>?_⟩
 refine Aw_st hE [0] [] fun K hK=>?_
 simp only [go_sem,seval]
 repeat refine sd0 ?_
 refine hK _ ?_;clear hK K
 refine Aw_st hE [4] [] fun K hK=>?_
 simp only [go_sem,seval]
 repeat refine sd0 ?_
 refine ⟨fun hp=>?_,fun hp s=>?_⟩
 all_goals
  refine hK _ ?_;clear hK K
  refine Aw_st hE [2] [] fun K hK=>?_
  simp only [go_sem,seval]
  repeat refine sd0 ?_
  refine hK _ (Aw_ret (hQ _ ?_))
  simp only [go_sem,seval,hp]

def rowsS (l:List ByteArray):List (List DV):=l.map fun s=>[DV.v (.string s)]
theorem rowsS_len (l:List ByteArray):(rowsS l).length=l.length:=by simp [rowsS]
def cOf:Con:={ pre:=fun args=>∃ l:List ByteArray,args=[.rd,.sl none (rowsS l)]∧0 < l.length∧l.length≤100∧∀ s ∈ l,s.size≤8,post:=fun _ r=>∃ s:ByteArray,s.size≤8∧r = .v (.string s),cost:=1,draws:=true }
theorem cOf_own:cOf.own=false:=rfl
theorem cOf_draws:cOf.draws=true:=rfl
theorem cOf_cost:cOf.cost=1:=rfl
attribute [go_sem] cOf_own cOf_draws cOf_cost
theorem of_post (args:List AV) (K:AV→Prop):(∀ r,cOf.post args r→K r)=(∀ s:ByteArray,s.size≤8→K (.v (.string s))):=by
 apply propext
 exact ⟨fun h s hs=>h _ ⟨s,hs,rfl⟩,fun h r ⟨s,hs,e⟩=>e ▸ h s hs⟩
theorem of_ex (args:List AV):(∃ r,cOf.post args r)=True:=eq_true ⟨_,ByteArray.empty,by decide,rfl⟩
attribute [go_sem] of_post of_ex rowsS_len
def cDRead:Con:={ pre:=codeArg,post:=fun _ r=>∃ s:ByteArray,s.size≤1000∧r = .v (.string s) }
theorem cDRead_own:cDRead.own=false:=rfl
theorem cDRead_draws:cDRead.draws=false:=rfl
theorem cDRead_cost:cDRead.cost=0:=rfl
attribute [go_sem] cDRead_own cDRead_draws cDRead_cost
theorem dread_post (args:List AV) (K:AV→Prop):(∀ r,cDRead.post args r→K r)=(∀ s:ByteArray,s.size≤1000→K (.v (.string s))):=by
 apply propext
 exact ⟨fun h s hs=>h _ ⟨s,hs,rfl⟩,fun h r ⟨s,hs,e⟩=>e ▸ h s hs⟩
attribute [go_sem] dread_post
def cLawP (pb:Addr):Con:={ pre:=codeArg,post:=fun _ r=>r=bv true,inv:=WP pb }
theorem cLawP_own (pb:Addr):(cLawP pb).own=false:=rfl
theorem cLawP_draws (pb:Addr):(cLawP pb).draws=false:=rfl
theorem cLawP_cost (pb:Addr):(cLawP pb).cost=0:=rfl
theorem cLawP_post (pb:Addr) (args:List AV) (r:AV):(cLawP pb).post args r=(r=bv true):=rfl
attribute [go_sem] cLawP_own cLawP_draws cLawP_cost cLawP_post
def codeArg2 (args:List AV):Prop:=∃ bs bs2:List Nat,(∀ b ∈ bs,b < 256)∧(∀ b ∈ bs2,b < 256)∧args=[.sl none (byteRows bs),.sl none (byteRows bs2)]
def cLawP2 (pb:Addr):Con:={ pre:=codeArg2,post:=fun _ r=>r=bv true,inv:=WP pb }
theorem cLawP2_own (pb:Addr):(cLawP2 pb).own=false:=rfl
theorem cLawP2_draws (pb:Addr):(cLawP2 pb).draws=false:=rfl
theorem cLawP2_cost (pb:Addr):(cLawP2 pb).cost=0:=rfl
theorem cLawP2_post (pb:Addr) (args:List AV) (r:AV):(cLawP2 pb).post args r=(r=bv true):=rfl
attribute [go_sem] cLawP2_own cLawP2_draws cLawP2_cost cLawP2_post
end Go.Proofs.W
end
section
namespace Go.Proofs.W
open Go Go.Eng Go.RowKit Go.WideShapes Go.ChangeShapes
set_option maxRecDepth 100000
theorem var_below' {P:Program} {w w':World} {n:String} {g:Nat} {cs:Array Value} (h:w.var? P n=some cs) (hg:P.globalNamed n=some g) (hb:Below w.heap.size w w'):w'.var? P n=some cs:=by
 have hlt:g < w.heap.size:=by
  unfold World.var? at h
  rw [hg] at h
  simp only [Option.bind_some] at h
  rcases Nat.lt_or_ge g w.heap.size with h' | h'
  ·exact h'
  ·simp [Array.getElem?_eq_none h'] at h
 unfold World.var? at h ⊢
 rw [hg] at h ⊢
 simp only [Option.bind_some] at h ⊢
 rw [hb.block g hlt]
 exact h
end Go.Proofs.W
end
section
namespace Go.Proofs.W
open Go Go.Eng Go.RowKit
set_option maxRecDepth 10000
structure Rt where
 f:Int
 b:Int
 path:List Int
 like:Int
 marks:List Int
def Rt.row (r:Rt):List DV:=[.v (.int .i64 r.f),.v (.int .i64 r.b),.sl (rows r.path),.v (.int .i64 r.like),.sl (rows r.marks)]
abbrev Rt.av (r:Rt):AV:=.agg [iv r.f,iv r.b,isl r.path,iv r.like,isl r.marks]
def okRt (r:Rt):Prop:=okRng r.f r.b∧r.path.length≤8∧(∀ h ∈ r.path,isH h=true)∧-2≤r.like∧r.like≤11∧r.marks.length≤16
def cPathD:Con:={ pre:=fun args=>args=[.rd],post:=fun _ r=>∃ p:List Int,(p.length≤4∧∀ h ∈ p,isH h=true)∧r=isl p,cost:=9,draws:=true }
theorem cPathD_own:cPathD.own=false:=rfl
theorem cPathD_draws:cPathD.draws=true:=rfl
theorem cPathD_cost:cPathD.cost=9:=rfl
attribute [go_sem] cPathD_own cPathD_draws cPathD_cost
theorem pathD_pre:cPathD.pre [.rd]=True:=by simp [cPathD]
theorem pathD_post (args:List AV) (K:AV→Prop):(∀ r,cPathD.post args r→K r)=(∀ p:List Int,(p.length≤4∧∀ h ∈ p,isH h=true)→K (isl p)):=by
 apply propext
 exact ⟨fun h p hp=>h _ ⟨p,hp,rfl⟩,fun h r ⟨p,hp,e⟩=>e ▸ h p hp⟩
theorem pathD_ex (args:List AV):(∃ r,cPathD.post args r)=True:=eq_true ⟨_,[],by simp,rfl⟩
attribute [go_sem] pathD_pre pathD_post pathD_ex
def cMarksD:Con:={ pre:=fun args=>args=[.rd],post:=fun _ r=>∃ p:List Int,p.length≤9∧r = .sl (some (0,0,3)) (rows p),cost:=9,draws:=true,own:=true }
theorem cMarksD_own:cMarksD.own=true:=rfl
theorem cMarksD_draws:cMarksD.draws=true:=rfl
theorem cMarksD_cost:cMarksD.cost=9:=rfl
attribute [go_sem] cMarksD_own cMarksD_draws cMarksD_cost
theorem marksD_pre:cMarksD.pre [.rd]=True:=by simp [cMarksD]
theorem marksD_post (args:List AV) (K:AV→Prop):(∀ r,cMarksD.post args r→K r)=(∀ p:List Int,p.length≤9→K (.sl (some (0,0,3)) (rows p))):=by
 apply propext
 exact ⟨fun h p hp=>h _ ⟨p,hp,rfl⟩,fun h r ⟨p,hp,e⟩=>e ▸ h p hp⟩
theorem marksD_ex (args:List AV):(∃ r,cMarksD.post args r)=True:=eq_true ⟨_,[],by simp,rfl⟩
attribute [go_sem] marksD_pre marksD_post marksD_ex
def cRouteD:Con:={ pre:=fun args=>args=[.rd],post:=fun _ r=>∃ x:Rt,okRt x∧r=x.av,cost:=40,draws:=true }
theorem cRouteD_own:cRouteD.own=false:=rfl
theorem cRouteD_draws:cRouteD.draws=true:=rfl
theorem cRouteD_cost:cRouteD.cost=40:=rfl
attribute [go_sem] cRouteD_own cRouteD_draws cRouteD_cost
theorem routeD_pre:cRouteD.pre [.rd]=True:=by simp [cRouteD]
theorem routeD_post (args:List AV) (K:AV→Prop):(∀ r,cRouteD.post args r→K r)=(∀ x:Rt,okRt x→K x.av):=by
 apply propext
 exact ⟨fun h p hp=>h _ ⟨p,hp,rfl⟩,fun h r ⟨p,hp,e⟩=>e ▸ h p hp⟩
theorem routeD_ex (args:List AV):(∃ r,cRouteD.post args r)=True:=eq_true ⟨_,⟨0,0,[],0,[]⟩,by simp [okRt,okRng],rfl⟩
attribute [go_sem] routeD_pre routeD_post routeD_ex
def cI (l:List Int):List AV:=l.map fun n=>iv n
theorem cI_len (l:List Int):(cI l).length=l.length:=by simp [cI]
theorem cI_app (a b:List Int):cI a++cI b=cI (a++b):=by simp [cI]
theorem flatA_rows (l:List Int):flatA (rows l)=cI l:=by
 induction l with
 | nil=>rfl
 | cons n l ih =>
  have:flatA (rows (n::l))=iv n::flatA (rows l):=rfl
  rw [this,ih];rfl
theorem setL_mid (a b c r:List AV) (off:Nat) (ho:off=a.length) (h:c.length=b.length):setL (a++b++r) off c=a++c++r:=by
 subst ho
 induction c generalizing a b with
 | nil=>cases b with
  | nil=>rfl
  | cons=>simp at h
 | cons x c ih =>
  cases b with
  | nil=>simp at h
  | cons y b =>
   simp only [setL]
   have e:(a++y::b++r).set a.length x=(a++[x])++b++r:=by simp [List.set_append]
   rw [e,show a.length + 1=(a++[x]).length by simp,ih (a++[x]) b (by simpa using h)]
   simp
theorem setL_at (L c:List AV) (off:Nat) (h:off + c.length≤L.length):setL L off c=L.take off++c++L.drop (off + c.length):=by
 have:=setL_mid (L.take off) ((L.drop off).take c.length) c (L.drop (off + c.length)) off (by simp;omega) (by simp;omega)
 rw [← this];congr 1
 rw [List.append_assoc,← List.drop_drop,List.take_append_drop,List.take_append_drop]
theorem strip_cI (d:Nat) (l:List Int):AV.stripLAll d (cI l)=cI l:=by
 rw [AV.stripLAll_eq];simp [cI,AV.stripL]
theorem stripLAll_app (d:Nat) (a b:List AV):AV.stripLAll d (a++b)=AV.stripLAll d a++AV.stripLAll d b:=by simp [AV.stripLAll_eq]
theorem stripLAll_junk (d n:Nat):AV.stripLAll d (List.replicate n .junk)=List.replicate n .junk:=by simp [AV.stripLAll_eq,AV.stripL]
theorem nt_cI (l:List Int):AV.ntAll (cI l)=cI l:=by
 rw [ntAll_eq];simp [cI,AV.nt]
theorem ntAll_app (a b:List AV):AV.ntAll (a++b)=AV.ntAll a++AV.ntAll b:=by simp [ntAll_eq]
theorem ntAll_junk (n:Nat):AV.ntAll (List.replicate n .junk)=List.replicate n .junk:=by simp [ntAll_eq,AV.nt]
theorem mvn_cI (f:Nat→Option Nat) (l:List Int):AV.mvnAll f (cI l)=cI l:=by
 rw [mvnAll_eq];simp [cI,AV.mvn]
theorem mvnAll_app (f:Nat→Option Nat) (a b:List AV):AV.mvnAll f (a++b)=AV.mvnAll f a++AV.mvnAll f b:=by simp [mvnAll_eq]
theorem allLeaf_cI (l:List Int):allLeaf (cI l)=true:=by
 induction l with
 | nil=>rfl
 | cons n l ih=>exact ih
theorem ofAll_cI (l:List Int):DV.ofAll (cI l)=some (l.map fun n=>.v (.int .i64 n)):=by
 induction l with
 | nil=>rfl
 | cons n l ih=>simp only [cI,List.map_cons,DV.ofAll,DV.ofAV] at *;rw [ih]
theorem chunks_one (l:List Int):chunks 1 l.length (l.map fun n=>DV.v (.int .i64 n))=rows l:=by
 induction l with
 | nil=>rfl
 | cons n l ih=>simp only [List.length_cons,List.map_cons,chunks,List.take_succ_cons,List.take_zero,List.drop_succ_cons,List.drop_zero,ih];rfl
theorem mvnAll_junk (f:Nat→Option Nat) (n:Nat):AV.mvnAll f (List.replicate n .junk)=List.replicate n .junk:=by simp [mvnAll_eq,AV.mvn]
theorem stripFAll_cI (F:Nat→Bool) (l:List Int):AV.stripFAll F (cI l)=cI l:=by
 rw [stripFAll_eq];simp [cI,AV.stripF]
theorem stripFAll_app (F:Nat→Bool) (a b:List AV):AV.stripFAll F (a++b)=AV.stripFAll F a++AV.stripFAll F b:=by simp [stripFAll_eq]
theorem stripFAll_junk (F:Nat→Bool) (n:Nat):AV.stripFAll F (List.replicate n .junk)=List.replicate n .junk:=by simp [stripFAll_eq,AV.stripF]
theorem frz_rows (l:List Int):chunks 1 l.length (List.take l.length (l.map fun n=>DV.v (.int .i64 n)))=rows l:=by
 rw [List.take_of_length_le (by simp),chunks_one]
theorem frzAll_app (d:Nat) (ys:List DV) (a b:List AV):AV.frzAll d ys (a++b)=AV.frzAll d ys a++AV.frzAll d ys b:=by
 induction a with
 | nil=>rfl
 | cons x a ih=>simp only [List.cons_append,AV.frzAll,ih]
theorem frzAll_cI (d:Nat) (ys:List DV) (l:List Int):AV.frzAll d ys (cI l)=cI l:=by
 induction l with
 | nil=>rfl
 | cons n l ih =>
  have:cI (n::l)=iv n::cI l:=rfl
  rw [this,AV.frzAll,ih];rfl
theorem frzAll_junk (d:Nat) (ys:List DV) (n:Nat):AV.frzAll d ys (List.replicate n .junk)=List.replicate n .junk:=by
 induction n with
 | zero=>rfl
 | succ n ih=>rw [List.replicate_succ,AV.frzAll,ih];rfl
attribute [go_sem] frzAll_app frzAll_cI frzAll_junk
attribute [go_sem] mvnAll_junk stripFAll_cI stripFAll_app stripFAll_junk
attribute [go_sem] cI_len strip_cI stripLAll_app stripLAll_junk nt_cI ntAll_app ntAll_junk mvn_cI mvnAll_app flatA_rows allLeaf_cI
def gOver:ExG:=fun args m=>match args with
 | [.xs k1 _ _ _ _,.xs k2 _ _ _ _]=>match lkm k1 m,lkm k2 m with
  | some _,some l2=>some (k1≠k2∧l2.length≠0,bv false)
  | _,_=>none
 | _=>none
attribute [go_sem] gOver
def gLess:List AV→Option (Prop × AV) | [.v (.int .i64 x),.v (.int .i64 y)]=>some (True,bv (decide (x < y))) | _=>none
def dLess:DFn:={ g:=gLess }
def gNaN:List AV→Option (Prop × AV) | [.v (.int .i64 x)]=>some (True,bv false) | _=>none
def dNaN:DFn:={ g:=gNaN }
attribute [go_sem] gLess dLess gNaN dNaN
theorem nan_ok:Fine Tryd.prog 71 dNaN.con:=by
 refine fine_det (T:=TT) Tryd.func71 rfl Tryd.ntmps71 (by rw [Tryd.results71]) rfl rfl tt (gs_nil) (ds_nil) ?_
 intro args c r h hc
 simp only [dNaN,gNaN] at h
 split at h
 rotate_left
 ·cases h
 obtain ⟨rfl,rfl⟩:=Prod.mk.inj (Option.some.inj h)
 refine ⟨by simp,fun k E hE Q hQ=>?_⟩
 refine Aw_st hE [0] [] fun K hK=>?_
 simp only [go_sem,reduceIte,Nat.reduceLT,Nat.reduceLeDiff,Nat.reduceEqDiff,Nat.reduceAdd,Nat.reduceMul,Nat.reduceSub,Nat.reduceBEq,Int.reduceToNat,List.reduceReplicate,reduceCtorEq]
 repeat refine sd0 ?_
 refine hK _ ?_;clear hK K
 refine Aw_st hE [2] [] fun K hK=>?_
 simp only [go_sem,reduceIte,Nat.reduceLT,Nat.reduceLeDiff,Nat.reduceEqDiff,Nat.reduceAdd,Nat.reduceMul,Nat.reduceSub,Nat.reduceBEq,Int.reduceToNat,List.reduceReplicate,reduceCtorEq]
 repeat refine sd0 ?_
 refine hK _ (Aw_ret (hQ _ ?_))
 simp only [go_sem,reduceIte,Nat.reduceLT,Nat.reduceLeDiff,Nat.reduceEqDiff,Nat.reduceAdd,Nat.reduceMul,Nat.reduceSub,Nat.reduceBEq,Int.reduceToNat,List.reduceReplicate,reduceCtorEq]
 simp
def isM (n:Int):Bool:=decide (1≤n) && decide (n≤9)
def gIsM:List AV→Option (Prop × AV) | [.v (.int .i64 n)]=>some (True,bv (isM n)) | _=>none
def dIsM:DFn:={ g:=gIsM }
attribute [go_sem] gIsM dIsM
def mOkN (l:List Int):Nat→Bool
 | 0=>true
 | n + 1=>mOkN l n && (isM (l.getD n 0) && (decide (n=0) || decide (l.getD (n - 1) 0 < l.getD n 0)))
def mOk (l:List Int):Bool:=mOkN l l.length
def gMOk:List AV→Option (Prop × AV) | [.sl _ els]=>(match intsL els with | some p=>some (p.length≤4294967296,bv (mOk p)) | none=>none) | _=>none
def dMOk:DFn:={ g:=gMOk }
attribute [go_sem] gMOk dMOk
def rtOk (f b:Int) (p:List Int) (k:Int) (m:List Int):Bool:=rngOk f b && (decide (0 < p.length) && (pathOk p && (decide (0≤k) && (decide (k≤9) && mOk m))))
def gRtOk:List AV→Option (Prop × AV)
 | [.agg [.v (.int .i64 f),.v (.int .i64 b),.sl _ e1,.v (.int .i64 k),.sl _ e2]]=>(match intsL e1,intsL e2 with | some p,some m=>some (p.length≤4294967296∧m.length≤4294967296,bv (rtOk f b p k m)) | _,_=>none)
 | _=>none
def dRtOk:DFn:={ g:=gRtOk }
def dRtOkI (pb:Addr):DFn:={ g:=gRtOk,inv:=WP pb }
attribute [go_sem] gRtOk dRtOk dRtOkI
theorem isl_inj {a b:List Int} (h:[isl a]=[isl b]):a=b:=by
 have e2:=AV.sl.inj (List.cons.inj h).1
 have e3:intsL (rows a)=intsL (rows b):=by rw [e2.2]
 rw [intsL_rows,intsL_rows] at e3
 exact Option.some.inj e3
def cClone:ConM:={
 pre:=fun args m1=>∃ l:List Int,args=[isl l]∧m1=[]∧l.length≤1000000
 post:=fun args _ r m2=>∀ l:List Int,args=[isl l]→(l=[]∧((r = .nl∧m2=[])∨(r = .xs 5 0 0 0 1∧m2=[(5,[])])))∨(l≠[]∧∃ cap,l.length≤cap∧r = .xs 7 0 l.length cap 1∧m2=[(5,[]),(7,cI l++List.replicate (cap - l.length) .junk)]) }
theorem clone_pre (l:List Int):cClone.pre [isl l] []=(l.length≤1000000):=by
 apply propext
 constructor
 ·rintro ⟨l',h,_,h2⟩;rwa [isl_inj h]
 ·exact fun h=>⟨l,rfl,rfl,h⟩
theorem clone_post (l:List Int) (m1:List (Nat × List AV)) (K:AV→List (Nat × List AV)→Prop):(∀ r m2,cClone.post [isl l] m1 r m2→K r m2)=((l=[]→K .nl []∧K (.xs 5 0 0 0 1) [(5,[])])∧(l≠[]→∀ cap,l.length≤cap→K (.xs 7 0 l.length cap 1) [(5,[]),(7,cI l++List.replicate (cap - l.length) .junk)])):=by
 apply propext
 constructor
 ·intro h
  exact ⟨fun e=>⟨h _ _ fun l' h'=>by obtain rfl:=isl_inj h';exact .inl ⟨e,.inl ⟨rfl,rfl⟩⟩,h _ _ fun l' h'=>by obtain rfl:=isl_inj h';exact .inl ⟨e,.inr ⟨rfl,rfl⟩⟩⟩,fun e cap hc=>h _ _ fun l' h'=>by obtain rfl:=isl_inj h';exact .inr ⟨e,cap,hc,rfl,rfl⟩⟩
 ·intro h r m2 hp
  rcases hp l rfl with ⟨e,⟨rfl,rfl⟩ | ⟨rfl,rfl⟩⟩ | ⟨e,cap,hc,rfl,rfl⟩
  ·exact (h.1 e).1
  ·exact (h.1 e).2
  ·exact h.2 e cap hc
theorem clone_ex (l:List Int) (m1:List (Nat × List AV)):(∃ r m2,cClone.post [isl l] m1 r m2)=True:=by
 refine eq_true ?_
 by_cases e:l=[]
 ·exact ⟨.nl,[],fun l' h'=>by obtain rfl:=isl_inj h';exact .inl ⟨e,.inl ⟨rfl,rfl⟩⟩⟩
 ·exact ⟨_,_,fun l' h'=>by obtain rfl:=isl_inj h';exact .inr ⟨e,l.length,Nat.le_refl _,rfl,rfl⟩⟩
attribute [go_sem] clone_pre clone_post clone_ex
abbrev jk (n:Nat):List AV:=List.replicate n .junk
def copyCs (f b:Int) (p:List Int) (k:Int) (m:List Int) (K:AV→List (Nat × List AV)→Prop):Prop :=
 ∀ cap,p.length≤cap→(m=[]→K (.agg [iv f,iv b,.xs 405 0 p.length cap 1,iv k,.nl]) [(2,[iv f,iv b,.xs 405 0 p.length cap 1,iv k,.nl]),(205,[]),(405,cI p++jk (cap - p.length))]∧
   K (.agg [iv f,iv b,.xs 405 0 p.length cap 1,iv k,.xs 208 0 0 0 1]) [(2,[iv f,iv b,.xs 405 0 p.length cap 1,iv k,.xs 208 0 0 0 1]),(205,[]),(405,cI p++jk (cap - p.length)),(208,[])])∧
  (m≠[]→∀ cap2,m.length≤cap2→K (.agg [iv f,iv b,.xs 405 0 p.length cap 1,iv k,.xs 408 0 m.length cap2 1]) [(2,[iv f,iv b,.xs 405 0 p.length cap 1,iv k,.xs 408 0 m.length cap2 1]),(205,[]),(405,cI p++jk (cap - p.length)),(208,[]),(408,cI m++jk (cap2 - m.length))])
theorem rav_inj {f b k f' b' k':Int} {p m p' m':List Int} (h:[AV.agg [iv f,iv b,isl p,iv k,isl m]]=[AV.agg [iv f',iv b',isl p',iv k',isl m']]):f=f'∧b=b'∧p=p'∧k=k'∧m=m':=by
 simp only [List.cons.injEq,AV.agg.injEq,AV.v.injEq,Value.int.injEq,true_and,and_true] at h
 exact ⟨h.1,h.2.1,isl_inj (by rw [h.2.2.1]),h.2.2.2.1,isl_inj (by rw [h.2.2.2.2])⟩
def cCopyR:ConM:={
 pre:=fun args m1=>∃ (f b:Int) (p:List Int) (k:Int) (m:List Int),args=[.agg [iv f,iv b,isl p,iv k,isl m]]∧m1=[]∧p.length≤1000000∧m.length≤1000000∧p≠[]
 post:=fun args _ r m2=>∀ (f b:Int) (p:List Int) (k:Int) (m:List Int),args=[.agg [iv f,iv b,isl p,iv k,isl m]]→∀ K:AV→List (Nat × List AV)→Prop,copyCs f b p k m K→K r m2 }
theorem copyR_pre (f b:Int) (p:List Int) (k:Int) (m:List Int):cCopyR.pre [.agg [iv f,iv b,isl p,iv k,isl m]] []=(p.length≤1000000∧m.length≤1000000∧p≠[]):=by
 apply propext
 constructor
 ·rintro ⟨f',b',p',k',m',h,_,h2⟩
  obtain ⟨rfl,rfl,rfl,rfl,rfl⟩:=rav_inj h
  exact h2
 ·exact fun h=>⟨f,b,p,k,m,rfl,rfl,h⟩
theorem copyR_post (f b:Int) (p:List Int) (k:Int) (m:List Int) (m1:List (Nat × List AV)) (K:AV→List (Nat × List AV)→Prop):(∀ r m2,cCopyR.post [.agg [iv f,iv b,isl p,iv k,isl m]] m1 r m2→K r m2)=copyCs f b p k m K:=by
 apply propext
 constructor
 ·intro h cap hcap
  refine ⟨fun hm0=>⟨h _ _ ?_,h _ _ ?_⟩,fun hm0 cap2 hcap2=>h _ _ ?_⟩
  all_goals
   intro f' b' p' k' m' he K' hK'
   obtain ⟨rfl,rfl,rfl,rfl,rfl⟩:=rav_inj he
   have h:=hK' cap hcap
   first | exact (h.1 hm0).1 | exact (h.1 hm0).2 | exact h.2 hm0 cap2 hcap2
 ·exact fun h r m2 hp=>hp f b p k m rfl K h
attribute [go_sem] copyR_pre copyR_post copyCs
def mkGo (x:Int):List Int→List Int × Bool→List Int × Bool
 | [],s=>s
 | y::l,(out,inn)=>mkGo x l ((out++(if !inn && decide (x≤y) then [x] else []))++(if decide (y=x) then [] else [y]),inn || decide (x≤y))
def mkL (l:List Int) (x:Int):List Int:=let s:=mkGo x l ([],false);if s.2 then s.1 else s.1++[x]
def gMark:List AV→Option (Prop × AV)
 | [.agg [.v (.int .i64 f),.v (.int .i64 b),.sl _ e1,.v (.int .i64 k),.sl _ e2],.v (.int .i64 x)]=>(match intsL e1,intsL e2 with
  | some p,some m=>some (p.length≤1000000∧m.length≤1000000,.tup [if rtOk f b p k m && isM x then .agg [iv f,iv b,isl p,iv k,isl (mkL m x)] else .agg [iv 0,iv 0,isl [],iv 0,isl []],bv (rtOk f b p k m && isM x)])
  | _,_=>none)
 | _=>none
def dMark:DFn:={ g:=gMark }
def dMarkI (pb:Addr):DFn:={ g:=gMark,inv:=WP pb }
attribute [go_sem] gMark dMark dMarkI
def gMk:List AV→Option (Prop × AV) | [.sl _ els,.v (.int .i64 x)]=>(match intsL els with | some l=>some (l.length≤1000000,isl (mkL l x)) | none=>none) | _=>none
def dMk:DFn:={ g:=gMk }
attribute [go_sem] gMk dMk
def gCopyR:List AV→Option (Prop × AV)
 | [.agg [.v (.int .i64 f),.v (.int .i64 b),.sl _ e1,.v (.int .i64 k),.sl _ e2]]=>(match intsL e1,intsL e2 with | some p,some m=>some (p.length≤1000000∧m.length≤1000000,.agg [iv f,iv b,isl p,iv k,isl m]) | _,_=>none)
 | _=>none
def dCopyR:DFn:={ g:=gCopyR }
attribute [go_sem] gCopyR dCopyR
def clL (l:List Int) (x:Int):List Int:=l.filter fun y=>!decide (y=x)
def gCl:List AV→Option (Prop × AV) | [.sl _ els,.v (.int .i64 x)]=>(match intsL els with | some l=>some (l.length≤1000000,isl (clL l x)) | none=>none) | _=>none
def dCl:DFn:={ g:=gCl }
def gClear:List AV→Option (Prop × AV)
 | [.agg [.v (.int .i64 f),.v (.int .i64 b),.sl _ e1,.v (.int .i64 k),.sl _ e2],.v (.int .i64 x)]=>(match intsL e1,intsL e2 with
  | some p,some m=>some (p.length≤1000000∧m.length≤1000000,.tup [if rtOk f b p k m && isM x then .agg [iv f,iv b,isl p,iv k,isl (clL m x)] else .agg [iv 0,iv 0,isl [],iv 0,isl []],bv (rtOk f b p k m && isM x)])
  | _,_=>none)
 | _=>none
def dClear:DFn:={ g:=gClear }
def dClearI (pb:Addr):DFn:={ g:=gClear,inv:=WP pb }
attribute [go_sem] gCl dCl gClear dClear dClearI
def gEqC:List AV→Option (Prop × AV) | [.v (.int .i64 y),.el [.v (.int .i64 x)]]=>some (True,bv (decide (y=x))) | _=>none
def dEqC:DFn:={ g:=gEqC }
attribute [go_sem] gEqC dEqC

def gLyI:List AV→Option (Prop × AV) | [.sl _ e1,.sl _ e2]=>(match intsL e1,intsL e2 with | some a,some b=>some (a.length≤4294967296∧b.length≤4294967296,bv (decide (a=b))) | _,_=>none) | _=>none
def dLyI:DFn:={ g:=gLyI }
attribute [go_sem] gLyI dLyI
def gLyR:List AV→Option (Prop × AV)
 | [.agg [.v (.int .i64 f),.v (.int .i64 b),.sl _ e1,.v (.int .i64 k),.sl _ e2],.agg [.v (.int .i64 f'),.v (.int .i64 b'),.sl _ e3,.v (.int .i64 k'),.sl _ e4]]=>(match intsL e1,intsL e2,intsL e3,intsL e4 with
  | some p,some m,some p',some m'=>some ((p.length≤4294967296∧p'.length≤4294967296)∧m.length≤4294967296∧m'.length≤4294967296,bv (decide (f=f'∧b=b'∧p=p'∧k=k'∧m=m')))
  | _,_,_,_=>none)
 | _=>none
def dLyR:DFn:={ g:=gLyR }
attribute [go_sem] gLyR dLyR
def cmpI (a b:Int):Int:=if a < b then -1 else if b < a then 1 else 0
def orL:List Int→Int
 | []=>0
 | x::l=>if x=0 then orL l else x
def cmpL:List Int→List Int→Int
 | [],[]=>0
 | [],_::_=>-1
 | _::_,[]=>1
 | x::a,y::b=>if cmpI x y=0 then cmpL a b else cmpI x y
def pCmp (a b:List Int):Int:=orL [cmpI a.length b.length,cmpL a b]
def rCmp (f b f' b':Int):Int:=orL [cmpI f f',cmpI b b']
theorem cmpI_lt {a b:Int} (h:a < b):cmpI a b = -1:=if_pos h
theorem cmpI_gt {a b:Int} (h:b < a):cmpI a b=1:=by unfold cmpI;rw [if_neg (by omega),if_pos h]
theorem cmpI_eq (a:Int):cmpI a a=0:=by unfold cmpI;simp
theorem orL_drop (l:List Int) (i:Nat) (h:i < l.length):orL (l.drop i)=if l.getD i 0=0 then orL (l.drop (i + 1)) else l.getD i 0:=by
 rw [List.drop_eq_getElem_cons h,orL]
 simp [List.getD_eq_getElem?_getD,h]
theorem cmpL_drop (a b:List Int) (i:Nat) (h:i < a.length) (k:i < b.length):cmpL (a.drop i) (b.drop i)=if cmpI (a.getD i 0) (b.getD i 0)=0 then cmpL (a.drop (i + 1)) (b.drop (i + 1)) else cmpI (a.getD i 0) (b.getD i 0):=by
 rw [List.drop_eq_getElem_cons h,List.drop_eq_getElem_cons k,cmpL]
 simp [List.getD_eq_getElem?_getD,h,k]
theorem cmpL_gt (a b:List Int) (i:Nat) (h:i < a.length) (k:b.length≤i):cmpL (a.drop i) (b.drop i)=1:=by
 rw [List.drop_eq_getElem_cons h,List.drop_of_length_le k,cmpL]
theorem cmpL_lt (a b:List Int) (i:Nat) (h:a.length≤i) (k:i < b.length):cmpL (a.drop i) (b.drop i) = -1:=by
 rw [List.drop_eq_getElem_cons k,List.drop_of_length_le h,cmpL]
theorem cmpL_end (a b:List Int) (i:Nat) (h:a.length≤i) (k:b.length≤i):cmpL (a.drop i) (b.drop i)=0:=by
 rw [List.drop_of_length_le k,List.drop_of_length_le h,cmpL]
def gCmpI:List AV→Option (Prop × AV) | [.v (.int .i64 x),.v (.int .i64 y)]=>some (True,iv (cmpI x y)) | _=>none
def dCmpI:DFn:={ g:=gCmpI }
def gOrL:List AV→Option (Prop × AV) | [.sl _ els]=>(match intsL els with | some l=>some (l.length≤1000000,iv (orL l)) | none=>none) | _=>none
def dOrL:DFn:={ g:=gOrL }
def gCmpL:List AV→Option (Prop × AV) | [.sl _ e1,.sl _ e2]=>(match intsL e1,intsL e2 with | some a,some b=>some (a.length≤4294967296∧b.length≤4294967296,iv (cmpL a b)) | _,_=>none) | _=>none
def dCmpL:DFn:={ g:=gCmpL }
attribute [go_sem] gCmpI dCmpI gOrL dOrL gCmpL dCmpL
theorem cmpI_ok:Fine Tryd.prog 65 dCmpI.con:=by
 refine fine_det (T:=TT) Tryd.func65 rfl Tryd.ntmps65 (by rw [Tryd.results65]) rfl rfl tt (gs_nil) (ds_cons nan_ok ds_nil) ?_
 intro args c r h hc
 simp only [dCmpI,gCmpI] at h
 split at h
 rotate_left
 ·cases h
 obtain ⟨rfl,rfl⟩:=Prod.mk.inj (Option.some.inj h)
 refine ⟨by simp,fun k E hE Q hQ=>?_⟩
 rename_i x y
 refine Aw_st hE [0,1] [] fun K hK=>?_
 simp only [go_sem,seval]
 repeat refine sd0 ?_
 refine hK _ ?_;clear hK K
 refine Aw_st hE [0,1,5] [] fun K hK=>?_
 simp only [go_sem,seval]
 repeat refine sd0 ?_
 refine hK _ ?_;clear hK K
 refine Aw_st hE [0,1,5,6] [] fun K hK=>?_
 simp only [go_sem,seval]
 repeat refine sd0 ?_
 refine hK _ ?_;clear hK K
 refine Aw_sq fun B1 hB1 hR1 hX1=>?_
 refine Aw_st hE [0,1,6,11] [] fun K hK=>?_
 simp only [go_sem,seval]
 repeat refine sd0 ?_
 refine hK _ (Aw_no rfl ?_)
 refine Aw_skip (hB1 _ ?_)
 refine Aw_sq fun B3 hB3 hR3 hX3=>?_
 refine Aw_st hE [0,1,13] [] fun K hK=>?_
 simp only [go_sem,seval]
 repeat refine sd0 ?_
 refine hK _ (Aw_no rfl ?_)
 refine Aw_skip (hB3 _ ?_)
 refine Aw_sq fun B5 hB5 hR5 hX5=>?_
 refine Aw_st hE [0,1,16] [] fun K hK=>?_
 simp only [go_sem,seval]
 repeat refine sd0 ?_
 refine hK _ (Aw_cond rfl (fun hc6=>?_) (fun hc6=>?_))
 ·simp only [dte] at hc6
  refine Aw_st hE [4] [] fun K hK=>?_
  simp only [go_sem,seval]
  repeat refine sd0 ?_
  refine hK _ (Aw_ret (hR5 _ (hQ _ ?_)))
  simp only [go_sem,seval]
  rw [cmpI_lt hc6]
 ·simp only [dfn] at hc6
  refine Aw_skip (hB5 _ ?_)
  refine Aw_sq fun B7 hB7 hR7 hX7=>?_
  refine Aw_st hE [19] [] fun K hK=>?_
  simp only [go_sem,seval]
  repeat refine sd0 ?_
  refine hK _ (Aw_cond rfl (fun hc8=>?_) (fun hc8=>?_))
  ·simp only [dte] at hc8
   refine Aw_st hE [4] [] fun K hK=>?_
   simp only [go_sem,seval]
   repeat refine sd0 ?_
   refine hK _ (Aw_ret (hR7 _ (hQ _ ?_)))
   simp only [go_sem,seval]
   rw [cmpI_gt hc8]
  ·simp only [dfn] at hc8
   refine Aw_skip (hB7 _ ?_)
   refine Aw_st hE [4] [] fun K hK=>?_
   simp only [go_sem,seval]
   repeat refine sd0 ?_
   refine hK _ (Aw_ret (hQ _ ?_))
   simp only [go_sem,seval]
   rw [show x=y by omega,cmpI_eq]
theorem orL_ok:Fine Tryd.prog 64 dOrL.con:=by
 refine fine_det (T:=TT) Tryd.func64 rfl Tryd.ntmps64 (by rw [Tryd.results64]) rfl rfl tt (gs_nil) (ds_nil) ?_
 intro args c r h hc
 simp only [dOrL,gOrL] at h
 split at h
 rotate_left
 ·cases h
 split at h
 rotate_left
 ·cases h
 rename_i t els _ l hl
 obtain rfl:=intsL_eq hl
 obtain ⟨rfl,rfl⟩:=Prod.mk.inj (Option.some.inj h)
 refine ⟨by simp,fun k E hE Q hQ=>?_⟩
 refine Aw_st hE [0] [] fun K hK=>?_
 simp only [go_sem,seval]
 repeat refine sd0 ?_
 refine hK _ ?_;clear hK K
 refine Aw_st hE [0,3] [] fun K hK=>?_
 simp only [go_sem,seval]
 repeat refine sd0 ?_
 refine hK _ ?_;clear hK K
 refine Aw_sq fun B1 hB1 hR1 hX1=>?_
 refine Aw_st hE [3,6,7,8] [] fun K hK=>?_
 simp only [go_sem,seval]
 repeat refine sd0 ?_
 refine hK _ ?_;clear hK K
 refine Aw_bk fun B2 hN2 hE2 hR2 hX2=>?_
 refine Aw_lp (fun i:Nat=>⟨18,[(3,iv 0),(6,.sl t (rows l)),(7,iv l.length),(8,iv i)],[],k⟩) (fun i:Nat=>i≤l.length∧orL (l.drop i)=orL l) (fun i:Nat=>l.length - i) (0) (Le.refl _) (⟨by omega,by simp⟩) fun i hi B3 hN3 hR3 hX3=>?_
 refine Aw_st hE [3,6,7,8,9] [] fun K hK=>?_
 simp only [go_sem,seval]
 repeat refine sd0 ?_
 refine hK _ ?_;clear hK K
 refine Aw_sq fun B4 hB4 hR4 hX4=>?_
 refine Aw_cond rfl (fun hc5=>?_) (fun hc5=>?_)
 ·simp only [dte] at hc5
  have hil:i < l.length:=by omega
  have hst:=orL_drop l i hil
  refine Aw_skip (hB4 _ ?_)
  refine Aw_sq fun B6 hB6 hR6 hX6=>?_
  refine Aw_bk fun B7 hN7 hE7 hR7 hX7=>?_
  refine Aw_st hE [3,5,6,7,8] [] fun K hK=>?_
  simp only [go_sem,seval,rows_get l i hil]
  repeat refine sd0 ?_
  refine hK _ ?_;clear hK K
  refine Aw_st hE [3,5,6,7,8,14] [] fun K hK=>?_
  simp only [go_sem,seval]
  repeat refine sd0 ?_
  refine hK _ (Aw_cond rfl (fun hc8=>?_) (fun hc8=>?_))
  ·have hne:¬ l.getD i 0=0:=by simpa using hc8
   refine Aw_st hE [2] [] fun K hK=>?_
   simp only [go_sem,seval]
   repeat refine sd0 ?_
   refine hK _ (Aw_ret (hR7 _ (hR6 _ (hR3 _ (hR2 _ (hR1 _ (hQ _ ?_)))))))
   simp only [go_sem,seval]
   rw [if_neg hne,hi.2] at hst;rw [hst]
  ·have hne:l.getD i 0=0:=by simpa using hc8
   refine Aw_skip (hN7 _ (hB6 _ ?_))
   refine Aw_tx hE [3,6,7,8] [] fun K hK=>?_
   simp only [go_sem,seval]
   repeat refine sd0 ?_
   refine hK _ (hN3 (i + 1) _ (⟨by omega,by rw [if_pos hne,hi.2] at hst;exact hst.symm⟩) (by omega) (Le.refl _))
 ·simp only [dfn] at hc5
  refine Aw_exit (hX4 _ _ (hX3 _ _ (hE2 _ (hB1 _ ?_))))
  refine Aw_st hE [2] [] fun K hK=>?_
  simp only [go_sem,seval]
  repeat refine sd0 ?_
  refine hK _ (Aw_ret (hQ _ ?_))
  simp only [go_sem,seval]
  rw [← hi.2,List.drop_of_length_le (by omega)];rfl
theorem cmpL_ok:Fine Tryd.prog 66 dCmpL.con:=by
 refine fine_det (T:=TT) Tryd.func66 rfl Tryd.ntmps66 (by rw [Tryd.results66]) rfl rfl tt (gs_nil) (ds_cons cmpI_ok ds_nil) ?_
 intro args c r h hc
 simp only [dCmpL,gCmpL] at h
 split at h
 rotate_left
 ·cases h
 split at h
 rotate_left
 ·cases h
 rename_i t1 e1 t2 e2 _ _ a b hl1 hl2
 obtain rfl:=intsL_eq hl1
 obtain rfl:=intsL_eq hl2
 obtain ⟨rfl,rfl⟩:=Prod.mk.inj (Option.some.inj h)
 refine ⟨by simp,fun k E hE Q hQ=>?_⟩
 refine Aw_st hE [0,1] [] fun K hK=>?_
 simp only [go_sem,seval]
 repeat refine sd0 ?_
 refine hK _ ?_;clear hK K
 refine Aw_sq fun B1 hB1 hR1 hX1=>?_
 refine Aw_st hE [0,1,9,10,11] [] fun K hK=>?_
 simp only [go_sem,seval]
 repeat refine sd0 ?_
 refine hK _ ?_;clear hK K
 refine Aw_bk fun B2 hN2 hE2 hR2 hX2=>?_
 refine Aw_lp (fun i:Nat=>⟨36,[(0,.sl t1 (rows a)),(1,.sl t2 (rows b)),(9,.sl t1 (rows a)),(10,iv a.length),(11,iv i)],[],k⟩) (fun i:Nat=>(i≤a.length∧i≤b.length)∧cmpL (a.drop i) (b.drop i)=cmpL a b) (fun i:Nat=>a.length - i) (0) (Le.refl _) (⟨by omega,by simp⟩) fun i hi B3 hN3 hR3 hX3=>?_
 refine Aw_st hE [0,1,9,10,11,12] [] fun K hK=>?_
 simp only [go_sem,seval]
 repeat refine sd0 ?_
 refine hK _ ?_;clear hK K
 refine Aw_sq fun B4 hB4 hR4 hX4=>?_
 refine Aw_cond rfl (fun hc5=>?_) (fun hc5=>?_)
 ·simp only [dte] at hc5
  have hil:i < a.length:=by omega
  refine Aw_skip (hB4 _ ?_)
  refine Aw_sq fun B6 hB6 hR6 hX6=>?_
  refine Aw_bk fun B7 hN7 hE7 hR7 hX7=>?_
  refine Aw_st hE [0,1,5,6,9,10,11] [] fun K hK=>?_
  simp only [go_sem,seval,rows_get a i hil]
  repeat refine sd0 ?_
  refine hK _ ?_;clear hK K
  refine Aw_sq fun B8 hB8 hR8 hX8=>?_
  refine Aw_st hE [0,1,5,6,9,10,11,19] [] fun K hK=>?_
  simp only [go_sem,seval]
  repeat refine sd0 ?_
  refine hK _ (Aw_cond rfl (fun hc9=>?_) (fun hc9=>?_))
  ·simp only [dte] at hc9
   refine Aw_st hE [4] [] fun K hK=>?_
   simp only [go_sem,seval]
   repeat refine sd0 ?_
   refine hK _ (Aw_ret (hR8 _ (hR7 _ (hR6 _ (hR3 _ (hR2 _ (hR1 _ (hQ _ ?_))))))))
   simp only [go_sem,seval]
   rw [← hi.2,cmpL_gt a b i hil (by omega)]
  ·simp only [dfn] at hc9
   have hib:i < b.length:=by omega
   have hst:=cmpL_drop a b i hil hib
   refine Aw_skip (hB8 _ ?_)
   refine Aw_st hE [0,1,6,7,9,10,11] [] fun K hK=>?_
   simp only [go_sem,seval,rows_get b i hib]
   repeat refine sd0 ?_
   refine hK _ ?_;clear hK K
   refine Aw_st hE [0,1,8,9,10,11] [] fun K hK=>?_
   simp only [go_sem,seval]
   repeat refine sd0 ?_
   refine hK _ ?_;clear hK K
   refine Aw_st hE [0,1,8,9,10,11,28] [] fun K hK=>?_
   simp only [go_sem,seval]
   repeat refine sd0 ?_
   refine hK _ (Aw_cond rfl (fun hc10=>?_) (fun hc10=>?_))
   ·have hne:¬ cmpI (a.getD i 0) (b.getD i 0)=0:=by simpa using hc10
    refine Aw_st hE [4] [] fun K hK=>?_
    simp only [go_sem,seval]
    repeat refine sd0 ?_
    refine hK _ (Aw_ret (hR7 _ (hR6 _ (hR3 _ (hR2 _ (hR1 _ (hQ _ ?_)))))))
    simp only [go_sem,seval]
    rw [← hi.2,hst,if_neg hne]
   ·have hne:cmpI (a.getD i 0) (b.getD i 0)=0:=by simpa using hc10
    refine Aw_skip (hN7 _ (hB6 _ ?_))
    refine Aw_tx hE [0,1,9,10,11] [] fun K hK=>?_
    simp only [go_sem,seval]
    repeat refine sd0 ?_
    refine hK _ (hN3 (i + 1) _ (⟨by omega,by rw [if_pos hne] at hst;rw [← hst];exact hi.2⟩) (by omega) (Le.refl _))
 ·simp only [dfn] at hc5
  refine Aw_exit (hX4 _ _ (hX3 _ _ (hE2 _ (hB1 _ ?_))))
  refine Aw_sq fun B11 hB11 hR11 hX11=>?_
  refine Aw_st hE [35] [] fun K hK=>?_
  simp only [go_sem,seval]
  repeat refine sd0 ?_
  refine hK _ (Aw_cond rfl (fun hc12=>?_) (fun hc12=>?_))
  ·simp only [dte] at hc12
   refine Aw_st hE [4] [] fun K hK=>?_
   simp only [go_sem,seval]
   repeat refine sd0 ?_
   refine hK _ (Aw_ret (hR11 _ (hQ _ ?_)))
   simp only [go_sem,seval]
   rw [← hi.2,cmpL_lt a b i (by omega) (by omega)]
  ·simp only [dfn] at hc12
   refine Aw_skip (hB11 _ ?_)
   refine Aw_st hE [4] [] fun K hK=>?_
   simp only [go_sem,seval]
   repeat refine sd0 ?_
   refine hK _ (Aw_ret (hQ _ ?_))
   simp only [go_sem,seval]
   rw [← hi.2,cmpL_end a b i (by omega) (by omega)]
def gPCmp:List AV→Option (Prop × AV) | [.sl _ e1,.sl _ e2]=>(match intsL e1,intsL e2 with | some a,some b=>some (a.length≤4294967296∧b.length≤4294967296,iv (if pathOk a && pathOk b then pCmp a b else 0)) | _,_=>none) | _=>none
def dPCmpI (pb:Addr):DFn:={ g:=gPCmp,inv:=WP pb }
def gRgCmp:List AV→Option (Prop × AV) | [.agg [.v (.int .i64 f),.v (.int .i64 b)],.agg [.v (.int .i64 f'),.v (.int .i64 b')]]=>some (True,iv (if rngOk f b && rngOk f' b' then rCmp f b f' b' else 0)) | _=>none
def dRgCmp:DFn:={ g:=gRgCmp }
attribute [go_sem] gPCmp dPCmpI gRgCmp dRgCmp
theorem iPCmp_ok (pb:Addr):Fine Tryd.prog 50 (dPCmpI pb).con:=by
 refine fine_det (T:=TT) Tryd.func50 rfl Tryd.ntmps50 (by rw [Tryd.results50]) rfl rfl tt gs_nil (ds_cons (iPathOk_ok pb) (ds_cons cmpI_ok (ds_cons cmpL_ok (ds_cons orL_ok ds_nil))) (wp_inh pb)) ?_
 intro args c r h hc
 simp only [dPCmpI,gPCmp] at h
 split at h
 rotate_left
 ·cases h
 split at h
 rotate_left
 ·cases h
 rename_i t1 e1 t2 e2 _ _ a b hl1 hl2
 obtain rfl:=intsL_eq hl1
 obtain rfl:=intsL_eq hl2
 obtain ⟨rfl,rfl⟩:=Prod.mk.inj (Option.some.inj h)
 refine ⟨by simp,fun k E hE Q hQ=>?_⟩
 refine Aw_st hE [0,1] [] fun K hK=>?_
 simp only [go_sem,seval]
 repeat refine sd0 ?_
 refine hK _ ?_;clear hK K
 refine Aw_sq fun B1 hB1 hR1 hX1=>?_
 refine Aw_st hE [0,1,12] [] fun K hK=>?_
 simp only [go_sem,seval]
 repeat refine sd0 ?_
 refine ⟨fun hg3=>?_,fun hg3=>?_⟩
 ·simp only [Bool.not_eq_true'] at hg3
  repeat refine sd0 ?_
  refine hK _ (Aw_yes rfl ?_)
  refine Aw_st hE [4] [] fun K hK=>?_
  simp only [go_sem,seval]
  repeat refine sd0 ?_
  refine hK _ (Aw_ret (hR1 _ (hQ _ ?_)))
  simp only [go_sem,seval,hg3,Bool.false_and]
 ·simp only [Bool.not_eq_false'] at hg3
  repeat refine sd0 ?_
  refine hK _ (Aw_cond rfl (fun hc4=>?_) (fun hc4=>?_))
  ·simp only [Bool.not_eq_true'] at hc4
   refine Aw_st hE [4] [] fun K hK=>?_
   simp only [go_sem,seval]
   repeat refine sd0 ?_
   refine hK _ (Aw_ret (hR1 _ (hQ _ ?_)))
   simp only [go_sem,seval,hg3,hc4,Bool.and_false]
  ·simp only [Bool.not_eq_false'] at hc4
   refine Aw_skip (hB1 _ ?_)
   refine Aw_st hE [4] [] fun K hK=>?_
   simp only [go_sem,seval,intsL]
   repeat refine sd0 ?_
   refine hK _ (Aw_ret (hQ _ ?_))
   simp only [go_sem,seval,hg3,hc4]
   rfl
def rtCmp (f b:Int) (p:List Int) (k:Int) (m:List Int) (f' b':Int) (p':List Int) (k':Int) (m':List Int):Int:=orL [cmpI k' k,pCmp p p',rCmp f b f' b',pCmp m m']
def gRtCmp:List AV→Option (Prop × AV)
 | [.agg [.v (.int .i64 f),.v (.int .i64 b),.sl _ e1,.v (.int .i64 k),.sl _ e2],.agg [.v (.int .i64 f'),.v (.int .i64 b'),.sl _ e3,.v (.int .i64 k'),.sl _ e4]]=>(match intsL e1,intsL e2,intsL e3,intsL e4 with
  | some p,some m,some p',some m'=>some ((p.length≤4294967296∧p'.length≤4294967296)∧m.length≤4294967296∧m'.length≤4294967296,iv (if rtOk f b p k m && rtOk f' b' p' k' m' then rtCmp f b p k m f' b' p' k' m' else 0))
  | _,_,_,_=>none)
 | _=>none
def dRtCmp:DFn:={ g:=gRtCmp }
def dRtCmpI (pb:Addr):DFn:={ g:=gRtCmp,inv:=WP pb }
def gL4Cmp:List AV→Option (Prop × AV)
 | [.agg [.v (.int .i64 f),.v (.int .i64 b),.sl _ e1,.v (.int .i64 k),.sl _ e2],.agg [.v (.int .i64 f'),.v (.int .i64 b'),.sl _ e3,.v (.int .i64 k'),.sl _ e4]]=>(match intsL e1,intsL e2,intsL e3,intsL e4 with
  | some p,some m,some p',some m'=>some ((p.length≤4294967296∧p'.length≤4294967296)∧m.length≤4294967296∧m'.length≤4294967296,iv (rtCmp f b p k m f' b' p' k' m'))
  | _,_,_,_=>none)
 | _=>none
def dL4Cmp:DFn:={ g:=gL4Cmp }
def gL3Cmp:List AV→Option (Prop × AV) | [.sl _ e1,.sl _ e2]=>(match intsL e1,intsL e2 with | some a,some b=>some (a.length≤4294967296∧b.length≤4294967296,iv (pCmp a b)) | _,_=>none) | _=>none
def dL3Cmp:DFn:={ g:=gL3Cmp }
def gL1Cmp:List AV→Option (Prop × AV) | [.agg [.v (.int .i64 f),.v (.int .i64 b)],.agg [.v (.int .i64 f'),.v (.int .i64 b')]]=>some (True,iv (rCmp f b f' b')) | _=>none
def dL1Cmp:DFn:={ g:=gL1Cmp }
attribute [go_sem] gRtCmp dRtCmp dRtCmpI gL4Cmp dL4Cmp gL3Cmp dL3Cmp gL1Cmp dL1Cmp
theorem l3Cmp_ok:Fine Tryd.prog 43 dL3Cmp.con:=by
 refine fine_det (T:=TT) Tryd.func43 rfl Tryd.ntmps43 (by rw [Tryd.results43]) rfl rfl tt (gs_nil) (ds_nil) ?_
 intro args c r h hc
 simp only [dL3Cmp,gL3Cmp] at h
 split at h
 rotate_left
 ·cases h
 split at h
 rotate_left
 ·cases h
 rename_i t1 e1 t2 e2 _ _ a b hl1 hl2
 obtain rfl:=intsL_eq hl1
 obtain rfl:=intsL_eq hl2
 obtain ⟨rfl,rfl⟩:=Prod.mk.inj (Option.some.inj h)
 refine ⟨by simp,fun k E hE Q hQ=>?_⟩
 refine Aw_st hE [0,1] [] fun K hK=>?_
 simp only [go_sem,seval]
 repeat refine sd0 ?_
 refine hK _ ?_;clear hK K
 refine Aw_sq fun B1 hB1 hR1 hX1=>?_
 refine Aw_st hE [0,1,10] [] fun K hK=>?_
 simp only [go_sem,seval]
 repeat refine sd0 ?_
 refine hK _ (Aw_cond rfl (fun hc2=>?_) (fun hc2=>?_))
 ·have hne:¬ (a.length:Int)=b.length:=by simpa using hc2
  refine Aw_sq fun B3 hB3 hR3 hX3=>?_
  refine Aw_st hE [15] [] fun K hK=>?_
  simp only [go_sem,seval]
  repeat refine sd0 ?_
  refine hK _ (Aw_cond rfl (fun hc4=>?_) (fun hc4=>?_))
  ·simp only [dte] at hc4
   refine Aw_st hE [4] [] fun K hK=>?_
   simp only [go_sem,seval]
   repeat refine sd0 ?_
   refine hK _ (Aw_ret (hR3 _ (hR1 _ (hQ _ ?_))))
   simp only [go_sem,seval]
   simp [pCmp,orL,cmpI_lt hc4]
  ·simp only [dfn] at hc4
   refine Aw_skip (hB3 _ ?_)
   refine Aw_st hE [4] [] fun K hK=>?_
   simp only [go_sem,seval]
   repeat refine sd0 ?_
   refine hK _ (Aw_ret (hR1 _ (hQ _ ?_)))
   simp only [go_sem,seval]
   simp [pCmp,orL,cmpI_gt (show (b.length:Int) < a.length by omega)]
 ·have heq:(a.length:Int)=b.length:=by simpa using hc2
  refine Aw_skip (hB1 _ ?_)
  refine Aw_sq fun B5 hB5 hR5 hX5=>?_
  refine Aw_st hE [0,1,5] [] fun K hK=>?_
  simp only [go_sem,seval]
  repeat refine sd0 ?_
  refine hK _ ?_;clear hK K
  refine Aw_bk fun B6 hN6 hE6 hR6 hX6=>?_
  refine Aw_lp (fun i:Nat=>⟨40,[(0,.sl t1 (rows a)),(1,.sl t2 (rows b)),(5,iv i)],[],k⟩) (fun i:Nat=>i≤a.length∧cmpL (a.drop i) (b.drop i)=cmpL a b) (fun i:Nat=>a.length - i) (0) (Le.refl _) (⟨by omega,by simp⟩) fun i hi B7 hN7 hR7 hX7=>?_
  refine Aw_sq fun B8 hB8 hR8 hX8=>?_
  refine Aw_st hE [0,1,5,19] [] fun K hK=>?_
  simp only [go_sem,seval]
  repeat refine sd0 ?_
  refine hK _ (Aw_cond rfl (fun hc9=>?_) (fun hc9=>?_))
  ·simp only [dte] at hc9
   have hil:i < a.length:=by omega
   have hib:i < b.length:=by omega
   have hst:=cmpL_drop a b i hil hib
   refine Aw_skip (hB8 _ ?_)
   refine Aw_sq fun B10 hB10 hR10 hX10=>?_
   refine Aw_bk fun B11 hN11 hE11 hR11 hX11=>?_
   refine Aw_sq fun B12 hB12 hR12 hX12=>?_
   refine Aw_sd hE [0,1,5,30] [] 6 (by kernel_rfl) fun K hK=>?_
   simp only [go_sem,seval,rows_get a i hil,rows_get b i hib]
   repeat refine sd0 ?_
   refine hK _ (Aw_cond rfl (fun hc13=>?_) (fun hc13=>?_))
   ·simp only [dte] at hc13
    refine Aw_st hE [4] [] fun K hK=>?_
    simp only [go_sem,seval]
    repeat refine sd0 ?_
    refine hK _ (Aw_ret (hR12 _ (hR11 _ (hR10 _ (hR7 _ (hR6 _ (hR5 _ (hQ _ ?_))))))))
    simp only [go_sem,seval]
    rw [cmpI_lt hc13] at hst;simp at hst;rw [pCmp,heq,cmpI_eq,← hi.2,hst];rfl
   ·simp only [dfn] at hc13
    refine Aw_skip (hB12 _ ?_)
    refine Aw_sd hE [0,1,5,39] [] 6 (by kernel_rfl) fun K hK=>?_
    simp only [go_sem,seval,rows_get a i hil,rows_get b i hib]
    repeat refine sd0 ?_
    refine hK _ (Aw_cond rfl (fun hc14=>?_) (fun hc14=>?_))
    ·simp only [dte] at hc14
     refine Aw_st hE [4] [] fun K hK=>?_
     simp only [go_sem,seval]
     repeat refine sd0 ?_
     refine hK _ (Aw_ret (hR11 _ (hR10 _ (hR7 _ (hR6 _ (hR5 _ (hQ _ ?_)))))))
     simp only [go_sem,seval]
     rw [cmpI_gt hc14] at hst;simp at hst;rw [pCmp,heq,cmpI_eq,← hi.2,hst];rfl
    ·simp only [dfn] at hc14
     refine Aw_skip (hN11 _ (hB10 _ ?_))
     refine Aw_tx hE [0,1,5] [] fun K hK=>?_
     simp only [go_sem,seval]
     repeat refine sd0 ?_
     refine hK _ (hN7 (i + 1) _ (⟨by omega,by rw [show a.getD i 0=b.getD i 0 by omega,cmpI_eq] at hst;simp at hst;rw [← hst];exact hi.2⟩) (by omega) (Le.refl _))
  ·simp only [dfn] at hc9
   refine Aw_exit (hX8 _ _ (hX7 _ _ (hE6 _ (hB5 _ ?_))))
   refine Aw_st hE [4] [] fun K hK=>?_
   simp only [go_sem,seval]
   repeat refine sd0 ?_
   refine hK _ (Aw_ret (hQ _ ?_))
   simp only [go_sem,seval]
   rw [pCmp,heq,cmpI_eq,← hi.2,cmpL_end a b i (by omega) (by omega)];rfl
theorem cmpI_cases (a b:Int):(a < b∧cmpI a b = -1)∨(a=b∧cmpI a b=0)∨(b < a∧cmpI a b=1):=by
 rcases Int.lt_trichotomy a b with h | h | h
 ·exact .inl ⟨h,cmpI_lt h⟩
 ·subst h;exact .inr (.inl ⟨rfl,cmpI_eq a⟩)
 ·exact .inr (.inr ⟨h,cmpI_gt h⟩)
theorem cmpL_tr:∀ {a b c:List Int},cmpL a b < 0→cmpL b c < 0→cmpL a c < 0
 | [],[],_,h,_=>by simp [cmpL] at h
 | [],_::_,[],_,h=>by simp [cmpL] at h
 | [],_::_,_::_,_,_=>by simp [cmpL]
 | _::_,[],_,h,_=>by simp [cmpL] at h
 | _::_,_::_,[],_,h=>by simp [cmpL] at h
 | x::a,y::b,z::c,h,k=>by
  simp only [cmpL] at h k ⊢
  rcases cmpI_cases x y with ⟨e1,e2⟩ | ⟨e1,e2⟩ | ⟨e1,e2⟩
  ·rcases cmpI_cases y z with ⟨f1,f2⟩ | ⟨f1,f2⟩ | ⟨f1,f2⟩
   ·rw [cmpI_lt (show x < z by omega)];simp
   ·rw [cmpI_lt (show x < z by omega)];simp
   ·rw [f2] at k;exact absurd k (by simp)
  ·rcases cmpI_cases y z with ⟨f1,f2⟩ | ⟨f1,f2⟩ | ⟨f1,f2⟩
   ·rw [cmpI_lt (show x < z by omega)];simp
   ·subst e1;subst f1
    rw [cmpI_eq,if_pos rfl] at h k ⊢
    exact cmpL_tr h k
   ·rw [f2] at k;exact absurd k (by simp)
  ·rw [e2] at h;exact absurd h (by simp)
theorem cmpL_self:∀ a:List Int,cmpL a a=0
 | []=>rfl
 | x::a=>by rw [cmpL,cmpI_eq,if_pos rfl,cmpL_self a]
theorem pCmp_neg {a b:List Int}:pCmp a b < 0↔a.length < b.length∨(a.length=b.length∧cmpL a b < 0):=by
 unfold pCmp
 rcases cmpI_cases (a.length:Int) b.length with ⟨e1,e2⟩ | ⟨e1,e2⟩ | ⟨e1,e2⟩<;>rw [e2]
 ·have:orL [-1,cmpL a b] = -1:=rfl
  rw [this]
  exact ⟨fun _=>.inl (by omega),fun _=>by decide⟩
 ·have:orL [0,cmpL a b]=cmpL a b:=by
   simp only [orL,if_true];split<;>simp_all
  rw [this]
  constructor
  ·intro h;exact .inr ⟨by omega,h⟩
  ·rintro (h | h)
   ·omega
   ·exact h.2
 ·have:orL [1,cmpL a b]=1:=rfl
  rw [this]
  constructor
  ·intro h;exact absurd h (by decide)
  ·rintro (h | h)<;>omega
theorem pCmp_tr {a b c:List Int} (h:pCmp a b < 0) (k:pCmp b c < 0):pCmp a c < 0:=by
 rw [pCmp_neg] at *
 rcases h with h | h<;>rcases k with k | k
 ·left;omega
 ·left;omega
 ·left;omega
 ·right;exact ⟨by omega,cmpL_tr h.2 k.2⟩
theorem pCmp_irr (a:List Int):¬ pCmp a a < 0:=by
 rw [pCmp_neg,cmpL_self]
 rintro (h | h)
 ·omega
 ·exact absurd h.2 (by decide)
theorem pCmp_cons (h:Int) (a b:List Int):pCmp (h::a) (h::b)=pCmp a b:=by
 unfold pCmp
 have e:cmpI (h::a).length (h::b).length=cmpI a.length b.length:=by
  simp only [List.length_cons,cmpI,Int.natCast_add,Int.add_lt_add_iff_right]
 rw [e,cmpL,cmpI_eq,if_pos rfl]
def minF (m:List Int) (l:List (List Int)):List Int:=l.foldl (fun m y=>if pCmp y m < 0 then y else m) m
def minL:List (List Int)→List Int
 | []=>[]
 | x::l=>minF x l
theorem minF_mem:∀ (l:List (List Int)) (x:List Int),minF x l=x∨minF x l ∈ l
 | [],_=>.inl rfl
 | y::l,x=>by
  unfold minF
  simp only [List.foldl_cons]
  rcases minF_mem l (if pCmp y x < 0 then y else x) with h | h
  ·unfold minF at h
   rw [h]
   split
   ·exact .inr (by simp)
   ·exact .inl rfl
  ·exact .inr (List.mem_cons_of_mem _ h)
theorem minF_lt:∀ (l:List (List Int)) (x:List Int),minF x l=x∨pCmp (minF x l) x < 0
 | [],_=>.inl rfl
 | y::l,x=>by
  have e:minF x (y::l)=minF (if pCmp y x < 0 then y else x) l:=rfl
  rw [e]
  split
  ·rename_i h
   rcases minF_lt l y with k | k
   ·rw [k];exact .inr h
   ·exact .inr (pCmp_tr k h)
  ·exact minF_lt l x
theorem minF_le:∀ (l:List (List Int)) (x y:List Int),(y=x∨y ∈ l)→¬ pCmp y (minF x l) < 0
 | [],x,y,h=>by
  rcases h with rfl | h
  ·exact pCmp_irr y
  ·cases h
 | z::l,x,y,h=>by
  have e:minF x (z::l)=minF (if pCmp z x < 0 then z else x) l:=rfl
  rw [e]
  split
  ·rename_i hz
   rcases h with rfl | h
   ·intro k
    exact minF_le l z z (.inl rfl) (pCmp_tr hz k)
   ·exact minF_le l z y (List.mem_cons.1 h)
  ·rename_i hz
   rcases h with rfl | h
   ·exact minF_le l y y (.inl rfl)
   ·rcases List.mem_cons.1 h with rfl | h
    ·rcases minF_lt l x with k | k
     ·rw [k];exact hz
     ·intro k2;exact hz (pCmp_tr k2 k)
    ·exact minF_le l x y (.inr h)
theorem minL_mem {x:List Int} {l:List (List Int)}:minL (x::l) ∈ x::l:=by
 rcases minF_mem l x with h | h
 ·show minF x l ∈ _
  rw [h];simp
 ·exact List.mem_cons_of_mem _ h
theorem minL_le {x y:List Int} {l:List (List Int)} (h:y ∈ x::l):¬ pCmp y (minL (x::l)) < 0:=minF_le l x y (List.mem_cons.1 h)
abbrev Rel:=Int→Int→Int
abbrev Sta:=Int→List Int
def hI (n:Nat) (x:Int):Prop:=1≤x∧x≤n
def hs (n:Nat):List Int:=(List.range n).map fun (i:Nat)=>(i:Int) + 1
theorem mem_hs {n:Nat} {x:Int}:x ∈ hs n↔hI n x:=by
 simp only [hs,List.mem_map,List.mem_range,hI]
 constructor
 ·rintro ⟨i,h,rfl⟩;omega
 ·intro h;exact ⟨(x - 1).toNat,by omega,by omega⟩
def nxt (w:List Int):Int:=w.getD 1 0
def upW (of:Rel) (b:Int) (w:List Int):Bool:=nxt w == 0 || of b (nxt w) == 1
def tells (of:Rel) (w:List Int) (b h:Int):Bool:=!w.isEmpty && !w.contains h && !(of b h == 0) && (upW of b w || of b h == 1)
def cnd (of:Rel) (W:Sta) (h rel b:Int):Bool:=of h b == rel && tells of (W b) b h
def cands (n:Nat) (of:Rel) (W:Sta) (h rel:Int):List (List Int):=((hs n).filter (cnd of W h rel)).map W
def frst (h:Int):List (List (List Int))→List Int
 | []=>[]
 | []::r=>frst h r
 | (x::l)::_=>h::minL (x::l)
def pickN (n:Nat) (of:Rel) (home:Int) (W:Sta) (h:Int):List Int :=
 if h=home then [home] else frst h [cands n of W h 1,cands n of W h 2,cands n of W h 3]
def putS (W:Sta) (h:Int) (w:List Int):Sta:=fun x=>if x=h then w else W x
def stpN (n:Nat) (of:Rel) (home:Int) (W:Sta) (h:Int):Sta:=putS W h (pickN n of home W h)
def runN (n:Nat) (of:Rel) (home:Int) (W:Sta) (l:List Int):Sta:=l.foldl (stpN n of home) W
def mirr (x:Int):Int:=if x=1 then 3 else if x=3 then 1 else x
def hds (n:Nat) (W:Sta):Prop:=∀ b,hI n b→W b=[]∨(W b).head? = some b
section
variable {n:Nat} {of:Rel} {home:Int} {W:Sta} {h:Int}
theorem cands_get {rel:Int} {x:List Int} {l:List (List Int)} (e:cands n of W h rel=x::l) :
  ∃ b,hI n b∧cnd of W h rel b=true∧minL (x::l)=W b∧∀ y ∈ cands n of W h rel,¬ pCmp y (W b) < 0:=by
 have hm:=minL_mem (x:=x) (l:=l)
 rw [← e] at hm
 obtain ⟨b,hb,hw⟩:=List.mem_map.1 hm
 obtain ⟨h1,h2⟩:=List.mem_filter.1 hb
 refine ⟨b,mem_hs.1 h1,h2,?_,fun y hy=>?_⟩
 ·rw [← e];exact hw.symm
 ·rw [hw,e]
  rw [e] at hy
  exact minL_le hy
theorem pick_home:pickN n of home W home=[home]:=if_pos rfl
theorem pick_cases (hh:h≠home) :
  (pickN n of home W h=[]∧cands n of W h 1=[]∧cands n of W h 2=[]∧cands n of W h 3=[])∨
  ∃ rel b,(rel=1∨rel=2∨rel=3)∧hI n b∧cnd of W h rel b=true∧pickN n of home W h=h::W b∧frst h [cands n of W h rel]=h::W b∧(∀ r,1≤r→r < rel→cands n of W h r=[])∧∀ y ∈ cands n of W h rel,¬ pCmp y (W b) < 0:=by
 unfold pickN
 rw [if_neg hh]
 cases e1:cands n of W h 1 with
 | cons x l =>
  obtain ⟨b,h1,h2,h3,h4⟩:=cands_get e1
  rw [e1] at h4
  exact .inr ⟨1,b,.inl rfl,h1,h2,by simp only [frst,h3],by rw [e1];simp only [frst,h3],fun r _ _=>by omega,by rw [e1];exact h4⟩
 | nil =>
  cases e2:cands n of W h 2 with
  | cons x l =>
   obtain ⟨b,h1,h2,h3,h4⟩:=cands_get e2
   rw [e2] at h4
   exact .inr ⟨2,b,.inr (.inl rfl),h1,h2,by simp only [frst,h3],by rw [e2];simp only [frst,h3],fun r _ _=>by
    obtain rfl:r=1:=by omega
    exact e1,by rw [e2];exact h4⟩
  | nil =>
   cases e3:cands n of W h 3 with
   | cons x l =>
    obtain ⟨b,h1,h2,h3,h4⟩:=cands_get e3
    rw [e3] at h4
    exact .inr ⟨3,b,.inr (.inr rfl),h1,h2,by simp only [frst,h3],by rw [e3];simp only [frst,h3],fun r _ _=>by
     have:r=1∨r=2:=by omega
     rcases this with rfl | rfl
     ·exact e1
     ·exact e2,by rw [e3];exact h4⟩
   | nil=>exact .inl ⟨by simp only [frst],rfl,rfl,rfl⟩
theorem cnd_of {rel b:Int} (h1:cnd of W h rel b=true):of h b=rel∧tells of (W b) b h=true:=by
 simp only [cnd,Bool.and_eq_true,beq_iff_eq] at h1
 exact h1
theorem tells_ne {w:List Int} {b:Int} (h1:tells of w b h=true):w≠[]∧w.contains h=false∧of b h≠0:=by
 simp only [tells,Bool.and_eq_true,Bool.not_eq_true',beq_eq_false_iff_ne,ne_eq,List.isEmpty_eq_false_iff] at h1
 exact ⟨h1.1.1.1,h1.1.1.2,h1.1.2⟩
theorem nxt_cons (W1:hds n W) {b:Int} (hb:hI n b) (hne:W b≠[]):nxt (h::W b)=b:=by
 rcases W1 b hb with e | e
 ·exact absurd e hne
 ·cases hw:W b with
  | nil=>exact absurd hw hne
  | cons x l =>
   rw [hw] at e
   simp only [List.head?_cons,Option.some.injEq] at e
   subst e;rfl
end
def cvw (of:Rel) (b:Int) (w:List Int):List Int:=if !w.isEmpty && upW of b w then w else []
def pvw (of:Rel) (b:Int) (w:List Int):List Int:=if !w.isEmpty && (upW of b w || of b (nxt w) == 2) then w else []
section
variable {n:Nat} {of:Rel} {home:Int} {W:Sta} {h:Int}
theorem kinds (hd:hds n W) {rel b:Int} (hr:rel=1∨rel=2∨rel=3) (hb:hI n b) (hc:cnd of W h rel b=true) :
  cvw of h (h::W b)=(if rel=1 then h::W b else [])∧pvw of h (h::W b)=if rel=3 then [] else h::W b:=by
 obtain ⟨c1,c2⟩:=cnd_of hc
 obtain ⟨t1,_,_⟩:=tells_ne c2
 have hx:=nxt_cons (h:=h) hd hb t1
 have hb0:(b == 0)=false:=by have:=hb.1;simp;omega
 unfold cvw pvw upW
 rw [hx,hb0,c1]
 rcases hr with rfl | rfl | rfl<;>exact ⟨rfl,rfl⟩
end
def full (n:Nat) (l:List Int):Prop:=(∀ x ∈ l,hI n x)∧∀ h,hI n h→h ∈ l
section
variable {n:Nat} {of:Rel} {home:Int} {α:Type} {I:Sta→Prop} {v:Int→List Int→α} {T:Int→α} {r:Int→Nat}
end
section
variable {n:Nat} {of:Rel} {home:Int} {rk:Int→Nat}
end
def toS (L:List (List Int)):Sta:=fun x=>if 1≤x then L.getD (x - 1).toNat [] else []
def ofR (R:List (List Int)):Rel:=fun a b=>if 1≤a∧1≤b then (R.getD (a - 1).toNat []).getD (b - 1).toNat 0 else 0
def stpL (n:Nat) (of:Rel) (home:Int) (L:List (List Int)) (h:Int):List (List Int):=L.set (h - 1).toNat (pickN n of home (toS L) h)
def runL (n:Nat) (of:Rel) (home:Int) (L:List (List Int)) (l:List Int):List (List Int):=l.foldl (stpL n of home) L
def noneL (n:Nat) (home:Int):List (List Int):=(List.replicate n []).set (home - 1).toNat [home]
def rndL (n k:Nat):List Int:=(List.replicate k (hs n)).flatten
def endL (n:Nat) (of:Rel) (home:Int):List (List Int):=runL n of home (noneL n home) (rndL n (4 * n))
section
variable {n:Nat} {of:Rel} {home:Int} {L:List (List Int)} {h:Int}
theorem toS_set (hl:L.length=n) (hh:hI n h) (w:List Int):toS (L.set (h - 1).toNat w)=putS (toS L) h w:=by
 funext x
 have h1:=hh.1
 have h2:=hh.2
 unfold toS putS
 by_cases e:x=h
 ·subst e
  rw [if_pos hh.1,if_pos rfl,List.getD_eq_getElem?_getD,List.getElem?_set_self (by omega)];rfl
 ·rw [if_neg e]
  show _=if 1≤x then L.getD (x - 1).toNat [] else []
  by_cases hx:1≤x
  ·rw [if_pos hx,if_pos hx,List.getD_eq_getElem?_getD,List.getD_eq_getElem?_getD,List.getElem?_set_ne (by omega)]
  ·rw [if_neg hx,if_neg hx]
theorem stpL_len (L:List (List Int)) (h:Int):(stpL n of home L h).length=L.length:=List.length_set
theorem toS_stp (hl:L.length=n) (hh:hI n h):toS (stpL n of home L h)=stpN n of home (toS L) h:=toS_set hl hh _
theorem toS_run:∀ (l:List Int) {L:List (List Int)},L.length=n→(∀ x ∈ l,hI n x)→toS (runL n of home L l)=runN n of home (toS L) l∧(runL n of home L l).length=n
 | [],_,hl,_=>⟨rfl,hl⟩
 | x::l,L,hl,hx=>by
  have h1:=toS_stp (of:=of) (home:=home) hl (hx x (by simp))
  have:=toS_run l (L:=stpL n of home L x) (by rw [stpL_len];exact hl) fun y hy=>hx y (List.mem_cons_of_mem _ hy)
  rw [h1] at this
  exact this
theorem runL_app (L:List (List Int)) (a b:List Int):runL n of home L (a++b)=runL n of home (runL n of home L a) b:=by
 unfold runL;rw [List.foldl_append]
theorem toS_succ (L:List (List Int)) (i:Nat):toS L ((i:Int) + 1)=L.getD i []:=by
 unfold toS
 rw [if_pos (by omega),show ((i:Int) + 1 - 1).toNat=i by omega]
theorem noneL_len:(noneL n home).length=n:=by unfold noneL;rw [List.length_set,List.length_replicate]
def lnk (of:Rel):List Int→Bool
 | x::y::l=>!(of x y == 0) && lnk of (y::l)
 | _=>true
def wayOk (n:Nat) (of:Rel) (home h:Int) (w:List Int):Bool :=
 if w.isEmpty then !(h == home)
 else w.all (fun x=>decide (1≤x) && decide (x≤n)) && lnk of w && pathOk w && w.head? == some h && w.getLast? == some home && (!(h == home) || w.length == 1)
theorem wayOk_nil:wayOk n of home h [] = !(h == home):=rfl
theorem wayOk_iff {w:List Int} (hne:w≠[]):wayOk n of home h w=true↔(∀ x ∈ w,hI n x)∧lnk of w=true∧pathOk w=true∧w.head? = some h∧w.getLast? = some home∧(h≠home∨w.length=1):=by
 unfold wayOk
 rw [if_neg (by simpa using hne)]
 simp only [Bool.and_eq_true,List.all_eq_true,dte,beq_iff_eq,Bool.or_eq_true,Bool.not_eq_true',beq_eq_false_iff_ne,ne_eq,hI,and_assoc]
def netS (n:Nat) (of:Rel) (home:Int) (W:Sta):Prop:=hI n home∧∀ h,hI n h→wayOk n of home h (W h)=true
theorem wayPick_ok (h5:n≤5) {W:Sta} (hv:netS n of home W) (hh:hI n h):wayOk n of home h (pickN n of home W h)=true:=by
 have isH_of:∀ x,hI n x→isH x=true:=fun x hx=>by
  have h1:=hx.1
  have h2:=hx.2
  simp only [isH,Bool.and_eq_true,dte];omega
 by_cases e:h=home
 ·subst e
  rw [pick_home,wayOk_iff (by simp)]
  refine ⟨fun x hx=>by rw [List.mem_singleton.1 hx];exact hh,rfl,?_,rfl,rfl,.inr rfl⟩
  simp [pathOk,isH_of h hh]
 ·rcases pick_cases (n:=n) (of:=of) (W:=W) e with ⟨e1,_⟩ | ⟨rel,b,hr,hb,hc,e1,_⟩
  ·rw [e1,wayOk_nil];simpa using e
  ·obtain ⟨c1,c2⟩:=cnd_of hc
   obtain ⟨t1,t2,_⟩:=tells_ne c2
   obtain ⟨w1,w2,w3,w4,w5,_⟩:=(wayOk_iff t1).1 (hv.2 b hb)
   rw [e1,wayOk_iff (by simp)]
   refine ⟨fun x hx=>?_,?_,?_,rfl,?_,.inl e⟩
   ·rcases List.mem_cons.1 hx with rfl | hx
    ·exact hh
    ·exact w1 x hx
   ·cases hw:W b with
    | nil=>exact absurd hw t1
    | cons y l =>
     rw [hw] at w4 w2
     simp only [List.head?_cons,Option.some.injEq] at w4
     subst w4
     have:(of h y == 0)=false:=by rw [c1];rcases hr with rfl | rfl | rfl<;>rfl
     simp only [lnk,this,w2,Bool.not_false,Bool.and_self]
   ·simp only [pathOk,Bool.and_eq_true,List.all_cons,dte,List.nodup_cons] at w3 ⊢
    exact ⟨⟨isH_of h hh,w3.1⟩,by simpa using t2,w3.2⟩
   ·rw [← w5]
    cases hw:W b with
    | nil=>exact absurd hw t1
    | cons y l=>rfl
theorem netS_stp (h5:n≤5) {W:Sta} (hv:netS n of home W) (hh:hI n h):netS n of home (stpN n of home W h):=by
 refine ⟨hv.1,fun b hb=>?_⟩
 unfold stpN putS
 split
 ·rename_i e;subst e;exact wayPick_ok h5 hv hb
 ·exact hv.2 b hb
theorem netS_run (h5:n≤5):∀ (l:List Int) {W:Sta},netS n of home W→(∀ x ∈ l,hI n x)→netS n of home (runN n of home W l)
 | [],_,hv,_=>hv
 | x::l,W,hv,hx=>netS_run h5 l (netS_stp h5 hv (hx x (by simp))) fun y hy=>hx y (List.mem_cons_of_mem _ hy)
end
section
variable {n:Nat} {of:Rel} {home:Int} {h:Int} {rk:Int→Nat} {W:Sta}
end
theorem sub_len:∀ (l m:List Int),l.Nodup→(∀ x ∈ l,x ∈ m)→l.length≤m.length
 | [],_,_,_=>Nat.zero_le _
 | x::l,m,hd,hx=>by
  rw [List.nodup_cons] at hd
  have h1:=sub_len l (m.erase x) hd.2 fun y hy=>(List.mem_erase_of_ne (fun (e:y=x)=>hd.1 (by rw [← e];exact hy))).2 (hx y (List.mem_cons_of_mem _ hy))
  have hm:=hx x (by simp)
  rw [List.length_erase_of_mem hm] at h1
  have:=List.length_pos_of_mem hm
  simp only [List.length_cons]
  omega
def relsOk (R:List (List Int)):Bool :=
 decide (1≤R.length) && decide (R.length≤5) && R.all (fun r=>r.length == R.length) &&
  (hs R.length).all fun a=>(hs R.length).all fun b=>decide (0≤ofR R a b) && decide (ofR R a b≤3) && ofR R b a == mirr (ofR R a b) && (!(a == b) || ofR R a b == 0)
theorem relsOk_iff {R:List (List Int)}:relsOk R=true↔(1≤R.length∧R.length≤5)∧(∀ r ∈ R,r.length=R.length)∧
  ∀ a b,hI R.length a→hI R.length b→(0≤ofR R a b∧ofR R a b≤3)∧ofR R b a=mirr (ofR R a b)∧(a=b→ofR R a b=0):=by
 simp only [relsOk,Bool.and_eq_true,List.all_eq_true,dte,beq_iff_eq,Bool.or_eq_true,Bool.not_eq_true',beq_eq_false_iff_ne,mem_hs]
 constructor
 ·rintro ⟨⟨⟨h1,h2⟩,h3⟩,h4⟩
  refine ⟨⟨h1,h2⟩,h3,fun a b ha hb=>?_⟩
  obtain ⟨⟨⟨g1,g2⟩,g3⟩,g4⟩:=h4 a ha b hb
  exact ⟨⟨g1,g2⟩,g3,fun e=>g4.resolve_left fun h=>h e⟩
 ·rintro ⟨⟨h1,h2⟩,h3,h4⟩
  refine ⟨⟨⟨h1,h2⟩,h3⟩,fun a ha b hb=>?_⟩
  obtain ⟨⟨g1,g2⟩,g3,g4⟩:=h4 a b ha hb
  refine ⟨⟨⟨g1,g2⟩,g3⟩,?_⟩
  by_cases e:a=b
  ·exact .inr (g4 e)
  ·exact .inl e
def netOk (R:List (List Int)) (home:Int) (L:List (List Int)):Bool :=
 relsOk R && (decide (1≤home) && decide (home≤R.length)) && L.length == R.length && (hs R.length).all fun h=>wayOk R.length (ofR R) home h (toS L h)
theorem netOk_iff {R:List (List Int)} {home:Int} {L:List (List Int)}:netOk R home L=true↔relsOk R=true∧L.length=R.length∧netS R.length (ofR R) home (toS L):=by
 simp only [netOk,netS,Bool.and_eq_true,List.all_eq_true,dte,beq_iff_eq,mem_hs,hI]
 constructor
 ·rintro ⟨⟨⟨h1,h2⟩,h3⟩,h4⟩;exact ⟨h1,h3,h2,h4⟩
 ·rintro ⟨h1,h3,h2,h4⟩;exact ⟨⟨⟨h1,h2⟩,h3⟩,h4⟩
def wrow (w:List Int):List DV:=[.sl (rows w)]
def wrows (W:List (List Int)):List (List DV):=W.map wrow
def waysL:List (List DV)→Option (List (List Int))
 | []=>some []
 | [.sl e]::l=>match intsL e,waysL l with
  | some a,some r=>some (a::r)
  | _,_=>none
 | _=>none
theorem wrows_nil:wrows []=[]:=rfl
theorem wrows_cons (c:List Int) (l:List (List Int)):wrows (c::l)=wrow c::wrows l:=rfl
theorem waysL_rows (l:List (List Int)):waysL (wrows l)=some l:=by
 induction l with
 | nil=>rfl
 | cons n l ih=>simp only [wrows_cons,wrow,waysL,ih,intsL_rows]
theorem waysL_eq {els:List (List DV)}:∀ {l:List (List Int)},waysL els=some l→els=wrows l:=by
 induction els with
 | nil=>intro l h;obtain rfl:=Option.some.inj h;rfl
 | cons row els ih =>
  intro l h
  unfold waysL at h
  split at h
  ·rename_i e;cases e
  ·rename_i l' e
   obtain ⟨rfl,rfl⟩:=List.cons.inj e
   split at h
   ·rename_i p r hp hr
    obtain rfl:=Option.some.inj h
    rw [ih hr,intsL_eq hp];rfl
   ·cases h
  ·cases h
theorem wrows_len (l:List (List Int)):(wrows l).length=l.length:=by simp [wrows]
theorem wrows_get (l:List (List Int)) (i:Nat) (h:i < l.length):(wrows l)[i]? = some [.sl (rows (l.getD i []))]:=by
 simp [wrows,wrow,List.getD_eq_getElem?_getD,h]
theorem wrows_app (a b:List (List Int)):wrows a++wrows b=wrows (a++b):=by simp [wrows]
theorem wrows_row (l:List (List Int)):∀ row ∈ wrows l,row.length=1:=by simp [wrows,wrow]
theorem wrows_one (c:List Int):[[DV.sl (rows c)]]=wrows [c]:=rfl
theorem wrows_drop (l:List (List Int)) (n:Nat):(wrows l).drop n=wrows (l.drop n):=by simp [wrows]
theorem wrows_take (l:List (List Int)) (n:Nat):(wrows l).take n=wrows (l.take n):=by simp [wrows]
attribute [go_sem] waysL_rows wrows_len wrows_nil wrows_app wrows_drop wrows_take
abbrev wsl (W:List (List Int)):AV:=.sl none (wrows W)
def sqR (R:List (List Int)):Prop:=R.length≤1000∧∀ r ∈ R,r.length=R.length
theorem getD_memL (l:List (List Int)) (i:Nat) (h:i < l.length):l.getD i [] ∈ l:=by
 rw [List.getD_eq_getElem?_getD,List.getElem?_eq_getElem h];exact List.getElem_mem h
theorem sq_row {R:List (List Int)} (h:sqR R) {i:Nat} (hi:i < R.length):(R.getD i []).length=R.length:=h.2 _ (getD_memL R i hi)
theorem relsOk_sq {R:List (List Int)} (h:relsOk R=true):sqR R:=by
 obtain ⟨h1,h2,_⟩:=relsOk_iff.1 h
 exact ⟨by omega,h2⟩
theorem ofR_nat (R:List (List Int)) (i k:Nat):ofR R ((i:Int) + 1) ((k:Int) + 1)=(R.getD i []).getD k 0:=by
 unfold ofR
 rw [if_pos ⟨by omega,by omega⟩,show ((i:Int) + 1 - 1).toNat=i by omega,show ((k:Int) + 1 - 1).toNat=k by omega]
theorem ofR_in (R:List (List Int)) {a b:Int} (ha:1≤a) (hb:1≤b):ofR R a b=(R.getD (a - 1).toNat []).getD (b - 1).toNat 0:=if_pos ⟨ha,hb⟩
theorem relsOk_iffN {R:List (List Int)}:relsOk R=true↔(1≤R.length∧R.length≤5)∧∀ i,i < R.length→(R.getD i []).length=R.length∧
  ∀ k,k < R.length→(0≤(R.getD i []).getD k 0∧(R.getD i []).getD k 0≤3)∧(R.getD k []).getD i 0=mirr ((R.getD i []).getD k 0)∧(i=k→(R.getD i []).getD k 0=0):=by
 rw [relsOk_iff]
 constructor
 ·rintro ⟨h1,h2,h3⟩
  refine ⟨h1,fun i hi=>⟨h2 _ (getD_memL R i hi),fun k hk=>?_⟩⟩
  have:=h3 ((i:Int) + 1) ((k:Int) + 1) ⟨by omega,by omega⟩ ⟨by omega,by omega⟩
  rw [ofR_nat,ofR_nat] at this
  exact ⟨this.1,this.2.1,fun e=>this.2.2 (by rw [e])⟩
 ·rintro ⟨h1,h2⟩
  refine ⟨h1,fun r hr=>?_,fun a b ha hb=>?_⟩
  ·obtain ⟨i,hi,rfl⟩:=List.getElem_of_mem hr
   have:=(h2 i hi).1
   rwa [List.getD_eq_getElem?_getD,List.getElem?_eq_getElem hi] at this
  ·obtain ⟨a1,a2⟩:=ha
   obtain ⟨b1,b2⟩:=hb
   have:=(h2 (a - 1).toNat (by omega)).2 (b - 1).toNat (by omega)
   rw [ofR_in R a1 b1,ofR_in R b1 a1]
   exact ⟨this.1,this.2.1,fun e=>this.2.2 (by rw [e])⟩
def inW (n:Nat) (W:List (List Int)):Prop:=W.length=n∧∀ w ∈ W,w.length≤5∧∀ x ∈ w,hI n x
theorem pathOk_len {p:List Int} (h:pathOk p=true):p.length≤5:=by
 simp only [pathOk,Bool.and_eq_true,List.all_eq_true,dte] at h
 refine sub_len p [1,2,3,4,5] h.2 fun x hx=>?_
 have:=h.1 x hx
 simp only [isH,Bool.and_eq_true,dte] at this
 have:x=1∨x=2∨x=3∨x=4∨x=5:=by omega
 simpa using this
theorem toS_in {L:List (List Int)} {h:Int} (h1:1≤h):toS L h=L.getD (h - 1).toNat []:=if_pos h1
theorem netS_in {n:Nat} {of:Rel} {home:Int} {L:List (List Int)} (hl:L.length=n) (hv:netS n of home (toS L)):inW n L:=by
 refine ⟨hl,fun w hw=>?_⟩
 obtain ⟨i,hi,rfl⟩:=List.getElem_of_mem hw
 have:=hv.2 ((i:Int) + 1) ⟨by omega,by omega⟩
 rw [toS_succ,List.getD_eq_getElem?_getD,List.getElem?_eq_getElem hi,Option.getD_some] at this
 by_cases e:L[i]=[]
 ·rw [e];exact ⟨by simp,fun x hx=>by cases hx⟩
 ·obtain ⟨w1,_,w3,_⟩:=(wayOk_iff e).1 this
  exact ⟨pathOk_len w3,w1⟩
set_option maxRecDepth 100000
def gBack:List AV→Option (Prop × AV) | [.v (.int .i64 x)]=>some (0≤x∧x≤3,iv (mirr x)) | _=>none
def dBack:DFn:={ g:=gBack }
attribute [go_sem] gBack dBack
theorem back_get {x:Int} (h0:0≤x) (h3:x≤3):(rows [0,3,2,1])[x.toNat]? = some [.v (.int .i64 (mirr x))]:=by
 have:x=0∨x=1∨x=2∨x=3:=by omega
 rcases this with rfl | rfl | rfl | rfl<;>rfl
theorem back_rows:[[DV.v (.int .i64 0)],[DV.v (.int .i64 3)],[DV.v (.int .i64 2)],[DV.v (.int .i64 1)]]=rows [0,3,2,1]:=rfl
theorem back_ok:Fine Tryd.prog 51 dBack.con:=by
 refine fine_det (T:=TT) Tryd.func51 rfl Tryd.ntmps51 (by rw [Tryd.results51]) rfl rfl tt (gs_nil) (ds_nil) ?_
 intro args c r h hc
 simp only [dBack,gBack] at h
 split at h
 rotate_left
 ·cases h
 obtain ⟨rfl,rfl⟩:=Prod.mk.inj (Option.some.inj h)
 refine ⟨by simp,fun k E hE Q hQ=>?_⟩
 refine Aw_st hE [0] [] fun K hK=>?_
 simp only [go_sem,seval]
 repeat refine sd0 ?_
 refine hK _ ?_;clear hK K
 refine Aw_st hE [2] [] fun K hK=>?_
 simp only [go_sem,seval,chunks,List.take_succ_cons,List.drop_succ_cons,back_rows,back_get hc.1 hc.2]
 repeat refine sd0 ?_
 refine hK _ (Aw_ret (hQ _ ?_))
 simp only [go_sem,seval]
def gOf:List AV→Option (Prop × AV)
 | [.sl _ els,.v (.int .i64 a),.v (.int .i64 b)]=>(match waysL els with
  | some R=>some (sqR R∧(1≤a∧a≤R.length)∧1≤b∧b≤R.length,iv (ofR R a b))
  | none=>none)
 | _=>none
def dOf:DFn:={ g:=gOf }
attribute [go_sem] gOf dOf
theorem sOfR_ok:Fine Tryd.prog 41 dOf.con:=by
 refine fine_det (T:=TT) Tryd.func41 rfl Tryd.ntmps41 (by rw [Tryd.results41]) rfl rfl tt (gs_nil) (ds_nil) ?_
 intro args c r h hc
 simp only [dOf,gOf] at h
 split at h
 rotate_left
 ·cases h
 split at h
 rotate_left
 ·cases h
 rename_i t els a b _ R hiw
 obtain rfl:=waysL_eq hiw
 obtain ⟨rfl,rfl⟩:=Prod.mk.inj (Option.some.inj h)
 refine ⟨by simp,fun k E hE Q hQ=>?_⟩
 obtain ⟨hsq,⟨ha1,ha2⟩,hb1,hb2⟩:=hc
 have hg:=wrows_get R (a - 1).toNat (by omega)
 have hl:=sq_row hsq (i:=(a - 1).toNat) (by omega)
 have hg2:=rows_get (R.getD (a - 1).toNat []) (b - 1).toNat (by omega)
 have hR:=hsq.1
 refine Aw_st hE [0,1,2] [] fun K hK=>?_
 simp only [go_sem,seval]
 repeat refine sd0 ?_
 refine hK _ ?_;clear hK K
 refine Aw_st hE [6] [] fun K hK=>?_
 simp only [go_sem,seval,hg,hg2]
 repeat refine sd0 ?_
 refine hK _ (Aw_ret (hQ _ ?_))
 simp only [go_sem,seval,ofR_in R ha1 hb1]
def mayB (of:Rel) (h o t:Int):Bool:=!(of h t == 0) && (o == 0 || of h o == 1 || of h t == 1)
theorem tells_may (of:Rel) (w:List Int) (b h:Int):tells of w b h=(!w.isEmpty && !w.contains h && mayB of b (nxt w) h):=by
 unfold tells mayB upW
 cases w.isEmpty<;>cases w.contains h<;>cases (of b h == 0)<;>rfl
theorem beq_dec (a b:Int):(a == b)=decide (a=b):=rfl
def gMay:List AV→Option (Prop × AV)
 | [.sl _ els,.v (.int .i64 h),.v (.int .i64 o),.v (.int .i64 t)]=>(match waysL els with
  | some R=>some (sqR R∧(1≤h∧h≤R.length)∧(0≤o∧o≤R.length)∧1≤t∧t≤R.length,bv (mayB (ofR R) h o t))
  | none=>none)
 | _=>none
def dMay:DFn:={ g:=gMay }
attribute [go_sem] gMay dMay
theorem may_ok:Fine Tryd.prog 57 dMay.con:=by
 refine fine_det (T:=TT) Tryd.func57 rfl Tryd.ntmps57 (by rw [Tryd.results57]) rfl rfl tt (gs_nil) (ds_cons sOfR_ok ds_nil) ?_
 intro args c r h hc
 simp only [dMay,gMay] at h
 split at h
 rotate_left
 ·cases h
 split at h
 rotate_left
 ·cases h
 rename_i t els a o u _ R hiw
 obtain rfl:=waysL_eq hiw
 obtain ⟨rfl,rfl⟩:=Prod.mk.inj (Option.some.inj h)
 refine ⟨by simp,fun k E hE Q hQ=>?_⟩
 obtain ⟨hsq,⟨hh1,hh2⟩,⟨ho1,ho2⟩,ht1,ht2⟩:=hc
 refine Aw_st hE [0,1,2,3] [] fun K hK=>?_
 simp only [go_sem,seval]
 repeat refine sd0 ?_
 refine hK _ ?_;clear hK K
 refine Aw_sq fun B1 hB1 hR1 hX1=>?_
 refine Aw_st hE [0,1,2,3,13] [] fun K hK=>?_
 simp only [go_sem,seval,hsq,hh1,hh2,ht1,ht2]
 repeat refine sd0 ?_
 refine hK _ (Aw_cond rfl (fun hc2=>?_) (fun hc2=>?_))
 ·simp only [dte] at hc2
  refine Aw_st hE [8] [] fun K hK=>?_
  simp only [go_sem,seval]
  repeat refine sd0 ?_
  refine hK _ (Aw_ret (hR1 _ (hQ _ ?_)))
  simp only [go_sem,seval]
  simp [mayB,hc2,beq_dec]
 ·simp only [dfn] at hc2
  refine Aw_skip (hB1 _ ?_)
  refine Aw_st hE [8] [] fun K hK=>?_
  simp only [go_sem,seval,hsq,hh1,hh2,ht1,ht2,ho2]
  repeat refine sd0 ?_
  refine ⟨fun h1=>?_,fun h1=>⟨by simp only [dfn] at h1;omega,fun h2=>?_,fun h2=>?_⟩⟩
  all_goals
   refine hK _ (Aw_ret (hQ _ ?_))
   simp only [go_sem,seval]
   simp_all [mayB,beq_dec]
def gTells:List AV→Option (Prop × AV)
 | [.sl _ els,.sl _ e2,.v (.int .i64 b),.v (.int .i64 h)]=>(match waysL els,intsL e2 with
  | some R,some w=>some ((sqR R∧w.length≤5∧∀ x ∈ w,hI R.length x)∧(1≤h∧h≤R.length)∧1≤b∧b≤R.length,bv (tells (ofR R) w b h))
  | _,_=>none)
 | _=>none
def dTells:DFn:={ g:=gTells }
attribute [go_sem] gTells dTells
theorem nxt_get {w:List Int} (h:1 < w.length):(rows w)[1]? = some [.v (.int .i64 (nxt w))]:=rows_get w 1 h
theorem nxt_short {w:List Int} (h:¬ 1 < w.length):nxt w=0:=by
 unfold nxt
 rw [List.getD_eq_getElem?_getD,List.getElem?_eq_none (by omega)];rfl
theorem nxt_mem {w:List Int} (h:1 < w.length):nxt w ∈ w:=getD_mem w 1 h
theorem tells_e {of:Rel} {w:List Int} {b h:Int} (e:decide ((w.length:Int)=0)=true):tells of w b h=false:=by
 simp only [dte] at e
 have:w=[]:=List.eq_nil_of_length_eq_zero (by omega)
 subst this;rfl
theorem tells_c {of:Rel} {w:List Int} {b h:Int} (e:w.contains h=true):tells of w b h=false:=by
 rw [tells_may,e];simp
theorem tells_m {of:Rel} {w:List Int} {b h:Int} (e:decide ((w.length:Int)=0)=false) (e2:w.contains h=false):tells of w b h=mayB of b (nxt w) h:=by
 simp only [dfn] at e
 have:w.isEmpty=false:=by cases w with
  | nil=>simp at e
  | cons=>rfl
 rw [tells_may,this,e2];simp
theorem sTells_ok:Fine Tryd.prog 42 dTells.con:=by
 refine fine_det (T:=TT) Tryd.func42 rfl Tryd.ntmps42 (by rw [Tryd.results42]) rfl rfl tt (gs_nil) (ds_cons has3_ok (ds_cons may_ok ds_nil)) ?_
 intro args c r h hc
 simp only [dTells,gTells] at h
 split at h
 rotate_left
 ·cases h
 split at h
 rotate_left
 ·cases h
 rename_i t els t2 e2 b a _ _ R w hiw hl
 obtain rfl:=waysL_eq hiw
 obtain rfl:=intsL_eq hl
 obtain ⟨rfl,rfl⟩:=Prod.mk.inj (Option.some.inj h)
 refine ⟨by simp,fun k E hE Q hQ=>?_⟩
 obtain ⟨⟨hsq,hwl,hwx⟩,⟨hh1,hh2⟩,hb1,hb2⟩:=hc
 refine Aw_st hE [0,1,2,3] [] fun K hK=>?_
 simp only [go_sem,seval]
 repeat refine sd0 ?_
 refine hK _ ?_;clear hK K
 refine Aw_sq fun B1 hB1 hR1 hX1=>?_
 refine Aw_st hE [0,1,2,3,17] [] fun K hK=>?_
 simp only [go_sem,seval]
 repeat refine sd0 ?_
 refine ⟨fun hg3=>?_,fun hg3=>?_⟩
 ·repeat refine sd0 ?_
  refine hK _ (Aw_yes rfl ?_)
  refine Aw_st hE [8] [] fun K hK=>?_
  simp only [go_sem,seval]
  repeat refine sd0 ?_
  refine hK _ (Aw_ret (hR1 _ (hQ _ ?_)))
  simp only [go_sem,seval,tells_e hg3]
 ·repeat refine sd0 ?_
  refine hK _ (Aw_cond rfl (fun hc4=>?_) (fun hc4=>?_))
  ·refine Aw_st hE [8] [] fun K hK=>?_
   simp only [go_sem,seval]
   repeat refine sd0 ?_
   refine hK _ (Aw_ret (hR1 _ (hQ _ ?_)))
   simp only [go_sem,seval,tells_c hc4]
  ·refine Aw_skip (hB1 _ ?_)
   refine Aw_st hE [0,1,2,3,9] [] fun K hK=>?_
   simp only [go_sem,seval]
   repeat refine sd0 ?_
   refine hK _ ?_;clear hK K
   refine Aw_sq fun B5 hB5 hR5 hX5=>?_
   refine Aw_st hE [0,1,2,3,9,20] [] fun K hK=>?_
   simp only [go_sem,seval]
   repeat refine sd0 ?_
   refine hK _ (Aw_cond rfl (fun hc6=>?_) (fun hc6=>?_))
   ·simp only [dte] at hc6
    have hl1:1 < w.length:=by omega
    have hn:=hwx _ (nxt_mem hl1)
    obtain ⟨hn1,hn2⟩:=hn
    refine Aw_tx hE [0,2,3,9] [] fun K hK=>?_
    simp only [go_sem,seval,nxt_get hl1]
    repeat refine sd0 ?_
    refine hK _ (hB5 _ ?_)
    refine Aw_st hE [8] [] fun K hK=>?_
    simp only [go_sem,seval,hsq,hh1,hh2,hb1,hb2]
    repeat refine sd0 ?_
    refine hK _ (Aw_ret (hQ _ ?_))
    simp only [go_sem,seval,tells_m hg3 hc4]
   ·simp only [dfn] at hc6
    have hl1:nxt w=0:=nxt_short (by omega)
    refine Aw_skip (hB5 _ ?_)
    refine Aw_st hE [8] [] fun K hK=>?_
    simp only [go_sem,seval,hsq,hh1,hh2,hb1,hb2]
    repeat refine sd0 ?_
    refine hK _ (Aw_ret (hQ _ ?_))
    simp only [go_sem,seval,tells_m hg3 hc4,hl1]
def bigM (M:List (List Int)):Prop:=M.length≤2000000∧∀ r ∈ M,r.length≤2000000
def gRelsOk:List AV→Option (Prop × AV)
 | [.sl _ els]=>(match waysL els with
  | some R=>some (bigM R,bv (relsOk R))
  | none=>none)
 | _=>none
def dRelsOk:DFn:={ g:=gRelsOk }
attribute [go_sem] gRelsOk dRelsOk
def okC (R:List (List Int)) (i k:Nat):Prop:=(R.getD k []).length=R.length∧(0≤(R.getD i []).getD k 0∧(R.getD i []).getD k 0≤3)∧(R.getD k []).getD i 0=mirr ((R.getD i []).getD k 0)∧(i=k→(R.getD i []).getD k 0=0)
theorem relsOk_C {R:List (List Int)}:relsOk R=true↔(1≤R.length∧R.length≤5)∧∀ i,i < R.length→(R.getD i []).length=R.length∧∀ k,k < R.length→okC R i k:=by
 rw [relsOk_iffN]
 constructor
 ·rintro ⟨h1,h2⟩
  exact ⟨h1,fun i hi=>⟨(h2 i hi).1,fun k hk=>⟨(h2 k hk).1,(h2 i hi).2 k hk⟩⟩⟩
 ·rintro ⟨h1,h2⟩
  exact ⟨h1,fun i hi=>⟨(h2 i hi).1,fun k hk=>((h2 i hi).2 k hk).2⟩⟩
theorem rels_no1 {R:List (List Int)} {i:Nat} (hi:i < R.length) (h:(R.getD i []).length≠R.length):relsOk R=false:=by
 cases e:relsOk R with
 | false=>rfl
 | true=>exact absurd ((relsOk_C.1 e).2 i hi).1 h
theorem rels_no2 {R:List (List Int)} {i k:Nat} (hi:i < R.length) (hk:k < R.length) (h:¬ okC R i k):relsOk R=false:=by
 cases e:relsOk R with
 | false=>rfl
 | true=>exact absurd (((relsOk_C.1 e).2 i hi).2 k hk) h
set_option maxHeartbeats 4000000 in
theorem sRelsOk_ok:Fine Tryd.prog 31 dRelsOk.con:=by
 refine fine_det (T:=TT) Tryd.func31 rfl Tryd.ntmps31 (by rw [Tryd.results31]) rfl rfl tt (gs_nil) (ds_cons in_ok (ds_cons back_ok ds_nil)) ?_
 intro args c r h hc
 simp only [dRelsOk,gRelsOk] at h
 split at h
 rotate_left
 ·cases h
 split at h
 rotate_left
 ·cases h
 rename_i t els _ R hiw
 obtain rfl:=waysL_eq hiw
 obtain ⟨rfl,rfl⟩:=Prod.mk.inj (Option.some.inj h)
 refine ⟨by simp,fun k E hE Q hQ=>?_⟩
 obtain ⟨hn,hr⟩:=hc
 refine Aw_st hE [0] [] fun K hK=>?_
 simp only [go_sem,seval]
 refine hK _ ?_;clear hK K
 refine Aw_sq fun B1 hB1 hR1 hX1=>?_
 refine Aw_st hE [0,3] [] fun K hK=>?_
 simp only [go_sem,seval]
 refine hK _ ?_;clear hK K
 refine Aw_bk fun B2 hN2 hE2 hR2 hX2=>?_
 refine Aw_lp (fun i:Nat=>⟨80,[(0,.sl t (wrows R)),(3,iv i)],[],k⟩) (fun i=>i≤R.length∧∀ j,j < i→(R.getD j []).length=R.length∧∀ c,c < R.length→okC R j c) (fun i=>R.length - i) 0 (Le.refl _) ⟨by omega,fun j h=>absurd h (by omega)⟩ fun i hi B3 hN3 hR3 hX3=>?_
 refine Aw_sq fun B4 hB4 hR4 hX4=>?_
 refine Aw_st hE [0,3,8] [] fun K hK=>?_
 simp only [go_sem,seval]
 refine hK _ (Aw_cond rfl (fun hc5=>?_) (fun hc5=>?_))
 rotate_left
 ·simp only [dfn] at hc5
  refine Aw_exit (hX4 _ _ (hX3 _ _ (hE2 _ (hB1 _ ?_))))
  refine Aw_st hE [2] [] fun K hK=>?_
  simp only [go_sem,seval]
  refine hK _ (Aw_ret (hQ _ ?_))
  simp only [go_sem,seval]
  have hall:∀ i,i < R.length→(R.getD i []).length=R.length∧∀ k,k < R.length→okC R i k:=fun j hj=>hi.2 j (by omega)
  have e:relsOk R=(decide (1≤(R.length:Int)) && decide ((R.length:Int)≤5)):=by
   rw [Bool.eq_iff_iff,relsOk_C]
   simp only [Bool.and_eq_true,dte]
   exact ⟨fun h=>by have:=h.1;omega,fun h=>⟨by omega,hall⟩⟩
  rw [e]
 simp only [dte] at hc5
 have hil:i < R.length:=by omega
 have hgi:=wrows_get R i hil
 have hri:=hr _ (getD_memL R i hil)
 refine Aw_skip (hB4 _ ?_)
 refine Aw_sq fun B6 hB6 hR6 hX6=>?_
 refine Aw_bk fun B7 hN7 hE7 hR7 hX7=>?_
 refine Aw_sq fun B8 hB8 hR8 hX8=>?_
 refine Aw_st hE [0,3,18] [] fun K hK=>?_
 simp only [go_sem,seval,hgi]
 repeat refine sd0 ?_
 refine hK _ (Aw_cond rfl (fun hc9=>?_) (fun hc9=>?_))
 ·have hno:relsOk R=false:=rels_no1 hil (by simp only [Bool.not_eq_true',dfn] at hc9;omega)
  refine Aw_st hE [2] [] fun K hK=>?_
  simp only [go_sem,seval]
  refine hK _ (Aw_ret (hR8 _ (hR7 _ (hR6 _ (hR3 _ (hR2 _ (hR1 _ (hQ _ ?_))))))))
  simp only [go_sem,seval,hno]
 have hli:(R.getD i []).length=R.length:=by
  simp only [Bool.not_eq_false',dte] at hc9;omega
 refine Aw_skip (hB8 _ ?_)
 refine Aw_st hE [0,3,4] [] fun K hK=>?_
 simp only [go_sem,seval]
 refine hK _ ?_;clear hK K
 refine Aw_bk fun B10 hN10 hE10 hR10 hX10=>?_
 refine Aw_lp (fun c:Nat=>⟨80,[(0,.sl t (wrows R)),(3,iv i),(4,iv c)],[],k⟩) (fun c=>c≤R.length∧∀ j,j < c→okC R i j) (fun c=>R.length - c) 0 (Le.refl _) ⟨by omega,fun j h=>absurd h (by omega)⟩ fun c hj B11 hN11 hR11 hX11=>?_
 refine Aw_sq fun B12 hB12 hR12 hX12=>?_
 refine Aw_st hE [0,3,4,22] [] fun K hK=>?_
 simp only [go_sem,seval]
 refine hK _ (Aw_cond rfl (fun hc13=>?_) (fun hc13=>?_))
 rotate_left
 ·simp only [dfn] at hc13
  refine Aw_exit (hX12 _ _ (hX11 _ _ (hE10 _ (hN7 _ (hB6 _ ?_)))))
  refine Aw_tx hE [0,3] [] fun K hK=>?_
  simp only [go_sem,seval]
  repeat refine sd0 ?_
  refine hK _ (hN3 (i + 1) _ ⟨by omega,fun j hj2=>?_⟩ (by omega) (Le.refl _))
  by_cases e:j < i
  ·exact hi.2 j e
  ·obtain rfl:j=i:=by omega
   exact ⟨hli,fun c2 hc2=>hj.2 c2 (by omega)⟩
 simp only [dte] at hc13
 have hcl:c < R.length:=by omega
 have hgc:=wrows_get R c hcl
 have hrc:=hr _ (getD_memL R c hcl)
 refine Aw_skip (hB12 _ ?_)
 refine Aw_sq fun B14 hB14 hR14 hX14=>?_
 refine Aw_bk fun B15 hN15 hE15 hR15 hX15=>?_
 have stop:∀ K:Prop,¬ okC R i c→relsOk R=false:=fun _ h=>rels_no2 hil hcl h
 by_cases h1:(R.getD c []).length=R.length
 rotate_left
 ·have hno:=stop True (fun h=>h1 h.1)
  have h1d:decide (((R.getD c []).length:Int)=R.length)=false:=decide_eq_false (by omega)
  refine Aw_se hE [0,1,5,2,3,4,6,7,8,9,10,11,12,13,14,15,16,17,18,19,20,21,22,23,24,25,26,27,28,29,30,31,32,33,34,35,36,37,38,39,40,41,42,43,44,45,46,47,48,49,50,51] [0,0,3,7,15,0,32,127,255,511,511,2047,4095,511,16383,32767,65535,131071,262143,524287,1048575,1048575,4194303,8388607,1048575,33554431,67108863,1048575,1048575,403701759,940572671,1048575,4161798143,8456765439,17046700031,34359738367,68719476735,137438953471,274877906943,274877906943,1099511627775,2199023255551,4398046511103,4398046511103,17592186044415,35184372088831,4398046511103,140737488355327,281474976710655,562949953421311,1125899906842623,2251799813685247] [0,3,4,76] [] (by kernel_rfl) fun K hK=>?_
  refine daopsE_cut 6 fun K1 hK1=>?_
  simp only [go_sem,seval,hgc,h1d,Bool.not_false]
  repeat refine sd0 ?_
  refine hK1 _ ?_
  clear hK1
  refine daopsE_cut 6 fun K1 hK1=>?_
  simp only [go_sem,seval,hgc,h1d,Bool.not_false]
  repeat refine sd0 ?_
  refine hK1 _ ?_
  clear hK1
  refine daopsE_cut 6 fun K1 hK1=>?_
  simp only [go_sem,seval,hgc,h1d,Bool.not_false]
  repeat refine sd0 ?_
  refine hK1 _ ?_
  clear hK1
  refine daopsE_cut 6 fun K1 hK1=>?_
  simp only [go_sem,seval,hgc,h1d,Bool.not_false]
  repeat refine sd0 ?_
  refine hK1 _ ?_
  clear hK1
  refine daopsE_cut 6 fun K1 hK1=>?_
  simp only [go_sem,seval,hgc,h1d,Bool.not_false]
  repeat refine sd0 ?_
  refine hK1 _ ?_
  clear hK1
  refine daopsE_cut 6 fun K1 hK1=>?_
  simp only [go_sem,seval,hgc,h1d,Bool.not_false]
  repeat refine sd0 ?_
  refine hK1 _ ?_
  clear hK1
  refine daopsE_cut 6 fun K1 hK1=>?_
  simp only [go_sem,seval,hgc,h1d,Bool.not_false]
  repeat refine sd0 ?_
  refine hK1 _ ?_
  clear hK1
  refine daopsE_cut 6 fun K1 hK1=>?_
  simp only [go_sem,seval,hgc,h1d,Bool.not_false]
  repeat refine sd0 ?_
  refine hK1 _ ?_
  clear hK1
  simp only [go_sem,seval,hgc,h1d,Bool.not_false]
  repeat refine sd0 ?_
  refine hK _ (Aw_yes rfl ?_)
  refine Aw_st hE [2] [] fun K hK=>?_
  simp only [go_sem,seval]
  refine hK _ (Aw_ret (hR15 _ (hR14 _ (hR11 _ (hR10 _ (hR7 _ (hR6 _ (hR3 _ (hR2 _ (hR1 _ (hQ _ ?_)))))))))))
  simp only [go_sem,seval,hno]
 have h1d:decide (((R.getD c []).length:Int)=R.length)=true:=decide_eq_true (by omega)
 have hx:=rows_get (R.getD i []) c (by omega)
 have hy:=rows_get (R.getD c []) i (by omega)
 have hok:okC R i c↔(0≤(R.getD i []).getD c 0∧(R.getD i []).getD c 0≤3)∧(R.getD c []).getD i 0=mirr ((R.getD i []).getD c 0)∧(i=c→(R.getD i []).getD c 0=0):=⟨fun h=>h.2,fun h=>⟨h1,h⟩⟩
 generalize (R.getD i []).getD c 0=x at hx hok
 generalize (R.getD c []).getD i 0=y at hy hok
 cases h2:(decide (0≤x) && decide (x≤3)) with
 | false =>
  have hno:=stop True (fun h=>by
   have:=(hok.1 h).1
   simp [this.1,this.2] at h2)
  refine Aw_se hE [0,1,5,2,3,4,6,7,8,9,10,11,12,13,14,15,16,17,18,19,20,21,22,23,24,25,26,27,28,29,30,31,32,33,34,35,36,37,38,39,40,41,42,43,44,45,46,47,48,49,50,51] [0,0,3,7,15,0,32,127,255,511,511,2047,4095,511,16383,32767,65535,131071,262143,524287,1048575,1048575,4194303,8388607,1048575,33554431,67108863,1048575,1048575,403701759,940572671,1048575,4161798143,8456765439,17046700031,34359738367,68719476735,137438953471,274877906943,274877906943,1099511627775,2199023255551,4398046511103,4398046511103,17592186044415,35184372088831,4398046511103,140737488355327,281474976710655,562949953421311,1125899906842623,2251799813685247] [0,3,4,76] [] (by kernel_rfl) fun K hK=>?_
  refine daopsE_cut 6 fun K1 hK1=>?_
  simp only [go_sem,seval,hgc,hgi,hx,hy,h1d,h2,Bool.not_false,Bool.not_true,decide_true,decide_false]
  repeat refine sd0 ?_
  refine hK1 _ ?_
  clear hK1
  refine daopsE_cut 6 fun K1 hK1=>?_
  simp only [go_sem,seval,hgc,hgi,hx,hy,h1d,h2,Bool.not_false,Bool.not_true,decide_true,decide_false]
  repeat refine sd0 ?_
  refine hK1 _ ?_
  clear hK1
  refine daopsE_cut 6 fun K1 hK1=>?_
  simp only [go_sem,seval,hgc,hgi,hx,hy,h1d,h2,Bool.not_false,Bool.not_true,decide_true,decide_false]
  repeat refine sd0 ?_
  refine hK1 _ ?_
  clear hK1
  refine daopsE_cut 6 fun K1 hK1=>?_
  simp only [go_sem,seval,hgc,hgi,hx,hy,h1d,h2,Bool.not_false,Bool.not_true,decide_true,decide_false]
  repeat refine sd0 ?_
  refine hK1 _ ?_
  clear hK1
  refine daopsE_cut 6 fun K1 hK1=>?_
  simp only [go_sem,seval,hgc,hgi,hx,hy,h1d,h2,Bool.not_false,Bool.not_true,decide_true,decide_false]
  repeat refine sd0 ?_
  refine hK1 _ ?_
  clear hK1
  refine daopsE_cut 6 fun K1 hK1=>?_
  simp only [go_sem,seval,hgc,hgi,hx,hy,h1d,h2,Bool.not_false,Bool.not_true,decide_true,decide_false]
  repeat refine sd0 ?_
  refine hK1 _ ?_
  clear hK1
  refine daopsE_cut 6 fun K1 hK1=>?_
  simp only [go_sem,seval,hgc,hgi,hx,hy,h1d,h2,Bool.not_false,Bool.not_true,decide_true,decide_false]
  repeat refine sd0 ?_
  refine hK1 _ ?_
  clear hK1
  refine daopsE_cut 6 fun K1 hK1=>?_
  simp only [go_sem,seval,hgc,hgi,hx,hy,h1d,h2,Bool.not_false,Bool.not_true,decide_true,decide_false]
  repeat refine sd0 ?_
  refine hK1 _ ?_
  clear hK1
  simp only [go_sem,seval,hgc,hgi,hx,hy,h1d,h2,Bool.not_false,Bool.not_true,decide_true,decide_false]
  repeat refine sd0 ?_
  refine hK _ (Aw_yes rfl ?_)
  refine Aw_st hE [2] [] fun K hK=>?_
  simp only [go_sem,seval]
  refine hK _ (Aw_ret (hR15 _ (hR14 _ (hR11 _ (hR10 _ (hR7 _ (hR6 _ (hR3 _ (hR2 _ (hR1 _ (hQ _ ?_)))))))))))
  simp only [go_sem,seval,hno]
 | true =>
 have h2':0≤x∧x≤3:=by simpa using h2
 by_cases h3:y=mirr x
 rotate_left
 ·have hno:=stop True (fun h=>h3 (hok.1 h).2.1)
  have h3d:decide (y=mirr x)=false:=decide_eq_false h3
  refine Aw_se hE [0,1,5,2,3,4,6,7,8,9,10,11,12,13,14,15,16,17,18,19,20,21,22,23,24,25,26,27,28,29,30,31,32,33,34,35,36,37,38,39,40,41,42,43,44,45,46,47,48,49,50,51] [0,0,3,7,15,0,32,127,255,511,511,2047,4095,511,16383,32767,65535,131071,262143,524287,1048575,1048575,4194303,8388607,1048575,33554431,67108863,1048575,1048575,403701759,940572671,1048575,4161798143,8456765439,17046700031,34359738367,68719476735,137438953471,274877906943,274877906943,1099511627775,2199023255551,4398046511103,4398046511103,17592186044415,35184372088831,4398046511103,140737488355327,281474976710655,562949953421311,1125899906842623,2251799813685247] [0,3,4,76] [] (by kernel_rfl) fun K hK=>?_
  refine daopsE_cut 6 fun K1 hK1=>?_
  simp only [go_sem,seval,hgc,hgi,hx,hy,h1d,h2,h3d,h2'.1,h2'.2,Bool.not_false,Bool.not_true,decide_true,decide_false]
  repeat refine sd0 ?_
  refine hK1 _ ?_
  clear hK1
  refine daopsE_cut 6 fun K1 hK1=>?_
  simp only [go_sem,seval,hgc,hgi,hx,hy,h1d,h2,h3d,h2'.1,h2'.2,Bool.not_false,Bool.not_true,decide_true,decide_false]
  repeat refine sd0 ?_
  refine hK1 _ ?_
  clear hK1
  refine daopsE_cut 6 fun K1 hK1=>?_
  simp only [go_sem,seval,hgc,hgi,hx,hy,h1d,h2,h3d,h2'.1,h2'.2,Bool.not_false,Bool.not_true,decide_true,decide_false]
  repeat refine sd0 ?_
  refine hK1 _ ?_
  clear hK1
  refine daopsE_cut 6 fun K1 hK1=>?_
  simp only [go_sem,seval,hgc,hgi,hx,hy,h1d,h2,h3d,h2'.1,h2'.2,Bool.not_false,Bool.not_true,decide_true,decide_false]
  repeat refine sd0 ?_
  refine hK1 _ ?_
  clear hK1
  refine daopsE_cut 6 fun K1 hK1=>?_
  simp only [go_sem,seval,hgc,hgi,hx,hy,h1d,h2,h3d,h2'.1,h2'.2,Bool.not_false,Bool.not_true,decide_true,decide_false]
  repeat refine sd0 ?_
  refine hK1 _ ?_
  clear hK1
  refine daopsE_cut 6 fun K1 hK1=>?_
  simp only [go_sem,seval,hgc,hgi,hx,hy,h1d,h2,h3d,h2'.1,h2'.2,Bool.not_false,Bool.not_true,decide_true,decide_false]
  repeat refine sd0 ?_
  refine hK1 _ ?_
  clear hK1
  refine daopsE_cut 6 fun K1 hK1=>?_
  simp only [go_sem,seval,hgc,hgi,hx,hy,h1d,h2,h3d,h2'.1,h2'.2,Bool.not_false,Bool.not_true,decide_true,decide_false]
  repeat refine sd0 ?_
  refine hK1 _ ?_
  clear hK1
  refine daopsE_cut 6 fun K1 hK1=>?_
  simp only [go_sem,seval,hgc,hgi,hx,hy,h1d,h2,h3d,h2'.1,h2'.2,Bool.not_false,Bool.not_true,decide_true,decide_false]
  repeat refine sd0 ?_
  refine hK1 _ ?_
  clear hK1
  simp only [go_sem,seval,hgc,hgi,hx,hy,h1d,h2,h3d,h2'.1,h2'.2,Bool.not_false,Bool.not_true,decide_true,decide_false]
  repeat refine sd0 ?_
  refine hK _ (Aw_yes rfl ?_)
  refine Aw_st hE [2] [] fun K hK=>?_
  simp only [go_sem,seval]
  refine hK _ (Aw_ret (hR15 _ (hR14 _ (hR11 _ (hR10 _ (hR7 _ (hR6 _ (hR3 _ (hR2 _ (hR1 _ (hQ _ ?_)))))))))))
  simp only [go_sem,seval,hno]
 have h3d:decide (y=mirr x)=true:=decide_eq_true h3
 by_cases h4:i=c
 ·have h4d:decide ((i:Int)=c)=true:=decide_eq_true (by omega)
  by_cases h5:x=0
  ·have h5d:decide (x=0)=true:=decide_eq_true h5
   refine Aw_se hE [0,1,5,2,3,4,6,7,8,9,10,11,12,13,14,15,16,17,18,19,20,21,22,23,24,25,26,27,28,29,30,31,32,33,34,35,36,37,38,39,40,41,42,43,44,45,46,47,48,49,50,51] [0,0,3,7,15,0,32,127,255,511,511,2047,4095,511,16383,32767,65535,131071,262143,524287,1048575,1048575,4194303,8388607,1048575,33554431,67108863,1048575,1048575,403701759,940572671,1048575,4161798143,8456765439,17046700031,34359738367,68719476735,137438953471,274877906943,274877906943,1099511627775,2199023255551,4398046511103,4398046511103,17592186044415,35184372088831,4398046511103,140737488355327,281474976710655,562949953421311,1125899906842623,2251799813685247] [0,3,4,76] [] (by kernel_rfl) fun K hK=>?_
   refine daopsE_cut 6 fun K1 hK1=>?_
   simp only [go_sem,seval,hgc,hgi,hx,hy,h1d,h2,h3d,h4d,h5d,h2'.1,h2'.2,Bool.not_false,Bool.not_true,decide_true,decide_false]
   repeat refine sd0 ?_
   refine hK1 _ ?_
   clear hK1
   refine daopsE_cut 6 fun K1 hK1=>?_
   simp only [go_sem,seval,hgc,hgi,hx,hy,h1d,h2,h3d,h4d,h5d,h2'.1,h2'.2,Bool.not_false,Bool.not_true,decide_true,decide_false]
   repeat refine sd0 ?_
   refine hK1 _ ?_
   clear hK1
   refine daopsE_cut 6 fun K1 hK1=>?_
   simp only [go_sem,seval,hgc,hgi,hx,hy,h1d,h2,h3d,h4d,h5d,h2'.1,h2'.2,Bool.not_false,Bool.not_true,decide_true,decide_false]
   repeat refine sd0 ?_
   refine hK1 _ ?_
   clear hK1
   refine daopsE_cut 6 fun K1 hK1=>?_
   simp only [go_sem,seval,hgc,hgi,hx,hy,h1d,h2,h3d,h4d,h5d,h2'.1,h2'.2,Bool.not_false,Bool.not_true,decide_true,decide_false]
   repeat refine sd0 ?_
   refine hK1 _ ?_
   clear hK1
   refine daopsE_cut 6 fun K1 hK1=>?_
   simp only [go_sem,seval,hgc,hgi,hx,hy,h1d,h2,h3d,h4d,h5d,h2'.1,h2'.2,Bool.not_false,Bool.not_true,decide_true,decide_false]
   repeat refine sd0 ?_
   refine hK1 _ ?_
   clear hK1
   refine daopsE_cut 6 fun K1 hK1=>?_
   simp only [go_sem,seval,hgc,hgi,hx,hy,h1d,h2,h3d,h4d,h5d,h2'.1,h2'.2,Bool.not_false,Bool.not_true,decide_true,decide_false]
   repeat refine sd0 ?_
   refine hK1 _ ?_
   clear hK1
   refine daopsE_cut 6 fun K1 hK1=>?_
   simp only [go_sem,seval,hgc,hgi,hx,hy,h1d,h2,h3d,h4d,h5d,h2'.1,h2'.2,Bool.not_false,Bool.not_true,decide_true,decide_false]
   repeat refine sd0 ?_
   refine hK1 _ ?_
   clear hK1
   refine daopsE_cut 6 fun K1 hK1=>?_
   simp only [go_sem,seval,hgc,hgi,hx,hy,h1d,h2,h3d,h4d,h5d,h2'.1,h2'.2,Bool.not_false,Bool.not_true,decide_true,decide_false]
   repeat refine sd0 ?_
   refine hK1 _ ?_
   clear hK1
   simp only [go_sem,seval,hgc,hgi,hx,hy,h1d,h2,h3d,h4d,h5d,h2'.1,h2'.2,Bool.not_false,Bool.not_true,decide_true,decide_false]
   repeat refine sd0 ?_
   refine hK _ (Aw_no rfl (Aw_skip (hN15 _ (hB14 _ ?_))))
   refine Aw_tx hE [0,3,4] [] fun K hK=>?_
   simp only [go_sem,seval]
   repeat refine sd0 ?_
   refine hK _ (hN11 (c + 1) _ ⟨by omega,fun j hj2=>?_⟩ (by omega) (Le.refl _))
   by_cases e:j < c
   ·exact hj.2 j e
   ·obtain rfl:j=c:=by omega
    exact hok.2 ⟨h2',h3,fun _=>h5⟩
  ·have hno:=stop True (fun h=>h5 ((hok.1 h).2.2 h4))
   have h5d:decide (x=0)=false:=decide_eq_false h5
   refine Aw_se hE [0,1,5,2,3,4,6,7,8,9,10,11,12,13,14,15,16,17,18,19,20,21,22,23,24,25,26,27,28,29,30,31,32,33,34,35,36,37,38,39,40,41,42,43,44,45,46,47,48,49,50,51] [0,0,3,7,15,0,32,127,255,511,511,2047,4095,511,16383,32767,65535,131071,262143,524287,1048575,1048575,4194303,8388607,1048575,33554431,67108863,1048575,1048575,403701759,940572671,1048575,4161798143,8456765439,17046700031,34359738367,68719476735,137438953471,274877906943,274877906943,1099511627775,2199023255551,4398046511103,4398046511103,17592186044415,35184372088831,4398046511103,140737488355327,281474976710655,562949953421311,1125899906842623,2251799813685247] [0,3,4,76] [] (by kernel_rfl) fun K hK=>?_
   refine daopsE_cut 6 fun K1 hK1=>?_
   simp only [go_sem,seval,hgc,hgi,hx,hy,h1d,h2,h3d,h4d,h5d,h2'.1,h2'.2,Bool.not_false,Bool.not_true,decide_true,decide_false]
   repeat refine sd0 ?_
   refine hK1 _ ?_
   clear hK1
   refine daopsE_cut 6 fun K1 hK1=>?_
   simp only [go_sem,seval,hgc,hgi,hx,hy,h1d,h2,h3d,h4d,h5d,h2'.1,h2'.2,Bool.not_false,Bool.not_true,decide_true,decide_false]
   repeat refine sd0 ?_
   refine hK1 _ ?_
   clear hK1
   refine daopsE_cut 6 fun K1 hK1=>?_
   simp only [go_sem,seval,hgc,hgi,hx,hy,h1d,h2,h3d,h4d,h5d,h2'.1,h2'.2,Bool.not_false,Bool.not_true,decide_true,decide_false]
   repeat refine sd0 ?_
   refine hK1 _ ?_
   clear hK1
   refine daopsE_cut 6 fun K1 hK1=>?_
   simp only [go_sem,seval,hgc,hgi,hx,hy,h1d,h2,h3d,h4d,h5d,h2'.1,h2'.2,Bool.not_false,Bool.not_true,decide_true,decide_false]
   repeat refine sd0 ?_
   refine hK1 _ ?_
   clear hK1
   refine daopsE_cut 6 fun K1 hK1=>?_
   simp only [go_sem,seval,hgc,hgi,hx,hy,h1d,h2,h3d,h4d,h5d,h2'.1,h2'.2,Bool.not_false,Bool.not_true,decide_true,decide_false]
   repeat refine sd0 ?_
   refine hK1 _ ?_
   clear hK1
   refine daopsE_cut 6 fun K1 hK1=>?_
   simp only [go_sem,seval,hgc,hgi,hx,hy,h1d,h2,h3d,h4d,h5d,h2'.1,h2'.2,Bool.not_false,Bool.not_true,decide_true,decide_false]
   repeat refine sd0 ?_
   refine hK1 _ ?_
   clear hK1
   refine daopsE_cut 6 fun K1 hK1=>?_
   simp only [go_sem,seval,hgc,hgi,hx,hy,h1d,h2,h3d,h4d,h5d,h2'.1,h2'.2,Bool.not_false,Bool.not_true,decide_true,decide_false]
   repeat refine sd0 ?_
   refine hK1 _ ?_
   clear hK1
   refine daopsE_cut 6 fun K1 hK1=>?_
   simp only [go_sem,seval,hgc,hgi,hx,hy,h1d,h2,h3d,h4d,h5d,h2'.1,h2'.2,Bool.not_false,Bool.not_true,decide_true,decide_false]
   repeat refine sd0 ?_
   refine hK1 _ ?_
   clear hK1
   simp only [go_sem,seval,hgc,hgi,hx,hy,h1d,h2,h3d,h4d,h5d,h2'.1,h2'.2,Bool.not_false,Bool.not_true,decide_true,decide_false]
   repeat refine sd0 ?_
   refine hK _ (Aw_yes rfl ?_)
   refine Aw_st hE [2] [] fun K hK=>?_
   simp only [go_sem,seval]
   refine hK _ (Aw_ret (hR15 _ (hR14 _ (hR11 _ (hR10 _ (hR7 _ (hR6 _ (hR3 _ (hR2 _ (hR1 _ (hQ _ ?_)))))))))))
   simp only [go_sem,seval,hno]
 ·have h4d:decide ((i:Int)=c)=false:=decide_eq_false (by omega)
  refine Aw_se hE [0,1,5,2,3,4,6,7,8,9,10,11,12,13,14,15,16,17,18,19,20,21,22,23,24,25,26,27,28,29,30,31,32,33,34,35,36,37,38,39,40,41,42,43,44,45,46,47,48,49,50,51] [0,0,3,7,15,0,32,127,255,511,511,2047,4095,511,16383,32767,65535,131071,262143,524287,1048575,1048575,4194303,8388607,1048575,33554431,67108863,1048575,1048575,403701759,940572671,1048575,4161798143,8456765439,17046700031,34359738367,68719476735,137438953471,274877906943,274877906943,1099511627775,2199023255551,4398046511103,4398046511103,17592186044415,35184372088831,4398046511103,140737488355327,281474976710655,562949953421311,1125899906842623,2251799813685247] [0,3,4,76] [] (by kernel_rfl) fun K hK=>?_
  refine daopsE_cut 6 fun K1 hK1=>?_
  simp only [go_sem,seval,hgc,hgi,hx,hy,h1d,h2,h3d,h4d,h2'.1,h2'.2,Bool.not_false,Bool.not_true,decide_true,decide_false]
  repeat refine sd0 ?_
  refine hK1 _ ?_
  clear hK1
  refine daopsE_cut 6 fun K1 hK1=>?_
  simp only [go_sem,seval,hgc,hgi,hx,hy,h1d,h2,h3d,h4d,h2'.1,h2'.2,Bool.not_false,Bool.not_true,decide_true,decide_false]
  repeat refine sd0 ?_
  refine hK1 _ ?_
  clear hK1
  refine daopsE_cut 6 fun K1 hK1=>?_
  simp only [go_sem,seval,hgc,hgi,hx,hy,h1d,h2,h3d,h4d,h2'.1,h2'.2,Bool.not_false,Bool.not_true,decide_true,decide_false]
  repeat refine sd0 ?_
  refine hK1 _ ?_
  clear hK1
  refine daopsE_cut 6 fun K1 hK1=>?_
  simp only [go_sem,seval,hgc,hgi,hx,hy,h1d,h2,h3d,h4d,h2'.1,h2'.2,Bool.not_false,Bool.not_true,decide_true,decide_false]
  repeat refine sd0 ?_
  refine hK1 _ ?_
  clear hK1
  refine daopsE_cut 6 fun K1 hK1=>?_
  simp only [go_sem,seval,hgc,hgi,hx,hy,h1d,h2,h3d,h4d,h2'.1,h2'.2,Bool.not_false,Bool.not_true,decide_true,decide_false]
  repeat refine sd0 ?_
  refine hK1 _ ?_
  clear hK1
  refine daopsE_cut 6 fun K1 hK1=>?_
  simp only [go_sem,seval,hgc,hgi,hx,hy,h1d,h2,h3d,h4d,h2'.1,h2'.2,Bool.not_false,Bool.not_true,decide_true,decide_false]
  repeat refine sd0 ?_
  refine hK1 _ ?_
  clear hK1
  refine daopsE_cut 6 fun K1 hK1=>?_
  simp only [go_sem,seval,hgc,hgi,hx,hy,h1d,h2,h3d,h4d,h2'.1,h2'.2,Bool.not_false,Bool.not_true,decide_true,decide_false]
  repeat refine sd0 ?_
  refine hK1 _ ?_
  clear hK1
  refine daopsE_cut 6 fun K1 hK1=>?_
  simp only [go_sem,seval,hgc,hgi,hx,hy,h1d,h2,h3d,h4d,h2'.1,h2'.2,Bool.not_false,Bool.not_true,decide_true,decide_false]
  repeat refine sd0 ?_
  refine hK1 _ ?_
  clear hK1
  simp only [go_sem,seval,hgc,hgi,hx,hy,h1d,h2,h3d,h4d,h2'.1,h2'.2,Bool.not_false,Bool.not_true,decide_true,decide_false]
  repeat refine sd0 ?_
  refine hK _ (Aw_no rfl (Aw_skip (hN15 _ (hB14 _ ?_))))
  refine Aw_tx hE [0,3,4] [] fun K hK=>?_
  simp only [go_sem,seval]
  repeat refine sd0 ?_
  refine hK _ (hN11 (c + 1) _ ⟨by omega,fun j hj2=>?_⟩ (by omega) (Le.refl _))
  by_cases e:j < c
  ·exact hj.2 j e
  ·obtain rfl:j=c:=by omega
   exact hok.2 ⟨h2',h3,fun e=>absurd e h4⟩
section
variable {of:Rel} {W:Sta} {h rel:Int} {j:Nat}
theorem hs_succ (j:Nat):hs (j + 1)=hs j++[(j:Int) + 1]:=by
 unfold hs;rw [List.range_succ,List.map_append];rfl
theorem cands_succ:cands (j + 1) of W h rel=if cnd of W h rel ((j:Int) + 1) then cands j of W h rel++[W ((j:Int) + 1)] else cands j of W h rel:=by
 unfold cands
 rw [hs_succ,List.filter_append,List.map_append]
 split
 ·rename_i e;simp [e]
 ·rename_i e;simp [e]
theorem frst_nil {l:List (List Int)} (e:frst h [l]=[]):l=[]:=by
 cases l with
 | nil=>rfl
 | cons x l=>cases e
theorem frst_skip (hc:cnd of W h rel ((j:Int) + 1)=false):frst h [cands (j + 1) of W h rel]=frst h [cands j of W h rel]:=by
 rw [cands_succ,hc];rfl
theorem frst_one (hc:cnd of W h rel ((j:Int) + 1)=true) (he:frst h [cands j of W h rel]=[]):frst h [cands (j + 1) of W h rel]=h::W ((j:Int) + 1):=by
 rw [cands_succ,hc,frst_nil he];rfl
theorem frst_cmp (hc:cnd of W h rel ((j:Int) + 1)=true) (hne:frst h [cands j of W h rel]≠[]) :
  frst h [cands (j + 1) of W h rel]=if pCmp (h::W ((j:Int) + 1)) (frst h [cands j of W h rel]) < 0 then h::W ((j:Int) + 1) else frst h [cands j of W h rel]:=by
 rw [cands_succ,hc]
 cases hl:cands j of W h rel with
 | nil=>rw [hl] at hne;exact absurd rfl hne
 | cons x l =>
  simp only [if_true,List.cons_append,frst,minL,minF,pCmp_cons,List.foldl_append,List.foldl_cons,List.foldl_nil]
  split<;>rfl
end
def pkI (n:Nat) (of:Rel) (home:Int) (W:Sta) (h:Int) (r:Nat) (B:List Int):Prop :=
 (B=[]∧∀ q,q < r→cands n of W h ((q:Int) + 1)=[])∨(B≠[]∧pickN n of home W h=B)
theorem pkI_end {n:Nat} {of:Rel} {home:Int} {W:Sta} {h:Int} {B:List Int} {r:Nat} (hne:h≠home) (hp:pkI n of home W h r B) (hr:3≤r∨B≠[]):pickN n of home W h=B:=by
 rcases hp with ⟨rfl,h2⟩ | h
 ·have hr:=hr.resolve_right fun h=>h rfl
  unfold pickN
  have e1:cands n of W h 1=[]:=h2 0 (by omega)
  have e2:cands n of W h 2=[]:=h2 1 (by omega)
  have e3:cands n of W h 3=[]:=h2 2 (by omega)
  rw [if_neg hne,e1,e2,e3];rfl
 ·exact h.2
theorem pkI_next {n:Nat} {of:Rel} {home:Int} {W:Sta} {h:Int} {r:Nat} (hne:h≠home) (hr:r < 3) (hp:pkI n of home W h r []):pkI n of home W h (r + 1) (frst h [cands n of W h ((r:Int) + 1)]):=by
 have h2:=(hp.resolve_right fun h=>h.1 rfl).2
 cases hl:cands n of W h ((r:Int) + 1) with
 | nil =>
  refine .inl ⟨rfl,fun q hq=>?_⟩
  by_cases e:q=r
  ·rw [e];exact hl
  ·exact h2 q (by omega)
 | cons x l =>
  refine .inr ⟨by simp [frst],?_⟩
  have hr3:r=0∨r=1∨r=2:=by omega
  unfold pickN
  rw [if_neg hne]
  rcases hr3 with rfl | rfl | rfl
  ·rw [show cands n of W h 1=x::l from hl];rfl
  ·rw [show cands n of W h 1=[] from h2 0 (by omega),show cands n of W h 2=x::l from hl];rfl
  ·rw [show cands n of W h 1=[] from h2 0 (by omega),show cands n of W h 2=[] from h2 1 (by omega),show cands n of W h 3=x::l from hl];rfl
def gPickN:List AV→Option (Prop × AV)
 | [.sl _ els,.v (.int .i64 home),.sl _ e2,.v (.int .i64 h)]=>(match waysL els,waysL e2 with
  | some R,some W=>some ((sqR R∧inW R.length W)∧1≤h∧h≤R.length,isl (pickN R.length (ofR R) home (toS W) h))
  | _,_=>none)
 | _=>none
def dPickN:DFn:={ g:=gPickN }
attribute [go_sem] gPickN dPickN
theorem sPick_ok:Fine Tryd.prog 27 dPickN.con:=by
 refine fine_det (T:=TT) Tryd.func27 rfl Tryd.ntmps27 (by rw [Tryd.results27]) rfl rfl tt (gs_nil) (ds_cons sOfR_ok (ds_cons sTells_ok (ds_cons l3Cmp_ok ds_nil))) ?_
 intro args c r h hc
 simp only [dPickN,gPickN] at h
 split at h
 rotate_left
 ·cases h
 split at h
 rotate_left
 ·cases h
 rename_i t els home t2 e2 a _ _ R W hiw hiw2
 obtain rfl:=waysL_eq hiw
 obtain rfl:=waysL_eq hiw2
 obtain ⟨rfl,rfl⟩:=Prod.mk.inj (Option.some.inj h)
 refine ⟨by simp,fun k E hE Q hQ=>?_⟩
 obtain ⟨⟨hsq,hwl,hwx⟩,hh1,hh2⟩:=hc
 have hR:=hsq.1
 have hrow:[[DV.v (.int .i64 a)]]=rows [a]:=rfl
 refine Aw_st hE [0,1,2,3] [] fun K hK=>?_
 simp only [go_sem,seval]
 repeat refine sd0 ?_
 refine hK _ ?_;clear hK K
 refine Aw_sq fun B1 hB1 hR1 hX1=>?_
 refine Aw_st hE [0,1,2,3,15] [] fun K hK=>?_
 simp only [go_sem,seval]
 repeat refine sd0 ?_
 refine hK _ (Aw_cond rfl (fun hc2=>?_) (fun hc2=>?_))
 ·simp only [dte] at hc2
  refine Aw_st hE [8] [] fun K hK=>?_
  simp only [go_sem,seval]
  repeat refine sd0 ?_
  refine hK _ (Aw_ret (hR1 _ (hQ _ ?_)))
  simp only [go_sem,seval]
  rw [hc2,pick_home];rfl
 ·simp only [dfn] at hc2
  refine Aw_skip (hB1 _ ?_)
  refine Aw_st hE [0,2,3,9] [] fun K hK=>?_
  simp only [go_sem,seval]
  repeat refine sd0 ?_
  refine hK _ ?_;clear hK K
  refine Aw_sq fun B3 hB3 hR3 hX3=>?_
  refine Aw_st hE [0,2,3,9,10] [] fun K hK=>?_
  simp only [go_sem,seval]
  repeat refine sd0 ?_
  refine hK _ ?_;clear hK K
  refine Aw_bk fun B4 hN4 hE4 hR4 hX4=>?_
  refine Aw_lp (fun i:Nat × List Int=>⟨71,[(0,wsl R),(2,wsl W),(3,iv a),(9,isl i.2),(10,iv ((i.1:Int) + 1))],[],k⟩) (fun i:Nat × List Int=>(i.1≤3∧i.2.length≤6)∧pkI R.length (ofR R) home (toS W) a i.1 i.2) (fun i:Nat × List Int=>3 - i.1) ((0,[])) (Le_wa) (⟨by simp,.inl ⟨rfl,fun q hq=>absurd hq (by omega)⟩⟩) fun i hi B5 hN5 hR5 hX5=>?_
  obtain ⟨r,B⟩:=i
  obtain ⟨⟨hr,hbl⟩,hp⟩:=hi
  simp only at hr hp hbl
  refine Aw_sq fun B6 hB6 hR6 hX6=>?_
  refine Aw_st hE [0,2,3,9,10,25] [] fun K hK=>?_
  simp only [go_sem,seval]
  repeat refine sd0 ?_
  refine ⟨fun hg8=>?_,fun hg8=>?_⟩
  ·simp only [dte] at hg8
   repeat refine sd0 ?_
   refine hK _ (Aw_cond rfl (fun hc9=>?_) (fun hc9=>?_))
   ·simp only [dte] at hc9
    obtain rfl:B=[]:=List.eq_nil_of_length_eq_zero (by omega)
    have e0:frst a [cands 0 (ofR R) (toS W) a ((r:Int) + 1)]=[]:=rfl
    refine Aw_skip (hB6 _ ?_)
    refine Aw_sq fun B10 hB10 hR10 hX10=>?_
    refine Aw_bk fun B11 hN11 hE11 hR11 hX11=>?_
    refine Aw_st hE [0,2,3,9,10,11] [] fun K hK=>?_
    simp only [go_sem,seval]
    repeat refine sd0 ?_
    refine hK _ ?_;clear hK K
    refine Aw_bk fun B12 hN12 hE12 hR12 hX12=>?_
    refine Aw_lp (fun j:Nat=>⟨71,[(0,wsl R),(2,wsl W),(3,iv a),(9,isl (frst a [cands j (ofR R) (toS W) a ((r:Int) + 1)])),(10,iv ((r:Int) + 1)),(11,iv ((j:Int) + 1))],[],k⟩) (fun j:Nat=>j≤R.length∧(frst a [cands j (ofR R) (toS W) a ((r:Int) + 1)]).length≤6) (fun j:Nat=>R.length - j) (0) (Le_wb (by simp only [go_sem,seval,e0])) (⟨by omega,by rw [e0];simp⟩) fun i hi B13 hN13 hR13 hX13=>?_
    refine Aw_sq fun B14 hB14 hR14 hX14=>?_
    refine Aw_st hE [0,2,3,9,10,11,31] [] fun K hK=>?_
    simp only [go_sem,seval]
    repeat refine sd0 ?_
    refine hK _ (Aw_cond rfl (fun hc15=>?_) (fun hc15=>?_))
    ·simp only [dte] at hc15
     have hjl:i < W.length:=by omega
     have hgj:(wrows W)[((i:Int) + 1 - 1).toNat]? = some [.sl (rows (W.getD i []))]:=by rw [show ((i:Int) + 1 - 1).toNat=i by omega];exact wrows_get W i hjl
     obtain ⟨hw1,hw2⟩:=hwx _ (getD_memL W i hjl)
     have hws:toS W ((i:Int) + 1)=W.getD i []:=toS_succ W i
     refine Aw_skip (hB14 _ ?_)
     refine Aw_sq fun B16 hB16 hR16 hX16=>?_
     refine Aw_bk fun B17 hN17 hE17 hR17 hX17=>?_
     refine Aw_sq fun B18 hB18 hR18 hX18=>?_
     refine Aw_st hE [0,2,3,9,10,11,51] [] fun K hK=>?_
     simp only [go_sem,seval,hsq,hh1,hh2,hgj,hw1,hw2,hws]
     repeat refine sd0 ?_
     refine ⟨fun hg20=>?_,fun hg20=>?_⟩
     ·have es:=frst_skip (j:=i) (of:=ofR R) (W:=toS W) (h:=a) (rel:=(r:Int) + 1) (by simp only [Bool.not_eq_true',dfn] at hg20;unfold cnd;rw [show (ofR R a ((i:Int) + 1) == (r:Int) + 1)=false by simpa using hg20];rfl)
      repeat refine sd0 ?_
      refine hK _ (Aw_yes rfl ?_)
      refine Aw_exit (hX18 _ _ (hE17 _ (hB16 _ ?_)))
      refine Aw_tx hE [0,2,3,9,10,11] [] fun K hK=>?_
      simp only [go_sem,seval]
      repeat refine sd0 ?_
      refine hK _ (hN13 (i + 1) _ (⟨by omega,by rw [es];exact hi.2⟩) (by omega) (Le_wb (by simp only [go_sem,seval,es,Int.natCast_add,Int.natCast_one])))
     ·refine ⟨by omega,by omega,⟨hw2,by omega,by omega⟩,?_⟩
      simp only [Bool.not_eq_false',dte] at hg20
      have hcnd:cnd (ofR R) (toS W) a ((r:Int) + 1) ((i:Int) + 1)=tells (ofR R) (W.getD i []) ((i:Int) + 1) a:=by unfold cnd;rw [hws,hg20,beq_self_eq_true,Bool.true_and]
      repeat refine sd0 ?_
      refine hK _ (Aw_cond rfl (fun hc21=>?_) (fun hc21=>?_))
      ·have es:=frst_skip (j:=i) (of:=ofR R) (W:=toS W) (h:=a) (rel:=(r:Int) + 1) (by rw [hcnd];simpa using hc21)
       refine Aw_exit (hX18 _ _ (hE17 _ (hB16 _ ?_)))
       refine Aw_tx hE [0,2,3,9,10,11] [] fun K hK=>?_
       simp only [go_sem,seval]
       repeat refine sd0 ?_
       refine hK _ (hN13 (i + 1) _ (⟨by omega,by rw [es];exact hi.2⟩) (by omega) (Le_wb (by simp only [go_sem,seval,es,Int.natCast_add,Int.natCast_one])))
      ·have hcn:cnd (ofR R) (toS W) a ((r:Int) + 1) ((i:Int) + 1)=true:=by rw [hcnd];simpa using hc21
       have h5:(a::W.getD i []).length≤6:=by rw [List.length_cons];omega
       refine Aw_skip (hB18 _ ?_)
       refine Aw_st hE [0,2,3,9,10,11,12] [] fun K hK=>?_
       simp only [go_sem,seval,hgj,hrow]
       repeat refine sd0 ?_
       refine hK _ ?_;clear hK K
       refine Aw_st hE [0,2,3,9,10,11,12,68] [] fun K hK=>?_
       simp only [go_sem,seval]
       repeat refine sd0 ?_
       refine ⟨fun hg23=>?_,fun hg23=>?_⟩
       ·simp only [dte] at hg23
        have es:=frst_one hcn (List.eq_nil_of_length_eq_zero (by omega))
        rw [hws] at es
        repeat refine sd0 ?_
        refine hK _ (Aw_yes rfl ?_)
        refine Aw_tx hE [0,2,3,9,10,11] [] fun K hK=>?_
        simp only [go_sem,seval]
        repeat refine sd0 ?_
        refine hK _ (hN17 _ (hB16 _ ?_))
        refine Aw_tx hE [0,2,3,9,10,11] [] fun K hK=>?_
        simp only [go_sem,seval]
        repeat refine sd0 ?_
        refine hK _ (hN13 (i + 1) _ (⟨by omega,by rw [es];exact h5⟩) (by omega) (Le_wb (by simp only [go_sem,seval,es,Int.natCast_add,Int.natCast_one])))
       ·simp only [dfn] at hg23
        have es:=frst_cmp hcn (fun e=>hg23 (by rw [e];rfl))
        rw [hws] at es
        repeat refine sd0 ?_
        refine hK _ (Aw_cond rfl (fun hc24=>?_) (fun hc24=>?_))
        ·simp only [dte] at hc24
         rw [if_pos hc24] at es
         refine Aw_tx hE [0,2,3,9,10,11] [] fun K hK=>?_
         simp only [go_sem,seval]
         repeat refine sd0 ?_
         refine hK _ (hN17 _ (hB16 _ ?_))
         refine Aw_tx hE [0,2,3,9,10,11] [] fun K hK=>?_
         simp only [go_sem,seval]
         repeat refine sd0 ?_
         refine hK _ (hN13 (i + 1) _ (⟨by omega,by rw [es];exact h5⟩) (by omega) (Le_wb (by simp only [go_sem,seval,es,Int.natCast_add,Int.natCast_one])))
        ·simp only [dfn] at hc24
         rw [if_neg hc24] at es
         refine Aw_skip (hN17 _ (hB16 _ ?_))
         refine Aw_tx hE [0,2,3,9,10,11] [] fun K hK=>?_
         simp only [go_sem,seval]
         repeat refine sd0 ?_
         refine hK _ (hN13 (i + 1) _ (⟨by omega,by rw [es];exact hi.2⟩) (by omega) (Le_wb (by simp only [go_sem,seval,es,Int.natCast_add,Int.natCast_one])))
    ·simp only [dfn] at hc15
     have hin:i=R.length:=by omega
     have hpn:=pkI_next hc2 (show r < 3 by omega) hp
     rw [← hin] at hpn
     refine Aw_exit (hX14 _ _ (hX13 _ _ (hE12 _ (hN11 _ (hB10 _ ?_)))))
     refine Aw_tx hE [0,2,3,9,10] [] fun K hK=>?_
     simp only [go_sem,seval]
     repeat refine sd0 ?_
     refine hK _ (hN5 ((r + 1,frst a [cands i (ofR R) (toS W) a ((r:Int) + 1)])) _ (⟨⟨by simp only;omega,hi.2⟩,by rw [← hin];exact hpn⟩) (by simp only;omega) (Le_wb (by simp only [go_sem,seval,Int.natCast_add,Int.natCast_one])))
   ·simp only [dfn] at hc9
    have hpe:=pkI_end hc2 hp (.inr fun e=>hc9 (by rw [e];rfl))
    refine Aw_exit (hX6 _ _ (hX5 _ _ (hE4 _ (hB3 _ ?_))))
    refine Aw_st hE [8] [] fun K hK=>?_
    simp only [go_sem,seval]
    repeat refine sd0 ?_
    refine hK _ (Aw_ret (hQ _ ?_))
    simp only [go_sem,seval,hpe]
  ·simp only [dfn] at hg8
   have hpe:=pkI_end hc2 hp (.inl (by omega))
   repeat refine sd0 ?_
   refine hK _ (Aw_no rfl ?_)
   refine Aw_exit (hX6 _ _ (hX5 _ _ (hE4 _ (hB3 _ ?_))))
   refine Aw_st hE [8] [] fun K hK=>?_
   simp only [go_sem,seval]
   repeat refine sd0 ?_
   refine hK _ (Aw_ret (hQ _ ?_))
   simp only [go_sem,seval,hpe]
def hIb (n:Nat) (x:Int):Bool:=decide (1≤x) && decide (x≤n)
theorem hIb_iff {n:Nat} {x:Int}:hIb n x=true↔hI n x:=by simp [hIb,hI]
def stepC (n:Nat) (of:Rel) (home:Int) (L:List (List Int)) (h:Int):List (List Int):=if hIb n h then stpL n of home L h else L
theorem stepC_len (n:Nat) (of:Rel) (home:Int) (L:List (List Int)) (h:Int):(stepC n of home L h).length=L.length:=by
 unfold stepC;split
 ·exact stpL_len L h
 ·rfl
theorem take_one {α:Type} [Inhabited α] (l:List α) (i:Nat) (d:α) (h:i < l.length):l.take (i + 1)=l.take i++[l.getD i d]:=by
 rw [List.take_succ_eq_append_getElem h,List.getD_eq_getElem?_getD,List.getElem?_eq_getElem h];rfl
theorem stepC_get {n:Nat} {of:Rel} {home:Int} {L:List (List Int)} {h:Int} {i:Nat} (hl:L.length=n) (hi:i < n) :
  (stepC n of home L h).getD i []=if (i:Int) + 1=h then pickN n of home (toS L) h else L.getD i []:=by
 unfold stepC
 by_cases e:(i:Int) + 1=h
 ·have:hIb n h=true:=by simp only [hIb,Bool.and_eq_true,dte];omega
  rw [if_pos this,if_pos e]
  unfold stpL
  rw [show (h - 1).toNat=i by omega,List.getD_eq_getElem?_getD,List.getElem?_set_self (by omega)];rfl
 ·rw [if_neg e]
  split
  ·rename_i hb
   have hb:=hIb_iff.1 hb
   have h1:=hb.1
   unfold stpL
   rw [List.getD_eq_getElem?_getD,List.getD_eq_getElem?_getD,List.getElem?_set_ne (by omega)]
  ·rfl
def gNone:List AV→Option (Prop × AV)
 | [.sl _ els,.v (.int .i64 home)]=>(match waysL els with
  | some R=>some (R.length≤1000∧1≤home∧home≤R.length,wsl (noneL R.length home))
  | none=>none)
 | _=>none
def dNone:DFn:={ g:=gNone }
attribute [go_sem] gNone dNone
theorem none_row (home:Int):[[DV.v (.int .i64 home)]]=rows [home]:=rfl
def gStepL:List AV→Option (Prop × AV)
 | [.sl _ els,.v (.int .i64 home),.sl _ e2,.v (.int .i64 h)]=>(match waysL els,waysL e2 with
  | some R,some W=>some (sqR R∧inW R.length W,wsl (stepC R.length (ofR R) home W h))
  | _,_=>none)
 | _=>none
def dStepL:DFn:={ g:=gStepL }
attribute [go_sem] gStepL dStepL
theorem sStep_ok:Fine Tryd.prog 36 dStepL.con:=by
 refine fine_det (T:=TT) Tryd.func36 rfl Tryd.ntmps36 (by rw [Tryd.results36]) rfl rfl tt (gs_nil) (ds_cons sPick_ok ds_nil) ?_
 intro args c r h hc
 simp only [dStepL,gStepL] at h
 split at h
 rotate_left
 ·cases h
 split at h
 rotate_left
 ·cases h
 rename_i t els home t2 e2 a _ _ R W hiw hiw2
 obtain rfl:=waysL_eq hiw
 obtain rfl:=waysL_eq hiw2
 obtain ⟨rfl,rfl⟩:=Prod.mk.inj (Option.some.inj h)
 refine ⟨by simp,fun k E hE Q hQ=>?_⟩
 obtain ⟨hsq,hwl,hwx⟩:=hc
 have hR:=hsq.1
 have hnl:(stepC R.length (ofR R) home W a).length=R.length:=by rw [stepC_len,hwl]
 refine Aw_st hE [0,1,2,3] [] fun K hK=>?_
 simp only [go_sem,seval]
 repeat refine sd0 ?_
 refine hK _ ?_;clear hK K
 refine Aw_st hE [0,1,2,3,9] [] fun K hK=>?_
 simp only [go_sem,seval]
 repeat refine sd0 ?_
 refine hK _ ?_;clear hK K
 refine Aw_sq fun B1 hB1 hR1 hX1=>?_
 refine Aw_st hE [0,1,2,3,9,10] [] fun K hK=>?_
 simp only [go_sem,seval]
 repeat refine sd0 ?_
 refine hK _ ?_;clear hK K
 refine Aw_bk fun B2 hN2 hE2 hR2 hX2=>?_
 refine Aw_lp (fun i:List (List Int) × Nat=>⟨40,[(0,wsl R),(1,iv home),(2,wsl W),(3,iv a),(9,.sl (some (11,0,24)) (wrows i.1)),(10,iv (i.2:Int))],[],k⟩) (fun i:List (List Int) × Nat=>i.2≤R.length∧i.1=(stepC R.length (ofR R) home W a).take i.2) (fun i:List (List Int) × Nat=>R.length - i.2) (([],0)) (Le_wa) (⟨by simp,by simp⟩) fun i hi B3 hN3 hR3 hX3=>?_
 obtain ⟨out,i⟩:=i
 obtain ⟨hi,ho⟩:=hi
 simp only at hi ho
 refine Aw_sq fun B4 hB4 hR4 hX4=>?_
 refine Aw_st hE [0,1,2,3,9,10,15] [] fun K hK=>?_
 simp only [go_sem,seval]
 repeat refine sd0 ?_
 refine hK _ (Aw_cond rfl (fun hc5=>?_) (fun hc5=>?_))
 ·simp only [dte] at hc5
  have hil:i < R.length:=by omega
  have hg:=stepC_get (n:=R.length) (of:=ofR R) (home:=home) (h:=a) hwl hil
  have hst:=take_one (stepC R.length (ofR R) home W a) i [] (by omega)
  have hol:out.length=i:=by rw [ho,List.length_take];omega
  rw [← ho,hg] at hst
  have hgw:=wrows_get W i (by omega)
  have hwi:=hwx _ (getD_memL W i (by omega))
  have hwi2:=hwi.1
  refine Aw_skip (hB4 _ ?_)
  refine Aw_sq fun B6 hB6 hR6 hX6=>?_
  refine Aw_bk fun B7 hN7 hE7 hR7 hX7=>?_
  refine Aw_st hE [0,1,2,3,9,10,21] [] fun K hK=>?_
  simp only [go_sem,seval]
  repeat refine sd0 ?_
  refine hK _ (Aw_cond rfl (fun hc8=>?_) (fun hc8=>?_))
  ·simp only [dte] at hc8
   rw [if_pos hc8] at hst
   have hin:inW R.length W:=⟨hwl,hwx⟩
   have ha1:1≤a:=by omega
   have ha2:a≤R.length:=by omega
   refine Aw_tx hE [0,1,2,3,9,10] [] fun K hK=>?_
   simp only [go_sem,seval,hsq,hin,ha1,ha2,wrows_one]
   repeat refine sd0 ?_
   refine hK _ (hN7 _ (hB6 _ ?_))
   refine Aw_tx hE [0,1,2,3,9,10] [] fun K hK=>?_
   simp only [go_sem,seval,Int.natCast_add,Int.natCast_one]
   repeat refine sd0 ?_
   refine hK _ (hN3 ((out++[pickN R.length (ofR R) home (toS W) a],i + 1)) _ (⟨by simp only;omega,hst.symm⟩) (by simp only;omega) (Le_tk 29 11 rfl))
  ·simp only [dfn] at hc8
   rw [if_neg hc8] at hst
   refine Aw_tx hE [0,1,2,3,9,10] [] fun K hK=>?_
   simp only [go_sem,seval,hgw,wrows_one]
   repeat refine sd0 ?_
   refine hK _ (hN7 _ (hB6 _ ?_))
   refine Aw_tx hE [0,1,2,3,9,10] [] fun K hK=>?_
   simp only [go_sem,seval,Int.natCast_add,Int.natCast_one]
   repeat refine sd0 ?_
   refine hK _ (hN3 ((out++[W.getD i []],i + 1)) _ (⟨by simp only;omega,hst.symm⟩) (by simp only;omega) (Le_tk 38 11 rfl))
 ·simp only [dfn] at hc5
  have hn:i=R.length:=by omega
  refine Aw_exit (hX4 _ _ (hX3 _ _ (hE2 _ (hB1 _ ?_))))
  refine Aw_st hE [8] [] fun K hK=>?_
  simp only [go_sem,seval]
  repeat refine sd0 ?_
  refine hK _ (Aw_ret (hQ _ ?_))
  simp only [go_sem,seval]
  rw [ho,hn,List.take_of_length_le (by omega)]
def gNetNone:List AV→Option (Prop × AV)
 | [.sl _ els,.v (.int .i64 home)]=>(match waysL els with
  | some R=>some (bigM R,wsl (if relsOk R && hIb R.length home then noneL R.length home else []))
  | none=>none)
 | _=>none
def dNetNone:DFn:={ g:=gNetNone }
attribute [go_sem] gNetNone dNetNone
def gEndL:List AV→Option (Prop × AV)
 | [.sl _ els,.v (.int .i64 home)]=>(match waysL els with
  | some R=>some (relsOk R=true∧1≤home∧home≤R.length,wsl (endL R.length (ofR R) home))
  | none=>none)
 | _=>none
def dEndL:DFn:={ g:=gEndL }
attribute [go_sem] gEndL dEndL
def gNetEnd:List AV→Option (Prop × AV)
 | [.sl _ els,.v (.int .i64 home)]=>(match waysL els with
  | some R=>some (bigM R,wsl (if relsOk R && hIb R.length home then endL R.length (ofR R) home else []))
  | none=>none)
 | _=>none
def dNetEnd:DFn:={ g:=gNetEnd }
attribute [go_sem] gNetEnd dNetEnd
theorem runL_snoc (n:Nat) (of:Rel) (home:Int) (L:List (List Int)) (l:List Int) (h:Int):runL n of home L (l++[h])=stpL n of home (runL n of home L l) h:=by
 rw [runL_app];rfl
theorem lnk_iff {of:Rel}:∀ {w:List Int},lnk of w=true↔∀ j,j + 1 < w.length→of (w.getD j 0) (w.getD (j + 1) 0)≠0
 | []=>by simp [lnk]
 | [x]=>by simp [lnk]
 | x::y::l=>by
  have ih:=lnk_iff (of:=of) (w:=y::l)
  simp only [lnk,Bool.and_eq_true,Bool.not_eq_true',beq_eq_false_iff_ne,ne_eq,ih]
  constructor
  ·rintro ⟨h1,h2⟩ j hj
   cases j with
   | zero=>exact h1
   | succ j=>exact h2 j (by simpa using hj)
  ·intro h
   exact ⟨h 0 (by simp),fun j hj=>h (j + 1) (by simpa using hj)⟩
theorem head_getD {w:List Int} (hne:w≠[]) (h:Int):w.head? = some h↔w.getD 0 0=h:=by
 cases w with
 | nil=>exact absurd rfl hne
 | cons x l=>simp
theorem last_getD {w:List Int} (hne:w≠[]) (h:Int):w.getLast? = some h↔w.getD (w.length - 1) 0=h:=by
 have:w.length - 1 < w.length:=by have:=List.length_pos_iff.2 hne;omega
 rw [List.getLast?_eq_getElem?,List.getD_eq_getElem?_getD,List.getElem?_eq_getElem this];simp
theorem all_getD {w:List Int} {p:Int→Prop}:(∀ x ∈ w,p x)↔∀ j,j < w.length→p (w.getD j 0):=by
 constructor
 ·exact fun h j hj=>h _ (getD_mem w j hj)
 ·intro h x hx
  obtain ⟨j,hj,rfl⟩:=List.getElem_of_mem hx
  have:=h j hj
  rwa [List.getD_eq_getElem?_getD,List.getElem?_eq_getElem hj] at this
theorem wayOk_D {n:Nat} {of:Rel} {home h:Int} {w:List Int} (hne:w≠[]):wayOk n of home h w=true↔
  (∀ j,j < w.length→hI n (w.getD j 0))∧(∀ j,j + 1 < w.length→of (w.getD j 0) (w.getD (j + 1) 0)≠0)∧pathOk w=true∧w.getD 0 0=h∧w.getD (w.length - 1) 0=home∧(h≠home∨w.length=1):=by
 rw [wayOk_iff hne,all_getD,lnk_iff,head_getD hne,last_getD hne]
theorem way_no {n:Nat} {of:Rel} {home h:Int} {w:List Int} (hne:w≠[]) (hno:¬ ((∀ j,j < w.length→hI n (w.getD j 0))∧(∀ j,j + 1 < w.length→of (w.getD j 0) (w.getD (j + 1) 0)≠0)∧pathOk w=true∧w.getD 0 0=h∧w.getD (w.length - 1) 0=home∧(h≠home∨w.length=1))):wayOk n of home h w=false:=by
 cases e:wayOk n of home h w with
 | false=>rfl
 | true=>exact absurd ((wayOk_D hne).1 e) hno
def gWayOk:List AV→Option (Prop × AV)
 | [.sl _ els,.v (.int .i64 home),.sl _ e2,.v (.int .i64 h)]=>(match waysL els,intsL e2 with
  | some R,some w=>some (sqR R∧w.length≤4294967296,bv (wayOk R.length (ofR R) home h w))
  | _,_=>none)
 | _=>none
def dWayOk:DFn:={ g:=gWayOk }
attribute [go_sem] gWayOk dWayOk
def wkI (R:List (List Int)) (w:List Int) (i:Nat):Prop:=i≤w.length∧(∀ j,j < i→hI R.length (w.getD j 0))∧∀ j,j + 1 < i→ofR R (w.getD j 0) (w.getD (j + 1) 0)≠0
theorem sWay_ok:Fine Tryd.prog 40 dWayOk.con:=by
 refine fine_det (T:=TT) Tryd.func40 rfl Tryd.ntmps40 (by rw [Tryd.results40]) rfl rfl tt (gs_nil) (ds_cons sOfR_ok (ds_cons in_ok (ds_cons sPathOk_ok ds_nil))) ?_
 intro args c r h hc
 simp only [dWayOk,gWayOk] at h
 split at h
 rotate_left
 ·cases h
 split at h
 rotate_left
 ·cases h
 rename_i t els home t2 e2 a _ _ R w hiw hl
 obtain rfl:=waysL_eq hiw
 obtain rfl:=intsL_eq hl
 obtain ⟨rfl,rfl⟩:=Prod.mk.inj (Option.some.inj h)
 refine ⟨by simp,fun k E hE Q hQ=>?_⟩
 obtain ⟨hsq,hw⟩:=hc
 have hR:=hsq.1
 refine Aw_st hE [0,1,2,3] [] fun K hK=>?_
 simp only [go_sem,seval]
 refine hK _ ?_;clear hK K
 refine Aw_sq fun B1 hB1 hR1 hX1=>?_
 refine Aw_st hE [0,1,2,3,12] [] fun K hK=>?_
 simp only [go_sem,seval]
 refine hK _ (Aw_cond rfl (fun hc2=>?_) (fun hc2=>?_))
 ·simp only [dte] at hc2
  obtain rfl:w=[]:=List.eq_nil_of_length_eq_zero (by omega)
  refine Aw_st hE [8] [] fun K hK=>?_
  simp only [go_sem,seval]
  refine hK _ (Aw_ret (hR1 _ (hQ _ ?_)))
  simp only [go_sem,seval]
  rw [wayOk_nil]
  simp only [beq_dec]
 simp only [dfn] at hc2
 have hne:w≠[]:=fun e=>hc2 (by rw [e];rfl)
 have hpos:=List.length_pos_iff.2 hne
 refine Aw_skip (hB1 _ ?_)
 refine Aw_sq fun B3 hB3 hR3 hX3=>?_
 refine Aw_st hE [0,1,2,3,9] [] fun K hK=>?_
 simp only [go_sem,seval]
 refine hK _ ?_;clear hK K
 refine Aw_bk fun B4 hN4 hE4 hR4 hX4=>?_
 refine Aw_lp (fun i:Nat=>⟨77,[(0,wsl R),(1,iv home),(2,isl w),(3,iv a),(9,iv i)],[],k⟩) (fun i=>wkI R w i) (fun i=>w.length - i) 0 (Le_wa) ⟨by omega,fun j h=>absurd h (by omega),fun j h=>absurd h (by omega)⟩ fun i hi B5 hN5 hR5 hX5=>?_
 obtain ⟨hi,hi1,hi2⟩:=hi
 refine Aw_sq fun B6 hB6 hR6 hX6=>?_
 refine Aw_st hE [0,1,2,3,9,19] [] fun K hK=>?_
 simp only [go_sem,seval]
 refine hK _ (Aw_cond rfl (fun hc7=>?_) (fun hc7=>?_))
 rotate_left
 ·simp only [dfn] at hc7
  obtain rfl:i=w.length:=by omega
  refine Aw_exit (hX6 _ _ (hX5 _ _ (hE4 _ (hB3 _ ?_))))
  have h0:=rows_get w 0 hpos
  have h9:=rows_get w (w.length - 1) (by omega)
  have h9':(rows w)[((w.length:Int) - 1).toNat]? = some [.v (.int .i64 (w.getD (w.length - 1) 0))]:=by rw [show ((w.length:Int) - 1).toNat=w.length - 1 by omega];exact h9
  have hb1:(1:Int)≤w.length:=by omega
  have hb2:(0:Int)≤(w.length:Int) - 1:=by omega
  have hD:=wayOk_D (n:=R.length) (of:=ofR R) (home:=home) (h:=a) hne
  have hno:=fun h=>way_no (n:=R.length) (of:=ofR R) (home:=home) (h:=a) hne h
  cases h1:pathOk w with
  | false =>
   have hn:=hno (fun h=>by rw [h.2.2.1] at h1;cases h1)
   refine Aw_st hE [8] [] fun K hK=>?_
   refine aops_cut 6 fun K1 hK1=>?_
   simp only [go_sem,seval,hw,h1]
   repeat refine sd0 ?_
   refine hK1 _ ?_
   clear hK1
   refine aops_cut 6 fun K1 hK1=>?_
   simp only [go_sem,seval,hw,h1]
   repeat refine sd0 ?_
   refine hK1 _ ?_
   clear hK1
   refine aops_cut 6 fun K1 hK1=>?_
   simp only [go_sem,seval,hw,h1]
   repeat refine sd0 ?_
   refine hK1 _ ?_
   clear hK1
   refine aops_cut 6 fun K1 hK1=>?_
   simp only [go_sem,seval,hw,h1]
   repeat refine sd0 ?_
   refine hK1 _ ?_
   clear hK1
   simp only [go_sem,seval,hw,h1]
   repeat refine sd0 ?_
   refine hK _ (Aw_ret (hQ _ ?_))
   simp only [go_sem,seval,hn]
  | true =>
  by_cases h2:w.getD 0 0=a
  rotate_left
  ·have hn:=hno (fun h=>h2 h.2.2.2.1)
   have h2d:decide (w.getD 0 0=a)=false:=decide_eq_false h2
   refine Aw_st hE [8] [] fun K hK=>?_
   refine aops_cut 6 fun K1 hK1=>?_
   simp only [go_sem,seval,hw,h1,h0,h2d]
   repeat refine sd0 ?_
   refine hK1 _ ?_
   clear hK1
   refine aops_cut 6 fun K1 hK1=>?_
   simp only [go_sem,seval,hw,h1,h0,h2d]
   repeat refine sd0 ?_
   refine hK1 _ ?_
   clear hK1
   refine aops_cut 6 fun K1 hK1=>?_
   simp only [go_sem,seval,hw,h1,h0,h2d]
   repeat refine sd0 ?_
   refine hK1 _ ?_
   clear hK1
   refine aops_cut 6 fun K1 hK1=>?_
   simp only [go_sem,seval,hw,h1,h0,h2d]
   repeat refine sd0 ?_
   refine hK1 _ ?_
   clear hK1
   simp only [go_sem,seval,hw,h1,h0,h2d]
   repeat refine sd0 ?_
   refine hK _ (Aw_ret (hQ _ ?_))
   simp only [go_sem,seval,hn]
  have h2d:decide (w.getD 0 0=a)=true:=decide_eq_true h2
  by_cases h3:w.getD (w.length - 1) 0=home
  rotate_left
  ·have hn:=hno (fun h=>h3 h.2.2.2.2.1)
   have h3d:decide (w.getD (w.length - 1) 0=home)=false:=decide_eq_false h3
   refine Aw_st hE [8] [] fun K hK=>?_
   refine aops_cut 6 fun K1 hK1=>?_
   simp only [go_sem,seval,hw,h1,h0,h2d,h9',hb1,hb2,h3d,decide_true]
   repeat refine sd0 ?_
   refine hK1 _ ?_
   clear hK1
   refine aops_cut 6 fun K1 hK1=>?_
   simp only [go_sem,seval,hw,h1,h0,h2d,h9',hb1,hb2,h3d,decide_true]
   repeat refine sd0 ?_
   refine hK1 _ ?_
   clear hK1
   refine aops_cut 6 fun K1 hK1=>?_
   simp only [go_sem,seval,hw,h1,h0,h2d,h9',hb1,hb2,h3d,decide_true]
   repeat refine sd0 ?_
   refine hK1 _ ?_
   clear hK1
   refine aops_cut 6 fun K1 hK1=>?_
   simp only [go_sem,seval,hw,h1,h0,h2d,h9',hb1,hb2,h3d,decide_true]
   repeat refine sd0 ?_
   refine hK1 _ ?_
   clear hK1
   simp only [go_sem,seval,hw,h1,h0,h2d,h9',hb1,hb2,h3d,decide_true]
   repeat refine sd0 ?_
   refine hK _ (Aw_ret (hQ _ ?_))
   simp only [go_sem,seval,hn]
  have h3d:decide (w.getD (w.length - 1) 0=home)=true:=decide_eq_true h3
  by_cases h4:a=home
  ·have h4d:decide (a=home)=true:=decide_eq_true h4
   refine Aw_st hE [8] [] fun K hK=>?_
   refine aops_cut 6 fun K1 hK1=>?_
   simp only [go_sem,seval,hw,h1,h0,h2d,h9',hb1,hb2,h3d,h4d,decide_true,Bool.not_true]
   repeat refine sd0 ?_
   refine hK1 _ ?_
   clear hK1
   refine aops_cut 6 fun K1 hK1=>?_
   simp only [go_sem,seval,hw,h1,h0,h2d,h9',hb1,hb2,h3d,h4d,decide_true,Bool.not_true]
   repeat refine sd0 ?_
   refine hK1 _ ?_
   clear hK1
   refine aops_cut 6 fun K1 hK1=>?_
   simp only [go_sem,seval,hw,h1,h0,h2d,h9',hb1,hb2,h3d,h4d,decide_true,Bool.not_true]
   repeat refine sd0 ?_
   refine hK1 _ ?_
   clear hK1
   refine aops_cut 6 fun K1 hK1=>?_
   simp only [go_sem,seval,hw,h1,h0,h2d,h9',hb1,hb2,h3d,h4d,decide_true,Bool.not_true]
   repeat refine sd0 ?_
   refine hK1 _ ?_
   clear hK1
   simp only [go_sem,seval,hw,h1,h0,h2d,h9',hb1,hb2,h3d,h4d,decide_true,Bool.not_true]
   repeat refine sd0 ?_
   refine hK _ (Aw_ret (hQ _ ?_))
   simp only [go_sem,seval]
   have e:wayOk R.length (ofR R) home a w=decide ((w.length:Int)=1):=by
    rw [Bool.eq_iff_iff,hD,dte]
    exact ⟨fun h=>by have:=h.2.2.2.2.2.resolve_left (fun e=>e h4);omega,fun h=>⟨hi1,hi2,h1,h2,h3,.inr (by omega)⟩⟩
   rw [e]
  ·have h4d:decide (a=home)=false:=decide_eq_false h4
   have e:wayOk R.length (ofR R) home a w=true:=hD.2 ⟨hi1,hi2,h1,h2,h3,.inl h4⟩
   refine Aw_st hE [8] [] fun K hK=>?_
   refine aops_cut 6 fun K1 hK1=>?_
   simp only [go_sem,seval,hw,h1,h0,h2d,h9',hb1,hb2,h3d,h4d,decide_true,Bool.not_false]
   repeat refine sd0 ?_
   refine hK1 _ ?_
   clear hK1
   refine aops_cut 6 fun K1 hK1=>?_
   simp only [go_sem,seval,hw,h1,h0,h2d,h9',hb1,hb2,h3d,h4d,decide_true,Bool.not_false]
   repeat refine sd0 ?_
   refine hK1 _ ?_
   clear hK1
   refine aops_cut 6 fun K1 hK1=>?_
   simp only [go_sem,seval,hw,h1,h0,h2d,h9',hb1,hb2,h3d,h4d,decide_true,Bool.not_false]
   repeat refine sd0 ?_
   refine hK1 _ ?_
   clear hK1
   refine aops_cut 6 fun K1 hK1=>?_
   simp only [go_sem,seval,hw,h1,h0,h2d,h9',hb1,hb2,h3d,h4d,decide_true,Bool.not_false]
   repeat refine sd0 ?_
   refine hK1 _ ?_
   clear hK1
   simp only [go_sem,seval,hw,h1,h0,h2d,h9',hb1,hb2,h3d,h4d,decide_true,Bool.not_false]
   repeat refine sd0 ?_
   refine hK _ (Aw_ret (hQ _ ?_))
   simp only [go_sem,seval,e]
 simp only [dte] at hc7
 have hil:i < w.length:=by omega
 have hg:=rows_get w i hil
 have hno:=fun h=>way_no (n:=R.length) (of:=ofR R) (home:=home) (h:=a) hne h
 refine Aw_skip (hB6 _ ?_)
 refine Aw_sq fun B8 hB8 hR8 hX8=>?_
 refine Aw_bk fun B9 hN9 hE9 hR9 hX9=>?_
 cases h1:(decide (1≤w.getD i 0) && decide (w.getD i 0≤R.length)) with
 | false =>
  have hn:=hno (fun h=>by
   have:=h.1 i hil
   rw [decide_eq_true this.1,decide_eq_true this.2] at h1
   cases h1)
  refine Aw_se hE [0,1,4,2,3,5,6,7,8,9,10,11,12,13,14,15,16,17,18,19,20,21,22,23,24,25] [0,0,3,7,0,16,63,127,255,511,1023,2047,4095,4095,4095,20479,61439,126975,4095,4095,790527,1839103,4194303,8388607,16777215,33554431] [0,1,2,3,9,47] [] (by kernel_rfl) fun K hK=>?_
  refine daopsE_cut 6 fun K1 hK1=>?_
  simp only [go_sem,seval,hg,h1,Bool.not_false]
  repeat refine sd0 ?_
  refine hK1 _ ?_
  clear hK1
  refine daopsE_cut 6 fun K1 hK1=>?_
  simp only [go_sem,seval,hg,h1,Bool.not_false]
  repeat refine sd0 ?_
  refine hK1 _ ?_
  clear hK1
  refine daopsE_cut 6 fun K1 hK1=>?_
  simp only [go_sem,seval,hg,h1,Bool.not_false]
  repeat refine sd0 ?_
  refine hK1 _ ?_
  clear hK1
  refine daopsE_cut 6 fun K1 hK1=>?_
  simp only [go_sem,seval,hg,h1,Bool.not_false]
  repeat refine sd0 ?_
  refine hK1 _ ?_
  clear hK1
  simp only [go_sem,seval,hg,h1,Bool.not_false]
  repeat refine sd0 ?_
  refine hK _ (Aw_yes rfl ?_)
  refine Aw_st hE [8] [] fun K hK=>?_
  simp only [go_sem,seval]
  refine hK _ (Aw_ret (hR9 _ (hR8 _ (hR5 _ (hR4 _ (hR3 _ (hQ _ ?_)))))))
  simp only [go_sem,seval,hn]
 | true =>
 have h1':hI R.length (w.getD i 0):=by simpa [hI] using h1
 have nextI:(∀ j,i=j + 1→ofR R (w.getD j 0) (w.getD i 0)≠0)→wkI R w (i + 1):=fun h=>⟨by omega,fun j hj=>by
  by_cases e:j < i
  ·exact hi1 j e
  ·obtain rfl:j=i:=by omega
   exact h1',fun j hj=>by
  by_cases e:j + 1 < i
  ·exact hi2 j e
  ·obtain rfl:i=j + 1:=by omega
   exact h j rfl⟩
 cases i with
 | zero =>
  refine Aw_se hE [0,1,4,2,3,5,6,7,8,9,10,11,12,13,14,15,16,17,18,19,20,21,22,23,24,25] [0,0,3,7,0,16,63,127,255,511,1023,2047,4095,4095,4095,20479,61439,126975,4095,4095,790527,1839103,4194303,8388607,16777215,33554431] [0,1,2,3,9,47] [] (by kernel_rfl) fun K hK=>?_
  refine daopsE_cut 6 fun K1 hK1=>?_
  simp only [go_sem,seval,hg,h1,Bool.not_true,decide_false,Int.lt_irrefl]
  repeat refine sd0 ?_
  refine hK1 _ ?_
  clear hK1
  refine daopsE_cut 6 fun K1 hK1=>?_
  simp only [go_sem,seval,hg,h1,Bool.not_true,decide_false,Int.lt_irrefl]
  repeat refine sd0 ?_
  refine hK1 _ ?_
  clear hK1
  refine daopsE_cut 6 fun K1 hK1=>?_
  simp only [go_sem,seval,hg,h1,Bool.not_true,decide_false,Int.lt_irrefl]
  repeat refine sd0 ?_
  refine hK1 _ ?_
  clear hK1
  refine daopsE_cut 6 fun K1 hK1=>?_
  simp only [go_sem,seval,hg,h1,Bool.not_true,decide_false,Int.lt_irrefl]
  repeat refine sd0 ?_
  refine hK1 _ ?_
  clear hK1
  simp only [go_sem,seval,hg,h1,Bool.not_true,decide_false,Int.lt_irrefl]
  repeat refine sd0 ?_
  refine hK _ (Aw_no rfl (Aw_skip (hN9 _ (hB8 _ ?_))))
  refine Aw_tx hE [0,1,2,3,9] [] fun K hK=>?_
  simp only [go_sem,seval]
  repeat refine sd0 ?_
  refine hK _ (hN5 1 _ (nextI fun j h=>by omega) (by omega) (Le.refl _))
 | succ i =>
 have hg2:=rows_get w i (by omega)
 have hg2':(rows w)[(((i + 1:Nat):Int) - 1).toNat]? = some [.v (.int .i64 (w.getD i 0))]:=by rw [show (((i + 1:Nat):Int) - 1).toNat=i by omega];exact hg2
 have h0d:decide ((0:Int) < ((i + 1:Nat):Int))=true:=decide_eq_true (by omega)
 have h0':(0:Int)≤((i + 1:Nat):Int) - 1:=by omega
 have hp1:=(hi1 i (by omega)).1
 have hp2:=(hi1 i (by omega)).2
 by_cases h2:ofR R (w.getD i 0) (w.getD (i + 1) 0)=0
 ·have hn:=hno (fun h=>h.2.1 i hil h2)
  have h2d:decide (ofR R (w.getD i 0) (w.getD (i + 1) 0)=0)=true:=decide_eq_true h2
  refine Aw_se hE [0,1,4,2,3,5,6,7,8,9,10,11,12,13,14,15,16,17,18,19,20,21,22,23,24,25] [0,0,3,7,0,16,63,127,255,511,1023,2047,4095,4095,4095,20479,61439,126975,4095,4095,790527,1839103,4194303,8388607,16777215,33554431] [0,1,2,3,9,47] [] (by kernel_rfl) fun K hK=>?_
  refine daopsE_cut 6 fun K1 hK1=>?_
  simp only [go_sem,seval,hg,hg2',h1,h0d,h0',hsq,hp1,hp2,h1'.1,h1'.2,h2d,decide_true,Bool.not_true]
  repeat refine sd0 ?_
  refine hK1 _ ?_
  clear hK1
  refine daopsE_cut 6 fun K1 hK1=>?_
  simp only [go_sem,seval,hg,hg2',h1,h0d,h0',hsq,hp1,hp2,h1'.1,h1'.2,h2d,decide_true,Bool.not_true]
  repeat refine sd0 ?_
  refine hK1 _ ?_
  clear hK1
  refine daopsE_cut 6 fun K1 hK1=>?_
  simp only [go_sem,seval,hg,hg2',h1,h0d,h0',hsq,hp1,hp2,h1'.1,h1'.2,h2d,decide_true,Bool.not_true]
  repeat refine sd0 ?_
  refine hK1 _ ?_
  clear hK1
  refine daopsE_cut 6 fun K1 hK1=>?_
  simp only [go_sem,seval,hg,hg2',h1,h0d,h0',hsq,hp1,hp2,h1'.1,h1'.2,h2d,decide_true,Bool.not_true]
  repeat refine sd0 ?_
  refine hK1 _ ?_
  clear hK1
  simp only [go_sem,seval,hg,hg2',h1,h0d,h0',hsq,hp1,hp2,h1'.1,h1'.2,h2d,decide_true,Bool.not_true]
  repeat refine sd0 ?_
  refine hK _ (Aw_yes rfl ?_)
  refine Aw_st hE [8] [] fun K hK=>?_
  simp only [go_sem,seval]
  refine hK _ (Aw_ret (hR9 _ (hR8 _ (hR5 _ (hR4 _ (hR3 _ (hQ _ ?_)))))))
  simp only [go_sem,seval,hn]
 ·have h2d:decide (ofR R (w.getD i 0) (w.getD (i + 1) 0)=0)=false:=decide_eq_false h2
  refine Aw_se hE [0,1,4,2,3,5,6,7,8,9,10,11,12,13,14,15,16,17,18,19,20,21,22,23,24,25] [0,0,3,7,0,16,63,127,255,511,1023,2047,4095,4095,4095,20479,61439,126975,4095,4095,790527,1839103,4194303,8388607,16777215,33554431] [0,1,2,3,9,47] [] (by kernel_rfl) fun K hK=>?_
  refine daopsE_cut 6 fun K1 hK1=>?_
  simp only [go_sem,seval,hg,hg2',h1,h0d,h0',hsq,hp1,hp2,h1'.1,h1'.2,h2d,decide_true,Bool.not_true]
  repeat refine sd0 ?_
  refine hK1 _ ?_
  clear hK1
  refine daopsE_cut 6 fun K1 hK1=>?_
  simp only [go_sem,seval,hg,hg2',h1,h0d,h0',hsq,hp1,hp2,h1'.1,h1'.2,h2d,decide_true,Bool.not_true]
  repeat refine sd0 ?_
  refine hK1 _ ?_
  clear hK1
  refine daopsE_cut 6 fun K1 hK1=>?_
  simp only [go_sem,seval,hg,hg2',h1,h0d,h0',hsq,hp1,hp2,h1'.1,h1'.2,h2d,decide_true,Bool.not_true]
  repeat refine sd0 ?_
  refine hK1 _ ?_
  clear hK1
  refine daopsE_cut 6 fun K1 hK1=>?_
  simp only [go_sem,seval,hg,hg2',h1,h0d,h0',hsq,hp1,hp2,h1'.1,h1'.2,h2d,decide_true,Bool.not_true]
  repeat refine sd0 ?_
  refine hK1 _ ?_
  clear hK1
  simp only [go_sem,seval,hg,hg2',h1,h0d,h0',hsq,hp1,hp2,h1'.1,h1'.2,h2d,decide_true,Bool.not_true]
  repeat refine sd0 ?_
  refine hK _ (Aw_no rfl (Aw_skip (hN9 _ (hB8 _ ?_))))
  refine Aw_tx hE [0,1,2,3,9] [] fun K hK=>?_
  simp only [go_sem,seval]
  repeat refine sd0 ?_
  refine hK _ (hN5 (i + 1 + 1) _ (nextI fun j h=>by obtain rfl:i=j:=(by omega);exact h2) (by omega) (Le.refl _))
def gNetOk:List AV→Option (Prop × AV)
 | [.sl _ els,.v (.int .i64 home),.sl _ e2]=>(match waysL els,waysL e2 with
  | some R,some W=>some (bigM R∧bigM W,bv (netOk R home W))
  | _,_=>none)
 | _=>none
def dNetOk:DFn:={ g:=gNetOk }
attribute [go_sem] gNetOk dNetOk
theorem netOk_def (R:List (List Int)) (home:Int) (W:List (List Int)):netOk R home W=(relsOk R && hIb R.length home && W.length == R.length && (hs R.length).all fun h=>wayOk R.length (ofR R) home h (toS W h)):=rfl
theorem netOk_N {R:List (List Int)} {home:Int} {W:List (List Int)}:netOk R home W=true↔relsOk R=true∧hIb R.length home=true∧W.length=R.length∧∀ i,i < R.length→wayOk R.length (ofR R) home ((i:Int) + 1) (W.getD i [])=true:=by
 rw [netOk_def]
 simp only [Bool.and_eq_true,beq_iff_eq,List.all_eq_true,mem_hs,and_assoc]
 constructor
 ·rintro ⟨h1,h2,h3,h4⟩
  refine ⟨h1,h2,h3,fun i hi=>?_⟩
  have:=h4 ((i:Int) + 1) ⟨by omega,by omega⟩
  rwa [toS_succ] at this
 ·rintro ⟨h1,h2,h3,h4⟩
  refine ⟨h1,h2,h3,fun h hh=>?_⟩
  have a1:=hh.1
  have a2:=hh.2
  have:=h4 (h - 1).toNat (by omega)
  rw [show (((h - 1).toNat:Int) + 1)=h by omega] at this
  rwa [toS_in a1]
theorem netOk_F {R:List (List Int)} {home:Int} {W:List (List Int)} (h:¬ (relsOk R=true∧hIb R.length home=true∧W.length=R.length∧∀ i,i < R.length→wayOk R.length (ofR R) home ((i:Int) + 1) (W.getD i [])=true)):netOk R home W=false:=by
 cases e:netOk R home W with
 | false=>rfl
 | true=>exact absurd (netOk_N.1 e) h
theorem sNetOk_ok:Fine Tryd.prog 25 dNetOk.con:=by
 refine fine_det (T:=TT) Tryd.func25 rfl Tryd.ntmps25 (by rw [Tryd.results25]) rfl rfl tt (gs_nil) (ds_cons sRelsOk_ok (ds_cons in_ok (ds_cons sWay_ok ds_nil))) ?_
 intro args c r h hc
 simp only [dNetOk,gNetOk] at h
 split at h
 rotate_left
 ·cases h
 split at h
 rotate_left
 ·cases h
 rename_i t els home t2 e2 _ _ R W hiw hiw2
 obtain rfl:=waysL_eq hiw
 obtain rfl:=waysL_eq hiw2
 obtain ⟨rfl,rfl⟩:=Prod.mk.inj (Option.some.inj h)
 refine ⟨by simp,fun k E hE Q hQ=>?_⟩
 obtain ⟨hbR,hbW⟩:=hc
 refine Aw_st hE [0,1,2] [] fun K hK=>?_
 simp only [go_sem,seval]
 repeat refine sd0 ?_
 refine hK _ ?_;clear hK K
 refine Aw_sq fun B1 hB1 hR1 hX1=>?_
 refine Aw_st hE [0,1,2,24] [] fun K hK=>?_
 simp only [go_sem,seval,hbR]
 repeat refine sd0 ?_
 refine ⟨fun hg3=>?_,fun hg3=>?_⟩
 ·simp only [Bool.not_eq_true'] at hg3
  have hn:=netOk_F (R:=R) (home:=home) (W:=W) (fun h=>by rw [h.1] at hg3;cases hg3)
  repeat refine sd0 ?_
  refine hK _ (Aw_yes rfl ?_)
  refine Aw_st hE [6] [] fun K hK=>?_
  simp only [go_sem,seval]
  repeat refine sd0 ?_
  refine hK _ (Aw_ret (hR1 _ (hQ _ ?_)))
  simp only [go_sem,seval,hn]
 ·simp only [Bool.not_eq_false'] at hg3
  repeat refine sd0 ?_
  refine ⟨fun hg4=>?_,fun hg4=>?_⟩
  ·simp only [Bool.not_eq_true'] at hg4
   have hb:hIb R.length home=false:=hg4
   have hn:=netOk_F (R:=R) (home:=home) (W:=W) (fun h=>by rw [h.2.1] at hb;cases hb)
   repeat refine sd0 ?_
   refine hK _ (Aw_yes rfl ?_)
   refine Aw_st hE [6] [] fun K hK=>?_
   simp only [go_sem,seval]
   repeat refine sd0 ?_
   refine hK _ (Aw_ret (hR1 _ (hQ _ ?_)))
   simp only [go_sem,seval,hn]
  ·simp only [Bool.not_eq_false'] at hg4
   have hb:hIb R.length home=true:=hg4
   repeat refine sd0 ?_
   refine hK _ (Aw_cond rfl (fun hc5=>?_) (fun hc5=>?_))
   ·simp only [Bool.not_eq_true',dfn] at hc5
    have hn:=netOk_F (R:=R) (home:=home) (W:=W) (fun h=>hc5 (by rw [h.2.2.1]))
    refine Aw_st hE [6] [] fun K hK=>?_
    simp only [go_sem,seval]
    repeat refine sd0 ?_
    refine hK _ (Aw_ret (hR1 _ (hQ _ ?_)))
    simp only [go_sem,seval,hn]
   ·simp only [Bool.not_eq_false',dte] at hc5
    have hsq:=relsOk_sq hg3
    have hR:=hsq.1
    refine Aw_skip (hB1 _ ?_)
    refine Aw_sq fun B6 hB6 hR6 hX6=>?_
    refine Aw_st hE [0,1,2,7] [] fun K hK=>?_
    simp only [go_sem,seval]
    repeat refine sd0 ?_
    refine hK _ ?_;clear hK K
    refine Aw_bk fun B7 hN7 hE7 hR7 hX7=>?_
    refine Aw_lp (fun i:Nat=>⟨41,[(0,wsl R),(1,iv home),(2,wsl W),(7,iv (i:Int))],[],k⟩) (fun i:Nat=>i≤R.length∧∀ j,j < i→wayOk R.length (ofR R) home ((j:Int) + 1) (W.getD j [])=true) (fun i:Nat=>R.length - i) (0) (Le_wa) (⟨by omega,fun j h=>absurd h (by omega)⟩) fun i hi B8 hN8 hR8 hX8=>?_
    refine Aw_sq fun B9 hB9 hR9 hX9=>?_
    refine Aw_st hE [0,1,2,7,28] [] fun K hK=>?_
    simp only [go_sem,seval]
    repeat refine sd0 ?_
    refine hK _ (Aw_cond rfl (fun hc10=>?_) (fun hc10=>?_))
    ·simp only [dte] at hc10
     have hil:i < W.length:=by omega
     have hgw:=wrows_get W i hil
     have hwl:=hbW.2 _ (getD_memL W i hil)
     refine Aw_skip (hB9 _ ?_)
     refine Aw_sq fun B11 hB11 hR11 hX11=>?_
     refine Aw_bk fun B12 hN12 hE12 hR12 hX12=>?_
     refine Aw_st hE [0,1,2,7,40] [] fun K hK=>?_
     simp only [go_sem,seval,hgw,hsq,hwl]
     repeat refine sd0 ?_
     refine hK _ (Aw_cond rfl (fun hc13=>?_) (fun hc13=>?_))
     ·simp only [Bool.not_eq_true'] at hc13
      have hn:=netOk_F (R:=R) (home:=home) (W:=W) (fun h=>by rw [h.2.2.2 i (by omega)] at hc13;cases hc13)
      refine Aw_st hE [6] [] fun K hK=>?_
      simp only [go_sem,seval]
      repeat refine sd0 ?_
      refine hK _ (Aw_ret (hR12 _ (hR11 _ (hR8 _ (hR7 _ (hR6 _ (hQ _ ?_)))))))
      simp only [go_sem,seval,hn]
     ·simp only [Bool.not_eq_false'] at hc13
      refine Aw_skip (hN12 _ (hB11 _ ?_))
      refine Aw_tx hE [0,1,2,7] [] fun K hK=>?_
      simp only [go_sem,seval]
      repeat refine sd0 ?_
      refine hK _ (hN8 (i + 1) _ (⟨by omega,fun j hj=>if e:j < i then hi.2 j e else (by obtain rfl:j=i:=(by omega);exact hc13)⟩) (by omega) (Le.refl _))
    ·simp only [dfn] at hc10
     have hn:=netOk_N.2 ⟨hg3,hb,by omega,fun j hj=>hi.2 j (by omega)⟩
     refine Aw_exit (hX9 _ _ (hX8 _ _ (hE7 _ (hB6 _ ?_))))
     refine Aw_st hE [6] [] fun K hK=>?_
     simp only [go_sem,seval]
     repeat refine sd0 ?_
     refine hK _ (Aw_ret (hQ _ ?_))
     simp only [go_sem,seval,hn]
def gNetPick:List AV→Option (Prop × AV)
 | [.sl _ els,.v (.int .i64 home),.sl _ e2,.v (.int .i64 h)]=>(match waysL els,waysL e2 with
  | some R,some W=>some (bigM R∧bigM W,isl (if netOk R home W && hIb R.length h then pickN R.length (ofR R) home (toS W) h else []))
  | _,_=>none)
 | _=>none
def dNetPick:DFn:={ g:=gNetPick }
def gNetStep:List AV→Option (Prop × AV)
 | [.sl _ els,.v (.int .i64 home),.sl _ e2,.v (.int .i64 h)]=>(match waysL els,waysL e2 with
  | some R,some W=>some (bigM R∧bigM W,wsl (if netOk R home W && hIb R.length h then stpL R.length (ofR R) home W h else []))
  | _,_=>none)
 | _=>none
def dNetStep:DFn:={ g:=gNetStep }
def stillB (n:Nat) (of:Rel) (home:Int) (W:List (List Int)):Bool:=(hs n).all fun h=>decide (pickN n of home (toS W) h=toS W h)
def gStill:List AV→Option (Prop × AV)
 | [.sl _ els,.v (.int .i64 home),.sl _ e2]=>(match waysL els,waysL e2 with
  | some R,some W=>some (netOk R home W=true,bv (stillB R.length (ofR R) home W))
  | _,_=>none)
 | _=>none
def dStill:DFn:={ g:=gStill }
def gNetStill:List AV→Option (Prop × AV)
 | [.sl _ els,.v (.int .i64 home),.sl _ e2]=>(match waysL els,waysL e2 with
  | some R,some W=>some (bigM R∧bigM W,bv (netOk R home W && stillB R.length (ofR R) home W))
  | _,_=>none)
 | _=>none
def dNetStill:DFn:={ g:=gNetStill }
def playOk (R:List (List Int)) (home:Int) (W:List (List Int)) (o:List Int):Bool:=netOk R home W && decide (o.length≤200) && o.all (hIb R.length)
def gNetPlay:List AV→Option (Prop × AV)
 | [.sl _ els,.v (.int .i64 home),.sl _ e2,.sl _ e3]=>(match waysL els,waysL e2,intsL e3 with
  | some R,some W,some o=>some ((bigM R∧bigM W)∧o.length≤4294967296,.tup [wsl (if playOk R home W o then runL R.length (ofR R) home W o else []),bv (playOk R home W o)])
  | _,_,_=>none)
 | _=>none
def dNetPlay:DFn:={ g:=gNetPlay }
attribute [go_sem] gNetPick dNetPick gNetStep dNetStep gStill dStill gNetStill dNetStill gNetPlay dNetPlay
theorem netOk_in {R:List (List Int)} {home:Int} {W:List (List Int)} (h:netOk R home W=true):sqR R∧inW R.length W:=by
 obtain ⟨h1,h2,h3⟩:=netOk_iff.1 h
 exact ⟨relsOk_sq h1,netS_in h2 h3⟩
theorem play_net {R:List (List Int)} {home:Int} {W:List (List Int)} (hok:netOk R home W=true) {l:List Int} (hl:∀ x ∈ l,hI R.length x):netOk R home (runL R.length (ofR R) home W l)=true:=by
 obtain ⟨h1,h2,h3⟩:=netOk_iff.1 hok
 obtain ⟨r1,r2⟩:=toS_run (of:=ofR R) (home:=home) l h2 hl
 refine netOk_iff.2 ⟨h1,r2,?_⟩
 rw [r1]
 exact netS_run (relsOk_iff.1 h1).1.2 l h3 hl
theorem sNetPlay_ok:Fine Tryd.prog 21 dNetPlay.con:=by
 refine fine_det (T:=TT) Tryd.func21 rfl Tryd.ntmps21 (by rw [Tryd.results21]) rfl rfl tt gs_nil (ds_cons sNetOk_ok (ds_cons in_ok (ds_cons sStep_ok ds_nil))) ?_
 intro args c r h hc
 simp only [dNetPlay,gNetPlay] at h
 split at h
 rotate_left
 ·cases h
 split at h
 rotate_left
 ·cases h
 rename_i t els home t2 e2 t3 e3 _ _ _ R W o hiw hiw2 hl
 obtain rfl:=waysL_eq hiw
 obtain rfl:=waysL_eq hiw2
 obtain rfl:=intsL_eq hl
 obtain ⟨rfl,rfl⟩:=Prod.mk.inj (Option.some.inj h)
 refine ⟨by simp,fun k E hE Q hQ=>?_⟩
 obtain ⟨⟨hbR,hbW⟩,hol⟩:=hc
 refine Aw_st hE [0,1,2,3] [] fun K hK=>?_
 simp only [go_sem,seval]
 repeat refine sd0 ?_
 refine hK _ ?_;clear hK K
 refine Aw_sq fun B1 hB1 hR1 hX1=>?_
 refine Aw_st hE [0,1,2,3,21] [] fun K hK=>?_
 simp only [go_sem,seval,hbR,hbW]
 repeat refine sd0 ?_
 refine ⟨fun hg3=>?_,fun hg3=>?_⟩
 ·simp only [Bool.not_eq_true'] at hg3
  have hp:playOk R home W o=false:=by unfold playOk;rw [hg3];rfl
  repeat refine sd0 ?_
  refine hK _ (Aw_yes rfl ?_)
  refine Aw_st hE [8,9] [] fun K hK=>?_
  simp only [go_sem,seval]
  repeat refine sd0 ?_
  refine hK _ (Aw_ret (hR1 _ (hQ _ ?_)))
  simp only [go_sem,seval,hp,Bool.false_eq_true,reduceIte]
  rfl
 ·simp only [Bool.not_eq_false'] at hg3
  repeat refine sd0 ?_
  refine hK _ (Aw_cond rfl (fun hc4=>?_) (fun hc4=>?_))
  ·simp only [dte] at hc4
   have hp:playOk R home W o=false:=by unfold playOk;rw [hg3,decide_eq_false (show ¬ o.length≤200 by omega)];rfl
   refine Aw_st hE [8,9] [] fun K hK=>?_
   simp only [go_sem,seval]
   repeat refine sd0 ?_
   refine hK _ (Aw_ret (hR1 _ (hQ _ ?_)))
   simp only [go_sem,seval,hp,Bool.false_eq_true,reduceIte]
   rfl
  ·simp only [dfn] at hc4
   have hsq:=(netOk_in hg3).1
   have e0:runL R.length (ofR R) home W []=W:=rfl
   refine Aw_skip (hB1 _ ?_)
   refine Aw_st hE [0,1,3,10] [] fun K hK=>?_
   simp only [go_sem,seval]
   repeat refine sd0 ?_
   refine hK _ ?_;clear hK K
   refine Aw_sq fun B5 hB5 hR5 hX5=>?_
   refine Aw_st hE [0,1,3,10,11] [] fun K hK=>?_
   simp only [go_sem,seval]
   repeat refine sd0 ?_
   refine hK _ ?_;clear hK K
   refine Aw_bk fun B6 hN6 hE6 hR6 hX6=>?_
   refine Aw_lp (fun i:Nat=>⟨51,[(0,wsl R),(1,iv home),(3,isl o),(10,wsl (runL R.length (ofR R) home W (o.take i))),(11,iv (i:Int))],[],k⟩) (fun i:Nat=>i≤o.length∧∀ x ∈ o.take i,hI R.length x) (fun i:Nat=>o.length - i) (0) (Le_wb (by simp only [go_sem,seval,e0])) (⟨by omega,by simp⟩) fun i hi B7 hN7 hR7 hX7=>?_
   refine Aw_sq fun B8 hB8 hR8 hX8=>?_
   refine Aw_st hE [0,1,3,10,11,27] [] fun K hK=>?_
   simp only [go_sem,seval]
   repeat refine sd0 ?_
   refine hK _ (Aw_cond rfl (fun hc9=>?_) (fun hc9=>?_))
   ·simp only [dte] at hc9
    have hil:i < o.length:=by omega
    have hgo:=rows_get o i hil
    refine Aw_skip (hB8 _ ?_)
    refine Aw_sq fun B10 hB10 hR10 hX10=>?_
    refine Aw_bk fun B11 hN11 hE11 hR11 hX11=>?_
    refine Aw_sq fun B12 hB12 hR12 hX12=>?_
    refine Aw_st hE [0,1,3,10,11,37] [] fun K hK=>?_
    simp only [go_sem,seval,hgo]
    repeat refine sd0 ?_
    refine hK _ (Aw_cond rfl (fun hc13=>?_) (fun hc13=>?_))
    ·simp only [Bool.not_eq_true'] at hc13
     have hp:playOk R home W o=false:=by
      unfold playOk
      have:o.all (hIb R.length)=false:=List.all_eq_false.2 ⟨_,getD_mem o i hil,by unfold hIb;rw [hc13];simp⟩
      rw [this,Bool.and_false]
     refine Aw_st hE [8,9] [] fun K hK=>?_
     simp only [go_sem,seval]
     repeat refine sd0 ?_
     refine hK _ (Aw_ret (hR12 _ (hR11 _ (hR10 _ (hR7 _ (hR6 _ (hR5 _ (hQ _ ?_))))))))
     simp only [go_sem,seval,hp,Bool.false_eq_true,reduceIte]
     rfl
    ·simp only [Bool.not_eq_false'] at hc13
     have hb:hIb R.length (o.getD i 0)=true:=hc13
     have hin:=(netOk_in (play_net hg3 hi.2)).2
     have hst:=take_one o i 0 hil
     have es:runL R.length (ofR R) home W (o.take i++[o.getD i 0])=stpL R.length (ofR R) home (runL R.length (ofR R) home W (o.take i)) (o.getD i 0):=runL_snoc _ _ _ _ _ _
     refine Aw_skip (hB12 _ ?_)
     refine Aw_tx hE [0,1,3,10,11] [] fun K hK=>?_
     simp only [go_sem,seval,hgo,hsq,hin]
     repeat refine sd0 ?_
     refine hK _ (hN11 _ (hB10 _ ?_))
     refine Aw_tx hE [0,1,3,10,11] [] fun K hK=>?_
     simp only [go_sem,seval,stepC,hb,reduceIte]
     repeat refine sd0 ?_
     refine hK _ (hN7 (i + 1) _ (⟨by omega,fun x hx=>by rw [hst] at hx;exact (List.mem_append.1 hx).elim (hi.2 x) fun h=>by rw [List.mem_singleton.1 h];exact hIb_iff.1 hb⟩) (by omega) (by rw [hst,es];exact Le.refl _))
   ·simp only [dfn] at hc9
    have hio:i=o.length:=by omega
    obtain ⟨_,hi2⟩:=hi
    rw [hio,List.take_length] at hi2 ⊢
    have hin:=(netOk_in (play_net hg3 hi2)).2
    have hp:playOk R home W o=true:=by
     unfold playOk
     have:o.all (hIb R.length)=true:=List.all_eq_true.2 fun x hx=>hIb_iff.2 (hi2 x hx)
     rw [this,hg3,decide_eq_true (show o.length≤200 by omega)];rfl
    have h0:hIb R.length 0=false:=rfl
    refine Aw_exit (hX8 _ _ (hX7 _ _ (hE6 _ (hB5 _ ?_))))
    refine Aw_st hE [8,9] [] fun K hK=>?_
    simp only [go_sem,seval,hsq,hin]
    repeat refine sd0 ?_
    refine hK _ (Aw_ret (hQ _ ?_))
    simp only [go_sem,seval,hp,stepC,h0,Bool.false_eq_true,reduceIte]
def kc (a b:Int):Value:=.agg #[.int .i64 a,.int .i64 b]
def lkF (t:List (Value × Value)):Rel:=fun a b=>match fndT 1 (kc a b) t with
 | some (.int .i64 x)=>x
 | _=>0
def mpI (t:List (Value × Value)):Prop:=∀ p ∈ t,∃ a b x:Int,p=(kc a b,.int .i64 x)
theorem mpI_ok {t:List (Value × Value)} (h:mpI t):mbOk 1 t=true:=List.all_eq_true.2 fun p hp=>by
 obtain ⟨a,b,x,rfl⟩:=h p hp;rfl
theorem fndT_mem {kd:Nat} {k v:Value}:∀ {t:List (Value × Value)},fndT kd k t=some v→∃ p ∈ t,keyEq kd k p.1=true∧p.2=v
 | [],h=>by cases h
 | p::t,h=>by
  simp only [fndT] at h
  split at h
  ·rename_i e;exact ⟨p,by simp,e,Option.some.inj h⟩
  ·obtain ⟨q,h1,h2⟩:=fndT_mem h
   exact ⟨q,List.mem_cons_of_mem _ h1,h2⟩
theorem lk_res {t:List (Value × Value)} (h:mpI t) (a b:Int):resM false (.int .i64 0) (fndT 1 (kc a b) t)=iv (lkF t a b):=by
 unfold lkF
 cases e:fndT 1 (kc a b) t with
 | none=>rfl
 | some v =>
  obtain ⟨p,hp,_,rfl⟩:=fndT_mem e
  obtain ⟨c,d,x,rfl⟩:=h p hp
  rfl
theorem kc_eq (a b c d:Int):keyEq 1 (kc a b) (kc c d)=(a == c && b == d):=rfl
theorem fndT_put {v:Value} (a b c d:Int):∀ {t:List (Value × Value)},mpI t→fndT 1 (kc a b) (mput 1 (kc c d) v t)=if (a == c && b == d)=true then some v else fndT 1 (kc a b) t
 | [],_=>rfl
 | p::t,h=>by
  obtain ⟨x,y,z,rfl⟩:=h p (by simp)
  have ih:=fndT_put (v:=v) a b c d (t:=t) fun q hq=>h q (List.mem_cons_of_mem _ hq)
  have e1:fndT 1 (kc a b) ((kc x y,Value.int .i64 z)::t)=if (a == x && b == y)=true then some (.int .i64 z) else fndT 1 (kc a b) t:=rfl
  have e2:mput 1 (kc c d) v ((kc x y,Value.int .i64 z)::t)=if (c == x && d == y)=true then (kc c d,v)::t else (kc x y,Value.int .i64 z)::mput 1 (kc c d) v t:=rfl
  have e3:fndT 1 (kc a b) ((kc c d,v)::t)=if (a == c && b == d)=true then some v else fndT 1 (kc a b) t:=rfl
  have e4:fndT 1 (kc a b) ((kc x y,Value.int .i64 z)::mput 1 (kc c d) v t)=if (a == x && b == y)=true then some (.int .i64 z) else fndT 1 (kc a b) (mput 1 (kc c d) v t):=rfl
  rw [e1,e2]
  by_cases h1:(c == x && d == y)=true
  ·rw [if_pos h1,e3]
   have h1:c=x∧d=y:=by simpa using h1
   obtain ⟨rfl,rfl⟩:=h1
   by_cases h2:(a == c && b == d)=true
   ·rw [if_pos h2,if_pos h2]
   ·rw [if_neg h2,if_neg h2,if_neg h2]
  ·rw [if_neg h1,e4,ih]
   by_cases h2:(a == x && b == y)=true
   ·rw [if_pos h2,if_pos h2]
    have h2:a=x∧b=y:=by simpa using h2
    obtain ⟨rfl,rfl⟩:=h2
    rw [if_neg]
    intro h3
    have h3:a=c∧b=d:=by simpa using h3
    obtain ⟨rfl,rfl⟩:=h3
    exact h1 (by simp)
   ·rw [if_neg h2,if_neg h2]
theorem lkF_put {t:List (Value × Value)} (h:mpI t) (c d x a b:Int):lkF (mput 1 (kc c d) (.int .i64 x) t) a b=if a=c∧b=d then x else lkF t a b:=by
 unfold lkF
 rw [fndT_put a b c d h]
 by_cases e:a=c∧b=d
 ·obtain ⟨rfl,rfl⟩:=e;simp
 ·rw [if_neg e,if_neg (by simpa using e)]
def rAV (n:Int) (t:List (Value × Value)):AV:=.agg [iv n,.dv (.mp t)]
def gMirr:List AV→Option (Prop × AV) | [.v (.int .i64 x)]=>some (True,iv (mirr x)) | _=>none
def dMirr:DFn:={ g:=gMirr }
attribute [go_sem] gMirr dMirr
theorem mirror_ok:Fine Tryd.prog 53 dMirr.con:=by
 refine fine_det (T:=TT) Tryd.func53 rfl Tryd.ntmps53 (by rw [Tryd.results53]) rfl rfl tt (gs_nil) (ds_nil) ?_
 intro args c r h hc
 simp only [dMirr,gMirr] at h
 split at h
 rotate_left
 ·cases h
 obtain ⟨rfl,rfl⟩:=Prod.mk.inj (Option.some.inj h)
 refine ⟨by simp,fun k E hE Q hQ=>?_⟩
 refine Aw_st hE [0] [] fun K hK=>?_
 simp only [go_sem,seval]
 repeat refine sd0 ?_
 refine hK _ ?_;clear hK K
 refine Aw_sq fun B1 hB1 hR1 hX1=>?_
 refine Aw_st hE [0,3] [] fun K hK=>?_
 simp only [go_sem,seval]
 repeat refine sd0 ?_
 refine hK _ ?_;clear hK K
 refine Aw_bk fun B2 hN2 hE2 hR2 hX2=>?_
 refine Aw_st hE [0,3,4] [] fun K hK=>?_
 simp only [go_sem,seval]
 repeat refine sd0 ?_
 refine hK _ (Aw_cond rfl (fun hc3=>?_) (fun hc3=>?_))
 ·simp only [dte] at hc3
  refine Aw_st hE [2] [] fun K hK=>?_
  simp only [go_sem,seval]
  repeat refine sd0 ?_
  refine hK _ (Aw_ret (hR2 _ (hR1 _ (hQ _ ?_))))
  simp only [go_sem,seval,mirr,hc3,reduceIte]
 ·simp only [dfn] at hc3
  refine Aw_st hE [0,6] [] fun K hK=>?_
  simp only [go_sem,seval]
  repeat refine sd0 ?_
  refine hK _ (Aw_cond rfl (fun hc4=>?_) (fun hc4=>?_))
  ·simp only [dte] at hc4
   refine Aw_st hE [2] [] fun K hK=>?_
   simp only [go_sem,seval]
   repeat refine sd0 ?_
   refine hK _ (Aw_ret (hR2 _ (hR1 _ (hQ _ ?_))))
   simp only [go_sem,seval,mirr,hc3,hc4,reduceIte]
  ·simp only [dfn] at hc4
   refine Aw_skip (hN2 _ (hB1 _ ?_))
   refine Aw_st hE [2] [] fun K hK=>?_
   simp only [go_sem,seval]
   repeat refine sd0 ?_
   refine hK _ (Aw_ret (hQ _ ?_))
   simp only [go_sem,seval,mirr,hc3,hc4,reduceIte]
def gOfM:List AV→Option (Prop × AV)
 | [.agg [.v (.int .i64 _),.dv (.mp t)],.v (.int .i64 a),.v (.int .i64 b)]=>some (mpI t,iv (lkF t a b))
 | _=>none
def dOfM:DFn:={ g:=gOfM }
def gHasM:List AV→Option (Prop × AV)
 | [.agg [.v (.int .i64 n),_],.v (.int .i64 a)]=>some (True,bv (decide (1≤a) && decide (a≤n)))
 | _=>none
def dHasM:DFn:={ g:=gHasM }
def gExpM:List AV→Option (Prop × AV)
 | [.agg [.v (.int .i64 _),.dv (.mp t)],.v (.int .i64 h),.v (.int .i64 o),.v (.int .i64 u)]=>some (mpI t,bv (mayB (lkF t) h o u))
 | _=>none
def dExpM:DFn:={ g:=gExpM }
attribute [go_sem] gOfM dOfM gHasM dHasM gExpM dExpM
theorem kc_def (a b:Int):Value.agg #[.int .i64 a,.int .i64 b]=kc a b:=rfl
theorem kc_key (a b:Int):isKey 1 (kc a b)=true:=rfl
theorem ofM_ok:Fine Tryd.prog 60 dOfM.con:=by
 refine fine_det (T:=TT) Tryd.func60 rfl Tryd.ntmps60 (by rw [Tryd.results60]) rfl rfl tt (gs_nil) (ds_nil) ?_
 intro args c r h hc
 simp only [dOfM,gOfM] at h
 split at h
 rotate_left
 ·cases h
 obtain ⟨rfl,rfl⟩:=Prod.mk.inj (Option.some.inj h)
 refine ⟨by simp,fun k E hE Q hQ=>?_⟩
 rename_i n t a b
 have hmb:=mpI_ok hc
 have hlk:=lk_res hc
 refine Aw_st hE [1,2,3] [3] fun K hK=>?_
 simp only [go_sem,seval]
 repeat refine sd0 ?_
 refine hK _ ?_;clear hK K
 refine Aw_st hE [6] [3] fun K hK=>?_
 simp only [go_sem,seval,hmb,kc_def,kc_key,hlk]
 repeat refine sd0 ?_
 refine hK _ (Aw_ret (hQ _ ?_))
 simp only [go_sem,seval]
theorem hasM_ok:Fine Tryd.prog 29 dHasM.con:=by
 refine fine_det (T:=TT) Tryd.func29 rfl Tryd.ntmps29 (by rw [Tryd.results29]) rfl rfl tt (gs_nil) (ds_nil) ?_
 intro args c r h hc
 simp only [dHasM,gHasM] at h
 split at h
 rotate_left
 ·cases h
 obtain ⟨rfl,rfl⟩:=Prod.mk.inj (Option.some.inj h)
 refine ⟨by simp,fun k E hE Q hQ=>?_⟩
 refine Aw_st hE [1,2] [2] fun K hK=>?_
 simp only [go_sem,seval]
 repeat refine sd0 ?_
 refine hK _ ?_;clear hK K
 refine Aw_st hE [4] [2] fun K hK=>?_
 simp only [go_sem,seval]
 repeat refine sd0 ?_
 refine ⟨fun h1=>?_,fun h1=>?_⟩
 all_goals
  refine hK _ (Aw_ret (hQ _ ?_))
  simp only [go_sem,seval,h1,Bool.true_and,Bool.false_and]
theorem expM_ok:Fine Tryd.prog 62 dExpM.con:=by
 refine fine_det (T:=TT) Tryd.func62 rfl Tryd.ntmps62 (by rw [Tryd.results62]) rfl rfl tt (gs_nil) (ds_cons ofM_ok ds_nil) ?_
 intro args c r h hc
 simp only [dExpM,gExpM] at h
 split at h
 rotate_left
 ·cases h
 obtain ⟨rfl,rfl⟩:=Prod.mk.inj (Option.some.inj h)
 refine ⟨by simp,fun k E hE Q hQ=>?_⟩
 rename_i n t a o u
 refine Aw_st hE [1,2,3,4] [4] fun K hK=>?_
 simp only [go_sem,seval]
 refine hK _ ?_;clear hK K
 by_cases h1:lkF t a u=0
 ·have h1d:decide (lkF t a u=0)=true:=decide_eq_true h1
  refine Aw_st hE [8] [4] fun K hK=>?_
  refine aops_cut 6 fun K1 hK1=>?_
  simp only [go_sem,seval,hc,h1d,decide_true,Bool.not_true]
  repeat refine sd0 ?_
  refine hK1 _ ?_
  clear hK1
  refine aops_cut 6 fun K1 hK1=>?_
  simp only [go_sem,seval,hc,h1d,decide_true,Bool.not_true]
  repeat refine sd0 ?_
  refine hK1 _ ?_
  clear hK1
  refine aops_cut 6 fun K1 hK1=>?_
  simp only [go_sem,seval,hc,h1d,decide_true,Bool.not_true]
  repeat refine sd0 ?_
  refine hK1 _ ?_
  clear hK1
  simp only [go_sem,seval,hc,h1d,decide_true,Bool.not_true]
  repeat refine sd0 ?_
  refine hK _ (Aw_ret (hQ _ ?_))
  simp only [go_sem,seval]
  simp [mayB,h1]
 have h1d:decide (lkF t a u=0)=false:=decide_eq_false h1
 by_cases h2:o=0
 ·have h2d:decide (o=0)=true:=decide_eq_true h2
  refine Aw_st hE [8] [4] fun K hK=>?_
  refine aops_cut 6 fun K1 hK1=>?_
  simp only [go_sem,seval,hc,h1d,h2d,decide_true,Bool.not_false]
  repeat refine sd0 ?_
  refine hK1 _ ?_
  clear hK1
  refine aops_cut 6 fun K1 hK1=>?_
  simp only [go_sem,seval,hc,h1d,h2d,decide_true,Bool.not_false]
  repeat refine sd0 ?_
  refine hK1 _ ?_
  clear hK1
  refine aops_cut 6 fun K1 hK1=>?_
  simp only [go_sem,seval,hc,h1d,h2d,decide_true,Bool.not_false]
  repeat refine sd0 ?_
  refine hK1 _ ?_
  clear hK1
  simp only [go_sem,seval,hc,h1d,h2d,decide_true,Bool.not_false]
  repeat refine sd0 ?_
  refine hK _ (Aw_ret (hQ _ ?_))
  simp only [go_sem,seval]
  simp [mayB,h1,h2]
 have h2d:decide (o=0)=false:=decide_eq_false h2
 by_cases h3:lkF t a o=1
 ·have h3d:decide (lkF t a o=1)=true:=decide_eq_true h3
  refine Aw_st hE [8] [4] fun K hK=>?_
  refine aops_cut 6 fun K1 hK1=>?_
  simp only [go_sem,seval,hc,h1d,h2d,h3d,decide_true,Bool.not_false]
  repeat refine sd0 ?_
  refine hK1 _ ?_
  clear hK1
  refine aops_cut 6 fun K1 hK1=>?_
  simp only [go_sem,seval,hc,h1d,h2d,h3d,decide_true,Bool.not_false]
  repeat refine sd0 ?_
  refine hK1 _ ?_
  clear hK1
  refine aops_cut 6 fun K1 hK1=>?_
  simp only [go_sem,seval,hc,h1d,h2d,h3d,decide_true,Bool.not_false]
  repeat refine sd0 ?_
  refine hK1 _ ?_
  clear hK1
  simp only [go_sem,seval,hc,h1d,h2d,h3d,decide_true,Bool.not_false]
  repeat refine sd0 ?_
  refine hK _ (Aw_ret (hQ _ ?_))
  simp only [go_sem,seval]
  simp [mayB,h1,h2,h3]
 have h3d:decide (lkF t a o=1)=false:=decide_eq_false h3
 refine Aw_st hE [8] [4] fun K hK=>?_
 refine aops_cut 6 fun K1 hK1=>?_
 simp only [go_sem,seval,hc,h1d,h2d,h3d,decide_true,Bool.not_false]
 repeat refine sd0 ?_
 refine hK1 _ ?_
 clear hK1
 refine aops_cut 6 fun K1 hK1=>?_
 simp only [go_sem,seval,hc,h1d,h2d,h3d,decide_true,Bool.not_false]
 repeat refine sd0 ?_
 refine hK1 _ ?_
 clear hK1
 refine aops_cut 6 fun K1 hK1=>?_
 simp only [go_sem,seval,hc,h1d,h2d,h3d,decide_true,Bool.not_false]
 repeat refine sd0 ?_
 refine hK1 _ ?_
 clear hK1
 simp only [go_sem,seval,hc,h1d,h2d,h3d,decide_true,Bool.not_false]
 repeat refine sd0 ?_
 refine hK _ (Aw_ret (hQ _ ?_))
 simp only [go_sem,seval]
 simp [mayB,h1,h2,h3,beq_dec]
end Go.Proofs.W
end
