/- YtpgilgnkiceggaaGreatDoorCardUp: part of the proof that laws hold, for every input that the row speaks of (no condition of ours). -/
import Derived.Test.YtpgilgnkiceggaaGreatDoorWe
import Derived.Test.YtpgilgnkiceggaaGreatDoorWb
import Derived.ChangeVars
import Derived.RowKitTokens
import Derived.Test.YtpgilgnkiceggaaGreatDoorCards
import Derived.Test.YtpgilgnkiceggaaGreatDoorTie
set_option linter.unusedVariables false
set_option linter.unusedSimpArgs false
section
namespace Go.Proofs.W
open Go Go.Eng Go.RowKit
set_option linter.unusedSimpArgs false
set_option maxRecDepth 100000
theorem intsL_one (h:Int):intsL [[.v (.int .i64 h)]]=some [h]:=rfl
theorem intsL_nil2:intsL []=some []:=rfl
theorem okR_one {h:Int} (hh:isH h=true):okR ⟨0,8,[h],0,[]⟩=true:=by
 have h1:rngOk 0 8=true:=by decide
 have h2:mOk []=true:=rfl
 simp only [okR,rtOk,h1,h2]
 simp [hh,pathOk]
set_option maxHeartbeats 4000000 in
theorem fnUp_ok (pb:Addr):Fine Tryz.prog 6 (cLawH pb):=by
 refine fine_of (T:=TT) Tryz.func6 rfl Tryz.ntmps6 (by rw [Tryz.results6]) rfl rfl tt (gs_cons drawRibUp_ok gs_nil) (ds_cons ribUp_ok (ds_cons (iRibUp_ok pb) (ds_cons (iRibTell_ok pb) (ds_cons lyRib_ok (ds_cons sRibOk_ok (ds_cons (iRibFind_ok pb) ds_nil (whp_inh pb)))) (wh_inh pb)) (whp_inh pb))) ?_
 rintro args ⟨bs,hbs,rfl⟩
 refine ⟨by simp,fun k hk E hE Q hQ=>?_⟩
 refine Aw_st hE [0] [] fun K hK=>?_
 simp only [go_sem,seval]
 refine hK _ ?_;clear hK K
 refine Aw_sq fun B1 hB1 hR1 hX1=>?_
 refine Aw_st hE [0,12] [] fun K hK=>?_
 simp only [go_sem,seval]
 refine hK _ (Aw_cond rfl (fun hc2=>?_) (fun hc2=>?_))
 ·refine Aw_st hE [2] [] fun K hK=>?_
  simp only [go_sem,seval]
  refine hK _ (Aw_ret (hR1 _ (hQ _ ?_)))
  simp only [go_sem,seval]
 refine Aw_skip (hB1 _ ?_)
 refine Aw_st hE [3] [3] fun K hK=>?_
 simp only [go_sem,seval]
 refine ⟨dru_pre bs hbs,fun b hb=>?_⟩
 obtain ⟨h0,up,l⟩:=b
 obtain ⟨hb1,hlg⟩:=hb
 simp only at hb1 hlg
 refine hK _ ?_;clear hK K
 cases hok:ribOk ⟨h0,up,l⟩ with
 | false =>
  refine Aw_st hE [3,4] [3,4] fun K hK=>?_
  simp only [go_sem,seval,hok,Bool.false_eq_true,if_false]
  refine ⟨⟨by omega,hlg⟩,?_⟩
  refine hK _ ?_;clear hK K
  refine Aw_sq fun B3 hB3 hR3 hX3=>?_
  have hln:=lensG_nil2
  refine Aw_sd hE [3,4,26] [3,4] 6 (by kernel_rfl) fun K hK=>?_
  simp only [go_sem,seval,hok,Bool.false_eq_true,if_false,gotsL_nil2,eqGs_refl,decide_true,Bool.and_self]
  repeat (refine And.intro (by first | omega | assumption | (and_intros<;>first | omega | assumption | decide) | fail) ?_)
  refine hK _ (Aw_yes rfl ?_)
  refine Aw_sd hE [2] [] 6 (by kernel_rfl) fun K hK=>?_
  simp only [go_sem,seval,hok,Bool.false_eq_true,if_false,gotsL_nil2,eqGs_refl,decide_true,Bool.and_self]
  repeat (refine And.intro (by first | omega | assumption | (and_intros<;>first | omega | assumption | decide) | fail) ?_)
  refine hK _ (Aw_ret (hR3 _ (hQ _ ?_)))
  simp only [go_sem,seval]
 | true =>
  have hrk:=eqGs_refl l
  refine Aw_st hE [3,4] [3,4] fun K hK=>?_
  simp only [go_sem,seval,hok,if_true]
  refine ⟨⟨by omega,hlg⟩,?_⟩
  refine hK _ ?_;clear hK K
  refine Aw_sq fun B3 hB3 hR3 hX3=>?_
  refine Aw_sd hE [3,4,26] [3,4] 6 (by kernel_rfl) fun K hK=>?_
  simp only [go_sem,seval,hok,if_true,hrk,decide_true,Bool.and_self]
  repeat (refine And.intro (by first | omega | assumption | (and_intros<;>first | omega | assumption | decide) | fail) ?_)
  refine hK _ (Aw_no rfl (Aw_skip (hB3 _ ?_)))
  refine Aw_st hE [3,4,5] [3,4,5] fun K hK=>?_
  simp only [go_sem,seval]
  refine hK _ ?_;clear hK K
  refine Aw_st hE [3,4,5] [3,4,5] fun K hK=>?_
  simp only [go_sem,seval]
  refine hK _ ?_;clear hK K
  have hok1:ribOk ⟨h0,true,l⟩=true:=ribOk_up hok
  have hok2:okR ⟨0,8,[h0],0,[]⟩=true:=okR_one (ribOk_iff.1 hok).1
  obtain ⟨h1,u1,l1,o1,hres,⟨hlg1,hll1⟩,hz⟩:=resT_tel (h0:=h0) (up:=true) (l:=l) (x:=⟨0,8,[h0],0,[]⟩) hlg (by simp)
  rcases hz with hz1 | ⟨hz1,_⟩
  rotate_left
  ·rw [tel_some hok1 hok2 rfl] at hz1;cases hz1
  rw [tel_some hok1 hok2 rfl] at hz1
  simp only at hz1
  obtain ⟨yf,yb,yp,yk,ym,z,hresF,hf1,hf0⟩:=resR_ex (ribFind ⟨h0,up,l⟩ 0 8)
  have hzz:=zFind hok hf1 hf0
  refine Aw_st hE [3,4,5,7] [3,4,5] fun K hK=>?_
  simp only [go_sem,seval,intsL_one,intsL_nil2,hres]
  repeat (refine And.intro (by first | omega | assumption | (and_intros<;>first | omega | assumption | decide) | fail) ?_)
  refine hK _ ?_;clear hK K
  refine Aw_st hE [3,4,5,7,9] [3,4,5] fun K hK=>?_
  simp only [go_sem,seval,hresF]
  repeat (refine And.intro (by first | omega | assumption | (and_intros<;>first | omega | assumption | decide) | fail) ?_)
  refine hK _ ?_;clear hK K
  by_cases hd:0≤atG l 0 8
  ·have hzt:z=true:=by rw [hzz];simpa using hd
   subst hzt
   rw [if_pos ⟨by trivial,.inl hd⟩] at hz1
   obtain ⟨rfl,rfl,rfl,rfl⟩:=some_inj hz1
   refine Aw_st hE [2] [] fun K hK=>?_
   simp only [go_sem,seval,hrk,and_self,decide_true,Bool.and_self,beq_self_eq_true]
   repeat (refine And.intro (by first | omega | assumption | (and_intros<;>first | omega | assumption | decide) | fail) ?_)
   refine hK _ (Aw_ret (hQ _ ?_))
   simp only [go_sem,seval]
  ·have hzt:z=false:=by rw [hzz];simpa using hd
   subst hzt
   by_cases h6:l.length < 6
   ·rw [if_pos ⟨by trivial,.inr h6⟩] at hz1
    obtain ⟨rfl,rfl,rfl,rfl⟩:=some_inj hz1
    refine Aw_st hE [2] [] fun K hK=>?_
    simp only [go_sem,seval,hrk,and_self,decide_true,Bool.and_self,beq_self_eq_true,decide_eq_true (show (l.length:Int) < 6 by omega)]
    repeat (refine And.intro (by first | omega | assumption | (and_intros<;>first | omega | assumption | decide) | fail) ?_)
    refine hK _ (Aw_ret (hQ _ ?_))
    simp only [go_sem,seval]
   ·rw [if_neg (by rintro ⟨_,h | h⟩<;>contradiction)] at hz1
    obtain ⟨rfl,rfl,rfl,rfl⟩:=some_inj hz1
    refine Aw_st hE [2] [] fun K hK=>?_
    simp only [go_sem,seval,hrk,and_self,decide_true,Bool.and_self,beq_self_eq_true,decide_eq_false (show ¬ (l.length:Int) < 6 by omega)]
    repeat (refine And.intro (by first | omega | assumption | (and_intros<;>first | omega | assumption | decide) | fail) ?_)
    refine hK _ (Aw_ret (hQ _ ?_))
    simp only [go_sem,seval]
end Go.Proofs.W
end
section
namespace Go.Proofs.YtpgilgnkiceggaaGreatDoor.cUp
open Go Go.Eng Go.RowKit Go.WideShapes Go.ChangeShapes Go.ChangeAt Go.Proofs.W
set_option maxRecDepth 100000
theorem own:ownKnob Tryz.prog.godebug=none:=by kernel_rfl
theorem star : "*"++ "errors.errorString" = "*errors.errorString" := by decide
theorem rowE (u:TypeId) (h:Tryz.prog.typeName? 3 u=some "*errors.errorString"):u=139 :=
 typeName_ptr_named (nm := "errors.errorString") (by rw [star];kernel_rfl) (by kernel_rfl) (by decide) u (by rw [star];exact h)
theorem gE:Tryz.prog.globalNamed "loop.example/wayboard/impl.errPath" = some 0:=by kernel_rfl
theorem gEType:(Tryz.prog.globals[0]?).map (·.type)=some 66:=by kernel_rfl
theorem gT:Tryz.prog.globalNamed "errors.errorType" = some 1:=by kernel_rfl
theorem rtT:(Tryz.prog.cutTypes.find? (·.1 == "internal/reflectlite.rtype")).map (·.2)=some 124:=by kernel_rfl
theorem oneRow:((List.range 187).filter fun t=>Tryz.prog.rowNamed t [101,114,114,111,114])=[66]:=by kernel_rfl
theorem tsize:Tryz.prog.types.size=187:=by kernel_rfl
theorem w_of {W:World} (h:laidMetH Tryz.prog Rows.fnUpRow.laid W):∃ pb,WH pb W∧W.var? Tryz.prog "loop.example/wayboard/impl.errPath" = some #[errV pb]:=by
 obtain ⟨h0,hh⟩:=(h:laidMet Tryz.prog [("math/bits.deBruijn32tab",Rows.laid_math_bits_deBruijn32tab),("math/bits.deBruijn64tab",Rows.laid_math_bits_deBruijn64tab),("internal/strconv.uint64pow10",Rows.laid_internal_strconv_uint64pow10),("loop.example/wayboard/impl.errPath",Rows.laid_loop_example_wayboard_impl_errPath)] W∧handlesMet Tryz.prog [("errors.errorType",Rows.laid_errors_errorType)] W)
 have h1:=laidMet.tail h0
 have h2:=laidMet.tail h1
 have h3:=laidMet.tail h2
 obtain ⟨a0,s0,hv0,hc0,hs0,hz0⟩:=laid_sentinel h3 gE gEType Tryz.underlying66 rowE Tryz.underlying139 Tryz.underlying141 rfl rfl Tryz.underlying9 (by kernel_rfl) (by kernel_rfl)
 refine ⟨a0,⟨⟨⟨?_⟩,?_⟩,?_⟩,hv0⟩
 ·exact Lib.tabIs_of_head (g:=2) (by kernel_rfl) (by kernel_rfl) Tryz.underlying152 Tryz.underlying146 (by kernel_rfl) (by kernel_rfl) h2
 ·simpa using World.var?_cell gE hv0 0
 ·obtain ⟨name,u,ty,e1,e2,e3,e4,e5⟩:=hh _ (List.mem_singleton.2 rfl)
  have en:name=[101,114,114,111,114]:=(Option.some.inj e1).symm
  subst en
  obtain rfl:=Option.some.inj (rtT.symm.trans e2)
  have hm:ty ∈ (List.range 187).filter fun t=>Tryz.prog.rowNamed t [101,114,114,111,114]:=List.mem_filter.2 ⟨List.mem_range.2 (by rw [← tsize];exact e3),e4⟩
  rw [oneRow] at hm
  obtain rfl:=List.mem_singleton.1 hm
  have hx:typeHandle Tryz.prog 66 = .pointer (some ⟨5,66,none⟩):=by kernel_rfl
  rw [hx] at e5
  unfold hdl
  simpa using World.var?_cell gT e5 0
theorem contract (H:Type) (enc:TypeId × Value→H) (W:World) (base:Nat) (args:Array Value) (ds gs:List (DataW H)) (before:List MemPlace)
  (hval:∀ (j:Nat) t v,Tryz.f6.params[j]? = some t→args[j]? = some v→Value.okWide Tryz.prog W .any base t v)
  (hW:DataW.Whole enc Tryz.prog Tryz.f6.params.toList Rows.fnUpSpec.vars false W args.toList ds gs before) (hL:laidMetH Tryz.prog Rows.fnUpRow.laid W) :
  Calls Tryz.prog 6 args W fun e W'=>∃ v,e = .returned v∧Rows.fnUpSpec.post enc Tryz.prog Tryz.f6 false true false false W args v W':=by
 have hW':=hW
 obtain ⟨p,q,hA0,hV0,rfl,hfz,hnd⟩:=hW
 have hA:DataW.TrodAll enc Tryz.prog W 0 (fun _=>true) true Tryz.f6.params.toList args.toList ds p:=hA0
 have hV:DataW.TrodVars enc Tryz.prog W (fun _=>true) ["loop.example/wayboard/impl.errPath"] gs q:=hV0
 rw [Tryz.params6] at hA hval
 obtain ⟨v0,vs0,d0,ds0,p0,q0,hargs,rfl,rfl,hd0,r0⟩:=trodAll_cons hA
 obtain ⟨rfl,rfl,rfl⟩:=trodAll_nil r0
 obtain rfl:args = #[v0]:=by cases args;simp_all
 obtain ⟨pb,hwp,hv0⟩:=w_of hL
 obtain ⟨rfl,rfl⟩:=hV.unique (vars_read1 enc gE gEType Tryz.underlying66 hv0 trivial _)
 obtain ⟨hin0,hback0⟩:=open_arg (hval 0 22 v0 rfl rfl) hd0
 clear hA0 hV0
 simp only [List.append_nil] at hW'
 refine (law_callsH (fnUp_ok pb) W hwp v0 hin0).mono fun e W' ⟨he,hb⟩=>?_
 subst he
 have hv1:W'.var? Tryz.prog "loop.example/wayboard/impl.errPath" = some #[errV pb]:=var_below' hv0 gE hb
 exact ⟨_,rfl,post_below (pa:=p0++[]) (pv:=[.cell 0 0]) hW' (fun _ _ _=>trodAll_cons_mk (shut_bool Tryz.underlying4 _) trodAll_mk0) (fun sp hsp=>trodAll_cons_mk (hback0 W' hb sp (fun x hx=>hsp x (by simp only [List.mem_append];simp [hx]))) trodAll_mk0) (fun sp _=>vars_read1 enc gE gEType Tryz.underlying66 hv1 trivial sp) (by simp)
  hb (ok_one (by kernel_rfl) rfl (okWide_bool_mk Tryz.underlying4 _))⟩
noncomputable def laidWorld (os : Os) : World :=
  let N := (World.settled Tryz.prog os).heap.size
  let w0 := World.holding Tryz.prog os ⟨#[.cells #[.string ⟨#[110, 111, 116, 32, 97, 32, 112, 97, 116, 104]⟩] 141], #[], []⟩
  let put (h : Array Obj) (g : Nat) (cs : Array Value) : Array Obj := h.modify g fun
    | .cells _ t frozen => .cells cs t frozen
    | o => o
  let cellsOf : DataW Unit → Array Value := fun d => match d with
    | .agg ds => (ds.map fun x => match x with | .lit (.int k n) => Value.int k n | _ => .bool false).toArray
    | _ => #[]
  let h0 := put w0.heap 3 (cellsOf Rows.laid_math_bits_deBruijn32tab)
  let h1 := put h0 4 (cellsOf Rows.laid_math_bits_deBruijn64tab)
  let h2 := put h1 2 (cellsOf Rows.laid_internal_strconv_uint64pow10)
  let h3 := put h2 1 #[.iface 124 (.agg #[.pointer (some ⟨5, 66, none⟩)])]
  let h4 := put h3 0 #[.iface 139 (.pointer (some ⟨N + 0, 0, none⟩))]
  { w0 with heap := h4 }

theorem laid_met (os:Os) (args:Array Value):laidMetH Tryz.prog Rows.fnUpRow.laid ((laidWorld os).forCall (fun _ _=>0) ⟨#[],args,[]⟩).memory :=
 laidMetH_of_parts (laidMet_of_run' 8 (by kernel_rfl) (by kernel_rfl)) (by kernel_rfl)
theorem witness_row (os:Os) {H:Type} (enc:TypeId × Value→H) :
  (OpenSpec.ofChange Rows.fnUpSpec).preRow enc Tryz.prog Tryz.f6 Rows.fnUpRow.domain false Rows.fnUpRow.laid ((laidWorld os).forCall (fun _ _=>0) ⟨#[],#[.slice none 0 0],[]⟩).memory #[.slice none 0 0] :=
 OpenSpec.preRow_of_B rfl 8 (by kernel_rfl) (by kernel_rfl) (laid_met os _)
theorem lifted (os:Os) (started:os.Started) (H:Type) (enc:TypeId × Value→H) (F:Stop.Interp) :
  ReturnsInHanded {} Tryz.checked os 6 .any ((OpenSpec.ofChange Rows.fnUpSpec).preRow enc Tryz.prog Tryz.f6 Rows.fnUpRow.domain false Rows.fnUpRow.laid) (((OpenSpec.ofChange Rows.fnUpSpec).at F).post enc Tryz.prog Tryz.f6 false true false false):=by
 refine returnsInHanded_of_row (C:=Tryz.checked) (s:=OpenSpec.ofChange Rows.fnUpSpec) own started (by kernel_rfl) Tryz.func6
  (witness_row_atRef (enc:=enc) (C:=Tryz.checked) false (laidWorld os) #[.slice none 0 0] rfl (by kernel_rfl) (by kernel_rfl) (by kernel_rfl) (witness_row os enc)) ?_
 intro W base args ds gs before hval hW _ _ _ hL hsh _
 exact contract H enc W base args ds gs before hval hW hL
theorem said:Rows.FnUpSaid :=
 OpenClaim.holds_of_cond 6 Tryz.f6 rfl rfl rfl rfl rfl rfl rfl ⟨rfl,rfl,rfl,rfl,rfl⟩ rfl rfl rfl rfl rfl (by kernel_rfl) Tryz.func6 (by kernel_rfl)
  (of_decide_eq_true (by kernel_rfl)) (by unfold Func.isWrapper;first | (rw [if_pos (by decide +kernel)];kernel_rfl) | (rw [if_neg (by decide +kernel)];exact ⟨rfl,rfl⟩))
  (fun os started H enc _ F=>by rw [OpenClaim.pre_eq_preRow];exact lifted os started H enc F)
theorem plain (f:FuncId) (fn:Func) (hf:Tryz.pinned.checked.prog.funcNamed "loop.example/wayboard/laws.FnUp" = some f) (hfn:Tryz.pinned.checked.prog.funcs[f]? = some fn) :
  true=Tryz.pinned.checked.prog.looks []∧∀ (j:Nat) t,fn.params[j]? = some t→Tryz.pinned.checked.prog.wantsStandIn t=false:=by
 obtain rfl:f=6:=Option.some.inj ((show Tryz.prog.funcNamed "loop.example/wayboard/laws.FnUp" = some 6 by kernel_rfl).symm.trans hf) |>.symm
 obtain rfl:fn=Tryz.f6:=(Option.some.inj (Tryz.func6.symm.trans hfn)).symm
 refine ⟨by kernel_rfl,fun j t ht=>?_⟩
 rw [Tryz.params6] at ht
 obtain rfl:t=22:=by simpa using Array.mem_of_getElem? ht
 exact (show Tryz.prog.wantsStandIn 22=false by kernel_rfl)
theorem card:Rows.FnUpCardSaid :=
 Claim7.holds_tied_plain_at .later [] _ _ _ _ said (fun _ h=>by cases h) (by kernel_rfl) (fun _ h=>by cases h) fnUp_row_tie rfl ⟨rfl,rfl⟩ (by kernel_rfl) rfl plain (by kernel_rfl)
end Go.Proofs.YtpgilgnkiceggaaGreatDoor.cUp
end
