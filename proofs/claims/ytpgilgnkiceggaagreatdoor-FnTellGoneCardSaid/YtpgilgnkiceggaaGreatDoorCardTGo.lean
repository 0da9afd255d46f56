/- YtpgilgnkiceggaaGreatDoorCardTGo: part of the proof that laws hold, for every input that the row speaks of (no condition of ours). -/
import Derived.Test.YtpgilgnkiceggaaGreatDoorWf
import Derived.Test.YtpgilgnkiceggaaGreatDoorWc
import Derived.Test.YtpgilgnkiceggaaGreatDoorWe
import Derived.ChangeVars
import Derived.RowKitTokens
import Derived.Test.YtpgilgnkiceggaaGreatDoorCards
import Derived.Test.YtpgilgnkiceggaaGreatDoorTie
set_option linter.unusedVariables false
set_option linter.unusedSimpArgs false
section
namespace Go.Proofs.W
open Go Go.Eng Go.RowKit
set_option linter.unusedSimpArgs false
set_option maxRecDepth 100000
set_option maxHeartbeats 4000000 in
theorem fnTellGone_ok (pb:Addr):Fine Tryz.prog 8 (cLawH pb):=by
 refine fine_of (T:=TT) Tryz.func8 rfl Tryz.ntmps8 (by rw [Tryz.results8]) rfl rfl tt (gs_cons drawRibTell_ok gs_nil) (ds_cons ribTell_ok (ds_cons (iRibTell_ok pb) (ds_cons (iRibDrop_ok pb) (ds_cons lyRib_ok (ds_cons sRibOk_ok (ds_cons sRtOk_ok (ds_cons (iRibDown_ok pb) ds_nil (whp_inh pb))))) (wh_inh pb)) (wh_inh pb))) ?_
 rintro args ⟨bs,hbs,rfl⟩
 refine ⟨by simp,fun k hk E hE Q hQ=>?_⟩
 refine Aw_st hE [0] [] fun K hK=>?_
 simp only [go_sem,seval]
 refine hK _ ?_;clear hK K
 refine Aw_sq fun B1 hB1 hR1 hX1=>?_
 refine Aw_st hE [0,16] [] fun K hK=>?_
 simp only [go_sem,seval]
 refine hK _ (Aw_cond rfl (fun hc2=>?_) (fun hc2=>?_))
 ·refine Aw_st hE [2] [] fun K hK=>?_
  simp only [go_sem,seval]
  refine hK _ (Aw_ret (hR1 _ (hQ _ ?_)))
  simp only [go_sem,seval]
 refine Aw_skip (hB1 _ ?_)
 refine Aw_st hE [3,4] [3,4] fun K hK=>?_
 simp only [go_sem,seval]
 refine ⟨drt_pre bs hbs,fun b x hb hx=>?_⟩
 obtain ⟨h0,up,l⟩:=b
 obtain ⟨rf,rb,p,rk,m⟩:=x
 obtain ⟨hb1,hlg⟩:=hb
 simp only at hb1 hlg hx
 obtain ⟨h1,u1,l1,o1,hres,⟨hlg1,hll1⟩,hz⟩:=resT_tel (h0:=h0) (up:=up) (l:=l) (x:=⟨rf,rb,p,rk,m⟩) hlg (by simp only;omega)
 have hrk:=eqGs_refl l1
 refine hK _ ?_;clear hK K
 refine Aw_st hE [3,4,5,6] [3,4,5] fun K hK=>?_
 simp only [go_sem,seval,hres]
 refine ⟨⟨⟨by omega,hlg⟩,by omega,by omega⟩,?_⟩
 refine hK _ ?_;clear hK K
 refine Aw_st hE [3,4,5,6,7,8] [3,4,5,7] fun K hK=>?_
 simp only [go_sem,seval,hres]
 refine ⟨⟨⟨by omega,hlg⟩,by omega,by omega⟩,?_⟩
 refine hK _ ?_;clear hK K
 refine Aw_sq fun B3 hB3 hR3 hX3=>?_
 refine Aw_sd hE [3,4,5,6,7,8,61] [3,4,5,7] 6 (by kernel_rfl) fun K hK=>?_
 simp only [go_sem,seval,bne_self_eq_false,hrk,and_self,decide_true,Bool.and_self]
 repeat (refine And.intro (by first | omega | assumption | (and_intros<;>first | omega | assumption | decide) | fail) ?_)
 refine ⟨fun hg5=>?_,fun hg5=>?_⟩
 ·refine hK _ (Aw_yes rfl ?_)
  refine Aw_st hE [2] [] fun K hK=>?_
  simp only [go_sem,seval,beq_self_eq_true,hrk,and_self,decide_true,Bool.and_self]
  repeat (refine And.intro (by first | omega | assumption | (and_intros<;>first | omega | assumption | decide) | fail) ?_)
  refine hK _ (Aw_ret (hR3 _ (hQ _ ?_)))
  simp only [go_sem,seval]
 have hok:ribOk ⟨h0,up,l⟩=true:=by simpa using hg5
 repeat (refine And.intro (by first | omega | assumption | (and_intros<;>first | omega | assumption | decide) | fail) ?_)
 refine ⟨fun hg6=>?_,fun hg6=>?_⟩
 ·refine hK _ (Aw_yes rfl ?_)
  refine Aw_st hE [2] [] fun K hK=>?_
  simp only [go_sem,seval,beq_self_eq_true,hrk,and_self,decide_true,Bool.and_self]
  repeat (refine And.intro (by first | omega | assumption | (and_intros<;>first | omega | assumption | decide) | fail) ?_)
  refine hK _ (Aw_ret (hR3 _ (hQ _ ?_)))
  simp only [go_sem,seval]
 have hok2:okR ⟨rf,rb,p,rk,m⟩=true:=by simpa [okR] using hg6
 obtain ⟨q,p',hpq⟩:∃ q p',p=q::p':=by
  cases p with
  | nil=>simp [okR,rtOk] at hok2
  | cons q p'=>exact ⟨q,p',rfl⟩
 have hp0:(rows p)[0]? = some [.v (.int .i64 q)]:=by rw [hpq];rfl
 simp only [go_sem,seval,hp0]
 refine hK _ (Aw_cond rfl (fun hc5=>?_) (fun hc5=>?_))
 ·refine Aw_st hE [2] [] fun K hK=>?_
  simp only [go_sem,seval,beq_self_eq_true,hrk,and_self,decide_true,Bool.and_self]
  repeat (refine And.intro (by first | omega | assumption | (and_intros<;>first | omega | assumption | decide) | fail) ?_)
  refine hK _ (Aw_ret (hR3 _ (hQ _ ?_)))
  simp only [go_sem,seval]
 have hh:p.head? = some h0:=head_eq hpq (by simpa using hc5)
 refine Aw_skip (hB3 _ ?_)
 clear hz
 have hok1:ribOk ⟨h0,false,l.map oldG⟩=true:=ribOk_down (g:=true) hok
 have hxr:rngOk rf rb=true:=okR_rng hok2
 have hlgo:lensG (l.map oldG):=lensG_down (g:=true) hlg
 have hllo:(l.map oldG).length≤7:=by rw [List.length_map];exact hb1
 have htl:telR ⟨h0,false,l.map oldG⟩ ⟨rf,rb,p,rk,m⟩ = .tup [.agg [iv h0,bv false,.sl none (grows (l.map oldG))],bv false]:=by
  rw [telR_res,tel_some hok1 hok2 hh,if_neg (by simp)];rfl
 have hdr:drR ⟨h0,false,l.map oldG⟩ rf rb = .tup [.agg [iv h0,bv false,.sl none (grows (l.map oldG))],bv false]:=by
  rw [drR_res,dr_some hok1 hxr,if_neg (by simp)];rfl
 have hrko:=eqGs_refl (l.map oldG)
 refine Aw_st hE [4,9] [4,9] fun K hK=>?_
 simp only [go_sem,seval,hok,if_true]
 repeat (refine And.intro (by first | omega | assumption | (and_intros<;>first | omega | assumption | decide) | fail) ?_)
 refine hK _ ?_;clear hK K
 refine Aw_st hE [4,9,10,11] [4,9,10] fun K hK=>?_
 simp only [go_sem,seval,htl]
 repeat (refine And.intro (by first | omega | assumption | (and_intros<;>first | omega | assumption | decide) | fail) ?_)
 refine hK _ ?_;clear hK K
 refine Aw_st hE [9,10,11,12,13] [9,10,12] fun K hK=>?_
 simp only [go_sem,seval,hdr]
 repeat (refine And.intro (by first | omega | assumption | (and_intros<;>first | omega | assumption | decide) | fail) ?_)
 refine hK _ ?_;clear hK K
 refine Aw_st hE [2] [] fun K hK=>?_
 simp only [go_sem,seval,hrko,and_self,decide_true,Bool.and_self]
 repeat (refine And.intro (by first | omega | assumption | (and_intros<;>first | omega | assumption | decide) | fail) ?_)
 refine hK _ (Aw_ret (hQ _ ?_))
 simp only [go_sem,seval]
end Go.Proofs.W
end
section
namespace Go.Proofs.YtpgilgnkiceggaaGreatDoor.cTGo
open Go Go.Eng Go.RowKit Go.WideShapes Go.ChangeShapes Go.ChangeAt Go.Proofs.W
set_option maxRecDepth 100000
theorem own:ownKnob Tryz.prog.godebug=none:=by kernel_rfl
theorem star : "*"++ "errors.errorString" = "*errors.errorString" := by decide
theorem rowE (u:TypeId) (h:Tryz.prog.typeName? 3 u=some "*errors.errorString"):u=139 :=
 typeName_ptr_named (nm := "errors.errorString") (by rw [star];kernel_rfl) (by kernel_rfl) (by decide) u (by rw [star];exact h)
theorem gE:Tryz.prog.globalNamed "loop.example/wayboard/impl.errPath" = some 0:=by kernel_rfl
theorem gEType:(Tryz.prog.globals[0]?).map (·.type)=some 66:=by kernel_rfl
theorem gT:Tryz.prog.globalNamed "errors.errorType" = some 1:=by kernel_rfl
theorem rtT:(Tryz.prog.cutTypes.find? (·.1 == "internal/reflectlite.rtype")).map (·.2)=some 124:=by kernel_rfl
theorem oneRow:((List.range 187).filter fun t=>Tryz.prog.rowNamed t [101,114,114,111,114])=[66]:=by kernel_rfl
theorem tsize:Tryz.prog.types.size=187:=by kernel_rfl
theorem w_of {W:World} (h:laidMetH Tryz.prog Rows.fnTellGoneRow.laid W):∃ pb,WH pb W∧W.var? Tryz.prog "loop.example/wayboard/impl.errPath" = some #[errV pb]:=by
 obtain ⟨h0,hh⟩:=(h:laidMet Tryz.prog [("math/bits.deBruijn32tab",Rows.laid_math_bits_deBruijn32tab),("math/bits.deBruijn64tab",Rows.laid_math_bits_deBruijn64tab),("internal/strconv.uint64pow10",Rows.laid_internal_strconv_uint64pow10),("loop.example/wayboard/impl.errPath",Rows.laid_loop_example_wayboard_impl_errPath)] W∧handlesMet Tryz.prog [("errors.errorType",Rows.laid_errors_errorType)] W)
 have h1:=laidMet.tail h0
 have h2:=laidMet.tail h1
 have h3:=laidMet.tail h2
 obtain ⟨a0,s0,hv0,hc0,hs0,hz0⟩:=laid_sentinel h3 gE gEType Tryz.underlying66 rowE Tryz.underlying139 Tryz.underlying141 rfl rfl Tryz.underlying9 (by kernel_rfl) (by kernel_rfl)
 refine ⟨a0,⟨⟨⟨?_⟩,?_⟩,?_⟩,hv0⟩
 ·exact Lib.tabIs_of_head (g:=2) (by kernel_rfl) (by kernel_rfl) Tryz.underlying152 Tryz.underlying146 (by kernel_rfl) (by kernel_rfl) h2
 ·simpa using World.var?_cell gE hv0 0
 ·obtain ⟨name,u,ty,e1,e2,e3,e4,e5⟩:=hh _ (List.mem_singleton.2 rfl)
  have en:name=[101,114,114,111,114]:=(Option.some.inj e1).symm
  subst en
  obtain rfl:=Option.some.inj (rtT.symm.trans e2)
  have hm:ty ∈ (List.range 187).filter fun t=>Tryz.prog.rowNamed t [101,114,114,111,114]:=List.mem_filter.2 ⟨List.mem_range.2 (by rw [← tsize];exact e3),e4⟩
  rw [oneRow] at hm
  obtain rfl:=List.mem_singleton.1 hm
  have hx:typeHandle Tryz.prog 66 = .pointer (some ⟨5,66,none⟩):=by kernel_rfl
  rw [hx] at e5
  unfold hdl
  simpa using World.var?_cell gT e5 0
theorem contract (H:Type) (enc:TypeId × Value→H) (W:World) (base:Nat) (args:Array Value) (ds gs:List (DataW H)) (before:List MemPlace)
  (hval:∀ (j:Nat) t v,Tryz.f8.params[j]? = some t→args[j]? = some v→Value.okWide Tryz.prog W .any base t v)
  (hW:DataW.Whole enc Tryz.prog Tryz.f8.params.toList Rows.fnTellGoneSpec.vars false W args.toList ds gs before) (hL:laidMetH Tryz.prog Rows.fnTellGoneRow.laid W) :
  Calls Tryz.prog 8 args W fun e W'=>∃ v,e = .returned v∧Rows.fnTellGoneSpec.post enc Tryz.prog Tryz.f8 false true false false W args v W':=by
 have hW':=hW
 obtain ⟨p,q,hA0,hV0,rfl,hfz,hnd⟩:=hW
 have hA:DataW.TrodAll enc Tryz.prog W 0 (fun _=>true) true Tryz.f8.params.toList args.toList ds p:=hA0
 have hV:DataW.TrodVars enc Tryz.prog W (fun _=>true) ["loop.example/wayboard/impl.errPath"] gs q:=hV0
 rw [Tryz.params8] at hA hval
 obtain ⟨v0,vs0,d0,ds0,p0,q0,hargs,rfl,rfl,hd0,r0⟩:=trodAll_cons hA
 obtain ⟨rfl,rfl,rfl⟩:=trodAll_nil r0
 obtain rfl:args = #[v0]:=by cases args;simp_all
 obtain ⟨pb,hwp,hv0⟩:=w_of hL
 obtain ⟨rfl,rfl⟩:=hV.unique (vars_read1 enc gE gEType Tryz.underlying66 hv0 trivial _)
 obtain ⟨hin0,hback0⟩:=open_arg (hval 0 22 v0 rfl rfl) hd0
 clear hA0 hV0
 simp only [List.append_nil] at hW'
 refine (law_callsH (fnTellGone_ok pb) W hwp v0 hin0).mono fun e W' ⟨he,hb⟩=>?_
 subst he
 have hv1:W'.var? Tryz.prog "loop.example/wayboard/impl.errPath" = some #[errV pb]:=var_below' hv0 gE hb
 exact ⟨_,rfl,post_below (pa:=p0++[]) (pv:=[.cell 0 0]) hW' (fun _ _ _=>trodAll_cons_mk (shut_bool Tryz.underlying4 _) trodAll_mk0) (fun sp hsp=>trodAll_cons_mk (hback0 W' hb sp (fun x hx=>hsp x (by simp only [List.mem_append];simp [hx]))) trodAll_mk0) (fun sp _=>vars_read1 enc gE gEType Tryz.underlying66 hv1 trivial sp) (by simp)
  hb (ok_one (by kernel_rfl) rfl (okWide_bool_mk Tryz.underlying4 _))⟩
noncomputable def laidWorld (os : Os) : World :=
  let N := (World.settled Tryz.prog os).heap.size
  let w0 := World.holding Tryz.prog os ⟨#[.cells #[.string ⟨#[110, 111, 116, 32, 97, 32, 112, 97, 116, 104]⟩] 141], #[], []⟩
  let put (h : Array Obj) (g : Nat) (cs : Array Value) : Array Obj := h.modify g fun
    | .cells _ t frozen => .cells cs t frozen
    | o => o
  let cellsOf : DataW Unit → Array Value := fun d => match d with
    | .agg ds => (ds.map fun x => match x with | .lit (.int k n) => Value.int k n | _ => .bool false).toArray
    | _ => #[]
  let h0 := put w0.heap 3 (cellsOf Rows.laid_math_bits_deBruijn32tab)
  let h1 := put h0 4 (cellsOf Rows.laid_math_bits_deBruijn64tab)
  let h2 := put h1 2 (cellsOf Rows.laid_internal_strconv_uint64pow10)
  let h3 := put h2 1 #[.iface 124 (.agg #[.pointer (some ⟨5, 66, none⟩)])]
  let h4 := put h3 0 #[.iface 139 (.pointer (some ⟨N + 0, 0, none⟩))]
  { w0 with heap := h4 }

theorem laid_met (os:Os) (args:Array Value):laidMetH Tryz.prog Rows.fnTellGoneRow.laid ((laidWorld os).forCall (fun _ _=>0) ⟨#[],args,[]⟩).memory :=
 laidMetH_of_parts (laidMet_of_run' 8 (by kernel_rfl) (by kernel_rfl)) (by kernel_rfl)
theorem witness_row (os:Os) {H:Type} (enc:TypeId × Value→H) :
  (OpenSpec.ofChange Rows.fnTellGoneSpec).preRow enc Tryz.prog Tryz.f8 Rows.fnTellGoneRow.domain false Rows.fnTellGoneRow.laid ((laidWorld os).forCall (fun _ _=>0) ⟨#[],#[.slice none 0 0],[]⟩).memory #[.slice none 0 0] :=
 OpenSpec.preRow_of_B rfl 8 (by kernel_rfl) (by kernel_rfl) (laid_met os _)
theorem lifted (os:Os) (started:os.Started) (H:Type) (enc:TypeId × Value→H) (F:Stop.Interp) :
  ReturnsInHanded {} Tryz.checked os 8 .any ((OpenSpec.ofChange Rows.fnTellGoneSpec).preRow enc Tryz.prog Tryz.f8 Rows.fnTellGoneRow.domain false Rows.fnTellGoneRow.laid) (((OpenSpec.ofChange Rows.fnTellGoneSpec).at F).post enc Tryz.prog Tryz.f8 false true false false):=by
 refine returnsInHanded_of_row (C:=Tryz.checked) (s:=OpenSpec.ofChange Rows.fnTellGoneSpec) own started (by kernel_rfl) Tryz.func8
  (witness_row_atRef (enc:=enc) (C:=Tryz.checked) false (laidWorld os) #[.slice none 0 0] rfl (by kernel_rfl) (by kernel_rfl) (by kernel_rfl) (witness_row os enc)) ?_
 intro W base args ds gs before hval hW _ _ _ hL hsh _
 exact contract H enc W base args ds gs before hval hW hL
theorem said:Rows.FnTellGoneSaid :=
 OpenClaim.holds_of_cond 8 Tryz.f8 rfl rfl rfl rfl rfl rfl rfl ⟨rfl,rfl,rfl,rfl,rfl⟩ rfl rfl rfl rfl rfl (by kernel_rfl) Tryz.func8 (by kernel_rfl)
  (of_decide_eq_true (by kernel_rfl)) (by unfold Func.isWrapper;first | (rw [if_pos (by decide +kernel)];kernel_rfl) | (rw [if_neg (by decide +kernel)];exact ⟨rfl,rfl⟩))
  (fun os started H enc _ F=>by rw [OpenClaim.pre_eq_preRow];exact lifted os started H enc F)
theorem plain (f:FuncId) (fn:Func) (hf:Tryz.pinned.checked.prog.funcNamed "loop.example/wayboard/laws.FnTellGone" = some f) (hfn:Tryz.pinned.checked.prog.funcs[f]? = some fn) :
  true=Tryz.pinned.checked.prog.looks []∧∀ (j:Nat) t,fn.params[j]? = some t→Tryz.pinned.checked.prog.wantsStandIn t=false:=by
 obtain rfl:f=8:=Option.some.inj ((show Tryz.prog.funcNamed "loop.example/wayboard/laws.FnTellGone" = some 8 by kernel_rfl).symm.trans hf) |>.symm
 obtain rfl:fn=Tryz.f8:=(Option.some.inj (Tryz.func8.symm.trans hfn)).symm
 refine ⟨by kernel_rfl,fun j t ht=>?_⟩
 rw [Tryz.params8] at ht
 obtain rfl:t=22:=by simpa using Array.mem_of_getElem? ht
 exact (show Tryz.prog.wantsStandIn 22=false by kernel_rfl)
theorem card:Rows.FnTellGoneCardSaid :=
 Claim7.holds_tied_plain_at .later [] _ _ _ _ said (fun _ h=>by cases h) (by kernel_rfl) (fun _ h=>by cases h) fnTellGone_row_tie rfl ⟨rfl,rfl⟩ (by kernel_rfl) rfl plain (by kernel_rfl)
end Go.Proofs.YtpgilgnkiceggaaGreatDoor.cTGo
end
