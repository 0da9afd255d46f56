/- YtkiaifamodjedaaDoorCardNSt: part of the proof that laws hold, for every input that the row speaks of (no condition of ours). -/
import Derived.Test.YtkiaifamodjedaaDoorWd
import Derived.Test.YtkiaifamodjedaaDoorWa
import Derived.Test.YtkiaifamodjedaaDoorEc
import Derived.ChangeVars
import Derived.RowKitTokens
import Derived.Test.YtkiaifamodjedaaDoorCards
import Derived.Test.YtkiaifamodjedaaDoorTie
set_option linter.unusedVariables false
set_option linter.unusedSimpArgs false
section
namespace Go.Proofs.W
open Go Go.Eng Go.RowKit
set_option maxRecDepth 100000
section
variable {R:List (List Int)} {x:Int} {W:List (List Int)} {h:Int}
theorem stp_get (hn:netOk R x W=true) (hh:hI R.length h) {i:Nat} (hi:i < R.length):(stepR R x W h).getD i []=if (i:Int) + 1=h then pickR R x W h else W.getD i []:=by
 have:=stepC_get (n:=R.length) (of:=ofR R) (home:=x) (h:=h) (net_l hn) hi
 rw [stepC,if_pos (hIb_iff.2 hh)] at this
 rw [stepR_eq hn hh,pickR_eq hn hh]
 exact this
theorem stepR_net (hn:netOk R x W=true) (hh:hI R.length h):netOk R x (stepR R x W h)=true:=by rw [stepR_eq hn hh];exact stp_net hn hh
theorem stepR_two (hn:netOk R x W=true) (hh:hI R.length h):stepR R x (stepR R x W h) h=stepR R x W h:=by
 have hn2:=stepR_net hn hh
 have hl:=net_l hn
 rw [stepR_eq hn2 hh]
 have H:=relsOk_H (netOk_iff.1 hn).1
 have e:toS (stepR R x W h)=putS (toS W) h (pickN R.length (ofR R) x (toS W) h):=by
  rw [stepR_eq hn hh]
  exact toS_stp hl hh
 unfold stpL
 rw [e,pick_self H hh,stepR_eq hn hh]
 unfold stpL
 rw [List.set_set]
end
set_option maxHeartbeats 8000000 in
theorem fnNetStep_ok (pb:Addr):Fine Tryd.prog 5 (cLawP pb):=by
 refine fine_of (T:=TT) Tryd.func5 rfl Tryd.ntmps5 (by rw [Tryd.results5]) rfl rfl tt (gs_cons drawNetStep_ok gs_nil) (ds_cons (iNetStep_ok pb) (ds_cons sNetStep_ok (ds_cons (iNetPick_ok pb) (ds_cons (iNetOk_ok pb) (ds_cons lyInts_ok (ds_cons lyWays_ok ds_nil)) (wp_inh pb)) (wp_inh pb))) (wp_inh pb)) ?_
 rintro args ⟨bs,hbs,rfl⟩
 refine ⟨by simp,fun k hk E hE Q hQ=>?_⟩
 refine Aw_st hE [0] [] fun K hK=>?_
 simp only [go_sem,seval]
 refine hK _ ?_;clear hK K
 refine Aw_sq fun B1 hB1 hR1 hX1=>?_
 refine Aw_st hE [0,11] [] fun K hK=>?_
 simp only [go_sem,seval]
 refine hK _ (Aw_cond rfl (fun hc2=>?_) (fun hc2=>?_))
 ·refine Aw_st hE [2] [] fun K hK=>?_
  simp only [go_sem,seval]
  refine hK _ (Aw_ret (hR1 _ (hQ _ ?_)))
  simp only [go_sem,seval]
 refine Aw_skip (hB1 _ ?_)
 refine Aw_st hE [3,4,5,6] [] fun K hK=>?_
 simp only [go_sem,seval]
 refine ⟨dnp_pre bs hbs,fun R x W h hP hh1 hh2=>?_⟩
 have hbR:=okRl_big hP.r
 have hbW:=okW_big hP.w
 have hbX:=okW_bw (stepR_ok (R:=R) (x:=x) (W:=W) (h:=h))
 have hbX2:=okW_big (stepR_ok (R:=R) (x:=x) (W:=W) (h:=h))
 have hpl:=pickR_len (R:=R) (x:=x) (W:=W) (h:=h)
 have hpl2:(pickR R x W h).length≤4294967296:=by omega
 refine hK _ ?_;clear hK K
 refine Aw_st hE [3,4,5,6,7] [] fun K hK=>?_
 simp only [go_sem,seval,hbR,hbW]
 refine hK _ ?_;clear hK K
 refine Aw_sq fun B3 hB3 hR3 hX3=>?_
 cases hn:netOk R x W with
 | false =>
  refine Aw_st hE [3,4,5,6,7,44] [] fun K hK=>?_
  simp only [go_sem,seval,↓stepR_def,hbR,hbW,hbX,hn,decide_true,Bool.not_true,Bool.not_false]
  refine hK _ (Aw_yes rfl ?_)
  refine Aw_st hE [2] [] fun K hK=>?_
  simp only [go_sem,seval,↓stepR_def,hbR,hbW,hbX,decide_true]
  refine hK _ (Aw_ret (hR3 _ (hQ _ ?_)))
  simp only [go_sem,seval]
 | true =>
 by_cases hlt:(R.length:Int) < h
 ·have hd:decide ((R.length:Int) < h)=true:=decide_eq_true hlt
  refine Aw_st hE [3,4,5,6,7,44] [] fun K hK=>?_
  simp only [go_sem,seval,↓stepR_def,hbR,hbW,hbX,hn,hd,decide_true,Bool.not_true,Bool.not_false]
  refine hK _ (Aw_yes rfl ?_)
  refine Aw_st hE [2] [] fun K hK=>?_
  simp only [go_sem,seval,↓stepR_def,hbR,hbW,hbX,decide_true]
  refine hK _ (Aw_ret (hR3 _ (hQ _ ?_)))
  simp only [go_sem,seval]
 have hd:decide ((R.length:Int) < h)=false:=decide_eq_false hlt
 have hh:hI R.length h:=⟨hh1,by omega⟩
 have hn5:=net5 hn
 have hn2:=stepR_net hn hh
 have hlX:=net_l hn2
 have hlW:=net_l hn
 refine Aw_st hE [3,4,5,6,7,44] [] fun K hK=>?_
 simp only [go_sem,seval,↓stepR_def,hbR,hbW,hbX,hn,hd,decide_true,Bool.not_true,Bool.not_false]
 refine hK _ (Aw_no rfl (Aw_skip (hB3 _ ?_)))
 refine Aw_sq fun B8 hB8 hR8 hX8=>?_
 refine Aw_st hE [3,4,5,6,7,8] [] fun K hK=>?_
 simp only [go_sem,seval]
 refine hK _ ?_;clear hK K
 refine Aw_bk fun B9 hN9 hE9 hR9 hX9=>?_
 refine Aw_lp (fun i:Nat=>⟨106,[(3,wsl R),(4,iv x),(5,wsl W),(6,iv h),(7,wsl (stepR R x W h)),(8,iv (i:Int))],[],k⟩) (fun i=>i≤R.length) (fun i=>R.length - i) 0 (Le_wa) (by omega) fun i hi B10 hN10 hR10 hX10=>?_
 refine Aw_sq fun B11 hB11 hR11 hX11=>?_
 refine Aw_st hE [3,4,5,6,7,8,55] [] fun K hK=>?_
 simp only [go_sem,seval]
 refine hK _ (Aw_cond rfl (fun hc12=>?_) (fun hc12=>?_))
 ·simp only [dte] at hc12
  have hil:i < R.length:=by omega
  have hg:=wrows_get (stepR R x W h) i (by omega)
  have hg2:=wrows_get W i (by omega)
  have hsg:=stp_get hn hh hil
  have hwl:(W.getD i []).length≤4294967296:=by have:=hP.w.2 _ (getD_memL W i (by omega));omega
  refine Aw_skip (hB11 _ ?_)
  refine Aw_sq fun B13 hB13 hR13 hX13=>?_
  refine Aw_bk fun B14 hN14 hE14 hR14 hX14=>?_
  by_cases e:(i:Int) + 1=h
  ·rw [if_pos e] at hsg
   have d1:decide ((i:Int) + 1=h)=true:=decide_eq_true e
   rw [hsg] at hg
   refine Aw_sd hE [3,4,5,6,7,8,92] [] 6 (by kernel_rfl) fun K hK=>?_
   simp only [go_sem,seval,↓pickR_def,d1,hg,hbR,hbW,hpl2,decide_true,Bool.not_true]
   repeat refine sd0 ?_
   refine hK _ (Aw_no rfl ?_)
   refine Aw_skip (hN14 _ (hB13 _ ?_))
   refine Aw_tx hE [3,4,5,6,7,8] [] fun K hK=>?_
   simp only [go_sem,seval]
   repeat refine sd0 ?_
   refine hK _ (hN10 (i + 1) _ (by omega) (by omega) (Le_wb (by simp only [go_sem,seval,Int.natCast_add,Int.natCast_one])))
  ·rw [if_neg e] at hsg
   have d1:decide ((i:Int) + 1=h)=false:=decide_eq_false e
   rw [hsg] at hg
   refine Aw_sd hE [3,4,5,6,7,8,92] [] 6 (by kernel_rfl) fun K hK=>?_
   simp only [go_sem,seval,↓pickR_def,d1,hg,hg2,hbR,hbW,hwl,decide_true,Bool.not_true,Bool.not_false]
   repeat refine sd0 ?_
   refine hK _ (Aw_no rfl ?_)
   refine Aw_skip (hN14 _ (hB13 _ ?_))
   refine Aw_tx hE [3,4,5,6,7,8] [] fun K hK=>?_
   simp only [go_sem,seval]
   repeat refine sd0 ?_
   refine hK _ (hN10 (i + 1) _ (by omega) (by omega) (Le_wb (by simp only [go_sem,seval,Int.natCast_add,Int.natCast_one])))
 ·have htw:=stepR_two hn hh
  refine Aw_exit (hX11 _ _ (hX10 _ _ (hE9 _ (hB8 _ ?_))))
  refine Aw_st hE [2] [] fun K hK=>?_
  simp only [go_sem,seval,↓stepR_def,hbR,hbX2,hbX,hn2,htw,decide_true]
  repeat (refine And.intro (by first | omega | assumption | (and_intros<;>first | omega | assumption | decide) | fail) ?_)
  refine hK _ (Aw_ret (hQ _ ?_))
  simp only [go_sem,seval]
end Go.Proofs.W
end
section
namespace Go.Proofs.YtkiaifamodjedaaDoor.cNSt
open Go Go.Eng Go.RowKit Go.WideShapes Go.ChangeShapes Go.ChangeAt Go.Proofs.W
set_option maxRecDepth 100000
theorem own:ownKnob Tryd.prog.godebug=none:=by kernel_rfl
theorem star : "*"++ "errors.errorString" = "*errors.errorString" := by decide
theorem rowE (u:TypeId) (h:Tryd.prog.typeName? 3 u=some "*errors.errorString"):u=111 :=
 typeName_ptr_named (nm := "errors.errorString") (by rw [star];kernel_rfl) (by kernel_rfl) (by decide) u (by rw [star];exact h)
theorem gE:Tryd.prog.globalNamed "loop.example/wayboard/impl.errPath" = some 0:=by kernel_rfl
theorem gEType:(Tryd.prog.globals[0]?).map (·.type)=some 71:=by kernel_rfl
theorem w_of {W:World} (h:laidMet Tryd.prog Rows.fnNetStepRow.laid W):∃ pb,WP pb W∧W.var? Tryd.prog "loop.example/wayboard/impl.errPath" = some #[errV pb]:=by
 have h0:=h
 have h1:=laidMet.tail h0
 have h2:=laidMet.tail h1
 have h3:=laidMet.tail h2
 obtain ⟨a0,s0,hv0,hc0,hs0,hz0⟩:=laid_sentinel h3 gE gEType Tryd.underlying71 rowE Tryd.underlying111 Tryd.underlying113 rfl rfl Tryd.underlying9 (by kernel_rfl) (by kernel_rfl)
 refine ⟨a0,⟨⟨?_⟩,?_⟩,hv0⟩
 ·exact Lib.tabIs_of_head (g:=1) (by kernel_rfl) (by kernel_rfl) Tryd.underlying132 Tryd.underlying126 (by kernel_rfl) (by kernel_rfl) h2
 ·simpa using World.var?_cell gE hv0 0
theorem contract (H:Type) (enc:TypeId × Value→H) (W:World) (base:Nat) (args:Array Value) (ds gs:List (DataW H)) (before:List MemPlace)
  (hval:∀ (j:Nat) t v,Tryd.f5.params[j]? = some t→args[j]? = some v→Value.okWide Tryd.prog W .any base t v)
  (hW:DataW.Whole enc Tryd.prog Tryd.f5.params.toList Rows.fnNetStepSpec.vars false W args.toList ds gs before) (hL:laidMetH Tryd.prog Rows.fnNetStepRow.laid W) :
  Calls Tryd.prog 5 args W fun e W'=>∃ v,e = .returned v∧Rows.fnNetStepSpec.post enc Tryd.prog Tryd.f5 false true false false W args v W':=by
 have hW':=hW
 obtain ⟨p,q,hA0,hV0,rfl,hfz,hnd⟩:=hW
 have hA:DataW.TrodAll enc Tryd.prog W 0 (fun _=>true) true Tryd.f5.params.toList args.toList ds p:=hA0
 have hV:DataW.TrodVars enc Tryd.prog W (fun _=>true) ["loop.example/wayboard/impl.errPath"] gs q:=hV0
 rw [Tryd.params5] at hA hval
 obtain ⟨v0,vs0,d0,ds0,p0,q0,hargs,rfl,rfl,hd0,r0⟩:=trodAll_cons hA
 obtain ⟨rfl,rfl,rfl⟩:=trodAll_nil r0
 obtain rfl:args = #[v0]:=by cases args;simp_all
 obtain ⟨pb,hwp,hv0⟩:=w_of hL
 obtain ⟨rfl,rfl⟩:=hV.unique (vars_read1 enc gE gEType Tryd.underlying71 hv0 trivial _)
 obtain ⟨hin0,hback0⟩:=open_arg (hval 0 22 v0 rfl rfl) hd0
 clear hA0 hV0
 simp only [List.append_nil] at hW'
 refine (law_callsP (fnNetStep_ok pb) W hwp v0 hin0).mono fun e W' ⟨he,hb⟩=>?_
 subst he
 have hv1:W'.var? Tryd.prog "loop.example/wayboard/impl.errPath" = some #[errV pb]:=var_below' hv0 gE hb
 exact ⟨_,rfl,post_below (pa:=p0++[]) (pv:=[.cell 0 0]) hW' (fun _ _ _=>trodAll_cons_mk (shut_bool Tryd.underlying4 _) trodAll_mk0) (fun sp hsp=>trodAll_cons_mk (hback0 W' hb sp (fun x hx=>hsp x (by simp only [List.mem_append];simp [hx]))) trodAll_mk0) (fun sp _=>vars_read1 enc gE gEType Tryd.underlying71 hv1 trivial sp) (by simp)
  hb (ok_one (by kernel_rfl) rfl (okWide_bool_mk Tryd.underlying4 _))⟩
noncomputable def laidWorld (os : Os) : World :=
  let N := (World.settled Tryd.prog os).heap.size
  let w0 := World.holding Tryd.prog os ⟨#[.cells #[.string ⟨#[110, 111, 116, 32, 97, 32, 112, 97, 116, 104]⟩] 113], #[], []⟩
  let put (h : Array Obj) (g : Nat) (cs : Array Value) : Array Obj := h.modify g fun
    | .cells _ t frozen => .cells cs t frozen
    | o => o
  let cellsOf : DataW Unit → Array Value := fun d => match d with
    | .agg ds => (ds.map fun x => match x with | .lit (.int k n) => Value.int k n | _ => .bool false).toArray
    | _ => #[]
  let h0 := put w0.heap 2 (cellsOf Rows.laid_math_bits_deBruijn32tab)
  let h1 := put h0 3 (cellsOf Rows.laid_math_bits_deBruijn64tab)
  let h2 := put h1 1 (cellsOf Rows.laid_internal_strconv_uint64pow10)
  let h3 := put h2 0 #[.iface 111 (.pointer (some ⟨N + 0, 0, none⟩))]
  { w0 with heap := h3 }

theorem laid_met (os:Os) (args:Array Value):laidMet Tryd.prog Rows.fnNetStepRow.laid ((laidWorld os).forCall (fun _ _=>0) ⟨#[],args,[]⟩).memory :=
 laidMet_of_run' 8 (by kernel_rfl) (by kernel_rfl)
theorem witness_row (os:Os) {H:Type} (enc:TypeId × Value→H) :
  (OpenSpec.ofChange Rows.fnNetStepSpec).preRow enc Tryd.prog Tryd.f5 Rows.fnNetStepRow.domain false Rows.fnNetStepRow.laid ((laidWorld os).forCall (fun _ _=>0) ⟨#[],#[.slice none 0 0],[]⟩).memory #[.slice none 0 0] :=
 OpenSpec.preRow_of_B rfl 8 (by kernel_rfl) (by kernel_rfl) (laid_met os _)
theorem lifted (os:Os) (started:os.Started) (H:Type) (enc:TypeId × Value→H) (F:Stop.Interp) :
  ReturnsInHanded {} Tryd.checked os 5 .any ((OpenSpec.ofChange Rows.fnNetStepSpec).preRow enc Tryd.prog Tryd.f5 Rows.fnNetStepRow.domain false Rows.fnNetStepRow.laid) (((OpenSpec.ofChange Rows.fnNetStepSpec).at F).post enc Tryd.prog Tryd.f5 false true false false):=by
 refine returnsInHanded_of_row (C:=Tryd.checked) (s:=OpenSpec.ofChange Rows.fnNetStepSpec) own started (by kernel_rfl) Tryd.func5
  (witness_row_atRef (enc:=enc) (C:=Tryd.checked) false (laidWorld os) #[.slice none 0 0] rfl (by kernel_rfl) (by kernel_rfl) (by kernel_rfl) (witness_row os enc)) ?_
 intro W base args ds gs before hval hW _ _ _ hL hsh _
 exact contract H enc W base args ds gs before hval hW hL
theorem said:Rows.FnNetStepSaid :=
 OpenClaim.holds_of_cond 5 Tryd.f5 rfl rfl rfl rfl rfl rfl rfl ⟨rfl,rfl,rfl,rfl,rfl⟩ rfl rfl rfl rfl rfl (by kernel_rfl) Tryd.func5 (by kernel_rfl)
  (of_decide_eq_true (by kernel_rfl)) (by unfold Func.isWrapper;first | (rw [if_pos (by decide +kernel)];kernel_rfl) | (rw [if_neg (by decide +kernel)];exact ⟨rfl,rfl⟩))
  (fun os started H enc _ F=>by rw [OpenClaim.pre_eq_preRow];exact lifted os started H enc F)
theorem plain (f:FuncId) (fn:Func) (hf:Tryd.pinned.checked.prog.funcNamed "loop.example/wayboard/laws.FnNetStep" = some f) (hfn:Tryd.pinned.checked.prog.funcs[f]? = some fn) :
  true=Tryd.pinned.checked.prog.looks []∧∀ (j:Nat) t,fn.params[j]? = some t→Tryd.pinned.checked.prog.wantsStandIn t=false:=by
 obtain rfl:f=5:=Option.some.inj ((show Tryd.prog.funcNamed "loop.example/wayboard/laws.FnNetStep" = some 5 by kernel_rfl).symm.trans hf) |>.symm
 obtain rfl:fn=Tryd.f5:=(Option.some.inj (Tryd.func5.symm.trans hfn)).symm
 refine ⟨by kernel_rfl,fun j t ht=>?_⟩
 rw [Tryd.params5] at ht
 obtain rfl:t=22:=by simpa using Array.mem_of_getElem? ht
 exact (show Tryd.prog.wantsStandIn 22=false by kernel_rfl)
theorem card:Rows.FnNetStepCardSaid :=
 Claim7.holds_tied_plain_at .later [] _ _ _ _ said (fun _ h=>by cases h) (by kernel_rfl) (fun _ h=>by cases h) fnNetStep_row_tie rfl ⟨rfl,rfl⟩ (by kernel_rfl) rfl plain (by kernel_rfl)
end Go.Proofs.YtkiaifamodjedaaDoor.cNSt
end
