/- YtgfclgpljhiicaaDoorCardNES: part of the proof that laws hold, for every input that the row speaks of (no condition of ours). -/
import Derived.Test.YtgfclgpljhiicaaDoorWc
import Derived.Test.YtgfclgpljhiicaaDoorWd
import Derived.Test.YtgfclgpljhiicaaDoorWa
import Derived.ChangeVars
import Derived.RowKitTokens
import Derived.Test.YtgfclgpljhiicaaDoorCards
import Derived.Test.YtgfclgpljhiicaaDoorTie
set_option linter.unusedVariables false
set_option linter.unusedSimpArgs false
section
namespace Go.Proofs.W
open Go Go.Eng Go.RowKit
set_option linter.unusedSimpArgs false
set_option maxRecDepth 100000
/-! where nets come to -/
def endR (R:List (List Int)) (x:Int):List (List Int):=if relsOk R && hIb R.length x then endL R.length (ofR R) x else []
theorem endR_big {R:List (List Int)} {x:Int}:bigM (endR R x)∧(endR R x).length≤5:=by
 unfold endR
 split
 ·rename_i h
  rw [Bool.and_eq_true] at h
  have hn5:=(relsOk_iff.1 h.1).1.2
  have hx:=hIb_iff.1 h.2
  have hl:=(endL_S (of:=ofR R) hx).2
  have hv:=end_net (of:=ofR R) hn5 hx
  refine ⟨⟨by omega,fun w hw=>?_⟩,by omega⟩
  obtain ⟨i,hi,rfl⟩:=List.getElem_of_mem hw
  have:=hv.2 ((i:Int) + 1) ⟨by omega,by omega⟩
  rw [toS_succ,List.getD_eq_getElem?_getD,List.getElem?_eq_getElem hi,Option.getD_some] at this
  by_cases e:(endL R.length (ofR R) x)[i]=[]
  ·rw [e];simp
  ·have:=pathOk_len ((wayOk_iff e).1 this).2.2.1;omega
 ·exact ⟨⟨by simp,fun w hw=>by cases hw⟩,by simp⟩
theorem endR_bw {R:List (List Int)} {x:Int}:bigW (endR R x):=by
 obtain ⟨⟨h1,h2⟩,h3⟩:=endR_big (R:=R) (x:=x)
 exact ⟨by omega,fun w hw=>by have:=h2 w hw;omega⟩
/-- what is free of rings -/
structure FreeR (R:List (List Int)) (x:Int):Prop where
 ok:relsOk R=true
 home:hI R.length x
 n5:R.length≤5
 H:RelH R.length (ofR R)
 rk:∃ rk,Rk R.length (ofR R) rk
 eq:endR R x=endL R.length (ofR R) x
 len:(endR R x).length=R.length
theorem freeR {R:List (List Int)} {x:Int} (h:(endR R x).length≠0):relsOk R=true∧hI R.length x∧endR R x=endL R.length (ofR R) x:=by
 unfold endR at h ⊢
 cases hb:(relsOk R && hIb R.length x) with
 | false=>rw [hb] at h;exact absurd rfl h
 | true =>
  rw [Bool.and_eq_true] at hb
  exact ⟨hb.1,hIb_iff.1 hb.2,rfl⟩
theorem freeR_of {R:List (List Int)} {x:Int} (h:(endR R x).length≠0) (hf:(ordR R).isSome=true):FreeR R x:=by
 obtain ⟨h1,h2,h3⟩:=freeR h
 unfold ordR at hf
 rw [if_pos h1] at hf
 obtain ⟨l,hl⟩:=Option.isSome_iff_exists.1 hf
 exact ⟨h1,h2,(relsOk_iff.1 h1).1.2,relsOk_H h1,⟨_,ord_rk hl⟩,h3,by rw [h3];exact (endL_S h2).2⟩
theorem endStill_plain {R:List (List Int)} {x:Int} (F:FreeR R x):netOk R x (endR R x)=true∧stillB R.length (ofR R) x (endR R x)=true:=by
 obtain ⟨rk,K⟩:=F.rk
 rw [F.eq]
 exact ⟨netOk_iff.2 ⟨F.ok,(endL_S F.home).2,end_net F.n5 F.home⟩,stillB_iff.2 (end_still F.H K F.home)⟩
theorem endR_def (R:List (List Int)) (x:Int):(if (relsOk R && hIb R.length x)=true then endL R.length (ofR R) x else [])=endR R x:=rfl
attribute [go_sem] endR_def
set_option maxHeartbeats 4000000 in
theorem fnEndStill_ok (pb:Addr):Fine Tryd.prog 3 (cLawP pb):=by
 refine fine_of (T:=TT) Tryd.func3 rfl Tryd.ntmps3 (by rw [Tryd.results3]) rfl rfl tt (gs_cons drawNetEnd_ok gs_nil) (ds_cons (iNetEnd_ok pb) (ds_cons (iNetStill_ok pb) (ds_cons (iNetOk_ok pb) (ds_cons sNetEnd_ok (ds_cons lyWays_ok (ds_cons relsFree_ok ds_nil))) (wp_inh pb)) (wp_inh pb)) (wp_inh pb)) ?_
 rintro args ⟨bs,hbs,rfl⟩
 refine ⟨by simp,fun k hk E hE Q hQ=>?_⟩
 refine Aw_st hE [0] [] fun K hK=>?_
 simp only [go_sem,seval]
 refine hK _ ?_;clear hK K
 refine Aw_sq fun B1 hB1 hR1 hX1=>?_
 refine Aw_st hE [0,8] [] fun K hK=>?_
 simp only [go_sem,seval]
 refine hK _ (Aw_cond rfl (fun hc2=>?_) (fun hc2=>?_))
 ·refine Aw_st hE [2] [] fun K hK=>?_
  simp only [go_sem,seval]
  refine hK _ (Aw_ret (hR1 _ (hQ _ ?_)))
  simp only [go_sem,seval]
 refine Aw_skip (hB1 _ ?_)
 refine Aw_st hE [3,4] [] fun K hK=>?_
 simp only [go_sem,seval]
 refine ⟨dne_pre bs hbs,fun R x hR hx1 hx2=>?_⟩
 have hbR:=okRl_big hR
 have hbE:=endR_bw (R:=R) (x:=x)
 have hbF:=(endR_big (R:=R) (x:=x)).1
 refine hK _ ?_;clear hK K
 refine Aw_st hE [3,4,5] [] fun K hK=>?_
 simp only [go_sem,seval,hbR]
 repeat refine ⟨by first|omega|(and_intros<;>first|omega|exact rows_row _|exact wrows_row _|decide|(simp<;>omega))|fail,?_⟩
 refine hK _ ?_;clear hK K
 refine Aw_sq fun B3 hB3 hR3 hX3=>?_
 by_cases hn:(endR R x).length=0
 ·have hz:decide (((endR R x).length:Int)=0)=true:=decide_eq_true (by omega)
  refine Aw_st hE [3,4,5,32] [] fun K hK=>?_
  simp only [go_sem,seval,hbR,hbE,hz,decide_true,Bool.not_true,Bool.not_false]
  refine hK _ (Aw_yes rfl ?_)
  refine Aw_st hE [2] [] fun K hK=>?_
  simp only [go_sem,seval,hbR,hbE,decide_true]
  repeat (refine And.intro (by first | omega | assumption | (and_intros<;>first | omega | assumption | decide) | fail) ?_)
  refine hK _ (Aw_ret (hR3 _ (hQ _ ?_)))
  simp only [go_sem,seval]
 have hz:decide (((endR R x).length:Int)=0)=false:=decide_eq_false (by omega)
 cases hf:(ordR R).isSome with
 | false =>
  refine Aw_st hE [3,4,5,32] [] fun K hK=>?_
  simp only [go_sem,seval,hbR,hbE,hz,hf,decide_true,Bool.not_true,Bool.not_false]
  refine hK _ (Aw_yes rfl ?_)
  refine Aw_st hE [2] [] fun K hK=>?_
  simp only [go_sem,seval,hbR,hbE,decide_true]
  repeat (refine And.intro (by first | omega | assumption | (and_intros<;>first | omega | assumption | decide) | fail) ?_)
  refine hK _ (Aw_ret (hR3 _ (hQ _ ?_)))
  simp only [go_sem,seval]
 | true =>
  have F:=freeR_of hn hf
  obtain ⟨e1,e2⟩:=endStill_plain F
  refine Aw_st hE [3,4,5,32] [] fun K hK=>?_
  simp only [go_sem,seval,hbR,hbE,hz,hf,decide_true,Bool.not_true,Bool.not_false]
  refine hK _ (Aw_no rfl (Aw_skip (hB3 _ ?_)))
  refine Aw_st hE [2] [] fun K hK=>?_
  simp only [go_sem,seval,hbR,hbF,e1,e2,Bool.and_self]
  repeat (refine And.intro (by first | omega | assumption | (and_intros<;>first | omega | assumption | decide) | fail) ?_)
  refine hK _ (Aw_ret (hQ _ ?_))
  simp only [go_sem,seval]
end Go.Proofs.W
end
section
namespace Go.Proofs.YtgfclgpljhiicaaDoor.cNES
open Go Go.Eng Go.RowKit Go.WideShapes Go.ChangeShapes Go.ChangeAt Go.Proofs.W
set_option maxRecDepth 100000
theorem own:ownKnob Tryd.prog.godebug=none:=by kernel_rfl
theorem star : "*"++ "errors.errorString" = "*errors.errorString" := by decide
theorem rowE (u:TypeId) (h:Tryd.prog.typeName? 3 u=some "*errors.errorString"):u=111 :=
 typeName_ptr_named (nm := "errors.errorString") (by rw [star];kernel_rfl) (by kernel_rfl) (by decide) u (by rw [star];exact h)
theorem gE:Tryd.prog.globalNamed "loop.example/wayboard/impl.errPath" = some 0:=by kernel_rfl
theorem gEType:(Tryd.prog.globals[0]?).map (·.type)=some 95:=by kernel_rfl
theorem w_of {W:World} (h:laidMet Tryd.prog Rows.fnEndStillRow.laid W):∃ pb,WP pb W∧W.var? Tryd.prog "loop.example/wayboard/impl.errPath" = some #[errV pb]:=by
 have h0:=h
 have h1:=laidMet.tail h0
 have h2:=laidMet.tail h1
 have h3:=laidMet.tail h2
 obtain ⟨a0,s0,hv0,hc0,hs0,hz0⟩:=laid_sentinel h3 gE gEType Tryd.underlying95 rowE Tryd.underlying111 Tryd.underlying113 rfl rfl Tryd.underlying9 (by kernel_rfl) (by kernel_rfl)
 refine ⟨a0,⟨⟨?_⟩,?_⟩,hv0⟩
 ·exact Lib.tabIs_of_head (g:=1) (by kernel_rfl) (by kernel_rfl) Tryd.underlying132 Tryd.underlying126 (by kernel_rfl) (by kernel_rfl) h2
 ·simpa using World.var?_cell gE hv0 0
theorem contract (H:Type) (enc:TypeId × Value→H) (W:World) (base:Nat) (args:Array Value) (ds gs:List (DataW H)) (before:List MemPlace)
  (hval:∀ (j:Nat) t v,Tryd.f3.params[j]? = some t→args[j]? = some v→Value.okWide Tryd.prog W .any base t v)
  (hW:DataW.Whole enc Tryd.prog Tryd.f3.params.toList Rows.fnEndStillSpec.vars false W args.toList ds gs before) (hL:laidMetH Tryd.prog Rows.fnEndStillRow.laid W) :
  Calls Tryd.prog 3 args W fun e W'=>∃ v,e = .returned v∧Rows.fnEndStillSpec.post enc Tryd.prog Tryd.f3 false true false false W args v W':=by
 have hW':=hW
 obtain ⟨p,q,hA0,hV0,rfl,hfz,hnd⟩:=hW
 have hA:DataW.TrodAll enc Tryd.prog W 0 (fun _=>true) true Tryd.f3.params.toList args.toList ds p:=hA0
 have hV:DataW.TrodVars enc Tryd.prog W (fun _=>true) ["loop.example/wayboard/impl.errPath"] gs q:=hV0
 rw [Tryd.params3] at hA hval
 obtain ⟨v0,vs0,d0,ds0,p0,q0,hargs,rfl,rfl,hd0,r0⟩:=trodAll_cons hA
 obtain ⟨rfl,rfl,rfl⟩:=trodAll_nil r0
 obtain rfl:args = #[v0]:=by cases args;simp_all
 obtain ⟨pb,hwp,hv0⟩:=w_of hL
 obtain ⟨rfl,rfl⟩:=hV.unique (vars_read1 enc gE gEType Tryd.underlying95 hv0 trivial _)
 obtain ⟨hin0,hback0⟩:=open_arg (hval 0 22 v0 rfl rfl) hd0
 clear hA0 hV0
 simp only [List.append_nil] at hW'
 refine (law_callsP (fnEndStill_ok pb) W hwp v0 hin0).mono fun e W' ⟨he,hb⟩=>?_
 subst he
 have hv1:W'.var? Tryd.prog "loop.example/wayboard/impl.errPath" = some #[errV pb]:=var_below' hv0 gE hb
 exact ⟨_,rfl,post_below (pa:=p0++[]) (pv:=[.cell 0 0]) hW' (fun _ _ _=>trodAll_cons_mk (shut_bool Tryd.underlying4 _) trodAll_mk0) (fun sp hsp=>trodAll_cons_mk (hback0 W' hb sp (fun x hx=>hsp x (by simp only [List.mem_append];simp [hx]))) trodAll_mk0) (fun sp _=>vars_read1 enc gE gEType Tryd.underlying95 hv1 trivial sp) (by simp)
  hb (ok_one (by kernel_rfl) rfl (okWide_bool_mk Tryd.underlying4 _))⟩
noncomputable def laidWorld (os : Os) : World :=
  let N := (World.settled Tryd.prog os).heap.size
  let w0 := World.holding Tryd.prog os ⟨#[.cells #[.string ⟨#[110, 111, 116, 32, 97, 32, 112, 97, 116, 104]⟩] 113], #[], []⟩
  let put (h : Array Obj) (g : Nat) (cs : Array Value) : Array Obj := h.modify g fun
    | .cells _ t frozen => .cells cs t frozen
    | o => o
  let cellsOf : DataW Unit → Array Value := fun d => match d with
    | .agg ds => (ds.map fun x => match x with | .lit (.int k n) => Value.int k n | _ => .bool false).toArray
    | _ => #[]
  let h0 := put w0.heap 2 (cellsOf Rows.laid_math_bits_deBruijn32tab)
  let h1 := put h0 3 (cellsOf Rows.laid_math_bits_deBruijn64tab)
  let h2 := put h1 1 (cellsOf Rows.laid_internal_strconv_uint64pow10)
  let h3 := put h2 0 #[.iface 111 (.pointer (some ⟨N + 0, 0, none⟩))]
  { w0 with heap := h3 }

theorem laid_met (os:Os) (args:Array Value):laidMet Tryd.prog Rows.fnEndStillRow.laid ((laidWorld os).forCall (fun _ _=>0) ⟨#[],args,[]⟩).memory :=
 laidMet_of_run' 8 (by kernel_rfl) (by kernel_rfl)
theorem witness_row (os:Os) {H:Type} (enc:TypeId × Value→H) :
  (OpenSpec.ofChange Rows.fnEndStillSpec).preRow enc Tryd.prog Tryd.f3 Rows.fnEndStillRow.domain false Rows.fnEndStillRow.laid ((laidWorld os).forCall (fun _ _=>0) ⟨#[],#[.slice none 0 0],[]⟩).memory #[.slice none 0 0] :=
 OpenSpec.preRow_of_B rfl 8 (by kernel_rfl) (by kernel_rfl) (laid_met os _)
theorem lifted (os:Os) (started:os.Started) (H:Type) (enc:TypeId × Value→H) (F:Stop.Interp) :
  ReturnsInHanded {} Tryd.checked os 3 .any ((OpenSpec.ofChange Rows.fnEndStillSpec).preRow enc Tryd.prog Tryd.f3 Rows.fnEndStillRow.domain false Rows.fnEndStillRow.laid) (((OpenSpec.ofChange Rows.fnEndStillSpec).at F).post enc Tryd.prog Tryd.f3 false true false false):=by
 refine returnsInHanded_of_row (C:=Tryd.checked) (s:=OpenSpec.ofChange Rows.fnEndStillSpec) own started (by kernel_rfl) Tryd.func3
  (witness_row_atRef (enc:=enc) (C:=Tryd.checked) false (laidWorld os) #[.slice none 0 0] rfl (by kernel_rfl) (by kernel_rfl) (by kernel_rfl) (witness_row os enc)) ?_
 intro W base args ds gs before hval hW _ _ _ hL hsh _
 exact contract H enc W base args ds gs before hval hW hL
theorem said:Rows.FnEndStillSaid :=
 OpenClaim.holds_of_cond 3 Tryd.f3 rfl rfl rfl rfl rfl rfl rfl ⟨rfl,rfl,rfl,rfl,rfl⟩ rfl rfl rfl rfl rfl (by kernel_rfl) Tryd.func3 (by kernel_rfl)
  (of_decide_eq_true (by kernel_rfl)) (by unfold Func.isWrapper;first | (rw [if_pos (by decide +kernel)];kernel_rfl) | (rw [if_neg (by decide +kernel)];exact ⟨rfl,rfl⟩))
  (fun os started H enc _ F=>by rw [OpenClaim.pre_eq_preRow];exact lifted os started H enc F)
theorem plain (f:FuncId) (fn:Func) (hf:Tryd.pinned.checked.prog.funcNamed "loop.example/wayboard/laws.FnEndStill" = some f) (hfn:Tryd.pinned.checked.prog.funcs[f]? = some fn) :
  true=Tryd.pinned.checked.prog.looks []∧∀ (j:Nat) t,fn.params[j]? = some t→Tryd.pinned.checked.prog.wantsStandIn t=false:=by
 obtain rfl:f=3:=Option.some.inj ((show Tryd.prog.funcNamed "loop.example/wayboard/laws.FnEndStill" = some 3 by kernel_rfl).symm.trans hf) |>.symm
 obtain rfl:fn=Tryd.f3:=(Option.some.inj (Tryd.func3.symm.trans hfn)).symm
 refine ⟨by kernel_rfl,fun j t ht=>?_⟩
 rw [Tryd.params3] at ht
 obtain rfl:t=22:=by simpa using Array.mem_of_getElem? ht
 exact (show Tryd.prog.wantsStandIn 22=false by kernel_rfl)
theorem card:Rows.FnEndStillCardSaid :=
 Claim7.holds_tied_plain_at .later [] _ _ _ _ said (fun _ h=>by cases h) (by kernel_rfl) (fun _ h=>by cases h) fnEndStill_row_tie rfl ⟨rfl,rfl⟩ (by kernel_rfl) rfl plain (by kernel_rfl)
end Go.Proofs.YtgfclgpljhiicaaDoor.cNES
end
