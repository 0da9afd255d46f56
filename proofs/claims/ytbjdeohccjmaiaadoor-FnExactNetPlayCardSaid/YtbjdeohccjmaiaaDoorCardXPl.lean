/- YtbjdeohccjmaiaaDoorCardXPl: part of the proof that laws hold, for every input that the row speaks of (no condition of ours). -/
import Derived.Test.YtbjdeohccjmaiaaDoorWc
import Derived.ChangeVars
import Derived.RowKitTokens
import Derived.Test.YtbjdeohccjmaiaaDoorCards
import Derived.Test.YtbjdeohccjmaiaaDoorTie
set_option linter.unusedVariables false
set_option linter.unusedSimpArgs false
section
namespace Go.Proofs.YtbjdeohccjmaiaaDoor.cXPl
open Go Go.Eng Go.RowKit Go.WideShapes Go.ChangeShapes Go.ChangeAt Go.Proofs.W
set_option maxRecDepth 100000
theorem own:ownKnob Tryd.prog.godebug=none:=by kernel_rfl
theorem star : "*"++ "errors.errorString" = "*errors.errorString" := by decide
theorem rowE (u:TypeId) (h:Tryd.prog.typeName? 3 u=some "*errors.errorString"):u=94 :=
 typeName_ptr_named (nm := "errors.errorString") (by rw [star];kernel_rfl) (by kernel_rfl) (by decide) u (by rw [star];exact h)
theorem gE:Tryd.prog.globalNamed "loop.example/wayboard/impl.errPath" = some 0:=by kernel_rfl
theorem gEType:(Tryd.prog.globals[0]?).map (·.type)=some 78:=by kernel_rfl
theorem w_of {W:World} (h:laidMet Tryd.prog Rows.fnExactNetPlayRow.laid W):∃ pb,WP pb W∧W.var? Tryd.prog "loop.example/wayboard/impl.errPath" = some #[errV pb]:=by
 have h0:=h
 have h1:=laidMet.tail h0
 have h2:=laidMet.tail h1
 have h3:=laidMet.tail h2
 obtain ⟨a0,s0,hv0,hc0,hs0,hz0⟩:=laid_sentinel h3 gE gEType Tryd.underlying78 rowE Tryd.underlying94 Tryd.underlying96 rfl rfl Tryd.underlying9 (by kernel_rfl) (by kernel_rfl)
 refine ⟨a0,⟨⟨?_⟩,?_⟩,hv0⟩
 ·exact Lib.tabIs_of_head (g:=1) (by kernel_rfl) (by kernel_rfl) Tryd.underlying116 Tryd.underlying109 (by kernel_rfl) (by kernel_rfl) h2
 ·simpa using World.var?_cell gE hv0 0
theorem contract (H:Type) (enc:TypeId × Value→H) (W:World) (base:Nat) (args:Array Value) (ds gs:List (DataW H)) (before:List MemPlace)
  (hval:∀ (j:Nat) t v,Tryd.f6.params[j]? = some t→args[j]? = some v→Value.okWide Tryd.prog W .any base t v)
  (hW:DataW.Whole enc Tryd.prog Tryd.f6.params.toList Rows.fnExactNetPlaySpec.vars false W args.toList ds gs before) (hL:laidMetH Tryd.prog Rows.fnExactNetPlayRow.laid W) :
  Calls Tryd.prog 6 args W fun e W'=>∃ v,e = .returned v∧Rows.fnExactNetPlaySpec.post enc Tryd.prog Tryd.f6 false true false false W args v W':=by
 have hW':=hW
 obtain ⟨p,q,hA0,hV0,rfl,hfz,hnd⟩:=hW
 have hA:DataW.TrodAll enc Tryd.prog W 0 (fun _=>true) true Tryd.f6.params.toList args.toList ds p:=hA0
 have hV:DataW.TrodVars enc Tryd.prog W (fun _=>true) ["loop.example/wayboard/impl.errPath"] gs q:=hV0
 rw [Tryd.params6] at hA hval
 obtain ⟨v0,vs0,d0,ds0,p0,q0,hargs,rfl,rfl,hd0,r0⟩:=trodAll_cons hA
 obtain ⟨v1,vs1,d1,ds1,p1,q1,rfl,rfl,rfl,hd1,r1⟩:=trodAll_cons r0
 obtain ⟨v2,vs2,d2,ds2,p2,q2,rfl,rfl,rfl,hd2,r2⟩:=trodAll_cons r1
 obtain ⟨v3,vs3,d3,ds3,p3,q3,rfl,rfl,rfl,hd3,r3⟩:=trodAll_cons r2
 obtain ⟨rfl,rfl,rfl⟩:=trodAll_nil r3
 obtain rfl:args = #[v0,v1,v2,v3]:=by cases args;simp_all
 obtain ⟨pb,hwp,hv0⟩:=w_of hL
 obtain ⟨rfl,rfl⟩:=hV.unique (vars_read1 enc gE gEType Tryd.underlying78 hv0 trivial _)
 obtain ⟨R0,hl0,hr0⟩:=open_ways (hval 0 22 v0 rfl rfl) hd0
 obtain ⟨n1,hn1⟩:∃ n,v1 = .int .i64 n:=by
  obtain ⟨fuel,hf⟩:=hd1
  obtain ⟨n,hcs,_⟩:=DataW.trod_int Tryd.underlying3 hf
  have hx:=hval 1 3 v1 rfl rfl
  simp only [Value.okWide,Tryd.underlying3,Cell.okWide,Cell.ok] at hx
  cases v1<;>simp_all
 subst hn1
 obtain ⟨R2,hl2,hr2⟩:=open_ways (hval 2 22 v2 rfl rfl) hd2
 obtain ⟨R3,hl3,hr3⟩:=open_intsX (hval 3 24 v3 rfl rfl) hd3
 have hlt:=hW'.lt
 have hback0:=back_ways (t:=22) (by kernel_rfl) (of_decide_eq_true (by kernel_rfl)) hd0 (fun x hx=>hlt x (by simp [hx]))
 have hback1:=back_ways (t:=3) (by kernel_rfl) (of_decide_eq_true (by kernel_rfl)) hd1 (fun x hx=>hlt x (by simp [hx]))
 have hback2:=back_ways (t:=22) (by kernel_rfl) (of_decide_eq_true (by kernel_rfl)) hd2 (fun x hx=>hlt x (by simp [hx]))
 have hback3:=back_ways (t:=24) (by kernel_rfl) (of_decide_eq_true (by kernel_rfl)) hd3 (fun x hx=>hlt x (by simp [hx]))
 clear hA0 hV0
 simp only [List.append_nil] at hW'
 refine (plLaw hwp hr0 hr2 hr3 hl0 hl2 hl3).mono fun e W' ⟨he,hg⟩=>?_
 have hb:=below_gb hg
 subst he
 have hv1:W'.var? Tryd.prog "loop.example/wayboard/impl.errPath" = some #[errV pb]:=var_below' hv0 gE hb
 exact ⟨_,rfl,post_below (pa:=p0++(p1++(p2++(p3++[])))) (pv:=[.cell 0 0]) hW' (fun _ _ _=>trodAll_cons_mk (shut_bool Tryd.underlying4 _) trodAll_mk0) (fun sp hsp=>trodAll_cons_mk (hback0 W' hb sp (fun x hx=>hsp x (by simp only [List.mem_append];simp [hx]))) (trodAll_cons_mk (hback1 W' hb sp (fun x hx=>hsp x (by simp only [List.mem_append];simp [hx]))) (trodAll_cons_mk (hback2 W' hb sp (fun x hx=>hsp x (by simp only [List.mem_append];simp [hx]))) (trodAll_cons_mk (hback3 W' hb sp (fun x hx=>hsp x (by simp only [List.mem_append];simp [hx]))) trodAll_mk0)))) (fun sp _=>vars_read1 enc gE gEType Tryd.underlying78 hv1 trivial sp) (by simp)
  hb (ok_one (by kernel_rfl) rfl (okWide_bool_mk Tryd.underlying4 _))⟩
noncomputable def laidWorld (os : Os) : World :=
  let N := (World.settled Tryd.prog os).heap.size
  let w0 := World.holding Tryd.prog os ⟨#[.cells #[.string ⟨#[110, 111, 116, 32, 97, 32, 112, 97, 116, 104]⟩] 96], #[], []⟩
  let put (h : Array Obj) (g : Nat) (cs : Array Value) : Array Obj := h.modify g fun
    | .cells _ t frozen => .cells cs t frozen
    | o => o
  let cellsOf : DataW Unit → Array Value := fun d => match d with
    | .agg ds => (ds.map fun x => match x with | .lit (.int k n) => Value.int k n | _ => .bool false).toArray
    | _ => #[]
  let h0 := put w0.heap 2 (cellsOf Rows.laid_math_bits_deBruijn32tab)
  let h1 := put h0 3 (cellsOf Rows.laid_math_bits_deBruijn64tab)
  let h2 := put h1 1 (cellsOf Rows.laid_internal_strconv_uint64pow10)
  let h3 := put h2 0 #[.iface 94 (.pointer (some ⟨N + 0, 0, none⟩))]
  { w0 with heap := h3 }

theorem laid_met (os:Os) (args:Array Value):laidMet Tryd.prog Rows.fnExactNetPlayRow.laid ((laidWorld os).forCall (fun _ _=>0) ⟨#[],args,[]⟩).memory :=
 laidMet_of_run' 8 (by kernel_rfl) (by kernel_rfl)
theorem witness_row (os:Os) {H:Type} (enc:TypeId × Value→H) :
  (OpenSpec.ofChange Rows.fnExactNetPlaySpec).preRow enc Tryd.prog Tryd.f6 Rows.fnExactNetPlayRow.domain false Rows.fnExactNetPlayRow.laid ((laidWorld os).forCall (fun _ _=>0) ⟨#[],#[.slice none 0 0,.int .i64 0,.slice none 0 0,.slice none 0 0],[]⟩).memory #[.slice none 0 0,.int .i64 0,.slice none 0 0,.slice none 0 0] :=
 OpenSpec.preRow_of_B rfl 8 (by kernel_rfl) (by kernel_rfl) (laid_met os _)
theorem lifted (os:Os) (started:os.Started) (H:Type) (enc:TypeId × Value→H) (F:Stop.Interp) :
  ReturnsInHanded {} Tryd.checked os 6 .any ((OpenSpec.ofChange Rows.fnExactNetPlaySpec).preRow enc Tryd.prog Tryd.f6 Rows.fnExactNetPlayRow.domain false Rows.fnExactNetPlayRow.laid) (((OpenSpec.ofChange Rows.fnExactNetPlaySpec).at F).post enc Tryd.prog Tryd.f6 false true false false):=by
 refine returnsInHanded_of_row (C:=Tryd.checked) (s:=OpenSpec.ofChange Rows.fnExactNetPlaySpec) own started (by kernel_rfl) Tryd.func6
  (witness_row_atRef (enc:=enc) (C:=Tryd.checked) false (laidWorld os) #[.slice none 0 0,.int .i64 0,.slice none 0 0,.slice none 0 0] rfl (by kernel_rfl) (by kernel_rfl) (by kernel_rfl) (witness_row os enc)) ?_
 intro W base args ds gs before hval hW _ _ _ hL hsh _
 exact contract H enc W base args ds gs before hval hW hL
theorem said:Rows.FnExactNetPlaySaid :=
 OpenClaim.holds_of_cond 6 Tryd.f6 rfl rfl rfl rfl rfl rfl rfl ⟨rfl,rfl,rfl,rfl,rfl⟩ rfl rfl rfl rfl rfl (by kernel_rfl) Tryd.func6 (by kernel_rfl)
  (of_decide_eq_true (by kernel_rfl)) (by unfold Func.isWrapper;first | (rw [if_pos (by decide +kernel)];kernel_rfl) | (rw [if_neg (by decide +kernel)];exact ⟨rfl,rfl⟩))
  (fun os started H enc _ F=>by rw [OpenClaim.pre_eq_preRow];exact lifted os started H enc F)
theorem plain (f:FuncId) (fn:Func) (hf:Tryd.pinned.checked.prog.funcNamed "loop.example/wayboard/laws.FnExactNetPlay" = some f) (hfn:Tryd.pinned.checked.prog.funcs[f]? = some fn) :
  true=Tryd.pinned.checked.prog.looks []∧∀ (j:Nat) t,fn.params[j]? = some t→Tryd.pinned.checked.prog.wantsStandIn t=false:=by
 obtain rfl:f=6:=Option.some.inj ((show Tryd.prog.funcNamed "loop.example/wayboard/laws.FnExactNetPlay" = some 6 by kernel_rfl).symm.trans hf) |>.symm
 obtain rfl:fn=Tryd.f6:=(Option.some.inj (Tryd.func6.symm.trans hfn)).symm
 refine ⟨by kernel_rfl,fun j t ht=>?_⟩
 rw [Tryd.params6] at ht
 have h:t=22∨t=3∨t=22∨t=24:=by simpa using Array.mem_of_getElem? ht
 rcases h with rfl | rfl | rfl | rfl
 ·exact (show Tryd.prog.wantsStandIn 22=false by kernel_rfl)
 ·exact (show Tryd.prog.wantsStandIn 3=false by kernel_rfl)
 ·exact (show Tryd.prog.wantsStandIn 22=false by kernel_rfl)
 ·exact (show Tryd.prog.wantsStandIn 24=false by kernel_rfl)
theorem card:Rows.FnExactNetPlayCardSaid :=
 Claim7.holds_tied_plain_at .later [] _ _ _ _ said (fun _ h=>by cases h) (by kernel_rfl) (fun _ h=>by cases h) fnExactNetPlay_row_tie rfl ⟨rfl,rfl⟩ (by kernel_rfl) rfl plain (by kernel_rfl)
end Go.Proofs.YtbjdeohccjmaiaaDoor.cXPl
end
