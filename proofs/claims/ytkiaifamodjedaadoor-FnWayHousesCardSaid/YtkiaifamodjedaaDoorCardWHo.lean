/- YtkiaifamodjedaaDoorCardWHo: part of the proof that laws hold, for every input that the row speaks of (no condition of ours). -/
import Derived.Test.YtkiaifamodjedaaDoorWd
import Derived.Test.YtkiaifamodjedaaDoorWc
import Derived.Test.YtkiaifamodjedaaDoorWa
import Derived.Test.YtkiaifamodjedaaDoorEc
import Derived.ChangeVars
import Derived.RowKitTokens
import Derived.Test.YtkiaifamodjedaaDoorCards
import Derived.Test.YtkiaifamodjedaaDoorTie
set_option linter.unusedVariables false
set_option linter.unusedSimpArgs false
section
namespace Go.Proofs.W
open Go Go.Eng Go.RowKit
set_option maxRecDepth 100000
theorem lnk_get {of:Rel}:∀ {w:List Int},lnk of w=true→∀ k,k + 1 < w.length→of (w.getD k 0) (w.getD (k + 1) 0)≠0
 | [],_,k,hk=>by simp at hk
 | [_],_,k,hk=>by simp at hk
 | x::y::l,h,0,_=>by
  simp only [lnk,Bool.and_eq_true,Bool.not_eq_true',beq_eq_false_iff_ne] at h
  exact h.1
 | x::y::l,h,k + 1,hk=>by
  simp only [lnk,Bool.and_eq_true] at h
  exact lnk_get h.2 k (by simpa using hk)
theorem net_way {R:List (List Int)} {x:Int} {W:List (List Int)} (hn:netOk R x W=true) {i:Nat} (hi:i < R.length) (hw:W.getD i []≠[]) :
  pathOk (W.getD i [])=true∧(W.getD i []).getD 0 0=(i:Int) + 1∧(W.getD i []).getD ((W.getD i []).length - 1) 0=x∧lnk (ofR R) (W.getD i [])=true:=by
 have hv:=(net_s hn).2 ((i:Int) + 1) ⟨by omega,by omega⟩
 rw [toS_succ] at hv
 obtain ⟨_,h2,h3,h4,h5,_⟩:=(wayOk_iff hw).1 hv
 refine ⟨h3,?_,?_,h2⟩
 ·rw [List.getD_eq_getElem?_getD,← List.head?_eq_getElem?,h4];rfl
 ·rw [List.getD_eq_getElem?_getD,← List.getLast?_eq_getElem?,h5];rfl
set_option maxHeartbeats 8000000 in
theorem fnWayHouses_ok (pb:Addr):Fine Tryd.prog 7 (cLawP pb):=by
 refine fine_of (T:=TT) Tryd.func7 rfl Tryd.ntmps7 (by rw [Tryd.results7]) rfl rfl tt (gs_cons drawNetPlay_ok gs_nil) (ds_cons sNetPlay_ok (ds_cons (iNetPlay_ok pb) (ds_cons lyWays_ok (ds_cons relOf_ok (ds_cons (iPathOk_ok pb) ds_nil (wp_inh pb)))) (wp_inh pb))) ?_
 rintro args ⟨bs,hbs,rfl⟩
 refine ⟨by simp,fun k hk E hE Q hQ=>?_⟩
 refine Aw_st hE [0] [] fun K hK=>?_
 simp only [go_sem,seval]
 refine hK _ ?_;clear hK K
 refine Aw_sq fun B1 hB1 hR1 hX1=>?_
 refine Aw_st hE [0,16] [] fun K hK=>?_
 simp only [go_sem,seval]
 refine hK _ (Aw_cond rfl (fun hc2=>?_) (fun hc2=>?_))
 ·refine Aw_st hE [2] [] fun K hK=>?_
  simp only [go_sem,seval]
  refine hK _ (Aw_ret (hR1 _ (hQ _ ?_)))
  simp only [go_sem,seval]
 refine Aw_skip (hB1 _ ?_)
 refine Aw_st hE [3,4,5,6] [] fun K hK=>?_
 simp only [go_sem,seval]
 refine ⟨dny_pre bs hbs,fun R x W o hP ho=>?_⟩
 have hbR:=okRl_big hP.r
 have hbW:=okW_big hP.w
 have ho2:o.length≤4294967296:=by omega
 have hbX:=okW_bw (playR_ok (R:=R) (x:=x) (W:=W) (o:=o))
 have hbX2:=okW_big (playR_ok (R:=R) (x:=x) (W:=W) (o:=o))
 refine hK _ ?_;clear hK K
 refine Aw_st hE [3,4,5,6,7,8] [] fun K hK=>?_
 simp only [go_sem,seval,hbR,hbW,ho2]
 refine hK _ ?_;clear hK K
 refine Aw_st hE [3,4,7,8,9,10] [] fun K hK=>?_
 simp only [go_sem,seval,hbR,hbW,ho2]
 refine hK _ ?_;clear hK K
 refine Aw_sq fun B5 hB5 hR5 hX5=>?_
 cases hp:playOk R x W o with
 | false =>
  refine Aw_st hE [3,4,7,8,9,10,52] [] fun K hK=>?_
  simp only [go_sem,seval,hbX,hp,decide_true,Bool.not_true,Bool.not_false]
  refine hK _ (Aw_yes rfl ?_)
  refine Aw_st hE [2] [] fun K hK=>?_
  simp only [go_sem,seval,hbX,decide_true]
  refine hK _ (Aw_ret (hR5 _ (hQ _ ?_)))
  simp only [go_sem,seval]
 | true =>
 have hnX:=playR_net hp
 have hX:=playR_eq hp
 obtain ⟨hnW,ho200,hoI⟩:=play_iff.1 hp
 have hok:=(netOk_iff.1 hnW).1
 have hn5:=net5 hnW
 have hx:=net_h hnW
 have hlX:=net_l hnX
 have hib:hIb R.length x=true:=hIb_iff.2 hx
 have hx1:=hx.1
 have hx2:=hx.2
 refine Aw_st hE [3,4,7,8,9,10,52] [] fun K hK=>?_
 simp only [go_sem,seval,hbX,hp,decide_true,Bool.not_true,Bool.not_false]
 refine hK _ (Aw_no rfl (Aw_skip (hB5 _ ?_)))
 refine Aw_sq fun B8 hB8 hR8 hX8=>?_
 refine Aw_st hE [3,4,9,11] [] fun K hK=>?_
 simp only [go_sem,seval]
 refine hK _ ?_;clear hK K
 refine Aw_bk fun B9 hN9 hE9 hR9 hX9=>?_
 refine Aw_lp (fun i:Nat=>⟨119,[(3,wsl R),(4,iv x),(9,wsl (playR R x W o)),(11,iv ((i:Int) + 1))],[],k⟩) (fun i=>i≤R.length) (fun i=>R.length - i) 0 (Le_wa) (by omega) fun i hi B10 hN10 hR10 hX10=>?_
 refine Aw_sq fun B11 hB11 hR11 hX11=>?_
 refine Aw_st hE [3,4,9,11,64] [] fun K hK=>?_
 simp only [go_sem,seval]
 refine hK _ (Aw_cond rfl (fun hc12=>?_) (fun hc12=>?_))
 ·simp only [dte] at hc12
  have hil:i < R.length:=by omega
  have hg:=wrows_get (playR R x W o) i (by omega)
  have hi1:((i:Int) + 1 - 1).toNat=i:=by omega
  have hwl:((playR R x W o).getD i []).length≤4294967296:=hbX.2 _ (getD_memL _ i (by omega))
  refine Aw_skip (hB11 _ ?_)
  refine Aw_sq fun B13 hB13 hR13 hX13=>?_
  refine Aw_bk fun B14 hN14 hE14 hR14 hX14=>?_
  refine Aw_st hE [3,4,9,11,12] [] fun K hK=>?_
  simp only [go_sem,seval,hi1,hg]
  repeat refine sd0 ?_
  refine hK _ ?_;clear hK K
  refine Aw_sq fun B15 hB15 hR15 hX15=>?_
  by_cases hw:(playR R x W o).getD i []=[]
  ·have d0:decide ((((playR R x W o).getD i []).length:Int)=0)=true:=decide_eq_true (by rw [hw];rfl)
   refine Aw_st hE [3,4,9,11,12,74] [] fun K hK=>?_
   simp only [go_sem,seval,d0]
   refine hK _ (Aw_yes rfl ?_)
   refine Aw_exit (hX15 _ _ (hE14 _ (hB13 _ ?_)))
   refine Aw_tx hE [3,4,9,11] [] fun K hK=>?_
   simp only [go_sem,seval]
   repeat refine sd0 ?_
   refine hK _ (hN10 (i + 1) _ (by omega) (by omega) (Le_wb (by simp only [go_sem,seval,Int.natCast_add,Int.natCast_one])))
  have hw0:((playR R x W o).getD i []).length≠0:=fun e=>hw (List.length_eq_zero_iff.1 e)
  have d0:decide ((((playR R x W o).getD i []).length:Int)=0)=false:=decide_eq_false (by omega)
  obtain ⟨w1,w2,w3,w4⟩:=net_way hnX hil hw
  have g0:=rows_get ((playR R x W o).getD i []) 0 (by omega)
  have gl:=rows_get ((playR R x W o).getD i []) (((playR R x W o).getD i []).length - 1) (by omega)
  have hli:((((playR R x W o).getD i []).length:Int) - 1).toNat=((playR R x W o).getD i []).length - 1:=by omega
  rw [w2] at g0
  rw [w3] at gl
  refine Aw_st hE [3,4,9,11,12,74] [] fun K hK=>?_
  simp only [go_sem,seval,d0]
  refine hK _ (Aw_no rfl (Aw_skip (hB15 _ ?_)))
  refine Aw_sq fun B17 hB17 hR17 hX17=>?_
  refine Aw_st hE [3,4,9,11,12,94] [] fun K hK=>?_
  simp only [go_sem,seval,hwl,w1,g0,hli,gl,decide_true,Bool.not_true]
  repeat refine sd0 ?_
  refine hK _ (Aw_no rfl (Aw_skip (hB17 _ ?_)))
  refine Aw_st hE [3,4,9,11,12,13] [] fun K hK=>?_
  simp only [go_sem,seval]
  refine hK _ ?_;clear hK K
  refine Aw_bk fun B22 hN22 hE22 hR22 hX22=>?_
  refine Aw_lp (fun q:Nat=>⟨119,[(3,wsl R),(4,iv x),(9,wsl (playR R x W o)),(11,iv ((i:Int) + 1)),(12,isl ((playR R x W o).getD i [])),(13,iv (q:Int))],[],k⟩) (fun q=>q≤((playR R x W o).getD i []).length) (fun q=>((playR R x W o).getD i []).length - q) 0 (Le_wa) (by omega) fun q hq B23 hN23 hR23 hX23=>?_
  refine Aw_sq fun B24 hB24 hR24 hX24=>?_
  refine Aw_st hE [3,4,9,11,12,13,99] [] fun K hK=>?_
  simp only [go_sem,seval]
  repeat refine sd0 ?_
  refine hK _ (Aw_cond rfl (fun hc25=>?_) (fun hc25=>?_))
  ·simp only [dte] at hc25
   have hq2:q + 1 < ((playR R x W o).getD i []).length:=by omega
   have g1:=rows_get ((playR R x W o).getD i []) q (by omega)
   have g2:=rows_get ((playR R x W o).getD i []) (q + 1) hq2
   have hq1:((q:Int) + 1).toNat=q + 1:=by omega
   have d3:decide (ofR R (((playR R x W o).getD i []).getD q 0) (((playR R x W o).getD i []).getD (q + 1) 0)=0)=false:=decide_eq_false (lnk_get w4 q hq2)
   refine Aw_skip (hB24 _ ?_)
   refine Aw_sq fun B26 hB26 hR26 hX26=>?_
   refine Aw_bk fun B27 hN27 hE27 hR27 hX27=>?_
   refine Aw_sd hE [3,4,9,11,12,13,113] [] 6 (by kernel_rfl) fun K hK=>?_
   simp only [go_sem,seval,g1,hq1,g2,hbR,hok,d3]
   repeat refine sd0 ?_
   refine hK _ (Aw_no rfl ?_)
   refine Aw_skip (hN27 _ (hB26 _ ?_))
   refine Aw_tx hE [3,4,9,11,12,13] [] fun K hK=>?_
   simp only [go_sem,seval]
   repeat refine sd0 ?_
   refine hK _ (hN23 (q + 1) _ (by omega) (by omega) (Le_wb (by simp only [go_sem,seval,Int.natCast_add,Int.natCast_one])))
  ·refine Aw_exit (hX24 _ _ (hX23 _ _ (hE22 _ (hN14 _ (hB13 _ ?_)))))
   refine Aw_tx hE [3,4,9,11] [] fun K hK=>?_
   simp only [go_sem,seval]
   repeat refine sd0 ?_
   refine hK _ (hN10 (i + 1) _ (by omega) (by omega) (Le_wb (by simp only [go_sem,seval,Int.natCast_add,Int.natCast_one])))
 ·refine Aw_exit (hX11 _ _ (hX10 _ _ (hE9 _ (hB8 _ ?_))))
  have d9:decide ((((playR R x W o).length:Int))=(R.length:Int))=true:=decide_eq_true (by omega)
  refine Aw_st hE [2] [] fun K hK=>?_
  simp only [go_sem,seval,d9]
  refine hK _ (Aw_ret (hQ _ ?_))
  simp only [go_sem,seval]
end Go.Proofs.W
end
section
namespace Go.Proofs.YtkiaifamodjedaaDoor.cWHo
open Go Go.Eng Go.RowKit Go.WideShapes Go.ChangeShapes Go.ChangeAt Go.Proofs.W
set_option maxRecDepth 100000
theorem own:ownKnob Tryd.prog.godebug=none:=by kernel_rfl
theorem star : "*"++ "errors.errorString" = "*errors.errorString" := by decide
theorem rowE (u:TypeId) (h:Tryd.prog.typeName? 3 u=some "*errors.errorString"):u=111 :=
 typeName_ptr_named (nm := "errors.errorString") (by rw [star];kernel_rfl) (by kernel_rfl) (by decide) u (by rw [star];exact h)
theorem gE:Tryd.prog.globalNamed "loop.example/wayboard/impl.errPath" = some 0:=by kernel_rfl
theorem gEType:(Tryd.prog.globals[0]?).map (·.type)=some 71:=by kernel_rfl
theorem w_of {W:World} (h:laidMet Tryd.prog Rows.fnWayHousesRow.laid W):∃ pb,WP pb W∧W.var? Tryd.prog "loop.example/wayboard/impl.errPath" = some #[errV pb]:=by
 have h0:=h
 have h1:=laidMet.tail h0
 have h2:=laidMet.tail h1
 have h3:=laidMet.tail h2
 obtain ⟨a0,s0,hv0,hc0,hs0,hz0⟩:=laid_sentinel h3 gE gEType Tryd.underlying71 rowE Tryd.underlying111 Tryd.underlying113 rfl rfl Tryd.underlying9 (by kernel_rfl) (by kernel_rfl)
 refine ⟨a0,⟨⟨?_⟩,?_⟩,hv0⟩
 ·exact Lib.tabIs_of_head (g:=1) (by kernel_rfl) (by kernel_rfl) Tryd.underlying132 Tryd.underlying126 (by kernel_rfl) (by kernel_rfl) h2
 ·simpa using World.var?_cell gE hv0 0
theorem contract (H:Type) (enc:TypeId × Value→H) (W:World) (base:Nat) (args:Array Value) (ds gs:List (DataW H)) (before:List MemPlace)
  (hval:∀ (j:Nat) t v,Tryd.f7.params[j]? = some t→args[j]? = some v→Value.okWide Tryd.prog W .any base t v)
  (hW:DataW.Whole enc Tryd.prog Tryd.f7.params.toList Rows.fnWayHousesSpec.vars false W args.toList ds gs before) (hL:laidMetH Tryd.prog Rows.fnWayHousesRow.laid W) :
  Calls Tryd.prog 7 args W fun e W'=>∃ v,e = .returned v∧Rows.fnWayHousesSpec.post enc Tryd.prog Tryd.f7 false true false false W args v W':=by
 have hW':=hW
 obtain ⟨p,q,hA0,hV0,rfl,hfz,hnd⟩:=hW
 have hA:DataW.TrodAll enc Tryd.prog W 0 (fun _=>true) true Tryd.f7.params.toList args.toList ds p:=hA0
 have hV:DataW.TrodVars enc Tryd.prog W (fun _=>true) ["loop.example/wayboard/impl.errPath"] gs q:=hV0
 rw [Tryd.params7] at hA hval
 obtain ⟨v0,vs0,d0,ds0,p0,q0,hargs,rfl,rfl,hd0,r0⟩:=trodAll_cons hA
 obtain ⟨rfl,rfl,rfl⟩:=trodAll_nil r0
 obtain rfl:args = #[v0]:=by cases args;simp_all
 obtain ⟨pb,hwp,hv0⟩:=w_of hL
 obtain ⟨rfl,rfl⟩:=hV.unique (vars_read1 enc gE gEType Tryd.underlying71 hv0 trivial _)
 obtain ⟨hin0,hback0⟩:=open_arg (hval 0 22 v0 rfl rfl) hd0
 clear hA0 hV0
 simp only [List.append_nil] at hW'
 refine (law_callsP (fnWayHouses_ok pb) W hwp v0 hin0).mono fun e W' ⟨he,hb⟩=>?_
 subst he
 have hv1:W'.var? Tryd.prog "loop.example/wayboard/impl.errPath" = some #[errV pb]:=var_below' hv0 gE hb
 exact ⟨_,rfl,post_below (pa:=p0++[]) (pv:=[.cell 0 0]) hW' (fun _ _ _=>trodAll_cons_mk (shut_bool Tryd.underlying4 _) trodAll_mk0) (fun sp hsp=>trodAll_cons_mk (hback0 W' hb sp (fun x hx=>hsp x (by simp only [List.mem_append];simp [hx]))) trodAll_mk0) (fun sp _=>vars_read1 enc gE gEType Tryd.underlying71 hv1 trivial sp) (by simp)
  hb (ok_one (by kernel_rfl) rfl (okWide_bool_mk Tryd.underlying4 _))⟩
noncomputable def laidWorld (os : Os) : World :=
  let N := (World.settled Tryd.prog os).heap.size
  let w0 := World.holding Tryd.prog os ⟨#[.cells #[.string ⟨#[110, 111, 116, 32, 97, 32, 112, 97, 116, 104]⟩] 113], #[], []⟩
  let put (h : Array Obj) (g : Nat) (cs : Array Value) : Array Obj := h.modify g fun
    | .cells _ t frozen => .cells cs t frozen
    | o => o
  let cellsOf : DataW Unit → Array Value := fun d => match d with
    | .agg ds => (ds.map fun x => match x with | .lit (.int k n) => Value.int k n | _ => .bool false).toArray
    | _ => #[]
  let h0 := put w0.heap 2 (cellsOf Rows.laid_math_bits_deBruijn32tab)
  let h1 := put h0 3 (cellsOf Rows.laid_math_bits_deBruijn64tab)
  let h2 := put h1 1 (cellsOf Rows.laid_internal_strconv_uint64pow10)
  let h3 := put h2 0 #[.iface 111 (.pointer (some ⟨N + 0, 0, none⟩))]
  { w0 with heap := h3 }

theorem laid_met (os:Os) (args:Array Value):laidMet Tryd.prog Rows.fnWayHousesRow.laid ((laidWorld os).forCall (fun _ _=>0) ⟨#[],args,[]⟩).memory :=
 laidMet_of_run' 8 (by kernel_rfl) (by kernel_rfl)
theorem witness_row (os:Os) {H:Type} (enc:TypeId × Value→H) :
  (OpenSpec.ofChange Rows.fnWayHousesSpec).preRow enc Tryd.prog Tryd.f7 Rows.fnWayHousesRow.domain false Rows.fnWayHousesRow.laid ((laidWorld os).forCall (fun _ _=>0) ⟨#[],#[.slice none 0 0],[]⟩).memory #[.slice none 0 0] :=
 OpenSpec.preRow_of_B rfl 8 (by kernel_rfl) (by kernel_rfl) (laid_met os _)
theorem lifted (os:Os) (started:os.Started) (H:Type) (enc:TypeId × Value→H) (F:Stop.Interp) :
  ReturnsInHanded {} Tryd.checked os 7 .any ((OpenSpec.ofChange Rows.fnWayHousesSpec).preRow enc Tryd.prog Tryd.f7 Rows.fnWayHousesRow.domain false Rows.fnWayHousesRow.laid) (((OpenSpec.ofChange Rows.fnWayHousesSpec).at F).post enc Tryd.prog Tryd.f7 false true false false):=by
 refine returnsInHanded_of_row (C:=Tryd.checked) (s:=OpenSpec.ofChange Rows.fnWayHousesSpec) own started (by kernel_rfl) Tryd.func7
  (witness_row_atRef (enc:=enc) (C:=Tryd.checked) false (laidWorld os) #[.slice none 0 0] rfl (by kernel_rfl) (by kernel_rfl) (by kernel_rfl) (witness_row os enc)) ?_
 intro W base args ds gs before hval hW _ _ _ hL hsh _
 exact contract H enc W base args ds gs before hval hW hL
theorem said:Rows.FnWayHousesSaid :=
 OpenClaim.holds_of_cond 7 Tryd.f7 rfl rfl rfl rfl rfl rfl rfl ⟨rfl,rfl,rfl,rfl,rfl⟩ rfl rfl rfl rfl rfl (by kernel_rfl) Tryd.func7 (by kernel_rfl)
  (of_decide_eq_true (by kernel_rfl)) (by unfold Func.isWrapper;first | (rw [if_pos (by decide +kernel)];kernel_rfl) | (rw [if_neg (by decide +kernel)];exact ⟨rfl,rfl⟩))
  (fun os started H enc _ F=>by rw [OpenClaim.pre_eq_preRow];exact lifted os started H enc F)
theorem plain (f:FuncId) (fn:Func) (hf:Tryd.pinned.checked.prog.funcNamed "loop.example/wayboard/laws.FnWayHouses" = some f) (hfn:Tryd.pinned.checked.prog.funcs[f]? = some fn) :
  true=Tryd.pinned.checked.prog.looks []∧∀ (j:Nat) t,fn.params[j]? = some t→Tryd.pinned.checked.prog.wantsStandIn t=false:=by
 obtain rfl:f=7:=Option.some.inj ((show Tryd.prog.funcNamed "loop.example/wayboard/laws.FnWayHouses" = some 7 by kernel_rfl).symm.trans hf) |>.symm
 obtain rfl:fn=Tryd.f7:=(Option.some.inj (Tryd.func7.symm.trans hfn)).symm
 refine ⟨by kernel_rfl,fun j t ht=>?_⟩
 rw [Tryd.params7] at ht
 obtain rfl:t=22:=by simpa using Array.mem_of_getElem? ht
 exact (show Tryd.prog.wantsStandIn 22=false by kernel_rfl)
theorem card:Rows.FnWayHousesCardSaid :=
 Claim7.holds_tied_plain_at .later [] _ _ _ _ said (fun _ h=>by cases h) (by kernel_rfl) (fun _ h=>by cases h) fnWayHouses_row_tie rfl ⟨rfl,rfl⟩ (by kernel_rfl) rfl plain (by kernel_rfl)
end Go.Proofs.YtkiaifamodjedaaDoor.cWHo
end
