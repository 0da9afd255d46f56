/- YtkiaifamodjedaaDoorCardSet: part of the proof that laws hold, for every input that the row speaks of (no condition of ours). -/
import Derived.Test.YtkiaifamodjedaaDoorWd
import Derived.Test.YtkiaifamodjedaaDoorWa
import Derived.Test.YtkiaifamodjedaaDoorEc
import Derived.ChangeVars
import Derived.RowKitTokens
import Derived.Test.YtkiaifamodjedaaDoorCards
import Derived.Test.YtkiaifamodjedaaDoorTie
set_option linter.unusedVariables false
set_option linter.unusedSimpArgs false
section
namespace Go.Proofs.W
open Go Go.Eng Go.RowKit
set_option maxRecDepth 100000
theorem fnSettles_ok (pb:Addr):Fine Tryd.prog 10 (cLawP2 pb):=by
 refine fine_of (T:=TT) Tryd.func10 rfl Tryd.ntmps10 (by rw [Tryd.results10]) rfl rfl tt (gs_cons drawNetPlay_ok gs_nil) (ds_cons sNetPlay_ok (ds_cons (iNetPlay_ok pb) (ds_cons lyWays_ok (ds_cons (iNetEnd_ok pb) (ds_cons relsFree_ok (ds_cons lyRounds_ok ds_nil)) (wp_inh pb))) (wp_inh pb))) ?_
 rintro args ⟨bs,b2,hbs,hbs2,rfl⟩
 refine ⟨by simp,fun k hk E hE Q hQ=>?_⟩
 refine Aw_st hE [0,1] [] fun K hK=>?_
 simp only [go_sem,seval]
 refine hK _ ?_;clear hK K
 refine Aw_sq fun B1 hB1 hR1 hX1=>?_
 refine Aw_st hE [0,1,23] [] fun K hK=>?_
 simp only [go_sem,seval]
 refine ⟨fun hg3=>?_,fun hg3=>?_⟩
 ·repeat refine sd0 ?_
  refine hK _ (Aw_yes rfl ?_)
  refine Aw_st hE [4] [] fun K hK=>?_
  simp only [go_sem,seval]
  refine hK _ (Aw_ret (hR1 _ (hQ _ ?_)))
  simp only [go_sem,seval]
 repeat refine sd0 ?_
 refine hK _ (Aw_cond rfl (fun hc4=>?_) (fun hc4=>?_))
 ·refine Aw_st hE [4] [] fun K hK=>?_
  simp only [go_sem,seval]
  refine hK _ (Aw_ret (hR1 _ (hQ _ ?_)))
  simp only [go_sem,seval]
 refine Aw_skip (hB1 _ ?_)
 refine Aw_st hE [1,5,6,7,8] [] fun K hK=>?_
 simp only [go_sem,seval]
 refine ⟨dny_pre bs hbs,fun R x W o hP ho=>?_⟩
 have hbR:=okRl_big hP.r
 have hbW:=okW_big hP.w
 have ho2:o.length≤4294967296:=by omega
 have hbX:=okW_bw (playR_ok (R:=R) (x:=x) (W:=W) (o:=o))
 have hbX2:=okW_big (playR_ok (R:=R) (x:=x) (W:=W) (o:=o))
 refine hK _ ?_;clear hK K
 refine Aw_st hE [1,5,6,7,8,9,10] [] fun K hK=>?_
 simp only [go_sem,seval,hbR,hbW,ho2]
 refine hK _ ?_;clear hK K
 refine Aw_st hE [1,5,6,9,10,11,12] [] fun K hK=>?_
 simp only [go_sem,seval,hbR,hbW,ho2]
 refine hK _ ?_;clear hK K
 refine Aw_sq fun B5 hB5 hR5 hX5=>?_
 cases hp:playOk R x W o with
 | false =>
  refine Aw_st hE [1,5,6,9,10,11,12,59] [] fun K hK=>?_
  simp only [go_sem,seval,hbX,hp,decide_true,Bool.not_true,Bool.not_false]
  refine hK _ (Aw_yes rfl ?_)
  refine Aw_st hE [4] [] fun K hK=>?_
  simp only [go_sem,seval,hbX,decide_true]
  refine hK _ (Aw_ret (hR5 _ (hQ _ ?_)))
  simp only [go_sem,seval]
 | true =>
 have hnX:=playR_net hp
 have hX:=playR_eq hp
 obtain ⟨hnW,ho200,hoI⟩:=play_iff.1 hp
 have hok:=(netOk_iff.1 hnW).1
 have hn5:=net5 hnW
 have hx:=net_h hnW
 have hlX:=net_l hnX
 have hib:hIb R.length x=true:=hIb_iff.2 hx
 have hx1:=hx.1
 have hx2:=hx.2
 refine Aw_st hE [1,5,6,9,10,11,12,59] [] fun K hK=>?_
 simp only [go_sem,seval,hbX,hp,decide_true,Bool.not_true,Bool.not_false]
 refine hK _ (Aw_no rfl (Aw_skip (hB5 _ ?_)))
 have bl:(byteRows b2).length=b2.length:=byteRows_len b2
 have hl2:b2.length≤1048576:=by simp only [dfn] at hc4;omega
 refine Aw_sq fun B10 hB10 hR10 hX10=>?_
 cases hf:(ordR R).isSome with
 | false =>
  refine Aw_st hE [1,5,6,11,70] [] fun K hK=>?_
  simp only [go_sem,seval,hbR,hf,Bool.not_false]
  refine hK _ (Aw_yes rfl ?_)
  refine Aw_st hE [4] [] fun K hK=>?_
  simp only [go_sem,seval]
  refine hK _ (Aw_ret (hR10 _ (hQ _ ?_)))
  simp only [go_sem,seval]
 | true =>
 refine Aw_st hE [1,5,6,11,70] [] fun K hK=>?_
 simp only [go_sem,seval,hbR,hf,Bool.not_true]
 refine hK _ (Aw_no rfl (Aw_skip (hB10 _ ?_)))
 obtain ⟨l,hl⟩:=Option.isSome_iff_exists.1 hf
 unfold ordR at hl
 rw [if_pos hok] at hl
 have hrk:=ord_rk hl
 have m5:(b2.length:Int).tmod 5=((b2.length % 5:Nat):Int):=tmod_c b2.length 5
 have s5:(1:Int) + ((b2.length % 5:Nat):Int)=((1 + b2.length % 5:Nat):Int):=by omega
 have l5:=Nat.mod_lt b2.length (show 0 < 5 by decide)
 have en:(4:Int) * (R.length:Int)=((4 * R.length:Nat):Int):=by omega
 have hq:4 * R.length * R.length≤20 * 5:=Nat.mul_le_mul (by omega) hn5
 have hll:=lyR_len R.length (1 + b2.length % 5) (4 * R.length)
 have hql:(lyR R.length (4 * R.length) (1 + b2.length % 5)).length≤4294967296:=by omega
 have hyp:=hbR.1
 have hpr:playOk R x (playR R x W o) (lyR R.length (4 * R.length) (1 + b2.length % 5))=true:=play_iff.2 ⟨hnX,by omega,fun y hy=>lyR_hI (by omega) _ _ y hy⟩
 have hend:playR R x (playR R x W o) (lyR R.length (4 * R.length) (1 + b2.length % 5))=endR R x:=by
  rw [playR_eq hpr,lyR_end (relsOk_H hok) hrk hlX (netS_hds (net_s hnX)) hx _ (by omega)]
  unfold endR
  rw [hok,hib];rfl
 have hbE:=endR_bw (R:=R) (x:=x)
 refine Aw_st hE [1,5,6,11,13] [] fun K hK=>?_
 simp only [go_sem,seval]
 refine hK _ ?_;clear hK K
 refine Aw_st hE [5,6,14,15] [] fun K hK=>?_
 simp only [go_sem,seval,↓playR_def,hbR,hbX2,bl,Int.toNat_natCast,m5,s5,en,hql,hpr,hend]
 repeat refine sd0 ?_
 refine hK _ ?_;clear hK K
 refine Aw_st hE [4] [] fun K hK=>?_
 simp only [go_sem,seval,↓endR_def,hbR,hbE,decide_true]
 repeat (refine And.intro (by first | omega | assumption | (and_intros<;>first | omega | assumption | decide) | fail) ?_)
 refine hK _ (Aw_ret (hQ _ ?_))
 simp only [go_sem,seval]
end Go.Proofs.W
end
section
namespace Go.Proofs.YtkiaifamodjedaaDoor.cSet
open Go Go.Eng Go.RowKit Go.WideShapes Go.ChangeShapes Go.ChangeAt Go.Proofs.W
set_option maxRecDepth 100000
theorem own:ownKnob Tryd.prog.godebug=none:=by kernel_rfl
theorem star : "*"++ "errors.errorString" = "*errors.errorString" := by decide
theorem rowE (u:TypeId) (h:Tryd.prog.typeName? 3 u=some "*errors.errorString"):u=111 :=
 typeName_ptr_named (nm := "errors.errorString") (by rw [star];kernel_rfl) (by kernel_rfl) (by decide) u (by rw [star];exact h)
theorem gE:Tryd.prog.globalNamed "loop.example/wayboard/impl.errPath" = some 0:=by kernel_rfl
theorem gEType:(Tryd.prog.globals[0]?).map (·.type)=some 71:=by kernel_rfl
theorem w_of {W:World} (h:laidMet Tryd.prog Rows.fnSettlesRow.laid W):∃ pb,WP pb W∧W.var? Tryd.prog "loop.example/wayboard/impl.errPath" = some #[errV pb]:=by
 have h0:=h
 have h1:=laidMet.tail h0
 have h2:=laidMet.tail h1
 have h3:=laidMet.tail h2
 obtain ⟨a0,s0,hv0,hc0,hs0,hz0⟩:=laid_sentinel h3 gE gEType Tryd.underlying71 rowE Tryd.underlying111 Tryd.underlying113 rfl rfl Tryd.underlying9 (by kernel_rfl) (by kernel_rfl)
 refine ⟨a0,⟨⟨?_⟩,?_⟩,hv0⟩
 ·exact Lib.tabIs_of_head (g:=1) (by kernel_rfl) (by kernel_rfl) Tryd.underlying132 Tryd.underlying126 (by kernel_rfl) (by kernel_rfl) h2
 ·simpa using World.var?_cell gE hv0 0
theorem contract (H:Type) (enc:TypeId × Value→H) (W:World) (base:Nat) (args:Array Value) (ds gs:List (DataW H)) (before:List MemPlace)
  (hval:∀ (j:Nat) t v,Tryd.f10.params[j]? = some t→args[j]? = some v→Value.okWide Tryd.prog W .any base t v)
  (hW:DataW.Whole enc Tryd.prog Tryd.f10.params.toList Rows.fnSettlesSpec.vars false W args.toList ds gs before) (hL:laidMetH Tryd.prog Rows.fnSettlesRow.laid W) :
  Calls Tryd.prog 10 args W fun e W'=>∃ v,e = .returned v∧Rows.fnSettlesSpec.post enc Tryd.prog Tryd.f10 false true false false W args v W':=by
 have hW':=hW
 obtain ⟨p,q,hA0,hV0,rfl,hfz,hnd⟩:=hW
 have hA:DataW.TrodAll enc Tryd.prog W 0 (fun _=>true) true Tryd.f10.params.toList args.toList ds p:=hA0
 have hV:DataW.TrodVars enc Tryd.prog W (fun _=>true) ["loop.example/wayboard/impl.errPath"] gs q:=hV0
 rw [Tryd.params10] at hA hval
 obtain ⟨v0,vs0,d0,ds0,p0,q0,hargs,rfl,rfl,hd0,r0⟩:=trodAll_cons hA
 obtain ⟨v1,vs1,d1,ds1,p1,q1,rfl,rfl,rfl,hd1,r1⟩:=trodAll_cons r0
 obtain ⟨rfl,rfl,rfl⟩:=trodAll_nil r1
 obtain rfl:args = #[v0,v1]:=by cases args;simp_all
 obtain ⟨pb,hwp,hv0⟩:=w_of hL
 obtain ⟨rfl,rfl⟩:=hV.unique (vars_read1 enc gE gEType Tryd.underlying71 hv0 trivial _)
 obtain ⟨hin0,hback0⟩:=open_arg (hval 0 22 v0 rfl rfl) hd0
 obtain ⟨hin1,hback1⟩:=open_arg (hval 1 22 v1 rfl rfl) hd1
 clear hA0 hV0
 simp only [List.append_nil] at hW'
 refine (law_callsP2 (fnSettles_ok pb) W hwp v0 v1 hin0 hin1).mono fun e W' ⟨he,hb⟩=>?_
 subst he
 have hv1:W'.var? Tryd.prog "loop.example/wayboard/impl.errPath" = some #[errV pb]:=var_below' hv0 gE hb
 exact ⟨_,rfl,post_below (pa:=p0++(p1++[])) (pv:=[.cell 0 0]) hW' (fun _ _ _=>trodAll_cons_mk (shut_bool Tryd.underlying4 _) trodAll_mk0) (fun sp hsp=>trodAll_cons_mk (hback0 W' hb sp (fun x hx=>hsp x (by simp only [List.mem_append];simp [hx]))) (trodAll_cons_mk (hback1 W' hb sp (fun x hx=>hsp x (by simp only [List.mem_append];simp [hx]))) trodAll_mk0)) (fun sp _=>vars_read1 enc gE gEType Tryd.underlying71 hv1 trivial sp) (by simp)
  hb (ok_one (by kernel_rfl) rfl (okWide_bool_mk Tryd.underlying4 _))⟩
noncomputable def laidWorld (os : Os) : World :=
  let N := (World.settled Tryd.prog os).heap.size
  let w0 := World.holding Tryd.prog os ⟨#[.cells #[.string ⟨#[110, 111, 116, 32, 97, 32, 112, 97, 116, 104]⟩] 113], #[], []⟩
  let put (h : Array Obj) (g : Nat) (cs : Array Value) : Array Obj := h.modify g fun
    | .cells _ t frozen => .cells cs t frozen
    | o => o
  let cellsOf : DataW Unit → Array Value := fun d => match d with
    | .agg ds => (ds.map fun x => match x with | .lit (.int k n) => Value.int k n | _ => .bool false).toArray
    | _ => #[]
  let h0 := put w0.heap 2 (cellsOf Rows.laid_math_bits_deBruijn32tab)
  let h1 := put h0 3 (cellsOf Rows.laid_math_bits_deBruijn64tab)
  let h2 := put h1 1 (cellsOf Rows.laid_internal_strconv_uint64pow10)
  let h3 := put h2 0 #[.iface 111 (.pointer (some ⟨N + 0, 0, none⟩))]
  { w0 with heap := h3 }

theorem laid_met (os:Os) (args:Array Value):laidMet Tryd.prog Rows.fnSettlesRow.laid ((laidWorld os).forCall (fun _ _=>0) ⟨#[],args,[]⟩).memory :=
 laidMet_of_run' 8 (by kernel_rfl) (by kernel_rfl)
theorem witness_row (os:Os) {H:Type} (enc:TypeId × Value→H) :
  (OpenSpec.ofChange Rows.fnSettlesSpec).preRow enc Tryd.prog Tryd.f10 Rows.fnSettlesRow.domain false Rows.fnSettlesRow.laid ((laidWorld os).forCall (fun _ _=>0) ⟨#[],#[.slice none 0 0,.slice none 0 0],[]⟩).memory #[.slice none 0 0,.slice none 0 0] :=
 OpenSpec.preRow_of_B rfl 8 (by kernel_rfl) (by kernel_rfl) (laid_met os _)
theorem lifted (os:Os) (started:os.Started) (H:Type) (enc:TypeId × Value→H) (F:Stop.Interp) :
  ReturnsInHanded {} Tryd.checked os 10 .any ((OpenSpec.ofChange Rows.fnSettlesSpec).preRow enc Tryd.prog Tryd.f10 Rows.fnSettlesRow.domain false Rows.fnSettlesRow.laid) (((OpenSpec.ofChange Rows.fnSettlesSpec).at F).post enc Tryd.prog Tryd.f10 false true false false):=by
 refine returnsInHanded_of_row (C:=Tryd.checked) (s:=OpenSpec.ofChange Rows.fnSettlesSpec) own started (by kernel_rfl) Tryd.func10
  (witness_row_atRef (enc:=enc) (C:=Tryd.checked) false (laidWorld os) #[.slice none 0 0,.slice none 0 0] rfl (by kernel_rfl) (by kernel_rfl) (by kernel_rfl) (witness_row os enc)) ?_
 intro W base args ds gs before hval hW _ _ _ hL hsh _
 exact contract H enc W base args ds gs before hval hW hL
theorem said:Rows.FnSettlesSaid :=
 OpenClaim.holds_of_cond 10 Tryd.f10 rfl rfl rfl rfl rfl rfl rfl ⟨rfl,rfl,rfl,rfl,rfl⟩ rfl rfl rfl rfl rfl (by kernel_rfl) Tryd.func10 (by kernel_rfl)
  (of_decide_eq_true (by kernel_rfl)) (by unfold Func.isWrapper;first | (rw [if_pos (by decide +kernel)];kernel_rfl) | (rw [if_neg (by decide +kernel)];exact ⟨rfl,rfl⟩))
  (fun os started H enc _ F=>by rw [OpenClaim.pre_eq_preRow];exact lifted os started H enc F)
theorem plain (f:FuncId) (fn:Func) (hf:Tryd.pinned.checked.prog.funcNamed "loop.example/wayboard/laws.FnSettles" = some f) (hfn:Tryd.pinned.checked.prog.funcs[f]? = some fn) :
  true=Tryd.pinned.checked.prog.looks []∧∀ (j:Nat) t,fn.params[j]? = some t→Tryd.pinned.checked.prog.wantsStandIn t=false:=by
 obtain rfl:f=10:=Option.some.inj ((show Tryd.prog.funcNamed "loop.example/wayboard/laws.FnSettles" = some 10 by kernel_rfl).symm.trans hf) |>.symm
 obtain rfl:fn=Tryd.f10:=(Option.some.inj (Tryd.func10.symm.trans hfn)).symm
 refine ⟨by kernel_rfl,fun j t ht=>?_⟩
 rw [Tryd.params10] at ht
 obtain rfl:t=22:=by simpa using Array.mem_of_getElem? ht
 exact (show Tryd.prog.wantsStandIn 22=false by kernel_rfl)
theorem card:Rows.FnSettlesCardSaid :=
 Claim7.holds_tied_plain_at .later [] _ _ _ _ said (fun _ h=>by cases h) (by kernel_rfl) (fun _ h=>by cases h) fnSettles_row_tie rfl ⟨rfl,rfl⟩ (by kernel_rfl) rfl plain (by kernel_rfl)
end Go.Proofs.YtkiaifamodjedaaDoor.cSet
end
