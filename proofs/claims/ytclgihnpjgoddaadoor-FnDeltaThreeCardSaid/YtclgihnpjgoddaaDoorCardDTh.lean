/- YtclgihnpjgoddaaDoorCardDTh: part of the proof that laws hold, for every input that the row speaks of (no condition of ours). -/
import Derived.Test.YtclgihnpjgoddaaDoorWb
import Derived.Test.YtclgihnpjgoddaaDoorWc
import Derived.Test.YtclgihnpjgoddaaDoorWa
import Derived.ChangeVars
import Derived.RowKitTokens
import Derived.Test.YtclgihnpjgoddaaDoorCards
import Derived.Test.YtclgihnpjgoddaaDoorTie
set_option linter.unusedVariables false
set_option linter.unusedSimpArgs false
section
namespace Go.Proofs.W
open Go Go.Eng Go.RowKit
set_option maxRecDepth 100000
theorem fnDelta_ok (pb:Addr):Fine Tryd.prog 6 (cLawP pb):=by
 refine fine_of (T:=TT) Tryd.func6 rfl Tryd.ntmps6 (by rw [Tryd.results6]) rfl rfl tt (gs_cons drawDeltaOf_ok gs_nil) (ds_cons (iDeltaOf_ok pb) (ds_cons sDeltaOf_ok (ds_cons lyDelta_ok (ds_cons sRoutesOk_ok (ds_cons lyRts_ok (ds_cons (iDeltaDo_ok pb) ds_nil (wp_inh pb)))))) (wp_inh pb)) ?_
 rintro args ⟨bs,hbs,rfl⟩
 refine ⟨by simp,fun k hk E hE Q hQ=>?_⟩
 refine Aw_st hE [0] [5] fun K hK=>?_
 simp only [go_sem,seval]
 refine hK _ ?_;clear hK K
 refine Aw_sq fun B1 hB1 hR1 hX1=>?_
 refine Aw_st hE [0,10] [5] fun K hK=>?_
 simp only [go_sem,seval]
 refine hK _ (Aw_cond rfl (fun hc2=>?_) (fun hc2=>?_))
 ·refine Aw_st hE [2] [5] fun K hK=>?_
  simp only [go_sem,seval]
  refine hK _ (Aw_ret (hR1 _ (hQ _ ?_)))
  simp only [go_sem,seval]
 ·refine Aw_skip (hB1 _ ?_)
  refine Aw_st hE [3,4] [5] fun K hK=>?_
  simp only [go_sem,seval]
  refine ⟨ddo_pre bs hbs,fun a b hab=>?_⟩
  obtain ⟨⟨hal,hsa⟩,hbl,hsb⟩:=hab
  have hca:=smallD_small hsa (by omega)
  have hcb:=smallD_small hsb (by omega)
  have hdl:(dropsB a b).length≤1000:=by have:=dropsB_len a b;omega
  have htl:(tellsB a b).length≤1000:=by have:=tellsB_len a b;omega
  have hts:∀ r ∈ tellsB a b,r.path.length≤1000000∧r.marks.length≤1000000:=fun r hr=>by
   have:=hsb r (tells_mem hr);omega
  refine hK _ ?_;clear hK K
  refine Aw_st hE [3,4,5] [5] fun K hK=>?_
  simp only [go_sem,seval]
  refine ⟨⟨hca,hcb⟩,?_⟩
  refine hK _ ?_;clear hK K
  refine Aw_sq fun B3 hB3 hR3 hX3=>?_
  cases hoab:(routesOk a && routesOk b) with
  | false =>
   cases hoa:routesOk a with
   | false =>
    refine Aw_sd hE [3,4,5,34] [5] 6 (by kernel_rfl) fun K hK=>?_
    simp only [go_sem,seval,hoa,decide_true,and_self]
    refine ⟨⟨hca,hcb⟩,⟨⟨hdl,htl⟩,hts⟩,hca,?_⟩
    refine hK _ (Aw_yes rfl ?_)
    refine Aw_sd hE [2] [5] 6 (by kernel_rfl) fun K hK=>?_
    simp only [go_sem,seval,decide_true,and_self]
    refine ⟨⟨hca,hcb⟩,⟨⟨hdl,htl⟩,hts⟩,?_⟩
    refine hK _ (Aw_ret (hR3 _ (hQ _ ?_)))
    simp only [go_sem,seval]
   | true =>
    have hob:routesOk b=false:=by rw [hoa] at hoab;simpa using hoab
    refine Aw_sd hE [3,4,5,34] [5] 6 (by kernel_rfl) fun K hK=>?_
    simp only [go_sem,seval,hoa,hob,decide_true,and_self]
    refine ⟨⟨hca,hcb⟩,⟨⟨hdl,htl⟩,hts⟩,hca,hcb,?_⟩
    refine hK _ (Aw_yes rfl ?_)
    refine Aw_sd hE [2] [5] 6 (by kernel_rfl) fun K hK=>?_
    simp only [go_sem,seval,decide_true,and_self]
    refine ⟨⟨hca,hcb⟩,⟨⟨hdl,htl⟩,hts⟩,?_⟩
    refine hK _ (Aw_ret (hR3 _ (hQ _ ?_)))
    simp only [go_sem,seval]
  | true =>
   simp only [Bool.and_eq_true] at hoab
   obtain ⟨hoa,hob⟩:=hoab
   have hd:=dropsK a b hoa hob
   have ht:=tellsK a b hoa hob
   have hd2:=dropsK b a hob hoa
   have ht2:=tellsK b a hob hoa
   have hdo:=delta_do hoa hob
   have hdo2:=delta_do hob hoa
   have hcT:smallL (tellsB a b):=⟨htl,fun r hr=>hcb.2 r (tells_mem hr)⟩
   have hcT2:smallL (tellsB b a):=⟨by have:=tellsB_len b a;omega,fun r hr=>hca.2 r (tells_mem hr)⟩
   have hdl2:(dropsB b a).length≤1000:=by have:=dropsB_len b a;omega
   have hsa2:∀ r ∈ a,r.path.length≤1000000∧r.marks.length≤1000000:=fun r hr=>by have:=hsa r hr;omega
   have hsb2:∀ r ∈ b,r.path.length≤1000000∧r.marks.length≤1000000:=fun r hr=>by have:=hsb r hr;omega
   refine Aw_sd hE [3,4,5,34] [5] 6 (by kernel_rfl) fun K hK=>?_
   simp only [go_sem,seval,hoa,hob,decide_true,and_self]
   refine ⟨⟨hca,hcb⟩,⟨⟨hdl,htl⟩,hts⟩,hca,hcb,?_⟩
   refine hK _ (Aw_no rfl (Aw_skip (hB3 _ ?_)))
   rw [hd] at hdl
   rw [ht] at htl hcT
   rw [hd2] at hdl2
   rw [ht2] at hcT2
   rw [hd,ht]
   refine Aw_st hE [3,4,6,7] [5] fun K hK=>?_
   simp only [go_sem,seval,hdo,resD]
   refine ⟨⟨hca,hdl,hcT⟩,?_⟩
   refine hK _ ?_;clear hK K
   refine Aw_sq fun B8 hB8 hR8 hX8=>?_
   refine Aw_st hE [3,4,6,47] [5] fun K hK=>?_
   simp only [go_sem,seval]
   refine hK _ (Aw_no rfl (Aw_skip (hB8 _ ?_)))
   refine Aw_st hE [2] [5] fun K hK=>?_
   simp only [go_sem,seval,decide_true,and_self]
   refine ⟨⟨by omega,hsb2⟩,?_⟩
   refine hK _ (Aw_ret (hQ _ ?_))
   simp only [go_sem,seval]
theorem fnDeltaThree_ok (pb:Addr):Fine Tryd.prog 8 (cLawP2 pb):=by
 refine fine_of (T:=TT) Tryd.func8 rfl Tryd.ntmps8 (by rw [Tryd.results8]) rfl rfl tt (gs_cons drawDeltaOf_ok (gs_cons drawRoutesOk_ok gs_nil)) (ds_cons (iDeltaOf_ok pb) (ds_cons sDeltaOf_ok (ds_cons lyDelta_ok (ds_cons sRoutesOk_ok (ds_cons lyRts_ok (ds_cons (iDeltaDo_ok pb) (ds_cons (iRoutesOk_ok pb) ds_nil (wp_inh pb)) (wp_inh pb)))))) (wp_inh pb)) ?_
 rintro args ⟨bs,bs2,hbs,hbs2,rfl⟩
 refine ⟨by simp,fun k hk E hE Q hQ=>?_⟩
 refine Aw_st hE [0,1] [7] fun K hK=>?_
 simp only [go_sem,seval]
 refine hK _ ?_;clear hK K
 refine Aw_sq fun B1 hB1 hR1 hX1=>?_
 refine Aw_st hE [0,1,20] [7] fun K hK=>?_
 simp only [go_sem,seval]
 refine ⟨fun hg3=>?_,fun hg3=>?_⟩
 ·refine hK _ (Aw_yes rfl ?_)
  refine Aw_st hE [4] [7] fun K hK=>?_
  simp only [go_sem,seval]
  refine hK _ (Aw_ret (hR1 _ (hQ _ ?_)))
  simp only [go_sem,seval]
 refine hK _ (Aw_cond rfl (fun hc4=>?_) (fun hc4=>?_))
 ·refine Aw_st hE [4] [7] fun K hK=>?_
  simp only [go_sem,seval]
  refine hK _ (Aw_ret (hR1 _ (hQ _ ?_)))
  simp only [go_sem,seval]
 ·refine Aw_skip (hB1 _ ?_)
  refine Aw_st hE [1,5,6] [7] fun K hK=>?_
  simp only [go_sem,seval]
  refine ⟨ddo_pre bs hbs,fun a b hab=>?_⟩
  obtain ⟨⟨hal,hsa⟩,hbl,hsb⟩:=hab
  have hca:=smallD_small hsa (by omega)
  have hcb:=smallD_small hsb (by omega)
  have hdl:(dropsB a b).length≤1000:=by have:=dropsB_len a b;omega
  have htl:(tellsB a b).length≤1000:=by have:=tellsB_len a b;omega
  have hts:∀ r ∈ tellsB a b,r.path.length≤1000000∧r.marks.length≤1000000:=fun r hr=>by
   have:=hsb r (tells_mem hr);omega
  refine hK _ ?_;clear hK K
  refine Aw_st hE [1,5,6,7] [7] fun K hK=>?_
  simp only [go_sem,seval]
  refine ⟨⟨hca,hcb⟩,?_⟩
  refine hK _ ?_;clear hK K
  refine Aw_sq fun B3 hB3 hR3 hX3=>?_
  cases hoab:(routesOk a && routesOk b) with
  | false =>
   cases hoa:routesOk a with
   | false =>
    refine Aw_sd hE [1,5,6,7,44] [7] 6 (by kernel_rfl) fun K hK=>?_
    simp only [go_sem,seval,hoa,decide_true,and_self]
    refine ⟨⟨hca,hcb⟩,⟨⟨hdl,htl⟩,hts⟩,hca,?_⟩
    refine hK _ (Aw_yes rfl ?_)
    refine Aw_sd hE [4] [7] 6 (by kernel_rfl) fun K hK=>?_
    simp only [go_sem,seval,decide_true,and_self]
    refine ⟨⟨hca,hcb⟩,⟨⟨hdl,htl⟩,hts⟩,?_⟩
    refine hK _ (Aw_ret (hR3 _ (hQ _ ?_)))
    simp only [go_sem,seval]
   | true =>
    have hob:routesOk b=false:=by rw [hoa] at hoab;simpa using hoab
    refine Aw_sd hE [1,5,6,7,44] [7] 6 (by kernel_rfl) fun K hK=>?_
    simp only [go_sem,seval,hoa,hob,decide_true,and_self]
    refine ⟨⟨hca,hcb⟩,⟨⟨hdl,htl⟩,hts⟩,hca,hcb,?_⟩
    refine hK _ (Aw_yes rfl ?_)
    refine Aw_sd hE [4] [7] 6 (by kernel_rfl) fun K hK=>?_
    simp only [go_sem,seval,decide_true,and_self]
    refine ⟨⟨hca,hcb⟩,⟨⟨hdl,htl⟩,hts⟩,?_⟩
    refine hK _ (Aw_ret (hR3 _ (hQ _ ?_)))
    simp only [go_sem,seval]
  | true =>
   simp only [Bool.and_eq_true] at hoab
   obtain ⟨hoa,hob⟩:=hoab
   have hd:=dropsK a b hoa hob
   have ht:=tellsK a b hoa hob
   have hd2:=dropsK b a hob hoa
   have ht2:=tellsK b a hob hoa
   have hdo:=delta_do hoa hob
   have hdo2:=delta_do hob hoa
   have hcT:smallL (tellsB a b):=⟨htl,fun r hr=>hcb.2 r (tells_mem hr)⟩
   have hcT2:smallL (tellsB b a):=⟨by have:=tellsB_len b a;omega,fun r hr=>hca.2 r (tells_mem hr)⟩
   have hdl2:(dropsB b a).length≤1000:=by have:=dropsB_len b a;omega
   have hsa2:∀ r ∈ a,r.path.length≤1000000∧r.marks.length≤1000000:=fun r hr=>by have:=hsa r hr;omega
   have hsb2:∀ r ∈ b,r.path.length≤1000000∧r.marks.length≤1000000:=fun r hr=>by have:=hsb r hr;omega
   refine Aw_sd hE [1,5,6,7,44] [7] 6 (by kernel_rfl) fun K hK=>?_
   simp only [go_sem,seval,hoa,hob,decide_true,and_self]
   refine ⟨⟨hca,hcb⟩,⟨⟨hdl,htl⟩,hts⟩,hca,hcb,?_⟩
   refine hK _ (Aw_no rfl (Aw_skip (hB3 _ ?_)))
   rw [hd] at hdl
   rw [ht] at htl hcT
   rw [hd2] at hdl2
   rw [ht2] at hcT2
   rw [hd,ht]
   refine Aw_st hE [5,6,8] [7] fun K hK=>?_
   simp only [go_sem,seval]
   refine ⟨dro_pre bs2 hbs2,fun c hc=>?_⟩
   obtain ⟨hcl,hsc⟩:=hc
   have hcc:=smallD_small hsc (by omega)
   refine hK _ ?_;clear hK K
   refine Aw_sq fun B8 hB8 hR8 hX8=>?_
   cases hoc:routesOk c with
   | false =>
    refine Aw_st hE [5,6,8,54] [7] fun K hK=>?_
    simp only [go_sem,seval,hoc]
    refine ⟨hcc,?_⟩
    refine hK _ (Aw_yes rfl ?_)
    refine Aw_st hE [4] [7] fun K hK=>?_
    simp only [go_sem,seval]
    refine hK _ (Aw_ret (hR8 _ (hQ _ ?_)))
    simp only [go_sem,seval]
   | true =>
    have hd3:=dropsK a c hoa hoc
    have ht3:=tellsK a c hoa hoc
    have hd4:=dropsK c b hoc hob
    have ht4:=tellsK c b hoc hob
    have hdo3:=delta_do hoa hoc
    have hdo4:=delta_do hoc hob
    have hcT3:smallL (tellsB a c):=⟨by have:=tellsB_len a c;omega,fun r hr=>hcc.2 r (tells_mem hr)⟩
    have hcT4:smallL (tellsB c b):=⟨by have:=tellsB_len c b;omega,fun r hr=>hcb.2 r (tells_mem hr)⟩
    have hdl3:(dropsB a c).length≤1000:=by have:=dropsB_len a c;omega
    have hdl4:(dropsB c b).length≤1000:=by have:=dropsB_len c b;omega
    rw [hd3] at hdl3
    rw [hd4] at hdl4
    rw [ht3] at hcT3
    rw [ht4] at hcT4
    refine Aw_st hE [5,6,8,54] [7] fun K hK=>?_
    simp only [go_sem,seval,hoc]
    refine ⟨hcc,?_⟩
    refine hK _ (Aw_no rfl (Aw_skip (hB8 _ ?_)))
    refine Aw_st hE [5,6,8,9,10] [7] fun K hK=>?_
    simp only [go_sem,seval,hd3,ht3,hdo3,resD]
    refine ⟨⟨hca,hcc⟩,⟨hca,hdl3,hcT3⟩,?_⟩
    refine hK _ ?_;clear hK K
    refine Aw_sq fun B9 hB9 hR9 hX9=>?_
    refine Aw_st hE [5,6,8,9,64] [7] fun K hK=>?_
    simp only [go_sem,seval]
    refine hK _ (Aw_no rfl (Aw_skip (hB9 _ ?_)))
    refine Aw_st hE [6,8,11,12] [7] fun K hK=>?_
    simp only [go_sem,seval,hd4,ht4,hdo4,resD]
    refine ⟨⟨hcc,hcb⟩,⟨hcc,hdl4,hcT4⟩,?_⟩
    refine hK _ ?_;clear hK K
    refine Aw_st hE [4] [7] fun K hK=>?_
    simp only [go_sem,seval,decide_true,and_self]
    refine ⟨⟨by omega,hsb2⟩,?_⟩
    refine hK _ (Aw_ret (hQ _ ?_))
    simp only [go_sem,seval]
end Go.Proofs.W
end
section
namespace Go.Proofs.YtclgihnpjgoddaaDoor.cDTh
open Go Go.Eng Go.RowKit Go.WideShapes Go.ChangeShapes Go.ChangeAt Go.Proofs.W
set_option maxRecDepth 100000
theorem own:ownKnob Tryd.prog.godebug=none:=by kernel_rfl
theorem star : "*"++ "errors.errorString" = "*errors.errorString" := by decide
theorem rowE (u:TypeId) (h:Tryd.prog.typeName? 3 u=some "*errors.errorString"):u=106 :=
 typeName_ptr_named (nm := "errors.errorString") (by rw [star];kernel_rfl) (by kernel_rfl) (by decide) u (by rw [star];exact h)
theorem gE:Tryd.prog.globalNamed "loop.example/wayboard/impl.errPath" = some 0:=by kernel_rfl
theorem gEType:(Tryd.prog.globals[0]?).map (·.type)=some 89:=by kernel_rfl
theorem w_of {W:World} (h:laidMet Tryd.prog Rows.fnDeltaThreeRow.laid W):∃ pb,WP pb W∧W.var? Tryd.prog "loop.example/wayboard/impl.errPath" = some #[errV pb]:=by
 have h0:=h
 have h1:=laidMet.tail h0
 have h2:=laidMet.tail h1
 have h3:=laidMet.tail h2
 obtain ⟨a0,s0,hv0,hc0,hs0,hz0⟩:=laid_sentinel h3 gE gEType Tryd.underlying89 rowE Tryd.underlying106 Tryd.underlying108 rfl rfl Tryd.underlying9 (by kernel_rfl) (by kernel_rfl)
 refine ⟨a0,⟨⟨?_⟩,?_⟩,hv0⟩
 ·exact Lib.tabIs_of_head (g:=1) (by kernel_rfl) (by kernel_rfl) Tryd.underlying127 Tryd.underlying121 (by kernel_rfl) (by kernel_rfl) h2
 ·simpa using World.var?_cell gE hv0 0
theorem contract (H:Type) (enc:TypeId × Value→H) (W:World) (base:Nat) (args:Array Value) (ds gs:List (DataW H)) (before:List MemPlace)
  (hval:∀ (j:Nat) t v,Tryd.f8.params[j]? = some t→args[j]? = some v→Value.okWide Tryd.prog W .any base t v)
  (hW:DataW.Whole enc Tryd.prog Tryd.f8.params.toList Rows.fnDeltaThreeSpec.vars false W args.toList ds gs before) (hL:laidMetH Tryd.prog Rows.fnDeltaThreeRow.laid W) :
  Calls Tryd.prog 8 args W fun e W'=>∃ v,e = .returned v∧Rows.fnDeltaThreeSpec.post enc Tryd.prog Tryd.f8 false true false false W args v W':=by
 have hW':=hW
 obtain ⟨p,q,hA0,hV0,rfl,hfz,hnd⟩:=hW
 have hA:DataW.TrodAll enc Tryd.prog W 0 (fun _=>true) true Tryd.f8.params.toList args.toList ds p:=hA0
 have hV:DataW.TrodVars enc Tryd.prog W (fun _=>true) ["loop.example/wayboard/impl.errPath"] gs q:=hV0
 rw [Tryd.params8] at hA hval
 obtain ⟨v0,vs0,d0,ds0,p0,q0,hargs,rfl,rfl,hd0,r0⟩:=trodAll_cons hA
 obtain ⟨v1,vs1,d1,ds1,p1,q1,rfl,rfl,rfl,hd1,r1⟩:=trodAll_cons r0
 obtain ⟨rfl,rfl,rfl⟩:=trodAll_nil r1
 obtain rfl:args = #[v0,v1]:=by cases args;simp_all
 obtain ⟨pb,hwp,hv0⟩:=w_of hL
 obtain ⟨rfl,rfl⟩:=hV.unique (vars_read1 enc gE gEType Tryd.underlying89 hv0 trivial _)
 obtain ⟨hin0,hback0⟩:=open_arg (hval 0 22 v0 rfl rfl) hd0
 obtain ⟨hin1,hback1⟩:=open_arg (hval 1 22 v1 rfl rfl) hd1
 clear hA0 hV0
 simp only [List.append_nil] at hW'
 refine (law_callsP2 (fnDeltaThree_ok pb) W hwp v0 v1 hin0 hin1).mono fun e W' ⟨he,hb⟩=>?_
 subst he
 have hv1:W'.var? Tryd.prog "loop.example/wayboard/impl.errPath" = some #[errV pb]:=var_below' hv0 gE hb
 exact ⟨_,rfl,post_below (pa:=p0++(p1++[])) (pv:=[.cell 0 0]) hW' (fun _ _ _=>trodAll_cons_mk (shut_bool Tryd.underlying4 _) trodAll_mk0) (fun sp hsp=>trodAll_cons_mk (hback0 W' hb sp (fun x hx=>hsp x (by simp only [List.mem_append];simp [hx]))) (trodAll_cons_mk (hback1 W' hb sp (fun x hx=>hsp x (by simp only [List.mem_append];simp [hx]))) trodAll_mk0)) (fun sp _=>vars_read1 enc gE gEType Tryd.underlying89 hv1 trivial sp) (by simp)
  hb (ok_one (by kernel_rfl) rfl (okWide_bool_mk Tryd.underlying4 _))⟩
noncomputable def laidWorld (os : Os) : World :=
  let N := (World.settled Tryd.prog os).heap.size
  let w0 := World.holding Tryd.prog os ⟨#[.cells #[.string ⟨#[110, 111, 116, 32, 97, 32, 112, 97, 116, 104]⟩] 108], #[], []⟩
  let put (h : Array Obj) (g : Nat) (cs : Array Value) : Array Obj := h.modify g fun
    | .cells _ t frozen => .cells cs t frozen
    | o => o
  let cellsOf : DataW Unit → Array Value := fun d => match d with
    | .agg ds => (ds.map fun x => match x with | .lit (.int k n) => Value.int k n | _ => .bool false).toArray
    | _ => #[]
  let h0 := put w0.heap 2 (cellsOf Rows.laid_math_bits_deBruijn32tab)
  let h1 := put h0 3 (cellsOf Rows.laid_math_bits_deBruijn64tab)
  let h2 := put h1 1 (cellsOf Rows.laid_internal_strconv_uint64pow10)
  let h3 := put h2 0 #[.iface 106 (.pointer (some ⟨N + 0, 0, none⟩))]
  { w0 with heap := h3 }

theorem laid_met (os:Os) (args:Array Value):laidMet Tryd.prog Rows.fnDeltaThreeRow.laid ((laidWorld os).forCall (fun _ _=>0) ⟨#[],args,[]⟩).memory :=
 laidMet_of_run' 8 (by kernel_rfl) (by kernel_rfl)
theorem witness_row (os:Os) {H:Type} (enc:TypeId × Value→H) :
  (OpenSpec.ofChange Rows.fnDeltaThreeSpec).preRow enc Tryd.prog Tryd.f8 Rows.fnDeltaThreeRow.domain false Rows.fnDeltaThreeRow.laid ((laidWorld os).forCall (fun _ _=>0) ⟨#[],#[.slice none 0 0,.slice none 0 0],[]⟩).memory #[.slice none 0 0,.slice none 0 0] :=
 OpenSpec.preRow_of_B rfl 8 (by kernel_rfl) (by kernel_rfl) (laid_met os _)
theorem lifted (os:Os) (started:os.Started) (H:Type) (enc:TypeId × Value→H) (F:Stop.Interp) :
  ReturnsInHanded {} Tryd.checked os 8 .any ((OpenSpec.ofChange Rows.fnDeltaThreeSpec).preRow enc Tryd.prog Tryd.f8 Rows.fnDeltaThreeRow.domain false Rows.fnDeltaThreeRow.laid) (((OpenSpec.ofChange Rows.fnDeltaThreeSpec).at F).post enc Tryd.prog Tryd.f8 false true false false):=by
 refine returnsInHanded_of_row (C:=Tryd.checked) (s:=OpenSpec.ofChange Rows.fnDeltaThreeSpec) own started (by kernel_rfl) Tryd.func8
  (witness_row_atRef (enc:=enc) (C:=Tryd.checked) false (laidWorld os) #[.slice none 0 0,.slice none 0 0] rfl (by kernel_rfl) (by kernel_rfl) (by kernel_rfl) (witness_row os enc)) ?_
 intro W base args ds gs before hval hW _ _ _ hL hsh _
 exact contract H enc W base args ds gs before hval hW hL
theorem said:Rows.FnDeltaThreeSaid :=
 OpenClaim.holds_of_cond 8 Tryd.f8 rfl rfl rfl rfl rfl rfl rfl ⟨rfl,rfl,rfl,rfl,rfl⟩ rfl rfl rfl rfl rfl (by kernel_rfl) Tryd.func8 (by kernel_rfl)
  (of_decide_eq_true (by kernel_rfl)) (by unfold Func.isWrapper;first | (rw [if_pos (by decide +kernel)];kernel_rfl) | (rw [if_neg (by decide +kernel)];exact ⟨rfl,rfl⟩))
  (fun os started H enc _ F=>by rw [OpenClaim.pre_eq_preRow];exact lifted os started H enc F)
theorem plain (f:FuncId) (fn:Func) (hf:Tryd.pinned.checked.prog.funcNamed "loop.example/wayboard/laws.FnDeltaThree" = some f) (hfn:Tryd.pinned.checked.prog.funcs[f]? = some fn) :
  true=Tryd.pinned.checked.prog.looks []∧∀ (j:Nat) t,fn.params[j]? = some t→Tryd.pinned.checked.prog.wantsStandIn t=false:=by
 obtain rfl:f=8:=Option.some.inj ((show Tryd.prog.funcNamed "loop.example/wayboard/laws.FnDeltaThree" = some 8 by kernel_rfl).symm.trans hf) |>.symm
 obtain rfl:fn=Tryd.f8:=(Option.some.inj (Tryd.func8.symm.trans hfn)).symm
 refine ⟨by kernel_rfl,fun j t ht=>?_⟩
 rw [Tryd.params8] at ht
 obtain rfl:t=22:=by simpa using Array.mem_of_getElem? ht
 exact (show Tryd.prog.wantsStandIn 22=false by kernel_rfl)
theorem card:Rows.FnDeltaThreeCardSaid :=
 Claim7.holds_tied_plain_at .later [] _ _ _ _ said (fun _ h=>by cases h) (by kernel_rfl) (fun _ h=>by cases h) fnDeltaThree_row_tie rfl ⟨rfl,rfl⟩ (by kernel_rfl) rfl plain (by kernel_rfl)
end Go.Proofs.YtclgihnpjgoddaaDoor.cDTh
end
