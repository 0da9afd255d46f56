/- YtpgilgnkiceggaaGreatDoorCardTw: part of the proof that laws hold, for every input that the row speaks of (no condition of ours). -/
import Derived.Test.YtpgilgnkiceggaaGreatDoorWf
import Derived.Test.YtpgilgnkiceggaaGreatDoorWa
import Derived.Test.YtpgilgnkiceggaaGreatDoorWe
import Derived.ChangeVars
import Derived.RowKitTokens
import Derived.Test.YtpgilgnkiceggaaGreatDoorCards
import Derived.Test.YtpgilgnkiceggaaGreatDoorTie
set_option linter.unusedVariables false
set_option linter.unusedSimpArgs false
section
namespace Go.Proofs.W
open Go Go.Eng Go.RowKit
set_option linter.unusedSimpArgs false
set_option maxRecDepth 100000
theorem okR_like {f b k k':Int} {p m:List Int} (h:okR ⟨f,b,p,k,m⟩=true) (h0:0≤k') (h9:k'≤9):okR ⟨f,b,p,k',m⟩=true:=by
 simp only [okR,rtOk,Bool.and_eq_true,decide_eq_true_eq] at h ⊢
 exact ⟨h.1,h.2.1,h.2.2.1,h0,h9,h.2.2.2.2.2⟩
theorem okR_lk {f b k:Int} {p m:List Int} (h:okR ⟨f,b,p,k,m⟩=true):0≤k∧k≤9:=by
 simp only [okR,rtOk,Bool.and_eq_true,decide_eq_true_eq] at h
 exact ⟨h.2.2.2.1,h.2.2.2.2.1⟩
/-- what is told twice,and what is told in the other order -/
theorem tel_tel {h:Int} {l:List Gt} {x q:Rt} (hok:ribOk ⟨h,true,l⟩=true) (hx:okR x=true) (hh:x.path.head? = some h) (hr:0≤atG l x.f x.b∨l.length < 6) (hq:okR q=true) (hqh:q.path.head? = some h) (hf:q.f=x.f) (hb:q.b=x.b) :
  telR ⟨h,true,put x l⟩ q = .tup [.agg [iv h,bv true,.sl none (grows (put q l))],bv true]∧telR ⟨h,true,l⟩ q = .tup [.agg [iv h,bv true,.sl none (grows (put q l))],bv true]:=by
 have hp:=(ribOk_iff.1 hok).2.2.2
 have hok1:=put_ok hok hx hh hr
 constructor
 ·rw [telR_res,tel_some hok1 hq hqh,if_pos ⟨rfl,.inl ((had_put hp).2 (.inl ⟨hf.symm,hb.symm⟩))⟩,put_put hp hf hb];rfl
 ·rw [telR_res,tel_some hok hq hqh,if_pos ⟨rfl,by rw [hf,hb];exact hr⟩];rfl
theorem tel_swap {h:Int} {l:List Gt} {x o:Rt} (hp:l.Pairwise ltG) (hne:¬ (o.f=x.f∧o.b=x.b)) {h3 h4 h5:Int} {u3 u4 u5:Bool} {l3 l4 l5:List Gt} (h1:telO ⟨h,true,put x l⟩ o=some (⟨h3,u3,l3⟩,true)) (h2:telO ⟨h,true,l⟩ o=some (⟨h4,u4,l4⟩,true)) (h6:telO ⟨h4,u4,l4⟩ x=some (⟨h5,u5,l5⟩,true)):h3=h5∧u3=u5∧l3=l5:=by
 obtain ⟨_,_,_,_,_,rfl,rfl,rfl⟩:=tel_true h1
 obtain ⟨_,_,_,_,_,rfl,rfl,rfl⟩:=tel_true h2
 obtain ⟨_,_,_,_,_,rfl,rfl,rfl⟩:=tel_true h6
 exact ⟨rfl,rfl,put_swap hp hne⟩
set_option maxHeartbeats 4000000 in
theorem fnTellTwice_ok (pb:Addr):Fine Tryz.prog 3 (cLawH2 pb):=by
 refine fine_of (T:=TT) Tryz.func3 rfl Tryz.ntmps3 (by rw [Tryz.results3]) rfl rfl tt (gs_cons drawRibTell_ok (gs_cons lyRange_ok gs_nil)) (ds_cons ribTell_ok (ds_cons (iRibTell_ok pb) (ds_cons lyRib_ok ds_nil) (wh_inh pb))) ?_
 rintro args ⟨bs,bs2,hbs,hbs2,rfl⟩
 refine ⟨by simp,fun k hk E hE Q hQ=>?_⟩
 refine Aw_st hE [0,1] [] fun K hK=>?_
 simp only [go_sem,seval]
 refine hK _ ?_;clear hK K
 refine Aw_sq fun B1 hB1 hR1 hX1=>?_
 refine Aw_st hE [0,1,30] [] fun K hK=>?_
 simp only [go_sem,seval]
 refine ⟨fun hg3=>?_,fun hg3=>?_⟩
 ·refine hK _ (Aw_yes rfl ?_)
  refine Aw_st hE [4] [] fun K hK=>?_
  simp only [go_sem,seval]
  refine hK _ (Aw_ret (hR1 _ (hQ _ ?_)))
  simp only [go_sem,seval]
 repeat refine ⟨by first|omega|(and_intros<;>first|omega|exact rows_row _|decide|(simp<;>omega))|fail,?_⟩
 refine hK _ (Aw_cond rfl (fun hc4=>?_) (fun hc4=>?_))
 ·refine Aw_st hE [4] [] fun K hK=>?_
  simp only [go_sem,seval]
  refine hK _ (Aw_ret (hR1 _ (hQ _ ?_)))
  simp only [go_sem,seval]
 simp only [decide_eq_false_iff_not] at hc4
 obtain ⟨n2,hn2⟩:∃ n2:Int,n2=((byteRows bs2).length:Int):=⟨_,rfl⟩
 have hm3:((byteRows bs2).length:Int).tmod 3=n2 % 3:=by rw [hn2];exact Int.tmod_eq_emod_of_nonneg (by omega)
 refine Aw_skip (hB1 _ ?_)
 refine Aw_st hE [1,5,6] [5,6] fun K hK=>?_
 simp only [go_sem,seval]
 refine ⟨drt_pre bs hbs,fun b x hb hx=>?_⟩
 obtain ⟨h0,up,l⟩:=b
 obtain ⟨rf,rb,p,rk,m⟩:=x
 obtain ⟨hb1,hlg⟩:=hb
 simp only at hb1 hlg hx
 obtain ⟨h1,u1,l1,o1,hres,⟨hlg1,hll1⟩,hz⟩:=resT_tel (h0:=h0) (up:=up) (l:=l) (x:=⟨rf,rb,p,rk,m⟩) hlg (by simp only;omega)
 have hrk:=eqGs_refl l1
 refine hK _ ?_;clear hK K
 refine Aw_st hE [1,5,6,7,8] [5,6,7] fun K hK=>?_
 simp only [go_sem,seval,hres]
 refine ⟨⟨⟨by omega,hlg⟩,by omega,by omega⟩,?_⟩
 refine hK _ ?_;clear hK K
 refine Aw_st hE [1,5,6,7,8,9,10] [5,6,7,9] fun K hK=>?_
 simp only [go_sem,seval,hres]
 refine ⟨⟨⟨by omega,hlg⟩,by omega,by omega⟩,?_⟩
 refine hK _ ?_;clear hK K
 refine Aw_sq fun B5 hB5 hR5 hX5=>?_
 cases o1 with
 | false =>
  refine Aw_st hE [1,5,6,7,8,9,10,60] [5,6,7,9] fun K hK=>?_
  simp only [go_sem,seval,bne_self_eq_false,beq_self_eq_true,hrk,and_self,decide_true,Bool.and_self,Bool.not_true,Bool.not_false]
  repeat (refine And.intro (by first | omega | assumption | (and_intros<;>first | omega | assumption | decide) | fail) ?_)
  refine hK _ (Aw_yes rfl ?_)
  refine Aw_st hE [4] [] fun K hK=>?_
  simp only [go_sem,seval,bne_self_eq_false,beq_self_eq_true,hrk,and_self,decide_true,Bool.and_self]
  repeat (refine And.intro (by first | omega | assumption | (and_intros<;>first | omega | assumption | decide) | fail) ?_)
  refine hK _ (Aw_ret (hR5 _ (hQ _ ?_)))
  simp only [go_sem,seval]
 | true =>
 refine Aw_st hE [1,5,6,7,8,9,10,60] [5,6,7,9] fun K hK=>?_
 simp only [go_sem,seval,bne_self_eq_false,beq_self_eq_true,hrk,and_self,decide_true,Bool.and_self,Bool.not_true,Bool.not_false]
 repeat (refine And.intro (by first | omega | assumption | (and_intros<;>first | omega | assumption | decide) | fail) ?_)
 refine hK _ (Aw_no rfl (Aw_skip (hB5 _ ?_)))
 rcases hz with hz | ⟨_,_,_,_,hz⟩
 rotate_left
 ·cases hz
 obtain ⟨hok,hok2,hh,rfl,hr,rfl,rfl,rfl⟩:=tel_true hz
 have hp:=(ribOk_iff.1 hok).2.2.2
 have hkk:=okR_lk hok2
 refine Aw_st hE [1,5,6,9,11] [5,6,9,11] fun K hK=>?_
 simp only [go_sem,seval]
 refine hK _ ?_;clear hK K
 have hm10:(rk + 1 + n2 % 3).tmod 10=(rk + 1 + n2 % 3) % 10:=Int.tmod_eq_emod_of_nonneg (by omega)
 refine Aw_st hE [1,5,6,9,11] [5,6,9,11] fun K hK=>?_
 simp only [go_sem,seval,hm3,hm10]
 repeat (refine And.intro (by first | omega | assumption | (and_intros<;>first | omega | assumption | decide) | fail) ?_)
 refine hK _ ?_;clear hK K
 have hq:=okR_like hok2 (k':=(rk + 1 + n2 % 3) % 10) (by omega) (by omega)
 obtain ⟨hy,hzz⟩:=tel_tel hok hok2 hh hr hq hh rfl rfl
 have hlq:=put_lens (x:=⟨rf,rb,p,(rk + 1 + n2 % 3) % 10,m⟩) hp hlg (by simp only;omega)
 have hlq2:(put ⟨rf,rb,p,(rk + 1 + n2 % 3) % 10,m⟩ l).length≤1000:=by rw [put_len];split<;>omega
 have hrq:=eqGs_refl (put ⟨rf,rb,p,(rk + 1 + n2 % 3) % 10,m⟩ l)
 simp only at hr hlq
 generalize put ⟨rf,rb,p,(rk + 1 + n2 % 3) % 10,m⟩ l=L at *
 refine Aw_st hE [1,5,6,9,11,12,13] [5,6,9,11,12] fun K hK=>?_
 simp only [go_sem,seval,hy]
 repeat (refine And.intro (by first | omega | assumption | (and_intros<;>first | omega | assumption | decide) | fail) ?_)
 refine hK _ ?_;clear hK K
 refine Aw_st hE [1,5,6,9,12,13,14,15] [5,6,9,12,14] fun K hK=>?_
 simp only [go_sem,seval,hzz]
 repeat (refine And.intro (by first | omega | assumption | (and_intros<;>first | omega | assumption | decide) | fail) ?_)
 refine hK _ ?_;clear hK K
 refine Aw_st hE [1,5,6,9,12,13,14,15,16] [5,6,9,12,14,16] fun K hK=>?_
 simp only [go_sem,seval]
 refine hK _ ?_;clear hK K
 refine Aw_st hE [5,6,9,12,13,14,15,16] [5,6,9,12,14,16] fun K hK=>?_
 simp only [go_sem,seval]
 repeat (refine And.intro (by first | omega | assumption | (and_intros<;>first | omega | assumption | decide) | fail) ?_)
 repeat' (first | (refine And.intro (by first | omega | decide) ?_) | intro)
 rename_i f2 b2
 refine hK _ ?_;clear hK K
 obtain ⟨h3,u3,l3,o3,hres3,⟨hlg3,hll3⟩,hz3⟩:=resT_tel (h0:=h1) (up:=true) (l:=put ⟨rf,rb,p,rk,m⟩ l) (x:=⟨f2,b2,p,rk,m⟩) hlg1 (by simp only;omega)
 refine Aw_st hE [5,6,12,13,14,15,16,17,18] [5,6,12,14,16,17] fun K hK=>?_
 simp only [go_sem,seval,hres3]
 repeat (refine And.intro (by first | omega | assumption | (and_intros<;>first | omega | assumption | decide) | fail) ?_)
 refine hK _ ?_;clear hK K
 obtain ⟨h4,u4,l4,o4,hres4,⟨hlg4,hll4⟩,hz4⟩:=resT_tel (h0:=h1) (up:=true) (l:=l) (x:=⟨f2,b2,p,rk,m⟩) hlg (by simp only;omega)
 refine Aw_st hE [6,12,13,14,15,16,17,18,19,20] [6,12,14,16,17,19] fun K hK=>?_
 simp only [go_sem,seval,hres4]
 repeat (refine And.intro (by first | omega | assumption | (and_intros<;>first | omega | assumption | decide) | fail) ?_)
 refine hK _ ?_;clear hK K
 obtain ⟨h5,u5,l5,o5,hres5,⟨hlg5,hll5⟩,hz5⟩:=resT_tel (h0:=h4) (up:=u4) (l:=l4) (x:=⟨rf,rb,p,rk,m⟩) hlg4 (by simp only;omega)
 refine Aw_st hE [6,12,13,14,15,16,17,18,20,21,22] [6,12,14,16,17,21] fun K hK=>?_
 simp only [go_sem,seval,hres5]
 repeat (refine And.intro (by first | omega | assumption | (and_intros<;>first | omega | assumption | decide) | fail) ?_)
 refine hK _ ?_;clear hK K
 cases o3 with
 | false =>
  refine Aw_st hE [4] [] fun K hK=>?_
  simp only [go_sem,seval,hrq,and_self,decide_true,Bool.and_self,Bool.not_false,Bool.not_true]
  repeat (refine And.intro (by first | omega | assumption | (and_intros<;>first | omega | assumption | decide) | fail) ?_)
  refine hK _ (Aw_ret (hQ _ ?_))
  simp only [go_sem,seval]
 | true =>
 cases o4 with
 | false =>
  refine Aw_st hE [4] [] fun K hK=>?_
  simp only [go_sem,seval,hrq,and_self,decide_true,Bool.and_self,Bool.not_false,Bool.not_true]
  repeat (refine And.intro (by first | omega | assumption | (and_intros<;>first | omega | assumption | decide) | fail) ?_)
  refine hK _ (Aw_ret (hQ _ ?_))
  simp only [go_sem,seval]
 | true =>
 cases o5 with
 | false =>
  refine Aw_st hE [4] [] fun K hK=>?_
  simp only [go_sem,seval,hrq,and_self,decide_true,Bool.and_self,Bool.not_false,Bool.not_true]
  repeat (refine And.intro (by first | omega | assumption | (and_intros<;>first | omega | assumption | decide) | fail) ?_)
  refine hK _ (Aw_ret (hQ _ ?_))
  simp only [go_sem,seval]
 | true =>
 cases he:(f2 == rf && b2 == rb) with
 | true =>
  refine Aw_st hE [4] [] fun K hK=>?_
  simp only [go_sem,seval,hrq,he,and_self,decide_true,Bool.and_self,Bool.not_false,Bool.not_true]
  repeat (refine And.intro (by first | omega | assumption | (and_intros<;>first | omega | assumption | decide) | fail) ?_)
  refine hK _ (Aw_ret (hQ _ ?_))
  simp only [go_sem,seval]
 | false =>
  rcases hz3 with hz3 | ⟨_,_,_,_,e⟩
  rotate_left
  ·cases e
  rcases hz4 with hz4 | ⟨_,_,_,_,e⟩
  rotate_left
  ·cases e
  rcases hz5 with hz5 | ⟨_,_,_,_,e⟩
  rotate_left
  ·cases e
  obtain ⟨rfl,rfl,rfl⟩:=tel_swap hp (by simpa using he) hz3 hz4 hz5
  have hr5:=eqGs_refl l3
  refine Aw_st hE [4] [] fun K hK=>?_
  simp only [go_sem,seval,hrq,hr5,he,and_self,decide_true,Bool.and_self,Bool.not_false,Bool.not_true]
  repeat (refine And.intro (by first | omega | assumption | (and_intros<;>first | omega | assumption | decide) | fail) ?_)
  refine hK _ (Aw_ret (hQ _ ?_))
  simp only [go_sem,seval]
end Go.Proofs.W
end
section
namespace Go.Proofs.YtpgilgnkiceggaaGreatDoor.cTw
open Go Go.Eng Go.RowKit Go.WideShapes Go.ChangeShapes Go.ChangeAt Go.Proofs.W
set_option maxRecDepth 100000
theorem own:ownKnob Tryz.prog.godebug=none:=by kernel_rfl
theorem star : "*"++ "errors.errorString" = "*errors.errorString" := by decide
theorem rowE (u:TypeId) (h:Tryz.prog.typeName? 3 u=some "*errors.errorString"):u=139 :=
 typeName_ptr_named (nm := "errors.errorString") (by rw [star];kernel_rfl) (by kernel_rfl) (by decide) u (by rw [star];exact h)
theorem gE:Tryz.prog.globalNamed "loop.example/wayboard/impl.errPath" = some 0:=by kernel_rfl
theorem gEType:(Tryz.prog.globals[0]?).map (·.type)=some 66:=by kernel_rfl
theorem gT:Tryz.prog.globalNamed "errors.errorType" = some 1:=by kernel_rfl
theorem rtT:(Tryz.prog.cutTypes.find? (·.1 == "internal/reflectlite.rtype")).map (·.2)=some 124:=by kernel_rfl
theorem oneRow:((List.range 187).filter fun t=>Tryz.prog.rowNamed t [101,114,114,111,114])=[66]:=by kernel_rfl
theorem tsize:Tryz.prog.types.size=187:=by kernel_rfl
theorem w_of {W:World} (h:laidMetH Tryz.prog Rows.fnTellTwiceRow.laid W):∃ pb,WH pb W∧W.var? Tryz.prog "loop.example/wayboard/impl.errPath" = some #[errV pb]:=by
 obtain ⟨h0,hh⟩:=(h:laidMet Tryz.prog [("math/bits.deBruijn32tab",Rows.laid_math_bits_deBruijn32tab),("math/bits.deBruijn64tab",Rows.laid_math_bits_deBruijn64tab),("internal/strconv.uint64pow10",Rows.laid_internal_strconv_uint64pow10),("loop.example/wayboard/impl.errPath",Rows.laid_loop_example_wayboard_impl_errPath)] W∧handlesMet Tryz.prog [("errors.errorType",Rows.laid_errors_errorType)] W)
 have h1:=laidMet.tail h0
 have h2:=laidMet.tail h1
 have h3:=laidMet.tail h2
 obtain ⟨a0,s0,hv0,hc0,hs0,hz0⟩:=laid_sentinel h3 gE gEType Tryz.underlying66 rowE Tryz.underlying139 Tryz.underlying141 rfl rfl Tryz.underlying9 (by kernel_rfl) (by kernel_rfl)
 refine ⟨a0,⟨⟨⟨?_⟩,?_⟩,?_⟩,hv0⟩
 ·exact Lib.tabIs_of_head (g:=2) (by kernel_rfl) (by kernel_rfl) Tryz.underlying152 Tryz.underlying146 (by kernel_rfl) (by kernel_rfl) h2
 ·simpa using World.var?_cell gE hv0 0
 ·obtain ⟨name,u,ty,e1,e2,e3,e4,e5⟩:=hh _ (List.mem_singleton.2 rfl)
  have en:name=[101,114,114,111,114]:=(Option.some.inj e1).symm
  subst en
  obtain rfl:=Option.some.inj (rtT.symm.trans e2)
  have hm:ty ∈ (List.range 187).filter fun t=>Tryz.prog.rowNamed t [101,114,114,111,114]:=List.mem_filter.2 ⟨List.mem_range.2 (by rw [← tsize];exact e3),e4⟩
  rw [oneRow] at hm
  obtain rfl:=List.mem_singleton.1 hm
  have hx:typeHandle Tryz.prog 66 = .pointer (some ⟨5,66,none⟩):=by kernel_rfl
  rw [hx] at e5
  unfold hdl
  simpa using World.var?_cell gT e5 0
theorem contract (H:Type) (enc:TypeId × Value→H) (W:World) (base:Nat) (args:Array Value) (ds gs:List (DataW H)) (before:List MemPlace)
  (hval:∀ (j:Nat) t v,Tryz.f3.params[j]? = some t→args[j]? = some v→Value.okWide Tryz.prog W .any base t v)
  (hW:DataW.Whole enc Tryz.prog Tryz.f3.params.toList Rows.fnTellTwiceSpec.vars false W args.toList ds gs before) (hL:laidMetH Tryz.prog Rows.fnTellTwiceRow.laid W) :
  Calls Tryz.prog 3 args W fun e W'=>∃ v,e = .returned v∧Rows.fnTellTwiceSpec.post enc Tryz.prog Tryz.f3 false true false false W args v W':=by
 have hW':=hW
 obtain ⟨p,q,hA0,hV0,rfl,hfz,hnd⟩:=hW
 have hA:DataW.TrodAll enc Tryz.prog W 0 (fun _=>true) true Tryz.f3.params.toList args.toList ds p:=hA0
 have hV:DataW.TrodVars enc Tryz.prog W (fun _=>true) ["loop.example/wayboard/impl.errPath"] gs q:=hV0
 rw [Tryz.params3] at hA hval
 obtain ⟨v0,vs0,d0,ds0,p0,q0,hargs,rfl,rfl,hd0,r0⟩:=trodAll_cons hA
 obtain ⟨v1,vs1,d1,ds1,p1,q1,rfl,rfl,rfl,hd1,r1⟩:=trodAll_cons r0
 obtain ⟨rfl,rfl,rfl⟩:=trodAll_nil r1
 obtain rfl:args = #[v0,v1]:=by cases args;simp_all
 obtain ⟨pb,hwp,hv0⟩:=w_of hL
 obtain ⟨rfl,rfl⟩:=hV.unique (vars_read1 enc gE gEType Tryz.underlying66 hv0 trivial _)
 obtain ⟨hin0,hback0⟩:=open_arg (hval 0 22 v0 rfl rfl) hd0
 obtain ⟨hin1,hback1⟩:=open_arg (hval 1 22 v1 rfl rfl) hd1
 clear hA0 hV0
 simp only [List.append_nil] at hW'
 refine (law_callsH2 (fnTellTwice_ok pb) W hwp v0 v1 hin0 hin1).mono fun e W' ⟨he,hb⟩=>?_
 subst he
 have hv1:W'.var? Tryz.prog "loop.example/wayboard/impl.errPath" = some #[errV pb]:=var_below' hv0 gE hb
 exact ⟨_,rfl,post_below (pa:=p0++(p1++[])) (pv:=[.cell 0 0]) hW' (fun _ _ _=>trodAll_cons_mk (shut_bool Tryz.underlying4 _) trodAll_mk0) (fun sp hsp=>trodAll_cons_mk (hback0 W' hb sp (fun x hx=>hsp x (by simp only [List.mem_append];simp [hx]))) (trodAll_cons_mk (hback1 W' hb sp (fun x hx=>hsp x (by simp only [List.mem_append];simp [hx]))) trodAll_mk0)) (fun sp _=>vars_read1 enc gE gEType Tryz.underlying66 hv1 trivial sp) (by simp)
  hb (ok_one (by kernel_rfl) rfl (okWide_bool_mk Tryz.underlying4 _))⟩
noncomputable def laidWorld (os : Os) : World :=
  let N := (World.settled Tryz.prog os).heap.size
  let w0 := World.holding Tryz.prog os ⟨#[.cells #[.string ⟨#[110, 111, 116, 32, 97, 32, 112, 97, 116, 104]⟩] 141], #[], []⟩
  let put (h : Array Obj) (g : Nat) (cs : Array Value) : Array Obj := h.modify g fun
    | .cells _ t frozen => .cells cs t frozen
    | o => o
  let cellsOf : DataW Unit → Array Value := fun d => match d with
    | .agg ds => (ds.map fun x => match x with | .lit (.int k n) => Value.int k n | _ => .bool false).toArray
    | _ => #[]
  let h0 := put w0.heap 3 (cellsOf Rows.laid_math_bits_deBruijn32tab)
  let h1 := put h0 4 (cellsOf Rows.laid_math_bits_deBruijn64tab)
  let h2 := put h1 2 (cellsOf Rows.laid_internal_strconv_uint64pow10)
  let h3 := put h2 1 #[.iface 124 (.agg #[.pointer (some ⟨5, 66, none⟩)])]
  let h4 := put h3 0 #[.iface 139 (.pointer (some ⟨N + 0, 0, none⟩))]
  { w0 with heap := h4 }

theorem laid_met (os:Os) (args:Array Value):laidMetH Tryz.prog Rows.fnTellTwiceRow.laid ((laidWorld os).forCall (fun _ _=>0) ⟨#[],args,[]⟩).memory :=
 laidMetH_of_parts (laidMet_of_run' 8 (by kernel_rfl) (by kernel_rfl)) (by kernel_rfl)
theorem witness_row (os:Os) {H:Type} (enc:TypeId × Value→H) :
  (OpenSpec.ofChange Rows.fnTellTwiceSpec).preRow enc Tryz.prog Tryz.f3 Rows.fnTellTwiceRow.domain false Rows.fnTellTwiceRow.laid ((laidWorld os).forCall (fun _ _=>0) ⟨#[],#[.slice none 0 0,.slice none 0 0],[]⟩).memory #[.slice none 0 0,.slice none 0 0] :=
 OpenSpec.preRow_of_B rfl 8 (by kernel_rfl) (by kernel_rfl) (laid_met os _)
theorem lifted (os:Os) (started:os.Started) (H:Type) (enc:TypeId × Value→H) (F:Stop.Interp) :
  ReturnsInHanded {} Tryz.checked os 3 .any ((OpenSpec.ofChange Rows.fnTellTwiceSpec).preRow enc Tryz.prog Tryz.f3 Rows.fnTellTwiceRow.domain false Rows.fnTellTwiceRow.laid) (((OpenSpec.ofChange Rows.fnTellTwiceSpec).at F).post enc Tryz.prog Tryz.f3 false true false false):=by
 refine returnsInHanded_of_row (C:=Tryz.checked) (s:=OpenSpec.ofChange Rows.fnTellTwiceSpec) own started (by kernel_rfl) Tryz.func3
  (witness_row_atRef (enc:=enc) (C:=Tryz.checked) false (laidWorld os) #[.slice none 0 0,.slice none 0 0] rfl (by kernel_rfl) (by kernel_rfl) (by kernel_rfl) (witness_row os enc)) ?_
 intro W base args ds gs before hval hW _ _ _ hL hsh _
 exact contract H enc W base args ds gs before hval hW hL
theorem said:Rows.FnTellTwiceSaid :=
 OpenClaim.holds_of_cond 3 Tryz.f3 rfl rfl rfl rfl rfl rfl rfl ⟨rfl,rfl,rfl,rfl,rfl⟩ rfl rfl rfl rfl rfl (by kernel_rfl) Tryz.func3 (by kernel_rfl)
  (of_decide_eq_true (by kernel_rfl)) (by unfold Func.isWrapper;first | (rw [if_pos (by decide +kernel)];kernel_rfl) | (rw [if_neg (by decide +kernel)];exact ⟨rfl,rfl⟩))
  (fun os started H enc _ F=>by rw [OpenClaim.pre_eq_preRow];exact lifted os started H enc F)
theorem plain (f:FuncId) (fn:Func) (hf:Tryz.pinned.checked.prog.funcNamed "loop.example/wayboard/laws.FnTellTwice" = some f) (hfn:Tryz.pinned.checked.prog.funcs[f]? = some fn) :
  true=Tryz.pinned.checked.prog.looks []∧∀ (j:Nat) t,fn.params[j]? = some t→Tryz.pinned.checked.prog.wantsStandIn t=false:=by
 obtain rfl:f=3:=Option.some.inj ((show Tryz.prog.funcNamed "loop.example/wayboard/laws.FnTellTwice" = some 3 by kernel_rfl).symm.trans hf) |>.symm
 obtain rfl:fn=Tryz.f3:=(Option.some.inj (Tryz.func3.symm.trans hfn)).symm
 refine ⟨by kernel_rfl,fun j t ht=>?_⟩
 rw [Tryz.params3] at ht
 obtain rfl:t=22:=by simpa using Array.mem_of_getElem? ht
 exact (show Tryz.prog.wantsStandIn 22=false by kernel_rfl)
theorem card:Rows.FnTellTwiceCardSaid :=
 Claim7.holds_tied_plain_at .later [] _ _ _ _ said (fun _ h=>by cases h) (by kernel_rfl) (fun _ h=>by cases h) fnTellTwice_row_tie rfl ⟨rfl,rfl⟩ (by kernel_rfl) rfl plain (by kernel_rfl)
end Go.Proofs.YtpgilgnkiceggaaGreatDoor.cTw
end
