/- YtkiaifamodjedaaDoorCardNPk: part of the proof that laws hold, for every input that the row speaks of (no condition of ours). -/
import Derived.Test.YtkiaifamodjedaaDoorWd
import Derived.Test.YtkiaifamodjedaaDoorWa
import Derived.Test.YtkiaifamodjedaaDoorEc
import Derived.ChangeVars
import Derived.RowKitTokens
import Derived.Test.YtkiaifamodjedaaDoorCards
import Derived.Test.YtkiaifamodjedaaDoorTie
set_option linter.unusedVariables false
set_option linter.unusedSimpArgs false
section
namespace Go.Proofs.W
open Go Go.Eng Go.RowKit
set_option maxRecDepth 100000
theorem fnNetPick_ok (pb:Addr):Fine Tryd.prog 3 (cLawP pb):=by
 refine fine_of (T:=TT) Tryd.func3 rfl Tryd.ntmps3 (by rw [Tryd.results3]) rfl rfl tt (gs_cons drawNetPick_ok gs_nil) (ds_cons (iNetPick_ok pb) (ds_cons sNetPick_ok (ds_cons (iNetOk_ok pb) (ds_cons lyInts_ok (ds_cons lyIn_ok (ds_cons relMay_ok (ds_cons (iPathOk_ok pb) ds_nil (wp_inh pb))))) (wp_inh pb))) (wp_inh pb)) ?_
 rintro args ⟨bs,hbs,rfl⟩
 refine ⟨by simp,fun k hk E hE Q hQ=>?_⟩
 refine Aw_st hE [0] [] fun K hK=>?_
 simp only [go_sem,seval]
 refine hK _ ?_;clear hK K
 refine Aw_sq fun B1 hB1 hR1 hX1=>?_
 refine Aw_st hE [0,14] [] fun K hK=>?_
 simp only [go_sem,seval]
 refine hK _ (Aw_cond rfl (fun hc2=>?_) (fun hc2=>?_))
 ·refine Aw_st hE [2] [] fun K hK=>?_
  simp only [go_sem,seval]
  refine hK _ (Aw_ret (hR1 _ (hQ _ ?_)))
  simp only [go_sem,seval]
 refine Aw_skip (hB1 _ ?_)
 refine Aw_st hE [3,4,5,6] [] fun K hK=>?_
 simp only [go_sem,seval]
 refine ⟨dnp_pre bs hbs,fun R x W h hP hh1 hh2=>?_⟩
 have hbR:=okRl_big hP.r
 have hbW:=okW_big hP.w
 have hpl:=pickR_len (R:=R) (x:=x) (W:=W) (h:=h)
 have hpl2:(pickR R x W h).length≤4294967296:=by omega
 refine hK _ ?_;clear hK K
 refine Aw_st hE [3,4,5,6,7] [] fun K hK=>?_
 simp only [go_sem,seval,hbR,hbW]
 refine hK _ ?_;clear hK K
 refine Aw_sq fun B3 hB3 hR3 hX3=>?_
 cases hn:netOk R x W with
 | false =>
  refine Aw_st hE [3,4,5,6,7,47] [] fun K hK=>?_
  simp only [go_sem,seval,↓pickR_def,hbR,hbW,hpl2,hn,decide_true,Bool.not_true,Bool.not_false]
  refine hK _ (Aw_yes rfl ?_)
  refine Aw_st hE [2] [] fun K hK=>?_
  simp only [go_sem,seval,↓pickR_def,hbR,hbW,hpl2,decide_true]
  refine hK _ (Aw_ret (hR3 _ (hQ _ ?_)))
  simp only [go_sem,seval]
 | true =>
 by_cases hlt:(R.length:Int) < h
 ·have hd:decide ((R.length:Int) < h)=true:=decide_eq_true hlt
  refine Aw_st hE [3,4,5,6,7,47] [] fun K hK=>?_
  simp only [go_sem,seval,↓pickR_def,hbR,hbW,hpl2,hn,hd,decide_true,Bool.not_true,Bool.not_false]
  refine hK _ (Aw_yes rfl ?_)
  refine Aw_st hE [2] [] fun K hK=>?_
  simp only [go_sem,seval,↓pickR_def,hbR,hbW,hpl2,decide_true]
  refine hK _ (Aw_ret (hR3 _ (hQ _ ?_)))
  simp only [go_sem,seval]
 have hd:decide ((R.length:Int) < h)=false:=decide_eq_false hlt
 have hh:hI R.length h:=⟨hh1,by omega⟩
 have hok:=(netOk_iff.1 hn).1
 have hn5:=net5 hn
 have hlW:=net_l hn
 have hibh:hIb R.length h=true:=hIb_iff.2 hh
 refine Aw_st hE [3,4,5,6,7,47] [] fun K hK=>?_
 simp only [go_sem,seval,↓pickR_def,hbR,hbW,hpl2,hn,hd,decide_true,Bool.not_true,Bool.not_false]
 refine hK _ (Aw_no rfl (Aw_skip (hB3 _ ?_)))
 refine Aw_st hE [3,4,5,6,7,8] [] fun K hK=>?_
 simp only [go_sem,seval]
 refine hK _ ?_;clear hK K
 refine Aw_sq fun B8 hB8 hR8 hX8=>?_
 refine Aw_st hE [3,4,5,6,7,8,9] [] fun K hK=>?_
 simp only [go_sem,seval]
 refine hK _ ?_;clear hK K
 refine Aw_bk fun B9 hN9 hE9 hR9 hX9=>?_
 refine Aw_lp (fun j:Nat=>⟨135,[(3,wsl R),(4,iv x),(5,wsl W),(6,iv h),(7,isl (pickR R x W h)),(8,bv (someT R W h j)),(9,iv ((j:Int) + 1))],[],k⟩) (fun j=>j≤R.length) (fun j=>R.length - j) 0 (Le_wb (by simp only [go_sem,seval,someT])) (by omega) fun j hj B10 hN10 hR10 hX10=>?_
 refine Aw_sq fun B11 hB11 hR11 hX11=>?_
 refine Aw_st hE [3,4,5,6,7,8,9,58] [] fun K hK=>?_
 simp only [go_sem,seval]
 refine hK _ (Aw_cond rfl (fun hc12=>?_) (fun hc12=>?_))
 ·simp only [dte] at hc12
  have hjl:j < R.length:=by omega
  have hj1:((j:Int) + 1 - 1).toNat=j:=by omega
  have hg:=wrows_get W j (by omega)
  have hwl:(W.getD j []).length≤4294967296:=by have:=hP.w.2 _ (getD_memL W j (by omega));omega
  refine Aw_skip (hB11 _ ?_)
  refine Aw_sq fun B13 hB13 hR13 hX13=>?_
  refine Aw_bk fun B14 hN14 hE14 hR14 hX14=>?_
  refine Aw_st hE [3,4,5,6,7,8,9,10] [] fun K hK=>?_
  simp only [go_sem,seval,hj1,hg]
  repeat refine sd0 ?_
  refine hK _ ?_;clear hK K
  refine Aw_sq fun B15 hB15 hR15 hX15=>?_
  by_cases eb:(j:Int) + 1=h
  ·have d1:decide ((j:Int) + 1=h)=true:=decide_eq_true eb
   have hs:someT R W h (j + 1)=someT R W h j:=by rw [someT,eb,tell_own hn hh,Bool.or_false]
   refine Aw_st hE [3,4,5,6,7,8,9,10,78] [] fun K hK=>?_
   simp only [go_sem,seval,d1]
   refine hK _ (Aw_yes rfl ?_)
   refine Aw_exit (hX15 _ _ (hE14 _ (hB13 _ ?_)))
   refine Aw_tx hE [3,4,5,6,7,8,9] [] fun K hK=>?_
   simp only [go_sem,seval]
   repeat refine sd0 ?_
   refine hK _ (hN10 (j + 1) _ (by omega) (by omega) (Le_wb (by simp only [go_sem,seval,hs,Int.natCast_add,Int.natCast_one])))
  have d1:decide ((j:Int) + 1=h)=false:=decide_eq_false eb
  by_cases ew:W.getD j []=[]
  ·have d2:decide (((W.getD j []).length:Int)=0)=true:=decide_eq_true (by rw [ew];rfl)
   have hs:someT R W h (j + 1)=someT R W h j:=by rw [someT,ew,tell_nil,Bool.or_false]
   refine Aw_st hE [3,4,5,6,7,8,9,10,78] [] fun K hK=>?_
   simp only [go_sem,seval,d1,d2]
   refine hK _ (Aw_yes rfl ?_)
   refine Aw_exit (hX15 _ _ (hE14 _ (hB13 _ ?_)))
   refine Aw_tx hE [3,4,5,6,7,8,9] [] fun K hK=>?_
   simp only [go_sem,seval]
   repeat refine sd0 ?_
   refine hK _ (hN10 (j + 1) _ (by omega) (by omega) (Le_wb (by simp only [go_sem,seval,hs,Int.natCast_add,Int.natCast_one])))
  have hw0:(W.getD j []).length≠0:=fun e=>ew (List.length_eq_zero_iff.1 e)
  have d2:decide (((W.getD j []).length:Int)=0)=false:=decide_eq_false (by omega)
  cases ec:(W.getD j []).contains h with
  | true =>
   have hs:someT R W h (j + 1)=someT R W h j:=by rw [someT,tell_in ec,Bool.or_false]
   refine Aw_st hE [3,4,5,6,7,8,9,10,78] [] fun K hK=>?_
   simp only [go_sem,seval,d1,d2,ec,hwl]
   repeat refine sd0 ?_
   refine hK _ (Aw_yes rfl ?_)
   refine Aw_exit (hX15 _ _ (hE14 _ (hB13 _ ?_)))
   refine Aw_tx hE [3,4,5,6,7,8,9] [] fun K hK=>?_
   simp only [go_sem,seval]
   repeat refine sd0 ?_
   refine hK _ (hN10 (j + 1) _ (by omega) (by omega) (Le_wb (by simp only [go_sem,seval,hs,Int.natCast_add,Int.natCast_one])))
  | false =>
  have hte:=tell_eq (R:=R) (b:=(j:Int) + 1) ew ec
  have hib:hIb R.length ((j:Int) + 1)=true:=hIb_iff.2 ⟨by omega,by omega⟩
  have hnr:=nxt_rng hn hjl
  refine Aw_st hE [3,4,5,6,7,8,9,10,78] [] fun K hK=>?_
  simp only [go_sem,seval,d1,d2,ec,hwl]
  repeat refine sd0 ?_
  refine hK _ (Aw_no rfl (Aw_skip (hB15 _ ?_)))
  refine Aw_st hE [3,4,5,6,7,8,9,10,11] [] fun K hK=>?_
  simp only [go_sem,seval]
  refine hK _ ?_;clear hK K
  refine Aw_sqJ (fun _:Unit=>⟨135,[(3,wsl R),(4,iv x),(5,wsl W),(6,iv h),(7,isl (pickR R x W h)),(8,bv (someT R W h j)),(9,iv ((j:Int) + 1)),(10,isl (W.getD j [])),(11,iv (nxt (W.getD j [])))],[],k⟩) (fun _=>True) (fun _ _=>?_) fun B20 hB20 hR20 hX20=>?_
  ·refine Aw_st hE [3,4,5,6,7,8,9,10,89] [] fun K hK=>?_
   simp only [go_sem,seval,hbR,hok,hib,hibh,hnr,Bool.and_true,Bool.true_and]
   cases em:mayB (ofR R) ((j:Int) + 1) (nxt (W.getD j [])) h with
   | false =>
    have hs:someT R W h (j + 1)=someT R W h j:=by rw [someT,hte,em,Bool.or_false]
    refine hK _ (Aw_no rfl ?_)
    refine Aw_skip (hN14 _ (hB13 _ ?_))
    refine Aw_tx hE [3,4,5,6,7,8,9] [] fun K hK=>?_
    simp only [go_sem,seval]
    repeat refine sd0 ?_
    refine hK _ (hN10 (j + 1) _ (by omega) (by omega) (Le_wb (by simp only [go_sem,seval,hs,Int.natCast_add,Int.natCast_one])))
   | true =>
    have hs:someT R W h (j + 1)=true:=by rw [someT,hte,em,Bool.or_true]
    refine hK _ (Aw_yes rfl ?_)
    refine Aw_st hE [3,4,5,6,7,8,9,10] [] fun K hK=>?_
    simp only [go_sem,seval]
    refine hK _ ?_;clear hK K
    by_cases hl:1 < (pickR R x W h).length
    ·have d3:decide ((1:Int) < ((pickR R x W h).length:Int))=true:=decide_eq_true (by omega)
     have hr:=rows_get (pickR R x W h) 1 hl
     by_cases ej:(pickR R x W h).getD 1 0=(j:Int) + 1
     ·have d4:decide ((pickR R x W h).getD 1 0=(j:Int) + 1)=true:=decide_eq_true ej
      have hdr:=pickR_way hn hh hl ej
      refine Aw_st hE [3,4,5,6,7,8,9,106] [] fun K hK=>?_
      simp only [go_sem,seval,d3,hr,d4,hdr,hwl,List.take_length,decide_true,Bool.not_true]
      repeat refine sd0 ?_
      refine hK _ (Aw_no rfl ?_)
      refine Aw_skip (hN14 _ (hB13 _ ?_))
      refine Aw_tx hE [3,4,5,6,7,8,9] [] fun K hK=>?_
      simp only [go_sem,seval]
      repeat refine sd0 ?_
      refine hK _ (hN10 (j + 1) _ (by omega) (by omega) (Le_wb (by simp only [go_sem,seval,hs,Int.natCast_add,Int.natCast_one])))
     ·have d4:decide ((pickR R x W h).getD 1 0=(j:Int) + 1)=false:=decide_eq_false ej
      refine Aw_st hE [3,4,5,6,7,8,9,106] [] fun K hK=>?_
      simp only [go_sem,seval,d3,hr,d4]
      repeat refine sd0 ?_
      refine hK _ (Aw_no rfl ?_)
      refine Aw_skip (hN14 _ (hB13 _ ?_))
      refine Aw_tx hE [3,4,5,6,7,8,9] [] fun K hK=>?_
      simp only [go_sem,seval]
      repeat refine sd0 ?_
      refine hK _ (hN10 (j + 1) _ (by omega) (by omega) (Le_wb (by simp only [go_sem,seval,hs,Int.natCast_add,Int.natCast_one])))
    ·have d3:decide ((1:Int) < ((pickR R x W h).length:Int))=false:=decide_eq_false (by omega)
     refine Aw_st hE [3,4,5,6,7,8,9,106] [] fun K hK=>?_
     simp only [go_sem,seval,d3]
     repeat refine sd0 ?_
     refine hK _ (Aw_no rfl ?_)
     refine Aw_skip (hN14 _ (hB13 _ ?_))
     refine Aw_tx hE [3,4,5,6,7,8,9] [] fun K hK=>?_
     simp only [go_sem,seval]
     repeat refine sd0 ?_
     refine hK _ (hN10 (j + 1) _ (by omega) (by omega) (Le_wb (by simp only [go_sem,seval,hs,Int.natCast_add,Int.natCast_one])))
  by_cases hl:1 < (W.getD j []).length
  ·have d3:decide ((1:Int) < ((W.getD j []).length:Int))=true:=decide_eq_true (by omega)
   have hr:(rows (W.getD j []))[1]? = some [.v (.int .i64 (nxt (W.getD j [])))]:=rows_get (W.getD j []) 1 hl
   refine Aw_st hE [3,4,5,6,7,8,9,10,11,81] [] fun K hK=>?_
   simp only [go_sem,seval,d3]
   refine hK _ (Aw_yes rfl ?_)
   refine Aw_tx hE [3,4,5,6,7,8,9,10,11] [] fun K hK=>?_
   simp only [go_sem,seval,hr]
   repeat refine sd0 ?_
   refine hK _ (hB20 () _ trivial (LeE_of (Le_wa)))
  ·have d3:decide ((1:Int) < ((W.getD j []).length:Int))=false:=decide_eq_false (by omega)
   have hx0:nxt (W.getD j [])=0:=by unfold nxt;rw [List.getD_eq_getElem?_getD,List.getElem?_eq_none (by omega)];rfl
   refine Aw_st hE [3,4,5,6,7,8,9,10,11,81] [] fun K hK=>?_
   simp only [go_sem,seval,d3]
   refine hK _ (Aw_no rfl ?_)
   refine Aw_skip (hB20 () _ trivial (LeE_of (Le_wb (by simp only [go_sem,seval,hx0]))))
 ·simp only [dfn] at hc12
  obtain rfl:j=R.length:=by omega
  refine Aw_exit (hX11 _ _ (hX10 _ _ (hE9 _ (hB8 _ ?_))))
  refine Aw_sq fun B32 hB32 hR32 hX32=>?_
  by_cases e:h=x
  ·have de:decide (h=x)=true:=decide_eq_true e
   have hp:pickR R x W h=[x]:=by rw [e];exact pickR_home hn
   refine Aw_st hE [4,6,7,8,109] [] fun K hK=>?_
   simp only [go_sem,seval,de]
   refine hK _ (Aw_yes rfl ?_)
   refine Aw_st hE [2] [] fun K hK=>?_
   simp only [go_sem,seval,hp,none_row,decide_true]
   repeat refine sd0 ?_
   refine hK _ (Aw_ret (hR32 _ (hQ _ ?_)))
   simp only [go_sem,seval]
  ·have de:decide (h=x)=false:=decide_eq_false e
   have hsm:=pickR_some hn hh e
   refine Aw_st hE [4,6,7,8,109] [] fun K hK=>?_
   simp only [go_sem,seval,de]
   refine hK _ (Aw_no rfl (Aw_skip (hB32 _ ?_)))
   by_cases hp:pickR R x W h=[]
   ·have hs:someT R W h R.length=false:=by
     cases es:someT R W h R.length with
     | false=>rfl
     | true=>exact absurd hp (hsm.2 es)
    have d5:decide ((0:Int) < ((pickR R x W h).length:Int))=false:=decide_eq_false (by rw [hp];decide)
    have d6:decide (((pickR R x W h).length:Int)=0)=true:=decide_eq_true (by rw [hp];rfl)
    refine Aw_st hE [2] [] fun K hK=>?_
    simp only [go_sem,seval,hs,d5,d6,decide_true,beq_self_eq_true]
    refine hK _ (Aw_ret (hQ _ ?_))
    simp only [go_sem,seval]
   ·have hs:someT R W h R.length=true:=hsm.1 hp
    have hp0:(pickR R x W h).length≠0:=fun e=>hp (List.length_eq_zero_iff.1 e)
    obtain ⟨ho1,ho2⟩:=pickR_own hn hh hp
    have hr:=rows_get (pickR R x W h) 0 (by omega)
    rw [ho1] at hr
    have d5:decide ((0:Int) < ((pickR R x W h).length:Int))=true:=decide_eq_true (by omega)
    have d6:decide (((pickR R x W h).length:Int)=0)=false:=decide_eq_false (by omega)
    refine Aw_st hE [2] [] fun K hK=>?_
    simp only [go_sem,seval,hs,d5,d6,hr,ho2,hpl2,decide_true,beq_self_eq_true]
    repeat refine sd0 ?_
    refine hK _ (Aw_ret (hQ _ ?_))
    simp only [go_sem,seval]
end Go.Proofs.W
end
section
namespace Go.Proofs.YtkiaifamodjedaaDoor.cNPk
open Go Go.Eng Go.RowKit Go.WideShapes Go.ChangeShapes Go.ChangeAt Go.Proofs.W
set_option maxRecDepth 100000
theorem own:ownKnob Tryd.prog.godebug=none:=by kernel_rfl
theorem star : "*"++ "errors.errorString" = "*errors.errorString" := by decide
theorem rowE (u:TypeId) (h:Tryd.prog.typeName? 3 u=some "*errors.errorString"):u=111 :=
 typeName_ptr_named (nm := "errors.errorString") (by rw [star];kernel_rfl) (by kernel_rfl) (by decide) u (by rw [star];exact h)
theorem gE:Tryd.prog.globalNamed "loop.example/wayboard/impl.errPath" = some 0:=by kernel_rfl
theorem gEType:(Tryd.prog.globals[0]?).map (·.type)=some 71:=by kernel_rfl
theorem w_of {W:World} (h:laidMet Tryd.prog Rows.fnNetPickRow.laid W):∃ pb,WP pb W∧W.var? Tryd.prog "loop.example/wayboard/impl.errPath" = some #[errV pb]:=by
 have h0:=h
 have h1:=laidMet.tail h0
 have h2:=laidMet.tail h1
 have h3:=laidMet.tail h2
 obtain ⟨a0,s0,hv0,hc0,hs0,hz0⟩:=laid_sentinel h3 gE gEType Tryd.underlying71 rowE Tryd.underlying111 Tryd.underlying113 rfl rfl Tryd.underlying9 (by kernel_rfl) (by kernel_rfl)
 refine ⟨a0,⟨⟨?_⟩,?_⟩,hv0⟩
 ·exact Lib.tabIs_of_head (g:=1) (by kernel_rfl) (by kernel_rfl) Tryd.underlying132 Tryd.underlying126 (by kernel_rfl) (by kernel_rfl) h2
 ·simpa using World.var?_cell gE hv0 0
theorem contract (H:Type) (enc:TypeId × Value→H) (W:World) (base:Nat) (args:Array Value) (ds gs:List (DataW H)) (before:List MemPlace)
  (hval:∀ (j:Nat) t v,Tryd.f3.params[j]? = some t→args[j]? = some v→Value.okWide Tryd.prog W .any base t v)
  (hW:DataW.Whole enc Tryd.prog Tryd.f3.params.toList Rows.fnNetPickSpec.vars false W args.toList ds gs before) (hL:laidMetH Tryd.prog Rows.fnNetPickRow.laid W) :
  Calls Tryd.prog 3 args W fun e W'=>∃ v,e = .returned v∧Rows.fnNetPickSpec.post enc Tryd.prog Tryd.f3 false true false false W args v W':=by
 have hW':=hW
 obtain ⟨p,q,hA0,hV0,rfl,hfz,hnd⟩:=hW
 have hA:DataW.TrodAll enc Tryd.prog W 0 (fun _=>true) true Tryd.f3.params.toList args.toList ds p:=hA0
 have hV:DataW.TrodVars enc Tryd.prog W (fun _=>true) ["loop.example/wayboard/impl.errPath"] gs q:=hV0
 rw [Tryd.params3] at hA hval
 obtain ⟨v0,vs0,d0,ds0,p0,q0,hargs,rfl,rfl,hd0,r0⟩:=trodAll_cons hA
 obtain ⟨rfl,rfl,rfl⟩:=trodAll_nil r0
 obtain rfl:args = #[v0]:=by cases args;simp_all
 obtain ⟨pb,hwp,hv0⟩:=w_of hL
 obtain ⟨rfl,rfl⟩:=hV.unique (vars_read1 enc gE gEType Tryd.underlying71 hv0 trivial _)
 obtain ⟨hin0,hback0⟩:=open_arg (hval 0 22 v0 rfl rfl) hd0
 clear hA0 hV0
 simp only [List.append_nil] at hW'
 refine (law_callsP (fnNetPick_ok pb) W hwp v0 hin0).mono fun e W' ⟨he,hb⟩=>?_
 subst he
 have hv1:W'.var? Tryd.prog "loop.example/wayboard/impl.errPath" = some #[errV pb]:=var_below' hv0 gE hb
 exact ⟨_,rfl,post_below (pa:=p0++[]) (pv:=[.cell 0 0]) hW' (fun _ _ _=>trodAll_cons_mk (shut_bool Tryd.underlying4 _) trodAll_mk0) (fun sp hsp=>trodAll_cons_mk (hback0 W' hb sp (fun x hx=>hsp x (by simp only [List.mem_append];simp [hx]))) trodAll_mk0) (fun sp _=>vars_read1 enc gE gEType Tryd.underlying71 hv1 trivial sp) (by simp)
  hb (ok_one (by kernel_rfl) rfl (okWide_bool_mk Tryd.underlying4 _))⟩
noncomputable def laidWorld (os : Os) : World :=
  let N := (World.settled Tryd.prog os).heap.size
  let w0 := World.holding Tryd.prog os ⟨#[.cells #[.string ⟨#[110, 111, 116, 32, 97, 32, 112, 97, 116, 104]⟩] 113], #[], []⟩
  let put (h : Array Obj) (g : Nat) (cs : Array Value) : Array Obj := h.modify g fun
    | .cells _ t frozen => .cells cs t frozen
    | o => o
  let cellsOf : DataW Unit → Array Value := fun d => match d with
    | .agg ds => (ds.map fun x => match x with | .lit (.int k n) => Value.int k n | _ => .bool false).toArray
    | _ => #[]
  let h0 := put w0.heap 2 (cellsOf Rows.laid_math_bits_deBruijn32tab)
  let h1 := put h0 3 (cellsOf Rows.laid_math_bits_deBruijn64tab)
  let h2 := put h1 1 (cellsOf Rows.laid_internal_strconv_uint64pow10)
  let h3 := put h2 0 #[.iface 111 (.pointer (some ⟨N + 0, 0, none⟩))]
  { w0 with heap := h3 }

theorem laid_met (os:Os) (args:Array Value):laidMet Tryd.prog Rows.fnNetPickRow.laid ((laidWorld os).forCall (fun _ _=>0) ⟨#[],args,[]⟩).memory :=
 laidMet_of_run' 8 (by kernel_rfl) (by kernel_rfl)
theorem witness_row (os:Os) {H:Type} (enc:TypeId × Value→H) :
  (OpenSpec.ofChange Rows.fnNetPickSpec).preRow enc Tryd.prog Tryd.f3 Rows.fnNetPickRow.domain false Rows.fnNetPickRow.laid ((laidWorld os).forCall (fun _ _=>0) ⟨#[],#[.slice none 0 0],[]⟩).memory #[.slice none 0 0] :=
 OpenSpec.preRow_of_B rfl 8 (by kernel_rfl) (by kernel_rfl) (laid_met os _)
theorem lifted (os:Os) (started:os.Started) (H:Type) (enc:TypeId × Value→H) (F:Stop.Interp) :
  ReturnsInHanded {} Tryd.checked os 3 .any ((OpenSpec.ofChange Rows.fnNetPickSpec).preRow enc Tryd.prog Tryd.f3 Rows.fnNetPickRow.domain false Rows.fnNetPickRow.laid) (((OpenSpec.ofChange Rows.fnNetPickSpec).at F).post enc Tryd.prog Tryd.f3 false true false false):=by
 refine returnsInHanded_of_row (C:=Tryd.checked) (s:=OpenSpec.ofChange Rows.fnNetPickSpec) own started (by kernel_rfl) Tryd.func3
  (witness_row_atRef (enc:=enc) (C:=Tryd.checked) false (laidWorld os) #[.slice none 0 0] rfl (by kernel_rfl) (by kernel_rfl) (by kernel_rfl) (witness_row os enc)) ?_
 intro W base args ds gs before hval hW _ _ _ hL hsh _
 exact contract H enc W base args ds gs before hval hW hL
theorem said:Rows.FnNetPickSaid :=
 OpenClaim.holds_of_cond 3 Tryd.f3 rfl rfl rfl rfl rfl rfl rfl ⟨rfl,rfl,rfl,rfl,rfl⟩ rfl rfl rfl rfl rfl (by kernel_rfl) Tryd.func3 (by kernel_rfl)
  (of_decide_eq_true (by kernel_rfl)) (by unfold Func.isWrapper;first | (rw [if_pos (by decide +kernel)];kernel_rfl) | (rw [if_neg (by decide +kernel)];exact ⟨rfl,rfl⟩))
  (fun os started H enc _ F=>by rw [OpenClaim.pre_eq_preRow];exact lifted os started H enc F)
theorem plain (f:FuncId) (fn:Func) (hf:Tryd.pinned.checked.prog.funcNamed "loop.example/wayboard/laws.FnNetPick" = some f) (hfn:Tryd.pinned.checked.prog.funcs[f]? = some fn) :
  true=Tryd.pinned.checked.prog.looks []∧∀ (j:Nat) t,fn.params[j]? = some t→Tryd.pinned.checked.prog.wantsStandIn t=false:=by
 obtain rfl:f=3:=Option.some.inj ((show Tryd.prog.funcNamed "loop.example/wayboard/laws.FnNetPick" = some 3 by kernel_rfl).symm.trans hf) |>.symm
 obtain rfl:fn=Tryd.f3:=(Option.some.inj (Tryd.func3.symm.trans hfn)).symm
 refine ⟨by kernel_rfl,fun j t ht=>?_⟩
 rw [Tryd.params3] at ht
 obtain rfl:t=22:=by simpa using Array.mem_of_getElem? ht
 exact (show Tryd.prog.wantsStandIn 22=false by kernel_rfl)
theorem card:Rows.FnNetPickCardSaid :=
 Claim7.holds_tied_plain_at .later [] _ _ _ _ said (fun _ h=>by cases h) (by kernel_rfl) (fun _ h=>by cases h) fnNetPick_row_tie rfl ⟨rfl,rfl⟩ (by kernel_rfl) rfl plain (by kernel_rfl)
end Go.Proofs.YtkiaifamodjedaaDoor.cNPk
end
