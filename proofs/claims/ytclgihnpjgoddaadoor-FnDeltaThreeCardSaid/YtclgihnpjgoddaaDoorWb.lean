/- YtclgihnpjgoddaaDoorWb: part of the proof that laws hold, for every input that the row speaks of (no condition of ours). -/
import Derived.Test.YtclgihnpjgoddaaDoorWa
import Derived.Test.YtclgihnpjgoddaaDoorEc
set_option linter.unusedVariables false
set_option linter.unusedSimpArgs false
section
namespace Go.Proofs.W
open Go Go.Eng Go.RowKit
set_option maxRecDepth 100000
theorem okUp_z (l:List Rt):okUp l 0:=⟨by simp,by simp [sortR]⟩
theorem rrows_at (l:List Rt) (i:Nat) (h:i < l.length):(rrows l)[i]? = some [.v (.int .i64 l[i].f),.v (.int .i64 l[i].b),.sl (rows l[i].path),.v (.int .i64 l[i].like),.sl (rows l[i].marks)]:=rrows_get l i h
theorem smallR_at {l:List Rt} (h:smallL l) (i:Nat) (hi:i < l.length):l[i].path.length≤1000∧l[i].marks.length≤900:=h.2 _ (List.getElem_mem hi)
def gROk:List AV→Option (Prop × AV)
 | [.sl _ els]=>(match rtsL els with | some l=>some (smallL l,bv (routesOk l)) | none=>none)
 | _=>none
def dROk:DFn:={ g:=gROk }
def dROkI (pb:Addr):DFn:={ g:=gROk,inv:=WP pb }
attribute [go_sem] gROk dROk dROkI
set_option maxHeartbeats 4000000 in
theorem sRoutesOk_ok:Fine Tryd.prog 13 dROk.con:=by
 refine fine_det (T:=TT) Tryd.func13 rfl Tryd.ntmps13 (by rw [Tryd.results13]) rfl rfl tt (gs_nil) (ds_cons sRtOk_ok (ds_cons l1Cmp_ok ds_nil)) ?_
 intro args c r h hc
 simp only [dROk,gROk] at h
 split at h
 rotate_left
 ·cases h
 split at h
 rotate_left
 ·cases h
 rename_i t els _ l hrt
 obtain rfl:=rtsL_eq hrt
 obtain ⟨rfl,rfl⟩:=Prod.mk.inj (Option.some.inj h)
 refine ⟨by simp,fun k E hE Q hQ=>?_⟩
 have hll:=hc.1
 refine Aw_st hE [0] [] fun K hK=>?_
 simp only [go_sem,seval]
 refine hK _ ?_;clear hK K
 refine Aw_sq fun B1 hB1 hR1 hX1=>?_
 refine Aw_st hE [0,3] [] fun K hK=>?_
 simp only [go_sem,seval]
 refine hK _ ?_;clear hK K
 refine Aw_bk fun B2 hN2 hE2 hR2 hX2=>?_
 refine Aw_lp (fun i:Nat=>⟨38,[(0,.sl none (rrows l)),(3,iv (i:Int))],[],k⟩) (fun i=>i≤l.length∧okUp l i) (fun i=>l.length - i) 0 (Le_wa) ⟨by omega,okUp_z l⟩ fun i hi B3 hN3 hR3 hX3=>?_
 obtain ⟨hi,hok⟩:=hi
 refine Aw_sq fun B4 hB4 hR4 hX4=>?_
 refine Aw_st hE [0,3,7] [] fun K hK=>?_
 simp only [go_sem,seval]
 refine hK _ (Aw_cond rfl (fun hc5=>?_) (fun hc5=>?_))
 ·simp only [dte] at hc5
  have hil:i < l.length:=by omega
  have hg:=rrows_at l i hil
  obtain ⟨hp,hm⟩:=smallR_at hc i hil
  have hp':l[i].path.length≤4294967296:=by omega
  have hm':l[i].marks.length≤4294967296:=by omega
  have hst:=okUp_step hil hok
  refine Aw_skip (hB4 _ ?_)
  refine Aw_sq fun B6 hB6 hR6 hX6=>?_
  refine Aw_bk fun B7 hN7 hE7 hR7 hX7=>?_
  cases hro:okR l[i] with
  | false =>
   have hro':rtOk l[i].f l[i].b l[i].path l[i].like l[i].marks=false:=hro
   have hno:=okUp_no hil (fun h=>by have:=(hst.1 h).1;rw [hro] at this;cases this)
   refine Aw_se hE [0,1,2,3,4,5,6,7,8,9,10,11,12,13,14,15,16,17,18,19,20,21,22,23,24] [0,0,3,7,15,31,63,127,255,511,1023,1023,3071,8191,16383,32767,1023,1023,197631,459775,984063,2097151,4194303,8388607,16777215] [0,3,34] [] (by kernel_rfl) fun K hK=>?_
   refine daopsE_cut 6 fun K1 hK1=>?_
   simp only [go_sem,seval,hg,hp',hm',hro',Bool.not_false]
   repeat refine sd0 ?_
   refine hK1 _ ?_
   clear hK1
   refine daopsE_cut 6 fun K1 hK1=>?_
   simp only [go_sem,seval,hg,hp',hm',hro',Bool.not_false]
   repeat refine sd0 ?_
   refine hK1 _ ?_
   clear hK1
   refine daopsE_cut 6 fun K1 hK1=>?_
   simp only [go_sem,seval,hg,hp',hm',hro',Bool.not_false]
   repeat refine sd0 ?_
   refine hK1 _ ?_
   clear hK1
   refine daopsE_cut 6 fun K1 hK1=>?_
   simp only [go_sem,seval,hg,hp',hm',hro',Bool.not_false]
   repeat refine sd0 ?_
   refine hK1 _ ?_
   clear hK1
   simp only [go_sem,seval,hg,hp',hm',hro',Bool.not_false]
   repeat refine sd0 ?_
   refine hK _ (Aw_yes rfl ?_)
   refine Aw_st hE [2] [] fun K hK=>?_
   simp only [go_sem,seval]
   refine hK _ (Aw_ret (hR7 _ (hR6 _ (hR3 _ (hR2 _ (hR1 _ (hQ _ ?_)))))))
   simp only [go_sem,seval,hno]
  | true =>
   have hro':rtOk l[i].f l[i].b l[i].path l[i].like l[i].marks=true:=hro
   by_cases h0:i=0
   ·have d0:decide ((0:Int) < (i:Int))=false:=decide_eq_false (by omega)
    refine Aw_se hE [0,1,2,3,4,5,6,7,8,9,10,11,12,13,14,15,16,17,18,19,20,21,22,23,24] [0,0,3,7,15,31,63,127,255,511,1023,1023,3071,8191,16383,32767,1023,1023,197631,459775,984063,2097151,4194303,8388607,16777215] [0,3,34] [] (by kernel_rfl) fun K hK=>?_
    refine daopsE_cut 6 fun K1 hK1=>?_
    simp only [go_sem,seval,hg,hp',hm',hro',d0,Bool.not_true]
    repeat refine sd0 ?_
    refine hK1 _ ?_
    clear hK1
    refine daopsE_cut 6 fun K1 hK1=>?_
    simp only [go_sem,seval,hg,hp',hm',hro',d0,Bool.not_true]
    repeat refine sd0 ?_
    refine hK1 _ ?_
    clear hK1
    refine daopsE_cut 6 fun K1 hK1=>?_
    simp only [go_sem,seval,hg,hp',hm',hro',d0,Bool.not_true]
    repeat refine sd0 ?_
    refine hK1 _ ?_
    clear hK1
    refine daopsE_cut 6 fun K1 hK1=>?_
    simp only [go_sem,seval,hg,hp',hm',hro',d0,Bool.not_true]
    repeat refine sd0 ?_
    refine hK1 _ ?_
    clear hK1
    simp only [go_sem,seval,hg,hp',hm',hro',d0,Bool.not_true]
    repeat refine sd0 ?_
    refine hK _ (Aw_no rfl ?_)
    refine Aw_skip (hN7 _ (hB6 _ ?_))
    refine Aw_tx hE [0,3] [] fun K hK=>?_
    simp only [go_sem,seval]
    repeat refine sd0 ?_
    refine hK _ (hN3 (i + 1) _ ⟨by omega,hst.2 ⟨hro,.inl h0⟩⟩ (by omega) (Le_wb (by simp only [go_sem,seval,Int.natCast_add,Int.natCast_one])))
   ·have d0:decide ((0:Int) < (i:Int))=true:=decide_eq_true (by omega)
    have hi1:((i:Int) - 1).toNat=i - 1:=by omega
    have hil1:i - 1 < l.length:=by omega
    have hg1:=rrows_at l (i - 1) hil1
    by_cases hlt:rlt l[i - 1] l[i]
    ·have d1:decide (0≤rCmp l[i - 1].f l[i - 1].b l[i].f l[i].b)=false:=decide_eq_false (by have:=rCmp_neg.2 hlt;omega)
     refine Aw_se hE [0,1,2,3,4,5,6,7,8,9,10,11,12,13,14,15,16,17,18,19,20,21,22,23,24] [0,0,3,7,15,31,63,127,255,511,1023,1023,3071,8191,16383,32767,1023,1023,197631,459775,984063,2097151,4194303,8388607,16777215] [0,3,34] [] (by kernel_rfl) fun K hK=>?_
     refine daopsE_cut 6 fun K1 hK1=>?_
     simp only [go_sem,seval,hg,hp',hm',hro',d0,hi1,hg1,d1,Bool.not_true]
     repeat refine sd0 ?_
     refine hK1 _ ?_
     clear hK1
     refine daopsE_cut 6 fun K1 hK1=>?_
     simp only [go_sem,seval,hg,hp',hm',hro',d0,hi1,hg1,d1,Bool.not_true]
     repeat refine sd0 ?_
     refine hK1 _ ?_
     clear hK1
     refine daopsE_cut 6 fun K1 hK1=>?_
     simp only [go_sem,seval,hg,hp',hm',hro',d0,hi1,hg1,d1,Bool.not_true]
     repeat refine sd0 ?_
     refine hK1 _ ?_
     clear hK1
     refine daopsE_cut 6 fun K1 hK1=>?_
     simp only [go_sem,seval,hg,hp',hm',hro',d0,hi1,hg1,d1,Bool.not_true]
     repeat refine sd0 ?_
     refine hK1 _ ?_
     clear hK1
     simp only [go_sem,seval,hg,hp',hm',hro',d0,hi1,hg1,d1,Bool.not_true]
     repeat refine sd0 ?_
     refine hK _ (Aw_no rfl ?_)
     refine Aw_skip (hN7 _ (hB6 _ ?_))
     refine Aw_tx hE [0,3] [] fun K hK=>?_
     simp only [go_sem,seval]
     repeat refine sd0 ?_
     refine hK _ (hN3 (i + 1) _ ⟨by omega,hst.2 ⟨hro,.inr ⟨hil1,hlt⟩⟩⟩ (by omega) (Le_wb (by simp only [go_sem,seval,Int.natCast_add,Int.natCast_one])))
    ·have d1:decide (0≤rCmp l[i - 1].f l[i - 1].b l[i].f l[i].b)=true:=decide_eq_true (by
      have:¬ rCmp l[i - 1].f l[i - 1].b l[i].f l[i].b < 0:=fun h=>hlt (rCmp_neg.1 h)
      omega)
     have hno:=okUp_no hil (fun h=>by
      rcases (hst.1 h).2 with h | ⟨_,h⟩
      ·exact h0 h
      ·exact hlt h)
     refine Aw_se hE [0,1,2,3,4,5,6,7,8,9,10,11,12,13,14,15,16,17,18,19,20,21,22,23,24] [0,0,3,7,15,31,63,127,255,511,1023,1023,3071,8191,16383,32767,1023,1023,197631,459775,984063,2097151,4194303,8388607,16777215] [0,3,34] [] (by kernel_rfl) fun K hK=>?_
     refine daopsE_cut 6 fun K1 hK1=>?_
     simp only [go_sem,seval,hg,hp',hm',hro',d0,hi1,hg1,d1,Bool.not_true]
     repeat refine sd0 ?_
     refine hK1 _ ?_
     clear hK1
     refine daopsE_cut 6 fun K1 hK1=>?_
     simp only [go_sem,seval,hg,hp',hm',hro',d0,hi1,hg1,d1,Bool.not_true]
     repeat refine sd0 ?_
     refine hK1 _ ?_
     clear hK1
     refine daopsE_cut 6 fun K1 hK1=>?_
     simp only [go_sem,seval,hg,hp',hm',hro',d0,hi1,hg1,d1,Bool.not_true]
     repeat refine sd0 ?_
     refine hK1 _ ?_
     clear hK1
     refine daopsE_cut 6 fun K1 hK1=>?_
     simp only [go_sem,seval,hg,hp',hm',hro',d0,hi1,hg1,d1,Bool.not_true]
     repeat refine sd0 ?_
     refine hK1 _ ?_
     clear hK1
     simp only [go_sem,seval,hg,hp',hm',hro',d0,hi1,hg1,d1,Bool.not_true]
     repeat refine sd0 ?_
     refine hK _ (Aw_yes rfl ?_)
     refine Aw_st hE [2] [] fun K hK=>?_
     simp only [go_sem,seval]
     refine hK _ (Aw_ret (hR7 _ (hR6 _ (hR3 _ (hR2 _ (hR1 _ (hQ _ ?_)))))))
     simp only [go_sem,seval,hno]
 ·simp only [dfn] at hc5
  obtain rfl:i=l.length:=by omega
  have he:routesOk l=decide ((l.length:Int)≤12):=by
   rw [Bool.eq_iff_iff,okUp_all,dte]
   exact ⟨fun h=>by have:=h.1;omega,fun h=>⟨by omega,hok⟩⟩
  refine Aw_exit (hX4 _ _ (hX3 _ _ (hE2 _ (hB1 _ ?_))))
  refine Aw_st hE [2] [] fun K hK=>?_
  simp only [go_sem,seval]
  refine hK _ (Aw_ret (hQ _ ?_))
  simp only [go_sem,seval,he]
def keyB (f b:Int) (x:Rt):Bool:=decide (x.f=f) && decide (x.b=b)
def atR (l:List Rt) (f b:Int):Int:=idxB (keyB f b) l 0
theorem keyB_iff {f b:Int} {x:Rt}:keyB f b x=true↔key x=(f,b):=by
 simp only [keyB,Bool.and_eq_true,dte,key,Prod.mk.injEq]
theorem atR_look (l:List Rt) (f b:Int):(atR l f b = -1∧look l (f,b)=none)∨∃ i,∃ h:i < l.length,atR l f b=i∧look l (f,b)=some l[i]:=by
 rcases idxB_some (f:=keyB f b) (l:=l) (k:=0) with ⟨h1,h2⟩ | ⟨i,h,h1,h2,h3⟩
 ·refine .inl ⟨h1,look_none.2 fun x hx e=>?_⟩
  have:=h2 x hx
  rw [keyB_iff.2 e] at this;cases this
 ·refine .inr ⟨i,h,by unfold atR;rw [h1];simp,?_⟩
  unfold look
  rw [List.find?_eq_some_iff_getElem]
  refine ⟨by simpa using keyB_iff.1 h2,i,h,rfl,fun j hj=>?_⟩
  have:=h3 l[j] (by rw [List.mem_take_iff_getElem];exact ⟨j,by omega,rfl⟩)
  have hn:¬ key l[j]=(f,b):=fun e=>by rw [keyB_iff.2 e] at this;cases this
  simpa using hn
def gAtR:List AV→Option (Prop × AV)
 | [.sl _ els,.agg [.v (.int .i64 f),.v (.int .i64 b)]]=>(match rtsL els with | some l=>some (l.length≤1000,iv (atR l f b)) | none=>none)
 | _=>none
def dAtR:DFn:={ g:=gAtR }
attribute [go_sem] gAtR dAtR
theorem l23At_ok:Fine Tryd.prog 28 dAtR.con:=by
 refine fine_det (T:=TT) Tryd.func28 rfl Tryd.ntmps28 (by rw [Tryd.results28]) rfl rfl tt (gs_nil) (ds_nil) ?_
 intro args c r h hc
 simp only [dAtR,gAtR] at h
 split at h
 rotate_left
 ·cases h
 split at h
 rotate_left
 ·cases h
 rename_i t els f b _ l hrt
 obtain rfl:=rtsL_eq hrt
 obtain ⟨rfl,rfl⟩:=Prod.mk.inj (Option.some.inj h)
 refine ⟨by simp,fun k E hE Q hQ=>?_⟩
 refine Aw_st hE [0,3] [3] fun K hK=>?_
 simp only [go_sem,seval]
 repeat refine sd0 ?_
 refine hK _ ?_;clear hK K
 refine Aw_sq fun B1 hB1 hR1 hX1=>?_
 refine Aw_st hE [0,3,5] [3] fun K hK=>?_
 simp only [go_sem,seval]
 repeat refine sd0 ?_
 refine hK _ ?_;clear hK K
 refine Aw_bk fun B2 hN2 hE2 hR2 hX2=>?_
 refine Aw_lp (fun i:Nat=>⟨20,[(0,.sl none (rrows l)),(3,.loc 3 0),(5,iv (i:Int))],[(3,[iv f,iv b])],k⟩) (fun i:Nat=>i≤l.length∧atR l f b=idxB (keyB f b) (l.drop i) i) (fun i:Nat=>l.length - i) (0) (Le_wa) (⟨by omega,rfl⟩) fun i hi B3 hN3 hR3 hX3=>?_
 refine Aw_sq fun B4 hB4 hR4 hX4=>?_
 refine Aw_st hE [0,3,5,9] [3] fun K hK=>?_
 simp only [go_sem,seval]
 repeat refine sd0 ?_
 refine hK _ (Aw_cond rfl (fun hc5=>?_) (fun hc5=>?_))
 ·simp only [dte] at hc5
  have hil:i < l.length:=by omega
  have hs:=hi.2.trans (idxB_drop hil)
  have hget:=rrows_at l i hil
  refine Aw_skip (hB4 _ ?_)
  refine Aw_sq fun B6 hB6 hR6 hX6=>?_
  refine Aw_bk fun B7 hN7 hE7 hR7 hX7=>?_
  refine Aw_sd hE [0,3,5,18] [3] 6 (by kernel_rfl) fun K hK=>?_
  simp only [go_sem,seval,hget]
  repeat refine sd0 ?_
  refine hK _ (Aw_cond rfl (fun hc8=>?_) (fun hc8=>?_))
  ·have hsr:keyB f b l[i]=true:=hc8
   rw [hsr] at hs
   refine Aw_st hE [4] [] fun K hK=>?_
   simp only [go_sem,seval]
   repeat refine sd0 ?_
   refine hK _ (Aw_ret (hR7 _ (hR6 _ (hR3 _ (hR2 _ (hR1 _ (hQ _ ?_)))))))
   simp only [go_sem,seval,hs]
  ·have hsr:keyB f b l[i]=false:=hc8
   rw [hsr] at hs
   refine Aw_skip (hN7 _ (hB6 _ ?_))
   refine Aw_tx hE [0,3,5] [3] fun K hK=>?_
   simp only [go_sem,seval]
   repeat refine sd0 ?_
   refine hK _ (hN3 (i + 1) _ (⟨by omega,hs⟩) (by omega) (Le_wb (by simp only [go_sem,seval,Int.natCast_add,Int.natCast_one])))
 ·simp only [dfn] at hc5
  refine Aw_exit (hX4 _ _ (hX3 _ _ (hE2 _ (hB1 _ ?_))))
  refine Aw_st hE [4] [] fun K hK=>?_
  simp only [go_sem,seval]
  repeat refine sd0 ?_
  refine hK _ (Aw_ret (hQ _ ?_))
  simp only [go_sem,seval]
  rw [hi.2,List.drop_eq_nil_of_le (by omega)]
  rfl
theorem cmpL_rr:∀ a:List Int,cmpL a a=0
 | []=>by simp only [cmpL]
 | x::a=>by simp only [cmpL,cmpI_eq,if_true,cmpL_rr a]
theorem pCmp_rr (a:List Int):pCmp a a=0:=by
 unfold pCmp;simp only [orL,cmpI_eq,cmpL_rr,if_true]
theorem rtCmp_same {x y:Rt}:rtCmp x.f x.b x.path x.like x.marks y.f y.b y.path y.like y.marks=0↔x=y:=by
 unfold rtCmp
 rw [rt_ext]
 constructor
 ·intro h
  simp only [orL] at h
  by_cases h1:cmpI y.like x.like=0
  ·rw [if_pos h1] at h
   by_cases h2:pCmp x.path y.path=0
   ·rw [if_pos h2] at h
    by_cases h3:rCmp x.f x.b y.f y.b=0
    ·rw [if_pos h3] at h
     by_cases h4:pCmp x.marks y.marks=0
     ·exact ⟨rCmp_z0.1 h3,pCmp_zero h2,(cmpI_zero h1).symm,pCmp_zero h4⟩
     ·rw [if_neg h4] at h;exact absurd h h4
    ·rw [if_neg h3] at h;exact absurd h h3
   ·rw [if_neg h2] at h;exact absurd h h2
  ·rw [if_neg h1] at h;exact absurd h h1
 ·rintro ⟨⟨h1,h2⟩,h3,h4,h5⟩
  rw [h1,h2,h3,h4,h5]
  have e1:pCmp y.path y.path=0:=pCmp_rr _
  have e2:pCmp y.marks y.marks=0:=pCmp_rr _
  have e3:rCmp y.f y.b y.f y.b=0:=rCmp_z0.2 ⟨rfl,rfl⟩
  simp only [orL,cmpI_eq,e1,e2,e3,if_true]
def dropsB (a b:List Rt):List (Int × Int):=if routesOk a && routesOk b then dropsF a b else []
def tellsB (a b:List Rt):List Rt:=if routesOk a && routesOk b then tellsF a b else []
def gDelta:List AV→Option (Prop × AV)
 | [.sl _ e1,.sl _ e2]=>(match rtsL e1,rtsL e2 with
  | some a,some b=>some (smallL a∧smallL b,.agg [.sl none (krows (dropsB a b)),.sl none (rrows (tellsB a b))])
  | _,_=>none)
 | _=>none
def dDelta:DFn:={ g:=gDelta }
def dDeltaI (pb:Addr):DFn:={ g:=gDelta,inv:=WP pb }
attribute [go_sem] gDelta dDelta dDeltaI
def dropsU (a b:List Rt) (i:Nat):List (Int × Int):=dropsF (a.take i) b
def tellsU (a b:List Rt) (i:Nat):List Rt:=tellsF a (b.take i)
theorem dropsU_step {a b:List Rt} {i:Nat} (hi:i < a.length):dropsU a b (i + 1)=dropsU a b i++(if (look b (key a[i])).isNone then [key a[i]] else []):=by
 unfold dropsU dropsF
 rw [List.take_succ_eq_append_getElem hi,List.filter_append,List.map_append]
 congr 1
 rw [List.filter_cons,List.filter_nil]
 split<;>rfl
theorem tellsU_step {a b:List Rt} {i:Nat} (hi:i < b.length):tellsU a b (i + 1)=tellsU a b i++(if look a (key b[i])=some b[i] then [] else [b[i]]):=by
 unfold tellsU tellsF
 rw [List.take_succ_eq_append_getElem hi,List.filter_append]
 congr 1
 rw [List.filter_cons,List.filter_nil]
 by_cases h:look a (key b[i])=some b[i]<;>simp [h]
theorem dropsU_len (a b:List Rt) (i:Nat):(dropsU a b i).length≤a.length:=by
 unfold dropsU dropsF
 rw [List.length_map]
 exact Nat.le_trans (List.length_filter_le _ _) (by rw [List.length_take];omega)
theorem tellsU_len (a b:List Rt) (i:Nat):(tellsU a b i).length≤b.length:=by
 unfold tellsU tellsF
 exact Nat.le_trans (List.length_filter_le _ _) (by rw [List.length_take];omega)
def cK (x r:Rt):Int:=rCmp x.f x.b r.f r.b
def stepP (r:Rt) (s:List Rt × Bool) (x:Rt):List Rt × Bool :=
 ((if !s.2 && decide (0≤cK x r) then s.1++[r] else s.1)++(if cK x r=0 then [] else [x]),s.2 || decide (0≤cK x r))
def foldP (r:Rt) (l:List Rt):List Rt × Bool:=l.foldl (stepP r) ([],false)
def putG (l:List Rt) (r:Rt):List Rt:=(foldP r l).1++(if (foldP r l).2 then [] else [r])
theorem foldP_step {r:Rt} {l:List Rt} {i:Nat} (hi:i < l.length):foldP r (l.take (i + 1))=stepP r (foldP r (l.take i)) l[i]:=by
 unfold foldP
 rw [List.take_succ_eq_append_getElem hi,List.foldl_append];rfl
theorem stepP_len (r:Rt) (s:List Rt × Bool) (x:Rt):(stepP r s x).1.length≤s.1.length + 2:=by
 unfold stepP
 simp only [List.length_append]
 split<;>split<;>simp<;>omega
theorem foldl_len (r:Rt):∀ (l:List Rt) (s:List Rt × Bool),(l.foldl (stepP r) s).1.length≤s.1.length + 2 * l.length
 | [],s=>by simp
 | x::l,s=>by
  rw [List.foldl_cons]
  have h1:=foldl_len r l (stepP r s x)
  have h2:=stepP_len r s x
  rw [List.length_cons];omega
theorem foldP_len (r:Rt) (l:List Rt):(foldP r l).1.length≤2 * l.length:=by
 have:=foldl_len r l ([],false)
 simpa [foldP] using this
theorem cK_neg {x y:Rt}:cK x y < 0↔rlt x y:=rCmp_neg
theorem cK_zero {x y:Rt}:cK x y=0↔key x=key y:=by
 unfold cK;rw [rCmp_z0,key_eq]
theorem foldl_big {r:Rt}:∀ {l o:List Rt},(∀ x ∈ l,rlt r x)→l.foldl (stepP r) (o,true)=(o++l,true)
 | [],o,_=>by simp
 | x::l,o,h=>by
  have hx:=h x (by simp)
  have hn:¬ cK x r=0:=fun e=>rlt_ne hx (cK_zero.1 e).symm
  have e:stepP r (o,true) x=(o++[x],true):=by simp [stepP,hn]
  rw [List.foldl_cons,e,foldl_big fun y hy=>h y (List.mem_cons_of_mem _ hy),List.append_assoc];rfl
theorem foldl_put {r:Rt}:∀ {l o:List Rt},sortR l→(l.foldl (stepP r) (o,false)).1++(if (l.foldl (stepP r) (o,false)).2 then [] else [r])=o++putR l r
 | [],o,_=>by simp [putR]
 | x::l,o,h=>by
  obtain ⟨h1,h2⟩:=List.pairwise_cons.1 h
  rw [List.foldl_cons]
  rcases rlt_or x r with hx | hx | hx
  ·have hc:=cK_neg.2 hx
   have e:stepP r (o,false) x=(o++[x],false):=by
    unfold stepP
    rw [decide_eq_false (show ¬ (0≤cK x r) by omega),if_neg (show ¬ cK x r=0 by omega)]
    simp
   rw [e,foldl_put h2,putR,if_neg (rlt_ne hx),if_pos (rltB.2 hx),List.append_assoc];rfl
  ·have hc:=cK_zero.2 hx
   have e:stepP r (o,false) x=(o++[r],true):=by
    unfold stepP
    rw [hc];simp
   have hb:∀ y ∈ l,rlt r y:=fun y hy=>by
    have:=h1 y hy
    obtain ⟨k1,k2⟩:=key_eq.1 hx
    unfold rlt at this ⊢;rw [← k1,← k2];exact this
   rw [e,foldl_big hb,putR,if_pos hx];simp
  ·have hnl:¬ rlt x r:=fun hl=>by unfold rlt at hx hl;omega
   have hc:¬ cK x r < 0:=fun e=>hnl (cK_neg.1 e)
   have hz:¬ cK x r=0:=fun e=>rlt_ne hx (cK_zero.1 e).symm
   have e:stepP r (o,false) x=(o++[r]++[x],true):=by
    unfold stepP
    rw [decide_eq_true (show 0≤cK x r by omega),if_neg hz];simp
   have hb:∀ y ∈ l,rlt r y:=fun y hy=>rlt_tr hx (h1 y hy)
   have hk:¬ key x=key r:=fun e=>rlt_ne hx e.symm
   rw [e,foldl_big hb,putR,if_neg hk,if_neg (fun h=>hnl (rltB.1 h))];simp
theorem putG_eq {l:List Rt} {r:Rt} (h:sortR l):putG l r=putR l r:=by
 have:=foldl_put (r:=r) (o:=[]) h
 rw [List.nil_append] at this
 exact this
def gPut:List AV→Option (Prop × AV)
 | [.sl _ els,.agg [.v (.int .i64 f),.v (.int .i64 b),.sl _ e1,.v (.int .i64 k),.sl _ e2]]=>(match rtsL els,intsL e1,intsL e2 with
  | some l,some p,some m=>some (smallL l∧p.length≤1000∧m.length≤900,.sl none (rrows (putG l ⟨f,b,p,k,m⟩)))
  | _,_,_=>none)
 | _=>none
def dPut:DFn:={ g:=gPut }
attribute [go_sem] gPut dPut
def putS (l:List Rt) (r:Rt) (k:Nat) (i:Nat) (s:List Rt × Bool):St:=⟨52,[(0,.sl none (rrows l)),(3,.loc 3 0),(5,.sl (some (9,0,36)) (rrows s.1)),(6,bv s.2),(7,iv i)],[(3,[iv r.f,iv r.b,isl r.path,iv r.like,isl r.marks])],k⟩
theorem l23Put_ok:Fine Tryd.prog 37 dPut.con:=by
 refine fine_det (T:=TT) Tryd.func37 rfl Tryd.ntmps37 (by rw [Tryd.results37]) rfl rfl tt (gs_nil) (ds_cons l1Cmp_ok (ds_cons l4Copy_ok ds_nil)) ?_
 intro args c r h hc
 simp only [dPut,gPut] at h
 split at h
 rotate_left
 ·cases h
 split at h
 rotate_left
 ·cases h
 rename_i t els f b t1 e1 kk t2 e2 _ _ _ l p m hrt hl1 hl2
 obtain rfl:=rtsL_eq hrt
 obtain rfl:=intsL_eq hl1
 obtain rfl:=intsL_eq hl2
 obtain ⟨rfl,rfl⟩:=Prod.mk.inj (Option.some.inj h)
 refine ⟨by simp,fun k E hE Q hQ=>?_⟩
 obtain ⟨⟨hll,hsm⟩,hp,hm⟩:=hc
 have hp':p.length≤1000000:=by omega
 have hm':m.length≤1000000:=by omega
 refine Aw_st hE [0,3] [3] fun K hK=>?_
 simp only [go_sem,seval]
 refine hK _ ?_;clear hK K
 refine Aw_st hE [0,3,5] [3] fun K hK=>?_
 simp only [go_sem,seval]
 refine hK _ ?_;clear hK K
 refine Aw_st hE [0,3,5,6] [3] fun K hK=>?_
 simp only [go_sem,seval]
 refine hK _ ?_;clear hK K
 refine Aw_sq fun B1 hB1 hR1 hX1=>?_
 refine Aw_st hE [0,3,5,6,7] [3] fun K hK=>?_
 simp only [go_sem,seval]
 refine hK _ ?_;clear hK K
 refine Aw_bk fun B2 hN2 hE2 hR2 hX2=>?_
 refine Aw_lp (fun i:Nat=>putS l ⟨f,b,p,kk,m⟩ k i (foldP ⟨f,b,p,kk,m⟩ (l.take i))) (fun i=>i≤l.length) (fun i=>l.length - i) 0 (Le_wk (by first | omega | (dsimp only;omega) | (simp only;omega) | (simp;omega)) (by simp only [go_sem,seval];exact ⟨rfl,rfl⟩) (by simp only [go_sem,seval])) (by omega) fun i hi B3 hN3 hR3 hX3=>?_
 have hfl:=foldP_len ⟨f,b,p,kk,m⟩ (l.take i)
 have htl:(l.take i).length≤i:=by rw [List.length_take];omega
 have hst:=foldP_step (r:=⟨f,b,p,kk,m⟩) (l:=l) (i:=i)
 have hend:i=l.length→foldP ⟨f,b,p,kk,m⟩ (l.take i)=foldP ⟨f,b,p,kk,m⟩ l:=fun e=>by rw [e,List.take_length]
 generalize foldP ⟨f,b,p,kk,m⟩ (l.take i)=s at hfl hst hend ⊢
 obtain ⟨out,put⟩:=s
 simp only at hfl
 simp only [putS]
 refine Aw_sq fun B4 hB4 hR4 hX4=>?_
 refine Aw_st hE [0,3,5,6,7,13] [3] fun K hK=>?_
 simp only [go_sem,seval]
 refine hK _ (Aw_cond rfl (fun hc5=>?_) (fun hc5=>?_))
 ·simp only [dte] at hc5
  have hil:i < l.length:=by omega
  have hg:=rrows_at l i hil
  have hst:=hst hil
  generalize l[i]=x at hg hst
  obtain ⟨xf,xb,xp,xk,xm⟩:=x
  refine Aw_skip (hB4 _ ?_)
  refine Aw_sq fun B6 hB6 hR6 hX6=>?_
  refine Aw_bk fun B7 hN7 hE7 hR7 hX7=>?_
  refine Aw_sd hE [0,3,5,6,7,8] [3] 6 (by kernel_rfl) fun K hK=>?_
  simp only [go_sem,seval,hg]
  repeat refine sd0 ?_
  refine hK _ ?_;clear hK K
  refine Aw_sq fun B8 hB8 hR8 hX8=>?_
  cases put with
  | true =>
   have hcs:True:=trivial
   refine Aw_st hE [0,3,5,6,7,8,29] [3] fun K hK=>?_
   simp only [go_sem,seval]
   repeat refine sd0 ?_
   refine hK _ (Aw_no rfl (Aw_skip (hB8 _ ?_)))
   refine Aw_st hE [0,3,5,6,7,36] [3] fun K hK=>?_
   simp only [go_sem,seval]
   refine hK _ (Aw_cond rfl (fun hc12=>?_) (fun hc12=>?_))
   ·have hz:¬ rCmp xf xb f b=0:=by simpa using hc12
    refine Aw_tx hE [0,3,5,6,7] [3] fun K hK=>?_
    simp only [go_sem,seval,hg,rrows_one]
    refine ⟨by omega,⟨rrows_row _,by (try simp only [List.length_append,List.length_singleton]);omega⟩,?_⟩
    refine hK _ (hN7 _ (hB6 _ ?_))
    refine Aw_tx hE [0,3,5,6,7] [3] fun K hK=>?_
    simp only [go_sem,seval]
    repeat refine sd0 ?_
    refine hK _ (hN3 (i + 1) _ (by omega) (by omega) ?_)
    have hs':stepP ⟨f,b,p,kk,m⟩ (out,true) ⟨xf,xb,xp,xk,xm⟩=(out++[⟨xf,xb,xp,xk,xm⟩],true):=by simp [stepP,cK,hz,hcs]
    rw [hst.trans hs']
    exact Le_tk 43 9 rfl
   ·have hz:rCmp xf xb f b=0:=by simpa using hc12
    refine Aw_skip (hN7 _ (hB6 _ ?_))
    refine Aw_tx hE [0,3,5,6,7] [3] fun K hK=>?_
    simp only [go_sem,seval]
    repeat refine sd0 ?_
    refine hK _ (hN3 (i + 1) _ (by omega) (by omega) ?_)
    have hs':stepP ⟨f,b,p,kk,m⟩ (out,true) ⟨xf,xb,xp,xk,xm⟩=(out,true):=by simp [stepP,cK,hz,hcs]
    rw [hst.trans hs']
    exact Le.refl _
  | false =>
   by_cases hcs:0≤rCmp xf xb f b
   ·have d1:decide (0≤rCmp xf xb f b)=true:=decide_eq_true hcs
    refine Aw_st hE [0,3,5,6,7,8,29] [3] fun K hK=>?_
    simp only [go_sem,seval,d1]
    repeat refine sd0 ?_
    refine hK _ (Aw_yes rfl ?_)
    refine Aw_st hE [0,3,5,7,8] [3] fun K hK=>?_
    simp only [go_sem,seval,rrows_one]
    refine ⟨⟨hp',hm'⟩,⟨rrows_row _,by omega⟩,?_⟩
    refine hK _ ?_;clear hK K
    refine Aw_tx hE [0,3,5,6,7,8] [3] fun K hK=>?_
    simp only [go_sem,seval]
    refine hK _ (hB8 _ ?_)
    refine Aw_st hE [0,3,5,6,7,36] [3] fun K hK=>?_
    simp only [go_sem,seval]
    refine hK _ (Aw_cond rfl (fun hc12=>?_) (fun hc12=>?_))
    ·have hz:¬ rCmp xf xb f b=0:=by simpa using hc12
     refine Aw_tx hE [0,3,5,6,7] [3] fun K hK=>?_
     simp only [go_sem,seval,hg,rrows_one]
     refine ⟨by omega,⟨rrows_row _,by (try simp only [List.length_append,List.length_singleton]);omega⟩,?_⟩
     refine hK _ (hN7 _ (hB6 _ ?_))
     refine Aw_tx hE [0,3,5,6,7] [3] fun K hK=>?_
     simp only [go_sem,seval]
     repeat refine sd0 ?_
     refine hK _ (hN3 (i + 1) _ (by omega) (by omega) ?_)
     have hs':stepP ⟨f,b,p,kk,m⟩ (out,false) ⟨xf,xb,xp,xk,xm⟩=(out++[⟨f,b,p,kk,m⟩]++[⟨xf,xb,xp,xk,xm⟩],true):=by simp [stepP,cK,hz,hcs]
     rw [hst.trans hs']
     exact Le_tk 43 9 rfl
    ·have hz:rCmp xf xb f b=0:=by simpa using hc12
     refine Aw_skip (hN7 _ (hB6 _ ?_))
     refine Aw_tx hE [0,3,5,6,7] [3] fun K hK=>?_
     simp only [go_sem,seval]
     repeat refine sd0 ?_
     refine hK _ (hN3 (i + 1) _ (by omega) (by omega) ?_)
     have hs':stepP ⟨f,b,p,kk,m⟩ (out,false) ⟨xf,xb,xp,xk,xm⟩=(out++[⟨f,b,p,kk,m⟩],true):=by simp [stepP,cK,hz,hcs]
     rw [hst.trans hs']
     exact Le_tk 34 9 rfl
   ·have d1:decide (0≤rCmp xf xb f b)=false:=decide_eq_false hcs
    refine Aw_st hE [0,3,5,6,7,8,29] [3] fun K hK=>?_
    simp only [go_sem,seval,d1]
    repeat refine sd0 ?_
    refine hK _ (Aw_no rfl (Aw_skip (hB8 _ ?_)))
    refine Aw_st hE [0,3,5,6,7,36] [3] fun K hK=>?_
    simp only [go_sem,seval]
    refine hK _ (Aw_cond rfl (fun hc12=>?_) (fun hc12=>?_))
    ·have hz:¬ rCmp xf xb f b=0:=by simpa using hc12
     refine Aw_tx hE [0,3,5,6,7] [3] fun K hK=>?_
     simp only [go_sem,seval,hg,rrows_one]
     refine ⟨by omega,⟨rrows_row _,by (try simp only [List.length_append,List.length_singleton]);omega⟩,?_⟩
     refine hK _ (hN7 _ (hB6 _ ?_))
     refine Aw_tx hE [0,3,5,6,7] [3] fun K hK=>?_
     simp only [go_sem,seval]
     repeat refine sd0 ?_
     refine hK _ (hN3 (i + 1) _ (by omega) (by omega) ?_)
     have hs':stepP ⟨f,b,p,kk,m⟩ (out,false) ⟨xf,xb,xp,xk,xm⟩=(out++[⟨xf,xb,xp,xk,xm⟩],false):=by simp [stepP,cK,hz,hcs]
     rw [hst.trans hs']
     exact Le_tk 43 9 rfl
    ·have hz:rCmp xf xb f b=0:=by simpa using hc12
     omega
 ·simp only [dfn] at hc5
  have hst:=hend (by omega)
  refine Aw_exit (hX4 _ _ (hX3 _ _ (hE2 _ (hB1 _ ?_))))
  refine Aw_sq fun B15 hB15 hR15 hX15=>?_
  cases put with
  | true =>
   refine Aw_st hE [3,5,45] [3] fun K hK=>?_
   simp only [go_sem,seval]
   refine hK _ (Aw_no rfl (Aw_skip (hB15 _ ?_)))
   refine Aw_st hE [4] [] fun K hK=>?_
   simp only [go_sem,seval]
   refine hK _ (Aw_ret (hQ _ ?_))
   simp only [go_sem,seval,putG,← hst,List.append_nil]
  | false =>
   refine Aw_st hE [3,5,45] [3] fun K hK=>?_
   simp only [go_sem,seval]
   refine hK _ (Aw_yes rfl ?_)
   refine Aw_tx hE [5] [] fun K hK=>?_
   simp only [go_sem,seval,rrows_one]
   refine ⟨⟨hp',hm'⟩,⟨rrows_row _,by omega⟩,?_⟩
   refine hK _ (hB15 _ ?_)
   refine Aw_st hE [4] [] fun K hK=>?_
   simp only [go_sem,seval]
   refine hK _ (Aw_ret (hQ _ ?_))
   simp only [go_sem,seval,putG,← hst]
theorem atR_neg {l:List Rt} {f b:Int}:(look l (f,b)).isNone=decide (atR l f b < 0):=by
 rcases atR_look l f b with ⟨h1,h2⟩ | ⟨i,h,h1,h2⟩
 ·rw [h1,h2];rfl
 ·rw [h1,h2,decide_eq_false (by omega)];rfl
theorem tellsU_yes {a b:List Rt} {i:Nat} (hi:i < b.length) (h:look a (key b[i])=some b[i]):tellsU a b (i + 1)=tellsU a b i:=by
 rw [tellsU_step hi,if_pos h,List.append_nil]
theorem tellsU_no {a b:List Rt} {i:Nat} (hi:i < b.length) (h:¬ look a (key b[i])=some b[i]):tellsU a b (i + 1)=tellsU a b i++[b[i]]:=by
 rw [tellsU_step hi,if_neg h]
def dS (a b:List Rt) (k i:Nat) (j:Option Nat):St:=⟨83,(0,.sl none (rrows a))::(1,.sl none (rrows b))::(4,.loc 4 0)::(5,.loc 5 0)::(match j with | none=>[(6,iv i)] | some j=>[(7,iv j)]),[(4,[.nl,.nl]),(5,[.sl (some (9,0,33)) (krows (dropsU a b i)),.sl (some (10,0,36)) (rrows (tellsU a b (j.getD 0)))])],k⟩
set_option maxHeartbeats 4000000 in
theorem sDeltaOf_ok:Fine Tryd.prog 12 dDelta.con:=by
 refine fine_det (T:=TT) Tryd.func12 rfl Tryd.ntmps12 (by rw [Tryd.results12]) rfl rfl tt (gs_nil) (ds_cons sRoutesOk_ok (ds_cons l23At_ok (ds_cons l4Cmp_ok (ds_cons l4Copy_ok ds_nil)))) ?_
 intro args c r h hc
 simp only [dDelta,gDelta] at h
 split at h
 rotate_left
 ·cases h
 split at h
 rotate_left
 ·cases h
 rename_i ta e1 tb e2 _ _ a b hrt1 hrt2
 obtain rfl:=rtsL_eq hrt1
 obtain rfl:=rtsL_eq hrt2
 obtain ⟨rfl,rfl⟩:=Prod.mk.inj (Option.some.inj h)
 refine ⟨by simp,fun k E hE Q hQ=>?_⟩
 obtain ⟨hca,hcb⟩:=hc
 have hal:=hca.1
 have hbl:=hcb.1
 refine Aw_st hE [0,1,4] [4,5] fun K hK=>?_
 simp only [go_sem,seval]
 refine hK _ ?_;clear hK K
 refine Aw_st hE [0,1,4,5] [4,5] fun K hK=>?_
 simp only [go_sem,seval]
 refine hK _ ?_;clear hK K
 refine Aw_sq fun B1 hB1 hR1 hX1=>?_
 cases hoa:routesOk a with
 | false =>
  have hd:dropsB a b=[]:=by unfold dropsB;rw [hoa];rfl
  have ht:tellsB a b=[]:=by unfold tellsB;rw [hoa];rfl
  refine Aw_st hE [0,1,4,5,19] [4,5] fun K hK=>?_
  simp only [go_sem,seval,hoa]
  refine ⟨hca,?_⟩
  refine hK _ (Aw_yes rfl ?_)
  refine Aw_st hE [4] [4,5] fun K hK=>?_
  simp only [go_sem,seval]
  refine hK _ (Aw_ret (hR1 _ (hQ _ ?_)))
  simp only [go_sem,seval,hd,ht]
 | true =>
 cases hob:routesOk b with
 | false =>
  have hd:dropsB a b=[]:=by unfold dropsB;rw [hoa,hob];rfl
  have ht:tellsB a b=[]:=by unfold tellsB;rw [hoa,hob];rfl
  refine Aw_st hE [0,1,4,5,19] [4,5] fun K hK=>?_
  simp only [go_sem,seval,hoa,hob]
  refine ⟨hca,hcb,?_⟩
  refine hK _ (Aw_yes rfl ?_)
  refine Aw_st hE [4] [4,5] fun K hK=>?_
  simp only [go_sem,seval]
  refine hK _ (Aw_ret (hR1 _ (hQ _ ?_)))
  simp only [go_sem,seval,hd,ht]
 | true =>
 have hd:dropsB a b=dropsF a b:=by unfold dropsB;rw [hoa,hob];rfl
 have ht:tellsB a b=tellsF a b:=by unfold tellsB;rw [hoa,hob];rfl
 refine Aw_st hE [0,1,4,5,19] [4,5] fun K hK=>?_
 simp only [go_sem,seval,hoa,hob]
 refine ⟨hca,hcb,?_⟩
 refine hK _ (Aw_no rfl (Aw_skip (hB1 _ ?_)))
 refine Aw_sq fun B5 hB5 hR5 hX5=>?_
 refine Aw_st hE [0,1,4,5,6] [4,5] fun K hK=>?_
 simp only [go_sem,seval]
 refine hK _ ?_;clear hK K
 refine Aw_bk fun B6 hN6 hE6 hR6 hX6=>?_
 refine Aw_lp (fun i:Nat=>dS a b k i none) (fun i=>i≤a.length) (fun i=>a.length - i) 0 (Le_wk (by first | omega | (dsimp only;omega) | (simp only;omega) | (simp;omega)) (by simp only [go_sem,seval]) (by simp only [go_sem,seval];exact ⟨rfl,rfl⟩)) (by omega) fun i hi B7 hN7 hR7 hX7=>?_
 have hDl:=dropsU_len a b i
 simp only [dS]
 refine Aw_sq fun B8 hB8 hR8 hX8=>?_
 refine Aw_st hE [0,1,4,5,6,24] [4,5] fun K hK=>?_
 simp only [go_sem,seval]
 refine hK _ (Aw_cond rfl (fun hc9=>?_) (fun hc9=>?_))
 ·simp only [dte] at hc9
  have hil:i < a.length:=by omega
  have hg:=rrows_at a i hil
  have hst:=dropsU_step (b:=b) hil
  generalize a[i]=x at hg hst
  obtain ⟨xf,xb,xp,xk,xm⟩:=x
  simp only [key,atR_neg] at hst
  refine Aw_skip (hB8 _ ?_)
  refine Aw_sq fun B10 hB10 hR10 hX10=>?_
  refine Aw_bk fun B11 hN11 hE11 hR11 hX11=>?_
  refine Aw_st hE [0,1,4,5,6,34] [4,5] fun K hK=>?_
  simp only [go_sem,seval,hg]
  repeat refine sd0 ?_
  refine hK _ (Aw_cond rfl (fun hc12=>?_) (fun hc12=>?_))
  ·rw [hc12,if_pos rfl] at hst
   refine Aw_td hE [0,1,4,5,6] [4,5] 6 (by kernel_rfl) fun K hK=>?_
   simp only [go_sem,seval,hg,krows_one]
   refine ⟨by omega,⟨krows_row _,by omega⟩,?_⟩
   refine hK _ (hN11 _ (hB10 _ ?_))
   refine Aw_tx hE [0,1,4,5,6] [4,5] fun K hK=>?_
   simp only [go_sem,seval]
   repeat refine sd0 ?_
   refine hK _ (hN7 (i + 1) _ (by omega) (by omega) ?_)
   simp only [dS]
   rw [hst]
   exact Le_tk 43 9 rfl
  ·rw [hc12,if_neg (by simp),List.append_nil] at hst
   refine Aw_skip (hN11 _ (hB10 _ ?_))
   refine Aw_tx hE [0,1,4,5,6] [4,5] fun K hK=>?_
   simp only [go_sem,seval]
   repeat refine sd0 ?_
   refine hK _ (hN7 (i + 1) _ (by omega) (by omega) ?_)
   simp only [dS]
   rw [hst]
   exact Le.refl _
 ·simp only [dfn] at hc9
  obtain rfl:i=a.length:=by omega
  refine Aw_exit (hX8 _ _ (hX7 _ _ (hE6 _ (hB5 _ ?_))))
  refine Aw_sq fun B13 hB13 hR13 hX13=>?_
  refine Aw_st hE [0,1,4,5,7] [4,5] fun K hK=>?_
  simp only [go_sem,seval]
  refine hK _ ?_;clear hK K
  refine Aw_bk fun B14 hN14 hE14 hR14 hX14=>?_
  refine Aw_lp (fun i:Nat=>dS a b k a.length (some i)) (fun i=>i≤b.length) (fun i=>b.length - i) 0 (Le.refl _) (by omega) fun i hi B15 hN15 hR15 hX15=>?_
  have hTl:=tellsU_len a b i
  simp only [dS,Option.getD_some]
  refine Aw_sq fun B16 hB16 hR16 hX16=>?_
  refine Aw_st hE [0,1,4,5,7,48] [4,5] fun K hK=>?_
  simp only [go_sem,seval]
  refine hK _ (Aw_cond rfl (fun hc17=>?_) (fun hc17=>?_))
  ·simp only [dte] at hc17
   have hil:i < b.length:=by omega
   have hg:=rrows_at b i hil
   obtain ⟨hxp,hxm⟩:=smallR_at hcb i hil
   have hsty:=fun h=>tellsU_yes (a:=a) hil h
   have hstn:=fun h=>tellsU_no (a:=a) hil h
   generalize b[i]=x at hg hsty hstn hxp hxm
   obtain ⟨xf,xb,xp,xk,xm⟩:=x
   simp only at hxp hxm
   have hxp':xp.length≤1000000:=by omega
   have hxm':xm.length≤1000000:=by omega
   refine Aw_skip (hB16 _ ?_)
   refine Aw_sq fun B18 hB18 hR18 hX18=>?_
   refine Aw_bk fun B19 hN19 hE19 hR19 hX19=>?_
   refine Aw_st hE [0,1,4,5,7,8] [4,5] fun K hK=>?_
   simp only [go_sem,seval,hg]
   repeat refine sd0 ?_
   refine hK _ ?_;clear hK K
   rcases atR_look a xf xb with ⟨h1,h2⟩ | ⟨j,hj,h1,h2⟩
   ·have hst:=hstn (show ¬ look a (xf,xb)=some _ by rw [h2];simp)
    rw [h1]
    refine Aw_sd hE [0,1,4,5,7,71] [4,5] 6 (by kernel_rfl) fun K hK=>?_
    simp only [go_sem,seval]
    refine ⟨fun _=>?_,fun h=>absurd h (by simp)⟩
    refine hK _ (Aw_yes rfl ?_)
    refine Aw_td hE [0,1,4,5,7] [4,5] 6 (by kernel_rfl) fun K hK=>?_
    simp only [go_sem,seval,hg,rrows_one]
    refine ⟨by omega,⟨hxp',hxm'⟩,⟨rrows_row _,by omega⟩,?_⟩
    refine hK _ (hN19 _ (hB18 _ ?_))
    refine Aw_tx hE [0,1,4,5,7] [4,5] fun K hK=>?_
    simp only [go_sem,seval]
    repeat refine sd0 ?_
    refine hK _ (hN15 (i + 1) _ (by omega) (by omega) ?_)
    simp only [dS,Option.getD_some]
    rw [hst]
    exact Le_tk 80 10 rfl
   ·rw [h1]
    have hgj:=rrows_at a j hj
    obtain ⟨hyp,hym⟩:=smallR_at hca j hj
    have h2:look a (xf,xb)=some a[j]:=h2
    generalize a[j]=y at hgj h2 hyp hym
    have hsame:=rtCmp_same (x:=y) (y:=⟨xf,xb,xp,xk,xm⟩)
    obtain ⟨yf,yb,yp,yk,ym⟩:=y
    simp only at hyp hym hsame
    have dj:decide ((j:Int) < 0)=false:=decide_eq_false (by omega)
    have hln:(yp.length≤4294967296∧xp.length≤4294967296)∧ym.length≤4294967296∧xm.length≤4294967296:=by omega
    by_cases he:rtCmp yf yb yp yk ym xf xb xp xk xm=0
    ·have hst:=hsty (show look a (xf,xb)=some _ by rw [h2,hsame.1 he])
     have d1:decide (rtCmp yf yb yp yk ym xf xb xp xk xm=0)=true:=decide_eq_true he
     refine Aw_sd hE [0,1,4,5,7,71] [4,5] 6 (by kernel_rfl) fun K hK=>?_
     simp only [go_sem,seval,hg,hgj,dj,d1,he]
     repeat refine sd0 ?_
     refine hK _ (Aw_no rfl (Aw_skip (hN19 _ (hB18 _ ?_))))
     refine Aw_tx hE [0,1,4,5,7] [4,5] fun K hK=>?_
     simp only [go_sem,seval]
     repeat refine sd0 ?_
     refine hK _ (hN15 (i + 1) _ (by omega) (by omega) ?_)
     simp only [dS,Option.getD_some]
     rw [hst]
     exact Le.refl _
    ·have hst:=hstn (show ¬ look a (xf,xb)=some _ by rw [h2];exact fun e=>he (hsame.2 (Option.some.inj e)))
     have d1:decide (rtCmp yf yb yp yk ym xf xb xp xk xm=0)=false:=decide_eq_false he
     refine Aw_sd hE [0,1,4,5,7,71] [4,5] 6 (by kernel_rfl) fun K hK=>?_
     simp only [go_sem,seval,hg,hgj,dj,d1,he]
     repeat refine sd0 ?_
     refine hK _ (Aw_yes rfl ?_)
     refine Aw_td hE [0,1,4,5,7] [4,5] 6 (by kernel_rfl) fun K hK=>?_
     simp only [go_sem,seval,hg,rrows_one]
     refine ⟨by omega,⟨hxp',hxm'⟩,⟨rrows_row _,by omega⟩,?_⟩
     refine hK _ (hN19 _ (hB18 _ ?_))
     refine Aw_tx hE [0,1,4,5,7] [4,5] fun K hK=>?_
     simp only [go_sem,seval]
     repeat refine sd0 ?_
     refine hK _ (hN15 (i + 1) _ (by omega) (by omega) ?_)
     simp only [dS,Option.getD_some]
     rw [hst]
     exact Le_tk 80 10 rfl
  ·simp only [dfn] at hc17
   obtain rfl:i=b.length:=by omega
   have e1:dropsU a b a.length=dropsF a b:=by unfold dropsU;rw [List.take_length]
   have e2:tellsU a b b.length=tellsF a b:=by unfold tellsU;rw [List.take_length]
   rw [e1,e2]
   refine Aw_exit (hX16 _ _ (hX15 _ _ (hE14 _ (hB13 _ ?_))))
   refine Aw_st hE [4] [4,5] fun K hK=>?_
   simp only [go_sem,seval]
   refine hK _ (Aw_ret (hQ _ ?_))
   simp only [go_sem,seval,hd,ht]
def gPAll:List AV→Option (Prop × AV)
 | [.sl _ e1,.sl _ e2]=>(match clsL e1,rtsL e2 with
  | some l,some rs=>some ((l.length≤1000000∧rs.length≤1000000)∧∀ r ∈ rs,r.path.length≤1000000∧r.marks.length≤1000,.sl none (rrows (polAll l rs)))
  | _,_=>none)
 | _=>none
def dPAll:DFn:={ g:=gPAll }
attribute [go_sem] gPAll dPAll
structure Gt where
 r:Rt
 old:Bool
def Gt.row (g:Gt):List DV:=[.v (.int .i64 g.r.f),.v (.int .i64 g.r.b),.sl (rows g.r.path),.v (.int .i64 g.r.like),.sl (rows g.r.marks),.v (.bool g.old)]
def grows (l:List Gt):List (List DV):=l.map Gt.row
structure Rb where
 h:Int
 up:Bool
 all:List Gt
abbrev Rb.av (b:Rb):AV:=.agg [iv b.h,bv b.up,.sl none (grows b.all)]
def gotsL:List (List DV)→Option (List Gt)
 | []=>some []
 | [.v (.int .i64 f),.v (.int .i64 b),.sl e1,.v (.int .i64 like),.sl e2,.v (.bool old)]::l=>match intsL e1,intsL e2,gotsL l with
  | some p,some m,some r=>some (⟨⟨f,b,p,like,m⟩,old⟩::r)
  | _,_,_=>none
 | _=>none
theorem grows_nil:grows []=[]:=rfl
theorem grows_cons (c:Gt) (l:List Gt):grows (c::l)=c.row::grows l:=rfl
theorem gotsL_rows (l:List Gt):gotsL (grows l)=some l:=by
 induction l with
 | nil=>rfl
 | cons n l ih=>simp only [grows_cons,Gt.row,gotsL,ih,intsL_rows]
theorem grows_len (l:List Gt):(grows l).length=l.length:=by simp [grows]
theorem grows_app (a b:List Gt):grows a++grows b=grows (a++b):=by simp [grows]
attribute [go_sem] gotsL_rows grows_len grows_nil grows_app Gt.row
def gotOk (h:Int) (up:Bool):Option Gt→Gt→Bool
 | q,g=>okR g.r && (decide (g.r.path.head? = some h) && ((up || g.old) && (match q with | none=>true | some q=>decide (rCmp q.r.f q.r.b g.r.f g.r.b < 0))))
def allG (h:Int) (up:Bool):Option Gt→List Gt→Bool
 | _,[]=>true
 | q,g::l=>gotOk h up q g && allG h up (some g) l
def ribOk (b:Rb):Bool:=isH b.h && (decide (b.all.length≤6) && allG b.h b.up none b.all)
def sameRg (f b:Int) (g:Gt):Bool:=decide (g.r.f=f) && decide (g.r.b=b)
def atG (l:List Gt) (f b:Int):Int:=idxB (sameRg f b) l 0
def lensG (l:List Gt):Prop:=∀ g ∈ l,g.r.path.length≤1000∧g.r.marks.length≤900
def gRibOk:List AV→Option (Prop × AV) | [.agg [.v (.int .i64 h),.v (.bool up),.sl _ els]]=>(match gotsL els with | some l=>some (l.length≤1000000∧lensG l,bv (ribOk ⟨h,up,l⟩)) | none=>none) | _=>none
def dRibOk:DFn:={ g:=gRibOk }
def gAt:List AV→Option (Prop × AV) | [.agg [.v (.int .i64 _),.v (.bool _),.sl _ els],.agg [.v (.int .i64 f),.v (.int .i64 b)]]=>(match gotsL els with | some l=>some (l.length≤1000000,iv (atG l f b)) | none=>none) | _=>none
def dAt:DFn:={ g:=gAt }
attribute [go_sem] gRibOk dRibOk gAt dAt

def gcs (g:Gt):List AV:=[iv g.r.f,iv g.r.b,isl g.r.path,iv g.r.like,isl g.r.marks,bv g.old]
def cGs:List Gt→List AV
 | []=>[]
 | g::l=>gcs g++cGs l
theorem setL_app:∀ (xs a b:List AV),xs.length≤b.length→setL (a++b) a.length xs=a++(xs++b.drop xs.length)
 | [],a,b,_=>rfl
 | x::xs,a,[],h=>by simp at h
 | x::xs,a,y::b,h=>by
  have e:(a++y::b).set a.length x=(a++[x])++b:=by simp
  have ih:=setL_app xs (a++[x]) b (by simpa using h)
  rw [List.length_append,List.length_singleton] at ih
  rw [setL,e,ih]
  simp
def copyGs (h:Int) (up:Bool) (l:List Gt) (K:AV→List (Nat × List AV)→Prop):Prop :=
 (l=[]→K (.agg [iv h,bv up,.xs 9 0 0 0 6]) [(2,[iv h,bv up,.xs 9 0 0 0 6]),(9,[])])∧
 (l≠[]→∀ cap,l.length≤cap→K (.agg [iv h,bv up,.xs 35 0 l.length cap 6]) [(2,[iv h,bv up,.xs 35 0 l.length cap 6]),(9,[]),(35,cGs l++jk ((cap - l.length) * 6))])
def cL21:ConM:={
 pre:=fun args m1=>∃ (h:Int) (up:Bool) (l:List Gt),args=[.agg [iv h,bv up,.sl none (grows l)]]∧m1=[]∧l.length≤1000∧lensG l
 post:=fun args _ r m2=>∀ (h:Int) (up:Bool) (l:List Gt),args=[.agg [iv h,bv up,.sl none (grows l)]]→∀ K:AV→List (Nat × List AV)→Prop,copyGs h up l K→K r m2 }
theorem rbav_inj {h h':Int} {up up':Bool} {l l':List Gt} (e:[AV.agg [iv h,bv up,.sl none (grows l)]]=[AV.agg [iv h',bv up',.sl none (grows l')]]):h=h'∧up=up'∧l=l':=by
 simp only [List.cons.injEq,AV.agg.injEq,AV.v.injEq,Value.int.injEq,Value.bool.injEq,AV.sl.injEq,true_and,and_true] at e
 refine ⟨e.1,e.2.1,?_⟩
 have:=congrArg gotsL e.2.2
 rw [gotsL_rows,gotsL_rows] at this
 exact Option.some.inj this
theorem l21_pre (h:Int) (up:Bool) (l:List Gt):cL21.pre [.agg [iv h,bv up,.sl none (grows l)]] []=(l.length≤1000∧lensG l):=by
 apply propext
 constructor
 ·rintro ⟨h',up',l',e,_,h2⟩
  obtain ⟨rfl,rfl,rfl⟩:=rbav_inj e
  exact h2
 ·exact fun hh=>⟨h,up,l,rfl,rfl,hh⟩
theorem l21_post (h:Int) (up:Bool) (l:List Gt) (m1:List (Nat × List AV)) (K:AV→List (Nat × List AV)→Prop):(∀ r m2,cL21.post [.agg [iv h,bv up,.sl none (grows l)]] m1 r m2→K r m2)=copyGs h up l K:=by
 apply propext
 constructor
 ·intro hh
  refine ⟨fun hl=>hh _ _ ?_,fun hl cap hc=>hh _ _ ?_⟩
  all_goals
   intro h' up' l' e K' hK'
   obtain ⟨rfl,rfl,rfl⟩:=rbav_inj e
   first | exact hK'.1 hl | exact hK'.2 hl cap hc
 ·exact fun hh r m2 hp=>hp h up l rfl K hh
attribute [go_sem] l21_pre l21_post copyGs
def gRibUp:List AV→Option (Prop × AV)
 | [.agg [.v (.int .i64 h),.v (.bool up),.sl _ els]]=>(match gotsL els with
  | some l=>some (l.length≤1000∧lensG l,if ribOk ⟨h,up,l⟩ then .agg [iv h,bv true,.sl none (grows l)] else .agg [iv 0,bv false,.sl none (grows [])])
  | none=>none)
 | _=>none
def dRibUp:DFn:={ g:=gRibUp }
attribute [go_sem] gRibUp dRibUp
def oldG (g:Gt):Gt:=⟨g.r,true⟩
def gRibDown:List AV→Option (Prop × AV)
 | [.agg [.v (.int .i64 h),.v (.bool up),.sl _ els],.v (.bool g)]=>(match gotsL els with
  | some l=>some (l.length≤1000∧lensG l,if ribOk ⟨h,up,l⟩ then .agg [iv h,bv false,.sl none (grows (if g then l.map oldG else []))] else .agg [iv 0,bv false,.sl none (grows [])])
  | none=>none)
 | _=>none
def dRibDown:DFn:={ g:=gRibDown }
attribute [go_sem] gRibDown dRibDown
def newG (g:Gt):Gt:=⟨g.r,false⟩
def endL:List Gt→List Gt
 | []=>[]
 | g::l=>(if g.old then [] else [newG g])++endL l
def gRibEnd:List AV→Option (Prop × AV)
 | [.agg [.v (.int .i64 h),.v (.bool up),.sl _ els]]=>(match gotsL els with
  | some l=>some (l.length≤1000∧lensG l,if ribOk ⟨h,up,l⟩ then .agg [iv h,bv up,.sl none (grows (endL l))] else .agg [iv 0,bv false,.sl none (grows [])])
  | none=>none)
 | _=>none
def dRibEnd:DFn:={ g:=gRibEnd }
attribute [go_sem] gRibEnd dRibEnd
def telStep (x:Rt) (s:List Gt × Bool) (g:Gt):List Gt × Bool :=
 if !s.2 && decide (0 < rCmp g.r.f g.r.b x.f x.b) then (s.1++[⟨x,false⟩]++[g],true) else (s.1++[g],s.2)
def telG (x:Rt) (l:List Gt):List Gt × Bool:=l.foldl (telStep x) ([],false)
def telL (x:Rt) (l:List Gt):List Gt:=if (telG x l).2 then (telG x l).1 else (telG x l).1++[⟨x,false⟩]
def telR (b : Rb) (x : Rt) : AV :=
  if ribOk b && (okR x && decide (x.path.head? = some b.h)) then
    (if !b.up || (decide (atG b.all x.f x.b < 0) && decide (6 ≤ b.all.length)) then .tup [b.av, bv false]
     else if decide (0 ≤ atG b.all x.f x.b) then .tup [(⟨b.h, b.up, b.all.set (atG b.all x.f x.b).toNat ⟨x, false⟩⟩ : Rb).av, bv true]
     else .tup [(⟨b.h, b.up, telL x b.all⟩ : Rb).av, bv true])
  else .tup [.agg [iv 0, bv false, .sl none (grows [])], bv false]
def gRibTell:List AV→Option (Prop × AV)
 | [.agg [.v (.int .i64 h),.v (.bool up),.sl _ els],.agg [.v (.int .i64 f),.v (.int .i64 b),.sl _ e1,.v (.int .i64 k),.sl _ e2]]=>(match gotsL els,intsL e1,intsL e2 with
  | some l,some p,some m=>some ((l.length≤1000∧lensG l)∧p.length≤1000∧m.length≤900,telR ⟨h,up,l⟩ ⟨f,b,p,k,m⟩)
  | _,_,_=>none)
 | _=>none
def dRibTell:DFn:={ g:=gRibTell }
attribute [go_sem] gRibTell dRibTell
theorem Le_ks {st:St} (Ls Lm:List Nat):Le st (st.keep Ls Lm) :=
 Le_of (fun x=>by rw [lk_kps];split;exact .inl rfl;exact .inr rfl) (fun k ls hk=>lkm_kpm k _ Lm ls hk)
theorem swbAll_app (d d':Nat) (a b:List AV):AV.swbAll d d' (a++b)=AV.swbAll d d' a++AV.swbAll d d' b:=by simp only [AV.swbAll_eq,List.map_append]
theorem swbAll_jk (d d' n:Nat):AV.swbAll d d' (List.replicate n .junk)=List.replicate n .junk:=by simp only [AV.swbAll_eq,List.map_replicate,AV.swb]
theorem Le_kb {st st':St} (L:List Nat) (h:({ st with m:=kpm L st.m }:St)=st'):Le st st':=by
 subst h
 exact Le_of (fun x=>.inl rfl) (fun k ls hk=>lkm_kpm k _ L ls hk)
theorem Le_E {E:En} {a b:St} (h:Le a b):LeE E a b:=fun x w r=>h E x w r
def rcs (g:Rt):List AV:=[iv g.f,iv g.b,isl g.path,iv g.like,isl g.marks]
def cRs:List Rt→List AV
 | []=>[]
 | g::l=>rcs g++cRs l
theorem cRs_len:∀ l:List Rt,(cRs l).length=l.length * 5
 | []=>rfl
 | g::l=>by
  rw [cRs,List.length_append,cRs_len l,List.length_cons]
  simp [rcs]
  omega
theorem cRs_app:∀ a b:List Rt,cRs (a++b)=cRs a++cRs b
 | [],_=>rfl
 | g::a,b=>by rw [List.cons_append,cRs,cRs_app a b,cRs,List.append_assoc]
theorem rcs_flat (f b:Int) (p:List Int) (k:Int) (m:List Int):List.take 5 (flatA [[DV.v (.int .i64 f),.v (.int .i64 b),.sl (rows p),.v (.int .i64 k),.sl (rows m)]])=rcs ⟨f,b,p,k,m⟩:=rfl
theorem rcs_leaf (g:Rt):allLeaf (rcs g)=true:=rfl
theorem rcs_strip (d:Nat) (g:Rt):AV.stripLAll d (rcs g)=rcs g:=rfl
theorem cRs_strip (d:Nat):∀ l:List Rt,AV.stripLAll d (cRs l)=cRs l
 | []=>rfl
 | g::l=>by
  rw [AV.stripLAll_eq,cRs,List.map_append,← AV.stripLAll_eq,← AV.stripLAll_eq,rcs_strip,cRs_strip d l]
theorem cRs_nt:∀ l:List Rt,AV.ntAll (cRs l)=cRs l
 | []=>rfl
 | g::l=>by
  rw [ntAll_eq,cRs,List.map_append,← ntAll_eq,← ntAll_eq,cRs_nt l]
  rfl
theorem cRs_take (l:List Rt) (r:List AV):List.take (l.length * 5) (cRs l++r)=cRs l:=by
 rw [List.take_left' (cRs_len l)]
theorem cRs_in (l:List Rt) (g:Rt) (n:Nat) (h:1≤n):setL (cRs l++jk (n * 5)) (l.length * 5) (rcs g)=cRs (l++[g])++jk ((n - 1) * 5):=by
 rw [← cRs_len l,setL_app _ _ _ (by simp [rcs];omega),cRs_app]
 simp only [cRs,List.append_nil,List.append_assoc]
 congr 2
 have:(rcs g).length=5:=rfl
 rw [this,List.drop_replicate]
 congr 1
 omega
def rD:List Rt→List DV
 | []=>[]
 | g::l=>g.row++rD l
theorem rD_len:∀ l:List Rt,(rD l).length=l.length * 5
 | []=>rfl
 | g::l=>by
  rw [rD,List.length_append,rD_len l,List.length_cons]
  simp [Rt.row]
  omega
theorem ofAll_cRs:∀ l:List Rt,DV.ofAll (cRs l)=some (rD l)
 | []=>rfl
 | g::l=>by
  have ih:=ofAll_cRs l
  simp only [cRs,rcs,List.cons_append,List.nil_append,DV.ofAll,DV.ofAV,ih,rD,Rt.row]
theorem chunks_rD:∀ l:List Rt,chunks 5 l.length (rD l)=rrows l
 | []=>rfl
 | g::l=>by
  have h5:g.row.length=5:=rfl
  rw [List.length_cons,chunks,rD,rrows_cons,List.take_left' h5,List.drop_left' h5,chunks_rD l]
theorem frz_rrows (l:List Rt):chunks 5 l.length (List.take (l.length * 5) (rD l))=rrows l:=by
 rw [List.take_of_length_le (Nat.le_of_eq (rD_len l)),chunks_rD]
theorem cRs_mvn (f:Nat→Option Nat):∀ l:List Rt,AV.mvnAll f (cRs l)=cRs l
 | []=>rfl
 | g::l=>by
  have ih:=cRs_mvn f l
  simp only [cRs,rcs,List.cons_append,List.nil_append,AV.mvnAll,AV.mvn,ih]
theorem cRs_stripF (F:Nat→Bool):∀ l:List Rt,AV.stripFAll F (cRs l)=cRs l
 | []=>rfl
 | g::l=>by
  have ih:=cRs_stripF F l
  simp only [cRs,rcs,List.cons_append,List.nil_append,AV.stripFAll,AV.stripF,ih]
theorem cRs_frz (d:Nat) (ys:List DV):∀ l:List Rt,AV.frzAll d ys (cRs l)=cRs l
 | []=>rfl
 | g::l=>by
  have ih:=cRs_frz d ys l
  simp only [cRs,rcs,List.cons_append,List.nil_append,AV.frzAll,AV.frz,ih]
theorem Aw_fR {E:En} {tb:Tb} (hE:TbOk E tb) (ht:tb.lent=false) {c:Code} {st:St} {Q:Exit→St→Prop} (d:Nat) (L:List Rt) {rest:List AV} (hl:lkm d st.m=some (cRs L++rest)) (h:Aw E c (st.frz d (rD L)) Q) (hk0:bk d=0:=by decide):Aw E c st Q :=
 Aw_frz hE ht d (L.length * 5) hl (by rw [List.take_left' (cRs_len L)];exact ofAll_cRs L) h hk0
theorem rcs_swb (d d':Nat) (g:Rt):AV.swbAll d d' (rcs g)=rcs g:=rfl
theorem cRs_swb (d d':Nat):∀ l:List Rt,AV.swbAll d d' (cRs l)=cRs l
 | []=>rfl
 | g::l=>by rw [cRs,swbAll_app,rcs_swb,cRs_swb d d' l]
theorem cRs_stk (d:Nat):∀ l:List Rt,AV.stripAll d (cRs l)=cRs l
 | []=>rfl
 | g::l=>by
  rw [AV.stripAll_eq,cRs,List.map_append,← AV.stripAll_eq,← AV.stripAll_eq,cRs_stk d l]
  rfl
theorem cRj_stk (d n:Nat) (l:List Rt):AV.stripAll d (cRs l++jk n)=cRs l++jk n:=by
 rw [AV.stripAll_eq,List.map_append,← AV.stripAll_eq,cRs_stk]
 simp [jk,AV.strip]
theorem cRj_str (d n:Nat) (l:List Rt):AV.stripLAll d (cRs l++jk n)=cRs l++jk n:=by
 rw [AV.stripLAll_eq,List.map_append,← AV.stripLAll_eq,cRs_strip]
 simp [jk,AV.stripL]
def putC (l:List Rt) (r:Rt) (K:AV→List (Nat × List AV)→Prop):Prop :=
 ∀ cap,(putG l r).length≤cap→K (.xs 900 0 (putG l r).length cap 5) [(900,cRs (putG l r)++jk ((cap - (putG l r).length) * 5))]
def cPutM:ConM:={
 pre:=fun args m1=>∃ (l:List Rt) (r:Rt),args=[.sl none (rrows l),r.av]∧m1=[]∧l.length≤1000∧r.path.length≤1000∧r.marks.length≤900
 post:=fun args _ z m2=>∀ (l:List Rt) (r:Rt),args=[.sl none (rrows l),r.av]→∀ K:AV→List (Nat × List AV)→Prop,putC l r K→K z m2 }
theorem rrav_inj {l l':List Rt} {r r':Rt} (e:[AV.sl none (rrows l),r.av]=[AV.sl none (rrows l'),r'.av]):l=l'∧r=r':=by
 obtain ⟨f,b,p,k,m⟩:=r
 obtain ⟨f',b',p',k',m'⟩:=r'
 simp only [List.cons.injEq,AV.agg.injEq,AV.v.injEq,Value.int.injEq,AV.sl.injEq,true_and,and_true] at e
 obtain ⟨e1,e2,e3,e4,e5,e6⟩:=e
 have h1:=congrArg rtsL e1
 have h4:=congrArg intsL e4
 have h6:=congrArg intsL e6
 rw [rtsL_rows,rtsL_rows] at h1
 rw [intsL_rows,intsL_rows] at h4 h6
 rw [Option.some.inj h1,e2,e3,Option.some.inj h4,e5,Option.some.inj h6]
 exact ⟨rfl,rfl⟩
def putT (l:List Rt) (r:Rt) (i:Nat) (q:List Rt × Bool × Nat):St:=⟨52,[(0,.sl none (rrows l)),(3,.loc 3 0),(5,.xs 43 0 q.1.length q.2.2 5),(6,bv q.2.1),(7,iv i)],[(3,[iv r.f,iv r.b,isl r.path,iv r.like,isl r.marks]),(43,cRs q.1++jk ((q.2.2 - q.1.length) * 5))],0⟩
def putJ (l:List Rt) (r:Rt) (i:Nat) (c:Int) (q:List Rt × Bool × Nat):St:=⟨52,[(0,.sl none (rrows l)),(3,.loc 3 0),(5,.xs 43 0 q.1.length q.2.2 5),(6,bv q.2.1),(7,iv i),(8,iv c)],[(3,[iv r.f,iv r.b,isl r.path,iv r.like,isl r.marks]),(43,cRs q.1++jk ((q.2.2 - q.1.length) * 5))],0⟩
theorem l23PutM_ok:FineM Tryd.prog 37 cPutM:=by
 refine fineM_of [] ms_nil [] mm_nil [9,34,43,50] [] ex_nil (T:=TT) Tryd.func37 rfl Tryd.ntmps37 (by rw [Tryd.results37]) rfl rfl tt gs_nil (ds_cons l1Cmp_ok (ds_cons l4Copy_ok ds_nil)) ?_
 rintro args m1 ⟨l,⟨f,b,p,kk,m⟩,rfl,rfl,hll,hp,hm⟩
 refine ⟨by simp,fun E hE Q hQ=>?_⟩
 simp only at hp hm
 have hp':p.length≤1000000:=by omega
 have hm':m.length≤1000000:=by omega
 refine Aw_st hE [0,3] [3,9,34,43,50] fun K hK=>?_
 simp only [go_sem,seval]
 refine hK _ ?_;clear hK K
 refine Aw_st hE [0,3,5] [3,9,34,43,50] fun K hK=>?_
 simp only [go_sem,seval]
 refine hK _ ?_;clear hK K
 refine Aw_st hE [0,3,5,6] [3,9,34,43,50] fun K hK=>?_
 simp only [go_sem,seval]
 refine hK _ ?_;clear hK K
 refine Aw_sq fun B1 hB1 hR1 hX1=>?_
 refine Aw_st hE [0,3,5,6,7] [3,9,34,43,50] fun K hK=>?_
 simp only [go_sem,seval]
 refine hK _ ?_;clear hK K
 refine Aw_bk fun B2 hN2 hE2 hR2 hX2=>?_
 refine Aw_lp (fun i:Nat × Nat=>putT l ⟨f,b,p,kk,m⟩ i.1 ((foldP ⟨f,b,p,kk,m⟩ (l.take i.1)).1,(foldP ⟨f,b,p,kk,m⟩ (l.take i.1)).2,i.2)) (fun i=>i.1≤l.length∧(foldP ⟨f,b,p,kk,m⟩ (l.take i.1)).1.length≤i.2) (fun i=>l.length - i.1) (0,0) (Le_bx 9 43 (by decide) (by decide) rfl) ⟨by simp,by simp [foldP]⟩ fun i hi B3 hN3 hR3 hX3=>?_
 obtain ⟨i,c⟩:=i
 obtain ⟨hi,hcap⟩:=hi
 simp only at hi hcap
 have hfl:=foldP_len ⟨f,b,p,kk,m⟩ (l.take i)
 have htl:(l.take i).length≤i:=by rw [List.length_take];omega
 have hst:=foldP_step (r:=⟨f,b,p,kk,m⟩) (l:=l) (i:=i)
 have hend:i=l.length→foldP ⟨f,b,p,kk,m⟩ (l.take i)=foldP ⟨f,b,p,kk,m⟩ l:=fun e=>by rw [e,List.take_length]
 generalize foldP ⟨f,b,p,kk,m⟩ (l.take i)=s at hfl hst hend hcap ⊢
 obtain ⟨out,put⟩:=s
 simp only at hfl hcap
 simp only [putT]
 refine Aw_sq fun B4 hB4 hR4 hX4=>?_
 refine Aw_st hE [0,3,5,6,7,13] [3,9,34,43,50] fun K hK=>?_
 simp only [go_sem,seval,cRs_nt,cRs_stripF]
 refine hK _ (Aw_cond rfl (fun hc5=>?_) (fun hc5=>?_))
 ·simp only [dte] at hc5
  have hil:i < l.length:=by omega
  have hg:=rrows_at l i hil
  have hst:=hst hil
  generalize l[i]=x at hg hst
  obtain ⟨xf,xb,xp,xk,xm⟩:=x
  refine Aw_skip (hB4 _ ?_)
  refine Aw_sq fun B6 hB6 hR6 hX6=>?_
  refine Aw_bk fun B7 hN7 hE7 hR7 hX7=>?_
  refine Aw_sd hE [0,3,5,6,7,8] [3,9,34,43,50] 6 (by kernel_rfl) fun K hK=>?_
  simp only [go_sem,seval,hg,cRs_nt,cRs_stripF]
  repeat refine sd0 ?_
  refine hK _ ?_;clear hK K
  refine Aw_sqJ (fun q:List Rt × Bool × Nat=>putJ l ⟨f,b,p,kk,m⟩ i (rCmp xf xb f b) q) (fun q=>q.1.length≤q.2.2∧q.1.length≤2001∧stepP ⟨f,b,p,kk,m⟩ (out,put) ⟨xf,xb,xp,xk,xm⟩=(q.1++(if rCmp xf xb f b=0 then [] else [⟨xf,xb,xp,xk,xm⟩]),q.2.1)) (fun q hq=>?_) fun B8 hB8 hR8 hX8=>?_
  ·obtain ⟨o,u,c2⟩:=q
   obtain ⟨hq1,hq2,hq3⟩:=hq
   simp only at hq1 hq2 hq3
   simp only [putJ]
   refine Aw_st hE [0,3,5,6,7,36] [3,9,34,43,50] fun K hK=>?_
   simp only [go_sem,seval,cRs_nt,cRs_stripF]
   refine hK _ (Aw_cond rfl (fun hc12=>?_) (fun hc12=>?_))
   ·have hz:¬ rCmp xf xb f b=0:=by simpa using hc12
    rw [if_neg hz] at hq3
    have hin:=cRs_in o ⟨xf,xb,xp,xk,xm⟩ (c2 - o.length)
    have htk2:=cRs_take o (jk ((c2 - o.length) * 5))
    refine Aw_tx hE [0,3,5,6,7] [3,9,34,43,50] fun K hK=>?_
    simp only [go_sem,seval,hg,rcs_flat,rcs_leaf,rcs_strip,htk2,cRs_strip,cRs_nt,cRs_stripF,cRj_stk,cRj_str]
    refine ⟨by omega,⟨by simp,by omega,by rw [List.length_append,cRs_len,List.length_replicate];omega⟩,fun hle=>?_,fun hgt cap hcap=>?_⟩
    ·rw [hin (by omega)]
     refine hK _ (hN7 _ (hB6 _ ?_))
     refine Aw_tx hE [0,3,5,6,7] [3,9,34,43,50] fun K hK=>?_
     simp only [go_sem,seval,cRs_nt,cRs_stripF]
     repeat refine sd0 ?_
     refine hK _ (hN3 (i + 1,c2) _ ⟨by simp only;omega,by simp only [hst.trans hq3,List.length_append,List.length_singleton];omega⟩ (by simp only;omega) ?_)
     simp only [hst.trans hq3,putT]
     rw [List.length_append,List.length_singleton,show c2 - o.length - 1=c2 - (o.length + 1) by omega]
     exact Le.refl _
    ·refine hK _ (hN7 _ (hB6 _ ?_))
     refine Aw_tx hE [0,3,5,6,7] [3,9,34,43,50] fun K hK=>?_
     simp only [go_sem,seval,cRs_nt,cRs_stripF]
     repeat refine sd0 ?_
     refine hK _ (hN3 (i + 1,cap) _ ⟨by simp only;omega,by simp only [hst.trans hq3,List.length_append,List.length_singleton];omega⟩ (by simp only;omega) ?_)
     simp only [hst.trans hq3,putT]
     rw [List.length_append,List.length_singleton,cRs_app]
     simp only [cRs,List.append_nil]
     exact Le.refl _
   ·have hz:rCmp xf xb f b=0:=by simpa using hc12
    rw [if_pos hz,List.append_nil] at hq3
    refine Aw_skip (hN7 _ (hB6 _ ?_))
    refine Aw_tx hE [0,3,5,6,7] [3,9,34,43,50] fun K hK=>?_
    simp only [go_sem,seval,cRs_nt,cRs_stripF]
    repeat refine sd0 ?_
    refine hK _ (hN3 (i + 1,c2) _ ⟨by simp only;omega,by simp only [hst.trans hq3];exact hq1⟩ (by simp only;omega) ?_)
    simp only [hst.trans hq3,putT]
    exact Le.refl _
  ·cases put with
   | true =>
    refine Aw_st hE [0,3,5,6,7,8,29] [3,9,34,43,50] fun K hK=>?_
    simp only [go_sem,seval,cRs_nt,cRs_stripF]
    repeat refine sd0 ?_
    refine hK _ (Aw_no rfl (Aw_skip (hB8 (out,true,c) _ ⟨hcap,by simp only;omega,by simp [stepP,cK];rfl⟩ (Le_E (Le_ks [0,3,5,6,7,8] [3,43])))))
   | false =>
    by_cases hcs:0≤rCmp xf xb f b
    ·have d1:decide (0≤rCmp xf xb f b)=true:=decide_eq_true hcs
     refine Aw_st hE [0,3,5,6,7,8,29] [3,9,34,43,50] fun K hK=>?_
     simp only [go_sem,seval,d1,cRs_nt,cRs_stripF]
     repeat refine sd0 ?_
     refine hK _ (Aw_yes rfl ?_)
     have hin:=cRs_in out ⟨f,b,p,kk,m⟩ (c - out.length)
     have htk2:=cRs_take out (jk ((c - out.length) * 5))
     refine Aw_st hE [0,3,5,7,8] [3,9,34,43,50] fun K hK=>?_
     simp only [go_sem,seval,rcs_flat,rcs_leaf,rcs_strip,htk2,cRs_strip,cRs_nt,cRs_stripF,cRj_stk,cRj_str]
     refine ⟨⟨hp',hm'⟩,⟨by simp,by omega,by rw [List.length_append,cRs_len,List.length_replicate];omega⟩,fun hle=>?_,fun hgt cap hcap=>?_⟩
     ·rw [hin (by omega)]
      refine hK _ ?_;clear hK K
      refine Aw_tx hE [0,3,5,6,7,8] [3,9,34,43,50] fun K hK=>?_
      simp only [go_sem,seval,cRs_nt,cRs_stripF]
      refine hK _ (hB8 (out++[⟨f,b,p,kk,m⟩],true,c) _ ⟨by simp;omega,by simp;omega,by simp [stepP,cK,hcs];rfl⟩ (Le_E ?_))
      simp only [putJ]
      rw [List.length_append,List.length_singleton,show c - out.length - 1=c - (out.length + 1) by omega]
      exact Le_ks [0,3,5,6,7,8] [3,43]
     ·refine hK _ ?_;clear hK K
      refine Aw_tx hE [0,3,5,6,7,8] [3,9,34,43,50] fun K hK=>?_
      simp only [go_sem,seval,cRs_nt,cRs_stripF]
      refine hK _ (hB8 (out++[⟨f,b,p,kk,m⟩],true,cap) _ ⟨by simp;omega,by simp;omega,by simp [stepP,cK,hcs];rfl⟩ (Le_E ?_))
      refine (Le_swb _ 34 43 (by decide) (by decide)).trans ?_
      simp only [St.swb,swbσ,swbm,AV.swb,AV.swbAll,swp,swbAll_app,swbAll_jk,rcs_swb,cRs_swb,Nat.reduceEqDiff,if_true,if_false,reduceIte,putJ]
      rw [List.length_append,List.length_singleton,cRs_app]
      simp only [cRs,List.append_nil]
      exact Le_ks [0,3,5,6,7,8] [3,43]
    ·have d1:decide (0≤rCmp xf xb f b)=false:=decide_eq_false hcs
     refine Aw_st hE [0,3,5,6,7,8,29] [3,9,34,43,50] fun K hK=>?_
     simp only [go_sem,seval,d1,cRs_nt,cRs_stripF]
     repeat refine sd0 ?_
     refine hK _ (Aw_no rfl (Aw_skip (hB8 (out,false,c) _ ⟨hcap,by simp only;omega,by simp [stepP,cK,hcs];rfl⟩ (Le_E (Le_ks [0,3,5,6,7,8] [3,43])))))
 ·simp only [dfn] at hc5
  have hst:=hend (by omega)
  refine Aw_exit (hX4 _ _ (hX3 _ _ (hE2 _ (hB1 _ ?_))))
  refine Aw_sq fun B15 hB15 hR15 hX15=>?_
  cases put with
  | true =>
   have hpg:putG l ⟨f,b,p,kk,m⟩=out:=by rw [putG,← hst];simp
   refine Aw_st hE [3,5,45] [3,9,34,43,50] fun K hK=>?_
   simp only [go_sem,seval,cRs_nt,cRs_stripF]
   refine hK _ (Aw_no rfl (Aw_skip (hB15 _ ?_)))
   refine Aw_st hE [4] [3,9,34,43,50] fun K hK=>?_
   simp only [go_sem,seval,cRs_nt,cRs_stripF]
   refine hK _ ?_
   refine Aw.leE (Le_E (Le_swb _ 43 900 (by decide) (by decide))) ?_
   simp only [St.swb,swbσ,swbm,AV.swb,AV.swbAll,swp,swbAll_app,swbAll_jk,rcs_swb,cRs_swb,Nat.reduceEqDiff,if_true,if_false,reduceIte]
   refine Aw.leE (Le_E (Le_ks [4] [900])) ?_
   refine Aw_ret (hQ _ ?_)
   simp only [go_sem,seval,cRs_nt,cRs_stripF]
   intro l' r' he K' hK'
   obtain ⟨rfl,rfl⟩:=rrav_inj (r:=⟨f,b,p,kk,m⟩) he
   have:=hK' c
   rw [hpg] at this
   exact this hcap
  | false =>
   have hpg:putG l ⟨f,b,p,kk,m⟩=out++[⟨f,b,p,kk,m⟩]:=by rw [putG,← hst];simp
   refine Aw_st hE [3,5,45] [3,9,34,43,50] fun K hK=>?_
   simp only [go_sem,seval,cRs_nt,cRs_stripF]
   refine hK _ (Aw_yes rfl ?_)
   have hin:=cRs_in out ⟨f,b,p,kk,m⟩ (c - out.length)
   have htk2:=cRs_take out (jk ((c - out.length) * 5))
   refine Aw_tx hE [5] [3,9,34,43,50] fun K hK=>?_
   simp only [go_sem,seval,rcs_flat,rcs_leaf,rcs_strip,htk2,cRs_strip,cRs_nt,cRs_stripF,cRj_stk,cRj_str]
   refine ⟨⟨hp',hm'⟩,⟨by simp,by omega,by rw [List.length_append,cRs_len,List.length_replicate];omega⟩,fun hle=>?_,fun hgt cap hcap=>?_⟩
   ·rw [hin (by omega)]
    refine hK _ (hB15 _ ?_)
    refine Aw_st hE [4] [3,9,34,43,50] fun K hK=>?_
    simp only [go_sem,seval,cRs_nt,cRs_stripF]
    refine hK _ ?_
    refine Aw.leE (Le_E (Le_swb _ 43 900 (by decide) (by decide))) ?_
    simp only [St.swb,swbσ,swbm,AV.swb,AV.swbAll,swp,swbAll_app,swbAll_jk,rcs_swb,cRs_swb,Nat.reduceEqDiff,if_true,if_false,reduceIte]
    refine Aw.leE (Le_E (Le_ks [4] [900])) ?_
    refine Aw_ret (hQ _ ?_)
    simp only [go_sem,seval,cRs_nt,cRs_stripF]
    intro l' r' he K' hK'
    obtain ⟨rfl,rfl⟩:=rrav_inj (r:=⟨f,b,p,kk,m⟩) he
    have:=hK' c
    rw [hpg,List.length_append,List.length_singleton] at this
    exact this (by omega)
   ·refine hK _ (hB15 _ ?_)
    refine Aw_st hE [4] [3,9,34,43,50] fun K hK=>?_
    simp only [go_sem,seval,cRs_nt,cRs_stripF]
    refine hK _ ?_
    refine Aw.leE (Le_E (Le_swb _ 50 900 (by decide) (by decide))) ?_
    simp only [St.swb,swbσ,swbm,AV.swb,AV.swbAll,swp,swbAll_app,swbAll_jk,rcs_swb,cRs_swb,Nat.reduceEqDiff,if_true,if_false,reduceIte]
    refine Aw.leE (Le_E (Le_ks [4] [900])) ?_
    refine Aw_ret (hQ _ ?_)
    simp only [go_sem,seval,cRs_nt,cRs_stripF]
    intro l' r' he K' hK'
    obtain ⟨rfl,rfl⟩:=rrav_inj (r:=⟨f,b,p,kk,m⟩) he
    have:=hK' cap
    rw [hpg,List.length_append,List.length_singleton,cRs_app] at this
    simp only [cRs,List.append_nil] at this
    exact this hcap
def cFromD:Con:={ pre:=fun args=>∃ h:Int,args=[.rd,iv h],post:=fun _ r=>∃ x:Rt,(x.path.length≤3∧x.marks.length≤9)∧r=x.av,cost:=30,draws:=true }
theorem cFromD_own:cFromD.own=false:=rfl
theorem cFromD_draws:cFromD.draws=true:=rfl
theorem cFromD_cost:cFromD.cost=30:=rfl
attribute [go_sem] cFromD_own cFromD_draws cFromD_cost
theorem l92From_ok:Fine Tryd.prog 46 cFromD:=by
 refine fine_of (T:=TT) Tryd.func46 rfl Tryd.ntmps46 (by rw [Tryd.results46]) rfl rfl tt (gs_cons l91Range_ok (gs_cons pick_ok (gs_cons l91Marks_ok gs_nil))) (ds_cons sRangeOk_ok (ds_cons has3_ok ds_nil)) ?_
 rintro args ⟨h0,rfl⟩
 refine ⟨by simp,fun k hk E hE Q hQ=>?_⟩
 have hk:=hk rfl
 simp only [go_sem] at hk
 refine Aw_st hE [0,1,4] [4] fun K hK=>?_
 simp only [go_sem,seval]
 repeat refine sd0 ?_
 refine hK _ ?_;clear hK K
 refine Aw_st hE [0,4,5] [4,5] fun K hK=>?_
 simp only [go_sem,seval,rows_one]
 repeat refine sd0 ?_
 repeat' (first | (refine And.intro (by first | omega | decide) ?_) | intro)
 rename_i f b hfb like hl1 hl2 ms hms
 refine hK _ ?_;clear hK K
 refine Aw_sqJ (fun q:Int × Int=>⟨52,[(0,.rd),(4,.loc 4 0),(5,.loc 5 0)],[(4,[iv 0,iv 0,.nl,iv 0,.nl]),(5,[iv q.1,iv q.2,.sl (some (11,0,3)) (rows [h0]),iv like,.sl (some (15,0,3)) (rows ms)])],k + 18⟩) (fun q:Int × Int=>True) (fun i hi=>?_) fun B1 hB1 hR1 hX1=>?_
 ·refine Aw_sqJ (fun q:Int × Int=>⟨52,[(0,.rd),(4,.loc 4 0),(5,.loc 5 0)],[(4,[iv 0,iv 0,.nl,iv 0,.nl]),(5,[iv q.1,iv q.2,.sl (some (11,0,3)) (rows [h0]),iv like,.sl (some (15,0,3)) (rows ms)])],k + 20⟩) (fun q:Int × Int=>True) (fun i hi=>?_) fun B2 hB2 hR2 hX2=>?_
  ·refine Aw_sq fun B3 hB3 hR3 hX3=>?_
   obtain ⟨rf,rb⟩:=i
   refine Aw_st hE [0,4,5,6] [4,5] fun K hK=>?_
   simp only [go_sem,seval]
   repeat refine sd0 ?_
   repeat' (first | (refine And.intro (by first | omega | decide) ?_) | intro)
   rename_i n0 hn1 hn2
   refine hK _ ?_;clear hK K
   refine Aw_bk fun B4 hN4 hE4 hR4 hX4=>?_
   refine Aw_lp (fun (i:List Int × Int)=>⟨52,[(0,.rd),(4,.loc 4 0),(5,.loc 5 0),(6,iv i.2)],[(4,[iv 0,iv 0,.nl,iv 0,.nl]),(5,[iv rf,iv rb,.sl (some (11,0,3)) (rows i.1),iv like,.sl (some (15,0,3)) (rows ms)])],k + 25 - i.2.toNat⟩) (fun (i:List Int × Int)=>i.1.length + i.2≤3∧0≤i.2) (fun (i:List Int × Int)=>i.2.toNat) (([h0],n0)) (Le_rn (by first | omega | (dsimp only;omega) | (simp only;omega) | (simp;omega))) (⟨by simp;omega,by simp;omega⟩) fun i hi B5 hN5 hR5 hX5=>?_
   refine Aw_sq fun B6 hB6 hR6 hX6=>?_
   refine Aw_st hE [0,4,5,6,34] [4,5] fun K hK=>?_
   simp only [go_sem,seval]
   repeat refine sd0 ?_
   refine hK _ (Aw_cond rfl (fun hc7=>?_) (fun hc7=>?_))
   ·simp only [dte] at hc7
    refine Aw_skip (hB6 _ ?_)
    refine Aw_sq fun B8 hB8 hR8 hX8=>?_
    refine Aw_bk fun B9 hN9 hE9 hR9 hX9=>?_
    refine Aw_st hE [0,4,5,6,7] [4,5] fun K hK=>?_
    simp only [go_sem,seval]
    repeat refine sd0 ?_
    repeat' (first | (refine And.intro (by first | omega | decide) ?_) | intro)
    rename_i x hx1 hx2
    refine hK _ ?_;clear hK K
    refine Aw_st hE [0,4,5,6,7,44] [4,5] fun K hK=>?_
    simp only [go_sem,seval]
    repeat refine sd0 ?_
    refine hK _ (Aw_cond rfl (fun hc10=>?_) (fun hc10=>?_))
    ·refine Aw_tx hE [0,4,5,6] [4,5] fun K hK=>?_
     simp only [go_sem,seval,rows_one]
     repeat refine sd0 ?_
     refine hK _ (hN9 _ (hB8 _ ?_))
     refine Aw_tx hE [0,4,5,6] [4,5] fun K hK=>?_
     simp only [go_sem,seval]
     repeat refine sd0 ?_
     refine hK _ (hN5 ((i.1++[1 + x],i.2 - 1)) _ (⟨by simp;omega,by first | omega | (dsimp only;omega) | (simp only;omega) | (simp;omega)⟩) (by first | omega | (dsimp only;omega) | (simp only;omega) | (simp;omega)) ((Le_tk 49 11 rfl).trans (Le_rn (by first | omega | (dsimp only;omega) | (simp only;omega) | (simp;omega)))))
    ·refine Aw_skip (hN9 _ (hB8 _ ?_))
     refine Aw_tx hE [0,4,5,6] [4,5] fun K hK=>?_
     simp only [go_sem,seval]
     repeat refine sd0 ?_
     refine hK _ (hN5 ((i.1,i.2 - 1)) _ (⟨by first | omega | (dsimp only;omega) | (simp only;omega) | (simp;omega),by first | omega | (dsimp only;omega) | (simp only;omega) | (simp;omega)⟩) (by first | omega | (dsimp only;omega) | (simp only;omega) | (simp;omega)) (Le_rn (by first | omega | (dsimp only;omega) | (simp only;omega) | (simp;omega))))
   ·simp only [dfn] at hc7
    refine Aw_exit (hX6 _ _ (hX5 _ _ (hE4 _ (hB3 _ ?_))))
    refine Aw_st hE [4] [4] fun K hK=>?_
    simp only [go_sem,seval]
    repeat refine sd0 ?_
    refine hK _ (Aw_ret (hQ _ ?_))
    simp only [go_sem,seval]
    exact ⟨by omega,⟨rf,rb,i.1,like,ms⟩,⟨by first | omega | (dsimp only;omega) | (simp only;omega) | (simp;omega),by first | omega | (dsimp only;omega) | (simp only;omega) | (simp;omega)⟩,rfl⟩
  refine Aw_st hE [0,4,5,25] [4,5] fun K hK=>?_
  simp only [go_sem,seval]
  repeat refine sd0 ?_
  repeat' (first | (refine And.intro (by first | omega | decide) ?_) | intro)
  rename_i u hu1 hu2
  refine hK _ (Aw_cond rfl (fun hc11=>?_) (fun hc11=>?_))
  ·refine Aw_tx hE [0,4,5] [4,5] fun K hK=>?_
   simp only [go_sem,seval]
   repeat refine sd0 ?_
   repeat' (first | (refine And.intro (by first | omega | decide) ?_) | intro)
   rename_i v hv1 hv2
   refine hK _ (hB2 ((32 * v,3)) _ (trivial) ((Le_wa) E))
  ·refine Aw_skip (hB2 (i) _ (trivial) ((Le_wa) E))
 refine Aw_st hE [0,4,5,20] [4,5] fun K hK=>?_
 simp only [go_sem,seval]
 repeat refine sd0 ?_
 refine hK _ (Aw_cond rfl (fun hc12=>?_) (fun hc12=>?_))
 ·refine Aw_tx hE [0,4,5] [4,5] fun K hK=>?_
  simp only [go_sem,seval]
  repeat refine sd0 ?_
  refine hK _ (hB1 ((0,1)) _ (trivial) ((Le_wa) E))
 ·refine Aw_skip (hB1 ((f,b)) _ (trivial) ((Le_wa) E))
theorem putR_len (r:Rt):∀ l:List Rt,(putR l r).length≤l.length + 1
 | []=>by simp [putR]
 | x::l=>by
  have:=putR_len r l
  unfold putR
  split
  ·simp
  ·split
   ·simp only [List.length_cons];omega
   ·simp
theorem fromR_pre (h:Int):cFromD.pre [.rd,iv h]=True:=by simp [cFromD]
theorem fromR_post (args:List AV) (K:AV→Prop):(∀ r,cFromD.post args r→K r)=(∀ x:Rt,(x.path.length≤3∧x.marks.length≤9)→K x.av):=by
 apply propext
 exact ⟨fun h p hp=>h _ ⟨p,hp,rfl⟩,fun h r ⟨p,hp,e⟩=>e ▸ h p hp⟩
theorem fromR_ex (args:List AV):(∃ r,cFromD.post args r)=True:=eq_true ⟨_,⟨0,0,[],0,[]⟩,by simp,rfl⟩
theorem putM_pre (l:List Rt) (f b:Int) (p:List Int) (k:Int) (m:List Int):cPutM.pre [.sl none (rrows l),.agg [iv f,iv b,isl p,iv k,isl m]] []=(l.length≤1000∧p.length≤1000∧m.length≤900):=by
 apply propext
 constructor
 ·rintro ⟨l',r',e,_,h⟩
  obtain ⟨rfl,rfl⟩:=rrav_inj (r:=⟨f,b,p,k,m⟩) e
  exact h
 ·exact fun h=>⟨l,⟨f,b,p,k,m⟩,rfl,rfl,h⟩
theorem putM_post (l:List Rt) (f b:Int) (p:List Int) (k:Int) (m:List Int) (m1:List (Nat × List AV)) (K:AV→List (Nat × List AV)→Prop):(∀ r m2,cPutM.post [.sl none (rrows l),.agg [iv f,iv b,isl p,iv k,isl m]] m1 r m2→K r m2)=putC l ⟨f,b,p,k,m⟩ K:=by
 apply propext
 constructor
 ·intro hh cap hcap
  refine hh _ _ fun l' r' e K' hK'=>?_
  obtain ⟨rfl,rfl⟩:=rrav_inj (r:=⟨f,b,p,k,m⟩) e
  exact hK' cap hcap
 ·exact fun hh r m2 hp=>hp l ⟨f,b,p,k,m⟩ rfl K hh
attribute [go_sem] fromR_pre fromR_post fromR_ex putM_pre putM_post putC
def smallD (l:List Rt):Prop:=∀ r ∈ l,r.path.length≤20∧r.marks.length≤20
theorem smallD_small {l:List Rt} (h:smallD l) (hl:l.length≤1000):smallL l:=⟨hl,fun r hr=>by have:=h r hr;unfold smallR;omega⟩
theorem smallD_put {l:List Rt} {r:Rt} (h:smallD l) (hr:r.path.length≤20∧r.marks.length≤20):smallD (putR l r):=fun x hx=>by
 rcases mem_put hx with rfl | hx
 ·exact hr
 ·exact h x hx
def cRts:Con:={ pre:=fun args=>args=[.rd],post:=fun _ r=>∃ l:List Rt,(l.length≤7∧smallD l)∧r = .sl none (rrows l),cost:=240,draws:=true }
theorem cRts_own:cRts.own=false:=rfl
theorem cRts_draws:cRts.draws=true:=rfl
theorem cRts_cost:cRts.cost=240:=rfl
attribute [go_sem] cRts_own cRts_draws cRts_cost
theorem rts_pre:cRts.pre [.rd]=True:=by simp [cRts]
theorem rts_post (args:List AV) (K:AV→Prop):(∀ r,cRts.post args r→K r)=(∀ l:List Rt,(l.length≤7∧smallD l)→K (.sl none (rrows l))):=by
 apply propext
 exact ⟨fun h p hp=>h _ ⟨p,hp,rfl⟩,fun h r ⟨p,hp,e⟩=>e ▸ h p hp⟩
theorem rts_ex (args:List AV):(∃ r,cRts.post args r)=True:=eq_true ⟨_,[],by simp [smallD],rfl⟩
attribute [go_sem] rts_pre rts_post rts_ex
def rtS (l:List Rt) (cap:Nat) (n:Int) (rn:Nat):St:=⟨28,[(0,.rd),(3,.xs 60 0 l.length cap 5),(4,iv n)],[(60,cRs l++jk ((cap - l.length) * 5))],rn⟩
set_option maxHeartbeats 4000000 in
theorem l92Routes_ok:Fine Tryd.prog 45 cRts:=by
 refine fine_ofX [] gl_nil [] ms_nil [(37,(cPutM,[],[(900,200)]))] (mm_cons l23PutM_ok (by decide) mm_nil) [5,26] [] ex_nil (T:=TT) Tryd.func45 rfl Tryd.ntmps45 (by rw [Tryd.results45]) rfl rfl tt (gs_cons pick_ok (gs_cons l92From_ok (gs_cons l91Route_ok gs_nil))) ds_nil ?_
 rintro args rfl
 refine ⟨by simp,fun k hk E hE Q hQ=>?_⟩
 have hk:=hk rfl
 simp only [go_sem] at hk
 refine Aw_st hE [0] [5,26,60,218] fun K hK=>?_
 simp only [go_sem,seval]
 refine hK _ ?_;clear hK K
 refine Aw_st hE [0,3] [5,26,60,218] fun K hK=>?_
 simp only [go_sem,seval]
 refine hK _ ?_;clear hK K
 refine Aw_sq fun B1 hB1 hR1 hX1=>?_
 refine Aw_st hE [0,3,4] [5,26,60,218] fun K hK=>?_
 simp only [go_sem,seval]
 repeat' (first | (refine And.intro (by first | omega | decide) ?_) | intro)
 rename_i n0 hn1 hn2
 refine hK _ ?_;clear hK K
 refine Aw_bk fun B2 hN2 hE2 hR2 hX2=>?_
 refine Aw_lp (fun i:(List Rt × Nat) × Int=>rtS i.1.1 i.1.2 i.2 (k + 190 - 31 * i.2.toNat)) (fun i=>sortR i.1.1∧smallD i.1.1∧i.1.1.length≤i.1.2∧0≤i.2∧i.1.1.length + i.2≤6) (fun i=>i.2.toNat) (([],0),n0) ((Le_bx 5 60 (by decide) (by decide) rfl).trans (Le_rn (by simp only;omega))) ⟨List.Pairwise.nil,(by intro g hg;cases hg),by simp,by omega,by simp;omega⟩ fun i hi B3 hN3 hR3 hX3=>?_
 obtain ⟨⟨l,cap⟩,n⟩:=i
 obtain ⟨hs,hsm,hcap,hn1,hn2⟩:=hi
 simp only at hs hsm hcap hn1 hn2
 simp only [rtS]
 refine Aw_sq fun B4 hB4 hR4 hX4=>?_
 refine Aw_st hE [0,3,4,9] [5,26,60,218] fun K hK=>?_
 simp only [go_sem,seval,cRs_nt,cRs_stripF]
 refine hK _ (Aw_cond rfl (fun hc5=>?_) (fun hc5=>?_))
 ·simp only [dte] at hc5
  refine Aw_skip (hB4 _ ?_)
  refine Aw_sq fun B6 hB6 hR6 hX6=>?_
  refine Aw_bk fun B7 hN7 hE7 hR7 hX7=>?_
  refine Aw_fR hE rfl 60 l rfl ?_
  simp only [go_sem,seval,rD_len,frz_rrows]
  refine Aw_tx hE [0,3,4] [5,26,60,218] fun K hK=>?_
  simp only [go_sem,seval,cRs_nt,cRs_stripF,cRs_strip,cRs_mvn]
  repeat' (first | (refine And.intro (by first | omega | decide) ?_) | intro)
  rename_i x hx cap' hcap'
  obtain ⟨hx1,hx2⟩:=hx
  obtain ⟨xf,xb,xp,xk,xm⟩:=x
  simp only at hx1 hx2 hcap'
  have h1:=sort_put hs ⟨xf,xb,xp,xk,xm⟩
  have h2:=smallD_put (r:=⟨xf,xb,xp,xk,xm⟩) hsm ⟨by simp only;omega,by simp only;omega⟩
  have h3:=putR_len ⟨xf,xb,xp,xk,xm⟩ l
  rw [putG_eq hs] at hcap' ⊢
  generalize putR l ⟨xf,xb,xp,xk,xm⟩=L at h1 h2 h3 hcap' ⊢
  refine hK _ (hN7 _ (hB6 _ ?_))
  refine Aw_tx hE [0,3,4] [5,26,60,218] fun K hK=>?_
  simp only [go_sem,seval,cRs_nt,cRs_stripF]
  repeat refine sd0 ?_
  refine hK _ (hN3 ((L,cap'),n - 1) _ ⟨h1,h2,hcap',by simp only;omega,by simp only;omega⟩ (by simp only;omega) ?_)
  refine (Le_swb _ 218 60 (by decide) (by decide)).trans ?_
  simp only [St.swb,swbσ,swbm,AV.swb,AV.swbAll,swp,swbAll_app,swbAll_jk,rcs_swb,cRs_swb,Nat.reduceEqDiff,if_true,if_false,reduceIte]
  exact (Le_ks [0,3,4] [60]).trans (Le_rn (by simp only;omega))
 ·simp only [dfn] at hc5
  refine Aw_exit (hX4 _ _ (hX3 _ _ (hE2 _ (hB1 _ ?_))))
  refine Aw_sq fun B8 hB8 hR8 hX8=>?_
  refine Aw_st hE [0,3,21] [5,26,60,218] fun K hK=>?_
  simp only [go_sem,seval,cRs_nt,cRs_stripF]
  repeat' (first | (refine And.intro (by first | omega | decide) ?_) | intro)
  refine hK _ (Aw_cond rfl (fun hc9=>?_) (fun hc9=>?_))
  ·have hta:=cRs_take l (jk ((cap - l.length) * 5))
   refine Aw_st hE [2] [5,26,60,218] fun K hK=>?_
   simp only [go_sem,seval,cRs_nt,cRs_stripF,cRs_strip,cRs_mvn,rcs_flat,rcs_leaf,rcs_strip,hta,cRj_stk,cRj_str]
   refine ⟨by omega,fun x hx=>⟨⟨by simp,by omega,by rw [List.length_append,cRs_len,List.length_replicate];omega⟩,fun hle=>?_,fun hgt cap' hcap'=>?_⟩⟩
   all_goals
    have hxs:smallD (l++[x]):=fun y hy=>by
     rcases List.mem_append.1 hy with hy | hy
     ·exact hsm y hy
     ·obtain rfl:=List.mem_singleton.1 hy
      obtain ⟨_,q1,_,_,_,q2⟩:=hx
      exact ⟨by omega,by omega⟩
    have hon:(l++[x]).length=l.length + 1:=by simp
    have hfg:=frz_rrows (l++[x])
    rw [hon] at hfg
    have hca:=cRs_app l [x]
    simp only [cRs,List.append_nil] at hca
    have hx0:(⟨x.f,x.b,x.path,x.like,x.marks⟩:Rt)=x:=rfl
    rw [hx0]
   ·rw [cRs_in l x (cap - l.length) (by omega)]
    refine hK _ ?_
    refine Aw_fR hE rfl 60 (l++[x]) rfl ?_
    simp only [go_sem,seval,rD_len,hon,hfg]
    refine Aw_ret (hR8 _ (hQ _ ?_))
    simp only [go_sem,seval]
    exact ⟨by omega,l++[x],⟨by rw [hon];omega,hxs⟩,congrArg (AV.sl none) hfg⟩
   ·rw [← hca]
    refine hK _ ?_
    refine Aw_fR hE rfl 26 (l++[x]) rfl ?_
    simp only [go_sem,seval,rD_len,hon,hfg]
    refine Aw_ret (hR8 _ (hQ _ ?_))
    simp only [go_sem,seval]
    exact ⟨by omega,l++[x],⟨by rw [hon];omega,hxs⟩,congrArg (AV.sl none) hfg⟩
  ·refine Aw_skip (hB8 _ ?_)
   refine Aw_fR hE rfl 60 l rfl ?_
   simp only [go_sem,seval,rD_len,frz_rrows]
   refine Aw_st hE [2] [5,26,60,218] fun K hK=>?_
   simp only [go_sem,seval]
   refine hK _ (Aw_ret (hQ _ ?_))
   simp only [go_sem,seval]
   exact ⟨by omega,l,⟨by omega,hsm⟩,rfl⟩
def cChg:Con:={ pre:=fun args=>args=[.rd],post:=fun _ r=>∃ a b:List Rt,((a.length≤7∧smallD a)∧b.length≤10∧smallD b)∧r = .tup [.sl none (rrows a),.sl none (rrows b)],cost:=500,draws:=true }
theorem cChg_own:cChg.own=false:=rfl
theorem cChg_draws:cChg.draws=true:=rfl
theorem cChg_cost:cChg.cost=500:=rfl
attribute [go_sem] cChg_own cChg_draws cChg_cost
theorem chg_pre:cChg.pre [.rd]=True:=by simp [cChg]
theorem chg_post (args:List AV) (K:AV→Prop):(∀ r,cChg.post args r→K r)=(∀ a b:List Rt,((a.length≤7∧smallD a)∧b.length≤10∧smallD b)→K (.tup [.sl none (rrows a),.sl none (rrows b)])):=by
 apply propext
 exact ⟨fun h a b hp=>h _ ⟨a,b,hp,rfl⟩,fun h r ⟨a,b,hp,e⟩=>e ▸ h a b hp⟩
theorem chg_ex (args:List AV):(∃ r,cChg.post args r)=True:=eq_true ⟨_,[],[],by simp [smallD],rfl⟩
attribute [go_sem] chg_pre chg_post chg_ex
theorem smallD_app {l:List Rt} {x:Rt} (h:smallD l) (hx:x.path.length≤20∧x.marks.length≤20):smallD (l++[x]):=fun y hy=>by
 rcases List.mem_append.1 hy with hy | hy
 ·exact h y hy
 ·rw [List.mem_singleton.1 hy];exact hx
def chS (a b:List Rt) (i:Nat) (rn:Nat):St:=⟨53,[(0,.rd),(4,.sl none (rrows a)),(5,.sl (some (16,0,36)) (rrows b)),(6,iv i)],[],rn⟩
def chT (a b:List Rt) (n:Int) (rn:Nat):St:=⟨53,[(0,.rd),(4,.sl none (rrows a)),(5,.sl none (rrows b)),(7,iv n)],[],rn⟩
set_option maxHeartbeats 4000000 in
theorem l92Change_ok:Fine Tryd.prog 23 cChg:=by
 refine fine_of (T:=TT) Tryd.func23 rfl Tryd.ntmps23 (by rw [Tryd.results23]) rfl rfl tt (gs_cons pick_ok (gs_cons l92From_ok (gs_cons l92Routes_ok gs_nil))) (ds_cons l4Copy_ok (ds_cons sRoutesOk_ok (ds_cons l23Put_ok ds_nil))) ?_
 rintro args rfl
 refine ⟨by simp,fun k hk E hE Q hQ=>?_⟩
 have hk:=hk rfl
 simp only [go_sem] at hk
 refine Aw_st hE [0] [] fun K hK=>?_
 simp only [go_sem,seval]
 refine hK _ ?_;clear hK K
 refine Aw_st hE [0,4] [] fun K hK=>?_
 simp only [go_sem,seval]
 repeat' (first | (refine And.intro (by first | omega | decide) ?_) | intro)
 rename_i a ha
 obtain ⟨ha1,ha2⟩:=ha
 have hsa:=smallD_small ha2 (by omega)
 refine hK _ ?_;clear hK K
 refine Aw_sq fun B1 hB1 hR1 hX1=>?_
 refine Aw_st hE [0,4,12] [] fun K hK=>?_
 simp only [go_sem,seval]
 repeat' (first | (refine And.intro (by first | omega | decide) ?_) | intro)
 refine hK _ (Aw_cond rfl (fun hc2=>?_) (fun hc2=>?_))
 ·refine Aw_st hE [2,3] [] fun K hK=>?_
  simp only [go_sem,seval]
  repeat' (first | (refine And.intro (by first | omega | decide) ?_) | intro)
  rename_i b hb
  obtain ⟨hb1,hb2⟩:=hb
  refine hK _ (Aw_ret (hR1 _ (hQ _ ?_)))
  simp only [go_sem,seval]
  exact ⟨by omega,a,b,⟨⟨ha1,ha2⟩,by omega,hb2⟩,rfl⟩
 ·refine Aw_skip (hB1 _ ?_)
  refine Aw_st hE [0,4,5] [] fun K hK=>?_
  simp only [go_sem,seval]
  refine hK _ ?_;clear hK K
  refine Aw_sq fun B3 hB3 hR3 hX3=>?_
  refine Aw_st hE [0,4,5,6] [] fun K hK=>?_
  simp only [go_sem,seval]
  refine hK _ ?_;clear hK K
  refine Aw_bk fun B4 hN4 hE4 hR4 hX4=>?_
  refine Aw_lp (fun i:List Rt × Nat=>chS a i.1 i.2 (k + 241 + i.2)) (fun i=>i.2≤a.length∧i.1.length≤i.2∧smallD i.1) (fun i=>a.length - i.2) ([],0) (Le.refl _) ⟨by simp,by simp,by simp [smallD]⟩ fun i hi B5 hN5 hR5 hX5=>?_
  obtain ⟨b,i⟩:=i
  obtain ⟨hi1,hi2,hi3⟩:=hi
  simp only at hi1 hi2 hi3
  simp only [chS]
  refine Aw_sq fun B6 hB6 hR6 hX6=>?_
  refine Aw_st hE [0,4,5,6,20] [] fun K hK=>?_
  simp only [go_sem,seval]
  refine hK _ (Aw_cond rfl (fun hc7=>?_) (fun hc7=>?_))
  ·simp only [dte] at hc7
   have hil:i < a.length:=by omega
   have hg:=rrows_at a i hil
   have hxs:=ha2 _ (List.getElem_mem hil)
   generalize a[i]=x at hg hxs
   obtain ⟨xf,xb,xp,xk,xm⟩:=x
   simp only at hxs
   have hxl:xp.length≤1000000∧xm.length≤1000000:=by omega
   refine Aw_skip (hB6 _ ?_)
   refine Aw_sq fun B8 hB8 hR8 hX8=>?_
   refine Aw_bk fun B9 hN9 hE9 hR9 hX9=>?_
   refine Aw_st hE [0,4,5,6,25] [] fun K hK=>?_
   simp only [go_sem,seval]
   repeat' (first | (refine And.intro (by first | omega | decide) ?_) | intro)
   refine hK _ (Aw_cond rfl (fun hc10=>?_) (fun hc10=>?_))
   ·refine Aw_tx hE [0,4,5,6] [] fun K hK=>?_
    simp only [go_sem,seval,hg,rrows_one]
    refine ⟨by omega,hxl,⟨rrows_row _,by omega⟩,?_⟩
    refine hK _ (hN9 _ (hB8 _ ?_))
    refine Aw_tx hE [0,4,5,6] [] fun K hK=>?_
    simp only [go_sem,seval]
    repeat refine sd0 ?_
    refine hK _ (hN5 (b++[⟨xf,xb,xp,xk,xm⟩],i + 1) _ ⟨by simp only;omega,by simp only [List.length_append,List.length_singleton];omega,smallD_app hi3 hxs⟩ (by simp only;omega) (Le_tk 33 16 rfl))
   ·refine Aw_skip (hN9 _ (hB8 _ ?_))
    refine Aw_tx hE [0,4,5,6] [] fun K hK=>?_
    simp only [go_sem,seval]
    repeat refine sd0 ?_
    refine hK _ (hN5 (b,i + 1) _ ⟨by simp only;omega,by simp only;omega,hi3⟩ (by simp only;omega) (Le.refl _))
  ·simp only [dfn] at hc7
   refine Aw_exit (hX6 _ _ (hX5 _ _ (hE4 _ (hB3 _ ?_))))
   refine Aw_sq fun B11 hB11 hR11 hX11=>?_
   refine Aw_st hE [0,4,5,7] [] fun K hK=>?_
   simp only [go_sem,seval]
   repeat' (first | (refine And.intro (by first | omega | decide) ?_) | intro)
   rename_i n0 hn1 hn2
   refine hK _ ?_;clear hK K
   refine Aw_bk fun B12 hN12 hE12 hR12 hX12=>?_
   refine Aw_lp (fun i:List Rt × Int=>chT a i.1 i.2 (k + 350 - 31 * i.2.toNat)) (fun i=>0≤i.2∧i.2≤3∧i.1.length + i.2≤10∧smallD i.1) (fun i=>i.2.toNat) (b,n0) (Le_wk (by first | omega | (simp only;omega)) (by simp only [go_sem,seval]) (by simp only [go_sem,seval])) ⟨by simp only;omega,by simp only;omega,by simp only;omega,hi3⟩ fun i hi B13 hN13 hR13 hX13=>?_
   obtain ⟨b,n⟩:=i
   obtain ⟨hj1,hj2,hj3,hj4⟩:=hi
   simp only at hj1 hj2 hj3 hj4
   simp only [chT]
   have hsb:=smallD_small hj4 (by omega)
   refine Aw_sq fun B14 hB14 hR14 hX14=>?_
   by_cases hn0:0 < n
   ·have d0:decide (0 < n)=true:=decide_eq_true hn0
    cases hrb:routesOk b with
    | true =>
     have hso:=(routesOk_iff.1 hrb).2.2
     refine Aw_st hE [0,4,5,7,41] [] fun K hK=>?_
     simp only [go_sem,seval,d0,hrb]
     refine ⟨hsb,hK _ (Aw_yes rfl (Aw_skip (hB14 _ ?_)))⟩
     refine Aw_sq fun B18 hB18 hR18 hX18=>?_
     refine Aw_bk fun B19 hN19 hE19 hR19 hX19=>?_
     refine Aw_tx hE [0,4,5,7] [] fun K hK=>?_
     simp only [go_sem,seval]
     repeat' (first | (refine And.intro (by first | omega | decide) ?_) | intro)
     rename_i x hx
     obtain ⟨hx1,hx2⟩:=hx
     refine ⟨⟨hsb,by omega,by omega⟩,?_⟩
     obtain ⟨xf,xb,xp,xk,xm⟩:=x
     simp only at hx1 hx2 ⊢
     have h2:=smallD_put (r:=⟨xf,xb,xp,xk,xm⟩) hj4 ⟨by simp only;omega,by simp only;omega⟩
     have h3:=putR_len ⟨xf,xb,xp,xk,xm⟩ b
     rw [putG_eq hso]
     generalize putR b ⟨xf,xb,xp,xk,xm⟩=L at h2 h3 ⊢
     refine hK _ (hN19 _ (hB18 _ ?_))
     refine Aw_tx hE [0,4,5,7] [] fun K hK=>?_
     simp only [go_sem,seval]
     repeat refine sd0 ?_
     refine hK _ (hN13 (L,n - 1) _ ⟨by simp only;omega,by simp only;omega,by simp only;omega,h2⟩ (by simp only;omega) (Le_rn (by simp only;omega)))
    | false =>
     refine Aw_st hE [0,4,5,7,41] [] fun K hK=>?_
     simp only [go_sem,seval,d0,hrb]
     refine ⟨hsb,hK _ (Aw_no rfl (Aw_exit (hX14 _ _ (hX13 _ _ (hE12 _ (hB11 _ ?_))))))⟩
     refine Aw_st hE [2,3] [] fun K hK=>?_
     simp only [go_sem,seval]
     refine hK _ (Aw_ret (hQ _ ?_))
     simp only [go_sem,seval]
     exact ⟨by omega,a,b,⟨⟨ha1,ha2⟩,by omega,hj4⟩,rfl⟩
   ·have d0:decide (0 < n)=false:=decide_eq_false hn0
    refine Aw_st hE [0,4,5,7,41] [] fun K hK=>?_
    simp only [go_sem,seval,d0]
    refine hK _ (Aw_no rfl (Aw_exit (hX14 _ _ (hX13 _ _ (hE12 _ (hB11 _ ?_))))))
    refine Aw_st hE [2,3] [] fun K hK=>?_
    simp only [go_sem,seval]
    refine hK _ (Aw_ret (hQ _ ?_))
    simp only [go_sem,seval]
    exact ⟨by omega,a,b,⟨⟨ha1,ha2⟩,by omega,hj4⟩,rfl⟩
def spotN:List Rt→Int→Int→Nat
 | [],_,_=>0
 | x::l,f,b=>if rCmp x.f x.b f b < 0 then spotN l f b + 1 else 0
theorem spotN_le (f b:Int):∀ l:List Rt,spotN l f b≤l.length
 | []=>Nat.le_refl _
 | x::l=>by
  have:=spotN_le f b l
  unfold spotN
  split
  ·rw [List.length_cons];omega
  ·omega
theorem rCmp_tr {x y:Rt} {f b:Int} (h:rlt x y) (k:rCmp y.f y.b f b < 0):rCmp x.f x.b f b < 0 :=
 rCmp_neg (y:=⟨f,b,[],0,[]⟩).2 (rlt_tr h (rCmp_neg (y:=⟨f,b,[],0,[]⟩).1 k))
theorem spotN_lt {f b:Int}:∀ {l:List Rt},sortR l→∀ i (hi:i < l.length),i < spotN l f b↔rCmp l[i].f l[i].b f b < 0
 | [],_,i,hi=>by simp at hi
 | x::l,hs,i,hi=>by
  obtain ⟨h1,h2⟩:=List.pairwise_cons.1 hs
  unfold spotN
  by_cases hx:rCmp x.f x.b f b < 0
  ·rw [if_pos hx]
   cases i with
   | zero=>exact ⟨fun _=>hx,fun _=>by omega⟩
   | succ i =>
    have:=spotN_lt (f:=f) (b:=b) h2 i (by simpa using hi)
    rw [List.getElem_cons_succ]
    rw [← this];omega
  ·rw [if_neg hx]
   cases i with
   | zero=>exact ⟨fun h=>by omega,fun h=>absurd h hx⟩
   | succ i =>
    refine ⟨fun h=>by omega,fun h=>?_⟩
    rw [List.getElem_cons_succ] at h
    exact absurd (rCmp_tr (h1 _ (List.getElem_mem _)) h) hx
theorem spot_look {l:List Rt} {f b:Int} (hs:sortR l):(look l (f,b)=none∧∀ h:spotN l f b < l.length,¬ rCmp l[spotN l f b].f l[spotN l f b].b f b=0)∨∃ h:spotN l f b < l.length,look l (f,b)=some l[spotN l f b]∧rCmp l[spotN l f b].f l[spotN l f b].b f b=0:=by
 cases e:look l (f,b) with
 | none =>
  refine .inl ⟨rfl,fun h hc=>?_⟩
  have:=look_none.1 e _ (List.getElem_mem h)
  obtain ⟨h1,h2⟩:=rCmp_z0.1 hc
  exact this (by rw [key,h1,h2])
 | some x =>
  obtain ⟨h1,h2⟩:=look_some e
  obtain ⟨j,hj,rfl⟩:=List.getElem_of_mem h1
  have hz:rCmp l[j].f l[j].b f b=0:=by
   simp only [key,Prod.mk.injEq] at h2
   exact rCmp_z0.2 h2
  have hn:=(spotN_lt (f:=f) (b:=b) hs j hj)
  have hle:spotN l f b≤j:=by
   rcases Nat.lt_or_ge j (spotN l f b) with h | h
   ·have:=hn.1 h;omega
   ·exact h
  have hej:spotN l f b=j:=by
   rcases Nat.lt_or_ge (spotN l f b) j with h | h
   ·have hr:=List.pairwise_iff_getElem.1 hs _ _ (by omega) hj h
    have hq:rCmp l[spotN l f b].f l[spotN l f b].b f b < 0:=by
     refine rCmp_neg (y:=⟨f,b,[],0,[]⟩).2 ?_
     unfold rlt at hr ⊢
     obtain ⟨k1,k2⟩:=rCmp_z0.1 hz
     rw [k1,k2] at hr
     exact hr
    have:=(spotN_lt (f:=f) (b:=b) hs _ (by omega)).2 hq
    omega
   ·omega
  refine .inr ⟨by omega,?_,?_⟩
  ·congr 1;simp only [hej]
  ·simp only [hej];exact hz
set_option maxHeartbeats 4000000 in
theorem iRoutesOk_ok (pb:Addr):Fine Tryd.prog 20 (dROkI pb).con:=by
 refine fine_det (T:=TT) Tryd.func20 rfl Tryd.ntmps20 (by rw [Tryd.results20]) rfl rfl tt (gs_nil) (ds_cons (iRtOk_ok pb) (ds_cons iRgCmp_ok ds_nil) (wp_inh pb)) ?_
 intro args c r h hc
 simp only [dROkI,gROk] at h
 split at h
 rotate_left
 ·cases h
 split at h
 rotate_left
 ·cases h
 rename_i t els _ l hrt
 obtain rfl:=rtsL_eq hrt
 obtain ⟨rfl,rfl⟩:=Prod.mk.inj (Option.some.inj h)
 refine ⟨by simp,fun k E hE Q hQ=>?_⟩
 have hll:=hc.1
 refine Aw_st hE [0] [] fun K hK=>?_
 simp only [go_sem,seval]
 refine hK _ ?_;clear hK K
 refine Aw_sq fun B1 hB1 hR1 hX1=>?_
 refine Aw_st hE [0,7] [] fun K hK=>?_
 simp only [go_sem,seval]
 refine hK _ (Aw_cond rfl (fun hc2=>?_) (fun hc2=>?_))
 ·simp only [dte] at hc2
  have hno:routesOk l=false:=by
   cases e:routesOk l with
   | false=>rfl
   | true=>have:=(routesOk_iff.1 e).1;omega
  refine Aw_st hE [2] [] fun K hK=>?_
  simp only [go_sem,seval]
  refine hK _ (Aw_ret (hR1 _ (hQ _ ?_)))
  simp only [go_sem,seval,hno]
 ·simp only [dfn] at hc2
  refine Aw_skip (hB1 _ ?_)
  refine Aw_sq fun B3 hB3 hR3 hX3=>?_
  refine Aw_st hE [0,8,9,10] [] fun K hK=>?_
  simp only [go_sem,seval]
  refine hK _ ?_;clear hK K
  refine Aw_bk fun B4 hN4 hE4 hR4 hX4=>?_
  refine Aw_lp (fun i:Nat=>⟨35,[(0,.sl none (rrows l)),(8,.sl none (rrows l)),(9,iv l.length),(10,iv i)],[],k⟩) (fun i=>i≤l.length∧okUp l i) (fun i=>l.length - i) 0 (Le_wa) ⟨by omega,okUp_z l⟩ fun i hi B5 hN5 hR5 hX5=>?_
  obtain ⟨hi,hok⟩:=hi
  refine Aw_st hE [0,8,9,10,11] [] fun K hK=>?_
  simp only [go_sem,seval]
  refine hK _ ?_;clear hK K
  refine Aw_sq fun B6 hB6 hR6 hX6=>?_
  refine Aw_cond rfl (fun hc7=>?_) (fun hc7=>?_)
  ·simp only [dte] at hc7
   have hil:i < l.length:=by omega
   have hg:=rrows_at l i hil
   obtain ⟨hp,hm⟩:=smallR_at hc i hil
   have hp':l[i].path.length≤4294967296:=by omega
   have hm':l[i].marks.length≤4294967296:=by omega
   have hst:=okUp_step hil hok
   refine Aw_skip (hB6 _ ?_)
   refine Aw_sq fun B8 hB8 hR8 hX8=>?_
   refine Aw_bk fun B9 hN9 hE9 hR9 hX9=>?_
   refine Aw_st hE [0,3,4,8,9,10] [4] fun K hK=>?_
   simp only [go_sem,seval,hg]
   repeat refine sd0 ?_
   refine hK _ ?_;clear hK K
   cases hro:okR l[i] with
   | false =>
    have hro':rtOk l[i].f l[i].b l[i].path l[i].like l[i].marks=false:=hro
    have hno:=okUp_no hil (fun h=>by have:=(hst.1 h).1;rw [hro] at this;cases this)
    refine Aw_se hE [0,1,2,3,4,5,6,7,8,9,10,11,12,13,14,15,16,17,18] [0,1,3,7,15,31,63,127,127,383,1023,2047,4095,127,8319,32767,65535,131071,262143] [0,8,9,10,33] [] (by kernel_rfl) fun K hK=>?_
    refine daopsE_cut 6 fun K1 hK1=>?_
    simp only [go_sem,seval,hg,hp',hm',hro',Bool.not_false]
    repeat refine sd0 ?_
    refine hK1 _ ?_
    clear hK1
    refine daopsE_cut 6 fun K1 hK1=>?_
    simp only [go_sem,seval,hg,hp',hm',hro',Bool.not_false]
    repeat refine sd0 ?_
    refine hK1 _ ?_
    clear hK1
    refine daopsE_cut 6 fun K1 hK1=>?_
    simp only [go_sem,seval,hg,hp',hm',hro',Bool.not_false]
    repeat refine sd0 ?_
    refine hK1 _ ?_
    clear hK1
    simp only [go_sem,seval,hg,hp',hm',hro',Bool.not_false]
    repeat refine sd0 ?_
    refine hK _ (Aw_yes rfl ?_)
    refine Aw_st hE [2] [] fun K hK=>?_
    simp only [go_sem,seval]
    refine hK _ (Aw_ret (hR9 _ (hR8 _ (hR5 _ (hR4 _ (hR3 _ (hQ _ ?_)))))))
    simp only [go_sem,seval,hno]
   | true =>
    have hro':rtOk l[i].f l[i].b l[i].path l[i].like l[i].marks=true:=hro
    have hrr:=rtOk_r hro'
    by_cases h0:i=0
    ·have d0:decide ((0:Int) < (i:Int))=false:=decide_eq_false (by omega)
     refine Aw_se hE [0,1,2,3,4,5,6,7,8,9,10,11,12,13,14,15,16,17,18] [0,1,3,7,15,31,63,127,127,383,1023,2047,4095,127,8319,32767,65535,131071,262143] [0,8,9,10,33] [] (by kernel_rfl) fun K hK=>?_
     refine daopsE_cut 6 fun K1 hK1=>?_
     simp only [go_sem,seval,hg,hp',hm',hro',d0,Bool.not_true]
     repeat refine sd0 ?_
     refine hK1 _ ?_
     clear hK1
     refine daopsE_cut 6 fun K1 hK1=>?_
     simp only [go_sem,seval,hg,hp',hm',hro',d0,Bool.not_true]
     repeat refine sd0 ?_
     refine hK1 _ ?_
     clear hK1
     refine daopsE_cut 6 fun K1 hK1=>?_
     simp only [go_sem,seval,hg,hp',hm',hro',d0,Bool.not_true]
     repeat refine sd0 ?_
     refine hK1 _ ?_
     clear hK1
     simp only [go_sem,seval,hg,hp',hm',hro',d0,Bool.not_true]
     repeat refine sd0 ?_
     refine hK _ (Aw_no rfl ?_)
     refine Aw_skip (hN9 _ (hB8 _ ?_))
     refine Aw_tx hE [0,8,9,10] [] fun K hK=>?_
     simp only [go_sem,seval]
     repeat refine sd0 ?_
     refine hK _ (hN5 (i + 1) _ ⟨by omega,hst.2 ⟨hro,.inl h0⟩⟩ (by omega) (Le_wb (by simp only [go_sem,seval,Int.natCast_add,Int.natCast_one])))
    ·have d0:decide ((0:Int) < (i:Int))=true:=decide_eq_true (by omega)
     have hi1:((i:Int) - 1).toNat=i - 1:=by omega
     have hil1:i - 1 < l.length:=by omega
     have hg1:=rrows_at l (i - 1) hil1
     have hr1:rngOk l[i - 1].f l[i - 1].b=true:=rtOk_r (show rtOk l[i - 1].f l[i - 1].b l[i - 1].path l[i - 1].like l[i - 1].marks=true from hok.1 _ (by rw [List.mem_take_iff_getElem];exact ⟨i - 1,by omega,rfl⟩))
     by_cases hlt:rlt l[i - 1] l[i]
     ·have d1:decide (0≤rCmp l[i - 1].f l[i - 1].b l[i].f l[i].b)=false:=decide_eq_false (by have:=rCmp_neg.2 hlt;omega)
      refine Aw_se hE [0,1,2,3,4,5,6,7,8,9,10,11,12,13,14,15,16,17,18] [0,1,3,7,15,31,63,127,127,383,1023,2047,4095,127,8319,32767,65535,131071,262143] [0,8,9,10,33] [] (by kernel_rfl) fun K hK=>?_
      refine daopsE_cut 6 fun K1 hK1=>?_
      simp only [go_sem,seval,hg,hp',hm',hro',d0,hi1,hg1,d1,hrr,hr1,Bool.not_true,Bool.and_self,if_true]
      repeat refine sd0 ?_
      refine hK1 _ ?_
      clear hK1
      refine daopsE_cut 6 fun K1 hK1=>?_
      simp only [go_sem,seval,hg,hp',hm',hro',d0,hi1,hg1,d1,hrr,hr1,Bool.not_true,Bool.and_self,if_true]
      repeat refine sd0 ?_
      refine hK1 _ ?_
      clear hK1
      refine daopsE_cut 6 fun K1 hK1=>?_
      simp only [go_sem,seval,hg,hp',hm',hro',d0,hi1,hg1,d1,hrr,hr1,Bool.not_true,Bool.and_self,if_true]
      repeat refine sd0 ?_
      refine hK1 _ ?_
      clear hK1
      simp only [go_sem,seval,hg,hp',hm',hro',d0,hi1,hg1,d1,hrr,hr1,Bool.not_true,Bool.and_self,if_true]
      repeat refine sd0 ?_
      refine hK _ (Aw_no rfl ?_)
      refine Aw_skip (hN9 _ (hB8 _ ?_))
      refine Aw_tx hE [0,8,9,10] [] fun K hK=>?_
      simp only [go_sem,seval]
      repeat refine sd0 ?_
      refine hK _ (hN5 (i + 1) _ ⟨by omega,hst.2 ⟨hro,.inr ⟨hil1,hlt⟩⟩⟩ (by omega) (Le_wb (by simp only [go_sem,seval,Int.natCast_add,Int.natCast_one])))
     ·have d1:decide (0≤rCmp l[i - 1].f l[i - 1].b l[i].f l[i].b)=true:=decide_eq_true (by
       have:¬ rCmp l[i - 1].f l[i - 1].b l[i].f l[i].b < 0:=fun h=>hlt (rCmp_neg.1 h)
       omega)
      have hno:=okUp_no hil (fun h=>by
       rcases (hst.1 h).2 with h | ⟨_,h⟩
       ·exact h0 h
       ·exact hlt h)
      refine Aw_se hE [0,1,2,3,4,5,6,7,8,9,10,11,12,13,14,15,16,17,18] [0,1,3,7,15,31,63,127,127,383,1023,2047,4095,127,8319,32767,65535,131071,262143] [0,8,9,10,33] [] (by kernel_rfl) fun K hK=>?_
      refine daopsE_cut 6 fun K1 hK1=>?_
      simp only [go_sem,seval,hg,hp',hm',hro',d0,hi1,hg1,d1,hrr,hr1,Bool.not_true,Bool.and_self,if_true]
      repeat refine sd0 ?_
      refine hK1 _ ?_
      clear hK1
      refine daopsE_cut 6 fun K1 hK1=>?_
      simp only [go_sem,seval,hg,hp',hm',hro',d0,hi1,hg1,d1,hrr,hr1,Bool.not_true,Bool.and_self,if_true]
      repeat refine sd0 ?_
      refine hK1 _ ?_
      clear hK1
      refine daopsE_cut 6 fun K1 hK1=>?_
      simp only [go_sem,seval,hg,hp',hm',hro',d0,hi1,hg1,d1,hrr,hr1,Bool.not_true,Bool.and_self,if_true]
      repeat refine sd0 ?_
      refine hK1 _ ?_
      clear hK1
      simp only [go_sem,seval,hg,hp',hm',hro',d0,hi1,hg1,d1,hrr,hr1,Bool.not_true,Bool.and_self,if_true]
      repeat refine sd0 ?_
      refine hK _ (Aw_yes rfl ?_)
      refine Aw_st hE [2] [] fun K hK=>?_
      simp only [go_sem,seval]
      refine hK _ (Aw_ret (hR9 _ (hR8 _ (hR5 _ (hR4 _ (hR3 _ (hQ _ ?_)))))))
      simp only [go_sem,seval,hno]
  ·simp only [dfn] at hc7
   obtain rfl:i=l.length:=by omega
   have he:routesOk l=true:=okUp_all.2 ⟨by omega,hok⟩
   refine Aw_exit (hX6 _ _ (hX5 _ _ (hE4 _ (hB3 _ ?_))))
   refine Aw_st hE [2] [] fun K hK=>?_
   simp only [go_sem,seval]
   refine hK _ (Aw_ret (hQ _ ?_))
   simp only [go_sem,seval,he]
def gEqL:List AV→Option (Prop × AV)
 | [.sl _ e1,.sl _ e2]=>(match intsL e1,intsL e2 with
  | some a,some b=>some (a.length≤4294967296∧b.length≤4294967296,bv (decide (a=b)))
  | _,_=>none)
 | _=>none
def dEqL:DFn:={ g:=gEqL }
attribute [go_sem] gEqL dEqL
theorem eqL_getD {a b:List Int} (hl:a.length=b.length):a=b↔∀ j,j < a.length→a.getD j 0=b.getD j 0:=by
 constructor
 ·rintro rfl _ _;rfl
 ·intro h
  refine List.ext_getElem hl fun j h1 h2=>?_
  have:=h j h1
  rwa [List.getD_eq_getElem?_getD,List.getD_eq_getElem?_getD,List.getElem?_eq_getElem h1,List.getElem?_eq_getElem h2] at this
theorem eqL_ok:Fine Tryd.prog 49 dEqL.con:=by
 refine fine_det (T:=TT) Tryd.func49 rfl Tryd.ntmps49 (by rw [Tryd.results49]) rfl rfl tt (gs_nil) (ds_nil) ?_
 intro args c r h hc
 simp only [dEqL,gEqL] at h
 split at h
 rotate_left
 ·cases h
 split at h
 rotate_left
 ·cases h
 rename_i t e1 t2 e2 _ _ l1 l2 hl1 hl2
 obtain rfl:=intsL_eq hl1
 obtain rfl:=intsL_eq hl2
 obtain ⟨rfl,rfl⟩:=Prod.mk.inj (Option.some.inj h)
 refine ⟨by simp,fun k E hE Q hQ=>?_⟩
 obtain ⟨ha,hb⟩:=hc
 refine Aw_st hE [0,1] [] fun K hK=>?_
 simp only [go_sem,seval]
 repeat refine sd0 ?_
 refine hK _ ?_;clear hK K
 refine Aw_sq fun B1 hB1 hR1 hX1=>?_
 refine Aw_st hE [0,1,10] [] fun K hK=>?_
 simp only [go_sem,seval,ha,hb]
 repeat refine sd0 ?_
 refine hK _ (Aw_cond rfl (fun hc2=>?_) (fun hc2=>?_))
 ·simp only [Bool.not_eq_true',dfn] at hc2
  refine Aw_st hE [4] [] fun K hK=>?_
  simp only [go_sem,seval]
  repeat refine sd0 ?_
  refine hK _ (Aw_ret (hR1 _ (hQ _ ?_)))
  simp only [go_sem,seval,decide_eq_false (show ¬ l1=l2 from fun e=>hc2 (by rw [e]))]
 ·simp only [Bool.not_eq_false',dte] at hc2
  have hll:l1.length=l2.length:=by omega
  refine Aw_skip (hB1 _ ?_)
  refine Aw_sq fun B3 hB3 hR3 hX3=>?_
  refine Aw_st hE [0,1,12,13] [] fun K hK=>?_
  simp only [go_sem,seval]
  repeat refine sd0 ?_
  refine hK _ ?_;clear hK K
  refine Aw_bk fun B4 hN4 hE4 hR4 hX4=>?_
  refine Aw_lp (fun i:Nat=>⟨26,[(0,isl l1),(1,isl l2),(12,iv (l1.length:Int)),(13,iv (i:Int))],[],k⟩) (fun i:Nat=>i≤l1.length∧∀ j,j < i→l1.getD j 0=l2.getD j 0) (fun i:Nat=>l1.length - i) (0) (Le_wa) (⟨by omega,fun j h=>absurd h (by omega)⟩) fun i hi B5 hN5 hR5 hX5=>?_
  refine Aw_st hE [0,1,12,13,14] [] fun K hK=>?_
  simp only [go_sem,seval]
  repeat refine sd0 ?_
  refine hK _ ?_;clear hK K
  refine Aw_sq fun B6 hB6 hR6 hX6=>?_
  refine Aw_cond rfl (fun hc7=>?_) (fun hc7=>?_)
  ·simp only [dte] at hc7
   have h1:=rows_get l1 i (by omega)
   have h2:=rows_get l2 i (by omega)
   refine Aw_skip (hB6 _ ?_)
   refine Aw_sq fun B8 hB8 hR8 hX8=>?_
   refine Aw_bk fun B9 hN9 hE9 hR9 hX9=>?_
   refine Aw_st hE [0,1,5,12,13] [] fun K hK=>?_
   simp only [go_sem,seval]
   repeat refine sd0 ?_
   refine hK _ ?_;clear hK K
   refine Aw_sd hE [0,1,12,13,24] [] 6 (by kernel_rfl) fun K hK=>?_
   simp only [go_sem,seval,h1,h2]
   repeat refine sd0 ?_
   refine hK _ (Aw_cond rfl (fun hc10=>?_) (fun hc10=>?_))
   ·simp only [Bool.not_eq_true',dfn] at hc10
    refine Aw_st hE [4] [] fun K hK=>?_
    simp only [go_sem,seval]
    repeat refine sd0 ?_
    refine hK _ (Aw_ret (hR9 _ (hR8 _ (hR5 _ (hR4 _ (hR3 _ (hQ _ ?_)))))))
    simp only [go_sem,seval,decide_eq_false (show ¬ l1=l2 from fun e=>hc10 (by rw [e]))]
   ·simp only [Bool.not_eq_false',dte] at hc10
    refine Aw_skip (hN9 _ (hB8 _ ?_))
    refine Aw_tx hE [0,1,12,13] [] fun K hK=>?_
    simp only [go_sem,seval]
    repeat refine sd0 ?_
    refine hK _ (hN5 (i + 1) _ (⟨by omega,fun j hj=>if e:j < i then hi.2 j e else (by obtain rfl:j=i:=(by omega);exact hc10)⟩) (by omega) (Le.refl _))
  ·simp only [dfn] at hc7
   refine Aw_exit (hX6 _ _ (hX5 _ _ (hE4 _ (hB3 _ ?_))))
   refine Aw_st hE [4] [] fun K hK=>?_
   simp only [go_sem,seval]
   repeat refine sd0 ?_
   refine hK _ (Aw_ret (hQ _ ?_))
   simp only [go_sem,seval,decide_eq_true (show l1=l2 from (eqL_getD hll).2 fun j hj=>hi.2 j (by omega))]
def gSpC:List AV→Option (Prop × AV)
 | [.agg [.v (.int .i64 f),.v (.int .i64 b),.sl _ _,.v (.int .i64 _),.sl _ _],.agg [.v (.int .i64 f'),.v (.int .i64 b')]]=>some (True,iv (if rngOk f b && rngOk f' b' then rCmp f b f' b' else 0))
 | _=>none
def dSpC:DFn:={ g:=gSpC }
attribute [go_sem] gSpC dSpC
theorem spC_ok:Fine Tryd.prog 48 dSpC.con:=by
 refine fine_det (T:=TT) Tryd.func48 rfl Tryd.ntmps48 (by rw [Tryd.results48]) rfl rfl tt (gs_nil) (ds_cons iRgCmp_ok ds_nil) ?_
 intro args c r h hc
 simp only [dSpC,gSpC] at h
 split at h
 rotate_left
 ·cases h
 obtain ⟨rfl,rfl⟩:=Prod.mk.inj (Option.some.inj h)
 refine ⟨by simp,fun k E hE Q hQ=>?_⟩
 refine Aw_st hE [2,3] [2,3] fun K hK=>?_
 simp only [go_sem,seval]
 repeat refine sd0 ?_
 refine hK _ ?_;clear hK K
 refine Aw_st hE [4] [] fun K hK=>?_
 simp only [go_sem,seval]
 repeat refine sd0 ?_
 refine hK _ (Aw_ret (hQ _ ?_))
 simp only [go_sem,seval]
def rngsOk (l:List Rt):Prop:=∀ r ∈ l,rngOk r.f r.b=true
def gBsF:List AV→Option (Prop × AV)
 | [.sl _ els,.agg [.v (.int .i64 f),.v (.int .i64 b)],x]=>(match fnOf x,rtsL els with
  | some 48,some l=>some ((l.length≤1000∧sortR l)∧rngsOk l∧rngOk f b=true,.tup [iv (spotN l f b),bv (look l (f,b)).isSome])
  | _,_=>none)
 | _=>none
def dBsF:DFn:={ g:=gBsF }
attribute [go_sem] gBsF dBsF
set_option maxHeartbeats 2000000 in
theorem bsF_ok:Fine Tryd.prog 47 dBsF.con:=by
 refine fine_det (T:=TT) Tryd.func47 rfl Tryd.ntmps47 (by rw [Tryd.results47]) rfl rfl tt (gs_nil) (ds_cons spC_ok ds_nil) ?_
 intro args c r h hc
 simp only [dBsF,gBsF] at h
 split at h
 rotate_left
 ·cases h
 split at h
 rotate_left
 ·cases h
 rename_i t els f b x _ _ l hfn hrt
 obtain rfl:=rtsL_eq hrt
 obtain ⟨rfl,rfl⟩:=Prod.mk.inj (Option.some.inj h)
 refine ⟨by simp,fun k E hE Q hQ=>?_⟩
 obtain rfl:=fnOf_ok hfn
 obtain ⟨⟨hll,hsrt⟩,hrs,hrb⟩:=hc
 have hle:=spotN_le f b l
 refine Aw_st hE [0,2,4] [4] fun K hK=>?_
 simp only [go_sem,seval]
 refine hK _ ?_;clear hK K
 refine Aw_st hE [0,2,4,8] [4] fun K hK=>?_
 simp only [go_sem,seval]
 refine hK _ ?_;clear hK K
 refine Aw_st hE [0,2,4,8,9,10] [4] fun K hK=>?_
 simp only [go_sem,seval]
 refine hK _ ?_;clear hK K
 refine Aw_sq fun B1 hB1 hR1 hX1=>?_
 refine Aw_bk fun B2 hN2 hE2 hR2 hX2=>?_
 refine Aw_lp (fun i:Nat × Nat=>⟨49,[(0,.sl none (rrows l)),(2,.v (.func (.func 48) #[] #[])),(4,.loc 4 0),(8,iv l.length),(9,iv i.1),(10,iv i.2)],[(4,[iv f,iv b])],k⟩) (fun i=>i.1≤spotN l f b∧spotN l f b≤i.2∧i.2≤l.length) (fun i=>i.2 - i.1) (0,l.length) (Le_wa) ⟨by simp,by simp only;omega,by simp only;omega⟩ fun i hi B3 hN3 hR3 hX3=>?_
 obtain ⟨i,j⟩:=i
 obtain ⟨hi1,hi2,hi3⟩:=hi
 simp only at hi1 hi2 hi3
 refine Aw_sq fun B4 hB4 hR4 hX4=>?_
 refine Aw_st hE [0,2,4,8,9,10,17] [4] fun K hK=>?_
 simp only [go_sem,seval]
 refine hK _ (Aw_cond rfl (fun hc5=>?_) (fun hc5=>?_))
 ·simp only [dte] at hc5
  obtain ⟨h,hh⟩:∃ h,h=(i + j) / 2:=⟨_,rfl⟩
  have hij:i < j:=by omega
  have hhn:h < l.length:=by omega
  have e:IntKind.i64.wrap ((IntKind.u64.wrap ((i:Int) + (j:Int))).fdiv (2 ^ min 1 64))=(h:Int):=by
   rw [IntKind.wrap_i64,IntKind.wrap_u64,show min 1 64=1 from rfl,Int.fdiv_eq_ediv_of_nonneg _ (by decide)]
   omega
  have hg:=rrows_at l h hhn
  have hr:=hrs _ (List.getElem_mem hhn)
  have hlt:=spotN_lt (f:=f) (b:=b) hsrt h hhn
  generalize l[h]=x at hg hr hlt
  obtain ⟨xf,xb,xp,xk,xm⟩:=x
  simp only at hr hlt
  refine Aw_skip (hB4 _ ?_)
  refine Aw_bk fun B6 hN6 hE6 hR6 hX6=>?_
  refine Aw_st hE [0,2,4,8,9,10,11] [4] fun K hK=>?_
  simp only [go_sem,seval]
  repeat refine sd0 ?_
  rw [e]
  refine hK _ ?_;clear hK K
  refine Aw_sd hE [0,2,4,8,9,10,11,31] [4] 6 (by kernel_rfl) fun K hK=>?_
  simp only [go_sem,seval,hg,Int.toNat_natCast,hr,hrb,Bool.and_self,if_true]
  repeat refine sd0 ?_
  refine hK _ (Aw_cond rfl (fun hc7=>?_) (fun hc7=>?_))
  ·simp only [dte] at hc7
   refine Aw_tx hE [0,2,4,8,9,10] [4] fun K hK=>?_
   simp only [go_sem,seval]
   repeat refine sd0 ?_
   refine hK _ (hN6 _ (hN3 (h + 1,j) _ ⟨by simp only;have:=hlt.2 hc7;omega,hi2,hi3⟩ (by simp only;omega) (Le.refl _)))
  ·simp only [dfn] at hc7
   have hnl:¬ h < spotN l f b:=fun q=>hc7 (hlt.1 q)
   refine Aw_tx hE [0,2,4,8,9,10] [4] fun K hK=>?_
   simp only [go_sem,seval]
   repeat refine sd0 ?_
   refine hK _ (hN6 _ (hN3 (i,h) _ ⟨hi1,by simp only;omega,by simp only;omega⟩ (by simp only;omega) (Le.refl _)))
 ·simp only [dfn] at hc5
  obtain rfl:i=spotN l f b:=by omega
  refine Aw_exit (hX4 _ _ (hX3 _ _ (hE2 _ (hB1 _ ?_))))
  rcases spot_look (f:=f) (b:=b) hsrt with ⟨h1,h2⟩ | ⟨hj,h1,h2⟩
  ·rw [h1] at hQ
   by_cases hj:spotN l f b < l.length
   ·have hg:=rrows_at l _ hj
    have hr:=hrs _ (List.getElem_mem hj)
    have h2:=h2 hj
    have d0:decide ((spotN l f b:Int) < (l.length:Int))=true:=by simp;omega
    have d1:decide (rCmp l[spotN l f b].f l[spotN l f b].b f b=0)=false:=decide_eq_false h2
    refine Aw_sd hE [6,7] [4] 6 (by kernel_rfl) fun K hK=>?_
    simp only [go_sem,seval,d0,hg,hr,hrb,Int.toNat_natCast,Bool.and_self,if_true,d1]
    refine ⟨by omega,hK _ (Aw_ret (hQ _ ?_))⟩
    simp only [go_sem,seval]
    all_goals rfl
   ·have d0:decide ((spotN l f b:Int) < (l.length:Int))=false:=by simp;omega
    refine Aw_sd hE [6,7] [4] 6 (by kernel_rfl) fun K hK=>?_
    simp only [go_sem,seval,d0]
    refine hK _ (Aw_ret (hQ _ ?_))
    simp only [go_sem,seval]
    all_goals rfl
  ·rw [h1] at hQ
   have hg:=rrows_at l _ hj
   have hr:=hrs _ (List.getElem_mem hj)
   have d0:decide ((spotN l f b:Int) < (l.length:Int))=true:=by simp;omega
   have d1:decide (rCmp l[spotN l f b].f l[spotN l f b].b f b=0)=true:=decide_eq_true h2
   refine Aw_sd hE [6,7] [4] 6 (by kernel_rfl) fun K hK=>?_
   simp only [go_sem,seval,d0,hg,hr,hrb,Int.toNat_natCast,Bool.and_self,if_true,d1,h2]
   refine ⟨by omega,hK _ (Aw_ret (hQ _ ?_))⟩
   simp only [go_sem,seval]
   all_goals simp
def gSpot:List AV→Option (Prop × AV)
 | [.sl _ els,.agg [.v (.int .i64 f),.v (.int .i64 b)]]=>(match rtsL els with
  | some l=>some ((l.length≤1000∧sortR l)∧rngsOk l∧rngOk f b=true,.tup [iv (spotN l f b),bv (look l (f,b)).isSome])
  | none=>none)
 | _=>none
def dSpot:DFn:={ g:=gSpot }
attribute [go_sem] gSpot dSpot
theorem spot_ok:Fine Tryd.prog 25 dSpot.con:=by
 refine fine_det (T:=TT) Tryd.func25 rfl Tryd.ntmps25 (by rw [Tryd.results25]) rfl rfl tt (gs_nil) (ds_cons bsF_ok ds_nil) ?_
 intro args c r h hc
 simp only [dSpot,gSpot] at h
 split at h
 rotate_left
 ·cases h
 split at h
 rotate_left
 ·cases h
 rename_i t els f b _ l hrt
 obtain rfl:=rtsL_eq hrt
 obtain ⟨rfl,rfl⟩:=Prod.mk.inj (Option.some.inj h)
 refine ⟨by simp,fun k E hE Q hQ=>?_⟩
 obtain ⟨⟨hll,hsrt⟩,hrs,hrb⟩:=hc
 refine Aw_st hE [0,3] [3] fun K hK=>?_
 simp only [go_sem,seval]
 repeat refine sd0 ?_
 refine hK _ ?_;clear hK K
 refine Aw_st hE [4,5] [] fun K hK=>?_
 simp only [go_sem,seval]
 repeat refine sd0 ?_
 refine hK _ (Aw_ret (hQ _ ?_))
 simp only [go_sem,seval]
def gSame:List AV→Option (Prop × AV)
 | [.agg [.v (.int .i64 f),.v (.int .i64 b),.sl _ e1,.v (.int .i64 k),.sl _ e2],.agg [.v (.int .i64 f'),.v (.int .i64 b'),.sl _ e3,.v (.int .i64 k'),.sl _ e4]]=>(match intsL e1,intsL e2,intsL e3,intsL e4 with
  | some p,some m,some p',some m'=>some ((p.length≤1000∧p'.length≤1000)∧m.length≤1000∧m'.length≤1000,bv (decide ((⟨f,b,p,k,m⟩:Rt)=⟨f',b',p',k',m'⟩)))
  | _,_,_,_=>none)
 | _=>none
def dSame:DFn:={ g:=gSame }
attribute [go_sem] gSame dSame
theorem same_ok:Fine Tryd.prog 26 dSame.con:=by
 refine fine_det (T:=TT) Tryd.func26 rfl Tryd.ntmps26 (by rw [Tryd.results26]) rfl rfl tt (gs_nil) (ds_cons eqL_ok ds_nil) ?_
 intro args c r h hc
 simp only [dSame,gSame] at h
 split at h
 rotate_left
 ·cases h
 split at h
 rotate_left
 ·cases h
 rename_i f b t1 e1 kk t2 e2 f' b' t3 e3 kk' t4 e4 _ _ _ _ p m p' m' hl1 hl2 hl3 hl4
 obtain rfl:=intsL_eq hl1
 obtain rfl:=intsL_eq hl2
 obtain rfl:=intsL_eq hl3
 obtain rfl:=intsL_eq hl4
 obtain ⟨rfl,rfl⟩:=Prod.mk.inj (Option.some.inj h)
 refine ⟨by simp,fun k E hE Q hQ=>?_⟩
 obtain ⟨⟨hp,hp'⟩,hm,hm'⟩:=hc
 have q1:p.length≤4294967296∧p'.length≤4294967296:=by omega
 have q2:m.length≤4294967296∧m'.length≤4294967296:=by omega
 refine Aw_st hE [2,3] [2,3] fun K hK=>?_
 simp only [go_sem,seval]
 refine hK _ ?_;clear hK K
 have hd:decide ((⟨f,b,p,kk,m⟩:Rt)=⟨f',b',p',kk',m'⟩)=(((f == f' && b == b') && decide (kk=kk')) && decide (p=p') && decide (m=m')):=by
  rw [Bool.eq_iff_iff]
  simp only [dte,Bool.and_eq_true,Rt.mk.injEq,beq_iff_eq]
  constructor
  ·rintro ⟨a1,a2,a3,a4,a5⟩;exact ⟨⟨⟨⟨a1,a2⟩,a4⟩,a3⟩,a5⟩
  ·rintro ⟨⟨⟨⟨a1,a2⟩,a4⟩,a3⟩,a5⟩;exact ⟨a1,a2,a3,a4,a5⟩
 rw [hd] at hQ
 cases c1:(f == f' && b == b') with
 | false =>
  refine Aw_st hE [4] [2,3] fun K hK=>?_
  simp only [go_sem,seval,c1,q1,q2]
  refine hK _ (Aw_ret (hQ _ ?_))
  simp only [go_sem,seval,c1]
 | true =>
 cases c2:decide (kk=kk') with
 | false =>
  refine Aw_st hE [4] [2,3] fun K hK=>?_
  simp only [go_sem,seval,c1,c2,q1,q2]
  refine hK _ (Aw_ret (hQ _ ?_))
  simp only [go_sem,seval,c1,c2]
 | true =>
 cases c3:decide (p=p') with
 | false =>
  refine Aw_st hE [4] [2,3] fun K hK=>?_
  simp only [go_sem,seval,c1,c2,c3,q1,q2]
  refine hK _ (Aw_ret (hQ _ ?_))
  simp only [go_sem,seval,c1,c2,c3]
 | true =>
  refine Aw_st hE [4] [2,3] fun K hK=>?_
  simp only [go_sem,seval,c1,c2,c3,q1,q2]
  refine hK _ (Aw_ret (hQ _ ?_))
  simp only [go_sem,seval,c1,c2,c3]
def cDl:List (Int × Int)→AV
 | []=>.nl
 | k::D=>.sl (some (9,0,33)) (krows (k::D))
def cTl:List Rt→AV
 | []=>.nl
 | r::T=>.sl (some (10,0,36)) (rrows (r::T))
theorem rngs_ok {l:List Rt} (h:routesOk l=true):rngsOk l:=fun r hr=>rtOk_r (show rtOk r.f r.b r.path r.like r.marks=true from (routesOk_iff.1 h).2.1 r hr)
theorem dropsU_yes {a b:List Rt} {i:Nat} {y:Rt} (hi:i < a.length) (h:look b (key a[i])=some y):dropsU a b (i + 1)=dropsU a b i:=by
 rw [dropsU_step hi,h];exact List.append_nil _
theorem dropsU_no {a b:List Rt} {i:Nat} (hi:i < a.length) (h:look b (key a[i])=none):dropsU a b (i + 1)=dropsU a b i++[key a[i]]:=by
 rw [dropsU_step hi,h];rfl
def iS1 (a b:List Rt) (k i:Nat):St:=⟨79,[(0,.sl none (rrows a)),(1,.sl none (rrows b)),(4,.loc 4 0),(5,.loc 5 0),(23,.sl none (rrows a)),(24,iv a.length),(25,iv i)],[(4,[.nl,.nl]),(5,[cDl (dropsU a b i),.nl])],k⟩
def iS2 (a b:List Rt) (k i:Nat):St:=⟨79,[(0,.sl none (rrows a)),(4,.loc 4 0),(5,.loc 5 0),(46,.sl none (rrows b)),(47,iv b.length),(48,iv i)],[(4,[.nl,.nl]),(5,[.sl none (krows (dropsF a b)),cTl (tellsU a b i)])],k⟩
set_option maxHeartbeats 8000000 in
theorem iDeltaOf_ok (pb:Addr):Fine Tryd.prog 10 (dDeltaI pb).con:=by
 refine fine_det (T:=TT) Tryd.func10 rfl Tryd.ntmps10 (by rw [Tryd.results10]) rfl rfl tt (gs_nil) (ds_cons (iRoutesOk_ok pb) (ds_cons spot_ok (ds_cons same_ok (ds_cons copyD_ok ds_nil))) (wp_inh pb)) ?_
 intro args c r h hc
 simp only [dDeltaI,gDelta] at h
 split at h
 rotate_left
 ·cases h
 split at h
 rotate_left
 ·cases h
 rename_i ta e1 tb e2 _ _ a b hrt1 hrt2
 obtain rfl:=rtsL_eq hrt1
 obtain rfl:=rtsL_eq hrt2
 obtain ⟨rfl,rfl⟩:=Prod.mk.inj (Option.some.inj h)
 refine ⟨by simp,fun k E hE Q hQ=>?_⟩
 obtain ⟨hca,hcb⟩:=hc
 have hal:=hca.1
 have hbl:=hcb.1
 refine Aw_st hE [0,1,4] [4,5,7,11] fun K hK=>?_
 simp only [go_sem,seval]
 refine hK _ ?_;clear hK K
 refine Aw_sq fun B1 hB1 hR1 hX1=>?_
 cases hoa:routesOk a with
 | false =>
  have hd:dropsB a b=[]:=by unfold dropsB;rw [hoa];rfl
  have ht:tellsB a b=[]:=by unfold tellsB;rw [hoa];rfl
  refine Aw_st hE [0,1,4,21] [4,5,7,11] fun K hK=>?_
  simp only [go_sem,seval,hoa]
  refine ⟨hca,?_⟩
  refine hK _ (Aw_yes rfl ?_)
  refine Aw_st hE [4] [4,5,7,11] fun K hK=>?_
  simp only [go_sem,seval]
  refine hK _ (Aw_ret (hR1 _ (hQ _ ?_)))
  simp only [go_sem,seval,hd,ht]
 | true =>
 cases hob:routesOk b with
 | false =>
  have hd:dropsB a b=[]:=by unfold dropsB;rw [hoa,hob];rfl
  have ht:tellsB a b=[]:=by unfold tellsB;rw [hoa,hob];rfl
  refine Aw_st hE [0,1,4,21] [4,5,7,11] fun K hK=>?_
  simp only [go_sem,seval,hoa,hob]
  refine ⟨hca,hcb,?_⟩
  refine hK _ (Aw_yes rfl ?_)
  refine Aw_st hE [4] [4,5,7,11] fun K hK=>?_
  simp only [go_sem,seval]
  refine hK _ (Aw_ret (hR1 _ (hQ _ ?_)))
  simp only [go_sem,seval,hd,ht]
 | true =>
 have hd:dropsB a b=dropsF a b:=by unfold dropsB;rw [hoa,hob];rfl
 have ht:tellsB a b=tellsF a b:=by unfold tellsB;rw [hoa,hob];rfl
 have hra:=rngs_ok hoa
 have hrb:=rngs_ok hob
 have hsa:=(routesOk_iff.1 hoa).2.2
 have hsb:=(routesOk_iff.1 hob).2.2
 refine Aw_st hE [0,1,4,21] [4,5,7,11] fun K hK=>?_
 simp only [go_sem,seval,hoa,hob]
 refine ⟨hca,hcb,?_⟩
 refine hK _ (Aw_no rfl (Aw_skip (hB1 _ ?_)))
 refine Aw_st hE [0,1,4,5] [4,5,7,11] fun K hK=>?_
 simp only [go_sem,seval]
 refine hK _ ?_;clear hK K
 refine Aw_sqJ (fun _:Unit=>⟨79,[(0,.sl none (rrows a)),(1,.sl none (rrows b)),(4,.loc 4 0),(5,.loc 5 0)],[(4,[.nl,.nl]),(5,[.sl none (krows (dropsF a b)),.nl])],k⟩) (fun _=>True) (fun _ _=>?_) fun B5 hB5 hR5 hX5=>?_
 ·refine Aw_sq fun B13 hB13 hR13 hX13=>?_
  refine Aw_st hE [0,4,5,46,47,48] [4,5,7,11] fun K hK=>?_
  simp only [go_sem,seval]
  refine hK _ ?_;clear hK K
  refine Aw_bk fun B14 hN14 hE14 hR14 hX14=>?_
  refine Aw_lp (fun i:Nat=>iS2 a b k i) (fun i=>i≤b.length) (fun i=>b.length - i) 0 (Le.refl _) (by omega) fun i hi B15 hN15 hR15 hX15=>?_
  have hTl:=tellsU_len a b i
  simp only [iS2]
  rcases hT:tellsU a b i with _ | ⟨r0,T0⟩
  all_goals simp only [cTl]
  ·refine Aw_st hE [0,4,5,46,47,48,49] [4,5,7,11] fun K hK=>?_
   simp only [go_sem,seval]
   refine hK _ ?_;clear hK K
   refine Aw_sq fun B16 hB16 hR16 hX16=>?_
   refine Aw_cond rfl (fun hc17=>?_) (fun hc17=>?_)
   ·simp only [dte] at hc17
    have hil:i < b.length:=by omega
    have hg:=rrows_at b i hil
    have hrx:=hrb _ (List.getElem_mem hil)
    obtain ⟨hxp,hxm⟩:=smallR_at hcb i hil
    have hsty:=fun h=>tellsU_yes (a:=a) hil h
    have hstn:=fun h=>tellsU_no (a:=a) hil h
    generalize b[i]=x at hg hsty hstn hxp hxm hrx
    obtain ⟨xf,xb,xp,xk,xm⟩:=x
    simp only at hxp hxm hrx
    have hxl:xp.length≤2000000∧xm.length≤2000000:=by omega
    refine Aw_skip (hB16 _ ?_)
    refine Aw_sq fun B18 hB18 hR18 hX18=>?_
    refine Aw_bk fun B19 hN19 hE19 hR19 hX19=>?_
    refine Aw_st hE [0,4,5,11,46,47,48] [4,5,7,11] fun K hK=>?_
    simp only [go_sem,seval,hg]
    repeat refine sd0 ?_
    refine hK _ ?_;clear hK K
    refine Aw_st hE [0,4,5,11,12,13,46,47,48] [4,5,7,11] fun K hK=>?_
    simp only [go_sem,seval]
    refine ⟨⟨⟨hal,hsa⟩,hra,hrx⟩,?_⟩
    refine hK _ ?_;clear hK K
    rcases spot_look (f:=xf) (b:=xb) hsa with ⟨h1,_⟩ | ⟨hj,h1,_⟩
    ·have hst:=hstn (show ¬ look a (xf,xb)=some _ by rw [h1];simp)
     rw [h1]
     refine Aw_sd hE [0,4,5,11,46,47,48,69] [4,5,7,11] 6 (by kernel_rfl) fun K hK=>?_
     simp only [go_sem,seval,Option.isSome_none,Bool.not_false]
     refine hK _ (Aw_yes rfl ?_)
     refine Aw_td hE [0,4,5,46,47,48] [4,5,7,11] 6 (by kernel_rfl) fun K hK=>?_
     simp only [go_sem,seval,rrows_one,List.nil_append]
     refine ⟨hxl,rrows_row _,?_⟩
     refine hK _ (hN19 _ (hB18 _ ?_))
     refine Aw_tx hE [0,4,5,46,47,48] [4,5,7,11] fun K hK=>?_
     simp only [go_sem,seval]
     repeat refine sd0 ?_
     refine hK _ (hN15 (i + 1) _ (by omega) (by omega) ?_)
     simp only [iS2]
     rw [hst,hT]
     exact (Le_kb [4,5] rfl).trans (Le_tk 75 10 rfl)
    ·have hgj:=rrows_at a _ hj
     obtain ⟨hyp,hym⟩:=smallR_at hca _ hj
     have hln:(a[spotN a xf xb].path.length≤1000∧xp.length≤1000)∧a[spotN a xf xb].marks.length≤1000∧xm.length≤1000:=by omega
     by_cases he:a[spotN a xf xb]=(⟨xf,xb,xp,xk,xm⟩:Rt)
     ·have hst:=hsty (show look a (xf,xb)=some _ by rw [h1,he])
      have d1:decide ((⟨a[spotN a xf xb].f,a[spotN a xf xb].b,a[spotN a xf xb].path,a[spotN a xf xb].like,a[spotN a xf xb].marks⟩:Rt)=⟨xf,xb,xp,xk,xm⟩)=true:=decide_eq_true he
      rw [h1]
      refine Aw_sd hE [0,4,5,11,46,47,48,69] [4,5,7,11] 6 (by kernel_rfl) fun K hK=>?_
      simp only [go_sem,seval,Option.isSome_some,Bool.not_true,hgj,Int.toNat_natCast,d1]
      refine ⟨by omega,hln,?_⟩
      refine hK _ (Aw_no rfl ?_)
      refine Aw_skip (hN19 _ (hB18 _ ?_))
      refine Aw_tx hE [0,4,5,46,47,48] [4,5,7,11] fun K hK=>?_
      simp only [go_sem,seval]
      repeat refine sd0 ?_
      refine hK _ (hN15 (i + 1) _ (by omega) (by omega) ?_)
      simp only [iS2]
      rw [hst,hT]
      exact Le_ks [0,4,5,46,47,48] [4,5]
     ·have hst:=hstn (show ¬ look a (xf,xb)=some _ by rw [h1];exact fun e=>he (Option.some.inj e))
      have d1:decide ((⟨a[spotN a xf xb].f,a[spotN a xf xb].b,a[spotN a xf xb].path,a[spotN a xf xb].like,a[spotN a xf xb].marks⟩:Rt)=⟨xf,xb,xp,xk,xm⟩)=false:=decide_eq_false he
      rw [h1]
      refine Aw_sd hE [0,4,5,11,46,47,48,69] [4,5,7,11] 6 (by kernel_rfl) fun K hK=>?_
      simp only [go_sem,seval,Option.isSome_some,Bool.not_true,hgj,Int.toNat_natCast,d1]
      refine ⟨by omega,hln,?_⟩
      refine hK _ (Aw_yes rfl ?_)
      refine Aw_td hE [0,4,5,46,47,48] [4,5,7,11] 6 (by kernel_rfl) fun K hK=>?_
      simp only [go_sem,seval,rrows_one,List.nil_append]
      refine ⟨hxl,rrows_row _,?_⟩
      refine hK _ (hN19 _ (hB18 _ ?_))
      refine Aw_tx hE [0,4,5,46,47,48] [4,5,7,11] fun K hK=>?_
      simp only [go_sem,seval]
      repeat refine sd0 ?_
      refine hK _ (hN15 (i + 1) _ (by omega) (by omega) ?_)
      simp only [iS2]
      rw [hst,hT]
      exact (Le_kb [4,5] rfl).trans (Le_tk 75 10 rfl)
   ·simp only [dfn] at hc17
    obtain rfl:i=b.length:=by omega
    have e2:tellsF a b=[]:=by rw [← hT];unfold tellsU;rw [List.take_length]
    refine Aw_exit (hX16 _ _ (hX15 _ _ (hE14 _ (hB13 _ ?_))))
    refine Aw_st hE [4] [4,5,7,11] fun K hK=>?_
    simp only [go_sem,seval]
    refine hK _ (Aw_ret (hQ _ ?_))
    simp only [go_sem,seval,hd,ht,e2]
    all_goals rfl
  ·refine Aw_st hE [0,4,5,46,47,48,49] [4,5,7,11] fun K hK=>?_
   simp only [go_sem,seval]
   refine hK _ ?_;clear hK K
   refine Aw_sq fun B16 hB16 hR16 hX16=>?_
   refine Aw_cond rfl (fun hc17=>?_) (fun hc17=>?_)
   ·simp only [dte] at hc17
    have hil:i < b.length:=by omega
    have hg:=rrows_at b i hil
    have hrx:=hrb _ (List.getElem_mem hil)
    obtain ⟨hxp,hxm⟩:=smallR_at hcb i hil
    have hsty:=fun h=>tellsU_yes (a:=a) hil h
    have hstn:=fun h=>tellsU_no (a:=a) hil h
    generalize b[i]=x at hg hsty hstn hxp hxm hrx
    obtain ⟨xf,xb,xp,xk,xm⟩:=x
    simp only at hxp hxm hrx
    have hxl:xp.length≤2000000∧xm.length≤2000000:=by omega
    refine Aw_skip (hB16 _ ?_)
    refine Aw_sq fun B18 hB18 hR18 hX18=>?_
    refine Aw_bk fun B19 hN19 hE19 hR19 hX19=>?_
    refine Aw_st hE [0,4,5,11,46,47,48] [4,5,7,11] fun K hK=>?_
    simp only [go_sem,seval,hg]
    repeat refine sd0 ?_
    refine hK _ ?_;clear hK K
    refine Aw_st hE [0,4,5,11,12,13,46,47,48] [4,5,7,11] fun K hK=>?_
    simp only [go_sem,seval]
    refine ⟨⟨⟨hal,hsa⟩,hra,hrx⟩,?_⟩
    refine hK _ ?_;clear hK K
    rcases spot_look (f:=xf) (b:=xb) hsa with ⟨h1,_⟩ | ⟨hj,h1,_⟩
    ·have hst:=hstn (show ¬ look a (xf,xb)=some _ by rw [h1];simp)
     rw [h1]
     refine Aw_sd hE [0,4,5,11,46,47,48,69] [4,5,7,11] 6 (by kernel_rfl) fun K hK=>?_
     simp only [go_sem,seval,Option.isSome_none,Bool.not_false]
     refine hK _ (Aw_yes rfl ?_)
     refine Aw_td hE [0,4,5,46,47,48] [4,5,7,11] 6 (by kernel_rfl) fun K hK=>?_
     simp only [go_sem,seval,rrows_one,List.nil_append]
     refine ⟨hxl,⟨rrows_row _,by rw [hT,List.length_cons] at hTl;omega⟩,?_⟩
     refine hK _ (hN19 _ (hB18 _ ?_))
     refine Aw_tx hE [0,4,5,46,47,48] [4,5,7,11] fun K hK=>?_
     simp only [go_sem,seval]
     repeat refine sd0 ?_
     refine hK _ (hN15 (i + 1) _ (by omega) (by omega) ?_)
     simp only [iS2]
     rw [hst,hT]
     exact (Le_kb [4,5] rfl).trans (Le_tk 75 10 rfl)
    ·have hgj:=rrows_at a _ hj
     obtain ⟨hyp,hym⟩:=smallR_at hca _ hj
     have hln:(a[spotN a xf xb].path.length≤1000∧xp.length≤1000)∧a[spotN a xf xb].marks.length≤1000∧xm.length≤1000:=by omega
     by_cases he:a[spotN a xf xb]=(⟨xf,xb,xp,xk,xm⟩:Rt)
     ·have hst:=hsty (show look a (xf,xb)=some _ by rw [h1,he])
      have d1:decide ((⟨a[spotN a xf xb].f,a[spotN a xf xb].b,a[spotN a xf xb].path,a[spotN a xf xb].like,a[spotN a xf xb].marks⟩:Rt)=⟨xf,xb,xp,xk,xm⟩)=true:=decide_eq_true he
      rw [h1]
      refine Aw_sd hE [0,4,5,11,46,47,48,69] [4,5,7,11] 6 (by kernel_rfl) fun K hK=>?_
      simp only [go_sem,seval,Option.isSome_some,Bool.not_true,hgj,Int.toNat_natCast,d1]
      refine ⟨by omega,hln,?_⟩
      refine hK _ (Aw_no rfl ?_)
      refine Aw_skip (hN19 _ (hB18 _ ?_))
      refine Aw_tx hE [0,4,5,46,47,48] [4,5,7,11] fun K hK=>?_
      simp only [go_sem,seval]
      repeat refine sd0 ?_
      refine hK _ (hN15 (i + 1) _ (by omega) (by omega) ?_)
      simp only [iS2]
      rw [hst,hT]
      exact Le_ks [0,4,5,46,47,48] [4,5]
     ·have hst:=hstn (show ¬ look a (xf,xb)=some _ by rw [h1];exact fun e=>he (Option.some.inj e))
      have d1:decide ((⟨a[spotN a xf xb].f,a[spotN a xf xb].b,a[spotN a xf xb].path,a[spotN a xf xb].like,a[spotN a xf xb].marks⟩:Rt)=⟨xf,xb,xp,xk,xm⟩)=false:=decide_eq_false he
      rw [h1]
      refine Aw_sd hE [0,4,5,11,46,47,48,69] [4,5,7,11] 6 (by kernel_rfl) fun K hK=>?_
      simp only [go_sem,seval,Option.isSome_some,Bool.not_true,hgj,Int.toNat_natCast,d1]
      refine ⟨by omega,hln,?_⟩
      refine hK _ (Aw_yes rfl ?_)
      refine Aw_td hE [0,4,5,46,47,48] [4,5,7,11] 6 (by kernel_rfl) fun K hK=>?_
      simp only [go_sem,seval,rrows_one,List.nil_append]
      refine ⟨hxl,⟨rrows_row _,by rw [hT,List.length_cons] at hTl;omega⟩,?_⟩
      refine hK _ (hN19 _ (hB18 _ ?_))
      refine Aw_tx hE [0,4,5,46,47,48] [4,5,7,11] fun K hK=>?_
      simp only [go_sem,seval]
      repeat refine sd0 ?_
      refine hK _ (hN15 (i + 1) _ (by omega) (by omega) ?_)
      simp only [iS2]
      rw [hst,hT]
      exact (Le_kb [4,5] rfl).trans (Le_tk 75 10 rfl)
   ·simp only [dfn] at hc17
    obtain rfl:i=b.length:=by omega
    have e2:tellsF a b=r0::T0:=by rw [← hT];unfold tellsU;rw [List.take_length]
    refine Aw_exit (hX16 _ _ (hX15 _ _ (hE14 _ (hB13 _ ?_))))
    refine Aw_st hE [4] [4,5,7,11] fun K hK=>?_
    simp only [go_sem,seval]
    refine hK _ (Aw_ret (hQ _ ?_))
    simp only [go_sem,seval,hd,ht,e2]
    all_goals rfl
 ·refine Aw_st hE [0,1,4,5,23,24,25] [4,5,7,11] fun K hK=>?_
  simp only [go_sem,seval]
  refine hK _ ?_;clear hK K
  refine Aw_bk fun B6 hN6 hE6 hR6 hX6=>?_
  refine Aw_lp (fun i:Nat=>iS1 a b k i) (fun i=>i≤a.length) (fun i=>a.length - i) 0 (Le_wk (by first | omega | (dsimp only;omega) | (simp only;omega) | (simp;omega)) (by simp only [go_sem,seval]) (by simp only [go_sem,seval];rfl)) (by omega) fun i hi B7 hN7 hR7 hX7=>?_
  have hDl:=dropsU_len a b i
  simp only [iS1]
  rcases hD:dropsU a b i with _ | ⟨k0,D0⟩
  all_goals simp only [cDl]
  ·refine Aw_st hE [0,1,4,5,23,24,25,26] [4,5,7,11] fun K hK=>?_
   simp only [go_sem,seval]
   refine hK _ ?_;clear hK K
   refine Aw_sq fun B8 hB8 hR8 hX8=>?_
   refine Aw_cond rfl (fun hc9=>?_) (fun hc9=>?_)
   ·simp only [dte] at hc9
    have hil:i < a.length:=by omega
    have hg:=rrows_at a i hil
    have hrx:=hra _ (List.getElem_mem hil)
    have hsty:=fun y h=>dropsU_yes (b:=b) (y:=y) hil h
    have hstn:=fun h=>dropsU_no (b:=b) hil h
    generalize a[i]=x at hg hsty hstn hrx
    obtain ⟨xf,xb,xp,xk,xm⟩:=x
    simp only at hrx
    refine Aw_skip (hB8 _ ?_)
    refine Aw_sq fun B10 hB10 hR10 hX10=>?_
    refine Aw_bk fun B11 hN11 hE11 hR11 hX11=>?_
    refine Aw_st hE [0,1,4,5,7,23,24,25] [4,5,7,11] fun K hK=>?_
    simp only [go_sem,seval,hg]
    repeat refine sd0 ?_
    refine hK _ ?_;clear hK K
    refine Aw_st hE [0,1,4,5,7,9,23,24,25] [4,5,7,11] fun K hK=>?_
    simp only [go_sem,seval]
    refine ⟨⟨⟨hbl,hsb⟩,hrb,hrx⟩,?_⟩
    refine hK _ ?_;clear hK K
    cases hlk:look b (xf,xb) with
    | none =>
     have hst:dropsU a b (i + 1)=dropsU a b i++[(xf,xb)]:=hstn hlk
     refine Aw_st hE [0,1,4,5,7,23,24,25,37] [4,5,7,11] fun K hK=>?_
     simp only [go_sem,seval]
     refine hK _ (Aw_yes rfl ?_)
     refine Aw_tx hE [0,1,4,5,23,24,25] [4,5,7,11] fun K hK=>?_
     simp only [go_sem,seval,krows_one,List.nil_append]
     refine ⟨krows_row _,?_⟩
     refine hK _ (hN11 _ (hB10 _ ?_))
     refine Aw_tx hE [0,1,4,5,23,24,25] [4,5,7,11] fun K hK=>?_
     simp only [go_sem,seval]
     repeat refine sd0 ?_
     refine hK _ (hN7 (i + 1) _ (by omega) (by omega) ?_)
     simp only [iS1]
     rw [hst,hD]
     exact (Le_kb [4,5] rfl).trans (Le_tk 43 9 rfl)
    | some y =>
     have hst:dropsU a b (i + 1)=dropsU a b i:=hsty y hlk
     refine Aw_st hE [0,1,4,5,7,23,24,25,37] [4,5,7,11] fun K hK=>?_
     simp only [go_sem,seval]
     refine hK _ (Aw_no rfl ?_)
     refine Aw_skip (hN11 _ (hB10 _ ?_))
     refine Aw_tx hE [0,1,4,5,23,24,25] [4,5,7,11] fun K hK=>?_
     simp only [go_sem,seval]
     repeat refine sd0 ?_
     refine hK _ (hN7 (i + 1) _ (by omega) (by omega) ?_)
     simp only [iS1]
     rw [hst,hD]
     exact Le_ks [0,1,4,5,23,24,25] [4,5]
   ·simp only [dfn] at hc9
    obtain rfl:i=a.length:=by omega
    have e1:dropsF a b=[]:=by
     rw [← hD];unfold dropsU;rw [List.take_length]
    refine Aw_exit (hX8 _ _ (hX7 _ _ (hE6 _ (hB5 () _ trivial (Le_E ?_)))))
    rw [e1]
    exact Le_wk (Nat.le_refl _) (by simp only [go_sem,seval]) (by simp only [go_sem,seval];all_goals rfl)
  ·refine Aw_st hE [0,1,4,5,23,24,25,26] [4,5,7,11] fun K hK=>?_
   simp only [go_sem,seval]
   refine hK _ ?_;clear hK K
   refine Aw_sq fun B8 hB8 hR8 hX8=>?_
   refine Aw_cond rfl (fun hc9=>?_) (fun hc9=>?_)
   ·simp only [dte] at hc9
    have hil:i < a.length:=by omega
    have hg:=rrows_at a i hil
    have hrx:=hra _ (List.getElem_mem hil)
    have hsty:=fun y h=>dropsU_yes (b:=b) (y:=y) hil h
    have hstn:=fun h=>dropsU_no (b:=b) hil h
    generalize a[i]=x at hg hsty hstn hrx
    obtain ⟨xf,xb,xp,xk,xm⟩:=x
    simp only at hrx
    refine Aw_skip (hB8 _ ?_)
    refine Aw_sq fun B10 hB10 hR10 hX10=>?_
    refine Aw_bk fun B11 hN11 hE11 hR11 hX11=>?_
    refine Aw_st hE [0,1,4,5,7,23,24,25] [4,5,7,11] fun K hK=>?_
    simp only [go_sem,seval,hg]
    repeat refine sd0 ?_
    refine hK _ ?_;clear hK K
    refine Aw_st hE [0,1,4,5,7,9,23,24,25] [4,5,7,11] fun K hK=>?_
    simp only [go_sem,seval]
    refine ⟨⟨⟨hbl,hsb⟩,hrb,hrx⟩,?_⟩
    refine hK _ ?_;clear hK K
    cases hlk:look b (xf,xb) with
    | none =>
     have hst:dropsU a b (i + 1)=dropsU a b i++[(xf,xb)]:=hstn hlk
     refine Aw_st hE [0,1,4,5,7,23,24,25,37] [4,5,7,11] fun K hK=>?_
     simp only [go_sem,seval]
     refine hK _ (Aw_yes rfl ?_)
     refine Aw_tx hE [0,1,4,5,23,24,25] [4,5,7,11] fun K hK=>?_
     simp only [go_sem,seval,krows_one,List.nil_append]
     refine ⟨⟨krows_row _,by rw [hD,List.length_cons] at hDl;omega⟩,?_⟩
     refine hK _ (hN11 _ (hB10 _ ?_))
     refine Aw_tx hE [0,1,4,5,23,24,25] [4,5,7,11] fun K hK=>?_
     simp only [go_sem,seval]
     repeat refine sd0 ?_
     refine hK _ (hN7 (i + 1) _ (by omega) (by omega) ?_)
     simp only [iS1]
     rw [hst,hD]
     exact (Le_kb [4,5] rfl).trans (Le_tk 43 9 rfl)
    | some y =>
     have hst:dropsU a b (i + 1)=dropsU a b i:=hsty y hlk
     refine Aw_st hE [0,1,4,5,7,23,24,25,37] [4,5,7,11] fun K hK=>?_
     simp only [go_sem,seval]
     refine hK _ (Aw_no rfl ?_)
     refine Aw_skip (hN11 _ (hB10 _ ?_))
     refine Aw_tx hE [0,1,4,5,23,24,25] [4,5,7,11] fun K hK=>?_
     simp only [go_sem,seval]
     repeat refine sd0 ?_
     refine hK _ (hN7 (i + 1) _ (by omega) (by omega) ?_)
     simp only [iS1]
     rw [hst,hD]
     exact Le_ks [0,1,4,5,23,24,25] [4,5]
   ·simp only [dfn] at hc9
    obtain rfl:i=a.length:=by omega
    have e1:dropsF a b=k0::D0:=by
     rw [← hD];unfold dropsU;rw [List.take_length]
    refine Aw_exit (hX8 _ _ (hX7 _ _ (hE6 _ (hB5 () _ trivial (Le_E ?_)))))
    rw [e1]
    exact Le_wk (Nat.le_refl _) (by simp only [go_sem,seval]) (by simp only [go_sem,seval];all_goals rfl)
def gLyRx:List AV→Option (Prop × AV)
 | [.sl _ e1,.sl _ e2]=>(match rtsL e1,rtsL e2 with
  | some a,some b=>some ((a=b∧a.length≤1000000)∧∀ r ∈ a,r.path.length≤1000000∧r.marks.length≤1000000,bv true)
  | _,_=>none)
 | _=>none
def dLyRx:DFn:={ g:=gLyRx }
attribute [go_sem] gLyRx dLyRx
theorem lyRts_ok:Fine Tryd.prog 19 dLyRx.con:=by
 refine fine_det (T:=TT) Tryd.func19 rfl Tryd.ntmps19 (by rw [Tryd.results19]) rfl rfl tt gs_nil (ds_cons lyRoute_ok ds_nil) ?_
 intro args c r h hc
 simp only [dLyRx,gLyRx] at h
 split at h
 rotate_left
 ·cases h
 split at h
 rotate_left
 ·cases h
 rename_i t1 e1 t2 e2 _ _ l l2 hrt1 hrt2
 obtain rfl:=rtsL_eq hrt1
 obtain rfl:=rtsL_eq hrt2
 obtain ⟨rfl,rfl⟩:=Prod.mk.inj (Option.some.inj h)
 refine ⟨by simp,fun k E hE Q hQ=>?_⟩
 obtain ⟨⟨rfl,hll⟩,hlen⟩:=hc
 refine Aw_st hE [0,1] [] fun K hK=>?_
 simp only [go_sem,seval]
 repeat refine sd0 ?_
 refine hK _ ?_;clear hK K
 refine Aw_sq fun B1 hB1 hR1 hX1=>?_
 refine Aw_st hE [0,1,10] [] fun K hK=>?_
 simp only [go_sem,seval,decide_true,Bool.not_true]
 repeat refine sd0 ?_
 skip
 refine hK _ (Aw_no rfl ?_)
 refine Aw_skip (hB1 _ ?_)
 refine Aw_sq fun B3 hB3 hR3 hX3=>?_
 refine Aw_st hE [0,1,5] [] fun K hK=>?_
 simp only [go_sem,seval]
 repeat refine sd0 ?_
 refine hK _ ?_;clear hK K
 refine Aw_bk fun B4 hN4 hE4 hR4 hX4=>?_
 refine Aw_lp (fun i:Nat=>⟨27,[(0,.sl t1 (rrows l)),(1,.sl t2 (rrows l)),(5,iv i)],[],k⟩) (fun i:Nat=>i≤l.length) (fun i:Nat=>l.length - i) (0) (Le.refl _) (by omega) fun i hi B5 hN5 hR5 hX5=>?_
 refine Aw_sq fun B6 hB6 hR6 hX6=>?_
 refine Aw_st hE [0,1,5,14] [] fun K hK=>?_
 simp only [go_sem,seval]
 repeat refine sd0 ?_
 refine hK _ (Aw_cond rfl (fun hc7=>?_) (fun hc7=>?_))
 ·simp only [dte] at hc7
  have hil:i < l.length:=by omega
  have hget:=rrows_get l i hil
  have hln:=hlen _ (List.getElem_mem hil)
  generalize l[i]=x at hget hln
  obtain ⟨rf,rb,p,rk,m⟩:=x
  simp only at hln
  refine Aw_skip (hB6 _ ?_)
  refine Aw_sq fun B8 hB8 hR8 hX8=>?_
  refine Aw_bk fun B9 hN9 hE9 hR9 hX9=>?_
  refine Aw_sd hE [0,1,5,26] [] 6 (by kernel_rfl) fun K hK=>?_
  simp only [go_sem,seval,hget,and_self,decide_true]
  repeat refine sd0 ?_
  skip
  refine hK _ (Aw_no rfl ?_)
  refine Aw_skip (hN9 _ (hB8 _ ?_))
  refine Aw_tx hE [0,1,5] [] fun K hK=>?_
  simp only [go_sem,seval]
  repeat refine sd0 ?_
  refine hK _ (hN5 (i + 1) _ (by omega) (by omega) (Le.refl _))
 ·refine Aw_exit (hX6 _ _ (hX5 _ _ (hE4 _ (hB3 _ ?_))))
  refine Aw_st hE [4] [] fun K hK=>?_
  simp only [go_sem,seval]
  repeat refine sd0 ?_
  refine hK _ (Aw_ret (hQ _ ?_))
  simp only [go_sem,seval]
def gDMany:List AV→Option (Prop × AV)
 | [.agg [.sl _ e1,.sl _ e2]]=>(match krL e1,rtsL e2 with
  | some D,some T=>some (D.length≤1000∧T.length≤1000,iv (D.length + T.length))
  | _,_=>none)
 | _=>none
def dDMany:DFn:={ g:=gDMany }
attribute [go_sem] gDMany dDMany
def gLyDelta:List AV→Option (Prop × AV)
 | [.agg [.sl _ e1,.sl _ e2],.agg [.sl _ e3,.sl _ e4]]=>(match krL e1,rtsL e2,krL e3,rtsL e4 with
  | some D,some T,some D',some T'=>some ((D=D'∧T=T')∧(D.length≤1000∧T.length≤1000)∧∀ r ∈ T,r.path.length≤1000000∧r.marks.length≤1000000,bv true)
  | _,_,_,_=>none)
 | _=>none
def dLyDelta:DFn:={ g:=gLyDelta }
attribute [go_sem] gLyDelta dLyDelta
theorem lyDelta_ok:Fine Tryd.prog 11 dLyDelta.con:=by
 refine fine_det (T:=TT) Tryd.func11 rfl Tryd.ntmps11 (by rw [Tryd.results11]) rfl rfl tt (gs_nil) (ds_cons lyRts_ok ds_nil) ?_
 intro args c r h hc
 simp only [dLyDelta,gLyDelta] at h
 split at h
 rotate_left
 ·cases h
 split at h
 rotate_left
 ·cases h
 rename_i t1 e1 t2 e2 t3 e3 t4 e4 _ _ _ _ D T D' T' hkr1 hrt1 hkr2 hrt2
 obtain rfl:=krL_eq hkr1
 obtain rfl:=rtsL_eq hrt1
 obtain rfl:=krL_eq hkr2
 obtain rfl:=rtsL_eq hrt2
 obtain ⟨rfl,rfl⟩:=Prod.mk.inj (Option.some.inj h)
 refine ⟨by simp,fun k E hE Q hQ=>?_⟩
 obtain ⟨⟨rfl,rfl⟩,⟨hDl,hTl⟩,hsm⟩:=hc
 refine Aw_st hE [2,3] [2,3] fun K hK=>?_
 simp only [go_sem,seval]
 refine hK _ ?_;clear hK K
 refine Aw_sq fun B1 hB1 hR1 hX1=>?_
 refine Aw_st hE [2,3,12] [2,3] fun K hK=>?_
 simp only [go_sem,seval,decide_true,Bool.not_true]
 refine hK _ (Aw_no rfl ?_)
 refine Aw_skip (hB1 _ ?_)
 refine Aw_sq fun B3 hB3 hR3 hX3=>?_
 refine Aw_st hE [2,3,5] [2,3] fun K hK=>?_
 simp only [go_sem,seval]
 refine hK _ ?_;clear hK K
 refine Aw_bk fun B4 hN4 hE4 hR4 hX4=>?_
 refine Aw_lp (fun i:Nat=>⟨36,[(2,.loc 2 0),(3,.loc 3 0),(5,iv i)],[(2,[.sl none (krows D),.sl none (rrows T)]),(3,[.sl none (krows D),.sl none (rrows T)])],k⟩) (fun i=>i≤D.length) (fun i=>D.length - i) 0 (Le_wk (by first | omega | (dsimp only;omega) | (simp only;omega) | (simp;omega)) (by simp only [go_sem,seval]) (by simp only [go_sem,seval];all_goals rfl)) (by omega) fun i hi B5 hN5 hR5 hX5=>?_
 refine Aw_sq fun B6 hB6 hR6 hX6=>?_
 refine Aw_st hE [2,3,5,17] [2,3] fun K hK=>?_
 simp only [go_sem,seval]
 refine hK _ (Aw_cond rfl (fun hc7=>?_) (fun hc7=>?_))
 ·simp only [dte] at hc7
  have hil:i < D.length:=by omega
  have hg:=krows_get D i hil
  generalize D[i]=x at hg
  obtain ⟨xf,xb⟩:=x
  simp only [kR] at hg
  refine Aw_skip (hB6 _ ?_)
  refine Aw_sq fun B8 hB8 hR8 hX8=>?_
  refine Aw_bk fun B9 hN9 hE9 hR9 hX9=>?_
  refine Aw_sd hE [2,3,5,30] [2,3] 6 (by kernel_rfl) fun K hK=>?_
  simp only [go_sem,seval,hg,decide_true,Bool.not_true,Bool.and_self,beq_self_eq_true]
  repeat refine sd0 ?_
  refine hK _ (Aw_no rfl ?_)
  refine Aw_skip (hN9 _ (hB8 _ ?_))
  refine Aw_tx hE [2,3,5] [2,3] fun K hK=>?_
  simp only [go_sem,seval]
  repeat refine sd0 ?_
  refine hK _ (hN5 (i + 1) _ (by omega) (by omega) (Le.refl _))
 ·refine Aw_exit (hX6 _ _ (hX5 _ _ (hE4 _ (hB3 _ ?_))))
  refine Aw_st hE [4] [2,3] fun K hK=>?_
  simp only [go_sem,seval]
  refine ⟨⟨by omega,hsm⟩,?_⟩
  refine hK _ (Aw_ret (hQ _ ?_))
  simp only [go_sem,seval]
def cDDO:Con:={ pre:=codeArg,post:=fun _ r=>∃ (a b:List Rt),((a.length≤7∧smallD a)∧b.length≤10∧smallD b)∧r = .tup [.sl none (rrows a),.sl none (rrows b)] }
theorem cDDO_own:cDDO.own=false:=rfl
theorem cDDO_draws:cDDO.draws=false:=rfl
theorem cDDO_cost:cDDO.cost=0:=rfl
attribute [go_sem] cDDO_own cDDO_draws cDDO_cost
theorem ddo_pre (bs:List Nat) (h:∀ b ∈ bs,b < 256):cDDO.pre [.sl none (byteRows bs)]:=⟨bs,h,rfl⟩
theorem ddo_post (args:List AV) (K:AV→Prop):(∀ r,cDDO.post args r→K r)=(∀ (a b:List Rt),((a.length≤7∧smallD a)∧b.length≤10∧smallD b)→K (.tup [.sl none (rrows a),.sl none (rrows b)])):=by
 apply propext
 exact ⟨fun h x n h1=>h _ ⟨x,n,h1,rfl⟩,fun h r ⟨x,n,h1,e⟩=>e ▸ h x n h1⟩
attribute [go_sem] ddo_post
theorem drawDeltaOf_ok:Fine Tryd.prog 9 cDDO:=by
 refine fine_draw (T:=TT) (C:=cDDO) Tryd.func9 rfl Tryd.ntmps9 (by rw [Tryd.results9]) rfl rfl tt rfl rfl (G:=[(23,cChg)]) (D:=[]) (gs_cons l92Change_ok gs_nil) ds_nil (l1:=[_]) (l2:=[_,_,_,_,_]) rfl rfl rfl rfl (by decide) open_calls ⟨_,Tryd.func24,rfl,rfl⟩ ?_ ?_
 ·rintro args r ⟨x,n,_,rfl⟩;rfl
 rintro args ⟨bs,hbs,rfl⟩
 refine ⟨by simp,bs,hbs,fun n E hE J hJ=>?_⟩
 refine Aw_tx hE [0] [] fun K hK=>?_
 simp only [go_sem,seval]
 refine hK _ ?_
 simp only [thenA]
 simp only [go_sem,seval]
 refine hJ _ rfl rfl fun E hE Q hQ=>?_
 simp only [go_sem,seval]
 intro a b h
 refine Aw_ret (hQ _ ?_)
 simp only [go_sem,seval]
 exact ⟨a,b,h,rfl⟩
def copC (l:List Rt) (K:AV→List (Nat × List AV)→Prop):Prop :=
 (l=[]→K .nl [])∧(l≠[]→∀ cap,l.length≤cap→K (.xs 900 0 l.length cap 5) [(900,cRs l++jk ((cap - l.length) * 5))])
def cCopM:ConM:={
 pre:=fun args m1=>∃ l:List Rt,args=[.sl none (rrows l)]∧m1=[]∧smallL l
 post:=fun args _ z m2=>∀ l:List Rt,args=[.sl none (rrows l)]→∀ K:AV→List (Nat × List AV)→Prop,copC l K→K z m2 }
theorem rr_inj {l l':List Rt} (e:[AV.sl none (rrows l)]=[AV.sl none (rrows l')]):l=l':=by
 simp only [List.cons.injEq,AV.sl.injEq,true_and,and_true] at e
 have h1:=congrArg rtsL e
 rw [rtsL_rows,rtsL_rows] at h1
 exact Option.some.inj h1
def coS (l:List Rt):Nat × Nat→St
 | (0,_)=>⟨19,[(3,.nl),(6,.sl none (rrows l)),(7,iv l.length),(8,iv 0)],[],0⟩
 | (i + 1,c)=>⟨19,[(3,.xs 16 0 (i + 1) c 5),(6,.sl none (rrows l)),(7,iv l.length),(8,iv (i + 1:Nat))],[(16,cRs (l.take (i + 1))++jk ((c - (i + 1)) * 5))],0⟩
set_option maxHeartbeats 2000000 in
theorem copyRsM_ok:FineM Tryd.prog 38 cCopM:=by
 refine fineM_of [] ms_nil [] mm_nil [16] [] ex_nil (T:=TT) Tryd.func38 rfl Tryd.ntmps38 (by rw [Tryd.results38]) rfl rfl tt gs_nil (ds_cons copyD_ok ds_nil) ?_
 rintro args m1 ⟨l,rfl,rfl,hll,hsm⟩
 refine ⟨by simp,fun E hE Q hQ=>?_⟩
 refine Aw_st hE [0] [5,16] fun K hK=>?_
 simp only [go_sem,seval]
 refine hK _ ?_;clear hK K
 refine Aw_st hE [0,3] [5,16] fun K hK=>?_
 simp only [go_sem,seval]
 refine hK _ ?_;clear hK K
 refine Aw_sq fun B1 hB1 hR1 hX1=>?_
 refine Aw_st hE [3,6,7,8] [5,16] fun K hK=>?_
 simp only [go_sem,seval]
 refine hK _ ?_;clear hK K
 refine Aw_bk fun B2 hN2 hE2 hR2 hX2=>?_
 refine Aw_lp (fun i:Nat × Nat=>coS l i) (fun i=>i.1≤l.length∧i.1≤i.2) (fun i=>l.length - i.1) (0,0) (Le.refl _) ⟨by simp,by simp⟩ fun i hi B3 hN3 hR3 hX3=>?_
 obtain ⟨i,c⟩:=i
 obtain ⟨hi1,hi2⟩:=hi
 simp only at hi1 hi2
 cases i with
 | zero =>
  simp only [coS]
  refine Aw_st hE [3,6,7,8,9] [5,16] fun K hK=>?_
  simp only [go_sem,seval]
  refine hK _ ?_;clear hK K
  refine Aw_sq fun B4 hB4 hR4 hX4=>?_
  refine Aw_cond rfl (fun hc5=>?_) (fun hc5=>?_)
  ·simp only [dte] at hc5
   have hil:0 < l.length:=by omega
   have hg:=rrows_at l 0 hil
   obtain ⟨hp,hm⟩:=smallR_at ⟨hll,hsm⟩ 0 hil
   have htk:=List.take_succ_eq_append_getElem hil
   generalize l[0]=x at hg hp hm htk
   obtain ⟨xf,xb,xp,xk,xm⟩:=x
   simp only at hp hm
   have hxl:xp.length≤2000000∧xm.length≤2000000:=by omega
   refine Aw_skip (hB4 _ ?_)
   refine Aw_sq fun B6 hB6 hR6 hX6=>?_
   refine Aw_bk fun B7 hN7 hE7 hR7 hX7=>?_
   refine Aw_st hE [3,5,6,7,8] [5,16] fun K hK=>?_
   simp only [go_sem,seval,hg,Int.toNat_zero]
   repeat refine sd0 ?_
   refine hK _ ?_;clear hK K
   refine Aw_tx hE [3,6,7,8] [5,16] fun K hK=>?_
   simp only [go_sem,seval,rcs_flat,rcs_leaf,rcs_strip]
   refine ⟨hxl,by simp,fun cap hcap=>?_⟩
   refine hK _ (hN7 _ (hB6 _ ?_))
   refine Aw_tx hE [3,6,7,8] [5,16] fun K hK=>?_
   simp only [go_sem,seval,cRs_nt,cRs_stripF]
   repeat refine sd0 ?_
   refine hK _ (hN3 (1,cap) _ ⟨by simp only;omega,by simp only;omega⟩ (by simp only;omega) ?_)
   simp only [coS]
   rw [htk]
   exact Le_ks [3,6,7,8] [16]
  ·simp only [dfn] at hc5
   have hl0:l=[]:=List.eq_nil_of_length_eq_zero (by omega)
   refine Aw_exit (hX4 _ _ (hX3 _ _ (hE2 _ (hB1 _ ?_))))
   refine Aw_st hE [2] [5,16] fun K hK=>?_
   simp only [go_sem,seval]
   refine hK _ (Aw_ret (hQ _ ?_))
   simp only [go_sem,seval]
   intro l' he K' hK'
   obtain rfl:=rr_inj he
   exact hK'.1 hl0
 | succ j =>
  simp only [coS]
  refine Aw_st hE [3,6,7,8,9] [5,16] fun K hK=>?_
  simp only [go_sem,seval,cRs_nt,cRs_stripF]
  refine hK _ ?_;clear hK K
  refine Aw_sq fun B4 hB4 hR4 hX4=>?_
  refine Aw_cond rfl (fun hc5=>?_) (fun hc5=>?_)
  ·simp only [dte] at hc5
   have hil:j + 1 < l.length:=by omega
   have hg:=rrows_at l (j + 1) hil
   obtain ⟨hp,hm⟩:=smallR_at ⟨hll,hsm⟩ (j + 1) hil
   have htk:=List.take_succ_eq_append_getElem hil
   generalize l[j + 1]=x at hg hp hm htk
   obtain ⟨xf,xb,xp,xk,xm⟩:=x
   simp only at hp hm
   have hxl:xp.length≤2000000∧xm.length≤2000000:=by omega
   have htl:(l.take (j + 1)).length=j + 1:=by rw [List.length_take];omega
   have hin:=cRs_in (l.take (j + 1)) ⟨xf,xb,xp,xk,xm⟩ (c - (j + 1))
   have htk2:=cRs_take (l.take (j + 1)) (jk ((c - (j + 1)) * 5))
   rw [htl] at hin htk2
   refine Aw_skip (hB4 _ ?_)
   refine Aw_sq fun B6 hB6 hR6 hX6=>?_
   refine Aw_bk fun B7 hN7 hE7 hR7 hX7=>?_
   refine Aw_st hE [3,5,6,7,8] [5,16] fun K hK=>?_
   simp only [go_sem,seval,hg,Int.toNat_natCast,cRs_nt,cRs_stripF]
   repeat refine sd0 ?_
   refine hK _ ?_;clear hK K
   refine Aw_tx hE [3,6,7,8] [5,16] fun K hK=>?_
   simp only [go_sem,seval,rcs_flat,rcs_leaf,rcs_strip,htk2,cRs_strip,cRs_nt,cRs_stripF,cRj_stk,cRj_str]
   refine ⟨hxl,⟨by simp,by omega,by rw [List.length_append,cRs_len,htl,List.length_replicate];omega⟩,fun hle=>?_,fun hgt cap hcap=>?_⟩
   ·rw [hin (by omega)]
    refine hK _ (hN7 _ (hB6 _ ?_))
    refine Aw_tx hE [3,6,7,8] [5,16] fun K hK=>?_
    simp only [go_sem,seval,cRs_nt,cRs_stripF]
    repeat refine sd0 ?_
    refine hK _ (hN3 (j + 1 + 1,c) _ ⟨by simp only;omega,by simp only;omega⟩ (by simp only;omega) ?_)
    simp only [coS]
    rw [htk,show c - (j + 1) - 1=c - (j + 1 + 1) by omega]
    exact Le_ks [3,6,7,8] [16]
   ·refine hK _ (hN7 _ (hB6 _ ?_))
    refine Aw_tx hE [3,6,7,8] [5,16] fun K hK=>?_
    simp only [go_sem,seval,cRs_nt,cRs_stripF]
    repeat refine sd0 ?_
    refine hK _ (hN3 (j + 1 + 1,cap) _ ⟨by simp only;omega,by simp only;omega⟩ (by simp only;omega) ?_)
    simp only [coS]
    rw [htk,cRs_app]
    simp only [cRs,List.append_nil]
    exact Le_ks [3,6,7,8] [16]
  ·simp only [dfn] at hc5
   refine Aw_exit (hX4 _ _ (hX3 _ _ (hE2 _ (hB1 _ ?_))))
   have hj:j + 1=l.length:=by omega
   rw [hj,List.take_length]
   refine Aw_st hE [2] [5,16] fun K hK=>?_
   simp only [go_sem,seval,cRs_nt,cRs_stripF]
   refine hK _ ?_
   refine Aw.leE (Le_E (Le_swb _ 16 900 (by decide) (by decide))) ?_
   simp only [St.swb,swbσ,swbm,AV.swb,AV.swbAll,swp,swbAll_app,swbAll_jk,rcs_swb,cRs_swb,Nat.reduceEqDiff,if_true,if_false,reduceIte]
   refine Aw.leE (Le_E (Le_ks [2] [900])) ?_
   refine Aw_ret (hQ _ ?_)
   simp only [go_sem,seval,cRs_nt,cRs_stripF]
   intro l' he K' hK'
   obtain rfl:=rr_inj he
   exact hK'.2 (fun e=>by rw [e] at hj;simp at hj) c (by omega)
def gDo1:List AV→Option (Prop × AV)
 | [.agg [.v (.int .i64 rf),.v (.int .i64 rb),.sl _ _,.v (.int .i64 _),.sl _ _],.el [.v (.int .i64 f),.v (.int .i64 c)]]=>some (True,bv (decide (rf=f) && decide (rb=c)))
 | _=>none
def dDo1:DFn:={ g:=gDo1 }
attribute [go_sem] gDo1 dDo1
theorem do1_ok:Fine Tryd.prog 40 dDo1.con:=by
 refine fine_det (T:=TT) Tryd.func40 rfl Tryd.ntmps40 (by rw [Tryd.results40]) rfl rfl tt (gs_nil) (ds_nil) ?_
 intro args c r h hc
 simp only [dDo1,gDo1] at h
 split at h
 rotate_left
 ·cases h
 obtain ⟨rfl,rfl⟩:=Prod.mk.inj (Option.some.inj h)
 refine ⟨by simp,fun k E hE Q hQ=>?_⟩
 refine Aw_st hE [1,2] [2] fun K hK=>?_
 simp only [go_sem,seval]
 repeat refine sd0 ?_
 refine hK _ ?_;clear hK K
 refine Aw_st hE [3] [] fun K hK=>?_
 simp only [go_sem,seval]
 repeat refine sd0 ?_
 refine hK _ (Aw_ret (hQ _ ?_))
 simp only [go_sem,seval]
 rfl
abbrev cloR (f c:Int):AV:=.dv (.fn 40 [.ptr [.v (.int .i64 f),.v (.int .i64 c)]])
def gIdR:List AV→Option (Prop × AV)
 | [.sl _ els,.dv (.fn 40 [.ptr [.v (.int .i64 f),.v (.int .i64 c)]])]=>(match rtsL els with
  | some l=>some (l.length≤1000000,iv (atR l f c))
  | none=>none)
 | _=>none
def dIdR:DFn:={ g:=gIdR }
attribute [go_sem] gIdR dIdR
theorem idR_ok:Fine Tryd.prog 39 dIdR.con:=by
 refine fine_det (T:=TT) Tryd.func39 rfl Tryd.ntmps39 (by rw [Tryd.results39]) rfl rfl tt (gs_nil) (ds_cons do1_ok ds_nil) ?_
 intro args c r h hc
 simp only [dIdR,gIdR] at h
 split at h
 rotate_left
 ·cases h
 split at h
 rotate_left
 ·cases h
 rename_i t els f c _ l hrt
 obtain rfl:=rtsL_eq hrt
 obtain ⟨rfl,rfl⟩:=Prod.mk.inj (Option.some.inj h)
 refine ⟨by simp,fun k E hE Q hQ=>?_⟩
 refine Aw_st hE [0,1] [] fun K hK=>?_
 simp only [go_sem,seval]
 repeat refine sd0 ?_
 refine hK _ ?_;clear hK K
 refine Aw_sq fun B1 hB1 hR1 hX1=>?_
 refine Aw_st hE [0,1,7,8] [] fun K hK=>?_
 simp only [go_sem,seval]
 repeat refine sd0 ?_
 refine hK _ ?_;clear hK K
 refine Aw_bk fun B2 hN2 hE2 hR2 hX2=>?_
 refine Aw_lp (fun i:Nat=>⟨19,[(0,.sl t (rrows l)),(1,cloR f c),(7,iv l.length),(8,iv i)],[],k⟩) (fun i:Nat=>i≤l.length∧atR l f c=idxB (keyB f c) (l.drop i) i) (fun i:Nat=>l.length - i) (0) (Le.refl _) (⟨by omega,rfl⟩) fun i hi B3 hN3 hR3 hX3=>?_
 refine Aw_st hE [0,1,7,8,9] [] fun K hK=>?_
 simp only [go_sem,seval]
 repeat refine sd0 ?_
 refine hK _ ?_;clear hK K
 refine Aw_sq fun B4 hB4 hR4 hX4=>?_
 refine Aw_cond rfl (fun hc5=>?_) (fun hc5=>?_)
 ·simp only [dte] at hc5
  have hil:i < l.length:=by omega
  have hs:=hi.2.trans (idxB_drop hil)
  have hget:=rrows_get l i hil
  generalize l[i]=x at hget hs
  obtain ⟨rf,rb,p,rk,m⟩:=x
  refine Aw_skip (hB4 _ ?_)
  refine Aw_sq fun B6 hB6 hR6 hX6=>?_
  refine Aw_bk fun B7 hN7 hE7 hR7 hX7=>?_
  refine Aw_st hE [0,1,5,7,8] [] fun K hK=>?_
  simp only [go_sem,seval]
  repeat refine sd0 ?_
  refine hK _ ?_;clear hK K
  refine Aw_st hE [0,1,5,7,8,16] [] fun K hK=>?_
  simp only [go_sem,seval,hget]
  repeat refine sd0 ?_
  refine hK _ (Aw_cond rfl (fun hc8=>?_) (fun hc8=>?_))
  ·have hsr:keyB f c ⟨rf,rb,p,rk,m⟩=true:=hc8
   rw [hsr] at hs
   refine Aw_st hE [4] [] fun K hK=>?_
   simp only [go_sem,seval]
   repeat refine sd0 ?_
   refine hK _ (Aw_ret (hR7 _ (hR6 _ (hR3 _ (hR2 _ (hR1 _ (hQ _ ?_)))))))
   simp only [go_sem,seval,hs]
  ·have hsr:keyB f c ⟨rf,rb,p,rk,m⟩=false:=hc8
   rw [hsr] at hs
   refine Aw_skip (hN7 _ (hB6 _ ?_))
   refine Aw_tx hE [0,1,7,8] [] fun K hK=>?_
   simp only [go_sem,seval]
   repeat refine sd0 ?_
   refine hK _ (hN3 (i + 1) _ (⟨by omega,hs⟩) (by omega) (Le.refl _))
 ·simp only [dfn] at hc5
  refine Aw_exit (hX4 _ _ (hX3 _ _ (hE2 _ (hB1 _ ?_))))
  refine Aw_st hE [4] [] fun K hK=>?_
  simp only [go_sem,seval]
  repeat refine sd0 ?_
  refine hK _ (Aw_ret (hQ _ ?_))
  simp only [go_sem,seval]
  rw [hi.2,List.drop_eq_nil_of_le (by omega)]
  rfl
def cDelR:ConM:={
 pre:=fun args m1=>∃ (l:List Rt) (cap i:Nat),args=[.xs 1000 0 l.length cap 5,iv (i:Int),iv ((i:Int) + 1)]∧m1=[(1000,cRs l++jk ((cap - l.length) * 5))]∧(i < l.length∧l.length≤cap)∧l.length≤1000
 post:=fun args m1 r m2=>∀ (l:List Rt) (cap i:Nat),args=[.xs 1000 0 l.length cap 5,iv (i:Int),iv ((i:Int) + 1)]→m1=[(1000,cRs l++jk ((cap - l.length) * 5))]→r = .xs 1000 0 (l.length - 1) cap 5∧m2=[(1000,cRs (l.eraseIdx i)++jk ((cap - (l.length - 1)) * 5))] }
theorem cRs_inj {l l':List Rt} (h:cRs l=cRs l') (hn:l.length=l'.length):l=l':=by
 have h1:=ofAll_cRs l
 rw [h,ofAll_cRs] at h1
 have h2:=Option.some.inj h1
 have h3:=chunks_rD l
 rw [← h2,hn,chunks_rD] at h3
 have h4:=congrArg rtsL h3
 rw [rtsL_rows,rtsL_rows] at h4
 exact (Option.some.inj h4).symm
theorem jk_len (n:Nat):(jk n).length=n:=List.length_replicate
theorem cRs_leaf:∀ l:List Rt,allLeaf (cRs l)=true
 | []=>rfl
 | _::l=>cRs_leaf l
theorem avLe_junk (x:AV):avLe x .junk:=by
 cases x<;>trivial
theorem avLeL_junk:∀ xs:List AV,avLeL xs (jk xs.length)
 | []=>trivial
 | x::xs=>⟨avLe_junk x,avLeL_junk xs⟩
theorem cRs_le {a b:List AV} (h:avLeL a b):∀ l:List Rt,avLeL (cRs l++a) (cRs l++b)
 | []=>h
 | _::l=>⟨rfl,rfl,rfl,rfl,rfl,cRs_le h l⟩
theorem cRs_split (l:List Rt) (i:Nat):cRs l=cRs (l.take i)++cRs (l.drop i):=by rw [← cRs_app,List.take_append_drop]
theorem cRs_src {l:List Rt} {cap i:Nat} (hi:i < l.length) (hcap:l.length≤cap):List.take ((l.length - (i + 1)) * 5) (List.drop (if cap=i + 1 then 0 else (i + 1) * 5) (cRs l++jk ((cap - l.length) * 5)))=cRs (l.drop (i + 1)):=by
 by_cases hc:cap=i + 1
 ·have h1:l.length - (i + 1)=0:=by omega
  have h2:l.drop (i + 1)=[]:=List.drop_eq_nil_of_le (by omega)
  rw [h1,h2];simp [cRs]
 ·rw [if_neg hc,cRs_split l (i + 1),List.append_assoc,List.drop_left' (by rw [cRs_len,List.length_take];congr 1;omega),List.take_left' (by rw [cRs_len,List.length_drop])]
theorem cRs_del {l:List Rt} {cap i:Nat} (hi:i < l.length) (hcap:l.length≤cap):setL (cRs l++jk ((cap - l.length) * 5)) (i * 5) (cRs (l.drop (i + 1)))=cRs (l.eraseIdx i)++(rcs (l[l.length - 1]'(by omega))++jk ((cap - l.length) * 5)):=by
 have hn:i * 5 + (cRs (l.drop (i + 1))).length=(l.length - 1) * 5:=by rw [cRs_len,List.length_drop];omega
 rw [setL_at _ _ _ (by rw [hn,List.length_append,cRs_len,jk_len];omega),hn,List.eraseIdx_eq_take_drop_succ,cRs_app]
 have h1:List.take (i * 5) (cRs l++jk ((cap - l.length) * 5))=cRs (l.take i):=by
  rw [cRs_split l i,List.append_assoc,List.take_left' (by rw [cRs_len,List.length_take];congr 1;omega)]
 have h2:List.drop ((l.length - 1) * 5) (cRs l++jk ((cap - l.length) * 5))=rcs (l[l.length - 1]'(by omega))++jk ((cap - l.length) * 5):=by
  rw [cRs_split l (l.length - 1),List.append_assoc,List.drop_left' (by rw [cRs_len,List.length_take];congr 1;omega)]
  rw [List.drop_eq_getElem_cons (by omega),List.drop_eq_nil_of_le (by omega)]
  simp [cRs]
 rw [h1,h2]
theorem delR_ok:FineM Tryd.prog 41 cDelR:=by
 refine fineM_of [] ms_nil [] mm_nil [26] [] ex_nil (T:=TT) Tryd.func41 rfl Tryd.ntmps41 (by rw [Tryd.results41]) rfl rfl tt gs_nil ds_nil ?_
 rintro args m1 ⟨l,cap,i,rfl,rfl,⟨hi,hcap⟩,hl⟩
 refine ⟨by simp,fun E hE Q hQ=>?_⟩
 refine Aw_st hE [0,1,2] [26,1000] fun K hK=>?_
 simp only [go_sem,seval]
 refine hK _ ?_;clear hK K
 refine Aw_st hE [0,1,2] [26,1000] fun K hK=>?_
 simp only [go_sem,seval,cRs_nt,cRs_stripF,cRs_strip,cRj_stk,cRj_str]
 repeat refine sd0 ?_
 refine hK _ ?_;clear hK K
 refine Aw_sq fun B1 hB1 hR1 hX1=>?_
 refine Aw_st hE [0,1,2,16] [26,1000] fun K hK=>?_
 simp only [go_sem,seval,cRs_nt,cRs_stripF]
 have d0:decide ((i:Int)=(i:Int) + 1)=false:=decide_eq_false (by omega)
 rw [d0]
 refine hK _ (Aw_no rfl ?_)
 refine Aw_skip (hB1 _ ?_)
 refine Aw_st hE [0,1,2,7] [26,1000] fun K hK=>?_
 simp only [go_sem,seval,cRs_nt,cRs_stripF]
 refine hK _ ?_;clear hK K
 refine Aw_sS hE (.fst 0 (.fst 1 (.fst 3 (.fst 4 (.alt 2 (.alt 5 (.alt 6 (.fst 7 .done) .non) .non) (.alt 5 (.alt 2 (.alt 6 (.fst 7 .done) .non) .non) .non)))))) [0,7] [26,1000] (by kernel_rfl) fun K hK=>?_
 simp only [go_sem,seval,cRs_nt,cRs_stripF,cRs_strip,cRj_stk,cRj_str]
 have hT:((i:Int) + 1).toNat=i + 1:=by omega
 simp only [hT]
 rw [cRs_src hi hcap,cRs_del hi hcap,show i + (l.length - (i + 1))=l.length - 1 by omega]
 have hle:(cRs l++jk ((cap - l.length) * 5)).length=cap * 5:=by rw [List.length_append,cRs_len,jk_len];omega
 have hlf:allLeaf (cRs (l.drop (i + 1)))=true:=cRs_leaf _
 have hif:(if cap=i + 1 then 0 else (i + 1) * 5) + (l.length - (i + 1)) * 5≤cap * 5:=by split<;>omega
 generalize l[l.length - 1]'(by omega)=z
 rw [hle]
 have hk1:K { nt:=33,σ:=[(0,.xs 1000 0 (l.length - 1) cap 5),(7,iv l.length)],m:=[(1000,cRs (l.eraseIdx i)++(rcs z++jk ((cap - l.length) * 5)))],rn:=0 }:=by
  refine hK _ ?_;clear hK K
  refine Aw_st hE [0] [26,1000] fun K hK=>?_
  simp only [go_sem,seval,cRs_nt,cRs_stripF,cRs_strip]
  rw [if_neg (show ¬ cap=l.length - 1 by omega),show l.length - (l.length - 1)=1 by omega]
  have hE1:(l.eraseIdx i).length=l.length - 1:=by rw [List.length_eraseIdx,if_pos hi]
  refine ⟨by omega,⟨?_,rfl⟩,?_⟩
  ·rw [List.length_append,cRs_len,hE1,List.length_append,jk_len]
   have:(rcs z).length=5:=rfl
   omega
  rw [← List.append_assoc,setL_mid (cRs (l.eraseIdx i)) (rcs z) _ _ _ (by rw [cRs_len,hE1]) (by rfl)]
  refine hK _ ?_;clear hK K
  refine Aw_st hE [6] [26,1000] fun K hK=>?_
  simp only [go_sem,seval,cRs_nt,cRs_stripF]
  refine hK _ ?_
  have hw:avLeL (cRs (l.eraseIdx i)++[[iv 0,iv 0,AV.nl,iv 0,AV.nl]].flatten++jk ((cap - l.length) * 5)) (cRs (l.eraseIdx i)++jk ((cap - (l.length - 1)) * 5)):=by
   have h1:=cRs_le (avLeL_junk ([[iv 0,iv 0,AV.nl,iv 0,AV.nl]].flatten++jk ((cap - l.length) * 5))) (l.eraseIdx i)
   have h2:([[iv 0,iv 0,AV.nl,iv 0,AV.nl]].flatten++jk ((cap - l.length) * 5)).length=(cap - (l.length - 1)) * 5:=by
    rw [List.length_append,jk_len];simp;omega
   rw [h2,← List.append_assoc] at h1
   exact h1
  refine Aw.leE (Le_E (Le_wk (σ':=[(6,.xs 1000 0 (l.length - 1) cap 5)]) (m':=[(1000,cRs (l.eraseIdx i)++jk ((cap - (l.length - 1)) * 5))]) (Nat.le_refl _) ⟨rfl,trivial⟩ ⟨hw,trivial⟩)) ?_
  refine Aw_ret (hQ _ ?_)
  simp only [go_sem,seval,cRs_nt,cRs_stripF]
  intro l' cap' i' he hm
  simp only [List.cons.injEq,AV.xs.injEq,AV.v.injEq,Value.int.injEq,true_and,and_true,Prod.mk.injEq] at he hm
  obtain ⟨⟨e1,e2⟩,e3,_⟩:=he
  subst e2
  obtain rfl:i=i':=by omega
  have e4:=cRs_inj (List.append_inj_left hm (by rw [cRs_len,cRs_len,e1])) e1
  subst e4
  exact ⟨rfl,rfl⟩
 exact ⟨⟨by omega,by omega,⟨hif,by omega,by omega,hlf⟩,fun _=>hk1,fun h=>by omega⟩,by omega,by omega,⟨hif,by omega,by omega,hlf⟩,fun _=>hk1,fun h=>by omega⟩
def gOvR:ExG:=fun args m=>match args with
 | [.xs k1 _ _ _ _,.xs k2 _ _ _ _]=>match lkm k1 m,lkm k2 m with
  | some _,some l2=>some ((k1≠k2∧l2.length≠0)∧bk k1=0∧bk k2=0,bv false)
  | _,_=>none
 | _=>none
attribute [go_sem] gOvR
theorem overR_ok:ExtOk Tryd.prog 62 gOvR:=by
 intro c m args vs hb hi hsz hrd cc r hg hc
 unfold gOvR at hg
 split at hg
 ·rename_i k1 o1 n1 c1 s1 k2 o2 n2 c2 s2
  split at hg
  ·rename_i l1 l2 h1 h2
   obtain ⟨rfl,rfl⟩:=Prod.mk.inj (Option.some.inj hg)
   have r0:=hrd 0 _ rfl
   have r1:=hrd 1 _ rfl
   obtain ⟨e0,_⟩:=xs_val r0 rfl
   obtain ⟨e1,_⟩:=xs_val r1 rfl
   have ev:vs = #[.slice (some ⟨c.β k1,o1,none⟩) n1 c1,.slice (some ⟨c.β k2,o2,none⟩) n2 c2]:=by
    obtain ⟨l⟩:=vs
    match l,hsz with
    | [x,y],_ =>
     have e0':x=_:=e0
     have e1':y=_:=e1
     rw [e0',e1']
   subst ev
   obtain ⟨cs1,T1,b1,z1⟩:=hb k1 l1 hc.2.1 h1
   obtain ⟨cs2,T2,b2,z2⟩:=hb k2 l2 hc.2.2 h2
   have hne:c.β k1≠c.β k2:=fun e=>hc.1.1 (hi k1 k2 l1 l2 h1 h2 e)
   refine ⟨.bool false,?_,.v _ rfl⟩
   rw [run_callFunc_extern Tryd.func62 (by kernel_rfl) (by kernel_rfl) (by kernel_rfl) (e:=Extern.SlicesOverlaps.overlaps #[23,23] #[4]) (by kernel_rfl),
    Lib.run_overlaps_apart c.w 23 4 36 Tryd.underlying23 5 (fun w=>sizeOf_ok ok36 w) ⟨c.β k1,o1,none⟩ ⟨c.β k2,o2,none⟩ n1 c1 n2 c2 hne T1 T2 cs1.size cs2.size (by simp [World.shape?,b1]) (by simp [World.shape?,b2]) (by rw [z2];exact hc.1.2) (frozen_of_row c.w _ _ cs1 T1 b1) (frozen_of_row c.w _ _ cs1 T1 b1)]
   rfl
  ·cases hg
 ·cases hg
def insR (l:List Rt) (i:Nat) (x:Rt):List Rt:=l.take i++x::l.drop i
theorem insR_len {l:List Rt} {i:Nat} (x:Rt) (h:i≤l.length):(insR l i x).length=l.length + 1:=by simp [insR];omega
def insC (l:List Rt) (i:Nat) (x:Rt) (K:AV→List (Nat × List AV)→Prop):Prop :=
 ∀ c',l.length + 1≤c'→(∀ b,K (.xs 1000 0 (l.length + 1) c' 5) [(1000,cRs (insR l i x)++jk ((c' - (l.length + 1)) * 5)),(1001,b)])∧
  (∀ a b,K (.xs 25 0 (l.length + 1) c' 5) [(25,cRs (insR l i x)++jk ((c' - (l.length + 1)) * 5)),(1000,a),(1001,b)])∧
  (∀ a b,K (.xs 40 0 (l.length + 1) c' 5) [(40,cRs (insR l i x)++jk ((c' - (l.length + 1)) * 5)),(1000,a),(1001,b)])
def argsI (l:List Rt) (cap i:Nat):List AV:=[.xs 1000 0 l.length cap 5,iv i,.xs 1001 0 1 1 5]
def memI (l:List Rt) (cap:Nat) (x:Rt):List (Nat × List AV):=[(1000,cRs l++jk ((cap - l.length) * 5)),(1001,rcs x)]
def cInsR:ConM:={
 pre:=fun args m1=>∃ (l:List Rt) (cap i:Nat) (x:Rt),args=argsI l cap i∧m1=memI l cap x∧(i≤l.length∧l.length≤cap)∧l.length≤1000
 post:=fun args m1 z m2=>∀ (l:List Rt) (cap i:Nat) (x:Rt),args=argsI l cap i→m1=memI l cap x→∀ K,insC l i x K→K z m2 }
theorem memI_inj {l l':List Rt} {cap cap' i i':Nat} {x x':Rt} (e:argsI l cap i=argsI l' cap' i') (h:memI l cap x=memI l' cap' x'):l=l'∧cap=cap'∧i=i'∧x=x':=by
 simp only [argsI,memI,List.cons.injEq,AV.xs.injEq,AV.v.injEq,Value.int.injEq,true_and,and_true,Prod.mk.injEq] at e h
 obtain ⟨⟨e1,e2⟩,e3⟩:=e
 obtain ⟨h1,h2⟩:=h
 have e4:=cRs_inj (List.append_inj_left h1 (by rw [cRs_len,cRs_len,e1])) e1
 have e5:cRs [x]=cRs [x']:=by simp only [cRs];rw [h2]
 have e6:=cRs_inj e5 rfl
 exact ⟨e4,e2,by omega,(List.cons.inj e6).1⟩
theorem cRs_inL (a b:List Rt) (k:Nat) (h:b.length≤k):setL (cRs a++jk (k * 5)) (a.length * 5) (cRs b)=cRs (a++b)++jk ((k - b.length) * 5):=by
 rw [← cRs_len a,setL_app _ _ _ (by rw [jk_len,cRs_len];omega),cRs_app,List.append_assoc]
 congr 2
 rw [cRs_len,jk,List.drop_replicate]
 congr 1
 omega
theorem cRs_shift {l:List Rt} {i s:Nat} (hi:i < l.length) (hs:1≤s):setL (cRs l++jk (s * 5)) ((i + 1) * 5) (cRs (l.drop i))=cRs (l.take i)++rcs l[i]++(cRs (l.drop i)++jk ((s - 1) * 5)):=by
 have hn:(i + 1) * 5 + (cRs (l.drop i)).length=(l.length + 1) * 5:=by rw [cRs_len,List.length_drop];omega
 rw [setL_at _ _ _ (by rw [hn,List.length_append,cRs_len,jk_len];omega),hn]
 have h1:List.take ((i + 1) * 5) (cRs l++jk (s * 5))=cRs (l.take i)++rcs l[i]:=by
  rw [cRs_split l (i + 1),List.append_assoc,List.take_left' (by rw [cRs_len,List.length_take];congr 1;omega),List.take_succ_eq_append_getElem hi,cRs_app]
  simp [cRs]
 have h2:List.drop ((l.length + 1) * 5) (cRs l++jk (s * 5))=jk ((s - 1) * 5):=by
  rw [List.drop_append,List.drop_eq_nil_of_le (by rw [cRs_len];omega),List.nil_append,cRs_len,jk,List.drop_replicate]
  congr 1;omega
 rw [h1,h2,List.append_assoc]
theorem cRs_setm (l:List Rt) (i s:Nat) (y x:Rt) (hi:i≤l.length):setL (cRs (l.take i)++rcs y++(cRs (l.drop i)++jk s)) (i * 5) (rcs x)=cRs (insR l i x)++jk s:=by
 rw [setL_mid (cRs (l.take i)) (rcs y) (rcs x) _ (i * 5) (by rw [cRs_len,List.length_take];congr 1;omega) rfl]
 simp [insR,cRs_app,cRs]
set_option maxHeartbeats 4000000 in
theorem insR_ok:FineM Tryd.prog 43 cInsR:=by
 refine fineM_of [] ms_nil [] mm_nil [] [(62,gOvR)] (ex_cons overR_ok ex_nil) (T:=TT) Tryd.func43 rfl Tryd.ntmps43 (by rw [Tryd.results43]) rfl rfl tt gs_nil ds_nil ?_
 rintro args m1 ⟨l,cap,i,x,rfl,rfl,⟨hi,hcap⟩,hl⟩
 refine ⟨by simp [argsI],fun E hE Q hQ=>?_⟩
 have hfin:∀ r m2,(∀ K,insC l i x K→K r m2)→cInsR.post (argsI l cap i) (memI l cap x) r m2:=by
  intro r m2 h l' cap' i' x' h1 h2
  obtain ⟨rfl,rfl,rfl,rfl⟩:=memI_inj h1 h2
  exact h
 simp only [argsI,memI] at hE hQ hfin ⊢
 generalize hn:l.length=n at *
 obtain ⟨s,rfl⟩:=Nat.exists_eq_add_of_le hcap
 have hs:n + s - n=s:=by omega
 have e1:((n:Int) + 1 - (i:Int)).toNat=n + 1 - i:=by omega
 have e2:((n:Int) + 1).toNat=n + 1:=by omega
 have e3:((i:Int) + 1).toNat=i + 1:=by omega
 have hx5:(rcs x).length=5:=rfl
 have hxt:List.take 5 (rcs x)=rcs x:=rfl
 have hxl:=rcs_leaf x
 have hlen:(cRs l++jk ((n + s - n) * 5)).length=(n + s) * 5:=by rw [List.length_append,cRs_len,jk_len,hn,hs];omega
 refine Aw_st hE [0,1,2] [25,40,1000,1001] fun K hK=>?_
 simp only [go_sem,seval]
 repeat refine sd0 ?_
 refine hK _ ?_;clear hK K
 refine Aw_st hE [0,1,2] [25,40,1000,1001] fun K hK=>?_
 simp only [go_sem,seval]
 repeat refine sd0 ?_
 refine hK _ ?_;clear hK K
 refine Aw_st hE [0,1,2,7] [25,40,1000,1001] fun K hK=>?_
 simp only [go_sem,seval]
 repeat refine sd0 ?_
 refine hK _ ?_;clear hK K
 refine Aw_sq fun B1 hB1 hR1 hX1=>?_
 refine Aw_st hE [0,1,2,7,16] [25,40,1000,1001] fun K hK=>?_
 simp only [go_sem,seval]
 repeat refine sd0 ?_
 refine hK _ (Aw_no rfl ?_)
 refine Aw_skip (hB1 _ ?_)
 refine Aw_st hE [0,1,2,7,8] [25,40,1000,1001] fun K hK=>?_
 simp only [go_sem,seval]
 repeat refine sd0 ?_
 refine hK _ ?_;clear hK K
 refine Aw_sq fun B3 hB3 hR3 hX3=>?_
 refine Aw_st hE [0,1,2,7,8,22] [25,40,1000,1001] fun K hK=>?_
 simp only [go_sem,seval]
 repeat refine sd0 ?_
 refine hK _ (Aw_cond rfl (fun hc4=>?_) (fun hc4=>?_))
 ·simp only [dte] at hc4
  have hin:i=n:=by omega
  subst hin
  have hins:insR l i x=l++[x]:=by rw [insR,← hn,List.take_length,List.drop_length]
  refine Aw_st hE [6] [25,40,1000,1001] fun K hK=>?_
  simp only [go_sem,seval,hx5,hxt,hxl,hlen,cRs_nt,cRs_stripF,cRs_strip]
  repeat refine sd0 ?_
  refine ⟨fun hr=>?_,fun hr cap' hc'=>?_⟩
  ·have e:=cRs_in l x s (by omega)
   rw [hn] at e
   rw [hs,e]
   refine hK _ (Aw_ret (hR3 _ (hQ _ ?_)))
   simp only [go_sem,seval,cRs_nt,cRs_stripF]
   refine hfin _ _ fun K' hK'=>?_
   have:=(hK' (i + s) (by omega)).1 (rcs x)
   rw [hins,hn,show i + s - (i + 1)=s - 1 by omega] at this
   exact this
  have e:List.take (i * 5) (cRs l++jk ((i + s - i) * 5))=cRs l:=by rw [← hn];exact cRs_take l _
  rw [e]
  refine hK _ (Aw_ret (hR3 _ (hQ _ ?_)))
  simp only [go_sem,seval,cRs_nt,cRs_stripF,cRs_strip]
  refine hfin _ _ fun K' hK'=>?_
  have:=(hK' cap' (by omega)).2.1 (cRs l++jk ((i + s - i) * 5)) (rcs x)
  rw [hins,hn,cRs_app] at this
  simp only [cRs,List.append_nil] at this
  exact this
 ·simp only [dfn] at hc4
  have hin:i < n:=by omega
  have hti:(l.take i).length=i:=by rw [List.length_take];omega
  refine Aw_skip (hB3 _ ?_)
  refine Aw_sq fun B5 hB5 hR5 hX5=>?_
  refine Aw_st hE [0,1,2,7,8,31] [25,40,1000,1001] fun K hK=>?_
  simp only [go_sem,seval]
  repeat refine sd0 ?_
  refine hK _ (Aw_cond rfl (fun hc6=>?_) (fun hc6=>?_))
  ·simp only [dte] at hc6
   refine Aw_st hE [0,1,2,7,9] [25,40,1000,1001] fun K hK=>?_
   simp only [go_sem,seval,hx5,hxt,hxl,hlen,cRs_nt,cRs_stripF,cRs_strip]
   repeat refine sd0 ?_
   intro cap' hc'
   rw [e1,show i + (n + 1 - i)=n + 1 by omega]
   have hc':n + 1≤cap':=by omega
   have htk:List.take (i * 5) (cRs l++jk ((n + s - n) * 5))=cRs (l.take i):=by
    rw [cRs_split l i,List.append_assoc,List.take_left' (by rw [cRs_len,hti])]
   rw [htk,cRs_strip,rcs_strip,show List.replicate ((cap' - i) * 5) AV.junk=jk ((cap' - i) * 5) from rfl]
   have hl2:(cRs (l.take i)++jk ((cap' - i) * 5)).length=cap' * 5:=by rw [List.length_append,cRs_len,jk_len,hti];omega
   refine hK _ ?_;clear hK K
   refine Aw_st hE [0,1,7,9] [25,40,1000,1001] fun K hK=>?_
   simp only [go_sem,seval,hx5,hxt,hxl,hlen,hl2,cRs_nt,cRs_stripF,cRs_strip,if_neg (show ¬ cap'=i by omega),show min 1 (n + 1 - i)=1 by omega,Nat.one_mul]
   repeat refine sd0 ?_
   have hq:=cRs_inL (l.take i) [x] (cap' - i) (by simp;omega)
   rw [hti,show cRs [x]=rcs x from by simp [cRs],List.length_singleton] at hq
   rw [hq]
   have hl3:(cRs (l.take i++[x])++jk ((cap' - i - 1) * 5)).length=cap' * 5:=by rw [List.length_append,cRs_len,jk_len,List.length_append,hti,List.length_singleton];omega
   refine hK _ ?_;clear hK K
   refine Aw_sd hE [9] [25,40,1000,1001] 6 (by kernel_rfl) fun K hK=>?_
   simp only [go_sem,seval,e3,hx5,hxt,hxl,hlen,hl3,cRs_nt,cRs_stripF,cRs_strip,if_neg (show ¬ n + s=i by omega),if_neg (show ¬ cap'=i + 1 by omega),show min (n - i) (n - i)=n - i by omega]
   repeat refine sd0 ?_
   have hsrc:List.take ((n - i) * 5) (List.drop (i * 5) (cRs l++List.replicate ((n + s - n) * 5) AV.junk))=cRs (l.drop i):=by
    rw [cRs_split l i,List.append_assoc,List.drop_left' (by rw [cRs_len,hti]),List.take_left' (by rw [cRs_len,List.length_drop,hn])]
   rw [hsrc]
   refine ⟨⟨by omega,by omega,cRs_leaf _⟩,?_⟩
   have hq2:=cRs_inL (l.take i++[x]) (l.drop i) (cap' - i - 1) (by rw [List.length_drop];omega)
   rw [List.length_append,hti,List.length_singleton,List.append_assoc,List.singleton_append,List.length_drop,hn,show cap' - i - 1 - (n - i)=cap' - (n + 1) by omega] at hq2
   rw [hq2]
   refine hK _ ?_;clear hK K
   refine Aw_st hE [6] [25,40,1000,1001] fun K hK=>?_
   simp only [go_sem,seval]
   repeat refine sd0 ?_
   refine hK _ (Aw_ret (hR5 _ (hQ _ ?_)))
   simp only [go_sem,seval,cRs_nt,cRs_stripF,cRs_strip]
   refine hfin _ _ fun K' hK'=>?_
   have:=(hK' cap' (by omega)).2.2 (cRs l++jk ((n + s - n) * 5)) (rcs x)
   rw [insR,hn] at this
   exact this
  ·simp only [dfn,Int.not_lt] at hc6
   refine Aw_skip (hB5 _ ?_)
   refine Aw_st hE [0,1,2,7,8] [25,40,1000,1001] fun K hK=>?_
   simp only [go_sem,seval,hx5,hxt,hxl,hlen,cRs_nt,cRs_stripF,cRs_strip]
   repeat refine sd0 ?_
   rw [e2]
   refine hK _ ?_;clear hK K
   refine Aw_sq fun B7 hB7 hR7 hX7=>?_
   refine Aw_st hE [0,1,2,7,8,68] [25,40,1000,1001] fun K hK=>?_
   simp only [go_sem,seval]
   repeat refine sd0 ?_
   refine hK _ (Aw_yes rfl ?_)
   refine Aw_sd hE [0,1,2] [25,40,1000,1001] 6 (by kernel_rfl) fun K hK=>?_
   simp only [go_sem,seval,e3,hx5,hxt,hxl,hlen,cRs_nt,cRs_stripF,cRs_strip,if_neg (show ¬ n + s=i by omega),show min (n + 1 - i) (n - i)=n - i by omega,if_neg (show ¬ n + s=i + 1 by omega)]
   repeat refine sd0 ?_
   have hsrc:List.take ((n - i) * 5) (List.drop (i * 5) (cRs l++jk ((n + s - n) * 5)))=cRs (l.drop i):=by
    rw [cRs_split l i,List.append_assoc,List.drop_left' (by rw [cRs_len,hti]),List.take_left' (by rw [cRs_len,List.length_drop,hn])]
   rw [hsrc,hs,cRs_shift (by omega) (by omega)]
   refine ⟨⟨by omega,by omega,cRs_leaf _⟩,?_⟩
   have hl4:(cRs (l.take i)++rcs (l[i]'(by omega))++(cRs (l.drop i)++jk ((s - 1) * 5))).length=(n + s) * 5:=by
    simp only [List.length_append,cRs_len,hti,jk_len,List.length_drop,hn]
    have:(rcs (l[i]'(by omega))).length=5:=rfl
    omega
   generalize l[i]'(by omega)=y at hl4 ⊢
   refine hK _ ?_;clear hK K
   refine Aw_st hE [0] [25,40,1000,1001] fun K hK=>?_
   simp only [go_sem,seval,hx5,hxt,hxl,hlen,hl4,cRs_nt,cRs_stripF,cRs_strip,if_neg (show ¬ n + s=i by omega),show min 1 (n + 1 - i)=1 by omega,Nat.one_mul]
   repeat refine sd0 ?_
   rw [cRs_setm l i _ y x (by omega)]
   refine hK _ ?_;clear hK K
   refine Aw_st hE [6] [25,40,1000,1001] fun K hK=>?_
   simp only [go_sem,seval]
   repeat refine sd0 ?_
   refine hK _ (Aw_ret (hR7 _ (hQ _ ?_)))
   simp only [go_sem,seval,cRs_nt,cRs_stripF,cRs_strip]
   refine hfin _ _ fun K' hK'=>?_
   have:=(hK' (n + s) (by omega)).1 (rcs x)
   rw [hn,show n + s - (n + 1)=s - 1 by omega] at this
   exact this
def insNC (x:Rt) (K:AV→List (Nat × List AV)→Prop):Prop:=∀ c',1≤c'→∀ b,K (.xs 25 0 1 c' 5) [(25,rcs x++jk ((c' - 1) * 5)),(1000,b)]
def cInsN5:ConM:={
 pre:=fun args m1=>∃ x:Rt,args=[.nl,iv (0:Nat),.xs 1000 0 1 1 5]∧m1=[(1000,rcs x)]
 post:=fun args m1 z m2=>∀ x:Rt,args=[.nl,iv (0:Nat),.xs 1000 0 1 1 5]→m1=[(1000,rcs x)]→∀ K,insNC x K→K z m2 }
theorem insN5_ok:FineM Tryd.prog 43 cInsN5:=by
 refine fineM_of [] ms_nil [] mm_nil [25] [(62,gOvR)] (ex_cons overR_ok ex_nil) (T:=TT) Tryd.func43 rfl Tryd.ntmps43 (by rw [Tryd.results43]) rfl rfl tt gs_nil ds_nil ?_
 rintro args m1 ⟨x,rfl,rfl⟩
 refine ⟨by simp,fun E hE Q hQ=>?_⟩
 have hx5:(rcs x).length=5:=rfl
 have hxt:List.take 5 (rcs x)=rcs x:=rfl
 have hxl:=rcs_leaf x
 refine Aw_st hE [0,1,2] [25,1000] fun K hK=>?_
 simp only [go_sem,seval]
 repeat refine sd0 ?_
 refine hK _ ?_;clear hK K
 refine Aw_st hE [0,1,2] [25,1000] fun K hK=>?_
 simp only [go_sem,seval]
 repeat refine sd0 ?_
 refine hK _ ?_;clear hK K
 refine Aw_st hE [0,1,2,7] [25,1000] fun K hK=>?_
 simp only [go_sem,seval]
 repeat refine sd0 ?_
 refine hK _ ?_;clear hK K
 refine Aw_sq fun B1 hB1 hR1 hX1=>?_
 refine Aw_st hE [0,1,2,7,16] [25,1000] fun K hK=>?_
 simp only [go_sem,seval]
 repeat refine sd0 ?_
 refine hK _ (Aw_no rfl ?_)
 refine Aw_skip (hB1 _ ?_)
 refine Aw_st hE [0,1,2,7,8] [25,1000] fun K hK=>?_
 simp only [go_sem,seval]
 repeat refine sd0 ?_
 refine hK _ ?_;clear hK K
 refine Aw_sq fun B3 hB3 hR3 hX3=>?_
 refine Aw_st hE [0,1,2,7,8,22] [25,1000] fun K hK=>?_
 simp only [go_sem,seval]
 repeat refine sd0 ?_
 refine hK _ (Aw_yes rfl ?_)
 refine Aw_st hE [6] [25,1000] fun K hK=>?_
 simp only [go_sem,seval,hx5,hxt,hxl,rcs_strip]
 repeat refine sd0 ?_
 intro cap' hcap'
 refine hK _ (Aw_ret (hR3 _ (hQ _ ?_)))
 simp only [go_sem,seval,rcs_strip]
 intro x' h1 h2 K' hK'
 simp only [List.cons.injEq,Prod.mk.injEq,true_and,and_true] at h2
 have e5:cRs [x]=cRs [x']:=by simp only [cRs];rw [h2]
 have e6:=(List.cons.inj (cRs_inj e5 rfl)).1
 subst e6
 exact hK' cap' hcap' (rcs x)
def cInsA:ConM:={ pre:=fun a m=>cInsR.pre a m∨cInsN5.pre a m,post:=fun a m r m2=>cInsR.post a m r m2∧cInsN5.post a m r m2 }
theorem insA_ok:FineM Tryd.prog 43 cInsA:=by
 have h:=insR_ok.or insN5_ok (fun _=>trivial) (fun _=>trivial)
 refine ⟨h.1,fun c args m1 vs h1 h2 h3 h4 h5 h6 h7 h8 h9=>?_⟩
 refine (h.2 c args m1 vs h1 h2 h3 h4 (fun _ _=>trivial) h6 h7 h8 h9).mono fun e w' ⟨v,r,m2,c',he,hq,O⟩=>⟨v,r,m2,c',he,?_,O⟩
 have hne:∀ l cap i x,[AV.nl,iv ((0:Nat):Int),.xs 1000 0 1 1 5]=argsI l cap i→m1=memI l cap x→False:=fun l cap i x h=>by simp [argsI] at h
 rcases h4 with h4 | h4
 ·refine ⟨hq.1 h4,fun x e1 e2=>?_⟩
  obtain ⟨l,cap,i,y,e3,e4,_⟩:=h4
  rw [e1] at e3
  exact (hne _ _ _ _ e3 e4).elim
 ·obtain ⟨x,e1,e2⟩:=h4
  refine ⟨fun l cap i y e3 e4=>?_,hq.2 (fun ⟨l,cap,i,y,e3,e4,_⟩=>?_)⟩
  ·rw [e1] at e3;exact (hne _ _ _ _ e3 e4).elim
  ·rw [e1] at e3;exact (hne _ _ _ _ e3 e4).elim
theorem insA_pre (l:List Rt) (cap i:Nat) (x:Rt):cInsA.pre (argsI l cap i) (memI l cap x)=((i≤l.length∧l.length≤cap)∧l.length≤1000):=by
 apply propext
 constructor
 ·rintro (⟨l',cap',i',x',e1,e2,h⟩ | ⟨x',e1,_⟩)
  ·obtain ⟨rfl,rfl,rfl,rfl⟩:=memI_inj e1 e2
   exact h
  ·simp [argsI] at e1
 ·exact fun h=>.inl ⟨l,cap,i,x,rfl,rfl,h⟩
theorem insA_post (l:List Rt) (cap i:Nat) (x:Rt) (K:AV→List (Nat × List AV)→Prop) (hK:insC l i x K):∀ r m2,cInsA.post (argsI l cap i) (memI l cap x) r m2→K r m2 :=
 fun r m2 hp=>hp.1 l cap i x rfl rfl K hK
theorem insA_preN (x:Rt):cInsA.pre [.nl,iv ((0:Nat):Int),.xs 1000 0 1 1 5] [(1000,rcs x)]=True:=eq_true (.inr ⟨x,rfl,rfl⟩)
theorem insA_postN (x:Rt) (K:AV→List (Nat × List AV)→Prop) (hK:insNC x K):∀ r m2,cInsA.post [.nl,iv ((0:Nat):Int),.xs 1000 0 1 1 5] [(1000,rcs x)] r m2→K r m2 :=
 fun r m2 hp=>hp.2 x rfl rfl K hK
def conM (C:Con):ConM:={
 pre:=fun a m=>m=[]∧C.pre (a.map AV.er)
 post:=fun a _ r m2=>m2=[]∧∃ r0,C.post (a.map AV.er) r0∧r=r0.er
 inv:=C.inv }
theorem conM_ok {P : Program} {f : FuncId} {C : Con} (h : Fine P f C) (hd : C.draws = false) : FineM P f (conM C) := by
  refine ⟨h.1, fun c args m1 vs h1 h2 h3 hp hi h6 h7 h8 h9 => ?_⟩
  obtain ⟨rfl, hp⟩ := hp
  have hk : Keeps c.w c.S c.w c.S := Keeps.same (fun _ _ h => h) fun _ _ _ => rfl
  refine (h.2 c (args.map AV.er) vs undef 0 0 (by simpa using h1) (fun j x hx => ?_) (fun x hx => ?_) hp (hi _ (GrownL.rfl' _ _ _)) h6 h7 (fun e => by rw [hd] at e; cases e)).mono fun e w' ⟨v, r, c', he, hq, O⟩ => ?_
  · rw [List.getElem?_map, Option.map_eq_some_iff] at hx
    obtain ⟨y, hy, rfl⟩ := hx
    exact (h2 j y hy).er hk rfl
  · obtain ⟨y, _, rfl⟩ := List.mem_map.1 hx
    exact er_er y
  · have hfr := O.fr
    rw [hd] at hfr
    have hk2 : Keeps c'.w c'.S (Gh.mk c'.w c'.S c.β c'.tv c'.te c'.g).w (Gh.mk c'.w c'.S c.β c'.tv c'.te c'.g).S := Keeps.same (fun _ _ h => h) fun _ _ _ => rfl
    refine ⟨v, r.er, [], Gh.mk c'.w c'.S c.β c'.tv c'.te c'.g, he, ⟨rfl, r, hq, rfl⟩, ?_⟩
    exact { w := O.w, rd := O.rd.er hk2 rfl
            fr := ⟨hfr.1, hfr.2, hfr.3, hfr.4, fun i h1 _ _ => hfr.5 i h1 (by simp)⟩
            S := O.S, sx := O.sx, s1 := O.s1
            box := fun d l hl => by simp [lkm] at hl
            boxinj := fun d d' l l' hl => by simp [lkm] at hl
            bl := fun _ _ => rfl }
def twoC' (A:ConM):ConM:={ pre:=fun a m=>(m=[]∧A.pre a m)∨(m≠[]∧(lendC A).pre a m),post:=fun a m r m2=>(m=[]→A.post a m r m2)∧(m≠[]→(lendC A).post a m r m2),inv:=A.inv }
theorem twoC'_ok {P:Program} {f:FuncId} {A:ConM} (hA:FineM P f A):FineM P f (twoC' A):=by
 refine ⟨hA.1,fun c args m1 vs h1 h2 h3 h4 hi h6 h7 h8 h9=>?_⟩
 rcases h4 with ⟨hm,hp⟩ | ⟨hm,hp⟩
 ·exact (hA.2 c args m1 vs h1 h2 h3 hp hi h6 h7 h8 h9).mono fun e w' ⟨v,r,m2,c',he,hq,O⟩=>⟨v,r,m2,c',he,⟨fun _=>hq,fun h=>absurd hm h⟩,O⟩
 ·exact ((lendC_ok hA).2 c args m1 vs h1 h2 h3 hp hi h6 h7 h8 h9).mono fun e w' ⟨v,r,m2,c',he,hq,O⟩=>⟨v,r,m2,c',he,⟨fun h=>absurd h hm,fun _=>hq⟩,O⟩
def cTwo (d:DFn):ConM:=twoC' (conM d.con)
theorem cTwo_ok {P:Program} {f:FuncId} {d:DFn} (h:Fine P f d.con):FineM P f (cTwo d):=twoC'_ok (conM_ok h rfl)
theorem two_pre0 {d:DFn} {a:List AV} {c:Prop} {r:AV} (h:d.g (a.map AV.er)=some (c,r)) (hc:c):(cTwo d).pre a []:=.inl ⟨rfl,rfl,c,r,h,hc⟩
theorem two_post0 {d:DFn} {a:List AV} {c:Prop} {r:AV} (h:d.g (a.map AV.er)=some (c,r)) {K:AV→List (Nat × List AV)→Prop} (hK:K r.er []):∀ z m2,(cTwo d).post a [] z m2→K z m2:=by
 intro z m2 hp
 obtain ⟨rfl,r0,⟨c',h'⟩,rfl⟩:=hp.1 rfl
 rw [h] at h'
 obtain ⟨_,rfl⟩:=Prod.mk.inj (Option.some.inj h')
 exact hK
theorem two_pre1 {d:DFn} {a:List AV} {ls:List AV} {ys:List DV} {c:Prop} {r:AV} (hy:DV.ofAll (ls.take (vlen a))=some ys) (h:d.g ((a.map (AV.frz 1000 ys)).map AV.er)=some (c,r)) (hc:c):(cTwo d).pre a [(1000,ls)] :=
 .inr ⟨by simp,ls,ys,rfl,hy,rfl,c,r,h,hc⟩
theorem two_post1 {d:DFn} {a:List AV} {ls:List AV} {ys:List DV} {c:Prop} {r:AV} (hy:DV.ofAll (ls.take (vlen a))=some ys) (h:d.g ((a.map (AV.frz 1000 ys)).map AV.er)=some (c,r)) {r':AV} (hr:∀ z,Pl r.er z→z=r') {K:AV→List (Nat × List AV)→Prop} (hK:K r' [(1000,ls)]):∀ z m2,(cTwo d).post a [(1000,ls)] z m2→K z m2:=by
 intro z m2 hp
 obtain ⟨ls',ys',r0,m0,e1,e2,⟨_,r1,⟨c',h'⟩,e3⟩,e4,e5⟩:=hp.2 (by simp)
 simp only [List.cons.injEq,Prod.mk.injEq,true_and,and_true] at e1
 subst e1
 rw [hy] at e2
 obtain rfl:=Option.some.inj e2
 rw [h] at h'
 obtain ⟨_,rfl⟩:=Prod.mk.inj (Option.some.inj h')
 subst e3
 rw [e5,hr _ e4]
 exact hK
theorem pl_v (x:Value) (z:AV) (h:Pl (AV.v x).er z):z = .v x:=by simpa [AV.er,Pl] using h
theorem pl_vv (x y:Value) (z:AV) (h:Pl (AV.tup [.v x,.v y]).er z):z = .tup [.v x,.v y]:=by
 simp only [AV.er,AV.erAll,Pl,PlL] at h
 obtain ⟨ls',rfl,a,a2,rfl,rfl,b,b2,rfl,rfl,rfl⟩:=h
 rfl
theorem atR_drop {l:List Rt} {f b:Int} {i:Nat} (hs:sortR l) (hi:i < l.length) (h:key l[i]=(f,b)):l.take i++l.drop (i + 1)=dropK l (f,b):=by
 have e:l=l.take i++(l[i]::l.drop (i + 1)):=by rw [← List.drop_eq_getElem_cons hi,List.take_append_drop]
 have hne:∀ x ∈ l,x≠l[i]→¬ key x=(f,b):=fun x hx hn hk=>hn (sort_inj hs hx (List.getElem_mem hi) (hk.trans h.symm))
 have hp:=List.pairwise_iff_getElem.1 hs
 have h1:∀ x ∈ l.take i,¬ key x=(f,b):=fun x hx=>by
  rw [List.mem_take_iff_getElem] at hx
  obtain ⟨j,hj,rfl⟩:=hx
  have:=rlt_ne (hp j i (by omega) hi (by omega))
  rw [h] at this;exact this
 have h2:∀ x ∈ l.drop (i + 1),¬ key x=(f,b):=fun x hx=>by
  obtain ⟨j,hj,rfl⟩:=List.getElem_of_mem hx
  rw [List.length_drop] at hj
  rw [List.getElem_drop]
  have:=rlt_ne (hp i (i + 1 + j) hi (by omega) (by omega))
  rw [h] at this;exact fun e=>this e.symm
 conv=>rhs;rw [e]
 unfold dropK
 rw [List.filter_append,List.filter_cons,if_neg (by simp [h]),List.filter_eq_self.2 (fun x hx=>by simpa using h1 x hx),List.filter_eq_self.2 (fun x hx=>by simpa using h2 x hx)]
def resD:Option (List Rt)→AV
 | some x=>.tup [.sl none (rrows x),bv true]
 | none=>.tup [.sl none [],bv false]
def gDoD:List AV→Option (Prop × AV)
 | [.sl _ els,.agg [.sl _ e1,.sl _ e2]]=>(match rtsL els,krL e1,rtsL e2 with
  | some l,some D,some T=>some (smallL l∧D.length≤1000∧smallL T,resD (deltaDo l D T))
  | _,_,_=>none)
 | _=>none
def dDoD:DFn:={ g:=gDoD }
attribute [go_sem] gDoD dDoD
def doS (l:List Rt) (D:List (Int × Int)) (T:List Rt) (k i:Nat):St:=⟨84,[(0,.sl none (rrows l)),(3,.loc 3 0),(6,.sl (some (15,0,36)) (rrows (l.take i))),(7,iv i)],[(3,[.sl none (krows D),.sl none (rrows T)])],k⟩
set_option maxHeartbeats 4000000 in
theorem sDeltaDo_ok:Fine Tryd.prog 17 dDoD.con:=by
 refine fine_det (T:=TT) Tryd.func17 rfl Tryd.ntmps17 (by rw [Tryd.results17]) rfl rfl tt (gs_nil) (ds_cons sRoutesOk_ok (ds_cons l4Copy_ok (ds_cons l23At_ok (ds_cons sRtOk_ok (ds_cons l23Put_ok ds_nil))))) ?_
 intro args c r h hc
 simp only [dDoD,gDoD] at h
 split at h
 rotate_left
 ·cases h
 split at h
 rotate_left
 ·cases h
 rename_i t els t1 e1 t2 e2 _ _ _ l D T hrt1 hkr1 hrt2
 obtain rfl:=rtsL_eq hrt1
 obtain rfl:=krL_eq hkr1
 obtain rfl:=rtsL_eq hrt2
 obtain ⟨rfl,rfl⟩:=Prod.mk.inj (Option.some.inj h)
 refine ⟨by simp,fun k E hE Q hQ=>?_⟩
 obtain ⟨hcl,hDl,hcT⟩:=hc
 have hll:=hcl.1
 have hTl:=hcT.1
 refine Aw_st hE [0,3] [3] fun K hK=>?_
 simp only [go_sem,seval]
 refine hK _ ?_;clear hK K
 refine Aw_sq fun B1 hB1 hR1 hX1=>?_
 cases hok:routesOk l with
 | false =>
  have hd:deltaDo l D T=none:=by unfold deltaDo;rw [hok];rfl
  refine Aw_st hE [0,3,13] [3] fun K hK=>?_
  simp only [go_sem,seval,hok]
  refine ⟨hcl,hK _ (Aw_yes rfl ?_)⟩
  refine Aw_st hE [4,5] [3] fun K hK=>?_
  simp only [go_sem,seval]
  refine hK _ (Aw_ret (hR1 _ (hQ _ ?_)))
  simp only [go_sem,seval,hd,resD]
 | true =>
 have hd:deltaDo l D T=(dropL l D).bind fun m=>tellL m T:=by unfold deltaDo;rw [hok];rfl
 rw [hd] at hQ
 obtain ⟨hl12,hokl,hs⟩:=routesOk_iff.1 hok
 refine Aw_st hE [0,3,13] [3] fun K hK=>?_
 simp only [go_sem,seval,hok]
 refine ⟨hcl,hK _ (Aw_no rfl (Aw_skip (hB1 _ ?_)))⟩
 refine Aw_st hE [0,3,6] [3] fun K hK=>?_
 simp only [go_sem,seval]
 refine hK _ ?_;clear hK K
 refine Aw_sqJ (fun _:Unit=>⟨84,[(3,.loc 3 0),(6,.sl none (rrows l))],[(3,[.sl none (krows D),.sl none (rrows T)])],k⟩) (fun _=>True) (fun _ _=>?_) fun B3 hB3 hR3 hX3=>?_
 ·refine Aw_sqJ (fun m:List Rt=>⟨84,[(3,.loc 3 0),(6,.sl none (rrows m))],[(3,[.sl none (krows D),.sl none (rrows T)])],k⟩) (fun m=>dropL l D=some m∧sortR m∧m.length≤12∧∀ r ∈ m,smallR r) (fun m hm=>?_) fun B10 hB10 hR10 hX10=>?_
  ·obtain ⟨hm1,hm2,hm3,hm4⟩:=hm
   refine Aw_sq fun B19 hB19 hR19 hX19=>?_
   rw [hm1] at hQ
   simp only [Option.bind_some] at hQ
   refine Aw_st hE [3,6,10] [3] fun K hK=>?_
   simp only [go_sem,seval]
   refine hK _ ?_;clear hK K
   refine Aw_bk fun B20 hN20 hE20 hR20 hX20=>?_
   refine Aw_lp (fun i:Nat × List Rt=>⟨84,[(3,.loc 3 0),(6,.sl none (rrows i.2)),(10,iv i.1)],[(3,[.sl none (krows D),.sl none (rrows T)])],k⟩) (fun i=>i.1≤T.length∧tellL m T=tellL i.2 (T.drop i.1)∧sortR i.2∧i.2.length≤12∧∀ r ∈ i.2,smallR r) (fun i=>T.length - i.1) (0,m) (Le.refl _) ⟨by simp,rfl,hm2,hm3,hm4⟩ fun i hi B21 hN21 hR21 hX21=>?_
   obtain ⟨i,m'⟩:=i
   obtain ⟨hi1,hi2,hi3,hi4,hi5⟩:=hi
   simp only at hi1 hi2 hi3 hi4 hi5
   refine Aw_sq fun B22 hB22 hR22 hX22=>?_
   refine Aw_st hE [3,6,10,61] [3] fun K hK=>?_
   simp only [go_sem,seval]
   refine hK _ (Aw_cond rfl (fun hc23=>?_) (fun hc23=>?_))
   ·simp only [dte] at hc23
    have hil:i < T.length:=by omega
    have hg:=rrows_at T i hil
    have hxs:=hcT.2 _ (List.getElem_mem hil)
    rw [List.drop_eq_getElem_cons hil] at hi2
    generalize T[i]=x at hg hi2 hxs
    obtain ⟨xf,xb,xp,xk,xm⟩:=x
    simp only [tellL] at hi2
    have hxs':xp.length≤1000∧xm.length≤900:=hxs
    have hxl:xp.length≤4294967296∧xm.length≤4294967296:=by omega
    have hsm':smallL m':=⟨by omega,hi5⟩
    refine Aw_skip (hB22 _ ?_)
    refine Aw_sq fun B24 hB24 hR24 hX24=>?_
    refine Aw_bk fun B25 hN25 hE25 hR25 hX25=>?_
    refine Aw_sq fun B26 hB26 hR26 hX26=>?_
    cases hro:rtOk xf xb xp xk xm with
    | false =>
     have hz:tellL m T=none:=by rw [hi2,if_neg (show ¬ okR ⟨xf,xb,xp,xk,xm⟩=true from fun e=>by have e':rtOk xf xb xp xk xm=true:=e;rw [hro] at e';cases e')]
     rw [hz] at hQ
     refine Aw_st hE [3,6,10,70] [3] fun K hK=>?_
     simp only [go_sem,seval,hg,hro]
     refine ⟨by omega,hxl,hK _ (Aw_yes rfl ?_)⟩
     refine Aw_st hE [4,5] [3] fun K hK=>?_
     simp only [go_sem,seval]
     refine hK _ (Aw_ret (hR26 _ (hR25 _ (hR24 _ (hR21 _ (hR20 _ (hR19 _ (hQ _ ?_))))))))
     simp only [go_sem,seval,resD]
    | true =>
     rw [if_pos (show okR ⟨xf,xb,xp,xk,xm⟩=true from hro)] at hi2
     have hpe:=putG_eq (r:=⟨xf,xb,xp,xk,xm⟩) hi3
     have hps:=sort_put hi3 ⟨xf,xb,xp,xk,xm⟩
     have hpm:∀ r ∈ putR m' ⟨xf,xb,xp,xk,xm⟩,smallR r:=fun r hr=>by
      rcases mem_put hr with rfl | hr
      ·exact hxs
      ·exact hi5 r hr
     refine Aw_st hE [3,6,10,70] [3] fun K hK=>?_
     simp only [go_sem,seval,hg,hro]
     refine ⟨by omega,hxl,hK _ (Aw_no rfl (Aw_skip (hB26 _ ?_)))⟩
     refine Aw_st hE [3,6,10] [3] fun K hK=>?_
     simp only [go_sem,seval,hg]
     refine ⟨by omega,⟨hsm',hxs'.1,hxs'.2⟩,?_⟩
     rw [hpe]
     generalize putR m' ⟨xf,xb,xp,xk,xm⟩=L at hi2 hps hpm ⊢
     refine hK _ ?_;clear hK K
     by_cases hL:L.length≤12
     ·rw [if_pos hL] at hi2
      have d1:decide ((12:Int) < (L.length:Int))=false:=decide_eq_false (by omega)
      refine Aw_st hE [3,6,10,81] [3] fun K hK=>?_
      simp only [go_sem,seval,d1]
      refine hK _ (Aw_no rfl ?_)
      refine Aw_skip (hN25 _ (hB24 _ ?_))
      refine Aw_tx hE [3,6,10] [3] fun K hK=>?_
      simp only [go_sem,seval]
      repeat refine sd0 ?_
      refine hK _ (hN21 (i + 1,L) _ ⟨by simp only;omega,hi2,hps,hL,hpm⟩ (by simp only;omega) (Le.refl _))
     ·rw [if_neg hL] at hi2
      rw [hi2] at hQ
      have d1:decide ((12:Int) < (L.length:Int))=true:=decide_eq_true (by omega)
      refine Aw_st hE [3,6,10,81] [3] fun K hK=>?_
      simp only [go_sem,seval,d1]
      refine hK _ (Aw_yes rfl ?_)
      refine Aw_st hE [4,5] [3] fun K hK=>?_
      simp only [go_sem,seval]
      refine hK _ (Aw_ret (hR25 _ (hR24 _ (hR21 _ (hR20 _ (hR19 _ (hQ _ ?_)))))))
      simp only [go_sem,seval,resD]
   ·simp only [dfn] at hc23
    have hz:tellL m T=some m':=by rw [hi2,List.drop_eq_nil_of_le (by omega)];rfl
    rw [hz] at hQ
    refine Aw_exit (hX22 _ _ (hX21 _ _ (hE20 _ (hB19 _ ?_))))
    refine Aw_st hE [4,5] [3] fun K hK=>?_
    simp only [go_sem,seval]
    refine hK _ (Aw_ret (hQ _ ?_))
    simp only [go_sem,seval,resD]
  ·refine Aw_st hE [3,6,8] [3] fun K hK=>?_
   simp only [go_sem,seval]
   refine hK _ ?_;clear hK K
   refine Aw_bk fun B11 hN11 hE11 hR11 hX11=>?_
   refine Aw_lp (fun i:Nat × List Rt=>⟨84,[(3,.loc 3 0),(6,.sl none (rrows i.2)),(8,iv i.1)],[(3,[.sl none (krows D),.sl none (rrows T)])],k⟩) (fun i=>i.1≤D.length∧dropL l D=dropL i.2 (D.drop i.1)∧sortR i.2∧i.2.length≤12∧∀ r ∈ i.2,smallR r) (fun i=>D.length - i.1) (0,l) (Le.refl _) ⟨by simp,rfl,hs,hl12,hcl.2⟩ fun i hi B12 hN12 hR12 hX12=>?_
   obtain ⟨i,m⟩:=i
   obtain ⟨hi1,hi2,hi3,hi4,hi5⟩:=hi
   simp only at hi1 hi2 hi3 hi4 hi5
   refine Aw_sq fun B13 hB13 hR13 hX13=>?_
   refine Aw_st hE [3,6,8,34] [3] fun K hK=>?_
   simp only [go_sem,seval]
   refine hK _ (Aw_cond rfl (fun hc14=>?_) (fun hc14=>?_))
   ·simp only [dte] at hc14
    have hil:i < D.length:=by omega
    have hg:=krows_get D i hil
    rw [List.drop_eq_getElem_cons hil] at hi2
    generalize D[i]=x at hg hi2
    obtain ⟨xf,xb⟩:=x
    simp only [kR] at hg
    simp only [dropL] at hi2
    refine Aw_skip (hB13 _ ?_)
    refine Aw_sq fun B15 hB15 hR15 hX15=>?_
    refine Aw_bk fun B16 hN16 hE16 hR16 hX16=>?_
    refine Aw_st hE [3,6,8,9] [3] fun K hK=>?_
    simp only [go_sem,seval,hg]
    refine ⟨by omega,by omega,?_⟩
    refine hK _ ?_;clear hK K
    refine Aw_sq fun B17 hB17 hR17 hX17=>?_
    rcases atR_look m xf xb with ⟨h1,h2⟩ | ⟨j,hj,h1,h2⟩
    ·have hz:dropL l D=none:=by rw [hi2,h2];rfl
     rw [hz] at hQ
     rw [h1]
     refine Aw_st hE [3,6,8,9,45] [3] fun K hK=>?_
     simp only [go_sem,seval]
     refine hK _ (Aw_yes rfl ?_)
     refine Aw_st hE [4,5] [3] fun K hK=>?_
     simp only [go_sem,seval]
     refine hK _ (Aw_ret (hR17 _ (hR16 _ (hR15 _ (hR12 _ (hR11 _ (hR10 _ (hQ _ ?_))))))))
     simp only [go_sem,seval,resD,Option.bind_none]
    ·have hz:dropL l D=dropL (dropK m (xf,xb)) (D.drop (i + 1)):=by rw [hi2,h2];rfl
     have hkj:key m[j]=(xf,xb):=(look_some h2).2
     have hcut:=atR_drop hi3 hj hkj
     have hsd:=sort_drop hi3 (xf,xb)
     have hld:(dropK m (xf,xb)).length≤m.length:=List.length_filter_le _ _
     have hsm:∀ r ∈ dropK m (xf,xb),smallR r:=fun r hr=>hi5 r (List.mem_filter.1 hr).1
     have dj:decide ((j:Int) < 0)=false:=decide_eq_false (by omega)
     rw [h1]
     refine Aw_st hE [3,6,8,9,45] [3] fun K hK=>?_
     simp only [go_sem,seval,dj]
     refine hK _ (Aw_no rfl (Aw_skip (hB17 _ ?_)))
     refine Aw_tS hE (.fst 1 (.fst 2 (.fst 5 (.fst 6 (.alt 0 (.alt 3 (.alt 4 (.alt 7 (.alt 8 (.alt 9 (.fst 10 .done) .non) .non) .non) (.alt 7 (.alt 4 (.alt 8 (.alt 9 (.fst 10 .done) .non) .non) (.alt 8 (.alt 4 (.alt 9 (.fst 10 .done) .non) .non) .non)) .non)) (.alt 7 (.alt 3 (.alt 4 (.alt 8 (.alt 9 (.fst 10 .done) .non) .non) (.alt 8 (.alt 4 (.alt 9 (.fst 10 .done) .non) .non) .non)) (.alt 8 (.alt 3 (.alt 4 (.alt 9 (.fst 10 .done) .non) .non) .non) .non)) .non)) (.alt 3 (.alt 0 (.alt 4 (.alt 7 (.alt 8 (.alt 9 (.fst 10 .done) .non) .non) .non) (.alt 7 (.alt 4 (.alt 8 (.alt 9 (.fst 10 .done) .non) .non) (.alt 8 (.alt 4 (.alt 9 (.fst 10 .done) .non) .non) .non)) .non)) (.alt 7 (.alt 0 (.alt 4 (.alt 8 (.alt 9 (.fst 10 .done) .non) .non) (.alt 8 (.alt 4 (.alt 9 (.fst 10 .done) .non) .non) .non)) (.alt 8 (.alt 0 (.alt 4 (.alt 9 (.fst 10 .done) .non) .non) .non) .non)) .non)) (.alt 7 (.alt 0 (.alt 3 (.alt 4 (.alt 8 (.alt 9 (.fst 10 .done) .non) .non) (.alt 8 (.alt 4 (.alt 9 (.fst 10 .done) .non) .non) .non)) (.alt 8 (.alt 3 (.alt 4 (.alt 9 (.fst 10 .done) .non) .non) .non) .non)) (.alt 3 (.alt 0 (.alt 4 (.alt 8 (.alt 9 (.fst 10 .done) .non) .non) (.alt 8 (.alt 4 (.alt 9 (.fst 10 .done) .non) .non) .non)) (.alt 8 (.alt 0 (.alt 4 (.alt 9 (.fst 10 .done) .non) .non) .non) .non)) (.alt 8 (.alt 0 (.alt 3 (.alt 4 (.alt 9 (.fst 10 .done) .non) .non) .non) (.alt 3 (.alt 0 (.alt 4 (.alt 9 (.fst 10 .done) .non) .non) .non) .non)) .non))) .non))))))) [3,6,8] [3] (by kernel_rfl) fun K hK=>?_
     simp only [go_sem,seval]
     have hT1:((j:Int) + 1).toNat=j + 1:=by omega
     have hr0:∀ row ∈ rrows m,row.length=5:=rrows_row m
     have hr1:∀ row ∈ List.take j (rrows m),row.length=5:=fun r h=>hr0 r (List.mem_of_mem_take h)
     have hl1:(List.take j (rrows m)).length≤m.length:=by rw [List.length_take,rrows_len];omega
     have hl2:(List.drop (j + 1) (List.take m.length (rrows m))).length≤m.length:=by rw [List.length_drop,List.length_take,rrows_len];omega
     have e1:List.take j (rrows m)++List.drop (j + 1) (List.take m.length (rrows m))=rrows (dropK m (xf,xb)):=by
      rw [List.take_of_length_le (Nat.le_of_eq (rrows_len m)),← hcut]
      simp only [rrows,List.map_append,List.map_take,List.map_drop]
     simp only [hT1,e1]
     have hr2:∀ row ∈ rrows (dropK m (xf,xb)),row.length=5:=rrows_row _
     have hk1:K { nt:=84,σ:=[(3,.loc 3 0),(6,.sl (some (56,0,36)) (rrows (dropK m (xf,xb)))),(8,iv i)],m:=[(3,[.sl none (krows D),.sl none (rrows T)])],rn:=k }:=by
      refine hK _ (hN16 _ (hB15 _ ?_))
      refine Aw_tx hE [3,6,8] [3] fun K hK=>?_
      simp only [go_sem,seval]
      repeat refine sd0 ?_
      refine hK _ (hN12 (i + 1,dropK m (xf,xb)) _ ⟨by simp only;omega,hz,hsd,by simp only;omega,hsm⟩ (by simp only;omega) (Le_wk (Nat.le_refl _) ⟨rfl,rfl,rfl,trivial⟩ ⟨⟨rfl,rfl,trivial⟩,trivial⟩))
     repeat' (first | exact hk1 | exact hr0 | exact hr1 | exact hr2 | (refine And.intro ?_ ?_) | omega)
   ·simp only [dfn] at hc14
    refine Aw_exit (hX13 _ _ (hX12 _ _ (hE11 _ (hB10 m _ ⟨?_,hi3,hi4,hi5⟩ (Le_E (Le_ks [3,6] [3]))))))
    rw [hi2,List.drop_eq_nil_of_le (by omega)];rfl
 ·refine Aw_st hE [0,3,6,7] [3] fun K hK=>?_
  simp only [go_sem,seval]
  refine hK _ ?_;clear hK K
  refine Aw_bk fun B4 hN4 hE4 hR4 hX4=>?_
  refine Aw_lp (fun i:Nat=>doS l D T k i) (fun i=>i≤l.length) (fun i=>l.length - i) 0 (Le_wk (by first | omega | (dsimp only;omega) | (simp only;omega) | (simp;omega)) (by simp only [go_sem,seval];all_goals rfl) (by simp only [go_sem,seval];all_goals rfl)) (by omega) fun i hi B5 hN5 hR5 hX5=>?_
  simp only [doS]
  refine Aw_sq fun B6 hB6 hR6 hX6=>?_
  refine Aw_st hE [0,3,6,7,19] [3] fun K hK=>?_
  simp only [go_sem,seval]
  refine hK _ (Aw_cond rfl (fun hc7=>?_) (fun hc7=>?_))
  ·simp only [dte] at hc7
   have hil:i < l.length:=by omega
   have hg:=rrows_at l i hil
   obtain ⟨hxp,hxm⟩:=smallR_at hcl i hil
   have htk:=List.take_succ_eq_append_getElem hil
   have htl:(l.take i).length≤i:=by rw [List.length_take];omega
   generalize l[i]=x at hg hxp hxm htk
   obtain ⟨xf,xb,xp,xk,xm⟩:=x
   simp only at hxp hxm
   have hxl:xp.length≤1000000∧xm.length≤1000000:=by omega
   refine Aw_skip (hB6 _ ?_)
   refine Aw_sq fun B8 hB8 hR8 hX8=>?_
   refine Aw_bk fun B9 hN9 hE9 hR9 hX9=>?_
   refine Aw_tx hE [0,3,6,7] [3] fun K hK=>?_
   simp only [go_sem,seval,hg,rrows_one]
   refine ⟨by omega,hxl,⟨rrows_row _,by omega⟩,?_⟩
   refine hK _ (hN9 _ (hB8 _ ?_))
   refine Aw_tx hE [0,3,6,7] [3] fun K hK=>?_
   simp only [go_sem,seval]
   repeat refine sd0 ?_
   refine hK _ (hN5 (i + 1) _ (by omega) (by omega) ?_)
   simp only [doS]
   rw [htk]
   exact Le_tk 29 15 rfl
  ·simp only [dfn] at hc7
   obtain rfl:i=l.length:=by omega
   rw [List.take_length]
   refine Aw_exit (hX6 _ _ (hX5 _ _ (hE4 _ (hB3 () _ trivial (Le_E (Le_wk (Nat.le_refl _) (by simp only [go_sem,seval];all_goals rfl) (by simp only [go_sem,seval];all_goals rfl)))))))
theorem put_yes {f b:Int} {p:List Int} {k:Int} {m:List Int}:∀ {l:List Rt},sortR l→(h:spotN l f b < l.length)→rCmp l[spotN l f b].f l[spotN l f b].b f b=0→putR l ⟨f,b,p,k,m⟩=l.set (spotN l f b) ⟨f,b,p,k,m⟩
 | [],_,h,_=>by simp [spotN] at h
 | x::l,hs,h,hz=>by
  obtain ⟨h1,h2⟩:=List.pairwise_cons.1 hs
  by_cases hx:rCmp x.f x.b f b < 0
  ·have e:spotN (x::l) f b=spotN l f b + 1:=by rw [spotN,if_pos hx]
   simp only [e,List.getElem_cons_succ] at hz
   rw [e] at h ⊢
   have hr:=rCmp_neg (y:=⟨f,b,p,k,m⟩).1 hx
   rw [putR,if_neg (rlt_ne hr),if_pos (rltB.2 hr),put_yes h2 (by simpa using h) hz]
   rfl
  ·have e:spotN (x::l) f b=0:=by rw [spotN,if_neg hx]
   simp only [e,List.getElem_cons_zero] at hz
   rw [e,putR,if_pos (show key x=key ⟨f,b,p,k,m⟩ from by obtain ⟨q1,q2⟩:=rCmp_z0.1 hz;simp [key,q1,q2])]
   rfl
theorem put_no {f b:Int} {p:List Int} {k:Int} {m:List Int}:∀ {l:List Rt},sortR l→look l (f,b)=none→putR l ⟨f,b,p,k,m⟩=insR l (spotN l f b) ⟨f,b,p,k,m⟩
 | [],_,_=>rfl
 | x::l,hs,hn=>by
  obtain ⟨h1,h2⟩:=List.pairwise_cons.1 hs
  have hk:¬ key x=key ⟨f,b,p,k,m⟩:=look_none.1 hn x (by simp)
  have hn2:look l (f,b)=none:=look_none.2 fun y hy=>look_none.1 hn y (by simp [hy])
  by_cases hx:rCmp x.f x.b f b < 0
  ·have hr:=rCmp_neg (y:=⟨f,b,p,k,m⟩).1 hx
   rw [spotN,if_pos hx,putR,if_neg hk,if_pos (rltB.2 hr),put_no h2 hn2]
   rfl
  ·rw [spotN,if_neg hx,putR,if_neg hk,if_neg (fun h=>hx (rCmp_neg (y:=⟨f,b,p,k,m⟩).2 (rltB.1 h)))]
   rfl
def dDoDI (pb:Addr):DFn:={ g:=gDoD,inv:=WP pb }
attribute [go_sem] dDoDI
def oL:Option (List Rt × Nat)→List Rt
 | none=>[]
 | some (m,_)=>m
def oC:Option (List Rt × Nat)→Prop
 | none=>True
 | some (m,c)=>m.length≤c
def oA:Option (List Rt × Nat)→AV
 | none=>.nl
 | some (m,c)=>.xs 60 0 m.length c 5
def oM:Option (List Rt × Nat)→List (Nat × List AV)
 | none=>[]
 | some (m,c)=>[(60,cRs m++jk ((c - m.length) * 5))]
theorem jk_le (n:Nat):avLeL (jk n) (jk n):=by
 have h:=avLeL_junk (jk n)
 rwa [jk_len] at h
theorem cRs_set5 {m:List Rt} {s:Nat} (h:s < m.length) (x:Rt) (r:List AV):(((((cRs m++r).set (s * 5) (iv x.f)).set (s * 5 + 1) (iv x.b)).set (s * 5 + 1 + 1) (.sl none (rows x.path))).set (s * 5 + 1 + 1 + 1) (iv x.like)).set (s * 5 + 1 + 1 + 1 + 1) (.sl none (rows x.marks))=cRs (m.set s x)++r:=by
 show setL (cRs m++r) (s * 5) (rcs x)=_
 have e:m=m.take s++(m[s]::m.drop (s + 1)):=by rw [← List.drop_eq_getElem_cons h,List.take_append_drop]
 have e1:cRs m=cRs (m.take s)++rcs m[s]++cRs (m.drop (s + 1)):=by
  conv=>lhs;rw [e]
  rw [cRs_app];simp [cRs]
 rw [e1,List.append_assoc,setL_mid (cRs (m.take s)) (rcs m[s]) (rcs x) _ (s * 5) (by rw [cRs_len,List.length_take];congr 1;omega) rfl,List.set_eq_take_append_cons_drop,if_pos h,cRs_app]
 simp [cRs]
theorem frzV (m:List Rt) (c:Nat):AV.frz 1000 (rD m) (.xs 1000 0 m.length c 5) = .sl none (rrows m):=by
 simp only [AV.frz,if_true,Nat.zero_add,List.drop_zero]
 rw [if_pos (by rw [rD_len];exact Nat.le_refl _),frz_rrows]
theorem viewV (m:List Rt) (c n:Nat) (z:List AV):DV.ofAll (List.take (vlen (.xs 1000 0 m.length c 5::z)) (cRs m++jk n))=some (rD m):=by
 rw [vlen,cRs_take];exact ofAll_cRs m
theorem idV (m:List Rt) (c:Nat) (f b:Int):dIdR.g (([.xs 1000 0 m.length c 5,cloR f b].map (AV.frz 1000 (rD m))).map AV.er)=some (m.length≤1000000,iv (atR m f b)):=by
 rw [List.map_cons,frzV]
 show gIdR [.sl none (rrows m),cloR f b]=_
 simp only [gIdR,rtsL_rows]
theorem spV (m:List Rt) (c:Nat) (f b:Int):dSpot.g (([.xs 1000 0 m.length c 5,.agg [iv f,iv b]].map (AV.frz 1000 (rD m))).map AV.er)=some ((m.length≤1000∧sortR m)∧rngsOk m∧rngOk f b=true,.tup [iv (spotN m f b),bv (look m (f,b)).isSome]):=by
 rw [List.map_cons,frzV]
 show gSpot [.sl none (rrows m),.agg [iv f,iv b]]=_
 simp only [gSpot,rtsL_rows]
def dd1 (D:List (Int × Int)) (T:List Rt) (k i:Nat) (o:Option (List Rt × Nat)):St:=⟨71,[(3,.loc 3 0),(6,oA o),(20,.sl none (krows D)),(21,iv D.length),(22,iv i)],(3,[.sl none (krows D),.sl none (rrows T)])::oM o,k⟩
def dd2 (T:List Rt) (k i:Nat) (o:Option (List Rt × Nat)):St:=⟨71,[(6,oA o),(38,.sl none (rrows T)),(39,iv T.length),(40,iv i)],oM o,k⟩
theorem copM_pre (l:List Rt):cCopM.pre [.sl none (rrows l)] []=smallL l:=by
 apply propext
 constructor
 ·rintro ⟨l',e,_,h⟩
  obtain rfl:=rr_inj e
  exact h
 ·exact fun h=>⟨l,rfl,rfl,h⟩
theorem copM_post (l:List Rt) (m1:List (Nat × List AV)) (K:AV→List (Nat × List AV)→Prop):(∀ r m2,cCopM.post [.sl none (rrows l)] m1 r m2→K r m2)=copC l K:=by
 apply propext
 constructor
 ·intro hh
  refine ⟨fun e=>hh _ _ fun l' he K' hK'=>?_,fun e cap hc=>hh _ _ fun l' he K' hK'=>?_⟩
  ·obtain rfl:=rr_inj he
   exact hK'.1 e
  ·obtain rfl:=rr_inj he
   exact hK'.2 e cap hc
 ·exact fun hh r m2 hp=>hp l rfl K hh
attribute [go_sem] copM_pre copM_post copC
set_option maxHeartbeats 8000000 in
theorem iDeltaDo_ok (pb:Addr):Fine Tryd.prog 18 (dDoDI pb).con:=by
 refine fine_detX [] gl_nil [] ms_nil [(38,(cCopM,[],[(900,100)])),(39,(cTwo dIdR,[],[])),(41,(cDelR,[],[])),(25,(cTwo dSpot,[],[])),(43,(cInsA,[],[(25,700),(40,750)]))] (mm_cons copyRsM_ok (by decide) (mm_cons (cTwo_ok idR_ok) (by decide) (mm_cons delR_ok (by decide) (mm_cons (cTwo_ok spot_ok) (by decide) (mm_cons insA_ok (by decide) mm_nil))))) [67] [] ex_nil (T:=TT) Tryd.func18 rfl Tryd.ntmps18 (by rw [Tryd.results18]) rfl rfl tt gs_nil (ds_cons (iRoutesOk_ok pb) (ds_cons (iRtOk_ok pb) (ds_cons copyD_ok ds_nil) (wp_inh pb)) (wp_inh pb)) ?_
 intro args c r h hc
 simp only [dDoDI,gDoD] at h
 split at h
 rotate_left
 ·cases h
 split at h
 rotate_left
 ·cases h
 rename_i t1 els t2 e1 t3 e2 _ _ _ l D T hrt1 hkr1 hrt2
 obtain rfl:=rtsL_eq hrt1
 obtain rfl:=krL_eq hkr1
 obtain rfl:=rtsL_eq hrt2
 obtain ⟨rfl,rfl⟩:=Prod.mk.inj (Option.some.inj h)
 refine ⟨by simp,fun k E hE Q hQ=>?_⟩
 obtain ⟨hcl,hDl,hcT⟩:=hc
 have hll:=hcl.1
 have hTl:=hcT.1
 refine Aw_st hE [0,3] [3,8,60,118,768,818] fun K hK=>?_
 simp only [go_sem,seval]
 refine hK _ ?_;clear hK K
 refine Aw_sq fun B1 hB1 hR1 hX1=>?_
 cases hok:routesOk l with
 | false =>
  have hd:deltaDo l D T=none:=by unfold deltaDo;rw [hok];rfl
  refine Aw_st hE [0,3,16] [3,8,60,118,768,818] fun K hK=>?_
  simp only [go_sem,seval,hok]
  refine ⟨hcl,hK _ (Aw_yes rfl ?_)⟩
  refine Aw_st hE [4,5] [3,8,60,118,768,818] fun K hK=>?_
  simp only [go_sem,seval]
  refine hK _ (Aw_ret (hR1 _ (hQ _ ?_)))
  simp only [go_sem,seval,hd,resD]
 | true =>
 have hd:deltaDo l D T=(dropL l D).bind fun m=>tellL m T:=by unfold deltaDo;rw [hok];rfl
 rw [hd] at hQ
 obtain ⟨hl12,hokl,hs⟩:=routesOk_iff.1 hok
 refine Aw_st hE [0,3,16] [3,8,60,118,768,818] fun K hK=>?_
 simp only [go_sem,seval,hok]
 refine ⟨hcl,hK _ (Aw_no rfl (Aw_skip (hB1 _ ?_)))⟩
 refine Aw_st hE [3,6] [3,8,60,118,768,818] fun K hK=>?_
 simp only [go_sem,seval,cRs_mvn]
 have hmain:∀ o st,oL o=l→oC o→Le st ⟨71,[(3,.loc 3 0),(6,oA o)],(3,[.sl none (krows D),.sl none (rrows T)])::oM o,k⟩→K st:=by
  intro o0 st hol hoc hle
  refine hK _ (Aw.leE (Le_E hle) ?_)
  clear hle st hK K
  refine Aw_sqJ (fun o=>⟨71,[(3,.loc 3 0),(6,oA o)],(3,[.sl none (krows D),.sl none (rrows T)])::oM o,k⟩) (fun o=>dropL l D=some (oL o)∧sortR (oL o)∧(oL o).length≤12∧(∀ r ∈ oL o,okR r=true)∧(∀ r ∈ oL o,smallR r)∧oC o) (fun o ho=>?_) fun B3 hB3 hR3 hX3=>?_
  ·obtain ⟨ho1,ho2,ho3,ho4,ho5,ho6⟩:=ho
   rw [ho1] at hQ
   simp only [Option.bind_some] at hQ
   obtain ⟨b0,hb0⟩:∃ b,b=oL o:=⟨_,rfl⟩
   rw [← hb0] at hQ
   refine Aw_sq fun B12 hB12 hR12 hX12=>?_
   refine Aw_sqJ (fun o'=>dd2 T k 0 o') (fun o'=>oL o'=oL o∧oC o') (fun o' ho'=>?_) fun B13 hB13 hR13 hX13=>?_
   ·refine Aw_bk fun B14 hN14 hE14 hR14 hX14=>?_
    refine Aw_lp (fun i:Nat × Option (List Rt × Nat)=>dd2 T k i.1 i.2) (fun i=>i.1≤T.length∧tellL b0 T=tellL (oL i.2) (T.drop i.1)∧sortR (oL i.2)∧(oL i.2).length≤12∧(∀ r ∈ oL i.2,okR r=true)∧(∀ r ∈ oL i.2,smallR r)∧oC i.2) (fun i=>T.length - i.1) (0,o') (Le.refl _) ⟨by simp,by rw [hb0,ho'.1];rfl,by rw [ho'.1];exact ho2,by rw [ho'.1];exact ho3,by rw [ho'.1];exact ho4,by rw [ho'.1];exact ho5,ho'.2⟩ fun i hi B15 hN15 hR15 hX15=>?_
    obtain ⟨i,o⟩:=i
    obtain ⟨hi1,hi2,hi3,hi4,hi5,hi6,hi7⟩:=hi
    simp only at hi1 hi2 hi3 hi4 hi5 hi6 hi7
    obtain rfl | ⟨m,c,rfl⟩:o=none∨∃ m c,o=some (m,c):=by
     rcases o with _ | ⟨m,c⟩
     ·exact .inl rfl
     ·exact .inr ⟨m,c,rfl⟩
    ·simp only [dd2,oA,oM]
     refine Aw_st hE [6,38,39,40,41] [3,8,60,118,768,818] fun K hK=>?_
     simp only [go_sem,seval]
     refine hK _ ?_;clear hK K
     refine Aw_sq fun B16 hB16 hR16 hX16=>?_
     refine Aw_cond rfl (fun hc16=>?_) (fun hc16=>?_)
     ·simp only [dte] at hc16
      have hil:i < T.length:=by omega
      have hg:=rrows_at T i hil
      have hxs:=hcT.2 _ (List.getElem_mem hil)
      rw [List.drop_eq_getElem_cons hil] at hi2
      generalize T[i]=x at hg hi2 hxs
      obtain ⟨xf,xb,xp,xk,xm⟩:=x
      simp only [tellL,oL] at hi2
      have hxs':xp.length≤1000∧xm.length≤900:=hxs
      have hxl:xp.length≤4294967296∧xm.length≤4294967296:=by omega
      have hxl2:xp.length≤2000000∧xm.length≤2000000:=by omega
      refine Aw_skip (hB16 _ ?_)
      refine Aw_sq fun B17 hB17 hR17 hX17=>?_
      refine Aw_bk fun B18 hN18 hE18 hR18 hX18=>?_
      refine Aw_st hE [6,11,38,39,40] [3,8,11,60,118,768,818] fun K hK=>?_
      simp only [go_sem,seval,hg]
      repeat refine sd0 ?_
      refine hK _ ?_;clear hK K
      refine Aw_sq fun B19 hB19 hR19 hX19=>?_
      cases hro:rtOk xf xb xp xk xm with
      | false =>
       have hz:tellL b0 T=none:=by rw [hi2,if_neg (show ¬ okR ⟨xf,xb,xp,xk,xm⟩=true from fun e=>by have e':rtOk xf xb xp xk xm=true:=e;rw [hro] at e';cases e')]
       rw [hz] at hQ
       refine Aw_st hE [6,11,38,39,40,46] [3,8,11,60,118,768,818] fun K hK=>?_
       simp only [go_sem,seval,hro]
       refine ⟨hxl,hK _ (Aw_yes rfl ?_)⟩
       refine Aw_st hE [4,5] [3,8,60,118,768,818] fun K hK=>?_
       simp only [go_sem,seval]
       refine hK _ (Aw_ret (hR19 _ (hR18 _ (hR17 _ (hR15 _ (hR14 _ (hR12 _ (hQ _ ?_))))))))
       simp only [go_sem,seval,resD]
      | true =>
       have hrr:rngOk xf xb=true:=rtOk_r hro
       rw [if_pos (show okR ⟨xf,xb,xp,xk,xm⟩=true from hro)] at hi2
       refine Aw_st hE [6,11,38,39,40,46] [3,8,11,60,118,768,818] fun K hK=>?_
       simp only [go_sem,seval,hro]
       refine ⟨hxl,hK _ (Aw_no rfl (Aw_skip (hB19 _ ?_)))⟩
       refine Aw_st hE [6,11,12,13,38,39,40] [3,8,11,60,118,768,818] fun K hK=>?_
       simp only [go_sem,seval]
       refine ⟨by decide,two_pre0 (d:=dSpot) (r:=.tup [iv (0:Nat),bv false]) rfl ⟨⟨by simp,List.Pairwise.nil⟩,(fun r hr=>by cases hr),hrr⟩,two_post0 (d:=dSpot) (r:=.tup [iv (0:Nat),bv false]) (c:=(([]:List Rt).length≤1000∧sortR [])∧rngsOk []∧rngOk xf xb=true) rfl ?_⟩
       simp only [go_sem,seval]
       refine hK _ ?_;clear hK K
       refine Aw_sq fun B20 hB20 hR20 hX20=>?_
       refine Aw_st hE [6,11,12,38,39,40,54] [3,8,11,60,118,768,818] fun K hK=>?_
       simp only [go_sem,seval]
       refine hK _ (Aw_no rfl (Aw_skip (hB20 _ ?_)))
       refine Aw_sq fun B21 hB21 hR21 hX21=>?_
       refine Aw_st hE [6,11,12,38,39,40,62] [3,8,11,60,118,768,818] fun K hK=>?_
       simp only [go_sem,seval]
       refine hK _ (Aw_no (by rfl) (Aw_skip (hB21 _ ?_)))
       refine Aw_tx hE [6,38,39,40] [3,8,60,118,768,818] fun K hK=>?_
       simp only [go_sem,seval,rcs_flat,rcs_leaf,rcs_strip]
       refine ⟨hxl2,by decide,(insA_preN ⟨xf,xb,xp,xk,xm⟩).mpr trivial,insA_postN ⟨xf,xb,xp,xk,xm⟩ _ fun c' hc' b=>?_⟩
       simp only [go_sem,seval,rcs,cRs_nt,cRs_stripF,cRs_mvn,cRs_frz,cRs_strip]
       have hi2':tellL b0 T=tellL [⟨xf,xb,xp,xk,xm⟩] (T.drop (i + 1)):=hi2.trans (if_pos (show (putR ([]:List Rt) ⟨xf,xb,xp,xk,xm⟩).length≤12 from by simp [putR]))
       refine hK _ (hN18 _ (hB17 _ ?_))
       refine Aw_tx hE [6,38,39,40] [3,8,60,118,768,818] fun K hK=>?_
       simp only [go_sem,seval]
       repeat refine sd0 ?_
       refine hK _ (hN15 (i + 1,some ([⟨xf,xb,xp,xk,xm⟩],c')) _ ⟨by simp only;omega,hi2',by simp [oL,sortR],by simp [oL],by simp only [oL,List.mem_singleton];rintro r rfl;exact hro,by simp only [oL,List.mem_singleton];rintro r rfl;exact hxs,hc'⟩ (by simp only;omega) ?_)
       refine (Le_swb _ 768 60 (by decide) (by decide)).trans ?_
       simp only [St.swb,swbσ,swbm,AV.swb,AV.swbAll,swp,swbAll_app,swbAll_jk,rcs_swb,cRs_swb,Nat.reduceEqDiff,if_true,if_false,reduceIte,dd2,oA,oM]
       exact Le_ks [6,38,39,40] [60]
     ·simp only [dfn] at hc16
      have hz:tellL b0 T=some []:=by rw [hi2,List.drop_eq_nil_of_le (by omega)];rfl
      rw [hz] at hQ
      refine Aw_exit (hX16 _ _ (hX15 _ _ (hE14 _ (hB12 _ ?_))))
      refine Aw_st hE [4,5] [3,8,60,118,768,818] fun K hK=>?_
      simp only [go_sem,seval]
      refine hK _ (Aw_ret (hQ _ ?_))
      simp only [go_sem,seval,resD]
    ·simp only [dd2,oA,oM]
     simp only [oL,oC] at hi2 hi3 hi4 hi5 hi6 hi7
     have hjl:(cRs m++List.replicate ((c - m.length) * 5) AV.junk).length=c * 5:=by rw [List.length_append,cRs_len,List.length_replicate];omega
     refine Aw_st hE [6,38,39,40,41] [3,8,60,118,768,818] fun K hK=>?_
     simp only [go_sem,seval,cRs_nt,cRs_stripF]
     refine hK _ ?_;clear hK K
     refine Aw_sq fun B16 hB16 hR16 hX16=>?_
     refine Aw_cond rfl (fun hc16=>?_) (fun hc16=>?_)
     ·simp only [dte] at hc16
      have hil:i < T.length:=by omega
      have hg:=rrows_at T i hil
      have hxs:=hcT.2 _ (List.getElem_mem hil)
      rw [List.drop_eq_getElem_cons hil] at hi2
      generalize T[i]=x at hg hi2 hxs
      obtain ⟨xf,xb,xp,xk,xm⟩:=x
      simp only [tellL] at hi2
      have hxs':xp.length≤1000∧xm.length≤900:=hxs
      have hxl:xp.length≤4294967296∧xm.length≤4294967296:=by omega
      have hxl2:xp.length≤2000000∧xm.length≤2000000:=by omega
      refine Aw_skip (hB16 _ ?_)
      refine Aw_sq fun B17 hB17 hR17 hX17=>?_
      refine Aw_bk fun B18 hN18 hE18 hR18 hX18=>?_
      refine Aw_st hE [6,11,38,39,40] [3,8,11,60,118,768,818] fun K hK=>?_
      simp only [go_sem,seval,hg,cRs_nt,cRs_stripF]
      repeat refine sd0 ?_
      refine hK _ ?_;clear hK K
      refine Aw_sq fun B19 hB19 hR19 hX19=>?_
      cases hro:rtOk xf xb xp xk xm with
      | false =>
       have hz:tellL b0 T=none:=by rw [hi2,if_neg (show ¬ okR ⟨xf,xb,xp,xk,xm⟩=true from fun e=>by have e':rtOk xf xb xp xk xm=true:=e;rw [hro] at e';cases e')]
       rw [hz] at hQ
       refine Aw_st hE [6,11,38,39,40,46] [3,8,11,60,118,768,818] fun K hK=>?_
       simp only [go_sem,seval,hro,cRs_nt,cRs_stripF]
       refine ⟨hxl,hK _ (Aw_yes rfl ?_)⟩
       refine Aw_st hE [4,5] [3,8,60,118,768,818] fun K hK=>?_
       simp only [go_sem,seval,cRs_nt,cRs_stripF]
       refine hK _ (Aw_ret (hR19 _ (hR18 _ (hR17 _ (hR15 _ (hR14 _ (hR12 _ (hQ _ ?_))))))))
       simp only [go_sem,seval,resD]
      | true =>
       have hrr:rngOk xf xb=true:=rtOk_r hro
       have hro':okR ⟨xf,xb,xp,xk,xm⟩=true:=hro
       rw [if_pos hro'] at hi2
       have hrs:rngsOk m:=fun r hr=>rtOk_r (show rtOk r.f r.b r.path r.like r.marks=true from hi5 r hr)
       have hps:=sort_put hi3 ⟨xf,xb,xp,xk,xm⟩
       have hpm:∀ r ∈ putR m ⟨xf,xb,xp,xk,xm⟩,smallR r:=fun r hr=>by
        rcases mem_put hr with rfl | hr
        ·exact hxs
        ·exact hi6 r hr
       have hpo:∀ r ∈ putR m ⟨xf,xb,xp,xk,xm⟩,okR r=true:=fun r hr=>by
        rcases mem_put hr with rfl | hr
        ·exact hro'
        ·exact hi5 r hr
       refine Aw_st hE [6,11,38,39,40,46] [3,8,11,60,118,768,818] fun K hK=>?_
       simp only [go_sem,seval,hro,cRs_nt,cRs_stripF]
       refine ⟨hxl,hK _ (Aw_no rfl (Aw_skip (hB19 _ ?_)))⟩
       refine Aw_st hE [6,11,12,13,38,39,40] [3,8,11,60,118,768,818] fun K hK=>?_
       simp only [go_sem,seval,cRs_nt,cRs_stripF,cRs_mvn,cRs_frz,cRs_strip]
       refine ⟨by decide,two_pre1 (d:=dSpot) (viewV m c _ _) (spV m c xf xb) ⟨⟨by omega,hi3⟩,hrs,hrr⟩,two_post1 (d:=dSpot) (viewV m c _ _) (spV m c xf xb) (fun z=>pl_vv _ _ z) ?_⟩
       simp only [go_sem,seval,cRs_nt,cRs_stripF,cRs_mvn,cRs_frz,cRs_strip]
       refine hK _ ?_;clear hK K
       refine Aw_sq fun B20 hB20 hR20 hX20=>?_
       rcases spot_look (f:=xf) (b:=xb) hi3 with ⟨h1,h2⟩ | ⟨hsl,h1,h2⟩
       ·have hp:=put_no (p:=xp) (k:=xk) (m:=xm) hi3 h1
        have hsle:=spotN_le xf xb m
        rw [h1]
        refine Aw_st hE [6,11,12,38,39,40,54] [3,8,11,60,118,768,818] fun K hK=>?_
        simp only [go_sem,seval,cRs_nt,cRs_stripF]
        refine hK _ (Aw_no rfl (Aw_skip (hB20 _ ?_)))
        refine Aw_sq fun B21 hB21 hR21 hX21=>?_
        refine Aw_st hE [6,11,12,38,39,40,62] [3,8,11,60,118,768,818] fun K hK=>?_
        simp only [go_sem,seval,cRs_nt,cRs_stripF]
        refine hK _ (Aw_cond rfl (fun hc22=>?_) (fun hc22=>?_))
        ·simp only [dte] at hc22
         have hz:tellL b0 T=none:=by rw [hi2,if_neg (by rw [hp,insR_len _ hsle];omega)]
         rw [hz] at hQ
         refine Aw_st hE [4,5] [3,8,60,118,768,818] fun K hK=>?_
         simp only [go_sem,seval,cRs_nt,cRs_stripF]
         refine hK _ (Aw_ret (hR21 _ (hR18 _ (hR17 _ (hR15 _ (hR14 _ (hR12 _ (hQ _ ?_))))))))
         simp only [go_sem,seval,resD]
        ·simp only [dfn] at hc22
         refine Aw_skip (hB21 _ ?_)
         refine Aw_tx hE [6,38,39,40] [3,8,60,118,768,818] fun K hK=>?_
         simp only [go_sem,seval,rcs_flat,rcs_leaf,rcs_strip,cRs_nt,cRs_stripF,cRs_mvn,cRs_frz,cRs_strip]
         have hil':(putR m ⟨xf,xb,xp,xk,xm⟩).length=m.length + 1:=by rw [hp,insR_len _ hsle]
         rw [if_pos (by omega)] at hi2
         refine ⟨hxl2,by decide,(insA_pre m c (spotN m xf xb) ⟨xf,xb,xp,xk,xm⟩).mpr ⟨⟨hsle,hi7⟩,by omega⟩,insA_post m c (spotN m xf xb) ⟨xf,xb,xp,xk,xm⟩ _ fun c' hc'=>⟨fun b=>?_,fun a b=>?_,fun a b=>?_⟩⟩
         all_goals
          simp only [go_sem,seval,rcs,cRs_nt,cRs_stripF,cRs_mvn,cRs_frz,cRs_strip]
          rw [← hp,← hil']
          have hnext:=hN15 (i + 1,some (putR m ⟨xf,xb,xp,xk,xm⟩,c'))
          refine hK _ (hN18 _ (hB17 _ ?_))
          refine Aw_tx hE [6,38,39,40] [3,8,60,118,768,818] fun K hK=>?_
          simp only [go_sem,seval,cRs_nt,cRs_stripF,cRs_mvn,cRs_frz,cRs_strip]
          repeat refine sd0 ?_
          refine hK _ (hnext _ ⟨by simp only;omega,hi2,hps,by simp only [oL];omega,hpo,hpm,by simp only [oC];omega⟩ (by simp only;omega) ?_)
         ·exact Le_ks [6,38,39,40] [60]
         ·refine (Le_swb _ 768 60 (by decide) (by decide)).trans ?_
          simp only [St.swb,swbσ,swbm,AV.swb,AV.swbAll,swp,swbAll_app,swbAll_jk,rcs_swb,cRs_swb,Nat.reduceEqDiff,if_true,if_false,reduceIte,dd2,oA,oM]
          exact Le_ks [6,38,39,40] [60]
         ·refine (Le_swb _ 818 60 (by decide) (by decide)).trans ?_
          simp only [St.swb,swbσ,swbm,AV.swb,AV.swbAll,swp,swbAll_app,swbAll_jk,rcs_swb,cRs_swb,Nat.reduceEqDiff,if_true,if_false,reduceIte,dd2,oA,oM]
          exact Le_ks [6,38,39,40] [60]
       ·have hp:=put_yes (p:=xp) (k:=xk) (m:=xm) hi3 hsl h2
        rw [h1]
        refine Aw_st hE [6,11,12,38,39,40,54] [3,8,11,60,118,768,818] fun K hK=>?_
        simp only [go_sem,seval,cRs_nt,cRs_stripF]
        refine hK _ (Aw_yes rfl ?_)
        refine Aw_st hE [6,38,39,40] [3,8,60,118,768,818] fun K hK=>?_
        simp only [go_sem,seval,cRs_nt,cRs_stripF,cRs_mvn,cRs_frz,cRs_strip]
        have hil':(putR m ⟨xf,xb,xp,xk,xm⟩).length=m.length:=by rw [hp,List.length_set]
        rw [if_pos (by omega)] at hi2
        refine ⟨hxl2,⟨by omega,by omega⟩,by omega,?_⟩
        rw [cRs_set5 hsl ⟨xf,xb,xp,xk,xm⟩,← hp,← hil']
        have hnext:=hN15 (i + 1,some (putR m ⟨xf,xb,xp,xk,xm⟩,c))
        refine hK _ (Aw_exit (hX20 _ _ (hE18 _ (hB17 _ ?_))))
        refine Aw_tx hE [6,38,39,40] [3,8,60,118,768,818] fun K hK=>?_
        simp only [go_sem,seval,cRs_nt,cRs_stripF,cRs_mvn,cRs_frz,cRs_strip]
        repeat refine sd0 ?_
        refine hK _ (hnext _ ⟨by simp only;omega,hi2,hps,by simp only [oL];omega,hpo,hpm,by simp only [oC];omega⟩ (by simp only;omega) ?_)
        exact Le_ks [6,38,39,40] [60]
     ·simp only [dfn] at hc16
      have hz:tellL b0 T=some m:=by rw [hi2,List.drop_eq_nil_of_le (by omega)];rfl
      rw [hz] at hQ
      refine Aw_exit (hX16 _ _ (hX15 _ _ (hE14 _ (hB12 _ ?_))))
      refine Aw_fR hE rfl 60 m rfl ?_
      simp only [go_sem,seval,rD_len,frz_rrows]
      refine Aw_st hE [4,5] [3,8,60,118,768,818] fun K hK=>?_
      simp only [go_sem,seval]
      refine hK _ (Aw_ret (hQ _ ?_))
      simp only [go_sem,seval,resD]
   ·obtain rfl | ⟨m,c,rfl⟩:o=none∨∃ m c,o=some (m,c):=by
     rcases o with _ | ⟨m,c⟩
     ·exact .inl rfl
     ·exact .inr ⟨m,c,rfl⟩
    ·simp only [oA,oM]
     refine Aw_tx hE [6,38,39,40] [3,8,60,118,768,818] fun K hK=>?_
     simp only [go_sem,seval]
     refine hK _ (hB13 none _ ⟨rfl,trivial⟩ (Le_E (Le_ks [6,38,39,40] [])))
    ·simp only [oA,oM]
     refine Aw_tx hE [6,38,39,40] [3,8,60,118,768,818] fun K hK=>?_
     simp only [go_sem,seval,cRs_nt,cRs_stripF]
     refine hK _ (hB13 (some (m,c)) _ ⟨rfl,ho6⟩ (Le_E (Le_ks [6,38,39,40] [60])))
  ·refine Aw_sqJ (fun o=>dd1 D T k 0 o) (fun o=>oL o=l∧oC o) (fun o ho=>?_) fun B4 hB4 hR4 hX4=>?_
   ·refine Aw_bk fun B5 hN5 hE5 hR5 hX5=>?_
    refine Aw_lp (fun i:Nat × Option (List Rt × Nat)=>dd1 D T k i.1 i.2) (fun i=>i.1≤D.length∧dropL l D=dropL (oL i.2) (D.drop i.1)∧sortR (oL i.2)∧(oL i.2).length≤12∧(∀ r ∈ oL i.2,okR r=true)∧(∀ r ∈ oL i.2,smallR r)∧oC i.2) (fun i=>D.length - i.1) (0,o) (Le.refl _) ⟨by simp,by rw [ho.1];rfl,by rw [ho.1];exact hs,by rw [ho.1];exact hl12,by rw [ho.1];exact hokl,by rw [ho.1];exact hcl.2,ho.2⟩ fun i hi B6 hN6 hR6 hX6=>?_
    obtain ⟨i,o⟩:=i
    obtain ⟨hi1,hi2,hi3,hi4,hi5,hi6,hi7⟩:=hi
    simp only at hi1 hi2 hi3 hi4 hi5 hi6 hi7
    cases o with
    | none =>
     simp only [dd1,oA,oM]
     refine Aw_st hE [3,6,20,21,22,23] [3,8,60,118,768,818] fun K hK=>?_
     simp only [go_sem,seval]
     refine hK _ ?_;clear hK K
     refine Aw_sq fun B7 hB7 hR7 hX7=>?_
     refine Aw_cond rfl (fun hc7=>?_) (fun hc7=>?_)
     ·simp only [dte] at hc7
      have hil:i < D.length:=by omega
      have hg:=krows_get D i hil
      rw [List.drop_eq_getElem_cons hil] at hi2
      generalize D[i]=x at hg hi2
      obtain ⟨xf,xb⟩:=x
      simp only [kR] at hg
      simp only [dropL,oL] at hi2
      refine Aw_skip (hB7 _ ?_)
      refine Aw_sq fun B8 hB8 hR8 hX8=>?_
      refine Aw_bk fun B9 hN9 hE9 hR9 hX9=>?_
      refine Aw_st hE [3,6,8,20,21,22] [3,8,60,118,768,818] fun K hK=>?_
      simp only [go_sem,seval,hg]
      repeat refine sd0 ?_
      refine hK _ ?_;clear hK K
      refine Aw_st hE [3,6,9,20,21,22] [3,8,60,118,768,818] fun K hK=>?_
      simp only [go_sem,seval]
      refine ⟨by decide,two_pre0 (d:=dIdR) (r:=iv (-1)) rfl (by simp),two_post0 (d:=dIdR) (r:=iv (-1)) (c:=([]:List Rt).length≤1000000) rfl ?_⟩
      refine hK _ ?_;clear hK K
      refine Aw_sq fun B10 hB10 hR10 hX10=>?_
      refine Aw_st hE [3,6,9,20,21,22,30] [3,8,60,118,768,818] fun K hK=>?_
      simp only [go_sem,seval]
      refine hK _ (Aw_yes rfl ?_)
      refine Aw_st hE [4,5] [3,8,60,118,768,818] fun K hK=>?_
      simp only [go_sem,seval]
      have hz:dropL l D=none:=hi2
      rw [hz] at hQ
      refine hK _ (Aw_ret (hR10 _ (hR9 _ (hR8 _ (hR6 _ (hR5 _ (hR3 _ (hQ _ ?_))))))))
      simp only [go_sem,seval,resD,Option.bind_none]
     ·simp only [dfn] at hc7
      refine Aw_exit (hX7 _ _ (hX6 _ _ (hE5 _ (hB3 none _ ⟨by rw [hi2,List.drop_eq_nil_of_le (by omega)];rfl,hi3,hi4,hi5,hi6,hi7⟩ (Le_E (Le_ks [3,6] [3]))))))
    | some mc =>
     obtain ⟨m,c⟩:=mc
     simp only [dd1,oA,oM]
     simp only [oL,oC] at hi2 hi3 hi4 hi5 hi6 hi7
     refine Aw_st hE [3,6,20,21,22,23] [3,8,60,118,768,818] fun K hK=>?_
     simp only [go_sem,seval,cRs_nt,cRs_stripF]
     refine hK _ ?_;clear hK K
     refine Aw_sq fun B7 hB7 hR7 hX7=>?_
     refine Aw_cond rfl (fun hc7=>?_) (fun hc7=>?_)
     ·simp only [dte] at hc7
      have hil:i < D.length:=by omega
      have hg:=krows_get D i hil
      rw [List.drop_eq_getElem_cons hil] at hi2
      generalize D[i]=x at hg hi2
      obtain ⟨xf,xb⟩:=x
      simp only [kR] at hg
      simp only [dropL] at hi2
      refine Aw_skip (hB7 _ ?_)
      refine Aw_sq fun B8 hB8 hR8 hX8=>?_
      refine Aw_bk fun B9 hN9 hE9 hR9 hX9=>?_
      refine Aw_st hE [3,6,8,20,21,22] [3,8,60,118,768,818] fun K hK=>?_
      simp only [go_sem,seval,hg,cRs_nt,cRs_stripF]
      repeat refine sd0 ?_
      refine hK _ ?_;clear hK K
      refine Aw_st hE [3,6,9,20,21,22] [3,8,60,118,768,818] fun K hK=>?_
      simp only [go_sem,seval,cRs_nt,cRs_stripF,cRs_mvn,cRs_frz,cRs_strip]
      refine ⟨by decide,two_pre1 (d:=dIdR) (viewV m c _ _) (idV m c xf xb) (by omega),two_post1 (d:=dIdR) (viewV m c _ _) (idV m c xf xb) (fun z=>pl_v _ z) ?_⟩
      simp only [go_sem,seval,cRs_nt,cRs_stripF,cRs_mvn,cRs_frz,cRs_strip]
      refine hK _ ?_;clear hK K
      refine Aw_sq fun B10 hB10 hR10 hX10=>?_
      rcases atR_look m xf xb with ⟨h1,h2⟩ | ⟨j,hj,h1,h2⟩
      ·have hz:dropL l D=none:=by rw [hi2,h2];rfl
       rw [hz] at hQ
       rw [h1]
       refine Aw_st hE [3,6,9,20,21,22,30] [3,8,60,118,768,818] fun K hK=>?_
       simp only [go_sem,seval,cRs_nt,cRs_stripF]
       refine hK _ (Aw_yes rfl ?_)
       refine Aw_st hE [4,5] [3,8,60,118,768,818] fun K hK=>?_
       simp only [go_sem,seval,cRs_nt,cRs_stripF]
       refine hK _ (Aw_ret (hR10 _ (hR9 _ (hR8 _ (hR6 _ (hR5 _ (hR3 _ (hQ _ ?_))))))))
       simp only [go_sem,seval,resD,Option.bind_none]
      ·have hz:dropL l D=dropL (dropK m (xf,xb)) (D.drop (i + 1)):=by rw [hi2,h2];rfl
       have hkj:key m[j]=(xf,xb):=(look_some h2).2
       have hcut:=atR_drop hi3 hj hkj
       have hsd:=sort_drop hi3 (xf,xb)
       have hmd:∀ r ∈ dropK m (xf,xb),r ∈ m:=fun r hr=>(List.mem_filter.1 hr).1
       have hdl:(dropK m (xf,xb)).length=m.length - 1:=by rw [← hcut,List.length_append,List.length_take,List.length_drop];omega
       have hdj:m.eraseIdx j=dropK m (xf,xb):=by rw [← hcut,List.eraseIdx_eq_take_drop_succ]
       have dj:decide ((j:Int) < 0)=false:=decide_eq_false (by omega)
       rw [h1]
       refine Aw_st hE [3,6,9,20,21,22,30] [3,8,60,118,768,818] fun K hK=>?_
       simp only [go_sem,seval,dj,cRs_nt,cRs_stripF]
       refine hK _ (Aw_no rfl (Aw_skip (hB10 _ ?_)))
       refine Aw_tx hE [3,6,20,21,22] [3,8,60,118,768,818] fun K hK=>?_
       simp only [go_sem,seval,cRs_nt,cRs_stripF,cRs_mvn,cRs_frz,cRs_strip]
       refine ⟨by omega,by decide,⟨m,c,j,rfl,rfl,⟨hj,hi7⟩,by omega⟩,fun r m2 hp=>?_⟩
       obtain ⟨rfl,rfl⟩:=hp m c j rfl rfl
       simp only [go_sem,seval,cRs_nt,cRs_stripF,cRs_mvn,cRs_frz,cRs_strip]
       rw [hdj]
       refine hK _ (hN9 _ (hB8 _ ?_))
       refine Aw_tx hE [3,6,20,21,22] [3,8,60,118,768,818] fun K hK=>?_
       simp only [go_sem,seval,cRs_nt,cRs_stripF,cRs_mvn,cRs_frz,cRs_strip]
       repeat refine sd0 ?_
       refine hK _ (hN6 (i + 1,some (dropK m (xf,xb),c)) _ ⟨by simp only;omega,hz,hsd,by simp only [oL];omega,fun r hr=>hi5 r (hmd r hr),fun r hr=>hi6 r (hmd r hr),by simp only [oC];omega⟩ (by simp only;omega) ?_)
       simp only [dd1,oA,oM]
       rw [← hdl]
       exact Le.refl _
     ·simp only [dfn] at hc7
      refine Aw_exit (hX7 _ _ (hX6 _ _ (hE5 _ (hB3 (some (m,c)) _ ⟨by rw [hi2,List.drop_eq_nil_of_le (by omega)];rfl,hi3,hi4,hi5,hi6,hi7⟩ (Le_E (Le_ks [3,6] [3,60]))))))
   ·obtain rfl | ⟨m,c,rfl⟩:o0=none∨∃ m c,o0=some (m,c):=by
     rcases o0 with _ | ⟨m,c⟩
     ·exact .inl rfl
     ·exact .inr ⟨m,c,rfl⟩
    ·simp only [oA,oM]
     refine Aw_tx hE [3,6,20,21,22] [3,8,60,118,768,818] fun K hK=>?_
     simp only [go_sem,seval]
     refine hK _ (hB4 none _ ⟨hol,hoc⟩ (Le_E (Le.refl _)))
    ·simp only [oA,oM]
     refine Aw_tx hE [3,6,20,21,22] [3,8,60,118,768,818] fun K hK=>?_
     simp only [go_sem,seval,cRs_nt,cRs_stripF]
     refine hK _ (hB4 (some (m,c)) _ ⟨hol,hoc⟩ (Le_E (Le.refl _)))
 refine ⟨by decide,hcl,fun e=>hmain none _ e.symm trivial (Le_wk (Nat.le_refl _) ⟨rfl,rfl,trivial⟩ ⟨⟨rfl,rfl,trivial⟩,trivial⟩),fun e cap hcap=>hmain (some (l,cap)) _ rfl hcap ?_⟩
 refine (Le_swb _ 118 60 (by decide) (by decide)).trans ?_
 simp only [St.swb,swbσ,swbm,AV.swb,AV.swbAll,swp,swbAll_app,swbAll_jk,rcs_swb,cRs_swb,Nat.reduceEqDiff,if_true,if_false,reduceIte,oA,oM]
 exact Le_wk (Nat.le_refl _) ⟨rfl,rfl,trivial⟩ ⟨⟨rfl,rfl,trivial⟩,cRs_le (jk_le _) l,trivial⟩
theorem dropsK (a b:List Rt) (ha:routesOk a=true) (hb:routesOk b=true):dropsB a b=dropsF a b:=by unfold dropsB;rw [ha,hb];rfl
theorem tellsK (a b:List Rt) (ha:routesOk a=true) (hb:routesOk b=true):tellsB a b=tellsF a b:=by unfold tellsB;rw [ha,hb];rfl
end Go.Proofs.W
end
