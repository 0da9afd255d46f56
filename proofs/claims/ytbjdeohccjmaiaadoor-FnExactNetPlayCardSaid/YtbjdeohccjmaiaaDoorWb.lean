/- YtbjdeohccjmaiaaDoorWb: part of the proof that laws hold, for every input that the row speaks of (no condition of ours). -/
import Derived.Test.YtbjdeohccjmaiaaDoorWa
import Derived.Test.YtbjdeohccjmaiaaDoorEc
import Derived.Test.YtbjdeohccjmaiaaDoorEd
set_option linter.unusedVariables false
set_option linter.unusedSimpArgs false
section
namespace Go.Proofs.W
open Go Go.Eng Go.RowKit
set_option maxRecDepth 100000
def prt (R:List (List Int)) (i k:Nat) (a b:Int):Int:=if (1≤a∧1≤b∧b≤R.length)∧(a≤i∨(a=(i:Int) + 1∧b≤k)) then ofR R a b else 0
def entI (R:List (List Int)) (t:List (Value × Value)):Prop:=∀ p ∈ t,∃ a b:Int,(hI R.length a∧hI R.length b)∧ofR R a b≠0∧p=(kc a b,.int .i64 (ofR R a b))
def tabI (R:List (List Int)) (i k:Nat) (t:List (Value × Value)):Prop:=entI R t∧∀ a b,lkF t a b=prt R i k a b
theorem entI_mp {R:List (List Int)} {t:List (Value × Value)} (h:entI R t):mpI t:=fun p hp=>by
 obtain ⟨a,b,_,_,e⟩:=h p hp
 exact ⟨a,b,_,e⟩
theorem mput_sub {a b x:Int}:∀ {t:List (Value × Value)} {p:Value × Value},p ∈ mput 1 (kc a b) (.int .i64 x) t→p=(kc a b,.int .i64 x)∨p ∈ t
 | [],p,h=>.inl (List.mem_singleton.1 h)
 | q::t,p,h=>by
  simp only [mput] at h
  split at h
  ·rcases List.mem_cons.1 h with h | h
   ·exact .inl h
   ·exact .inr (List.mem_cons_of_mem _ h)
  ·rcases List.mem_cons.1 h with h | h
   ·exact .inr (by rw [h];simp)
   ·exact (mput_sub h).imp id fun h=>List.mem_cons_of_mem _ h
theorem tabI_zero (R:List (List Int)):tabI R 0 0 []:=by
 refine ⟨fun p hp=>(by cases hp),fun a b=>?_⟩
 unfold prt
 rw [if_neg (by omega)];rfl
theorem tabI_put {R:List (List Int)} {i k:Nat} {t:List (Value × Value)} (h:tabI R i k t) (hi:i < R.length) (hk:k < R.length) {x:Int} (hx:x=(R.getD i []).getD k 0) (h0:x≠0) :
  tabI R i (k + 1) (mput 1 (kc ((i:Int) + 1) ((k:Int) + 1)) (.int .i64 x) t):=by
 have hx:x=ofR R ((i:Int) + 1) ((k:Int) + 1):=by rw [ofR_nat];exact hx
 refine ⟨fun p hp=>?_,fun a b=>?_⟩
 ·rcases mput_sub hp with rfl | hp
  ·exact ⟨(i:Int) + 1,(k:Int) + 1,⟨⟨by omega,by omega⟩,⟨by omega,by omega⟩⟩,by rw [← hx];exact h0,by rw [← hx]⟩
  ·exact h.1 p hp
 ·rw [lkF_put (entI_mp h.1),h.2]
  unfold prt
  by_cases e:a=(i:Int) + 1∧b=(k:Int) + 1
  ·obtain ⟨rfl,rfl⟩:=e
   rw [if_pos ⟨rfl,rfl⟩,if_pos (by omega),hx]
  ·rw [if_neg e]
   by_cases e2:(1≤a∧1≤b∧b≤R.length)∧(a≤i∨(a=(i:Int) + 1∧b≤k))
   ·rw [if_pos e2,if_pos (by omega)]
   ·rw [if_neg e2,if_neg (by omega)]
theorem tabI_skip {R:List (List Int)} {i k:Nat} {t:List (Value × Value)} (h:tabI R i k t) (h0:(R.getD i []).getD k 0=0):tabI R i (k + 1) t:=by
 have hx:ofR R ((i:Int) + 1) ((k:Int) + 1)=0:=by rw [ofR_nat];exact h0
 refine ⟨h.1,fun a b=>?_⟩
 rw [h.2]
 unfold prt
 by_cases e:a=(i:Int) + 1∧b=(k:Int) + 1
 ·obtain ⟨rfl,rfl⟩:=e
  rw [hx];split<;>split<;>rfl
 ·by_cases e2:(1≤a∧1≤b∧b≤R.length)∧(a≤i∨(a=(i:Int) + 1∧b≤k))
  ·rw [if_pos e2,if_pos (by omega)]
  ·rw [if_neg e2,if_neg (by omega)]
theorem tabI_row {R:List (List Int)} {i:Nat} {t:List (Value × Value)} (h:tabI R i R.length t):tabI R (i + 1) 0 t:=by
 refine ⟨h.1,fun a b=>?_⟩
 rw [h.2]
 unfold prt
 by_cases e2:(1≤a∧1≤b∧b≤R.length)∧(a≤i∨(a=(i:Int) + 1∧b≤R.length))
 ·rw [if_pos e2,if_pos (by omega)]
 ·rw [if_neg e2,if_neg (by omega)]
theorem tabI_all {R:List (List Int)} {t:List (Value × Value)} (h:tabI R R.length 0 t) (hsq:∀ i,i < R.length→(R.getD i []).length=R.length):lkF t=ofR R:=by
 funext a b
 rw [h.2]
 unfold prt
 by_cases e:(1≤a∧1≤b∧b≤R.length)∧(a≤(R.length:Int)∨(a=(R.length:Int) + 1∧b≤(0:Nat)))
 ·rw [if_pos e]
 ·rw [if_neg e]
  unfold ofR
  split
  ·rename_i hab
   by_cases ha:a≤R.length
   ·have:=hsq (a - 1).toNat (by omega)
    rw [List.getD_eq_getElem?_getD (l:=R.getD (a - 1).toNat []),List.getElem?_eq_none (by omega)];rfl
   ·rw [List.getD_eq_getElem?_getD (l:=R),List.getElem?_eq_none (by omega)];rfl
  ·rfl
theorem relsOk_E {R:List (List Int)}:relsOk R=true↔(1≤R.length∧R.length≤5)∧(∀ i,i < R.length→(R.getD i []).length=R.length∧∀ k,k < R.length→0≤(R.getD i []).getD k 0∧(R.getD i []).getD k 0≤3)∧
  ∀ a b,hI R.length a→hI R.length b→ofR R a b≠0→a≠b∧ofR R b a=mirr (ofR R a b):=by
 constructor
 ·intro h
  obtain ⟨h1,h2⟩:=relsOk_iffN.1 h
  obtain ⟨_,_,h3⟩:=relsOk_iff.1 h
  exact ⟨h1,fun i hi=>⟨(h2 i hi).1,fun k hk=>((h2 i hi).2 k hk).1⟩,fun a b ha hb h0=>⟨fun e=>h0 ((h3 a b ha hb).2.2 e),(h3 a b ha hb).2.1⟩⟩
 ·rintro ⟨h1,h2,h3⟩
  have hrow:∀ r ∈ R,r.length=R.length:=fun r hr=>by
   obtain ⟨i,hi,rfl⟩:=List.getElem_of_mem hr
   have:=(h2 i hi).1
   rwa [List.getD_eq_getElem?_getD,List.getElem?_eq_getElem hi] at this
  have hrng:∀ a b,hI R.length a→hI R.length b→0≤ofR R a b∧ofR R a b≤3:=fun a b ha hb=>by
   obtain ⟨a1,a2⟩:=ha
   obtain ⟨b1,b2⟩:=hb
   rw [ofR_in R a1 b1]
   exact (h2 _ (by omega)).2 _ (by omega)
  refine relsOk_iff.2 ⟨h1,hrow,fun a b ha hb=>⟨hrng a b ha hb,?_,fun e=>?_⟩⟩
  ·by_cases h0:ofR R a b=0
   ·rw [h0]
    by_cases h9:ofR R b a=0
    ·exact h9
    ·have:=(h3 b a hb ha h9).2
     rw [h0] at this
     have hr:=hrng b a hb ha
     unfold mirr at this
     split at this
     ·cases this
     ·split at this
      ·cases this
      ·exact absurd this.symm h9
   ·exact (h3 a b ha hb h0).2
  ·subst e
   refine Decidable.byContradiction fun h0=>?_
   exact (h3 a a ha hb h0).1 rfl
def rrK (R:List (List Int)) (K:AV→Prop):Prop :=
 (relsOk R=false→K (.tup [.agg [iv 0,.v (.map none)],bv false]))∧(relsOk R=true→∀ t,mpI t→lkF t=ofR R→K (.tup [rAV R.length t,bv true]))
def cRR:Con:={ pre:=fun args=>∃ R,args=[wsl R]∧bigM R,post:=fun args r=>∀ R,args=[wsl R]→∀ K:AV→Prop,rrK R K→K r }
theorem cRR_own:cRR.own=false:=rfl
theorem cRR_draws:cRR.draws=false:=rfl
theorem cRR_cost:cRR.cost=0:=rfl
attribute [go_sem] cRR_own cRR_draws cRR_cost
theorem wsl_inj {a b:List (List Int)} (h:[wsl a]=[wsl b]):a=b:=by
 simp only [List.cons.injEq,AV.sl.injEq,true_and,and_true] at h
 have:=congrArg waysL h
 rw [waysL_rows,waysL_rows] at this
 exact Option.some.inj this
theorem rr_pre (R:List (List Int)):cRR.pre [wsl R]=bigM R:=by
 apply propext
 exact ⟨fun ⟨R',e,h⟩=>by rw [wsl_inj e];exact h,fun h=>⟨R,rfl,h⟩⟩
theorem rr_post (R:List (List Int)) (K:AV→Prop):(∀ r,cRR.post [wsl R] r→K r)=rrK R K:=by
 apply propext
 constructor
 ·intro h
  refine ⟨fun h0=>h _ ?_,fun h1 t ht hl=>h _ ?_⟩
  ·intro R' e K' hK'
   rw [← wsl_inj e] at hK'
   exact hK'.1 h0
  ·intro R' e K' hK'
   rw [← wsl_inj e] at hK'
   exact hK'.2 h1 t ht hl
 ·exact fun h r hr=>hr R rfl K h
attribute [go_sem] rr_pre rr_post rAV
theorem sub_lenN:∀ (l:List Nat) (n:Nat),l.Nodup→(∀ x ∈ l,x < n)→l.length≤n:=fun l n hd hx=>by
 have:=sub_len (l.map fun (x:Nat)=>(x:Int)) ((List.range n).map fun (x:Nat)=>(x:Int)) (List.Pairwise.map _ (fun a b h e=>h (Int.ofNat.inj e)) hd) fun x hx'=>by
  obtain ⟨y,hy,rfl⟩:=List.mem_map.1 hx'
  exact List.mem_map.2 ⟨y,List.mem_range.2 (hx y hy),rfl⟩
 simpa using this
def fineE (R:List (List Int)) (t:List (Value × Value)) (j:Nat):Prop:=∀ a b x:Int,t[j]? = some (kc a b,.int .i64 x)→a≠b∧ofR R b a=mirr x
theorem kc_inj {a b c d:Int} (h:kc a b=kc c d):a=c∧b=d:=by
 unfold kc at h
 simp only [Value.agg.injEq,Array.mk.injEq,List.cons.injEq,Value.int.injEq,true_and,and_true] at h
 exact h
theorem rr_no {R:List (List Int)} (h:relsOk R=true→False):relsOk R=false:=by
 cases e:relsOk R with
 | false=>rfl
 | true=>exact (h e).elim
set_option maxHeartbeats 4000000 in
theorem readRels_ok:Fine Tryd.prog 33 cRR:=by
 refine fine_of (T:=TT) Tryd.func33 rfl Tryd.ntmps33 (by rw [Tryd.results33]) rfl rfl tt gs_nil (ds_cons mirror_ok ds_nil) ?_
 rintro args ⟨R,rfl,hb⟩
 refine ⟨by simp,fun k hk E hE Q hQ=>?_⟩
 obtain ⟨hbn,hbr⟩:=hb
 refine Aw_st hE [0,2] [2,4,9,933,985] fun K hK=>?_
 simp only [go_sem,seval]
 refine hK _ ?_;clear hK K
 refine Aw_st hE [0,2,4] [2,4,9,933,985] fun K hK=>?_
 simp only [go_sem,seval]
 refine hK _ ?_;clear hK K
 refine Aw_sq fun B1 hB1 hR1 hX1=>?_
 refine Aw_st hE [0,2,4,22] [2,4,9,933,985] fun K hK=>?_
 simp only [go_sem,seval]
 refine ⟨fun hg3=>?_,fun hg3=>?_⟩
 ·simp only [dte] at hg3
  have hno:=rr_no (R:=R) fun h=>by have:=(relsOk_E.1 h).1;omega
  refine hK _ (Aw_yes rfl ?_)
  refine Aw_st hE [2,3] [2,4,9,933,985] fun K hK=>?_
  simp only [go_sem,seval]
  refine hK _ (Aw_ret (hR1 _ (hQ _ ?_)))
  simp only [go_sem,seval]
  intro R' e K' hK'
  rw [← wsl_inj e] at hK'
  exact hK'.1 hno
 simp only [dfn] at hg3
 refine hK _ (Aw_cond rfl (fun hc4=>?_) (fun hc4=>?_))
 ·simp only [dte] at hc4
  have hno:=rr_no (R:=R) fun h=>by have:=(relsOk_E.1 h).1;omega
  refine Aw_st hE [2,3] [2,4,9,933,985] fun K hK=>?_
  simp only [go_sem,seval]
  refine hK _ (Aw_ret (hR1 _ (hQ _ ?_)))
  simp only [go_sem,seval]
  intro R' e K' hK'
  rw [← wsl_inj e] at hK'
  exact hK'.1 hno
 simp only [dfn] at hc4
 have hn5:1≤R.length∧R.length≤5:=⟨by omega,by omega⟩
 refine Aw_skip (hB1 _ ?_)
 refine Aw_sq fun B5 hB5 hR5 hX5=>?_
 refine Aw_st hE [2,4,24,25,26] [2,4,9,933,985] fun K hK=>?_
 simp only [go_sem,seval]
 refine hK _ ?_;clear hK K
 refine Aw_bk fun B6 hN6 hE6 hR6 hX6=>?_
 refine Aw_lp (fun i:Nat × List (Value × Value)=>⟨91,[(2,.loc 2 0),(4,.loc 4 0),(24,wsl R),(25,iv (R.length:Int)),(26,iv (i.1:Int))],[(2,[iv 0,.v (.map none)]),(4,[iv (R.length:Int),.mr 933]),(933,[.mb i.2])],k⟩) (fun i=>(i.1≤R.length∧tabI R i.1 0 i.2)∧∀ j,j < i.1→(R.getD j []).length=R.length∧∀ c,c < R.length→0≤(R.getD j []).getD c 0∧(R.getD j []).getD c 0≤3) (fun i=>R.length - i.1) (0,[]) (Le_wa) ⟨⟨by simp,tabI_zero R⟩,fun j h=>absurd h (by simp)⟩ fun i hi B7 hN7 hR7 hX7=>?_
 obtain ⟨i,t⟩:=i
 obtain ⟨⟨hi,ht⟩,hrows⟩:=hi
 simp only at hi ht hrows
 refine Aw_st hE [2,4,24,25,26,27] [2,4,9,933,985] fun K hK=>?_
 simp only [go_sem,seval]
 refine hK _ ?_;clear hK K
 refine Aw_sq fun B8 hB8 hR8 hX8=>?_
 refine Aw_cond rfl (fun hc9=>?_) (fun hc9=>?_)
 rotate_left
 ·simp only [dfn] at hc9
  obtain rfl:i=R.length:=by omega
  have hlk:=tabI_all ht fun j hj=>(hrows j hj).1
  have hmp:=entI_mp ht.1
  have hmb:=mpI_ok hmp
  have hres:=lk_res hmp
  rw [hlk] at hres
  refine Aw_exit (hX8 _ _ (hX7 _ _ (hE6 _ (hB5 _ ?_))))
  refine Aw_sq fun B25 hB25 hR25 hX25=>?_
  refine Aw_st hE [2,4,65] [2,4,9,933,985] fun K hK=>?_
  simp only [go_sem,seval]
  refine hK _ ?_;clear hK K
  refine Aw_bk fun B26 hN26 hE26 hR26 hX26=>?_
  refine Aw_lp (fun l:List Nat=>⟨91,[(2,.loc 2 0),(4,.loc 4 0),(65,.mr 985)],[(2,[iv 0,.v (.map none)]),(4,[iv (R.length:Int),.mr 933]),(933,[.mb t]),(985,[.mr 933,.mb (sn l),iv (t.length:Int)])],k⟩) (fun l=>l.Nodup∧∀ j ∈ l,j < t.length∧fineE R t j) (fun l=>t.length - l.length) [] (Le.refl _) ⟨by simp,fun j h=>by cases h⟩ fun l hl B27 hN27 hR27 hX27=>?_
  obtain ⟨hnd,hfine⟩:=hl
  have hbk1:bk 985=2:=by decide
  have hbk2:bk 933=1:=by decide
  refine Aw_st hE [2,4,65,67] [2,4,9,933,985] fun K hK=>?_
  simp only [go_sem,seval,hbk1,hbk2]
  refine ⟨⟨1,hmb⟩,fun hall=>?_,fun j p hj hjl=>?_⟩
  ·refine hK _ ?_;clear hK K
   refine Aw_sq fun B28 hB28 hR28 hX28=>?_
   refine Aw_no rfl (Aw_exit (hX28 _ _ (hX27 _ _ (hE26 _ (hB25 _ ?_)))))
   have hok:relsOk R=true:=relsOk_E.2 ⟨hn5,hrows,fun a b ha hb h0=>by
    have h1:lkF t a b≠0:=by rw [hlk];exact h0
    cases ef:fndT 1 (kc a b) t with
    | none=>unfold lkF at h1;rw [ef] at h1;exact absurd rfl h1
    | some v =>
     obtain ⟨p,hp,hpk,_⟩:=fndT_mem ef
     obtain ⟨a',b',_,_,rfl⟩:=ht.1 p hp
     rw [kc_eq] at hpk
     have hpk:a=a'∧b=b':=by simpa using hpk
     obtain ⟨rfl,rfl⟩:=hpk
     obtain ⟨j,hj,hje⟩:=List.getElem_of_mem hp
     exact (hfine j (hall j hj)).2 a b _ (by rw [List.getElem?_eq_getElem hj,hje])⟩
   refine Aw_st hE [2,3] [2,4,9,933,985] fun K hK=>?_
   simp only [go_sem,seval]
   refine hK _ ?_
   refine Aw_frzM hE 933 rfl rfl ?_
   simp only [go_sem,seval]
   refine Aw_ret (hQ _ ?_)
   simp only [go_sem,seval]
   intro R' e K' hK'
   rw [← wsl_inj e] at hK'
   exact hK'.2 hok t hmp hlk
  ·refine hK _ ?_;clear hK K
   refine Aw_sq fun B28 hB28 hR28 hX28=>?_
   refine Aw_yes rfl (Aw_skip (hB28 _ ?_))
   refine Aw_bk fun B30 hN30 hE30 hR30 hX30=>?_
   have hjt:j < t.length:=(List.getElem?_eq_some_iff.1 hj).1
   obtain ⟨a,b,⟨ha,hb2⟩,h0,rfl⟩:=ht.1 p (List.mem_of_getElem? hj)
   have hnext:fineE R t j→(l++[j]).Nodup∧∀ q ∈ l++[j],q < t.length∧fineE R t q:=fun hf=>by
    refine ⟨?_,fun q hq=>?_⟩
    ·rw [List.nodup_append]
     exact ⟨hnd,by simp,fun x hx y hy e=>by rw [List.mem_singleton] at hy;subst hy;subst e;exact hjl hx⟩
    ·rcases List.mem_append.1 hq with hq | hq
     ·exact hfine q hq
     ·rw [List.mem_singleton.1 hq];exact ⟨hjt,hf⟩
   refine Aw_st hE [2,4,9,10,65] [2,4,9,933,985] fun K hK=>?_
   simp only [go_sem,seval,hbk1,hbk2,hj,kc]
   refine ⟨⟨1,hmb⟩,?_⟩
   refine hK _ ?_;clear hK K
   by_cases h1:a=b
   ·have hno:=rr_no (R:=R) fun h=>absurd h1 ((relsOk_E.1 h).2.2 a b ha hb2 h0).1
    have h1d:decide (a=b)=true:=decide_eq_true h1
    refine Aw_se hE [0,2,1,3,4,5,6,7,8,9,10,11,12,13,14,15,16,17] [0,1,0,4,15,31,63,127,63,319,63,1087,3903,8191,63,16447,65535,131071] [2,4,65,88] [2,4,9,933,985] (by kernel_rfl) fun K hK=>?_
    refine daopsE_cut 6 fun K1 hK1=>?_
    simp only [go_sem,seval,hmb,kc_def,kc_key,hres,h1d,decide_true]
    repeat refine sd0 ?_
    refine hK1 _ ?_
    clear hK1
    refine daopsE_cut 6 fun K1 hK1=>?_
    simp only [go_sem,seval,hmb,kc_def,kc_key,hres,h1d,decide_true]
    repeat refine sd0 ?_
    refine hK1 _ ?_
    clear hK1
    simp only [go_sem,seval,hmb,kc_def,kc_key,hres,h1d,decide_true]
    repeat refine sd0 ?_
    refine hK _ (Aw_yes rfl ?_)
    refine Aw_st hE [2,3] [2,4,9,933,985] fun K hK=>?_
    simp only [go_sem,seval]
    refine hK _ (Aw_ret (hR30 _ (hR27 _ (hR26 _ (hR25 _ (hQ _ ?_))))))
    simp only [go_sem,seval]
    intro R' e K' hK'
    rw [← wsl_inj e] at hK'
    exact hK'.1 hno
   have h1d:decide (a=b)=false:=decide_eq_false h1
   by_cases h2:ofR R b a=mirr (ofR R a b)
   ·have h2d:decide (ofR R b a=mirr (ofR R a b))=true:=decide_eq_true h2
    refine Aw_se hE [0,2,1,3,4,5,6,7,8,9,10,11,12,13,14,15,16,17] [0,1,0,4,15,31,63,127,63,319,63,1087,3903,8191,63,16447,65535,131071] [2,4,65,88] [2,4,9,933,985] (by kernel_rfl) fun K hK=>?_
    refine daopsE_cut 6 fun K1 hK1=>?_
    simp only [go_sem,seval,hmb,kc_def,kc_key,hres,h1d,h2d,decide_true,Bool.not_true]
    repeat refine sd0 ?_
    refine hK1 _ ?_
    clear hK1
    refine daopsE_cut 6 fun K1 hK1=>?_
    simp only [go_sem,seval,hmb,kc_def,kc_key,hres,h1d,h2d,decide_true,Bool.not_true]
    repeat refine sd0 ?_
    refine hK1 _ ?_
    clear hK1
    simp only [go_sem,seval,hmb,kc_def,kc_key,hres,h1d,h2d,decide_true,Bool.not_true]
    repeat refine sd0 ?_
    obtain ⟨q1,q2⟩:=hnext fun c d x hcd=>by
     rw [hj] at hcd
     simp only [Option.some.injEq,Prod.mk.injEq,Value.int.injEq,true_and] at hcd
     obtain ⟨rfl,rfl⟩:=kc_inj hcd.1
     exact ⟨h1,by rw [← hcd.2];exact h2⟩
    have hle:=sub_lenN _ _ q1 fun q hq=>(q2 q hq).1
    rw [List.length_append,List.length_singleton] at hle
    refine hK _ (Aw_no rfl (Aw_skip (hN30 _ (hN27 (l++[j]) _ ⟨q1,q2⟩ (by simp only [List.length_append,List.length_singleton];omega) ?_))))
    exact Le_wa
   ·have h2d:decide (ofR R b a=mirr (ofR R a b))=false:=decide_eq_false h2
    have hno:=rr_no (R:=R) fun h=>h2 ((relsOk_E.1 h).2.2 a b ha hb2 h0).2
    refine Aw_se hE [0,2,1,3,4,5,6,7,8,9,10,11,12,13,14,15,16,17] [0,1,0,4,15,31,63,127,63,319,63,1087,3903,8191,63,16447,65535,131071] [2,4,65,88] [2,4,9,933,985] (by kernel_rfl) fun K hK=>?_
    refine daopsE_cut 6 fun K1 hK1=>?_
    simp only [go_sem,seval,hmb,kc_def,kc_key,hres,h1d,h2d,Bool.not_false]
    repeat refine sd0 ?_
    refine hK1 _ ?_
    clear hK1
    refine daopsE_cut 6 fun K1 hK1=>?_
    simp only [go_sem,seval,hmb,kc_def,kc_key,hres,h1d,h2d,Bool.not_false]
    repeat refine sd0 ?_
    refine hK1 _ ?_
    clear hK1
    simp only [go_sem,seval,hmb,kc_def,kc_key,hres,h1d,h2d,Bool.not_false]
    repeat refine sd0 ?_
    refine hK _ (Aw_yes rfl ?_)
    refine Aw_st hE [2,3] [2,4,9,933,985] fun K hK=>?_
    simp only [go_sem,seval]
    refine hK _ (Aw_ret (hR30 _ (hR27 _ (hR26 _ (hR25 _ (hQ _ ?_))))))
    simp only [go_sem,seval]
    intro R' e K' hK'
    rw [← wsl_inj e] at hK'
    exact hK'.1 hno
 simp only [dte] at hc9
 have hil:i < R.length:=by omega
 have hgi:=wrows_get R i hil
 have hri:=hbr _ (getD_memL R i hil)
 refine Aw_skip (hB8 _ ?_)
 refine Aw_sq fun B10 hB10 hR10 hX10=>?_
 refine Aw_bk fun B11 hN11 hE11 hR11 hX11=>?_
 refine Aw_st hE [2,4,5,6,24,25,26] [2,4,9,933,985] fun K hK=>?_
 simp only [go_sem,seval,hgi]
 repeat refine sd0 ?_
 refine hK _ ?_;clear hK K
 refine Aw_sq fun B12 hB12 hR12 hX12=>?_
 refine Aw_st hE [2,4,5,6,24,25,26,35] [2,4,9,933,985] fun K hK=>?_
 simp only [go_sem,seval]
 refine hK _ (Aw_cond rfl (fun hc13=>?_) (fun hc13=>?_))
 ·simp only [Bool.not_eq_true',dfn] at hc13
  have hno:=rr_no (R:=R) fun h=>by have:=((relsOk_E.1 h).2.1 i hil).1;omega
  refine Aw_st hE [2,3] [2,4,9,933,985] fun K hK=>?_
  simp only [go_sem,seval]
  refine hK _ (Aw_ret (hR12 _ (hR11 _ (hR10 _ (hR7 _ (hR6 _ (hR5 _ (hQ _ ?_))))))))
  simp only [go_sem,seval]
  intro R' e K' hK'
  rw [← wsl_inj e] at hK'
  exact hK'.1 hno
 simp only [Bool.not_eq_false',dte] at hc13
 have hli:(R.getD i []).length=R.length:=by omega
 refine Aw_skip (hB12 _ ?_)
 refine Aw_st hE [2,4,5,24,25,26,37,38,39] [2,4,9,933,985] fun K hK=>?_
 simp only [go_sem,seval]
 refine hK _ ?_;clear hK K
 refine Aw_bk fun B14 hN14 hE14 hR14 hX14=>?_
 refine Aw_lp (fun c:Nat × List (Value × Value)=>⟨91,[(2,.loc 2 0),(4,.loc 4 0),(5,iv (i:Int)),(24,wsl R),(25,iv (R.length:Int)),(26,iv (i:Int)),(37,isl (R.getD i [])),(38,iv (R.length:Int)),(39,iv (c.1:Int))],[(2,[iv 0,.v (.map none)]),(4,[iv (R.length:Int),.mr 933]),(933,[.mb c.2])],k⟩) (fun c=>(c.1≤R.length∧tabI R i c.1 c.2)∧∀ j,j < c.1→0≤(R.getD i []).getD j 0∧(R.getD i []).getD j 0≤3) (fun c=>R.length - c.1) (0,t) (by rw [← hli];exact Le.refl _) ⟨⟨by simp,ht⟩,fun j h=>absurd h (by simp)⟩ fun c hc' B15 hN15 hR15 hX15=>?_
 obtain ⟨c,u⟩:=c
 obtain ⟨⟨hc1,hu⟩,hcols⟩:=hc'
 simp only at hc1 hu hcols
 refine Aw_st hE [2,4,5,24,25,26,37,38,39,40] [2,4,9,933,985] fun K hK=>?_
 simp only [go_sem,seval]
 refine hK _ ?_;clear hK K
 refine Aw_sq fun B16 hB16 hR16 hX16=>?_
 refine Aw_cond rfl (fun hc17=>?_) (fun hc17=>?_)
 rotate_left
 ·simp only [dfn] at hc17
  obtain rfl:c=R.length:=by omega
  refine Aw_exit (hX16 _ _ (hX15 _ _ (hE14 _ (hN11 _ (hB10 _ ?_)))))
  refine Aw_tx hE [2,4,24,25,26] [2,4,9,933,985] fun K hK=>?_
  simp only [go_sem,seval]
  repeat refine sd0 ?_
  refine hK _ (hN7 (i + 1,u) _ ⟨⟨by simp only;omega,tabI_row hu⟩,fun j hj=>?_⟩ (by simp only;omega) (Le.refl _))
  by_cases e:j < i
  ·exact hrows j e
  ·obtain rfl:j=i:=by simp only at hj;omega
   exact ⟨hli,hcols⟩
 simp only [dte] at hc17
 have hcl:c < R.length:=by omega
 have hgc:=rows_get (R.getD i []) c (by omega)
 obtain ⟨x,hx⟩:∃ x,x=(R.getD i []).getD c 0:=⟨_,rfl⟩
 rw [← hx] at hgc
 refine Aw_skip (hB16 _ ?_)
 refine Aw_sq fun B18 hB18 hR18 hX18=>?_
 refine Aw_bk fun B19 hN19 hE19 hR19 hX19=>?_
 refine Aw_st hE [2,4,5,7,8,24,25,26,37,38,39] [2,4,9,933,985] fun K hK=>?_
 simp only [go_sem,seval,hgc]
 repeat refine sd0 ?_
 refine hK _ ?_;clear hK K
 refine Aw_sq fun B20 hB20 hR20 hX20=>?_
 refine Aw_st hE [2,4,5,7,8,24,25,26,37,38,39,49] [2,4,9,933,985] fun K hK=>?_
 simp only [go_sem,seval]
 refine ⟨fun hg22=>?_,fun hg22=>?_⟩
 ·simp only [dte] at hg22
  have hno:=rr_no (R:=R) fun h=>by have:=((relsOk_E.1 h).2.1 i hil).2 c hcl;omega
  refine hK _ (Aw_yes rfl ?_)
  refine Aw_st hE [2,3] [2,4,9,933,985] fun K hK=>?_
  simp only [go_sem,seval]
  refine hK _ (Aw_ret (hR20 _ (hR19 _ (hR18 _ (hR15 _ (hR14 _ (hR11 _ (hR10 _ (hR7 _ (hR6 _ (hR5 _ (hQ _ ?_))))))))))))
  simp only [go_sem,seval]
  intro R' e K' hK'
  rw [← wsl_inj e] at hK'
  exact hK'.1 hno
 simp only [dfn] at hg22
 refine hK _ (Aw_cond rfl (fun hc23=>?_) (fun hc23=>?_))
 ·simp only [dte] at hc23
  have hno:=rr_no (R:=R) fun h=>by have:=((relsOk_E.1 h).2.1 i hil).2 c hcl;omega
  refine Aw_st hE [2,3] [2,4,9,933,985] fun K hK=>?_
  simp only [go_sem,seval]
  refine hK _ (Aw_ret (hR20 _ (hR19 _ (hR18 _ (hR15 _ (hR14 _ (hR11 _ (hR10 _ (hR7 _ (hR6 _ (hR5 _ (hQ _ ?_))))))))))))
  simp only [go_sem,seval]
  intro R' e K' hK'
  rw [← wsl_inj e] at hK'
  exact hK'.1 hno
 simp only [dfn] at hc23
 have hcols':∀ j,j < c + 1→0≤(R.getD i []).getD j 0∧(R.getD i []).getD j 0≤3:=fun j hj=>by
  by_cases e:j < c
  ·exact hcols j e
  ·obtain rfl:j=c:=by omega
   rw [← hx];omega
 refine Aw_skip (hB20 _ ?_)
 refine Aw_st hE [2,4,5,7,8,24,25,26,37,38,39,52] [2,4,9,933,985] fun K hK=>?_
 simp only [go_sem,seval]
 refine hK _ (Aw_cond rfl (fun hc24=>?_) (fun hc24=>?_))
 ·simp only [Bool.not_eq_true',dfn] at hc24
  have hmb:=mpI_ok (entI_mp hu.1)
  refine Aw_tx hE [2,4,5,24,25,26,37,38,39] [2,4,9,933,985] fun K hK=>?_
  simp only [go_sem,seval,hmb,kc_def,kc_key]
  repeat refine sd0 ?_
  refine hK _ (hN19 _ (hB18 _ ?_))
  refine Aw_tx hE [2,4,5,24,25,26,37,38,39] [2,4,9,933,985] fun K hK=>?_
  simp only [go_sem,seval]
  repeat refine sd0 ?_
  refine hK _ (hN15 (c + 1,mput 1 (kc ((i:Int) + 1) ((c:Int) + 1)) (.int .i64 x) u) _ ⟨⟨by simp only;omega,tabI_put hu hil hcl hx hc24⟩,hcols'⟩ (by simp only;omega) (Le.refl _))
 ·simp only [Bool.not_eq_false',dte] at hc24
  refine Aw_skip (hN19 _ (hB18 _ ?_))
  refine Aw_tx hE [2,4,5,24,25,26,37,38,39] [2,4,9,933,985] fun K hK=>?_
  simp only [go_sem,seval]
  repeat refine sd0 ?_
  refine hK _ (hN15 (c + 1,u) _ ⟨⟨by simp only;omega,tabI_skip hu (by rw [← hx];exact hc24)⟩,hcols'⟩ (by simp only;omega) (Le.refl _))
def gCloneD:List AV→Option (Prop × AV) | [.sl _ els]=>(match intsL els with | some l=>some (l.length≤2000000,isl l) | none=>none) | _=>none
def dCloneD:DFn:={ g:=gCloneD }
attribute [go_sem] gCloneD dCloneD
theorem cloneD_ok:Fine Tryd.prog 58 dCloneD.con:=by
 refine fine_det (T:=TT) Tryd.func58 rfl Tryd.ntmps58 (by rw [Tryd.results58]) rfl rfl tt (gs_nil) (ds_nil) ?_
 intro args c r h hc
 simp only [dCloneD,gCloneD] at h
 split at h
 rotate_left
 ·cases h
 split at h
 rotate_left
 ·cases h
 rename_i t els _ l hl
 obtain rfl:=intsL_eq hl
 obtain ⟨rfl,rfl⟩:=Prod.mk.inj (Option.some.inj h)
 refine ⟨by simp,fun k E hE Q hQ=>?_⟩
 refine Aw_st hE [0] [] fun K hK=>?_
 simp only [go_sem,reduceIte,Nat.reduceLT,Nat.reduceLeDiff,Nat.reduceEqDiff,Nat.reduceAdd,Nat.reduceMul,Nat.reduceSub,Nat.reduceBEq,Int.reduceToNat,List.reduceReplicate,reduceCtorEq]
 repeat refine sd0 ?_
 refine hK _ ?_;clear hK K
 refine Aw_sq fun B1 hB1 hR1 hX1=>?_
 refine Aw_st hE [0,4] [] fun K hK=>?_
 simp only [go_sem,reduceIte,Nat.reduceLT,Nat.reduceLeDiff,Nat.reduceEqDiff,Nat.reduceAdd,Nat.reduceMul,Nat.reduceSub,Nat.reduceBEq,Int.reduceToNat,List.reduceReplicate,reduceCtorEq]
 repeat refine sd0 ?_
 rintro b _ hb rfl
 refine hK _ (Aw_cond rfl (fun hc2=>?_) (fun hc2=>?_))
 ·refine Aw_st hE [2] [] fun K hK=>?_
  simp only [go_sem,reduceIte,Nat.reduceLT,Nat.reduceLeDiff,Nat.reduceEqDiff,Nat.reduceAdd,Nat.reduceMul,Nat.reduceSub,Nat.reduceBEq,Int.reduceToNat,List.reduceReplicate,reduceCtorEq]
  repeat refine sd0 ?_
  refine hK _ (Aw_ret (hR1 _ (hQ _ ?_)))
  simp only [go_sem,reduceIte,Nat.reduceLT,Nat.reduceLeDiff,Nat.reduceEqDiff,Nat.reduceAdd,Nat.reduceMul,Nat.reduceSub,Nat.reduceBEq,Int.reduceToNat,List.reduceReplicate,reduceCtorEq]
  have:l=[]:=by
   cases l with
   | nil=>rfl
   | cons x l=>have:=hb (by simp [rows]);rw [this] at hc2;cases hc2
  rw [this];rfl
 ·refine Aw_skip (hB1 _ ?_)
  refine Aw_st hE [2] [] fun K hK=>?_
  simp only [go_sem,reduceIte,Nat.reduceLT,Nat.reduceLeDiff,Nat.reduceEqDiff,Nat.reduceAdd,Nat.reduceMul,Nat.reduceSub,Nat.reduceBEq,Int.reduceToNat,List.reduceReplicate,reduceCtorEq]
  repeat refine sd0 ?_
  refine hK _ (Aw_ret (hQ _ ?_))
  simp only [go_sem,reduceIte,Nat.reduceLT,Nat.reduceLeDiff,Nat.reduceEqDiff,Nat.reduceAdd,Nat.reduceMul,Nat.reduceSub,Nat.reduceBEq,Int.reduceToNat,List.reduceReplicate,reduceCtorEq]
def gCopyD:List AV→Option (Prop × AV)
 | [.agg [.v (.int .i64 f),.v (.int .i64 b),.sl _ e1,.v (.int .i64 k),.sl _ e2]]=>(match intsL e1,intsL e2 with
  | some p,some m=>some (p.length≤2000000∧m.length≤2000000,.agg [iv f,iv b,isl p,iv k,isl m])
  | _,_=>none)
 | _=>none
def dCopyD:DFn:={ g:=gCopyD }
attribute [go_sem] gCopyD dCopyD
def cWs (W:List (List Int)):List AV:=W.map fun w=>isl w
theorem cWs_len (W:List (List Int)):(cWs W).length=W.length:=List.length_map _
theorem cWs_map {f:AV→AV} (W:List (List Int)) (h:∀ w,f (isl w)=isl w):(cWs W).map f=cWs W:=by
 unfold cWs;rw [List.map_map];exact List.map_congr_left fun w _=>h w
theorem cWs_strip (d:Nat) (W:List (List Int)):AV.stripLAll d (cWs W)=cWs W:=by rw [AV.stripLAll_eq];exact cWs_map W fun _=>rfl
theorem cWs_nt (W:List (List Int)):AV.ntAll (cWs W)=cWs W:=by rw [ntAll_eq];exact cWs_map W fun _=>rfl
theorem cWs_mvn (f:Nat→Option Nat) (W:List (List Int)):AV.mvnAll f (cWs W)=cWs W:=by rw [mvnAll_eq];exact cWs_map W fun _=>rfl
theorem cWs_stripF (F:Nat→Bool) (W:List (List Int)):AV.stripFAll F (cWs W)=cWs W:=by rw [stripFAll_eq];exact cWs_map W fun _=>rfl
theorem cWs_stripA (d:Nat) (W:List (List Int)):AV.stripAll d (cWs W)=cWs W:=by rw [AV.stripAll_eq];exact cWs_map W fun _=>rfl
theorem cWs_frz (d:Nat) (ys:List DV) (W:List (List Int)):AV.frzAll d ys (cWs W)=cWs W:=by rw [frzAll_eq];exact cWs_map W fun _=>rfl
theorem cWs_frzM (d:Nat) (t:List (Value × Value)) (W:List (List Int)):AV.frzMAll d t (cWs W)=cWs W:=by rw [frzMAll_eq];exact cWs_map W fun _=>rfl
theorem cWs_swb (d d':Nat) (W:List (List Int)):AV.swbAll d d' (cWs W)=cWs W:=by rw [AV.swbAll_eq];exact cWs_map W fun _=>rfl
theorem cWs_drop (W:List (List Int)) (i:Nat) (h:i < W.length):(cWs W).drop i=isl (W.getD i [])::(cWs W).drop (i + 1):=by
 rw [List.drop_eq_getElem_cons (by rw [cWs_len];exact h)]
 congr 1
 simp [cWs,List.getD_eq_getElem?_getD,h]
theorem cWs_set (W:List (List Int)) (i:Nat) (w:List Int):(cWs W).set i (isl w)=cWs (W.set i w):=by
 unfold cWs;rw [List.map_set]
theorem rhoS_cWs (m:List (Nat × List AV)):∀ (W:List (List Int)) (f n:Nat) (ρ:List (Nat × Nat)),rhoS m f n (cWs W) ρ=ρ
 | [],0,_,_=>rfl
 | [],_ + 1,_,_=>rfl
 | _::_,0,_,_=>rfl
 | w::W,f + 1,n,ρ=>rhoS_cWs m W f n ρ
theorem cWs_le:∀ W:List (List Int),avLeL (cWs W) (cWs W)=True
 | []=>by simp [cWs,avLeL]
 | w::W=>by
  have ih:=cWs_le W
  simp only [cWs,List.map_cons] at ih ⊢
  simp only [avLeL,ih,and_true,avLe,lfLe,AV.els]
def wD (W:List (List Int)):List DV:=W.map fun w=>DV.sl (rows w)
theorem wD_len (W:List (List Int)):(wD W).length=W.length:=List.length_map _
theorem ofAll_cWs (W:List (List Int)):DV.ofAll (cWs W)=some (wD W):=by
 induction W with
 | nil=>rfl
 | cons w W ih=>simp only [cWs,wD,List.map_cons] at ih ⊢;simp only [DV.ofAll,DV.ofAV,ih]
theorem chunks_wD:∀ W:List (List Int),chunks 1 W.length (wD W)=wrows W
 | []=>rfl
 | w::W=>by
  have ih:=chunks_wD W
  simp only [List.length_cons,wD,List.map_cons,chunks] at ih ⊢
  simp only [List.take_succ_cons,List.take_zero,List.drop_succ_cons,List.drop_zero]
  rw [ih];rfl
attribute [go_sem] cWs_le rhoS_cWs cWs_len cWs_strip cWs_nt cWs_mvn cWs_stripF cWs_stripA cWs_frz cWs_frzM cWs_swb cWs_set
theorem isl1_inj {a b:List Int} (h:isl a=isl b):a=b:=by
 simp only [AV.sl.injEq,true_and] at h
 have:=congrArg intsL h
 rw [intsL_rows,intsL_rows] at this
 exact Option.some.inj this
theorem cWs_inj:∀ {a b:List (List Int)},cWs a=cWs b→a=b
 | [],[],_=>rfl
 | [],_::_,h=>by cases h
 | _::_,[],h=>by cases h
 | x::a,y::b,h=>by
  obtain ⟨h1,h2⟩:=List.cons.inj h
  rw [isl1_inj h1,cWs_inj h2]
structure Nt where
 n:Int
 t:List (Value × Value)
 home:Int
 W:List (List Int)
def Nt.M (N:Nt) (b w:Nat):List (Nat × List AV):=[(b,[iv N.n,.dv (.mp N.t),iv N.home,.xs w 0 N.W.length N.W.length 1]),(w,cWs N.W)]
attribute [go_sem] Nt.M
theorem NtM_inj {N N':Nt} {b w:Nat} (h:N.M b w=N'.M b w):N=N':=by
 obtain ⟨n,t,ho,W⟩:=N
 obtain ⟨n',t',ho',W'⟩:=N'
 simp only [Nt.M,List.cons.injEq,Prod.mk.injEq,true_and,and_true,AV.v.injEq,Value.int.injEq,AV.dv.injEq,DV.mp.injEq] at h
 obtain ⟨⟨rfl,rfl,rfl,_⟩,h2⟩:=h
 rw [cWs_inj h2]
def mkM (I:World→Prop) {ι:Type} (enc:ι→List AV × List (Nat × List AV)) (cnd:ι→Prop) (out:ι→AV→List (Nat × List AV)→Prop):ConM:={
 pre:=fun a m=>∃ i,enc i=(a,m)∧cnd i
 post:=fun a m r m2=>∃ i,enc i=(a,m)∧out i r m2
 inv:=I }
theorem mkM_pre {I:World→Prop} {ι:Type} {enc:ι→List AV × List (Nat × List AV)} {cnd:ι→Prop} {out:ι→AV→List (Nat × List AV)→Prop} (hj:∀ i j,enc i=enc j→i=j) (i:ι) {a:List AV} {m:List (Nat × List AV)} (h:enc i=(a,m)):(mkM I enc cnd out).pre a m=cnd i:=by
 apply propext
 exact ⟨fun ⟨j,e,hc⟩=>by rw [hj i j (h.trans e.symm)];exact hc,fun hc=>⟨i,h,hc⟩⟩
theorem mkM_post {I:World→Prop} {ι:Type} {enc:ι→List AV × List (Nat × List AV)} {cnd:ι→Prop} {out:ι→AV→List (Nat × List AV)→Prop} (hj:∀ i j,enc i=enc j→i=j) (i:ι) {a:List AV} {m:List (Nat × List AV)} (h:enc i=(a,m)) (K:AV→List (Nat × List AV)→Prop) :
  (∀ r m2,(mkM I enc cnd out).post a m r m2→K r m2) = ∀ r m2,out i r m2→K r m2:=by
 apply propext
 exact ⟨fun hk r m2 ho=>hk r m2 ⟨i,h,ho⟩,fun hk r m2 ⟨j,e,ho⟩=>by rw [hj j i (e.trans h.symm)] at ho;exact hk r m2 ho⟩
theorem mkM_fn {P:AV→List (Nat × List AV)→Prop} (r0:AV) (m0:List (Nat × List AV)):(∀ r m2,(r=r0∧m2=m0)→P r m2)=P r0 m0:=by
 apply propext
 exact ⟨fun h=>h _ _ ⟨rfl,rfl⟩,fun h r m2 ⟨e1,e2⟩=>by rw [e1,e2];exact h⟩
def gEqI:List AV→Option (Prop × AV)
 | [.sl _ e1,.sl _ e2]=>(match intsL e1,intsL e2 with
  | some a,some b=>some (a.length≤4294967296∧b.length≤4294967296,bv (decide (a=b)))
  | _,_=>none)
 | _=>none
def dEqI:DFn:={ g:=gEqI }
attribute [go_sem] gEqI dEqI
theorem eq_getD {a b:List Int} (hl:a.length=b.length):a=b↔∀ j,j < a.length→a.getD j 0=b.getD j 0:=by
 constructor
 ·rintro rfl _ _;rfl
 ·intro h
  refine List.ext_getElem hl fun j h1 h2=>?_
  have:=h j h1
  rwa [List.getD_eq_getElem?_getD,List.getD_eq_getElem?_getD,List.getElem?_eq_getElem h1,List.getElem?_eq_getElem h2] at this
theorem eqI_ok:Fine Tryd.prog 45 dEqI.con:=by
 refine fine_det (T:=TT) Tryd.func45 rfl Tryd.ntmps45 (by rw [Tryd.results45]) rfl rfl tt (gs_nil) (ds_nil) ?_
 intro args c r h hc
 simp only [dEqI,gEqI] at h
 split at h
 rotate_left
 ·cases h
 split at h
 rotate_left
 ·cases h
 rename_i t e1 t2 e2 _ _ l1 l2 hl1 hl2
 obtain rfl:=intsL_eq hl1
 obtain rfl:=intsL_eq hl2
 obtain ⟨rfl,rfl⟩:=Prod.mk.inj (Option.some.inj h)
 refine ⟨by simp,fun k E hE Q hQ=>?_⟩
 obtain ⟨ha,hb⟩:=hc
 refine Aw_st hE [0,1] [] fun K hK=>?_
 simp only [go_sem,seval]
 repeat refine sd0 ?_
 refine hK _ ?_;clear hK K
 refine Aw_sq fun B1 hB1 hR1 hX1=>?_
 refine Aw_st hE [0,1,10] [] fun K hK=>?_
 simp only [go_sem,seval,ha,hb]
 repeat refine sd0 ?_
 refine hK _ (Aw_cond rfl (fun hc2=>?_) (fun hc2=>?_))
 ·simp only [Bool.not_eq_true',dfn] at hc2
  refine Aw_st hE [4] [] fun K hK=>?_
  simp only [go_sem,seval]
  repeat refine sd0 ?_
  refine hK _ (Aw_ret (hR1 _ (hQ _ ?_)))
  simp only [go_sem,seval,decide_eq_false (show ¬ l1=l2 from fun e=>hc2 (by rw [e]))]
 ·simp only [Bool.not_eq_false',dte] at hc2
  have hll:l1.length=l2.length:=by omega
  refine Aw_skip (hB1 _ ?_)
  refine Aw_sq fun B3 hB3 hR3 hX3=>?_
  refine Aw_st hE [0,1,12,13] [] fun K hK=>?_
  simp only [go_sem,seval]
  repeat refine sd0 ?_
  refine hK _ ?_;clear hK K
  refine Aw_bk fun B4 hN4 hE4 hR4 hX4=>?_
  refine Aw_lp (fun i:Nat=>⟨26,[(0,isl l1),(1,isl l2),(12,iv (l1.length:Int)),(13,iv (i:Int))],[],k⟩) (fun i:Nat=>i≤l1.length∧∀ j,j < i→l1.getD j 0=l2.getD j 0) (fun i:Nat=>l1.length - i) (0) (Le_wa) (⟨by omega,fun j h=>absurd h (by omega)⟩) fun i hi B5 hN5 hR5 hX5=>?_
  refine Aw_st hE [0,1,12,13,14] [] fun K hK=>?_
  simp only [go_sem,seval]
  repeat refine sd0 ?_
  refine hK _ ?_;clear hK K
  refine Aw_sq fun B6 hB6 hR6 hX6=>?_
  refine Aw_cond rfl (fun hc7=>?_) (fun hc7=>?_)
  ·simp only [dte] at hc7
   have h1:=rows_get l1 i (by omega)
   have h2:=rows_get l2 i (by omega)
   refine Aw_skip (hB6 _ ?_)
   refine Aw_sq fun B8 hB8 hR8 hX8=>?_
   refine Aw_bk fun B9 hN9 hE9 hR9 hX9=>?_
   refine Aw_st hE [0,1,5,12,13] [] fun K hK=>?_
   simp only [go_sem,seval]
   repeat refine sd0 ?_
   refine hK _ ?_;clear hK K
   refine Aw_sd hE [0,1,12,13,24] [] 6 (by kernel_rfl) fun K hK=>?_
   simp only [go_sem,seval,h1,h2]
   repeat refine sd0 ?_
   refine hK _ (Aw_cond rfl (fun hc10=>?_) (fun hc10=>?_))
   ·simp only [Bool.not_eq_true',dfn] at hc10
    refine Aw_st hE [4] [] fun K hK=>?_
    simp only [go_sem,seval]
    repeat refine sd0 ?_
    refine hK _ (Aw_ret (hR9 _ (hR8 _ (hR5 _ (hR4 _ (hR3 _ (hQ _ ?_)))))))
    simp only [go_sem,seval,decide_eq_false (show ¬ l1=l2 from fun e=>hc10 (by rw [e]))]
   ·simp only [Bool.not_eq_false',dte] at hc10
    refine Aw_skip (hN9 _ (hB8 _ ?_))
    refine Aw_tx hE [0,1,12,13] [] fun K hK=>?_
    simp only [go_sem,seval]
    repeat refine sd0 ?_
    refine hK _ (hN5 (i + 1) _ (⟨by omega,fun j hj=>if e:j < i then hi.2 j e else (by obtain rfl:j=i:=(by omega);exact hc10)⟩) (by omega) (Le.refl _))
  ·simp only [dfn] at hc7
   refine Aw_exit (hX6 _ _ (hX5 _ _ (hE4 _ (hB3 _ ?_))))
   refine Aw_st hE [4] [] fun K hK=>?_
   simp only [go_sem,seval]
   repeat refine sd0 ?_
   refine hK _ (Aw_ret (hQ _ ?_))
   simp only [go_sem,seval,decide_eq_true (show l1=l2 from (eq_getD hll).2 fun j hj=>hi.2 j (by omega))]
def cCopyW:ConM:=mkM (fun _=>True) (fun W:List (List Int)=>([wsl W],[])) (fun W=>bigM W) fun W r m2=>r = .xs 8 0 W.length W.length 1∧m2=[(8,cWs W)]
theorem copyW_inj (i j:List (List Int)) (h:(([wsl i],[]):List AV × List (Nat × List AV))=([wsl j],[])):i=j:=wsl_inj (Prod.mk.inj h).1
theorem copyW_pre (W:List (List Int)):cCopyW.pre [wsl W] []=bigM W:=mkM_pre copyW_inj W rfl
theorem copyW_post (W:List (List Int)) (K:AV→List (Nat × List AV)→Prop):(∀ r m2,cCopyW.post [wsl W] [] r m2→K r m2)=K (.xs 8 0 W.length W.length 1) [(8,cWs W)]:=(mkM_post copyW_inj W rfl K).trans (mkM_fn _ _)
attribute [go_sem] copyW_pre copyW_post
theorem flat_nl:∀ n:Nat,(List.replicate n [AV.nl]).flatten=List.replicate n .nl
 | 0=>rfl
 | n + 1=>by rw [List.replicate_succ,List.flatten_cons,flat_nl n];rfl
theorem nl_strip (d n:Nat):AV.stripLAll d (List.replicate n .nl)=List.replicate n .nl:=by rw [AV.stripLAll_eq,List.map_replicate];rfl
theorem cWs_nil:cWs []=[]:=rfl
theorem nl_le:∀ n:Nat,avLeL (List.replicate n .nl) (List.replicate n .nl)=True
 | 0=>by simp [avLeL]
 | n + 1=>by rw [List.replicate_succ];simp only [avLeL,nl_le n,and_true,avLe,lfLe]
attribute [go_sem] flat_nl nl_strip cWs_nil nl_le
theorem fill_nl (W:List (List Int)) (i:Nat) (h:i < W.length):(cWs (W.take i)++List.replicate (W.length - i) AV.nl).set i (isl (W.getD i []))=cWs (W.take (i + 1))++List.replicate (W.length - (i + 1)) AV.nl:=by
 have hl:(cWs (W.take i)).length=i:=by rw [cWs_len,List.length_take];omega
 rw [List.set_append_right _ _ (by omega),hl,Nat.sub_self,take_one W i [] h]
 have:W.length - i=(W.length - (i + 1)) + 1:=by omega
 rw [this,List.replicate_succ,List.set_cons_zero]
 unfold cWs
 rw [List.map_append]
 simp only [List.map_cons,List.map_nil,List.append_assoc,List.singleton_append]
theorem copyW_ok:FineM Tryd.prog 44 cCopyW:=by
 refine fineM_of [] ms_nil [] mm_nil [8] [] ex_nil (T:=TT) Tryd.func44 rfl Tryd.ntmps44 (by rw [Tryd.results44]) rfl rfl tt gs_nil (ds_cons cloneD_ok ds_nil) ?_
 rintro args m1 ⟨W,e,hb⟩
 obtain ⟨rfl,rfl⟩:=Prod.mk.inj e.symm
 refine ⟨by simp,fun E hE Q hQ=>?_⟩
 obtain ⟨hb1,hb2⟩:=hb
 refine Aw_st hE [0] [8] fun K hK=>?_
 simp only [go_sem,seval]
 repeat refine sd0 ?_
 refine hK _ ?_;clear hK K
 refine Aw_st hE [0,3] [8] fun K hK=>?_
 simp only [go_sem,seval]
 repeat refine sd0 ?_
 refine hK _ ?_;clear hK K
 refine Aw_sq fun B1 hB1 hR1 hX1=>?_
 refine Aw_st hE [3,9,10,11] [8] fun K hK=>?_
 simp only [go_sem,seval]
 repeat refine sd0 ?_
 refine hK _ ?_;clear hK K
 refine Aw_bk fun B2 hN2 hE2 hR2 hX2=>?_
 refine Aw_lp (fun i:Nat=>⟨23,[(3,.xs 8 0 W.length W.length 1),(9,wsl W),(10,iv (W.length:Int)),(11,iv (i:Int))],[(8,cWs (W.take i)++List.replicate (W.length - i) .nl)],0⟩) (fun i:Nat=>i≤W.length) (fun i:Nat=>W.length - i) (0) (Le_wa) (by omega) fun i hi B3 hN3 hR3 hX3=>?_
 refine Aw_st hE [3,9,10,11,12] [8] fun K hK=>?_
 simp only [go_sem,seval]
 repeat refine sd0 ?_
 refine hK _ ?_;clear hK K
 refine Aw_sq fun B4 hB4 hR4 hX4=>?_
 refine Aw_cond rfl (fun hc5=>?_) (fun hc5=>?_)
 ·simp only [dte] at hc5
  have hil:i < W.length:=by omega
  have hgw:=wrows_get W i hil
  have hwl:=hb2 _ (getD_memL W i hil)
  have hset:=fill_nl W i hil
  have hlen:(cWs (W.take i)++List.replicate (W.length - i) AV.nl).length=W.length:=by rw [List.length_append,cWs_len,List.length_take,List.length_replicate];omega
  refine Aw_skip (hB4 _ ?_)
  refine Aw_sq fun B6 hB6 hR6 hX6=>?_
  refine Aw_bk fun B7 hN7 hE7 hR7 hX7=>?_
  refine Aw_st hE [3,4,5,9,10,11] [8] fun K hK=>?_
  simp only [go_sem,seval,hgw]
  repeat refine sd0 ?_
  refine hK _ ?_;clear hK K
  refine Aw_tx hE [3,9,10,11] [8] fun K hK=>?_
  simp only [go_sem,seval,hwl,hlen,hset]
  repeat refine sd0 ?_
  refine hK _ (hN7 _ (hB6 _ ?_))
  refine Aw_tx hE [3,9,10,11] [8] fun K hK=>?_
  simp only [go_sem,seval]
  repeat refine sd0 ?_
  refine hK _ (hN3 (i + 1) _ (by omega) (by omega) (Le.refl _))
 ·simp only [dfn] at hc5
  obtain rfl:i=W.length:=by omega
  rw [List.take_length,Nat.sub_self]
  refine Aw_exit (hX4 _ _ (hX3 _ _ (hE2 _ (hB1 _ ?_))))
  refine Aw_st hE [2] [8] fun K hK=>?_
  simp only [go_sem,seval]
  repeat refine sd0 ?_
  refine hK _ (Aw_ret (hQ _ ?_))
  simp only [go_sem,seval]
  exact ⟨W,rfl,rfl,rfl⟩
def ldI (n:Int) (of:Rel) (p:List Int) (i:Nat):Prop:=i≤p.length∧(∀ j,j < i→1≤p.getD j 0∧p.getD j 0≤n)∧∀ j,j + 1 < i→of (p.getD j 0) (p.getD (j + 1) 0)≠0
def leadP (n:Int) (of:Rel) (home h:Int) (p:List Int):Prop:=pathOk p=true∧p.getD 0 0=h∧p.getD (p.length - 1) 0=home∧ldI n of p p.length
def leadB (n:Int) (of:Rel) (home h:Int) (p:List Int):Bool:=pathOk p && decide (p.getD 0 0=h) && decide (p.getD (p.length - 1) 0=home) && p.all (fun x=>decide (1≤x) && decide (x≤n)) && lnk of p
theorem leadB_iff {n:Int} {of:Rel} {home h:Int} {p:List Int}:leadB n of home h p=true↔leadP n of home h p:=by
 simp only [leadB,leadP,ldI,Bool.and_eq_true,dte,List.all_eq_true,lnk_iff,and_assoc]
 rw [all_getD (p:=fun x=>1≤x∧x≤n)]
 simp only [Nat.le_refl,true_and]
theorem leadB_T {n:Int} {of:Rel} {home h:Int} {p:List Int} (hp:leadP n of home h p):leadB n of home h p=true:=leadB_iff.2 hp
theorem leadB_F {n:Int} {of:Rel} {home h:Int} {p:List Int} (hp:¬ leadP n of home h p):leadB n of home h p=false:=by
 cases e:leadB n of home h p with
 | false=>rfl
 | true=>exact absurd (leadB_iff.1 e) hp
theorem leadB_way {n:Nat} {of:Rel} {home h:Int} {p:List Int} (hne:p≠[]) (hh:h≠home):leadB n of home h p=wayOk n of home h p:=by
 rw [Bool.eq_iff_iff,wayOk_D hne]
 rw [leadB_iff]
 constructor
 ·rintro ⟨h1,h2,h3,_,h4,h5⟩
  exact ⟨h4,h5,h1,h2,h3,.inl hh⟩
 ·rintro ⟨h4,h5,h1,h2,h3,_⟩
  exact ⟨h1,h2,h3,Nat.le_refl _,h4,h5⟩
def eLeads (i:Nt × List Int × Int):List AV × List (Nat × List AV):=([.loc 1000 0,isl i.2.1,iv i.2.2],i.1.M 1000 1001)
def cLeads (pb:Addr):ConM:=mkM (WP pb) eLeads (fun i=>mpI i.1.t∧0 < i.2.1.length∧i.2.1.length≤2000000) fun i r m2=>r=bv (leadB i.1.n (lkF i.1.t) i.1.home i.2.2 i.2.1)∧m2=i.1.M 1000 1001
theorem eLeads_inj (i j:Nt × List Int × Int) (h:eLeads i=eLeads j):i=j:=by
 obtain ⟨N,p,x⟩:=i
 obtain ⟨N',p',x'⟩:=j
 obtain ⟨h1,h2⟩:=Prod.mk.inj h
 simp only [List.cons.injEq,true_and,AV.v.injEq,Value.int.injEq,and_true] at h1
 obtain rfl:=NtM_inj (N:=N) (N':=N') h2
 obtain rfl:=isl1_inj h1.1
 rw [h1.2]
theorem leads_pre (pb:Addr) (N:Nt) (p:List Int) (h:Int):(cLeads pb).pre [.loc 1000 0,isl p,iv h] [(1000,[iv N.n,.dv (.mp N.t),iv N.home,.xs 1001 0 N.W.length N.W.length 1]),(1001,cWs N.W)]=(mpI N.t∧0 < p.length∧p.length≤2000000):=mkM_pre eLeads_inj (N,p,h) rfl
theorem leads_post (pb:Addr) (N:Nt) (p:List Int) (h:Int) (K:AV→List (Nat × List AV)→Prop):(∀ r m2,(cLeads pb).post [.loc 1000 0,isl p,iv h] [(1000,[iv N.n,.dv (.mp N.t),iv N.home,.xs 1001 0 N.W.length N.W.length 1]),(1001,cWs N.W)] r m2→K r m2)=K (bv (leadB N.n (lkF N.t) N.home h p)) (N.M 1000 1001) :=
 (mkM_post eLeads_inj (N,p,h) rfl K).trans (mkM_fn _ _)
attribute [go_sem] leads_pre leads_post
set_option maxHeartbeats 4000000 in
theorem leads_ok (pb:Addr):FineM Tryd.prog 46 (cLeads pb):=by
 refine fineM_of [] ms_nil [] mm_nil [] [] ex_nil (T:=TT) Tryd.func46 rfl Tryd.ntmps46 (by rw [Tryd.results46]) rfl rfl tt gs_nil (ds_cons (iPathOk_ok pb) (ds_cons hasM_ok (ds_cons ofM_ok ds_nil)) (wp_inh pb)) ?_
 rintro args m1 ⟨⟨N,p,a⟩,e,hmp,hp0,hpl⟩
 obtain ⟨rfl,rfl⟩:=Prod.mk.inj e.symm
 refine ⟨by simp,fun E hE Q hQ=>?_⟩
 simp only at hmp hp0 hpl
 have fin:∀ (b:Bool),leadB N.n (lkF N.t) N.home a p=b→(cLeads pb).post [.loc 1000 0,isl p,iv a] (N.M 1000 1001) (bv b) (N.M 1000 1001):=fun b hb=>⟨(N,p,a),rfl,by rw [← hb];exact ⟨rfl,rfl⟩⟩
 have hl4:p.length≤4294967296:=by omega
 have h0:=rows_get p 0 hp0
 have h9:(rows p)[((p.length:Int) - 1).toNat]? = some [.v (.int .i64 (p.getD (p.length - 1) 0))]:=by rw [show ((p.length:Int) - 1).toNat=p.length - 1 by omega];exact rows_get p (p.length - 1) (by omega)
 have hb2:(0:Int)≤(p.length:Int) - 1:=by omega
 refine Aw_st hE [0,1,2] [1000,1001] fun K hK=>?_
 simp only [go_sem,seval]
 refine hK _ ?_;clear hK K
 refine Aw_sq fun B1 hB1 hR1 hX1=>?_
 cases h1:pathOk p with
 | false =>
  refine Aw_se hE [0,1,2,3,4,5,6,7,8,9,10,11,12,13,14,15,16,17,18,19,20,21,22] [0,1,3,7,15,31,63,15,255,511,1023,2047,2047,6143,14335,32767,65535,2047,133119,395263,919551,2097151,4194303] [0,1,31] [1000,1001] (by kernel_rfl) fun K hK=>?_
  refine daopsE_cut 6 fun K1 hK1=>?_
  simp only [go_sem,seval,h1,hl4,Bool.not_false]
  repeat refine sd0 ?_
  refine hK1 _ ?_
  clear hK1
  refine daopsE_cut 6 fun K1 hK1=>?_
  simp only [go_sem,seval,h1,hl4,Bool.not_false]
  repeat refine sd0 ?_
  refine hK1 _ ?_
  clear hK1
  refine daopsE_cut 6 fun K1 hK1=>?_
  simp only [go_sem,seval,h1,hl4,Bool.not_false]
  repeat refine sd0 ?_
  refine hK1 _ ?_
  clear hK1
  simp only [go_sem,seval,h1,hl4,Bool.not_false]
  repeat refine sd0 ?_
  refine hK _ (Aw_yes rfl ?_)
  refine Aw_st hE [6] [1000,1001] fun K hK=>?_
  simp only [go_sem,seval]
  refine hK _ (Aw_ret (hR1 _ (hQ _ ?_)))
  simp only [go_sem,seval]
  exact fin false (leadB_F fun h=>by rw [h.1] at h1;cases h1)
 | true =>
 by_cases h2:p.getD 0 0=a
 rotate_left
 ·have h2d:decide (p.getD 0 0=a)=false:=decide_eq_false h2
  refine Aw_se hE [0,1,2,3,4,5,6,7,8,9,10,11,12,13,14,15,16,17,18,19,20,21,22] [0,1,3,7,15,31,63,15,255,511,1023,2047,2047,6143,14335,32767,65535,2047,133119,395263,919551,2097151,4194303] [0,1,31] [1000,1001] (by kernel_rfl) fun K hK=>?_
  refine daopsE_cut 6 fun K1 hK1=>?_
  simp only [go_sem,seval,h1,hl4,h0,h2d,Bool.not_true,Bool.not_false]
  repeat refine sd0 ?_
  refine hK1 _ ?_
  clear hK1
  refine daopsE_cut 6 fun K1 hK1=>?_
  simp only [go_sem,seval,h1,hl4,h0,h2d,Bool.not_true,Bool.not_false]
  repeat refine sd0 ?_
  refine hK1 _ ?_
  clear hK1
  refine daopsE_cut 6 fun K1 hK1=>?_
  simp only [go_sem,seval,h1,hl4,h0,h2d,Bool.not_true,Bool.not_false]
  repeat refine sd0 ?_
  refine hK1 _ ?_
  clear hK1
  simp only [go_sem,seval,h1,hl4,h0,h2d,Bool.not_true,Bool.not_false]
  repeat refine sd0 ?_
  refine hK _ (Aw_yes rfl ?_)
  refine Aw_st hE [6] [1000,1001] fun K hK=>?_
  simp only [go_sem,seval]
  refine hK _ (Aw_ret (hR1 _ (hQ _ ?_)))
  simp only [go_sem,seval]
  exact fin false (leadB_F fun h=>h2 h.2.1)
 have h2d:decide (p.getD 0 0=a)=true:=decide_eq_true h2
 by_cases h3:p.getD (p.length - 1) 0=N.home
 rotate_left
 ·have h3d:decide (p.getD (p.length - 1) 0=N.home)=false:=decide_eq_false h3
  refine Aw_se hE [0,1,2,3,4,5,6,7,8,9,10,11,12,13,14,15,16,17,18,19,20,21,22] [0,1,3,7,15,31,63,15,255,511,1023,2047,2047,6143,14335,32767,65535,2047,133119,395263,919551,2097151,4194303] [0,1,31] [1000,1001] (by kernel_rfl) fun K hK=>?_
  refine daopsE_cut 6 fun K1 hK1=>?_
  simp only [go_sem,seval,h1,hl4,h0,h2d,h9,hb2,h3d,Bool.not_true,Bool.not_false,decide_true]
  repeat refine sd0 ?_
  refine hK1 _ ?_
  clear hK1
  refine daopsE_cut 6 fun K1 hK1=>?_
  simp only [go_sem,seval,h1,hl4,h0,h2d,h9,hb2,h3d,Bool.not_true,Bool.not_false,decide_true]
  repeat refine sd0 ?_
  refine hK1 _ ?_
  clear hK1
  refine daopsE_cut 6 fun K1 hK1=>?_
  simp only [go_sem,seval,h1,hl4,h0,h2d,h9,hb2,h3d,Bool.not_true,Bool.not_false,decide_true]
  repeat refine sd0 ?_
  refine hK1 _ ?_
  clear hK1
  simp only [go_sem,seval,h1,hl4,h0,h2d,h9,hb2,h3d,Bool.not_true,Bool.not_false,decide_true]
  repeat refine sd0 ?_
  refine hK _ (Aw_yes rfl ?_)
  refine Aw_st hE [6] [1000,1001] fun K hK=>?_
  simp only [go_sem,seval]
  refine hK _ (Aw_ret (hR1 _ (hQ _ ?_)))
  simp only [go_sem,seval]
  exact fin false (leadB_F fun h=>h3 h.2.2.1)
 have h3d:decide (p.getD (p.length - 1) 0=N.home)=true:=decide_eq_true h3
 refine Aw_se hE [0,1,2,3,4,5,6,7,8,9,10,11,12,13,14,15,16,17,18,19,20,21,22] [0,1,3,7,15,31,63,15,255,511,1023,2047,2047,6143,14335,32767,65535,2047,133119,395263,919551,2097151,4194303] [0,1,31] [1000,1001] (by kernel_rfl) fun K hK=>?_
 refine daopsE_cut 6 fun K1 hK1=>?_
 simp only [go_sem,seval,h1,hl4,h0,h2d,h9,hb2,h3d,Bool.not_true,Bool.not_false,decide_true]
 repeat refine sd0 ?_
 refine hK1 _ ?_
 clear hK1
 refine daopsE_cut 6 fun K1 hK1=>?_
 simp only [go_sem,seval,h1,hl4,h0,h2d,h9,hb2,h3d,Bool.not_true,Bool.not_false,decide_true]
 repeat refine sd0 ?_
 refine hK1 _ ?_
 clear hK1
 refine daopsE_cut 6 fun K1 hK1=>?_
 simp only [go_sem,seval,h1,hl4,h0,h2d,h9,hb2,h3d,Bool.not_true,Bool.not_false,decide_true]
 repeat refine sd0 ?_
 refine hK1 _ ?_
 clear hK1
 simp only [go_sem,seval,h1,hl4,h0,h2d,h9,hb2,h3d,Bool.not_true,Bool.not_false,decide_true]
 repeat refine sd0 ?_
 refine hK _ (Aw_no rfl (Aw_skip (hB1 _ ?_)))
 refine Aw_sq fun B6 hB6 hR6 hX6=>?_
 refine Aw_st hE [0,1,32,33,34] [1000,1001] fun K hK=>?_
 simp only [go_sem,seval]
 refine hK _ ?_;clear hK K
 refine Aw_bk fun B7 hN7 hE7 hR7 hX7=>?_
 refine Aw_lp (fun i:Nat=>⟨65,[(0,.loc 1000 0),(1,isl p),(32,isl p),(33,iv (p.length:Int)),(34,iv (i:Int))],N.M 1000 1001,0⟩) (fun i=>ldI N.n (lkF N.t) p i) (fun i=>p.length - i) 0 (Le.refl _) ⟨by omega,fun j h=>absurd h (by omega),fun j h=>absurd h (by omega)⟩ fun i hi B8 hN8 hR8 hX8=>?_
 obtain ⟨hi,hi1,hi2⟩:=hi
 refine Aw_st hE [0,1,32,33,34,35] [1000,1001] fun K hK=>?_
 simp only [go_sem,seval]
 refine hK _ ?_;clear hK K
 refine Aw_sq fun B9 hB9 hR9 hX9=>?_
 refine Aw_cond rfl (fun hc10=>?_) (fun hc10=>?_)
 rotate_left
 ·simp only [dfn] at hc10
  obtain rfl:i=p.length:=by omega
  refine Aw_exit (hX9 _ _ (hX8 _ _ (hE7 _ (hB6 _ ?_))))
  refine Aw_st hE [6] [1000,1001] fun K hK=>?_
  simp only [go_sem,seval]
  refine hK _ (Aw_ret (hQ _ ?_))
  simp only [go_sem,seval]
  exact fin true (leadB_T ⟨h1,h2,h3,hi,hi1,hi2⟩)
 simp only [dte] at hc10
 have hil:i < p.length:=by omega
 have hg:=rows_get p i hil
 refine Aw_skip (hB9 _ ?_)
 refine Aw_sq fun B11 hB11 hR11 hX11=>?_
 refine Aw_bk fun B12 hN12 hE12 hR12 hX12=>?_
 refine Aw_st hE [0,1,7,8,32,33,34] [1000,1001] fun K hK=>?_
 simp only [go_sem,seval,hg]
 repeat refine sd0 ?_
 refine hK _ ?_;clear hK K
 cases h4:(decide (1≤p.getD i 0) && decide (p.getD i 0≤N.n)) with
 | false =>
  refine Aw_se hE [0,4,1,2,3,5,6,7,8,9,10,11,12,13,14,15,16,17,18,19,20,21,22,23,24] [0,1,3,7,0,31,63,127,255,511,1023,2047,4095,8191,16383,2047,2047,67583,231423,493567,2047,2097151,4194303,8388607,16777215] [0,1,32,33,34,63] [1000,1001] (by kernel_rfl) fun K hK=>?_
  refine daopsE_cut 6 fun K1 hK1=>?_
  simp only [go_sem,seval,h4,hmp,Bool.not_false]
  repeat refine sd0 ?_
  refine hK1 _ ?_
  clear hK1
  refine daopsE_cut 6 fun K1 hK1=>?_
  simp only [go_sem,seval,h4,hmp,Bool.not_false]
  repeat refine sd0 ?_
  refine hK1 _ ?_
  clear hK1
  refine daopsE_cut 6 fun K1 hK1=>?_
  simp only [go_sem,seval,h4,hmp,Bool.not_false]
  repeat refine sd0 ?_
  refine hK1 _ ?_
  clear hK1
  refine daopsE_cut 6 fun K1 hK1=>?_
  simp only [go_sem,seval,h4,hmp,Bool.not_false]
  repeat refine sd0 ?_
  refine hK1 _ ?_
  clear hK1
  simp only [go_sem,seval,h4,hmp,Bool.not_false]
  repeat refine sd0 ?_
  refine hK _ (Aw_yes rfl ?_)
  refine Aw_st hE [6] [1000,1001] fun K hK=>?_
  simp only [go_sem,seval]
  refine hK _ (Aw_ret (hR12 _ (hR11 _ (hR8 _ (hR7 _ (hR6 _ (hQ _ ?_)))))))
  simp only [go_sem,seval]
  exact fin false (leadB_F fun h=>by
   have:=h.2.2.2.2.1 i hil
   rw [decide_eq_true this.1,decide_eq_true this.2] at h4
   cases h4)
 | true =>
 have h4':1≤p.getD i 0∧p.getD i 0≤N.n:=by simpa using h4
 have nextI:(∀ j,i=j + 1→lkF N.t (p.getD j 0) (p.getD i 0)≠0)→ldI N.n (lkF N.t) p (i + 1):=fun h=>⟨by omega,fun j hj=>by
  by_cases e:j < i
  ·exact hi1 j e
  ·obtain rfl:j=i:=by omega
   exact h4',fun j hj=>by
  by_cases e:j + 1 < i
  ·exact hi2 j e
  ·obtain rfl:i=j + 1:=by omega
   exact h j rfl⟩
 cases i with
 | zero =>
  refine Aw_se hE [0,4,1,2,3,5,6,7,8,9,10,11,12,13,14,15,16,17,18,19,20,21,22,23,24] [0,1,3,7,0,31,63,127,255,511,1023,2047,4095,8191,16383,2047,2047,67583,231423,493567,2047,2097151,4194303,8388607,16777215] [0,1,32,33,34,63] [1000,1001] (by kernel_rfl) fun K hK=>?_
  refine daopsE_cut 6 fun K1 hK1=>?_
  simp only [go_sem,seval,h4,hmp,Bool.not_true,decide_false,Int.lt_irrefl]
  repeat refine sd0 ?_
  refine hK1 _ ?_
  clear hK1
  refine daopsE_cut 6 fun K1 hK1=>?_
  simp only [go_sem,seval,h4,hmp,Bool.not_true,decide_false,Int.lt_irrefl]
  repeat refine sd0 ?_
  refine hK1 _ ?_
  clear hK1
  refine daopsE_cut 6 fun K1 hK1=>?_
  simp only [go_sem,seval,h4,hmp,Bool.not_true,decide_false,Int.lt_irrefl]
  repeat refine sd0 ?_
  refine hK1 _ ?_
  clear hK1
  refine daopsE_cut 6 fun K1 hK1=>?_
  simp only [go_sem,seval,h4,hmp,Bool.not_true,decide_false,Int.lt_irrefl]
  repeat refine sd0 ?_
  refine hK1 _ ?_
  clear hK1
  simp only [go_sem,seval,h4,hmp,Bool.not_true,decide_false,Int.lt_irrefl]
  repeat refine sd0 ?_
  refine hK _ (Aw_no rfl (Aw_skip (hN12 _ (hB11 _ ?_))))
  refine Aw_tx hE [0,1,32,33,34] [1000,1001] fun K hK=>?_
  simp only [go_sem,seval]
  repeat refine sd0 ?_
  refine hK _ (hN8 1 _ (nextI fun j h=>by omega) (by omega) (Le.refl _))
 | succ i =>
 have hg2':(rows p)[(((i + 1:Nat):Int) - 1).toNat]? = some [.v (.int .i64 (p.getD i 0))]:=by rw [show (((i + 1:Nat):Int) - 1).toNat=i by omega];exact rows_get p i (by omega)
 have h0d:decide ((0:Int) < ((i + 1:Nat):Int))=true:=decide_eq_true (by omega)
 have h0':(0:Int)≤((i + 1:Nat):Int) - 1:=by omega
 by_cases h5:lkF N.t (p.getD i 0) (p.getD (i + 1) 0)=0
 ·have h5d:decide (lkF N.t (p.getD i 0) (p.getD (i + 1) 0)=0)=true:=decide_eq_true h5
  refine Aw_se hE [0,4,1,2,3,5,6,7,8,9,10,11,12,13,14,15,16,17,18,19,20,21,22,23,24] [0,1,3,7,0,31,63,127,255,511,1023,2047,4095,8191,16383,2047,2047,67583,231423,493567,2047,2097151,4194303,8388607,16777215] [0,1,32,33,34,63] [1000,1001] (by kernel_rfl) fun K hK=>?_
  refine daopsE_cut 6 fun K1 hK1=>?_
  simp only [go_sem,seval,hg2',h4,h0d,h0',hmp,h5d,decide_true,Bool.not_true]
  repeat refine sd0 ?_
  refine hK1 _ ?_
  clear hK1
  refine daopsE_cut 6 fun K1 hK1=>?_
  simp only [go_sem,seval,hg2',h4,h0d,h0',hmp,h5d,decide_true,Bool.not_true]
  repeat refine sd0 ?_
  refine hK1 _ ?_
  clear hK1
  refine daopsE_cut 6 fun K1 hK1=>?_
  simp only [go_sem,seval,hg2',h4,h0d,h0',hmp,h5d,decide_true,Bool.not_true]
  repeat refine sd0 ?_
  refine hK1 _ ?_
  clear hK1
  refine daopsE_cut 6 fun K1 hK1=>?_
  simp only [go_sem,seval,hg2',h4,h0d,h0',hmp,h5d,decide_true,Bool.not_true]
  repeat refine sd0 ?_
  refine hK1 _ ?_
  clear hK1
  simp only [go_sem,seval,hg2',h4,h0d,h0',hmp,h5d,decide_true,Bool.not_true]
  repeat refine sd0 ?_
  refine hK _ (Aw_yes rfl ?_)
  refine Aw_st hE [6] [1000,1001] fun K hK=>?_
  simp only [go_sem,seval]
  refine hK _ (Aw_ret (hR12 _ (hR11 _ (hR8 _ (hR7 _ (hR6 _ (hQ _ ?_)))))))
  simp only [go_sem,seval]
  exact fin false (leadB_F fun h=>h.2.2.2.2.2 i hil h5)
 ·have h5d:decide (lkF N.t (p.getD i 0) (p.getD (i + 1) 0)=0)=false:=decide_eq_false h5
  refine Aw_se hE [0,4,1,2,3,5,6,7,8,9,10,11,12,13,14,15,16,17,18,19,20,21,22,23,24] [0,1,3,7,0,31,63,127,255,511,1023,2047,4095,8191,16383,2047,2047,67583,231423,493567,2047,2097151,4194303,8388607,16777215] [0,1,32,33,34,63] [1000,1001] (by kernel_rfl) fun K hK=>?_
  refine daopsE_cut 6 fun K1 hK1=>?_
  simp only [go_sem,seval,hg2',h4,h0d,h0',hmp,h5d,decide_true,Bool.not_true]
  repeat refine sd0 ?_
  refine hK1 _ ?_
  clear hK1
  refine daopsE_cut 6 fun K1 hK1=>?_
  simp only [go_sem,seval,hg2',h4,h0d,h0',hmp,h5d,decide_true,Bool.not_true]
  repeat refine sd0 ?_
  refine hK1 _ ?_
  clear hK1
  refine daopsE_cut 6 fun K1 hK1=>?_
  simp only [go_sem,seval,hg2',h4,h0d,h0',hmp,h5d,decide_true,Bool.not_true]
  repeat refine sd0 ?_
  refine hK1 _ ?_
  clear hK1
  refine daopsE_cut 6 fun K1 hK1=>?_
  simp only [go_sem,seval,hg2',h4,h0d,h0',hmp,h5d,decide_true,Bool.not_true]
  repeat refine sd0 ?_
  refine hK1 _ ?_
  clear hK1
  simp only [go_sem,seval,hg2',h4,h0d,h0',hmp,h5d,decide_true,Bool.not_true]
  repeat refine sd0 ?_
  refine hK _ (Aw_no rfl (Aw_skip (hN12 _ (hB11 _ ?_))))
  refine Aw_tx hE [0,1,32,33,34] [1000,1001] fun K hK=>?_
  simp only [go_sem,seval]
  repeat refine sd0 ?_
  refine hK _ (hN8 (i + 1 + 1) _ (nextI fun j h=>by obtain rfl:i=j:=(by omega);exact h5) (by omega) (Le.refl _))
theorem way_home {n:Nat} {of:Rel} {home:Int} (h5:n≤5) (hh:hI n home) (w:List Int):wayOk n of home home w=decide (w=[home]):=by
 have h1:=hh.1
 have h2:=hh.2
 rw [Bool.eq_iff_iff,dte]
 constructor
 ·intro h
  by_cases e:w=[]
  ·rw [e,wayOk_nil] at h;simp at h
  ·obtain ⟨_,_,_,g4,_,g6⟩:=(wayOk_D e).1 h
   have g6:w.length=1:=g6.resolve_left fun h=>h rfl
   match w,g6,g4 with
   | [x],_,g4=>simp at g4;rw [g4]
 ·rintro rfl
  rw [wayOk_iff (by simp)]
  refine ⟨fun x hx=>by rw [List.mem_singleton.1 hx];exact hh,rfl,?_,rfl,rfl,.inr rfl⟩
  simp only [pathOk,isH,List.all_cons,List.all_nil,Bool.and_true,Bool.and_eq_true,dte]
  exact ⟨⟨by omega,by omega⟩,by simp⟩
def eRN (i:List (List Int) × Int × List (List Int)):List AV × List (Nat × List AV):=([wsl i.1,iv i.2.1,wsl i.2.2],[])
def cReadNet (pb:Addr):ConM:=mkM (WP pb) eRN (fun i=>bigM i.1∧bigM i.2.2) fun i r m2 =>
 (netOk i.1 i.2.1 i.2.2=false∧r = .tup [.v (.pointer none),bv false]∧m2=[])∨
 (netOk i.1 i.2.1 i.2.2=true∧∃ t,mpI t∧lkF t=ofR i.1∧r = .tup [.loc 39 0,bv true]∧m2=(⟨i.1.length,t,i.2.1,i.2.2⟩:Nt).M 39 437)
theorem wsl1_inj {a b:List (List Int)} (h:wsl a=wsl b):a=b:=wsl_inj (by rw [h])
theorem eRN_inj (i j:List (List Int) × Int × List (List Int)) (h:eRN i=eRN j):i=j:=by
 obtain ⟨R,x,W⟩:=i
 obtain ⟨R',x',W'⟩:=j
 have h1:=(Prod.mk.inj h).1
 obtain ⟨h1,h2⟩:=List.cons.inj h1
 obtain ⟨h2,h3⟩:=List.cons.inj h2
 obtain ⟨h3,_⟩:=List.cons.inj h3
 obtain rfl:=wsl1_inj h1
 obtain rfl:=wsl1_inj h3
 have h2:x=x':=by simpa using h2
 rw [h2]
theorem rn_pre (pb:Addr) (R:List (List Int)) (x:Int) (W:List (List Int)):(cReadNet pb).pre [wsl R,iv x,wsl W] []=(bigM R∧bigM W):=mkM_pre eRN_inj (R,x,W) rfl
theorem rn_post (pb:Addr) (R:List (List Int)) (x:Int) (W:List (List Int)) (K:AV→List (Nat × List AV)→Prop):(∀ r m2,(cReadNet pb).post [wsl R,iv x,wsl W] [] r m2→K r m2) =
  ((netOk R x W=false→K (.tup [.v (.pointer none),bv false]) [])∧(netOk R x W=true→∀ t,mpI t→lkF t=ofR R→K (.tup [.loc 39 0,bv true]) ((⟨R.length,t,x,W⟩:Nt).M 39 437))):=by
 refine (mkM_post eRN_inj (R,x,W) rfl K).trans (propext ⟨fun h=>⟨fun h0=>h _ _ (.inl ⟨h0,rfl,rfl⟩),fun h1 t ht hl=>h _ _ (.inr ⟨h1,t,ht,hl,rfl,rfl⟩)⟩,fun h r m2 ho=>?_⟩)
 rcases ho with ⟨h0,rfl,rfl⟩ | ⟨h1,t,ht,hl,rfl,rfl⟩
 ·exact h.1 h0
 ·exact h.2 h1 t ht hl
attribute [go_sem] rn_pre rn_post rrK
set_option maxHeartbeats 4000000 in
theorem readNet_ok (pb:Addr):FineM Tryd.prog 28 (cReadNet pb):=by
 refine fineM_of [] ms_nil [(46,(cLeads pb,[(1000,1000)],[])),(44,(cCopyW,[],[(8,400)]))] (mm_cons (leads_ok pb) (by decide) (mm_cons copyW_ok (by decide) mm_nil) (wp_inh pb)) [] [] ex_nil (T:=TT) Tryd.func28 rfl Tryd.ntmps28 (by rw [Tryd.results28]) rfl rfl tt (gs_cons readRels_ok gs_nil) (ds_cons hasM_ok (ds_cons eqI_ok ds_nil)) ?_
 rintro args m1 ⟨⟨R,x,W⟩,e,hbR,hbW⟩
 obtain ⟨rfl,rfl⟩:=Prod.mk.inj e.symm
 refine ⟨by simp,fun E hE Q hQ=>?_⟩
 simp only at hbR hbW
 have bad:netOk R x W=false→(cReadNet pb).post [wsl R,iv x,wsl W] [] (.tup [.v (.pointer none),bv false]) []:=fun h=>⟨(R,x,W),rfl,.inl ⟨h,rfl,rfl⟩⟩
 refine Aw_st hE [0,1,2] [8,39,437] fun K hK=>?_
 simp only [go_sem,seval]
 refine hK _ ?_;clear hK K
 refine Aw_st hE [1,2,8,9] [8,39,437] fun K hK=>?_
 simp only [go_sem,seval]
 refine ⟨hbR,fun hok=>?_,fun hok t hmp hlk=>?_⟩
 ·refine hK _ ?_;clear hK K
  refine Aw_sq fun B1 hB1 hR1 hX1=>?_
  refine Aw_st hE [1,2,8,33] [8,39,437] fun K hK=>?_
  simp only [go_sem,seval]
  refine hK _ (Aw_yes rfl ?_)
  refine Aw_st hE [6,7] [999] fun K hK=>?_
  simp only [go_sem,seval]
  refine hK _ (Aw_ret (hR1 _ (hQ _ ?_)))
  simp only [go_sem,seval]
  exact bad (netOk_F fun h=>by rw [h.1] at hok;cases hok)
 refine hK _ ?_;clear hK K
 refine Aw_sq fun B1 hB1 hR1 hX1=>?_
 have hW4:W.length≤2000000:=hbW.1
 have hn5:=(relsOk_iff.1 hok).1.2
 cases h1:hIb R.length x with
 | false =>
  have hno:=bad (netOk_F fun h=>by rw [h.2.1] at h1;cases h1)
  unfold hIb at h1
  refine Aw_st hE [1,2,8,33] [8,39,437] fun K hK=>?_
  refine aops_cut 6 fun K1 hK1=>?_
  simp only [go_sem,seval,h1,Bool.not_true,Bool.not_false]
  repeat refine sd0 ?_
  refine hK1 _ ?_
  clear hK1
  refine aops_cut 6 fun K1 hK1=>?_
  simp only [go_sem,seval,h1,Bool.not_true,Bool.not_false]
  repeat refine sd0 ?_
  refine hK1 _ ?_
  clear hK1
  simp only [go_sem,seval,h1,Bool.not_true,Bool.not_false]
  repeat refine sd0 ?_
  refine hK _ (Aw_yes rfl ?_)
  refine Aw_st hE [6,7] [999] fun K hK=>?_
  simp only [go_sem,seval]
  refine hK _ (Aw_ret (hR1 _ (hQ _ ?_)))
  simp only [go_sem,seval]
  exact hno
 | true =>
 have h1':=hIb_iff.1 h1
 have h1b:(decide (1≤x) && decide (x≤R.length))=true:=h1
 by_cases h2:W.length=R.length
 rotate_left
 ·have hno:=bad (netOk_F fun h=>h2 h.2.2.1)
  have h2d:decide ((W.length:Int)=R.length)=false:=decide_eq_false (by omega)
  refine Aw_st hE [1,2,8,33] [8,39,437] fun K hK=>?_
  refine aops_cut 6 fun K1 hK1=>?_
  simp only [go_sem,seval,h1b,h2d,Bool.not_true,Bool.not_false]
  repeat refine sd0 ?_
  refine hK1 _ ?_
  clear hK1
  refine aops_cut 6 fun K1 hK1=>?_
  simp only [go_sem,seval,h1b,h2d,Bool.not_true,Bool.not_false]
  repeat refine sd0 ?_
  refine hK1 _ ?_
  clear hK1
  simp only [go_sem,seval,h1b,h2d,Bool.not_true,Bool.not_false]
  repeat refine sd0 ?_
  refine hK _ (Aw_yes rfl ?_)
  refine Aw_st hE [6,7] [999] fun K hK=>?_
  simp only [go_sem,seval]
  refine hK _ (Aw_ret (hR1 _ (hQ _ ?_)))
  simp only [go_sem,seval]
  exact hno
 have h2d:decide ((W.length:Int)=R.length)=true:=decide_eq_true (by omega)
 refine Aw_st hE [1,2,8,33] [8,39,437] fun K hK=>?_
 refine aops_cut 6 fun K1 hK1=>?_
 simp only [go_sem,seval,h1b,h2d,Bool.not_true,decide_true]
 repeat refine sd0 ?_
 refine hK1 _ ?_
 clear hK1
 refine aops_cut 6 fun K1 hK1=>?_
 simp only [go_sem,seval,h1b,h2d,Bool.not_true,decide_true]
 repeat refine sd0 ?_
 refine hK1 _ ?_
 clear hK1
 simp only [go_sem,seval,h1b,h2d,Bool.not_true,decide_true]
 repeat refine sd0 ?_
 refine hK _ (Aw_no rfl (Aw_skip (hB1 _ ?_)))
 refine Aw_sm hE [1,2,10] [8,39,437] 6 (by kernel_rfl) fun K hK=>?_
 simp only [go_sem,seval,hbW]
 refine ⟨⟨by decide,_,_,W,rfl,rfl,rfl⟩,?_⟩
 refine hK _ ?_;clear hK K
 refine Aw_sq fun B6 hB6 hR6 hX6=>?_
 refine Aw_st hE [1,10,40,41,42] [8,39,437] fun K hK=>?_
 simp only [go_sem,seval]
 refine hK _ ?_;clear hK K
 refine Aw_bk fun B7 hN7 hE7 hR7 hX7=>?_
 refine Aw_lp (fun i:Nat=>⟨71,[(1,iv x),(10,.loc 39 0),(40,wsl W),(41,iv (W.length:Int)),(42,iv (i:Int))],(⟨R.length,t,x,W⟩:Nt).M 39 437,0⟩) (fun i=>i≤W.length∧∀ j,j < i→wayOk R.length (ofR R) x ((j:Int) + 1) (W.getD j [])=true) (fun i=>W.length - i) 0 (Le_wa) ⟨by omega,fun j h=>absurd h (by omega)⟩ fun i hi B8 hN8 hR8 hX8=>?_
 obtain ⟨hi,hways⟩:=hi
 refine Aw_st hE [1,10,40,41,42,43] [8,39,437] fun K hK=>?_
 simp only [go_sem,seval]
 refine hK _ ?_;clear hK K
 refine Aw_sq fun B9 hB9 hR9 hX9=>?_
 refine Aw_cond rfl (fun hc10=>?_) (fun hc10=>?_)
 rotate_left
 ·simp only [dfn] at hc10
  refine Aw_exit (hX9 _ _ (hX8 _ _ (hE7 _ (hB6 _ ?_))))
  refine Aw_st hE [6,7] [39,437] fun K hK=>?_
  simp only [go_sem,seval]
  refine hK _ (Aw_ret (hQ _ ?_))
  simp only [go_sem,seval]
  exact ⟨(R,x,W),rfl,.inr ⟨netOk_N.2 ⟨hok,h1,h2,fun j hj=>hways j (by have:j < R.length:=hj;omega)⟩,t,hmp,hlk,rfl,rfl⟩⟩
 simp only [dte] at hc10
 have hil:i < W.length:=by omega
 have hgw:=wrows_get W i hil
 have hwl:=hbW.2 _ (getD_memL W i hil)
 have hwl4:(W.getD i []).length≤4294967296:=by omega
 have hbadi:wayOk R.length (ofR R) x ((i:Int) + 1) (W.getD i [])=false→netOk R x W=false:=fun h=>netOk_F fun h'=>by rw [h'.2.2.2 i (by omega)] at h;cases h
 have hnext:wayOk R.length (ofR R) x ((i:Int) + 1) (W.getD i [])=true→i + 1≤W.length∧∀ j,j < i + 1→wayOk R.length (ofR R) x ((j:Int) + 1) (W.getD j [])=true:=fun h=>⟨by omega,fun j hj=>if e:j < i then hways j e else (by obtain rfl:j=i:=(by omega);exact h)⟩
 refine Aw_skip (hB9 _ ?_)
 refine Aw_sq fun B11 hB11 hR11 hX11=>?_
 refine Aw_bk fun B12 hN12 hE12 hR12 hX12=>?_
 refine Aw_st hE [1,10,11,12,40,41,42] [8,39,437] fun K hK=>?_
 simp only [go_sem,seval,hgw]
 repeat refine sd0 ?_
 refine hK _ ?_;clear hK K
 refine Aw_st hE [1,10,12,13,40,41,42] [8,39,437] fun K hK=>?_
 simp only [go_sem,seval]
 repeat refine sd0 ?_
 refine hK _ ?_;clear hK K
 refine Aw_bk fun B13 hN13 hE13 hR13 hX13=>?_
 refine Aw_st hE [1,10,12,13,40,41,42,49] [8,39,437] fun K hK=>?_
 simp only [go_sem,seval]
 refine hK _ (Aw_cond rfl (fun hc14=>?_) (fun hc14=>?_))
 ·simp only [dte] at hc14
  have hwh:=way_home (of:=ofR R) hn5 h1' (W.getD i [])
  rw [← hc14] at hwh
  rw [hc14] at hwh
  refine Aw_st hE [1,10,40,41,42,57] [8,39,437] fun K hK=>?_
  simp only [go_sem,seval,none_row,hwl4]
  repeat refine sd0 ?_
  refine hK _ (Aw_cond rfl (fun hc15=>?_) (fun hc15=>?_))
  ·simp only [Bool.not_eq_true',dfn] at hc15
   have hno:=bad (hbadi (by rw [hc14,hwh];exact decide_eq_false hc15))
   refine Aw_st hE [6,7] [999] fun K hK=>?_
   simp only [go_sem,seval]
   refine hK _ (Aw_ret (hR13 _ (hR12 _ (hR11 _ (hR8 _ (hR7 _ (hR6 _ (hQ _ ?_))))))))
   simp only [go_sem,seval]
   exact hno
  ·simp only [Bool.not_eq_false',dte] at hc15
   refine Aw_skip (hN13 _ (hN12 _ (hB11 _ ?_)))
   refine Aw_tx hE [1,10,40,41,42] [8,39,437] fun K hK=>?_
   simp only [go_sem,seval]
   repeat refine sd0 ?_
   refine hK _ (hN8 (i + 1) _ (hnext (by rw [hc14,hwh];exact decide_eq_true hc15)) (by omega) (Le.refl _))
 ·simp only [dfn] at hc14
  have hlen0:(wayOk R.length (ofR R) x ((i:Int) + 1) [])=true:=by rw [wayOk_nil];simpa using hc14
  have hlb:W.getD i []≠[]→leadB R.length (lkF t) x ((i:Int) + 1) (W.getD i [])=wayOk R.length (ofR R) x ((i:Int) + 1) (W.getD i []):=fun hne=>by rw [hlk];exact leadB_way hne hc14
  have hlp:=leads_post pb ⟨R.length,t,x,W⟩ (W.getD i []) ((i:Int) + 1)
  have hlq:=leads_pre pb ⟨R.length,t,x,W⟩ (W.getD i []) ((i:Int) + 1)
  simp only [Nt.M] at hlp hlq
  refine Aw_st hE [1,10,40,41,42,58] [8,39,437] fun K hK=>?_
  simp only [go_sem,seval,hmp,hwl,hlp,hlq]
  refine ⟨fun h3=>⟨by decide,?_,?_⟩,fun h3=>?_⟩
  ·simp only [dte] at h3;omega
  ·simp only [dte] at h3
   have hne:W.getD i []≠[]:=fun e=>by rw [e] at h3;simp at h3
   have hl:=hlb hne
   refine hK _ (Aw_cond rfl (fun hc18=>?_) (fun hc18=>?_))
   ·have hno:=bad (hbadi (by rw [← hl];simpa using hc18))
    refine Aw_st hE [6,7] [999] fun K hK=>?_
    simp only [go_sem,seval]
    refine hK _ (Aw_ret (hR13 _ (hR12 _ (hR11 _ (hR8 _ (hR7 _ (hR6 _ (hQ _ ?_))))))))
    simp only [go_sem,seval]
    exact hno
   ·refine Aw_skip (hN13 _ (hN12 _ (hB11 _ ?_)))
    refine Aw_tx hE [1,10,40,41,42] [8,39,437] fun K hK=>?_
    simp only [go_sem,seval]
    repeat refine sd0 ?_
    refine hK _ (hN8 (i + 1) _ (hnext (by rw [← hl];simpa using hc18)) (by omega) (Le.refl _))
  ·simp only [dfn] at h3
   have he:W.getD i []=[]:=List.eq_nil_of_length_eq_zero (by omega)
   refine hK _ (Aw_no rfl (Aw_skip (hN13 _ (hN12 _ (hB11 _ ?_)))))
   refine Aw_tx hE [1,10,40,41,42] [8,39,437] fun K hK=>?_
   simp only [go_sem,seval]
   repeat refine sd0 ?_
   refine hK _ (hN8 (i + 1) _ (hnext (by rw [he];exact hlen0)) (by omega) (Le.refl _))
def cGrow:ConM:=mkM (fun _=>True) (fun n:Int=>([.nl,iv n],[])) (fun n=>0 < n∧n≤2000000) fun n r m2=>∃ cap:Nat,n.toNat≤cap∧r = .xs 22 0 0 cap 1∧m2=[(22,List.replicate cap .junk)]
theorem grow_inj (i j:Int) (h:(([.nl,iv i],[]):List AV × List (Nat × List AV))=([.nl,iv j],[])):i=j:=by simpa using h
theorem grow_pre (n:Int):cGrow.pre [.nl,iv n] []=(0 < n∧n≤2000000):=mkM_pre grow_inj n rfl
theorem grow_post (n:Int) (K:AV→List (Nat × List AV)→Prop):(∀ r m2,cGrow.post [.nl,iv n] [] r m2→K r m2) = ∀ cap:Nat,n.toNat≤cap→K (.xs 22 0 0 cap 1) [(22,List.replicate cap .junk)] :=
 (mkM_post grow_inj n rfl K).trans (propext ⟨fun h cap hc=>h _ _ ⟨cap,hc,rfl,rfl⟩,fun h r m2 ⟨cap,hc,e1,e2⟩=>by rw [e1,e2];exact h cap hc⟩)
theorem junk_strip (d n:Nat):AV.stripLAll d (List.replicate n .junk)=List.replicate n .junk:=by rw [AV.stripLAll_eq,List.map_replicate];rfl
theorem junk_stripF (F:Nat→Bool) (n:Nat):AV.stripFAll F (List.replicate n .junk)=List.replicate n .junk:=by rw [stripFAll_eq,List.map_replicate];rfl
theorem junk_nt (n:Nat):AV.ntAll (List.replicate n .junk)=List.replicate n .junk:=by rw [ntAll_eq,List.map_replicate];rfl
theorem junk_mvn (f:Nat→Option Nat) (n:Nat):AV.mvnAll f (List.replicate n .junk)=List.replicate n .junk:=by rw [mvnAll_eq,List.map_replicate];rfl
theorem junk_A (d n:Nat):AV.stripAll d (List.replicate n .junk)=List.replicate n .junk:=by rw [AV.stripAll_eq,List.map_replicate];rfl
attribute [go_sem] grow_pre grow_post junk_strip junk_stripF junk_nt junk_mvn junk_A
theorem grow_ok:FineM Tryd.prog 63 cGrow:=by
 refine fineM_of [] ms_nil [] mm_nil [22] [] ex_nil (T:=TT) Tryd.func63 rfl Tryd.ntmps63 (by rw [Tryd.results63]) rfl rfl tt gs_nil ds_nil ?_
 rintro args m1 ⟨n,e,hn0,hn1⟩
 obtain ⟨rfl,rfl⟩:=Prod.mk.inj e.symm
 refine ⟨by simp,fun E hE Q hQ=>?_⟩
 have h1d:decide (n < 0)=false:=decide_eq_false (by omega)
 have h2d:decide ((0:Int) < n)=true:=decide_eq_true hn0
 refine Aw_st hE [0,1] [22] fun K hK=>?_
 simp only [go_sem,seval]
 refine hK _ ?_;clear hK K
 refine Aw_sq fun B1 hB1 hR1 hX1=>?_
 refine Aw_st hE [0,1,6] [22] fun K hK=>?_
 simp only [go_sem,seval,h1d]
 refine hK _ (Aw_no rfl (Aw_skip (hB1 _ ?_)))
 refine Aw_sq fun B3 hB3 hR3 hX3=>?_
 refine Aw_st hE [0,1] [22] fun K hK=>?_
 simp only [go_sem,seval,Int.sub_zero]
 repeat refine sd0 ?_
 refine hK _ ?_;clear hK K
 refine Aw_st hE [0,1,16] [22] fun K hK=>?_
 simp only [go_sem,seval,h2d]
 refine hK _ (Aw_yes rfl ?_)
 refine Aw_tx hE [0] [22] fun K hK=>?_
 simp only [go_sem,seval]
 refine ⟨⟨⟨by omega,by decide⟩,by omega⟩,fun cap hcap=>⟨by omega,?_⟩⟩
 refine hK _ (hB3 _ ?_)
 refine Aw_st hE [4] [22] fun K hK=>?_
 simp only [go_sem,seval]
 refine hK _ (Aw_ret (hQ _ ?_))
 simp only [go_sem,seval]
 exact ⟨n,rfl,cap,hcap,rfl,rfl⟩
def gMinW:List AV→Option (Prop × AV)
 | [.sl _ els,y]=>(match fnOf y,waysL els with
  | some g,some l=>if g=50 then some ((0 < l.length∧l.length≤2000000)∧∀ w ∈ l,pathOk w=true,isl (minL l)) else none
  | _,_=>none)
 | _=>none
def dMinW (pb:Addr):DFn:={ g:=gMinW,inv:=WP pb }
attribute [go_sem] gMinW dMinW
theorem minL_snoc {a:List (List Int)} (ha:a≠[]) (w:List Int):minL (a++[w])=if pCmp w (minL a) < 0 then w else minL a:=by
 cases a with
 | nil=>exact absurd rfl ha
 | cons x l =>
  show minF x (l++[w])=_
  unfold minF
  rw [List.foldl_append];rfl
theorem minW_ok (pb : Addr) : Fine Tryd.prog 49 (dMinW pb).con := by
  refine fine_det (T := TT) Tryd.func49 rfl Tryd.ntmps49 (by rw [Tryd.results49]) rfl rfl tt gs_nil (ds_cons (iPCmp_ok pb) ds_nil (wp_inh pb)) ?_
  intro args c r h hc
  simp only [dMinW, gMinW] at h
  split at h
  rotate_left
  · cases h
  split at h
  rotate_left
  · cases h
  split at h
  rotate_left
  · cases h
  rename_i t els y _ _ g l hf hiw hg
  obtain rfl := waysL_eq hiw
  subst hg
  obtain rfl := fnOf_ok hf
  obtain ⟨rfl, rfl⟩ := Prod.mk.inj (Option.some.inj h)
  obtain ⟨⟨hl0, hl1⟩, hok⟩ := hc
  refine ⟨by simp, fun k E hE Q hQ => ?_⟩
  have h1d : decide ((l.length : Int) < 1) = false := decide_eq_false (by omega)
  have hlen : ∀ w ∈ l, w.length ≤ 4294967296 := fun w hw => by have := pathOk_len (hok w hw); omega
  have h0 := wrows_get l 0 hl0
  have hmm : ∀ i, 0 < i → i ≤ l.length → minL (l.take i) ∈ l := fun i h1 h2 => by
    cases ht : l.take i with
    | nil => rw [List.take_eq_nil_iff] at ht; rcases ht with ht | ht
             · omega
             · rw [ht] at hl0; simp at hl0
    | cons x q => have := minL_mem (x := x) (l := q); rw [← ht] at this ⊢; exact List.mem_of_mem_take this
  have h1m : minL (l.take 1) = l.getD 0 [] := by
    cases l with
    | nil => simp at hl0
    | cons x q => rfl
  refine Aw_st hE [0, 1] [] fun K hK => ?_
  simp only [go_sem, seval]
  refine hK _ ?_; clear hK K
  refine Aw_sq fun B1 hB1 hR1 hX1 => ?_
  refine Aw_st hE [0, 1, 9] [] fun K hK => ?_
  simp only [go_sem, seval, h1d]
  refine hK _ (Aw_no rfl (Aw_skip (hB1 _ ?_)))
  refine Aw_st hE [0, 1, 5] [] fun K hK => ?_
  simp only [go_sem, seval, h0]
  repeat refine sd0 ?_
  refine hK _ ?_; clear hK K
  refine Aw_sq fun B11 hB11 hR11 hX11 => ?_
  refine Aw_st hE [0, 1, 5, 6] [] fun K hK => ?_
  simp only [go_sem, seval]
  refine hK _ ?_; clear hK K
  refine Aw_bk fun B12 hN12 hE12 hR12 hX12 => ?_
  refine Aw_lp (fun i : Nat => ⟨33, [(0, wsl l), (1, .v (.func (.func 50) #[] #[])), (5, isl (minL (l.take i))), (6, iv (i : Int))], [], k⟩) (fun i => 0 < i ∧ i ≤ l.length) (fun i => l.length - i) 1 (Le_wk (by first | omega | (dsimp only; omega) | (simp only; omega) | (simp; omega)) (by simp only [go_sem, seval, h1m]) (by simp only [go_sem, seval])) ⟨by omega, by omega⟩ fun i hi B13 hN13 hR13 hX13 => ?_
  obtain ⟨hi0, hi⟩ := hi
  refine Aw_sq fun B14 hB14 hR14 hX14 => ?_
  refine Aw_st hE [0, 1, 5, 6, 17] [] fun K hK => ?_
  simp only [go_sem, seval]
  refine hK _ (Aw_cond rfl (fun hc15 => ?_) (fun hc15 => ?_))
  rotate_left
  · simp only [dfn] at hc15
    refine Aw_exit (hX14 _ _ (hX13 _ _ (hE12 _ (hB11 _ ?_))))
    refine Aw_st hE [4] [] fun K hK => ?_
    simp only [go_sem, seval]
    refine hK _ (Aw_ret (hQ _ ?_))
    simp only [go_sem, seval]
    rw [List.take_of_length_le (by omega)]
  simp only [dte] at hc15
  have hil : i < l.length := by omega
  have hgw := wrows_get l i hil
  have hmem := getD_memL l i hil
  have ho1 := hok _ hmem
  have ho2 := hok _ (hmm i hi0 hi)
  have hl2 := hlen _ hmem
  have hl3 := hlen _ (hmm i hi0 hi)
  have hst := take_one l i [] hil
  have hsn := minL_snoc (a := l.take i) (fun e => by rw [List.take_eq_nil_iff] at e; rcases e with e | e; omega; rw [e] at hl0; simp at hl0) (l.getD i [])
  rw [← hst] at hsn
  refine Aw_skip (hB14 _ ?_)
  refine Aw_sq fun B16 hB16 hR16 hX16 => ?_
  refine Aw_bk fun B17 hN17 hE17 hR17 hX17 => ?_
  refine Aw_st hE [0, 1, 5, 6, 27] [] fun K hK => ?_
  simp only [go_sem, seval, hgw, ho1, ho2, hl2, hl3]
  repeat refine sd0 ?_
  refine hK _ (Aw_cond rfl (fun hc18 => ?_) (fun hc18 => ?_))
  · simp only [dte] at hc18
    rw [if_pos hc18] at hsn
    refine Aw_tx hE [0, 1, 5, 6] [] fun K hK => ?_
    simp only [go_sem, seval, hgw]
    repeat refine sd0 ?_
    refine hK _ (hN17 _ (hB16 _ ?_))
    refine Aw_tx hE [0, 1, 5, 6] [] fun K hK => ?_
    simp only [go_sem, seval]
    repeat refine sd0 ?_
    refine hK _ (hN13 (i + 1) _ ⟨by omega, by omega⟩ (by omega) (by rw [hsn]; exact Le.refl _))
  · simp only [dfn] at hc18
    rw [if_neg hc18] at hsn
    refine Aw_skip (hN17 _ (hB16 _ ?_))
    refine Aw_tx hE [0, 1, 5, 6] [] fun K hK => ?_
    simp only [go_sem, seval]
    repeat refine sd0 ?_
    refine hK _ (hN13 (i + 1) _ ⟨by omega, by omega⟩ (by omega) (by rw [hsn]; exact Le.refl _))
def gConc:List AV→Option (Prop × AV)
 | [.sl _ els]=>(match waysL els with
  | some [[h],w]=>some (w.length≤1000,isl (h::w))
  | _=>none)
 | _=>none
def dConc:DFn:={ g:=gConc }
attribute [go_sem] gConc dConc
theorem conc_ok:Fine Tryd.prog 48 dConc.con:=by
 refine fine_detX [] gl_nil [] ms_nil [(63,(cGrow,[],[(22,400)]))] (mm_cons grow_ok (by decide) mm_nil) [] [] ex_nil (T:=TT) Tryd.func48 rfl Tryd.ntmps48 (by rw [Tryd.results48]) rfl rfl tt gs_nil ds_nil ?_
 intro args c r h hc
 simp only [dConc,gConc] at h
 split at h
 rotate_left
 ·cases h
 split at h
 rotate_left
 ·cases h
 rename_i t els _ y w hiw
 obtain rfl:=waysL_eq hiw
 obtain ⟨rfl,rfl⟩:=Prod.mk.inj (Option.some.inj h)
 refine ⟨by simp,fun k E hE Q hQ=>?_⟩
 have hw0:(wrows [[y],w])[0]? = some [.sl (rows [y])]:=rfl
 have hw1:(wrows [[y],w])[1]? = some [.sl (rows w)]:=rfl
 have hs1:decide ((0:Int) + 1 < 0)=false:=rfl
 have hs2:decide ((0:Int) + 1 + (w.length:Int) < 0)=false:=decide_eq_false (by omega)
 refine Aw_st hE [0] [424] fun K hK=>?_
 simp only [go_sem,seval]
 refine hK _ ?_;clear hK K
 refine Aw_st hE [0,3] [424] fun K hK=>?_
 simp only [go_sem,seval]
 refine hK _ ?_;clear hK K
 refine Aw_sq fun B1 hB1 hR1 hX1=>?_
 refine Aw_st hE [0,3,9,10,11] [424] fun K hK=>?_
 simp only [go_sem,seval]
 refine hK _ ?_;clear hK K
 refine Aw_bk fun B2 hN2 hE2 hR2 hX2=>?_
 refine Aw_unr 3 ?_
 refine Aw_rd fun B3 hN3 hR3 hX3=>?_
 refine Aw_st hE [0,3,9,10,11,12] [424] fun K hK=>?_
 simp only [go_sem,seval]
 refine hK _ ?_;clear hK K
 refine Aw_sq fun B4 hB4 hR4 hX4=>?_
 refine Aw_yes rfl (Aw_skip (hB4 _ ?_))
 refine Aw_sq fun B6 hB6 hR6 hX6=>?_
 refine Aw_bk fun B7 hN7 hE7 hR7 hX7=>?_
 refine Aw_st hE [0,3,5,9,10,11] [424] fun K hK=>?_
 simp only [go_sem,seval,hw0]
 repeat refine sd0 ?_
 refine hK _ ?_;clear hK K
 refine Aw_st hE [0,3,9,10,11] [424] fun K hK=>?_
 simp only [go_sem,seval]
 repeat refine sd0 ?_
 refine hK _ ?_;clear hK K
 refine Aw_st hE [0,3,9,10,11,20] [424] fun K hK=>?_
 simp only [go_sem,seval,hs1]
 refine hK _ (Aw_no rfl (Aw_skip (hN7 _ (hB6 _ ?_))))
 refine Aw_tx hE [0,3,9,10,11] [424] fun K hK=>?_
 simp only [go_sem,seval]
 repeat refine sd0 ?_
 refine hK _ (hN3 _ ?_)
 refine Aw_rd fun B9 hN9 hR9 hX9=>?_
 refine Aw_st hE [0,3,9,10,11,12] [424] fun K hK=>?_
 simp only [go_sem,seval]
 refine hK _ ?_;clear hK K
 refine Aw_sq fun B10 hB10 hR10 hX10=>?_
 refine Aw_yes rfl (Aw_skip (hB10 _ ?_))
 refine Aw_sq fun B12 hB12 hR12 hX12=>?_
 refine Aw_bk fun B13 hN13 hE13 hR13 hX13=>?_
 refine Aw_st hE [0,3,5,9,10,11] [424] fun K hK=>?_
 simp only [go_sem,seval,hw1]
 repeat refine sd0 ?_
 refine hK _ ?_;clear hK K
 refine Aw_st hE [0,3,9,10,11] [424] fun K hK=>?_
 simp only [go_sem,seval]
 repeat refine sd0 ?_
 refine hK _ ?_;clear hK K
 refine Aw_st hE [0,3,9,10,11,20] [424] fun K hK=>?_
 simp only [go_sem,seval,hs2]
 refine hK _ (Aw_no rfl (Aw_skip (hN13 _ (hB12 _ ?_))))
 refine Aw_tx hE [0,3,9,10,11] [424] fun K hK=>?_
 simp only [go_sem,seval]
 repeat refine sd0 ?_
 refine hK _ (hN9 _ ?_)
 refine Aw_rd fun B15 hN15 hR15 hX15=>?_
 refine Aw_st hE [0,3,9,10,11,12] [424] fun K hK=>?_
 simp only [go_sem,seval]
 refine hK _ ?_;clear hK K
 refine Aw_sq fun B16 hB16 hR16 hX16=>?_
 refine Aw_no rfl (Aw_exit (hX16 _ _ (hX15 _ _ (hE2 _ (hB1 _ ?_)))))
 refine Aw_st hE [0,6] [424] fun K hK=>?_
 simp only [go_sem,seval]
 refine ⟨by decide,⟨by omega,by omega⟩,fun cap hcap=>?_⟩
 obtain ⟨r,rfl⟩:∃ r,cap=1 + (w.length + r):=⟨cap - 1 - w.length,by omega⟩
 refine hK _ ?_;clear hK K
 refine Aw_sq fun B21 hB21 hR21 hX21=>?_
 refine Aw_st hE [6,25,26,27] [424] fun K hK=>?_
 simp only [go_sem,seval]
 refine hK _ ?_;clear hK K
 refine Aw_bk fun B22 hN22 hE22 hR22 hX22=>?_
 refine Aw_unr 3 ?_
 refine Aw_rd fun B23 hN23 hR23 hX23=>?_
 refine Aw_st hE [6,25,26,27,28] [424] fun K hK=>?_
 simp only [go_sem,seval]
 refine hK _ ?_;clear hK K
 refine Aw_sq fun B24 hB24 hR24 hX24=>?_
 refine Aw_yes rfl (Aw_skip (hB24 _ ?_))
 refine Aw_sq fun B26 hB26 hR26 hX26=>?_
 refine Aw_bk fun B27 hN27 hE27 hR27 hX27=>?_
 refine Aw_st hE [6,8,25,26,27] [424] fun K hK=>?_
 simp only [go_sem,seval,hw0]
 repeat refine sd0 ?_
 refine hK _ ?_;clear hK K
 have hset1:setL (List.replicate (1 + (w.length + r)) AV.junk) 0 (List.take 1 (cI [y]))=cI [y]++List.replicate (w.length + r) AV.junk:=by
  rw [setL_at _ _ _ (by simp [cI])]
  have:(List.take 1 (cI [y])).length=1:=rfl
  rw [this,List.drop_replicate,show 1 + (w.length + r) - (0 + 1)=w.length + r by omega]
  rfl
 have hset2:setL (cI [y]++List.replicate (w.length + r) AV.junk) 1 (List.take w.length (cI w))=cI (y::w)++List.replicate r AV.junk:=by
  rw [List.take_of_length_le (by rw [cI_len];exact Nat.le_refl _),setL_at _ _ _ (by simp [cI];omega),cI_len]
  have e1:List.take 1 (cI [y]++List.replicate (w.length + r) AV.junk)=cI [y]:=rfl
  have e2:List.drop (1 + w.length) (cI [y]++List.replicate (w.length + r) AV.junk)=List.replicate r AV.junk:=by
   have:cI [y]++List.replicate (w.length + r) AV.junk=(iv y::List.replicate w.length AV.junk)++List.replicate r AV.junk:=by
    rw [← List.replicate_append_replicate];rfl
   rw [this,List.drop_left' (by simp;omega)]
  rw [e1,e2];rfl
 have hlf1:allLeaf (List.take 1 (cI [y]))=true:=rfl
 have hlf2:allLeaf (List.take w.length (cI w))=true:=by rw [List.take_of_length_le (by rw [cI_len];exact Nat.le_refl _),allLeaf_cI]
 refine Aw_tx hE [6,25,26,27] [424] fun K hK=>?_
 simp only [go_sem,seval,hset1,hlf1]
 refine ⟨⟨rows_row _,by rw [List.length_replicate];exact Nat.le_refl _⟩,fun _=>?_,fun h=>absurd h (by omega)⟩
 refine hK _ (hN27 _ (hB26 _ ?_))
 refine Aw_tx hE [6,25,26,27] [424] fun K hK=>?_
 simp only [go_sem,seval]
 repeat refine sd0 ?_
 refine hK _ (hN23 _ ?_)
 refine Aw_rd fun B28 hN28 hR28 hX28=>?_
 refine Aw_st hE [6,25,26,27,28] [424] fun K hK=>?_
 simp only [go_sem,seval]
 refine hK _ ?_;clear hK K
 refine Aw_sq fun B29 hB29 hR29 hX29=>?_
 refine Aw_yes rfl (Aw_skip (hB29 _ ?_))
 refine Aw_sq fun B31 hB31 hR31 hX31=>?_
 refine Aw_bk fun B32 hN32 hE32 hR32 hX32=>?_
 refine Aw_st hE [6,8,25,26,27] [424] fun K hK=>?_
 simp only [go_sem,seval,hw1]
 repeat refine sd0 ?_
 refine hK _ ?_;clear hK K
 refine Aw_tx hE [6,25,26,27] [424] fun K hK=>?_
 simp only [go_sem,seval,hset2,hlf2]
 refine ⟨⟨rows_row _,by omega,by simp [cI];omega⟩,fun _=>?_,fun h=>absurd h (by omega)⟩
 refine hK _ (hN32 _ (hB31 _ ?_))
 refine Aw_tx hE [6,25,26,27] [424] fun K hK=>?_
 simp only [go_sem,seval]
 repeat refine sd0 ?_
 refine hK _ (hN28 _ ?_)
 refine Aw_rd fun B33 hN33 hR33 hX33=>?_
 refine Aw_st hE [6,25,26,27,28] [424] fun K hK=>?_
 simp only [go_sem,seval]
 refine hK _ ?_;clear hK K
 refine Aw_sq fun B34 hB34 hR34 hX34=>?_
 refine Aw_no rfl (Aw_exit (hX34 _ _ (hX33 _ _ (hE22 _ (hB21 _ ?_)))))
 refine Aw_st hE [2] [424] fun K hK=>?_
 simp only [go_sem,seval]
 refine hK _ ?_
 have hcy:(cI (y::w)++List.replicate r AV.junk).take (1 + w.length)=cI (y::w):=List.take_left' (by rw [cI_len,List.length_cons];omega)
 refine Aw_frz hE rfl 424 (1 + w.length) (ls:=cI (y::w)++List.replicate r AV.junk) (ys:=(y::w).map fun n=>.v (.int .i64 n)) rfl (by rw [hcy];exact ofAll_cI _) ?_
 have hch:chunks 1 (1 + w.length) (List.take (1 + w.length) ((y::w).map fun n=>DV.v (.int .i64 n)))=rows (y::w):=by
  have:=frz_rows (y::w)
  rw [List.length_cons,Nat.add_comm] at this
  exact this
 have hln:1 + w.length≤(w.map fun n=>DV.v (Value.int .i64 n)).length + 1:=by simp;omega
 simp only [go_sem,seval]
 refine Aw_ret (hQ _ ?_)
 simp only [go_sem,seval]
 rw [if_pos hln,show chunks 1 (1 + w.length) (List.take (1 + w.length) (DV.v (.int .i64 y)::w.map fun n=>DV.v (.int .i64 n)))=rows (y::w) from hch]
 rfl
set_option maxRecDepth 10000
def cDRM:Con:={ pre:=codeArg,post:=fun _ r=>∃ (x:Rt) (n:Int),okRt x∧-10≤n∧n≤100∧r = .tup [x.av,iv n] }
theorem cDRM_own:cDRM.own=false:=rfl
theorem cDRM_draws:cDRM.draws=false:=rfl
theorem cDRM_cost:cDRM.cost=0:=rfl
attribute [go_sem] cDRM_own cDRM_draws cDRM_cost
theorem drm_post (args:List AV) (K:AV→Prop):(∀ r,cDRM.post args r→K r)=(∀ (x:Rt) (n:Int),okRt x→-10≤n→n≤100→K (.tup [x.av,iv n])):=by
 apply propext
 exact ⟨fun h x n h1 h2 h3=>h _ ⟨x,n,h1,h2,h3,rfl⟩,fun h r ⟨x,n,h1,h2,h3,e⟩=>e ▸ h x n h1 h2 h3⟩
attribute [go_sem] drm_post

set_option maxRecDepth 100000
structure Cl where
 ci:Int
 n:Int
 f:Int
 b:Int
 ref:Bool
 like:Int
 mark:Int
 clear:Int
def Cl.row (c:Cl):List DV:=[.v (.int .i64 c.ci),.v (.int .i64 c.n),.v (.int .i64 c.f),.v (.int .i64 c.b),.v (.bool c.ref),.v (.int .i64 c.like),.v (.int .i64 c.mark),.v (.int .i64 c.clear)]
abbrev Cl.av (c:Cl):AV:=.agg [iv c.ci,iv c.n,iv c.f,iv c.b,bv c.ref,iv c.like,iv c.mark,iv c.clear]
def crows (l:List Cl):List (List DV):=l.map Cl.row
def rrows (l:List Rt):List (List DV):=l.map Rt.row
def rHas (f b a:Int):Bool:=decide (a.tdiv (szR b)=f.tdiv (szR b))
def rIn (f b f' b':Int):Bool:=decide (b'≤b) && rHas f' b' f
def subOk (ci n f b:Int):Bool :=
 if ci=1 then decide (n=0) && decide (f=0) && decide (b=0)
 else if ci=2 then decide (n=0) && rngOk f b
 else if ci=3 then isM n && decide (f=0) && decide (b=0)
 else if ci=4∨ci=5 then isH n && decide (f=0) && decide (b=0) else false
def clOk (c:Cl):Bool:=(decide (-1≤c.like) && decide (c.like≤9)) && (decide (0≤c.mark) && decide (c.mark≤9)) && (decide (0≤c.clear) && decide (c.clear≤9)) && subOk c.ci c.n c.f c.b
def fitsB (c:Cl) (r:Rt):Bool :=
 if c.ci=2 then rIn r.f r.b c.f c.b
 else if c.ci=3 then r.marks.contains c.n
 else if c.ci=4 then r.path.contains c.n
 else if c.ci=5 then decide ((r.path.length:Int)≤c.n) else true
def okR (r:Rt):Bool:=rtOk r.f r.b r.path r.like r.marks
def marksC (c:Cl) (m:List Int):List Int:=if 0 < c.clear then clL (if 0 < c.mark then mkL m c.mark else m) c.clear else (if 0 < c.mark then mkL m c.mark else m)
def doC (c:Cl) (r:Rt):Rt:=⟨r.f,r.b,r.path,if 0≤c.like then c.like else r.like,marksC c r.marks⟩
def polOk (l:List Cl):Bool:=decide (l.length≤5) && l.all clOk
def polDo:List Cl→Rt→Option Rt
 | [],_=>none
 | c::l,r=>if fitsB c r then (if c.ref then none else some (doC c r)) else polDo l r
def policyDo (l:List Cl) (r:Rt):Option Rt:=if polOk l && okR r then polDo l r else none
def clsL:List (List DV)→Option (List Cl)
 | []=>some []
 | [.v (.int .i64 ci),.v (.int .i64 n),.v (.int .i64 f),.v (.int .i64 b),.v (.bool ref),.v (.int .i64 like),.v (.int .i64 mark),.v (.int .i64 clear)]::l=>match clsL l with
  | some r=>some (⟨ci,n,f,b,ref,like,mark,clear⟩::r)
  | none=>none
 | _=>none
theorem crows_nil:crows []=[]:=rfl
theorem crows_cons (c:Cl) (l:List Cl):crows (c::l)=c.row::crows l:=rfl
theorem clsL_rows (l:List Cl):clsL (crows l)=some l:=by
 induction l with
 | nil=>rfl
 | cons n l ih=>simp only [crows_cons,Cl.row,clsL,ih]
theorem crows_len (l:List Cl):(crows l).length=l.length:=by simp [crows]
theorem crows_app (a b:List Cl):crows a++crows b=crows (a++b):=by simp [crows]
theorem crows_row (l:List Cl):∀ row ∈ crows l,row.length=8:=by simp [crows,Cl.row]
attribute [go_sem] clsL_rows crows_len crows_nil crows_app Cl.row
def rtsL:List (List DV)→Option (List Rt)
 | []=>some []
 | [.v (.int .i64 f),.v (.int .i64 b),.sl e1,.v (.int .i64 like),.sl e2]::l=>match intsL e1,intsL e2,rtsL l with
  | some p,some m,some r=>some (⟨f,b,p,like,m⟩::r)
  | _,_,_=>none
 | _=>none
theorem rrows_nil:rrows []=[]:=rfl
theorem rrows_cons (c:Rt) (l:List Rt):rrows (c::l)=c.row::rrows l:=rfl
theorem rtsL_rows (l:List Rt):rtsL (rrows l)=some l:=by
 induction l with
 | nil=>rfl
 | cons n l ih=>simp only [rrows_cons,Rt.row,rtsL,ih,intsL_rows]
theorem rrows_len (l:List Rt):(rrows l).length=l.length:=by simp [rrows]
theorem rrows_app (a b:List Rt):rrows a++rrows b=rrows (a++b):=by simp [rrows]
theorem rrows_row (l:List Rt):∀ row ∈ rrows l,row.length=5:=by simp [rrows,Rt.row]
attribute [go_sem] rtsL_rows rrows_len rrows_nil rrows_app Rt.row
def cClauseD:Con:={ pre:=fun args=>args=[.rd],post:=fun _ r=>∃ c:Cl,r=c.av,cost:=16,draws:=true }
theorem cClauseD_own:cClauseD.own=false:=rfl
theorem cClauseD_draws:cClauseD.draws=true:=rfl
theorem cClauseD_cost:cClauseD.cost=16:=rfl
attribute [go_sem] cClauseD_own cClauseD_draws cClauseD_cost
theorem clauseD_pre:cClauseD.pre [.rd]=True:=by simp [cClauseD]
theorem clauseD_post (args:List AV) (K:AV→Prop):(∀ r,cClauseD.post args r→K r)=(∀ c:Cl,K c.av):=by
 apply propext
 exact ⟨fun h p=>h _ ⟨p,rfl⟩,fun h r ⟨p,e⟩=>e ▸ h p⟩
theorem clauseD_ex (args:List AV):(∃ r,cClauseD.post args r)=True:=eq_true ⟨_,⟨0,0,0,0,false,0,0,0⟩,rfl⟩
attribute [go_sem] clauseD_pre clauseD_post clauseD_ex
def cPolD:Con:={ pre:=fun args=>args=[.rd],post:=fun _ r=>∃ l:List Cl,l.length≤4∧r = .sl none (crows l),cost:=60,draws:=true }
theorem cPolD_own:cPolD.own=false:=rfl
theorem cPolD_draws:cPolD.draws=true:=rfl
theorem cPolD_cost:cPolD.cost=60:=rfl
attribute [go_sem] cPolD_own cPolD_draws cPolD_cost
theorem polD_pre:cPolD.pre [.rd]=True:=by simp [cPolD]
theorem polD_post (args:List AV) (K:AV→Prop):(∀ r,cPolD.post args r→K r)=(∀ l:List Cl,l.length≤4→K (.sl none (crows l))):=by
 apply propext
 exact ⟨fun h p hp=>h _ ⟨p,hp,rfl⟩,fun h r ⟨p,hp,e⟩=>e ▸ h p hp⟩
theorem polD_ex (args:List AV):(∃ r,cPolD.post args r)=True:=eq_true ⟨_,[],by simp,rfl⟩
attribute [go_sem] polD_pre polD_post polD_ex
def cRtsD:Con:={ pre:=fun args=>∃ n:Int,0≤n∧n≤5∧args=[.rd,iv n],post:=fun _ r=>∃ l:List Rt,(l.length≤5∧∀ x ∈ l,okRt x)∧r = .sl none (rrows l),cost:=201,draws:=true }
theorem cRtsD_own:cRtsD.own=false:=rfl
theorem cRtsD_draws:cRtsD.draws=true:=rfl
theorem cRtsD_cost:cRtsD.cost=201:=rfl
attribute [go_sem] cRtsD_own cRtsD_draws cRtsD_cost
theorem rtsD_pre (n:Int):cRtsD.pre [.rd,iv n]=(0≤n∧n≤5):=by
 apply propext
 simp [cRtsD]
theorem rtsD_post (args:List AV) (K:AV→Prop):(∀ r,cRtsD.post args r→K r)=(∀ l:List Rt,(l.length≤5∧∀ x ∈ l,okRt x)→K (.sl none (rrows l))):=by
 apply propext
 exact ⟨fun h p hp=>h _ ⟨p,hp,rfl⟩,fun h r ⟨p,hp,e⟩=>e ▸ h p hp⟩
theorem rtsD_ex (args:List AV):(∃ r,cRtsD.post args r)=True:=eq_true ⟨_,[],by simp,rfl⟩
attribute [go_sem] rtsD_pre rtsD_post rtsD_ex
def cDPD:Con:={ pre:=codeArg,post:=fun _ r=>∃ (l:List Cl) (x:Rt),l.length≤4∧okRt x∧r = .tup [.sl none (crows l),x.av] }
theorem cDPD_own:cDPD.own=false:=rfl
theorem cDPD_draws:cDPD.draws=false:=rfl
theorem cDPD_cost:cDPD.cost=0:=rfl
attribute [go_sem] cDPD_own cDPD_draws cDPD_cost
theorem dpd_post (args:List AV) (K:AV→Prop):(∀ r,cDPD.post args r→K r)=(∀ (l:List Cl) (x:Rt),l.length≤4→okRt x→K (.tup [.sl none (crows l),x.av])):=by
 apply propext
 exact ⟨fun h x n h1 h2=>h _ ⟨x,n,h1,h2,rfl⟩,fun h r ⟨x,n,h1,h2,e⟩=>e ▸ h x n h1 h2⟩
attribute [go_sem] dpd_post
def cDPA:Con:={ pre:=codeArg,post:=fun _ r=>∃ (l:List Cl) (x:List Rt),l.length≤4∧(x.length≤5∧∀ y ∈ x,okRt y)∧r = .tup [.sl none (crows l),.sl none (rrows x)] }
theorem cDPA_own:cDPA.own=false:=rfl
theorem cDPA_draws:cDPA.draws=false:=rfl
theorem cDPA_cost:cDPA.cost=0:=rfl
attribute [go_sem] cDPA_own cDPA_draws cDPA_cost
theorem dpa_post (args:List AV) (K:AV→Prop):(∀ r,cDPA.post args r→K r)=(∀ (l:List Cl) (x:List Rt),l.length≤4→(x.length≤5∧∀ y ∈ x,okRt y)→K (.tup [.sl none (crows l),.sl none (rrows x)])):=by
 apply propext
 exact ⟨fun h x n h1 h2=>h _ ⟨x,n,h1,h2,rfl⟩,fun h r ⟨x,n,h1,h2,e⟩=>e ▸ h x n h1 h2⟩
attribute [go_sem] dpa_post
def gHas1:List AV→Option (Prop × AV) | [.agg [.v (.int .i64 f),.v (.int .i64 b)],.v (.int .i64 a)]=>some (rngOk f b=true∧0≤a∧a≤255,bv (rHas f b a)) | _=>none
def dHas1:DFn:={ g:=gHas1 }
def gIn1:List AV→Option (Prop × AV) | [.agg [.v (.int .i64 f),.v (.int .i64 b)],.agg [.v (.int .i64 f'),.v (.int .i64 b')]]=>some (rngOk f b=true∧rngOk f' b'=true,bv (rIn f b f' b')) | _=>none
def dIn1:DFn:={ g:=gIn1 }
attribute [go_sem] gHas1 dHas1 gIn1 dIn1
def gFits:List AV→Option (Prop × AV)
 | [.agg [.v (.int .i64 ci),.v (.int .i64 n),.v (.int .i64 f),.v (.int .i64 b),.v (.bool ref),.v (.int .i64 like),.v (.int .i64 mark),.v (.int .i64 clear)],.agg [.v (.int .i64 rf),.v (.int .i64 rb),.sl _ e1,.v (.int .i64 rk),.sl _ e2]]=>(match intsL e1,intsL e2 with
  | some p,some m=>some ((clOk ⟨ci,n,f,b,ref,like,mark,clear⟩=true∧okR ⟨rf,rb,p,rk,m⟩=true)∧p.length≤1000000∧m.length≤1000000,bv (fitsB ⟨ci,n,f,b,ref,like,mark,clear⟩ ⟨rf,rb,p,rk,m⟩))
  | _,_=>none)
 | _=>none
def dFits:DFn:={ g:=gFits }
def gClOk:List AV→Option (Prop × AV) | [.agg [.v (.int .i64 ci),.v (.int .i64 n),.v (.int .i64 f),.v (.int .i64 b),.v (.bool ref),.v (.int .i64 like),.v (.int .i64 mark),.v (.int .i64 clear)]]=>some (True,bv (clOk ⟨ci,n,f,b,ref,like,mark,clear⟩)) | _=>none
def dClOk:DFn:={ g:=gClOk }
attribute [go_sem] gFits dFits gClOk dClOk
def rt0:Rt:=⟨0,0,[],0,[]⟩
def gPolOk:List AV→Option (Prop × AV) | [.sl _ els]=>(match clsL els with | some l=>some (l.length≤1000000,bv (polOk l)) | none=>none) | _=>none
def dPolOk:DFn:={ g:=gPolOk }
def resR:Option Rt→AV
 | some x=>.tup [x.av,bv true]
 | none=>.tup [rt0.av,bv false]
def gDo:List AV→Option (Prop × AV)
 | [.sl _ els,.agg [.v (.int .i64 rf),.v (.int .i64 rb),.sl _ e1,.v (.int .i64 rk),.sl _ e2]]=>(match clsL els,intsL e1,intsL e2 with
  | some l,some p,some m=>some (((∀ c ∈ l,clOk c=true)∧okR ⟨rf,rb,p,rk,m⟩=true)∧l.length≤1000000∧p.length≤1000000∧m.length≤1000,resR (polDo l ⟨rf,rb,p,rk,m⟩))
  | _,_,_=>none)
 | _=>none
def dDo:DFn:={ g:=gDo }
def gPDo:List AV→Option (Prop × AV)
 | [.sl _ els,.agg [.v (.int .i64 rf),.v (.int .i64 rb),.sl _ e1,.v (.int .i64 rk),.sl _ e2]]=>(match clsL els,intsL e1,intsL e2 with
  | some l,some p,some m=>some (l.length≤1000000∧p.length≤1000000∧m.length≤1000,resR (policyDo l ⟨rf,rb,p,rk,m⟩))
  | _,_,_=>none)
 | _=>none
def dPDo:DFn:={ g:=gPDo }
attribute [go_sem] gPolOk dPolOk gDo dDo gPDo dPDo
def idxB {α:Type} (f:α→Bool):List α→Nat→Int
 | [],_=>-1
 | x::l,k=>if f x then k else idxB f l (k + 1)
theorem idxB_drop {α:Type} {f:α→Bool} {l:List α} {i:Nat} (h:i < l.length):idxB f (l.drop i) i=if f l[i] then (i:Int) else idxB f (l.drop (i + 1)) (i + 1):=by
 rw [List.drop_eq_getElem_cons h,idxB]
theorem idxB_any {α:Type} {f:α→Bool}:∀ (l:List α) (k:Nat),decide (0≤idxB f l k)=l.any f
 | [],_=>rfl
 | x::l,k=>by
  rw [idxB,List.any_cons]
  cases hf:f x with
  | true =>
   rw [if_pos rfl,Bool.true_or]
   exact decide_eq_true (by omega)
  | false =>
   rw [if_neg (by simp),Bool.false_or]
   exact idxB_any l (k + 1)
def gIdxI:List AV→Option (Prop × AV) | [.sl _ els,.v (.int .i64 n)]=>(match intsL els with | some l=>some (l.length≤4294967296,iv (idxB (fun x=>decide (n=x)) l 0)) | none=>none) | _=>none
def dIdxI:DFn:={ g:=gIdxI }
attribute [go_sem] gIdxI dIdxI
theorem idxI_ok:Fine Tryd.prog 70 dIdxI.con:=by
 refine fine_det (T:=TT) Tryd.func70 rfl Tryd.ntmps70 (by rw [Tryd.results70]) rfl rfl tt (gs_nil) (ds_nil) ?_
 intro args c r h hc
 simp only [dIdxI,gIdxI] at h
 split at h
 rotate_left
 ·cases h
 split at h
 rotate_left
 ·cases h
 rename_i t els n _ l hl
 obtain rfl:=intsL_eq hl
 obtain ⟨rfl,rfl⟩:=Prod.mk.inj (Option.some.inj h)
 refine ⟨by simp,fun k E hE Q hQ=>?_⟩
 refine Aw_st hE [0,1] [] fun K hK=>?_
 simp only [go_sem,reduceIte,Nat.reduceLT,Nat.reduceLeDiff,Nat.reduceEqDiff,Nat.reduceAdd,Nat.reduceMul,Nat.reduceSub,Nat.reduceBEq,Int.reduceToNat,List.reduceReplicate,reduceCtorEq]
 repeat refine sd0 ?_
 refine hK _ ?_;clear hK K
 refine Aw_sq fun B1 hB1 hR1 hX1=>?_
 refine Aw_st hE [0,1,7,8] [] fun K hK=>?_
 simp only [go_sem,reduceIte,Nat.reduceLT,Nat.reduceLeDiff,Nat.reduceEqDiff,Nat.reduceAdd,Nat.reduceMul,Nat.reduceSub,Nat.reduceBEq,Int.reduceToNat,List.reduceReplicate,reduceCtorEq]
 repeat refine sd0 ?_
 refine hK _ ?_;clear hK K
 refine Aw_bk fun B2 hN2 hE2 hR2 hX2=>?_
 refine Aw_lp (fun i:Nat=>⟨19,[(0,.sl t (rows l)),(1,iv n),(7,iv l.length),(8,iv i)],[],k⟩) (fun i:Nat=>i≤l.length∧idxB (fun x=>decide (n=x)) l 0=idxB (fun x=>decide (n=x)) (l.drop i) i) (fun i:Nat=>l.length - i) (0) (Le.refl _) (⟨by omega,rfl⟩) fun i hi B3 hN3 hR3 hX3=>?_
 refine Aw_st hE [0,1,7,8,9] [] fun K hK=>?_
 simp only [go_sem,reduceIte,Nat.reduceLT,Nat.reduceLeDiff,Nat.reduceEqDiff,Nat.reduceAdd,Nat.reduceMul,Nat.reduceSub,Nat.reduceBEq,Int.reduceToNat,List.reduceReplicate,reduceCtorEq]
 repeat refine sd0 ?_
 refine hK _ ?_;clear hK K
 refine Aw_sq fun B4 hB4 hR4 hX4=>?_
 refine Aw_cond rfl (fun hc5=>?_) (fun hc5=>?_)
 ·simp only [dte] at hc5
  have hil:i < l.length:=by omega
  have hs:=hi.2.trans (idxB_drop hil)
  have hget:(rows l)[i]? = some [.v (.int .i64 l[i])]:=by simp [rows,hil]
  generalize l[i]=x at hget hs
  refine Aw_skip (hB4 _ ?_)
  refine Aw_sq fun B6 hB6 hR6 hX6=>?_
  refine Aw_bk fun B7 hN7 hE7 hR7 hX7=>?_
  refine Aw_st hE [0,1,5,7,8] [] fun K hK=>?_
  simp only [go_sem,reduceIte,Nat.reduceLT,Nat.reduceLeDiff,Nat.reduceEqDiff,Nat.reduceAdd,Nat.reduceMul,Nat.reduceSub,Nat.reduceBEq,Int.reduceToNat,List.reduceReplicate,reduceCtorEq]
  repeat refine sd0 ?_
  refine hK _ ?_;clear hK K
  refine Aw_st hE [0,1,5,7,8,16] [] fun K hK=>?_
  simp only [go_sem,reduceIte,Nat.reduceLT,Nat.reduceLeDiff,Nat.reduceEqDiff,Nat.reduceAdd,Nat.reduceMul,Nat.reduceSub,Nat.reduceBEq,Int.reduceToNat,List.reduceReplicate,reduceCtorEq,hget]
  repeat refine sd0 ?_
  refine hK _ (Aw_cond rfl (fun hc8=>?_) (fun hc8=>?_))
  ·rw [hc8] at hs
   refine Aw_st hE [4] [] fun K hK=>?_
   simp only [go_sem,reduceIte,Nat.reduceLT,Nat.reduceLeDiff,Nat.reduceEqDiff,Nat.reduceAdd,Nat.reduceMul,Nat.reduceSub,Nat.reduceBEq,Int.reduceToNat,List.reduceReplicate,reduceCtorEq]
   repeat refine sd0 ?_
   refine hK _ (Aw_ret (hR7 _ (hR6 _ (hR3 _ (hR2 _ (hR1 _ (hQ _ ?_)))))))
   simp only [go_sem,reduceIte,Nat.reduceLT,Nat.reduceLeDiff,Nat.reduceEqDiff,Nat.reduceAdd,Nat.reduceMul,Nat.reduceSub,Nat.reduceBEq,Int.reduceToNat,List.reduceReplicate,reduceCtorEq,hs]
  ·rw [hc8] at hs
   refine Aw_skip (hN7 _ (hB6 _ ?_))
   refine Aw_tx hE [0,1,7,8] [] fun K hK=>?_
   simp only [go_sem,reduceIte,Nat.reduceLT,Nat.reduceLeDiff,Nat.reduceEqDiff,Nat.reduceAdd,Nat.reduceMul,Nat.reduceSub,Nat.reduceBEq,Int.reduceToNat,List.reduceReplicate,reduceCtorEq]
   repeat refine sd0 ?_
   refine hK _ (hN3 (i + 1) _ (⟨by omega,hs⟩) (by omega) (Le.refl _))
 ·simp only [dfn] at hc5
  refine Aw_exit (hX4 _ _ (hX3 _ _ (hE2 _ (hB1 _ ?_))))
  refine Aw_st hE [4] [] fun K hK=>?_
  simp only [go_sem,reduceIte,Nat.reduceLT,Nat.reduceLeDiff,Nat.reduceEqDiff,Nat.reduceAdd,Nat.reduceMul,Nat.reduceSub,Nat.reduceBEq,Int.reduceToNat,List.reduceReplicate,reduceCtorEq]
  repeat refine sd0 ?_
  refine hK _ (Aw_ret (hQ _ ?_))
  simp only [go_sem,reduceIte,Nat.reduceLT,Nat.reduceLeDiff,Nat.reduceEqDiff,Nat.reduceAdd,Nat.reduceMul,Nat.reduceSub,Nat.reduceBEq,Int.reduceToNat,List.reduceReplicate,reduceCtorEq]
  rw [hi.2,List.drop_eq_nil_of_le (by omega)]
  rfl
theorem any_contains (l:List Int) (n:Int):(l.any fun x=>decide (n=x))=l.contains n:=by
 rw [Bool.eq_iff_iff]
 simp [List.contains_eq_mem]
theorem containsI_ok:Fine Tryd.prog 61 dHas.con:=by
 refine fine_det (T:=TT) Tryd.func61 rfl Tryd.ntmps61 (by rw [Tryd.results61]) rfl rfl tt (gs_nil) (ds_cons idxI_ok ds_nil) ?_
 intro args c r h hc
 simp only [dHas,gHas] at h
 split at h
 rotate_left
 ·cases h
 split at h
 rotate_left
 ·cases h
 rename_i t els n _ l hl
 obtain rfl:=intsL_eq hl
 obtain ⟨rfl,rfl⟩:=Prod.mk.inj (Option.some.inj h)
 refine ⟨by simp,fun k E hE Q hQ=>?_⟩
 refine Aw_st hE [0,1] [] fun K hK=>?_
 simp only [go_sem,reduceIte,Nat.reduceLT,Nat.reduceLeDiff,Nat.reduceEqDiff,Nat.reduceAdd,Nat.reduceMul,Nat.reduceSub,Nat.reduceBEq,Int.reduceToNat,List.reduceReplicate,reduceCtorEq]
 repeat refine sd0 ?_
 refine hK _ ?_;clear hK K
 refine Aw_st hE [4] [] fun K hK=>?_
 simp only [go_sem,reduceIte,Nat.reduceLT,Nat.reduceLeDiff,Nat.reduceEqDiff,Nat.reduceAdd,Nat.reduceMul,Nat.reduceSub,Nat.reduceBEq,Int.reduceToNat,List.reduceReplicate,reduceCtorEq]
 repeat refine sd0 ?_
 refine hK _ (Aw_ret (hQ _ ?_))
 simp only [go_sem,reduceIte,Nat.reduceLT,Nat.reduceLeDiff,Nat.reduceEqDiff,Nat.reduceAdd,Nat.reduceMul,Nat.reduceSub,Nat.reduceBEq,Int.reduceToNat,List.reduceReplicate,reduceCtorEq]
 rw [← any_contains]
 exact idxB_any l 0
def gPHas:List AV→Option (Prop × AV) | [.sl _ els,.v (.int .i64 n)]=>(match intsL els with | some l=>some (l.length≤4294967296,bv (pathOk l && (isH n && l.contains n))) | none=>none) | _=>none
def dPHasI (pb:Addr):DFn:={ g:=gPHas,inv:=WP pb }
attribute [go_sem] gPHas dPHasI
def gCov:List AV→Option (Prop × AV) | [.agg [.v (.int .i64 f),.v (.int .i64 b)],.v (.int .i64 a)]=>some (rngOk f b=true∧0≤a∧a≤255,bv (rHas f b a)) | _=>none
def dCov:DFn:={ g:=gCov }
def gRIn:List AV→Option (Prop × AV) | [.agg [.v (.int .i64 f),.v (.int .i64 b)],.agg [.v (.int .i64 f'),.v (.int .i64 b')]]=>some (True,bv (rngOk f b && (rngOk f' b' && rIn f b f' b'))) | _=>none
def dRIn:DFn:={ g:=gRIn }
attribute [go_sem] gCov dCov gRIn dRIn
def eAnn (i:Nt × Int × Int):List AV × List (Nat × List AV):=([.loc 1000 0,iv i.2.1,iv i.2.2],i.1.M 1000 1001)
def cAnn:ConM:=mkM (fun _=>True) eAnn (fun i=>mpI i.1.t∧i.1.W.length≤1000∧∀ w ∈ i.1.W,w.length≤1000) fun i r m2=>r=wsl (cands i.1.W.length (lkF i.1.t) (toS i.1.W) i.2.1 i.2.2)∧m2=i.1.M 1000 1001
theorem eAnn_inj (i j:Nt × Int × Int) (h:eAnn i=eAnn j):i=j:=by
 obtain ⟨N,p,x⟩:=i
 obtain ⟨N',p',x'⟩:=j
 obtain ⟨h1,h2⟩:=Prod.mk.inj h
 simp only [List.cons.injEq,true_and,AV.v.injEq,Value.int.injEq,and_true] at h1
 obtain rfl:=NtM_inj (N:=N) (N':=N') h2
 rw [h1.1,h1.2]
theorem ann_pre (n:Int) (t:List (Value × Value)) (home:Int) (W:List (List Int)) (h rel:Int):cAnn.pre [.loc 1000 0,iv h,iv rel] [(1000,[iv n,.dv (.mp t),iv home,.xs 1001 0 W.length W.length 1]),(1001,cWs W)]=(mpI t∧W.length≤1000∧∀ w ∈ W,w.length≤1000):=mkM_pre eAnn_inj (⟨n,t,home,W⟩,h,rel) rfl
theorem ann_post (n:Int) (t:List (Value × Value)) (home:Int) (W:List (List Int)) (h rel:Int) (K:AV→List (Nat × List AV)→Prop):(∀ r m2,cAnn.post [.loc 1000 0,iv h,iv rel] [(1000,[iv n,.dv (.mp t),iv home,.xs 1001 0 W.length W.length 1]),(1001,cWs W)] r m2→K r m2)=K (wsl (cands W.length (lkF t) (toS W) h rel)) [(1000,[iv n,.dv (.mp t),iv home,.xs 1001 0 W.length W.length 1]),(1001,cWs W)] :=
 (mkM_post eAnn_inj (⟨n,t,home,W⟩,h,rel) rfl K).trans (mkM_fn _ _)
attribute [go_sem] ann_pre ann_post
set_option maxHeartbeats 4000000 in
theorem ann_ok:FineM Tryd.prog 47 cAnn:=by
 refine fineM_of [] ms_nil [] mm_nil [] [] ex_nil (T:=TT) Tryd.func47 rfl Tryd.ntmps47 (by rw [Tryd.results47]) rfl rfl tt gs_nil (ds_cons ofM_ok (ds_cons expM_ok (ds_cons containsI_ok ds_nil))) ?_
 rintro args m1 ⟨⟨⟨n,t,home,W⟩,a,rel⟩,e,hmp,hW,hwl⟩
 obtain ⟨rfl,rfl⟩:=Prod.mk.inj e.symm
 refine ⟨by simp,fun E hE Q hQ=>?_⟩
 simp only at hmp hW hwl
 refine Aw_st hE [0,1,2] [1000,1001] fun K hK=>?_
 simp only [go_sem,seval]
 refine hK _ ?_;clear hK K
 refine Aw_st hE [0,1,2,7] [1000,1001] fun K hK=>?_
 simp only [go_sem,seval]
 refine hK _ ?_;clear hK K
 refine Aw_sq fun B1 hB1 hR1 hX1=>?_
 refine Aw_st hE [0,1,2,7,14,15,16] [1000,1001] fun K hK=>?_
 simp only [go_sem,seval]
 refine hK _ ?_;clear hK K
 refine Aw_bk fun B2 hN2 hE2 hR2 hX2=>?_
 refine Aw_lp (fun i:List (List Int) × Nat=>⟨62,[(0,.loc 1000 0),(1,iv a),(2,iv rel),(7,.sl (some (59,0,24)) (wrows i.1)),(14,.xs 1001 0 W.length W.length 1),(15,iv (W.length:Int)),(16,iv (i.2:Int))],(⟨n,t,home,W⟩:Nt).M 1000 1001,0⟩) (fun i=>i.2≤W.length∧i.1.length≤i.2∧i.1=cands i.2 (lkF t) (toS W) a rel) (fun i=>W.length - i.2) ([],0) ((Le_own 59 24 7 rfl).trans (Le_wk (Nat.le_refl _) (by simp only [go_sem,seval]) (by simp only [go_sem,seval]))) ⟨by simp,by simp,rfl⟩ fun i hi B3 hN3 hR3 hX3=>?_
 obtain ⟨out,i⟩:=i
 obtain ⟨hi,hol,ho⟩:=hi
 simp only at hi hol ho
 refine Aw_st hE [0,1,2,7,14,15,16,17] [1000,1001] fun K hK=>?_
 simp only [go_sem,seval]
 refine hK _ ?_;clear hK K
 refine Aw_sq fun B4 hB4 hR4 hX4=>?_
 refine Aw_cond rfl (fun hc5=>?_) (fun hc5=>?_)
 rotate_left
 ·simp only [dfn] at hc5
  obtain rfl:i=W.length:=by omega
  refine Aw_exit (hX4 _ _ (hX3 _ _ (hE2 _ (hB1 _ ?_))))
  refine Aw_st hE [6] [1000,1001] fun K hK=>?_
  simp only [go_sem,seval]
  refine hK _ (Aw_ret (hQ _ ?_))
  simp only [go_sem,seval]
  exact ⟨(⟨n,t,home,W⟩,a,rel),rfl,congrArg (fun z=>AV.sl none (wrows z)) ho,rfl⟩
 simp only [dte] at hc5
 have hil:i < W.length:=by omega
 have hdr:=cWs_drop W i hil
 obtain ⟨p,hp⟩:∃ p,p=W.getD i []:=⟨_,rfl⟩
 have hpl:p.length≤1000:=by rw [hp];exact hwl _ (getD_memL W i hil)
 have hps:toS W ((i:Int) + 1)=p:=by rw [hp];exact toS_succ W i
 rw [← hp] at hdr
 have hskip:cnd (lkF t) (toS W) a rel ((i:Int) + 1)=false→i + 1≤W.length∧out.length≤i + 1∧out=cands (i + 1) (lkF t) (toS W) a rel:=fun h=>⟨by omega,by omega,by rw [cands_succ,h];exact ho⟩
 have htake:cnd (lkF t) (toS W) a rel ((i:Int) + 1)=true→i + 1≤W.length∧(out++[p]).length≤i + 1∧out++[p]=cands (i + 1) (lkF t) (toS W) a rel:=fun h=>⟨by omega,by simp;omega,by rw [cands_succ,h,hps,← ho];rfl⟩
 have hcnd:cnd (lkF t) (toS W) a rel ((i:Int) + 1)=(decide (lkF t a ((i:Int) + 1)=rel) && (!p.isEmpty && !p.contains a && mayB (lkF t) ((i:Int) + 1) (nxt p) a)):=by
  unfold cnd
  rw [hps,tells_may,beq_dec]
 refine Aw_skip (hB4 _ ?_)
 refine Aw_sq fun B6 hB6 hR6 hX6=>?_
 refine Aw_bk fun B7 hN7 hE7 hR7 hX7=>?_
 refine Aw_st hE [0,1,2,7,8,9,14,15,16] [1000,1001] fun K hK=>?_
 simp only [go_sem,seval,hdr,Nat.mul_one]
 repeat refine sd0 ?_
 refine hK _ ?_;clear hK K
 refine Aw_sq fun B8 hB8 hR8 hX8=>?_
 have hp4:p.length≤4294967296:=by omega
 by_cases h1:p=[]
 ·have h1d:decide ((p.length:Int)=0)=true:=decide_eq_true (by rw [h1];rfl)
  refine Aw_st hE [0,1,2,7,8,9,14,15,16,40] [1000,1001] fun K hK=>?_
  refine aops_cut 6 fun K1 hK1=>?_
  simp only [go_sem,seval,h1d,decide_true]
  repeat refine sd0 ?_
  refine hK1 _ ?_
  clear hK1
  refine aops_cut 6 fun K1 hK1=>?_
  simp only [go_sem,seval,h1d,decide_true]
  repeat refine sd0 ?_
  refine hK1 _ ?_
  clear hK1
  refine aops_cut 6 fun K1 hK1=>?_
  simp only [go_sem,seval,h1d,decide_true]
  repeat refine sd0 ?_
  refine hK1 _ ?_
  clear hK1
  simp only [go_sem,seval,h1d,decide_true]
  repeat refine sd0 ?_
  refine hK _ (Aw_yes rfl ?_)
  refine Aw_exit (hX8 _ _ (hE7 _ (hB6 _ ?_)))
  refine Aw_tx hE [0,1,2,7,14,15,16] [1000,1001] fun K hK=>?_
  simp only [go_sem,seval]
  repeat refine sd0 ?_
  refine hK _ (hN3 (out,i + 1) _ (hskip (by rw [hcnd,h1];simp)) (by simp only;omega) (Le.refl _))
 have h1d:decide ((p.length:Int)=0)=false:=decide_eq_false fun e=>h1 (List.eq_nil_of_length_eq_zero (by omega))
 have h1e:p.isEmpty=false:=List.isEmpty_eq_false_iff.2 h1
 by_cases h2:lkF t a ((i:Int) + 1)=rel
 rotate_left
 ·have h2d:decide (lkF t a ((i:Int) + 1)=rel)=false:=decide_eq_false h2
  refine Aw_st hE [0,1,2,7,8,9,14,15,16,40] [1000,1001] fun K hK=>?_
  refine aops_cut 6 fun K1 hK1=>?_
  simp only [go_sem,seval,h1d,hmp,h2d,Bool.not_false]
  repeat refine sd0 ?_
  refine hK1 _ ?_
  clear hK1
  refine aops_cut 6 fun K1 hK1=>?_
  simp only [go_sem,seval,h1d,hmp,h2d,Bool.not_false]
  repeat refine sd0 ?_
  refine hK1 _ ?_
  clear hK1
  refine aops_cut 6 fun K1 hK1=>?_
  simp only [go_sem,seval,h1d,hmp,h2d,Bool.not_false]
  repeat refine sd0 ?_
  refine hK1 _ ?_
  clear hK1
  simp only [go_sem,seval,h1d,hmp,h2d,Bool.not_false]
  repeat refine sd0 ?_
  refine hK _ (Aw_yes rfl ?_)
  refine Aw_exit (hX8 _ _ (hE7 _ (hB6 _ ?_)))
  refine Aw_tx hE [0,1,2,7,14,15,16] [1000,1001] fun K hK=>?_
  simp only [go_sem,seval]
  repeat refine sd0 ?_
  refine hK _ (hN3 (out,i + 1) _ (hskip (by rw [hcnd,h2d];rfl)) (by simp only;omega) (Le.refl _))
 have h2d:decide (lkF t a ((i:Int) + 1)=rel)=true:=decide_eq_true h2
 cases h3:p.contains a with
 | true =>
  refine Aw_st hE [0,1,2,7,8,9,14,15,16,40] [1000,1001] fun K hK=>?_
  refine aops_cut 6 fun K1 hK1=>?_
  simp only [go_sem,seval,h1d,hmp,h2d,h3,hp4,decide_true,Bool.not_true]
  repeat refine sd0 ?_
  refine hK1 _ ?_
  clear hK1
  refine aops_cut 6 fun K1 hK1=>?_
  simp only [go_sem,seval,h1d,hmp,h2d,h3,hp4,decide_true,Bool.not_true]
  repeat refine sd0 ?_
  refine hK1 _ ?_
  clear hK1
  refine aops_cut 6 fun K1 hK1=>?_
  simp only [go_sem,seval,h1d,hmp,h2d,h3,hp4,decide_true,Bool.not_true]
  repeat refine sd0 ?_
  refine hK1 _ ?_
  clear hK1
  simp only [go_sem,seval,h1d,hmp,h2d,h3,hp4,decide_true,Bool.not_true]
  repeat refine sd0 ?_
  refine hK _ (Aw_yes rfl ?_)
  refine Aw_exit (hX8 _ _ (hE7 _ (hB6 _ ?_)))
  refine Aw_tx hE [0,1,2,7,14,15,16] [1000,1001] fun K hK=>?_
  simp only [go_sem,seval]
  repeat refine sd0 ?_
  refine hK _ (hN3 (out,i + 1) _ (hskip (by rw [hcnd,h3];simp)) (by simp only;omega) (Le.refl _))
 | false =>
 rw [h2d,h1e,h3] at hcnd
 simp only [Bool.not_false,Bool.true_and] at hcnd
 refine Aw_st hE [0,1,2,7,8,9,14,15,16,40] [1000,1001] fun K hK=>?_
 refine aops_cut 6 fun K1 hK1=>?_
 simp only [go_sem,seval,h1d,hmp,h2d,h3,hp4,decide_true,Bool.not_true]
 repeat refine sd0 ?_
 refine hK1 _ ?_
 clear hK1
 refine aops_cut 6 fun K1 hK1=>?_
 simp only [go_sem,seval,h1d,hmp,h2d,h3,hp4,decide_true,Bool.not_true]
 repeat refine sd0 ?_
 refine hK1 _ ?_
 clear hK1
 refine aops_cut 6 fun K1 hK1=>?_
 simp only [go_sem,seval,h1d,hmp,h2d,h3,hp4,decide_true,Bool.not_true]
 repeat refine sd0 ?_
 refine hK1 _ ?_
 clear hK1
 simp only [go_sem,seval,h1d,hmp,h2d,h3,hp4,decide_true,Bool.not_true]
 repeat refine sd0 ?_
 refine hK _ (Aw_no rfl (Aw_skip (hB8 _ ?_)))
 refine Aw_st hE [0,1,2,7,8,9,10,14,15,16] [1000,1001] fun K hK=>?_
 simp only [go_sem,seval]
 refine hK _ ?_;clear hK K
 refine Aw_sqJ (fun (_:Unit)=>⟨62,[(0,.loc 1000 0),(1,iv a),(2,iv rel),(7,.sl (some (59,0,24)) (wrows out)),(8,iv (i:Int)),(9,isl p),(10,iv (nxt p)),(14,.xs 1001 0 W.length W.length 1),(15,iv (W.length:Int)),(16,iv (i:Int))],(⟨n,t,home,W⟩:Nt).M 1000 1001,0⟩) (fun _=>True) (fun _ _=>?_) fun B13 hB13 hR13 hX13=>?_
 ·refine Aw_st hE [0,1,2,7,9,14,15,16,55] [1000,1001] fun K hK=>?_
  simp only [go_sem,seval,hmp]
  repeat refine sd0 ?_
  refine hK _ (Aw_cond rfl (fun hc15=>?_) (fun hc15=>?_))
  ·refine Aw_tx hE [0,1,2,7,14,15,16] [1000,1001] fun K hK=>?_
   simp only [go_sem,seval,wrows_one]
   repeat refine sd0 ?_
   refine hK _ (hN7 _ (hB6 _ ?_))
   refine Aw_tx hE [0,1,2,7,14,15,16] [1000,1001] fun K hK=>?_
   simp only [go_sem,seval]
   repeat refine sd0 ?_
   refine hK _ (hN3 (out++[p],i + 1) _ (htake (by rw [hcnd];exact hc15)) (by simp only;omega) (Le.refl _))
  ·refine Aw_skip (hN7 _ (hB6 _ ?_))
   refine Aw_tx hE [0,1,2,7,14,15,16] [1000,1001] fun K hK=>?_
   simp only [go_sem,seval]
   repeat refine sd0 ?_
   refine hK _ (hN3 (out,i + 1) _ (hskip (by rw [hcnd];exact hc15)) (by simp only;omega) (Le.refl _))
 ·refine Aw_st hE [0,1,2,7,8,9,10,14,15,16,43] [1000,1001] fun K hK=>?_
  simp only [go_sem,seval]
  refine hK _ (Aw_cond rfl (fun hc14=>?_) (fun hc14=>?_))
  ·simp only [dte] at hc14
   refine Aw_tx hE [0,1,2,7,8,9,10,14,15,16] [1000,1001] fun K hK=>?_
   simp only [go_sem,seval,nxt_get (w:=p) (by omega)]
   repeat refine sd0 ?_
   refine hK _ (hB13 () _ trivial (Le_wk (by first | omega | (dsimp only;omega) | (simp only;omega) | (simp;omega)) (by simp only [go_sem,seval]) (by simp only [go_sem,seval]) E))
  ·simp only [dfn] at hc14
   refine Aw_skip (hB13 () _ trivial ?_)
   rw [nxt_short (w:=p) (by omega)]
   exact Le_wk (by first | omega | (dsimp only;omega) | (simp only;omega) | (simp;omega)) (by simp only [go_sem,seval]) (by simp only [go_sem,seval]) E
theorem LeE_of {E:En} {a b:St} (h:Le a b):LeE E a b:=fun x w r=>h E x w r
def eNH (i:Nt × Int):List AV × List (Nat × List AV):=([.loc 1000 0,iv i.2],i.1.M 1000 1001)
def okN' (N:Nt):Prop:=mpI N.t∧N.W.length≤1000∧∀ w ∈ N.W,pathOk w=true
def cPickI (pb:Addr):ConM:=mkM (WP pb) eNH (fun i=>okN' i.1) fun i r m2=>r=isl (pickN i.1.W.length (lkF i.1.t) i.1.home (toS i.1.W) i.2)∧m2=i.1.M 1000 1001
theorem eNH_inj (i j:Nt × Int) (h:eNH i=eNH j):i=j:=by
 obtain ⟨N,x⟩:=i
 obtain ⟨N',x'⟩:=j
 obtain ⟨h1,h2⟩:=Prod.mk.inj h
 simp only [List.cons.injEq,true_and,AV.v.injEq,Value.int.injEq,and_true] at h1
 obtain rfl:=NtM_inj (N:=N) (N':=N') h2
 rw [h1]
theorem pickI_pre (pb:Addr) (n:Int) (t:List (Value × Value)) (home:Int) (W:List (List Int)) (h:Int):(cPickI pb).pre [.loc 1000 0,iv h] [(1000,[iv n,.dv (.mp t),iv home,.xs 1001 0 W.length W.length 1]),(1001,cWs W)]=okN' ⟨n,t,home,W⟩:=mkM_pre eNH_inj (⟨n,t,home,W⟩,h) rfl
theorem pickI_post (pb:Addr) (n:Int) (t:List (Value × Value)) (home:Int) (W:List (List Int)) (h:Int) (K:AV→List (Nat × List AV)→Prop):(∀ r m2,(cPickI pb).post [.loc 1000 0,iv h] [(1000,[iv n,.dv (.mp t),iv home,.xs 1001 0 W.length W.length 1]),(1001,cWs W)] r m2→K r m2)=K (isl (pickN W.length (lkF t) home (toS W) h)) [(1000,[iv n,.dv (.mp t),iv home,.xs 1001 0 W.length W.length 1]),(1001,cWs W)] :=
 (mkM_post eNH_inj (⟨n,t,home,W⟩,h) rfl K).trans (mkM_fn _ _)
theorem pickI_ex (pb:Addr) (n:Int) (t:List (Value × Value)) (home:Int) (W:List (List Int)) (h:Int):(∃ r m2,(cPickI pb).post [.loc 1000 0,iv h] [(1000,[iv n,.dv (.mp t),iv home,.xs 1001 0 W.length W.length 1]),(1001,cWs W)] r m2)=True:=eq_true ⟨_,_,(⟨n,t,home,W⟩,h),rfl,rfl,rfl⟩
attribute [go_sem] pickI_pre pickI_post pickI_ex
theorem cands_sub {n:Nat} {of:Rel} {W:List (List Int)} {h rel:Int} (hn:W.length=n):∀ w ∈ cands n of (toS W) h rel,w ∈ W:=fun w hw=>by
 obtain ⟨b,hb,rfl⟩:=List.mem_map.1 hw
 have hb:=mem_hs.1 (List.mem_filter.1 hb).1
 have h1:=hb.1
 have h2:=hb.2
 rw [toS_in h1]
 exact getD_memL W _ (by omega)
theorem cands_lenL {n:Nat} {of:Rel} {W:Sta} {h rel:Int}:(cands n of W h rel).length≤n:=by
 unfold cands
 rw [List.length_map]
 have:=List.length_filter_le (cnd of W h rel) (hs n)
 simpa [hs] using this
set_option maxHeartbeats 4000000 in
theorem pickI_ok (pb:Addr):FineM Tryd.prog 30 (cPickI pb):=by
 refine fineM_of [] ms_nil [(47,(cAnn,[(1000,1000)],[]))] (mm_cons ann_ok (by decide) mm_nil) [] [] ex_nil (T:=TT) Tryd.func30 rfl Tryd.ntmps30 (by rw [Tryd.results30]) rfl rfl tt gs_nil (ds_cons (minW_ok pb) (ds_cons conc_ok ds_nil) (wp_inh pb)) ?_
 rintro args m1 ⟨⟨⟨n,t,home,W⟩,a⟩,e,hmp,hW,hok⟩
 obtain ⟨rfl,rfl⟩:=Prod.mk.inj e.symm
 refine ⟨by simp,fun E hE Q hQ=>?_⟩
 simp only at hmp hW hok
 have hwl:∀ w ∈ W,w.length≤1000:=fun w hw=>by have:=pathOk_len (hok w hw);omega
 have fin:∀ w,pickN W.length (lkF t) home (toS W) a=w→(cPickI pb).post [.loc 1000 0,iv a] ((⟨n,t,home,W⟩:Nt).M 1000 1001) (isl w) ((⟨n,t,home,W⟩:Nt).M 1000 1001):=fun w hw=>⟨(⟨n,t,home,W⟩,a),rfl,by rw [← hw];exact ⟨rfl,rfl⟩⟩
 refine Aw_st hE [0,1] [1000,1001] fun K hK=>?_
 simp only [go_sem,seval]
 refine hK _ ?_;clear hK K
 refine Aw_sq fun B1 hB1 hR1 hX1=>?_
 refine Aw_st hE [0,1,13] [1000,1001] fun K hK=>?_
 simp only [go_sem,seval]
 refine hK _ (Aw_cond rfl (fun hc2=>?_) (fun hc2=>?_))
 ·simp only [dte] at hc2
  refine Aw_st hE [4] [1000,1001] fun K hK=>?_
  simp only [go_sem,seval]
  refine hK _ (Aw_ret (hR1 _ (hQ _ ?_)))
  simp only [go_sem,seval]
  exact fin [a] (by rw [hc2,pick_home])
 simp only [dfn] at hc2
 refine Aw_skip (hB1 _ ?_)
 refine Aw_sq fun B3 hB3 hR3 hX3=>?_
 have h123:[[DV.v (.int .i64 1)],[DV.v (.int .i64 2)],[DV.v (.int .i64 3)]]=rows [1,2,3]:=rfl
 refine Aw_st hE [0,1,16,17,18] [1000,1001] fun K hK=>?_
 simp only [go_sem,seval,chunks,List.take_succ_cons,List.drop_succ_cons,h123]
 refine hK _ ?_;clear hK K
 refine Aw_bk fun B4 hN4 hE4 hR4 hX4=>?_
 refine Aw_lp (fun i:Nat=>⟨36,[(0,.loc 1000 0),(1,iv a),(16,isl [1,2,3]),(17,iv 3),(18,iv (i:Int))],(⟨n,t,home,W⟩:Nt).M 1000 1001,0⟩) (fun i=>i≤3∧∀ q,q < i→cands W.length (lkF t) (toS W) a ((q:Int) + 1)=[]) (fun i=>3 - i) 0 (Le_wa) ⟨by omega,fun q h=>absurd h (by omega)⟩ fun i hi B5 hN5 hR5 hX5=>?_
 obtain ⟨hi,hq⟩:=hi
 refine Aw_st hE [0,1,16,17,18,19] [1000,1001] fun K hK=>?_
 simp only [go_sem,seval]
 refine hK _ ?_;clear hK K
 refine Aw_sq fun B6 hB6 hR6 hX6=>?_
 refine Aw_cond rfl (fun hc7=>?_) (fun hc7=>?_)
 rotate_left
 ·simp only [dfn] at hc7
  refine Aw_exit (hX6 _ _ (hX5 _ _ (hE4 _ (hB3 _ ?_))))
  refine Aw_st hE [4] [1000,1001] fun K hK=>?_
  simp only [go_sem,seval]
  refine hK _ ?_
  refine Aw.leE (LeE_of (show Le _ ⟨36,[(4,isl [])],(⟨n,t,home,W⟩:Nt).M 1000 1001,0⟩ from Le_wa)) ?_
  refine Aw_ret (hQ _ ?_)
  simp only [go_sem,seval]
  exact fin [] (pkI_end hc2 (.inl ⟨rfl,hq⟩) (.inl (by omega)))
 simp only [dte] at hc7
 have hi3:i < 3:=by omega
 have hg:(rows [1,2,3])[i]? = some [.v (.int .i64 ((i:Int) + 1))]:=by
  have:i=0∨i=1∨i=2:=by omega
  rcases this with rfl | rfl | rfl<;>rfl
 refine Aw_skip (hB6 _ ?_)
 refine Aw_sq fun B8 hB8 hR8 hX8=>?_
 refine Aw_bk fun B9 hN9 hE9 hR9 hX9=>?_
 refine Aw_st hE [0,1,6,16,17,18] [1000,1001] fun K hK=>?_
 simp only [go_sem,seval,hg]
 repeat refine sd0 ?_
 refine hK _ ?_;clear hK K
 refine Aw_st hE [0,1,7,16,17,18] [1000,1001] fun K hK=>?_
 simp only [go_sem,seval,hmp,hW]
 refine ⟨by decide,hwl,?_⟩
 refine hK _ ?_;clear hK K
 refine Aw_st hE [0,1,7,16,17,18,28] [1000,1001] fun K hK=>?_
 simp only [go_sem,seval]
 refine hK _ (Aw_cond rfl (fun hc10=>?_) (fun hc10=>?_))
 ·simp only [dte] at hc10
  have hpk:=pkI_next hc2 hi3 (.inl ⟨rfl,hq⟩)
  have hne:cands W.length (lkF t) (toS W) a ((i:Int) + 1)≠[]:=fun e=>by rw [e] at hc10;simp at hc10
  have hfr:frst a [cands W.length (lkF t) (toS W) a ((i:Int) + 1)]=a::minL (cands W.length (lkF t) (toS W) a ((i:Int) + 1)):=by
   cases hcc:cands W.length (lkF t) (toS W) a ((i:Int) + 1) with
   | nil=>exact absurd hcc hne
   | cons x l=>rfl
  have hpk2:=(hpk.resolve_left fun h=>by rw [hfr] at h;cases h.1).2
  rw [hfr] at hpk2
  have hcl:(cands W.length (lkF t) (toS W) a ((i:Int) + 1)).length≤2000000:=by have:=cands_lenL (n:=W.length) (of:=lkF t) (W:=toS W) (h:=a) (rel:=(i:Int) + 1);omega
  have hco:∀ w ∈ cands W.length (lkF t) (toS W) a ((i:Int) + 1),pathOk w=true:=fun w hw=>hok w (cands_sub rfl w hw)
  have hml:(minL (cands W.length (lkF t) (toS W) a ((i:Int) + 1))).length≤1000:=by
   cases hcc:cands W.length (lkF t) (toS W) a ((i:Int) + 1) with
   | nil=>exact absurd hcc hne
   | cons x l =>
    have:=minL_mem (x:=x) (l:=l)
    rw [← hcc] at this ⊢
    have:=pathOk_len (hco _ this);omega
  have hpos:0 < (cands W.length (lkF t) (toS W) a ((i:Int) + 1)).length:=by omega
  generalize hmm:minL (cands W.length (lkF t) (toS W) a ((i:Int) + 1))=mm at *
  have h2w:[[DV.sl [[DV.v (.int .i64 a)]]],[DV.sl (rows mm)]]=wrows [[a],mm]:=rfl
  refine Aw_st hE [4] [1000,1001] fun K hK=>?_
  simp only [go_sem,seval,hpos,hcl,hco,hml,hmm,chunks,List.take_succ_cons,List.drop_succ_cons,h2w]
  refine ⟨hco,?_⟩
  refine hK _ (Aw_ret (hR9 _ (hR8 _ (hR5 _ (hR4 _ (hR3 _ (hQ _ ?_)))))))
  simp only [go_sem,seval]
  exact fin _ hpk2
 ·simp only [dfn] at hc10
  have hnil:cands W.length (lkF t) (toS W) a ((i:Int) + 1)=[]:=List.eq_nil_of_length_eq_zero (by omega)
  refine Aw_skip (hN9 _ (hB8 _ ?_))
  refine Aw_tx hE [0,1,16,17,18] [1000,1001] fun K hK=>?_
  simp only [go_sem,seval]
  repeat refine sd0 ?_
  refine hK _ (hN5 (i + 1) _ ⟨by omega,fun q hq2=>if e:q < i then hq q e else (by obtain rfl:q=i:=(by omega);exact hnil)⟩ (by omega) (Le.refl _))
def okNet (N:Nt):Prop:=mpI N.t∧N.W.length≤5∧netS N.W.length (lkF N.t) N.home (toS N.W)
theorem okNet_N {N:Nt} (h:okNet N):okN' N:=by
 obtain ⟨h1,h2,h3⟩:=h
 refine ⟨h1,by omega,fun w hw=>?_⟩
 obtain ⟨i,hi,rfl⟩:=List.getElem_of_mem hw
 have:=h3.2 ((i:Int) + 1) ⟨by omega,by omega⟩
 rw [toS_succ,List.getD_eq_getElem?_getD,List.getElem?_eq_getElem hi,Option.getD_some] at this
 by_cases e:N.W[i]=[]
 ·rw [e];rfl
 ·exact ((wayOk_iff e).1 this).2.2.1
def Nt.stp (N:Nt) (h:Int):Nt:=⟨N.n,N.t,N.home,stpL N.W.length (lkF N.t) N.home N.W h⟩
def Nt.run (N:Nt) (q:List Int):Nt:=⟨N.n,N.t,N.home,runL N.W.length (lkF N.t) N.home N.W q⟩
theorem okNet_stp {N:Nt} (h:okNet N) {x:Int} (hx:hI N.W.length x):okNet (N.stp x):=by
 obtain ⟨h1,h2,h3⟩:=h
 refine ⟨h1,by rw [Nt.stp,stpL_len];exact h2,?_⟩
 simp only [Nt.stp,stpL_len]
 rw [toS_stp rfl hx]
 exact netS_stp h2 h3 hx
def cStepI (pb:Addr):ConM:=mkM (WP pb) eNH (fun i=>okNet i.1∧1≤i.2∧i.2≤i.1.W.length) fun i r m2=>r = .tup []∧m2=(i.1.stp i.2).M 1000 1001
theorem stepI_pre (pb:Addr) (n:Int) (t:List (Value × Value)) (home:Int) (W:List (List Int)) (h:Int):(cStepI pb).pre [.loc 1000 0,iv h] [(1000,[iv n,.dv (.mp t),iv home,.xs 1001 0 W.length W.length 1]),(1001,cWs W)]=(okNet ⟨n,t,home,W⟩∧1≤h∧h≤W.length):=mkM_pre eNH_inj (⟨n,t,home,W⟩,h) rfl
theorem stepI_post (pb:Addr) (n:Int) (t:List (Value × Value)) (home:Int) (W:List (List Int)) (h:Int) (K:AV→List (Nat × List AV)→Prop):(∀ r m2,(cStepI pb).post [.loc 1000 0,iv h] [(1000,[iv n,.dv (.mp t),iv home,.xs 1001 0 W.length W.length 1]),(1001,cWs W)] r m2→K r m2)=K (.tup []) [(1000,[iv n,.dv (.mp t),iv home,.xs 1001 0 W.length W.length 1]),(1001,cWs (stpL W.length (lkF t) home W h))]:=by
 refine (mkM_post eNH_inj (⟨n,t,home,W⟩,h) rfl K).trans ((mkM_fn _ _).trans ?_)
 simp only [Nt.stp,Nt.M,stpL_len]
attribute [go_sem] stepI_pre stepI_post
set_option maxHeartbeats 4000000 in
theorem stepI_ok (pb:Addr):FineM Tryd.prog 37 (cStepI pb):=by
 refine fineM_ofN [] ms_nil [(30,(cPickI pb,[(1000,1000)],[]))] (mm_cons (pickI_ok pb) (by decide) mm_nil (wp_inh pb)) [] [] ex_nil (T:=TT) Tryd.func37 rfl Tryd.ntmps37 (by rw [Tryd.results37]) rfl rfl tt gs_nil ds_nil ?_
 rintro args m1 ⟨⟨⟨n,t,home,W⟩,a⟩,e,hok,h1,h2⟩
 obtain ⟨rfl,rfl⟩:=Prod.mk.inj e.symm
 refine ⟨by simp,fun E hE Q hQ=>?_⟩
 simp only at hok h1 h2
 have hok':=okNet_N hok
 have hW5:W.length≤5:=hok.2.1
 have hlt:(a - 1).toNat < W.length:=by omega
 apply (fun F0 F1 F2 F3 F4 F5 F6=>Aw_tD hE [([0,4,5,6,7,8],(.alt 1 (.fst 2 (.ref 5)) .non)),([0,1,2,4,5,6,7],(.alt 3 (.ref 3) (.alt 8 (.ref 5) .non))),([0,1,2,4,6,7,8],(.alt 3 (.ref 4) (.alt 5 (.ref 5) .non))),([0,1,2,3,4,5,6,7],(.alt 8 (.ref 6) .non)),([0,1,2,3,4,6,7,8],(.alt 5 (.ref 6) .non)),([0,1,2,4,5,6,7,8],(.alt 3 (.ref 6) .non)),([0,1,2,3,4,5,6,7,8],(.alt 9 (.alt 10 .done .non) .non))] (.fst 0 (.fst 4 (.fst 6 (.fst 7 (.alt 1 (.fst 2 (.alt 3 (.alt 5 (.ref 3) (.alt 8 (.ref 4) .non)) (.alt 5 (.ref 1) (.alt 8 (.ref 2) .non)))) (.alt 5 (.alt 1 (.fst 2 (.ref 1)) (.alt 8 (.ref 0) .non)) (.alt 8 (.alt 1 (.fst 2 (.ref 2)) (.alt 5 (.ref 0) .non)) .non))))))) [F0,F1,F2,F3,F4,F5,F6] [] [1000,1001])
 ·kernel_rfl
 intro K hK
 refine And.intro ?_ (And.intro ?_ (And.intro ?_ (And.intro ?_ (And.intro ?_ (And.intro ?_ (And.intro ?_ (And.intro ?_ trivial)))))))
 iterate 7 (focus (simp only [go_sem,seval,hok',cWs_set];repeat' (first | exact (fun _ _ r=>r) | exact LeE_eq (by simp only [go_sem,seval,hok',cWs_set]) (by simp only [go_sem,seval,hok',cWs_set]) | exact LeE_wk (by simp only [go_sem,seval,hok',cWs_set]) (by simp only [go_sem,seval,hok',cWs_set]) | refine And.intro (by first|omega|(and_intros<;>first|omega|exact crows_row _|exact rrows_row _|exact rows_row _|decide|(simp<;>omega))|fail) ?_ | refine And.intro ?_ ?_)))
 simp only [go_sem,seval,hok',cWs_set]
 refine ⟨⟨by omega,by omega⟩,by omega,hK _ (hQ _ _ ?_)⟩
 simp only [go_sem,seval]
 exact ⟨(⟨n,t,home,W⟩,a),rfl,rfl,by simp only [Nt.stp,Nt.M,stpL_len];rfl⟩
def eNQ (i:Nt × List Int):List AV × List (Nat × List AV):=([.loc 1000 0,isl i.2],i.1.M 1000 1001)
theorem eNQ_inj (i j:Nt × List Int) (h:eNQ i=eNQ j):i=j:=by
 obtain ⟨N,x⟩:=i
 obtain ⟨N',x'⟩:=j
 obtain ⟨h1,h2⟩:=Prod.mk.inj h
 obtain ⟨_,h1⟩:=List.cons.inj h1
 obtain ⟨h1,_⟩:=List.cons.inj h1
 obtain rfl:=NtM_inj (N:=N) (N':=N') h2
 have h1:x=x':=isl1_inj h1
 rw [h1]
theorem runL_len {n:Nat} {of:Rel} {home:Int}:∀ (q:List Int) (L:List (List Int)),(runL n of home L q).length=L.length
 | [],_=>rfl
 | x::q,L=>(runL_len q _).trans (stpL_len _ _)
theorem okNet_run {N:Nt}:∀ {q:List Int},okNet N→(∀ x ∈ q,hI N.W.length x)→okNet (N.run q)
 | [],h,_=>h
 | x::q,h,hq=>by
  have h1:=okNet_run (N:=N.stp x) (q:=q) (okNet_stp h (hq x (by simp))) (fun y hy=>by simp only [Nt.stp,stpL_len];exact hq y (by simp [hy]))
  simp only [Nt.stp,Nt.run,stpL_len] at h1
  exact h1
theorem run_next {N:Nt} {q:List Int} {i:Nat} (hi:i < q.length):stpL N.W.length (lkF N.t) N.home (runL N.W.length (lkF N.t) N.home N.W (q.take i)) (q.getD i 0)=runL N.W.length (lkF N.t) N.home N.W (q.take (i + 1)):=by
 rw [take_one q i 0 hi,runL_app];rfl
theorem runL_nil {n:Nat} {of:Rel} {home:Int} (W:List (List Int)):runL n of home W []=W:=rfl
attribute [go_sem] runL_nil
theorem stepI_preL (pb:Addr) (n:Int) (t:List (Value × Value)) (home:Int) {W:List (List Int)} {l:Nat} (hl:W.length=l) (h:Int):(cStepI pb).pre [.loc 1000 0,iv h] [(1000,[iv n,.dv (.mp t),iv home,.xs 1001 0 l l 1]),(1001,cWs W)]=(okNet ⟨n,t,home,W⟩∧1≤h∧h≤W.length):=by subst hl;exact stepI_pre pb n t home W h
theorem stepI_postL (pb:Addr) (n:Int) (t:List (Value × Value)) (home:Int) {W:List (List Int)} {l:Nat} (hl:W.length=l) (h:Int) (K:AV→List (Nat × List AV)→Prop):(∀ r m2,(cStepI pb).post [.loc 1000 0,iv h] [(1000,[iv n,.dv (.mp t),iv home,.xs 1001 0 l l 1]),(1001,cWs W)] r m2→K r m2)=K (.tup []) [(1000,[iv n,.dv (.mp t),iv home,.xs 1001 0 l l 1]),(1001,cWs (stpL W.length (lkF t) home W h))]:=by subst hl;exact stepI_post pb n t home W h K
def cRunI (pb:Addr):ConM:=mkM (WP pb) eNQ (fun i=>okNet i.1∧(∀ x ∈ i.2,hI i.1.W.length x)∧i.2.length≤2000000) fun i r m2=>r = .tup []∧m2=(i.1.run i.2).M 1000 1001
theorem runI_pre (pb:Addr) (n:Int) (t:List (Value × Value)) (home:Int) (W:List (List Int)) (q:List Int):(cRunI pb).pre [.loc 1000 0,isl q] [(1000,[iv n,.dv (.mp t),iv home,.xs 1001 0 W.length W.length 1]),(1001,cWs W)]=(okNet ⟨n,t,home,W⟩∧(∀ x ∈ q,hI W.length x)∧q.length≤2000000):=mkM_pre eNQ_inj (⟨n,t,home,W⟩,q) rfl
theorem runI_post (pb:Addr) (n:Int) (t:List (Value × Value)) (home:Int) (W:List (List Int)) (q:List Int) (K:AV→List (Nat × List AV)→Prop):(∀ r m2,(cRunI pb).post [.loc 1000 0,isl q] [(1000,[iv n,.dv (.mp t),iv home,.xs 1001 0 W.length W.length 1]),(1001,cWs W)] r m2→K r m2)=K (.tup []) [(1000,[iv n,.dv (.mp t),iv home,.xs 1001 0 W.length W.length 1]),(1001,cWs (runL W.length (lkF t) home W q))]:=by
 refine (mkM_post eNQ_inj (⟨n,t,home,W⟩,q) rfl K).trans ((mkM_fn _ _).trans ?_)
 simp only [Nt.run,Nt.M,runL_len]
attribute [go_sem] runI_pre runI_post
set_option maxHeartbeats 4000000 in
theorem runI_ok (pb:Addr):FineM Tryd.prog 35 (cRunI pb):=by
 refine fineM_ofN [] ms_nil [(37,(cStepI pb,[(1000,1000)],[]))] (mm_cons (stepI_ok pb) (by decide) mm_nil (wp_inh pb)) [6] [] ex_nil (T:=TT) Tryd.func35 rfl Tryd.ntmps35 (by rw [Tryd.results35]) rfl rfl tt gs_nil ds_nil ?_
 rintro args m1 ⟨⟨⟨n,t,home,W⟩,q⟩,e,hok,hq,hql⟩
 obtain ⟨rfl,rfl⟩:=Prod.mk.inj e.symm
 refine ⟨by simp,fun E hE Q hQ=>?_⟩
 simp only at hok hq hql
 refine Aw_st hE [1,4] [1000,1001] fun K hK=>?_
 simp only [go_sem,seval]
 refine hK _ ?_;clear hK K
 refine Aw_bk fun B1 hN1 hE1 hR1 hX1=>?_
 refine Aw_lp (fun i:Nat=>⟨17,[(1,isl (q.drop i)),(4,.cl 37 true [.loc 1000 0])],[(1000,[iv n,.dv (.mp t),iv home,.xs 1001 0 W.length W.length 1]),(1001,cWs (runL W.length (lkF t) home W (q.take i)))],0⟩) (fun i=>i≤q.length) (fun i=>q.length - i) 0 (Le_wa) (by omega) fun i hi B2 hN2 hR2 hX2=>?_
 refine Aw_sq fun B3 hB3 hR3 hX3=>?_
 refine Aw_st hE [1,4,9] [1000,1001] fun K hK=>?_
 simp only [go_sem,seval]
 refine hK _ (Aw_cond rfl (fun hc4=>?_) (fun hc4=>?_))
 ·simp only [dte,List.length_drop] at hc4
  have hil:i < q.length:=by omega
  have hdr:(rows (q.drop i))[0]? = some [.v (.int .i64 (q.getD i 0))]:=by rw [rows_get _ 0 (by rw [List.length_drop];omega),List.getD_eq_getElem?_getD,List.getElem?_drop,← List.getD_eq_getElem?_getD];rfl
  have hx:=hq _ (getD_mem q i hil)
  have hok2:okNet ⟨n,t,home,runL W.length (lkF t) home W (q.take i)⟩:=okNet_run (N:=⟨n,t,home,W⟩) hok fun y hy=>hq y (List.mem_of_mem_take hy)
  have hlen:=runL_len (n:=W.length) (of:=lkF t) (home:=home) (q.take i) W
  have hnx:=run_next (N:=⟨n,t,home,W⟩) hil
  simp only at hnx
  have hpre:=stepI_preL pb n t home hlen (q.getD i 0)
  have hpost:=fun K=>stepI_postL pb n t home hlen (q.getD i 0) K
  refine Aw_skip (hB3 _ ?_)
  refine Aw_sq fun B5 hB5 hR5 hX5=>?_
  refine Aw_bk fun B6 hN6 hE6 hR6 hX6=>?_
  refine Aw_tx hE [1,4] [1000,1001] fun K hK=>?_
  simp only [go_sem,seval,hdr,hpre,hpost,hlen,hnx,hok2,hx.1,hx.2]
  refine ⟨by decide,hK _ (hN6 _ (hB5 _ ?_))⟩
  have htl:(q.drop i).take (q.length - i)=q.drop i:=List.take_of_length_le (by rw [List.length_drop];omega)
  refine Aw_tx hE [1,4] [1000,1001] fun K hK=>?_
  simp only [go_sem,seval,htl,List.length_drop,List.drop_drop,rows_drop]
  refine ⟨⟨by omega,by omega,fun r hr=>?_⟩,hK _ (hN2 (i + 1) _ (by omega) (by omega) (Le.refl _))⟩
  obtain ⟨x,_,rfl⟩:=List.mem_map.1 hr
  rfl
 ·simp only [dfn,List.length_drop] at hc4
  obtain rfl:i=q.length:=by omega
  rw [List.take_length]
  refine Aw_exit (hX3 _ _ (hX2 _ _ (hE1 _ ?_)))
  refine hQ _ _ ?_
  simp only [go_sem,seval]
  exact ⟨(⟨n,t,home,W⟩,q),rfl,rfl,by simp only [Nt.run,Nt.M,runL_len]⟩
def eNo (i:Int × List (Value × Value) × Int):List AV × List (Nat × List AV):=([.agg [iv i.1,.dv (.mp i.2.1)],iv i.2.2],[])
theorem eNo_inj (i j:Int × List (Value × Value) × Int) (h:eNo i=eNo j):i=j:=by
 obtain ⟨n,t,x⟩:=i
 obtain ⟨n',t',x'⟩:=j
 have h1:=(Prod.mk.inj h).1
 simp only [List.cons.injEq,AV.agg.injEq,AV.v.injEq,Value.int.injEq,true_and,and_true,AV.dv.injEq,DV.mp.injEq] at h1
 obtain ⟨⟨rfl,rfl⟩,rfl⟩:=h1
 rfl
def cNothing:ConM:=mkM (fun _=>True) eNo (fun i=>1≤i.2.2∧i.2.2≤i.1∧i.1≤1000) fun i r m2=>r = .loc 12 0∧m2=(⟨i.1,i.2.1,i.2.2,noneL i.1.toNat i.2.2⟩:Nt).M 12 10
theorem no_pre (n:Int) (t:List (Value × Value)) (x:Int):cNothing.pre [.agg [iv n,.dv (.mp t)],iv x] []=(1≤x∧x≤n∧n≤1000):=mkM_pre eNo_inj (n,t,x) rfl
theorem no_post (n:Int) (t:List (Value × Value)) (x:Int) (K:AV→List (Nat × List AV)→Prop):(∀ r m2,cNothing.post [.agg [iv n,.dv (.mp t)],iv x] [] r m2→K r m2)=K (.loc 12 0) ((⟨n,t,x,noneL n.toNat x⟩:Nt).M 12 10):=(mkM_post eNo_inj (n,t,x) rfl K).trans (mkM_fn _ _)
theorem nl_stripA (d n:Nat):AV.stripAll d (List.replicate n .nl)=List.replicate n .nl:=by rw [AV.stripAll_eq,List.map_replicate];rfl
theorem none_le (o:Option (Nat × Nat × Nat)) (x:Int):∀ n k:Nat,avLeL ((List.replicate n AV.nl).set k (.sl o [[.v (.int .i64 x)]])) (cWs ((List.replicate n []).set k [x]))=True
 | 0,_=>by simp [avLeL,cWs]
 | n + 1,0=>by
  have h:avLeL (List.replicate n AV.nl) (cWs (List.replicate n []))=True:=by
   clear x
   induction n with
   | zero=>simp [avLeL,cWs]
   | succ n ih =>
    rw [List.replicate_succ,List.replicate_succ]
    simp only [cWs,List.map_cons] at ih ⊢
    simp only [avLeL,ih,and_true,avLe,lfLe,AV.els,rows,List.map_nil,List.map_cons]
  rw [List.replicate_succ,List.replicate_succ,List.set_cons_zero,List.set_cons_zero]
  simp only [cWs,List.map_cons] at h ⊢
  simp only [avLeL,h,and_true,avLe,lfLe,AV.els,rows,List.map_nil,List.map_cons]
 | n + 1,k + 1=>by
  have ih:=none_le o x n k
  rw [List.replicate_succ,List.replicate_succ,List.set_cons_succ,List.set_cons_succ]
  simp only [cWs,List.map_cons] at ih ⊢
  simp only [avLeL,ih,and_true,avLe,lfLe,AV.els,rows,List.map_nil,List.map_cons]
theorem noneL_le (o:Option (Nat × Nat × Nat)) (x:Int) (n:Nat):avLeL ((List.replicate n AV.nl).set (x - 1).toNat (.sl o [[.v (.int .i64 x)]])) (cWs (noneL n x))=True:=none_le o x n _
attribute [go_sem] no_pre no_post nl_stripA noneL_le noneL_len
def dNetOkI (pb:Addr):DFn:={ g:=gNetOk,inv:=WP pb }
def dNetPickI (pb:Addr):DFn:={ g:=gNetPick,inv:=WP pb }
def dNetStepI (pb:Addr):DFn:={ g:=gNetStep,inv:=WP pb }
theorem frz_wD {L:List (List Int)} {l:Nat} (h:L.length=l):(if l≤(wD L).length then AV.sl none (chunks 1 l ((wD L).take l)) else .junk)=wsl L:=by
 subst h
 rw [if_pos (by rw [wD_len];exact Nat.le_refl _),List.take_of_length_le (by rw [wD_len];exact Nat.le_refl _),chunks_wD]
attribute [go_sem] dNetOkI dNetPickI dNetStepI
def dNetNoneI (pb:Addr):DFn:={ g:=gNetNone,inv:=WP pb }
def dNetStillI (pb:Addr):DFn:={ g:=gNetStill,inv:=WP pb }
theorem nt_inh (pb:Addr):Inh (WP pb) (fun _=>True) false:=fun _ _ _ _ _=>trivial
attribute [go_sem] dNetNoneI dNetStillI
def bigW (W:List (List Int)):Prop:=W.length≤4294967296∧∀ w ∈ W,w.length≤4294967296
def gLyW:List AV→Option (Prop × AV)
 | [.sl _ e1,.sl _ e2]=>(match waysL e1,waysL e2 with
  | some a,some b=>some (bigW a∧bigW b,bv (decide (a=b)))
  | _,_=>none)
 | _=>none
def dLyW:DFn:={ g:=gLyW }
attribute [go_sem] gLyW dLyW
theorem eq_getW {a b:List (List Int)} (hl:a.length=b.length):a=b↔∀ j,j < a.length→a.getD j []=b.getD j []:=by
 constructor
 ·rintro rfl _ _;rfl
 ·intro h
  refine List.ext_getElem hl fun j h1 h2=>?_
  have:=h j h1
  rwa [List.getD_eq_getElem?_getD,List.getD_eq_getElem?_getD,List.getElem?_eq_getElem h1,List.getElem?_eq_getElem h2] at this
def cRelsD:Con:={ pre:=fun args=>args=[.rd],post:=fun _ r=>∃ R:List (List Int),(2≤R.length∧R.length≤5)∧(∀ w ∈ R,w.length=R.length)∧r=wsl R,cost:=40,draws:=true }
theorem cRelsD_own:cRelsD.own=false:=rfl
theorem cRelsD_draws:cRelsD.draws=true:=rfl
theorem cRelsD_cost:cRelsD.cost=40:=rfl
attribute [go_sem] cRelsD_own cRelsD_draws cRelsD_cost
def jN (n:Nat):List AV:=List.replicate n .junk
def vws (n:Nat) (c:Nat→Nat) (b:Nat):Nat→List AV
 | 0=>[]
 | i + 1=>vws n c b i++[.xs (b + i) 0 n (c i + n) 1]
def bxs (n:Nat) (c:Nat→Nat) (r:Nat→List Int) (b:Nat):Nat→List (Nat × List AV)
 | 0=>[]
 | i + 1=>bxs n c r b i++[(b + i,cI (r i)++jN (c i))]
theorem jN_z:jN 0=[]:=rfl
theorem jN_s (n:Nat):jN (n + 1) = .junk::jN n:=rfl
theorem jN_len (n:Nat):(jN n).length=n:=List.length_replicate
theorem jN_strip (d n:Nat):AV.stripLAll d (jN n)=jN n:=by rw [AV.stripLAll_eq,jN,List.map_replicate];rfl
theorem jN_stripA (d n:Nat):AV.stripAll d (jN n)=jN n:=by rw [AV.stripAll_eq,jN,List.map_replicate];rfl
theorem jN_nt (n:Nat):AV.ntAll (jN n)=jN n:=by rw [ntAll_eq,jN,List.map_replicate];rfl
theorem jN_swb (d d' n:Nat):AV.swbAll d d' (jN n)=jN n:=by rw [AV.swbAll_eq,jN,List.map_replicate];rfl
theorem jN_frz (d:Nat) (ys:List DV) (n:Nat):AV.frzAll d ys (jN n)=jN n:=by rw [frzAll_eq,jN,List.map_replicate];rfl
theorem jN_le:∀ n:Nat,avLeL (jN n) (jN n)=True
 | 0=>by simp [jN,avLeL]
 | n + 1=>by rw [jN_s];simp only [avLeL,jN_le n,and_true,avLe,lfLe]
theorem jN_rep (n:Nat):List.replicate n AV.junk=jN n:=rfl
theorem cI_nil:cI []=[]:=rfl
theorem cI_cons (x:Int) (l:List Int):cI (x::l)=iv x::cI l:=rfl
attribute [go_sem] cI_nil cI_cons vws bxs jN_z jN_len jN_strip jN_stripA jN_nt jN_swb jN_le jN_rep jN_frz
def iD (l:List Int):List DV:=l.map fun n=>.v (.int .i64 n)
theorem iD_len (l:List Int):(iD l).length=l.length:=List.length_map _
theorem chunks_iD:∀ l:List Int,chunks 1 l.length (iD l)=rows l
 | []=>rfl
 | x::l=>by
  have ih:=chunks_iD l
  simp only [List.length_cons,iD,List.map_cons,chunks] at ih ⊢
  simp only [List.take_succ_cons,List.take_zero,List.drop_succ_cons,List.drop_zero]
  rw [ih];rfl
theorem frz_iD {l:List Int} {n:Nat} (h:l.length=n):(if n≤(iD l).length then AV.sl none (chunks 1 n ((iD l).take n)) else .junk)=isl l:=by
 subst h
 rw [if_pos (by rw [iD_len];exact Nat.le_refl _),List.take_of_length_le (by rw [iD_len];exact Nat.le_refl _),chunks_iD]
theorem frz_xs {d n cap:Nat} {l:List Int} (h:l.length=n):AV.frz d (iD l) (.xs d 0 n cap 1)=isl l:=by
 have:=frz_iD h
 simp only [AV.frz,reduceIte,Nat.zero_add,Nat.mul_one,List.drop_zero]
 exact this
theorem frz_xsW {d n cap:Nat} {L:List (List Int)} (h:L.length=n):AV.frz d (wD L) (.xs d 0 n cap 1)=wsl L:=by
 have:=frz_wD h
 simp only [AV.frz,reduceIte,Nat.zero_add,Nat.mul_one,List.drop_zero]
 exact this
def upd (r:Nat→List Int) (i j:Nat) (v:Int):Nat→List Int:=fun q=>if q=i then (r i).set j v else r q
theorem row_le:∀ (l:List Int) (c:Nat),avLeL (cI l++jN c) (cI l++jN c)=True
 | [],c=>jN_le c
 | x::l,c=>by
  have ih:=row_le l c
  simp only [cI,List.map_cons,List.cons_append] at ih ⊢
  simp only [avLeL,ih,and_true,avLe,lfLe]
theorem row_len (l:List Int) (c:Nat):(cI l++jN c).length=l.length + c:=by rw [List.length_append,cI_len,jN_len]
attribute [go_sem] row_le row_len
def put {α:Type} (f:Nat→α) (i:Nat) (v:α):Nat→α:=fun x=>if x=i then v else f x
theorem row_take (q:List Int) (e:Nat):(cI q++jN e).take q.length=cI q:=List.take_left' (cI_len q)
theorem row_swb (d d':Nat) (l:List Int) (c:Nat):AV.swbAll d d' (cI l++jN c)=cI l++jN c:=by
 rw [AV.swbAll_eq,List.map_append,← AV.swbAll_eq,← AV.swbAll_eq,jN_swb,AV.swbAll_eq,cI,List.map_map]
 rfl
theorem row_stripA (d:Nat) (l:List Int) (c:Nat):AV.stripAll d (cI l++jN c)=cI l++jN c:=by
 rw [AV.stripAll_eq,List.map_append,← AV.stripAll_eq,← AV.stripAll_eq,jN_stripA,AV.stripAll_eq,cI,List.map_map]
 rfl
theorem row_stripL (d:Nat) (l:List Int) (c:Nat):AV.stripLAll d (cI l++jN c)=cI l++jN c:=by
 rw [AV.stripLAll_eq,List.map_append,← AV.stripLAll_eq,← AV.stripLAll_eq,jN_strip,AV.stripLAll_eq,cI,List.map_map]
 rfl
theorem cI_stripL (d:Nat) (l:List Int):AV.stripLAll d (cI l)=cI l:=by
 rw [AV.stripLAll_eq,cI,List.map_map]
 rfl
theorem fl_one (v:Int):flatA [[DV.v (.int .i64 v)]]=[iv v]:=rfl
theorem lf_one (v:Int):allLeaf [iv v]=true:=rfl
theorem one_row (v:Int):(∀ row ∈ [[DV.v (.int .i64 v)]],row.length=1)=True:=by simp
attribute [go_sem] row_stripA row_stripL cI_stripL fl_one lf_one one_row row_take row_swb
def szI (n:Nat) (l:Int):Int:=if l - n < 0 then -1 else l - n
def szWR:List (List Int)→Int→Int
 | [],l=>l
 | r::R,l=>if szI r.length l < 0 then -1 else szWR R (szI r.length l)
def szW (R:List (List Int)) (l:Int):Int:=if l - R.length < 0 then -1 else szWR R (l - R.length)
theorem szI_le (n:Nat) (l:Int) (h:0≤l):szI n l≤l∧-1≤szI n l∧(0≤szI n l→(n:Int)≤l):=by
 unfold szI;split<;>omega
theorem szWR_ok:∀ (R:List (List Int)) (l:Int),0≤l→szWR R l≤l∧-1≤szWR R l∧(0≤szWR R l→∀ r ∈ R,(r.length:Int)≤l)
 | [],l,h=>⟨Int.le_refl _,by unfold szWR;omega,fun _ r hr=>by cases hr⟩
 | r::R,l,h=>by
  obtain ⟨h1,h2,h3⟩:=szI_le r.length l h
  unfold szWR
  split
  ·exact ⟨by omega,by omega,fun h=>absurd h (by omega)⟩
  ·rename_i hn
   obtain ⟨g1,g2,g3⟩:=szWR_ok R (szI r.length l) (by omega)
   refine ⟨by omega,by omega,fun h4 q hq=>?_⟩
   rcases List.mem_cons.1 hq with e | hq
   ·rw [e];exact h3 (by omega)
   ·have:=g3 h4 q hq;omega
theorem szW_ok {R:List (List Int)} {l:Int} (h:0≤l):szW R l≤l∧-1≤szW R l∧(0≤szW R l→(R.length:Int)≤l∧∀ r ∈ R,(r.length:Int)≤l):=by
 unfold szW
 split
 ·exact ⟨by omega,by omega,fun h=>absurd h (by omega)⟩
 ·obtain ⟨g1,g2,g3⟩:=szWR_ok R (l - R.length) (by omega)
  refine ⟨by omega,g2,fun h4=>⟨by omega,fun r hr=>?_⟩⟩
  have:=g3 h4 r hr;omega
theorem szWR_step {R:List (List Int)} {i:Nat} (hi:i < R.length) (l:Int):szWR (R.drop i) l=if szI (R.getD i []).length l < 0 then -1 else szWR (R.drop (i + 1)) (szI (R.getD i []).length l):=by
 rw [List.drop_eq_getElem_cons hi,List.getD_eq_getElem?_getD,List.getElem?_eq_getElem hi]
 rfl
theorem szWR_end {R:List (List Int)} (l:Int):szWR (R.drop R.length) l=l:=by rw [List.drop_length];rfl
def gSzI:List AV→Option (Prop × AV)
 | [.sl _ els,.v (.int .i64 l)]=>(match intsL els with
  | some r=>some (r.length≤9223372036854775807∧0≤l∧l≤1048576,iv (szI r.length l))
  | none=>none)
 | _=>none
def dSzI:DFn:={ g:=gSzI }
attribute [go_sem] gSzI dSzI
theorem szIntS_ok:Fine Tryd.prog 24 dSzI.con:=by
 refine fine_det (T:=TT) Tryd.func24 rfl Tryd.ntmps24 (by rw [Tryd.results24]) rfl rfl tt (gs_nil) (ds_nil) ?_
 intro args c r h hc
 simp only [dSzI,gSzI] at h
 split at h
 rotate_left
 ·cases h
 split at h
 rotate_left
 ·cases h
 rename_i tt els l _ r hl
 obtain rfl:=intsL_eq hl
 obtain ⟨rfl,rfl⟩:=Prod.mk.inj (Option.some.inj h)
 refine ⟨by simp,fun k E hE Q hQ=>?_⟩
 obtain ⟨h1,h2,h3⟩:=hc
 refine Aw_st hE [0,1] [] fun K hK=>?_
 simp only [go_sem,seval]
 repeat refine sd0 ?_
 refine hK _ ?_;clear hK K
 refine Aw_st hE [1] [] fun K hK=>?_
 simp only [go_sem,seval]
 repeat refine sd0 ?_
 refine hK _ ?_;clear hK K
 refine Aw_sq fun B1 hB1 hR1 hX1=>?_
 refine Aw_st hE [1,10] [] fun K hK=>?_
 simp only [go_sem,seval]
 repeat refine sd0 ?_
 refine hK _ (Aw_cond rfl (fun hc2=>?_) (fun hc2=>?_))
 ·simp only [dte] at hc2
  refine Aw_st hE [4] [] fun K hK=>?_
  simp only [go_sem,seval]
  repeat refine sd0 ?_
  refine hK _ (Aw_ret (hR1 _ (hQ _ ?_)))
  simp only [go_sem,seval]
  unfold szI
  rw [if_pos hc2]
 ·simp only [dfn] at hc2
  refine Aw_skip (hB1 _ ?_)
  refine Aw_st hE [4] [] fun K hK=>?_
  simp only [go_sem,seval]
  repeat refine sd0 ?_
  refine hK _ (Aw_ret (hQ _ ?_))
  simp only [go_sem,seval]
  unfold szI
  rw [if_neg hc2]
def longW (R:List (List Int)):Prop:=R.length≤9223372036854775807∧∀ r ∈ R,r.length≤9223372036854775807
def gSzW:List AV→Option (Prop × AV)
 | [.sl _ els,.v (.int .i64 l)]=>(match waysL els with
  | some R=>some (longW R∧0≤l∧l≤1048576,iv (szW R l))
  | none=>none)
 | _=>none
def dSzW:DFn:={ g:=gSzW }
attribute [go_sem] gSzW dSzW
theorem szIntSS_ok:Fine Tryd.prog 7 dSzW.con:=by
 refine fine_det (T:=TT) Tryd.func7 rfl Tryd.ntmps7 (by rw [Tryd.results7]) rfl rfl tt (gs_nil) (ds_cons szIntS_ok ds_nil) ?_
 intro args c r h hc
 simp only [dSzW,gSzW] at h
 split at h
 rotate_left
 ·cases h
 split at h
 rotate_left
 ·cases h
 rename_i tt els l _ R hiw
 obtain rfl:=waysL_eq hiw
 obtain ⟨rfl,rfl⟩:=Prod.mk.inj (Option.some.inj h)
 refine ⟨by simp,fun k E hE Q hQ=>?_⟩
 obtain ⟨⟨h1,h1'⟩,h2,h3⟩:=hc
 refine Aw_st hE [0,1] [] fun K hK=>?_
 simp only [go_sem,seval]
 repeat refine sd0 ?_
 refine hK _ ?_;clear hK K
 refine Aw_st hE [0,1] [] fun K hK=>?_
 simp only [go_sem,seval]
 repeat refine sd0 ?_
 refine hK _ ?_;clear hK K
 refine Aw_sq fun B1 hB1 hR1 hX1=>?_
 refine Aw_st hE [0,1,11] [] fun K hK=>?_
 simp only [go_sem,seval]
 repeat refine sd0 ?_
 refine hK _ (Aw_cond rfl (fun hc2=>?_) (fun hc2=>?_))
 ·simp only [dte] at hc2
  refine Aw_st hE [4] [] fun K hK=>?_
  simp only [go_sem,seval]
  repeat refine sd0 ?_
  refine hK _ (Aw_ret (hR1 _ (hQ _ ?_)))
  simp only [go_sem,seval]
  unfold szW
  rw [if_pos hc2]
 ·simp only [dfn] at hc2
  have hsz:szW R l=szWR R (l - R.length):=by unfold szW;rw [if_neg hc2]
  refine Aw_skip (hB1 _ ?_)
  refine Aw_sq fun B3 hB3 hR3 hX3=>?_
  refine Aw_st hE [0,1,5] [] fun K hK=>?_
  simp only [go_sem,seval]
  repeat refine sd0 ?_
  refine hK _ ?_;clear hK K
  refine Aw_bk fun B4 hN4 hE4 hR4 hX4=>?_
  refine Aw_lp (fun i:Nat × Int=>⟨27,[(0,wsl R),(1,iv i.2),(5,iv (i.1:Int))],[],k⟩) (fun i:Nat × Int=>i.1≤R.length∧(0≤i.2∧i.2≤l)∧szW R l=szWR (R.drop i.1) i.2) (fun i:Nat × Int=>R.length - i.1) ((0,l - R.length)) (Le_wa) (⟨by simp only;omega,⟨by simp only;omega,by simp only;omega⟩,by simp only [List.drop_zero];exact hsz⟩) fun i hi B5 hN5 hR5 hX5=>?_
  obtain ⟨i,q⟩:=i
  obtain ⟨hi,⟨hq1,hq2⟩,hs⟩:=hi
  simp only at hi hq1 hq2 hs
  refine Aw_sq fun B6 hB6 hR6 hX6=>?_
  refine Aw_st hE [0,1,5,15] [] fun K hK=>?_
  simp only [go_sem,seval]
  repeat refine sd0 ?_
  refine hK _ (Aw_cond rfl (fun hc7=>?_) (fun hc7=>?_))
  ·simp only [dte] at hc7
   have hil:i < R.length:=by omega
   have hg:=wrows_get R i hil
   have hrl:=h1' _ (getD_memL R i hil)
   have hstp:=szWR_step hil q
   obtain ⟨z1,z2,z3⟩:=szI_le (R.getD i []).length q hq1
   refine Aw_skip (hB6 _ ?_)
   refine Aw_sq fun B8 hB8 hR8 hX8=>?_
   refine Aw_bk fun B9 hN9 hE9 hR9 hX9=>?_
   refine Aw_st hE [0,1,5] [] fun K hK=>?_
   simp only [go_sem,seval,hg,hrl]
   repeat refine sd0 ?_
   refine hK _ ?_;clear hK K
   refine Aw_st hE [0,1,5,25] [] fun K hK=>?_
   simp only [go_sem,seval]
   repeat refine sd0 ?_
   refine hK _ (Aw_cond rfl (fun hc10=>?_) (fun hc10=>?_))
   ·simp only [dte] at hc10
    refine Aw_st hE [4] [] fun K hK=>?_
    simp only [go_sem,seval]
    repeat refine sd0 ?_
    refine hK _ (Aw_ret (hR9 _ (hR8 _ (hR5 _ (hR4 _ (hR3 _ (hQ _ ?_)))))))
    simp only [go_sem,seval]
    rw [hs,hstp,if_pos hc10]
   ·simp only [dfn] at hc10
    rw [if_neg hc10] at hstp
    refine Aw_skip (hN9 _ (hB8 _ ?_))
    refine Aw_tx hE [0,1,5] [] fun K hK=>?_
    simp only [go_sem,seval]
    repeat refine sd0 ?_
    refine hK _ (hN5 ((i + 1,szI (R.getD i []).length q)) _ (⟨by simp only;omega,⟨by simp only;omega,by simp only;omega⟩,by simp only;rw [hs,hstp]⟩) (by simp only;omega) (Le_wb (by simp only [go_sem,seval,Int.natCast_add,Int.natCast_one])))
  ·simp only [dfn] at hc7
   obtain rfl:i=R.length:=by omega
   refine Aw_exit (hX6 _ _ (hX5 _ _ (hE4 _ (hB3 _ ?_))))
   refine Aw_st hE [4] [] fun K hK=>?_
   simp only [go_sem,seval]
   repeat refine sd0 ?_
   refine hK _ (Aw_ret (hQ _ ?_))
   simp only [go_sem,seval]
   rw [hs,szWR_end]
theorem eqIntS_ok:Fine Tryd.prog 11 dLyI.con:=by
 refine fine_det (T:=TT) Tryd.func11 rfl Tryd.ntmps11 (by rw [Tryd.results11]) rfl rfl tt (gs_nil) (ds_nil) ?_
 intro args c r h hc
 simp only [dLyI,gLyI] at h
 split at h
 rotate_left
 ·cases h
 split at h
 rotate_left
 ·cases h
 rename_i t1 e1 t2 e2 _ _ a b hl1 hl2
 obtain rfl:=intsL_eq hl1
 obtain rfl:=intsL_eq hl2
 obtain ⟨rfl,rfl⟩:=Prod.mk.inj (Option.some.inj h)
 refine ⟨by simp,fun k E hE Q hQ=>?_⟩
 obtain ⟨ha,hb⟩:=hc
 refine Aw_st hE [0,1] [] fun K hK=>?_
 simp only [go_sem,seval]
 repeat refine sd0 ?_
 refine hK _ ?_;clear hK K
 refine Aw_sq fun B1 hB1 hR1 hX1=>?_
 refine Aw_st hE [0,1,10] [] fun K hK=>?_
 simp only [go_sem,seval,ha,hb]
 repeat refine sd0 ?_
 refine hK _ (Aw_cond rfl (fun hc2=>?_) (fun hc2=>?_))
 ·simp only [Bool.not_eq_true',dfn] at hc2
  refine Aw_st hE [4] [] fun K hK=>?_
  simp only [go_sem,seval]
  repeat refine sd0 ?_
  refine hK _ (Aw_ret (hR1 _ (hQ _ ?_)))
  simp only [go_sem,seval,decide_eq_false (show ¬ a=b from fun e=>hc2 (by rw [e]))]
 ·simp only [Bool.not_eq_false',dte] at hc2
  have hll:a.length=b.length:=by omega
  refine Aw_skip (hB1 _ ?_)
  refine Aw_sq fun B3 hB3 hR3 hX3=>?_
  refine Aw_st hE [0,1,5] [] fun K hK=>?_
  simp only [go_sem,seval]
  repeat refine sd0 ?_
  refine hK _ ?_;clear hK K
  refine Aw_bk fun B4 hN4 hE4 hR4 hX4=>?_
  refine Aw_lp (fun i:Nat=>⟨26,[(0,isl a),(1,isl b),(5,iv (i:Int))],[],k⟩) (fun i:Nat=>i≤a.length∧∀ j,j < i→a.getD j 0=b.getD j 0) (fun i:Nat=>a.length - i) (0) (Le_wa) (⟨by omega,fun j h=>absurd h (by omega)⟩) fun i hi B5 hN5 hR5 hX5=>?_
  refine Aw_sq fun B6 hB6 hR6 hX6=>?_
  refine Aw_st hE [0,1,5,14] [] fun K hK=>?_
  simp only [go_sem,seval]
  repeat refine sd0 ?_
  refine hK _ (Aw_cond rfl (fun hc7=>?_) (fun hc7=>?_))
  ·simp only [dte] at hc7
   have h1:=rows_get a i (by omega)
   have h2:=rows_get b i (by omega)
   refine Aw_skip (hB6 _ ?_)
   refine Aw_sq fun B8 hB8 hR8 hX8=>?_
   refine Aw_bk fun B9 hN9 hE9 hR9 hX9=>?_
   refine Aw_sd hE [0,1,5,25] [] 6 (by kernel_rfl) fun K hK=>?_
   simp only [go_sem,seval,h1,h2]
   repeat refine sd0 ?_
   refine hK _ (Aw_cond rfl (fun hc10=>?_) (fun hc10=>?_))
   ·simp only [Bool.not_eq_true',dfn] at hc10
    refine Aw_st hE [4] [] fun K hK=>?_
    simp only [go_sem,seval]
    repeat refine sd0 ?_
    refine hK _ (Aw_ret (hR9 _ (hR8 _ (hR5 _ (hR4 _ (hR3 _ (hQ _ ?_)))))))
    simp only [go_sem,seval,decide_eq_false (show ¬ a=b from fun e=>hc10 (by rw [e]))]
   ·simp only [Bool.not_eq_false',dte] at hc10
    refine Aw_skip (hN9 _ (hB8 _ ?_))
    refine Aw_tx hE [0,1,5] [] fun K hK=>?_
    simp only [go_sem,seval]
    repeat refine sd0 ?_
    refine hK _ (hN5 (i + 1) _ (⟨by omega,fun j hj=>if e:j < i then hi.2 j e else (by obtain rfl:j=i:=(by omega);exact hc10)⟩) (by omega) (Le.refl _))
  ·simp only [dfn] at hc7
   refine Aw_exit (hX6 _ _ (hX5 _ _ (hE4 _ (hB3 _ ?_))))
   refine Aw_st hE [4] [] fun K hK=>?_
   simp only [go_sem,seval]
   repeat refine sd0 ?_
   refine hK _ (Aw_ret (hQ _ ?_))
   simp only [go_sem,seval,decide_eq_true (show a=b from (eq_getD hll).2 fun j hj=>hi.2 j (by omega))]
theorem eqIntSS_ok:Fine Tryd.prog 12 dLyW.con:=by
 refine fine_det (T:=TT) Tryd.func12 rfl Tryd.ntmps12 (by rw [Tryd.results12]) rfl rfl tt (gs_nil) (ds_cons eqIntS_ok ds_nil) ?_
 intro args c r h hc
 simp only [dLyW,gLyW] at h
 split at h
 rotate_left
 ·cases h
 split at h
 rotate_left
 ·cases h
 rename_i t1 e1 t2 e2 _ _ a b hiw1 hiw2
 obtain rfl:=waysL_eq hiw1
 obtain rfl:=waysL_eq hiw2
 obtain ⟨rfl,rfl⟩:=Prod.mk.inj (Option.some.inj h)
 refine ⟨by simp,fun k E hE Q hQ=>?_⟩
 obtain ⟨⟨ha,ha2⟩,⟨hb,hb2⟩⟩:=hc
 refine Aw_st hE [0,1] [] fun K hK=>?_
 simp only [go_sem,seval]
 repeat refine sd0 ?_
 refine hK _ ?_;clear hK K
 refine Aw_sq fun B1 hB1 hR1 hX1=>?_
 refine Aw_st hE [0,1,10] [] fun K hK=>?_
 simp only [go_sem,seval,ha,hb]
 repeat refine sd0 ?_
 refine hK _ (Aw_cond rfl (fun hc2=>?_) (fun hc2=>?_))
 ·simp only [Bool.not_eq_true',dfn] at hc2
  refine Aw_st hE [4] [] fun K hK=>?_
  simp only [go_sem,seval]
  repeat refine sd0 ?_
  refine hK _ (Aw_ret (hR1 _ (hQ _ ?_)))
  simp only [go_sem,seval,decide_eq_false (show ¬ a=b from fun e=>hc2 (by rw [e]))]
 ·simp only [Bool.not_eq_false',dte] at hc2
  have hll:a.length=b.length:=by omega
  refine Aw_skip (hB1 _ ?_)
  refine Aw_sq fun B3 hB3 hR3 hX3=>?_
  refine Aw_st hE [0,1,5] [] fun K hK=>?_
  simp only [go_sem,seval]
  repeat refine sd0 ?_
  refine hK _ ?_;clear hK K
  refine Aw_bk fun B4 hN4 hE4 hR4 hX4=>?_
  refine Aw_lp (fun i:Nat=>⟨27,[(0,wsl a),(1,wsl b),(5,iv (i:Int))],[],k⟩) (fun i:Nat=>i≤a.length∧∀ j,j < i→a.getD j []=b.getD j []) (fun i:Nat=>a.length - i) (0) (Le_wa) (⟨by omega,fun j h=>absurd h (by omega)⟩) fun i hi B5 hN5 hR5 hX5=>?_
  refine Aw_sq fun B6 hB6 hR6 hX6=>?_
  refine Aw_st hE [0,1,5,14] [] fun K hK=>?_
  simp only [go_sem,seval]
  repeat refine sd0 ?_
  refine hK _ (Aw_cond rfl (fun hc7=>?_) (fun hc7=>?_))
  ·simp only [dte] at hc7
   have h1:=wrows_get a i (by omega)
   have h2:=wrows_get b i (by omega)
   have h3:=ha2 _ (getD_memL a i (by omega))
   have h4:=hb2 _ (getD_memL b i (by omega))
   refine Aw_skip (hB6 _ ?_)
   refine Aw_sq fun B8 hB8 hR8 hX8=>?_
   refine Aw_bk fun B9 hN9 hE9 hR9 hX9=>?_
   refine Aw_sd hE [0,1,5,26] [] 6 (by kernel_rfl) fun K hK=>?_
   simp only [go_sem,seval,h1,h2,h3,h4]
   repeat refine sd0 ?_
   refine hK _ (Aw_cond rfl (fun hc10=>?_) (fun hc10=>?_))
   ·simp only [Bool.not_eq_true',dfn] at hc10
    refine Aw_st hE [4] [] fun K hK=>?_
    simp only [go_sem,seval]
    repeat refine sd0 ?_
    refine hK _ (Aw_ret (hR9 _ (hR8 _ (hR5 _ (hR4 _ (hR3 _ (hQ _ ?_)))))))
    simp only [go_sem,seval,decide_eq_false (show ¬ a=b from fun e=>hc10 (by rw [e]))]
   ·simp only [Bool.not_eq_false',dte] at hc10
    refine Aw_skip (hN9 _ (hB8 _ ?_))
    refine Aw_tx hE [0,1,5] [] fun K hK=>?_
    simp only [go_sem,seval]
    repeat refine sd0 ?_
    refine hK _ (hN5 (i + 1) _ (⟨by omega,fun j hj=>if e:j < i then hi.2 j e else (by obtain rfl:j=i:=(by omega);exact hc10)⟩) (by omega) (Le.refl _))
  ·simp only [dfn] at hc7
   refine Aw_exit (hX6 _ _ (hX5 _ _ (hE4 _ (hB3 _ ?_))))
   refine Aw_st hE [4] [] fun K hK=>?_
   simp only [go_sem,seval]
   repeat refine sd0 ?_
   refine hK _ (Aw_ret (hQ _ ?_))
   simp only [go_sem,seval,decide_eq_true (show a=b from (eq_getW hll).2 fun j hj=>hi.2 j (by omega))]
def gToI:List AV→Option (Prop × AV)
 | [.sl _ els]=>(match intsL els with | some l=>some (l.length≤2000000,isl l) | none=>none)
 | _=>none
def dToI:DFn:={ g:=gToI }
def gToW:List AV→Option (Prop × AV)
 | [.sl _ els]=>(match waysL els with | some l=>some (bigM l,wsl l) | none=>none)
 | _=>none
def dToW:DFn:={ g:=gToW }
attribute [go_sem] gToI dToI gToW dToW
theorem zI_rep (n:Nat):(List.replicate n [AV.v (.int .i64 0)]).flatten=cI (List.replicate n 0):=by
 induction n with
 | zero=>rfl
 | succ n ih=>rw [List.replicate_succ,List.flatten_cons,ih];rfl
theorem cI_le:∀ l:List Int,avLeL (cI l) (cI l)=True
 | []=>by simp [cI,avLeL]
 | x::l=>by
  have ih:=cI_le l
  simp only [cI,List.map_cons] at ih ⊢
  simp only [avLeL,ih,and_true,avLe,lfLe]
theorem avL_ap:∀ (a b:List AV),avLeL a a=True→avLeL b b=True→avLeL (a++b) (a++b)=True
 | [],_,_,hb=>hb
 | x::a,b,ha,hb=>by
  simp only [List.cons_append,avLeL] at ha ⊢
  have h:=of_eq_true ha
  exact eq_true ⟨h.1,of_eq_true (avL_ap a b (eq_true h.2) hb)⟩
theorem wnl_le (W:List (List Int)) (n:Nat):avLeL (cWs W++List.replicate n AV.nl) (cWs W++List.replicate n AV.nl)=True:=avL_ap _ _ (cWs_le W) (nl_le n)
theorem fill_I (l:List Int) (i:Nat) (h:i < l.length):(cI (l.take i++List.replicate (l.length - i) 0)).set i (iv (l.getD i 0))=cI (l.take (i + 1)++List.replicate (l.length - (i + 1)) 0):=by
 have hl:(l.take i).length=i:=by rw [List.length_take];omega
 have e:(l.take i++List.replicate (l.length - i) 0).set i (l.getD i 0)=l.take (i + 1)++List.replicate (l.length - (i + 1)) 0:=by
  rw [List.set_append_right _ _ (by omega),hl,Nat.sub_self,show l.length - i=(l.length - (i + 1)) + 1 by omega,List.replicate_succ,List.set_cons_zero,List.take_succ_eq_append_getElem h,List.getD_eq_getElem?_getD,List.getElem?_eq_getElem h,Option.getD_some,List.append_assoc,List.singleton_append]
 rw [← e]
 unfold cI;rw [List.map_set]
theorem toIntS_ok:Fine Tryd.prog 22 dToI.con:=by
 refine fine_detX [] gl_nil [] ms_nil [] mm_nil [7] [] ex_nil (T:=TT) Tryd.func22 rfl Tryd.ntmps22 (by rw [Tryd.results22]) rfl rfl tt gs_nil ds_nil ?_
 intro args c r h hc
 simp only [dToI,gToI] at h
 split at h
 rotate_left
 ·cases h
 split at h
 rotate_left
 ·cases h
 rename_i tt els _ l hl
 obtain rfl:=intsL_eq hl
 obtain ⟨rfl,rfl⟩:=Prod.mk.inj (Option.some.inj h)
 refine ⟨by simp,fun k E hE Q hQ=>?_⟩
 refine Aw_st hE [0] [7] fun K hK=>?_
 simp only [go_sem,seval]
 refine hK _ ?_;clear hK K
 refine Aw_st hE [0,3] [7] fun K hK=>?_
 simp only [go_sem,seval,zI_rep,cI_stripL]
 refine ⟨⟨⟨by omega,by omega⟩,by omega⟩,?_⟩
 refine hK _ ?_;clear hK K
 refine Aw_sq fun B1 hB1 hR1 hX1=>?_
 refine Aw_st hE [0,3,4] [7] fun K hK=>?_
 simp only [go_sem,seval]
 refine hK _ ?_;clear hK K
 refine Aw_bk fun B2 hN2 hE2 hR2 hX2=>?_
 refine Aw_lp (fun i:Nat=>⟨22,[(0,isl l),(3,.xs 7 0 l.length l.length 1),(4,iv (i:Int))],[(7,cI (l.take i++List.replicate (l.length - i) 0))],k⟩) (fun i=>i≤l.length) (fun i=>l.length - i) 0 (Le_wc (by simp only [go_sem,seval]) (by simp only [go_sem,seval,List.take_zero,List.nil_append,Nat.sub_zero,cI_le])) (by omega) fun i hi B3 hN3 hR3 hX3=>?_
 refine Aw_sq fun B4 hB4 hR4 hX4=>?_
 refine Aw_st hE [0,3,4,11] [7] fun K hK=>?_
 simp only [go_sem,seval]
 refine hK _ (Aw_cond rfl (fun hc5=>?_) (fun hc5=>?_))
 ·simp only [dte] at hc5
  have hil:i < l.length:=by omega
  have hg:=rows_get l i hil
  have hset:=fill_I l i hil
  have hlen:(cI (l.take i++List.replicate (l.length - i) 0)).length=l.length:=by rw [cI_len,List.length_append,List.length_take,List.length_replicate];omega
  refine Aw_skip (hB4 _ ?_)
  refine Aw_sq fun B6 hB6 hR6 hX6=>?_
  refine Aw_bk fun B7 hN7 hE7 hR7 hX7=>?_
  refine Aw_tx hE [0,3,4] [7] fun K hK=>?_
  simp only [go_sem,seval,hg,hset,hlen]
  repeat refine sd0 ?_
  refine hK _ (hN7 _ (hB6 _ ?_))
  refine Aw_tx hE [0,3,4] [7] fun K hK=>?_
  simp only [go_sem,seval]
  repeat refine sd0 ?_
  refine hK _ (hN3 (i + 1) _ (by omega) (by omega) (Le_wc (by simp only [go_sem,seval,Int.natCast_add,Int.natCast_one]) (by simp only [go_sem,seval,cI_le])))
 ·simp only [dfn] at hc5
  obtain rfl:i=l.length:=by omega
  refine Aw_exit (hX4 _ _ (hX3 _ _ (hE2 _ (hB1 _ ?_))))
  rw [List.take_length,Nat.sub_self,List.replicate_zero,List.append_nil]
  refine Aw_st hE [2] [7] fun K hK=>?_
  simp only [go_sem,seval]
  refine hK _ ?_
  refine Aw_frz hE rfl 7 l.length (ls:=cI l) (ys:=iD l) rfl (by rw [List.take_of_length_le (by rw [cI_len];exact Nat.le_refl _)];exact ofAll_cI l) ?_
  simp only [go_sem,seval,↓frz_xs (d:=7) (n:=l.length) (cap:=l.length) (l:=l) rfl]
  refine Aw_ret (hQ _ ?_)
  simp only [go_sem,seval]
theorem toIntSS_ok:Fine Tryd.prog 9 dToW.con:=by
 refine fine_detX [] gl_nil [] ms_nil [] mm_nil [7] [] ex_nil (T:=TT) Tryd.func9 rfl Tryd.ntmps9 (by rw [Tryd.results9]) rfl rfl tt gs_nil (ds_cons toIntS_ok ds_nil) ?_
 intro args c r h hc
 simp only [dToW,gToW] at h
 split at h
 rotate_left
 ·cases h
 split at h
 rotate_left
 ·cases h
 rename_i tt els _ W hiw
 obtain rfl:=waysL_eq hiw
 obtain ⟨rfl,rfl⟩:=Prod.mk.inj (Option.some.inj h)
 refine ⟨by simp,fun k E hE Q hQ=>?_⟩
 obtain ⟨hb1,hb2⟩:=hc
 refine Aw_st hE [0] [7] fun K hK=>?_
 simp only [go_sem,seval]
 refine hK _ ?_;clear hK K
 refine Aw_st hE [0,3] [7] fun K hK=>?_
 simp only [go_sem,seval]
 refine ⟨⟨⟨by omega,by omega⟩,by omega⟩,?_⟩
 refine hK _ ?_;clear hK K
 refine Aw_sq fun B1 hB1 hR1 hX1=>?_
 refine Aw_st hE [0,3,4] [7] fun K hK=>?_
 simp only [go_sem,seval]
 refine hK _ ?_;clear hK K
 refine Aw_bk fun B2 hN2 hE2 hR2 hX2=>?_
 refine Aw_lp (fun i:Nat=>⟨23,[(0,wsl W),(3,.xs 7 0 W.length W.length 1),(4,iv (i:Int))],[(7,cWs (W.take i)++List.replicate (W.length - i) .nl)],k⟩) (fun i=>i≤W.length) (fun i=>W.length - i) 0 (Le_wc (by simp only [go_sem,seval]) (by simp only [go_sem,seval,List.take_zero,List.nil_append,Nat.sub_zero])) (by omega) fun i hi B3 hN3 hR3 hX3=>?_
 refine Aw_sq fun B4 hB4 hR4 hX4=>?_
 refine Aw_st hE [0,3,4,11] [7] fun K hK=>?_
 simp only [go_sem,seval]
 refine hK _ (Aw_cond rfl (fun hc5=>?_) (fun hc5=>?_))
 ·simp only [dte] at hc5
  have hil:i < W.length:=by omega
  have hgw:=wrows_get W i hil
  have hwl:=hb2 _ (getD_memL W i hil)
  have hset:=fill_nl W i hil
  have hlen:(cWs (W.take i)++List.replicate (W.length - i) AV.nl).length=W.length:=by rw [List.length_append,cWs_len,List.length_take,List.length_replicate];omega
  refine Aw_skip (hB4 _ ?_)
  refine Aw_sq fun B6 hB6 hR6 hX6=>?_
  refine Aw_bk fun B7 hN7 hE7 hR7 hX7=>?_
  refine Aw_tx hE [0,3,4] [7] fun K hK=>?_
  simp only [go_sem,seval,hgw,hwl,hlen,hset]
  repeat refine sd0 ?_
  refine hK _ (hN7 _ (hB6 _ ?_))
  refine Aw_tx hE [0,3,4] [7] fun K hK=>?_
  simp only [go_sem,seval]
  repeat refine sd0 ?_
  refine hK _ (hN3 (i + 1) _ (by omega) (by omega) (Le_wc (by simp only [go_sem,seval,Int.natCast_add,Int.natCast_one]) (by simp only [go_sem,seval,wnl_le])))
 ·simp only [dfn] at hc5
  obtain rfl:i=W.length:=by omega
  refine Aw_exit (hX4 _ _ (hX3 _ _ (hE2 _ (hB1 _ ?_))))
  rw [List.take_length,Nat.sub_self,List.replicate_zero,List.append_nil]
  refine Aw_st hE [2] [7] fun K hK=>?_
  simp only [go_sem,seval]
  refine hK _ ?_
  refine Aw_frz hE rfl 7 W.length (ls:=cWs W) (ys:=wD W) rfl (by rw [List.take_of_length_le (by rw [cWs_len];exact Nat.le_refl _)];exact ofAll_cWs W) ?_
  simp only [go_sem,seval,↓frz_xsW (d:=7) (n:=W.length) (cap:=W.length) (L:=W) rfl]
  refine Aw_ret (hQ _ ?_)
  simp only [go_sem,seval]
def allS (w:World) (b o:Nat):Prop:=∃ x,w.cell? ⟨b,o,none⟩=some x∧x.oneCell'=true
theorem allS_lk {w:World} {b o:Nat} (h:allS w b o):Lk w b o:=by
 obtain ⟨x,hx,_⟩:=h
 exact .inl ⟨x,hx⟩
theorem allS_one {w:World} {b o:Nat} {v:Value} (h:allS w b o) (hv:w.cell? ⟨b,o,none⟩=some v):v.oneCell'=true:=by
 obtain ⟨x,hx,h1⟩:=h
 rw [hx] at hv;obtain rfl:=Option.some.inj hv;exact h1
def RowAt (w:World) (v:Value) (l:List Int) (b:Nat):Prop :=
 ∃ (cap:Nat) (cs:Array Value) (T:TypeId),v = .slice (some ⟨b,0,none⟩) l.length cap∧w.heap[b]? = some (.cells cs T (0,0))∧cs.size=cap∧l.length≤cap∧∀ k,k < l.length→cs.getD k undef = .int .i64 (l.getD k 0)
theorem RowAt.same {w w':World} {v:Value} {l:List Int} {b:Nat} (h:RowAt w v l b) (e:w'.heap[b]? = w.heap[b]?):RowAt w' v l b:=by
 obtain ⟨cap,cs,T,h1,h2,h3⟩:=h
 exact ⟨cap,cs,T,h1,e.trans h2,h3⟩
theorem RowAt.lt {w:World} {v:Value} {l:List Int} {b:Nat} (h:RowAt w v l b):b < w.heap.size:=by
 obtain ⟨cap,cs,T,h1,h2,h3⟩:=h
 exact (Array.getElem?_eq_some_iff.1 h2).1
theorem rdd_is {W:World} {S:Nat→Nat→Prop} {zs:List Int} {b off cap:Nat} (hcap:zs.length≤cap) (hc:∀ k,k < zs.length→S b (off + k)∧W.cell? ⟨b,off + k,none⟩=some (.int .i64 (zs.getD k 0))) :
  RdD W S (.sl (rows zs)) (.slice (some ⟨b,off,none⟩) zs.length cap):=by
 refine .sl (rows zs) b off zs.length cap 1 (fun k=>.int .i64 (zs.getD k 0)) (rows_len zs).symm hcap (rows_row zs) (fun k hk=>hc k (by omega)) fun i j row x hr hx=>?_
 have hi:i < zs.length:=by have:=(List.getElem?_eq_some_iff.1 hr).1;rwa [rows_len] at this
 rw [rows_get zs i hi] at hr
 obtain rfl:=Option.some.inj hr
 match j,hx with
 | 0,hx =>
  obtain rfl:=Option.some.inj hx
  simp only [Nat.mul_one,Nat.add_zero]
  exact .v _ rfl
theorem getD_get {cs:Array Value} {k:Nat} (h:k < cs.size):cs[k]? = some (cs.getD k undef):=by
 simp [Array.getD_eq_getD_getElem?,h]
theorem RowAt.rd {w:World} {v:Value} {l:List Int} {b:Nat} (h:RowAt w v l b):RdD w (allS w) (.sl (rows l)) v:=by
 obtain ⟨cap,cs,T,rfl,h2,h3,h4,h5⟩:=h
 refine rdd_is h4 fun k hk=>?_
 have hc:w.cell? ⟨b,0 + k,none⟩=some (.int .i64 (l.getD k 0)):=by
  rw [Nat.zero_add,cell_of_row w b k cs T (0,0) h2,getD_get (by omega),h5 k hk]
 exact ⟨⟨_,hc,rfl⟩,hc⟩
def RowO (w:World) (v:Value) (l:List Int) (b:Nat):Prop:=(l≠[]∧RowAt w v l b)∨(l=[]∧(v = .slice none 0 0∨(∃ a,v = .slice (some a) 0 0)∨∃ b off cap,v = .slice (some ⟨b,off,none⟩) 0 cap))
theorem RowAt.o {w:World} {v:Value} {l:List Int} {b:Nat} (h:RowAt w v l b):RowO w v l b:=by
 by_cases e:l=[]
 ·obtain ⟨cap,cs,T,h1,_⟩:=h
  subst e
  exact .inr ⟨rfl,.inr (.inr ⟨b,0,cap,h1⟩)⟩
 ·exact .inl ⟨e,h⟩
theorem RowO.same {w w':World} {v:Value} {l:List Int} {b:Nat} (h:RowO w v l b) (e:l≠[]→b < w.heap.size→w'.heap[b]? = w.heap[b]?):RowO w' v l b:=by
 rcases h with ⟨h0,h⟩ | h
 ·exact .inl ⟨h0,h.same (e h0 h.lt)⟩
 ·exact .inr h
theorem RowO.rd {w:World} {v:Value} {l:List Int} {b:Nat} (h:RowO w v l b):RdD w (allS w) (.sl (rows l)) v:=by
 rcases h with ⟨_,h⟩ | ⟨rfl,rfl | ⟨a,rfl⟩ | ⟨b,off,cap,rfl⟩⟩
 ·exact h.rd
 ·exact .nil
 ·exact .em a
 ·exact rdd_is (zs:=[]) (Nat.zero_le _) fun k hk=>absurd hk (by simp)
theorem RowO.one {w:World} {v:Value} {l:List Int} {b:Nat} (h:RowO w v l b):v.oneCell'=true:=by
 rcases h with ⟨_,cap,cs,T,rfl,_⟩ | ⟨rfl,rfl | ⟨a,rfl⟩ | ⟨b,off,cap,rfl⟩⟩<;>rfl
theorem RowO.row {w:World} {v:Value} {l:List Int} {b:Nat} (h:RowO w v l b) (hne:l≠[]):RowAt w v l b:=by
 rcases h with h | h
 ·exact h.2
 ·exact absurd h.1 hne
def NestAt (w:World) (v:Value) (R:List (List Int)) (vs:List Value) (bs:Nat→Nat) (b0:Nat):Prop :=
 (∃ T,v = .slice (some ⟨b0,0,none⟩) R.length R.length∧w.heap[b0]? = some (.cells vs.toArray T (0,0)))∧vs.length=R.length∧(∀ i,i < R.length→RowO w (vs.getD i undef) (R.getD i []) (bs i)∧(R.getD i []≠[]→bs i≠b0))∧∀ i j,i < R.length→j < R.length→R.getD i []≠[]→R.getD j []≠[]→bs i=bs j→i=j
theorem NestAt.rd {w:World} {v:Value} {R:List (List Int)} {vs:List Value} {bs:Nat→Nat} {b0:Nat} (h:NestAt w v R vs bs b0):RdD w (allS w) (.sl (wrows R)) v:=by
 obtain ⟨⟨T,rfl,h2⟩,h3,h4,h5⟩:=h
 have hc:∀ k,k < R.length→w.cell? ⟨b0,0 + k,none⟩=some (vs.getD k undef):=fun k hk=>by
  rw [Nat.zero_add,cell_of_row w b0 k _ T (0,0) h2,List.getElem?_toArray,List.getD_eq_getElem?_getD,List.getElem?_eq_getElem (by omega)];rfl
 refine .sl _ b0 0 R.length R.length 1 (fun k=>vs.getD k undef) (wrows_len R).symm (Nat.le_refl _) (fun row hr=>wrows_row _ row hr) (fun k hk=>?_) fun i j row x hr hx=>?_
 ·have hk':k < R.length:=by omega
  exact ⟨⟨_,hc k hk',(h4 k hk').1.one⟩,hc k hk'⟩
 ·have hi:i < R.length:=by have:=(List.getElem?_eq_some_iff.1 hr).1;rwa [wrows_len] at this
  rw [wrows_get _ i hi] at hr
  obtain rfl:=Option.some.inj hr
  match j,hx with
  | 0,hx =>
   obtain rfl:=Option.some.inj hx
   simp only [Nat.mul_one,Nat.add_zero]
   exact (h4 i hi).1.rd
def Nest (w:World) (v:Value) (R:List (List Int)) (lo hi:Nat):Prop:=∃ vs bs b0,NestAt w v R vs bs b0∧(lo≤b0∧b0 < hi)∧∀ i,i < R.length→R.getD i []≠[]→lo≤bs i∧bs i < hi
theorem Nest.same {w w':World} {v:Value} {R:List (List Int)} {lo hi:Nat} (h:Nest w v R lo hi) (e:∀ b,lo≤b→b < hi→b < w.heap.size→w'.heap[b]? = w.heap[b]?):Nest w' v R lo hi:=by
 obtain ⟨vs,bs,b0,⟨⟨T,h1,h2⟩,h3,h4,h5⟩,h6,h7⟩:=h
 exact ⟨vs,bs,b0,⟨⟨T,h1,(e b0 h6.1 h6.2 (Array.getElem?_eq_some_iff.1 h2).1).trans h2⟩,h3,fun i hi=>⟨(h4 i hi).1.same fun hne=>e _ (h7 i hi hne).1 (h7 i hi hne).2,(h4 i hi).2⟩,h5⟩,h6,h7⟩
theorem Nest.rd {w:World} {v:Value} {R:List (List Int)} {lo hi:Nat} (h:Nest w v R lo hi):RdD w (allS w) (.sl (wrows R)) v:=by
 obtain ⟨vs,bs,b0,h1,h2,h3⟩:=h
 exact h1.rd
theorem Nest.one {w:World} {v:Value} {R:List (List Int)} {lo hi:Nat} (h:Nest w v R lo hi):v.oneCell'=true:=by
 obtain ⟨vs,bs,b0,⟨⟨T,rfl,_⟩,_⟩,h2,h3⟩:=h
 rfl
theorem outM_row {P:Program} {c:Gh} {m2:List (Nat × List AV)} {d cap:Nat} {l:List Int} {rest:List AV} {v:Value} {w':World} {c':Gh} (O:OutM P c [] m2 (.xs d 0 l.length cap 1) v w' c') (hm:lkm d m2=some (cI l++rest)) (hcap:l.length + rest.length=cap) :
  ∃ b,c.w.heap.size≤b∧RowAt w' v l b:=by
 have hr:=O.rd
 have hd:=hr.xs0
 obtain ⟨cs,T,b1,b2,b3,b4,b5⟩:=(O.box d _ hm).cells hd
 have hv:v = .slice (some ⟨c'.β d,0,none⟩) l.length cap:=(xs_val hr rfl).1
 have hlen:(cI l++rest).length=cap:=by rw [List.length_append,cI_len];exact hcap
 rw [O.w] at b2
 refine ⟨c'.β d,?_,cap,cs,T,hv,b2,by rw [b3,hlen],by omega,fun k hk=>?_⟩
 ·rcases b1 with h | ⟨k,ls,hk,_⟩
  ·exact h
  ·cases hk
 ·have hx:(cI l++rest)[k]? = some (iv (l.getD k 0)):=by
   rw [List.getElem?_append_left (by rw [cI_len];exact hk)]
   simp [cI,List.getD_eq_getElem?_getD,hk]
  have:=b4 k _ hx
  generalize cs.getD k undef=u at this
  cases this;rfl
theorem outM_grown {P:Program} {c:Gh} {m2:List (Nat × List AV)} {r:AV} {v:Value} {w':World} {c':Gh} (O:OutM P c [] m2 r v w' c'):c.w.grownBy w' none:=by
 refine O.fr.by fun b ⟨d,ls,h,_⟩=>by cases h
theorem m_calls {P:Program} {f:FuncId} {C:ConM} (h:FineM P f C) {w:World} {S:Nat→Nat→Prop} (hsx:∀ b o,S b o→Lk w b o) (hs1:∀ b o v,S b o→w.cell? ⟨b,o,none⟩=some v→v.oneCell'=true) {args:List AV} {vs:Array Value}
  (hsz:vs.size=args.length) (hrd:∀ (j:Nat) (x:AV),args[j]? = some x→∀ c:Gh,c.w=w→c.S=S→Rd c x (vs.getD j undef)) (hnt:∀ x ∈ args,x.nt=x) (hpre:C.pre args []) (hinv:∀ w',w.grownBy w' none→C.inv w') :
  Calls P f vs w fun e w'=>∃ v r m2 c c',c.w=w∧e = .returned v∧C.post args [] r m2∧OutM P c [] m2 r v w' c':=by
 let c:Gh:={ w:=w,S:=S,β:=fun _=>0,tv:=fun _ _=>.slice none 0 0,te:=fun _ _=>0,g:=0 }
 refine (h.2 c args [] vs hsz (fun j x hx=>hrd j x hx c rfl rfl) hnt hpre (fun w' hw=>hinv w' (hw.by fun b ⟨d,ls,h,_⟩=>by cases h)) hsx hs1 (fun d ls h=>by cases h) (fun d d' l l' h=>by cases h)).mono ?_
 rintro e w' ⟨v,r,m2,c',h1,h2,h3⟩
 exact ⟨v,r,m2,c,c',rfl,h1,h2,h3⟩
def cToIM:ConM:=mkM (fun _=>True) (fun l:List Int=>([isl l],[])) (fun l=>l.length≤2000000) fun l r m2=>r = .xs 7 0 l.length l.length 1∧m2=[(7,cI l)]
theorem toIM_inj (i j:List Int) (h:(([isl i],[]):List AV × List (Nat × List AV))=([isl j],[])):i=j:=isl1_inj (List.cons.inj (Prod.mk.inj h).1).1
theorem vv_nt (vs:List Value):AV.ntAll (vs.map AV.v)=vs.map AV.v:=by rw [ntAll_eq,List.map_map];rfl
theorem vv_nl (vs:List Value) (n:Nat):AV.ntAll (vs.map AV.v++List.replicate n AV.nl)=vs.map AV.v++List.replicate n AV.nl:=by rw [ntAll_eq,List.map_append,List.map_map,List.map_replicate];rfl
theorem vv_set (vs:List Value) (n:Nat) (x:Value) (h:0 < n):(vs.map AV.v++List.replicate n AV.nl).set vs.length (AV.v x)=(vs++[x]).map AV.v++List.replicate (n - 1) AV.nl:=by
 obtain ⟨m,rfl⟩:∃ m,n=m + 1:=⟨n - 1,by omega⟩
 rw [List.set_append_right _ _ (by simp),List.length_map,Nat.sub_self,List.replicate_succ,List.set_cons_zero,List.map_append,List.append_assoc,Nat.add_sub_cancel];rfl
theorem toIntSM_ok:FineM Tryd.prog 22 cToIM:=by
 refine fineM_of [] ms_nil [] mm_nil [7] [] ex_nil (T:=TT) Tryd.func22 rfl Tryd.ntmps22 (by rw [Tryd.results22]) rfl rfl tt gs_nil ds_nil ?_
 rintro args m1 ⟨l,e,hc⟩
 obtain ⟨rfl,rfl⟩:=Prod.mk.inj e.symm
 refine ⟨by simp,fun E hE Q hQ=>?_⟩
 refine Aw_st hE [0] [7] fun K hK=>?_
 simp only [go_sem,seval]
 refine hK _ ?_;clear hK K
 refine Aw_st hE [0,3] [7] fun K hK=>?_
 simp only [go_sem,seval,zI_rep,cI_stripL]
 refine ⟨⟨⟨by omega,by omega⟩,by omega⟩,?_⟩
 refine hK _ ?_;clear hK K
 refine Aw_sq fun B1 hB1 hR1 hX1=>?_
 refine Aw_st hE [0,3,4] [7] fun K hK=>?_
 simp only [go_sem,seval]
 refine hK _ ?_;clear hK K
 refine Aw_bk fun B2 hN2 hE2 hR2 hX2=>?_
 refine Aw_lp (fun i:Nat=>⟨22,[(0,isl l),(3,.xs 7 0 l.length l.length 1),(4,iv (i:Int))],[(7,cI (l.take i++List.replicate (l.length - i) 0))],0⟩) (fun i=>i≤l.length) (fun i=>l.length - i) 0 (Le_wc (by simp only [go_sem,seval]) (by simp only [go_sem,seval,List.take_zero,List.nil_append,Nat.sub_zero,cI_le])) (by omega) fun i hi B3 hN3 hR3 hX3=>?_
 refine Aw_sq fun B4 hB4 hR4 hX4=>?_
 refine Aw_st hE [0,3,4,11] [7] fun K hK=>?_
 simp only [go_sem,seval]
 refine hK _ (Aw_cond rfl (fun hc5=>?_) (fun hc5=>?_))
 ·simp only [dte] at hc5
  have hil:i < l.length:=by omega
  have hg:=rows_get l i hil
  have hset:=fill_I l i hil
  have hlen:(cI (l.take i++List.replicate (l.length - i) 0)).length=l.length:=by rw [cI_len,List.length_append,List.length_take,List.length_replicate];omega
  refine Aw_skip (hB4 _ ?_)
  refine Aw_sq fun B6 hB6 hR6 hX6=>?_
  refine Aw_bk fun B7 hN7 hE7 hR7 hX7=>?_
  refine Aw_tx hE [0,3,4] [7] fun K hK=>?_
  simp only [go_sem,seval,hg,hset,hlen]
  repeat refine sd0 ?_
  refine hK _ (hN7 _ (hB6 _ ?_))
  refine Aw_tx hE [0,3,4] [7] fun K hK=>?_
  simp only [go_sem,seval]
  repeat refine sd0 ?_
  refine hK _ (hN3 (i + 1) _ (by omega) (by omega) (Le_wc (by simp only [go_sem,seval,Int.natCast_add,Int.natCast_one]) (by simp only [go_sem,seval,cI_le])))
 ·simp only [dfn] at hc5
  obtain rfl:i=l.length:=by omega
  refine Aw_exit (hX4 _ _ (hX3 _ _ (hE2 _ (hB1 _ ?_))))
  rw [List.take_length,Nat.sub_self,List.replicate_zero,List.append_nil]
  refine Aw_st hE [2] [7] fun K hK=>?_
  simp only [go_sem,seval]
  refine hK _ (Aw_ret (hQ _ ?_))
  simp only [go_sem,seval]
  exact ⟨l,rfl,rfl,rfl⟩
theorem cIj_le (l:List Int) (s:Nat):avLeL (cI l++jN s) (cI l++jN s)=True:=avL_ap _ _ (cI_le l) (jN_le s)
theorem cIj_nt (l:List Int) (s:Nat):AV.ntAll (cI l++jN s)=cI l++jN s:=by rw [ntAll_eq,List.map_append,← ntAll_eq,← ntAll_eq,jN_nt,ntAll_eq];unfold cI;rw [List.map_map];rfl
attribute [go_sem] cIj_nt
def iotaL:Int→Nat→List Int
 | _,0=>[]
 | k,n + 1=>k::iotaL (k + 1) n
theorem iotaL_len:∀ (k:Int) (n:Nat),(iotaL k n).length=n
 | _,0=>rfl
 | k,n + 1=>by rw [iotaL,List.length_cons,iotaL_len]
theorem iotaL_snoc:∀ (k:Int) (n:Nat),iotaL k (n + 1)=iotaL k n++[k + n]
 | k,0=>by simp [iotaL]
 | k,n + 1=>by rw [iotaL,iotaL_snoc (k + 1) n,iotaL,List.cons_append];congr 3;omega
def eMkI (i:List Int × Nat × Int):List AV × List (Nat × List AV):=([.xs 1000 0 i.1.length (i.1.length + i.2.1) 1,iv i.2.2],[(1000,cI i.1++jN i.2.1)])
def cMkI:ConM:=mkM (fun _=>True) eMkI (fun i=>i.1.length≤2000000∧0≤i.2.2∧i.2.2≤1000000000) fun i r m2=>r=iv (i.2.2 + i.1.length)∧m2=[(1000,cI (iotaL i.2.2 i.1.length)++jN i.2.1)]
theorem fill_K (l:List Int) (k:Int) (r:List AV) (i:Nat) (h:i < l.length):(cI (iotaL k i++l.drop i)++r).set i (iv (k + i))=cI (iotaL k (i + 1)++l.drop (i + 1))++r:=by
 have e1:(cI (iotaL k i)).length=i:=by rw [cI_len,iotaL_len]
 rw [← cI_app,← cI_app,List.append_assoc,List.set_append_right _ _ (by omega),e1,Nat.sub_self,List.drop_eq_getElem_cons h,iotaL_snoc,← cI_app,List.append_assoc,List.append_assoc]
 rfl
set_option maxHeartbeats 4000000 in
theorem markIM_ok:FineM Tryd.prog 14 cMkI:=by
 refine fineM_of [] ms_nil [] mm_nil [] [] ex_nil (T:=TT) Tryd.func14 rfl Tryd.ntmps14 (by rw [Tryd.results14]) rfl rfl tt gs_nil ds_nil ?_
 rintro args m1 ⟨⟨l,s,k⟩,e,hl,hk0,hk1⟩
 obtain ⟨rfl,rfl⟩:=Prod.mk.inj e.symm
 refine ⟨by simp,fun E hE Q hQ=>?_⟩
 simp only at hl hk0 hk1
 refine Aw_st hE [0,1] [1000] fun K hK=>?_
 simp only [go_sem,seval]
 refine hK _ ?_;clear hK K
 refine Aw_sq fun B1 hB1 hR1 hX1=>?_
 refine Aw_st hE [0,1,5] [1000] fun K hK=>?_
 simp only [go_sem,seval]
 refine hK _ ?_;clear hK K
 refine Aw_bk fun B2 hN2 hE2 hR2 hX2=>?_
 refine Aw_lp (fun i:Nat=>⟨19,[(0,.xs 1000 0 l.length (l.length + s) 1),(1,iv (k + i)),(5,iv (i:Int))],[(1000,cI (iotaL k i++l.drop i)++jN s)],0⟩) (fun i=>i≤l.length) (fun i=>l.length - i) 0 (Le_wc (by simp only [go_sem,seval,Int.natCast_zero,Int.add_zero]) (by simp only [go_sem,seval,iotaL,List.nil_append,List.drop_zero,cIj_le])) (by omega) fun i hi B3 hN3 hR3 hX3=>?_
 refine Aw_sq fun B4 hB4 hR4 hX4=>?_
 refine Aw_st hE [0,1,5,9] [1000] fun K hK=>?_
 simp only [go_sem,seval]
 refine hK _ (Aw_cond rfl (fun hc5=>?_) (fun hc5=>?_))
 ·simp only [dte] at hc5
  have hil:i < l.length:=by omega
  have hset:=fill_K l k (jN s) i hil
  have hlen:(cI (iotaL k i++l.drop i)++jN s).length=l.length + s:=by rw [List.length_append,cI_len,jN_len,List.length_append,iotaL_len,List.length_drop];omega
  have hll:(iotaL k i++l.drop i).length=l.length:=by rw [List.length_append,iotaL_len,List.length_drop];omega
  refine Aw_skip (hB4 _ ?_)
  refine Aw_sq fun B6 hB6 hR6 hX6=>?_
  refine Aw_bk fun B7 hN7 hE7 hR7 hX7=>?_
  refine Aw_st hE [0,1,5] [1000] fun K hK=>?_
  simp only [go_sem,seval,hset,hlen,hll]
  repeat refine sd0 ?_
  refine hK _ ?_;clear hK K
  refine Aw_tx hE [0,1,5] [1000] fun K hK=>?_
  simp only [go_sem,seval]
  repeat refine sd0 ?_
  refine hK _ (hN7 _ (hB6 _ ?_))
  refine Aw_tx hE [0,1,5] [1000] fun K hK=>?_
  simp only [go_sem,seval]
  repeat refine sd0 ?_
  refine hK _ (hN3 (i + 1) _ (by omega) (by omega) (Le_wc (by simp only [go_sem,seval,Int.natCast_add,Int.natCast_one,Int.add_assoc]) (by simp only [go_sem,seval,cIj_le])))
 ·simp only [dfn] at hc5
  obtain rfl:i=l.length:=by omega
  refine Aw_exit (hX4 _ _ (hX3 _ _ (hE2 _ (hB1 _ ?_))))
  rw [List.drop_length,List.append_nil]
  refine Aw_st hE [4] [1000] fun K hK=>?_
  simp only [go_sem,seval]
  refine hK _ (Aw_ret (hQ _ ?_))
  simp only [go_sem,seval]
  exact ⟨(l,s,k),rfl,rfl,rfl⟩
def gMk0:List AV→Option (Prop × AV)
 | [.sl _ els,.v (.int .i64 k)]=>(match els with | []=>some (True,iv k) | _=>none)
 | _=>none
def dMk0:DFn:={ g:=gMk0 }
attribute [go_sem] gMk0 dMk0
theorem markI0_ok:Fine Tryd.prog 14 dMk0.con:=by
 refine fine_det (T:=TT) Tryd.func14 rfl Tryd.ntmps14 (by rw [Tryd.results14]) rfl rfl tt gs_nil ds_nil ?_
 intro args c r h hc
 simp only [dMk0,gMk0] at h
 split at h
 rotate_left
 ·cases h
 split at h
 rotate_left
 ·cases h
 obtain ⟨rfl,rfl⟩:=Prod.mk.inj (Option.some.inj h)
 refine ⟨by simp,fun k E hE Q hQ=>?_⟩
 rename_i k0 _
 refine Aw_st hE [0,1] [] fun K hK=>?_
 simp only [go_sem,seval]
 refine hK _ ?_;clear hK K
 refine Aw_sq fun B1 hB1 hR1 hX1=>?_
 refine Aw_st hE [0,1,5] [] fun K hK=>?_
 simp only [go_sem,seval]
 refine hK _ ?_;clear hK K
 refine Aw_bk fun B2 hN2 hE2 hR2 hX2=>?_
 refine Aw_lp (fun _:Unit=>⟨19,[(0,.sl none []),(1,iv k0),(5,iv 0)],[],k⟩) (fun _=>True) (fun _=>0) () (Le_wa) trivial fun i hi B3 hN3 hR3 hX3=>?_
 refine Aw_sq fun B4 hB4 hR4 hX4=>?_
 refine Aw_st hE [0,1,5,9] [] fun K hK=>?_
 simp only [go_sem,seval]
 refine hK _ (Aw_no rfl (Aw_exit (hX4 _ _ (hX3 _ _ (hE2 _ (hB1 _ ?_))))))
 refine Aw_st hE [4] [] fun K hK=>?_
 simp only [go_sem,seval]
 refine hK _ (Aw_ret (hQ _ ?_))
 simp only [go_sem,seval]
theorem sl_rd {c:Gh} {els:List (List DV)} {v:Value} (h:Rd c (.sl none els) v):RdD c.w c.S (.sl els) v:=by cases h;assumption
theorem RowAt.one {w:World} {v:Value} {l:List Int} {b:Nat} (h:RowAt w v l b):v.oneCell'=true:=h.o.one
theorem gb_gl {w w':World} (h:w.grownBy w' none) (L:Nat→Prop):GrownL w w' none L:=⟨h.os,h.tape,h.output,h.size,fun i hi _ _=>h.block i hi (by simp)⟩
theorem toIS_calls {w:World} {S:Nat→Nat→Prop} {v:Value} {l:List Int} (hsx:∀ b o,S b o→Lk w b o) (hs1:∀ b o v,S b o→w.cell? ⟨b,o,none⟩=some v→v.oneCell'=true) (hv:RdD w S (.sl (rows l)) v) (hl:l.length≤2000000) :
  Calls Tryd.prog 22 #[v] w fun e w'=>∃ u b,e = .returned u∧w.grownBy w' none∧w.heap.size≤b∧RowAt w' u l b:=by
 refine (m_calls toIntSM_ok hsx hs1 (args:=[isl l]) rfl (fun j x hx c hw hS=>?_) (fun x hx=>?_) ⟨l,rfl,hl⟩ fun _ _=>trivial).mono ?_
 ·match j,hx with
  | 0,hx=>obtain rfl:=Option.some.inj hx;subst hw;subst hS;exact .sl none _ v hv trivial
 ·obtain rfl:=List.mem_singleton.1 hx;rfl
 ·rintro e w' ⟨u,r,m2,c,c',rfl,rfl,⟨l',e',rfl,rfl⟩,O⟩
  obtain rfl:=toIM_inj _ _ e'
  obtain ⟨b,h1,h2⟩:=outM_row (rest:=[]) O (by rw [List.append_nil];rfl) rfl
  exact ⟨u,b,rfl,outM_grown O,h1,h2⟩
theorem getD_snoc_lt {α:Type} (l:List α) (x d:α) (j:Nat) (h:j < l.length):(l++[x]).getD j d=l.getD j d:=by
 rw [List.getD_eq_getElem?_getD,List.getD_eq_getElem?_getD,List.getElem?_append_left h]
theorem getD_snoc_eq {α:Type} (l:List α) (x d:α):(l++[x]).getD l.length d=x:=by
 rw [List.getD_eq_getElem?_getD,List.getElem?_append_right (Nat.le_refl _),Nat.sub_self];rfl
set_option maxHeartbeats 4000000 in
theorem toW_calls {w:World} {S:Nat→Nat→Prop} {v:Value} {R:List (List Int)} (hsx:∀ b o,S b o→Lk w b o) (hs1:∀ b o v,S b o→w.cell? ⟨b,o,none⟩=some v→v.oneCell'=true) (hv:RdD w S (.sl (wrows R)) v) (hR:bigM R) :
  Calls Tryd.prog 9 #[v] w fun e w'=>∃ u,e = .returned u∧w.grownBy w' none∧Nest w' u R w.heap.size w'.heap.size:=by
 refine ax_enter Tryd.func9 rfl Tryd.ntmps9 (by rw [Tryd.results9]) rfl rfl (fun _=>0) (fun _=>False) (args:=[wsl R]) (m1:=[]) hsx hs1 rfl (by simp) (fun j x hx=>?_) (fun d ls h=>by cases h) (fun d d' ls ls' h=>by cases h) ?_
 ·match j,hx with
  | 0,hx=>obtain rfl:=Option.some.inj hx;exact .sl none _ v hv trivial
 obtain ⟨hb1,hb2⟩:=hR
 obtain ⟨E,hEe⟩:∃ E,E=en0 Tryd.prog w S (fun _=>0) (fun _=>False):=⟨_,rfl⟩
 have hEP:E.P=Tryd.prog:=by rw [hEe];rfl
 have hEd:E.draws=false:=by rw [hEe];rfl
 rw [← hEe]
 have hE:TbOk E { T:=TT,G:=[],D:=[],draws:=false,lent:=true,X:=[7] }:=tb_newX [7] hEP hEd rfl tt
 unfold Eng.stM
 refine Ax_st hE [0] [7] fun K hK=>?_
 simp only [go_sem,seval]
 refine hK _ ?_;clear hK K
 refine Ax_st hE [0,3] [7] fun K hK=>?_
 simp only [go_sem,seval]
 refine ⟨⟨⟨by omega,by omega⟩,by omega⟩,?_⟩
 refine hK _ ?_;clear hK K
 refine Ax_sq fun B1 hB1 hR1 hX1=>?_
 refine Ax_st hE [0,3,4] [7] fun K hK=>?_
 simp only [go_sem,seval]
 refine hK _ ?_;clear hK K
 refine Ax_bk fun B2 hN2 hE2 hR2 hX2=>?_
 refine Ax_lpI (fun (i:Nat) (a:Act) (w':World)=>∃ (vs:List Value) (bs:Nat→Nat) (c:Gh),c.w=w'∧RC E ⟨23,[(0,wsl R),(3,.xs 7 0 R.length R.length 1),(4,iv (i:Int))],[(7,vs.map AV.v++List.replicate (R.length - i) AV.nl)],0⟩ a c∧i≤R.length∧vs.length=i∧
   (∀ j:Nat,j < i→RowO w' (vs.getD j undef) (R.getD j []) (bs j)∧bs j≠c.β 7∧w.heap.size≤bs j∧bs j < w'.heap.size)∧∀ j k:Nat,j < i→k < i→bs j=bs k→j=k) (fun i=>R.length - i) 0 (fun _ a w' hr=>?_) ?_
 ·obtain ⟨c,rfl,hRC⟩:=hr.rc
  exact ⟨[],fun _=>0,c,rfl,hRC,Nat.zero_le _,rfl,fun j h=>absurd h (by omega),fun j k h=>absurd h (by omega)⟩
 rintro i a1 w1 ⟨vs,bs,c,rfl,hRC,hi,hvl,hrow,hinj⟩ B3 hN3 hR3 hX3
 have hre:St.re ⟨23,[(0,wsl R),(3,.xs 7 0 R.length R.length 1),(4,iv (i:Int))],[(7,vs.map AV.v++List.replicate (R.length - i) AV.nl)],0⟩=⟨23,[(0,wsl R),(3,.xs 7 0 R.length R.length 1),(4,iv (i:Int))],[(7,vs.map AV.v++List.replicate (R.length - i) AV.nl)],0⟩:=by
  simp only [St.re,ntσ,ntm,AV.nt,vv_nl]
 have hR0:=hRC.re.r
 rw [hre] at hR0
 have hBk:=Bk.re hRC hEd
 have hE:=hE.re hEd hRC
 obtain ⟨E1,hE1⟩:∃ E1,E1=reE E ⟨23,[(0,wsl R),(3,.xs 7 0 R.length R.length 1),(4,iv (i:Int))],[(7,vs.map AV.v++List.replicate (R.length - i) AV.nl)],0⟩ c:=⟨_,rfl⟩
 have hP1:E1.P=Tryd.prog:=by rw [hE1];exact hEP
 have hd1:E1.draws=false:=by rw [hE1];rfl
 have hw1:E1.w0=c.w:=by rw [hE1];rfl
 have hL1:∀ b,E1.L b→b=c.β 7:=fun b hb=>by
  rw [hE1] at hb
  obtain ⟨d,ls,hl,rfl⟩:=hb
  simp only [lkm] at hl
  split at hl
  ·rename_i e;rw [e]
  ·cases hl
 rw [← hE1] at hE hR0 hBk
 refine Ax.run (E:=E1) (st:=⟨23,[(0,wsl R),(3,.xs 7 0 R.length R.length 1),(4,iv (i:Int))],[(7,vs.map AV.v++List.replicate (R.length - i) AV.nl)],0⟩) ?_ hP1 hR0
 -- what holds of the rows behind steps of this context
 have hkeep:∀ st a c2,RC E1 st a c2→∀ j,j < i→RowO c2.w (vs.getD j undef) (R.getD j []) (bs j)∧bs j < c2.w.heap.size:=fun st a c2 h j hj=>by
  have hf:=h.1.fr
  rw [hd1,hw1] at hf
  obtain ⟨r1,r2,r3,r4⟩:=hrow j hj
  exact ⟨r1.same fun _ hlt=>hf.block _ hlt (by simp) fun hb=>r2 (hL1 _ hb),Nat.lt_of_lt_of_le r4 hf.size⟩
 have hlen7:(vs.map AV.v++List.replicate (R.length - i) AV.nl).length=R.length:=by rw [List.length_append,List.length_map,List.length_replicate];omega
 refine Ax_sq fun B4 hB4 hR4 hX4=>?_
 refine Ax_st hE [0,3,4,11] [7] fun K hK=>?_
 simp only [go_sem,seval]
 refine hK _ (Ax_cond rfl (fun hc5=>?_) (fun hc5=>?_))
 ·simp only [dte] at hc5
  have hil:i < R.length:=by omega
  have hgw:=wrows_get R i hil
  have hwl:=hb2 _ (getD_memL R i hil)
  refine Ax_skip (hB4 _ ?_)
  refine Ax_sq fun B6 hB6 hR6 hX6=>?_
  refine Ax_bk fun B7 hN7 hE7 hR7 hX7=>?_
  refine Ax_spt hE 6 fun K hK=>?_
  simp only [go_sem,seval,List.take_succ_cons,List.take_zero,hgw]
  repeat refine sd0 ?_
  refine hK _ fun a2 w2 hr2=>?_
  clear hK K
  obtain ⟨c2,rfl,hRC2⟩:=hr2.rc
  refine sp_call rfl rfl toIntSM_ok.1 ?_
  have h19:Rd c2 (isl (R.getD i [])) (a2.tmps.getD 19 undef):=hRC2.2.1 19
  simp only [List.map_toArray,List.map_cons,List.map_nil,Act.eval]
  refine (toIS_calls hRC2.1.sx hRC2.1.s1 (sl_rd h19) hwl).mono ?_
  rintro e w3 ⟨u,b,rfl,hg,hlo,hro⟩
  refine ⟨u,rfl,?_⟩
  have hR3':=hRC2.nxm (w':=w3) (fun b o hS=>hg.block b (hRC2.1.slt hS) (by simp)) (fun d ls hl=>hg.block _ (hRC2.1.box d ls hl).lt.2 (by simp)) hro.one 20
  have hBk2:=Bk.nx hRC2 hd1 (gb_gl hg fun _=>False) (fun _ h=>h.elim)
  generalize hE2e:nxM E1 _ c2 w3=E2 at hR3' hBk2
  have hP2:E2.P=Tryd.prog:=hBk2.P.trans hP1
  have hd2:E2.draws=false:=hBk2.d'
  have hw2:E2.w0=w3:=by rw [← hE2e];rfl
  have hL2:∀ b,E2.L b→b=c2.β 7:=fun b hb=>by
   rw [← hE2e] at hb
   obtain ⟨d,ls,hl,rfl⟩:=hb
   simp only [lkm] at hl
   split at hl
   ·rename_i e;rw [e]
   ·cases hl
  have hE:TbOk E2 { T:=TT,G:=[],D:=[],draws:=false,lent:=true,X:=[7] }:=tb_newX [7] hP2 hd2 rfl tt
  refine sp_go hE hP2 hR3' ?_
  have hset:(vs.map AV.v++List.replicate (R.length - i) AV.nl).set i (AV.v u)=(vs++[u]).map AV.v++List.replicate (R.length - (i + 1)) AV.nl:=by
   have:=vv_set vs (R.length - i) u (by omega)
   rw [hvl] at this
   rw [this,Nat.sub_sub]
  have hil2:i < R.length:=hil
  simp only [go_sem,seval,St.re,List.drop_succ_cons,List.drop_zero,vv_nl,hlen7,hset]
  repeat refine sd0 ?_
  refine hN7 _ (hB6 _ ?_)
  refine Ax_tx hE [0,3,4] [7] fun K hK=>?_
  simp only [go_sem,seval]
  repeat refine sd0 ?_
  refine hK _ fun hP5 a5 w5 hr5=>?_
  obtain ⟨c5,rfl,h5⟩:=hr5.rc
  have h5E:=RC.bk hBk (RC.bk hBk2 h5)
  have hf2:=h5.1.fr
  rw [hd2,hw2] at hf2
  have hb2:=(hRC2.1.box 7 _ rfl).lt
  rw [hw1] at hb2
  have hc27:c2.β 7=c.β 7∨c.w.heap.size≤c2.β 7:=hb2.1.elim .inr fun h=>.inl (hL1 _ h)
  have hb5:=(h5.1.box 7 _ rfl).lt
  rw [hw2] at hb5
  have hc57:c5.β 7=c2.β 7∨w3.heap.size≤c5.β 7:=hb5.1.elim .inr fun h=>.inl (hL2 _ h)
  have hf0:=hRC.1.fr.size
  have hf1:=hRC2.1.fr.size
  rw [hw1] at hf1
  have hEw:E.w0=w:=by rw [hEe];rfl
  rw [hEw] at hf0
  have hold:∀ j,j < i→RowO c5.w (vs.getD j undef) (R.getD j []) (bs j)∧bs j≠c5.β 7∧w.heap.size≤bs j∧bs j < c5.w.heap.size:=fun j hj=>by
   obtain ⟨r1,r2⟩:=hkeep _ _ _ hRC2 j hj
   obtain ⟨_,r4,r5,r6⟩:=hrow j hj
   have hne:bs j≠c2.β 7:=by omega
   have e1:=hg.block (bs j) r2 (by simp)
   have h3:bs j < w3.heap.size:=Nat.lt_of_lt_of_le r2 hg.size
   have e2:=hf2.block (bs j) h3 (by simp) fun hb=>hne (hL2 _ hb)
   exact ⟨r1.same fun _ _=>e2.trans e1,by omega,r5,Nat.lt_of_lt_of_le h3 hf2.size⟩
  have hnew:RowO c5.w u (R.getD i []) b∧b≠c5.β 7∧w.heap.size≤b∧b < c5.w.heap.size:=by
   have hlt:=hro.lt
   have hne:b≠c2.β 7:=by omega
   exact ⟨(hro.same (hf2.block b hlt (by simp) fun hb=>hne (hL2 _ hb))).o,by omega,by omega,Nat.lt_of_lt_of_le hlt hf2.size⟩
  refine hN3 (i + 1) a5 c5.w (by omega) ⟨vs++[u],fun j=>if j=i then b else bs j,c5,rfl,?_,by omega,by rw [List.length_append,hvl];rfl,fun j hj=>?_,fun j k hj hk he=>?_⟩
  ·have e:((i + 1:Nat):Int)=(i:Int) + 1:=by omega
   rw [e];exact h5E
  ·by_cases e:j=i
   ·subst e
    simp only [if_pos]
    have:=getD_snoc_eq vs u undef
    rw [hvl] at this
    rw [this];exact hnew
   ·simp only [if_neg e]
    rw [getD_snoc_lt _ _ _ _ (by omega)]
    exact hold j (by omega)
  ·by_cases e:j=i
   ·by_cases e':k=i
    ·omega
    ·simp only [if_pos e,if_neg e'] at he
     have:=(hrow k (by omega)).2.2.2
     omega
   ·by_cases e':k=i
    ·simp only [if_neg e,if_pos e'] at he
     have:=(hrow j (by omega)).2.2.2
     omega
    ·simp only [if_neg e,if_neg e'] at he
     exact hinj j k (by omega) (by omega) he
 ·simp only [dfn] at hc5
  obtain rfl:i=R.length:=by omega
  refine Ax_exit (hX4 _ _ (hX3 _ _ (hE2 _ (hB1 _ ?_))))
  refine Ax_st hE [2] [7] fun K hK=>?_
  simp only [go_sem,seval]
  refine hK _ (Ax_ret (bp_ret (by rw [Tryd.results9]) fun a6 c6 h6=>?_))
  have h6E:=RC.bk hBk h6
  have hEw:E.w0=w:=by rw [hEe];rfl
  have hEL:∀ b,¬ E.L b:=fun b h=>by rw [hEe] at h;exact h
  have hgr:w.grownBy c6.w none:=by
   have:=h6E.1.fr
   rw [hEd,hEw] at this
   exact this.by hEL
  have hv2:a6.tmps.getD 2 undef = .slice (some ⟨c6.β 7,0,none⟩) R.length R.length:=(xs_val (h6.2.1 2) rfl).1
  obtain ⟨cs,T,b1,b2,b3,b4,b5⟩:=(h6E.1.box 7 _ rfl).cells rfl
  rw [Nat.sub_self,List.replicate_zero,List.append_nil] at b3 b4
  have hcs:cs=vs.toArray:=by
   apply Array.ext
   ·rw [b3,List.length_map,List.size_toArray]
   ·intro k h1 h2
    have h2':k < vs.length:=by simpa using h2
    have:=b4 k (.v vs[k]) (by simp [h2'])
    have e:cs.getD k undef=cs[k]:=by simp [Array.getD_eq_getD_getElem?,h1]
    rw [e] at this
    generalize cs[k]=z at this
    cases this;simp
  rw [hcs] at b2
  have hlo:w.heap.size≤c6.β 7:=by
   rw [hEw] at b1
   exact b1.elim id fun h=>absurd h (hEL _)
  have hb6:=(h6.1.box 7 _ rfl).lt
  rw [hw1] at hb6
  have hc67:c6.β 7=c.β 7∨c.w.heap.size≤c6.β 7:=hb6.1.elim .inr fun h=>.inl (hL1 _ h)
  refine ⟨_,rfl,hgr,vs,bs,c6.β 7,⟨⟨T,hv2,b2⟩,hvl,fun j hj=>⟨(hkeep _ _ _ h6 j hj).1,fun _=>?_⟩,fun i j hi hj _ _=>hinj i j hi hj⟩,⟨hlo,(h6E.1.box 7 _ rfl).lt.2⟩,fun j hj _=>⟨(hrow j hj).2.2.1,(hkeep _ _ _ h6 j hj).2⟩⟩
  obtain ⟨_,r4,_,r6⟩:=hrow j hj
  omega
def totL:List (List Int)→Int
 | []=>0
 | r::R=>r.length + totL R
theorem totL_nn:∀ R,0≤totL R
 | []=>Int.le_refl _
 | r::R=>by have:=totL_nn R;unfold totL;omega
theorem totL_take:∀ (R:List (List Int)) (i:Nat),i < R.length→totL (R.take (i + 1))=totL (R.take i) + (R.getD i []).length
 | [],i,h=>by simp at h
 | r::R,0,_=>by simp [totL]
 | r::R,i + 1,h=>by
  rw [List.take_succ_cons,List.take_succ_cons,totL,totL,totL_take R i (by simpa using h),List.getD_cons_succ];omega
theorem totL_le:∀ (R:List (List Int)) (i:Nat),totL (R.take i)≤totL R
 | [],i=>by simp
 | r::R,0=>by have:=totL_nn (r::R);simpa [totL] using this
 | r::R,i + 1=>by rw [List.take_succ_cons,totL,totL];have:=totL_le R i;omega
def mkR:Int→List (List Int)→List (List Int)
 | _,[]=>[]
 | k,r::R=>iotaL k r.length::mkR (k + r.length) R
theorem mkR_len:∀ (k:Int) (R:List (List Int)),(mkR k R).length=R.length
 | _,[]=>rfl
 | k,r::R=>by rw [mkR,List.length_cons,mkR_len];rfl
theorem mkR_get:∀ (k:Int) (R:List (List Int)) (i:Nat),i < R.length→(mkR k R).getD i []=iotaL (k + totL (R.take i)) (R.getD i []).length
 | k,[],i,h=>by simp at h
 | k,r::R,0,_=>by simp [mkR,totL]
 | k,r::R,i + 1,h=>by
  rw [mkR,List.getD_cons_succ,mkR_get _ R i (by simpa using h),List.take_succ_cons,totL,List.getD_cons_succ,Int.add_assoc]
theorem mk_ne {c:Prop} [Decidable c] {k:Int} {l:List Int} (h:(if c then iotaL k l.length else l)≠[]):l≠[]:=fun e=>h (by
 subst e
 split<;>rfl)
theorem mk_calls {w:World} {v:Value} {l:List Int} {b:Nat} {k:Int} (h:RowO w v l b) (hl:l.length≤2000000) (hk0:0≤k) (hk1:k≤1000000000) (h0:Fine Tryd.prog 14 dMk0.con) :
  Calls Tryd.prog 14 #[v,.int .i64 k] w fun e w'=>e = .returned (.int .i64 (k + l.length))∧GrownL w w' none (fun x=>x=b∧l≠[])∧RowO w' v (iotaL k l.length) b:=by
 by_cases hnil:l=[]
 ·subst hnil
  let c:Gh:=gh0 w (fun _ _=>False) (fun _=>0)
  have hrd:RdD c.w c.S (.sl []) v:=by
   rcases h with ⟨h,_⟩ | ⟨_,rfl | ⟨a,rfl⟩ | ⟨b,off,cap,rfl⟩⟩
   ·exact absurd rfl h
   ·exact .nil
   ·exact .em a
   ·exact rdd_is (zs:=[]) (Nat.zero_le _) fun k hk=>absurd hk (by simp)
  refine (h0.2 c [.sl none [],iv k] #[v,.int .i64 k] .nilIface 0 0 rfl (fun j x hx=>?_) (fun x hx=>?_) ⟨True,iv k,rfl,trivial⟩ trivial (fun _ _ h=>h.elim) (fun _ _ _ h=>h.elim) (fun h=>by cases h)).mono ?_
  ·match j,hx with
   | 0,hx=>obtain rfl:=Option.some.inj hx;exact .sl none _ v hrd trivial
   | 1,hx=>obtain rfl:=Option.some.inj hx;exact .v _ rfl
  ·simp only [List.mem_cons,List.not_mem_nil,or_false] at hx
   rcases hx with rfl | rfl<;>rfl
  ·rintro e w' ⟨u,r,c',rfl,⟨c1,hr⟩,O⟩
   obtain ⟨_,rfl⟩:=Prod.mk.inj (Option.some.inj hr)
   have h1:=O.rd
   have e1:u = .int .i64 k:=by generalize u=z at h1;cases h1;rfl
   refine ⟨by rw [e1];simp,gb_gl O.fr _,h.same fun hne=>absurd rfl hne⟩
 ·replace h:=h.row hnil
  obtain ⟨cap,cs,T,rfl,h2,h3,h4,h5⟩:=h
  let c:Gh:=gh0 w (fun _ _=>False) (fun _=>b)
  have hcells:∀ (j:Nat) (x:AV),(cI l++jN (cap - l.length))[j]? = some x→Rd c x (cs.getD j undef):=fun j x hx=>by
   by_cases hj:j < l.length
   ·rw [List.getElem?_append_left (by rw [cI_len];exact hj)] at hx
    have:(cI l)[j]? = some (iv (l.getD j 0)):=by simp [cI,List.getD_eq_getElem?_getD,hj]
    rw [this] at hx
    obtain rfl:=Option.some.inj hx
    rw [h5 j hj];exact .v _ rfl
   ·rw [List.getElem?_append_right (by rw [cI_len];omega),jN] at hx
    rw [List.getElem?_replicate] at hx
    split at hx
    ·obtain rfl:=Option.some.inj hx;exact .junk _
    ·cases hx
  refine (markIM_ok.2 c [.xs 1000 0 l.length (l.length + (cap - l.length)) 1,iv k] [(1000,cI l++jN (cap - l.length))] #[.slice (some ⟨b,0,none⟩) l.length cap,.int .i64 k] rfl (fun j x hx=>?_) (fun x hx=>?_) ⟨(l,cap - l.length,k),rfl,hl,hk0,hk1⟩ (fun _ _=>trivial) (fun _ _ h=>h.elim) (fun _ _ _ h=>h.elim) (fun d ls hd=>?_) (fun d d' ls ls' h1 h2 _=>?_)).mono ?_
  ·match j,hx with
   | 0,hx =>
    obtain rfl:=Option.some.inj hx
    rw [show l.length + (cap - l.length)=cap by omega]
    exact .xs 1000 0 l.length cap 1 h4 rfl
   | 1,hx=>obtain rfl:=Option.some.inj hx;exact .v _ rfl
  ·simp only [List.mem_cons,List.not_mem_nil,or_false] at hx
   rcases hx with rfl | rfl<;>rfl
  ·simp only [lkm] at hd
   split at hd
   ·rename_i e
    obtain rfl:=Option.some.inj hd
    subst e
    exact ⟨Nat.le_refl _,cIj_nt _ _,cs,⟨_,.cells _ cs T rfl⟩,h2,by rw [h3,List.length_append,cI_len,jN_len];omega,hcells,fun _ h=>h⟩
   ·cases hd
  ·simp only [lkm] at h1 h2
   split at h1
   ·split at h2
    ·omega
    ·cases h2
   ·cases h1
  ·rintro e w' ⟨u,r,m2,c',rfl,⟨⟨l',s',k'⟩,e',rfl,rfl⟩,O⟩
   obtain ⟨ea,em⟩:=Prod.mk.inj e'
   simp only [List.cons.injEq,AV.v.injEq,Value.int.injEq,AV.xs.injEq,true_and,and_true] at ea
   obtain ⟨⟨e1,e2⟩,rfl⟩:=ea
   have h1:=O.rd
   have e3:u = .int .i64 (k' + l'.length):=by generalize u=z at h1;cases h1;rfl
   have hfr:=O.fr
   have hfr':GrownL w w' none (fun x=>x=b∧l≠[]):=hfr.mono fun x ⟨d,ls,hd,hx⟩=>⟨hx.symm,hnil⟩
   obtain ⟨cs2,T2,b1,b2,b3,b4,b5⟩:=(O.box 1000 _ rfl).cells rfl
   have hβ:c'.β 1000=b:=O.bl 1000 (Nat.le_refl _)
   rw [O.w,hβ] at b2
   simp only [e1] at e3 b3 b4
   have hs':s'=cap - l.length:=by clear O hfr hfr' b2 b4 b5 b1;omega
   have hsz:cs2.size=cap:=by rw [b3,List.length_append,cI_len,iotaL_len,jN_len,hs'];clear O hfr hfr' b2 b4 b5 b1;omega
   refine ⟨by rw [e3],hfr',RowAt.o ⟨cap,cs2,T2,by rw [iotaL_len],b2,hsz,by rw [iotaL_len];exact h4,fun j hj=>?_⟩⟩
   rw [iotaL_len] at hj
   have hx:(cI (iotaL k' l.length)++jN s')[j]? = some (iv ((iotaL k' l.length).getD j 0)):=by
    rw [List.getElem?_append_left (by rw [cI_len,iotaL_len];exact hj)]
    have:j < (iotaL k' l.length).length:=by rw [iotaL_len];exact hj
    simp [cI,List.getD_eq_getElem?_getD,this]
   have:=b4 j _ hx
   generalize cs2.getD j undef=z at this
   cases this;rfl
set_option maxHeartbeats 4000000 in
theorem markSS_calls {w:World} {v:Value} {R:List (List Int)} {vs:List Value} {bs:Nat→Nat} {b0:Nat} {k:Int} (h:NestAt w v R vs bs b0) (hR:bigM R) (hk0:0≤k) (hk1:k + totL R≤1000000000) :
  Calls Tryd.prog 13 #[v,.int .i64 k] w fun e w'=>e = .returned (.int .i64 (k + totL R))∧GrownL w w' none (fun x=>x=b0∨∃ i,i < R.length∧R.getD i []≠[]∧x=bs i)∧NestAt w' v (mkR k R) vs bs b0:=by
 obtain ⟨⟨T0,rfl,hb0⟩,hvl,hrow,hinj⟩:=h
 obtain ⟨hb1,hb2⟩:=hR
 refine ax_enter Tryd.func13 rfl Tryd.ntmps13 (by rw [Tryd.results13]) rfl rfl (S:=fun _ _=>False) (fun _=>b0) (fun x=>x=b0) (args:=[.xs 1000 0 R.length R.length 1,iv k]) (m1:=[(1000,vs.map AV.v)]) (fun _ _ h=>h.elim) (fun _ _ _ h=>h.elim) rfl (by simp) (fun j x hx=>?_) (fun d ls hd=>?_) (fun d d' ls ls' h1 h2 _=>?_) ?_
 ·match j,hx with
  | 0,hx=>obtain rfl:=Option.some.inj hx;exact .xs 1000 0 _ _ 1 (Nat.le_refl _) rfl
  | 1,hx=>obtain rfl:=Option.some.inj hx;exact .v _ rfl
 ·simp only [lkm] at hd
  split at hd
  ·rename_i e
   obtain rfl:=Option.some.inj hd
   subst e
   refine ⟨rfl,vs.toArray,⟨_,.cells _ _ T0 rfl⟩,hb0,by simp,fun j x hx=>?_,fun _ h=>h⟩
   rw [List.getElem?_map,Option.map_eq_some_iff] at hx
   obtain ⟨y,hy,rfl⟩:=hx
   have hj:j < R.length:=by have:=(List.getElem?_eq_some_iff.1 hy).1;omega
   have e1:vs.toArray.getD j undef=y:=by simp [Array.getD_eq_getD_getElem?,hy]
   have e2:vs.getD j undef=y:=by rw [List.getD_eq_getElem?_getD,hy];rfl
   rw [e1]
   exact .v _ (by rw [← e2];exact (hrow j hj).1.one)
  ·cases hd
 ·simp only [lkm] at h1 h2
  split at h1
  ·split at h2
   ·omega
   ·cases h2
  ·cases h1
 obtain ⟨E,hEe⟩:∃ E,E=en0 Tryd.prog w (fun _ _=>False) (fun _=>b0) (fun x=>x=b0∨∃ i,i < R.length∧R.getD i []≠[]∧x=bs i):=⟨_,rfl⟩
 have hEP:E.P=Tryd.prog:=by rw [hEe];rfl
 have hEd:E.draws=false:=by rw [hEe];rfl
 have hEw:E.w0=w:=by rw [hEe];rfl
 have hEb:∀ k,E.b0 k=b0:=fun k=>by rw [hEe];rfl
 have hES:∀ b o,¬ E.S0 b o:=fun b o h=>by rw [hEe] at h;exact h
 have hEL:∀ x,E.L x↔(x=b0∨∃ i,i < R.length∧R.getD i []≠[]∧x=bs i):=fun x=>by rw [hEe];exact Iff.rfl
 obtain ⟨E0,hE0⟩:∃ E0,E0=en0 Tryd.prog w (fun _ _=>False) (fun _=>b0) (fun x=>x=b0):=⟨_,rfl⟩
 rw [← hE0]
 have hP0:E0.P=Tryd.prog:=by rw [hE0];rfl
 have hd0:E0.draws=false:=by rw [hE0];rfl
 have hw0:E0.w0=w:=by rw [hE0];rfl
 have hBk0:Bk E E0:=by
  rw [hEe,hE0]
  exact ⟨rfl,rfl,rfl,rfl,fun b hb=>.inr (.inl hb),GrownL.rfl' _ _ _,fun b o h=>h.elim,fun _ _=>rfl⟩
 have hE:TbOk E0 { T:=TT,G:=[],D:=[],draws:=false,lent:=true,X:=[] }:=tb_newX [] hP0 hd0 rfl tt
 unfold Eng.stM
 refine Ax_st hE [0,1] [1000] fun K hK=>?_
 simp only [go_sem,seval]
 refine hK _ ?_;clear hK K
 refine Ax_sq fun B1 hB1 hR1 hX1=>?_
 refine Ax_st hE [0,1,5] [1000] fun K hK=>?_
 simp only [go_sem,seval]
 refine hK _ ?_;clear hK K
 refine Ax_bk fun B2 hN2 hE2 hR2 hX2=>?_
 refine Ax_lpI (fun (i:Nat) (a:Act) (w':World)=>∃ c:Gh,c.w=w'∧RC E ⟨19,[(0,.xs 1000 0 R.length R.length 1),(1,iv (k + totL (R.take i))),(5,iv (i:Int))],[(1000,vs.map AV.v)],0⟩ a c∧i≤R.length∧
   ∀ j:Nat,j < R.length→RowO w' (vs.getD j undef) (if j < i then iotaL (k + totL (R.take j)) (R.getD j []).length else R.getD j []) (bs j)) (fun i=>R.length - i) 0 (fun _ a w' hr=>?_) ?_
 ·obtain ⟨c,rfl,hRC⟩:=hr.rc
  refine ⟨c,rfl,RC.bk hBk0 (by simpa [totL] using hRC),Nat.zero_le _,fun j hj=>?_⟩
  have hf:=hRC.1.fr
  rw [hd0,hw0] at hf
  rw [if_neg (by omega)]
  exact (hrow j hj).1.same fun hne hlt=>hf.block _ hlt (by simp) fun hb=>(hrow j hj).2 hne (by rw [hE0] at hb;exact hb)
 rintro i a1 w1 ⟨c,rfl,hRC,hi,hF⟩ B3 hN3 hR3 hX3
 have hre:St.re ⟨19,[(0,.xs 1000 0 R.length R.length 1),(1,iv (k + totL (R.take i))),(5,iv (i:Int))],[(1000,vs.map AV.v)],0⟩=⟨19,[(0,.xs 1000 0 R.length R.length 1),(1,iv (k + totL (R.take i))),(5,iv (i:Int))],[(1000,vs.map AV.v)],0⟩:=by
  simp only [St.re,ntσ,ntm,AV.nt,vv_nt]
 have hR0:=hRC.re.r
 rw [hre] at hR0
 have hBk:=Bk.re hRC hEd
 have hcb:c.β 1000=b0:=by rw [hRC.1.bl 1000 (Nat.le_refl _),hEb]
 generalize hE1:reE E _ c=E1 at hR0 hBk
 have hP1:E1.P=Tryd.prog:=hBk.P.trans hEP
 have hd1:E1.draws=false:=hBk.d'
 have hw1:E1.w0=c.w:=by rw [← hE1];rfl
 have hL1:∀ b,E1.L b→b=b0:=fun b hb=>by
  rw [← hE1] at hb
  obtain ⟨d,ls,hl,rfl⟩:=hb
  simp only [lkm] at hl
  split at hl
  ·rename_i e;rw [e];exact hcb
  ·cases hl
 clear hE
 have hE:TbOk E1 { T:=TT,G:=[],D:=[],draws:=false,lent:=true,X:=[] }:=tb_newX [] hP1 hd1 rfl tt
 refine Ax.run (E:=E1) (st:=⟨19,[(0,.xs 1000 0 R.length R.length 1),(1,iv (k + totL (R.take i))),(5,iv (i:Int))],[(1000,vs.map AV.v)],0⟩) ?_ hP1 hR0
 have hkeep:∀ st a c2,RC E1 st a c2→∀ j,j < R.length→RowO c2.w (vs.getD j undef) (if j < i then iotaL (k + totL (R.take j)) (R.getD j []).length else R.getD j []) (bs j):=fun st a c2 h j hj=>by
  have hf:=h.1.fr
  rw [hd1,hw1] at hf
  exact (hF j hj).same fun hne hlt=>hf.block _ hlt (by simp) fun hb=>(hrow j hj).2 (mk_ne hne) (hL1 _ hb)
 have ht0:=totL_le R i
 have htn:=totL_nn (R.take i)
 refine Ax_sq fun B4 hB4 hR4 hX4=>?_
 refine Ax_st hE [0,1,5,9] [1000] fun K hK=>?_
 simp only [go_sem,seval]
 refine hK _ (Ax_cond rfl (fun hc5=>?_) (fun hc5=>?_))
 ·simp only [dte] at hc5
  have hil:i < R.length:=by omega
  have hwl:=hb2 _ (getD_memL R i hil)
  have hdr:(vs.map AV.v).drop i=AV.v (vs.getD i undef)::(vs.map AV.v).drop (i + 1):=by
   rw [List.drop_eq_getElem_cons (by rw [List.length_map];omega),List.getElem_map,List.getD_eq_getElem?_getD,List.getElem?_eq_getElem (by omega)];rfl
  have hlv:(vs.map AV.v).length=R.length:=by rw [List.length_map,hvl]
  refine Ax_skip (hB4 _ ?_)
  refine Ax_sq fun B6 hB6 hR6 hX6=>?_
  refine Ax_bk fun B7 hN7 hE7 hR7 hX7=>?_
  refine Ax_spt hE 5 fun K hK=>?_
  simp only [go_sem,seval,List.take_succ_cons,List.take_zero,hdr,hlv]
  repeat refine sd0 ?_
  refine hK _ fun a2 w2 hr2=>?_
  clear hK K
  obtain ⟨c2,rfl,hRC2⟩:=hr2.rc
  have h2E:=RC.bk hBk hRC2
  refine sp_call rfl rfl markI0_ok.1 ?_
  have h15:Rd c2 (.v (vs.getD i undef)) (a2.tmps.getD 15 undef):=hRC2.2.1 15
  have h16:Rd c2 (iv (k + totL (R.take i))) (a2.tmps.getD 16 undef):=hRC2.2.1 16
  have e15:a2.tmps.getD 15 undef=vs.getD i undef:=by generalize a2.tmps.getD 15 undef=z at h15;cases h15;rfl
  have e16:a2.tmps.getD 16 undef = .int .i64 (k + totL (R.take i)):=by generalize a2.tmps.getD 16 undef=z at h16;cases h16;rfl
  simp only [List.map_toArray,List.map_cons,List.map_nil,Act.eval]
  rw [e15,e16]
  have hrow2:=hkeep _ _ _ hRC2 i hil
  rw [if_neg (by omega)] at hrow2
  refine (mk_calls hrow2 hwl (by omega) (by omega) markI0_ok).mono ?_
  rintro e w3 ⟨rfl,hg,hro⟩
  refine ⟨_,rfl,?_⟩
  have hc2b:c2.β 1000=b0:=by rw [h2E.1.bl 1000 (Nat.le_refl _),hEb]
  have hlti:R.getD i []≠[]→bs i < w.heap.size:=fun hne=>((hrow i hil).1.row hne).lt
  have hR3':=h2E.nxm (w':=w3) (u:=.int .i64 (k + totL (R.take i) + (R.getD i []).length)) (fun b o hS=>hg.block b (h2E.1.slt hS) (by simp) fun ⟨e1,e2⟩=>by
    have:=hlti e2
    rcases h2E.1.sS b o hS with h | h
    ·rw [hEw] at h;omega
    ·exact hES _ _ h) (fun d ls hl=>by
    simp only [lkm] at hl
    split at hl
    ·rename_i e
     subst e
     exact hg.block _ (h2E.1.box 1000 _ rfl).lt.2 (by simp) fun ⟨e1,e2⟩=>(hrow i hil).2 e2 (e1.symm.trans hc2b)
    ·cases hl) rfl 17
  have hBk2:=Bk.nx h2E hEd hg (fun b ⟨e,e2⟩=>.inr ((hEL _).2 (.inr ⟨i,hil,e2,e⟩)))
  generalize hE2e:nxM E _ c2 w3=E2 at hR3' hBk2
  have hP2:E2.P=Tryd.prog:=hBk2.P.trans hEP
  have hd2:E2.draws=false:=hBk2.d'
  have hw2:E2.w0=w3:=by rw [← hE2e];rfl
  have hL2:∀ b,E2.L b→b=b0:=fun b hb=>by
   rw [← hE2e] at hb
   obtain ⟨d,ls,hl,rfl⟩:=hb
   simp only [lkm] at hl
   split at hl
   ·rename_i e;rw [e];exact hc2b
   ·cases hl
  clear hE
  have hE:TbOk E2 { T:=TT,G:=[],D:=[],draws:=false,lent:=true,X:=[] }:=tb_newX [] hP2 hd2 rfl tt
  refine sp_go hE hP2 hR3' ?_
  simp only [go_sem,seval,St.re,List.drop_succ_cons,List.drop_zero,vv_nt]
  refine hN7 _ (hB6 _ ?_)
  refine Ax_tx hE [0,1,5] [1000] fun K hK=>?_
  simp only [go_sem,seval]
  repeat refine sd0 ?_
  refine hK _ fun hP5 a5 w5 hr5=>?_
  obtain ⟨c5,rfl,h5⟩:=hr5.rc
  have h5E:=RC.bk hBk2 h5
  have hf2:=h5.1.fr
  rw [hd2,hw2] at hf2
  have hf1:=hRC2.1.fr
  have e':((i + 1:Nat):Int)=(i:Int) + 1:=by omega
  refine hN3 (i + 1) a5 c5.w (by omega) ⟨c5,rfl,?_,by omega,fun j hj=>?_⟩
  ·rw [e',totL_take R i hil,← Int.add_assoc];exact h5E
  ·have hblk:R.getD j []≠[]→bs j < w3.heap.size→c5.w.heap[bs j]? = w3.heap[bs j]? := fun hne hlt=>hf2.block _ hlt (by simp) fun hb=>(hrow j hj).2 hne (hL2 _ hb)
   by_cases e:j=i
   ·subst e
    rw [if_pos (by omega)]
    exact hro.same fun hne=>hblk fun e=>hne (by rw [e];rfl)
   ·have h3:=hkeep _ _ _ hRC2 j hj
    have h4:(if j < i + 1 then iotaL (k + totL (R.take j)) (R.getD j []).length else R.getD j [])=(if j < i then iotaL (k + totL (R.take j)) (R.getD j []).length else R.getD j []):=by
     by_cases hlt:j < i
     ·rw [if_pos hlt,if_pos (by omega)]
     ·rw [if_neg hlt,if_neg (by omega)]
    rw [h4]
    exact h3.same fun hne hlt=>(hblk (mk_ne hne) (Nat.lt_of_lt_of_le hlt hg.size)).trans (hg.block _ hlt (by simp) fun ⟨e1,e2⟩=>e (hinj j i hj hil (mk_ne hne) e2 e1))
 ·simp only [dfn] at hc5
  obtain rfl:i=R.length:=by omega
  refine Ax_exit (hX4 _ _ (hX3 _ _ (hE2 _ (hB1 _ ?_))))
  refine Ax_st hE [4] [1000] fun K hK=>?_
  simp only [go_sem,seval]
  refine hK _ (Ax_ret (bp_ret (by rw [Tryd.results13]) fun a6 c6 h6=>?_))
  have h6E:=RC.bk hBk h6
  have hv4:Rd c6 (iv (k + totL (R.take R.length))) (a6.tmps.getD 4 undef):=h6.2.1 4
  rw [List.take_length] at hv4
  have e4:a6.tmps.getD 4 undef = .int .i64 (k + totL R):=by generalize a6.tmps.getD 4 undef=z at hv4;cases hv4;rfl
  obtain ⟨cs,T,b1,b2,b3,b4,b5⟩:=(h6E.1.box 1000 _ rfl).cells rfl
  have hcs:cs=vs.toArray:=by
   apply Array.ext
   ·rw [b3,List.length_map,List.size_toArray]
   ·intro k h1 h2
    have h2':k < vs.length:=by simpa using h2
    have:=b4 k (.v vs[k]) (by simp [h2'])
    have e:cs.getD k undef=cs[k]:=by simp [Array.getD_eq_getD_getElem?,h1]
    rw [e] at this
    generalize cs[k]=z at this
    cases this;simp
  rw [hcs,h6E.1.bl 1000 (Nat.le_refl _),hEb] at b2
  have hf:=h6E.1.fr
  rw [hEd,hEw] at hf
  refine ⟨by rw [e4],hf.mono fun b hb=>(hEL b).1 hb,⟨T,by rw [mkR_len],b2⟩,by rw [mkR_len];exact hvl,fun j hj=>?_,fun j j' hj hj'=>?_⟩
  ·rw [mkR_len] at hj
   rw [mkR_get k R j hj]
   have:=hkeep _ _ _ h6 j hj
   rw [if_pos hj] at this
   exact ⟨this,fun hne=>(hrow j hj).2 fun e=>hne (by rw [e];rfl)⟩
  ·rw [mkR_len] at hj hj'
   rw [mkR_get k R j hj,mkR_get k R j' hj']
   exact fun h1 h2=>hinj j j' hj hj' (fun e=>h1 (by rw [e];rfl)) (fun e=>h2 (by rw [e];rfl))
theorem nest_calls {w:World} {v:Value} {R:List (List Int)} {lo hi:Nat} {k:Int} (h:Nest w v R lo hi) (hR:bigM R) (hk0:0≤k) (hk1:k + totL R≤1000000000) :
  Calls Tryd.prog 13 #[v,.int .i64 k] w fun e w'=>e = .returned (.int .i64 (k + totL R))∧GrownL w w' none (fun x=>lo≤x∧x < hi)∧Nest w' v (mkR k R) lo hi:=by
 obtain ⟨vs,bs,b0,h1,h2,h3⟩:=h
 refine (markSS_calls h1 hR hk0 hk1).mono ?_
 rintro e w' ⟨rfl,hg,hn⟩
 refine ⟨rfl,hg.mono fun x hx=>?_,vs,bs,b0,hn,h2,fun i hi hne=>?_⟩
 ·rcases hx with rfl | ⟨i,hi,hne,rfl⟩
  ·exact h2
  ·exact h3 i hi hne
 ·rw [mkR_len] at hi
  rw [mkR_get k R i hi] at hne
  exact h3 i hi fun e=>hne (by rw [e];rfl)
def hldI:Int→List Int→Int
 | k,[]=>k
 | k,x::l=>if x=k then hldI (k + 1) l else -1
theorem hldI_iota:∀ (k:Int) (n:Nat),hldI k (iotaL k n)=k + n
 | k,0=>by simp [iotaL,hldI]
 | k,n + 1=>by rw [iotaL,hldI,if_pos rfl,hldI_iota (k + 1) n];omega
theorem hldI_le:∀ (k:Int) (l:List Int),0≤k→-1≤hldI k l∧hldI k l≤k + l.length
 | k,[],h=>by simp [hldI];omega
 | k,x::l,h=>by
  unfold hldI
  split
  ·have:=hldI_le (k + 1) l (by omega)
   rw [List.length_cons];omega
  ·rw [List.length_cons];omega
def hldW:Int→List (List Int)→Int
 | k,[]=>k
 | k,r::R=>if hldI k r < 0 then -1 else hldW (hldI k r) R
theorem hldW_mkR:∀ (k:Int) (R:List (List Int)),0≤k→hldW k (mkR k R)=k + totL R
 | k,[],h=>by simp [mkR,hldW,totL]
 | k,r::R,h=>by
  rw [mkR,hldW,hldI_iota,if_neg (by omega),hldW_mkR _ R (by omega),totL,Int.add_assoc]
def gHldI:List AV→Option (Prop × AV)
 | [.sl _ els,.v (.int .i64 k)]=>(match intsL els with
  | some l=>some (l.length≤2000000∧0≤k∧k≤1000000000,iv (hldI k l))
  | none=>none)
 | _=>none
def dHldI:DFn:={ g:=gHldI }
def gHldW:List AV→Option (Prop × AV)
 | [.sl _ els,.v (.int .i64 k)]=>(match waysL els with
  | some R=>some (bigM R∧0≤k∧k + totL R≤1000000000,iv (hldW k R))
  | none=>none)
 | _=>none
def dHldW:DFn:={ g:=gHldW }
attribute [go_sem] gHldI dHldI gHldW dHldW
theorem heldIntS_ok:Fine Tryd.prog 15 dHldI.con:=by
 refine fine_det (T:=TT) Tryd.func15 rfl Tryd.ntmps15 (by rw [Tryd.results15]) rfl rfl tt (gs_nil) (ds_nil) ?_
 intro args c r h hc
 simp only [dHldI,gHldI] at h
 split at h
 rotate_left
 ·cases h
 split at h
 rotate_left
 ·cases h
 rename_i tt els z _ l hl
 obtain rfl:=intsL_eq hl
 obtain ⟨rfl,rfl⟩:=Prod.mk.inj (Option.some.inj h)
 refine ⟨by simp,fun k E hE Q hQ=>?_⟩
 obtain ⟨h1,h2,h3⟩:=hc
 refine Aw_st hE [0,1] [] fun K hK=>?_
 simp only [go_sem,seval]
 refine hK _ ?_;clear hK K
 refine Aw_sq fun B1 hB1 hR1 hX1=>?_
 refine Aw_st hE [0,1,5] [] fun K hK=>?_
 simp only [go_sem,seval]
 refine hK _ ?_;clear hK K
 refine Aw_bk fun B2 hN2 hE2 hR2 hX2=>?_
 refine Aw_lp (fun i:Nat=>⟨21,[(0,isl l),(1,iv (z + i)),(5,iv (i:Int))],[],k⟩) (fun i=>i≤l.length∧hldI z l=hldI (z + i) (l.drop i)) (fun i=>l.length - i) 0 (Le_wb (by simp only [go_sem,seval,Int.natCast_zero,Int.add_zero])) ⟨by omega,by simp⟩ fun i hi B3 hN3 hR3 hX3=>?_
 obtain ⟨hi,hq⟩:=hi
 refine Aw_sq fun B4 hB4 hR4 hX4=>?_
 refine Aw_st hE [0,1,5,9] [] fun K hK=>?_
 simp only [go_sem,seval]
 refine hK _ (Aw_cond rfl (fun hc5=>?_) (fun hc5=>?_))
 ·simp only [dte] at hc5
  have hil:i < l.length:=by omega
  have hg:=rows_get l i hil
  have hdr:l.drop i=l.getD i 0::l.drop (i + 1):=by
   rw [List.drop_eq_getElem_cons hil,List.getD_eq_getElem?_getD,List.getElem?_eq_getElem hil];rfl
  rw [hdr,hldI] at hq
  refine Aw_skip (hB4 _ ?_)
  refine Aw_sq fun B6 hB6 hR6 hX6=>?_
  refine Aw_bk fun B7 hN7 hE7 hR7 hX7=>?_
  refine Aw_sq fun B8 hB8 hR8 hX8=>?_
  refine Aw_st hE [0,1,5,17] [] fun K hK=>?_
  simp only [go_sem,seval,hg]
  repeat refine sd0 ?_
  refine hK _ (Aw_cond rfl (fun hc9=>?_) (fun hc9=>?_))
  ·simp only [Bool.not_eq_true',dfn] at hc9
   rw [if_neg hc9] at hq
   refine Aw_st hE [4] [] fun K hK=>?_
   simp only [go_sem,seval]
   refine hK _ (Aw_ret (hR8 _ (hR7 _ (hR6 _ (hR3 _ (hR2 _ (hR1 _ (hQ _ ?_))))))))
   simp only [go_sem,seval,hq]
  ·simp only [Bool.not_eq_false',dte] at hc9
   rw [if_pos hc9] at hq
   refine Aw_skip (hB8 _ ?_)
   refine Aw_tx hE [0,1,5] [] fun K hK=>?_
   simp only [go_sem,seval]
   repeat refine sd0 ?_
   refine hK _ (hN7 _ (hB6 _ ?_))
   refine Aw_tx hE [0,1,5] [] fun K hK=>?_
   simp only [go_sem,seval]
   repeat refine sd0 ?_
   refine hK _ (hN3 (i + 1) _ ⟨by omega,by rw [hq,Int.natCast_add,← Int.add_assoc];rfl⟩ (by omega) (Le_wb (by simp only [go_sem,seval,Int.natCast_add,Int.natCast_one,Int.add_assoc])))
 ·simp only [dfn] at hc5
  obtain rfl:i=l.length:=by omega
  refine Aw_exit (hX4 _ _ (hX3 _ _ (hE2 _ (hB1 _ ?_))))
  refine Aw_st hE [4] [] fun K hK=>?_
  simp only [go_sem,seval]
  refine hK _ (Aw_ret (hQ _ ?_))
  rw [List.drop_length,hldI] at hq
  simp only [go_sem,seval,hq]
theorem heldIntSS_ok:Fine Tryd.prog 18 dHldW.con:=by
 refine fine_det (T:=TT) Tryd.func18 rfl Tryd.ntmps18 (by rw [Tryd.results18]) rfl rfl tt (gs_nil) (ds_cons heldIntS_ok ds_nil) ?_
 intro args c r h hc
 simp only [dHldW,gHldW] at h
 split at h
 rotate_left
 ·cases h
 split at h
 rotate_left
 ·cases h
 rename_i tt els z _ R hiw
 obtain rfl:=waysL_eq hiw
 obtain ⟨rfl,rfl⟩:=Prod.mk.inj (Option.some.inj h)
 refine ⟨by simp,fun k E hE Q hQ=>?_⟩
 obtain ⟨⟨h1,h1'⟩,h2,h3⟩:=hc
 refine Aw_st hE [0,1] [] fun K hK=>?_
 simp only [go_sem,seval]
 refine hK _ ?_;clear hK K
 refine Aw_sq fun B1 hB1 hR1 hX1=>?_
 refine Aw_st hE [0,1,5] [] fun K hK=>?_
 simp only [go_sem,seval]
 refine hK _ ?_;clear hK K
 refine Aw_bk fun B2 hN2 hE2 hR2 hX2=>?_
 refine Aw_lp (fun i:Nat × Int=>⟨21,[(0,wsl R),(1,iv i.2),(5,iv (i.1:Int))],[],k⟩) (fun i=>i.1≤R.length∧(0≤i.2∧i.2≤z + totL (R.take i.1))∧hldW z R=hldW i.2 (R.drop i.1)) (fun i=>R.length - i.1) (0,z) (Le_wa) ⟨Nat.zero_le _,⟨h2,by simp [totL]⟩,by simp⟩ fun i hi B3 hN3 hR3 hX3=>?_
 obtain ⟨i,q⟩:=i
 obtain ⟨hi,⟨hq1,hq2⟩,hq⟩:=hi
 simp only at hi hq1 hq2 hq
 refine Aw_sq fun B4 hB4 hR4 hX4=>?_
 refine Aw_st hE [0,1,5,9] [] fun K hK=>?_
 simp only [go_sem,seval]
 refine hK _ (Aw_cond rfl (fun hc5=>?_) (fun hc5=>?_))
 ·simp only [dte] at hc5
  have hil:i < R.length:=by omega
  have hg:=wrows_get R i hil
  have hrl:=h1' _ (getD_memL R i hil)
  have ht:=totL_take R i hil
  have ht2:=totL_le R i
  have ht3:=totL_le R (i + 1)
  have hdr:R.drop i=R.getD i []::R.drop (i + 1):=by
   rw [List.drop_eq_getElem_cons hil,List.getD_eq_getElem?_getD,List.getElem?_eq_getElem hil];rfl
  rw [hdr,hldW] at hq
  obtain ⟨hh1,hh2⟩:=hldI_le q (R.getD i []) hq1
  refine Aw_skip (hB4 _ ?_)
  refine Aw_sq fun B6 hB6 hR6 hX6=>?_
  refine Aw_bk fun B7 hN7 hE7 hR7 hX7=>?_
  refine Aw_st hE [0,1,5] [] fun K hK=>?_
  simp only [go_sem,seval,hg,hrl]
  repeat refine sd0 ?_
  refine hK _ ?_;clear hK K
  refine Aw_st hE [0,1,5,19] [] fun K hK=>?_
  simp only [go_sem,seval]
  refine hK _ (Aw_cond rfl (fun hc8=>?_) (fun hc8=>?_))
  ·simp only [dte] at hc8
   rw [if_pos hc8] at hq
   refine Aw_st hE [4] [] fun K hK=>?_
   simp only [go_sem,seval]
   refine hK _ (Aw_ret (hR7 _ (hR6 _ (hR3 _ (hR2 _ (hR1 _ (hQ _ ?_)))))))
   simp only [go_sem,seval,hq]
  ·simp only [dfn] at hc8
   rw [if_neg hc8] at hq
   refine Aw_skip (hN7 _ (hB6 _ ?_))
   refine Aw_tx hE [0,1,5] [] fun K hK=>?_
   simp only [go_sem,seval]
   repeat refine sd0 ?_
   refine hK _ (hN3 (i + 1,hldI q (R.getD i [])) _ ⟨by simp only;omega,⟨by simp only;omega,by simp only;omega⟩,hq⟩ (by simp only;omega) (Le_wb (by simp only [go_sem,seval,Int.natCast_add,Int.natCast_one])))
 ·simp only [dfn] at hc5
  obtain rfl:i=R.length:=by omega
  refine Aw_exit (hX4 _ _ (hX3 _ _ (hE2 _ (hB1 _ ?_))))
  refine Aw_st hE [4] [] fun K hK=>?_
  simp only [go_sem,seval]
  refine hK _ (Aw_ret (hQ _ ?_))
  rw [List.drop_length,hldW] at hq
  simp only [go_sem,seval,hq]
def Rdx (w:World) (z:List (Value × List (List DV))):Prop:=∀ p ∈ z,RdD w (allS w) (.sl p.2) p.1
theorem Rdx_inh {w w':World} {z:List (Value × List (List DV))} (h:Rdx w z) (hg:w.grownBy w' none):Rdx w' z:=fun p hp =>
 (h p hp).keep (Keeps.same (fun b o ⟨x,hx,h1⟩=>⟨x,(World.cell?_of_block (w:=w) (a:=⟨b,o,none⟩) (hg.block b (World.block_lt_of_cell? w ⟨b,o,none⟩ hx) (by simp))).trans hx,h1⟩) fun b o ⟨x,hx,h1⟩=>hg.block b (World.block_lt_of_cell? w ⟨b,o,none⟩ hx) (by simp))
def xpd (z:List (Value × List (List DV))):AV→AV→Prop:=fun x y=>x=y∨∃ p ∈ z,x = .v p.1∧y = .sl none p.2
def xpdL (z:List (Value × List (List DV))):List AV→List AV→Prop
 | [],[]=>True
 | x::l,y::l'=>xpd z x y∧xpdL z l l'
 | _,_=>False
theorem xpdL_len {z:List (Value × List (List DV))}:∀ {l l':List AV},xpdL z l l'→l.length=l'.length
 | [],[],_=>rfl
 | x::l,y::l',h=>by rw [List.length_cons,List.length_cons,xpdL_len h.2]
 | [],_::_,h=>h.elim
 | _::_,[],h=>h.elim
theorem xpdL_get {z:List (Value × List (List DV))}:∀ {l l':List AV},xpdL z l l'→∀ (j:Nat) (y:AV),l'[j]? = some y→∃ x,l[j]? = some x∧xpd z x y
 | [],[],_,j,y,hy=>by simp at hy
 | x::l,y'::l',h,0,y,hy=>by obtain rfl:=Option.some.inj hy;exact ⟨x,rfl,h.1⟩
 | x::l,y'::l',h,j + 1,y,hy=>xpdL_get h.2 j y hy
 | [],_::_,h,_,_,_=>h.elim
 | _::_,[],h,_,_,_=>h.elim
def dX (d:DFn) (z:List (Value × List (List DV))) (g:List AV→Option (Prop × AV)):DFn:={ g:=g,inv:=fun w=>d.inv w∧Rdx w z }
theorem fine_X {P : Program} {f : FuncId} {d : DFn} (h : Fine P f d.con) (z : List (Value × List (List DV))) (g : List AV → Option (Prop × AV))
    (hg : ∀ args c r, g args = some (c, r) → c → ∃ args2 c2 u, xpdL z args args2 ∧ (∀ x ∈ args2, x.er = x) ∧ d.g args2 = some (c2, r) ∧ c2 ∧ r = .v u) : Fine P f (dX d z g).con := by
  refine ⟨h.1, ?_⟩
  rintro c args vs bv B n hsz hrd her ⟨c1, r, hgr, hc1⟩ ⟨hinv, hz⟩ hsx hs1 _
  obtain ⟨args2, c2, u, hx, her2, hg2, hc2, rfl⟩ := hg args c1 r hgr hc1
  let c' : Gh := { c with S := fun b o => c.S b o ∨ allS c.w b o }
  have hk : Keeps c.w c.S c'.w c'.S := Keeps.same (fun _ _ h => .inl h) fun _ _ _ => rfl
  have hk2 : Keeps c.w (allS c.w) c'.w c'.S := Keeps.same (fun _ _ h => .inr h) fun _ _ _ => rfl
  refine (h.2 c' args2 vs bv B n (by rw [hsz, xpdL_len hx]) (fun j y hy => ?_) her2 ⟨c2, .v u, hg2, hc2⟩ hinv (fun b o hS => ?_) (fun b o v hS hv => ?_) (fun e => by cases e)).mono ?_
  · obtain ⟨x, hx1, hx2⟩ := xpdL_get hx j y hy
    have := hrd j x hx1
    rcases hx2 with rfl | ⟨p, hp, rfl, rfl⟩
    · exact this.keep (c' := c') hk rfl rfl rfl rfl
    · have e : vs.getD j undef = p.1 := by generalize vs.getD j undef = q at this; cases this; rfl
      rw [e]
      exact .sl none _ _ ((hz p hp).keep hk2) trivial
  · rcases hS with hS | hS
    · exact hsx b o hS
    · exact allS_lk hS
  · rcases hS with hS | hS
    · exact hs1 b o v hS hv
    · exact allS_one hS hv
  · rintro e w' ⟨v, r, c3, rfl, ⟨c4, hr⟩, O⟩
    rw [hg2] at hr
    obtain ⟨_, rfl⟩ := Prod.mk.inj (Option.some.inj hr)
    have h1 := O.rd
    obtain ⟨hv1, rfl⟩ : v.oneCell' = true ∧ u = v := by generalize v = q at h1; cases h1; exact ⟨by assumption, rfl⟩
    have hb : ∀ k, k < c.w.heap.size → w'.heap[k]? = c.w.heap[k]? := fun k hk => O.fr.block k hk (by simp [DFn.con])
    have hkw : Keeps c.w c.S w' c.S := keeps_of_lt (fun _ _ h => h) fun b o _ hlt => hb b hlt
    refine ⟨u, .v u, { c with w := w', tv := fun _ _ => .slice none 0 0, te := fun _ _ => 0 }, rfl, ⟨c1, hgr⟩, ?_⟩
    exact { w := rfl, g := rfl, rd := .v _ hv1, fr := O.fr, S := fun _ _ h => .inr h, sx := fun b o h => hkw.lk h (hsx b o h), s1 := fun b o v hS hv => by
              rcases hsx b o hS with ⟨x, hx⟩ | ⟨rfl, es, ck, hx⟩
              · have := (hkw.1 b o x hS hx).2
                have hv' : w'.cell? ⟨b, o, none⟩ = some v := hv
                rw [this] at hv'; obtain rfl := Option.some.inj hv'
                exact hs1 b o x hS hx
              · have := (hkw.2 b es ck hS hx).2
                have hv' : w'.cell? ⟨b, 0, none⟩ = some v := hv
                simp [World.cell?, this] at hv'
            tok := fun _ _ => .inl rfl, toktok := fun _ _ _ _ b hb => (by simp [Value.ownBlock] at hb), rk := fun e => (by cases e) }
abbrev NDV (n:Int) (t:List (Value × Value)) (home:Int) (W:List (List Int)):AV:=.el [.v (.int .i64 n),.mp t,.v (.int .i64 home),.sl (wrows W)]
def gAnnD:List AV→Option (Prop × AV)
 | [.el [.v (.int .i64 _),.mp t,.v (.int .i64 _),.sl els],.v (.int .i64 h),.v (.int .i64 rel)]=>(match waysL els with
  | some W=>some (mpI t∧W.length≤1000∧∀ w ∈ W,w.length≤1000,wsl (cands W.length (lkF t) (toS W) h rel))
  | none=>none)
 | _=>none
def dAnnD:DFn:={ g:=gAnnD }
attribute [go_sem] gAnnD dAnnD
set_option maxHeartbeats 4000000 in
theorem annD_ok:Fine Tryd.prog 47 dAnnD.con:=by
 refine fine_det (T:=TT) Tryd.func47 rfl Tryd.ntmps47 (by rw [Tryd.results47]) rfl rfl tt gs_nil (ds_cons ofM_ok (ds_cons expM_ok (ds_cons containsI_ok ds_nil))) ?_
 intro args c r h hc
 simp only [dAnnD,gAnnD] at h
 split at h
 rotate_left
 ·cases h
 split at h
 rotate_left
 ·cases h
 rename_i n t home els a rel _ W hiw
 obtain rfl:=waysL_eq hiw
 obtain ⟨rfl,rfl⟩:=Prod.mk.inj (Option.some.inj h)
 obtain ⟨hmp,hW,hwl⟩:=hc
 refine ⟨by simp,fun k E hE Q hQ=>?_⟩
 refine Aw_st hE [0,1,2] [] fun K hK=>?_
 simp only [go_sem,seval]
 refine hK _ ?_;clear hK K
 refine Aw_st hE [0,1,2,7] [] fun K hK=>?_
 simp only [go_sem,seval]
 refine hK _ ?_;clear hK K
 refine Aw_sq fun B1 hB1 hR1 hX1=>?_
 refine Aw_st hE [0,1,2,7,14,15,16] [] fun K hK=>?_
 simp only [go_sem,seval]
 refine hK _ ?_;clear hK K
 refine Aw_bk fun B2 hN2 hE2 hR2 hX2=>?_
 refine Aw_lp (fun i:List (List Int) × Nat=>⟨62,[(0,NDV n t home W),(1,iv a),(2,iv rel),(7,.sl (some (59,0,24)) (wrows i.1)),(14,wsl W),(15,iv (W.length:Int)),(16,iv (i.2:Int))],[],k⟩) (fun i=>i.2≤W.length∧i.1.length≤i.2∧i.1=cands i.2 (lkF t) (toS W) a rel) (fun i=>W.length - i.2) ([],0) ((Le_own 59 24 7 rfl).trans (Le_wk (Nat.le_refl _) (by simp only [go_sem,seval]) (by simp only [go_sem,seval]))) ⟨by simp,by simp,rfl⟩ fun i hi B3 hN3 hR3 hX3=>?_
 obtain ⟨out,i⟩:=i
 obtain ⟨hi,hol,ho⟩:=hi
 simp only at hi hol ho
 refine Aw_st hE [0,1,2,7,14,15,16,17] [] fun K hK=>?_
 simp only [go_sem,seval]
 refine hK _ ?_;clear hK K
 refine Aw_sq fun B4 hB4 hR4 hX4=>?_
 refine Aw_cond rfl (fun hc5=>?_) (fun hc5=>?_)
 rotate_left
 ·simp only [dfn] at hc5
  obtain rfl:i=W.length:=by omega
  refine Aw_exit (hX4 _ _ (hX3 _ _ (hE2 _ (hB1 _ ?_))))
  refine Aw_st hE [6] [] fun K hK=>?_
  simp only [go_sem,seval]
  refine hK _ (Aw_ret (hQ _ ?_))
  simp only [go_sem,seval]
  rw [ho]
 simp only [dte] at hc5
 have hil:i < W.length:=by omega
 have hdr:=wrows_get W i hil
 obtain ⟨p,hp⟩:∃ p,p=W.getD i []:=⟨_,rfl⟩
 have hpl:p.length≤1000:=by rw [hp];exact hwl _ (getD_memL W i hil)
 have hps:toS W ((i:Int) + 1)=p:=by rw [hp];exact toS_succ W i
 rw [← hp] at hdr
 have hskip:cnd (lkF t) (toS W) a rel ((i:Int) + 1)=false→i + 1≤W.length∧out.length≤i + 1∧out=cands (i + 1) (lkF t) (toS W) a rel:=fun h=>⟨by omega,by omega,by rw [cands_succ,h];exact ho⟩
 have htake:cnd (lkF t) (toS W) a rel ((i:Int) + 1)=true→i + 1≤W.length∧(out++[p]).length≤i + 1∧out++[p]=cands (i + 1) (lkF t) (toS W) a rel:=fun h=>⟨by omega,by simp;omega,by rw [cands_succ,h,hps,← ho];rfl⟩
 have hcnd:cnd (lkF t) (toS W) a rel ((i:Int) + 1)=(decide (lkF t a ((i:Int) + 1)=rel) && (!p.isEmpty && !p.contains a && mayB (lkF t) ((i:Int) + 1) (nxt p) a)):=by
  unfold cnd
  rw [hps,tells_may,beq_dec]
 refine Aw_skip (hB4 _ ?_)
 refine Aw_sq fun B6 hB6 hR6 hX6=>?_
 refine Aw_bk fun B7 hN7 hE7 hR7 hX7=>?_
 refine Aw_st hE [0,1,2,7,8,9,14,15,16] [] fun K hK=>?_
 simp only [go_sem,seval,hdr]
 repeat refine sd0 ?_
 refine hK _ ?_;clear hK K
 refine Aw_sq fun B8 hB8 hR8 hX8=>?_
 have hp4:p.length≤4294967296:=by omega
 by_cases h1:p=[]
 ·have h1d:decide ((p.length:Int)=0)=true:=decide_eq_true (by rw [h1];rfl)
  refine Aw_st hE [0,1,2,7,8,9,14,15,16,40] [] fun K hK=>?_
  refine aops_cut 6 fun K1 hK1=>?_
  simp only [go_sem,seval,h1d,decide_true]
  repeat refine sd0 ?_
  refine hK1 _ ?_
  clear hK1
  refine aops_cut 6 fun K1 hK1=>?_
  simp only [go_sem,seval,h1d,decide_true]
  repeat refine sd0 ?_
  refine hK1 _ ?_
  clear hK1
  refine aops_cut 6 fun K1 hK1=>?_
  simp only [go_sem,seval,h1d,decide_true]
  repeat refine sd0 ?_
  refine hK1 _ ?_
  clear hK1
  simp only [go_sem,seval,h1d,decide_true]
  repeat refine sd0 ?_
  refine hK _ (Aw_yes rfl ?_)
  refine Aw_exit (hX8 _ _ (hE7 _ (hB6 _ ?_)))
  refine Aw_tx hE [0,1,2,7,14,15,16] [] fun K hK=>?_
  simp only [go_sem,seval]
  repeat refine sd0 ?_
  refine hK _ (hN3 (out,i + 1) _ (hskip (by rw [hcnd,h1];simp)) (by simp only;omega) (Le.refl _))
 have h1d:decide ((p.length:Int)=0)=false:=decide_eq_false fun e=>h1 (List.eq_nil_of_length_eq_zero (by omega))
 have h1e:p.isEmpty=false:=List.isEmpty_eq_false_iff.2 h1
 by_cases h2:lkF t a ((i:Int) + 1)=rel
 rotate_left
 ·have h2d:decide (lkF t a ((i:Int) + 1)=rel)=false:=decide_eq_false h2
  refine Aw_st hE [0,1,2,7,8,9,14,15,16,40] [] fun K hK=>?_
  refine aops_cut 6 fun K1 hK1=>?_
  simp only [go_sem,seval,h1d,hmp,h2d,Bool.not_false]
  repeat refine sd0 ?_
  refine hK1 _ ?_
  clear hK1
  refine aops_cut 6 fun K1 hK1=>?_
  simp only [go_sem,seval,h1d,hmp,h2d,Bool.not_false]
  repeat refine sd0 ?_
  refine hK1 _ ?_
  clear hK1
  refine aops_cut 6 fun K1 hK1=>?_
  simp only [go_sem,seval,h1d,hmp,h2d,Bool.not_false]
  repeat refine sd0 ?_
  refine hK1 _ ?_
  clear hK1
  simp only [go_sem,seval,h1d,hmp,h2d,Bool.not_false]
  repeat refine sd0 ?_
  refine hK _ (Aw_yes rfl ?_)
  refine Aw_exit (hX8 _ _ (hE7 _ (hB6 _ ?_)))
  refine Aw_tx hE [0,1,2,7,14,15,16] [] fun K hK=>?_
  simp only [go_sem,seval]
  repeat refine sd0 ?_
  refine hK _ (hN3 (out,i + 1) _ (hskip (by rw [hcnd,h2d];rfl)) (by simp only;omega) (Le.refl _))
 have h2d:decide (lkF t a ((i:Int) + 1)=rel)=true:=decide_eq_true h2
 cases h3:p.contains a with
 | true =>
  refine Aw_st hE [0,1,2,7,8,9,14,15,16,40] [] fun K hK=>?_
  refine aops_cut 6 fun K1 hK1=>?_
  simp only [go_sem,seval,h1d,hmp,h2d,h3,hp4,decide_true,Bool.not_true]
  repeat refine sd0 ?_
  refine hK1 _ ?_
  clear hK1
  refine aops_cut 6 fun K1 hK1=>?_
  simp only [go_sem,seval,h1d,hmp,h2d,h3,hp4,decide_true,Bool.not_true]
  repeat refine sd0 ?_
  refine hK1 _ ?_
  clear hK1
  refine aops_cut 6 fun K1 hK1=>?_
  simp only [go_sem,seval,h1d,hmp,h2d,h3,hp4,decide_true,Bool.not_true]
  repeat refine sd0 ?_
  refine hK1 _ ?_
  clear hK1
  simp only [go_sem,seval,h1d,hmp,h2d,h3,hp4,decide_true,Bool.not_true]
  repeat refine sd0 ?_
  refine hK _ (Aw_yes rfl ?_)
  refine Aw_exit (hX8 _ _ (hE7 _ (hB6 _ ?_)))
  refine Aw_tx hE [0,1,2,7,14,15,16] [] fun K hK=>?_
  simp only [go_sem,seval]
  repeat refine sd0 ?_
  refine hK _ (hN3 (out,i + 1) _ (hskip (by rw [hcnd,h3];simp)) (by simp only;omega) (Le.refl _))
 | false =>
 rw [h2d,h1e,h3] at hcnd
 simp only [Bool.not_false,Bool.true_and] at hcnd
 refine Aw_st hE [0,1,2,7,8,9,14,15,16,40] [] fun K hK=>?_
 refine aops_cut 6 fun K1 hK1=>?_
 simp only [go_sem,seval,h1d,hmp,h2d,h3,hp4,decide_true,Bool.not_true]
 repeat refine sd0 ?_
 refine hK1 _ ?_
 clear hK1
 refine aops_cut 6 fun K1 hK1=>?_
 simp only [go_sem,seval,h1d,hmp,h2d,h3,hp4,decide_true,Bool.not_true]
 repeat refine sd0 ?_
 refine hK1 _ ?_
 clear hK1
 refine aops_cut 6 fun K1 hK1=>?_
 simp only [go_sem,seval,h1d,hmp,h2d,h3,hp4,decide_true,Bool.not_true]
 repeat refine sd0 ?_
 refine hK1 _ ?_
 clear hK1
 simp only [go_sem,seval,h1d,hmp,h2d,h3,hp4,decide_true,Bool.not_true]
 repeat refine sd0 ?_
 refine hK _ (Aw_no rfl (Aw_skip (hB8 _ ?_)))
 refine Aw_st hE [0,1,2,7,8,9,10,14,15,16] [] fun K hK=>?_
 simp only [go_sem,seval]
 refine hK _ ?_;clear hK K
 refine Aw_sqJ (fun (_:Unit)=>⟨62,[(0,NDV n t home W),(1,iv a),(2,iv rel),(7,.sl (some (59,0,24)) (wrows out)),(8,iv (i:Int)),(9,isl p),(10,iv (nxt p)),(14,wsl W),(15,iv (W.length:Int)),(16,iv (i:Int))],[],k⟩) (fun _=>True) (fun _ _=>?_) fun B13 hB13 hR13 hX13=>?_
 ·refine Aw_st hE [0,1,2,7,9,14,15,16,55] [] fun K hK=>?_
  simp only [go_sem,seval,hmp]
  repeat refine sd0 ?_
  refine hK _ (Aw_cond rfl (fun hc15=>?_) (fun hc15=>?_))
  ·refine Aw_tx hE [0,1,2,7,14,15,16] [] fun K hK=>?_
   simp only [go_sem,seval,wrows_one]
   repeat refine sd0 ?_
   refine hK _ (hN7 _ (hB6 _ ?_))
   refine Aw_tx hE [0,1,2,7,14,15,16] [] fun K hK=>?_
   simp only [go_sem,seval]
   repeat refine sd0 ?_
   refine hK _ (hN3 (out++[p],i + 1) _ (htake (by rw [hcnd];exact hc15)) (by simp only;omega) (Le.refl _))
  ·refine Aw_skip (hN7 _ (hB6 _ ?_))
   refine Aw_tx hE [0,1,2,7,14,15,16] [] fun K hK=>?_
   simp only [go_sem,seval]
   repeat refine sd0 ?_
   refine hK _ (hN3 (out,i + 1) _ (hskip (by rw [hcnd];exact hc15)) (by simp only;omega) (Le.refl _))
 ·refine Aw_st hE [0,1,2,7,8,9,10,14,15,16,43] [] fun K hK=>?_
  simp only [go_sem,seval]
  refine hK _ (Aw_cond rfl (fun hc14=>?_) (fun hc14=>?_))
  ·simp only [dte] at hc14
   refine Aw_tx hE [0,1,2,7,8,9,10,14,15,16] [] fun K hK=>?_
   simp only [go_sem,seval,nxt_get (w:=p) (by omega)]
   repeat refine sd0 ?_
   refine hK _ (hB13 () _ trivial (Le_wk (by first | omega | (dsimp only;omega) | (simp only;omega) | (simp;omega)) (by simp only [go_sem,seval]) (by simp only [go_sem,seval]) E))
  ·simp only [dfn] at hc14
   refine Aw_skip (hB13 () _ trivial ?_)
   rw [nxt_short (w:=p) (by omega)]
   exact Le_wk (by first | omega | (dsimp only;omega) | (simp only;omega) | (simp;omega)) (by simp only [go_sem,seval]) (by simp only [go_sem,seval]) E
end Go.Proofs.W
end
