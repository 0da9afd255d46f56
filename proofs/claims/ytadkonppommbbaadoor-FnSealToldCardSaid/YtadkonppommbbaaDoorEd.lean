/- YtadkonppommbbaaDoorEd: part of the proof that laws hold, for every input that the row speaks of (no condition of ours). -/
import Derived.Test.YtadkonppommbbaaDoorEc
set_option linter.unusedVariables false
set_option linter.unusedSimpArgs false
section
namespace Go.Eng
open Go Go.RowKit
inductive Sch where
 | done
 | non
 | cut (t:Sch)
 | fst (i:Nat) (t:Sch)
 | alt (i:Nat) (t r:Sch)
def Sch.heads:Sch→List Nat
 | .alt i _ r=>i::r.heads
 | _=>[]
def Sch.dep:Sch→Nat
 | .done=>0
 | .non=>0
 | .cut t=>t.dep
 | .fst _ t=>t.dep + 1
 | .alt _ t r=>max (t.dep + 1) r.dep
def chkS (ops:Array Oper):Sch→Bool→Array Bool→Bool
 | .done,top,listed=>top && (Region.ready .any ops listed).isEmpty
 | .non,top,_=>!top
 | .cut t,top,listed=>top && chkS ops t true listed
 | .fst i t,top,listed=>top && ((match ops[i]? with | some o=>isY o | none=>false) && (Region.free .any ops listed i && ((Region.ready .any ops listed).contains i && chkS ops t true (listed.setIfInBounds i true))))
 | .alt i t r,top,listed=>(!top || (Region.ready .any ops listed).all fun j=>(i::r.heads).contains j) && ((Region.ready .any ops listed).contains i && (chkS ops t true (listed.setIfInBounds i true) && chkS ops r false listed))
def enumS (E:En) (tb:Tb) (ops:List Oper):Sch→St→(St→Prop)→Prop
 | .done,st,K=>K st
 | .non,_,_=>True
 | .cut t,st,K=>∃ st',LeE E st st'∧enumS E tb ops t st' K
 | .fst i t,st,K=>match ops[i]? with
  | some o=>match dop tb.T tb.gl o.op st.ev (fun k=>lkm k st.m) with
   | some (c,r)=>c∧enumS E tb ops t (st.put o.dst r) K
   | none=>False
  | none=>False
 | .alt i t r,st,K=>(match ops[i]? with
  | some o=>stpG tb ops o st fun st'=>enumS E tb ops t st' K
  | none=>False)∧enumS E tb ops r st K
theorem any_okS {E:En} {tb:Tb} (hE:TbOk E tb) {ops:List Oper} (hsel:Region.noSelect ops.toArray=true) {K:St→Prop} {Q:Exit→Act→World→Prop} (hQ:∀ c a w,¬ Q (.panic c) a w) (hK:∀ st a w,R E st a w→K st→Q .normal a w) :
  ∀ (t:Sch) (top:Bool) (listed:Array Bool) (st:St) (a:Act) (w:World),chkS ops.toArray t top listed=true→R E st a w→enumS E tb ops t st K→
   (top=true→∀ fuel,t.dep≤fuel→wpAny E.P .any ops.toArray Q fuel listed a w)∧
   (top=false→∀ fuel,t.dep≤fuel + 1→∀ i ∈ t.heads,wpOp E.P ops.toArray Q i (wpAny E.P .any ops.toArray Q fuel (listed.setIfInBounds i true)) a w)
 | .done,top,listed,st,a,w,hc,hr,he=>by
  simp only [chkS,Bool.and_eq_true] at hc
  refine ⟨fun _ fuel _=>wpAny_done (by simpa using hc.2) (hK _ _ _ hr he) fuel,fun h=>?_⟩
  rw [h] at hc;cases hc.1
 | .non,top,listed,st,a,w,hc,hr,he=>by
  simp only [chkS] at hc
  exact ⟨fun h=>(by rw [h] at hc;cases hc),fun _ fuel _ i hi=>(by cases hi)⟩
 | .cut t,top,listed,st,a,w,hc,hr,he=>by
  simp only [chkS,Bool.and_eq_true] at hc
  obtain ⟨st',h1,h2⟩:=he
  refine ⟨fun _ fuel hf=>(any_okS hE hsel hQ hK t true listed st' a w hc.2 (h1 a w hr) h2).1 rfl fuel hf,fun h=>?_⟩
  rw [h] at hc;cases hc.1
 | .fst i t,top,listed,st,a,w,hc,hr,he=>by
  simp only [chkS,Bool.and_eq_true] at hc
  obtain ⟨c1,c2,c3,c4,c5⟩:=hc
  refine ⟨fun _ fuel hf=>?_,fun h=>by rw [h] at c1;cases c1⟩
  simp only [enumS] at he
  simp only [List.getElem?_toArray] at c2
  cases ho:ops[i]? with
  | none=>rw [ho] at c2;cases c2
  | some o =>
   rw [ho] at c2 he
   simp only at c2 he
   cases hd:dop tb.T tb.gl o.op st.ev (fun k=>lkm k st.m) with
   | none=>rw [hd] at he;exact he.elim
   | some cr =>
    obtain ⟨cc,r⟩:=cr
    rw [hd] at he
    obtain ⟨he1,he2⟩:=he
    obtain ⟨v,k1,k2⟩:=ydet c2 hr hE.T (hgl_of hE hr) hd he1
    have hg:o.guard=none:=by simp only [isY,Bool.and_eq_true,Option.isNone_iff_eq_none] at c2;exact c2.1
    cases fuel with
    | zero=>simp only [Sch.dep] at hf;omega
    | succ fuel =>
     simp only [Sch.dep] at hf
     exact wpAny_take (i:=i) (oi:=o) (v:=v) (by simp [ho]) hsel c3 c4 (fun c a w hp=>absurd hp (hQ _ _ _)) (.inl ⟨by simp [Region.wanted,hg],k1⟩)
      ((any_okS hE hsel hQ hK t true _ _ _ w c5 k2 he2).1 rfl fuel (by omega))
 | .alt i t r,top,listed,st,a,w,hc,hr,he=>by
  simp only [chkS,Bool.and_eq_true] at hc
  obtain ⟨c1,c2,c3,c4⟩:=hc
  simp only [enumS] at he
  obtain ⟨he1,he2⟩:=he
  have hrest:=(any_okS hE hsel hQ hK r false listed st a w c4 hr he2).2 rfl
  have hhead:∀ fuel,t.dep≤fuel→wpOp E.P ops.toArray Q i (wpAny E.P .any ops.toArray Q fuel (listed.setIfInBounds i true)) a w:=fun fuel hf=>by
   cases ho:ops[i]? with
   | none=>rw [ho] at he1;exact he1.elim
   | some o =>
    rw [ho] at he1
    simp only at he1
    have:=stpG_ok hE hr he1 (next:=wpAny E.P .any ops.toArray Q fuel (listed.setIfInBounds i true)) (Q:=Q) fun st' a' w' h' hk =>
     (any_okS hE hsel hQ hK t true _ st' a' w' c3 h' hk).1 rfl fuel hf
    unfold wpOp
    simp only [List.getElem?_toArray,ho]
    split at this
    ·rename_i hw;rw [if_pos hw];exact .inl this
    ·rename_i hw;rw [if_neg hw];exact this
  have hall:∀ fuel,(Sch.alt i t r).dep≤fuel + 1→∀ j ∈ (Sch.alt i t r).heads,wpOp E.P ops.toArray Q j (wpAny E.P .any ops.toArray Q fuel (listed.setIfInBounds j true)) a w:=fun fuel hf j hj=>by
   simp only [Sch.dep] at hf
   rcases List.mem_cons.1 hj with rfl | hj
   ·exact hhead fuel (by omega)
   ·exact hrest fuel (by omega) j hj
  refine ⟨fun ht fuel hf=>?_,fun _=>hall⟩
  cases fuel with
  | zero=>simp only [Sch.dep] at hf;omega
  | succ fuel =>
   refine ⟨fun h0=>?_,fun j hj=>hall fuel hf j ?_⟩
   ·rw [h0] at c2;cases c2
   ·subst ht
    simp only [Bool.not_true,Bool.false_or] at c1
    have:=(List.all_eq_true.1 c1) j hj
    simpa [Sch.heads] using this
def chkSt (t:Sch) (l:List Oper):Bool:=Region.noSelect l.toArray && (decide (t.dep≤l.length) && chkS l.toArray t true (Array.replicate l.length false))
theorem Aw_drawS {E:En} {tb:Tb} (hE:TbOk E tb) {id:Nat} {l:List Oper} {st:St} {Q:Exit→St→Prop} (t:Sch) (L Lm:List Nat) (hck:chkSt t l=true) (h:enumS E tb l t st fun st'=>Q .normal (st'.keep L Lm)):Aw E (.region id l.toArray true) st Q:=by
 intro a w hr
 refine Code.wp_mono (Q:=fun e a' w'=>e = .normal∧∃ st',R E st' a' w'∧Q .normal st') (fun e a' w' ⟨he,h⟩=>by subst he;exact h) ?_
 refine wp_region_any hE.mx ?_
 simp only [chkSt,Bool.and_eq_true,decide_eq_true_eq] at hck
 obtain ⟨h1,h2,h3⟩:=hck
 exact (any_okS hE h1 (K:=fun st'=>Q .normal (st'.keep L Lm)) (fun c a w h=>by cases h.1) (fun st' a' w' h2 h4=>⟨rfl,_,h2.keep L Lm,h4⟩) t true _ st a _ (by simpa using h3) hr.drew h).1 rfl _ (by simpa using h2)
theorem Aw_sS {E:En} {tb:Tb} {st:St} {Q:Exit→St→Prop} (hE:TbOk E tb) {id:Nat} {l:List Oper} {y:Code} (t:Sch) (L Lm:List Nat) (hck:chkSt t l=true) (h:∀ K:St→Prop,(∀ st',Aw E y st' Q→K st')→enumS E tb l t st fun st'=>K (st'.keep L Lm)):Aw E (.seq (.region id l.toArray true) y) st Q :=
 Aw_seq (Aw_drawS hE t L Lm hck (h _ fun _ h=>h))
theorem Aw_tS {E:En} {tb:Tb} {st:St} {Q:Exit→St→Prop} (hE:TbOk E tb) {id:Nat} {l:List Oper} (t:Sch) (L Lm:List Nat) (hck:chkSt t l=true) (h:∀ K:St→Prop,(∀ st',Q .normal st'→K st')→enumS E tb l t st fun st'=>K (st'.keep L Lm)):Aw E (.region id l.toArray true) st Q :=
 Aw_drawS hE t L Lm hck (h _ fun _ h=>h)
section
variable {E:En} {tb:Tb} {ops:List Oper} {o:Oper} {t r:Sch} {i:Nat} {st:St} {K:St→Prop} {nt rn:Nat} {σ:List (Nat × AV)} {m:List (Nat × List AV)}
theorem enumS_done:enumS E tb ops .done st K=K st:=rfl
theorem enumS_non:enumS E tb ops .non st K=True:=rfl
theorem enumS_fst:enumS E tb ops (.fst i t) ⟨nt,σ,m,rn⟩ K=(match ops[i]? with
  | some o=>match dop tb.T tb.gl o.op (⟨nt,σ,m,rn⟩:St).ev (fun k=>lkm k m) with
   | some (c,r)=>c∧enumS E tb ops t (St.put ⟨nt,σ,m,rn⟩ o.dst r) K
   | none=>False
  | none=>False):=rfl
theorem enumS_alt:enumS E tb ops (.alt i t r) ⟨nt,σ,m,rn⟩ K=((match ops[i]? with
  | some o=>stpG tb ops o ⟨nt,σ,m,rn⟩ fun st'=>enumS E tb ops t st' K
  | none=>False)∧enumS E tb ops r ⟨nt,σ,m,rn⟩ K):=rfl
theorem enumS_alt1:enumS E tb ops (.alt i t .non) ⟨nt,σ,m,rn⟩ K=(match ops[i]? with
  | some o=>stpG tb ops o ⟨nt,σ,m,rn⟩ fun st'=>enumS E tb ops t st' K
  | none=>False):=by simp [enumS]
end
attribute [go_sem] enumS_done enumS_non enumS_fst enumS_alt1 enumS_alt
inductive Dag where
 | done
 | non
 | ref (n:Nat)
 | fst (i:Nat) (t:Dag)
 | alt (i:Nat) (t r:Dag)
def Dag.heads:Dag→List Nat
 | .alt i _ r=>i::r.heads
 | _=>[]
def Dag.isRef:Dag→Bool
 | .ref _=>true
 | _=>false
def sameL (n:Nat) (ls:List Nat) (listed:Array Bool):Bool:=listed.size == n && (List.range n).all fun i=>listed.getD i false == ls.contains i
def chkD (T:List (List Nat × Dag)) (ops:Array Oper):Dag→Bool→Array Bool→Bool
 | .done,top,listed=>top && (Region.ready .any ops listed).isEmpty
 | .non,top,_=>!top
 | .ref n,top,listed=>top && (match T[n]? with | some p=>sameL ops.size p.1 listed | none=>false)
 | .fst i t,top,listed=>top && ((match ops[i]? with | some o=>isY o | none=>false) && (Region.free .any ops listed i && ((Region.ready .any ops listed).contains i && chkD T ops t true (listed.setIfInBounds i true))))
 | .alt i t r,top,listed=>(!top || (Region.ready .any ops listed).all fun j=>(i::r.heads).contains j) && ((Region.ready .any ops listed).contains i && (chkD T ops t true (listed.setIfInBounds i true) && chkD T ops r false listed))
def ofL (n:Nat) (ls:List Nat):Array Bool:=((List.range n).map fun i=>ls.contains i).toArray
def enumD (E:En) (tb:Tb) (ops:List Oper) (F:Nat→St):Dag→St→(St→Prop)→Prop
 | .done,st,K=>K st
 | .non,_,_=>True
 | .ref n,st,_=>LeE E st (F n)
 | .fst i t,st,K=>match ops[i]? with
  | some o=>match dop tb.T tb.gl o.op st.ev (fun k=>lkm k st.m) with
   | some (c,r)=>c∧enumD E tb ops F t (st.put o.dst r) K
   | none=>False
  | none=>False
 | .alt i t r,st,K=>(match ops[i]? with
  | some o=>stpG tb ops o st fun st'=>enumD E tb ops F t st' K
  | none=>False)∧enumD E tb ops F r st K
def enumT (E:En) (tb:Tb) (ops:List Oper) (F:Nat→St) (K:St→Prop):Nat→List (List Nat × Dag)→Prop
 | _,[]=>True
 | n,(_,s)::T=>enumD E tb ops F s (F n) K∧enumT E tb ops F K (n + 1) T
theorem enumT_get {E:En} {tb:Tb} {ops:List Oper} {F:Nat→St} {K:St→Prop}:∀ {T:List (List Nat × Dag)} {k n:Nat} {p:List Nat × Dag},enumT E tb ops F K k T→T[n]? = some p→enumD E tb ops F p.2 (F (k + n)) K
 | [],_,n,p,_,h=>by simp at h
 | q::T,k,0,p,h,hp=>by obtain rfl:=Option.some.inj hp;exact h.1
 | q::T,k,n + 1,p,h,hp=>by
  have:=enumT_get (k:=k + 1) (n:=n) h.2 (by simpa using hp)
  rw [show k + (n + 1)=k + 1 + n by omega];exact this
def chkT (T:List (List Nat × Dag)) (ops:Array Oper):Bool:=T.all fun p=>!p.2.isRef && chkD T ops p.2 true (ofL ops.size p.1)
theorem sameL_eq {n:Nat} {ls:List Nat} {listed:Array Bool} (h:sameL n ls listed=true):listed=ofL n ls:=by
 simp only [sameL,Bool.and_eq_true,beq_iff_eq,List.all_eq_true,List.mem_range] at h
 obtain ⟨h1,h2⟩:=h
 apply Array.ext
 ·simp [ofL,h1]
 ·intro i hi _
  have:=h2 i (by omega)
  simp only [ofL]
  simp [hi] at this ⊢
  exact this
theorem rem_set {n:Nat} {i:Nat} {listed:Array Bool} (hi:i < n) (hs:listed.size=n) (hl:listed.getD i false=false):(remL (List.range n) (listed.setIfInBounds i true)).length + 1=(remL (List.range n) listed).length:=by
 obtain ⟨pre,post,hL⟩:=List.append_of_mem (List.mem_range.2 hi)
 have hnd:(List.range n).Nodup:=List.nodup_range
 rw [hL] at hnd
 have h1:i ∉ pre:=fun h=>(List.nodup_append.1 hnd).2.2 i h i (by simp) rfl
 have h2:i ∉ post:=(List.nodup_cons.1 (List.nodup_append.1 hnd).2.1).1
 rw [remL_set hL h1 h2 (by omega)]
 have:remL (List.range n) listed=remL pre listed++i::remL post listed:=by
  unfold remL
  rw [hL,List.filter_append,List.filter_cons,hl]
  rfl
 rw [this]
 simp
 omega
theorem heads_get {E:En} {tb:Tb} {ops:List Oper} {F:Nat→St} {T:List (List Nat × Dag)} {K:St→Prop} {listed:Array Bool} {st:St}:∀ {t:Dag} {top:Bool},chkD T ops.toArray t top listed=true→enumD E tb ops F t st K→∀ j ∈ t.heads,
  ∃ s o,chkD T ops.toArray s true (listed.setIfInBounds j true)=true∧(Region.ready .any ops.toArray listed).contains j=true∧ops[j]? = some o∧stpG tb ops o st fun st'=>enumD E tb ops F s st' K
 | .done,_,_,_,j,hj=>by cases hj
 | .non,_,_,_,j,hj=>by cases hj
 | .ref n,_,_,_,j,hj=>by cases hj
 | .fst i t,_,_,_,j,hj=>by cases hj
 | .alt i t r,top,hc,he,j,hj=>by
  simp only [chkD,Bool.and_eq_true] at hc
  obtain ⟨_,c2,c3,c4⟩:=hc
  simp only [enumD] at he
  rcases List.mem_cons.1 hj with rfl | hj
  ·cases ho:ops[j]? with
   | none=>rw [ho] at he;exact he.1.elim
   | some o =>
    rw [ho] at he
    exact ⟨t,o,c3,c2,rfl,he.1⟩
  ·exact heads_get c4 he.2 j hj
theorem any_okD {E:En} {tb:Tb} (hE:TbOk E tb) {ops:List Oper} (hsel:Region.noSelect ops.toArray=true) {K:St→Prop} {Q:Exit→Act→World→Prop} (hQ:∀ c a w,¬ Q (.panic c) a w) (hK:∀ st a w,R E st a w→K st→Q .normal a w)
  {T:List (List Nat × Dag)} {F:Nat→St} (hT:chkT T ops.toArray=true) (hF:enumT E tb ops F K 0 T) :
  ∀ (fuel:Nat) (t:Dag) (listed:Array Bool) (st:St) (a:Act) (w:World),listed.size=ops.length→(remL (List.range ops.length) listed).length≤fuel→chkD T ops.toArray t true listed=true→R E st a w→enumD E tb ops F t st K→wpAny E.P .any ops.toArray Q fuel listed a w:=by
 intro fuel
 induction fuel with
 | zero =>
  intro t listed st a w hsz hrem hc hr he
  have hrd:Region.ready .any ops.toArray listed=[]:=by
   rw [List.eq_nil_iff_forall_not_mem]
   intro i hi
   obtain ⟨h1,o,ho,_⟩:=mem_ready.1 hi
   have hlt:i < ops.length:=by simpa using (Array.getElem?_eq_some_iff.1 ho).1
   have:i ∈ remL (List.range ops.length) listed:=List.mem_filter.2 ⟨List.mem_range.2 hlt,by
    have h2:i < listed.size:=by omega
    simp [h2] at h1 ⊢;exact h1⟩
   have hnil:remL (List.range ops.length) listed=[]:=List.eq_nil_of_length_eq_zero (by omega)
   rw [hnil] at this;cases this
  have key:∀ (t:Dag),t.isRef=false→chkD T ops.toArray t true listed=true→∀ st,R E st a w→enumD E tb ops F t st K→Q .normal a w:=fun t ht hc st hr he=>by
   cases t with
   | done=>exact hK _ _ _ hr he
   | non=>simp [chkD] at hc
   | ref n=>cases ht
   | fst i t =>
    simp only [chkD,Bool.and_eq_true] at hc
    rw [hrd] at hc;simp at hc
   | alt i t r =>
    simp only [chkD,Bool.and_eq_true] at hc
    rw [hrd] at hc;simp at hc
  refine wpAny_done hrd ?_ 0
  cases ht:t.isRef with
  | false=>exact key t ht hc st hr he
  | true =>
   cases t<;>simp [Dag.isRef] at ht
   rename_i n
   simp only [chkD,Bool.true_and] at hc
   split at hc
   ·rename_i p hp
    have e:=sameL_eq hc
    have h2:=(List.all_eq_true.1 hT) p (List.mem_of_getElem? hp)
    simp only [Bool.and_eq_true,Bool.not_eq_true'] at h2
    have h3:=enumT_get hF hp
    rw [Nat.zero_add] at h3
    rw [← e] at h2
    exact key p.2 h2.1 h2.2 _ (he a w hr) h3
   ·cases hc
 | succ fuel ih =>
  intro t listed st a w hsz hrem hc hr he
  have key:∀ (t:Dag),t.isRef=false→chkD T ops.toArray t true listed=true→∀ st,R E st a w→enumD E tb ops F t st K→wpAny E.P .any ops.toArray Q (fuel + 1) listed a w:=fun t ht hc st hr he=>by
   have step:∀ i,(Region.ready .any ops.toArray listed).contains i=true→(listed.setIfInBounds i true).size=ops.length∧(remL (List.range ops.length) (listed.setIfInBounds i true)).length≤fuel:=fun i hi=>by
    obtain ⟨h1,o,ho,_⟩:=mem_ready.1 (by simpa using hi)
    have hlt:i < ops.length:=by simpa using (Array.getElem?_eq_some_iff.1 ho).1
    have h2:i < listed.size:=by omega
    have:=rem_set (n:=ops.length) hlt hsz (by simp [h2] at h1 ⊢;exact h1)
    exact ⟨by simpa using hsz,by omega⟩
   cases t with
   | done =>
    simp only [chkD,Bool.and_eq_true] at hc
    exact wpAny_done (by simpa using hc.2) (hK _ _ _ hr he) _
   | non=>simp [chkD] at hc
   | ref n=>cases ht
   | fst i t =>
    simp only [chkD,Bool.and_eq_true] at hc
    obtain ⟨_,c2,c3,c4,c5⟩:=hc
    simp only [enumD] at he
    simp only [List.getElem?_toArray] at c2
    cases ho:ops[i]? with
    | none=>rw [ho] at c2;cases c2
    | some o =>
     rw [ho] at c2 he
     simp only at c2 he
     cases hd:dop tb.T tb.gl o.op st.ev (fun k=>lkm k st.m) with
     | none=>rw [hd] at he;exact he.elim
     | some cr =>
      obtain ⟨cc,r⟩:=cr
      rw [hd] at he
      obtain ⟨he1,he2⟩:=he
      obtain ⟨v,k1,k2⟩:=ydet c2 hr hE.T (hgl_of hE hr) hd he1
      have hg:o.guard=none:=by simp only [isY,Bool.and_eq_true,Option.isNone_iff_eq_none] at c2;exact c2.1
      obtain ⟨s1,s2⟩:=step i c4
      exact wpAny_take (i:=i) (oi:=o) (v:=v) (by simp [ho]) hsel c3 c4 (fun c a w hp=>absurd hp (hQ _ _ _)) (.inl ⟨by simp [Region.wanted,hg],k1⟩)
       (ih t _ _ _ w s1 s2 c5 k2 he2)
   | alt i t r =>
    have hget:=heads_get hc he
    simp only [chkD,Bool.and_eq_true] at hc
    obtain ⟨c1,c2,_⟩:=hc
    refine ⟨fun h0=>(by rw [h0] at c2;cases c2),fun j hj=>?_⟩
    simp only [Bool.not_true,Bool.false_or] at c1
    have hh:j ∈ (Dag.alt i t r).heads:=by
     have:=(List.all_eq_true.1 c1) j hj
     simpa [Dag.heads] using this
    obtain ⟨s,o,d1,d2,d3,d4⟩:=hget j hh
    obtain ⟨s1,s2⟩:=step j d2
    have:=stpG_ok hE hr d4 (next:=wpAny E.P .any ops.toArray Q fuel (listed.setIfInBounds j true)) (Q:=Q) fun st' a' w' h' hk=>ih s _ st' a' w' s1 s2 d1 h' hk
    unfold wpOp
    simp only [List.getElem?_toArray,d3]
    split at this
    ·rename_i hw;rw [if_pos hw];exact .inl this
    ·rename_i hw;rw [if_neg hw];exact this
  cases ht:t.isRef with
  | false=>exact key t ht hc st hr he
  | true =>
   cases t<;>simp [Dag.isRef] at ht
   rename_i n
   simp only [chkD,Bool.true_and] at hc
   split at hc
   ·rename_i p hp
    have e:=sameL_eq hc
    have h2:=(List.all_eq_true.1 hT) p (List.mem_of_getElem? hp)
    simp only [Bool.and_eq_true,Bool.not_eq_true'] at h2
    have h3:=enumT_get hF hp
    rw [Nat.zero_add] at h3
    rw [← e] at h2
    exact key p.2 h2.1 h2.2 _ (he a w hr) h3
   ·cases hc
def chkDt (T:List (List Nat × Dag)) (t:Dag) (l:List Oper):Bool:=Region.noSelect l.toArray && (chkT T l.toArray && chkD T l.toArray t true (Array.replicate l.length false))
def nthS:List St→Nat→St
 | [],_=>⟨0,[],[],0⟩
 | s::_,0=>s
 | _::l,n + 1=>nthS l n
theorem nthS_zero {s:St} {l:List St}:nthS (s::l) 0=s:=rfl
theorem nthS_succ {s:St} {l:List St} {n:Nat}:nthS (s::l) (n + 1)=nthS l n:=rfl
theorem Aw_drawD {E:En} {tb:Tb} (hE:TbOk E tb) {id:Nat} {l:List Oper} {st:St} {Q:Exit→St→Prop} (T:List (List Nat × Dag)) (t:Dag) (F:List St) (L Lm:List Nat) (hck:chkDt T t l=true) (h:enumD E tb l (nthS F) t st (fun st'=>Q .normal (st'.keep L Lm))∧enumT E tb l (nthS F) (fun st'=>Q .normal (st'.keep L Lm)) 0 T):Aw E (.region id l.toArray true) st Q:=by
 intro a w hr
 refine Code.wp_mono (Q:=fun e a' w'=>e = .normal∧∃ st',R E st' a' w'∧Q .normal st') (fun e a' w' ⟨he,h⟩=>by subst he;exact h) ?_
 refine wp_region_any hE.mx ?_
 simp only [chkDt,Bool.and_eq_true] at hck
 obtain ⟨h1,h2,h3⟩:=hck
 refine any_okD hE h1 (K:=fun st'=>Q .normal (st'.keep L Lm)) (fun c a w h=>by cases h.1) (fun st' a' w' h2 h4=>⟨rfl,_,h2.keep L Lm,h4⟩) h2 h.2 _ t _ st a _ (by simp) ?_ (by simpa using h3) hr.drew h.1
 exact Nat.le_trans (List.length_filter_le ..) (by simp)
theorem Aw_sD {E:En} {tb:Tb} {st:St} {Q:Exit→St→Prop} (hE:TbOk E tb) {id:Nat} {l:List Oper} {y:Code} (T:List (List Nat × Dag)) (t:Dag) (F:List St) (L Lm:List Nat) (hck:chkDt T t l=true) (h:∀ K:St→Prop,(∀ st',Aw E y st' Q→K st')→enumD E tb l (nthS F) t st (fun st'=>K (st'.keep L Lm))∧enumT E tb l (nthS F) (fun st'=>K (st'.keep L Lm)) 0 T):Aw E (.seq (.region id l.toArray true) y) st Q :=
 Aw_seq (Aw_drawD hE T t F L Lm hck (h _ fun _ h=>h))
theorem Aw_tD {E:En} {tb:Tb} {st:St} {Q:Exit→St→Prop} (hE:TbOk E tb) {id:Nat} {l:List Oper} (T:List (List Nat × Dag)) (t:Dag) (F:List St) (L Lm:List Nat) (hck:chkDt T t l=true) (h:∀ K:St→Prop,(∀ st',Q .normal st'→K st')→enumD E tb l (nthS F) t st (fun st'=>K (st'.keep L Lm))∧enumT E tb l (nthS F) (fun st'=>K (st'.keep L Lm)) 0 T):Aw E (.region id l.toArray true) st Q :=
 Aw_drawD hE T t F L Lm hck (h _ fun _ h=>h)
section
variable {E:En} {tb:Tb} {ops:List Oper} {o:Oper} {t r:Dag} {i n:Nat} {st:St} {F:Nat→St} {K:St→Prop} {nt rn:Nat} {σ:List (Nat × AV)} {m:List (Nat × List AV)} {q:List Nat × Dag} {T:List (List Nat × Dag)}
theorem enumD_done:enumD E tb ops F .done st K=K st:=rfl
theorem enumD_non:enumD E tb ops F .non st K=True:=rfl
theorem enumD_ref:enumD E tb ops F (.ref n) st K=LeE E st (F n):=rfl
theorem enumD_fst:enumD E tb ops F (.fst i t) ⟨nt,σ,m,rn⟩ K=(match ops[i]? with
  | some o=>match dop tb.T tb.gl o.op (⟨nt,σ,m,rn⟩:St).ev (fun k=>lkm k m) with
   | some (c,r)=>c∧enumD E tb ops F t (St.put ⟨nt,σ,m,rn⟩ o.dst r) K
   | none=>False
  | none=>False):=rfl
theorem enumD_alt:enumD E tb ops F (.alt i t r) ⟨nt,σ,m,rn⟩ K=((match ops[i]? with
  | some o=>stpG tb ops o ⟨nt,σ,m,rn⟩ fun st'=>enumD E tb ops F t st' K
  | none=>False)∧enumD E tb ops F r ⟨nt,σ,m,rn⟩ K):=rfl
theorem enumD_alt1:enumD E tb ops F (.alt i t .non) ⟨nt,σ,m,rn⟩ K=(match ops[i]? with
  | some o=>stpG tb ops o ⟨nt,σ,m,rn⟩ fun st'=>enumD E tb ops F t st' K
  | none=>False):=by simp [enumD]
theorem LeE_wk {nt rn:Nat} {σ σ':List (Nat × AV)} {m m':List (Nat × List AV)} (hs:wkσ σ σ') (hm:wkm m m'):LeE E ⟨nt,σ,m,rn⟩ ⟨nt,σ',m',rn⟩:=fun a w r=>Le_wk (Nat.le_refl _) hs hm E a w r
end
attribute [go_sem] enumD_done enumD_non enumD_ref enumD_alt1 enumD_alt enumD_fst nthS_zero nthS_succ
def stpP (tb : Tb) (ops : List Oper) (o : Oper) (st : St) (K : St → Prop) : Prop :=
  match o.guard, o.op with
  | none, .binOp op t x (.const (.pointer none)) _ => (match ptrN (st.ev x), tyk t tb.T with
     | some b, some i => i.ptr = true ∧ (match nilR op b with | some r => K (st.put o.dst (.v (.bool r))) | none => False)
     | _, _ => False)
  | _, _ => stpG tb ops o st K
def aopsP (tb:Tb) (ops:List Oper):List Oper→St→(St→Prop)→Prop
 | [],st,K=>K st
 | o::l,st,K=>stpP tb ops o st fun st'=>aopsP tb ops l st' K
section
variable {tb:Tb} {ops:List Oper} {o:Oper} {l:List Oper} {K:St→Prop} {nt rn:Nat} {σ:List (Nat × AV)} {m:List (Nat × List AV)}
theorem aopsP_nil {st:St}:aopsP tb ops [] st K=K st:=rfl
theorem aopsP_mk:aopsP tb ops (o::l) ⟨nt,σ,m,rn⟩ K=stpP tb ops o ⟨nt,σ,m,rn⟩ fun st'=>aopsP tb ops l st' K:=rfl
end
attribute [go_sem] aopsP_nil aopsP_mk stpP ptrN nilR
variable {P:Program} {f:FuncId} {fn:Func} {body:Code} {T:List (TypeId × TyI)} {G:List (FuncId × Con)} {D:List (FuncId × DFn)} {nt:Nat} {rs:List ResultVar}
theorem fineM_ofN {C:ConM} (M:List ((TypeId × String) × FuncId)) (hM:MsOk P M) (MM:List (FuncId × (ConM × List (Nat × Nat) × List (Nat × Nat)))) (hMM:MMsOk P C.inv false MM) (X:List Nat) (EX:List (FuncId × ExG)) (hEX:ExsOk P EX) (hf:P.funcs[f]? = some fn) (hb:fn.body=some body) (hn:fn.ntmps=nt) (hr:fn.results.toList=rs) (hnm:(fn.name == "runtime.NumGoroutine")=false)
  (hm:P.follows .mixedOrders=true) (hT:TysOk P T) (hG:GsOk P C.inv false G) (hD:DsOk P C.inv false D)
  (h:∀ args m1,C.pre args m1→args.length≤nt∧∀ E:En,TbOk E { T:=T,G:=G,D:=D,draws:=false,lent:=true,M:=M,MM:=MM,X:=X,EX:=EX }→∀ Q:Exit→St→Prop,(∀ e st,retM T rs C args m1 e st→Q e st)→Aw E body (stM nt args m1) Q):FineM P f C :=
 ⟨⟨fn,hf,by rw [hb];rfl,hnm⟩,valid_ofM hf hb hT fun args m1 ha=>by
  obtain ⟨h1,h2⟩:=h args m1 ha
  subst hn;subst hr
  have hr:∀ w:World,w.grownBy w (if false=true then some 0 else none):=fun w=>⟨rfl,rfl,rfl,Nat.le_refl _,fun _ _ _=>rfl⟩
  exact ⟨h1,fun E hE hD' hi _=>h2 E ⟨by rw [hE];exact hT,fun p hp=>by rw [hE];exact (hG p hp).1,fun p hp=>by rw [hE];exact (hD p hp).1,fun p hp w hw=>(hG p hp).2 w w 0 (hi w (by rw [hD'] at hw;exact hw)) (hr w),fun p hp w hw=>(hD p hp).2 w w 0 (hi w (by rw [hD'] at hw;exact hw)) (hr w),hD',fun _ h=>(by cases h),fun h=>(by cases h),by rw [hE];exact hm,by rw [hE];exact hM,
   fun p hp=>⟨by rw [hE];exact (hMM p hp).1,(hMM p hp).2.1,fun w hw=>(hMM p hp).2.2 w w 0 (hi w (by rw [hD'] at hw;exact hw)) (hr w)⟩,by rw [hE];exact hEX,fun _ h=>(by cases h)⟩ _ (fun _ _ h=>h)⟩⟩
end Go.Eng
end
section
namespace Go.Proofs.W
open Go Go.Eng Go.RowKit
theorem sd0 {a b : Prop} (h : b) (ha : a := by first|omega|(and_intros<;>first|omega|exact rows_row _|exact wrows_row _|decide|(simp<;>omega))|fail) : a ∧ b := ⟨ha, h⟩
theorem Le_wa {nt rn rn' : Nat} {σ σ' : List (Nat × AV)} {m m' : List (Nat × List AV)} (h : rn ≤ rn' := by first | omega | (dsimp only;omega) | (simp only;omega) | (simp;omega)) (hs : wkσ σ σ' := by simp only [go_sem,seval]) (hm : wkm m m' := by simp only [go_sem,seval]) : Le ⟨nt, σ, m, rn⟩ ⟨nt, σ', m', rn'⟩ := Le_wk h hs hm
theorem dfn {p : Prop} [Decidable p] : decide p = false ↔ ¬p := decide_eq_false_iff_not
theorem dte {p : Prop} [Decidable p] : (decide p = true) = p := decide_eq_true_eq
theorem Le_wc {nt rn rn' : Nat} {σ σ' : List (Nat × AV)} {m m' : List (Nat × List AV)} (hs : wkσ σ σ') (hm : wkm m m') (h : rn ≤ rn' := by first | omega | (dsimp only;omega) | (simp only;omega) | (simp;omega)) : Le ⟨nt, σ, m, rn⟩ ⟨nt, σ', m', rn'⟩ := Le_wk h hs hm
theorem Le_wb {nt rn rn' : Nat} {σ σ' : List (Nat × AV)} {m m' : List (Nat × List AV)} (hs : wkσ σ σ') (h : rn ≤ rn' := by first | omega | (dsimp only;omega) | (simp only;omega) | (simp;omega)) (hm : wkm m m' := by simp only [go_sem,seval]) : Le ⟨nt, σ, m, rn⟩ ⟨nt, σ', m', rn'⟩ := Le_wk h hs hm
end Go.Proofs.W
end
