/- YtbjdeohccjmaiaaDoorEd: part of the proof that laws hold, for every input that the row speaks of (no condition of ours). -/
import Derived.Test.YtbjdeohccjmaiaaDoorEc
set_option linter.unusedVariables false
set_option linter.unusedSimpArgs false
section
namespace Go.Eng
open Go Go.RowKit
inductive Dag where
 | done
 | non
 | ref (n:Nat)
 | fst (i:Nat) (t:Dag)
 | alt (i:Nat) (t r:Dag)
def Dag.heads:Dag→List Nat
 | .alt i _ r=>i::r.heads
 | _=>[]
def Dag.isRef:Dag→Bool
 | .ref _=>true
 | _=>false
def sameL (n:Nat) (ls:List Nat) (listed:Array Bool):Bool:=listed.size == n && (List.range n).all fun i=>listed.getD i false == ls.contains i
def chkD (T:List (List Nat × Dag)) (ops:Array Oper):Dag→Bool→Array Bool→Bool
 | .done,top,listed=>top && (Region.ready .any ops listed).isEmpty
 | .non,top,_=>!top
 | .ref n,top,listed=>top && (match T[n]? with | some p=>sameL ops.size p.1 listed | none=>false)
 | .fst i t,top,listed=>top && ((match ops[i]? with | some o=>isY o | none=>false) && (Region.free .any ops listed i && ((Region.ready .any ops listed).contains i && chkD T ops t true (listed.setIfInBounds i true))))
 | .alt i t r,top,listed=>(!top || (Region.ready .any ops listed).all fun j=>(i::r.heads).contains j) && ((Region.ready .any ops listed).contains i && (chkD T ops t true (listed.setIfInBounds i true) && chkD T ops r false listed))
def ofL (n:Nat) (ls:List Nat):Array Bool:=((List.range n).map fun i=>ls.contains i).toArray
def enumD (E:En) (tb:Tb) (ops:List Oper) (F:Nat→St):Dag→St→(St→Prop)→Prop
 | .done,st,K=>K st
 | .non,_,_=>True
 | .ref n,st,_=>LeE E st (F n)
 | .fst i t,st,K=>match ops[i]? with
  | some o=>match dop tb.T tb.gl o.op st.ev (fun k=>lkm k st.m) with
   | some (c,r)=>c∧enumD E tb ops F t (st.put o.dst r) K
   | none=>False
  | none=>False
 | .alt i t r,st,K=>(match ops[i]? with
  | some o=>stpG tb ops o st fun st'=>enumD E tb ops F t st' K
  | none=>False)∧enumD E tb ops F r st K
def enumT (E:En) (tb:Tb) (ops:List Oper) (F:Nat→St) (K:St→Prop):Nat→List (List Nat × Dag)→Prop
 | _,[]=>True
 | n,(_,s)::T=>enumD E tb ops F s (F n) K∧enumT E tb ops F K (n + 1) T
theorem enumT_get {E:En} {tb:Tb} {ops:List Oper} {F:Nat→St} {K:St→Prop}:∀ {T:List (List Nat × Dag)} {k n:Nat} {p:List Nat × Dag},enumT E tb ops F K k T→T[n]? = some p→enumD E tb ops F p.2 (F (k + n)) K
 | [],_,n,p,_,h=>by simp at h
 | q::T,k,0,p,h,hp=>by obtain rfl:=Option.some.inj hp;exact h.1
 | q::T,k,n + 1,p,h,hp=>by
  have:=enumT_get (k:=k + 1) (n:=n) h.2 (by simpa using hp)
  rw [show k + (n + 1)=k + 1 + n by omega];exact this
def chkT (T:List (List Nat × Dag)) (ops:Array Oper):Bool:=T.all fun p=>!p.2.isRef && chkD T ops p.2 true (ofL ops.size p.1)
theorem sameL_eq {n:Nat} {ls:List Nat} {listed:Array Bool} (h:sameL n ls listed=true):listed=ofL n ls:=by
 simp only [sameL,Bool.and_eq_true,beq_iff_eq,List.all_eq_true,List.mem_range] at h
 obtain ⟨h1,h2⟩:=h
 apply Array.ext
 ·simp [ofL,h1]
 ·intro i hi _
  have:=h2 i (by omega)
  simp only [ofL]
  simp [hi] at this ⊢
  exact this
theorem rem_set {n:Nat} {i:Nat} {listed:Array Bool} (hi:i < n) (hs:listed.size=n) (hl:listed.getD i false=false):(remL (List.range n) (listed.setIfInBounds i true)).length + 1=(remL (List.range n) listed).length:=by
 obtain ⟨pre,post,hL⟩:=List.append_of_mem (List.mem_range.2 hi)
 have hnd:(List.range n).Nodup:=List.nodup_range
 rw [hL] at hnd
 have h1:i ∉ pre:=fun h=>(List.nodup_append.1 hnd).2.2 i h i (by simp) rfl
 have h2:i ∉ post:=(List.nodup_cons.1 (List.nodup_append.1 hnd).2.1).1
 rw [remL_set hL h1 h2 (by omega)]
 have:remL (List.range n) listed=remL pre listed++i::remL post listed:=by
  unfold remL
  rw [hL,List.filter_append,List.filter_cons,hl]
  rfl
 rw [this]
 simp
 omega
theorem heads_get {E:En} {tb:Tb} {ops:List Oper} {F:Nat→St} {T:List (List Nat × Dag)} {K:St→Prop} {listed:Array Bool} {st:St}:∀ {t:Dag} {top:Bool},chkD T ops.toArray t top listed=true→enumD E tb ops F t st K→∀ j ∈ t.heads,
  ∃ s o,chkD T ops.toArray s true (listed.setIfInBounds j true)=true∧(Region.ready .any ops.toArray listed).contains j=true∧ops[j]? = some o∧stpG tb ops o st fun st'=>enumD E tb ops F s st' K
 | .done,_,_,_,j,hj=>by cases hj
 | .non,_,_,_,j,hj=>by cases hj
 | .ref n,_,_,_,j,hj=>by cases hj
 | .fst i t,_,_,_,j,hj=>by cases hj
 | .alt i t r,top,hc,he,j,hj=>by
  simp only [chkD,Bool.and_eq_true] at hc
  obtain ⟨_,c2,c3,c4⟩:=hc
  simp only [enumD] at he
  rcases List.mem_cons.1 hj with rfl | hj
  ·cases ho:ops[j]? with
   | none=>rw [ho] at he;exact he.1.elim
   | some o =>
    rw [ho] at he
    exact ⟨t,o,c3,c2,rfl,he.1⟩
  ·exact heads_get c4 he.2 j hj
theorem any_okD {E:En} {tb:Tb} (hE:TbOk E tb) {ops:List Oper} (hsel:Region.noSelect ops.toArray=true) {K:St→Prop} {Q:Exit→Act→World→Prop} (hQ:∀ c a w,¬ Q (.panic c) a w) (hK:∀ st a w,R E st a w→K st→Q .normal a w)
  {T:List (List Nat × Dag)} {F:Nat→St} (hT:chkT T ops.toArray=true) (hF:enumT E tb ops F K 0 T) :
  ∀ (fuel:Nat) (t:Dag) (listed:Array Bool) (st:St) (a:Act) (w:World),listed.size=ops.length→(remL (List.range ops.length) listed).length≤fuel→chkD T ops.toArray t true listed=true→R E st a w→enumD E tb ops F t st K→wpAny E.P .any ops.toArray Q fuel listed a w:=by
 intro fuel
 induction fuel with
 | zero =>
  intro t listed st a w hsz hrem hc hr he
  have hrd:Region.ready .any ops.toArray listed=[]:=by
   rw [List.eq_nil_iff_forall_not_mem]
   intro i hi
   obtain ⟨h1,o,ho,_⟩:=mem_ready.1 hi
   have hlt:i < ops.length:=by simpa using (Array.getElem?_eq_some_iff.1 ho).1
   have:i ∈ remL (List.range ops.length) listed:=List.mem_filter.2 ⟨List.mem_range.2 hlt,by
    have h2:i < listed.size:=by omega
    simp [h2] at h1 ⊢;exact h1⟩
   have hnil:remL (List.range ops.length) listed=[]:=List.eq_nil_of_length_eq_zero (by omega)
   rw [hnil] at this;cases this
  have key:∀ (t:Dag),t.isRef=false→chkD T ops.toArray t true listed=true→∀ st,R E st a w→enumD E tb ops F t st K→Q .normal a w:=fun t ht hc st hr he=>by
   cases t with
   | done=>exact hK _ _ _ hr he
   | non=>simp [chkD] at hc
   | ref n=>cases ht
   | fst i t =>
    simp only [chkD,Bool.and_eq_true] at hc
    rw [hrd] at hc;simp at hc
   | alt i t r =>
    simp only [chkD,Bool.and_eq_true] at hc
    rw [hrd] at hc;simp at hc
  refine wpAny_done hrd ?_ 0
  cases ht:t.isRef with
  | false=>exact key t ht hc st hr he
  | true =>
   cases t<;>simp [Dag.isRef] at ht
   rename_i n
   simp only [chkD,Bool.true_and] at hc
   split at hc
   ·rename_i p hp
    have e:=sameL_eq hc
    have h2:=(List.all_eq_true.1 hT) p (List.mem_of_getElem? hp)
    simp only [Bool.and_eq_true,Bool.not_eq_true'] at h2
    have h3:=enumT_get hF hp
    rw [Nat.zero_add] at h3
    rw [← e] at h2
    exact key p.2 h2.1 h2.2 _ (he a w hr) h3
   ·cases hc
 | succ fuel ih =>
  intro t listed st a w hsz hrem hc hr he
  have key:∀ (t:Dag),t.isRef=false→chkD T ops.toArray t true listed=true→∀ st,R E st a w→enumD E tb ops F t st K→wpAny E.P .any ops.toArray Q (fuel + 1) listed a w:=fun t ht hc st hr he=>by
   have step:∀ i,(Region.ready .any ops.toArray listed).contains i=true→(listed.setIfInBounds i true).size=ops.length∧(remL (List.range ops.length) (listed.setIfInBounds i true)).length≤fuel:=fun i hi=>by
    obtain ⟨h1,o,ho,_⟩:=mem_ready.1 (by simpa using hi)
    have hlt:i < ops.length:=by simpa using (Array.getElem?_eq_some_iff.1 ho).1
    have h2:i < listed.size:=by omega
    have:=rem_set (n:=ops.length) hlt hsz (by simp [h2] at h1 ⊢;exact h1)
    exact ⟨by simpa using hsz,by omega⟩
   cases t with
   | done =>
    simp only [chkD,Bool.and_eq_true] at hc
    exact wpAny_done (by simpa using hc.2) (hK _ _ _ hr he) _
   | non=>simp [chkD] at hc
   | ref n=>cases ht
   | fst i t =>
    simp only [chkD,Bool.and_eq_true] at hc
    obtain ⟨_,c2,c3,c4,c5⟩:=hc
    simp only [enumD] at he
    simp only [List.getElem?_toArray] at c2
    cases ho:ops[i]? with
    | none=>rw [ho] at c2;cases c2
    | some o =>
     rw [ho] at c2 he
     simp only at c2 he
     cases hd:dop tb.T tb.gl o.op st.ev (fun k=>lkm k st.m) with
     | none=>rw [hd] at he;exact he.elim
     | some cr =>
      obtain ⟨cc,r⟩:=cr
      rw [hd] at he
      obtain ⟨he1,he2⟩:=he
      obtain ⟨v,k1,k2⟩:=ydet c2 hr hE.T (hgl_of hE hr) hd he1
      have hg:o.guard=none:=by simp only [isY,Bool.and_eq_true,Option.isNone_iff_eq_none] at c2;exact c2.1
      obtain ⟨s1,s2⟩:=step i c4
      exact wpAny_take (i:=i) (oi:=o) (v:=v) (by simp [ho]) hsel c3 c4 (fun c a w hp=>absurd hp (hQ _ _ _)) (.inl ⟨by simp [Region.wanted,hg],k1⟩)
       (ih t _ _ _ w s1 s2 c5 k2 he2)
   | alt i t r =>
    have hget:=heads_get hc he
    simp only [chkD,Bool.and_eq_true] at hc
    obtain ⟨c1,c2,_⟩:=hc
    refine ⟨fun h0=>(by rw [h0] at c2;cases c2),fun j hj=>?_⟩
    simp only [Bool.not_true,Bool.false_or] at c1
    have hh:j ∈ (Dag.alt i t r).heads:=by
     have:=(List.all_eq_true.1 c1) j hj
     simpa [Dag.heads] using this
    obtain ⟨s,o,d1,d2,d3,d4⟩:=hget j hh
    obtain ⟨s1,s2⟩:=step j d2
    have:=stpG_ok hE hr d4 (next:=wpAny E.P .any ops.toArray Q fuel (listed.setIfInBounds j true)) (Q:=Q) fun st' a' w' h' hk=>ih s _ st' a' w' s1 s2 d1 h' hk
    unfold wpOp
    simp only [List.getElem?_toArray,d3]
    split at this
    ·rename_i hw;rw [if_pos hw];exact .inl this
    ·rename_i hw;rw [if_neg hw];exact this
  cases ht:t.isRef with
  | false=>exact key t ht hc st hr he
  | true =>
   cases t<;>simp [Dag.isRef] at ht
   rename_i n
   simp only [chkD,Bool.true_and] at hc
   split at hc
   ·rename_i p hp
    have e:=sameL_eq hc
    have h2:=(List.all_eq_true.1 hT) p (List.mem_of_getElem? hp)
    simp only [Bool.and_eq_true,Bool.not_eq_true'] at h2
    have h3:=enumT_get hF hp
    rw [Nat.zero_add] at h3
    rw [← e] at h2
    exact key p.2 h2.1 h2.2 _ (he a w hr) h3
   ·cases hc
def chkDt (T:List (List Nat × Dag)) (t:Dag) (l:List Oper):Bool:=Region.noSelect l.toArray && (chkT T l.toArray && chkD T l.toArray t true (Array.replicate l.length false))
def nthS:List St→Nat→St
 | [],_=>⟨0,[],[],0⟩
 | s::_,0=>s
 | _::l,n + 1=>nthS l n
theorem nthS_zero {s:St} {l:List St}:nthS (s::l) 0=s:=rfl
theorem nthS_succ {s:St} {l:List St} {n:Nat}:nthS (s::l) (n + 1)=nthS l n:=rfl
theorem Aw_drawD {E:En} {tb:Tb} (hE:TbOk E tb) {id:Nat} {l:List Oper} {st:St} {Q:Exit→St→Prop} (T:List (List Nat × Dag)) (t:Dag) (F:List St) (L Lm:List Nat) (hck:chkDt T t l=true) (h:enumD E tb l (nthS F) t st (fun st'=>Q .normal (st'.keep L Lm))∧enumT E tb l (nthS F) (fun st'=>Q .normal (st'.keep L Lm)) 0 T):Aw E (.region id l.toArray true) st Q:=by
 intro a w hr
 refine Code.wp_mono (Q:=fun e a' w'=>e = .normal∧∃ st',R E st' a' w'∧Q .normal st') (fun e a' w' ⟨he,h⟩=>by subst he;exact h) ?_
 refine wp_region_any hE.mx ?_
 simp only [chkDt,Bool.and_eq_true] at hck
 obtain ⟨h1,h2,h3⟩:=hck
 refine any_okD hE h1 (K:=fun st'=>Q .normal (st'.keep L Lm)) (fun c a w h=>by cases h.1) (fun st' a' w' h2 h4=>⟨rfl,_,h2.keep L Lm,h4⟩) h2 h.2 _ t _ st a _ (by simp) ?_ (by simpa using h3) hr.drew h.1
 exact Nat.le_trans (List.length_filter_le ..) (by simp)
theorem Aw_tD {E:En} {tb:Tb} {st:St} {Q:Exit→St→Prop} (hE:TbOk E tb) {id:Nat} {l:List Oper} (T:List (List Nat × Dag)) (t:Dag) (F:List St) (L Lm:List Nat) (hck:chkDt T t l=true) (h:∀ K:St→Prop,(∀ st',Q .normal st'→K st')→enumD E tb l (nthS F) t st (fun st'=>K (st'.keep L Lm))∧enumT E tb l (nthS F) (fun st'=>K (st'.keep L Lm)) 0 T):Aw E (.region id l.toArray true) st Q :=
 Aw_drawD hE T t F L Lm hck (h _ fun _ h=>h)
section
variable {E:En} {tb:Tb} {ops:List Oper} {o:Oper} {t r:Dag} {i n:Nat} {st:St} {F:Nat→St} {K:St→Prop} {nt rn:Nat} {σ:List (Nat × AV)} {m:List (Nat × List AV)} {q:List Nat × Dag} {T:List (List Nat × Dag)}
theorem enumD_done:enumD E tb ops F .done st K=K st:=rfl
theorem enumD_non:enumD E tb ops F .non st K=True:=rfl
theorem enumD_ref:enumD E tb ops F (.ref n) st K=LeE E st (F n):=rfl
theorem enumD_fst:enumD E tb ops F (.fst i t) ⟨nt,σ,m,rn⟩ K=(match ops[i]? with
  | some o=>match dop tb.T tb.gl o.op (⟨nt,σ,m,rn⟩:St).ev (fun k=>lkm k m) with
   | some (c,r)=>c∧enumD E tb ops F t (St.put ⟨nt,σ,m,rn⟩ o.dst r) K
   | none=>False
  | none=>False):=rfl
theorem enumD_alt:enumD E tb ops F (.alt i t r) ⟨nt,σ,m,rn⟩ K=((match ops[i]? with
  | some o=>stpG tb ops o ⟨nt,σ,m,rn⟩ fun st'=>enumD E tb ops F t st' K
  | none=>False)∧enumD E tb ops F r ⟨nt,σ,m,rn⟩ K):=rfl
theorem enumD_alt1:enumD E tb ops F (.alt i t .non) ⟨nt,σ,m,rn⟩ K=(match ops[i]? with
  | some o=>stpG tb ops o ⟨nt,σ,m,rn⟩ fun st'=>enumD E tb ops F t st' K
  | none=>False):=by simp [enumD]
theorem LeE_wk {nt rn:Nat} {σ σ':List (Nat × AV)} {m m':List (Nat × List AV)} (hs:wkσ σ σ') (hm:wkm m m'):LeE E ⟨nt,σ,m,rn⟩ ⟨nt,σ',m',rn⟩:=fun a w r=>Le_wk (Nat.le_refl _) hs hm E a w r
end
attribute [go_sem] enumD_done enumD_non enumD_ref enumD_alt1 enumD_alt enumD_fst nthS_zero nthS_succ
def stpP (tb : Tb) (ops : List Oper) (o : Oper) (st : St) (K : St → Prop) : Prop :=
  match o.guard, o.op with
  | none, .binOp op t x (.const (.pointer none)) _ => (match ptrN (st.ev x), tyk t tb.T with
     | some b, some i => i.ptr = true ∧ (match nilR op b with | some r => K (st.put o.dst (.v (.bool r))) | none => False)
     | _, _ => False)
  | _, _ => stpG tb ops o st K
def aopsP (tb:Tb) (ops:List Oper):List Oper→St→(St→Prop)→Prop
 | [],st,K=>K st
 | o::l,st,K=>stpP tb ops o st fun st'=>aopsP tb ops l st' K
section
variable {tb:Tb} {ops:List Oper} {o:Oper} {l:List Oper} {K:St→Prop} {nt rn:Nat} {σ:List (Nat × AV)} {m:List (Nat × List AV)}
theorem aopsP_nil {st:St}:aopsP tb ops [] st K=K st:=rfl
theorem aopsP_mk:aopsP tb ops (o::l) ⟨nt,σ,m,rn⟩ K=stpP tb ops o ⟨nt,σ,m,rn⟩ fun st'=>aopsP tb ops l st' K:=rfl
end
attribute [go_sem] aopsP_nil aopsP_mk stpP ptrN nilR
variable {P:Program} {f:FuncId} {fn:Func} {body:Code} {T:List (TypeId × TyI)} {G:List (FuncId × Con)} {D:List (FuncId × DFn)} {nt:Nat} {rs:List ResultVar}
theorem fineM_ofN {C:ConM} (M:List ((TypeId × String) × FuncId)) (hM:MsOk P M) (MM:List (FuncId × (ConM × List (Nat × Nat) × List (Nat × Nat)))) (hMM:MMsOk P C.inv false MM) (X:List Nat) (EX:List (FuncId × ExG)) (hEX:ExsOk P EX) (hf:P.funcs[f]? = some fn) (hb:fn.body=some body) (hn:fn.ntmps=nt) (hr:fn.results.toList=rs) (hnm:(fn.name == "runtime.NumGoroutine")=false)
  (hm:P.follows .mixedOrders=true) (hT:TysOk P T) (hG:GsOk P C.inv false G) (hD:DsOk P C.inv false D)
  (h:∀ args m1,C.pre args m1→args.length≤nt∧∀ E:En,TbOk E { T:=T,G:=G,D:=D,draws:=false,lent:=true,M:=M,MM:=MM,X:=X,EX:=EX }→∀ Q:Exit→St→Prop,(∀ e st,retM T rs C args m1 e st→Q e st)→Aw E body (stM nt args m1) Q):FineM P f C :=
 ⟨⟨fn,hf,by rw [hb];rfl,hnm⟩,valid_ofM hf hb hT fun args m1 ha=>by
  obtain ⟨h1,h2⟩:=h args m1 ha
  subst hn;subst hr
  have hr:∀ w:World,w.grownBy w (if false=true then some 0 else none):=fun w=>⟨rfl,rfl,rfl,Nat.le_refl _,fun _ _ _=>rfl⟩
  exact ⟨h1,fun E hE hD' hi _=>h2 E ⟨by rw [hE];exact hT,fun p hp=>by rw [hE];exact (hG p hp).1,fun p hp=>by rw [hE];exact (hD p hp).1,fun p hp w hw=>(hG p hp).2 w w 0 (hi w (by rw [hD'] at hw;exact hw)) (hr w),fun p hp w hw=>(hD p hp).2 w w 0 (hi w (by rw [hD'] at hw;exact hw)) (hr w),hD',fun _ h=>(by cases h),fun h=>(by cases h),by rw [hE];exact hm,by rw [hE];exact hM,
   fun p hp=>⟨by rw [hE];exact (hMM p hp).1,(hMM p hp).2.1,fun w hw=>(hMM p hp).2.2 w w 0 (hi w (by rw [hD'] at hw;exact hw)) (hr w)⟩,by rw [hE];exact hEX,fun _ h=>(by cases h)⟩ _ (fun _ _ h=>h)⟩⟩
end Go.Eng
end
section
namespace Go.Eng
open Go Go.RowKit
def op1 (k:Nat):Option Nat:=if k < 920 then some (k + 1000) else none
theorem op1_some {k k':Nat} (h:op1 k=some k'):k < 920∧k'=k + 1000:=by
 unfold op1 at h
 split at h
 ·exact ⟨by assumption,(Option.some.inj h).symm⟩
 ·cases h
def opσ:List (Nat × AV)→List (Nat × AV)
 | []=>[]
 | (y,v)::l=>(y,v.mvn op1)::opσ l
def opm:List (Nat × List AV)→List (Nat × List AV)
 | []=>[]
 | (y,v)::l=>(y + 1000,AV.mvnAll op1 v)::opm l
theorem lk_op (x:Nat) (l:List (Nat × AV)):lk x (opσ l)=(lk x l).mvn op1:=by
 induction l with
 | nil=>rfl
 | cons p l ih=>obtain ⟨y,v⟩:=p;simp only [opσ,lk];split<;>simp [ih]
theorem lkm_op {x:Nat} {ls:List AV}:∀ {l:List (Nat × List AV)},lkm x (opm l)=some ls→∃ k ls0,x=k + 1000∧lkm k l=some ls0∧ls=AV.mvnAll op1 ls0
 | [],h=>by cases h
 | (y,v)::l,h=>by
  simp only [opm,lkm] at h
  split at h
  ·rename_i e
   exact ⟨y,v,e,by simp [lkm],(Option.some.inj h).symm⟩
  ·rename_i e
   obtain ⟨k,ls0,h1,h2,h3⟩:=lkm_op h
   have hne:¬ k=y:=fun e2=>e (by omega)
   exact ⟨k,ls0,h1,by simp only [lkm];rw [if_neg hne];exact h2,h3⟩
theorem lkm_names {x:Nat} {ls:List AV}:∀ {l:List (Nat × List AV)},lkm x l=some ls→x ∈ l.map (·.1)
 | [],h=>by cases h
 | (y,v)::l,h=>by
  simp only [lkm] at h
  split at h
  ·rename_i e;simp [e]
  ·have:=lkm_names h;simp at this ⊢;exact .inr this
def St.openedX (st:St) (d:Nat):St:=St.put { nt:=st.nt,σ:=opσ st.σ,m:=opm st.m,rn:=0 } (some d) .rd
theorem R.openedX {E : En} {st : St} {a : Act} {w : World} (h : R E st a w) {v : Value} {bs : List Nat} (hbs : ∀ b ∈ bs, b < 256) {x : Operand} (hx : (st.ev x).er = .sl none (byteRows bs)) (hv : a.eval x = v) (hsm : ∀ k ∈ st.m.map (·.1), k < 920)
    {F : FuncId} (hF : ∀ w v, BytesAt w v → Calls E.P F #[v] w (Opened v w)) :
    Calls E.P F #[v] w fun e w' => ∃ u, e = .returned u ∧ w.grownBy w' none ∧ ∃ E' : En, E'.P = E.P ∧ E'.draws = true ∧ E'.w0 = w' ∧ (∀ b, E'.L b → E.w0.heap.size ≤ b ∨ E.L b) ∧ E.w0.heap.size ≤ E'.g ∧ (∀ b o, E'.S0 b o → E.w0.heap.size ≤ b ∨ E.S0 b o) ∧
      (∀ b, E'.L b → ∃ d ∈ (opm st.m).map (·.1), 1000 ≤ d ∧ E'.b0 d = b) ∧ ∀ d, d < st.nt → R E' (st.openedX d) (a.put (some d) u) w' := by
  obtain ⟨c, rfl, G, hσ, hnt, had⟩ := h
  have hrx : Rd c (.sl none (byteRows bs)) v := by
    have := (R.ev (c := c) (st := st) (a := a) hσ x).er (c := c) (c' := c) (Keeps.same (fun _ _ h => h) fun _ _ _ => rfl) rfl
    rw [hx, hv] at this; exact this
  have hrd : RdD c.w c.S (.sl (byteRows bs)) v := by
    cases hrx with
    | sl _ _ _ h _ => exact h
  obtain ⟨hb1, hb2⟩ := bytesAt_of hbs hrd
  refine (hF c.w v hb1).mono ?_
  rintro e w' ⟨g, bv, rfl, hgr, hg, hrk, hbv⟩
  refine ⟨_, rfl, hgr, ?_⟩
  let L : Nat → Prop := fun b => ∃ d ls, lkm d st.m = some ls ∧ c.β d = b
  let β' : Nat → Nat := fun k => c.β (k - 1000)
  let E' : En := { P := E.P, w0 := w', draws := true, g := g, bv := bv, S0 := c.S, L := L, b0 := β' }
  have hold : ∀ k, k < c.w.heap.size → w'.heap[k]? = c.w.heap[k]? := fun k hk => hgr.block k hk (by simp)
  have hle := G.hle
  have hk : Keeps c.w c.S w' c.S := keeps_of_lt (fun _ _ h => h) fun b o _ hb => hold b hb
  refine ⟨E', rfl, rfl, rfl, ?_, by show _ ≤ g; omega, fun b o h => G.sS b o h, ?_, fun d hdn => ?_⟩
  · rintro b ⟨d, ls, hl, rfl⟩
    exact (G.box d ls hl).lt.1
  · rintro b ⟨d, ls, hl, rfl⟩
    refine ⟨d + 1000, ?_, by omega, by show c.β (d + 1000 - 1000) = _; rw [Nat.add_sub_cancel]⟩
    have hm := lkm_names hl
    have : ∀ l : List (Nat × List AV), d ∈ l.map (·.1) → d + 1000 ∈ (opm l).map (·.1) := by
      intro l
      induction l with
      | nil => intro h; simp at h
      | cons p l ih =>
        obtain ⟨y, v⟩ := p
        intro h
        rw [List.map_cons, List.mem_cons] at h
        simp only [opm, List.map_cons, List.mem_cons]
        rcases h with h | h
        · exact .inl (by have : d = y := h; omega)
        · exact .inr (ih h)
    exact this _ hm
  let c' : Gh := { w := w', S := c.S, β := β', tv := fun _ _ => .slice none 0 0, te := fun _ _ => 0, g := g }
  have hst : ∀ {x v}, Rd c x v → Rd c' (x.mvn op1) v := fun h => h.mvn (c' := c') op1 hk fun k k' e => by
    obtain ⟨h1, rfl⟩ := op1_some e
    refine ⟨by show c.β (k + 1000 - 1000) = _; rw [Nat.add_sub_cancel], ?_⟩
    unfold bk
    rw [if_neg (by omega), if_neg (by omega), if_neg (by omega), if_neg (by omega)]
  have G' : Good E' (opm st.m) 0 c' := by
    refine { bl := fun _ _ => rfl, cg := rfl, fr := ⟨rfl, rfl, rfl, Nat.le_refl _, fun _ _ _ _ => rfl⟩, lx := fun _ b hb => ?_, sx := fun b o h => ?_, s1 := fun b o v hS hv => s1_keep G hk hS hv, sS := fun _ _ h => .inr h, sg := fun _ o h => ?_, box := fun k ls hl => ?_,
              boxinj := fun k k' l l' h1 h2 he => ?_, tok := fun _ _ => .inl rfl, toktok := fun _ _ _ _ b hb => by simp [c', Value.ownBlock] at hb, tokbox := fun _ _ b _ _ hb => by simp [c', Value.ownBlock] at hb, rk := fun _ => hrk }
    · obtain ⟨k, ls, hl, rfl⟩ := hb
      have := (G.box k ls hl).lt.2
      refine ⟨fun e => by have e' : c.β k = g := e; omega, fun h => ?_⟩
      obtain ⟨o, ho⟩ := hb2 _ (hbv _ h)
      obtain ⟨_, _, _, _, _, _, h5⟩ := G.box k ls hl
      exact h5 o ho
    · exact hk.lk h (G.sx b o h)
    · have := G.slt (b := g) h; omega
    · obtain ⟨k0, ls0, rfl, hl0, rfl⟩ := lkm_op hl
      have hk0 := hsm k0 (lkm_names hl0)
      have hb := (G.box k0 ls0 hl0).lt
      have hbk : bk k0 = 0 := by unfold bk; rw [if_neg (by omega), if_neg (by omega)]
      have hbk' : bk (k0 + 1000) = 0 := by unfold bk; rw [if_neg (by omega), if_neg (by omega)]
      obtain ⟨cs, T, b1, b2, b3, b4, b5⟩ := (G.box k0 ls0 hl0).cells hbk
      have hβ : c'.β (k0 + 1000) = c.β k0 := by show c.β (k0 + 1000 - 1000) = _; rw [Nat.add_sub_cancel]
      refine ⟨cs, ⟨_, .cells _ cs T hbk'⟩, .inr ⟨k0, ls0, hl0, hβ.symm⟩, ?_, by simpa [mvnAll_eq] using b3, fun j x hx => ?_, fun o => ?_⟩
      · show w'.heap[c'.β (k0 + 1000)]? = _
        rw [hβ]; exact (hold _ hb.2).trans b2
      · rw [mvnAll_eq, List.getElem?_map, Option.map_eq_some_iff] at hx
        obtain ⟨y, hy, rfl⟩ := hx
        exact hst (b4 j y hy)
      · rw [hβ]; exact b5 o
    · obtain ⟨k1, l1, rfl, h1, _⟩ := lkm_op h1
      obtain ⟨k2, l2, rfl, h2, _⟩ := lkm_op h2
      have he : c.β (k1 + 1000 - 1000) = c.β (k2 + 1000 - 1000) := he
      rw [Nat.add_sub_cancel, Nat.add_sub_cancel] at he
      rw [G.boxinj k1 k2 _ _ h1 h2 he]
  exact R.put (st := { nt := st.nt, σ := opσ st.σ, m := opm st.m, rn := 0 }) (c := c') rfl G' (fun x => by rw [lk_op]; exact hst (hσ x)) hnt had .rd
theorem LeE_frzL {E:En} {tb:Tb} (hE:TbOk E tb) {st:St} (d n:Nat) {ls:List AV} (hl:lkm d st.m=some ls) (hf:frzOk tb d st.m) {ys:List DV} (hy:DV.ofAll (ls.take n)=some ys) (hk0:bk d=0:=by decide):LeE E st (st.frz d ys):=fun _ _ h=>h.frzN hk0 (frzOk_ok hE hl hf) hl hy
attribute [go_sem] op1 opσ opm St.openedX
def RC (E:En) (st:St) (a:Act) (c:Gh):Prop:=Good E st.m st.rn c∧(∀ x,Rd c (lk x st.σ) (a.tmps.getD x undef))∧a.tmps.size=st.nt∧a.defers=[]
theorem RC.r {E:En} {st:St} {a:Act} {c:Gh} (h:RC E st a c):R E st a c.w:=⟨c,rfl,h.1,h.2.1,h.2.2.1,h.2.2.2⟩
theorem R.rc {E:En} {st:St} {a:Act} {w:World} (h:R E st a w):∃ c,c.w=w∧RC E st a c:=by
 obtain ⟨c,h1,h2,h3,h4,h5⟩:=h
 exact ⟨c,h1,h2,h3,h4,h5⟩
def Ax (P:Program) (E:En) (c:Code) (st:St) (Q:Exit→Act→World→Prop):Prop:=E.P=P→∀ a w,R E st a w→c.wp P Q a w
def AQ (P:Program) (E:En) (Q:Exit→Act→World→Prop) (e:Exit) (st:St):Prop:=E.P=P→∀ a w,R E st a w→Q e a w
section
variable {P:Program} {E:En} {tb:Tb} {st:St} {Q:Exit→Act→World→Prop}
theorem Ax_sq {x y:Code} (h:∀ B:Exit→Act→World→Prop,(∀ {E':En} (st':St),Ax P E' y st' Q→AQ P E' B .normal st')→(∀ {E':En} (st':St),AQ P E' Q .ret st'→AQ P E' B .ret st')→(∀ {E':En} (k:Nat) (st':St),AQ P E' Q (.exit k) st'→AQ P E' B (.exit k) st')→Ax P E x st B):Ax P E (.seq x y) st Q :=
 fun e a w hr=>wp_seq (h (Exit.then (y.wp P Q) Q) (fun _ h e a w hr=>h e a w hr) (fun _ h e a w hr=>h e a w hr) (fun _ _ h e a w hr=>h e a w hr) e a w hr)
theorem Ax_st (hE:TbOk E tb) {id:Nat} {l:List Oper} {y:Code} (L Lm:List Nat) (h:∀ K:St→Prop,(∀ st',Ax P E y st' Q→K st')→aops tb l l st fun st'=>K (st'.keep L Lm)):Ax P E (.seq (.region id l.toArray false) y) st Q:=by
 rintro rfl a w hr
 exact wp_seq (wp_region_lit (aops_ok hE (K:=fun st'=>Ax E.P E y (st'.keep L Lm) Q) (fun st' a w hr hk=>hk rfl a w (hr.keep L Lm)) l st a w hr (h (fun st'=>Ax E.P E y st' Q) fun _ h=>h)))
theorem Ax_tx (hE:TbOk E tb) {id:Nat} {l:List Oper} (L Lm:List Nat) (h:∀ K:St→Prop,(∀ st',AQ P E Q .normal st'→K st')→aops tb l l st fun st'=>K (st'.keep L Lm)):Ax P E (.region id l.toArray false) st Q:=by
 rintro rfl a w hr
 exact wp_region_lit (aops_ok hE (K:=fun st'=>AQ E.P E Q .normal (st'.keep L Lm)) (fun st' a w hr hk=>hk rfl a w (hr.keep L Lm)) l st a w hr (h (fun st'=>AQ E.P E Q .normal st') fun _ h=>h))
theorem Ax_cond {c:Operand} {x y:Code} {b:Bool} (hc:st.ev c = .v (.bool b)) (hx:b=true→Ax P E x st Q) (hy:b=false→Ax P E y st Q):Ax P E (.cond c x y) st Q:=by
 intro e a w hr
 have hv:a.eval c = .bool b:=by
  obtain ⟨_,_,_,_,_,_,h6⟩:=hr.get c
  rw [hc] at h6;generalize a.eval c=u at h6;cases h6;rfl
 exact wp_cond_split hv (fun e'=>hx e' e a w hr) (fun e'=>hy e' e a w hr)
theorem Ax_yes {c:Operand} {x y:Code} (hc:st.ev c = .v (.bool true)) (h:Ax P E x st Q):Ax P E (.cond c x y) st Q:=Ax_cond hc (fun _=>h) (fun e=>by cases e)
theorem Ax_no {c:Operand} {x y:Code} (hc:st.ev c = .v (.bool false)) (h:Ax P E y st Q):Ax P E (.cond c x y) st Q:=Ax_cond hc (fun e=>by cases e) (fun _=>h)
theorem Ax_skip (h:AQ P E Q .normal st):Ax P E .skip st Q:=fun e a w hr=>wp_skip (h e a w hr)
theorem Ax_ret (h:AQ P E Q .ret st):Ax P E .ret st Q:=fun e a w hr=>wp_ret (h e a w hr)
theorem Ax_exit {id:Nat} (h:AQ P E Q (.exit id) st):Ax P E (.exit id) st Q:=fun e a w hr=>wp_exit (h e a w hr)
theorem Ax_bk {id:Nat} {c:Code} (h:∀ B:Exit→Act→World→Prop,(∀ {E':En} (st':St),AQ P E' Q .normal st'→AQ P E' B .normal st')→(∀ {E':En} (st':St),AQ P E' Q .normal st'→AQ P E' B (.exit id) st')→(∀ {E':En} (st':St),AQ P E' Q .ret st'→AQ P E' B .ret st')→(∀ {E':En} (k:Nat) (st':St),k≠id→AQ P E' Q (.exit k) st'→AQ P E' B (.exit k) st')→Ax P E c st B):Ax P E (.block id c) st Q:=by
 intro e a w hr
 refine wp_block (h (fun e a w=>Exit.inBlock id Q e a w) (fun st' h e a w hr=>h e a w hr) (fun st' h e a w hr=>?_) (fun st' h e a w hr=>h e a w hr) (fun k st' hk h e a w hr=>?_) e a w hr)
 ·simp only [Exit.inBlock,if_true];exact h e a w hr
 ·simp only [Exit.inBlock,if_neg hk];exact h e a w hr
theorem Ax_lpI {c:Code} {ι:Type} (I:ι→Act→World→Prop) (μ:ι→Nat) (i0:ι) (h0:E.P=P→∀ a w,R E st a w→I i0 a w)
  (hs:∀ i a w,I i a w→∀ B:Exit→Act→World→Prop,(∀ j a w,μ j < μ i→I j a w→B .normal a w)→(∀ {E':En} (st':St),AQ P E' Q .ret st'→AQ P E' B .ret st')→(∀ {E':En} (k:Nat) (st':St),AQ P E' Q (.exit k) st'→AQ P E' B (.exit k) st')→c.wp P B a w):Ax P E (.loop c) st Q:=by
 intro e a w hr
 refine wp_loop_ghost (fun n a w=>∃ i,μ i=n∧I i a w) (μ i0) ⟨i0,rfl,h0 e a w hr⟩ ?_
 intro n a w ⟨i,hμ,hi⟩
 refine hs i a w hi (Exit.then (fun a' w'=>∃ n',n' < n∧∃ i,μ i=n'∧I i a' w') Q) (fun j a w hlt hj=>⟨μ j,by omega,j,rfl,hj⟩) (fun _ h e a w hr=>h e a w hr) (fun _ _ h e a w hr=>h e a w hr)
theorem Ax_lp {c:Code} {ι:Type} (F:ι→St) (p:ι→Prop) (μ:ι→Nat) (i0:ι) (h0:Le st (F i0)) (hp:p i0)
  (hs:∀ i,p i→∀ B:Exit→Act→World→Prop,(∀ (j:ι) (st':St),p j→μ j < μ i→Le st' (F j)→AQ P E B .normal st')→(∀ {E':En} (st':St),AQ P E' Q .ret st'→AQ P E' B .ret st')→(∀ {E':En} (k:Nat) (st':St),AQ P E' Q (.exit k) st'→AQ P E' B (.exit k) st')→Ax P E c (F i) B):Ax P E (.loop c) st Q:=by
 intro e
 exact Ax_lpI (fun i a w=>p i∧R E (F i) a w) μ i0 (fun _ a w hr=>⟨hp,h0 E a w hr⟩) (fun i a w ⟨hi,hr⟩ B hN hR hX=>hs i hi B (fun j st' hj hlt hle _ a w hr=>hN j a w hlt ⟨hj,hle E a w hr⟩) hR hX e a w hr) e
theorem Ax.leE {c:Code} {st':St} (hl:LeE E st st') (h:Ax P E c st' Q):Ax P E c st Q:=fun e a w hr=>h e a w (hl a w hr)
theorem Ax.le {c:Code} {st':St} (hl:Le st st') (h:Ax P E c st' Q):Ax P E c st Q:=fun e a w hr=>h e a w (hl E a w hr)
theorem aops_ok2 (hE:TbOk E tb) {ops l2:List Oper} {K:St→Prop} (hK:∀ st a w,R E st a w→K st→wpList E.P ops.toArray Q l2 a w):∀ (l:List Oper) (st:St) (a:Act) (w:World),R E st a w→aops tb ops l st K→wpList E.P ops.toArray Q (l++l2) a w
 | [],st,a,w,h,hk=>hK st a w h hk
 | o::l,st,a,w,h,hs=>by
  have:=stpG_ok hE h hs (next:=wpList E.P ops.toArray Q (l++l2)) (Q:=Q) fun st' a' w' h' hk=>aops_ok2 hE hK l st' a' w' h' hk
  rw [List.cons_append]
  unfold wpList
  split at this
  ·rename_i hw;rw [if_pos hw];exact .inl this
  ·rename_i hw;rw [if_neg hw];exact this
def SpQ (P:Program) (l dl:List Oper) (N:Exit→Act→World→Prop) (a:Act) (w:World):Prop:=wpList P l.toArray N dl a w
theorem Ax_spt (hE:TbOk E tb) (k:Nat) {id:Nat} {l:List Oper} (h:∀ K:St→Prop,(∀ st',(∀ a w,R E st' a w→SpQ P l (l.drop k) Q a w)→K st')→aops tb l (l.take k) st K):Ax P E (.region id l.toArray false) st Q:=by
 rintro rfl a w hr
 refine wp_region_lit ?_
 have:=aops_ok2 (Q:=Q) hE (l2:=l.drop k) (K:=fun st1=>∀ a w,R E st1 a w→SpQ E.P l (l.drop k) Q a w) (ops:=l) (fun st a w hr hk=>hk a w hr) (l.take k) st a w hr (h _ fun _ h=>h)
 rwa [List.take_append_drop] at this
theorem Ax_sp (hE:TbOk E tb) (k:Nat) {id:Nat} {l:List Oper} {rest:Code} (h:∀ K:St→Prop,(∀ st',(∀ a w,R E st' a w→SpQ P l (l.drop k) (Exit.then (rest.wp P Q) Q) a w)→K st')→aops tb l (l.take k) st K):Ax P E (.seq (.region id l.toArray false) rest) st Q :=
 fun e a w hr=>wp_seq (Ax_spt hE k h e a w hr)
theorem sp_call {l l2:List Oper} {o:Oper} {N:Exit→Act→World→Prop} {a:Act} {w:World} {f:FuncId} {args:Array Operand} {ats:Array TypeId} (ho:o.op = .call { callee:=.value (.func f),args:=args,argTypes:=ats }) (hg:o.guard=none) (hc:Callable P f)
  (h:Calls P f (args.map a.eval) w fun e w'=>∃ u,e = .returned u∧SpQ P l l2 N (a.put o.dst u) w'):SpQ P l (o::l2) N a w:=by
 unfold SpQ at *
 rw [wpList,if_pos (by simp [Region.wanted,hg])]
 refine .inl ?_
 obtain ⟨fn,f1,f2,f3⟩:=hc
 unfold Oper.wp
 have hr:(execOp a.eval o).run P w = .ok (.enter f (args.map a.eval)) w:=by
  unfold execOp;rw [ho]
  simp only [Sem.run_bind,resolve,Act.eval,Deferred.ofValue,Sem.run_pure,Result.andThen_ok,invoke,callFunc,run_program]
  simp only [Array.empty_append,Array.append_empty,f1,f2,f3,Bool.false_eq_true,if_false,Sem.run_pure]
 rw [hr]
 refine Calls.mono h ?_
 rintro e w' ⟨u,rfl,h⟩
 exact h
theorem sp_go (hE:TbOk E tb) (hP:E.P=P) {l l2:List Oper} {N:Exit→Act→World→Prop} {a:Act} {w:World} (hR:R E st a w) (h:aops tb l l2 st fun st'=>AQ P E N .normal st'):SpQ P l l2 N a w:=by
 subst hP
 exact aops_ok hE (K:=fun st'=>AQ E.P E N .normal st') (fun st' a w hr hk=>hk rfl a w hr) l2 st a w hR h
theorem Ax.run {c:Code} {a:Act} {w:World} (h:Ax P E c st Q) (hP:E.P=P) (hr:R E st a w):c.wp P Q a w:=h hP a w hr
end
def reE (E:En) (st:St) (c:Gh):En:={ P:=E.P,w0:=c.w,draws:=false,g:=c.g,bv:=.nilIface,S0:=c.S,L:=fun b=>∃ d ls,lkm d st.m=some ls∧c.β d=b,b0:=c.β }
def St.re (st:St):St:=⟨st.nt,ntσ st.σ,ntm st.m,0⟩
def Gh.re (c:Gh):Gh:={ c with tv:=fun _ _=>.slice none 0 0,te:=fun _ _=>0 }
theorem RC.re {E : En} {st : St} {a : Act} {c : Gh} (h : RC E st a c) : RC (reE E st c) st.re a c.re := by
  obtain ⟨G, h3, h4, h5⟩ := h
  have hk : Keeps c.w c.S c.re.w c.re.S := Keeps.same (fun _ _ h => h) fun _ _ _ => rfl
  refine ⟨?_, fun x => ?_, h4, h5⟩
  · refine { bl := fun _ _ => rfl, cg := rfl, fr := ⟨rfl, rfl, rfl, Nat.le_refl _, fun _ _ _ _ => rfl⟩, lx := fun h => (by cases h), sx := G.sx, s1 := G.s1, sS := fun _ _ h => .inr h, sg := fun h => (by cases h), box := fun d ls hl => ?_, boxinj := fun d d' l l' h1 h2 he => ?_,
             tok := fun _ _ => .inl rfl, toktok := fun _ _ _ _ b hb => by simp [Gh.re, Value.ownBlock] at hb, tokbox := fun _ _ b _ _ hb => by simp [Gh.re, Value.ownBlock] at hb, rk := fun h => by cases h }
    · simp only [St.re] at hl
      rw [lkm_nt, Option.map_eq_some_iff] at hl
      obtain ⟨l0, h0, rfl⟩ := hl
      obtain ⟨cs, T, b1, b2, b3, b4, b5⟩ := G.box d l0 h0
      refine ⟨cs, T, .inr ⟨d, l0, h0, rfl⟩, b2, by rw [ntAll_eq, List.length_map]; exact b3, fun j x hx => ?_, b5⟩
      rw [ntAll_eq, List.getElem?_map, Option.map_eq_some_iff] at hx
      obtain ⟨y, hy, rfl⟩ := hx
      exact (b4 j y hy).nt hk rfl
    · simp only [St.re] at h1 h2
      rw [lkm_nt, Option.map_eq_some_iff] at h1 h2
      obtain ⟨l1, h1, _⟩ := h1
      obtain ⟨l2, h2, _⟩ := h2
      exact G.boxinj d d' l1 l2 h1 h2 he
  · simp only [St.re, lk_nt]; exact (h3 x).nt hk rfl
theorem RC.back {E : En} {st st' : St} {a a' : Act} {c c' : Gh} (h : RC E st a c) (hd : E.draws = false) (h' : RC (reE E st c) st' a' c') : RC E st' a' c' := by
  obtain ⟨G, _, _, _⟩ := h
  obtain ⟨G', h3, h4, h5⟩ := h'
  have hle := G.hle
  have hL : ∀ b, (reE E st c).L b → E.w0.heap.size ≤ b ∨ E.L b := fun b ⟨d, ls, hl, e⟩ => by subst e; exact (G.box d ls hl).lt.1
  refine ⟨?_, h3, h4, h5⟩
  refine { bl := fun k hk => (G'.bl k hk).trans (G.bl k hk), cg := G'.cg.trans G.cg, fr := ?_, lx := fun h => (by rw [hd] at h; cases h), sx := G'.sx, s1 := G'.s1, sS := fun b o hS => ?_, sg := fun h => (by rw [hd] at h; cases h), box := fun d ls hl => ?_, boxinj := G'.boxinj,
           tok := fun d j => ?_, toktok := G'.toktok, tokbox := G'.tokbox, rk := fun h => (by rw [hd] at h; cases h) }
  · exact G.fr.trans' G'.fr hL
  · rcases G'.sS b o hS with h | h
    · exact .inl (Nat.le_trans hle h)
    · exact G.sS b o h
  · obtain ⟨cs, T, b1, b2⟩ := G'.box d ls hl
    refine ⟨cs, T, ?_, b2⟩
    rcases b1 with h | h
    · exact .inl (Nat.le_trans hle h)
    · exact hL _ h
  · rcases G'.tok d j with h | ⟨g, n, cap, cur, i, t1, t2, t3⟩
    · exact .inl h
    · exact .inr ⟨g, n, cap, cur, i, t1, Nat.le_trans hle t2, t3⟩
theorem TbOk.re {E:En} {tb:Tb} (hE:TbOk E tb) (hd:E.draws=false) {st:St} {a:Act} {c:Gh} (h:RC E st a c):TbOk (reE E st c) { tb with lent:=true,ln:=none }:=by
 obtain ⟨G,_,_,_⟩:=h
 have hL:∀ b,(reE E st c).L b→E.w0.heap.size≤b∨E.L b:=fun b ⟨d,ls,hl,e⟩=>by subst e;exact (G.box d ls hl).lt.1
 have hg:∀ w,GrownL c.w w none (reE E st c).L→GrownL E.w0 w (if E.draws then some E.g else none) E.L:=fun w hw=>G.fr.trans' hw hL
 exact ⟨hE.T,hE.G,hE.D,fun p hp w hw=>hE.iG p hp w (hg w hw),fun p hp w hw=>hE.iD p hp w (hg w hw),by rw [← hE.dr];exact hd.symm,fun p hp=>⟨(hE.gl p hp).1,fun w hw=>(hE.gl p hp).2 w (hg w hw)⟩,fun h=>(by cases h),hE.mx,hE.M,fun p hp=>⟨(hE.MM p hp).1,(hE.MM p hp).2.1,fun w hw=>(hE.MM p hp).2.2 w (hg w hw)⟩,hE.EX,fun _ h=>(by cases h)⟩
def nxE (E:En) (c:Gh) (w:World):En:={ P:=E.P,w0:=w,draws:=false,g:=c.g,bv:=.nilIface,S0:=c.S,b0:=c.β }
theorem RC.nx {E : En} {st : St} {a : Act} {c : Gh} (h : RC E st a c) {w' : World} (hS : ∀ b o, c.S b o → w'.heap[b]? = c.w.heap[b]?) {u : Value} (hu : u.oneCell' = true) (d : Nat) : R (nxE E c w') (St.put ⟨st.nt, ntσ st.σ, [], 0⟩ (some d) (.v u)) (a.put (some d) u) w' := by
  obtain ⟨G, h3, h4, h5⟩ := h
  let c' : Gh := { c with w := w', tv := fun _ _ => .slice none 0 0, te := fun _ _ => 0 }
  have hk : Keeps c.w c.S c'.w c'.S := Keeps.same (fun _ _ h => h) hS
  refine R.put (st := ⟨st.nt, ntσ st.σ, [], 0⟩) (c := c') rfl ?_ (fun x => ?_) h4 h5 (.v _ hu)
  · exact { bl := fun _ _ => rfl, cg := rfl, fr := ⟨rfl, rfl, rfl, Nat.le_refl _, fun _ _ _ _ => rfl⟩, lx := fun h => (by cases h), sx := fun b o h => hk.lk h (G.sx b o h), s1 := fun b o v hS' hv => s1_keep G hk hS' hv, sS := fun _ _ h => .inr h, sg := fun h => (by cases h), box := fun d ls hl => (by cases hl), boxinj := fun d d' l l' h1 => (by cases h1),
            tok := fun _ _ => .inl rfl, toktok := fun _ _ _ _ b hb => by simp [c', Value.ownBlock] at hb, tokbox := fun _ _ b _ _ hb => by simp [c', Value.ownBlock] at hb, rk := fun h => by cases h }
  · simp only [lk_nt]; exact (h3 x).nt hk rfl
theorem tb_new {P:Program} {E:En} {T:List (TypeId × TyI)} {D:List (FuncId × DFn)} (hP:E.P=P) (hd:E.draws=false) (hL:∀ b,¬ E.L b) (hm:P.follows .mixedOrders=true) (hT:TysOk P T) (hD:∀ p ∈ D,Fine P p.1 p.2.con∧∀ w,E.w0.grownBy w none→p.2.inv w):TbOk E { T:=T,G:=[],D:=D,draws:=false }:=by
 subst hP
 exact ⟨hT,fun _ h=>(by cases h),fun p hp=>(hD p hp).1,fun _ h=>(by cases h),fun p hp w hw=>(hD p hp).2 w (by rw [hd] at hw;exact hw.by hL),hd,fun _ h=>(by cases h),fun _=>hL,hm,fun _ h=>(by cases h),fun _ h=>(by cases h),fun _ h=>(by cases h),fun _ h=>(by cases h)⟩
def nxM (E:En) (st:St) (c:Gh) (w:World):En:={ P:=E.P,w0:=w,draws:=false,g:=c.g,bv:=.nilIface,S0:=c.S,L:=fun b=>∃ d ls,lkm d st.m=some ls∧c.β d=b,b0:=c.β }
def Gh.onw (c:Gh) (w:World):Gh:={ c with w:=w,tv:=fun _ _=>.slice none 0 0,te:=fun _ _=>0 }
theorem RC.nxm {E : En} {st : St} {a : Act} {c : Gh} (h : RC E st a c) {w' : World} (hS : ∀ b o, c.S b o → w'.heap[b]? = c.w.heap[b]?) (hb : ∀ d ls, lkm d st.m = some ls → w'.heap[c.β d]? = c.w.heap[c.β d]?) {u : Value} (hu : u.oneCell' = true) (d : Nat) : R (nxM E st c w') (St.put st.re (some d) (.v u)) (a.put (some d) u) w' := by
  obtain ⟨G, h3, h4, h5⟩ := h
  have hk : Keeps c.w c.S (c.onw w').w (c.onw w').S := Keeps.same (fun _ _ h => h) hS
  refine R.put (st := st.re) (c := c.onw w') rfl ?_ (fun x => ?_) h4 h5 (.v _ hu)
  · refine { bl := fun _ _ => rfl, cg := rfl, fr := ⟨rfl, rfl, rfl, Nat.le_refl _, fun _ _ _ _ => rfl⟩, lx := fun h => (by cases h), sx := fun b o h => hk.lk h (G.sx b o h), s1 := fun b o v hS' hv => s1_keep G hk hS' hv, sS := fun _ _ h => .inr h, sg := fun h => (by cases h), box := fun d ls hl => ?_, boxinj := fun d d' l l' h1 h2 he => ?_,
             tok := fun _ _ => .inl rfl, toktok := fun _ _ _ _ b hb => (by simp [Gh.onw, Value.ownBlock] at hb), tokbox := fun _ _ b _ _ hb => (by simp [Gh.onw, Value.ownBlock] at hb), rk := fun h => (by cases h) }
    · simp only [St.re] at hl
      rw [lkm_nt, Option.map_eq_some_iff] at hl
      obtain ⟨l0, h0, rfl⟩ := hl
      obtain ⟨cs, T, b1, b2, b3, b4, b5⟩ := G.box d l0 h0
      refine ⟨cs, T, .inr ⟨d, l0, h0, rfl⟩, (hb d l0 h0).trans b2, by rw [ntAll_eq, List.length_map]; exact b3, fun j x hx => ?_, b5⟩
      rw [ntAll_eq, List.getElem?_map, Option.map_eq_some_iff] at hx
      obtain ⟨y, hy, rfl⟩ := hx
      exact (b4 j y hy).nt hk rfl
    · simp only [St.re] at h1 h2
      rw [lkm_nt, Option.map_eq_some_iff] at h1 h2
      obtain ⟨l1, h1, _⟩ := h1
      obtain ⟨l2, h2, _⟩ := h2
      exact G.boxinj d d' l1 l2 h1 h2 he
  · simp only [St.re, lk_nt]; exact (h3 x).nt hk rfl
structure Bk (E E':En):Prop where
 P:E'.P=E.P
 d:E.draws=false
 d':E'.draws=false
 g:E'.g=E.g
 L:∀ b,E'.L b→E.w0.heap.size≤b∨E.L b
 fr:GrownL E.w0 E'.w0 none E.L
 S:∀ b o,E'.S0 b o→E.w0.heap.size≤b∨E.S0 b o
 b:∀ k,1000≤k→E'.b0 k=E.b0 k
theorem RC.bk {E E' : En} (B : Bk E E') {st : St} {a : Act} {c : Gh} (h : RC E' st a c) : RC E st a c := by
  obtain ⟨G', h3, h4, h5⟩ := h
  have hd := B.d
  have hle := B.fr.size
  refine ⟨?_, h3, h4, h5⟩
  have hfr := G'.fr
  rw [B.d'] at hfr
  refine { bl := fun k hk => (G'.bl k hk).trans (B.b k hk), cg := G'.cg.trans B.g, fr := ?_, lx := fun h => (by rw [hd] at h; cases h), sx := G'.sx, s1 := G'.s1, sS := fun b o hS => ?_, sg := fun h => (by rw [hd] at h; cases h), box := fun d ls hl => ?_, boxinj := G'.boxinj,
             tok := fun d j => ?_, toktok := G'.toktok, tokbox := G'.tokbox, rk := fun h => (by rw [hd] at h; cases h) }
  · rw [hd]; exact B.fr.trans' hfr B.L
  · rcases G'.sS b o hS with h | h
    · exact .inl (Nat.le_trans hle h)
    · exact B.S b o h
  · obtain ⟨cs, T, b1, b2⟩ := G'.box d ls hl
    refine ⟨cs, T, ?_, b2⟩
    rcases b1 with h | h
    · exact .inl (Nat.le_trans hle h)
    · exact B.L _ h
  · rcases G'.tok d j with h | ⟨g, n, cap, cur, i, t1, t2, t3⟩
    · exact .inl h
    · exact .inr ⟨g, n, cap, cur, i, t1, Nat.le_trans hle t2, by rw [B.P] at t3; exact t3⟩
theorem Bk.re {E:En} {st:St} {a:Act} {c:Gh} (h:RC E st a c) (hd:E.draws=false):Bk E (reE E st c):=by
 obtain ⟨G,_,_,_⟩:=h
 have hfr:=G.fr
 rw [hd] at hfr
 exact ⟨rfl,hd,rfl,G.cg,fun b ⟨d,ls,hl,e⟩=>by subst e;exact (G.box d ls hl).lt.1,hfr,G.sS,G.bl⟩
theorem Bk.nx {E:En} {st:St} {a:Act} {c:Gh} (h:RC E st a c) (hd:E.draws=false) {w':World} {Lf:Nat→Prop} (hf:GrownL c.w w' none Lf) (hL:∀ b,Lf b→E.w0.heap.size≤b∨E.L b):Bk E (nxM E st c w'):=by
 obtain ⟨G,_,_,_⟩:=h
 have hfr:=G.fr
 rw [hd] at hfr
 exact ⟨rfl,hd,rfl,G.cg,fun b ⟨d,ls,hl,e⟩=>by subst e;exact (G.box d ls hl).lt.1,hfr.trans' hf hL,G.sS,G.bl⟩
theorem Bk.trans {E E' E'':En} (h:Bk E E') (k:Bk E' E''):Bk E E'':=by
 have hle:=h.fr.size
 refine ⟨k.P.trans h.P,h.d,k.d',k.g.trans h.g,fun b hb=>?_,h.fr.trans' k.fr h.L,fun b o hS=>?_,fun k' hk=>(k.b k' hk).trans (h.b k' hk)⟩
 ·rcases k.L b hb with h' | h'
  ·exact .inl (by omega)
  ·exact h.L b h'
 ·rcases k.S b o hS with h' | h'
  ·exact .inl (by omega)
  ·exact h.S b o h'
theorem tb_newX {P:Program} {E:En} {T:List (TypeId × TyI)} (X:List Nat) (hP:E.P=P) (hd:E.draws=false) (hm:P.follows .mixedOrders=true) (hT:TysOk P T):TbOk E { T:=T,G:=[],D:=[],draws:=false,lent:=true,X:=X }:=by
 subst hP
 exact ⟨hT,fun _ h=>(by cases h),fun _ h=>(by cases h),fun _ h=>(by cases h),fun _ h=>(by cases h),hd,fun _ h=>(by cases h),fun h=>(by cases h),hm,fun _ h=>(by cases h),fun _ h=>(by cases h),fun _ h=>(by cases h),fun _ h=>(by cases h)⟩
theorem RC.frz {E : En} {st : St} {a : Act} {c : Gh} (h : RC E st a c) {d : Nat} (hk0 : Go.Eng.bk d = 0) (hB : E.w0.heap.size ≤ c.β d) {ls : List AV} (hl : lkm d st.m = some ls) {n : Nat} {ys : List DV} (hy : DV.ofAll (ls.take n) = some ys) : ∃ c', c'.w = c.w ∧ c'.β = c.β ∧ c'.S = (fun b o => c.S b o ∨ (b = c.β d ∧ o < ys.length)) ∧ RC E (st.frz d ys) a c' := by
  obtain ⟨G, hσ, hnt, hd⟩ := h
  obtain ⟨cs, T, b1, b2, b3, b4, b5⟩ := (G.box d ls hl).cells hk0
  obtain ⟨q1, q2⟩ := ofAll_get hy
  have q1' : ys.length ≤ ls.length := by rw [q1]; simp; omega
  let c' : Gh := { c with S := fun b o => c.S b o ∨ (b = c.β d ∧ o < ys.length) }
  have hk : Keeps c.w c.S c'.w c'.S := Keeps.same (fun _ _ h => .inl h) fun _ _ _ => rfl
  have hcell : ∀ k, k < ys.length → c.w.cell? ⟨c.β d, k, none⟩ = some (cs.getD k undef) := fun k hk => by
    rw [cell_of_row c.w _ k cs T (0, 0) b2]
    have : k < cs.size := by omega
    simp [this, Array.getD_eq_getD_getElem?]
  have hrd : ∀ j x, ys[j]? = some x → RdD c.w c.S x (cs.getD j undef) := fun j x hx => by
    obtain ⟨u, hu, hux⟩ := q2 j x hx
    rw [List.getElem?_take] at hu
    split at hu
    · exact (b4 j u hu).ofAV hux
    · cases hu
  have hone : ∀ k, k < ys.length → (cs.getD k undef).oneCell' = true := fun k hk => (hrd k ys[k] (List.getElem?_eq_getElem hk)).one
  have hst : ∀ {x v}, Rd c x v → Rd c' (x.frz d ys) v := fun h => h.frz (c' := c') hk rfl rfl rfl rfl (cs := fun k => cs.getD k undef) (fun k hk => ⟨.inr ⟨rfl, hk⟩, hcell k hk⟩) (fun j x hx => (hrd j x hx).keep hk)
  refine ⟨c', rfl, rfl, rfl, ?_, fun x => by show Rd c' (lk x (frzσ d ys st.σ)) _; rw [lk_frz]; exact hst (hσ x), hnt, hd⟩
  exact { bl := G.bl, cg := G.cg, fr := G.fr, lx := G.lx,
          sx := fun b o h => by
            rcases h with h | ⟨rfl, h⟩
            · exact G.sx b o h
            · exact .inl ⟨_, hcell o h⟩
          s1 := fun b o v h hv => by
            rcases h with h | ⟨rfl, h⟩
            · exact G.s1 b o v h hv
            · have hv' : c.w.cell? ⟨c.β d, o, none⟩ = some v := hv
              rw [hcell o h] at hv'; obtain rfl := Option.some.inj hv'; exact hone o h
          sS := fun b o h => by
            rcases h with h | ⟨rfl, h⟩
            · exact G.sS b o h
            · exact .inl hB
          sg := fun hdd o h => by
            rcases h with h | ⟨h, _⟩
            · exact G.sg hdd o h
            · have := (G.rk hdd).1; omega
          box := fun k ls' hl' => by
            have hl' : lkm k (frzm d ys st.m) = some ls' := hl'
            rw [lkm_frz] at hl'
            split at hl'
            · cases hl'
            · rename_i hne
              obtain ⟨l, hl2, rfl⟩ := Option.map_eq_some_iff.1 hl'
              obtain ⟨cs', T', e1, e2, e3, e4, e5⟩ := G.box k l hl2
              refine ⟨cs', T', e1, e2, by simpa [frzAll_eq] using e3, fun j x hx => ?_, fun o h => ?_⟩
              · rw [frzAll_eq, List.getElem?_map, Option.map_eq_some_iff] at hx
                obtain ⟨y, hy', rfl⟩ := hx
                exact hst (e4 j y hy')
              · rcases h with h | ⟨h, _⟩
                · exact e5 o h
                · exact hne (G.boxinj k d l ls hl2 hl h)
          boxinj := fun k k' l l' h1 h2 he => by
            have h1 : lkm k (frzm d ys st.m) = some l := h1
            have h2 : lkm k' (frzm d ys st.m) = some l' := h2
            rw [lkm_frz] at h1 h2
            split at h1
            · cases h1
            · split at h2
              · cases h2
              · obtain ⟨l1, h1, _⟩ := Option.map_eq_some_iff.1 h1
                obtain ⟨l2, h2, _⟩ := Option.map_eq_some_iff.1 h2
                exact G.boxinj k k' _ _ h1 h2 he
          tok := fun k j => tok_keep (G.tok k j) rfl rfl fun b hb => ⟨rfl, fun o h => by
            rcases h with h | ⟨h, _⟩
            · exact h
            · exact absurd h.symm (G.tokbox k j b d ls hb hl)⟩
          toktok := G.toktok
          tokbox := fun k j b k' l hb h2 he => by
            have h2 : lkm k' (frzm d ys st.m) = some l := h2
            rw [lkm_frz] at h2
            split at h2
            · cases h2
            · obtain ⟨l2, h2, _⟩ := Option.map_eq_some_iff.1 h2
              exact G.tokbox k j b k' _ hb h2 he
          rk := G.rk }

def gh0 (w:World) (S:Nat→Nat→Prop) (β:Nat→Nat):Gh:={ w:=w,S:=S,β:=β,tv:=fun _ _=>.slice none 0 0,te:=fun _ _=>0,g:=0 }
def en0 (P:Program) (w:World) (S:Nat→Nat→Prop) (β:Nat→Nat) (L:Nat→Prop):En:={ P:=P,w0:=w,draws:=false,g:=0,bv:=.nilIface,S0:=S,L:=L,b0:=β }
theorem ax_enter {P : Program} {f : FuncId} {fn : Func} {body : Code} {nt : Nat} {rs : List ResultVar} (hf : P.funcs[f]? = some fn) (hb : fn.body = some body) (hn : fn.ntmps = nt) (_hr : fn.results.toList = rs) (_hnm : (fn.name == "runtime.NumGoroutine") = false) (_hm : P.follows .mixedOrders = true)
    {w : World} {S : Nat → Nat → Prop} (β : Nat → Nat) (L : Nat → Prop) {args : List AV} {m1 : List (Nat × List AV)} {vs : Array Value} {R : Ending → World → Prop} (hsx : ∀ b o, S b o → Lk w b o) (hs1 : ∀ b o v, S b o → w.cell? ⟨b, o, none⟩ = some v → v.oneCell' = true)
    (hsz : vs.size = args.length) (hl : args.length ≤ nt) (hrd : ∀ (j : Nat) (x : AV), args[j]? = some x → Rd (gh0 w S β) x (vs.getD j undef))
    (hbox : ∀ d ls, lkm d m1 = some ls → L (β d) ∧ ∃ cs, ∃ T : BoxOb d cs, w.heap[β d]? = some T.1 ∧ cs.size = ls.length ∧ (∀ j x, ls[j]? = some x → Rd (gh0 w S β) x (cs.getD j undef)) ∧ ∀ o, ¬ S (β d) o)
    (hinj : ∀ d d' ls ls', lkm d m1 = some ls → lkm d' m1 = some ls' → β d = β d' → d = d')
    (h : Ax P (en0 P w S β L) body (stM nt args m1) (bodyPost P fn R)) : Calls P f vs w R := by
  subst hn
  refine calls_of_wp hf hb (h rfl _ w ?_)
  refine ⟨gh0 w S β, rfl, ?_, fun x => ?_, by simp [stM, hsz]; omega, rfl⟩
  · exact { bl := fun _ _ => rfl, cg := rfl, fr := ⟨rfl, rfl, rfl, Nat.le_refl _, fun _ _ _ _ => rfl⟩, lx := fun h => (by cases h), sx := hsx, s1 := hs1, sS := fun _ _ h => .inr h, sg := fun h => (by cases h),
            box := fun d ls hl => by
              obtain ⟨q1, cs, T, q2, q3, q4, q5⟩ := hbox d ls hl
              exact ⟨cs, T, .inr q1, q2, q3, q4, q5⟩
            boxinj := hinj,
            tok := fun _ _ => .inl rfl, toktok := fun _ _ _ _ b hb => (by simp [gh0, Value.ownBlock] at hb), tokbox := fun _ _ b _ _ hb => (by simp [gh0, Value.ownBlock] at hb), rk := fun h => (by cases h) }
  · simp only [stM, lk_enumA, Nat.zero_le, if_true, Nat.sub_zero]
    by_cases hx : x < args.length
    · have e1 : args.getD x .junk = args[x] := by simp [List.getD_eq_getElem?_getD, hx]
      have e2 : (vs ++ Array.replicate (fn.ntmps - vs.size) undef).getD x undef = vs.getD x undef := by
        simp only [Array.getD_eq_getD_getElem?]
        rw [Array.getElem?_append_left (by omega)]
      rw [e1, e2]
      exact hrd x args[x] (List.getElem?_eq_getElem hx)
    · have e1 : args.getD x .junk = .junk := by simp [List.getD_eq_getElem?_getD, hx]
      rw [e1]; exact .junk _
theorem bp_ret {P:Program} {fn:Func} {t:Nat} {Rp:Ending→World→Prop} {E:En} {st:St} (hr:fn.results.toList=[.tmp t]) (h:∀ a c,RC E st a c→Rp (.returned (a.tmps.getD t undef)) c.w):AQ P E (bodyPost P fn Rp) .ret st:=by
 intro hP a w hR
 obtain ⟨c,rfl,hRC⟩:=hR.rc
 refine ⟨hRC.2.2.2,a.tmps.getD t undef,?_,h a c hRC⟩
 rw [results_rv,Array.mapM_eq_mapM_toList,hr]
 rfl
theorem bp_ret2 {P:Program} {fn:Func} {t t2:Nat} {Rp:Ending→World→Prop} {E:En} {st:St} (hr:fn.results.toList=[.tmp t,.tmp t2]) (h:∀ a c,RC E st a c→Rp (.returned (.tuple #[a.tmps.getD t undef,a.tmps.getD t2 undef])) c.w):AQ P E (bodyPost P fn Rp) .ret st:=by
 intro hP a w hR
 obtain ⟨c,rfl,hRC⟩:=hR.rc
 refine ⟨hRC.2.2.2,.tuple #[a.tmps.getD t undef,a.tmps.getD t2 undef],?_,h a c hRC⟩
 rw [results_rv,Array.mapM_eq_mapM_toList,hr]
 rfl
theorem bp_ret0 {P:Program} {fn:Func} {Rp:Ending→World→Prop} {E:En} {st:St} {e:Exit} (he:e = .ret∨e = .normal) (hr:fn.results.toList=[]) (h:∀ a c,RC E st a c→Rp (.returned (.tuple #[])) c.w):AQ P E (bodyPost P fn Rp) e st:=by
 intro hP a w hR
 obtain ⟨c,rfl,hRC⟩:=hR.rc
 have:a.defers=[]∧∃ v,(results fn a.tmps).run P c.w = .ok v c.w∧Rp (.returned v) c.w:=by
  refine ⟨hRC.2.2.2,.tuple #[],?_,h a c hRC⟩
  rw [results_rv,Array.mapM_eq_mapM_toList,hr]
  rfl
 rcases he with rfl | rfl<;>exact this
def nxS (E:En) (st:St) (c:Gh) (w:World) (S:Nat→Nat→Prop):En:={ P:=E.P,w0:=w,draws:=false,g:=c.g,bv:=.nilIface,S0:=S,L:=fun b=>∃ d ls,lkm d st.m=some ls∧c.β d=b,b0:=c.β }
def Gh.onS (c:Gh) (w:World) (S:Nat→Nat→Prop):Gh:={ c with w:=w,S:=S,tv:=fun _ _=>.slice none 0 0,te:=fun _ _=>0 }
theorem RC.nxs {E : En} {st : St} {a : Act} {c : Gh} (h : RC E st a c) {w' : World} {S : Nat → Nat → Prop} (hk : Keeps c.w c.S w' S) (hsx : ∀ b o, S b o → Lk w' b o) (hs1 : ∀ b o v, S b o → w'.cell? ⟨b, o, none⟩ = some v → v.oneCell' = true)
    (hb : ∀ d ls, lkm d st.m = some ls → w'.heap[c.β d]? = c.w.heap[c.β d]? ∧ ∀ o, ¬ S (c.β d) o) {x : AV} {u : Value} (hu : Rd (c.onS w' S) x u) (d : Nat) : R (nxS E st c w' S) (St.put st.re (some d) x) (a.put (some d) u) w' := by
  obtain ⟨G, h3, h4, h5⟩ := h
  have hk : Keeps c.w c.S (c.onS w' S).w (c.onS w' S).S := hk
  refine R.put (st := st.re) (c := c.onS w' S) rfl ?_ (fun x => ?_) h4 h5 hu
  · refine { bl := fun _ _ => rfl, cg := rfl, fr := ⟨rfl, rfl, rfl, Nat.le_refl _, fun _ _ _ _ => rfl⟩, lx := fun h => (by cases h), sx := hsx, s1 := hs1, sS := fun _ _ h => .inr h, sg := fun h => (by cases h), box := fun d ls hl => ?_, boxinj := fun d d' l l' h1 h2 he => ?_,
             tok := fun _ _ => .inl rfl, toktok := fun _ _ _ _ b hb => (by simp [Gh.onS, Value.ownBlock] at hb), tokbox := fun _ _ b _ _ hb => (by simp [Gh.onS, Value.ownBlock] at hb), rk := fun h => (by cases h) }
    · simp only [St.re] at hl
      rw [lkm_nt, Option.map_eq_some_iff] at hl
      obtain ⟨l0, h0, rfl⟩ := hl
      obtain ⟨cs, T, b1, b2, b3, b4, b5⟩ := G.box d l0 h0
      refine ⟨cs, T, .inr ⟨d, l0, h0, rfl⟩, (hb d l0 h0).1.trans b2, by rw [ntAll_eq, List.length_map]; exact b3, fun j x hx => ?_, (hb d l0 h0).2⟩
      rw [ntAll_eq, List.getElem?_map, Option.map_eq_some_iff] at hx
      obtain ⟨y, hy, rfl⟩ := hx
      exact (b4 j y hy).nt hk rfl
    · simp only [St.re] at h1 h2
      rw [lkm_nt, Option.map_eq_some_iff] at h1 h2
      obtain ⟨l1, h1, _⟩ := h1
      obtain ⟨l2, h2, _⟩ := h2
      exact G.boxinj d d' l1 l2 h1 h2 he
  · simp only [St.re, lk_nt]; exact (h3 x).nt hk rfl
def NQ (N:Act→World→Prop) (e:Exit) (a:Act) (w:World):Prop:=e = .normal∧N a w
def SpT (P:Program) (ops:List Oper) (N:Act→World→Prop) (i:Nat) (t:Sch) (a:Act) (w:World):Prop :=
 match ops[i]? with
 | some o=>o.guard=none∧o.wp P a w (fun a' w'=>∃ E' tb' st',TbOk E' tb'∧E'.P=P∧R E' st' a' w'∧enumS E' tb' ops t st' fun st''=>∀ a w,R E' st'' a w→N a w) (NQ N)
 | none=>False
def enumX (P:Program) (E:En) (tb:Tb) (ops:List Oper) (sp:Nat) (N:Act→World→Prop):Sch→St→Prop
 | .done,_=>False
 | .non,_=>True
 | .cut t,st=>∃ st',LeE E st st'∧enumX P E tb ops sp N t st'
 | .fst i t,st=>match ops[i]? with
  | some o=>match dop tb.T tb.gl o.op st.ev (fun k=>lkm k st.m) with
   | some (c,r)=>c∧enumX P E tb ops sp N t (st.put o.dst r)
   | none=>False
  | none=>False
 | .alt i t r,st=>(if i=sp then ∀ a w,R E st a w→SpT P ops N i t a w else match ops[i]? with
  | some o=>stpG tb ops o st fun st'=>enumX P E tb ops sp N t st'
  | none=>False)∧enumX P E tb ops sp N r st
theorem any_okX {P:Program} {E:En} {tb:Tb} (hE:TbOk E tb) (hP:E.P=P) {ops:List Oper} {sp:Nat} (hsel:Region.noSelect ops.toArray=true) {N:Act→World→Prop} :
  ∀ (t:Sch) (top:Bool) (listed:Array Bool) (st:St) (a:Act) (w:World),chkS ops.toArray t top listed=true→R E st a w→enumX P E tb ops sp N t st→
   (top=true→∀ fuel,t.dep≤fuel→wpAny P .any ops.toArray (NQ N) fuel listed a w)∧
   (top=false→∀ fuel,t.dep≤fuel + 1→∀ i ∈ t.heads,wpOp P ops.toArray (NQ N) i (wpAny P .any ops.toArray (NQ N) fuel (listed.setIfInBounds i true)) a w)
 | .done,top,listed,st,a,w,hc,hr,he=>he.elim
 | .non,top,listed,st,a,w,hc,hr,he=>by
  simp only [chkS] at hc
  exact ⟨fun h=>(by rw [h] at hc;cases hc),fun _ fuel _ i hi=>(by cases hi)⟩
 | .cut t,top,listed,st,a,w,hc,hr,he=>by
  simp only [chkS,Bool.and_eq_true] at hc
  obtain ⟨st',h1,h2⟩:=he
  refine ⟨fun _ fuel hf=>(any_okX hE hP hsel t true listed st' a w hc.2 (h1 a w hr) h2).1 rfl fuel hf,fun h=>?_⟩
  rw [h] at hc;cases hc.1
 | .fst i t,top,listed,st,a,w,hc,hr,he=>by
  simp only [chkS,Bool.and_eq_true] at hc
  obtain ⟨c1,c2,c3,c4,c5⟩:=hc
  refine ⟨fun _ fuel hf=>?_,fun h=>by rw [h] at c1;cases c1⟩
  simp only [enumX] at he
  simp only [List.getElem?_toArray] at c2
  cases ho:ops[i]? with
  | none=>rw [ho] at c2;cases c2
  | some o =>
   rw [ho] at c2 he
   simp only at c2 he
   cases hd:dop tb.T tb.gl o.op st.ev (fun k=>lkm k st.m) with
   | none=>rw [hd] at he;exact he.elim
   | some cr =>
    obtain ⟨cc,r⟩:=cr
    rw [hd] at he
    obtain ⟨he1,he2⟩:=he
    obtain ⟨v,k1,k2⟩:=ydet c2 hr hE.T (hgl_of hE hr) hd he1
    rw [hP] at k1
    have hg:o.guard=none:=by simp only [isY,Bool.and_eq_true,Option.isNone_iff_eq_none] at c2;exact c2.1
    cases fuel with
    | zero=>simp only [Sch.dep] at hf;omega
    | succ fuel =>
     simp only [Sch.dep] at hf
     exact wpAny_take (i:=i) (oi:=o) (v:=v) (by simp [ho]) hsel c3 c4 (fun c a w hp=>by cases hp.1) (.inl ⟨by simp [Region.wanted,hg],k1⟩)
      ((any_okX hE hP hsel t true _ _ _ w c5 k2 he2).1 rfl fuel (by omega))
 | .alt i t r,top,listed,st,a,w,hc,hr,he=>by
  simp only [chkS,Bool.and_eq_true] at hc
  obtain ⟨c1,c2,c3,c4⟩:=hc
  simp only [enumX] at he
  obtain ⟨he1,he2⟩:=he
  have hrest:=(any_okX hE hP hsel r false listed st a w c4 hr he2).2 rfl
  have hhead:∀ fuel,t.dep≤fuel→wpOp P ops.toArray (NQ N) i (wpAny P .any ops.toArray (NQ N) fuel (listed.setIfInBounds i true)) a w:=fun fuel hf=>by
   split at he1
   ·have h1:=he1 a w hr
    unfold SpT at h1
    cases ho:ops[i]? with
    | none=>rw [ho] at h1;exact h1.elim
    | some o =>
     rw [ho] at h1
     obtain ⟨hg,h1⟩:=h1
     unfold wpOp
     simp only [List.getElem?_toArray,ho]
     rw [if_pos (by simp [Region.wanted,hg])]
     refine .inl (Oper.wp_mono ?_ h1)
     rintro a' w' ⟨E',tb',st',hE',rfl,hr',he'⟩
     exact (any_okS hE' hsel (K:=fun st''=>∀ a w,R E' st'' a w→N a w) (Q:=NQ N) (fun c a w h=>by cases h.1) (fun st' a' w' h2 h4=>⟨rfl,h4 a' w' h2⟩) t true _ st' a' w' c3 hr' he').1 rfl fuel hf
   ·cases ho:ops[i]? with
    | none=>rw [ho] at he1;exact he1.elim
    | some o =>
     rw [ho] at he1
     simp only at he1
     subst hP
     have:=stpG_ok hE hr he1 (next:=wpAny E.P .any ops.toArray (NQ N) fuel (listed.setIfInBounds i true)) (Q:=NQ N) fun st' a' w' h' hk =>
      (any_okX hE rfl hsel t true _ st' a' w' c3 h' hk).1 rfl fuel hf
     unfold wpOp
     simp only [List.getElem?_toArray,ho]
     split at this
     ·rename_i hw;rw [if_pos hw];exact .inl this
     ·rename_i hw;rw [if_neg hw];exact this
  have hall:∀ fuel,(Sch.alt i t r).dep≤fuel + 1→∀ j ∈ (Sch.alt i t r).heads,wpOp P ops.toArray (NQ N) j (wpAny P .any ops.toArray (NQ N) fuel (listed.setIfInBounds j true)) a w:=fun fuel hf j hj=>by
   simp only [Sch.dep] at hf
   rcases List.mem_cons.1 hj with rfl | hj
   ·exact hhead fuel (by omega)
   ·exact hrest fuel (by omega) j hj
  refine ⟨fun ht fuel hf=>?_,fun _=>hall⟩
  cases fuel with
  | zero=>simp only [Sch.dep] at hf;omega
  | succ fuel =>
   refine ⟨fun h0=>?_,fun j hj=>hall fuel hf j ?_⟩
   ·rw [h0] at c2;cases c2
   ·subst ht
    simp only [Bool.not_true,Bool.false_or] at c1
    have:=(List.all_eq_true.1 c1) j hj
    simpa [Sch.heads] using this
theorem Ax_spD {P:Program} {E:En} {tb:Tb} {st:St} {Q:Exit→Act→World→Prop} (hE:TbOk E tb) (sp:Nat) (t:Sch) {id:Nat} {l:List Oper} (hck:chkSt t l=true) (h:∀ N:Act→World→Prop,(∀ {E':En} (st':St),AQ P E' Q .normal st'→E'.P=P→∀ a w,R E' st' a w→N a w)→enumX P E tb l sp N t st):Ax P E (.region id l.toArray true) st Q:=by
 intro hP a w hr
 refine Code.wp_mono (Q:=NQ (Q .normal)) (fun e a' w' ⟨he,h⟩=>by subst he;exact h) ?_
 refine wp_region_any (by rw [← hP];exact hE.mx) ?_
 simp only [chkSt,Bool.and_eq_true,decide_eq_true_eq] at hck
 obtain ⟨h1,h2,h3⟩:=hck
 exact (any_okX hE hP h1 t true _ st a _ (by simpa using h3) hr.drew (h _ fun st' h hP a w hr=>h hP a w hr)).1 rfl _ (by simpa using h2)
theorem Ax_spDs {P:Program} {E:En} {tb:Tb} {st:St} {Q:Exit→Act→World→Prop} (hE:TbOk E tb) (sp:Nat) (t:Sch) {id:Nat} {l:List Oper} {y:Code} (hck:chkSt t l=true) (h:∀ N:Act→World→Prop,(∀ {E':En} (st':St),Ax P E' y st' Q→E'.P=P→∀ a w,R E' st' a w→N a w)→enumX P E tb l sp N t st):Ax P E (.seq (.region id l.toArray true) y) st Q :=
 fun e a w hr=>wp_seq (Ax_spD (Q:=Exit.then (y.wp P Q) Q) hE sp t hck (fun N hN=>h N fun {E'} st' (h:AQ P E' (Exit.then (y.wp P Q) Q) .normal st')=>hN st' h) e a w hr)
theorem Ax_spDq {P:Program} {E:En} {tb:Tb} {st:St} {Q:Exit→Act→World→Prop} (hE:TbOk E tb) (sp:Nat) (t:Sch) {id:Nat} {l:List Oper} (hck:chkSt t l=true) (h:∀ N:Act→World→Prop,(∀ a w,Q .normal a w→N a w)→enumX P E tb l sp N t st):Ax P E (.region id l.toArray true) st Q:=by
 intro hP a w hr
 refine Code.wp_mono (Q:=NQ (Q .normal)) (fun e a' w' ⟨he,h⟩=>by subst he;exact h) ?_
 refine wp_region_any (by rw [← hP];exact hE.mx) ?_
 simp only [chkSt,Bool.and_eq_true,decide_eq_true_eq] at hck
 obtain ⟨h1,h2,h3⟩:=hck
 exact (any_okX hE hP h1 t true _ st a _ (by simpa using h3) hr.drew (h _ fun _ _ h=>h)).1 rfl _ (by simpa using h2)
theorem bp_0 {P:Program} {fn:Func} {Rp:Ending→World→Prop} {E:En} {st:St} {a:Act} {c:Gh} (hRC:RC E st a c) (hr:fn.results.toList=[]) (h:Rp (.returned (.tuple #[])) c.w):bodyPost P fn Rp .normal a c.w:=by
 refine ⟨hRC.2.2.2,.tuple #[],?_,h⟩
 rw [results_rv,Array.mapM_eq_mapM_toList,hr]
 rfl
theorem op_sp {P:Program} {o:Oper} {a:Act} {w:World} {f:FuncId} {args:Array Operand} {ats:Array TypeId} {next:Act→World→Prop} {Q:Exit→Act→World→Prop} (ho:o.op = .call { callee:=.value (.func f),args:=args,argTypes:=ats }) (hc:Callable P f)
  (h:Calls P f (args.map a.eval) w fun e w'=>∃ u,e = .returned u∧next (a.put o.dst u) w'):o.wp P a w next Q:=by
 obtain ⟨fn,f1,f2,f3⟩:=hc
 unfold Oper.wp
 have hr:(execOp a.eval o).run P w = .ok (.enter f (args.map a.eval)) w:=by
  unfold execOp;rw [ho]
  simp only [Sem.run_bind,resolve,Act.eval,Deferred.ofValue,Sem.run_pure,Result.andThen_ok,invoke,callFunc,run_program]
  simp only [Array.empty_append,Array.append_empty,f1,f2,f3,Bool.false_eq_true,if_false,Sem.run_pure]
 rw [hr]
 refine Calls.mono h ?_
 rintro e w' ⟨u,rfl,h⟩
 exact h
theorem SpT_mk {P:Program} {ops:List Oper} {N:Act→World→Prop} {i:Nat} {t:Sch} {a:Act} {w:World} {o:Oper} (ho:ops[i]? = some o) (hg:o.guard=none) (h:o.wp P a w (fun a' w'=>∃ E' tb' st',TbOk E' tb'∧E'.P=P∧R E' st' a' w'∧enumS E' tb' ops t st' fun st''=>∀ a w,R E' st'' a w→N a w) (NQ N)):SpT P ops N i t a w:=by
 unfold SpT;rw [ho];exact ⟨hg,h⟩
theorem RC.keep {E : En} {st : St} {a : Act} {c : Gh} (h : RC E st a c) (L Lm : List Nat) : RC E (st.keep L Lm) a c := by
  obtain ⟨G, h3, h4, h5⟩ := h
  refine ⟨?_, fun x => ?_, h4, h5⟩
  · exact { bl := G.bl, cg := G.cg, fr := G.fr, lx := G.lx, sx := G.sx, s1 := G.s1, sS := G.sS, sg := G.sg, box := fun d ls hl => G.box d ls (lkm_kpm d _ Lm ls hl), boxinj := fun d d' l l' e1 e2 => G.boxinj d d' l l' (lkm_kpm d _ Lm l e1) (lkm_kpm d' _ Lm l' e2),
            tok := G.tok, toktok := G.toktok, tokbox := fun d j b k ls e1 e2 => G.tokbox d j b k ls e1 (lkm_kpm k _ Lm ls e2), rk := G.rk }
  · simp only [St.keep, lk_kps]
    split
    · exact h3 x
    · exact .junk _
theorem tb_newG {P:Program} {E:En} {T:List (TypeId × TyI)} {G:List (FuncId × Con)} {D:List (FuncId × DFn)} (hP:E.P=P) (hd:E.draws=false) (hL:∀ b,¬ E.L b) (hm:P.follows .mixedOrders=true) (hT:TysOk P T) (hG:∀ p ∈ G,Fine P p.1 p.2∧∀ w,E.w0.grownBy w none→p.2.inv w) (hD:∀ p ∈ D,Fine P p.1 p.2.con∧∀ w,E.w0.grownBy w none→p.2.inv w):TbOk E { T:=T,G:=G,D:=D,draws:=false }:=by
 subst hP
 exact ⟨hT,fun p hp=>(hG p hp).1,fun p hp=>(hD p hp).1,fun p hp w hw=>(hG p hp).2 w (by rw [hd] at hw;exact hw.by hL),fun p hp w hw=>(hD p hp).2 w (by rw [hd] at hw;exact hw.by hL),hd,fun _ h=>(by cases h),fun _=>hL,hm,fun _ h=>(by cases h),fun _ h=>(by cases h),fun _ h=>(by cases h),fun _ h=>(by cases h)⟩
theorem Rd.ptr {c:Gh} {ls:List DV} {v:Value} (h:Rd c (.el ls) v):RdD c.w c.S (.ptr ls) v:=by
 cases h with
 | el ls b off f hc hh=>exact .ptr ls b off f hc hh
section
variable {P:Program} {E:En} {tb:Tb} {ops:List Oper} {sp:Nat} {N:Act→World→Prop} {t r:Sch} {i:Nat} {nt rn:Nat} {σ:List (Nat × AV)} {m:List (Nat × List AV)}
theorem enumX_non (st:St):enumX P E tb ops sp N .non st=True:=rfl
theorem enumX_fst:enumX P E tb ops sp N (.fst i t) ⟨nt,σ,m,rn⟩=(match ops[i]? with
  | some o=>match dop tb.T tb.gl o.op (⟨nt,σ,m,rn⟩:St).ev (fun k=>lkm k m) with
   | some (c,r)=>c∧enumX P E tb ops sp N t (St.put ⟨nt,σ,m,rn⟩ o.dst r)
   | none=>False
  | none=>False):=rfl
theorem enumX_alt:enumX P E tb ops sp N (.alt i t r) ⟨nt,σ,m,rn⟩=((if i=sp then ∀ a w,R E ⟨nt,σ,m,rn⟩ a w→SpT P ops N i t a w else match ops[i]? with
  | some o=>stpG tb ops o ⟨nt,σ,m,rn⟩ fun st'=>enumX P E tb ops sp N t st'
  | none=>False)∧enumX P E tb ops sp N r ⟨nt,σ,m,rn⟩):=rfl
end
attribute [go_sem] enumX_non enumX_fst enumX_alt
end Go.Eng
end
section
namespace Go.Proofs.W
open Go Go.Eng Go.RowKit
theorem sd0 {a b : Prop} (h : b) (ha : a := by first|omega|(and_intros<;>first|omega|exact rows_row _|exact wrows_row _|decide|(simp<;>omega))|fail) : a ∧ b := ⟨ha, h⟩
theorem Le_wa {nt rn rn' : Nat} {σ σ' : List (Nat × AV)} {m m' : List (Nat × List AV)} (h : rn ≤ rn' := by first | omega | (dsimp only;omega) | (simp only;omega) | (simp;omega)) (hs : wkσ σ σ' := by simp only [go_sem,seval]) (hm : wkm m m' := by simp only [go_sem,seval]) : Le ⟨nt, σ, m, rn⟩ ⟨nt, σ', m', rn'⟩ := Le_wk h hs hm
theorem dfn {p : Prop} [Decidable p] : decide p = false ↔ ¬p := decide_eq_false_iff_not
theorem dte {p : Prop} [Decidable p] : (decide p = true) = p := decide_eq_true_eq
theorem Le_wc {nt rn rn' : Nat} {σ σ' : List (Nat × AV)} {m m' : List (Nat × List AV)} (hs : wkσ σ σ') (hm : wkm m m') (h : rn ≤ rn' := by first | omega | (dsimp only;omega) | (simp only;omega) | (simp;omega)) : Le ⟨nt, σ, m, rn⟩ ⟨nt, σ', m', rn'⟩ := Le_wk h hs hm
theorem Le_wb {nt rn rn' : Nat} {σ σ' : List (Nat × AV)} {m m' : List (Nat × List AV)} (hs : wkσ σ σ') (h : rn ≤ rn' := by first | omega | (dsimp only;omega) | (simp only;omega) | (simp;omega)) (hm : wkm m m' := by simp only [go_sem,seval]) : Le ⟨nt, σ, m, rn⟩ ⟨nt, σ', m', rn'⟩ := Le_wk h hs hm
end Go.Proofs.W
end
