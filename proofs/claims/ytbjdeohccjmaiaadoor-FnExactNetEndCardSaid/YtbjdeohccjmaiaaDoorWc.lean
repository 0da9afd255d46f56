/- YtbjdeohccjmaiaaDoorWc: part of the proof that laws hold, for every input that the row speaks of (no condition of ours). -/
import Derived.Test.YtbjdeohccjmaiaaDoorWb
import Derived.Test.YtbjdeohccjmaiaaDoorWa
import Derived.Test.YtbjdeohccjmaiaaDoorEd
set_option linter.unusedVariables false
set_option linter.unusedSimpArgs false
section
namespace Go.Proofs.W
open Go Go.Eng Go.RowKit
set_option maxRecDepth 100000
theorem sp_callC {P:Program} {l l2:List Oper} {o:Oper} {N:Exit→Act→World→Prop} {a:Act} {w:World} {f:FuncId} {x:Operand} {args:Array Operand} {ats:Array TypeId} {first:Array Value} (ho:o.op = .call { callee:=.value x,args:=args,argTypes:=ats }) (hx:a.eval x = .func (.func f) first #[]) (hg:o.guard=none) (hc:Callable P f)
  (h:Calls P f (first++args.map a.eval) w fun e w'=>∃ u,e = .returned u∧SpQ P l l2 N (a.put o.dst u) w'):SpQ P l (o::l2) N a w:=by
 unfold SpQ at *
 rw [wpList,if_pos (by simp [Region.wanted,hg])]
 refine .inl ?_
 obtain ⟨fn,f1,f2,f3⟩:=hc
 unfold Oper.wp
 have hr:(execOp a.eval o).run P w = .ok (.enter f (first++args.map a.eval)) w:=by
  unfold execOp;rw [ho]
  simp only [Sem.run_bind,resolve,hx,Deferred.ofValue,Sem.run_pure,Result.andThen_ok,invoke,callFunc,run_program]
  simp only [Array.append_empty,f1,f2,f3,Bool.false_eq_true,if_false,Sem.run_pure]
 rw [hr]
 refine Calls.mono h ?_
 rintro e w' ⟨u,rfl,h⟩
 exact h
theorem cl_val {c:Gh} {f:FuncId} {x:AV} {v:Value} (h:Rd c (.cl f true [x]) v):∃ p,v = .func (.func f) #[p] #[]∧Rd c x p:=by
 cases h with
 | cl1 _ _ cs hn hh =>
  refine ⟨cs.getD 0 undef,?_,hh 0 x rfl⟩
  have:cs = #[cs.getD 0 undef]:=by
   apply Array.ext
   ·simpa using hn
   ·intro i h1 h2
    have:i=0:=by simp at h2;exact h2
    subst this
    simp [Array.getD_eq_getD_getElem?,h1]
  rw [← this]
set_option maxHeartbeats 8000000 in
theorem run_calls {pb:Addr} {w:World} {S:Nat→Nat→Prop} (hsx:∀ b o,S b o→Lk w b o) (hs1:∀ b o v,S b o→w.cell? ⟨b,o,none⟩=some v→v.oneCell'=true) {p wv qv:Value} {n home:Int} {t:List (Value × Value)} {W:List (List Int)} {q:List Int} {F:Nat→Prop}
  (hp:RdD w S (.ptr [.v (.int .i64 n),.mp t,.v (.int .i64 home),.v wv]) p) (hqv:RdD w S (.sl (rows q)) qv) (hw:NestF w wv W F) (hFS:∀ b o,S b o→¬ F b) (hFl:∀ x,F x→x < w.heap.size) (hWPs:∀ w',GrownL w w' none F→WP pb w') (hok:okNet ⟨n,t,home,W⟩) (hq:∀ x ∈ q,hI W.length x) (hql:q.length≤2000000) :
  Calls Tryd.prog 35 #[p,qv] w fun e w'=>e = .returned (.tuple #[])∧GrownL w w' none F∧∃ F',(∀ x,F' x→F x∨w.heap.size≤x)∧NestF w' wv (runL W.length (lkF t) home W q) F':=by
 refine ax_enter Tryd.func35 rfl Tryd.ntmps35 (by rw [Tryd.results35]) rfl rfl (fun _=>0) (fun _=>False) (args:=[NX n t home wv,isl q]) (m1:=[]) hsx hs1 rfl (by simp) (fun j y hy=>?_) (fun d ls h=>by cases h) (fun d d' ls ls' h=>by cases h) ?_
 ·match j,hy with
  | 0,hy =>
   obtain rfl:=Option.some.inj hy
   exact pt_one hp rfl fun _ _ h=>h
  | 1,hy=>obtain rfl:=Option.some.inj hy;exact .sl none _ qv hqv trivial
 obtain ⟨E0,hE0⟩:∃ E,E=en0 Tryd.prog w S (fun _=>0) (fun _=>False):=⟨_,rfl⟩
 have hP0:E0.P=Tryd.prog:=by rw [hE0];rfl
 have hd0:E0.draws=false:=by rw [hE0];rfl
 have hw0:E0.w0=w:=by rw [hE0];rfl
 have hL0:∀ b,¬ E0.L b:=fun b h=>by rw [hE0] at h;exact h
 have hS0:∀ b o,E0.S0 b o→S b o:=fun b o h=>by rw [hE0] at h;exact h
 rw [← hE0]
 have hE:TbOk E0 { T:=TT,G:=[],D:=[],draws:=false,lent:=true,X:=[6] }:=tb_newX [6] hP0 hd0 rfl tt
 unfold Eng.stM
 refine Ax_st hE [1,4] [] fun K hK=>?_
 simp only [go_sem,seval]
 refine hK _ ?_;clear hK K
 refine Ax_bk fun B1 hN1 hE1' hR1 hX1=>?_
 refine Ax_lpI (fun (i:Nat) (a:Act) (w':World)=>∃ (E:En) (c:Gh) (Fi:Nat→Prop),E.P=Tryd.prog∧E.draws=false∧(∀ b,¬ E.L b)∧c.w=w'∧RC E ⟨17,[(1,isl (q.drop i)),(4,.cl 37 true [NX n t home wv])],[],0⟩ a c∧i≤q.length∧
   NestF w' wv (runL W.length (lkF t) home W (q.take i)) Fi∧(∀ x,Fi x→(F x∨w.heap.size≤x)∧x < w'.heap.size)∧(∀ b o,c.S b o→¬ Fi b)∧GrownL w w' none F) (fun i=>q.length - i) 0 (fun _ a w' hr=>?_) ?_
 ·obtain ⟨c,rfl,hRC⟩:=hr.rc
  have hf:=hRC.1.fr
  rw [hd0,hw0] at hf
  have hg:=hf.by hL0
  refine ⟨E0,c,fun x=>F x∧x < c.w.heap.size,hP0,hd0,hL0,rfl,hRC,Nat.zero_le _,?_,fun x hx=>⟨.inl hx.1,hx.2⟩,fun b o h hb=>?_,gb_gl hg _⟩
  ·rw [List.take_zero,runL_nil]
   exact (hw.same fun b _ hlt=>hg.block b hlt (by simp)).mono fun x h1 h2=>⟨h2,h1⟩
  ·rcases hRC.1.sS b o h with h' | h'
   ·rw [hw0] at h'
    have:=hFl b hb.1
    omega
   ·exact hFS b o (hS0 b o h') hb.1
 rintro i a1 w1 ⟨E,c,Fi,hEP,hEd,hEL,rfl,hRC,hi,hNi,hFi,hSi,hGi⟩ B2 hN2 hR2 hX2
 have hR0:=hRC.re.r
 have hst:St.re ⟨17,[(1,isl (q.drop i)),(4,.cl 37 true [NX n t home wv])],[],0⟩=⟨17,[(1,isl (q.drop i)),(4,.cl 37 true [NX n t home wv])],[],0⟩:=rfl
 rw [hst] at hR0
 generalize hE1:reE E _ c=E1 at hR0
 have hP1:E1.P=Tryd.prog:=by rw [← hE1];exact hEP
 have hd1:E1.draws=false:=by rw [← hE1];rfl
 have hw1:E1.w0=c.w:=by rw [← hE1];rfl
 have hS1:∀ b o,E1.S0 b o→c.S b o:=fun b o h=>by rw [← hE1] at h;exact h
 have hL1:∀ b,¬ E1.L b:=fun b h=>by
  rw [← hE1] at h
  obtain ⟨d,ls,hl,_⟩:=h
  cases hl
 clear hE
 have hE:TbOk E1 { T:=TT,G:=[],D:=[],draws:=false,lent:=true,X:=[] }:=tb_newX [] hP1 hd1 rfl tt
 refine Ax.run (E:=E1) (st:=⟨17,[(1,isl (q.drop i)),(4,.cl 37 true [NX n t home wv])],[],0⟩) ?_ hP1 hR0
 refine Ax_sq fun B3 hB3 hR3 hX3=>?_
 refine Ax_st hE [1,4,9] [] fun K hK=>?_
 simp only [go_sem,seval]
 refine hK _ (Ax_cond rfl (fun hc4=>?_) (fun hc4=>?_))
 ·simp only [dte,List.length_drop] at hc4
  have hil:i < q.length:=by omega
  have hdr:(rows (q.drop i))[0]? = some [.v (.int .i64 (q.getD i 0))]:=by rw [rows_get _ 0 (by rw [List.length_drop];omega),List.getD_eq_getElem?_getD,List.getElem?_drop,← List.getD_eq_getElem?_getD];rfl
  have hx:=hq _ (getD_mem q i hil)
  have hok2:okNet ⟨n,t,home,runL W.length (lkF t) home W (q.take i)⟩:=okNet_run (N:=⟨n,t,home,W⟩) hok fun y hy=>hq y (List.mem_of_mem_take hy)
  have hlen:=runL_len (n:=W.length) (of:=lkF t) (home:=home) (q.take i) W
  have hnx:=run_next (N:=⟨n,t,home,W⟩) hil
  simp only at hnx
  refine Ax_skip (hB3 _ ?_)
  refine Ax_sq fun B5 hB5 hR5 hX5=>?_
  refine Ax_bk fun B6 hN6 hE6 hR6 hX6=>?_
  refine Ax_spt hE 4 fun K hK=>?_
  simp only [go_sem,seval,List.take_succ_cons,List.take_zero,hdr]
  repeat refine sd0 ?_
  refine hK _ fun a2 w2 hr2=>?_
  clear hK K
  obtain ⟨c2,rfl,h2⟩:=hr2.rc
  have h12:Rd c2 (.cl 37 true [NX n t home wv]) (a2.tmps.getD 12 undef):=h2.2.1 12
  obtain ⟨pv,e12,hpv⟩:=cl_val h12
  refine sp_callC rfl e12 rfl (stepI_ok pb).1 ?_
  simp only [List.map_toArray,List.map_cons,List.map_nil,Act.eval]
  rw [v_eq (h2.2.1 15:Rd c2 (iv (q.getD i 0)) _)]
  have hf2:=h2.1.fr
  rw [hd1,hw1] at hf2
  have hg2:=hf2.by hL1
  have hGc:GrownL w c2.w none F:=hGi.trans' (gb_gl hg2 fun _=>False) fun _ h=>h.elim
  have hS2:∀ b o,c2.S b o→¬ Fi b:=fun b o h hb=>by
   rcases h2.1.sS b o h with h' | h'
   ·rw [hw1] at h'
    have:=(hFi b hb).2
    omega
   ·exact hSi b o (hS1 b o h') hb
  have hGF:∀ w',GrownL c2.w w' none Fi→GrownL w w' none F:=fun w' hg=>hGc.trans' hg fun x hx=>by
   rcases (hFi x hx).1 with h | h
   ·exact .inr h
   ·exact .inl h
  show Calls _ _ #[pv,.int .i64 (q.getD i 0)] _ _
  refine (step_calls h2.1.sx h2.1.s1 hpv.ptr (hNi.same fun b _ hlt=>hg2.block b hlt (by simp)) hS2 (fun w' hg=>hWPs w' (hGF w' hg)) hok2 hx.1 (by rw [hlen];exact hx.2)).mono ?_
  rintro e w5 ⟨rfl,hg5,F',hF',hN5⟩
  refine ⟨_,rfl,?_⟩
  have hk5:Keeps c2.w c2.S w5 c2.S:=keeps_of_lt (fun _ _ h=>h) fun b o hS hlt=>hg5.block b hlt (by simp) fun hF=>hS2 b o hS hF
  have hR5':=h2.nxs (w':=w5) (S:=c2.S) hk5 (fun b o h=>hk5.lk h (h2.1.sx b o h)) (fun b o v hS hv=>s1_keep h2.1 hk5 hS hv) (fun d ls hl=>by cases hl) (x:=.tup []) (u:=.tuple #[]) (.tup _ _ rfl fun j y hy=>by cases hy) 16
  generalize hE5e:nxS E1 _ c2 w5 c2.S=E5 at hR5'
  have hP5:E5.P=Tryd.prog:=by rw [← hE5e];exact hP1
  have hd5:E5.draws=false:=by rw [← hE5e];rfl
  have hw5:E5.w0=w5:=by rw [← hE5e];rfl
  have hS5:∀ b o,E5.S0 b o→c2.S b o:=fun b o h=>by rw [← hE5e] at h;exact h
  have hL5:∀ b,¬ E5.L b:=fun b h=>by
   rw [← hE5e] at h
   obtain ⟨d,ls,hl,_⟩:=h
   cases hl
  clear hE
  have hE:TbOk E5 { T:=TT,G:=[],D:=[],draws:=false,lent:=true,X:=[] }:=tb_newX [] hP5 hd5 rfl tt
  refine sp_go hE hP5 hR5' ?_
  simp only [go_sem,seval,St.re,List.drop_succ_cons,List.drop_zero]
  refine hN6 _ (hB5 _ ?_)
  have htl:(q.drop i).take (q.length - i)=q.drop i:=List.take_of_length_le (by rw [List.length_drop];omega)
  refine Ax_tx hE [1,4] [] fun K hK=>?_
  simp only [go_sem,seval,htl,List.length_drop,List.drop_drop,rows_drop]
  refine ⟨⟨by omega,by omega,fun r hr=>?_⟩,hK _ fun hP6 a6 w6 hr6=>?_⟩
  ·obtain ⟨x,_,rfl⟩:=List.mem_map.1 hr
   rfl
  obtain ⟨c6,rfl,h6⟩:=hr6.rc
  have hf6:=h6.1.fr
  rw [hd5,hw5] at hf6
  have hg6:=hf6.by hL5
  rw [hlen,hnx] at hN5
  refine hN2 (i + 1) a6 c6.w (by omega) ⟨E5,c6,fun x=>F' x∧x < w5.heap.size,hP5,hd5,hL5,rfl,h6,by omega,(hN5.mono fun x h1 h2=>⟨h2,h1⟩).same fun b hb hlt=>hg6.block b hlt (by simp),fun x hx=>⟨?_,Nat.lt_of_lt_of_le hx.2 hg6.size⟩,fun b o h hb=>?_,(hGF w5 hg5).trans' (gb_gl hg6 fun _=>False) fun _ h=>h.elim⟩
  ·rcases hF' x hx.1 with h | h
   ·exact (hFi x h).1
   ·exact .inr (Nat.le_trans hGc.size h)
  ·rcases h6.1.sS b o h with h' | h'
   ·rw [hw5] at h'
    have:=hb.2
    omega
   ·have h'':=hS5 b o h'
    rcases hF' b hb.1 with h3 | h3
    ·exact hS2 b o h'' h3
    ·have:=h2.1.slt h''
     omega
 ·simp only [dfn,List.length_drop] at hc4
  obtain rfl:i=q.length:=by omega
  refine Ax_exit (hX3 _ _ (hX2 _ _ (hE1' _ ?_)))
  refine bp_ret0 (.inr rfl) (by rw [Tryd.results35]) fun a6 c6 h6=>?_
  have hf6:=h6.1.fr
  rw [hd1,hw1] at hf6
  have hg6:=hf6.by hL1
  rw [List.take_length] at hNi
  refine ⟨rfl,hGi.trans' (gb_gl hg6 fun _=>False) fun _ h=>h.elim,Fi,fun x hx=>(hFi x hx).1,hNi.same fun b _ hlt=>hg6.block b hlt (by simp)⟩
def cNoV:ConM:=mkM (fun _=>True) eNo (fun i=>1≤i.2.2∧i.2.2≤i.1∧i.1≤1000) fun i r m2=>r = .loc 12 0∧lkm 12 m2=some [iv i.1,.dv (.mp i.2.1),iv i.2.2,.xs 10 0 i.1.toNat i.1.toNat 1]∧lkm 10 m2=some ((List.replicate i.1.toNat AV.nl).set (i.2.2 - 1).toNat (.xs 20 0 1 1 1))∧lkm 20 m2=some [iv i.2.2]
theorem nl_setnt (n k:Nat):AV.ntAll ((List.replicate n AV.nl).set k (.xs 20 0 1 1 1))=(List.replicate n AV.nl).set k (.xs 20 0 1 1 1):=by rw [ntAll_eq,List.map_set,List.map_replicate];rfl
attribute [go_sem] nl_setnt
set_option maxHeartbeats 4000000 in
theorem nothingV_ok:FineM Tryd.prog 34 cNoV:=by
 refine fineM_of [] ms_nil [] mm_nil [10,20] [] ex_nil (T:=TT) Tryd.func34 rfl Tryd.ntmps34 (by rw [Tryd.results34]) rfl rfl tt gs_nil ds_nil ?_
 rintro args m1 ⟨⟨n,t,x⟩,e,h1,h2,h3⟩
 obtain ⟨rfl,rfl⟩:=Prod.mk.inj e.symm
 refine ⟨by simp,fun E hE Q hQ=>?_⟩
 simp only at h1 h2 h3
 refine Aw_st hE [1,2] [2,10,12,20] fun K hK=>?_
 simp only [go_sem,seval]
 refine hK _ ?_;clear hK K
 apply (fun F0 F1=>Aw_sD hE [([0,1,2,3],(.alt 4 (.ref 1) .non)),([0,1,2,3,4],(.alt 5 (.alt 6 (.fst 7 .done) .non) .non))] (.fst 1 (.fst 2 (.alt 0 (.alt 3 (.ref 0) .non) (.alt 3 (.alt 0 (.ref 0) (.alt 4 (.alt 0 (.ref 1) .non) .non)) .non)))) [F0,F1] [1,5] [10,12,20])
 ·kernel_rfl
 intro K hK
 refine And.intro ?_ (And.intro ?_ (And.intro ?_ trivial))
 iterate 2 (focus (simp only [go_sem,seval];repeat' (first | exact (fun _ _ r=>r) | exact LeE_eq (by simp only [go_sem,seval]) (by simp only [go_sem,seval]) | exact LeE_wk (by simp only [go_sem,seval]) (by simp only [go_sem,seval]) | refine And.intro (by first|omega|(and_intros<;>first|omega|exact crows_row _|exact rrows_row _|exact rows_row _|decide|(simp<;>omega))|fail) ?_ | refine And.intro ?_ ?_)))
 simp only [go_sem,seval]
 refine hK _ ?_;clear hK K
 have hlt:(x - 1).toNat < n.toNat:=by omega
 refine Aw_st hE [5] [10,12,20] fun K hK=>?_
 simp only [go_sem,seval,List.length_replicate]
 refine ⟨⟨by omega,by omega⟩,by omega,by omega,?_⟩
 refine hK _ ?_;clear hK K
 refine Aw_st hE [4] [10,12,20] fun K hK=>?_
 simp only [go_sem,seval]
 refine hK _ (Aw_ret (hQ _ ?_))
 simp only [go_sem,seval]
 exact ⟨(n,t,x),rfl,rfl,rfl,rfl,rfl⟩
theorem m_callsS {P:Program} {f:FuncId} {C:ConM} (h:FineM P f C) {w:World} {S:Nat→Nat→Prop} (hsx:∀ b o,S b o→Lk w b o) (hs1:∀ b o v,S b o→w.cell? ⟨b,o,none⟩=some v→v.oneCell'=true) {args:List AV} {vs:Array Value}
  (hsz:vs.size=args.length) (hrd:∀ (j:Nat) (x:AV),args[j]? = some x→∀ c:Gh,c.w=w→c.S=S→Rd c x (vs.getD j undef)) (hnt:∀ x ∈ args,x.nt=x) (hpre:C.pre args []) (hinv:∀ w',w.grownBy w' none→C.inv w') :
  Calls P f vs w fun e w'=>∃ v r m2 c c',c.w=w∧c.S=S∧e = .returned v∧C.post args [] r m2∧OutM P c [] m2 r v w' c':=by
 let c:Gh:={ w:=w,S:=S,β:=fun _=>0,tv:=fun _ _=>.slice none 0 0,te:=fun _ _=>0,g:=0 }
 refine (h.2 c args [] vs hsz (fun j x hx=>hrd j x hx c rfl rfl) hnt hpre (fun w' hw=>hinv w' (hw.by fun b ⟨d,ls,h,_⟩=>by cases h)) hsx hs1 (fun d ls h=>by cases h) (fun d d' l l' h=>by cases h)).mono ?_
 rintro e w' ⟨v,r,m2,c',h1,h2,h3⟩
 exact ⟨v,r,m2,c,c',rfl,rfl,h1,h2,h3⟩
structure NetF (w w':World) (S S':Nat→Nat→Prop) (p:Value) (n:Int) (t:List (Value × Value)) (home:Int) (wv:Value) (W:List (List Int)) (F:Nat→Prop):Prop where
 rd:RdD w' S' (.ptr [.v (.int .i64 n),.mp t,.v (.int .i64 home),.v wv]) p
 sx:∀ b o,S' b o→Lk w' b o
 s1:∀ b o v,S' b o→w'.cell? ⟨b,o,none⟩=some v→v.oneCell'=true
 sS:∀ b o,S' b o→w.heap.size≤b∨S b o
 nest:NestF w' wv W F
 fb:∀ x,F x→w.heap.size≤x∧x < w'.heap.size
 av:∀ b o,S' b o→¬ F b
theorem no_calls {c0:Gh} (hsx:∀ b o,c0.S b o→Lk c0.w b o) (hs1:∀ b o v,c0.S b o→c0.w.cell? ⟨b,o,none⟩=some v→v.oneCell'=true) {v:Value} {n x:Int} {t:List (Value × Value)} (hv:Rd c0 (.agg [iv n,.dv (.mp t)]) v) (h1:1≤x) (h2:x≤n) (h3:n≤1000) :
  Calls Tryd.prog 34 #[v,.int .i64 x] c0.w fun e w'=>c0.w.grownBy w' none∧∃ p wv S' F,e = .returned p∧NetF c0.w w' c0.S S' p n t x wv (noneL n.toNat x) F:=by
 have hv':∀ c:Gh,c.w=c0.w→c.S=c0.S→Rd c (.agg [iv n,.dv (.mp t)]) v:=fun c hw hS=>by
  cases hv with
  | agg ls cs hn hh =>
   refine .agg _ cs hn fun j y hy=>?_
   match j,hy with
   | 0,hy =>
    obtain rfl:=Option.some.inj hy
    have:=hh 0 (iv n) rfl
    rw [v_eq this];exact .v _ rfl
   | 1,hy =>
    obtain rfl:=Option.some.inj hy
    have h1:=hh 1 (.dv (.mp t)) rfl
    have h2:RdD c0.w c0.S (.mp t) (cs.getD 1 undef):=by generalize cs.getD 1 undef=z at h1;cases h1;assumption
    exact .dv _ _ (by rw [hw,hS];exact h2)
 refine (m_callsS nothingV_ok (S:=c0.S) hsx hs1 (args:=[.agg [iv n,.dv (.mp t)],iv x]) rfl (fun j y hy c hw hS=>?_) (fun y hy=>?_) ⟨(n,t,x),rfl,h1,h2,h3⟩ fun _ _=>trivial).mono ?_
 ·match j,hy with
  | 0,hy=>obtain rfl:=Option.some.inj hy;exact hv' c hw hS
  | 1,hy=>obtain rfl:=Option.some.inj hy;exact .v _ rfl
 ·simp only [List.mem_cons,List.not_mem_nil,or_false] at hy
  rcases hy with rfl | rfl<;>rfl
 ·rintro e w' ⟨u,r,m2,c,c',hcw,hcS,rfl,⟨i,e',rfl,g12,g10,g20⟩,O⟩
  obtain rfl:=eNo_inj i (n,t,x) e'
  have hg:=outM_grown O
  rw [hcw] at hg
  simp only at g12 g10 g20
  have hp:u = .pointer (some ⟨c'.β 12,0,none⟩):=by have:=O.rd;generalize u=z at this;cases this;rfl
  have hlo:∀ d ls,lkm d m2=some ls→c0.w.heap.size≤c'.β d∧c'.β d < w'.heap.size:=fun d ls hl=>by
   have h1:=(O.box d ls hl).lt
   rw [O.w,hcw] at h1
   exact ⟨h1.1.elim id fun ⟨k,ls,hk,_⟩=>(by cases hk),h1.2⟩
  obtain ⟨cs12,T12,_,b12,s12,r12,a12⟩:=(O.box 12 _ g12).cells rfl
  obtain ⟨cs10,T10,_,b10,s10,r10,a10⟩:=(O.box 10 _ g10).cells rfl
  obtain ⟨cs20,T20,_,b20,s20,r20,a20⟩:=(O.box 20 _ g20).cells rfl
  rw [O.w] at b12 b10 b20
  have hne1:c'.β 10≠c'.β 20:=fun h=>by have:=O.boxinj 10 20 _ _ g10 g20 h;omega
  have hne2:c'.β 12≠c'.β 10:=fun h=>by have:=O.boxinj 12 10 _ _ g12 g10 h;omega
  have hne3:c'.β 12≠c'.β 20:=fun h=>by have:=O.boxinj 12 20 _ _ g12 g20 h;omega
  have hwv:cs12.getD 3 undef = .slice (some ⟨c'.β 10,0,none⟩) n.toNat n.toNat:=(xs_val (r12 3 _ rfl) rfl).1
  have hc12:∀ j,j < 4→w'.cell? ⟨c'.β 12,0 + j,none⟩=some (cs12.getD j undef):=fun j hj=>by
   have:j < cs12.size:=by rw [s12];exact hj
   rw [Nat.zero_add,cell_of_row w' _ j cs12 T12 (0,0) b12,getD_get this]
  have hkS:Keeps w' c'.S w' (fun b o=>c'.S b o∨(b=c'.β 12∧o < 4)):=Keeps.same (fun _ _ h=>.inl h) fun _ _ _=>rfl
  have hone:∀ j,j < 4→(cs12.getD j undef).oneCell'=true:=fun j hj=>by
   match j,hj with
   | 0,_=>rw [v_eq (r12 0 _ rfl)];rfl
   | 1,_ =>
    have h1:=r12 1 _ rfl
    have h2:RdD c'.w c'.S (.mp t) (cs12.getD 1 undef):=by generalize cs12.getD 1 undef=z at h1;cases h1;assumption
    exact h2.one
   | 2,_=>rw [v_eq (r12 2 _ rfl)];rfl
   | 3,_=>rw [hwv];rfl
  refine ⟨hg,u,cs12.getD 3 undef,fun b o=>c'.S b o∨(b=c'.β 12∧o < 4),fun y=>y=c'.β 10∨y=c'.β 20,rfl,⟨?_,fun b o h=>?_,fun b o v' h hv'=>?_,fun b o h=>?_,?_,fun y hy=>?_,fun b o h hb=>?_⟩⟩
  ·rw [hp]
   refine .ptr _ (c'.β 12) 0 (fun j=>cs12.getD j undef) (fun k hk=>⟨.inr ⟨rfl,by simpa using hk⟩,hc12 k hk⟩) fun j y hy=>?_
   match j,hy with
   | 0,hy=>obtain rfl:=Option.some.inj hy;rw [v_eq (r12 0 _ rfl)];exact .v _ rfl
   | 1,hy =>
    obtain rfl:=Option.some.inj hy
    have h1:=r12 1 _ rfl
    have h2:RdD c'.w c'.S (.mp t) (cs12.getD 1 undef):=by generalize cs12.getD 1 undef=z at h1;cases h1;assumption
    rw [O.w] at h2
    exact h2.keep hkS
   | 2,hy=>obtain rfl:=Option.some.inj hy;rw [v_eq (r12 2 _ rfl)];exact .v _ rfl
   | 3,hy=>obtain rfl:=Option.some.inj hy;exact .v _ (hone 3 (by decide))
  ·rcases h with h | ⟨rfl,h⟩
   ·have:=O.sx b o h;rwa [O.w] at this
   ·have:=hc12 o h
    rw [Nat.zero_add] at this
    exact .inl ⟨_,this⟩
  ·rcases h with h | ⟨rfl,h⟩
   ·exact O.s1 b o v' h (by rw [O.w];exact hv')
   ·have:=hc12 o h
    rw [Nat.zero_add] at this
    rw [this] at hv'
    obtain rfl:=Option.some.inj hv'
    exact hone o h
  ·rcases h with h | ⟨rfl,_⟩
   ·have:=O.S b o h
    rw [hcw,hcS] at this
    exact this
   ·exact .inl (hlo 12 _ g12).1
  ·have hnl:(noneL n.toNat x).length=n.toNat:=noneL_len
   have h10:cs10.size=n.toNat:=by rw [s10,List.length_set,List.length_replicate]
   have hxk:(x - 1).toNat < n.toNat:=by omega
   have hvs:∀ i,i < n.toNat→cs10.toList.getD i undef=cs10.getD i undef:=fun i hi=>by
    rw [List.getD_eq_getElem?_getD,Array.getD_eq_getD_getElem?,Array.getElem?_toList]
   have hrowk:RowO w' (cs10.getD (x - 1).toNat undef) [x] (c'.β 20):=by
    have h1:=r10 (x - 1).toNat (.xs 20 0 1 1 1) (by rw [List.getElem?_set_self (by rw [List.length_replicate];exact hxk)])
    refine .inl ⟨by simp,1,cs20,T20,(xs_val h1 rfl).1,b20,by rw [s20];rfl,Nat.le_refl _,fun k hk=>?_⟩
    have:k=0:=by simpa using hk
    subst this
    rw [v_eq (r20 0 _ rfl)];rfl
   have hgk:(noneL n.toNat x).getD (x - 1).toNat []=[x]:=by rw [noneL,List.getD_eq_getElem?_getD,List.getElem?_set_self (by rw [List.length_replicate];exact hxk)];rfl
   have hgo:∀ i,i≠(x - 1).toNat→(noneL n.toNat x).getD i []=[]:=fun i hi=>by
    rw [noneL,List.getD_eq_getElem?_getD,List.getElem?_set_ne (fun h=>hi h.symm),List.getElem?_replicate]
    split<;>rfl
   refine ⟨cs10.toList,fun _=>c'.β 20,c'.β 10,⟨⟨T10,by rw [hnl];exact hwv,by simpa using b10⟩,by rw [hnl,Array.length_toList];exact h10,fun i hi=>?_,fun i j hi hj hni hnj _=>?_⟩,.inl rfl,fun _ _ _=>.inr rfl⟩
   ·rw [hnl] at hi
    rw [hvs i hi]
    by_cases e:i=(x - 1).toNat
    ·subst e
     rw [hgk]
     exact ⟨hrowk,fun _ h=>hne1 h.symm⟩
    ·rw [hgo i e]
     have h1:=r10 i .nl (by rw [List.getElem?_set_ne (fun h=>e h.symm),List.getElem?_replicate,if_pos hi])
     have h2:cs10.getD i undef = .slice none 0 0:=by generalize cs10.getD i undef=z at h1;cases h1;rfl
     exact ⟨.inr ⟨rfl,.inl h2⟩,fun h=>absurd rfl h⟩
   ·by_cases e:i=(x - 1).toNat
    ·by_cases e':j=(x - 1).toNat
     ·omega
     ·exact absurd (hgo j e') hnj
    ·exact absurd (hgo i e) hni
  ·rcases hy with rfl | rfl
   ·exact hlo 10 _ g10
   ·exact hlo 20 _ g20
  ·rcases h with h | ⟨rfl,_⟩
   ·rcases hb with rfl | rfl
    ·exact a10 o h
    ·exact a20 o h
   ·rcases hb with h | h
    ·exact hne2 h
    ·exact hne3 h
def dNetEndI (pb:Addr):DFn:={ g:=gNetEnd,inv:=WP pb }
attribute [go_sem] dNetEndI
theorem runI_preL (pb:Addr) (n:Int) (t:List (Value × Value)) (home:Int) {W:List (List Int)} {l:Nat} (hl:W.length=l) (q:List Int):(cRunI pb).pre [.loc 1000 0,isl q] [(1000,[iv n,.dv (.mp t),iv home,.xs 1001 0 l l 1]),(1001,cWs W)]=(okNet ⟨n,t,home,W⟩∧(∀ x ∈ q,hI W.length x)∧q.length≤2000000):=by subst hl;exact runI_pre pb n t home W q
theorem runI_postL (pb:Addr) (n:Int) (t:List (Value × Value)) (home:Int) {W:List (List Int)} {l:Nat} (hl:W.length=l) (q:List Int) (K:AV→List (Nat × List AV)→Prop):(∀ r m2,(cRunI pb).post [.loc 1000 0,isl q] [(1000,[iv n,.dv (.mp t),iv home,.xs 1001 0 l l 1]),(1001,cWs W)] r m2→K r m2)=K (.tup []) [(1000,[iv n,.dv (.mp t),iv home,.xs 1001 0 l l 1]),(1001,cWs (runL W.length (lkF t) home W q))]:=by subst hl;exact runI_post pb n t home W q K
theorem hs_snoc (n:Nat):hs (n + 1)=hs n++[(n:Int) + 1]:=by
 unfold hs;rw [List.range_succ,List.map_append];rfl
theorem hs_len (n:Nat):(hs n).length=n:=by simp [hs]
theorem rnd_snoc (n k:Nat):rndL n (k + 1)=rndL n k++hs n:=by
 unfold rndL
 rw [List.replicate_succ',List.flatten_append];simp
set_option maxHeartbeats 4000000 in
theorem iNetEnd_ok (pb:Addr):Fine Tryd.prog 17 (dNetEndI pb).con:=by
 refine fine_detX [] gl_nil [] ms_nil [(34,(cNothing,[],[(12,600),(10,640)])),(35,(cRunI pb,[(1000,1000)],[]))] (mm_cons nothing_ok (by decide) (mm_cons (runI_ok pb) (by decide) mm_nil (wp_inh pb)) (nt_inh pb)) [] [] ex_nil (T:=TT) Tryd.func17 rfl Tryd.ntmps17 (by rw [Tryd.results17]) rfl rfl tt (gs_cons readRels_ok gs_nil) (ds_cons hasM_ok ds_nil) ?_
 intro args c r h hc
 simp only [dNetEndI,gNetEnd] at h
 split at h
 rotate_left
 ·cases h
 split at h
 rotate_left
 ·cases h
 rename_i t1 els x _ R hiw1
 obtain rfl:=waysL_eq hiw1
 obtain ⟨rfl,rfl⟩:=Prod.mk.inj (Option.some.inj h)
 refine ⟨by simp,fun k E hE Q hQ=>?_⟩
 refine Aw_st hE [0,1] [5,625,665] fun K hK=>?_
 simp only [go_sem,seval]
 refine hK _ ?_;clear hK K
 refine Aw_st hE [1,5,6] [5,625,665] fun K hK=>?_
 simp only [go_sem,seval,hc]
 refine ⟨fun hno=>?_,fun hok t hmp hlk=>?_⟩
 ·refine hK _ ?_;clear hK K
  refine Aw_sq fun B1 hB1 hR1 hX1=>?_
  refine Aw_st hE [1,5,22] [5,625,665] fun K hK=>?_
  simp only [go_sem,seval]
  refine hK _ (Aw_yes rfl ?_)
  refine Aw_st hE [4] [5,625,665] fun K hK=>?_
  simp only [go_sem,seval]
  refine hK _ (Aw_ret (hR1 _ (hQ _ ?_)))
  simp only [go_sem,seval,hno,Bool.false_and,Bool.false_eq_true]
 refine hK _ ?_;clear hK K
 refine Aw_sq fun B1 hB1 hR1 hX1=>?_
 cases h1:hIb R.length x with
 | false =>
  have h1':=h1
  unfold hIb at h1
  refine Aw_st hE [1,5,22] [5,625,665] fun K hK=>?_
  refine aops_cut 6 fun K1 hK1=>?_
  simp only [go_sem,seval,h1,Bool.not_true,Bool.not_false]
  repeat refine sd0 ?_
  refine hK1 _ ?_
  clear hK1
  simp only [go_sem,seval,h1,Bool.not_true,Bool.not_false]
  repeat refine sd0 ?_
  refine hK _ (Aw_yes rfl ?_)
  refine Aw_st hE [4] [5,625,665] fun K hK=>?_
  simp only [go_sem,seval]
  refine hK _ (Aw_ret (hR1 _ (hQ _ ?_)))
  simp only [go_sem,seval,h1',Bool.and_false,Bool.false_eq_true]
 | true =>
 have h1b:(decide (1≤x) && decide (x≤R.length))=true:=h1
 obtain ⟨g1,g2⟩:=hIb_iff.1 h1
 have hn5:=(relsOk_iff.1 hok).1.2
 have hn6:(R.length:Int)≤1000:=by omega
 have hnone:okNet ⟨R.length,t,x,noneL R.length x⟩:=⟨hmp,by simp only [noneL_len];omega,by simp only [hlk,noneL_len,toS_none (show hI R.length x from ⟨g1,g2⟩)];exact netS_none hn5 ⟨g1,g2⟩⟩
 refine Aw_st hE [1,5,22] [5,625,665] fun K hK=>?_
 refine aops_cut 6 fun K1 hK1=>?_
 simp only [go_sem,seval,h1b,Bool.not_true,Bool.not_false]
 repeat refine sd0 ?_
 refine hK1 _ ?_
 clear hK1
 simp only [go_sem,seval,h1b,Bool.not_true,Bool.not_false]
 repeat refine sd0 ?_
 refine hK _ (Aw_no rfl (Aw_skip (hB1 _ ?_)))
 refine Aw_st hE [5,7] [5,625,665] fun K hK=>?_
 simp only [go_sem,seval,g1,g2,hn6,Int.toNat_natCast]
 refine ⟨by decide,?_⟩
 refine hK _ ?_;clear hK K
 refine Aw_sq fun B5 hB5 hR5 hX5=>?_
 refine Aw_st hE [5,7,28,29] [5,625,665] fun K hK=>?_
 simp only [go_sem,seval]
 repeat refine sd0 ?_
 refine hK _ ?_;clear hK K
 refine Aw_bk fun B6 hN6 hE6 hR6 hX6=>?_
 have e0:runL R.length (lkF t) x (noneL R.length x) (rndL R.length 0)=noneL R.length x:=rfl
 have eh0:hs 0=[]:=rfl
 have h4n:4 * (R.length:Int)=((4 * R.length:Nat):Int):=by rw [Int.natCast_mul];rfl
 refine Aw_lp (fun i:Nat=>⟨49,[(5,.loc 5 0),(7,.loc 625 0),(28,iv ((4 * R.length:Nat):Int)),(29,iv (i:Int))],[(5,[iv R.length,.dv (.mp t)]),(625,[iv R.length,.dv (.mp t),iv x,.xs 665 0 R.length R.length 1]),(665,cWs (runL R.length (lkF t) x (noneL R.length x) (rndL R.length i)))],k⟩) (fun i=>i≤4 * R.length) (fun i=>4 * R.length - i) 0 (Le_wc (by simp only [go_sem,seval,h4n]) (by simp only [go_sem,seval,e0])) (by omega) fun i hi B7 hN7 hR7 hX7=>?_
 refine Aw_st hE [5,7,28,29,30] [5,625,665] fun K hK=>?_
 simp only [go_sem,seval]
 refine hK _ ?_;clear hK K
 refine Aw_sq fun B8 hB8 hR8 hX8=>?_
 refine (Aw_cond rfl (fun hc9=>?_) (fun hc9=>?_))
 rotate_left
 ·simp only [dfn] at hc9
  obtain rfl:i=4 * R.length:=by omega
  refine Aw_exit (hX8 _ _ (hX7 _ _ (hE6 _ (hB5 _ ?_))))
  refine Aw_st hE [4] [5,625,665] fun K hK=>?_
  simp only [go_sem,seval]
  refine hK _ ?_
  refine Aw_frz hE rfl 665 R.length (ls:=cWs (runL R.length (lkF t) x (noneL R.length x) (rndL R.length (4 * R.length)))) (ys:=wD (runL R.length (lkF t) x (noneL R.length x) (rndL R.length (4 * R.length)))) rfl (by rw [List.take_of_length_le (by rw [cWs_len,runL_len,noneL_len];omega)];exact ofAll_cWs _) ?_
  have hfz:=frz_wD (L:=endL R.length (ofR R) x) (l:=R.length) ((runL_len _ _).trans noneL_len)
  have heq:runL R.length (lkF t) x (noneL R.length x) (rndL R.length (4 * R.length))=endL R.length (ofR R) x:=by rw [hlk];rfl
  refine Aw_ret (hQ _ ?_)
  simp only [go_sem,seval,heq,hfz,hok,h1,Bool.and_self]
 simp only [dte] at hc9
 refine Aw_skip (hB8 _ ?_)
 refine Aw_sq fun B10 hB10 hR10 hX10=>?_
 refine Aw_bk fun B11 hN11 hE11 hR11 hX11=>?_
 refine Aw_st hE [5,7,8,28,29] [5,625,665] fun K hK=>?_
 simp only [go_sem,seval]
 refine hK _ ?_;clear hK K
 refine Aw_sq fun B12 hB12 hR12 hX12=>?_
 refine Aw_st hE [5,7,8,9,28,29] [5,625,665] fun K hK=>?_
 simp only [go_sem,seval]
 refine hK _ ?_;clear hK K
 refine Aw_bk fun B13 hN13 hE13 hR13 hX13=>?_
 refine Aw_lp (fun j:Nat=>⟨49,[(5,.loc 5 0),(7,.loc 625 0),(8,.sl (some (40,0,3)) (rows (hs j))),(9,iv ((j:Int) + 1)),(28,iv ((4 * R.length:Nat):Int)),(29,iv (i:Int))],[(5,[iv R.length,.dv (.mp t)]),(625,[iv R.length,.dv (.mp t),iv x,.xs 665 0 R.length R.length 1]),(665,cWs (runL R.length (lkF t) x (noneL R.length x) (rndL R.length i)))],k⟩) (fun j=>j≤R.length) (fun j=>R.length - j) 0 ((Le_own 40 3 8 rfl).trans (Le_wk (Nat.le_refl _) (by simp only [go_sem,seval,eh0]) (by simp only [go_sem,seval]))) (by omega) fun j hj B14 hN14 hR14 hX14=>?_
 refine Aw_sq fun B15 hB15 hR15 hX15=>?_
 refine Aw_st hE [5,7,8,9,28,29,34] [5,625,665] fun K hK=>?_
 simp only [go_sem,seval]
 refine hK _ (Aw_cond rfl (fun hc16=>?_) (fun hc16=>?_))
 ·simp only [dte] at hc16
  refine Aw_skip (hB15 _ ?_)
  refine Aw_sq fun B17 hB17 hR17 hX17=>?_
  refine Aw_bk fun B18 hN18 hE18 hR18 hX18=>?_
  have hhl:=hs_len j
  have hap:rows (hs j)++[[DV.v (.int .i64 ((j:Int) + 1))]]=rows (hs (j + 1)):=by rw [hs_snoc j,← rows_app];rfl
  refine Aw_tx hE [5,7,8,9,28,29] [5,625,665] fun K hK=>?_
  simp only [go_sem,seval,hhl,hap]
  refine ⟨⟨rows_row _,by omega⟩,?_⟩
  refine hK _ (hN18 _ (hB17 _ ?_))
  refine Aw_tx hE [5,7,8,9,28,29] [5,625,665] fun K hK=>?_
  simp only [go_sem,seval]
  repeat refine sd0 ?_
  refine hK _ (hN14 (j + 1) _ (by omega) (by omega) (by simp only [Int.natCast_add,Int.natCast_one];exact Le.refl _))
 ·simp only [dfn] at hc16
  obtain rfl:j=R.length:=by omega
  refine Aw_exit (hX15 _ _ (hX14 _ _ (hE13 _ (hB12 _ ?_))))
  have hlen:=(runL_len (n:=R.length) (of:=lkF t) (home:=x) (rndL R.length i) (noneL R.length x)).trans noneL_len
  have hok2:okNet ⟨R.length,t,x,runL R.length (lkF t) x (noneL R.length x) (rndL R.length i)⟩:=by
   have:=okNet_run (N:=⟨R.length,t,x,noneL R.length x⟩) (q:=rndL R.length i) hnone (by simp only [noneL_len];exact rnd_mem)
   simpa only [Nt.run,noneL_len] using this
  have hsn:runL R.length (lkF t) x (runL R.length (lkF t) x (noneL R.length x) (rndL R.length i)) (hs R.length)=runL R.length (lkF t) x (noneL R.length x) (rndL R.length (i + 1)):=by rw [rnd_snoc,runL_app]
  have hin:∀ y ∈ hs R.length,hI R.length y:=fun y hy=>mem_hs.1 hy
  have hhl:=hs_len R.length
  have hn9:R.length≤2000000:=by omega
  have hpre:=runI_preL pb R.length t x hlen (hs R.length)
  have hpost:=fun K=>runI_postL pb R.length t x hlen (hs R.length) K
  refine Aw_tx hE [5,7,28,29] [5,625,665] fun K hK=>?_
  simp only [go_sem,seval,hpre,hpost,hlen,hok2,hhl,hsn]
  refine ⟨by decide,⟨hin,hn9⟩,?_⟩
  refine hK _ (hN11 _ (hB10 _ ?_))
  refine Aw_tx hE [5,7,28,29] [5,625,665] fun K hK=>?_
  simp only [go_sem,seval]
  repeat refine sd0 ?_
  refine hK _ (hN7 (i + 1) _ (by omega) (by omega) (Le.refl _))
def nend (R:List (List Int)) (x:Int):List (List Int):=if relsOk R && hIb R.length x then endL R.length (ofR R) x else []
theorem sl_rdt {c:Gh} {tk:Option (Nat × Nat × TypeId)} {els:List (List DV)} {v:Value} (h:Rd c (.sl tk els) v):RdD c.w c.S (.sl els) v:=by cases h;assumption
set_option maxHeartbeats 8000000 in
theorem nend_calls {pb:Addr} {w:World} (hI0:WP pb w) {R:List (List Int)} {x:Int} {v0:Value} (h0:RdD w (allS w) (.sl (wrows R)) v0) (hbR:bigM R) :
  Calls Tryd.prog 17 #[v0,.int .i64 x] w fun e w'=>∃ u,e = .returned u∧w.grownBy w' none∧NestN w' u (nend R x) w.heap.size w'.heap.size:=by
 refine ax_enter Tryd.func17 rfl Tryd.ntmps17 (by rw [Tryd.results17]) rfl rfl (fun _=>0) (fun _=>False) (args:=[wsl R,iv x]) (m1:=[]) (fun _ _ h=>allS_lk h) (fun _ _ _ h hv=>allS_one h hv) rfl (by simp) (fun j y hy=>?_) (fun d ls h=>by cases h) (fun d d' ls ls' h=>by cases h) ?_
 ·match j,hy with
  | 0,hy=>obtain rfl:=Option.some.inj hy;exact .sl none _ v0 h0 trivial
  | 1,hy=>obtain rfl:=Option.some.inj hy;exact .v _ rfl
 have hWP:∀ w',w.grownBy w' none→WP pb w':=fun w' hg=>wp_inh pb w w' 0 hI0 hg
 obtain ⟨E0,hE0⟩:∃ E,E=en0 Tryd.prog w (allS w) (fun _=>0) (fun _=>False):=⟨_,rfl⟩
 have hP0:E0.P=Tryd.prog:=by rw [hE0];rfl
 have hd0:E0.draws=false:=by rw [hE0];rfl
 have hw0:E0.w0=w:=by rw [hE0];rfl
 have hL0:∀ b,¬ E0.L b:=fun b h=>by rw [hE0] at h;exact h
 rw [← hE0]
 have hE:TbOk E0 { T:=TT,G:=[(33,cRR)],D:=[(29,dHasM)],draws:=false }:=tb_newG hP0 hd0 hL0 rfl tt (GOk.cons readRels_ok (fun _ _=>trivial) GOk.nil) (DOk.cons hasM_ok (fun _ _=>trivial) DOk.nil)
 have nil0:nend R x=[]→AQ Tryd.prog E0 (bodyPost Tryd.prog Tryd.f17 fun e w'=>∃ u,e = .returned u∧w.grownBy w' none∧NestN w' u (nend R x) w.heap.size w'.heap.size) .ret ⟨49,[(4,.nl)],[],0⟩:=fun hn=>bp_ret (by rw [Tryd.results17]) fun a' c hc=>by
  have h8:Rd c .nl (a'.tmps.getD 4 undef):=hc.2.1 4
  have e8:a'.tmps.getD 4 undef = .slice none 0 0:=by generalize a'.tmps.getD 4 undef=z at h8;cases h8;rfl
  have hf:=hc.1.fr
  rw [hd0,hw0] at hf
  exact ⟨_,rfl,hf.by hL0,.inr ⟨e8,hn⟩⟩
 unfold Eng.stM
 refine Ax_st hE [0,1] [5] fun K hK=>?_
 simp only [go_sem,seval]
 refine hK _ ?_;clear hK K
 refine Ax_st hE [1,5,6] [5] fun K hK=>?_
 simp only [go_sem,seval,hbR]
 refine ⟨fun hno=>?_,fun hok t hmp hlk=>?_⟩
 ·refine hK _ ?_;clear hK K
  refine Ax_sq fun B1 hB1 hR1 hX1=>?_
  refine Ax_st hE [1,5,22] [5] fun K hK=>?_
  simp only [go_sem,seval]
  refine hK _ (Ax_yes rfl ?_)
  refine Ax_st hE [4] [999] fun K hK=>?_
  simp only [go_sem,seval]
  exact hK _ (Ax_ret (hR1 _ (nil0 (by simp only [nend,hno,Bool.false_and,Bool.false_eq_true,if_false]))))
 refine hK _ ?_;clear hK K
 refine Ax.leE (LeE_frzL hE 5 2 (ls:=[iv R.length,.dv (.mp t)]) (ys:=[.v (.int .i64 R.length),.mp t]) rfl rfl rfl) ?_
 simp only [go_sem,seval]
 refine Ax_sq fun B1 hB1 hR1 hX1=>?_
 cases h1:hIb R.length x with
 | false =>
  have h1':=h1
  unfold hIb at h1
  refine Ax_st hE [1,5,22] [5] fun K hK=>?_
  refine aops_cut 6 fun K1 hK1=>?_
  simp only [go_sem,seval,h1,Bool.not_true,Bool.not_false]
  repeat refine sd0 ?_
  refine hK1 _ ?_
  clear hK1
  simp only [go_sem,seval,h1,Bool.not_true,Bool.not_false]
  repeat refine sd0 ?_
  refine hK _ (Ax_yes rfl ?_)
  refine Ax_st hE [4] [999] fun K hK=>?_
  simp only [go_sem,seval]
  exact hK _ (Ax_ret (hR1 _ (nil0 (by simp only [nend,h1',Bool.and_false,Bool.false_eq_true,if_false]))))
 | true =>
 have h1b:(decide (1≤x) && decide (x≤R.length))=true:=h1
 obtain ⟨g1,g2⟩:=hIb_iff.1 h1
 have hn5:=(relsOk_iff.1 hok).1.2
 have hn6:(R.length:Int)≤1000:=by omega
 have hnone:okNet ⟨R.length,t,x,noneL R.length x⟩:=⟨hmp,by simp only [noneL_len];omega,by simp only [hlk,noneL_len,toS_none (show hI R.length x from ⟨g1,g2⟩)];exact netS_none hn5 ⟨g1,g2⟩⟩
 refine Ax_st hE [1,5,22] [5] fun K hK=>?_
 refine aops_cut 6 fun K1 hK1=>?_
 simp only [go_sem,seval,h1b,Bool.not_true,Bool.not_false]
 repeat refine sd0 ?_
 refine hK1 _ ?_
 clear hK1
 simp only [go_sem,seval,h1b,Bool.not_true,Bool.not_false]
 repeat refine sd0 ?_
 refine hK _ (Ax_no rfl (Ax_skip (hB1 _ ?_)))
 -- none but home has a way
 refine Ax_sp hE 2 fun K hK=>?_
 simp only [go_sem,seval,List.take_succ_cons,List.take_zero]
 refine hK _ fun a4 w4 hr4=>?_
 clear hK K
 obtain ⟨c4,rfl,h4⟩:=hr4.rc
 refine sp_call rfl rfl nothingV_ok.1 ?_
 simp only [List.map_toArray,List.map_cons,List.map_nil,Act.eval]
 have hf4:=h4.1.fr
 rw [hd0,hw0] at hf4
 have hg4:=hf4.by hL0
 rw [v_eq (h4.2.1 24:Rd c4 (iv x) _)]
 refine (no_calls h4.1.sx h4.1.s1 (h4.2.1 23:Rd c4 (.agg [iv R.length,.dv (.mp t)]) _) g1 g2 hn6).mono ?_
 rintro e w5 ⟨hg5,p,wv,S',F,rfl,hN⟩
 refine ⟨_,rfl,?_⟩
 have hkc:Keeps c4.w c4.S w5 c4.S:=keeps_of_lt (fun _ _ h=>h) fun b o _ hlt=>hg5.block b hlt (by simp)
 have hk5:Keeps c4.w c4.S w5 (fun b o=>c4.S b o∨S' b o):=keeps_of_lt (fun _ _ h=>.inl h) fun b o _ hlt=>hg5.block b hlt (by simp)
 have hR5:=h4.nxs (w':=w5) (S:=fun b o=>c4.S b o∨S' b o) hk5 (fun b o h=>h.elim (fun h=>hkc.lk h (h4.1.sx b o h)) (hN.sx b o)) (fun b o v hS hv=>hS.elim (fun hS=>s1_keep h4.1 hkc hS hv) fun hS=>hN.s1 b o v hS hv) (fun d ls hl=>by cases hl) (x:=NX R.length t x wv) (u:=p) (pt_one hN.rd rfl fun _ _ h=>.inr h) 25
 generalize hE5e:nxS E0 _ c4 w5 (fun b o=>c4.S b o∨S' b o)=E5 at hR5
 have hP5:E5.P=Tryd.prog:=by rw [← hE5e];exact hP0
 have hd5:E5.draws=false:=by rw [← hE5e];rfl
 have hw5:E5.w0=w5:=by rw [← hE5e];rfl
 have hS5:∀ b o,E5.S0 b o→¬ F b:=fun b o h hF=>by
  rw [← hE5e] at h
  rcases h with h | h
  ·have:=h4.1.slt h;have:=(hN.fb b hF).1;omega
  ·exact hN.av b o h hF
 have hL5:∀ b,¬ E5.L b:=fun b h=>by
  rw [← hE5e] at h
  obtain ⟨d,ls,hl,_⟩:=h
  cases hl
 have hgw5:=gb_trans hg4 hg5
 clear hE
 have hE:TbOk E5 { T:=TT,G:=[],D:=[],draws:=false }:=tb_newG hP5 hd5 hL5 rfl tt GOk.nil DOk.nil
 refine sp_go hE hP5 hR5 ?_
 simp only [go_sem,seval,St.re,List.drop_succ_cons,List.drop_zero]
 refine sp_ax ?_
 refine Ax_sq fun B5 hB5 hR5 hX5=>?_
 refine Ax_st hE [5,7,28,29] [5] fun K hK=>?_
 simp only [go_sem,seval]
 repeat refine sd0 ?_
 refine hK _ ?_;clear hK K
 refine Ax_bk fun B6 hN6 hE6 hR6 hX6=>?_
 have eh0:hs 0=[]:=rfl
 have h4n:4 * (R.length:Int)=((4 * R.length:Nat):Int):=by rw [Int.natCast_mul];rfl
 refine Ax_lpI (fun (i:Nat) (a:Act) (w':World)=>∃ (E:En) (c:Gh) (Fi:Nat→Prop),E.P=Tryd.prog∧E.draws=false∧(∀ b,¬ E.L b)∧c.w=w'∧RC E ⟨49,[(5,.el [.v (.int .i64 R.length),.mp t]),(7,NX R.length t x wv),(28,iv ((4 * R.length:Nat):Int)),(29,iv (i:Int))],[],0⟩ a c∧i≤4 * R.length∧
   NestF w' wv (runL R.length (lkF t) x (noneL R.length x) (rndL R.length i)) Fi∧(∀ y,Fi y→w.heap.size≤y∧y < w'.heap.size)∧(∀ b o,c.S b o→¬ Fi b)∧w.grownBy w' none) (fun i=>4 * R.length - i) 0 (fun _ a w' hr=>?_) ?_
 ·obtain ⟨c,rfl,hRC⟩:=hr.rc
  have hf:=hRC.1.fr
  rw [hd5,hw5] at hf
  have hg:=hf.by hL5
  refine ⟨E5,c,F,hP5,hd5,hL5,rfl,by rw [← h4n];exact hRC,Nat.zero_le _,?_,fun y hy=>⟨Nat.le_trans hg4.size (hN.fb y hy).1,Nat.lt_of_lt_of_le (hN.fb y hy).2 hg.size⟩,fun b o h hb=>?_,gb_trans hgw5 hg⟩
  ·have:=hN.nest.same (w':=c.w) fun b _ hlt=>hg.block b hlt (by simp)
   rw [Int.toNat_natCast] at this
   exact this
  ·rcases hRC.1.sS b o h with h' | h'
   ·rw [hw5] at h'
    have:=(hN.fb b hb).2
    omega
   ·exact hS5 b o h' hb
 rintro i a1 w1 ⟨E,c,Fi,hEP,hEd,hEL,rfl,hRC,hi,hNi,hFi,hSi,hGi⟩ B7 hN7 hR7 hX7
 have hR0:=hRC.re.r
 have hst:St.re ⟨49,[(5,.el [.v (.int .i64 R.length),.mp t]),(7,NX R.length t x wv),(28,iv ((4 * R.length:Nat):Int)),(29,iv (i:Int))],[],0⟩=⟨49,[(5,.el [.v (.int .i64 R.length),.mp t]),(7,NX R.length t x wv),(28,iv ((4 * R.length:Nat):Int)),(29,iv (i:Int))],[],0⟩:=rfl
 rw [hst] at hR0
 generalize hE1:reE E _ c=E1 at hR0
 have hP1:E1.P=Tryd.prog:=by rw [← hE1];exact hEP
 have hd1:E1.draws=false:=by rw [← hE1];rfl
 have hw1:E1.w0=c.w:=by rw [← hE1];rfl
 have hS1:∀ b o,E1.S0 b o→c.S b o:=fun b o h=>by rw [← hE1] at h;exact h
 have hL1:∀ b,¬ E1.L b:=fun b h=>by
  rw [← hE1] at h
  obtain ⟨d,ls,hl,_⟩:=h
  cases hl
 clear hE
 have hE:TbOk E1 { T:=TT,G:=[],D:=[],draws:=false }:=tb_newG hP1 hd1 hL1 rfl tt GOk.nil DOk.nil
 refine Ax.run (E:=E1) (st:=⟨49,[(5,.el [.v (.int .i64 R.length),.mp t]),(7,NX R.length t x wv),(28,iv ((4 * R.length:Nat):Int)),(29,iv (i:Int))],[],0⟩) ?_ hP1 hR0
 refine Ax_st hE [5,7,28,29,30] [5] fun K hK=>?_
 simp only [go_sem,seval]
 refine hK _ ?_;clear hK K
 refine Ax_sq fun B8 hB8 hR8 hX8=>?_
 refine (Ax_cond rfl (fun hc9=>?_) (fun hc9=>?_))
 rotate_left
 ·simp only [dfn] at hc9
  obtain rfl:i=4 * R.length:=by omega
  refine Ax_exit (hX8 _ _ (hX7 _ _ (hE6 _ (hB5 _ ?_))))
  refine Ax_st hE [4] [5] fun K hK=>?_
  simp only [go_sem,seval]
  refine hK _ (Ax_ret (bp_ret (by rw [Tryd.results17]) fun a6 c6 h6=>?_))
  have e4:a6.tmps.getD 4 undef=wv:=v_eq (h6.2.1 4:Rd c6 (.v wv) _)
  have hf6:=h6.1.fr
  rw [hd1,hw1] at hf6
  have hg6:=hf6.by hL1
  have heq:nend R x=runL R.length (lkF t) x (noneL R.length x) (rndL R.length (4 * R.length)):=by simp only [nend,hok,h1,Bool.and_self,if_true,hlk];rfl
  refine ⟨wv,by rw [e4],gb_trans hGi hg6,.inl ?_⟩
  rw [heq]
  exact (hNi.same fun b _ hlt=>hg6.block b hlt (by simp)).nest fun y hy=>(hFi y hy).1
 simp only [dte] at hc9
 refine Ax_skip (hB8 _ ?_)
 refine Ax_sq fun B10 hB10 hR10 hX10=>?_
 refine Ax_bk fun B11 hN11 hE11 hR11 hX11=>?_
 refine Ax_st hE [5,7,8,28,29] [5] fun K hK=>?_
 simp only [go_sem,seval]
 refine hK _ ?_;clear hK K
 refine Ax_sq fun B12 hB12 hR12 hX12=>?_
 refine Ax_st hE [5,7,8,9,28,29] [5] fun K hK=>?_
 simp only [go_sem,seval]
 refine hK _ ?_;clear hK K
 refine Ax_bk fun B13 hN13 hE13 hR13 hX13=>?_
 refine Ax_lp (fun j:Nat=>⟨49,[(5,.el [.v (.int .i64 R.length),.mp t]),(7,NX R.length t x wv),(8,.sl (some (40,0,3)) (rows (hs j))),(9,iv ((j:Int) + 1)),(28,iv ((4 * R.length:Nat):Int)),(29,iv (i:Int))],[],0⟩) (fun j=>j≤R.length) (fun j=>R.length - j) 0 ((Le_own 40 3 8 rfl).trans (Le_wk (Nat.le_refl _) (by simp only [go_sem,seval,eh0]) (by simp only [go_sem,seval]))) (by omega) fun j hj B14 hN14 hR14 hX14=>?_
 refine Ax_sq fun B15 hB15 hR15 hX15=>?_
 refine Ax_st hE [5,7,8,9,28,29,34] [5] fun K hK=>?_
 simp only [go_sem,seval]
 refine hK _ (Ax_cond rfl (fun hc16=>?_) (fun hc16=>?_))
 ·simp only [dte] at hc16
  refine Ax_skip (hB15 _ ?_)
  refine Ax_sq fun B17 hB17 hR17 hX17=>?_
  refine Ax_bk fun B18 hN18 hE18 hR18 hX18=>?_
  have hhl:=hs_len j
  have hap:rows (hs j)++[[DV.v (.int .i64 ((j:Int) + 1))]]=rows (hs (j + 1)):=by rw [hs_snoc j,← rows_app];rfl
  refine Ax_tx hE [5,7,8,9,28,29] [5] fun K hK=>?_
  simp only [go_sem,seval,hhl,hap]
  refine ⟨⟨rows_row _,by omega⟩,?_⟩
  refine hK _ (hN18 _ (hB17 _ ?_))
  refine Ax_tx hE [5,7,8,9,28,29] [5] fun K hK=>?_
  simp only [go_sem,seval]
  repeat refine sd0 ?_
  refine hK _ (hN14 (j + 1) _ (by omega) (by omega) (by simp only [Int.natCast_add,Int.natCast_one];exact Le.refl _))
 ·simp only [dfn] at hc16
  obtain rfl:j=R.length:=by omega
  refine Ax_exit (hX15 _ _ (hX14 _ _ (hE13 _ (hB12 _ ?_))))
  have hlen:=(runL_len (n:=R.length) (of:=lkF t) (home:=x) (rndL R.length i) (noneL R.length x)).trans noneL_len
  have hok2:okNet ⟨R.length,t,x,runL R.length (lkF t) x (noneL R.length x) (rndL R.length i)⟩:=by
   have:=okNet_run (N:=⟨R.length,t,x,noneL R.length x⟩) (q:=rndL R.length i) hnone (by simp only [noneL_len];exact rnd_mem)
   simpa only [Nt.run,noneL_len] using this
  have hsn:runL R.length (lkF t) x (runL R.length (lkF t) x (noneL R.length x) (rndL R.length i)) (hs R.length)=runL R.length (lkF t) x (noneL R.length x) (rndL R.length (i + 1)):=by rw [rnd_snoc,runL_app]
  have hin:∀ y ∈ hs R.length,hI R.length y:=fun y hy=>mem_hs.1 hy
  have hhl:=hs_len R.length
  have hn9:(hs R.length).length≤2000000:=by omega
  refine Ax_spt hE 2 fun K hK=>?_
  simp only [go_sem,seval,List.take_succ_cons,List.take_zero]
  refine hK _ fun a2 w2 hr2=>?_
  clear hK K
  obtain ⟨c2,rfl,h2⟩:=hr2.rc
  refine sp_call rfl rfl (runI_ok pb).1 ?_
  simp only [List.map_toArray,List.map_cons,List.map_nil,Act.eval]
  have hf2:=h2.1.fr
  rw [hd1,hw1] at hf2
  have hg2:=hf2.by hL1
  have hGc:=gb_trans hGi hg2
  have hS2:∀ b o,c2.S b o→¬ Fi b:=fun b o h hb=>by
   rcases h2.1.sS b o h with h' | h'
   ·rw [hw1] at h'
    have:=(hFi b hb).2
    omega
   ·exact hSi b o (hS1 b o h') hb
  have hGF:∀ w',GrownL c2.w w' none Fi→w.grownBy w' none:=fun w' hg=>⟨hg.os.trans hGc.os,hg.tape.trans hGc.tape,hg.output.trans hGc.output,Nat.le_trans hGc.size hg.size,fun k hk hr=>(hg.block k (Nat.lt_of_lt_of_le hk hGc.size) (by simp) fun hF=>by have:=(hFi k hF).1;omega).trans (hGc.block k hk hr)⟩
  refine (run_calls h2.1.sx h2.1.s1 (h2.2.1 41:Rd c2 (NX R.length t x wv) _).ptr (sl_rdt (h2.2.1 42:Rd c2 (.sl _ (rows (hs R.length))) _)) (hNi.same fun b _ hlt=>hg2.block b hlt (by simp)) hS2 (fun y hy=>Nat.lt_of_lt_of_le (hFi y hy).2 hg2.size) (fun w' hg=>hWP w' (hGF w' hg)) hok2 (by rw [hlen];exact hin) hn9).mono ?_
  rintro e w6 ⟨rfl,hg6,F',hF',hN6'⟩
  refine ⟨_,rfl,?_⟩
  have hk6:Keeps c2.w c2.S w6 c2.S:=keeps_of_lt (fun _ _ h=>h) fun b o hS hlt=>hg6.block b hlt (by simp) fun hF=>hS2 b o hS hF
  have hR6':=h2.nxs (w':=w6) (S:=c2.S) hk6 (fun b o h=>hk6.lk h (h2.1.sx b o h)) (fun b o v hS hv=>s1_keep h2.1 hk6 hS hv) (fun d ls hl=>by cases hl) (x:=.tup []) (u:=.tuple #[]) (.tup _ _ rfl fun j y hy=>by cases hy) 43
  generalize hE6e:nxS E1 _ c2 w6 c2.S=E6 at hR6'
  have hP6:E6.P=Tryd.prog:=by rw [← hE6e];exact hP1
  have hd6:E6.draws=false:=by rw [← hE6e];rfl
  have hw6:E6.w0=w6:=by rw [← hE6e];rfl
  have hS6:∀ b o,E6.S0 b o→c2.S b o:=fun b o h=>by rw [← hE6e] at h;exact h
  have hL6:∀ b,¬ E6.L b:=fun b h=>by
   rw [← hE6e] at h
   obtain ⟨d,ls,hl,_⟩:=h
   cases hl
  clear hE
  have hE:TbOk E6 { T:=TT,G:=[],D:=[],draws:=false }:=tb_newG hP6 hd6 hL6 rfl tt GOk.nil DOk.nil
  refine sp_go hE hP6 hR6' ?_
  simp only [go_sem,seval,St.re,List.drop_succ_cons,List.drop_zero]
  refine hN11 _ (hB10 _ ?_)
  refine Ax_tx hE [5,7,28,29] [5] fun K hK=>?_
  simp only [go_sem,seval]
  repeat refine sd0 ?_
  refine hK _ fun hP7 a7 w7 hr7=>?_
  obtain ⟨c7,rfl,h7⟩:=hr7.rc
  have hf7:=h7.1.fr
  rw [hd6,hw6] at hf7
  have hg7:=hf7.by hL6
  rw [hlen,hsn] at hN6'
  have e':((i + 1:Nat):Int)=(i:Int) + 1:=by omega
  refine hN7 (i + 1) a7 c7.w (by omega) ⟨E6,c7,fun y=>F' y∧y < w6.heap.size,hP6,hd6,hL6,rfl,by rw [e'];exact h7,by omega,(hN6'.mono fun y h1 h2=>⟨h2,h1⟩).same fun b hb hlt=>hg7.block b hlt (by simp),fun y hy=>⟨?_,Nat.lt_of_lt_of_le hy.2 hg7.size⟩,fun b o h hb=>?_,gb_trans (hGF w6 hg6) hg7⟩
  ·rcases hF' y hy.1 with h | h
   ·exact (hFi y h).1
   ·exact Nat.le_trans hGc.size h
  ·rcases h7.1.sS b o h with h' | h'
   ·rw [hw6] at h'
    have:=hb.2
    omega
   ·have h'':=hS6 b o h'
    rcases hF' b hb.1 with h3 | h3
    ·exact hS2 b o h'' h3
    ·have:=h2.1.slt h''
     omega
def gMs0:List AV→Option (Prop × AV)
 | [.sl _ els,.v (.int .i64 k)]=>(match els with | []=>some (True,iv k) | _=>none)
 | _=>none
def dMs0:DFn:={ g:=gMs0 }
attribute [go_sem] gMs0 dMs0
theorem markS0_ok:Fine Tryd.prog 13 dMs0.con:=by
 refine fine_det (T:=TT) Tryd.func13 rfl Tryd.ntmps13 (by rw [Tryd.results13]) rfl rfl tt gs_nil ds_nil ?_
 intro args c r h hc
 simp only [dMs0,gMs0] at h
 split at h
 rotate_left
 ·cases h
 split at h
 rotate_left
 ·cases h
 obtain ⟨rfl,rfl⟩:=Prod.mk.inj (Option.some.inj h)
 refine ⟨by simp,fun k E hE Q hQ=>?_⟩
 rename_i k0 _
 refine Aw_st hE [0,1] [] fun K hK=>?_
 simp only [go_sem,seval]
 refine hK _ ?_;clear hK K
 refine Aw_sq fun B1 hB1 hR1 hX1=>?_
 refine Aw_st hE [0,1,5] [] fun K hK=>?_
 simp only [go_sem,seval]
 refine hK _ ?_;clear hK K
 refine Aw_bk fun B2 hN2 hE2 hR2 hX2=>?_
 refine Aw_lp (fun _:Unit=>⟨19,[(0,.sl none []),(1,iv k0),(5,iv 0)],[],k⟩) (fun _=>True) (fun _=>0) () (Le_wa) trivial fun i hi B3 hN3 hR3 hX3=>?_
 refine Aw_sq fun B4 hB4 hR4 hX4=>?_
 refine Aw_st hE [0,1,5,9] [] fun K hK=>?_
 simp only [go_sem,seval]
 refine hK _ (Aw_no rfl (Aw_exit (hX4 _ _ (hX3 _ _ (hE2 _ (hB1 _ ?_))))))
 refine Aw_st hE [4] [] fun K hK=>?_
 simp only [go_sem,seval]
 refine hK _ (Aw_ret (hQ _ ?_))
 simp only [go_sem,seval]
theorem NestN.same {w w':World} {v:Value} {R:List (List Int)} {lo hi:Nat} (h:NestN w v R lo hi) (e:∀ b,lo≤b→b < hi→b < w.heap.size→w'.heap[b]? = w.heap[b]?):NestN w' v R lo hi:=by
 rcases h with h | h
 ·exact .inl (h.same e)
 ·exact .inr h
theorem NestN.rd {w:World} {v:Value} {R:List (List Int)} {lo hi:Nat} (h:NestN w v R lo hi):RdD w (allS w) (.sl (wrows R)) v:=by
 rcases h with h | ⟨rfl,rfl⟩
 ·exact h.rd
 ·exact .nil
theorem NestN.one {w:World} {v:Value} {R:List (List Int)} {lo hi:Nat} (h:NestN w v R lo hi):v.oneCell'=true:=by
 rcases h with h | ⟨rfl,rfl⟩
 ·exact h.one
 ·rfl
theorem nestN_calls {w:World} {v:Value} {R:List (List Int)} {lo hi:Nat} {k:Int} (h:NestN w v R lo hi) (hR:bigM R) (hk0:0≤k) (hk1:k + totL R≤1000000000) :
  Calls Tryd.prog 13 #[v,.int .i64 k] w fun e w'=>e = .returned (.int .i64 (k + totL R))∧GrownL w w' none (fun x=>lo≤x∧x < hi)∧NestN w' v (mkR k R) lo hi:=by
 rcases h with h | ⟨rfl,rfl⟩
 ·refine (nest_calls h hR hk0 hk1).mono ?_
  rintro e w' ⟨rfl,hg,hn⟩
  exact ⟨rfl,hg,.inl hn⟩
 ·let c:Gh:=gh0 w (fun _ _=>False) (fun _=>0)
  refine (markS0_ok.2 c [.sl none [],iv k] #[.slice none 0 0,.int .i64 k] .nilIface 0 0 rfl (fun j x hx=>?_) (fun x hx=>?_) ⟨True,iv k,rfl,trivial⟩ trivial (fun _ _ h=>h.elim) (fun _ _ _ h=>h.elim) (fun h=>by cases h)).mono ?_
  ·match j,hx with
   | 0,hx=>obtain rfl:=Option.some.inj hx;exact .sl none _ _ .nil trivial
   | 1,hx=>obtain rfl:=Option.some.inj hx;exact .v _ rfl
  ·simp only [List.mem_cons,List.not_mem_nil,or_false] at hx
   rcases hx with rfl | rfl<;>rfl
  ·rintro e w' ⟨u,r,c',rfl,⟨c1,hr⟩,O⟩
   obtain ⟨_,rfl⟩:=Prod.mk.inj (Option.some.inj hr)
   have h1:=O.rd
   have e1:u = .int .i64 k:=by generalize u=z at h1;cases h1;rfl
   exact ⟨by rw [e1];simp [totL],gb_gl O.fr _,.inr ⟨rfl,rfl⟩⟩
theorem totL_bd:∀ (R:List (List Int)) (m:Nat),(∀ r ∈ R,r.length≤m)→totL R≤R.length * m
 | [],m,_=>by simp [totL]
 | r::R,m,h=>by
  have h1:=totL_bd R m fun q hq=>h q (List.mem_cons_of_mem _ hq)
  have h2:=h r (List.mem_cons_self ..)
  have h3:((r::R).length:Int) * m=R.length * m + m:=by rw [List.length_cons,Int.natCast_add,Int.add_mul];simp
  rw [totL,h3];omega
def smallW (R:List (List Int)):Prop:=R.length≤5∧∀ r ∈ R,r.length≤5
theorem smallW.big {R:List (List Int)} (h:smallW R):bigM R∧bigW R∧totL R≤1000000:=by
 refine ⟨⟨by have:=h.1;omega,fun r hr=>by have:=h.2 r hr;omega⟩,⟨by have:=h.1;omega,fun r hr=>by have:=h.2 r hr;omega⟩,?_⟩
 have h1:=totL_bd R 5 h.2
 have h2:=h.1
 omega
theorem netS_small {n:Nat} {of:Rel} {home:Int} {W:List (List Int)} (hl:W.length=n) (h5:n≤5) (h:netS n of home (toS W)):smallW W:=by
 refine ⟨by omega,fun w hw=>?_⟩
 obtain ⟨i,hi,rfl⟩:=List.getElem_of_mem hw
 have:=h.2 ((i:Int) + 1) ⟨by omega,by omega⟩
 rw [toS_succ,List.getD_eq_getElem?_getD,List.getElem?_eq_getElem hi,Option.getD_some] at this
 by_cases e:W[i]=[]
 ·rw [e];simp
 ·exact pathOk_len ((wayOk_iff e).1 this).2.2.1
theorem sz_big {R:List (List Int)} {l:Int} (h0:0≤l) (h1:l≤1048576) (h:¬ szW R l < 0):bigM R∧bigW R∧szW R l≤l:=by
 obtain ⟨g1,g2,g3⟩:=szW_ok (R:=R) h0
 obtain ⟨a,b⟩:=g3 (by omega)
 exact ⟨⟨by omega,fun r hr=>by have:=b r hr;omega⟩,⟨by omega,fun r hr=>by have:=b r hr;omega⟩,g1⟩
theorem szWR_tot:∀ (R:List (List Int)) (l:Int),0≤l→0≤szWR R l→totL R≤l
 | [],l,h,_=>by simpa [totL] using h
 | r::R,l,h,h2=>by
  unfold szWR at h2
  split at h2
  ·omega
  ·rename_i hn
   have:=szWR_tot R (szI r.length l) (by omega) h2
   obtain ⟨_,_,z3⟩:=szI_le r.length l h
   unfold szI at this hn
   split at hn
   ·omega
   ·rename_i hn2
    rw [if_neg hn2] at this
    rw [totL];omega
theorem szW_tot {R:List (List Int)} {l:Int} (h0:0≤l) (h:¬ szW R l < 0):totL R≤l:=by
 unfold szW at h
 split at h
 ·omega
 ·rename_i hn
  have:=szWR_tot R (l - R.length) (by omega) (by omega)
  omega
theorem mkR_tot:∀ (k:Int) (R:List (List Int)),totL (mkR k R)=totL R
 | _,[]=>rfl
 | k,r::R=>by rw [mkR,totL,totL,iotaL_len,mkR_tot]
theorem mkR_mem:∀ (k:Int) (R:List (List Int)) (r:List Int),r ∈ mkR k R→∃ q ∈ R,r.length=q.length
 | _,[],r,h=>by cases h
 | k,q::R,r,h=>by
  rw [mkR] at h
  rcases List.mem_cons.1 h with rfl | h
  ·exact ⟨q,List.mem_cons_self ..,iotaL_len _ _⟩
  ·obtain ⟨q',h1,h2⟩:=mkR_mem _ R r h
   exact ⟨q',List.mem_cons_of_mem _ h1,h2⟩
theorem mkR_big {k:Int} {R:List (List Int)} (h:bigM R):bigM (mkR k R):=⟨by rw [mkR_len];exact h.1,fun r hr=>by
 obtain ⟨q,h1,h2⟩:=mkR_mem k R r hr
 rw [h2];exact h.2 q h1⟩
theorem nend_small (R:List (List Int)) (x:Int):smallW (nend R x):=by
 unfold nend
 split
 ·rename_i hok
  obtain ⟨hok,h1⟩:=Bool.and_eq_true_iff.1 hok
  have hn5:=(relsOk_iff.1 hok).1.2
  have h1':=hIb_iff.1 h1
  have hrun:=toS_run (n:=R.length) (of:=ofR R) (home:=x) (rndL R.length (4 * R.length)) (L:=noneL R.length x) noneL_len rnd_mem
  refine netS_small (n:=R.length) (of:=ofR R) (home:=x) ((runL_len _ _).trans noneL_len) hn5 ?_
  unfold endL
  rw [hrun.1,toS_none h1']
  exact netS_run hn5 _ (netS_none hn5 h1') rnd_mem
 ·exact ⟨by simp,fun r hr=>by cases hr⟩
set_option maxHeartbeats 8000000 in
theorem enLaw {pb:Addr} {w:World} (hI:WP pb w) {R:List (List Int)} {h:Int} {v:Value} (hv:RdD w (allS w) (.sl (wrows R)) v) (hlR:longW R) :
  Calls Tryd.prog 4 #[v,.int .i64 h] w fun e w'=>e = .returned (.bool true)∧w.grownBy w' none:=by
 refine ax_enter Tryd.func4 rfl Tryd.ntmps4 (by rw [Tryd.results4]) rfl rfl (S:=allS w) (fun _=>0) (fun _=>False) (args:=[wsl R,iv h]) (m1:=[]) (fun _ _ h=>allS_lk h) (fun _ _ _ h hv=>allS_one h hv) rfl (by simp) (fun j x hx=>?_) (fun d ls h=>by cases h) (fun d d' ls ls' h=>by cases h) ?_
 ·match j,hx with
  | 0,hx=>obtain rfl:=Option.some.inj hx;exact .sl none _ v hv trivial
  | 1,hx=>obtain rfl:=Option.some.inj hx;exact .v _ rfl
 obtain ⟨E0,hE0⟩:∃ E,E=en0 Tryd.prog w (allS w) (fun _=>0) (fun _=>False):=⟨_,rfl⟩
 rw [← hE0]
 have C0:Cur w [] E0:=by rw [hE0];exact ⟨rfl,rfl,fun _ h=>h,⟨rfl,rfl,rfl,Nat.le_refl _,fun _ _ _=>rfl⟩,fun z hz=>(by cases hz),fun z hz=>(by cases hz)⟩
 have hw0:E0.w0=w:=by rw [hE0];rfl
 have hWP:∀ w',w.grownBy w' none→WP pb w':=fun w' hg=>wp_inh pb w w' 0 hI hg
 have hE:=C0.tb (D:=[(7,dSzW),(9,dToW),(16,dNetEnd)]) (DOk.cons szIntSS_ok (fun _ _=>trivial) (DOk.cons toIntSS_ok (fun _ _=>trivial) (DOk.cons sNetEnd_ok (fun _ _=>trivial) DOk.nil)))
 have ret:∀ {E:En} {Z:List (Nat × Nat)} (_:Cur w Z E),AQ Tryd.prog E (bodyPost Tryd.prog Tryd.f4 fun e w'=>e = .returned (.bool true)∧w.grownBy w' none) .ret ⟨74,[(4,bv true)],[],0⟩:=fun {E Z} C=>bp_ret (by rw [Tryd.results4]) fun a c hc=>by
  have h8:Rd c (bv true) (a.tmps.getD 4 undef):=hc.2.1 4
  have e8:a.tmps.getD 4 undef = .bool true:=v_eq h8
  exact ⟨by rw [e8],gb_trans C.gr (C.now hc)⟩
 unfold Eng.stM
 refine Ax_st hE [0,1] [] fun K hK=>?_
 simp only [go_sem,seval]
 refine hK _ ?_;clear hK K
 refine Ax_st hE [0,1,5] [] fun K hK=>?_
 simp only [go_sem,seval]
 refine hK _ ?_;clear hK K
 refine Ax_st hE [0,1,5] [] fun K hK=>?_
 simp only [go_sem,seval,hlR]
 repeat refine sd0 ?_
 refine hK _ ?_;clear hK K
 refine Ax_sq fun B1 hB1 hR1 hX1=>?_
 refine Ax_st hE [0,1,17] [] fun K hK=>?_
 simp only [go_sem,seval]
 refine hK _ (Ax_cond rfl (fun hc2=>?_) (fun hc2=>?_))
 ·refine Ax_st hE [4] [] fun K hK=>?_
  simp only [go_sem,seval]
  refine hK _ (Ax_ret (hR1 _ (ret C0)))
 simp only [dfn] at hc2
 obtain ⟨hbR,hbR2,hl1⟩:=sz_big (by decide) (by decide) hc2
 have htR:=szW_tot (by decide) hc2
 have hnR:=totL_nn R
 refine Ax_skip (hB1 _ ?_)
 refine Ax_st hE [0,1,6] [] fun K hK=>?_
 simp only [go_sem,seval,hbR]
 refine hK _ ?_;clear hK K
 obtain ⟨lr,hlr⟩:∃ l,l=nend R h:=⟨_,rfl⟩
 have hsm:smallW lr:=by rw [hlr];exact nend_small R h
 obtain ⟨hlM,hlW2,hlt⟩:=hsm.big
 have hln:=totL_nn lr
 have hlr':(if relsOk R && hIb R.length h then endL R.length (ofR R) h else [])=lr:=hlr.symm
 rw [hlr']
 -- x0
 refine Ax_sp hE 1 fun K hK=>?_
 simp only [go_sem,seval,List.take_succ_cons,List.take_zero]
 refine hK _ fun a1 w1 hr1=>?_
 clear hK K
 obtain ⟨c1,rfl,h1⟩:=hr1.rc
 refine sp_call rfl rfl toIntSS_ok.1 ?_
 simp only [List.map_toArray,List.map_cons,List.map_nil,Act.eval]
 refine (toW_calls h1.1.sx h1.1.s1 (sl_rd (h1.2.1 22:Rd c1 (wsl R) _)) hbR).mono ?_
 rintro e w2 ⟨x0,rfl,hg1,hx0⟩
 refine ⟨x0,rfl,?_⟩
 obtain ⟨E1,hw1,hd1,C1,hR1',hs1⟩:=C0.new h1 rfl hg1 hx0.one 23
 clear hE
 have hE:=C1.tb (D:=[]) DOk.nil
 refine sp_go hE C1.P hR1' ?_
 simp only [go_sem,seval,St.re,List.drop_succ_cons,List.drop_zero]
 refine sp_ax ?_
 -- g0
 refine Ax_sp hE 2 fun K hK=>?_
 simp only [go_sem,seval,List.take_succ_cons,List.take_zero]
 refine hK _ fun a3 w3' hr3=>?_
 clear hK K
 obtain ⟨c3,rfl,h3⟩:=hr3.rc
 refine sp_call rfl rfl (iNetEnd_ok pb).1 ?_
 simp only [List.map_toArray,List.map_cons,List.map_nil,Act.eval]
 have hn3:=C1.now h3
 rw [v_eq (h3.2.1 24:Rd c3 (.v x0) _),v_eq (h3.2.1 25:Rd c3 (iv h) _)]
 rw [hw1] at hn3
 refine (nend_calls (hWP _ (gb_trans C1.gr (C1.now h3))) (hx0.same fun b _ _ hlt=>hn3.block b hlt (by simp)).rd hbR).mono ?_
 rintro e w4 ⟨g0,rfl,hg3,hro⟩
 rw [← hlr] at hro
 refine ⟨g0,rfl,?_⟩
 obtain ⟨E3,hw3,hd3,C3,hR3',hs3⟩:=C1.new h3 rfl hg3 hro.one 26
 rw [hw1] at hs3
 have hx0b:=hx0.same fun b _ _ hlt=>hs3.block b hlt (by simp)
 clear hE
 have hE:=C3.tb (D:=[(12,dEqXX g0 lr)]) (DOk.cons (eqXX_ok g0 lr) (fun w' hg=>⟨trivial,rdx_one hro.rd (hw3 ▸ hg)⟩) DOk.nil)
 refine sp_go hE C3.P hR3' ?_
 simp only [go_sem,seval,St.re,List.drop_succ_cons,List.drop_zero]
 refine sp_ax ?_
 refine Ax_sq fun B5 hB5 hR5 hX5=>?_
 refine Ax_st hE [0,1,6,7,8,30] [] fun K hK=>?_
 simp only [go_sem,seval,decide_true,Bool.not_true,hlW2]
 repeat (refine And.intro (by first | omega | assumption | (and_intros<;>first | omega | assumption | decide) | fail) ?_)
 refine hK _ (Ax_no rfl (Ax_skip (hB5 _ ?_)))
 clear hE
 have hE:=C3.tb (D:=[(9,dToW),(12,dEqXX x0 R)]) (DOk.cons toIntSS_ok (fun _ _=>trivial) (DOk.cons (eqXX_ok x0 R) (fun w' hg=>⟨trivial,rdx_one hx0b.rd (hw3 ▸ hg)⟩) DOk.nil))
 refine Ax_sq fun B7 hB7 hR7 hX7=>?_
 refine Ax_st hE [0,1,6,7,8,35] [] fun K hK=>?_
 simp only [go_sem,seval,hbR,hbR2,decide_true,Bool.not_true]
 repeat (refine And.intro (by first | omega | assumption | (and_intros<;>first | omega | assumption | decide) | fail) ?_)
 refine hK _ (Ax_no rfl (Ax_skip (hB7 _ ?_)))
 refine Ax_st hE [0,1,6,7,8,9] [] fun K hK=>?_
 simp only [go_sem,seval]
 refine hK _ ?_;clear hK K
 -- x0 is marked
 refine Ax_sp hE 2 fun K hK=>?_
 simp only [go_sem,seval,List.take_succ_cons,List.take_zero]
 refine hK _ fun a4 w4' hr4=>?_
 clear hK K
 obtain ⟨c4,rfl,h4⟩:=hr4.rc
 refine sp_call rfl rfl ⟨_,Tryd.func13,rfl,rfl⟩ ?_
 simp only [List.map_toArray,List.map_cons,List.map_nil,Act.eval]
 have hn4:=C3.now h4
 rw [hw3] at hn4
 rw [v_eq (h4.2.1 36:Rd c4 (.v x0) _),v_eq (h4.2.1 37:Rd c4 (iv 1) _)]
 refine (nest_calls (hx0b.same fun b _ _ hlt=>hn4.block b hlt (by simp)) hbR (by decide) (by omega)).mono ?_
 rintro e w5 ⟨rfl,hg4,_⟩
 refine ⟨_,rfl,?_⟩
 have hr02:w2.heap.size≤c3.w.heap.size:=hn3.size
 have hr03:=hg1.size
 have hr05:=hg3.size
 obtain ⟨E4,hw4,hd4,C4,hR4',hs4⟩:=C3.mark h4 rfl (z:=(c1.w.heap.size,w2.heap.size)) (by simp) hg4 (u:=.int .i64 (1 + totL R)) rfl 38
 rw [hw3] at hs4
 have hroc:=hro.same fun b h1 _ hlt=>hs4 b hlt (by simp only;omega)
 clear hE
 have hE:=C4.tb (D:=[(12,dEqXX g0 lr)]) (DOk.cons (eqXX_ok g0 lr) (fun w' hg=>⟨trivial,rdx_one hroc.rd (hw4 ▸ hg)⟩) DOk.nil)
 refine sp_go hE C4.P hR4' ?_
 simp only [go_sem,seval,St.re,List.drop_succ_cons,List.drop_zero]
 refine sp_ax ?_
 have hk0:decide (1 + totL R < 0)=false:=decide_eq_false (by omega)
 refine Ax_sq fun B11 hB11 hR11 hX11=>?_
 refine Ax_st hE [0,1,6,8,46] [] fun K hK=>?_
 simp only [go_sem,seval,hk0,decide_true,Bool.not_true,hlW2]
 repeat (refine And.intro (by first | omega | assumption | (and_intros<;>first | omega | assumption | decide) | fail) ?_)
 refine hK _ (Ax_no rfl (Ax_skip (hB11 _ ?_)))
 refine Ax_st hE [0,1,6,8,10] [] fun K hK=>?_
 simp only [go_sem,seval]
 refine hK _ ?_;clear hK K
 -- g0 is marked
 refine Ax_sp hE 2 fun K hK=>?_
 simp only [go_sem,seval,List.take_succ_cons,List.take_zero]
 refine hK _ fun a6 w6' hr6=>?_
 clear hK K
 obtain ⟨c6,rfl,h6⟩:=hr6.rc
 refine sp_call rfl rfl markS0_ok.1 ?_
 simp only [List.map_toArray,List.map_cons,List.map_nil,Act.eval]
 have hn6:=C4.now h6
 rw [hw4] at hn6
 rw [v_eq (h6.2.1 47:Rd c6 (.v g0) _),v_eq (h6.2.1 48:Rd c6 (iv 1) _)]
 refine (nestN_calls (hroc.same fun b _ _ hlt=>hn6.block b hlt (by simp)) hlM (by decide) (by omega)).mono ?_
 rintro e w7 ⟨rfl,hg6,hroe⟩
 refine ⟨_,rfl,?_⟩
 obtain ⟨E6,hw6,hd6,C6,hR6',hs6⟩:=C4.mark h6 rfl (z:=(c3.w.heap.size,w4.heap.size)) (by simp) hg6 (u:=.int .i64 (1 + totL lr)) rfl 49
 clear hE
 have hE:=C6.tb (D:=[(18,dHdXX g0 (mkR 1 lr)),(9,dToW),(17,dNetEndI pb),(12,dLyW)]) (DOk.cons (hdXX_ok g0 _) (fun w' hg=>⟨trivial,rdx_one hroe.rd (hw6 ▸ hg)⟩) (DOk.cons toIntSS_ok (fun _ _=>trivial) (DOk.cons (iNetEnd_ok pb) (fun w' hg=>hWP _ (gb_trans C6.gr hg)) (DOk.cons eqIntSS_ok (fun _ _=>trivial) DOk.nil))))
 refine sp_go hE C6.P hR6' ?_
 simp only [go_sem,seval,St.re,List.drop_succ_cons,List.drop_zero]
 refine sp_ax ?_
 have hk1:decide ((1:Int) + totL lr < 0)=false:=decide_eq_false (by omega)
 have hil:bigM (mkR 1 lr):=mkR_big hlM
 have hil2:(1:Int) + totL (mkR 1 lr)≤1000000000:=by rw [mkR_tot];omega
 have hih:=hldW_mkR 1 lr (by decide)
 refine Ax_st hE [0,1,6,8,10,11] [] fun K hK=>?_
 simp only [go_sem,seval]
 refine hK _ ?_;clear hK K
 refine Ax_st hE [0,1,6,8,10,11] [] fun K hK=>?_
 simp only [go_sem,seval,hil,hil2,hih]
 repeat refine sd0 ?_
 refine hK _ ?_;clear hK K
 refine Ax_sq fun B13 hB13 hR13 hX13=>?_
 refine Ax_st hE [0,1,6,8,10,11,54] [] fun K hK=>?_
 simp only [go_sem,seval,hk1]
 refine hK _ (Ax_no rfl (Ax_skip (hB13 _ ?_)))
 refine Ax_sq fun B15 hB15 hR15 hX15=>?_
 refine Ax_st hE [0,1,6,8,10,57] [] fun K hK=>?_
 simp only [go_sem,seval,decide_true,Bool.not_true]
 refine hK _ (Ax_no rfl (Ax_skip (hB15 _ ?_)))
 refine Ax_st hE [6,8,10,12] [] fun K hK=>?_
 simp only [go_sem,seval,hbR]
 refine hK _ ?_;clear hK K
 rw [hlr']
 refine Ax_sq fun B17 hB17 hR17 hX17=>?_
 refine Ax_st hE [8,10,65] [] fun K hK=>?_
 simp only [go_sem,seval,decide_true,Bool.not_true,hlW2]
 repeat (refine And.intro (by first | omega | assumption | (and_intros<;>first | omega | assumption | decide) | fail) ?_)
 refine hK _ (Ax_no rfl (Ax_skip (hB17 _ ?_)))
 refine Ax_st hE [8,10,11] [] fun K hK=>?_
 simp only [go_sem,seval]
 refine hK _ ?_;clear hK K
 refine Ax_st hE [10,11] [] fun K hK=>?_
 simp only [go_sem,seval,hil,hil2,hih]
 repeat refine sd0 ?_
 refine hK _ ?_;clear hK K
 refine Ax_sq fun B19 hB19 hR19 hX19=>?_
 refine Ax_st hE [10,11,70] [] fun K hK=>?_
 simp only [go_sem,seval,hk1]
 refine hK _ (Ax_no rfl (Ax_skip (hB19 _ ?_)))
 refine Ax_sq fun B21 hB21 hR21 hX21=>?_
 refine Ax_st hE [73] [] fun K hK=>?_
 simp only [go_sem,seval,decide_true,Bool.not_true]
 refine hK _ (Ax_no rfl (Ax_skip (hB21 _ ?_)))
 refine Ax_st hE [4] [] fun K hK=>?_
 simp only [go_sem,seval]
 refine hK _ (Ax_ret (ret C6))
end Go.Proofs.W
end
