/- YtbjdeohccjmaiaaDoorEb: part of the proof that laws hold, for every input that the row speaks of (no condition of ours). -/
import Derived.Test.YtbjdeohccjmaiaaDoorEa
import Derived.MapKept
import Derived.Maps.RangeRun
import Derived.Deep.LoopGhost
import Derived.Laws.Cover3
set_option linter.unusedVariables false
set_option linter.unusedSimpArgs false
section
namespace Go.Eng
open Go Go.RowKit
def flatA (els:List (List DV)):List AV:=els.flatten.map DV.toAV
theorem flat_get {sz:Nat}:∀ {els:List (List DV)},(∀ row ∈ els,row.length=sz)→∀ (j:Nat) (x:DV),els.flatten[j]? = some x→∃ i q row,j=i * sz + q∧els[i]? = some row∧row[q]? = some x
 | [],_,j,x,h=>by simp at h
 | row::els,hs,j,x,h=>by
  have hl:=hs row (by simp)
  rw [List.flatten_cons] at h
  by_cases hj:j < row.length
  ·rw [List.getElem?_append_left hj] at h
   exact ⟨0,j,row,by omega,rfl,h⟩
  ·rw [List.getElem?_append_right (by omega)] at h
   obtain ⟨i,q,r,h1,h2,h3⟩:=flat_get (fun r hr=>hs r (by simp [hr])) (j - row.length) x h
   exact ⟨i + 1,q,r,by rw [Nat.add_mul];omega,by simpa using h2,h3⟩
theorem flat_len {sz:Nat}:∀ {els:List (List DV)},(∀ row ∈ els,row.length=sz)→els.flatten.length=els.length * sz
 | [],_=>by simp
 | row::els,hs=>by
  rw [List.flatten_cons,List.length_append,hs row (by simp),flat_len (fun r hr=>hs r (by simp [hr])),List.length_cons,Nat.add_mul];omega
theorem RdD.vals {c:Gh} {els:List (List DV)} {v:Value} (h:RdD c.w c.S (.sl els) v) {sz:Nat} (hs:∀ row ∈ els,row.length=sz) :
  (els=[]∧v = .slice none 0 0)∨∃ (ad:Addr) (cap:Nat),∃ news:List Value,v = .slice (some ad) els.length cap∧news.length=els.length * sz∧
   (∀ j u,news[j]? = some u→c.w.cell? (ad.add j)=some u)∧(∀ u ∈ news,u.oneCell'=true)∧∀ (j:Nat) (x:AV) (u:Value),(flatA els)[j]? = some x→news[j]? = some u→Rd c x u:=by
 rcases h.slice with ⟨h1,h2⟩ | ⟨b,off,cap,size,f,hv,_,s1,s2,s3⟩ | ⟨rfl,ad,hv⟩
 ·exact .inl ⟨h1,h2⟩
 rotate_left
 ·exact .inr ⟨ad,0,[],hv,by simp,fun j u hu=>by simp at hu,fun u hu=>by simp at hu,fun j x u hx=>by simp [flatA] at hx⟩
 ·refine .inr ⟨⟨b,off,none⟩,cap,(List.range (els.length * sz)).map f,hv,by simp,?_⟩
  by_cases hne:els=[]
  ·subst hne
   exact ⟨fun j u hu=>by simp at hu,fun u hu=>by simp at hu,fun j x u hx=>by simp [flatA] at hx⟩
  ·obtain rfl:size=sz:=size_of_rows s1 hs hne
   have key:∀ j u,((List.range (els.length * size)).map f)[j]? = some u→j < els.length * size∧u=f j:=fun j u hu=>by
    simp only [List.getElem?_map,Option.map_eq_some_iff] at hu
    obtain ⟨k,hk,rfl⟩:=hu
    obtain ⟨q1,rfl⟩:=List.getElem?_eq_some_iff.1 hk
    simp only [List.length_range] at q1
    exact ⟨q1,by simp⟩
   have hrd:∀ j x u,(flatA els)[j]? = some x→((List.range (els.length * size)).map f)[j]? = some u→∃ y:DV,x=y.toAV∧RdD c.w c.S y u:=fun j x u hx hu=>by
    obtain ⟨_,rfl⟩:=key j u hu
    unfold flatA at hx
    rw [List.getElem?_map,Option.map_eq_some_iff] at hx
    obtain ⟨y,hy,rfl⟩:=hx
    obtain ⟨i,q,row,rfl,h2,h3⟩:=flat_get s1 j y hy
    exact ⟨y,rfl,s3 i q row y h2 h3⟩
   refine ⟨fun j u hu=>?_,fun u hu=>?_,fun j x u hx hu=>?_⟩
   ·obtain ⟨h1,rfl⟩:=key j u hu
    rw [add_none];exact (s2 j h1).2
   ·obtain ⟨j,hj⟩:=List.getElem?_of_mem hu
    obtain ⟨h1,_⟩:=key j u hj
    have hl:j < (flatA els).length:=by unfold flatA;rw [List.length_map,flat_len s1];exact h1
    obtain ⟨y,_,hy⟩:=hrd j _ u (List.getElem?_eq_getElem hl) hj
    exact hy.one
   ·obtain ⟨y,rfl,hy⟩:=hrd j x u hx hu
    exact hy.toAV
section
variable {E:En} {st:St} {a:Act} {w:World} {o:Oper}
theorem xs_val {c:Gh} {x:AV} {v:Value} {k off n cap sz:Nat} (h:Rd c x v) (hx:x = .xs k off n cap sz):v = .slice (some ⟨c.β k,off,none⟩) n cap∧n≤cap:=by
 subst hx;cases h with | xs _ _ _ _ _ hc=>exact ⟨rfl,hc⟩
theorem xs_bk {c:Gh} {x:AV} {v:Value} {k off n cap sz:Nat} (h:Rd c x v) (hx:x = .xs k off n cap sz):bk k=0:=by
 subst hx;exact h.xs0
theorem op_len_xs (h:R E st a w) (t:TypeId) (x:Operand) (ho:o.op = .call { callee:=.builtin .len,args:=#[x],argTypes:=#[t] }) {i:TyI} (ht:TyOk E.P t i) {e:TypeId} (he:i.elem=some e) {k off n cap sz:Nat} (hx:st.ev x = .xs k off n cap sz) :
  Yields E o (st.put o.dst (.v (.int .i64 n))) a w:=by
 obtain ⟨c,h1,h2,h3,h4,h5,h6⟩:=h.get x
 obtain ⟨hv,_⟩:=xs_val h6 hx
 refine ⟨_,w,?_,R.put h1 h2 h3 h4 h5 (.v (.int .i64 n) rfl)⟩
 unfold execOp;rw [ho]
 simp [resolve,invoke,BigFrame.builtin_len,hv,Builtin.len_,run_underlying (ht.el e he),goInt]
theorem op_cap_xs (h:R E st a w) (t:TypeId) (x:Operand) (ho:o.op = .call { callee:=.builtin .cap,args:=#[x],argTypes:=#[t] }) {i:TyI} (ht:TyOk E.P t i) {e:TypeId} (he:i.elem=some e) {k off n cap sz:Nat} (hx:st.ev x = .xs k off n cap sz) :
  Yields E o (st.put o.dst (.v (.int .i64 cap))) a w:=by
 obtain ⟨c,h1,h2,h3,h4,h5,h6⟩:=h.get x
 obtain ⟨hv,_⟩:=xs_val h6 hx
 refine ⟨_,w,?_,R.put h1 h2 h3 h4 h5 (.v (.int .i64 cap) rfl)⟩
 unfold execOp;rw [ho]
 simp [resolve,invoke,BigFrame.builtin_cap,hv,Builtin.cap_,run_underlying (ht.el e he),goInt]
theorem op_indexAddr_xs (h:R E st a w) (t:TypeId) (x y:Operand) (ho:o.op = .indexAddr t x y) {i ie:TyI} (ht:TyOk E.P t i) {e:TypeId} (he:i.elem=some e) (hte:TyOk E.P e ie) {k off n cap sz:Nat} (hx:st.ev x = .xs k off n cap sz)
  {kd:IntKind} {j:Int} (hy:st.ev y = .v (.int kd j)) (h0:0≤j) (hj:j < n) (hsz:sz=ie.size):Yields E o (st.put o.dst (.loc k (off + j.toNat * sz))) a w:=by
 obtain ⟨c,h1,h2,h3,h4,h5,h6⟩:=h.get x
 obtain ⟨hv,_⟩:=xs_val h6 hx
 have h7:=R.ev h3 y
 have e2:a.eval y = .int kd j:=by rw [hy] at h7;generalize a.eval y=z at h7;cases h7;rfl
 refine ⟨.pointer (some ⟨c.β k,off + j.toNat * sz,none⟩),w,?_,R.put h1 h2 h3 h4 h5 (.loc k _ (xs_bk h6 hx))⟩
 unfold execOp;rw [ho]
 simp [Instr.indexAt,asIntOf,e2,hv,run_underlying (ht.el e he),h0,hj,sizeOf_ok hte,add_none,hsz]
theorem op_slice_xs (h:R E st a w) (t:TypeId) (x:Operand) (lo hi:Option Operand) (ho:o.op = .slice t x lo hi none) {i ie:TyI} (ht:TyOk E.P t i) {e:TypeId} (he:i.elem=some e) (hte:TyOk E.P e ie) {k off n cap sz:Nat} (hx:st.ev x = .xs k off n cap sz)
  {l u:Int} (hlo:BndOk st lo 0 l) (hhi:BndOk st hi n u) (h0:0≤l) (h01:l≤u) (hu:u≤cap) (hsz:sz=ie.size) :
  Yields E o (st.put o.dst (.xs k (if cap=l.toNat then off else off + l.toNat * sz) (u.toNat - l.toNat) (cap - l.toNat) sz)) a w:=by
 obtain ⟨c,h1,h2,h3,h4,h5,h6⟩:=h.get x
 obtain ⟨hv,hnc⟩:=xs_val h6 hx
 have evi:∀ {y:Operand} {k:IntKind} {n:Int},st.ev y = .v (.int k n)→a.eval y = .int k n:=fun {y k n} hy=>by
  have h7:=R.ev h3 y
  rw [hy] at h7;generalize a.eval y=z at h7;cases h7;rfl
 refine ⟨_,w,?_,R.put h1 h2 h3 h4 h5 (.xs k _ _ _ sz (by omega) (xs_bk h6 hx))⟩
 unfold execOp;rw [ho]
 have hb:(Instr.sliceBounds true n cap (lo.map a.eval) (hi.map a.eval) none).run E.P w = .ok (l.toNat,u.toNat,cap) w:=by
  cases lo with
  | none =>
   simp only [BndOk] at hlo
   subst hlo
   cases hi with
   | none=>simp only [BndOk] at hhi;subst hhi;simp [Instr.sliceBounds]
   | some y =>
    obtain ⟨k,hk⟩:=hhi
    simp [Instr.sliceBounds,Instr.sliceBound,evi hk,asIntOf,h01,hu]
  | some z =>
   obtain ⟨k',hk'⟩:=hlo
   cases hi with
   | none=>simp only [BndOk] at hhi;subst hhi;simp [Instr.sliceBounds,Instr.sliceBound,evi hk',asIntOf,h0,h01]
   | some y =>
    obtain ⟨k,hk⟩:=hhi
    have h0u:0≤u:=by omega
    have hlu:¬ (max u 0 < l):=by omega
    simp [Instr.sliceBounds,Instr.sliceBound,evi hk,evi hk',asIntOf,h0,h0u,hu,hlu]
 have key:(Instr.sliceAt t (a.eval x) (lo.map a.eval) (hi.map a.eval) none).run E.P w = .ok (.slice (some ⟨c.β k,(if cap=l.toNat then off else off + l.toNat * sz),none⟩) (u.toNat - l.toNat) (cap - l.toNat)) w:=by
  simp only [Instr.sliceAt,Instr.slice,Sem.run_bind,run_underlying (ht.el e he),hv,Result.andThen_ok]
  rw [hb]
  simp only [Result.andThen_ok,sizeOf_ok hte,Sem.run_bind,Sem.run_pure,Option.map_some,add_none,hsz]
  by_cases hc:cap=l.toNat
  ·rw [if_pos hc,if_pos hc]
  ·rw [if_neg hc,if_neg hc]
 simp [key]
theorem op_slice3_xs (h:R E st a w) (t:TypeId) (x lo hi mx:Operand) (ho:o.op = .slice t x (some lo) (some hi) (some mx)) {i ie:TyI} (ht:TyOk E.P t i) {e:TypeId} (he:i.elem=some e) (hte:TyOk E.P e ie) {k off n cap sz:Nat} (hx:st.ev x = .xs k off n cap sz)
  {l u m:Int} (hlo:BndOk st (some lo) 0 l) (hhi:BndOk st (some hi) n u) (hmx:BndOk st (some mx) cap m) (h0:0≤l) (h01:l≤u) (hum:u≤m) (hm:m≤cap) (hsz:sz=ie.size) :
  Yields E o (st.put o.dst (.xs k (if m.toNat=l.toNat then off else off + l.toNat * sz) (u.toNat - l.toNat) (m.toNat - l.toNat) sz)) a w:=by
 obtain ⟨c,h1,h2,h3,h4,h5,h6⟩:=h.get x
 obtain ⟨hv,hnc⟩:=xs_val h6 hx
 have evi:∀ {y:Operand} {k:IntKind} {n:Int},st.ev y = .v (.int k n)→a.eval y = .int k n:=fun {y k n} hy=>by
  have h7:=R.ev h3 y
  rw [hy] at h7;generalize a.eval y=z at h7;cases h7;rfl
 refine ⟨_,w,?_,R.put h1 h2 h3 h4 h5 (.xs k _ _ _ sz (by omega) (xs_bk h6 hx))⟩
 unfold execOp;rw [ho]
 obtain ⟨k1,hk1⟩:=hlo
 obtain ⟨k2,hk2⟩:=hhi
 obtain ⟨k3,hk3⟩:=hmx
 have hb:(Instr.sliceBounds true n cap (some (a.eval lo)) (some (a.eval hi)) (some (a.eval mx))).run E.P w = .ok (l.toNat,u.toNat,m.toNat) w:=by
  have q1:0≤u:=by omega
  have q2:0≤m:=by omega
  have q3:u≤max m 0:=by omega
  have q4:l≤max u 0:=by omega
  simp [Instr.sliceBounds,Instr.sliceBound,evi hk1,evi hk2,evi hk3,asIntOf,h0,h01,hum,hm,q1,q2,q3,q4]
 have key:(Instr.sliceAt t (a.eval x) (some (a.eval lo)) (some (a.eval hi)) (some (a.eval mx))).run E.P w = .ok (.slice (some ⟨c.β k,(if m.toNat=l.toNat then off else off + l.toNat * sz),none⟩) (u.toNat - l.toNat) (m.toNat - l.toNat)) w:=by
  simp only [Instr.sliceAt,Instr.slice,Sem.run_bind,run_underlying (ht.el e he),hv,Result.andThen_ok]
  rw [hb]
  simp only [Result.andThen_ok,sizeOf_ok hte,Sem.run_bind,Sem.run_pure,Option.map_some,add_none,hsz]
  by_cases hc:m.toNat=l.toNat
  ·rw [if_pos hc,if_pos hc]
  ·rw [if_neg hc,if_neg hc]
 simp [key]
theorem setcells {c:Gh} (hw:c.w=w) (G:Good E st.m st.rn c) (hσ:∀ x,Rd c (lk x st.σ) (a.tmps.getD x undef)) {d off:Nat} (hk0:bk d=0) {ls xs:List AV} (hl:lkm d st.m=some ls)
  (vs:List Value) (hlen:xs.length=vs.length) (hxv:∀ (j:Nat) (x:AV) (v:Value),xs[j]? = some x→vs[j]? = some v→Rd c x v) (hfit:off + xs.length≤ls.length) (hone:∀ u ∈ vs,u.oneCell'=true) :
  ∃ w',(storeCells ⟨c.β d,off,none⟩ vs 0).run E.P w = .ok () w'∧Good E (repm d (setL ls off xs) st.m) st.rn { c with w:=w' }∧∀ x,Rd { c with w:=w' } (lk x st.σ) (a.tmps.getD x undef):=by
 obtain ⟨cs,T,b1,b2,b3,b4,b5⟩:=(G.box d ls hl).cells hk0
 rw [hw] at b2
 obtain ⟨w',r1,r2,r3,r4,r5,r6,r7⟩:=run_storeCells_box E.P (c.β d) T vs off 0 cs w b2 (by omega) hone
 obtain ⟨G',hσ'⟩:=R.setboxG hw G hσ (d:=d) (off:=off) (ls:=ls) (xs:=xs) (vs:=vs) hl hlen hxv b2 (by simpa using r2) r3 r4 r5 r6 r7
 exact ⟨w',r1,G'.congr (fun k=>lkm_repm d k _ ls _ hl),hσ'⟩
theorem op_makeSlice_xs (h:R E st a w) (d:Nat) (hdl:d < 920) (hd:o.dst=some d) (t:TypeId) (x y:Operand) (ho:o.op = .makeSlice t x y) {i ie:TyI} (ht:TyOk E.P t i) {e:TypeId} (he:i.elem=some e) (hte:TyOk E.P e ie) {k k':IntKind} {n m:Int} (hx:st.ev x = .v (.int k n)) (hy:st.ev y = .v (.int k' m))
  (h0:0≤n) (h1:n≤m) (h2:m≤4294967296) :
  Yields E o (St.put { (st.stripL d) with m:=(d,AV.stripLAll d (List.replicate m.toNat (ie.zero.map leafOf)).flatten)::(st.stripL d).m } (some d) (.xs d 0 n.toNat m.toNat ie.size)) a w:=by
 obtain ⟨c,h1',h2',h3,h4,h5,h6⟩:=h.get x
 have h7:=R.ev h3 y
 have e1:a.eval x = .int k n:=by rw [hx] at h6;generalize a.eval x=z at h6;cases h6;rfl
 have e2:a.eval y = .int k' m:=by rw [hy] at h7;generalize a.eval y=z at h7;cases h7;rfl
 obtain ⟨q,z,dd,g1,g2,g3,g4,g5,g6,g7,g8⟩:=hte.inf
 have hbytes:(q.bytes:Int) * m≤281474976710656:=by
  have a1:(q.bytes:Int)≤32768:=by omega
  have a2:(q.bytes:Int) * m≤32768 * m:=Int.mul_le_mul_of_nonneg_right a1 (by omega)
  omega
 have hrun:=run_make w t e q z (ht.el e he) g1 g3 k k' n m h0 h1 hbytes (by omega)
 have hzl:z.cells.size=q.size:=by rw [g5,g2]
 have hzs:ie.zero.length=q.size:=by rw [← g4,g2];simpa using g5
 have hmc:(madeCells z.cells (m.toNat * q.size)).size=m.toNat * q.size:=size_madeCells _ _
 have hrl:(List.replicate m.toNat (ie.zero.map leafOf)).flatten.length=m.toNat * q.size:=by simp [hzs]
 refine ⟨.slice (some ⟨w.heap.size,0,none⟩) n.toNat m.toNat,w.alloc (.cells (madeCells z.cells (m.toNat * q.size)) e),?_,?_⟩
 ·unfold execOp;rw [ho]
  simp [e1,e2,hrun]
 ·rw [hd]
  refine R.newboxG h1' h2' h3 h4 h5 d hdl _ _ e (by rw [hmc,hrl]) (fun j x hx=>?_) _ _ (fun c' h=>by rw [← h];exact .xs d 0 n.toNat m.toNat ie.size (by omega) (bk_lt hdl))
  have hj:j < m.toNat * q.size:=by rw [← hrl];exact (List.getElem?_eq_some_iff.1 hx).1
  obtain ⟨q1,q2,q3⟩:=div_row hj
  have key:∀ (n:Nat) (l:List AV) (p r:Nat),l.length=q.size→p < n→r < q.size→(List.replicate n l).flatten[p * q.size + r]? = l[r]? := by
   intro n
   induction n with
   | zero=>intro l p r _ hp;omega
   | succ n ih =>
    intro l p r hl hp hr
    rw [List.replicate_succ,List.flatten_cons]
    cases p with
    | zero=>rw [List.getElem?_append_left (by omega)];simp
    | succ p =>
     rw [List.getElem?_append_right (by rw [Nat.add_mul];omega),show (p + 1) * q.size + r - l.length=p * q.size + r by rw [Nat.add_mul];omega]
     exact ih l p r hl (by omega) hr
  rw [← q3,key _ _ _ _ (by simp [hzs]) q1 q2,List.getElem?_map,Option.map_eq_some_iff] at hx
  obtain ⟨v,hv,rfl⟩:=hx
  have hval:(madeCells z.cells (m.toNat * q.size)).getD j undef=v:=by
   have hzr:z.cells[j % q.size]? = some v:=by rw [← Array.getElem?_toList,g4];exact hv
   have hrs:j % q.size < z.cells.size:=by omega
   simp only [madeCells,Array.getD_eq_getD_getElem?,Array.getElem?_map]
   rw [Array.getElem?_range,if_pos hj]
   simp only [Option.map_some,Option.getD_some,hzl]
   rw [getElem!_pos z.cells (j % q.size) hrs]
   rw [Array.getElem?_eq_getElem hrs] at hzr
   exact Option.some.inj hzr
  rw [hval]
  exact Rd.leafOf c v
theorem box_cells {c:Gh} {d:Nat} {ls:List AV} (hk0:bk d=0) (G:Good E st.m st.rn c) (hl:lkm d st.m=some ls):∃ cs:Array Value,∃ T,c.w.heap[c.β d]? = some (.cells cs T (0,0))∧cs.size=ls.length∧(∀ j x,ls[j]? = some x→Rd c x (cs.getD j undef))∧∀ o,¬ c.S (c.β d) o:=by
 obtain ⟨cs,T,b1,b2,b3,b4,b5⟩:=(G.box d ls hl).cells hk0
 exact ⟨cs,T,b2,b3,b4,b5⟩
theorem allLeaf_one {c:Gh} {xs:List AV} {vs:List Value} (h:∀ z ∈ xs,(∀ l,z≠.agg l)∧z.leaves.isSome=true) (hlen:xs.length=vs.length) (hr:∀ (j:Nat) (x:AV) (v:Value),xs[j]? = some x→vs[j]? = some v→Rd c x v):∀ u ∈ vs,u.oneCell'=true:=fun u hu=>by
 obtain ⟨j,hj⟩:=List.getElem?_of_mem hu
 have hl:j < xs.length:=by rw [hlen];exact (List.getElem?_eq_some_iff.1 hj).1
 have hx:=List.getElem?_eq_getElem hl
 obtain ⟨z1,z2⟩:=h _ (List.getElem_mem hl)
 exact leaves_one (hr j _ u hx hj) (fun l e=>z1 l e) z2
def SrcOk (st:St) (sz:Nat) (y:Operand) (m:Nat) (srcA:List AV):Prop :=
 (∃ ys,(st.ev y).els=some ys∧(∀ row ∈ ys,row.length=sz)∧m=ys.length∧srcA=flatA ys)∨(∃ k2 off2 cap2 ls2,st.ev y = .xs k2 off2 m cap2 sz∧lkm k2 st.m=some ls2∧srcA=ls2.drop off2∧off2 + m * sz≤ls2.length)
theorem src_vals {c:Gh} (G:Good E st.m st.rn c) (hσ:∀ x,Rd c (lk x st.σ) (a.tmps.getD x undef)) {sz m:Nat} {y:Operand} {srcA:List AV} (hy:SrcOk st sz y m srcA) (hleaf:∀ z ∈ srcA.take (m * sz),(∀ l,z≠.agg l)∧z.leaves.isSome=true) :
  (m=0∧srcA=[]∧a.eval y = .slice none 0 0)∨∃ (ad:Addr) (cap:Nat),∃ news:List Value,a.eval y = .slice (some ad) m cap∧news.length=m * sz∧(srcA.take (m * sz)).length=m * sz∧
   (∀ j u,news[j]? = some u→c.w.cell? (ad.add j)=some u)∧(∀ u ∈ news,u.oneCell'=true)∧∀ (j:Nat) (x:AV) (u:Value),(srcA.take (m * sz))[j]? = some x→news[j]? = some u→Rd c x u:=by
 rcases hy with ⟨ys,hy1,hy2,rfl,rfl⟩ | ⟨k2,off2,cap2,ls2,hy1,hl2,rfl,hf2⟩
 ·have hyr:=(R.ev hσ y).els hy1
  rcases hyr.vals (sz:=sz) hy2 with ⟨rfl,hyv⟩ | ⟨ya,ycap,news,hyv,hnl,hnc',hone,hnr⟩
  ·exact .inl ⟨rfl,rfl,hyv⟩
  ·have hflen:(flatA ys).length=ys.length * sz:=by unfold flatA;rw [List.length_map,flat_len hy2]
   rw [List.take_of_length_le (by omega)]
   exact .inr ⟨ya,ycap,news,hyv,hnl,hflen,hnc',hone,hnr⟩
 ·obtain ⟨hv2,_⟩:=xs_val (R.ev hσ y) hy1
  obtain ⟨cs,T,b2,b3,b4,b5⟩:=box_cells (xs_bk (R.ev hσ y) hy1) G hl2
  have hlen:((ls2.drop off2).take (m * sz)).length=m * sz:=by simp;omega
  have hrd:∀ (j:Nat) (x:AV) (u:Value),((ls2.drop off2).take (m * sz))[j]? = some x→((cs.toList.drop off2).take (m * sz))[j]? = some u→Rd c x u:=fun j x u hx hu=>by
   rw [List.getElem?_take] at hx hu
   split at hx
   ·rename_i hlt
    rw [if_pos hlt] at hu
    rw [List.getElem?_drop] at hx hu
    have:=b4 _ x hx
    rw [Array.getElem?_toList] at hu
    rwa [Array.getD_eq_getD_getElem?,hu] at this
   ·cases hx
  have hnl:((cs.toList.drop off2).take (m * sz)).length=m * sz:=by simp;omega
  refine .inr ⟨⟨c.β k2,off2,none⟩,cap2,(cs.toList.drop off2).take (m * sz),hv2,hnl,hlen,fun j u hu=>?_,allLeaf_one hleaf (by rw [hlen,hnl]) hrd,hrd⟩
  rw [List.getElem?_take] at hu
  split at hu
  ·rw [add_none,cell_of_row c.w _ _ cs T (0,0) b2];simpa using hu
  ·cases hu
theorem op_append_xs (h : R E st a w) (d : Nat) (hdl : d < 920) (hd : o.dst = some d) (t : TypeId) (x y : Operand) (ho : o.op = .call { callee := .builtin .append, args := #[x, y], argTypes := #[t, t] }) {i ie : TyI} (ht : TyOk E.P t i) {e : TypeId} (he : i.elem = some e) (hte : TyOk E.P e ie)
    {k off n cap sz : Nat} (hx : st.ev x = .xs k off n cap sz) {m : Nat} {srcA : List AV} (hy : SrcOk st sz y m srcA) (hleaf : ∀ z ∈ srcA.take (m * sz), (∀ l, z ≠ .agg l) ∧ z.leaves.isSome = true) (hsz : sz = ie.size) (hlen : n + m ≤ 4294967296) {ls : List AV} (hl : lkm k st.m = some ls) (hfit : off + cap * sz ≤ ls.length)
    {next : Act → World → Prop} {Q : Exit → Act → World → Prop}
    (hr1 : n + m ≤ cap → ∀ a' w', R E (St.put { st with m := repm k (setL ls (off + n * sz) (srcA.take (m * sz))) st.m } (some d) (.xs k off (n + m) cap sz)) a' w' → next a' w')
    (hr2 : cap < n + m → ∀ cap', n + m ≤ cap' → ∀ a' w', R E (St.put { (st.stripL d) with m := (d, AV.stripLAll d ((ls.drop off).take (n * sz) ++ srcA.take (m * sz) ++ List.replicate ((cap' - (n + m)) * sz) .junk)) :: (st.stripL d).m } (some d) (.xs d 0 (n + m) cap' sz)) a' w' → next a' w') :
    o.wp E.P a w next Q := by
  have h0 := h
  obtain ⟨c, h1, h2, h3, h4, h5, h6⟩ := h.get x
  obtain ⟨hv, hnc⟩ := xs_val h6 hx
  obtain ⟨q, z, dd, g1, g2, g3, g4, g5, g6, g7, g8⟩ := hte.inf
  have hqs : q.size = sz := by omega
  have hzs : z.cells.size = q.size := by rw [g5, g2]
  have hbytes : (n + m) * q.bytes ≤ 140737488355328 := by
    have := Nat.mul_le_mul hlen g6; omega
  have hmax : n + m ≤ maxLen := by unfold maxLen; omega
  obtain ⟨cs, T, b2, b3, b4, b5⟩ := box_cells (xs_bk h6 hx) h2 hl
  rw [h1] at b2
  have hnf : n * sz ≤ cap * sz := Nat.mul_le_mul_right _ hnc
  have fin : ∀ v' w', (Builtin.append_ #[t, t] o.type #[a.eval x, a.eval y]).run E.P w = .ok v' w' → next (a.put o.dst v') w' → o.wp E.P a w next Q := fun v' w' hr hn => by
    unfold Oper.wp
    have : (execOp a.eval o).run E.P w = .ok (.value v') w' := by
      unfold execOp; rw [ho]
      simp [resolve, invoke, BigFrame.builtin_append, hr]
    rw [this]; exact hn
  rcases src_vals h2 h3 hy hleaf with ⟨rfl, rfl, hyv⟩ | ⟨ya, ycap, news, hyv, hnl, hflen, hnc', hone, hnr⟩
  · refine fin (.slice (some ⟨c.β k, off, none⟩) n cap) w (by rw [hv, hyv]; exact run_append_empty E.P w t o.type e q (ht.el e he) g1 _ n cap hnc _ (.inl rfl)) ?_
    rw [hd]
    refine hr1 (by simpa using hnc) _ _ (R.put (st := { st with m := repm k (setL ls (off + n * sz) ((([] : List AV)).take (0 * sz))) st.m }) h1 (h2.congr fun j => ?_) h3 h4 h5 (.xs k off n cap sz hnc (xs_bk h6 hx)))
    show lkm j (repm k (setL ls (off + n * sz) (List.take (0 * sz) [])) st.m) = _
    rw [List.take_nil]
    show lkm j (repm k ls st.m) = _
    rw [lkm_repm k j ls ls st.m hl]
    simp only [lkm]
    split
    · rename_i e; rw [e]; exact hl.symm
    · rfl
  · by_cases hroom : n + m ≤ cap
    · have hsum : (n + m) * sz ≤ cap * sz := Nat.mul_le_mul_right _ hroom
      rw [Nat.add_mul] at hsum
      obtain ⟨w', r1, r2, r3⟩ := setcells h1 h2 h3 (xs_bk h6 hx) hl (off := off + n * sz) (xs := srcA.take (m * sz)) news (by omega) (fun j x v hx hv => hnr j x v hx hv) (by omega) hone
      refine fin (.slice (some ⟨c.β k, off, none⟩) (n + m) cap) w' ?_ ?_
      · rw [hv, hyv]
        have hf := run_firstCells_some (P := E.P) w q.size m ya m ycap news (by rw [hqs]; exact hnl) (fun j u hu => by rw [← h1]; exact hnc' j u hu)
        rw [hqs] at hf
        simp only [Builtin.append_]
        simp [run_underlying (ht.el e he), sizeOf, typeInfo, g1, Builtin.lenOf, hroom, hf, add_none, hqs, r1]
      · rw [hd]
        exact hr1 hroom _ _ (R.put (st := { st with m := repm k (setL ls (off + n * sz) (srcA.take (m * sz))) st.m }) (c := { c with w := w' }) rfl r2 r3 h4 h5 (.xs k off _ cap sz hroom (xs_bk h6 hx)))
    · have hm : 0 < m := by omega
      have holds : ∀ j v, ((cs.toList.drop off).take (n * sz))[j]? = some v → w.cell? ((⟨c.β k, off, none⟩ : Addr).add j) = some v := fun j v hj => by
        rw [add_none, cell_of_row w _ _ cs T (0, 0) b2]
        rw [List.getElem?_take] at hj
        split at hj
        · simpa using hj
        · cases hj
      have hol : ((cs.toList.drop off).take (n * sz)).length = n * q.size := by rw [hqs]; simp; omega
      have hr := run_append_grow (P := E.P) w t o.type e q z (ht.el e he) g1 g3 ⟨c.β k, off, none⟩ n cap ((cs.toList.drop off).take (n * sz)) hol holds ya m ycap news (by rw [hqs]; exact hnl) (fun j u hu => by rw [← h1]; exact hnc' j u hu) (by omega)
        (by unfold maxLen at hmax; omega) (growslice_fits (by omega) hbytes)
      have hge := grownCap_ge w (n + m) cap e
      have hle := grownCap_le_maxLen w (n + m) cap e hmax
      refine fin _ _ (by rw [hv, hyv]; exact hr) ?_
      rw [hd]
      obtain ⟨c1, d1, d2, d3, d4, d5⟩ := h0.drew
      refine hr2 (by omega) (grownCap w (n + m) cap e) hge _ _ ?_
      have hkd : Keeps c.w c.S w.drew c.S := by subst h1; exact Keeps.same (fun _ _ h => h) fun _ _ _ => rfl
      have h2' : Good E st.m st.rn { c with w := w.drew } := by
        subst h1
        have hk : ∀ {x v}, Rd c x v → Rd { c with w := c.w.drew } x v := fun h => h.keep (c' := { c with w := c.w.drew }) hkd rfl rfl rfl rfl
        exact { bl := h2.bl, cg := h2.cg, fr := grownL_of h2.fr rfl rfl rfl (Nat.le_refl _) (fun _ _ _ => rfl), lx := h2.lx, sx := h2.sx, s1 := h2.s1, sS := h2.sS, sg := h2.sg,
                box := fun d ls hl => by
                  obtain ⟨cs, T, h1, h2, h3, h4, h5⟩ := h2.box d ls hl
                  exact ⟨cs, T, h1, h2, h3, fun j x hx => hk (h4 j x hx), h5⟩
                boxinj := h2.boxinj, tok := h2.tok, toktok := h2.toktok, tokbox := h2.tokbox, rk := h2.rk }
      have hk : ∀ {x v}, Rd c x v → Rd { c with w := w.drew } x v := fun h => h.keep (c' := { c with w := w.drew }) hkd rfl rfl rfl rfl
      refine R.newboxG (c := { c with w := w.drew }) rfl h2' (fun x => hk (h3 x)) h4 h5 d hdl _ _ e ?_ (fun j x hx => ?_) _ _ (fun c' h => by rw [show w.heap.size = c'.β d from h.symm]; exact .xs d 0 _ _ sz hge (bk_lt hdl))
      · simp only [Array.size_append, List.size_toArray, size_zeroCells, hzs, List.length_append, List.length_replicate, hol, hnl, hqs, hflen, List.length_take, List.length_drop]
        have : min (n * sz) (ls.length - off) = n * sz := by omega
        omega
      · have hlt : ((ls.drop off).take (n * sz)).length = n * sz := by simp; omega
        rw [Array.getD_eq_getD_getElem?, ← Array.getElem?_toList]
        simp only [Array.toList_append, List.append_assoc] at hx ⊢
        by_cases hj : j < n * sz
        · rw [List.getElem?_append_left (by rw [hlt]; exact hj)] at hx
          rw [List.getElem?_append_left (by rw [hol, hqs]; exact hj)]
          rw [List.getElem?_take, if_pos hj, List.getElem?_drop] at hx
          rw [List.getElem?_take, if_pos hj, List.getElem?_drop, Array.getElem?_toList]
          have := b4 (off + j) x hx
          rw [Array.getD_eq_getD_getElem?] at this
          exact hk this
        · rw [List.getElem?_append_right (by rw [hlt]; omega), hlt] at hx
          rw [List.getElem?_append_right (by rw [hol, hqs]; omega), hol, hqs]
          by_cases hj2 : j - n * sz < m * sz
          · rw [List.getElem?_append_left (by rw [hflen]; exact hj2)] at hx
            rw [List.getElem?_append_left (by rw [hnl]; exact hj2)]
            have hnn := List.getElem?_eq_getElem (l := news) (i := j - n * sz) (by rw [hnl]; exact hj2)
            rw [hnn]
            exact hk (hnr _ x _ hx hnn)
          · rw [List.getElem?_append_right (by rw [hflen]; omega)] at hx
            obtain ⟨_, rfl⟩ := List.getElem?_eq_some_iff.1 hx
            simp only [List.getElem_replicate]
            exact .junk _

theorem op_append_zero_xs (h : R E st a w) (d : Nat) (hdl : d < 920) (hd : o.dst = some d) (t t' : TypeId) (x y : Operand) (ho : o.op = .call { callee := .builtin .append, args := #[x, y], argTypes := #[t, t'] }) {i ie it : TyI} (ht : TyOk E.P t i) {e : TypeId} (he : i.elem = some e) (hte : TyOk E.P e ie) (ht' : TyOk E.P t' it) {ik : IntKind} (hik : it.ik = some ik)
    {k off n cap sz : Nat} (hx : st.ev x = .xs k off n cap sz) {kd : IntKind} {z : Int} (hy : st.ev y = .v (.int kd z)) (hz0 : 0 ≤ z) (hsz : sz = ie.size) (hpos : 0 < sz) (hlen : n + z.toNat ≤ 4294967296) (hroom : cap < n + z.toNat) {ls : List AV} (hl : lkm k st.m = some ls) (hfit : off + n * sz ≤ ls.length)
    {next : Act → World → Prop} {Q : Exit → Act → World → Prop}
    (hr2 : ∀ cap', n + z.toNat ≤ cap' → ∀ a' w', R E (St.put { (st.stripL d) with m := (d, AV.stripLAll d ((ls.drop off).take (n * sz) ++ List.replicate ((cap' - n) * sz) .junk)) :: (st.stripL d).m } (some d) (.xs d 0 (n + z.toNat) cap' sz)) a' w' → next a' w') :
    o.wp E.P a w next Q := by
  have h0 := h
  obtain ⟨c, h1, h2, h3, h4, h5, h6⟩ := h.get x
  obtain ⟨hv, hnc⟩ := xs_val h6 hx
  have h7 := R.ev h3 y
  have e2 : a.eval y = .int kd z := by rw [hy] at h7; generalize a.eval y = u at h7; cases h7; rfl
  obtain ⟨q, zz, dd, g1, g2, g3, g4, g5, g6, g7, g8⟩ := hte.inf
  have hqs : q.size = sz := by omega
  have hzs : zz.cells.size = q.size := by rw [g5, g2]
  have hbytes : (n + z.toNat) * q.bytes ≤ 140737488355328 := by
    have := Nat.mul_le_mul hlen g6; omega
  have hmax : n + z.toNat ≤ maxLen := by unfold maxLen; omega
  obtain ⟨cs, T, b2, b3, b4, b5⟩ := box_cells (xs_bk h6 hx) h2 hl
  rw [h1] at b2
  have holds : ∀ j v, ((cs.toList.drop off).take (n * sz))[j]? = some v → w.drew.cell? ((⟨c.β k, off, none⟩ : Addr).add j) = some v := fun j v hj => by
    show w.cell? _ = _
    rw [add_none, cell_of_row w _ _ cs T (0, 0) b2]
    rw [List.getElem?_take] at hj
    split at hj
    · simpa using hj
    · cases hj
  have hol : ((cs.toList.drop off).take (n * sz)).length = n * q.size := by rw [hqs]; simp; omega
  have hge := grownCap_ge w (n + z.toNat) cap e
  have hle := grownCap_le_maxLen w (n + z.toNat) cap e hmax
  have hwr : IntKind.i64.wrap z = z := by rw [IntKind.wrap_i64]; omega
  have hf := run_firstCells_some (P := E.P) w.drew q.size n ⟨c.β k, off, none⟩ n cap _ hol holds
  have hbz : ¬ (281474976710656 < z * (q.bytes : Int)) := by
    have a1 : (q.bytes : Int) ≤ 32768 := by omega
    have a2 : z * (q.bytes : Int) ≤ z * 32768 := Int.mul_le_mul_of_nonneg_left a1 hz0
    omega
  have hqb : q.bytes ≠ 0 := hte.bz (by omega) q g1
  have hneg : ¬ z < 0 := by omega
  have hnr : ¬ (n + z.toNat ≤ cap) := by omega
  have h63 : ¬ (9223372036854775807 < ((n : Int) + (z.toNat : Int))) := by unfold maxLen at hmax; omega
  have h48 := growslice_fits (need := n + z.toNat) (old := cap) (by omega) hbytes
  have h48' : ¬ (281474976710656 < Builtin.nextslicecap (n + z.toNat) cap * q.bytes) := by omega
  have hzz : ¬ (z.toNat * q.size = 0) := by
    have : 0 < z.toNat := by omega
    have := Nat.mul_pos this (by omega : 0 < q.size)
    omega
  obtain ⟨v', hrun⟩ : ∃ N : Array Value, (Builtin.append_ #[t, t'] o.type #[a.eval x, a.eval y]).run E.P w = .ok (.slice (some ⟨w.heap.size, 0, none⟩) (n + z.toNat) (grownCap w (n + z.toNat) cap e)) (w.drew.alloc (.cells (((cs.toList.drop off).take (n * sz)).toArray ++ N) e)) ∧ N.size = (grownCap w (n + z.toNat) cap e - n) * sz := by
    refine ⟨Builtin.zeroCells zz.cells z.toNat ++ Builtin.zeroCells zz.cells (grownCap w (n + z.toNat) cap e - (n + z.toNat)), ?_, ?_⟩
    · rw [hv, e2]
      have ha : (asIntOf (.int kd z)).run E.P w = .ok (kd, z) w := rfl
      simp only [Builtin.append_]
      simp [run_underlying (ht.el e he), run_underlying (ht'.ik ik hik), sizeOf, typeInfo, zeroValue, g1, g3, asInt, ha, hwr, hneg, hbz, hnr, h63, h48', hzz, hqb, Question.forced, hf, newRow, grownCap]
      intro hbad
      exfalso
      unfold maxLen at hmax
      omega
    · simp only [Array.size_append, size_zeroCells, hzs, hqs, ← Nat.add_mul]; congr 1; omega
  obtain ⟨hrun, hNs⟩ := hrun
  unfold Oper.wp
  have hex : (execOp a.eval o).run E.P w = .ok (.value (.slice (some ⟨w.heap.size, 0, none⟩) (n + z.toNat) (grownCap w (n + z.toNat) cap e))) (w.drew.alloc (.cells (((cs.toList.drop off).take (n * sz)).toArray ++ v') e)) := by
    unfold execOp; rw [ho]
    simp [resolve, invoke, BigFrame.builtin_append, hrun]
  rw [hex]
  have hkd : Keeps c.w c.S w.drew c.S := by subst h1; exact Keeps.same (fun _ _ h => h) fun _ _ _ => rfl
  have hk : ∀ {x v}, Rd c x v → Rd { c with w := w.drew } x v := fun h => h.keep (c' := { c with w := w.drew }) hkd rfl rfl rfl rfl
  have h2' : Good E st.m st.rn { c with w := w.drew } := by
    subst h1
    exact { bl := h2.bl, cg := h2.cg, fr := grownL_of h2.fr rfl rfl rfl (Nat.le_refl _) (fun _ _ _ => rfl), lx := h2.lx, sx := h2.sx, s1 := h2.s1, sS := h2.sS, sg := h2.sg,
            box := fun d ls hl => by
              obtain ⟨cs, T, h1, h2, h3, h4, h5⟩ := h2.box d ls hl
              exact ⟨cs, T, h1, h2, h3, fun j x hx => hk (h4 j x hx), h5⟩
            boxinj := h2.boxinj, tok := h2.tok, toktok := h2.toktok, tokbox := h2.tokbox, rk := h2.rk }
  show next (a.put o.dst _) _
  rw [hd]
  refine hr2 (grownCap w (n + z.toNat) cap e) hge _ _ ?_
  have hlt : ((ls.drop off).take (n * sz)).length = n * sz := by simp; omega
  refine R.newboxG (c := { c with w := w.drew }) rfl h2' (fun x => hk (h3 x)) h4 h5 d hdl _ _ e ?_ (fun j x hx => ?_) _ _ (fun c' h => by rw [show w.heap.size = c'.β d from h.symm]; exact .xs d 0 _ _ sz hge (bk_lt hdl))
  · simp only [Array.size_append, List.size_toArray, List.length_append, List.length_replicate, hol, hNs, hlt, hqs]
  · rw [Array.getD_eq_getD_getElem?, ← Array.getElem?_toList]
    simp only [Array.toList_append]
    by_cases hj : j < n * sz
    · rw [List.getElem?_append_left (by rw [hlt]; exact hj)] at hx
      rw [List.getElem?_append_left (by rw [hol, hqs]; exact hj)]
      rw [List.getElem?_take, if_pos hj, List.getElem?_drop] at hx
      rw [List.getElem?_take, if_pos hj, List.getElem?_drop, Array.getElem?_toList]
      have := b4 (off + j) x hx
      rw [Array.getD_eq_getD_getElem?] at this
      exact hk this
    · rw [List.getElem?_append_right (by rw [hlt]; omega)] at hx
      obtain ⟨_, rfl⟩ := List.getElem?_eq_some_iff.1 hx
      simp only [List.getElem_replicate]
      exact .junk _

theorem op_append_zero_nl (h : R E st a w) (d : Nat) (hdl : d < 920) (hd : o.dst = some d) (t t' : TypeId) (x y : Operand) (ho : o.op = .call { callee := .builtin .append, args := #[x, y], argTypes := #[t, t'] }) {i ie it : TyI} (ht : TyOk E.P t i) {e : TypeId} (he : i.elem = some e) (hte : TyOk E.P e ie) (ht' : TyOk E.P t' it) {ik : IntKind} (hik : it.ik = some ik)
    {sz : Nat} (hx : st.ev x = .nl) {kd : IntKind} {z : Int} (hy : st.ev y = .v (.int kd z)) (hz0 : 0 < z) (hsz : sz = ie.size) (hpos : 0 < sz) (hlen : z.toNat ≤ 4294967296)
    {next : Act → World → Prop} {Q : Exit → Act → World → Prop}
    (hr2 : ∀ cap', z.toNat ≤ cap' → ∀ a' w', R E (St.put { (st.stripL d) with m := (d, AV.stripLAll d (List.replicate (cap' * sz) .junk)) :: (st.stripL d).m } (some d) (.xs d 0 z.toNat cap' sz)) a' w' → next a' w') :
    o.wp E.P a w next Q := by
  have h0 := h
  obtain ⟨c, h1, h2, h3, h4, h5, h6⟩ := h.get x
  have hv : a.eval x = .slice none 0 0 := by rw [hx] at h6; generalize a.eval x = u at h6; cases h6; rfl
  have h7 := R.ev h3 y
  have e2 : a.eval y = .int kd z := by rw [hy] at h7; generalize a.eval y = u at h7; cases h7; rfl
  obtain ⟨q, zz, dd, g1, g2, g3, g4, g5, g6, g7, g8⟩ := hte.inf
  have hqs : q.size = sz := by omega
  have hzs : zz.cells.size = q.size := by rw [g5, g2]
  have hbytes : (z.toNat) * q.bytes ≤ 140737488355328 := by
    have := Nat.mul_le_mul hlen g6; omega
  have hmax : z.toNat ≤ maxLen := by unfold maxLen; omega
  have hge := grownCap_ge w z.toNat 0 e
  have hle := grownCap_le_maxLen w z.toNat 0 e hmax
  have hwr : IntKind.i64.wrap z = z := by rw [IntKind.wrap_i64]; omega
  have hbz : ¬ (281474976710656 < z * (q.bytes : Int)) := by
    have a1 : (q.bytes : Int) ≤ 32768 := by omega
    have a2 : z * (q.bytes : Int) ≤ z * 32768 := Int.mul_le_mul_of_nonneg_left a1 (by omega)
    omega
  have hqb : q.bytes ≠ 0 := hte.bz (by omega) q g1
  have hneg : ¬ z < 0 := by omega
  have hnr : ¬ (z.toNat ≤ 0) := by omega
  have h63 : ¬ (9223372036854775807 < (z.toNat : Int)) := by unfold maxLen at hmax; omega
  have h48 := growslice_fits (need := z.toNat) (old := 0) (by omega) hbytes
  have h48' : ¬ (281474976710656 < Builtin.nextslicecap z.toNat 0 * q.bytes) := by omega
  have hz0' := hz0
  have hzz : ¬ (z.toNat * q.size = 0) := by
    have : 0 < z.toNat := by omega
    have := Nat.mul_pos this (by omega : 0 < q.size)
    omega
  obtain ⟨v', hrun⟩ : ∃ N : Array Value, (Builtin.append_ #[t, t'] o.type #[a.eval x, a.eval y]).run E.P w = .ok (.slice (some ⟨w.heap.size, 0, none⟩) z.toNat (grownCap w z.toNat 0 e)) (w.drew.alloc (.cells N e)) ∧ N.size = (grownCap w z.toNat 0 e) * sz := by
    refine ⟨Builtin.zeroCells zz.cells z.toNat ++ Builtin.zeroCells zz.cells (grownCap w z.toNat 0 e - (z.toNat)), ?_, ?_⟩
    · rw [hv, e2]
      have ha : (asIntOf (.int kd z)).run E.P w = .ok (kd, z) w := rfl
      have hz1 : ¬ z ≤ 0 := by omega
      have h63' : ¬ (9223372036854775807 < max z 0) := by unfold maxLen at hmax; omega
      have hf : (Builtin.firstCells q.size 0 (.slice none 0 0)).run E.P w.drew = .ok #[] w.drew := by simp [Builtin.firstCells]
      simp only [Builtin.append_]
      simp [run_underlying (ht.el e he), run_underlying (ht'.ik ik hik), sizeOf, typeInfo, zeroValue, g1, g3, asInt, ha, hwr, hneg, hbz, hnr, h48', hzz, hqb, hz1, h63', hf, Question.forced, newRow, grownCap]
    · simp only [Array.size_append, size_zeroCells, hzs, hqs, ← Nat.add_mul]; congr 1; omega
  obtain ⟨hrun, hNs⟩ := hrun
  unfold Oper.wp
  have hex : (execOp a.eval o).run E.P w = .ok (.value (.slice (some ⟨w.heap.size, 0, none⟩) z.toNat (grownCap w z.toNat 0 e))) (w.drew.alloc (.cells v' e)) := by
    unfold execOp; rw [ho]
    simp [resolve, invoke, BigFrame.builtin_append, hrun]
  rw [hex]
  have hkd : Keeps c.w c.S w.drew c.S := by subst h1; exact Keeps.same (fun _ _ h => h) fun _ _ _ => rfl
  have hk : ∀ {x v}, Rd c x v → Rd { c with w := w.drew } x v := fun h => h.keep (c' := { c with w := w.drew }) hkd rfl rfl rfl rfl
  have h2' : Good E st.m st.rn { c with w := w.drew } := by
    subst h1
    exact { bl := h2.bl, cg := h2.cg, fr := grownL_of h2.fr rfl rfl rfl (Nat.le_refl _) (fun _ _ _ => rfl), lx := h2.lx, sx := h2.sx, s1 := h2.s1, sS := h2.sS, sg := h2.sg,
            box := fun d ls hl => by
              obtain ⟨cs, T, h1, h2, h3, h4, h5⟩ := h2.box d ls hl
              exact ⟨cs, T, h1, h2, h3, fun j x hx => hk (h4 j x hx), h5⟩
            boxinj := h2.boxinj, tok := h2.tok, toktok := h2.toktok, tokbox := h2.tokbox, rk := h2.rk }
  show next (a.put o.dst _) _
  rw [hd]
  refine hr2 (grownCap w z.toNat 0 e) hge _ _ ?_
  refine R.newboxG (c := { c with w := w.drew }) rfl h2' (fun x => hk (h3 x)) h4 h5 d hdl _ _ e ?_ (fun j x hx => ?_) _ _ (fun c' h => by rw [show w.heap.size = c'.β d from h.symm]; exact .xs d 0 _ _ sz hge (bk_lt hdl))
  · rw [List.length_replicate]; exact hNs
  · obtain ⟨_, rfl⟩ := List.getElem?_eq_some_iff.1 hx
    simp only [List.getElem_replicate]
    exact .junk _

theorem op_copy_xs (h:R E st a w) (t t':TypeId) (x y:Operand) (ho:o.op = .call { callee:=.builtin .copy,args:=#[x,y],argTypes:=#[t,t'] }) {i ie:TyI} (ht:TyOk E.P t i) {e:TypeId} (he:i.elem=some e) (hte:TyOk E.P e ie)
  {k off n cap sz:Nat} (hx:st.ev x = .xs k off n cap sz) (hsz:sz=ie.size) {ls:List AV} (hl:lkm k st.m=some ls) {m:Nat} {srcA:List AV}
  (hy:(∃ ys,(st.ev y).els=some ys∧(∀ row ∈ ys,row.length=sz)∧m=ys.length∧srcA=flatA ys)∨(∃ k2 off2 cap2 ls2,st.ev y = .xs k2 off2 m cap2 sz∧lkm k2 st.m=some ls2∧srcA=ls2.drop off2∧off2 + m * sz≤ls2.length))
  (hfit:off + (min m n) * sz≤ls.length) (hleaf:∀ z ∈ srcA.take ((min m n) * sz),(∀ l,z≠.agg l)∧z.leaves.isSome=true) :
  Yields E o (St.put { st with m:=repm k (setL ls off (srcA.take ((min m n) * sz))) st.m } o.dst (.v (.int .i64 (min m n:Nat)))) a w:=by
 obtain ⟨c,h1,h2,h3,h4,h5,h6⟩:=h.get x
 obtain ⟨hv,hnc⟩:=xs_val h6 hx
 obtain ⟨q,z,dd,g1,g2,g3,g4,g5,g6,g7,g8⟩:=hte.inf
 have hqs:q.size=sz:=by omega
 have key:∃ v2,∃ news:List Value,a.eval y=v2∧(Builtin.lenOf v2).run E.P w = .ok m w∧news.length=(min m n) * sz∧(Builtin.firstCells sz (min m n) v2).run E.P w = .ok news.toArray w∧(srcA.take ((min m n) * sz)).length=news.length∧
   ∀ (j:Nat) (x:AV) (u:Value),(srcA.take ((min m n) * sz))[j]? = some x→news[j]? = some u→Rd c x u:=by
  have hmn:(min m n) * sz≤m * sz:=Nat.mul_le_mul_right _ (Nat.min_le_left _ _)
  rcases hy with ⟨ys,hy1,hy2,rfl,rfl⟩ | ⟨k2,off2,cap2,ls2,hy1,hl2,rfl,hf2⟩
  ·have hyr:=(R.ev h3 y).els hy1
   rcases hyr.vals (sz:=sz) hy2 with ⟨rfl,hyv⟩ | ⟨ya,ycap,news,hyv,hnl,hnc',hone,hnr⟩
   ·refine ⟨_,[],rfl,by rw [hyv];simp [Builtin.lenOf],by simp,by rw [hyv];simp [Builtin.firstCells],by simp [flatA],fun j x u hx=>by simp [flatA] at hx⟩
   ·refine ⟨_,news.take ((min ys.length n) * sz),rfl,by rw [hyv];simp [Builtin.lenOf],by simp;omega,?_,?_,fun j x u hx hu=>?_⟩
    ·rw [hyv]
     exact run_firstCells_some (P:=E.P) w sz (min ys.length n) ya ys.length ycap _ (by simp;omega) (fun j u hu=>by
      rw [List.getElem?_take] at hu
      split at hu
      ·rw [← h1];exact hnc' j u hu
      ·cases hu)
    ·have hflen:(flatA ys).length=ys.length * sz:=by unfold flatA;rw [List.length_map,flat_len hy2]
     simp only [List.length_take,hflen,hnl]
    ·rw [List.getElem?_take] at hx hu
     split at hx
     ·rename_i hlt;rw [if_pos hlt] at hu;exact hnr j x u hx hu
     ·cases hx
  ·obtain ⟨hv2,_⟩:=xs_val (R.ev h3 y) hy1
   obtain ⟨cs,T,b2,b3,b4,b5⟩:=box_cells (xs_bk (R.ev h3 y) hy1) h2 hl2
   rw [h1] at b2
   refine ⟨_,(cs.toList.drop off2).take ((min m n) * sz),rfl,by rw [hv2];simp [Builtin.lenOf],by simp;omega,?_,by simp;omega,fun j x u hx hu=>?_⟩
   ·rw [hv2]
    exact run_firstCells_some (P:=E.P) w sz (min m n) ⟨c.β k2,off2,none⟩ m cap2 _ (by simp;omega) (fun j u hu=>by
     rw [List.getElem?_take] at hu
     split at hu
     ·rw [add_none,cell_of_row w _ _ cs T (0,0) b2];simpa using hu
     ·cases hu)
   ·rw [List.getElem?_take] at hx hu
    split at hx
    ·rename_i hlt
     rw [if_pos hlt] at hu
     rw [List.getElem?_drop] at hx hu
     have:=b4 _ x hx
     rw [Array.getElem?_toList] at hu
     rwa [Array.getD_eq_getD_getElem?,hu] at this
    ·cases hx
 obtain ⟨v2,news,e2,k1,k2,k3,k4,k5⟩:=key
 have hone:=allLeaf_one (c:=c) hleaf k4 k5
 obtain ⟨w',r1,r2,r3⟩:=setcells h1 h2 h3 (xs_bk h6 hx) hl (off:=off) (xs:=srcA.take ((min m n) * sz)) news k4 k5 (by rw [k4,k2];exact hfit) hone
 refine ⟨.int .i64 (min m n:Nat),w',?_,R.put (st:={ st with m:=repm k (setL ls off (srcA.take ((min m n) * sz))) st.m }) (c:={ c with w:=w' }) rfl r2 r3 h4 h5 (.v _ rfl)⟩
 unfold execOp;rw [ho]
 have:(Builtin.copy_ #[t,t'] o.type #[a.eval x,a.eval y]).run E.P w = .ok (.int .i64 (min m n:Nat)) w':=by
  rw [e2,hv]
  have hmin:Nat.min m n=min m n:=rfl
  simp only [Builtin.copy_]
  simp [run_underlying (ht.el e he),k1,sizeOf,typeInfo,g1,hqs,hmin,k3,r1,goInt]
 simp [resolve,invoke,BigFrame.builtin_copy,this]
theorem op_clear_xs (h:R E st a w) (t:TypeId) (x:Operand) (ho:o.op = .call { callee:=.builtin .clear,args:=#[x],argTypes:=#[t] }) {i ie:TyI} (ht:TyOk E.P t i) {e:TypeId} (he:i.elem=some e) (hte:TyOk E.P e ie)
  {k off n cap sz:Nat} (hx:st.ev x = .xs k off n cap sz) (hsz:sz=ie.size) {ls:List AV} (hl:lkm k st.m=some ls) (hfit:off + n * sz≤ls.length) (hz:(ie.zero.all fun u=>u.oneCell')=true) :
  Yields E o (St.put { st with m:=repm k (setL ls off (List.replicate n (ie.zero.map leafOf)).flatten) st.m } o.dst (.tup [])) a w:=by
 obtain ⟨c,h1,h2,h3,h4,h5,h6⟩:=h.get x
 obtain ⟨hv,hnc⟩:=xs_val h6 hx
 obtain ⟨q,z,dd,g1,g2,g3,g4,g5,g6,g7,g8⟩:=hte.inf
 have hqs:q.size=sz:=by omega
 have hzl:z.cells.size=q.size:=by rw [g5,g2]
 have hzs:ie.zero.length=q.size:=by rw [← g4,g2];simpa using g5
 have hrl:(List.replicate n (ie.zero.map leafOf)).flatten.length=n * sz:=by simp [hzs,hqs]
 have hzc:(Builtin.zeroCells z.cells n).size=n * sz:=by simp [size_zeroCells,hzl,hqs]
 have key:∀ (n:Nat) (l:List AV) (p r:Nat),l.length=sz→p < n→r < sz→(List.replicate n l).flatten[p * sz + r]? = l[r]? := by
  intro n
  induction n with
  | zero=>intro l p r _ hp;omega
  | succ n ih =>
   intro l p r hl hp hr
   rw [List.replicate_succ,List.flatten_cons]
   cases p with
   | zero=>rw [List.getElem?_append_left (by omega)];simp
   | succ p =>
    rw [List.getElem?_append_right (by rw [Nat.add_mul];omega),show (p + 1) * sz + r - l.length=p * sz + r by rw [Nat.add_mul];omega]
    exact ih l p r hl (by omega) hr
 have hcell:∀ j u,(Builtin.zeroCells z.cells n).toList[j]? = some u→j < n * sz∧ie.zero[j % sz]? = some u:=fun j u hu=>by
  have hj:j < n * sz:=by rw [← hzc];simpa using (List.getElem?_eq_some_iff.1 hu).1
  refine ⟨hj,?_⟩
  obtain ⟨q1,q2,q3⟩:=div_row hj
  have hrs:j % q.size < z.cells.size:=by rw [hzl,hqs];exact q2
  rw [Array.getElem?_toList] at hu
  simp only [Builtin.zeroCells,Array.getElem?_map] at hu
  rw [Array.getElem?_range,if_pos (by rw [hzl,hqs];exact hj)] at hu
  simp only [Option.map_some,Option.some.injEq,hzl] at hu
  rw [getElem!_pos z.cells (j % q.size) hrs] at hu
  have hzr:z.cells.toList[j % q.size]? = some u:=by rw [Array.getElem?_toList,Array.getElem?_eq_getElem hrs,hu]
  rw [g4,hqs] at hzr
  exact hzr
 obtain ⟨w',r1,r2,r3⟩:=setcells h1 h2 h3 (xs_bk h6 hx) hl (off:=off) (xs:=(List.replicate n (ie.zero.map leafOf)).flatten) (Builtin.zeroCells z.cells n).toList (by rw [hrl];simp [hzc]) (fun j x u hx hu=>by
   obtain ⟨hj,hu2⟩:=hcell j u hu
   obtain ⟨q1,q2,q3⟩:=div_row hj
   rw [← q3,key _ _ _ _ (by simp [hzs,hqs]) q1 q2,List.getElem?_map,hu2] at hx
   obtain rfl:=Option.some.inj hx
   exact Rd.leafOf c u) (by rw [hrl];exact hfit) (fun u hu=>by
   obtain ⟨j,hj⟩:=List.getElem?_of_mem hu
   exact List.all_eq_true.1 hz u (List.mem_of_getElem? (hcell j u hj).2))
 refine ⟨.tuple #[],w',?_,R.put (st:={ st with m:=repm k (setL ls off (List.replicate n (ie.zero.map leafOf)).flatten) st.m }) (c:={ c with w:=w' }) rfl r2 r3 h4 h5 (.tup [] #[] rfl (fun j x hx=>by simp at hx))⟩
 unfold execOp;rw [ho]
 have:(Builtin.clear_ #[t] o.type #[a.eval x]).run E.P w = .ok (.tuple #[]) w':=by
  rw [hv]
  simp only [Builtin.clear_]
  cases n with
  | zero =>
   have e0:(Builtin.zeroCells z.cells 0).toList=[]:=by simp [Builtin.zeroCells]
   rw [e0] at r1
   have:w'=w:=by
    have h9:(storeCells ⟨c.β k,off,none⟩ [] 0).run E.P w = .ok () w:=rfl
    rw [h9] at r1
    exact (Result.ok.inj r1).2.symm
   subst this
   simp [run_underlying (ht.el e he)]
  | succ n=>simp [run_underlying (ht.el e he),zeroValue,typeInfo,g1,g3,r1]
 simp [resolve,invoke,BigFrame.builtin_clear,this]
theorem op_buildSlice_xs (h:R E st a w) (d:Nat) (hdl:d < 920) (hd:o.dst=some d) (t:TypeId) (n:Nat) (parts:Array (Nat × Operand)) (ho:o.op = .buildSlice t n parts) {i ie:TyI} (ht:TyOk E.P t i) {e:TypeId} (he:i.elem=some e) (hte:TyOk E.P e ie) (hpos:0 < ie.size) (hsz:n * ie.size≤16777216)
  {ps:List (Nat × List AV)} (hps:partsL st parts.toList=some ps) {rs:List AV} (hrs:fillL (fun k=>some (k * ie.size,ie.size)) (List.replicate (n * ie.size) .junk) ps=some rs) :
  Yields E o (St.put { (st.stripL d) with m:=(d,AV.stripLAll d rs)::(st.stripL d).m } (some d) (.xs d 0 n n ie.size)) a w:=by
 obtain ⟨c,h1,h2,h3,h4,h5⟩:=h
 obtain ⟨q,z,dd,e1,e2,e3,e4,e5,_⟩:=hte.inf
 obtain ⟨p1,p2⟩:=partsL_ok h3 parts.toList ps hps
 let zero:Array Value:=if n * ie.size=0 then #[] else z.cells
 obtain ⟨cs',g1,g2,g3⟩:=fill_ok (c:=c) ps _ (List.replicate (n * ie.size) .junk) rs ((Array.range (n * ie.size)).map (zero[· % zero.size]!)) hrs p1 p2 (by simp) (fun j x hx=>by
  rw [List.getElem?_replicate] at hx
  split at hx
  ·obtain rfl:=Option.some.inj hx;exact .junk _
  ·cases hx)
 refine ⟨.slice (some ⟨w.heap.size,0,none⟩) n n,w.alloc (.cells cs' e),?_,?_⟩
 ·unfold execOp;rw [ho]
  have hnot:¬ (16777216 < n * ie.size):=by omega
  by_cases h0:n * ie.size=0
  ·have hz:zero = #[]:=if_pos h0
   rw [hz] at g1
   have g1':Instr.fill (fun i=>some (i * ie.size,ie.size)) (Array.map (fun _=>(default:Value)) (Array.range 0)) (List.map (fun x=>(x.fst,a.eval x.snd)) parts.toList)=some cs':=by
    rw [← g1];simp [h0]
   simp [Instr.buildSlice,run_underlying (ht.el e he),sizeOf_ok hte,h0,newRow]
   rw [g1'];simp
  ·have hz:zero=z.cells:=if_neg h0
   rw [hz] at g1
   simp [Instr.buildSlice,run_underlying (ht.el e he),sizeOf_ok hte,h0,hnot,newRow,zeroValue,typeInfo,e1,e3]
   have g1':Instr.fill (fun i=>some (i * ie.size,ie.size)) (Array.map (fun x=>z.cells[x % z.cells.size]!) (Array.range (n * ie.size))) (List.map (fun x=>(x.fst,a.eval x.snd)) parts.toList)=some cs':=g1
   rw [g1'];simp
 ·rw [hd]
  exact R.newboxG h1 h2 h3 h4 h5 d hdl rs cs' e g2 g3 _ _ (fun c' h=>by rw [← h];exact .xs d 0 n n ie.size (Nat.le_refl _) (bk_lt hdl))
end
mutual
def AV.nt:AV→AV
 | .v x=>.v x
 | .nl=>.nl
 | .sl _ els=>.sl none els
 | .agg ls=>.agg (AV.ntAll ls)
 | .tup ls=>.tup (AV.ntAll ls)
 | .cl f b ls=>.cl f b (AV.ntAll ls)
 | .loc d o=>.loc d o
 | .xs d o n cap sz=>.xs d o n cap sz
 | .el ls=>.el ls
 | .rd=>.junk
 | .dv x=>.dv x
 | .mr d=>.mr d
 | .mb t=>.mb t
 | .junk=>.junk
def AV.ntAll:List AV→List AV
 | []=>[]
 | x::l=>x.nt::AV.ntAll l
end
theorem ntAll_eq (ls:List AV):AV.ntAll ls=ls.map AV.nt:=by
 induction ls with
 | nil=>rfl
 | cons x l ih=>simp [AV.ntAll,ih]
theorem Rd.nt {c c':Gh} (hk:Keeps c.w c.S c'.w c'.S) (hβ:c'.β=c.β) {x:AV} {v:Value} (h:Rd c x v):Rd c' x.nt v:=by
 induction h with
 | v x h=>exact .v x h
 | junk x=>exact .junk x
 | nl=>exact .nl
 | rd=>exact .junk _
 | dv x v h=>exact .dv x v (h.keep hk)
 | loc k off hb=>rw [← hβ];exact .loc _ _ hb
 | mr1 k hb=>rw [← hβ];exact .mr1 _ hb
 | mr2 k hb=>rw [← hβ];exact .mr2 _ hb
 | mb t=>exact .mb t
 | xs k off n cap sz hc hb=>rw [← hβ];exact .xs _ _ _ _ _ hc hb
 | sl tok els v h ht=>exact .sl none els v (h.keep hk) trivial
 | agg ls cs hn _ ih =>
  simp only [AV.nt,ntAll_eq]
  refine .agg _ cs (by simpa using hn) fun j x hx=>?_
  obtain ⟨y,hy,rfl⟩:=by simpa using hx
  exact ih j y hy
 | tup ls cs hn _ ih =>
  simp only [AV.nt,ntAll_eq]
  refine .tup _ cs (by simpa using hn) fun j x hx=>?_
  obtain ⟨y,hy,rfl⟩:=by simpa using hx
  exact ih j y hy
 | cl1 fu ls cs hn _ ih =>
  simp only [AV.nt,ntAll_eq]
  refine .cl1 fu _ cs (by simpa using hn) fun j x hx=>?_
  obtain ⟨y,hy,rfl⟩:=by simpa using hx
  exact ih j y hy
 | cl2 fu ls cs hn _ ih =>
  simp only [AV.nt,ntAll_eq]
  refine .cl2 fu _ cs (by simpa using hn) fun j x hx=>?_
  obtain ⟨y,hy,rfl⟩:=by simpa using hx
  exact ih j y hy
 | el ls b off f hc hh=>exact .el ls b off f (fun k hkk=>hk.1 _ _ _ (hc k hkk).1 (hc k hkk).2) (fun j x hx=>(hh j x hx).keep hk)
def ntσ:List (Nat × AV)→List (Nat × AV)
 | []=>[]
 | (y,v)::l=>(y,v.nt)::ntσ l
def ntm:List (Nat × List AV)→List (Nat × List AV)
 | []=>[]
 | (y,v)::l=>(y,AV.ntAll v)::ntm l
theorem lk_nt (x:Nat) (l:List (Nat × AV)):lk x (ntσ l)=(lk x l).nt:=by
 induction l with
 | nil=>rfl
 | cons p l ih=>obtain ⟨y,v⟩:=p;simp only [ntσ,lk];split<;>simp [ih]
theorem lkm_nt (x:Nat) (l:List (Nat × List AV)):lkm x (ntm l)=(lkm x l).map AV.ntAll:=by
 induction l with
 | nil=>rfl
 | cons p l ih=>obtain ⟨y,v⟩:=p;simp only [ntm,lkm];split<;>simp [ih]
/- names are turned,owners and the reader are forgotten -/
mutual
def AV.mvn (f:Nat→Option Nat):AV→AV
 | .v x=>.v x
 | .nl=>.nl
 | .sl _ els=>.sl none els
 | .agg ls=>.agg (AV.mvnAll f ls)
 | .tup ls=>.tup (AV.mvnAll f ls)
 | .cl g b ls=>.cl g b (AV.mvnAll f ls)
 | .loc d o=>match f d with | some k=>.loc k o | none=>.junk
 | .xs d o n cap sz=>match f d with | some k=>.xs k o n cap sz | none=>.junk
 | .el ls=>.el ls
 | .rd=>.junk
 | .dv x=>.dv x
 | .mr d=>match f d with | some k=>.mr k | none=>.junk
 | .mb t=>.mb t
 | .junk=>.junk
def AV.mvnAll (f:Nat→Option Nat):List AV→List AV
 | []=>[]
 | x::l=>x.mvn f::AV.mvnAll f l
end
theorem mvnAll_eq (f:Nat→Option Nat) (ls:List AV):AV.mvnAll f ls=ls.map (AV.mvn f):=by
 induction ls with
 | nil=>rfl
 | cons x l ih=>simp [AV.mvnAll,ih]
theorem Rd.mvn {c c':Gh} (f:Nat→Option Nat) (hk:Keeps c.w c.S c'.w c'.S) (hβ:∀ k k',f k=some k'→c'.β k'=c.β k∧bk k'=bk k) {x:AV} {v:Value} (h:Rd c x v):Rd c' (x.mvn f) v:=by
 induction h with
 | v x h=>exact .v x h
 | junk x=>exact .junk x
 | nl=>exact .nl
 | rd=>exact .junk _
 | dv x v h=>exact .dv x v (h.keep hk)
 | loc k off hb =>
  simp only [AV.mvn]
  split
  ·rename_i k' e;rw [← (hβ k k' e).1];exact .loc _ _ ((hβ k k' e).2.trans hb)
  ·exact .junk _
 | mr1 k hb =>
  simp only [AV.mvn]
  split
  ·rename_i k' e;rw [← (hβ k k' e).1];exact .mr1 _ ((hβ k k' e).2.trans hb)
  ·exact .junk _
 | mr2 k hb =>
  simp only [AV.mvn]
  split
  ·rename_i k' e;rw [← (hβ k k' e).1];exact .mr2 _ ((hβ k k' e).2.trans hb)
  ·exact .junk _
 | mb t=>exact .mb t
 | xs k off n cap sz hc hb =>
  simp only [AV.mvn]
  split
  ·rename_i k' e;rw [← (hβ k k' e).1];exact .xs _ _ _ _ _ hc ((hβ k k' e).2.trans hb)
  ·exact .junk _
 | sl tok els v h ht=>exact .sl none els v (h.keep hk) trivial
 | agg ls cs hn _ ih =>
  simp only [AV.mvn,mvnAll_eq]
  refine .agg _ cs (by simpa using hn) fun j x hx=>?_
  obtain ⟨y,hy,rfl⟩:=by simpa using hx
  exact ih j y hy
 | tup ls cs hn _ ih =>
  simp only [AV.mvn,mvnAll_eq]
  refine .tup _ cs (by simpa using hn) fun j x hx=>?_
  obtain ⟨y,hy,rfl⟩:=by simpa using hx
  exact ih j y hy
 | cl1 fu ls cs hn _ ih =>
  simp only [AV.mvn,mvnAll_eq]
  refine .cl1 fu _ cs (by simpa using hn) fun j x hx=>?_
  obtain ⟨y,hy,rfl⟩:=by simpa using hx
  exact ih j y hy
 | cl2 fu ls cs hn _ ih =>
  simp only [AV.mvn,mvnAll_eq]
  refine .cl2 fu _ cs (by simpa using hn) fun j x hx=>?_
  obtain ⟨y,hy,rfl⟩:=by simpa using hx
  exact ih j y hy
 | el ls b off f hc hh=>exact .el ls b off f (fun k hkk=>hk.1 _ _ _ (hc k hkk).1 (hc k hkk).2) (fun j x hx=>(hh j x hx).keep hk)
mutual
theorem mvn_nt (f:Nat→Option Nat):∀ x:AV,(x.mvn f).nt=x.mvn f
 | .v _=>rfl
 | .nl=>rfl
 | .sl _ _=>rfl
 | .agg ls=>by simp only [AV.mvn,AV.nt,mvnAll_nt f ls]
 | .tup ls=>by simp only [AV.mvn,AV.nt,mvnAll_nt f ls]
 | .cl _ _ ls=>by simp only [AV.mvn,AV.nt,mvnAll_nt f ls]
 | .loc d o=>by simp only [AV.mvn];split<;>rfl
 | .xs d o n cap sz=>by simp only [AV.mvn];split<;>rfl
 | .el _=>rfl
 | .rd=>rfl
 | .dv _=>rfl
 | .mr d=>by simp only [AV.mvn];split<;>rfl
 | .mb _=>rfl
 | .junk=>rfl
theorem mvnAll_nt (f:Nat→Option Nat):∀ l:List AV,AV.ntAll (AV.mvnAll f l)=AV.mvnAll f l
 | []=>rfl
 | x::l=>by simp only [AV.mvnAll,AV.ntAll,mvn_nt f x,mvnAll_nt f l]
end
/- names of F are struck -/
mutual
def AV.stripF (F:Nat→Bool):AV→AV
 | .v x=>.v x
 | .nl=>.nl
 | .sl t els=>.sl t els
 | .agg ls=>.agg (AV.stripFAll F ls)
 | .tup ls=>.tup (AV.stripFAll F ls)
 | .cl f b ls=>.cl f b (AV.stripFAll F ls)
 | .loc k off=>if F k then .junk else .loc k off
 | .xs k off n cap sz=>if F k then .junk else .xs k off n cap sz
 | .el ls=>.el ls
 | .rd=>.rd
 | .dv x=>.dv x
 | .mr k=>if F k then .junk else .mr k
 | .mb t=>.mb t
 | .junk=>.junk
def AV.stripFAll (F:Nat→Bool):List AV→List AV
 | []=>[]
 | x::l=>x.stripF F::AV.stripFAll F l
end
theorem stripFAll_eq (F:Nat→Bool) (ls:List AV):AV.stripFAll F ls=ls.map (AV.stripF F):=by
 induction ls with
 | nil=>rfl
 | cons x l ih=>simp [AV.stripFAll,ih]
theorem Rd.stripF {c c':Gh} {F:Nat→Bool} (hk:Keeps c.w c.S c'.w c'.S) (hg:c'.g=c.g) (hβ:∀ k,F k=false→c'.β k=c.β k) (htv:c'.tv=c.tv) (hte:c'.te=c.te) {x:AV} {v:Value} (h:Rd c x v):Rd c' (x.stripF F) v:=by
 induction h with
 | v x h=>exact .v x h
 | junk x=>exact .junk x
 | nl=>exact .nl
 | rd=>simp only [AV.stripF];rw [← hg];exact .rd
 | dv x v h=>exact .dv x v (h.keep hk)
 | loc k off hb =>
  simp only [AV.stripF]
  split
  ·exact .junk _
  ·rename_i hne;rw [← hβ k (by simpa using hne)];exact .loc k off hb
 | mr1 k hb =>
  simp only [AV.stripF]
  split
  ·exact .junk _
  ·rename_i hne;rw [← hβ k (by simpa using hne)];exact .mr1 k hb
 | mr2 k hb =>
  simp only [AV.stripF]
  split
  ·exact .junk _
  ·rename_i hne;rw [← hβ k (by simpa using hne)];exact .mr2 k hb
 | mb t=>exact .mb t
 | xs k off n cap sz hc hb =>
  simp only [AV.stripF]
  split
  ·exact .junk _
  ·rename_i hne;rw [← hβ k (by simpa using hne)];exact .xs k off n cap sz hc hb
 | sl tok els v h ht =>
  refine .sl _ els v (h.keep hk) ?_
  unfold TokC at *
  split
  ·trivial
  ·simp only [htv,hte] at *;exact ht
 | agg ls cs hn _ ih =>
  simp only [AV.stripF,stripFAll_eq]
  refine .agg _ cs (by simpa using hn) fun j x hx=>?_
  obtain ⟨y,hy,rfl⟩:=by simpa using hx
  exact ih j y hy
 | tup ls cs hn _ ih =>
  simp only [AV.stripF,stripFAll_eq]
  refine .tup _ cs (by simpa using hn) fun j x hx=>?_
  obtain ⟨y,hy,rfl⟩:=by simpa using hx
  exact ih j y hy
 | cl1 fu ls cs hn _ ih =>
  simp only [AV.stripF,stripFAll_eq]
  refine .cl1 fu _ cs (by simpa using hn) fun j x hx=>?_
  obtain ⟨y,hy,rfl⟩:=by simpa using hx
  exact ih j y hy
 | cl2 fu ls cs hn _ ih =>
  simp only [AV.stripF,stripFAll_eq]
  refine .cl2 fu _ cs (by simpa using hn) fun j x hx=>?_
  obtain ⟨y,hy,rfl⟩:=by simpa using hx
  exact ih j y hy
 | el ls b off f hc hh=>exact .el ls b off f (fun k hkk=>hk.1 _ _ _ (hc k hkk).1 (hc k hkk).2) (fun j x hx=>(hh j x hx).keep hk)
def stripFσ (F:Nat→Bool):List (Nat × AV)→List (Nat × AV)
 | []=>[]
 | (y,v)::l=>(y,v.stripF F)::stripFσ F l
def stripFm (F:Nat→Bool):List (Nat × List AV)→List (Nat × List AV)
 | []=>[]
 | (y,v)::l=>(y,AV.stripFAll F v)::stripFm F l
theorem lk_stripF (F:Nat→Bool) (x:Nat) (l:List (Nat × AV)):lk x (stripFσ F l)=(lk x l).stripF F:=by
 induction l with
 | nil=>rfl
 | cons p l ih=>obtain ⟨y,v⟩:=p;simp only [stripFσ,lk];split<;>simp [ih]
theorem lkm_stripF (F:Nat→Bool) (x:Nat) (l:List (Nat × List AV)):lkm x (stripFm F l)=(lkm x l).map (AV.stripFAll F):=by
 induction l with
 | nil=>rfl
 | cons p l ih=>obtain ⟨y,v⟩:=p;simp only [stripFm,lkm];split<;>simp [ih]
def remF (F:Nat→Bool):List (Nat × List AV)→List (Nat × List AV)
 | []=>[]
 | (y,v)::l=>if F y then remF F l else (y,v)::remF F l
theorem lkm_remF (F:Nat→Bool) (x:Nat) (l:List (Nat × List AV)):lkm x (remF F l)=if F x then none else lkm x l:=by
 induction l with
 | nil=>simp [remF,lkm]
 | cons p l ih =>
  obtain ⟨y,v⟩:=p
  simp only [remF]
  by_cases hy:F y=true
  ·rw [if_pos hy,ih]
   by_cases hx:F x=true
   ·rw [if_pos hx,if_pos hx]
   ·rw [if_neg hx,if_neg hx]
    have:x≠y:=fun e=>hx (e ▸ hy)
    simp [lkm,this]
  ·rw [if_neg hy]
   simp only [lkm]
   by_cases hxy:x=y
   ·subst hxy;rw [if_pos rfl,if_neg hy,if_pos rfl]
   ·rw [if_neg hxy,ih,if_neg hxy]
def nlk (x:Nat):List (Nat × Nat)→Option Nat
 | []=>none
 | (a,b)::l=>if x=a then some b else nlk x l
def nlkR (x:Nat):List (Nat × Nat)→Option Nat
 | []=>none
 | (a,b)::l=>if x=b then some a else nlkR x l
def hasR (x:Nat):List (Nat × Nat)→Bool
 | []=>false
 | (_,b)::l=>if x=b then true else hasR x l
structure NamesOk (ρ φ:List (Nat × Nat)):Prop where
 lent:∀ cn k,nlk cn ρ=some k→1000≤cn
 new:∀ fn k,nlk fn φ=some k→fn < 1000∧k < 1000
 inv:∀ cn k,nlk cn (ρ++φ)=some k↔nlkR k (ρ++φ)=some cn
 part:∀ cn k,nlk cn (ρ++φ)=some k↔(nlk cn ρ=some k∨nlk cn φ=some k)
 sep:∀ k,hasR k ρ=true→hasR k φ=false
 hρ:∀ k,hasR k ρ=true↔∃ cn,nlk cn ρ=some k
 hφ:∀ k,hasR k φ=true↔∃ fn,nlk fn φ=some k
 hb:∀ cn k,nlk cn (ρ++φ)=some k→bk cn=bk k
theorem nlk_mem {x y:Nat}:∀ {l:List (Nat × Nat)},nlk x l=some y→(x,y) ∈ l
 | [],h=>by cases h
 | (a,b)::l,h=>by
  simp only [nlk] at h
  split at h
  ·rename_i e;subst e;obtain rfl:=Option.some.inj h;simp
  ·exact List.mem_cons_of_mem _ (nlk_mem h)
theorem mem_nlk {x y:Nat}:∀ {l:List (Nat × Nat)},(l.map (·.1)).Nodup→(x,y) ∈ l→nlk x l=some y
 | [],_,h=>by cases h
 | (a,b)::l,hn,h=>by
  simp only [List.map_cons,List.nodup_cons] at hn
  simp only [nlk]
  rcases List.mem_cons.1 h with h | h
  ·cases h;rw [if_pos rfl]
  ·have:x≠a:=fun e=>hn.1 (e ▸ List.mem_map.2 ⟨_,h,rfl⟩)
   rw [if_neg this];exact mem_nlk hn.2 h
theorem nlkR_mem {x y:Nat}:∀ {l:List (Nat × Nat)},nlkR y l=some x→(x,y) ∈ l
 | [],h=>by cases h
 | (a,b)::l,h=>by
  simp only [nlkR] at h
  split at h
  ·rename_i e;subst e;obtain rfl:=Option.some.inj h;simp
  ·exact List.mem_cons_of_mem _ (nlkR_mem h)
theorem mem_nlkR {x y:Nat}:∀ {l:List (Nat × Nat)},(l.map (·.2)).Nodup→(x,y) ∈ l→nlkR y l=some x
 | [],_,h=>by cases h
 | (a,b)::l,hn,h=>by
  simp only [List.map_cons,List.nodup_cons] at hn
  simp only [nlkR]
  rcases List.mem_cons.1 h with h | h
  ·cases h;rw [if_pos rfl]
  ·have:y≠b:=fun e=>hn.1 (e ▸ List.mem_map.2 ⟨_,h,rfl⟩)
   rw [if_neg this];exact mem_nlkR hn.2 h
theorem hasR_iff {k:Nat}:∀ {l:List (Nat × Nat)},hasR k l=true↔∃ x,(x,k) ∈ l
 | []=>by simp [hasR]
 | (a,b)::l=>by
  simp only [hasR]
  split
  ·rename_i e;subst e;simp only [true_iff];exact ⟨a,by simp⟩
  ·rename_i e
   rw [hasR_iff]
   constructor
   ·rintro ⟨x,h⟩;exact ⟨x,List.mem_cons_of_mem _ h⟩
   ·rintro ⟨x,h⟩
    rcases List.mem_cons.1 h with h | h
    ·cases h;exact absurd rfl e
    ·exact ⟨x,h⟩
def okN (ρ φ:List (Nat × Nat)):Prop:=((ρ++φ).map (·.1)).Nodup∧((ρ++φ).map (·.2)).Nodup∧(∀ p ∈ ρ,1000≤p.1)∧(∀ p ∈ φ,p.1 < 1000∧p.2 < 1000)∧∀ p ∈ ρ++φ,bk p.1=bk p.2
instance (ρ φ:List (Nat × Nat)):Decidable (okN ρ φ):=by unfold okN;infer_instance
theorem okN.names {ρ φ:List (Nat × Nat)} (h:okN ρ φ):NamesOk ρ φ∧∀ cn k,(cn,k) ∈ ρ++φ→nlk cn (ρ++φ)=some k:=by
 obtain ⟨h1,h2,h3,h4,h5⟩:=h
 have h1ρ:(ρ.map (·.1)).Nodup:=by rw [List.map_append] at h1;exact (List.nodup_append.1 h1).1
 have h1φ:(φ.map (·.1)).Nodup:=by rw [List.map_append] at h1;exact (List.nodup_append.1 h1).2.1
 refine ⟨⟨fun cn k h=>h3 _ (nlk_mem h),fun fn k h=>h4 _ (nlk_mem h),fun cn k=>⟨fun h=>mem_nlkR h2 (nlk_mem h),fun h=>mem_nlk h1 (nlkR_mem h)⟩,fun cn k=>⟨fun h=>?_,fun h=>?_⟩,fun k hk=>?_,fun k=>?_,fun k=>?_,fun cn k h=>h5 _ (nlk_mem h)⟩,fun cn k h=>mem_nlk h1 h⟩
 ·rcases List.mem_append.1 (nlk_mem h) with h | h
  ·exact .inl (mem_nlk h1ρ h)
  ·exact .inr (mem_nlk h1φ h)
 ·rcases h with h | h
  ·exact mem_nlk h1 (List.mem_append_left _ (nlk_mem h))
  ·exact mem_nlk h1 (List.mem_append_right _ (nlk_mem h))
 ·obtain ⟨x,hx⟩:=hasR_iff.1 hk
  cases hh:hasR k φ
  ·rfl
  ·obtain ⟨y,hy⟩:=hasR_iff.1 hh
   rw [List.map_append] at h2
   exact absurd rfl ((List.nodup_append.1 h2).2.2 k (List.mem_map.2 ⟨_,hx,rfl⟩) k (List.mem_map.2 ⟨_,hy,rfl⟩))
 ·rw [hasR_iff]
  exact ⟨fun ⟨x,h⟩=>⟨x,mem_nlk h1ρ h⟩,fun ⟨x,h⟩=>⟨x,nlk_mem h⟩⟩
 ·rw [hasR_iff]
  exact ⟨fun ⟨x,h⟩=>⟨x,mem_nlk h1φ h⟩,fun ⟨x,h⟩=>⟨x,nlk_mem h⟩⟩
structure ConM where
 pre:List AV→List (Nat × List AV)→Prop
 post:List AV→List (Nat × List AV)→AV→List (Nat × List AV)→Prop
 inv:World→Prop:=fun _=>True
structure OutM (P:Program) (c:Gh) (m1 m2:List (Nat × List AV)) (r:AV) (v:Value) (w':World) (c':Gh):Prop where
 w:c'.w=w'
 rd:Rd c' r v
 fr:GrownL c.w w' none (fun b=>∃ d ls,lkm d m1=some ls∧c.β d=b)
 S:∀ b o,c'.S b o→c.w.heap.size≤b∨c.S b o
 sx:∀ b o,c'.S b o→Lk c'.w b o
 s1:∀ b o v,c'.S b o→c'.w.cell? ⟨b,o,none⟩=some v→v.oneCell'=true
 box:∀ d ls,lkm d m2=some ls→BoxOk c.w.heap.size (fun b=>∃ d ls,lkm d m1=some ls∧c.β d=b) c' d ls
 boxinj:∀ d d' ls ls',lkm d m2=some ls→lkm d' m2=some ls'→c'.β d=c'.β d'→d=d'
 bl:∀ k,1000≤k→c'.β k=c.β k
def ValidM (P:Program) (f:FuncId) (C:ConM):Prop :=
 ∀ (c:Gh) (args:List AV) (m1:List (Nat × List AV)) (vs:Array Value),vs.size=args.length→(∀ j x,args[j]? = some x→Rd c x (vs.getD j undef))→(∀ x ∈ args,x.nt=x)→C.pre args m1→(∀ w',GrownL c.w w' none (fun b=>∃ d ls,lkm d m1=some ls∧c.β d=b)→C.inv w')→
  (∀ b o,c.S b o→Lk c.w b o)→(∀ b o v,c.S b o→c.w.cell? ⟨b,o,none⟩=some v→v.oneCell'=true)→
  (∀ d ls,lkm d m1=some ls→1000≤d∧AV.ntAll ls=ls∧∃ cs,∃ T:BoxOb d cs,c.w.heap[c.β d]? = some T.1∧cs.size=ls.length∧(∀ j x,ls[j]? = some x→Rd c x (cs.getD j undef))∧∀ o,¬ c.S (c.β d) o)→
  (∀ d d' ls ls',lkm d m1=some ls→lkm d' m1=some ls'→c.β d=c.β d'→d=d')→
  Calls P f vs c.w fun e w'=>∃ v r m2 c',e = .returned v∧C.post args m1 r m2∧OutM P c m1 m2 r v w' c'
def lentM (f:Nat→Option Nat) (m:List (Nat × List AV)):List (Nat × Nat)→Option (List (Nat × List AV))
 | []=>some []
 | (cn,k)::l=>match lkm k m,lentM f m l with
  | some ls,some r=>some ((cn,AV.mvnAll f ls)::r)
  | _,_=>none
theorem lentM_get {f:Nat→Option Nat} {m:List (Nat × List AV)}:∀ {ρ:List (Nat × Nat)} {m1:List (Nat × List AV)},lentM f m ρ=some m1→∀ cn ls,lkm cn m1=some ls→∃ k ls0,nlk cn ρ=some k∧lkm k m=some ls0∧ls=AV.mvnAll f ls0
 | [],m1,h,cn,ls,hl=>by obtain rfl:=Option.some.inj h;simp [lkm] at hl
 | (a,b)::l,m1,h,cn,ls,hl=>by
  simp only [lentM] at h
  split at h
  ·rename_i ls0 r h0 hr
   obtain rfl:=Option.some.inj h
   simp only [lkm] at hl
   by_cases e:cn=a
   ·rw [if_pos e] at hl
    obtain rfl:=Option.some.inj hl
    exact ⟨b,ls0,by simp [nlk,e],h0,rfl⟩
   ·rw [if_neg e] at hl
    obtain ⟨k,l1,h1,h2,h3⟩:=lentM_get hr cn ls hl
    exact ⟨k,l1,by simp [nlk,e,h1],h2,h3⟩
  ·cases h
theorem lentM_has {f:Nat→Option Nat} {m:List (Nat × List AV)}:∀ {ρ:List (Nat × Nat)} {m1:List (Nat × List AV)},lentM f m ρ=some m1→∀ cn k,nlk cn ρ=some k→∃ ls0,lkm k m=some ls0∧∃ ls,lkm cn m1=some ls
 | [],m1,h,cn,k,hk=>by simp [nlk] at hk
 | (a,b)::l,m1,h,cn,k,hk=>by
  simp only [lentM] at h
  split at h
  ·rename_i ls0 r h0 hr
   obtain rfl:=Option.some.inj h
   simp only [nlk] at hk
   by_cases e:cn=a
   ·rw [if_pos e] at hk
    obtain rfl:=Option.some.inj hk
    exact ⟨ls0,h0,AV.mvnAll f ls0,by simp [lkm,e]⟩
   ·rw [if_neg e] at hk
    obtain ⟨l1,h1,l2,h2⟩:=lentM_has hr cn k hk
    exact ⟨l1,h1,l2,by simp [lkm,e,h2]⟩
  ·cases h
def backM (f:Nat→Option Nat) (m2:List (Nat × List AV)) (m:List (Nat × List AV)):List (Nat × Nat)→List (Nat × List AV)
 | []=>m
 | (cn,k)::l=>match lkm cn m2 with
  | some ls=>(k,AV.mvnAll f ls)::backM f m2 m l
  | none=>backM f m2 m l
theorem backM_get {f:Nat→Option Nat} {m2 m:List (Nat × List AV)}:∀ {ns:List (Nat × Nat)} (k:Nat) (ls:List AV),lkm k (backM f m2 m ns)=some ls→(∃ cn ls0,(cn,k) ∈ ns∧lkm cn m2=some ls0∧ls=AV.mvnAll f ls0)∨lkm k m=some ls
 | [],k,ls,h=>.inr h
 | (a,b)::l,k,ls,h=>by
  simp only [backM] at h
  split at h
  ·rename_i ls0 h0
   simp only [lkm] at h
   split at h
   ·rename_i e
    obtain rfl:=Option.some.inj h
    exact .inl ⟨a,ls0,by simp [e],h0,rfl⟩
   ·rcases backM_get k ls h with ⟨cn,l0,h1,h2⟩ | h1
    ·exact .inl ⟨cn,l0,by simp [h1],h2⟩
    ·exact .inr h1
  ·rcases backM_get k ls h with ⟨cn,l0,h1,h2⟩ | h1
   ·exact .inl ⟨cn,l0,by simp [h1],h2⟩
   ·exact .inr h1
def St.calledM (st:St) (ρ φ:List (Nat × Nat)) (m2:List (Nat × List AV)) (r:AV) (dst:Option Nat):St :=
 St.put { nt:=st.nt,σ:=stripFσ (fun k=>hasR k φ) st.σ,m:=backM (fun cn=>nlk cn (ρ++φ)) m2 (remF (fun k=>hasR k (ρ++φ)) (stripFm (fun k=>hasR k φ) st.m)) (ρ++φ),rn:=st.rn } dst (r.mvn fun cn=>nlk cn (ρ++φ))
section
variable {E:En} {st:St} {a:Act} {w:World} {o:Oper}
theorem args_rd0 {c:Gh} {st:St} {a:Act} (h:∀ x,Rd c (st.ev x) (a.eval x)) (args:Array Operand):∀ (j:Nat) (x:AV),(args.toList.map st.ev)[j]? = some x→Rd c x ((args.map a.eval).getD j undef):=fun j x hx=>by
 simp only [List.getElem?_map,Option.map_eq_some_iff] at hx
 obtain ⟨y,hy,rfl⟩:=hx
 have e:(args.map a.eval).getD j undef=a.eval y:=by
  rw [Array.getElem?_toList] at hy
  simp [Array.getD_eq_getD_getElem?,hy]
 rw [e]
 exact h y
theorem op_callMG (h : R E st a w) (f : FuncId) (vs : Array Value) (hr : (execOp a.eval o).run E.P w = .ok (.enter f vs) w) (ys : List AV) (hsz : vs.size = ys.length) (hrd : ∀ c : Gh, (∀ x, Rd c (st.ev x) (a.eval x)) → ∀ (j : Nat) (x : AV), ys[j]? = some x → Rd c x (vs.getD j undef)) {C : ConM} (hv : ValidM E.P f C)
    (hi : ∀ w, GrownL E.w0 w (if E.draws then some E.g else none) E.L → C.inv w) {ρ φ : List (Nat × Nat)} (hn : NamesOk ρ φ) (hmem : ∀ cn k, (cn, k) ∈ ρ ++ φ → nlk cn (ρ ++ φ) = some k)
    {m1 : List (Nat × List AV)} (hm1 : lentM (fun k => nlkR k ρ) st.m ρ = some m1) (hpre : C.pre (ys.map fun x => x.mvn fun k => nlkR k ρ) m1)
    {next : Act → World → Prop} {Q : Exit → Act → World → Prop} (hnx : ∀ r m2, C.post (ys.map fun x => x.mvn fun k => nlkR k ρ) m1 r m2 → ∀ a' w', R E (st.calledM ρ φ m2 r o.dst) a' w' → next a' w') : o.wp E.P a w next Q := by
  obtain ⟨c, h1, G, hσ, h4, h5⟩ := h
  subst h1
  unfold Oper.wp
  rw [hr]
  show Calls E.P f vs c.w _
  -- names in ρ alone
  have ρinv : ∀ cn k, nlkR k ρ = some cn → nlk cn ρ = some k := fun cn k h => by
    have hk : hasR k ρ = true := by
      clear hm1 hpre hnx hmem hn
      induction ρ with
      | nil => simp [nlkR] at h
      | cons p l ih =>
        obtain ⟨x, y⟩ := p
        simp only [nlkR, hasR] at *
        split
        · rfl
        · rename_i e; rw [if_neg e] at h; exact ih h
    have h2 : nlkR k (ρ ++ φ) = some cn := by
      clear hm1 hpre hnx hmem hn hk
      induction ρ with
      | nil => simp [nlkR] at h
      | cons p l ih =>
        obtain ⟨x, y⟩ := p
        simp only [nlkR, List.cons_append] at *
        split
        · rename_i e; rw [if_pos e] at h; exact h
        · rename_i e; rw [if_neg e] at h; exact ih h
    rcases (hn.part cn k).1 ((hn.inv cn k).2 h2) with h3 | h3
    · exact h3
    · have := hn.sep k hk
      rw [(hn.hφ k).2 ⟨cn, h3⟩] at this; cases this
  let β1 : Nat → Nat := fun cn => match nlk cn ρ with | some k => c.β k | none => c.β cn
  let c1 : Gh := { c with β := β1 }
  have hkc : Keeps c.w c.S c1.w c1.S := Keeps.same (fun _ _ h => h) fun _ _ _ => rfl
  have hβ1 : ∀ k cn, nlkR k ρ = some cn → c1.β cn = c.β k := fun k cn h => by
    show (match nlk cn ρ with | some k => c.β k | none => c.β cn) = _
    rw [ρinv cn k h]
  have hbρ : ∀ k cn, nlk cn ρ = some k → bk cn = bk k := fun k cn h => hn.hb cn k ((hn.part cn k).2 (.inl h))
  have hlend : ∀ {x v}, Rd c x v → Rd c1 (x.mvn fun k => nlkR k ρ) v := fun h => h.mvn _ hkc (fun k cn h => ⟨hβ1 k cn h, hbρ k cn (ρinv cn k h)⟩)
  have hm1get : ∀ cn ls, lkm cn m1 = some ls → ∃ k ls0, nlk cn ρ = some k ∧ lkm k st.m = some ls0 ∧ ls = AV.mvnAll (fun k => nlkR k ρ) ls0 ∧ c1.β cn = c.β k := fun cn ls hl => by
    obtain ⟨k, ls0, q1, q2, q3⟩ := lentM_get hm1 cn ls hl
    refine ⟨k, ls0, q1, q2, q3, ?_⟩
    show (match nlk cn ρ with | some k => c.β k | none => c.β cn) = _
    rw [q1]
  have hlentblk : ∀ b, (∃ d ls, lkm d m1 = some ls ∧ c1.β d = b) ↔ ∃ k, hasR k ρ = true ∧ c.β k = b := fun b => by
    constructor
    · rintro ⟨d, ls, hl, rfl⟩
      obtain ⟨k, ls0, q1, q2, q3, q4⟩ := hm1get d ls hl
      exact ⟨k, (hn.hρ k).2 ⟨d, q1⟩, q4.symm⟩
    · rintro ⟨k, hk, rfl⟩
      obtain ⟨cn, q1⟩ := (hn.hρ k).1 hk
      obtain ⟨ls0, q2, ls, q3⟩ := lentM_has hm1 cn k q1
      refine ⟨cn, ls, q3, ?_⟩
      show (match nlk cn ρ with | some k => c.β k | none => c.β cn) = _
      rw [q1]
  have hcall := hv c1 (ys.map fun x => x.mvn fun k => nlkR k ρ) m1 vs (by simpa using hsz) (fun j x hx => by
      simp only [List.getElem?_map, Option.map_eq_some_iff] at hx
      obtain ⟨y, hy, rfl⟩ := hx
      exact hlend (hrd c (fun x => R.ev hσ x) j y hy))
    (fun x hx => by
      simp only [List.mem_map] at hx
      obtain ⟨y, _, rfl⟩ := hx
      exact mvn_nt _ _) hpre (fun w' hw => hi w' (G.fr.trans' hw fun b hb => by
        obtain ⟨k, hk, e⟩ := (hlentblk b).1 hb
        obtain ⟨cn, q1⟩ := (hn.hρ k).1 hk
        obtain ⟨ls0, q2, _⟩ := lentM_has hm1 cn k q1
        rw [← e]
        exact (G.box k ls0 q2).lt.1)) G.sx G.s1
    (fun d ls hl => by
      obtain ⟨k, ls0, q1, q2, rfl, q4⟩ := hm1get d ls hl
      obtain ⟨cs, T, b1, b2, b3, b4, b5⟩ := G.box k ls0 q2
      refine ⟨hn.lent d k q1, mvnAll_nt _ _, cs, T.cast (hbρ k d q1), by rw [q4]; exact b2, by rw [mvnAll_eq, List.length_map]; exact b3, fun j x hx => ?_, fun o => by rw [q4]; exact b5 o⟩
      rw [mvnAll_eq, List.getElem?_map, Option.map_eq_some_iff] at hx
      obtain ⟨y, hy, rfl⟩ := hx
      exact hlend (b4 j y hy))
    (fun d d' ls ls' hl hl' he => by
      obtain ⟨k, ls0, q1, q2, rfl, q4⟩ := hm1get d ls hl
      obtain ⟨k', ls0', q1', q2', rfl, q4'⟩ := hm1get d' ls' hl'
      rw [q4, q4'] at he
      obtain rfl := G.boxinj k k' ls0 ls0' q2 q2' he
      have i1 := (hn.inv d k).1 ((hn.part d k).2 (.inl q1))
      have i2 := (hn.inv d' k).1 ((hn.part d' k).2 (.inl q1'))
      rw [i1] at i2
      exact Option.some.inj i2)
  refine hcall.mono fun e w' ⟨v, r, m2, c', he, hp, O⟩ => ?_
  subst he
  refine hnx r m2 hp _ _ ?_
  -- the caller's context behind the call
  let F : Nat → Bool := fun k => hasR k φ
  let β3 : Nat → Nat := fun k => match nlkR k (ρ ++ φ) with | some cn => c'.β cn | none => c.β k
  let c3 : Gh := { c with w := w', S := fun b o => c.S b o ∨ c'.S b o, β := β3 }
  have hlb : ∀ b, (∃ d ls, lkm d m1 = some ls ∧ c1.β d = b) → ∃ k ls, lkm k st.m = some ls ∧ hasR k ρ = true ∧ c.β k = b := fun b h => by
    obtain ⟨k, hk, hb⟩ := (hlentblk b).1 h
    obtain ⟨cn, q1⟩ := (hn.hρ k).1 hk
    obtain ⟨ls0, q2, _⟩ := lentM_has hm1 cn k q1
    exact ⟨k, ls0, q2, hk, hb⟩
  have hblk : ∀ b, b < c.w.heap.size → (∀ k, hasR k ρ = true → c.β k ≠ b) → w'.heap[b]? = c.w.heap[b]? := fun b hb hnl => O.fr.block b hb (by simp) (fun hL => by
    obtain ⟨k, hk, e⟩ := (hlentblk b).1 hL
    exact hnl k hk e)
  have hSl : ∀ b o, c.S b o → ∀ k, hasR k ρ = true → c.β k ≠ b := fun b o hS k hk e => by
    obtain ⟨cn, q1⟩ := (hn.hρ k).1 hk
    obtain ⟨ls0, q2, _⟩ := lentM_has hm1 cn k q1
    obtain ⟨cs, T, b1, b2, b3, b4, b5⟩ := G.box k ls0 q2
    exact b5 o (e ▸ hS)
  have hk3 : Keeps c.w c.S c3.w c3.S := Keeps.same (fun _ _ h => .inl h) fun b o hS => hblk b (G.slt hS) (hSl b o hS)
  have hk3' : Keeps c'.w c'.S c3.w c3.S := Keeps.same (fun _ _ h => .inr h) fun b o hS => by rw [O.w]
  have hβF : ∀ k, F k = false → c3.β k = c.β k := fun k hk => by
    show (match nlkR k (ρ ++ φ) with | some cn => c'.β cn | none => c.β k) = _
    split
    · rename_i cn hcn
      rcases (hn.part cn k).1 ((hn.inv cn k).2 hcn) with q | q
      · rw [O.bl cn (hn.lent cn k q)]
        show (match nlk cn ρ with | some k => c.β k | none => c.β cn) = _
        rw [q]
      · have : F k = true := (hn.hφ k).2 ⟨cn, q⟩
        rw [hk] at this; cases this
    · rfl
  have hβb : ∀ cn k, nlk cn (ρ ++ φ) = some k → c3.β k = c'.β cn := fun cn k h => by
    show (match nlkR k (ρ ++ φ) with | some cn => c'.β cn | none => c.β k) = _
    rw [(hn.inv cn k).1 h]
  have hst : ∀ {x v}, Rd c x v → Rd c3 (x.stripF F) v := fun h => h.stripF hk3 rfl hβF rfl rfl
  have hbk : ∀ {x v}, Rd c' x v → Rd c3 (x.mvn fun cn => nlk cn (ρ ++ φ)) v := fun h => h.mvn _ hk3' (fun cn k h => ⟨hβb cn k h, (hn.hb cn k h).symm⟩)
  have hle := G.hle
  -- what a box behind the call is
  have hget : ∀ k ls, lkm k (backM (fun cn => nlk cn (ρ ++ φ)) m2 (remF (fun k => hasR k (ρ ++ φ)) (stripFm F st.m)) (ρ ++ φ)) = some ls →
      (∃ cn ls0, nlk cn (ρ ++ φ) = some k ∧ lkm cn m2 = some ls0 ∧ ls = AV.mvnAll (fun cn => nlk cn (ρ ++ φ)) ls0) ∨ ((∀ cn, nlk cn (ρ ++ φ) ≠ some k) ∧ ∃ ls0, lkm k st.m = some ls0 ∧ ls = AV.stripFAll F ls0) := fun k ls hl => by
    rcases backM_get k ls hl with ⟨cn, ls0, q1, q2, q3⟩ | q
    · exact .inl ⟨cn, ls0, hmem cn k q1, q2, q3⟩
    · rw [lkm_remF] at q
      split at q
      · cases q
      · rename_i hne
        rw [lkm_stripF, Option.map_eq_some_iff] at q
        obtain ⟨ls0, q1, q2⟩ := q
        refine .inr ⟨fun cn e => hne ?_, ls0, q1, q2.symm⟩
        have happ : ∀ l l' : List (Nat × Nat), hasR k (l ++ l') = (hasR k l || hasR k l') := fun l l' => by
          induction l with
          | nil => simp [hasR]
          | cons p l ih => obtain ⟨x, y⟩ := p; simp only [List.cons_append, hasR]; split <;> simp [ih]
        show hasR k (ρ ++ φ) = true
        rw [happ]
        rcases (hn.part cn k).1 e with q | q
        · simp [(hn.hρ k).2 ⟨cn, q⟩]
        · simp [(hn.hφ k).2 ⟨cn, q⟩]
  have hother : ∀ k ls0, (∀ cn, nlk cn (ρ ++ φ) ≠ some k) → lkm k st.m = some ls0 → c3.β k = c.β k ∧ (∀ k', hasR k' ρ = true → c.β k' ≠ c.β k) ∧ w'.heap[c.β k]? = c.w.heap[c.β k]? := fun k ls0 hne hl => by
    have e1 : c3.β k = c.β k := hβF k (by
      cases hF : F k
      · rfl
      · obtain ⟨fn, q⟩ := (hn.hφ k).1 hF
        exact absurd ((hn.part fn k).2 (.inr q)) (hne fn))
    have e2 : ∀ k', hasR k' ρ = true → c.β k' ≠ c.β k := fun k' hk' e => by
      obtain ⟨cn, q1⟩ := (hn.hρ k').1 hk'
      obtain ⟨ls1, q2, _⟩ := lentM_has hm1 cn k' q1
      obtain rfl := G.boxinj k' k ls1 ls0 q2 hl e
      exact hne cn ((hn.part cn k').2 (.inl q1))
    exact ⟨e1, e2, hblk _ (G.box k ls0 hl).lt.2 e2⟩
  have hnew : ∀ cn ls0, lkm cn m2 = some ls0 → (c.w.heap.size ≤ c'.β cn ∨ ∃ k ls, lkm k st.m = some ls ∧ hasR k ρ = true ∧ c.β k = c'.β cn) := fun cn ls0 hl => by
    rcases (O.box cn ls0 hl).lt.1 with q | q
    · exact .inl q
    · exact .inr (hlb _ q)
  have hsep : ∀ cn ls0 k ls1, lkm cn m2 = some ls0 → (∀ cn, nlk cn (ρ ++ φ) ≠ some k) → lkm k st.m = some ls1 → c'.β cn ≠ c.β k := fun cn ls0 k ls1 h1 h2 h3 e => by
    rcases hnew cn ls0 h1 with q | ⟨k', l', _, q2, q3⟩
    · have := (G.box k ls1 h3).lt.2; omega
    · exact (hother k ls1 h2 h3).2.1 k' q2 (q3.trans e)
  refine R.put (st := { nt := st.nt, σ := stripFσ F st.σ, m := backM (fun cn => nlk cn (ρ ++ φ)) m2 (remF (fun k => hasR k (ρ ++ φ)) (stripFm F st.m)) (ρ ++ φ), rn := st.rn }) (c := c3) rfl ?_ (fun x => by show Rd c3 (lk x (stripFσ F st.σ)) _; rw [lk_stripF]; exact hst (hσ x)) h4 h5 (hbk O.rd)
  refine { bl := fun k hk => ?_, cg := G.cg, fr := ?_, lx := G.lx, sx := fun b o h => ?_, s1 := fun b o v h hv => ?_, sS := fun b o h => ?_, sg := fun hd o h => ?_, box := fun k ls hl => ?_, boxinj := fun k k' ls ls' hl hl' he => ?_,
            tok := fun k j => ?_, toktok := G.toktok, tokbox := fun k j b k' ls hb hl he => ?_, rk := fun hd => ?_ }
  · exact ⟨O.fr.os.trans G.fr.os, O.fr.tape.trans G.fr.tape, O.fr.output.trans G.fr.output, Nat.le_trans G.fr.size O.fr.size, fun i hi1 hi2 hi3 =>
      (hblk i (Nat.lt_of_lt_of_le hi1 G.fr.size) (fun k hk e => by
        obtain ⟨cn, q1⟩ := (hn.hρ k).1 hk
        obtain ⟨ls0, q2, _⟩ := lentM_has hm1 cn k q1
        rcases (G.box k ls0 q2).lt.1 with q | q
        · omega
        · exact hi3 (e ▸ q))).trans (G.fr.block i hi1 hi2 hi3)⟩
  · rcases h with h | h
    · exact hk3.lk h (G.sx b o h)
    · exact hk3'.lk h (O.sx b o h)
  · rcases h with h | h
    · exact s1_keep G hk3 h hv
    · exact O.s1 b o v h (by rw [O.w]; exact hv)
  · rcases h with h | h
    · exact G.sS b o h
    · rcases O.S b o h with h | h
      · have h : c.w.heap.size ≤ b := h
        exact .inl (by omega)
      · exact G.sS b o h
  · rcases h with h | h
    · exact G.sg hd o h
    · rcases O.S _ _ h with h | h
      · have h : c.w.heap.size ≤ E.g := h
        have := (G.rk hd).1; omega
      · exact G.sg hd o h
  · rcases hget k ls hl with ⟨cn, ls0, q1, q2, rfl⟩ | ⟨q0, ls0, q1, rfl⟩
    · obtain ⟨cs, T, b1, b2, b3, b4, b5⟩ := O.box cn ls0 q2
      rw [O.w] at b2
      refine ⟨cs, T.cast (hn.hb cn k q1).symm, ?_, by rw [hβb cn k q1]; exact b2, by rw [mvnAll_eq, List.length_map]; exact b3, fun j x hx => ?_, fun o ho => ?_⟩
      · rw [hβb cn k q1]
        rcases hnew cn ls0 q2 with q | ⟨k', l', p1, p2, p3⟩
        · exact .inl (by omega)
        · rw [← p3]; exact (G.box k' l' p1).lt.1
      · rw [mvnAll_eq, List.getElem?_map, Option.map_eq_some_iff] at hx
        obtain ⟨y, hy, rfl⟩ := hx
        exact hbk (b4 j y hy)
      · rw [hβb cn k q1] at ho
        rcases ho with ho | ho
        · rcases hnew cn ls0 q2 with q | ⟨k', l', p1, p2, p3⟩
          · have := G.slt ho; omega
          · exact hSl _ o ho k' p2 p3
        · exact b5 o ho
    · obtain ⟨e1, e2, e3⟩ := hother k ls0 q0 q1
      obtain ⟨cs, T, b1, b2, b3, b4, b5⟩ := G.box k ls0 q1
      refine ⟨cs, T, by rw [e1]; exact b1, by rw [e1]; exact e3.trans b2, by rw [stripFAll_eq, List.length_map]; exact b3, fun j x hx => ?_, fun o ho => ?_⟩
      · rw [stripFAll_eq, List.getElem?_map, Option.map_eq_some_iff] at hx
        obtain ⟨y, hy, rfl⟩ := hx
        exact hst (b4 j y hy)
      · rw [e1] at ho
        rcases ho with ho | ho
        · exact b5 o ho
        · rcases O.S _ _ ho with h | h
          · have h : c.w.heap.size ≤ c.β k := h
            have := (G.box k ls0 q1).lt.2; omega
          · exact b5 o h
  · rcases hget k ls hl with ⟨cn, ls0, q1, q2, rfl⟩ | ⟨q0, ls0, q1, rfl⟩
    · rcases hget k' ls' hl' with ⟨cn', ls0', q1', q2', rfl⟩ | ⟨q0', ls0', q1', rfl⟩
      · rw [hβb cn k q1, hβb cn' k' q1'] at he
        obtain rfl := O.boxinj cn cn' ls0 ls0' q2 q2' he
        rw [q1] at q1'; exact Option.some.inj q1'
      · rw [hβb cn k q1, (hother k' ls0' q0' q1').1] at he
        exact absurd he (hsep cn ls0 k' ls0' q2 q0' q1')
    · rcases hget k' ls' hl' with ⟨cn', ls0', q1', q2', rfl⟩ | ⟨q0', ls0', q1', rfl⟩
      · rw [(hother k ls0 q0 q1).1, hβb cn' k' q1'] at he
        exact absurd he.symm (hsep cn' ls0' k ls0 q2' q0 q1)
      · rw [(hother k ls0 q0 q1).1, (hother k' ls0' q0' q1').1] at he
        exact G.boxinj k k' ls0 ls0' q1 q1' he
  · have ht := G.tok k j
    refine tok_keep ht rfl rfl fun b hb => ?_
    have hbl : ∀ k', hasR k' ρ = true → c.β k' ≠ b := fun k' hk' => by
      obtain ⟨cn, q1⟩ := (hn.hρ k').1 hk'
      obtain ⟨ls0, q2, _⟩ := lentM_has hm1 cn k' q1
      exact G.tokbox k j b k' ls0 hb q2
    refine ⟨hblk b (ht.lt hb).2 hbl, fun o h => ?_⟩
    rcases h with h | h
    · exact h
    · rcases O.S _ _ h with h | h
      · have h : c.w.heap.size ≤ b := h
        have := (ht.lt hb).2; omega
      · exact h
  · rcases hget k' ls hl with ⟨cn, ls0, q1, q2, rfl⟩ | ⟨q0, ls0, q1, rfl⟩
    · rw [hβb cn k' q1] at he
      rcases hnew cn ls0 q2 with q | ⟨k2, l2, p1, p2, p3⟩
      · have := ((G.tok k j).lt hb).2; omega
      · exact G.tokbox k j b k2 l2 hb p1 (p3.trans he)
    · rw [(hother k' ls0 q0 q1).1] at he
      exact G.tokbox k j b k' ls0 hb q1 he
  · refine (G.rk hd).same (fun k hk hk2 => hblk k (by have := G.hle; omega) fun k' hk' e => ?_) (Nat.le_refl _)
    obtain ⟨cn, q1⟩ := (hn.hρ k').1 hk'
    obtain ⟨ls0, q2, _⟩ := lentM_has hm1 cn k' q1
    rcases (G.box k' ls0 q2).lt.1 with q | q
    · omega
    · have := G.lx hd _ q
      rw [e] at this
      rcases hk2 with h | h
      · exact this.1 h
      · exact this.2 h
  · rw [hβF k (by
      cases hF : F k
      · rfl
      · obtain ⟨fn, q⟩ := (hn.hφ k).1 hF
        have := (hn.new fn k q).2; omega)]
    exact G.bl k hk
theorem op_callM (h:R E st a w) (f:FuncId) (fo:Operand) (args:Array Operand) (ats:Array TypeId) (ho:o.op = .call { callee:=.value fo,args:=args,argTypes:=ats }) (hf:st.ev fo = .v (.func (.func f) #[] #[])) (hc:Callable E.P f) {C:ConM} (hv:ValidM E.P f C)
  (hi:∀ w,GrownL E.w0 w (if E.draws then some E.g else none) E.L→C.inv w) {ρ φ:List (Nat × Nat)} (hn:NamesOk ρ φ) (hmem:∀ cn k,(cn,k) ∈ ρ++φ→nlk cn (ρ++φ)=some k)
  {m1:List (Nat × List AV)} (hm1:lentM (fun k=>nlkR k ρ) st.m ρ=some m1) (hpre:C.pre (args.toList.map fun x=>(st.ev x).mvn fun k=>nlkR k ρ) m1)
  {next:Act→World→Prop} {Q:Exit→Act→World→Prop} (hnx:∀ r m2,C.post (args.toList.map fun x=>(st.ev x).mvn fun k=>nlkR k ρ) m1 r m2→∀ a' w',R E (st.calledM ρ φ m2 r o.dst) a' w'→next a' w'):o.wp E.P a w next Q:=by
 have e1:a.eval fo = .func (.func f) #[] #[]:=by
  obtain ⟨c,h1,h2,h3,h4,h5,h6⟩:=h.get fo
  rw [hf] at h6;generalize a.eval fo=u at h6;cases h6;rfl
 obtain ⟨fn,f1,f2,f3⟩:=hc
 have e2:(args.toList.map st.ev).map (fun x=>x.mvn fun k=>nlkR k ρ)=args.toList.map fun x=>(st.ev x).mvn fun k=>nlkR k ρ:=by rw [List.map_map];rfl
 refine op_callMG h f (args.map a.eval) ?_ (args.toList.map st.ev) (by simp) (fun c hx j x hj=>args_rd0 hx args j x hj) hv hi hn hmem hm1 (by rw [e2];exact hpre) (fun r m2 hp=>hnx r m2 (by rw [← e2];exact hp))
 unfold execOp;rw [ho]
 simp only [Sem.run_bind,resolve,e1,Deferred.ofValue,Sem.run_pure,Result.andThen_ok,invoke,callFunc,run_program]
 simp only [Array.empty_append,Array.append_empty,f1,f2,f3,Bool.false_eq_true,if_false,Sem.run_pure]
def clA (b:Bool) (ls xs:List AV):List AV:=match b with | true=>ls++xs | false=>xs++ls
theorem op_enterCl (h:R E st a w) (f:FuncId) (b:Bool) (ls:List AV) (fo:Operand) (args:Array Operand) (ats:Array TypeId) (ho:o.op = .call { callee:=.value fo,args:=args,argTypes:=ats }) (hf:st.ev fo = .cl f b ls) (hc:Callable E.P f) :
  ∃ vs,(execOp a.eval o).run E.P w = .ok (.enter f vs) w∧vs.size=(clA b ls (args.toList.map st.ev)).length∧∀ c:Gh,(∀ x,Rd c (st.ev x) (a.eval x))→∀ (j:Nat) (x:AV),(clA b ls (args.toList.map st.ev))[j]? = some x→Rd c x (vs.getD j undef):=by
 obtain ⟨fn,f1,f2,f3⟩:=hc
 have happ:∀ (c:Gh) (us vs:Array Value) (xs ys:List AV),us.size=xs.length→(∀ (j:Nat) (x:AV),xs[j]? = some x→Rd c x (us.getD j undef))→(∀ (j:Nat) (x:AV),ys[j]? = some x→Rd c x (vs.getD j undef))→∀ (j:Nat) (x:AV),(xs++ys)[j]? = some x→Rd c x ((us++vs).getD j undef):=fun c us vs xs ys hl h1 h2 j x hj=>by
  by_cases hlt:j < xs.length
  ·rw [List.getElem?_append_left hlt] at hj
   have:=h1 j x hj
   rw [Array.getD_eq_getD_getElem?] at this ⊢
   rw [Array.getElem?_append_left (by omega)];exact this
  ·rw [List.getElem?_append_right (by omega)] at hj
   have:=h2 _ x hj
   rw [Array.getD_eq_getD_getElem?] at this ⊢
   rw [Array.getElem?_append_right (by omega),hl];exact this
 cases b with
 | true =>
  obtain ⟨cs,e1⟩:∃ cs,a.eval fo = .func (.func f) cs #[]:=by
   obtain ⟨c,h1,h2,h3,h4,h5,h6⟩:=h.get fo
   rw [hf] at h6;generalize a.eval fo=u at h6
   cases h6 with | cl1 _ _ cs=>exact ⟨cs,rfl⟩
  have e2:∀ c:Gh,(∀ x,Rd c (st.ev x) (a.eval x))→cs.size=ls.length∧∀ (j:Nat) (x:AV),ls[j]? = some x→Rd c x (cs.getD j undef):=fun c hx=>by
   have h6:=hx fo
   rw [hf,e1] at h6
   cases h6 with | cl1 _ _ cs hn hh=>exact ⟨hn,hh⟩
  have hsz:cs.size=ls.length:=by
   obtain ⟨c,h1,h2,h3,h4,h5⟩:=h
   exact (e2 c fun x=>R.ev h3 x).1
  refine ⟨cs++args.map a.eval,?_,by simp [clA,hsz],fun c hx=>happ c _ _ _ _ hsz (e2 c hx).2 (args_rd0 hx args)⟩
  unfold execOp;rw [ho]
  simp only [Sem.run_bind,resolve,e1,Deferred.ofValue,Sem.run_pure,Result.andThen_ok,invoke,callFunc,run_program]
  simp only [Array.empty_append,Array.append_empty,f1,f2,f3,Bool.false_eq_true,if_false,Sem.run_pure]
 | false =>
  obtain ⟨cs,e1⟩:∃ cs,a.eval fo = .func (.func f) #[] cs:=by
   obtain ⟨c,h1,h2,h3,h4,h5,h6⟩:=h.get fo
   rw [hf] at h6;generalize a.eval fo=u at h6
   cases h6 with | cl2 _ _ cs=>exact ⟨cs,rfl⟩
  have e2:∀ c:Gh,(∀ x,Rd c (st.ev x) (a.eval x))→cs.size=ls.length∧∀ (j:Nat) (x:AV),ls[j]? = some x→Rd c x (cs.getD j undef):=fun c hx=>by
   have h6:=hx fo
   rw [hf,e1] at h6
   cases h6 with | cl2 _ _ cs hn hh=>exact ⟨hn,hh⟩
  have hsz:cs.size=ls.length:=by
   obtain ⟨c,h1,h2,h3,h4,h5⟩:=h
   exact (e2 c fun x=>R.ev h3 x).1
  refine ⟨args.map a.eval++cs,?_,by simp [clA,hsz],fun c hx=>happ c _ _ _ _ (by simp) (args_rd0 hx args) (e2 c hx).2⟩
  unfold execOp;rw [ho]
  simp only [Sem.run_bind,resolve,e1,Deferred.ofValue,Sem.run_pure,Result.andThen_ok,invoke,callFunc,run_program]
  simp only [Array.empty_append,Array.append_empty,f1,f2,f3,Bool.false_eq_true,if_false,Sem.run_pure]
theorem op_makeCl (h:R E st a w) (f:FuncId) (b:Bool) (xs:Array Operand) (ho:o.op=(match b with | true=>.makeFunc (.func f) xs #[] | false=>.makeFunc (.func f) #[] xs)):Yields E o (st.put o.dst (.cl f b (xs.toList.map st.ev))) a w:=by
 obtain ⟨c,h1,h2,h3,h4,h5⟩:=h
 have hrd:=args_rd0 (fun x=>R.ev h3 x) xs
 cases b with
 | true =>
  refine ⟨.func (.func f) (xs.map a.eval) #[],w,?_,R.put h1 h2 h3 h4 h5 (.cl1 f _ _ (by simp) hrd)⟩
  unfold execOp;rw [ho]
  simp [Instr.makeFunc]
 | false =>
  refine ⟨.func (.func f) #[] (xs.map a.eval),w,?_,R.put h1 h2 h3 h4 h5 (.cl2 f _ _ (by simp) hrd)⟩
  unfold execOp;rw [ho]
  simp [Instr.makeFunc]
def ExG:=List AV→List (Nat × List AV)→Option (Prop × AV)
def ExtOk (P:Program) (f:FuncId) (g:ExG):Prop :=
 ∀ (c:Gh) (m:List (Nat × List AV)) (args:List AV) (vs:Array Value),(∀ d ls,bk d=0→lkm d m=some ls→∃ cs T,c.w.heap[c.β d]? = some (.cells cs T (0,0))∧cs.size=ls.length)→(∀ d d' ls ls',lkm d m=some ls→lkm d' m=some ls'→c.β d=c.β d'→d=d')→
  vs.size=args.length→(∀ j x,args[j]? = some x→Rd c x (vs.getD j undef))→∀ cc r,g args m=some (cc,r)→cc→∃ v,(callFunc f vs).run P c.w = .ok (.value v) c.w∧Rd c r v
theorem op_callX (h:R E st a w) (f:FuncId) (fo:Operand) (args:Array Operand) (ats:Array TypeId) (ho:o.op = .call { callee:=.value fo,args:=args,argTypes:=ats }) (hf:st.ev fo = .v (.func (.func f) #[] #[])) {g:ExG} (hx:ExtOk E.P f g)
  {cc:Prop} {r:AV} (hg:g (args.toList.map st.ev) st.m=some (cc,r)) (hc:cc):Yields E o (st.put o.dst r) a w:=by
 have e1:a.eval fo = .func (.func f) #[] #[]:=by
  obtain ⟨c,h1,h2,h3,h4,h5,h6⟩:=h.get fo
  rw [hf] at h6;generalize a.eval fo=u at h6;cases h6;rfl
 obtain ⟨c,h1,G,hσ,h4,h5⟩:=h
 obtain ⟨v,hr,hv⟩:=hx c st.m (args.toList.map st.ev) (args.map a.eval) (fun d ls hk0 hl=>by
   obtain ⟨cs,T,_,b2,b3,_⟩:=(G.box d ls hl).cells hk0;exact ⟨cs,T,b2,b3⟩) G.boxinj (by simp) (fun j x hx=>by
   simp only [List.getElem?_map,Option.map_eq_some_iff] at hx
   obtain ⟨y,hy,rfl⟩:=hx
   have e:(args.map a.eval).getD j undef=a.eval y:=by
    rw [Array.getElem?_toList] at hy
    simp [Array.getD_eq_getD_getElem?,hy]
   rw [e];exact R.ev hσ y) cc r hg hc
 refine ⟨v,w,?_,R.put h1 G hσ h4 h5 hv⟩
 subst h1
 unfold execOp;rw [ho]
 simp only [Sem.run_bind,resolve,e1,Deferred.ofValue,Sem.run_pure,Result.andThen_ok,invoke]
 simp only [Array.empty_append,Array.append_empty,hr]
end
theorem R.newboxK {E : En} {st : St} {a : Act} {w : World} {c : Gh} (hw : c.w = w) (G : Good E st.m st.rn c) (hσ : ∀ x, Rd c (lk x st.σ) (a.tmps.getD x undef)) (hn : a.tmps.size = st.nt) (hd : a.defers = [])
    (s d : Nat) (hdl : d < 1000) (ls : List AV) (cs : Array Value) (T : BoxOb d cs) (hcs : cs.size = ls.length) (hls : ∀ j x, ls[j]? = some x → Rd c x (cs.getD j undef)) (y : AV) (u : Value) (hy : ∀ c' : Gh, c'.β d = w.heap.size → Rd c' y u) :
    R E (St.put { (st.stripL d) with m := (d, AV.stripLAll d ls) :: (st.stripL d).m } (some s) y) (a.put (some s) u) (w.alloc T.1) := by
  subst hw
  have hk : Keeps c.w c.S (c.w.alloc T.1) c.S := keeps_alloc (fun _ _ h => h) _
  let c' : Gh := { c with w := c.w.alloc T.1, β := updN c.β d c.w.heap.size }
  have hsβ : ∀ k, k ≠ d → c'.β k = c.β k := fun k h => updN_ne _ _ _ h
  have hst : ∀ {x v}, Rd c x v → Rd c' (x.stripL d) v := fun h => h.stripL (c' := c') hk rfl hsβ rfl rfl
  have hle := G.hle
  have hold : ∀ k, k < c.w.heap.size → c'.w.heap[k]? = c.w.heap[k]? := fun k h => Below.heap_alloc c.w _ k h
  have hβd : c'.β d = c.w.heap.size := updN_same _ _ _
  refine R.put (st := { (st.stripL d) with m := (d, AV.stripLAll d ls) :: (st.stripL d).m }) (c := c') (w := c.w.alloc T.1) rfl ?_ (fun x => ?_) hn hd ?_
  · refine { bl := fun k hk => (hsβ k (by omega)).trans (G.bl k hk), cg := G.cg, fr := grownL_of G.fr rfl rfl rfl (by show c.w.heap.size ≤ (c.w.alloc _).heap.size; simp) (fun k hk _ => hold k (by omega)), lx := G.lx, sx := fun b o h => ?_, s1 := fun b o v hS hv => s1_keep G hk hS hv, sS := G.sS, sg := G.sg, box := fun k ls' hl => ?_, boxinj := fun k k' l l' h1 h2 he => ?_,
              tok := fun k j => ?_, toktok := G.toktok, tokbox := fun k j b k' l hb hl he => ?_, rk := fun h => (G.rk h).same (fun k hk _ => hold k (by omega)) (Nat.le_refl _) }
    · exact hk.lk h (G.sx b o h)
    · simp only [lkm] at hl
      split at hl
      · rename_i hkd
        subst hkd
        obtain rfl : AV.stripLAll k ls = ls' := by simpa using hl
        refine ⟨cs, T, .inl (by rw [hβd]; omega), by rw [hβd]; exact Go.heap_alloc_new c.w _, by rw [stripLAll_len]; exact hcs, fun j x hx => ?_, fun o ho => ?_⟩
        · obtain ⟨y, hy, rfl⟩ := stripLAll_get hx
          exact hst (hls j y hy)
        · rw [hβd] at ho
          have := G.slt (b := c.w.heap.size) (o := o) ho
          omega
      · rename_i hkd
        simp only [St.stripL, lkm_stripL d k hkd, Option.map_eq_some_iff] at hl
        obtain ⟨l, hl, rfl⟩ := hl
        have hb := (G.box k l hl).lt
        obtain ⟨cs0, T0, b1, b2, b3, b4, b5⟩ := G.box k l hl
        refine ⟨cs0, T0, by rw [hsβ k hkd]; exact b1, by rw [hsβ k hkd, hold _ hb.2]; exact b2, by rw [stripLAll_len]; exact b3, fun j x hx => ?_, fun o ho => b5 o (by rw [hsβ k hkd] at ho; exact ho)⟩
        obtain ⟨y, hy, rfl⟩ := stripLAll_get hx
        exact hst (b4 j y hy)
    · by_cases e : k = d
      · by_cases e' : k' = d
        · exact e.trans e'.symm
        · simp only [lkm, e', if_false, St.stripL, lkm_stripL d k' e', Option.map_eq_some_iff] at h2
          obtain ⟨l2, h2, _⟩ := h2
          have := (G.box k' l2 h2).lt.2
          rw [e, hβd, hsβ k' e'] at he
          omega
      · simp only [lkm, e, if_false, St.stripL, lkm_stripL d k e, Option.map_eq_some_iff] at h1
        obtain ⟨l1, h1, _⟩ := h1
        have := (G.box k l1 h1).lt.2
        by_cases e' : k' = d
        · rw [e', hβd, hsβ k e] at he
          omega
        · simp only [lkm, e', if_false, St.stripL, lkm_stripL d k' e', Option.map_eq_some_iff] at h2
          obtain ⟨l2, h2, _⟩ := h2
          rw [hsβ k e, hsβ k' e'] at he
          exact G.boxinj k k' l1 l2 h1 h2 he
    · have ht := G.tok k j
      exact tok_keep ht rfl rfl fun b hb => ⟨hold b (ht.lt hb).2, fun _ h => h⟩
    · have ht := (G.tok k j).lt hb
      by_cases e : k' = d
      · rw [e, hβd] at he; omega
      · simp only [lkm, e, if_false, St.stripL, lkm_stripL d k' e, Option.map_eq_some_iff] at hl
        obtain ⟨l, hl, _⟩ := hl
        rw [hsβ k' e] at he
        exact G.tokbox k j b k' l hb hl he
  · simp only [St.stripL, lk_stripL]
    exact hst (hσ x)
  · exact hy c' hβd

def mpB (s:Nat):Nat:=920 + s % 40
theorem bk_mpB (s:Nat):bk (mpB s)=1:=by
 have:s % 40 < 40:=Nat.mod_lt _ (by omega)
 unfold bk mpB
 rw [if_pos (by omega)]
theorem mpB_lt (s:Nat):mpB s < 1000:=by
 have:s % 40 < 40:=Nat.mod_lt _ (by omega)
 unfold mpB;omega
variable {E:En} {o:Oper} {st:St} {a:Act} {w:World}
theorem op_makeMap (h:R E st a w) (d:Nat) (hd:o.dst=some d) (t:TypeId) (ho:o.op = .makeMap t none) :
  Yields E o (St.put { (st.stripL (mpB d)) with m:=(mpB d,[.mb []])::(st.stripL (mpB d)).m } (some d) (.mr (mpB d))) a w:=by
 obtain ⟨c,h1,h2,h3,h4,h5⟩:=h
 refine ⟨.map (some w.heap.size),w.alloc (.map #[] 0),?_,?_⟩
 ·unfold execOp;rw [ho];simp [Instr.makeMap]
 ·rw [hd]
  have K:BoxK (mpB d) #[.tuple (([]:List (Value × Value)).map fun p=>.tuple #[p.1,p.2]).toArray] (.map #[] 0):=.map _ _ _ [] (bk_mpB d) ⟨rfl,fun i e h=>by simp at h,rfl⟩
  exact R.newboxK h1 h2 h3 h4 h5 d (mpB d) (mpB_lt d) [.mb []] _ ⟨_,K⟩ rfl (fun j x hx=>by
   cases j with
   | zero=>obtain rfl:=Option.some.inj hx;exact .mb []
   | succ j=>cases hx) _ _ (fun c' h=>by rw [← h];exact .mr1 _ (bk_mpB d))
def keyAV:AV→Option Value
 | .v x=>some x
 | .agg [.v x,.v y]=>some (.agg #[x,y])
 | .agg [.v x,.v y,.v z,.v s,.v r]=>some (.agg #[x,y,z,s,r])
 | _=>none
theorem keyAV_ok {c:Gh} {y:AV} {v k:Value} (h:Rd c y v) (hk:keyAV y=some k):v=k:=by
 unfold keyAV at hk
 split at hk
 ·cases h;exact Option.some.inj hk
 ·rename_i x y
  obtain rfl:=Option.some.inj hk
  cases h with
  | agg ls cs hn hh =>
  have e0:=hh 0 _ rfl
  have e1:=hh 1 _ rfl
  obtain ⟨l⟩:=cs
  match l,hn with
  | [p,q],_ =>
   have h0:p=x:=by cases e0;rfl
   have h1:q=y:=by cases e1;rfl
   subst h0;subst h1;rfl
 ·rename_i x y z s r
  obtain rfl:=Option.some.inj hk
  cases h with
  | agg ls cs hn hh =>
  have e0:=hh 0 _ rfl
  have e1:=hh 1 _ rfl
  have e2:=hh 2 _ rfl
  have e3:=hh 3 _ rfl
  have e4:=hh 4 _ rfl
  obtain ⟨l⟩:=cs
  match l,hn with
  | [p0,p1,p2,p3,p4],_ =>
   have h0:p0=x:=by cases e0;rfl
   have h1:p1=y:=by cases e1;rfl
   have h2:p2=z:=by cases e2;rfl
   have h3:p3=s:=by cases e3;rfl
   have h4:p4=r:=by cases e4;rfl
   subst h0;subst h1;subst h2;subst h3;subst h4;rfl
 ·cases hk
def mbOk (kd:Nat) (t:List (Value × Value)):Bool:=t.all fun p=>isKey kd p.1 && p.2.oneCell'
def mbK (kd:Nat) (t:List (Value × Value)):Bool:=match kd with
 | 2=>t.all fun p=>isKey 2 p.1 && unitB p.2
 | _=>mbOk kd t
theorem mbK_all {kd:Nat} {t:List (Value × Value)} (h:mbK kd t=true):∀ p ∈ t,isKey kd p.1=true∧valOk kd p.2=true:=by
 unfold mbK at h
 split at h
 ·intro p hp
  have:=List.all_eq_true.1 h p hp
  simpa [valOk] using this
 ·rename_i hk
  intro p hp
  have:=List.all_eq_true.1 h p hp
  rw [valOk_ne hk]
  simpa using this
def fndT (kd:Nat) (k:Value):List (Value × Value)→Option Value
 | []=>none
 | p::t=>if keyEq kd k p.1 then some p.2 else fndT kd k t
theorem fndE_T (kd:Nat) (k:Value):∀ (es:List MapEntry) (i:Nat),(fndE kd k es i).map (·.2)=fndT kd k (es.map fun e=>(e.key,e.val))
 | [],_=>rfl
 | e::es,i=>by
  simp only [fndE,List.map_cons,fndT]
  split
  ·rfl
  ·exact fndE_T kd k es (i + 1)
theorem mbOk_es {kd:Nat} {es:Array MapEntry} {ck:Nat} {t:List (Value × Value)} (hm:MpOk es ck t) (h:mbK kd t=true):∀ e ∈ es.toList,isKey kd e.key=true:=fun e he=>by
 have:(e.key,e.val) ∈ t:=by rw [← hm.2.2];exact List.mem_map.2 ⟨e,he,rfl⟩
 exact (mbK_all h _ this).1
theorem fndT_val {kd:Nat} {k:Value}:∀ {t:List (Value × Value)} {v:Value},(∀ p ∈ t,isKey kd p.1=true∧valOk kd p.2=true)→fndT kd k t=some v→valOk kd v=true
 | p::t,v,h,hf=>by
  simp only [fndT] at hf
  split at hf
  ·obtain rfl:=Option.some.inj hf;exact (h p (by simp)).2
  ·exact fndT_val (fun q hq=>h q (by simp [hq])) hf
theorem Rd_mb {c:Gh} {t:List (Value × Value)} {v:Value} (h:Rd c (.mb t) v):v = .tuple (t.map fun p=>Value.tuple #[p.1,p.2]).toArray:=by
 cases h;rfl
theorem mb_inj:∀ {t t':List (Value × Value)},(t.map fun p=>Value.tuple #[p.1,p.2])=(t'.map fun p=>Value.tuple #[p.1,p.2])→t=t'
 | [],[],_=>rfl
 | [],_::_,h=>by cases h
 | _::_,[],h=>by cases h
 | p::t,p'::t',h=>by
  simp only [List.map_cons,List.cons.injEq,Value.tuple.injEq,Array.mk.injEq,and_true] at h
  rw [mb_inj h.2,Prod.ext h.1.1 h.1.2]
theorem map_box {B:Nat} {L:Nat→Prop} {c:Gh} {d:Nat} {t:List (Value × Value)} (h:BoxOk B L c d [.mb t]) (hb:bk d=1):∃ es ck,c.w.heap[c.β d]? = some (.map es ck)∧MpOk es ck t:=by
 obtain ⟨cs,K,_,h2,h3,h4,_⟩:=h
 obtain ⟨o,hk⟩:=K
 cases hk with
 | cells _ T h1=>rw [hb] at h1;cases h1
 | iter b n seen h1=>rw [hb] at h1;cases h1
 | map es ck t' h1 hm =>
  refine ⟨es,ck,h2,?_⟩
  have:=Rd_mb (h4 0 _ rfl)
  simp only [Array.getD_eq_getD_getElem?] at this
  have e:t'=t:=mb_inj (by simpa using this)
  rw [← e];exact hm
def resM (ck:Bool) (z:Value):Option Value→AV
 | some v=>if ck then .tup [.v v,.v (.bool true)] else .v v
 | none=>if ck then .tup [.v z,.v (.bool false)] else .v z
theorem Rd_tup2 {c:Gh} {x y:Value} (hx:x.oneCell'=true) (hy:y.oneCell'=true):Rd c (.tup [.v x,.v y]) (.tuple #[x,y]) :=
 .tup _ _ rfl fun j z hz=>by
  match j,hz with
  | 0,hz=>obtain rfl:=Option.some.inj hz;exact .v x hx
  | 1,hz=>obtain rfl:=Option.some.inj hz;exact .v y hy
theorem Rd_resM {c:Gh} {ck:Bool} {z:Value} {v:Option Value} (hz:z.oneCell'=true) (hv:∀ x,v=some x→x.oneCell'=true):Rd c (resM ck z v) (match v with | some x=>if ck then .tuple #[x,.bool true] else x | none=>if ck then .tuple #[z,.bool false] else z):=by
 cases v with
 | none=>cases ck with
  | true=>exact Rd_tup2 hz rfl
  | false=>exact .v z hz
 | some x=>cases ck with
  | true=>exact Rd_tup2 (hv x rfl) rfl
  | false=>exact .v x (hv x rfl)
def resU (ck:Bool):Option Value→AV
 | some _=>if ck then .tup [.agg [],.v (.bool true)] else .agg []
 | none=>if ck then .tup [.agg [],.v (.bool false)] else .agg []
def resK (kd:Nat) (ck:Bool) (z:Value) (v:Option Value):AV:=match kd with
 | 2=>resU ck v
 | _=>resM ck z v
theorem resK_or (kd:Nat) (ck:Bool) (z:Value) (v:Option Value):resK kd ck z v=resU ck v∨resK kd ck z v=resM ck z v:=by
 unfold resK
 split
 ·exact .inl rfl
 ·exact .inr rfl
theorem unit_eq {z:Value} (h:unitB z=true):z = .agg #[]:=by
 unfold unitB at h
 split at h
 ·rename_i a
  have:a = #[]:=by simpa using h
  rw [this]
 ·cases h
theorem Rd_u {c:Gh}:Rd c (.agg []) (.agg #[]):=.agg _ _ rfl fun j x hx=>by simp at hx
theorem Rd_ut {c:Gh} (b:Bool):Rd c (.tup [.agg [],.v (.bool b)]) (.tuple #[.agg #[],.bool b]) :=
 .tup _ _ rfl fun j z hz=>by
  match j,hz with
  | 0,hz=>obtain rfl:=Option.some.inj hz;exact Rd_u
  | 1,hz=>obtain rfl:=Option.some.inj hz;exact .v _ rfl
theorem Rd_resK {c:Gh} {kd:Nat} {ck:Bool} {z:Value} {v:Option Value} (hz:valOk kd z=true) (hv:∀ x,v=some x→valOk kd x=true):Rd c (resK kd ck z v) (match v with | some x=>if ck then .tuple #[x,.bool true] else x | none=>if ck then .tuple #[z,.bool false] else z):=by
 unfold resK
 split
 ·have ez:=unit_eq (show unitB z=true from hz)
  cases v with
  | none =>
   subst ez
   cases ck with
   | true=>exact Rd_ut false
   | false=>exact Rd_u
  | some x =>
   have ex:=unit_eq (show unitB x=true from hv x rfl)
   subst ex
   cases ck with
   | true=>exact Rd_ut true
   | false=>exact Rd_u
 ·rename_i hk
  have h1:z.oneCell'=true:=by rw [← valOk_ne hk];exact hz
  cases v with
  | none=>exact Rd_resM (v:=none) h1 (fun x e=>by cases e)
  | some y=>exact Rd_resM (v:=some y) h1 (fun x e=>by rw [← valOk_ne hk];exact hv x e)
theorem op_lookupB (h:R E st a w) (t:TypeId) (x ix:Operand) (ck:Bool) (ho:o.op = .lookup t x ix ck) {kd:Nat} {z:Value} (ht:MpTy E.P t kd z) {b:Nat} {es:Array MapEntry} {clk:Nat} {tb:List (Value × Value)} (hev:a.eval x = .map (some b)) (g1:w.heap[b]? = some (.map es clk)) (g2:MpOk es clk tb) (hks:mbK kd tb=true)
  {k:Value} (hk:keyAV (st.ev ix)=some k) (hkk:isKey kd k=true):Yields E o (st.put o.dst (resK kd ck z (fndT kd k tb))) a w:=by
 obtain ⟨c,h1,h2,h3,h4,h5⟩:=h
 have h7:=keyAV_ok (R.ev h3 ix) hk
 obtain ⟨kt,et,e1,e2,e3⟩:=ht.ty
 obtain ⟨e3,e4⟩:=e3 k hkk
 have g3:=e4 es.toList (mbOk_es g2 hks)
 have g4:=fndE_T kd k es.toList 0
 rw [g2.2.2] at g4
 cases hf:fndE kd k es.toList 0 with
 | none =>
  rw [hf] at g4
  refine ⟨if ck then .tuple #[z,.bool false] else z,w,?_,?_⟩
  ·unfold execOp;rw [ho]
   simp [Instr.lookup,hev,h7,run_underlying e1,MapKept.run_getObj_map g1,e3,g3,hf,e2]
  ·rw [← g4]
   exact R.put h1 h2 h3 h4 h5 (Rd_resK (v:=none) ht.zc (fun v e=>by cases e))
 | some p =>
  obtain ⟨i,v⟩:=p
  rw [hf] at g4
  have g4:some v=fndT kd k tb:=g4
  refine ⟨if ck then .tuple #[v,.bool true] else v,w,?_,?_⟩
  ·unfold execOp;rw [ho]
   simp [Instr.lookup,hev,h7,run_underlying e1,MapKept.run_getObj_map g1,e3,g3,hf]
  ·rw [← g4]
   exact R.put h1 h2 h3 h4 h5 (Rd_resK (v:=some v) ht.zc (fun v' e=>by cases e;exact fndT_val (mbK_all hks) g4.symm))
theorem op_lookup (h:R E st a w) (t:TypeId) (x ix:Operand) (ck:Bool) (ho:o.op = .lookup t x ix ck) {kd:Nat} {z:Value} (ht:MpTy E.P t kd z) {d:Nat} (hx:st.ev x = .mr d) {tb:List (Value × Value)} (hm:lkm d st.m=some [.mb tb]) (hks:mbK kd tb=true)
  {k:Value} (hk:keyAV (st.ev ix)=some k) (hkk:isKey kd k=true):Yields E o (st.put o.dst (resK kd ck z (fndT kd k tb))) a w:=by
 obtain ⟨c,h1,h2,h3,h4,h5,h6⟩:=h.get x
 rw [hx] at h6
 have hbox:=h2.box d _ hm
 have hb:bk d=1∧a.eval x = .map (some (c.β d)):=by
  generalize a.eval x=u at h6
  cases h6 with
  | mr1 _ hb=>exact ⟨hb,rfl⟩
  | mr2 _ hb =>
   obtain ⟨cs,K,_,g2,g3,_⟩:=hbox
   obtain ⟨o,hk⟩:=K
   cases hk with
   | cells _ T q=>rw [hb] at q;cases q
   | map es ck t' q hm=>rw [hb] at q;cases q
   | iter b n seen q=>cases g3
 obtain ⟨hb,hev⟩:=hb
 obtain ⟨es,clk,g1,g2⟩:=map_box hbox hb
 rw [h1] at g1
 exact op_lookupB h t x ix ck ho ht hev g1 g2 hks hk hkk
theorem op_lookupD (h:R E st a w) (t:TypeId) (x ix:Operand) (ck:Bool) (ho:o.op = .lookup t x ix ck) {kd:Nat} {z:Value} (ht:MpTy E.P t kd z) {tb:List (Value × Value)} (hx:st.ev x = .dv (.mp tb)) (hks:mbK kd tb=true)
  {k:Value} (hk:keyAV (st.ev ix)=some k) (hkk:isKey kd k=true):Yields E o (st.put o.dst (resK kd ck z (fndT kd k tb))) a w:=by
 obtain ⟨c,h1,h2,h3,h4,h5,h6⟩:=h.get x
 rw [hx] at h6
 obtain ⟨b,es,clk,hev,g1,g2⟩:∃ b es clk,a.eval x = .map (some b)∧c.w.heap[b]? = some (.map es clk)∧MpOk es clk tb:=by
  generalize a.eval x=u at h6
  cases h6 with | dv _ _ h=>cases h with | mp _ b es ck hS hb hm=>exact ⟨b,es,ck,rfl,hb,hm⟩
 rw [h1] at g1
 exact op_lookupB h t x ix ck ho ht hev g1 g2 hks hk hkk
def mapD (m:Nat→Option (List AV)):AV→Option (List (Value × Value))
 | .mr d=>match m d with
  | some [.mb t]=>some t
  | _=>none
 | .dv (.mp t)=>some t
 | _=>none
theorem op_lookupM (h:R E st a w) (t:TypeId) (x ix:Operand) (ck:Bool) (ho:o.op = .lookup t x ix ck) {kd:Nat} {z:Value} (ht:MpTy E.P t kd z) {tb:List (Value × Value)} (hx:mapD (fun k=>lkm k st.m) (st.ev x)=some tb) (hks:mbK kd tb=true)
  {k:Value} (hk:keyAV (st.ev ix)=some k) (hkk:isKey kd k=true):Yields E o (st.put o.dst (resK kd ck z (fndT kd k tb))) a w:=by
 unfold mapD at hx
 split at hx
 ·rename_i d e
  split at hx
  ·rename_i hl
   obtain rfl:=Option.some.inj hx
   exact op_lookup h t x ix ck ho ht e hl hks hk hkk
  ·cases hx
 ·rename_i t' e
  obtain rfl:=Option.some.inj hx
  exact op_lookupD h t x ix ck ho ht e hks hk hkk
 ·cases hx
theorem R.setboxK {E : En} {st : St} {a : Act} {w w' : World} {c : Gh} (hw : c.w = w) (G : Good E st.m st.rn c) (hσ : ∀ x, Rd c (lk x st.σ) (a.tmps.getD x undef))
    {d : Nat} {ls ls2 : List AV} (hl : lkm d st.m = some ls) {cs2 : Array Value} (K2 : BoxOb d cs2) (hlen : cs2.size = ls2.length) (hx2 : ∀ (j : Nat) (x : AV), ls2[j]? = some x → Rd c x (cs2.getD j undef))
    (h1 : w'.heap[c.β d]? = some K2.1) (h2 : w'.heap.size = w.heap.size) (h3 : w'.os = w.os) (h4 : w'.tape = w.tape) (h5 : w'.output = w.output) (h6 : ∀ k, k ≠ c.β d → w'.heap[k]? = w.heap[k]?) :
    Good E ((d, ls2) :: st.m) st.rn { c with w := w' } ∧ ∀ x, Rd { c with w := w' } (lk x st.σ) (a.tmps.getD x undef) := by
  subst hw
  have hbd := G.box d ls hl
  have hnS : ∀ o, ¬ c.S (c.β d) o := by obtain ⟨_, _, _, _, _, _, h⟩ := hbd; exact h
  have hk : Keeps c.w c.S w' c.S := keeps_of_lt (fun _ _ h => h) fun b o hs _ => h6 b (fun e => hnS o (e ▸ hs))
  let c' : Gh := { c with w := w' }
  have hrd : ∀ {x v}, Rd c x v → Rd c' x v := fun h => h.keep (c' := c') hk rfl rfl rfl rfl
  refine ⟨?_, fun x => hrd (hσ x)⟩
  refine { bl := G.bl, cg := G.cg, fr := grownL_of G.fr h3 h4 h5 (by show c.w.heap.size ≤ w'.heap.size; omega) (fun k hk hL => h6 k (fun e => by
              rcases hbd.lt.1 with h | h
              · omega
              · exact hL (e ▸ h))), lx := G.lx, sx := fun b o h => ?_, s1 := fun b o v hS hv => s1_keep G hk hS hv, sS := G.sS, sg := G.sg, box := fun k ls' hl' => ?_, boxinj := fun k k' l l' e1 e2 he => ?_,
            tok := fun k j => ?_, toktok := G.toktok, tokbox := fun k j b k' l hb hl' he => ?_, rk := fun h => (G.rk h).same (fun k hk hk2 => h6 k (fun e => by
              rcases hbd.lt.1 with h' | h'
              · omega
              · have := G.lx h _ h'
                rw [← e] at this
                rcases hk2 with h2 | h2
                · exact this.1 h2
                · exact this.2 h2)) (Nat.le_refl _) }
  · exact hk.lk h (G.sx b o h)
  · simp only [lkm] at hl'
    split at hl'
    · rename_i e
      subst e
      obtain rfl : ls2 = ls' := by simpa using hl'
      obtain ⟨cs0, T0, b1, b2, b3, b4, b5⟩ := hbd
      exact ⟨cs2, K2, b1, h1, hlen, fun j x hx => hrd (hx2 j x hx), b5⟩
    · rename_i e
      obtain ⟨cs0, T0, b1, b2, b3, b4, b5⟩ := G.box k ls' hl'
      refine ⟨cs0, T0, b1, ?_, b3, fun j x hx => hrd (b4 j x hx), b5⟩
      show w'.heap[c.β k]? = _
      rw [h6 _ (fun ee => e (G.boxinj k d ls' ls hl' hl ee))]; exact b2
  · have get : ∀ k l, lkm k ((d, ls2) :: st.m) = some l → ∃ l', lkm k st.m = some l' := fun k l h => by
      simp only [lkm] at h
      split at h
      · rename_i e; exact ⟨ls, e ▸ hl⟩
      · exact ⟨l, h⟩
    obtain ⟨l1, e1⟩ := get k l e1
    obtain ⟨l2, e2⟩ := get k' l' e2
    exact G.boxinj k k' l1 l2 e1 e2 he
  · have ht := G.tok k j
    exact tok_keep ht rfl rfl fun b hb => ⟨h6 b (fun e => G.tokbox k j b d ls hb hl e.symm), fun _ h => h⟩
  · simp only [lkm] at hl'
    split at hl'
    · rename_i e; subst e; exact G.tokbox k j b k' ls hb hl he
    · exact G.tokbox k j b k' l hb hl' he

def mput (kd:Nat) (k v:Value):List (Value × Value)→List (Value × Value)
 | []=>[(k,v)]
 | p::t=>if keyEq kd k p.1 then (k,v)::t else p::mput kd k v t
theorem fndE_none {kd:Nat} {k v:Value}:∀ {l:List MapEntry} {j:Nat},fndE kd k l j=none→mput kd k v (l.map fun e=>(e.key,e.val))=(l.map fun e=>(e.key,e.val))++[(k,v)]
 | [],_,_=>rfl
 | e::l,j,h=>by
  simp only [fndE] at h
  split at h
  ·cases h
  ·rename_i hk
   simp only [List.map_cons,mput]
   rw [if_neg hk,fndE_none h];rfl
theorem fndE_some {kd:Nat} {k v x:Value} {i:Nat}:∀ {l:List MapEntry} {j:Nat},fndE kd k l j=some (i,x)→
  ∃ n e,i=j + n∧l[n]? = some e∧keyEq kd k e.key=true∧(l.modify n fun e=>{ e with key:=k,val:=v }).map (fun e=>(e.key,e.val))=mput kd k v (l.map fun e=>(e.key,e.val))
 | [],_,h=>by cases h
 | e::l,j,h=>by
  simp only [fndE] at h
  split at h
  ·rename_i hk
   obtain ⟨rfl,rfl⟩:=Prod.mk.inj (Option.some.inj h)
   refine ⟨0,e,rfl,rfl,hk,?_⟩
   simp only [List.map_cons,mput,if_pos hk]
   rfl
  ·rename_i hk
   obtain ⟨n,e',h1,h2,h3,h4⟩:=fndE_some (l:=l) (j:=j + 1) h
   refine ⟨n + 1,e',by omega,h2,h3,?_⟩
   simp only [List.modify_succ_cons,List.map_cons,mput,if_neg hk]
   rw [h4]
theorem isKey0 {k:Value} (hk:isKey 0 k=true):∃ a,k = .int .i64 a:=by
 unfold isKey at hk
 split at hk
 ·exact ⟨_,rfl⟩
 ·omega
 ·omega
 ·cases hk
theorem isKey1 {k:Value} (hk:isKey 1 k=true):∃ a b,k = .agg #[.int .i64 a,.int .i64 b]:=by
 unfold isKey at hk
 split at hk
 ·omega
 ·rename_i xs
  split at hk
  ·rename_i p q hx
   exact ⟨p,q,congrArg Value.agg (Array.toList_inj.1 hx)⟩
  ·cases hk
 ·omega
 ·cases hk
theorem isKey2 {k:Value} (hk:isKey 2 k=true):∃ a b c d s,k = .agg #[.int .i64 a,.int .i64 b,.int .i64 c,.int .i64 d,.string s]:=by
 unfold isKey at hk
 split at hk
 ·omega
 ·omega
 ·rename_i xs
  split at hk
  ·rename_i p q r u s hx
   exact ⟨p,q,r,u,s,congrArg Value.agg (Array.toList_inj.1 hx)⟩
  ·cases hk
 ·cases hk
theorem isKey_le {kd:Nat} {k:Value} (h:isKey kd k=true):kd=0∨kd=1∨kd=2:=by
 unfold isKey at h
 split at h
 ·exact .inl rfl
 ·exact .inr (.inl rfl)
 ·exact .inr (.inr rfl)
 ·cases h
theorem same_key {kd:Nat} {a b:Value} (ha:isKey kd a=true) (hb:isKey kd b=true) (h:keyEq kd b a=true):Instr.sameBits 10000 a b=true:=by
 show Instr.sameBits (9999 + 1) a b=true
 rcases isKey_le ha with rfl | rfl | rfl
 ·obtain ⟨x,rfl⟩:=isKey0 ha
  obtain ⟨y,rfl⟩:=isKey0 hb
  simp only [keyEq,beq_iff_eq] at h
  subst h
  simp [Instr.sameBits]
 ·obtain ⟨x,y,rfl⟩:=isKey1 ha
  obtain ⟨z,u,rfl⟩:=isKey1 hb
  simp only [keyEq,Bool.and_eq_true,beq_iff_eq] at h
  obtain ⟨rfl,rfl⟩:=h
  simp [Instr.sameBits]
 ·obtain ⟨x1,x2,x3,x4,s,rfl⟩:=isKey2 ha
  obtain ⟨y1,y2,y3,y4,r,rfl⟩:=isKey2 hb
  simp only [keyEq,Bool.and_eq_true,beq_iff_eq] at h
  obtain ⟨rfl,rfl,⟨rfl,rfl⟩,hs⟩:=h
  have:s=r:=(ByteArray.ext (Array.toList_inj.1 hs)).symm
  subst this
  simp [Instr.sameBits,beq_toListBytes]
def valV:AV→Option Value
 | .v v=>some v
 | .agg []=>some (.agg #[])
 | _=>none
theorem valV_ok {c:Gh} {y:AV} {u v:Value} (h:Rd c y u) (hv:valV y=some v):u=v:=by
 unfold valV at hv
 split at hv
 ·cases h;exact Option.some.inj hv
 ·obtain rfl:=Option.some.inj hv
  cases h with
  | agg ls cs hn hh =>
   have:cs = #[]:=by simpa using hn
   rw [this]
 ·cases hv
theorem op_mapUpdate (h:R E st a w) (t:TypeId) (x ix y:Operand) (ho:o.op = .mapUpdate t x ix y) (hdst:o.dst=none) {kd:Nat} {z:Value} (ht:MpTy E.P t kd z) {d:Nat} (hx:st.ev x = .mr d) {tb:List (Value × Value)} (hm:lkm d st.m=some [.mb tb]) (hks:mbK kd tb=true)
  {k v:Value} (hk:keyAV (st.ev ix)=some k) (hkk:isKey kd k=true) (hy:valV (st.ev y)=some v) :
  ∃ w',(execOp a.eval o).run E.P w = .ok .skip w'∧R E { st with m:=repm d [.mb (mput kd k v tb)] st.m } (a.put o.dst undef) w':=by
 obtain ⟨c,h1,h2,h3,h4,h5,h6⟩:=h.get x
 rw [hx] at h6
 have h7:=keyAV_ok (R.ev h3 ix) hk
 have hv:=valV_ok (R.ev h3 y) hy
 obtain ⟨kt,et,e1,e2,e3⟩:=ht.ty
 obtain ⟨e3,e4⟩:=e3 k hkk
 have hbox:=h2.box d _ hm
 have hb:bk d=1∧a.eval x = .map (some (c.β d)):=by
  generalize a.eval x=u at h6
  cases h6 with
  | mr1 _ hb=>exact ⟨hb,rfl⟩
  | mr2 _ hb =>
   obtain ⟨cs,K,_,g2,g3,_⟩:=hbox
   obtain ⟨o,hk⟩:=K
   cases hk with
   | cells _ T q=>rw [hb] at q;cases q
   | map es ck t' q hm=>rw [hb] at q;cases q
   | iter b n seen q=>cases g3
 obtain ⟨hb,hev⟩:=hb
 obtain ⟨es,clk,g1,g2⟩:=map_box hbox hb
 rw [h1] at g1
 have g3:=e4 es.toList (mbOk_es g2 hks)
 have hlt:c.β d < w.heap.size:=(Array.getElem?_eq_some_iff.1 g1).1
 have done:∀ (es':Array MapEntry) (clk':Nat),(execOp a.eval o).run E.P w = .ok .skip { w with heap:=w.heap.setIfInBounds (c.β d) (.map es' clk') }→MpOk es' clk' (mput kd k v tb)→
   ∃ w',(execOp a.eval o).run E.P w = .ok .skip w'∧R E { st with m:=repm d [.mb (mput kd k v tb)] st.m } (a.put o.dst undef) w':=fun es' clk' hr hmp=>by
  refine ⟨_,hr,?_⟩
  have K:BoxK d #[.tuple ((mput kd k v tb).map fun p=>Value.tuple #[p.1,p.2]).toArray] (.map es' clk'):=.map _ _ _ _ hb hmp
  obtain ⟨G',hσ'⟩:=R.setboxK (w':={ w with heap:=w.heap.setIfInBounds (c.β d) (.map es' clk') }) (ls2:=[.mb (mput kd k v tb)]) h1 h2 h3 hm ⟨_,K⟩ rfl (fun j x hx=>by
   cases j with
   | zero=>obtain rfl:=Option.some.inj hx;exact .mb _
   | succ j=>cases hx) (by simp [hlt]) (by simp) rfl rfl rfl (fun k hk=>by simp [Array.getElem?_setIfInBounds,Ne.symm hk])
  rw [hdst]
  exact ⟨_,rfl,G'.congr (fun k=>lkm_repm d k _ _ _ hm),hσ',h4,h5⟩
 cases hf:fndE kd k es.toList 0 with
 | none =>
  refine done (es.push { key:=k,val:=v,born:=clk }) (clk + 1) ?_ ?_
  ·unfold execOp;rw [ho]
   simp [Instr.mapUpdate,hev,h7,hv,run_underlying e1,MapKept.run_getObj_map g1,e3,g3,hf,MapKept.run_setObj_map _ g1]
  ·obtain ⟨m1,m2,m3⟩:=g2
   refine ⟨by rw [m1];simp,fun i e he=>?_,?_⟩
   ·rw [Array.getElem?_push] at he
    split at he
    ·rename_i q;obtain rfl:=Option.some.inj he;rw [q];exact m1
    ·exact m2 i e he
   ·rw [← m3,fndE_none hf];simp
 | some p =>
  obtain ⟨i,u⟩:=p
  obtain ⟨n,e,q1,q2,q3,q4⟩:=fndE_some (v:=v) hf
  obtain rfl:i=n:=by omega
  have hek:isKey kd e.key=true:=mbOk_es g2 hks e (List.mem_of_getElem? q2)
  have hsb:=same_key hek hkk q3
  have q2':es[i]? = some e:=by rw [← q2];simp
  refine done (es.modify i fun e=>{ e with key:=k,val:=v }) clk ?_ ?_
  ·unfold execOp;rw [ho]
   simp [Instr.mapUpdate,hev,h7,hv,run_underlying e1,MapKept.run_getObj_map g1,e3,g3,hf,q2',Instr.keyThatStays,hsb,MapKept.run_setObj_map _ g1]
  ·obtain ⟨m1,m2,m3⟩:=g2
   refine ⟨by rw [m1];simp,fun j e' he=>?_,?_⟩
   ·rw [Array.getElem?_modify] at he
    split at he
    ·rename_i q;subst q
     rw [q2'] at he
     obtain rfl:=Option.some.inj he
     exact m2 i e q2'
    ·exact m2 j e' he
   ·rw [← m3,← q4];simp
end Go.Eng
end
section
namespace Go.Eng
open Go Go.RowKit
def itB (s:Nat):Nat:=960 + s % 40
theorem bk_itB (s:Nat):bk (itB s)=2:=by
 have:s % 40 < 40:=Nat.mod_lt _ (by omega)
 unfold bk itB
 rw [if_neg (by omega),if_pos (by omega)]
theorem itB_lt (s:Nat):itB s < 1000:=by
 have:s % 40 < 40:=Nat.mod_lt _ (by omega)
 unfold itB;omega
def sn (l:List Nat):List (Value × Value):=l.map fun (s:Nat)=>(.int .i64 (s:Int),.int .i64 0)
def keyA:Value→AV
 | .agg a=>.agg (a.toList.map .v)
 | x=>.v x
theorem Rd_keyA {c:Gh} {kd:Nat} {k:Value} (h:isKey kd k=true):Rd c (keyA k) k:=by
 unfold isKey at h
 split at h
 ·exact .v _ rfl
 ·rename_i xs
  split at h
  ·rename_i p q hx
   obtain rfl:xs = #[.int .i64 p,.int .i64 q]:=Array.toList_inj.1 hx
   refine .agg _ _ rfl fun j x hx=>?_
   match j,hx with
   | 0,hx=>obtain rfl:=Option.some.inj hx;exact .v _ rfl
   | 1,hx=>obtain rfl:=Option.some.inj hx;exact .v _ rfl
  ·cases h
 ·rename_i xs
  split at h
  ·rename_i p0 p1 p2 p3 s hx
   obtain rfl:xs = #[.int .i64 p0,.int .i64 p1,.int .i64 p2,.int .i64 p3,.string s]:=Array.toList_inj.1 hx
   refine .agg _ _ rfl fun j x hx=>?_
   match j,hx with
   | 0,hx=>obtain rfl:=Option.some.inj hx;exact .v _ rfl
   | 1,hx=>obtain rfl:=Option.some.inj hx;exact .v _ rfl
   | 2,hx=>obtain rfl:=Option.some.inj hx;exact .v _ rfl
   | 3,hx=>obtain rfl:=Option.some.inj hx;exact .v _ rfl
   | 4,hx=>obtain rfl:=Option.some.inj hx;exact .v _ rfl
  ·cases h
 ·cases h
variable {E:En} {o:Oper} {st:St} {a:Act} {w:World}
theorem mr_map {B:Nat} {L:Nat→Prop} {c:Gh} {d:Nat} {t:List (Value × Value)} {u:Value} (hbox:BoxOk B L c d [.mb t]) (h6:Rd c (.mr d) u):bk d=1∧u = .map (some (c.β d)):=by
 cases h6 with
 | mr1 _ hb=>exact ⟨hb,rfl⟩
 | mr2 _ hb =>
  obtain ⟨cs,K,_,g2,g3,_⟩:=hbox
  obtain ⟨o,hk⟩:=K
  cases hk with
  | cells _ T q=>rw [hb] at q;cases q
  | map es ck t' q hm=>rw [hb] at q;cases q
  | iter b n seen q=>cases g3
theorem op_range (h:R E st a w) (s:Nat) (hd:o.dst=some s) (t:TypeId) (x:Operand) (ho:o.op = .range t x) {kd:Nat} {z:Value} (ht:MpTy E.P t kd z) {d:Nat} (hx:st.ev x = .mr d) {tb:List (Value × Value)} (hm:lkm d st.m=some [.mb tb]) :
  Yields E o (St.put { (st.stripL (itB s)) with m:=(itB s,AV.stripLAll (itB s) [.mr d,.mb [],.v (.int .i64 tb.length)])::(st.stripL (itB s)).m } (some s) (.mr (itB s))) a w:=by
 obtain ⟨c,h1,h2,h3,h4,h5,h6⟩:=h.get x
 rw [hx] at h6
 obtain ⟨hb,hev⟩:=mr_map (h2.box d _ hm) h6
 obtain ⟨es,clk,g1,g2⟩:=map_box (h2.box d _ hm) hb
 rw [h1] at g1
 obtain ⟨kt,et,e1,_⟩:=ht.ty
 have hn:clk=tb.length:=by rw [g2.1,← g2.2.2];simp
 subst hn
 refine ⟨.pointer (some ⟨w.heap.size,0,none⟩),w.alloc (.mapIter (some (c.β d)) tb.length #[] tb.length),?_,?_⟩
 ·unfold execOp;rw [ho]
  simp [Instr.range,hev,run_underlying e1,MapKept.run_getObj_map g1]
 ·rw [hd]
  have K:BoxK (itB s) #[.map (some (c.β d)),.tuple ((#[]:Array Nat).toList.map fun (s:Nat)=>Value.tuple #[.int .i64 s,.int .i64 0]).toArray,.int .i64 tb.length] (.mapIter (some (c.β d)) tb.length #[] tb.length):=.iter _ _ _ #[] (bk_itB s)
  exact R.newboxK h1 h2 h3 h4 h5 s (itB s) (itB_lt s) [.mr d,.mb [],.v (.int .i64 tb.length)] _ ⟨_,K⟩ rfl (fun j x hx=>by
   match j,hx with
   | 0,hx=>obtain rfl:=Option.some.inj hx;exact .mr1 d hb
   | 1,hx=>obtain rfl:=Option.some.inj hx;exact .mb []
   | 2,hx=>obtain rfl:=Option.some.inj hx;exact .v _ rfl) _ _ (fun c' h=>by rw [← h];exact .mr2 _ (bk_itB s))
theorem sn_inj:∀ {l l':List Nat},(l.map fun (s:Nat)=>Value.tuple #[.int .i64 (s:Int),.int .i64 0])=(l'.map fun (s:Nat)=>Value.tuple #[.int .i64 (s:Int),.int .i64 0])→l=l'
 | [],[],_=>rfl
 | [],_::_,h=>by cases h
 | _::_,[],h=>by cases h
 | p::t,p'::t',h=>by
  simp only [List.map_cons,List.cons.injEq,Value.tuple.injEq,Array.mk.injEq,and_true,Value.int.injEq,true_and] at h
  rw [sn_inj h.2,Int.ofNat.inj h.1]
theorem iter_box {B:Nat} {L:Nat→Prop} {c:Gh} {i d:Nat} {l:List Nat} {n:Nat} (h:BoxOk B L c i [.mr d,.mb (sn l),.v (.int .i64 n)]) (hb:bk i=2) (hd:bk d=1):∃ seen:Array Nat,c.w.heap[c.β i]? = some (.mapIter (some (c.β d)) n seen n)∧seen.toList=l:=by
 obtain ⟨cs,K,_,h2,h3,h4,_⟩:=h
 obtain ⟨o,hk⟩:=K
 cases hk with
 | cells _ T h1=>rw [hb] at h1;cases h1
 | map es ck t' h1 hm=>rw [hb] at h1;cases h1
 | iter b m seen h1 =>
  have r0:=h4 0 _ rfl
  have r1:=Rd_mb (h4 1 _ rfl)
  have r2:=h4 2 _ rfl
  simp only [Array.getD_eq_getD_getElem?] at r0 r1 r2
  have hb0:b=c.β d:=by
   have r0:Rd c (.mr d) (.map (some b)):=r0
   cases r0;rfl
  have hm:(m:Int)=n:=by
   have r2:Rd c (.v (.int .i64 n)) (.int .i64 m):=r2
   cases r2;rfl
  obtain rfl:m=n:=Int.ofNat.inj hm
  subst hb0
  refine ⟨seen,h2,?_⟩
  have:(seen.toList.map fun (s:Nat)=>Value.tuple #[.int .i64 (s:Int),.int .i64 0])=((sn l).map fun p=>Value.tuple #[p.1,p.2]):=by simpa using r1
  rw [sn,List.map_map] at this
  exact sn_inj this
theorem Good.drew {m : List (Nat × List AV)} {rn : Nat} {c : Gh} (G : Good E m rn c) : Good E m rn { c with w := c.w.drew } ∧ ∀ {x v}, Rd c x v → Rd { c with w := c.w.drew } x v := by
  have hkp : Keeps c.w c.S c.w.drew c.S := ⟨fun b o v hS hv => ⟨hS, hv⟩, fun b es ck hS hv => ⟨hS, hv⟩⟩
  have hk : ∀ {x v}, Rd c x v → Rd { c with w := c.w.drew } x v := fun h => h.keep (c' := { c with w := c.w.drew }) hkp rfl rfl rfl rfl
  refine ⟨?_, hk⟩
  exact { bl := G.bl, cg := G.cg, fr := grownL_of G.fr rfl rfl rfl (Nat.le_refl _) (fun _ _ _ => rfl), lx := G.lx, sx := G.sx, s1 := G.s1, sS := G.sS, sg := G.sg,
          box := fun d ls hl => by
            obtain ⟨cs, T, h1, h2, h3, h4, h5⟩ := G.box d ls hl
            exact ⟨cs, T, h1, h2, h3, fun j x hx => hk (h4 j x hx), h5⟩
          boxinj := G.boxinj, tok := G.tok, toktok := G.toktok, tokbox := G.tokbox, rk := G.rk }
theorem op_next (h : R E st a w) (x : Operand) (ho : o.op = .next x false) {i d : Nat} (hx : st.ev x = .mr i) (hib : bk i = 2) {l : List Nat} {tb : List (Value × Value)} (hi : lkm i st.m = some [.mr d, .mb (sn l), .v (.int .i64 tb.length)]) (hdb : bk d = 1) (hm : lkm d st.m = some [.mb tb]) {kd : Nat} (hks : mbOk kd tb = true) :
    ∃ v w', (execOp a.eval o).run E.P w = .ok (.value v) w' ∧
      (((∀ j, j < tb.length → j ∈ l) ∧ R E (st.put o.dst (.tup [.v (.bool false)])) (a.put o.dst v) w') ∨
       ∃ j p, tb[j]? = some p ∧ j ∉ l ∧ R E (St.put { st with m := repm i [.mr d, .mb (sn (l ++ [j])), .v (.int .i64 tb.length)] st.m } o.dst (.tup [.v (.bool true), keyA p.1, .v p.2])) (a.put o.dst v) w') := by
  obtain ⟨c, h1, h2, h3, h4, h5, h6⟩ := h.get x
  rw [hx] at h6
  have hev : a.eval x = .pointer (some ⟨c.β i, 0, none⟩) := by
    generalize a.eval x = u at h6
    cases h6 with
    | mr1 _ q => rw [hib] at q; cases q
    | mr2 _ q => rfl
  obtain ⟨es, clk, g1, g2⟩ := map_box (h2.box d _ hm) hdb
  obtain ⟨seen, g3, g4⟩ := iter_box (h2.box i _ hi) hib hdb
  obtain ⟨m1, m2, m3⟩ := g2
  have hsz : es.size = tb.length := by rw [← m3]; simp
  have hold : ∀ x ∈ es.toList, x.born < tb.length := fun x hx => by
    obtain ⟨n, hn, rfl⟩ := List.getElem_of_mem hx
    rw [m2 n _ (by rw [← Array.getElem?_toList]; exact List.getElem?_eq_getElem hn)]
    simpa [hsz] using hn
  rw [h1] at g1 g3
  have hclk : clk = tb.length := by rw [m1, hsz]
  have hx1 : ∀ v w', (Instr.next (.pointer (some ⟨c.β i, 0, none⟩)) false o.type).run E.P w = .ok v w' → (execOp a.eval o).run E.P w = .ok (.value v) w' := fun v w' hr => by
    unfold execOp; rw [ho]
    simp [hev, hr]
  rcases run_next_at (P := E.P) w o.type (c.β i) (c.β d) tb.length tb.length seen es clk g3 g1 hold (Nat.le_refl _) with ⟨q1, q2⟩ | ⟨e, he, w1, hw1, q2⟩
  · refine ⟨_, w, hx1 _ _ q2, .inl ⟨fun j hj => ?_, R.put h1 h2 h3 h4 h5 (.tup _ _ rfl fun k y hy => ?_)⟩⟩
    · have hje : j < es.size := by omega
      have h0 : leftOf es seen = #[] := Array.eq_empty_of_size_eq_zero q1
      unfold leftOf at h0
      rw [Array.filter_eq_empty_iff] at h0
      have h1 := h0 es[j] (Array.getElem_mem hje)
      rw [m2 j es[j] (Array.getElem?_eq_getElem hje)] at h1
      rw [← g4]
      simpa using h1
    · match k, hy with
      | 0, hy => obtain rfl := Option.some.inj hy; exact .v _ rfl
  · unfold leftOf at he
    simp only [Array.mem_toList_iff, Array.mem_filter] at he
    obtain ⟨he1, he2⟩ := he
    obtain ⟨j, hj, hje⟩ := Array.getElem_of_mem he1
    have hbj : e.born = j := by rw [← hje]; exact m2 j es[j] (Array.getElem?_eq_getElem hj)
    have htb : tb[j]? = some (e.key, e.val) := by
      rw [← m3, List.getElem?_map, Array.getElem?_toList, Array.getElem?_eq_getElem hj, hje]; rfl
    have hmem : (e.key, e.val) ∈ tb := List.mem_of_getElem? htb
    have hkv := List.all_eq_true.1 hks _ hmem
    simp only [Bool.and_eq_true] at hkv
    refine ⟨_, _, hx1 _ _ q2, .inr ⟨j, (e.key, e.val), htb, by rw [← g4]; rw [hbj] at he2; simpa using he2, ?_⟩⟩
    have K : BoxK i #[.map (some (c.β d)), .tuple ((seen.push e.born).toList.map fun (s : Nat) => Value.tuple #[.int .i64 s, .int .i64 0]).toArray, .int .i64 tb.length] (.mapIter (some (c.β d)) tb.length (seen.push e.born) clk) := by
      rw [hclk]; exact .iter _ _ _ _ hib
    have step : ∀ c1 : Gh, c1.w = w1 → c1.β = c.β → Good E st.m st.rn c1 → (∀ x, Rd c1 (lk x st.σ) (a.tmps.getD x undef)) → R E (St.put { st with m := repm i [.mr d, .mb (sn (l ++ [j])), .v (.int .i64 tb.length)] st.m } o.dst (.tup [.v (.bool true), keyA e.key, .v e.val])) (a.put o.dst (.tuple #[.bool true, e.key, e.val])) ({ w1 with heap := w1.heap.setIfInBounds (c.β i)  (.mapIter (some (c.β d)) tb.length (seen.push e.born) clk) }) := fun c1 w1e hβ G1 hs1 => by
      have hlt : c.β i < w1.heap.size := by
        have : c.β i < w.heap.size := (Array.getElem?_eq_some_iff.1 g3).1
        rcases hw1 with rfl | rfl
        · exact this
        · exact this
      have hkk : ∀ {cc : Gh}, Rd cc (.mb (sn (l ++ [j]))) (.tuple ((seen.push e.born).toList.map fun (s : Nat) => Value.tuple #[.int .i64 s, .int .i64 0]).toArray) := by
        intro cc
        have := Rd.mb (c := cc) (sn (l ++ [j]))
        rw [sn, List.map_map] at this
        rw [hbj, Array.toList_push, g4]
        exact this
      obtain ⟨G', hs'⟩ := R.setboxK (w' := { w1 with heap := w1.heap.setIfInBounds (c.β i) (.mapIter (some (c.β d)) tb.length (seen.push e.born) clk) }) (ls2 := [.mr d, .mb (sn (l ++ [j])), .v (.int .i64 tb.length)]) w1e G1 hs1 hi ⟨_, K⟩ rfl (fun k x hx => by
        match k, hx with
        | 0, hx => obtain rfl := Option.some.inj hx; have := Rd.mr1 (c := c1) d hdb; rw [hβ] at this; exact this
        | 1, hx => obtain rfl := Option.some.inj hx; exact hkk
        | 2, hx => obtain rfl := Option.some.inj hx; exact .v _ rfl) (by rw [hβ]; simp [hlt]) (by simp) rfl rfl rfl (fun k hk => by rw [hβ] at hk; simp [Ne.symm hk])
      have G2 : Good E (repm i [.mr d, .mb (sn (l ++ [j])), .v (.int .i64 tb.length)] st.m) st.rn _ := G'.congr (fun k => lkm_repm i k _ _ _ hi)
      refine R.put (st := { st with m := repm i [.mr d, .mb (sn (l ++ [j])), .v (.int .i64 tb.length)] st.m }) rfl G2 hs' h4 h5 (.tup _ _ rfl fun k y hy => ?_)
      match k, hy with
      | 0, hy => obtain rfl := Option.some.inj hy; exact .v _ rfl
      | 1, hy => obtain rfl := Option.some.inj hy; exact Rd_keyA hkv.1
      | 2, hy => obtain rfl := Option.some.inj hy; exact .v _ hkv.2
    rcases hw1 with rfl | rfl
    · exact step c h1 rfl h2 h3
    · subst h1
      exact step { c with w := c.w.drew } rfl rfl h2.drew.1 fun x => h2.drew.2 (h3 x)
theorem born_nodup:∀ (l:List MapEntry) (n:Nat),(∀ (i:Nat) (e:MapEntry),l[i]? = some e→e.born=n + i)→(l.map (·.born)).Nodup
 | [],_,_=>by simp
 | e::l,n,h=>by
  rw [List.map_cons,List.nodup_cons]
  refine ⟨fun hm=>?_,born_nodup l (n + 1) fun i e' he=>by
   have:=h (i + 1) e' (by simpa using he)
   omega⟩
  obtain ⟨e',he',hb⟩:=List.mem_map.1 hm
  obtain ⟨i,hi,rfl⟩:=List.getElem_of_mem he'
  have h1:=h 0 e rfl
  have h2:=h (i + 1) l[i] (by simp [hi])
  omega
theorem op_entry (h:R E st a w) (x:Operand) (ho:o.op = .entry x) {i d:Nat} (hx:st.ev x = .mr i) (hib:bk i=2) {l:List Nat} {j:Nat} {tb:List (Value × Value)} (hi:lkm i st.m=some [.mr d,.mb (sn (l++[j])),.v (.int .i64 tb.length)]) (hdb:bk d=1) (hm:lkm d st.m=some [.mb tb]) {kd:Nat} (hks:mbOk kd tb=true)
  {p:Value × Value} (hp:tb[j]? = some p):Yields E o (st.put o.dst (.tup [keyA p.1,.v p.2])) a w:=by
 obtain ⟨c,h1,h2,h3,h4,h5,h6⟩:=h.get x
 rw [hx] at h6
 have hev:a.eval x = .pointer (some ⟨c.β i,0,none⟩):=by
  generalize a.eval x=u at h6
  cases h6 with
  | mr1 _ q=>rw [hib] at q;cases q
  | mr2 _ q=>rfl
 obtain ⟨es,clk,g1,g2⟩:=map_box (h2.box d _ hm) hdb
 obtain ⟨seen,g3,g4⟩:=iter_box (h2.box i _ hi) hib hdb
 obtain ⟨m1,m2,m3⟩:=g2
 have hsz:es.size=tb.length:=by rw [← m3];simp
 have hj:j < es.size:=by rw [hsz];exact (List.getElem?_eq_some_iff.1 hp).1
 have hpe:p=(es[j].key,es[j].val):=by
  have:tb[j]? = some (es[j].key,es[j].val):=by
   rw [← m3,List.getElem?_map,Array.getElem?_toList,Array.getElem?_eq_getElem hj];rfl
  rw [hp] at this;exact Option.some.inj this
 have hbj:es[j].born=j:=m2 j es[j] (Array.getElem?_eq_getElem hj)
 have hclk:clk=tb.length:=by rw [m1,hsz]
 rw [h1] at g1 g3
 have hs:seen=l.toArray.push es[j].born:=by
  rw [hbj]
  exact Array.toList_inj.1 (by rw [g4];simp)
 have hr:=run_entry_at (P:=E.P) w (c.β i) (c.β d) tb.length l.toArray es clk es[j] (by rw [← hs,hclk];exact g3) g1 (by simp) (born_nodup es.toList 0 fun i e he=>by rw [m2 i e (by simpa using he)];omega)
 have hkv:=List.all_eq_true.1 hks _ (List.mem_of_getElem? hp)
 simp only [Bool.and_eq_true] at hkv
 rw [hpe] at hkv ⊢
 refine ⟨_,w,?_,R.put h1 h2 h3 h4 h5 (.tup _ #[es[j].key,es[j].val] rfl fun k y hy=>?_)⟩
 ·unfold execOp;rw [ho]
  simp [hev,hr]
 ·match k,hy with
  | 0,hy=>obtain rfl:=Option.some.inj hy;exact Rd_keyA hkv.1
  | 1,hy=>obtain rfl:=Option.some.inj hy;exact .v _ hkv.2
def unsn:List (Value × Value)→Option (List Nat)
 | []=>some []
 | (.int .i64 (.ofNat s),.int .i64 0)::t=>match unsn t with
  | some l=>some (s::l)
  | none=>none
 | _=>none
theorem unsn_sn:∀ l:List Nat,unsn (sn l)=some l
 | []=>rfl
 | s::l=>by
  show (match unsn (sn l) with | some l=>some (s::l) | none=>none)=_
  rw [unsn_sn l]
theorem unsn_ok {t:List (Value × Value)}:∀ {l:List Nat},unsn t=some l→t=sn l:=by
 induction t with
 | nil=>intro l h;obtain rfl:=Option.some.inj h;rfl
 | cons p t ih =>
  intro l h
  unfold unsn at h
  split at h
  ·rename_i e;cases e
  ·rename_i s t' e
   obtain ⟨rfl,rfl⟩:=List.cons.inj e
   split at h
   ·rename_i l' hl
    obtain rfl:=Option.some.inj h
    rw [ih hl];rfl
   ·cases h
  ·cases h
def itOf (st:St):AV→Option (Nat × Nat × List Nat × List (Value × Value))
 | .mr i=>match lkm i st.m with
  | some [.mr d,.mb s,.v (.int .i64 n)]=>match lkm d st.m,unsn s with
   | some [.mb t],some l=>if bk i=2∧bk d=1∧n=t.length then some (i,d,l,t) else none
   | _,_=>none
  | _=>none
 | _=>none
theorem itOf_ok {st:St} {y:AV} {i d:Nat} {l:List Nat} {t:List (Value × Value)} (h:itOf st y=some (i,d,l,t)):y = .mr i∧bk i=2∧bk d=1∧lkm i st.m=some [.mr d,.mb (sn l),.v (.int .i64 t.length)]∧lkm d st.m=some [.mb t]:=by
 unfold itOf at h
 split at h
 ·split at h
  ·rename_i hl
   split at h
   ·rename_i hm hs
    split at h
    ·rename_i hc
     simp only [Option.some.injEq,Prod.mk.injEq] at h
     obtain ⟨rfl,rfl,rfl,rfl⟩:=h
     obtain ⟨h1,h2,h3⟩:=hc
     rw [unsn_ok hs,h3] at hl
     exact ⟨rfl,h1,h2,hl,hm⟩
    ·cases h
   ·cases h
  ·cases h
 ·cases h
end Go.Eng
end
section
namespace Go.Eng
open Go Go.RowKit
structure DFn where
 g:List AV→Option (Prop × AV)
 own:Bool:=false
 inv:World→Prop:=fun _=>True
def DFn.con (d:DFn):Con:={ pre:=fun args=>∃ c r,d.g args=some (c,r)∧c,post:=fun args r=>∃ c,d.g args=some (c,r),own:=d.own,inv:=d.inv }
structure Tb where
 T:List (TypeId × TyI)
 G:List (FuncId × Con)
 D:List (FuncId × DFn)
 draws:Bool
 lent:Bool:=false
 gl:List (Nat × Value):=[]
 M:List ((TypeId × String) × FuncId):=[]
 MM:List (FuncId × (ConM × List (Nat × Nat) × List (Nat × Nat))):=[]
 X:List Nat:=[]
 EX:List (FuncId × ExG):=[]
 ln:Option (List Nat):=none
def gk (f:FuncId):List (FuncId × Con)→Option Con
 | []=>none
 | (u,i)::l=>if f=u then some i else gk f l
def dk (f:FuncId):List (FuncId × DFn)→Option DFn
 | []=>none
 | (u,i)::l=>if f=u then some i else dk f l
def MsOk (P:Program) (M:List ((TypeId × String) × FuncId)):Prop:=∀ p ∈ M,∀ v w,(Go.method (P.types.size + Made.depth) p.1.1 v p.1.2).run P w = .ok (p.2,v) w
theorem ms_nil {P:Program}:MsOk P []:=fun p hp=>by cases hp
def mk (t:TypeId):List ((TypeId × String) × FuncId)→Option (String × FuncId)
 | []=>none
 | ((u,s),f)::l=>if t=u then some (s,f) else mk t l
theorem mk_mem {t:TypeId} {n:String} {f:FuncId}:∀ {l:List ((TypeId × String) × FuncId)},mk t l=some (n,f)→((t,n),f) ∈ l
 | [],h=>by cases h
 | ((u,s),i)::l,h=>by
  simp only [mk] at h
  split at h
  ·rename_i e;subst e
   obtain ⟨rfl,rfl⟩:=Prod.mk.inj (Option.some.inj h)
   simp
  ·exact List.mem_cons_of_mem _ (mk_mem h)
structure TbOk (E:En) (tb:Tb):Prop where
 T:TysOk E.P tb.T
 G:∀ p ∈ tb.G,Callable E.P p.1∧Valid E.P p.1 p.2
 D:∀ p ∈ tb.D,Callable E.P p.1∧Valid E.P p.1 p.2.con
 iG:∀ p ∈ tb.G,∀ w,GrownL E.w0 w (if E.draws then some E.g else none) E.L→p.2.inv w
 iD:∀ p ∈ tb.D,∀ w,GrownL E.w0 w (if E.draws then some E.g else none) E.L→p.2.inv w
 dr:E.draws=tb.draws
 gl:∀ p ∈ tb.gl,p.2.oneCell'=true∧∀ w,GrownL E.w0 w (if E.draws then some E.g else none) E.L→w.cell? ⟨p.1,0,none⟩=some p.2
 nl:tb.lent=false→∀ b,¬ E.L b
 mx:E.P.follows .mixedOrders=true
 M:MsOk E.P tb.M
 MM:∀ p ∈ tb.MM,(Callable E.P p.1∧ValidM E.P p.1 p.2.1)∧okN p.2.2.1 p.2.2.2∧∀ w,GrownL E.w0 w (if E.draws then some E.g else none) E.L→p.2.1.inv w
 EX:∀ p ∈ tb.EX,ExtOk E.P p.1 p.2
 ln:∀ l,tb.ln=some l→∀ b,E.L b→∃ d ∈ l,1000≤d∧E.b0 d=b
def frzOk (tb:Tb) (d:Nat) (m:List (Nat × List AV)):Prop:=match tb.ln with
 | none=>tb.lent=false
 | some l=>(l.all fun k=>decide (k≠d) && (lkm k m).isSome)=true
theorem frzOk_ok {E:En} {tb:Tb} (hE:TbOk E tb) {d:Nat} {st:St} {ls:List AV} (hl:lkm d st.m=some ls) (h:frzOk tb d st.m):∀ c,Good E st.m st.rn c→¬ E.L (c.β d):=fun c G hb=>by
 unfold frzOk at h
 split at h
 ·exact hE.nl h _ hb
 ·rename_i l e
  obtain ⟨k,hk,h1,h2⟩:=hE.ln l e _ hb
  have:=List.all_eq_true.1 h k hk
  simp only [Bool.and_eq_true,decide_eq_true_eq] at this
  obtain ⟨ls',hl'⟩:=Option.isSome_iff_exists.1 this.2
  exact this.1 (G.boxinj k d ls' ls hl' hl ((G.bl k h1).trans h2))
def mmk (f:FuncId):List (FuncId × (ConM × List (Nat × Nat) × List (Nat × Nat)))→Option (ConM × List (Nat × Nat) × List (Nat × Nat))
 | []=>none
 | (u,i)::l=>if f=u then some i else mmk f l
theorem mmk_mem {f:FuncId} {x}:∀ {l:List (FuncId × (ConM × List (Nat × Nat) × List (Nat × Nat)))},mmk f l=some x→(f,x) ∈ l
 | [],h=>by cases h
 | (u,i)::l,h=>by
  simp only [mmk] at h
  split at h
  ·rename_i e;subst e;obtain rfl:=Option.some.inj h;simp
  ·exact List.mem_cons_of_mem _ (mmk_mem h)
def exk (f:FuncId):List (FuncId × ExG)→Option ExG
 | []=>none
 | (u,i)::l=>if f=u then some i else exk f l
theorem exk_mem {f:FuncId} {x}:∀ {l:List (FuncId × ExG)},exk f l=some x→(f,x) ∈ l
 | [],h=>by cases h
 | (u,i)::l,h=>by
  simp only [exk] at h
  split at h
  ·rename_i e;subst e;obtain rfl:=Option.some.inj h;simp
  ·exact List.mem_cons_of_mem _ (exk_mem h)
theorem TbOk.get {E:En} {tb:Tb} (h:TbOk E tb) {f:FuncId} {C:Con} (hf:gk f tb.G=some C):(Callable E.P f∧Valid E.P f C)∧∀ w,GrownL E.w0 w (if E.draws then some E.g else none) E.L→C.inv w:=by
 have:∀ l:List (FuncId × Con),gk f l=some C→(f,C) ∈ l:=by
  intro l
  induction l with
  | nil=>intro h;simp [gk] at h
  | cons p l ih =>
   intro h
   obtain ⟨u,k⟩:=p
   simp only [gk] at h
   split at h
   ·rename_i e;subst e;obtain rfl:=Option.some.inj h;simp
   ·simp [ih h]
 exact ⟨h.G (f,C) (this _ hf),h.iG (f,C) (this _ hf)⟩
theorem TbOk.det {E:En} {tb:Tb} (h:TbOk E tb) {f:FuncId} {d:DFn} (hf:dk f tb.D=some d):(Callable E.P f∧Valid E.P f d.con)∧∀ w,GrownL E.w0 w (if E.draws then some E.g else none) E.L→d.inv w:=by
 have:∀ l:List (FuncId × DFn),dk f l=some d→(f,d) ∈ l:=by
  intro l
  induction l with
  | nil=>intro h;simp [dk] at h
  | cons p l ih =>
   intro h
   obtain ⟨u,k⟩:=p
   simp only [dk] at h
   split at h
   ·rename_i e;subst e;obtain rfl:=Option.some.inj h;simp
   ·simp [ih h]
 exact ⟨h.D (f,d) (this _ hf),h.iD (f,d) (this _ hf)⟩
def elt (T:List (TypeId × TyI)) (t:TypeId):Option (TypeId × TyI) :=
 match tyk t T with
 | some i=>match i.elem with
  | some e=>match tyk e T with
   | some ie=>some (e,ie)
   | none=>none
  | none=>none
 | none=>none
theorem elt_ok {P:Program} {T:List (TypeId × TyI)} (hT:TysOk P T) {t e:TypeId} {ie:TyI} (h:elt T t=some (e,ie)):∃ i,TyOk P t i∧i.elem=some e∧TyOk P e ie:=by
 unfold elt at h
 split at h
 ·rename_i i hi
  split at h
  ·rename_i e' he
   split at h
   ·rename_i ie' hie
    obtain ⟨rfl,rfl⟩:=Prod.mk.inj (Option.some.inj h)
    exact ⟨i,hT.get hi,he,hT.get hie⟩
   ·cases h
  ·cases h
 ·cases h
def fld (T:List (TypeId × TyI)) (t:TypeId) (k:Nat):Option (Nat × TyI) :=
 match tyk t T with
 | some i=>match i.fields[k]? with
  | some (off,ft)=>match tyk ft T with
   | some fi=>some (off,fi)
   | none=>none
  | none=>none
 | none=>none
theorem fld_ok {P:Program} {T:List (TypeId × TyI)} (hT:TysOk P T) {t:TypeId} {k off:Nat} {fi:TyI} (h:fld T t k=some (off,fi)):∃ i ft,TyOk P t i∧i.fields[k]? = some (off,ft)∧TyOk P ft fi:=by
 unfold fld at h
 split at h
 ·rename_i i hi
  split at h
  ·rename_i off' ft hf
   split at h
   ·rename_i fi' hfi
    obtain ⟨rfl,rfl⟩:=Prod.mk.inj (Option.some.inj h)
    exact ⟨i,ft,hT.get hi,hf,hT.get hfi⟩
   ·cases h
  ·cases h
 ·cases h
def pickA (t:Bool) (x y:AV):AV :=
 match x,y with
 | .v (.bool p),.v (.bool q)=>.v (.bool (bif t then p else q))
 | x,y=>bif t then x else y
theorem pickA_eq (t:Bool) (x y:AV):pickA t x y=if t then x else y:=by
 unfold pickA
 split<;>cases t<;>rfl
def isbT (T:List (TypeId × TyI)) (t:TypeId):Bool:=match tyk t T with | some i=>i.isb | none=>false
def eq3T (T:List (TypeId × TyI)) (t:TypeId):Bool:=match tyk t T with | some i=>i.eq3 | none=>false
def eq2T (T:List (TypeId × TyI)) (t:TypeId):Bool:=match tyk t T with | some i=>i.eq2 | none=>false
def ifcT (T:List (TypeId × TyI)) (t:TypeId):Bool:=match tyk t T with | some i=>i.ifc | none=>false
theorem ifcT_ok {P:Program} {T:List (TypeId × TyI)} (hT:TysOk P T) {t:TypeId} (h:ifcT T t=true):isIf P t:=by
 unfold ifcT at h
 split at h
 ·rename_i i hi;exact (hT.get hi).fc h
 ·cases h
def nilV:AV→Option Bool
 | .v .nilIface=>some true
 | .v (.iface _ _)=>some false
 | .dv (.ifc _ _)=>some false
 | _=>none
def nilR (op:BinOp) (b:Bool):Option Bool:=match op with | .eql=>some b | .neq=>some (!b) | _=>none
def issT (T:List (TypeId × TyI)) (t:TypeId):Bool:=match tyk t T with | some i=>i.iss | none=>false
theorem issT_ok {P:Program} {T:List (TypeId × TyI)} (hT:TysOk P T) {t:TypeId} (h:issT T t=true):P.underlying t=some .string:=by
 unfold issT at h
 split at h
 ·rename_i i hi;exact (hT.get hi).ss h
 ·cases h
theorem isbT_ok {P:Program} {T:List (TypeId × TyI)} (hT:TysOk P T) {t:TypeId} (h:isbT T t=true):P.underlying t=some .bool:=by
 unfold isbT at h
 split at h
 ·rename_i i hi;exact (hT.get hi).bl h
 ·cases h
def bnd (ev:Operand→AV):Option Operand→Option Int→Option Int
 | none,d=>d
 | some y,_=>match ev y with
  | .v (.int _ n)=>some n
  | _=>none
def ld (i:TyI) (ls:List AV):Option (Prop × AV) :=
 match ldL i ls with
 | some r=>some ((i.agg=false→i.size=1)∧0 < i.size,r)
 | none=>none
def glk (g:Nat):List (Nat × Value)→Option Value
 | []=>none
 | (u,i)::l=>if g=u then some i else glk g l
theorem glk_mem {g:Nat} {v:Value}:∀ {l:List (Nat × Value)},glk g l=some v→(g,v) ∈ l
 | [],h=>by cases h
 | (u,i)::l,h=>by
  simp only [glk] at h
  split at h
  ·rename_i e;subst e;obtain rfl:=Option.some.inj h;simp
  ·exact List.mem_cons_of_mem _ (glk_mem h)
def ptrN:AV→Option Bool
 | .loc _ _=>some false
 | .el _=>some false
 | .rd=>some false
 | .v (.pointer none)=>some true
 | .v (.pointer (some _))=>some false
 | _=>none
theorem ptrN_ok {c:Gh} {x:AV} {v:Value} {b:Bool} (h:Rd c x v) (hb:ptrN x=some b):∃ p:Option Addr,v = .pointer p∧p.isNone=b:=by
 unfold ptrN at hb
 split at hb
 all_goals cases hb
 all_goals
  cases h
  exact ⟨_,rfl,rfl⟩
theorem op_ptrnil {E:En} {o:Oper} {st:St} {a:Act} {w:World} (h:R E st a w) {op:BinOp} {t t':TypeId} {x:Operand} (ho:o.op = .binOp op t x (.const (.pointer none)) t') {i:TyI} (ht:TyOk E.P t i) (hp:i.ptr=true) {b r:Bool} (hb:ptrN (st.ev x)=some b) (hr:nilR op b=some r) :
  Yields E o (st.put o.dst (.v (.bool r))) a w:=by
 obtain ⟨c,h1,h2,h3,h4,h5,h6⟩:=h.get x
 obtain ⟨p,hv,hpb⟩:=ptrN_ok h6 hb
 obtain ⟨e,he⟩:=ht.pr hp
 have hh:E.P.underlying t=some (.pointer (E.P.pointee t)):=by simp [Program.pointee,he]
 have e2:a.eval (.const (.pointer none)) = .pointer none:=rfl
 have hcase:(op = .eql∧r=b)∨(op = .neq∧r = !b):=by
  unfold nilR at hr
  split at hr
  ·left;exact ⟨rfl,(Option.some.inj hr).symm⟩
  ·right;exact ⟨rfl,(Option.some.inj hr).symm⟩
  ·cases hr
 subst hpb
 rcases hcase with ⟨rfl,rfl⟩ | ⟨rfl,rfl⟩
 ·refine ⟨_,w,?_,R.put h1 h2 h3 h4 h5 (.v (.bool p.isNone) rfl)⟩
  unfold execOp;rw [ho]
  simp only [hv,e2,eqGuard_at_pointer,Sem.run_bind,Sem.run_pure,Result.andThen_ok,run_eql_pointer_nil w t p hh]
 ·refine ⟨_,w,?_,R.put h1 h2 h3 h4 h5 (.v (.bool (!p.isNone)) rfl)⟩
  unfold execOp;rw [ho]
  simp only [hv,e2,eqGuard_at_pointer,Sem.run_bind,Sem.run_pure,Result.andThen_ok,run_neq_pointer_nil w t p hh]
def mpT (T:List (TypeId × TyI)) (t:TypeId):Option (Nat × Value):=match tyk t T with
 | some i=>i.mp
 | none=>none
theorem mpT_ok {P:Program} {T:List (TypeId × TyI)} (hT:TysOk P T) {t:TypeId} {kd:Nat} {z:Value} (h:mpT T t=some (kd,z)):MpTy P t kd z:=by
 unfold mpT at h
 split at h
 ·rename_i i hi;exact (hT.get hi).mpk kd z h
 ·cases h
def dop (T:List (TypeId × TyI)) (gl:List (Nat × Value)) (op:Op) (ev:Operand→AV) (m:Nat→Option (List AV)):Option (Prop × AV) :=
 match op with
 | .move x=>some (True,ev x)
 | .assign x=>some (True,ev x)
 | .pick c x y=>match ev c with
  | .v (.bool t)=>some (True,pickA t (ev x) (ev y))
  | _=>none
 | .binOp op t x (.const .nilIface) _=>match nilV (ev x) with
  | some b=>match nilR op b with
   | some r=>some (ifcT T t=true,.v (.bool r))
   | none=>none
  | none=>none
 | .binOp op t x (.const (.pointer none)) _=>match ptrN (ev x),tyk t T with
  | some b,some i=>match nilR op b with
   | some r=>some (i.ptr=true,.v (.bool r))
   | none=>none
  | _,_=>none
 | .binOp op t x y _=>match ev x,ev y with
  | .v a,.v b=>some (binC op (isbT T t) a b,.v (binR op a b))
  | .agg [.v (.int .i64 p),.v (.int .i64 q)],.agg [.v (.int .i64 r),.v (.int .i64 s)]=>match op with
   | .eql=>some (eq2T T t=true,.v (.bool (p == r && q == s)))
   | .neq=>some (eq2T T t=true,.v (.bool (!(p == r && q == s))))
   | _=>none
  | .agg [.v (.int .i64 p),.v (.int .i64 q),.v (.int .i64 u)],.agg [.v (.int .i64 r),.v (.int .i64 s),.v (.int .i64 v)]=>match op with
   | .eql=>some (eq3T T t=true,.v (.bool ((p == r && q == s) && u == v)))
   | .neq=>some (eq3T T t=true,.v (.bool (!((p == r && q == s) && u == v))))
   | _=>none
  | _,_=>none
 | .unOp .not _ x=>match ev x with
  | .v (.bool b)=>some (True,.v (.bool !b))
  | _=>none
 | .unOp .neg _ x=>match ev x with
  | .v (.int .i64 n)=>some (-9223372036854775807≤n∧n≤9223372036854775807,.v (.int .i64 (-n)))
  | _=>none
 | .convert s t x=>match ev x with
  | .v (.int _ n)=>match tyk s T,tyk t T with
   | some _,some i=>match i.ik with
    | some k=>some (True,.v (.int k (k.wrap n)))
    | none=>none
   | _,_=>none
  | y=>match y.els,elt T s with
   | some els,some (_,ie)=>match bytesL els with
    | some xs=>some (ie.ik=some .u8∧issT T t=true,.v (.string (strOfNums xs)))
    | none=>none
   | _,_=>none
 | .nilCheck x=>match ev x with
  | .loc d off=>some (True,.loc d off)
  | .el ls=>some (True,.el ls)
  | .rd=>some (True,.rd)
  | _=>none
 | .fieldAddr t x k=>match ev x,fld T t k with
  | .loc d o,some (off,fi)=>some (0 < fi.size,.loc d (o + off))
  | .el ls,some (off,fi)=>some (0 < fi.size,.el (ls.drop off))
  | _,_=>none
 | .field t x k=>match ev x,fld T t k with
  | .agg ls,some (off,fi)=>ld fi (ls.drop off)
  | _,_=>none
 | .extract x k=>match ev x with
  | .tup ls=>match ls[k]? with
   | some r=>some (True,r)
   | none=>none
  | _=>none
 | .indexAddr t x y=>match ev x with
  | .xs k off len cap sz=>match ev y,elt T t with
   | .v (.int _ n),some (_,ie)=>some (0≤n∧n < len∧sz=ie.size,.loc k (off + n.toNat * sz))
   | _,_=>none
  | z=>match z.els,ev y,elt T t with
   | some els,.v (.int _ n),some (_,ie)=>match els[n.toNat]? with
    | some row=>some (0≤n∧row.length=ie.size,.el row)
    | none=>none
   | _,_,_=>none
 | .index t x y=>match ev x,ev y with
  | .v (.string s),.v (.int _ n)=>some (0≤n∧n.toNat < s.size∧issT T t=true,.v (.int .u8 (s.data.getD n.toNat 0).toNat))
  | _,_=>none
 | .slice t x lo hi none=>match ev x with
  | .v (.string s)=>match bnd ev lo (some 0),bnd ev hi (some (s.size:Int)) with
   | some l,some u=>some (0≤l∧l≤u∧u≤(s.size:Int)∧issT T t=true,.v (.string (s.extract l.toNat u.toNat)))
   | _,_=>none
  | .nl=>match elt T t,bnd ev lo (some 0),bnd ev hi (some 0) with
   | some _,some l,some u=>some (l=0∧u=0,.nl)
   | _,_,_=>none
  | .xs k off len cap sz=>match elt T t,bnd ev lo (some 0),bnd ev hi (some (len:Int)) with
   | some (_,ie),some l,some u=>some (0≤l∧l≤u∧u≤cap∧sz=ie.size,.xs k (if cap=l.toNat then off else off + l.toNat * sz) (u.toNat - l.toNat) (cap - l.toNat) sz)
   | _,_,_=>none
  | z=>match z.els,elt T t with
   | some els,some (_,ie)=>match bnd ev lo (some 0),bnd ev hi (some els.length) with
    | some l,some u=>some (0≤l∧l≤u∧u≤els.length∧∀ row ∈ els,row.length=ie.size,.sl none ((els.take u.toNat).drop l.toNat))
    | _,_=>none
   | _,_=>none
 | .load t x=>match ev x,tyk t T with
  | .loc d off,some i=>match m d with
   | some ls=>ld i (ls.drop off)
   | none=>none
  | .el ls,some i=>ld i (ls.map DV.toAV)
  | .v (.pointer (some ⟨g,0,none⟩)),some i=>match glk g gl with
   | some u=>some (i.size=1∧i.agg=false,.v u)
   | none=>none
  | _,_=>none
 | .makeInterface t x=>match ifcA t (ev x),tyk t T with
  | some y,some i=>some (i.np=true,y)
  | _,_=>none
 | .build t parts=>match tyk t T with
  | some i=>match fldSizes T i.fields,partsE ev parts.toList with
   | some fl,some ps=>match fillL (fun k=>fl[k]?) (i.zero.map leafOf) ps with
    | some rs=>some (i.fields≠[],.agg rs)
    | none=>none
   | _,_=>none
  | none=>none
 | .lookup t x ix ck=>match mpT T t,mapD m (ev x),keyAV (ev ix) with
  | some (kd,z),some tb,some k=>some (mbK kd tb=true∧isKey kd k=true,resK kd ck z (fndT kd k tb))
  | _,_,_=>none
 | .call c=>match c.callee with
  | .builtin .len=>match c.args.toList,c.argTypes.toList with
   | [x],[t]=>match ev x with
    | .v (.string s)=>some (issT T t=true,.v (.int .i64 s.size))
    | .xs _ _ n _ _=>match elt T t with
     | some _=>some (True,.v (.int .i64 n))
     | none=>none
    | y=>match y.els,elt T t with
     | some els,some _=>some (True,.v (.int .i64 els.length))
     | _,_=>none
   | _,_=>none
  | .builtin .cap=>match c.args.toList,c.argTypes.toList with
   | [x],[t]=>match ev x with
    | .nl=>match elt T t with
     | some _=>some (True,.v (.int .i64 0))
     | none=>none
    | .xs _ _ _ cap _=>match elt T t with
     | some _=>some (True,.v (.int .i64 cap))
     | none=>none
    | _=>none
   | _,_=>none
  | _=>none
 | .slice t x (some lo) (some hi) (some mx)=>match ev x with
  | .xs k off len cap sz=>match elt T t,bnd ev (some lo) (some 0),bnd ev (some hi) (some (len:Int)),bnd ev (some mx) (some (cap:Int)) with
   | some (_,ie),some l,some u,some m=>some ((0≤l∧l≤u)∧(u≤m∧m≤cap)∧sz=ie.size,.xs k (if m.toNat=l.toNat then off else off + l.toNat * sz) (u.toNat - l.toNat) (m.toNat - l.toNat) sz)
   | _,_,_,_=>none
  | _=>none
 | _=>none
where
 partsE (ev:Operand→AV):List (Nat × Operand)→Option (List (Nat × List AV))
 | []=>some []
 | (k,x)::l=>match (ev x).leaves,partsE ev l with
  | some ls,some r=>some ((k,ls)::r)
  | _,_=>none
theorem hgl_of {E:En} {tb:Tb} (hE:TbOk E tb) {st:St} {a:Act} {w:World} (h:R E st a w):∀ p ∈ tb.gl,p.2.oneCell'=true∧w.cell? ⟨p.1,0,none⟩=some p.2:=fun p hp=>by
 obtain ⟨c,rfl,G,_⟩:=h
 exact ⟨(hE.gl p hp).1,(hE.gl p hp).2 _ G.fr⟩
theorem partsE_eq (st:St):∀ l,dop.partsE st.ev l=partsL st l
 | []=>rfl
 | (k,x)::l=>by simp only [dop.partsE,partsL,partsE_eq st l]<;>rfl
theorem arr1 {α:Type} {a:Array α} {x:α} (h:a.toList=[x]):a = #[x]:=by
 apply Array.ext';simpa using h
section
variable {E:En} {st:St} {a:Act} {w:World} {o:Oper}
theorem ld_ok {i:TyI} {ls:List AV} {c:Prop} {r:AV} (h:ld i ls=some (c,r)) (hc:c):ldL i ls=some r∧(i.agg=false→i.size=1)∧0 < i.size:=by
 unfold ld at h
 split at h
 ·rename_i r' hr
  obtain ⟨rfl,rfl⟩:=Prod.mk.inj (Option.some.inj h)
  exact ⟨hr,hc.1,hc.2⟩
 ·cases h
theorem bnd_ok {st:St} {y:Option Operand} {d:Int} {n:Int} (h:bnd st.ev y (some d)=some n):BndOk st y d n:=by
 cases y with
 | none=>exact (Option.some.inj h).symm
 | some y =>
  simp only [bnd] at h
  split at h
  ·rename_i k n' he
   obtain rfl:=Option.some.inj h
   exact ⟨k,he⟩
  ·cases h
theorem dop_ok (h:R E st a w) {T:List (TypeId × TyI)} (hT:TysOk E.P T) {gl:List (Nat × Value)} (hgl:∀ p ∈ gl,p.2.oneCell'=true∧w.cell? ⟨p.1,0,none⟩=some p.2) {c:Prop} {r:AV} (hd:dop T gl o.op st.ev (fun k=>lkm k st.m)=some (c,r)) (hc:c):Yields E o (st.put o.dst r) a w:=by
 unfold dop at hd
 split at hd
 case h_1 x ho=>obtain ⟨rfl,rfl⟩:=Prod.mk.inj (Option.some.inj hd);exact op_move h x (.inl ho)
 case h_2 x ho=>obtain ⟨rfl,rfl⟩:=Prod.mk.inj (Option.some.inj hd);exact op_move h x (.inr ho)
 case h_3 c x y ho =>
  split at hd
  ·rename_i t hx
   obtain ⟨rfl,rfl⟩:=Prod.mk.inj (Option.some.inj hd)
   rw [pickA_eq]
   exact op_pick h c x y ho hx
  ·cases hd
 case h_4 op t x t' ho =>
  split at hd
  ·rename_i b hx
   split at hd
   ·rename_i r hr
    obtain ⟨rfl,rfl⟩:=Prod.mk.inj (Option.some.inj hd)
    refine op_nil h op t t' x ho (ifcT_ok hT hc) (b:=b) ?_ ?_
    ·unfold nilV at hx
     split at hx
     ·rename_i e;obtain rfl:=Option.some.inj hx;exact .inl ⟨e,rfl⟩
     ·rename_i d u e;obtain rfl:=Option.some.inj hx;exact .inr ⟨.inl ⟨d,u,e⟩,rfl⟩
     ·rename_i d u e;obtain rfl:=Option.some.inj hx;exact .inr ⟨.inr ⟨d,u,e⟩,rfl⟩
     ·cases hx
    ·unfold nilR at hr
     split at hr
     ·obtain rfl:=Option.some.inj hr;exact .inl ⟨rfl,rfl⟩
     ·obtain rfl:=Option.some.inj hr;exact .inr ⟨rfl,rfl⟩
     ·cases hr
   ·cases hd
  ·cases hd
 case h_5 op t x t' ho =>
  split at hd
  ·rename_i b i hb hi
   split at hd
   ·rename_i r hr
    obtain ⟨rfl,rfl⟩:=Prod.mk.inj (Option.some.inj hd)
    exact op_ptrnil h ho (hT.get hi) hc hb hr
   ·cases hd
  ·cases hd
 case h_6 op t x y t' hne hne2 ho =>
  split at hd
  ·rename_i u v hx hy
   obtain ⟨rfl,rfl⟩:=Prod.mk.inj (Option.some.inj hd)
   exact op_bin h op t t' x y ho (fun e=>isbT_ok hT e) hx hy hc
  ·rename_i p q r' s hx hy
   split at hd
   ·obtain ⟨rfl,rfl⟩:=Prod.mk.inj (Option.some.inj hd)
    unfold eq2T at hc
    split at hc
    ·rename_i i hi;exact op_eq2 h false t t' x y ho (hT.get hi) hc hx hy
    ·cases hc
   ·obtain ⟨rfl,rfl⟩:=Prod.mk.inj (Option.some.inj hd)
    unfold eq2T at hc
    split at hc
    ·rename_i i hi;exact op_eq2 h true t t' x y ho (hT.get hi) hc hx hy
    ·cases hc
   ·cases hd
  ·rename_i p q u r' s v hx hy
   split at hd
   ·obtain ⟨rfl,rfl⟩:=Prod.mk.inj (Option.some.inj hd)
    unfold eq3T at hc
    split at hc
    ·rename_i i hi;exact op_eq3 h false t t' x y ho (hT.get hi) hc hx hy
    ·cases hc
   ·obtain ⟨rfl,rfl⟩:=Prod.mk.inj (Option.some.inj hd)
    unfold eq3T at hc
    split at hc
    ·rename_i i hi;exact op_eq3 h true t t' x y ho (hT.get hi) hc hx hy
    ·cases hc
   ·cases hd
  ·cases hd
 case h_7 t x ho =>
  split at hd
  ·rename_i b hx
   obtain ⟨rfl,rfl⟩:=Prod.mk.inj (Option.some.inj hd)
   exact op_not h t x ho hx
  ·cases hd
 case h_8 t x ho =>
  split at hd
  ·rename_i n hx
   obtain ⟨rfl,rfl⟩:=Prod.mk.inj (Option.some.inj hd)
   exact op_neg h t x ho hx hc
  ·cases hd
 case h_9 s t x ho =>
  split at hd
  ·rename_i k n hx
   split at hd
   ·rename_i j i hs hi
    split at hd
    ·rename_i k' hk
     obtain ⟨rfl,rfl⟩:=Prod.mk.inj (Option.some.inj hd)
     exact op_conv h s t x ho (hT.get hs) (hT.get hi) hk hx
    ·cases hd
   ·cases hd
  ·split at hd
   ·rename_i els e ie hx he
    split at hd
    ·rename_i xs hb
     obtain ⟨rfl,rfl⟩:=Prod.mk.inj (Option.some.inj hd)
     obtain ⟨i,h1,h2,h3⟩:=elt_ok hT he
     exact op_convBytes h s t x ho h1 h2 h3 hc.1 (issT_ok hT hc.2) hx hb
    ·cases hd
   ·cases hd
 case h_10 x ho =>
  split at hd
  ·rename_i d off hx
   obtain ⟨rfl,rfl⟩:=Prod.mk.inj (Option.some.inj hd)
   exact op_nilCheck h x ho hx (.inl ⟨_,_,rfl⟩)
  ·rename_i ls hx
   obtain ⟨rfl,rfl⟩:=Prod.mk.inj (Option.some.inj hd)
   exact op_nilCheck h x ho hx (.inr (.inl ⟨_,rfl⟩))
  ·rename_i hx
   obtain ⟨rfl,rfl⟩:=Prod.mk.inj (Option.some.inj hd)
   exact op_nilCheck h x ho hx (.inr (.inr rfl))
  ·cases hd
 case h_11 t x k ho =>
  split at hd
  ·rename_i d o' off fi hx hf
   obtain ⟨rfl,rfl⟩:=Prod.mk.inj (Option.some.inj hd)
   obtain ⟨i,ft,h1,h2,h3⟩:=fld_ok hT hf
   exact op_fieldAddr h t x k ho h1 h2 h3 hc hx
  ·rename_i ls off fi hx hf
   obtain ⟨rfl,rfl⟩:=Prod.mk.inj (Option.some.inj hd)
   obtain ⟨i,ft,h1,h2,h3⟩:=fld_ok hT hf
   exact op_fieldAddr_el h t x k ho h1 h2 h3 hc hx
  ·cases hd
 case h_12 t x k ho =>
  split at hd
  ·rename_i ls off fi hx hf
   obtain ⟨h4,h5,h6⟩:=ld_ok hd hc
   obtain ⟨i,ft,h1,h2,h3⟩:=fld_ok hT hf
   exact op_field h t x k ho h1 h2 h3 h5 hx h4 h6
  ·cases hd
 case h_13 x k ho =>
  split at hd
  ·rename_i ls hx
   split at hd
   ·rename_i r' hr
    obtain ⟨rfl,rfl⟩:=Prod.mk.inj (Option.some.inj hd)
    exact op_extract h x k ho hx hr
   ·cases hd
  ·cases hd
 case h_14 t x y ho =>
  split at hd
  ·rename_i k off len cap sz hx
   split at hd
   ·rename_i kd n e ie hy he
    obtain ⟨rfl,rfl⟩:=Prod.mk.inj (Option.some.inj hd)
    obtain ⟨i,h1,h2,h3⟩:=elt_ok hT he
    exact op_indexAddr_xs h t x y ho h1 h2 h3 hx hy hc.1 hc.2.1 hc.2.2
   ·cases hd
  split at hd
  ·rename_i els k n e ie hx hy he
   split at hd
   ·rename_i row hrow
    obtain ⟨rfl,rfl⟩:=Prod.mk.inj (Option.some.inj hd)
    obtain ⟨i,h1,h2,h3⟩:=elt_ok hT he
    exact op_indexAddr h t x y ho h1 h2 h3 hx hy hc.1 hrow hc.2
   ·cases hd
  ·cases hd
 case h_15 t x y ho =>
  split at hd
  ·rename_i s k n hx hy
   obtain ⟨rfl,rfl⟩:=Prod.mk.inj (Option.some.inj hd)
   have:=op_index_str h t x y ho (issT_ok hT hc.2.2) hx hy hc.1 hc.2.1
   rw [show s.data.getD n.toNat 0=s[n.toNat]'hc.2.1 from by
    have hlt:n.toNat < s.data.size:=hc.2.1
    simp only [Array.getD,hlt,dif_pos];rfl]
   exact this
  ·cases hd
 case h_16 t x lo hi ho =>
  split at hd
  ·rename_i s hx
   split at hd
   ·rename_i l u hl hu
    obtain ⟨rfl,rfl⟩:=Prod.mk.inj (Option.some.inj hd)
    exact op_slice_str h t x lo hi ho (issT_ok hT hc.2.2.2) hx (bnd_ok hl) (bnd_ok hu) hc.1 hc.2.1 hc.2.2.1
   ·cases hd
  ·rename_i hx
   split at hd
   ·rename_i p l u he hl hu
    obtain ⟨rfl,rfl⟩:=Prod.mk.inj (Option.some.inj hd)
    obtain ⟨e,ie⟩:=p
    obtain ⟨i,h1,h2,h3⟩:=elt_ok hT he
    exact op_slice_nl h t x lo hi ho h1 h2 h3 hx (bnd_ok hl) (bnd_ok hu) hc.1 hc.2
   ·cases hd
  ·rename_i k off len cap sz hx
   split at hd
   ·rename_i e ie l u he hl hu
    obtain ⟨rfl,rfl⟩:=Prod.mk.inj (Option.some.inj hd)
    obtain ⟨i,h1,h2,h3⟩:=elt_ok hT he
    exact op_slice_xs h t x lo hi ho h1 h2 h3 hx (bnd_ok hl) (bnd_ok hu) hc.1 hc.2.1 hc.2.2.1 hc.2.2.2
   ·cases hd
  ·split at hd
   ·rename_i els e ie hx he
    split at hd
    ·rename_i l u hl hu
     obtain ⟨rfl,rfl⟩:=Prod.mk.inj (Option.some.inj hd)
     obtain ⟨i,h1,h2,h3⟩:=elt_ok hT he
     exact op_slice h t x lo hi ho h1 h2 h3 hx (bnd_ok hl) (bnd_ok hu) hc.1 hc.2.1 hc.2.2.1 hc.2.2.2
    ·cases hd
   ·cases hd
 case h_17 t x ho =>
  split at hd
  ·rename_i d off i hx hi
   split at hd
   ·rename_i ls hl
    obtain ⟨h4,h5,h6⟩:=ld_ok hd hc
    exact op_load_box h t x ho (hT.get hi) h5 h6 hx hl h4
   ·cases hd
  ·rename_i ls i hx hi
   obtain ⟨h4,h5,h6⟩:=ld_ok hd hc
   exact op_load_el h t x ho (hT.get hi) h5 h6 hx h4
  ·rename_i g i hx hi
   split at hd
   ·rename_i u hu
    obtain ⟨rfl,rfl⟩:=Prod.mk.inj (Option.some.inj hd)
    obtain ⟨q1,q2⟩:=hgl _ (glk_mem hu)
    exact op_load_gl h t x ho (hT.get hi) hc.1 hx q1 q2 hc.2
   ·cases hd
  ·cases hd
 case h_18 t x ho =>
  split at hd
  ·rename_i y i hy hi
   obtain ⟨rfl,rfl⟩:=Prod.mk.inj (Option.some.inj hd)
   exact op_makeIface h t x ho (hT.get hi) hc hy
  ·cases hd
 case h_19 t parts ho =>
  split at hd
  ·rename_i i hi
   split at hd
   ·rename_i fl ps hf hp
    split at hd
    ·rename_i rs hrs
     obtain ⟨rfl,rfl⟩:=Prod.mk.inj (Option.some.inj hd)
     rw [partsE_eq] at hp
     exact op_build h t parts ho hT (hT.get hi) hc hf hp hrs
    ·cases hd
   ·cases hd
  ·cases hd
 case h_20 t x ix ck ho =>
  split at hd
  ·rename_i kd z tb k h1 h2 h3
   obtain ⟨rfl,rfl⟩:=Prod.mk.inj (Option.some.inj hd)
   exact op_lookupM h t x ix ck ho (mpT_ok hT h1) h2 hc.1 h3 hc.2
  ·cases hd
 case h_21 cl ho =>
  split at hd
  ·rename_i hcl
   split at hd
   ·rename_i x t hx ht
    obtain ⟨callee,args,ats⟩:=cl
    simp only at hcl hx ht
    subst hcl
    have e1:=arr1 hx
    have e2:=arr1 ht
    subst e1;subst e2
    split at hd
    ·rename_i s hs
     obtain ⟨rfl,rfl⟩:=Prod.mk.inj (Option.some.inj hd)
     exact op_len_str h t x ho (issT_ok hT hc) hs
    ·rename_i k off n cap sz hs
     split at hd
     ·rename_i p hp
      obtain ⟨rfl,rfl⟩:=Prod.mk.inj (Option.some.inj hd)
      obtain ⟨e,ie⟩:=p
      obtain ⟨i,h1,h2,h3⟩:=elt_ok hT hp
      exact op_len_xs h t x ho h1 h2 hs
     ·cases hd
    ·split at hd
     ·rename_i els p hels hp
      obtain ⟨rfl,rfl⟩:=Prod.mk.inj (Option.some.inj hd)
      obtain ⟨e,ie⟩:=p
      obtain ⟨i,h1,h2,h3⟩:=elt_ok hT hp
      exact op_len h t x ho h1 h2 hels
     ·cases hd
   ·cases hd
  ·rename_i hcl
   split at hd
   ·rename_i x t hx ht
    obtain ⟨callee,args,ats⟩:=cl
    simp only at hcl hx ht
    subst hcl
    have e1:=arr1 hx
    have e2:=arr1 ht
    subst e1;subst e2
    split at hd
    ·rename_i hs
     split at hd
     ·rename_i p hp
      obtain ⟨rfl,rfl⟩:=Prod.mk.inj (Option.some.inj hd)
      obtain ⟨e,ie⟩:=p
      obtain ⟨i,h1,h2,h3⟩:=elt_ok hT hp
      exact op_cap_nl h t x ho h1 h2 hs
     ·cases hd
    ·rename_i k off n cap sz hs
     split at hd
     ·rename_i p hp
      obtain ⟨rfl,rfl⟩:=Prod.mk.inj (Option.some.inj hd)
      obtain ⟨e,ie⟩:=p
      obtain ⟨i,h1,h2,h3⟩:=elt_ok hT hp
      exact op_cap_xs h t x ho h1 h2 hs
     ·cases hd
    ·cases hd
   ·cases hd
  ·cases hd
 case h_22 t x lo hi mx ho =>
  split at hd
  ·rename_i k off len cap sz hx
   split at hd
   ·rename_i e ie l u m he hl hu hm
    obtain ⟨rfl,rfl⟩:=Prod.mk.inj (Option.some.inj hd)
    obtain ⟨i,h1,h2,h3⟩:=elt_ok hT he
    exact op_slice3_xs h t x lo hi mx ho h1 h2 h3 hx (bnd_ok hl) (bnd_ok hu) (bnd_ok hm) hc.1.1 hc.1.2 hc.2.1.1 hc.2.1.2 hc.2.2
   ·cases hd
  ·cases hd
 case h_23=>cases hd
end
def AV.isLeaf:AV→Bool
 | .agg _ | .tup _ | .junk | .mb _=>false
 | _=>true
def allLeaf:List AV→Bool
 | []=>true
 | x::l=>x.isLeaf && allLeaf l
theorem allLeaf_ok {xs:List AV} (h:allLeaf xs=true):∀ z ∈ xs,(∀ l,z≠.agg l)∧z.leaves.isSome=true:=by
 induction xs with
 | nil=>intro z hz;cases hz
 | cons x xs ih =>
  simp only [allLeaf,Bool.and_eq_true] at h
  intro z hz
  rcases List.mem_cons.1 hz with rfl | hz
  ·cases z<;>simp_all [AV.isLeaf,AV.leaves]
  ·exact ih h.2 z hz
def fnOf:AV→Option FuncId
 | .v (.func (.func f) a b)=>if a.size=0∧b.size=0 then some f else none
 | _=>none
theorem fnOf_ok {x:AV} {f:FuncId} (h:fnOf x=some f):x = .v (.func (.func f) #[] #[]):=by
 unfold fnOf at h
 split at h
 ·rename_i f' a b
  split at h
  ·rename_i hs
   obtain rfl:=Option.some.inj h
   rw [Array.eq_empty_of_size_eq_zero hs.1,Array.eq_empty_of_size_eq_zero hs.2]
  ·cases h
 ·cases h
def argsE (st:St):List Operand→List AV
 | []=>[]
 | x::l=>(st.ev x).er::argsE st l
theorem argsE_eq (st:St) (l:List Operand):argsE st l=l.map fun x=>(st.ev x).er:=by
 induction l with
 | nil=>rfl
 | cons x l ih=>simp [argsE,ih]
def ownOf (d:Nat) (e:TypeId):AV→Option (Nat × List (List DV))
 | .nl=>some (d,[])
 | .sl (some (s,_,e')) els=>if e=e' then some (s,els) else none
 | _=>none
def callA (tb:Tb) (f:FuncId) (ys:List AV) (st:St) (dst:Option Nat) (K:St→Prop):Prop :=
 match dk f tb.D with
 | some d=>match d.g ys with
  | some (c,r)=>c∧K (st.called dst d.con r)
  | none=>False
 | none=>match gk f tb.G with
  | some C=>(C.draws=true→tb.draws=true∧st.rn + C.cost≤lim)∧C.pre ys∧∀ r,C.post ys r→K (st.called dst C r)
  | none=>False
theorem callA_ok {E:En} {tb:Tb} (hE:TbOk E tb) {f:FuncId} {ys:List AV} {st:St} {dst:Option Nat} {K:St→Prop} (h:callA tb f ys st dst K) :
  ∃ C,Callable E.P f∧Valid E.P f C∧(∀ w,GrownL E.w0 w (if E.draws then some E.g else none) E.L→C.inv w)∧(C.draws=true→E.draws=true)∧C.pre ys∧(C.draws=true→st.rn + C.cost≤lim)∧∀ r,C.post ys r→K (st.called dst C r):=by
 unfold callA at h
 split at h
 ·rename_i d hd
  split at h
  ·rename_i c r hg
   obtain ⟨⟨g1,g2⟩,g3⟩:=hE.det hd
   refine ⟨d.con,g1,g2,g3,fun e=>(by cases e),⟨c,r,hg,h.1⟩,fun e=>(by cases e),fun r' ⟨c2,hr⟩=>?_⟩
   rw [hg] at hr
   obtain ⟨_,rfl⟩:=Prod.mk.inj (Option.some.inj hr)
   exact h.2
  ·exact h.elim
 split at h
 ·rename_i C hC
  obtain ⟨h1,h2,h3⟩:=h
  obtain ⟨⟨g1,g2⟩,g3⟩:=hE.get hC
  exact ⟨C,g1,g2,g3,fun e=>by rw [hE.dr];exact (h1 e).1,h2,fun e=>(h1 e).2,h3⟩
 ·exact h.elim
theorem callA_mono {tb:Tb} {f:FuncId} {ys:List AV} {st:St} {dst:Option Nat} {K K':St→Prop} (hk:∀ st',K st'→K' st') (h:callA tb f ys st dst K):callA tb f ys st dst K':=by
 unfold callA at *
 repeat' split at h
 all_goals (try exact h.elim)
 all_goals (try (simp only [*,-h]))
 all_goals first
  | exact ⟨h.1,hk _ h.2⟩
  | exact ⟨h.1,h.2.1,fun r hr=>hk _ (h.2.2 r hr)⟩
def memO (X:List Nat):Option Nat→Bool
 | some d=>X.contains d
 | none=>false
def evA (st:St):List Operand→List AV
 | []=>[]
 | x::l=>st.ev x::evA st l
theorem evA_eq (st:St) (l:List Operand):evA st l=l.map st.ev:=by
 induction l with
 | nil=>rfl
 | cons x l ih=>simp [evA,ih]
def xsOf:AV→Option (Nat × Nat × Nat × Nat × Nat)
 | .xs k off n cap sz=>some (k,off,n,cap,sz)
 | _=>none
theorem xsOf_ok {x:AV} {k off n cap sz:Nat} (h:xsOf x=some (k,off,n,cap,sz)):x = .xs k off n cap sz:=by
 unfold xsOf at h
 split at h
 ·simp only [Option.some.injEq,Prod.mk.injEq] at h
  obtain ⟨rfl,rfl,rfl,rfl,rfl⟩:=h;rfl
 ·cases h
def srcL (m:List (Nat × List AV)) (sz:Nat):AV→Option (Prop × Nat × List AV)
 | .xs k2 off2 n2 _ sz2=>match lkm k2 m with
  | some ls2=>some (sz2=sz∧off2 + n2 * sz≤ls2.length,n2,ls2.drop off2)
  | none=>none
 | y=>match y.els with
  | some ys=>some (∀ row ∈ ys,row.length=sz,ys.length,flatA ys)
  | none=>none
theorem srcL_ok {st:St} {sz:Nat} {y:Operand} {c1:Prop} {m:Nat} {srcA:List AV} (h:srcL st.m sz (st.ev y)=some (c1,m,srcA)) (hc:c1):SrcOk st sz y m srcA:=by
 unfold srcL at h
 split at h
 ·rename_i k2 off2 n2 cap2 sz2 hy
  split at h
  ·rename_i ls2 hl2
   simp only [Option.some.injEq,Prod.mk.injEq] at h
   obtain ⟨rfl,rfl,rfl⟩:=h
   obtain ⟨rfl,q5⟩:=hc
   exact .inr ⟨k2,off2,cap2,ls2,hy,hl2,rfl,q5⟩
  ·cases h
 ·split at h
  ·rename_i ys hys
   simp only [Option.some.injEq,Prod.mk.injEq] at h
   obtain ⟨rfl,rfl,rfl⟩:=h
   exact .inl ⟨ys,hys,hc,rfl,rfl⟩
  ·cases h
def callM (C:ConM) (ρ φ:List (Nat × Nat)) (args:List AV) (st:St) (dst:Option Nat) (K:St→Prop):Prop :=
 match lentM (fun k=>nlkR k ρ) st.m ρ with
 | some m1=>C.pre args m1∧∀ r m2,C.post args m1 r m2→K (st.calledM ρ φ m2 r dst)
 | none=>False
theorem callM_mono {C:ConM} {ρ φ:List (Nat × Nat)} {args:List AV} {st:St} {dst:Option Nat} {K K':St→Prop} (hk:∀ st',K st'→K' st') (h:callM C ρ φ args st dst K):callM C ρ φ args st dst K':=by
 unfold callM at *
 split at h
 ·exact ⟨h.1,fun r m2 hr=>hk _ (h.2 r m2 hr)⟩
 ·exact h.elim
def rhoA (n:Nat):List AV→List (Nat × Nat)
 | []=>[]
 | x::l=>match x with
  | .xs k _ _ _ _=>(n,k)::rhoA (n + 1) l
  | .loc k _=>(n,k)::rhoA (n + 1) l
  | .mr k=>(n + 1000,k)::rhoA (n + 1) l
  | .agg [_,_,.xs k _ _ _ _]=>(n,k)::rhoA (n + 1) l
  | _=>rhoA n l
def shf (n:Nat):List (Nat × Nat)→List (Nat × Nat)
 | []=>[]
 | (a,b)::l=>(a,b + n)::shf n l
def dN:Option Nat→Nat | some d=>d | none=>0
def rhoS (m:List (Nat × List AV)):Nat→Nat→List AV→List (Nat × Nat)→List (Nat × Nat)
 | 0,_,_,ρ=>ρ
 | _,_,[],ρ=>ρ
 | f + 1,n,x::l,ρ=>match x with
  | .loc k _=>match hasR k ρ with
   | true=>rhoS m f n l ρ
   | false=>match lkm k m with
    | some ls=>rhoS m f (n + 1) (l++ls) (ρ++[(n,k)])
    | none=>rhoS m f n l ρ
  | .xs k _ _ _ _=>match hasR k ρ with
   | true=>rhoS m f n l ρ
   | false=>match lkm k m with
    | some ls=>rhoS m f (n + 1) (l++ls) (ρ++[(n,k)])
    | none=>rhoS m f n l ρ
  | .mr k=>match hasR k ρ with
   | true=>rhoS m f n l ρ
   | false=>match lkm k m with
    | some ls=>rhoS m f (n + 1) (l++ls) (ρ++[(n + 1000,k)])
    | none=>rhoS m f n l ρ
  | .cl _ _ l2=>rhoS m f n (l2++l) ρ
  | _=>rhoS m f n l ρ
def rhoC (ρ0:List (Nat × Nat)) (m:List (Nat × List AV)) (args:List AV):List (Nat × Nat) :=
 match ρ0 with
 | []=>rhoA 1000 args
 | _=>rhoS m 80 1000 args []
def callR (C:ConM) (ρ0 φ:List (Nat × Nat)) (args:List AV) (st:St) (dst:Option Nat) (K:St→Prop):Prop :=
 okN (rhoC ρ0 st.m args) (shf (dN dst) φ)∧callM C (rhoC ρ0 st.m args) (shf (dN dst) φ) (args.map fun x=>x.mvn fun k=>nlkR k (rhoC ρ0 st.m args)) st dst K
theorem callR_mono {C:ConM} {ρ0 φ:List (Nat × Nat)} {args:List AV} {st:St} {dst:Option Nat} {K K':St→Prop} (hk:∀ st',K st'→K' st') (h:callR C ρ0 φ args st dst K):callR C ρ0 φ args st dst K':=⟨h.1,callM_mono hk h.2⟩
def nilS:AV→Option (Bool→Prop)
 | .nl=>some fun b=>b=true
 | .xs _ _ _ _ _=>some fun b=>b=false
 | .sl _ els=>some fun b=>els≠[]→b=false
 | _=>none
theorem op_slnil {E:En} {o:Oper} {st:St} {a:Act} {w:World} (h:R E st a w) (op:BinOp) (t t' e:TypeId) (x:Operand) (ho:o.op = .binOp op t x (.const (.slice none 0 0)) t') (ht:E.P.underlying t=some (.slice e)) {q:Bool→Prop} (hq:nilS (st.ev x)=some q)
  (hop:(nilR op true).isSome=true):∃ b r,q b∧nilR op b=some r∧Yields E o (st.put o.dst (.v (.bool r))) a w:=by
 obtain ⟨c,h1,h2,h3,h4,h5,h6⟩:=h.get x
 have key:∃ p n k,a.eval x = .slice p n k∧q p.isNone:=by
  unfold nilS at hq
  split at hq
  ·rename_i hx
   obtain rfl:=Option.some.inj hq
   rw [hx] at h6;generalize a.eval x=z at h6 ⊢;cases h6
   exact ⟨none,0,0,rfl,rfl⟩
  ·rename_i hx
   obtain rfl:=Option.some.inj hq
   rw [hx] at h6;generalize a.eval x=z at h6 ⊢;cases h6
   exact ⟨_,_,_,rfl,rfl⟩
  ·rename_i hx
   obtain rfl:=Option.some.inj hq
   rw [hx] at h6;generalize a.eval x=z at h6 ⊢
   cases h6 with
   | sl _ _ _ hd _=>cases hd with
    | nil=>exact ⟨none,0,0,rfl,fun hn=>absurd rfl hn⟩
    | em=>exact ⟨_,_,_,rfl,fun _=>rfl⟩
    | sl=>exact ⟨_,_,_,rfl,fun _=>rfl⟩
  ·cases hq
 obtain ⟨p,n,k,hv,hp⟩:=key
 have e2:a.eval (.const (.slice none 0 0)) = .slice none 0 0:=rfl
 have q1:=run_equal_slice_nil (P:=E.P) w t e p n k ht
 have b1:binOp .eql t (.slice p n k) (.slice none 0 0)=(do pure (.bool (← Op.equal t (.slice p n k) (.slice none 0 0)))):=rfl
 have b2:binOp .neq t (.slice p n k) (.slice none 0 0)=(do pure (.bool (!(← Op.equal t (.slice p n k) (.slice none 0 0))))):=rfl
 have hcase:(op = .eql∧nilR op p.isNone=some p.isNone)∨(op = .neq∧nilR op p.isNone=some (!p.isNone)):=by
  cases op<;>simp_all [nilR]
 rcases hcase with ⟨rfl,hr⟩ | ⟨rfl,hr⟩
 ·refine ⟨_,_,hp,hr,_,w,?_,R.put h1 h2 h3 h4 h5 (.v (.bool p.isNone) rfl)⟩
  unfold execOp;rw [ho]
  simp only [hv,e2,eqGuard_at_slice,b1,Sem.run_bind,Sem.run_pure,Result.andThen_ok,q1]
 ·refine ⟨_,_,hp,hr,_,w,?_,R.put h1 h2 h3 h4 h5 (.v (.bool (!p.isNone)) rfl)⟩
  unfold execOp;rw [ho]
  simp only [hv,e2,eqGuard_at_slice,b2,Sem.run_bind,Sem.run_pure,Result.andThen_ok,q1]
theorem op_append_nl {E : En} {o : Oper} {st : St} {a : Act} {w : World} (h : R E st a w) (d : Nat) (hdl : d < 920) (hd : o.dst = some d) (t : TypeId) (x y : Operand) (ho : o.op = .call { callee := .builtin .append, args := #[x, y], argTypes := #[t, t] }) {i ie : TyI} (ht : TyOk E.P t i) {e : TypeId} (he : i.elem = some e) (hte : TyOk E.P e ie)
    (hx : st.ev x = .nl) {sz m : Nat} {srcA : List AV} (hy : SrcOk st sz y m srcA) (hleaf : ∀ z ∈ srcA.take (m * sz), (∀ l, z ≠ .agg l) ∧ z.leaves.isSome = true) (hsz : sz = ie.size) (hm : 0 < m) (hlen : m ≤ 4294967296)
    {next : Act → World → Prop} {Q : Exit → Act → World → Prop}
    (hr2 : ∀ cap', m ≤ cap' → ∀ a' w', R E (St.put { (st.stripL d) with m := (d, AV.stripLAll d (srcA.take (m * sz) ++ List.replicate ((cap' - m) * sz) .junk)) :: (st.stripL d).m } (some d) (.xs d 0 m cap' sz)) a' w' → next a' w') :
    o.wp E.P a w next Q := by
  have h0 := h
  obtain ⟨c, h1, h2, h3, h4, h5, h6⟩ := h.get x
  have hv : a.eval x = .slice none 0 0 := by rw [hx] at h6; generalize a.eval x = u at h6; cases h6; rfl
  obtain ⟨q, z, dd, g1, g2, g3, g4, g5, g6, g7, g8⟩ := hte.inf
  have hqs : q.size = sz := by omega
  have hzs : z.cells.size = q.size := by rw [g5, g2]
  have hbytes : m * q.bytes ≤ 140737488355328 := by
    have := Nat.mul_le_mul hlen g6; omega
  have fin : ∀ v' w', (Builtin.append_ #[t, t] o.type #[a.eval x, a.eval y]).run E.P w = .ok v' w' → next (a.put o.dst v') w' → o.wp E.P a w next Q := fun v' w' hr hn => by
    unfold Oper.wp
    have : (execOp a.eval o).run E.P w = .ok (.value v') w' := by
      unfold execOp; rw [ho]
      simp [resolve, invoke, BigFrame.builtin_append, hr]
    rw [this]; exact hn
  rcases src_vals h2 h3 hy hleaf with ⟨rfl, rfl, hyv⟩ | ⟨ya, ycap, news, hyv, hnl, hflen, hnc', hone, hnr⟩
  · omega
  · have hr := run_append_nil (P := E.P) w t o.type e q z (ht.el e he) g1 g3 ya m ycap news (by rw [hqs]; exact hnl) (fun j u hu => by rw [← h1]; exact hnc' j u hu) hm (by omega) (by omega)
    have hge := grownCap_ge w m 0 e
    refine fin _ _ (by rw [hv, hyv]; exact hr) ?_
    rw [hd]
    refine hr2 (grownCap w m 0 e) hge _ _ ?_
    have hkd : Keeps c.w c.S w.drew c.S := by subst h1; exact Keeps.same (fun _ _ h => h) fun _ _ _ => rfl
    have h2' : Good E st.m st.rn { c with w := w.drew } := by
      subst h1
      have hk : ∀ {x v}, Rd c x v → Rd { c with w := c.w.drew } x v := fun h => h.keep (c' := { c with w := c.w.drew }) hkd rfl rfl rfl rfl
      exact { bl := h2.bl, cg := h2.cg, fr := grownL_of h2.fr rfl rfl rfl (Nat.le_refl _) (fun _ _ _ => rfl), lx := h2.lx, sx := h2.sx, s1 := h2.s1, sS := h2.sS, sg := h2.sg,
              box := fun d ls hl => by
                obtain ⟨cs, T, h1, h2, h3, h4, h5⟩ := h2.box d ls hl
                exact ⟨cs, T, h1, h2, h3, fun j x hx => hk (h4 j x hx), h5⟩
              boxinj := h2.boxinj, tok := h2.tok, toktok := h2.toktok, tokbox := h2.tokbox, rk := h2.rk }
    have hk : ∀ {x v}, Rd c x v → Rd { c with w := w.drew } x v := fun h => h.keep (c' := { c with w := w.drew }) hkd rfl rfl rfl rfl
    refine R.newboxG (c := { c with w := w.drew }) rfl h2' (fun x => hk (h3 x)) h4 h5 d hdl _ _ e ?_ (fun j x hx => ?_) _ _ (fun c' h => by rw [show w.heap.size = c'.β d from h.symm]; exact .xs d 0 _ _ sz hge (bk_lt hdl))
    · simp only [Array.size_append, List.size_toArray, size_zeroCells, hzs, List.length_append, List.length_replicate, hnl, hqs, hflen]
    · rw [Array.getD_eq_getD_getElem?, ← Array.getElem?_toList]
      simp only [Array.toList_append] at hx ⊢
      by_cases hj2 : j < m * sz
      · rw [List.getElem?_append_left (by rw [hflen]; exact hj2)] at hx
        rw [List.getElem?_append_left (by rw [hnl]; exact hj2)]
        have hnn := List.getElem?_eq_getElem (l := news) (i := j) (by rw [hnl]; exact hj2)
        rw [hnn]
        exact hk (hnr _ x _ hx hnn)
      · rw [List.getElem?_append_right (by rw [hflen]; omega)] at hx
        obtain ⟨_, rfl⟩ := List.getElem?_eq_some_iff.1 hx
        simp only [List.getElem_replicate]
        exact .junk _

def memN (d:Nat):List Nat→Bool
 | []=>false
 | x::l=>if d=x then true else memN d l
def isNlX (x:AV) (dst:Option Nat) (X:List Nat):Bool:=match x with
 | .nl=>(match dst with | some d=>memN d X | none=>false)
 | _=>false
theorem isNlX_ok {x:AV} {dst:Option Nat} {X:List Nat} (h:isNlX x dst X=true):x = .nl:=by
 unfold isNlX at h
 split at h
 ·rfl
 ·cases h
def isEmpB (T:List (TypeId × TyI)) (t:TypeId):List (Nat × Operand)→Bool
 | []=>match tyk t T with
  | some i=>i.emp
  | none=>false
 | _=>false
def mapOf (st:St):AV→Option (Nat × List (Value × Value))
 | .mr d=>match lkm d st.m with
  | some [.mb t]=>some (d,t)
  | _=>none
 | _=>none
theorem mapOf_ok {st:St} {y:AV} {d:Nat} {t:List (Value × Value)} (h:mapOf st y=some (d,t)):y = .mr d∧lkm d st.m=some [.mb t]:=by
 unfold mapOf at h
 split at h
 ·split at h
  ·rename_i hl
   obtain ⟨rfl,rfl⟩:=Prod.mk.inj (Option.some.inj h)
   exact ⟨rfl,hl⟩
  ·cases h
 ·cases h
def lastE (l:List Nat) (t:List (Value × Value)):Option (Value × Value):=match l.getLast? with
 | some j=>t[j]?
 | none=>none
theorem lastE_ok {l:List Nat} {t:List (Value × Value)} {p:Value × Value} (h:lastE l t=some p):∃ l' j,l=l'++[j]∧t[j]? = some p:=by
 unfold lastE at h
 split at h
 ·rename_i j hj
  obtain ⟨l',rfl⟩:=List.getLast?_eq_some_iff.1 hj
  exact ⟨l',j,rfl,h⟩
 ·cases h
theorem lastE_snoc (l:List Nat) (j:Nat) (t:List (Value × Value)):lastE (l++[j]) t=t[j]? := by
 unfold lastE;rw [List.getLast?_concat]
def stp (tb : Tb) (o : Oper) (st : St) (K : St → Prop) : Prop :=
  match o.op with
  | .alloc t => match o.dst, tyk t tb.T with
    | some d, some i => d < 920 ∧ K (newbox st d (i.zero.map leafOf))
    | _, _ => False
  | .box _ x => match o.dst, (st.ev x).leaves with
    | some d, some ls => d < 920 ∧ K (newbox st d ls)
    | _, _ => False
  | .store t x y => match o.dst, st.ev x, tyk t tb.T, (st.ev y).leaves with
    | none, .loc d off, some i, some xs => match lkm d st.m with
      | some ls => (xs.length = i.size ∧ off + xs.length ≤ ls.length ∧ allLeaf xs = true) ∧ K { st with m := repm d (setL ls off xs) st.m }
      | none => False
    | _, _, _, _ => False
  | .buildSlice t n parts => match o.dst, elt tb.T t, dop.partsE st.ev parts.toList with
    | some d, some (e, ie), some ps => match fillL (fun k => some (k * ie.size, ie.size)) (List.replicate (n * ie.size) .junk) ps with
      | some rs => match tb.X.contains d with
       | true => (0 < ie.size ∧ n * ie.size ≤ 16777216 ∧ d < 920) ∧ K (St.put { (st.stripL d) with m := (d, AV.stripLAll d rs) :: (st.stripL d).m } (some d) (.xs d 0 n n ie.size))
       | false => match DV.ofAll rs with
        | some ys => (0 < ie.size ∧ n * ie.size ≤ 16777216) ∧ K ((st.strip d).put (some d) (.sl (some (d, 0, e)) (chunks ie.size n ys)))
        | none => False
      | none => False
    | _, _, _ => False
  | .makeInterface t x => match st.ev x with
    | .loc d off => match lkm d st.m, tyk t tb.T with
      | some ls, some i => match DV.ofAll ls with
        | some ys => (frzOk tb d st.m ∧ i.np = true) ∧ K ((st.frz d ys).put o.dst (.dv (.ifc t (.ptr (ys.drop off)))))
        | none => False
      | _, _ => False
    | _ => match dop tb.T tb.gl o.op st.ev (fun k => lkm k st.m) with
      | some (c, r) => c ∧ K (st.put o.dst r)
      | none => False
  | .makeFunc (.func f) first caps => match memO tb.X o.dst with
   | true => (match first.toList, caps.toList with
    | x :: l, [] => K (st.put o.dst (.cl f true (evA st (x :: l))))
    | [], _ => K (st.put o.dst (.cl f false (evA st caps.toList)))
    | _, _ => False)
   | false => match first.toList, frzC caps.toList st with
    | [], some st' => match capsL st'.ev caps.toList with
      | some r => tb.lent = false ∧ K (st'.put o.dst (.dv (.fn f r)))
      | none => False
    | _, _ => False
  | .makeSlice t x y => match o.dst, elt tb.T t, st.ev x, st.ev y with
    | some d, some (e, ie), .v (.int _ n), .v (.int _ m) => match tb.X.contains d with
      | true => ((0 ≤ n ∧ n ≤ m) ∧ m ≤ 4294967296 ∧ d < 920) ∧ K (St.put { (st.stripL d) with m := (d, AV.stripLAll d (List.replicate m.toNat (ie.zero.map leafOf)).flatten) :: (st.stripL d).m } (some d) (.xs d 0 n.toNat m.toNat ie.size))
      | false => ((0 ≤ n ∧ n ≤ m) ∧ m ≤ 4294967296 ∧ (ie.zero.all fun u => u.oneCell') = true) ∧ K ((st.strip d).put (some d) (.sl (some (d, 0, e)) (List.replicate n.toNat (ie.zero.map zeroD))))
    | _, _, _, _ => False
  | .call c => match c.callee with
    | .builtin .append => match c.args.toList, c.argTypes.toList with
      | [x, y], [t, t'] => match xsOf (st.ev x) with
       | some (k, off, n, cap, sz) => match o.dst, elt tb.T t, lkm k st.m with
        | some d, some (e, ie), some ls => match st.ev y with
          | .v (.int _ z) => match tyk t' tb.T with
            | some it => ((0 ≤ z ∧ it.ik.isSome = true ∧ d < 920) ∧ sz = ie.size ∧ 0 < sz ∧ n + z.toNat ≤ 4294967296 ∧ cap < n + z.toNat ∧ off + n * sz ≤ ls.length) ∧ ∀ cap', n + z.toNat ≤ cap' → K (St.put { (st.stripL d) with m := (d, AV.stripLAll d ((ls.drop off).take (n * sz) ++ List.replicate ((cap' - n) * sz) .junk)) :: (st.stripL d).m } (some d) (.xs d 0 (n + z.toNat) cap' sz))
            | none => False
          | y' => match srcL st.m sz y' with
            | some (c1, m, srcA) => ((t = t' ∧ d < 920) ∧ c1 ∧ sz = ie.size ∧ n + m ≤ 4294967296 ∧ off + cap * sz ≤ ls.length ∧ allLeaf (srcA.take (m * sz)) = true) ∧ (n + m ≤ cap → K (St.put { st with m := repm k (setL ls (off + n * sz) (srcA.take (m * sz))) st.m } (some d) (.xs k off (n + m) cap sz))) ∧
                (cap < n + m → ∀ cap', n + m ≤ cap' → K (St.put { (st.stripL d) with m := (d, AV.stripLAll d ((ls.drop off).take (n * sz) ++ srcA.take (m * sz) ++ List.replicate ((cap' - (n + m)) * sz) .junk)) :: (st.stripL d).m } (some d) (.xs d 0 (n + m) cap' sz)))
            | none => False
        | _, _, _ => False
       | none => match isNlX (st.ev x) o.dst tb.X with
        | true => (match o.dst, elt tb.T t with
         | some d, some (_, ie) => match st.ev y with
          | .v (.int _ z) => (match tyk t' tb.T with
           | some it => ((0 < z ∧ it.ik.isSome = true ∧ d < 920) ∧ 0 < ie.size ∧ z.toNat ≤ 4294967296) ∧ ∀ cap', z.toNat ≤ cap' → K (St.put { (st.stripL d) with m := (d, AV.stripLAll d (List.replicate (cap' * ie.size) .junk)) :: (st.stripL d).m } (some d) (.xs d 0 z.toNat cap' ie.size))
           | none => False)
          | y' => match srcL st.m ie.size y' with
          | some (c1, m, srcA) => ((t = t' ∧ d < 920) ∧ c1 ∧ 0 < m ∧ m ≤ 4294967296 ∧ allLeaf (srcA.take (m * ie.size)) = true) ∧ ∀ cap', m ≤ cap' → K (St.put { (st.stripL d) with m := (d, AV.stripLAll d (srcA.take (m * ie.size) ++ List.replicate ((cap' - m) * ie.size) .junk)) :: (st.stripL d).m } (some d) (.xs d 0 m cap' ie.size))
          | none => False
         | _, _ => False)
        | false => match o.dst, elt tb.T t with
        | some d, some (e, ie) => match ownOf d e (st.ev x), (st.ev y).els with
          | some (s, els), some ys => (t = t' ∧ (∀ row ∈ els ++ ys, row.length = ie.size) ∧ els.length + ys.length ≤ 4294967296) ∧ K ((st.strip2 s d).put (some d) (.sl (some (d, 0, e)) (els ++ ys)))
          | _, _ => False
        | _, _ => False
      | _, _ => False
    | .builtin .copy => match c.args.toList, c.argTypes.toList with
      | [x, y], [t, _] => match st.ev x, elt tb.T t with
        | .xs k off n _ sz, some (_, ie) => match lkm k st.m with
          | some ls => match srcL st.m sz (st.ev y) with
            | some (c1, m, srcA) => (c1 ∧ sz = ie.size ∧ off + (min m n) * sz ≤ ls.length ∧ allLeaf (srcA.take ((min m n) * sz)) = true) ∧ K (St.put { st with m := repm k (setL ls off (srcA.take ((min m n) * sz))) st.m } o.dst (.v (.int .i64 (min m n : Nat))))
            | none => False
          | none => False
        | _, _ => False
      | _, _ => False
    | .builtin .clear => match c.args.toList, c.argTypes.toList with
      | [x], [t] => match st.ev x, elt tb.T t with
        | .xs k off n _ sz, some (_, ie) => match lkm k st.m with
          | some ls => (sz = ie.size ∧ off + n * sz ≤ ls.length ∧ (ie.zero.all fun u => u.oneCell') = true) ∧ K (St.put { st with m := repm k (setL ls off (List.replicate n (ie.zero.map leafOf)).flatten) st.m } o.dst (.tup []))
          | none => False
        | _, _ => False
      | _, _ => False
    | .value fo => match st.ev fo with
      | .dv (.fn f caps) => callA tb f (argsE st c.args.toList ++ caps.map DV.toAV) st o.dst K
      | .cl f b ls => match mmk f tb.MM with
        | some (C, ρ0, φ) => callR C ρ0 φ (clA b ls (c.args.toList.map st.ev)) st o.dst K
        | none => callA tb f (AV.erAll (clA b ls (c.args.toList.map st.ev))) st o.dst K
      | x => match fnOf x with
        | some f => match exk f tb.EX with
         | some g => match g (c.args.toList.map st.ev) st.m with
           | some (cc, r) => cc ∧ K (st.put o.dst r)
           | none => False
         | none => match mmk f tb.MM with
          | some (C, ρ0, φ) => callR C ρ0 φ (c.args.toList.map st.ev) st o.dst K
          | none => callA tb f (argsE st c.args.toList) st o.dst K
        | none => False
    | .invoke xo name => match ifcOf (st.ev xo) with
      | some (t, y) => match mk t tb.M with
        | some (s, f) => s = name ∧ callA tb f (y :: argsE st c.args.toList) st o.dst K
        | none => False
      | none => False
    | _ => match dop tb.T tb.gl o.op st.ev (fun k => lkm k st.m) with
      | some (c, r) => c ∧ K (st.put o.dst r)
      | none => False
  | .binOp op t x (.const (.slice none 0 0)) _ => match nilS (st.ev x), elt tb.T t with
    | some q, some _ => (nilR op true).isSome = true ∧ ∀ b r, q b → nilR op b = some r → K (st.put o.dst (.v (.bool r)))
    | _, _ => False
  | .typeAssert x _ t true => match ifcOf (st.ev x), tyk t tb.T with
    | some (d, y), some i => i.np = true ∧ K (st.put o.dst (asrt d t y))
    | _, _ => False
  | .build t parts => match isEmpB tb.T t parts.toList with
    | true => K (st.put o.dst (.agg []))
    | false => match dop tb.T tb.gl o.op st.ev (fun k => lkm k st.m) with
      | some (c, r) => c ∧ K (st.put o.dst r)
      | none => False
  | .makeMap _ none => match o.dst with
    | some d => K (St.put { (st.stripL (mpB d)) with m := (mpB d, [.mb []]) :: (st.stripL (mpB d)).m } (some d) (.mr (mpB d)))
    | none => False
  | .mapUpdate t x ix y => match o.dst, mpT tb.T t, mapOf st (st.ev x), keyAV (st.ev ix) with
    | none, some (kd, _), some (d, tb'), some k => match valV (st.ev y) with
      | some v => (mbK kd tb' = true ∧ isKey kd k = true) ∧ K { st with m := repm d [.mb (mput kd k v tb')] st.m }
      | none => False
    | _, _, _, _ => False
  | .range t x => match o.dst, mpT tb.T t, mapOf st (st.ev x) with
    | some s, some _, some (d, tb') => K (St.put { (st.stripL (itB s)) with m := (itB s, AV.stripLAll (itB s) [.mr d, .mb (sn []), .v (.int .i64 tb'.length)]) :: (st.stripL (itB s)).m } (some s) (.mr (itB s)))
    | _, _, _ => False
  | .next x false => match itOf st (st.ev x) with
    | some (i, d, l, tb') => (∃ kd, mbOk kd tb' = true) ∧ ((∀ j, j < tb'.length → j ∈ l) → K (st.put o.dst (.tup [.v (.bool false)]))) ∧
        ∀ j p, tb'[j]? = some p → j ∉ l → K (St.put { st with m := repm i [.mr d, .mb (sn (l ++ [j])), .v (.int .i64 tb'.length)] st.m } o.dst (.tup [.v (.bool true), keyA p.1, .v p.2]))
    | none => False
  | .entry x => match itOf st (st.ev x) with
    | some (_, _, l, tb') => match lastE l tb' with
      | some p => (∃ kd, mbOk kd tb' = true) ∧ K (st.put o.dst (.tup [keyA p.1, .v p.2]))
      | none => False
    | none => False
  | _ => match dop tb.T tb.gl o.op st.ev (fun k => lkm k st.m) with
    | some (c, r) => c ∧ K (st.put o.dst r)
    | none => False

theorem arr2 {α:Type} {a:Array α} {x y:α} (h:a.toList=[x,y]):a = #[x,y]:=by
 apply Array.ext';simpa using h
theorem stp_ok {E:En} {tb:Tb} (hE:TbOk E tb) {o:Oper} {st:St} {a:Act} {w:World} (h:R E st a w) {K:St→Prop} (hs:stp tb o st K) {next:Act→World→Prop} {Q:Exit→Act→World→Prop} (hn:∀ st' a' w',R E st' a' w'→K st'→next a' w'):o.wp E.P a w next Q:=by
 have hdop:(match dop tb.T tb.gl o.op st.ev (fun k=>lkm k st.m) with | some (c,r)=>c∧K (st.put o.dst r) | none=>False)→o.wp E.P a w next Q:=by
  intro hs
  split at hs
  ·rename_i c r hd
   exact (dop_ok h hE.T (hgl_of hE h) hd hs.1).wp fun a' w' h'=>hn _ _ _ h' hs.2
  ·exact hs.elim
 unfold stp at hs
 split at hs
 case h_1 t ho =>
  split at hs
  ·rename_i d i hd hi
   exact (op_alloc h d hs.1 hd t ho (hE.T.get hi)).wp fun a' w' h'=>hn _ _ _ h' hs.2
  ·exact hs.elim
 case h_2 t x ho =>
  split at hs
  ·rename_i d ls hd hl
   exact (op_box h d hs.1 hd t x ho hl).wp fun a' w' h'=>hn _ _ _ h' hs.2
  ·exact hs.elim
 case h_3 t x y ho =>
  split at hs
  ·rename_i d off i xs hd hx hi hy
   split at hs
   ·rename_i ls hl
    obtain ⟨⟨h1,h2,h3⟩,hk⟩:=hs
    obtain ⟨w',r1,r2⟩:=op_store h t x y ho hd (hE.T.get hi) hx hl hy h1 h2 (allLeaf_ok h3)
    unfold Oper.wp
    rw [r1]
    exact hn _ _ _ r2 hk
   ·exact hs.elim
  ·exact hs.elim
 case h_4 t n parts ho =>
  split at hs
  ·rename_i d e ie ps hd he hp
   split at hs
   ·rename_i rs hrs
    split at hs
    ·rw [partsE_eq] at hp
     obtain ⟨i,h1,h2,h3⟩:=elt_ok hE.T he
     exact (op_buildSlice_xs h d hs.1.2.2 hd t n parts ho h1 h2 h3 hs.1.1 hs.1.2.1 hp hrs).wp fun a' w' h'=>hn _ _ _ h' hs.2
    split at hs
    ·rename_i ys hys
     rw [partsE_eq] at hp
     obtain ⟨i,h1,h2,h3⟩:=elt_ok hE.T he
     exact (op_buildSlice h d hd t n parts ho h1 h2 h3 hs.1.1 hs.1.2 hp hrs hys).wp fun a' w' h'=>hn _ _ _ h' hs.2
    ·exact hs.elim
   ·exact hs.elim
  ·exact hs.elim
 case h_5 t x ho =>
  split at hs
  ·rename_i d off hx
   split at hs
   ·rename_i ls i hl hi
    split at hs
    ·rename_i ys hys
     exact (op_makeIfaceBox h (frzOk_ok hE hl hs.1.1) t x ho (hE.T.get hi) hs.1.2 hx hl hys).wp fun a' w' h'=>hn _ _ _ h' hs.2
    ·exact hs.elim
   ·exact hs.elim
  ·exact hdop hs
 case h_6 f first caps ho =>
  split at hs
  ·split at hs
   ·rename_i x l hf hc
    obtain rfl:caps = #[]:=by apply Array.ext';simpa using hc
    rw [evA_eq,← hf] at hs
    exact (op_makeCl h f true first ho).wp fun a' w' h'=>hn _ _ _ h' hs
   ·rename_i hf
    obtain rfl:first = #[]:=by apply Array.ext';simpa using hf
    rw [evA_eq] at hs
    exact (op_makeCl h f false caps ho).wp fun a' w' h'=>hn _ _ _ h' hs
   ·exact hs.elim
  split at hs
  ·rename_i st' h1 h2
   split at hs
   ·rename_i r hr
    have hf:first = #[]:=by apply Array.ext';simpa using h1
    subst hf
    exact (op_makeFunc (frzC_ok (hE.nl hs.1) _ _ _ h h2) f caps ho hr).wp fun a' w' h'=>hn _ _ _ h' hs.2
   ·exact hs.elim
  ·exact hs.elim
 case h_7 t x y ho =>
  split at hs
  ·rename_i d e ie kn n km m hd he hx hy
   obtain ⟨i,h1,h2,h3⟩:=elt_ok hE.T he
   split at hs
   ·exact (op_makeSlice_xs h d hs.1.2.2 hd t x y ho h1 h2 h3 hx hy hs.1.1.1 hs.1.1.2 hs.1.2.1).wp fun a' w' h'=>hn _ _ _ h' hs.2
   exact (op_makeSlice h d hd t x y ho h1 h2 h3 hx hy hs.1.1.1 hs.1.1.2 hs.1.2.1 hs.1.2.2).wp fun a' w' h'=>by
    rw [hd] at *
    exact hn _ _ _ h' hs.2
  ·exact hs.elim
 case h_8 c ho =>
  split at hs
  ·rename_i hc
   split at hs
   ·rename_i x y t t' hx ht
    split at hs
    ·rename_i kk off n cap sz hxs0
     have hxs:=xsOf_ok hxs0
     split at hs
     ·rename_i d e ie ls hd he hl
      obtain ⟨callee,args,ats⟩:=c
      simp only at hc hx ht
      subst hc
      have e1:=arr2 hx
      have e2:=arr2 ht
      subst e1;subst e2
      obtain ⟨i,i1,i2,i3⟩:=elt_ok hE.T he
      split at hs
      ·rename_i kd z hyz
       split at hs
       ·rename_i it hit
        obtain ⟨⟨⟨q1,q2,q3⟩,q4,q5,q6,q7,q8⟩,hk⟩:=hs
        obtain ⟨ik,hik⟩:=Option.isSome_iff_exists.1 q2
        exact op_append_zero_xs h d q3 hd t t' x y ho i1 i2 i3 (hE.T.get hit) hik hxs hyz q1 q4 q5 q6 q7 hl q8 fun cap' hcap a' w' h'=>hn _ _ _ h' (hk cap' hcap)
       ·exact hs.elim
      ·split at hs
       ·rename_i c1 m srcA hsrc
        obtain ⟨⟨⟨rfl,q3⟩,q0,q4,q6,q7,q8⟩,hk1,hk2⟩:=hs
        exact op_append_xs h d q3 hd t x y ho i1 i2 i3 hxs (srcL_ok hsrc q0) (allLeaf_ok q8) q4 q6 hl q7 (fun hr a' w' h'=>hn _ _ _ h' (hk1 hr)) (fun hr cap' hcap a' w' h'=>hn _ _ _ h' (hk2 hr cap' hcap))
       ·exact hs.elim
     ·exact hs.elim
    split at hs
    ·rename_i hnx
     split at hs
     ·rename_i d e ie hd he
      split at hs
      ·rename_i kd z hyz
       split at hs
       ·rename_i it hit
        obtain ⟨⟨⟨q1,q2,q3⟩,q4,q5⟩,hk⟩:=hs
        obtain ⟨ik,hik⟩:=Option.isSome_iff_exists.1 q2
        obtain ⟨callee,args,ats⟩:=c
        simp only at hc hx ht
        subst hc
        obtain rfl:=arr2 hx
        obtain rfl:=arr2 ht
        obtain ⟨i,i1,i2,i3⟩:=elt_ok hE.T he
        exact op_append_zero_nl h d q3 hd t t' x y ho i1 i2 i3 (hE.T.get hit) hik (isNlX_ok hnx) hyz q1 rfl q4 q5 fun cap' hcap a' w' h'=>hn _ _ _ h' (hk cap' hcap)
       ·exact hs.elim
      split at hs
      ·rename_i c1 m srcA hsrc
       obtain ⟨⟨⟨rfl,q3⟩,q0,q4,q6,q8⟩,hk⟩:=hs
       obtain ⟨callee,args,ats⟩:=c
       simp only at hc hx ht
       subst hc
       obtain rfl:=arr2 hx
       obtain rfl:=arr2 ht
       obtain ⟨i,i1,i2,i3⟩:=elt_ok hE.T he
       exact op_append_nl h d q3 hd t x y ho i1 i2 i3 (isNlX_ok hnx) (srcL_ok hsrc q0) (allLeaf_ok q8) rfl q4 q6 fun cap' hcap a' w' h'=>hn _ _ _ h' (hk cap' hcap)
      ·exact hs.elim
     ·exact hs.elim
    split at hs
    ·rename_i d e ie hd he
     split at hs
     ·rename_i s els ys hown hys
      obtain ⟨⟨rfl,h1,h2⟩,hk⟩:=hs
      obtain ⟨callee,args,ats⟩:=c
      simp only at hc hx ht
      subst hc
      have e1:=arr2 hx
      have e2:=arr2 ht
      subst e1;subst e2
      obtain ⟨i,i1,i2,i3⟩:=elt_ok hE.T he
      have key:(st.ev x = .nl∧els=[]∧s=d)∨∃ j,st.ev x = .sl (some (s,j,e)) els:=by
       unfold ownOf at hown
       split at hown
       ·rename_i hx'
        obtain ⟨rfl,rfl⟩:=Prod.mk.inj (Option.some.inj hown)
        exact .inl ⟨hx',rfl,rfl⟩
       ·rename_i s' j e' els' hx'
        split at hown
        ·rename_i hee
         subst hee
         obtain ⟨rfl,rfl⟩:=Prod.mk.inj (Option.some.inj hown)
         exact .inr ⟨j,hx'⟩
        ·cases hown
       ·cases hown
      exact (op_append h d hd t x y ho i1 i2 i3 key hys h1 h2).wp fun a' w' h'=>hn _ _ _ h' hk
     ·exact hs.elim
    ·exact hs.elim
   ·exact hs.elim
  ·rename_i hc
   split at hs
   ·rename_i x y t t' hx ht
    split at hs
    ·rename_i kk off n cap sz e ie hxs he
     split at hs
     ·rename_i ls hl
      split at hs
      ·rename_i c1 m srcA hsrc
       obtain ⟨callee,args,ats⟩:=c
       simp only at hc hx ht
       subst hc
       have e1:=arr2 hx
       have e2:=arr2 ht
       subst e1;subst e2
       obtain ⟨i,i1,i2,i3⟩:=elt_ok hE.T he
       obtain ⟨⟨q1,q2,q3,q4⟩,hk⟩:=hs
       refine (op_copy_xs h t t' x y ho i1 i2 i3 hxs q2 hl (m:=m) (srcA:=srcA) ?_ q3 (allLeaf_ok q4)).wp fun a' w' h'=>hn _ _ _ h' hk
       unfold srcL at hsrc
       split at hsrc
       ·rename_i k2 off2 n2 cap2 sz2 hy
        split at hsrc
        ·rename_i ls2 hl2
         simp only [Option.some.injEq,Prod.mk.injEq] at hsrc
         obtain ⟨rfl,rfl,rfl⟩:=hsrc
         obtain ⟨rfl,q5⟩:=q1
         exact .inr ⟨k2,off2,cap2,ls2,hy,hl2,rfl,q5⟩
        ·cases hsrc
       ·split at hsrc
        ·rename_i ys hys
         simp only [Option.some.injEq,Prod.mk.injEq] at hsrc
         obtain ⟨rfl,rfl,rfl⟩:=hsrc
         exact .inl ⟨ys,hys,q1,rfl,rfl⟩
        ·cases hsrc
      ·exact hs.elim
     ·exact hs.elim
    ·exact hs.elim
   ·exact hs.elim
  ·rename_i hc
   split at hs
   ·rename_i x t hx ht
    split at hs
    ·rename_i kk off n cap sz e ie hxs he
     split at hs
     ·rename_i ls hl
      obtain ⟨callee,args,ats⟩:=c
      simp only at hc hx ht
      subst hc
      have e1:=arr1 hx
      have e2:=arr1 ht
      subst e1;subst e2
      obtain ⟨i,i1,i2,i3⟩:=elt_ok hE.T he
      exact (op_clear_xs h t x ho i1 i2 i3 hxs hs.1.1 hl hs.1.2.1 hs.1.2.2).wp fun a' w' h'=>hn _ _ _ h' hs.2
     ·exact hs.elim
    ·exact hs.elim
   ·exact hs.elim
  ·rename_i fo hc
   obtain ⟨callee,args,ats⟩:=c
   simp only at hc hs
   subst hc
   rw [argsE_eq] at hs
   split at hs
   ·rename_i f caps hf
    obtain ⟨C,k1,k2,k3,k4,k5,k6,k7⟩:=callA_ok hE hs
    exact op_callFn h f caps fo args ats ho hf k1 k2 k3 k4 k5 k6 fun r hr a' w' h'=>hn _ _ _ h' (k7 r hr)
   ·rename_i f b ls hf
    split at hs
    ·rename_i C ρ φ hmm
     obtain ⟨⟨q1,q2⟩,_,q4⟩:=hE.MM _ (mmk_mem hmm)
     obtain ⟨q3,hs⟩:=hs
     obtain ⟨vs,e1,e2,e3⟩:=op_enterCl h f b ls fo args ats ho hf q1
     generalize rhoC ρ st.m (clA b ls (List.map st.ev args.toList))=ρ at *
     generalize shf (dN o.dst) φ=φ at *
     unfold callM at hs
     split at hs
     ·rename_i m1 hm1
      exact op_callMG h f vs e1 _ e2 e3 q2 q4 q3.names.1 q3.names.2 hm1 hs.1 fun r m2 hr a' w' h'=>hn _ _ _ h' (hs.2 r m2 hr)
     ·exact hs.elim
    ·obtain ⟨C,k1,k2,k3,k4,k5,k6,k7⟩:=callA_ok hE hs
     obtain ⟨vs,e1,e2,e3⟩:=op_enterCl h f b ls fo args ats ho hf k1
     rw [erAll_eq] at k5 k7
     refine op_callG h f vs e1 ((clA b ls (args.toList.map st.ev)).map AV.er) (by simpa using e2) (fun c _ hx j x hj=>?_) (fun x hx=>?_) k2 k3 k4 k5 k6 fun r hr a' w' h'=>hn _ _ _ h' (k7 r hr)
     ·rw [List.getElem?_map,Option.map_eq_some_iff] at hj
      obtain ⟨y,hy,rfl⟩:=hj
      exact (e3 c hx j y hy).er (Keeps.same (fun _ _ h=>h) fun _ _ _=>rfl) rfl
     ·obtain ⟨y,_,rfl⟩:=List.mem_map.1 hx
      exact er_er _
   ·split at hs
    ·rename_i f hf
     split at hs
     ·rename_i g hg
      split at hs
      ·rename_i cc r hgr
       exact (op_callX h f fo args ats ho (fnOf_ok hf) (hE.EX _ (exk_mem hg)) hgr hs.1).wp fun a' w' h'=>hn _ _ _ h' hs.2
      ·exact hs.elim
     split at hs
     ·rename_i C ρ φ hmm
      obtain ⟨⟨q1,q2⟩,_,q4⟩:=hE.MM _ (mmk_mem hmm)
      obtain ⟨q3,hs⟩:=hs
      generalize rhoC ρ st.m (List.map st.ev args.toList)=ρ at *
      generalize shf (dN o.dst) φ=φ at *
      rw [List.map_map] at hs
      unfold callM at hs
      split at hs
      ·rename_i m1 hm1
       exact op_callM h f fo args ats ho (fnOf_ok hf) q1 q2 q4 q3.names.1 q3.names.2 hm1 hs.1 fun r m2 hr a' w' h'=>hn _ _ _ h' (hs.2 r m2 hr)
      ·exact hs.elim
     obtain ⟨C,k1,k2,k3,k4,k5,k6,k7⟩:=callA_ok hE hs
     exact op_call h f fo args ats ho (fnOf_ok hf) k1 k2 k3 k4 k5 k6 fun r hr a' w' h'=>hn _ _ _ h' (k7 r hr)
    ·exact hs.elim
  ·rename_i xo name hc
   obtain ⟨callee,args,ats⟩:=c
   simp only at hc hs
   subst hc
   rw [argsE_eq] at hs
   split at hs
   ·rename_i t y hf
    split at hs
    ·rename_i s f hm
     obtain ⟨rfl,hs⟩:=hs
     obtain ⟨C,k1,k2,k3,k4,k5,k6,k7⟩:=callA_ok hE hs
     exact op_invoke h f t y xo _ args ats ho hf (hE.M _ (mk_mem hm)) k1 k2 k3 k4 k5 k6 fun r hr a' w' h'=>hn _ _ _ h' (k7 r hr)
    ·exact hs.elim
   ·exact hs.elim
  ·exact hdop hs
 case h_9 op t x t' ho =>
  split at hs
  ·rename_i q ei hq he
   obtain ⟨e,ie⟩:=ei
   obtain ⟨i,h1,h2,h3⟩:=elt_ok hE.T he
   obtain ⟨b,r,hb,hr,hy⟩:=op_slnil h op t t' e x ho (h1.el e h2) hq hs.1
   exact hy.wp fun a' w' h'=>hn _ _ _ h' (hs.2 b r hb hr)
  ·exact hs.elim
 case h_10 x xt t ho =>
  split at hs
  ·rename_i d y i hx hi
   exact (op_assert h x xt t ho (hE.T.get hi) hs.1 hx).wp fun a' w' h'=>hn _ _ _ h' hs.2
  ·exact hs.elim
 case h_11 t parts ho =>
  split at hs
  ·rename_i hb
   unfold isEmpB at hb
   split at hb
   ·rename_i hp
    split at hb
    ·rename_i i hi
     exact (op_build0 h t parts hp ho (hE.T.get hi) hb).wp fun a' w' h'=>hn _ _ _ h' hs
    ·cases hb
   ·cases hb
  ·exact hdop hs
 case h_12 t ho =>
  split at hs
  ·rename_i d hd
   exact (op_makeMap h d hd t ho).wp fun a' w' h'=>hn _ _ _ h' hs
  ·exact hs.elim
 case h_13 t x ix y ho =>
  split at hs
  ·rename_i kd z d tb' k hd hi hx hk
   obtain ⟨hx,hl⟩:=mapOf_ok hx
   split at hs
   ·rename_i v hy
    obtain ⟨w',r1,r2⟩:=op_mapUpdate h t x ix y ho hd (mpT_ok hE.T hi) hx hl hs.1.1 hk hs.1.2 hy
    unfold Oper.wp
    rw [r1]
    exact hn _ _ _ r2 hs.2
   ·exact hs.elim
  ·exact hs.elim
 case h_14 t x ho =>
  split at hs
  ·rename_i s q d tb' hd hi hx
   obtain ⟨kd,z⟩:=q
   obtain ⟨hx,hl⟩:=mapOf_ok hx
   exact (op_range h s hd t x ho (mpT_ok hE.T hi) hx hl).wp fun a' w' h'=>hn _ _ _ h' hs
  ·exact hs.elim
 case h_15 x ho =>
  split at hs
  ·rename_i i d l tb' hx
   obtain ⟨hx,h1,h2,h3,h4⟩:=itOf_ok hx
   obtain ⟨⟨kd,hk⟩,k1,k2⟩:=hs
   obtain ⟨v,w',r1,r2⟩:=op_next h x ho hx h1 h3 h2 h4 hk
   rcases r2 with ⟨r2,r3⟩ | ⟨j,p,r2,r3,r4⟩
   ·exact Yields.wp ⟨v,w',r1,r3⟩ fun a' w' h'=>hn _ _ _ h' (k1 r2)
   ·exact Yields.wp ⟨v,w',r1,r4⟩ fun a' w' h'=>hn _ _ _ h' (k2 j p r2 r3)
  ·exact hs.elim
 case h_16 x ho =>
  split at hs
  ·rename_i i d l tb' hit
   split at hs
   ·rename_i p hp
    obtain ⟨⟨kd,hks⟩,hk⟩:=hs
    obtain ⟨hx,hib,hdb,hl,hm⟩:=itOf_ok hit
    obtain ⟨l',j,rfl,hj⟩:=lastE_ok hp
    exact (op_entry h x ho hx hib hl hdb hm hks hj).wp fun a' w' h'=>hn _ _ _ h' hk
   ·exact hs.elim
  ·exact hs.elim
 case h_17=>exact hdop hs
def St.know (st:St) (d:Nat) (v:Bool):St:={ st with σ:=(d,.v (.bool v))::st.σ }
def gs (b:Bool) (X Y:Prop):Prop:=(b=true→X)∧(b=false→Y)
theorem gs_true (X Y:Prop):gs true X Y=X:=by simp [gs]
theorem gs_false (X Y:Prop):gs false X Y=Y:=by simp [gs]
theorem gs_any (b:Bool) (X Y:Prop):gs b X Y=((b=true→X)∧(b=false→Y)):=rfl
def stpG (tb:Tb) (ops:List Oper) (o:Oper) (st:St) (K:St→Prop):Prop :=
 match o.guard with
 | none=>stp tb o st K
 | some (j,want)=>match ops[j]? with
  | some g=>match g.dst with
   | some d=>match lk d st.σ with
    | .v (.bool b)=>d < st.nt∧gs b (match want with | true=>stp tb o (st.know d true) K | false=>K ((st.know d true).put o.dst (.tup [])))
      (match want with | true=>K ((st.know d false).put o.dst (.tup [])) | false=>stp tb o (st.know d false) K)
    | .tup []=>K (st.put o.dst (.tup []))
    | _=>False
   | none=>False
  | none=>False
theorem lk_know {st:St} {d:Nat} {v:Bool} (h:lk d st.σ = .v (.bool v)) (x:Nat):lk x (st.know d v).σ=lk x st.σ:=by
 simp only [St.know,lk]
 split
 ·rename_i e;rw [e,h]
 ·rfl
theorem R.know {E:En} {st:St} {a:Act} {w:World} (h:R E st a w) {d:Nat} {v:Bool} (hv:lk d st.σ = .v (.bool v)):R E (st.know d v) a w:=by
 obtain ⟨c,h1,h2,h3,h4,h5⟩:=h
 exact ⟨c,h1,h2,fun x=>by rw [lk_know hv];exact h3 x,h4,h5⟩
theorem R.skipped {E:En} {st:St} {a:Act} {w:World} (h:R E st a w) (dst:Option Nat):R E (st.put dst (.tup [])) (a.put dst Go.undef) w:=by
 obtain ⟨c,h1,h2,h3,h4,h5⟩:=h
 exact R.put h1 h2 h3 h4 h5 (.tup [] #[] rfl (fun j x hx=>by simp at hx))
theorem stpG_ok {E:En} {tb:Tb} (hE:TbOk E tb) {ops:List Oper} {o:Oper} {st:St} {a:Act} {w:World} (h:R E st a w) {K:St→Prop} (hs:stpG tb ops o st K) {next:Act→World→Prop} {Q:Exit→Act→World→Prop} (hn:∀ st' a' w',R E st' a' w'→K st'→next a' w') :
  if Region.wanted o (yielded ops.toArray a.tmps) then o.wp E.P a w next Q else next (a.put o.dst undef) w:=by
 unfold stpG at hs
 split at hs
 ·rename_i hg
  rw [if_pos (by simp [Region.wanted,hg])]
  exact stp_ok hE h hs hn
 ·rename_i j want hg
  split at hs
  ·rename_i g hgj
   split at hs
   ·rename_i d hd
    have hy:∀ v,a.tmps[d]? = some v→yielded ops.toArray a.tmps j=(match v with | .bool b=>some b | _=>none):=fun v hv=>by
     unfold yielded
     simp only [List.getElem?_toArray,hgj,Option.bind_some,hd,hv]
     cases v<;>rfl
    split at hs
    ·rename_i b hlk
     obtain ⟨hlt,h0⟩:=hs
     have h1:b=want→stp tb o (st.know d want) K:=fun e=>by subst e;cases b<;>simpa [gs] using h0
     have h2:b = !want→K ((st.know d (!want)).put o.dst (.tup [])):=fun e=>by subst e;cases want<;>simpa [gs] using h0
     have hv:a.tmps[d]? = some (.bool b):=by
      obtain ⟨c,_,_,h3,h4,_⟩:=h
      have:=h3 d
      rw [hlk] at this
      have hlt':d < a.tmps.size:=by rw [h4];exact hlt
      rw [Array.getD_eq_getD_getElem?,Array.getElem?_eq_getElem hlt'] at this
      rw [Array.getElem?_eq_getElem hlt']
      simp only [Option.getD_some] at this
      generalize a.tmps[d]=u at this
      cases this;rfl
     have hyd:=hy _ hv
     simp only at hyd
     by_cases hb:b=want
     ·subst hb
      rw [if_pos (by simp [Region.wanted,hg,hyd])]
      exact stp_ok hE (h.know hlk) (h1 rfl) hn
     ·have hb':b = !want:=by cases b<;>cases want<;>simp_all
      rw [if_neg (by simp [Region.wanted,hg,hyd,hb])]
      exact hn _ _ _ ((h.know (by rw [hlk,hb'])).skipped o.dst) (h2 hb')
    ·rename_i hlk
     have hyd:yielded ops.toArray a.tmps j=none:=by
      cases hv:a.tmps[d]? with
      | none =>
       unfold yielded
       simp only [List.getElem?_toArray,hgj,Option.bind_some,hd,hv]
      | some v =>
       rw [hy v hv]
       obtain ⟨c,_,_,h3,h4,_⟩:=h
       have:=h3 d
       rw [hlk,Array.getD_eq_getD_getElem?,hv] at this
       simp only [Option.getD_some] at this
       cases this with
       | tup ls cs hn hh=>rfl
     rw [if_neg (by simp [Region.wanted,hg,hyd])]
     exact hn _ _ _ (h.skipped o.dst) hs
    ·exact hs.elim
   ·exact hs.elim
  ·exact hs.elim
def aops (tb:Tb) (ops:List Oper):List Oper→St→(St→Prop)→Prop
 | [],st,K=>K st
 | o::l,st,K=>stpG tb ops o st fun st'=>aops tb ops l st' K
theorem aops_ok {E:En} {tb:Tb} (hE:TbOk E tb) {ops:List Oper} {Q:Exit→Act→World→Prop} {K:St→Prop} (hK:∀ st a w,R E st a w→K st→Q .normal a w):∀ (l:List Oper) (st:St) (a:Act) (w:World),R E st a w→aops tb ops l st K→wpList E.P ops.toArray Q l a w
 | [],st,a,w,h,hk=>hK st a w h hk
 | o::l,st,a,w,h,hs=>by
  have:=stpG_ok hE h hs (next:=wpList E.P ops.toArray Q l) (Q:=Q) fun st' a' w' h' hk=>aops_ok hE hK l st' a' w' h' hk
  unfold wpList
  split at this
  ·rename_i hw;rw [if_pos hw];exact .inl this
  ·rename_i hw;rw [if_neg hw];exact this
def Aw (E:En) (c:Code) (st:St) (Q:Exit→St→Prop):Prop :=
 ∀ a w,R E st a w→c.wp E.P (fun e a' w'=>∃ st',R E st' a' w'∧Q e st') a w
def thenA (next:St→Prop) (Q:Exit→St→Prop):Exit→St→Prop
 | .normal,st=>next st
 | e,st=>Q e st
def blockA (id:Nat) (Q:Exit→St→Prop):Exit→St→Prop
 | .exit k,st=>if k=id then Q .normal st else Q (.exit k) st
 | e,st=>Q e st
def kpm:List Nat→List (Nat × List AV)→List (Nat × List AV)
 | [],_=>[]
 | d::l,m=>match lkm d m with
  | some ls=>(d,ls)::kpm l m
  | none=>kpm l m
def kps:List Nat→List (Nat × AV)→List (Nat × AV)
 | [],_=>[]
 | d::l,m=>(d,lk d m)::kps l m
def St.keep (st:St) (L Lm:List Nat):St:={ st with σ:=kps L st.σ,m:=kpm Lm st.m }
theorem lk_kps (x:Nat) (σ:List (Nat × AV)):∀ L:List Nat,lk x (kps L σ)=if x ∈ L then lk x σ else .junk
 | []=>by simp [kps,lk]
 | d::l=>by
  simp only [kps,lk]
  by_cases h:x=d
  ·subst h;simp
  ·rw [if_neg h,lk_kps x σ l];simp [h]
theorem lkm_kpm (x:Nat) (m:List (Nat × List AV)):∀ L:List Nat,∀ ls,lkm x (kpm L m)=some ls→lkm x m=some ls
 | [],ls,h=>by simp [kpm,lkm] at h
 | d::l,ls,h=>by
  simp only [kpm] at h
  split at h
  ·rename_i ls' hd
   simp only [lkm] at h
   split at h
   ·rename_i e;subst e;rw [hd];exact h
   ·exact lkm_kpm x m l ls h
  ·exact lkm_kpm x m l ls h
theorem R.keep {E : En} {st : St} {a : Act} {w : World} (h : R E st a w) (L Lm : List Nat) : R E (st.keep L Lm) a w := by
  obtain ⟨c, h1, G, h3, h4, h5⟩ := h
  refine ⟨c, h1, ?_, fun x => ?_, h4, h5⟩
  · exact { bl := G.bl, cg := G.cg, fr := G.fr, lx := G.lx, sx := G.sx, s1 := G.s1, sS := G.sS, sg := G.sg, box := fun d ls hl => G.box d ls (lkm_kpm d _ Lm ls hl), boxinj := fun d d' l l' e1 e2 => G.boxinj d d' l l' (lkm_kpm d _ Lm l e1) (lkm_kpm d' _ Lm l' e2),
            tok := G.tok, toktok := G.toktok, tokbox := fun d j b k ls e1 e2 => G.tokbox d j b k ls e1 (lkm_kpm k _ Lm ls e2), rk := G.rk }
  · simp only [St.keep, lk_kps]
    split
    · exact h3 x
    · exact .junk _

theorem Aw.mono {E:En} {c:Code} {st:St} {Q Q':Exit→St→Prop} (h:Aw E c st Q) (hq:∀ e st',Q e st'→Q' e st'):Aw E c st Q' :=
 fun a w hr=>Go.wp_mono (h a w hr) fun e _ _ ⟨st',h1,h2⟩=>⟨st',h1,hq e st' h2⟩
theorem Aw_text {E:En} {tb:Tb} (hE:TbOk E tb) {id:Nat} {l:List Oper} {st:St} {Q:Exit→St→Prop} (L Lm:List Nat) (h:aops tb l l st fun st'=>Q .normal (st'.keep L Lm)):Aw E (.region id l.toArray false) st Q:=by
 intro a w hr
 refine wp_region_lit (aops_ok hE (K:=fun st'=>Q .normal (st'.keep L Lm)) (fun st' _ _ h' hk=>⟨_,h'.keep L Lm,hk⟩) l st a w hr h)
theorem Aw_seq {E:En} {x y:Code} {st:St} {Q:Exit→St→Prop} (h:Aw E x st (thenA (fun st'=>Aw E y st' Q) Q)):Aw E (.seq x y) st Q:=by
 intro a w hr
 refine wp_seq (Go.wp_mono (h a w hr) fun e a' w' ⟨st',h1,h2⟩=>?_)
 cases e with
 | normal=>exact h2 a' w' h1
 | _=>exact ⟨st',h1,h2⟩
theorem Aw_cond {E:En} {c:Operand} {x y:Code} {st:St} {Q:Exit→St→Prop} {b:Bool} (hc:st.ev c = .v (.bool b)) (hx:b=true→Aw E x st Q) (hy:b=false→Aw E y st Q):Aw E (.cond c x y) st Q:=by
 intro a w hr
 have hv:a.eval c = .bool b:=by
  obtain ⟨_,_,_,_,_,_,h6⟩:=hr.get c
  rw [hc] at h6;generalize a.eval c=u at h6;cases h6;rfl
 exact wp_cond_split hv (fun e=>hx e a w hr) (fun e=>hy e a w hr)
theorem Aw_skip {E:En} {st:St} {Q:Exit→St→Prop} (h:Q .normal st):Aw E .skip st Q:=fun _ _ hr=>wp_skip ⟨st,hr,h⟩
theorem Aw_ret {E:En} {st:St} {Q:Exit→St→Prop} (h:Q .ret st):Aw E .ret st Q:=fun _ _ hr=>wp_ret ⟨st,hr,h⟩
theorem Aw_exit {E:En} {id:Nat} {st:St} {Q:Exit→St→Prop} (h:Q (.exit id) st):Aw E (.exit id) st Q:=fun _ _ hr=>wp_exit ⟨st,hr,h⟩
theorem Aw_block {E:En} {id:Nat} {c:Code} {st:St} {Q:Exit→St→Prop} (h:Aw E c st (blockA id Q)):Aw E (.block id c) st Q:=by
 intro a w hr
 refine wp_block (Go.wp_mono (h a w hr) fun e a' w' ⟨st',h1,h2⟩=>?_)
 cases e with
 | exit k =>
  simp only [blockA] at h2
  simp only [Exit.inBlock]
  split at h2
  ·rename_i e;rw [if_pos (by simpa using e)];exact ⟨st',h1,h2⟩
  ·rename_i e;rw [if_neg (by simpa using e)];exact ⟨st',h1,h2⟩
 | _=>exact ⟨st',h1,h2⟩
def Le (st st':St):Prop:=∀ E a w,R E st a w→R E st' a w
theorem Le.refl (st:St):Le st st:=fun _ _ _ h=>h
theorem Le.trans {a b c:St} (h:Le a b) (k:Le b c):Le a c:=fun E x w r=>k E x w (h E x w r)
theorem Aw.le {E:En} {c:Code} {st st':St} {Q:Exit→St→Prop} (hl:Le st st') (h:Aw E c st' Q):Aw E c st Q:=fun a w hr=>h a w (hl E a w hr)
theorem Aw_loop {E:En} {c:Code} {st:St} {Q:Exit→St→Prop} {ι:Type} (F:ι→St) (p:ι→Prop) (μ:ι→Nat) (i0:ι) (h0:Le st (F i0)) (hp:p i0)
  (hs:∀ i,p i→Aw E c (F i) (thenA (fun st'=>∃ j,p j∧μ j < μ i∧Le st' (F j)) Q)):Aw E (.loop c) st Q:=by
 intro a w hr
 refine wp_loop_ghost (fun n a w=>∃ i,p i∧μ i=n∧R E (F i) a w) (μ i0) ⟨i0,hp,rfl,h0 E a w hr⟩ ?_
 intro n a w ⟨i,hi,hμ,hri⟩
 refine Go.wp_mono (hs i hi a w hri) fun e a' w' ⟨st',h1,h2⟩=>?_
 cases e with
 | normal =>
  obtain ⟨j,hj,hlt,hle⟩:=h2
  exact ⟨μ j,by omega,j,hj,rfl,hle E a' w' h1⟩
 | _=>exact ⟨st',h1,h2⟩
end Go.Eng
end
